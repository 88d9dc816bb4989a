/- Several texts in one: G88 G66 G50 G51 G30 G46 G47 G87 G65 G68 G89 -/
import Derived.WalkKit
import Derived.Maps.AppendAt
import Derived.Deep.AppendLies
import Derived.KernelRfl
import Derived.Laws.OwnMore
import Derived.Great.BuildSlice
import Derived.Orders
import Derived.Laws.StructEq
import Derived.ChangeKeysEq
import Derived.Defers
import Derived.Laws.BytesString
import Derived.RangeFuncNested
import Derived.RangeFuncBound
import Derived.RangeFuncCalls
import Derived.RangeFuncLeaves
import Derived.OrdersIn
import Derived.LoopNIn
import Derived.Test.YtdbgkakmhlmpbaaProg
import Derived.ProofKit
import Derived.OpenShut
import Derived.ChangeOld
import Derived.Deep.Slices
import Derived.Lib.SmallJoins
import Derived.JoinedOf
import Derived.JoinedAt
import Derived.Below
import Derived.Test.YtdbgkakmhlmpbaaRows
import Derived.Test.YtdbgkakmhlmpbaaMCostSides3
namespace Go.Proofs.Ytdbgkakmhlmpbaa
open Go.RowKit
set_option linter.unusedVariables false

noncomputable def F_raddleref25_Check (p0 : api_Stitch) : Option Int :=
  Option.bind (α := Bool) (
    if p0.A == 0 then
      some (p0.B == 0)
    else
      some false) fun o3 =>
  Option.bind (α := Bool) (
    Option.bind (α := Bool) (
      if p0.Kind == 1 then
        some (p0.Kind == 1)
      else
        some (p0.Kind == 8)) fun o12 =>
    if o12 then
      some o3
    else
      if p0.Kind == 2 then
        if o3 then
          some (!p0.Purl)
        else
          some false
      else
        Option.bind (α := Bool) (
          if p0.Kind == 3 then
            some (p0.Kind == 3)
          else
            if p0.Kind == 4 then
              some (p0.Kind == 4)
            else
              some (p0.Kind == 5)) fun o21 =>
        if o21 then
          if p0.B == 0 then
            if decide (2 ≤ p0.A) then
              some (decide (p0.A ≤ 4))
            else
              some false
          else
            some false
        else
          Option.bind (α := Bool) (
            if p0.Kind == 6 then
              some (p0.Kind == 6)
            else
              some (p0.Kind == 7)) fun o31 =>
          if o31 then
            if decide (1 ≤ p0.A) then
              if decide (p0.A ≤ 6) then
                if decide (1 ≤ p0.B) then
                  some (decide (p0.B ≤ 6))
                else
                  some false
              else
                some false
            else
              some false
          else
            if p0.Kind == 9 then
              if p0.B == 0 then
                if !p0.Purl then
                  if decide (1 ≤ p0.A) then
                    some (decide (p0.A ≤ 200))
                  else
                    some false
                else
                  some false
              else
                some false
            else
              if p0.Kind == 10 then
                if p0.B == 0 then
                  if decide (1 ≤ p0.A) then
                    some (decide (p0.A ≤ 200))
                  else
                    some false
                else
                  some false
              else
                some false) fun o8 =>
  if !o8 then
    some 8
  else
    some 0
set_option maxHeartbeats 4000000 in
set_option maxRecDepth 100000 in
theorem c_raddleref25_Check (E : Nat → Prop) (w0 : World) (p0 : api_Stitch) (v0 : Value) (r : Int) (h : F_raddleref25_Check p0 = some r) (S : St0 E [] w0 w0 [] [fRep r_api_Stitch (v0) p0]) :
    Calls Try.prog 88 #[v0] w0 (Ret (X := Unit) E [] w0 (fun _ => .int .i64 r) (fun _ => []) (fun _ => [])) := by
  unfold F_raddleref25_Check at h
  obtain rfl : v0 = .agg #[.int .u8 p0.Kind, .bool p0.Purl, iv p0.A, iv p0.B] := S.know (i := 0) (e := fRep r_api_Stitch (v0) p0) rfl
  refine sEnter (args := [.agg #[.int .u8 p0.Kind, .bool p0.Purl, iv p0.A, iv p0.B]]) 102 Try.func88 rfl rfl (by simp) S (fun a S => ?_)
  refine sSeq (fun K1 hK1 => ?_)
  refine sRegion ?_
  refine sBox (v := .agg #[.int .u8 p0.Kind, .bool p0.Purl, iv p0.A, iv p0.B]) S (wN rfl) rfl rfl [.int .u8 p0.Kind, .bool p0.Purl, iv p0.A, iv p0.B] rfl rfl (lb rfl) fun a b2 w S => ?_
  refine sMove (iv 0) S (wN rfl) (.inr rfl) rfl rfl (lb rfl) fun a S => ?_
  refine leafL (leafT (hK1 _ _ ?_))
  obtain ⟨t4, h, g5⟩ := bindSome h
  refine sCut (fun a w => ∃ o3, o3 = t4 ∧ St [] E [] w0 102 a w [(1, .pointer (some ⟨b2, 0, none⟩)), (3, .bool o3)] [eBox b2 74 [.int .u8 p0.Kind, .bool p0.Purl, iv p0.A, iv p0.B]] []) ?_ (fun a w hI => ?_)
  · refine sRegion ?_
    refine sField (b := b2) (off := 0) 2 2 S (wN rfl) rfl rfl rfl rfl rfl (lb rfl) fun a S => ?_
    refine sLoad1 (p := b2) (off := 2) (T := 74) (vs := [.int .u8 p0.Kind, .bool p0.Purl, iv p0.A, iv p0.B]) 0 (iv p0.A) S (wN rfl) rfl rfl rfl rfl rfl rfl (lb rfl) fun a S => ?_
    refine sBin (.bool (p0.A == 0)) S (wN rfl) rfl rfl rfl (bEq _ _ _ _ .i64 p0.A 0) rfl (lb rfl) fun a S => ?_
    refine sMove (.bool (p0.A == 0)) S (wN rfl) (.inl rfl) rfl rfl (lb rfl) fun a S => ?_
    rcases iteSome h with ⟨hc6, h⟩ | ⟨hc6, h⟩
    rotate_left
    · refine sSkip 3 true 8 9 S rfl rfl rfl hc6 rfl (lb rfl) fun a S => ?_
      refine sSkip 3 true 8 10 S rfl rfl rfl hc6 rfl (lb rfl) fun a S => ?_
      refine sSkip 3 true 8 11 S rfl rfl rfl hc6 rfl (lb rfl) fun a S => ?_
      refine sPickF (.bool false) S (wN rfl) rfl rfl hc6 rfl rfl (lb rfl) fun a S => ?_
      refine sMove (.bool false) S (wN rfl) (.inr rfl) rfl rfl (lb rfl) fun a S => ?_
      exact leafL (leafT (⟨false, Option.some.inj h, S.fix [0] [] (by decide) rfl rfl rfl⟩))
    refine sField (b := b2) (off := 0) 3 3 S (wG 3 true 8 rfl rfl rfl hc6) rfl rfl rfl rfl rfl (lb rfl) fun a S => ?_
    refine sLoad1 (p := b2) (off := 3) (T := 74) (vs := [.int .u8 p0.Kind, .bool p0.Purl, iv p0.A, iv p0.B]) 0 (iv p0.B) S (wG 3 true 8 rfl rfl rfl hc6) rfl rfl rfl rfl rfl rfl (lb rfl) fun a S => ?_
    refine sBin (.bool (p0.B == 0)) S (wG 3 true 8 rfl rfl rfl hc6) rfl rfl rfl (bEq _ _ _ _ .i64 p0.B 0) rfl (lb rfl) fun a S => ?_
    refine sPickT (.bool (p0.B == 0)) S (wN rfl) rfl rfl hc6 rfl rfl (lb rfl) fun a S => ?_
    refine sMove (.bool (p0.B == 0)) S (wN rfl) (.inr rfl) rfl rfl (lb rfl) fun a S => ?_
    exact leafL (leafT (⟨p0.B == 0, Option.some.inj h, S.fix [0] [] (by decide) rfl rfl rfl⟩))
  obtain ⟨o3, rfl, S⟩ := hI
  have h := g5
  clear g5
  try dsimp only at h
  refine sSeq (fun K7 hK7 => ?_)
  refine sRegion ?_
  refine sMove (.bool false) S (wN rfl) (.inr rfl) rfl rfl (lb rfl) fun a S => ?_
  refine leafL (leafT (hK7 _ _ ?_))
  obtain ⟨t9, h, g10⟩ := bindSome h
  refine sCut (fun a w => ∃ o8, o8 = t9 ∧ St [] E [] w0 102 a w [(4, .bool o8)] [] []) ?_ (fun a w hI => ?_)
  rotate_left
  · obtain ⟨o8, rfl, S⟩ := hI
    have h := g10
    clear g10
    try dsimp only at h
    refine sSeq (fun K49 hK49 => ?_)
    refine sSeq (fun K50 hK50 => ?_)
    refine sRegion ?_
    refine sMove (.bool o8) S (wN rfl) (.inl rfl) rfl rfl (lb rfl) fun a S => ?_
    refine sNot (b := o8) S (wN rfl) rfl rfl rfl (lb rfl) fun a S => ?_
    refine leafL (leafT (hK50 _ _ ?_))
    rcases iteSome h with ⟨hc51, h⟩ | ⟨hc51, h⟩
    · refine sCondT S rfl hc51 ?_
      refine sSeq (fun K52 hK52 => ?_)
      refine sRegion ?_
      refine sMove (iv 8) S (wN rfl) (.inr rfl) rfl rfl (lb rfl) fun a S => ?_
      refine leafL (leafT (hK52 _ _ ?_))
      obtain rfl := Option.some.inj h
      exact wp_ret (rThen (sRet (iv 8) S (rsl1 rfl (rvT (t := 2) (v := iv 8) S rfl)) ⟨(), rfl, S.mem.sel [] [] (by decide) rfl rfl⟩))
    refine sCondF S rfl hc51 ?_
    refine wp_skip (leafT (hK49 _ _ ?_))
    refine sSeq (fun K53 hK53 => ?_)
    refine sRegion ?_
    refine sMove (iv 0) S (wN rfl) (.inr rfl) rfl rfl (lb rfl) fun a S => ?_
    refine leafL (leafT (hK53 _ _ ?_))
    obtain rfl := Option.some.inj h
    exact wp_ret (sRet (iv 0) S (rsl1 rfl (rvT (t := 2) (v := iv 0) S rfl)) ⟨(), rfl, S.mem.sel [] [] (by decide) rfl rfl⟩)
  refine sSeq (fun K11 hK11 => ?_)
  refine sRegion ?_
  refine sField (b := b2) (off := 0) 0 0 S (wN rfl) rfl rfl rfl rfl rfl (lb rfl) fun a S => ?_
  refine sLoad1 (p := b2) (off := 0) (T := 74) (vs := [.int .u8 p0.Kind, .bool p0.Purl, iv p0.A, iv p0.B]) 0 (.int .u8 p0.Kind) S (wN rfl) rfl rfl rfl rfl rfl rfl (lb rfl) fun a S => ?_
  refine leafL (leafT (hK11 _ _ ?_))
  refine wp_block ?_
  obtain ⟨t13, h, g14⟩ := bindSome h
  refine sCut (fun a w => ∃ o12, o12 = t13 ∧ St [] E [] w0 102 a w [(1, .pointer (some ⟨b2, 0, none⟩)), (3, .bool o3), (4, .bool false), (14, .int .u8 p0.Kind), (15, .bool o12)] [eBox b2 74 [.int .u8 p0.Kind, .bool p0.Purl, iv p0.A, iv p0.B]] []) ?_ (fun a w hI => ?_)
  · refine sSeq (fun K15 hK15 => ?_)
    refine sRegion ?_
    refine sBin (.bool (p0.Kind == 1)) S (wN rfl) rfl rfl rfl (bEq _ _ _ _ .u8 p0.Kind 1) rfl (lb rfl) fun a S => ?_
    refine sMove (.bool (p0.Kind == 1)) S (wN rfl) (.inr rfl) rfl rfl (lb rfl) fun a S => ?_
    refine leafL (leafT (hK15 _ _ ?_))
    rcases iteSome h with ⟨hc16, h⟩ | ⟨hc16, h⟩
    · refine sCondT S rfl hc16 ?_
      exact wp_skip (leafT (⟨p0.Kind == 1, Option.some.inj h, S.fix [0] [] (by decide) rfl rfl rfl⟩))
    refine sCondF S rfl hc16 ?_
    refine sRegion ?_
    refine sBin (.bool (p0.Kind == 8)) S (wN rfl) rfl rfl rfl (bEq _ _ _ _ .u8 p0.Kind 8) rfl (lb rfl) fun a S => ?_
    refine sMove (.bool (p0.Kind == 8)) S (wN rfl) (.inr rfl) rfl rfl (lb rfl) fun a S => ?_
    exact leafL (leafT (⟨p0.Kind == 8, Option.some.inj h, S.fix [0] [] (by decide) rfl rfl rfl⟩))
  obtain ⟨o12, rfl, S⟩ := hI
  have h := g14
  clear g14
  try dsimp only at h
  rcases iteSome h with ⟨hc17, h⟩ | ⟨hc17, h⟩
  · refine sCondT S rfl hc17 ?_
    refine sRegion ?_
    refine sMove (.bool o3) S (wN rfl) (.inl rfl) rfl rfl (lb rfl) fun a S => ?_
    refine sMove (.bool o3) S (wN rfl) (.inr rfl) rfl rfl (lb rfl) fun a S => ?_
    exact leafL (leafB (leafT (⟨o3, Option.some.inj h, S.fix [] [] (by decide) rfl rfl rfl⟩)))
  refine sCondF S rfl hc17 ?_
  refine sSeq (fun K18 hK18 => ?_)
  refine sRegion ?_
  refine sBin (.bool (p0.Kind == 2)) S (wN rfl) rfl rfl rfl (bEq _ _ _ _ .u8 p0.Kind 2) rfl (lb rfl) fun a S => ?_
  refine sMove (.bool (p0.Kind == 2)) S (wN rfl) (.inr rfl) rfl rfl (lb rfl) fun a S => ?_
  refine leafL (leafT (hK18 _ _ ?_))
  rcases iteSome h with ⟨hc19, h⟩ | ⟨hc19, h⟩
  · refine sCondT S rfl hc19 ?_
    refine sRegion ?_
    refine sMove (.bool o3) S (wN rfl) (.inl rfl) rfl rfl (lb rfl) fun a S => ?_
    refine sMove (.bool o3) S (wN rfl) (.inl rfl) rfl rfl (lb rfl) fun a S => ?_
    rcases iteSome h with ⟨hc20, h⟩ | ⟨hc20, h⟩
    rotate_left
    · refine sSkip 1 true 22 23 S rfl rfl rfl hc20 rfl (lb rfl) fun a S => ?_
      refine sSkip 1 true 22 24 S rfl rfl rfl hc20 rfl (lb rfl) fun a S => ?_
      refine sSkip 1 true 22 25 S rfl rfl rfl hc20 rfl (lb rfl) fun a S => ?_
      refine sPickF (.bool false) S (wN rfl) rfl rfl hc20 rfl rfl (lb rfl) fun a S => ?_
      refine sMove (.bool false) S (wN rfl) (.inr rfl) rfl rfl (lb rfl) fun a S => ?_
      exact leafL (leafB (leafT (⟨false, Option.some.inj h, S.fix [] [] (by decide) rfl rfl rfl⟩)))
    refine sField (b := b2) (off := 0) 1 1 S (wG 1 true 22 rfl rfl rfl hc20) rfl rfl rfl rfl rfl (lb rfl) fun a S => ?_
    refine sLoad1 (p := b2) (off := 1) (T := 74) (vs := [.int .u8 p0.Kind, .bool p0.Purl, iv p0.A, iv p0.B]) 0 (.bool p0.Purl) S (wG 1 true 22 rfl rfl rfl hc20) rfl rfl rfl rfl rfl rfl (lb rfl) fun a S => ?_
    refine sNot (b := p0.Purl) S (wG 1 true 22 rfl rfl rfl hc20) rfl rfl rfl (lb rfl) fun a S => ?_
    refine sPickT (.bool (!p0.Purl)) S (wN rfl) rfl rfl hc20 rfl rfl (lb rfl) fun a S => ?_
    refine sMove (.bool (!p0.Purl)) S (wN rfl) (.inr rfl) rfl rfl (lb rfl) fun a S => ?_
    exact leafL (leafB (leafT (⟨!p0.Purl, Option.some.inj h, S.fix [] [] (by decide) rfl rfl rfl⟩)))
  refine sCondF S rfl hc19 ?_
  obtain ⟨t22, h, g23⟩ := bindSome h
  refine sCut (fun a w => ∃ o21, o21 = t22 ∧ St [] E [] w0 102 a w [(1, .pointer (some ⟨b2, 0, none⟩)), (4, .bool false), (14, .int .u8 p0.Kind), (27, .bool o21)] [eBox b2 74 [.int .u8 p0.Kind, .bool p0.Purl, iv p0.A, iv p0.B]] []) ?_ (fun a w hI => ?_)
  · refine sSeq (fun K24 hK24 => ?_)
    refine sRegion ?_
    refine sBin (.bool (p0.Kind == 3)) S (wN rfl) rfl rfl rfl (bEq _ _ _ _ .u8 p0.Kind 3) rfl (lb rfl) fun a S => ?_
    refine sMove (.bool (p0.Kind == 3)) S (wN rfl) (.inr rfl) rfl rfl (lb rfl) fun a S => ?_
    refine leafL (leafT (hK24 _ _ ?_))
    rcases iteSome h with ⟨hc25, h⟩ | ⟨hc25, h⟩
    · refine sCondT S rfl hc25 ?_
      exact wp_skip (leafT (⟨p0.Kind == 3, Option.some.inj h, S.fix [0] [] (by decide) rfl rfl rfl⟩))
    refine sCondF S rfl hc25 ?_
    refine sSeq (fun K26 hK26 => ?_)
    refine sRegion ?_
    refine sBin (.bool (p0.Kind == 4)) S (wN rfl) rfl rfl rfl (bEq _ _ _ _ .u8 p0.Kind 4) rfl (lb rfl) fun a S => ?_
    refine sMove (.bool (p0.Kind == 4)) S (wN rfl) (.inr rfl) rfl rfl (lb rfl) fun a S => ?_
    refine leafL (leafT (hK26 _ _ ?_))
    rcases iteSome h with ⟨hc27, h⟩ | ⟨hc27, h⟩
    · refine sCondT S rfl hc27 ?_
      exact wp_skip (leafT (⟨p0.Kind == 4, Option.some.inj h, S.fix [0] [] (by decide) rfl rfl rfl⟩))
    refine sCondF S rfl hc27 ?_
    refine sRegion ?_
    refine sBin (.bool (p0.Kind == 5)) S (wN rfl) rfl rfl rfl (bEq _ _ _ _ .u8 p0.Kind 5) rfl (lb rfl) fun a S => ?_
    refine sMove (.bool (p0.Kind == 5)) S (wN rfl) (.inr rfl) rfl rfl (lb rfl) fun a S => ?_
    exact leafL (leafT (⟨p0.Kind == 5, Option.some.inj h, S.fix [0] [] (by decide) rfl rfl rfl⟩))
  obtain ⟨o21, rfl, S⟩ := hI
  have h := g23
  clear g23
  try dsimp only at h
  rcases iteSome h with ⟨hc28, h⟩ | ⟨hc28, h⟩
  · refine sCondT S rfl hc28 ?_
    refine sRegion ?_
    refine sField (b := b2) (off := 0) 3 3 S (wN rfl) rfl rfl rfl rfl rfl (lb rfl) fun a S => ?_
    refine sLoad1 (p := b2) (off := 3) (T := 74) (vs := [.int .u8 p0.Kind, .bool p0.Purl, iv p0.A, iv p0.B]) 0 (iv p0.B) S (wN rfl) rfl rfl rfl rfl rfl rfl (lb rfl) fun a S => ?_
    refine sBin (.bool (p0.B == 0)) S (wN rfl) rfl rfl rfl (bEq _ _ _ _ .i64 p0.B 0) rfl (lb rfl) fun a S => ?_
    refine sMove (.bool (p0.B == 0)) S (wN rfl) (.inl rfl) rfl rfl (lb rfl) fun a S => ?_
    rcases iteSome h with ⟨hc29, h⟩ | ⟨hc29, h⟩
    rotate_left
    · refine sSkip 3 true 34 35 S rfl rfl rfl hc29 rfl (lb rfl) fun a S => ?_
      refine sSkip 3 true 34 36 S rfl rfl rfl hc29 rfl (lb rfl) fun a S => ?_
      refine sSkip 3 true 34 37 S rfl rfl rfl hc29 rfl (lb rfl) fun a S => ?_
      refine sPickF (.bool false) S (wN rfl) rfl rfl hc29 rfl rfl (lb rfl) fun a S => ?_
      refine sMove (.bool false) S (wN rfl) (.inl rfl) rfl rfl (lb rfl) fun a S => ?_
      refine sSkip 8 true 39 40 S rfl rfl rfl rfl rfl (lb rfl) fun a S => ?_
      refine sSkip 8 true 39 41 S rfl rfl rfl rfl rfl (lb rfl) fun a S => ?_
      refine sSkip 8 true 39 42 S rfl rfl rfl rfl rfl (lb rfl) fun a S => ?_
      refine sPickF (.bool false) S (wN rfl) rfl rfl rfl rfl rfl (lb rfl) fun a S => ?_
      refine sMove (.bool false) S (wN rfl) (.inr rfl) rfl rfl (lb rfl) fun a S => ?_
      exact leafL (leafB (leafT (⟨false, Option.some.inj h, S.fix [] [] (by decide) rfl rfl rfl⟩)))
    refine sField (b := b2) (off := 0) 2 2 S (wG 3 true 34 rfl rfl rfl hc29) rfl rfl rfl rfl rfl (lb rfl) fun a S => ?_
    refine sLoad1 (p := b2) (off := 2) (T := 74) (vs := [.int .u8 p0.Kind, .bool p0.Purl, iv p0.A, iv p0.B]) 0 (iv p0.A) S (wG 3 true 34 rfl rfl rfl hc29) rfl rfl rfl rfl rfl rfl (lb rfl) fun a S => ?_
    refine sBin (.bool (decide (2 ≤ p0.A))) S (wG 3 true 34 rfl rfl rfl hc29) rfl rfl rfl (bGe _ _ _ _ .i64 p0.A 2) rfl (lb rfl) fun a S => ?_
    refine sPickT (.bool (decide (2 ≤ p0.A))) S (wN rfl) rfl rfl hc29 rfl rfl (lb rfl) fun a S => ?_
    refine sMove (.bool (decide (2 ≤ p0.A))) S (wN rfl) (.inl rfl) rfl rfl (lb rfl) fun a S => ?_
    rcases iteSome h with ⟨hc30, h⟩ | ⟨hc30, h⟩
    rotate_left
    · refine sSkip 8 true 39 40 S rfl rfl rfl hc30 rfl (lb rfl) fun a S => ?_
      refine sSkip 8 true 39 41 S rfl rfl rfl hc30 rfl (lb rfl) fun a S => ?_
      refine sSkip 8 true 39 42 S rfl rfl rfl hc30 rfl (lb rfl) fun a S => ?_
      refine sPickF (.bool false) S (wN rfl) rfl rfl hc30 rfl rfl (lb rfl) fun a S => ?_
      refine sMove (.bool false) S (wN rfl) (.inr rfl) rfl rfl (lb rfl) fun a S => ?_
      exact leafL (leafB (leafT (⟨false, Option.some.inj h, S.fix [] [] (by decide) rfl rfl rfl⟩)))
    refine sField (b := b2) (off := 0) 2 2 S (wG 8 true 39 rfl rfl rfl hc30) rfl rfl rfl rfl rfl (lb rfl) fun a S => ?_
    refine sLoad1 (p := b2) (off := 2) (T := 74) (vs := [.int .u8 p0.Kind, .bool p0.Purl, iv p0.A, iv p0.B]) 0 (iv p0.A) S (wG 8 true 39 rfl rfl rfl hc30) rfl rfl rfl rfl rfl rfl (lb rfl) fun a S => ?_
    refine sBin (.bool (decide (p0.A ≤ 4))) S (wG 8 true 39 rfl rfl rfl hc30) rfl rfl rfl (bLe _ _ _ _ .i64 p0.A 4) rfl (lb rfl) fun a S => ?_
    refine sPickT (.bool (decide (p0.A ≤ 4))) S (wN rfl) rfl rfl hc30 rfl rfl (lb rfl) fun a S => ?_
    refine sMove (.bool (decide (p0.A ≤ 4))) S (wN rfl) (.inr rfl) rfl rfl (lb rfl) fun a S => ?_
    exact leafL (leafB (leafT (⟨decide (p0.A ≤ 4), Option.some.inj h, S.fix [] [] (by decide) rfl rfl rfl⟩)))
  refine sCondF S rfl hc28 ?_
  obtain ⟨t32, h, g33⟩ := bindSome h
  refine sCut (fun a w => ∃ o31, o31 = t32 ∧ St [] E [] w0 102 a w [(1, .pointer (some ⟨b2, 0, none⟩)), (4, .bool false), (14, .int .u8 p0.Kind), (44, .bool o31)] [eBox b2 74 [.int .u8 p0.Kind, .bool p0.Purl, iv p0.A, iv p0.B]] []) ?_ (fun a w hI => ?_)
  · refine sSeq (fun K34 hK34 => ?_)
    refine sRegion ?_
    refine sBin (.bool (p0.Kind == 6)) S (wN rfl) rfl rfl rfl (bEq _ _ _ _ .u8 p0.Kind 6) rfl (lb rfl) fun a S => ?_
    refine sMove (.bool (p0.Kind == 6)) S (wN rfl) (.inr rfl) rfl rfl (lb rfl) fun a S => ?_
    refine leafL (leafT (hK34 _ _ ?_))
    rcases iteSome h with ⟨hc35, h⟩ | ⟨hc35, h⟩
    · refine sCondT S rfl hc35 ?_
      exact wp_skip (leafT (⟨p0.Kind == 6, Option.some.inj h, S.fix [0] [] (by decide) rfl rfl rfl⟩))
    refine sCondF S rfl hc35 ?_
    refine sRegion ?_
    refine sBin (.bool (p0.Kind == 7)) S (wN rfl) rfl rfl rfl (bEq _ _ _ _ .u8 p0.Kind 7) rfl (lb rfl) fun a S => ?_
    refine sMove (.bool (p0.Kind == 7)) S (wN rfl) (.inr rfl) rfl rfl (lb rfl) fun a S => ?_
    exact leafL (leafT (⟨p0.Kind == 7, Option.some.inj h, S.fix [0] [] (by decide) rfl rfl rfl⟩))
  obtain ⟨o31, rfl, S⟩ := hI
  have h := g33
  clear g33
  try dsimp only at h
  rcases iteSome h with ⟨hc36, h⟩ | ⟨hc36, h⟩
  · refine sCondT S rfl hc36 ?_
    refine sRegion ?_
    refine sField (b := b2) (off := 0) 2 2 S (wN rfl) rfl rfl rfl rfl rfl (lb rfl) fun a S => ?_
    refine sLoad1 (p := b2) (off := 2) (T := 74) (vs := [.int .u8 p0.Kind, .bool p0.Purl, iv p0.A, iv p0.B]) 0 (iv p0.A) S (wN rfl) rfl rfl rfl rfl rfl rfl (lb rfl) fun a S => ?_
    refine sBin (.bool (decide (1 ≤ p0.A))) S (wN rfl) rfl rfl rfl (bGe _ _ _ _ .i64 p0.A 1) rfl (lb rfl) fun a S => ?_
    refine sMove (.bool (decide (1 ≤ p0.A))) S (wN rfl) (.inl rfl) rfl rfl (lb rfl) fun a S => ?_
    rcases iteSome h with ⟨hc37, h⟩ | ⟨hc37, h⟩
    rotate_left
    · refine sSkip 3 true 50 51 S rfl rfl rfl hc37 rfl (lb rfl) fun a S => ?_
      refine sSkip 3 true 50 52 S rfl rfl rfl hc37 rfl (lb rfl) fun a S => ?_
      refine sSkip 3 true 50 53 S rfl rfl rfl hc37 rfl (lb rfl) fun a S => ?_
      refine sPickF (.bool false) S (wN rfl) rfl rfl hc37 rfl rfl (lb rfl) fun a S => ?_
      refine sMove (.bool false) S (wN rfl) (.inl rfl) rfl rfl (lb rfl) fun a S => ?_
      refine sSkip 8 true 55 56 S rfl rfl rfl rfl rfl (lb rfl) fun a S => ?_
      refine sSkip 8 true 55 57 S rfl rfl rfl rfl rfl (lb rfl) fun a S => ?_
      refine sSkip 8 true 55 58 S rfl rfl rfl rfl rfl (lb rfl) fun a S => ?_
      refine sPickF (.bool false) S (wN rfl) rfl rfl rfl rfl rfl (lb rfl) fun a S => ?_
      refine sMove (.bool false) S (wN rfl) (.inl rfl) rfl rfl (lb rfl) fun a S => ?_
      refine sSkip 13 true 60 61 S rfl rfl rfl rfl rfl (lb rfl) fun a S => ?_
      refine sSkip 13 true 60 62 S rfl rfl rfl rfl rfl (lb rfl) fun a S => ?_
      refine sSkip 13 true 60 63 S rfl rfl rfl rfl rfl (lb rfl) fun a S => ?_
      refine sPickF (.bool false) S (wN rfl) rfl rfl rfl rfl rfl (lb rfl) fun a S => ?_
      refine sMove (.bool false) S (wN rfl) (.inr rfl) rfl rfl (lb rfl) fun a S => ?_
      exact leafL (leafB (leafT (⟨false, Option.some.inj h, S.fix [] [] (by decide) rfl rfl rfl⟩)))
    refine sField (b := b2) (off := 0) 2 2 S (wG 3 true 50 rfl rfl rfl hc37) rfl rfl rfl rfl rfl (lb rfl) fun a S => ?_
    refine sLoad1 (p := b2) (off := 2) (T := 74) (vs := [.int .u8 p0.Kind, .bool p0.Purl, iv p0.A, iv p0.B]) 0 (iv p0.A) S (wG 3 true 50 rfl rfl rfl hc37) rfl rfl rfl rfl rfl rfl (lb rfl) fun a S => ?_
    refine sBin (.bool (decide (p0.A ≤ 6))) S (wG 3 true 50 rfl rfl rfl hc37) rfl rfl rfl (bLe _ _ _ _ .i64 p0.A 6) rfl (lb rfl) fun a S => ?_
    refine sPickT (.bool (decide (p0.A ≤ 6))) S (wN rfl) rfl rfl hc37 rfl rfl (lb rfl) fun a S => ?_
    refine sMove (.bool (decide (p0.A ≤ 6))) S (wN rfl) (.inl rfl) rfl rfl (lb rfl) fun a S => ?_
    rcases iteSome h with ⟨hc38, h⟩ | ⟨hc38, h⟩
    rotate_left
    · refine sSkip 8 true 55 56 S rfl rfl rfl hc38 rfl (lb rfl) fun a S => ?_
      refine sSkip 8 true 55 57 S rfl rfl rfl hc38 rfl (lb rfl) fun a S => ?_
      refine sSkip 8 true 55 58 S rfl rfl rfl hc38 rfl (lb rfl) fun a S => ?_
      refine sPickF (.bool false) S (wN rfl) rfl rfl hc38 rfl rfl (lb rfl) fun a S => ?_
      refine sMove (.bool false) S (wN rfl) (.inl rfl) rfl rfl (lb rfl) fun a S => ?_
      refine sSkip 13 true 60 61 S rfl rfl rfl rfl rfl (lb rfl) fun a S => ?_
      refine sSkip 13 true 60 62 S rfl rfl rfl rfl rfl (lb rfl) fun a S => ?_
      refine sSkip 13 true 60 63 S rfl rfl rfl rfl rfl (lb rfl) fun a S => ?_
      refine sPickF (.bool false) S (wN rfl) rfl rfl rfl rfl rfl (lb rfl) fun a S => ?_
      refine sMove (.bool false) S (wN rfl) (.inr rfl) rfl rfl (lb rfl) fun a S => ?_
      exact leafL (leafB (leafT (⟨false, Option.some.inj h, S.fix [] [] (by decide) rfl rfl rfl⟩)))
    refine sField (b := b2) (off := 0) 3 3 S (wG 8 true 55 rfl rfl rfl hc38) rfl rfl rfl rfl rfl (lb rfl) fun a S => ?_
    refine sLoad1 (p := b2) (off := 3) (T := 74) (vs := [.int .u8 p0.Kind, .bool p0.Purl, iv p0.A, iv p0.B]) 0 (iv p0.B) S (wG 8 true 55 rfl rfl rfl hc38) rfl rfl rfl rfl rfl rfl (lb rfl) fun a S => ?_
    refine sBin (.bool (decide (1 ≤ p0.B))) S (wG 8 true 55 rfl rfl rfl hc38) rfl rfl rfl (bGe _ _ _ _ .i64 p0.B 1) rfl (lb rfl) fun a S => ?_
    refine sPickT (.bool (decide (1 ≤ p0.B))) S (wN rfl) rfl rfl hc38 rfl rfl (lb rfl) fun a S => ?_
    refine sMove (.bool (decide (1 ≤ p0.B))) S (wN rfl) (.inl rfl) rfl rfl (lb rfl) fun a S => ?_
    rcases iteSome h with ⟨hc39, h⟩ | ⟨hc39, h⟩
    rotate_left
    · refine sSkip 13 true 60 61 S rfl rfl rfl hc39 rfl (lb rfl) fun a S => ?_
      refine sSkip 13 true 60 62 S rfl rfl rfl hc39 rfl (lb rfl) fun a S => ?_
      refine sSkip 13 true 60 63 S rfl rfl rfl hc39 rfl (lb rfl) fun a S => ?_
      refine sPickF (.bool false) S (wN rfl) rfl rfl hc39 rfl rfl (lb rfl) fun a S => ?_
      refine sMove (.bool false) S (wN rfl) (.inr rfl) rfl rfl (lb rfl) fun a S => ?_
      exact leafL (leafB (leafT (⟨false, Option.some.inj h, S.fix [] [] (by decide) rfl rfl rfl⟩)))
    refine sField (b := b2) (off := 0) 3 3 S (wG 13 true 60 rfl rfl rfl hc39) rfl rfl rfl rfl rfl (lb rfl) fun a S => ?_
    refine sLoad1 (p := b2) (off := 3) (T := 74) (vs := [.int .u8 p0.Kind, .bool p0.Purl, iv p0.A, iv p0.B]) 0 (iv p0.B) S (wG 13 true 60 rfl rfl rfl hc39) rfl rfl rfl rfl rfl rfl (lb rfl) fun a S => ?_
    refine sBin (.bool (decide (p0.B ≤ 6))) S (wG 13 true 60 rfl rfl rfl hc39) rfl rfl rfl (bLe _ _ _ _ .i64 p0.B 6) rfl (lb rfl) fun a S => ?_
    refine sPickT (.bool (decide (p0.B ≤ 6))) S (wN rfl) rfl rfl hc39 rfl rfl (lb rfl) fun a S => ?_
    refine sMove (.bool (decide (p0.B ≤ 6))) S (wN rfl) (.inr rfl) rfl rfl (lb rfl) fun a S => ?_
    exact leafL (leafB (leafT (⟨decide (p0.B ≤ 6), Option.some.inj h, S.fix [] [] (by decide) rfl rfl rfl⟩)))
  refine sCondF S rfl hc36 ?_
  refine sSeq (fun K40 hK40 => ?_)
  refine sRegion ?_
  refine sBin (.bool (p0.Kind == 9)) S (wN rfl) rfl rfl rfl (bEq _ _ _ _ .u8 p0.Kind 9) rfl (lb rfl) fun a S => ?_
  refine sMove (.bool (p0.Kind == 9)) S (wN rfl) (.inr rfl) rfl rfl (lb rfl) fun a S => ?_
  refine leafL (leafT (hK40 _ _ ?_))
  rcases iteSome h with ⟨hc41, h⟩ | ⟨hc41, h⟩
  rotate_left
  · refine sCondF S rfl hc41 ?_
    refine sSeq (fun K45 hK45 => ?_)
    refine sRegion ?_
    refine sBin (.bool (p0.Kind == 10)) S (wN rfl) rfl rfl rfl (bEq _ _ _ _ .u8 p0.Kind 10) rfl (lb rfl) fun a S => ?_
    refine sMove (.bool (p0.Kind == 10)) S (wN rfl) (.inr rfl) rfl rfl (lb rfl) fun a S => ?_
    refine leafL (leafT (hK45 _ _ ?_))
    rcases iteSome h with ⟨hc46, h⟩ | ⟨hc46, h⟩
    rotate_left
    · refine sCondF S rfl hc46 ?_
      exact wp_skip (leafB (leafT (⟨false, Option.some.inj h, S.fix [] [] (by decide) rfl rfl rfl⟩)))
    refine sCondT S rfl hc46 ?_
    refine sRegion ?_
    refine sField (b := b2) (off := 0) 3 3 S (wN rfl) rfl rfl rfl rfl rfl (lb rfl) fun a S => ?_
    refine sLoad1 (p := b2) (off := 3) (T := 74) (vs := [.int .u8 p0.Kind, .bool p0.Purl, iv p0.A, iv p0.B]) 0 (iv p0.B) S (wN rfl) rfl rfl rfl rfl rfl rfl (lb rfl) fun a S => ?_
    refine sBin (.bool (p0.B == 0)) S (wN rfl) rfl rfl rfl (bEq _ _ _ _ .i64 p0.B 0) rfl (lb rfl) fun a S => ?_
    refine sMove (.bool (p0.B == 0)) S (wN rfl) (.inl rfl) rfl rfl (lb rfl) fun a S => ?_
    rcases iteSome h with ⟨hc47, h⟩ | ⟨hc47, h⟩
    rotate_left
    · refine sSkip 3 true 90 91 S rfl rfl rfl hc47 rfl (lb rfl) fun a S => ?_
      refine sSkip 3 true 90 92 S rfl rfl rfl hc47 rfl (lb rfl) fun a S => ?_
      refine sSkip 3 true 90 93 S rfl rfl rfl hc47 rfl (lb rfl) fun a S => ?_
      refine sPickF (.bool false) S (wN rfl) rfl rfl hc47 rfl rfl (lb rfl) fun a S => ?_
      refine sMove (.bool false) S (wN rfl) (.inl rfl) rfl rfl (lb rfl) fun a S => ?_
      refine sSkip 8 true 95 96 S rfl rfl rfl rfl rfl (lb rfl) fun a S => ?_
      refine sSkip 8 true 95 97 S rfl rfl rfl rfl rfl (lb rfl) fun a S => ?_
      refine sSkip 8 true 95 98 S rfl rfl rfl rfl rfl (lb rfl) fun a S => ?_
      refine sPickF (.bool false) S (wN rfl) rfl rfl rfl rfl rfl (lb rfl) fun a S => ?_
      refine sMove (.bool false) S (wN rfl) (.inr rfl) rfl rfl (lb rfl) fun a S => ?_
      exact leafL (leafB (leafT (⟨false, Option.some.inj h, S.fix [] [] (by decide) rfl rfl rfl⟩)))
    refine sField (b := b2) (off := 0) 2 2 S (wG 3 true 90 rfl rfl rfl hc47) rfl rfl rfl rfl rfl (lb rfl) fun a S => ?_
    refine sLoad1 (p := b2) (off := 2) (T := 74) (vs := [.int .u8 p0.Kind, .bool p0.Purl, iv p0.A, iv p0.B]) 0 (iv p0.A) S (wG 3 true 90 rfl rfl rfl hc47) rfl rfl rfl rfl rfl rfl (lb rfl) fun a S => ?_
    refine sBin (.bool (decide (1 ≤ p0.A))) S (wG 3 true 90 rfl rfl rfl hc47) rfl rfl rfl (bGe _ _ _ _ .i64 p0.A 1) rfl (lb rfl) fun a S => ?_
    refine sPickT (.bool (decide (1 ≤ p0.A))) S (wN rfl) rfl rfl hc47 rfl rfl (lb rfl) fun a S => ?_
    refine sMove (.bool (decide (1 ≤ p0.A))) S (wN rfl) (.inl rfl) rfl rfl (lb rfl) fun a S => ?_
    rcases iteSome h with ⟨hc48, h⟩ | ⟨hc48, h⟩
    rotate_left
    · refine sSkip 8 true 95 96 S rfl rfl rfl hc48 rfl (lb rfl) fun a S => ?_
      refine sSkip 8 true 95 97 S rfl rfl rfl hc48 rfl (lb rfl) fun a S => ?_
      refine sSkip 8 true 95 98 S rfl rfl rfl hc48 rfl (lb rfl) fun a S => ?_
      refine sPickF (.bool false) S (wN rfl) rfl rfl hc48 rfl rfl (lb rfl) fun a S => ?_
      refine sMove (.bool false) S (wN rfl) (.inr rfl) rfl rfl (lb rfl) fun a S => ?_
      exact leafL (leafB (leafT (⟨false, Option.some.inj h, S.fix [] [] (by decide) rfl rfl rfl⟩)))
    refine sField (b := b2) (off := 0) 2 2 S (wG 8 true 95 rfl rfl rfl hc48) rfl rfl rfl rfl rfl (lb rfl) fun a S => ?_
    refine sLoad1 (p := b2) (off := 2) (T := 74) (vs := [.int .u8 p0.Kind, .bool p0.Purl, iv p0.A, iv p0.B]) 0 (iv p0.A) S (wG 8 true 95 rfl rfl rfl hc48) rfl rfl rfl rfl rfl rfl (lb rfl) fun a S => ?_
    refine sBin (.bool (decide (p0.A ≤ 200))) S (wG 8 true 95 rfl rfl rfl hc48) rfl rfl rfl (bLe _ _ _ _ .i64 p0.A 200) rfl (lb rfl) fun a S => ?_
    refine sPickT (.bool (decide (p0.A ≤ 200))) S (wN rfl) rfl rfl hc48 rfl rfl (lb rfl) fun a S => ?_
    refine sMove (.bool (decide (p0.A ≤ 200))) S (wN rfl) (.inr rfl) rfl rfl (lb rfl) fun a S => ?_
    exact leafL (leafB (leafT (⟨decide (p0.A ≤ 200), Option.some.inj h, S.fix [] [] (by decide) rfl rfl rfl⟩)))
  refine sCondT S rfl hc41 ?_
  refine sRegion ?_
  refine sField (b := b2) (off := 0) 3 3 S (wN rfl) rfl rfl rfl rfl rfl (lb rfl) fun a S => ?_
  refine sLoad1 (p := b2) (off := 3) (T := 74) (vs := [.int .u8 p0.Kind, .bool p0.Purl, iv p0.A, iv p0.B]) 0 (iv p0.B) S (wN rfl) rfl rfl rfl rfl rfl rfl (lb rfl) fun a S => ?_
  refine sBin (.bool (p0.B == 0)) S (wN rfl) rfl rfl rfl (bEq _ _ _ _ .i64 p0.B 0) rfl (lb rfl) fun a S => ?_
  refine sMove (.bool (p0.B == 0)) S (wN rfl) (.inl rfl) rfl rfl (lb rfl) fun a S => ?_
  rcases iteSome h with ⟨hc42, h⟩ | ⟨hc42, h⟩
  rotate_left
  · refine sSkip 3 true 70 71 S rfl rfl rfl hc42 rfl (lb rfl) fun a S => ?_
    refine sSkip 3 true 70 72 S rfl rfl rfl hc42 rfl (lb rfl) fun a S => ?_
    refine sSkip 3 true 70 73 S rfl rfl rfl hc42 rfl (lb rfl) fun a S => ?_
    refine sPickF (.bool false) S (wN rfl) rfl rfl hc42 rfl rfl (lb rfl) fun a S => ?_
    refine sMove (.bool false) S (wN rfl) (.inl rfl) rfl rfl (lb rfl) fun a S => ?_
    refine sSkip 8 true 75 76 S rfl rfl rfl rfl rfl (lb rfl) fun a S => ?_
    refine sSkip 8 true 75 77 S rfl rfl rfl rfl rfl (lb rfl) fun a S => ?_
    refine sSkip 8 true 75 78 S rfl rfl rfl rfl rfl (lb rfl) fun a S => ?_
    refine sPickF (.bool false) S (wN rfl) rfl rfl rfl rfl rfl (lb rfl) fun a S => ?_
    refine sMove (.bool false) S (wN rfl) (.inl rfl) rfl rfl (lb rfl) fun a S => ?_
    refine sSkip 13 true 80 81 S rfl rfl rfl rfl rfl (lb rfl) fun a S => ?_
    refine sSkip 13 true 80 82 S rfl rfl rfl rfl rfl (lb rfl) fun a S => ?_
    refine sSkip 13 true 80 83 S rfl rfl rfl rfl rfl (lb rfl) fun a S => ?_
    refine sPickF (.bool false) S (wN rfl) rfl rfl rfl rfl rfl (lb rfl) fun a S => ?_
    refine sMove (.bool false) S (wN rfl) (.inr rfl) rfl rfl (lb rfl) fun a S => ?_
    exact leafL (leafB (leafT (⟨false, Option.some.inj h, S.fix [] [] (by decide) rfl rfl rfl⟩)))
  refine sField (b := b2) (off := 0) 1 1 S (wG 3 true 70 rfl rfl rfl hc42) rfl rfl rfl rfl rfl (lb rfl) fun a S => ?_
  refine sLoad1 (p := b2) (off := 1) (T := 74) (vs := [.int .u8 p0.Kind, .bool p0.Purl, iv p0.A, iv p0.B]) 0 (.bool p0.Purl) S (wG 3 true 70 rfl rfl rfl hc42) rfl rfl rfl rfl rfl rfl (lb rfl) fun a S => ?_
  refine sNot (b := p0.Purl) S (wG 3 true 70 rfl rfl rfl hc42) rfl rfl rfl (lb rfl) fun a S => ?_
  refine sPickT (.bool (!p0.Purl)) S (wN rfl) rfl rfl hc42 rfl rfl (lb rfl) fun a S => ?_
  refine sMove (.bool (!p0.Purl)) S (wN rfl) (.inl rfl) rfl rfl (lb rfl) fun a S => ?_
  rcases iteSome h with ⟨hc43, h⟩ | ⟨hc43, h⟩
  rotate_left
  · refine sSkip 8 true 75 76 S rfl rfl rfl hc43 rfl (lb rfl) fun a S => ?_
    refine sSkip 8 true 75 77 S rfl rfl rfl hc43 rfl (lb rfl) fun a S => ?_
    refine sSkip 8 true 75 78 S rfl rfl rfl hc43 rfl (lb rfl) fun a S => ?_
    refine sPickF (.bool false) S (wN rfl) rfl rfl hc43 rfl rfl (lb rfl) fun a S => ?_
    refine sMove (.bool false) S (wN rfl) (.inl rfl) rfl rfl (lb rfl) fun a S => ?_
    refine sSkip 13 true 80 81 S rfl rfl rfl rfl rfl (lb rfl) fun a S => ?_
    refine sSkip 13 true 80 82 S rfl rfl rfl rfl rfl (lb rfl) fun a S => ?_
    refine sSkip 13 true 80 83 S rfl rfl rfl rfl rfl (lb rfl) fun a S => ?_
    refine sPickF (.bool false) S (wN rfl) rfl rfl rfl rfl rfl (lb rfl) fun a S => ?_
    refine sMove (.bool false) S (wN rfl) (.inr rfl) rfl rfl (lb rfl) fun a S => ?_
    exact leafL (leafB (leafT (⟨false, Option.some.inj h, S.fix [] [] (by decide) rfl rfl rfl⟩)))
  refine sField (b := b2) (off := 0) 2 2 S (wG 8 true 75 rfl rfl rfl hc43) rfl rfl rfl rfl rfl (lb rfl) fun a S => ?_
  refine sLoad1 (p := b2) (off := 2) (T := 74) (vs := [.int .u8 p0.Kind, .bool p0.Purl, iv p0.A, iv p0.B]) 0 (iv p0.A) S (wG 8 true 75 rfl rfl rfl hc43) rfl rfl rfl rfl rfl rfl (lb rfl) fun a S => ?_
  refine sBin (.bool (decide (1 ≤ p0.A))) S (wG 8 true 75 rfl rfl rfl hc43) rfl rfl rfl (bGe _ _ _ _ .i64 p0.A 1) rfl (lb rfl) fun a S => ?_
  refine sPickT (.bool (decide (1 ≤ p0.A))) S (wN rfl) rfl rfl hc43 rfl rfl (lb rfl) fun a S => ?_
  refine sMove (.bool (decide (1 ≤ p0.A))) S (wN rfl) (.inl rfl) rfl rfl (lb rfl) fun a S => ?_
  rcases iteSome h with ⟨hc44, h⟩ | ⟨hc44, h⟩
  rotate_left
  · refine sSkip 13 true 80 81 S rfl rfl rfl hc44 rfl (lb rfl) fun a S => ?_
    refine sSkip 13 true 80 82 S rfl rfl rfl hc44 rfl (lb rfl) fun a S => ?_
    refine sSkip 13 true 80 83 S rfl rfl rfl hc44 rfl (lb rfl) fun a S => ?_
    refine sPickF (.bool false) S (wN rfl) rfl rfl hc44 rfl rfl (lb rfl) fun a S => ?_
    refine sMove (.bool false) S (wN rfl) (.inr rfl) rfl rfl (lb rfl) fun a S => ?_
    exact leafL (leafB (leafT (⟨false, Option.some.inj h, S.fix [] [] (by decide) rfl rfl rfl⟩)))
  refine sField (b := b2) (off := 0) 2 2 S (wG 13 true 80 rfl rfl rfl hc44) rfl rfl rfl rfl rfl (lb rfl) fun a S => ?_
  refine sLoad1 (p := b2) (off := 2) (T := 74) (vs := [.int .u8 p0.Kind, .bool p0.Purl, iv p0.A, iv p0.B]) 0 (iv p0.A) S (wG 13 true 80 rfl rfl rfl hc44) rfl rfl rfl rfl rfl rfl (lb rfl) fun a S => ?_
  refine sBin (.bool (decide (p0.A ≤ 200))) S (wG 13 true 80 rfl rfl rfl hc44) rfl rfl rfl (bLe _ _ _ _ .i64 p0.A 200) rfl (lb rfl) fun a S => ?_
  refine sPickT (.bool (decide (p0.A ≤ 200))) S (wN rfl) rfl rfl hc44 rfl rfl (lb rfl) fun a S => ?_
  refine sMove (.bool (decide (p0.A ≤ 200))) S (wN rfl) (.inr rfl) rfl rfl (lb rfl) fun a S => ?_
  exact leafL (leafB (leafT (⟨decide (p0.A ≤ 200), Option.some.inj h, S.fix [] [] (by decide) rfl rfl rfl⟩)))

end Go.Proofs.Ytdbgkakmhlmpbaa
namespace Go.Proofs.Ytdbgkakmhlmpbaa
open Go.RowKit
set_option linter.unusedVariables false

noncomputable def raddleref25_All_l1 (p0 : (List api_Stitch)) : Int → Option (Int ⊕ (Int ⊕ Unit)) := fun s0 => match s0 with
  | s11 =>
    if decide (s11 < (p0.length : Int)) then
      Option.bind (idxO p0 s11) fun x20 =>
      Option.bind (F_raddleref25_Check x20) fun r25 =>
      if r25 != 0 then
        some (.inr (.inl 8))
      else
        some (.inl (w64 (s11 + 1)))
    else
      some (.inr (.inr ()))
noncomputable def F_raddleref25_All (p0 : (List api_Stitch)) : Option Int :=
  if decide (200 < (p0.length : Int)) then
    some 4
  else
    Option.bind (α := Unit ⊕ Int) (
      Option.bind (whileO (raddleref25_All_l1 p0) 0) fun z0 => match z0 with
        | .inl z =>
          some (.inr z)
        | .inr _ =>
          some (.inl ())) fun z0 => match z0 with
      | .inl _ =>
        Option.bind (F_raddleref25_sums p0) fun r30 =>
        Option.bind (α := Bool) (
          if decide (200 < r30.1) then
            some true
          else
            some (decide (200 < r30.2))) fun o33 =>
        if o33 then
          some 4
        else
          some 0
      | .inr z =>
        some z
set_option maxHeartbeats 4000000 in
set_option maxRecDepth 100000 in
theorem c_raddleref25_All (E : Nat → Prop) (w0 : World) (p0 : (List api_Stitch)) (v0 : Value) (r : Int) (h : F_raddleref25_All p0 = some r) (S : St0 E [] w0 w0 [] [fRep (rL r_api_Stitch) (v0) p0]) :
    Calls Try.prog 66 #[v0] w0 (Ret (X := Unit) E [] w0 (fun _ => .int .i64 r) (fun _ => []) (fun _ => [])) := by
  unfold F_raddleref25_All at h
  obtain ⟨ad1, cp2, _, rfl, _⟩ := S.know (i := 0) (e := fRep (rL r_api_Stitch) (v0) p0) rfl
  refine sEnter (args := [.slice ad1 p0.length cp2]) 32 Try.func66 rfl rfl (by simp) S (fun a S => ?_)
  refine sSeq (fun K3 hK3 => ?_)
  refine sRegion ?_
  refine sMove (iv 0) S (wN rfl) (.inr rfl) rfl rfl (lb rfl) fun a S => ?_
  refine leafL (leafT (hK3 _ _ ?_))
  refine sSeq (fun K4 hK4 => ?_)
  refine sSeq (fun K5 hK5 => ?_)
  refine sRegion ?_
  refine sMove (.slice ad1 p0.length cp2) S (wN rfl) (.inl rfl) rfl rfl (lb rfl) fun a S => ?_
  refine sLen (ad := ad1) (m := p0.length) (c := cp2) S (wN rfl) rfl Try.underlying70 rfl rfl (lb rfl) fun a S => ?_
  refine sBin (.bool (decide (200 < (p0.length : Int)))) S (wN rfl) rfl rfl rfl (bGt _ _ _ _ .i64 (p0.length : Int) 200) rfl (lb rfl) fun a S => ?_
  refine leafL (leafT (hK5 _ _ ?_))
  rcases iteSome h with ⟨hc6, h⟩ | ⟨hc6, h⟩
  · refine sCondT S rfl hc6 ?_
    refine sSeq (fun K7 hK7 => ?_)
    refine sRegion ?_
    refine sMove (iv 4) S (wN rfl) (.inr rfl) rfl rfl (lb rfl) fun a S => ?_
    refine leafL (leafT (hK7 _ _ ?_))
    obtain rfl := Option.some.inj h
    exact wp_ret (rThen (sRet (iv 4) S (rsl1 rfl (rvT (t := 2) (v := iv 4) S rfl)) ⟨(), rfl, S.mem.sel [] [] (by decide) rfl rfl⟩))
  refine sCondF S rfl hc6 ?_
  refine wp_skip (leafT (hK4 _ _ ?_))
  obtain ⟨t8, h, g9⟩ := bindSome h
  refine sCut (fun a w => .inl () = t8 ∧ St [] E [] w0 32 a w [(0, .slice ad1 p0.length cp2)] [] [fRep (rL r_api_Stitch) (.slice ad1 p0.length cp2) p0]) ?_ (fun a w hI => ?_)
  rotate_left
  · obtain ⟨rfl, S⟩ := hI
    have h := g9
    clear g9
    try dsimp only at h
    refine sSeq (fun K29 hK29 => ?_)
    refine sRegion ?_
    refine sMove (.slice ad1 p0.length cp2) S (wN rfl) (.inl rfl) rfl rfl (lb rfl) fun a S => ?_
    obtain ⟨r30, hx31, h⟩ := bindSome h
    have S1 := S.mem
    refine sCallQ (X := Unit) (f := 70) (vs := [.slice ad1 p0.length cp2]) (val := fun _ => .tuple #[iv r30.1, iv r30.2]) S (wN rfl) rfl callee70 rfl (S1.quiet [0] rfl) (fun E1 w1 S1 => c_raddleref25_sums E1 w1 p0 (.slice ad1 p0.length cp2) r30 hx31 S1) rfl (lb rfl) fun _ a w S => ?_
    refine sMove (.tuple #[iv r30.1, iv r30.2]) S (wN rfl) (.inl rfl) rfl rfl (lb rfl) fun a S => ?_
    refine sExtract (vs := [iv r30.1, iv r30.2]) (iv r30.1) S (wN rfl) rfl rfl rfl rfl (lb rfl) fun a S => ?_
    refine sExtract (vs := [iv r30.1, iv r30.2]) (iv r30.2) S (wN rfl) rfl rfl rfl rfl (lb rfl) fun a S => ?_
    refine sMove (iv r30.1) S (wN rfl) (.inr rfl) rfl rfl (lb rfl) fun a S => ?_
    refine sMove (iv r30.2) S (wN rfl) (.inr rfl) rfl rfl (lb rfl) fun a S => ?_
    refine leafL (leafT (hK29 _ _ ?_))
    refine sSeq (fun K32 hK32 => ?_)
    obtain ⟨t34, h, g35⟩ := bindSome h
    refine sCut (fun a w => ∃ o33, o33 = t34 ∧ St [] E [] w0 32 a w [(31, .bool o33)] [] []) ?_ (fun a w hI => ?_)
    rotate_left
    · obtain ⟨o33, rfl, S⟩ := hI
      have h := g35
      clear g35
      try dsimp only at h
      rcases iteSome h with ⟨hc37, h⟩ | ⟨hc37, h⟩
      · refine sCondT S rfl hc37 ?_
        refine sSeq (fun K38 hK38 => ?_)
        refine sRegion ?_
        refine sMove (iv 4) S (wN rfl) (.inr rfl) rfl rfl (lb rfl) fun a S => ?_
        refine leafL (leafT (hK38 _ _ ?_))
        obtain rfl := Option.some.inj h
        exact wp_ret (rThen (sRet (iv 4) S (rsl1 rfl (rvT (t := 2) (v := iv 4) S rfl)) ⟨(), rfl, S.mem.sel [] [] (by decide) rfl rfl⟩))
      refine sCondF S rfl hc37 ?_
      refine wp_skip (leafT (hK32 _ _ ?_))
      refine sSeq (fun K39 hK39 => ?_)
      refine sRegion ?_
      refine sMove (iv 0) S (wN rfl) (.inr rfl) rfl rfl (lb rfl) fun a S => ?_
      refine leafL (leafT (hK39 _ _ ?_))
      obtain rfl := Option.some.inj h
      exact wp_ret (sRet (iv 0) S (rsl1 rfl (rvT (t := 2) (v := iv 0) S rfl)) ⟨(), rfl, S.mem.sel [] [] (by decide) rfl rfl⟩)
    refine sRegion ?_
    refine sMove (iv r30.1) S (wN rfl) (.inl rfl) rfl rfl (lb rfl) fun a S => ?_
    refine sBin (.bool (decide (200 < r30.1))) S (wN rfl) rfl rfl rfl (bGt _ _ _ _ .i64 r30.1 200) rfl (lb rfl) fun a S => ?_
    refine sMove (.bool (decide (200 < r30.1))) S (wN rfl) (.inl rfl) rfl rfl (lb rfl) fun a S => ?_
    rcases iteSome h with ⟨hc36, h⟩ | ⟨hc36, h⟩
    · refine sSkip 2 false 28 29 S rfl rfl rfl hc36 rfl (lb rfl) fun a S => ?_
      refine sSkip 2 false 28 30 S rfl rfl rfl hc36 rfl (lb rfl) fun a S => ?_
      refine sPickT (.bool true) S (wN rfl) rfl rfl hc36 rfl rfl (lb rfl) fun a S => ?_
      exact leafL (leafT (⟨true, Option.some.inj h, S.fix [] [] (by decide) rfl rfl rfl⟩))
    refine sMove (iv r30.2) S (wG 2 false 28 rfl rfl rfl hc36) (.inl rfl) rfl rfl (lb rfl) fun a S => ?_
    refine sBin (.bool (decide (200 < r30.2))) S (wG 2 false 28 rfl rfl rfl hc36) rfl rfl rfl (bGt _ _ _ _ .i64 r30.2 200) rfl (lb rfl) fun a S => ?_
    refine sPickF (.bool (decide (200 < r30.2))) S (wN rfl) rfl rfl hc36 rfl rfl (lb rfl) fun a S => ?_
    exact leafL (leafT (⟨decide (200 < r30.2), Option.some.inj h, S.fix [] [] (by decide) rfl rfl rfl⟩))
  refine sSeq (fun K10 hK10 => ?_)
  refine sRegion ?_
  refine sMove (iv 0) S (wN rfl) (.inr rfl) rfl rfl (lb rfl) fun a S => ?_
  refine leafL (leafT (hK10 _ _ ?_))
  refine wp_block ?_
  obtain ⟨t14, hl, g13⟩ := bindSome h
  refine sLoop hl (fun s0 a w => match s0 with | s11 => St [] E [] w0 32 a w [(0, .slice ad1 p0.length cp2), (3, iv s11)] [] [fRep (rL r_api_Stitch) (.slice ad1 p0.length cp2) p0]) (S.fix [] [0] (by decide) rfl rfl rfl) ?_
  clear hl h
  intro s11 a w c0 hI h hu12
  unfold raddleref25_All_l1 at h
  dsimp only at h hI
  have S := hI
  refine sSeq (fun K15 hK15 => ?_)
  refine sSeq (fun K16 hK16 => ?_)
  refine sRegion ?_
  refine sMove (iv s11) S (wN rfl) (.inl rfl) rfl rfl (lb rfl) fun a S => ?_
  refine sMove (.slice ad1 p0.length cp2) S (wN rfl) (.inl rfl) rfl rfl (lb rfl) fun a S => ?_
  refine sLen (ad := ad1) (m := p0.length) (c := cp2) S (wN rfl) rfl Try.underlying70 rfl rfl (lb rfl) fun a S => ?_
  refine sBin (.bool (decide (s11 < (p0.length : Int)))) S (wN rfl) rfl rfl rfl (bLt _ _ _ _ .i64 s11 (p0.length : Int)) rfl (lb rfl) fun a S => ?_
  refine leafL (leafT (hK16 _ _ ?_))
  rcases iteSome h with ⟨hc17, h⟩ | ⟨hc17, h⟩
  rotate_left
  · refine sCondF S rfl hc17 ?_
    obtain rfl := Option.some.inj h
    obtain rfl := hu12 _ rfl
    have h := g13
    clear g13
    try dsimp only at h
    exact wp_exit (xThen (xThen (xHit (leafT (⟨Option.some.inj h, S.fix [] [0] (by decide) rfl rfl rfl⟩)))))
  refine sCondT S rfl hc17 ?_
  refine wp_skip (leafT (hK15 _ _ ?_))
  refine sSeq (fun K18 hK18 => ?_)
  refine wp_block ?_
  refine sSeq (fun K19 hK19 => ?_)
  refine sRegion ?_
  refine sMove (.slice ad1 p0.length cp2) S (wN rfl) (.inl rfl) rfl rfl (lb rfl) fun a S => ?_
  refine sMove (iv s11) S (wN rfl) (.inl rfl) rfl rfl (lb rfl) fun a S => ?_
  obtain ⟨x20, hx21, h⟩ := bindSome h
  obtain ⟨q22, hq23, S⟩ := pIdx (P := Try.prog) (r := r_api_Stitch) (v := .slice ad1 p0.length cp2) (xs := p0) (j := s11) 70 74 0 S Try.underlying70 rfl rfl hx21
  refine sIdxV (v := .slice ad1 p0.length cp2) (k := .i64) (j := s11) S (wN rfl) rfl rfl rfl hq23 rfl (lb rfl) fun a S => ?_
  obtain ⟨u24, S⟩ := pLoad (r := r_api_Stitch) (q := q22) (x := x20) 0 S rfl
  obtain rfl : u24 = .agg #[.int .u8 x20.Kind, .bool x20.Purl, iv x20.A, iv x20.B] := S.mem.know (i := 1) (e := fRep r_api_Stitch (u24) x20) rfl
  refine sLoadVN (vq := q22) 0 [.int .u8 x20.Kind, .bool x20.Purl, iv x20.A, iv x20.B] S (wN rfl) rfl rfl rfl rfl rfl rfl (lb rfl) fun a S => ?_
  obtain ⟨r25, hx26, h⟩ := bindSome h
  have S1 := S.mem
  refine sCallQ (X := Unit) (f := 88) (vs := [.agg #[.int .u8 x20.Kind, .bool x20.Purl, iv x20.A, iv x20.B]]) (val := fun _ => iv r25) S (wN rfl) rfl callee88 rfl (S1.quiet [1] rfl) (fun E1 w1 S1 => c_raddleref25_Check E1 w1 x20 (.agg #[.int .u8 x20.Kind, .bool x20.Purl, iv x20.A, iv x20.B]) r25 hx26 S1) rfl (lb rfl) fun _ a w S => ?_
  refine sBin (.bool (r25 != 0)) S (wN rfl) rfl rfl rfl (bNe _ _ _ _ .i64 r25 0) rfl (lb rfl) fun a S => ?_
  refine leafL (leafT (hK19 _ _ ?_))
  rcases iteSome h with ⟨hc27, h⟩ | ⟨hc27, h⟩
  rotate_left
  · refine sCondF S rfl hc27 ?_
    refine wp_skip (leafB (leafT (hK18 _ _ ?_)))
    refine sRegion ?_
    refine sMove (iv s11) S (wN rfl) (.inl rfl) rfl rfl (lb rfl) fun a S => ?_
    refine sBin (iv (w64 (s11 + 1))) S (wN rfl) rfl rfl rfl (bAdd _ _ _ _ s11 1) rfl (lb rfl) fun a S => ?_
    refine sMove (iv (w64 (s11 + 1))) S (wN rfl) (.inr rfl) rfl rfl (lb rfl) fun a S => ?_
    exact leafL (leafT (⟨w64 (s11 + 1), (Option.some.inj h).symm, (S.fix [] [3] (by decide) rfl rfl rfl)⟩))
  refine sCondT S rfl hc27 ?_
  refine sSeq (fun K28 hK28 => ?_)
  refine sRegion ?_
  refine sMove (iv 8) S (wN rfl) (.inr rfl) rfl rfl (lb rfl) fun a S => ?_
  refine leafL (leafT (hK28 _ _ ?_))
  obtain rfl := Option.some.inj h
  obtain rfl := hu12 _ rfl
  have h := g13
  clear g13
  try dsimp only at h
  obtain rfl := Option.some.inj h
  have h := g9
  clear g9
  try dsimp only at h
  obtain rfl := Option.some.inj h
  exact wp_ret (rBlock (rThen (rThen (rBlock (rThen (sRet (iv 8) S (rsl1 rfl (rvT (t := 2) (v := iv 8) S rfl)) ⟨(), rfl, S.mem.sel [] [] (by decide) rfl rfl⟩))))))

end Go.Proofs.Ytdbgkakmhlmpbaa
namespace Go.Proofs.Ytdbgkakmhlmpbaa
open Go.RowKit
set_option linter.unusedVariables false

noncomputable def F_raddleref25_Uses (p0 : (List api_Stitch)) : Option (Int × Int) :=
  Option.bind (F_raddleref25_All p0) fun r6 =>
  if r6 != 0 then
    some (0, r6)
  else
    Option.bind (F_raddleref25_sums p0) fun r11 =>
    some (r11.1, 0)
set_option maxHeartbeats 4000000 in
set_option maxRecDepth 100000 in
theorem c_raddleref25_Uses (E : Nat → Prop) (w0 : World) (p0 : (List api_Stitch)) (v0 : Value) (r : (Int × Int)) (h : F_raddleref25_Uses p0 = some r) (S : St0 E [] w0 w0 [] [fRep (rL r_api_Stitch) (v0) p0]) :
    Calls Try.prog 50 #[v0] w0 (Ret (X := Unit) E [] w0 (fun _ => .tuple #[.int .i64 r.1, .int .i64 r.2]) (fun _ => []) (fun _ => [])) := by
  unfold F_raddleref25_Uses at h
  obtain ⟨ad1, cp2, _, rfl, _⟩ := S.know (i := 0) (e := fRep (rL r_api_Stitch) (v0) p0) rfl
  refine sEnter (args := [.slice ad1 p0.length cp2]) 17 Try.func50 rfl rfl (by simp) S (fun a S => ?_)
  refine sSeq (fun K3 hK3 => ?_)
  refine sRegion ?_
  refine sMove (iv 0) S (wN rfl) (.inr rfl) rfl rfl (lb rfl) fun a S => ?_
  refine sMove (iv 0) S (wN rfl) (.inr rfl) rfl rfl (lb rfl) fun a S => ?_
  refine leafL (leafT (hK3 _ _ ?_))
  refine sSeq (fun K4 hK4 => ?_)
  refine sSeq (fun K5 hK5 => ?_)
  refine sRegion ?_
  refine sMove (.slice ad1 p0.length cp2) S (wN rfl) (.inl rfl) rfl rfl (lb rfl) fun a S => ?_
  obtain ⟨r6, hx7, h⟩ := bindSome h
  have S1 := S.mem
  refine sCallQ (X := Unit) (f := 66) (vs := [.slice ad1 p0.length cp2]) (val := fun _ => iv r6) S (wN rfl) rfl callee66 rfl (S1.quiet [0] rfl) (fun E1 w1 S1 => c_raddleref25_All E1 w1 p0 (.slice ad1 p0.length cp2) r6 hx7 S1) rfl (lb rfl) fun _ a w S => ?_
  refine sBin (.bool (r6 != 0)) S (wN rfl) rfl rfl rfl (bNe _ _ _ _ .i64 r6 0) rfl (lb rfl) fun a S => ?_
  refine leafL (leafT (hK5 _ _ ?_))
  rcases iteSome h with ⟨hc8, h⟩ | ⟨hc8, h⟩
  · refine sCondT S rfl hc8 ?_
    refine sSeq (fun K9 hK9 => ?_)
    refine sRegion ?_
    refine sMove (.slice ad1 p0.length cp2) S (wN rfl) (.inl rfl) rfl rfl (lb rfl) fun a S => ?_
    have S1 := S.mem
    refine sCallQ (X := Unit) (f := 66) (vs := [.slice ad1 p0.length cp2]) (val := fun _ => iv r6) S (wN rfl) rfl callee66 rfl (S1.quiet [0] rfl) (fun E1 w1 S1 => c_raddleref25_All E1 w1 p0 (.slice ad1 p0.length cp2) r6 hx7 S1) rfl (lb rfl) fun _ a w S => ?_
    refine sMove (iv 0) S (wN rfl) (.inr rfl) rfl rfl (lb rfl) fun a S => ?_
    refine sMove (iv r6) S (wN rfl) (.inr rfl) rfl rfl (lb rfl) fun a S => ?_
    refine leafL (leafT (hK9 _ _ ?_))
    obtain rfl := Option.some.inj h
    exact wp_ret (rThen (sRet (.tuple #[iv 0, iv r6]) S (rsl2 rfl (rvT (t := 2) (v := iv 0) S rfl) (rvT (t := 3) (v := iv r6) S rfl)) ⟨(), rfl, S.mem.sel [] [] (by decide) rfl rfl⟩))
  refine sCondF S rfl hc8 ?_
  refine wp_skip (leafT (hK4 _ _ ?_))
  refine sSeq (fun K10 hK10 => ?_)
  refine sRegion ?_
  refine sMove (.slice ad1 p0.length cp2) S (wN rfl) (.inl rfl) rfl rfl (lb rfl) fun a S => ?_
  obtain ⟨r11, hx12, h⟩ := bindSome h
  have S1 := S.mem
  refine sCallQ (X := Unit) (f := 70) (vs := [.slice ad1 p0.length cp2]) (val := fun _ => .tuple #[iv r11.1, iv r11.2]) S (wN rfl) rfl callee70 rfl (S1.quiet [0] rfl) (fun E1 w1 S1 => c_raddleref25_sums E1 w1 p0 (.slice ad1 p0.length cp2) r11 hx12 S1) rfl (lb rfl) fun _ a w S => ?_
  refine sMove (.tuple #[iv r11.1, iv r11.2]) S (wN rfl) (.inl rfl) rfl rfl (lb rfl) fun a S => ?_
  refine sExtract (vs := [iv r11.1, iv r11.2]) (iv r11.1) S (wN rfl) rfl rfl rfl rfl (lb rfl) fun a S => ?_
  refine sExtract (vs := [iv r11.1, iv r11.2]) (iv r11.2) S (wN rfl) rfl rfl rfl rfl (lb rfl) fun a S => ?_
  refine sMove (iv r11.1) S (wN rfl) (.inr rfl) rfl rfl (lb rfl) fun a S => ?_
  refine sMove (iv r11.2) S (wN rfl) (.inr rfl) rfl rfl (lb rfl) fun a S => ?_
  refine leafL (leafT (hK10 _ _ ?_))
  refine sSeq (fun K13 hK13 => ?_)
  refine sRegion ?_
  refine sMove (iv r11.1) S (wN rfl) (.inl rfl) rfl rfl (lb rfl) fun a S => ?_
  refine sMove (iv r11.1) S (wN rfl) (.inr rfl) rfl rfl (lb rfl) fun a S => ?_
  refine sMove (iv 0) S (wN rfl) (.inr rfl) rfl rfl (lb rfl) fun a S => ?_
  refine leafL (leafT (hK13 _ _ ?_))
  obtain rfl := Option.some.inj h
  exact wp_ret (sRet (.tuple #[iv r11.1, iv 0]) S (rsl2 rfl (rvT (t := 2) (v := iv r11.1) S rfl) (rvT (t := 3) (v := iv 0) S rfl)) ⟨(), rfl, S.mem.sel [] [] (by decide) rfl rfl⟩)

end Go.Proofs.Ytdbgkakmhlmpbaa
namespace Go.Proofs.Ytdbgkakmhlmpbaa
open Go.RowKit
set_option linter.unusedVariables false

noncomputable def F_raddleref25_Makes (p0 : (List api_Stitch)) : Option (Int × Int) :=
  Option.bind (F_raddleref25_All p0) fun r6 =>
  if r6 != 0 then
    some (0, r6)
  else
    Option.bind (F_raddleref25_sums p0) fun r11 =>
    some (r11.2, 0)
set_option maxHeartbeats 4000000 in
set_option maxRecDepth 100000 in
theorem c_raddleref25_Makes (E : Nat → Prop) (w0 : World) (p0 : (List api_Stitch)) (v0 : Value) (r : (Int × Int)) (h : F_raddleref25_Makes p0 = some r) (S : St0 E [] w0 w0 [] [fRep (rL r_api_Stitch) (v0) p0]) :
    Calls Try.prog 51 #[v0] w0 (Ret (X := Unit) E [] w0 (fun _ => .tuple #[.int .i64 r.1, .int .i64 r.2]) (fun _ => []) (fun _ => [])) := by
  unfold F_raddleref25_Makes at h
  obtain ⟨ad1, cp2, _, rfl, _⟩ := S.know (i := 0) (e := fRep (rL r_api_Stitch) (v0) p0) rfl
  refine sEnter (args := [.slice ad1 p0.length cp2]) 17 Try.func51 rfl rfl (by simp) S (fun a S => ?_)
  refine sSeq (fun K3 hK3 => ?_)
  refine sRegion ?_
  refine sMove (iv 0) S (wN rfl) (.inr rfl) rfl rfl (lb rfl) fun a S => ?_
  refine sMove (iv 0) S (wN rfl) (.inr rfl) rfl rfl (lb rfl) fun a S => ?_
  refine leafL (leafT (hK3 _ _ ?_))
  refine sSeq (fun K4 hK4 => ?_)
  refine sSeq (fun K5 hK5 => ?_)
  refine sRegion ?_
  refine sMove (.slice ad1 p0.length cp2) S (wN rfl) (.inl rfl) rfl rfl (lb rfl) fun a S => ?_
  obtain ⟨r6, hx7, h⟩ := bindSome h
  have S1 := S.mem
  refine sCallQ (X := Unit) (f := 66) (vs := [.slice ad1 p0.length cp2]) (val := fun _ => iv r6) S (wN rfl) rfl callee66 rfl (S1.quiet [0] rfl) (fun E1 w1 S1 => c_raddleref25_All E1 w1 p0 (.slice ad1 p0.length cp2) r6 hx7 S1) rfl (lb rfl) fun _ a w S => ?_
  refine sBin (.bool (r6 != 0)) S (wN rfl) rfl rfl rfl (bNe _ _ _ _ .i64 r6 0) rfl (lb rfl) fun a S => ?_
  refine leafL (leafT (hK5 _ _ ?_))
  rcases iteSome h with ⟨hc8, h⟩ | ⟨hc8, h⟩
  · refine sCondT S rfl hc8 ?_
    refine sSeq (fun K9 hK9 => ?_)
    refine sRegion ?_
    refine sMove (.slice ad1 p0.length cp2) S (wN rfl) (.inl rfl) rfl rfl (lb rfl) fun a S => ?_
    have S1 := S.mem
    refine sCallQ (X := Unit) (f := 66) (vs := [.slice ad1 p0.length cp2]) (val := fun _ => iv r6) S (wN rfl) rfl callee66 rfl (S1.quiet [0] rfl) (fun E1 w1 S1 => c_raddleref25_All E1 w1 p0 (.slice ad1 p0.length cp2) r6 hx7 S1) rfl (lb rfl) fun _ a w S => ?_
    refine sMove (iv 0) S (wN rfl) (.inr rfl) rfl rfl (lb rfl) fun a S => ?_
    refine sMove (iv r6) S (wN rfl) (.inr rfl) rfl rfl (lb rfl) fun a S => ?_
    refine leafL (leafT (hK9 _ _ ?_))
    obtain rfl := Option.some.inj h
    exact wp_ret (rThen (sRet (.tuple #[iv 0, iv r6]) S (rsl2 rfl (rvT (t := 2) (v := iv 0) S rfl) (rvT (t := 3) (v := iv r6) S rfl)) ⟨(), rfl, S.mem.sel [] [] (by decide) rfl rfl⟩))
  refine sCondF S rfl hc8 ?_
  refine wp_skip (leafT (hK4 _ _ ?_))
  refine sSeq (fun K10 hK10 => ?_)
  refine sRegion ?_
  refine sMove (.slice ad1 p0.length cp2) S (wN rfl) (.inl rfl) rfl rfl (lb rfl) fun a S => ?_
  obtain ⟨r11, hx12, h⟩ := bindSome h
  have S1 := S.mem
  refine sCallQ (X := Unit) (f := 70) (vs := [.slice ad1 p0.length cp2]) (val := fun _ => .tuple #[iv r11.1, iv r11.2]) S (wN rfl) rfl callee70 rfl (S1.quiet [0] rfl) (fun E1 w1 S1 => c_raddleref25_sums E1 w1 p0 (.slice ad1 p0.length cp2) r11 hx12 S1) rfl (lb rfl) fun _ a w S => ?_
  refine sMove (.tuple #[iv r11.1, iv r11.2]) S (wN rfl) (.inl rfl) rfl rfl (lb rfl) fun a S => ?_
  refine sExtract (vs := [iv r11.1, iv r11.2]) (iv r11.1) S (wN rfl) rfl rfl rfl rfl (lb rfl) fun a S => ?_
  refine sExtract (vs := [iv r11.1, iv r11.2]) (iv r11.2) S (wN rfl) rfl rfl rfl rfl (lb rfl) fun a S => ?_
  refine sMove (iv r11.1) S (wN rfl) (.inr rfl) rfl rfl (lb rfl) fun a S => ?_
  refine sMove (iv r11.2) S (wN rfl) (.inr rfl) rfl rfl (lb rfl) fun a S => ?_
  refine leafL (leafT (hK10 _ _ ?_))
  refine sSeq (fun K13 hK13 => ?_)
  refine sRegion ?_
  refine sMove (iv r11.2) S (wN rfl) (.inl rfl) rfl rfl (lb rfl) fun a S => ?_
  refine sMove (iv r11.2) S (wN rfl) (.inr rfl) rfl rfl (lb rfl) fun a S => ?_
  refine sMove (iv 0) S (wN rfl) (.inr rfl) rfl rfl (lb rfl) fun a S => ?_
  refine leafL (leafT (hK13 _ _ ?_))
  obtain rfl := Option.some.inj h
  exact wp_ret (sRet (.tuple #[iv r11.2, iv 0]) S (rsl2 rfl (rvT (t := 2) (v := iv r11.2) S rfl) (rvT (t := 3) (v := iv 0) S rfl)) ⟨(), rfl, S.mem.sel [] [] (by decide) rfl rfl⟩)

end Go.Proofs.Ytdbgkakmhlmpbaa
namespace Go.Proofs.Ytdbgkakmhlmpbaa
open Go.RowKit
set_option linter.unusedVariables false

noncomputable def raddleref26_Check_l1 (p0 : api_Chart) : (Int × Int) → Option ((Int × Int) ⊕ (Int ⊕ Unit)) := fun s0 => match s0 with
  | (s22, s23) =>
    if decide (s23 < (p0.Rows.length : Int)) then
      Option.bind (idxO p0.Rows s23) fun x32 =>
      Option.bind (F_raddleref25_Uses x32.Cells) fun r41 =>
      if r41.2 != 0 then
        some (.inr (.inl r41.2))
      else
        if r41.1 != s22 then
          some (.inr (.inl 26))
        else
          Option.bind (F_raddleref25_Makes x32.Cells) fun r58 =>
          some (.inl (r58.1, w64 (s23 + 1)))
    else
      some (.inr (.inr ()))
noncomputable def F_raddleref26_Check (p0 : api_Chart) : Option Int :=
  if decide (100 < (p0.Rows.length : Int)) then
    some 4
  else
    Option.bind (α := Bool) (
      if decide (p0.Start < 0) then
        some true
      else
        some (decide (200 < p0.Start))) fun o12 =>
    if o12 then
      some 8
    else
      Option.bind (α := Unit ⊕ Int) (
        Option.bind (whileO (raddleref26_Check_l1 p0) (p0.Start, 0)) fun z0 => match z0 with
          | .inl z =>
            some (.inr z)
          | .inr _ =>
            some (.inl ())) fun z0 => match z0 with
        | .inl _ =>
          some 0
        | .inr z =>
          some z
set_option maxHeartbeats 4000000 in
set_option maxRecDepth 100000 in
theorem c_raddleref26_Check (E : Nat → Prop) (w0 : World) (p0 : api_Chart) (v0 : Value) (r : Int) (h : F_raddleref26_Check p0 = some r) (S : St0 E [] w0 w0 [] [fRep r_api_Chart (v0) p0]) :
    Calls Try.prog 30 #[v0] w0 (Ret (X := Unit) E [] w0 (fun _ => .int .i64 r) (fun _ => []) (fun _ => [])) := by
  unfold F_raddleref26_Check at h
  obtain ⟨u1, rfl, hu2⟩ := S.know (i := 0) (e := fRep r_api_Chart (v0) p0) rfl
  have S := S.learn (fRep (rL r_api_Row) u1 p0.Rows) hu2
  obtain ⟨ad3, cp4, _, rfl, _⟩ := hu2
  refine sEnter (args := [.agg #[iv p0.Start, .slice ad3 p0.Rows.length cp4]]) 54 Try.func30 rfl rfl (by simp) S (fun a S => ?_)
  refine sSeq (fun K5 hK5 => ?_)
  refine sRegion ?_
  refine sBox (v := .agg #[iv p0.Start, .slice ad3 p0.Rows.length cp4]) S (wN rfl) rfl rfl [iv p0.Start, .slice ad3 p0.Rows.length cp4] rfl rfl (lb rfl) fun a b6 w S => ?_
  refine sMove (iv 0) S (wN rfl) (.inr rfl) rfl rfl (lb rfl) fun a S => ?_
  refine leafL (leafT (hK5 _ _ ?_))
  refine sSeq (fun K7 hK7 => ?_)
  refine sSeq (fun K8 hK8 => ?_)
  refine sRegion ?_
  refine sField (b := b6) (off := 0) 1 1 S (wN rfl) rfl rfl rfl rfl rfl (lb rfl) fun a S => ?_
  refine sLoad1 (p := b6) (off := 1) (T := 41) (vs := [iv p0.Start, .slice ad3 p0.Rows.length cp4]) 0 (.slice ad3 p0.Rows.length cp4) S (wN rfl) rfl rfl rfl rfl rfl rfl (lb rfl) fun a S => ?_
  refine sLen (ad := ad3) (m := p0.Rows.length) (c := cp4) S (wN rfl) rfl Try.underlying39 rfl rfl (lb rfl) fun a S => ?_
  refine sBin (.bool (decide (100 < (p0.Rows.length : Int)))) S (wN rfl) rfl rfl rfl (bGt _ _ _ _ .i64 (p0.Rows.length : Int) 100) rfl (lb rfl) fun a S => ?_
  refine leafL (leafT (hK8 _ _ ?_))
  rcases iteSome h with ⟨hc9, h⟩ | ⟨hc9, h⟩
  · refine sCondT S rfl hc9 ?_
    refine sSeq (fun K10 hK10 => ?_)
    refine sRegion ?_
    refine sMove (iv 4) S (wN rfl) (.inr rfl) rfl rfl (lb rfl) fun a S => ?_
    refine leafL (leafT (hK10 _ _ ?_))
    obtain rfl := Option.some.inj h
    exact wp_ret (rThen (sRet (iv 4) S (rsl1 rfl (rvT (t := 2) (v := iv 4) S rfl)) ⟨(), rfl, S.mem.sel [] [] (by decide) rfl rfl⟩))
  refine sCondF S rfl hc9 ?_
  refine wp_skip (leafT (hK7 _ _ ?_))
  refine sSeq (fun K11 hK11 => ?_)
  obtain ⟨t13, h, g14⟩ := bindSome h
  refine sCut (fun a w => ∃ o12, o12 = t13 ∧ St [] E [] w0 54 a w [(1, .pointer (some ⟨b6, 0, none⟩)), (18, .bool o12)] [eBox b6 41 [iv p0.Start, .slice ad3 p0.Rows.length cp4]] [fRep (rL r_api_Row) (.slice ad3 p0.Rows.length cp4) p0.Rows]) ?_ (fun a w hI => ?_)
  · refine sRegion ?_
    refine sField (b := b6) (off := 0) 0 0 S (wN rfl) rfl rfl rfl rfl rfl (lb rfl) fun a S => ?_
    refine sLoad1 (p := b6) (off := 0) (T := 41) (vs := [iv p0.Start, .slice ad3 p0.Rows.length cp4]) 0 (iv p0.Start) S (wN rfl) rfl rfl rfl rfl rfl rfl (lb rfl) fun a S => ?_
    refine sBin (.bool (decide (p0.Start < 0))) S (wN rfl) rfl rfl rfl (bLt _ _ _ _ .i64 p0.Start 0) rfl (lb rfl) fun a S => ?_
    refine sMove (.bool (decide (p0.Start < 0))) S (wN rfl) (.inl rfl) rfl rfl (lb rfl) fun a S => ?_
    rcases iteSome h with ⟨hc15, h⟩ | ⟨hc15, h⟩
    · refine sSkip 3 false 14 15 S rfl rfl rfl hc15 rfl (lb rfl) fun a S => ?_
      refine sSkip 3 false 14 16 S rfl rfl rfl hc15 rfl (lb rfl) fun a S => ?_
      refine sSkip 3 false 14 17 S rfl rfl rfl hc15 rfl (lb rfl) fun a S => ?_
      refine sPickT (.bool true) S (wN rfl) rfl rfl hc15 rfl rfl (lb rfl) fun a S => ?_
      exact leafL (leafT (⟨true, Option.some.inj h, S.fix [0] [0] (by decide) rfl rfl rfl⟩))
    refine sField (b := b6) (off := 0) 0 0 S (wG 3 false 14 rfl rfl rfl hc15) rfl rfl rfl rfl rfl (lb rfl) fun a S => ?_
    refine sLoad1 (p := b6) (off := 0) (T := 41) (vs := [iv p0.Start, .slice ad3 p0.Rows.length cp4]) 0 (iv p0.Start) S (wG 3 false 14 rfl rfl rfl hc15) rfl rfl rfl rfl rfl rfl (lb rfl) fun a S => ?_
    refine sBin (.bool (decide (200 < p0.Start))) S (wG 3 false 14 rfl rfl rfl hc15) rfl rfl rfl (bGt _ _ _ _ .i64 p0.Start 200) rfl (lb rfl) fun a S => ?_
    refine sPickF (.bool (decide (200 < p0.Start))) S (wN rfl) rfl rfl hc15 rfl rfl (lb rfl) fun a S => ?_
    exact leafL (leafT (⟨decide (200 < p0.Start), Option.some.inj h, S.fix [0] [0] (by decide) rfl rfl rfl⟩))
  obtain ⟨o12, rfl, S⟩ := hI
  have h := g14
  clear g14
  try dsimp only at h
  rcases iteSome h with ⟨hc16, h⟩ | ⟨hc16, h⟩
  · refine sCondT S rfl hc16 ?_
    refine sSeq (fun K17 hK17 => ?_)
    refine sRegion ?_
    refine sMove (iv 8) S (wN rfl) (.inr rfl) rfl rfl (lb rfl) fun a S => ?_
    refine leafL (leafT (hK17 _ _ ?_))
    obtain rfl := Option.some.inj h
    exact wp_ret (rThen (sRet (iv 8) S (rsl1 rfl (rvT (t := 2) (v := iv 8) S rfl)) ⟨(), rfl, S.mem.sel [] [] (by decide) rfl rfl⟩))
  refine sCondF S rfl hc16 ?_
  refine wp_skip (leafT (hK11 _ _ ?_))
  refine sSeq (fun K18 hK18 => ?_)
  refine sRegion ?_
  refine sField (b := b6) (off := 0) 0 0 S (wN rfl) rfl rfl rfl rfl rfl (lb rfl) fun a S => ?_
  refine sLoad1 (p := b6) (off := 0) (T := 41) (vs := [iv p0.Start, .slice ad3 p0.Rows.length cp4]) 0 (iv p0.Start) S (wN rfl) rfl rfl rfl rfl rfl rfl (lb rfl) fun a S => ?_
  refine sMove (iv p0.Start) S (wN rfl) (.inr rfl) rfl rfl (lb rfl) fun a S => ?_
  refine leafL (leafT (hK18 _ _ ?_))
  obtain ⟨t19, h, g20⟩ := bindSome h
  refine sCut (fun a w => .inl () = t19 ∧ St [] E [] w0 54 a w [] [] []) ?_ (fun a w hI => ?_)
  rotate_left
  · obtain ⟨rfl, S⟩ := hI
    have h := g20
    clear g20
    try dsimp only at h
    refine sSeq (fun K60 hK60 => ?_)
    refine sRegion ?_
    refine sMove (iv 0) S (wN rfl) (.inr rfl) rfl rfl (lb rfl) fun a S => ?_
    refine leafL (leafT (hK60 _ _ ?_))
    obtain rfl := Option.some.inj h
    exact wp_ret (sRet (iv 0) S (rsl1 rfl (rvT (t := 2) (v := iv 0) S rfl)) ⟨(), rfl, S.mem.sel [] [] (by decide) rfl rfl⟩)
  refine sSeq (fun K21 hK21 => ?_)
  refine sRegion ?_
  refine sMove (iv 0) S (wN rfl) (.inr rfl) rfl rfl (lb rfl) fun a S => ?_
  refine leafL (leafT (hK21 _ _ ?_))
  refine wp_block ?_
  obtain ⟨t26, hl, g25⟩ := bindSome h
  refine sLoop hl (fun s0 a w => match s0 with | (s22, s23) => St [] E [] w0 54 a w [(1, .pointer (some ⟨b6, 0, none⟩)), (3, iv s22), (4, iv s23)] [eBox b6 41 [iv p0.Start, .slice ad3 p0.Rows.length cp4]] [fRep (rL r_api_Row) (.slice ad3 p0.Rows.length cp4) p0.Rows]) (S.fix [0] [0] (by decide) rfl rfl rfl) ?_
  clear hl h
  intro s0 a w c0 hI h hu24
  obtain ⟨s22, s23⟩ := s0
  unfold raddleref26_Check_l1 at h
  dsimp only at h hI
  have S := hI
  refine sSeq (fun K27 hK27 => ?_)
  refine sSeq (fun K28 hK28 => ?_)
  refine sRegion ?_
  refine sMove (iv s23) S (wN rfl) (.inl rfl) rfl rfl (lb rfl) fun a S => ?_
  refine sField (b := b6) (off := 0) 1 1 S (wN rfl) rfl rfl rfl rfl rfl (lb rfl) fun a S => ?_
  refine sLoad1 (p := b6) (off := 1) (T := 41) (vs := [iv p0.Start, .slice ad3 p0.Rows.length cp4]) 0 (.slice ad3 p0.Rows.length cp4) S (wN rfl) rfl rfl rfl rfl rfl rfl (lb rfl) fun a S => ?_
  refine sLen (ad := ad3) (m := p0.Rows.length) (c := cp4) S (wN rfl) rfl Try.underlying39 rfl rfl (lb rfl) fun a S => ?_
  refine sBin (.bool (decide (s23 < (p0.Rows.length : Int)))) S (wN rfl) rfl rfl rfl (bLt _ _ _ _ .i64 s23 (p0.Rows.length : Int)) rfl (lb rfl) fun a S => ?_
  refine leafL (leafT (hK28 _ _ ?_))
  rcases iteSome h with ⟨hc29, h⟩ | ⟨hc29, h⟩
  rotate_left
  · refine sCondF S rfl hc29 ?_
    obtain rfl := Option.some.inj h
    obtain rfl := hu24 _ rfl
    have h := g25
    clear g25
    try dsimp only at h
    exact wp_exit (xThen (xThen (xHit (leafT (⟨Option.some.inj h, S.fix [] [] (by decide) rfl rfl rfl⟩)))))
  refine sCondT S rfl hc29 ?_
  refine wp_skip (leafT (hK27 _ _ ?_))
  refine sSeq (fun K30 hK30 => ?_)
  refine wp_block ?_
  refine sSeq (fun K31 hK31 => ?_)
  refine sRegion ?_
  refine sField (b := b6) (off := 0) 1 1 S (wN rfl) rfl rfl rfl rfl rfl (lb rfl) fun a S => ?_
  refine sLoad1 (p := b6) (off := 1) (T := 41) (vs := [iv p0.Start, .slice ad3 p0.Rows.length cp4]) 0 (.slice ad3 p0.Rows.length cp4) S (wN rfl) rfl rfl rfl rfl rfl rfl (lb rfl) fun a S => ?_
  refine sMove (iv s23) S (wN rfl) (.inl rfl) rfl rfl (lb rfl) fun a S => ?_
  obtain ⟨x32, hx33, h⟩ := bindSome h
  obtain ⟨q34, hq35, S⟩ := pIdx (P := Try.prog) (r := r_api_Row) (v := .slice ad3 p0.Rows.length cp4) (xs := p0.Rows) (j := s23) 39 72 0 S Try.underlying39 rfl rfl hx33
  refine sIdxV (v := .slice ad3 p0.Rows.length cp4) (k := .i64) (j := s23) S (wN rfl) rfl rfl rfl hq35 rfl (lb rfl) fun a S => ?_
  obtain ⟨q36, hq37, S⟩ := pFld (P := Try.prog) (r := r_api_Row) (s2 := (rL r_api_Stitch)) (g := (·.Cells)) (q := q34) (z := x32) 72 1 0 1 S rfl rfl comp_api_Row_Cells
  refine sFldV (q := q34) S (wN rfl) rfl rfl hq37 rfl (lb rfl) fun a S => ?_
  obtain ⟨u38, S⟩ := pLoad (r := (rL r_api_Stitch)) (q := q36) (x := x32.Cells) 0 S rfl
  obtain ⟨ad39, cp40, _, rfl, _⟩ := S.mem.know (i := 1) (e := fRep (rL r_api_Stitch) (u38) x32.Cells) rfl
  refine sLoadV1 (vq := q36) 0 (.slice ad39 x32.Cells.length cp40) S (wN rfl) rfl rfl rfl rfl rfl (lb rfl) fun a S => ?_
  obtain ⟨r41, hx42, h⟩ := bindSome h
  have S1 := S.mem
  refine sCallQ (X := Unit) (f := 50) (vs := [.slice ad39 x32.Cells.length cp40]) (val := fun _ => .tuple #[iv r41.1, iv r41.2]) S (wN rfl) rfl callee50 rfl (S1.quiet [1] rfl) (fun E1 w1 S1 => c_raddleref25_Uses E1 w1 x32.Cells (.slice ad39 x32.Cells.length cp40) r41 hx42 S1) rfl (lb rfl) fun _ a w S => ?_
  refine sMove (.tuple #[iv r41.1, iv r41.2]) S (wN rfl) (.inl rfl) rfl rfl (lb rfl) fun a S => ?_
  refine sExtract (vs := [iv r41.1, iv r41.2]) (iv r41.1) S (wN rfl) rfl rfl rfl rfl (lb rfl) fun a S => ?_
  refine sExtract (vs := [iv r41.1, iv r41.2]) (iv r41.2) S (wN rfl) rfl rfl rfl rfl (lb rfl) fun a S => ?_
  refine sMove (iv r41.1) S (wN rfl) (.inr rfl) rfl rfl (lb rfl) fun a S => ?_
  refine sMove (iv r41.2) S (wN rfl) (.inr rfl) rfl rfl (lb rfl) fun a S => ?_
  refine leafL (leafT (hK31 _ _ ?_))
  refine sSeq (fun K43 hK43 => ?_)
  refine sSeq (fun K44 hK44 => ?_)
  refine sRegion ?_
  refine sMove (iv r41.2) S (wN rfl) (.inl rfl) rfl rfl (lb rfl) fun a S => ?_
  refine sBin (.bool (r41.2 != 0)) S (wN rfl) rfl rfl rfl (bNe _ _ _ _ .i64 r41.2 0) rfl (lb rfl) fun a S => ?_
  refine leafL (leafT (hK44 _ _ ?_))
  rcases iteSome h with ⟨hc45, h⟩ | ⟨hc45, h⟩
  · refine sCondT S rfl hc45 ?_
    refine sSeq (fun K46 hK46 => ?_)
    refine sRegion ?_
    refine sMove (iv r41.2) S (wN rfl) (.inl rfl) rfl rfl (lb rfl) fun a S => ?_
    refine sMove (iv r41.2) S (wN rfl) (.inr rfl) rfl rfl (lb rfl) fun a S => ?_
    refine leafL (leafT (hK46 _ _ ?_))
    obtain rfl := Option.some.inj h
    obtain rfl := hu24 _ rfl
    have h := g25
    clear g25
    try dsimp only at h
    obtain rfl := Option.some.inj h
    have h := g20
    clear g20
    try dsimp only at h
    obtain rfl := Option.some.inj h
    exact wp_ret (rThen (rBlock (rThen (rThen (rBlock (rThen (sRet (iv r41.2) S (rsl1 rfl (rvT (t := 2) (v := iv r41.2) S rfl)) ⟨(), rfl, S.mem.sel [] [] (by decide) rfl rfl⟩)))))))
  refine sCondF S rfl hc45 ?_
  refine wp_skip (leafT (hK43 _ _ ?_))
  refine sSeq (fun K47 hK47 => ?_)
  refine sSeq (fun K48 hK48 => ?_)
  refine sRegion ?_
  refine sMove (iv r41.1) S (wN rfl) (.inl rfl) rfl rfl (lb rfl) fun a S => ?_
  refine sMove (iv s22) S (wN rfl) (.inl rfl) rfl rfl (lb rfl) fun a S => ?_
  refine sBin (.bool (r41.1 != s22)) S (wN rfl) rfl rfl rfl (bNe _ _ _ _ .i64 r41.1 s22) rfl (lb rfl) fun a S => ?_
  refine leafL (leafT (hK48 _ _ ?_))
  rcases iteSome h with ⟨hc49, h⟩ | ⟨hc49, h⟩
  · refine sCondT S rfl hc49 ?_
    refine sSeq (fun K50 hK50 => ?_)
    refine sRegion ?_
    refine sMove (iv 26) S (wN rfl) (.inr rfl) rfl rfl (lb rfl) fun a S => ?_
    refine leafL (leafT (hK50 _ _ ?_))
    obtain rfl := Option.some.inj h
    obtain rfl := hu24 _ rfl
    have h := g25
    clear g25
    try dsimp only at h
    obtain rfl := Option.some.inj h
    have h := g20
    clear g20
    try dsimp only at h
    obtain rfl := Option.some.inj h
    exact wp_ret (rThen (rBlock (rThen (rThen (rBlock (rThen (sRet (iv 26) S (rsl1 rfl (rvT (t := 2) (v := iv 26) S rfl)) ⟨(), rfl, S.mem.sel [] [] (by decide) rfl rfl⟩)))))))
  refine sCondF S rfl hc49 ?_
  refine wp_skip (leafT (hK47 _ _ ?_))
  refine sRegion ?_
  refine sField (b := b6) (off := 0) 1 1 S (wN rfl) rfl rfl rfl rfl rfl (lb rfl) fun a S => ?_
  refine sLoad1 (p := b6) (off := 1) (T := 41) (vs := [iv p0.Start, .slice ad3 p0.Rows.length cp4]) 0 (.slice ad3 p0.Rows.length cp4) S (wN rfl) rfl rfl rfl rfl rfl rfl (lb rfl) fun a S => ?_
  refine sMove (iv s23) S (wN rfl) (.inl rfl) rfl rfl (lb rfl) fun a S => ?_
  obtain ⟨q51, hq52, S⟩ := pIdx (P := Try.prog) (r := r_api_Row) (v := .slice ad3 p0.Rows.length cp4) (xs := p0.Rows) (j := s23) 39 72 4 S Try.underlying39 rfl rfl hx33
  refine sIdxV (v := .slice ad3 p0.Rows.length cp4) (k := .i64) (j := s23) S (wN rfl) rfl rfl rfl hq52 rfl (lb rfl) fun a S => ?_
  obtain ⟨q53, hq54, S⟩ := pFld (P := Try.prog) (r := r_api_Row) (s2 := (rL r_api_Stitch)) (g := (·.Cells)) (q := q51) (z := x32) 72 1 0 1 S rfl rfl comp_api_Row_Cells
  refine sFldV (q := q51) S (wN rfl) rfl rfl hq54 rfl (lb rfl) fun a S => ?_
  obtain ⟨u55, S⟩ := pLoad (r := (rL r_api_Stitch)) (q := q53) (x := x32.Cells) 0 S rfl
  obtain ⟨ad56, cp57, _, rfl, _⟩ := S.mem.know (i := 1) (e := fRep (rL r_api_Stitch) (u55) x32.Cells) rfl
  refine sLoadV1 (vq := q53) 0 (.slice ad56 x32.Cells.length cp57) S (wN rfl) rfl rfl rfl rfl rfl (lb rfl) fun a S => ?_
  obtain ⟨r58, hx59, h⟩ := bindSome h
  have S1 := S.mem
  refine sCallQ (X := Unit) (f := 51) (vs := [.slice ad56 x32.Cells.length cp57]) (val := fun _ => .tuple #[iv r58.1, iv r58.2]) S (wN rfl) rfl callee51 rfl (S1.quiet [1] rfl) (fun E1 w1 S1 => c_raddleref25_Makes E1 w1 x32.Cells (.slice ad56 x32.Cells.length cp57) r58 hx59 S1) rfl (lb rfl) fun _ a w S => ?_
  refine sMove (.tuple #[iv r58.1, iv r58.2]) S (wN rfl) (.inl rfl) rfl rfl (lb rfl) fun a S => ?_
  refine sExtract (vs := [iv r58.1, iv r58.2]) (iv r58.1) S (wN rfl) rfl rfl rfl rfl (lb rfl) fun a S => ?_
  refine sExtract (vs := [iv r58.1, iv r58.2]) (iv r58.2) S (wN rfl) rfl rfl rfl rfl (lb rfl) fun a S => ?_
  refine sMove (iv r58.1) S (wN rfl) (.inr rfl) rfl rfl (lb rfl) fun a S => ?_
  refine leafL (leafB (leafT (hK30 _ _ ?_)))
  refine sRegion ?_
  refine sMove (iv s23) S (wN rfl) (.inl rfl) rfl rfl (lb rfl) fun a S => ?_
  refine sBin (iv (w64 (s23 + 1))) S (wN rfl) rfl rfl rfl (bAdd _ _ _ _ s23 1) rfl (lb rfl) fun a S => ?_
  refine sMove (iv (w64 (s23 + 1))) S (wN rfl) (.inr rfl) rfl rfl (lb rfl) fun a S => ?_
  exact leafL (leafT (⟨(r58.1, w64 (s23 + 1)), (Option.some.inj h).symm, (S.fix [0] [8] (by decide) rfl rfl rfl)⟩))

end Go.Proofs.Ytdbgkakmhlmpbaa
namespace Go.Proofs.Ytdbgkakmhlmpbaa
open Go.RowKit
set_option linter.unusedVariables false

noncomputable def raddleref25_Cut_l1 (p0 : ByteArray) (p1 : Int) : (List ByteArray × Int × Int) → Option ((List ByteArray × Int × Int) ⊕ List ByteArray) := fun s0 => match s0 with
  | (s10, s13, s14) =>
    if decide (s14 ≤ (p0.size : Int)) then
      Option.bind (α := (List ByteArray × Int)) (
        Option.bind (α := Bool) (
          if s14 == (p0.size : Int) then
            some true
          else
            Option.bind (idxS p0 s14) fun x34 =>
            some (x34 == p1)) fun o30 =>
        if o30 then
          Option.bind (sliceS p0 s13 s14) fun y38 =>
          Option.bind (appO s10 [y38]) fun l42 =>
          some (l42, w64 (s14 + 1))
        else
          some (s10, s13)) fun (o24, o27) =>
      some (.inl (o24, o27, w64 (s14 + 1)))
    else
      some (.inr s10)
noncomputable def F_raddleref25_Cut (p0 : ByteArray) (p1 : Int) : Option (List ByteArray) :=
  Option.bind (α := List ByteArray) (
    Option.bind (whileO (raddleref25_Cut_l1 p0 p1) (([] : List ByteArray), 0, 0)) fun e18 =>
      some e18) fun o4 =>
  some o4
def c_raddleref25_Cut_val (r : (List ByteArray)) (x : Value) : Value := x
def c_raddleref25_Cut_D (r : (List ByteArray)) (x : Value) : List Fact := [fRep (rL rS) x r]
set_option maxHeartbeats 4000000 in
set_option maxRecDepth 100000 in
theorem c_raddleref25_Cut (E : Nat → Prop) (w0 : World) (p0 : ByteArray) (p1 : Int) (r : (List ByteArray)) (h : F_raddleref25_Cut p0 p1 = some r) (S : St0 E [] w0 w0 [] []) :
    Calls Try.prog 46 #[.string p0, .int .u8 p1] w0 (Ret (X := Value) E [] w0 (c_raddleref25_Cut_val r) (fun _ => []) (c_raddleref25_Cut_D r)) := by
  unfold F_raddleref25_Cut at h
  refine sEnter (args := [.string p0, .int .u8 p1]) 35 Try.func46 rfl rfl (by simp) S (fun a S => ?_)
  refine sSeq (fun K1 hK1 => ?_)
  refine sRegion ?_
  refine sMove (.slice none 0 0) S (wN rfl) (.inr rfl) rfl rfl (lb rfl) fun a S => ?_
  refine leafL (leafT (hK1 _ _ ?_))
  refine sSeq (fun K2 hK2 => ?_)
  refine sRegion ?_
  refine sMove (.slice none 0 0) S (wN rfl) (.inr rfl) rfl rfl (lb rfl) fun a S => ?_
  refine leafL (leafT (hK2 _ _ ?_))
  refine sSeq (fun K3 hK3 => ?_)
  refine sRegion ?_
  refine sMove (iv 0) S (wN rfl) (.inr rfl) rfl rfl (lb rfl) fun a S => ?_
  refine leafL (leafT (hK3 _ _ ?_))
  obtain ⟨t7, h, g8⟩ := bindSome h
  refine sCut (fun a w => ∃ o4, o4 = t7 ∧ ∃ ad5, ∃ cp6, St [] E [] w0 35 a w [(5, .slice ad5 o4.length cp6)] [eRow rS 9 (.slice ad5 o4.length cp6) o4] []) ?_ (fun a w hI => ?_)
  rotate_left
  · obtain ⟨o4, rfl, ad5, cp6, S⟩ := hI
    have h := g8
    clear g8
    try dsimp only at h
    refine sSeq (fun K46 hK46 => ?_)
    refine sRegion ?_
    refine sMove (.slice ad5 o4.length cp6) S (wN rfl) (.inl rfl) rfl rfl (lb rfl) fun a S => ?_
    refine sMove (.slice ad5 o4.length cp6) S (wN rfl) (.inr rfl) rfl rfl (lb rfl) fun a S => ?_
    refine leafL (leafT (hK46 _ _ ?_))
    obtain rfl := Option.some.inj h
    have S := S.shutR (r := rS) (T := 9) (v := .slice ad5 o4.length cp6) (xs := o4) 0 rfl
    exact wp_ret (sRet (.slice ad5 o4.length cp6) S (rsl1 rfl (rvT (t := 4) (v := .slice ad5 o4.length cp6) S rfl)) ⟨(.slice ad5 o4.length cp6), rfl, S.mem.sel [] [0] (by decide) rfl rfl⟩)
  refine sSeq (fun K9 hK9 => ?_)
  refine sRegion ?_
  refine sMove (iv 0) S (wN rfl) (.inr rfl) rfl rfl (lb rfl) fun a S => ?_
  refine leafL (leafT (hK9 _ _ ?_))
  refine wp_block ?_
  have S := S.nilRow rS 9 (α := ByteArray)
  obtain ⟨t17, hl, g16⟩ := bindSome h
  refine sLoop hl (fun s0 a w => match s0 with | (s10, s13, s14) => ∃ ad11, ∃ cp12, St [] E [] w0 35 a w [(0, .string p0), (1, .int .u8 p1), (5, .slice ad11 s10.length cp12), (6, iv s13), (7, iv s14)] [eRow rS 9 (.slice ad11 s10.length cp12) s10] []) ⟨none, 0, S.fix [0] [] (by decide) rfl rfl rfl⟩ ?_
  clear hl h
  intro s0 a w c0 hI h hu15
  obtain ⟨s10, s13, s14⟩ := s0
  unfold raddleref25_Cut_l1 at h
  dsimp only at h hI
  obtain ⟨ad11, cp12, S⟩ := hI
  refine sSeq (fun K21 hK21 => ?_)
  refine sSeq (fun K22 hK22 => ?_)
  refine sRegion ?_
  refine sMove (iv s14) S (wN rfl) (.inl rfl) rfl rfl (lb rfl) fun a S => ?_
  refine sMove (.string p0) S (wN rfl) (.inl rfl) rfl rfl (lb rfl) fun a S => ?_
  refine sLenS (v := p0) S (wN rfl) rfl Try.underlying9 rfl rfl (lb rfl) fun a S => ?_
  refine sBin (.bool (decide (s14 ≤ (p0.size : Int)))) S (wN rfl) rfl rfl rfl (bLe _ _ _ _ .i64 s14 (p0.size : Int)) rfl (lb rfl) fun a S => ?_
  refine leafL (leafT (hK22 _ _ ?_))
  rcases iteSome h with ⟨hc23, h⟩ | ⟨hc23, h⟩
  rotate_left
  · refine sCondF S rfl hc23 ?_
    obtain rfl := Option.some.inj h
    obtain rfl := hu15 _ rfl
    have h := g16
    clear g16
    try dsimp only at h
    exact wp_exit (xThen (xThen (xHit (leafT (⟨s10, Option.some.inj h, ad11, cp12, S.fix [0] [] (by decide) rfl rfl rfl⟩)))))
  refine sCondT S rfl hc23 ?_
  refine wp_skip (leafT (hK21 _ _ ?_))
  obtain ⟨t28, h, g29⟩ := bindSome h
  refine sCut (fun a w => ∃ o24, ∃ o27, (o24, o27) = t28 ∧ ∃ ad25, ∃ cp26, St [] E [] w0 35 a w [(0, .string p0), (1, .int .u8 p1), (5, .slice ad25 o24.length cp26), (6, iv o27), (7, iv s14)] [eRow rS 9 (.slice ad25 o24.length cp26) o24] []) ?_ (fun a w hI => ?_)
  rotate_left
  · obtain ⟨o24, o27, rfl, ad25, cp26, S⟩ := hI
    have h := g29
    clear g29
    try dsimp only at h
    refine sRegion ?_
    refine sMove (iv s14) S (wN rfl) (.inl rfl) rfl rfl (lb rfl) fun a S => ?_
    refine sBin (iv (w64 (s14 + 1))) S (wN rfl) rfl rfl rfl (bAdd _ _ _ _ s14 1) rfl (lb rfl) fun a S => ?_
    refine sMove (iv (w64 (s14 + 1))) S (wN rfl) (.inr rfl) rfl rfl (lb rfl) fun a S => ?_
    exact leafL (leafT (⟨(o24, o27, w64 (s14 + 1)), (Option.some.inj h).symm, ⟨ad25, cp26, S.fix [0] [] (by decide) rfl rfl rfl⟩⟩))
  refine wp_block ?_
  obtain ⟨t31, h, g32⟩ := bindSome h
  refine sCut (fun a w => ∃ o30, o30 = t31 ∧ St [] E [] w0 35 a w [(0, .string p0), (1, .int .u8 p1), (5, .slice ad11 s10.length cp12), (6, iv s13), (7, iv s14), (24, .bool o30)] [eRow rS 9 (.slice ad11 s10.length cp12) s10] []) ?_ (fun a w hI => ?_)
  · refine sRegion ?_
    refine sMove (iv s14) S (wN rfl) (.inl rfl) rfl rfl (lb rfl) fun a S => ?_
    refine sMove (.string p0) S (wN rfl) (.inl rfl) rfl rfl (lb rfl) fun a S => ?_
    refine sLenS (v := p0) S (wN rfl) rfl Try.underlying9 rfl rfl (lb rfl) fun a S => ?_
    refine sBin (.bool (s14 == (p0.size : Int))) S (wN rfl) rfl rfl rfl (bEq _ _ _ _ .i64 s14 (p0.size : Int)) rfl (lb rfl) fun a S => ?_
    refine sMove (.bool (s14 == (p0.size : Int))) S (wN rfl) (.inl rfl) rfl rfl (lb rfl) fun a S => ?_
    rcases iteSome h with ⟨hc33, h⟩ | ⟨hc33, h⟩
    · refine sSkip 4 false 18 19 S rfl rfl rfl hc33 rfl (lb rfl) fun a S => ?_
      refine sSkip 4 false 18 20 S rfl rfl rfl hc33 rfl (lb rfl) fun a S => ?_
      refine sSkip 4 false 18 21 S rfl rfl rfl hc33 rfl (lb rfl) fun a S => ?_
      refine sSkip 4 false 18 22 S rfl rfl rfl hc33 rfl (lb rfl) fun a S => ?_
      refine sSkip 4 false 18 23 S rfl rfl rfl hc33 rfl (lb rfl) fun a S => ?_
      refine sPickT (.bool true) S (wN rfl) rfl rfl hc33 rfl rfl (lb rfl) fun a S => ?_
      exact leafL (leafT (⟨true, Option.some.inj h, S.fix [0] [] (by decide) rfl rfl rfl⟩))
    refine sMove (.string p0) S (wG 4 false 18 rfl rfl rfl hc33) (.inl rfl) rfl rfl (lb rfl) fun a S => ?_
    refine sMove (iv s14) S (wG 4 false 18 rfl rfl rfl hc33) (.inl rfl) rfl rfl (lb rfl) fun a S => ?_
    obtain ⟨x34, hx35, h⟩ := bindSome h
    refine sIndexS (v := p0) (j := s14) (k := .i64) S (wG 4 false 18 rfl rfl rfl hc33) rfl Try.underlying9 rfl rfl hx35 rfl (lb rfl) fun a S => ?_
    refine sMove (.int .u8 p1) S (wG 4 false 18 rfl rfl rfl hc33) (.inl rfl) rfl rfl (lb rfl) fun a S => ?_
    refine sBin (.bool (x34 == p1)) S (wG 4 false 18 rfl rfl rfl hc33) rfl rfl rfl (bEq _ _ _ _ .u8 x34 p1) rfl (lb rfl) fun a S => ?_
    refine sPickF (.bool (x34 == p1)) S (wN rfl) rfl rfl hc33 rfl rfl (lb rfl) fun a S => ?_
    exact leafL (leafT (⟨x34 == p1, Option.some.inj h, S.fix [0] [] (by decide) rfl rfl rfl⟩))
  obtain ⟨o30, rfl, S⟩ := hI
  have h := g32
  clear g32
  try dsimp only at h
  rcases iteSome h with ⟨hc36, h⟩ | ⟨hc36, h⟩
  rotate_left
  · refine sCondF S rfl hc36 ?_
    exact wp_skip (leafB (leafT (⟨s10, s13, Option.some.inj h, ad11, cp12, S.fix [0] [] (by decide) rfl rfl rfl⟩)))
  refine sCondT S rfl hc36 ?_
  refine sSeq (fun K37 hK37 => ?_)
  refine sRegion ?_
  refine sMove (.slice ad11 s10.length cp12) S (wN rfl) (.inl rfl) rfl rfl (lb rfl) fun a S => ?_
  refine sMove (.string p0) S (wN rfl) (.inl rfl) rfl rfl (lb rfl) fun a S => ?_
  refine sMove (iv s13) S (wN rfl) (.inl rfl) rfl rfl (lb rfl) fun a S => ?_
  refine sMove (iv s14) S (wN rfl) (.inl rfl) rfl rfl (lb rfl) fun a S => ?_
  obtain ⟨y38, hx39, h⟩ := bindSome h
  refine sSliceS (v := p0) (u := y38) (vlo := (some (.int .i64 s13))) (vhi := (some (.int .i64 s14))) (lo' := s13) (hi' := s14) S (wN rfl) rfl Try.underlying9 rfl rfl rfl (.inl rfl) (.inl rfl) hx39 rfl (lb rfl) fun a S => ?_
  refine sLit (r := rS) (T := 9) (xs := [y38]) [(0, .string y38)] 1 [.string y38] [.string y38] (.string (⟨#[]⟩ : ByteArray)) 16 S (wN rfl) rfl rfl Try.underlying94 rfl (by decide) (by decide) (by kernel_rfl) rfl (fun E1 w1 hE => All.cons rfl (All.nil _ _ _)) rfl rfl (lb rfl) fun a w ad40 cp41 S => ?_
  obtain ⟨l42, hx43, h⟩ := bindSome h
  refine sApp (r := rS) (T := 9) (xs := s10) (ys := [y38]) (v := .slice ad11 s10.length cp12) (u := .slice ad40 [y38].length cp41) 1 (.string (⟨#[]⟩ : ByteArray)) 16 S (wN rfl) rfl Try.underlying94 rfl rfl (by decide) rfl rfl rfl (src_R (T := 9) 0 S.mem rfl) hx43 rfl (lb rfl) fun a w ad44 cp45 S => ?_
  refine sMove (.slice ad44 l42.length cp45) S (wN rfl) (.inr rfl) rfl rfl (lb rfl) fun a S => ?_
  refine leafL (leafT (hK37 _ _ ?_))
  refine sRegion ?_
  refine sMove (iv s14) S (wN rfl) (.inl rfl) rfl rfl (lb rfl) fun a S => ?_
  refine sBin (iv (w64 (s14 + 1))) S (wN rfl) rfl rfl rfl (bAdd _ _ _ _ s14 1) rfl (lb rfl) fun a S => ?_
  refine sMove (iv (w64 (s14 + 1))) S (wN rfl) (.inr rfl) rfl rfl (lb rfl) fun a S => ?_
  exact leafL (leafB (leafT (⟨l42, w64 (s14 + 1), Option.some.inj h, ad44, cp45, S.fix [0] [] (by decide) rfl rfl rfl⟩)))

end Go.Proofs.Ytdbgkakmhlmpbaa
namespace Go.Proofs.Ytdbgkakmhlmpbaa
open Go.RowKit
set_option linter.unusedVariables false

noncomputable def raddleref25_Number_l1 (p0 : ByteArray) : (Int × Int) → Option ((Int × Int) ⊕ ((Int × Bool) ⊕ Int)) := fun s0 => match s0 with
  | (s18, s19) =>
    if decide (s19 < (p0.size : Int)) then
      Option.bind (α := Bool) (
        Option.bind (idxS p0 s19) fun x32 =>
        if decide (x32 < 48) then
          some true
        else
          some (decide (57 < x32))) fun o29 =>
      if o29 then
        some (.inr (.inl (0, false)))
      else
        Option.bind (idxS p0 s19) fun x37 =>
        some (.inl (w64 ((w64 (10 * s18)) + (IntKind.i64.wrap (IntKind.u8.wrap (x37 - 48)))), w64 (s19 + 1)))
    else
      some (.inr (.inr s18))
noncomputable def F_raddleref25_Number (p0 : ByteArray) : Option (Int × Bool) :=
  Option.bind (α := Bool) (
    if (p0.size : Int) == 0 then
      some true
    else
      if decide (4 < (p0.size : Int)) then
        some true
      else
        if decide (1 < (p0.size : Int)) then
          Option.bind (idxS p0 0) fun x9 =>
          some (x9 == 48)
        else
          some false) fun o3 =>
  if o3 then
    some (0, false)
  else
    Option.bind (α := Int ⊕ (Int × Bool)) (
      Option.bind (whileO (raddleref25_Number_l1 p0) (0, 0)) fun z0 => match z0 with
        | .inl z =>
          some (.inr z)
        | .inr e23 =>
          some (.inl e23)) fun z0 => match z0 with
      | .inl o14 =>
        some (o14, true)
      | .inr z =>
        some z
set_option maxHeartbeats 4000000 in
set_option maxRecDepth 100000 in
theorem c_raddleref25_Number (E : Nat → Prop) (w0 : World) (p0 : ByteArray) (r : (Int × Bool)) (h : F_raddleref25_Number p0 = some r) (S : St0 E [] w0 w0 [] []) :
    Calls Try.prog 47 #[.string p0] w0 (Ret (X := Unit) E [] w0 (fun _ => .tuple #[.int .i64 r.1, .bool r.2]) (fun _ => []) (fun _ => [])) := by
  unfold F_raddleref25_Number at h
  refine sEnter (args := [.string p0]) 49 Try.func47 rfl rfl (by simp) S (fun a S => ?_)
  refine sSeq (fun K1 hK1 => ?_)
  refine sRegion ?_
  refine sMove (iv 0) S (wN rfl) (.inr rfl) rfl rfl (lb rfl) fun a S => ?_
  refine sMove (.bool false) S (wN rfl) (.inr rfl) rfl rfl (lb rfl) fun a S => ?_
  refine leafL (leafT (hK1 _ _ ?_))
  refine sSeq (fun K2 hK2 => ?_)
  obtain ⟨t4, h, g5⟩ := bindSome h
  refine sCut (fun a w => ∃ o3, o3 = t4 ∧ St [] E [] w0 49 a w [(0, .string p0), (23, .bool o3)] [] []) ?_ (fun a w hI => ?_)
  · refine sRegion ?_
    refine sMove (.string p0) S (wN rfl) (.inl rfl) rfl rfl (lb rfl) fun a S => ?_
    refine sLenS (v := p0) S (wN rfl) rfl Try.underlying9 rfl rfl (lb rfl) fun a S => ?_
    refine sBin (.bool ((p0.size : Int) == 0)) S (wN rfl) rfl rfl rfl (bEq _ _ _ _ .i64 (p0.size : Int) 0) rfl (lb rfl) fun a S => ?_
    refine sMove (.bool ((p0.size : Int) == 0)) S (wN rfl) (.inl rfl) rfl rfl (lb rfl) fun a S => ?_
    rcases iteSome h with ⟨hc6, h⟩ | ⟨hc6, h⟩
    · refine sSkip 3 false 9 10 S rfl rfl rfl hc6 rfl (lb rfl) fun a S => ?_
      refine sSkip 3 false 9 11 S rfl rfl rfl hc6 rfl (lb rfl) fun a S => ?_
      refine sSkip 3 false 9 12 S rfl rfl rfl hc6 rfl (lb rfl) fun a S => ?_
      refine sPickT (.bool true) S (wN rfl) rfl rfl hc6 rfl rfl (lb rfl) fun a S => ?_
      refine sMove (.bool true) S (wN rfl) (.inl rfl) rfl rfl (lb rfl) fun a S => ?_
      refine sSkip 8 false 14 15 S rfl rfl rfl rfl rfl (lb rfl) fun a S => ?_
      refine sSkip 8 false 14 16 S rfl rfl rfl rfl rfl (lb rfl) fun a S => ?_
      refine sSkip 8 false 14 17 S rfl rfl rfl rfl rfl (lb rfl) fun a S => ?_
      refine sSkip 8 false 14 18 S rfl rfl rfl rfl rfl (lb rfl) fun a S => ?_
      refine sSkipU 12 true 18 19 S rfl rfl rfl rfl (lb rfl) fun a S => ?_
      refine sSkipU 12 true 18 20 S rfl rfl rfl rfl (lb rfl) fun a S => ?_
      refine sSkipU 12 true 18 21 S rfl rfl rfl rfl (lb rfl) fun a S => ?_
      refine sSkip 8 false 14 22 S rfl rfl rfl rfl rfl (lb rfl) fun a S => ?_
      refine sPickT (.bool true) S (wN rfl) rfl rfl rfl rfl rfl (lb rfl) fun a S => ?_
      exact leafL (leafT (⟨true, Option.some.inj h, S.fix [] [] (by decide) rfl rfl rfl⟩))
    refine sMove (.string p0) S (wG 3 false 9 rfl rfl rfl hc6) (.inl rfl) rfl rfl (lb rfl) fun a S => ?_
    refine sLenS (v := p0) S (wG 3 false 9 rfl rfl rfl hc6) rfl Try.underlying9 rfl rfl (lb rfl) fun a S => ?_
    refine sBin (.bool (decide (4 < (p0.size : Int)))) S (wG 3 false 9 rfl rfl rfl hc6) rfl rfl rfl (bGt _ _ _ _ .i64 (p0.size : Int) 4) rfl (lb rfl) fun a S => ?_
    refine sPickF (.bool (decide (4 < (p0.size : Int)))) S (wN rfl) rfl rfl hc6 rfl rfl (lb rfl) fun a S => ?_
    refine sMove (.bool (decide (4 < (p0.size : Int)))) S (wN rfl) (.inl rfl) rfl rfl (lb rfl) fun a S => ?_
    rcases iteSome h with ⟨hc7, h⟩ | ⟨hc7, h⟩
    · refine sSkip 8 false 14 15 S rfl rfl rfl hc7 rfl (lb rfl) fun a S => ?_
      refine sSkip 8 false 14 16 S rfl rfl rfl hc7 rfl (lb rfl) fun a S => ?_
      refine sSkip 8 false 14 17 S rfl rfl rfl hc7 rfl (lb rfl) fun a S => ?_
      refine sSkip 8 false 14 18 S rfl rfl rfl hc7 rfl (lb rfl) fun a S => ?_
      refine sSkipU 12 true 18 19 S rfl rfl rfl rfl (lb rfl) fun a S => ?_
      refine sSkipU 12 true 18 20 S rfl rfl rfl rfl (lb rfl) fun a S => ?_
      refine sSkipU 12 true 18 21 S rfl rfl rfl rfl (lb rfl) fun a S => ?_
      refine sSkip 8 false 14 22 S rfl rfl rfl hc7 rfl (lb rfl) fun a S => ?_
      refine sPickT (.bool true) S (wN rfl) rfl rfl hc7 rfl rfl (lb rfl) fun a S => ?_
      exact leafL (leafT (⟨true, Option.some.inj h, S.fix [] [] (by decide) rfl rfl rfl⟩))
    refine sMove (.string p0) S (wG 8 false 14 rfl rfl rfl hc7) (.inl rfl) rfl rfl (lb rfl) fun a S => ?_
    refine sLenS (v := p0) S (wG 8 false 14 rfl rfl rfl hc7) rfl Try.underlying9 rfl rfl (lb rfl) fun a S => ?_
    refine sBin (.bool (decide (1 < (p0.size : Int)))) S (wG 8 false 14 rfl rfl rfl hc7) rfl rfl rfl (bGt _ _ _ _ .i64 (p0.size : Int) 1) rfl (lb rfl) fun a S => ?_
    refine sMove (.bool (decide (1 < (p0.size : Int)))) S (wG 8 false 14 rfl rfl rfl hc7) (.inl rfl) rfl rfl (lb rfl) fun a S => ?_
    rcases iteSome h with ⟨hc8, h⟩ | ⟨hc8, h⟩
    rotate_left
    · refine sSkip 12 true 18 19 S rfl rfl rfl hc8 rfl (lb rfl) fun a S => ?_
      refine sSkip 12 true 18 20 S rfl rfl rfl hc8 rfl (lb rfl) fun a S => ?_
      refine sSkip 12 true 18 21 S rfl rfl rfl hc8 rfl (lb rfl) fun a S => ?_
      refine sPickF (.bool false) S (wG 8 false 14 rfl rfl rfl hc7) rfl rfl hc8 rfl rfl (lb rfl) fun a S => ?_
      refine sPickF (.bool false) S (wN rfl) rfl rfl hc7 rfl rfl (lb rfl) fun a S => ?_
      exact leafL (leafT (⟨false, Option.some.inj h, S.fix [] [] (by decide) rfl rfl rfl⟩))
    refine sMove (.string p0) S (wG 12 true 18 rfl rfl rfl hc8) (.inl rfl) rfl rfl (lb rfl) fun a S => ?_
    obtain ⟨x9, hx10, h⟩ := bindSome h
    refine sIndexS (v := p0) (j := 0) (k := .i64) S (wG 12 true 18 rfl rfl rfl hc8) rfl Try.underlying9 rfl rfl hx10 rfl (lb rfl) fun a S => ?_
    refine sBin (.bool (x9 == 48)) S (wG 12 true 18 rfl rfl rfl hc8) rfl rfl rfl (bEq _ _ _ _ .u8 x9 48) rfl (lb rfl) fun a S => ?_
    refine sPickT (.bool (x9 == 48)) S (wG 8 false 14 rfl rfl rfl hc7) rfl rfl hc8 rfl rfl (lb rfl) fun a S => ?_
    refine sPickF (.bool (x9 == 48)) S (wN rfl) rfl rfl hc7 rfl rfl (lb rfl) fun a S => ?_
    exact leafL (leafT (⟨x9 == 48, Option.some.inj h, S.fix [] [] (by decide) rfl rfl rfl⟩))
  obtain ⟨o3, rfl, S⟩ := hI
  have h := g5
  clear g5
  try dsimp only at h
  rcases iteSome h with ⟨hc11, h⟩ | ⟨hc11, h⟩
  · refine sCondT S rfl hc11 ?_
    refine sSeq (fun K12 hK12 => ?_)
    refine sRegion ?_
    refine sMove (iv 0) S (wN rfl) (.inr rfl) rfl rfl (lb rfl) fun a S => ?_
    refine sMove (.bool false) S (wN rfl) (.inr rfl) rfl rfl (lb rfl) fun a S => ?_
    refine leafL (leafT (hK12 _ _ ?_))
    obtain rfl := Option.some.inj h
    exact wp_ret (rThen (sRet (.tuple #[iv 0, .bool false]) S (rsl2 rfl (rvT (t := 2) (v := iv 0) S rfl) (rvT (t := 3) (v := .bool false) S rfl)) ⟨(), rfl, S.mem.sel [] [] (by decide) rfl rfl⟩))
  refine sCondF S rfl hc11 ?_
  refine wp_skip (leafT (hK2 _ _ ?_))
  refine sSeq (fun K13 hK13 => ?_)
  refine sRegion ?_
  refine sMove (iv 0) S (wN rfl) (.inr rfl) rfl rfl (lb rfl) fun a S => ?_
  refine leafL (leafT (hK13 _ _ ?_))
  obtain ⟨t15, h, g16⟩ := bindSome h
  refine sCut (fun a w => ∃ o14, .inl o14 = t15 ∧ St [] E [] w0 49 a w [(4, iv o14)] [] []) ?_ (fun a w hI => ?_)
  rotate_left
  · obtain ⟨o14, rfl, S⟩ := hI
    have h := g16
    clear g16
    try dsimp only at h
    refine sSeq (fun K39 hK39 => ?_)
    refine sRegion ?_
    refine sMove (iv o14) S (wN rfl) (.inl rfl) rfl rfl (lb rfl) fun a S => ?_
    refine sMove (iv o14) S (wN rfl) (.inr rfl) rfl rfl (lb rfl) fun a S => ?_
    refine sMove (.bool true) S (wN rfl) (.inr rfl) rfl rfl (lb rfl) fun a S => ?_
    refine leafL (leafT (hK39 _ _ ?_))
    obtain rfl := Option.some.inj h
    exact wp_ret (sRet (.tuple #[iv o14, .bool true]) S (rsl2 rfl (rvT (t := 2) (v := iv o14) S rfl) (rvT (t := 3) (v := .bool true) S rfl)) ⟨(), rfl, S.mem.sel [] [] (by decide) rfl rfl⟩)
  refine sSeq (fun K17 hK17 => ?_)
  refine sRegion ?_
  refine sMove (iv 0) S (wN rfl) (.inr rfl) rfl rfl (lb rfl) fun a S => ?_
  refine leafL (leafT (hK17 _ _ ?_))
  refine wp_block ?_
  obtain ⟨t22, hl, g21⟩ := bindSome h
  refine sLoop hl (fun s0 a w => match s0 with | (s18, s19) => St [] E [] w0 49 a w [(0, .string p0), (4, iv s18), (5, iv s19)] [] []) (S.fix [] [] (by decide) rfl rfl rfl) ?_
  clear hl h
  intro s0 a w c0 hI h hu20
  obtain ⟨s18, s19⟩ := s0
  unfold raddleref25_Number_l1 at h
  dsimp only at h hI
  have S := hI
  refine sSeq (fun K24 hK24 => ?_)
  refine sSeq (fun K25 hK25 => ?_)
  refine sRegion ?_
  refine sMove (iv s19) S (wN rfl) (.inl rfl) rfl rfl (lb rfl) fun a S => ?_
  refine sMove (.string p0) S (wN rfl) (.inl rfl) rfl rfl (lb rfl) fun a S => ?_
  refine sLenS (v := p0) S (wN rfl) rfl Try.underlying9 rfl rfl (lb rfl) fun a S => ?_
  refine sBin (.bool (decide (s19 < (p0.size : Int)))) S (wN rfl) rfl rfl rfl (bLt _ _ _ _ .i64 s19 (p0.size : Int)) rfl (lb rfl) fun a S => ?_
  refine leafL (leafT (hK25 _ _ ?_))
  rcases iteSome h with ⟨hc26, h⟩ | ⟨hc26, h⟩
  rotate_left
  · refine sCondF S rfl hc26 ?_
    obtain rfl := Option.some.inj h
    obtain rfl := hu20 _ rfl
    have h := g21
    clear g21
    try dsimp only at h
    exact wp_exit (xThen (xThen (xHit (leafT (⟨s18, Option.some.inj h, S.fix [] [] (by decide) rfl rfl rfl⟩)))))
  refine sCondT S rfl hc26 ?_
  refine wp_skip (leafT (hK24 _ _ ?_))
  refine sSeq (fun K27 hK27 => ?_)
  refine wp_block ?_
  refine sSeq (fun K28 hK28 => ?_)
  obtain ⟨t30, h, g31⟩ := bindSome h
  refine sCut (fun a w => ∃ o29, o29 = t30 ∧ St [] E [] w0 49 a w [(0, .string p0), (4, iv s18), (5, iv s19), (39, .bool o29)] [] []) ?_ (fun a w hI => ?_)
  · refine sRegion ?_
    refine sMove (.string p0) S (wN rfl) (.inl rfl) rfl rfl (lb rfl) fun a S => ?_
    refine sMove (iv s19) S (wN rfl) (.inl rfl) rfl rfl (lb rfl) fun a S => ?_
    obtain ⟨x32, hx33, h⟩ := bindSome h
    refine sIndexS (v := p0) (j := s19) (k := .i64) S (wN rfl) rfl Try.underlying9 rfl rfl hx33 rfl (lb rfl) fun a S => ?_
    refine sBin (.bool (decide (x32 < 48))) S (wN rfl) rfl rfl rfl (bLt _ _ _ _ .u8 x32 48) rfl (lb rfl) fun a S => ?_
    refine sMove (.bool (decide (x32 < 48))) S (wN rfl) (.inl rfl) rfl rfl (lb rfl) fun a S => ?_
    rcases iteSome h with ⟨hc34, h⟩ | ⟨hc34, h⟩
    · refine sSkip 4 false 34 35 S rfl rfl rfl hc34 rfl (lb rfl) fun a S => ?_
      refine sSkip 4 false 34 36 S rfl rfl rfl hc34 rfl (lb rfl) fun a S => ?_
      refine sSkip 4 false 34 37 S rfl rfl rfl hc34 rfl (lb rfl) fun a S => ?_
      refine sSkip 4 false 34 38 S rfl rfl rfl hc34 rfl (lb rfl) fun a S => ?_
      refine sPickT (.bool true) S (wN rfl) rfl rfl hc34 rfl rfl (lb rfl) fun a S => ?_
      exact leafL (leafT (⟨true, Option.some.inj h, S.fix [] [] (by decide) rfl rfl rfl⟩))
    refine sMove (.string p0) S (wG 4 false 34 rfl rfl rfl hc34) (.inl rfl) rfl rfl (lb rfl) fun a S => ?_
    refine sMove (iv s19) S (wG 4 false 34 rfl rfl rfl hc34) (.inl rfl) rfl rfl (lb rfl) fun a S => ?_
    refine sIndexS (v := p0) (j := s19) (k := .i64) S (wG 4 false 34 rfl rfl rfl hc34) rfl Try.underlying9 rfl rfl hx33 rfl (lb rfl) fun a S => ?_
    refine sBin (.bool (decide (57 < x32))) S (wG 4 false 34 rfl rfl rfl hc34) rfl rfl rfl (bGt _ _ _ _ .u8 x32 57) rfl (lb rfl) fun a S => ?_
    refine sPickF (.bool (decide (57 < x32))) S (wN rfl) rfl rfl hc34 rfl rfl (lb rfl) fun a S => ?_
    exact leafL (leafT (⟨decide (57 < x32), Option.some.inj h, S.fix [] [] (by decide) rfl rfl rfl⟩))
  obtain ⟨o29, rfl, S⟩ := hI
  have h := g31
  clear g31
  try dsimp only at h
  rcases iteSome h with ⟨hc35, h⟩ | ⟨hc35, h⟩
  · refine sCondT S rfl hc35 ?_
    refine sSeq (fun K36 hK36 => ?_)
    refine sRegion ?_
    refine sMove (iv 0) S (wN rfl) (.inr rfl) rfl rfl (lb rfl) fun a S => ?_
    refine sMove (.bool false) S (wN rfl) (.inr rfl) rfl rfl (lb rfl) fun a S => ?_
    refine leafL (leafT (hK36 _ _ ?_))
    obtain rfl := Option.some.inj h
    obtain rfl := hu20 _ rfl
    have h := g21
    clear g21
    try dsimp only at h
    obtain rfl := Option.some.inj h
    have h := g16
    clear g16
    try dsimp only at h
    obtain rfl := Option.some.inj h
    exact wp_ret (rThen (rBlock (rThen (rThen (rBlock (rThen (sRet (.tuple #[iv 0, .bool false]) S (rsl2 rfl (rvT (t := 2) (v := iv 0) S rfl) (rvT (t := 3) (v := .bool false) S rfl)) ⟨(), rfl, S.mem.sel [] [] (by decide) rfl rfl⟩)))))))
  refine sCondF S rfl hc35 ?_
  refine wp_skip (leafT (hK28 _ _ ?_))
  refine sRegion ?_
  refine sMove (iv s18) S (wN rfl) (.inl rfl) rfl rfl (lb rfl) fun a S => ?_
  refine sBin (iv (w64 (10 * s18))) S (wN rfl) rfl rfl rfl (bMul _ _ _ _ 10 s18) rfl (lb rfl) fun a S => ?_
  refine sMove (.string p0) S (wN rfl) (.inl rfl) rfl rfl (lb rfl) fun a S => ?_
  refine sMove (iv s19) S (wN rfl) (.inl rfl) rfl rfl (lb rfl) fun a S => ?_
  obtain ⟨x37, hx38, h⟩ := bindSome h
  refine sIndexS (v := p0) (j := s19) (k := .i64) S (wN rfl) rfl Try.underlying9 rfl rfl hx38 rfl (lb rfl) fun a S => ?_
  refine sBin (.int .u8 (IntKind.u8.wrap (x37 - 48))) S (wN rfl) rfl rfl rfl (bSubK _ _ _ _ .u8 x37 48) rfl (lb rfl) fun a S => ?_
  refine sConv (k := .u8) (k2 := .i64) (b := IntKind.u8.wrap (x37 - 48)) S (wN rfl) rfl Try.underlying5 Try.underlying3 rfl rfl (lb rfl) fun a S => ?_
  refine sBin (iv (w64 ((w64 (10 * s18)) + (IntKind.i64.wrap (IntKind.u8.wrap (x37 - 48)))))) S (wN rfl) rfl rfl rfl (bAdd _ _ _ _ (w64 (10 * s18)) (IntKind.i64.wrap (IntKind.u8.wrap (x37 - 48)))) rfl (lb rfl) fun a S => ?_
  refine sMove (iv (w64 ((w64 (10 * s18)) + (IntKind.i64.wrap (IntKind.u8.wrap (x37 - 48)))))) S (wN rfl) (.inr rfl) rfl rfl (lb rfl) fun a S => ?_
  refine leafL (leafB (leafT (hK27 _ _ ?_)))
  refine sRegion ?_
  refine sMove (iv s19) S (wN rfl) (.inl rfl) rfl rfl (lb rfl) fun a S => ?_
  refine sBin (iv (w64 (s19 + 1))) S (wN rfl) rfl rfl rfl (bAdd _ _ _ _ s19 1) rfl (lb rfl) fun a S => ?_
  refine sMove (iv (w64 (s19 + 1))) S (wN rfl) (.inr rfl) rfl rfl (lb rfl) fun a S => ?_
  exact leafL (leafT (⟨(w64 ((w64 (10 * s18)) + (IntKind.i64.wrap (IntKind.u8.wrap (x37 - 48)))), w64 (s19 + 1)), (Option.some.inj h).symm, (S.fix [] [] (by decide) rfl rfl rfl)⟩))

end Go.Proofs.Ytdbgkakmhlmpbaa
namespace Go.Proofs.Ytdbgkakmhlmpbaa
open Go.RowKit
set_option linter.unusedVariables false

noncomputable def raddleref25_kind_l1 (p0 : Int) : Int → Option (Int ⊕ (Int ⊕ Unit)) := fun s0 => match s0 with
  | s9 =>
    if decide (s9 < ((⟨#[102, 108, 109, 120, 121, 115, 111]⟩ : ByteArray).size : Int)) then
      Option.bind (idxS (⟨#[102, 108, 109, 120, 121, 115, 111]⟩ : ByteArray) s9) fun x18 =>
      if x18 == p0 then
        Option.bind (idxO ([3, 4, 5, 6, 7, 8, 10] : List Int) s9) fun x22 =>
        some (.inr (.inl x22))
      else
        some (.inl (w64 (s9 + 1)))
    else
      some (.inr (.inr ()))
noncomputable def F_raddleref25_kind (p0 : Int) : Option Int :=
  Option.bind (α := Unit ⊕ Int) (
    Option.bind (whileO (raddleref25_kind_l1 p0) 0) fun z0 => match z0 with
      | .inl z =>
        some (.inr z)
      | .inr _ =>
        some (.inl ())) fun z0 => match z0 with
    | .inl _ =>
      some 0
    | .inr z =>
      some z
set_option maxHeartbeats 4000000 in
set_option maxRecDepth 100000 in
theorem c_raddleref25_kind (E : Nat → Prop) (w0 : World) (p0 : Int) (r : Int) (h : F_raddleref25_kind p0 = some r) (S : St0 E [] w0 w0 [] []) :
    Calls Try.prog 87 #[.int .u8 p0] w0 (Ret (X := Unit) E [] w0 (fun _ => .int .u8 r) (fun _ => []) (fun _ => [])) := by
  unfold F_raddleref25_kind at h
  refine sEnter (args := [.int .u8 p0]) 22 Try.func87 rfl rfl (by simp) S (fun a S => ?_)
  refine sSeq (fun K1 hK1 => ?_)
  refine sRegion ?_
  refine sMove (.int .u8 0) S (wN rfl) (.inr rfl) rfl rfl (lb rfl) fun a S => ?_
  refine leafL (leafT (hK1 _ _ ?_))
  refine sSeq (fun K2 hK2 => ?_)
  refine sRegion ?_
  refine sMove (.string (⟨#[102, 108, 109, 120, 121, 115, 111]⟩ : ByteArray)) S (wN rfl) (.inr rfl) rfl rfl (lb rfl) fun a S => ?_
  refine leafL (leafT (hK2 _ _ ?_))
  refine sSeq (fun K3 hK3 => ?_)
  refine sRegion ?_
  refine sLit (r := (rI .u8)) (T := 5) (xs := ([3, 4, 5, 6, 7, 8, 10] : List Int)) [(0, .int .u8 3), (1, .int .u8 4), (2, .int .u8 5), (3, .int .u8 6), (4, .int .u8 7), (5, .int .u8 8), (6, .int .u8 10)] 7 [.int .u8 3, .int .u8 4, .int .u8 5, .int .u8 6, .int .u8 7, .int .u8 8, .int .u8 10] [.int .u8 3, .int .u8 4, .int .u8 5, .int .u8 6, .int .u8 7, .int .u8 8, .int .u8 10] (.int .u8 0) 1 S (wN rfl) rfl rfl Try.underlying153 rfl (by decide) (by decide) (by kernel_rfl) rfl (fun E1 w1 hE => All.cons rfl (All.cons rfl (All.cons rfl (All.cons rfl (All.cons rfl (All.cons rfl (All.cons rfl (All.nil _ _ _)))))))) rfl rfl (lb rfl) fun a w ad4 cp5 S => ?_
  refine sMove (.slice ad4 ([3, 4, 5, 6, 7, 8, 10] : List Int).length cp5) S (wN rfl) (.inr rfl) rfl rfl (lb rfl) fun a S => ?_
  refine leafL (leafT (hK3 _ _ ?_))
  obtain ⟨t6, h, g7⟩ := bindSome h
  refine sCut (fun a w => .inl () = t6 ∧ St [] E [] w0 22 a w [] [] []) ?_ (fun a w hI => ?_)
  rotate_left
  · obtain ⟨rfl, S⟩ := hI
    have h := g7
    clear g7
    try dsimp only at h
    refine sSeq (fun K27 hK27 => ?_)
    refine sRegion ?_
    refine sMove (.int .u8 0) S (wN rfl) (.inr rfl) rfl rfl (lb rfl) fun a S => ?_
    refine leafL (leafT (hK27 _ _ ?_))
    obtain rfl := Option.some.inj h
    exact wp_ret (sRet (.int .u8 0) S (rsl1 rfl (rvT (t := 2) (v := .int .u8 0) S rfl)) ⟨(), rfl, S.mem.sel [] [] (by decide) rfl rfl⟩)
  refine sSeq (fun K8 hK8 => ?_)
  refine sRegion ?_
  refine sMove (iv 0) S (wN rfl) (.inr rfl) rfl rfl (lb rfl) fun a S => ?_
  refine leafL (leafT (hK8 _ _ ?_))
  refine wp_block ?_
  obtain ⟨t12, hl, g11⟩ := bindSome h
  refine sLoop hl (fun s0 a w => match s0 with | s9 => St [] E [] w0 22 a w [(0, .int .u8 p0), (3, .string (⟨#[102, 108, 109, 120, 121, 115, 111]⟩ : ByteArray)), (4, .slice ad4 ([3, 4, 5, 6, 7, 8, 10] : List Int).length cp5), (5, iv s9)] [eRow (rI .u8) 5 (.slice ad4 ([3, 4, 5, 6, 7, 8, 10] : List Int).length cp5) ([3, 4, 5, 6, 7, 8, 10] : List Int)] []) (S.fix [0] [] (by decide) rfl rfl rfl) ?_
  clear hl h
  intro s9 a w c0 hI h hu10
  unfold raddleref25_kind_l1 at h
  dsimp only at h hI
  have S := hI
  refine sSeq (fun K13 hK13 => ?_)
  refine sSeq (fun K14 hK14 => ?_)
  refine sRegion ?_
  refine sMove (iv s9) S (wN rfl) (.inl rfl) rfl rfl (lb rfl) fun a S => ?_
  refine sMove (.string (⟨#[102, 108, 109, 120, 121, 115, 111]⟩ : ByteArray)) S (wN rfl) (.inl rfl) rfl rfl (lb rfl) fun a S => ?_
  refine sLenS (v := (⟨#[102, 108, 109, 120, 121, 115, 111]⟩ : ByteArray)) S (wN rfl) rfl Try.underlying9 rfl rfl (lb rfl) fun a S => ?_
  refine sBin (.bool (decide (s9 < ((⟨#[102, 108, 109, 120, 121, 115, 111]⟩ : ByteArray).size : Int)))) S (wN rfl) rfl rfl rfl (bLt _ _ _ _ .i64 s9 ((⟨#[102, 108, 109, 120, 121, 115, 111]⟩ : ByteArray).size : Int)) rfl (lb rfl) fun a S => ?_
  refine leafL (leafT (hK14 _ _ ?_))
  rcases iteSome h with ⟨hc15, h⟩ | ⟨hc15, h⟩
  rotate_left
  · refine sCondF S rfl hc15 ?_
    obtain rfl := Option.some.inj h
    obtain rfl := hu10 _ rfl
    have h := g11
    clear g11
    try dsimp only at h
    exact wp_exit (xThen (xThen (xHit (leafT (⟨Option.some.inj h, S.fix [] [] (by decide) rfl rfl rfl⟩)))))
  refine sCondT S rfl hc15 ?_
  refine wp_skip (leafT (hK13 _ _ ?_))
  refine sSeq (fun K16 hK16 => ?_)
  refine wp_block ?_
  refine sSeq (fun K17 hK17 => ?_)
  refine sRegion ?_
  refine sMove (.string (⟨#[102, 108, 109, 120, 121, 115, 111]⟩ : ByteArray)) S (wN rfl) (.inl rfl) rfl rfl (lb rfl) fun a S => ?_
  refine sMove (iv s9) S (wN rfl) (.inl rfl) rfl rfl (lb rfl) fun a S => ?_
  obtain ⟨x18, hx19, h⟩ := bindSome h
  refine sIndexS (v := (⟨#[102, 108, 109, 120, 121, 115, 111]⟩ : ByteArray)) (j := s9) (k := .i64) S (wN rfl) rfl Try.underlying9 rfl rfl hx19 rfl (lb rfl) fun a S => ?_
  refine sMove (.int .u8 p0) S (wN rfl) (.inl rfl) rfl rfl (lb rfl) fun a S => ?_
  refine sBin (.bool (x18 == p0)) S (wN rfl) rfl rfl rfl (bEq _ _ _ _ .u8 x18 p0) rfl (lb rfl) fun a S => ?_
  refine leafL (leafT (hK17 _ _ ?_))
  rcases iteSome h with ⟨hc20, h⟩ | ⟨hc20, h⟩
  rotate_left
  · refine sCondF S rfl hc20 ?_
    refine wp_skip (leafB (leafT (hK16 _ _ ?_)))
    refine sRegion ?_
    refine sMove (iv s9) S (wN rfl) (.inl rfl) rfl rfl (lb rfl) fun a S => ?_
    refine sBin (iv (w64 (s9 + 1))) S (wN rfl) rfl rfl rfl (bAdd _ _ _ _ s9 1) rfl (lb rfl) fun a S => ?_
    refine sMove (iv (w64 (s9 + 1))) S (wN rfl) (.inr rfl) rfl rfl (lb rfl) fun a S => ?_
    exact leafL (leafT (⟨w64 (s9 + 1), (Option.some.inj h).symm, (S.fix [0] [] (by decide) rfl rfl rfl)⟩))
  refine sCondT S rfl hc20 ?_
  refine sSeq (fun K21 hK21 => ?_)
  refine sRegion ?_
  refine sMove (.slice ad4 ([3, 4, 5, 6, 7, 8, 10] : List Int).length cp5) S (wN rfl) (.inl rfl) rfl rfl (lb rfl) fun a S => ?_
  refine sMove (iv s9) S (wN rfl) (.inl rfl) rfl rfl (lb rfl) fun a S => ?_
  obtain ⟨x22, hx23, h⟩ := bindSome h
  obtain ⟨q24, hq25, hp26⟩ := pIdxR (P := Try.prog) (r := (rI .u8)) (T := 5) (v := .slice ad4 ([3, 4, 5, 6, 7, 8, 10] : List Int).length cp5) (xs := ([3, 4, 5, 6, 7, 8, 10] : List Int)) (j := s9) 153 5 0 S Try.underlying153 rfl rfl hx23
  refine sIdxV (v := .slice ad4 ([3, 4, 5, 6, 7, 8, 10] : List Int).length cp5) (k := .i64) (j := s9) S (wN rfl) rfl rfl rfl hq25 rfl (lb rfl) fun a S => ?_
  refine sLoadR (r := (rI .u8)) (T := 5) (xs := ([3, 4, 5, 6, 7, 8, 10] : List Int)) (x := x22) (v := .slice ad4 ([3, 4, 5, 6, 7, 8, 10] : List Int).length cp5) (vq := q24) (j := s9) 0 (.int .u8 x22) S hp26 (wN rfl) rfl rfl rfl hx23 (fun _ _ _ h => h) (scal_I _) rfl rfl (lb rfl) fun a S => ?_
  refine sMove (.int .u8 x22) S (wN rfl) (.inr rfl) rfl rfl (lb rfl) fun a S => ?_
  refine leafL (leafT (hK21 _ _ ?_))
  obtain rfl := Option.some.inj h
  obtain rfl := hu10 _ rfl
  have h := g11
  clear g11
  try dsimp only at h
  obtain rfl := Option.some.inj h
  have h := g7
  clear g7
  try dsimp only at h
  obtain rfl := Option.some.inj h
  exact wp_ret (rBlock (rThen (rThen (rBlock (rThen (sRet (.int .u8 x22) S (rsl1 rfl (rvT (t := 2) (v := .int .u8 x22) S rfl)) ⟨(), rfl, S.mem.sel [] [] (by decide) rfl rfl⟩))))))

end Go.Proofs.Ytdbgkakmhlmpbaa
namespace Go.Proofs.Ytdbgkakmhlmpbaa
open Go.RowKit
set_option linter.unusedVariables false

noncomputable def raddleref25_word_l1 (r49 : (Int × Bool)) (x35 : Int) : (List api_Stitch × Int) → Option ((List api_Stitch × Int) ⊕ List api_Stitch) := fun s0 => match s0 with
  | (s60, s63) =>
    Option.bind (α := Bool) (
      if decide (s63 < r49.1) then
        some (decide (s63 < 300))
      else
        some false) fun o71 =>
    if o71 then
      Option.bind (appO s60 [(api_Stitch.mk 1 (x35 == 112) 0 0)]) fun l79 =>
      some (.inl (l79, w64 (s63 + 1)))
    else
      some (.inr s60)
noncomputable def F_raddleref25_word (p0 : ByteArray) : Option ((List api_Stitch) × Bool) :=
  if p0 == (⟨#[121, 111]⟩ : ByteArray) then
    some ([(api_Stitch.mk 2 false 0 0)], true)
  else
    Option.bind (α := Bool) (
      if decide (2 < (p0.size : Int)) then
        Option.bind (sliceS p0 0 2) fun y13 =>
        some (y13 == (⟨#[111, 110]⟩ : ByteArray))
      else
        some false) fun o9 =>
    if o9 then
      Option.bind (sliceS p0 2 (p0.size : Int)) fun y17 =>
      Option.bind (F_raddleref25_Number y17) fun r19 =>
      some ([(api_Stitch.mk 9 false r19.1 0)], r19.2)
    else
      Option.bind (α := Bool) (
        if (p0.size : Int) == 0 then
          some true
        else
          Option.bind (idxS p0 0) fun x29 =>
          if x29 != 107 then
            some (x29 != 112)
          else
            some false) fun o25 =>
      if o25 then
        some (([] : (List api_Stitch)), false)
      else
        Option.bind (idxS p0 0) fun x35 =>
        if (p0.size : Int) == 1 then
          some ([(api_Stitch.mk 1 (x35 == 112) 0 0)], true)
        else
          Option.bind (α := Unit ⊕ ((List api_Stitch) × Bool)) (
            Option.bind (sliceS p0 1 (p0.size : Int)) fun y47 =>
            Option.bind (F_raddleref25_Number y47) fun r49 =>
            if r49.2 then
              Option.bind (α := List api_Stitch) (
                Option.bind (whileO (raddleref25_word_l1 r49 x35) (([] : List api_Stitch), 0)) fun e67 =>
                  some e67) fun o54 =>
              some (.inr (o54, decide (1 < r49.1)))
            else
              some (.inl ())) fun z0 => match z0 with
            | .inl _ =>
              Option.bind (idxS p0 1) fun x85 =>
              Option.bind (F_raddleref25_kind x85) fun r87 =>
              if r87 == 8 then
                some ([(api_Stitch.mk r87 (x35 == 112) 0 0)], (p0.size : Int) == 2)
              else
                Option.bind (sliceS p0 2 (p0.size : Int)) fun y96 =>
                Option.bind (F_raddleref25_Cut y96 47) fun r98 =>
                Option.bind (α := Bool) (
                  if r87 != 0 then
                    some ((r98.length : Int) == 1)
                  else
                    some false) fun o103 =>
                Option.bind (α := (Bool × Int)) (
                  Option.bind (α := Bool) (
                    if r87 == 6 then
                      some true
                    else
                      some (r87 == 7)) fun o111 =>
                  if o111 then
                    if (r98.length : Int) == 2 then
                      Option.bind (idxO r98 1) fun x119 =>
                      Option.bind (F_raddleref25_Number x119) fun r124 =>
                      some (r124.2, r124.1)
                    else
                      some ((r98.length : Int) == 2, 0)
                  else
                    some (o103, 0)) fun (o107, o108) =>
                Option.bind (idxO r98 0) fun x127 =>
                Option.bind (F_raddleref25_Number x127) fun r132 =>
                Option.bind (α := Bool) (
                  if o107 then
                    some r132.2
                  else
                    some false) fun o137 =>
                some ([(api_Stitch.mk r87 (x35 == 112) r132.1 o108)], o137)
            | .inr z =>
              some z
def c_raddleref25_word_val (r : ((List api_Stitch) × Bool)) (x : Value) : Value := .tuple #[x, .bool r.2]
def c_raddleref25_word_D (r : ((List api_Stitch) × Bool)) (x : Value) : List Fact := [fRep (rL r_api_Stitch) x r.1]
set_option maxHeartbeats 4000000 in
set_option maxRecDepth 100000 in
theorem c_raddleref25_word (E : Nat → Prop) (w0 : World) (p0 : ByteArray) (r : ((List api_Stitch) × Bool)) (h : F_raddleref25_word p0 = some r) (S : St0 E [] w0 w0 [] []) :
    Calls Try.prog 65 #[.string p0] w0 (Ret (X := Value) E [] w0 (c_raddleref25_word_val r) (fun _ => []) (c_raddleref25_word_D r)) := by
  unfold F_raddleref25_word at h
  refine sEnter (args := [.string p0]) 140 Try.func65 rfl rfl (by simp) S (fun a S => ?_)
  refine sSeq (fun K1 hK1 => ?_)
  refine sRegion ?_
  refine sMove (.slice none 0 0) S (wN rfl) (.inr rfl) rfl rfl (lb rfl) fun a S => ?_
  refine sMove (.bool false) S (wN rfl) (.inr rfl) rfl rfl (lb rfl) fun a S => ?_
  refine leafL (leafT (hK1 _ _ ?_))
  refine sSeq (fun K2 hK2 => ?_)
  refine sSeq (fun K3 hK3 => ?_)
  refine sRegion ?_
  refine sMove (.string p0) S (wN rfl) (.inl rfl) rfl rfl (lb rfl) fun a S => ?_
  refine sBin (.bool (p0 == (⟨#[121, 111]⟩ : ByteArray))) S (wN rfl) rfl rfl rfl (bEqS _ _ _ _ p0 (⟨#[121, 111]⟩ : ByteArray)) rfl (lb rfl) fun a S => ?_
  refine leafL (leafT (hK3 _ _ ?_))
  rcases iteSome h with ⟨hc4, h⟩ | ⟨hc4, h⟩
  · refine sCondT S rfl hc4 ?_
    refine sSeq (fun K5 hK5 => ?_)
    refine sRegion ?_
    refine sBuild [(0, .int .u8 2)] [.int .u8 2, .bool false, iv 0, iv 0] S (wN rfl) rfl rfl rfl rfl (lb rfl) fun a S => ?_
    have S := S.learn (fRep r_api_Stitch (.agg #[.int .u8 2, .bool false, iv 0, iv 0]) (api_Stitch.mk 2 false 0 0)) rfl
    refine sLit (r := r_api_Stitch) (T := 74) (xs := [(api_Stitch.mk 2 false 0 0)]) [(0, .agg #[.int .u8 2, .bool false, iv 0, iv 0])] 1 [.agg #[.int .u8 2, .bool false, iv 0, iv 0]] [.int .u8 2, .bool false, iv 0, iv 0] (.agg #[.int .u8 0, .bool false, iv 0, iv 0]) 24 S (wN rfl) rfl rfl Try.underlying70 rfl (by decide) (by decide) (by kernel_rfl) rfl (fun E1 w1 hE => All.cons (r_api_Stitch.mono hE (S.mem.know (i := 0) (e := fRep r_api_Stitch (.agg #[.int .u8 2, .bool false, iv 0, iv 0]) (api_Stitch.mk 2 false 0 0)) rfl)) (All.nil _ _ _)) rfl rfl (lb rfl) fun a w ad6 cp7 S => ?_
    refine sMove (.slice ad6 [(api_Stitch.mk 2 false 0 0)].length cp7) S (wN rfl) (.inr rfl) rfl rfl (lb rfl) fun a S => ?_
    refine sMove (.bool true) S (wN rfl) (.inr rfl) rfl rfl (lb rfl) fun a S => ?_
    refine leafL (leafT (hK5 _ _ ?_))
    obtain rfl := Option.some.inj h
    have S := S.shutR (r := r_api_Stitch) (T := 74) (v := .slice ad6 [(api_Stitch.mk 2 false 0 0)].length cp7) (xs := [(api_Stitch.mk 2 false 0 0)]) 0 rfl
    exact wp_ret (rThen (sRet (.tuple #[.slice ad6 [(api_Stitch.mk 2 false 0 0)].length cp7, .bool true]) S (rsl2 rfl (rvT (t := 2) (v := .slice ad6 [(api_Stitch.mk 2 false 0 0)].length cp7) S rfl) (rvT (t := 3) (v := .bool true) S rfl)) ⟨(.slice ad6 [(api_Stitch.mk 2 false 0 0)].length cp7), rfl, S.mem.sel [] [0] (by decide) rfl rfl⟩))
  refine sCondF S rfl hc4 ?_
  refine wp_skip (leafT (hK2 _ _ ?_))
  refine sSeq (fun K8 hK8 => ?_)
  obtain ⟨t10, h, g11⟩ := bindSome h
  refine sCut (fun a w => ∃ o9, o9 = t10 ∧ St [] E [] w0 140 a w [(0, .string p0), (26, .bool o9)] [] []) ?_ (fun a w hI => ?_)
  · refine sRegion ?_
    refine sMove (.string p0) S (wN rfl) (.inl rfl) rfl rfl (lb rfl) fun a S => ?_
    refine sLenS (v := p0) S (wN rfl) rfl Try.underlying9 rfl rfl (lb rfl) fun a S => ?_
    refine sBin (.bool (decide (2 < (p0.size : Int)))) S (wN rfl) rfl rfl rfl (bGt _ _ _ _ .i64 (p0.size : Int) 2) rfl (lb rfl) fun a S => ?_
    refine sMove (.bool (decide (2 < (p0.size : Int)))) S (wN rfl) (.inl rfl) rfl rfl (lb rfl) fun a S => ?_
    rcases iteSome h with ⟨hc12, h⟩ | ⟨hc12, h⟩
    rotate_left
    · refine sSkip 3 true 22 23 S rfl rfl rfl hc12 rfl (lb rfl) fun a S => ?_
      refine sSkip 3 true 22 24 S rfl rfl rfl hc12 rfl (lb rfl) fun a S => ?_
      refine sSkip 3 true 22 25 S rfl rfl rfl hc12 rfl (lb rfl) fun a S => ?_
      refine sPickF (.bool false) S (wN rfl) rfl rfl hc12 rfl rfl (lb rfl) fun a S => ?_
      exact leafL (leafT (⟨false, Option.some.inj h, S.fix [] [] (by decide) rfl rfl rfl⟩))
    refine sMove (.string p0) S (wG 3 true 22 rfl rfl rfl hc12) (.inl rfl) rfl rfl (lb rfl) fun a S => ?_
    obtain ⟨y13, hx14, h⟩ := bindSome h
    refine sSliceS (v := p0) (u := y13) (vlo := none) (vhi := (some (.int .i64 2))) (lo' := 0) (hi' := 2) S (wG 3 true 22 rfl rfl rfl hc12) rfl Try.underlying9 rfl rfl rfl (.inr ⟨rfl, rfl⟩) (.inl rfl) hx14 rfl (lb rfl) fun a S => ?_
    refine sBin (.bool (y13 == (⟨#[111, 110]⟩ : ByteArray))) S (wG 3 true 22 rfl rfl rfl hc12) rfl rfl rfl (bEqS _ _ _ _ y13 (⟨#[111, 110]⟩ : ByteArray)) rfl (lb rfl) fun a S => ?_
    refine sPickT (.bool (y13 == (⟨#[111, 110]⟩ : ByteArray))) S (wN rfl) rfl rfl hc12 rfl rfl (lb rfl) fun a S => ?_
    exact leafL (leafT (⟨y13 == (⟨#[111, 110]⟩ : ByteArray), Option.some.inj h, S.fix [] [] (by decide) rfl rfl rfl⟩))
  obtain ⟨o9, rfl, S⟩ := hI
  have h := g11
  clear g11
  try dsimp only at h
  rcases iteSome h with ⟨hc15, h⟩ | ⟨hc15, h⟩
  · refine sCondT S rfl hc15 ?_
    refine sSeq (fun K16 hK16 => ?_)
    refine sRegion ?_
    refine sMove (.string p0) S (wN rfl) (.inl rfl) rfl rfl (lb rfl) fun a S => ?_
    obtain ⟨y17, hx18, h⟩ := bindSome h
    refine sSliceS (v := p0) (u := y17) (vlo := (some (.int .i64 2))) (vhi := none) (lo' := 2) (hi' := (p0.size : Int)) S (wN rfl) rfl Try.underlying9 rfl rfl rfl (.inl rfl) (.inr ⟨rfl, rfl⟩) hx18 rfl (lb rfl) fun a S => ?_
    obtain ⟨r19, hx20, h⟩ := bindSome h
    have S1 := S.mem
    refine sCallQ (X := Unit) (f := 47) (vs := [.string y17]) (val := fun _ => .tuple #[iv r19.1, .bool r19.2]) S (wN rfl) rfl callee47 rfl (S1.quiet [] rfl) (fun E1 w1 S1 => c_raddleref25_Number E1 w1 y17 r19 hx20 S1) rfl (lb rfl) fun _ a w S => ?_
    refine sMove (.tuple #[iv r19.1, .bool r19.2]) S (wN rfl) (.inl rfl) rfl rfl (lb rfl) fun a S => ?_
    refine sExtract (vs := [iv r19.1, .bool r19.2]) (iv r19.1) S (wN rfl) rfl rfl rfl rfl (lb rfl) fun a S => ?_
    refine sExtract (vs := [iv r19.1, .bool r19.2]) (.bool r19.2) S (wN rfl) rfl rfl rfl rfl (lb rfl) fun a S => ?_
    refine sMove (iv r19.1) S (wN rfl) (.inr rfl) rfl rfl (lb rfl) fun a S => ?_
    refine sMove (.bool r19.2) S (wN rfl) (.inr rfl) rfl rfl (lb rfl) fun a S => ?_
    refine leafL (leafT (hK16 _ _ ?_))
    refine sSeq (fun K21 hK21 => ?_)
    refine sRegion ?_
    refine sMove (iv r19.1) S (wN rfl) (.inl rfl) rfl rfl (lb rfl) fun a S => ?_
    refine sBuild [(0, .int .u8 9), (2, iv r19.1)] [.int .u8 9, .bool false, iv r19.1, iv 0] S (wN rfl) rfl rfl rfl rfl (lb rfl) fun a S => ?_
    have S := S.learn (fRep r_api_Stitch (.agg #[.int .u8 9, .bool false, iv r19.1, iv 0]) (api_Stitch.mk 9 false r19.1 0)) rfl
    refine sLit (r := r_api_Stitch) (T := 74) (xs := [(api_Stitch.mk 9 false r19.1 0)]) [(0, .agg #[.int .u8 9, .bool false, iv r19.1, iv 0])] 1 [.agg #[.int .u8 9, .bool false, iv r19.1, iv 0]] [.int .u8 9, .bool false, iv r19.1, iv 0] (.agg #[.int .u8 0, .bool false, iv 0, iv 0]) 24 S (wN rfl) rfl rfl Try.underlying70 rfl (by decide) (by decide) (by kernel_rfl) rfl (fun E1 w1 hE => All.cons (r_api_Stitch.mono hE (S.mem.know (i := 0) (e := fRep r_api_Stitch (.agg #[.int .u8 9, .bool false, iv r19.1, iv 0]) (api_Stitch.mk 9 false r19.1 0)) rfl)) (All.nil _ _ _)) rfl rfl (lb rfl) fun a w ad22 cp23 S => ?_
    refine sMove (.bool r19.2) S (wN rfl) (.inl rfl) rfl rfl (lb rfl) fun a S => ?_
    refine sMove (.slice ad22 [(api_Stitch.mk 9 false r19.1 0)].length cp23) S (wN rfl) (.inr rfl) rfl rfl (lb rfl) fun a S => ?_
    refine sMove (.bool r19.2) S (wN rfl) (.inr rfl) rfl rfl (lb rfl) fun a S => ?_
    refine leafL (leafT (hK21 _ _ ?_))
    obtain rfl := Option.some.inj h
    have S := S.shutR (r := r_api_Stitch) (T := 74) (v := .slice ad22 [(api_Stitch.mk 9 false r19.1 0)].length cp23) (xs := [(api_Stitch.mk 9 false r19.1 0)]) 0 rfl
    exact wp_ret (rThen (sRet (.tuple #[.slice ad22 [(api_Stitch.mk 9 false r19.1 0)].length cp23, .bool r19.2]) S (rsl2 rfl (rvT (t := 2) (v := .slice ad22 [(api_Stitch.mk 9 false r19.1 0)].length cp23) S rfl) (rvT (t := 3) (v := .bool r19.2) S rfl)) ⟨(.slice ad22 [(api_Stitch.mk 9 false r19.1 0)].length cp23), rfl, S.mem.sel [] [0] (by decide) rfl rfl⟩))
  refine sCondF S rfl hc15 ?_
  refine wp_skip (leafT (hK8 _ _ ?_))
  refine sSeq (fun K24 hK24 => ?_)
  obtain ⟨t26, h, g27⟩ := bindSome h
  refine sCut (fun a w => ∃ o25, o25 = t26 ∧ St [] E [] w0 140 a w [(0, .string p0), (49, .bool o25)] [] []) ?_ (fun a w hI => ?_)
  · refine sRegion ?_
    refine sMove (.string p0) S (wN rfl) (.inl rfl) rfl rfl (lb rfl) fun a S => ?_
    refine sLenS (v := p0) S (wN rfl) rfl Try.underlying9 rfl rfl (lb rfl) fun a S => ?_
    refine sBin (.bool ((p0.size : Int) == 0)) S (wN rfl) rfl rfl rfl (bEq _ _ _ _ .i64 (p0.size : Int) 0) rfl (lb rfl) fun a S => ?_
    refine sMove (.bool ((p0.size : Int) == 0)) S (wN rfl) (.inl rfl) rfl rfl (lb rfl) fun a S => ?_
    rcases iteSome h with ⟨hc28, h⟩ | ⟨hc28, h⟩
    · refine sSkip 3 false 40 41 S rfl rfl rfl hc28 rfl (lb rfl) fun a S => ?_
      refine sSkip 3 false 40 42 S rfl rfl rfl hc28 rfl (lb rfl) fun a S => ?_
      refine sSkip 3 false 40 43 S rfl rfl rfl hc28 rfl (lb rfl) fun a S => ?_
      refine sSkip 3 false 40 44 S rfl rfl rfl hc28 rfl (lb rfl) fun a S => ?_
      refine sSkipU 7 true 44 45 S rfl rfl rfl rfl (lb rfl) fun a S => ?_
      refine sSkipU 7 true 44 46 S rfl rfl rfl rfl (lb rfl) fun a S => ?_
      refine sSkipU 7 true 44 47 S rfl rfl rfl rfl (lb rfl) fun a S => ?_
      refine sSkip 3 false 40 48 S rfl rfl rfl hc28 rfl (lb rfl) fun a S => ?_
      refine sPickT (.bool true) S (wN rfl) rfl rfl hc28 rfl rfl (lb rfl) fun a S => ?_
      exact leafL (leafT (⟨true, Option.some.inj h, S.fix [] [] (by decide) rfl rfl rfl⟩))
    refine sMove (.string p0) S (wG 3 false 40 rfl rfl rfl hc28) (.inl rfl) rfl rfl (lb rfl) fun a S => ?_
    obtain ⟨x29, hx30, h⟩ := bindSome h
    refine sIndexS (v := p0) (j := 0) (k := .i64) S (wG 3 false 40 rfl rfl rfl hc28) rfl Try.underlying9 rfl rfl hx30 rfl (lb rfl) fun a S => ?_
    refine sBin (.bool (x29 != 107)) S (wG 3 false 40 rfl rfl rfl hc28) rfl rfl rfl (bNe _ _ _ _ .u8 x29 107) rfl (lb rfl) fun a S => ?_
    refine sMove (.bool (x29 != 107)) S (wG 3 false 40 rfl rfl rfl hc28) (.inl rfl) rfl rfl (lb rfl) fun a S => ?_
    rcases iteSome h with ⟨hc31, h⟩ | ⟨hc31, h⟩
    rotate_left
    · refine sSkip 7 true 44 45 S rfl rfl rfl hc31 rfl (lb rfl) fun a S => ?_
      refine sSkip 7 true 44 46 S rfl rfl rfl hc31 rfl (lb rfl) fun a S => ?_
      refine sSkip 7 true 44 47 S rfl rfl rfl hc31 rfl (lb rfl) fun a S => ?_
      refine sPickF (.bool false) S (wG 3 false 40 rfl rfl rfl hc28) rfl rfl hc31 rfl rfl (lb rfl) fun a S => ?_
      refine sPickF (.bool false) S (wN rfl) rfl rfl hc28 rfl rfl (lb rfl) fun a S => ?_
      exact leafL (leafT (⟨false, Option.some.inj h, S.fix [] [] (by decide) rfl rfl rfl⟩))
    refine sMove (.string p0) S (wG 7 true 44 rfl rfl rfl hc31) (.inl rfl) rfl rfl (lb rfl) fun a S => ?_
    refine sIndexS (v := p0) (j := 0) (k := .i64) S (wG 7 true 44 rfl rfl rfl hc31) rfl Try.underlying9 rfl rfl hx30 rfl (lb rfl) fun a S => ?_
    refine sBin (.bool (x29 != 112)) S (wG 7 true 44 rfl rfl rfl hc31) rfl rfl rfl (bNe _ _ _ _ .u8 x29 112) rfl (lb rfl) fun a S => ?_
    refine sPickT (.bool (x29 != 112)) S (wG 3 false 40 rfl rfl rfl hc28) rfl rfl hc31 rfl rfl (lb rfl) fun a S => ?_
    refine sPickF (.bool (x29 != 112)) S (wN rfl) rfl rfl hc28 rfl rfl (lb rfl) fun a S => ?_
    exact leafL (leafT (⟨x29 != 112, Option.some.inj h, S.fix [] [] (by decide) rfl rfl rfl⟩))
  obtain ⟨o25, rfl, S⟩ := hI
  have h := g27
  clear g27
  try dsimp only at h
  rcases iteSome h with ⟨hc32, h⟩ | ⟨hc32, h⟩
  · refine sCondT S rfl hc32 ?_
    refine sSeq (fun K33 hK33 => ?_)
    refine sRegion ?_
    refine sMove (.slice none 0 0) S (wN rfl) (.inr rfl) rfl rfl (lb rfl) fun a S => ?_
    refine sMove (.bool false) S (wN rfl) (.inr rfl) rfl rfl (lb rfl) fun a S => ?_
    refine leafL (leafT (hK33 _ _ ?_))
    obtain rfl := Option.some.inj h
    have S := S.learn (fRep (rL r_api_Stitch) (.slice none 0 0) ([] : (List api_Stitch))) (rL_nil _ _ _)
    exact wp_ret (rThen (sRet (.tuple #[.slice none 0 0, .bool false]) S (rsl2 rfl (rvT (t := 2) (v := .slice none 0 0) S rfl) (rvT (t := 3) (v := .bool false) S rfl)) ⟨(.slice none 0 0), rfl, S.mem.sel [] [0] (by decide) rfl rfl⟩))
  refine sCondF S rfl hc32 ?_
  refine wp_skip (leafT (hK24 _ _ ?_))
  refine sSeq (fun K34 hK34 => ?_)
  refine sRegion ?_
  refine sMove (.string p0) S (wN rfl) (.inl rfl) rfl rfl (lb rfl) fun a S => ?_
  obtain ⟨x35, hx36, h⟩ := bindSome h
  refine sIndexS (v := p0) (j := 0) (k := .i64) S (wN rfl) rfl Try.underlying9 rfl rfl hx36 rfl (lb rfl) fun a S => ?_
  refine sBin (.bool (x35 == 112)) S (wN rfl) rfl rfl rfl (bEq _ _ _ _ .u8 x35 112) rfl (lb rfl) fun a S => ?_
  refine sBuild [(0, .int .u8 1), (1, .bool (x35 == 112))] [.int .u8 1, .bool (x35 == 112), iv 0, iv 0] S (wN rfl) rfl rfl rfl rfl (lb rfl) fun a S => ?_
  refine sAlloc (.agg #[.int .u8 0, .bool false, iv 0, iv 0]) S (wN rfl) rfl rfl [.int .u8 0, .bool false, iv 0, iv 0] rfl rfl (lb rfl) fun a b37 w S => ?_
  refine sStore (p := b37) (off := 0) (T := 74) (vs := [.int .u8 0, .bool false, iv 0, iv 0]) (v := .agg #[.int .u8 1, .bool (x35 == 112), iv 0, iv 0]) 0 [.int .u8 1, .bool (x35 == 112), iv 0, iv 0] S (wN rfl) rfl rfl rfl rfl rfl rfl rfl (by simp) rfl fun a w S => ?_
  refine leafL (leafT (hK34 _ _ ?_))
  refine sSeq (fun K38 hK38 => ?_)
  refine sSeq (fun K39 hK39 => ?_)
  refine sRegion ?_
  refine sMove (.string p0) S (wN rfl) (.inl rfl) rfl rfl (lb rfl) fun a S => ?_
  refine sLenS (v := p0) S (wN rfl) rfl Try.underlying9 rfl rfl (lb rfl) fun a S => ?_
  refine sBin (.bool ((p0.size : Int) == 1)) S (wN rfl) rfl rfl rfl (bEq _ _ _ _ .i64 (p0.size : Int) 1) rfl (lb rfl) fun a S => ?_
  refine leafL (leafT (hK39 _ _ ?_))
  rcases iteSome h with ⟨hc40, h⟩ | ⟨hc40, h⟩
  · refine sCondT S rfl hc40 ?_
    refine sSeq (fun K41 hK41 => ?_)
    refine sRegion ?_
    refine sLoadN (p := b37) (off := 0) (T := 74) (vs := [.int .u8 1, .bool (x35 == 112), iv 0, iv 0]) 0 [.int .u8 1, .bool (x35 == 112), iv 0, iv 0] S (wN rfl) rfl rfl rfl rfl rfl rfl rfl (lb rfl) fun a S => ?_
    have S := S.learn (fRep r_api_Stitch (.agg #[.int .u8 1, .bool (x35 == 112), iv 0, iv 0]) (api_Stitch.mk 1 (x35 == 112) 0 0)) rfl
    refine sLit (r := r_api_Stitch) (T := 74) (xs := [(api_Stitch.mk 1 (x35 == 112) 0 0)]) [(0, .agg #[.int .u8 1, .bool (x35 == 112), iv 0, iv 0])] 1 [.agg #[.int .u8 1, .bool (x35 == 112), iv 0, iv 0]] [.int .u8 1, .bool (x35 == 112), iv 0, iv 0] (.agg #[.int .u8 0, .bool false, iv 0, iv 0]) 24 S (wN rfl) rfl rfl Try.underlying70 rfl (by decide) (by decide) (by kernel_rfl) rfl (fun E1 w1 hE => All.cons (r_api_Stitch.mono hE (S.mem.know (i := 0) (e := fRep r_api_Stitch (.agg #[.int .u8 1, .bool (x35 == 112), iv 0, iv 0]) (api_Stitch.mk 1 (x35 == 112) 0 0)) rfl)) (All.nil _ _ _)) rfl rfl (lb rfl) fun a w ad42 cp43 S => ?_
    refine sMove (.slice ad42 [(api_Stitch.mk 1 (x35 == 112) 0 0)].length cp43) S (wN rfl) (.inr rfl) rfl rfl (lb rfl) fun a S => ?_
    refine sMove (.bool true) S (wN rfl) (.inr rfl) rfl rfl (lb rfl) fun a S => ?_
    refine leafL (leafT (hK41 _ _ ?_))
    obtain rfl := Option.some.inj h
    have S := S.shutR (r := r_api_Stitch) (T := 74) (v := .slice ad42 [(api_Stitch.mk 1 (x35 == 112) 0 0)].length cp43) (xs := [(api_Stitch.mk 1 (x35 == 112) 0 0)]) 0 rfl
    exact wp_ret (rThen (sRet (.tuple #[.slice ad42 [(api_Stitch.mk 1 (x35 == 112) 0 0)].length cp43, .bool true]) S (rsl2 rfl (rvT (t := 2) (v := .slice ad42 [(api_Stitch.mk 1 (x35 == 112) 0 0)].length cp43) S rfl) (rvT (t := 3) (v := .bool true) S rfl)) ⟨(.slice ad42 [(api_Stitch.mk 1 (x35 == 112) 0 0)].length cp43), rfl, S.mem.sel [] [0] (by decide) rfl rfl⟩))
  refine sCondF S rfl hc40 ?_
  refine wp_skip (leafT (hK38 _ _ ?_))
  obtain ⟨t44, h, g45⟩ := bindSome h
  refine sCut (fun a w => .inl () = t44 ∧ St [] E [] w0 140 a w [(0, .string p0), (6, .pointer (some ⟨b37, 0, none⟩))] [eBox b37 74 [.int .u8 1, .bool (x35 == 112), iv 0, iv 0]] []) ?_ (fun a w hI => ?_)
  · refine sSeq (fun K46 hK46 => ?_)
    refine sRegion ?_
    refine sMove (.string p0) S (wN rfl) (.inl rfl) rfl rfl (lb rfl) fun a S => ?_
    obtain ⟨y47, hx48, h⟩ := bindSome h
    refine sSliceS (v := p0) (u := y47) (vlo := (some (.int .i64 1))) (vhi := none) (lo' := 1) (hi' := (p0.size : Int)) S (wN rfl) rfl Try.underlying9 rfl rfl rfl (.inl rfl) (.inr ⟨rfl, rfl⟩) hx48 rfl (lb rfl) fun a S => ?_
    obtain ⟨r49, hx50, h⟩ := bindSome h
    have S1 := S.mem
    refine sCallQ (X := Unit) (f := 47) (vs := [.string y47]) (val := fun _ => .tuple #[iv r49.1, .bool r49.2]) S (wN rfl) rfl callee47 rfl (S1.quiet [] rfl) (fun E1 w1 S1 => c_raddleref25_Number E1 w1 y47 r49 hx50 S1) rfl (lb rfl) fun _ a w S => ?_
    refine sMove (.tuple #[iv r49.1, .bool r49.2]) S (wN rfl) (.inl rfl) rfl rfl (lb rfl) fun a S => ?_
    refine sExtract (vs := [iv r49.1, .bool r49.2]) (iv r49.1) S (wN rfl) rfl rfl rfl rfl (lb rfl) fun a S => ?_
    refine sExtract (vs := [iv r49.1, .bool r49.2]) (.bool r49.2) S (wN rfl) rfl rfl rfl rfl (lb rfl) fun a S => ?_
    refine sMove (iv r49.1) S (wN rfl) (.inr rfl) rfl rfl (lb rfl) fun a S => ?_
    refine sMove (.bool r49.2) S (wN rfl) (.inr rfl) rfl rfl (lb rfl) fun a S => ?_
    refine leafL (leafT (hK46 _ _ ?_))
    refine sSeq (fun K51 hK51 => ?_)
    refine sRegion ?_
    refine sMove (.bool r49.2) S (wN rfl) (.inl rfl) rfl rfl (lb rfl) fun a S => ?_
    refine leafL (leafT (hK51 _ _ ?_))
    rcases iteSome h with ⟨hc52, h⟩ | ⟨hc52, h⟩
    rotate_left
    · refine sCondF S rfl hc52 ?_
      exact wp_skip (leafT (⟨Option.some.inj h, S.fix [0] [] (by decide) rfl rfl rfl⟩))
    refine sCondT S rfl hc52 ?_
    refine sSeq (fun K53 hK53 => ?_)
    refine sRegion ?_
    refine sMove (.slice none 0 0) S (wN rfl) (.inr rfl) rfl rfl (lb rfl) fun a S => ?_
    refine leafL (leafT (hK53 _ _ ?_))
    obtain ⟨t57, h, g58⟩ := bindSome h
    refine sCut (fun a w => ∃ o54, o54 = t57 ∧ ∃ ad55, ∃ cp56, St [] E [] w0 140 a w [(7, iv r49.1), (9, .slice ad55 o54.length cp56)] [eRow r_api_Stitch 74 (.slice ad55 o54.length cp56) o54] []) ?_ (fun a w hI => ?_)
    rotate_left
    · obtain ⟨o54, rfl, ad55, cp56, S⟩ := hI
      have h := g58
      clear g58
      try dsimp only at h
      refine sSeq (fun K83 hK83 => ?_)
      refine sRegion ?_
      refine sMove (.slice ad55 o54.length cp56) S (wN rfl) (.inl rfl) rfl rfl (lb rfl) fun a S => ?_
      refine sMove (iv r49.1) S (wN rfl) (.inl rfl) rfl rfl (lb rfl) fun a S => ?_
      refine sBin (.bool (decide (1 < r49.1))) S (wN rfl) rfl rfl rfl (bGt _ _ _ _ .i64 r49.1 1) rfl (lb rfl) fun a S => ?_
      refine sMove (.slice ad55 o54.length cp56) S (wN rfl) (.inr rfl) rfl rfl (lb rfl) fun a S => ?_
      refine sMove (.bool (decide (1 < r49.1))) S (wN rfl) (.inr rfl) rfl rfl (lb rfl) fun a S => ?_
      refine leafL (leafT (hK83 _ _ ?_))
      obtain rfl := Option.some.inj h
      have h := g45
      clear g45
      try dsimp only at h
      obtain rfl := Option.some.inj h
      have S := S.shutR (r := r_api_Stitch) (T := 74) (v := .slice ad55 o54.length cp56) (xs := o54) 0 rfl
      exact wp_ret (rThen (sRet (.tuple #[.slice ad55 o54.length cp56, .bool (decide (1 < r49.1))]) S (rsl2 rfl (rvT (t := 2) (v := .slice ad55 o54.length cp56) S rfl) (rvT (t := 3) (v := .bool (decide (1 < r49.1))) S rfl)) ⟨(.slice ad55 o54.length cp56), rfl, S.mem.sel [] [0] (by decide) rfl rfl⟩))
    refine sSeq (fun K59 hK59 => ?_)
    refine sRegion ?_
    refine sMove (iv 0) S (wN rfl) (.inr rfl) rfl rfl (lb rfl) fun a S => ?_
    refine leafL (leafT (hK59 _ _ ?_))
    refine wp_block ?_
    have S := S.nilRow r_api_Stitch 74 (α := api_Stitch)
    obtain ⟨t66, hl, g65⟩ := bindSome h
    refine sLoop hl (fun s0 a w => match s0 with | (s60, s63) => ∃ ad61, ∃ cp62, St [] E [] w0 140 a w [(6, .pointer (some ⟨b37, 0, none⟩)), (7, iv r49.1), (9, .slice ad61 s60.length cp62), (10, iv s63)] [eBox b37 74 [.int .u8 1, .bool (x35 == 112), iv 0, iv 0], eRow r_api_Stitch 74 (.slice ad61 s60.length cp62) s60] []) ⟨none, 0, S.fix [1, 0] [] (by decide) rfl rfl rfl⟩ ?_
    clear hl h
    intro s0 a w c0 hI h hu64
    obtain ⟨s60, s63⟩ := s0
    unfold raddleref25_word_l1 at h
    dsimp only at h hI
    obtain ⟨ad61, cp62, S⟩ := hI
    refine sSeq (fun K70 hK70 => ?_)
    obtain ⟨t72, h, g73⟩ := bindSome h
    refine sCut (fun a w => ∃ o71, o71 = t72 ∧ St [] E [] w0 140 a w [(6, .pointer (some ⟨b37, 0, none⟩)), (7, iv r49.1), (9, .slice ad61 s60.length cp62), (10, iv s63), (72, .bool o71)] [eBox b37 74 [.int .u8 1, .bool (x35 == 112), iv 0, iv 0], eRow r_api_Stitch 74 (.slice ad61 s60.length cp62) s60] []) ?_ (fun a w hI => ?_)
    · refine sRegion ?_
      refine sMove (iv s63) S (wN rfl) (.inl rfl) rfl rfl (lb rfl) fun a S => ?_
      refine sMove (iv r49.1) S (wN rfl) (.inl rfl) rfl rfl (lb rfl) fun a S => ?_
      refine sBin (.bool (decide (s63 < r49.1))) S (wN rfl) rfl rfl rfl (bLt _ _ _ _ .i64 s63 r49.1) rfl (lb rfl) fun a S => ?_
      refine sMove (.bool (decide (s63 < r49.1))) S (wN rfl) (.inl rfl) rfl rfl (lb rfl) fun a S => ?_
      rcases iteSome h with ⟨hc74, h⟩ | ⟨hc74, h⟩
      rotate_left
      · refine sSkip 3 true 69 70 S rfl rfl rfl hc74 rfl (lb rfl) fun a S => ?_
        refine sSkip 3 true 69 71 S rfl rfl rfl hc74 rfl (lb rfl) fun a S => ?_
        refine sPickF (.bool false) S (wN rfl) rfl rfl hc74 rfl rfl (lb rfl) fun a S => ?_
        exact leafL (leafT (⟨false, Option.some.inj h, S.fix [0, 1] [] (by decide) rfl rfl rfl⟩))
      refine sMove (iv s63) S (wG 3 true 69 rfl rfl rfl hc74) (.inl rfl) rfl rfl (lb rfl) fun a S => ?_
      refine sBin (.bool (decide (s63 < 300))) S (wG 3 true 69 rfl rfl rfl hc74) rfl rfl rfl (bLt _ _ _ _ .i64 s63 300) rfl (lb rfl) fun a S => ?_
      refine sPickT (.bool (decide (s63 < 300))) S (wN rfl) rfl rfl hc74 rfl rfl (lb rfl) fun a S => ?_
      exact leafL (leafT (⟨decide (s63 < 300), Option.some.inj h, S.fix [0, 1] [] (by decide) rfl rfl rfl⟩))
    obtain ⟨o71, rfl, S⟩ := hI
    have h := g73
    clear g73
    try dsimp only at h
    rcases iteSome h with ⟨hc75, h⟩ | ⟨hc75, h⟩
    rotate_left
    · refine sCondF S rfl hc75 ?_
      obtain rfl := Option.some.inj h
      obtain rfl := hu64 _ rfl
      have h := g65
      clear g65
      try dsimp only at h
      exact wp_exit (xThen (xThen (xHit (leafT (⟨s60, Option.some.inj h, ad61, cp62, S.fix [1] [] (by decide) rfl rfl rfl⟩)))))
    refine sCondT S rfl hc75 ?_
    refine wp_skip (leafT (hK70 _ _ ?_))
    refine sSeq (fun K76 hK76 => ?_)
    refine wp_block ?_
    refine sRegion ?_
    refine sMove (.slice ad61 s60.length cp62) S (wN rfl) (.inl rfl) rfl rfl (lb rfl) fun a S => ?_
    refine sLoadN (p := b37) (off := 0) (T := 74) (vs := [.int .u8 1, .bool (x35 == 112), iv 0, iv 0]) 0 [.int .u8 1, .bool (x35 == 112), iv 0, iv 0] S (wN rfl) rfl rfl rfl rfl rfl rfl rfl (lb rfl) fun a S => ?_
    have S := S.learn (fRep r_api_Stitch (.agg #[.int .u8 1, .bool (x35 == 112), iv 0, iv 0]) (api_Stitch.mk 1 (x35 == 112) 0 0)) rfl
    refine sLit (r := r_api_Stitch) (T := 74) (xs := [(api_Stitch.mk 1 (x35 == 112) 0 0)]) [(0, .agg #[.int .u8 1, .bool (x35 == 112), iv 0, iv 0])] 1 [.agg #[.int .u8 1, .bool (x35 == 112), iv 0, iv 0]] [.int .u8 1, .bool (x35 == 112), iv 0, iv 0] (.agg #[.int .u8 0, .bool false, iv 0, iv 0]) 24 S (wN rfl) rfl rfl Try.underlying70 rfl (by decide) (by decide) (by kernel_rfl) rfl (fun E1 w1 hE => All.cons (r_api_Stitch.mono hE (S.mem.know (i := 0) (e := fRep r_api_Stitch (.agg #[.int .u8 1, .bool (x35 == 112), iv 0, iv 0]) (api_Stitch.mk 1 (x35 == 112) 0 0)) rfl)) (All.nil _ _ _)) rfl rfl (lb rfl) fun a w ad77 cp78 S => ?_
    obtain ⟨l79, hx80, h⟩ := bindSome h
    refine sApp (r := r_api_Stitch) (T := 74) (xs := s60) (ys := [(api_Stitch.mk 1 (x35 == 112) 0 0)]) (v := .slice ad61 s60.length cp62) (u := .slice ad77 [(api_Stitch.mk 1 (x35 == 112) 0 0)].length cp78) 2 (.agg #[.int .u8 0, .bool false, iv 0, iv 0]) 24 S (wN rfl) rfl Try.underlying70 rfl rfl (by decide) rfl rfl rfl (src_R (T := 74) 0 S.mem rfl) hx80 rfl (lb rfl) fun a w ad81 cp82 S => ?_
    refine sMove (.slice ad81 l79.length cp82) S (wN rfl) (.inr rfl) rfl rfl (lb rfl) fun a S => ?_
    refine leafL (leafB (leafT (hK76 _ _ ?_)))
    refine sRegion ?_
    refine sMove (iv s63) S (wN rfl) (.inl rfl) rfl rfl (lb rfl) fun a S => ?_
    refine sBin (iv (w64 (s63 + 1))) S (wN rfl) rfl rfl rfl (bAdd _ _ _ _ s63 1) rfl (lb rfl) fun a S => ?_
    refine sMove (iv (w64 (s63 + 1))) S (wN rfl) (.inr rfl) rfl rfl (lb rfl) fun a S => ?_
    exact leafL (leafT (⟨(l79, w64 (s63 + 1)), (Option.some.inj h).symm, ⟨ad81, cp82, S.fix [2, 0] [] (by decide) rfl rfl rfl⟩⟩))
  obtain ⟨rfl, S⟩ := hI
  have h := g45
  clear g45
  try dsimp only at h
  refine sSeq (fun K84 hK84 => ?_)
  refine sRegion ?_
  refine sMove (.string p0) S (wN rfl) (.inl rfl) rfl rfl (lb rfl) fun a S => ?_
  obtain ⟨x85, hx86, h⟩ := bindSome h
  refine sIndexS (v := p0) (j := 1) (k := .i64) S (wN rfl) rfl Try.underlying9 rfl rfl hx86 rfl (lb rfl) fun a S => ?_
  obtain ⟨r87, hx88, h⟩ := bindSome h
  have S1 := S.mem
  refine sCallQ (X := Unit) (f := 87) (vs := [.int .u8 x85]) (val := fun _ => .int .u8 r87) S (wN rfl) rfl callee87 rfl (S1.quiet [] rfl) (fun E1 w1 S1 => c_raddleref25_kind E1 w1 x85 r87 hx88 S1) rfl (lb rfl) fun _ a w S => ?_
  refine sField (b := b37) (off := 0) 0 0 S (wN rfl) rfl rfl rfl rfl rfl (lb rfl) fun a S => ?_
  refine sStore (p := b37) (off := 0) (T := 74) (vs := [.int .u8 1, .bool (x35 == 112), iv 0, iv 0]) (v := .int .u8 r87) 0 [.int .u8 r87] S (wN rfl) rfl rfl rfl rfl rfl rfl rfl (by simp) rfl fun a w S => ?_
  refine leafL (leafT (hK84 _ _ ?_))
  refine sSeq (fun K89 hK89 => ?_)
  refine sSeq (fun K90 hK90 => ?_)
  refine sRegion ?_
  refine sField (b := b37) (off := 0) 0 0 S (wN rfl) rfl rfl rfl rfl rfl (lb rfl) fun a S => ?_
  refine sLoad1 (p := b37) (off := 0) (T := 74) (vs := [.int .u8 r87, .bool (x35 == 112), iv 0, iv 0]) 0 (.int .u8 r87) S (wN rfl) rfl rfl rfl rfl rfl rfl (lb rfl) fun a S => ?_
  refine sBin (.bool (r87 == 8)) S (wN rfl) rfl rfl rfl (bEq _ _ _ _ .u8 r87 8) rfl (lb rfl) fun a S => ?_
  refine leafL (leafT (hK90 _ _ ?_))
  rcases iteSome h with ⟨hc91, h⟩ | ⟨hc91, h⟩
  · refine sCondT S rfl hc91 ?_
    refine sSeq (fun K92 hK92 => ?_)
    refine sRegion ?_
    refine sLoadN (p := b37) (off := 0) (T := 74) (vs := [.int .u8 r87, .bool (x35 == 112), iv 0, iv 0]) 0 [.int .u8 r87, .bool (x35 == 112), iv 0, iv 0] S (wN rfl) rfl rfl rfl rfl rfl rfl rfl (lb rfl) fun a S => ?_
    have S := S.learn (fRep r_api_Stitch (.agg #[.int .u8 r87, .bool (x35 == 112), iv 0, iv 0]) (api_Stitch.mk r87 (x35 == 112) 0 0)) rfl
    refine sLit (r := r_api_Stitch) (T := 74) (xs := [(api_Stitch.mk r87 (x35 == 112) 0 0)]) [(0, .agg #[.int .u8 r87, .bool (x35 == 112), iv 0, iv 0])] 1 [.agg #[.int .u8 r87, .bool (x35 == 112), iv 0, iv 0]] [.int .u8 r87, .bool (x35 == 112), iv 0, iv 0] (.agg #[.int .u8 0, .bool false, iv 0, iv 0]) 24 S (wN rfl) rfl rfl Try.underlying70 rfl (by decide) (by decide) (by kernel_rfl) rfl (fun E1 w1 hE => All.cons (r_api_Stitch.mono hE (S.mem.know (i := 0) (e := fRep r_api_Stitch (.agg #[.int .u8 r87, .bool (x35 == 112), iv 0, iv 0]) (api_Stitch.mk r87 (x35 == 112) 0 0)) rfl)) (All.nil _ _ _)) rfl rfl (lb rfl) fun a w ad93 cp94 S => ?_
    refine sMove (.string p0) S (wN rfl) (.inl rfl) rfl rfl (lb rfl) fun a S => ?_
    refine sLenS (v := p0) S (wN rfl) rfl Try.underlying9 rfl rfl (lb rfl) fun a S => ?_
    refine sBin (.bool ((p0.size : Int) == 2)) S (wN rfl) rfl rfl rfl (bEq _ _ _ _ .i64 (p0.size : Int) 2) rfl (lb rfl) fun a S => ?_
    refine sMove (.slice ad93 [(api_Stitch.mk r87 (x35 == 112) 0 0)].length cp94) S (wN rfl) (.inr rfl) rfl rfl (lb rfl) fun a S => ?_
    refine sMove (.bool ((p0.size : Int) == 2)) S (wN rfl) (.inr rfl) rfl rfl (lb rfl) fun a S => ?_
    refine leafL (leafT (hK92 _ _ ?_))
    obtain rfl := Option.some.inj h
    have S := S.shutR (r := r_api_Stitch) (T := 74) (v := .slice ad93 [(api_Stitch.mk r87 (x35 == 112) 0 0)].length cp94) (xs := [(api_Stitch.mk r87 (x35 == 112) 0 0)]) 0 rfl
    exact wp_ret (rThen (sRet (.tuple #[.slice ad93 [(api_Stitch.mk r87 (x35 == 112) 0 0)].length cp94, .bool ((p0.size : Int) == 2)]) S (rsl2 rfl (rvT (t := 2) (v := .slice ad93 [(api_Stitch.mk r87 (x35 == 112) 0 0)].length cp94) S rfl) (rvT (t := 3) (v := .bool ((p0.size : Int) == 2)) S rfl)) ⟨(.slice ad93 [(api_Stitch.mk r87 (x35 == 112) 0 0)].length cp94), rfl, S.mem.sel [] [0] (by decide) rfl rfl⟩))
  refine sCondF S rfl hc91 ?_
  refine wp_skip (leafT (hK89 _ _ ?_))
  refine sSeq (fun K95 hK95 => ?_)
  refine sRegion ?_
  refine sMove (.string p0) S (wN rfl) (.inl rfl) rfl rfl (lb rfl) fun a S => ?_
  obtain ⟨y96, hx97, h⟩ := bindSome h
  refine sSliceS (v := p0) (u := y96) (vlo := (some (.int .i64 2))) (vhi := none) (lo' := 2) (hi' := (p0.size : Int)) S (wN rfl) rfl Try.underlying9 rfl rfl rfl (.inl rfl) (.inr ⟨rfl, rfl⟩) hx97 rfl (lb rfl) fun a S => ?_
  obtain ⟨r98, hx99, h⟩ := bindSome h
  refine sCall (X := Value) (f := 46) (vs := [.string y96, .int .u8 47]) (val := c_raddleref25_Cut_val r98) (B' := fun _ => []) (D' := c_raddleref25_Cut_D r98) [] [eBox b37 74 [.int .u8 r87, .bool (x35 == 112), iv 0, iv 0]] [] [0] [] S (wN rfl) rfl callee46 rfl (by decide) rfl rfl (fun E1 w1 S1 => c_raddleref25_Cut E1 w1 y96 47 r98 hx99 S1) rfl (lb rfl) fun u100 a w S => ?_
  obtain ⟨ad101, cp102, _, rfl, _⟩ := S.mem.know (i := 0) (e := fRep (rL rS) (u100) r98) rfl
  refine sMove (.slice ad101 r98.length cp102) S (wN rfl) (.inr rfl) rfl rfl (lb rfl) fun a S => ?_
  refine leafL (leafT (hK95 _ _ ?_))
  obtain ⟨t104, h, g105⟩ := bindSome h
  refine sCut (fun a w => ∃ o103, o103 = t104 ∧ St [] E [] w0 140 a w [(6, .pointer (some ⟨b37, 0, none⟩)), (11, .slice ad101 r98.length cp102), (12, .bool o103)] [eBox b37 74 [.int .u8 r87, .bool (x35 == 112), iv 0, iv 0]] [fRep (rL rS) (.slice ad101 r98.length cp102) r98]) ?_ (fun a w hI => ?_)
  · refine sRegion ?_
    refine sField (b := b37) (off := 0) 0 0 S (wN rfl) rfl rfl rfl rfl rfl (lb rfl) fun a S => ?_
    refine sLoad1 (p := b37) (off := 0) (T := 74) (vs := [.int .u8 r87, .bool (x35 == 112), iv 0, iv 0]) 0 (.int .u8 r87) S (wN rfl) rfl rfl rfl rfl rfl rfl (lb rfl) fun a S => ?_
    refine sBin (.bool (r87 != 0)) S (wN rfl) rfl rfl rfl (bNe _ _ _ _ .u8 r87 0) rfl (lb rfl) fun a S => ?_
    refine sMove (.bool (r87 != 0)) S (wN rfl) (.inl rfl) rfl rfl (lb rfl) fun a S => ?_
    rcases iteSome h with ⟨hc106, h⟩ | ⟨hc106, h⟩
    rotate_left
    · refine sSkip 3 true 100 101 S rfl rfl rfl hc106 rfl (lb rfl) fun a S => ?_
      refine sSkip 3 true 100 102 S rfl rfl rfl hc106 rfl (lb rfl) fun a S => ?_
      refine sSkip 3 true 100 103 S rfl rfl rfl hc106 rfl (lb rfl) fun a S => ?_
      refine sPickF (.bool false) S (wN rfl) rfl rfl hc106 rfl rfl (lb rfl) fun a S => ?_
      refine sMove (.bool false) S (wN rfl) (.inr rfl) rfl rfl (lb rfl) fun a S => ?_
      exact leafL (leafT (⟨false, Option.some.inj h, S.fix [0] [0] (by decide) rfl rfl rfl⟩))
    refine sMove (.slice ad101 r98.length cp102) S (wG 3 true 100 rfl rfl rfl hc106) (.inl rfl) rfl rfl (lb rfl) fun a S => ?_
    refine sLen (ad := ad101) (m := r98.length) (c := cp102) S (wG 3 true 100 rfl rfl rfl hc106) rfl Try.underlying94 rfl rfl (lb rfl) fun a S => ?_
    refine sBin (.bool ((r98.length : Int) == 1)) S (wG 3 true 100 rfl rfl rfl hc106) rfl rfl rfl (bEq _ _ _ _ .i64 (r98.length : Int) 1) rfl (lb rfl) fun a S => ?_
    refine sPickT (.bool ((r98.length : Int) == 1)) S (wN rfl) rfl rfl hc106 rfl rfl (lb rfl) fun a S => ?_
    refine sMove (.bool ((r98.length : Int) == 1)) S (wN rfl) (.inr rfl) rfl rfl (lb rfl) fun a S => ?_
    exact leafL (leafT (⟨(r98.length : Int) == 1, Option.some.inj h, S.fix [0] [0] (by decide) rfl rfl rfl⟩))
  obtain ⟨o103, rfl, S⟩ := hI
  have h := g105
  clear g105
  try dsimp only at h
  obtain ⟨t109, h, g110⟩ := bindSome h
  refine sCut (fun a w => ∃ o107, ∃ o108, (o107, o108) = t109 ∧ St [] E [] w0 140 a w [(6, .pointer (some ⟨b37, 0, none⟩)), (11, .slice ad101 r98.length cp102), (12, .bool o107)] [eBox b37 74 [.int .u8 r87, .bool (x35 == 112), iv 0, iv o108]] [fRep (rL rS) (.slice ad101 r98.length cp102) r98]) ?_ (fun a w hI => ?_)
  · obtain ⟨t112, h, g113⟩ := bindSome h
    refine sCut (fun a w => ∃ o111, o111 = t112 ∧ St [] E [] w0 140 a w [(6, .pointer (some ⟨b37, 0, none⟩)), (11, .slice ad101 r98.length cp102), (12, .bool o103), (112, .bool o111)] [eBox b37 74 [.int .u8 r87, .bool (x35 == 112), iv 0, iv 0]] [fRep (rL rS) (.slice ad101 r98.length cp102) r98]) ?_ (fun a w hI => ?_)
    · refine sRegion ?_
      refine sField (b := b37) (off := 0) 0 0 S (wN rfl) rfl rfl rfl rfl rfl (lb rfl) fun a S => ?_
      refine sLoad1 (p := b37) (off := 0) (T := 74) (vs := [.int .u8 r87, .bool (x35 == 112), iv 0, iv 0]) 0 (.int .u8 r87) S (wN rfl) rfl rfl rfl rfl rfl rfl (lb rfl) fun a S => ?_
      refine sBin (.bool (r87 == 6)) S (wN rfl) rfl rfl rfl (bEq _ _ _ _ .u8 r87 6) rfl (lb rfl) fun a S => ?_
      refine sMove (.bool (r87 == 6)) S (wN rfl) (.inl rfl) rfl rfl (lb rfl) fun a S => ?_
      rcases iteSome h with ⟨hc114, h⟩ | ⟨hc114, h⟩
      · refine sSkip 3 false 108 109 S rfl rfl rfl hc114 rfl (lb rfl) fun a S => ?_
        refine sSkip 3 false 108 110 S rfl rfl rfl hc114 rfl (lb rfl) fun a S => ?_
        refine sSkip 3 false 108 111 S rfl rfl rfl hc114 rfl (lb rfl) fun a S => ?_
        refine sPickT (.bool true) S (wN rfl) rfl rfl hc114 rfl rfl (lb rfl) fun a S => ?_
        exact leafL (leafT (⟨true, Option.some.inj h, S.fix [0] [0] (by decide) rfl rfl rfl⟩))
      refine sField (b := b37) (off := 0) 0 0 S (wG 3 false 108 rfl rfl rfl hc114) rfl rfl rfl rfl rfl (lb rfl) fun a S => ?_
      refine sLoad1 (p := b37) (off := 0) (T := 74) (vs := [.int .u8 r87, .bool (x35 == 112), iv 0, iv 0]) 0 (.int .u8 r87) S (wG 3 false 108 rfl rfl rfl hc114) rfl rfl rfl rfl rfl rfl (lb rfl) fun a S => ?_
      refine sBin (.bool (r87 == 7)) S (wG 3 false 108 rfl rfl rfl hc114) rfl rfl rfl (bEq _ _ _ _ .u8 r87 7) rfl (lb rfl) fun a S => ?_
      refine sPickF (.bool (r87 == 7)) S (wN rfl) rfl rfl hc114 rfl rfl (lb rfl) fun a S => ?_
      exact leafL (leafT (⟨r87 == 7, Option.some.inj h, S.fix [0] [0] (by decide) rfl rfl rfl⟩))
    obtain ⟨o111, rfl, S⟩ := hI
    have h := g113
    clear g113
    try dsimp only at h
    rcases iteSome h with ⟨hc115, h⟩ | ⟨hc115, h⟩
    rotate_left
    · refine sCondF S rfl hc115 ?_
      exact wp_skip (leafT (⟨o103, 0, Option.some.inj h, S.fix [0] [0] (by decide) rfl rfl rfl⟩))
    refine sCondT S rfl hc115 ?_
    refine sSeq (fun K116 hK116 => ?_)
    refine sRegion ?_
    refine sMove (.slice ad101 r98.length cp102) S (wN rfl) (.inl rfl) rfl rfl (lb rfl) fun a S => ?_
    refine sLen (ad := ad101) (m := r98.length) (c := cp102) S (wN rfl) rfl Try.underlying94 rfl rfl (lb rfl) fun a S => ?_
    refine sBin (.bool ((r98.length : Int) == 2)) S (wN rfl) rfl rfl rfl (bEq _ _ _ _ .i64 (r98.length : Int) 2) rfl (lb rfl) fun a S => ?_
    refine sMove (.bool ((r98.length : Int) == 2)) S (wN rfl) (.inr rfl) rfl rfl (lb rfl) fun a S => ?_
    refine leafL (leafT (hK116 _ _ ?_))
    refine sSeq (fun K117 hK117 => ?_)
    refine sRegion ?_
    refine sMove (.bool ((r98.length : Int) == 2)) S (wN rfl) (.inl rfl) rfl rfl (lb rfl) fun a S => ?_
    refine leafL (leafT (hK117 _ _ ?_))
    rcases iteSome h with ⟨hc118, h⟩ | ⟨hc118, h⟩
    rotate_left
    · refine sCondF S rfl hc118 ?_
      exact wp_skip (leafT (⟨(r98.length : Int) == 2, 0, Option.some.inj h, S.fix [0] [0] (by decide) rfl rfl rfl⟩))
    refine sCondT S rfl hc118 ?_
    refine sRegion ?_
    refine sMove (.slice ad101 r98.length cp102) S (wN rfl) (.inl rfl) rfl rfl (lb rfl) fun a S => ?_
    obtain ⟨x119, hx120, h⟩ := bindSome h
    obtain ⟨q121, hq122, S⟩ := pIdx (P := Try.prog) (r := rS) (v := .slice ad101 r98.length cp102) (xs := r98) (j := 1) 94 9 0 S Try.underlying94 rfl rfl hx120
    refine sIdxV (v := .slice ad101 r98.length cp102) (k := .i64) (j := 1) S (wN rfl) rfl rfl rfl hq122 rfl (lb rfl) fun a S => ?_
    obtain ⟨u123, S⟩ := pLoad (r := rS) (q := q121) (x := x119) 0 S rfl
    obtain rfl : u123 = .string x119 := S.mem.know (i := 1) (e := fRep rS (u123) x119) rfl
    refine sLoadV1 (vq := q121) 0 (.string x119) S (wN rfl) rfl rfl rfl rfl rfl (lb rfl) fun a S => ?_
    obtain ⟨r124, hx125, h⟩ := bindSome h
    have S1 := S.mem
    refine sCallQ (X := Unit) (f := 47) (vs := [.string x119]) (val := fun _ => .tuple #[iv r124.1, .bool r124.2]) S (wN rfl) rfl callee47 rfl (S1.quiet [] rfl) (fun E1 w1 S1 => c_raddleref25_Number E1 w1 x119 r124 hx125 S1) rfl (lb rfl) fun _ a w S => ?_
    refine sMove (.tuple #[iv r124.1, .bool r124.2]) S (wN rfl) (.inl rfl) rfl rfl (lb rfl) fun a S => ?_
    refine sExtract (vs := [iv r124.1, .bool r124.2]) (iv r124.1) S (wN rfl) rfl rfl rfl rfl (lb rfl) fun a S => ?_
    refine sExtract (vs := [iv r124.1, .bool r124.2]) (.bool r124.2) S (wN rfl) rfl rfl rfl rfl (lb rfl) fun a S => ?_
    refine sField (b := b37) (off := 0) 3 3 S (wN rfl) rfl rfl rfl rfl rfl (lb rfl) fun a S => ?_
    refine sStore (p := b37) (off := 3) (T := 74) (vs := [.int .u8 r87, .bool (x35 == 112), iv 0, iv 0]) (v := iv r124.1) 0 [iv r124.1] S (wN rfl) rfl rfl rfl rfl rfl rfl rfl (by simp) rfl fun a w S => ?_
    refine sMove (.bool r124.2) S (wN rfl) (.inr rfl) rfl rfl (lb rfl) fun a S => ?_
    exact leafL (leafT (⟨r124.2, r124.1, Option.some.inj h, S.fix [0] [3] (by decide) rfl rfl rfl⟩))
  obtain ⟨o107, o108, rfl, S⟩ := hI
  have h := g110
  clear g110
  try dsimp only at h
  refine sSeq (fun K126 hK126 => ?_)
  refine sRegion ?_
  refine sMove (.slice ad101 r98.length cp102) S (wN rfl) (.inl rfl) rfl rfl (lb rfl) fun a S => ?_
  obtain ⟨x127, hx128, h⟩ := bindSome h
  obtain ⟨q129, hq130, S⟩ := pIdx (P := Try.prog) (r := rS) (v := .slice ad101 r98.length cp102) (xs := r98) (j := 0) 94 9 0 S Try.underlying94 rfl rfl hx128
  refine sIdxV (v := .slice ad101 r98.length cp102) (k := .i64) (j := 0) S (wN rfl) rfl rfl rfl hq130 rfl (lb rfl) fun a S => ?_
  obtain ⟨u131, S⟩ := pLoad (r := rS) (q := q129) (x := x127) 0 S rfl
  obtain rfl : u131 = .string x127 := S.mem.know (i := 1) (e := fRep rS (u131) x127) rfl
  refine sLoadV1 (vq := q129) 0 (.string x127) S (wN rfl) rfl rfl rfl rfl rfl (lb rfl) fun a S => ?_
  obtain ⟨r132, hx133, h⟩ := bindSome h
  have S1 := S.mem
  refine sCallQ (X := Unit) (f := 47) (vs := [.string x127]) (val := fun _ => .tuple #[iv r132.1, .bool r132.2]) S (wN rfl) rfl callee47 rfl (S1.quiet [] rfl) (fun E1 w1 S1 => c_raddleref25_Number E1 w1 x127 r132 hx133 S1) rfl (lb rfl) fun _ a w S => ?_
  refine sMove (.tuple #[iv r132.1, .bool r132.2]) S (wN rfl) (.inl rfl) rfl rfl (lb rfl) fun a S => ?_
  refine sExtract (vs := [iv r132.1, .bool r132.2]) (iv r132.1) S (wN rfl) rfl rfl rfl rfl (lb rfl) fun a S => ?_
  refine sExtract (vs := [iv r132.1, .bool r132.2]) (.bool r132.2) S (wN rfl) rfl rfl rfl rfl (lb rfl) fun a S => ?_
  refine sMove (iv r132.1) S (wN rfl) (.inr rfl) rfl rfl (lb rfl) fun a S => ?_
  refine sMove (.bool r132.2) S (wN rfl) (.inr rfl) rfl rfl (lb rfl) fun a S => ?_
  refine leafL (leafT (hK126 _ _ ?_))
  refine sSeq (fun K134 hK134 => ?_)
  refine sRegion ?_
  refine sMove (iv r132.1) S (wN rfl) (.inl rfl) rfl rfl (lb rfl) fun a S => ?_
  refine sField (b := b37) (off := 0) 2 2 S (wN rfl) rfl rfl rfl rfl rfl (lb rfl) fun a S => ?_
  refine sStore (p := b37) (off := 2) (T := 74) (vs := [.int .u8 r87, .bool (x35 == 112), iv 0, iv o108]) (v := iv r132.1) 0 [iv r132.1] S (wN rfl) rfl rfl rfl rfl rfl rfl rfl (by simp) rfl fun a w S => ?_
  refine leafL (leafT (hK134 _ _ ?_))
  obtain ⟨t138, h, g139⟩ := bindSome h
  refine sCut (fun a w => ∃ o137, o137 = t138 ∧ ∃ ad135, ∃ cp136, St [] E [] w0 140 a w [(2, .slice ad135 [(api_Stitch.mk r87 (x35 == 112) r132.1 o108)].length cp136), (3, .bool o137)] [eRow r_api_Stitch 74 (.slice ad135 [(api_Stitch.mk r87 (x35 == 112) r132.1 o108)].length cp136) [(api_Stitch.mk r87 (x35 == 112) r132.1 o108)]] []) ?_ (fun a w hI => ?_)
  rotate_left
  · obtain ⟨o137, rfl, ad135, cp136, S⟩ := hI
    have h := g139
    clear g139
    try dsimp only at h
    obtain rfl := Option.some.inj h
    have S := S.shutR (r := r_api_Stitch) (T := 74) (v := .slice ad135 [(api_Stitch.mk r87 (x35 == 112) r132.1 o108)].length cp136) (xs := [(api_Stitch.mk r87 (x35 == 112) r132.1 o108)]) 0 rfl
    exact wp_ret (sRet (.tuple #[.slice ad135 [(api_Stitch.mk r87 (x35 == 112) r132.1 o108)].length cp136, .bool o137]) S (rsl2 rfl (rvT (t := 2) (v := .slice ad135 [(api_Stitch.mk r87 (x35 == 112) r132.1 o108)].length cp136) S rfl) (rvT (t := 3) (v := .bool o137) S rfl)) ⟨(.slice ad135 [(api_Stitch.mk r87 (x35 == 112) r132.1 o108)].length cp136), rfl, S.mem.sel [] [0] (by decide) rfl rfl⟩)
  refine sRegion ?_
  refine sLoadN (p := b37) (off := 0) (T := 74) (vs := [.int .u8 r87, .bool (x35 == 112), iv r132.1, iv o108]) 0 [.int .u8 r87, .bool (x35 == 112), iv r132.1, iv o108] S (wN rfl) rfl rfl rfl rfl rfl rfl rfl (lb rfl) fun a S => ?_
  have S := S.learn (fRep r_api_Stitch (.agg #[.int .u8 r87, .bool (x35 == 112), iv r132.1, iv o108]) (api_Stitch.mk r87 (x35 == 112) r132.1 o108)) rfl
  refine sLit (r := r_api_Stitch) (T := 74) (xs := [(api_Stitch.mk r87 (x35 == 112) r132.1 o108)]) [(0, .agg #[.int .u8 r87, .bool (x35 == 112), iv r132.1, iv o108])] 1 [.agg #[.int .u8 r87, .bool (x35 == 112), iv r132.1, iv o108]] [.int .u8 r87, .bool (x35 == 112), iv r132.1, iv o108] (.agg #[.int .u8 0, .bool false, iv 0, iv 0]) 24 S (wN rfl) rfl rfl Try.underlying70 rfl (by decide) (by decide) (by kernel_rfl) rfl (fun E1 w1 hE => All.cons (r_api_Stitch.mono hE (S.mem.know (i := 0) (e := fRep r_api_Stitch (.agg #[.int .u8 r87, .bool (x35 == 112), iv r132.1, iv o108]) (api_Stitch.mk r87 (x35 == 112) r132.1 o108)) rfl)) (All.nil _ _ _)) rfl rfl (lb rfl) fun a w ad140 cp141 S => ?_
  refine sMove (.bool o107) S (wN rfl) (.inl rfl) rfl rfl (lb rfl) fun a S => ?_
  refine sMove (.bool o107) S (wN rfl) (.inl rfl) rfl rfl (lb rfl) fun a S => ?_
  rcases iteSome h with ⟨hc142, h⟩ | ⟨hc142, h⟩
  rotate_left
  · refine sSkip 3 true 137 138 S rfl rfl rfl hc142 rfl (lb rfl) fun a S => ?_
    refine sPickF (.bool false) S (wN rfl) rfl rfl hc142 rfl rfl (lb rfl) fun a S => ?_
    refine sMove (.slice ad140 [(api_Stitch.mk r87 (x35 == 112) r132.1 o108)].length cp141) S (wN rfl) (.inr rfl) rfl rfl (lb rfl) fun a S => ?_
    refine sMove (.bool false) S (wN rfl) (.inr rfl) rfl rfl (lb rfl) fun a S => ?_
    exact leafL (leafT (⟨false, Option.some.inj h, ad140, cp141, S.fix [0] [] (by decide) rfl rfl rfl⟩))
  refine sMove (.bool r132.2) S (wG 3 true 137 rfl rfl rfl hc142) (.inl rfl) rfl rfl (lb rfl) fun a S => ?_
  refine sPickT (.bool r132.2) S (wN rfl) rfl rfl hc142 rfl rfl (lb rfl) fun a S => ?_
  refine sMove (.slice ad140 [(api_Stitch.mk r87 (x35 == 112) r132.1 o108)].length cp141) S (wN rfl) (.inr rfl) rfl rfl (lb rfl) fun a S => ?_
  refine sMove (.bool r132.2) S (wN rfl) (.inr rfl) rfl rfl (lb rfl) fun a S => ?_
  exact leafL (leafT (⟨r132.2, Option.some.inj h, ad140, cp141, S.fix [0] [] (by decide) rfl rfl rfl⟩))

end Go.Proofs.Ytdbgkakmhlmpbaa
namespace Go.Proofs.Ytdbgkakmhlmpbaa
open Go.RowKit
set_option linter.unusedVariables false

noncomputable def raddleref25_Decimal_l1  : (Int × ByteArray) → Option ((Int × ByteArray) ⊕ ByteArray) := fun s0 => match s0 with
  | (s13, s14) =>
    if decide (0 < s13) then
      Option.bind (remI s13 10) fun z23 =>
      Option.bind (addS (strO ([IntKind.u8.wrap (w64 (48 + z23))] : List Int)) s14) fun z27 =>
      Option.bind (quoI s13 10) fun z29 =>
      some (.inl (z29, z27))
    else
      some (.inr s14)
noncomputable def F_raddleref25_Decimal (p0 : Int) : Option ByteArray :=
  Option.bind (remI p0 10) fun z3 =>
  Option.bind (α := ByteArray) (
    Option.bind (quoI p0 10) fun z11 =>
    Option.bind (whileO (raddleref25_Decimal_l1) (z11, strO ([IntKind.u8.wrap (w64 (48 + z3))] : List Int))) fun e18 =>
      some e18) fun o7 =>
  some o7
set_option maxHeartbeats 4000000 in
set_option maxRecDepth 100000 in
theorem c_raddleref25_Decimal (E : Nat → Prop) (w0 : World) (p0 : Int) (r : ByteArray) (h : F_raddleref25_Decimal p0 = some r) (S : St0 E [] w0 w0 [] []) :
    Calls Try.prog 68 #[iv p0] w0 (Ret (X := Unit) E [] w0 (fun _ => .string r) (fun _ => []) (fun _ => [])) := by
  unfold F_raddleref25_Decimal at h
  refine sEnter (args := [iv p0]) 25 Try.func68 rfl rfl (by simp) S (fun a S => ?_)
  refine sSeq (fun K1 hK1 => ?_)
  refine sRegion ?_
  refine sMove (.string (⟨#[]⟩ : ByteArray)) S (wN rfl) (.inr rfl) rfl rfl (lb rfl) fun a S => ?_
  refine leafL (leafT (hK1 _ _ ?_))
  refine sSeq (fun K2 hK2 => ?_)
  refine sRegion ?_
  refine sMove (iv p0) S (wN rfl) (.inl rfl) rfl rfl (lb rfl) fun a S => ?_
  obtain ⟨z3, hx4, h⟩ := bindSome h
  refine sBin (iv z3) S (wN rfl) rfl rfl rfl (bRem _ _ _ _ (x := p0) (y := 10) hx4) rfl (lb rfl) fun a S => ?_
  refine sBin (iv (w64 (48 + z3))) S (wN rfl) rfl rfl rfl (bAdd _ _ _ _ 48 z3) rfl (lb rfl) fun a S => ?_
  refine sConv (k := .i64) (k2 := .u8) (b := w64 (48 + z3)) S (wN rfl) rfl Try.underlying3 Try.underlying5 rfl rfl (lb rfl) fun a S => ?_
  refine sLit (r := (rI .u8)) (T := 5) (xs := ([IntKind.u8.wrap (w64 (48 + z3))] : List Int)) [(0, .int .u8 (IntKind.u8.wrap (w64 (48 + z3))))] 1 [.int .u8 (IntKind.u8.wrap (w64 (48 + z3)))] [.int .u8 (IntKind.u8.wrap (w64 (48 + z3)))] (.int .u8 0) 1 S (wN rfl) rfl rfl Try.underlying153 rfl (by decide) (by decide) (by kernel_rfl) rfl (fun E1 w1 hE => All.cons rfl (All.nil _ _ _)) rfl rfl (lb rfl) fun a w ad5 cp6 S => ?_
  refine sBytesStr (e := 5) (v := .slice ad5 ([IntKind.u8.wrap (w64 (48 + z3))] : List Int).length cp6) (ys := ([IntKind.u8.wrap (w64 (48 + z3))] : List Int)) S (wN rfl) rfl rfl Try.underlying153 Try.underlying5 Try.underlying9 (src_R (T := 5) 0 S.mem rfl) rfl (lb rfl) fun a S => ?_
  refine sMove (.string (strO ([IntKind.u8.wrap (w64 (48 + z3))] : List Int))) S (wN rfl) (.inr rfl) rfl rfl (lb rfl) fun a S => ?_
  refine leafL (leafT (hK2 _ _ ?_))
  obtain ⟨t8, h, g9⟩ := bindSome h
  refine sCut (fun a w => ∃ o7, o7 = t8 ∧ St [] E [] w0 25 a w [(3, .string o7)] [] []) ?_ (fun a w hI => ?_)
  rotate_left
  · obtain ⟨o7, rfl, S⟩ := hI
    have h := g9
    clear g9
    try dsimp only at h
    refine sSeq (fun K31 hK31 => ?_)
    refine sRegion ?_
    refine sMove (.string o7) S (wN rfl) (.inl rfl) rfl rfl (lb rfl) fun a S => ?_
    refine sMove (.string o7) S (wN rfl) (.inr rfl) rfl rfl (lb rfl) fun a S => ?_
    refine leafL (leafT (hK31 _ _ ?_))
    obtain rfl := Option.some.inj h
    exact wp_ret (sRet (.string o7) S (rsl1 rfl (rvT (t := 2) (v := .string o7) S rfl)) ⟨(), rfl, S.mem.sel [] [] (by decide) rfl rfl⟩)
  refine sSeq (fun K10 hK10 => ?_)
  refine sRegion ?_
  refine sMove (iv p0) S (wN rfl) (.inl rfl) rfl rfl (lb rfl) fun a S => ?_
  obtain ⟨z11, hx12, h⟩ := bindSome h
  refine sBin (iv z11) S (wN rfl) rfl rfl rfl (bQuo _ _ _ _ (x := p0) (y := 10) hx12) rfl (lb rfl) fun a S => ?_
  refine sMove (iv z11) S (wN rfl) (.inr rfl) rfl rfl (lb rfl) fun a S => ?_
  refine leafL (leafT (hK10 _ _ ?_))
  refine wp_block ?_
  obtain ⟨t17, hl, g16⟩ := bindSome h
  refine sLoop hl (fun s0 a w => match s0 with | (s13, s14) => St [] E [] w0 25 a w [(0, iv s13), (3, .string s14)] [] []) (S.fix [] [] (by decide) rfl rfl rfl) ?_
  clear hl h
  intro s0 a w c0 hI h hu15
  obtain ⟨s13, s14⟩ := s0
  unfold raddleref25_Decimal_l1 at h
  dsimp only at h hI
  have S := hI
  refine sSeq (fun K19 hK19 => ?_)
  refine sSeq (fun K20 hK20 => ?_)
  refine sRegion ?_
  refine sMove (iv s13) S (wN rfl) (.inl rfl) rfl rfl (lb rfl) fun a S => ?_
  refine sBin (.bool (decide (0 < s13))) S (wN rfl) rfl rfl rfl (bGt _ _ _ _ .i64 s13 0) rfl (lb rfl) fun a S => ?_
  refine leafL (leafT (hK20 _ _ ?_))
  rcases iteSome h with ⟨hc21, h⟩ | ⟨hc21, h⟩
  rotate_left
  · refine sCondF S rfl hc21 ?_
    obtain rfl := Option.some.inj h
    obtain rfl := hu15 _ rfl
    have h := g16
    clear g16
    try dsimp only at h
    exact wp_exit (xThen (xThen (xHit (leafT (⟨s14, Option.some.inj h, S.fix [] [] (by decide) rfl rfl rfl⟩)))))
  refine sCondT S rfl hc21 ?_
  refine wp_skip (leafT (hK19 _ _ ?_))
  refine sSeq (fun K22 hK22 => ?_)
  refine wp_block ?_
  refine sRegion ?_
  refine sMove (iv s13) S (wN rfl) (.inl rfl) rfl rfl (lb rfl) fun a S => ?_
  obtain ⟨z23, hx24, h⟩ := bindSome h
  refine sBin (iv z23) S (wN rfl) rfl rfl rfl (bRem _ _ _ _ (x := s13) (y := 10) hx24) rfl (lb rfl) fun a S => ?_
  refine sBin (iv (w64 (48 + z23))) S (wN rfl) rfl rfl rfl (bAdd _ _ _ _ 48 z23) rfl (lb rfl) fun a S => ?_
  refine sConv (k := .i64) (k2 := .u8) (b := w64 (48 + z23)) S (wN rfl) rfl Try.underlying3 Try.underlying5 rfl rfl (lb rfl) fun a S => ?_
  refine sLit (r := (rI .u8)) (T := 5) (xs := ([IntKind.u8.wrap (w64 (48 + z23))] : List Int)) [(0, .int .u8 (IntKind.u8.wrap (w64 (48 + z23))))] 1 [.int .u8 (IntKind.u8.wrap (w64 (48 + z23)))] [.int .u8 (IntKind.u8.wrap (w64 (48 + z23)))] (.int .u8 0) 1 S (wN rfl) rfl rfl Try.underlying153 rfl (by decide) (by decide) (by kernel_rfl) rfl (fun E1 w1 hE => All.cons rfl (All.nil _ _ _)) rfl rfl (lb rfl) fun a w ad25 cp26 S => ?_
  refine sBytesStr (e := 5) (v := .slice ad25 ([IntKind.u8.wrap (w64 (48 + z23))] : List Int).length cp26) (ys := ([IntKind.u8.wrap (w64 (48 + z23))] : List Int)) S (wN rfl) rfl rfl Try.underlying153 Try.underlying5 Try.underlying9 (src_R (T := 5) 0 S.mem rfl) rfl (lb rfl) fun a S => ?_
  refine sMove (.string s14) S (wN rfl) (.inl rfl) rfl rfl (lb rfl) fun a S => ?_
  obtain ⟨z27, hx28, h⟩ := bindSome h
  refine sBin (.string z27) S (wN rfl) rfl rfl rfl (bAddS _ _ _ _ (x := strO ([IntKind.u8.wrap (w64 (48 + z23))] : List Int)) (y := s14) hx28) rfl (lb rfl) fun a S => ?_
  refine sMove (.string z27) S (wN rfl) (.inr rfl) rfl rfl (lb rfl) fun a S => ?_
  refine leafL (leafB (leafT (hK22 _ _ ?_)))
  refine sRegion ?_
  refine sMove (iv s13) S (wN rfl) (.inl rfl) rfl rfl (lb rfl) fun a S => ?_
  obtain ⟨z29, hx30, h⟩ := bindSome h
  refine sBin (iv z29) S (wN rfl) rfl rfl rfl (bQuo _ _ _ _ (x := s13) (y := 10) hx30) rfl (lb rfl) fun a S => ?_
  refine sMove (iv z29) S (wN rfl) (.inr rfl) rfl rfl (lb rfl) fun a S => ?_
  exact leafL (leafT (⟨(z29, z27), (Option.some.inj h).symm, (S.fix [] [] (by decide) rfl rfl rfl)⟩))

end Go.Proofs.Ytdbgkakmhlmpbaa
namespace Go.Proofs.Ytdbgkakmhlmpbaa
open Go.RowKit
set_option linter.unusedVariables false

def anc_raddleref25_one_0 : List (List Nat) := [[], [0], [], [2], [2, 3], [0, 1, 2, 3, 4], [0, 1, 2, 3, 4, 5], [], [7], [2, 3, 4, 7, 8], [0, 1, 2, 3, 4, 5, 6, 7, 8, 9], [0, 1, 2, 3, 4, 5, 6, 7, 8, 9, 10]]
noncomputable def F_raddleref25_one (p0 : api_Stitch) : Option ByteArray :=
  Option.bind (α := ByteArray) (
    if p0.Purl then
      some (⟨#[112]⟩ : ByteArray)
    else
      some (⟨#[107]⟩ : ByteArray)) fun o4 =>
  if p0.Kind == 1 then
    some o4
  else
    if p0.Kind == 2 then
      some (⟨#[121, 111]⟩ : ByteArray)
    else
      if p0.Kind == 3 then
        Option.bind (addS o4 (⟨#[102]⟩ : ByteArray)) fun z20 =>
        Option.bind (F_raddleref25_Decimal p0.A) fun r22 =>
        Option.bind (addS z20 r22) fun z24 =>
        some z24
      else
        if p0.Kind == 4 then
          Option.bind (addS o4 (⟨#[108]⟩ : ByteArray)) fun z29 =>
          Option.bind (F_raddleref25_Decimal p0.A) fun r31 =>
          Option.bind (addS z29 r31) fun z33 =>
          some z33
        else
          if p0.Kind == 5 then
            Option.bind (addS o4 (⟨#[109]⟩ : ByteArray)) fun z38 =>
            Option.bind (F_raddleref25_Decimal p0.A) fun r40 =>
            Option.bind (addS z38 r40) fun z42 =>
            some z42
          else
            if p0.Kind == 6 then
              Option.bind (addS o4 (⟨#[120]⟩ : ByteArray)) fun z47 =>
              Option.bind (F_raddleref25_Decimal p0.A) fun r49 =>
              Option.bind (addS z47 r49) fun z51 =>
              Option.bind (addS z51 (⟨#[47]⟩ : ByteArray)) fun z53 =>
              Option.bind (F_raddleref25_Decimal p0.B) fun r55 =>
              Option.bind (addS z53 r55) fun z57 =>
              some z57
            else
              if p0.Kind == 7 then
                Option.bind (addS o4 (⟨#[121]⟩ : ByteArray)) fun z62 =>
                Option.bind (F_raddleref25_Decimal p0.A) fun r64 =>
                Option.bind (addS z62 r64) fun z66 =>
                Option.bind (addS z66 (⟨#[47]⟩ : ByteArray)) fun z68 =>
                Option.bind (F_raddleref25_Decimal p0.B) fun r70 =>
                Option.bind (addS z68 r70) fun z72 =>
                some z72
              else
                if p0.Kind == 8 then
                  Option.bind (addS o4 (⟨#[115]⟩ : ByteArray)) fun z77 =>
                  some z77
                else
                  if p0.Kind == 9 then
                    Option.bind (F_raddleref25_Decimal p0.A) fun r82 =>
                    Option.bind (addS (⟨#[111, 110]⟩ : ByteArray) r82) fun z84 =>
                    some z84
                  else
                    Option.bind (addS o4 (⟨#[111]⟩ : ByteArray)) fun z87 =>
                    Option.bind (F_raddleref25_Decimal p0.A) fun r89 =>
                    Option.bind (addS z87 r89) fun z91 =>
                    some z91
set_option maxHeartbeats 4000000 in
set_option maxRecDepth 100000 in
theorem c_raddleref25_one (E : Nat → Prop) (w0 : World) (p0 : api_Stitch) (v0 : Value) (r : ByteArray) (h : F_raddleref25_one p0 = some r) (S : St0 E [] w0 w0 [] [fRep r_api_Stitch (v0) p0]) :
    Calls Try.prog 89 #[v0] w0 (Ret (X := Unit) E [] w0 (fun _ => .string r) (fun _ => []) (fun _ => [])) := by
  unfold F_raddleref25_one at h
  obtain rfl : v0 = .agg #[.int .u8 p0.Kind, .bool p0.Purl, iv p0.A, iv p0.B] := S.know (i := 0) (e := fRep r_api_Stitch (v0) p0) rfl
  refine sEnter (args := [.agg #[.int .u8 p0.Kind, .bool p0.Purl, iv p0.A, iv p0.B]]) 79 Try.func89 rfl rfl (by simp) S (fun a S => ?_)
  refine sSeq (fun K1 hK1 => ?_)
  refine sRegion ?_
  refine sBox (v := .agg #[.int .u8 p0.Kind, .bool p0.Purl, iv p0.A, iv p0.B]) S (wN rfl) rfl rfl [.int .u8 p0.Kind, .bool p0.Purl, iv p0.A, iv p0.B] rfl rfl (lb rfl) fun a b2 w S => ?_
  refine sMove (.string (⟨#[]⟩ : ByteArray)) S (wN rfl) (.inr rfl) rfl rfl (lb rfl) fun a S => ?_
  refine leafL (leafT (hK1 _ _ ?_))
  refine sSeq (fun K3 hK3 => ?_)
  refine sRegion ?_
  refine sMove (.string (⟨#[107]⟩ : ByteArray)) S (wN rfl) (.inr rfl) rfl rfl (lb rfl) fun a S => ?_
  refine leafL (leafT (hK3 _ _ ?_))
  obtain ⟨t5, h, g6⟩ := bindSome h
  refine sCut (fun a w => ∃ o4, o4 = t5 ∧ St [] E [] w0 79 a w [(1, .pointer (some ⟨b2, 0, none⟩)), (3, .string o4)] [eBox b2 74 [.int .u8 p0.Kind, .bool p0.Purl, iv p0.A, iv p0.B]] []) ?_ (fun a w hI => ?_)
  · refine sSeq (fun K7 hK7 => ?_)
    refine sRegion ?_
    refine sField (b := b2) (off := 0) 1 1 S (wN rfl) rfl rfl rfl rfl rfl (lb rfl) fun a S => ?_
    refine sLoad1 (p := b2) (off := 1) (T := 74) (vs := [.int .u8 p0.Kind, .bool p0.Purl, iv p0.A, iv p0.B]) 0 (.bool p0.Purl) S (wN rfl) rfl rfl rfl rfl rfl rfl (lb rfl) fun a S => ?_
    refine leafL (leafT (hK7 _ _ ?_))
    rcases iteSome h with ⟨hc8, h⟩ | ⟨hc8, h⟩
    rotate_left
    · refine sCondF S rfl hc8 ?_
      exact wp_skip (leafT (⟨(⟨#[107]⟩ : ByteArray), Option.some.inj h, S.fix [0] [] (by decide) rfl rfl rfl⟩))
    refine sCondT S rfl hc8 ?_
    refine sRegion ?_
    refine sMove (.string (⟨#[112]⟩ : ByteArray)) S (wN rfl) (.inr rfl) rfl rfl (lb rfl) fun a S => ?_
    exact leafL (leafT (⟨(⟨#[112]⟩ : ByteArray), Option.some.inj h, S.fix [0] [] (by decide) rfl rfl rfl⟩))
  obtain ⟨o4, rfl, S⟩ := hI
  have h := g6
  clear g6
  try dsimp only at h
  refine sSeq (fun K9 hK9 => ?_)
  refine sSeq (fun K10 hK10 => ?_)
  refine sRegion ?_
  refine sField (b := b2) (off := 0) 0 0 S (wN rfl) rfl rfl rfl rfl rfl (lb rfl) fun a S => ?_
  refine sLoad1 (p := b2) (off := 0) (T := 74) (vs := [.int .u8 p0.Kind, .bool p0.Purl, iv p0.A, iv p0.B]) 0 (.int .u8 p0.Kind) S (wN rfl) rfl rfl rfl rfl rfl rfl (lb rfl) fun a S => ?_
  refine leafL (leafT (hK10 _ _ ?_))
  refine wp_block ?_
  refine sSeq (fun K11 hK11 => ?_)
  refine sRegion ?_
  refine sBin (.bool (p0.Kind == 1)) S (wN rfl) rfl rfl rfl (bEq _ _ _ _ .u8 p0.Kind 1) rfl (lb rfl) fun a S => ?_
  refine sMove (.bool (p0.Kind == 1)) S (wN rfl) (.inr rfl) rfl rfl (lb rfl) fun a S => ?_
  refine leafL (leafT (hK11 _ _ ?_))
  rcases iteSome h with ⟨hc12, h⟩ | ⟨hc12, h⟩
  · refine sCondT S rfl hc12 ?_
    refine sSeq (fun K13 hK13 => ?_)
    refine sRegion ?_
    refine sMove (.string o4) S (wN rfl) (.inl rfl) rfl rfl (lb rfl) fun a S => ?_
    refine sMove (.string o4) S (wN rfl) (.inr rfl) rfl rfl (lb rfl) fun a S => ?_
    refine leafL (leafT (hK13 _ _ ?_))
    obtain rfl := Option.some.inj h
    exact wp_ret (rBlock (rThen (sRet (.string o4) S (rsl1 rfl (rvT (t := 2) (v := .string o4) S rfl)) ⟨(), rfl, S.mem.sel [] [] (by decide) rfl rfl⟩)))
  refine sCondF S rfl hc12 ?_
  refine sSeq (fun K14 hK14 => ?_)
  refine sRegion ?_
  refine sBin (.bool (p0.Kind == 2)) S (wN rfl) rfl rfl rfl (bEq _ _ _ _ .u8 p0.Kind 2) rfl (lb rfl) fun a S => ?_
  refine sMove (.bool (p0.Kind == 2)) S (wN rfl) (.inr rfl) rfl rfl (lb rfl) fun a S => ?_
  refine leafL (leafT (hK14 _ _ ?_))
  rcases iteSome h with ⟨hc15, h⟩ | ⟨hc15, h⟩
  · refine sCondT S rfl hc15 ?_
    refine sSeq (fun K16 hK16 => ?_)
    refine sRegion ?_
    refine sMove (.string (⟨#[121, 111]⟩ : ByteArray)) S (wN rfl) (.inr rfl) rfl rfl (lb rfl) fun a S => ?_
    refine leafL (leafT (hK16 _ _ ?_))
    obtain rfl := Option.some.inj h
    exact wp_ret (rBlock (rThen (sRet (.string (⟨#[121, 111]⟩ : ByteArray)) S (rsl1 rfl (rvT (t := 2) (v := .string (⟨#[121, 111]⟩ : ByteArray)) S rfl)) ⟨(), rfl, S.mem.sel [] [] (by decide) rfl rfl⟩)))
  refine sCondF S rfl hc15 ?_
  refine sSeq (fun K17 hK17 => ?_)
  refine sRegion ?_
  refine sBin (.bool (p0.Kind == 3)) S (wN rfl) rfl rfl rfl (bEq _ _ _ _ .u8 p0.Kind 3) rfl (lb rfl) fun a S => ?_
  refine sMove (.bool (p0.Kind == 3)) S (wN rfl) (.inr rfl) rfl rfl (lb rfl) fun a S => ?_
  refine leafL (leafT (hK17 _ _ ?_))
  rcases iteSome h with ⟨hc18, h⟩ | ⟨hc18, h⟩
  · refine sCondT S rfl hc18 ?_
    refine sSeq (fun K19 hK19 => ?_)
    refine sRegion ?_
    refine sMove (.string o4) S (wN rfl) (.inl rfl) rfl rfl (lb rfl) fun a S => ?_
    obtain ⟨z20, hx21, h⟩ := bindSome h
    refine sBin (.string z20) S (wN rfl) rfl rfl rfl (bAddS _ _ _ _ (x := o4) (y := (⟨#[102]⟩ : ByteArray)) hx21) rfl (lb rfl) fun a S => ?_
    refine sField (b := b2) (off := 0) 2 2 S (wN rfl) rfl rfl rfl rfl rfl (lb rfl) fun a S => ?_
    refine sLoad1 (p := b2) (off := 2) (T := 74) (vs := [.int .u8 p0.Kind, .bool p0.Purl, iv p0.A, iv p0.B]) 0 (iv p0.A) S (wN rfl) rfl rfl rfl rfl rfl rfl (lb rfl) fun a S => ?_
    obtain ⟨r22, hx23, h⟩ := bindSome h
    have S1 := S.mem
    refine sCallQ (X := Unit) (f := 68) (vs := [iv p0.A]) (val := fun _ => .string r22) S (wN rfl) rfl callee68 rfl (S1.quiet [] rfl) (fun E1 w1 S1 => c_raddleref25_Decimal E1 w1 p0.A r22 hx23 S1) rfl (lb rfl) fun _ a w S => ?_
    obtain ⟨z24, hx25, h⟩ := bindSome h
    refine sBin (.string z24) S (wN rfl) rfl rfl rfl (bAddS _ _ _ _ (x := z20) (y := r22) hx25) rfl (lb rfl) fun a S => ?_
    refine sMove (.string z24) S (wN rfl) (.inr rfl) rfl rfl (lb rfl) fun a S => ?_
    refine leafL (leafT (hK19 _ _ ?_))
    obtain rfl := Option.some.inj h
    exact wp_ret (rBlock (rThen (sRet (.string z24) S (rsl1 rfl (rvT (t := 2) (v := .string z24) S rfl)) ⟨(), rfl, S.mem.sel [] [] (by decide) rfl rfl⟩)))
  refine sCondF S rfl hc18 ?_
  refine sSeq (fun K26 hK26 => ?_)
  refine sRegion ?_
  refine sBin (.bool (p0.Kind == 4)) S (wN rfl) rfl rfl rfl (bEq _ _ _ _ .u8 p0.Kind 4) rfl (lb rfl) fun a S => ?_
  refine sMove (.bool (p0.Kind == 4)) S (wN rfl) (.inr rfl) rfl rfl (lb rfl) fun a S => ?_
  refine leafL (leafT (hK26 _ _ ?_))
  rcases iteSome h with ⟨hc27, h⟩ | ⟨hc27, h⟩
  · refine sCondT S rfl hc27 ?_
    refine sSeq (fun K28 hK28 => ?_)
    refine sRegion ?_
    refine sMove (.string o4) S (wN rfl) (.inl rfl) rfl rfl (lb rfl) fun a S => ?_
    obtain ⟨z29, hx30, h⟩ := bindSome h
    refine sBin (.string z29) S (wN rfl) rfl rfl rfl (bAddS _ _ _ _ (x := o4) (y := (⟨#[108]⟩ : ByteArray)) hx30) rfl (lb rfl) fun a S => ?_
    refine sField (b := b2) (off := 0) 2 2 S (wN rfl) rfl rfl rfl rfl rfl (lb rfl) fun a S => ?_
    refine sLoad1 (p := b2) (off := 2) (T := 74) (vs := [.int .u8 p0.Kind, .bool p0.Purl, iv p0.A, iv p0.B]) 0 (iv p0.A) S (wN rfl) rfl rfl rfl rfl rfl rfl (lb rfl) fun a S => ?_
    obtain ⟨r31, hx32, h⟩ := bindSome h
    have S1 := S.mem
    refine sCallQ (X := Unit) (f := 68) (vs := [iv p0.A]) (val := fun _ => .string r31) S (wN rfl) rfl callee68 rfl (S1.quiet [] rfl) (fun E1 w1 S1 => c_raddleref25_Decimal E1 w1 p0.A r31 hx32 S1) rfl (lb rfl) fun _ a w S => ?_
    obtain ⟨z33, hx34, h⟩ := bindSome h
    refine sBin (.string z33) S (wN rfl) rfl rfl rfl (bAddS _ _ _ _ (x := z29) (y := r31) hx34) rfl (lb rfl) fun a S => ?_
    refine sMove (.string z33) S (wN rfl) (.inr rfl) rfl rfl (lb rfl) fun a S => ?_
    refine leafL (leafT (hK28 _ _ ?_))
    obtain rfl := Option.some.inj h
    exact wp_ret (rBlock (rThen (sRet (.string z33) S (rsl1 rfl (rvT (t := 2) (v := .string z33) S rfl)) ⟨(), rfl, S.mem.sel [] [] (by decide) rfl rfl⟩)))
  refine sCondF S rfl hc27 ?_
  refine sSeq (fun K35 hK35 => ?_)
  refine sRegion ?_
  refine sBin (.bool (p0.Kind == 5)) S (wN rfl) rfl rfl rfl (bEq _ _ _ _ .u8 p0.Kind 5) rfl (lb rfl) fun a S => ?_
  refine sMove (.bool (p0.Kind == 5)) S (wN rfl) (.inr rfl) rfl rfl (lb rfl) fun a S => ?_
  refine leafL (leafT (hK35 _ _ ?_))
  rcases iteSome h with ⟨hc36, h⟩ | ⟨hc36, h⟩
  · refine sCondT S rfl hc36 ?_
    refine sSeq (fun K37 hK37 => ?_)
    refine sRegion ?_
    refine sMove (.string o4) S (wN rfl) (.inl rfl) rfl rfl (lb rfl) fun a S => ?_
    obtain ⟨z38, hx39, h⟩ := bindSome h
    refine sBin (.string z38) S (wN rfl) rfl rfl rfl (bAddS _ _ _ _ (x := o4) (y := (⟨#[109]⟩ : ByteArray)) hx39) rfl (lb rfl) fun a S => ?_
    refine sField (b := b2) (off := 0) 2 2 S (wN rfl) rfl rfl rfl rfl rfl (lb rfl) fun a S => ?_
    refine sLoad1 (p := b2) (off := 2) (T := 74) (vs := [.int .u8 p0.Kind, .bool p0.Purl, iv p0.A, iv p0.B]) 0 (iv p0.A) S (wN rfl) rfl rfl rfl rfl rfl rfl (lb rfl) fun a S => ?_
    obtain ⟨r40, hx41, h⟩ := bindSome h
    have S1 := S.mem
    refine sCallQ (X := Unit) (f := 68) (vs := [iv p0.A]) (val := fun _ => .string r40) S (wN rfl) rfl callee68 rfl (S1.quiet [] rfl) (fun E1 w1 S1 => c_raddleref25_Decimal E1 w1 p0.A r40 hx41 S1) rfl (lb rfl) fun _ a w S => ?_
    obtain ⟨z42, hx43, h⟩ := bindSome h
    refine sBin (.string z42) S (wN rfl) rfl rfl rfl (bAddS _ _ _ _ (x := z38) (y := r40) hx43) rfl (lb rfl) fun a S => ?_
    refine sMove (.string z42) S (wN rfl) (.inr rfl) rfl rfl (lb rfl) fun a S => ?_
    refine leafL (leafT (hK37 _ _ ?_))
    obtain rfl := Option.some.inj h
    exact wp_ret (rBlock (rThen (sRet (.string z42) S (rsl1 rfl (rvT (t := 2) (v := .string z42) S rfl)) ⟨(), rfl, S.mem.sel [] [] (by decide) rfl rfl⟩)))
  refine sCondF S rfl hc36 ?_
  refine sSeq (fun K44 hK44 => ?_)
  refine sRegion ?_
  refine sBin (.bool (p0.Kind == 6)) S (wN rfl) rfl rfl rfl (bEq _ _ _ _ .u8 p0.Kind 6) rfl (lb rfl) fun a S => ?_
  refine sMove (.bool (p0.Kind == 6)) S (wN rfl) (.inr rfl) rfl rfl (lb rfl) fun a S => ?_
  refine leafL (leafT (hK44 _ _ ?_))
  rcases iteSome h with ⟨hc45, h⟩ | ⟨hc45, h⟩
  · refine sCondT S rfl hc45 ?_
    refine sSeq (fun K46 hK46 => ?_)
    obtain ⟨z47, hx48, h⟩ := bindSome h
    obtain ⟨r49, hx50, h⟩ := bindSome h
    obtain ⟨z51, hx52, h⟩ := bindSome h
    obtain ⟨z53, hx54, h⟩ := bindSome h
    obtain ⟨r55, hx56, h⟩ := bindSome h
    obtain ⟨z57, hx58, h⟩ := bindSome h
    refine sDraw (nf := []) (W := [(0, 39, .string o4), (1, 40, .string z47), (2, 41, .pointer (some ⟨b2, 2, none⟩)), (3, 42, iv p0.A), (4, 43, .string r49), (5, 44, .string z51), (6, 45, .string z53), (7, 46, .pointer (some ⟨b2, 3, none⟩)), (8, 47, iv p0.B), (9, 48, .string r55), (10, 49, .string z57), (11, 2, .string z57)]) rfl S ?_
    refine node_by (A := anc_raddleref25_one_0) (nf := []) (Y := []) (W := [(0, 39, .string o4), (1, 40, .string z47), (2, 41, .pointer (some ⟨b2, 2, none⟩)), (3, 42, iv p0.A), (4, 43, .string r49), (5, 44, .string z51), (6, 45, .string z53), (7, 46, .pointer (some ⟨b2, 3, none⟩)), (8, 47, iv p0.B), (9, 48, .string r55), (10, 49, .string z57), (11, 2, .string z57)]) 12 (by kernel_rfl) (by kernel_rfl) (by kernel_rfl) (by kernel_rfl) (by kernel_rfl) [0, 1, 2, 3, 4, 5, 6, 7, 8, 9, 10, 11] (by kernel_rfl) (by decide) (by decide) (aF 0 11 (by decide) ?_ (aF 1 10 (by decide) ?_ (aF 2 9 (by decide) ?_ (aF 3 8 (by decide) ?_ (aF 4 7 (by decide) ?_ (aF 5 6 (by decide) ?_ (aF 6 5 (by decide) ?_ (aF 7 4 (by decide) ?_ (aF 8 3 (by decide) ?_ (aF 9 2 (by decide) ?_ (aF 10 1 (by decide) ?_ (aF 11 0 (by decide) ?_ (trivial))))))))))))) [(2, .string z57)] (fin_of [some 11] rfl (by kernel_rfl) (by kernel_rfl)) (fun _ a w S => ?_)
    · refine fI 39 (.string o4) [(3, .string o4)] 0 [none] rfl rfl rfl rfl rfl rfl fun G a w S => ?_
      refine sMove (.string o4) S (wN rfl) (.inl rfl) rfl rfl (lb rfl) fun a S => ?_
      exact leafL ⟨rfl, S⟩
    · refine fI 40 (.string z47) [(39, .string o4)] 1 [some 0] rfl rfl rfl rfl rfl rfl fun G a w S => ?_
      refine sBin (.string z47) S (wN rfl) rfl rfl rfl (bAddS _ _ _ _ (x := o4) (y := (⟨#[120]⟩ : ByteArray)) hx48) rfl (lb rfl) fun a S => ?_
      exact leafL ⟨rfl, S⟩
    · refine fI 41 (.pointer (some ⟨b2, 2, none⟩)) [(1, .pointer (some ⟨b2, 0, none⟩))] 2 [none] rfl rfl rfl rfl rfl rfl fun G a w S => ?_
      refine sField (b := b2) (off := 0) 2 2 S (wN rfl) rfl rfl rfl rfl rfl (lb rfl) fun a S => ?_
      exact leafL ⟨rfl, S⟩
    · refine fI 42 (iv p0.A) [(41, .pointer (some ⟨b2, 2, none⟩))] 3 [some 2] rfl rfl rfl rfl rfl rfl fun G a w S => ?_
      refine sLoad1 (p := b2) (off := 2) (T := 74) (vs := [.int .u8 p0.Kind, .bool p0.Purl, iv p0.A, iv p0.B]) 0 (iv p0.A) S (wN rfl) rfl rfl rfl rfl rfl rfl (lb rfl) fun a S => ?_
      exact leafL ⟨rfl, S⟩
    · refine fI 43 (.string r49) [(42, iv p0.A)] 4 [some 3] rfl rfl rfl rfl rfl rfl fun G a w S => ?_
      have S1 := S.mem
      refine sCallQ (X := Unit) (f := 68) (vs := [iv p0.A]) (val := fun _ => .string r49) S (wN rfl) rfl callee68 rfl (S1.quiet [] rfl) (fun E1 w1 S1 => c_raddleref25_Decimal E1 w1 p0.A r49 hx50 S1) rfl (lb rfl) fun _ a w S => ?_
      exact leafL ⟨rfl, S⟩
    · refine fI 44 (.string z51) [(40, .string z47), (43, .string r49)] 5 [some 1, some 4] rfl rfl rfl rfl rfl rfl fun G a w S => ?_
      refine sBin (.string z51) S (wN rfl) rfl rfl rfl (bAddS _ _ _ _ (x := z47) (y := r49) hx52) rfl (lb rfl) fun a S => ?_
      exact leafL ⟨rfl, S⟩
    · refine fI 45 (.string z53) [(44, .string z51)] 6 [some 5] rfl rfl rfl rfl rfl rfl fun G a w S => ?_
      refine sBin (.string z53) S (wN rfl) rfl rfl rfl (bAddS _ _ _ _ (x := z51) (y := (⟨#[47]⟩ : ByteArray)) hx54) rfl (lb rfl) fun a S => ?_
      exact leafL ⟨rfl, S⟩
    · refine fI 46 (.pointer (some ⟨b2, 3, none⟩)) [(1, .pointer (some ⟨b2, 0, none⟩))] 7 [none] rfl rfl rfl rfl rfl rfl fun G a w S => ?_
      refine sField (b := b2) (off := 0) 3 3 S (wN rfl) rfl rfl rfl rfl rfl (lb rfl) fun a S => ?_
      exact leafL ⟨rfl, S⟩
    · refine fI 47 (iv p0.B) [(46, .pointer (some ⟨b2, 3, none⟩))] 8 [some 7] rfl rfl rfl rfl rfl rfl fun G a w S => ?_
      refine sLoad1 (p := b2) (off := 3) (T := 74) (vs := [.int .u8 p0.Kind, .bool p0.Purl, iv p0.A, iv p0.B]) 0 (iv p0.B) S (wN rfl) rfl rfl rfl rfl rfl rfl (lb rfl) fun a S => ?_
      exact leafL ⟨rfl, S⟩
    · refine fI 48 (.string r55) [(47, iv p0.B)] 9 [some 8] rfl rfl rfl rfl rfl rfl fun G a w S => ?_
      have S1 := S.mem
      refine sCallQ (X := Unit) (f := 68) (vs := [iv p0.B]) (val := fun _ => .string r55) S (wN rfl) rfl callee68 rfl (S1.quiet [] rfl) (fun E1 w1 S1 => c_raddleref25_Decimal E1 w1 p0.B r55 hx56 S1) rfl (lb rfl) fun _ a w S => ?_
      exact leafL ⟨rfl, S⟩
    · refine fI 49 (.string z57) [(45, .string z53), (48, .string r55)] 10 [some 6, some 9] rfl rfl rfl rfl rfl rfl fun G a w S => ?_
      refine sBin (.string z57) S (wN rfl) rfl rfl rfl (bAddS _ _ _ _ (x := z53) (y := r55) hx58) rfl (lb rfl) fun a S => ?_
      exact leafL ⟨rfl, S⟩
    · refine fI 2 (.string z57) [(49, .string z57)] 11 [some 10] rfl rfl rfl rfl rfl rfl fun G a w S => ?_
      refine sMove (.string z57) S (wN rfl) (.inr rfl) rfl rfl (lb rfl) fun a S => ?_
      exact leafL ⟨rfl, S⟩
    refine leafT (hK46 _ _ ?_)
    obtain rfl := Option.some.inj h
    exact wp_ret (rBlock (rThen (sRet (.string z57) S (rsl1 rfl (rvT (t := 2) (v := .string z57) S rfl)) ⟨(), rfl, S.mem.sel [] [] (by decide) rfl rfl⟩)))
  refine sCondF S rfl hc45 ?_
  refine sSeq (fun K59 hK59 => ?_)
  refine sRegion ?_
  refine sBin (.bool (p0.Kind == 7)) S (wN rfl) rfl rfl rfl (bEq _ _ _ _ .u8 p0.Kind 7) rfl (lb rfl) fun a S => ?_
  refine sMove (.bool (p0.Kind == 7)) S (wN rfl) (.inr rfl) rfl rfl (lb rfl) fun a S => ?_
  refine leafL (leafT (hK59 _ _ ?_))
  rcases iteSome h with ⟨hc60, h⟩ | ⟨hc60, h⟩
  rotate_left
  · refine sCondF S rfl hc60 ?_
    refine sSeq (fun K74 hK74 => ?_)
    refine sRegion ?_
    refine sBin (.bool (p0.Kind == 8)) S (wN rfl) rfl rfl rfl (bEq _ _ _ _ .u8 p0.Kind 8) rfl (lb rfl) fun a S => ?_
    refine sMove (.bool (p0.Kind == 8)) S (wN rfl) (.inr rfl) rfl rfl (lb rfl) fun a S => ?_
    refine leafL (leafT (hK74 _ _ ?_))
    rcases iteSome h with ⟨hc75, h⟩ | ⟨hc75, h⟩
    · refine sCondT S rfl hc75 ?_
      refine sSeq (fun K76 hK76 => ?_)
      refine sRegion ?_
      refine sMove (.string o4) S (wN rfl) (.inl rfl) rfl rfl (lb rfl) fun a S => ?_
      obtain ⟨z77, hx78, h⟩ := bindSome h
      refine sBin (.string z77) S (wN rfl) rfl rfl rfl (bAddS _ _ _ _ (x := o4) (y := (⟨#[115]⟩ : ByteArray)) hx78) rfl (lb rfl) fun a S => ?_
      refine sMove (.string z77) S (wN rfl) (.inr rfl) rfl rfl (lb rfl) fun a S => ?_
      refine leafL (leafT (hK76 _ _ ?_))
      obtain rfl := Option.some.inj h
      exact wp_ret (rBlock (rThen (sRet (.string z77) S (rsl1 rfl (rvT (t := 2) (v := .string z77) S rfl)) ⟨(), rfl, S.mem.sel [] [] (by decide) rfl rfl⟩)))
    refine sCondF S rfl hc75 ?_
    refine sSeq (fun K79 hK79 => ?_)
    refine sRegion ?_
    refine sBin (.bool (p0.Kind == 9)) S (wN rfl) rfl rfl rfl (bEq _ _ _ _ .u8 p0.Kind 9) rfl (lb rfl) fun a S => ?_
    refine sMove (.bool (p0.Kind == 9)) S (wN rfl) (.inr rfl) rfl rfl (lb rfl) fun a S => ?_
    refine leafL (leafT (hK79 _ _ ?_))
    rcases iteSome h with ⟨hc80, h⟩ | ⟨hc80, h⟩
    · refine sCondT S rfl hc80 ?_
      refine sSeq (fun K81 hK81 => ?_)
      refine sRegion ?_
      refine sField (b := b2) (off := 0) 2 2 S (wN rfl) rfl rfl rfl rfl rfl (lb rfl) fun a S => ?_
      refine sLoad1 (p := b2) (off := 2) (T := 74) (vs := [.int .u8 p0.Kind, .bool p0.Purl, iv p0.A, iv p0.B]) 0 (iv p0.A) S (wN rfl) rfl rfl rfl rfl rfl rfl (lb rfl) fun a S => ?_
      obtain ⟨r82, hx83, h⟩ := bindSome h
      have S1 := S.mem
      refine sCallQ (X := Unit) (f := 68) (vs := [iv p0.A]) (val := fun _ => .string r82) S (wN rfl) rfl callee68 rfl (S1.quiet [] rfl) (fun E1 w1 S1 => c_raddleref25_Decimal E1 w1 p0.A r82 hx83 S1) rfl (lb rfl) fun _ a w S => ?_
      obtain ⟨z84, hx85, h⟩ := bindSome h
      refine sBin (.string z84) S (wN rfl) rfl rfl rfl (bAddS _ _ _ _ (x := (⟨#[111, 110]⟩ : ByteArray)) (y := r82) hx85) rfl (lb rfl) fun a S => ?_
      refine sMove (.string z84) S (wN rfl) (.inr rfl) rfl rfl (lb rfl) fun a S => ?_
      refine leafL (leafT (hK81 _ _ ?_))
      obtain rfl := Option.some.inj h
      exact wp_ret (rBlock (rThen (sRet (.string z84) S (rsl1 rfl (rvT (t := 2) (v := .string z84) S rfl)) ⟨(), rfl, S.mem.sel [] [] (by decide) rfl rfl⟩)))
    refine sCondF S rfl hc80 ?_
    refine wp_skip (leafB (leafT (hK9 _ _ ?_)))
    refine sSeq (fun K86 hK86 => ?_)
    refine sRegion ?_
    refine sMove (.string o4) S (wN rfl) (.inl rfl) rfl rfl (lb rfl) fun a S => ?_
    obtain ⟨z87, hx88, h⟩ := bindSome h
    refine sBin (.string z87) S (wN rfl) rfl rfl rfl (bAddS _ _ _ _ (x := o4) (y := (⟨#[111]⟩ : ByteArray)) hx88) rfl (lb rfl) fun a S => ?_
    refine sField (b := b2) (off := 0) 2 2 S (wN rfl) rfl rfl rfl rfl rfl (lb rfl) fun a S => ?_
    refine sLoad1 (p := b2) (off := 2) (T := 74) (vs := [.int .u8 p0.Kind, .bool p0.Purl, iv p0.A, iv p0.B]) 0 (iv p0.A) S (wN rfl) rfl rfl rfl rfl rfl rfl (lb rfl) fun a S => ?_
    obtain ⟨r89, hx90, h⟩ := bindSome h
    have S1 := S.mem
    refine sCallQ (X := Unit) (f := 68) (vs := [iv p0.A]) (val := fun _ => .string r89) S (wN rfl) rfl callee68 rfl (S1.quiet [] rfl) (fun E1 w1 S1 => c_raddleref25_Decimal E1 w1 p0.A r89 hx90 S1) rfl (lb rfl) fun _ a w S => ?_
    obtain ⟨z91, hx92, h⟩ := bindSome h
    refine sBin (.string z91) S (wN rfl) rfl rfl rfl (bAddS _ _ _ _ (x := z87) (y := r89) hx92) rfl (lb rfl) fun a S => ?_
    refine sMove (.string z91) S (wN rfl) (.inr rfl) rfl rfl (lb rfl) fun a S => ?_
    refine leafL (leafT (hK86 _ _ ?_))
    obtain rfl := Option.some.inj h
    exact wp_ret (sRet (.string z91) S (rsl1 rfl (rvT (t := 2) (v := .string z91) S rfl)) ⟨(), rfl, S.mem.sel [] [] (by decide) rfl rfl⟩)
  refine sCondT S rfl hc60 ?_
  refine sSeq (fun K61 hK61 => ?_)
  obtain ⟨z62, hx63, h⟩ := bindSome h
  obtain ⟨r64, hx65, h⟩ := bindSome h
  obtain ⟨z66, hx67, h⟩ := bindSome h
  obtain ⟨z68, hx69, h⟩ := bindSome h
  obtain ⟨r70, hx71, h⟩ := bindSome h
  obtain ⟨z72, hx73, h⟩ := bindSome h
  refine sDraw (nf := []) (W := [(0, 52, .string o4), (1, 53, .string z62), (2, 54, .pointer (some ⟨b2, 2, none⟩)), (3, 55, iv p0.A), (4, 56, .string r64), (5, 57, .string z66), (6, 58, .string z68), (7, 59, .pointer (some ⟨b2, 3, none⟩)), (8, 60, iv p0.B), (9, 61, .string r70), (10, 62, .string z72), (11, 2, .string z72)]) rfl S ?_
  refine node_by (A := anc_raddleref25_one_0) (nf := []) (Y := []) (W := [(0, 52, .string o4), (1, 53, .string z62), (2, 54, .pointer (some ⟨b2, 2, none⟩)), (3, 55, iv p0.A), (4, 56, .string r64), (5, 57, .string z66), (6, 58, .string z68), (7, 59, .pointer (some ⟨b2, 3, none⟩)), (8, 60, iv p0.B), (9, 61, .string r70), (10, 62, .string z72), (11, 2, .string z72)]) 12 (by kernel_rfl) (by kernel_rfl) (by kernel_rfl) (by kernel_rfl) (by kernel_rfl) [0, 1, 2, 3, 4, 5, 6, 7, 8, 9, 10, 11] (by kernel_rfl) (by decide) (by decide) (aF 0 11 (by decide) ?_ (aF 1 10 (by decide) ?_ (aF 2 9 (by decide) ?_ (aF 3 8 (by decide) ?_ (aF 4 7 (by decide) ?_ (aF 5 6 (by decide) ?_ (aF 6 5 (by decide) ?_ (aF 7 4 (by decide) ?_ (aF 8 3 (by decide) ?_ (aF 9 2 (by decide) ?_ (aF 10 1 (by decide) ?_ (aF 11 0 (by decide) ?_ (trivial))))))))))))) [(2, .string z72)] (fin_of [some 11] rfl (by kernel_rfl) (by kernel_rfl)) (fun _ a w S => ?_)
  · refine fI 52 (.string o4) [(3, .string o4)] 0 [none] rfl rfl rfl rfl rfl rfl fun G a w S => ?_
    refine sMove (.string o4) S (wN rfl) (.inl rfl) rfl rfl (lb rfl) fun a S => ?_
    exact leafL ⟨rfl, S⟩
  · refine fI 53 (.string z62) [(52, .string o4)] 1 [some 0] rfl rfl rfl rfl rfl rfl fun G a w S => ?_
    refine sBin (.string z62) S (wN rfl) rfl rfl rfl (bAddS _ _ _ _ (x := o4) (y := (⟨#[121]⟩ : ByteArray)) hx63) rfl (lb rfl) fun a S => ?_
    exact leafL ⟨rfl, S⟩
  · refine fI 54 (.pointer (some ⟨b2, 2, none⟩)) [(1, .pointer (some ⟨b2, 0, none⟩))] 2 [none] rfl rfl rfl rfl rfl rfl fun G a w S => ?_
    refine sField (b := b2) (off := 0) 2 2 S (wN rfl) rfl rfl rfl rfl rfl (lb rfl) fun a S => ?_
    exact leafL ⟨rfl, S⟩
  · refine fI 55 (iv p0.A) [(54, .pointer (some ⟨b2, 2, none⟩))] 3 [some 2] rfl rfl rfl rfl rfl rfl fun G a w S => ?_
    refine sLoad1 (p := b2) (off := 2) (T := 74) (vs := [.int .u8 p0.Kind, .bool p0.Purl, iv p0.A, iv p0.B]) 0 (iv p0.A) S (wN rfl) rfl rfl rfl rfl rfl rfl (lb rfl) fun a S => ?_
    exact leafL ⟨rfl, S⟩
  · refine fI 56 (.string r64) [(55, iv p0.A)] 4 [some 3] rfl rfl rfl rfl rfl rfl fun G a w S => ?_
    have S1 := S.mem
    refine sCallQ (X := Unit) (f := 68) (vs := [iv p0.A]) (val := fun _ => .string r64) S (wN rfl) rfl callee68 rfl (S1.quiet [] rfl) (fun E1 w1 S1 => c_raddleref25_Decimal E1 w1 p0.A r64 hx65 S1) rfl (lb rfl) fun _ a w S => ?_
    exact leafL ⟨rfl, S⟩
  · refine fI 57 (.string z66) [(53, .string z62), (56, .string r64)] 5 [some 1, some 4] rfl rfl rfl rfl rfl rfl fun G a w S => ?_
    refine sBin (.string z66) S (wN rfl) rfl rfl rfl (bAddS _ _ _ _ (x := z62) (y := r64) hx67) rfl (lb rfl) fun a S => ?_
    exact leafL ⟨rfl, S⟩
  · refine fI 58 (.string z68) [(57, .string z66)] 6 [some 5] rfl rfl rfl rfl rfl rfl fun G a w S => ?_
    refine sBin (.string z68) S (wN rfl) rfl rfl rfl (bAddS _ _ _ _ (x := z66) (y := (⟨#[47]⟩ : ByteArray)) hx69) rfl (lb rfl) fun a S => ?_
    exact leafL ⟨rfl, S⟩
  · refine fI 59 (.pointer (some ⟨b2, 3, none⟩)) [(1, .pointer (some ⟨b2, 0, none⟩))] 7 [none] rfl rfl rfl rfl rfl rfl fun G a w S => ?_
    refine sField (b := b2) (off := 0) 3 3 S (wN rfl) rfl rfl rfl rfl rfl (lb rfl) fun a S => ?_
    exact leafL ⟨rfl, S⟩
  · refine fI 60 (iv p0.B) [(59, .pointer (some ⟨b2, 3, none⟩))] 8 [some 7] rfl rfl rfl rfl rfl rfl fun G a w S => ?_
    refine sLoad1 (p := b2) (off := 3) (T := 74) (vs := [.int .u8 p0.Kind, .bool p0.Purl, iv p0.A, iv p0.B]) 0 (iv p0.B) S (wN rfl) rfl rfl rfl rfl rfl rfl (lb rfl) fun a S => ?_
    exact leafL ⟨rfl, S⟩
  · refine fI 61 (.string r70) [(60, iv p0.B)] 9 [some 8] rfl rfl rfl rfl rfl rfl fun G a w S => ?_
    have S1 := S.mem
    refine sCallQ (X := Unit) (f := 68) (vs := [iv p0.B]) (val := fun _ => .string r70) S (wN rfl) rfl callee68 rfl (S1.quiet [] rfl) (fun E1 w1 S1 => c_raddleref25_Decimal E1 w1 p0.B r70 hx71 S1) rfl (lb rfl) fun _ a w S => ?_
    exact leafL ⟨rfl, S⟩
  · refine fI 62 (.string z72) [(58, .string z68), (61, .string r70)] 10 [some 6, some 9] rfl rfl rfl rfl rfl rfl fun G a w S => ?_
    refine sBin (.string z72) S (wN rfl) rfl rfl rfl (bAddS _ _ _ _ (x := z68) (y := r70) hx73) rfl (lb rfl) fun a S => ?_
    exact leafL ⟨rfl, S⟩
  · refine fI 2 (.string z72) [(62, .string z72)] 11 [some 10] rfl rfl rfl rfl rfl rfl fun G a w S => ?_
    refine sMove (.string z72) S (wN rfl) (.inr rfl) rfl rfl (lb rfl) fun a S => ?_
    exact leafL ⟨rfl, S⟩
  refine leafT (hK61 _ _ ?_)
  obtain rfl := Option.some.inj h
  exact wp_ret (rBlock (rThen (sRet (.string z72) S (rsl1 rfl (rvT (t := 2) (v := .string z72) S rfl)) ⟨(), rfl, S.mem.sel [] [] (by decide) rfl rfl⟩)))

end Go.Proofs.Ytdbgkakmhlmpbaa
