/- Several texts in one: G17 G18 G3 PlGd PlMg PlNr PlNe PlNf LCG FrCompareGrids -/
import Derived.WalkKit
import Derived.Maps.AppendAt
import Derived.Deep.AppendLies
import Derived.KernelRfl
import Derived.Laws.OwnMore
import Derived.Great.BuildSlice
import Derived.Orders
import Derived.Laws.StructEq
import Derived.ChangeKeysEq
import Derived.Defers
import Derived.Laws.BytesString
import Derived.RangeFuncNested
import Derived.RangeFuncBound
import Derived.RangeFuncCalls
import Derived.RangeFuncLeaves
import Derived.OrdersIn
import Derived.LoopNIn
import Derived.ArgAppend
import Derived.Test.YtffikfajljbmnaaProg
import Derived.ProofKit
import Derived.OpenShut
import Derived.ChangeOld
import Derived.Deep.Slices
import Derived.Lib.SmallJoins
import Derived.JoinedOf
import Derived.JoinedAt
import Derived.Below
import Derived.Test.YtffikfajljbmnaaRows
import Derived.Test.YtffikfajljbmnaaMCompareGrids3
namespace Go.Proofs.Ytffikfajljbmnaa
open Go.RowKit
set_option linter.unusedVariables false

def anc_raddleref46_Nearest_0 : List (List Nat) := [[], [], [], [0, 1, 2], [], [0, 1, 2, 3, 4], [0, 1, 2, 3, 4, 5]]
def anc_raddleref46_Nearest_1 : List (List Nat) := [[], [], [], [0], [0, 1, 3], [0, 1, 2, 3, 4], [0, 1, 2, 3, 4, 5]]
noncomputable def raddleref46_Nearest_l1 (p0 : api_Grid) (r53 : api_Grid) (s64 : Int) (p1 : api_Grid) (s31 : Int) : (Int × Int × Int × Int × Int) → Option ((Int × Int × Int × Int × Int) ⊕ (Int × Int × Int × Int)) := fun s0 => match s0 with
  | (s84, s85, s86, s87, s88) =>
    if decide (s86 < p0.W) then
      Option.bind (α := (Int × Int × Int × Int)) (
        Option.bind (F_raddleref01_Shifted r53 s86 s64) fun r106 =>
        Option.bind (F_raddleref46_differ r106 p1) fun r113 =>
        Option.bind (α := Bool) (
          if decide (s84 < 0) then
            some true
          else
            some (decide (r113 < s84))) fun o120 =>
        if o120 then
          some (r113, s31, s86, s64)
        else
          some (s84, s85, s87, s88)) fun (o99, o100, o101, o102) =>
      some (.inl (o99, o100, w64 (s86 + 1), o101, o102))
    else
      some (.inr (s84, s85, s87, s88))
noncomputable def raddleref46_Nearest_l2 (p0 : api_Grid) (r53 : api_Grid) (p1 : api_Grid) (s31 : Int) : (Int × Int × Int × Int × Int) → Option ((Int × Int × Int × Int × Int) ⊕ (Int × Int × Int × Int)) := fun s0 => match s0 with
  | (s62, s63, s64, s65, s66) =>
    if decide (s64 < p0.H) then
      Option.bind (α := (Int × Int × Int × Int)) (
        Option.bind (whileO (raddleref46_Nearest_l1 p0 r53 s64 p1 s31) (s62, s63, 0, s65, s66)) fun (e92, e93, e94, e95) =>
          some (e92, e93, e94, e95)) fun (o77, o78, o79, o80) =>
      some (.inl (o77, o78, w64 (s64 + 1), o79, o80))
    else
      some (.inr (s62, s63, s65, s66))
noncomputable def raddleref46_Nearest_l3 (p2 : Int) (p0 : api_Grid) (p1 : api_Grid) : (Int × Int × Int × Int × Int) → Option ((Int × Int × Int × Int × Int) ⊕ (Int × Int × Int × Int)) := fun s0 => match s0 with
  | (s29, s30, s31, s32, s33) =>
    Option.bind (F_raddleref46_Last p2) fun r43 =>
    if decide (s31 ≤ r43) then
      Option.bind (α := (Int × Int × Int × Int)) (
        Option.bind (F_raddleref07_Applied p0 s31) fun r53 =>
        Option.bind (whileO (raddleref46_Nearest_l2 p0 r53 p1 s31) (s29, s30, 0, s32, s33)) fun (e70, e71, e72, e73) =>
          some (e70, e71, e72, e73)) fun (o46, o47, o48, o49) =>
      some (.inl (o46, o47, w64 (s31 + 1), o48, o49))
    else
      some (.inr (s29, s30, s32, s33))
noncomputable def F_raddleref46_Nearest (p0 : api_Grid) (p1 : api_Grid) (p2 : Int) : Option (Int × Int × api_Point × Int) :=
  Option.bind (F_raddleref46_Start p0 p1 p2) fun r15 =>
  if r15 != 0 then
    some (0, 0, (api_Point.mk 0 0), r15)
  else
    Option.bind (α := (Int × Int × Int × Int)) (
      Option.bind (whileO (raddleref46_Nearest_l3 p2 p0 p1) ((-1), 0, 0, 0, 0)) fun (e37, e38, e39, e40) =>
        some (e37, e38, e39, e40)) fun (o22, o23, o24, o25) =>
    some (o22, o23, (api_Point.mk o24 o25), 0)
def c_raddleref46_Nearest_val (r : (Int × Int × api_Point × Int)) (x : Value) : Value := .tuple #[.int .i64 r.1, .int .i64 r.2.1, x, .int .i64 r.2.2.2]
def c_raddleref46_Nearest_D (r : (Int × Int × api_Point × Int)) (x : Value) : List Fact := [fRep r_api_Point x r.2.2.1]
set_option maxHeartbeats 4000000 in
set_option maxRecDepth 100000 in
theorem c_raddleref46_Nearest (E : Nat → Prop) (w0 : World) (p0 : api_Grid) (v0 : Value) (p1 : api_Grid) (v1 : Value) (p2 : Int) (r : (Int × Int × api_Point × Int)) (h : F_raddleref46_Nearest p0 p1 p2 = some r) (S : St0 E [] w0 w0 [] [fRep r_api_Grid (v0) p0, fRep r_api_Grid (v1) p1]) :
    Calls Try.prog 17 #[v0, v1, iv p2] w0 (Ret (X := Value) E [] w0 (c_raddleref46_Nearest_val r) (fun _ => []) (c_raddleref46_Nearest_D r)) := by
  unfold F_raddleref46_Nearest at h
  obtain ⟨u1, rfl, hu2⟩ := S.know (i := 0) (e := fRep r_api_Grid (v0) p0) rfl
  have S := S.learn (fRep (rL rB) u1 p0.Bits) hu2
  obtain ⟨ad3, cp4, _, rfl, _⟩ := hu2
  obtain ⟨u5, rfl, hu6⟩ := S.know (i := 2) (e := fRep r_api_Grid (v1) p1) rfl
  have S := S.learn (fRep (rL rB) u5 p1.Bits) hu6
  obtain ⟨ad7, cp8, _, rfl, _⟩ := hu6
  refine sEnter (args := [.agg #[iv p0.W, iv p0.H, .slice ad3 p0.Bits.length cp4], .agg #[iv p1.W, iv p1.H, .slice ad7 p1.Bits.length cp8], iv p2]) 70 Try.func17 rfl rfl (by simp) S (fun a S => ?_)
  refine sSeq (fun K9 hK9 => ?_)
  refine sRegion ?_
  refine sBox (v := .agg #[iv p0.W, iv p0.H, .slice ad3 p0.Bits.length cp4]) S (wN rfl) rfl rfl [iv p0.W, iv p0.H, .slice ad3 p0.Bits.length cp4] rfl rfl (lb rfl) fun a b10 w S => ?_
  refine sBox (v := .agg #[iv p1.W, iv p1.H, .slice ad7 p1.Bits.length cp8]) S (wN rfl) rfl rfl [iv p1.W, iv p1.H, .slice ad7 p1.Bits.length cp8] rfl rfl (lb rfl) fun a b11 w S => ?_
  refine sMove (iv 0) S (wN rfl) (.inr rfl) rfl rfl (lb rfl) fun a S => ?_
  refine sMove (iv 0) S (wN rfl) (.inr rfl) rfl rfl (lb rfl) fun a S => ?_
  refine sAlloc (.agg #[iv 0, iv 0]) S (wN rfl) rfl rfl [iv 0, iv 0] rfl rfl (lb rfl) fun a b12 w S => ?_
  refine sMove (iv 0) S (wN rfl) (.inr rfl) rfl rfl (lb rfl) fun a S => ?_
  refine leafL (leafT (hK9 _ _ ?_))
  refine sSeq (fun K13 hK13 => ?_)
  refine sSeq (fun K14 hK14 => ?_)
  refine sRegion ?_
  refine sLoadN (p := b10) (off := 0) (T := 24) (vs := [iv p0.W, iv p0.H, .slice ad3 p0.Bits.length cp4]) 2 [iv p0.W, iv p0.H, .slice ad3 p0.Bits.length cp4] S (wN rfl) rfl rfl rfl rfl rfl rfl rfl (lb rfl) fun a S => ?_
  refine sLoadN (p := b11) (off := 0) (T := 24) (vs := [iv p1.W, iv p1.H, .slice ad7 p1.Bits.length cp8]) 1 [iv p1.W, iv p1.H, .slice ad7 p1.Bits.length cp8] S (wN rfl) rfl rfl rfl rfl rfl rfl rfl (lb rfl) fun a S => ?_
  refine sMove (iv p2) S (wN rfl) (.inl rfl) rfl rfl (lb rfl) fun a S => ?_
  obtain ⟨r15, hx16, h⟩ := bindSome h
  have S1 := S.mem
  refine sCallQ (X := Unit) (f := 32) (vs := [.agg #[iv p0.W, iv p0.H, .slice ad3 p0.Bits.length cp4], .agg #[iv p1.W, iv p1.H, .slice ad7 p1.Bits.length cp8], iv p2]) (val := fun _ => iv r15) S (wN rfl) rfl callee32 rfl (S1.quiet [2, 3] rfl) (fun E1 w1 S1 => c_raddleref46_Start E1 w1 p0 (.agg #[iv p0.W, iv p0.H, .slice ad3 p0.Bits.length cp4]) p1 (.agg #[iv p1.W, iv p1.H, .slice ad7 p1.Bits.length cp8]) p2 r15 hx16 S1) rfl (lb rfl) fun _ a w S => ?_
  refine sMove (iv r15) S (wN rfl) (.inr rfl) rfl rfl (lb rfl) fun a S => ?_
  refine leafL (leafT (hK14 _ _ ?_))
  refine sSeq (fun K17 hK17 => ?_)
  refine sRegion ?_
  refine sMove (iv r15) S (wN rfl) (.inl rfl) rfl rfl (lb rfl) fun a S => ?_
  refine sBin (.bool (r15 != 0)) S (wN rfl) rfl rfl rfl (bNe _ _ _ _ .i64 r15 0) rfl (lb rfl) fun a S => ?_
  refine leafL (leafT (hK17 _ _ ?_))
  rcases iteSome h with ⟨hc18, h⟩ | ⟨hc18, h⟩
  · refine sCondT S rfl hc18 ?_
    refine sSeq (fun K19 hK19 => ?_)
    refine sRegion ?_
    refine sBuild [] [iv 0, iv 0] S (wN rfl) rfl rfl rfl rfl (lb rfl) fun a S => ?_
    refine sMove (iv r15) S (wN rfl) (.inl rfl) rfl rfl (lb rfl) fun a S => ?_
    refine sMove (iv 0) S (wN rfl) (.inr rfl) rfl rfl (lb rfl) fun a S => ?_
    refine sMove (iv 0) S (wN rfl) (.inr rfl) rfl rfl (lb rfl) fun a S => ?_
    refine sStore (p := b12) (off := 0) (T := 33) (vs := [iv 0, iv 0]) (v := .agg #[iv 0, iv 0]) 0 [iv 0, iv 0] S (wN rfl) rfl rfl rfl rfl rfl rfl rfl (by simp) rfl fun a w S => ?_
    refine sMove (iv r15) S (wN rfl) (.inr rfl) rfl rfl (lb rfl) fun a S => ?_
    refine leafL (leafT (hK19 _ _ ?_))
    obtain rfl := Option.some.inj h
    have S := S.learn (fRep r_api_Point (.agg #[iv 0, iv 0]) (api_Point.mk 0 0)) rfl
    exact wp_ret (rThen (sRet (.tuple #[iv 0, iv 0, .agg #[iv 0, iv 0], iv r15]) S (rsl4 rfl (rvT (t := 6) (v := iv 0) S rfl) (rvT (t := 7) (v := iv 0) S rfl) (rvN (c := 8) (t := 33) (T := 33) (p := b12) 0 [iv 0, iv 0] S rfl rfl rfl rfl) (rvT (t := 9) (v := iv r15) S rfl)) ⟨(.agg #[iv 0, iv 0]), rfl, S.mem.sel [] [0] (by decide) rfl rfl⟩))
  refine sCondF S rfl hc18 ?_
  refine wp_skip (leafT (hK13 _ _ ?_))
  refine sSeq (fun K20 hK20 => ?_)
  refine sRegion ?_
  refine sBuild [] [iv 0, iv 0] S (wN rfl) rfl rfl rfl rfl (lb rfl) fun a S => ?_
  refine sAlloc (.agg #[iv 0, iv 0]) S (wN rfl) rfl rfl [iv 0, iv 0] rfl rfl (lb rfl) fun a b21 w S => ?_
  refine sMove (iv (-1)) S (wN rfl) (.inr rfl) rfl rfl (lb rfl) fun a S => ?_
  refine sMove (iv 0) S (wN rfl) (.inr rfl) rfl rfl (lb rfl) fun a S => ?_
  refine sStore (p := b21) (off := 0) (T := 33) (vs := [iv 0, iv 0]) (v := .agg #[iv 0, iv 0]) 0 [iv 0, iv 0] S (wN rfl) rfl rfl rfl rfl rfl rfl rfl (by simp) rfl fun a w S => ?_
  refine leafL (leafT (hK20 _ _ ?_))
  obtain ⟨t26, h, g27⟩ := bindSome h
  refine sCut (fun a w => ∃ o22, ∃ o23, ∃ o24, ∃ o25, (o22, o23, o24, o25) = t26 ∧ St [] E [] w0 70 a w [(8, .pointer (some ⟨b12, 0, none⟩)), (11, iv o22), (12, iv o23), (13, .pointer (some ⟨b21, 0, none⟩))] [eBox b12 33 [iv 0, iv 0], eBox b21 33 [iv o24, iv o25]] []) ?_ (fun a w hI => ?_)
  rotate_left
  · obtain ⟨o22, o23, o24, o25, rfl, S⟩ := hI
    have h := g27
    clear g27
    try dsimp only at h
    refine sSeq (fun K125 hK125 => ?_)
    refine sDraw (nf := [5]) (W := [(0, 67, iv o22), (1, 68, iv o23), (2, 69, .agg #[iv o24, iv o25]), (3, 6, iv o22), (4, 7, iv o23)]) rfl S ?_
    refine node_by (A := anc_raddleref46_Nearest_1) (nf := [5]) (Y := []) (W := [(0, 67, iv o22), (1, 68, iv o23), (2, 69, .agg #[iv o24, iv o25]), (3, 6, iv o22), (4, 7, iv o23)]) 7 (by kernel_rfl) (by kernel_rfl) (by kernel_rfl) (by kernel_rfl) (by kernel_rfl) [0, 1, 2, 3, 4] (by kernel_rfl) (by decide) (by decide) (aF 0 6 (by decide) ?_ (aF 1 5 (by decide) ?_ (aF 2 4 (by decide) ?_ (aF 3 3 (by decide) ?_ (aF 4 2 (by decide) ?_ (aN 5 1 (by decide) ?_ (aE 6 0 5 (by decide) (trivial)))))))) [] (fun q hq => by cases hq) (fun hY => absurd (hY 5 (by decide)) (by decide))
    · refine fI 67 (iv o22) [(11, iv o22)] 0 [none] rfl rfl rfl rfl rfl rfl fun G a w S => ?_
      refine sMove (iv o22) S (wN rfl) (.inl rfl) rfl rfl (lb rfl) fun a S => ?_
      exact leafL ⟨rfl, S⟩
    · refine fI 68 (iv o23) [(12, iv o23)] 1 [none] rfl rfl rfl rfl rfl rfl fun G a w S => ?_
      refine sMove (iv o23) S (wN rfl) (.inl rfl) rfl rfl (lb rfl) fun a S => ?_
      exact leafL ⟨rfl, S⟩
    · refine fI 69 (.agg #[iv o24, iv o25]) [(13, .pointer (some ⟨b21, 0, none⟩))] 2 [none] rfl rfl rfl rfl rfl rfl fun G a w S => ?_
      refine sLoadN (p := b21) (off := 0) (T := 33) (vs := [iv o24, iv o25]) 1 [iv o24, iv o25] S (wN rfl) rfl rfl rfl rfl rfl rfl rfl (lb rfl) fun a S => ?_
      exact leafL ⟨rfl, S⟩
    · refine fI 6 (iv o22) [(67, iv o22)] 3 [some 0] rfl rfl rfl rfl rfl rfl fun G a w S => ?_
      refine sMove (iv o22) S (wN rfl) (.inr rfl) rfl rfl (lb rfl) fun a S => ?_
      exact leafL ⟨rfl, S⟩
    · refine fI 7 (iv o23) [(68, iv o23)] 4 [some 1] rfl rfl rfl rfl rfl rfl fun G a w S => ?_
      refine sMove (iv o23) S (wN rfl) (.inr rfl) rfl rfl (lb rfl) fun a S => ?_
      exact leafL ⟨rfl, S⟩
    refine ⟨_, [(8, .pointer (some ⟨b12, 0, none⟩)), (69, .agg #[iv o24, iv o25])], rfl, (srcs_of [none, some 2] rfl rfl rfl), fun G a w S => ?_⟩
    refine sStore (p := b12) (off := 0) (T := 33) (vs := [iv 0, iv 0]) (v := .agg #[iv o24, iv o25]) 0 [iv o24, iv o25] S (wN rfl) rfl rfl rfl rfl rfl rfl rfl (by simp) rfl fun a w S => ?_
    refine leafL ⟨rfl, _, _, .inr ⟨[(6, 9, iv 0)], rfl, S, hz_of rfl, ?_⟩⟩
    refine node_by (A := anc_raddleref46_Nearest_1) (nf := [5]) (Y := [5]) 7 (by kernel_rfl) (by kernel_rfl) (by kernel_rfl) (by kernel_rfl) (by kernel_rfl) [6, 0, 1, 2, 3, 4] (by kernel_rfl) (by decide) (by decide) (aD 0 6 5 (by decide) (aD 1 5 5 (by decide) (aD 2 4 5 (by decide) (aD 3 3 5 (by decide) (aD 4 2 5 (by decide) (aY 5 1 (by decide) (aF 6 0 (by decide) ?_ (trivial)))))))) [(6, iv o22), (7, iv o23), (8, .pointer (some ⟨b12, 0, none⟩)), (9, iv 0)] (fin_of [some 4, some 5, none, some 0] rfl (by kernel_rfl) (by kernel_rfl)) (fun _ a w S => ?_)
    · refine fI 9 (iv 0) [] 0 [] rfl rfl rfl rfl rfl rfl fun G a w S => ?_
      refine sMove (iv 0) S (wN rfl) (.inr rfl) rfl rfl (lb rfl) fun a S => ?_
      exact leafL ⟨rfl, S⟩
    refine leafT (hK125 _ _ ?_)
    obtain rfl := Option.some.inj h
    have S := S.learn (fRep r_api_Point (.agg #[iv o24, iv o25]) (api_Point.mk o24 o25)) rfl
    exact wp_ret (sRet (.tuple #[iv o22, iv o23, .agg #[iv o24, iv o25], iv 0]) S (rsl4 rfl (rvT (t := 6) (v := iv o22) S rfl) (rvT (t := 7) (v := iv o23) S rfl) (rvN (c := 8) (t := 33) (T := 33) (p := b12) 0 [iv o24, iv o25] S rfl rfl rfl rfl) (rvT (t := 9) (v := iv 0) S rfl)) ⟨(.agg #[iv o24, iv o25]), rfl, S.mem.sel [] [0] (by decide) rfl rfl⟩)
  refine sSeq (fun K28 hK28 => ?_)
  refine sRegion ?_
  refine sMove (iv 0) S (wN rfl) (.inr rfl) rfl rfl (lb rfl) fun a S => ?_
  refine leafL (leafT (hK28 _ _ ?_))
  refine wp_block ?_
  obtain ⟨t36, hl, g35⟩ := bindSome h
  refine sLoop hl (fun s0 a w => match s0 with | (s29, s30, s31, s32, s33) => St [] E [] w0 70 a w [(2, iv p2), (3, .pointer (some ⟨b10, 0, none⟩)), (4, .pointer (some ⟨b11, 0, none⟩)), (8, .pointer (some ⟨b12, 0, none⟩)), (11, iv s29), (12, iv s30), (13, .pointer (some ⟨b21, 0, none⟩)), (14, iv s31)] [eBox b10 24 [iv p0.W, iv p0.H, .slice ad3 p0.Bits.length cp4], eBox b11 24 [iv p1.W, iv p1.H, .slice ad7 p1.Bits.length cp8], eBox b12 33 [iv 0, iv 0], eBox b21 33 [iv s32, iv s33]] [fRep (rL rB) (.slice ad3 p0.Bits.length cp4) p0.Bits, fRep (rL rB) (.slice ad7 p1.Bits.length cp8) p1.Bits]) (S.fix [3, 2, 1, 0] [1, 0] (by decide) rfl rfl rfl) ?_
  clear hl h
  intro s0 a w c0 hI h hu34
  obtain ⟨s29, s30, s31, s32, s33⟩ := s0
  unfold raddleref46_Nearest_l3 at h
  dsimp only at h hI
  have S := hI
  refine sSeq (fun K41 hK41 => ?_)
  refine sSeq (fun K42 hK42 => ?_)
  refine sRegion ?_
  refine sMove (iv s31) S (wN rfl) (.inl rfl) rfl rfl (lb rfl) fun a S => ?_
  refine sMove (iv p2) S (wN rfl) (.inl rfl) rfl rfl (lb rfl) fun a S => ?_
  obtain ⟨r43, hx44, h⟩ := bindSome h
  have S1 := S.mem
  refine sCallQ (X := Unit) (f := 35) (vs := [iv p2]) (val := fun _ => iv r43) S (wN rfl) rfl callee35 rfl (S1.quiet [] rfl) (fun E1 w1 S1 => c_raddleref46_Last E1 w1 p2 r43 hx44 S1) rfl (lb rfl) fun _ a w S => ?_
  refine sBin (.bool (decide (s31 ≤ r43))) S (wN rfl) rfl rfl rfl (bLe _ _ _ _ .i64 s31 r43) rfl (lb rfl) fun a S => ?_
  refine leafL (leafT (hK42 _ _ ?_))
  rcases iteSome h with ⟨hc45, h⟩ | ⟨hc45, h⟩
  rotate_left
  · refine sCondF S rfl hc45 ?_
    obtain rfl := Option.some.inj h
    obtain rfl := hu34 _ rfl
    have h := g35
    clear g35
    try dsimp only at h
    exact wp_exit (xThen (xThen (xHit (leafT (⟨s29, s30, s32, s33, Option.some.inj h, S.fix [2, 3] [] (by decide) rfl rfl rfl⟩)))))
  refine sCondT S rfl hc45 ?_
  refine wp_skip (leafT (hK41 _ _ ?_))
  obtain ⟨t50, h, g51⟩ := bindSome h
  refine sCut (fun a w => ∃ o46, ∃ o47, ∃ o48, ∃ o49, (o46, o47, o48, o49) = t50 ∧ St [] E [] w0 70 a w [(2, iv p2), (3, .pointer (some ⟨b10, 0, none⟩)), (4, .pointer (some ⟨b11, 0, none⟩)), (8, .pointer (some ⟨b12, 0, none⟩)), (11, iv o46), (12, iv o47), (13, .pointer (some ⟨b21, 0, none⟩)), (14, iv s31)] [eBox b10 24 [iv p0.W, iv p0.H, .slice ad3 p0.Bits.length cp4], eBox b11 24 [iv p1.W, iv p1.H, .slice ad7 p1.Bits.length cp8], eBox b12 33 [iv 0, iv 0], eBox b21 33 [iv o48, iv o49]] [fRep (rL rB) (.slice ad3 p0.Bits.length cp4) p0.Bits, fRep (rL rB) (.slice ad7 p1.Bits.length cp8) p1.Bits]) ?_ (fun a w hI => ?_)
  rotate_left
  · obtain ⟨o46, o47, o48, o49, rfl, S⟩ := hI
    have h := g51
    clear g51
    try dsimp only at h
    refine sRegion ?_
    refine sMove (iv s31) S (wN rfl) (.inl rfl) rfl rfl (lb rfl) fun a S => ?_
    refine sBin (iv (w64 (s31 + 1))) S (wN rfl) rfl rfl rfl (bAdd _ _ _ _ s31 1) rfl (lb rfl) fun a S => ?_
    refine sMove (iv (w64 (s31 + 1))) S (wN rfl) (.inr rfl) rfl rfl (lb rfl) fun a S => ?_
    exact leafL (leafT (⟨(o46, o47, w64 (s31 + 1), o48, o49), (Option.some.inj h).symm, (S.fix [0, 1, 2, 3] [0, 1] (by decide) rfl rfl rfl)⟩))
  refine wp_block ?_
  refine sSeq (fun K52 hK52 => ?_)
  refine sRegion ?_
  refine sLoadN (p := b10) (off := 0) (T := 24) (vs := [iv p0.W, iv p0.H, .slice ad3 p0.Bits.length cp4]) 0 [iv p0.W, iv p0.H, .slice ad3 p0.Bits.length cp4] S (wN rfl) rfl rfl rfl rfl rfl rfl rfl (lb rfl) fun a S => ?_
  refine sMove (iv s31) S (wN rfl) (.inl rfl) rfl rfl (lb rfl) fun a S => ?_
  obtain ⟨r53, hx54, h⟩ := bindSome h
  have S := S.learn (fRep r_api_Grid (.agg #[iv p0.W, iv p0.H, .slice ad3 p0.Bits.length cp4]) p0) ⟨_, rfl, S.mem.know (i := 0) (e := fRep (rL rB) (.slice ad3 p0.Bits.length cp4) p0.Bits) rfl⟩
  refine sCall (X := Value) (f := 37) (vs := [.agg #[iv p0.W, iv p0.H, .slice ad3 p0.Bits.length cp4], iv s31]) (val := c_raddleref07_Applied_val r53) (B' := fun _ => []) (D' := c_raddleref07_Applied_D r53) [] [eBox b10 24 [iv p0.W, iv p0.H, .slice ad3 p0.Bits.length cp4], eBox b11 24 [iv p1.W, iv p1.H, .slice ad7 p1.Bits.length cp8], eBox b12 33 [iv 0, iv 0], eBox b21 33 [iv s32, iv s33]] [fRep r_api_Grid (.agg #[iv p0.W, iv p0.H, .slice ad3 p0.Bits.length cp4]) p0] [0, 1, 2, 3] [0] S (wN rfl) rfl callee37 rfl (by decide) rfl rfl (fun E1 w1 S1 => c_raddleref07_Applied E1 w1 p0 (.agg #[iv p0.W, iv p0.H, .slice ad3 p0.Bits.length cp4]) s31 r53 hx54 S1) rfl (lb rfl) fun u55 a w S => ?_
  obtain ⟨u56, rfl, hu57⟩ := S.mem.know (i := 0) (e := fRep r_api_Grid (u55) r53) rfl
  have S := S.learn (fRep (rL rB) u56 r53.Bits) hu57
  obtain ⟨ad58, cp59, _, rfl, _⟩ := hu57
  refine sAlloc (.agg #[iv 0, iv 0, .slice none 0 0]) S (wN rfl) rfl rfl [iv 0, iv 0, .slice none 0 0] rfl rfl (lb rfl) fun a b60 w S => ?_
  refine sStore (p := b60) (off := 0) (T := 24) (vs := [iv 0, iv 0, .slice none 0 0]) (v := .agg #[iv r53.W, iv r53.H, .slice ad58 r53.Bits.length cp59]) 0 [iv r53.W, iv r53.H, .slice ad58 r53.Bits.length cp59] S (wN rfl) rfl rfl rfl rfl rfl rfl rfl (by simp) rfl fun a w S => ?_
  refine leafL (leafT (hK52 _ _ ?_))
  refine sSeq (fun K61 hK61 => ?_)
  refine sRegion ?_
  refine sMove (iv 0) S (wN rfl) (.inr rfl) rfl rfl (lb rfl) fun a S => ?_
  refine leafL (leafT (hK61 _ _ ?_))
  refine wp_block ?_
  obtain ⟨t69, hl, g68⟩ := bindSome h
  refine sLoop hl (fun s0 a w => match s0 with | (s62, s63, s64, s65, s66) => St [] E [] w0 70 a w [(2, iv p2), (3, .pointer (some ⟨b10, 0, none⟩)), (4, .pointer (some ⟨b11, 0, none⟩)), (8, .pointer (some ⟨b12, 0, none⟩)), (11, iv s62), (12, iv s63), (13, .pointer (some ⟨b21, 0, none⟩)), (14, iv s31), (15, .pointer (some ⟨b60, 0, none⟩)), (16, iv s64)] [eBox b10 24 [iv p0.W, iv p0.H, .slice ad3 p0.Bits.length cp4], eBox b11 24 [iv p1.W, iv p1.H, .slice ad7 p1.Bits.length cp8], eBox b12 33 [iv 0, iv 0], eBox b21 33 [iv s65, iv s66], eBox b60 24 [iv r53.W, iv r53.H, .slice ad58 r53.Bits.length cp59]] [fRep (rL rB) (.slice ad3 p0.Bits.length cp4) p0.Bits, fRep (rL rB) (.slice ad7 p1.Bits.length cp8) p1.Bits, fRep (rL rB) (.slice ad58 r53.Bits.length cp59) r53.Bits]) (S.fix [1, 2, 3, 4, 0] [3, 4, 0] (by decide) rfl rfl rfl) ?_
  clear hl h
  intro s0 a w c0 hI h hu67
  obtain ⟨s62, s63, s64, s65, s66⟩ := s0
  unfold raddleref46_Nearest_l2 at h
  dsimp only at h hI
  have S := hI
  refine sSeq (fun K74 hK74 => ?_)
  refine sSeq (fun K75 hK75 => ?_)
  refine sRegion ?_
  refine sMove (iv s64) S (wN rfl) (.inl rfl) rfl rfl (lb rfl) fun a S => ?_
  refine sField (b := b10) (off := 0) 1 1 S (wN rfl) rfl rfl rfl rfl rfl (lb rfl) fun a S => ?_
  refine sLoad1 (p := b10) (off := 1) (T := 24) (vs := [iv p0.W, iv p0.H, .slice ad3 p0.Bits.length cp4]) 0 (iv p0.H) S (wN rfl) rfl rfl rfl rfl rfl rfl (lb rfl) fun a S => ?_
  refine sBin (.bool (decide (s64 < p0.H))) S (wN rfl) rfl rfl rfl (bLt _ _ _ _ .i64 s64 p0.H) rfl (lb rfl) fun a S => ?_
  refine leafL (leafT (hK75 _ _ ?_))
  rcases iteSome h with ⟨hc76, h⟩ | ⟨hc76, h⟩
  rotate_left
  · refine sCondF S rfl hc76 ?_
    obtain rfl := Option.some.inj h
    obtain rfl := hu67 _ rfl
    have h := g68
    clear g68
    try dsimp only at h
    exact wp_exit (xThen (xThen (xHit (leafB (leafT (⟨s62, s63, s65, s66, Option.some.inj h, S.fix [0, 1, 2, 3] [0, 1] (by decide) rfl rfl rfl⟩))))))
  refine sCondT S rfl hc76 ?_
  refine wp_skip (leafT (hK74 _ _ ?_))
  obtain ⟨t81, h, g82⟩ := bindSome h
  refine sCut (fun a w => ∃ o77, ∃ o78, ∃ o79, ∃ o80, (o77, o78, o79, o80) = t81 ∧ St [] E [] w0 70 a w [(2, iv p2), (3, .pointer (some ⟨b10, 0, none⟩)), (4, .pointer (some ⟨b11, 0, none⟩)), (8, .pointer (some ⟨b12, 0, none⟩)), (11, iv o77), (12, iv o78), (13, .pointer (some ⟨b21, 0, none⟩)), (14, iv s31), (15, .pointer (some ⟨b60, 0, none⟩)), (16, iv s64)] [eBox b10 24 [iv p0.W, iv p0.H, .slice ad3 p0.Bits.length cp4], eBox b11 24 [iv p1.W, iv p1.H, .slice ad7 p1.Bits.length cp8], eBox b12 33 [iv 0, iv 0], eBox b21 33 [iv o79, iv o80], eBox b60 24 [iv r53.W, iv r53.H, .slice ad58 r53.Bits.length cp59]] [fRep (rL rB) (.slice ad3 p0.Bits.length cp4) p0.Bits, fRep (rL rB) (.slice ad7 p1.Bits.length cp8) p1.Bits, fRep (rL rB) (.slice ad58 r53.Bits.length cp59) r53.Bits]) ?_ (fun a w hI => ?_)
  rotate_left
  · obtain ⟨o77, o78, o79, o80, rfl, S⟩ := hI
    have h := g82
    clear g82
    try dsimp only at h
    refine sRegion ?_
    refine sMove (iv s64) S (wN rfl) (.inl rfl) rfl rfl (lb rfl) fun a S => ?_
    refine sBin (iv (w64 (s64 + 1))) S (wN rfl) rfl rfl rfl (bAdd _ _ _ _ s64 1) rfl (lb rfl) fun a S => ?_
    refine sMove (iv (w64 (s64 + 1))) S (wN rfl) (.inr rfl) rfl rfl (lb rfl) fun a S => ?_
    exact leafL (leafT (⟨(o77, o78, w64 (s64 + 1), o79, o80), (Option.some.inj h).symm, (S.fix [0, 1, 2, 3, 4] [0, 1, 2] (by decide) rfl rfl rfl)⟩))
  refine wp_block ?_
  refine sSeq (fun K83 hK83 => ?_)
  refine sRegion ?_
  refine sMove (iv 0) S (wN rfl) (.inr rfl) rfl rfl (lb rfl) fun a S => ?_
  refine leafL (leafT (hK83 _ _ ?_))
  refine wp_block ?_
  obtain ⟨t91, hl, g90⟩ := bindSome h
  refine sLoop hl (fun s0 a w => match s0 with | (s84, s85, s86, s87, s88) => St [] E [] w0 70 a w [(2, iv p2), (3, .pointer (some ⟨b10, 0, none⟩)), (4, .pointer (some ⟨b11, 0, none⟩)), (8, .pointer (some ⟨b12, 0, none⟩)), (11, iv s84), (12, iv s85), (13, .pointer (some ⟨b21, 0, none⟩)), (14, iv s31), (15, .pointer (some ⟨b60, 0, none⟩)), (16, iv s64), (17, iv s86)] [eBox b10 24 [iv p0.W, iv p0.H, .slice ad3 p0.Bits.length cp4], eBox b11 24 [iv p1.W, iv p1.H, .slice ad7 p1.Bits.length cp8], eBox b12 33 [iv 0, iv 0], eBox b21 33 [iv s87, iv s88], eBox b60 24 [iv r53.W, iv r53.H, .slice ad58 r53.Bits.length cp59]] [fRep (rL rB) (.slice ad3 p0.Bits.length cp4) p0.Bits, fRep (rL rB) (.slice ad7 p1.Bits.length cp8) p1.Bits, fRep (rL rB) (.slice ad58 r53.Bits.length cp59) r53.Bits]) (S.fix [0, 1, 2, 3, 4] [0, 1, 2] (by decide) rfl rfl rfl) ?_
  clear hl h
  intro s0 a w c0 hI h hu89
  obtain ⟨s84, s85, s86, s87, s88⟩ := s0
  unfold raddleref46_Nearest_l1 at h
  dsimp only at h hI
  have S := hI
  refine sSeq (fun K96 hK96 => ?_)
  refine sSeq (fun K97 hK97 => ?_)
  refine sRegion ?_
  refine sMove (iv s86) S (wN rfl) (.inl rfl) rfl rfl (lb rfl) fun a S => ?_
  refine sField (b := b10) (off := 0) 0 0 S (wN rfl) rfl rfl rfl rfl rfl (lb rfl) fun a S => ?_
  refine sLoad1 (p := b10) (off := 0) (T := 24) (vs := [iv p0.W, iv p0.H, .slice ad3 p0.Bits.length cp4]) 0 (iv p0.W) S (wN rfl) rfl rfl rfl rfl rfl rfl (lb rfl) fun a S => ?_
  refine sBin (.bool (decide (s86 < p0.W))) S (wN rfl) rfl rfl rfl (bLt _ _ _ _ .i64 s86 p0.W) rfl (lb rfl) fun a S => ?_
  refine leafL (leafT (hK97 _ _ ?_))
  rcases iteSome h with ⟨hc98, h⟩ | ⟨hc98, h⟩
  rotate_left
  · refine sCondF S rfl hc98 ?_
    obtain rfl := Option.some.inj h
    obtain rfl := hu89 _ rfl
    have h := g90
    clear g90
    try dsimp only at h
    exact wp_exit (xThen (xThen (xHit (leafB (leafT (⟨s84, s85, s87, s88, Option.some.inj h, S.fix [0, 1, 2, 3, 4] [0, 1, 2] (by decide) rfl rfl rfl⟩))))))
  refine sCondT S rfl hc98 ?_
  refine wp_skip (leafT (hK96 _ _ ?_))
  obtain ⟨t103, h, g104⟩ := bindSome h
  refine sCut (fun a w => ∃ o99, ∃ o100, ∃ o101, ∃ o102, (o99, o100, o101, o102) = t103 ∧ St [] E [] w0 70 a w [(2, iv p2), (3, .pointer (some ⟨b10, 0, none⟩)), (4, .pointer (some ⟨b11, 0, none⟩)), (8, .pointer (some ⟨b12, 0, none⟩)), (11, iv o99), (12, iv o100), (13, .pointer (some ⟨b21, 0, none⟩)), (14, iv s31), (15, .pointer (some ⟨b60, 0, none⟩)), (16, iv s64), (17, iv s86)] [eBox b10 24 [iv p0.W, iv p0.H, .slice ad3 p0.Bits.length cp4], eBox b11 24 [iv p1.W, iv p1.H, .slice ad7 p1.Bits.length cp8], eBox b12 33 [iv 0, iv 0], eBox b21 33 [iv o101, iv o102], eBox b60 24 [iv r53.W, iv r53.H, .slice ad58 r53.Bits.length cp59]] [fRep (rL rB) (.slice ad3 p0.Bits.length cp4) p0.Bits, fRep (rL rB) (.slice ad7 p1.Bits.length cp8) p1.Bits, fRep (rL rB) (.slice ad58 r53.Bits.length cp59) r53.Bits]) ?_ (fun a w hI => ?_)
  rotate_left
  · obtain ⟨o99, o100, o101, o102, rfl, S⟩ := hI
    have h := g104
    clear g104
    try dsimp only at h
    refine sRegion ?_
    refine sMove (iv s86) S (wN rfl) (.inl rfl) rfl rfl (lb rfl) fun a S => ?_
    refine sBin (iv (w64 (s86 + 1))) S (wN rfl) rfl rfl rfl (bAdd _ _ _ _ s86 1) rfl (lb rfl) fun a S => ?_
    refine sMove (iv (w64 (s86 + 1))) S (wN rfl) (.inr rfl) rfl rfl (lb rfl) fun a S => ?_
    exact leafL (leafT (⟨(o99, o100, w64 (s86 + 1), o101, o102), (Option.some.inj h).symm, (S.fix [0, 1, 2, 3, 4] [0, 1, 2] (by decide) rfl rfl rfl)⟩))
  refine wp_block ?_
  refine sSeq (fun K105 hK105 => ?_)
  obtain ⟨r106, hx107, h⟩ := bindSome h
  obtain ⟨r113, hx114, h⟩ := bindSome h
  refine sDraw (nf := [3]) (W := [(0, 49, .agg #[iv r53.W, iv r53.H, .slice ad58 r53.Bits.length cp59]), (1, 50, iv s86), (2, 51, iv s64), (4, 53, .agg #[iv p1.W, iv p1.H, .slice ad7 p1.Bits.length cp8])]) rfl S ?_
  refine node_by (A := anc_raddleref46_Nearest_0) (nf := [3]) (Y := []) (W := [(0, 49, .agg #[iv r53.W, iv r53.H, .slice ad58 r53.Bits.length cp59]), (1, 50, iv s86), (2, 51, iv s64), (4, 53, .agg #[iv p1.W, iv p1.H, .slice ad7 p1.Bits.length cp8])]) 7 (by kernel_rfl) (by kernel_rfl) (by kernel_rfl) (by kernel_rfl) (by kernel_rfl) [0, 1, 2, 4] (by kernel_rfl) (by decide) (by decide) (aF 0 6 (by decide) ?_ (aF 1 5 (by decide) ?_ (aF 2 4 (by decide) ?_ (aN 3 3 (by decide) ?_ (aF 4 2 (by decide) ?_ (aE 5 1 3 (by decide) (aE 6 0 3 (by decide) (trivial)))))))) [] (fun q hq => by cases hq) (fun hY => absurd (hY 3 (by decide)) (by decide))
  · refine fI 49 (.agg #[iv r53.W, iv r53.H, .slice ad58 r53.Bits.length cp59]) [(15, .pointer (some ⟨b60, 0, none⟩))] 0 [none] rfl rfl rfl rfl rfl rfl fun G a w S => ?_
    refine sLoadN (p := b60) (off := 0) (T := 24) (vs := [iv r53.W, iv r53.H, .slice ad58 r53.Bits.length cp59]) 4 [iv r53.W, iv r53.H, .slice ad58 r53.Bits.length cp59] S (wN rfl) rfl rfl rfl rfl rfl rfl rfl (lb rfl) fun a S => ?_
    exact leafL ⟨rfl, S⟩
  · refine fI 50 (iv s86) [(17, iv s86)] 1 [none] rfl rfl rfl rfl rfl rfl fun G a w S => ?_
    refine sMove (iv s86) S (wN rfl) (.inl rfl) rfl rfl (lb rfl) fun a S => ?_
    exact leafL ⟨rfl, S⟩
  · refine fI 51 (iv s64) [(16, iv s64)] 2 [none] rfl rfl rfl rfl rfl rfl fun G a w S => ?_
    refine sMove (iv s64) S (wN rfl) (.inl rfl) rfl rfl (lb rfl) fun a S => ?_
    exact leafL ⟨rfl, S⟩
  · refine ⟨_, [(49, .agg #[iv r53.W, iv r53.H, .slice ad58 r53.Bits.length cp59]), (50, iv s86), (51, iv s64)], rfl, (srcs_of [some 0, some 1, some 2] rfl rfl rfl), fun G a w S => ?_⟩
    have S := S.learn (fRep r_api_Grid (.agg #[iv r53.W, iv r53.H, .slice ad58 r53.Bits.length cp59]) r53) ⟨_, rfl, S.mem.know (i := 2) (e := fRep (rL rB) (.slice ad58 r53.Bits.length cp59) r53.Bits) rfl⟩
    refine sCall (X := Value) (f := 36) (vs := [.agg #[iv r53.W, iv r53.H, .slice ad58 r53.Bits.length cp59], iv s86, iv s64]) (val := c_raddleref01_Shifted_val r106) (B' := fun _ => []) (D' := c_raddleref01_Shifted_D r106) [] [eBox b10 24 [iv p0.W, iv p0.H, .slice ad3 p0.Bits.length cp4], eBox b11 24 [iv p1.W, iv p1.H, .slice ad7 p1.Bits.length cp8], eBox b12 33 [iv 0, iv 0], eBox b21 33 [iv s87, iv s88], eBox b60 24 [iv r53.W, iv r53.H, .slice ad58 r53.Bits.length cp59]] [fRep r_api_Grid (.agg #[iv r53.W, iv r53.H, .slice ad58 r53.Bits.length cp59]) r53] [0, 1, 2, 3, 4] [0] S (wN rfl) rfl callee36 rfl (by decide) rfl rfl (fun E1 w1 S1 => c_raddleref01_Shifted E1 w1 r53 (.agg #[iv r53.W, iv r53.H, .slice ad58 r53.Bits.length cp59]) s86 s64 r106 hx107 S1) rfl (lb rfl) fun u115 a w S => ?_
    obtain ⟨u116, rfl, hu117⟩ := S.mem.know (i := 0) (e := fRep r_api_Grid (u115) r106) rfl
    have S := S.learn (fRep (rL rB) u116 r106.Bits) hu117
    obtain ⟨ad118, cp119, _, rfl, _⟩ := hu117
    refine leafL ⟨rfl, _, _, .inl ⟨52, (.agg #[iv r106.W, iv r106.H, .slice ad118 r106.Bits.length cp119]), [(5, 54, iv r113), (6, 18, iv r113)], rfl, S, hz_of rfl, ?_⟩⟩
    refine node_by (A := anc_raddleref46_Nearest_0) (nf := [3]) (Y := [3]) 7 (by kernel_rfl) (by kernel_rfl) (by kernel_rfl) (by kernel_rfl) (by kernel_rfl) [5, 6, 3, 0, 1, 2, 4] (by kernel_rfl) (by decide) (by decide) (aD 0 6 3 (by decide) (aD 1 5 3 (by decide) (aD 2 4 3 (by decide) (aY 3 3 (by decide) (aF 4 2 (by decide) ?_ (aF 5 1 (by decide) ?_ (aF 6 0 (by decide) ?_ (trivial)))))))) [(2, iv p2), (3, .pointer (some ⟨b10, 0, none⟩)), (4, .pointer (some ⟨b11, 0, none⟩)), (8, .pointer (some ⟨b12, 0, none⟩)), (11, iv s84), (12, iv s85), (13, .pointer (some ⟨b21, 0, none⟩)), (14, iv s31), (15, .pointer (some ⟨b60, 0, none⟩)), (16, iv s64), (17, iv s86), (18, iv r113)] (fin_of [none, none, none, none, none, none, none, none, none, none, none, some 1] rfl (by kernel_rfl) (by kernel_rfl)) (fun _ a w S => ?_)
    · refine fI 53 (.agg #[iv p1.W, iv p1.H, .slice ad7 p1.Bits.length cp8]) [(4, .pointer (some ⟨b11, 0, none⟩))] 6 [none] rfl rfl rfl rfl rfl rfl fun G a w S => ?_
      refine sLoadN (p := b11) (off := 0) (T := 24) (vs := [iv p1.W, iv p1.H, .slice ad7 p1.Bits.length cp8]) 1 [iv p1.W, iv p1.H, .slice ad7 p1.Bits.length cp8] S (wN rfl) rfl rfl rfl rfl rfl rfl rfl (lb rfl) fun a S => ?_
      exact leafL ⟨rfl, S⟩
    · refine fI 54 (iv r113) [(52, .agg #[iv r106.W, iv r106.H, .slice ad118 r106.Bits.length cp119]), (53, .agg #[iv p1.W, iv p1.H, .slice ad7 p1.Bits.length cp8])] 0 [some 2, some 6] rfl rfl rfl rfl rfl rfl fun G a w S => ?_
      have S1 := S.mem
      have S1 := S1.learn (fRep r_api_Grid (.agg #[iv p1.W, iv p1.H, .slice ad7 p1.Bits.length cp8]) p1) ⟨_, rfl, S1.know (i := 4) (e := fRep (rL rB) (.slice ad7 p1.Bits.length cp8) p1.Bits) rfl⟩
      refine sCallQ (X := Unit) (f := 48) (vs := [.agg #[iv r106.W, iv r106.H, .slice ad118 r106.Bits.length cp119], .agg #[iv p1.W, iv p1.H, .slice ad7 p1.Bits.length cp8]]) (val := fun _ => iv r113) S (wN rfl) rfl callee48 rfl (S1.quiet [2, 0] rfl) (fun E1 w1 S1 => c_raddleref46_differ E1 w1 r106 (.agg #[iv r106.W, iv r106.H, .slice ad118 r106.Bits.length cp119]) p1 (.agg #[iv p1.W, iv p1.H, .slice ad7 p1.Bits.length cp8]) r113 hx114 S1) rfl (lb rfl) fun _ a w S => ?_
      exact leafL ⟨rfl, S⟩
    · refine fI 18 (iv r113) [(54, iv r113)] 1 [some 0] rfl rfl rfl rfl rfl rfl fun G a w S => ?_
      refine sMove (iv r113) S (wN rfl) (.inr rfl) rfl rfl (lb rfl) fun a S => ?_
      exact leafL ⟨rfl, S⟩
    refine leafT (hK105 _ _ ?_)
    obtain ⟨t121, h, g122⟩ := bindSome h
    refine sCut (fun a w => ∃ o120, o120 = t121 ∧ St [] E [] w0 70 a w [(2, iv p2), (3, .pointer (some ⟨b10, 0, none⟩)), (4, .pointer (some ⟨b11, 0, none⟩)), (8, .pointer (some ⟨b12, 0, none⟩)), (11, iv s84), (12, iv s85), (13, .pointer (some ⟨b21, 0, none⟩)), (14, iv s31), (15, .pointer (some ⟨b60, 0, none⟩)), (16, iv s64), (17, iv s86), (18, iv r113), (61, .bool o120)] [eBox b10 24 [iv p0.W, iv p0.H, .slice ad3 p0.Bits.length cp4], eBox b11 24 [iv p1.W, iv p1.H, .slice ad7 p1.Bits.length cp8], eBox b12 33 [iv 0, iv 0], eBox b21 33 [iv s87, iv s88], eBox b60 24 [iv r53.W, iv r53.H, .slice ad58 r53.Bits.length cp59]] [fRep (rL rB) (.slice ad3 p0.Bits.length cp4) p0.Bits, fRep (rL rB) (.slice ad7 p1.Bits.length cp8) p1.Bits, fRep (rL rB) (.slice ad58 r53.Bits.length cp59) r53.Bits]) ?_ (fun a w hI => ?_)
    rotate_left
    · obtain ⟨o120, rfl, S⟩ := hI
      have h := g122
      clear g122
      try dsimp only at h
      rcases iteSome h with ⟨hc124, h⟩ | ⟨hc124, h⟩
      rotate_left
      · refine sCondF S rfl hc124 ?_
        exact wp_skip (leafB (leafT (⟨s84, s85, s87, s88, Option.some.inj h, S.fix [0, 1, 2, 3, 4] [0, 1, 2] (by decide) rfl rfl rfl⟩)))
      refine sCondT S rfl hc124 ?_
      refine sRegion ?_
      refine sMove (iv r113) S (wN rfl) (.inl rfl) rfl rfl (lb rfl) fun a S => ?_
      refine sMove (iv s31) S (wN rfl) (.inl rfl) rfl rfl (lb rfl) fun a S => ?_
      refine sMove (iv s86) S (wN rfl) (.inl rfl) rfl rfl (lb rfl) fun a S => ?_
      refine sMove (iv s64) S (wN rfl) (.inl rfl) rfl rfl (lb rfl) fun a S => ?_
      refine sBuild [(0, iv s86), (1, iv s64)] [iv s86, iv s64] S (wN rfl) rfl rfl rfl rfl (lb rfl) fun a S => ?_
      refine sMove (iv r113) S (wN rfl) (.inr rfl) rfl rfl (lb rfl) fun a S => ?_
      refine sMove (iv s31) S (wN rfl) (.inr rfl) rfl rfl (lb rfl) fun a S => ?_
      refine sStore (p := b21) (off := 0) (T := 33) (vs := [iv s87, iv s88]) (v := .agg #[iv s86, iv s64]) 3 [iv s86, iv s64] S (wN rfl) rfl rfl rfl rfl rfl rfl rfl (by simp) rfl fun a w S => ?_
      exact leafL (leafB (leafT (⟨r113, s31, s86, s64, Option.some.inj h, S.fix [1, 2, 3, 0, 4] [0, 1, 2] (by decide) rfl rfl rfl⟩)))
    refine sRegion ?_
    refine sMove (iv s84) S (wN rfl) (.inl rfl) rfl rfl (lb rfl) fun a S => ?_
    refine sBin (.bool (decide (s84 < 0))) S (wN rfl) rfl rfl rfl (bLt _ _ _ _ .i64 s84 0) rfl (lb rfl) fun a S => ?_
    refine sMove (.bool (decide (s84 < 0))) S (wN rfl) (.inl rfl) rfl rfl (lb rfl) fun a S => ?_
    rcases iteSome h with ⟨hc123, h⟩ | ⟨hc123, h⟩
    · refine sSkip 2 false 57 58 S rfl rfl rfl hc123 rfl (lb rfl) fun a S => ?_
      refine sSkip 2 false 57 59 S rfl rfl rfl hc123 rfl (lb rfl) fun a S => ?_
      refine sSkip 2 false 57 60 S rfl rfl rfl hc123 rfl (lb rfl) fun a S => ?_
      refine sPickT (.bool true) S (wN rfl) rfl rfl hc123 rfl rfl (lb rfl) fun a S => ?_
      exact leafL (leafT (⟨true, Option.some.inj h, S.fix [0, 1, 2, 3, 4] [3, 4, 5] (by decide) rfl rfl rfl⟩))
    refine sMove (iv r113) S (wG 2 false 57 rfl rfl rfl hc123) (.inl rfl) rfl rfl (lb rfl) fun a S => ?_
    refine sMove (iv s84) S (wG 2 false 57 rfl rfl rfl hc123) (.inl rfl) rfl rfl (lb rfl) fun a S => ?_
    refine sBin (.bool (decide (r113 < s84))) S (wG 2 false 57 rfl rfl rfl hc123) rfl rfl rfl (bLt _ _ _ _ .i64 r113 s84) rfl (lb rfl) fun a S => ?_
    refine sPickF (.bool (decide (r113 < s84))) S (wN rfl) rfl rfl hc123 rfl rfl (lb rfl) fun a S => ?_
    exact leafL (leafT (⟨decide (r113 < s84), Option.some.inj h, S.fix [0, 1, 2, 3, 4] [3, 4, 5] (by decide) rfl rfl rfl⟩))
  refine fI 53 (.agg #[iv p1.W, iv p1.H, .slice ad7 p1.Bits.length cp8]) [(4, .pointer (some ⟨b11, 0, none⟩))] 3 [none] rfl rfl rfl rfl rfl rfl fun G a w S => ?_
  refine sLoadN (p := b11) (off := 0) (T := 24) (vs := [iv p1.W, iv p1.H, .slice ad7 p1.Bits.length cp8]) 1 [iv p1.W, iv p1.H, .slice ad7 p1.Bits.length cp8] S (wN rfl) rfl rfl rfl rfl rfl rfl rfl (lb rfl) fun a S => ?_
  exact leafL ⟨rfl, S⟩

end Go.Proofs.Ytffikfajljbmnaa
namespace Go.Proofs.Ytffikfajljbmnaa
open Go.RowKit
set_option linter.unusedVariables false

def anc_raddleref01_Same_0 : List (List Nat) := [[], [0], [], [0, 1, 2], [0, 1, 2, 3], [], [5], [], [5, 6, 7], [5, 6, 7, 8], [0, 1, 2, 3, 4, 5, 6, 7, 8, 9]]
noncomputable def raddleref01_Same_l1 (p0 : api_Grid) (p1 : api_Grid) : Int → Option (Int ⊕ (Bool ⊕ Unit)) := fun s0 => match s0 with
  | s23 =>
    if decide (s23 < (p0.Bits.length : Int)) then
      Option.bind (idxO p0.Bits s23) fun x32 =>
      Option.bind (idxO p1.Bits s23) fun x37 =>
      if x32 != x37 then
        some (.inr (.inl false))
      else
        some (.inl (w64 (s23 + 1)))
    else
      some (.inr (.inr ()))
noncomputable def F_raddleref01_Same (p0 : api_Grid) (p1 : api_Grid) : Option Bool :=
  Option.bind (α := Bool) (
    if p0.W != p1.W then
      some true
    else
      if p0.H != p1.H then
        some true
      else
        some ((p0.Bits.length : Int) != (p1.Bits.length : Int))) fun o13 =>
  if o13 then
    some false
  else
    Option.bind (α := Unit ⊕ Bool) (
      Option.bind (whileO (raddleref01_Same_l1 p0 p1) 0) fun z0 => match z0 with
        | .inl z =>
          some (.inr z)
        | .inr _ =>
          some (.inl ())) fun z0 => match z0 with
      | .inl _ =>
        some true
      | .inr z =>
        some z
set_option maxHeartbeats 4000000 in
set_option maxRecDepth 100000 in
theorem c_raddleref01_Same (E : Nat → Prop) (w0 : World) (p0 : api_Grid) (v0 : Value) (p1 : api_Grid) (v1 : Value) (r : Bool) (h : F_raddleref01_Same p0 p1 = some r) (S : St0 E [] w0 w0 [] [fRep r_api_Grid (v0) p0, fRep r_api_Grid (v1) p1]) :
    Calls Try.prog 18 #[v0, v1] w0 (Ret (X := Unit) E [] w0 (fun _ => .bool r) (fun _ => []) (fun _ => [])) := by
  unfold F_raddleref01_Same at h
  obtain ⟨u1, rfl, hu2⟩ := S.know (i := 0) (e := fRep r_api_Grid (v0) p0) rfl
  have S := S.learn (fRep (rL rB) u1 p0.Bits) hu2
  obtain ⟨ad3, cp4, _, rfl, _⟩ := hu2
  obtain ⟨u5, rfl, hu6⟩ := S.know (i := 2) (e := fRep r_api_Grid (v1) p1) rfl
  have S := S.learn (fRep (rL rB) u5 p1.Bits) hu6
  obtain ⟨ad7, cp8, _, rfl, _⟩ := hu6
  refine sEnter (args := [.agg #[iv p0.W, iv p0.H, .slice ad3 p0.Bits.length cp4], .agg #[iv p1.W, iv p1.H, .slice ad7 p1.Bits.length cp8]]) 45 Try.func18 rfl rfl (by simp) S (fun a S => ?_)
  refine sSeq (fun K9 hK9 => ?_)
  refine sRegion ?_
  refine sBox (v := .agg #[iv p0.W, iv p0.H, .slice ad3 p0.Bits.length cp4]) S (wN rfl) rfl rfl [iv p0.W, iv p0.H, .slice ad3 p0.Bits.length cp4] rfl rfl (lb rfl) fun a b10 w S => ?_
  refine sBox (v := .agg #[iv p1.W, iv p1.H, .slice ad7 p1.Bits.length cp8]) S (wN rfl) rfl rfl [iv p1.W, iv p1.H, .slice ad7 p1.Bits.length cp8] rfl rfl (lb rfl) fun a b11 w S => ?_
  refine sMove (.bool false) S (wN rfl) (.inr rfl) rfl rfl (lb rfl) fun a S => ?_
  refine leafL (leafT (hK9 _ _ ?_))
  refine sSeq (fun K12 hK12 => ?_)
  obtain ⟨t14, h, g15⟩ := bindSome h
  refine sCut (fun a w => ∃ o13, o13 = t14 ∧ St [] E [] w0 45 a w [(2, .pointer (some ⟨b10, 0, none⟩)), (3, .pointer (some ⟨b11, 0, none⟩)), (26, .bool o13)] [eBox b10 24 [iv p0.W, iv p0.H, .slice ad3 p0.Bits.length cp4], eBox b11 24 [iv p1.W, iv p1.H, .slice ad7 p1.Bits.length cp8]] [fRep (rL rB) (.slice ad3 p0.Bits.length cp4) p0.Bits, fRep (rL rB) (.slice ad7 p1.Bits.length cp8) p1.Bits]) ?_ (fun a w hI => ?_)
  · refine sRegion ?_
    refine sField (b := b10) (off := 0) 0 0 S (wN rfl) rfl rfl rfl rfl rfl (lb rfl) fun a S => ?_
    refine sLoad1 (p := b10) (off := 0) (T := 24) (vs := [iv p0.W, iv p0.H, .slice ad3 p0.Bits.length cp4]) 1 (iv p0.W) S (wN rfl) rfl rfl rfl rfl rfl rfl (lb rfl) fun a S => ?_
    refine sField (b := b11) (off := 0) 0 0 S (wN rfl) rfl rfl rfl rfl rfl (lb rfl) fun a S => ?_
    refine sLoad1 (p := b11) (off := 0) (T := 24) (vs := [iv p1.W, iv p1.H, .slice ad7 p1.Bits.length cp8]) 0 (iv p1.W) S (wN rfl) rfl rfl rfl rfl rfl rfl (lb rfl) fun a S => ?_
    refine sBin (.bool (p0.W != p1.W)) S (wN rfl) rfl rfl rfl (bNe _ _ _ _ .i64 p0.W p1.W) rfl (lb rfl) fun a S => ?_
    refine sMove (.bool (p0.W != p1.W)) S (wN rfl) (.inl rfl) rfl rfl (lb rfl) fun a S => ?_
    rcases iteSome h with ⟨hc16, h⟩ | ⟨hc16, h⟩
    · refine sSkip 5 false 11 12 S rfl rfl rfl hc16 rfl (lb rfl) fun a S => ?_
      refine sSkip 5 false 11 13 S rfl rfl rfl hc16 rfl (lb rfl) fun a S => ?_
      refine sSkip 5 false 11 14 S rfl rfl rfl hc16 rfl (lb rfl) fun a S => ?_
      refine sSkip 5 false 11 15 S rfl rfl rfl hc16 rfl (lb rfl) fun a S => ?_
      refine sSkip 5 false 11 16 S rfl rfl rfl hc16 rfl (lb rfl) fun a S => ?_
      refine sPickT (.bool true) S (wN rfl) rfl rfl hc16 rfl rfl (lb rfl) fun a S => ?_
      refine sMove (.bool true) S (wN rfl) (.inl rfl) rfl rfl (lb rfl) fun a S => ?_
      refine sSkip 12 false 18 19 S rfl rfl rfl rfl rfl (lb rfl) fun a S => ?_
      refine sSkip 12 false 18 20 S rfl rfl rfl rfl rfl (lb rfl) fun a S => ?_
      refine sSkip 12 false 18 21 S rfl rfl rfl rfl rfl (lb rfl) fun a S => ?_
      refine sSkip 12 false 18 22 S rfl rfl rfl rfl rfl (lb rfl) fun a S => ?_
      refine sSkip 12 false 18 23 S rfl rfl rfl rfl rfl (lb rfl) fun a S => ?_
      refine sSkip 12 false 18 24 S rfl rfl rfl rfl rfl (lb rfl) fun a S => ?_
      refine sSkip 12 false 18 25 S rfl rfl rfl rfl rfl (lb rfl) fun a S => ?_
      refine sPickT (.bool true) S (wN rfl) rfl rfl rfl rfl rfl (lb rfl) fun a S => ?_
      exact leafL (leafT (⟨true, Option.some.inj h, S.fix [1, 0] [1, 0] (by decide) rfl rfl rfl⟩))
    refine sField (b := b10) (off := 0) 1 1 S (wG 5 false 11 rfl rfl rfl hc16) rfl rfl rfl rfl rfl (lb rfl) fun a S => ?_
    refine sLoad1 (p := b10) (off := 1) (T := 24) (vs := [iv p0.W, iv p0.H, .slice ad3 p0.Bits.length cp4]) 1 (iv p0.H) S (wG 5 false 11 rfl rfl rfl hc16) rfl rfl rfl rfl rfl rfl (lb rfl) fun a S => ?_
    refine sField (b := b11) (off := 0) 1 1 S (wG 5 false 11 rfl rfl rfl hc16) rfl rfl rfl rfl rfl (lb rfl) fun a S => ?_
    refine sLoad1 (p := b11) (off := 1) (T := 24) (vs := [iv p1.W, iv p1.H, .slice ad7 p1.Bits.length cp8]) 0 (iv p1.H) S (wG 5 false 11 rfl rfl rfl hc16) rfl rfl rfl rfl rfl rfl (lb rfl) fun a S => ?_
    refine sBin (.bool (p0.H != p1.H)) S (wG 5 false 11 rfl rfl rfl hc16) rfl rfl rfl (bNe _ _ _ _ .i64 p0.H p1.H) rfl (lb rfl) fun a S => ?_
    refine sPickF (.bool (p0.H != p1.H)) S (wN rfl) rfl rfl hc16 rfl rfl (lb rfl) fun a S => ?_
    refine sMove (.bool (p0.H != p1.H)) S (wN rfl) (.inl rfl) rfl rfl (lb rfl) fun a S => ?_
    rcases iteSome h with ⟨hc17, h⟩ | ⟨hc17, h⟩
    · refine sSkip 12 false 18 19 S rfl rfl rfl hc17 rfl (lb rfl) fun a S => ?_
      refine sSkip 12 false 18 20 S rfl rfl rfl hc17 rfl (lb rfl) fun a S => ?_
      refine sSkip 12 false 18 21 S rfl rfl rfl hc17 rfl (lb rfl) fun a S => ?_
      refine sSkip 12 false 18 22 S rfl rfl rfl hc17 rfl (lb rfl) fun a S => ?_
      refine sSkip 12 false 18 23 S rfl rfl rfl hc17 rfl (lb rfl) fun a S => ?_
      refine sSkip 12 false 18 24 S rfl rfl rfl hc17 rfl (lb rfl) fun a S => ?_
      refine sSkip 12 false 18 25 S rfl rfl rfl hc17 rfl (lb rfl) fun a S => ?_
      refine sPickT (.bool true) S (wN rfl) rfl rfl hc17 rfl rfl (lb rfl) fun a S => ?_
      exact leafL (leafT (⟨true, Option.some.inj h, S.fix [1, 0] [1, 0] (by decide) rfl rfl rfl⟩))
    refine sField (b := b10) (off := 0) 2 2 S (wG 12 false 18 rfl rfl rfl hc17) rfl rfl rfl rfl rfl (lb rfl) fun a S => ?_
    refine sLoad1 (p := b10) (off := 2) (T := 24) (vs := [iv p0.W, iv p0.H, .slice ad3 p0.Bits.length cp4]) 1 (.slice ad3 p0.Bits.length cp4) S (wG 12 false 18 rfl rfl rfl hc17) rfl rfl rfl rfl rfl rfl (lb rfl) fun a S => ?_
    refine sLen (ad := ad3) (m := p0.Bits.length) (c := cp4) S (wG 12 false 18 rfl rfl rfl hc17) rfl Try.underlying22 rfl rfl (lb rfl) fun a S => ?_
    refine sField (b := b11) (off := 0) 2 2 S (wG 12 false 18 rfl rfl rfl hc17) rfl rfl rfl rfl rfl (lb rfl) fun a S => ?_
    refine sLoad1 (p := b11) (off := 2) (T := 24) (vs := [iv p1.W, iv p1.H, .slice ad7 p1.Bits.length cp8]) 0 (.slice ad7 p1.Bits.length cp8) S (wG 12 false 18 rfl rfl rfl hc17) rfl rfl rfl rfl rfl rfl (lb rfl) fun a S => ?_
    refine sLen (ad := ad7) (m := p1.Bits.length) (c := cp8) S (wG 12 false 18 rfl rfl rfl hc17) rfl Try.underlying22 rfl rfl (lb rfl) fun a S => ?_
    refine sBin (.bool ((p0.Bits.length : Int) != (p1.Bits.length : Int))) S (wG 12 false 18 rfl rfl rfl hc17) rfl rfl rfl (bNe _ _ _ _ .i64 (p0.Bits.length : Int) (p1.Bits.length : Int)) rfl (lb rfl) fun a S => ?_
    refine sPickF (.bool ((p0.Bits.length : Int) != (p1.Bits.length : Int))) S (wN rfl) rfl rfl hc17 rfl rfl (lb rfl) fun a S => ?_
    exact leafL (leafT (⟨(p0.Bits.length : Int) != (p1.Bits.length : Int), Option.some.inj h, S.fix [1, 0] [1, 0] (by decide) rfl rfl rfl⟩))
  obtain ⟨o13, rfl, S⟩ := hI
  have h := g15
  clear g15
  try dsimp only at h
  rcases iteSome h with ⟨hc18, h⟩ | ⟨hc18, h⟩
  · refine sCondT S rfl hc18 ?_
    refine sSeq (fun K19 hK19 => ?_)
    refine sRegion ?_
    refine sMove (.bool false) S (wN rfl) (.inr rfl) rfl rfl (lb rfl) fun a S => ?_
    refine leafL (leafT (hK19 _ _ ?_))
    obtain rfl := Option.some.inj h
    exact wp_ret (rThen (sRet (.bool false) S (rsl1 rfl (rvT (t := 4) (v := .bool false) S rfl)) ⟨(), rfl, S.mem.sel [] [] (by decide) rfl rfl⟩))
  refine sCondF S rfl hc18 ?_
  refine wp_skip (leafT (hK12 _ _ ?_))
  obtain ⟨t20, h, g21⟩ := bindSome h
  refine sCut (fun a w => .inl () = t20 ∧ St [] E [] w0 45 a w [] [] []) ?_ (fun a w hI => ?_)
  rotate_left
  · obtain ⟨rfl, S⟩ := hI
    have h := g21
    clear g21
    try dsimp only at h
    refine sSeq (fun K50 hK50 => ?_)
    refine sRegion ?_
    refine sMove (.bool true) S (wN rfl) (.inr rfl) rfl rfl (lb rfl) fun a S => ?_
    refine leafL (leafT (hK50 _ _ ?_))
    obtain rfl := Option.some.inj h
    exact wp_ret (sRet (.bool true) S (rsl1 rfl (rvT (t := 4) (v := .bool true) S rfl)) ⟨(), rfl, S.mem.sel [] [] (by decide) rfl rfl⟩)
  refine sSeq (fun K22 hK22 => ?_)
  refine sRegion ?_
  refine sMove (iv 0) S (wN rfl) (.inr rfl) rfl rfl (lb rfl) fun a S => ?_
  refine leafL (leafT (hK22 _ _ ?_))
  refine wp_block ?_
  obtain ⟨t26, hl, g25⟩ := bindSome h
  refine sLoop hl (fun s0 a w => match s0 with | s23 => St [] E [] w0 45 a w [(2, .pointer (some ⟨b10, 0, none⟩)), (3, .pointer (some ⟨b11, 0, none⟩)), (5, iv s23)] [eBox b10 24 [iv p0.W, iv p0.H, .slice ad3 p0.Bits.length cp4], eBox b11 24 [iv p1.W, iv p1.H, .slice ad7 p1.Bits.length cp8]] [fRep (rL rB) (.slice ad3 p0.Bits.length cp4) p0.Bits, fRep (rL rB) (.slice ad7 p1.Bits.length cp8) p1.Bits]) (S.fix [0, 1] [0, 1] (by decide) rfl rfl rfl) ?_
  clear hl h
  intro s23 a w c0 hI h hu24
  unfold raddleref01_Same_l1 at h
  dsimp only at h hI
  have S := hI
  refine sSeq (fun K27 hK27 => ?_)
  refine sSeq (fun K28 hK28 => ?_)
  refine sRegion ?_
  refine sMove (iv s23) S (wN rfl) (.inl rfl) rfl rfl (lb rfl) fun a S => ?_
  refine sField (b := b10) (off := 0) 2 2 S (wN rfl) rfl rfl rfl rfl rfl (lb rfl) fun a S => ?_
  refine sLoad1 (p := b10) (off := 2) (T := 24) (vs := [iv p0.W, iv p0.H, .slice ad3 p0.Bits.length cp4]) 0 (.slice ad3 p0.Bits.length cp4) S (wN rfl) rfl rfl rfl rfl rfl rfl (lb rfl) fun a S => ?_
  refine sLen (ad := ad3) (m := p0.Bits.length) (c := cp4) S (wN rfl) rfl Try.underlying22 rfl rfl (lb rfl) fun a S => ?_
  refine sBin (.bool (decide (s23 < (p0.Bits.length : Int)))) S (wN rfl) rfl rfl rfl (bLt _ _ _ _ .i64 s23 (p0.Bits.length : Int)) rfl (lb rfl) fun a S => ?_
  refine leafL (leafT (hK28 _ _ ?_))
  rcases iteSome h with ⟨hc29, h⟩ | ⟨hc29, h⟩
  rotate_left
  · refine sCondF S rfl hc29 ?_
    obtain rfl := Option.some.inj h
    obtain rfl := hu24 _ rfl
    have h := g25
    clear g25
    try dsimp only at h
    exact wp_exit (xThen (xThen (xHit (leafT (⟨Option.some.inj h, S.fix [] [] (by decide) rfl rfl rfl⟩)))))
  refine sCondT S rfl hc29 ?_
  refine wp_skip (leafT (hK27 _ _ ?_))
  refine sSeq (fun K30 hK30 => ?_)
  refine wp_block ?_
  refine sSeq (fun K31 hK31 => ?_)
  obtain ⟨x32, hx33, h⟩ := bindSome h
  obtain ⟨x37, hx38, h⟩ := bindSome h
  obtain ⟨q42, hq43, S⟩ := pIdx (P := Try.prog) (r := rB) (v := .slice ad3 p0.Bits.length cp4) (xs := p0.Bits) (j := s23) 22 4 0 S Try.underlying22 rfl rfl hx33
  obtain ⟨u44, S⟩ := pLoad (r := rB) (q := q42) (x := x32) 0 S rfl
  obtain rfl : u44 = .bool x32 := S.mem.know (i := 1) (e := fRep rB (u44) x32) rfl
  obtain ⟨q45, hq46, S⟩ := pIdx (P := Try.prog) (r := rB) (v := .slice ad7 p1.Bits.length cp8) (xs := p1.Bits) (j := s23) 22 4 4 S Try.underlying22 rfl rfl hx38
  obtain ⟨u47, S⟩ := pLoad (r := rB) (q := q45) (x := x37) 0 S rfl
  obtain rfl : u47 = .bool x37 := S.mem.know (i := 1) (e := fRep rB (u47) x37) rfl
  refine sDraw (nf := []) (W := [(0, 34, .pointer (some ⟨b10, 2, none⟩)), (1, 35, .slice ad3 p0.Bits.length cp4), (2, 36, iv s23), (3, 37, q42), (4, 38, .bool x32), (5, 39, .pointer (some ⟨b11, 2, none⟩)), (6, 40, .slice ad7 p1.Bits.length cp8), (7, 41, iv s23), (8, 42, q45), (9, 43, .bool x37), (10, 44, .bool (x32 != x37))]) rfl S ?_
  refine node_by (A := anc_raddleref01_Same_0) (nf := []) (Y := []) (W := [(0, 34, .pointer (some ⟨b10, 2, none⟩)), (1, 35, .slice ad3 p0.Bits.length cp4), (2, 36, iv s23), (3, 37, q42), (4, 38, .bool x32), (5, 39, .pointer (some ⟨b11, 2, none⟩)), (6, 40, .slice ad7 p1.Bits.length cp8), (7, 41, iv s23), (8, 42, q45), (9, 43, .bool x37), (10, 44, .bool (x32 != x37))]) 11 (by kernel_rfl) (by kernel_rfl) (by kernel_rfl) (by kernel_rfl) (by kernel_rfl) [0, 1, 2, 3, 4, 5, 6, 7, 8, 9, 10] (by kernel_rfl) (by decide) (by decide) (aF 0 10 (by decide) ?_ (aF 1 9 (by decide) ?_ (aF 2 8 (by decide) ?_ (aF 3 7 (by decide) ?_ (aF 4 6 (by decide) ?_ (aF 5 5 (by decide) ?_ (aF 6 4 (by decide) ?_ (aF 7 3 (by decide) ?_ (aF 8 2 (by decide) ?_ (aF 9 1 (by decide) ?_ (aF 10 0 (by decide) ?_ (trivial)))))))))))) [(2, .pointer (some ⟨b10, 0, none⟩)), (3, .pointer (some ⟨b11, 0, none⟩)), (5, iv s23), (44, .bool (x32 != x37))] (fin_of [none, none, none, some 10] rfl (by kernel_rfl) (by kernel_rfl)) (fun _ a w S => ?_)
  · refine fI 34 (.pointer (some ⟨b10, 2, none⟩)) [(2, .pointer (some ⟨b10, 0, none⟩))] 0 [none] rfl rfl rfl rfl rfl rfl fun G a w S => ?_
    refine sField (b := b10) (off := 0) 2 2 S (wN rfl) rfl rfl rfl rfl rfl (lb rfl) fun a S => ?_
    exact leafL ⟨rfl, S⟩
  · refine fI 35 (.slice ad3 p0.Bits.length cp4) [(34, .pointer (some ⟨b10, 2, none⟩))] 1 [some 0] rfl rfl rfl rfl rfl rfl fun G a w S => ?_
    refine sLoad1 (p := b10) (off := 2) (T := 24) (vs := [iv p0.W, iv p0.H, .slice ad3 p0.Bits.length cp4]) 0 (.slice ad3 p0.Bits.length cp4) S (wN rfl) rfl rfl rfl rfl rfl rfl (lb rfl) fun a S => ?_
    exact leafL ⟨rfl, S⟩
  · refine fI 36 (iv s23) [(5, iv s23)] 2 [none] rfl rfl rfl rfl rfl rfl fun G a w S => ?_
    refine sMove (iv s23) S (wN rfl) (.inl rfl) rfl rfl (lb rfl) fun a S => ?_
    exact leafL ⟨rfl, S⟩
  · refine fI 37 q42 [(35, .slice ad3 p0.Bits.length cp4), (36, iv s23)] 3 [some 1, some 2] rfl rfl rfl rfl rfl rfl fun G a w S => ?_
    refine sIdxV (v := .slice ad3 p0.Bits.length cp4) (k := .i64) (j := s23) S (wN rfl) rfl rfl rfl hq43 rfl (lb rfl) fun a S => ?_
    exact leafL ⟨rfl, S⟩
  · refine fI 38 (.bool x32) [(37, q42)] 4 [some 3] rfl rfl rfl rfl rfl rfl fun G a w S => ?_
    refine sLoadV1 (vq := q42) 3 (.bool x32) S (wN rfl) rfl rfl rfl rfl rfl (lb rfl) fun a S => ?_
    exact leafL ⟨rfl, S⟩
  · refine fI 39 (.pointer (some ⟨b11, 2, none⟩)) [(3, .pointer (some ⟨b11, 0, none⟩))] 5 [none] rfl rfl rfl rfl rfl rfl fun G a w S => ?_
    refine sField (b := b11) (off := 0) 2 2 S (wN rfl) rfl rfl rfl rfl rfl (lb rfl) fun a S => ?_
    exact leafL ⟨rfl, S⟩
  · refine fI 40 (.slice ad7 p1.Bits.length cp8) [(39, .pointer (some ⟨b11, 2, none⟩))] 6 [some 5] rfl rfl rfl rfl rfl rfl fun G a w S => ?_
    refine sLoad1 (p := b11) (off := 2) (T := 24) (vs := [iv p1.W, iv p1.H, .slice ad7 p1.Bits.length cp8]) 1 (.slice ad7 p1.Bits.length cp8) S (wN rfl) rfl rfl rfl rfl rfl rfl (lb rfl) fun a S => ?_
    exact leafL ⟨rfl, S⟩
  · refine fI 41 (iv s23) [(5, iv s23)] 7 [none] rfl rfl rfl rfl rfl rfl fun G a w S => ?_
    refine sMove (iv s23) S (wN rfl) (.inl rfl) rfl rfl (lb rfl) fun a S => ?_
    exact leafL ⟨rfl, S⟩
  · refine fI 42 q45 [(40, .slice ad7 p1.Bits.length cp8), (41, iv s23)] 8 [some 6, some 7] rfl rfl rfl rfl rfl rfl fun G a w S => ?_
    refine sIdxV (v := .slice ad7 p1.Bits.length cp8) (k := .i64) (j := s23) S (wN rfl) rfl rfl rfl hq46 rfl (lb rfl) fun a S => ?_
    exact leafL ⟨rfl, S⟩
  · refine fI 43 (.bool x37) [(42, q45)] 9 [some 8] rfl rfl rfl rfl rfl rfl fun G a w S => ?_
    refine sLoadV1 (vq := q45) 0 (.bool x37) S (wN rfl) rfl rfl rfl rfl rfl (lb rfl) fun a S => ?_
    exact leafL ⟨rfl, S⟩
  · refine fI 44 (.bool (x32 != x37)) [(38, .bool x32), (43, .bool x37)] 10 [some 4, some 9] rfl rfl rfl rfl rfl rfl fun G a w S => ?_
    refine sBin (.bool (x32 != x37)) S (wN rfl) rfl rfl rfl (bNeB _ _ _ _ Try.underlying4 x32 x37) rfl (lb rfl) fun a S => ?_
    exact leafL ⟨rfl, S⟩
  refine leafT (hK31 _ _ ?_)
  rcases iteSome h with ⟨hc48, h⟩ | ⟨hc48, h⟩
  rotate_left
  · refine sCondF S rfl hc48 ?_
    refine wp_skip (leafB (leafT (hK30 _ _ ?_)))
    refine sRegion ?_
    refine sMove (iv s23) S (wN rfl) (.inl rfl) rfl rfl (lb rfl) fun a S => ?_
    refine sBin (iv (w64 (s23 + 1))) S (wN rfl) rfl rfl rfl (bAdd _ _ _ _ s23 1) rfl (lb rfl) fun a S => ?_
    refine sMove (iv (w64 (s23 + 1))) S (wN rfl) (.inr rfl) rfl rfl (lb rfl) fun a S => ?_
    exact leafL (leafT (⟨w64 (s23 + 1), (Option.some.inj h).symm, (S.fix [0, 1] [6, 7] (by decide) rfl rfl rfl)⟩))
  refine sCondT S rfl hc48 ?_
  refine sSeq (fun K49 hK49 => ?_)
  refine sRegion ?_
  refine sMove (.bool false) S (wN rfl) (.inr rfl) rfl rfl (lb rfl) fun a S => ?_
  refine leafL (leafT (hK49 _ _ ?_))
  obtain rfl := Option.some.inj h
  obtain rfl := hu24 _ rfl
  have h := g25
  clear g25
  try dsimp only at h
  obtain rfl := Option.some.inj h
  have h := g21
  clear g21
  try dsimp only at h
  obtain rfl := Option.some.inj h
  exact wp_ret (rBlock (rThen (rThen (rBlock (rThen (sRet (.bool false) S (rsl1 rfl (rvT (t := 4) (v := .bool false) S rfl)) ⟨(), rfl, S.mem.sel [] [] (by decide) rfl rfl⟩))))))

end Go.Proofs.Ytffikfajljbmnaa
namespace Go.Proofs.Ytffikfajljbmnaa
open Go.RowKit
set_option linter.unusedVariables false

def anc_raddlelaw46_CompareGrids_0 : List (List Nat) := [[], [0], [], [0, 1, 2], [], [], [0, 1, 2, 3, 4, 5], [0, 1, 2, 3, 4, 5, 6]]
noncomputable def F_raddlelaw46_CompareGrids (p0 : api_Grid) (p1 : api_Grid) (p2 : Int) : Option Bool :=
  Option.bind (α := Bool) (
    Option.bind (F_raddleref46_GreatGrid p0) fun r16 =>
    if r16 then
      some true
    else
      Option.bind (F_raddleref46_GreatGrid p1) fun r19 =>
      some r19) fun o13 =>
  if o13 then
    some true
  else
    Option.bind (F_raddleref01_Twin p0) fun r24 =>
    Option.bind (F_raddleref01_Twin p1) fun r31 =>
    Option.bind (F_compare_Cells p0 p1) fun r53 =>
    Option.bind (F_raddleref46_Cells p0 p1) fun r56 =>
    Option.bind (F_compare_Nearest p0 p1 p2) fun r59 =>
    Option.bind (F_raddleref46_Nearest p0 p1 p2) fun r64 =>
    Option.bind (α := Bool) (
      if r53.1 == r56.1 then
        if r53.2 == r56.2 then
          if r59.1 == r64.1 then
            if r59.2.1 == r64.2.1 then
              if ((r59.2.2.1.X == r64.2.2.1.X) && ((r59.2.2.1.Y == r64.2.2.1.Y) && true)) then
                if r59.2.2.2 == r64.2.2.2 then
                  Option.bind (F_raddleref01_Same p0 r24) fun r77 =>
                  if r77 then
                    Option.bind (F_raddleref01_Same p1 r31) fun r80 =>
                    some r80
                  else
                    some false
                else
                  some false
              else
                some false
            else
              some false
          else
            some false
        else
          some false
      else
        some false) fun o68 =>
    some o68
set_option maxHeartbeats 4000000 in
set_option maxRecDepth 100000 in
theorem c_raddlelaw46_CompareGrids (E : Nat → Prop) (w0 : World) (p0 : api_Grid) (v0 : Value) (p1 : api_Grid) (v1 : Value) (p2 : Int) (r : Bool) (h : F_raddlelaw46_CompareGrids p0 p1 p2 = some r) (S : St0 E [] w0 w0 [] [fRep r_api_Grid (v0) p0, fRep r_api_Grid (v1) p1]) :
    Calls Try.prog 3 #[v0, v1, iv p2] w0 (Ret (X := Unit) E [] w0 (fun _ => .bool r) (fun _ => []) (fun _ => [])) := by
  unfold F_raddlelaw46_CompareGrids at h
  obtain ⟨u1, rfl, hu2⟩ := S.know (i := 0) (e := fRep r_api_Grid (v0) p0) rfl
  have S := S.learn (fRep (rL rB) u1 p0.Bits) hu2
  obtain ⟨ad3, cp4, _, rfl, _⟩ := hu2
  obtain ⟨u5, rfl, hu6⟩ := S.know (i := 2) (e := fRep r_api_Grid (v1) p1) rfl
  have S := S.learn (fRep (rL rB) u5 p1.Bits) hu6
  obtain ⟨ad7, cp8, _, rfl, _⟩ := hu6
  refine sEnter (args := [.agg #[iv p0.W, iv p0.H, .slice ad3 p0.Bits.length cp4], .agg #[iv p1.W, iv p1.H, .slice ad7 p1.Bits.length cp8], iv p2]) 99 Try.func3 rfl rfl (by simp) S (fun a S => ?_)
  refine sSeq (fun K9 hK9 => ?_)
  refine sRegion ?_
  refine sBox (v := .agg #[iv p0.W, iv p0.H, .slice ad3 p0.Bits.length cp4]) S (wN rfl) rfl rfl [iv p0.W, iv p0.H, .slice ad3 p0.Bits.length cp4] rfl rfl (lb rfl) fun a b10 w S => ?_
  refine sBox (v := .agg #[iv p1.W, iv p1.H, .slice ad7 p1.Bits.length cp8]) S (wN rfl) rfl rfl [iv p1.W, iv p1.H, .slice ad7 p1.Bits.length cp8] rfl rfl (lb rfl) fun a b11 w S => ?_
  refine sMove (.bool false) S (wN rfl) (.inr rfl) rfl rfl (lb rfl) fun a S => ?_
  refine leafL (leafT (hK9 _ _ ?_))
  refine sSeq (fun K12 hK12 => ?_)
  obtain ⟨t14, h, g15⟩ := bindSome h
  refine sCut (fun a w => ∃ o13, o13 = t14 ∧ St [] E [] w0 99 a w [(2, iv p2), (3, .pointer (some ⟨b10, 0, none⟩)), (4, .pointer (some ⟨b11, 0, none⟩)), (26, .bool o13)] [eBox b10 24 [iv p0.W, iv p0.H, .slice ad3 p0.Bits.length cp4], eBox b11 24 [iv p1.W, iv p1.H, .slice ad7 p1.Bits.length cp8]] [fRep (rL rB) (.slice ad3 p0.Bits.length cp4) p0.Bits, fRep (rL rB) (.slice ad7 p1.Bits.length cp8) p1.Bits]) ?_ (fun a w hI => ?_)
  · refine sRegion ?_
    refine sLoadN (p := b10) (off := 0) (T := 24) (vs := [iv p0.W, iv p0.H, .slice ad3 p0.Bits.length cp4]) 1 [iv p0.W, iv p0.H, .slice ad3 p0.Bits.length cp4] S (wN rfl) rfl rfl rfl rfl rfl rfl rfl (lb rfl) fun a S => ?_
    obtain ⟨r16, hx17, h⟩ := bindSome h
    have S1 := S.mem
    refine sCallQ (X := Unit) (f := 12) (vs := [.agg #[iv p0.W, iv p0.H, .slice ad3 p0.Bits.length cp4]]) (val := fun _ => .bool r16) S (wN rfl) rfl callee12 rfl (S1.quiet [2] rfl) (fun E1 w1 S1 => c_raddleref46_GreatGrid E1 w1 p0 (.agg #[iv p0.W, iv p0.H, .slice ad3 p0.Bits.length cp4]) r16 hx17 S1) rfl (lb rfl) fun _ a w S => ?_
    refine sMove (.bool r16) S (wN rfl) (.inl rfl) rfl rfl (lb rfl) fun a S => ?_
    rcases iteSome h with ⟨hc18, h⟩ | ⟨hc18, h⟩
    · refine sSkip 2 false 23 24 S rfl rfl rfl hc18 rfl (lb rfl) fun a S => ?_
      refine sSkip 2 false 23 25 S rfl rfl rfl hc18 rfl (lb rfl) fun a S => ?_
      refine sPickT (.bool true) S (wN rfl) rfl rfl hc18 rfl rfl (lb rfl) fun a S => ?_
      exact leafL (leafT (⟨true, Option.some.inj h, S.fix [1, 0] [1, 0] (by decide) rfl rfl rfl⟩))
    refine sLoadN (p := b11) (off := 0) (T := 24) (vs := [iv p1.W, iv p1.H, .slice ad7 p1.Bits.length cp8]) 0 [iv p1.W, iv p1.H, .slice ad7 p1.Bits.length cp8] S (wG 2 false 23 rfl rfl rfl hc18) rfl rfl rfl rfl rfl rfl rfl (lb rfl) fun a S => ?_
    obtain ⟨r19, hx20, h⟩ := bindSome h
    have S1 := S.mem
    refine sCallQ (X := Unit) (f := 12) (vs := [.agg #[iv p1.W, iv p1.H, .slice ad7 p1.Bits.length cp8]]) (val := fun _ => .bool r19) S (wG 2 false 23 rfl rfl rfl hc18) rfl callee12 rfl (S1.quiet [3] rfl) (fun E1 w1 S1 => c_raddleref46_GreatGrid E1 w1 p1 (.agg #[iv p1.W, iv p1.H, .slice ad7 p1.Bits.length cp8]) r19 hx20 S1) rfl (lb rfl) fun _ a w S => ?_
    refine sPickF (.bool r19) S (wN rfl) rfl rfl hc18 rfl rfl (lb rfl) fun a S => ?_
    exact leafL (leafT (⟨r19, Option.some.inj h, S.fix [1, 0] [1, 0] (by decide) rfl rfl rfl⟩))
  obtain ⟨o13, rfl, S⟩ := hI
  have h := g15
  clear g15
  try dsimp only at h
  rcases iteSome h with ⟨hc21, h⟩ | ⟨hc21, h⟩
  · refine sCondT S rfl hc21 ?_
    refine sSeq (fun K22 hK22 => ?_)
    refine sRegion ?_
    refine sMove (.bool true) S (wN rfl) (.inr rfl) rfl rfl (lb rfl) fun a S => ?_
    refine leafL (leafT (hK22 _ _ ?_))
    obtain rfl := Option.some.inj h
    exact wp_ret (rThen (sRet (.bool true) S (rsl1 rfl (rvT (t := 6) (v := .bool true) S rfl)) ⟨(), rfl, S.mem.sel [] [] (by decide) rfl rfl⟩))
  refine sCondF S rfl hc21 ?_
  refine wp_skip (leafT (hK12 _ _ ?_))
  refine sSeq (fun K23 hK23 => ?_)
  obtain ⟨r24, hx25, h⟩ := bindSome h
  obtain ⟨r31, hx32, h⟩ := bindSome h
  refine sDraw (nf := [1, 3, 4, 5, 6, 7]) (W := [(0, 27, .agg #[iv p0.W, iv p0.H, .slice ad3 p0.Bits.length cp4]), (2, 29, .agg #[iv p1.W, iv p1.H, .slice ad7 p1.Bits.length cp8])]) rfl S ?_
  refine nodeCut (fun N W L D => ∀ b51 b50 ad48 cp49 ad43 cp44, N [5, 4, 3, 1] ((5, 8, .pointer (some ⟨b51, 0, none⟩)) :: (4, 7, .pointer (some ⟨b50, 0, none⟩)) :: (3, 30, .agg #[iv r31.W, iv r31.H, .slice ad48 r31.Bits.length cp49]) :: (1, 28, .agg #[iv r24.W, iv r24.H, .slice ad43 r24.Bits.length cp44]) :: W) ((eBox b51 24 [iv 0, iv 0, .slice none 0 0]) :: (eBox b50 24 [iv 0, iv 0, .slice none 0 0]) :: L) ((fRep (rL rB) (.slice ad48 r31.Bits.length cp49) r31.Bits) :: (fRep r_api_Grid (.agg #[iv r31.W, iv r31.H, .slice ad48 r31.Bits.length cp49]) r31) :: (fRep r_api_Grid (.agg #[iv p1.W, iv p1.H, .slice ad7 p1.Bits.length cp8]) p1) :: (fRep (rL rB) (.slice ad43 r24.Bits.length cp44) r24.Bits) :: (fRep r_api_Grid (.agg #[iv r24.W, iv r24.H, .slice ad43 r24.Bits.length cp44]) r24) :: (fRep r_api_Grid (.agg #[iv p0.W, iv p0.H, .slice ad3 p0.Bits.length cp4]) p0) :: D)) (fun b51 b50 ad48 cp49 ad43 cp44 => ?_) fun nd2 => ?_
  · refine node_by (A := anc_raddlelaw46_CompareGrids_0) (nf := [1, 3, 4, 5, 6, 7]) (Y := [5, 4, 3, 1]) 8 (by kernel_rfl) (by kernel_rfl) (by kernel_rfl) (by kernel_rfl) (by kernel_rfl) [5, 4, 3, 1, 0, 2] (by kernel_rfl) (by decide) (by decide) (aD 0 7 3 (by decide) (aY 1 6 (by decide) (aD 2 5 3 (by decide) (aY 3 4 (by decide) (aY 4 3 (by decide) (aY 5 2 (by decide) (aN 6 1 (by decide) ?_ (aB 7 0 6 (by decide) (trivial))))))))) [] (fun q hq => by cases hq) (fun hY => absurd (hY 6 (by decide)) (by decide))
    refine ⟨_, [(7, .pointer (some ⟨b50, 0, none⟩)), (28, .agg #[iv r24.W, iv r24.H, .slice ad43 r24.Bits.length cp44])], rfl, (srcs_of [some 1, some 3] rfl rfl rfl), fun G a w S => ?_⟩
    refine sStore (p := b50) (off := 0) (T := 24) (vs := [iv 0, iv 0, .slice none 0 0]) (v := .agg #[iv r24.W, iv r24.H, .slice ad43 r24.Bits.length cp44]) 1 [iv r24.W, iv r24.H, .slice ad43 r24.Bits.length cp44] S (wN rfl) rfl rfl rfl rfl rfl rfl rfl (by simp) rfl fun a w S => ?_
    refine leafL ⟨rfl, _, _, .inr ⟨[], rfl, S, hz_of rfl, ?_⟩⟩
    refine node_by (A := anc_raddlelaw46_CompareGrids_0) (nf := [1, 3, 4, 5, 6, 7]) (Y := [6, 5, 4, 3, 1]) 8 (by kernel_rfl) (by kernel_rfl) (by kernel_rfl) (by kernel_rfl) (by kernel_rfl) [5, 4, 3, 1, 0, 2] (by kernel_rfl) (by decide) (by decide) (aD 0 7 6 (by decide) (aY 1 6 (by decide) (aD 2 5 6 (by decide) (aY 3 4 (by decide) (aY 4 3 (by decide) (aY 5 2 (by decide) (aY 6 1 (by decide) (aN 7 0 (by decide) ?_ (trivial))))))))) [] (fun q hq => by cases hq) (fun hY => absurd (hY 7 (by decide)) (by decide))
    refine ⟨_, [(8, .pointer (some ⟨b51, 0, none⟩)), (30, .agg #[iv r31.W, iv r31.H, .slice ad48 r31.Bits.length cp49])], rfl, (srcs_of [some 0, some 2] rfl rfl rfl), fun G a w S => ?_⟩
    refine sStore (p := b51) (off := 0) (T := 24) (vs := [iv 0, iv 0, .slice none 0 0]) (v := .agg #[iv r31.W, iv r31.H, .slice ad48 r31.Bits.length cp49]) 1 [iv r31.W, iv r31.H, .slice ad48 r31.Bits.length cp49] S (wN rfl) rfl rfl rfl rfl rfl rfl rfl (by simp) rfl fun a w S => ?_
    refine leafL ⟨rfl, _, _, .inr ⟨[], rfl, S, hz_of rfl, ?_⟩⟩
    refine node_by (A := anc_raddlelaw46_CompareGrids_0) (nf := [1, 3, 4, 5, 6, 7]) (Y := [7, 6, 5, 4, 3, 1]) 8 (by kernel_rfl) (by kernel_rfl) (by kernel_rfl) (by kernel_rfl) (by kernel_rfl) [5, 4, 3, 1, 0, 2] (by kernel_rfl) (by decide) (by decide) (aD 0 7 7 (by decide) (aY 1 6 (by decide) (aD 2 5 7 (by decide) (aY 3 4 (by decide) (aY 4 3 (by decide) (aY 5 2 (by decide) (aY 6 1 (by decide) (aY 7 0 (by decide) (trivial))))))))) [(2, iv p2), (3, .pointer (some ⟨b10, 0, none⟩)), (4, .pointer (some ⟨b11, 0, none⟩)), (7, .pointer (some ⟨b50, 0, none⟩)), (8, .pointer (some ⟨b51, 0, none⟩))] (fin_of [none, none, none, some 1, some 0] rfl (by kernel_rfl) (by kernel_rfl)) (fun _ a w S => ?_)
    refine leafT (hK23 _ _ ?_)
    refine sSeq (fun K52 hK52 => ?_)
    refine sRegion ?_
    refine sLoadN (p := b10) (off := 0) (T := 24) (vs := [iv p0.W, iv p0.H, .slice ad3 p0.Bits.length cp4]) 2 [iv p0.W, iv p0.H, .slice ad3 p0.Bits.length cp4] S (wN rfl) rfl rfl rfl rfl rfl rfl rfl (lb rfl) fun a S => ?_
    refine sLoadN (p := b11) (off := 0) (T := 24) (vs := [iv p1.W, iv p1.H, .slice ad7 p1.Bits.length cp8]) 3 [iv p1.W, iv p1.H, .slice ad7 p1.Bits.length cp8] S (wN rfl) rfl rfl rfl rfl rfl rfl rfl (lb rfl) fun a S => ?_
    obtain ⟨r53, hx54, h⟩ := bindSome h
    have S1 := S.mem
    refine sCallQ (X := Unit) (f := 14) (vs := [.agg #[iv p0.W, iv p0.H, .slice ad3 p0.Bits.length cp4], .agg #[iv p1.W, iv p1.H, .slice ad7 p1.Bits.length cp8]]) (val := fun _ => .tuple #[iv r53.1, iv r53.2]) S (wN rfl) rfl callee14 rfl (S1.quiet [5, 2] rfl) (fun E1 w1 S1 => c_compare_Cells E1 w1 p0 (.agg #[iv p0.W, iv p0.H, .slice ad3 p0.Bits.length cp4]) p1 (.agg #[iv p1.W, iv p1.H, .slice ad7 p1.Bits.length cp8]) r53 hx54 S1) rfl (lb rfl) fun _ a w S => ?_
    refine sMove (.tuple #[iv r53.1, iv r53.2]) S (wN rfl) (.inl rfl) rfl rfl (lb rfl) fun a S => ?_
    refine sExtract (vs := [iv r53.1, iv r53.2]) (iv r53.1) S (wN rfl) rfl rfl rfl rfl (lb rfl) fun a S => ?_
    refine sExtract (vs := [iv r53.1, iv r53.2]) (iv r53.2) S (wN rfl) rfl rfl rfl rfl (lb rfl) fun a S => ?_
    refine sMove (iv r53.1) S (wN rfl) (.inr rfl) rfl rfl (lb rfl) fun a S => ?_
    refine sMove (iv r53.2) S (wN rfl) (.inr rfl) rfl rfl (lb rfl) fun a S => ?_
    refine leafL (leafT (hK52 _ _ ?_))
    refine sSeq (fun K55 hK55 => ?_)
    refine sRegion ?_
    refine sLoadN (p := b10) (off := 0) (T := 24) (vs := [iv p0.W, iv p0.H, .slice ad3 p0.Bits.length cp4]) 2 [iv p0.W, iv p0.H, .slice ad3 p0.Bits.length cp4] S (wN rfl) rfl rfl rfl rfl rfl rfl rfl (lb rfl) fun a S => ?_
    refine sLoadN (p := b11) (off := 0) (T := 24) (vs := [iv p1.W, iv p1.H, .slice ad7 p1.Bits.length cp8]) 3 [iv p1.W, iv p1.H, .slice ad7 p1.Bits.length cp8] S (wN rfl) rfl rfl rfl rfl rfl rfl rfl (lb rfl) fun a S => ?_
    obtain ⟨r56, hx57, h⟩ := bindSome h
    have S1 := S.mem
    refine sCallQ (X := Unit) (f := 15) (vs := [.agg #[iv p0.W, iv p0.H, .slice ad3 p0.Bits.length cp4], .agg #[iv p1.W, iv p1.H, .slice ad7 p1.Bits.length cp8]]) (val := fun _ => .tuple #[iv r56.1, iv r56.2]) S (wN rfl) rfl callee15 rfl (S1.quiet [5, 2] rfl) (fun E1 w1 S1 => c_raddleref46_Cells E1 w1 p0 (.agg #[iv p0.W, iv p0.H, .slice ad3 p0.Bits.length cp4]) p1 (.agg #[iv p1.W, iv p1.H, .slice ad7 p1.Bits.length cp8]) r56 hx57 S1) rfl (lb rfl) fun _ a w S => ?_
    refine sMove (.tuple #[iv r56.1, iv r56.2]) S (wN rfl) (.inl rfl) rfl rfl (lb rfl) fun a S => ?_
    refine sExtract (vs := [iv r56.1, iv r56.2]) (iv r56.1) S (wN rfl) rfl rfl rfl rfl (lb rfl) fun a S => ?_
    refine sExtract (vs := [iv r56.1, iv r56.2]) (iv r56.2) S (wN rfl) rfl rfl rfl rfl (lb rfl) fun a S => ?_
    refine sMove (iv r56.1) S (wN rfl) (.inr rfl) rfl rfl (lb rfl) fun a S => ?_
    refine sMove (iv r56.2) S (wN rfl) (.inr rfl) rfl rfl (lb rfl) fun a S => ?_
    refine leafL (leafT (hK55 _ _ ?_))
    refine sSeq (fun K58 hK58 => ?_)
    refine sRegion ?_
    refine sLoadN (p := b10) (off := 0) (T := 24) (vs := [iv p0.W, iv p0.H, .slice ad3 p0.Bits.length cp4]) 2 [iv p0.W, iv p0.H, .slice ad3 p0.Bits.length cp4] S (wN rfl) rfl rfl rfl rfl rfl rfl rfl (lb rfl) fun a S => ?_
    refine sLoadN (p := b11) (off := 0) (T := 24) (vs := [iv p1.W, iv p1.H, .slice ad7 p1.Bits.length cp8]) 3 [iv p1.W, iv p1.H, .slice ad7 p1.Bits.length cp8] S (wN rfl) rfl rfl rfl rfl rfl rfl rfl (lb rfl) fun a S => ?_
    refine sMove (iv p2) S (wN rfl) (.inl rfl) rfl rfl (lb rfl) fun a S => ?_
    obtain ⟨r59, hx60, h⟩ := bindSome h
    refine sCall (X := Value) (f := 16) (vs := [.agg #[iv p0.W, iv p0.H, .slice ad3 p0.Bits.length cp4], .agg #[iv p1.W, iv p1.H, .slice ad7 p1.Bits.length cp8], iv p2]) (val := c_compare_Nearest_val r59) (B' := fun _ => []) (D' := c_compare_Nearest_D r59) [] [eBox b51 24 [iv r31.W, iv r31.H, .slice ad48 r31.Bits.length cp49], eBox b50 24 [iv r24.W, iv r24.H, .slice ad43 r24.Bits.length cp44], eBox b10 24 [iv p0.W, iv p0.H, .slice ad3 p0.Bits.length cp4], eBox b11 24 [iv p1.W, iv p1.H, .slice ad7 p1.Bits.length cp8]] [fRep r_api_Grid (.agg #[iv p0.W, iv p0.H, .slice ad3 p0.Bits.length cp4]) p0, fRep r_api_Grid (.agg #[iv p1.W, iv p1.H, .slice ad7 p1.Bits.length cp8]) p1] [0, 1, 2, 3] [5, 2] S (wN rfl) rfl callee16 rfl (by decide) rfl rfl (fun E1 w1 S1 => c_compare_Nearest E1 w1 p0 (.agg #[iv p0.W, iv p0.H, .slice ad3 p0.Bits.length cp4]) p1 (.agg #[iv p1.W, iv p1.H, .slice ad7 p1.Bits.length cp8]) p2 r59 hx60 S1) rfl (lb rfl) fun u61 a w S => ?_
    obtain rfl : u61 = .agg #[iv r59.2.2.1.X, iv r59.2.2.1.Y] := S.mem.know (i := 0) (e := fRep r_api_Point (u61) r59.2.2.1) rfl
    refine sMove (.tuple #[iv r59.1, iv r59.2.1, .agg #[iv r59.2.2.1.X, iv r59.2.2.1.Y], iv r59.2.2.2]) S (wN rfl) (.inl rfl) rfl rfl (lb rfl) fun a S => ?_
    refine sExtract (vs := [iv r59.1, iv r59.2.1, .agg #[iv r59.2.2.1.X, iv r59.2.2.1.Y], iv r59.2.2.2]) (iv r59.1) S (wN rfl) rfl rfl rfl rfl (lb rfl) fun a S => ?_
    refine sExtract (vs := [iv r59.1, iv r59.2.1, .agg #[iv r59.2.2.1.X, iv r59.2.2.1.Y], iv r59.2.2.2]) (iv r59.2.1) S (wN rfl) rfl rfl rfl rfl (lb rfl) fun a S => ?_
    refine sExtract (vs := [iv r59.1, iv r59.2.1, .agg #[iv r59.2.2.1.X, iv r59.2.2.1.Y], iv r59.2.2.2]) (.agg #[iv r59.2.2.1.X, iv r59.2.2.1.Y]) S (wN rfl) rfl rfl rfl rfl (lb rfl) fun a S => ?_
    refine sExtract (vs := [iv r59.1, iv r59.2.1, .agg #[iv r59.2.2.1.X, iv r59.2.2.1.Y], iv r59.2.2.2]) (iv r59.2.2.2) S (wN rfl) rfl rfl rfl rfl (lb rfl) fun a S => ?_
    refine sAlloc (.agg #[iv 0, iv 0]) S (wN rfl) rfl rfl [iv 0, iv 0] rfl rfl (lb rfl) fun a b62 w S => ?_
    refine sMove (iv r59.1) S (wN rfl) (.inr rfl) rfl rfl (lb rfl) fun a S => ?_
    refine sMove (iv r59.2.1) S (wN rfl) (.inr rfl) rfl rfl (lb rfl) fun a S => ?_
    refine sStore (p := b62) (off := 0) (T := 33) (vs := [iv 0, iv 0]) (v := .agg #[iv r59.2.2.1.X, iv r59.2.2.1.Y]) 0 [iv r59.2.2.1.X, iv r59.2.2.1.Y] S (wN rfl) rfl rfl rfl rfl rfl rfl rfl (by simp) rfl fun a w S => ?_
    refine sMove (iv r59.2.2.2) S (wN rfl) (.inr rfl) rfl rfl (lb rfl) fun a S => ?_
    refine leafL (leafT (hK58 _ _ ?_))
    refine sSeq (fun K63 hK63 => ?_)
    refine sRegion ?_
    refine sLoadN (p := b10) (off := 0) (T := 24) (vs := [iv p0.W, iv p0.H, .slice ad3 p0.Bits.length cp4]) 3 [iv p0.W, iv p0.H, .slice ad3 p0.Bits.length cp4] S (wN rfl) rfl rfl rfl rfl rfl rfl rfl (lb rfl) fun a S => ?_
    refine sLoadN (p := b11) (off := 0) (T := 24) (vs := [iv p1.W, iv p1.H, .slice ad7 p1.Bits.length cp8]) 4 [iv p1.W, iv p1.H, .slice ad7 p1.Bits.length cp8] S (wN rfl) rfl rfl rfl rfl rfl rfl rfl (lb rfl) fun a S => ?_
    refine sMove (iv p2) S (wN rfl) (.inl rfl) rfl rfl (lb rfl) fun a S => ?_
    obtain ⟨r64, hx65, h⟩ := bindSome h
    refine sCall (X := Value) (f := 17) (vs := [.agg #[iv p0.W, iv p0.H, .slice ad3 p0.Bits.length cp4], .agg #[iv p1.W, iv p1.H, .slice ad7 p1.Bits.length cp8], iv p2]) (val := c_raddleref46_Nearest_val r64) (B' := fun _ => []) (D' := c_raddleref46_Nearest_D r64) [] [eBox b62 33 [iv r59.2.2.1.X, iv r59.2.2.1.Y], eBox b51 24 [iv r31.W, iv r31.H, .slice ad48 r31.Bits.length cp49], eBox b50 24 [iv r24.W, iv r24.H, .slice ad43 r24.Bits.length cp44], eBox b10 24 [iv p0.W, iv p0.H, .slice ad3 p0.Bits.length cp4], eBox b11 24 [iv p1.W, iv p1.H, .slice ad7 p1.Bits.length cp8]] [fRep r_api_Grid (.agg #[iv p0.W, iv p0.H, .slice ad3 p0.Bits.length cp4]) p0, fRep r_api_Grid (.agg #[iv p1.W, iv p1.H, .slice ad7 p1.Bits.length cp8]) p1] [0, 1, 2, 3, 4] [6, 3] S (wN rfl) rfl callee17 rfl (by decide) rfl rfl (fun E1 w1 S1 => c_raddleref46_Nearest E1 w1 p0 (.agg #[iv p0.W, iv p0.H, .slice ad3 p0.Bits.length cp4]) p1 (.agg #[iv p1.W, iv p1.H, .slice ad7 p1.Bits.length cp8]) p2 r64 hx65 S1) rfl (lb rfl) fun u66 a w S => ?_
    obtain rfl : u66 = .agg #[iv r64.2.2.1.X, iv r64.2.2.1.Y] := S.mem.know (i := 0) (e := fRep r_api_Point (u66) r64.2.2.1) rfl
    refine sMove (.tuple #[iv r64.1, iv r64.2.1, .agg #[iv r64.2.2.1.X, iv r64.2.2.1.Y], iv r64.2.2.2]) S (wN rfl) (.inl rfl) rfl rfl (lb rfl) fun a S => ?_
    refine sExtract (vs := [iv r64.1, iv r64.2.1, .agg #[iv r64.2.2.1.X, iv r64.2.2.1.Y], iv r64.2.2.2]) (iv r64.1) S (wN rfl) rfl rfl rfl rfl (lb rfl) fun a S => ?_
    refine sExtract (vs := [iv r64.1, iv r64.2.1, .agg #[iv r64.2.2.1.X, iv r64.2.2.1.Y], iv r64.2.2.2]) (iv r64.2.1) S (wN rfl) rfl rfl rfl rfl (lb rfl) fun a S => ?_
    refine sExtract (vs := [iv r64.1, iv r64.2.1, .agg #[iv r64.2.2.1.X, iv r64.2.2.1.Y], iv r64.2.2.2]) (.agg #[iv r64.2.2.1.X, iv r64.2.2.1.Y]) S (wN rfl) rfl rfl rfl rfl (lb rfl) fun a S => ?_
    refine sExtract (vs := [iv r64.1, iv r64.2.1, .agg #[iv r64.2.2.1.X, iv r64.2.2.1.Y], iv r64.2.2.2]) (iv r64.2.2.2) S (wN rfl) rfl rfl rfl rfl (lb rfl) fun a S => ?_
    refine sAlloc (.agg #[iv 0, iv 0]) S (wN rfl) rfl rfl [iv 0, iv 0] rfl rfl (lb rfl) fun a b67 w S => ?_
    refine sMove (iv r64.1) S (wN rfl) (.inr rfl) rfl rfl (lb rfl) fun a S => ?_
    refine sMove (iv r64.2.1) S (wN rfl) (.inr rfl) rfl rfl (lb rfl) fun a S => ?_
    refine sStore (p := b67) (off := 0) (T := 33) (vs := [iv 0, iv 0]) (v := .agg #[iv r64.2.2.1.X, iv r64.2.2.1.Y]) 0 [iv r64.2.2.1.X, iv r64.2.2.1.Y] S (wN rfl) rfl rfl rfl rfl rfl rfl rfl (by simp) rfl fun a w S => ?_
    refine sMove (iv r64.2.2.2) S (wN rfl) (.inr rfl) rfl rfl (lb rfl) fun a S => ?_
    refine leafL (leafT (hK63 _ _ ?_))
    obtain ⟨t69, h, g70⟩ := bindSome h
    refine sCut (fun a w => ∃ o68, o68 = t69 ∧ St [] E [] w0 99 a w [(6, .bool o68)] [] []) ?_ (fun a w hI => ?_)
    rotate_left
    · obtain ⟨o68, rfl, S⟩ := hI
      have h := g70
      clear g70
      try dsimp only at h
      obtain rfl := Option.some.inj h
      exact wp_ret (sRet (.bool o68) S (rsl1 rfl (rvT (t := 6) (v := .bool o68) S rfl)) ⟨(), rfl, S.mem.sel [] [] (by decide) rfl rfl⟩)
    refine sRegion ?_
    refine sMove (iv r53.1) S (wN rfl) (.inl rfl) rfl rfl (lb rfl) fun a S => ?_
    refine sMove (iv r56.1) S (wN rfl) (.inl rfl) rfl rfl (lb rfl) fun a S => ?_
    refine sBin (.bool (r53.1 == r56.1)) S (wN rfl) rfl rfl rfl (bEq _ _ _ _ .i64 r53.1 r56.1) rfl (lb rfl) fun a S => ?_
    refine sMove (.bool (r53.1 == r56.1)) S (wN rfl) (.inl rfl) rfl rfl (lb rfl) fun a S => ?_
    rcases iteSome h with ⟨hc71, h⟩ | ⟨hc71, h⟩
    rotate_left
    · refine sSkip 3 true 64 65 S rfl rfl rfl hc71 rfl (lb rfl) fun a S => ?_
      refine sSkip 3 true 64 66 S rfl rfl rfl hc71 rfl (lb rfl) fun a S => ?_
      refine sSkip 3 true 64 67 S rfl rfl rfl hc71 rfl (lb rfl) fun a S => ?_
      refine sPickF (.bool false) S (wN rfl) rfl rfl hc71 rfl rfl (lb rfl) fun a S => ?_
      refine sMove (.bool false) S (wN rfl) (.inl rfl) rfl rfl (lb rfl) fun a S => ?_
      refine sSkip 8 true 69 70 S rfl rfl rfl rfl rfl (lb rfl) fun a S => ?_
      refine sSkip 8 true 69 71 S rfl rfl rfl rfl rfl (lb rfl) fun a S => ?_
      refine sSkip 8 true 69 72 S rfl rfl rfl rfl rfl (lb rfl) fun a S => ?_
      refine sPickF (.bool false) S (wN rfl) rfl rfl rfl rfl rfl (lb rfl) fun a S => ?_
      refine sMove (.bool false) S (wN rfl) (.inl rfl) rfl rfl (lb rfl) fun a S => ?_
      refine sSkip 13 true 74 75 S rfl rfl rfl rfl rfl (lb rfl) fun a S => ?_
      refine sSkip 13 true 74 76 S rfl rfl rfl rfl rfl (lb rfl) fun a S => ?_
      refine sSkip 13 true 74 77 S rfl rfl rfl rfl rfl (lb rfl) fun a S => ?_
      refine sPickF (.bool false) S (wN rfl) rfl rfl rfl rfl rfl (lb rfl) fun a S => ?_
      refine sMove (.bool false) S (wN rfl) (.inl rfl) rfl rfl (lb rfl) fun a S => ?_
      refine sSkip 18 true 79 80 S rfl rfl rfl rfl rfl (lb rfl) fun a S => ?_
      refine sSkip 18 true 79 81 S rfl rfl rfl rfl rfl (lb rfl) fun a S => ?_
      refine sSkip 18 true 79 82 S rfl rfl rfl rfl rfl (lb rfl) fun a S => ?_
      refine sPickF (.bool false) S (wN rfl) rfl rfl rfl rfl rfl (lb rfl) fun a S => ?_
      refine sMove (.bool false) S (wN rfl) (.inl rfl) rfl rfl (lb rfl) fun a S => ?_
      refine sSkip 23 true 84 85 S rfl rfl rfl rfl rfl (lb rfl) fun a S => ?_
      refine sSkip 23 true 84 86 S rfl rfl rfl rfl rfl (lb rfl) fun a S => ?_
      refine sSkip 23 true 84 87 S rfl rfl rfl rfl rfl (lb rfl) fun a S => ?_
      refine sPickF (.bool false) S (wN rfl) rfl rfl rfl rfl rfl (lb rfl) fun a S => ?_
      refine sMove (.bool false) S (wN rfl) (.inl rfl) rfl rfl (lb rfl) fun a S => ?_
      refine sSkip 28 true 89 90 S rfl rfl rfl rfl rfl (lb rfl) fun a S => ?_
      refine sSkip 28 true 89 91 S rfl rfl rfl rfl rfl (lb rfl) fun a S => ?_
      refine sSkip 28 true 89 92 S rfl rfl rfl rfl rfl (lb rfl) fun a S => ?_
      refine sPickF (.bool false) S (wN rfl) rfl rfl rfl rfl rfl (lb rfl) fun a S => ?_
      refine sMove (.bool false) S (wN rfl) (.inl rfl) rfl rfl (lb rfl) fun a S => ?_
      refine sSkip 33 true 94 95 S rfl rfl rfl rfl rfl (lb rfl) fun a S => ?_
      refine sSkip 33 true 94 96 S rfl rfl rfl rfl rfl (lb rfl) fun a S => ?_
      refine sSkip 33 true 94 97 S rfl rfl rfl rfl rfl (lb rfl) fun a S => ?_
      refine sPickF (.bool false) S (wN rfl) rfl rfl rfl rfl rfl (lb rfl) fun a S => ?_
      refine sMove (.bool false) S (wN rfl) (.inr rfl) rfl rfl (lb rfl) fun a S => ?_
      exact leafL (leafT (⟨false, Option.some.inj h, S.fix [] [] (by decide) rfl rfl rfl⟩))
    refine sMove (iv r53.2) S (wG 3 true 64 rfl rfl rfl hc71) (.inl rfl) rfl rfl (lb rfl) fun a S => ?_
    refine sMove (iv r56.2) S (wG 3 true 64 rfl rfl rfl hc71) (.inl rfl) rfl rfl (lb rfl) fun a S => ?_
    refine sBin (.bool (r53.2 == r56.2)) S (wG 3 true 64 rfl rfl rfl hc71) rfl rfl rfl (bEq _ _ _ _ .i64 r53.2 r56.2) rfl (lb rfl) fun a S => ?_
    refine sPickT (.bool (r53.2 == r56.2)) S (wN rfl) rfl rfl hc71 rfl rfl (lb rfl) fun a S => ?_
    refine sMove (.bool (r53.2 == r56.2)) S (wN rfl) (.inl rfl) rfl rfl (lb rfl) fun a S => ?_
    rcases iteSome h with ⟨hc72, h⟩ | ⟨hc72, h⟩
    rotate_left
    · refine sSkip 8 true 69 70 S rfl rfl rfl hc72 rfl (lb rfl) fun a S => ?_
      refine sSkip 8 true 69 71 S rfl rfl rfl hc72 rfl (lb rfl) fun a S => ?_
      refine sSkip 8 true 69 72 S rfl rfl rfl hc72 rfl (lb rfl) fun a S => ?_
      refine sPickF (.bool false) S (wN rfl) rfl rfl hc72 rfl rfl (lb rfl) fun a S => ?_
      refine sMove (.bool false) S (wN rfl) (.inl rfl) rfl rfl (lb rfl) fun a S => ?_
      refine sSkip 13 true 74 75 S rfl rfl rfl rfl rfl (lb rfl) fun a S => ?_
      refine sSkip 13 true 74 76 S rfl rfl rfl rfl rfl (lb rfl) fun a S => ?_
      refine sSkip 13 true 74 77 S rfl rfl rfl rfl rfl (lb rfl) fun a S => ?_
      refine sPickF (.bool false) S (wN rfl) rfl rfl rfl rfl rfl (lb rfl) fun a S => ?_
      refine sMove (.bool false) S (wN rfl) (.inl rfl) rfl rfl (lb rfl) fun a S => ?_
      refine sSkip 18 true 79 80 S rfl rfl rfl rfl rfl (lb rfl) fun a S => ?_
      refine sSkip 18 true 79 81 S rfl rfl rfl rfl rfl (lb rfl) fun a S => ?_
      refine sSkip 18 true 79 82 S rfl rfl rfl rfl rfl (lb rfl) fun a S => ?_
      refine sPickF (.bool false) S (wN rfl) rfl rfl rfl rfl rfl (lb rfl) fun a S => ?_
      refine sMove (.bool false) S (wN rfl) (.inl rfl) rfl rfl (lb rfl) fun a S => ?_
      refine sSkip 23 true 84 85 S rfl rfl rfl rfl rfl (lb rfl) fun a S => ?_
      refine sSkip 23 true 84 86 S rfl rfl rfl rfl rfl (lb rfl) fun a S => ?_
      refine sSkip 23 true 84 87 S rfl rfl rfl rfl rfl (lb rfl) fun a S => ?_
      refine sPickF (.bool false) S (wN rfl) rfl rfl rfl rfl rfl (lb rfl) fun a S => ?_
      refine sMove (.bool false) S (wN rfl) (.inl rfl) rfl rfl (lb rfl) fun a S => ?_
      refine sSkip 28 true 89 90 S rfl rfl rfl rfl rfl (lb rfl) fun a S => ?_
      refine sSkip 28 true 89 91 S rfl rfl rfl rfl rfl (lb rfl) fun a S => ?_
      refine sSkip 28 true 89 92 S rfl rfl rfl rfl rfl (lb rfl) fun a S => ?_
      refine sPickF (.bool false) S (wN rfl) rfl rfl rfl rfl rfl (lb rfl) fun a S => ?_
      refine sMove (.bool false) S (wN rfl) (.inl rfl) rfl rfl (lb rfl) fun a S => ?_
      refine sSkip 33 true 94 95 S rfl rfl rfl rfl rfl (lb rfl) fun a S => ?_
      refine sSkip 33 true 94 96 S rfl rfl rfl rfl rfl (lb rfl) fun a S => ?_
      refine sSkip 33 true 94 97 S rfl rfl rfl rfl rfl (lb rfl) fun a S => ?_
      refine sPickF (.bool false) S (wN rfl) rfl rfl rfl rfl rfl (lb rfl) fun a S => ?_
      refine sMove (.bool false) S (wN rfl) (.inr rfl) rfl rfl (lb rfl) fun a S => ?_
      exact leafL (leafT (⟨false, Option.some.inj h, S.fix [] [] (by decide) rfl rfl rfl⟩))
    refine sMove (iv r59.1) S (wG 8 true 69 rfl rfl rfl hc72) (.inl rfl) rfl rfl (lb rfl) fun a S => ?_
    refine sMove (iv r64.1) S (wG 8 true 69 rfl rfl rfl hc72) (.inl rfl) rfl rfl (lb rfl) fun a S => ?_
    refine sBin (.bool (r59.1 == r64.1)) S (wG 8 true 69 rfl rfl rfl hc72) rfl rfl rfl (bEq _ _ _ _ .i64 r59.1 r64.1) rfl (lb rfl) fun a S => ?_
    refine sPickT (.bool (r59.1 == r64.1)) S (wN rfl) rfl rfl hc72 rfl rfl (lb rfl) fun a S => ?_
    refine sMove (.bool (r59.1 == r64.1)) S (wN rfl) (.inl rfl) rfl rfl (lb rfl) fun a S => ?_
    rcases iteSome h with ⟨hc73, h⟩ | ⟨hc73, h⟩
    rotate_left
    · refine sSkip 13 true 74 75 S rfl rfl rfl hc73 rfl (lb rfl) fun a S => ?_
      refine sSkip 13 true 74 76 S rfl rfl rfl hc73 rfl (lb rfl) fun a S => ?_
      refine sSkip 13 true 74 77 S rfl rfl rfl hc73 rfl (lb rfl) fun a S => ?_
      refine sPickF (.bool false) S (wN rfl) rfl rfl hc73 rfl rfl (lb rfl) fun a S => ?_
      refine sMove (.bool false) S (wN rfl) (.inl rfl) rfl rfl (lb rfl) fun a S => ?_
      refine sSkip 18 true 79 80 S rfl rfl rfl rfl rfl (lb rfl) fun a S => ?_
      refine sSkip 18 true 79 81 S rfl rfl rfl rfl rfl (lb rfl) fun a S => ?_
      refine sSkip 18 true 79 82 S rfl rfl rfl rfl rfl (lb rfl) fun a S => ?_
      refine sPickF (.bool false) S (wN rfl) rfl rfl rfl rfl rfl (lb rfl) fun a S => ?_
      refine sMove (.bool false) S (wN rfl) (.inl rfl) rfl rfl (lb rfl) fun a S => ?_
      refine sSkip 23 true 84 85 S rfl rfl rfl rfl rfl (lb rfl) fun a S => ?_
      refine sSkip 23 true 84 86 S rfl rfl rfl rfl rfl (lb rfl) fun a S => ?_
      refine sSkip 23 true 84 87 S rfl rfl rfl rfl rfl (lb rfl) fun a S => ?_
      refine sPickF (.bool false) S (wN rfl) rfl rfl rfl rfl rfl (lb rfl) fun a S => ?_
      refine sMove (.bool false) S (wN rfl) (.inl rfl) rfl rfl (lb rfl) fun a S => ?_
      refine sSkip 28 true 89 90 S rfl rfl rfl rfl rfl (lb rfl) fun a S => ?_
      refine sSkip 28 true 89 91 S rfl rfl rfl rfl rfl (lb rfl) fun a S => ?_
      refine sSkip 28 true 89 92 S rfl rfl rfl rfl rfl (lb rfl) fun a S => ?_
      refine sPickF (.bool false) S (wN rfl) rfl rfl rfl rfl rfl (lb rfl) fun a S => ?_
      refine sMove (.bool false) S (wN rfl) (.inl rfl) rfl rfl (lb rfl) fun a S => ?_
      refine sSkip 33 true 94 95 S rfl rfl rfl rfl rfl (lb rfl) fun a S => ?_
      refine sSkip 33 true 94 96 S rfl rfl rfl rfl rfl (lb rfl) fun a S => ?_
      refine sSkip 33 true 94 97 S rfl rfl rfl rfl rfl (lb rfl) fun a S => ?_
      refine sPickF (.bool false) S (wN rfl) rfl rfl rfl rfl rfl (lb rfl) fun a S => ?_
      refine sMove (.bool false) S (wN rfl) (.inr rfl) rfl rfl (lb rfl) fun a S => ?_
      exact leafL (leafT (⟨false, Option.some.inj h, S.fix [] [] (by decide) rfl rfl rfl⟩))
    refine sMove (iv r59.2.1) S (wG 13 true 74 rfl rfl rfl hc73) (.inl rfl) rfl rfl (lb rfl) fun a S => ?_
    refine sMove (iv r64.2.1) S (wG 13 true 74 rfl rfl rfl hc73) (.inl rfl) rfl rfl (lb rfl) fun a S => ?_
    refine sBin (.bool (r59.2.1 == r64.2.1)) S (wG 13 true 74 rfl rfl rfl hc73) rfl rfl rfl (bEq _ _ _ _ .i64 r59.2.1 r64.2.1) rfl (lb rfl) fun a S => ?_
    refine sPickT (.bool (r59.2.1 == r64.2.1)) S (wN rfl) rfl rfl hc73 rfl rfl (lb rfl) fun a S => ?_
    refine sMove (.bool (r59.2.1 == r64.2.1)) S (wN rfl) (.inl rfl) rfl rfl (lb rfl) fun a S => ?_
    rcases iteSome h with ⟨hc74, h⟩ | ⟨hc74, h⟩
    rotate_left
    · refine sSkip 18 true 79 80 S rfl rfl rfl hc74 rfl (lb rfl) fun a S => ?_
      refine sSkip 18 true 79 81 S rfl rfl rfl hc74 rfl (lb rfl) fun a S => ?_
      refine sSkip 18 true 79 82 S rfl rfl rfl hc74 rfl (lb rfl) fun a S => ?_
      refine sPickF (.bool false) S (wN rfl) rfl rfl hc74 rfl rfl (lb rfl) fun a S => ?_
      refine sMove (.bool false) S (wN rfl) (.inl rfl) rfl rfl (lb rfl) fun a S => ?_
      refine sSkip 23 true 84 85 S rfl rfl rfl rfl rfl (lb rfl) fun a S => ?_
      refine sSkip 23 true 84 86 S rfl rfl rfl rfl rfl (lb rfl) fun a S => ?_
      refine sSkip 23 true 84 87 S rfl rfl rfl rfl rfl (lb rfl) fun a S => ?_
      refine sPickF (.bool false) S (wN rfl) rfl rfl rfl rfl rfl (lb rfl) fun a S => ?_
      refine sMove (.bool false) S (wN rfl) (.inl rfl) rfl rfl (lb rfl) fun a S => ?_
      refine sSkip 28 true 89 90 S rfl rfl rfl rfl rfl (lb rfl) fun a S => ?_
      refine sSkip 28 true 89 91 S rfl rfl rfl rfl rfl (lb rfl) fun a S => ?_
      refine sSkip 28 true 89 92 S rfl rfl rfl rfl rfl (lb rfl) fun a S => ?_
      refine sPickF (.bool false) S (wN rfl) rfl rfl rfl rfl rfl (lb rfl) fun a S => ?_
      refine sMove (.bool false) S (wN rfl) (.inl rfl) rfl rfl (lb rfl) fun a S => ?_
      refine sSkip 33 true 94 95 S rfl rfl rfl rfl rfl (lb rfl) fun a S => ?_
      refine sSkip 33 true 94 96 S rfl rfl rfl rfl rfl (lb rfl) fun a S => ?_
      refine sSkip 33 true 94 97 S rfl rfl rfl rfl rfl (lb rfl) fun a S => ?_
      refine sPickF (.bool false) S (wN rfl) rfl rfl rfl rfl rfl (lb rfl) fun a S => ?_
      refine sMove (.bool false) S (wN rfl) (.inr rfl) rfl rfl (lb rfl) fun a S => ?_
      exact leafL (leafT (⟨false, Option.some.inj h, S.fix [] [] (by decide) rfl rfl rfl⟩))
    refine sLoadN (p := b62) (off := 0) (T := 33) (vs := [iv r59.2.2.1.X, iv r59.2.2.1.Y]) 1 [iv r59.2.2.1.X, iv r59.2.2.1.Y] S (wG 18 true 79 rfl rfl rfl hc74) rfl rfl rfl rfl rfl rfl rfl (lb rfl) fun a S => ?_
    refine sLoadN (p := b67) (off := 0) (T := 33) (vs := [iv r64.2.2.1.X, iv r64.2.2.1.Y]) 0 [iv r64.2.2.1.X, iv r64.2.2.1.Y] S (wG 18 true 79 rfl rfl rfl hc74) rfl rfl rfl rfl rfl rfl rfl (lb rfl) fun a S => ?_
    refine sBin (.bool ((r59.2.2.1.X == r64.2.2.1.X) && ((r59.2.2.1.Y == r64.2.2.1.Y) && true))) S (wG 18 true 79 rfl rfl rfl hc74) rfl rfl rfl (bEqV _ _ _ _ #[iv r59.2.2.1.X, iv r59.2.2.1.Y] #[iv r64.2.2.1.X, iv r64.2.2.1.Y] ((r59.2.2.1.X == r64.2.2.1.X) && ((r59.2.2.1.Y == r64.2.2.1.Y) && true)) (by kernel_rfl) (eqlV_of (by kernel_rfl))) rfl (lb rfl) fun a S => ?_
    refine sPickT (.bool ((r59.2.2.1.X == r64.2.2.1.X) && ((r59.2.2.1.Y == r64.2.2.1.Y) && true))) S (wN rfl) rfl rfl hc74 rfl rfl (lb rfl) fun a S => ?_
    refine sMove (.bool ((r59.2.2.1.X == r64.2.2.1.X) && ((r59.2.2.1.Y == r64.2.2.1.Y) && true))) S (wN rfl) (.inl rfl) rfl rfl (lb rfl) fun a S => ?_
    rcases iteSome h with ⟨hc75, h⟩ | ⟨hc75, h⟩
    rotate_left
    · refine sSkip 23 true 84 85 S rfl rfl rfl hc75 rfl (lb rfl) fun a S => ?_
      refine sSkip 23 true 84 86 S rfl rfl rfl hc75 rfl (lb rfl) fun a S => ?_
      refine sSkip 23 true 84 87 S rfl rfl rfl hc75 rfl (lb rfl) fun a S => ?_
      refine sPickF (.bool false) S (wN rfl) rfl rfl hc75 rfl rfl (lb rfl) fun a S => ?_
      refine sMove (.bool false) S (wN rfl) (.inl rfl) rfl rfl (lb rfl) fun a S => ?_
      refine sSkip 28 true 89 90 S rfl rfl rfl rfl rfl (lb rfl) fun a S => ?_
      refine sSkip 28 true 89 91 S rfl rfl rfl rfl rfl (lb rfl) fun a S => ?_
      refine sSkip 28 true 89 92 S rfl rfl rfl rfl rfl (lb rfl) fun a S => ?_
      refine sPickF (.bool false) S (wN rfl) rfl rfl rfl rfl rfl (lb rfl) fun a S => ?_
      refine sMove (.bool false) S (wN rfl) (.inl rfl) rfl rfl (lb rfl) fun a S => ?_
      refine sSkip 33 true 94 95 S rfl rfl rfl rfl rfl (lb rfl) fun a S => ?_
      refine sSkip 33 true 94 96 S rfl rfl rfl rfl rfl (lb rfl) fun a S => ?_
      refine sSkip 33 true 94 97 S rfl rfl rfl rfl rfl (lb rfl) fun a S => ?_
      refine sPickF (.bool false) S (wN rfl) rfl rfl rfl rfl rfl (lb rfl) fun a S => ?_
      refine sMove (.bool false) S (wN rfl) (.inr rfl) rfl rfl (lb rfl) fun a S => ?_
      exact leafL (leafT (⟨false, Option.some.inj h, S.fix [] [] (by decide) rfl rfl rfl⟩))
    refine sMove (iv r59.2.2.2) S (wG 23 true 84 rfl rfl rfl hc75) (.inl rfl) rfl rfl (lb rfl) fun a S => ?_
    refine sMove (iv r64.2.2.2) S (wG 23 true 84 rfl rfl rfl hc75) (.inl rfl) rfl rfl (lb rfl) fun a S => ?_
    refine sBin (.bool (r59.2.2.2 == r64.2.2.2)) S (wG 23 true 84 rfl rfl rfl hc75) rfl rfl rfl (bEq _ _ _ _ .i64 r59.2.2.2 r64.2.2.2) rfl (lb rfl) fun a S => ?_
    refine sPickT (.bool (r59.2.2.2 == r64.2.2.2)) S (wN rfl) rfl rfl hc75 rfl rfl (lb rfl) fun a S => ?_
    refine sMove (.bool (r59.2.2.2 == r64.2.2.2)) S (wN rfl) (.inl rfl) rfl rfl (lb rfl) fun a S => ?_
    rcases iteSome h with ⟨hc76, h⟩ | ⟨hc76, h⟩
    rotate_left
    · refine sSkip 28 true 89 90 S rfl rfl rfl hc76 rfl (lb rfl) fun a S => ?_
      refine sSkip 28 true 89 91 S rfl rfl rfl hc76 rfl (lb rfl) fun a S => ?_
      refine sSkip 28 true 89 92 S rfl rfl rfl hc76 rfl (lb rfl) fun a S => ?_
      refine sPickF (.bool false) S (wN rfl) rfl rfl hc76 rfl rfl (lb rfl) fun a S => ?_
      refine sMove (.bool false) S (wN rfl) (.inl rfl) rfl rfl (lb rfl) fun a S => ?_
      refine sSkip 33 true 94 95 S rfl rfl rfl rfl rfl (lb rfl) fun a S => ?_
      refine sSkip 33 true 94 96 S rfl rfl rfl rfl rfl (lb rfl) fun a S => ?_
      refine sSkip 33 true 94 97 S rfl rfl rfl rfl rfl (lb rfl) fun a S => ?_
      refine sPickF (.bool false) S (wN rfl) rfl rfl rfl rfl rfl (lb rfl) fun a S => ?_
      refine sMove (.bool false) S (wN rfl) (.inr rfl) rfl rfl (lb rfl) fun a S => ?_
      exact leafL (leafT (⟨false, Option.some.inj h, S.fix [] [] (by decide) rfl rfl rfl⟩))
    refine sLoadN (p := b10) (off := 0) (T := 24) (vs := [iv p0.W, iv p0.H, .slice ad3 p0.Bits.length cp4]) 4 [iv p0.W, iv p0.H, .slice ad3 p0.Bits.length cp4] S (wG 28 true 89 rfl rfl rfl hc76) rfl rfl rfl rfl rfl rfl rfl (lb rfl) fun a S => ?_
    refine sLoadN (p := b50) (off := 0) (T := 24) (vs := [iv r24.W, iv r24.H, .slice ad43 r24.Bits.length cp44]) 3 [iv r24.W, iv r24.H, .slice ad43 r24.Bits.length cp44] S (wG 28 true 89 rfl rfl rfl hc76) rfl rfl rfl rfl rfl rfl rfl (lb rfl) fun a S => ?_
    obtain ⟨r77, hx78, h⟩ := bindSome h
    have S1 := S.mem
    refine sCallQ (X := Unit) (f := 18) (vs := [.agg #[iv p0.W, iv p0.H, .slice ad3 p0.Bits.length cp4], .agg #[iv r24.W, iv r24.H, .slice ad43 r24.Bits.length cp44]]) (val := fun _ => .bool r77) S (wG 28 true 89 rfl rfl rfl hc76) rfl callee18 rfl (S1.quiet [7, 6] rfl) (fun E1 w1 S1 => c_raddleref01_Same E1 w1 p0 (.agg #[iv p0.W, iv p0.H, .slice ad3 p0.Bits.length cp4]) r24 (.agg #[iv r24.W, iv r24.H, .slice ad43 r24.Bits.length cp44]) r77 hx78 S1) rfl (lb rfl) fun _ a w S => ?_
    refine sPickT (.bool r77) S (wN rfl) rfl rfl hc76 rfl rfl (lb rfl) fun a S => ?_
    refine sMove (.bool r77) S (wN rfl) (.inl rfl) rfl rfl (lb rfl) fun a S => ?_
    rcases iteSome h with ⟨hc79, h⟩ | ⟨hc79, h⟩
    rotate_left
    · refine sSkip 33 true 94 95 S rfl rfl rfl hc79 rfl (lb rfl) fun a S => ?_
      refine sSkip 33 true 94 96 S rfl rfl rfl hc79 rfl (lb rfl) fun a S => ?_
      refine sSkip 33 true 94 97 S rfl rfl rfl hc79 rfl (lb rfl) fun a S => ?_
      refine sPickF (.bool false) S (wN rfl) rfl rfl hc79 rfl rfl (lb rfl) fun a S => ?_
      refine sMove (.bool false) S (wN rfl) (.inr rfl) rfl rfl (lb rfl) fun a S => ?_
      exact leafL (leafT (⟨false, Option.some.inj h, S.fix [] [] (by decide) rfl rfl rfl⟩))
    refine sLoadN (p := b11) (off := 0) (T := 24) (vs := [iv p1.W, iv p1.H, .slice ad7 p1.Bits.length cp8]) 5 [iv p1.W, iv p1.H, .slice ad7 p1.Bits.length cp8] S (wG 33 true 94 rfl rfl rfl hc79) rfl rfl rfl rfl rfl rfl rfl (lb rfl) fun a S => ?_
    refine sLoadN (p := b51) (off := 0) (T := 24) (vs := [iv r31.W, iv r31.H, .slice ad48 r31.Bits.length cp49]) 2 [iv r31.W, iv r31.H, .slice ad48 r31.Bits.length cp49] S (wG 33 true 94 rfl rfl rfl hc79) rfl rfl rfl rfl rfl rfl rfl (lb rfl) fun a S => ?_
    obtain ⟨r80, hx81, h⟩ := bindSome h
    have S1 := S.mem
    refine sCallQ (X := Unit) (f := 18) (vs := [.agg #[iv p1.W, iv p1.H, .slice ad7 p1.Bits.length cp8], .agg #[iv r31.W, iv r31.H, .slice ad48 r31.Bits.length cp49]]) (val := fun _ => .bool r80) S (wG 33 true 94 rfl rfl rfl hc79) rfl callee18 rfl (S1.quiet [4, 3] rfl) (fun E1 w1 S1 => c_raddleref01_Same E1 w1 p1 (.agg #[iv p1.W, iv p1.H, .slice ad7 p1.Bits.length cp8]) r31 (.agg #[iv r31.W, iv r31.H, .slice ad48 r31.Bits.length cp49]) r80 hx81 S1) rfl (lb rfl) fun _ a w S => ?_
    refine sPickT (.bool r80) S (wN rfl) rfl rfl hc79 rfl rfl (lb rfl) fun a S => ?_
    refine sMove (.bool r80) S (wN rfl) (.inr rfl) rfl rfl (lb rfl) fun a S => ?_
    exact leafL (leafT (⟨r80, Option.some.inj h, S.fix [] [] (by decide) rfl rfl rfl⟩))
  refine nodeCut (fun N W L D => ∀ b50 ad48 cp49 ad43 cp44, N [4, 3, 1] ((4, 7, .pointer (some ⟨b50, 0, none⟩)) :: (3, 30, .agg #[iv r31.W, iv r31.H, .slice ad48 r31.Bits.length cp49]) :: (1, 28, .agg #[iv r24.W, iv r24.H, .slice ad43 r24.Bits.length cp44]) :: W) ((eBox b50 24 [iv 0, iv 0, .slice none 0 0]) :: L) ((fRep (rL rB) (.slice ad48 r31.Bits.length cp49) r31.Bits) :: (fRep r_api_Grid (.agg #[iv r31.W, iv r31.H, .slice ad48 r31.Bits.length cp49]) r31) :: (fRep r_api_Grid (.agg #[iv p1.W, iv p1.H, .slice ad7 p1.Bits.length cp8]) p1) :: (fRep (rL rB) (.slice ad43 r24.Bits.length cp44) r24.Bits) :: (fRep r_api_Grid (.agg #[iv r24.W, iv r24.H, .slice ad43 r24.Bits.length cp44]) r24) :: (fRep r_api_Grid (.agg #[iv p0.W, iv p0.H, .slice ad3 p0.Bits.length cp4]) p0) :: D)) (fun b50 ad48 cp49 ad43 cp44 => ?_) fun nd1 => ?_
  · refine node_by (A := anc_raddlelaw46_CompareGrids_0) (nf := [1, 3, 4, 5, 6, 7]) (Y := [4, 3, 1]) 8 (by kernel_rfl) (by kernel_rfl) (by kernel_rfl) (by kernel_rfl) (by kernel_rfl) [4, 3, 1, 0, 2] (by kernel_rfl) (by decide) (by decide) (aD 0 7 3 (by decide) (aY 1 6 (by decide) (aD 2 5 3 (by decide) (aY 3 4 (by decide) (aY 4 3 (by decide) (aN 5 2 (by decide) ?_ (aB 6 1 5 (by decide) (aB 7 0 5 (by decide) (trivial))))))))) [] (fun q hq => by cases hq) (fun hY => absurd (hY 5 (by decide)) (by decide))
    refine ⟨_, [], rfl, (srcs_of [] rfl rfl rfl), fun G a w S => ?_⟩
    refine sAlloc (.agg #[iv 0, iv 0, .slice none 0 0]) S (wN rfl) rfl rfl [iv 0, iv 0, .slice none 0 0] rfl rfl (lb rfl) fun a b51 w S => ?_
    refine leafL ⟨rfl, _, _, .inl ⟨8, (.pointer (some ⟨b51, 0, none⟩)), [], rfl, S, hz_of rfl, ?_⟩⟩
    exact nd2 b51 b50 ad48 cp49 ad43 cp44
  refine nodeCut (fun N W L D => ∀ b82 ad48 cp49 ad43 cp44, N [5, 3, 1] ((5, 8, .pointer (some ⟨b82, 0, none⟩)) :: (3, 30, .agg #[iv r31.W, iv r31.H, .slice ad48 r31.Bits.length cp49]) :: (1, 28, .agg #[iv r24.W, iv r24.H, .slice ad43 r24.Bits.length cp44]) :: W) ((eBox b82 24 [iv 0, iv 0, .slice none 0 0]) :: L) ((fRep (rL rB) (.slice ad48 r31.Bits.length cp49) r31.Bits) :: (fRep r_api_Grid (.agg #[iv r31.W, iv r31.H, .slice ad48 r31.Bits.length cp49]) r31) :: (fRep r_api_Grid (.agg #[iv p1.W, iv p1.H, .slice ad7 p1.Bits.length cp8]) p1) :: (fRep (rL rB) (.slice ad43 r24.Bits.length cp44) r24.Bits) :: (fRep r_api_Grid (.agg #[iv r24.W, iv r24.H, .slice ad43 r24.Bits.length cp44]) r24) :: (fRep r_api_Grid (.agg #[iv p0.W, iv p0.H, .slice ad3 p0.Bits.length cp4]) p0) :: D)) (fun b82 ad48 cp49 ad43 cp44 => ?_) fun nd3 => ?_
  · refine node_by (A := anc_raddlelaw46_CompareGrids_0) (nf := [1, 3, 4, 5, 6, 7]) (Y := [5, 3, 1]) 8 (by kernel_rfl) (by kernel_rfl) (by kernel_rfl) (by kernel_rfl) (by kernel_rfl) [5, 3, 1, 0, 2] (by kernel_rfl) (by decide) (by decide) (aD 0 7 3 (by decide) (aY 1 6 (by decide) (aD 2 5 3 (by decide) (aY 3 4 (by decide) (aN 4 3 (by decide) ?_ (aY 5 2 (by decide) (aB 6 1 4 (by decide) (aB 7 0 4 (by decide) (trivial))))))))) [] (fun q hq => by cases hq) (fun hY => absurd (hY 4 (by decide)) (by decide))
    refine ⟨_, [], rfl, (srcs_of [] rfl rfl rfl), fun G a w S => ?_⟩
    refine sAlloc (.agg #[iv 0, iv 0, .slice none 0 0]) S (wN rfl) rfl rfl [iv 0, iv 0, .slice none 0 0] rfl rfl (lb rfl) fun a b83 w S => ?_
    refine leafL ⟨rfl, _, _, .inl ⟨7, (.pointer (some ⟨b83, 0, none⟩)), [], rfl, S, hz_of rfl, ?_⟩⟩
    exact nodePerm (nd2 b82 b83 ad48 cp49 ad43 cp44) [1, 0, 2, 3, 4, 5] [1, 0, 2, 3] [0, 1, 2, 3, 4, 5, 6, 7] (by decide) (by decide) rfl rfl rfl
  refine nodeCut (fun N W L D => ∀ b90 b84 ad43 cp44, N [5, 4, 1] ((5, 8, .pointer (some ⟨b90, 0, none⟩)) :: (4, 7, .pointer (some ⟨b84, 0, none⟩)) :: (1, 28, .agg #[iv r24.W, iv r24.H, .slice ad43 r24.Bits.length cp44]) :: W) ((eBox b90 24 [iv 0, iv 0, .slice none 0 0]) :: (eBox b84 24 [iv 0, iv 0, .slice none 0 0]) :: L) ((fRep (rL rB) (.slice ad43 r24.Bits.length cp44) r24.Bits) :: (fRep r_api_Grid (.agg #[iv r24.W, iv r24.H, .slice ad43 r24.Bits.length cp44]) r24) :: (fRep r_api_Grid (.agg #[iv p0.W, iv p0.H, .slice ad3 p0.Bits.length cp4]) p0) :: D)) (fun b90 b84 ad43 cp44 => ?_) fun nd5 => ?_
  · refine node_by (A := anc_raddlelaw46_CompareGrids_0) (nf := [1, 3, 4, 5, 6, 7]) (Y := [5, 4, 1]) 8 (by kernel_rfl) (by kernel_rfl) (by kernel_rfl) (by kernel_rfl) (by kernel_rfl) [5, 4, 1, 0, 2] (by kernel_rfl) (by decide) (by decide) (aD 0 7 1 (by decide) (aY 1 6 (by decide) (aF 2 5 (by decide) ?_ (aN 3 4 (by decide) ?_ (aY 4 3 (by decide) (aY 5 2 (by decide) (aB 6 1 3 (by decide) (aB 7 0 3 (by decide) (trivial))))))))) [] (fun q hq => by cases hq) (fun hY => absurd (hY 3 (by decide)) (by decide))
    · refine fI 29 (.agg #[iv p1.W, iv p1.H, .slice ad7 p1.Bits.length cp8]) [(4, .pointer (some ⟨b11, 0, none⟩))] 4 [none] rfl rfl rfl rfl rfl rfl fun G a w S => ?_
      refine sLoadN (p := b11) (off := 0) (T := 24) (vs := [iv p1.W, iv p1.H, .slice ad7 p1.Bits.length cp8]) 3 [iv p1.W, iv p1.H, .slice ad7 p1.Bits.length cp8] S (wN rfl) rfl rfl rfl rfl rfl rfl rfl (lb rfl) fun a S => ?_
      exact leafL ⟨rfl, S⟩
    refine ⟨_, [(29, .agg #[iv p1.W, iv p1.H, .slice ad7 p1.Bits.length cp8])], rfl, (srcs_of [some 4] rfl rfl rfl), fun G a w S => ?_⟩
    have S := S.learn (fRep r_api_Grid (.agg #[iv p1.W, iv p1.H, .slice ad7 p1.Bits.length cp8]) p1) ⟨_, rfl, S.mem.know (i := 4) (e := fRep (rL rB) (.slice ad7 p1.Bits.length cp8) p1.Bits) rfl⟩
    refine sCall (X := Value) (f := 13) (vs := [.agg #[iv p1.W, iv p1.H, .slice ad7 p1.Bits.length cp8]]) (val := c_raddleref01_Twin_val r31) (B' := fun _ => []) (D' := c_raddleref01_Twin_D r31) [] [eBox b90 24 [iv 0, iv 0, .slice none 0 0], eBox b84 24 [iv 0, iv 0, .slice none 0 0], eBox b10 24 [iv p0.W, iv p0.H, .slice ad3 p0.Bits.length cp4], eBox b11 24 [iv p1.W, iv p1.H, .slice ad7 p1.Bits.length cp8]] [fRep r_api_Grid (.agg #[iv p1.W, iv p1.H, .slice ad7 p1.Bits.length cp8]) p1] [0, 1, 2, 3] [0] S (wN rfl) rfl callee13 rfl (by decide) rfl rfl (fun E1 w1 S1 => c_raddleref01_Twin E1 w1 p1 (.agg #[iv p1.W, iv p1.H, .slice ad7 p1.Bits.length cp8]) r31 hx32 S1) rfl (lb rfl) fun u91 a w S => ?_
    obtain ⟨u92, rfl, hu93⟩ := S.mem.know (i := 0) (e := fRep r_api_Grid (u91) r31) rfl
    have S := S.learn (fRep (rL rB) u92 r31.Bits) hu93
    obtain ⟨ad94, cp95, _, rfl, _⟩ := hu93
    refine leafL ⟨rfl, _, _, .inl ⟨30, (.agg #[iv r31.W, iv r31.H, .slice ad94 r31.Bits.length cp95]), [], rfl, S, hz_of rfl, ?_⟩⟩
    exact nodePerm (nd2 b90 b84 ad94 cp95 ad43 cp44) [1, 2, 0, 3, 4, 5] [0, 1, 2, 3] [0, 1, 2, 3, 4, 5, 6, 7] (by decide) (by decide) rfl rfl rfl
  refine nodeCut (fun N W L D => ∀ b84 ad43 cp44, N [4, 1] ((4, 7, .pointer (some ⟨b84, 0, none⟩)) :: (1, 28, .agg #[iv r24.W, iv r24.H, .slice ad43 r24.Bits.length cp44]) :: W) ((eBox b84 24 [iv 0, iv 0, .slice none 0 0]) :: L) ((fRep (rL rB) (.slice ad43 r24.Bits.length cp44) r24.Bits) :: (fRep r_api_Grid (.agg #[iv r24.W, iv r24.H, .slice ad43 r24.Bits.length cp44]) r24) :: (fRep r_api_Grid (.agg #[iv p0.W, iv p0.H, .slice ad3 p0.Bits.length cp4]) p0) :: D)) (fun b84 ad43 cp44 => ?_) fun nd4 => ?_
  · refine node_by (A := anc_raddlelaw46_CompareGrids_0) (nf := [1, 3, 4, 5, 6, 7]) (Y := [4, 1]) 8 (by kernel_rfl) (by kernel_rfl) (by kernel_rfl) (by kernel_rfl) (by kernel_rfl) [4, 1, 0, 2] (by kernel_rfl) (by decide) (by decide) (aD 0 7 1 (by decide) (aY 1 6 (by decide) (aF 2 5 (by decide) ?_ (aN 3 4 (by decide) ?_ (aY 4 3 (by decide) (aN 5 2 (by decide) ?_ (aB 6 1 3 (by decide) (aB 7 0 3 (by decide) (trivial))))))))) [] (fun q hq => by cases hq) (fun hY => absurd (hY 3 (by decide)) (by decide))
    · refine fI 29 (.agg #[iv p1.W, iv p1.H, .slice ad7 p1.Bits.length cp8]) [(4, .pointer (some ⟨b11, 0, none⟩))] 3 [none] rfl rfl rfl rfl rfl rfl fun G a w S => ?_
      refine sLoadN (p := b11) (off := 0) (T := 24) (vs := [iv p1.W, iv p1.H, .slice ad7 p1.Bits.length cp8]) 2 [iv p1.W, iv p1.H, .slice ad7 p1.Bits.length cp8] S (wN rfl) rfl rfl rfl rfl rfl rfl rfl (lb rfl) fun a S => ?_
      exact leafL ⟨rfl, S⟩
    · refine ⟨_, [(29, .agg #[iv p1.W, iv p1.H, .slice ad7 p1.Bits.length cp8])], rfl, (srcs_of [some 3] rfl rfl rfl), fun G a w S => ?_⟩
      have S := S.learn (fRep r_api_Grid (.agg #[iv p1.W, iv p1.H, .slice ad7 p1.Bits.length cp8]) p1) ⟨_, rfl, S.mem.know (i := 4) (e := fRep (rL rB) (.slice ad7 p1.Bits.length cp8) p1.Bits) rfl⟩
      refine sCall (X := Value) (f := 13) (vs := [.agg #[iv p1.W, iv p1.H, .slice ad7 p1.Bits.length cp8]]) (val := c_raddleref01_Twin_val r31) (B' := fun _ => []) (D' := c_raddleref01_Twin_D r31) [] [eBox b84 24 [iv 0, iv 0, .slice none 0 0], eBox b10 24 [iv p0.W, iv p0.H, .slice ad3 p0.Bits.length cp4], eBox b11 24 [iv p1.W, iv p1.H, .slice ad7 p1.Bits.length cp8]] [fRep r_api_Grid (.agg #[iv p1.W, iv p1.H, .slice ad7 p1.Bits.length cp8]) p1] [0, 1, 2] [0] S (wN rfl) rfl callee13 rfl (by decide) rfl rfl (fun E1 w1 S1 => c_raddleref01_Twin E1 w1 p1 (.agg #[iv p1.W, iv p1.H, .slice ad7 p1.Bits.length cp8]) r31 hx32 S1) rfl (lb rfl) fun u85 a w S => ?_
      obtain ⟨u86, rfl, hu87⟩ := S.mem.know (i := 0) (e := fRep r_api_Grid (u85) r31) rfl
      have S := S.learn (fRep (rL rB) u86 r31.Bits) hu87
      obtain ⟨ad88, cp89, _, rfl, _⟩ := hu87
      refine leafL ⟨rfl, _, _, .inl ⟨30, (.agg #[iv r31.W, iv r31.H, .slice ad88 r31.Bits.length cp89]), [], rfl, S, hz_of rfl, ?_⟩⟩
      exact nodePerm (nd1 b84 ad88 cp89 ad43 cp44) [1, 0, 2, 3, 4] [0, 1, 2] [0, 1, 2, 3, 4, 5, 6, 7] (by decide) (by decide) rfl rfl rfl
    refine ⟨_, [], rfl, (srcs_of [] rfl rfl rfl), fun G a w S => ?_⟩
    refine sAlloc (.agg #[iv 0, iv 0, .slice none 0 0]) S (wN rfl) rfl rfl [iv 0, iv 0, .slice none 0 0] rfl rfl (lb rfl) fun a b90 w S => ?_
    refine leafL ⟨rfl, _, _, .inl ⟨8, (.pointer (some ⟨b90, 0, none⟩)), [], rfl, S, hz_of rfl, ?_⟩⟩
    exact nd5 b90 b84 ad43 cp44
  refine nodeCut (fun N W L D => ∀ b96 ad43 cp44, N [5, 1] ((5, 8, .pointer (some ⟨b96, 0, none⟩)) :: (1, 28, .agg #[iv r24.W, iv r24.H, .slice ad43 r24.Bits.length cp44]) :: W) ((eBox b96 24 [iv 0, iv 0, .slice none 0 0]) :: L) ((fRep (rL rB) (.slice ad43 r24.Bits.length cp44) r24.Bits) :: (fRep r_api_Grid (.agg #[iv r24.W, iv r24.H, .slice ad43 r24.Bits.length cp44]) r24) :: (fRep r_api_Grid (.agg #[iv p0.W, iv p0.H, .slice ad3 p0.Bits.length cp4]) p0) :: D)) (fun b96 ad43 cp44 => ?_) fun nd6 => ?_
  · refine node_by (A := anc_raddlelaw46_CompareGrids_0) (nf := [1, 3, 4, 5, 6, 7]) (Y := [5, 1]) 8 (by kernel_rfl) (by kernel_rfl) (by kernel_rfl) (by kernel_rfl) (by kernel_rfl) [5, 1, 0, 2] (by kernel_rfl) (by decide) (by decide) (aD 0 7 1 (by decide) (aY 1 6 (by decide) (aF 2 5 (by decide) ?_ (aN 3 4 (by decide) ?_ (aN 4 3 (by decide) ?_ (aY 5 2 (by decide) (aB 6 1 3 (by decide) (aB 7 0 3 (by decide) (trivial))))))))) [] (fun q hq => by cases hq) (fun hY => absurd (hY 3 (by decide)) (by decide))
    · refine fI 29 (.agg #[iv p1.W, iv p1.H, .slice ad7 p1.Bits.length cp8]) [(4, .pointer (some ⟨b11, 0, none⟩))] 3 [none] rfl rfl rfl rfl rfl rfl fun G a w S => ?_
      refine sLoadN (p := b11) (off := 0) (T := 24) (vs := [iv p1.W, iv p1.H, .slice ad7 p1.Bits.length cp8]) 2 [iv p1.W, iv p1.H, .slice ad7 p1.Bits.length cp8] S (wN rfl) rfl rfl rfl rfl rfl rfl rfl (lb rfl) fun a S => ?_
      exact leafL ⟨rfl, S⟩
    · refine ⟨_, [(29, .agg #[iv p1.W, iv p1.H, .slice ad7 p1.Bits.length cp8])], rfl, (srcs_of [some 3] rfl rfl rfl), fun G a w S => ?_⟩
      have S := S.learn (fRep r_api_Grid (.agg #[iv p1.W, iv p1.H, .slice ad7 p1.Bits.length cp8]) p1) ⟨_, rfl, S.mem.know (i := 4) (e := fRep (rL rB) (.slice ad7 p1.Bits.length cp8) p1.Bits) rfl⟩
      refine sCall (X := Value) (f := 13) (vs := [.agg #[iv p1.W, iv p1.H, .slice ad7 p1.Bits.length cp8]]) (val := c_raddleref01_Twin_val r31) (B' := fun _ => []) (D' := c_raddleref01_Twin_D r31) [] [eBox b96 24 [iv 0, iv 0, .slice none 0 0], eBox b10 24 [iv p0.W, iv p0.H, .slice ad3 p0.Bits.length cp4], eBox b11 24 [iv p1.W, iv p1.H, .slice ad7 p1.Bits.length cp8]] [fRep r_api_Grid (.agg #[iv p1.W, iv p1.H, .slice ad7 p1.Bits.length cp8]) p1] [0, 1, 2] [0] S (wN rfl) rfl callee13 rfl (by decide) rfl rfl (fun E1 w1 S1 => c_raddleref01_Twin E1 w1 p1 (.agg #[iv p1.W, iv p1.H, .slice ad7 p1.Bits.length cp8]) r31 hx32 S1) rfl (lb rfl) fun u97 a w S => ?_
      obtain ⟨u98, rfl, hu99⟩ := S.mem.know (i := 0) (e := fRep r_api_Grid (u97) r31) rfl
      have S := S.learn (fRep (rL rB) u98 r31.Bits) hu99
      obtain ⟨ad100, cp101, _, rfl, _⟩ := hu99
      refine leafL ⟨rfl, _, _, .inl ⟨30, (.agg #[iv r31.W, iv r31.H, .slice ad100 r31.Bits.length cp101]), [], rfl, S, hz_of rfl, ?_⟩⟩
      exact nodePerm (nd3 b96 ad100 cp101 ad43 cp44) [1, 0, 2, 3, 4] [0, 1, 2] [0, 1, 2, 3, 4, 5, 6, 7] (by decide) (by decide) rfl rfl rfl
    refine ⟨_, [], rfl, (srcs_of [] rfl rfl rfl), fun G a w S => ?_⟩
    refine sAlloc (.agg #[iv 0, iv 0, .slice none 0 0]) S (wN rfl) rfl rfl [iv 0, iv 0, .slice none 0 0] rfl rfl (lb rfl) fun a b102 w S => ?_
    refine leafL ⟨rfl, _, _, .inl ⟨7, (.pointer (some ⟨b102, 0, none⟩)), [], rfl, S, hz_of rfl, ?_⟩⟩
    exact nodePerm (nd5 b96 b102 ad43 cp44) [1, 0, 2, 3, 4] [1, 0, 2, 3] [0, 1, 2, 3, 4] (by decide) (by decide) rfl rfl rfl
  refine nodeCut (fun N W L D => ∀ b109 b103, N [5, 4] ((5, 8, .pointer (some ⟨b109, 0, none⟩)) :: (4, 7, .pointer (some ⟨b103, 0, none⟩)) :: W) ((eBox b109 24 [iv 0, iv 0, .slice none 0 0]) :: (eBox b103 24 [iv 0, iv 0, .slice none 0 0]) :: L) (D)) (fun b109 b103 => ?_) fun nd7 => ?_
  · refine node_by (A := anc_raddlelaw46_CompareGrids_0) (nf := [1, 3, 4, 5, 6, 7]) (Y := [5, 4]) 8 (by kernel_rfl) (by kernel_rfl) (by kernel_rfl) (by kernel_rfl) (by kernel_rfl) [5, 4, 0, 2] (by kernel_rfl) (by decide) (by decide) (aF 0 7 (by decide) ?_ (aN 1 6 (by decide) ?_ (aF 2 5 (by decide) ?_ (aB 3 4 1 (by decide) (aY 4 3 (by decide) (aY 5 2 (by decide) (aB 6 1 1 (by decide) (aB 7 0 1 (by decide) (trivial))))))))) [] (fun q hq => by cases hq) (fun hY => absurd (hY 1 (by decide)) (by decide))
    · refine fI 27 (.agg #[iv p0.W, iv p0.H, .slice ad3 p0.Bits.length cp4]) [(3, .pointer (some ⟨b10, 0, none⟩))] 2 [none] rfl rfl rfl rfl rfl rfl fun G a w S => ?_
      refine sLoadN (p := b10) (off := 0) (T := 24) (vs := [iv p0.W, iv p0.H, .slice ad3 p0.Bits.length cp4]) 2 [iv p0.W, iv p0.H, .slice ad3 p0.Bits.length cp4] S (wN rfl) rfl rfl rfl rfl rfl rfl rfl (lb rfl) fun a S => ?_
      exact leafL ⟨rfl, S⟩
    · refine ⟨_, [(27, .agg #[iv p0.W, iv p0.H, .slice ad3 p0.Bits.length cp4])], rfl, (srcs_of [some 2] rfl rfl rfl), fun G a w S => ?_⟩
      have S := S.learn (fRep r_api_Grid (.agg #[iv p0.W, iv p0.H, .slice ad3 p0.Bits.length cp4]) p0) ⟨_, rfl, S.mem.know (i := 0) (e := fRep (rL rB) (.slice ad3 p0.Bits.length cp4) p0.Bits) rfl⟩
      refine sCall (X := Value) (f := 13) (vs := [.agg #[iv p0.W, iv p0.H, .slice ad3 p0.Bits.length cp4]]) (val := c_raddleref01_Twin_val r24) (B' := fun _ => []) (D' := c_raddleref01_Twin_D r24) [] [eBox b109 24 [iv 0, iv 0, .slice none 0 0], eBox b103 24 [iv 0, iv 0, .slice none 0 0], eBox b10 24 [iv p0.W, iv p0.H, .slice ad3 p0.Bits.length cp4], eBox b11 24 [iv p1.W, iv p1.H, .slice ad7 p1.Bits.length cp8]] [fRep r_api_Grid (.agg #[iv p0.W, iv p0.H, .slice ad3 p0.Bits.length cp4]) p0] [0, 1, 2, 3] [0] S (wN rfl) rfl callee13 rfl (by decide) rfl rfl (fun E1 w1 S1 => c_raddleref01_Twin E1 w1 p0 (.agg #[iv p0.W, iv p0.H, .slice ad3 p0.Bits.length cp4]) r24 hx25 S1) rfl (lb rfl) fun u110 a w S => ?_
      obtain ⟨u111, rfl, hu112⟩ := S.mem.know (i := 0) (e := fRep r_api_Grid (u110) r24) rfl
      have S := S.learn (fRep (rL rB) u111 r24.Bits) hu112
      obtain ⟨ad113, cp114, _, rfl, _⟩ := hu112
      refine leafL ⟨rfl, _, _, .inl ⟨28, (.agg #[iv r24.W, iv r24.H, .slice ad113 r24.Bits.length cp114]), [], rfl, S, hz_of rfl, ?_⟩⟩
      exact nodePerm (nd5 b109 b103 ad113 cp114) [1, 2, 0, 3, 4] [0, 1, 2, 3] [0, 1, 2, 3, 4] (by decide) (by decide) rfl rfl rfl
    refine fI 29 (.agg #[iv p1.W, iv p1.H, .slice ad7 p1.Bits.length cp8]) [(4, .pointer (some ⟨b11, 0, none⟩))] 3 [none] rfl rfl rfl rfl rfl rfl fun G a w S => ?_
    refine sLoadN (p := b11) (off := 0) (T := 24) (vs := [iv p1.W, iv p1.H, .slice ad7 p1.Bits.length cp8]) 3 [iv p1.W, iv p1.H, .slice ad7 p1.Bits.length cp8] S (wN rfl) rfl rfl rfl rfl rfl rfl rfl (lb rfl) fun a S => ?_
    exact leafL ⟨rfl, S⟩
  refine node_by (A := anc_raddlelaw46_CompareGrids_0) (nf := [1, 3, 4, 5, 6, 7]) (Y := []) (W := [(0, 27, .agg #[iv p0.W, iv p0.H, .slice ad3 p0.Bits.length cp4]), (2, 29, .agg #[iv p1.W, iv p1.H, .slice ad7 p1.Bits.length cp8])]) 8 (by kernel_rfl) (by kernel_rfl) (by kernel_rfl) (by kernel_rfl) (by kernel_rfl) [0, 2] (by kernel_rfl) (by decide) (by decide) (aF 0 7 (by decide) ?_ (aN 1 6 (by decide) ?_ (aF 2 5 (by decide) ?_ (aB 3 4 1 (by decide) (aN 4 3 (by decide) ?_ (aN 5 2 (by decide) ?_ (aB 6 1 1 (by decide) (aB 7 0 1 (by decide) (trivial))))))))) [] (fun q hq => by cases hq) (fun hY => absurd (hY 1 (by decide)) (by decide))
  · refine fI 27 (.agg #[iv p0.W, iv p0.H, .slice ad3 p0.Bits.length cp4]) [(3, .pointer (some ⟨b10, 0, none⟩))] 0 [none] rfl rfl rfl rfl rfl rfl fun G a w S => ?_
    refine sLoadN (p := b10) (off := 0) (T := 24) (vs := [iv p0.W, iv p0.H, .slice ad3 p0.Bits.length cp4]) 0 [iv p0.W, iv p0.H, .slice ad3 p0.Bits.length cp4] S (wN rfl) rfl rfl rfl rfl rfl rfl rfl (lb rfl) fun a S => ?_
    exact leafL ⟨rfl, S⟩
  · refine ⟨_, [(27, .agg #[iv p0.W, iv p0.H, .slice ad3 p0.Bits.length cp4])], rfl, (srcs_of [some 0] rfl rfl rfl), fun G a w S => ?_⟩
    have S := S.learn (fRep r_api_Grid (.agg #[iv p0.W, iv p0.H, .slice ad3 p0.Bits.length cp4]) p0) ⟨_, rfl, S.mem.know (i := 0) (e := fRep (rL rB) (.slice ad3 p0.Bits.length cp4) p0.Bits) rfl⟩
    refine sCall (X := Value) (f := 13) (vs := [.agg #[iv p0.W, iv p0.H, .slice ad3 p0.Bits.length cp4]]) (val := c_raddleref01_Twin_val r24) (B' := fun _ => []) (D' := c_raddleref01_Twin_D r24) [] [eBox b10 24 [iv p0.W, iv p0.H, .slice ad3 p0.Bits.length cp4], eBox b11 24 [iv p1.W, iv p1.H, .slice ad7 p1.Bits.length cp8]] [fRep r_api_Grid (.agg #[iv p0.W, iv p0.H, .slice ad3 p0.Bits.length cp4]) p0] [0, 1] [0] S (wN rfl) rfl callee13 rfl (by decide) rfl rfl (fun E1 w1 S1 => c_raddleref01_Twin E1 w1 p0 (.agg #[iv p0.W, iv p0.H, .slice ad3 p0.Bits.length cp4]) r24 hx25 S1) rfl (lb rfl) fun u40 a w S => ?_
    obtain ⟨u41, rfl, hu42⟩ := S.mem.know (i := 0) (e := fRep r_api_Grid (u40) r24) rfl
    have S := S.learn (fRep (rL rB) u41 r24.Bits) hu42
    obtain ⟨ad43, cp44, _, rfl, _⟩ := hu42
    refine leafL ⟨rfl, _, _, .inl ⟨28, (.agg #[iv r24.W, iv r24.H, .slice ad43 r24.Bits.length cp44]), [], rfl, S, hz_of rfl, ?_⟩⟩
    refine node_by (A := anc_raddlelaw46_CompareGrids_0) (nf := [1, 3, 4, 5, 6, 7]) (Y := [1]) 8 (by kernel_rfl) (by kernel_rfl) (by kernel_rfl) (by kernel_rfl) (by kernel_rfl) [1, 0, 2] (by kernel_rfl) (by decide) (by decide) (aD 0 7 1 (by decide) (aY 1 6 (by decide) (aF 2 5 (by decide) ?_ (aN 3 4 (by decide) ?_ (aN 4 3 (by decide) ?_ (aN 5 2 (by decide) ?_ (aB 6 1 3 (by decide) (aB 7 0 3 (by decide) (trivial))))))))) [] (fun q hq => by cases hq) (fun hY => absurd (hY 3 (by decide)) (by decide))
    · refine fI 29 (.agg #[iv p1.W, iv p1.H, .slice ad7 p1.Bits.length cp8]) [(4, .pointer (some ⟨b11, 0, none⟩))] 2 [none] rfl rfl rfl rfl rfl rfl fun G a w S => ?_
      refine sLoadN (p := b11) (off := 0) (T := 24) (vs := [iv p1.W, iv p1.H, .slice ad7 p1.Bits.length cp8]) 1 [iv p1.W, iv p1.H, .slice ad7 p1.Bits.length cp8] S (wN rfl) rfl rfl rfl rfl rfl rfl rfl (lb rfl) fun a S => ?_
      exact leafL ⟨rfl, S⟩
    · refine ⟨_, [(29, .agg #[iv p1.W, iv p1.H, .slice ad7 p1.Bits.length cp8])], rfl, (srcs_of [some 2] rfl rfl rfl), fun G a w S => ?_⟩
      have S := S.learn (fRep r_api_Grid (.agg #[iv p1.W, iv p1.H, .slice ad7 p1.Bits.length cp8]) p1) ⟨_, rfl, S.mem.know (i := 4) (e := fRep (rL rB) (.slice ad7 p1.Bits.length cp8) p1.Bits) rfl⟩
      refine sCall (X := Value) (f := 13) (vs := [.agg #[iv p1.W, iv p1.H, .slice ad7 p1.Bits.length cp8]]) (val := c_raddleref01_Twin_val r31) (B' := fun _ => []) (D' := c_raddleref01_Twin_D r31) [] [eBox b10 24 [iv p0.W, iv p0.H, .slice ad3 p0.Bits.length cp4], eBox b11 24 [iv p1.W, iv p1.H, .slice ad7 p1.Bits.length cp8]] [fRep r_api_Grid (.agg #[iv p1.W, iv p1.H, .slice ad7 p1.Bits.length cp8]) p1] [0, 1] [0] S (wN rfl) rfl callee13 rfl (by decide) rfl rfl (fun E1 w1 S1 => c_raddleref01_Twin E1 w1 p1 (.agg #[iv p1.W, iv p1.H, .slice ad7 p1.Bits.length cp8]) r31 hx32 S1) rfl (lb rfl) fun u45 a w S => ?_
      obtain ⟨u46, rfl, hu47⟩ := S.mem.know (i := 0) (e := fRep r_api_Grid (u45) r31) rfl
      have S := S.learn (fRep (rL rB) u46 r31.Bits) hu47
      obtain ⟨ad48, cp49, _, rfl, _⟩ := hu47
      refine leafL ⟨rfl, _, _, .inl ⟨30, (.agg #[iv r31.W, iv r31.H, .slice ad48 r31.Bits.length cp49]), [], rfl, S, hz_of rfl, ?_⟩⟩
      refine node_by (A := anc_raddlelaw46_CompareGrids_0) (nf := [1, 3, 4, 5, 6, 7]) (Y := [3, 1]) 8 (by kernel_rfl) (by kernel_rfl) (by kernel_rfl) (by kernel_rfl) (by kernel_rfl) [3, 1, 0, 2] (by kernel_rfl) (by decide) (by decide) (aD 0 7 3 (by decide) (aY 1 6 (by decide) (aD 2 5 3 (by decide) (aY 3 4 (by decide) (aN 4 3 (by decide) ?_ (aN 5 2 (by decide) ?_ (aB 6 1 4 (by decide) (aB 7 0 4 (by decide) (trivial))))))))) [] (fun q hq => by cases hq) (fun hY => absurd (hY 4 (by decide)) (by decide))
      · refine ⟨_, [], rfl, (srcs_of [] rfl rfl rfl), fun G a w S => ?_⟩
        refine sAlloc (.agg #[iv 0, iv 0, .slice none 0 0]) S (wN rfl) rfl rfl [iv 0, iv 0, .slice none 0 0] rfl rfl (lb rfl) fun a b50 w S => ?_
        refine leafL ⟨rfl, _, _, .inl ⟨7, (.pointer (some ⟨b50, 0, none⟩)), [], rfl, S, hz_of rfl, ?_⟩⟩
        exact nd1 b50 ad48 cp49 ad43 cp44
      refine ⟨_, [], rfl, (srcs_of [] rfl rfl rfl), fun G a w S => ?_⟩
      refine sAlloc (.agg #[iv 0, iv 0, .slice none 0 0]) S (wN rfl) rfl rfl [iv 0, iv 0, .slice none 0 0] rfl rfl (lb rfl) fun a b82 w S => ?_
      refine leafL ⟨rfl, _, _, .inl ⟨8, (.pointer (some ⟨b82, 0, none⟩)), [], rfl, S, hz_of rfl, ?_⟩⟩
      exact nd3 b82 ad48 cp49 ad43 cp44
    · refine ⟨_, [], rfl, (srcs_of [] rfl rfl rfl), fun G a w S => ?_⟩
      refine sAlloc (.agg #[iv 0, iv 0, .slice none 0 0]) S (wN rfl) rfl rfl [iv 0, iv 0, .slice none 0 0] rfl rfl (lb rfl) fun a b84 w S => ?_
      refine leafL ⟨rfl, _, _, .inl ⟨7, (.pointer (some ⟨b84, 0, none⟩)), [], rfl, S, hz_of rfl, ?_⟩⟩
      exact nd4 b84 ad43 cp44
    refine ⟨_, [], rfl, (srcs_of [] rfl rfl rfl), fun G a w S => ?_⟩
    refine sAlloc (.agg #[iv 0, iv 0, .slice none 0 0]) S (wN rfl) rfl rfl [iv 0, iv 0, .slice none 0 0] rfl rfl (lb rfl) fun a b96 w S => ?_
    refine leafL ⟨rfl, _, _, .inl ⟨8, (.pointer (some ⟨b96, 0, none⟩)), [], rfl, S, hz_of rfl, ?_⟩⟩
    exact nd6 b96 ad43 cp44
  · refine fI 29 (.agg #[iv p1.W, iv p1.H, .slice ad7 p1.Bits.length cp8]) [(4, .pointer (some ⟨b11, 0, none⟩))] 1 [none] rfl rfl rfl rfl rfl rfl fun G a w S => ?_
    refine sLoadN (p := b11) (off := 0) (T := 24) (vs := [iv p1.W, iv p1.H, .slice ad7 p1.Bits.length cp8]) 1 [iv p1.W, iv p1.H, .slice ad7 p1.Bits.length cp8] S (wN rfl) rfl rfl rfl rfl rfl rfl rfl (lb rfl) fun a S => ?_
    exact leafL ⟨rfl, S⟩
  · refine ⟨_, [], rfl, (srcs_of [] rfl rfl rfl), fun G a w S => ?_⟩
    refine sAlloc (.agg #[iv 0, iv 0, .slice none 0 0]) S (wN rfl) rfl rfl [iv 0, iv 0, .slice none 0 0] rfl rfl (lb rfl) fun a b103 w S => ?_
    refine leafL ⟨rfl, _, _, .inl ⟨7, (.pointer (some ⟨b103, 0, none⟩)), [], rfl, S, hz_of rfl, ?_⟩⟩
    refine node_by (A := anc_raddlelaw46_CompareGrids_0) (nf := [1, 3, 4, 5, 6, 7]) (Y := [4]) 8 (by kernel_rfl) (by kernel_rfl) (by kernel_rfl) (by kernel_rfl) (by kernel_rfl) [4, 0, 2] (by kernel_rfl) (by decide) (by decide) (aF 0 7 (by decide) ?_ (aN 1 6 (by decide) ?_ (aF 2 5 (by decide) ?_ (aB 3 4 1 (by decide) (aY 4 3 (by decide) (aN 5 2 (by decide) ?_ (aB 6 1 1 (by decide) (aB 7 0 1 (by decide) (trivial))))))))) [] (fun q hq => by cases hq) (fun hY => absurd (hY 1 (by decide)) (by decide))
    · refine fI 27 (.agg #[iv p0.W, iv p0.H, .slice ad3 p0.Bits.length cp4]) [(3, .pointer (some ⟨b10, 0, none⟩))] 1 [none] rfl rfl rfl rfl rfl rfl fun G a w S => ?_
      refine sLoadN (p := b10) (off := 0) (T := 24) (vs := [iv p0.W, iv p0.H, .slice ad3 p0.Bits.length cp4]) 1 [iv p0.W, iv p0.H, .slice ad3 p0.Bits.length cp4] S (wN rfl) rfl rfl rfl rfl rfl rfl rfl (lb rfl) fun a S => ?_
      exact leafL ⟨rfl, S⟩
    · refine ⟨_, [(27, .agg #[iv p0.W, iv p0.H, .slice ad3 p0.Bits.length cp4])], rfl, (srcs_of [some 1] rfl rfl rfl), fun G a w S => ?_⟩
      have S := S.learn (fRep r_api_Grid (.agg #[iv p0.W, iv p0.H, .slice ad3 p0.Bits.length cp4]) p0) ⟨_, rfl, S.mem.know (i := 0) (e := fRep (rL rB) (.slice ad3 p0.Bits.length cp4) p0.Bits) rfl⟩
      refine sCall (X := Value) (f := 13) (vs := [.agg #[iv p0.W, iv p0.H, .slice ad3 p0.Bits.length cp4]]) (val := c_raddleref01_Twin_val r24) (B' := fun _ => []) (D' := c_raddleref01_Twin_D r24) [] [eBox b103 24 [iv 0, iv 0, .slice none 0 0], eBox b10 24 [iv p0.W, iv p0.H, .slice ad3 p0.Bits.length cp4], eBox b11 24 [iv p1.W, iv p1.H, .slice ad7 p1.Bits.length cp8]] [fRep r_api_Grid (.agg #[iv p0.W, iv p0.H, .slice ad3 p0.Bits.length cp4]) p0] [0, 1, 2] [0] S (wN rfl) rfl callee13 rfl (by decide) rfl rfl (fun E1 w1 S1 => c_raddleref01_Twin E1 w1 p0 (.agg #[iv p0.W, iv p0.H, .slice ad3 p0.Bits.length cp4]) r24 hx25 S1) rfl (lb rfl) fun u104 a w S => ?_
      obtain ⟨u105, rfl, hu106⟩ := S.mem.know (i := 0) (e := fRep r_api_Grid (u104) r24) rfl
      have S := S.learn (fRep (rL rB) u105 r24.Bits) hu106
      obtain ⟨ad107, cp108, _, rfl, _⟩ := hu106
      refine leafL ⟨rfl, _, _, .inl ⟨28, (.agg #[iv r24.W, iv r24.H, .slice ad107 r24.Bits.length cp108]), [], rfl, S, hz_of rfl, ?_⟩⟩
      exact nodePerm (nd4 b103 ad107 cp108) [1, 0, 2, 3] [0, 1, 2] [0, 1, 2, 3, 4] (by decide) (by decide) rfl rfl rfl
    · refine fI 29 (.agg #[iv p1.W, iv p1.H, .slice ad7 p1.Bits.length cp8]) [(4, .pointer (some ⟨b11, 0, none⟩))] 2 [none] rfl rfl rfl rfl rfl rfl fun G a w S => ?_
      refine sLoadN (p := b11) (off := 0) (T := 24) (vs := [iv p1.W, iv p1.H, .slice ad7 p1.Bits.length cp8]) 2 [iv p1.W, iv p1.H, .slice ad7 p1.Bits.length cp8] S (wN rfl) rfl rfl rfl rfl rfl rfl rfl (lb rfl) fun a S => ?_
      exact leafL ⟨rfl, S⟩
    refine ⟨_, [], rfl, (srcs_of [] rfl rfl rfl), fun G a w S => ?_⟩
    refine sAlloc (.agg #[iv 0, iv 0, .slice none 0 0]) S (wN rfl) rfl rfl [iv 0, iv 0, .slice none 0 0] rfl rfl (lb rfl) fun a b109 w S => ?_
    refine leafL ⟨rfl, _, _, .inl ⟨8, (.pointer (some ⟨b109, 0, none⟩)), [], rfl, S, hz_of rfl, ?_⟩⟩
    exact nd7 b109 b103
  refine ⟨_, [], rfl, (srcs_of [] rfl rfl rfl), fun G a w S => ?_⟩
  refine sAlloc (.agg #[iv 0, iv 0, .slice none 0 0]) S (wN rfl) rfl rfl [iv 0, iv 0, .slice none 0 0] rfl rfl (lb rfl) fun a b115 w S => ?_
  refine leafL ⟨rfl, _, _, .inl ⟨8, (.pointer (some ⟨b115, 0, none⟩)), [], rfl, S, hz_of rfl, ?_⟩⟩
  refine node_by (A := anc_raddlelaw46_CompareGrids_0) (nf := [1, 3, 4, 5, 6, 7]) (Y := [5]) 8 (by kernel_rfl) (by kernel_rfl) (by kernel_rfl) (by kernel_rfl) (by kernel_rfl) [5, 0, 2] (by kernel_rfl) (by decide) (by decide) (aF 0 7 (by decide) ?_ (aN 1 6 (by decide) ?_ (aF 2 5 (by decide) ?_ (aB 3 4 1 (by decide) (aN 4 3 (by decide) ?_ (aY 5 2 (by decide) (aB 6 1 1 (by decide) (aB 7 0 1 (by decide) (trivial))))))))) [] (fun q hq => by cases hq) (fun hY => absurd (hY 1 (by decide)) (by decide))
  · refine fI 27 (.agg #[iv p0.W, iv p0.H, .slice ad3 p0.Bits.length cp4]) [(3, .pointer (some ⟨b10, 0, none⟩))] 1 [none] rfl rfl rfl rfl rfl rfl fun G a w S => ?_
    refine sLoadN (p := b10) (off := 0) (T := 24) (vs := [iv p0.W, iv p0.H, .slice ad3 p0.Bits.length cp4]) 1 [iv p0.W, iv p0.H, .slice ad3 p0.Bits.length cp4] S (wN rfl) rfl rfl rfl rfl rfl rfl rfl (lb rfl) fun a S => ?_
    exact leafL ⟨rfl, S⟩
  · refine ⟨_, [(27, .agg #[iv p0.W, iv p0.H, .slice ad3 p0.Bits.length cp4])], rfl, (srcs_of [some 1] rfl rfl rfl), fun G a w S => ?_⟩
    have S := S.learn (fRep r_api_Grid (.agg #[iv p0.W, iv p0.H, .slice ad3 p0.Bits.length cp4]) p0) ⟨_, rfl, S.mem.know (i := 0) (e := fRep (rL rB) (.slice ad3 p0.Bits.length cp4) p0.Bits) rfl⟩
    refine sCall (X := Value) (f := 13) (vs := [.agg #[iv p0.W, iv p0.H, .slice ad3 p0.Bits.length cp4]]) (val := c_raddleref01_Twin_val r24) (B' := fun _ => []) (D' := c_raddleref01_Twin_D r24) [] [eBox b115 24 [iv 0, iv 0, .slice none 0 0], eBox b10 24 [iv p0.W, iv p0.H, .slice ad3 p0.Bits.length cp4], eBox b11 24 [iv p1.W, iv p1.H, .slice ad7 p1.Bits.length cp8]] [fRep r_api_Grid (.agg #[iv p0.W, iv p0.H, .slice ad3 p0.Bits.length cp4]) p0] [0, 1, 2] [0] S (wN rfl) rfl callee13 rfl (by decide) rfl rfl (fun E1 w1 S1 => c_raddleref01_Twin E1 w1 p0 (.agg #[iv p0.W, iv p0.H, .slice ad3 p0.Bits.length cp4]) r24 hx25 S1) rfl (lb rfl) fun u116 a w S => ?_
    obtain ⟨u117, rfl, hu118⟩ := S.mem.know (i := 0) (e := fRep r_api_Grid (u116) r24) rfl
    have S := S.learn (fRep (rL rB) u117 r24.Bits) hu118
    obtain ⟨ad119, cp120, _, rfl, _⟩ := hu118
    refine leafL ⟨rfl, _, _, .inl ⟨28, (.agg #[iv r24.W, iv r24.H, .slice ad119 r24.Bits.length cp120]), [], rfl, S, hz_of rfl, ?_⟩⟩
    exact nodePerm (nd6 b115 ad119 cp120) [1, 0, 2, 3] [0, 1, 2] [0, 1, 2, 3, 4] (by decide) (by decide) rfl rfl rfl
  · refine fI 29 (.agg #[iv p1.W, iv p1.H, .slice ad7 p1.Bits.length cp8]) [(4, .pointer (some ⟨b11, 0, none⟩))] 2 [none] rfl rfl rfl rfl rfl rfl fun G a w S => ?_
    refine sLoadN (p := b11) (off := 0) (T := 24) (vs := [iv p1.W, iv p1.H, .slice ad7 p1.Bits.length cp8]) 2 [iv p1.W, iv p1.H, .slice ad7 p1.Bits.length cp8] S (wN rfl) rfl rfl rfl rfl rfl rfl rfl (lb rfl) fun a S => ?_
    exact leafL ⟨rfl, S⟩
  refine ⟨_, [], rfl, (srcs_of [] rfl rfl rfl), fun G a w S => ?_⟩
  refine sAlloc (.agg #[iv 0, iv 0, .slice none 0 0]) S (wN rfl) rfl rfl [iv 0, iv 0, .slice none 0 0] rfl rfl (lb rfl) fun a b121 w S => ?_
  refine leafL ⟨rfl, _, _, .inl ⟨7, (.pointer (some ⟨b121, 0, none⟩)), [], rfl, S, hz_of rfl, ?_⟩⟩
  exact nodePerm (nd7 b115 b121) [1, 0, 2, 3] [1, 0, 2, 3] [0, 1] (by decide) (by decide) rfl rfl rfl

end Go.Proofs.Ytffikfajljbmnaa
namespace Go.Proofs.Ytffikfajljbmnaa
open Go.RowKit
set_option linter.unusedVariables false

instance decGrid : DecidableEq api_Grid := fun a b => decidable_of_iff (a.W = b.W ∧ a.H = b.H ∧ a.Bits = b.Bits) (by cases a; cases b; simp)
structure Gr (g : api_Grid) (w h : Nat) : Prop where
  hw : g.W = (w : Int)
  hh : g.H = (h : Int)
  w0 : 1 ≤ w
  w1 : w ≤ 64
  h0 : 1 ≤ h
  h1 : h ≤ 64
  len : g.Bits.length = w * h
def cell (g : api_Grid) (w x y : Nat) : Bool := g.Bits.getD (y * w + x) false
theorem Gr.at {g : api_Grid} {w h : Nat} (G : Gr g w h) {x y : Nat} (hx : x < w) (hy : y < h) : idxO g.Bits (w64 ((w64 ((y : Int) * g.W)) + (x : Int))) = some (cell g w x y) := by
  have h1 : y * w + x < w * h := by
    have := Nat.mul_le_mul_right w (show y + 1 ≤ h by omega)
    rw [Nat.add_mul, Nat.one_mul, Nat.mul_comm h w] at this
    omega
  have h2 : w * h ≤ 64 * 64 := Nat.mul_le_mul G.w1 G.h1
  have e : ((y : Int) * g.W) = ((y * w : Nat) : Int) := by rw [G.hw]; simp
  have hz : w64 ((y * w : Nat) : Int) = ((y * w : Nat) : Int) := w64_of (by omega) (by omega)
  rw [e, hz, w64_of (by omega) (by omega)]
  exact idxO_of (k := y * w + x) (by omega) (by rw [G.len]; exact h1) |>.trans (by unfold cell; simp [G.len, h1])
def gerr (g : api_Grid) : Int := if 64 < g.W ∨ 64 < g.H then 4 else if g.W < 1 ∨ g.H < 1 ∨ ¬ (g.Bits.length : Int) = g.W * g.H then 8 else 0
theorem gprod {g : api_Grid} (h1 : ¬ (64 < g.W ∨ 64 < g.H)) (h2 : ¬ (g.W < 1 ∨ g.H < 1)) : w64 (g.W * g.H) = g.W * g.H := by
  have := mul_bd (u := g.W) (v := g.H) (a := 64) (b := 64) (by omega) (by omega) (by omega) (by omega)
  exact w64_of (by omega) (by omega)
theorem gcheck_eq (g : api_Grid) : F_grid_Check g = some (gerr g) ∧ F_raddleref01_Check g = some (gerr g) := by
  unfold F_grid_Check F_raddleref01_Check gerr
  by_cases c1 : 64 < g.W ∨ 64 < g.H
  · constructor
    · have : (64 : Int) < (if g.W < g.H then g.H else g.W) := by split <;> omega
      simp only [dT this, if_true, c1]
    · by_cases c2 : 64 < g.W
      · simp only [dT c2, if_true, Option.bind_some, c1]
      · simp only [dF c2, dT (show 64 < g.H by omega), Bool.false_eq_true, if_true, if_false, Option.bind_some, c1]
  · have m1 : ¬ (64 : Int) < (if g.W < g.H then g.H else g.W) := by split <;> omega
    by_cases c2 : g.W < 1 ∨ g.H < 1
    · have m2 : (if g.H < g.W then g.H else g.W) < (1 : Int) := by split <;> omega
      have c3 : g.W < 1 ∨ g.H < 1 ∨ ¬ (g.Bits.length : Int) = g.W * g.H := by omega
      simp only [dF m1, dT m2, dF (show ¬ 64 < g.W by omega), dF (show ¬ 64 < g.H by omega), Bool.false_eq_true, if_true, if_false, Option.bind_some, c1, c3, true_and]
      by_cases c4 : g.W < 1
      · simp only [dT c4, if_true, Option.bind_some]
      · simp only [dF c4, dT (show g.H < 1 by omega), Bool.false_eq_true, if_true, if_false, Option.bind_some]
    · have m2 : ¬ (if g.H < g.W then g.H else g.W) < (1 : Int) := by split <;> omega
      have c4 : ¬ g.W < 1 := by omega
      have c5 : ¬ g.H < 1 := by omega
      have hb : (if 64 < g.W ∨ 64 < g.H then (4 : Int) else if g.W < 1 ∨ g.H < 1 ∨ ¬ (g.Bits.length : Int) = g.W * g.H then 8 else 0) = if (g.Bits.length : Int) = g.W * g.H then 0 else 8 := by
        rw [if_neg c1]
        by_cases c6 : (g.Bits.length : Int) = g.W * g.H
        · rw [if_neg (by omega), if_pos c6]
        · rw [if_pos (by omega), if_neg c6]
      rw [hb]
      by_cases c6 : (g.Bits.length : Int) = g.W * g.H
      · rw [if_pos c6]
        simp only [dF m1, dF m2, dF (show ¬ 64 < g.W by omega), dF (show ¬ 64 < g.H by omega), dF c4, dF c5, gprod c1 c2, nF c6, Bool.false_eq_true, if_false, Option.bind_some, and_self]
      · rw [if_neg c6]
        simp only [dF m1, dF m2, dF (show ¬ 64 < g.W by omega), dF (show ¬ 64 < g.H by omega), dF c4, dF c5, gprod c1 c2, nT c6, Bool.false_eq_true, if_true, if_false, Option.bind_some, and_self]
theorem gerr_zero {g : api_Grid} (h : gerr g = 0) : ∃ w h, Gr g w h := by
  unfold gerr at h
  by_cases c1 : 64 < g.W ∨ 64 < g.H
  · rw [if_pos c1] at h; cases h
  rw [if_neg c1] at h
  by_cases c2 : g.W < 1 ∨ g.H < 1 ∨ ¬ (g.Bits.length : Int) = g.W * g.H
  · rw [if_pos c2] at h; cases h
  have c3 : (g.Bits.length : Int) = g.W * g.H := by omega
  refine ⟨g.W.toNat, g.H.toNat, by omega, by omega, by omega, by omega, by omega, by omega, ?_⟩
  have e1 : g.W = (g.W.toNat : Int) := by omega
  have e2 : g.H = (g.H.toNat : Int) := by omega
  rw [e1, e2, ← Int.natCast_mul] at c3
  exact Int.ofNat.inj c3
theorem gr_err {g : api_Grid} {w h : Nat} (G : Gr g w h) : gerr g = 0 := by
  have := G.w0
  have := G.w1
  have := G.h0
  have := G.h1
  unfold gerr
  rw [G.hw, G.hh, G.len, if_neg (by omega), if_neg]
  rw [Int.natCast_mul]
  omega
/-- a grid by its cells -/
def gm (f : Nat → Nat → Bool) (w h : Nat) : api_Grid := api_Grid.mk (w : Int) (h : Int) (gl f w h)
theorem gm_gr (f : Nat → Nat → Bool) {w h : Nat} (w0 : 1 ≤ w) (w1 : w ≤ 64) (h0 : 1 ≤ h) (h1 : h ≤ 64) : Gr (gm f w h) w h :=
  ⟨rfl, rfl, w0, w1, h0, h1, gl_len f w h⟩
theorem gm_cell (f : Nat → Nat → Bool) {w h x y : Nat} (hx : x < w) (hy : y < h) : cell (gm f w h) w x y = f x y := gl_get f w h false x y hx hy
theorem gm_cong {f f' : Nat → Nat → Bool} {w h : Nat} (e : ∀ x y, x < w → y < h → f x y = f' x y) : gm f w h = gm f' w h := by unfold gm; rw [gl_cong e]
theorem Gr.eq {g : api_Grid} {w h : Nat} (G : Gr g w h) : g = gm (cell g w) w h := by
  have hb : g.Bits = gl (cell g w) w h := gl_of false G.len fun x y _ _ => rfl
  have h1 := G.hw
  have h2 := G.hh
  cases g
  simp only at h1 h2 hb
  subst h1 h2
  unfold gm
  rw [← hb]
theorem Gr.ext {g g' : api_Grid} {w h : Nat} (G : Gr g w h) (G' : Gr g' w h) (e : ∀ x y, x < w → y < h → cell g w x y = cell g' w x y) : g = g' := by
  rw [G.eq, G'.eq]; exact gm_cong e
theorem rat_eq {g : api_Grid} {w h : Nat} (G : Gr g w h) {x y : Nat} (hx : x < w) (hy : y < h) : F_raddleref01_At g (x : Int) (y : Int) = some (cell g w x y) := by
  unfold F_raddleref01_At
  rw [G.at hx hy]
  rfl
theorem rset_eq {w h : Nat} (hw : w ≤ 64) (hh : h ≤ 64) {s : List Bool} (hs : s.length = w * h) {x y : Nat} (hx : x < w) (hy : y < h) (H : Int) (b : Bool) : F_raddleref01_Set_s0 (w : Int) H s (x : Int) (y : Int) b = some (s.set (y * w + x) b) := by
  have hp : w * h ≤ 64 * 64 := Nat.mul_le_mul hw hh
  have hl := pl_lt hx hy
  have hy2 : y * w ≤ y * w + x := Nat.le_add_right _ _
  have e1 : w64 ((y : Int) * (w : Int)) = ((y * w : Nat) : Int) := wmul (by omega)
  have e2 : w64 (((y * w : Nat) : Int) + (x : Int)) = ((y * w + x : Nat) : Int) := wadd (by omega)
  unfold F_raddleref01_Set_s0
  rw [e1, e2, idxO_nat (by omega), setO_nat (by omega)]
  simp [keepO]
theorem rzero_eq {w h : Nat} (hw : w ≤ 64) (hh : h ≤ 64) : F_raddleref01_Zero_s0 (w : Int) (h : Int) = some ⟨(w : Int), (h : Int), List.replicate (w * h) false⟩ := by
  have hp : w * h ≤ 64 * 64 := Nat.mul_le_mul hw hh
  unfold F_raddleref01_Zero_s0
  rw [wmul (by omega), makeO_of (k := w * h) rfl (by omega)]
  rfl
theorem rsame_grid (a b : api_Grid) (hl : a.Bits.length ≤ 9223372036854775807) : F_raddleref01_Same a b = some (decide (a = b)) := by
  by_cases h1 : a.W = b.W
  case neg => unfold F_raddleref01_Same; simp only [nT h1, if_true, Option.bind_some]; rw [decide_eq_false]; rintro rfl; exact h1 rfl
  by_cases h2 : a.H = b.H
  case neg => unfold F_raddleref01_Same; simp only [nF h1, nT h2, Bool.false_eq_true, if_false, if_true, Option.bind_some]; rw [decide_eq_false]; rintro rfl; exact h2 rfl
  by_cases h3 : (a.Bits.length : Int) = (b.Bits.length : Int)
  case neg => unfold F_raddleref01_Same; simp only [nF h1, nF h2, nT h3, Bool.false_eq_true, if_false, if_true, Option.bind_some]; rw [decide_eq_false]; rintro rfl; exact h3 rfl
  have hw : whileO (raddleref01_Same_l1 a b) 0 = some (if a.Bits = b.Bits then .inr () else .inl false) := by
    refine loop_eql a.Bits b.Bits (by omega) _ _ (fun k hk => ?_) ?_
    · unfold raddleref01_Same_l1
      simp only [dT (show (k : Int) < (a.Bits.length : Int) by omega), if_true, idxO_nat hk, idxO_nat (xs := b.Bits) (k := k) (by omega), Option.bind_some, w64_succ (show k < 9223372036854775807 by omega)]
      by_cases e : a.Bits[k] = b.Bits[k]'(by omega)
      · rw [if_pos e, e]; simp
      · rw [if_neg e, if_pos (by simpa using e)]
    · unfold raddleref01_Same_l1; simp
  unfold F_raddleref01_Same
  simp only [nF h1, nF h2, nF h3, Bool.false_eq_true, if_false, Option.bind_some, hw]
  by_cases e : a.Bits = b.Bits
  · rw [if_pos e]
    have : a = b := by cases a; cases b; simp_all
    simp [this]
  · rw [if_neg e]
    have : ¬ a = b := fun h => e (by rw [h])
    simp [this]
theorem rtwin_eq (g : api_Grid) (hl : g.Bits.length ≤ 68719476736) : F_raddleref01_Twin g = some g := by
  unfold F_raddleref01_Twin
  rw [appO_of (by simpa using hl)]
  rfl
theorem rboth_eq (a b : api_Grid) : F_raddleref01_Both a b = some (if gerr a = 0 then gerr b else gerr a) := by
  unfold F_raddleref01_Both
  simp only [(gcheck_eq a).2, (gcheck_eq b).2, Option.bind_some]
  by_cases h : gerr a = 0
  · rw [nF h, if_pos h]; rfl
  · rw [nT h, if_neg h]; rfl
end Go.Proofs.Ytffikfajljbmnaa
namespace Go.Proofs.Ytffikfajljbmnaa
open Go.RowKit
set_option linter.unusedVariables false

theorem sumN_bd {F : Nat → Nat} {n : Nat} (h : ∀ k, k < n → F k ≤ 1) : sumN F n ≤ n := by
  induction n with
  | zero => exact Nat.le_refl _
  | succ n ih =>
    have h1 := ih fun k hk => h k (by omega)
    have h2 := h n (by omega)
    simp only [sumN]
    omega
/-- a grid's cells, repeated -/
def ext (g : api_Grid) (w h : Nat) (X Y : Int) : Bool := cell g w (X % (w : Int)).toNat (Y % (h : Int)).toNat
def dl (a b : List Bool) (n : Nat) : Nat := sumN (fun t => if a.getD t false = b.getD t false then 0 else 1) n
theorem dl_le (a b : List Bool) (n : Nat) : dl a b n ≤ n := sumN_bd fun k _ => by split <;> omega
end Go.Proofs.Ytffikfajljbmnaa
namespace Go.Proofs.Ytffikfajljbmnaa
open Go.RowKit
set_option linter.unusedVariables false

theorem dl_succ (a b : List Bool) (k : Nat) : dl a b (k + 1) = dl a b k + if a.getD k false = b.getD k false then 0 else 1 := rfl
theorem bne_if (x y : Bool) (d : Nat) (hd : d ≤ 1000000) : (if (x != y) = true then some (w64 ((d : Int) + 1)) else some (d : Int)) = some ((d + (if x = y then 0 else 1) : Nat) : Int) := by
  rw [w64_succ (by omega)]
  cases x <;> cases y <;> rfl
theorem differ_eq {a b : List Bool} (hl : a.length = b.length) (ha : a.length ≤ 1000000) : F_compare_differ a b = some ((dl a b a.length : Nat) : Int) := by
  have h := loop_seq (B := compare_differ_l1 a b) (fun k => (((dl a b k : Nat) : Int), (k : Int))) a.length (t := ((dl a b a.length : Nat) : Int))
    (fun k hk => by
      have hd := dl_le a b k
      unfold compare_differ_l1
      simp only [dT (show (k : Int) < (a.length : Int) by omega), if_true, idxO_D (xs := a) false hk, idxO_D (xs := b) (k := k) false (by omega), Option.bind_some, bne_if _ _ (dl a b k) (by omega), w64_succ (show k < 9223372036854775807 by omega), dl_succ])
    (by
      unfold compare_differ_l1
      simp only [dF (show ¬ (a.length : Int) < (a.length : Int) by omega), Bool.false_eq_true, if_false])
  have e0 : (((dl a b 0 : Nat) : Int), (((0 : Nat) : Int))) = ((0 : Int), (0 : Int)) := rfl
  simp only [e0] at h
  unfold F_compare_differ
  rw [h]
  rfl
theorem rdiffer_eq {a b : api_Grid} (hl : a.Bits.length = b.Bits.length) (ha : a.Bits.length ≤ 1000000) : F_raddleref46_differ a b = some ((dl a.Bits b.Bits a.Bits.length : Nat) : Int) := by
  have h := loop_seq (B := raddleref46_differ_l1 a b) (fun k => (((dl a.Bits b.Bits k : Nat) : Int), (k : Int))) a.Bits.length (t := ((dl a.Bits b.Bits a.Bits.length : Nat) : Int))
    (fun k hk => by
      have hd := dl_le a.Bits b.Bits k
      unfold raddleref46_differ_l1
      simp only [dT (show (k : Int) < (a.Bits.length : Int) by omega), if_true, idxO_D (xs := a.Bits) false hk, idxO_D (xs := b.Bits) (k := k) false (by omega), Option.bind_some, bne_if _ _ (dl a.Bits b.Bits k) (by omega), w64_succ (show k < 9223372036854775807 by omega), dl_succ])
    (by
      unfold raddleref46_differ_l1
      simp only [dF (show ¬ (a.Bits.length : Int) < (a.Bits.length : Int) by omega), Bool.false_eq_true, if_false])
  have e0 : (((dl a.Bits b.Bits 0 : Nat) : Int), (((0 : Nat) : Int))) = ((0 : Int), (0 : Int)) := rfl
  simp only [e0] at h
  unfold F_raddleref46_differ
  rw [h]
  rfl
theorem build_eq2 {l1 : Int → Int × List Bool → Option ((Int × List Bool) ⊕ List Bool)} {l2 : Int × List Bool → Option ((Int × List Bool) ⊕ List Bool)} (f : Nat → Nat → Bool) (w h : Nat) (hw : w ≤ 64) (hh : h ≤ 64)
    (h1 : ∀ y x s, y < h → x < w → l1 (y : Int) ((x : Int), s) = Option.bind (appO s [f x y]) fun l => some (.inl (w64 ((x : Int) + 1), l))) (h1e : ∀ (y : Nat) s, l1 (y : Int) ((w : Int), s) = some (.inr s))
    (h2 : ∀ (y : Nat) s, y < h → l2 ((y : Int), s) = Option.bind (Option.bind (whileO (l1 (y : Int)) (0, s)) fun e => some e) fun o => some (.inl (w64 ((y : Int) + 1), o))) (h2e : ∀ s, l2 ((h : Int), s) = some (.inr s)) :
    whileO l2 (0, ([] : List Bool)) = some (gl f w h) := by
  have this := loop2 (l1 := fun y => l1 (y : Int)) (l2 := l2) (fun y x => ((x : Int), glf f w (y * w + x))) (fun y => ((y : Int), glf f w (y * w))) (fun y => glf f w (y * w + w)) w h (t := glf f w (h * w))
    (fun y x hy hx => by
      have hlt := pl_lt hx hy
      have hp : w * h ≤ 64 * 64 := Nat.mul_le_mul hw hh
      rw [h1 y x _ hy hx, appO_of (by simp [glf]; omega), Option.bind_some, w64_succ (by omega), show y * w + (x + 1) = y * w + x + 1 from rfl, glf_succ, pl_mod hx, pl_div hx])
    (fun y hy => h1e y _)
    (fun y hy hl => by
      have e0 : (((0 : Nat) : Int), glf f w (y * w + 0)) = ((0 : Int), glf f w (y * w)) := rfl
      rw [e0] at hl
      rw [h2 y _ hy, hl]
      simp only [Option.bind_some, w64_succ (show y < 9223372036854775807 by omega)]
      rw [show (y + 1) * w = y * w + w by rw [Nat.add_mul, Nat.one_mul]])
    (h2e _)
  have e0 : (((0 : Nat) : Int), glf f w (0 * w)) = ((0 : Int), ([] : List Bool)) := by simp [glf]
  simp only [e0] at this
  rw [this, Nat.mul_comm h w]
  rfl
theorem cap_ok2 {w h : Nat} (hw : w ≤ 64) (hh : h ≤ 64) : capO (w64 ((w : Int) * (h : Int))) = some () := by
  have hp : w * h ≤ 64 * 64 := Nat.mul_le_mul hw hh
  rw [wmul (by omega)]
  exact capO_of rfl (by omega)
theorem gbits {g : api_Grid} {w h : Nat} (G : Gr g w h) : g.Bits.length ≤ 4096 := by
  rw [G.len]; exact Nat.mul_le_mul G.w1 G.h1
/-- cells set column by column, at places that are taken anew -/
theorem setsC {l1 : Int → Int × List Bool → Option ((Int × List Bool) ⊕ List Bool)} {l2 : Int × List Bool → Option ((Int × List Bool) ⊕ List Bool)} (w h : Nat) (px py rx ry : Nat → Nat) (v : Nat → Nat → Bool)
    (x1 : ∀ x, x < w → px x < w ∧ rx (px x) = x) (x2 : ∀ x, x < w → rx x < w ∧ px (rx x) = x) (y1 : ∀ y, y < h → py y < h ∧ ry (py y) = y) (y2 : ∀ y, y < h → ry y < h ∧ py (ry y) = y)
    (h1 : ∀ x y s, x < w → y < h → s.length = w * h → l1 (x : Int) ((y : Int), s) = some (.inl (((y + 1 : Nat) : Int), s.set (py y * w + px x) (v x y)))) (h1e : ∀ (x : Nat) s, l1 (x : Int) ((h : Int), s) = some (.inr s))
    (h2 : ∀ (x : Nat) s t, x < w → whileO (l1 (x : Int)) (0, s) = some t → l2 ((x : Int), s) = some (.inl (((x + 1 : Nat) : Int), t))) (h2e : ∀ s, l2 ((w : Int), s) = some (.inr s)) :
    whileO l2 (0, List.replicate (w * h) false) = some (gl (fun X Y => v (rx X) (ry Y)) w h) := by
  have key : ∃ t, whileO l2 (0, List.replicate (w * h) false) = some t ∧ (t.length = w * h ∧ ∀ X Y, X < w → Y < h → t.getD (Y * w + X) false = v (rx X) (ry Y)) := by
    refine loop_ts w (fun x s => s.length = w * h ∧ ∀ X Y, X < w → Y < h → rx X < x → s.getD (Y * w + X) false = v (rx X) (ry Y)) _ ⟨by simp, fun X Y _ _ hx => by omega⟩ ?_ ?_
    · rintro x s hx ⟨hs, hI⟩
      have inner : ∃ t, whileO (l1 (x : Int)) (0, s) = some t ∧ (t.length = w * h ∧ ∀ X Y, X < w → Y < h → rx X < x + 1 → t.getD (Y * w + X) false = v (rx X) (ry Y)) := by
        refine loop_ts h (fun y s => s.length = w * h ∧ ∀ X Y, X < w → Y < h → (rx X < x ∨ rx X = x ∧ ry Y < y) → s.getD (Y * w + X) false = v (rx X) (ry Y)) _ ⟨hs, fun X Y hX hY hc => hI X Y hX hY (by omega)⟩ ?_ ?_
        · rintro y s hy ⟨hs, hJ⟩
          obtain ⟨p1, p2⟩ := x1 x hx
          obtain ⟨p3, p4⟩ := y1 y hy
          have hlt := pl_lt p1 p3
          refine .inl ⟨_, h1 x y s hx hy hs, by rw [List.length_set]; exact hs, fun X Y hX hY hc => ?_⟩
          by_cases e : py y * w + px x = Y * w + X
          · obtain ⟨rfl, rfl⟩ := pl_inj p1 hX e
            rw [List.getD_eq_getElem?_getD, List.getElem?_set, if_pos rfl, if_pos (by omega), Option.getD_some, p2, p4]
          · rw [List.getD_eq_getElem?_getD, List.getElem?_set, if_neg e, ← List.getD_eq_getElem?_getD]
            refine hJ X Y hX hY ?_
            rcases hc with hc | ⟨hc1, hc2⟩
            · exact .inl hc
            · refine .inr ⟨hc1, ?_⟩
              rcases Nat.lt_or_ge (ry Y) y with h | h
              · exact h
              · refine absurd ?_ e
                have hy3 : ry Y = y := by omega
                rw [← hc1, ← hy3, (x2 X hX).2, (y2 Y hY).2]
        · rintro s ⟨hs, hJ⟩
          refine ⟨s, h1e x s, hs, fun X Y hX hY hc => hJ X Y hX hY ?_⟩
          have := (y2 Y hY).1
          omega
      obtain ⟨t, t1, t2, t3⟩ := inner
      exact .inl ⟨t, h2 x s t hx t1, t2, t3⟩
    · rintro s ⟨hs, hI⟩
      exact ⟨s, h2e s, hs, fun X Y hX hY => hI X Y hX hY (x2 X hX).1⟩
  obtain ⟨t, t1, t2, t3⟩ := key
  rw [t1, gl_of false t2 t3]
theorem idp {n : Nat} : ∀ x, x < n → x < n ∧ x = x := fun x h => ⟨h, rfl⟩
theorem rmirror_eq {g : api_Grid} {w h : Nat} (G : Gr g w h) : F_raddleref01_Mirror g 0 = some (gm (fun x y => cell g w (w - 1 - x) y) w h, 0) ∧ F_raddleref01_Mirror g 1 = some (gm (fun x y => cell g w x (h - 1 - y)) w h, 0) := by
  have w0 := G.w0
  have h0 := G.h0
  have w1 := G.w1
  have h1 := G.h1
  constructor
  · unfold F_raddleref01_Mirror
    simp only [(gcheck_eq g).2, gr_err G, Option.bind_some, bne_self_eq_false, Bool.false_eq_true, if_false]
    rw [G.hw, G.hh, rzero_eq w1 h1]
    generalize hZ : (⟨(w : Int), (h : Int), List.replicate (w * h) false⟩ : api_Grid) = Z
    simp only [Option.bind_some]
    have zW : Z.W = (w : Int) := by rw [← hZ]
    have zH : Z.H = (h : Int) := by rw [← hZ]
    have zB : Z.Bits = List.replicate (w * h) false := by rw [← hZ]
    have hb := setsC (l1 := fun x => raddleref01_Mirror_l1 g 0 x Z) (l2 := raddleref01_Mirror_l2 g 0 Z) w h id id id id (fun x y => cell g w (w - 1 - x) y) idp idp idp idp
      (fun x y s hx hy hs => by
        have m1 : w64 (w64 ((w : Int) - 1) - (x : Int)) = ((w - 1 - x : Nat) : Int) := by rw [w64_of (x := (w : Int) - 1) (by omega) (by omega), w64_of (by omega) (by omega)]; omega
        unfold raddleref01_Mirror_l1
        simp only [G.hh, G.hw, zW, zH, dT (show (y : Int) < (h : Int) by omega), if_true, beq_self_eq_true, m1, rat_eq G (show w - 1 - x < w by omega) hy, rset_eq (w := w) (h := h) w1 h1 hs hx hy, Option.bind_some, w64_succ (show y < 9223372036854775807 by omega)]
        rfl)
      (fun x s => by
        unfold raddleref01_Mirror_l1
        simp only [G.hh, dF (show ¬ (h : Int) < (h : Int) by omega), Bool.false_eq_true, if_false])
      (fun x s t hx ht => by
        unfold raddleref01_Mirror_l2
        simp only [G.hw, dT (show (x : Int) < (w : Int) by omega), if_true, ht, Option.bind_some, w64_succ (show x < 9223372036854775807 by omega)])
      (fun s => by
        unfold raddleref01_Mirror_l2
        simp only [G.hw, dF (show ¬ (w : Int) < (w : Int) by omega), Bool.false_eq_true, if_false])
    simp only [zW, zH, zB, hb, Option.bind_some]
    rfl
  · unfold F_raddleref01_Mirror
    simp only [(gcheck_eq g).2, gr_err G, Option.bind_some, bne_self_eq_false, Bool.false_eq_true, if_false, nT (show ¬ (1 : Int) = 0 by decide), if_true]
    rw [G.hw, G.hh, rzero_eq w1 h1]
    generalize hZ : (⟨(w : Int), (h : Int), List.replicate (w * h) false⟩ : api_Grid) = Z
    simp only [Option.bind_some]
    have zW : Z.W = (w : Int) := by rw [← hZ]
    have zH : Z.H = (h : Int) := by rw [← hZ]
    have zB : Z.Bits = List.replicate (w * h) false := by rw [← hZ]
    have hb := setsC (l1 := fun x => raddleref01_Mirror_l1 g 1 x Z) (l2 := raddleref01_Mirror_l2 g 1 Z) w h id id id id (fun x y => cell g w x (h - 1 - y)) idp idp idp idp
      (fun x y s hx hy hs => by
        have m1 : w64 (w64 ((h : Int) - 1) - (y : Int)) = ((h - 1 - y : Nat) : Int) := by rw [w64_of (x := (h : Int) - 1) (by omega) (by omega), w64_of (by omega) (by omega)]; omega
        unfold raddleref01_Mirror_l1
        simp only [G.hh, zW, zH, dT (show (y : Int) < (h : Int) by omega), if_true, bF (show ¬ (1 : Int) = 0 by decide), Bool.false_eq_true, if_false, m1, rat_eq G hx (show h - 1 - y < h by omega), rset_eq (w := w) (h := h) w1 h1 hs hx hy, Option.bind_some, w64_succ (show y < 9223372036854775807 by omega)]
        rfl)
      (fun x s => by
        unfold raddleref01_Mirror_l1
        simp only [G.hh, dF (show ¬ (h : Int) < (h : Int) by omega), Bool.false_eq_true, if_false])
      (fun x s t hx ht => by
        unfold raddleref01_Mirror_l2
        simp only [G.hw, dT (show (x : Int) < (w : Int) by omega), if_true, ht, Option.bind_some, w64_succ (show x < 9223372036854775807 by omega)])
      (fun s => by
        unfold raddleref01_Mirror_l2
        simp only [G.hw, dF (show ¬ (w : Int) < (w : Int) by omega), Bool.false_eq_true, if_false])
    simp only [zW, zH, zB, hb, Option.bind_some]
    rfl
theorem rturned_eq {g : api_Grid} {w h : Nat} (G : Gr g w h) : F_raddleref01_Turned g = some (gm (fun x y => cell g w y x) h w) := by
  have w1 := G.w1
  have h1 := G.h1
  unfold F_raddleref01_Turned
  rw [G.hw, G.hh, rzero_eq h1 w1]
  generalize hZ : (⟨(h : Int), (w : Int), List.replicate (h * w) false⟩ : api_Grid) = Z
  simp only [Option.bind_some]
  have zW : Z.W = (h : Int) := by rw [← hZ]
  have zH : Z.H = (w : Int) := by rw [← hZ]
  have zB : Z.Bits = List.replicate (h * w) false := by rw [← hZ]
  have hb := setsC (l1 := fun x => raddleref01_Turned_l1 Z g x) (l2 := raddleref01_Turned_l2 Z g) h w id id id id (fun x y => cell g w y x) idp idp idp idp
    (fun x y s hx hy hs => by
      unfold raddleref01_Turned_l1
      simp only [zW, zH, dT (show (y : Int) < (w : Int) by omega), if_true, rat_eq G hy hx, rset_eq (w := h) (h := w) h1 w1 hs hx hy, Option.bind_some, w64_succ (show y < 9223372036854775807 by omega)]
      rfl)
    (fun x s => by
      unfold raddleref01_Turned_l1
      simp only [zH, dF (show ¬ (w : Int) < (w : Int) by omega), Bool.false_eq_true, if_false])
    (fun x s t hx ht => by
      unfold raddleref01_Turned_l2
      simp only [zW, dT (show (x : Int) < (h : Int) by omega), if_true, ht, Option.bind_some, w64_succ (show x < 9223372036854775807 by omega)])
    (fun s => by
      unfold raddleref01_Turned_l2
      simp only [zW, dF (show ¬ (h : Int) < (h : Int) by omega), Bool.false_eq_true, if_false])
  simp only [zW, zH, zB, hb, Option.bind_some]
  rfl
theorem rnot_eq {g : api_Grid} {w h : Nat} (G : Gr g w h) : F_raddleref01_Not g = some (gm (fun x y => !cell g w x y) w h, 0) := by
  have hl := gbits G
  have key : ∃ t, whileO raddleref01_Not_l1 (0, g.Bits) = some t ∧ (t.length = g.Bits.length ∧ ∀ k, k < g.Bits.length → t.getD k false = !g.Bits.getD k false) := by
    refine loop_ts g.Bits.length (fun k s => s.length = g.Bits.length ∧ ∀ j, j < g.Bits.length → s.getD j false = if j < k then !g.Bits.getD j false else g.Bits.getD j false) _ ⟨rfl, fun j _ => by rw [if_neg (by omega)]⟩ ?_ ?_
    · rintro k s hk ⟨hs, hI⟩
      have hk2 : k < s.length := by omega
      refine .inl ⟨s.set k (!s.getD k false), ?_, by rw [List.length_set]; exact hs, fun j hj => ?_⟩
      · unfold raddleref01_Not_l1
        simp only [dT (show (k : Int) < (s.length : Int) by omega), if_true, idxO_D (xs := s) false hk2, setO_nat hk2, Option.bind_some, w64_succ (show k < 9223372036854775807 by omega)]
      · by_cases e : k = j
        · subst e
          rw [List.getD_eq_getElem?_getD, List.getElem?_set, if_pos rfl, if_pos hk2, Option.getD_some, hI k hk, if_neg (by omega), if_pos (by omega)]
        · rw [List.getD_eq_getElem?_getD, List.getElem?_set, if_neg e, ← List.getD_eq_getElem?_getD, hI j hj]
          by_cases c : j < k
          · rw [if_pos c, if_pos (by omega)]
          · rw [if_neg c, if_neg (by omega)]
    · rintro s ⟨hs, hI⟩
      refine ⟨s, ?_, hs, fun j hj => by rw [hI j hj, if_pos hj]⟩
      unfold raddleref01_Not_l1
      simp only [dF (show ¬ (g.Bits.length : Int) < (s.length : Int) by omega), Bool.false_eq_true, if_false]
  obtain ⟨t, t1, t2, t3⟩ := key
  have ht : t = gl (fun x y => !cell g w x y) w h := gl_of false (by rw [t2, G.len]) fun x y hx hy => t3 _ (by rw [G.len]; exact pl_lt hx hy)
  have htw : F_raddleref01_Twin_s0 g = some g := by
    unfold F_raddleref01_Twin_s0
    rw [appO_of (by simp; omega)]
    rfl
  unfold F_raddleref01_Not
  simp only [(gcheck_eq g).2, gr_err G, Option.bind_some, bne_self_eq_false, Bool.false_eq_true, if_false, htw, t1, ht, G.hw, G.hh]
  rfl
theorem rmod_eq {x n : Nat} (n0 : 1 ≤ n) (n1 : n ≤ 64) (hx : x ≤ 1000) : F_raddleref01_Mod (x : Int) (n : Int) = some ((x % n : Nat) : Int) := by
  have hm : x % n < n := Nat.mod_lt _ n0
  unfold F_raddleref01_Mod
  rw [rem_nat n0, Option.bind_some, wadd (by omega), rem_nat n0, Option.bind_some, Nat.add_mod_right, Nat.mod_mod]
theorem around_sh {n d x : Nat} (n0 : 1 ≤ n) (hd : d < n) : ((x + d) % n + (n - d)) % n = x % n := by
  rw [Nat.mod_add_mod, show x + d + (n - d) = x + n by omega, Nat.add_mod_right]
theorem around_sh2 {n d x : Nat} (n0 : 1 ≤ n) (hd : d < n) : ((x + (n - d)) % n + d) % n = x % n := by
  rw [Nat.mod_add_mod, show x + (n - d) + d = x + n by omega, Nat.add_mod_right]
/-- a grid shifted by less than its sides -/
def shS (g : api_Grid) (w h x y : Nat) : api_Grid := gm (fun X Y => cell g w ((X + (w - x)) % w) ((Y + (h - y)) % h)) w h
theorem rshifted_eq {g : api_Grid} {w h : Nat} (G : Gr g w h) {x y : Nat} (hx : x < w) (hy : y < h) : F_raddleref01_Shifted g (x : Int) (y : Int) = some (shS g w h x y) := by
  have w0 := G.w0
  have h0 := G.h0
  have w1 := G.w1
  have h1 := G.h1
  unfold F_raddleref01_Shifted
  rw [G.hw, G.hh, rzero_eq w1 h1]
  generalize hZ : (⟨(w : Int), (h : Int), List.replicate (w * h) false⟩ : api_Grid) = Z
  simp only [Option.bind_some]
  have zW : Z.W = (w : Int) := by rw [← hZ]
  have zH : Z.H = (h : Int) := by rw [← hZ]
  have zB : Z.Bits = List.replicate (w * h) false := by rw [← hZ]
  have hb := setsC (l1 := fun p => raddleref01_Shifted_l1 g (x : Int) p (y : Int) Z) (l2 := raddleref01_Shifted_l2 g (x : Int) (y : Int) Z) w h (fun p => (p + x) % w) (fun q => (q + y) % h) (fun X => (X + (w - x)) % w) (fun Y => (Y + (h - y)) % h) (cell g w)
    (fun p hp => ⟨Nat.mod_lt _ w0, by rw [around_sh w0 hx, Nat.mod_eq_of_lt hp]⟩) (fun p hp => ⟨Nat.mod_lt _ w0, by rw [around_sh2 w0 hx, Nat.mod_eq_of_lt hp]⟩)
    (fun p hp => ⟨Nat.mod_lt _ h0, by rw [around_sh h0 hy, Nat.mod_eq_of_lt hp]⟩) (fun p hp => ⟨Nat.mod_lt _ h0, by rw [around_sh2 h0 hy, Nat.mod_eq_of_lt hp]⟩)
    (fun p q s hp hq hs => by
      have k1 := rmod_eq (x := x) w0 w1 (by omega)
      have k2 := rmod_eq (x := y) h0 h1 (by omega)
      rw [Nat.mod_eq_of_lt hx] at k1
      rw [Nat.mod_eq_of_lt hy] at k2
      have k3 := rmod_eq (x := p + x) w0 w1 (by omega)
      have k4 := rmod_eq (x := q + y) h0 h1 (by omega)
      unfold raddleref01_Shifted_l1
      simp only [G.hh, G.hw, zW, zH, dT (show (q : Int) < (h : Int) by omega), if_true, k1, k2, Option.bind_some, wadd (show p + x ≤ 9223372036854775807 by omega), wadd (show q + y ≤ 9223372036854775807 by omega), k3, k4, rat_eq G hp hq, rset_eq (w := w) (h := h) w1 h1 hs (Nat.mod_lt (p + x) w0) (Nat.mod_lt (q + y) h0), w64_succ (show q < 9223372036854775807 by omega)])
    (fun p s => by
      unfold raddleref01_Shifted_l1
      simp only [G.hh, dF (show ¬ (h : Int) < (h : Int) by omega), Bool.false_eq_true, if_false])
    (fun p s t hp ht => by
      unfold raddleref01_Shifted_l2
      simp only [G.hw, dT (show (p : Int) < (w : Int) by omega), if_true, ht, Option.bind_some, w64_succ (show p < 9223372036854775807 by omega)])
    (fun s => by
      unfold raddleref01_Shifted_l2
      simp only [G.hw, dF (show ¬ (w : Int) < (w : Int) by omega), Bool.false_eq_true, if_false])
  simp only [zW, zH, zB, hb, Option.bind_some]
  rfl
/-- a grid with an operation applied -/
def apf (g : api_Grid) (w h : Nat) (t1 t2 t4 t8 : Bool) (x y : Nat) : Bool :=
  cell g w (if t1 = true then w - 1 - (if t4 = true then y else x) else (if t4 = true then y else x)) (if t2 = true then h - 1 - (if t4 = true then x else y) else (if t4 = true then x else y)) != t8
def apS (g : api_Grid) (w h : Nat) (t1 t2 t4 t8 : Bool) : api_Grid := gm (apf g w h t1 t2 t4 t8) (if t4 = true then h else w) (if t4 = true then w else h)
theorem rapplied_eq {g : api_Grid} {w h : Nat} (G : Gr g w h) (op : Int) : F_raddleref07_Applied g op = some (apS g w h ((andI .i64 op 1) != 0) ((andI .i64 op 2) != 0) ((andI .i64 op 4) != 0) ((andI .i64 op 8) != 0)) := by
  have w0 := G.w0
  have h0 := G.h0
  unfold F_raddleref07_Applied
  generalize ((andI .i64 op 1) != 0) = t1
  generalize ((andI .i64 op 2) != 0) = t2
  generalize ((andI .i64 op 4) != 0) = t4
  generalize ((andI .i64 op 8) != 0) = t8
  have s1 : ∃ g1, Gr g1 w h ∧ (∀ x y, x < w → y < h → cell g1 w x y = cell g w (if t1 = true then w - 1 - x else x) y) ∧ (if t1 = true then Option.bind (F_raddleref01_Mirror g 0) fun r17 => some (r17.1.W, r17.1.H, r17.1.Bits) else some (g.W, g.H, g.Bits)) = some (g1.W, g1.H, g1.Bits) := by
    cases t1 with
    | false => exact ⟨g, G, fun x y _ _ => rfl, rfl⟩
    | true =>
      refine ⟨_, gm_gr (fun x y => cell g w (w - 1 - x) y) G.w0 G.w1 G.h0 G.h1, fun x y hx hy => by rw [gm_cell _ hx hy, if_pos rfl], ?_⟩
      rw [if_pos rfl, (rmirror_eq G).1]
      rfl
  obtain ⟨g1, G1, c1, e1⟩ := s1
  rw [e1, Option.bind_some]
  have m1 : (⟨g1.W, g1.H, g1.Bits⟩ : api_Grid) = g1 := by cases g1; rfl
  have s2 : ∃ g2, Gr g2 w h ∧ (∀ x y, x < w → y < h → cell g2 w x y = cell g1 w x (if t2 = true then h - 1 - y else y)) ∧ (if t2 = true then Option.bind (F_raddleref01_Mirror g1 1) fun r33 => some (r33.1.W, r33.1.H, r33.1.Bits) else some (g1.W, g1.H, g1.Bits)) = some (g2.W, g2.H, g2.Bits) := by
    cases t2 with
    | false => exact ⟨g1, G1, fun x y _ _ => rfl, rfl⟩
    | true =>
      refine ⟨_, gm_gr (fun x y => cell g1 w x (h - 1 - y)) G.w0 G.w1 G.h0 G.h1, fun x y hx hy => by rw [gm_cell _ hx hy, if_pos rfl], ?_⟩
      rw [if_pos rfl, (rmirror_eq G1).2]
      rfl
  obtain ⟨g2, G2, c2, e2⟩ := s2
  simp only [m1]
  rw [e2, Option.bind_some]
  have m2 : (⟨g2.W, g2.H, g2.Bits⟩ : api_Grid) = g2 := by cases g2; rfl
  have s3 : ∃ g3, Gr g3 (if t4 = true then h else w) (if t4 = true then w else h) ∧ (∀ x y, x < (if t4 = true then h else w) → y < (if t4 = true then w else h) → cell g3 (if t4 = true then h else w) x y = cell g2 w (if t4 = true then y else x) (if t4 = true then x else y)) ∧ (if t4 = true then Option.bind (F_raddleref01_Turned g2) fun r49 => some (r49.W, r49.H, r49.Bits) else some (g2.W, g2.H, g2.Bits)) = some (g3.W, g3.H, g3.Bits) := by
    cases t4 with
    | false => exact ⟨g2, G2, fun x y _ _ => rfl, rfl⟩
    | true =>
      refine ⟨_, gm_gr (fun x y => cell g2 w y x) G.h0 G.h1 G.w0 G.w1, fun x y hx hy => gm_cell _ hx hy, ?_⟩
      rw [if_pos rfl, rturned_eq G2]
      rfl
  obtain ⟨g3, G3, c3, e3⟩ := s3
  simp only [m2]
  rw [e3, Option.bind_some]
  have m3 : (⟨g3.W, g3.H, g3.Bits⟩ : api_Grid) = g3 := by cases g3; rfl
  have s4 : ∃ g4, Gr g4 (if t4 = true then h else w) (if t4 = true then w else h) ∧ (∀ x y, x < (if t4 = true then h else w) → y < (if t4 = true then w else h) → cell g4 (if t4 = true then h else w) x y = (cell g3 (if t4 = true then h else w) x y != t8)) ∧ (if t8 = true then Option.bind (F_raddleref01_Not g3) fun r65 => some (r65.1.W, r65.1.H, r65.1.Bits) else some (g3.W, g3.H, g3.Bits)) = some (g4.W, g4.H, g4.Bits) := by
    cases t8 with
    | false => exact ⟨g3, G3, fun x y _ _ => by cases cell g3 (if t4 = true then h else w) x y <;> rfl, rfl⟩
    | true =>
      refine ⟨_, gm_gr (fun x y => !cell g3 (if t4 = true then h else w) x y) G3.w0 G3.w1 G3.h0 G3.h1, fun x y hx hy => by rw [gm_cell _ hx hy]; cases cell g3 (if t4 = true then h else w) x y <;> rfl, ?_⟩
      rw [if_pos rfl, rnot_eq G3]
      rfl
  obtain ⟨g4, G4, c4, e4⟩ := s4
  simp only [m3]
  rw [e4, Option.bind_some]
  have m4 : (⟨g4.W, g4.H, g4.Bits⟩ : api_Grid) = g4 := by cases g4; rfl
  have h4 := gbits G4
  simp only [m4]
  rw [rtwin_eq g4 (by omega), Option.bind_some]
  congr 1
  refine Eq.trans G4.eq (gm_cong fun x y hx hy => ?_)
  rw [c4 x y hx hy, c3 x y hx hy]
  unfold apf
  cases t4 with
  | false =>
    simp only [Bool.false_eq_true, if_false] at hx hy ⊢
    rw [c2 x y hx hy, c1 _ _ hx (by split <;> omega)]
  | true =>
    simp only [if_true] at hx hy ⊢
    rw [c2 y x hy hx, c1 _ _ hy (by split <;> omega)]
theorem applied_eq {g : api_Grid} {w h : Nat} (G : Gr g w h) (op : Int) : F_symmetry_applied g op = some (apS g w h ((andI .i64 op 1) != 0) ((andI .i64 op 2) != 0) ((andI .i64 op 4) != 0) ((andI .i64 op 8) != 0)) := by
  have w0 := G.w0
  have h0 := G.h0
  have w1 := G.w1
  have h1 := G.h1
  have hb := build_eq2 (l1 := fun y => symmetry_applied_l1 (((if ((andI .i64 op 4) != 0) = true then h else w : Nat)) : Int) op y g) (l2 := symmetry_applied_l2 (((if ((andI .i64 op 4) != 0) = true then w else h : Nat)) : Int) (((if ((andI .i64 op 4) != 0) = true then h else w : Nat)) : Int) op g)
    (apf g w h ((andI .i64 op 1) != 0) ((andI .i64 op 2) != 0) ((andI .i64 op 4) != 0) ((andI .i64 op 8) != 0)) (if ((andI .i64 op 4) != 0) = true then h else w) (if ((andI .i64 op 4) != 0) = true then w else h) (by split <;> omega) (by split <;> omega)
    (fun y x s hy hx => by
      unfold symmetry_applied_l1 apf
      simp only [dT (show (x : Int) < (((if ((andI .i64 op 4) != 0) = true then h else w : Nat)) : Int) by omega), if_true]
      generalize ((andI .i64 op 1) != 0) = t1 at *
      generalize ((andI .i64 op 2) != 0) = t2 at *
      generalize ((andI .i64 op 4) != 0) = t4 at *
      generalize ((andI .i64 op 8) != 0) = t8 at *
      have s4 : (if t4 = true then some ((y : Int), (x : Int)) else some ((x : Int), (y : Int))) = some ((((if t4 = true then y else x : Nat)) : Int), (((if t4 = true then x else y : Nat)) : Int)) := by cases t4 <;> rfl
      have hu : (if t4 = true then y else x) < w := by cases t4 with | false => exact hx | true => exact hy
      have hv : (if t4 = true then x else y) < h := by cases t4 with | false => exact hy | true => exact hx
      rw [s4]
      simp only [Option.bind_some, G.hw, G.hh]
      generalize (if t4 = true then y else x) = u at *
      generalize (if t4 = true then x else y) = v at *
      have s1 : (if t1 = true then some (w64 (w64 ((w : Int) - 1) - (u : Int))) else some (u : Int)) = some ((((if t1 = true then w - 1 - u else u : Nat)) : Int)) := by
        cases t1 with
        | false => rfl
        | true =>
          rw [if_pos rfl, if_pos rfl, w64_of (x := (w : Int) - 1) (by omega) (by omega), w64_of (by omega) (by omega)]
          congr 1; omega
      have s2 : (if t2 = true then some (w64 (w64 ((h : Int) - 1) - (v : Int))) else some (v : Int)) = some ((((if t2 = true then h - 1 - v else v : Nat)) : Int)) := by
        cases t2 with
        | false => rfl
        | true =>
          rw [if_pos rfl, if_pos rfl, w64_of (x := (h : Int) - 1) (by omega) (by omega), w64_of (by omega) (by omega)]
          congr 1; omega
      rw [s1]
      simp only [Option.bind_some]
      rw [s2]
      simp only [Option.bind_some]
      have ha := G.at (x := if t1 = true then w - 1 - u else u) (y := if t2 = true then h - 1 - v else v) (by split <;> omega) (by split <;> omega)
      rw [G.hw] at ha
      rw [ha, Option.bind_some])
    (fun y s => by
      unfold symmetry_applied_l1
      simp only [dF (show ¬ (((if ((andI .i64 op 4) != 0) = true then h else w : Nat)) : Int) < (((if ((andI .i64 op 4) != 0) = true then h else w : Nat)) : Int) by omega), Bool.false_eq_true, if_false])
    (fun y s hy => by
      unfold symmetry_applied_l2
      simp only [dT (show (y : Int) < (((if ((andI .i64 op 4) != 0) = true then w else h : Nat)) : Int) by omega), if_true])
    (fun s => by
      unfold symmetry_applied_l2
      simp only [dF (show ¬ (((if ((andI .i64 op 4) != 0) = true then w else h : Nat)) : Int) < (((if ((andI .i64 op 4) != 0) = true then w else h : Nat)) : Int) by omega), Bool.false_eq_true, if_false])
  unfold F_symmetry_applied
  have s0 : (if ((andI .i64 op 4) != 0) = true then some (g.H, g.W) else some (g.W, g.H)) = some ((((if ((andI .i64 op 4) != 0) = true then h else w : Nat)) : Int), (((if ((andI .i64 op 4) != 0) = true then w else h : Nat)) : Int)) := by
    rw [G.hw, G.hh]
    cases ((andI .i64 op 4) != 0) <;> rfl
  rw [s0]
  simp only [Option.bind_some, hb]
  rfl
/-- numbers taken around -/
theorem around_eq {z : Int} {n : Nat} (n0 : 1 ≤ n) (n1 : n ≤ 64) (z0 : -5000 ≤ z) (z1 : z ≤ 5000) : F_grid_around z (n : Int) = some (z % (n : Int)) := by
  have hn : ¬ (n : Int) = 0 := by omega
  have e0 := Int.emod_nonneg z hn
  have e1 := Int.emod_lt_of_pos z (show (0 : Int) < n by omega)
  have ht : z.tmod (n : Int) = z % (n : Int) ∨ z.tmod (n : Int) = z % (n : Int) - n ∧ z.tmod (n : Int) < 0 := by
    by_cases hz : 0 ≤ z
    · exact .inl (Int.tmod_eq_emod_of_nonneg hz)
    · rw [Int.tmod_eq_emod]
      by_cases hd : (n : Int) ∣ z
      · left; simp [hd]
      · right
        have hc : ¬ (0 ≤ z ∨ (n : Int) ∣ z) := by rintro (h | h); exact hz h; exact hd h
        rw [if_neg hc]
        have : ((n : Int).natAbs : Int) = n := by omega
        rw [this]
        omega
  unfold F_grid_around remI
  rw [if_neg hn]
  rcases ht with h | ⟨h, hl⟩
  · simp only [Option.bind_some, h, dF (show ¬ z % (n : Int) < 0 by omega), Bool.false_eq_true, if_false]
  · simp only [Option.bind_some, dT hl, if_true]
    rw [h, w64_of (by omega) (by omega)]
    congr 1
    omega
theorem emod_back {x d n : Nat} (hd : d ≤ n) : (((x : Int) - (d : Int)) % (n : Int)) = (((x + (n - d)) % n : Nat) : Int) := by
  rw [Int.natCast_emod, show ((x + (n - d) : Nat) : Int) = ((x : Int) - d) + n by omega, Int.add_emod_right]
theorem shift_eq {g : api_Grid} {w h : Nat} (G : Gr g w h) {dx dy : Int} (x0 : -4000 ≤ dx) (x1 : dx ≤ 4000) (y0 : -4000 ≤ dy) (y1 : dy ≤ 4000) :
    F_grid_Shift g dx dy = some (gm (fun x y => cell g w ((x + (w - (dx % (w : Int)).toNat)) % w) ((y + (h - (dy % (h : Int)).toNat)) % h)) w h, 0) := by
  have w0 := G.w0
  have w1 := G.w1
  have h0 := G.h0
  have h1 := G.h1
  have a1 := around_eq (z := dx) w0 w1 (by omega) (by omega)
  have a2 := around_eq (z := dy) h0 h1 (by omega) (by omega)
  have b0 := Int.emod_nonneg dx (show (w : Int) ≠ 0 by omega)
  have b1 := Int.emod_lt_of_pos dx (show (0 : Int) < w by omega)
  have b2 := Int.emod_nonneg dy (show (h : Int) ≠ 0 by omega)
  have b3 := Int.emod_lt_of_pos dy (show (0 : Int) < h by omega)
  obtain ⟨d, hd⟩ : ∃ d : Nat, dx % (w : Int) = d := ⟨(dx % (w : Int)).toNat, by omega⟩
  obtain ⟨e, he⟩ : ∃ e : Nat, dy % (h : Int) = e := ⟨(dy % (h : Int)).toNat, by omega⟩
  rw [hd] at a1 b1
  rw [he] at a2 b3
  rw [hd, he, Int.toNat_natCast, Int.toNat_natCast]
  have hb : whileO (grid_build_s0_l2 (h : Int) (w : Int) g (e : Int) (d : Int)) (0, ([] : List Bool)) = some (gl (fun x y => cell g w ((x + (w - d)) % w) ((y + (h - e)) % h)) w h) := by
    refine build_eq2 (l1 := fun y => grid_build_s0_l1 (w : Int) y g (e : Int) (d : Int)) (fun x y => cell g w ((x + (w - d)) % w) ((y + (h - e)) % h)) w h w1 h1 (fun y x s hy hx => ?_) (fun y s => ?_) (fun y s hy => ?_) (fun s => ?_)
    · have k1 : F_grid_around (w64 ((y : Int) - (e : Int))) g.H = some (((y + (h - e)) % h : Nat) : Int) := by
        rw [G.hh, w64_of (by omega) (by omega), around_eq h0 h1 (by omega) (by omega), emod_back (by omega)]
      have k2 : F_grid_around (w64 ((x : Int) - (d : Int))) g.W = some (((x + (w - d)) % w : Nat) : Int) := by
        rw [G.hw, w64_of (by omega) (by omega), around_eq w0 w1 (by omega) (by omega), emod_back (by omega)]
      unfold grid_build_s0_l1 F_grid_Shift_1_s0
      simp only [dT (show (x : Int) < (w : Int) by omega), if_true, k1, k2, G.at (Nat.mod_lt (x + (w - d)) (show 0 < w by omega)) (Nat.mod_lt (y + (h - e)) (show 0 < h by omega)), Option.bind_some]
    · unfold grid_build_s0_l1
      simp only [dF (show ¬ (w : Int) < (w : Int) by omega), Bool.false_eq_true, if_false]
    · unfold grid_build_s0_l2
      simp only [dT (show (y : Int) < (h : Int) by omega), if_true]
    · unfold grid_build_s0_l2
      simp only [dF (show ¬ (h : Int) < (h : Int) by omega), Bool.false_eq_true, if_false]
  unfold F_grid_Shift F_grid_build_s0
  simp only [(gcheck_eq g).1, gr_err G, Option.bind_some, bne_self_eq_false, Bool.false_eq_true, if_false, G.hw, G.hh, a1, a2, cap_ok2 w1 h1, hb]
  rfl

end Go.Proofs.Ytffikfajljbmnaa
namespace Go.Proofs.Ytffikfajljbmnaa
open Go.RowKit
set_option linter.unusedVariables false

def apB (g : api_Grid) (w h : Nat) (op : Int) : api_Grid := apS g w h ((andI .i64 op 1) != 0) ((andI .i64 op 2) != 0) ((andI .i64 op 4) != 0) ((andI .i64 op 8) != 0)
/-- operations up to n keep the sides of a grid -/
def Kp (w h n : Nat) : Prop := ∀ op : Nat, op < n → ((andI .i64 (op : Int) 4) != 0) = true → w = h
theorem kp_dims {w h n op : Nat} (K : Kp w h n) (hop : op < n) : (if ((andI .i64 (op : Int) 4) != 0) = true then h else w) = w ∧ (if ((andI .i64 (op : Int) 4) != 0) = true then w else h) = h := by
  have := K op hop
  cases hc : ((andI .i64 (op : Int) 4) != 0) with
  | false => exact ⟨if_neg (by decide), if_neg (by decide)⟩
  | true => obtain rfl := this hc; exact ⟨if_pos rfl, if_pos rfl⟩
theorem apB_eq {w h n op : Nat} (K : Kp w h n) (hop : op < n) (g : api_Grid) : apB g w h (op : Int) = gm (apf g w h ((andI .i64 (op : Int) 1) != 0) ((andI .i64 (op : Int) 2) != 0) ((andI .i64 (op : Int) 4) != 0) ((andI .i64 (op : Int) 8) != 0)) w h := by
  obtain ⟨h1, h2⟩ := kp_dims K hop
  unfold apB apS
  rw [h1, h2]
theorem apB_gr {g : api_Grid} {w h n op : Nat} (G : Gr g w h) (K : Kp w h n) (hop : op < n) : Gr (apB g w h (op : Int)) w h := by
  rw [apB_eq K hop]
  exact gm_gr _ G.w0 G.w1 G.h0 G.h1
theorem shS_gr {g : api_Grid} {w h x y : Nat} (G : Gr g w h) : Gr (shS g w h x y) w h := gm_gr _ G.w0 G.w1 G.h0 G.h1
theorem apply_eq {g : api_Grid} {w h op : Nat} (G : Gr g w h) (hw : w ≤ 16) (hh : h ≤ 16) (hop : op < 16) : F_symmetry_Apply g (op : Int) = some (apB g w h (op : Int), 0) := by
  have hl1 : whileO (symmetry_check_l1 [g]) 0 = some (.inr ()) := by
    refine loop_same 1 _ (fun k hk => ?_) ?_
    · obtain rfl : k = 0 := by omega
      unfold symmetry_check_l1
      simp only [List.length_cons, List.length_nil, Nat.zero_add, show decide (((0 : Nat) : Int) < ((1 : Nat) : Int)) = true from rfl, if_true, show idxO [g] ((0 : Nat) : Int) = some g from rfl, Option.bind_some, (gcheck_eq g).1, gr_err G, bne_self_eq_false, Bool.false_eq_true, if_false]
      rfl
    · unfold symmetry_check_l1
      simp only [List.length_cons, List.length_nil, Nat.zero_add, show decide (((1 : Nat) : Int) < ((1 : Nat) : Int)) = false from rfl, Bool.false_eq_true, if_false]
  have hl2 : whileO (symmetry_check_l2 [g]) 0 = some (.inr ()) := by
    refine loop_same 1 _ (fun k hk => ?_) ?_
    · obtain rfl : k = 0 := by omega
      have hm : ¬ (16 : Int) < (if g.W < g.H then g.H else g.W) := by rw [G.hw, G.hh]; split <;> omega
      unfold symmetry_check_l2
      simp only [List.length_cons, List.length_nil, Nat.zero_add, show decide (((0 : Nat) : Int) < ((1 : Nat) : Int)) = true from rfl, if_true, show idxO [g] ((0 : Nat) : Int) = some g from rfl, Option.bind_some, dF hm, Bool.false_eq_true, if_false]
      rfl
    · unfold symmetry_check_l2
      simp only [List.length_cons, List.length_nil, Nat.zero_add, show decide (((1 : Nat) : Int) < ((1 : Nat) : Int)) = false from rfl, Bool.false_eq_true, if_false]
  unfold F_symmetry_Apply F_symmetry_check F_symmetry_is
  simp only [hl1, hl2, Option.bind_some, bne_self_eq_false, Bool.false_eq_true, if_false, dT (show (0 : Int) ≤ (op : Int) by omega), dT (show (op : Int) < 16 by omega), if_true, Bool.not_true, applied_eq G]
  rfl
theorem shift_sh {g : api_Grid} {w h x y : Nat} (G : Gr g w h) (hx : x < w) (hy : y < h) : F_grid_Shift g (x : Int) (y : Int) = some (shS g w h x y, 0) := by
  have := G.w1
  have := G.h1
  have h1 := shift_eq G (dx := (x : Int)) (dy := (y : Int)) (by omega) (by omega) (by omega) (by omega)
  rw [← Int.natCast_emod, ← Int.natCast_emod, Nat.mod_eq_of_lt hx, Nat.mod_eq_of_lt hy, Int.toNat_natCast, Int.toNat_natCast] at h1
  exact h1
def mvT (g : api_Grid) (w h t : Nat) : api_Grid := shS (apB g w h ((t / w / h : Nat) : Int)) w h (t % w) (t / w % h)
def fT (g b : api_Grid) (w h t : Nat) : Nat := dl (mvT g w h t).Bits b.Bits (w * h)
def stT (g b : api_Grid) (w h t : Nat) : Int × Int × Int × Int :=
  (((fm (fT g b w h) (w * h + 1) t).1 : Int), (((fm (fT g b w h) (w * h + 1) t).2 / w / h : Nat) : Int), (((fm (fT g b w h) (w * h + 1) t).2 % w : Nat) : Int), (((fm (fT g b w h) (w * h + 1) t).2 / w % h : Nat) : Int))
theorem fT_le (g b : api_Grid) (w h t : Nat) : fT g b w h t ≤ w * h := dl_le _ _ _
theorem stT_next (g b : api_Grid) (w h t : Nat) : stT g b w h (t + 1) = if fT g b w h t < (fm (fT g b w h) (w * h + 1) t).1 then (((fT g b w h t : Nat) : Int), ((t / w / h : Nat) : Int), ((t % w : Nat) : Int), ((t / w % h : Nat) : Int)) else stT g b w h t := by
  unfold stT
  simp only [fm]
  by_cases c : fT g b w h t < (fm (fT g b w h) (w * h + 1) t).1
  · rw [if_pos c, if_pos c]
  · rw [if_neg c, if_neg c]
theorem tri {w h x y op : Nat} (hx : x < w) (hy : y < h) : ((op * h + y) * w + x) % w = x ∧ ((op * h + y) * w + x) / w % h = y ∧ ((op * h + y) * w + x) / w / h = op := by
  rw [pl_div hx, pl_mod hx, pl_mod hy, pl_div hy]
  exact ⟨rfl, rfl, rfl⟩
/-- a round of the search -/
theorem near_body {g b : api_Grid} {w h n op x y : Nat} (G : Gr g w h) (B : Gr b w h) (K : Kp w h n) (hop : op < n) (hx : x < w) (hy : y < h) :
    compare_Nearest_l2 b (stT g b w h ((op * h + y) * w + x)) (compare_way.mk (op : Int) (api_Point.mk (x : Int) (y : Int)), shS (apB g w h (op : Int)) w h x y) =
      some (if (fm (fT g b w h) (w * h + 1) ((op * h + y) * w + x + 1)).1 = 0 then .inr (stT g b w h ((op * h + y) * w + x + 1)) else .inl (stT g b w h ((op * h + y) * w + x + 1))) := by
  obtain ⟨e1, e2, e3⟩ := tri (op := op) hx hy
  have M := shS_gr (x := x) (y := y) (apB_gr G K hop)
  have hm : mvT g w h ((op * h + y) * w + x) = shS (apB g w h (op : Int)) w h x y := by unfold mvT; rw [e1, e2, e3]
  have hd : F_compare_differ (shS (apB g w h (op : Int)) w h x y).Bits b.Bits = some ((fT g b w h ((op * h + y) * w + x) : Nat) : Int) := by
    rw [differ_eq (by rw [M.len, B.len]) (by have := gbits M; omega), M.len]
    unfold fT
    rw [hm]
  have hs := stT_next g b w h ((op * h + y) * w + x)
  rw [e1, e2, e3] at hs
  have hv : (stT g b w h ((op * h + y) * w + x + 1)).1 = ((fm (fT g b w h) (w * h + 1) ((op * h + y) * w + x + 1)).1 : Int) := rfl
  have q : stT g b w h ((op * h + y) * w + x) = (((fm (fT g b w h) (w * h + 1) ((op * h + y) * w + x)).1 : Int), (stT g b w h ((op * h + y) * w + x)).2.1, (stT g b w h ((op * h + y) * w + x)).2.2.1, (stT g b w h ((op * h + y) * w + x)).2.2.2) := rfl
  unfold compare_Nearest_l2
  rw [q]
  dsimp only
  rw [hd]
  by_cases c : fT g b w h ((op * h + y) * w + x) < (fm (fT g b w h) (w * h + 1) ((op * h + y) * w + x)).1
  · rw [if_pos c] at hs
    rw [hs] at hv ⊢
    simp only [Option.bind_some, dT (show ((fT g b w h ((op * h + y) * w + x) : Nat) : Int) < ((fm (fT g b w h) (w * h + 1) ((op * h + y) * w + x)).1 : Int) by omega), if_true]
    have hv3 : ((fT g b w h ((op * h + y) * w + x) : Nat) : Int) = ((fm (fT g b w h) (w * h + 1) ((op * h + y) * w + x + 1)).1 : Int) := hv
    by_cases z : (fm (fT g b w h) (w * h + 1) ((op * h + y) * w + x + 1)).1 = 0
    · rw [if_pos z, bT (by omega)]; rfl
    · rw [if_neg z, bF (by omega)]; rfl
  · rw [if_neg c] at hs
    rw [hs] at hv ⊢
    have hv2 : ((fm (fT g b w h) (w * h + 1) ((op * h + y) * w + x)).1 : Int) = ((fm (fT g b w h) (w * h + 1) ((op * h + y) * w + x + 1)).1 : Int) := hv
    simp only [Option.bind_some, dF (show ¬ ((fT g b w h ((op * h + y) * w + x) : Nat) : Int) < ((fm (fT g b w h) (w * h + 1) ((op * h + y) * w + x)).1 : Int) by omega), Bool.false_eq_true, if_false]
    by_cases z : (fm (fT g b w h) (w * h + 1) ((op * h + y) * w + x + 1)).1 = 0
    · rw [if_pos z, bT (by omega)]; rfl
    · rw [if_neg z, bF (by omega)]; rfl
theorem stT_stop {g b : api_Grid} {w h t N : Nat} (hz : (fm (fT g b w h) (w * h + 1) t).1 = 0) (hN : t ≤ N) : stT g b w h t = stT g b w h N := by
  have := fm_stop hz (N - t)
  rw [show t + (N - t) = N by omega] at this
  unfold stT
  rw [this]
theorem blk_inN {x w n i : Nat} (hx : x < w) (hi : i < n) : i * w + x < n * w := by rw [Nat.mul_comm n w]; exact pl_lt hx hi
theorem ways_eq {g b : api_Grid} {w h n : Nat} (G : Gr g w h) (B : Gr b w h) (hw : w ≤ 16) (hh : h ≤ 16) (K : Kp w h (n + 1)) (hn : n < 16) :
    ∃ z, whileO (compare_ways_1_l3 (n : Int) g (compare_Nearest_l2 b)) (0, stT g b w h 0) = some z ∧ (z = .inr (stT g b w h ((n + 1) * h * w)) ∨ z = .inl (.inr (stT g b w h ((n + 1) * h * w)))) := by
  have bnd : ∀ op y x, op < n + 1 → y < h → x < w → (op * h + y) * w + x + 1 ≤ (n + 1) * h * w := by
    intro op y x h1 h2 h3
    have k1 := blk_inN h2 h1
    have k2 := blk_inN h3 k1
    omega
  have hrow : ∀ op y, op < n + 1 → y < h → whileO (compare_ways_1_l1 g (apB g w h (op : Int), 0) (y : Int) (compare_Nearest_l2 b) (op : Int)) (0, stT g b w h ((op * h + y) * w)) =
      some (if (List.range w).all (fun k => decide (¬ (fm (fT g b w h) (w * h + 1) ((op * h + y) * w + k + 1)).1 = 0)) = true then .inr (stT g b w h ((op * h + y) * w + w)) else .inl (.inr (stT g b w h ((n + 1) * h * w)))) := by
    intro op y hop hy
    have h1 := loop_seqf (B := compare_ways_1_l1 g (apB g w h (op : Int), 0) (y : Int) (compare_Nearest_l2 b) (op : Int)) (fun k => ((k : Int), stT g b w h ((op * h + y) * w + k))) w (fun k => decide (¬ (fm (fT g b w h) (w * h + 1) ((op * h + y) * w + k + 1)).1 = 0))
      (bad := .inl (.inr (stT g b w h ((n + 1) * h * w)))) (t := .inr (stT g b w h ((op * h + y) * w + w)))
      (fun k hk _ => by
        have hb := bnd op y k hop hy hk
        unfold compare_ways_1_l1
        simp only [G.hw, dT (show (k : Int) < (w : Int) by omega), if_true, shift_sh (apB_gr G K hop) hk hy, Option.bind_some, near_body G B K hop hk hy]
        by_cases z : (fm (fT g b w h) (w * h + 1) ((op * h + y) * w + k + 1)).1 = 0
        · rw [if_pos z, dF (show ¬ ¬ (fm (fT g b w h) (w * h + 1) ((op * h + y) * w + k + 1)).1 = 0 from fun q => q z), stT_stop z hb]
          rfl
        · rw [if_neg z, dT z, if_pos rfl]
          simp only [w64_succ (show k < 9223372036854775807 by omega)]
          rfl)
      (fun _ => by
        unfold compare_ways_1_l1
        simp only [G.hw, dF (show ¬ (w : Int) < (w : Int) by omega), Bool.false_eq_true, if_false])
    exact h1
  have hcol : ∀ op, op < n + 1 → whileO (compare_ways_1_l2 g (apB g w h (op : Int), 0) (compare_Nearest_l2 b) (op : Int)) (0, stT g b w h ((op * h) * w)) =
      some (if (List.range h).all (fun y => (List.range w).all (fun k => decide (¬ (fm (fT g b w h) (w * h + 1) ((op * h + y) * w + k + 1)).1 = 0))) = true then .inr (stT g b w h ((op * h + h) * w)) else .inl (.inr (stT g b w h ((n + 1) * h * w)))) := by
    intro op hop
    have h1 := loop_seqf (B := compare_ways_1_l2 g (apB g w h (op : Int), 0) (compare_Nearest_l2 b) (op : Int)) (fun y => ((y : Int), stT g b w h ((op * h + y) * w))) h (fun y => (List.range w).all (fun k => decide (¬ (fm (fT g b w h) (w * h + 1) ((op * h + y) * w + k + 1)).1 = 0)))
      (bad := .inl (.inr (stT g b w h ((n + 1) * h * w)))) (t := .inr (stT g b w h ((op * h + h) * w)))
      (fun y hy _ => by
        unfold compare_ways_1_l2
        simp only [G.hh, dT (show (y : Int) < (h : Int) by omega), if_true, hrow op y hop hy, Option.bind_some]
        cases (List.range w).all (fun k => decide (¬ (fm (fT g b w h) (w * h + 1) ((op * h + y) * w + k + 1)).1 = 0)) with
        | false => rfl
        | true =>
          simp only [if_true, Option.bind_some, w64_succ (show y < 9223372036854775807 by omega)]
          rw [show (op * h + (y + 1)) * w = (op * h + y) * w + w by rw [← Nat.add_assoc, Nat.add_mul _ 1, Nat.one_mul]])
      (fun _ => by
        unfold compare_ways_1_l2
        simp only [G.hh, dF (show ¬ (h : Int) < (h : Int) by omega), Bool.false_eq_true, if_false])
    exact h1
  have h1 := loop_seqf (B := compare_ways_1_l3 (n : Int) g (compare_Nearest_l2 b)) (fun op => ((op : Int), stT g b w h ((op * h) * w))) (n + 1) (fun op => (List.range h).all (fun y => (List.range w).all (fun k => decide (¬ (fm (fT g b w h) (w * h + 1) ((op * h + y) * w + k + 1)).1 = 0))))
    (bad := .inl (.inr (stT g b w h ((n + 1) * h * w)))) (t := .inr (stT g b w h ((n + 1) * h * w)))
    (fun op hop _ => by
      unfold compare_ways_1_l3
      simp only [dT (show (op : Int) ≤ (n : Int) by omega), if_true, apply_eq G hw hh (show op < 16 by omega), Option.bind_some, hcol op hop]
      cases (List.range h).all (fun y => (List.range w).all (fun k => decide (¬ (fm (fT g b w h) (w * h + 1) ((op * h + y) * w + k + 1)).1 = 0))) with
      | false => rfl
      | true =>
        simp only [if_true, Option.bind_some, w64_succ (show op < 9223372036854775807 by omega)]
        rw [show (op + 1) * h * w = (op * h + h) * w by rw [Nat.add_mul op, Nat.one_mul]])
    (fun _ => by
      unfold compare_ways_1_l3
      simp only [dF (show ¬ ((n + 1 : Nat) : Int) ≤ (n : Int) by omega), Bool.false_eq_true, if_false])
  have e0 : (((0 : Nat) : Int), stT g b w h (0 * h * w)) = ((0 : Int), stT g b w h 0) := by rw [Nat.zero_mul, Nat.zero_mul]; rfl
  simp only [e0] at h1
  refine ⟨_, h1, ?_⟩
  split
  · exact .inl rfl
  · exact .inr rfl
/-- the reference's state, from no best on -/
def rT (g b : api_Grid) (w h t : Nat) : Int × Int × Int × Int := if t = 0 then (-1, 0, 0, 0) else stT g b w h t
theorem rT_step (g b : api_Grid) (w h t : Nat) : (if (rT g b w h t).1 < 0 ∨ ((fT g b w h t : Nat) : Int) < (rT g b w h t).1 then (((fT g b w h t : Nat) : Int), ((t / w / h : Nat) : Int), ((t % w : Nat) : Int), ((t / w % h : Nat) : Int)) else rT g b w h t) = rT g b w h (t + 1) := by
  have hle := fT_le g b w h t
  unfold rT
  rw [if_neg (show ¬ t + 1 = 0 by omega), stT_next]
  by_cases e : t = 0
  · subst e
    rw [if_pos rfl, if_pos (show ((-1 : Int), (0 : Int), (0 : Int), (0 : Int)).1 < 0 ∨ ((fT g b w h 0 : Nat) : Int) < ((-1 : Int), (0 : Int), (0 : Int), (0 : Int)).1 from .inl (by decide)), if_pos (show fT g b w h 0 < (fm (fT g b w h) (w * h + 1) 0).1 from by show fT g b w h 0 < w * h + 1; omega)]
  · rw [if_neg e]
    have hv : (stT g b w h t).1 = ((fm (fT g b w h) (w * h + 1) t).1 : Int) := rfl
    rw [hv]
    by_cases c : fT g b w h t < (fm (fT g b w h) (w * h + 1) t).1
    · rw [if_pos c, if_pos (by omega)]
    · rw [if_neg c, if_neg (by omega)]
theorem rnear_eq {g b : api_Grid} {w h n : Nat} (G : Gr g w h) (B : Gr b w h) (K : Kp w h (n + 1)) (hn : n < 16) {grp : Int} (hl : F_raddleref46_Last grp = some (n : Int)) :
    whileO (raddleref46_Nearest_l3 grp g b) (-1, 0, 0, 0, 0) = some (rT g b w h ((n + 1) * h * w)) := by
  have ww := G.w1
  have wh := G.h1
  have hrow : ∀ op y, op < n + 1 → y < h → whileO (raddleref46_Nearest_l1 g (apB g w h (op : Int)) (y : Int) b (op : Int)) ((rT g b w h ((op * h + y) * w)).1, (rT g b w h ((op * h + y) * w)).2.1, 0, (rT g b w h ((op * h + y) * w)).2.2.1, (rT g b w h ((op * h + y) * w)).2.2.2) = some (rT g b w h ((op * h + y) * w + w)) := by
    intro op y hop hy
    have h1 := loop_seq (B := raddleref46_Nearest_l1 g (apB g w h (op : Int)) (y : Int) b (op : Int)) (fun k => ((rT g b w h ((op * h + y) * w + k)).1, (rT g b w h ((op * h + y) * w + k)).2.1, (k : Int), (rT g b w h ((op * h + y) * w + k)).2.2.1, (rT g b w h ((op * h + y) * w + k)).2.2.2)) w (t := rT g b w h ((op * h + y) * w + w))
      (fun k hk => by
        obtain ⟨e1, e2, e3⟩ := tri (op := op) hk hy
        have M := shS_gr (x := k) (y := y) (apB_gr G K hop)
        have hm : mvT g w h ((op * h + y) * w + k) = shS (apB g w h (op : Int)) w h k y := by unfold mvT; rw [e1, e2, e3]
        have hd : F_raddleref46_differ (shS (apB g w h (op : Int)) w h k y) b = some ((fT g b w h ((op * h + y) * w + k) : Nat) : Int) := by
          rw [rdiffer_eq (by rw [M.len, B.len]) (by have := gbits M; omega), M.len]
          unfold fT
          rw [hm]
        have hs := rT_step g b w h ((op * h + y) * w + k)
        rw [e1, e2, e3] at hs
        rw [show (op * h + y) * w + (k + 1) = (op * h + y) * w + k + 1 from rfl, ← hs]
        unfold raddleref46_Nearest_l1
        simp only [G.hw, dT (show (k : Int) < (w : Int) by omega), if_true, rshifted_eq (apB_gr G K hop) hk hy, Option.bind_some, hd, w64_succ (show k < 9223372036854775807 by omega)]
        generalize rT g b w h ((op * h + y) * w + k) = s
        generalize fT g b w h ((op * h + y) * w + k) = d
        by_cases c1 : s.1 < 0
        · rw [if_pos (show s.1 < 0 ∨ (d : Int) < s.1 from .inl c1)]
          simp only [dT c1, if_true, Option.bind_some]
        · by_cases c2 : (d : Int) < s.1
          · rw [if_pos (show s.1 < 0 ∨ (d : Int) < s.1 from .inr c2)]
            simp only [dF c1, dT c2, Bool.false_eq_true, if_false, if_true, Option.bind_some]
          · rw [if_neg (show ¬ (s.1 < 0 ∨ (d : Int) < s.1) by omega)]
            simp only [dF c1, dF c2, Bool.false_eq_true, if_false, Option.bind_some])
      (by
        unfold raddleref46_Nearest_l1
        simp only [G.hw, dF (show ¬ (w : Int) < (w : Int) by omega), Bool.false_eq_true, if_false])
    exact h1
  have hcol : ∀ op, op < n + 1 → whileO (raddleref46_Nearest_l2 g (apB g w h (op : Int)) b (op : Int)) ((rT g b w h ((op * h) * w)).1, (rT g b w h ((op * h) * w)).2.1, 0, (rT g b w h ((op * h) * w)).2.2.1, (rT g b w h ((op * h) * w)).2.2.2) = some (rT g b w h ((op * h + h) * w)) := by
    intro op hop
    have h1 := loop_seq (B := raddleref46_Nearest_l2 g (apB g w h (op : Int)) b (op : Int)) (fun y => ((rT g b w h ((op * h + y) * w)).1, (rT g b w h ((op * h + y) * w)).2.1, (y : Int), (rT g b w h ((op * h + y) * w)).2.2.1, (rT g b w h ((op * h + y) * w)).2.2.2)) h (t := rT g b w h ((op * h + h) * w))
      (fun y hy => by
        unfold raddleref46_Nearest_l2
        simp only [G.hh, dT (show (y : Int) < (h : Int) by omega), if_true, hrow op y hop hy, Option.bind_some, w64_succ (show y < 9223372036854775807 by omega)]
        rw [show (op * h + (y + 1)) * w = (op * h + y) * w + w by rw [← Nat.add_assoc, Nat.add_mul _ 1, Nat.one_mul]])
      (by
        unfold raddleref46_Nearest_l2
        simp only [G.hh, dF (show ¬ (h : Int) < (h : Int) by omega), Bool.false_eq_true, if_false])
    exact h1
  have h1 := loop_seq (B := raddleref46_Nearest_l3 grp g b) (fun op => ((rT g b w h ((op * h) * w)).1, (rT g b w h ((op * h) * w)).2.1, (op : Int), (rT g b w h ((op * h) * w)).2.2.1, (rT g b w h ((op * h) * w)).2.2.2)) (n + 1) (t := rT g b w h ((n + 1) * h * w))
    (fun op hop => by
      have ha : F_raddleref07_Applied g (op : Int) = some (apB g w h (op : Int)) := rapplied_eq G _
      unfold raddleref46_Nearest_l3
      simp only [hl, Option.bind_some, dT (show (op : Int) ≤ (n : Int) by omega), if_true, ha, hcol op hop, w64_succ (show op < 9223372036854775807 by omega)]
      rw [show (op + 1) * h * w = (op * h + h) * w by rw [Nat.add_mul op, Nat.one_mul]])
    (by
      unfold raddleref46_Nearest_l3
      simp only [hl, Option.bind_some, dF (show ¬ ((n + 1 : Nat) : Int) ≤ (n : Int) by omega), Bool.false_eq_true, if_false])
  have e0 : ((rT g b w h (0 * h * w)).1, (rT g b w h (0 * h * w)).2.1, (((0 : Nat) : Int)), (rT g b w h (0 * h * w)).2.2.1, (rT g b w h (0 * h * w)).2.2.2) = ((-1 : Int), (0 : Int), (0 : Int), (0 : Int), (0 : Int)) := by
    rw [Nat.zero_mul, Nat.zero_mul]; rfl
  simp only [e0] at h1
  exact h1

end Go.Proofs.Ytffikfajljbmnaa
namespace Go.Proofs.Ytffikfajljbmnaa
open Go.RowKit
set_option linter.unusedVariables false

def lastN (grp : Int) : Nat := if grp = 0 then 0 else if grp = 1 then 3 else if grp = 2 then 7 else 15
theorem lastN_lt (grp : Int) : lastN grp < 16 := by
  unfold lastN
  repeat' split
  all_goals omega
theorem last_eq (grp : Int) : F_raddleref46_Last grp = some ((lastN grp : Nat) : Int) := by
  unfold F_raddleref46_Last lastN
  by_cases h0 : grp = 0
  · rw [bT h0, if_pos h0]; rfl
  by_cases h1 : grp = 1
  · rw [bF h0, bT h1, if_neg h0, if_pos h1]; rfl
  by_cases h2 : grp = 2
  · rw [bF h0, bF h1, bT h2, if_neg h0, if_neg h1, if_pos h2]; rfl
  · rw [bF h0, bF h1, bF h2, if_neg h0, if_neg h1, if_neg h2]; rfl
theorem last_idx {grp : Int} (h0 : 0 ≤ grp) (h3 : grp ≤ 3) : idxO ([0, 3, 7, 15] : List Int) grp = some ((lastN grp : Nat) : Int) := by
  have : grp = 0 ∨ grp = 1 ∨ grp = 2 ∨ grp = 3 := by omega
  rcases this with rfl | rfl | rfl | rfl <;> rfl
theorem last_kp {grp : Int} (h0 : 0 ≤ grp) (h3 : grp ≤ 3) {w h : Nat} (hs : 1 < grp → w = h) : Kp w h (lastN grp + 1) := by
  intro op hop hc
  have : grp = 0 ∨ grp = 1 ∨ grp = 2 ∨ grp = 3 := by omega
  rcases this with rfl | rfl | rfl | rfl
  · have : op < 1 := hop
    obtain rfl : op = 0 := by omega
    exact absurd hc (by decide)
  · have : op < 4 := hop
    have : op = 0 ∨ op = 1 ∨ op = 2 ∨ op = 3 := by omega
    rcases this with rfl | rfl | rfl | rfl <;> exact absurd hc (by decide)
  · exact hs (by decide)
  · exact hs (by decide)
def oddS (a b : api_Grid) (grp : Int) : Prop := grp < 0 ∨ 3 < grp ∨ ¬ a.W = b.W ∨ ¬ a.H = b.H ∨ (1 < grp ∧ ¬ a.W = a.H)
instance (a b : api_Grid) (grp : Int) : Decidable (oddS a b grp) := by unfold oddS; infer_instance
theorem odd_eq (a b : api_Grid) (grp : Int) : (if decide (grp < 0) = true then some true else if decide (3 < grp) = true then some true else if (a.W != b.W) = true then some true else if (a.H != b.H) = true then some true else if decide (1 < grp) = true then some (a.W != a.H) else some false) = some (decide (oddS a b grp)) := by
  by_cases c1 : grp < 0
  · rw [dT c1, dT (show oddS a b grp from .inl c1)]; rfl
  by_cases c2 : 3 < grp
  · rw [dF c1, dT c2, dT (show oddS a b grp from .inr (.inl c2))]; rfl
  by_cases c3 : a.W = b.W
  case neg => rw [dF c1, dF c2, nT c3, dT (show oddS a b grp from .inr (.inr (.inl c3)))]; rfl
  by_cases c4 : a.H = b.H
  case neg => rw [dF c1, dF c2, nF c3, nT c4, dT (show oddS a b grp from .inr (.inr (.inr (.inl c4))))]; rfl
  by_cases c5 : 1 < grp
  · by_cases c6 : a.W = a.H
    · rw [dF c1, dF c2, nF c3, nF c4, dT c5, nF c6, dF (show ¬ oddS a b grp by unfold oddS; omega)]; rfl
    · rw [dF c1, dF c2, nF c3, nF c4, dT c5, nT c6, dT (show oddS a b grp from .inr (.inr (.inr (.inr ⟨c5, c6⟩))))]; rfl
  · rw [dF c1, dF c2, nF c3, nF c4, dF c5, dF (show ¬ oddS a b grp by unfold oddS; omega)]; rfl
def bigS (a b : api_Grid) : Prop := 16 < a.W ∨ 16 < a.H ∨ 16 < b.W ∨ 16 < b.H
instance (a b : api_Grid) : Decidable (bigS a b) := by unfold bigS; infer_instance
def startS (a b : api_Grid) (grp : Int) : Int := if gerr a = 0 then (if gerr b = 0 then (if bigS a b then 4 else if oddS a b grp then 2 else 0) else gerr b) else gerr a
theorem start_ok {a b : api_Grid} {grp : Int} (h : startS a b grp = 0) : ∃ w h, Gr a w h ∧ Gr b w h ∧ w ≤ 16 ∧ h ≤ 16 ∧ 0 ≤ grp ∧ grp ≤ 3 ∧ (1 < grp → w = h) := by
  unfold startS at h
  by_cases h1 : gerr a = 0
  case neg => rw [if_neg h1] at h; exact absurd h h1
  by_cases h2 : gerr b = 0
  case neg => rw [if_pos h1, if_neg h2] at h; exact absurd h h2
  rw [if_pos h1, if_pos h2] at h
  by_cases h3 : bigS a b
  · rw [if_pos h3] at h; cases h
  rw [if_neg h3] at h
  by_cases h4 : oddS a b grp
  · rw [if_pos h4] at h; cases h
  obtain ⟨w, k, A⟩ := gerr_zero h1
  obtain ⟨w', k', B⟩ := gerr_zero h2
  unfold bigS at h3
  unfold oddS at h4
  have q1 := A.hw
  have q2 := A.hh
  have q3 := B.hw
  have q4 := B.hh
  obtain ⟨rfl, rfl⟩ : w' = w ∧ k' = k := by omega
  exact ⟨w', k', A, B, by omega, by omega, by omega, by omega, fun _ => by omega⟩
theorem rstart_eq (a b : api_Grid) (grp : Int) : F_raddleref46_Start a b grp = some (startS a b grp) := by
  unfold F_raddleref46_Start startS
  simp only [rboth_eq, Option.bind_some]
  by_cases h1 : gerr a = 0
  case neg => rw [if_neg h1, if_neg h1]; simp only [nT h1, if_true]
  rw [if_pos h1, if_pos h1]
  by_cases h2 : gerr b = 0
  case neg => rw [if_neg h2]; simp only [nT h2, if_true]
  rw [if_pos h2]
  have hb : (if decide (16 < a.W) = true then some true else if decide (16 < a.H) = true then some true else if decide (16 < b.W) = true then some true else some (decide (16 < b.H))) = some (decide (bigS a b)) := by
    by_cases c1 : 16 < a.W
    · rw [dT c1, dT (show bigS a b from .inl c1)]; rfl
    by_cases c2 : 16 < a.H
    · rw [dF c1, dT c2, dT (show bigS a b from .inr (.inl c2))]; rfl
    by_cases c3 : 16 < b.W
    · rw [dF c1, dF c2, dT c3, dT (show bigS a b from .inr (.inr (.inl c3)))]; rfl
    rw [dF c1, dF c2, dF c3]
    simp only [Bool.false_eq_true, if_false]
    congr 1
    exact decide_eq_decide.2 (by unfold bigS; omega)
  rw [hb]
  simp only [nF h2, Bool.false_eq_true, if_false, Option.bind_some]
  by_cases h3 : bigS a b
  · rw [if_pos h3]; simp only [dT h3, if_true]
  rw [if_neg h3, odd_eq]
  simp only [dF h3, Bool.false_eq_true, if_false, Option.bind_some]
  by_cases h4 : oddS a b grp
  · rw [if_pos h4]; simp only [dT h4, if_true]
  · rw [if_neg h4]; simp only [dF h4, Bool.false_eq_true, if_false]
def nearS (a b : api_Grid) (grp : Int) : Int × Int × api_Point × Int :=
  if startS a b grp = 0 then ((stT a b a.W.toNat a.H.toNat ((lastN grp + 1) * a.H.toNat * a.W.toNat)).1, (stT a b a.W.toNat a.H.toNat ((lastN grp + 1) * a.H.toNat * a.W.toNat)).2.1, ⟨(stT a b a.W.toNat a.H.toNat ((lastN grp + 1) * a.H.toNat * a.W.toNat)).2.2.1, (stT a b a.W.toNat a.H.toNat ((lastN grp + 1) * a.H.toNat * a.W.toNat)).2.2.2⟩, 0) else (0, 0, ⟨0, 0⟩, startS a b grp)
theorem nearS_ok {a b : api_Grid} {w h : Nat} {grp : Int} (A : Gr a w h) (hs : startS a b grp = 0) : nearS a b grp = ((stT a b w h ((lastN grp + 1) * h * w)).1, (stT a b w h ((lastN grp + 1) * h * w)).2.1, ⟨(stT a b w h ((lastN grp + 1) * h * w)).2.2.1, (stT a b w h ((lastN grp + 1) * h * w)).2.2.2⟩, 0) := by
  have e1 : a.W.toNat = w := by rw [A.hw]; rfl
  have e2 : a.H.toNat = h := by rw [A.hh]; rfl
  unfold nearS
  rw [if_pos hs, e1, e2]
theorem nearest_eq (a b : api_Grid) (grp : Int) : F_compare_Nearest a b grp = some (nearS a b grp) := by
  by_cases hs : startS a b grp = 0
  · obtain ⟨w, h, A, B, hw, hh, g0, g3, gs⟩ := start_ok hs
    have K := last_kp g0 g3 gs
    obtain ⟨z, hz, hc⟩ := ways_eq A B hw hh K (lastN_lt grp)
    have hm : ¬ (16 : Int) < max4 a.W a.H b.W b.H := by
      rw [A.hw, A.hh, B.hw, B.hh]
      unfold max4 max3
      repeat' split
      all_goals omega
    have ho : ¬ oddS a b grp := by
      have q1 := A.hw
      have q2 := A.hh
      have q3 := B.hw
      have q4 := B.hh
      unfold oddS
      omega
    have st0 : (w64 ((a.Bits.length : Int) + 1), (0 : Int), (0 : Int), (0 : Int)) = stT a b w h 0 := by
      have hl := A.len
      have := gbits A
      rw [w64_succ (by omega), hl]
      unfold stT
      simp only [fm, Nat.zero_div, Nat.zero_mod]
      rfl
    rw [nearS_ok A hs]
    unfold F_compare_Nearest F_compare_ways I_compare_ways_1
    rw [odd_eq]
    simp only [(gcheck_eq a).1, (gcheck_eq b).1, gr_err A, gr_err B, bne_self_eq_false, Bool.false_eq_true, if_false, Option.bind_some, dF hm, dF ho, last_idx g0 g3, st0, hz]
    rcases hc with rfl | rfl <;> rfl
  · unfold nearS
    rw [if_neg hs]
    unfold startS at hs ⊢
    unfold F_compare_Nearest
    rw [odd_eq]
    by_cases h1 : gerr a = 0
    case neg => rw [if_neg h1]; simp only [(gcheck_eq a).1, Option.bind_some, nT h1, if_true]
    by_cases h2 : gerr b = 0
    case neg => rw [if_pos h1, if_neg h2]; simp only [(gcheck_eq a).1, (gcheck_eq b).1, Option.bind_some, nF h1, nT h2, Bool.false_eq_true, if_false, if_true]
    rw [if_pos h1, if_pos h2] at hs ⊢
    have hm : (16 : Int) < max4 a.W a.H b.W b.H ↔ bigS a b := by
      unfold max4 max3 bigS
      repeat' split
      all_goals omega
    by_cases h3 : bigS a b
    · rw [if_pos h3]; simp only [(gcheck_eq a).1, (gcheck_eq b).1, Option.bind_some, nF h1, nF h2, Bool.false_eq_true, if_false, dT (hm.2 h3), if_true]
    rw [if_neg h3] at hs ⊢
    by_cases h4 : oddS a b grp
    · rw [if_pos h4]; simp only [(gcheck_eq a).1, (gcheck_eq b).1, Option.bind_some, nF h1, nF h2, Bool.false_eq_true, if_false, dF (fun q => h3 (hm.1 q)), dT h4, if_true]
    · rw [if_neg h4] at hs; exact absurd rfl hs
theorem rnearest_eq (a b : api_Grid) (grp : Int) : F_raddleref46_Nearest a b grp = some (nearS a b grp) := by
  unfold F_raddleref46_Nearest
  rw [rstart_eq]
  by_cases hs : startS a b grp = 0
  · obtain ⟨w, h, A, B, hw, hh, g0, g3, gs⟩ := start_ok hs
    have hz := rnear_eq A B (last_kp g0 g3 gs) (lastN_lt grp) (last_eq grp)
    have hne : ¬ (lastN grp + 1) * h * w = 0 := by
      have := Nat.mul_pos (Nat.mul_pos (Nat.succ_pos (lastN grp)) A.h0) A.w0
      exact Nat.ne_of_gt this
    unfold rT at hz
    rw [if_neg hne] at hz
    rw [nearS_ok A hs, hs]
    simp only [Option.bind_some, bne_self_eq_false, Bool.false_eq_true, if_false, hz]
  · unfold nearS
    rw [if_neg hs]
    simp only [Option.bind_some, nT hs, if_true]
def cellsS (a b : api_Grid) : Int × Int := if gerr a = 0 then (if gerr b = 0 then (if a.W = b.W ∧ a.H = b.H then (((dl a.Bits b.Bits a.Bits.length : Nat) : Int), 0) else (0, 2)) else (0, gerr b)) else (0, gerr a)
theorem cells_eq (a b : api_Grid) : F_compare_Cells a b = some (cellsS a b) ∧ F_raddleref46_Cells a b = some (cellsS a b) := by
  unfold F_compare_Cells F_raddleref46_Cells cellsS
  simp only [(gcheck_eq a).1, (gcheck_eq b).1, rboth_eq, Option.bind_some]
  by_cases h1 : gerr a = 0
  case neg => rw [if_neg h1, if_neg h1]; simp only [nT h1, if_true, and_self]
  by_cases h2 : gerr b = 0
  case neg => rw [if_pos h1, if_pos h1, if_neg h2]; simp only [nF h1, nT h2, Bool.false_eq_true, if_false, if_true, and_self]
  rw [if_pos h1, if_pos h1, if_pos h2]
  by_cases h3 : a.W = b.W
  case neg => rw [if_neg (show ¬ (a.W = b.W ∧ a.H = b.H) from fun q => h3 q.1)]; simp only [nF h1, nF h2, nT h3, Bool.false_eq_true, if_false, if_true, Option.bind_some, and_self]
  by_cases h4 : a.H = b.H
  case neg => rw [if_neg (show ¬ (a.W = b.W ∧ a.H = b.H) from fun q => h4 q.2)]; simp only [nF h1, nF h2, nF h3, nT h4, Bool.false_eq_true, if_false, if_true, Option.bind_some, and_self]
  obtain ⟨w, h, A⟩ := gerr_zero h1
  obtain ⟨w', h', B⟩ := gerr_zero h2
  have q1 := A.hw
  have q2 := A.hh
  have q3 := B.hw
  have q4 := B.hh
  obtain ⟨rfl, rfl⟩ : w' = w ∧ h' = h := by omega
  have hl : a.Bits.length = b.Bits.length := by rw [A.len, B.len]
  have := gbits A
  rw [if_pos (show a.W = b.W ∧ a.H = b.H from ⟨h3, h4⟩)]
  simp only [nF h1, nF h2, nF h3, nF h4, Bool.false_eq_true, if_false, Option.bind_some, differ_eq hl (show a.Bits.length ≤ 1000000 by omega), rdiffer_eq hl (show a.Bits.length ≤ 1000000 by omega), and_self]
theorem rgreat46_eq (a : api_Grid) : F_raddleref46_GreatGrid a = some (decide (36 < a.Bits.length ∧ a.W ≤ 16 ∧ a.H ≤ 16 ∨ 4200 < a.Bits.length)) := by
  unfold F_raddleref46_GreatGrid
  by_cases h1 : 36 < a.Bits.length
  · by_cases h2 : a.W ≤ 16
    · by_cases h3 : a.H ≤ 16
      · simp only [dT (show (36 : Int) < (a.Bits.length : Int) by omega), dT h2, dT h3, if_true, Option.bind_some, dT (show 36 < a.Bits.length ∧ a.W ≤ 16 ∧ a.H ≤ 16 ∨ 4200 < a.Bits.length from .inl ⟨h1, h2, h3⟩)]
      · simp only [dT (show (36 : Int) < (a.Bits.length : Int) by omega), dT h2, dF h3, if_true, Bool.false_eq_true, if_false, Option.bind_some]
        congr 1
        exact decide_eq_decide.2 (by omega)
    · simp only [dT (show (36 : Int) < (a.Bits.length : Int) by omega), dF h2, if_true, Bool.false_eq_true, if_false, Option.bind_some]
      congr 1
      exact decide_eq_decide.2 (by omega)
  · simp only [dF (show ¬ (36 : Int) < (a.Bits.length : Int) by omega), Bool.false_eq_true, if_false, Option.bind_some]
    congr 1
    exact decide_eq_decide.2 (by omega)

end Go.Proofs.Ytffikfajljbmnaa
namespace Go.Proofs.Ytffikfajljbmnaa
open Go.RowKit
set_option linter.unusedVariables false

theorem law_CompareGrids (a b : api_Grid) (grp : Int) (wa : wf_api_Grid a) (wb : wf_api_Grid b) (wg : InK .i64 grp) : F_raddlelaw46_CompareGrids a b grp = some true := by
  unfold F_raddlelaw46_CompareGrids
  rw [rgreat46_eq, rgreat46_eq]
  by_cases h1 : 36 < a.Bits.length ∧ a.W ≤ 16 ∧ a.H ≤ 16 ∨ 4200 < a.Bits.length
  · simp only [dT h1, if_true, Option.bind_some]
  by_cases h2 : 36 < b.Bits.length ∧ b.W ≤ 16 ∧ b.H ≤ 16 ∨ 4200 < b.Bits.length
  · simp only [dF h1, dT h2, Bool.false_eq_true, if_false, if_true, Option.bind_some]
  simp only [dF h1, dF h2, Bool.false_eq_true, if_false, Option.bind_some, rtwin_eq a (by omega), rtwin_eq b (by omega), (cells_eq a b).1, (cells_eq a b).2, nearest_eq, rnearest_eq, beq_self_eq_true, if_true, Bool.and_true, rsame_grid a a (by omega), rsame_grid b b (by omega), decide_true]

end Go.Proofs.Ytffikfajljbmnaa
namespace Go.Proofs.Ytffikfajljbmnaa
open Go.RowKit
set_option linter.unusedVariables false

namespace frameCompareGrids
open Go.ChangeShapes Go.WideShapes Go.ChangeAt Go.Joins
theorem own : ownKnob Try.prog.godebug = none := by kernel_rfl
theorem laidOut : laidOutB Try.prog = true := by kernel_rfl
set_option maxRecDepth 100000 in
theorem lifted (os : Os) (started : os.Started) (H : Type) (enc : TypeId × Value → H) :
    ReturnsInHanded {} Try.checked os 3 .any (Rows.compareGridsSpec.pre6 enc Try.prog Try.f3 Rows.compareGridsRow.domain false) (Rows.compareGridsSpec.post enc Try.prog Try.f3 false true false false) := by
  refine returnsInHanded_of_change (C := Try.checked) own started (by kernel_rfl) Try.func3
    (ChangeSpec.witness6 (enc := enc) (C := Try.checked) false ⟨#[], #[.agg #[iv 0, iv 0, .slice none 0 0], .agg #[iv 0, iv 0, .slice none 0 0], .int .i64 0], []⟩ 8 (by kernel_rfl) (by kernel_rfl) (by kernel_rfl) (by kernel_rfl)) ?_
  intro W base args ds gs before hval0 hW hcnd _
  have hval : ∀ (j : Nat) t v, Try.f3.params[j]? = some t → args[j]? = some v → Value.okWide Try.prog W .any base t v := hval0
  have hW' := hW
  obtain ⟨p, q, hA0, hV, rfl, hfz, hnd⟩ := hW
  have hA : DataW.TrodAll enc Try.prog W 0 (fun _ => true) true Try.f3.params.toList args.toList ds p := hA0
  rw [Try.params3] at hA hval
  obtain ⟨v0, vs0, d0, ds0, p0, q0, hargs, rfl, rfl, h0, r0⟩ := trodAll_cons hA
  obtain ⟨v1, vs1, d1, ds1, p1, q1, rfl, rfl, rfl, h1, r1⟩ := trodAll_cons r0
  obtain ⟨v2, vs2, d2, ds2, p2, q2, rfl, rfl, rfl, h2, r2⟩ := trodAll_cons r1
  obtain ⟨rfl, rfl, rfl⟩ := trodAll_nil r2
  obtain rfl : args = #[v0, v1, v2] := by cases args; simp_all
  obtain ⟨rfl, rfl⟩ := trodVars_none hV
  have k0 := h0
  have lt0 : ∀ x ∈ p0, x.block < W.heap.size := by obtain ⟨m, hm⟩ := k0; exact DataW.trod_lt m _ _ _ hm
  have k1 := h1
  have lt1 : ∀ x ∈ p1, x.block < W.heap.size := by obtain ⟨m, hm⟩ := k1; exact DataW.trod_lt m _ _ _ hm
  have k2 := h2
  have lt2 : ∀ x ∈ p2, x.block < W.heap.size := by obtain ⟨m, hm⟩ := k2; exact DataW.trod_lt m _ _ _ hm
  obtain ⟨x0, rep0, wf0⟩ := top_agg Try.underlying24 aggr_api_Grid op_api_Grid (hval 0 _ v0 rfl rfl) h0
  obtain ⟨x1, rep1, wf1⟩ := top_agg Try.underlying24 aggr_api_Grid op_api_Grid (hval 1 _ v1 rfl rfl) h1
  obtain ⟨x2, rfl, rfl, rfl, wf2⟩ := open_int Try.underlying3 (hval 2 _ v2 rfl rfl) h2
  clear hA0 hval0
  refine (c_raddlelaw46_CompareGrids (fun _ => False) W x0 v0 x1 v1 x2 true (law_CompareGrids x0 x1 x2 wf0 wf1 wf2) (St0.start (by intro d hd; simp only [List.mem_cons, List.not_mem_nil, or_false] at hd; rcases hd with rfl | rfl; exact rep0; exact rep1))).mono fun e W' hr => ?_
  obtain ⟨_, he, hS⟩ := hr
  have bel := hS.chg.below
  subst he
  exact ⟨_, rfl, _, _, _, [], _, [], hW', trodAll_mk1 (shut_bool Try.underlying4 _), (trodAll_cons_mk (Below.trod laidOut (by kernel_rfl) (of_decide_eq_true (by kernel_rfl)) k0 bel lt0) (trodAll_cons_mk (Below.trod laidOut (by kernel_rfl) (of_decide_eq_true (by kernel_rfl)) k1 bel lt1) (trodAll_cons_mk (Below.trod laidOut (by kernel_rfl) (of_decide_eq_true (by kernel_rfl)) k2 bel lt2) trodAll_mk0))), rfl, bel.frame _, fun h => by cases h⟩
theorem over : Rows.compareGridsRow.holds Try.pinned (OpenSpec.ofChange Rows.compareGridsSpec) :=
  OpenClaim.holds_of_wide 3 Try.f3 rfl rfl rfl rfl rfl rfl rfl ⟨rfl, rfl, rfl, rfl, rfl⟩ rfl rfl rfl rfl rfl (by kernel_rfl) Try.func3 (by kernel_rfl)
    (of_decide_eq_true (by kernel_rfl)) (by unfold Func.isWrapper; first | (rw [if_pos (by decide +kernel)]; kernel_rfl) | (rw [if_neg (by decide +kernel)]; exact ⟨rfl, rfl⟩))
    (fun os started H enc _ => lifted os started H enc)
end frameCompareGrids
theorem compareGrids_holds : Rows.CompareGridsSaid := frameCompareGrids.over

end Go.Proofs.Ytffikfajljbmnaa
