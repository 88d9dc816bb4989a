/- Several texts in one: G19 G54s0 G51s1 G55s0 G72s0 G77s0 G71s0 G56 G21 G24 G73 G57 G75s0 G61s0 G74s0 G58 G27 G59 G60 G62s0 G61s1 G76i0 -/
import Derived.WalkKit
import Derived.Maps.AppendAt
import Derived.Deep.AppendLies
import Derived.KernelRfl
import Derived.Laws.OwnMore
import Derived.Great.BuildSlice
import Derived.Orders
import Derived.Laws.StructEq
import Derived.ChangeKeysEq
import Derived.Defers
import Derived.Laws.BytesString
import Derived.RangeFuncNested
import Derived.RangeFuncBound
import Derived.RangeFuncCalls
import Derived.RangeFuncLeaves
import Derived.OrdersIn
import Derived.LoopNIn
import Derived.ArgAppend
import Derived.Test.YthfifeabomdlpaaProg
import Derived.ProofKit
import Derived.OpenShut
import Derived.ChangeOld
import Derived.Deep.Slices
import Derived.Lib.SmallJoins
import Derived.JoinedOf
import Derived.JoinedAt
import Derived.Below
import Derived.Test.YthfifeabomdlpaaRows
import Derived.Test.YthfifeabomdlpaaMBlockNames2
namespace Go.Proofs.Ythfifeabomdlpaa
open Go.RowKit
set_option linter.unusedVariables false

noncomputable def block_Units_l1 (z69 : Int) (p0 : api_Grid) (p1 : Int) (p2 : Int) (s46 : Int) : (List api_Grid × List Int × Int) → Option ((List api_Grid × List Int × Int) ⊕ (List api_Grid × List Int)) := fun s0 => match s0 with
  | (s71, s74, s77) =>
    if decide (s77 < z69) then
      Option.bind (F_block_part p0 p1 p2 s77 s46) fun r93 =>
      Option.bind (F_slices_IndexFunc___api_Grid_api_Grid__s0 s71 r93) fun r102 =>
      Option.bind (α := (List api_Grid × Int)) (
        if decide (r102 < 0) then
          Option.bind (appO s71 [r93]) fun l115 =>
          some (l115, (s71.length : Int))
        else
          some (s71, r102)) fun (o104, o107) =>
      Option.bind (appO s74 ([o107] : List Int)) fun l121 =>
      some (.inl (o104, l121, w64 (s77 + 1)))
    else
      some (.inr (s71, s74))
noncomputable def block_Units_l2 (z38 : Int) (p0 : api_Grid) (p1 : Int) (p2 : Int) : (List api_Grid × List Int × Int) → Option ((List api_Grid × List Int × Int) ⊕ (List api_Grid × List Int)) := fun s0 => match s0 with
  | (s40, s43, s46) =>
    if decide (s46 < z38) then
      Option.bind (α := (List api_Grid × List Int)) (
        Option.bind (quoI p0.W p1) fun z69 =>
        Option.bind (whileO (block_Units_l1 z69 p0 p1 p2 s46) (s40, s43, 0)) fun (e81, e84) =>
          some (e81, e84)) fun (o59, o62) =>
      some (.inl (o59, o62, w64 (s46 + 1)))
    else
      some (.inr (s40, s43))
noncomputable def F_block_Units (p0 : api_Grid) (p1 : Int) (p2 : Int) : Option ((List api_Grid) × (List Int) × Int) :=
  Option.bind (F_block_checked [p0]) fun r11 =>
  if r11 != 0 then
    some (([] : (List api_Grid)), ([] : (List Int)), r11)
  else
    Option.bind (α := Bool) (
      if decide (p1 < 1) then
        some true
      else
        if decide (p2 < 1) then
          some true
        else
          Option.bind (remI p0.W p1) fun z22 =>
          if z22 != 0 then
            some true
          else
            Option.bind (remI p0.H p2) fun z25 =>
            some (z25 != 0)) fun o17 =>
    if o17 then
      some (([] : (List api_Grid)), ([] : (List Int)), 26)
    else
      Option.bind (α := (List api_Grid × List Int)) (
        Option.bind (quoI p0.H p2) fun z38 =>
        Option.bind (whileO (block_Units_l2 z38 p0 p1 p2) (([] : List api_Grid), ([] : List Int), 0)) fun (e50, e53) =>
          some (e50, e53)) fun (o29, o32) =>
      some (o29, o32, 0)
def c_block_Units_val (r : ((List api_Grid) × (List Int) × Int)) (x : Value × Value) : Value := .tuple #[x.1, x.2, .int .i64 r.2.2]
def c_block_Units_D (r : ((List api_Grid) × (List Int) × Int)) (x : Value × Value) : List Fact := [fRep (rL r_api_Grid) x.1 r.1, fRep (rL (rI .i64)) x.2 r.2.1]
set_option maxHeartbeats 4000000 in
set_option maxRecDepth 100000 in
theorem c_block_Units (E : Nat → Prop) (w0 : World) (p0 : api_Grid) (v0 : Value) (p1 : Int) (p2 : Int) (r : ((List api_Grid) × (List Int) × Int)) (h : F_block_Units p0 p1 p2 = some r) (S : St0 E [] w0 w0 [] [fRep r_api_Grid (v0) p0]) :
    Calls Try.prog 19 #[v0, iv p1, iv p2] w0 (Ret (X := Value × Value) E [] w0 (c_block_Units_val r) (fun _ => []) (c_block_Units_D r)) := by
  unfold F_block_Units at h
  obtain ⟨u1, rfl, hu2⟩ := S.know (i := 0) (e := fRep r_api_Grid (v0) p0) rfl
  have S := S.learn (fRep (rL rB) u1 p0.Bits) hu2
  obtain ⟨ad3, cp4, _, rfl, _⟩ := hu2
  refine sEnter (args := [.agg #[iv p0.W, iv p0.H, .slice ad3 p0.Bits.length cp4], iv p1, iv p2]) 79 Try.func19 rfl rfl (by simp) S (fun a S => ?_)
  refine sSeq (fun K5 hK5 => ?_)
  refine sRegion ?_
  refine sBox (v := .agg #[iv p0.W, iv p0.H, .slice ad3 p0.Bits.length cp4]) S (wN rfl) rfl rfl [iv p0.W, iv p0.H, .slice ad3 p0.Bits.length cp4] rfl rfl (lb rfl) fun a b6 w S => ?_
  refine sMove (.slice none 0 0) S (wN rfl) (.inr rfl) rfl rfl (lb rfl) fun a S => ?_
  refine sMove (.slice none 0 0) S (wN rfl) (.inr rfl) rfl rfl (lb rfl) fun a S => ?_
  refine sMove (iv 0) S (wN rfl) (.inr rfl) rfl rfl (lb rfl) fun a S => ?_
  refine leafL (leafT (hK5 _ _ ?_))
  refine sSeq (fun K7 hK7 => ?_)
  refine sSeq (fun K8 hK8 => ?_)
  refine sRegion ?_
  refine sLoadN (p := b6) (off := 0) (T := 24) (vs := [iv p0.W, iv p0.H, .slice ad3 p0.Bits.length cp4]) 0 [iv p0.W, iv p0.H, .slice ad3 p0.Bits.length cp4] S (wN rfl) rfl rfl rfl rfl rfl rfl rfl (lb rfl) fun a S => ?_
  refine sLit (r := r_api_Grid) (T := 24) (xs := [p0]) [(0, .agg #[iv p0.W, iv p0.H, .slice ad3 p0.Bits.length cp4])] 1 [.agg #[iv p0.W, iv p0.H, .slice ad3 p0.Bits.length cp4]] [iv p0.W, iv p0.H, .slice ad3 p0.Bits.length cp4] (.agg #[iv 0, iv 0, .slice none 0 0]) 40 S (wN rfl) rfl rfl Try.underlying34 rfl (by decide) (by decide) (by kernel_rfl) rfl (fun E1 w1 hE => All.cons (r_api_Grid.mono hE (S.mem.know (i := 1) (e := fRep r_api_Grid (.agg #[iv p0.W, iv p0.H, .slice ad3 p0.Bits.length cp4]) p0) rfl)) (All.nil _ _ _)) rfl rfl (lb rfl) fun a w ad9 cp10 S => ?_
  obtain ⟨r11, hx12, h⟩ := bindSome h
  have S1 := S.mem
  have S1 := S1.shutR (r := r_api_Grid) (T := 24) (v := .slice ad9 [p0].length cp10) (xs := [p0]) 0 rfl
  refine sCallQ (X := Unit) (f := 41) (vs := [.slice ad9 [p0].length cp10]) (val := fun _ => iv r11) S (wN rfl) rfl callee41 rfl (S1.quiet [0] rfl) (fun E1 w1 S1 => c_block_checked E1 w1 [p0] (.slice ad9 [p0].length cp10) r11 hx12 S1) rfl (lb rfl) fun _ a w S => ?_
  refine sMove (iv r11) S (wN rfl) (.inr rfl) rfl rfl (lb rfl) fun a S => ?_
  refine leafL (leafT (hK8 _ _ ?_))
  refine sSeq (fun K13 hK13 => ?_)
  refine sRegion ?_
  refine sMove (iv r11) S (wN rfl) (.inl rfl) rfl rfl (lb rfl) fun a S => ?_
  refine sBin (.bool (r11 != 0)) S (wN rfl) rfl rfl rfl (bNe _ _ _ _ .i64 r11 0) rfl (lb rfl) fun a S => ?_
  refine leafL (leafT (hK13 _ _ ?_))
  rcases iteSome h with ⟨hc14, h⟩ | ⟨hc14, h⟩
  · refine sCondT S rfl hc14 ?_
    refine sSeq (fun K15 hK15 => ?_)
    refine sRegion ?_
    refine sMove (iv r11) S (wN rfl) (.inl rfl) rfl rfl (lb rfl) fun a S => ?_
    refine sMove (.slice none 0 0) S (wN rfl) (.inr rfl) rfl rfl (lb rfl) fun a S => ?_
    refine sMove (.slice none 0 0) S (wN rfl) (.inr rfl) rfl rfl (lb rfl) fun a S => ?_
    refine sMove (iv r11) S (wN rfl) (.inr rfl) rfl rfl (lb rfl) fun a S => ?_
    refine leafL (leafT (hK15 _ _ ?_))
    obtain rfl := Option.some.inj h
    have S := S.learn (fRep (rL r_api_Grid) (.slice none 0 0) ([] : (List api_Grid))) (rL_nil _ _ _)
    have S := S.learn (fRep (rL (rI .i64)) (.slice none 0 0) ([] : (List Int))) (rL_nil _ _ _)
    exact wp_ret (rThen (sRet (.tuple #[.slice none 0 0, .slice none 0 0, iv r11]) S (rsl3 rfl (rvT (t := 6) (v := .slice none 0 0) S rfl) (rvT (t := 7) (v := .slice none 0 0) S rfl) (rvT (t := 8) (v := iv r11) S rfl)) ⟨((.slice none 0 0), (.slice none 0 0)), rfl, S.mem.sel [] [1, 0] (by decide) rfl rfl⟩))
  refine sCondF S rfl hc14 ?_
  refine wp_skip (leafT (hK7 _ _ ?_))
  refine sSeq (fun K16 hK16 => ?_)
  obtain ⟨t18, h, g19⟩ := bindSome h
  refine sCut (fun a w => ∃ o17, o17 = t18 ∧ St [] E [] w0 79 a w [(1, iv p1), (2, iv p2), (3, .pointer (some ⟨b6, 0, none⟩)), (6, .slice none 0 0), (7, .slice none 0 0), (39, .bool o17)] [eBox b6 24 [iv p0.W, iv p0.H, .slice ad3 p0.Bits.length cp4]] [fRep (rL rB) (.slice ad3 p0.Bits.length cp4) p0.Bits]) ?_ (fun a w hI => ?_)
  · refine sRegion ?_
    refine sMove (iv p1) S (wN rfl) (.inl rfl) rfl rfl (lb rfl) fun a S => ?_
    refine sBin (.bool (decide (p1 < 1))) S (wN rfl) rfl rfl rfl (bLt _ _ _ _ .i64 p1 1) rfl (lb rfl) fun a S => ?_
    refine sMove (.bool (decide (p1 < 1))) S (wN rfl) (.inl rfl) rfl rfl (lb rfl) fun a S => ?_
    rcases iteSome h with ⟨hc20, h⟩ | ⟨hc20, h⟩
    · refine sSkip 2 false 22 23 S rfl rfl rfl hc20 rfl (lb rfl) fun a S => ?_
      refine sSkip 2 false 22 24 S rfl rfl rfl hc20 rfl (lb rfl) fun a S => ?_
      refine sPickT (.bool true) S (wN rfl) rfl rfl hc20 rfl rfl (lb rfl) fun a S => ?_
      refine sMove (.bool true) S (wN rfl) (.inl rfl) rfl rfl (lb rfl) fun a S => ?_
      refine sSkip 6 false 26 27 S rfl rfl rfl rfl rfl (lb rfl) fun a S => ?_
      refine sSkip 6 false 26 28 S rfl rfl rfl rfl rfl (lb rfl) fun a S => ?_
      refine sSkip 6 false 26 29 S rfl rfl rfl rfl rfl (lb rfl) fun a S => ?_
      refine sSkip 6 false 26 30 S rfl rfl rfl rfl rfl (lb rfl) fun a S => ?_
      refine sSkip 6 false 26 31 S rfl rfl rfl rfl rfl (lb rfl) fun a S => ?_
      refine sPickT (.bool true) S (wN rfl) rfl rfl rfl rfl rfl (lb rfl) fun a S => ?_
      refine sMove (.bool true) S (wN rfl) (.inl rfl) rfl rfl (lb rfl) fun a S => ?_
      refine sSkip 13 false 33 34 S rfl rfl rfl rfl rfl (lb rfl) fun a S => ?_
      refine sSkip 13 false 33 35 S rfl rfl rfl rfl rfl (lb rfl) fun a S => ?_
      refine sSkip 13 false 33 36 S rfl rfl rfl rfl rfl (lb rfl) fun a S => ?_
      refine sSkip 13 false 33 37 S rfl rfl rfl rfl rfl (lb rfl) fun a S => ?_
      refine sSkip 13 false 33 38 S rfl rfl rfl rfl rfl (lb rfl) fun a S => ?_
      refine sPickT (.bool true) S (wN rfl) rfl rfl rfl rfl rfl (lb rfl) fun a S => ?_
      exact leafL (leafT (⟨true, Option.some.inj h, S.fix [1] [0] (by decide) rfl rfl rfl⟩))
    refine sMove (iv p2) S (wG 2 false 22 rfl rfl rfl hc20) (.inl rfl) rfl rfl (lb rfl) fun a S => ?_
    refine sBin (.bool (decide (p2 < 1))) S (wG 2 false 22 rfl rfl rfl hc20) rfl rfl rfl (bLt _ _ _ _ .i64 p2 1) rfl (lb rfl) fun a S => ?_
    refine sPickF (.bool (decide (p2 < 1))) S (wN rfl) rfl rfl hc20 rfl rfl (lb rfl) fun a S => ?_
    refine sMove (.bool (decide (p2 < 1))) S (wN rfl) (.inl rfl) rfl rfl (lb rfl) fun a S => ?_
    rcases iteSome h with ⟨hc21, h⟩ | ⟨hc21, h⟩
    · refine sSkip 6 false 26 27 S rfl rfl rfl hc21 rfl (lb rfl) fun a S => ?_
      refine sSkip 6 false 26 28 S rfl rfl rfl hc21 rfl (lb rfl) fun a S => ?_
      refine sSkip 6 false 26 29 S rfl rfl rfl hc21 rfl (lb rfl) fun a S => ?_
      refine sSkip 6 false 26 30 S rfl rfl rfl hc21 rfl (lb rfl) fun a S => ?_
      refine sSkip 6 false 26 31 S rfl rfl rfl hc21 rfl (lb rfl) fun a S => ?_
      refine sPickT (.bool true) S (wN rfl) rfl rfl hc21 rfl rfl (lb rfl) fun a S => ?_
      refine sMove (.bool true) S (wN rfl) (.inl rfl) rfl rfl (lb rfl) fun a S => ?_
      refine sSkip 13 false 33 34 S rfl rfl rfl rfl rfl (lb rfl) fun a S => ?_
      refine sSkip 13 false 33 35 S rfl rfl rfl rfl rfl (lb rfl) fun a S => ?_
      refine sSkip 13 false 33 36 S rfl rfl rfl rfl rfl (lb rfl) fun a S => ?_
      refine sSkip 13 false 33 37 S rfl rfl rfl rfl rfl (lb rfl) fun a S => ?_
      refine sSkip 13 false 33 38 S rfl rfl rfl rfl rfl (lb rfl) fun a S => ?_
      refine sPickT (.bool true) S (wN rfl) rfl rfl rfl rfl rfl (lb rfl) fun a S => ?_
      exact leafL (leafT (⟨true, Option.some.inj h, S.fix [1] [0] (by decide) rfl rfl rfl⟩))
    refine sField (b := b6) (off := 0) 0 0 S (wG 6 false 26 rfl rfl rfl hc21) rfl rfl rfl rfl rfl (lb rfl) fun a S => ?_
    refine sLoad1 (p := b6) (off := 0) (T := 24) (vs := [iv p0.W, iv p0.H, .slice ad3 p0.Bits.length cp4]) 1 (iv p0.W) S (wG 6 false 26 rfl rfl rfl hc21) rfl rfl rfl rfl rfl rfl (lb rfl) fun a S => ?_
    refine sMove (iv p1) S (wG 6 false 26 rfl rfl rfl hc21) (.inl rfl) rfl rfl (lb rfl) fun a S => ?_
    obtain ⟨z22, hx23, h⟩ := bindSome h
    refine sBin (iv z22) S (wG 6 false 26 rfl rfl rfl hc21) rfl rfl rfl (bRem _ _ _ _ (x := p0.W) (y := p1) hx23) rfl (lb rfl) fun a S => ?_
    refine sBin (.bool (z22 != 0)) S (wG 6 false 26 rfl rfl rfl hc21) rfl rfl rfl (bNe _ _ _ _ .i64 z22 0) rfl (lb rfl) fun a S => ?_
    refine sPickF (.bool (z22 != 0)) S (wN rfl) rfl rfl hc21 rfl rfl (lb rfl) fun a S => ?_
    refine sMove (.bool (z22 != 0)) S (wN rfl) (.inl rfl) rfl rfl (lb rfl) fun a S => ?_
    rcases iteSome h with ⟨hc24, h⟩ | ⟨hc24, h⟩
    · refine sSkip 13 false 33 34 S rfl rfl rfl hc24 rfl (lb rfl) fun a S => ?_
      refine sSkip 13 false 33 35 S rfl rfl rfl hc24 rfl (lb rfl) fun a S => ?_
      refine sSkip 13 false 33 36 S rfl rfl rfl hc24 rfl (lb rfl) fun a S => ?_
      refine sSkip 13 false 33 37 S rfl rfl rfl hc24 rfl (lb rfl) fun a S => ?_
      refine sSkip 13 false 33 38 S rfl rfl rfl hc24 rfl (lb rfl) fun a S => ?_
      refine sPickT (.bool true) S (wN rfl) rfl rfl hc24 rfl rfl (lb rfl) fun a S => ?_
      exact leafL (leafT (⟨true, Option.some.inj h, S.fix [1] [0] (by decide) rfl rfl rfl⟩))
    refine sField (b := b6) (off := 0) 1 1 S (wG 13 false 33 rfl rfl rfl hc24) rfl rfl rfl rfl rfl (lb rfl) fun a S => ?_
    refine sLoad1 (p := b6) (off := 1) (T := 24) (vs := [iv p0.W, iv p0.H, .slice ad3 p0.Bits.length cp4]) 1 (iv p0.H) S (wG 13 false 33 rfl rfl rfl hc24) rfl rfl rfl rfl rfl rfl (lb rfl) fun a S => ?_
    refine sMove (iv p2) S (wG 13 false 33 rfl rfl rfl hc24) (.inl rfl) rfl rfl (lb rfl) fun a S => ?_
    obtain ⟨z25, hx26, h⟩ := bindSome h
    refine sBin (iv z25) S (wG 13 false 33 rfl rfl rfl hc24) rfl rfl rfl (bRem _ _ _ _ (x := p0.H) (y := p2) hx26) rfl (lb rfl) fun a S => ?_
    refine sBin (.bool (z25 != 0)) S (wG 13 false 33 rfl rfl rfl hc24) rfl rfl rfl (bNe _ _ _ _ .i64 z25 0) rfl (lb rfl) fun a S => ?_
    refine sPickF (.bool (z25 != 0)) S (wN rfl) rfl rfl hc24 rfl rfl (lb rfl) fun a S => ?_
    exact leafL (leafT (⟨z25 != 0, Option.some.inj h, S.fix [1] [0] (by decide) rfl rfl rfl⟩))
  obtain ⟨o17, rfl, S⟩ := hI
  have h := g19
  clear g19
  try dsimp only at h
  rcases iteSome h with ⟨hc27, h⟩ | ⟨hc27, h⟩
  · refine sCondT S rfl hc27 ?_
    refine sSeq (fun K28 hK28 => ?_)
    refine sRegion ?_
    refine sMove (.slice none 0 0) S (wN rfl) (.inr rfl) rfl rfl (lb rfl) fun a S => ?_
    refine sMove (.slice none 0 0) S (wN rfl) (.inr rfl) rfl rfl (lb rfl) fun a S => ?_
    refine sMove (iv 26) S (wN rfl) (.inr rfl) rfl rfl (lb rfl) fun a S => ?_
    refine leafL (leafT (hK28 _ _ ?_))
    obtain rfl := Option.some.inj h
    have S := S.learn (fRep (rL r_api_Grid) (.slice none 0 0) ([] : (List api_Grid))) (rL_nil _ _ _)
    have S := S.learn (fRep (rL (rI .i64)) (.slice none 0 0) ([] : (List Int))) (rL_nil _ _ _)
    exact wp_ret (rThen (sRet (.tuple #[.slice none 0 0, .slice none 0 0, iv 26]) S (rsl3 rfl (rvT (t := 6) (v := .slice none 0 0) S rfl) (rvT (t := 7) (v := .slice none 0 0) S rfl) (rvT (t := 8) (v := iv 26) S rfl)) ⟨((.slice none 0 0), (.slice none 0 0)), rfl, S.mem.sel [] [1, 0] (by decide) rfl rfl⟩))
  refine sCondF S rfl hc27 ?_
  refine wp_skip (leafT (hK16 _ _ ?_))
  obtain ⟨t35, h, g36⟩ := bindSome h
  refine sCut (fun a w => ∃ o29, ∃ o32, (o29, o32) = t35 ∧ ∃ ad30, ∃ cp31, ∃ ad33, ∃ cp34, St [] E [] w0 79 a w [(6, .slice ad30 o29.length cp31), (7, .slice ad33 o32.length cp34)] [eRow r_api_Grid 24 (.slice ad30 o29.length cp31) o29, eRow (rI .i64) 3 (.slice ad33 o32.length cp34) o32] []) ?_ (fun a w hI => ?_)
  rotate_left
  · obtain ⟨o29, o32, rfl, ad30, cp31, ad33, cp34, S⟩ := hI
    have h := g36
    clear g36
    try dsimp only at h
    refine sSeq (fun K125 hK125 => ?_)
    refine sRegion ?_
    refine sMove (.slice ad30 o29.length cp31) S (wN rfl) (.inl rfl) rfl rfl (lb rfl) fun a S => ?_
    refine sMove (.slice ad33 o32.length cp34) S (wN rfl) (.inl rfl) rfl rfl (lb rfl) fun a S => ?_
    refine sMove (.slice ad30 o29.length cp31) S (wN rfl) (.inr rfl) rfl rfl (lb rfl) fun a S => ?_
    refine sMove (.slice ad33 o32.length cp34) S (wN rfl) (.inr rfl) rfl rfl (lb rfl) fun a S => ?_
    refine sMove (iv 0) S (wN rfl) (.inr rfl) rfl rfl (lb rfl) fun a S => ?_
    refine leafL (leafT (hK125 _ _ ?_))
    obtain rfl := Option.some.inj h
    have S := S.shutR (r := r_api_Grid) (T := 24) (v := .slice ad30 o29.length cp31) (xs := o29) 0 rfl
    have S := S.shutR (r := (rI .i64)) (T := 3) (v := .slice ad33 o32.length cp34) (xs := o32) 0 rfl
    exact wp_ret (sRet (.tuple #[.slice ad30 o29.length cp31, .slice ad33 o32.length cp34, iv 0]) S (rsl3 rfl (rvT (t := 6) (v := .slice ad30 o29.length cp31) S rfl) (rvT (t := 7) (v := .slice ad33 o32.length cp34) S rfl) (rvT (t := 8) (v := iv 0) S rfl)) ⟨((.slice ad30 o29.length cp31), (.slice ad33 o32.length cp34)), rfl, S.mem.sel [] [1, 0] (by decide) rfl rfl⟩)
  refine sSeq (fun K37 hK37 => ?_)
  refine sRegion ?_
  refine sField (b := b6) (off := 0) 1 1 S (wN rfl) rfl rfl rfl rfl rfl (lb rfl) fun a S => ?_
  refine sLoad1 (p := b6) (off := 1) (T := 24) (vs := [iv p0.W, iv p0.H, .slice ad3 p0.Bits.length cp4]) 0 (iv p0.H) S (wN rfl) rfl rfl rfl rfl rfl rfl (lb rfl) fun a S => ?_
  refine sMove (iv p2) S (wN rfl) (.inl rfl) rfl rfl (lb rfl) fun a S => ?_
  obtain ⟨z38, hx39, h⟩ := bindSome h
  refine sBin (iv z38) S (wN rfl) rfl rfl rfl (bQuo _ _ _ _ (x := p0.H) (y := p2) hx39) rfl (lb rfl) fun a S => ?_
  refine sMove (iv 0) S (wN rfl) (.inl rfl) rfl rfl (lb rfl) fun a S => ?_
  refine leafL (leafT (hK37 _ _ ?_))
  refine wp_block ?_
  have S := S.nilRow r_api_Grid 24 (α := api_Grid)
  have S := S.nilRow (rI .i64) 3 (α := Int)
  obtain ⟨t49, hl, g48⟩ := bindSome h
  refine sLoop hl (fun s0 a w => match s0 with | (s40, s43, s46) => ∃ ad41, ∃ cp42, ∃ ad44, ∃ cp45, St [] E [] w0 79 a w [(1, iv p1), (2, iv p2), (3, .pointer (some ⟨b6, 0, none⟩)), (6, .slice ad41 s40.length cp42), (7, .slice ad44 s43.length cp45), (43, iv z38), (44, iv s46)] [eBox b6 24 [iv p0.W, iv p0.H, .slice ad3 p0.Bits.length cp4], eRow r_api_Grid 24 (.slice ad41 s40.length cp42) s40, eRow (rI .i64) 3 (.slice ad44 s43.length cp45) s43] [fRep (rL rB) (.slice ad3 p0.Bits.length cp4) p0.Bits]) ⟨none, 0, none, 0, S.fix [2, 1, 0] [0] (by decide) rfl rfl rfl⟩ ?_
  clear hl h
  intro s0 a w c0 hI h hu47
  obtain ⟨s40, s43, s46⟩ := s0
  unfold block_Units_l2 at h
  dsimp only at h hI
  obtain ⟨ad41, cp42, ad44, cp45, S⟩ := hI
  refine sSeq (fun K56 hK56 => ?_)
  refine sRegion ?_
  refine sBin (.bool (decide (s46 < z38))) S (wN rfl) rfl rfl rfl (bLt _ _ _ _ .i64 s46 z38) rfl (lb rfl) fun a S => ?_
  refine leafL (leafT (hK56 _ _ ?_))
  refine sSeq (fun K57 hK57 => ?_)
  rcases iteSome h with ⟨hc58, h⟩ | ⟨hc58, h⟩
  rotate_left
  · refine sCondF S rfl hc58 ?_
    obtain rfl := Option.some.inj h
    obtain rfl := hu47 _ rfl
    have h := g48
    clear g48
    try dsimp only at h
    exact wp_exit (xThen (xThen (xHit (leafT (⟨s40, s43, Option.some.inj h, ad41, cp42, ad44, cp45, S.fix [1, 2] [] (by decide) rfl rfl rfl⟩)))))
  refine sCondT S rfl hc58 ?_
  refine wp_skip (leafT (hK57 _ _ ?_))
  obtain ⟨t65, h, g66⟩ := bindSome h
  refine sCut (fun a w => ∃ o59, ∃ o62, (o59, o62) = t65 ∧ ∃ ad60, ∃ cp61, ∃ ad63, ∃ cp64, St [] E [] w0 79 a w [(1, iv p1), (2, iv p2), (3, .pointer (some ⟨b6, 0, none⟩)), (6, .slice ad60 o59.length cp61), (7, .slice ad63 o62.length cp64), (43, iv z38), (44, iv s46)] [eBox b6 24 [iv p0.W, iv p0.H, .slice ad3 p0.Bits.length cp4], eRow r_api_Grid 24 (.slice ad60 o59.length cp61) o59, eRow (rI .i64) 3 (.slice ad63 o62.length cp64) o62] [fRep (rL rB) (.slice ad3 p0.Bits.length cp4) p0.Bits]) ?_ (fun a w hI => ?_)
  rotate_left
  · obtain ⟨o59, o62, rfl, ad60, cp61, ad63, cp64, S⟩ := hI
    have h := g66
    clear g66
    try dsimp only at h
    refine sRegion ?_
    refine sBin (iv (w64 (s46 + 1))) S (wN rfl) rfl rfl rfl (bAdd _ _ _ _ s46 1) rfl (lb rfl) fun a S => ?_
    refine sMove (iv (w64 (s46 + 1))) S (wN rfl) (.inl rfl) rfl rfl (lb rfl) fun a S => ?_
    exact leafL (leafT (⟨(o59, o62, w64 (s46 + 1)), (Option.some.inj h).symm, ⟨ad60, cp61, ad63, cp64, S.fix [0, 1, 2] [0] (by decide) rfl rfl rfl⟩⟩))
  refine wp_block ?_
  refine sSeq (fun K67 hK67 => ?_)
  refine sRegion ?_
  refine sMove (iv s46) S (wN rfl) (.inl rfl) rfl rfl (lb rfl) fun a S => ?_
  refine sMove (iv s46) S (wN rfl) (.inr rfl) rfl rfl (lb rfl) fun a S => ?_
  refine leafL (leafT (hK67 _ _ ?_))
  refine sSeq (fun K68 hK68 => ?_)
  refine sRegion ?_
  refine sField (b := b6) (off := 0) 0 0 S (wN rfl) rfl rfl rfl rfl rfl (lb rfl) fun a S => ?_
  refine sLoad1 (p := b6) (off := 0) (T := 24) (vs := [iv p0.W, iv p0.H, .slice ad3 p0.Bits.length cp4]) 0 (iv p0.W) S (wN rfl) rfl rfl rfl rfl rfl rfl (lb rfl) fun a S => ?_
  refine sMove (iv p1) S (wN rfl) (.inl rfl) rfl rfl (lb rfl) fun a S => ?_
  obtain ⟨z69, hx70, h⟩ := bindSome h
  refine sBin (iv z69) S (wN rfl) rfl rfl rfl (bQuo _ _ _ _ (x := p0.W) (y := p1) hx70) rfl (lb rfl) fun a S => ?_
  refine sMove (iv 0) S (wN rfl) (.inl rfl) rfl rfl (lb rfl) fun a S => ?_
  refine leafL (leafT (hK68 _ _ ?_))
  refine wp_block ?_
  obtain ⟨t80, hl, g79⟩ := bindSome h
  refine sLoop hl (fun s0 a w => match s0 with | (s71, s74, s77) => ∃ ad72, ∃ cp73, ∃ ad75, ∃ cp76, St [] E [] w0 79 a w [(1, iv p1), (2, iv p2), (3, .pointer (some ⟨b6, 0, none⟩)), (6, .slice ad72 s71.length cp73), (7, .slice ad75 s74.length cp76), (10, iv s46), (43, iv z38), (44, iv s46), (50, iv z69), (51, iv s77)] [eBox b6 24 [iv p0.W, iv p0.H, .slice ad3 p0.Bits.length cp4], eRow r_api_Grid 24 (.slice ad72 s71.length cp73) s71, eRow (rI .i64) 3 (.slice ad75 s74.length cp76) s74] [fRep (rL rB) (.slice ad3 p0.Bits.length cp4) p0.Bits]) ⟨ad41, cp42, ad44, cp45, S.fix [0, 1, 2] [0] (by decide) rfl rfl rfl⟩ ?_
  clear hl h
  intro s0 a w c0 hI h hu78
  obtain ⟨s71, s74, s77⟩ := s0
  unfold block_Units_l1 at h
  dsimp only at h hI
  obtain ⟨ad72, cp73, ad75, cp76, S⟩ := hI
  refine sSeq (fun K87 hK87 => ?_)
  refine sRegion ?_
  refine sBin (.bool (decide (s77 < z69))) S (wN rfl) rfl rfl rfl (bLt _ _ _ _ .i64 s77 z69) rfl (lb rfl) fun a S => ?_
  refine leafL (leafT (hK87 _ _ ?_))
  refine sSeq (fun K88 hK88 => ?_)
  rcases iteSome h with ⟨hc89, h⟩ | ⟨hc89, h⟩
  rotate_left
  · refine sCondF S rfl hc89 ?_
    obtain rfl := Option.some.inj h
    obtain rfl := hu78 _ rfl
    have h := g79
    clear g79
    try dsimp only at h
    exact wp_exit (xThen (xThen (xHit (leafB (leafT (⟨s71, s74, Option.some.inj h, ad72, cp73, ad75, cp76, S.fix [0, 1, 2] [0] (by decide) rfl rfl rfl⟩))))))
  refine sCondT S rfl hc89 ?_
  refine wp_skip (leafT (hK88 _ _ ?_))
  refine sSeq (fun K90 hK90 => ?_)
  refine wp_block ?_
  refine sSeq (fun K91 hK91 => ?_)
  refine sRegion ?_
  refine sMove (iv s77) S (wN rfl) (.inl rfl) rfl rfl (lb rfl) fun a S => ?_
  refine sMove (iv s77) S (wN rfl) (.inr rfl) rfl rfl (lb rfl) fun a S => ?_
  refine leafL (leafT (hK91 _ _ ?_))
  refine sSeq (fun K92 hK92 => ?_)
  refine sRegion ?_
  refine sLoadN (p := b6) (off := 0) (T := 24) (vs := [iv p0.W, iv p0.H, .slice ad3 p0.Bits.length cp4]) 0 [iv p0.W, iv p0.H, .slice ad3 p0.Bits.length cp4] S (wN rfl) rfl rfl rfl rfl rfl rfl rfl (lb rfl) fun a S => ?_
  refine sMove (iv p1) S (wN rfl) (.inl rfl) rfl rfl (lb rfl) fun a S => ?_
  refine sMove (iv p2) S (wN rfl) (.inl rfl) rfl rfl (lb rfl) fun a S => ?_
  refine sMove (iv s77) S (wN rfl) (.inl rfl) rfl rfl (lb rfl) fun a S => ?_
  refine sMove (iv s46) S (wN rfl) (.inl rfl) rfl rfl (lb rfl) fun a S => ?_
  obtain ⟨r93, hx94, h⟩ := bindSome h
  have S := S.learn (fRep r_api_Grid (.agg #[iv p0.W, iv p0.H, .slice ad3 p0.Bits.length cp4]) p0) ⟨_, rfl, S.mem.know (i := 0) (e := fRep (rL rB) (.slice ad3 p0.Bits.length cp4) p0.Bits) rfl⟩
  refine sCall (X := Value) (f := 49) (vs := [.agg #[iv p0.W, iv p0.H, .slice ad3 p0.Bits.length cp4], iv p1, iv p2, iv s77, iv s46]) (val := c_block_part_val r93) (B' := fun _ => []) (D' := c_block_part_D r93) [] [eBox b6 24 [iv p0.W, iv p0.H, .slice ad3 p0.Bits.length cp4], eRow r_api_Grid 24 (.slice ad72 s71.length cp73) s71, eRow (rI .i64) 3 (.slice ad75 s74.length cp76) s74] [fRep r_api_Grid (.agg #[iv p0.W, iv p0.H, .slice ad3 p0.Bits.length cp4]) p0] [0, 1, 2] [0] S (wN rfl) rfl callee49 rfl (by decide) rfl rfl (fun E1 w1 S1 => c_block_part E1 w1 p0 (.agg #[iv p0.W, iv p0.H, .slice ad3 p0.Bits.length cp4]) p1 p2 s77 s46 r93 hx94 S1) rfl (lb rfl) fun u95 a w S => ?_
  obtain ⟨u96, rfl, hu97⟩ := S.mem.know (i := 0) (e := fRep r_api_Grid (u95) r93) rfl
  have S := S.learn (fRep (rL rB) u96 r93.Bits) hu97
  obtain ⟨ad98, cp99, _, rfl, _⟩ := hu97
  refine sAlloc (.agg #[iv 0, iv 0, .slice none 0 0]) S (wN rfl) rfl rfl [iv 0, iv 0, .slice none 0 0] rfl rfl (lb rfl) fun a b100 w S => ?_
  refine sStore (p := b100) (off := 0) (T := 24) (vs := [iv 0, iv 0, .slice none 0 0]) (v := .agg #[iv r93.W, iv r93.H, .slice ad98 r93.Bits.length cp99]) 0 [iv r93.W, iv r93.H, .slice ad98 r93.Bits.length cp99] S (wN rfl) rfl rfl rfl rfl rfl rfl rfl (by simp) rfl fun a w S => ?_
  refine leafL (leafT (hK92 _ _ ?_))
  refine sSeq (fun K101 hK101 => ?_)
  refine sRegion ?_
  refine sMove (.slice ad72 s71.length cp73) S (wN rfl) (.inl rfl) rfl rfl (lb rfl) fun a S => ?_
  refine sFunc (g := 52) (vs := [.pointer (some ⟨b100, 0, none⟩)]) S (wN rfl) rfl rfl rfl (lb rfl) fun a S => ?_
  obtain ⟨r102, hx103, h⟩ := bindSome h
  have S1 := S.mem
  have S1 := S1.shutR (r := r_api_Grid) (T := 24) (v := .slice ad72 s71.length cp73) (xs := s71) 2 rfl
  have S1 := S1.shutB (r := r_api_Grid) (T := 24) (b := b100) (cs := [iv r93.W, iv r93.H, .slice ad98 r93.Bits.length cp99]) 0 (.agg #[iv r93.W, iv r93.H, .slice ad98 r93.Bits.length cp99]) r93 rfl rfl (S1.know (i := 2) (e := fRep r_api_Grid (.agg #[iv r93.W, iv r93.H, .slice ad98 r93.Bits.length cp99]) r93) rfl)
  refine sCallQ (X := Unit) (f := 51) (vs := [.slice ad72 s71.length cp73, .func (.func 52) #[] #[.pointer (some ⟨b100, 0, none⟩)]]) (val := fun _ => iv r102) S (wN rfl) rfl callee51 rfl (S1.quiet [1, 0] rfl) (fun E1 w1 S1 => c_slices_IndexFunc___api_Grid_api_Grid__s0 E1 w1 s71 (.slice ad72 s71.length cp73) r93 (.pointer (some ⟨b100, 0, none⟩)) r102 hx103 S1) rfl (lb rfl) fun _ a w S => ?_
  refine sMove (iv r102) S (wN rfl) (.inr rfl) rfl rfl (lb rfl) fun a S => ?_
  refine leafL (leafT (hK101 _ _ ?_))
  obtain ⟨t108, h, g109⟩ := bindSome h
  refine sCut (fun a w => ∃ o104, ∃ o107, (o104, o107) = t108 ∧ ∃ ad105, ∃ cp106, St [] E [] w0 79 a w [(1, iv p1), (2, iv p2), (3, .pointer (some ⟨b6, 0, none⟩)), (6, .slice ad105 o104.length cp106), (7, .slice ad75 s74.length cp76), (10, iv s46), (13, iv o107), (43, iv z38), (44, iv s46), (50, iv z69), (51, iv s77)] [eBox b6 24 [iv p0.W, iv p0.H, .slice ad3 p0.Bits.length cp4], eRow r_api_Grid 24 (.slice ad105 o104.length cp106) o104, eRow (rI .i64) 3 (.slice ad75 s74.length cp76) s74] [fRep (rL rB) (.slice ad3 p0.Bits.length cp4) p0.Bits]) ?_ (fun a w hI => ?_)
  rotate_left
  · obtain ⟨o104, o107, rfl, ad105, cp106, S⟩ := hI
    have h := g109
    clear g109
    try dsimp only at h
    refine sRegion ?_
    refine sMove (.slice ad75 s74.length cp76) S (wN rfl) (.inl rfl) rfl rfl (lb rfl) fun a S => ?_
    refine sMove (iv o107) S (wN rfl) (.inl rfl) rfl rfl (lb rfl) fun a S => ?_
    refine sLit (r := (rI .i64)) (T := 3) (xs := ([o107] : List Int)) [(0, iv o107)] 1 [iv o107] [iv o107] (iv 0) 8 S (wN rfl) rfl rfl Try.underlying35 rfl (by decide) (by decide) (by kernel_rfl) rfl (fun E1 w1 hE => All.cons rfl (All.nil _ _ _)) rfl rfl (lb rfl) fun a w ad119 cp120 S => ?_
    obtain ⟨l121, hx122, h⟩ := bindSome h
    refine sApp (r := (rI .i64)) (T := 3) (xs := s74) (ys := ([o107] : List Int)) (v := .slice ad75 s74.length cp76) (u := .slice ad119 ([o107] : List Int).length cp120) 3 (iv 0) 8 S (wN rfl) rfl Try.underlying35 rfl rfl (by decide) rfl rfl rfl (src_R (T := 3) 0 S.mem rfl) hx122 rfl (lb rfl) fun a w ad123 cp124 S => ?_
    refine sMove (.slice ad123 l121.length cp124) S (wN rfl) (.inr rfl) rfl rfl (lb rfl) fun a S => ?_
    refine leafL (leafB (leafT (hK90 _ _ ?_)))
    refine sRegion ?_
    refine sBin (iv (w64 (s77 + 1))) S (wN rfl) rfl rfl rfl (bAdd _ _ _ _ s77 1) rfl (lb rfl) fun a S => ?_
    refine sMove (iv (w64 (s77 + 1))) S (wN rfl) (.inl rfl) rfl rfl (lb rfl) fun a S => ?_
    exact leafL (leafT (⟨(o104, l121, w64 (s77 + 1)), (Option.some.inj h).symm, ⟨ad105, cp106, ad123, cp124, S.fix [2, 3, 0] [0] (by decide) rfl rfl rfl⟩⟩))
  refine sSeq (fun K110 hK110 => ?_)
  refine sRegion ?_
  refine sMove (iv r102) S (wN rfl) (.inl rfl) rfl rfl (lb rfl) fun a S => ?_
  refine sBin (.bool (decide (r102 < 0))) S (wN rfl) rfl rfl rfl (bLt _ _ _ _ .i64 r102 0) rfl (lb rfl) fun a S => ?_
  refine leafL (leafT (hK110 _ _ ?_))
  rcases iteSome h with ⟨hc111, h⟩ | ⟨hc111, h⟩
  rotate_left
  · refine sCondF S rfl hc111 ?_
    exact wp_skip (leafT (⟨s71, r102, Option.some.inj h, ad72, cp73, S.fix [1, 2, 3] [3] (by decide) rfl rfl rfl⟩))
  refine sCondT S rfl hc111 ?_
  refine sSeq (fun K112 hK112 => ?_)
  refine sRegion ?_
  refine sMove (.slice ad72 s71.length cp73) S (wN rfl) (.inl rfl) rfl rfl (lb rfl) fun a S => ?_
  refine sLen (ad := ad72) (m := s71.length) (c := cp73) S (wN rfl) rfl Try.underlying34 rfl rfl (lb rfl) fun a S => ?_
  refine sMove (iv (s71.length : Int)) S (wN rfl) (.inr rfl) rfl rfl (lb rfl) fun a S => ?_
  refine leafL (leafT (hK112 _ _ ?_))
  refine sRegion ?_
  refine sMove (.slice ad72 s71.length cp73) S (wN rfl) (.inl rfl) rfl rfl (lb rfl) fun a S => ?_
  refine sLoadN (p := b100) (off := 0) (T := 24) (vs := [iv r93.W, iv r93.H, .slice ad98 r93.Bits.length cp99]) 0 [iv r93.W, iv r93.H, .slice ad98 r93.Bits.length cp99] S (wN rfl) rfl rfl rfl rfl rfl rfl rfl (lb rfl) fun a S => ?_
  refine sLit (r := r_api_Grid) (T := 24) (xs := [r93]) [(0, .agg #[iv r93.W, iv r93.H, .slice ad98 r93.Bits.length cp99])] 1 [.agg #[iv r93.W, iv r93.H, .slice ad98 r93.Bits.length cp99]] [iv r93.W, iv r93.H, .slice ad98 r93.Bits.length cp99] (.agg #[iv 0, iv 0, .slice none 0 0]) 40 S (wN rfl) rfl rfl Try.underlying34 rfl (by decide) (by decide) (by kernel_rfl) rfl (fun E1 w1 hE => All.cons (r_api_Grid.mono hE (S.mem.know (i := 1) (e := fRep r_api_Grid (.agg #[iv r93.W, iv r93.H, .slice ad98 r93.Bits.length cp99]) r93) rfl)) (All.nil _ _ _)) rfl rfl (lb rfl) fun a w ad113 cp114 S => ?_
  obtain ⟨l115, hx116, h⟩ := bindSome h
  refine sApp (r := r_api_Grid) (T := 24) (xs := s71) (ys := [r93]) (v := .slice ad72 s71.length cp73) (u := .slice ad113 [r93].length cp114) 3 (.agg #[iv 0, iv 0, .slice none 0 0]) 40 S (wN rfl) rfl Try.underlying34 rfl rfl (by decide) rfl rfl rfl (src_R (T := 24) 0 S.mem rfl) hx116 rfl (lb rfl) fun a w ad117 cp118 S => ?_
  refine sMove (.slice ad117 l115.length cp118) S (wN rfl) (.inr rfl) rfl rfl (lb rfl) fun a S => ?_
  exact leafL (leafT (⟨l115, (s71.length : Int), Option.some.inj h, ad117, cp118, S.fix [3, 0, 4] [3] (by decide) rfl rfl rfl⟩))

end Go.Proofs.Ythfifeabomdlpaa
namespace Go.Proofs.Ythfifeabomdlpaa
open Go.RowKit
set_option linter.unusedVariables false

def anc_block_Join_1_s0_0 : List (List Nat) := [[], [], [1], [1, 2], [0, 1, 2, 3], [0, 1, 2, 3, 4], [0, 1, 2, 3, 4, 5]]
noncomputable def F_block_Join_1_s0 (p0 : api_Grid) (p1 : (List api_Grid)) : Option Bool :=
  Option.bind (idxO p1 0) fun x11 =>
  Option.bind (F_block_alike p0 x11) fun r20 =>
  some (!r20)
set_option maxHeartbeats 4000000 in
set_option maxRecDepth 100000 in
theorem c_block_Join_1_s0 (E : Nat → Prop) (w0 : World) (p0 : api_Grid) (v0 : Value) (p1 : (List api_Grid)) (v1 : Value) (r : Bool) (h : F_block_Join_1_s0 p0 p1 = some r) (S : St0 E [] w0 w0 [] [fRep r_api_Grid (v0) p0, fPtr (rL r_api_Grid) (v1) p1]) :
    Calls Try.prog 54 #[v0, v1] w0 (Ret (X := Unit) E [] w0 (fun _ => .bool r) (fun _ => []) (fun _ => [])) := by
  unfold F_block_Join_1_s0 at h
  obtain ⟨u1, rfl, hu2⟩ := S.know (i := 0) (e := fRep r_api_Grid (v0) p0) rfl
  have S := S.learn (fRep (rL rB) u1 p0.Bits) hu2
  obtain ⟨ad3, cp4, _, rfl, _⟩ := hu2
  refine sEnter (args := [.agg #[iv p0.W, iv p0.H, .slice ad3 p0.Bits.length cp4], v1]) 10 Try.func54 rfl rfl (by simp) S (fun a S => ?_)
  refine sSeq (fun K5 hK5 => ?_)
  refine sRegion ?_
  refine sBox (v := .agg #[iv p0.W, iv p0.H, .slice ad3 p0.Bits.length cp4]) S (wN rfl) rfl rfl [iv p0.W, iv p0.H, .slice ad3 p0.Bits.length cp4] rfl rfl (lb rfl) fun a b6 w S => ?_
  refine sMove (.bool false) S (wN rfl) (.inr rfl) rfl rfl (lb rfl) fun a S => ?_
  refine leafL (leafT (hK5 _ _ ?_))
  refine sSeq (fun K7 hK7 => ?_)
  obtain ⟨x11, hx12, h⟩ := bindSome h
  obtain ⟨r20, hx21, h⟩ := bindSome h
  obtain ⟨u22, S⟩ := pLoad (r := (rL r_api_Grid)) (q := v1) (x := p1) 2 S rfl
  obtain ⟨ad23, cp24, _, rfl, _⟩ := S.mem.know (i := 1) (e := fRep (rL r_api_Grid) (u22) p1) rfl
  obtain ⟨q25, hq26, S⟩ := pIdx (P := Try.prog) (r := r_api_Grid) (v := .slice ad23 p1.length cp24) (xs := p1) (j := 0) 34 24 1 S Try.underlying34 rfl rfl hx12
  obtain ⟨u27, S⟩ := pLoad (r := r_api_Grid) (q := q25) (x := x11) 0 S rfl
  obtain ⟨u28, rfl, hu29⟩ := S.mem.know (i := 1) (e := fRep r_api_Grid (u27) x11) rfl
  have S := S.learn (fRep (rL rB) u28 x11.Bits) hu29
  obtain ⟨ad30, cp31, _, rfl, _⟩ := hu29
  refine sDraw (nf := []) (W := [(0, 4, .agg #[iv p0.W, iv p0.H, .slice ad3 p0.Bits.length cp4]), (1, 5, .slice ad23 p1.length cp24), (2, 6, q25), (3, 7, .agg #[iv x11.W, iv x11.H, .slice ad30 x11.Bits.length cp31]), (4, 8, .bool r20), (5, 9, .bool (!r20)), (6, 3, .bool (!r20))]) rfl S ?_
  refine node_by (A := anc_block_Join_1_s0_0) (nf := []) (Y := []) (W := [(0, 4, .agg #[iv p0.W, iv p0.H, .slice ad3 p0.Bits.length cp4]), (1, 5, .slice ad23 p1.length cp24), (2, 6, q25), (3, 7, .agg #[iv x11.W, iv x11.H, .slice ad30 x11.Bits.length cp31]), (4, 8, .bool r20), (5, 9, .bool (!r20)), (6, 3, .bool (!r20))]) 7 (by kernel_rfl) (by kernel_rfl) (by kernel_rfl) (by kernel_rfl) (by kernel_rfl) [0, 1, 2, 3, 4, 5, 6] (by kernel_rfl) (by decide) (by decide) (aF 0 6 (by decide) ?_ (aF 1 5 (by decide) ?_ (aF 2 4 (by decide) ?_ (aF 3 3 (by decide) ?_ (aF 4 2 (by decide) ?_ (aF 5 1 (by decide) ?_ (aF 6 0 (by decide) ?_ (trivial)))))))) [(3, .bool (!r20))] (fin_of [some 6] rfl (by kernel_rfl) (by kernel_rfl)) (fun _ a w S => ?_)
  · refine fI 4 (.agg #[iv p0.W, iv p0.H, .slice ad3 p0.Bits.length cp4]) [(2, .pointer (some ⟨b6, 0, none⟩))] 0 [none] rfl rfl rfl rfl rfl rfl fun G a w S => ?_
    refine sLoadN (p := b6) (off := 0) (T := 24) (vs := [iv p0.W, iv p0.H, .slice ad3 p0.Bits.length cp4]) 0 [iv p0.W, iv p0.H, .slice ad3 p0.Bits.length cp4] S (wN rfl) rfl rfl rfl rfl rfl rfl rfl (lb rfl) fun a S => ?_
    exact leafL ⟨rfl, S⟩
  · refine fI 5 (.slice ad23 p1.length cp24) [(1, v1)] 1 [none] rfl rfl rfl rfl rfl rfl fun G a w S => ?_
    refine sLoadV1 (vq := v1) 4 (.slice ad23 p1.length cp24) S (wN rfl) rfl rfl rfl rfl rfl (lb rfl) fun a S => ?_
    exact leafL ⟨rfl, S⟩
  · refine fI 6 q25 [(5, .slice ad23 p1.length cp24)] 2 [some 1] rfl rfl rfl rfl rfl rfl fun G a w S => ?_
    refine sIdxV (v := .slice ad23 p1.length cp24) (k := .i64) (j := 0) S (wN rfl) rfl rfl rfl hq26 rfl (lb rfl) fun a S => ?_
    exact leafL ⟨rfl, S⟩
  · refine fI 7 (.agg #[iv x11.W, iv x11.H, .slice ad30 x11.Bits.length cp31]) [(6, q25)] 3 [some 2] rfl rfl rfl rfl rfl rfl fun G a w S => ?_
    refine sLoadVN (vq := q25) 1 [iv x11.W, iv x11.H, .slice ad30 x11.Bits.length cp31] S (wN rfl) rfl rfl rfl rfl rfl rfl (lb rfl) fun a S => ?_
    exact leafL ⟨rfl, S⟩
  · refine fI 8 (.bool r20) [(4, .agg #[iv p0.W, iv p0.H, .slice ad3 p0.Bits.length cp4]), (7, .agg #[iv x11.W, iv x11.H, .slice ad30 x11.Bits.length cp31])] 4 [some 0, some 3] rfl rfl rfl rfl rfl rfl fun G a w S => ?_
    have S1 := S.mem
    refine sCallQ (X := Unit) (f := 42) (vs := [.agg #[iv p0.W, iv p0.H, .slice ad3 p0.Bits.length cp4], .agg #[iv x11.W, iv x11.H, .slice ad30 x11.Bits.length cp31]]) (val := fun _ => .bool r20) S (wN rfl) rfl callee42 rfl (S1.quiet [7, 2] rfl) (fun E1 w1 S1 => c_block_alike E1 w1 p0 (.agg #[iv p0.W, iv p0.H, .slice ad3 p0.Bits.length cp4]) x11 (.agg #[iv x11.W, iv x11.H, .slice ad30 x11.Bits.length cp31]) r20 hx21 S1) rfl (lb rfl) fun _ a w S => ?_
    exact leafL ⟨rfl, S⟩
  · refine fI 9 (.bool (!r20)) [(8, .bool r20)] 5 [some 4] rfl rfl rfl rfl rfl rfl fun G a w S => ?_
    refine sNot (b := r20) S (wN rfl) rfl rfl rfl (lb rfl) fun a S => ?_
    exact leafL ⟨rfl, S⟩
  · refine fI 3 (.bool (!r20)) [(9, .bool (!r20))] 6 [some 5] rfl rfl rfl rfl rfl rfl fun G a w S => ?_
    refine sMove (.bool (!r20)) S (wN rfl) (.inr rfl) rfl rfl (lb rfl) fun a S => ?_
    exact leafL ⟨rfl, S⟩
  refine leafT (hK7 _ _ ?_)
  obtain rfl := Option.some.inj h
  exact wp_ret (sRet (.bool (!r20)) S (rsl1 rfl (rvT (t := 3) (v := .bool (!r20)) S rfl)) ⟨(), rfl, S.mem.sel [] [] (by decide) rfl rfl⟩)

end Go.Proofs.Ythfifeabomdlpaa
namespace Go.Proofs.Ythfifeabomdlpaa
open Go.RowKit
set_option linter.unusedVariables false

noncomputable def slices_IndexFunc___api_Grid_api_Grid__s1_l1 (p0 : (List api_Grid)) (p1 : (List api_Grid)) : Int → Option (Int ⊕ (Int ⊕ Unit)) := fun s0 => match s0 with
  | s7 =>
    if decide (s7 < (p0.length : Int)) then
      Option.bind (idxO p0 s7) fun x17 =>
      Option.bind (F_block_Join_1_s0 x17 p1) fun r26 =>
      if r26 then
        some (.inr (.inl s7))
      else
        some (.inl (w64 (s7 + 1)))
    else
      some (.inr (.inr ()))
noncomputable def F_slices_IndexFunc___api_Grid_api_Grid__s1 (p0 : (List api_Grid)) (p1 : (List api_Grid)) : Option Int :=
  Option.bind (α := Unit ⊕ Int) (
    Option.bind (whileO (slices_IndexFunc___api_Grid_api_Grid__s1_l1 p0 p1) 0) fun z0 => match z0 with
      | .inl z =>
        some (.inr z)
      | .inr _ =>
        some (.inl ())) fun z0 => match z0 with
    | .inl _ =>
      some (-1)
    | .inr z =>
      some z
set_option maxHeartbeats 4000000 in
set_option maxRecDepth 100000 in
theorem c_slices_IndexFunc___api_Grid_api_Grid__s1 (E : Nat → Prop) (w0 : World) (p0 : (List api_Grid)) (v0 : Value) (p1 : (List api_Grid)) (v1 : Value) (r : Int) (h : F_slices_IndexFunc___api_Grid_api_Grid__s1 p0 p1 = some r) (S : St0 E [] w0 w0 [] [fRep (rL r_api_Grid) (v0) p0, fPtr (rL r_api_Grid) (v1) p1]) :
    Calls Try.prog 51 #[v0, .func (.func 54) #[] #[v1]] w0 (Ret (X := Unit) E [] w0 (fun _ => .int .i64 r) (fun _ => []) (fun _ => [])) := by
  unfold F_slices_IndexFunc___api_Grid_api_Grid__s1 at h
  obtain ⟨ad1, cp2, _, rfl, _⟩ := S.know (i := 0) (e := fRep (rL r_api_Grid) (v0) p0) rfl
  refine sEnter (args := [.slice ad1 p0.length cp2, .func (.func 54) #[] #[v1]]) 19 Try.func51 rfl rfl (by simp) S (fun a S => ?_)
  refine sSeq (fun K3 hK3 => ?_)
  refine sRegion ?_
  refine sMove (iv 0) S (wN rfl) (.inr rfl) rfl rfl (lb rfl) fun a S => ?_
  refine leafL (leafT (hK3 _ _ ?_))
  obtain ⟨t4, h, g5⟩ := bindSome h
  refine sCut (fun a w => .inl () = t4 ∧ St [] E [] w0 19 a w [] [] []) ?_ (fun a w hI => ?_)
  rotate_left
  · obtain ⟨rfl, S⟩ := hI
    have h := g5
    clear g5
    try dsimp only at h
    refine sSeq (fun K30 hK30 => ?_)
    refine sRegion ?_
    refine sMove (iv (-1)) S (wN rfl) (.inr rfl) rfl rfl (lb rfl) fun a S => ?_
    refine leafL (leafT (hK30 _ _ ?_))
    obtain rfl := Option.some.inj h
    exact wp_ret (sRet (iv (-1)) S (rsl1 rfl (rvT (t := 4) (v := iv (-1)) S rfl)) ⟨(), rfl, S.mem.sel [] [] (by decide) rfl rfl⟩)
  refine sSeq (fun K6 hK6 => ?_)
  refine sRegion ?_
  refine sMove (.slice ad1 p0.length cp2) S (wN rfl) (.inl rfl) rfl rfl (lb rfl) fun a S => ?_
  refine sLen (ad := ad1) (m := p0.length) (c := cp2) S (wN rfl) rfl Try.underlying34 rfl rfl (lb rfl) fun a S => ?_
  refine sMove (iv 0) S (wN rfl) (.inl rfl) rfl rfl (lb rfl) fun a S => ?_
  refine leafL (leafT (hK6 _ _ ?_))
  refine wp_block ?_
  obtain ⟨t10, hl, g9⟩ := bindSome h
  refine sLoop hl (fun s0 a w => match s0 with | s7 => St [] E [] w0 19 a w [(0, .slice ad1 p0.length cp2), (1, .func (.func 54) #[] #[v1]), (7, iv (p0.length : Int)), (8, iv s7)] [] [fPtr (rL r_api_Grid) (v1) p1, fRep (rL r_api_Grid) (.slice ad1 p0.length cp2) p0]) (S.fix [] [1, 0] (by decide) rfl rfl rfl) ?_
  clear hl h
  intro s7 a w c0 hI h hu8
  unfold slices_IndexFunc___api_Grid_api_Grid__s1_l1 at h
  dsimp only at h hI
  have S := hI
  refine sSeq (fun K11 hK11 => ?_)
  refine sRegion ?_
  refine sBin (.bool (decide (s7 < (p0.length : Int)))) S (wN rfl) rfl rfl rfl (bLt _ _ _ _ .i64 s7 (p0.length : Int)) rfl (lb rfl) fun a S => ?_
  refine leafL (leafT (hK11 _ _ ?_))
  refine sSeq (fun K12 hK12 => ?_)
  rcases iteSome h with ⟨hc13, h⟩ | ⟨hc13, h⟩
  rotate_left
  · refine sCondF S rfl hc13 ?_
    obtain rfl := Option.some.inj h
    obtain rfl := hu8 _ rfl
    have h := g9
    clear g9
    try dsimp only at h
    exact wp_exit (xThen (xThen (xHit (leafT (⟨Option.some.inj h, S.fix [] [] (by decide) rfl rfl rfl⟩)))))
  refine sCondT S rfl hc13 ?_
  refine wp_skip (leafT (hK12 _ _ ?_))
  refine sSeq (fun K14 hK14 => ?_)
  refine wp_block ?_
  refine sSeq (fun K15 hK15 => ?_)
  refine sRegion ?_
  refine sMove (iv s7) S (wN rfl) (.inl rfl) rfl rfl (lb rfl) fun a S => ?_
  refine sMove (iv s7) S (wN rfl) (.inr rfl) rfl rfl (lb rfl) fun a S => ?_
  refine leafL (leafT (hK15 _ _ ?_))
  refine sSeq (fun K16 hK16 => ?_)
  refine sRegion ?_
  refine sMove (.func (.func 54) #[] #[v1]) S (wN rfl) (.inl rfl) rfl rfl (lb rfl) fun a S => ?_
  refine sMove (.slice ad1 p0.length cp2) S (wN rfl) (.inl rfl) rfl rfl (lb rfl) fun a S => ?_
  refine sMove (iv s7) S (wN rfl) (.inl rfl) rfl rfl (lb rfl) fun a S => ?_
  obtain ⟨x17, hx18, h⟩ := bindSome h
  obtain ⟨q19, hq20, S⟩ := pIdx (P := Try.prog) (r := r_api_Grid) (v := .slice ad1 p0.length cp2) (xs := p0) (j := s7) 34 24 1 S Try.underlying34 rfl rfl hx18
  refine sIdxV (v := .slice ad1 p0.length cp2) (k := .i64) (j := s7) S (wN rfl) rfl rfl rfl hq20 rfl (lb rfl) fun a S => ?_
  obtain ⟨u21, S⟩ := pLoad (r := r_api_Grid) (q := q19) (x := x17) 0 S rfl
  obtain ⟨u22, rfl, hu23⟩ := S.mem.know (i := 1) (e := fRep r_api_Grid (u21) x17) rfl
  have S := S.learn (fRep (rL rB) u22 x17.Bits) hu23
  obtain ⟨ad24, cp25, _, rfl, _⟩ := hu23
  refine sLoadVN (vq := q19) 1 [iv x17.W, iv x17.H, .slice ad24 x17.Bits.length cp25] S (wN rfl) rfl rfl rfl rfl rfl rfl (lb rfl) fun a S => ?_
  obtain ⟨r26, hx27, h⟩ := bindSome h
  have S1 := S.mem
  refine sCallVQ (X := Unit) (g := 54) (vs := [.agg #[iv x17.W, iv x17.H, .slice ad24 x17.Bits.length cp25]]) (caps := [v1]) (val := fun _ => .bool r26) S (wN rfl) rfl rfl callee54 rfl (S1.quiet [2, 4] rfl) (fun E1 w1 S1 => c_block_Join_1_s0 E1 w1 x17 (.agg #[iv x17.W, iv x17.H, .slice ad24 x17.Bits.length cp25]) p1 v1 r26 hx27 S1) rfl (lb rfl) fun _ a w S => ?_
  refine leafL (leafT (hK16 _ _ ?_))
  rcases iteSome h with ⟨hc28, h⟩ | ⟨hc28, h⟩
  rotate_left
  · refine sCondF S rfl hc28 ?_
    refine wp_skip (leafB (leafT (hK14 _ _ ?_)))
    refine sRegion ?_
    refine sBin (iv (w64 (s7 + 1))) S (wN rfl) rfl rfl rfl (bAdd _ _ _ _ s7 1) rfl (lb rfl) fun a S => ?_
    refine sMove (iv (w64 (s7 + 1))) S (wN rfl) (.inl rfl) rfl rfl (lb rfl) fun a S => ?_
    exact leafL (leafT (⟨w64 (s7 + 1), (Option.some.inj h).symm, (S.fix [] [4, 5] (by decide) rfl rfl rfl)⟩))
  refine sCondT S rfl hc28 ?_
  refine sSeq (fun K29 hK29 => ?_)
  refine sRegion ?_
  refine sMove (iv s7) S (wN rfl) (.inl rfl) rfl rfl (lb rfl) fun a S => ?_
  refine sMove (iv s7) S (wN rfl) (.inr rfl) rfl rfl (lb rfl) fun a S => ?_
  refine leafL (leafT (hK29 _ _ ?_))
  obtain rfl := Option.some.inj h
  obtain rfl := hu8 _ rfl
  have h := g9
  clear g9
  try dsimp only at h
  obtain rfl := Option.some.inj h
  have h := g5
  clear g5
  try dsimp only at h
  obtain rfl := Option.some.inj h
  exact wp_ret (rBlock (rThen (rThen (rBlock (rThen (sRet (iv s7) S (rsl1 rfl (rvT (t := 4) (v := iv s7) S rfl)) ⟨(), rfl, S.mem.sel [] [] (by decide) rfl rfl⟩))))))

end Go.Proofs.Ythfifeabomdlpaa
namespace Go.Proofs.Ythfifeabomdlpaa
open Go.RowKit
set_option linter.unusedVariables false

noncomputable def F_slices_ContainsFunc___api_Grid_api_Grid__s0 (p0 : (List api_Grid)) (p1 : (List api_Grid)) : Option Bool :=
  Option.bind (F_slices_IndexFunc___api_Grid_api_Grid__s1 p0 p1) fun r5 =>
  some (decide (0 ≤ r5))
set_option maxHeartbeats 4000000 in
set_option maxRecDepth 100000 in
theorem c_slices_ContainsFunc___api_Grid_api_Grid__s0 (E : Nat → Prop) (w0 : World) (p0 : (List api_Grid)) (v0 : Value) (p1 : (List api_Grid)) (v1 : Value) (r : Bool) (h : F_slices_ContainsFunc___api_Grid_api_Grid__s0 p0 p1 = some r) (S : St0 E [] w0 w0 [] [fRep (rL r_api_Grid) (v0) p0, fPtr (rL r_api_Grid) (v1) p1]) :
    Calls Try.prog 55 #[v0, .func (.func 54) #[] #[v1]] w0 (Ret (X := Unit) E [] w0 (fun _ => .bool r) (fun _ => []) (fun _ => [])) := by
  unfold F_slices_ContainsFunc___api_Grid_api_Grid__s0 at h
  obtain ⟨ad1, cp2, _, rfl, _⟩ := S.know (i := 0) (e := fRep (rL r_api_Grid) (v0) p0) rfl
  refine sEnter (args := [.slice ad1 p0.length cp2, .func (.func 54) #[] #[v1]]) 9 Try.func55 rfl rfl (by simp) S (fun a S => ?_)
  refine sSeq (fun K3 hK3 => ?_)
  refine sRegion ?_
  refine sMove (.bool false) S (wN rfl) (.inr rfl) rfl rfl (lb rfl) fun a S => ?_
  refine leafL (leafT (hK3 _ _ ?_))
  refine sSeq (fun K4 hK4 => ?_)
  refine sRegion ?_
  refine sMove (.slice ad1 p0.length cp2) S (wN rfl) (.inl rfl) rfl rfl (lb rfl) fun a S => ?_
  refine sMove (.func (.func 54) #[] #[v1]) S (wN rfl) (.inl rfl) rfl rfl (lb rfl) fun a S => ?_
  obtain ⟨r5, hx6, h⟩ := bindSome h
  have S1 := S.mem
  refine sCallQ (X := Unit) (f := 51) (vs := [.slice ad1 p0.length cp2, .func (.func 54) #[] #[v1]]) (val := fun _ => iv r5) S (wN rfl) rfl callee51 rfl (S1.quiet [0, 1] rfl) (fun E1 w1 S1 => c_slices_IndexFunc___api_Grid_api_Grid__s1 E1 w1 p0 (.slice ad1 p0.length cp2) p1 v1 r5 hx6 S1) rfl (lb rfl) fun _ a w S => ?_
  refine sBin (.bool (decide (0 ≤ r5))) S (wN rfl) rfl rfl rfl (bGe _ _ _ _ .i64 r5 0) rfl (lb rfl) fun a S => ?_
  refine sMove (.bool (decide (0 ≤ r5))) S (wN rfl) (.inr rfl) rfl rfl (lb rfl) fun a S => ?_
  refine leafL (leafT (hK4 _ _ ?_))
  obtain rfl := Option.some.inj h
  exact wp_ret (sRet (.bool (decide (0 ≤ r5))) S (rsl1 rfl (rvT (t := 4) (v := .bool (decide (0 ≤ r5))) S rfl)) ⟨(), rfl, S.mem.sel [] [] (by decide) rfl rfl⟩)

end Go.Proofs.Ythfifeabomdlpaa
namespace Go.Proofs.Ythfifeabomdlpaa
open Go.RowKit
set_option linter.unusedVariables false

noncomputable def F_block_index_1_s0 (p0 : Int) (p1 : Int) : Option Bool :=
  Option.bind (α := Bool) (
    if decide (p0 < 0) then
      some true
    else
      some (decide (p1 ≤ p0))) fun o2 =>
  some o2
set_option maxHeartbeats 4000000 in
set_option maxRecDepth 100000 in
theorem c_block_index_1_s0 (E : Nat → Prop) (w0 : World) (p0 : Int) (p1 : Int) (v1 : Value) (r : Bool) (h : F_block_index_1_s0 p0 p1 = some r) (S : St0 E [] w0 w0 [] [fPtr (rI .i64) (v1) p1]) :
    Calls Try.prog 72 #[iv p0, v1] w0 (Ret (X := Unit) E [] w0 (fun _ => .bool r) (fun _ => []) (fun _ => [])) := by
  unfold F_block_index_1_s0 at h
  refine sEnter (args := [iv p0, v1]) 11 Try.func72 rfl rfl (by simp) S (fun a S => ?_)
  refine sSeq (fun K1 hK1 => ?_)
  refine sRegion ?_
  refine sMove (.bool false) S (wN rfl) (.inr rfl) rfl rfl (lb rfl) fun a S => ?_
  refine leafL (leafT (hK1 _ _ ?_))
  obtain ⟨t3, h, g4⟩ := bindSome h
  refine sCut (fun a w => ∃ o2, o2 = t3 ∧ St [] E [] w0 11 a w [(3, .bool o2)] [] []) ?_ (fun a w hI => ?_)
  rotate_left
  · obtain ⟨o2, rfl, S⟩ := hI
    have h := g4
    clear g4
    try dsimp only at h
    obtain rfl := Option.some.inj h
    exact wp_ret (sRet (.bool o2) S (rsl1 rfl (rvT (t := 3) (v := .bool o2) S rfl)) ⟨(), rfl, S.mem.sel [] [] (by decide) rfl rfl⟩)
  refine sRegion ?_
  refine sMove (iv p0) S (wN rfl) (.inl rfl) rfl rfl (lb rfl) fun a S => ?_
  refine sBin (.bool (decide (p0 < 0))) S (wN rfl) rfl rfl rfl (bLt _ _ _ _ .i64 p0 0) rfl (lb rfl) fun a S => ?_
  refine sMove (.bool (decide (p0 < 0))) S (wN rfl) (.inl rfl) rfl rfl (lb rfl) fun a S => ?_
  rcases iteSome h with ⟨hc5, h⟩ | ⟨hc5, h⟩
  · refine sSkip 2 false 6 7 S rfl rfl rfl hc5 rfl (lb rfl) fun a S => ?_
    refine sSkip 2 false 6 8 S rfl rfl rfl hc5 rfl (lb rfl) fun a S => ?_
    refine sSkip 2 false 6 9 S rfl rfl rfl hc5 rfl (lb rfl) fun a S => ?_
    refine sPickT (.bool true) S (wN rfl) rfl rfl hc5 rfl rfl (lb rfl) fun a S => ?_
    refine sMove (.bool true) S (wN rfl) (.inr rfl) rfl rfl (lb rfl) fun a S => ?_
    exact leafL (leafT (⟨true, Option.some.inj h, S.fix [] [] (by decide) rfl rfl rfl⟩))
  refine sMove (iv p0) S (wG 2 false 6 rfl rfl rfl hc5) (.inl rfl) rfl rfl (lb rfl) fun a S => ?_
  obtain ⟨u6, S⟩ := pLoad (r := (rI .i64)) (q := v1) (x := p1) 0 S rfl
  obtain rfl : u6 = iv p1 := S.mem.know (i := 1) (e := fRep (rI .i64) (u6) p1) rfl
  refine sLoadV1 (vq := v1) 0 (iv p1) S (wG 2 false 6 rfl rfl rfl hc5) rfl rfl rfl rfl rfl (lb rfl) fun a S => ?_
  refine sBin (.bool (decide (p1 ≤ p0))) S (wG 2 false 6 rfl rfl rfl hc5) rfl rfl rfl (bGe _ _ _ _ .i64 p0 p1) rfl (lb rfl) fun a S => ?_
  refine sPickF (.bool (decide (p1 ≤ p0))) S (wN rfl) rfl rfl hc5 rfl rfl (lb rfl) fun a S => ?_
  refine sMove (.bool (decide (p1 ≤ p0))) S (wN rfl) (.inr rfl) rfl rfl (lb rfl) fun a S => ?_
  exact leafL (leafT (⟨decide (p1 ≤ p0), Option.some.inj h, S.fix [] [] (by decide) rfl rfl rfl⟩))

end Go.Proofs.Ythfifeabomdlpaa
namespace Go.Proofs.Ythfifeabomdlpaa
open Go.RowKit
set_option linter.unusedVariables false

noncomputable def slices_IndexFunc___int_int__s0_l1 (p0 : (List Int)) (p1 : Int) : Int → Option (Int ⊕ (Int ⊕ Unit)) := fun s0 => match s0 with
  | s7 =>
    if decide (s7 < (p0.length : Int)) then
      Option.bind (idxO p0 s7) fun x17 =>
      Option.bind (F_block_index_1_s0 x17 p1) fun r22 =>
      if r22 then
        some (.inr (.inl s7))
      else
        some (.inl (w64 (s7 + 1)))
    else
      some (.inr (.inr ()))
noncomputable def F_slices_IndexFunc___int_int__s0 (p0 : (List Int)) (p1 : Int) : Option Int :=
  Option.bind (α := Unit ⊕ Int) (
    Option.bind (whileO (slices_IndexFunc___int_int__s0_l1 p0 p1) 0) fun z0 => match z0 with
      | .inl z =>
        some (.inr z)
      | .inr _ =>
        some (.inl ())) fun z0 => match z0 with
    | .inl _ =>
      some (-1)
    | .inr z =>
      some z
set_option maxHeartbeats 4000000 in
set_option maxRecDepth 100000 in
theorem c_slices_IndexFunc___int_int__s0 (E : Nat → Prop) (w0 : World) (p0 : (List Int)) (v0 : Value) (p1 : Int) (v1 : Value) (r : Int) (h : F_slices_IndexFunc___int_int__s0 p0 p1 = some r) (S : St0 E [] w0 w0 [] [fRep (rL (rI .i64)) (v0) p0, fPtr (rI .i64) (v1) p1]) :
    Calls Try.prog 77 #[v0, .func (.func 72) #[] #[v1]] w0 (Ret (X := Unit) E [] w0 (fun _ => .int .i64 r) (fun _ => []) (fun _ => [])) := by
  unfold F_slices_IndexFunc___int_int__s0 at h
  obtain ⟨ad1, cp2, _, rfl, _⟩ := S.know (i := 0) (e := fRep (rL (rI .i64)) (v0) p0) rfl
  refine sEnter (args := [.slice ad1 p0.length cp2, .func (.func 72) #[] #[v1]]) 19 Try.func77 rfl rfl (by simp) S (fun a S => ?_)
  refine sSeq (fun K3 hK3 => ?_)
  refine sRegion ?_
  refine sMove (iv 0) S (wN rfl) (.inr rfl) rfl rfl (lb rfl) fun a S => ?_
  refine leafL (leafT (hK3 _ _ ?_))
  obtain ⟨t4, h, g5⟩ := bindSome h
  refine sCut (fun a w => .inl () = t4 ∧ St [] E [] w0 19 a w [] [] []) ?_ (fun a w hI => ?_)
  rotate_left
  · obtain ⟨rfl, S⟩ := hI
    have h := g5
    clear g5
    try dsimp only at h
    refine sSeq (fun K26 hK26 => ?_)
    refine sRegion ?_
    refine sMove (iv (-1)) S (wN rfl) (.inr rfl) rfl rfl (lb rfl) fun a S => ?_
    refine leafL (leafT (hK26 _ _ ?_))
    obtain rfl := Option.some.inj h
    exact wp_ret (sRet (iv (-1)) S (rsl1 rfl (rvT (t := 4) (v := iv (-1)) S rfl)) ⟨(), rfl, S.mem.sel [] [] (by decide) rfl rfl⟩)
  refine sSeq (fun K6 hK6 => ?_)
  refine sRegion ?_
  refine sMove (.slice ad1 p0.length cp2) S (wN rfl) (.inl rfl) rfl rfl (lb rfl) fun a S => ?_
  refine sLen (ad := ad1) (m := p0.length) (c := cp2) S (wN rfl) rfl Try.underlying35 rfl rfl (lb rfl) fun a S => ?_
  refine sMove (iv 0) S (wN rfl) (.inl rfl) rfl rfl (lb rfl) fun a S => ?_
  refine leafL (leafT (hK6 _ _ ?_))
  refine wp_block ?_
  obtain ⟨t10, hl, g9⟩ := bindSome h
  refine sLoop hl (fun s0 a w => match s0 with | s7 => St [] E [] w0 19 a w [(0, .slice ad1 p0.length cp2), (1, .func (.func 72) #[] #[v1]), (7, iv (p0.length : Int)), (8, iv s7)] [] [fPtr (rI .i64) (v1) p1, fRep (rL (rI .i64)) (.slice ad1 p0.length cp2) p0]) (S.fix [] [1, 0] (by decide) rfl rfl rfl) ?_
  clear hl h
  intro s7 a w c0 hI h hu8
  unfold slices_IndexFunc___int_int__s0_l1 at h
  dsimp only at h hI
  have S := hI
  refine sSeq (fun K11 hK11 => ?_)
  refine sRegion ?_
  refine sBin (.bool (decide (s7 < (p0.length : Int)))) S (wN rfl) rfl rfl rfl (bLt _ _ _ _ .i64 s7 (p0.length : Int)) rfl (lb rfl) fun a S => ?_
  refine leafL (leafT (hK11 _ _ ?_))
  refine sSeq (fun K12 hK12 => ?_)
  rcases iteSome h with ⟨hc13, h⟩ | ⟨hc13, h⟩
  rotate_left
  · refine sCondF S rfl hc13 ?_
    obtain rfl := Option.some.inj h
    obtain rfl := hu8 _ rfl
    have h := g9
    clear g9
    try dsimp only at h
    exact wp_exit (xThen (xThen (xHit (leafT (⟨Option.some.inj h, S.fix [] [] (by decide) rfl rfl rfl⟩)))))
  refine sCondT S rfl hc13 ?_
  refine wp_skip (leafT (hK12 _ _ ?_))
  refine sSeq (fun K14 hK14 => ?_)
  refine wp_block ?_
  refine sSeq (fun K15 hK15 => ?_)
  refine sRegion ?_
  refine sMove (iv s7) S (wN rfl) (.inl rfl) rfl rfl (lb rfl) fun a S => ?_
  refine sMove (iv s7) S (wN rfl) (.inr rfl) rfl rfl (lb rfl) fun a S => ?_
  refine leafL (leafT (hK15 _ _ ?_))
  refine sSeq (fun K16 hK16 => ?_)
  refine sRegion ?_
  refine sMove (.func (.func 72) #[] #[v1]) S (wN rfl) (.inl rfl) rfl rfl (lb rfl) fun a S => ?_
  refine sMove (.slice ad1 p0.length cp2) S (wN rfl) (.inl rfl) rfl rfl (lb rfl) fun a S => ?_
  refine sMove (iv s7) S (wN rfl) (.inl rfl) rfl rfl (lb rfl) fun a S => ?_
  obtain ⟨x17, hx18, h⟩ := bindSome h
  obtain ⟨q19, hq20, S⟩ := pIdx (P := Try.prog) (r := (rI .i64)) (v := .slice ad1 p0.length cp2) (xs := p0) (j := s7) 35 3 1 S Try.underlying35 rfl rfl hx18
  refine sIdxV (v := .slice ad1 p0.length cp2) (k := .i64) (j := s7) S (wN rfl) rfl rfl rfl hq20 rfl (lb rfl) fun a S => ?_
  obtain ⟨u21, S⟩ := pLoad (r := (rI .i64)) (q := q19) (x := x17) 0 S rfl
  obtain rfl : u21 = iv x17 := S.mem.know (i := 1) (e := fRep (rI .i64) (u21) x17) rfl
  refine sLoadV1 (vq := q19) 0 (iv x17) S (wN rfl) rfl rfl rfl rfl rfl (lb rfl) fun a S => ?_
  obtain ⟨r22, hx23, h⟩ := bindSome h
  have S1 := S.mem
  refine sCallVQ (X := Unit) (g := 72) (vs := [iv x17]) (caps := [v1]) (val := fun _ => .bool r22) S (wN rfl) rfl rfl callee72 rfl (S1.quiet [3] rfl) (fun E1 w1 S1 => c_block_index_1_s0 E1 w1 x17 p1 v1 r22 hx23 S1) rfl (lb rfl) fun _ a w S => ?_
  refine leafL (leafT (hK16 _ _ ?_))
  rcases iteSome h with ⟨hc24, h⟩ | ⟨hc24, h⟩
  rotate_left
  · refine sCondF S rfl hc24 ?_
    refine wp_skip (leafB (leafT (hK14 _ _ ?_)))
    refine sRegion ?_
    refine sBin (iv (w64 (s7 + 1))) S (wN rfl) rfl rfl rfl (bAdd _ _ _ _ s7 1) rfl (lb rfl) fun a S => ?_
    refine sMove (iv (w64 (s7 + 1))) S (wN rfl) (.inl rfl) rfl rfl (lb rfl) fun a S => ?_
    exact leafL (leafT (⟨w64 (s7 + 1), (Option.some.inj h).symm, (S.fix [] [3, 4] (by decide) rfl rfl rfl)⟩))
  refine sCondT S rfl hc24 ?_
  refine sSeq (fun K25 hK25 => ?_)
  refine sRegion ?_
  refine sMove (iv s7) S (wN rfl) (.inl rfl) rfl rfl (lb rfl) fun a S => ?_
  refine sMove (iv s7) S (wN rfl) (.inr rfl) rfl rfl (lb rfl) fun a S => ?_
  refine leafL (leafT (hK25 _ _ ?_))
  obtain rfl := Option.some.inj h
  obtain rfl := hu8 _ rfl
  have h := g9
  clear g9
  try dsimp only at h
  obtain rfl := Option.some.inj h
  have h := g5
  clear g5
  try dsimp only at h
  obtain rfl := Option.some.inj h
  exact wp_ret (rBlock (rThen (rThen (rBlock (rThen (sRet (iv s7) S (rsl1 rfl (rvT (t := 4) (v := iv s7) S rfl)) ⟨(), rfl, S.mem.sel [] [] (by decide) rfl rfl⟩))))))

end Go.Proofs.Ythfifeabomdlpaa
namespace Go.Proofs.Ythfifeabomdlpaa
open Go.RowKit
set_option linter.unusedVariables false

noncomputable def F_slices_ContainsFunc___int_int__s0 (p0 : (List Int)) (p1 : Int) : Option Bool :=
  Option.bind (F_slices_IndexFunc___int_int__s0 p0 p1) fun r5 =>
  some (decide (0 ≤ r5))
set_option maxHeartbeats 4000000 in
set_option maxRecDepth 100000 in
theorem c_slices_ContainsFunc___int_int__s0 (E : Nat → Prop) (w0 : World) (p0 : (List Int)) (v0 : Value) (p1 : Int) (v1 : Value) (r : Bool) (h : F_slices_ContainsFunc___int_int__s0 p0 p1 = some r) (S : St0 E [] w0 w0 [] [fRep (rL (rI .i64)) (v0) p0, fPtr (rI .i64) (v1) p1]) :
    Calls Try.prog 71 #[v0, .func (.func 72) #[] #[v1]] w0 (Ret (X := Unit) E [] w0 (fun _ => .bool r) (fun _ => []) (fun _ => [])) := by
  unfold F_slices_ContainsFunc___int_int__s0 at h
  obtain ⟨ad1, cp2, _, rfl, _⟩ := S.know (i := 0) (e := fRep (rL (rI .i64)) (v0) p0) rfl
  refine sEnter (args := [.slice ad1 p0.length cp2, .func (.func 72) #[] #[v1]]) 9 Try.func71 rfl rfl (by simp) S (fun a S => ?_)
  refine sSeq (fun K3 hK3 => ?_)
  refine sRegion ?_
  refine sMove (.bool false) S (wN rfl) (.inr rfl) rfl rfl (lb rfl) fun a S => ?_
  refine leafL (leafT (hK3 _ _ ?_))
  refine sSeq (fun K4 hK4 => ?_)
  refine sRegion ?_
  refine sMove (.slice ad1 p0.length cp2) S (wN rfl) (.inl rfl) rfl rfl (lb rfl) fun a S => ?_
  refine sMove (.func (.func 72) #[] #[v1]) S (wN rfl) (.inl rfl) rfl rfl (lb rfl) fun a S => ?_
  obtain ⟨r5, hx6, h⟩ := bindSome h
  have S1 := S.mem
  refine sCallQ (X := Unit) (f := 77) (vs := [.slice ad1 p0.length cp2, .func (.func 72) #[] #[v1]]) (val := fun _ => iv r5) S (wN rfl) rfl callee77 rfl (S1.quiet [0, 1] rfl) (fun E1 w1 S1 => c_slices_IndexFunc___int_int__s0 E1 w1 p0 (.slice ad1 p0.length cp2) p1 v1 r5 hx6 S1) rfl (lb rfl) fun _ a w S => ?_
  refine sBin (.bool (decide (0 ≤ r5))) S (wN rfl) rfl rfl rfl (bGe _ _ _ _ .i64 r5 0) rfl (lb rfl) fun a S => ?_
  refine sMove (.bool (decide (0 ≤ r5))) S (wN rfl) (.inr rfl) rfl rfl (lb rfl) fun a S => ?_
  refine leafL (leafT (hK4 _ _ ?_))
  obtain rfl := Option.some.inj h
  exact wp_ret (sRet (.bool (decide (0 ≤ r5))) S (rsl1 rfl (rvT (t := 4) (v := .bool (decide (0 ≤ r5))) S rfl)) ⟨(), rfl, S.mem.sel [] [] (by decide) rfl rfl⟩)

end Go.Proofs.Ythfifeabomdlpaa
namespace Go.Proofs.Ythfifeabomdlpaa
open Go.RowKit
set_option linter.unusedVariables false

noncomputable def F_block_index (p0 : (List Int)) (p1 : Int) : Option Bool :=
  Option.bind (F_slices_ContainsFunc___int_int__s0 p0 p1) fun r6 =>
  some (!r6)
set_option maxHeartbeats 4000000 in
set_option maxRecDepth 100000 in
theorem c_block_index (E : Nat → Prop) (w0 : World) (p0 : (List Int)) (v0 : Value) (p1 : Int) (r : Bool) (h : F_block_index p0 p1 = some r) (S : St0 E [] w0 w0 [] [fRep (rL (rI .i64)) (v0) p0]) :
    Calls Try.prog 56 #[v0, iv p1] w0 (Ret (X := Unit) E [] w0 (fun _ => .bool r) (fun _ => []) (fun _ => [])) := by
  unfold F_block_index at h
  obtain ⟨ad1, cp2, _, rfl, _⟩ := S.know (i := 0) (e := fRep (rL (rI .i64)) (v0) p0) rfl
  refine sEnter (args := [.slice ad1 p0.length cp2, iv p1]) 9 Try.func56 rfl rfl (by simp) S (fun a S => ?_)
  refine sSeq (fun K3 hK3 => ?_)
  refine sRegion ?_
  refine sBox (v := iv p1) S (wN rfl) rfl rfl [iv p1] rfl rfl (lb rfl) fun a b4 w S => ?_
  refine sMove (.bool false) S (wN rfl) (.inr rfl) rfl rfl (lb rfl) fun a S => ?_
  refine leafL (leafT (hK3 _ _ ?_))
  refine sSeq (fun K5 hK5 => ?_)
  refine sRegion ?_
  refine sMove (.slice ad1 p0.length cp2) S (wN rfl) (.inl rfl) rfl rfl (lb rfl) fun a S => ?_
  refine sFunc (g := 72) (vs := [.pointer (some ⟨b4, 0, none⟩)]) S (wN rfl) rfl rfl rfl (lb rfl) fun a S => ?_
  obtain ⟨r6, hx7, h⟩ := bindSome h
  have S1 := S.mem
  have S1 := S1.shutB (r := (rI .i64)) (T := 3) (b := b4) (cs := [iv p1]) 0 (iv p1) p1 rfl rfl (rfl)
  refine sCallQ (X := Unit) (f := 71) (vs := [.slice ad1 p0.length cp2, .func (.func 72) #[] #[.pointer (some ⟨b4, 0, none⟩)]]) (val := fun _ => .bool r6) S (wN rfl) rfl callee71 rfl (S1.quiet [1, 0] rfl) (fun E1 w1 S1 => c_slices_ContainsFunc___int_int__s0 E1 w1 p0 (.slice ad1 p0.length cp2) p1 (.pointer (some ⟨b4, 0, none⟩)) r6 hx7 S1) rfl (lb rfl) fun _ a w S => ?_
  refine sNot (b := r6) S (wN rfl) rfl rfl rfl (lb rfl) fun a S => ?_
  refine sMove (.bool (!r6)) S (wN rfl) (.inr rfl) rfl rfl (lb rfl) fun a S => ?_
  refine leafL (leafT (hK5 _ _ ?_))
  obtain rfl := Option.some.inj h
  exact wp_ret (sRet (.bool (!r6)) S (rsl1 rfl (rvT (t := 4) (v := .bool (!r6)) S rfl)) ⟨(), rfl, S.mem.sel [] [] (by decide) rfl rfl⟩)

end Go.Proofs.Ythfifeabomdlpaa
namespace Go.Proofs.Ythfifeabomdlpaa
open Go.RowKit
set_option linter.unusedVariables false

def anc_block_Join_0 : List (List Nat) := [[], [], [1], [1, 2], [1, 2, 3], [0, 1, 2, 3, 4], [], [6], [], [6, 7, 8], [], [10], [10, 11], [10, 11, 12], [6, 7, 8, 9, 10, 11, 12, 13], [0, 1, 2, 3, 4, 5, 6, 7, 8, 9, 10, 11, 12, 13, 14], [0, 1, 2, 3, 4, 5, 6, 7, 8, 9, 10, 11, 12, 13, 14, 15], [0, 1, 2, 3, 4, 5, 6, 7, 8, 9, 10, 11, 12, 13, 14, 15, 16], [0, 1, 2, 3, 4, 5, 6, 7, 8, 9, 10, 11, 12, 13, 14, 15, 16], [], [0, 1, 2, 3, 4, 5, 6, 7, 8, 9, 10, 11, 12, 13, 14, 15, 16, 17, 19], [0, 1, 2, 3, 4, 5, 6, 7, 8, 9, 10, 11, 12, 13, 14, 15, 16, 17, 18, 19, 20]]
def anc_block_Join_1 : List (List Nat) := [[], [], [], [1, 2], [1, 2, 3], [], [], [5, 6], [], [], [8, 9], [0, 1, 2, 3, 4, 5, 6, 7, 8, 9, 10]]
noncomputable def block_Join_l1 (p1 : (List Int)) (p0 : (List api_Grid)) (p2 : Int) (r63 : (api_Grid × Int)) : (Int × List Bool) → Option ((Int × List Bool) ⊕ List Bool) := fun s0 => match s0 with
  | (s89, s90) =>
    if decide (s89 < (p1.length : Int)) then
      Option.bind (idxO p1 s89) fun x100 =>
      Option.bind (idxO p0 x100) fun x105 =>
      Option.bind (remI s89 p2) fun z114 =>
      Option.bind (quoI s89 p2) fun z116 =>
      Option.bind (F_block_put_s0 r63.1.W r63.1.H s90 x105 z114 z116) fun r118 =>
      some (.inl (w64 (s89 + 1), r118))
    else
      some (.inr s90)
noncomputable def F_block_Join (p0 : (List api_Grid)) (p1 : (List Int)) (p2 : Int) : Option (api_Grid × Int) :=
  if (p0.length : Int) == 0 then
    some ((api_Grid.mk 0 0 ([] : (List Bool))), 6)
  else
    Option.bind (F_block_checked p0) fun r14 =>
    if r14 != 0 then
      some ((api_Grid.mk 0 0 ([] : (List Bool))), r14)
    else
      Option.bind (α := Bool) (
        Option.bind (F_slices_ContainsFunc___api_Grid_api_Grid__s0 p0 p0) fun r24 =>
        if r24 then
          some true
        else
          if decide (p2 < 1) then
            some true
          else
            if (p1.length : Int) == 0 then
              some true
            else
              Option.bind (remI (p1.length : Int) p2) fun z29 =>
              some (z29 != 0)) fun o21 =>
      if o21 then
        some ((api_Grid.mk 0 0 ([] : (List Bool))), 26)
      else
        Option.bind (F_block_index p1 (p0.length : Int)) fun r35 =>
        if !r35 then
          some ((api_Grid.mk 0 0 ([] : (List Bool))), 8)
        else
          Option.bind (α := Bool) (
            if decide (64 < p2) then
              some true
            else
              Option.bind (quoI (p1.length : Int) p2) fun z44 =>
              some (decide (64 < z44))) fun o40 =>
          if o40 then
            some ((api_Grid.mk 0 0 ([] : (List Bool))), 4)
          else
            Option.bind (idxO p0 0) fun x49 =>
            Option.bind (quoI (p1.length : Int) p2) fun z56 =>
            Option.bind (F_block_zero_s0 (w64 (p2 * x49.W)) (w64 (z56 * x49.H))) fun r63 =>
            if r63.2 != 0 then
              some ((api_Grid.mk 0 0 ([] : (List Bool))), r63.2)
            else
              Option.bind (α := List Bool) (
                Option.bind (whileO (block_Join_l1 p1 p0 p2 r63) (0, r63.1.Bits)) fun e94 =>
                  some e94) fun o85 =>
              some ((api_Grid.mk r63.1.W r63.1.H o85), 0)
def c_block_Join_val (r : (api_Grid × Int)) (x : Value) : Value := .tuple #[x, .int .i64 r.2]
def c_block_Join_D (r : (api_Grid × Int)) (x : Value) : List Fact := [fRep r_api_Grid x r.1]
set_option maxHeartbeats 4000000 in
set_option maxRecDepth 100000 in
theorem c_block_Join (E : Nat → Prop) (w0 : World) (p0 : (List api_Grid)) (v0 : Value) (p1 : (List Int)) (v1 : Value) (p2 : Int) (r : (api_Grid × Int)) (h : F_block_Join p0 p1 p2 = some r) (S : St0 E [] w0 w0 [] [fRep (rL r_api_Grid) (v0) p0, fRep (rL (rI .i64)) (v1) p1]) :
    Calls Try.prog 21 #[v0, v1, iv p2] w0 (Ret (X := Value) E [] w0 (c_block_Join_val r) (fun _ => []) (c_block_Join_D r)) := by
  unfold F_block_Join at h
  obtain ⟨ad1, cp2, _, rfl, _⟩ := S.know (i := 0) (e := fRep (rL r_api_Grid) (v0) p0) rfl
  obtain ⟨ad3, cp4, _, rfl, _⟩ := S.know (i := 1) (e := fRep (rL (rI .i64)) (v1) p1) rfl
  refine sEnter (args := [.slice ad1 p0.length cp2, .slice ad3 p1.length cp4, iv p2]) 105 Try.func21 rfl rfl (by simp) S (fun a S => ?_)
  refine sSeq (fun K5 hK5 => ?_)
  refine sRegion ?_
  refine sBox (v := .slice ad1 p0.length cp2) S (wN rfl) rfl rfl [.slice ad1 p0.length cp2] rfl rfl (lb rfl) fun a b6 w S => ?_
  refine sAlloc (.agg #[iv 0, iv 0, .slice none 0 0]) S (wN rfl) rfl rfl [iv 0, iv 0, .slice none 0 0] rfl rfl (lb rfl) fun a b7 w S => ?_
  refine sMove (iv 0) S (wN rfl) (.inr rfl) rfl rfl (lb rfl) fun a S => ?_
  refine leafL (leafT (hK5 _ _ ?_))
  refine sSeq (fun K8 hK8 => ?_)
  refine sSeq (fun K9 hK9 => ?_)
  refine sRegion ?_
  refine sLoad1 (p := b6) (off := 0) (T := 34) (vs := [.slice ad1 p0.length cp2]) 1 (.slice ad1 p0.length cp2) S (wN rfl) rfl rfl rfl rfl rfl rfl (lb rfl) fun a S => ?_
  refine sLen (ad := ad1) (m := p0.length) (c := cp2) S (wN rfl) rfl Try.underlying34 rfl rfl (lb rfl) fun a S => ?_
  refine sBin (.bool ((p0.length : Int) == 0)) S (wN rfl) rfl rfl rfl (bEq _ _ _ _ .i64 (p0.length : Int) 0) rfl (lb rfl) fun a S => ?_
  refine leafL (leafT (hK9 _ _ ?_))
  rcases iteSome h with ⟨hc10, h⟩ | ⟨hc10, h⟩
  · refine sCondT S rfl hc10 ?_
    refine sSeq (fun K11 hK11 => ?_)
    refine sRegion ?_
    refine sBuild [] [iv 0, iv 0, .slice none 0 0] S (wN rfl) rfl rfl rfl rfl (lb rfl) fun a S => ?_
    refine sStore (p := b7) (off := 0) (T := 24) (vs := [iv 0, iv 0, .slice none 0 0]) (v := .agg #[iv 0, iv 0, .slice none 0 0]) 0 [iv 0, iv 0, .slice none 0 0] S (wN rfl) rfl rfl rfl rfl rfl rfl rfl (by simp) rfl fun a w S => ?_
    refine sMove (iv 6) S (wN rfl) (.inr rfl) rfl rfl (lb rfl) fun a S => ?_
    refine leafL (leafT (hK11 _ _ ?_))
    obtain rfl := Option.some.inj h
    have S := S.learn (fRep (rL rB) (.slice none 0 0) ([] : (List Bool))) (rL_nil _ _ _)
    have S := S.learn (fRep r_api_Grid (.agg #[iv 0, iv 0, .slice none 0 0]) (api_Grid.mk 0 0 ([] : (List Bool)))) ⟨_, rfl, S.mem.know (i := 0) (e := fRep (rL rB) (.slice none 0 0) ([] : (List Bool))) rfl⟩
    exact wp_ret (rThen (sRet (.tuple #[.agg #[iv 0, iv 0, .slice none 0 0], iv 6]) S (rsl2 rfl (rvN (c := 6) (t := 24) (T := 24) (p := b7) 0 [iv 0, iv 0, .slice none 0 0] S rfl rfl rfl rfl) (rvT (t := 7) (v := iv 6) S rfl)) ⟨(.agg #[iv 0, iv 0, .slice none 0 0]), rfl, S.mem.sel [] [0] (by decide) rfl rfl⟩))
  refine sCondF S rfl hc10 ?_
  refine wp_skip (leafT (hK8 _ _ ?_))
  refine sSeq (fun K12 hK12 => ?_)
  refine sSeq (fun K13 hK13 => ?_)
  refine sRegion ?_
  refine sLoad1 (p := b6) (off := 0) (T := 34) (vs := [.slice ad1 p0.length cp2]) 1 (.slice ad1 p0.length cp2) S (wN rfl) rfl rfl rfl rfl rfl rfl (lb rfl) fun a S => ?_
  obtain ⟨r14, hx15, h⟩ := bindSome h
  have S1 := S.mem
  refine sCallQ (X := Unit) (f := 41) (vs := [.slice ad1 p0.length cp2]) (val := fun _ => iv r14) S (wN rfl) rfl callee41 rfl (S1.quiet [0] rfl) (fun E1 w1 S1 => c_block_checked E1 w1 p0 (.slice ad1 p0.length cp2) r14 hx15 S1) rfl (lb rfl) fun _ a w S => ?_
  refine sMove (iv r14) S (wN rfl) (.inr rfl) rfl rfl (lb rfl) fun a S => ?_
  refine leafL (leafT (hK13 _ _ ?_))
  refine sSeq (fun K16 hK16 => ?_)
  refine sRegion ?_
  refine sMove (iv r14) S (wN rfl) (.inl rfl) rfl rfl (lb rfl) fun a S => ?_
  refine sBin (.bool (r14 != 0)) S (wN rfl) rfl rfl rfl (bNe _ _ _ _ .i64 r14 0) rfl (lb rfl) fun a S => ?_
  refine leafL (leafT (hK16 _ _ ?_))
  rcases iteSome h with ⟨hc17, h⟩ | ⟨hc17, h⟩
  · refine sCondT S rfl hc17 ?_
    refine sSeq (fun K18 hK18 => ?_)
    refine sRegion ?_
    refine sBuild [] [iv 0, iv 0, .slice none 0 0] S (wN rfl) rfl rfl rfl rfl (lb rfl) fun a S => ?_
    refine sMove (iv r14) S (wN rfl) (.inl rfl) rfl rfl (lb rfl) fun a S => ?_
    refine sStore (p := b7) (off := 0) (T := 24) (vs := [iv 0, iv 0, .slice none 0 0]) (v := .agg #[iv 0, iv 0, .slice none 0 0]) 0 [iv 0, iv 0, .slice none 0 0] S (wN rfl) rfl rfl rfl rfl rfl rfl rfl (by simp) rfl fun a w S => ?_
    refine sMove (iv r14) S (wN rfl) (.inr rfl) rfl rfl (lb rfl) fun a S => ?_
    refine leafL (leafT (hK18 _ _ ?_))
    obtain rfl := Option.some.inj h
    have S := S.learn (fRep (rL rB) (.slice none 0 0) ([] : (List Bool))) (rL_nil _ _ _)
    have S := S.learn (fRep r_api_Grid (.agg #[iv 0, iv 0, .slice none 0 0]) (api_Grid.mk 0 0 ([] : (List Bool)))) ⟨_, rfl, S.mem.know (i := 0) (e := fRep (rL rB) (.slice none 0 0) ([] : (List Bool))) rfl⟩
    exact wp_ret (rThen (sRet (.tuple #[.agg #[iv 0, iv 0, .slice none 0 0], iv r14]) S (rsl2 rfl (rvN (c := 6) (t := 24) (T := 24) (p := b7) 0 [iv 0, iv 0, .slice none 0 0] S rfl rfl rfl rfl) (rvT (t := 7) (v := iv r14) S rfl)) ⟨(.agg #[iv 0, iv 0, .slice none 0 0]), rfl, S.mem.sel [] [0] (by decide) rfl rfl⟩))
  refine sCondF S rfl hc17 ?_
  refine wp_skip (leafT (hK12 _ _ ?_))
  refine sSeq (fun K19 hK19 => ?_)
  refine sRegion ?_
  refine sFunc (g := 54) (vs := [.pointer (some ⟨b6, 0, none⟩)]) S (wN rfl) rfl rfl rfl (lb rfl) fun a S => ?_
  refine sMove (.func (.func 54) #[] #[.pointer (some ⟨b6, 0, none⟩)]) S (wN rfl) (.inr rfl) rfl rfl (lb rfl) fun a S => ?_
  refine leafL (leafT (hK19 _ _ ?_))
  refine sSeq (fun K20 hK20 => ?_)
  obtain ⟨t22, h, g23⟩ := bindSome h
  refine sCut (fun a w => ∃ o21, o21 = t22 ∧ St [] E [] w0 105 a w [(1, .slice ad3 p1.length cp4), (2, iv p2), (3, .pointer (some ⟨b6, 0, none⟩)), (6, .pointer (some ⟨b7, 0, none⟩)), (43, .bool o21)] [eBox b6 34 [.slice ad1 p0.length cp2], eBox b7 24 [iv 0, iv 0, .slice none 0 0]] [fRep (rL (rI .i64)) (.slice ad3 p1.length cp4) p1, fRep (rL r_api_Grid) (.slice ad1 p0.length cp2) p0]) ?_ (fun a w hI => ?_)
  · refine sRegion ?_
    refine sLoad1 (p := b6) (off := 0) (T := 34) (vs := [.slice ad1 p0.length cp2]) 1 (.slice ad1 p0.length cp2) S (wN rfl) rfl rfl rfl rfl rfl rfl (lb rfl) fun a S => ?_
    refine sMove (.func (.func 54) #[] #[.pointer (some ⟨b6, 0, none⟩)]) S (wN rfl) (.inl rfl) rfl rfl (lb rfl) fun a S => ?_
    obtain ⟨r24, hx25, h⟩ := bindSome h
    have S1 := S.mem
    have S1 := S1.shutB (r := (rL r_api_Grid)) (T := 34) (b := b6) (cs := [.slice ad1 p0.length cp2]) 1 (.slice ad1 p0.length cp2) p0 rfl rfl (S1.know (i := 0) (e := fRep (rL r_api_Grid) (.slice ad1 p0.length cp2) p0) rfl)
    refine sCallQ (X := Unit) (f := 55) (vs := [.slice ad1 p0.length cp2, .func (.func 54) #[] #[.pointer (some ⟨b6, 0, none⟩)]]) (val := fun _ => .bool r24) S (wN rfl) rfl callee55 rfl (S1.quiet [1, 0] rfl) (fun E1 w1 S1 => c_slices_ContainsFunc___api_Grid_api_Grid__s0 E1 w1 p0 (.slice ad1 p0.length cp2) p0 (.pointer (some ⟨b6, 0, none⟩)) r24 hx25 S1) rfl (lb rfl) fun _ a w S => ?_
    refine sMove (.bool r24) S (wN rfl) (.inl rfl) rfl rfl (lb rfl) fun a S => ?_
    rcases iteSome h with ⟨hc26, h⟩ | ⟨hc26, h⟩
    · refine sSkip 3 false 28 29 S rfl rfl rfl hc26 rfl (lb rfl) fun a S => ?_
      refine sSkip 3 false 28 30 S rfl rfl rfl hc26 rfl (lb rfl) fun a S => ?_
      refine sPickT (.bool true) S (wN rfl) rfl rfl hc26 rfl rfl (lb rfl) fun a S => ?_
      refine sMove (.bool true) S (wN rfl) (.inl rfl) rfl rfl (lb rfl) fun a S => ?_
      refine sSkip 7 false 32 33 S rfl rfl rfl rfl rfl (lb rfl) fun a S => ?_
      refine sSkip 7 false 32 34 S rfl rfl rfl rfl rfl (lb rfl) fun a S => ?_
      refine sSkip 7 false 32 35 S rfl rfl rfl rfl rfl (lb rfl) fun a S => ?_
      refine sPickT (.bool true) S (wN rfl) rfl rfl rfl rfl rfl (lb rfl) fun a S => ?_
      refine sMove (.bool true) S (wN rfl) (.inl rfl) rfl rfl (lb rfl) fun a S => ?_
      refine sSkip 12 false 37 38 S rfl rfl rfl rfl rfl (lb rfl) fun a S => ?_
      refine sSkip 12 false 37 39 S rfl rfl rfl rfl rfl (lb rfl) fun a S => ?_
      refine sSkip 12 false 37 40 S rfl rfl rfl rfl rfl (lb rfl) fun a S => ?_
      refine sSkip 12 false 37 41 S rfl rfl rfl rfl rfl (lb rfl) fun a S => ?_
      refine sSkip 12 false 37 42 S rfl rfl rfl rfl rfl (lb rfl) fun a S => ?_
      refine sPickT (.bool true) S (wN rfl) rfl rfl rfl rfl rfl (lb rfl) fun a S => ?_
      exact leafL (leafT (⟨true, Option.some.inj h, S.fix [1, 0] [1, 0] (by decide) rfl rfl rfl⟩))
    refine sMove (iv p2) S (wG 3 false 28 rfl rfl rfl hc26) (.inl rfl) rfl rfl (lb rfl) fun a S => ?_
    refine sBin (.bool (decide (p2 < 1))) S (wG 3 false 28 rfl rfl rfl hc26) rfl rfl rfl (bLt _ _ _ _ .i64 p2 1) rfl (lb rfl) fun a S => ?_
    refine sPickF (.bool (decide (p2 < 1))) S (wN rfl) rfl rfl hc26 rfl rfl (lb rfl) fun a S => ?_
    refine sMove (.bool (decide (p2 < 1))) S (wN rfl) (.inl rfl) rfl rfl (lb rfl) fun a S => ?_
    rcases iteSome h with ⟨hc27, h⟩ | ⟨hc27, h⟩
    · refine sSkip 7 false 32 33 S rfl rfl rfl hc27 rfl (lb rfl) fun a S => ?_
      refine sSkip 7 false 32 34 S rfl rfl rfl hc27 rfl (lb rfl) fun a S => ?_
      refine sSkip 7 false 32 35 S rfl rfl rfl hc27 rfl (lb rfl) fun a S => ?_
      refine sPickT (.bool true) S (wN rfl) rfl rfl hc27 rfl rfl (lb rfl) fun a S => ?_
      refine sMove (.bool true) S (wN rfl) (.inl rfl) rfl rfl (lb rfl) fun a S => ?_
      refine sSkip 12 false 37 38 S rfl rfl rfl rfl rfl (lb rfl) fun a S => ?_
      refine sSkip 12 false 37 39 S rfl rfl rfl rfl rfl (lb rfl) fun a S => ?_
      refine sSkip 12 false 37 40 S rfl rfl rfl rfl rfl (lb rfl) fun a S => ?_
      refine sSkip 12 false 37 41 S rfl rfl rfl rfl rfl (lb rfl) fun a S => ?_
      refine sSkip 12 false 37 42 S rfl rfl rfl rfl rfl (lb rfl) fun a S => ?_
      refine sPickT (.bool true) S (wN rfl) rfl rfl rfl rfl rfl (lb rfl) fun a S => ?_
      exact leafL (leafT (⟨true, Option.some.inj h, S.fix [1, 0] [1, 0] (by decide) rfl rfl rfl⟩))
    refine sMove (.slice ad3 p1.length cp4) S (wG 7 false 32 rfl rfl rfl hc27) (.inl rfl) rfl rfl (lb rfl) fun a S => ?_
    refine sLen (ad := ad3) (m := p1.length) (c := cp4) S (wG 7 false 32 rfl rfl rfl hc27) rfl Try.underlying35 rfl rfl (lb rfl) fun a S => ?_
    refine sBin (.bool ((p1.length : Int) == 0)) S (wG 7 false 32 rfl rfl rfl hc27) rfl rfl rfl (bEq _ _ _ _ .i64 (p1.length : Int) 0) rfl (lb rfl) fun a S => ?_
    refine sPickF (.bool ((p1.length : Int) == 0)) S (wN rfl) rfl rfl hc27 rfl rfl (lb rfl) fun a S => ?_
    refine sMove (.bool ((p1.length : Int) == 0)) S (wN rfl) (.inl rfl) rfl rfl (lb rfl) fun a S => ?_
    rcases iteSome h with ⟨hc28, h⟩ | ⟨hc28, h⟩
    · refine sSkip 12 false 37 38 S rfl rfl rfl hc28 rfl (lb rfl) fun a S => ?_
      refine sSkip 12 false 37 39 S rfl rfl rfl hc28 rfl (lb rfl) fun a S => ?_
      refine sSkip 12 false 37 40 S rfl rfl rfl hc28 rfl (lb rfl) fun a S => ?_
      refine sSkip 12 false 37 41 S rfl rfl rfl hc28 rfl (lb rfl) fun a S => ?_
      refine sSkip 12 false 37 42 S rfl rfl rfl hc28 rfl (lb rfl) fun a S => ?_
      refine sPickT (.bool true) S (wN rfl) rfl rfl hc28 rfl rfl (lb rfl) fun a S => ?_
      exact leafL (leafT (⟨true, Option.some.inj h, S.fix [1, 0] [1, 0] (by decide) rfl rfl rfl⟩))
    refine sMove (.slice ad3 p1.length cp4) S (wG 12 false 37 rfl rfl rfl hc28) (.inl rfl) rfl rfl (lb rfl) fun a S => ?_
    refine sLen (ad := ad3) (m := p1.length) (c := cp4) S (wG 12 false 37 rfl rfl rfl hc28) rfl Try.underlying35 rfl rfl (lb rfl) fun a S => ?_
    refine sMove (iv p2) S (wG 12 false 37 rfl rfl rfl hc28) (.inl rfl) rfl rfl (lb rfl) fun a S => ?_
    obtain ⟨z29, hx30, h⟩ := bindSome h
    refine sBin (iv z29) S (wG 12 false 37 rfl rfl rfl hc28) rfl rfl rfl (bRem _ _ _ _ (x := (p1.length : Int)) (y := p2) hx30) rfl (lb rfl) fun a S => ?_
    refine sBin (.bool (z29 != 0)) S (wG 12 false 37 rfl rfl rfl hc28) rfl rfl rfl (bNe _ _ _ _ .i64 z29 0) rfl (lb rfl) fun a S => ?_
    refine sPickF (.bool (z29 != 0)) S (wN rfl) rfl rfl hc28 rfl rfl (lb rfl) fun a S => ?_
    exact leafL (leafT (⟨z29 != 0, Option.some.inj h, S.fix [1, 0] [1, 0] (by decide) rfl rfl rfl⟩))
  obtain ⟨o21, rfl, S⟩ := hI
  have h := g23
  clear g23
  try dsimp only at h
  rcases iteSome h with ⟨hc31, h⟩ | ⟨hc31, h⟩
  · refine sCondT S rfl hc31 ?_
    refine sSeq (fun K32 hK32 => ?_)
    refine sRegion ?_
    refine sBuild [] [iv 0, iv 0, .slice none 0 0] S (wN rfl) rfl rfl rfl rfl (lb rfl) fun a S => ?_
    refine sStore (p := b7) (off := 0) (T := 24) (vs := [iv 0, iv 0, .slice none 0 0]) (v := .agg #[iv 0, iv 0, .slice none 0 0]) 1 [iv 0, iv 0, .slice none 0 0] S (wN rfl) rfl rfl rfl rfl rfl rfl rfl (by simp) rfl fun a w S => ?_
    refine sMove (iv 26) S (wN rfl) (.inr rfl) rfl rfl (lb rfl) fun a S => ?_
    refine leafL (leafT (hK32 _ _ ?_))
    obtain rfl := Option.some.inj h
    have S := S.learn (fRep (rL rB) (.slice none 0 0) ([] : (List Bool))) (rL_nil _ _ _)
    have S := S.learn (fRep r_api_Grid (.agg #[iv 0, iv 0, .slice none 0 0]) (api_Grid.mk 0 0 ([] : (List Bool)))) ⟨_, rfl, S.mem.know (i := 0) (e := fRep (rL rB) (.slice none 0 0) ([] : (List Bool))) rfl⟩
    exact wp_ret (rThen (sRet (.tuple #[.agg #[iv 0, iv 0, .slice none 0 0], iv 26]) S (rsl2 rfl (rvN (c := 6) (t := 24) (T := 24) (p := b7) 0 [iv 0, iv 0, .slice none 0 0] S rfl rfl rfl rfl) (rvT (t := 7) (v := iv 26) S rfl)) ⟨(.agg #[iv 0, iv 0, .slice none 0 0]), rfl, S.mem.sel [] [0] (by decide) rfl rfl⟩))
  refine sCondF S rfl hc31 ?_
  refine wp_skip (leafT (hK20 _ _ ?_))
  refine sSeq (fun K33 hK33 => ?_)
  refine sSeq (fun K34 hK34 => ?_)
  refine sRegion ?_
  refine sMove (.slice ad3 p1.length cp4) S (wN rfl) (.inl rfl) rfl rfl (lb rfl) fun a S => ?_
  refine sLoad1 (p := b6) (off := 0) (T := 34) (vs := [.slice ad1 p0.length cp2]) 0 (.slice ad1 p0.length cp2) S (wN rfl) rfl rfl rfl rfl rfl rfl (lb rfl) fun a S => ?_
  refine sLen (ad := ad1) (m := p0.length) (c := cp2) S (wN rfl) rfl Try.underlying34 rfl rfl (lb rfl) fun a S => ?_
  obtain ⟨r35, hx36, h⟩ := bindSome h
  have S1 := S.mem
  refine sCallQ (X := Unit) (f := 56) (vs := [.slice ad3 p1.length cp4, iv (p0.length : Int)]) (val := fun _ => .bool r35) S (wN rfl) rfl callee56 rfl (S1.quiet [0] rfl) (fun E1 w1 S1 => c_block_index E1 w1 p1 (.slice ad3 p1.length cp4) (p0.length : Int) r35 hx36 S1) rfl (lb rfl) fun _ a w S => ?_
  refine sNot (b := r35) S (wN rfl) rfl rfl rfl (lb rfl) fun a S => ?_
  refine leafL (leafT (hK34 _ _ ?_))
  rcases iteSome h with ⟨hc37, h⟩ | ⟨hc37, h⟩
  · refine sCondT S rfl hc37 ?_
    refine sSeq (fun K38 hK38 => ?_)
    refine sRegion ?_
    refine sBuild [] [iv 0, iv 0, .slice none 0 0] S (wN rfl) rfl rfl rfl rfl (lb rfl) fun a S => ?_
    refine sStore (p := b7) (off := 0) (T := 24) (vs := [iv 0, iv 0, .slice none 0 0]) (v := .agg #[iv 0, iv 0, .slice none 0 0]) 1 [iv 0, iv 0, .slice none 0 0] S (wN rfl) rfl rfl rfl rfl rfl rfl rfl (by simp) rfl fun a w S => ?_
    refine sMove (iv 8) S (wN rfl) (.inr rfl) rfl rfl (lb rfl) fun a S => ?_
    refine leafL (leafT (hK38 _ _ ?_))
    obtain rfl := Option.some.inj h
    have S := S.learn (fRep (rL rB) (.slice none 0 0) ([] : (List Bool))) (rL_nil _ _ _)
    have S := S.learn (fRep r_api_Grid (.agg #[iv 0, iv 0, .slice none 0 0]) (api_Grid.mk 0 0 ([] : (List Bool)))) ⟨_, rfl, S.mem.know (i := 0) (e := fRep (rL rB) (.slice none 0 0) ([] : (List Bool))) rfl⟩
    exact wp_ret (rThen (sRet (.tuple #[.agg #[iv 0, iv 0, .slice none 0 0], iv 8]) S (rsl2 rfl (rvN (c := 6) (t := 24) (T := 24) (p := b7) 0 [iv 0, iv 0, .slice none 0 0] S rfl rfl rfl rfl) (rvT (t := 7) (v := iv 8) S rfl)) ⟨(.agg #[iv 0, iv 0, .slice none 0 0]), rfl, S.mem.sel [] [0] (by decide) rfl rfl⟩))
  refine sCondF S rfl hc37 ?_
  refine wp_skip (leafT (hK33 _ _ ?_))
  refine sSeq (fun K39 hK39 => ?_)
  obtain ⟨t41, h, g42⟩ := bindSome h
  refine sCut (fun a w => ∃ o40, o40 = t41 ∧ St [] E [] w0 105 a w [(1, .slice ad3 p1.length cp4), (2, iv p2), (3, .pointer (some ⟨b6, 0, none⟩)), (6, .pointer (some ⟨b7, 0, none⟩)), (59, .bool o40)] [eBox b6 34 [.slice ad1 p0.length cp2], eBox b7 24 [iv 0, iv 0, .slice none 0 0]] [fRep (rL (rI .i64)) (.slice ad3 p1.length cp4) p1, fRep (rL r_api_Grid) (.slice ad1 p0.length cp2) p0]) ?_ (fun a w hI => ?_)
  · refine sRegion ?_
    refine sMove (iv p2) S (wN rfl) (.inl rfl) rfl rfl (lb rfl) fun a S => ?_
    refine sBin (.bool (decide (64 < p2))) S (wN rfl) rfl rfl rfl (bGt _ _ _ _ .i64 p2 64) rfl (lb rfl) fun a S => ?_
    refine sMove (.bool (decide (64 < p2))) S (wN rfl) (.inl rfl) rfl rfl (lb rfl) fun a S => ?_
    rcases iteSome h with ⟨hc43, h⟩ | ⟨hc43, h⟩
    · refine sSkip 2 false 53 54 S rfl rfl rfl hc43 rfl (lb rfl) fun a S => ?_
      refine sSkip 2 false 53 55 S rfl rfl rfl hc43 rfl (lb rfl) fun a S => ?_
      refine sSkip 2 false 53 56 S rfl rfl rfl hc43 rfl (lb rfl) fun a S => ?_
      refine sSkip 2 false 53 57 S rfl rfl rfl hc43 rfl (lb rfl) fun a S => ?_
      refine sSkip 2 false 53 58 S rfl rfl rfl hc43 rfl (lb rfl) fun a S => ?_
      refine sPickT (.bool true) S (wN rfl) rfl rfl hc43 rfl rfl (lb rfl) fun a S => ?_
      exact leafL (leafT (⟨true, Option.some.inj h, S.fix [0, 1] [0, 1] (by decide) rfl rfl rfl⟩))
    refine sMove (.slice ad3 p1.length cp4) S (wG 2 false 53 rfl rfl rfl hc43) (.inl rfl) rfl rfl (lb rfl) fun a S => ?_
    refine sLen (ad := ad3) (m := p1.length) (c := cp4) S (wG 2 false 53 rfl rfl rfl hc43) rfl Try.underlying35 rfl rfl (lb rfl) fun a S => ?_
    refine sMove (iv p2) S (wG 2 false 53 rfl rfl rfl hc43) (.inl rfl) rfl rfl (lb rfl) fun a S => ?_
    obtain ⟨z44, hx45, h⟩ := bindSome h
    refine sBin (iv z44) S (wG 2 false 53 rfl rfl rfl hc43) rfl rfl rfl (bQuo _ _ _ _ (x := (p1.length : Int)) (y := p2) hx45) rfl (lb rfl) fun a S => ?_
    refine sBin (.bool (decide (64 < z44))) S (wG 2 false 53 rfl rfl rfl hc43) rfl rfl rfl (bGt _ _ _ _ .i64 z44 64) rfl (lb rfl) fun a S => ?_
    refine sPickF (.bool (decide (64 < z44))) S (wN rfl) rfl rfl hc43 rfl rfl (lb rfl) fun a S => ?_
    exact leafL (leafT (⟨decide (64 < z44), Option.some.inj h, S.fix [0, 1] [0, 1] (by decide) rfl rfl rfl⟩))
  obtain ⟨o40, rfl, S⟩ := hI
  have h := g42
  clear g42
  try dsimp only at h
  rcases iteSome h with ⟨hc46, h⟩ | ⟨hc46, h⟩
  · refine sCondT S rfl hc46 ?_
    refine sSeq (fun K47 hK47 => ?_)
    refine sRegion ?_
    refine sBuild [] [iv 0, iv 0, .slice none 0 0] S (wN rfl) rfl rfl rfl rfl (lb rfl) fun a S => ?_
    refine sStore (p := b7) (off := 0) (T := 24) (vs := [iv 0, iv 0, .slice none 0 0]) (v := .agg #[iv 0, iv 0, .slice none 0 0]) 1 [iv 0, iv 0, .slice none 0 0] S (wN rfl) rfl rfl rfl rfl rfl rfl rfl (by simp) rfl fun a w S => ?_
    refine sMove (iv 4) S (wN rfl) (.inr rfl) rfl rfl (lb rfl) fun a S => ?_
    refine leafL (leafT (hK47 _ _ ?_))
    obtain rfl := Option.some.inj h
    have S := S.learn (fRep (rL rB) (.slice none 0 0) ([] : (List Bool))) (rL_nil _ _ _)
    have S := S.learn (fRep r_api_Grid (.agg #[iv 0, iv 0, .slice none 0 0]) (api_Grid.mk 0 0 ([] : (List Bool)))) ⟨_, rfl, S.mem.know (i := 0) (e := fRep (rL rB) (.slice none 0 0) ([] : (List Bool))) rfl⟩
    exact wp_ret (rThen (sRet (.tuple #[.agg #[iv 0, iv 0, .slice none 0 0], iv 4]) S (rsl2 rfl (rvN (c := 6) (t := 24) (T := 24) (p := b7) 0 [iv 0, iv 0, .slice none 0 0] S rfl rfl rfl rfl) (rvT (t := 7) (v := iv 4) S rfl)) ⟨(.agg #[iv 0, iv 0, .slice none 0 0]), rfl, S.mem.sel [] [0] (by decide) rfl rfl⟩))
  refine sCondF S rfl hc46 ?_
  refine wp_skip (leafT (hK39 _ _ ?_))
  refine sSeq (fun K48 hK48 => ?_)
  obtain ⟨x49, hx50, h⟩ := bindSome h
  obtain ⟨z56, hx57, h⟩ := bindSome h
  obtain ⟨r63, hx64, h⟩ := bindSome h
  obtain ⟨q68, hq69, S⟩ := pIdx (P := Try.prog) (r := r_api_Grid) (v := .slice ad1 p0.length cp2) (xs := p0) (j := 0) 34 24 1 S Try.underlying34 rfl rfl hx50
  obtain ⟨q70, hq71, S⟩ := pFld (P := Try.prog) (r := r_api_Grid) (s2 := (rI .i64)) (g := (·.W)) (q := q68) (z := x49) 24 0 0 0 S rfl rfl comp_api_Grid_W
  obtain ⟨u72, S⟩ := pLoad (r := (rI .i64)) (q := q70) (x := x49.W) 0 S rfl
  obtain rfl : u72 = iv x49.W := S.mem.know (i := 1) (e := fRep (rI .i64) (u72) x49.W) rfl
  obtain ⟨q73, hq74, S⟩ := pIdx (P := Try.prog) (r := r_api_Grid) (v := .slice ad1 p0.length cp2) (xs := p0) (j := 0) 34 24 5 S Try.underlying34 rfl rfl hx50
  obtain ⟨q75, hq76, S⟩ := pFld (P := Try.prog) (r := r_api_Grid) (s2 := (rI .i64)) (g := (·.H)) (q := q73) (z := x49) 24 1 0 1 S rfl rfl comp_api_Grid_H
  obtain ⟨u77, S⟩ := pLoad (r := (rI .i64)) (q := q75) (x := x49.H) 0 S rfl
  obtain rfl : u77 = iv x49.H := S.mem.know (i := 1) (e := fRep (rI .i64) (u77) x49.H) rfl
  refine sDraw (nf := [15, 19, 20]) (W := [(0, 62, iv p2), (1, 63, .slice ad1 p0.length cp2), (2, 64, q68), (3, 65, q70), (4, 66, iv x49.W), (5, 67, iv (w64 (p2 * x49.W))), (6, 68, .slice ad3 p1.length cp4), (7, 69, iv (p1.length : Int)), (8, 70, iv p2), (9, 71, iv z56), (10, 72, .slice ad1 p0.length cp2), (11, 73, q73), (12, 74, q75), (13, 75, iv x49.H), (14, 76, iv (w64 (z56 * x49.H)))]) rfl S ?_
  refine nodeCut (fun N W L D => ∀ b80 ad78 cp79, N [19, 15] ((19, 10, .pointer (some ⟨b80, 0, none⟩)) :: (16, 61, .tuple #[.agg #[iv r63.1.W, iv r63.1.H, .slice ad78 r63.1.Bits.length cp79], iv r63.2]) :: (17, 78, .agg #[iv r63.1.W, iv r63.1.H, .slice ad78 r63.1.Bits.length cp79]) :: (18, 79, iv r63.2) :: (15, 77, .tuple #[.agg #[iv r63.1.W, iv r63.1.H, .slice ad78 r63.1.Bits.length cp79], iv r63.2]) :: W) ((eBox b80 24 [iv 0, iv 0, .slice none 0 0]) :: (eRow rB 4 (.slice ad78 r63.1.Bits.length cp79) r63.1.Bits) :: L) (D)) (fun b80 ad78 cp79 => ?_) fun nd1 => ?_
  · refine node_by (A := anc_block_Join_0) (nf := [15, 19, 20]) (Y := [19, 15]) 22 (by kernel_rfl) (by kernel_rfl) (by kernel_rfl) (by kernel_rfl) (by kernel_rfl) [19, 16, 17, 18, 15, 0, 1, 2, 3, 4, 5, 6, 7, 8, 9, 10, 11, 12, 13, 14] (by kernel_rfl) (by decide) (by decide) (aD 0 21 15 (by decide) (aD 1 20 15 (by decide) (aD 2 19 15 (by decide) (aD 3 18 15 (by decide) (aD 4 17 15 (by decide) (aD 5 16 15 (by decide) (aD 6 15 15 (by decide) (aD 7 14 15 (by decide) (aD 8 13 15 (by decide) (aD 9 12 15 (by decide) (aD 10 11 15 (by decide) (aD 11 10 15 (by decide) (aD 12 9 15 (by decide) (aD 13 8 15 (by decide) (aD 14 7 15 (by decide) (aY 15 6 (by decide) (aF 16 5 (by decide) ?_ (aF 17 4 (by decide) ?_ (aF 18 3 (by decide) ?_ (aY 19 2 (by decide) (aN 20 1 (by decide) ?_ (aE 21 0 20 (by decide) (trivial))))))))))))))))))))))) [] (fun q hq => by cases hq) (fun hY => absurd (hY 20 (by decide)) (by decide))
    · refine fI 61 (.tuple #[.agg #[iv r63.1.W, iv r63.1.H, .slice ad78 r63.1.Bits.length cp79], iv r63.2]) [(77, .tuple #[.agg #[iv r63.1.W, iv r63.1.H, .slice ad78 r63.1.Bits.length cp79], iv r63.2])] 1 [some 4] rfl rfl rfl rfl rfl rfl fun G a w S => ?_
      refine sMove (.tuple #[.agg #[iv r63.1.W, iv r63.1.H, .slice ad78 r63.1.Bits.length cp79], iv r63.2]) S (wN rfl) (.inl rfl) rfl rfl (lb rfl) fun a S => ?_
      exact leafL ⟨rfl, S⟩
    · refine fI 78 (.agg #[iv r63.1.W, iv r63.1.H, .slice ad78 r63.1.Bits.length cp79]) [(61, .tuple #[.agg #[iv r63.1.W, iv r63.1.H, .slice ad78 r63.1.Bits.length cp79], iv r63.2])] 2 [some 1] rfl rfl rfl rfl rfl rfl fun G a w S => ?_
      refine sExtract (vs := [.agg #[iv r63.1.W, iv r63.1.H, .slice ad78 r63.1.Bits.length cp79], iv r63.2]) (.agg #[iv r63.1.W, iv r63.1.H, .slice ad78 r63.1.Bits.length cp79]) S (wN rfl) rfl rfl rfl rfl (lb rfl) fun a S => ?_
      exact leafL ⟨rfl, S⟩
    · refine fI 79 (iv r63.2) [(61, .tuple #[.agg #[iv r63.1.W, iv r63.1.H, .slice ad78 r63.1.Bits.length cp79], iv r63.2])] 3 [some 1] rfl rfl rfl rfl rfl rfl fun G a w S => ?_
      refine sExtract (vs := [.agg #[iv r63.1.W, iv r63.1.H, .slice ad78 r63.1.Bits.length cp79], iv r63.2]) (iv r63.2) S (wN rfl) rfl rfl rfl rfl (lb rfl) fun a S => ?_
      exact leafL ⟨rfl, S⟩
    refine ⟨_, [(10, .pointer (some ⟨b80, 0, none⟩)), (78, .agg #[iv r63.1.W, iv r63.1.H, .slice ad78 r63.1.Bits.length cp79])], rfl, (srcs_of [some 0, some 2] rfl rfl rfl), fun G a w S => ?_⟩
    refine sStore (p := b80) (off := 0) (T := 24) (vs := [iv 0, iv 0, .slice none 0 0]) (v := .agg #[iv r63.1.W, iv r63.1.H, .slice ad78 r63.1.Bits.length cp79]) 0 [iv r63.1.W, iv r63.1.H, .slice ad78 r63.1.Bits.length cp79] S (wN rfl) rfl rfl rfl rfl rfl rfl rfl (by simp) rfl fun a w S => ?_
    refine leafL ⟨rfl, _, _, .inr ⟨[(21, 11, iv r63.2)], rfl, S, hz_of rfl, ?_⟩⟩
    refine node_by (A := anc_block_Join_0) (nf := [15, 19, 20]) (Y := [20, 19, 15]) 22 (by kernel_rfl) (by kernel_rfl) (by kernel_rfl) (by kernel_rfl) (by kernel_rfl) [21, 19, 16, 17, 18, 15, 0, 1, 2, 3, 4, 5, 6, 7, 8, 9, 10, 11, 12, 13, 14] (by kernel_rfl) (by decide) (by decide) (aD 0 21 20 (by decide) (aD 1 20 20 (by decide) (aD 2 19 20 (by decide) (aD 3 18 20 (by decide) (aD 4 17 20 (by decide) (aD 5 16 20 (by decide) (aD 6 15 20 (by decide) (aD 7 14 20 (by decide) (aD 8 13 20 (by decide) (aD 9 12 20 (by decide) (aD 10 11 20 (by decide) (aD 11 10 20 (by decide) (aD 12 9 20 (by decide) (aD 13 8 20 (by decide) (aD 14 7 20 (by decide) (aY 15 6 (by decide) (aD 16 5 20 (by decide) (aD 17 4 20 (by decide) (aF 18 3 (by decide) ?_ (aY 19 2 (by decide) (aY 20 1 (by decide) (aF 21 0 (by decide) ?_ (trivial))))))))))))))))))))))) [(1, .slice ad3 p1.length cp4), (2, iv p2), (3, .pointer (some ⟨b6, 0, none⟩)), (6, .pointer (some ⟨b7, 0, none⟩)), (10, .pointer (some ⟨b80, 0, none⟩)), (11, iv r63.2)] (fin_of [none, none, none, none, some 1, some 0] rfl (by kernel_rfl) (by kernel_rfl)) (fun _ a w S => ?_)
    · refine fI 79 (iv r63.2) [(61, .tuple #[.agg #[iv r63.1.W, iv r63.1.H, .slice ad78 r63.1.Bits.length cp79], iv r63.2])] 4 [some 2] rfl rfl rfl rfl rfl rfl fun G a w S => ?_
      refine sExtract (vs := [.agg #[iv r63.1.W, iv r63.1.H, .slice ad78 r63.1.Bits.length cp79], iv r63.2]) (iv r63.2) S (wN rfl) rfl rfl rfl rfl (lb rfl) fun a S => ?_
      exact leafL ⟨rfl, S⟩
    · refine fI 11 (iv r63.2) [(79, iv r63.2)] 0 [some 4] rfl rfl rfl rfl rfl rfl fun G a w S => ?_
      refine sMove (iv r63.2) S (wN rfl) (.inr rfl) rfl rfl (lb rfl) fun a S => ?_
      exact leafL ⟨rfl, S⟩
    refine leafT (hK48 _ _ ?_)
    refine sSeq (fun K81 hK81 => ?_)
    refine sSeq (fun K82 hK82 => ?_)
    refine sRegion ?_
    refine sMove (iv r63.2) S (wN rfl) (.inl rfl) rfl rfl (lb rfl) fun a S => ?_
    refine sBin (.bool (r63.2 != 0)) S (wN rfl) rfl rfl rfl (bNe _ _ _ _ .i64 r63.2 0) rfl (lb rfl) fun a S => ?_
    refine leafL (leafT (hK82 _ _ ?_))
    rcases iteSome h with ⟨hc83, h⟩ | ⟨hc83, h⟩
    · refine sCondT S rfl hc83 ?_
      refine sSeq (fun K84 hK84 => ?_)
      refine sRegion ?_
      refine sBuild [] [iv 0, iv 0, .slice none 0 0] S (wN rfl) rfl rfl rfl rfl (lb rfl) fun a S => ?_
      refine sMove (iv r63.2) S (wN rfl) (.inl rfl) rfl rfl (lb rfl) fun a S => ?_
      refine sStore (p := b7) (off := 0) (T := 24) (vs := [iv 0, iv 0, .slice none 0 0]) (v := .agg #[iv 0, iv 0, .slice none 0 0]) 3 [iv 0, iv 0, .slice none 0 0] S (wN rfl) rfl rfl rfl rfl rfl rfl rfl (by simp) rfl fun a w S => ?_
      refine sMove (iv r63.2) S (wN rfl) (.inr rfl) rfl rfl (lb rfl) fun a S => ?_
      refine leafL (leafT (hK84 _ _ ?_))
      obtain rfl := Option.some.inj h
      have S := S.learn (fRep (rL rB) (.slice none 0 0) ([] : (List Bool))) (rL_nil _ _ _)
      have S := S.learn (fRep r_api_Grid (.agg #[iv 0, iv 0, .slice none 0 0]) (api_Grid.mk 0 0 ([] : (List Bool)))) ⟨_, rfl, S.mem.know (i := 0) (e := fRep (rL rB) (.slice none 0 0) ([] : (List Bool))) rfl⟩
      exact wp_ret (rThen (sRet (.tuple #[.agg #[iv 0, iv 0, .slice none 0 0], iv r63.2]) S (rsl2 rfl (rvN (c := 6) (t := 24) (T := 24) (p := b7) 0 [iv 0, iv 0, .slice none 0 0] S rfl rfl rfl rfl) (rvT (t := 7) (v := iv r63.2) S rfl)) ⟨(.agg #[iv 0, iv 0, .slice none 0 0]), rfl, S.mem.sel [] [0] (by decide) rfl rfl⟩))
    refine sCondF S rfl hc83 ?_
    refine wp_skip (leafT (hK81 _ _ ?_))
    obtain ⟨t86, h, g87⟩ := bindSome h
    refine sCut (fun a w => ∃ o85, o85 = t86 ∧ St [] E [] w0 105 a w [(6, .pointer (some ⟨b7, 0, none⟩)), (10, .pointer (some ⟨b80, 0, none⟩))] [eBox b7 24 [iv 0, iv 0, .slice none 0 0], eBox b80 24 [iv r63.1.W, iv r63.1.H, .slice ad78 o85.length cp79], eRow rB 4 (.slice ad78 o85.length cp79) o85] []) ?_ (fun a w hI => ?_)
    rotate_left
    · obtain ⟨o85, rfl, S⟩ := hI
      have h := g87
      clear g87
      try dsimp only at h
      refine sSeq (fun K128 hK128 => ?_)
      refine sRegion ?_
      refine sLoadN (p := b80) (off := 0) (T := 24) (vs := [iv r63.1.W, iv r63.1.H, .slice ad78 o85.length cp79]) 1 [iv r63.1.W, iv r63.1.H, .slice ad78 o85.length cp79] S (wN rfl) rfl rfl rfl rfl rfl rfl rfl (lb rfl) fun a S => ?_
      refine sStore (p := b7) (off := 0) (T := 24) (vs := [iv 0, iv 0, .slice none 0 0]) (v := .agg #[iv r63.1.W, iv r63.1.H, .slice ad78 o85.length cp79]) 0 [iv r63.1.W, iv r63.1.H, .slice ad78 o85.length cp79] S (wN rfl) rfl rfl rfl rfl rfl rfl rfl (by simp) rfl fun a w S => ?_
      refine sMove (iv 0) S (wN rfl) (.inr rfl) rfl rfl (lb rfl) fun a S => ?_
      refine leafL (leafT (hK128 _ _ ?_))
      obtain rfl := Option.some.inj h
      have S := S.shutR (r := rB) (T := 4) (v := .slice ad78 o85.length cp79) (xs := o85) 2 rfl
      have S := S.learn (fRep r_api_Grid (.agg #[iv r63.1.W, iv r63.1.H, .slice ad78 o85.length cp79]) (api_Grid.mk r63.1.W r63.1.H o85)) ⟨_, rfl, S.mem.know (i := 0) (e := fRep (rL rB) (.slice ad78 o85.length cp79) o85) rfl⟩
      exact wp_ret (sRet (.tuple #[.agg #[iv r63.1.W, iv r63.1.H, .slice ad78 o85.length cp79], iv 0]) S (rsl2 rfl (rvN (c := 6) (t := 24) (T := 24) (p := b7) 0 [iv r63.1.W, iv r63.1.H, .slice ad78 o85.length cp79] S rfl rfl rfl rfl) (rvT (t := 7) (v := iv 0) S rfl)) ⟨(.agg #[iv r63.1.W, iv r63.1.H, .slice ad78 o85.length cp79]), rfl, S.mem.sel [] [0] (by decide) rfl rfl⟩)
    refine sSeq (fun K88 hK88 => ?_)
    refine sRegion ?_
    refine sMove (.slice ad3 p1.length cp4) S (wN rfl) (.inl rfl) rfl rfl (lb rfl) fun a S => ?_
    refine sLen (ad := ad3) (m := p1.length) (c := cp4) S (wN rfl) rfl Try.underlying35 rfl rfl (lb rfl) fun a S => ?_
    refine sMove (iv 0) S (wN rfl) (.inl rfl) rfl rfl (lb rfl) fun a S => ?_
    refine leafL (leafT (hK88 _ _ ?_))
    refine wp_block ?_
    obtain ⟨t93, hl, g92⟩ := bindSome h
    refine sLoop hl (fun s0 a w => match s0 with | (s89, s90) => St [] E [] w0 105 a w [(2, iv p2), (3, .pointer (some ⟨b6, 0, none⟩)), (6, .pointer (some ⟨b7, 0, none⟩)), (10, .pointer (some ⟨b80, 0, none⟩)), (84, .slice ad3 p1.length cp4), (85, iv (p1.length : Int)), (86, iv s89)] [eBox b6 34 [.slice ad1 p0.length cp2], eBox b7 24 [iv 0, iv 0, .slice none 0 0], eBox b80 24 [iv r63.1.W, iv r63.1.H, .slice ad78 s90.length cp79], eRow rB 4 (.slice ad78 s90.length cp79) s90] [fRep (rL (rI .i64)) (.slice ad3 p1.length cp4) p1, fRep (rL r_api_Grid) (.slice ad1 p0.length cp2) p0]) (S.fix [2, 3, 0, 1] [8, 9] (by decide) rfl rfl rfl) ?_
    clear hl h
    intro s0 a w c0 hI h hu91
    obtain ⟨s89, s90⟩ := s0
    unfold block_Join_l1 at h
    dsimp only at h hI
    have S := hI
    refine sSeq (fun K95 hK95 => ?_)
    refine sRegion ?_
    refine sBin (.bool (decide (s89 < (p1.length : Int)))) S (wN rfl) rfl rfl rfl (bLt _ _ _ _ .i64 s89 (p1.length : Int)) rfl (lb rfl) fun a S => ?_
    refine leafL (leafT (hK95 _ _ ?_))
    refine sSeq (fun K96 hK96 => ?_)
    rcases iteSome h with ⟨hc97, h⟩ | ⟨hc97, h⟩
    rotate_left
    · refine sCondF S rfl hc97 ?_
      obtain rfl := Option.some.inj h
      obtain rfl := hu91 _ rfl
      have h := g92
      clear g92
      try dsimp only at h
      exact wp_exit (xThen (xThen (xHit (leafT (⟨s90, Option.some.inj h, S.fix [1, 2, 3] [] (by decide) rfl rfl rfl⟩)))))
    refine sCondT S rfl hc97 ?_
    refine wp_skip (leafT (hK96 _ _ ?_))
    refine sSeq (fun K98 hK98 => ?_)
    refine wp_block ?_
    refine sSeq (fun K99 hK99 => ?_)
    refine sRegion ?_
    refine sMove (iv s89) S (wN rfl) (.inl rfl) rfl rfl (lb rfl) fun a S => ?_
    obtain ⟨x100, hx101, h⟩ := bindSome h
    obtain ⟨q102, hq103, S⟩ := pIdx (P := Try.prog) (r := (rI .i64)) (v := .slice ad3 p1.length cp4) (xs := p1) (j := s89) 35 3 0 S Try.underlying35 rfl rfl hx101
    refine sIdxV (v := .slice ad3 p1.length cp4) (k := .i64) (j := s89) S (wN rfl) rfl rfl rfl hq103 rfl (lb rfl) fun a S => ?_
    obtain ⟨u104, S⟩ := pLoad (r := (rI .i64)) (q := q102) (x := x100) 0 S rfl
    obtain rfl : u104 = iv x100 := S.mem.know (i := 1) (e := fRep (rI .i64) (u104) x100) rfl
    refine sLoadV1 (vq := q102) 0 (iv x100) S (wN rfl) rfl rfl rfl rfl rfl (lb rfl) fun a S => ?_
    refine sMove (iv s89) S (wN rfl) (.inr rfl) rfl rfl (lb rfl) fun a S => ?_
    refine sMove (iv x100) S (wN rfl) (.inr rfl) rfl rfl (lb rfl) fun a S => ?_
    refine leafL (leafT (hK99 _ _ ?_))
    obtain ⟨x105, hx106, h⟩ := bindSome h
    obtain ⟨z114, hx115, h⟩ := bindSome h
    obtain ⟨z116, hx117, h⟩ := bindSome h
    obtain ⟨r118, hx119, h⟩ := bindSome h
    obtain ⟨q120, hq121, S⟩ := pIdx (P := Try.prog) (r := r_api_Grid) (v := .slice ad1 p0.length cp2) (xs := p0) (j := x100) 34 24 4 S Try.underlying34 rfl rfl hx106
    obtain ⟨u122, S⟩ := pLoad (r := r_api_Grid) (q := q120) (x := x105) 0 S rfl
    obtain ⟨u123, rfl, hu124⟩ := S.mem.know (i := 1) (e := fRep r_api_Grid (u122) x105) rfl
    have S := S.learn (fRep (rL rB) u123 x105.Bits) hu124
    obtain ⟨ad125, cp126, _, rfl, _⟩ := hu124
    refine sDraw (nf := [11]) (W := [(0, 91, .agg #[iv r63.1.W, iv r63.1.H, .slice ad78 s90.length cp79]), (1, 92, .slice ad1 p0.length cp2), (2, 93, iv x100), (3, 94, q120), (4, 95, .agg #[iv x105.W, iv x105.H, .slice ad125 x105.Bits.length cp126]), (5, 96, iv s89), (6, 97, iv p2), (7, 98, iv z114), (8, 99, iv s89), (9, 100, iv p2), (10, 101, iv z116)]) rfl S ?_
    refine node_by (A := anc_block_Join_1) (nf := [11]) (Y := []) (W := [(0, 91, .agg #[iv r63.1.W, iv r63.1.H, .slice ad78 s90.length cp79]), (1, 92, .slice ad1 p0.length cp2), (2, 93, iv x100), (3, 94, q120), (4, 95, .agg #[iv x105.W, iv x105.H, .slice ad125 x105.Bits.length cp126]), (5, 96, iv s89), (6, 97, iv p2), (7, 98, iv z114), (8, 99, iv s89), (9, 100, iv p2), (10, 101, iv z116)]) 12 (by kernel_rfl) (by kernel_rfl) (by kernel_rfl) (by kernel_rfl) (by kernel_rfl) [0, 1, 2, 3, 4, 5, 6, 7, 8, 9, 10] (by kernel_rfl) (by decide) (by decide) (aF 0 11 (by decide) ?_ (aF 1 10 (by decide) ?_ (aF 2 9 (by decide) ?_ (aF 3 8 (by decide) ?_ (aF 4 7 (by decide) ?_ (aF 5 6 (by decide) ?_ (aF 6 5 (by decide) ?_ (aF 7 4 (by decide) ?_ (aF 8 3 (by decide) ?_ (aF 9 2 (by decide) ?_ (aF 10 1 (by decide) ?_ (aN 11 0 (by decide) ?_ (trivial))))))))))))) [] (fun q hq => by cases hq) (fun hY => absurd (hY 11 (by decide)) (by decide))
    · refine fI 91 (.agg #[iv r63.1.W, iv r63.1.H, .slice ad78 s90.length cp79]) [(10, .pointer (some ⟨b80, 0, none⟩))] 0 [none] rfl rfl rfl rfl rfl rfl fun G a w S => ?_
      refine sLoadN (p := b80) (off := 0) (T := 24) (vs := [iv r63.1.W, iv r63.1.H, .slice ad78 s90.length cp79]) 2 [iv r63.1.W, iv r63.1.H, .slice ad78 s90.length cp79] S (wN rfl) rfl rfl rfl rfl rfl rfl rfl (lb rfl) fun a S => ?_
      exact leafL ⟨rfl, S⟩
    · refine fI 92 (.slice ad1 p0.length cp2) [(3, .pointer (some ⟨b6, 0, none⟩))] 1 [none] rfl rfl rfl rfl rfl rfl fun G a w S => ?_
      refine sLoad1 (p := b6) (off := 0) (T := 34) (vs := [.slice ad1 p0.length cp2]) 0 (.slice ad1 p0.length cp2) S (wN rfl) rfl rfl rfl rfl rfl rfl (lb rfl) fun a S => ?_
      exact leafL ⟨rfl, S⟩
    · refine fI 93 (iv x100) [(13, iv x100)] 2 [none] rfl rfl rfl rfl rfl rfl fun G a w S => ?_
      refine sMove (iv x100) S (wN rfl) (.inl rfl) rfl rfl (lb rfl) fun a S => ?_
      exact leafL ⟨rfl, S⟩
    · refine fI 94 q120 [(92, .slice ad1 p0.length cp2), (93, iv x100)] 3 [some 1, some 2] rfl rfl rfl rfl rfl rfl fun G a w S => ?_
      refine sIdxV (v := .slice ad1 p0.length cp2) (k := .i64) (j := x100) S (wN rfl) rfl rfl rfl hq121 rfl (lb rfl) fun a S => ?_
      exact leafL ⟨rfl, S⟩
    · refine fI 95 (.agg #[iv x105.W, iv x105.H, .slice ad125 x105.Bits.length cp126]) [(94, q120)] 4 [some 3] rfl rfl rfl rfl rfl rfl fun G a w S => ?_
      refine sLoadVN (vq := q120) 1 [iv x105.W, iv x105.H, .slice ad125 x105.Bits.length cp126] S (wN rfl) rfl rfl rfl rfl rfl rfl (lb rfl) fun a S => ?_
      exact leafL ⟨rfl, S⟩
    · refine fI 96 (iv s89) [(12, iv s89)] 5 [none] rfl rfl rfl rfl rfl rfl fun G a w S => ?_
      refine sMove (iv s89) S (wN rfl) (.inl rfl) rfl rfl (lb rfl) fun a S => ?_
      exact leafL ⟨rfl, S⟩
    · refine fI 97 (iv p2) [(2, iv p2)] 6 [none] rfl rfl rfl rfl rfl rfl fun G a w S => ?_
      refine sMove (iv p2) S (wN rfl) (.inl rfl) rfl rfl (lb rfl) fun a S => ?_
      exact leafL ⟨rfl, S⟩
    · refine fI 98 (iv z114) [(96, iv s89), (97, iv p2)] 7 [some 5, some 6] rfl rfl rfl rfl rfl rfl fun G a w S => ?_
      refine sBin (iv z114) S (wN rfl) rfl rfl rfl (bRem _ _ _ _ (x := s89) (y := p2) hx115) rfl (lb rfl) fun a S => ?_
      exact leafL ⟨rfl, S⟩
    · refine fI 99 (iv s89) [(12, iv s89)] 8 [none] rfl rfl rfl rfl rfl rfl fun G a w S => ?_
      refine sMove (iv s89) S (wN rfl) (.inl rfl) rfl rfl (lb rfl) fun a S => ?_
      exact leafL ⟨rfl, S⟩
    · refine fI 100 (iv p2) [(2, iv p2)] 9 [none] rfl rfl rfl rfl rfl rfl fun G a w S => ?_
      refine sMove (iv p2) S (wN rfl) (.inl rfl) rfl rfl (lb rfl) fun a S => ?_
      exact leafL ⟨rfl, S⟩
    · refine fI 101 (iv z116) [(99, iv s89), (100, iv p2)] 10 [some 8, some 9] rfl rfl rfl rfl rfl rfl fun G a w S => ?_
      refine sBin (iv z116) S (wN rfl) rfl rfl rfl (bQuo _ _ _ _ (x := s89) (y := p2) hx117) rfl (lb rfl) fun a S => ?_
      exact leafL ⟨rfl, S⟩
    refine ⟨_, [(91, .agg #[iv r63.1.W, iv r63.1.H, .slice ad78 s90.length cp79]), (95, .agg #[iv x105.W, iv x105.H, .slice ad125 x105.Bits.length cp126]), (98, iv z114), (101, iv z116)], rfl, (srcs_of [some 0, some 4, some 7, some 10] rfl rfl rfl), fun G a w S => ?_⟩
    refine sCall (X := Unit) (f := 44) (vs := [.agg #[iv r63.1.W, iv r63.1.H, .slice ad78 s90.length cp79], .agg #[iv x105.W, iv x105.H, .slice ad125 x105.Bits.length cp126], iv z114, iv z116]) (val := fun _ => .tuple #[]) (B' := fun _ => [eRow rB 4 (.slice ad78 s90.length cp79) r118]) (D' := fun _ => []) [eRow rB 4 (.slice ad78 s90.length cp79) s90] [eBox b6 34 [.slice ad1 p0.length cp2], eBox b7 24 [iv 0, iv 0, .slice none 0 0], eBox b80 24 [iv r63.1.W, iv r63.1.H, .slice ad78 s90.length cp79]] [fRep r_api_Grid (.agg #[iv x105.W, iv x105.H, .slice ad125 x105.Bits.length cp126]) x105] [3, 0, 1, 2] [2] S (wN rfl) rfl callee44 rfl (by decide) rfl rfl (fun E1 w1 S1 => c_block_put_s0 E1 w1 r63.1.W r63.1.H s90 ad78 cp79 x105 (.agg #[iv x105.W, iv x105.H, .slice ad125 x105.Bits.length cp126]) z114 z116 r118 hx119 S1) rfl (lb rfl) fun _ a w S => ?_
    refine leafL ⟨rfl, _, _, .inl ⟨102, (.tuple #[]), [], rfl, S, hz_of rfl, ?_⟩⟩
    refine node_by (A := anc_block_Join_1) (nf := [11]) (Y := [11]) 12 (by kernel_rfl) (by kernel_rfl) (by kernel_rfl) (by kernel_rfl) (by kernel_rfl) [11, 0, 1, 2, 3, 4, 5, 6, 7, 8, 9, 10] (by kernel_rfl) (by decide) (by decide) (aD 0 11 11 (by decide) (aD 1 10 11 (by decide) (aD 2 9 11 (by decide) (aD 3 8 11 (by decide) (aD 4 7 11 (by decide) (aD 5 6 11 (by decide) (aD 6 5 11 (by decide) (aD 7 4 11 (by decide) (aD 8 3 11 (by decide) (aD 9 2 11 (by decide) (aD 10 1 11 (by decide) (aY 11 0 (by decide) (trivial))))))))))))) [(2, iv p2), (3, .pointer (some ⟨b6, 0, none⟩)), (6, .pointer (some ⟨b7, 0, none⟩)), (10, .pointer (some ⟨b80, 0, none⟩)), (84, .slice ad3 p1.length cp4), (85, iv (p1.length : Int)), (86, iv s89)] (fin_of [none, none, none, none, none, none, none] rfl (by kernel_rfl) (by kernel_rfl)) (fun _ a w S => ?_)
    have hr127 := row_v (S.mem.hold (i := 0) (e := eRow rB 4 (.slice ad78 s90.length cp79) r118) rfl)
    rw [hr127] at S
    refine leafB (leafT (hK98 _ _ ?_))
    refine sRegion ?_
    refine sBin (iv (w64 (s89 + 1))) S (wN rfl) rfl rfl rfl (bAdd _ _ _ _ s89 1) rfl (lb rfl) fun a S => ?_
    refine sMove (iv (w64 (s89 + 1))) S (wN rfl) (.inl rfl) rfl rfl (lb rfl) fun a S => ?_
    exact leafL (leafT (⟨(w64 (s89 + 1), r118), (Option.some.inj h).symm, (S.fix [1, 2, 3, 0] [7, 8] (by decide) rfl rfl rfl)⟩))
  refine node_by (A := anc_block_Join_0) (nf := [15, 19, 20]) (Y := []) (W := [(0, 62, iv p2), (1, 63, .slice ad1 p0.length cp2), (2, 64, q68), (3, 65, q70), (4, 66, iv x49.W), (5, 67, iv (w64 (p2 * x49.W))), (6, 68, .slice ad3 p1.length cp4), (7, 69, iv (p1.length : Int)), (8, 70, iv p2), (9, 71, iv z56), (10, 72, .slice ad1 p0.length cp2), (11, 73, q73), (12, 74, q75), (13, 75, iv x49.H), (14, 76, iv (w64 (z56 * x49.H)))]) 22 (by kernel_rfl) (by kernel_rfl) (by kernel_rfl) (by kernel_rfl) (by kernel_rfl) [0, 1, 2, 3, 4, 5, 6, 7, 8, 9, 10, 11, 12, 13, 14] (by kernel_rfl) (by decide) (by decide) (aF 0 21 (by decide) ?_ (aF 1 20 (by decide) ?_ (aF 2 19 (by decide) ?_ (aF 3 18 (by decide) ?_ (aF 4 17 (by decide) ?_ (aF 5 16 (by decide) ?_ (aF 6 15 (by decide) ?_ (aF 7 14 (by decide) ?_ (aF 8 13 (by decide) ?_ (aF 9 12 (by decide) ?_ (aF 10 11 (by decide) ?_ (aF 11 10 (by decide) ?_ (aF 12 9 (by decide) ?_ (aF 13 8 (by decide) ?_ (aF 14 7 (by decide) ?_ (aN 15 6 (by decide) ?_ (aE 16 5 15 (by decide) (aE 17 4 15 (by decide) (aE 18 3 15 (by decide) (aN 19 2 (by decide) ?_ (aB 20 1 15 (by decide) (aE 21 0 15 (by decide) (trivial))))))))))))))))))))))) [] (fun q hq => by cases hq) (fun hY => absurd (hY 15 (by decide)) (by decide))
  · refine fI 62 (iv p2) [(2, iv p2)] 0 [none] rfl rfl rfl rfl rfl rfl fun G a w S => ?_
    refine sMove (iv p2) S (wN rfl) (.inl rfl) rfl rfl (lb rfl) fun a S => ?_
    exact leafL ⟨rfl, S⟩
  · refine fI 63 (.slice ad1 p0.length cp2) [(3, .pointer (some ⟨b6, 0, none⟩))] 1 [none] rfl rfl rfl rfl rfl rfl fun G a w S => ?_
    refine sLoad1 (p := b6) (off := 0) (T := 34) (vs := [.slice ad1 p0.length cp2]) 0 (.slice ad1 p0.length cp2) S (wN rfl) rfl rfl rfl rfl rfl rfl (lb rfl) fun a S => ?_
    exact leafL ⟨rfl, S⟩
  · refine fI 64 q68 [(63, .slice ad1 p0.length cp2)] 2 [some 1] rfl rfl rfl rfl rfl rfl fun G a w S => ?_
    refine sIdxV (v := .slice ad1 p0.length cp2) (k := .i64) (j := 0) S (wN rfl) rfl rfl rfl hq69 rfl (lb rfl) fun a S => ?_
    exact leafL ⟨rfl, S⟩
  · refine fI 65 q70 [(64, q68)] 3 [some 2] rfl rfl rfl rfl rfl rfl fun G a w S => ?_
    refine sFldV (q := q68) S (wN rfl) rfl rfl hq71 rfl (lb rfl) fun a S => ?_
    exact leafL ⟨rfl, S⟩
  · refine fI 66 (iv x49.W) [(65, q70)] 4 [some 3] rfl rfl rfl rfl rfl rfl fun G a w S => ?_
    refine sLoadV1 (vq := q70) 4 (iv x49.W) S (wN rfl) rfl rfl rfl rfl rfl (lb rfl) fun a S => ?_
    exact leafL ⟨rfl, S⟩
  · refine fI 67 (iv (w64 (p2 * x49.W))) [(62, iv p2), (66, iv x49.W)] 5 [some 0, some 4] rfl rfl rfl rfl rfl rfl fun G a w S => ?_
    refine sBin (iv (w64 (p2 * x49.W))) S (wN rfl) rfl rfl rfl (bMul _ _ _ _ p2 x49.W) rfl (lb rfl) fun a S => ?_
    exact leafL ⟨rfl, S⟩
  · refine fI 68 (.slice ad3 p1.length cp4) [(1, .slice ad3 p1.length cp4)] 6 [none] rfl rfl rfl rfl rfl rfl fun G a w S => ?_
    refine sMove (.slice ad3 p1.length cp4) S (wN rfl) (.inl rfl) rfl rfl (lb rfl) fun a S => ?_
    exact leafL ⟨rfl, S⟩
  · refine fI 69 (iv (p1.length : Int)) [(68, .slice ad3 p1.length cp4)] 7 [some 6] rfl rfl rfl rfl rfl rfl fun G a w S => ?_
    refine sLen (ad := ad3) (m := p1.length) (c := cp4) S (wN rfl) rfl Try.underlying35 rfl rfl (lb rfl) fun a S => ?_
    exact leafL ⟨rfl, S⟩
  · refine fI 70 (iv p2) [(2, iv p2)] 8 [none] rfl rfl rfl rfl rfl rfl fun G a w S => ?_
    refine sMove (iv p2) S (wN rfl) (.inl rfl) rfl rfl (lb rfl) fun a S => ?_
    exact leafL ⟨rfl, S⟩
  · refine fI 71 (iv z56) [(69, iv (p1.length : Int)), (70, iv p2)] 9 [some 7, some 8] rfl rfl rfl rfl rfl rfl fun G a w S => ?_
    refine sBin (iv z56) S (wN rfl) rfl rfl rfl (bQuo _ _ _ _ (x := (p1.length : Int)) (y := p2) hx57) rfl (lb rfl) fun a S => ?_
    exact leafL ⟨rfl, S⟩
  · refine fI 72 (.slice ad1 p0.length cp2) [(3, .pointer (some ⟨b6, 0, none⟩))] 10 [none] rfl rfl rfl rfl rfl rfl fun G a w S => ?_
    refine sLoad1 (p := b6) (off := 0) (T := 34) (vs := [.slice ad1 p0.length cp2]) 0 (.slice ad1 p0.length cp2) S (wN rfl) rfl rfl rfl rfl rfl rfl (lb rfl) fun a S => ?_
    exact leafL ⟨rfl, S⟩
  · refine fI 73 q73 [(72, .slice ad1 p0.length cp2)] 11 [some 10] rfl rfl rfl rfl rfl rfl fun G a w S => ?_
    refine sIdxV (v := .slice ad1 p0.length cp2) (k := .i64) (j := 0) S (wN rfl) rfl rfl rfl hq74 rfl (lb rfl) fun a S => ?_
    exact leafL ⟨rfl, S⟩
  · refine fI 74 q75 [(73, q73)] 12 [some 11] rfl rfl rfl rfl rfl rfl fun G a w S => ?_
    refine sFldV (q := q73) S (wN rfl) rfl rfl hq76 rfl (lb rfl) fun a S => ?_
    exact leafL ⟨rfl, S⟩
  · refine fI 75 (iv x49.H) [(74, q75)] 13 [some 12] rfl rfl rfl rfl rfl rfl fun G a w S => ?_
    refine sLoadV1 (vq := q75) 0 (iv x49.H) S (wN rfl) rfl rfl rfl rfl rfl (lb rfl) fun a S => ?_
    exact leafL ⟨rfl, S⟩
  · refine fI 76 (iv (w64 (z56 * x49.H))) [(71, iv z56), (75, iv x49.H)] 14 [some 9, some 13] rfl rfl rfl rfl rfl rfl fun G a w S => ?_
    refine sBin (iv (w64 (z56 * x49.H))) S (wN rfl) rfl rfl rfl (bMul _ _ _ _ z56 x49.H) rfl (lb rfl) fun a S => ?_
    exact leafL ⟨rfl, S⟩
  · refine ⟨_, [(67, iv (w64 (p2 * x49.W))), (76, iv (w64 (z56 * x49.H)))], rfl, (srcs_of [some 5, some 14] rfl rfl rfl), fun G a w S => ?_⟩
    refine sCall (X := Option Addr × Nat) (f := 43) (vs := [iv (w64 (p2 * x49.W)), iv (w64 (z56 * x49.H))]) (val := fun x => .tuple #[.agg #[iv r63.1.W, iv r63.1.H, .slice x.1 r63.1.Bits.length x.2], iv r63.2]) (B' := fun x => [eRow rB 4 (.slice x.1 r63.1.Bits.length x.2) r63.1.Bits]) (D' := fun _ => []) [] [eBox b6 34 [.slice ad1 p0.length cp2], eBox b7 24 [iv 0, iv 0, .slice none 0 0]] [] [0, 1] [] S (wN rfl) rfl callee43 rfl (by decide) rfl rfl (fun E1 w1 S1 => c_block_zero_s0 E1 w1 (w64 (p2 * x49.W)) (w64 (z56 * x49.H)) r63 hx64 S1) rfl (lb rfl) fun xx a w S => ?_
    obtain ⟨ad78, cp79⟩ := xx
    dsimp only at S
    refine leafL ⟨rfl, _, _, .inl ⟨77, (.tuple #[.agg #[iv r63.1.W, iv r63.1.H, .slice ad78 r63.1.Bits.length cp79], iv r63.2]), [(16, 61, .tuple #[.agg #[iv r63.1.W, iv r63.1.H, .slice ad78 r63.1.Bits.length cp79], iv r63.2]), (17, 78, .agg #[iv r63.1.W, iv r63.1.H, .slice ad78 r63.1.Bits.length cp79]), (18, 79, iv r63.2)], rfl, S, hz_of rfl, ?_⟩⟩
    refine node_by (A := anc_block_Join_0) (nf := [15, 19, 20]) (Y := [15]) 22 (by kernel_rfl) (by kernel_rfl) (by kernel_rfl) (by kernel_rfl) (by kernel_rfl) [16, 17, 18, 15, 0, 1, 2, 3, 4, 5, 6, 7, 8, 9, 10, 11, 12, 13, 14] (by kernel_rfl) (by decide) (by decide) (aD 0 21 15 (by decide) (aD 1 20 15 (by decide) (aD 2 19 15 (by decide) (aD 3 18 15 (by decide) (aD 4 17 15 (by decide) (aD 5 16 15 (by decide) (aD 6 15 15 (by decide) (aD 7 14 15 (by decide) (aD 8 13 15 (by decide) (aD 9 12 15 (by decide) (aD 10 11 15 (by decide) (aD 11 10 15 (by decide) (aD 12 9 15 (by decide) (aD 13 8 15 (by decide) (aD 14 7 15 (by decide) (aY 15 6 (by decide) (aF 16 5 (by decide) ?_ (aF 17 4 (by decide) ?_ (aF 18 3 (by decide) ?_ (aN 19 2 (by decide) ?_ (aB 20 1 19 (by decide) (aE 21 0 19 (by decide) (trivial))))))))))))))))))))))) [] (fun q hq => by cases hq) (fun hY => absurd (hY 19 (by decide)) (by decide))
    · refine fI 61 (.tuple #[.agg #[iv r63.1.W, iv r63.1.H, .slice ad78 r63.1.Bits.length cp79], iv r63.2]) [(77, .tuple #[.agg #[iv r63.1.W, iv r63.1.H, .slice ad78 r63.1.Bits.length cp79], iv r63.2])] 0 [some 3] rfl rfl rfl rfl rfl rfl fun G a w S => ?_
      refine sMove (.tuple #[.agg #[iv r63.1.W, iv r63.1.H, .slice ad78 r63.1.Bits.length cp79], iv r63.2]) S (wN rfl) (.inl rfl) rfl rfl (lb rfl) fun a S => ?_
      exact leafL ⟨rfl, S⟩
    · refine fI 78 (.agg #[iv r63.1.W, iv r63.1.H, .slice ad78 r63.1.Bits.length cp79]) [(61, .tuple #[.agg #[iv r63.1.W, iv r63.1.H, .slice ad78 r63.1.Bits.length cp79], iv r63.2])] 1 [some 0] rfl rfl rfl rfl rfl rfl fun G a w S => ?_
      refine sExtract (vs := [.agg #[iv r63.1.W, iv r63.1.H, .slice ad78 r63.1.Bits.length cp79], iv r63.2]) (.agg #[iv r63.1.W, iv r63.1.H, .slice ad78 r63.1.Bits.length cp79]) S (wN rfl) rfl rfl rfl rfl (lb rfl) fun a S => ?_
      exact leafL ⟨rfl, S⟩
    · refine fI 79 (iv r63.2) [(61, .tuple #[.agg #[iv r63.1.W, iv r63.1.H, .slice ad78 r63.1.Bits.length cp79], iv r63.2])] 2 [some 0] rfl rfl rfl rfl rfl rfl fun G a w S => ?_
      refine sExtract (vs := [.agg #[iv r63.1.W, iv r63.1.H, .slice ad78 r63.1.Bits.length cp79], iv r63.2]) (iv r63.2) S (wN rfl) rfl rfl rfl rfl (lb rfl) fun a S => ?_
      exact leafL ⟨rfl, S⟩
    refine ⟨_, [], rfl, (srcs_of [] rfl rfl rfl), fun G a w S => ?_⟩
    refine sAlloc (.agg #[iv 0, iv 0, .slice none 0 0]) S (wN rfl) rfl rfl [iv 0, iv 0, .slice none 0 0] rfl rfl (lb rfl) fun a b80 w S => ?_
    refine leafL ⟨rfl, _, _, .inl ⟨10, (.pointer (some ⟨b80, 0, none⟩)), [], rfl, S, hz_of rfl, ?_⟩⟩
    exact nd1 b80 ad78 cp79
  refine ⟨_, [], rfl, (srcs_of [] rfl rfl rfl), fun G a w S => ?_⟩
  refine sAlloc (.agg #[iv 0, iv 0, .slice none 0 0]) S (wN rfl) rfl rfl [iv 0, iv 0, .slice none 0 0] rfl rfl (lb rfl) fun a b129 w S => ?_
  refine leafL ⟨rfl, _, _, .inl ⟨10, (.pointer (some ⟨b129, 0, none⟩)), [], rfl, S, hz_of rfl, ?_⟩⟩
  refine node_by (A := anc_block_Join_0) (nf := [15, 19, 20]) (Y := [19]) 22 (by kernel_rfl) (by kernel_rfl) (by kernel_rfl) (by kernel_rfl) (by kernel_rfl) [19, 0, 1, 2, 3, 4, 5, 6, 7, 8, 9, 10, 11, 12, 13, 14] (by kernel_rfl) (by decide) (by decide) (aF 0 21 (by decide) ?_ (aF 1 20 (by decide) ?_ (aF 2 19 (by decide) ?_ (aF 3 18 (by decide) ?_ (aF 4 17 (by decide) ?_ (aF 5 16 (by decide) ?_ (aF 6 15 (by decide) ?_ (aF 7 14 (by decide) ?_ (aF 8 13 (by decide) ?_ (aF 9 12 (by decide) ?_ (aF 10 11 (by decide) ?_ (aF 11 10 (by decide) ?_ (aF 12 9 (by decide) ?_ (aF 13 8 (by decide) ?_ (aF 14 7 (by decide) ?_ (aN 15 6 (by decide) ?_ (aE 16 5 15 (by decide) (aE 17 4 15 (by decide) (aE 18 3 15 (by decide) (aY 19 2 (by decide) (aB 20 1 15 (by decide) (aE 21 0 15 (by decide) (trivial))))))))))))))))))))))) [] (fun q hq => by cases hq) (fun hY => absurd (hY 15 (by decide)) (by decide))
  · refine fI 62 (iv p2) [(2, iv p2)] 1 [none] rfl rfl rfl rfl rfl rfl fun G a w S => ?_
    refine sMove (iv p2) S (wN rfl) (.inl rfl) rfl rfl (lb rfl) fun a S => ?_
    exact leafL ⟨rfl, S⟩
  · refine fI 63 (.slice ad1 p0.length cp2) [(3, .pointer (some ⟨b6, 0, none⟩))] 2 [none] rfl rfl rfl rfl rfl rfl fun G a w S => ?_
    refine sLoad1 (p := b6) (off := 0) (T := 34) (vs := [.slice ad1 p0.length cp2]) 1 (.slice ad1 p0.length cp2) S (wN rfl) rfl rfl rfl rfl rfl rfl (lb rfl) fun a S => ?_
    exact leafL ⟨rfl, S⟩
  · refine fI 64 q68 [(63, .slice ad1 p0.length cp2)] 3 [some 2] rfl rfl rfl rfl rfl rfl fun G a w S => ?_
    refine sIdxV (v := .slice ad1 p0.length cp2) (k := .i64) (j := 0) S (wN rfl) rfl rfl rfl hq69 rfl (lb rfl) fun a S => ?_
    exact leafL ⟨rfl, S⟩
  · refine fI 65 q70 [(64, q68)] 4 [some 3] rfl rfl rfl rfl rfl rfl fun G a w S => ?_
    refine sFldV (q := q68) S (wN rfl) rfl rfl hq71 rfl (lb rfl) fun a S => ?_
    exact leafL ⟨rfl, S⟩
  · refine fI 66 (iv x49.W) [(65, q70)] 5 [some 4] rfl rfl rfl rfl rfl rfl fun G a w S => ?_
    refine sLoadV1 (vq := q70) 4 (iv x49.W) S (wN rfl) rfl rfl rfl rfl rfl (lb rfl) fun a S => ?_
    exact leafL ⟨rfl, S⟩
  · refine fI 67 (iv (w64 (p2 * x49.W))) [(62, iv p2), (66, iv x49.W)] 6 [some 1, some 5] rfl rfl rfl rfl rfl rfl fun G a w S => ?_
    refine sBin (iv (w64 (p2 * x49.W))) S (wN rfl) rfl rfl rfl (bMul _ _ _ _ p2 x49.W) rfl (lb rfl) fun a S => ?_
    exact leafL ⟨rfl, S⟩
  · refine fI 68 (.slice ad3 p1.length cp4) [(1, .slice ad3 p1.length cp4)] 7 [none] rfl rfl rfl rfl rfl rfl fun G a w S => ?_
    refine sMove (.slice ad3 p1.length cp4) S (wN rfl) (.inl rfl) rfl rfl (lb rfl) fun a S => ?_
    exact leafL ⟨rfl, S⟩
  · refine fI 69 (iv (p1.length : Int)) [(68, .slice ad3 p1.length cp4)] 8 [some 7] rfl rfl rfl rfl rfl rfl fun G a w S => ?_
    refine sLen (ad := ad3) (m := p1.length) (c := cp4) S (wN rfl) rfl Try.underlying35 rfl rfl (lb rfl) fun a S => ?_
    exact leafL ⟨rfl, S⟩
  · refine fI 70 (iv p2) [(2, iv p2)] 9 [none] rfl rfl rfl rfl rfl rfl fun G a w S => ?_
    refine sMove (iv p2) S (wN rfl) (.inl rfl) rfl rfl (lb rfl) fun a S => ?_
    exact leafL ⟨rfl, S⟩
  · refine fI 71 (iv z56) [(69, iv (p1.length : Int)), (70, iv p2)] 10 [some 8, some 9] rfl rfl rfl rfl rfl rfl fun G a w S => ?_
    refine sBin (iv z56) S (wN rfl) rfl rfl rfl (bQuo _ _ _ _ (x := (p1.length : Int)) (y := p2) hx57) rfl (lb rfl) fun a S => ?_
    exact leafL ⟨rfl, S⟩
  · refine fI 72 (.slice ad1 p0.length cp2) [(3, .pointer (some ⟨b6, 0, none⟩))] 11 [none] rfl rfl rfl rfl rfl rfl fun G a w S => ?_
    refine sLoad1 (p := b6) (off := 0) (T := 34) (vs := [.slice ad1 p0.length cp2]) 1 (.slice ad1 p0.length cp2) S (wN rfl) rfl rfl rfl rfl rfl rfl (lb rfl) fun a S => ?_
    exact leafL ⟨rfl, S⟩
  · refine fI 73 q73 [(72, .slice ad1 p0.length cp2)] 12 [some 11] rfl rfl rfl rfl rfl rfl fun G a w S => ?_
    refine sIdxV (v := .slice ad1 p0.length cp2) (k := .i64) (j := 0) S (wN rfl) rfl rfl rfl hq74 rfl (lb rfl) fun a S => ?_
    exact leafL ⟨rfl, S⟩
  · refine fI 74 q75 [(73, q73)] 13 [some 12] rfl rfl rfl rfl rfl rfl fun G a w S => ?_
    refine sFldV (q := q73) S (wN rfl) rfl rfl hq76 rfl (lb rfl) fun a S => ?_
    exact leafL ⟨rfl, S⟩
  · refine fI 75 (iv x49.H) [(74, q75)] 14 [some 13] rfl rfl rfl rfl rfl rfl fun G a w S => ?_
    refine sLoadV1 (vq := q75) 0 (iv x49.H) S (wN rfl) rfl rfl rfl rfl rfl (lb rfl) fun a S => ?_
    exact leafL ⟨rfl, S⟩
  · refine fI 76 (iv (w64 (z56 * x49.H))) [(71, iv z56), (75, iv x49.H)] 15 [some 10, some 14] rfl rfl rfl rfl rfl rfl fun G a w S => ?_
    refine sBin (iv (w64 (z56 * x49.H))) S (wN rfl) rfl rfl rfl (bMul _ _ _ _ z56 x49.H) rfl (lb rfl) fun a S => ?_
    exact leafL ⟨rfl, S⟩
  refine ⟨_, [(67, iv (w64 (p2 * x49.W))), (76, iv (w64 (z56 * x49.H)))], rfl, (srcs_of [some 6, some 15] rfl rfl rfl), fun G a w S => ?_⟩
  refine sCall (X := Option Addr × Nat) (f := 43) (vs := [iv (w64 (p2 * x49.W)), iv (w64 (z56 * x49.H))]) (val := fun x => .tuple #[.agg #[iv r63.1.W, iv r63.1.H, .slice x.1 r63.1.Bits.length x.2], iv r63.2]) (B' := fun x => [eRow rB 4 (.slice x.1 r63.1.Bits.length x.2) r63.1.Bits]) (D' := fun _ => []) [] [eBox b129 24 [iv 0, iv 0, .slice none 0 0], eBox b6 34 [.slice ad1 p0.length cp2], eBox b7 24 [iv 0, iv 0, .slice none 0 0]] [] [0, 1, 2] [] S (wN rfl) rfl callee43 rfl (by decide) rfl rfl (fun E1 w1 S1 => c_block_zero_s0 E1 w1 (w64 (p2 * x49.W)) (w64 (z56 * x49.H)) r63 hx64 S1) rfl (lb rfl) fun xx a w S => ?_
  obtain ⟨ad130, cp131⟩ := xx
  dsimp only at S
  refine leafL ⟨rfl, _, _, .inl ⟨77, (.tuple #[.agg #[iv r63.1.W, iv r63.1.H, .slice ad130 r63.1.Bits.length cp131], iv r63.2]), [(16, 61, .tuple #[.agg #[iv r63.1.W, iv r63.1.H, .slice ad130 r63.1.Bits.length cp131], iv r63.2]), (17, 78, .agg #[iv r63.1.W, iv r63.1.H, .slice ad130 r63.1.Bits.length cp131]), (18, 79, iv r63.2)], rfl, S, hz_of rfl, ?_⟩⟩
  exact nodePerm (nd1 b129 ad130 cp131) [4, 0, 1, 2, 3, 5, 6, 7, 8, 9, 10, 11, 12, 13, 14, 15, 16, 17, 18, 19] [1, 0, 2, 3] [0, 1, 2, 3, 4, 5, 6, 7, 8, 9] (by decide) (by decide) rfl rfl rfl

end Go.Proofs.Ythfifeabomdlpaa
namespace Go.Proofs.Ythfifeabomdlpaa
open Go.RowKit
set_option linter.unusedVariables false

def anc_raddleref02_Same_0 : List (List Nat) := [[], [], [0, 1], [0, 1, 2], [], [], [4, 5], [4, 5, 6], [0, 1, 2, 3, 4, 5, 6, 7]]
noncomputable def raddleref02_Same_l1 (p0 : (List Int)) (p1 : (List Int)) : Int → Option (Int ⊕ (Bool ⊕ Unit)) := fun s0 => match s0 with
  | s13 =>
    if decide (s13 < (p0.length : Int)) then
      Option.bind (idxO p0 s13) fun x22 =>
      Option.bind (idxO p1 s13) fun x27 =>
      if x22 != x27 then
        some (.inr (.inl false))
      else
        some (.inl (w64 (s13 + 1)))
    else
      some (.inr (.inr ()))
noncomputable def F_raddleref02_Same (p0 : (List Int)) (p1 : (List Int)) : Option Bool :=
  if (p0.length : Int) != (p1.length : Int) then
    some false
  else
    Option.bind (α := Unit ⊕ Bool) (
      Option.bind (whileO (raddleref02_Same_l1 p0 p1) 0) fun z0 => match z0 with
        | .inl z =>
          some (.inr z)
        | .inr _ =>
          some (.inl ())) fun z0 => match z0 with
      | .inl _ =>
        some true
      | .inr z =>
        some z
set_option maxHeartbeats 4000000 in
set_option maxRecDepth 100000 in
theorem c_raddleref02_Same (E : Nat → Prop) (w0 : World) (p0 : (List Int)) (v0 : Value) (p1 : (List Int)) (v1 : Value) (r : Bool) (h : F_raddleref02_Same p0 p1 = some r) (S : St0 E [] w0 w0 [] [fRep (rL (rI .i64)) (v0) p0, fRep (rL (rI .i64)) (v1) p1]) :
    Calls Try.prog 24 #[v0, v1] w0 (Ret (X := Unit) E [] w0 (fun _ => .bool r) (fun _ => []) (fun _ => [])) := by
  unfold F_raddleref02_Same at h
  obtain ⟨ad1, cp2, _, rfl, _⟩ := S.know (i := 0) (e := fRep (rL (rI .i64)) (v0) p0) rfl
  obtain ⟨ad3, cp4, _, rfl, _⟩ := S.know (i := 1) (e := fRep (rL (rI .i64)) (v1) p1) rfl
  refine sEnter (args := [.slice ad1 p0.length cp2, .slice ad3 p1.length cp4]) 26 Try.func24 rfl rfl (by simp) S (fun a S => ?_)
  refine sSeq (fun K5 hK5 => ?_)
  refine sRegion ?_
  refine sMove (.bool false) S (wN rfl) (.inr rfl) rfl rfl (lb rfl) fun a S => ?_
  refine leafL (leafT (hK5 _ _ ?_))
  refine sSeq (fun K6 hK6 => ?_)
  refine sSeq (fun K7 hK7 => ?_)
  refine sRegion ?_
  refine sMove (.slice ad1 p0.length cp2) S (wN rfl) (.inl rfl) rfl rfl (lb rfl) fun a S => ?_
  refine sLen (ad := ad1) (m := p0.length) (c := cp2) S (wN rfl) rfl Try.underlying35 rfl rfl (lb rfl) fun a S => ?_
  refine sMove (.slice ad3 p1.length cp4) S (wN rfl) (.inl rfl) rfl rfl (lb rfl) fun a S => ?_
  refine sLen (ad := ad3) (m := p1.length) (c := cp4) S (wN rfl) rfl Try.underlying35 rfl rfl (lb rfl) fun a S => ?_
  refine sBin (.bool ((p0.length : Int) != (p1.length : Int))) S (wN rfl) rfl rfl rfl (bNe _ _ _ _ .i64 (p0.length : Int) (p1.length : Int)) rfl (lb rfl) fun a S => ?_
  refine leafL (leafT (hK7 _ _ ?_))
  rcases iteSome h with ⟨hc8, h⟩ | ⟨hc8, h⟩
  · refine sCondT S rfl hc8 ?_
    refine sSeq (fun K9 hK9 => ?_)
    refine sRegion ?_
    refine sMove (.bool false) S (wN rfl) (.inr rfl) rfl rfl (lb rfl) fun a S => ?_
    refine leafL (leafT (hK9 _ _ ?_))
    obtain rfl := Option.some.inj h
    exact wp_ret (rThen (sRet (.bool false) S (rsl1 rfl (rvT (t := 4) (v := .bool false) S rfl)) ⟨(), rfl, S.mem.sel [] [] (by decide) rfl rfl⟩))
  refine sCondF S rfl hc8 ?_
  refine wp_skip (leafT (hK6 _ _ ?_))
  obtain ⟨t10, h, g11⟩ := bindSome h
  refine sCut (fun a w => .inl () = t10 ∧ St [] E [] w0 26 a w [] [] []) ?_ (fun a w hI => ?_)
  rotate_left
  · obtain ⟨rfl, S⟩ := hI
    have h := g11
    clear g11
    try dsimp only at h
    refine sSeq (fun K40 hK40 => ?_)
    refine sRegion ?_
    refine sMove (.bool true) S (wN rfl) (.inr rfl) rfl rfl (lb rfl) fun a S => ?_
    refine leafL (leafT (hK40 _ _ ?_))
    obtain rfl := Option.some.inj h
    exact wp_ret (sRet (.bool true) S (rsl1 rfl (rvT (t := 4) (v := .bool true) S rfl)) ⟨(), rfl, S.mem.sel [] [] (by decide) rfl rfl⟩)
  refine sSeq (fun K12 hK12 => ?_)
  refine sRegion ?_
  refine sMove (iv 0) S (wN rfl) (.inr rfl) rfl rfl (lb rfl) fun a S => ?_
  refine leafL (leafT (hK12 _ _ ?_))
  refine wp_block ?_
  obtain ⟨t16, hl, g15⟩ := bindSome h
  refine sLoop hl (fun s0 a w => match s0 with | s13 => St [] E [] w0 26 a w [(0, .slice ad1 p0.length cp2), (1, .slice ad3 p1.length cp4), (5, iv s13)] [] [fRep (rL (rI .i64)) (.slice ad1 p0.length cp2) p0, fRep (rL (rI .i64)) (.slice ad3 p1.length cp4) p1]) (S.fix [] [0, 1] (by decide) rfl rfl rfl) ?_
  clear hl h
  intro s13 a w c0 hI h hu14
  unfold raddleref02_Same_l1 at h
  dsimp only at h hI
  have S := hI
  refine sSeq (fun K17 hK17 => ?_)
  refine sSeq (fun K18 hK18 => ?_)
  refine sRegion ?_
  refine sMove (iv s13) S (wN rfl) (.inl rfl) rfl rfl (lb rfl) fun a S => ?_
  refine sMove (.slice ad1 p0.length cp2) S (wN rfl) (.inl rfl) rfl rfl (lb rfl) fun a S => ?_
  refine sLen (ad := ad1) (m := p0.length) (c := cp2) S (wN rfl) rfl Try.underlying35 rfl rfl (lb rfl) fun a S => ?_
  refine sBin (.bool (decide (s13 < (p0.length : Int)))) S (wN rfl) rfl rfl rfl (bLt _ _ _ _ .i64 s13 (p0.length : Int)) rfl (lb rfl) fun a S => ?_
  refine leafL (leafT (hK18 _ _ ?_))
  rcases iteSome h with ⟨hc19, h⟩ | ⟨hc19, h⟩
  rotate_left
  · refine sCondF S rfl hc19 ?_
    obtain rfl := Option.some.inj h
    obtain rfl := hu14 _ rfl
    have h := g15
    clear g15
    try dsimp only at h
    exact wp_exit (xThen (xThen (xHit (leafT (⟨Option.some.inj h, S.fix [] [] (by decide) rfl rfl rfl⟩)))))
  refine sCondT S rfl hc19 ?_
  refine wp_skip (leafT (hK17 _ _ ?_))
  refine sSeq (fun K20 hK20 => ?_)
  refine wp_block ?_
  refine sSeq (fun K21 hK21 => ?_)
  obtain ⟨x22, hx23, h⟩ := bindSome h
  obtain ⟨x27, hx28, h⟩ := bindSome h
  obtain ⟨q32, hq33, S⟩ := pIdx (P := Try.prog) (r := (rI .i64)) (v := .slice ad1 p0.length cp2) (xs := p0) (j := s13) 35 3 0 S Try.underlying35 rfl rfl hx23
  obtain ⟨u34, S⟩ := pLoad (r := (rI .i64)) (q := q32) (x := x22) 0 S rfl
  obtain rfl : u34 = iv x22 := S.mem.know (i := 1) (e := fRep (rI .i64) (u34) x22) rfl
  obtain ⟨q35, hq36, S⟩ := pIdx (P := Try.prog) (r := (rI .i64)) (v := .slice ad3 p1.length cp4) (xs := p1) (j := s13) 35 3 4 S Try.underlying35 rfl rfl hx28
  obtain ⟨u37, S⟩ := pLoad (r := (rI .i64)) (q := q35) (x := x27) 0 S rfl
  obtain rfl : u37 = iv x27 := S.mem.know (i := 1) (e := fRep (rI .i64) (u37) x27) rfl
  refine sDraw (nf := []) (W := [(0, 17, .slice ad1 p0.length cp2), (1, 18, iv s13), (2, 19, q32), (3, 20, iv x22), (4, 21, .slice ad3 p1.length cp4), (5, 22, iv s13), (6, 23, q35), (7, 24, iv x27), (8, 25, .bool (x22 != x27))]) rfl S ?_
  refine node_by (A := anc_raddleref02_Same_0) (nf := []) (Y := []) (W := [(0, 17, .slice ad1 p0.length cp2), (1, 18, iv s13), (2, 19, q32), (3, 20, iv x22), (4, 21, .slice ad3 p1.length cp4), (5, 22, iv s13), (6, 23, q35), (7, 24, iv x27), (8, 25, .bool (x22 != x27))]) 9 (by kernel_rfl) (by kernel_rfl) (by kernel_rfl) (by kernel_rfl) (by kernel_rfl) [0, 1, 2, 3, 4, 5, 6, 7, 8] (by kernel_rfl) (by decide) (by decide) (aF 0 8 (by decide) ?_ (aF 1 7 (by decide) ?_ (aF 2 6 (by decide) ?_ (aF 3 5 (by decide) ?_ (aF 4 4 (by decide) ?_ (aF 5 3 (by decide) ?_ (aF 6 2 (by decide) ?_ (aF 7 1 (by decide) ?_ (aF 8 0 (by decide) ?_ (trivial)))))))))) [(0, .slice ad1 p0.length cp2), (1, .slice ad3 p1.length cp4), (5, iv s13), (25, .bool (x22 != x27))] (fin_of [none, none, none, some 8] rfl (by kernel_rfl) (by kernel_rfl)) (fun _ a w S => ?_)
  · refine fI 17 (.slice ad1 p0.length cp2) [(0, .slice ad1 p0.length cp2)] 0 [none] rfl rfl rfl rfl rfl rfl fun G a w S => ?_
    refine sMove (.slice ad1 p0.length cp2) S (wN rfl) (.inl rfl) rfl rfl (lb rfl) fun a S => ?_
    exact leafL ⟨rfl, S⟩
  · refine fI 18 (iv s13) [(5, iv s13)] 1 [none] rfl rfl rfl rfl rfl rfl fun G a w S => ?_
    refine sMove (iv s13) S (wN rfl) (.inl rfl) rfl rfl (lb rfl) fun a S => ?_
    exact leafL ⟨rfl, S⟩
  · refine fI 19 q32 [(17, .slice ad1 p0.length cp2), (18, iv s13)] 2 [some 0, some 1] rfl rfl rfl rfl rfl rfl fun G a w S => ?_
    refine sIdxV (v := .slice ad1 p0.length cp2) (k := .i64) (j := s13) S (wN rfl) rfl rfl rfl hq33 rfl (lb rfl) fun a S => ?_
    exact leafL ⟨rfl, S⟩
  · refine fI 20 (iv x22) [(19, q32)] 3 [some 2] rfl rfl rfl rfl rfl rfl fun G a w S => ?_
    refine sLoadV1 (vq := q32) 3 (iv x22) S (wN rfl) rfl rfl rfl rfl rfl (lb rfl) fun a S => ?_
    exact leafL ⟨rfl, S⟩
  · refine fI 21 (.slice ad3 p1.length cp4) [(1, .slice ad3 p1.length cp4)] 4 [none] rfl rfl rfl rfl rfl rfl fun G a w S => ?_
    refine sMove (.slice ad3 p1.length cp4) S (wN rfl) (.inl rfl) rfl rfl (lb rfl) fun a S => ?_
    exact leafL ⟨rfl, S⟩
  · refine fI 22 (iv s13) [(5, iv s13)] 5 [none] rfl rfl rfl rfl rfl rfl fun G a w S => ?_
    refine sMove (iv s13) S (wN rfl) (.inl rfl) rfl rfl (lb rfl) fun a S => ?_
    exact leafL ⟨rfl, S⟩
  · refine fI 23 q35 [(21, .slice ad3 p1.length cp4), (22, iv s13)] 6 [some 4, some 5] rfl rfl rfl rfl rfl rfl fun G a w S => ?_
    refine sIdxV (v := .slice ad3 p1.length cp4) (k := .i64) (j := s13) S (wN rfl) rfl rfl rfl hq36 rfl (lb rfl) fun a S => ?_
    exact leafL ⟨rfl, S⟩
  · refine fI 24 (iv x27) [(23, q35)] 7 [some 6] rfl rfl rfl rfl rfl rfl fun G a w S => ?_
    refine sLoadV1 (vq := q35) 0 (iv x27) S (wN rfl) rfl rfl rfl rfl rfl (lb rfl) fun a S => ?_
    exact leafL ⟨rfl, S⟩
  · refine fI 25 (.bool (x22 != x27)) [(20, iv x22), (24, iv x27)] 8 [some 3, some 7] rfl rfl rfl rfl rfl rfl fun G a w S => ?_
    refine sBin (.bool (x22 != x27)) S (wN rfl) rfl rfl rfl (bNe _ _ _ _ .i64 x22 x27) rfl (lb rfl) fun a S => ?_
    exact leafL ⟨rfl, S⟩
  refine leafT (hK21 _ _ ?_)
  rcases iteSome h with ⟨hc38, h⟩ | ⟨hc38, h⟩
  rotate_left
  · refine sCondF S rfl hc38 ?_
    refine wp_skip (leafB (leafT (hK20 _ _ ?_)))
    refine sRegion ?_
    refine sMove (iv s13) S (wN rfl) (.inl rfl) rfl rfl (lb rfl) fun a S => ?_
    refine sBin (iv (w64 (s13 + 1))) S (wN rfl) rfl rfl rfl (bAdd _ _ _ _ s13 1) rfl (lb rfl) fun a S => ?_
    refine sMove (iv (w64 (s13 + 1))) S (wN rfl) (.inr rfl) rfl rfl (lb rfl) fun a S => ?_
    exact leafL (leafT (⟨w64 (s13 + 1), (Option.some.inj h).symm, (S.fix [] [6, 7] (by decide) rfl rfl rfl)⟩))
  refine sCondT S rfl hc38 ?_
  refine sSeq (fun K39 hK39 => ?_)
  refine sRegion ?_
  refine sMove (.bool false) S (wN rfl) (.inr rfl) rfl rfl (lb rfl) fun a S => ?_
  refine leafL (leafT (hK39 _ _ ?_))
  obtain rfl := Option.some.inj h
  obtain rfl := hu14 _ rfl
  have h := g15
  clear g15
  try dsimp only at h
  obtain rfl := Option.some.inj h
  have h := g11
  clear g11
  try dsimp only at h
  obtain rfl := Option.some.inj h
  exact wp_ret (rBlock (rThen (rThen (rBlock (rThen (sRet (.bool false) S (rsl1 rfl (rvT (t := 4) (v := .bool false) S rfl)) ⟨(), rfl, S.mem.sel [] [] (by decide) rfl rfl⟩))))))

end Go.Proofs.Ythfifeabomdlpaa
namespace Go.Proofs.Ythfifeabomdlpaa
open Go.RowKit
set_option linter.unusedVariables false

noncomputable def thread_check_l1 (x17 : (List Int)) : Int → Option (Int ⊕ (Int ⊕ Unit)) := fun s0 => match s0 with
  | s29 =>
    if decide (s29 < (x17.length : Int)) then
      Option.bind (idxO x17 s29) fun x38 =>
      Option.bind (α := Bool) (
        if decide (x38 < 0) then
          some true
        else
          some (decide (400 ≤ x38))) fun o43 =>
      if o43 then
        some (.inr (.inl 8))
      else
        some (.inl (w64 (s29 + 1)))
    else
      some (.inr (.inr ()))
noncomputable def thread_check_l2 (p0 : (List (List Int))) : Int → Option (Int ⊕ (Int ⊕ Unit)) := fun s0 => match s0 with
  | s7 =>
    if decide (s7 < (p0.length : Int)) then
      Option.bind (α := Unit ⊕ Int) (
        Option.bind (idxO p0 s7) fun x17 =>
        if decide (400 < (x17.length : Int)) then
          some (.inr 4)
        else
          Option.bind (whileO (thread_check_l1 x17) 0) fun z0 => match z0 with
            | .inl z =>
              some (.inr z)
            | .inr _ =>
              some (.inl ())) fun z0 => match z0 with
        | .inl _ =>
          some (.inl (w64 (s7 + 1)))
        | .inr z =>
          some (.inr (.inl z))
    else
      some (.inr (.inr ()))
noncomputable def F_thread_check (p0 : (List (List Int))) : Option Int :=
  Option.bind (α := Unit ⊕ Int) (
    Option.bind (whileO (thread_check_l2 p0) 0) fun z0 => match z0 with
      | .inl z =>
        some (.inr z)
      | .inr _ =>
        some (.inl ())) fun z0 => match z0 with
    | .inl _ =>
      some 0
    | .inr z =>
      some z
set_option maxHeartbeats 4000000 in
set_option maxRecDepth 100000 in
theorem c_thread_check (E : Nat → Prop) (w0 : World) (p0 : (List (List Int))) (v0 : Value) (r : Int) (h : F_thread_check p0 = some r) (S : St0 E [] w0 w0 [] [fRep (rL (rL (rI .i64))) (v0) p0]) :
    Calls Try.prog 73 #[v0] w0 (Ret (X := Unit) E [] w0 (fun _ => .int .i64 r) (fun _ => []) (fun _ => [])) := by
  unfold F_thread_check at h
  obtain ⟨ad1, cp2, _, rfl, _⟩ := S.know (i := 0) (e := fRep (rL (rL (rI .i64))) (v0) p0) rfl
  refine sEnter (args := [.slice ad1 p0.length cp2]) 30 Try.func73 rfl rfl (by simp) S (fun a S => ?_)
  refine sSeq (fun K3 hK3 => ?_)
  refine sRegion ?_
  refine sMove (iv 0) S (wN rfl) (.inr rfl) rfl rfl (lb rfl) fun a S => ?_
  refine leafL (leafT (hK3 _ _ ?_))
  obtain ⟨t4, h, g5⟩ := bindSome h
  refine sCut (fun a w => .inl () = t4 ∧ St [] E [] w0 30 a w [] [] []) ?_ (fun a w hI => ?_)
  rotate_left
  · obtain ⟨rfl, S⟩ := hI
    have h := g5
    clear g5
    try dsimp only at h
    refine sSeq (fun K49 hK49 => ?_)
    refine sRegion ?_
    refine sMove (iv 0) S (wN rfl) (.inr rfl) rfl rfl (lb rfl) fun a S => ?_
    refine leafL (leafT (hK49 _ _ ?_))
    obtain rfl := Option.some.inj h
    exact wp_ret (sRet (iv 0) S (rsl1 rfl (rvT (t := 2) (v := iv 0) S rfl)) ⟨(), rfl, S.mem.sel [] [] (by decide) rfl rfl⟩)
  refine sSeq (fun K6 hK6 => ?_)
  refine sRegion ?_
  refine sMove (.slice ad1 p0.length cp2) S (wN rfl) (.inl rfl) rfl rfl (lb rfl) fun a S => ?_
  refine sLen (ad := ad1) (m := p0.length) (c := cp2) S (wN rfl) rfl Try.underlying46 rfl rfl (lb rfl) fun a S => ?_
  refine sMove (iv 0) S (wN rfl) (.inl rfl) rfl rfl (lb rfl) fun a S => ?_
  refine leafL (leafT (hK6 _ _ ?_))
  refine wp_block ?_
  obtain ⟨t10, hl, g9⟩ := bindSome h
  refine sLoop hl (fun s0 a w => match s0 with | s7 => St [] E [] w0 30 a w [(7, .slice ad1 p0.length cp2), (8, iv (p0.length : Int)), (9, iv s7)] [] [fRep (rL (rL (rI .i64))) (.slice ad1 p0.length cp2) p0]) (S.fix [] [0] (by decide) rfl rfl rfl) ?_
  clear hl h
  intro s7 a w c0 hI h hu8
  unfold thread_check_l2 at h
  dsimp only at h hI
  have S := hI
  refine sSeq (fun K11 hK11 => ?_)
  refine sRegion ?_
  refine sBin (.bool (decide (s7 < (p0.length : Int)))) S (wN rfl) rfl rfl rfl (bLt _ _ _ _ .i64 s7 (p0.length : Int)) rfl (lb rfl) fun a S => ?_
  refine leafL (leafT (hK11 _ _ ?_))
  refine sSeq (fun K12 hK12 => ?_)
  rcases iteSome h with ⟨hc13, h⟩ | ⟨hc13, h⟩
  rotate_left
  · refine sCondF S rfl hc13 ?_
    obtain rfl := Option.some.inj h
    obtain rfl := hu8 _ rfl
    have h := g9
    clear g9
    try dsimp only at h
    exact wp_exit (xThen (xThen (xHit (leafT (⟨Option.some.inj h, S.fix [] [] (by decide) rfl rfl rfl⟩)))))
  refine sCondT S rfl hc13 ?_
  refine wp_skip (leafT (hK12 _ _ ?_))
  obtain ⟨t14, h, g15⟩ := bindSome h
  refine sCut (fun a w => .inl () = t14 ∧ St [] E [] w0 30 a w [(7, .slice ad1 p0.length cp2), (8, iv (p0.length : Int)), (9, iv s7)] [] [fRep (rL (rL (rI .i64))) (.slice ad1 p0.length cp2) p0]) ?_ (fun a w hI => ?_)
  rotate_left
  · obtain ⟨rfl, S⟩ := hI
    have h := g15
    clear g15
    try dsimp only at h
    refine sRegion ?_
    refine sBin (iv (w64 (s7 + 1))) S (wN rfl) rfl rfl rfl (bAdd _ _ _ _ s7 1) rfl (lb rfl) fun a S => ?_
    refine sMove (iv (w64 (s7 + 1))) S (wN rfl) (.inl rfl) rfl rfl (lb rfl) fun a S => ?_
    exact leafL (leafT (⟨w64 (s7 + 1), (Option.some.inj h).symm, (S.fix [] [0] (by decide) rfl rfl rfl)⟩))
  refine wp_block ?_
  refine sSeq (fun K16 hK16 => ?_)
  refine sRegion ?_
  obtain ⟨x17, hx18, h⟩ := bindSome h
  obtain ⟨q19, hq20, S⟩ := pIdx (P := Try.prog) (r := (rL (rI .i64))) (v := .slice ad1 p0.length cp2) (xs := p0) (j := s7) 46 35 0 S Try.underlying46 rfl rfl hx18
  refine sIdxV (v := .slice ad1 p0.length cp2) (k := .i64) (j := s7) S (wN rfl) rfl rfl rfl hq20 rfl (lb rfl) fun a S => ?_
  obtain ⟨u21, S⟩ := pLoad (r := (rL (rI .i64))) (q := q19) (x := x17) 0 S rfl
  obtain ⟨ad22, cp23, _, rfl, _⟩ := S.mem.know (i := 1) (e := fRep (rL (rI .i64)) (u21) x17) rfl
  refine sLoadV1 (vq := q19) 0 (.slice ad22 x17.length cp23) S (wN rfl) rfl rfl rfl rfl rfl (lb rfl) fun a S => ?_
  refine sMove (.slice ad22 x17.length cp23) S (wN rfl) (.inr rfl) rfl rfl (lb rfl) fun a S => ?_
  refine leafL (leafT (hK16 _ _ ?_))
  refine sSeq (fun K24 hK24 => ?_)
  refine sSeq (fun K25 hK25 => ?_)
  refine sRegion ?_
  refine sMove (.slice ad22 x17.length cp23) S (wN rfl) (.inl rfl) rfl rfl (lb rfl) fun a S => ?_
  refine sLen (ad := ad22) (m := x17.length) (c := cp23) S (wN rfl) rfl Try.underlying35 rfl rfl (lb rfl) fun a S => ?_
  refine sBin (.bool (decide (400 < (x17.length : Int)))) S (wN rfl) rfl rfl rfl (bGt _ _ _ _ .i64 (x17.length : Int) 400) rfl (lb rfl) fun a S => ?_
  refine leafL (leafT (hK25 _ _ ?_))
  rcases iteSome h with ⟨hc26, h⟩ | ⟨hc26, h⟩
  · refine sCondT S rfl hc26 ?_
    refine sSeq (fun K27 hK27 => ?_)
    refine sRegion ?_
    refine sMove (iv 4) S (wN rfl) (.inr rfl) rfl rfl (lb rfl) fun a S => ?_
    refine leafL (leafT (hK27 _ _ ?_))
    obtain rfl := Option.some.inj h
    have h := g15
    clear g15
    try dsimp only at h
    obtain rfl := Option.some.inj h
    obtain rfl := hu8 _ rfl
    have h := g9
    clear g9
    try dsimp only at h
    obtain rfl := Option.some.inj h
    have h := g5
    clear g5
    try dsimp only at h
    obtain rfl := Option.some.inj h
    exact wp_ret (rThen (rBlock (rThen (rThen (rBlock (rThen (sRet (iv 4) S (rsl1 rfl (rvT (t := 2) (v := iv 4) S rfl)) ⟨(), rfl, S.mem.sel [] [] (by decide) rfl rfl⟩)))))))
  refine sCondF S rfl hc26 ?_
  refine wp_skip (leafT (hK24 _ _ ?_))
  refine sSeq (fun K28 hK28 => ?_)
  refine sRegion ?_
  refine sMove (.slice ad22 x17.length cp23) S (wN rfl) (.inl rfl) rfl rfl (lb rfl) fun a S => ?_
  refine sLen (ad := ad22) (m := x17.length) (c := cp23) S (wN rfl) rfl Try.underlying35 rfl rfl (lb rfl) fun a S => ?_
  refine sMove (iv 0) S (wN rfl) (.inl rfl) rfl rfl (lb rfl) fun a S => ?_
  refine leafL (leafT (hK28 _ _ ?_))
  refine wp_block ?_
  obtain ⟨t32, hl, g31⟩ := bindSome h
  refine sLoop hl (fun s0 a w => match s0 with | s29 => St [] E [] w0 30 a w [(7, .slice ad1 p0.length cp2), (8, iv (p0.length : Int)), (9, iv s7), (16, .slice ad22 x17.length cp23), (17, iv (x17.length : Int)), (18, iv s29)] [] [fRep (rL (rL (rI .i64))) (.slice ad1 p0.length cp2) p0, fRep (rL (rI .i64)) (.slice ad22 x17.length cp23) x17]) (S.fix [] [3, 1] (by decide) rfl rfl rfl) ?_
  clear hl h
  intro s29 a w c0 hI h hu30
  unfold thread_check_l1 at h
  dsimp only at h hI
  have S := hI
  refine sSeq (fun K33 hK33 => ?_)
  refine sRegion ?_
  refine sBin (.bool (decide (s29 < (x17.length : Int)))) S (wN rfl) rfl rfl rfl (bLt _ _ _ _ .i64 s29 (x17.length : Int)) rfl (lb rfl) fun a S => ?_
  refine leafL (leafT (hK33 _ _ ?_))
  refine sSeq (fun K34 hK34 => ?_)
  rcases iteSome h with ⟨hc35, h⟩ | ⟨hc35, h⟩
  rotate_left
  · refine sCondF S rfl hc35 ?_
    obtain rfl := Option.some.inj h
    obtain rfl := hu30 _ rfl
    have h := g31
    clear g31
    try dsimp only at h
    exact wp_exit (xThen (xThen (xHit (leafB (leafT (⟨Option.some.inj h, S.fix [] [0] (by decide) rfl rfl rfl⟩))))))
  refine sCondT S rfl hc35 ?_
  refine wp_skip (leafT (hK34 _ _ ?_))
  refine sSeq (fun K36 hK36 => ?_)
  refine wp_block ?_
  refine sSeq (fun K37 hK37 => ?_)
  refine sRegion ?_
  obtain ⟨x38, hx39, h⟩ := bindSome h
  obtain ⟨q40, hq41, S⟩ := pIdx (P := Try.prog) (r := (rI .i64)) (v := .slice ad22 x17.length cp23) (xs := x17) (j := s29) 35 3 1 S Try.underlying35 rfl rfl hx39
  refine sIdxV (v := .slice ad22 x17.length cp23) (k := .i64) (j := s29) S (wN rfl) rfl rfl rfl hq41 rfl (lb rfl) fun a S => ?_
  obtain ⟨u42, S⟩ := pLoad (r := (rI .i64)) (q := q40) (x := x38) 0 S rfl
  obtain rfl : u42 = iv x38 := S.mem.know (i := 1) (e := fRep (rI .i64) (u42) x38) rfl
  refine sLoadV1 (vq := q40) 0 (iv x38) S (wN rfl) rfl rfl rfl rfl rfl (lb rfl) fun a S => ?_
  refine sMove (iv x38) S (wN rfl) (.inr rfl) rfl rfl (lb rfl) fun a S => ?_
  refine leafL (leafT (hK37 _ _ ?_))
  obtain ⟨t44, h, g45⟩ := bindSome h
  refine sCut (fun a w => ∃ o43, o43 = t44 ∧ St [] E [] w0 30 a w [(7, .slice ad1 p0.length cp2), (8, iv (p0.length : Int)), (9, iv s7), (16, .slice ad22 x17.length cp23), (17, iv (x17.length : Int)), (18, iv s29), (27, .bool o43)] [] [fRep (rL (rL (rI .i64))) (.slice ad1 p0.length cp2) p0, fRep (rL (rI .i64)) (.slice ad22 x17.length cp23) x17]) ?_ (fun a w hI => ?_)
  · refine sRegion ?_
    refine sMove (iv x38) S (wN rfl) (.inl rfl) rfl rfl (lb rfl) fun a S => ?_
    refine sBin (.bool (decide (x38 < 0))) S (wN rfl) rfl rfl rfl (bLt _ _ _ _ .i64 x38 0) rfl (lb rfl) fun a S => ?_
    refine sMove (.bool (decide (x38 < 0))) S (wN rfl) (.inl rfl) rfl rfl (lb rfl) fun a S => ?_
    rcases iteSome h with ⟨hc46, h⟩ | ⟨hc46, h⟩
    · refine sSkip 2 false 24 25 S rfl rfl rfl hc46 rfl (lb rfl) fun a S => ?_
      refine sSkip 2 false 24 26 S rfl rfl rfl hc46 rfl (lb rfl) fun a S => ?_
      refine sPickT (.bool true) S (wN rfl) rfl rfl hc46 rfl rfl (lb rfl) fun a S => ?_
      exact leafL (leafT (⟨true, Option.some.inj h, S.fix [] [3, 4] (by decide) rfl rfl rfl⟩))
    refine sMove (iv x38) S (wG 2 false 24 rfl rfl rfl hc46) (.inl rfl) rfl rfl (lb rfl) fun a S => ?_
    refine sBin (.bool (decide (400 ≤ x38))) S (wG 2 false 24 rfl rfl rfl hc46) rfl rfl rfl (bGe _ _ _ _ .i64 x38 400) rfl (lb rfl) fun a S => ?_
    refine sPickF (.bool (decide (400 ≤ x38))) S (wN rfl) rfl rfl hc46 rfl rfl (lb rfl) fun a S => ?_
    exact leafL (leafT (⟨decide (400 ≤ x38), Option.some.inj h, S.fix [] [3, 4] (by decide) rfl rfl rfl⟩))
  obtain ⟨o43, rfl, S⟩ := hI
  have h := g45
  clear g45
  try dsimp only at h
  rcases iteSome h with ⟨hc47, h⟩ | ⟨hc47, h⟩
  rotate_left
  · refine sCondF S rfl hc47 ?_
    refine wp_skip (leafB (leafT (hK36 _ _ ?_)))
    refine sRegion ?_
    refine sBin (iv (w64 (s29 + 1))) S (wN rfl) rfl rfl rfl (bAdd _ _ _ _ s29 1) rfl (lb rfl) fun a S => ?_
    refine sMove (iv (w64 (s29 + 1))) S (wN rfl) (.inl rfl) rfl rfl (lb rfl) fun a S => ?_
    exact leafL (leafT (⟨w64 (s29 + 1), (Option.some.inj h).symm, (S.fix [] [0, 1] (by decide) rfl rfl rfl)⟩))
  refine sCondT S rfl hc47 ?_
  refine sSeq (fun K48 hK48 => ?_)
  refine sRegion ?_
  refine sMove (iv 8) S (wN rfl) (.inr rfl) rfl rfl (lb rfl) fun a S => ?_
  refine leafL (leafT (hK48 _ _ ?_))
  obtain rfl := Option.some.inj h
  obtain rfl := hu30 _ rfl
  have h := g31
  clear g31
  try dsimp only at h
  obtain rfl := Option.some.inj h
  have h := g15
  clear g15
  try dsimp only at h
  obtain rfl := Option.some.inj h
  obtain rfl := hu8 _ rfl
  have h := g9
  clear g9
  try dsimp only at h
  obtain rfl := Option.some.inj h
  have h := g5
  clear g5
  try dsimp only at h
  obtain rfl := Option.some.inj h
  exact wp_ret (rBlock (rThen (rThen (rBlock (rBlock (rThen (rThen (rBlock (rThen (sRet (iv 8) S (rsl1 rfl (rvT (t := 2) (v := iv 8) S rfl)) ⟨(), rfl, S.mem.sel [] [] (by decide) rfl rfl⟩))))))))))

end Go.Proofs.Ythfifeabomdlpaa
namespace Go.Proofs.Ythfifeabomdlpaa
open Go.RowKit
set_option linter.unusedVariables false

noncomputable def F_thread_Check (p0 : (List Int)) : Option Int :=
  Option.bind (F_thread_check [p0]) fun r7 =>
  some r7
set_option maxHeartbeats 4000000 in
set_option maxRecDepth 100000 in
theorem c_thread_Check (E : Nat → Prop) (w0 : World) (p0 : (List Int)) (v0 : Value) (r : Int) (h : F_thread_Check p0 = some r) (S : St0 E [] w0 w0 [] [fRep (rL (rI .i64)) (v0) p0]) :
    Calls Try.prog 57 #[v0] w0 (Ret (X := Unit) E [] w0 (fun _ => .int .i64 r) (fun _ => []) (fun _ => [])) := by
  unfold F_thread_Check at h
  obtain ⟨ad1, cp2, _, rfl, _⟩ := S.know (i := 0) (e := fRep (rL (rI .i64)) (v0) p0) rfl
  refine sEnter (args := [.slice ad1 p0.length cp2]) 6 Try.func57 rfl rfl (by simp) S (fun a S => ?_)
  refine sSeq (fun K3 hK3 => ?_)
  refine sRegion ?_
  refine sMove (iv 0) S (wN rfl) (.inr rfl) rfl rfl (lb rfl) fun a S => ?_
  refine leafL (leafT (hK3 _ _ ?_))
  refine sSeq (fun K4 hK4 => ?_)
  refine sRegion ?_
  refine sMove (.slice ad1 p0.length cp2) S (wN rfl) (.inl rfl) rfl rfl (lb rfl) fun a S => ?_
  refine sLit (r := (rL (rI .i64))) (T := 35) (xs := [p0]) [(0, .slice ad1 p0.length cp2)] 1 [.slice ad1 p0.length cp2] [.slice ad1 p0.length cp2] (.slice none 0 0) 24 S (wN rfl) rfl rfl Try.underlying46 rfl (by decide) (by decide) (by kernel_rfl) rfl (fun E1 w1 hE => All.cons ((rL (rI .i64)).mono hE (S.mem.know (i := 0) (e := fRep (rL (rI .i64)) (.slice ad1 p0.length cp2) p0) rfl)) (All.nil _ _ _)) rfl rfl (lb rfl) fun a w ad5 cp6 S => ?_
  obtain ⟨r7, hx8, h⟩ := bindSome h
  have S1 := S.mem
  have S1 := S1.shutR (r := (rL (rI .i64))) (T := 35) (v := .slice ad5 [p0].length cp6) (xs := [p0]) 0 rfl
  refine sCallQ (X := Unit) (f := 73) (vs := [.slice ad5 [p0].length cp6]) (val := fun _ => iv r7) S (wN rfl) rfl callee73 rfl (S1.quiet [0] rfl) (fun E1 w1 S1 => c_thread_check E1 w1 [p0] (.slice ad5 [p0].length cp6) r7 hx8 S1) rfl (lb rfl) fun _ a w S => ?_
  refine sMove (iv r7) S (wN rfl) (.inr rfl) rfl rfl (lb rfl) fun a S => ?_
  refine leafL (leafT (hK4 _ _ ?_))
  obtain rfl := Option.some.inj h
  exact wp_ret (sRet (iv r7) S (rsl1 rfl (rvT (t := 2) (v := iv r7) S rfl)) ⟨(), rfl, S.mem.sel [] [] (by decide) rfl rfl⟩)

end Go.Proofs.Ythfifeabomdlpaa
namespace Go.Proofs.Ythfifeabomdlpaa
open Go.RowKit
set_option linter.unusedVariables false

noncomputable def F_block_spelled_1_s0 (p0 : (List Int)) (p1 : (List (List Int))) : Option Bool :=
  Option.bind (idxO p1 0) fun x8 =>
  some ((p0.length : Int) != (x8.length : Int))
set_option maxHeartbeats 4000000 in
set_option maxRecDepth 100000 in
theorem c_block_spelled_1_s0 (E : Nat → Prop) (w0 : World) (p0 : (List Int)) (v0 : Value) (p1 : (List (List Int))) (v1 : Value) (r : Bool) (h : F_block_spelled_1_s0 p0 p1 = some r) (S : St0 E [] w0 w0 [] [fRep (rL (rI .i64)) (v0) p0, fPtr (rL (rL (rI .i64))) (v1) p1]) :
    Calls Try.prog 75 #[v0, v1] w0 (Ret (X := Unit) E [] w0 (fun _ => .bool r) (fun _ => []) (fun _ => [])) := by
  unfold F_block_spelled_1_s0 at h
  obtain ⟨ad1, cp2, _, rfl, _⟩ := S.know (i := 0) (e := fRep (rL (rI .i64)) (v0) p0) rfl
  refine sEnter (args := [.slice ad1 p0.length cp2, v1]) 11 Try.func75 rfl rfl (by simp) S (fun a S => ?_)
  refine sSeq (fun K3 hK3 => ?_)
  refine sRegion ?_
  refine sMove (.bool false) S (wN rfl) (.inr rfl) rfl rfl (lb rfl) fun a S => ?_
  refine leafL (leafT (hK3 _ _ ?_))
  refine sSeq (fun K4 hK4 => ?_)
  refine sRegion ?_
  refine sMove (.slice ad1 p0.length cp2) S (wN rfl) (.inl rfl) rfl rfl (lb rfl) fun a S => ?_
  refine sLen (ad := ad1) (m := p0.length) (c := cp2) S (wN rfl) rfl Try.underlying35 rfl rfl (lb rfl) fun a S => ?_
  obtain ⟨u5, S⟩ := pLoad (r := (rL (rL (rI .i64)))) (q := v1) (x := p1) 1 S rfl
  obtain ⟨ad6, cp7, _, rfl, _⟩ := S.mem.know (i := 1) (e := fRep (rL (rL (rI .i64))) (u5) p1) rfl
  refine sLoadV1 (vq := v1) 0 (.slice ad6 p1.length cp7) S (wN rfl) rfl rfl rfl rfl rfl (lb rfl) fun a S => ?_
  obtain ⟨x8, hx9, h⟩ := bindSome h
  obtain ⟨q10, hq11, S⟩ := pIdx (P := Try.prog) (r := (rL (rI .i64))) (v := .slice ad6 p1.length cp7) (xs := p1) (j := 0) 46 35 1 S Try.underlying46 rfl rfl hx9
  refine sIdxV (v := .slice ad6 p1.length cp7) (k := .i64) (j := 0) S (wN rfl) rfl rfl rfl hq11 rfl (lb rfl) fun a S => ?_
  obtain ⟨u12, S⟩ := pLoad (r := (rL (rI .i64))) (q := q10) (x := x8) 0 S rfl
  obtain ⟨ad13, cp14, _, rfl, _⟩ := S.mem.know (i := 1) (e := fRep (rL (rI .i64)) (u12) x8) rfl
  refine sLoadV1 (vq := q10) 0 (.slice ad13 x8.length cp14) S (wN rfl) rfl rfl rfl rfl rfl (lb rfl) fun a S => ?_
  refine sLen (ad := ad13) (m := x8.length) (c := cp14) S (wN rfl) rfl Try.underlying35 rfl rfl (lb rfl) fun a S => ?_
  refine sBin (.bool ((p0.length : Int) != (x8.length : Int))) S (wN rfl) rfl rfl rfl (bNe _ _ _ _ .i64 (p0.length : Int) (x8.length : Int)) rfl (lb rfl) fun a S => ?_
  refine sMove (.bool ((p0.length : Int) != (x8.length : Int))) S (wN rfl) (.inr rfl) rfl rfl (lb rfl) fun a S => ?_
  refine leafL (leafT (hK4 _ _ ?_))
  obtain rfl := Option.some.inj h
  exact wp_ret (sRet (.bool ((p0.length : Int) != (x8.length : Int))) S (rsl1 rfl (rvT (t := 3) (v := .bool ((p0.length : Int) != (x8.length : Int))) S rfl)) ⟨(), rfl, S.mem.sel [] [] (by decide) rfl rfl⟩)

end Go.Proofs.Ythfifeabomdlpaa
namespace Go.Proofs.Ythfifeabomdlpaa
open Go.RowKit
set_option linter.unusedVariables false

noncomputable def slices_IndexFunc_____int___int__s0_l1 (p0 : (List (List Int))) (p1 : (List (List Int))) : Int → Option (Int ⊕ (Int ⊕ Unit)) := fun s0 => match s0 with
  | s7 =>
    if decide (s7 < (p0.length : Int)) then
      Option.bind (idxO p0 s7) fun x17 =>
      Option.bind (F_block_spelled_1_s0 x17 p1) fun r24 =>
      if r24 then
        some (.inr (.inl s7))
      else
        some (.inl (w64 (s7 + 1)))
    else
      some (.inr (.inr ()))
noncomputable def F_slices_IndexFunc_____int___int__s0 (p0 : (List (List Int))) (p1 : (List (List Int))) : Option Int :=
  Option.bind (α := Unit ⊕ Int) (
    Option.bind (whileO (slices_IndexFunc_____int___int__s0_l1 p0 p1) 0) fun z0 => match z0 with
      | .inl z =>
        some (.inr z)
      | .inr _ =>
        some (.inl ())) fun z0 => match z0 with
    | .inl _ =>
      some (-1)
    | .inr z =>
      some z
set_option maxHeartbeats 4000000 in
set_option maxRecDepth 100000 in
theorem c_slices_IndexFunc_____int___int__s0 (E : Nat → Prop) (w0 : World) (p0 : (List (List Int))) (v0 : Value) (p1 : (List (List Int))) (v1 : Value) (r : Int) (h : F_slices_IndexFunc_____int___int__s0 p0 p1 = some r) (S : St0 E [] w0 w0 [] [fRep (rL (rL (rI .i64))) (v0) p0, fPtr (rL (rL (rI .i64))) (v1) p1]) :
    Calls Try.prog 61 #[v0, .func (.func 75) #[] #[v1]] w0 (Ret (X := Unit) E [] w0 (fun _ => .int .i64 r) (fun _ => []) (fun _ => [])) := by
  unfold F_slices_IndexFunc_____int___int__s0 at h
  obtain ⟨ad1, cp2, _, rfl, _⟩ := S.know (i := 0) (e := fRep (rL (rL (rI .i64))) (v0) p0) rfl
  refine sEnter (args := [.slice ad1 p0.length cp2, .func (.func 75) #[] #[v1]]) 19 Try.func61 rfl rfl (by simp) S (fun a S => ?_)
  refine sSeq (fun K3 hK3 => ?_)
  refine sRegion ?_
  refine sMove (iv 0) S (wN rfl) (.inr rfl) rfl rfl (lb rfl) fun a S => ?_
  refine leafL (leafT (hK3 _ _ ?_))
  obtain ⟨t4, h, g5⟩ := bindSome h
  refine sCut (fun a w => .inl () = t4 ∧ St [] E [] w0 19 a w [] [] []) ?_ (fun a w hI => ?_)
  rotate_left
  · obtain ⟨rfl, S⟩ := hI
    have h := g5
    clear g5
    try dsimp only at h
    refine sSeq (fun K28 hK28 => ?_)
    refine sRegion ?_
    refine sMove (iv (-1)) S (wN rfl) (.inr rfl) rfl rfl (lb rfl) fun a S => ?_
    refine leafL (leafT (hK28 _ _ ?_))
    obtain rfl := Option.some.inj h
    exact wp_ret (sRet (iv (-1)) S (rsl1 rfl (rvT (t := 4) (v := iv (-1)) S rfl)) ⟨(), rfl, S.mem.sel [] [] (by decide) rfl rfl⟩)
  refine sSeq (fun K6 hK6 => ?_)
  refine sRegion ?_
  refine sMove (.slice ad1 p0.length cp2) S (wN rfl) (.inl rfl) rfl rfl (lb rfl) fun a S => ?_
  refine sLen (ad := ad1) (m := p0.length) (c := cp2) S (wN rfl) rfl Try.underlying46 rfl rfl (lb rfl) fun a S => ?_
  refine sMove (iv 0) S (wN rfl) (.inl rfl) rfl rfl (lb rfl) fun a S => ?_
  refine leafL (leafT (hK6 _ _ ?_))
  refine wp_block ?_
  obtain ⟨t10, hl, g9⟩ := bindSome h
  refine sLoop hl (fun s0 a w => match s0 with | s7 => St [] E [] w0 19 a w [(0, .slice ad1 p0.length cp2), (1, .func (.func 75) #[] #[v1]), (7, iv (p0.length : Int)), (8, iv s7)] [] [fPtr (rL (rL (rI .i64))) (v1) p1, fRep (rL (rL (rI .i64))) (.slice ad1 p0.length cp2) p0]) (S.fix [] [1, 0] (by decide) rfl rfl rfl) ?_
  clear hl h
  intro s7 a w c0 hI h hu8
  unfold slices_IndexFunc_____int___int__s0_l1 at h
  dsimp only at h hI
  have S := hI
  refine sSeq (fun K11 hK11 => ?_)
  refine sRegion ?_
  refine sBin (.bool (decide (s7 < (p0.length : Int)))) S (wN rfl) rfl rfl rfl (bLt _ _ _ _ .i64 s7 (p0.length : Int)) rfl (lb rfl) fun a S => ?_
  refine leafL (leafT (hK11 _ _ ?_))
  refine sSeq (fun K12 hK12 => ?_)
  rcases iteSome h with ⟨hc13, h⟩ | ⟨hc13, h⟩
  rotate_left
  · refine sCondF S rfl hc13 ?_
    obtain rfl := Option.some.inj h
    obtain rfl := hu8 _ rfl
    have h := g9
    clear g9
    try dsimp only at h
    exact wp_exit (xThen (xThen (xHit (leafT (⟨Option.some.inj h, S.fix [] [] (by decide) rfl rfl rfl⟩)))))
  refine sCondT S rfl hc13 ?_
  refine wp_skip (leafT (hK12 _ _ ?_))
  refine sSeq (fun K14 hK14 => ?_)
  refine wp_block ?_
  refine sSeq (fun K15 hK15 => ?_)
  refine sRegion ?_
  refine sMove (iv s7) S (wN rfl) (.inl rfl) rfl rfl (lb rfl) fun a S => ?_
  refine sMove (iv s7) S (wN rfl) (.inr rfl) rfl rfl (lb rfl) fun a S => ?_
  refine leafL (leafT (hK15 _ _ ?_))
  refine sSeq (fun K16 hK16 => ?_)
  refine sRegion ?_
  refine sMove (.func (.func 75) #[] #[v1]) S (wN rfl) (.inl rfl) rfl rfl (lb rfl) fun a S => ?_
  refine sMove (.slice ad1 p0.length cp2) S (wN rfl) (.inl rfl) rfl rfl (lb rfl) fun a S => ?_
  refine sMove (iv s7) S (wN rfl) (.inl rfl) rfl rfl (lb rfl) fun a S => ?_
  obtain ⟨x17, hx18, h⟩ := bindSome h
  obtain ⟨q19, hq20, S⟩ := pIdx (P := Try.prog) (r := (rL (rI .i64))) (v := .slice ad1 p0.length cp2) (xs := p0) (j := s7) 46 35 1 S Try.underlying46 rfl rfl hx18
  refine sIdxV (v := .slice ad1 p0.length cp2) (k := .i64) (j := s7) S (wN rfl) rfl rfl rfl hq20 rfl (lb rfl) fun a S => ?_
  obtain ⟨u21, S⟩ := pLoad (r := (rL (rI .i64))) (q := q19) (x := x17) 0 S rfl
  obtain ⟨ad22, cp23, _, rfl, _⟩ := S.mem.know (i := 1) (e := fRep (rL (rI .i64)) (u21) x17) rfl
  refine sLoadV1 (vq := q19) 0 (.slice ad22 x17.length cp23) S (wN rfl) rfl rfl rfl rfl rfl (lb rfl) fun a S => ?_
  obtain ⟨r24, hx25, h⟩ := bindSome h
  have S1 := S.mem
  refine sCallVQ (X := Unit) (g := 75) (vs := [.slice ad22 x17.length cp23]) (caps := [v1]) (val := fun _ => .bool r24) S (wN rfl) rfl rfl callee75 rfl (S1.quiet [1, 3] rfl) (fun E1 w1 S1 => c_block_spelled_1_s0 E1 w1 x17 (.slice ad22 x17.length cp23) p1 v1 r24 hx25 S1) rfl (lb rfl) fun _ a w S => ?_
  refine leafL (leafT (hK16 _ _ ?_))
  rcases iteSome h with ⟨hc26, h⟩ | ⟨hc26, h⟩
  rotate_left
  · refine sCondF S rfl hc26 ?_
    refine wp_skip (leafB (leafT (hK14 _ _ ?_)))
    refine sRegion ?_
    refine sBin (iv (w64 (s7 + 1))) S (wN rfl) rfl rfl rfl (bAdd _ _ _ _ s7 1) rfl (lb rfl) fun a S => ?_
    refine sMove (iv (w64 (s7 + 1))) S (wN rfl) (.inl rfl) rfl rfl (lb rfl) fun a S => ?_
    exact leafL (leafT (⟨w64 (s7 + 1), (Option.some.inj h).symm, (S.fix [] [3, 4] (by decide) rfl rfl rfl)⟩))
  refine sCondT S rfl hc26 ?_
  refine sSeq (fun K27 hK27 => ?_)
  refine sRegion ?_
  refine sMove (iv s7) S (wN rfl) (.inl rfl) rfl rfl (lb rfl) fun a S => ?_
  refine sMove (iv s7) S (wN rfl) (.inr rfl) rfl rfl (lb rfl) fun a S => ?_
  refine leafL (leafT (hK27 _ _ ?_))
  obtain rfl := Option.some.inj h
  obtain rfl := hu8 _ rfl
  have h := g9
  clear g9
  try dsimp only at h
  obtain rfl := Option.some.inj h
  have h := g5
  clear g5
  try dsimp only at h
  obtain rfl := Option.some.inj h
  exact wp_ret (rBlock (rThen (rThen (rBlock (rThen (sRet (iv s7) S (rsl1 rfl (rvT (t := 4) (v := iv s7) S rfl)) ⟨(), rfl, S.mem.sel [] [] (by decide) rfl rfl⟩))))))

end Go.Proofs.Ythfifeabomdlpaa
namespace Go.Proofs.Ythfifeabomdlpaa
open Go.RowKit
set_option linter.unusedVariables false

noncomputable def F_slices_ContainsFunc_____int___int__s0 (p0 : (List (List Int))) (p1 : (List (List Int))) : Option Bool :=
  Option.bind (F_slices_IndexFunc_____int___int__s0 p0 p1) fun r5 =>
  some (decide (0 ≤ r5))
set_option maxHeartbeats 4000000 in
set_option maxRecDepth 100000 in
theorem c_slices_ContainsFunc_____int___int__s0 (E : Nat → Prop) (w0 : World) (p0 : (List (List Int))) (v0 : Value) (p1 : (List (List Int))) (v1 : Value) (r : Bool) (h : F_slices_ContainsFunc_____int___int__s0 p0 p1 = some r) (S : St0 E [] w0 w0 [] [fRep (rL (rL (rI .i64))) (v0) p0, fPtr (rL (rL (rI .i64))) (v1) p1]) :
    Calls Try.prog 74 #[v0, .func (.func 75) #[] #[v1]] w0 (Ret (X := Unit) E [] w0 (fun _ => .bool r) (fun _ => []) (fun _ => [])) := by
  unfold F_slices_ContainsFunc_____int___int__s0 at h
  obtain ⟨ad1, cp2, _, rfl, _⟩ := S.know (i := 0) (e := fRep (rL (rL (rI .i64))) (v0) p0) rfl
  refine sEnter (args := [.slice ad1 p0.length cp2, .func (.func 75) #[] #[v1]]) 9 Try.func74 rfl rfl (by simp) S (fun a S => ?_)
  refine sSeq (fun K3 hK3 => ?_)
  refine sRegion ?_
  refine sMove (.bool false) S (wN rfl) (.inr rfl) rfl rfl (lb rfl) fun a S => ?_
  refine leafL (leafT (hK3 _ _ ?_))
  refine sSeq (fun K4 hK4 => ?_)
  refine sRegion ?_
  refine sMove (.slice ad1 p0.length cp2) S (wN rfl) (.inl rfl) rfl rfl (lb rfl) fun a S => ?_
  refine sMove (.func (.func 75) #[] #[v1]) S (wN rfl) (.inl rfl) rfl rfl (lb rfl) fun a S => ?_
  obtain ⟨r5, hx6, h⟩ := bindSome h
  have S1 := S.mem
  refine sCallQ (X := Unit) (f := 61) (vs := [.slice ad1 p0.length cp2, .func (.func 75) #[] #[v1]]) (val := fun _ => iv r5) S (wN rfl) rfl callee61 rfl (S1.quiet [0, 1] rfl) (fun E1 w1 S1 => c_slices_IndexFunc_____int___int__s0 E1 w1 p0 (.slice ad1 p0.length cp2) p1 v1 r5 hx6 S1) rfl (lb rfl) fun _ a w S => ?_
  refine sBin (.bool (decide (0 ≤ r5))) S (wN rfl) rfl rfl rfl (bGe _ _ _ _ .i64 r5 0) rfl (lb rfl) fun a S => ?_
  refine sMove (.bool (decide (0 ≤ r5))) S (wN rfl) (.inr rfl) rfl rfl (lb rfl) fun a S => ?_
  refine leafL (leafT (hK4 _ _ ?_))
  obtain rfl := Option.some.inj h
  exact wp_ret (sRet (.bool (decide (0 ≤ r5))) S (rsl1 rfl (rvT (t := 4) (v := .bool (decide (0 ≤ r5))) S rfl)) ⟨(), rfl, S.mem.sel [] [] (by decide) rfl rfl⟩)

end Go.Proofs.Ythfifeabomdlpaa
namespace Go.Proofs.Ythfifeabomdlpaa
open Go.RowKit
set_option linter.unusedVariables false

noncomputable def block_spelled_l1 (p0 : (List (List Int))) : Int → Option (Int ⊕ (Int ⊕ Unit)) := fun s0 => match s0 with
  | s15 =>
    if decide (s15 < (p0.length : Int)) then
      Option.bind (idxO p0 s15) fun x24 =>
      Option.bind (F_thread_Check x24) fun r32 =>
      if r32 != 0 then
        some (.inr (.inl r32))
      else
        some (.inl (w64 (s15 + 1)))
    else
      some (.inr (.inr ()))
noncomputable def F_block_spelled (p0 : (List (List Int))) : Option Int :=
  Option.bind (α := Bool) (
    if (p0.length : Int) == 0 then
      some true
    else
      some (decide (400 < (p0.length : Int)))) fun o6 =>
  if o6 then
    some 2
  else
    Option.bind (α := Unit ⊕ Int) (
      Option.bind (whileO (block_spelled_l1 p0) 0) fun z0 => match z0 with
        | .inl z =>
          some (.inr z)
        | .inr _ =>
          some (.inl ())) fun z0 => match z0 with
      | .inl _ =>
        Option.bind (α := Bool) (
          Option.bind (idxO p0 0) fun x41 =>
          if (x41.length : Int) == 0 then
            some true
          else
            Option.bind (F_slices_ContainsFunc_____int___int__s0 p0 p0) fun r49 =>
            some r49) fun o38 =>
        if o38 then
          some 26
        else
          some 0
      | .inr z =>
        some z
set_option maxHeartbeats 4000000 in
set_option maxRecDepth 100000 in
theorem c_block_spelled (E : Nat → Prop) (w0 : World) (p0 : (List (List Int))) (v0 : Value) (r : Int) (h : F_block_spelled p0 = some r) (S : St0 E [] w0 w0 [] [fRep (rL (rL (rI .i64))) (v0) p0]) :
    Calls Try.prog 58 #[v0] w0 (Ret (X := Unit) E [] w0 (fun _ => .int .i64 r) (fun _ => []) (fun _ => [])) := by
  unfold F_block_spelled at h
  obtain ⟨ad1, cp2, _, rfl, _⟩ := S.know (i := 0) (e := fRep (rL (rL (rI .i64))) (v0) p0) rfl
  refine sEnter (args := [.slice ad1 p0.length cp2]) 36 Try.func58 rfl rfl (by simp) S (fun a S => ?_)
  refine sSeq (fun K3 hK3 => ?_)
  refine sRegion ?_
  refine sBox (v := .slice ad1 p0.length cp2) S (wN rfl) rfl rfl [.slice ad1 p0.length cp2] rfl rfl (lb rfl) fun a b4 w S => ?_
  refine sMove (iv 0) S (wN rfl) (.inr rfl) rfl rfl (lb rfl) fun a S => ?_
  refine leafL (leafT (hK3 _ _ ?_))
  refine sSeq (fun K5 hK5 => ?_)
  obtain ⟨t7, h, g8⟩ := bindSome h
  refine sCut (fun a w => ∃ o6, o6 = t7 ∧ St [] E [] w0 36 a w [(1, .pointer (some ⟨b4, 0, none⟩)), (13, .bool o6)] [eBox b4 46 [.slice ad1 p0.length cp2]] [fRep (rL (rL (rI .i64))) (.slice ad1 p0.length cp2) p0]) ?_ (fun a w hI => ?_)
  · refine sRegion ?_
    refine sLoad1 (p := b4) (off := 0) (T := 46) (vs := [.slice ad1 p0.length cp2]) 0 (.slice ad1 p0.length cp2) S (wN rfl) rfl rfl rfl rfl rfl rfl (lb rfl) fun a S => ?_
    refine sLen (ad := ad1) (m := p0.length) (c := cp2) S (wN rfl) rfl Try.underlying46 rfl rfl (lb rfl) fun a S => ?_
    refine sBin (.bool ((p0.length : Int) == 0)) S (wN rfl) rfl rfl rfl (bEq _ _ _ _ .i64 (p0.length : Int) 0) rfl (lb rfl) fun a S => ?_
    refine sMove (.bool ((p0.length : Int) == 0)) S (wN rfl) (.inl rfl) rfl rfl (lb rfl) fun a S => ?_
    rcases iteSome h with ⟨hc9, h⟩ | ⟨hc9, h⟩
    · refine sSkip 3 false 9 10 S rfl rfl rfl hc9 rfl (lb rfl) fun a S => ?_
      refine sSkip 3 false 9 11 S rfl rfl rfl hc9 rfl (lb rfl) fun a S => ?_
      refine sSkip 3 false 9 12 S rfl rfl rfl hc9 rfl (lb rfl) fun a S => ?_
      refine sPickT (.bool true) S (wN rfl) rfl rfl hc9 rfl rfl (lb rfl) fun a S => ?_
      exact leafL (leafT (⟨true, Option.some.inj h, S.fix [0] [0] (by decide) rfl rfl rfl⟩))
    refine sLoad1 (p := b4) (off := 0) (T := 46) (vs := [.slice ad1 p0.length cp2]) 0 (.slice ad1 p0.length cp2) S (wG 3 false 9 rfl rfl rfl hc9) rfl rfl rfl rfl rfl rfl (lb rfl) fun a S => ?_
    refine sLen (ad := ad1) (m := p0.length) (c := cp2) S (wG 3 false 9 rfl rfl rfl hc9) rfl Try.underlying46 rfl rfl (lb rfl) fun a S => ?_
    refine sBin (.bool (decide (400 < (p0.length : Int)))) S (wG 3 false 9 rfl rfl rfl hc9) rfl rfl rfl (bGt _ _ _ _ .i64 (p0.length : Int) 400) rfl (lb rfl) fun a S => ?_
    refine sPickF (.bool (decide (400 < (p0.length : Int)))) S (wN rfl) rfl rfl hc9 rfl rfl (lb rfl) fun a S => ?_
    exact leafL (leafT (⟨decide (400 < (p0.length : Int)), Option.some.inj h, S.fix [0] [0] (by decide) rfl rfl rfl⟩))
  obtain ⟨o6, rfl, S⟩ := hI
  have h := g8
  clear g8
  try dsimp only at h
  rcases iteSome h with ⟨hc10, h⟩ | ⟨hc10, h⟩
  · refine sCondT S rfl hc10 ?_
    refine sSeq (fun K11 hK11 => ?_)
    refine sRegion ?_
    refine sMove (iv 2) S (wN rfl) (.inr rfl) rfl rfl (lb rfl) fun a S => ?_
    refine leafL (leafT (hK11 _ _ ?_))
    obtain rfl := Option.some.inj h
    exact wp_ret (rThen (sRet (iv 2) S (rsl1 rfl (rvT (t := 2) (v := iv 2) S rfl)) ⟨(), rfl, S.mem.sel [] [] (by decide) rfl rfl⟩))
  refine sCondF S rfl hc10 ?_
  refine wp_skip (leafT (hK5 _ _ ?_))
  obtain ⟨t12, h, g13⟩ := bindSome h
  refine sCut (fun a w => .inl () = t12 ∧ St [] E [] w0 36 a w [(1, .pointer (some ⟨b4, 0, none⟩))] [eBox b4 46 [.slice ad1 p0.length cp2]] [fRep (rL (rL (rI .i64))) (.slice ad1 p0.length cp2) p0]) ?_ (fun a w hI => ?_)
  rotate_left
  · obtain ⟨rfl, S⟩ := hI
    have h := g13
    clear g13
    try dsimp only at h
    refine sSeq (fun K37 hK37 => ?_)
    obtain ⟨t39, h, g40⟩ := bindSome h
    refine sCut (fun a w => ∃ o38, o38 = t39 ∧ St [] E [] w0 36 a w [(35, .bool o38)] [] []) ?_ (fun a w hI => ?_)
    rotate_left
    · obtain ⟨o38, rfl, S⟩ := hI
      have h := g40
      clear g40
      try dsimp only at h
      rcases iteSome h with ⟨hc51, h⟩ | ⟨hc51, h⟩
      · refine sCondT S rfl hc51 ?_
        refine sSeq (fun K52 hK52 => ?_)
        refine sRegion ?_
        refine sMove (iv 26) S (wN rfl) (.inr rfl) rfl rfl (lb rfl) fun a S => ?_
        refine leafL (leafT (hK52 _ _ ?_))
        obtain rfl := Option.some.inj h
        exact wp_ret (rThen (sRet (iv 26) S (rsl1 rfl (rvT (t := 2) (v := iv 26) S rfl)) ⟨(), rfl, S.mem.sel [] [] (by decide) rfl rfl⟩))
      refine sCondF S rfl hc51 ?_
      refine wp_skip (leafT (hK37 _ _ ?_))
      refine sSeq (fun K53 hK53 => ?_)
      refine sRegion ?_
      refine sMove (iv 0) S (wN rfl) (.inr rfl) rfl rfl (lb rfl) fun a S => ?_
      refine leafL (leafT (hK53 _ _ ?_))
      obtain rfl := Option.some.inj h
      exact wp_ret (sRet (iv 0) S (rsl1 rfl (rvT (t := 2) (v := iv 0) S rfl)) ⟨(), rfl, S.mem.sel [] [] (by decide) rfl rfl⟩)
    refine sRegion ?_
    refine sLoad1 (p := b4) (off := 0) (T := 46) (vs := [.slice ad1 p0.length cp2]) 0 (.slice ad1 p0.length cp2) S (wN rfl) rfl rfl rfl rfl rfl rfl (lb rfl) fun a S => ?_
    obtain ⟨x41, hx42, h⟩ := bindSome h
    obtain ⟨q43, hq44, S⟩ := pIdx (P := Try.prog) (r := (rL (rI .i64))) (v := .slice ad1 p0.length cp2) (xs := p0) (j := 0) 46 35 0 S Try.underlying46 rfl rfl hx42
    refine sIdxV (v := .slice ad1 p0.length cp2) (k := .i64) (j := 0) S (wN rfl) rfl rfl rfl hq44 rfl (lb rfl) fun a S => ?_
    obtain ⟨u45, S⟩ := pLoad (r := (rL (rI .i64))) (q := q43) (x := x41) 0 S rfl
    obtain ⟨ad46, cp47, _, rfl, _⟩ := S.mem.know (i := 1) (e := fRep (rL (rI .i64)) (u45) x41) rfl
    refine sLoadV1 (vq := q43) 0 (.slice ad46 x41.length cp47) S (wN rfl) rfl rfl rfl rfl rfl (lb rfl) fun a S => ?_
    refine sLen (ad := ad46) (m := x41.length) (c := cp47) S (wN rfl) rfl Try.underlying35 rfl rfl (lb rfl) fun a S => ?_
    refine sBin (.bool ((x41.length : Int) == 0)) S (wN rfl) rfl rfl rfl (bEq _ _ _ _ .i64 (x41.length : Int) 0) rfl (lb rfl) fun a S => ?_
    refine sMove (.bool ((x41.length : Int) == 0)) S (wN rfl) (.inl rfl) rfl rfl (lb rfl) fun a S => ?_
    rcases iteSome h with ⟨hc48, h⟩ | ⟨hc48, h⟩
    · refine sSkip 5 false 31 32 S rfl rfl rfl hc48 rfl (lb rfl) fun a S => ?_
      refine sSkip 5 false 31 33 S rfl rfl rfl hc48 rfl (lb rfl) fun a S => ?_
      refine sSkip 5 false 31 34 S rfl rfl rfl hc48 rfl (lb rfl) fun a S => ?_
      refine sPickT (.bool true) S (wN rfl) rfl rfl hc48 rfl rfl (lb rfl) fun a S => ?_
      exact leafL (leafT (⟨true, Option.some.inj h, S.fix [] [] (by decide) rfl rfl rfl⟩))
    refine sLoad1 (p := b4) (off := 0) (T := 46) (vs := [.slice ad1 p0.length cp2]) 0 (.slice ad1 p0.length cp2) S (wG 5 false 31 rfl rfl rfl hc48) rfl rfl rfl rfl rfl rfl (lb rfl) fun a S => ?_
    refine sFunc (g := 75) (vs := [.pointer (some ⟨b4, 0, none⟩)]) S (wG 5 false 31 rfl rfl rfl hc48) rfl rfl rfl (lb rfl) fun a S => ?_
    obtain ⟨r49, hx50, h⟩ := bindSome h
    have S1 := S.mem
    have S1 := S1.shutB (r := (rL (rL (rI .i64)))) (T := 46) (b := b4) (cs := [.slice ad1 p0.length cp2]) 0 (.slice ad1 p0.length cp2) p0 rfl rfl (S1.know (i := 3) (e := fRep (rL (rL (rI .i64))) (.slice ad1 p0.length cp2) p0) rfl)
    refine sCallQ (X := Unit) (f := 74) (vs := [.slice ad1 p0.length cp2, .func (.func 75) #[] #[.pointer (some ⟨b4, 0, none⟩)]]) (val := fun _ => .bool r49) S (wG 5 false 31 rfl rfl rfl hc48) rfl callee74 rfl (S1.quiet [4, 0] rfl) (fun E1 w1 S1 => c_slices_ContainsFunc_____int___int__s0 E1 w1 p0 (.slice ad1 p0.length cp2) p0 (.pointer (some ⟨b4, 0, none⟩)) r49 hx50 S1) rfl (lb rfl) fun _ a w S => ?_
    refine sPickF (.bool r49) S (wN rfl) rfl rfl hc48 rfl rfl (lb rfl) fun a S => ?_
    exact leafL (leafT (⟨r49, Option.some.inj h, S.fix [] [] (by decide) rfl rfl rfl⟩))
  refine sSeq (fun K14 hK14 => ?_)
  refine sRegion ?_
  refine sLoad1 (p := b4) (off := 0) (T := 46) (vs := [.slice ad1 p0.length cp2]) 0 (.slice ad1 p0.length cp2) S (wN rfl) rfl rfl rfl rfl rfl rfl (lb rfl) fun a S => ?_
  refine sLen (ad := ad1) (m := p0.length) (c := cp2) S (wN rfl) rfl Try.underlying46 rfl rfl (lb rfl) fun a S => ?_
  refine sMove (iv 0) S (wN rfl) (.inl rfl) rfl rfl (lb rfl) fun a S => ?_
  refine leafL (leafT (hK14 _ _ ?_))
  refine wp_block ?_
  obtain ⟨t18, hl, g17⟩ := bindSome h
  refine sLoop hl (fun s0 a w => match s0 with | s15 => St [] E [] w0 36 a w [(1, .pointer (some ⟨b4, 0, none⟩)), (14, .slice ad1 p0.length cp2), (15, iv (p0.length : Int)), (16, iv s15)] [eBox b4 46 [.slice ad1 p0.length cp2]] [fRep (rL (rL (rI .i64))) (.slice ad1 p0.length cp2) p0]) (S.fix [0] [0] (by decide) rfl rfl rfl) ?_
  clear hl h
  intro s15 a w c0 hI h hu16
  unfold block_spelled_l1 at h
  dsimp only at h hI
  have S := hI
  refine sSeq (fun K19 hK19 => ?_)
  refine sRegion ?_
  refine sBin (.bool (decide (s15 < (p0.length : Int)))) S (wN rfl) rfl rfl rfl (bLt _ _ _ _ .i64 s15 (p0.length : Int)) rfl (lb rfl) fun a S => ?_
  refine leafL (leafT (hK19 _ _ ?_))
  refine sSeq (fun K20 hK20 => ?_)
  rcases iteSome h with ⟨hc21, h⟩ | ⟨hc21, h⟩
  rotate_left
  · refine sCondF S rfl hc21 ?_
    obtain rfl := Option.some.inj h
    obtain rfl := hu16 _ rfl
    have h := g17
    clear g17
    try dsimp only at h
    exact wp_exit (xThen (xThen (xHit (leafT (⟨Option.some.inj h, S.fix [0] [0] (by decide) rfl rfl rfl⟩)))))
  refine sCondT S rfl hc21 ?_
  refine wp_skip (leafT (hK20 _ _ ?_))
  refine sSeq (fun K22 hK22 => ?_)
  refine wp_block ?_
  refine sSeq (fun K23 hK23 => ?_)
  refine sRegion ?_
  obtain ⟨x24, hx25, h⟩ := bindSome h
  obtain ⟨q26, hq27, S⟩ := pIdx (P := Try.prog) (r := (rL (rI .i64))) (v := .slice ad1 p0.length cp2) (xs := p0) (j := s15) 46 35 0 S Try.underlying46 rfl rfl hx25
  refine sIdxV (v := .slice ad1 p0.length cp2) (k := .i64) (j := s15) S (wN rfl) rfl rfl rfl hq27 rfl (lb rfl) fun a S => ?_
  obtain ⟨u28, S⟩ := pLoad (r := (rL (rI .i64))) (q := q26) (x := x24) 0 S rfl
  obtain ⟨ad29, cp30, _, rfl, _⟩ := S.mem.know (i := 1) (e := fRep (rL (rI .i64)) (u28) x24) rfl
  refine sLoadV1 (vq := q26) 0 (.slice ad29 x24.length cp30) S (wN rfl) rfl rfl rfl rfl rfl (lb rfl) fun a S => ?_
  refine sMove (.slice ad29 x24.length cp30) S (wN rfl) (.inr rfl) rfl rfl (lb rfl) fun a S => ?_
  refine leafL (leafT (hK23 _ _ ?_))
  refine sSeq (fun K31 hK31 => ?_)
  refine sRegion ?_
  refine sMove (.slice ad29 x24.length cp30) S (wN rfl) (.inl rfl) rfl rfl (lb rfl) fun a S => ?_
  obtain ⟨r32, hx33, h⟩ := bindSome h
  have S1 := S.mem
  refine sCallQ (X := Unit) (f := 57) (vs := [.slice ad29 x24.length cp30]) (val := fun _ => iv r32) S (wN rfl) rfl callee57 rfl (S1.quiet [1] rfl) (fun E1 w1 S1 => c_thread_Check E1 w1 x24 (.slice ad29 x24.length cp30) r32 hx33 S1) rfl (lb rfl) fun _ a w S => ?_
  refine sMove (iv r32) S (wN rfl) (.inr rfl) rfl rfl (lb rfl) fun a S => ?_
  refine leafL (leafT (hK31 _ _ ?_))
  refine sSeq (fun K34 hK34 => ?_)
  refine sRegion ?_
  refine sMove (iv r32) S (wN rfl) (.inl rfl) rfl rfl (lb rfl) fun a S => ?_
  refine sBin (.bool (r32 != 0)) S (wN rfl) rfl rfl rfl (bNe _ _ _ _ .i64 r32 0) rfl (lb rfl) fun a S => ?_
  refine leafL (leafT (hK34 _ _ ?_))
  rcases iteSome h with ⟨hc35, h⟩ | ⟨hc35, h⟩
  rotate_left
  · refine sCondF S rfl hc35 ?_
    refine wp_skip (leafB (leafT (hK22 _ _ ?_)))
    refine sRegion ?_
    refine sBin (iv (w64 (s15 + 1))) S (wN rfl) rfl rfl rfl (bAdd _ _ _ _ s15 1) rfl (lb rfl) fun a S => ?_
    refine sMove (iv (w64 (s15 + 1))) S (wN rfl) (.inl rfl) rfl rfl (lb rfl) fun a S => ?_
    exact leafL (leafT (⟨w64 (s15 + 1), (Option.some.inj h).symm, (S.fix [0] [3] (by decide) rfl rfl rfl)⟩))
  refine sCondT S rfl hc35 ?_
  refine sSeq (fun K36 hK36 => ?_)
  refine sRegion ?_
  refine sMove (iv r32) S (wN rfl) (.inl rfl) rfl rfl (lb rfl) fun a S => ?_
  refine sMove (iv r32) S (wN rfl) (.inr rfl) rfl rfl (lb rfl) fun a S => ?_
  refine leafL (leafT (hK36 _ _ ?_))
  obtain rfl := Option.some.inj h
  obtain rfl := hu16 _ rfl
  have h := g17
  clear g17
  try dsimp only at h
  obtain rfl := Option.some.inj h
  have h := g13
  clear g13
  try dsimp only at h
  obtain rfl := Option.some.inj h
  exact wp_ret (rBlock (rThen (rThen (rBlock (rThen (sRet (iv r32) S (rsl1 rfl (rvT (t := 2) (v := iv r32) S rfl)) ⟨(), rfl, S.mem.sel [] [] (by decide) rfl rfl⟩))))))

end Go.Proofs.Ythfifeabomdlpaa
namespace Go.Proofs.Ythfifeabomdlpaa
open Go.RowKit
set_option linter.unusedVariables false

noncomputable def block_Spell_l1 (p0 : (List Int)) (p1 : (List (List Int))) : (List Int × Int) → Option ((List Int × Int) ⊕ List Int) := fun s0 => match s0 with
  | (s44, s47) =>
    if decide (s47 < (p0.length : Int)) then
      Option.bind (idxO p0 s47) fun x59 =>
      Option.bind (idxO p1 x59) fun x64 =>
      Option.bind (appO s44 x64) fun l71 =>
      some (.inl (l71, w64 (s47 + 1)))
    else
      some (.inr s44)
noncomputable def F_block_Spell (p0 : (List Int)) (p1 : (List (List Int))) : Option ((List Int) × Int) :=
  Option.bind (F_thread_Check p0) fun r8 =>
  if r8 != 0 then
    some (([] : (List Int)), r8)
  else
    Option.bind (F_block_spelled p1) fun r15 =>
    if r15 != 0 then
      some (([] : (List Int)), r15)
    else
      Option.bind (F_block_index p0 (p1.length : Int)) fun r22 =>
      if !r22 then
        some (([] : (List Int)), 8)
      else
        Option.bind (idxO p1 0) fun x28 =>
        if decide (400 < (w64 ((p0.length : Int) * (x28.length : Int)))) then
          some (([] : (List Int)), 4)
        else
          Option.bind (α := List Int) (
            Option.bind (whileO (block_Spell_l1 p0 p1) (([] : List Int), 0)) fun e51 =>
              some e51) fun o38 =>
          some (o38, 0)
def c_block_Spell_val (r : ((List Int) × Int)) (x : Value) : Value := .tuple #[x, .int .i64 r.2]
def c_block_Spell_D (r : ((List Int) × Int)) (x : Value) : List Fact := [fRep (rL (rI .i64)) x r.1]
set_option maxHeartbeats 4000000 in
set_option maxRecDepth 100000 in
theorem c_block_Spell (E : Nat → Prop) (w0 : World) (p0 : (List Int)) (v0 : Value) (p1 : (List (List Int))) (v1 : Value) (r : ((List Int) × Int)) (h : F_block_Spell p0 p1 = some r) (S : St0 E [] w0 w0 [] [fRep (rL (rI .i64)) (v0) p0, fRep (rL (rL (rI .i64))) (v1) p1]) :
    Calls Try.prog 27 #[v0, v1] w0 (Ret (X := Value) E [] w0 (c_block_Spell_val r) (fun _ => []) (c_block_Spell_D r)) := by
  unfold F_block_Spell at h
  obtain ⟨ad1, cp2, _, rfl, _⟩ := S.know (i := 0) (e := fRep (rL (rI .i64)) (v0) p0) rfl
  obtain ⟨ad3, cp4, _, rfl, _⟩ := S.know (i := 1) (e := fRep (rL (rL (rI .i64))) (v1) p1) rfl
  refine sEnter (args := [.slice ad1 p0.length cp2, .slice ad3 p1.length cp4]) 48 Try.func27 rfl rfl (by simp) S (fun a S => ?_)
  refine sSeq (fun K5 hK5 => ?_)
  refine sRegion ?_
  refine sMove (.slice none 0 0) S (wN rfl) (.inr rfl) rfl rfl (lb rfl) fun a S => ?_
  refine sMove (iv 0) S (wN rfl) (.inr rfl) rfl rfl (lb rfl) fun a S => ?_
  refine leafL (leafT (hK5 _ _ ?_))
  refine sSeq (fun K6 hK6 => ?_)
  refine sSeq (fun K7 hK7 => ?_)
  refine sRegion ?_
  refine sMove (.slice ad1 p0.length cp2) S (wN rfl) (.inl rfl) rfl rfl (lb rfl) fun a S => ?_
  obtain ⟨r8, hx9, h⟩ := bindSome h
  have S1 := S.mem
  refine sCallQ (X := Unit) (f := 57) (vs := [.slice ad1 p0.length cp2]) (val := fun _ => iv r8) S (wN rfl) rfl callee57 rfl (S1.quiet [0] rfl) (fun E1 w1 S1 => c_thread_Check E1 w1 p0 (.slice ad1 p0.length cp2) r8 hx9 S1) rfl (lb rfl) fun _ a w S => ?_
  refine sMove (iv r8) S (wN rfl) (.inr rfl) rfl rfl (lb rfl) fun a S => ?_
  refine leafL (leafT (hK7 _ _ ?_))
  refine sSeq (fun K10 hK10 => ?_)
  refine sRegion ?_
  refine sMove (iv r8) S (wN rfl) (.inl rfl) rfl rfl (lb rfl) fun a S => ?_
  refine sBin (.bool (r8 != 0)) S (wN rfl) rfl rfl rfl (bNe _ _ _ _ .i64 r8 0) rfl (lb rfl) fun a S => ?_
  refine leafL (leafT (hK10 _ _ ?_))
  rcases iteSome h with ⟨hc11, h⟩ | ⟨hc11, h⟩
  · refine sCondT S rfl hc11 ?_
    refine sSeq (fun K12 hK12 => ?_)
    refine sRegion ?_
    refine sMove (iv r8) S (wN rfl) (.inl rfl) rfl rfl (lb rfl) fun a S => ?_
    refine sMove (.slice none 0 0) S (wN rfl) (.inr rfl) rfl rfl (lb rfl) fun a S => ?_
    refine sMove (iv r8) S (wN rfl) (.inr rfl) rfl rfl (lb rfl) fun a S => ?_
    refine leafL (leafT (hK12 _ _ ?_))
    obtain rfl := Option.some.inj h
    have S := S.learn (fRep (rL (rI .i64)) (.slice none 0 0) ([] : (List Int))) (rL_nil _ _ _)
    exact wp_ret (rThen (sRet (.tuple #[.slice none 0 0, iv r8]) S (rsl2 rfl (rvT (t := 4) (v := .slice none 0 0) S rfl) (rvT (t := 5) (v := iv r8) S rfl)) ⟨(.slice none 0 0), rfl, S.mem.sel [] [0] (by decide) rfl rfl⟩))
  refine sCondF S rfl hc11 ?_
  refine wp_skip (leafT (hK6 _ _ ?_))
  refine sSeq (fun K13 hK13 => ?_)
  refine sSeq (fun K14 hK14 => ?_)
  refine sRegion ?_
  refine sMove (.slice ad3 p1.length cp4) S (wN rfl) (.inl rfl) rfl rfl (lb rfl) fun a S => ?_
  obtain ⟨r15, hx16, h⟩ := bindSome h
  have S1 := S.mem
  refine sCallQ (X := Unit) (f := 58) (vs := [.slice ad3 p1.length cp4]) (val := fun _ => iv r15) S (wN rfl) rfl callee58 rfl (S1.quiet [1] rfl) (fun E1 w1 S1 => c_block_spelled E1 w1 p1 (.slice ad3 p1.length cp4) r15 hx16 S1) rfl (lb rfl) fun _ a w S => ?_
  refine sMove (iv r15) S (wN rfl) (.inr rfl) rfl rfl (lb rfl) fun a S => ?_
  refine leafL (leafT (hK14 _ _ ?_))
  refine sSeq (fun K17 hK17 => ?_)
  refine sRegion ?_
  refine sMove (iv r15) S (wN rfl) (.inl rfl) rfl rfl (lb rfl) fun a S => ?_
  refine sBin (.bool (r15 != 0)) S (wN rfl) rfl rfl rfl (bNe _ _ _ _ .i64 r15 0) rfl (lb rfl) fun a S => ?_
  refine leafL (leafT (hK17 _ _ ?_))
  rcases iteSome h with ⟨hc18, h⟩ | ⟨hc18, h⟩
  · refine sCondT S rfl hc18 ?_
    refine sSeq (fun K19 hK19 => ?_)
    refine sRegion ?_
    refine sMove (iv r15) S (wN rfl) (.inl rfl) rfl rfl (lb rfl) fun a S => ?_
    refine sMove (.slice none 0 0) S (wN rfl) (.inr rfl) rfl rfl (lb rfl) fun a S => ?_
    refine sMove (iv r15) S (wN rfl) (.inr rfl) rfl rfl (lb rfl) fun a S => ?_
    refine leafL (leafT (hK19 _ _ ?_))
    obtain rfl := Option.some.inj h
    have S := S.learn (fRep (rL (rI .i64)) (.slice none 0 0) ([] : (List Int))) (rL_nil _ _ _)
    exact wp_ret (rThen (sRet (.tuple #[.slice none 0 0, iv r15]) S (rsl2 rfl (rvT (t := 4) (v := .slice none 0 0) S rfl) (rvT (t := 5) (v := iv r15) S rfl)) ⟨(.slice none 0 0), rfl, S.mem.sel [] [0] (by decide) rfl rfl⟩))
  refine sCondF S rfl hc18 ?_
  refine wp_skip (leafT (hK13 _ _ ?_))
  refine sSeq (fun K20 hK20 => ?_)
  refine sSeq (fun K21 hK21 => ?_)
  refine sRegion ?_
  refine sMove (.slice ad1 p0.length cp2) S (wN rfl) (.inl rfl) rfl rfl (lb rfl) fun a S => ?_
  refine sMove (.slice ad3 p1.length cp4) S (wN rfl) (.inl rfl) rfl rfl (lb rfl) fun a S => ?_
  refine sLen (ad := ad3) (m := p1.length) (c := cp4) S (wN rfl) rfl Try.underlying46 rfl rfl (lb rfl) fun a S => ?_
  obtain ⟨r22, hx23, h⟩ := bindSome h
  have S1 := S.mem
  refine sCallQ (X := Unit) (f := 56) (vs := [.slice ad1 p0.length cp2, iv (p1.length : Int)]) (val := fun _ => .bool r22) S (wN rfl) rfl callee56 rfl (S1.quiet [0] rfl) (fun E1 w1 S1 => c_block_index E1 w1 p0 (.slice ad1 p0.length cp2) (p1.length : Int) r22 hx23 S1) rfl (lb rfl) fun _ a w S => ?_
  refine sNot (b := r22) S (wN rfl) rfl rfl rfl (lb rfl) fun a S => ?_
  refine leafL (leafT (hK21 _ _ ?_))
  rcases iteSome h with ⟨hc24, h⟩ | ⟨hc24, h⟩
  · refine sCondT S rfl hc24 ?_
    refine sSeq (fun K25 hK25 => ?_)
    refine sRegion ?_
    refine sMove (.slice none 0 0) S (wN rfl) (.inr rfl) rfl rfl (lb rfl) fun a S => ?_
    refine sMove (iv 8) S (wN rfl) (.inr rfl) rfl rfl (lb rfl) fun a S => ?_
    refine leafL (leafT (hK25 _ _ ?_))
    obtain rfl := Option.some.inj h
    have S := S.learn (fRep (rL (rI .i64)) (.slice none 0 0) ([] : (List Int))) (rL_nil _ _ _)
    exact wp_ret (rThen (sRet (.tuple #[.slice none 0 0, iv 8]) S (rsl2 rfl (rvT (t := 4) (v := .slice none 0 0) S rfl) (rvT (t := 5) (v := iv 8) S rfl)) ⟨(.slice none 0 0), rfl, S.mem.sel [] [0] (by decide) rfl rfl⟩))
  refine sCondF S rfl hc24 ?_
  refine wp_skip (leafT (hK20 _ _ ?_))
  refine sSeq (fun K26 hK26 => ?_)
  refine sSeq (fun K27 hK27 => ?_)
  refine sRegion ?_
  refine sMove (.slice ad1 p0.length cp2) S (wN rfl) (.inl rfl) rfl rfl (lb rfl) fun a S => ?_
  refine sLen (ad := ad1) (m := p0.length) (c := cp2) S (wN rfl) rfl Try.underlying35 rfl rfl (lb rfl) fun a S => ?_
  refine sMove (.slice ad3 p1.length cp4) S (wN rfl) (.inl rfl) rfl rfl (lb rfl) fun a S => ?_
  obtain ⟨x28, hx29, h⟩ := bindSome h
  obtain ⟨q30, hq31, S⟩ := pIdx (P := Try.prog) (r := (rL (rI .i64))) (v := .slice ad3 p1.length cp4) (xs := p1) (j := 0) 46 35 1 S Try.underlying46 rfl rfl hx29
  refine sIdxV (v := .slice ad3 p1.length cp4) (k := .i64) (j := 0) S (wN rfl) rfl rfl rfl hq31 rfl (lb rfl) fun a S => ?_
  obtain ⟨u32, S⟩ := pLoad (r := (rL (rI .i64))) (q := q30) (x := x28) 0 S rfl
  obtain ⟨ad33, cp34, _, rfl, _⟩ := S.mem.know (i := 1) (e := fRep (rL (rI .i64)) (u32) x28) rfl
  refine sLoadV1 (vq := q30) 0 (.slice ad33 x28.length cp34) S (wN rfl) rfl rfl rfl rfl rfl (lb rfl) fun a S => ?_
  refine sLen (ad := ad33) (m := x28.length) (c := cp34) S (wN rfl) rfl Try.underlying35 rfl rfl (lb rfl) fun a S => ?_
  refine sBin (iv (w64 ((p0.length : Int) * (x28.length : Int)))) S (wN rfl) rfl rfl rfl (bMul _ _ _ _ (p0.length : Int) (x28.length : Int)) rfl (lb rfl) fun a S => ?_
  refine sBin (.bool (decide (400 < (w64 ((p0.length : Int) * (x28.length : Int)))))) S (wN rfl) rfl rfl rfl (bGt _ _ _ _ .i64 (w64 ((p0.length : Int) * (x28.length : Int))) 400) rfl (lb rfl) fun a S => ?_
  refine leafL (leafT (hK27 _ _ ?_))
  rcases iteSome h with ⟨hc35, h⟩ | ⟨hc35, h⟩
  · refine sCondT S rfl hc35 ?_
    refine sSeq (fun K36 hK36 => ?_)
    refine sRegion ?_
    refine sMove (.slice none 0 0) S (wN rfl) (.inr rfl) rfl rfl (lb rfl) fun a S => ?_
    refine sMove (iv 4) S (wN rfl) (.inr rfl) rfl rfl (lb rfl) fun a S => ?_
    refine leafL (leafT (hK36 _ _ ?_))
    obtain rfl := Option.some.inj h
    have S := S.learn (fRep (rL (rI .i64)) (.slice none 0 0) ([] : (List Int))) (rL_nil _ _ _)
    exact wp_ret (rThen (sRet (.tuple #[.slice none 0 0, iv 4]) S (rsl2 rfl (rvT (t := 4) (v := .slice none 0 0) S rfl) (rvT (t := 5) (v := iv 4) S rfl)) ⟨(.slice none 0 0), rfl, S.mem.sel [] [0] (by decide) rfl rfl⟩))
  refine sCondF S rfl hc35 ?_
  refine wp_skip (leafT (hK26 _ _ ?_))
  refine sSeq (fun K37 hK37 => ?_)
  refine sRegion ?_
  refine sMove (.slice none 0 0) S (wN rfl) (.inr rfl) rfl rfl (lb rfl) fun a S => ?_
  refine leafL (leafT (hK37 _ _ ?_))
  obtain ⟨t41, h, g42⟩ := bindSome h
  refine sCut (fun a w => ∃ o38, o38 = t41 ∧ ∃ ad39, ∃ cp40, St [] E [] w0 48 a w [(8, .slice ad39 o38.length cp40)] [eRow (rI .i64) 3 (.slice ad39 o38.length cp40) o38] []) ?_ (fun a w hI => ?_)
  rotate_left
  · obtain ⟨o38, rfl, ad39, cp40, S⟩ := hI
    have h := g42
    clear g42
    try dsimp only at h
    refine sSeq (fun K75 hK75 => ?_)
    refine sRegion ?_
    refine sMove (.slice ad39 o38.length cp40) S (wN rfl) (.inl rfl) rfl rfl (lb rfl) fun a S => ?_
    refine sMove (.slice ad39 o38.length cp40) S (wN rfl) (.inr rfl) rfl rfl (lb rfl) fun a S => ?_
    refine sMove (iv 0) S (wN rfl) (.inr rfl) rfl rfl (lb rfl) fun a S => ?_
    refine leafL (leafT (hK75 _ _ ?_))
    obtain rfl := Option.some.inj h
    have S := S.shutR (r := (rI .i64)) (T := 3) (v := .slice ad39 o38.length cp40) (xs := o38) 0 rfl
    exact wp_ret (sRet (.tuple #[.slice ad39 o38.length cp40, iv 0]) S (rsl2 rfl (rvT (t := 4) (v := .slice ad39 o38.length cp40) S rfl) (rvT (t := 5) (v := iv 0) S rfl)) ⟨(.slice ad39 o38.length cp40), rfl, S.mem.sel [] [0] (by decide) rfl rfl⟩)
  refine sSeq (fun K43 hK43 => ?_)
  refine sRegion ?_
  refine sMove (.slice ad1 p0.length cp2) S (wN rfl) (.inl rfl) rfl rfl (lb rfl) fun a S => ?_
  refine sLen (ad := ad1) (m := p0.length) (c := cp2) S (wN rfl) rfl Try.underlying35 rfl rfl (lb rfl) fun a S => ?_
  refine sMove (iv 0) S (wN rfl) (.inl rfl) rfl rfl (lb rfl) fun a S => ?_
  refine leafL (leafT (hK43 _ _ ?_))
  refine wp_block ?_
  have S := S.nilRow (rI .i64) 3 (α := Int)
  obtain ⟨t50, hl, g49⟩ := bindSome h
  refine sLoop hl (fun s0 a w => match s0 with | (s44, s47) => ∃ ad45, ∃ cp46, St [] E [] w0 48 a w [(1, .slice ad3 p1.length cp4), (8, .slice ad45 s44.length cp46), (34, .slice ad1 p0.length cp2), (35, iv (p0.length : Int)), (36, iv s47)] [eRow (rI .i64) 3 (.slice ad45 s44.length cp46) s44] [fRep (rL (rL (rI .i64))) (.slice ad3 p1.length cp4) p1, fRep (rL (rI .i64)) (.slice ad1 p0.length cp2) p0]) ⟨none, 0, S.fix [0] [4, 3] (by decide) rfl rfl rfl⟩ ?_
  clear hl h
  intro s0 a w c0 hI h hu48
  obtain ⟨s44, s47⟩ := s0
  unfold block_Spell_l1 at h
  dsimp only at h hI
  obtain ⟨ad45, cp46, S⟩ := hI
  refine sSeq (fun K54 hK54 => ?_)
  refine sRegion ?_
  refine sBin (.bool (decide (s47 < (p0.length : Int)))) S (wN rfl) rfl rfl rfl (bLt _ _ _ _ .i64 s47 (p0.length : Int)) rfl (lb rfl) fun a S => ?_
  refine leafL (leafT (hK54 _ _ ?_))
  refine sSeq (fun K55 hK55 => ?_)
  rcases iteSome h with ⟨hc56, h⟩ | ⟨hc56, h⟩
  rotate_left
  · refine sCondF S rfl hc56 ?_
    obtain rfl := Option.some.inj h
    obtain rfl := hu48 _ rfl
    have h := g49
    clear g49
    try dsimp only at h
    exact wp_exit (xThen (xThen (xHit (leafT (⟨s44, Option.some.inj h, ad45, cp46, S.fix [0] [] (by decide) rfl rfl rfl⟩)))))
  refine sCondT S rfl hc56 ?_
  refine wp_skip (leafT (hK55 _ _ ?_))
  refine sSeq (fun K57 hK57 => ?_)
  refine wp_block ?_
  refine sSeq (fun K58 hK58 => ?_)
  refine sRegion ?_
  obtain ⟨x59, hx60, h⟩ := bindSome h
  obtain ⟨q61, hq62, S⟩ := pIdx (P := Try.prog) (r := (rI .i64)) (v := .slice ad1 p0.length cp2) (xs := p0) (j := s47) 35 3 1 S Try.underlying35 rfl rfl hx60
  refine sIdxV (v := .slice ad1 p0.length cp2) (k := .i64) (j := s47) S (wN rfl) rfl rfl rfl hq62 rfl (lb rfl) fun a S => ?_
  obtain ⟨u63, S⟩ := pLoad (r := (rI .i64)) (q := q61) (x := x59) 0 S rfl
  obtain rfl : u63 = iv x59 := S.mem.know (i := 1) (e := fRep (rI .i64) (u63) x59) rfl
  refine sLoadV1 (vq := q61) 0 (iv x59) S (wN rfl) rfl rfl rfl rfl rfl (lb rfl) fun a S => ?_
  refine sMove (iv x59) S (wN rfl) (.inr rfl) rfl rfl (lb rfl) fun a S => ?_
  refine leafL (leafT (hK58 _ _ ?_))
  refine sRegion ?_
  refine sMove (.slice ad45 s44.length cp46) S (wN rfl) (.inl rfl) rfl rfl (lb rfl) fun a S => ?_
  refine sMove (.slice ad3 p1.length cp4) S (wN rfl) (.inl rfl) rfl rfl (lb rfl) fun a S => ?_
  refine sMove (iv x59) S (wN rfl) (.inl rfl) rfl rfl (lb rfl) fun a S => ?_
  obtain ⟨x64, hx65, h⟩ := bindSome h
  obtain ⟨q66, hq67, S⟩ := pIdx (P := Try.prog) (r := (rL (rI .i64))) (v := .slice ad3 p1.length cp4) (xs := p1) (j := x59) 46 35 3 S Try.underlying46 rfl rfl hx65
  refine sIdxV (v := .slice ad3 p1.length cp4) (k := .i64) (j := x59) S (wN rfl) rfl rfl rfl hq67 rfl (lb rfl) fun a S => ?_
  obtain ⟨u68, S⟩ := pLoad (r := (rL (rI .i64))) (q := q66) (x := x64) 0 S rfl
  obtain ⟨ad69, cp70, _, rfl, _⟩ := S.mem.know (i := 1) (e := fRep (rL (rI .i64)) (u68) x64) rfl
  refine sLoadV1 (vq := q66) 0 (.slice ad69 x64.length cp70) S (wN rfl) rfl rfl rfl rfl rfl (lb rfl) fun a S => ?_
  obtain ⟨l71, hx72, h⟩ := bindSome h
  refine sApp (r := (rI .i64)) (T := 3) (xs := s44) (ys := x64) (v := .slice ad45 s44.length cp46) (u := .slice ad69 x64.length cp70) 0 (iv 0) 8 S (wN rfl) rfl Try.underlying35 rfl rfl (by decide) rfl rfl rfl (src_D 1 S.mem rfl) hx72 rfl (lb rfl) fun a w ad73 cp74 S => ?_
  refine sMove (.slice ad73 l71.length cp74) S (wN rfl) (.inr rfl) rfl rfl (lb rfl) fun a S => ?_
  refine leafL (leafB (leafT (hK57 _ _ ?_)))
  refine sRegion ?_
  refine sBin (iv (w64 (s47 + 1))) S (wN rfl) rfl rfl rfl (bAdd _ _ _ _ s47 1) rfl (lb rfl) fun a S => ?_
  refine sMove (iv (w64 (s47 + 1))) S (wN rfl) (.inl rfl) rfl rfl (lb rfl) fun a S => ?_
  exact leafL (leafT (⟨(l71, w64 (s47 + 1)), (Option.some.inj h).symm, ⟨ad73, cp74, S.fix [0] [6, 7] (by decide) rfl rfl rfl⟩⟩))

end Go.Proofs.Ythfifeabomdlpaa
namespace Go.Proofs.Ythfifeabomdlpaa
open Go.RowKit
set_option linter.unusedVariables false

def anc_slices_Equal___int_int__0 : List (List Nat) := [[], [], [0, 1], [0, 1, 2], [], [], [4, 5], [4, 5, 6], [0, 1, 2, 3, 4, 5, 6, 7]]
noncomputable def slices_Equal___int_int__l1 (p0 : (List Int)) (p1 : (List Int)) : Int → Option (Int ⊕ (Bool ⊕ Unit)) := fun s0 => match s0 with
  | s13 =>
    if decide (s13 < (p0.length : Int)) then
      Option.bind (idxO p0 s13) fun x23 =>
      Option.bind (idxO p1 s13) fun x28 =>
      if x23 != x28 then
        some (.inr (.inl false))
      else
        some (.inl (w64 (s13 + 1)))
    else
      some (.inr (.inr ()))
noncomputable def F_slices_Equal___int_int_ (p0 : (List Int)) (p1 : (List Int)) : Option Bool :=
  if (p0.length : Int) != (p1.length : Int) then
    some false
  else
    Option.bind (α := Unit ⊕ Bool) (
      Option.bind (whileO (slices_Equal___int_int__l1 p0 p1) 0) fun z0 => match z0 with
        | .inl z =>
          some (.inr z)
        | .inr _ =>
          some (.inl ())) fun z0 => match z0 with
      | .inl _ =>
        some true
      | .inr z =>
        some z
set_option maxHeartbeats 4000000 in
set_option maxRecDepth 100000 in
theorem c_slices_Equal___int_int_ (E : Nat → Prop) (w0 : World) (p0 : (List Int)) (v0 : Value) (p1 : (List Int)) (v1 : Value) (r : Bool) (h : F_slices_Equal___int_int_ p0 p1 = some r) (S : St0 E [] w0 w0 [] [fRep (rL (rI .i64)) (v0) p0, fRep (rL (rI .i64)) (v1) p1]) :
    Calls Try.prog 59 #[v0, v1] w0 (Ret (X := Unit) E [] w0 (fun _ => .bool r) (fun _ => []) (fun _ => [])) := by
  unfold F_slices_Equal___int_int_ at h
  obtain ⟨ad1, cp2, _, rfl, _⟩ := S.know (i := 0) (e := fRep (rL (rI .i64)) (v0) p0) rfl
  obtain ⟨ad3, cp4, _, rfl, _⟩ := S.know (i := 1) (e := fRep (rL (rI .i64)) (v1) p1) rfl
  refine sEnter (args := [.slice ad1 p0.length cp2, .slice ad3 p1.length cp4]) 26 Try.func59 rfl rfl (by simp) S (fun a S => ?_)
  refine sSeq (fun K5 hK5 => ?_)
  refine sRegion ?_
  refine sMove (.bool false) S (wN rfl) (.inr rfl) rfl rfl (lb rfl) fun a S => ?_
  refine leafL (leafT (hK5 _ _ ?_))
  refine sSeq (fun K6 hK6 => ?_)
  refine sSeq (fun K7 hK7 => ?_)
  refine sRegion ?_
  refine sMove (.slice ad1 p0.length cp2) S (wN rfl) (.inl rfl) rfl rfl (lb rfl) fun a S => ?_
  refine sLen (ad := ad1) (m := p0.length) (c := cp2) S (wN rfl) rfl Try.underlying35 rfl rfl (lb rfl) fun a S => ?_
  refine sMove (.slice ad3 p1.length cp4) S (wN rfl) (.inl rfl) rfl rfl (lb rfl) fun a S => ?_
  refine sLen (ad := ad3) (m := p1.length) (c := cp4) S (wN rfl) rfl Try.underlying35 rfl rfl (lb rfl) fun a S => ?_
  refine sBin (.bool ((p0.length : Int) != (p1.length : Int))) S (wN rfl) rfl rfl rfl (bNe _ _ _ _ .i64 (p0.length : Int) (p1.length : Int)) rfl (lb rfl) fun a S => ?_
  refine leafL (leafT (hK7 _ _ ?_))
  rcases iteSome h with ⟨hc8, h⟩ | ⟨hc8, h⟩
  · refine sCondT S rfl hc8 ?_
    refine sSeq (fun K9 hK9 => ?_)
    refine sRegion ?_
    refine sMove (.bool false) S (wN rfl) (.inr rfl) rfl rfl (lb rfl) fun a S => ?_
    refine leafL (leafT (hK9 _ _ ?_))
    obtain rfl := Option.some.inj h
    exact wp_ret (rThen (sRet (.bool false) S (rsl1 rfl (rvT (t := 4) (v := .bool false) S rfl)) ⟨(), rfl, S.mem.sel [] [] (by decide) rfl rfl⟩))
  refine sCondF S rfl hc8 ?_
  refine wp_skip (leafT (hK6 _ _ ?_))
  obtain ⟨t10, h, g11⟩ := bindSome h
  refine sCut (fun a w => .inl () = t10 ∧ St [] E [] w0 26 a w [] [] []) ?_ (fun a w hI => ?_)
  rotate_left
  · obtain ⟨rfl, S⟩ := hI
    have h := g11
    clear g11
    try dsimp only at h
    refine sSeq (fun K41 hK41 => ?_)
    refine sRegion ?_
    refine sMove (.bool true) S (wN rfl) (.inr rfl) rfl rfl (lb rfl) fun a S => ?_
    refine leafL (leafT (hK41 _ _ ?_))
    obtain rfl := Option.some.inj h
    exact wp_ret (sRet (.bool true) S (rsl1 rfl (rvT (t := 4) (v := .bool true) S rfl)) ⟨(), rfl, S.mem.sel [] [] (by decide) rfl rfl⟩)
  refine sSeq (fun K12 hK12 => ?_)
  refine sRegion ?_
  refine sMove (.slice ad1 p0.length cp2) S (wN rfl) (.inl rfl) rfl rfl (lb rfl) fun a S => ?_
  refine sLen (ad := ad1) (m := p0.length) (c := cp2) S (wN rfl) rfl Try.underlying35 rfl rfl (lb rfl) fun a S => ?_
  refine sMove (iv 0) S (wN rfl) (.inl rfl) rfl rfl (lb rfl) fun a S => ?_
  refine leafL (leafT (hK12 _ _ ?_))
  refine wp_block ?_
  obtain ⟨t16, hl, g15⟩ := bindSome h
  refine sLoop hl (fun s0 a w => match s0 with | s13 => St [] E [] w0 26 a w [(0, .slice ad1 p0.length cp2), (1, .slice ad3 p1.length cp4), (12, iv (p0.length : Int)), (13, iv s13)] [] [fRep (rL (rI .i64)) (.slice ad1 p0.length cp2) p0, fRep (rL (rI .i64)) (.slice ad3 p1.length cp4) p1]) (S.fix [] [0, 1] (by decide) rfl rfl rfl) ?_
  clear hl h
  intro s13 a w c0 hI h hu14
  unfold slices_Equal___int_int__l1 at h
  dsimp only at h hI
  have S := hI
  refine sSeq (fun K17 hK17 => ?_)
  refine sRegion ?_
  refine sBin (.bool (decide (s13 < (p0.length : Int)))) S (wN rfl) rfl rfl rfl (bLt _ _ _ _ .i64 s13 (p0.length : Int)) rfl (lb rfl) fun a S => ?_
  refine leafL (leafT (hK17 _ _ ?_))
  refine sSeq (fun K18 hK18 => ?_)
  rcases iteSome h with ⟨hc19, h⟩ | ⟨hc19, h⟩
  rotate_left
  · refine sCondF S rfl hc19 ?_
    obtain rfl := Option.some.inj h
    obtain rfl := hu14 _ rfl
    have h := g15
    clear g15
    try dsimp only at h
    exact wp_exit (xThen (xThen (xHit (leafT (⟨Option.some.inj h, S.fix [] [] (by decide) rfl rfl rfl⟩)))))
  refine sCondT S rfl hc19 ?_
  refine wp_skip (leafT (hK18 _ _ ?_))
  refine sSeq (fun K20 hK20 => ?_)
  refine wp_block ?_
  refine sSeq (fun K21 hK21 => ?_)
  refine sRegion ?_
  refine sMove (iv s13) S (wN rfl) (.inl rfl) rfl rfl (lb rfl) fun a S => ?_
  refine sMove (iv s13) S (wN rfl) (.inr rfl) rfl rfl (lb rfl) fun a S => ?_
  refine leafL (leafT (hK21 _ _ ?_))
  refine sSeq (fun K22 hK22 => ?_)
  obtain ⟨x23, hx24, h⟩ := bindSome h
  obtain ⟨x28, hx29, h⟩ := bindSome h
  obtain ⟨q33, hq34, S⟩ := pIdx (P := Try.prog) (r := (rI .i64)) (v := .slice ad1 p0.length cp2) (xs := p0) (j := s13) 35 3 0 S Try.underlying35 rfl rfl hx24
  obtain ⟨u35, S⟩ := pLoad (r := (rI .i64)) (q := q33) (x := x23) 0 S rfl
  obtain rfl : u35 = iv x23 := S.mem.know (i := 1) (e := fRep (rI .i64) (u35) x23) rfl
  obtain ⟨q36, hq37, S⟩ := pIdx (P := Try.prog) (r := (rI .i64)) (v := .slice ad3 p1.length cp4) (xs := p1) (j := s13) 35 3 4 S Try.underlying35 rfl rfl hx29
  obtain ⟨u38, S⟩ := pLoad (r := (rI .i64)) (q := q36) (x := x28) 0 S rfl
  obtain rfl : u38 = iv x28 := S.mem.know (i := 1) (e := fRep (rI .i64) (u38) x28) rfl
  refine sDraw (nf := []) (W := [(0, 16, .slice ad1 p0.length cp2), (1, 17, iv s13), (2, 18, q33), (3, 19, iv x23), (4, 20, .slice ad3 p1.length cp4), (5, 21, iv s13), (6, 22, q36), (7, 23, iv x28), (8, 24, .bool (x23 != x28))]) rfl S ?_
  refine node_by (A := anc_slices_Equal___int_int__0) (nf := []) (Y := []) (W := [(0, 16, .slice ad1 p0.length cp2), (1, 17, iv s13), (2, 18, q33), (3, 19, iv x23), (4, 20, .slice ad3 p1.length cp4), (5, 21, iv s13), (6, 22, q36), (7, 23, iv x28), (8, 24, .bool (x23 != x28))]) 9 (by kernel_rfl) (by kernel_rfl) (by kernel_rfl) (by kernel_rfl) (by kernel_rfl) [0, 1, 2, 3, 4, 5, 6, 7, 8] (by kernel_rfl) (by decide) (by decide) (aF 0 8 (by decide) ?_ (aF 1 7 (by decide) ?_ (aF 2 6 (by decide) ?_ (aF 3 5 (by decide) ?_ (aF 4 4 (by decide) ?_ (aF 5 3 (by decide) ?_ (aF 6 2 (by decide) ?_ (aF 7 1 (by decide) ?_ (aF 8 0 (by decide) ?_ (trivial)))))))))) [(0, .slice ad1 p0.length cp2), (1, .slice ad3 p1.length cp4), (12, iv (p0.length : Int)), (13, iv s13), (24, .bool (x23 != x28))] (fin_of [none, none, none, none, some 8] rfl (by kernel_rfl) (by kernel_rfl)) (fun _ a w S => ?_)
  · refine fI 16 (.slice ad1 p0.length cp2) [(0, .slice ad1 p0.length cp2)] 0 [none] rfl rfl rfl rfl rfl rfl fun G a w S => ?_
    refine sMove (.slice ad1 p0.length cp2) S (wN rfl) (.inl rfl) rfl rfl (lb rfl) fun a S => ?_
    exact leafL ⟨rfl, S⟩
  · refine fI 17 (iv s13) [(5, iv s13)] 1 [none] rfl rfl rfl rfl rfl rfl fun G a w S => ?_
    refine sMove (iv s13) S (wN rfl) (.inl rfl) rfl rfl (lb rfl) fun a S => ?_
    exact leafL ⟨rfl, S⟩
  · refine fI 18 q33 [(16, .slice ad1 p0.length cp2), (17, iv s13)] 2 [some 0, some 1] rfl rfl rfl rfl rfl rfl fun G a w S => ?_
    refine sIdxV (v := .slice ad1 p0.length cp2) (k := .i64) (j := s13) S (wN rfl) rfl rfl rfl hq34 rfl (lb rfl) fun a S => ?_
    exact leafL ⟨rfl, S⟩
  · refine fI 19 (iv x23) [(18, q33)] 3 [some 2] rfl rfl rfl rfl rfl rfl fun G a w S => ?_
    refine sLoadV1 (vq := q33) 3 (iv x23) S (wN rfl) rfl rfl rfl rfl rfl (lb rfl) fun a S => ?_
    exact leafL ⟨rfl, S⟩
  · refine fI 20 (.slice ad3 p1.length cp4) [(1, .slice ad3 p1.length cp4)] 4 [none] rfl rfl rfl rfl rfl rfl fun G a w S => ?_
    refine sMove (.slice ad3 p1.length cp4) S (wN rfl) (.inl rfl) rfl rfl (lb rfl) fun a S => ?_
    exact leafL ⟨rfl, S⟩
  · refine fI 21 (iv s13) [(5, iv s13)] 5 [none] rfl rfl rfl rfl rfl rfl fun G a w S => ?_
    refine sMove (iv s13) S (wN rfl) (.inl rfl) rfl rfl (lb rfl) fun a S => ?_
    exact leafL ⟨rfl, S⟩
  · refine fI 22 q36 [(20, .slice ad3 p1.length cp4), (21, iv s13)] 6 [some 4, some 5] rfl rfl rfl rfl rfl rfl fun G a w S => ?_
    refine sIdxV (v := .slice ad3 p1.length cp4) (k := .i64) (j := s13) S (wN rfl) rfl rfl rfl hq37 rfl (lb rfl) fun a S => ?_
    exact leafL ⟨rfl, S⟩
  · refine fI 23 (iv x28) [(22, q36)] 7 [some 6] rfl rfl rfl rfl rfl rfl fun G a w S => ?_
    refine sLoadV1 (vq := q36) 0 (iv x28) S (wN rfl) rfl rfl rfl rfl rfl (lb rfl) fun a S => ?_
    exact leafL ⟨rfl, S⟩
  · refine fI 24 (.bool (x23 != x28)) [(19, iv x23), (23, iv x28)] 8 [some 3, some 7] rfl rfl rfl rfl rfl rfl fun G a w S => ?_
    refine sBin (.bool (x23 != x28)) S (wN rfl) rfl rfl rfl (bNe _ _ _ _ .i64 x23 x28) rfl (lb rfl) fun a S => ?_
    exact leafL ⟨rfl, S⟩
  refine leafT (hK22 _ _ ?_)
  rcases iteSome h with ⟨hc39, h⟩ | ⟨hc39, h⟩
  rotate_left
  · refine sCondF S rfl hc39 ?_
    refine wp_skip (leafB (leafT (hK20 _ _ ?_)))
    refine sRegion ?_
    refine sBin (iv (w64 (s13 + 1))) S (wN rfl) rfl rfl rfl (bAdd _ _ _ _ s13 1) rfl (lb rfl) fun a S => ?_
    refine sMove (iv (w64 (s13 + 1))) S (wN rfl) (.inl rfl) rfl rfl (lb rfl) fun a S => ?_
    exact leafL (leafT (⟨w64 (s13 + 1), (Option.some.inj h).symm, (S.fix [] [6, 7] (by decide) rfl rfl rfl)⟩))
  refine sCondT S rfl hc39 ?_
  refine sSeq (fun K40 hK40 => ?_)
  refine sRegion ?_
  refine sMove (.bool false) S (wN rfl) (.inr rfl) rfl rfl (lb rfl) fun a S => ?_
  refine leafL (leafT (hK40 _ _ ?_))
  obtain rfl := Option.some.inj h
  obtain rfl := hu14 _ rfl
  have h := g15
  clear g15
  try dsimp only at h
  obtain rfl := Option.some.inj h
  have h := g11
  clear g11
  try dsimp only at h
  obtain rfl := Option.some.inj h
  exact wp_ret (rBlock (rThen (rThen (rBlock (rThen (sRet (.bool false) S (rsl1 rfl (rvT (t := 4) (v := .bool false) S rfl)) ⟨(), rfl, S.mem.sel [] [] (by decide) rfl rfl⟩))))))

end Go.Proofs.Ythfifeabomdlpaa
namespace Go.Proofs.Ythfifeabomdlpaa
open Go.RowKit
set_option linter.unusedVariables false

noncomputable def F_slices_Chunk___int_int_ (p0 : (List Int)) (p1 : Int) : Option ((List Int) × Int) :=
  if decide (p1 < 1) then
    none
  else
    some (p0, p1)
def c_slices_Chunk___int_int__val (r : ((List Int) × Int)) (x : Value × Value) : Value := .func (.func 76) #[] #[x.1, x.2]
def c_slices_Chunk___int_int__D (r : ((List Int) × Int)) (x : Value × Value) : List Fact := [fPtr (rL (rI .i64)) x.1 r.1, fPtr (rI .i64) x.2 r.2]
set_option maxHeartbeats 4000000 in
set_option maxRecDepth 100000 in
theorem c_slices_Chunk___int_int_ (E : Nat → Prop) (w0 : World) (p0 : (List Int)) (v0 : Value) (p1 : Int) (r : ((List Int) × Int)) (h : F_slices_Chunk___int_int_ p0 p1 = some r) (S : St0 E [] w0 w0 [] [fRep (rL (rI .i64)) (v0) p0]) :
    Calls Try.prog 60 #[v0, iv p1] w0 (Ret (X := Value × Value) E [] w0 (c_slices_Chunk___int_int__val r) (fun _ => []) (c_slices_Chunk___int_int__D r)) := by
  unfold F_slices_Chunk___int_int_ at h
  obtain ⟨ad1, cp2, _, rfl, _⟩ := S.know (i := 0) (e := fRep (rL (rI .i64)) (v0) p0) rfl
  refine sEnter (args := [.slice ad1 p0.length cp2, iv p1]) 9 Try.func60 rfl rfl (by simp) S (fun a S => ?_)
  refine sSeq (fun K3 hK3 => ?_)
  refine sRegion ?_
  refine sBox (v := .slice ad1 p0.length cp2) S (wN rfl) rfl rfl [.slice ad1 p0.length cp2] rfl rfl (lb rfl) fun a b4 w S => ?_
  refine sBox (v := iv p1) S (wN rfl) rfl rfl [iv p1] rfl rfl (lb rfl) fun a b5 w S => ?_
  refine sMove (.nilFunc) S (wN rfl) (.inr rfl) rfl rfl (lb rfl) fun a S => ?_
  refine leafL (leafT (hK3 _ _ ?_))
  refine sSeq (fun K6 hK6 => ?_)
  refine sSeq (fun K7 hK7 => ?_)
  refine sRegion ?_
  refine sLoad1 (p := b5) (off := 0) (T := 3) (vs := [iv p1]) 0 (iv p1) S (wN rfl) rfl rfl rfl rfl rfl rfl (lb rfl) fun a S => ?_
  refine sBin (.bool (decide (p1 < 1))) S (wN rfl) rfl rfl rfl (bLt _ _ _ _ .i64 p1 1) rfl (lb rfl) fun a S => ?_
  refine leafL (leafT (hK7 _ _ ?_))
  rcases iteSome h with ⟨hc8, h⟩ | ⟨hc8, h⟩
  · refine sCondT S rfl hc8 ?_
    refine sRegion ?_
    cases h
  refine sCondF S rfl hc8 ?_
  refine wp_skip (leafT (hK6 _ _ ?_))
  refine sSeq (fun K9 hK9 => ?_)
  refine sRegion ?_
  refine sFunc (g := 76) (vs := [.pointer (some ⟨b4, 0, none⟩), .pointer (some ⟨b5, 0, none⟩)]) S (wN rfl) rfl rfl rfl (lb rfl) fun a S => ?_
  refine sMove (.func (.func 76) #[] #[.pointer (some ⟨b4, 0, none⟩), .pointer (some ⟨b5, 0, none⟩)]) S (wN rfl) (.inr rfl) rfl rfl (lb rfl) fun a S => ?_
  refine leafL (leafT (hK9 _ _ ?_))
  have S := S.shutB (r := (rL (rI .i64))) (T := 35) (b := b4) (cs := [.slice ad1 p0.length cp2]) 1 (.slice ad1 p0.length cp2) p0 rfl rfl (S.mem.know (i := 0) (e := fRep (rL (rI .i64)) (.slice ad1 p0.length cp2) p0) rfl)
  have S := S.shutB (r := (rI .i64)) (T := 3) (b := b5) (cs := [iv p1]) 0 (iv p1) p1 rfl rfl (rfl)
  obtain rfl := Option.some.inj h
  exact wp_ret (sRet (.func (.func 76) #[] #[.pointer (some ⟨b4, 0, none⟩), .pointer (some ⟨b5, 0, none⟩)]) S (rsl1 rfl (rvT (t := 4) (v := .func (.func 76) #[] #[.pointer (some ⟨b4, 0, none⟩), .pointer (some ⟨b5, 0, none⟩)]) S rfl)) ⟨((.pointer (some ⟨b4, 0, none⟩)), (.pointer (some ⟨b5, 0, none⟩))), rfl, S.mem.sel [] [1, 0] (by decide) rfl rfl⟩)

end Go.Proofs.Ythfifeabomdlpaa
namespace Go.Proofs.Ythfifeabomdlpaa
open Go.RowKit
set_option linter.unusedVariables false

noncomputable def F_block_Blocks_1_s0 (p0 : (List Int)) (p1 : (List Int)) : Option Bool :=
  Option.bind (F_slices_Equal___int_int_ p0 p1) fun r8 =>
  some r8
set_option maxHeartbeats 4000000 in
set_option maxRecDepth 100000 in
theorem c_block_Blocks_1_s0 (E : Nat → Prop) (w0 : World) (p0 : (List Int)) (v0 : Value) (p1 : (List Int)) (v1 : Value) (r : Bool) (h : F_block_Blocks_1_s0 p0 p1 = some r) (S : St0 E [] w0 w0 [] [fRep (rL (rI .i64)) (v0) p0, fPtr (rL (rI .i64)) (v1) p1]) :
    Calls Try.prog 62 #[v0, v1] w0 (Ret (X := Unit) E [] w0 (fun _ => .bool r) (fun _ => []) (fun _ => [])) := by
  unfold F_block_Blocks_1_s0 at h
  obtain ⟨ad1, cp2, _, rfl, _⟩ := S.know (i := 0) (e := fRep (rL (rI .i64)) (v0) p0) rfl
  refine sEnter (args := [.slice ad1 p0.length cp2, v1]) 7 Try.func62 rfl rfl (by simp) S (fun a S => ?_)
  refine sSeq (fun K3 hK3 => ?_)
  refine sRegion ?_
  refine sMove (.bool false) S (wN rfl) (.inr rfl) rfl rfl (lb rfl) fun a S => ?_
  refine leafL (leafT (hK3 _ _ ?_))
  refine sSeq (fun K4 hK4 => ?_)
  refine sRegion ?_
  refine sMove (.slice ad1 p0.length cp2) S (wN rfl) (.inl rfl) rfl rfl (lb rfl) fun a S => ?_
  obtain ⟨u5, S⟩ := pLoad (r := (rL (rI .i64))) (q := v1) (x := p1) 1 S rfl
  obtain ⟨ad6, cp7, _, rfl, _⟩ := S.mem.know (i := 1) (e := fRep (rL (rI .i64)) (u5) p1) rfl
  refine sLoadV1 (vq := v1) 0 (.slice ad6 p1.length cp7) S (wN rfl) rfl rfl rfl rfl rfl (lb rfl) fun a S => ?_
  obtain ⟨r8, hx9, h⟩ := bindSome h
  have S1 := S.mem
  refine sCallQ (X := Unit) (f := 59) (vs := [.slice ad1 p0.length cp2, .slice ad6 p1.length cp7]) (val := fun _ => .bool r8) S (wN rfl) rfl callee59 rfl (S1.quiet [2, 1] rfl) (fun E1 w1 S1 => c_slices_Equal___int_int_ E1 w1 p0 (.slice ad1 p0.length cp2) p1 (.slice ad6 p1.length cp7) r8 hx9 S1) rfl (lb rfl) fun _ a w S => ?_
  refine sMove (.bool r8) S (wN rfl) (.inr rfl) rfl rfl (lb rfl) fun a S => ?_
  refine leafL (leafT (hK4 _ _ ?_))
  obtain rfl := Option.some.inj h
  exact wp_ret (sRet (.bool r8) S (rsl1 rfl (rvT (t := 3) (v := .bool r8) S rfl)) ⟨(), rfl, S.mem.sel [] [] (by decide) rfl rfl⟩)

end Go.Proofs.Ythfifeabomdlpaa
namespace Go.Proofs.Ythfifeabomdlpaa
open Go.RowKit
set_option linter.unusedVariables false

noncomputable def slices_IndexFunc_____int___int__s1_l1 (p0 : (List (List Int))) (p1 : (List Int)) : Int → Option (Int ⊕ (Int ⊕ Unit)) := fun s0 => match s0 with
  | s7 =>
    if decide (s7 < (p0.length : Int)) then
      Option.bind (idxO p0 s7) fun x17 =>
      Option.bind (F_block_Blocks_1_s0 x17 p1) fun r24 =>
      if r24 then
        some (.inr (.inl s7))
      else
        some (.inl (w64 (s7 + 1)))
    else
      some (.inr (.inr ()))
noncomputable def F_slices_IndexFunc_____int___int__s1 (p0 : (List (List Int))) (p1 : (List Int)) : Option Int :=
  Option.bind (α := Unit ⊕ Int) (
    Option.bind (whileO (slices_IndexFunc_____int___int__s1_l1 p0 p1) 0) fun z0 => match z0 with
      | .inl z =>
        some (.inr z)
      | .inr _ =>
        some (.inl ())) fun z0 => match z0 with
    | .inl _ =>
      some (-1)
    | .inr z =>
      some z
set_option maxHeartbeats 4000000 in
set_option maxRecDepth 100000 in
theorem c_slices_IndexFunc_____int___int__s1 (E : Nat → Prop) (w0 : World) (p0 : (List (List Int))) (v0 : Value) (p1 : (List Int)) (v1 : Value) (r : Int) (h : F_slices_IndexFunc_____int___int__s1 p0 p1 = some r) (S : St0 E [] w0 w0 [] [fRep (rL (rL (rI .i64))) (v0) p0, fPtr (rL (rI .i64)) (v1) p1]) :
    Calls Try.prog 61 #[v0, .func (.func 62) #[] #[v1]] w0 (Ret (X := Unit) E [] w0 (fun _ => .int .i64 r) (fun _ => []) (fun _ => [])) := by
  unfold F_slices_IndexFunc_____int___int__s1 at h
  obtain ⟨ad1, cp2, _, rfl, _⟩ := S.know (i := 0) (e := fRep (rL (rL (rI .i64))) (v0) p0) rfl
  refine sEnter (args := [.slice ad1 p0.length cp2, .func (.func 62) #[] #[v1]]) 19 Try.func61 rfl rfl (by simp) S (fun a S => ?_)
  refine sSeq (fun K3 hK3 => ?_)
  refine sRegion ?_
  refine sMove (iv 0) S (wN rfl) (.inr rfl) rfl rfl (lb rfl) fun a S => ?_
  refine leafL (leafT (hK3 _ _ ?_))
  obtain ⟨t4, h, g5⟩ := bindSome h
  refine sCut (fun a w => .inl () = t4 ∧ St [] E [] w0 19 a w [] [] []) ?_ (fun a w hI => ?_)
  rotate_left
  · obtain ⟨rfl, S⟩ := hI
    have h := g5
    clear g5
    try dsimp only at h
    refine sSeq (fun K28 hK28 => ?_)
    refine sRegion ?_
    refine sMove (iv (-1)) S (wN rfl) (.inr rfl) rfl rfl (lb rfl) fun a S => ?_
    refine leafL (leafT (hK28 _ _ ?_))
    obtain rfl := Option.some.inj h
    exact wp_ret (sRet (iv (-1)) S (rsl1 rfl (rvT (t := 4) (v := iv (-1)) S rfl)) ⟨(), rfl, S.mem.sel [] [] (by decide) rfl rfl⟩)
  refine sSeq (fun K6 hK6 => ?_)
  refine sRegion ?_
  refine sMove (.slice ad1 p0.length cp2) S (wN rfl) (.inl rfl) rfl rfl (lb rfl) fun a S => ?_
  refine sLen (ad := ad1) (m := p0.length) (c := cp2) S (wN rfl) rfl Try.underlying46 rfl rfl (lb rfl) fun a S => ?_
  refine sMove (iv 0) S (wN rfl) (.inl rfl) rfl rfl (lb rfl) fun a S => ?_
  refine leafL (leafT (hK6 _ _ ?_))
  refine wp_block ?_
  obtain ⟨t10, hl, g9⟩ := bindSome h
  refine sLoop hl (fun s0 a w => match s0 with | s7 => St [] E [] w0 19 a w [(0, .slice ad1 p0.length cp2), (1, .func (.func 62) #[] #[v1]), (7, iv (p0.length : Int)), (8, iv s7)] [] [fPtr (rL (rI .i64)) (v1) p1, fRep (rL (rL (rI .i64))) (.slice ad1 p0.length cp2) p0]) (S.fix [] [1, 0] (by decide) rfl rfl rfl) ?_
  clear hl h
  intro s7 a w c0 hI h hu8
  unfold slices_IndexFunc_____int___int__s1_l1 at h
  dsimp only at h hI
  have S := hI
  refine sSeq (fun K11 hK11 => ?_)
  refine sRegion ?_
  refine sBin (.bool (decide (s7 < (p0.length : Int)))) S (wN rfl) rfl rfl rfl (bLt _ _ _ _ .i64 s7 (p0.length : Int)) rfl (lb rfl) fun a S => ?_
  refine leafL (leafT (hK11 _ _ ?_))
  refine sSeq (fun K12 hK12 => ?_)
  rcases iteSome h with ⟨hc13, h⟩ | ⟨hc13, h⟩
  rotate_left
  · refine sCondF S rfl hc13 ?_
    obtain rfl := Option.some.inj h
    obtain rfl := hu8 _ rfl
    have h := g9
    clear g9
    try dsimp only at h
    exact wp_exit (xThen (xThen (xHit (leafT (⟨Option.some.inj h, S.fix [] [] (by decide) rfl rfl rfl⟩)))))
  refine sCondT S rfl hc13 ?_
  refine wp_skip (leafT (hK12 _ _ ?_))
  refine sSeq (fun K14 hK14 => ?_)
  refine wp_block ?_
  refine sSeq (fun K15 hK15 => ?_)
  refine sRegion ?_
  refine sMove (iv s7) S (wN rfl) (.inl rfl) rfl rfl (lb rfl) fun a S => ?_
  refine sMove (iv s7) S (wN rfl) (.inr rfl) rfl rfl (lb rfl) fun a S => ?_
  refine leafL (leafT (hK15 _ _ ?_))
  refine sSeq (fun K16 hK16 => ?_)
  refine sRegion ?_
  refine sMove (.func (.func 62) #[] #[v1]) S (wN rfl) (.inl rfl) rfl rfl (lb rfl) fun a S => ?_
  refine sMove (.slice ad1 p0.length cp2) S (wN rfl) (.inl rfl) rfl rfl (lb rfl) fun a S => ?_
  refine sMove (iv s7) S (wN rfl) (.inl rfl) rfl rfl (lb rfl) fun a S => ?_
  obtain ⟨x17, hx18, h⟩ := bindSome h
  obtain ⟨q19, hq20, S⟩ := pIdx (P := Try.prog) (r := (rL (rI .i64))) (v := .slice ad1 p0.length cp2) (xs := p0) (j := s7) 46 35 1 S Try.underlying46 rfl rfl hx18
  refine sIdxV (v := .slice ad1 p0.length cp2) (k := .i64) (j := s7) S (wN rfl) rfl rfl rfl hq20 rfl (lb rfl) fun a S => ?_
  obtain ⟨u21, S⟩ := pLoad (r := (rL (rI .i64))) (q := q19) (x := x17) 0 S rfl
  obtain ⟨ad22, cp23, _, rfl, _⟩ := S.mem.know (i := 1) (e := fRep (rL (rI .i64)) (u21) x17) rfl
  refine sLoadV1 (vq := q19) 0 (.slice ad22 x17.length cp23) S (wN rfl) rfl rfl rfl rfl rfl (lb rfl) fun a S => ?_
  obtain ⟨r24, hx25, h⟩ := bindSome h
  have S1 := S.mem
  refine sCallVQ (X := Unit) (g := 62) (vs := [.slice ad22 x17.length cp23]) (caps := [v1]) (val := fun _ => .bool r24) S (wN rfl) rfl rfl callee62 rfl (S1.quiet [1, 3] rfl) (fun E1 w1 S1 => c_block_Blocks_1_s0 E1 w1 x17 (.slice ad22 x17.length cp23) p1 v1 r24 hx25 S1) rfl (lb rfl) fun _ a w S => ?_
  refine leafL (leafT (hK16 _ _ ?_))
  rcases iteSome h with ⟨hc26, h⟩ | ⟨hc26, h⟩
  rotate_left
  · refine sCondF S rfl hc26 ?_
    refine wp_skip (leafB (leafT (hK14 _ _ ?_)))
    refine sRegion ?_
    refine sBin (iv (w64 (s7 + 1))) S (wN rfl) rfl rfl rfl (bAdd _ _ _ _ s7 1) rfl (lb rfl) fun a S => ?_
    refine sMove (iv (w64 (s7 + 1))) S (wN rfl) (.inl rfl) rfl rfl (lb rfl) fun a S => ?_
    exact leafL (leafT (⟨w64 (s7 + 1), (Option.some.inj h).symm, (S.fix [] [3, 4] (by decide) rfl rfl rfl)⟩))
  refine sCondT S rfl hc26 ?_
  refine sSeq (fun K27 hK27 => ?_)
  refine sRegion ?_
  refine sMove (iv s7) S (wN rfl) (.inl rfl) rfl rfl (lb rfl) fun a S => ?_
  refine sMove (iv s7) S (wN rfl) (.inr rfl) rfl rfl (lb rfl) fun a S => ?_
  refine leafL (leafT (hK27 _ _ ?_))
  obtain rfl := Option.some.inj h
  obtain rfl := hu8 _ rfl
  have h := g9
  clear g9
  try dsimp only at h
  obtain rfl := Option.some.inj h
  have h := g5
  clear g5
  try dsimp only at h
  obtain rfl := Option.some.inj h
  exact wp_ret (rBlock (rThen (rThen (rBlock (rThen (sRet (iv s7) S (rsl1 rfl (rvT (t := 4) (v := iv s7) S rfl)) ⟨(), rfl, S.mem.sel [] [] (by decide) rfl rfl⟩))))))

end Go.Proofs.Ythfifeabomdlpaa
namespace Go.Proofs.Ythfifeabomdlpaa
open Go.RowKit
set_option linter.unusedVariables false

def anc_slices_Chunk___int_int__1_0 : List (List Nat) := [[], [], [], [1, 2], [1, 2, 3], [0, 1, 2, 3, 4], [0, 1, 2, 3, 4, 5]]
noncomputable def slices_Chunk___int_int__1_l1 {σ τ : Type} (p0 : (List Int)) (p1 : Int) (B : σ → (List Int) → Option (σ ⊕ τ)) : (Int × σ) → Option ((Int × σ) ⊕ ((σ ⊕ τ) ⊕ (σ))) := fun s0 => match s0 with
  | (s2, gz3) =>
    if decide (s2 < (p0.length : Int)) then
      Option.bind (sliceO p0 s2 (p0.length : Int)) fun y20 =>
      Option.bind (slice3O p0 s2 (w64 (s2 + (if (y20.length : Int) < p1 then (y20.length : Int) else p1))) (w64 (s2 + (if (y20.length : Int) < p1 then (y20.length : Int) else p1)))) fun y35 =>
      Option.bind (B gz3 y35) fun y38 =>
      match y38 with
      | .inl gz40 =>
        some (.inl (w64 (s2 + p1), gz40))
      | .inr tz41 =>
        some (.inr (.inl (.inr tz41)))
    else
      some (.inr (.inr gz3))
noncomputable def I_slices_Chunk___int_int__1 (p0 : (List Int)) (p1 : Int) (σ τ : Type) (B : σ → (List Int) → Option (σ ⊕ τ)) (gz0 : σ) : Option (σ ⊕ τ) :=
  Option.bind (whileO (slices_Chunk___int_int__1_l1 p0 p1 B) (0, gz0)) fun z0 => match z0 with
    | .inl z =>
      some z
    | .inr gz7 =>
      some (.inl gz7)
set_option maxHeartbeats 4000000 in
set_option maxRecDepth 100000 in
theorem it_slices_Chunk___int_int__1 (p0 : (List Int)) (v0 : Value) (p1 : Int) (v1 : Value) : SeqF Try.prog 76 #[v0, v1] (fA1 (rL (rI .i64))) (I_slices_Chunk___int_int__1 p0 p1) [fPtr (rL (rI .i64)) (v0) p0, fPtr (rI .i64) (v1) p1] := by
  refine seqF_of (lb := [v0, v1]) (fun σ τ B gz0 r h l J Jx E w0 hC S hJ => ?_)
  unfold I_slices_Chunk___int_int__1 at h
  refine sEnterI (args := [.func (.yield l) #[] #[], v0, v1]) 31 Try.func76 rfl rfl (by simp) S (fun a S => ?_)
  refine sSeq (fun K1 hK1 => ?_)
  refine sRegion ?_
  refine sMove (iv 0) S (wN rfl) (.inr rfl) rfl rfl (lb rfl) fun a S => ?_
  refine leafL (leafT (hK1 _ _ ?_))
  refine wp_block ?_
  obtain ⟨t6, hl, g5⟩ := bindSome h
  refine sLoop hl (fun s0 a w => match s0 with | (s2, gz3) => ∃ E w0, J gz3 E w0 ∧ St [] E [] w0 31 a w [(0, .func (.yield l) #[] #[]), (1, v0), (2, v1), (4, iv s2)] [] [fPtr (rL (rI .i64)) (v0) p0, fPtr (rI .i64) (v1) p1]) ⟨_, _, hJ, S.fix [] [0, 1] (by decide) rfl rfl rfl⟩ ?_
  clear hl h
  intro s0 a w c0 hI h hu4
  obtain ⟨s2, gz3⟩ := s0
  unfold slices_Chunk___int_int__1_l1 at h
  dsimp only at h hI
  obtain ⟨E, w0, hJ, S⟩ := hI
  refine sSeq (fun K8 hK8 => ?_)
  refine sSeq (fun K9 hK9 => ?_)
  refine sRegion ?_
  refine sMove (iv s2) S (wN rfl) (.inl rfl) rfl rfl (lb rfl) fun a S => ?_
  obtain ⟨u10, S⟩ := pLoad (r := (rL (rI .i64))) (q := v0) (x := p0) 0 S rfl
  obtain ⟨ad11, cp12, _, rfl, _⟩ := S.mem.know (i := 1) (e := fRep (rL (rI .i64)) (u10) p0) rfl
  refine sLoadV1 (vq := v0) 0 (.slice ad11 p0.length cp12) S (wN rfl) rfl rfl rfl rfl rfl (lb rfl) fun a S => ?_
  refine sLen (ad := ad11) (m := p0.length) (c := cp12) S (wN rfl) rfl Try.underlying35 rfl rfl (lb rfl) fun a S => ?_
  refine sBin (.bool (decide (s2 < (p0.length : Int)))) S (wN rfl) rfl rfl rfl (bLt _ _ _ _ .i64 s2 (p0.length : Int)) rfl (lb rfl) fun a S => ?_
  refine leafL (leafT (hK9 _ _ ?_))
  rcases iteSome h with ⟨hc13, h⟩ | ⟨hc13, h⟩
  rotate_left
  · refine sCondF S rfl hc13 ?_
    obtain rfl := Option.some.inj h
    obtain rfl := hu4 _ rfl
    have h := g5
    clear g5
    try dsimp only at h
    exact wp_exit (xThen (xThen (xHit (sEnd (.tuple #[]) S (res0 rfl) (sGoI S hC hJ (Option.some.inj h) _)))))
  refine sCondT S rfl hc13 ?_
  refine wp_skip (leafT (hK8 _ _ ?_))
  refine sSeq (fun K14 hK14 => ?_)
  refine wp_block ?_
  refine sSeq (fun K15 hK15 => ?_)
  obtain ⟨y20, hx21, h⟩ := bindSome h
  obtain ⟨u24, S⟩ := pLoad (r := (rI .i64)) (q := v1) (x := p1) 3 S rfl
  obtain rfl : u24 = iv p1 := S.mem.know (i := 1) (e := fRep (rI .i64) (u24) p1) rfl
  obtain ⟨u25, S⟩ := pLoad (r := (rL (rI .i64))) (q := v0) (x := p0) 4 S rfl
  obtain ⟨ad26, cp27, _, rfl, _⟩ := S.mem.know (i := 1) (e := fRep (rL (rI .i64)) (u25) p0) rfl
  refine sDraw (nf := [3]) (W := [(0, 13, iv p1), (1, 14, .slice ad26 p0.length cp27), (2, 15, iv s2)]) rfl S ?_
  refine node_by (A := anc_slices_Chunk___int_int__1_0) (nf := [3]) (Y := []) (W := [(0, 13, iv p1), (1, 14, .slice ad26 p0.length cp27), (2, 15, iv s2)]) 7 (by kernel_rfl) (by kernel_rfl) (by kernel_rfl) (by kernel_rfl) (by kernel_rfl) [0, 1, 2] (by kernel_rfl) (by decide) (by decide) (aF 0 6 (by decide) ?_ (aF 1 5 (by decide) ?_ (aF 2 4 (by decide) ?_ (aN 3 3 (by decide) ?_ (aE 4 2 3 (by decide) (aE 5 1 3 (by decide) (aE 6 0 3 (by decide) (trivial)))))))) [] (fun q hq => by cases hq) (fun hY => absurd (hY 3 (by decide)) (by decide))
  · refine fI 13 (iv p1) [(2, v1)] 0 [none] rfl rfl rfl rfl rfl rfl fun G a w S => ?_
    refine sLoadV1 (vq := v1) 2 (iv p1) S (wN rfl) rfl rfl rfl rfl rfl (lb rfl) fun a S => ?_
    exact leafL ⟨rfl, S⟩
  · refine fI 14 (.slice ad26 p0.length cp27) [(1, v0)] 1 [none] rfl rfl rfl rfl rfl rfl fun G a w S => ?_
    refine sLoadV1 (vq := v0) 0 (.slice ad26 p0.length cp27) S (wN rfl) rfl rfl rfl rfl rfl (lb rfl) fun a S => ?_
    exact leafL ⟨rfl, S⟩
  · refine fI 15 (iv s2) [(4, iv s2)] 2 [none] rfl rfl rfl rfl rfl rfl fun G a w S => ?_
    refine sMove (iv s2) S (wN rfl) (.inl rfl) rfl rfl (lb rfl) fun a S => ?_
    exact leafL ⟨rfl, S⟩
  refine ⟨_, [(14, .slice ad26 p0.length cp27), (15, iv s2)], rfl, (srcs_of [some 1, some 2] rfl rfl rfl), fun G a w S => ?_⟩
  refine sSlice (r := (rI .i64)) (v := .slice ad26 p0.length cp27) (xs := p0) (vlo := (some (.int .i64 s2))) (vhi := none) (lo' := s2) (hi' := (p0.length : Int)) 1 S (wN rfl) rfl Try.underlying35 rfl rfl rfl rfl rfl (.inl rfl) (.inr ⟨rfl, rfl⟩) hx21 rfl (lb rfl) fun a ad28 cp29 S => ?_
  refine leafL ⟨rfl, _, _, .inl ⟨16, (.slice ad28 y20.length cp29), [(4, 17, iv (y20.length : Int)), (5, 18, iv (if (y20.length : Int) < p1 then (y20.length : Int) else p1)), (6, 5, iv (if (y20.length : Int) < p1 then (y20.length : Int) else p1))], rfl, S, hz_of rfl, ?_⟩⟩
  refine node_by (A := anc_slices_Chunk___int_int__1_0) (nf := [3]) (Y := [3]) 7 (by kernel_rfl) (by kernel_rfl) (by kernel_rfl) (by kernel_rfl) (by kernel_rfl) [4, 5, 6, 3, 0, 1, 2] (by kernel_rfl) (by decide) (by decide) (aF 0 6 (by decide) ?_ (aD 1 5 3 (by decide) (aD 2 4 3 (by decide) (aY 3 3 (by decide) (aF 4 2 (by decide) ?_ (aF 5 1 (by decide) ?_ (aF 6 0 (by decide) ?_ (trivial)))))))) [(0, .func (.yield l) #[] #[]), (1, v0), (2, v1), (4, iv s2), (5, iv (if (y20.length : Int) < p1 then (y20.length : Int) else p1))] (fin_of [none, none, none, none, some 2] rfl (by kernel_rfl) (by kernel_rfl)) (fun _ a w S => ?_)
  · refine fI 13 (iv p1) [(2, v1)] 4 [none] rfl rfl rfl rfl rfl rfl fun G a w S => ?_
    refine sLoadV1 (vq := v1) 3 (iv p1) S (wN rfl) rfl rfl rfl rfl rfl (lb rfl) fun a S => ?_
    exact leafL ⟨rfl, S⟩
  · refine fI 17 (iv (y20.length : Int)) [(16, .slice ad28 y20.length cp29)] 0 [some 3] rfl rfl rfl rfl rfl rfl fun G a w S => ?_
    refine sLen (ad := ad28) (m := y20.length) (c := cp29) S (wN rfl) rfl Try.underlying35 rfl rfl (lb rfl) fun a S => ?_
    exact leafL ⟨rfl, S⟩
  · refine fI 18 (iv (if (y20.length : Int) < p1 then (y20.length : Int) else p1)) [(13, iv p1), (17, iv (y20.length : Int))] 1 [some 4, some 0] rfl rfl rfl rfl rfl rfl fun G a w S => ?_
    refine sMin2 (p := p1) (q := (y20.length : Int)) S (wN rfl) rfl rfl rfl rfl (lb rfl) fun a S => ?_
    exact leafL ⟨rfl, S⟩
  · refine fI 5 (iv (if (y20.length : Int) < p1 then (y20.length : Int) else p1)) [(18, iv (if (y20.length : Int) < p1 then (y20.length : Int) else p1))] 2 [some 1] rfl rfl rfl rfl rfl rfl fun G a w S => ?_
    refine sMove (iv (if (y20.length : Int) < p1 then (y20.length : Int) else p1)) S (wN rfl) (.inr rfl) rfl rfl (lb rfl) fun a S => ?_
    exact leafL ⟨rfl, S⟩
  refine leafT (hK15 _ _ ?_)
  refine sSeq (fun K30 hK30 => ?_)
  refine sRegionY ?_
  refine sSplitR (by repeat (first | exact roundU_out | exact it_out | exact lo_false | refine lo_then ?_ | refine lo_block ?_)) 10 rfl (fun K31 hK31 => ?_)
  refine sMove (.func (.yield l) #[] #[]) S (wN rfl) (.inl rfl) rfl rfl (lb rfl) fun a S => ?_
  obtain ⟨u32, S⟩ := pLoad (r := (rL (rI .i64))) (q := v0) (x := p0) 7 S rfl
  obtain ⟨ad33, cp34, _, rfl, _⟩ := S.mem.know (i := 1) (e := fRep (rL (rI .i64)) (u32) p0) rfl
  refine sLoadV1 (vq := v0) 0 (.slice ad33 p0.length cp34) S (wN rfl) rfl rfl rfl rfl rfl (lb rfl) fun a S => ?_
  refine sMove (iv s2) S (wN rfl) (.inl rfl) rfl rfl (lb rfl) fun a S => ?_
  refine sMove (iv s2) S (wN rfl) (.inl rfl) rfl rfl (lb rfl) fun a S => ?_
  refine sMove (iv (if (y20.length : Int) < p1 then (y20.length : Int) else p1)) S (wN rfl) (.inl rfl) rfl rfl (lb rfl) fun a S => ?_
  refine sBin (iv (w64 (s2 + (if (y20.length : Int) < p1 then (y20.length : Int) else p1)))) S (wN rfl) rfl rfl rfl (bAdd _ _ _ _ s2 (if (y20.length : Int) < p1 then (y20.length : Int) else p1)) rfl (lb rfl) fun a S => ?_
  refine sMove (iv s2) S (wN rfl) (.inl rfl) rfl rfl (lb rfl) fun a S => ?_
  refine sMove (iv (if (y20.length : Int) < p1 then (y20.length : Int) else p1)) S (wN rfl) (.inl rfl) rfl rfl (lb rfl) fun a S => ?_
  refine sBin (iv (w64 (s2 + (if (y20.length : Int) < p1 then (y20.length : Int) else p1)))) S (wN rfl) rfl rfl rfl (bAdd _ _ _ _ s2 (if (y20.length : Int) < p1 then (y20.length : Int) else p1)) rfl (lb rfl) fun a S => ?_
  obtain ⟨y35, hx36, h⟩ := bindSome h
  refine sSlice3 (r := (rI .i64)) (ad := ad33) (c := cp34) (xs := p0) (vlo := (some (.int .i64 s2))) (lo' := s2) (hi' := w64 (s2 + (if (y20.length : Int) < p1 then (y20.length : Int) else p1))) (mx' := w64 (s2 + (if (y20.length : Int) < p1 then (y20.length : Int) else p1))) 1 S (wN rfl) rfl Try.underlying35 rfl rfl rfl rfl rfl rfl (.inl rfl) hx36 rfl (lb rfl) fun a ad37 S => ?_
  refine leafL ⟨rfl, hK31 _ _ ?_⟩
  obtain ⟨y38, hy39, h⟩ := bindSome h
  refine sYieldI y35 [.slice ad37 y35.length (Int.toNat (w64 (s2 + (if (y20.length : Int) < p1 then (y20.length : Int) else p1))) - Int.toNat s2)] S hC hJ hy39 (fA1_mk (S.mem.know (i := 0) (e := fRep (rL (rI .i64)) (.slice ad37 y35.length (Int.toNat (w64 (s2 + (if (y20.length : Int) < p1 then (y20.length : Int) else p1))) - Int.toNat s2)) y35) rfl)) (wN rfl) rfl rfl rfl rfl (by decide) (fun gz40 E a w hb hJ S => ?_) (fun tz41 a w hb hJ S => ?_)
  · obtain rfl := hb
    dsimp only at h
    refine list_inR (by repeat (first | exact roundU_out | exact it_out | exact lo_false | refine lo_then ?_ | refine lo_block ?_)) _ rfl _ _ ?_
    refine sNot (b := true) S (wN rfl) rfl rfl rfl (lb rfl) fun a S => ?_
    refine leafL (leafT (hK30 _ _ ?_))
    refine sCondF S rfl rfl ?_
    refine wp_skip (leafB (leafT (hK14 _ _ ?_)))
    refine sRegion ?_
    refine sMove (iv s2) S (wN rfl) (.inl rfl) rfl rfl (lb rfl) fun a S => ?_
    obtain ⟨u42, S⟩ := pLoad (r := (rI .i64)) (q := v1) (x := p1) 11 S rfl
    obtain rfl : u42 = iv p1 := S.mem.know (i := 1) (e := fRep (rI .i64) (u42) p1) rfl
    refine sLoadV1 (vq := v1) 0 (iv p1) S (wN rfl) rfl rfl rfl rfl rfl (lb rfl) fun a S => ?_
    refine sBin (iv (w64 (s2 + p1))) S (wN rfl) rfl rfl rfl (bAdd _ _ _ _ s2 p1) rfl (lb rfl) fun a S => ?_
    refine sMove (iv (w64 (s2 + p1))) S (wN rfl) (.inr rfl) rfl rfl (lb rfl) fun a S => ?_
    exact leafL (leafT (⟨(w64 (s2 + p1), gz40), (Option.some.inj h).symm, ⟨_, _, hJ, S.fix [] [12, 13] (by decide) rfl rfl rfl⟩⟩))
  · obtain rfl := hb
    dsimp only at h
    refine list_inR (by repeat (first | exact roundU_out | exact it_out | exact lo_false | refine lo_then ?_ | refine lo_block ?_)) _ rfl _ _ ?_
    refine sNot (b := false) S (wN rfl) rfl rfl rfl (lb rfl) fun a S => ?_
    refine leafL (leafT (hK30 _ _ ?_))
    refine sCondT S rfl rfl ?_
    obtain rfl := Option.some.inj h
    obtain rfl := hu4 _ rfl
    have h := g5
    clear g5
    try dsimp only at h
    exact wp_ret (rBlock (rThen (rThen (rBlock (sRet (.tuple #[]) S (res0 rfl) (sStopI S hC hJ (Option.some.inj h) _))))))

end Go.Proofs.Ythfifeabomdlpaa
