/- Several texts in one: G19 G20 G54s0 G51s1 G55s0 G72s0 G77s0 G71s0 G56 G21 -/
import Derived.WalkKit
import Derived.Maps.AppendAt
import Derived.Deep.AppendLies
import Derived.KernelRfl
import Derived.Laws.OwnMore
import Derived.Great.BuildSlice
import Derived.Orders
import Derived.Laws.StructEq
import Derived.ChangeKeysEq
import Derived.Defers
import Derived.Laws.BytesString
import Derived.RangeFuncNested
import Derived.RangeFuncBound
import Derived.RangeFuncCalls
import Derived.RangeFuncLeaves
import Derived.OrdersIn
import Derived.LoopNIn
import Derived.ArgAppend
import Derived.Test.YthfifeabomdlpaaProg
import Derived.ProofKit
import Derived.OpenShut
import Derived.ChangeOld
import Derived.Deep.Slices
import Derived.Lib.SmallJoins
import Derived.JoinedOf
import Derived.JoinedAt
import Derived.Below
import Derived.Test.YthfifeabomdlpaaRows
import Derived.Test.YthfifeabomdlpaaMBlockParts2
namespace Go.Proofs.Ythfifeabomdlpaa
open Go.RowKit
set_option linter.unusedVariables false

noncomputable def block_Units_l1 (z69 : Int) (p0 : api_Grid) (p1 : Int) (p2 : Int) (s46 : Int) : (List api_Grid × List Int × Int) → Option ((List api_Grid × List Int × Int) ⊕ (List api_Grid × List Int)) := fun s0 => match s0 with
  | (s71, s74, s77) =>
    if decide (s77 < z69) then
      Option.bind (F_block_part p0 p1 p2 s77 s46) fun r93 =>
      Option.bind (F_slices_IndexFunc___api_Grid_api_Grid__s0 s71 r93) fun r102 =>
      Option.bind (α := (List api_Grid × Int)) (
        if decide (r102 < 0) then
          Option.bind (appO s71 [r93]) fun l115 =>
          some (l115, (s71.length : Int))
        else
          some (s71, r102)) fun (o104, o107) =>
      Option.bind (appO s74 ([o107] : List Int)) fun l121 =>
      some (.inl (o104, l121, w64 (s77 + 1)))
    else
      some (.inr (s71, s74))
noncomputable def block_Units_l2 (z38 : Int) (p0 : api_Grid) (p1 : Int) (p2 : Int) : (List api_Grid × List Int × Int) → Option ((List api_Grid × List Int × Int) ⊕ (List api_Grid × List Int)) := fun s0 => match s0 with
  | (s40, s43, s46) =>
    if decide (s46 < z38) then
      Option.bind (α := (List api_Grid × List Int)) (
        Option.bind (quoI p0.W p1) fun z69 =>
        Option.bind (whileO (block_Units_l1 z69 p0 p1 p2 s46) (s40, s43, 0)) fun (e81, e84) =>
          some (e81, e84)) fun (o59, o62) =>
      some (.inl (o59, o62, w64 (s46 + 1)))
    else
      some (.inr (s40, s43))
noncomputable def F_block_Units (p0 : api_Grid) (p1 : Int) (p2 : Int) : Option ((List api_Grid) × (List Int) × Int) :=
  Option.bind (F_block_checked [p0]) fun r11 =>
  if r11 != 0 then
    some (([] : (List api_Grid)), ([] : (List Int)), r11)
  else
    Option.bind (α := Bool) (
      if decide (p1 < 1) then
        some true
      else
        if decide (p2 < 1) then
          some true
        else
          Option.bind (remI p0.W p1) fun z22 =>
          if z22 != 0 then
            some true
          else
            Option.bind (remI p0.H p2) fun z25 =>
            some (z25 != 0)) fun o17 =>
    if o17 then
      some (([] : (List api_Grid)), ([] : (List Int)), 26)
    else
      Option.bind (α := (List api_Grid × List Int)) (
        Option.bind (quoI p0.H p2) fun z38 =>
        Option.bind (whileO (block_Units_l2 z38 p0 p1 p2) (([] : List api_Grid), ([] : List Int), 0)) fun (e50, e53) =>
          some (e50, e53)) fun (o29, o32) =>
      some (o29, o32, 0)
def c_block_Units_val (r : ((List api_Grid) × (List Int) × Int)) (x : Value × Value) : Value := .tuple #[x.1, x.2, .int .i64 r.2.2]
def c_block_Units_D (r : ((List api_Grid) × (List Int) × Int)) (x : Value × Value) : List Fact := [fRep (rL r_api_Grid) x.1 r.1, fRep (rL (rI .i64)) x.2 r.2.1]
set_option maxHeartbeats 4000000 in
set_option maxRecDepth 100000 in
theorem c_block_Units (E : Nat → Prop) (w0 : World) (p0 : api_Grid) (v0 : Value) (p1 : Int) (p2 : Int) (r : ((List api_Grid) × (List Int) × Int)) (h : F_block_Units p0 p1 p2 = some r) (S : St0 E [] w0 w0 [] [fRep r_api_Grid (v0) p0]) :
    Calls Try.prog 19 #[v0, iv p1, iv p2] w0 (Ret (X := Value × Value) E [] w0 (c_block_Units_val r) (fun _ => []) (c_block_Units_D r)) := by
  unfold F_block_Units at h
  obtain ⟨u1, rfl, hu2⟩ := S.know (i := 0) (e := fRep r_api_Grid (v0) p0) rfl
  have S := S.learn (fRep (rL rB) u1 p0.Bits) hu2
  obtain ⟨ad3, cp4, _, rfl, _⟩ := hu2
  refine sEnter (args := [.agg #[iv p0.W, iv p0.H, .slice ad3 p0.Bits.length cp4], iv p1, iv p2]) 79 Try.func19 rfl rfl (by simp) S (fun a S => ?_)
  refine sSeq (fun K5 hK5 => ?_)
  refine sRegion ?_
  refine sBox (v := .agg #[iv p0.W, iv p0.H, .slice ad3 p0.Bits.length cp4]) S (wN rfl) rfl rfl [iv p0.W, iv p0.H, .slice ad3 p0.Bits.length cp4] rfl rfl (lb rfl) fun a b6 w S => ?_
  refine sMove (.slice none 0 0) S (wN rfl) (.inr rfl) rfl rfl (lb rfl) fun a S => ?_
  refine sMove (.slice none 0 0) S (wN rfl) (.inr rfl) rfl rfl (lb rfl) fun a S => ?_
  refine sMove (iv 0) S (wN rfl) (.inr rfl) rfl rfl (lb rfl) fun a S => ?_
  refine leafL (leafT (hK5 _ _ ?_))
  refine sSeq (fun K7 hK7 => ?_)
  refine sSeq (fun K8 hK8 => ?_)
  refine sRegion ?_
  refine sLoadN (p := b6) (off := 0) (T := 24) (vs := [iv p0.W, iv p0.H, .slice ad3 p0.Bits.length cp4]) 0 [iv p0.W, iv p0.H, .slice ad3 p0.Bits.length cp4] S (wN rfl) rfl rfl rfl rfl rfl rfl rfl (lb rfl) fun a S => ?_
  refine sLit (r := r_api_Grid) (T := 24) (xs := [p0]) [(0, .agg #[iv p0.W, iv p0.H, .slice ad3 p0.Bits.length cp4])] 1 [.agg #[iv p0.W, iv p0.H, .slice ad3 p0.Bits.length cp4]] [iv p0.W, iv p0.H, .slice ad3 p0.Bits.length cp4] (.agg #[iv 0, iv 0, .slice none 0 0]) 40 S (wN rfl) rfl rfl Try.underlying34 rfl (by decide) (by decide) (by kernel_rfl) rfl (fun E1 w1 hE => All.cons (r_api_Grid.mono hE (S.mem.know (i := 1) (e := fRep r_api_Grid (.agg #[iv p0.W, iv p0.H, .slice ad3 p0.Bits.length cp4]) p0) rfl)) (All.nil _ _ _)) rfl rfl (lb rfl) fun a w ad9 cp10 S => ?_
  obtain ⟨r11, hx12, h⟩ := bindSome h
  have S1 := S.mem
  have S1 := S1.shutR (r := r_api_Grid) (T := 24) (v := .slice ad9 [p0].length cp10) (xs := [p0]) 0 rfl
  refine sCallQ (X := Unit) (f := 41) (vs := [.slice ad9 [p0].length cp10]) (val := fun _ => iv r11) S (wN rfl) rfl callee41 rfl (S1.quiet [0] rfl) (fun E1 w1 S1 => c_block_checked E1 w1 [p0] (.slice ad9 [p0].length cp10) r11 hx12 S1) rfl (lb rfl) fun _ a w S => ?_
  refine sMove (iv r11) S (wN rfl) (.inr rfl) rfl rfl (lb rfl) fun a S => ?_
  refine leafL (leafT (hK8 _ _ ?_))
  refine sSeq (fun K13 hK13 => ?_)
  refine sRegion ?_
  refine sMove (iv r11) S (wN rfl) (.inl rfl) rfl rfl (lb rfl) fun a S => ?_
  refine sBin (.bool (r11 != 0)) S (wN rfl) rfl rfl rfl (bNe _ _ _ _ .i64 r11 0) rfl (lb rfl) fun a S => ?_
  refine leafL (leafT (hK13 _ _ ?_))
  rcases iteSome h with ⟨hc14, h⟩ | ⟨hc14, h⟩
  · refine sCondT S rfl hc14 ?_
    refine sSeq (fun K15 hK15 => ?_)
    refine sRegion ?_
    refine sMove (iv r11) S (wN rfl) (.inl rfl) rfl rfl (lb rfl) fun a S => ?_
    refine sMove (.slice none 0 0) S (wN rfl) (.inr rfl) rfl rfl (lb rfl) fun a S => ?_
    refine sMove (.slice none 0 0) S (wN rfl) (.inr rfl) rfl rfl (lb rfl) fun a S => ?_
    refine sMove (iv r11) S (wN rfl) (.inr rfl) rfl rfl (lb rfl) fun a S => ?_
    refine leafL (leafT (hK15 _ _ ?_))
    obtain rfl := Option.some.inj h
    have S := S.learn (fRep (rL r_api_Grid) (.slice none 0 0) ([] : (List api_Grid))) (rL_nil _ _ _)
    have S := S.learn (fRep (rL (rI .i64)) (.slice none 0 0) ([] : (List Int))) (rL_nil _ _ _)
    exact wp_ret (rThen (sRet (.tuple #[.slice none 0 0, .slice none 0 0, iv r11]) S (rsl3 rfl (rvT (t := 6) (v := .slice none 0 0) S rfl) (rvT (t := 7) (v := .slice none 0 0) S rfl) (rvT (t := 8) (v := iv r11) S rfl)) ⟨((.slice none 0 0), (.slice none 0 0)), rfl, S.mem.sel [] [1, 0] (by decide) rfl rfl⟩))
  refine sCondF S rfl hc14 ?_
  refine wp_skip (leafT (hK7 _ _ ?_))
  refine sSeq (fun K16 hK16 => ?_)
  obtain ⟨t18, h, g19⟩ := bindSome h
  refine sCut (fun a w => ∃ o17, o17 = t18 ∧ St [] E [] w0 79 a w [(1, iv p1), (2, iv p2), (3, .pointer (some ⟨b6, 0, none⟩)), (6, .slice none 0 0), (7, .slice none 0 0), (39, .bool o17)] [eBox b6 24 [iv p0.W, iv p0.H, .slice ad3 p0.Bits.length cp4]] [fRep (rL rB) (.slice ad3 p0.Bits.length cp4) p0.Bits]) ?_ (fun a w hI => ?_)
  · refine sRegion ?_
    refine sMove (iv p1) S (wN rfl) (.inl rfl) rfl rfl (lb rfl) fun a S => ?_
    refine sBin (.bool (decide (p1 < 1))) S (wN rfl) rfl rfl rfl (bLt _ _ _ _ .i64 p1 1) rfl (lb rfl) fun a S => ?_
    refine sMove (.bool (decide (p1 < 1))) S (wN rfl) (.inl rfl) rfl rfl (lb rfl) fun a S => ?_
    rcases iteSome h with ⟨hc20, h⟩ | ⟨hc20, h⟩
    · refine sSkip 2 false 22 23 S rfl rfl rfl hc20 rfl (lb rfl) fun a S => ?_
      refine sSkip 2 false 22 24 S rfl rfl rfl hc20 rfl (lb rfl) fun a S => ?_
      refine sPickT (.bool true) S (wN rfl) rfl rfl hc20 rfl rfl (lb rfl) fun a S => ?_
      refine sMove (.bool true) S (wN rfl) (.inl rfl) rfl rfl (lb rfl) fun a S => ?_
      refine sSkip 6 false 26 27 S rfl rfl rfl rfl rfl (lb rfl) fun a S => ?_
      refine sSkip 6 false 26 28 S rfl rfl rfl rfl rfl (lb rfl) fun a S => ?_
      refine sSkip 6 false 26 29 S rfl rfl rfl rfl rfl (lb rfl) fun a S => ?_
      refine sSkip 6 false 26 30 S rfl rfl rfl rfl rfl (lb rfl) fun a S => ?_
      refine sSkip 6 false 26 31 S rfl rfl rfl rfl rfl (lb rfl) fun a S => ?_
      refine sPickT (.bool true) S (wN rfl) rfl rfl rfl rfl rfl (lb rfl) fun a S => ?_
      refine sMove (.bool true) S (wN rfl) (.inl rfl) rfl rfl (lb rfl) fun a S => ?_
      refine sSkip 13 false 33 34 S rfl rfl rfl rfl rfl (lb rfl) fun a S => ?_
      refine sSkip 13 false 33 35 S rfl rfl rfl rfl rfl (lb rfl) fun a S => ?_
      refine sSkip 13 false 33 36 S rfl rfl rfl rfl rfl (lb rfl) fun a S => ?_
      refine sSkip 13 false 33 37 S rfl rfl rfl rfl rfl (lb rfl) fun a S => ?_
      refine sSkip 13 false 33 38 S rfl rfl rfl rfl rfl (lb rfl) fun a S => ?_
      refine sPickT (.bool true) S (wN rfl) rfl rfl rfl rfl rfl (lb rfl) fun a S => ?_
      exact leafL (leafT (⟨true, Option.some.inj h, S.fix [1] [0] (by decide) rfl rfl rfl⟩))
    refine sMove (iv p2) S (wG 2 false 22 rfl rfl rfl hc20) (.inl rfl) rfl rfl (lb rfl) fun a S => ?_
    refine sBin (.bool (decide (p2 < 1))) S (wG 2 false 22 rfl rfl rfl hc20) rfl rfl rfl (bLt _ _ _ _ .i64 p2 1) rfl (lb rfl) fun a S => ?_
    refine sPickF (.bool (decide (p2 < 1))) S (wN rfl) rfl rfl hc20 rfl rfl (lb rfl) fun a S => ?_
    refine sMove (.bool (decide (p2 < 1))) S (wN rfl) (.inl rfl) rfl rfl (lb rfl) fun a S => ?_
    rcases iteSome h with ⟨hc21, h⟩ | ⟨hc21, h⟩
    · refine sSkip 6 false 26 27 S rfl rfl rfl hc21 rfl (lb rfl) fun a S => ?_
      refine sSkip 6 false 26 28 S rfl rfl rfl hc21 rfl (lb rfl) fun a S => ?_
      refine sSkip 6 false 26 29 S rfl rfl rfl hc21 rfl (lb rfl) fun a S => ?_
      refine sSkip 6 false 26 30 S rfl rfl rfl hc21 rfl (lb rfl) fun a S => ?_
      refine sSkip 6 false 26 31 S rfl rfl rfl hc21 rfl (lb rfl) fun a S => ?_
      refine sPickT (.bool true) S (wN rfl) rfl rfl hc21 rfl rfl (lb rfl) fun a S => ?_
      refine sMove (.bool true) S (wN rfl) (.inl rfl) rfl rfl (lb rfl) fun a S => ?_
      refine sSkip 13 false 33 34 S rfl rfl rfl rfl rfl (lb rfl) fun a S => ?_
      refine sSkip 13 false 33 35 S rfl rfl rfl rfl rfl (lb rfl) fun a S => ?_
      refine sSkip 13 false 33 36 S rfl rfl rfl rfl rfl (lb rfl) fun a S => ?_
      refine sSkip 13 false 33 37 S rfl rfl rfl rfl rfl (lb rfl) fun a S => ?_
      refine sSkip 13 false 33 38 S rfl rfl rfl rfl rfl (lb rfl) fun a S => ?_
      refine sPickT (.bool true) S (wN rfl) rfl rfl rfl rfl rfl (lb rfl) fun a S => ?_
      exact leafL (leafT (⟨true, Option.some.inj h, S.fix [1] [0] (by decide) rfl rfl rfl⟩))
    refine sField (b := b6) (off := 0) 0 0 S (wG 6 false 26 rfl rfl rfl hc21) rfl rfl rfl rfl rfl (lb rfl) fun a S => ?_
    refine sLoad1 (p := b6) (off := 0) (T := 24) (vs := [iv p0.W, iv p0.H, .slice ad3 p0.Bits.length cp4]) 1 (iv p0.W) S (wG 6 false 26 rfl rfl rfl hc21) rfl rfl rfl rfl rfl rfl (lb rfl) fun a S => ?_
    refine sMove (iv p1) S (wG 6 false 26 rfl rfl rfl hc21) (.inl rfl) rfl rfl (lb rfl) fun a S => ?_
    obtain ⟨z22, hx23, h⟩ := bindSome h
    refine sBin (iv z22) S (wG 6 false 26 rfl rfl rfl hc21) rfl rfl rfl (bRem _ _ _ _ (x := p0.W) (y := p1) hx23) rfl (lb rfl) fun a S => ?_
    refine sBin (.bool (z22 != 0)) S (wG 6 false 26 rfl rfl rfl hc21) rfl rfl rfl (bNe _ _ _ _ .i64 z22 0) rfl (lb rfl) fun a S => ?_
    refine sPickF (.bool (z22 != 0)) S (wN rfl) rfl rfl hc21 rfl rfl (lb rfl) fun a S => ?_
    refine sMove (.bool (z22 != 0)) S (wN rfl) (.inl rfl) rfl rfl (lb rfl) fun a S => ?_
    rcases iteSome h with ⟨hc24, h⟩ | ⟨hc24, h⟩
    · refine sSkip 13 false 33 34 S rfl rfl rfl hc24 rfl (lb rfl) fun a S => ?_
      refine sSkip 13 false 33 35 S rfl rfl rfl hc24 rfl (lb rfl) fun a S => ?_
      refine sSkip 13 false 33 36 S rfl rfl rfl hc24 rfl (lb rfl) fun a S => ?_
      refine sSkip 13 false 33 37 S rfl rfl rfl hc24 rfl (lb rfl) fun a S => ?_
      refine sSkip 13 false 33 38 S rfl rfl rfl hc24 rfl (lb rfl) fun a S => ?_
      refine sPickT (.bool true) S (wN rfl) rfl rfl hc24 rfl rfl (lb rfl) fun a S => ?_
      exact leafL (leafT (⟨true, Option.some.inj h, S.fix [1] [0] (by decide) rfl rfl rfl⟩))
    refine sField (b := b6) (off := 0) 1 1 S (wG 13 false 33 rfl rfl rfl hc24) rfl rfl rfl rfl rfl (lb rfl) fun a S => ?_
    refine sLoad1 (p := b6) (off := 1) (T := 24) (vs := [iv p0.W, iv p0.H, .slice ad3 p0.Bits.length cp4]) 1 (iv p0.H) S (wG 13 false 33 rfl rfl rfl hc24) rfl rfl rfl rfl rfl rfl (lb rfl) fun a S => ?_
    refine sMove (iv p2) S (wG 13 false 33 rfl rfl rfl hc24) (.inl rfl) rfl rfl (lb rfl) fun a S => ?_
    obtain ⟨z25, hx26, h⟩ := bindSome h
    refine sBin (iv z25) S (wG 13 false 33 rfl rfl rfl hc24) rfl rfl rfl (bRem _ _ _ _ (x := p0.H) (y := p2) hx26) rfl (lb rfl) fun a S => ?_
    refine sBin (.bool (z25 != 0)) S (wG 13 false 33 rfl rfl rfl hc24) rfl rfl rfl (bNe _ _ _ _ .i64 z25 0) rfl (lb rfl) fun a S => ?_
    refine sPickF (.bool (z25 != 0)) S (wN rfl) rfl rfl hc24 rfl rfl (lb rfl) fun a S => ?_
    exact leafL (leafT (⟨z25 != 0, Option.some.inj h, S.fix [1] [0] (by decide) rfl rfl rfl⟩))
  obtain ⟨o17, rfl, S⟩ := hI
  have h := g19
  clear g19
  try dsimp only at h
  rcases iteSome h with ⟨hc27, h⟩ | ⟨hc27, h⟩
  · refine sCondT S rfl hc27 ?_
    refine sSeq (fun K28 hK28 => ?_)
    refine sRegion ?_
    refine sMove (.slice none 0 0) S (wN rfl) (.inr rfl) rfl rfl (lb rfl) fun a S => ?_
    refine sMove (.slice none 0 0) S (wN rfl) (.inr rfl) rfl rfl (lb rfl) fun a S => ?_
    refine sMove (iv 26) S (wN rfl) (.inr rfl) rfl rfl (lb rfl) fun a S => ?_
    refine leafL (leafT (hK28 _ _ ?_))
    obtain rfl := Option.some.inj h
    have S := S.learn (fRep (rL r_api_Grid) (.slice none 0 0) ([] : (List api_Grid))) (rL_nil _ _ _)
    have S := S.learn (fRep (rL (rI .i64)) (.slice none 0 0) ([] : (List Int))) (rL_nil _ _ _)
    exact wp_ret (rThen (sRet (.tuple #[.slice none 0 0, .slice none 0 0, iv 26]) S (rsl3 rfl (rvT (t := 6) (v := .slice none 0 0) S rfl) (rvT (t := 7) (v := .slice none 0 0) S rfl) (rvT (t := 8) (v := iv 26) S rfl)) ⟨((.slice none 0 0), (.slice none 0 0)), rfl, S.mem.sel [] [1, 0] (by decide) rfl rfl⟩))
  refine sCondF S rfl hc27 ?_
  refine wp_skip (leafT (hK16 _ _ ?_))
  obtain ⟨t35, h, g36⟩ := bindSome h
  refine sCut (fun a w => ∃ o29, ∃ o32, (o29, o32) = t35 ∧ ∃ ad30, ∃ cp31, ∃ ad33, ∃ cp34, St [] E [] w0 79 a w [(6, .slice ad30 o29.length cp31), (7, .slice ad33 o32.length cp34)] [eRow r_api_Grid 24 (.slice ad30 o29.length cp31) o29, eRow (rI .i64) 3 (.slice ad33 o32.length cp34) o32] []) ?_ (fun a w hI => ?_)
  rotate_left
  · obtain ⟨o29, o32, rfl, ad30, cp31, ad33, cp34, S⟩ := hI
    have h := g36
    clear g36
    try dsimp only at h
    refine sSeq (fun K125 hK125 => ?_)
    refine sRegion ?_
    refine sMove (.slice ad30 o29.length cp31) S (wN rfl) (.inl rfl) rfl rfl (lb rfl) fun a S => ?_
    refine sMove (.slice ad33 o32.length cp34) S (wN rfl) (.inl rfl) rfl rfl (lb rfl) fun a S => ?_
    refine sMove (.slice ad30 o29.length cp31) S (wN rfl) (.inr rfl) rfl rfl (lb rfl) fun a S => ?_
    refine sMove (.slice ad33 o32.length cp34) S (wN rfl) (.inr rfl) rfl rfl (lb rfl) fun a S => ?_
    refine sMove (iv 0) S (wN rfl) (.inr rfl) rfl rfl (lb rfl) fun a S => ?_
    refine leafL (leafT (hK125 _ _ ?_))
    obtain rfl := Option.some.inj h
    have S := S.shutR (r := r_api_Grid) (T := 24) (v := .slice ad30 o29.length cp31) (xs := o29) 0 rfl
    have S := S.shutR (r := (rI .i64)) (T := 3) (v := .slice ad33 o32.length cp34) (xs := o32) 0 rfl
    exact wp_ret (sRet (.tuple #[.slice ad30 o29.length cp31, .slice ad33 o32.length cp34, iv 0]) S (rsl3 rfl (rvT (t := 6) (v := .slice ad30 o29.length cp31) S rfl) (rvT (t := 7) (v := .slice ad33 o32.length cp34) S rfl) (rvT (t := 8) (v := iv 0) S rfl)) ⟨((.slice ad30 o29.length cp31), (.slice ad33 o32.length cp34)), rfl, S.mem.sel [] [1, 0] (by decide) rfl rfl⟩)
  refine sSeq (fun K37 hK37 => ?_)
  refine sRegion ?_
  refine sField (b := b6) (off := 0) 1 1 S (wN rfl) rfl rfl rfl rfl rfl (lb rfl) fun a S => ?_
  refine sLoad1 (p := b6) (off := 1) (T := 24) (vs := [iv p0.W, iv p0.H, .slice ad3 p0.Bits.length cp4]) 0 (iv p0.H) S (wN rfl) rfl rfl rfl rfl rfl rfl (lb rfl) fun a S => ?_
  refine sMove (iv p2) S (wN rfl) (.inl rfl) rfl rfl (lb rfl) fun a S => ?_
  obtain ⟨z38, hx39, h⟩ := bindSome h
  refine sBin (iv z38) S (wN rfl) rfl rfl rfl (bQuo _ _ _ _ (x := p0.H) (y := p2) hx39) rfl (lb rfl) fun a S => ?_
  refine sMove (iv 0) S (wN rfl) (.inl rfl) rfl rfl (lb rfl) fun a S => ?_
  refine leafL (leafT (hK37 _ _ ?_))
  refine wp_block ?_
  have S := S.nilRow r_api_Grid 24 (α := api_Grid)
  have S := S.nilRow (rI .i64) 3 (α := Int)
  obtain ⟨t49, hl, g48⟩ := bindSome h
  refine sLoop hl (fun s0 a w => match s0 with | (s40, s43, s46) => ∃ ad41, ∃ cp42, ∃ ad44, ∃ cp45, St [] E [] w0 79 a w [(1, iv p1), (2, iv p2), (3, .pointer (some ⟨b6, 0, none⟩)), (6, .slice ad41 s40.length cp42), (7, .slice ad44 s43.length cp45), (43, iv z38), (44, iv s46)] [eBox b6 24 [iv p0.W, iv p0.H, .slice ad3 p0.Bits.length cp4], eRow r_api_Grid 24 (.slice ad41 s40.length cp42) s40, eRow (rI .i64) 3 (.slice ad44 s43.length cp45) s43] [fRep (rL rB) (.slice ad3 p0.Bits.length cp4) p0.Bits]) ⟨none, 0, none, 0, S.fix [2, 1, 0] [0] (by decide) rfl rfl rfl⟩ ?_
  clear hl h
  intro s0 a w c0 hI h hu47
  obtain ⟨s40, s43, s46⟩ := s0
  unfold block_Units_l2 at h
  dsimp only at h hI
  obtain ⟨ad41, cp42, ad44, cp45, S⟩ := hI
  refine sSeq (fun K56 hK56 => ?_)
  refine sRegion ?_
  refine sBin (.bool (decide (s46 < z38))) S (wN rfl) rfl rfl rfl (bLt _ _ _ _ .i64 s46 z38) rfl (lb rfl) fun a S => ?_
  refine leafL (leafT (hK56 _ _ ?_))
  refine sSeq (fun K57 hK57 => ?_)
  rcases iteSome h with ⟨hc58, h⟩ | ⟨hc58, h⟩
  rotate_left
  · refine sCondF S rfl hc58 ?_
    obtain rfl := Option.some.inj h
    obtain rfl := hu47 _ rfl
    have h := g48
    clear g48
    try dsimp only at h
    exact wp_exit (xThen (xThen (xHit (leafT (⟨s40, s43, Option.some.inj h, ad41, cp42, ad44, cp45, S.fix [1, 2] [] (by decide) rfl rfl rfl⟩)))))
  refine sCondT S rfl hc58 ?_
  refine wp_skip (leafT (hK57 _ _ ?_))
  obtain ⟨t65, h, g66⟩ := bindSome h
  refine sCut (fun a w => ∃ o59, ∃ o62, (o59, o62) = t65 ∧ ∃ ad60, ∃ cp61, ∃ ad63, ∃ cp64, St [] E [] w0 79 a w [(1, iv p1), (2, iv p2), (3, .pointer (some ⟨b6, 0, none⟩)), (6, .slice ad60 o59.length cp61), (7, .slice ad63 o62.length cp64), (43, iv z38), (44, iv s46)] [eBox b6 24 [iv p0.W, iv p0.H, .slice ad3 p0.Bits.length cp4], eRow r_api_Grid 24 (.slice ad60 o59.length cp61) o59, eRow (rI .i64) 3 (.slice ad63 o62.length cp64) o62] [fRep (rL rB) (.slice ad3 p0.Bits.length cp4) p0.Bits]) ?_ (fun a w hI => ?_)
  rotate_left
  · obtain ⟨o59, o62, rfl, ad60, cp61, ad63, cp64, S⟩ := hI
    have h := g66
    clear g66
    try dsimp only at h
    refine sRegion ?_
    refine sBin (iv (w64 (s46 + 1))) S (wN rfl) rfl rfl rfl (bAdd _ _ _ _ s46 1) rfl (lb rfl) fun a S => ?_
    refine sMove (iv (w64 (s46 + 1))) S (wN rfl) (.inl rfl) rfl rfl (lb rfl) fun a S => ?_
    exact leafL (leafT (⟨(o59, o62, w64 (s46 + 1)), (Option.some.inj h).symm, ⟨ad60, cp61, ad63, cp64, S.fix [0, 1, 2] [0] (by decide) rfl rfl rfl⟩⟩))
  refine wp_block ?_
  refine sSeq (fun K67 hK67 => ?_)
  refine sRegion ?_
  refine sMove (iv s46) S (wN rfl) (.inl rfl) rfl rfl (lb rfl) fun a S => ?_
  refine sMove (iv s46) S (wN rfl) (.inr rfl) rfl rfl (lb rfl) fun a S => ?_
  refine leafL (leafT (hK67 _ _ ?_))
  refine sSeq (fun K68 hK68 => ?_)
  refine sRegion ?_
  refine sField (b := b6) (off := 0) 0 0 S (wN rfl) rfl rfl rfl rfl rfl (lb rfl) fun a S => ?_
  refine sLoad1 (p := b6) (off := 0) (T := 24) (vs := [iv p0.W, iv p0.H, .slice ad3 p0.Bits.length cp4]) 0 (iv p0.W) S (wN rfl) rfl rfl rfl rfl rfl rfl (lb rfl) fun a S => ?_
  refine sMove (iv p1) S (wN rfl) (.inl rfl) rfl rfl (lb rfl) fun a S => ?_
  obtain ⟨z69, hx70, h⟩ := bindSome h
  refine sBin (iv z69) S (wN rfl) rfl rfl rfl (bQuo _ _ _ _ (x := p0.W) (y := p1) hx70) rfl (lb rfl) fun a S => ?_
  refine sMove (iv 0) S (wN rfl) (.inl rfl) rfl rfl (lb rfl) fun a S => ?_
  refine leafL (leafT (hK68 _ _ ?_))
  refine wp_block ?_
  obtain ⟨t80, hl, g79⟩ := bindSome h
  refine sLoop hl (fun s0 a w => match s0 with | (s71, s74, s77) => ∃ ad72, ∃ cp73, ∃ ad75, ∃ cp76, St [] E [] w0 79 a w [(1, iv p1), (2, iv p2), (3, .pointer (some ⟨b6, 0, none⟩)), (6, .slice ad72 s71.length cp73), (7, .slice ad75 s74.length cp76), (10, iv s46), (43, iv z38), (44, iv s46), (50, iv z69), (51, iv s77)] [eBox b6 24 [iv p0.W, iv p0.H, .slice ad3 p0.Bits.length cp4], eRow r_api_Grid 24 (.slice ad72 s71.length cp73) s71, eRow (rI .i64) 3 (.slice ad75 s74.length cp76) s74] [fRep (rL rB) (.slice ad3 p0.Bits.length cp4) p0.Bits]) ⟨ad41, cp42, ad44, cp45, S.fix [0, 1, 2] [0] (by decide) rfl rfl rfl⟩ ?_
  clear hl h
  intro s0 a w c0 hI h hu78
  obtain ⟨s71, s74, s77⟩ := s0
  unfold block_Units_l1 at h
  dsimp only at h hI
  obtain ⟨ad72, cp73, ad75, cp76, S⟩ := hI
  refine sSeq (fun K87 hK87 => ?_)
  refine sRegion ?_
  refine sBin (.bool (decide (s77 < z69))) S (wN rfl) rfl rfl rfl (bLt _ _ _ _ .i64 s77 z69) rfl (lb rfl) fun a S => ?_
  refine leafL (leafT (hK87 _ _ ?_))
  refine sSeq (fun K88 hK88 => ?_)
  rcases iteSome h with ⟨hc89, h⟩ | ⟨hc89, h⟩
  rotate_left
  · refine sCondF S rfl hc89 ?_
    obtain rfl := Option.some.inj h
    obtain rfl := hu78 _ rfl
    have h := g79
    clear g79
    try dsimp only at h
    exact wp_exit (xThen (xThen (xHit (leafB (leafT (⟨s71, s74, Option.some.inj h, ad72, cp73, ad75, cp76, S.fix [0, 1, 2] [0] (by decide) rfl rfl rfl⟩))))))
  refine sCondT S rfl hc89 ?_
  refine wp_skip (leafT (hK88 _ _ ?_))
  refine sSeq (fun K90 hK90 => ?_)
  refine wp_block ?_
  refine sSeq (fun K91 hK91 => ?_)
  refine sRegion ?_
  refine sMove (iv s77) S (wN rfl) (.inl rfl) rfl rfl (lb rfl) fun a S => ?_
  refine sMove (iv s77) S (wN rfl) (.inr rfl) rfl rfl (lb rfl) fun a S => ?_
  refine leafL (leafT (hK91 _ _ ?_))
  refine sSeq (fun K92 hK92 => ?_)
  refine sRegion ?_
  refine sLoadN (p := b6) (off := 0) (T := 24) (vs := [iv p0.W, iv p0.H, .slice ad3 p0.Bits.length cp4]) 0 [iv p0.W, iv p0.H, .slice ad3 p0.Bits.length cp4] S (wN rfl) rfl rfl rfl rfl rfl rfl rfl (lb rfl) fun a S => ?_
  refine sMove (iv p1) S (wN rfl) (.inl rfl) rfl rfl (lb rfl) fun a S => ?_
  refine sMove (iv p2) S (wN rfl) (.inl rfl) rfl rfl (lb rfl) fun a S => ?_
  refine sMove (iv s77) S (wN rfl) (.inl rfl) rfl rfl (lb rfl) fun a S => ?_
  refine sMove (iv s46) S (wN rfl) (.inl rfl) rfl rfl (lb rfl) fun a S => ?_
  obtain ⟨r93, hx94, h⟩ := bindSome h
  have S := S.learn (fRep r_api_Grid (.agg #[iv p0.W, iv p0.H, .slice ad3 p0.Bits.length cp4]) p0) ⟨_, rfl, S.mem.know (i := 0) (e := fRep (rL rB) (.slice ad3 p0.Bits.length cp4) p0.Bits) rfl⟩
  refine sCall (X := Value) (f := 49) (vs := [.agg #[iv p0.W, iv p0.H, .slice ad3 p0.Bits.length cp4], iv p1, iv p2, iv s77, iv s46]) (val := c_block_part_val r93) (B' := fun _ => []) (D' := c_block_part_D r93) [] [eBox b6 24 [iv p0.W, iv p0.H, .slice ad3 p0.Bits.length cp4], eRow r_api_Grid 24 (.slice ad72 s71.length cp73) s71, eRow (rI .i64) 3 (.slice ad75 s74.length cp76) s74] [fRep r_api_Grid (.agg #[iv p0.W, iv p0.H, .slice ad3 p0.Bits.length cp4]) p0] [0, 1, 2] [0] S (wN rfl) rfl callee49 rfl (by decide) rfl rfl (fun E1 w1 S1 => c_block_part E1 w1 p0 (.agg #[iv p0.W, iv p0.H, .slice ad3 p0.Bits.length cp4]) p1 p2 s77 s46 r93 hx94 S1) rfl (lb rfl) fun u95 a w S => ?_
  obtain ⟨u96, rfl, hu97⟩ := S.mem.know (i := 0) (e := fRep r_api_Grid (u95) r93) rfl
  have S := S.learn (fRep (rL rB) u96 r93.Bits) hu97
  obtain ⟨ad98, cp99, _, rfl, _⟩ := hu97
  refine sAlloc (.agg #[iv 0, iv 0, .slice none 0 0]) S (wN rfl) rfl rfl [iv 0, iv 0, .slice none 0 0] rfl rfl (lb rfl) fun a b100 w S => ?_
  refine sStore (p := b100) (off := 0) (T := 24) (vs := [iv 0, iv 0, .slice none 0 0]) (v := .agg #[iv r93.W, iv r93.H, .slice ad98 r93.Bits.length cp99]) 0 [iv r93.W, iv r93.H, .slice ad98 r93.Bits.length cp99] S (wN rfl) rfl rfl rfl rfl rfl rfl rfl (by simp) rfl fun a w S => ?_
  refine leafL (leafT (hK92 _ _ ?_))
  refine sSeq (fun K101 hK101 => ?_)
  refine sRegion ?_
  refine sMove (.slice ad72 s71.length cp73) S (wN rfl) (.inl rfl) rfl rfl (lb rfl) fun a S => ?_
  refine sFunc (g := 52) (vs := [.pointer (some ⟨b100, 0, none⟩)]) S (wN rfl) rfl rfl rfl (lb rfl) fun a S => ?_
  obtain ⟨r102, hx103, h⟩ := bindSome h
  have S1 := S.mem
  have S1 := S1.shutR (r := r_api_Grid) (T := 24) (v := .slice ad72 s71.length cp73) (xs := s71) 2 rfl
  have S1 := S1.shutB (r := r_api_Grid) (T := 24) (b := b100) (cs := [iv r93.W, iv r93.H, .slice ad98 r93.Bits.length cp99]) 0 (.agg #[iv r93.W, iv r93.H, .slice ad98 r93.Bits.length cp99]) r93 rfl rfl (S1.know (i := 2) (e := fRep r_api_Grid (.agg #[iv r93.W, iv r93.H, .slice ad98 r93.Bits.length cp99]) r93) rfl)
  refine sCallQ (X := Unit) (f := 51) (vs := [.slice ad72 s71.length cp73, .func (.func 52) #[] #[.pointer (some ⟨b100, 0, none⟩)]]) (val := fun _ => iv r102) S (wN rfl) rfl callee51 rfl (S1.quiet [1, 0] rfl) (fun E1 w1 S1 => c_slices_IndexFunc___api_Grid_api_Grid__s0 E1 w1 s71 (.slice ad72 s71.length cp73) r93 (.pointer (some ⟨b100, 0, none⟩)) r102 hx103 S1) rfl (lb rfl) fun _ a w S => ?_
  refine sMove (iv r102) S (wN rfl) (.inr rfl) rfl rfl (lb rfl) fun a S => ?_
  refine leafL (leafT (hK101 _ _ ?_))
  obtain ⟨t108, h, g109⟩ := bindSome h
  refine sCut (fun a w => ∃ o104, ∃ o107, (o104, o107) = t108 ∧ ∃ ad105, ∃ cp106, St [] E [] w0 79 a w [(1, iv p1), (2, iv p2), (3, .pointer (some ⟨b6, 0, none⟩)), (6, .slice ad105 o104.length cp106), (7, .slice ad75 s74.length cp76), (10, iv s46), (13, iv o107), (43, iv z38), (44, iv s46), (50, iv z69), (51, iv s77)] [eBox b6 24 [iv p0.W, iv p0.H, .slice ad3 p0.Bits.length cp4], eRow r_api_Grid 24 (.slice ad105 o104.length cp106) o104, eRow (rI .i64) 3 (.slice ad75 s74.length cp76) s74] [fRep (rL rB) (.slice ad3 p0.Bits.length cp4) p0.Bits]) ?_ (fun a w hI => ?_)
  rotate_left
  · obtain ⟨o104, o107, rfl, ad105, cp106, S⟩ := hI
    have h := g109
    clear g109
    try dsimp only at h
    refine sRegion ?_
    refine sMove (.slice ad75 s74.length cp76) S (wN rfl) (.inl rfl) rfl rfl (lb rfl) fun a S => ?_
    refine sMove (iv o107) S (wN rfl) (.inl rfl) rfl rfl (lb rfl) fun a S => ?_
    refine sLit (r := (rI .i64)) (T := 3) (xs := ([o107] : List Int)) [(0, iv o107)] 1 [iv o107] [iv o107] (iv 0) 8 S (wN rfl) rfl rfl Try.underlying35 rfl (by decide) (by decide) (by kernel_rfl) rfl (fun E1 w1 hE => All.cons rfl (All.nil _ _ _)) rfl rfl (lb rfl) fun a w ad119 cp120 S => ?_
    obtain ⟨l121, hx122, h⟩ := bindSome h
    refine sApp (r := (rI .i64)) (T := 3) (xs := s74) (ys := ([o107] : List Int)) (v := .slice ad75 s74.length cp76) (u := .slice ad119 ([o107] : List Int).length cp120) 3 (iv 0) 8 S (wN rfl) rfl Try.underlying35 rfl rfl (by decide) rfl rfl rfl (src_R (T := 3) 0 S.mem rfl) hx122 rfl (lb rfl) fun a w ad123 cp124 S => ?_
    refine sMove (.slice ad123 l121.length cp124) S (wN rfl) (.inr rfl) rfl rfl (lb rfl) fun a S => ?_
    refine leafL (leafB (leafT (hK90 _ _ ?_)))
    refine sRegion ?_
    refine sBin (iv (w64 (s77 + 1))) S (wN rfl) rfl rfl rfl (bAdd _ _ _ _ s77 1) rfl (lb rfl) fun a S => ?_
    refine sMove (iv (w64 (s77 + 1))) S (wN rfl) (.inl rfl) rfl rfl (lb rfl) fun a S => ?_
    exact leafL (leafT (⟨(o104, l121, w64 (s77 + 1)), (Option.some.inj h).symm, ⟨ad105, cp106, ad123, cp124, S.fix [2, 3, 0] [0] (by decide) rfl rfl rfl⟩⟩))
  refine sSeq (fun K110 hK110 => ?_)
  refine sRegion ?_
  refine sMove (iv r102) S (wN rfl) (.inl rfl) rfl rfl (lb rfl) fun a S => ?_
  refine sBin (.bool (decide (r102 < 0))) S (wN rfl) rfl rfl rfl (bLt _ _ _ _ .i64 r102 0) rfl (lb rfl) fun a S => ?_
  refine leafL (leafT (hK110 _ _ ?_))
  rcases iteSome h with ⟨hc111, h⟩ | ⟨hc111, h⟩
  rotate_left
  · refine sCondF S rfl hc111 ?_
    exact wp_skip (leafT (⟨s71, r102, Option.some.inj h, ad72, cp73, S.fix [1, 2, 3] [3] (by decide) rfl rfl rfl⟩))
  refine sCondT S rfl hc111 ?_
  refine sSeq (fun K112 hK112 => ?_)
  refine sRegion ?_
  refine sMove (.slice ad72 s71.length cp73) S (wN rfl) (.inl rfl) rfl rfl (lb rfl) fun a S => ?_
  refine sLen (ad := ad72) (m := s71.length) (c := cp73) S (wN rfl) rfl Try.underlying34 rfl rfl (lb rfl) fun a S => ?_
  refine sMove (iv (s71.length : Int)) S (wN rfl) (.inr rfl) rfl rfl (lb rfl) fun a S => ?_
  refine leafL (leafT (hK112 _ _ ?_))
  refine sRegion ?_
  refine sMove (.slice ad72 s71.length cp73) S (wN rfl) (.inl rfl) rfl rfl (lb rfl) fun a S => ?_
  refine sLoadN (p := b100) (off := 0) (T := 24) (vs := [iv r93.W, iv r93.H, .slice ad98 r93.Bits.length cp99]) 0 [iv r93.W, iv r93.H, .slice ad98 r93.Bits.length cp99] S (wN rfl) rfl rfl rfl rfl rfl rfl rfl (lb rfl) fun a S => ?_
  refine sLit (r := r_api_Grid) (T := 24) (xs := [r93]) [(0, .agg #[iv r93.W, iv r93.H, .slice ad98 r93.Bits.length cp99])] 1 [.agg #[iv r93.W, iv r93.H, .slice ad98 r93.Bits.length cp99]] [iv r93.W, iv r93.H, .slice ad98 r93.Bits.length cp99] (.agg #[iv 0, iv 0, .slice none 0 0]) 40 S (wN rfl) rfl rfl Try.underlying34 rfl (by decide) (by decide) (by kernel_rfl) rfl (fun E1 w1 hE => All.cons (r_api_Grid.mono hE (S.mem.know (i := 1) (e := fRep r_api_Grid (.agg #[iv r93.W, iv r93.H, .slice ad98 r93.Bits.length cp99]) r93) rfl)) (All.nil _ _ _)) rfl rfl (lb rfl) fun a w ad113 cp114 S => ?_
  obtain ⟨l115, hx116, h⟩ := bindSome h
  refine sApp (r := r_api_Grid) (T := 24) (xs := s71) (ys := [r93]) (v := .slice ad72 s71.length cp73) (u := .slice ad113 [r93].length cp114) 3 (.agg #[iv 0, iv 0, .slice none 0 0]) 40 S (wN rfl) rfl Try.underlying34 rfl rfl (by decide) rfl rfl rfl (src_R (T := 24) 0 S.mem rfl) hx116 rfl (lb rfl) fun a w ad117 cp118 S => ?_
  refine sMove (.slice ad117 l115.length cp118) S (wN rfl) (.inr rfl) rfl rfl (lb rfl) fun a S => ?_
  exact leafL (leafT (⟨l115, (s71.length : Int), Option.some.inj h, ad117, cp118, S.fix [3, 0, 4] [3] (by decide) rfl rfl rfl⟩))

end Go.Proofs.Ythfifeabomdlpaa
namespace Go.Proofs.Ythfifeabomdlpaa
open Go.RowKit
set_option linter.unusedVariables false

def anc_raddleref13_Units_0 : List (List Nat) := [[], [], [1], [], [1, 2, 3], [], [5], [], [5, 6, 7], [1, 2, 3, 4, 5, 6, 7, 8], [0, 1, 2, 3, 4, 5, 6, 7, 8, 9]]
def anc_raddleref13_Units_1 : List (List Nat) := [[], [], [], [], [], [4], [], [4, 5, 6], [3, 4, 5, 6, 7], [], [], [10], [], [10, 11, 12], [9, 10, 11, 12, 13], [0, 1, 2, 3, 4, 5, 6, 7, 8, 9, 10, 11, 12, 13, 14], [], [0, 1, 2, 3, 4, 5, 6, 7, 8, 9, 10, 11, 12, 13, 14, 15, 16]]
def anc_raddleref13_Units_2 : List (List Nat) := [[], [], [1], [0, 1, 2], [0, 1, 2, 3], [0, 1, 2, 3, 4], [0, 1, 2, 3, 4], [0, 1, 2, 3, 4, 5, 6], [0, 1, 2, 3, 4, 5, 6, 7], [0, 1, 2, 3, 4], [0, 1, 2, 3, 4, 5, 6, 7, 8, 9], [0, 1, 2, 3, 4, 5, 6, 7, 8, 9, 10], [0, 1, 2, 3, 4, 5, 6, 7, 8, 9, 10, 11]]
noncomputable def raddleref13_Units_l1 (s37 : List api_Grid) (r73 : api_Grid) : Int → Option (Int ⊕ Int) := fun s0 => match s0 with
  | s85 =>
    Option.bind (α := Bool) (
      if decide (s85 < (s37.length : Int)) then
        Option.bind (idxO s37 s85) fun x95 =>
        Option.bind (F_raddleref01_Same x95 r73) fun r105 =>
        some (!r105)
      else
        some false) fun o91 =>
    if o91 then
      some (.inl (w64 (s85 + 1)))
    else
      some (.inr s85)
noncomputable def raddleref13_Units_l2 (p0 : api_Grid) (p1 : Int) (p2 : Int) : (List api_Grid × List Int × Int) → Option ((List api_Grid × List Int × Int) ⊕ (List api_Grid × List Int)) := fun s0 => match s0 with
  | (s37, s40, s43) =>
    Option.bind (quoI p0.W p1) fun z55 =>
    Option.bind (quoI p0.H p2) fun z57 =>
    if decide (s43 < (w64 (z55 * z57))) then
      Option.bind (α := (List api_Grid × List Int)) (
        Option.bind (remI s43 z55) fun z69 =>
        Option.bind (quoI s43 z55) fun z71 =>
        Option.bind (F_raddleref13_Part_s0 p0 p1 p2 z69 z71) fun r73 =>
        Option.bind (α := Int) (
          Option.bind (whileO (raddleref13_Units_l1 s37 r73) 0) fun e89 =>
            some e89) fun o82 =>
        Option.bind (α := List api_Grid) (
          if o82 == (s37.length : Int) then
            Option.bind (appO s37 [r73]) fun l125 =>
            some l125
          else
            some s37) fun o116 =>
        Option.bind (appO s40 ([o82] : List Int)) fun l131 =>
        some (o116, l131)) fun (o60, o63) =>
      some (.inl (o60, o63, w64 (s43 + 1)))
    else
      some (.inr (s37, s40))
noncomputable def F_raddleref13_Units (p0 : api_Grid) (p1 : Int) (p2 : Int) : Option ((List api_Grid) × (List Int) × Int) :=
  Option.bind (F_raddleref01_Check p0) fun r9 =>
  if r9 != 0 then
    some (([] : (List api_Grid)), ([] : (List Int)), r9)
  else
    Option.bind (α := Bool) (
      if decide (p1 < 1) then
        some true
      else
        if decide (p2 < 1) then
          some true
        else
          Option.bind (remI p0.W p1) fun z19 =>
          if z19 != 0 then
            some true
          else
            Option.bind (remI p0.H p2) fun z22 =>
            some (z22 != 0)) fun o14 =>
    if o14 then
      some (([] : (List api_Grid)), ([] : (List Int)), 26)
    else
      Option.bind (α := (List api_Grid × List Int)) (
        Option.bind (whileO (raddleref13_Units_l2 p0 p1 p2) (([] : List api_Grid), ([] : List Int), 0)) fun (e47, e50) =>
          some (e47, e50)) fun (o28, o31) =>
      some (o28, o31, 0)
def c_raddleref13_Units_val (r : ((List api_Grid) × (List Int) × Int)) (x : Value × Value) : Value := .tuple #[x.1, x.2, .int .i64 r.2.2]
def c_raddleref13_Units_D (r : ((List api_Grid) × (List Int) × Int)) (x : Value × Value) : List Fact := [fRep (rL r_api_Grid) x.1 r.1, fRep (rL (rI .i64)) x.2 r.2.1]
set_option maxHeartbeats 4000000 in
set_option maxRecDepth 100000 in
theorem c_raddleref13_Units (E : Nat → Prop) (w0 : World) (p0 : api_Grid) (v0 : Value) (p1 : Int) (p2 : Int) (r : ((List api_Grid) × (List Int) × Int)) (h : F_raddleref13_Units p0 p1 p2 = some r) (S : St0 E [] w0 w0 [] [fRep r_api_Grid (v0) p0]) :
    Calls Try.prog 20 #[v0, iv p1, iv p2] w0 (Ret (X := Value × Value) E [] w0 (c_raddleref13_Units_val r) (fun _ => []) (c_raddleref13_Units_D r)) := by
  unfold F_raddleref13_Units at h
  obtain ⟨u1, rfl, hu2⟩ := S.know (i := 0) (e := fRep r_api_Grid (v0) p0) rfl
  have S := S.learn (fRep (rL rB) u1 p0.Bits) hu2
  obtain ⟨ad3, cp4, _, rfl, _⟩ := hu2
  refine sEnter (args := [.agg #[iv p0.W, iv p0.H, .slice ad3 p0.Bits.length cp4], iv p1, iv p2]) 97 Try.func20 rfl rfl (by simp) S (fun a S => ?_)
  refine sSeq (fun K5 hK5 => ?_)
  refine sRegion ?_
  refine sBox (v := .agg #[iv p0.W, iv p0.H, .slice ad3 p0.Bits.length cp4]) S (wN rfl) rfl rfl [iv p0.W, iv p0.H, .slice ad3 p0.Bits.length cp4] rfl rfl (lb rfl) fun a b6 w S => ?_
  refine sMove (.slice none 0 0) S (wN rfl) (.inr rfl) rfl rfl (lb rfl) fun a S => ?_
  refine sMove (.slice none 0 0) S (wN rfl) (.inr rfl) rfl rfl (lb rfl) fun a S => ?_
  refine sMove (iv 0) S (wN rfl) (.inr rfl) rfl rfl (lb rfl) fun a S => ?_
  refine leafL (leafT (hK5 _ _ ?_))
  refine sSeq (fun K7 hK7 => ?_)
  refine sSeq (fun K8 hK8 => ?_)
  refine sRegion ?_
  refine sLoadN (p := b6) (off := 0) (T := 24) (vs := [iv p0.W, iv p0.H, .slice ad3 p0.Bits.length cp4]) 0 [iv p0.W, iv p0.H, .slice ad3 p0.Bits.length cp4] S (wN rfl) rfl rfl rfl rfl rfl rfl rfl (lb rfl) fun a S => ?_
  obtain ⟨r9, hx10, h⟩ := bindSome h
  have S1 := S.mem
  refine sCallQ (X := Unit) (f := 53) (vs := [.agg #[iv p0.W, iv p0.H, .slice ad3 p0.Bits.length cp4]]) (val := fun _ => iv r9) S (wN rfl) rfl callee53 rfl (S1.quiet [1] rfl) (fun E1 w1 S1 => c_raddleref01_Check E1 w1 p0 (.agg #[iv p0.W, iv p0.H, .slice ad3 p0.Bits.length cp4]) r9 hx10 S1) rfl (lb rfl) fun _ a w S => ?_
  refine sBin (.bool (r9 != 0)) S (wN rfl) rfl rfl rfl (bNe _ _ _ _ .i64 r9 0) rfl (lb rfl) fun a S => ?_
  refine leafL (leafT (hK8 _ _ ?_))
  rcases iteSome h with ⟨hc11, h⟩ | ⟨hc11, h⟩
  · refine sCondT S rfl hc11 ?_
    refine sSeq (fun K12 hK12 => ?_)
    refine sRegion ?_
    refine sLoadN (p := b6) (off := 0) (T := 24) (vs := [iv p0.W, iv p0.H, .slice ad3 p0.Bits.length cp4]) 0 [iv p0.W, iv p0.H, .slice ad3 p0.Bits.length cp4] S (wN rfl) rfl rfl rfl rfl rfl rfl rfl (lb rfl) fun a S => ?_
    have S1 := S.mem
    refine sCallQ (X := Unit) (f := 53) (vs := [.agg #[iv p0.W, iv p0.H, .slice ad3 p0.Bits.length cp4]]) (val := fun _ => iv r9) S (wN rfl) rfl callee53 rfl (S1.quiet [1] rfl) (fun E1 w1 S1 => c_raddleref01_Check E1 w1 p0 (.agg #[iv p0.W, iv p0.H, .slice ad3 p0.Bits.length cp4]) r9 hx10 S1) rfl (lb rfl) fun _ a w S => ?_
    refine sMove (.slice none 0 0) S (wN rfl) (.inr rfl) rfl rfl (lb rfl) fun a S => ?_
    refine sMove (.slice none 0 0) S (wN rfl) (.inr rfl) rfl rfl (lb rfl) fun a S => ?_
    refine sMove (iv r9) S (wN rfl) (.inr rfl) rfl rfl (lb rfl) fun a S => ?_
    refine leafL (leafT (hK12 _ _ ?_))
    obtain rfl := Option.some.inj h
    have S := S.learn (fRep (rL r_api_Grid) (.slice none 0 0) ([] : (List api_Grid))) (rL_nil _ _ _)
    have S := S.learn (fRep (rL (rI .i64)) (.slice none 0 0) ([] : (List Int))) (rL_nil _ _ _)
    exact wp_ret (rThen (sRet (.tuple #[.slice none 0 0, .slice none 0 0, iv r9]) S (rsl3 rfl (rvT (t := 6) (v := .slice none 0 0) S rfl) (rvT (t := 7) (v := .slice none 0 0) S rfl) (rvT (t := 8) (v := iv r9) S rfl)) ⟨((.slice none 0 0), (.slice none 0 0)), rfl, S.mem.sel [] [1, 0] (by decide) rfl rfl⟩))
  refine sCondF S rfl hc11 ?_
  refine wp_skip (leafT (hK7 _ _ ?_))
  refine sSeq (fun K13 hK13 => ?_)
  obtain ⟨t15, h, g16⟩ := bindSome h
  refine sCut (fun a w => ∃ o14, o14 = t15 ∧ St [] E [] w0 97 a w [(1, iv p1), (2, iv p2), (3, .pointer (some ⟨b6, 0, none⟩)), (38, .bool o14)] [eBox b6 24 [iv p0.W, iv p0.H, .slice ad3 p0.Bits.length cp4]] [fRep (rL rB) (.slice ad3 p0.Bits.length cp4) p0.Bits]) ?_ (fun a w hI => ?_)
  · refine sRegion ?_
    refine sMove (iv p1) S (wN rfl) (.inl rfl) rfl rfl (lb rfl) fun a S => ?_
    refine sBin (.bool (decide (p1 < 1))) S (wN rfl) rfl rfl rfl (bLt _ _ _ _ .i64 p1 1) rfl (lb rfl) fun a S => ?_
    refine sMove (.bool (decide (p1 < 1))) S (wN rfl) (.inl rfl) rfl rfl (lb rfl) fun a S => ?_
    rcases iteSome h with ⟨hc17, h⟩ | ⟨hc17, h⟩
    · refine sSkip 2 false 21 22 S rfl rfl rfl hc17 rfl (lb rfl) fun a S => ?_
      refine sSkip 2 false 21 23 S rfl rfl rfl hc17 rfl (lb rfl) fun a S => ?_
      refine sPickT (.bool true) S (wN rfl) rfl rfl hc17 rfl rfl (lb rfl) fun a S => ?_
      refine sMove (.bool true) S (wN rfl) (.inl rfl) rfl rfl (lb rfl) fun a S => ?_
      refine sSkip 6 false 25 26 S rfl rfl rfl rfl rfl (lb rfl) fun a S => ?_
      refine sSkip 6 false 25 27 S rfl rfl rfl rfl rfl (lb rfl) fun a S => ?_
      refine sSkip 6 false 25 28 S rfl rfl rfl rfl rfl (lb rfl) fun a S => ?_
      refine sSkip 6 false 25 29 S rfl rfl rfl rfl rfl (lb rfl) fun a S => ?_
      refine sSkip 6 false 25 30 S rfl rfl rfl rfl rfl (lb rfl) fun a S => ?_
      refine sPickT (.bool true) S (wN rfl) rfl rfl rfl rfl rfl (lb rfl) fun a S => ?_
      refine sMove (.bool true) S (wN rfl) (.inl rfl) rfl rfl (lb rfl) fun a S => ?_
      refine sSkip 13 false 32 33 S rfl rfl rfl rfl rfl (lb rfl) fun a S => ?_
      refine sSkip 13 false 32 34 S rfl rfl rfl rfl rfl (lb rfl) fun a S => ?_
      refine sSkip 13 false 32 35 S rfl rfl rfl rfl rfl (lb rfl) fun a S => ?_
      refine sSkip 13 false 32 36 S rfl rfl rfl rfl rfl (lb rfl) fun a S => ?_
      refine sSkip 13 false 32 37 S rfl rfl rfl rfl rfl (lb rfl) fun a S => ?_
      refine sPickT (.bool true) S (wN rfl) rfl rfl rfl rfl rfl (lb rfl) fun a S => ?_
      exact leafL (leafT (⟨true, Option.some.inj h, S.fix [0] [0] (by decide) rfl rfl rfl⟩))
    refine sMove (iv p2) S (wG 2 false 21 rfl rfl rfl hc17) (.inl rfl) rfl rfl (lb rfl) fun a S => ?_
    refine sBin (.bool (decide (p2 < 1))) S (wG 2 false 21 rfl rfl rfl hc17) rfl rfl rfl (bLt _ _ _ _ .i64 p2 1) rfl (lb rfl) fun a S => ?_
    refine sPickF (.bool (decide (p2 < 1))) S (wN rfl) rfl rfl hc17 rfl rfl (lb rfl) fun a S => ?_
    refine sMove (.bool (decide (p2 < 1))) S (wN rfl) (.inl rfl) rfl rfl (lb rfl) fun a S => ?_
    rcases iteSome h with ⟨hc18, h⟩ | ⟨hc18, h⟩
    · refine sSkip 6 false 25 26 S rfl rfl rfl hc18 rfl (lb rfl) fun a S => ?_
      refine sSkip 6 false 25 27 S rfl rfl rfl hc18 rfl (lb rfl) fun a S => ?_
      refine sSkip 6 false 25 28 S rfl rfl rfl hc18 rfl (lb rfl) fun a S => ?_
      refine sSkip 6 false 25 29 S rfl rfl rfl hc18 rfl (lb rfl) fun a S => ?_
      refine sSkip 6 false 25 30 S rfl rfl rfl hc18 rfl (lb rfl) fun a S => ?_
      refine sPickT (.bool true) S (wN rfl) rfl rfl hc18 rfl rfl (lb rfl) fun a S => ?_
      refine sMove (.bool true) S (wN rfl) (.inl rfl) rfl rfl (lb rfl) fun a S => ?_
      refine sSkip 13 false 32 33 S rfl rfl rfl rfl rfl (lb rfl) fun a S => ?_
      refine sSkip 13 false 32 34 S rfl rfl rfl rfl rfl (lb rfl) fun a S => ?_
      refine sSkip 13 false 32 35 S rfl rfl rfl rfl rfl (lb rfl) fun a S => ?_
      refine sSkip 13 false 32 36 S rfl rfl rfl rfl rfl (lb rfl) fun a S => ?_
      refine sSkip 13 false 32 37 S rfl rfl rfl rfl rfl (lb rfl) fun a S => ?_
      refine sPickT (.bool true) S (wN rfl) rfl rfl rfl rfl rfl (lb rfl) fun a S => ?_
      exact leafL (leafT (⟨true, Option.some.inj h, S.fix [0] [0] (by decide) rfl rfl rfl⟩))
    refine sField (b := b6) (off := 0) 0 0 S (wG 6 false 25 rfl rfl rfl hc18) rfl rfl rfl rfl rfl (lb rfl) fun a S => ?_
    refine sLoad1 (p := b6) (off := 0) (T := 24) (vs := [iv p0.W, iv p0.H, .slice ad3 p0.Bits.length cp4]) 0 (iv p0.W) S (wG 6 false 25 rfl rfl rfl hc18) rfl rfl rfl rfl rfl rfl (lb rfl) fun a S => ?_
    refine sMove (iv p1) S (wG 6 false 25 rfl rfl rfl hc18) (.inl rfl) rfl rfl (lb rfl) fun a S => ?_
    obtain ⟨z19, hx20, h⟩ := bindSome h
    refine sBin (iv z19) S (wG 6 false 25 rfl rfl rfl hc18) rfl rfl rfl (bRem _ _ _ _ (x := p0.W) (y := p1) hx20) rfl (lb rfl) fun a S => ?_
    refine sBin (.bool (z19 != 0)) S (wG 6 false 25 rfl rfl rfl hc18) rfl rfl rfl (bNe _ _ _ _ .i64 z19 0) rfl (lb rfl) fun a S => ?_
    refine sPickF (.bool (z19 != 0)) S (wN rfl) rfl rfl hc18 rfl rfl (lb rfl) fun a S => ?_
    refine sMove (.bool (z19 != 0)) S (wN rfl) (.inl rfl) rfl rfl (lb rfl) fun a S => ?_
    rcases iteSome h with ⟨hc21, h⟩ | ⟨hc21, h⟩
    · refine sSkip 13 false 32 33 S rfl rfl rfl hc21 rfl (lb rfl) fun a S => ?_
      refine sSkip 13 false 32 34 S rfl rfl rfl hc21 rfl (lb rfl) fun a S => ?_
      refine sSkip 13 false 32 35 S rfl rfl rfl hc21 rfl (lb rfl) fun a S => ?_
      refine sSkip 13 false 32 36 S rfl rfl rfl hc21 rfl (lb rfl) fun a S => ?_
      refine sSkip 13 false 32 37 S rfl rfl rfl hc21 rfl (lb rfl) fun a S => ?_
      refine sPickT (.bool true) S (wN rfl) rfl rfl hc21 rfl rfl (lb rfl) fun a S => ?_
      exact leafL (leafT (⟨true, Option.some.inj h, S.fix [0] [0] (by decide) rfl rfl rfl⟩))
    refine sField (b := b6) (off := 0) 1 1 S (wG 13 false 32 rfl rfl rfl hc21) rfl rfl rfl rfl rfl (lb rfl) fun a S => ?_
    refine sLoad1 (p := b6) (off := 1) (T := 24) (vs := [iv p0.W, iv p0.H, .slice ad3 p0.Bits.length cp4]) 0 (iv p0.H) S (wG 13 false 32 rfl rfl rfl hc21) rfl rfl rfl rfl rfl rfl (lb rfl) fun a S => ?_
    refine sMove (iv p2) S (wG 13 false 32 rfl rfl rfl hc21) (.inl rfl) rfl rfl (lb rfl) fun a S => ?_
    obtain ⟨z22, hx23, h⟩ := bindSome h
    refine sBin (iv z22) S (wG 13 false 32 rfl rfl rfl hc21) rfl rfl rfl (bRem _ _ _ _ (x := p0.H) (y := p2) hx23) rfl (lb rfl) fun a S => ?_
    refine sBin (.bool (z22 != 0)) S (wG 13 false 32 rfl rfl rfl hc21) rfl rfl rfl (bNe _ _ _ _ .i64 z22 0) rfl (lb rfl) fun a S => ?_
    refine sPickF (.bool (z22 != 0)) S (wN rfl) rfl rfl hc21 rfl rfl (lb rfl) fun a S => ?_
    exact leafL (leafT (⟨z22 != 0, Option.some.inj h, S.fix [0] [0] (by decide) rfl rfl rfl⟩))
  obtain ⟨o14, rfl, S⟩ := hI
  have h := g16
  clear g16
  try dsimp only at h
  rcases iteSome h with ⟨hc24, h⟩ | ⟨hc24, h⟩
  · refine sCondT S rfl hc24 ?_
    refine sSeq (fun K25 hK25 => ?_)
    refine sRegion ?_
    refine sMove (.slice none 0 0) S (wN rfl) (.inr rfl) rfl rfl (lb rfl) fun a S => ?_
    refine sMove (.slice none 0 0) S (wN rfl) (.inr rfl) rfl rfl (lb rfl) fun a S => ?_
    refine sMove (iv 26) S (wN rfl) (.inr rfl) rfl rfl (lb rfl) fun a S => ?_
    refine leafL (leafT (hK25 _ _ ?_))
    obtain rfl := Option.some.inj h
    have S := S.learn (fRep (rL r_api_Grid) (.slice none 0 0) ([] : (List api_Grid))) (rL_nil _ _ _)
    have S := S.learn (fRep (rL (rI .i64)) (.slice none 0 0) ([] : (List Int))) (rL_nil _ _ _)
    exact wp_ret (rThen (sRet (.tuple #[.slice none 0 0, .slice none 0 0, iv 26]) S (rsl3 rfl (rvT (t := 6) (v := .slice none 0 0) S rfl) (rvT (t := 7) (v := .slice none 0 0) S rfl) (rvT (t := 8) (v := iv 26) S rfl)) ⟨((.slice none 0 0), (.slice none 0 0)), rfl, S.mem.sel [] [1, 0] (by decide) rfl rfl⟩))
  refine sCondF S rfl hc24 ?_
  refine wp_skip (leafT (hK13 _ _ ?_))
  refine sSeq (fun K26 hK26 => ?_)
  refine sRegion ?_
  refine sMove (.slice none 0 0) S (wN rfl) (.inr rfl) rfl rfl (lb rfl) fun a S => ?_
  refine leafL (leafT (hK26 _ _ ?_))
  refine sSeq (fun K27 hK27 => ?_)
  refine sRegion ?_
  refine sMove (.slice none 0 0) S (wN rfl) (.inr rfl) rfl rfl (lb rfl) fun a S => ?_
  refine leafL (leafT (hK27 _ _ ?_))
  obtain ⟨t34, h, g35⟩ := bindSome h
  refine sCut (fun a w => ∃ o28, ∃ o31, (o28, o31) = t34 ∧ ∃ ad29, ∃ cp30, ∃ ad32, ∃ cp33, St [] E [] w0 97 a w [(9, .slice ad29 o28.length cp30), (10, .slice ad32 o31.length cp33)] [eRow r_api_Grid 24 (.slice ad29 o28.length cp30) o28, eRow (rI .i64) 3 (.slice ad32 o31.length cp33) o31] []) ?_ (fun a w hI => ?_)
  rotate_left
  · obtain ⟨o28, o31, rfl, ad29, cp30, ad32, cp33, S⟩ := hI
    have h := g35
    clear g35
    try dsimp only at h
    refine sSeq (fun K138 hK138 => ?_)
    refine sRegion ?_
    refine sMove (.slice ad29 o28.length cp30) S (wN rfl) (.inl rfl) rfl rfl (lb rfl) fun a S => ?_
    refine sMove (.slice ad32 o31.length cp33) S (wN rfl) (.inl rfl) rfl rfl (lb rfl) fun a S => ?_
    refine sMove (.slice ad29 o28.length cp30) S (wN rfl) (.inr rfl) rfl rfl (lb rfl) fun a S => ?_
    refine sMove (.slice ad32 o31.length cp33) S (wN rfl) (.inr rfl) rfl rfl (lb rfl) fun a S => ?_
    refine sMove (iv 0) S (wN rfl) (.inr rfl) rfl rfl (lb rfl) fun a S => ?_
    refine leafL (leafT (hK138 _ _ ?_))
    obtain rfl := Option.some.inj h
    have S := S.shutR (r := r_api_Grid) (T := 24) (v := .slice ad29 o28.length cp30) (xs := o28) 0 rfl
    have S := S.shutR (r := (rI .i64)) (T := 3) (v := .slice ad32 o31.length cp33) (xs := o31) 0 rfl
    exact wp_ret (sRet (.tuple #[.slice ad29 o28.length cp30, .slice ad32 o31.length cp33, iv 0]) S (rsl3 rfl (rvT (t := 6) (v := .slice ad29 o28.length cp30) S rfl) (rvT (t := 7) (v := .slice ad32 o31.length cp33) S rfl) (rvT (t := 8) (v := iv 0) S rfl)) ⟨((.slice ad29 o28.length cp30), (.slice ad32 o31.length cp33)), rfl, S.mem.sel [] [1, 0] (by decide) rfl rfl⟩)
  refine sSeq (fun K36 hK36 => ?_)
  refine sRegion ?_
  refine sMove (iv 0) S (wN rfl) (.inr rfl) rfl rfl (lb rfl) fun a S => ?_
  refine leafL (leafT (hK36 _ _ ?_))
  refine wp_block ?_
  have S := S.nilRow r_api_Grid 24 (α := api_Grid)
  have S := S.nilRow (rI .i64) 3 (α := Int)
  obtain ⟨t46, hl, g45⟩ := bindSome h
  refine sLoop hl (fun s0 a w => match s0 with | (s37, s40, s43) => ∃ ad38, ∃ cp39, ∃ ad41, ∃ cp42, St [] E [] w0 97 a w [(1, iv p1), (2, iv p2), (3, .pointer (some ⟨b6, 0, none⟩)), (9, .slice ad38 s37.length cp39), (10, .slice ad41 s40.length cp42), (11, iv s43)] [eBox b6 24 [iv p0.W, iv p0.H, .slice ad3 p0.Bits.length cp4], eRow r_api_Grid 24 (.slice ad38 s37.length cp39) s37, eRow (rI .i64) 3 (.slice ad41 s40.length cp42) s40] [fRep (rL rB) (.slice ad3 p0.Bits.length cp4) p0.Bits]) ⟨none, 0, none, 0, S.fix [2, 1, 0] [0] (by decide) rfl rfl rfl⟩ ?_
  clear hl h
  intro s0 a w c0 hI h hu44
  obtain ⟨s37, s40, s43⟩ := s0
  unfold raddleref13_Units_l2 at h
  dsimp only at h hI
  obtain ⟨ad38, cp39, ad41, cp42, S⟩ := hI
  refine sSeq (fun K53 hK53 => ?_)
  refine sSeq (fun K54 hK54 => ?_)
  obtain ⟨z55, hx56, h⟩ := bindSome h
  obtain ⟨z57, hx58, h⟩ := bindSome h
  refine sDraw (nf := []) (W := [(0, 39, iv s43), (1, 40, .pointer (some ⟨b6, 0, none⟩)), (2, 41, iv p0.W), (3, 42, iv p1), (4, 43, iv z55), (5, 44, .pointer (some ⟨b6, 1, none⟩)), (6, 45, iv p0.H), (7, 46, iv p2), (8, 47, iv z57), (9, 48, iv (w64 (z55 * z57))), (10, 49, .bool (decide (s43 < (w64 (z55 * z57)))))]) rfl S ?_
  refine node_by (A := anc_raddleref13_Units_0) (nf := []) (Y := []) (W := [(0, 39, iv s43), (1, 40, .pointer (some ⟨b6, 0, none⟩)), (2, 41, iv p0.W), (3, 42, iv p1), (4, 43, iv z55), (5, 44, .pointer (some ⟨b6, 1, none⟩)), (6, 45, iv p0.H), (7, 46, iv p2), (8, 47, iv z57), (9, 48, iv (w64 (z55 * z57))), (10, 49, .bool (decide (s43 < (w64 (z55 * z57)))))]) 11 (by kernel_rfl) (by kernel_rfl) (by kernel_rfl) (by kernel_rfl) (by kernel_rfl) [0, 1, 2, 3, 4, 5, 6, 7, 8, 9, 10] (by kernel_rfl) (by decide) (by decide) (aF 0 10 (by decide) ?_ (aF 1 9 (by decide) ?_ (aF 2 8 (by decide) ?_ (aF 3 7 (by decide) ?_ (aF 4 6 (by decide) ?_ (aF 5 5 (by decide) ?_ (aF 6 4 (by decide) ?_ (aF 7 3 (by decide) ?_ (aF 8 2 (by decide) ?_ (aF 9 1 (by decide) ?_ (aF 10 0 (by decide) ?_ (trivial)))))))))))) [(1, iv p1), (2, iv p2), (3, .pointer (some ⟨b6, 0, none⟩)), (9, .slice ad38 s37.length cp39), (10, .slice ad41 s40.length cp42), (11, iv s43), (49, .bool (decide (s43 < (w64 (z55 * z57)))))] (fin_of [none, none, none, none, none, none, some 10] rfl (by kernel_rfl) (by kernel_rfl)) (fun _ a w S => ?_)
  · refine fI 39 (iv s43) [(11, iv s43)] 0 [none] rfl rfl rfl rfl rfl rfl fun G a w S => ?_
    refine sMove (iv s43) S (wN rfl) (.inl rfl) rfl rfl (lb rfl) fun a S => ?_
    exact leafL ⟨rfl, S⟩
  · refine fI 40 (.pointer (some ⟨b6, 0, none⟩)) [(3, .pointer (some ⟨b6, 0, none⟩))] 1 [none] rfl rfl rfl rfl rfl rfl fun G a w S => ?_
    refine sField (b := b6) (off := 0) 0 0 S (wN rfl) rfl rfl rfl rfl rfl (lb rfl) fun a S => ?_
    exact leafL ⟨rfl, S⟩
  · refine fI 41 (iv p0.W) [(40, .pointer (some ⟨b6, 0, none⟩))] 2 [some 1] rfl rfl rfl rfl rfl rfl fun G a w S => ?_
    refine sLoad1 (p := b6) (off := 0) (T := 24) (vs := [iv p0.W, iv p0.H, .slice ad3 p0.Bits.length cp4]) 0 (iv p0.W) S (wN rfl) rfl rfl rfl rfl rfl rfl (lb rfl) fun a S => ?_
    exact leafL ⟨rfl, S⟩
  · refine fI 42 (iv p1) [(1, iv p1)] 3 [none] rfl rfl rfl rfl rfl rfl fun G a w S => ?_
    refine sMove (iv p1) S (wN rfl) (.inl rfl) rfl rfl (lb rfl) fun a S => ?_
    exact leafL ⟨rfl, S⟩
  · refine fI 43 (iv z55) [(41, iv p0.W), (42, iv p1)] 4 [some 2, some 3] rfl rfl rfl rfl rfl rfl fun G a w S => ?_
    refine sBin (iv z55) S (wN rfl) rfl rfl rfl (bQuo _ _ _ _ (x := p0.W) (y := p1) hx56) rfl (lb rfl) fun a S => ?_
    exact leafL ⟨rfl, S⟩
  · refine fI 44 (.pointer (some ⟨b6, 1, none⟩)) [(3, .pointer (some ⟨b6, 0, none⟩))] 5 [none] rfl rfl rfl rfl rfl rfl fun G a w S => ?_
    refine sField (b := b6) (off := 0) 1 1 S (wN rfl) rfl rfl rfl rfl rfl (lb rfl) fun a S => ?_
    exact leafL ⟨rfl, S⟩
  · refine fI 45 (iv p0.H) [(44, .pointer (some ⟨b6, 1, none⟩))] 6 [some 5] rfl rfl rfl rfl rfl rfl fun G a w S => ?_
    refine sLoad1 (p := b6) (off := 1) (T := 24) (vs := [iv p0.W, iv p0.H, .slice ad3 p0.Bits.length cp4]) 0 (iv p0.H) S (wN rfl) rfl rfl rfl rfl rfl rfl (lb rfl) fun a S => ?_
    exact leafL ⟨rfl, S⟩
  · refine fI 46 (iv p2) [(2, iv p2)] 7 [none] rfl rfl rfl rfl rfl rfl fun G a w S => ?_
    refine sMove (iv p2) S (wN rfl) (.inl rfl) rfl rfl (lb rfl) fun a S => ?_
    exact leafL ⟨rfl, S⟩
  · refine fI 47 (iv z57) [(45, iv p0.H), (46, iv p2)] 8 [some 6, some 7] rfl rfl rfl rfl rfl rfl fun G a w S => ?_
    refine sBin (iv z57) S (wN rfl) rfl rfl rfl (bQuo _ _ _ _ (x := p0.H) (y := p2) hx58) rfl (lb rfl) fun a S => ?_
    exact leafL ⟨rfl, S⟩
  · refine fI 48 (iv (w64 (z55 * z57))) [(43, iv z55), (47, iv z57)] 9 [some 4, some 8] rfl rfl rfl rfl rfl rfl fun G a w S => ?_
    refine sBin (iv (w64 (z55 * z57))) S (wN rfl) rfl rfl rfl (bMul _ _ _ _ z55 z57) rfl (lb rfl) fun a S => ?_
    exact leafL ⟨rfl, S⟩
  · refine fI 49 (.bool (decide (s43 < (w64 (z55 * z57))))) [(39, iv s43), (48, iv (w64 (z55 * z57)))] 10 [some 0, some 9] rfl rfl rfl rfl rfl rfl fun G a w S => ?_
    refine sBin (.bool (decide (s43 < (w64 (z55 * z57))))) S (wN rfl) rfl rfl rfl (bLt _ _ _ _ .i64 s43 (w64 (z55 * z57))) rfl (lb rfl) fun a S => ?_
    exact leafL ⟨rfl, S⟩
  refine leafT (hK54 _ _ ?_)
  rcases iteSome h with ⟨hc59, h⟩ | ⟨hc59, h⟩
  rotate_left
  · refine sCondF S rfl hc59 ?_
    obtain rfl := Option.some.inj h
    obtain rfl := hu44 _ rfl
    have h := g45
    clear g45
    try dsimp only at h
    exact wp_exit (xThen (xThen (xHit (leafT (⟨s37, s40, Option.some.inj h, ad38, cp39, ad41, cp42, S.fix [1, 2] [] (by decide) rfl rfl rfl⟩)))))
  refine sCondT S rfl hc59 ?_
  refine wp_skip (leafT (hK53 _ _ ?_))
  obtain ⟨t66, h, g67⟩ := bindSome h
  refine sCut (fun a w => ∃ o60, ∃ o63, (o60, o63) = t66 ∧ ∃ ad61, ∃ cp62, ∃ ad64, ∃ cp65, St [] E [] w0 97 a w [(1, iv p1), (2, iv p2), (3, .pointer (some ⟨b6, 0, none⟩)), (9, .slice ad61 o60.length cp62), (10, .slice ad64 o63.length cp65), (11, iv s43)] [eBox b6 24 [iv p0.W, iv p0.H, .slice ad3 p0.Bits.length cp4], eRow r_api_Grid 24 (.slice ad61 o60.length cp62) o60, eRow (rI .i64) 3 (.slice ad64 o63.length cp65) o63] [fRep (rL rB) (.slice ad3 p0.Bits.length cp4) p0.Bits]) ?_ (fun a w hI => ?_)
  rotate_left
  · obtain ⟨o60, o63, rfl, ad61, cp62, ad64, cp65, S⟩ := hI
    have h := g67
    clear g67
    try dsimp only at h
    refine sRegion ?_
    refine sMove (iv s43) S (wN rfl) (.inl rfl) rfl rfl (lb rfl) fun a S => ?_
    refine sBin (iv (w64 (s43 + 1))) S (wN rfl) rfl rfl rfl (bAdd _ _ _ _ s43 1) rfl (lb rfl) fun a S => ?_
    refine sMove (iv (w64 (s43 + 1))) S (wN rfl) (.inr rfl) rfl rfl (lb rfl) fun a S => ?_
    exact leafL (leafT (⟨(o60, o63, w64 (s43 + 1)), (Option.some.inj h).symm, ⟨ad61, cp62, ad64, cp65, S.fix [0, 1, 2] [0] (by decide) rfl rfl rfl⟩⟩))
  refine wp_block ?_
  refine sSeq (fun K68 hK68 => ?_)
  obtain ⟨z69, hx70, h⟩ := bindSome h
  obtain ⟨z71, hx72, h⟩ := bindSome h
  obtain ⟨r73, hx74, h⟩ := bindSome h
  refine sDraw (nf := [15, 16, 17]) (W := [(0, 52, .agg #[iv p0.W, iv p0.H, .slice ad3 p0.Bits.length cp4]), (1, 53, iv p1), (2, 54, iv p2), (3, 55, iv s43), (4, 56, .pointer (some ⟨b6, 0, none⟩)), (5, 57, iv p0.W), (6, 58, iv p1), (7, 59, iv z55), (8, 60, iv z69), (9, 61, iv s43), (10, 62, .pointer (some ⟨b6, 0, none⟩)), (11, 63, iv p0.W), (12, 64, iv p1), (13, 65, iv z55), (14, 66, iv z71)]) rfl S ?_
  refine nodeCut (fun N W L D => ∀ b80 ad78 cp79, N [16, 15] ((16, 12, .pointer (some ⟨b80, 0, none⟩)) :: (15, 67, .agg #[iv r73.W, iv r73.H, .slice ad78 r73.Bits.length cp79]) :: W) ((eBox b80 24 [iv 0, iv 0, .slice none 0 0]) :: (eRow rB 4 (.slice ad78 r73.Bits.length cp79) r73.Bits) :: L) ((fRep r_api_Grid (.agg #[iv p0.W, iv p0.H, .slice ad3 p0.Bits.length cp4]) p0) :: D)) (fun b80 ad78 cp79 => ?_) fun nd1 => ?_
  · refine node_by (A := anc_raddleref13_Units_1) (nf := [15, 16, 17]) (Y := [16, 15]) 18 (by kernel_rfl) (by kernel_rfl) (by kernel_rfl) (by kernel_rfl) (by kernel_rfl) [16, 15, 0, 1, 2, 3, 4, 5, 6, 7, 8, 9, 10, 11, 12, 13, 14] (by kernel_rfl) (by decide) (by decide) (aD 0 17 15 (by decide) (aD 1 16 15 (by decide) (aD 2 15 15 (by decide) (aD 3 14 15 (by decide) (aD 4 13 15 (by decide) (aD 5 12 15 (by decide) (aD 6 11 15 (by decide) (aD 7 10 15 (by decide) (aD 8 9 15 (by decide) (aD 9 8 15 (by decide) (aD 10 7 15 (by decide) (aD 11 6 15 (by decide) (aD 12 5 15 (by decide) (aD 13 4 15 (by decide) (aD 14 3 15 (by decide) (aY 15 2 (by decide) (aY 16 1 (by decide) (aN 17 0 (by decide) ?_ (trivial))))))))))))))))))) [] (fun q hq => by cases hq) (fun hY => absurd (hY 17 (by decide)) (by decide))
    refine ⟨_, [(12, .pointer (some ⟨b80, 0, none⟩)), (67, .agg #[iv r73.W, iv r73.H, .slice ad78 r73.Bits.length cp79])], rfl, (srcs_of [some 0, some 1] rfl rfl rfl), fun G a w S => ?_⟩
    refine sStore (p := b80) (off := 0) (T := 24) (vs := [iv 0, iv 0, .slice none 0 0]) (v := .agg #[iv r73.W, iv r73.H, .slice ad78 r73.Bits.length cp79]) 0 [iv r73.W, iv r73.H, .slice ad78 r73.Bits.length cp79] S (wN rfl) rfl rfl rfl rfl rfl rfl rfl (by simp) rfl fun a w S => ?_
    refine leafL ⟨rfl, _, _, .inr ⟨[], rfl, S, hz_of rfl, ?_⟩⟩
    refine node_by (A := anc_raddleref13_Units_1) (nf := [15, 16, 17]) (Y := [17, 16, 15]) 18 (by kernel_rfl) (by kernel_rfl) (by kernel_rfl) (by kernel_rfl) (by kernel_rfl) [16, 15, 0, 1, 2, 3, 4, 5, 6, 7, 8, 9, 10, 11, 12, 13, 14] (by kernel_rfl) (by decide) (by decide) (aD 0 17 17 (by decide) (aD 1 16 17 (by decide) (aD 2 15 17 (by decide) (aD 3 14 17 (by decide) (aD 4 13 17 (by decide) (aD 5 12 17 (by decide) (aD 6 11 17 (by decide) (aD 7 10 17 (by decide) (aD 8 9 17 (by decide) (aD 9 8 17 (by decide) (aD 10 7 17 (by decide) (aD 11 6 17 (by decide) (aD 12 5 17 (by decide) (aD 13 4 17 (by decide) (aD 14 3 17 (by decide) (aY 15 2 (by decide) (aY 16 1 (by decide) (aY 17 0 (by decide) (trivial))))))))))))))))))) [(1, iv p1), (2, iv p2), (3, .pointer (some ⟨b6, 0, none⟩)), (9, .slice ad38 s37.length cp39), (10, .slice ad41 s40.length cp42), (11, iv s43), (12, .pointer (some ⟨b80, 0, none⟩))] (fin_of [none, none, none, none, none, none, some 0] rfl (by kernel_rfl) (by kernel_rfl)) (fun _ a w S => ?_)
    refine leafT (hK68 _ _ ?_)
    refine sSeq (fun K81 hK81 => ?_)
    refine sRegion ?_
    refine sMove (iv 0) S (wN rfl) (.inr rfl) rfl rfl (lb rfl) fun a S => ?_
    refine leafL (leafT (hK81 _ _ ?_))
    obtain ⟨t83, h, g84⟩ := bindSome h
    refine sCut (fun a w => ∃ o82, o82 = t83 ∧ St [] E [] w0 97 a w [(1, iv p1), (2, iv p2), (3, .pointer (some ⟨b6, 0, none⟩)), (9, .slice ad38 s37.length cp39), (10, .slice ad41 s40.length cp42), (11, iv s43), (12, .pointer (some ⟨b80, 0, none⟩)), (13, iv o82)] [eBox b6 24 [iv p0.W, iv p0.H, .slice ad3 p0.Bits.length cp4], eBox b80 24 [iv r73.W, iv r73.H, .slice ad78 r73.Bits.length cp79], eRow r_api_Grid 24 (.slice ad38 s37.length cp39) s37, eRow (rI .i64) 3 (.slice ad41 s40.length cp42) s40, eRow rB 4 (.slice ad78 r73.Bits.length cp79) r73.Bits] [fRep (rL rB) (.slice ad3 p0.Bits.length cp4) p0.Bits]) ?_ (fun a w hI => ?_)
    rotate_left
    · obtain ⟨o82, rfl, S⟩ := hI
      have h := g84
      clear g84
      try dsimp only at h
      obtain ⟨t119, h, g120⟩ := bindSome h
      refine sCut (fun a w => ∃ o116, o116 = t119 ∧ ∃ ad117, ∃ cp118, St [] E [] w0 97 a w [(1, iv p1), (2, iv p2), (3, .pointer (some ⟨b6, 0, none⟩)), (9, .slice ad117 o116.length cp118), (10, .slice ad41 s40.length cp42), (11, iv s43), (13, iv o82)] [eBox b6 24 [iv p0.W, iv p0.H, .slice ad3 p0.Bits.length cp4], eRow r_api_Grid 24 (.slice ad117 o116.length cp118) o116, eRow (rI .i64) 3 (.slice ad41 s40.length cp42) s40] [fRep (rL rB) (.slice ad3 p0.Bits.length cp4) p0.Bits]) ?_ (fun a w hI => ?_)
      rotate_left
      · obtain ⟨o116, rfl, ad117, cp118, S⟩ := hI
        have h := g120
        clear g120
        try dsimp only at h
        refine sRegion ?_
        refine sMove (.slice ad41 s40.length cp42) S (wN rfl) (.inl rfl) rfl rfl (lb rfl) fun a S => ?_
        refine sMove (iv o82) S (wN rfl) (.inl rfl) rfl rfl (lb rfl) fun a S => ?_
        refine sLit (r := (rI .i64)) (T := 3) (xs := ([o82] : List Int)) [(0, iv o82)] 1 [iv o82] [iv o82] (iv 0) 8 S (wN rfl) rfl rfl Try.underlying35 rfl (by decide) (by decide) (by kernel_rfl) rfl (fun E1 w1 hE => All.cons rfl (All.nil _ _ _)) rfl rfl (lb rfl) fun a w ad129 cp130 S => ?_
        obtain ⟨l131, hx132, h⟩ := bindSome h
        refine sApp (r := (rI .i64)) (T := 3) (xs := s40) (ys := ([o82] : List Int)) (v := .slice ad41 s40.length cp42) (u := .slice ad129 ([o82] : List Int).length cp130) 3 (iv 0) 8 S (wN rfl) rfl Try.underlying35 rfl rfl (by decide) rfl rfl rfl (src_R (T := 3) 0 S.mem rfl) hx132 rfl (lb rfl) fun a w ad133 cp134 S => ?_
        refine sMove (.slice ad133 l131.length cp134) S (wN rfl) (.inr rfl) rfl rfl (lb rfl) fun a S => ?_
        exact leafL (leafB (leafT (⟨o116, l131, Option.some.inj h, ad117, cp118, ad133, cp134, S.fix [2, 3, 0] [0] (by decide) rfl rfl rfl⟩)))
      refine sSeq (fun K121 hK121 => ?_)
      refine sRegion ?_
      refine sMove (iv o82) S (wN rfl) (.inl rfl) rfl rfl (lb rfl) fun a S => ?_
      refine sMove (.slice ad38 s37.length cp39) S (wN rfl) (.inl rfl) rfl rfl (lb rfl) fun a S => ?_
      refine sLen (ad := ad38) (m := s37.length) (c := cp39) S (wN rfl) rfl Try.underlying34 rfl rfl (lb rfl) fun a S => ?_
      refine sBin (.bool (o82 == (s37.length : Int))) S (wN rfl) rfl rfl rfl (bEq _ _ _ _ .i64 o82 (s37.length : Int)) rfl (lb rfl) fun a S => ?_
      refine leafL (leafT (hK121 _ _ ?_))
      rcases iteSome h with ⟨hc122, h⟩ | ⟨hc122, h⟩
      rotate_left
      · refine sCondF S rfl hc122 ?_
        exact wp_skip (leafT (⟨s37, Option.some.inj h, ad38, cp39, S.fix [0, 2, 3] [0] (by decide) rfl rfl rfl⟩))
      refine sCondT S rfl hc122 ?_
      refine sRegion ?_
      refine sMove (.slice ad38 s37.length cp39) S (wN rfl) (.inl rfl) rfl rfl (lb rfl) fun a S => ?_
      refine sLoadN (p := b80) (off := 0) (T := 24) (vs := [iv r73.W, iv r73.H, .slice ad78 r73.Bits.length cp79]) 1 [iv r73.W, iv r73.H, .slice ad78 r73.Bits.length cp79] S (wN rfl) rfl rfl rfl rfl rfl rfl rfl (lb rfl) fun a S => ?_
      have S := S.shutR (r := rB) (T := 4) (v := .slice ad78 r73.Bits.length cp79) (xs := r73.Bits) 4 rfl
      have S := S.learn (fRep r_api_Grid (.agg #[iv r73.W, iv r73.H, .slice ad78 r73.Bits.length cp79]) r73) ⟨_, rfl, S.mem.know (i := 0) (e := fRep (rL rB) (.slice ad78 r73.Bits.length cp79) r73.Bits) rfl⟩
      refine sLit (r := r_api_Grid) (T := 24) (xs := [r73]) [(0, .agg #[iv r73.W, iv r73.H, .slice ad78 r73.Bits.length cp79])] 1 [.agg #[iv r73.W, iv r73.H, .slice ad78 r73.Bits.length cp79]] [iv r73.W, iv r73.H, .slice ad78 r73.Bits.length cp79] (.agg #[iv 0, iv 0, .slice none 0 0]) 40 S (wN rfl) rfl rfl Try.underlying34 rfl (by decide) (by decide) (by kernel_rfl) rfl (fun E1 w1 hE => All.cons (r_api_Grid.mono hE (S.mem.know (i := 0) (e := fRep r_api_Grid (.agg #[iv r73.W, iv r73.H, .slice ad78 r73.Bits.length cp79]) r73) rfl)) (All.nil _ _ _)) rfl rfl (lb rfl) fun a w ad123 cp124 S => ?_
      obtain ⟨l125, hx126, h⟩ := bindSome h
      refine sApp (r := r_api_Grid) (T := 24) (xs := s37) (ys := [r73]) (v := .slice ad38 s37.length cp39) (u := .slice ad123 [r73].length cp124) 3 (.agg #[iv 0, iv 0, .slice none 0 0]) 40 S (wN rfl) rfl Try.underlying34 rfl rfl (by decide) rfl rfl rfl (src_R (T := 24) 0 S.mem rfl) hx126 rfl (lb rfl) fun a w ad127 cp128 S => ?_
      refine sMove (.slice ad127 l125.length cp128) S (wN rfl) (.inr rfl) rfl rfl (lb rfl) fun a S => ?_
      exact leafL (leafT (⟨l125, Option.some.inj h, ad127, cp128, S.fix [2, 0, 4] [2] (by decide) rfl rfl rfl⟩))
    refine wp_block ?_
    obtain ⟨t88, hl, g87⟩ := bindSome h
    refine sLoop hl (fun s0 a w => match s0 with | s85 => St [] E [] w0 97 a w [(1, iv p1), (2, iv p2), (3, .pointer (some ⟨b6, 0, none⟩)), (9, .slice ad38 s37.length cp39), (10, .slice ad41 s40.length cp42), (11, iv s43), (12, .pointer (some ⟨b80, 0, none⟩)), (13, iv s85)] [eBox b6 24 [iv p0.W, iv p0.H, .slice ad3 p0.Bits.length cp4], eBox b80 24 [iv r73.W, iv r73.H, .slice ad78 r73.Bits.length cp79], eRow r_api_Grid 24 (.slice ad38 s37.length cp39) s37, eRow (rI .i64) 3 (.slice ad41 s40.length cp42) s40, eRow rB 4 (.slice ad78 r73.Bits.length cp79) r73.Bits] [fRep (rL rB) (.slice ad3 p0.Bits.length cp4) p0.Bits]) (S.fix [2, 0, 3, 4, 1] [1] (by decide) rfl rfl rfl) ?_
    clear hl h
    intro s85 a w c0 hI h hu86
    unfold raddleref13_Units_l1 at h
    dsimp only at h hI
    have S := hI
    refine sSeq (fun K90 hK90 => ?_)
    obtain ⟨t92, h, g93⟩ := bindSome h
    refine sCut (fun a w => ∃ o91, o91 = t92 ∧ St [] E [] w0 97 a w [(1, iv p1), (2, iv p2), (3, .pointer (some ⟨b6, 0, none⟩)), (9, .slice ad38 s37.length cp39), (10, .slice ad41 s40.length cp42), (11, iv s43), (12, .pointer (some ⟨b80, 0, none⟩)), (13, iv s85), (80, .bool o91)] [eBox b6 24 [iv p0.W, iv p0.H, .slice ad3 p0.Bits.length cp4], eBox b80 24 [iv r73.W, iv r73.H, .slice ad78 r73.Bits.length cp79], eRow r_api_Grid 24 (.slice ad38 s37.length cp39) s37, eRow (rI .i64) 3 (.slice ad41 s40.length cp42) s40, eRow rB 4 (.slice ad78 r73.Bits.length cp79) r73.Bits] [fRep (rL rB) (.slice ad3 p0.Bits.length cp4) p0.Bits]) ?_ (fun a w hI => ?_)
    rotate_left
    · obtain ⟨o91, rfl, S⟩ := hI
      have h := g93
      clear g93
      try dsimp only at h
      rcases iteSome h with ⟨hc115, h⟩ | ⟨hc115, h⟩
      rotate_left
      · refine sCondF S rfl hc115 ?_
        obtain rfl := Option.some.inj h
        obtain rfl := hu86 _ rfl
        have h := g87
        clear g87
        try dsimp only at h
        exact wp_exit (xThen (xThen (xHit (leafT (⟨s85, Option.some.inj h, S.fix [0, 1, 2, 3, 4] [0] (by decide) rfl rfl rfl⟩)))))
      refine sCondT S rfl hc115 ?_
      refine wp_skip (leafT (hK90 _ _ ?_))
      refine wp_block ?_
      refine sRegion ?_
      refine sMove (iv s85) S (wN rfl) (.inl rfl) rfl rfl (lb rfl) fun a S => ?_
      refine sBin (iv (w64 (s85 + 1))) S (wN rfl) rfl rfl rfl (bAdd _ _ _ _ s85 1) rfl (lb rfl) fun a S => ?_
      refine sMove (iv (w64 (s85 + 1))) S (wN rfl) (.inr rfl) rfl rfl (lb rfl) fun a S => ?_
      exact leafL (leafB (leafT (⟨w64 (s85 + 1), (Option.some.inj h).symm, (S.fix [0, 1, 2, 3, 4] [0] (by decide) rfl rfl rfl)⟩)))
    rcases iteSome h with ⟨hc94, h⟩ | ⟨hc94, h⟩
    rotate_left
    · refine sDraw (nf := []) (W := [(0, 68, iv s85), (1, 69, .slice ad38 s37.length cp39), (2, 70, iv (s37.length : Int)), (3, 71, .bool (decide (s85 < (s37.length : Int)))), (4, 72, .bool (decide (s85 < (s37.length : Int)))), (5, 73, undef), (6, 74, undef), (7, 75, undef), (8, 76, undef), (9, 77, undef), (10, 78, undef), (11, 79, undef), (12, 80, .bool false)]) rfl S ?_
      refine node_by (A := anc_raddleref13_Units_2) (nf := []) (Y := []) (W := [(0, 68, iv s85), (1, 69, .slice ad38 s37.length cp39), (2, 70, iv (s37.length : Int)), (3, 71, .bool (decide (s85 < (s37.length : Int)))), (4, 72, .bool (decide (s85 < (s37.length : Int)))), (5, 73, undef), (6, 74, undef), (7, 75, undef), (8, 76, undef), (9, 77, undef), (10, 78, undef), (11, 79, undef), (12, 80, .bool false)]) 13 (by kernel_rfl) (by kernel_rfl) (by kernel_rfl) (by kernel_rfl) (by kernel_rfl) [0, 1, 2, 3, 4, 5, 6, 7, 8, 9, 10, 11, 12] (by kernel_rfl) (by decide) (by decide) (aF 0 12 (by decide) ?_ (aF 1 11 (by decide) ?_ (aF 2 10 (by decide) ?_ (aF 3 9 (by decide) ?_ (aF 4 8 (by decide) ?_ (aF 5 7 (by decide) ?_ (aF 6 6 (by decide) ?_ (aF 7 5 (by decide) ?_ (aF 8 4 (by decide) ?_ (aF 9 3 (by decide) ?_ (aF 10 2 (by decide) ?_ (aF 11 1 (by decide) ?_ (aF 12 0 (by decide) ?_ (trivial)))))))))))))) [(1, iv p1), (2, iv p2), (3, .pointer (some ⟨b6, 0, none⟩)), (9, .slice ad38 s37.length cp39), (10, .slice ad41 s40.length cp42), (11, iv s43), (12, .pointer (some ⟨b80, 0, none⟩)), (13, iv s85), (73, undef), (74, undef), (75, undef), (76, undef), (77, undef), (78, undef), (79, undef), (80, .bool false)] (fin_of [none, none, none, none, none, none, none, none, some 5, some 6, some 7, some 8, some 9, some 10, some 11, some 12] rfl (by kernel_rfl) (by kernel_rfl)) (fun _ a w S => ?_)
      · refine fI 68 (iv s85) [(13, iv s85)] 0 [none] rfl rfl rfl rfl rfl rfl fun G a w S => ?_
        refine sMove (iv s85) S (wN rfl) (.inl rfl) rfl rfl (lb rfl) fun a S => ?_
        exact leafL ⟨rfl, S⟩
      · refine fI 69 (.slice ad38 s37.length cp39) [(9, .slice ad38 s37.length cp39)] 1 [none] rfl rfl rfl rfl rfl rfl fun G a w S => ?_
        refine sMove (.slice ad38 s37.length cp39) S (wN rfl) (.inl rfl) rfl rfl (lb rfl) fun a S => ?_
        exact leafL ⟨rfl, S⟩
      · refine fI 70 (iv (s37.length : Int)) [(69, .slice ad38 s37.length cp39)] 2 [some 1] rfl rfl rfl rfl rfl rfl fun G a w S => ?_
        refine sLen (ad := ad38) (m := s37.length) (c := cp39) S (wN rfl) rfl Try.underlying34 rfl rfl (lb rfl) fun a S => ?_
        exact leafL ⟨rfl, S⟩
      · refine fI 71 (.bool (decide (s85 < (s37.length : Int)))) [(68, iv s85), (70, iv (s37.length : Int))] 3 [some 0, some 2] rfl rfl rfl rfl rfl rfl fun G a w S => ?_
        refine sBin (.bool (decide (s85 < (s37.length : Int)))) S (wN rfl) rfl rfl rfl (bLt _ _ _ _ .i64 s85 (s37.length : Int)) rfl (lb rfl) fun a S => ?_
        exact leafL ⟨rfl, S⟩
      · refine fI 72 (.bool (decide (s85 < (s37.length : Int)))) [(71, .bool (decide (s85 < (s37.length : Int))))] 4 [some 3] rfl rfl rfl rfl rfl rfl fun G a w S => ?_
        refine sMove (.bool (decide (s85 < (s37.length : Int)))) S (wN rfl) (.inl rfl) rfl rfl (lb rfl) fun a S => ?_
        exact leafL ⟨rfl, S⟩
      · refine fI 73 undef [(9, .slice ad38 s37.length cp39), (72, .bool (decide (s85 < (s37.length : Int))))] 5 [none, some 4] rfl rfl rfl rfl rfl rfl fun G a w S => ?_
        refine sSkip 4 true 72 73 S rfl rfl rfl hc94 rfl (lb rfl) fun a S => ?_
        exact leafL ⟨rfl, S⟩
      · refine fI 74 undef [(13, iv s85), (72, .bool (decide (s85 < (s37.length : Int))))] 6 [none, some 4] rfl rfl rfl rfl rfl rfl fun G a w S => ?_
        refine sSkip 4 true 72 74 S rfl rfl rfl hc94 rfl (lb rfl) fun a S => ?_
        exact leafL ⟨rfl, S⟩
      · refine fI 75 undef [(73, undef), (74, undef), (72, .bool (decide (s85 < (s37.length : Int))))] 7 [some 5, some 6, some 4] rfl rfl rfl rfl rfl rfl fun G a w S => ?_
        refine sSkip 4 true 72 75 S rfl rfl rfl hc94 rfl (lb rfl) fun a S => ?_
        exact leafL ⟨rfl, S⟩
      · refine fI 76 undef [(75, undef), (72, .bool (decide (s85 < (s37.length : Int))))] 8 [some 7, some 4] rfl rfl rfl rfl rfl rfl fun G a w S => ?_
        refine sSkip 4 true 72 76 S rfl rfl rfl hc94 rfl (lb rfl) fun a S => ?_
        exact leafL ⟨rfl, S⟩
      · refine fI 77 undef [(12, .pointer (some ⟨b80, 0, none⟩)), (72, .bool (decide (s85 < (s37.length : Int))))] 9 [none, some 4] rfl rfl rfl rfl rfl rfl fun G a w S => ?_
        refine sSkip 4 true 72 77 S rfl rfl rfl hc94 rfl (lb rfl) fun a S => ?_
        exact leafL ⟨rfl, S⟩
      · refine fI 78 undef [(76, undef), (77, undef), (72, .bool (decide (s85 < (s37.length : Int))))] 10 [some 8, some 9, some 4] rfl rfl rfl rfl rfl rfl fun G a w S => ?_
        refine sSkip 4 true 72 78 S rfl rfl rfl hc94 rfl (lb rfl) fun a S => ?_
        exact leafL ⟨rfl, S⟩
      · refine fI 79 undef [(78, undef), (72, .bool (decide (s85 < (s37.length : Int))))] 11 [some 10, some 4] rfl rfl rfl rfl rfl rfl fun G a w S => ?_
        refine sSkip 4 true 72 79 S rfl rfl rfl hc94 rfl (lb rfl) fun a S => ?_
        exact leafL ⟨rfl, S⟩
      · refine fI 80 (.bool false) [(72, .bool (decide (s85 < (s37.length : Int)))), (79, undef)] 12 [some 4, some 11] rfl rfl rfl rfl rfl rfl fun G a w S => ?_
        refine sPickF (.bool false) S (wN rfl) rfl rfl hc94 rfl rfl (lb rfl) fun a S => ?_
        exact leafL ⟨rfl, S⟩
      exact leafT (⟨false, Option.some.inj h, S.fix [0, 1, 2, 3, 4] [0] (by decide) rfl rfl rfl⟩)
    obtain ⟨x95, hx96, h⟩ := bindSome h
    obtain ⟨r105, hx106, h⟩ := bindSome h
    obtain ⟨q107, hq108, hp109⟩ := pIdxR (P := Try.prog) (r := r_api_Grid) (T := 24) (v := .slice ad38 s37.length cp39) (xs := s37) (j := s85) 34 24 2 S Try.underlying34 rfl rfl hx96
    refine sDraw (nf := [8]) (W := [(0, 68, iv s85), (1, 69, .slice ad38 s37.length cp39), (2, 70, iv (s37.length : Int)), (3, 71, .bool (decide (s85 < (s37.length : Int)))), (4, 72, .bool (decide (s85 < (s37.length : Int)))), (5, 73, .slice ad38 s37.length cp39), (6, 74, iv s85), (7, 75, q107), (9, 77, .agg #[iv r73.W, iv r73.H, .slice ad78 r73.Bits.length cp79])]) rfl S ?_
    refine node_by (A := anc_raddleref13_Units_2) (nf := [8]) (Y := []) (W := [(0, 68, iv s85), (1, 69, .slice ad38 s37.length cp39), (2, 70, iv (s37.length : Int)), (3, 71, .bool (decide (s85 < (s37.length : Int)))), (4, 72, .bool (decide (s85 < (s37.length : Int)))), (5, 73, .slice ad38 s37.length cp39), (6, 74, iv s85), (7, 75, q107), (9, 77, .agg #[iv r73.W, iv r73.H, .slice ad78 r73.Bits.length cp79])]) 13 (by kernel_rfl) (by kernel_rfl) (by kernel_rfl) (by kernel_rfl) (by kernel_rfl) [0, 1, 2, 3, 4, 5, 6, 7, 9] (by kernel_rfl) (by decide) (by decide) (aF 0 12 (by decide) ?_ (aF 1 11 (by decide) ?_ (aF 2 10 (by decide) ?_ (aF 3 9 (by decide) ?_ (aF 4 8 (by decide) ?_ (aF 5 7 (by decide) ?_ (aF 6 6 (by decide) ?_ (aF 7 5 (by decide) ?_ (aN 8 4 (by decide) ?_ (aF 9 3 (by decide) ?_ (aE 10 2 8 (by decide) (aE 11 1 8 (by decide) (aE 12 0 8 (by decide) (trivial)))))))))))))) [] (fun q hq => by cases hq) (fun hY => absurd (hY 8 (by decide)) (by decide))
    · refine fI 68 (iv s85) [(13, iv s85)] 0 [none] rfl rfl rfl rfl rfl rfl fun G a w S => ?_
      refine sMove (iv s85) S (wN rfl) (.inl rfl) rfl rfl (lb rfl) fun a S => ?_
      exact leafL ⟨rfl, S⟩
    · refine fI 69 (.slice ad38 s37.length cp39) [(9, .slice ad38 s37.length cp39)] 1 [none] rfl rfl rfl rfl rfl rfl fun G a w S => ?_
      refine sMove (.slice ad38 s37.length cp39) S (wN rfl) (.inl rfl) rfl rfl (lb rfl) fun a S => ?_
      exact leafL ⟨rfl, S⟩
    · refine fI 70 (iv (s37.length : Int)) [(69, .slice ad38 s37.length cp39)] 2 [some 1] rfl rfl rfl rfl rfl rfl fun G a w S => ?_
      refine sLen (ad := ad38) (m := s37.length) (c := cp39) S (wN rfl) rfl Try.underlying34 rfl rfl (lb rfl) fun a S => ?_
      exact leafL ⟨rfl, S⟩
    · refine fI 71 (.bool (decide (s85 < (s37.length : Int)))) [(68, iv s85), (70, iv (s37.length : Int))] 3 [some 0, some 2] rfl rfl rfl rfl rfl rfl fun G a w S => ?_
      refine sBin (.bool (decide (s85 < (s37.length : Int)))) S (wN rfl) rfl rfl rfl (bLt _ _ _ _ .i64 s85 (s37.length : Int)) rfl (lb rfl) fun a S => ?_
      exact leafL ⟨rfl, S⟩
    · refine fI 72 (.bool (decide (s85 < (s37.length : Int)))) [(71, .bool (decide (s85 < (s37.length : Int))))] 4 [some 3] rfl rfl rfl rfl rfl rfl fun G a w S => ?_
      refine sMove (.bool (decide (s85 < (s37.length : Int)))) S (wN rfl) (.inl rfl) rfl rfl (lb rfl) fun a S => ?_
      exact leafL ⟨rfl, S⟩
    · refine fI 73 (.slice ad38 s37.length cp39) [(9, .slice ad38 s37.length cp39), (72, .bool (decide (s85 < (s37.length : Int))))] 5 [none, some 4] rfl rfl rfl rfl rfl rfl fun G a w S => ?_
      refine sMove (.slice ad38 s37.length cp39) S (wG 4 true 72 rfl rfl rfl hc94) (.inl rfl) rfl rfl (lb rfl) fun a S => ?_
      exact leafL ⟨rfl, S⟩
    · refine fI 74 (iv s85) [(13, iv s85), (72, .bool (decide (s85 < (s37.length : Int))))] 6 [none, some 4] rfl rfl rfl rfl rfl rfl fun G a w S => ?_
      refine sMove (iv s85) S (wG 4 true 72 rfl rfl rfl hc94) (.inl rfl) rfl rfl (lb rfl) fun a S => ?_
      exact leafL ⟨rfl, S⟩
    · refine fI 75 q107 [(73, .slice ad38 s37.length cp39), (74, iv s85), (72, .bool (decide (s85 < (s37.length : Int))))] 7 [some 5, some 6, some 4] rfl rfl rfl rfl rfl rfl fun G a w S => ?_
      refine sIdxV (v := .slice ad38 s37.length cp39) (k := .i64) (j := s85) S (wG 4 true 72 rfl rfl rfl hc94) rfl rfl rfl hq108 rfl (lb rfl) fun a S => ?_
      exact leafL ⟨rfl, S⟩
    · refine ⟨_, [(75, q107), (72, .bool (decide (s85 < (s37.length : Int))))], rfl, (srcs_of [some 7, some 4] rfl rfl rfl), fun G a w S => ?_⟩
      refine sLoadRN (r := r_api_Grid) (T := 24) (xs := s37) (x := x95) (v := .slice ad38 s37.length cp39) (vq := q107) (j := s85) 2 S hp109 (wG 4 true 72 rfl rfl rfl hc94) rfl rfl rfl hx96 aggr_api_Grid rfl rfl rfl (lb rfl) fun a u110 S => ?_
      obtain ⟨u111, rfl, hu112⟩ := S.mem.know (i := 0) (e := fRep r_api_Grid (u110) x95) rfl
      have S := S.learn (fRep (rL rB) u111 x95.Bits) hu112
      obtain ⟨ad113, cp114, _, rfl, _⟩ := hu112
      refine leafL ⟨rfl, _, _, .inl ⟨76, (.agg #[iv x95.W, iv x95.H, .slice ad113 x95.Bits.length cp114]), [(10, 78, .bool r105), (11, 79, .bool (!r105)), (12, 80, .bool (!r105))], rfl, S, hz_of rfl, ?_⟩⟩
      refine node_by (A := anc_raddleref13_Units_2) (nf := [8]) (Y := [8]) 13 (by kernel_rfl) (by kernel_rfl) (by kernel_rfl) (by kernel_rfl) (by kernel_rfl) [10, 11, 12, 8, 0, 1, 2, 3, 4, 5, 6, 7, 9] (by kernel_rfl) (by decide) (by decide) (aD 0 12 8 (by decide) (aD 1 11 8 (by decide) (aD 2 10 8 (by decide) (aD 3 9 8 (by decide) (aD 4 8 8 (by decide) (aD 5 7 8 (by decide) (aD 6 6 8 (by decide) (aD 7 5 8 (by decide) (aY 8 4 (by decide) (aF 9 3 (by decide) ?_ (aF 10 2 (by decide) ?_ (aF 11 1 (by decide) ?_ (aF 12 0 (by decide) ?_ (trivial)))))))))))))) [(1, iv p1), (2, iv p2), (3, .pointer (some ⟨b6, 0, none⟩)), (9, .slice ad38 s37.length cp39), (10, .slice ad41 s40.length cp42), (11, iv s43), (12, .pointer (some ⟨b80, 0, none⟩)), (13, iv s85), (73, .slice ad38 s37.length cp39), (74, iv s85), (75, q107), (76, .agg #[iv x95.W, iv x95.H, .slice ad113 x95.Bits.length cp114]), (77, .agg #[iv r73.W, iv r73.H, .slice ad78 r73.Bits.length cp79]), (78, .bool r105), (79, .bool (!r105)), (80, .bool (!r105))] (fin_of [none, none, none, none, none, none, none, none, some 9, some 10, some 11, some 3, some 12, some 0, some 1, some 2] rfl (by kernel_rfl) (by kernel_rfl)) (fun _ a w S => ?_)
      · refine fI 77 (.agg #[iv r73.W, iv r73.H, .slice ad78 r73.Bits.length cp79]) [(12, .pointer (some ⟨b80, 0, none⟩)), (72, .bool (decide (s85 < (s37.length : Int))))] 12 [none, some 8] rfl rfl rfl rfl rfl rfl fun G a w S => ?_
        refine sLoadN (p := b80) (off := 0) (T := 24) (vs := [iv r73.W, iv r73.H, .slice ad78 r73.Bits.length cp79]) 1 [iv r73.W, iv r73.H, .slice ad78 r73.Bits.length cp79] S (wG 4 true 72 rfl rfl rfl hc94) rfl rfl rfl rfl rfl rfl rfl (lb rfl) fun a S => ?_
        exact leafL ⟨rfl, S⟩
      · refine fI 78 (.bool r105) [(76, .agg #[iv x95.W, iv x95.H, .slice ad113 x95.Bits.length cp114]), (77, .agg #[iv r73.W, iv r73.H, .slice ad78 r73.Bits.length cp79]), (72, .bool (decide (s85 < (s37.length : Int))))] 0 [some 3, some 12, some 8] rfl rfl rfl rfl rfl rfl fun G a w S => ?_
        have S1 := S.mem
        have S1 := S1.shutR (r := rB) (T := 4) (v := .slice ad78 r73.Bits.length cp79) (xs := r73.Bits) 4 rfl
        have S1 := S1.learn (fRep r_api_Grid (.agg #[iv r73.W, iv r73.H, .slice ad78 r73.Bits.length cp79]) r73) ⟨_, rfl, S1.know (i := 0) (e := fRep (rL rB) (.slice ad78 r73.Bits.length cp79) r73.Bits) rfl⟩
        refine sCallQ (X := Unit) (f := 17) (vs := [.agg #[iv x95.W, iv x95.H, .slice ad113 x95.Bits.length cp114], .agg #[iv r73.W, iv r73.H, .slice ad78 r73.Bits.length cp79]]) (val := fun _ => .bool r105) S (wG 4 true 72 rfl rfl rfl hc94) rfl callee17 rfl (S1.quiet [3, 0] rfl) (fun E1 w1 S1 => c_raddleref01_Same E1 w1 x95 (.agg #[iv x95.W, iv x95.H, .slice ad113 x95.Bits.length cp114]) r73 (.agg #[iv r73.W, iv r73.H, .slice ad78 r73.Bits.length cp79]) r105 hx106 S1) rfl (lb rfl) fun _ a w S => ?_
        exact leafL ⟨rfl, S⟩
      · refine fI 79 (.bool (!r105)) [(78, .bool r105), (72, .bool (decide (s85 < (s37.length : Int))))] 1 [some 0, some 8] rfl rfl rfl rfl rfl rfl fun G a w S => ?_
        refine sNot (b := r105) S (wG 4 true 72 rfl rfl rfl hc94) rfl rfl rfl (lb rfl) fun a S => ?_
        exact leafL ⟨rfl, S⟩
      · refine fI 80 (.bool (!r105)) [(72, .bool (decide (s85 < (s37.length : Int)))), (79, .bool (!r105))] 2 [some 8, some 1] rfl rfl rfl rfl rfl rfl fun G a w S => ?_
        refine sPickT (.bool (!r105)) S (wN rfl) rfl rfl hc94 rfl rfl (lb rfl) fun a S => ?_
        exact leafL ⟨rfl, S⟩
      exact leafT (⟨!r105, Option.some.inj h, S.fix [0, 1, 2, 3, 4] [2] (by decide) rfl rfl rfl⟩)
    refine fI 77 (.agg #[iv r73.W, iv r73.H, .slice ad78 r73.Bits.length cp79]) [(12, .pointer (some ⟨b80, 0, none⟩)), (72, .bool (decide (s85 < (s37.length : Int))))] 8 [none, some 4] rfl rfl rfl rfl rfl rfl fun G a w S => ?_
    refine sLoadN (p := b80) (off := 0) (T := 24) (vs := [iv r73.W, iv r73.H, .slice ad78 r73.Bits.length cp79]) 1 [iv r73.W, iv r73.H, .slice ad78 r73.Bits.length cp79] S (wG 4 true 72 rfl rfl rfl hc94) rfl rfl rfl rfl rfl rfl rfl (lb rfl) fun a S => ?_
    exact leafL ⟨rfl, S⟩
  refine node_by (A := anc_raddleref13_Units_1) (nf := [15, 16, 17]) (Y := []) (W := [(0, 52, .agg #[iv p0.W, iv p0.H, .slice ad3 p0.Bits.length cp4]), (1, 53, iv p1), (2, 54, iv p2), (3, 55, iv s43), (4, 56, .pointer (some ⟨b6, 0, none⟩)), (5, 57, iv p0.W), (6, 58, iv p1), (7, 59, iv z55), (8, 60, iv z69), (9, 61, iv s43), (10, 62, .pointer (some ⟨b6, 0, none⟩)), (11, 63, iv p0.W), (12, 64, iv p1), (13, 65, iv z55), (14, 66, iv z71)]) 18 (by kernel_rfl) (by kernel_rfl) (by kernel_rfl) (by kernel_rfl) (by kernel_rfl) [0, 1, 2, 3, 4, 5, 6, 7, 8, 9, 10, 11, 12, 13, 14] (by kernel_rfl) (by decide) (by decide) (aF 0 17 (by decide) ?_ (aF 1 16 (by decide) ?_ (aF 2 15 (by decide) ?_ (aF 3 14 (by decide) ?_ (aF 4 13 (by decide) ?_ (aF 5 12 (by decide) ?_ (aF 6 11 (by decide) ?_ (aF 7 10 (by decide) ?_ (aF 8 9 (by decide) ?_ (aF 9 8 (by decide) ?_ (aF 10 7 (by decide) ?_ (aF 11 6 (by decide) ?_ (aF 12 5 (by decide) ?_ (aF 13 4 (by decide) ?_ (aF 14 3 (by decide) ?_ (aN 15 2 (by decide) ?_ (aN 16 1 (by decide) ?_ (aB 17 0 15 (by decide) (trivial))))))))))))))))))) [] (fun q hq => by cases hq) (fun hY => absurd (hY 15 (by decide)) (by decide))
  · refine fI 52 (.agg #[iv p0.W, iv p0.H, .slice ad3 p0.Bits.length cp4]) [(3, .pointer (some ⟨b6, 0, none⟩))] 0 [none] rfl rfl rfl rfl rfl rfl fun G a w S => ?_
    refine sLoadN (p := b6) (off := 0) (T := 24) (vs := [iv p0.W, iv p0.H, .slice ad3 p0.Bits.length cp4]) 0 [iv p0.W, iv p0.H, .slice ad3 p0.Bits.length cp4] S (wN rfl) rfl rfl rfl rfl rfl rfl rfl (lb rfl) fun a S => ?_
    exact leafL ⟨rfl, S⟩
  · refine fI 53 (iv p1) [(1, iv p1)] 1 [none] rfl rfl rfl rfl rfl rfl fun G a w S => ?_
    refine sMove (iv p1) S (wN rfl) (.inl rfl) rfl rfl (lb rfl) fun a S => ?_
    exact leafL ⟨rfl, S⟩
  · refine fI 54 (iv p2) [(2, iv p2)] 2 [none] rfl rfl rfl rfl rfl rfl fun G a w S => ?_
    refine sMove (iv p2) S (wN rfl) (.inl rfl) rfl rfl (lb rfl) fun a S => ?_
    exact leafL ⟨rfl, S⟩
  · refine fI 55 (iv s43) [(11, iv s43)] 3 [none] rfl rfl rfl rfl rfl rfl fun G a w S => ?_
    refine sMove (iv s43) S (wN rfl) (.inl rfl) rfl rfl (lb rfl) fun a S => ?_
    exact leafL ⟨rfl, S⟩
  · refine fI 56 (.pointer (some ⟨b6, 0, none⟩)) [(3, .pointer (some ⟨b6, 0, none⟩))] 4 [none] rfl rfl rfl rfl rfl rfl fun G a w S => ?_
    refine sField (b := b6) (off := 0) 0 0 S (wN rfl) rfl rfl rfl rfl rfl (lb rfl) fun a S => ?_
    exact leafL ⟨rfl, S⟩
  · refine fI 57 (iv p0.W) [(56, .pointer (some ⟨b6, 0, none⟩))] 5 [some 4] rfl rfl rfl rfl rfl rfl fun G a w S => ?_
    refine sLoad1 (p := b6) (off := 0) (T := 24) (vs := [iv p0.W, iv p0.H, .slice ad3 p0.Bits.length cp4]) 0 (iv p0.W) S (wN rfl) rfl rfl rfl rfl rfl rfl (lb rfl) fun a S => ?_
    exact leafL ⟨rfl, S⟩
  · refine fI 58 (iv p1) [(1, iv p1)] 6 [none] rfl rfl rfl rfl rfl rfl fun G a w S => ?_
    refine sMove (iv p1) S (wN rfl) (.inl rfl) rfl rfl (lb rfl) fun a S => ?_
    exact leafL ⟨rfl, S⟩
  · refine fI 59 (iv z55) [(57, iv p0.W), (58, iv p1)] 7 [some 5, some 6] rfl rfl rfl rfl rfl rfl fun G a w S => ?_
    refine sBin (iv z55) S (wN rfl) rfl rfl rfl (bQuo _ _ _ _ (x := p0.W) (y := p1) hx56) rfl (lb rfl) fun a S => ?_
    exact leafL ⟨rfl, S⟩
  · refine fI 60 (iv z69) [(55, iv s43), (59, iv z55)] 8 [some 3, some 7] rfl rfl rfl rfl rfl rfl fun G a w S => ?_
    refine sBin (iv z69) S (wN rfl) rfl rfl rfl (bRem _ _ _ _ (x := s43) (y := z55) hx70) rfl (lb rfl) fun a S => ?_
    exact leafL ⟨rfl, S⟩
  · refine fI 61 (iv s43) [(11, iv s43)] 9 [none] rfl rfl rfl rfl rfl rfl fun G a w S => ?_
    refine sMove (iv s43) S (wN rfl) (.inl rfl) rfl rfl (lb rfl) fun a S => ?_
    exact leafL ⟨rfl, S⟩
  · refine fI 62 (.pointer (some ⟨b6, 0, none⟩)) [(3, .pointer (some ⟨b6, 0, none⟩))] 10 [none] rfl rfl rfl rfl rfl rfl fun G a w S => ?_
    refine sField (b := b6) (off := 0) 0 0 S (wN rfl) rfl rfl rfl rfl rfl (lb rfl) fun a S => ?_
    exact leafL ⟨rfl, S⟩
  · refine fI 63 (iv p0.W) [(62, .pointer (some ⟨b6, 0, none⟩))] 11 [some 10] rfl rfl rfl rfl rfl rfl fun G a w S => ?_
    refine sLoad1 (p := b6) (off := 0) (T := 24) (vs := [iv p0.W, iv p0.H, .slice ad3 p0.Bits.length cp4]) 0 (iv p0.W) S (wN rfl) rfl rfl rfl rfl rfl rfl (lb rfl) fun a S => ?_
    exact leafL ⟨rfl, S⟩
  · refine fI 64 (iv p1) [(1, iv p1)] 12 [none] rfl rfl rfl rfl rfl rfl fun G a w S => ?_
    refine sMove (iv p1) S (wN rfl) (.inl rfl) rfl rfl (lb rfl) fun a S => ?_
    exact leafL ⟨rfl, S⟩
  · refine fI 65 (iv z55) [(63, iv p0.W), (64, iv p1)] 13 [some 11, some 12] rfl rfl rfl rfl rfl rfl fun G a w S => ?_
    refine sBin (iv z55) S (wN rfl) rfl rfl rfl (bQuo _ _ _ _ (x := p0.W) (y := p1) hx56) rfl (lb rfl) fun a S => ?_
    exact leafL ⟨rfl, S⟩
  · refine fI 66 (iv z71) [(61, iv s43), (65, iv z55)] 14 [some 9, some 13] rfl rfl rfl rfl rfl rfl fun G a w S => ?_
    refine sBin (iv z71) S (wN rfl) rfl rfl rfl (bQuo _ _ _ _ (x := s43) (y := z55) hx72) rfl (lb rfl) fun a S => ?_
    exact leafL ⟨rfl, S⟩
  · refine ⟨_, [(52, .agg #[iv p0.W, iv p0.H, .slice ad3 p0.Bits.length cp4]), (53, iv p1), (54, iv p2), (60, iv z69), (66, iv z71)], rfl, (srcs_of [some 0, some 1, some 2, some 8, some 14] rfl rfl rfl), fun G a w S => ?_⟩
    have S := S.learn (fRep r_api_Grid (.agg #[iv p0.W, iv p0.H, .slice ad3 p0.Bits.length cp4]) p0) ⟨_, rfl, S.mem.know (i := 0) (e := fRep (rL rB) (.slice ad3 p0.Bits.length cp4) p0.Bits) rfl⟩
    refine sCall (X := Option Addr × Nat) (f := 50) (vs := [.agg #[iv p0.W, iv p0.H, .slice ad3 p0.Bits.length cp4], iv p1, iv p2, iv z69, iv z71]) (val := fun x => .agg #[iv r73.W, iv r73.H, .slice x.1 r73.Bits.length x.2]) (B' := fun x => [eRow rB 4 (.slice x.1 r73.Bits.length x.2) r73.Bits]) (D' := fun _ => []) [] [eBox b6 24 [iv p0.W, iv p0.H, .slice ad3 p0.Bits.length cp4], eRow r_api_Grid 24 (.slice ad38 s37.length cp39) s37, eRow (rI .i64) 3 (.slice ad41 s40.length cp42) s40] [fRep r_api_Grid (.agg #[iv p0.W, iv p0.H, .slice ad3 p0.Bits.length cp4]) p0] [0, 1, 2] [0] S (wN rfl) rfl callee50 rfl (by decide) rfl rfl (fun E1 w1 S1 => c_raddleref13_Part_s0 E1 w1 p0 (.agg #[iv p0.W, iv p0.H, .slice ad3 p0.Bits.length cp4]) p1 p2 z69 z71 r73 hx74 S1) rfl (lb rfl) fun xx a w S => ?_
    obtain ⟨ad78, cp79⟩ := xx
    dsimp only at S
    refine leafL ⟨rfl, _, _, .inl ⟨67, (.agg #[iv r73.W, iv r73.H, .slice ad78 r73.Bits.length cp79]), [], rfl, S, hz_of rfl, ?_⟩⟩
    refine node_by (A := anc_raddleref13_Units_1) (nf := [15, 16, 17]) (Y := [15]) 18 (by kernel_rfl) (by kernel_rfl) (by kernel_rfl) (by kernel_rfl) (by kernel_rfl) [15, 0, 1, 2, 3, 4, 5, 6, 7, 8, 9, 10, 11, 12, 13, 14] (by kernel_rfl) (by decide) (by decide) (aD 0 17 15 (by decide) (aD 1 16 15 (by decide) (aD 2 15 15 (by decide) (aD 3 14 15 (by decide) (aD 4 13 15 (by decide) (aD 5 12 15 (by decide) (aD 6 11 15 (by decide) (aD 7 10 15 (by decide) (aD 8 9 15 (by decide) (aD 9 8 15 (by decide) (aD 10 7 15 (by decide) (aD 11 6 15 (by decide) (aD 12 5 15 (by decide) (aD 13 4 15 (by decide) (aD 14 3 15 (by decide) (aY 15 2 (by decide) (aN 16 1 (by decide) ?_ (aB 17 0 16 (by decide) (trivial))))))))))))))))))) [] (fun q hq => by cases hq) (fun hY => absurd (hY 16 (by decide)) (by decide))
    refine ⟨_, [], rfl, (srcs_of [] rfl rfl rfl), fun G a w S => ?_⟩
    refine sAlloc (.agg #[iv 0, iv 0, .slice none 0 0]) S (wN rfl) rfl rfl [iv 0, iv 0, .slice none 0 0] rfl rfl (lb rfl) fun a b80 w S => ?_
    refine leafL ⟨rfl, _, _, .inl ⟨12, (.pointer (some ⟨b80, 0, none⟩)), [], rfl, S, hz_of rfl, ?_⟩⟩
    exact nd1 b80 ad78 cp79
  refine ⟨_, [], rfl, (srcs_of [] rfl rfl rfl), fun G a w S => ?_⟩
  refine sAlloc (.agg #[iv 0, iv 0, .slice none 0 0]) S (wN rfl) rfl rfl [iv 0, iv 0, .slice none 0 0] rfl rfl (lb rfl) fun a b135 w S => ?_
  refine leafL ⟨rfl, _, _, .inl ⟨12, (.pointer (some ⟨b135, 0, none⟩)), [], rfl, S, hz_of rfl, ?_⟩⟩
  refine node_by (A := anc_raddleref13_Units_1) (nf := [15, 16, 17]) (Y := [16]) 18 (by kernel_rfl) (by kernel_rfl) (by kernel_rfl) (by kernel_rfl) (by kernel_rfl) [16, 0, 1, 2, 3, 4, 5, 6, 7, 8, 9, 10, 11, 12, 13, 14] (by kernel_rfl) (by decide) (by decide) (aF 0 17 (by decide) ?_ (aF 1 16 (by decide) ?_ (aF 2 15 (by decide) ?_ (aF 3 14 (by decide) ?_ (aF 4 13 (by decide) ?_ (aF 5 12 (by decide) ?_ (aF 6 11 (by decide) ?_ (aF 7 10 (by decide) ?_ (aF 8 9 (by decide) ?_ (aF 9 8 (by decide) ?_ (aF 10 7 (by decide) ?_ (aF 11 6 (by decide) ?_ (aF 12 5 (by decide) ?_ (aF 13 4 (by decide) ?_ (aF 14 3 (by decide) ?_ (aN 15 2 (by decide) ?_ (aY 16 1 (by decide) (aB 17 0 15 (by decide) (trivial))))))))))))))))))) [] (fun q hq => by cases hq) (fun hY => absurd (hY 15 (by decide)) (by decide))
  · refine fI 52 (.agg #[iv p0.W, iv p0.H, .slice ad3 p0.Bits.length cp4]) [(3, .pointer (some ⟨b6, 0, none⟩))] 1 [none] rfl rfl rfl rfl rfl rfl fun G a w S => ?_
    refine sLoadN (p := b6) (off := 0) (T := 24) (vs := [iv p0.W, iv p0.H, .slice ad3 p0.Bits.length cp4]) 1 [iv p0.W, iv p0.H, .slice ad3 p0.Bits.length cp4] S (wN rfl) rfl rfl rfl rfl rfl rfl rfl (lb rfl) fun a S => ?_
    exact leafL ⟨rfl, S⟩
  · refine fI 53 (iv p1) [(1, iv p1)] 2 [none] rfl rfl rfl rfl rfl rfl fun G a w S => ?_
    refine sMove (iv p1) S (wN rfl) (.inl rfl) rfl rfl (lb rfl) fun a S => ?_
    exact leafL ⟨rfl, S⟩
  · refine fI 54 (iv p2) [(2, iv p2)] 3 [none] rfl rfl rfl rfl rfl rfl fun G a w S => ?_
    refine sMove (iv p2) S (wN rfl) (.inl rfl) rfl rfl (lb rfl) fun a S => ?_
    exact leafL ⟨rfl, S⟩
  · refine fI 55 (iv s43) [(11, iv s43)] 4 [none] rfl rfl rfl rfl rfl rfl fun G a w S => ?_
    refine sMove (iv s43) S (wN rfl) (.inl rfl) rfl rfl (lb rfl) fun a S => ?_
    exact leafL ⟨rfl, S⟩
  · refine fI 56 (.pointer (some ⟨b6, 0, none⟩)) [(3, .pointer (some ⟨b6, 0, none⟩))] 5 [none] rfl rfl rfl rfl rfl rfl fun G a w S => ?_
    refine sField (b := b6) (off := 0) 0 0 S (wN rfl) rfl rfl rfl rfl rfl (lb rfl) fun a S => ?_
    exact leafL ⟨rfl, S⟩
  · refine fI 57 (iv p0.W) [(56, .pointer (some ⟨b6, 0, none⟩))] 6 [some 5] rfl rfl rfl rfl rfl rfl fun G a w S => ?_
    refine sLoad1 (p := b6) (off := 0) (T := 24) (vs := [iv p0.W, iv p0.H, .slice ad3 p0.Bits.length cp4]) 1 (iv p0.W) S (wN rfl) rfl rfl rfl rfl rfl rfl (lb rfl) fun a S => ?_
    exact leafL ⟨rfl, S⟩
  · refine fI 58 (iv p1) [(1, iv p1)] 7 [none] rfl rfl rfl rfl rfl rfl fun G a w S => ?_
    refine sMove (iv p1) S (wN rfl) (.inl rfl) rfl rfl (lb rfl) fun a S => ?_
    exact leafL ⟨rfl, S⟩
  · refine fI 59 (iv z55) [(57, iv p0.W), (58, iv p1)] 8 [some 6, some 7] rfl rfl rfl rfl rfl rfl fun G a w S => ?_
    refine sBin (iv z55) S (wN rfl) rfl rfl rfl (bQuo _ _ _ _ (x := p0.W) (y := p1) hx56) rfl (lb rfl) fun a S => ?_
    exact leafL ⟨rfl, S⟩
  · refine fI 60 (iv z69) [(55, iv s43), (59, iv z55)] 9 [some 4, some 8] rfl rfl rfl rfl rfl rfl fun G a w S => ?_
    refine sBin (iv z69) S (wN rfl) rfl rfl rfl (bRem _ _ _ _ (x := s43) (y := z55) hx70) rfl (lb rfl) fun a S => ?_
    exact leafL ⟨rfl, S⟩
  · refine fI 61 (iv s43) [(11, iv s43)] 10 [none] rfl rfl rfl rfl rfl rfl fun G a w S => ?_
    refine sMove (iv s43) S (wN rfl) (.inl rfl) rfl rfl (lb rfl) fun a S => ?_
    exact leafL ⟨rfl, S⟩
  · refine fI 62 (.pointer (some ⟨b6, 0, none⟩)) [(3, .pointer (some ⟨b6, 0, none⟩))] 11 [none] rfl rfl rfl rfl rfl rfl fun G a w S => ?_
    refine sField (b := b6) (off := 0) 0 0 S (wN rfl) rfl rfl rfl rfl rfl (lb rfl) fun a S => ?_
    exact leafL ⟨rfl, S⟩
  · refine fI 63 (iv p0.W) [(62, .pointer (some ⟨b6, 0, none⟩))] 12 [some 11] rfl rfl rfl rfl rfl rfl fun G a w S => ?_
    refine sLoad1 (p := b6) (off := 0) (T := 24) (vs := [iv p0.W, iv p0.H, .slice ad3 p0.Bits.length cp4]) 1 (iv p0.W) S (wN rfl) rfl rfl rfl rfl rfl rfl (lb rfl) fun a S => ?_
    exact leafL ⟨rfl, S⟩
  · refine fI 64 (iv p1) [(1, iv p1)] 13 [none] rfl rfl rfl rfl rfl rfl fun G a w S => ?_
    refine sMove (iv p1) S (wN rfl) (.inl rfl) rfl rfl (lb rfl) fun a S => ?_
    exact leafL ⟨rfl, S⟩
  · refine fI 65 (iv z55) [(63, iv p0.W), (64, iv p1)] 14 [some 12, some 13] rfl rfl rfl rfl rfl rfl fun G a w S => ?_
    refine sBin (iv z55) S (wN rfl) rfl rfl rfl (bQuo _ _ _ _ (x := p0.W) (y := p1) hx56) rfl (lb rfl) fun a S => ?_
    exact leafL ⟨rfl, S⟩
  · refine fI 66 (iv z71) [(61, iv s43), (65, iv z55)] 15 [some 10, some 14] rfl rfl rfl rfl rfl rfl fun G a w S => ?_
    refine sBin (iv z71) S (wN rfl) rfl rfl rfl (bQuo _ _ _ _ (x := s43) (y := z55) hx72) rfl (lb rfl) fun a S => ?_
    exact leafL ⟨rfl, S⟩
  refine ⟨_, [(52, .agg #[iv p0.W, iv p0.H, .slice ad3 p0.Bits.length cp4]), (53, iv p1), (54, iv p2), (60, iv z69), (66, iv z71)], rfl, (srcs_of [some 1, some 2, some 3, some 9, some 15] rfl rfl rfl), fun G a w S => ?_⟩
  have S := S.learn (fRep r_api_Grid (.agg #[iv p0.W, iv p0.H, .slice ad3 p0.Bits.length cp4]) p0) ⟨_, rfl, S.mem.know (i := 0) (e := fRep (rL rB) (.slice ad3 p0.Bits.length cp4) p0.Bits) rfl⟩
  refine sCall (X := Option Addr × Nat) (f := 50) (vs := [.agg #[iv p0.W, iv p0.H, .slice ad3 p0.Bits.length cp4], iv p1, iv p2, iv z69, iv z71]) (val := fun x => .agg #[iv r73.W, iv r73.H, .slice x.1 r73.Bits.length x.2]) (B' := fun x => [eRow rB 4 (.slice x.1 r73.Bits.length x.2) r73.Bits]) (D' := fun _ => []) [] [eBox b135 24 [iv 0, iv 0, .slice none 0 0], eBox b6 24 [iv p0.W, iv p0.H, .slice ad3 p0.Bits.length cp4], eRow r_api_Grid 24 (.slice ad38 s37.length cp39) s37, eRow (rI .i64) 3 (.slice ad41 s40.length cp42) s40] [fRep r_api_Grid (.agg #[iv p0.W, iv p0.H, .slice ad3 p0.Bits.length cp4]) p0] [0, 1, 2, 3] [0] S (wN rfl) rfl callee50 rfl (by decide) rfl rfl (fun E1 w1 S1 => c_raddleref13_Part_s0 E1 w1 p0 (.agg #[iv p0.W, iv p0.H, .slice ad3 p0.Bits.length cp4]) p1 p2 z69 z71 r73 hx74 S1) rfl (lb rfl) fun xx a w S => ?_
  obtain ⟨ad136, cp137⟩ := xx
  dsimp only at S
  refine leafL ⟨rfl, _, _, .inl ⟨67, (.agg #[iv r73.W, iv r73.H, .slice ad136 r73.Bits.length cp137]), [], rfl, S, hz_of rfl, ?_⟩⟩
  exact nodePerm (nd1 b135 ad136 cp137) [1, 0, 2, 3, 4, 5, 6, 7, 8, 9, 10, 11, 12, 13, 14, 15, 16] [1, 0, 2, 3, 4] [0, 1] (by decide) (by decide) rfl rfl rfl

end Go.Proofs.Ythfifeabomdlpaa
namespace Go.Proofs.Ythfifeabomdlpaa
open Go.RowKit
set_option linter.unusedVariables false

def anc_block_Join_1_s0_0 : List (List Nat) := [[], [], [1], [1, 2], [0, 1, 2, 3], [0, 1, 2, 3, 4], [0, 1, 2, 3, 4, 5]]
noncomputable def F_block_Join_1_s0 (p0 : api_Grid) (p1 : (List api_Grid)) : Option Bool :=
  Option.bind (idxO p1 0) fun x11 =>
  Option.bind (F_block_alike p0 x11) fun r20 =>
  some (!r20)
set_option maxHeartbeats 4000000 in
set_option maxRecDepth 100000 in
theorem c_block_Join_1_s0 (E : Nat → Prop) (w0 : World) (p0 : api_Grid) (v0 : Value) (p1 : (List api_Grid)) (v1 : Value) (r : Bool) (h : F_block_Join_1_s0 p0 p1 = some r) (S : St0 E [] w0 w0 [] [fRep r_api_Grid (v0) p0, fPtr (rL r_api_Grid) (v1) p1]) :
    Calls Try.prog 54 #[v0, v1] w0 (Ret (X := Unit) E [] w0 (fun _ => .bool r) (fun _ => []) (fun _ => [])) := by
  unfold F_block_Join_1_s0 at h
  obtain ⟨u1, rfl, hu2⟩ := S.know (i := 0) (e := fRep r_api_Grid (v0) p0) rfl
  have S := S.learn (fRep (rL rB) u1 p0.Bits) hu2
  obtain ⟨ad3, cp4, _, rfl, _⟩ := hu2
  refine sEnter (args := [.agg #[iv p0.W, iv p0.H, .slice ad3 p0.Bits.length cp4], v1]) 10 Try.func54 rfl rfl (by simp) S (fun a S => ?_)
  refine sSeq (fun K5 hK5 => ?_)
  refine sRegion ?_
  refine sBox (v := .agg #[iv p0.W, iv p0.H, .slice ad3 p0.Bits.length cp4]) S (wN rfl) rfl rfl [iv p0.W, iv p0.H, .slice ad3 p0.Bits.length cp4] rfl rfl (lb rfl) fun a b6 w S => ?_
  refine sMove (.bool false) S (wN rfl) (.inr rfl) rfl rfl (lb rfl) fun a S => ?_
  refine leafL (leafT (hK5 _ _ ?_))
  refine sSeq (fun K7 hK7 => ?_)
  obtain ⟨x11, hx12, h⟩ := bindSome h
  obtain ⟨r20, hx21, h⟩ := bindSome h
  obtain ⟨u22, S⟩ := pLoad (r := (rL r_api_Grid)) (q := v1) (x := p1) 2 S rfl
  obtain ⟨ad23, cp24, _, rfl, _⟩ := S.mem.know (i := 1) (e := fRep (rL r_api_Grid) (u22) p1) rfl
  obtain ⟨q25, hq26, S⟩ := pIdx (P := Try.prog) (r := r_api_Grid) (v := .slice ad23 p1.length cp24) (xs := p1) (j := 0) 34 24 1 S Try.underlying34 rfl rfl hx12
  obtain ⟨u27, S⟩ := pLoad (r := r_api_Grid) (q := q25) (x := x11) 0 S rfl
  obtain ⟨u28, rfl, hu29⟩ := S.mem.know (i := 1) (e := fRep r_api_Grid (u27) x11) rfl
  have S := S.learn (fRep (rL rB) u28 x11.Bits) hu29
  obtain ⟨ad30, cp31, _, rfl, _⟩ := hu29
  refine sDraw (nf := []) (W := [(0, 4, .agg #[iv p0.W, iv p0.H, .slice ad3 p0.Bits.length cp4]), (1, 5, .slice ad23 p1.length cp24), (2, 6, q25), (3, 7, .agg #[iv x11.W, iv x11.H, .slice ad30 x11.Bits.length cp31]), (4, 8, .bool r20), (5, 9, .bool (!r20)), (6, 3, .bool (!r20))]) rfl S ?_
  refine node_by (A := anc_block_Join_1_s0_0) (nf := []) (Y := []) (W := [(0, 4, .agg #[iv p0.W, iv p0.H, .slice ad3 p0.Bits.length cp4]), (1, 5, .slice ad23 p1.length cp24), (2, 6, q25), (3, 7, .agg #[iv x11.W, iv x11.H, .slice ad30 x11.Bits.length cp31]), (4, 8, .bool r20), (5, 9, .bool (!r20)), (6, 3, .bool (!r20))]) 7 (by kernel_rfl) (by kernel_rfl) (by kernel_rfl) (by kernel_rfl) (by kernel_rfl) [0, 1, 2, 3, 4, 5, 6] (by kernel_rfl) (by decide) (by decide) (aF 0 6 (by decide) ?_ (aF 1 5 (by decide) ?_ (aF 2 4 (by decide) ?_ (aF 3 3 (by decide) ?_ (aF 4 2 (by decide) ?_ (aF 5 1 (by decide) ?_ (aF 6 0 (by decide) ?_ (trivial)))))))) [(3, .bool (!r20))] (fin_of [some 6] rfl (by kernel_rfl) (by kernel_rfl)) (fun _ a w S => ?_)
  · refine fI 4 (.agg #[iv p0.W, iv p0.H, .slice ad3 p0.Bits.length cp4]) [(2, .pointer (some ⟨b6, 0, none⟩))] 0 [none] rfl rfl rfl rfl rfl rfl fun G a w S => ?_
    refine sLoadN (p := b6) (off := 0) (T := 24) (vs := [iv p0.W, iv p0.H, .slice ad3 p0.Bits.length cp4]) 0 [iv p0.W, iv p0.H, .slice ad3 p0.Bits.length cp4] S (wN rfl) rfl rfl rfl rfl rfl rfl rfl (lb rfl) fun a S => ?_
    exact leafL ⟨rfl, S⟩
  · refine fI 5 (.slice ad23 p1.length cp24) [(1, v1)] 1 [none] rfl rfl rfl rfl rfl rfl fun G a w S => ?_
    refine sLoadV1 (vq := v1) 4 (.slice ad23 p1.length cp24) S (wN rfl) rfl rfl rfl rfl rfl (lb rfl) fun a S => ?_
    exact leafL ⟨rfl, S⟩
  · refine fI 6 q25 [(5, .slice ad23 p1.length cp24)] 2 [some 1] rfl rfl rfl rfl rfl rfl fun G a w S => ?_
    refine sIdxV (v := .slice ad23 p1.length cp24) (k := .i64) (j := 0) S (wN rfl) rfl rfl rfl hq26 rfl (lb rfl) fun a S => ?_
    exact leafL ⟨rfl, S⟩
  · refine fI 7 (.agg #[iv x11.W, iv x11.H, .slice ad30 x11.Bits.length cp31]) [(6, q25)] 3 [some 2] rfl rfl rfl rfl rfl rfl fun G a w S => ?_
    refine sLoadVN (vq := q25) 1 [iv x11.W, iv x11.H, .slice ad30 x11.Bits.length cp31] S (wN rfl) rfl rfl rfl rfl rfl rfl (lb rfl) fun a S => ?_
    exact leafL ⟨rfl, S⟩
  · refine fI 8 (.bool r20) [(4, .agg #[iv p0.W, iv p0.H, .slice ad3 p0.Bits.length cp4]), (7, .agg #[iv x11.W, iv x11.H, .slice ad30 x11.Bits.length cp31])] 4 [some 0, some 3] rfl rfl rfl rfl rfl rfl fun G a w S => ?_
    have S1 := S.mem
    refine sCallQ (X := Unit) (f := 42) (vs := [.agg #[iv p0.W, iv p0.H, .slice ad3 p0.Bits.length cp4], .agg #[iv x11.W, iv x11.H, .slice ad30 x11.Bits.length cp31]]) (val := fun _ => .bool r20) S (wN rfl) rfl callee42 rfl (S1.quiet [7, 2] rfl) (fun E1 w1 S1 => c_block_alike E1 w1 p0 (.agg #[iv p0.W, iv p0.H, .slice ad3 p0.Bits.length cp4]) x11 (.agg #[iv x11.W, iv x11.H, .slice ad30 x11.Bits.length cp31]) r20 hx21 S1) rfl (lb rfl) fun _ a w S => ?_
    exact leafL ⟨rfl, S⟩
  · refine fI 9 (.bool (!r20)) [(8, .bool r20)] 5 [some 4] rfl rfl rfl rfl rfl rfl fun G a w S => ?_
    refine sNot (b := r20) S (wN rfl) rfl rfl rfl (lb rfl) fun a S => ?_
    exact leafL ⟨rfl, S⟩
  · refine fI 3 (.bool (!r20)) [(9, .bool (!r20))] 6 [some 5] rfl rfl rfl rfl rfl rfl fun G a w S => ?_
    refine sMove (.bool (!r20)) S (wN rfl) (.inr rfl) rfl rfl (lb rfl) fun a S => ?_
    exact leafL ⟨rfl, S⟩
  refine leafT (hK7 _ _ ?_)
  obtain rfl := Option.some.inj h
  exact wp_ret (sRet (.bool (!r20)) S (rsl1 rfl (rvT (t := 3) (v := .bool (!r20)) S rfl)) ⟨(), rfl, S.mem.sel [] [] (by decide) rfl rfl⟩)

end Go.Proofs.Ythfifeabomdlpaa
namespace Go.Proofs.Ythfifeabomdlpaa
open Go.RowKit
set_option linter.unusedVariables false

noncomputable def slices_IndexFunc___api_Grid_api_Grid__s1_l1 (p0 : (List api_Grid)) (p1 : (List api_Grid)) : Int → Option (Int ⊕ (Int ⊕ Unit)) := fun s0 => match s0 with
  | s7 =>
    if decide (s7 < (p0.length : Int)) then
      Option.bind (idxO p0 s7) fun x17 =>
      Option.bind (F_block_Join_1_s0 x17 p1) fun r26 =>
      if r26 then
        some (.inr (.inl s7))
      else
        some (.inl (w64 (s7 + 1)))
    else
      some (.inr (.inr ()))
noncomputable def F_slices_IndexFunc___api_Grid_api_Grid__s1 (p0 : (List api_Grid)) (p1 : (List api_Grid)) : Option Int :=
  Option.bind (α := Unit ⊕ Int) (
    Option.bind (whileO (slices_IndexFunc___api_Grid_api_Grid__s1_l1 p0 p1) 0) fun z0 => match z0 with
      | .inl z =>
        some (.inr z)
      | .inr _ =>
        some (.inl ())) fun z0 => match z0 with
    | .inl _ =>
      some (-1)
    | .inr z =>
      some z
set_option maxHeartbeats 4000000 in
set_option maxRecDepth 100000 in
theorem c_slices_IndexFunc___api_Grid_api_Grid__s1 (E : Nat → Prop) (w0 : World) (p0 : (List api_Grid)) (v0 : Value) (p1 : (List api_Grid)) (v1 : Value) (r : Int) (h : F_slices_IndexFunc___api_Grid_api_Grid__s1 p0 p1 = some r) (S : St0 E [] w0 w0 [] [fRep (rL r_api_Grid) (v0) p0, fPtr (rL r_api_Grid) (v1) p1]) :
    Calls Try.prog 51 #[v0, .func (.func 54) #[] #[v1]] w0 (Ret (X := Unit) E [] w0 (fun _ => .int .i64 r) (fun _ => []) (fun _ => [])) := by
  unfold F_slices_IndexFunc___api_Grid_api_Grid__s1 at h
  obtain ⟨ad1, cp2, _, rfl, _⟩ := S.know (i := 0) (e := fRep (rL r_api_Grid) (v0) p0) rfl
  refine sEnter (args := [.slice ad1 p0.length cp2, .func (.func 54) #[] #[v1]]) 19 Try.func51 rfl rfl (by simp) S (fun a S => ?_)
  refine sSeq (fun K3 hK3 => ?_)
  refine sRegion ?_
  refine sMove (iv 0) S (wN rfl) (.inr rfl) rfl rfl (lb rfl) fun a S => ?_
  refine leafL (leafT (hK3 _ _ ?_))
  obtain ⟨t4, h, g5⟩ := bindSome h
  refine sCut (fun a w => .inl () = t4 ∧ St [] E [] w0 19 a w [] [] []) ?_ (fun a w hI => ?_)
  rotate_left
  · obtain ⟨rfl, S⟩ := hI
    have h := g5
    clear g5
    try dsimp only at h
    refine sSeq (fun K30 hK30 => ?_)
    refine sRegion ?_
    refine sMove (iv (-1)) S (wN rfl) (.inr rfl) rfl rfl (lb rfl) fun a S => ?_
    refine leafL (leafT (hK30 _ _ ?_))
    obtain rfl := Option.some.inj h
    exact wp_ret (sRet (iv (-1)) S (rsl1 rfl (rvT (t := 4) (v := iv (-1)) S rfl)) ⟨(), rfl, S.mem.sel [] [] (by decide) rfl rfl⟩)
  refine sSeq (fun K6 hK6 => ?_)
  refine sRegion ?_
  refine sMove (.slice ad1 p0.length cp2) S (wN rfl) (.inl rfl) rfl rfl (lb rfl) fun a S => ?_
  refine sLen (ad := ad1) (m := p0.length) (c := cp2) S (wN rfl) rfl Try.underlying34 rfl rfl (lb rfl) fun a S => ?_
  refine sMove (iv 0) S (wN rfl) (.inl rfl) rfl rfl (lb rfl) fun a S => ?_
  refine leafL (leafT (hK6 _ _ ?_))
  refine wp_block ?_
  obtain ⟨t10, hl, g9⟩ := bindSome h
  refine sLoop hl (fun s0 a w => match s0 with | s7 => St [] E [] w0 19 a w [(0, .slice ad1 p0.length cp2), (1, .func (.func 54) #[] #[v1]), (7, iv (p0.length : Int)), (8, iv s7)] [] [fPtr (rL r_api_Grid) (v1) p1, fRep (rL r_api_Grid) (.slice ad1 p0.length cp2) p0]) (S.fix [] [1, 0] (by decide) rfl rfl rfl) ?_
  clear hl h
  intro s7 a w c0 hI h hu8
  unfold slices_IndexFunc___api_Grid_api_Grid__s1_l1 at h
  dsimp only at h hI
  have S := hI
  refine sSeq (fun K11 hK11 => ?_)
  refine sRegion ?_
  refine sBin (.bool (decide (s7 < (p0.length : Int)))) S (wN rfl) rfl rfl rfl (bLt _ _ _ _ .i64 s7 (p0.length : Int)) rfl (lb rfl) fun a S => ?_
  refine leafL (leafT (hK11 _ _ ?_))
  refine sSeq (fun K12 hK12 => ?_)
  rcases iteSome h with ⟨hc13, h⟩ | ⟨hc13, h⟩
  rotate_left
  · refine sCondF S rfl hc13 ?_
    obtain rfl := Option.some.inj h
    obtain rfl := hu8 _ rfl
    have h := g9
    clear g9
    try dsimp only at h
    exact wp_exit (xThen (xThen (xHit (leafT (⟨Option.some.inj h, S.fix [] [] (by decide) rfl rfl rfl⟩)))))
  refine sCondT S rfl hc13 ?_
  refine wp_skip (leafT (hK12 _ _ ?_))
  refine sSeq (fun K14 hK14 => ?_)
  refine wp_block ?_
  refine sSeq (fun K15 hK15 => ?_)
  refine sRegion ?_
  refine sMove (iv s7) S (wN rfl) (.inl rfl) rfl rfl (lb rfl) fun a S => ?_
  refine sMove (iv s7) S (wN rfl) (.inr rfl) rfl rfl (lb rfl) fun a S => ?_
  refine leafL (leafT (hK15 _ _ ?_))
  refine sSeq (fun K16 hK16 => ?_)
  refine sRegion ?_
  refine sMove (.func (.func 54) #[] #[v1]) S (wN rfl) (.inl rfl) rfl rfl (lb rfl) fun a S => ?_
  refine sMove (.slice ad1 p0.length cp2) S (wN rfl) (.inl rfl) rfl rfl (lb rfl) fun a S => ?_
  refine sMove (iv s7) S (wN rfl) (.inl rfl) rfl rfl (lb rfl) fun a S => ?_
  obtain ⟨x17, hx18, h⟩ := bindSome h
  obtain ⟨q19, hq20, S⟩ := pIdx (P := Try.prog) (r := r_api_Grid) (v := .slice ad1 p0.length cp2) (xs := p0) (j := s7) 34 24 1 S Try.underlying34 rfl rfl hx18
  refine sIdxV (v := .slice ad1 p0.length cp2) (k := .i64) (j := s7) S (wN rfl) rfl rfl rfl hq20 rfl (lb rfl) fun a S => ?_
  obtain ⟨u21, S⟩ := pLoad (r := r_api_Grid) (q := q19) (x := x17) 0 S rfl
  obtain ⟨u22, rfl, hu23⟩ := S.mem.know (i := 1) (e := fRep r_api_Grid (u21) x17) rfl
  have S := S.learn (fRep (rL rB) u22 x17.Bits) hu23
  obtain ⟨ad24, cp25, _, rfl, _⟩ := hu23
  refine sLoadVN (vq := q19) 1 [iv x17.W, iv x17.H, .slice ad24 x17.Bits.length cp25] S (wN rfl) rfl rfl rfl rfl rfl rfl (lb rfl) fun a S => ?_
  obtain ⟨r26, hx27, h⟩ := bindSome h
  have S1 := S.mem
  refine sCallVQ (X := Unit) (g := 54) (vs := [.agg #[iv x17.W, iv x17.H, .slice ad24 x17.Bits.length cp25]]) (caps := [v1]) (val := fun _ => .bool r26) S (wN rfl) rfl rfl callee54 rfl (S1.quiet [2, 4] rfl) (fun E1 w1 S1 => c_block_Join_1_s0 E1 w1 x17 (.agg #[iv x17.W, iv x17.H, .slice ad24 x17.Bits.length cp25]) p1 v1 r26 hx27 S1) rfl (lb rfl) fun _ a w S => ?_
  refine leafL (leafT (hK16 _ _ ?_))
  rcases iteSome h with ⟨hc28, h⟩ | ⟨hc28, h⟩
  rotate_left
  · refine sCondF S rfl hc28 ?_
    refine wp_skip (leafB (leafT (hK14 _ _ ?_)))
    refine sRegion ?_
    refine sBin (iv (w64 (s7 + 1))) S (wN rfl) rfl rfl rfl (bAdd _ _ _ _ s7 1) rfl (lb rfl) fun a S => ?_
    refine sMove (iv (w64 (s7 + 1))) S (wN rfl) (.inl rfl) rfl rfl (lb rfl) fun a S => ?_
    exact leafL (leafT (⟨w64 (s7 + 1), (Option.some.inj h).symm, (S.fix [] [4, 5] (by decide) rfl rfl rfl)⟩))
  refine sCondT S rfl hc28 ?_
  refine sSeq (fun K29 hK29 => ?_)
  refine sRegion ?_
  refine sMove (iv s7) S (wN rfl) (.inl rfl) rfl rfl (lb rfl) fun a S => ?_
  refine sMove (iv s7) S (wN rfl) (.inr rfl) rfl rfl (lb rfl) fun a S => ?_
  refine leafL (leafT (hK29 _ _ ?_))
  obtain rfl := Option.some.inj h
  obtain rfl := hu8 _ rfl
  have h := g9
  clear g9
  try dsimp only at h
  obtain rfl := Option.some.inj h
  have h := g5
  clear g5
  try dsimp only at h
  obtain rfl := Option.some.inj h
  exact wp_ret (rBlock (rThen (rThen (rBlock (rThen (sRet (iv s7) S (rsl1 rfl (rvT (t := 4) (v := iv s7) S rfl)) ⟨(), rfl, S.mem.sel [] [] (by decide) rfl rfl⟩))))))

end Go.Proofs.Ythfifeabomdlpaa
namespace Go.Proofs.Ythfifeabomdlpaa
open Go.RowKit
set_option linter.unusedVariables false

noncomputable def F_slices_ContainsFunc___api_Grid_api_Grid__s0 (p0 : (List api_Grid)) (p1 : (List api_Grid)) : Option Bool :=
  Option.bind (F_slices_IndexFunc___api_Grid_api_Grid__s1 p0 p1) fun r5 =>
  some (decide (0 ≤ r5))
set_option maxHeartbeats 4000000 in
set_option maxRecDepth 100000 in
theorem c_slices_ContainsFunc___api_Grid_api_Grid__s0 (E : Nat → Prop) (w0 : World) (p0 : (List api_Grid)) (v0 : Value) (p1 : (List api_Grid)) (v1 : Value) (r : Bool) (h : F_slices_ContainsFunc___api_Grid_api_Grid__s0 p0 p1 = some r) (S : St0 E [] w0 w0 [] [fRep (rL r_api_Grid) (v0) p0, fPtr (rL r_api_Grid) (v1) p1]) :
    Calls Try.prog 55 #[v0, .func (.func 54) #[] #[v1]] w0 (Ret (X := Unit) E [] w0 (fun _ => .bool r) (fun _ => []) (fun _ => [])) := by
  unfold F_slices_ContainsFunc___api_Grid_api_Grid__s0 at h
  obtain ⟨ad1, cp2, _, rfl, _⟩ := S.know (i := 0) (e := fRep (rL r_api_Grid) (v0) p0) rfl
  refine sEnter (args := [.slice ad1 p0.length cp2, .func (.func 54) #[] #[v1]]) 9 Try.func55 rfl rfl (by simp) S (fun a S => ?_)
  refine sSeq (fun K3 hK3 => ?_)
  refine sRegion ?_
  refine sMove (.bool false) S (wN rfl) (.inr rfl) rfl rfl (lb rfl) fun a S => ?_
  refine leafL (leafT (hK3 _ _ ?_))
  refine sSeq (fun K4 hK4 => ?_)
  refine sRegion ?_
  refine sMove (.slice ad1 p0.length cp2) S (wN rfl) (.inl rfl) rfl rfl (lb rfl) fun a S => ?_
  refine sMove (.func (.func 54) #[] #[v1]) S (wN rfl) (.inl rfl) rfl rfl (lb rfl) fun a S => ?_
  obtain ⟨r5, hx6, h⟩ := bindSome h
  have S1 := S.mem
  refine sCallQ (X := Unit) (f := 51) (vs := [.slice ad1 p0.length cp2, .func (.func 54) #[] #[v1]]) (val := fun _ => iv r5) S (wN rfl) rfl callee51 rfl (S1.quiet [0, 1] rfl) (fun E1 w1 S1 => c_slices_IndexFunc___api_Grid_api_Grid__s1 E1 w1 p0 (.slice ad1 p0.length cp2) p1 v1 r5 hx6 S1) rfl (lb rfl) fun _ a w S => ?_
  refine sBin (.bool (decide (0 ≤ r5))) S (wN rfl) rfl rfl rfl (bGe _ _ _ _ .i64 r5 0) rfl (lb rfl) fun a S => ?_
  refine sMove (.bool (decide (0 ≤ r5))) S (wN rfl) (.inr rfl) rfl rfl (lb rfl) fun a S => ?_
  refine leafL (leafT (hK4 _ _ ?_))
  obtain rfl := Option.some.inj h
  exact wp_ret (sRet (.bool (decide (0 ≤ r5))) S (rsl1 rfl (rvT (t := 4) (v := .bool (decide (0 ≤ r5))) S rfl)) ⟨(), rfl, S.mem.sel [] [] (by decide) rfl rfl⟩)

end Go.Proofs.Ythfifeabomdlpaa
namespace Go.Proofs.Ythfifeabomdlpaa
open Go.RowKit
set_option linter.unusedVariables false

noncomputable def F_block_index_1_s0 (p0 : Int) (p1 : Int) : Option Bool :=
  Option.bind (α := Bool) (
    if decide (p0 < 0) then
      some true
    else
      some (decide (p1 ≤ p0))) fun o2 =>
  some o2
set_option maxHeartbeats 4000000 in
set_option maxRecDepth 100000 in
theorem c_block_index_1_s0 (E : Nat → Prop) (w0 : World) (p0 : Int) (p1 : Int) (v1 : Value) (r : Bool) (h : F_block_index_1_s0 p0 p1 = some r) (S : St0 E [] w0 w0 [] [fPtr (rI .i64) (v1) p1]) :
    Calls Try.prog 72 #[iv p0, v1] w0 (Ret (X := Unit) E [] w0 (fun _ => .bool r) (fun _ => []) (fun _ => [])) := by
  unfold F_block_index_1_s0 at h
  refine sEnter (args := [iv p0, v1]) 11 Try.func72 rfl rfl (by simp) S (fun a S => ?_)
  refine sSeq (fun K1 hK1 => ?_)
  refine sRegion ?_
  refine sMove (.bool false) S (wN rfl) (.inr rfl) rfl rfl (lb rfl) fun a S => ?_
  refine leafL (leafT (hK1 _ _ ?_))
  obtain ⟨t3, h, g4⟩ := bindSome h
  refine sCut (fun a w => ∃ o2, o2 = t3 ∧ St [] E [] w0 11 a w [(3, .bool o2)] [] []) ?_ (fun a w hI => ?_)
  rotate_left
  · obtain ⟨o2, rfl, S⟩ := hI
    have h := g4
    clear g4
    try dsimp only at h
    obtain rfl := Option.some.inj h
    exact wp_ret (sRet (.bool o2) S (rsl1 rfl (rvT (t := 3) (v := .bool o2) S rfl)) ⟨(), rfl, S.mem.sel [] [] (by decide) rfl rfl⟩)
  refine sRegion ?_
  refine sMove (iv p0) S (wN rfl) (.inl rfl) rfl rfl (lb rfl) fun a S => ?_
  refine sBin (.bool (decide (p0 < 0))) S (wN rfl) rfl rfl rfl (bLt _ _ _ _ .i64 p0 0) rfl (lb rfl) fun a S => ?_
  refine sMove (.bool (decide (p0 < 0))) S (wN rfl) (.inl rfl) rfl rfl (lb rfl) fun a S => ?_
  rcases iteSome h with ⟨hc5, h⟩ | ⟨hc5, h⟩
  · refine sSkip 2 false 6 7 S rfl rfl rfl hc5 rfl (lb rfl) fun a S => ?_
    refine sSkip 2 false 6 8 S rfl rfl rfl hc5 rfl (lb rfl) fun a S => ?_
    refine sSkip 2 false 6 9 S rfl rfl rfl hc5 rfl (lb rfl) fun a S => ?_
    refine sPickT (.bool true) S (wN rfl) rfl rfl hc5 rfl rfl (lb rfl) fun a S => ?_
    refine sMove (.bool true) S (wN rfl) (.inr rfl) rfl rfl (lb rfl) fun a S => ?_
    exact leafL (leafT (⟨true, Option.some.inj h, S.fix [] [] (by decide) rfl rfl rfl⟩))
  refine sMove (iv p0) S (wG 2 false 6 rfl rfl rfl hc5) (.inl rfl) rfl rfl (lb rfl) fun a S => ?_
  obtain ⟨u6, S⟩ := pLoad (r := (rI .i64)) (q := v1) (x := p1) 0 S rfl
  obtain rfl : u6 = iv p1 := S.mem.know (i := 1) (e := fRep (rI .i64) (u6) p1) rfl
  refine sLoadV1 (vq := v1) 0 (iv p1) S (wG 2 false 6 rfl rfl rfl hc5) rfl rfl rfl rfl rfl (lb rfl) fun a S => ?_
  refine sBin (.bool (decide (p1 ≤ p0))) S (wG 2 false 6 rfl rfl rfl hc5) rfl rfl rfl (bGe _ _ _ _ .i64 p0 p1) rfl (lb rfl) fun a S => ?_
  refine sPickF (.bool (decide (p1 ≤ p0))) S (wN rfl) rfl rfl hc5 rfl rfl (lb rfl) fun a S => ?_
  refine sMove (.bool (decide (p1 ≤ p0))) S (wN rfl) (.inr rfl) rfl rfl (lb rfl) fun a S => ?_
  exact leafL (leafT (⟨decide (p1 ≤ p0), Option.some.inj h, S.fix [] [] (by decide) rfl rfl rfl⟩))

end Go.Proofs.Ythfifeabomdlpaa
namespace Go.Proofs.Ythfifeabomdlpaa
open Go.RowKit
set_option linter.unusedVariables false

noncomputable def slices_IndexFunc___int_int__s0_l1 (p0 : (List Int)) (p1 : Int) : Int → Option (Int ⊕ (Int ⊕ Unit)) := fun s0 => match s0 with
  | s7 =>
    if decide (s7 < (p0.length : Int)) then
      Option.bind (idxO p0 s7) fun x17 =>
      Option.bind (F_block_index_1_s0 x17 p1) fun r22 =>
      if r22 then
        some (.inr (.inl s7))
      else
        some (.inl (w64 (s7 + 1)))
    else
      some (.inr (.inr ()))
noncomputable def F_slices_IndexFunc___int_int__s0 (p0 : (List Int)) (p1 : Int) : Option Int :=
  Option.bind (α := Unit ⊕ Int) (
    Option.bind (whileO (slices_IndexFunc___int_int__s0_l1 p0 p1) 0) fun z0 => match z0 with
      | .inl z =>
        some (.inr z)
      | .inr _ =>
        some (.inl ())) fun z0 => match z0 with
    | .inl _ =>
      some (-1)
    | .inr z =>
      some z
set_option maxHeartbeats 4000000 in
set_option maxRecDepth 100000 in
theorem c_slices_IndexFunc___int_int__s0 (E : Nat → Prop) (w0 : World) (p0 : (List Int)) (v0 : Value) (p1 : Int) (v1 : Value) (r : Int) (h : F_slices_IndexFunc___int_int__s0 p0 p1 = some r) (S : St0 E [] w0 w0 [] [fRep (rL (rI .i64)) (v0) p0, fPtr (rI .i64) (v1) p1]) :
    Calls Try.prog 77 #[v0, .func (.func 72) #[] #[v1]] w0 (Ret (X := Unit) E [] w0 (fun _ => .int .i64 r) (fun _ => []) (fun _ => [])) := by
  unfold F_slices_IndexFunc___int_int__s0 at h
  obtain ⟨ad1, cp2, _, rfl, _⟩ := S.know (i := 0) (e := fRep (rL (rI .i64)) (v0) p0) rfl
  refine sEnter (args := [.slice ad1 p0.length cp2, .func (.func 72) #[] #[v1]]) 19 Try.func77 rfl rfl (by simp) S (fun a S => ?_)
  refine sSeq (fun K3 hK3 => ?_)
  refine sRegion ?_
  refine sMove (iv 0) S (wN rfl) (.inr rfl) rfl rfl (lb rfl) fun a S => ?_
  refine leafL (leafT (hK3 _ _ ?_))
  obtain ⟨t4, h, g5⟩ := bindSome h
  refine sCut (fun a w => .inl () = t4 ∧ St [] E [] w0 19 a w [] [] []) ?_ (fun a w hI => ?_)
  rotate_left
  · obtain ⟨rfl, S⟩ := hI
    have h := g5
    clear g5
    try dsimp only at h
    refine sSeq (fun K26 hK26 => ?_)
    refine sRegion ?_
    refine sMove (iv (-1)) S (wN rfl) (.inr rfl) rfl rfl (lb rfl) fun a S => ?_
    refine leafL (leafT (hK26 _ _ ?_))
    obtain rfl := Option.some.inj h
    exact wp_ret (sRet (iv (-1)) S (rsl1 rfl (rvT (t := 4) (v := iv (-1)) S rfl)) ⟨(), rfl, S.mem.sel [] [] (by decide) rfl rfl⟩)
  refine sSeq (fun K6 hK6 => ?_)
  refine sRegion ?_
  refine sMove (.slice ad1 p0.length cp2) S (wN rfl) (.inl rfl) rfl rfl (lb rfl) fun a S => ?_
  refine sLen (ad := ad1) (m := p0.length) (c := cp2) S (wN rfl) rfl Try.underlying35 rfl rfl (lb rfl) fun a S => ?_
  refine sMove (iv 0) S (wN rfl) (.inl rfl) rfl rfl (lb rfl) fun a S => ?_
  refine leafL (leafT (hK6 _ _ ?_))
  refine wp_block ?_
  obtain ⟨t10, hl, g9⟩ := bindSome h
  refine sLoop hl (fun s0 a w => match s0 with | s7 => St [] E [] w0 19 a w [(0, .slice ad1 p0.length cp2), (1, .func (.func 72) #[] #[v1]), (7, iv (p0.length : Int)), (8, iv s7)] [] [fPtr (rI .i64) (v1) p1, fRep (rL (rI .i64)) (.slice ad1 p0.length cp2) p0]) (S.fix [] [1, 0] (by decide) rfl rfl rfl) ?_
  clear hl h
  intro s7 a w c0 hI h hu8
  unfold slices_IndexFunc___int_int__s0_l1 at h
  dsimp only at h hI
  have S := hI
  refine sSeq (fun K11 hK11 => ?_)
  refine sRegion ?_
  refine sBin (.bool (decide (s7 < (p0.length : Int)))) S (wN rfl) rfl rfl rfl (bLt _ _ _ _ .i64 s7 (p0.length : Int)) rfl (lb rfl) fun a S => ?_
  refine leafL (leafT (hK11 _ _ ?_))
  refine sSeq (fun K12 hK12 => ?_)
  rcases iteSome h with ⟨hc13, h⟩ | ⟨hc13, h⟩
  rotate_left
  · refine sCondF S rfl hc13 ?_
    obtain rfl := Option.some.inj h
    obtain rfl := hu8 _ rfl
    have h := g9
    clear g9
    try dsimp only at h
    exact wp_exit (xThen (xThen (xHit (leafT (⟨Option.some.inj h, S.fix [] [] (by decide) rfl rfl rfl⟩)))))
  refine sCondT S rfl hc13 ?_
  refine wp_skip (leafT (hK12 _ _ ?_))
  refine sSeq (fun K14 hK14 => ?_)
  refine wp_block ?_
  refine sSeq (fun K15 hK15 => ?_)
  refine sRegion ?_
  refine sMove (iv s7) S (wN rfl) (.inl rfl) rfl rfl (lb rfl) fun a S => ?_
  refine sMove (iv s7) S (wN rfl) (.inr rfl) rfl rfl (lb rfl) fun a S => ?_
  refine leafL (leafT (hK15 _ _ ?_))
  refine sSeq (fun K16 hK16 => ?_)
  refine sRegion ?_
  refine sMove (.func (.func 72) #[] #[v1]) S (wN rfl) (.inl rfl) rfl rfl (lb rfl) fun a S => ?_
  refine sMove (.slice ad1 p0.length cp2) S (wN rfl) (.inl rfl) rfl rfl (lb rfl) fun a S => ?_
  refine sMove (iv s7) S (wN rfl) (.inl rfl) rfl rfl (lb rfl) fun a S => ?_
  obtain ⟨x17, hx18, h⟩ := bindSome h
  obtain ⟨q19, hq20, S⟩ := pIdx (P := Try.prog) (r := (rI .i64)) (v := .slice ad1 p0.length cp2) (xs := p0) (j := s7) 35 3 1 S Try.underlying35 rfl rfl hx18
  refine sIdxV (v := .slice ad1 p0.length cp2) (k := .i64) (j := s7) S (wN rfl) rfl rfl rfl hq20 rfl (lb rfl) fun a S => ?_
  obtain ⟨u21, S⟩ := pLoad (r := (rI .i64)) (q := q19) (x := x17) 0 S rfl
  obtain rfl : u21 = iv x17 := S.mem.know (i := 1) (e := fRep (rI .i64) (u21) x17) rfl
  refine sLoadV1 (vq := q19) 0 (iv x17) S (wN rfl) rfl rfl rfl rfl rfl (lb rfl) fun a S => ?_
  obtain ⟨r22, hx23, h⟩ := bindSome h
  have S1 := S.mem
  refine sCallVQ (X := Unit) (g := 72) (vs := [iv x17]) (caps := [v1]) (val := fun _ => .bool r22) S (wN rfl) rfl rfl callee72 rfl (S1.quiet [3] rfl) (fun E1 w1 S1 => c_block_index_1_s0 E1 w1 x17 p1 v1 r22 hx23 S1) rfl (lb rfl) fun _ a w S => ?_
  refine leafL (leafT (hK16 _ _ ?_))
  rcases iteSome h with ⟨hc24, h⟩ | ⟨hc24, h⟩
  rotate_left
  · refine sCondF S rfl hc24 ?_
    refine wp_skip (leafB (leafT (hK14 _ _ ?_)))
    refine sRegion ?_
    refine sBin (iv (w64 (s7 + 1))) S (wN rfl) rfl rfl rfl (bAdd _ _ _ _ s7 1) rfl (lb rfl) fun a S => ?_
    refine sMove (iv (w64 (s7 + 1))) S (wN rfl) (.inl rfl) rfl rfl (lb rfl) fun a S => ?_
    exact leafL (leafT (⟨w64 (s7 + 1), (Option.some.inj h).symm, (S.fix [] [3, 4] (by decide) rfl rfl rfl)⟩))
  refine sCondT S rfl hc24 ?_
  refine sSeq (fun K25 hK25 => ?_)
  refine sRegion ?_
  refine sMove (iv s7) S (wN rfl) (.inl rfl) rfl rfl (lb rfl) fun a S => ?_
  refine sMove (iv s7) S (wN rfl) (.inr rfl) rfl rfl (lb rfl) fun a S => ?_
  refine leafL (leafT (hK25 _ _ ?_))
  obtain rfl := Option.some.inj h
  obtain rfl := hu8 _ rfl
  have h := g9
  clear g9
  try dsimp only at h
  obtain rfl := Option.some.inj h
  have h := g5
  clear g5
  try dsimp only at h
  obtain rfl := Option.some.inj h
  exact wp_ret (rBlock (rThen (rThen (rBlock (rThen (sRet (iv s7) S (rsl1 rfl (rvT (t := 4) (v := iv s7) S rfl)) ⟨(), rfl, S.mem.sel [] [] (by decide) rfl rfl⟩))))))

end Go.Proofs.Ythfifeabomdlpaa
namespace Go.Proofs.Ythfifeabomdlpaa
open Go.RowKit
set_option linter.unusedVariables false

noncomputable def F_slices_ContainsFunc___int_int__s0 (p0 : (List Int)) (p1 : Int) : Option Bool :=
  Option.bind (F_slices_IndexFunc___int_int__s0 p0 p1) fun r5 =>
  some (decide (0 ≤ r5))
set_option maxHeartbeats 4000000 in
set_option maxRecDepth 100000 in
theorem c_slices_ContainsFunc___int_int__s0 (E : Nat → Prop) (w0 : World) (p0 : (List Int)) (v0 : Value) (p1 : Int) (v1 : Value) (r : Bool) (h : F_slices_ContainsFunc___int_int__s0 p0 p1 = some r) (S : St0 E [] w0 w0 [] [fRep (rL (rI .i64)) (v0) p0, fPtr (rI .i64) (v1) p1]) :
    Calls Try.prog 71 #[v0, .func (.func 72) #[] #[v1]] w0 (Ret (X := Unit) E [] w0 (fun _ => .bool r) (fun _ => []) (fun _ => [])) := by
  unfold F_slices_ContainsFunc___int_int__s0 at h
  obtain ⟨ad1, cp2, _, rfl, _⟩ := S.know (i := 0) (e := fRep (rL (rI .i64)) (v0) p0) rfl
  refine sEnter (args := [.slice ad1 p0.length cp2, .func (.func 72) #[] #[v1]]) 9 Try.func71 rfl rfl (by simp) S (fun a S => ?_)
  refine sSeq (fun K3 hK3 => ?_)
  refine sRegion ?_
  refine sMove (.bool false) S (wN rfl) (.inr rfl) rfl rfl (lb rfl) fun a S => ?_
  refine leafL (leafT (hK3 _ _ ?_))
  refine sSeq (fun K4 hK4 => ?_)
  refine sRegion ?_
  refine sMove (.slice ad1 p0.length cp2) S (wN rfl) (.inl rfl) rfl rfl (lb rfl) fun a S => ?_
  refine sMove (.func (.func 72) #[] #[v1]) S (wN rfl) (.inl rfl) rfl rfl (lb rfl) fun a S => ?_
  obtain ⟨r5, hx6, h⟩ := bindSome h
  have S1 := S.mem
  refine sCallQ (X := Unit) (f := 77) (vs := [.slice ad1 p0.length cp2, .func (.func 72) #[] #[v1]]) (val := fun _ => iv r5) S (wN rfl) rfl callee77 rfl (S1.quiet [0, 1] rfl) (fun E1 w1 S1 => c_slices_IndexFunc___int_int__s0 E1 w1 p0 (.slice ad1 p0.length cp2) p1 v1 r5 hx6 S1) rfl (lb rfl) fun _ a w S => ?_
  refine sBin (.bool (decide (0 ≤ r5))) S (wN rfl) rfl rfl rfl (bGe _ _ _ _ .i64 r5 0) rfl (lb rfl) fun a S => ?_
  refine sMove (.bool (decide (0 ≤ r5))) S (wN rfl) (.inr rfl) rfl rfl (lb rfl) fun a S => ?_
  refine leafL (leafT (hK4 _ _ ?_))
  obtain rfl := Option.some.inj h
  exact wp_ret (sRet (.bool (decide (0 ≤ r5))) S (rsl1 rfl (rvT (t := 4) (v := .bool (decide (0 ≤ r5))) S rfl)) ⟨(), rfl, S.mem.sel [] [] (by decide) rfl rfl⟩)

end Go.Proofs.Ythfifeabomdlpaa
namespace Go.Proofs.Ythfifeabomdlpaa
open Go.RowKit
set_option linter.unusedVariables false

noncomputable def F_block_index (p0 : (List Int)) (p1 : Int) : Option Bool :=
  Option.bind (F_slices_ContainsFunc___int_int__s0 p0 p1) fun r6 =>
  some (!r6)
set_option maxHeartbeats 4000000 in
set_option maxRecDepth 100000 in
theorem c_block_index (E : Nat → Prop) (w0 : World) (p0 : (List Int)) (v0 : Value) (p1 : Int) (r : Bool) (h : F_block_index p0 p1 = some r) (S : St0 E [] w0 w0 [] [fRep (rL (rI .i64)) (v0) p0]) :
    Calls Try.prog 56 #[v0, iv p1] w0 (Ret (X := Unit) E [] w0 (fun _ => .bool r) (fun _ => []) (fun _ => [])) := by
  unfold F_block_index at h
  obtain ⟨ad1, cp2, _, rfl, _⟩ := S.know (i := 0) (e := fRep (rL (rI .i64)) (v0) p0) rfl
  refine sEnter (args := [.slice ad1 p0.length cp2, iv p1]) 9 Try.func56 rfl rfl (by simp) S (fun a S => ?_)
  refine sSeq (fun K3 hK3 => ?_)
  refine sRegion ?_
  refine sBox (v := iv p1) S (wN rfl) rfl rfl [iv p1] rfl rfl (lb rfl) fun a b4 w S => ?_
  refine sMove (.bool false) S (wN rfl) (.inr rfl) rfl rfl (lb rfl) fun a S => ?_
  refine leafL (leafT (hK3 _ _ ?_))
  refine sSeq (fun K5 hK5 => ?_)
  refine sRegion ?_
  refine sMove (.slice ad1 p0.length cp2) S (wN rfl) (.inl rfl) rfl rfl (lb rfl) fun a S => ?_
  refine sFunc (g := 72) (vs := [.pointer (some ⟨b4, 0, none⟩)]) S (wN rfl) rfl rfl rfl (lb rfl) fun a S => ?_
  obtain ⟨r6, hx7, h⟩ := bindSome h
  have S1 := S.mem
  have S1 := S1.shutB (r := (rI .i64)) (T := 3) (b := b4) (cs := [iv p1]) 0 (iv p1) p1 rfl rfl (rfl)
  refine sCallQ (X := Unit) (f := 71) (vs := [.slice ad1 p0.length cp2, .func (.func 72) #[] #[.pointer (some ⟨b4, 0, none⟩)]]) (val := fun _ => .bool r6) S (wN rfl) rfl callee71 rfl (S1.quiet [1, 0] rfl) (fun E1 w1 S1 => c_slices_ContainsFunc___int_int__s0 E1 w1 p0 (.slice ad1 p0.length cp2) p1 (.pointer (some ⟨b4, 0, none⟩)) r6 hx7 S1) rfl (lb rfl) fun _ a w S => ?_
  refine sNot (b := r6) S (wN rfl) rfl rfl rfl (lb rfl) fun a S => ?_
  refine sMove (.bool (!r6)) S (wN rfl) (.inr rfl) rfl rfl (lb rfl) fun a S => ?_
  refine leafL (leafT (hK5 _ _ ?_))
  obtain rfl := Option.some.inj h
  exact wp_ret (sRet (.bool (!r6)) S (rsl1 rfl (rvT (t := 4) (v := .bool (!r6)) S rfl)) ⟨(), rfl, S.mem.sel [] [] (by decide) rfl rfl⟩)

end Go.Proofs.Ythfifeabomdlpaa
namespace Go.Proofs.Ythfifeabomdlpaa
open Go.RowKit
set_option linter.unusedVariables false

def anc_block_Join_0 : List (List Nat) := [[], [], [1], [1, 2], [1, 2, 3], [0, 1, 2, 3, 4], [], [6], [], [6, 7, 8], [], [10], [10, 11], [10, 11, 12], [6, 7, 8, 9, 10, 11, 12, 13], [0, 1, 2, 3, 4, 5, 6, 7, 8, 9, 10, 11, 12, 13, 14], [0, 1, 2, 3, 4, 5, 6, 7, 8, 9, 10, 11, 12, 13, 14, 15], [0, 1, 2, 3, 4, 5, 6, 7, 8, 9, 10, 11, 12, 13, 14, 15, 16], [0, 1, 2, 3, 4, 5, 6, 7, 8, 9, 10, 11, 12, 13, 14, 15, 16], [], [0, 1, 2, 3, 4, 5, 6, 7, 8, 9, 10, 11, 12, 13, 14, 15, 16, 17, 19], [0, 1, 2, 3, 4, 5, 6, 7, 8, 9, 10, 11, 12, 13, 14, 15, 16, 17, 18, 19, 20]]
def anc_block_Join_1 : List (List Nat) := [[], [], [], [1, 2], [1, 2, 3], [], [], [5, 6], [], [], [8, 9], [0, 1, 2, 3, 4, 5, 6, 7, 8, 9, 10]]
noncomputable def block_Join_l1 (p1 : (List Int)) (p0 : (List api_Grid)) (p2 : Int) (r63 : (api_Grid × Int)) : (Int × List Bool) → Option ((Int × List Bool) ⊕ List Bool) := fun s0 => match s0 with
  | (s89, s90) =>
    if decide (s89 < (p1.length : Int)) then
      Option.bind (idxO p1 s89) fun x100 =>
      Option.bind (idxO p0 x100) fun x105 =>
      Option.bind (remI s89 p2) fun z114 =>
      Option.bind (quoI s89 p2) fun z116 =>
      Option.bind (F_block_put_s0 r63.1.W r63.1.H s90 x105 z114 z116) fun r118 =>
      some (.inl (w64 (s89 + 1), r118))
    else
      some (.inr s90)
noncomputable def F_block_Join (p0 : (List api_Grid)) (p1 : (List Int)) (p2 : Int) : Option (api_Grid × Int) :=
  if (p0.length : Int) == 0 then
    some ((api_Grid.mk 0 0 ([] : (List Bool))), 6)
  else
    Option.bind (F_block_checked p0) fun r14 =>
    if r14 != 0 then
      some ((api_Grid.mk 0 0 ([] : (List Bool))), r14)
    else
      Option.bind (α := Bool) (
        Option.bind (F_slices_ContainsFunc___api_Grid_api_Grid__s0 p0 p0) fun r24 =>
        if r24 then
          some true
        else
          if decide (p2 < 1) then
            some true
          else
            if (p1.length : Int) == 0 then
              some true
            else
              Option.bind (remI (p1.length : Int) p2) fun z29 =>
              some (z29 != 0)) fun o21 =>
      if o21 then
        some ((api_Grid.mk 0 0 ([] : (List Bool))), 26)
      else
        Option.bind (F_block_index p1 (p0.length : Int)) fun r35 =>
        if !r35 then
          some ((api_Grid.mk 0 0 ([] : (List Bool))), 8)
        else
          Option.bind (α := Bool) (
            if decide (64 < p2) then
              some true
            else
              Option.bind (quoI (p1.length : Int) p2) fun z44 =>
              some (decide (64 < z44))) fun o40 =>
          if o40 then
            some ((api_Grid.mk 0 0 ([] : (List Bool))), 4)
          else
            Option.bind (idxO p0 0) fun x49 =>
            Option.bind (quoI (p1.length : Int) p2) fun z56 =>
            Option.bind (F_block_zero_s0 (w64 (p2 * x49.W)) (w64 (z56 * x49.H))) fun r63 =>
            if r63.2 != 0 then
              some ((api_Grid.mk 0 0 ([] : (List Bool))), r63.2)
            else
              Option.bind (α := List Bool) (
                Option.bind (whileO (block_Join_l1 p1 p0 p2 r63) (0, r63.1.Bits)) fun e94 =>
                  some e94) fun o85 =>
              some ((api_Grid.mk r63.1.W r63.1.H o85), 0)
def c_block_Join_val (r : (api_Grid × Int)) (x : Value) : Value := .tuple #[x, .int .i64 r.2]
def c_block_Join_D (r : (api_Grid × Int)) (x : Value) : List Fact := [fRep r_api_Grid x r.1]
set_option maxHeartbeats 4000000 in
set_option maxRecDepth 100000 in
theorem c_block_Join (E : Nat → Prop) (w0 : World) (p0 : (List api_Grid)) (v0 : Value) (p1 : (List Int)) (v1 : Value) (p2 : Int) (r : (api_Grid × Int)) (h : F_block_Join p0 p1 p2 = some r) (S : St0 E [] w0 w0 [] [fRep (rL r_api_Grid) (v0) p0, fRep (rL (rI .i64)) (v1) p1]) :
    Calls Try.prog 21 #[v0, v1, iv p2] w0 (Ret (X := Value) E [] w0 (c_block_Join_val r) (fun _ => []) (c_block_Join_D r)) := by
  unfold F_block_Join at h
  obtain ⟨ad1, cp2, _, rfl, _⟩ := S.know (i := 0) (e := fRep (rL r_api_Grid) (v0) p0) rfl
  obtain ⟨ad3, cp4, _, rfl, _⟩ := S.know (i := 1) (e := fRep (rL (rI .i64)) (v1) p1) rfl
  refine sEnter (args := [.slice ad1 p0.length cp2, .slice ad3 p1.length cp4, iv p2]) 105 Try.func21 rfl rfl (by simp) S (fun a S => ?_)
  refine sSeq (fun K5 hK5 => ?_)
  refine sRegion ?_
  refine sBox (v := .slice ad1 p0.length cp2) S (wN rfl) rfl rfl [.slice ad1 p0.length cp2] rfl rfl (lb rfl) fun a b6 w S => ?_
  refine sAlloc (.agg #[iv 0, iv 0, .slice none 0 0]) S (wN rfl) rfl rfl [iv 0, iv 0, .slice none 0 0] rfl rfl (lb rfl) fun a b7 w S => ?_
  refine sMove (iv 0) S (wN rfl) (.inr rfl) rfl rfl (lb rfl) fun a S => ?_
  refine leafL (leafT (hK5 _ _ ?_))
  refine sSeq (fun K8 hK8 => ?_)
  refine sSeq (fun K9 hK9 => ?_)
  refine sRegion ?_
  refine sLoad1 (p := b6) (off := 0) (T := 34) (vs := [.slice ad1 p0.length cp2]) 1 (.slice ad1 p0.length cp2) S (wN rfl) rfl rfl rfl rfl rfl rfl (lb rfl) fun a S => ?_
  refine sLen (ad := ad1) (m := p0.length) (c := cp2) S (wN rfl) rfl Try.underlying34 rfl rfl (lb rfl) fun a S => ?_
  refine sBin (.bool ((p0.length : Int) == 0)) S (wN rfl) rfl rfl rfl (bEq _ _ _ _ .i64 (p0.length : Int) 0) rfl (lb rfl) fun a S => ?_
  refine leafL (leafT (hK9 _ _ ?_))
  rcases iteSome h with ⟨hc10, h⟩ | ⟨hc10, h⟩
  · refine sCondT S rfl hc10 ?_
    refine sSeq (fun K11 hK11 => ?_)
    refine sRegion ?_
    refine sBuild [] [iv 0, iv 0, .slice none 0 0] S (wN rfl) rfl rfl rfl rfl (lb rfl) fun a S => ?_
    refine sStore (p := b7) (off := 0) (T := 24) (vs := [iv 0, iv 0, .slice none 0 0]) (v := .agg #[iv 0, iv 0, .slice none 0 0]) 0 [iv 0, iv 0, .slice none 0 0] S (wN rfl) rfl rfl rfl rfl rfl rfl rfl (by simp) rfl fun a w S => ?_
    refine sMove (iv 6) S (wN rfl) (.inr rfl) rfl rfl (lb rfl) fun a S => ?_
    refine leafL (leafT (hK11 _ _ ?_))
    obtain rfl := Option.some.inj h
    have S := S.learn (fRep (rL rB) (.slice none 0 0) ([] : (List Bool))) (rL_nil _ _ _)
    have S := S.learn (fRep r_api_Grid (.agg #[iv 0, iv 0, .slice none 0 0]) (api_Grid.mk 0 0 ([] : (List Bool)))) ⟨_, rfl, S.mem.know (i := 0) (e := fRep (rL rB) (.slice none 0 0) ([] : (List Bool))) rfl⟩
    exact wp_ret (rThen (sRet (.tuple #[.agg #[iv 0, iv 0, .slice none 0 0], iv 6]) S (rsl2 rfl (rvN (c := 6) (t := 24) (T := 24) (p := b7) 0 [iv 0, iv 0, .slice none 0 0] S rfl rfl rfl rfl) (rvT (t := 7) (v := iv 6) S rfl)) ⟨(.agg #[iv 0, iv 0, .slice none 0 0]), rfl, S.mem.sel [] [0] (by decide) rfl rfl⟩))
  refine sCondF S rfl hc10 ?_
  refine wp_skip (leafT (hK8 _ _ ?_))
  refine sSeq (fun K12 hK12 => ?_)
  refine sSeq (fun K13 hK13 => ?_)
  refine sRegion ?_
  refine sLoad1 (p := b6) (off := 0) (T := 34) (vs := [.slice ad1 p0.length cp2]) 1 (.slice ad1 p0.length cp2) S (wN rfl) rfl rfl rfl rfl rfl rfl (lb rfl) fun a S => ?_
  obtain ⟨r14, hx15, h⟩ := bindSome h
  have S1 := S.mem
  refine sCallQ (X := Unit) (f := 41) (vs := [.slice ad1 p0.length cp2]) (val := fun _ => iv r14) S (wN rfl) rfl callee41 rfl (S1.quiet [0] rfl) (fun E1 w1 S1 => c_block_checked E1 w1 p0 (.slice ad1 p0.length cp2) r14 hx15 S1) rfl (lb rfl) fun _ a w S => ?_
  refine sMove (iv r14) S (wN rfl) (.inr rfl) rfl rfl (lb rfl) fun a S => ?_
  refine leafL (leafT (hK13 _ _ ?_))
  refine sSeq (fun K16 hK16 => ?_)
  refine sRegion ?_
  refine sMove (iv r14) S (wN rfl) (.inl rfl) rfl rfl (lb rfl) fun a S => ?_
  refine sBin (.bool (r14 != 0)) S (wN rfl) rfl rfl rfl (bNe _ _ _ _ .i64 r14 0) rfl (lb rfl) fun a S => ?_
  refine leafL (leafT (hK16 _ _ ?_))
  rcases iteSome h with ⟨hc17, h⟩ | ⟨hc17, h⟩
  · refine sCondT S rfl hc17 ?_
    refine sSeq (fun K18 hK18 => ?_)
    refine sRegion ?_
    refine sBuild [] [iv 0, iv 0, .slice none 0 0] S (wN rfl) rfl rfl rfl rfl (lb rfl) fun a S => ?_
    refine sMove (iv r14) S (wN rfl) (.inl rfl) rfl rfl (lb rfl) fun a S => ?_
    refine sStore (p := b7) (off := 0) (T := 24) (vs := [iv 0, iv 0, .slice none 0 0]) (v := .agg #[iv 0, iv 0, .slice none 0 0]) 0 [iv 0, iv 0, .slice none 0 0] S (wN rfl) rfl rfl rfl rfl rfl rfl rfl (by simp) rfl fun a w S => ?_
    refine sMove (iv r14) S (wN rfl) (.inr rfl) rfl rfl (lb rfl) fun a S => ?_
    refine leafL (leafT (hK18 _ _ ?_))
    obtain rfl := Option.some.inj h
    have S := S.learn (fRep (rL rB) (.slice none 0 0) ([] : (List Bool))) (rL_nil _ _ _)
    have S := S.learn (fRep r_api_Grid (.agg #[iv 0, iv 0, .slice none 0 0]) (api_Grid.mk 0 0 ([] : (List Bool)))) ⟨_, rfl, S.mem.know (i := 0) (e := fRep (rL rB) (.slice none 0 0) ([] : (List Bool))) rfl⟩
    exact wp_ret (rThen (sRet (.tuple #[.agg #[iv 0, iv 0, .slice none 0 0], iv r14]) S (rsl2 rfl (rvN (c := 6) (t := 24) (T := 24) (p := b7) 0 [iv 0, iv 0, .slice none 0 0] S rfl rfl rfl rfl) (rvT (t := 7) (v := iv r14) S rfl)) ⟨(.agg #[iv 0, iv 0, .slice none 0 0]), rfl, S.mem.sel [] [0] (by decide) rfl rfl⟩))
  refine sCondF S rfl hc17 ?_
  refine wp_skip (leafT (hK12 _ _ ?_))
  refine sSeq (fun K19 hK19 => ?_)
  refine sRegion ?_
  refine sFunc (g := 54) (vs := [.pointer (some ⟨b6, 0, none⟩)]) S (wN rfl) rfl rfl rfl (lb rfl) fun a S => ?_
  refine sMove (.func (.func 54) #[] #[.pointer (some ⟨b6, 0, none⟩)]) S (wN rfl) (.inr rfl) rfl rfl (lb rfl) fun a S => ?_
  refine leafL (leafT (hK19 _ _ ?_))
  refine sSeq (fun K20 hK20 => ?_)
  obtain ⟨t22, h, g23⟩ := bindSome h
  refine sCut (fun a w => ∃ o21, o21 = t22 ∧ St [] E [] w0 105 a w [(1, .slice ad3 p1.length cp4), (2, iv p2), (3, .pointer (some ⟨b6, 0, none⟩)), (6, .pointer (some ⟨b7, 0, none⟩)), (43, .bool o21)] [eBox b6 34 [.slice ad1 p0.length cp2], eBox b7 24 [iv 0, iv 0, .slice none 0 0]] [fRep (rL (rI .i64)) (.slice ad3 p1.length cp4) p1, fRep (rL r_api_Grid) (.slice ad1 p0.length cp2) p0]) ?_ (fun a w hI => ?_)
  · refine sRegion ?_
    refine sLoad1 (p := b6) (off := 0) (T := 34) (vs := [.slice ad1 p0.length cp2]) 1 (.slice ad1 p0.length cp2) S (wN rfl) rfl rfl rfl rfl rfl rfl (lb rfl) fun a S => ?_
    refine sMove (.func (.func 54) #[] #[.pointer (some ⟨b6, 0, none⟩)]) S (wN rfl) (.inl rfl) rfl rfl (lb rfl) fun a S => ?_
    obtain ⟨r24, hx25, h⟩ := bindSome h
    have S1 := S.mem
    have S1 := S1.shutB (r := (rL r_api_Grid)) (T := 34) (b := b6) (cs := [.slice ad1 p0.length cp2]) 1 (.slice ad1 p0.length cp2) p0 rfl rfl (S1.know (i := 0) (e := fRep (rL r_api_Grid) (.slice ad1 p0.length cp2) p0) rfl)
    refine sCallQ (X := Unit) (f := 55) (vs := [.slice ad1 p0.length cp2, .func (.func 54) #[] #[.pointer (some ⟨b6, 0, none⟩)]]) (val := fun _ => .bool r24) S (wN rfl) rfl callee55 rfl (S1.quiet [1, 0] rfl) (fun E1 w1 S1 => c_slices_ContainsFunc___api_Grid_api_Grid__s0 E1 w1 p0 (.slice ad1 p0.length cp2) p0 (.pointer (some ⟨b6, 0, none⟩)) r24 hx25 S1) rfl (lb rfl) fun _ a w S => ?_
    refine sMove (.bool r24) S (wN rfl) (.inl rfl) rfl rfl (lb rfl) fun a S => ?_
    rcases iteSome h with ⟨hc26, h⟩ | ⟨hc26, h⟩
    · refine sSkip 3 false 28 29 S rfl rfl rfl hc26 rfl (lb rfl) fun a S => ?_
      refine sSkip 3 false 28 30 S rfl rfl rfl hc26 rfl (lb rfl) fun a S => ?_
      refine sPickT (.bool true) S (wN rfl) rfl rfl hc26 rfl rfl (lb rfl) fun a S => ?_
      refine sMove (.bool true) S (wN rfl) (.inl rfl) rfl rfl (lb rfl) fun a S => ?_
      refine sSkip 7 false 32 33 S rfl rfl rfl rfl rfl (lb rfl) fun a S => ?_
      refine sSkip 7 false 32 34 S rfl rfl rfl rfl rfl (lb rfl) fun a S => ?_
      refine sSkip 7 false 32 35 S rfl rfl rfl rfl rfl (lb rfl) fun a S => ?_
      refine sPickT (.bool true) S (wN rfl) rfl rfl rfl rfl rfl (lb rfl) fun a S => ?_
      refine sMove (.bool true) S (wN rfl) (.inl rfl) rfl rfl (lb rfl) fun a S => ?_
      refine sSkip 12 false 37 38 S rfl rfl rfl rfl rfl (lb rfl) fun a S => ?_
      refine sSkip 12 false 37 39 S rfl rfl rfl rfl rfl (lb rfl) fun a S => ?_
      refine sSkip 12 false 37 40 S rfl rfl rfl rfl rfl (lb rfl) fun a S => ?_
      refine sSkip 12 false 37 41 S rfl rfl rfl rfl rfl (lb rfl) fun a S => ?_
      refine sSkip 12 false 37 42 S rfl rfl rfl rfl rfl (lb rfl) fun a S => ?_
      refine sPickT (.bool true) S (wN rfl) rfl rfl rfl rfl rfl (lb rfl) fun a S => ?_
      exact leafL (leafT (⟨true, Option.some.inj h, S.fix [1, 0] [1, 0] (by decide) rfl rfl rfl⟩))
    refine sMove (iv p2) S (wG 3 false 28 rfl rfl rfl hc26) (.inl rfl) rfl rfl (lb rfl) fun a S => ?_
    refine sBin (.bool (decide (p2 < 1))) S (wG 3 false 28 rfl rfl rfl hc26) rfl rfl rfl (bLt _ _ _ _ .i64 p2 1) rfl (lb rfl) fun a S => ?_
    refine sPickF (.bool (decide (p2 < 1))) S (wN rfl) rfl rfl hc26 rfl rfl (lb rfl) fun a S => ?_
    refine sMove (.bool (decide (p2 < 1))) S (wN rfl) (.inl rfl) rfl rfl (lb rfl) fun a S => ?_
    rcases iteSome h with ⟨hc27, h⟩ | ⟨hc27, h⟩
    · refine sSkip 7 false 32 33 S rfl rfl rfl hc27 rfl (lb rfl) fun a S => ?_
      refine sSkip 7 false 32 34 S rfl rfl rfl hc27 rfl (lb rfl) fun a S => ?_
      refine sSkip 7 false 32 35 S rfl rfl rfl hc27 rfl (lb rfl) fun a S => ?_
      refine sPickT (.bool true) S (wN rfl) rfl rfl hc27 rfl rfl (lb rfl) fun a S => ?_
      refine sMove (.bool true) S (wN rfl) (.inl rfl) rfl rfl (lb rfl) fun a S => ?_
      refine sSkip 12 false 37 38 S rfl rfl rfl rfl rfl (lb rfl) fun a S => ?_
      refine sSkip 12 false 37 39 S rfl rfl rfl rfl rfl (lb rfl) fun a S => ?_
      refine sSkip 12 false 37 40 S rfl rfl rfl rfl rfl (lb rfl) fun a S => ?_
      refine sSkip 12 false 37 41 S rfl rfl rfl rfl rfl (lb rfl) fun a S => ?_
      refine sSkip 12 false 37 42 S rfl rfl rfl rfl rfl (lb rfl) fun a S => ?_
      refine sPickT (.bool true) S (wN rfl) rfl rfl rfl rfl rfl (lb rfl) fun a S => ?_
      exact leafL (leafT (⟨true, Option.some.inj h, S.fix [1, 0] [1, 0] (by decide) rfl rfl rfl⟩))
    refine sMove (.slice ad3 p1.length cp4) S (wG 7 false 32 rfl rfl rfl hc27) (.inl rfl) rfl rfl (lb rfl) fun a S => ?_
    refine sLen (ad := ad3) (m := p1.length) (c := cp4) S (wG 7 false 32 rfl rfl rfl hc27) rfl Try.underlying35 rfl rfl (lb rfl) fun a S => ?_
    refine sBin (.bool ((p1.length : Int) == 0)) S (wG 7 false 32 rfl rfl rfl hc27) rfl rfl rfl (bEq _ _ _ _ .i64 (p1.length : Int) 0) rfl (lb rfl) fun a S => ?_
    refine sPickF (.bool ((p1.length : Int) == 0)) S (wN rfl) rfl rfl hc27 rfl rfl (lb rfl) fun a S => ?_
    refine sMove (.bool ((p1.length : Int) == 0)) S (wN rfl) (.inl rfl) rfl rfl (lb rfl) fun a S => ?_
    rcases iteSome h with ⟨hc28, h⟩ | ⟨hc28, h⟩
    · refine sSkip 12 false 37 38 S rfl rfl rfl hc28 rfl (lb rfl) fun a S => ?_
      refine sSkip 12 false 37 39 S rfl rfl rfl hc28 rfl (lb rfl) fun a S => ?_
      refine sSkip 12 false 37 40 S rfl rfl rfl hc28 rfl (lb rfl) fun a S => ?_
      refine sSkip 12 false 37 41 S rfl rfl rfl hc28 rfl (lb rfl) fun a S => ?_
      refine sSkip 12 false 37 42 S rfl rfl rfl hc28 rfl (lb rfl) fun a S => ?_
      refine sPickT (.bool true) S (wN rfl) rfl rfl hc28 rfl rfl (lb rfl) fun a S => ?_
      exact leafL (leafT (⟨true, Option.some.inj h, S.fix [1, 0] [1, 0] (by decide) rfl rfl rfl⟩))
    refine sMove (.slice ad3 p1.length cp4) S (wG 12 false 37 rfl rfl rfl hc28) (.inl rfl) rfl rfl (lb rfl) fun a S => ?_
    refine sLen (ad := ad3) (m := p1.length) (c := cp4) S (wG 12 false 37 rfl rfl rfl hc28) rfl Try.underlying35 rfl rfl (lb rfl) fun a S => ?_
    refine sMove (iv p2) S (wG 12 false 37 rfl rfl rfl hc28) (.inl rfl) rfl rfl (lb rfl) fun a S => ?_
    obtain ⟨z29, hx30, h⟩ := bindSome h
    refine sBin (iv z29) S (wG 12 false 37 rfl rfl rfl hc28) rfl rfl rfl (bRem _ _ _ _ (x := (p1.length : Int)) (y := p2) hx30) rfl (lb rfl) fun a S => ?_
    refine sBin (.bool (z29 != 0)) S (wG 12 false 37 rfl rfl rfl hc28) rfl rfl rfl (bNe _ _ _ _ .i64 z29 0) rfl (lb rfl) fun a S => ?_
    refine sPickF (.bool (z29 != 0)) S (wN rfl) rfl rfl hc28 rfl rfl (lb rfl) fun a S => ?_
    exact leafL (leafT (⟨z29 != 0, Option.some.inj h, S.fix [1, 0] [1, 0] (by decide) rfl rfl rfl⟩))
  obtain ⟨o21, rfl, S⟩ := hI
  have h := g23
  clear g23
  try dsimp only at h
  rcases iteSome h with ⟨hc31, h⟩ | ⟨hc31, h⟩
  · refine sCondT S rfl hc31 ?_
    refine sSeq (fun K32 hK32 => ?_)
    refine sRegion ?_
    refine sBuild [] [iv 0, iv 0, .slice none 0 0] S (wN rfl) rfl rfl rfl rfl (lb rfl) fun a S => ?_
    refine sStore (p := b7) (off := 0) (T := 24) (vs := [iv 0, iv 0, .slice none 0 0]) (v := .agg #[iv 0, iv 0, .slice none 0 0]) 1 [iv 0, iv 0, .slice none 0 0] S (wN rfl) rfl rfl rfl rfl rfl rfl rfl (by simp) rfl fun a w S => ?_
    refine sMove (iv 26) S (wN rfl) (.inr rfl) rfl rfl (lb rfl) fun a S => ?_
    refine leafL (leafT (hK32 _ _ ?_))
    obtain rfl := Option.some.inj h
    have S := S.learn (fRep (rL rB) (.slice none 0 0) ([] : (List Bool))) (rL_nil _ _ _)
    have S := S.learn (fRep r_api_Grid (.agg #[iv 0, iv 0, .slice none 0 0]) (api_Grid.mk 0 0 ([] : (List Bool)))) ⟨_, rfl, S.mem.know (i := 0) (e := fRep (rL rB) (.slice none 0 0) ([] : (List Bool))) rfl⟩
    exact wp_ret (rThen (sRet (.tuple #[.agg #[iv 0, iv 0, .slice none 0 0], iv 26]) S (rsl2 rfl (rvN (c := 6) (t := 24) (T := 24) (p := b7) 0 [iv 0, iv 0, .slice none 0 0] S rfl rfl rfl rfl) (rvT (t := 7) (v := iv 26) S rfl)) ⟨(.agg #[iv 0, iv 0, .slice none 0 0]), rfl, S.mem.sel [] [0] (by decide) rfl rfl⟩))
  refine sCondF S rfl hc31 ?_
  refine wp_skip (leafT (hK20 _ _ ?_))
  refine sSeq (fun K33 hK33 => ?_)
  refine sSeq (fun K34 hK34 => ?_)
  refine sRegion ?_
  refine sMove (.slice ad3 p1.length cp4) S (wN rfl) (.inl rfl) rfl rfl (lb rfl) fun a S => ?_
  refine sLoad1 (p := b6) (off := 0) (T := 34) (vs := [.slice ad1 p0.length cp2]) 0 (.slice ad1 p0.length cp2) S (wN rfl) rfl rfl rfl rfl rfl rfl (lb rfl) fun a S => ?_
  refine sLen (ad := ad1) (m := p0.length) (c := cp2) S (wN rfl) rfl Try.underlying34 rfl rfl (lb rfl) fun a S => ?_
  obtain ⟨r35, hx36, h⟩ := bindSome h
  have S1 := S.mem
  refine sCallQ (X := Unit) (f := 56) (vs := [.slice ad3 p1.length cp4, iv (p0.length : Int)]) (val := fun _ => .bool r35) S (wN rfl) rfl callee56 rfl (S1.quiet [0] rfl) (fun E1 w1 S1 => c_block_index E1 w1 p1 (.slice ad3 p1.length cp4) (p0.length : Int) r35 hx36 S1) rfl (lb rfl) fun _ a w S => ?_
  refine sNot (b := r35) S (wN rfl) rfl rfl rfl (lb rfl) fun a S => ?_
  refine leafL (leafT (hK34 _ _ ?_))
  rcases iteSome h with ⟨hc37, h⟩ | ⟨hc37, h⟩
  · refine sCondT S rfl hc37 ?_
    refine sSeq (fun K38 hK38 => ?_)
    refine sRegion ?_
    refine sBuild [] [iv 0, iv 0, .slice none 0 0] S (wN rfl) rfl rfl rfl rfl (lb rfl) fun a S => ?_
    refine sStore (p := b7) (off := 0) (T := 24) (vs := [iv 0, iv 0, .slice none 0 0]) (v := .agg #[iv 0, iv 0, .slice none 0 0]) 1 [iv 0, iv 0, .slice none 0 0] S (wN rfl) rfl rfl rfl rfl rfl rfl rfl (by simp) rfl fun a w S => ?_
    refine sMove (iv 8) S (wN rfl) (.inr rfl) rfl rfl (lb rfl) fun a S => ?_
    refine leafL (leafT (hK38 _ _ ?_))
    obtain rfl := Option.some.inj h
    have S := S.learn (fRep (rL rB) (.slice none 0 0) ([] : (List Bool))) (rL_nil _ _ _)
    have S := S.learn (fRep r_api_Grid (.agg #[iv 0, iv 0, .slice none 0 0]) (api_Grid.mk 0 0 ([] : (List Bool)))) ⟨_, rfl, S.mem.know (i := 0) (e := fRep (rL rB) (.slice none 0 0) ([] : (List Bool))) rfl⟩
    exact wp_ret (rThen (sRet (.tuple #[.agg #[iv 0, iv 0, .slice none 0 0], iv 8]) S (rsl2 rfl (rvN (c := 6) (t := 24) (T := 24) (p := b7) 0 [iv 0, iv 0, .slice none 0 0] S rfl rfl rfl rfl) (rvT (t := 7) (v := iv 8) S rfl)) ⟨(.agg #[iv 0, iv 0, .slice none 0 0]), rfl, S.mem.sel [] [0] (by decide) rfl rfl⟩))
  refine sCondF S rfl hc37 ?_
  refine wp_skip (leafT (hK33 _ _ ?_))
  refine sSeq (fun K39 hK39 => ?_)
  obtain ⟨t41, h, g42⟩ := bindSome h
  refine sCut (fun a w => ∃ o40, o40 = t41 ∧ St [] E [] w0 105 a w [(1, .slice ad3 p1.length cp4), (2, iv p2), (3, .pointer (some ⟨b6, 0, none⟩)), (6, .pointer (some ⟨b7, 0, none⟩)), (59, .bool o40)] [eBox b6 34 [.slice ad1 p0.length cp2], eBox b7 24 [iv 0, iv 0, .slice none 0 0]] [fRep (rL (rI .i64)) (.slice ad3 p1.length cp4) p1, fRep (rL r_api_Grid) (.slice ad1 p0.length cp2) p0]) ?_ (fun a w hI => ?_)
  · refine sRegion ?_
    refine sMove (iv p2) S (wN rfl) (.inl rfl) rfl rfl (lb rfl) fun a S => ?_
    refine sBin (.bool (decide (64 < p2))) S (wN rfl) rfl rfl rfl (bGt _ _ _ _ .i64 p2 64) rfl (lb rfl) fun a S => ?_
    refine sMove (.bool (decide (64 < p2))) S (wN rfl) (.inl rfl) rfl rfl (lb rfl) fun a S => ?_
    rcases iteSome h with ⟨hc43, h⟩ | ⟨hc43, h⟩
    · refine sSkip 2 false 53 54 S rfl rfl rfl hc43 rfl (lb rfl) fun a S => ?_
      refine sSkip 2 false 53 55 S rfl rfl rfl hc43 rfl (lb rfl) fun a S => ?_
      refine sSkip 2 false 53 56 S rfl rfl rfl hc43 rfl (lb rfl) fun a S => ?_
      refine sSkip 2 false 53 57 S rfl rfl rfl hc43 rfl (lb rfl) fun a S => ?_
      refine sSkip 2 false 53 58 S rfl rfl rfl hc43 rfl (lb rfl) fun a S => ?_
      refine sPickT (.bool true) S (wN rfl) rfl rfl hc43 rfl rfl (lb rfl) fun a S => ?_
      exact leafL (leafT (⟨true, Option.some.inj h, S.fix [0, 1] [0, 1] (by decide) rfl rfl rfl⟩))
    refine sMove (.slice ad3 p1.length cp4) S (wG 2 false 53 rfl rfl rfl hc43) (.inl rfl) rfl rfl (lb rfl) fun a S => ?_
    refine sLen (ad := ad3) (m := p1.length) (c := cp4) S (wG 2 false 53 rfl rfl rfl hc43) rfl Try.underlying35 rfl rfl (lb rfl) fun a S => ?_
    refine sMove (iv p2) S (wG 2 false 53 rfl rfl rfl hc43) (.inl rfl) rfl rfl (lb rfl) fun a S => ?_
    obtain ⟨z44, hx45, h⟩ := bindSome h
    refine sBin (iv z44) S (wG 2 false 53 rfl rfl rfl hc43) rfl rfl rfl (bQuo _ _ _ _ (x := (p1.length : Int)) (y := p2) hx45) rfl (lb rfl) fun a S => ?_
    refine sBin (.bool (decide (64 < z44))) S (wG 2 false 53 rfl rfl rfl hc43) rfl rfl rfl (bGt _ _ _ _ .i64 z44 64) rfl (lb rfl) fun a S => ?_
    refine sPickF (.bool (decide (64 < z44))) S (wN rfl) rfl rfl hc43 rfl rfl (lb rfl) fun a S => ?_
    exact leafL (leafT (⟨decide (64 < z44), Option.some.inj h, S.fix [0, 1] [0, 1] (by decide) rfl rfl rfl⟩))
  obtain ⟨o40, rfl, S⟩ := hI
  have h := g42
  clear g42
  try dsimp only at h
  rcases iteSome h with ⟨hc46, h⟩ | ⟨hc46, h⟩
  · refine sCondT S rfl hc46 ?_
    refine sSeq (fun K47 hK47 => ?_)
    refine sRegion ?_
    refine sBuild [] [iv 0, iv 0, .slice none 0 0] S (wN rfl) rfl rfl rfl rfl (lb rfl) fun a S => ?_
    refine sStore (p := b7) (off := 0) (T := 24) (vs := [iv 0, iv 0, .slice none 0 0]) (v := .agg #[iv 0, iv 0, .slice none 0 0]) 1 [iv 0, iv 0, .slice none 0 0] S (wN rfl) rfl rfl rfl rfl rfl rfl rfl (by simp) rfl fun a w S => ?_
    refine sMove (iv 4) S (wN rfl) (.inr rfl) rfl rfl (lb rfl) fun a S => ?_
    refine leafL (leafT (hK47 _ _ ?_))
    obtain rfl := Option.some.inj h
    have S := S.learn (fRep (rL rB) (.slice none 0 0) ([] : (List Bool))) (rL_nil _ _ _)
    have S := S.learn (fRep r_api_Grid (.agg #[iv 0, iv 0, .slice none 0 0]) (api_Grid.mk 0 0 ([] : (List Bool)))) ⟨_, rfl, S.mem.know (i := 0) (e := fRep (rL rB) (.slice none 0 0) ([] : (List Bool))) rfl⟩
    exact wp_ret (rThen (sRet (.tuple #[.agg #[iv 0, iv 0, .slice none 0 0], iv 4]) S (rsl2 rfl (rvN (c := 6) (t := 24) (T := 24) (p := b7) 0 [iv 0, iv 0, .slice none 0 0] S rfl rfl rfl rfl) (rvT (t := 7) (v := iv 4) S rfl)) ⟨(.agg #[iv 0, iv 0, .slice none 0 0]), rfl, S.mem.sel [] [0] (by decide) rfl rfl⟩))
  refine sCondF S rfl hc46 ?_
  refine wp_skip (leafT (hK39 _ _ ?_))
  refine sSeq (fun K48 hK48 => ?_)
  obtain ⟨x49, hx50, h⟩ := bindSome h
  obtain ⟨z56, hx57, h⟩ := bindSome h
  obtain ⟨r63, hx64, h⟩ := bindSome h
  obtain ⟨q68, hq69, S⟩ := pIdx (P := Try.prog) (r := r_api_Grid) (v := .slice ad1 p0.length cp2) (xs := p0) (j := 0) 34 24 1 S Try.underlying34 rfl rfl hx50
  obtain ⟨q70, hq71, S⟩ := pFld (P := Try.prog) (r := r_api_Grid) (s2 := (rI .i64)) (g := (·.W)) (q := q68) (z := x49) 24 0 0 0 S rfl rfl comp_api_Grid_W
  obtain ⟨u72, S⟩ := pLoad (r := (rI .i64)) (q := q70) (x := x49.W) 0 S rfl
  obtain rfl : u72 = iv x49.W := S.mem.know (i := 1) (e := fRep (rI .i64) (u72) x49.W) rfl
  obtain ⟨q73, hq74, S⟩ := pIdx (P := Try.prog) (r := r_api_Grid) (v := .slice ad1 p0.length cp2) (xs := p0) (j := 0) 34 24 5 S Try.underlying34 rfl rfl hx50
  obtain ⟨q75, hq76, S⟩ := pFld (P := Try.prog) (r := r_api_Grid) (s2 := (rI .i64)) (g := (·.H)) (q := q73) (z := x49) 24 1 0 1 S rfl rfl comp_api_Grid_H
  obtain ⟨u77, S⟩ := pLoad (r := (rI .i64)) (q := q75) (x := x49.H) 0 S rfl
  obtain rfl : u77 = iv x49.H := S.mem.know (i := 1) (e := fRep (rI .i64) (u77) x49.H) rfl
  refine sDraw (nf := [15, 19, 20]) (W := [(0, 62, iv p2), (1, 63, .slice ad1 p0.length cp2), (2, 64, q68), (3, 65, q70), (4, 66, iv x49.W), (5, 67, iv (w64 (p2 * x49.W))), (6, 68, .slice ad3 p1.length cp4), (7, 69, iv (p1.length : Int)), (8, 70, iv p2), (9, 71, iv z56), (10, 72, .slice ad1 p0.length cp2), (11, 73, q73), (12, 74, q75), (13, 75, iv x49.H), (14, 76, iv (w64 (z56 * x49.H)))]) rfl S ?_
  refine nodeCut (fun N W L D => ∀ b80 ad78 cp79, N [19, 15] ((19, 10, .pointer (some ⟨b80, 0, none⟩)) :: (16, 61, .tuple #[.agg #[iv r63.1.W, iv r63.1.H, .slice ad78 r63.1.Bits.length cp79], iv r63.2]) :: (17, 78, .agg #[iv r63.1.W, iv r63.1.H, .slice ad78 r63.1.Bits.length cp79]) :: (18, 79, iv r63.2) :: (15, 77, .tuple #[.agg #[iv r63.1.W, iv r63.1.H, .slice ad78 r63.1.Bits.length cp79], iv r63.2]) :: W) ((eBox b80 24 [iv 0, iv 0, .slice none 0 0]) :: (eRow rB 4 (.slice ad78 r63.1.Bits.length cp79) r63.1.Bits) :: L) (D)) (fun b80 ad78 cp79 => ?_) fun nd1 => ?_
  · refine node_by (A := anc_block_Join_0) (nf := [15, 19, 20]) (Y := [19, 15]) 22 (by kernel_rfl) (by kernel_rfl) (by kernel_rfl) (by kernel_rfl) (by kernel_rfl) [19, 16, 17, 18, 15, 0, 1, 2, 3, 4, 5, 6, 7, 8, 9, 10, 11, 12, 13, 14] (by kernel_rfl) (by decide) (by decide) (aD 0 21 15 (by decide) (aD 1 20 15 (by decide) (aD 2 19 15 (by decide) (aD 3 18 15 (by decide) (aD 4 17 15 (by decide) (aD 5 16 15 (by decide) (aD 6 15 15 (by decide) (aD 7 14 15 (by decide) (aD 8 13 15 (by decide) (aD 9 12 15 (by decide) (aD 10 11 15 (by decide) (aD 11 10 15 (by decide) (aD 12 9 15 (by decide) (aD 13 8 15 (by decide) (aD 14 7 15 (by decide) (aY 15 6 (by decide) (aF 16 5 (by decide) ?_ (aF 17 4 (by decide) ?_ (aF 18 3 (by decide) ?_ (aY 19 2 (by decide) (aN 20 1 (by decide) ?_ (aE 21 0 20 (by decide) (trivial))))))))))))))))))))))) [] (fun q hq => by cases hq) (fun hY => absurd (hY 20 (by decide)) (by decide))
    · refine fI 61 (.tuple #[.agg #[iv r63.1.W, iv r63.1.H, .slice ad78 r63.1.Bits.length cp79], iv r63.2]) [(77, .tuple #[.agg #[iv r63.1.W, iv r63.1.H, .slice ad78 r63.1.Bits.length cp79], iv r63.2])] 1 [some 4] rfl rfl rfl rfl rfl rfl fun G a w S => ?_
      refine sMove (.tuple #[.agg #[iv r63.1.W, iv r63.1.H, .slice ad78 r63.1.Bits.length cp79], iv r63.2]) S (wN rfl) (.inl rfl) rfl rfl (lb rfl) fun a S => ?_
      exact leafL ⟨rfl, S⟩
    · refine fI 78 (.agg #[iv r63.1.W, iv r63.1.H, .slice ad78 r63.1.Bits.length cp79]) [(61, .tuple #[.agg #[iv r63.1.W, iv r63.1.H, .slice ad78 r63.1.Bits.length cp79], iv r63.2])] 2 [some 1] rfl rfl rfl rfl rfl rfl fun G a w S => ?_
      refine sExtract (vs := [.agg #[iv r63.1.W, iv r63.1.H, .slice ad78 r63.1.Bits.length cp79], iv r63.2]) (.agg #[iv r63.1.W, iv r63.1.H, .slice ad78 r63.1.Bits.length cp79]) S (wN rfl) rfl rfl rfl rfl (lb rfl) fun a S => ?_
      exact leafL ⟨rfl, S⟩
    · refine fI 79 (iv r63.2) [(61, .tuple #[.agg #[iv r63.1.W, iv r63.1.H, .slice ad78 r63.1.Bits.length cp79], iv r63.2])] 3 [some 1] rfl rfl rfl rfl rfl rfl fun G a w S => ?_
      refine sExtract (vs := [.agg #[iv r63.1.W, iv r63.1.H, .slice ad78 r63.1.Bits.length cp79], iv r63.2]) (iv r63.2) S (wN rfl) rfl rfl rfl rfl (lb rfl) fun a S => ?_
      exact leafL ⟨rfl, S⟩
    refine ⟨_, [(10, .pointer (some ⟨b80, 0, none⟩)), (78, .agg #[iv r63.1.W, iv r63.1.H, .slice ad78 r63.1.Bits.length cp79])], rfl, (srcs_of [some 0, some 2] rfl rfl rfl), fun G a w S => ?_⟩
    refine sStore (p := b80) (off := 0) (T := 24) (vs := [iv 0, iv 0, .slice none 0 0]) (v := .agg #[iv r63.1.W, iv r63.1.H, .slice ad78 r63.1.Bits.length cp79]) 0 [iv r63.1.W, iv r63.1.H, .slice ad78 r63.1.Bits.length cp79] S (wN rfl) rfl rfl rfl rfl rfl rfl rfl (by simp) rfl fun a w S => ?_
    refine leafL ⟨rfl, _, _, .inr ⟨[(21, 11, iv r63.2)], rfl, S, hz_of rfl, ?_⟩⟩
    refine node_by (A := anc_block_Join_0) (nf := [15, 19, 20]) (Y := [20, 19, 15]) 22 (by kernel_rfl) (by kernel_rfl) (by kernel_rfl) (by kernel_rfl) (by kernel_rfl) [21, 19, 16, 17, 18, 15, 0, 1, 2, 3, 4, 5, 6, 7, 8, 9, 10, 11, 12, 13, 14] (by kernel_rfl) (by decide) (by decide) (aD 0 21 20 (by decide) (aD 1 20 20 (by decide) (aD 2 19 20 (by decide) (aD 3 18 20 (by decide) (aD 4 17 20 (by decide) (aD 5 16 20 (by decide) (aD 6 15 20 (by decide) (aD 7 14 20 (by decide) (aD 8 13 20 (by decide) (aD 9 12 20 (by decide) (aD 10 11 20 (by decide) (aD 11 10 20 (by decide) (aD 12 9 20 (by decide) (aD 13 8 20 (by decide) (aD 14 7 20 (by decide) (aY 15 6 (by decide) (aD 16 5 20 (by decide) (aD 17 4 20 (by decide) (aF 18 3 (by decide) ?_ (aY 19 2 (by decide) (aY 20 1 (by decide) (aF 21 0 (by decide) ?_ (trivial))))))))))))))))))))))) [(1, .slice ad3 p1.length cp4), (2, iv p2), (3, .pointer (some ⟨b6, 0, none⟩)), (6, .pointer (some ⟨b7, 0, none⟩)), (10, .pointer (some ⟨b80, 0, none⟩)), (11, iv r63.2)] (fin_of [none, none, none, none, some 1, some 0] rfl (by kernel_rfl) (by kernel_rfl)) (fun _ a w S => ?_)
    · refine fI 79 (iv r63.2) [(61, .tuple #[.agg #[iv r63.1.W, iv r63.1.H, .slice ad78 r63.1.Bits.length cp79], iv r63.2])] 4 [some 2] rfl rfl rfl rfl rfl rfl fun G a w S => ?_
      refine sExtract (vs := [.agg #[iv r63.1.W, iv r63.1.H, .slice ad78 r63.1.Bits.length cp79], iv r63.2]) (iv r63.2) S (wN rfl) rfl rfl rfl rfl (lb rfl) fun a S => ?_
      exact leafL ⟨rfl, S⟩
    · refine fI 11 (iv r63.2) [(79, iv r63.2)] 0 [some 4] rfl rfl rfl rfl rfl rfl fun G a w S => ?_
      refine sMove (iv r63.2) S (wN rfl) (.inr rfl) rfl rfl (lb rfl) fun a S => ?_
      exact leafL ⟨rfl, S⟩
    refine leafT (hK48 _ _ ?_)
    refine sSeq (fun K81 hK81 => ?_)
    refine sSeq (fun K82 hK82 => ?_)
    refine sRegion ?_
    refine sMove (iv r63.2) S (wN rfl) (.inl rfl) rfl rfl (lb rfl) fun a S => ?_
    refine sBin (.bool (r63.2 != 0)) S (wN rfl) rfl rfl rfl (bNe _ _ _ _ .i64 r63.2 0) rfl (lb rfl) fun a S => ?_
    refine leafL (leafT (hK82 _ _ ?_))
    rcases iteSome h with ⟨hc83, h⟩ | ⟨hc83, h⟩
    · refine sCondT S rfl hc83 ?_
      refine sSeq (fun K84 hK84 => ?_)
      refine sRegion ?_
      refine sBuild [] [iv 0, iv 0, .slice none 0 0] S (wN rfl) rfl rfl rfl rfl (lb rfl) fun a S => ?_
      refine sMove (iv r63.2) S (wN rfl) (.inl rfl) rfl rfl (lb rfl) fun a S => ?_
      refine sStore (p := b7) (off := 0) (T := 24) (vs := [iv 0, iv 0, .slice none 0 0]) (v := .agg #[iv 0, iv 0, .slice none 0 0]) 3 [iv 0, iv 0, .slice none 0 0] S (wN rfl) rfl rfl rfl rfl rfl rfl rfl (by simp) rfl fun a w S => ?_
      refine sMove (iv r63.2) S (wN rfl) (.inr rfl) rfl rfl (lb rfl) fun a S => ?_
      refine leafL (leafT (hK84 _ _ ?_))
      obtain rfl := Option.some.inj h
      have S := S.learn (fRep (rL rB) (.slice none 0 0) ([] : (List Bool))) (rL_nil _ _ _)
      have S := S.learn (fRep r_api_Grid (.agg #[iv 0, iv 0, .slice none 0 0]) (api_Grid.mk 0 0 ([] : (List Bool)))) ⟨_, rfl, S.mem.know (i := 0) (e := fRep (rL rB) (.slice none 0 0) ([] : (List Bool))) rfl⟩
      exact wp_ret (rThen (sRet (.tuple #[.agg #[iv 0, iv 0, .slice none 0 0], iv r63.2]) S (rsl2 rfl (rvN (c := 6) (t := 24) (T := 24) (p := b7) 0 [iv 0, iv 0, .slice none 0 0] S rfl rfl rfl rfl) (rvT (t := 7) (v := iv r63.2) S rfl)) ⟨(.agg #[iv 0, iv 0, .slice none 0 0]), rfl, S.mem.sel [] [0] (by decide) rfl rfl⟩))
    refine sCondF S rfl hc83 ?_
    refine wp_skip (leafT (hK81 _ _ ?_))
    obtain ⟨t86, h, g87⟩ := bindSome h
    refine sCut (fun a w => ∃ o85, o85 = t86 ∧ St [] E [] w0 105 a w [(6, .pointer (some ⟨b7, 0, none⟩)), (10, .pointer (some ⟨b80, 0, none⟩))] [eBox b7 24 [iv 0, iv 0, .slice none 0 0], eBox b80 24 [iv r63.1.W, iv r63.1.H, .slice ad78 o85.length cp79], eRow rB 4 (.slice ad78 o85.length cp79) o85] []) ?_ (fun a w hI => ?_)
    rotate_left
    · obtain ⟨o85, rfl, S⟩ := hI
      have h := g87
      clear g87
      try dsimp only at h
      refine sSeq (fun K128 hK128 => ?_)
      refine sRegion ?_
      refine sLoadN (p := b80) (off := 0) (T := 24) (vs := [iv r63.1.W, iv r63.1.H, .slice ad78 o85.length cp79]) 1 [iv r63.1.W, iv r63.1.H, .slice ad78 o85.length cp79] S (wN rfl) rfl rfl rfl rfl rfl rfl rfl (lb rfl) fun a S => ?_
      refine sStore (p := b7) (off := 0) (T := 24) (vs := [iv 0, iv 0, .slice none 0 0]) (v := .agg #[iv r63.1.W, iv r63.1.H, .slice ad78 o85.length cp79]) 0 [iv r63.1.W, iv r63.1.H, .slice ad78 o85.length cp79] S (wN rfl) rfl rfl rfl rfl rfl rfl rfl (by simp) rfl fun a w S => ?_
      refine sMove (iv 0) S (wN rfl) (.inr rfl) rfl rfl (lb rfl) fun a S => ?_
      refine leafL (leafT (hK128 _ _ ?_))
      obtain rfl := Option.some.inj h
      have S := S.shutR (r := rB) (T := 4) (v := .slice ad78 o85.length cp79) (xs := o85) 2 rfl
      have S := S.learn (fRep r_api_Grid (.agg #[iv r63.1.W, iv r63.1.H, .slice ad78 o85.length cp79]) (api_Grid.mk r63.1.W r63.1.H o85)) ⟨_, rfl, S.mem.know (i := 0) (e := fRep (rL rB) (.slice ad78 o85.length cp79) o85) rfl⟩
      exact wp_ret (sRet (.tuple #[.agg #[iv r63.1.W, iv r63.1.H, .slice ad78 o85.length cp79], iv 0]) S (rsl2 rfl (rvN (c := 6) (t := 24) (T := 24) (p := b7) 0 [iv r63.1.W, iv r63.1.H, .slice ad78 o85.length cp79] S rfl rfl rfl rfl) (rvT (t := 7) (v := iv 0) S rfl)) ⟨(.agg #[iv r63.1.W, iv r63.1.H, .slice ad78 o85.length cp79]), rfl, S.mem.sel [] [0] (by decide) rfl rfl⟩)
    refine sSeq (fun K88 hK88 => ?_)
    refine sRegion ?_
    refine sMove (.slice ad3 p1.length cp4) S (wN rfl) (.inl rfl) rfl rfl (lb rfl) fun a S => ?_
    refine sLen (ad := ad3) (m := p1.length) (c := cp4) S (wN rfl) rfl Try.underlying35 rfl rfl (lb rfl) fun a S => ?_
    refine sMove (iv 0) S (wN rfl) (.inl rfl) rfl rfl (lb rfl) fun a S => ?_
    refine leafL (leafT (hK88 _ _ ?_))
    refine wp_block ?_
    obtain ⟨t93, hl, g92⟩ := bindSome h
    refine sLoop hl (fun s0 a w => match s0 with | (s89, s90) => St [] E [] w0 105 a w [(2, iv p2), (3, .pointer (some ⟨b6, 0, none⟩)), (6, .pointer (some ⟨b7, 0, none⟩)), (10, .pointer (some ⟨b80, 0, none⟩)), (84, .slice ad3 p1.length cp4), (85, iv (p1.length : Int)), (86, iv s89)] [eBox b6 34 [.slice ad1 p0.length cp2], eBox b7 24 [iv 0, iv 0, .slice none 0 0], eBox b80 24 [iv r63.1.W, iv r63.1.H, .slice ad78 s90.length cp79], eRow rB 4 (.slice ad78 s90.length cp79) s90] [fRep (rL (rI .i64)) (.slice ad3 p1.length cp4) p1, fRep (rL r_api_Grid) (.slice ad1 p0.length cp2) p0]) (S.fix [2, 3, 0, 1] [8, 9] (by decide) rfl rfl rfl) ?_
    clear hl h
    intro s0 a w c0 hI h hu91
    obtain ⟨s89, s90⟩ := s0
    unfold block_Join_l1 at h
    dsimp only at h hI
    have S := hI
    refine sSeq (fun K95 hK95 => ?_)
    refine sRegion ?_
    refine sBin (.bool (decide (s89 < (p1.length : Int)))) S (wN rfl) rfl rfl rfl (bLt _ _ _ _ .i64 s89 (p1.length : Int)) rfl (lb rfl) fun a S => ?_
    refine leafL (leafT (hK95 _ _ ?_))
    refine sSeq (fun K96 hK96 => ?_)
    rcases iteSome h with ⟨hc97, h⟩ | ⟨hc97, h⟩
    rotate_left
    · refine sCondF S rfl hc97 ?_
      obtain rfl := Option.some.inj h
      obtain rfl := hu91 _ rfl
      have h := g92
      clear g92
      try dsimp only at h
      exact wp_exit (xThen (xThen (xHit (leafT (⟨s90, Option.some.inj h, S.fix [1, 2, 3] [] (by decide) rfl rfl rfl⟩)))))
    refine sCondT S rfl hc97 ?_
    refine wp_skip (leafT (hK96 _ _ ?_))
    refine sSeq (fun K98 hK98 => ?_)
    refine wp_block ?_
    refine sSeq (fun K99 hK99 => ?_)
    refine sRegion ?_
    refine sMove (iv s89) S (wN rfl) (.inl rfl) rfl rfl (lb rfl) fun a S => ?_
    obtain ⟨x100, hx101, h⟩ := bindSome h
    obtain ⟨q102, hq103, S⟩ := pIdx (P := Try.prog) (r := (rI .i64)) (v := .slice ad3 p1.length cp4) (xs := p1) (j := s89) 35 3 0 S Try.underlying35 rfl rfl hx101
    refine sIdxV (v := .slice ad3 p1.length cp4) (k := .i64) (j := s89) S (wN rfl) rfl rfl rfl hq103 rfl (lb rfl) fun a S => ?_
    obtain ⟨u104, S⟩ := pLoad (r := (rI .i64)) (q := q102) (x := x100) 0 S rfl
    obtain rfl : u104 = iv x100 := S.mem.know (i := 1) (e := fRep (rI .i64) (u104) x100) rfl
    refine sLoadV1 (vq := q102) 0 (iv x100) S (wN rfl) rfl rfl rfl rfl rfl (lb rfl) fun a S => ?_
    refine sMove (iv s89) S (wN rfl) (.inr rfl) rfl rfl (lb rfl) fun a S => ?_
    refine sMove (iv x100) S (wN rfl) (.inr rfl) rfl rfl (lb rfl) fun a S => ?_
    refine leafL (leafT (hK99 _ _ ?_))
    obtain ⟨x105, hx106, h⟩ := bindSome h
    obtain ⟨z114, hx115, h⟩ := bindSome h
    obtain ⟨z116, hx117, h⟩ := bindSome h
    obtain ⟨r118, hx119, h⟩ := bindSome h
    obtain ⟨q120, hq121, S⟩ := pIdx (P := Try.prog) (r := r_api_Grid) (v := .slice ad1 p0.length cp2) (xs := p0) (j := x100) 34 24 4 S Try.underlying34 rfl rfl hx106
    obtain ⟨u122, S⟩ := pLoad (r := r_api_Grid) (q := q120) (x := x105) 0 S rfl
    obtain ⟨u123, rfl, hu124⟩ := S.mem.know (i := 1) (e := fRep r_api_Grid (u122) x105) rfl
    have S := S.learn (fRep (rL rB) u123 x105.Bits) hu124
    obtain ⟨ad125, cp126, _, rfl, _⟩ := hu124
    refine sDraw (nf := [11]) (W := [(0, 91, .agg #[iv r63.1.W, iv r63.1.H, .slice ad78 s90.length cp79]), (1, 92, .slice ad1 p0.length cp2), (2, 93, iv x100), (3, 94, q120), (4, 95, .agg #[iv x105.W, iv x105.H, .slice ad125 x105.Bits.length cp126]), (5, 96, iv s89), (6, 97, iv p2), (7, 98, iv z114), (8, 99, iv s89), (9, 100, iv p2), (10, 101, iv z116)]) rfl S ?_
    refine node_by (A := anc_block_Join_1) (nf := [11]) (Y := []) (W := [(0, 91, .agg #[iv r63.1.W, iv r63.1.H, .slice ad78 s90.length cp79]), (1, 92, .slice ad1 p0.length cp2), (2, 93, iv x100), (3, 94, q120), (4, 95, .agg #[iv x105.W, iv x105.H, .slice ad125 x105.Bits.length cp126]), (5, 96, iv s89), (6, 97, iv p2), (7, 98, iv z114), (8, 99, iv s89), (9, 100, iv p2), (10, 101, iv z116)]) 12 (by kernel_rfl) (by kernel_rfl) (by kernel_rfl) (by kernel_rfl) (by kernel_rfl) [0, 1, 2, 3, 4, 5, 6, 7, 8, 9, 10] (by kernel_rfl) (by decide) (by decide) (aF 0 11 (by decide) ?_ (aF 1 10 (by decide) ?_ (aF 2 9 (by decide) ?_ (aF 3 8 (by decide) ?_ (aF 4 7 (by decide) ?_ (aF 5 6 (by decide) ?_ (aF 6 5 (by decide) ?_ (aF 7 4 (by decide) ?_ (aF 8 3 (by decide) ?_ (aF 9 2 (by decide) ?_ (aF 10 1 (by decide) ?_ (aN 11 0 (by decide) ?_ (trivial))))))))))))) [] (fun q hq => by cases hq) (fun hY => absurd (hY 11 (by decide)) (by decide))
    · refine fI 91 (.agg #[iv r63.1.W, iv r63.1.H, .slice ad78 s90.length cp79]) [(10, .pointer (some ⟨b80, 0, none⟩))] 0 [none] rfl rfl rfl rfl rfl rfl fun G a w S => ?_
      refine sLoadN (p := b80) (off := 0) (T := 24) (vs := [iv r63.1.W, iv r63.1.H, .slice ad78 s90.length cp79]) 2 [iv r63.1.W, iv r63.1.H, .slice ad78 s90.length cp79] S (wN rfl) rfl rfl rfl rfl rfl rfl rfl (lb rfl) fun a S => ?_
      exact leafL ⟨rfl, S⟩
    · refine fI 92 (.slice ad1 p0.length cp2) [(3, .pointer (some ⟨b6, 0, none⟩))] 1 [none] rfl rfl rfl rfl rfl rfl fun G a w S => ?_
      refine sLoad1 (p := b6) (off := 0) (T := 34) (vs := [.slice ad1 p0.length cp2]) 0 (.slice ad1 p0.length cp2) S (wN rfl) rfl rfl rfl rfl rfl rfl (lb rfl) fun a S => ?_
      exact leafL ⟨rfl, S⟩
    · refine fI 93 (iv x100) [(13, iv x100)] 2 [none] rfl rfl rfl rfl rfl rfl fun G a w S => ?_
      refine sMove (iv x100) S (wN rfl) (.inl rfl) rfl rfl (lb rfl) fun a S => ?_
      exact leafL ⟨rfl, S⟩
    · refine fI 94 q120 [(92, .slice ad1 p0.length cp2), (93, iv x100)] 3 [some 1, some 2] rfl rfl rfl rfl rfl rfl fun G a w S => ?_
      refine sIdxV (v := .slice ad1 p0.length cp2) (k := .i64) (j := x100) S (wN rfl) rfl rfl rfl hq121 rfl (lb rfl) fun a S => ?_
      exact leafL ⟨rfl, S⟩
    · refine fI 95 (.agg #[iv x105.W, iv x105.H, .slice ad125 x105.Bits.length cp126]) [(94, q120)] 4 [some 3] rfl rfl rfl rfl rfl rfl fun G a w S => ?_
      refine sLoadVN (vq := q120) 1 [iv x105.W, iv x105.H, .slice ad125 x105.Bits.length cp126] S (wN rfl) rfl rfl rfl rfl rfl rfl (lb rfl) fun a S => ?_
      exact leafL ⟨rfl, S⟩
    · refine fI 96 (iv s89) [(12, iv s89)] 5 [none] rfl rfl rfl rfl rfl rfl fun G a w S => ?_
      refine sMove (iv s89) S (wN rfl) (.inl rfl) rfl rfl (lb rfl) fun a S => ?_
      exact leafL ⟨rfl, S⟩
    · refine fI 97 (iv p2) [(2, iv p2)] 6 [none] rfl rfl rfl rfl rfl rfl fun G a w S => ?_
      refine sMove (iv p2) S (wN rfl) (.inl rfl) rfl rfl (lb rfl) fun a S => ?_
      exact leafL ⟨rfl, S⟩
    · refine fI 98 (iv z114) [(96, iv s89), (97, iv p2)] 7 [some 5, some 6] rfl rfl rfl rfl rfl rfl fun G a w S => ?_
      refine sBin (iv z114) S (wN rfl) rfl rfl rfl (bRem _ _ _ _ (x := s89) (y := p2) hx115) rfl (lb rfl) fun a S => ?_
      exact leafL ⟨rfl, S⟩
    · refine fI 99 (iv s89) [(12, iv s89)] 8 [none] rfl rfl rfl rfl rfl rfl fun G a w S => ?_
      refine sMove (iv s89) S (wN rfl) (.inl rfl) rfl rfl (lb rfl) fun a S => ?_
      exact leafL ⟨rfl, S⟩
    · refine fI 100 (iv p2) [(2, iv p2)] 9 [none] rfl rfl rfl rfl rfl rfl fun G a w S => ?_
      refine sMove (iv p2) S (wN rfl) (.inl rfl) rfl rfl (lb rfl) fun a S => ?_
      exact leafL ⟨rfl, S⟩
    · refine fI 101 (iv z116) [(99, iv s89), (100, iv p2)] 10 [some 8, some 9] rfl rfl rfl rfl rfl rfl fun G a w S => ?_
      refine sBin (iv z116) S (wN rfl) rfl rfl rfl (bQuo _ _ _ _ (x := s89) (y := p2) hx117) rfl (lb rfl) fun a S => ?_
      exact leafL ⟨rfl, S⟩
    refine ⟨_, [(91, .agg #[iv r63.1.W, iv r63.1.H, .slice ad78 s90.length cp79]), (95, .agg #[iv x105.W, iv x105.H, .slice ad125 x105.Bits.length cp126]), (98, iv z114), (101, iv z116)], rfl, (srcs_of [some 0, some 4, some 7, some 10] rfl rfl rfl), fun G a w S => ?_⟩
    refine sCall (X := Unit) (f := 44) (vs := [.agg #[iv r63.1.W, iv r63.1.H, .slice ad78 s90.length cp79], .agg #[iv x105.W, iv x105.H, .slice ad125 x105.Bits.length cp126], iv z114, iv z116]) (val := fun _ => .tuple #[]) (B' := fun _ => [eRow rB 4 (.slice ad78 s90.length cp79) r118]) (D' := fun _ => []) [eRow rB 4 (.slice ad78 s90.length cp79) s90] [eBox b6 34 [.slice ad1 p0.length cp2], eBox b7 24 [iv 0, iv 0, .slice none 0 0], eBox b80 24 [iv r63.1.W, iv r63.1.H, .slice ad78 s90.length cp79]] [fRep r_api_Grid (.agg #[iv x105.W, iv x105.H, .slice ad125 x105.Bits.length cp126]) x105] [3, 0, 1, 2] [2] S (wN rfl) rfl callee44 rfl (by decide) rfl rfl (fun E1 w1 S1 => c_block_put_s0 E1 w1 r63.1.W r63.1.H s90 ad78 cp79 x105 (.agg #[iv x105.W, iv x105.H, .slice ad125 x105.Bits.length cp126]) z114 z116 r118 hx119 S1) rfl (lb rfl) fun _ a w S => ?_
    refine leafL ⟨rfl, _, _, .inl ⟨102, (.tuple #[]), [], rfl, S, hz_of rfl, ?_⟩⟩
    refine node_by (A := anc_block_Join_1) (nf := [11]) (Y := [11]) 12 (by kernel_rfl) (by kernel_rfl) (by kernel_rfl) (by kernel_rfl) (by kernel_rfl) [11, 0, 1, 2, 3, 4, 5, 6, 7, 8, 9, 10] (by kernel_rfl) (by decide) (by decide) (aD 0 11 11 (by decide) (aD 1 10 11 (by decide) (aD 2 9 11 (by decide) (aD 3 8 11 (by decide) (aD 4 7 11 (by decide) (aD 5 6 11 (by decide) (aD 6 5 11 (by decide) (aD 7 4 11 (by decide) (aD 8 3 11 (by decide) (aD 9 2 11 (by decide) (aD 10 1 11 (by decide) (aY 11 0 (by decide) (trivial))))))))))))) [(2, iv p2), (3, .pointer (some ⟨b6, 0, none⟩)), (6, .pointer (some ⟨b7, 0, none⟩)), (10, .pointer (some ⟨b80, 0, none⟩)), (84, .slice ad3 p1.length cp4), (85, iv (p1.length : Int)), (86, iv s89)] (fin_of [none, none, none, none, none, none, none] rfl (by kernel_rfl) (by kernel_rfl)) (fun _ a w S => ?_)
    have hr127 := row_v (S.mem.hold (i := 0) (e := eRow rB 4 (.slice ad78 s90.length cp79) r118) rfl)
    rw [hr127] at S
    refine leafB (leafT (hK98 _ _ ?_))
    refine sRegion ?_
    refine sBin (iv (w64 (s89 + 1))) S (wN rfl) rfl rfl rfl (bAdd _ _ _ _ s89 1) rfl (lb rfl) fun a S => ?_
    refine sMove (iv (w64 (s89 + 1))) S (wN rfl) (.inl rfl) rfl rfl (lb rfl) fun a S => ?_
    exact leafL (leafT (⟨(w64 (s89 + 1), r118), (Option.some.inj h).symm, (S.fix [1, 2, 3, 0] [7, 8] (by decide) rfl rfl rfl)⟩))
  refine node_by (A := anc_block_Join_0) (nf := [15, 19, 20]) (Y := []) (W := [(0, 62, iv p2), (1, 63, .slice ad1 p0.length cp2), (2, 64, q68), (3, 65, q70), (4, 66, iv x49.W), (5, 67, iv (w64 (p2 * x49.W))), (6, 68, .slice ad3 p1.length cp4), (7, 69, iv (p1.length : Int)), (8, 70, iv p2), (9, 71, iv z56), (10, 72, .slice ad1 p0.length cp2), (11, 73, q73), (12, 74, q75), (13, 75, iv x49.H), (14, 76, iv (w64 (z56 * x49.H)))]) 22 (by kernel_rfl) (by kernel_rfl) (by kernel_rfl) (by kernel_rfl) (by kernel_rfl) [0, 1, 2, 3, 4, 5, 6, 7, 8, 9, 10, 11, 12, 13, 14] (by kernel_rfl) (by decide) (by decide) (aF 0 21 (by decide) ?_ (aF 1 20 (by decide) ?_ (aF 2 19 (by decide) ?_ (aF 3 18 (by decide) ?_ (aF 4 17 (by decide) ?_ (aF 5 16 (by decide) ?_ (aF 6 15 (by decide) ?_ (aF 7 14 (by decide) ?_ (aF 8 13 (by decide) ?_ (aF 9 12 (by decide) ?_ (aF 10 11 (by decide) ?_ (aF 11 10 (by decide) ?_ (aF 12 9 (by decide) ?_ (aF 13 8 (by decide) ?_ (aF 14 7 (by decide) ?_ (aN 15 6 (by decide) ?_ (aE 16 5 15 (by decide) (aE 17 4 15 (by decide) (aE 18 3 15 (by decide) (aN 19 2 (by decide) ?_ (aB 20 1 15 (by decide) (aE 21 0 15 (by decide) (trivial))))))))))))))))))))))) [] (fun q hq => by cases hq) (fun hY => absurd (hY 15 (by decide)) (by decide))
  · refine fI 62 (iv p2) [(2, iv p2)] 0 [none] rfl rfl rfl rfl rfl rfl fun G a w S => ?_
    refine sMove (iv p2) S (wN rfl) (.inl rfl) rfl rfl (lb rfl) fun a S => ?_
    exact leafL ⟨rfl, S⟩
  · refine fI 63 (.slice ad1 p0.length cp2) [(3, .pointer (some ⟨b6, 0, none⟩))] 1 [none] rfl rfl rfl rfl rfl rfl fun G a w S => ?_
    refine sLoad1 (p := b6) (off := 0) (T := 34) (vs := [.slice ad1 p0.length cp2]) 0 (.slice ad1 p0.length cp2) S (wN rfl) rfl rfl rfl rfl rfl rfl (lb rfl) fun a S => ?_
    exact leafL ⟨rfl, S⟩
  · refine fI 64 q68 [(63, .slice ad1 p0.length cp2)] 2 [some 1] rfl rfl rfl rfl rfl rfl fun G a w S => ?_
    refine sIdxV (v := .slice ad1 p0.length cp2) (k := .i64) (j := 0) S (wN rfl) rfl rfl rfl hq69 rfl (lb rfl) fun a S => ?_
    exact leafL ⟨rfl, S⟩
  · refine fI 65 q70 [(64, q68)] 3 [some 2] rfl rfl rfl rfl rfl rfl fun G a w S => ?_
    refine sFldV (q := q68) S (wN rfl) rfl rfl hq71 rfl (lb rfl) fun a S => ?_
    exact leafL ⟨rfl, S⟩
  · refine fI 66 (iv x49.W) [(65, q70)] 4 [some 3] rfl rfl rfl rfl rfl rfl fun G a w S => ?_
    refine sLoadV1 (vq := q70) 4 (iv x49.W) S (wN rfl) rfl rfl rfl rfl rfl (lb rfl) fun a S => ?_
    exact leafL ⟨rfl, S⟩
  · refine fI 67 (iv (w64 (p2 * x49.W))) [(62, iv p2), (66, iv x49.W)] 5 [some 0, some 4] rfl rfl rfl rfl rfl rfl fun G a w S => ?_
    refine sBin (iv (w64 (p2 * x49.W))) S (wN rfl) rfl rfl rfl (bMul _ _ _ _ p2 x49.W) rfl (lb rfl) fun a S => ?_
    exact leafL ⟨rfl, S⟩
  · refine fI 68 (.slice ad3 p1.length cp4) [(1, .slice ad3 p1.length cp4)] 6 [none] rfl rfl rfl rfl rfl rfl fun G a w S => ?_
    refine sMove (.slice ad3 p1.length cp4) S (wN rfl) (.inl rfl) rfl rfl (lb rfl) fun a S => ?_
    exact leafL ⟨rfl, S⟩
  · refine fI 69 (iv (p1.length : Int)) [(68, .slice ad3 p1.length cp4)] 7 [some 6] rfl rfl rfl rfl rfl rfl fun G a w S => ?_
    refine sLen (ad := ad3) (m := p1.length) (c := cp4) S (wN rfl) rfl Try.underlying35 rfl rfl (lb rfl) fun a S => ?_
    exact leafL ⟨rfl, S⟩
  · refine fI 70 (iv p2) [(2, iv p2)] 8 [none] rfl rfl rfl rfl rfl rfl fun G a w S => ?_
    refine sMove (iv p2) S (wN rfl) (.inl rfl) rfl rfl (lb rfl) fun a S => ?_
    exact leafL ⟨rfl, S⟩
  · refine fI 71 (iv z56) [(69, iv (p1.length : Int)), (70, iv p2)] 9 [some 7, some 8] rfl rfl rfl rfl rfl rfl fun G a w S => ?_
    refine sBin (iv z56) S (wN rfl) rfl rfl rfl (bQuo _ _ _ _ (x := (p1.length : Int)) (y := p2) hx57) rfl (lb rfl) fun a S => ?_
    exact leafL ⟨rfl, S⟩
  · refine fI 72 (.slice ad1 p0.length cp2) [(3, .pointer (some ⟨b6, 0, none⟩))] 10 [none] rfl rfl rfl rfl rfl rfl fun G a w S => ?_
    refine sLoad1 (p := b6) (off := 0) (T := 34) (vs := [.slice ad1 p0.length cp2]) 0 (.slice ad1 p0.length cp2) S (wN rfl) rfl rfl rfl rfl rfl rfl (lb rfl) fun a S => ?_
    exact leafL ⟨rfl, S⟩
  · refine fI 73 q73 [(72, .slice ad1 p0.length cp2)] 11 [some 10] rfl rfl rfl rfl rfl rfl fun G a w S => ?_
    refine sIdxV (v := .slice ad1 p0.length cp2) (k := .i64) (j := 0) S (wN rfl) rfl rfl rfl hq74 rfl (lb rfl) fun a S => ?_
    exact leafL ⟨rfl, S⟩
  · refine fI 74 q75 [(73, q73)] 12 [some 11] rfl rfl rfl rfl rfl rfl fun G a w S => ?_
    refine sFldV (q := q73) S (wN rfl) rfl rfl hq76 rfl (lb rfl) fun a S => ?_
    exact leafL ⟨rfl, S⟩
  · refine fI 75 (iv x49.H) [(74, q75)] 13 [some 12] rfl rfl rfl rfl rfl rfl fun G a w S => ?_
    refine sLoadV1 (vq := q75) 0 (iv x49.H) S (wN rfl) rfl rfl rfl rfl rfl (lb rfl) fun a S => ?_
    exact leafL ⟨rfl, S⟩
  · refine fI 76 (iv (w64 (z56 * x49.H))) [(71, iv z56), (75, iv x49.H)] 14 [some 9, some 13] rfl rfl rfl rfl rfl rfl fun G a w S => ?_
    refine sBin (iv (w64 (z56 * x49.H))) S (wN rfl) rfl rfl rfl (bMul _ _ _ _ z56 x49.H) rfl (lb rfl) fun a S => ?_
    exact leafL ⟨rfl, S⟩
  · refine ⟨_, [(67, iv (w64 (p2 * x49.W))), (76, iv (w64 (z56 * x49.H)))], rfl, (srcs_of [some 5, some 14] rfl rfl rfl), fun G a w S => ?_⟩
    refine sCall (X := Option Addr × Nat) (f := 43) (vs := [iv (w64 (p2 * x49.W)), iv (w64 (z56 * x49.H))]) (val := fun x => .tuple #[.agg #[iv r63.1.W, iv r63.1.H, .slice x.1 r63.1.Bits.length x.2], iv r63.2]) (B' := fun x => [eRow rB 4 (.slice x.1 r63.1.Bits.length x.2) r63.1.Bits]) (D' := fun _ => []) [] [eBox b6 34 [.slice ad1 p0.length cp2], eBox b7 24 [iv 0, iv 0, .slice none 0 0]] [] [0, 1] [] S (wN rfl) rfl callee43 rfl (by decide) rfl rfl (fun E1 w1 S1 => c_block_zero_s0 E1 w1 (w64 (p2 * x49.W)) (w64 (z56 * x49.H)) r63 hx64 S1) rfl (lb rfl) fun xx a w S => ?_
    obtain ⟨ad78, cp79⟩ := xx
    dsimp only at S
    refine leafL ⟨rfl, _, _, .inl ⟨77, (.tuple #[.agg #[iv r63.1.W, iv r63.1.H, .slice ad78 r63.1.Bits.length cp79], iv r63.2]), [(16, 61, .tuple #[.agg #[iv r63.1.W, iv r63.1.H, .slice ad78 r63.1.Bits.length cp79], iv r63.2]), (17, 78, .agg #[iv r63.1.W, iv r63.1.H, .slice ad78 r63.1.Bits.length cp79]), (18, 79, iv r63.2)], rfl, S, hz_of rfl, ?_⟩⟩
    refine node_by (A := anc_block_Join_0) (nf := [15, 19, 20]) (Y := [15]) 22 (by kernel_rfl) (by kernel_rfl) (by kernel_rfl) (by kernel_rfl) (by kernel_rfl) [16, 17, 18, 15, 0, 1, 2, 3, 4, 5, 6, 7, 8, 9, 10, 11, 12, 13, 14] (by kernel_rfl) (by decide) (by decide) (aD 0 21 15 (by decide) (aD 1 20 15 (by decide) (aD 2 19 15 (by decide) (aD 3 18 15 (by decide) (aD 4 17 15 (by decide) (aD 5 16 15 (by decide) (aD 6 15 15 (by decide) (aD 7 14 15 (by decide) (aD 8 13 15 (by decide) (aD 9 12 15 (by decide) (aD 10 11 15 (by decide) (aD 11 10 15 (by decide) (aD 12 9 15 (by decide) (aD 13 8 15 (by decide) (aD 14 7 15 (by decide) (aY 15 6 (by decide) (aF 16 5 (by decide) ?_ (aF 17 4 (by decide) ?_ (aF 18 3 (by decide) ?_ (aN 19 2 (by decide) ?_ (aB 20 1 19 (by decide) (aE 21 0 19 (by decide) (trivial))))))))))))))))))))))) [] (fun q hq => by cases hq) (fun hY => absurd (hY 19 (by decide)) (by decide))
    · refine fI 61 (.tuple #[.agg #[iv r63.1.W, iv r63.1.H, .slice ad78 r63.1.Bits.length cp79], iv r63.2]) [(77, .tuple #[.agg #[iv r63.1.W, iv r63.1.H, .slice ad78 r63.1.Bits.length cp79], iv r63.2])] 0 [some 3] rfl rfl rfl rfl rfl rfl fun G a w S => ?_
      refine sMove (.tuple #[.agg #[iv r63.1.W, iv r63.1.H, .slice ad78 r63.1.Bits.length cp79], iv r63.2]) S (wN rfl) (.inl rfl) rfl rfl (lb rfl) fun a S => ?_
      exact leafL ⟨rfl, S⟩
    · refine fI 78 (.agg #[iv r63.1.W, iv r63.1.H, .slice ad78 r63.1.Bits.length cp79]) [(61, .tuple #[.agg #[iv r63.1.W, iv r63.1.H, .slice ad78 r63.1.Bits.length cp79], iv r63.2])] 1 [some 0] rfl rfl rfl rfl rfl rfl fun G a w S => ?_
      refine sExtract (vs := [.agg #[iv r63.1.W, iv r63.1.H, .slice ad78 r63.1.Bits.length cp79], iv r63.2]) (.agg #[iv r63.1.W, iv r63.1.H, .slice ad78 r63.1.Bits.length cp79]) S (wN rfl) rfl rfl rfl rfl (lb rfl) fun a S => ?_
      exact leafL ⟨rfl, S⟩
    · refine fI 79 (iv r63.2) [(61, .tuple #[.agg #[iv r63.1.W, iv r63.1.H, .slice ad78 r63.1.Bits.length cp79], iv r63.2])] 2 [some 0] rfl rfl rfl rfl rfl rfl fun G a w S => ?_
      refine sExtract (vs := [.agg #[iv r63.1.W, iv r63.1.H, .slice ad78 r63.1.Bits.length cp79], iv r63.2]) (iv r63.2) S (wN rfl) rfl rfl rfl rfl (lb rfl) fun a S => ?_
      exact leafL ⟨rfl, S⟩
    refine ⟨_, [], rfl, (srcs_of [] rfl rfl rfl), fun G a w S => ?_⟩
    refine sAlloc (.agg #[iv 0, iv 0, .slice none 0 0]) S (wN rfl) rfl rfl [iv 0, iv 0, .slice none 0 0] rfl rfl (lb rfl) fun a b80 w S => ?_
    refine leafL ⟨rfl, _, _, .inl ⟨10, (.pointer (some ⟨b80, 0, none⟩)), [], rfl, S, hz_of rfl, ?_⟩⟩
    exact nd1 b80 ad78 cp79
  refine ⟨_, [], rfl, (srcs_of [] rfl rfl rfl), fun G a w S => ?_⟩
  refine sAlloc (.agg #[iv 0, iv 0, .slice none 0 0]) S (wN rfl) rfl rfl [iv 0, iv 0, .slice none 0 0] rfl rfl (lb rfl) fun a b129 w S => ?_
  refine leafL ⟨rfl, _, _, .inl ⟨10, (.pointer (some ⟨b129, 0, none⟩)), [], rfl, S, hz_of rfl, ?_⟩⟩
  refine node_by (A := anc_block_Join_0) (nf := [15, 19, 20]) (Y := [19]) 22 (by kernel_rfl) (by kernel_rfl) (by kernel_rfl) (by kernel_rfl) (by kernel_rfl) [19, 0, 1, 2, 3, 4, 5, 6, 7, 8, 9, 10, 11, 12, 13, 14] (by kernel_rfl) (by decide) (by decide) (aF 0 21 (by decide) ?_ (aF 1 20 (by decide) ?_ (aF 2 19 (by decide) ?_ (aF 3 18 (by decide) ?_ (aF 4 17 (by decide) ?_ (aF 5 16 (by decide) ?_ (aF 6 15 (by decide) ?_ (aF 7 14 (by decide) ?_ (aF 8 13 (by decide) ?_ (aF 9 12 (by decide) ?_ (aF 10 11 (by decide) ?_ (aF 11 10 (by decide) ?_ (aF 12 9 (by decide) ?_ (aF 13 8 (by decide) ?_ (aF 14 7 (by decide) ?_ (aN 15 6 (by decide) ?_ (aE 16 5 15 (by decide) (aE 17 4 15 (by decide) (aE 18 3 15 (by decide) (aY 19 2 (by decide) (aB 20 1 15 (by decide) (aE 21 0 15 (by decide) (trivial))))))))))))))))))))))) [] (fun q hq => by cases hq) (fun hY => absurd (hY 15 (by decide)) (by decide))
  · refine fI 62 (iv p2) [(2, iv p2)] 1 [none] rfl rfl rfl rfl rfl rfl fun G a w S => ?_
    refine sMove (iv p2) S (wN rfl) (.inl rfl) rfl rfl (lb rfl) fun a S => ?_
    exact leafL ⟨rfl, S⟩
  · refine fI 63 (.slice ad1 p0.length cp2) [(3, .pointer (some ⟨b6, 0, none⟩))] 2 [none] rfl rfl rfl rfl rfl rfl fun G a w S => ?_
    refine sLoad1 (p := b6) (off := 0) (T := 34) (vs := [.slice ad1 p0.length cp2]) 1 (.slice ad1 p0.length cp2) S (wN rfl) rfl rfl rfl rfl rfl rfl (lb rfl) fun a S => ?_
    exact leafL ⟨rfl, S⟩
  · refine fI 64 q68 [(63, .slice ad1 p0.length cp2)] 3 [some 2] rfl rfl rfl rfl rfl rfl fun G a w S => ?_
    refine sIdxV (v := .slice ad1 p0.length cp2) (k := .i64) (j := 0) S (wN rfl) rfl rfl rfl hq69 rfl (lb rfl) fun a S => ?_
    exact leafL ⟨rfl, S⟩
  · refine fI 65 q70 [(64, q68)] 4 [some 3] rfl rfl rfl rfl rfl rfl fun G a w S => ?_
    refine sFldV (q := q68) S (wN rfl) rfl rfl hq71 rfl (lb rfl) fun a S => ?_
    exact leafL ⟨rfl, S⟩
  · refine fI 66 (iv x49.W) [(65, q70)] 5 [some 4] rfl rfl rfl rfl rfl rfl fun G a w S => ?_
    refine sLoadV1 (vq := q70) 4 (iv x49.W) S (wN rfl) rfl rfl rfl rfl rfl (lb rfl) fun a S => ?_
    exact leafL ⟨rfl, S⟩
  · refine fI 67 (iv (w64 (p2 * x49.W))) [(62, iv p2), (66, iv x49.W)] 6 [some 1, some 5] rfl rfl rfl rfl rfl rfl fun G a w S => ?_
    refine sBin (iv (w64 (p2 * x49.W))) S (wN rfl) rfl rfl rfl (bMul _ _ _ _ p2 x49.W) rfl (lb rfl) fun a S => ?_
    exact leafL ⟨rfl, S⟩
  · refine fI 68 (.slice ad3 p1.length cp4) [(1, .slice ad3 p1.length cp4)] 7 [none] rfl rfl rfl rfl rfl rfl fun G a w S => ?_
    refine sMove (.slice ad3 p1.length cp4) S (wN rfl) (.inl rfl) rfl rfl (lb rfl) fun a S => ?_
    exact leafL ⟨rfl, S⟩
  · refine fI 69 (iv (p1.length : Int)) [(68, .slice ad3 p1.length cp4)] 8 [some 7] rfl rfl rfl rfl rfl rfl fun G a w S => ?_
    refine sLen (ad := ad3) (m := p1.length) (c := cp4) S (wN rfl) rfl Try.underlying35 rfl rfl (lb rfl) fun a S => ?_
    exact leafL ⟨rfl, S⟩
  · refine fI 70 (iv p2) [(2, iv p2)] 9 [none] rfl rfl rfl rfl rfl rfl fun G a w S => ?_
    refine sMove (iv p2) S (wN rfl) (.inl rfl) rfl rfl (lb rfl) fun a S => ?_
    exact leafL ⟨rfl, S⟩
  · refine fI 71 (iv z56) [(69, iv (p1.length : Int)), (70, iv p2)] 10 [some 8, some 9] rfl rfl rfl rfl rfl rfl fun G a w S => ?_
    refine sBin (iv z56) S (wN rfl) rfl rfl rfl (bQuo _ _ _ _ (x := (p1.length : Int)) (y := p2) hx57) rfl (lb rfl) fun a S => ?_
    exact leafL ⟨rfl, S⟩
  · refine fI 72 (.slice ad1 p0.length cp2) [(3, .pointer (some ⟨b6, 0, none⟩))] 11 [none] rfl rfl rfl rfl rfl rfl fun G a w S => ?_
    refine sLoad1 (p := b6) (off := 0) (T := 34) (vs := [.slice ad1 p0.length cp2]) 1 (.slice ad1 p0.length cp2) S (wN rfl) rfl rfl rfl rfl rfl rfl (lb rfl) fun a S => ?_
    exact leafL ⟨rfl, S⟩
  · refine fI 73 q73 [(72, .slice ad1 p0.length cp2)] 12 [some 11] rfl rfl rfl rfl rfl rfl fun G a w S => ?_
    refine sIdxV (v := .slice ad1 p0.length cp2) (k := .i64) (j := 0) S (wN rfl) rfl rfl rfl hq74 rfl (lb rfl) fun a S => ?_
    exact leafL ⟨rfl, S⟩
  · refine fI 74 q75 [(73, q73)] 13 [some 12] rfl rfl rfl rfl rfl rfl fun G a w S => ?_
    refine sFldV (q := q73) S (wN rfl) rfl rfl hq76 rfl (lb rfl) fun a S => ?_
    exact leafL ⟨rfl, S⟩
  · refine fI 75 (iv x49.H) [(74, q75)] 14 [some 13] rfl rfl rfl rfl rfl rfl fun G a w S => ?_
    refine sLoadV1 (vq := q75) 0 (iv x49.H) S (wN rfl) rfl rfl rfl rfl rfl (lb rfl) fun a S => ?_
    exact leafL ⟨rfl, S⟩
  · refine fI 76 (iv (w64 (z56 * x49.H))) [(71, iv z56), (75, iv x49.H)] 15 [some 10, some 14] rfl rfl rfl rfl rfl rfl fun G a w S => ?_
    refine sBin (iv (w64 (z56 * x49.H))) S (wN rfl) rfl rfl rfl (bMul _ _ _ _ z56 x49.H) rfl (lb rfl) fun a S => ?_
    exact leafL ⟨rfl, S⟩
  refine ⟨_, [(67, iv (w64 (p2 * x49.W))), (76, iv (w64 (z56 * x49.H)))], rfl, (srcs_of [some 6, some 15] rfl rfl rfl), fun G a w S => ?_⟩
  refine sCall (X := Option Addr × Nat) (f := 43) (vs := [iv (w64 (p2 * x49.W)), iv (w64 (z56 * x49.H))]) (val := fun x => .tuple #[.agg #[iv r63.1.W, iv r63.1.H, .slice x.1 r63.1.Bits.length x.2], iv r63.2]) (B' := fun x => [eRow rB 4 (.slice x.1 r63.1.Bits.length x.2) r63.1.Bits]) (D' := fun _ => []) [] [eBox b129 24 [iv 0, iv 0, .slice none 0 0], eBox b6 34 [.slice ad1 p0.length cp2], eBox b7 24 [iv 0, iv 0, .slice none 0 0]] [] [0, 1, 2] [] S (wN rfl) rfl callee43 rfl (by decide) rfl rfl (fun E1 w1 S1 => c_block_zero_s0 E1 w1 (w64 (p2 * x49.W)) (w64 (z56 * x49.H)) r63 hx64 S1) rfl (lb rfl) fun xx a w S => ?_
  obtain ⟨ad130, cp131⟩ := xx
  dsimp only at S
  refine leafL ⟨rfl, _, _, .inl ⟨77, (.tuple #[.agg #[iv r63.1.W, iv r63.1.H, .slice ad130 r63.1.Bits.length cp131], iv r63.2]), [(16, 61, .tuple #[.agg #[iv r63.1.W, iv r63.1.H, .slice ad130 r63.1.Bits.length cp131], iv r63.2]), (17, 78, .agg #[iv r63.1.W, iv r63.1.H, .slice ad130 r63.1.Bits.length cp131]), (18, 79, iv r63.2)], rfl, S, hz_of rfl, ?_⟩⟩
  exact nodePerm (nd1 b129 ad130 cp131) [4, 0, 1, 2, 3, 5, 6, 7, 8, 9, 10, 11, 12, 13, 14, 15, 16, 17, 18, 19] [1, 0, 2, 3] [0, 1, 2, 3, 4, 5, 6, 7, 8, 9] (by decide) (by decide) rfl rfl rfl

end Go.Proofs.Ythfifeabomdlpaa
