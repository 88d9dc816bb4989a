/- Several texts in one: G63 G41 G42 G43s0 G44s0 G13 G40s0 G53 G69 G45 G46 G47s0 G14 G70 G48 G49 G15 G17 G50s0 G16 G3 PlGd PlBk G18 G52s0 G51s0 -/
import Derived.WalkKit
import Derived.Maps.AppendAt
import Derived.Deep.AppendLies
import Derived.KernelRfl
import Derived.Laws.OwnMore
import Derived.Great.BuildSlice
import Derived.Orders
import Derived.Laws.StructEq
import Derived.ChangeKeysEq
import Derived.Defers
import Derived.Laws.BytesString
import Derived.RangeFuncNested
import Derived.RangeFuncBound
import Derived.RangeFuncCalls
import Derived.RangeFuncLeaves
import Derived.OrdersIn
import Derived.LoopNIn
import Derived.ArgAppend
import Derived.Test.YthfifeabomdlpaaProg
import Derived.ProofKit
import Derived.OpenShut
import Derived.ChangeOld
import Derived.Deep.Slices
import Derived.Lib.SmallJoins
import Derived.JoinedOf
import Derived.JoinedAt
import Derived.Below
import Derived.Test.YthfifeabomdlpaaRows
import Derived.Test.YthfifeabomdlpaaMBlockParts1
namespace Go.Proofs.Ythfifeabomdlpaa
open Go.RowKit
set_option linter.unusedVariables false

noncomputable def F_grid_Check (p0 : api_Grid) : Option Int :=
  if decide (64 < (if p0.W < p0.H then p0.H else p0.W)) then
    some 4
  else
    Option.bind (α := Bool) (
      if decide ((if p0.H < p0.W then p0.H else p0.W) < 1) then
        some true
      else
        some ((p0.Bits.length : Int) != (w64 (p0.W * p0.H)))) fun o11 =>
    if o11 then
      some 8
    else
      some 0
set_option maxHeartbeats 4000000 in
set_option maxRecDepth 100000 in
theorem c_grid_Check (E : Nat → Prop) (w0 : World) (p0 : api_Grid) (v0 : Value) (r : Int) (h : F_grid_Check p0 = some r) (S : St0 E [] w0 w0 [] [fRep r_api_Grid (v0) p0]) :
    Calls Try.prog 63 #[v0] w0 (Ret (X := Unit) E [] w0 (fun _ => .int .i64 r) (fun _ => []) (fun _ => [])) := by
  unfold F_grid_Check at h
  obtain ⟨u1, rfl, hu2⟩ := S.know (i := 0) (e := fRep r_api_Grid (v0) p0) rfl
  have S := S.learn (fRep (rL rB) u1 p0.Bits) hu2
  obtain ⟨ad3, cp4, _, rfl, _⟩ := hu2
  refine sEnter (args := [.agg #[iv p0.W, iv p0.H, .slice ad3 p0.Bits.length cp4]]) 28 Try.func63 rfl rfl (by simp) S (fun a S => ?_)
  refine sSeq (fun K5 hK5 => ?_)
  refine sRegion ?_
  refine sBox (v := .agg #[iv p0.W, iv p0.H, .slice ad3 p0.Bits.length cp4]) S (wN rfl) rfl rfl [iv p0.W, iv p0.H, .slice ad3 p0.Bits.length cp4] rfl rfl (lb rfl) fun a b6 w S => ?_
  refine sMove (iv 0) S (wN rfl) (.inr rfl) rfl rfl (lb rfl) fun a S => ?_
  refine leafL (leafT (hK5 _ _ ?_))
  refine sSeq (fun K7 hK7 => ?_)
  refine wp_block ?_
  refine sSeq (fun K8 hK8 => ?_)
  refine sRegion ?_
  refine sField (b := b6) (off := 0) 0 0 S (wN rfl) rfl rfl rfl rfl rfl (lb rfl) fun a S => ?_
  refine sLoad1 (p := b6) (off := 0) (T := 24) (vs := [iv p0.W, iv p0.H, .slice ad3 p0.Bits.length cp4]) 0 (iv p0.W) S (wN rfl) rfl rfl rfl rfl rfl rfl (lb rfl) fun a S => ?_
  refine sField (b := b6) (off := 0) 1 1 S (wN rfl) rfl rfl rfl rfl rfl (lb rfl) fun a S => ?_
  refine sLoad1 (p := b6) (off := 1) (T := 24) (vs := [iv p0.W, iv p0.H, .slice ad3 p0.Bits.length cp4]) 0 (iv p0.H) S (wN rfl) rfl rfl rfl rfl rfl rfl (lb rfl) fun a S => ?_
  refine sMax2 (p := p0.W) (q := p0.H) S (wN rfl) rfl rfl rfl rfl (lb rfl) fun a S => ?_
  refine sBin (.bool (decide (64 < (if p0.W < p0.H then p0.H else p0.W)))) S (wN rfl) rfl rfl rfl (bGt _ _ _ _ .i64 (if p0.W < p0.H then p0.H else p0.W) 64) rfl (lb rfl) fun a S => ?_
  refine sMove (.bool (decide (64 < (if p0.W < p0.H then p0.H else p0.W)))) S (wN rfl) (.inr rfl) rfl rfl (lb rfl) fun a S => ?_
  refine leafL (leafT (hK8 _ _ ?_))
  rcases iteSome h with ⟨hc9, h⟩ | ⟨hc9, h⟩
  · refine sCondT S rfl hc9 ?_
    refine sSeq (fun K10 hK10 => ?_)
    refine sRegion ?_
    refine sMove (iv 4) S (wN rfl) (.inr rfl) rfl rfl (lb rfl) fun a S => ?_
    refine leafL (leafT (hK10 _ _ ?_))
    obtain rfl := Option.some.inj h
    exact wp_ret (rBlock (rThen (sRet (iv 4) S (rsl1 rfl (rvT (t := 2) (v := iv 4) S rfl)) ⟨(), rfl, S.mem.sel [] [] (by decide) rfl rfl⟩)))
  refine sCondF S rfl hc9 ?_
  obtain ⟨t12, h, g13⟩ := bindSome h
  refine sCut (fun a w => ∃ o11, o11 = t12 ∧ St [] E [] w0 28 a w [(10, .bool o11)] [] []) ?_ (fun a w hI => ?_)
  rotate_left
  · obtain ⟨o11, rfl, S⟩ := hI
    have h := g13
    clear g13
    try dsimp only at h
    rcases iteSome h with ⟨hc15, h⟩ | ⟨hc15, h⟩
    · refine sCondT S rfl hc15 ?_
      refine sSeq (fun K16 hK16 => ?_)
      refine sRegion ?_
      refine sMove (iv 8) S (wN rfl) (.inr rfl) rfl rfl (lb rfl) fun a S => ?_
      refine leafL (leafT (hK16 _ _ ?_))
      obtain rfl := Option.some.inj h
      exact wp_ret (rBlock (rThen (sRet (iv 8) S (rsl1 rfl (rvT (t := 2) (v := iv 8) S rfl)) ⟨(), rfl, S.mem.sel [] [] (by decide) rfl rfl⟩)))
    refine sCondF S rfl hc15 ?_
    refine wp_skip (leafB (leafT (hK7 _ _ ?_)))
    refine sSeq (fun K17 hK17 => ?_)
    refine sRegion ?_
    refine sMove (iv 0) S (wN rfl) (.inr rfl) rfl rfl (lb rfl) fun a S => ?_
    refine leafL (leafT (hK17 _ _ ?_))
    obtain rfl := Option.some.inj h
    exact wp_ret (sRet (iv 0) S (rsl1 rfl (rvT (t := 2) (v := iv 0) S rfl)) ⟨(), rfl, S.mem.sel [] [] (by decide) rfl rfl⟩)
  refine sRegion ?_
  refine sField (b := b6) (off := 0) 0 0 S (wN rfl) rfl rfl rfl rfl rfl (lb rfl) fun a S => ?_
  refine sLoad1 (p := b6) (off := 0) (T := 24) (vs := [iv p0.W, iv p0.H, .slice ad3 p0.Bits.length cp4]) 0 (iv p0.W) S (wN rfl) rfl rfl rfl rfl rfl rfl (lb rfl) fun a S => ?_
  refine sField (b := b6) (off := 0) 1 1 S (wN rfl) rfl rfl rfl rfl rfl (lb rfl) fun a S => ?_
  refine sLoad1 (p := b6) (off := 1) (T := 24) (vs := [iv p0.W, iv p0.H, .slice ad3 p0.Bits.length cp4]) 0 (iv p0.H) S (wN rfl) rfl rfl rfl rfl rfl rfl (lb rfl) fun a S => ?_
  refine sMin2 (p := p0.W) (q := p0.H) S (wN rfl) rfl rfl rfl rfl (lb rfl) fun a S => ?_
  refine sBin (.bool (decide ((if p0.H < p0.W then p0.H else p0.W) < 1))) S (wN rfl) rfl rfl rfl (bLt _ _ _ _ .i64 (if p0.H < p0.W then p0.H else p0.W) 1) rfl (lb rfl) fun a S => ?_
  refine sMove (.bool (decide ((if p0.H < p0.W then p0.H else p0.W) < 1))) S (wN rfl) (.inl rfl) rfl rfl (lb rfl) fun a S => ?_
  rcases iteSome h with ⟨hc14, h⟩ | ⟨hc14, h⟩
  · refine sSkip 6 false 17 18 S rfl rfl rfl hc14 rfl (lb rfl) fun a S => ?_
    refine sSkip 6 false 17 19 S rfl rfl rfl hc14 rfl (lb rfl) fun a S => ?_
    refine sSkip 6 false 17 20 S rfl rfl rfl hc14 rfl (lb rfl) fun a S => ?_
    refine sSkip 6 false 17 21 S rfl rfl rfl hc14 rfl (lb rfl) fun a S => ?_
    refine sSkip 6 false 17 22 S rfl rfl rfl hc14 rfl (lb rfl) fun a S => ?_
    refine sSkip 6 false 17 23 S rfl rfl rfl hc14 rfl (lb rfl) fun a S => ?_
    refine sSkip 6 false 17 24 S rfl rfl rfl hc14 rfl (lb rfl) fun a S => ?_
    refine sSkip 6 false 17 25 S rfl rfl rfl hc14 rfl (lb rfl) fun a S => ?_
    refine sSkip 6 false 17 26 S rfl rfl rfl hc14 rfl (lb rfl) fun a S => ?_
    refine sPickT (.bool true) S (wN rfl) rfl rfl hc14 rfl rfl (lb rfl) fun a S => ?_
    refine sMove (.bool true) S (wN rfl) (.inr rfl) rfl rfl (lb rfl) fun a S => ?_
    exact leafL (leafT (⟨true, Option.some.inj h, S.fix [] [] (by decide) rfl rfl rfl⟩))
  refine sField (b := b6) (off := 0) 2 2 S (wG 6 false 17 rfl rfl rfl hc14) rfl rfl rfl rfl rfl (lb rfl) fun a S => ?_
  refine sLoad1 (p := b6) (off := 2) (T := 24) (vs := [iv p0.W, iv p0.H, .slice ad3 p0.Bits.length cp4]) 0 (.slice ad3 p0.Bits.length cp4) S (wG 6 false 17 rfl rfl rfl hc14) rfl rfl rfl rfl rfl rfl (lb rfl) fun a S => ?_
  refine sLen (ad := ad3) (m := p0.Bits.length) (c := cp4) S (wG 6 false 17 rfl rfl rfl hc14) rfl Try.underlying22 rfl rfl (lb rfl) fun a S => ?_
  refine sField (b := b6) (off := 0) 0 0 S (wG 6 false 17 rfl rfl rfl hc14) rfl rfl rfl rfl rfl (lb rfl) fun a S => ?_
  refine sLoad1 (p := b6) (off := 0) (T := 24) (vs := [iv p0.W, iv p0.H, .slice ad3 p0.Bits.length cp4]) 0 (iv p0.W) S (wG 6 false 17 rfl rfl rfl hc14) rfl rfl rfl rfl rfl rfl (lb rfl) fun a S => ?_
  refine sField (b := b6) (off := 0) 1 1 S (wG 6 false 17 rfl rfl rfl hc14) rfl rfl rfl rfl rfl (lb rfl) fun a S => ?_
  refine sLoad1 (p := b6) (off := 1) (T := 24) (vs := [iv p0.W, iv p0.H, .slice ad3 p0.Bits.length cp4]) 0 (iv p0.H) S (wG 6 false 17 rfl rfl rfl hc14) rfl rfl rfl rfl rfl rfl (lb rfl) fun a S => ?_
  refine sBin (iv (w64 (p0.W * p0.H))) S (wG 6 false 17 rfl rfl rfl hc14) rfl rfl rfl (bMul _ _ _ _ p0.W p0.H) rfl (lb rfl) fun a S => ?_
  refine sBin (.bool ((p0.Bits.length : Int) != (w64 (p0.W * p0.H)))) S (wG 6 false 17 rfl rfl rfl hc14) rfl rfl rfl (bNe _ _ _ _ .i64 (p0.Bits.length : Int) (w64 (p0.W * p0.H))) rfl (lb rfl) fun a S => ?_
  refine sPickF (.bool ((p0.Bits.length : Int) != (w64 (p0.W * p0.H)))) S (wN rfl) rfl rfl hc14 rfl rfl (lb rfl) fun a S => ?_
  refine sMove (.bool ((p0.Bits.length : Int) != (w64 (p0.W * p0.H)))) S (wN rfl) (.inr rfl) rfl rfl (lb rfl) fun a S => ?_
  exact leafL (leafT (⟨(p0.Bits.length : Int) != (w64 (p0.W * p0.H)), Option.some.inj h, S.fix [] [] (by decide) rfl rfl rfl⟩))

end Go.Proofs.Ythfifeabomdlpaa
namespace Go.Proofs.Ythfifeabomdlpaa
open Go.RowKit
set_option linter.unusedVariables false

noncomputable def block_checked_l1 (p0 : (List api_Grid)) : Int → Option (Int ⊕ (Int ⊕ Unit)) := fun s0 => match s0 with
  | s7 =>
    if decide (s7 < (p0.length : Int)) then
      Option.bind (idxO p0 s7) fun x16 =>
      Option.bind (F_grid_Check x16) fun r27 =>
      if r27 != 0 then
        some (.inr (.inl r27))
      else
        some (.inl (w64 (s7 + 1)))
    else
      some (.inr (.inr ()))
noncomputable def F_block_checked (p0 : (List api_Grid)) : Option Int :=
  Option.bind (α := Unit ⊕ Int) (
    Option.bind (whileO (block_checked_l1 p0) 0) fun z0 => match z0 with
      | .inl z =>
        some (.inr z)
      | .inr _ =>
        some (.inl ())) fun z0 => match z0 with
    | .inl _ =>
      some 0
    | .inr z =>
      some z
set_option maxHeartbeats 4000000 in
set_option maxRecDepth 100000 in
theorem c_block_checked (E : Nat → Prop) (w0 : World) (p0 : (List api_Grid)) (v0 : Value) (r : Int) (h : F_block_checked p0 = some r) (S : St0 E [] w0 w0 [] [fRep (rL r_api_Grid) (v0) p0]) :
    Calls Try.prog 41 #[v0] w0 (Ret (X := Unit) E [] w0 (fun _ => .int .i64 r) (fun _ => []) (fun _ => [])) := by
  unfold F_block_checked at h
  obtain ⟨ad1, cp2, _, rfl, _⟩ := S.know (i := 0) (e := fRep (rL r_api_Grid) (v0) p0) rfl
  refine sEnter (args := [.slice ad1 p0.length cp2]) 18 Try.func41 rfl rfl (by simp) S (fun a S => ?_)
  refine sSeq (fun K3 hK3 => ?_)
  refine sRegion ?_
  refine sMove (iv 0) S (wN rfl) (.inr rfl) rfl rfl (lb rfl) fun a S => ?_
  refine leafL (leafT (hK3 _ _ ?_))
  obtain ⟨t4, h, g5⟩ := bindSome h
  refine sCut (fun a w => .inl () = t4 ∧ St [] E [] w0 18 a w [] [] []) ?_ (fun a w hI => ?_)
  rotate_left
  · obtain ⟨rfl, S⟩ := hI
    have h := g5
    clear g5
    try dsimp only at h
    refine sSeq (fun K32 hK32 => ?_)
    refine sRegion ?_
    refine sMove (iv 0) S (wN rfl) (.inr rfl) rfl rfl (lb rfl) fun a S => ?_
    refine leafL (leafT (hK32 _ _ ?_))
    obtain rfl := Option.some.inj h
    exact wp_ret (sRet (iv 0) S (rsl1 rfl (rvT (t := 2) (v := iv 0) S rfl)) ⟨(), rfl, S.mem.sel [] [] (by decide) rfl rfl⟩)
  refine sSeq (fun K6 hK6 => ?_)
  refine sRegion ?_
  refine sMove (.slice ad1 p0.length cp2) S (wN rfl) (.inl rfl) rfl rfl (lb rfl) fun a S => ?_
  refine sLen (ad := ad1) (m := p0.length) (c := cp2) S (wN rfl) rfl Try.underlying34 rfl rfl (lb rfl) fun a S => ?_
  refine sMove (iv 0) S (wN rfl) (.inl rfl) rfl rfl (lb rfl) fun a S => ?_
  refine leafL (leafT (hK6 _ _ ?_))
  refine wp_block ?_
  obtain ⟨t10, hl, g9⟩ := bindSome h
  refine sLoop hl (fun s0 a w => match s0 with | s7 => St [] E [] w0 18 a w [(6, .slice ad1 p0.length cp2), (7, iv (p0.length : Int)), (8, iv s7)] [] [fRep (rL r_api_Grid) (.slice ad1 p0.length cp2) p0]) (S.fix [] [0] (by decide) rfl rfl rfl) ?_
  clear hl h
  intro s7 a w c0 hI h hu8
  unfold block_checked_l1 at h
  dsimp only at h hI
  have S := hI
  refine sSeq (fun K11 hK11 => ?_)
  refine sRegion ?_
  refine sBin (.bool (decide (s7 < (p0.length : Int)))) S (wN rfl) rfl rfl rfl (bLt _ _ _ _ .i64 s7 (p0.length : Int)) rfl (lb rfl) fun a S => ?_
  refine leafL (leafT (hK11 _ _ ?_))
  refine sSeq (fun K12 hK12 => ?_)
  rcases iteSome h with ⟨hc13, h⟩ | ⟨hc13, h⟩
  rotate_left
  · refine sCondF S rfl hc13 ?_
    obtain rfl := Option.some.inj h
    obtain rfl := hu8 _ rfl
    have h := g9
    clear g9
    try dsimp only at h
    exact wp_exit (xThen (xThen (xHit (leafT (⟨Option.some.inj h, S.fix [] [] (by decide) rfl rfl rfl⟩)))))
  refine sCondT S rfl hc13 ?_
  refine wp_skip (leafT (hK12 _ _ ?_))
  refine sSeq (fun K14 hK14 => ?_)
  refine wp_block ?_
  refine sSeq (fun K15 hK15 => ?_)
  refine sRegion ?_
  obtain ⟨x16, hx17, h⟩ := bindSome h
  obtain ⟨q18, hq19, S⟩ := pIdx (P := Try.prog) (r := r_api_Grid) (v := .slice ad1 p0.length cp2) (xs := p0) (j := s7) 34 24 0 S Try.underlying34 rfl rfl hx17
  refine sIdxV (v := .slice ad1 p0.length cp2) (k := .i64) (j := s7) S (wN rfl) rfl rfl rfl hq19 rfl (lb rfl) fun a S => ?_
  obtain ⟨u20, S⟩ := pLoad (r := r_api_Grid) (q := q18) (x := x16) 0 S rfl
  obtain ⟨u21, rfl, hu22⟩ := S.mem.know (i := 1) (e := fRep r_api_Grid (u20) x16) rfl
  have S := S.learn (fRep (rL rB) u21 x16.Bits) hu22
  obtain ⟨ad23, cp24, _, rfl, _⟩ := hu22
  refine sLoadVN (vq := q18) 1 [iv x16.W, iv x16.H, .slice ad23 x16.Bits.length cp24] S (wN rfl) rfl rfl rfl rfl rfl rfl (lb rfl) fun a S => ?_
  refine sAlloc (.agg #[iv 0, iv 0, .slice none 0 0]) S (wN rfl) rfl rfl [iv 0, iv 0, .slice none 0 0] rfl rfl (lb rfl) fun a b25 w S => ?_
  refine sStore (p := b25) (off := 0) (T := 24) (vs := [iv 0, iv 0, .slice none 0 0]) (v := .agg #[iv x16.W, iv x16.H, .slice ad23 x16.Bits.length cp24]) 0 [iv x16.W, iv x16.H, .slice ad23 x16.Bits.length cp24] S (wN rfl) rfl rfl rfl rfl rfl rfl rfl (by simp) rfl fun a w S => ?_
  refine leafL (leafT (hK15 _ _ ?_))
  refine sSeq (fun K26 hK26 => ?_)
  refine sRegion ?_
  refine sLoadN (p := b25) (off := 0) (T := 24) (vs := [iv x16.W, iv x16.H, .slice ad23 x16.Bits.length cp24]) 0 [iv x16.W, iv x16.H, .slice ad23 x16.Bits.length cp24] S (wN rfl) rfl rfl rfl rfl rfl rfl rfl (lb rfl) fun a S => ?_
  obtain ⟨r27, hx28, h⟩ := bindSome h
  have S1 := S.mem
  refine sCallQ (X := Unit) (f := 63) (vs := [.agg #[iv x16.W, iv x16.H, .slice ad23 x16.Bits.length cp24]]) (val := fun _ => iv r27) S (wN rfl) rfl callee63 rfl (S1.quiet [2] rfl) (fun E1 w1 S1 => c_grid_Check E1 w1 x16 (.agg #[iv x16.W, iv x16.H, .slice ad23 x16.Bits.length cp24]) r27 hx28 S1) rfl (lb rfl) fun _ a w S => ?_
  refine sMove (iv r27) S (wN rfl) (.inr rfl) rfl rfl (lb rfl) fun a S => ?_
  refine leafL (leafT (hK26 _ _ ?_))
  refine sSeq (fun K29 hK29 => ?_)
  refine sRegion ?_
  refine sMove (iv r27) S (wN rfl) (.inl rfl) rfl rfl (lb rfl) fun a S => ?_
  refine sBin (.bool (r27 != 0)) S (wN rfl) rfl rfl rfl (bNe _ _ _ _ .i64 r27 0) rfl (lb rfl) fun a S => ?_
  refine leafL (leafT (hK29 _ _ ?_))
  rcases iteSome h with ⟨hc30, h⟩ | ⟨hc30, h⟩
  rotate_left
  · refine sCondF S rfl hc30 ?_
    refine wp_skip (leafB (leafT (hK14 _ _ ?_)))
    refine sRegion ?_
    refine sBin (iv (w64 (s7 + 1))) S (wN rfl) rfl rfl rfl (bAdd _ _ _ _ s7 1) rfl (lb rfl) fun a S => ?_
    refine sMove (iv (w64 (s7 + 1))) S (wN rfl) (.inl rfl) rfl rfl (lb rfl) fun a S => ?_
    exact leafL (leafT (⟨w64 (s7 + 1), (Option.some.inj h).symm, (S.fix [] [4] (by decide) rfl rfl rfl)⟩))
  refine sCondT S rfl hc30 ?_
  refine sSeq (fun K31 hK31 => ?_)
  refine sRegion ?_
  refine sMove (iv r27) S (wN rfl) (.inl rfl) rfl rfl (lb rfl) fun a S => ?_
  refine sMove (iv r27) S (wN rfl) (.inr rfl) rfl rfl (lb rfl) fun a S => ?_
  refine leafL (leafT (hK31 _ _ ?_))
  obtain rfl := Option.some.inj h
  obtain rfl := hu8 _ rfl
  have h := g9
  clear g9
  try dsimp only at h
  obtain rfl := Option.some.inj h
  have h := g5
  clear g5
  try dsimp only at h
  obtain rfl := Option.some.inj h
  exact wp_ret (rBlock (rThen (rThen (rBlock (rThen (sRet (iv r27) S (rsl1 rfl (rvT (t := 2) (v := iv r27) S rfl)) ⟨(), rfl, S.mem.sel [] [] (by decide) rfl rfl⟩))))))

end Go.Proofs.Ythfifeabomdlpaa
namespace Go.Proofs.Ythfifeabomdlpaa
open Go.RowKit
set_option linter.unusedVariables false

noncomputable def F_block_alike (p0 : api_Grid) (p1 : api_Grid) : Option Bool :=
  Option.bind (α := Bool) (
    if p0.W == p1.W then
      some (p0.H == p1.H)
    else
      some false) fun o12 =>
  some o12
set_option maxHeartbeats 4000000 in
set_option maxRecDepth 100000 in
theorem c_block_alike (E : Nat → Prop) (w0 : World) (p0 : api_Grid) (v0 : Value) (p1 : api_Grid) (v1 : Value) (r : Bool) (h : F_block_alike p0 p1 = some r) (S : St0 E [] w0 w0 [] [fRep r_api_Grid (v0) p0, fRep r_api_Grid (v1) p1]) :
    Calls Try.prog 42 #[v0, v1] w0 (Ret (X := Unit) E [] w0 (fun _ => .bool r) (fun _ => []) (fun _ => [])) := by
  unfold F_block_alike at h
  obtain ⟨u1, rfl, hu2⟩ := S.know (i := 0) (e := fRep r_api_Grid (v0) p0) rfl
  have S := S.learn (fRep (rL rB) u1 p0.Bits) hu2
  obtain ⟨ad3, cp4, _, rfl, _⟩ := hu2
  obtain ⟨u5, rfl, hu6⟩ := S.know (i := 2) (e := fRep r_api_Grid (v1) p1) rfl
  have S := S.learn (fRep (rL rB) u5 p1.Bits) hu6
  obtain ⟨ad7, cp8, _, rfl, _⟩ := hu6
  refine sEnter (args := [.agg #[iv p0.W, iv p0.H, .slice ad3 p0.Bits.length cp4], .agg #[iv p1.W, iv p1.H, .slice ad7 p1.Bits.length cp8]]) 17 Try.func42 rfl rfl (by simp) S (fun a S => ?_)
  refine sSeq (fun K9 hK9 => ?_)
  refine sRegion ?_
  refine sBox (v := .agg #[iv p0.W, iv p0.H, .slice ad3 p0.Bits.length cp4]) S (wN rfl) rfl rfl [iv p0.W, iv p0.H, .slice ad3 p0.Bits.length cp4] rfl rfl (lb rfl) fun a b10 w S => ?_
  refine sBox (v := .agg #[iv p1.W, iv p1.H, .slice ad7 p1.Bits.length cp8]) S (wN rfl) rfl rfl [iv p1.W, iv p1.H, .slice ad7 p1.Bits.length cp8] rfl rfl (lb rfl) fun a b11 w S => ?_
  refine sMove (.bool false) S (wN rfl) (.inr rfl) rfl rfl (lb rfl) fun a S => ?_
  refine leafL (leafT (hK9 _ _ ?_))
  obtain ⟨t13, h, g14⟩ := bindSome h
  refine sCut (fun a w => ∃ o12, o12 = t13 ∧ St [] E [] w0 17 a w [(4, .bool o12)] [] []) ?_ (fun a w hI => ?_)
  rotate_left
  · obtain ⟨o12, rfl, S⟩ := hI
    have h := g14
    clear g14
    try dsimp only at h
    obtain rfl := Option.some.inj h
    exact wp_ret (sRet (.bool o12) S (rsl1 rfl (rvT (t := 4) (v := .bool o12) S rfl)) ⟨(), rfl, S.mem.sel [] [] (by decide) rfl rfl⟩)
  refine sRegion ?_
  refine sField (b := b10) (off := 0) 0 0 S (wN rfl) rfl rfl rfl rfl rfl (lb rfl) fun a S => ?_
  refine sLoad1 (p := b10) (off := 0) (T := 24) (vs := [iv p0.W, iv p0.H, .slice ad3 p0.Bits.length cp4]) 1 (iv p0.W) S (wN rfl) rfl rfl rfl rfl rfl rfl (lb rfl) fun a S => ?_
  refine sField (b := b11) (off := 0) 0 0 S (wN rfl) rfl rfl rfl rfl rfl (lb rfl) fun a S => ?_
  refine sLoad1 (p := b11) (off := 0) (T := 24) (vs := [iv p1.W, iv p1.H, .slice ad7 p1.Bits.length cp8]) 0 (iv p1.W) S (wN rfl) rfl rfl rfl rfl rfl rfl (lb rfl) fun a S => ?_
  refine sBin (.bool (p0.W == p1.W)) S (wN rfl) rfl rfl rfl (bEq _ _ _ _ .i64 p0.W p1.W) rfl (lb rfl) fun a S => ?_
  refine sMove (.bool (p0.W == p1.W)) S (wN rfl) (.inl rfl) rfl rfl (lb rfl) fun a S => ?_
  rcases iteSome h with ⟨hc15, h⟩ | ⟨hc15, h⟩
  rotate_left
  · refine sSkip 5 true 10 11 S rfl rfl rfl hc15 rfl (lb rfl) fun a S => ?_
    refine sSkip 5 true 10 12 S rfl rfl rfl hc15 rfl (lb rfl) fun a S => ?_
    refine sSkip 5 true 10 13 S rfl rfl rfl hc15 rfl (lb rfl) fun a S => ?_
    refine sSkip 5 true 10 14 S rfl rfl rfl hc15 rfl (lb rfl) fun a S => ?_
    refine sSkip 5 true 10 15 S rfl rfl rfl hc15 rfl (lb rfl) fun a S => ?_
    refine sPickF (.bool false) S (wN rfl) rfl rfl hc15 rfl rfl (lb rfl) fun a S => ?_
    refine sMove (.bool false) S (wN rfl) (.inr rfl) rfl rfl (lb rfl) fun a S => ?_
    exact leafL (leafT (⟨false, Option.some.inj h, S.fix [] [] (by decide) rfl rfl rfl⟩))
  refine sField (b := b10) (off := 0) 1 1 S (wG 5 true 10 rfl rfl rfl hc15) rfl rfl rfl rfl rfl (lb rfl) fun a S => ?_
  refine sLoad1 (p := b10) (off := 1) (T := 24) (vs := [iv p0.W, iv p0.H, .slice ad3 p0.Bits.length cp4]) 1 (iv p0.H) S (wG 5 true 10 rfl rfl rfl hc15) rfl rfl rfl rfl rfl rfl (lb rfl) fun a S => ?_
  refine sField (b := b11) (off := 0) 1 1 S (wG 5 true 10 rfl rfl rfl hc15) rfl rfl rfl rfl rfl (lb rfl) fun a S => ?_
  refine sLoad1 (p := b11) (off := 1) (T := 24) (vs := [iv p1.W, iv p1.H, .slice ad7 p1.Bits.length cp8]) 0 (iv p1.H) S (wG 5 true 10 rfl rfl rfl hc15) rfl rfl rfl rfl rfl rfl (lb rfl) fun a S => ?_
  refine sBin (.bool (p0.H == p1.H)) S (wG 5 true 10 rfl rfl rfl hc15) rfl rfl rfl (bEq _ _ _ _ .i64 p0.H p1.H) rfl (lb rfl) fun a S => ?_
  refine sPickT (.bool (p0.H == p1.H)) S (wN rfl) rfl rfl hc15 rfl rfl (lb rfl) fun a S => ?_
  refine sMove (.bool (p0.H == p1.H)) S (wN rfl) (.inr rfl) rfl rfl (lb rfl) fun a S => ?_
  exact leafL (leafT (⟨p0.H == p1.H, Option.some.inj h, S.fix [] [] (by decide) rfl rfl rfl⟩))

end Go.Proofs.Ythfifeabomdlpaa
namespace Go.Proofs.Ythfifeabomdlpaa
open Go.RowKit
set_option linter.unusedVariables false

noncomputable def F_block_zero_s0 (p0 : Int) (p1 : Int) : Option (api_Grid × Int) :=
  Option.bind (α := Bool) (
    if decide (64 < p0) then
      some true
    else
      some (decide (64 < p1))) fun o4 =>
  if o4 then
    some ((api_Grid.mk 0 0 ([] : (List Bool))), 4)
  else
    Option.bind (makeO (w64 (p0 * p1)) false) fun m13 =>
    some ((api_Grid.mk p0 p1 m13), 0)
set_option maxHeartbeats 4000000 in
set_option maxRecDepth 100000 in
theorem c_block_zero_s0 (E : Nat → Prop) (w0 : World) (p0 : Int) (p1 : Int) (r : (api_Grid × Int)) (h : F_block_zero_s0 p0 p1 = some r) (S : St0 E [] w0 w0 [] []) :
    Calls Try.prog 43 #[iv p0, iv p1] w0 (Ret (X := Option Addr × Nat) E [] w0 (fun x => .tuple #[.agg #[iv r.1.W, iv r.1.H, .slice x.1 r.1.Bits.length x.2], iv r.2]) (fun x => [eRow rB 4 (.slice x.1 r.1.Bits.length x.2) r.1.Bits]) (fun _ => [])) := by
  unfold F_block_zero_s0 at h
  refine sEnter (args := [iv p0, iv p1]) 20 Try.func43 rfl rfl (by simp) S (fun a S => ?_)
  refine sSeq (fun K1 hK1 => ?_)
  refine sRegion ?_
  refine sAlloc (.agg #[iv 0, iv 0, .slice none 0 0]) S (wN rfl) rfl rfl [iv 0, iv 0, .slice none 0 0] rfl rfl (lb rfl) fun a b2 w S => ?_
  refine sMove (iv 0) S (wN rfl) (.inr rfl) rfl rfl (lb rfl) fun a S => ?_
  refine leafL (leafT (hK1 _ _ ?_))
  refine sSeq (fun K3 hK3 => ?_)
  obtain ⟨t5, h, g6⟩ := bindSome h
  refine sCut (fun a w => ∃ o4, o4 = t5 ∧ St [] E [] w0 20 a w [(0, iv p0), (1, iv p1), (4, .pointer (some ⟨b2, 0, none⟩)), (11, .bool o4)] [eBox b2 24 [iv 0, iv 0, .slice none 0 0]] []) ?_ (fun a w hI => ?_)
  · refine sRegion ?_
    refine sMove (iv p0) S (wN rfl) (.inl rfl) rfl rfl (lb rfl) fun a S => ?_
    refine sBin (.bool (decide (64 < p0))) S (wN rfl) rfl rfl rfl (bGt _ _ _ _ .i64 p0 64) rfl (lb rfl) fun a S => ?_
    refine sMove (.bool (decide (64 < p0))) S (wN rfl) (.inl rfl) rfl rfl (lb rfl) fun a S => ?_
    rcases iteSome h with ⟨hc7, h⟩ | ⟨hc7, h⟩
    · refine sSkip 2 false 8 9 S rfl rfl rfl hc7 rfl (lb rfl) fun a S => ?_
      refine sSkip 2 false 8 10 S rfl rfl rfl hc7 rfl (lb rfl) fun a S => ?_
      refine sPickT (.bool true) S (wN rfl) rfl rfl hc7 rfl rfl (lb rfl) fun a S => ?_
      exact leafL (leafT (⟨true, Option.some.inj h, S.fix [0] [] (by decide) rfl rfl rfl⟩))
    refine sMove (iv p1) S (wG 2 false 8 rfl rfl rfl hc7) (.inl rfl) rfl rfl (lb rfl) fun a S => ?_
    refine sBin (.bool (decide (64 < p1))) S (wG 2 false 8 rfl rfl rfl hc7) rfl rfl rfl (bGt _ _ _ _ .i64 p1 64) rfl (lb rfl) fun a S => ?_
    refine sPickF (.bool (decide (64 < p1))) S (wN rfl) rfl rfl hc7 rfl rfl (lb rfl) fun a S => ?_
    exact leafL (leafT (⟨decide (64 < p1), Option.some.inj h, S.fix [0] [] (by decide) rfl rfl rfl⟩))
  obtain ⟨o4, rfl, S⟩ := hI
  have h := g6
  clear g6
  try dsimp only at h
  rcases iteSome h with ⟨hc8, h⟩ | ⟨hc8, h⟩
  · refine sCondT S rfl hc8 ?_
    refine sSeq (fun K9 hK9 => ?_)
    refine sRegion ?_
    refine sBuild [] [iv 0, iv 0, .slice none 0 0] S (wN rfl) rfl rfl rfl rfl (lb rfl) fun a S => ?_
    refine sStore (p := b2) (off := 0) (T := 24) (vs := [iv 0, iv 0, .slice none 0 0]) (v := .agg #[iv 0, iv 0, .slice none 0 0]) 0 [iv 0, iv 0, .slice none 0 0] S (wN rfl) rfl rfl rfl rfl rfl rfl rfl (by simp) rfl fun a w S => ?_
    refine sMove (iv 4) S (wN rfl) (.inr rfl) rfl rfl (lb rfl) fun a S => ?_
    refine leafL (leafT (hK9 _ _ ?_))
    obtain rfl := Option.some.inj h
    have S := S.nilRow rB 4 (α := Bool)
    exact wp_ret (rThen (sRet (.tuple #[.agg #[iv 0, iv 0, .slice none 0 0], iv 4]) S (rsl2 rfl (rvN (c := 4) (t := 24) (T := 24) (p := b2) 1 [iv 0, iv 0, .slice none 0 0] S rfl rfl rfl rfl) (rvT (t := 5) (v := iv 4) S rfl)) ⟨(none, 0), rfl, S.mem.sel [0] [] (by decide) rfl rfl⟩))
  refine sCondF S rfl hc8 ?_
  refine wp_skip (leafT (hK3 _ _ ?_))
  refine sSeq (fun K10 hK10 => ?_)
  refine sRegion ?_
  refine sMove (iv p0) S (wN rfl) (.inl rfl) rfl rfl (lb rfl) fun a S => ?_
  refine sMove (iv p1) S (wN rfl) (.inl rfl) rfl rfl (lb rfl) fun a S => ?_
  refine sMove (iv p0) S (wN rfl) (.inl rfl) rfl rfl (lb rfl) fun a S => ?_
  refine sMove (iv p1) S (wN rfl) (.inl rfl) rfl rfl (lb rfl) fun a S => ?_
  refine sBin (iv (w64 (p0 * p1))) S (wN rfl) rfl rfl rfl (bMul _ _ _ _ p0 p1) rfl (lb rfl) fun a S => ?_
  obtain ⟨m13, hx14, h⟩ := bindSome h
  refine sMake (r := rB) (m := w64 (p0 * p1)) (xs := m13) (.bool false) false 1 S (wN rfl) rfl Try.underlying22 rfl rfl (by decide) (fun _ _ => rfl) rfl rfl hx14 rfl (lb rfl) fun a w ad11 cp12 S => ?_
  refine sBuild [(0, iv p0), (1, iv p1), (2, .slice ad11 m13.length cp12)] [iv p0, iv p1, .slice ad11 m13.length cp12] S (wN rfl) rfl rfl rfl rfl (lb rfl) fun a S => ?_
  refine sStore (p := b2) (off := 0) (T := 24) (vs := [iv 0, iv 0, .slice none 0 0]) (v := .agg #[iv p0, iv p1, .slice ad11 m13.length cp12]) 1 [iv p0, iv p1, .slice ad11 m13.length cp12] S (wN rfl) rfl rfl rfl rfl rfl rfl rfl (by simp) rfl fun a w S => ?_
  refine sMove (iv 0) S (wN rfl) (.inr rfl) rfl rfl (lb rfl) fun a S => ?_
  refine leafL (leafT (hK10 _ _ ?_))
  obtain rfl := Option.some.inj h
  exact wp_ret (sRet (.tuple #[.agg #[iv p0, iv p1, .slice ad11 m13.length cp12], iv 0]) S (rsl2 rfl (rvN (c := 4) (t := 24) (T := 24) (p := b2) 0 [iv p0, iv p1, .slice ad11 m13.length cp12] S rfl rfl rfl rfl) (rvT (t := 5) (v := iv 0) S rfl)) ⟨(ad11, cp12), rfl, S.mem.sel [1] [] (by decide) rfl rfl⟩)

end Go.Proofs.Ythfifeabomdlpaa
namespace Go.Proofs.Ythfifeabomdlpaa
open Go.RowKit
set_option linter.unusedVariables false

def anc_block_put_s0_0 : List (List Nat) := [[], [0], [], [], [3], [2, 3, 4], [], [2, 3, 4, 5, 6], [], [8], [2, 3, 4, 5, 6, 7, 8, 9], [], [], [12], [11, 12, 13], [2, 3, 4, 5, 6, 7, 8, 9, 10, 11, 12, 13, 14], [0, 1, 2, 3, 4, 5, 6, 7, 8, 9, 10, 11, 12, 13, 14, 15], [], [17], [], [], [20], [19, 20, 21], [], [23], [], [25], [23, 24, 25, 26], [17, 18, 19, 20, 21, 22, 23, 24, 25, 26, 27], [0, 1, 2, 3, 4, 5, 6, 7, 8, 9, 10, 11, 12, 13, 14, 15, 16, 17, 18, 19, 20, 21, 22, 23, 24, 25, 26, 27, 28]]
noncomputable def block_put_s0_l1 (p3 : api_Grid) (p5 : Int) (p0 : Int) (p4 : Int) : (Int × List Bool) → Option ((Int × List Bool) ⊕ List Bool) := fun s0 => match s0 with
  | (s9, s10) =>
    if decide (s9 < p3.H) then
      Option.bind (α := List Bool) (
        Option.bind (sliceO s10 (w64 ((w64 ((w64 ((w64 (p5 * p3.H)) + s9)) * p0)) + (w64 (p4 * p3.W)))) (s10.length : Int)) fun y22 =>
        Option.bind (sliceO p3.Bits (w64 (s9 * p3.W)) (w64 ((w64 (s9 + 1)) * p3.W))) fun y26 =>
        some (cpA s10 (w64 ((w64 ((w64 ((w64 (p5 * p3.H)) + s9)) * p0)) + (w64 (p4 * p3.W)))).toNat ((s10.length : Int)).toNat y26)) fun o18 =>
      some (.inl (w64 (s9 + 1), o18))
    else
      some (.inr s10)
noncomputable def F_block_put_s0 (p0 : Int) (p1 : Int) (p2 : (List Bool)) (p3 : api_Grid) (p4 : Int) (p5 : Int) : Option (List Bool) :=
  Option.bind (whileO (block_put_s0_l1 p3 p5 p0 p4) (0, p2)) fun e14 =>
    (keepO p2 e14).bind fun _ =>
    some e14
set_option maxHeartbeats 4000000 in
set_option maxRecDepth 100000 in
theorem c_block_put_s0 (E : Nat → Prop) (w0 : World) (p0 : Int) (p1 : Int) (p2 : (List Bool)) (ad_2 : Option Addr) (cp_2 : Nat) (p3 : api_Grid) (v3 : Value) (p4 : Int) (p5 : Int) (r : (List Bool)) (h : F_block_put_s0 p0 p1 p2 p3 p4 p5 = some r) (S : St0 E (keysL [eRow rB 4 (.slice ad_2 p2.length cp_2) p2]) w0 w0 [eRow rB 4 (.slice ad_2 p2.length cp_2) p2] [fRep r_api_Grid (v3) p3]) :
    Calls Try.prog 44 #[.agg #[iv p0, iv p1, .slice ad_2 p2.length cp_2], v3, iv p4, iv p5] w0 (Ret (X := Unit) E (keysL [eRow rB 4 (.slice ad_2 p2.length cp_2) p2]) w0 (fun _ => .tuple #[]) (fun _ => [eRow rB 4 (.slice ad_2 p2.length cp_2) r]) (fun _ => [])) := by
  unfold F_block_put_s0 at h
  obtain ⟨u1, rfl, hu2⟩ := S.know (i := 0) (e := fRep r_api_Grid (v3) p3) rfl
  have S := S.learn (fRep (rL rB) u1 p3.Bits) hu2
  obtain ⟨ad3, cp4, _, rfl, _⟩ := hu2
  refine sEnter (args := [.agg #[iv p0, iv p1, .slice ad_2 p2.length cp_2], .agg #[iv p3.W, iv p3.H, .slice ad3 p3.Bits.length cp4], iv p4, iv p5]) 45 Try.func44 rfl rfl (by simp) S (fun a S => ?_)
  refine sSeq (fun K5 hK5 => ?_)
  refine sRegion ?_
  refine sBox (v := .agg #[iv p0, iv p1, .slice ad_2 p2.length cp_2]) S (wN rfl) rfl rfl [iv p0, iv p1, .slice ad_2 p2.length cp_2] rfl rfl (lb rfl) fun a b6 w S => ?_
  refine sBox (v := .agg #[iv p3.W, iv p3.H, .slice ad3 p3.Bits.length cp4]) S (wN rfl) rfl rfl [iv p3.W, iv p3.H, .slice ad3 p3.Bits.length cp4] rfl rfl (lb rfl) fun a b7 w S => ?_
  refine leafL (leafT (hK5 _ _ ?_))
  refine sSeq (fun K8 hK8 => ?_)
  refine sRegion ?_
  refine sField (b := b7) (off := 0) 1 1 S (wN rfl) rfl rfl rfl rfl rfl (lb rfl) fun a S => ?_
  refine sLoad1 (p := b7) (off := 1) (T := 24) (vs := [iv p3.W, iv p3.H, .slice ad3 p3.Bits.length cp4]) 0 (iv p3.H) S (wN rfl) rfl rfl rfl rfl rfl rfl (lb rfl) fun a S => ?_
  refine sMove (iv 0) S (wN rfl) (.inl rfl) rfl rfl (lb rfl) fun a S => ?_
  refine leafL (leafT (hK8 _ _ ?_))
  refine wp_block ?_
  obtain ⟨t13, hl, g12⟩ := bindSome h
  refine sLoop hl (fun s0 a w => match s0 with | (s9, s10) => St [] E (keysL [eRow rB 4 (.slice ad_2 p2.length cp_2) p2]) w0 45 a w [(2, iv p4), (3, iv p5), (4, .pointer (some ⟨b6, 0, none⟩)), (5, .pointer (some ⟨b7, 0, none⟩)), (10, iv p3.H), (11, iv s9)] [eBox b6 24 [iv p0, iv p1, .slice ad_2 s10.length cp_2], eBox b7 24 [iv p3.W, iv p3.H, .slice ad3 p3.Bits.length cp4], eRow rB 4 (.slice ad_2 s10.length cp_2) s10] [fRep (rL rB) (.slice ad3 p3.Bits.length cp4) p3.Bits]) (S.fix [1, 0, 2] [0] (by decide) rfl rfl rfl) ?_
  clear hl h
  intro s0 a w c0 hI h hu11
  obtain ⟨s9, s10⟩ := s0
  unfold block_put_s0_l1 at h
  dsimp only at h hI
  have S := hI
  refine sSeq (fun K15 hK15 => ?_)
  refine sRegion ?_
  refine sBin (.bool (decide (s9 < p3.H))) S (wN rfl) rfl rfl rfl (bLt _ _ _ _ .i64 s9 p3.H) rfl (lb rfl) fun a S => ?_
  refine leafL (leafT (hK15 _ _ ?_))
  refine sSeq (fun K16 hK16 => ?_)
  rcases iteSome h with ⟨hc17, h⟩ | ⟨hc17, h⟩
  rotate_left
  · refine sCondF S rfl hc17 ?_
    obtain rfl := Option.some.inj h
    obtain rfl := hu11 _ rfl
    have h := g12
    clear g12
    try dsimp only at h
    obtain ⟨_, hk38, h⟩ := bindSome h
    rw [keepO_v hk38 ad_2 cp_2] at S
    obtain rfl := Option.some.inj h
    exact wp_exit (xThen (xThen (xHit (sEnd (.tuple #[]) S (rsl0 rfl ) ⟨(), rfl, S.mem.sel [2] [] (by decide) rfl rfl⟩))))
  refine sCondT S rfl hc17 ?_
  refine wp_skip (leafT (hK16 _ _ ?_))
  obtain ⟨t19, h, g20⟩ := bindSome h
  refine sCut (fun a w => ∃ o18, o18 = t19 ∧ St [] E (keysL [eRow rB 4 (.slice ad_2 p2.length cp_2) p2]) w0 45 a w [(2, iv p4), (3, iv p5), (4, .pointer (some ⟨b6, 0, none⟩)), (5, .pointer (some ⟨b7, 0, none⟩)), (10, iv p3.H), (11, iv s9)] [eBox b6 24 [iv p0, iv p1, .slice ad_2 o18.length cp_2], eBox b7 24 [iv p3.W, iv p3.H, .slice ad3 p3.Bits.length cp4], eRow rB 4 (.slice ad_2 o18.length cp_2) o18] [fRep (rL rB) (.slice ad3 p3.Bits.length cp4) p3.Bits]) ?_ (fun a w hI => ?_)
  rotate_left
  · obtain ⟨o18, rfl, S⟩ := hI
    have h := g20
    clear g20
    try dsimp only at h
    refine sRegion ?_
    refine sBin (iv (w64 (s9 + 1))) S (wN rfl) rfl rfl rfl (bAdd _ _ _ _ s9 1) rfl (lb rfl) fun a S => ?_
    refine sMove (iv (w64 (s9 + 1))) S (wN rfl) (.inl rfl) rfl rfl (lb rfl) fun a S => ?_
    exact leafL (leafT (⟨(w64 (s9 + 1), o18), (Option.some.inj h).symm, (S.fix [0, 1, 2] [0] (by decide) rfl rfl rfl)⟩))
  refine wp_block ?_
  refine sSeq (fun K21 hK21 => ?_)
  refine sRegion ?_
  refine sMove (iv s9) S (wN rfl) (.inl rfl) rfl rfl (lb rfl) fun a S => ?_
  refine sMove (iv s9) S (wN rfl) (.inr rfl) rfl rfl (lb rfl) fun a S => ?_
  refine leafL (leafT (hK21 _ _ ?_))
  obtain ⟨y22, hx23, h⟩ := bindSome h
  obtain ⟨y26, hx27, h⟩ := bindSome h
  refine sDraw (nf := [16, 28, 29]) (W := [(0, 14, .pointer (some ⟨b6, 2, none⟩)), (1, 15, .slice ad_2 s10.length cp_2), (2, 16, iv p5), (3, 17, .pointer (some ⟨b7, 1, none⟩)), (4, 18, iv p3.H), (5, 19, iv (w64 (p5 * p3.H))), (6, 20, iv s9), (7, 21, iv (w64 ((w64 (p5 * p3.H)) + s9))), (8, 22, .pointer (some ⟨b6, 0, none⟩)), (9, 23, iv p0), (10, 24, iv (w64 ((w64 ((w64 (p5 * p3.H)) + s9)) * p0))), (11, 25, iv p4), (12, 26, .pointer (some ⟨b7, 0, none⟩)), (13, 27, iv p3.W), (14, 28, iv (w64 (p4 * p3.W))), (15, 29, iv (w64 ((w64 ((w64 ((w64 (p5 * p3.H)) + s9)) * p0)) + (w64 (p4 * p3.W))))), (17, 31, .pointer (some ⟨b7, 2, none⟩)), (18, 32, .slice ad3 p3.Bits.length cp4), (19, 33, iv s9), (20, 34, .pointer (some ⟨b7, 0, none⟩)), (21, 35, iv p3.W), (22, 36, iv (w64 (s9 * p3.W))), (23, 37, iv s9), (24, 38, iv (w64 (s9 + 1))), (25, 39, .pointer (some ⟨b7, 0, none⟩)), (26, 40, iv p3.W), (27, 41, iv (w64 ((w64 (s9 + 1)) * p3.W)))]) rfl S ?_
  refine node_by (A := anc_block_put_s0_0) (nf := [16, 28, 29]) (Y := []) (W := [(0, 14, .pointer (some ⟨b6, 2, none⟩)), (1, 15, .slice ad_2 s10.length cp_2), (2, 16, iv p5), (3, 17, .pointer (some ⟨b7, 1, none⟩)), (4, 18, iv p3.H), (5, 19, iv (w64 (p5 * p3.H))), (6, 20, iv s9), (7, 21, iv (w64 ((w64 (p5 * p3.H)) + s9))), (8, 22, .pointer (some ⟨b6, 0, none⟩)), (9, 23, iv p0), (10, 24, iv (w64 ((w64 ((w64 (p5 * p3.H)) + s9)) * p0))), (11, 25, iv p4), (12, 26, .pointer (some ⟨b7, 0, none⟩)), (13, 27, iv p3.W), (14, 28, iv (w64 (p4 * p3.W))), (15, 29, iv (w64 ((w64 ((w64 ((w64 (p5 * p3.H)) + s9)) * p0)) + (w64 (p4 * p3.W))))), (17, 31, .pointer (some ⟨b7, 2, none⟩)), (18, 32, .slice ad3 p3.Bits.length cp4), (19, 33, iv s9), (20, 34, .pointer (some ⟨b7, 0, none⟩)), (21, 35, iv p3.W), (22, 36, iv (w64 (s9 * p3.W))), (23, 37, iv s9), (24, 38, iv (w64 (s9 + 1))), (25, 39, .pointer (some ⟨b7, 0, none⟩)), (26, 40, iv p3.W), (27, 41, iv (w64 ((w64 (s9 + 1)) * p3.W)))]) 30 (by kernel_rfl) (by kernel_rfl) (by kernel_rfl) (by kernel_rfl) (by kernel_rfl) [0, 1, 2, 3, 4, 5, 6, 7, 8, 9, 10, 11, 12, 13, 14, 15, 17, 18, 19, 20, 21, 22, 23, 24, 25, 26, 27] (by kernel_rfl) (by decide) (by decide) (aF 0 29 (by decide) ?_ (aF 1 28 (by decide) ?_ (aF 2 27 (by decide) ?_ (aF 3 26 (by decide) ?_ (aF 4 25 (by decide) ?_ (aF 5 24 (by decide) ?_ (aF 6 23 (by decide) ?_ (aF 7 22 (by decide) ?_ (aF 8 21 (by decide) ?_ (aF 9 20 (by decide) ?_ (aF 10 19 (by decide) ?_ (aF 11 18 (by decide) ?_ (aF 12 17 (by decide) ?_ (aF 13 16 (by decide) ?_ (aF 14 15 (by decide) ?_ (aF 15 14 (by decide) ?_ (aN 16 13 (by decide) ?_ (aF 17 12 (by decide) ?_ (aF 18 11 (by decide) ?_ (aF 19 10 (by decide) ?_ (aF 20 9 (by decide) ?_ (aF 21 8 (by decide) ?_ (aF 22 7 (by decide) ?_ (aF 23 6 (by decide) ?_ (aF 24 5 (by decide) ?_ (aF 25 4 (by decide) ?_ (aF 26 3 (by decide) ?_ (aF 27 2 (by decide) ?_ (aN 28 1 (by decide) ?_ (aB 29 0 16 (by decide) (trivial))))))))))))))))))))))))))))))) [] (fun q hq => by cases hq) (fun hY => absurd (hY 16 (by decide)) (by decide))
  · refine fI 14 (.pointer (some ⟨b6, 2, none⟩)) [(4, .pointer (some ⟨b6, 0, none⟩))] 0 [none] rfl rfl rfl rfl rfl rfl fun G a w S => ?_
    refine sField (b := b6) (off := 0) 2 2 S (wN rfl) rfl rfl rfl rfl rfl (lb rfl) fun a S => ?_
    exact leafL ⟨rfl, S⟩
  · refine fI 15 (.slice ad_2 s10.length cp_2) [(14, .pointer (some ⟨b6, 2, none⟩))] 1 [some 0] rfl rfl rfl rfl rfl rfl fun G a w S => ?_
    refine sLoad1 (p := b6) (off := 2) (T := 24) (vs := [iv p0, iv p1, .slice ad_2 s10.length cp_2]) 0 (.slice ad_2 s10.length cp_2) S (wN rfl) rfl rfl rfl rfl rfl rfl (lb rfl) fun a S => ?_
    exact leafL ⟨rfl, S⟩
  · refine fI 16 (iv p5) [(3, iv p5)] 2 [none] rfl rfl rfl rfl rfl rfl fun G a w S => ?_
    refine sMove (iv p5) S (wN rfl) (.inl rfl) rfl rfl (lb rfl) fun a S => ?_
    exact leafL ⟨rfl, S⟩
  · refine fI 17 (.pointer (some ⟨b7, 1, none⟩)) [(5, .pointer (some ⟨b7, 0, none⟩))] 3 [none] rfl rfl rfl rfl rfl rfl fun G a w S => ?_
    refine sField (b := b7) (off := 0) 1 1 S (wN rfl) rfl rfl rfl rfl rfl (lb rfl) fun a S => ?_
    exact leafL ⟨rfl, S⟩
  · refine fI 18 (iv p3.H) [(17, .pointer (some ⟨b7, 1, none⟩))] 4 [some 3] rfl rfl rfl rfl rfl rfl fun G a w S => ?_
    refine sLoad1 (p := b7) (off := 1) (T := 24) (vs := [iv p3.W, iv p3.H, .slice ad3 p3.Bits.length cp4]) 1 (iv p3.H) S (wN rfl) rfl rfl rfl rfl rfl rfl (lb rfl) fun a S => ?_
    exact leafL ⟨rfl, S⟩
  · refine fI 19 (iv (w64 (p5 * p3.H))) [(16, iv p5), (18, iv p3.H)] 5 [some 2, some 4] rfl rfl rfl rfl rfl rfl fun G a w S => ?_
    refine sBin (iv (w64 (p5 * p3.H))) S (wN rfl) rfl rfl rfl (bMul _ _ _ _ p5 p3.H) rfl (lb rfl) fun a S => ?_
    exact leafL ⟨rfl, S⟩
  · refine fI 20 (iv s9) [(8, iv s9)] 6 [none] rfl rfl rfl rfl rfl rfl fun G a w S => ?_
    refine sMove (iv s9) S (wN rfl) (.inl rfl) rfl rfl (lb rfl) fun a S => ?_
    exact leafL ⟨rfl, S⟩
  · refine fI 21 (iv (w64 ((w64 (p5 * p3.H)) + s9))) [(19, iv (w64 (p5 * p3.H))), (20, iv s9)] 7 [some 5, some 6] rfl rfl rfl rfl rfl rfl fun G a w S => ?_
    refine sBin (iv (w64 ((w64 (p5 * p3.H)) + s9))) S (wN rfl) rfl rfl rfl (bAdd _ _ _ _ (w64 (p5 * p3.H)) s9) rfl (lb rfl) fun a S => ?_
    exact leafL ⟨rfl, S⟩
  · refine fI 22 (.pointer (some ⟨b6, 0, none⟩)) [(4, .pointer (some ⟨b6, 0, none⟩))] 8 [none] rfl rfl rfl rfl rfl rfl fun G a w S => ?_
    refine sField (b := b6) (off := 0) 0 0 S (wN rfl) rfl rfl rfl rfl rfl (lb rfl) fun a S => ?_
    exact leafL ⟨rfl, S⟩
  · refine fI 23 (iv p0) [(22, .pointer (some ⟨b6, 0, none⟩))] 9 [some 8] rfl rfl rfl rfl rfl rfl fun G a w S => ?_
    refine sLoad1 (p := b6) (off := 0) (T := 24) (vs := [iv p0, iv p1, .slice ad_2 s10.length cp_2]) 0 (iv p0) S (wN rfl) rfl rfl rfl rfl rfl rfl (lb rfl) fun a S => ?_
    exact leafL ⟨rfl, S⟩
  · refine fI 24 (iv (w64 ((w64 ((w64 (p5 * p3.H)) + s9)) * p0))) [(21, iv (w64 ((w64 (p5 * p3.H)) + s9))), (23, iv p0)] 10 [some 7, some 9] rfl rfl rfl rfl rfl rfl fun G a w S => ?_
    refine sBin (iv (w64 ((w64 ((w64 (p5 * p3.H)) + s9)) * p0))) S (wN rfl) rfl rfl rfl (bMul _ _ _ _ (w64 ((w64 (p5 * p3.H)) + s9)) p0) rfl (lb rfl) fun a S => ?_
    exact leafL ⟨rfl, S⟩
  · refine fI 25 (iv p4) [(2, iv p4)] 11 [none] rfl rfl rfl rfl rfl rfl fun G a w S => ?_
    refine sMove (iv p4) S (wN rfl) (.inl rfl) rfl rfl (lb rfl) fun a S => ?_
    exact leafL ⟨rfl, S⟩
  · refine fI 26 (.pointer (some ⟨b7, 0, none⟩)) [(5, .pointer (some ⟨b7, 0, none⟩))] 12 [none] rfl rfl rfl rfl rfl rfl fun G a w S => ?_
    refine sField (b := b7) (off := 0) 0 0 S (wN rfl) rfl rfl rfl rfl rfl (lb rfl) fun a S => ?_
    exact leafL ⟨rfl, S⟩
  · refine fI 27 (iv p3.W) [(26, .pointer (some ⟨b7, 0, none⟩))] 13 [some 12] rfl rfl rfl rfl rfl rfl fun G a w S => ?_
    refine sLoad1 (p := b7) (off := 0) (T := 24) (vs := [iv p3.W, iv p3.H, .slice ad3 p3.Bits.length cp4]) 1 (iv p3.W) S (wN rfl) rfl rfl rfl rfl rfl rfl (lb rfl) fun a S => ?_
    exact leafL ⟨rfl, S⟩
  · refine fI 28 (iv (w64 (p4 * p3.W))) [(25, iv p4), (27, iv p3.W)] 14 [some 11, some 13] rfl rfl rfl rfl rfl rfl fun G a w S => ?_
    refine sBin (iv (w64 (p4 * p3.W))) S (wN rfl) rfl rfl rfl (bMul _ _ _ _ p4 p3.W) rfl (lb rfl) fun a S => ?_
    exact leafL ⟨rfl, S⟩
  · refine fI 29 (iv (w64 ((w64 ((w64 ((w64 (p5 * p3.H)) + s9)) * p0)) + (w64 (p4 * p3.W))))) [(24, iv (w64 ((w64 ((w64 (p5 * p3.H)) + s9)) * p0))), (28, iv (w64 (p4 * p3.W)))] 15 [some 10, some 14] rfl rfl rfl rfl rfl rfl fun G a w S => ?_
    refine sBin (iv (w64 ((w64 ((w64 ((w64 (p5 * p3.H)) + s9)) * p0)) + (w64 (p4 * p3.W))))) S (wN rfl) rfl rfl rfl (bAdd _ _ _ _ (w64 ((w64 ((w64 (p5 * p3.H)) + s9)) * p0)) (w64 (p4 * p3.W))) rfl (lb rfl) fun a S => ?_
    exact leafL ⟨rfl, S⟩
  · refine ⟨_, [(15, .slice ad_2 s10.length cp_2), (29, iv (w64 ((w64 ((w64 ((w64 (p5 * p3.H)) + s9)) * p0)) + (w64 (p4 * p3.W)))))], rfl, (srcs_of [some 1, some 15] rfl rfl rfl), fun G a w S => ?_⟩
    refine sSliceR (r := rB) (T := 4) (v := .slice ad_2 s10.length cp_2) (xs := s10) (vlo := (some (.int .i64 (w64 ((w64 ((w64 ((w64 (p5 * p3.H)) + s9)) * p0)) + (w64 (p4 * p3.W))))))) (vhi := none) (lo' := w64 ((w64 ((w64 ((w64 (p5 * p3.H)) + s9)) * p0)) + (w64 (p4 * p3.W)))) (hi' := (s10.length : Int)) 2 S (wN rfl) rfl Try.underlying22 rfl rfl rfl rfl rfl (.inl rfl) (.inr ⟨rfl, rfl⟩) hx23 rfl (lb rfl) fun a os30 hO31 S => ?_
    refine leafL ⟨rfl, _, _, .inl ⟨30, os30, [], rfl, S, hz_of rfl, ?_⟩⟩
    refine node_by (A := anc_block_put_s0_0) (nf := [16, 28, 29]) (Y := [16]) 30 (by kernel_rfl) (by kernel_rfl) (by kernel_rfl) (by kernel_rfl) (by kernel_rfl) [16, 0, 1, 2, 3, 4, 5, 6, 7, 8, 9, 10, 11, 12, 13, 14, 15, 17, 18, 19, 20, 21, 22, 23, 24, 25, 26, 27] (by kernel_rfl) (by decide) (by decide) (aD 0 29 16 (by decide) (aD 1 28 16 (by decide) (aD 2 27 16 (by decide) (aD 3 26 16 (by decide) (aD 4 25 16 (by decide) (aD 5 24 16 (by decide) (aD 6 23 16 (by decide) (aD 7 22 16 (by decide) (aD 8 21 16 (by decide) (aD 9 20 16 (by decide) (aD 10 19 16 (by decide) (aD 11 18 16 (by decide) (aD 12 17 16 (by decide) (aD 13 16 16 (by decide) (aD 14 15 16 (by decide) (aD 15 14 16 (by decide) (aY 16 13 (by decide) (aF 17 12 (by decide) ?_ (aF 18 11 (by decide) ?_ (aF 19 10 (by decide) ?_ (aF 20 9 (by decide) ?_ (aF 21 8 (by decide) ?_ (aF 22 7 (by decide) ?_ (aF 23 6 (by decide) ?_ (aF 24 5 (by decide) ?_ (aF 25 4 (by decide) ?_ (aF 26 3 (by decide) ?_ (aF 27 2 (by decide) ?_ (aN 28 1 (by decide) ?_ (aB 29 0 28 (by decide) (trivial))))))))))))))))))))))))))))))) [] (fun q hq => by cases hq) (fun hY => absurd (hY 28 (by decide)) (by decide))
    · refine fI 31 (.pointer (some ⟨b7, 2, none⟩)) [(5, .pointer (some ⟨b7, 0, none⟩))] 17 [none] rfl rfl rfl rfl rfl rfl fun G a w S => ?_
      refine sField (b := b7) (off := 0) 2 2 S (wN rfl) rfl rfl rfl rfl rfl (lb rfl) fun a S => ?_
      exact leafL ⟨rfl, S⟩
    · refine fI 32 (.slice ad3 p3.Bits.length cp4) [(31, .pointer (some ⟨b7, 2, none⟩))] 18 [some 17] rfl rfl rfl rfl rfl rfl fun G a w S => ?_
      refine sLoad1 (p := b7) (off := 2) (T := 24) (vs := [iv p3.W, iv p3.H, .slice ad3 p3.Bits.length cp4]) 1 (.slice ad3 p3.Bits.length cp4) S (wN rfl) rfl rfl rfl rfl rfl rfl (lb rfl) fun a S => ?_
      exact leafL ⟨rfl, S⟩
    · refine fI 33 (iv s9) [(8, iv s9)] 19 [none] rfl rfl rfl rfl rfl rfl fun G a w S => ?_
      refine sMove (iv s9) S (wN rfl) (.inl rfl) rfl rfl (lb rfl) fun a S => ?_
      exact leafL ⟨rfl, S⟩
    · refine fI 34 (.pointer (some ⟨b7, 0, none⟩)) [(5, .pointer (some ⟨b7, 0, none⟩))] 20 [none] rfl rfl rfl rfl rfl rfl fun G a w S => ?_
      refine sField (b := b7) (off := 0) 0 0 S (wN rfl) rfl rfl rfl rfl rfl (lb rfl) fun a S => ?_
      exact leafL ⟨rfl, S⟩
    · refine fI 35 (iv p3.W) [(34, .pointer (some ⟨b7, 0, none⟩))] 21 [some 20] rfl rfl rfl rfl rfl rfl fun G a w S => ?_
      refine sLoad1 (p := b7) (off := 0) (T := 24) (vs := [iv p3.W, iv p3.H, .slice ad3 p3.Bits.length cp4]) 1 (iv p3.W) S (wN rfl) rfl rfl rfl rfl rfl rfl (lb rfl) fun a S => ?_
      exact leafL ⟨rfl, S⟩
    · refine fI 36 (iv (w64 (s9 * p3.W))) [(33, iv s9), (35, iv p3.W)] 22 [some 19, some 21] rfl rfl rfl rfl rfl rfl fun G a w S => ?_
      refine sBin (iv (w64 (s9 * p3.W))) S (wN rfl) rfl rfl rfl (bMul _ _ _ _ s9 p3.W) rfl (lb rfl) fun a S => ?_
      exact leafL ⟨rfl, S⟩
    · refine fI 37 (iv s9) [(8, iv s9)] 23 [none] rfl rfl rfl rfl rfl rfl fun G a w S => ?_
      refine sMove (iv s9) S (wN rfl) (.inl rfl) rfl rfl (lb rfl) fun a S => ?_
      exact leafL ⟨rfl, S⟩
    · refine fI 38 (iv (w64 (s9 + 1))) [(37, iv s9)] 24 [some 23] rfl rfl rfl rfl rfl rfl fun G a w S => ?_
      refine sBin (iv (w64 (s9 + 1))) S (wN rfl) rfl rfl rfl (bAdd _ _ _ _ s9 1) rfl (lb rfl) fun a S => ?_
      exact leafL ⟨rfl, S⟩
    · refine fI 39 (.pointer (some ⟨b7, 0, none⟩)) [(5, .pointer (some ⟨b7, 0, none⟩))] 25 [none] rfl rfl rfl rfl rfl rfl fun G a w S => ?_
      refine sField (b := b7) (off := 0) 0 0 S (wN rfl) rfl rfl rfl rfl rfl (lb rfl) fun a S => ?_
      exact leafL ⟨rfl, S⟩
    · refine fI 40 (iv p3.W) [(39, .pointer (some ⟨b7, 0, none⟩))] 26 [some 25] rfl rfl rfl rfl rfl rfl fun G a w S => ?_
      refine sLoad1 (p := b7) (off := 0) (T := 24) (vs := [iv p3.W, iv p3.H, .slice ad3 p3.Bits.length cp4]) 1 (iv p3.W) S (wN rfl) rfl rfl rfl rfl rfl rfl (lb rfl) fun a S => ?_
      exact leafL ⟨rfl, S⟩
    · refine fI 41 (iv (w64 ((w64 (s9 + 1)) * p3.W))) [(38, iv (w64 (s9 + 1))), (40, iv p3.W)] 27 [some 24, some 26] rfl rfl rfl rfl rfl rfl fun G a w S => ?_
      refine sBin (iv (w64 ((w64 (s9 + 1)) * p3.W))) S (wN rfl) rfl rfl rfl (bMul _ _ _ _ (w64 (s9 + 1)) p3.W) rfl (lb rfl) fun a S => ?_
      exact leafL ⟨rfl, S⟩
    refine ⟨_, [(32, .slice ad3 p3.Bits.length cp4), (36, iv (w64 (s9 * p3.W))), (41, iv (w64 ((w64 (s9 + 1)) * p3.W)))], rfl, (srcs_of [some 18, some 22, some 27] rfl rfl rfl), fun G a w S => ?_⟩
    refine sSlice (r := rB) (v := .slice ad3 p3.Bits.length cp4) (xs := p3.Bits) (vlo := (some (.int .i64 (w64 (s9 * p3.W))))) (vhi := (some (.int .i64 (w64 ((w64 (s9 + 1)) * p3.W))))) (lo' := w64 (s9 * p3.W)) (hi' := w64 ((w64 (s9 + 1)) * p3.W)) 0 S (wN rfl) rfl Try.underlying22 rfl rfl rfl rfl rfl (.inl rfl) (.inl rfl) hx27 rfl (lb rfl) fun a ad32 cp33 S => ?_
    refine leafL ⟨rfl, _, _, .inl ⟨42, (.slice ad32 y26.length cp33), [], rfl, S, hz_of rfl, ?_⟩⟩
    refine node_by (A := anc_block_put_s0_0) (nf := [16, 28, 29]) (Y := [28, 16]) 30 (by kernel_rfl) (by kernel_rfl) (by kernel_rfl) (by kernel_rfl) (by kernel_rfl) [28, 16, 0, 1, 2, 3, 4, 5, 6, 7, 8, 9, 10, 11, 12, 13, 14, 15, 17, 18, 19, 20, 21, 22, 23, 24, 25, 26, 27] (by kernel_rfl) (by decide) (by decide) (aD 0 29 16 (by decide) (aD 1 28 16 (by decide) (aD 2 27 16 (by decide) (aD 3 26 16 (by decide) (aD 4 25 16 (by decide) (aD 5 24 16 (by decide) (aD 6 23 16 (by decide) (aD 7 22 16 (by decide) (aD 8 21 16 (by decide) (aD 9 20 16 (by decide) (aD 10 19 16 (by decide) (aD 11 18 16 (by decide) (aD 12 17 16 (by decide) (aD 13 16 16 (by decide) (aD 14 15 16 (by decide) (aD 15 14 16 (by decide) (aY 16 13 (by decide) (aD 17 12 28 (by decide) (aD 18 11 28 (by decide) (aD 19 10 28 (by decide) (aD 20 9 28 (by decide) (aD 21 8 28 (by decide) (aD 22 7 28 (by decide) (aD 23 6 28 (by decide) (aD 24 5 28 (by decide) (aD 25 4 28 (by decide) (aD 26 3 28 (by decide) (aD 27 2 28 (by decide) (aY 28 1 (by decide) (aN 29 0 (by decide) ?_ (trivial))))))))))))))))))))))))))))))) [] (fun q hq => by cases hq) (fun hY => absurd (hY 29 (by decide)) (by decide))
    refine ⟨_, [(30, os30), (42, .slice ad32 y26.length cp33)], rfl, (srcs_of [some 1, some 0] rfl rfl rfl), fun G a w S => ?_⟩
    refine sCopyS (r := rB) (T := 4) (xs := s10) (ys := y26) (v := .slice ad_2 s10.length cp_2) (u := .slice ad32 y26.length cp33) (l := (w64 ((w64 ((w64 ((w64 (p5 * p3.H)) + s9)) * p0)) + (w64 (p4 * p3.W)))).toNat) (q := ((s10.length : Int)).toNat) 2 0 S hO31 (sliceO_le hx23).1 (sliceO_le hx23).2 (wN rfl) rfl Try.underlying22 rfl rfl rfl rfl rfl rfl (lb rfl) fun a w S => ?_
    refine leafL ⟨rfl, _, _, .inl ⟨43, (iv ((Nat.min y26.length (((s10.length : Int)).toNat - (w64 ((w64 ((w64 ((w64 (p5 * p3.H)) + s9)) * p0)) + (w64 (p4 * p3.W)))).toNat) : Nat) : Int)), [], rfl, S, hz_of rfl, ?_⟩⟩
    refine node_by (A := anc_block_put_s0_0) (nf := [16, 28, 29]) (Y := [29, 28, 16]) 30 (by kernel_rfl) (by kernel_rfl) (by kernel_rfl) (by kernel_rfl) (by kernel_rfl) [29, 28, 16, 0, 1, 2, 3, 4, 5, 6, 7, 8, 9, 10, 11, 12, 13, 14, 15, 17, 18, 19, 20, 21, 22, 23, 24, 25, 26, 27] (by kernel_rfl) (by decide) (by decide) (aD 0 29 29 (by decide) (aD 1 28 29 (by decide) (aD 2 27 29 (by decide) (aD 3 26 29 (by decide) (aD 4 25 29 (by decide) (aD 5 24 29 (by decide) (aD 6 23 29 (by decide) (aD 7 22 29 (by decide) (aD 8 21 29 (by decide) (aD 9 20 29 (by decide) (aD 10 19 29 (by decide) (aD 11 18 29 (by decide) (aD 12 17 29 (by decide) (aD 13 16 29 (by decide) (aD 14 15 29 (by decide) (aD 15 14 29 (by decide) (aY 16 13 (by decide) (aD 17 12 29 (by decide) (aD 18 11 29 (by decide) (aD 19 10 29 (by decide) (aD 20 9 29 (by decide) (aD 21 8 29 (by decide) (aD 22 7 29 (by decide) (aD 23 6 29 (by decide) (aD 24 5 29 (by decide) (aD 25 4 29 (by decide) (aD 26 3 29 (by decide) (aD 27 2 29 (by decide) (aY 28 1 (by decide) (aY 29 0 (by decide) (trivial))))))))))))))))))))))))))))))) [(2, iv p4), (3, iv p5), (4, .pointer (some ⟨b6, 0, none⟩)), (5, .pointer (some ⟨b7, 0, none⟩)), (10, iv p3.H), (11, iv s9)] (fin_of [none, none, none, none, none, none] rfl (by kernel_rfl) (by kernel_rfl)) (fun _ a w S => ?_)
    rw [cpA_v hx23 y26 ad_2 cp_2] at S
    exact leafB (leafT (⟨cpA s10 (w64 ((w64 ((w64 ((w64 (p5 * p3.H)) + s9)) * p0)) + (w64 (p4 * p3.W)))).toNat ((s10.length : Int)).toNat y26, Option.some.inj h, S.fix [1, 2, 0] [1] (by decide) rfl rfl rfl⟩))
  · refine fI 31 (.pointer (some ⟨b7, 2, none⟩)) [(5, .pointer (some ⟨b7, 0, none⟩))] 16 [none] rfl rfl rfl rfl rfl rfl fun G a w S => ?_
    refine sField (b := b7) (off := 0) 2 2 S (wN rfl) rfl rfl rfl rfl rfl (lb rfl) fun a S => ?_
    exact leafL ⟨rfl, S⟩
  · refine fI 32 (.slice ad3 p3.Bits.length cp4) [(31, .pointer (some ⟨b7, 2, none⟩))] 17 [some 16] rfl rfl rfl rfl rfl rfl fun G a w S => ?_
    refine sLoad1 (p := b7) (off := 2) (T := 24) (vs := [iv p3.W, iv p3.H, .slice ad3 p3.Bits.length cp4]) 1 (.slice ad3 p3.Bits.length cp4) S (wN rfl) rfl rfl rfl rfl rfl rfl (lb rfl) fun a S => ?_
    exact leafL ⟨rfl, S⟩
  · refine fI 33 (iv s9) [(8, iv s9)] 18 [none] rfl rfl rfl rfl rfl rfl fun G a w S => ?_
    refine sMove (iv s9) S (wN rfl) (.inl rfl) rfl rfl (lb rfl) fun a S => ?_
    exact leafL ⟨rfl, S⟩
  · refine fI 34 (.pointer (some ⟨b7, 0, none⟩)) [(5, .pointer (some ⟨b7, 0, none⟩))] 19 [none] rfl rfl rfl rfl rfl rfl fun G a w S => ?_
    refine sField (b := b7) (off := 0) 0 0 S (wN rfl) rfl rfl rfl rfl rfl (lb rfl) fun a S => ?_
    exact leafL ⟨rfl, S⟩
  · refine fI 35 (iv p3.W) [(34, .pointer (some ⟨b7, 0, none⟩))] 20 [some 19] rfl rfl rfl rfl rfl rfl fun G a w S => ?_
    refine sLoad1 (p := b7) (off := 0) (T := 24) (vs := [iv p3.W, iv p3.H, .slice ad3 p3.Bits.length cp4]) 1 (iv p3.W) S (wN rfl) rfl rfl rfl rfl rfl rfl (lb rfl) fun a S => ?_
    exact leafL ⟨rfl, S⟩
  · refine fI 36 (iv (w64 (s9 * p3.W))) [(33, iv s9), (35, iv p3.W)] 21 [some 18, some 20] rfl rfl rfl rfl rfl rfl fun G a w S => ?_
    refine sBin (iv (w64 (s9 * p3.W))) S (wN rfl) rfl rfl rfl (bMul _ _ _ _ s9 p3.W) rfl (lb rfl) fun a S => ?_
    exact leafL ⟨rfl, S⟩
  · refine fI 37 (iv s9) [(8, iv s9)] 22 [none] rfl rfl rfl rfl rfl rfl fun G a w S => ?_
    refine sMove (iv s9) S (wN rfl) (.inl rfl) rfl rfl (lb rfl) fun a S => ?_
    exact leafL ⟨rfl, S⟩
  · refine fI 38 (iv (w64 (s9 + 1))) [(37, iv s9)] 23 [some 22] rfl rfl rfl rfl rfl rfl fun G a w S => ?_
    refine sBin (iv (w64 (s9 + 1))) S (wN rfl) rfl rfl rfl (bAdd _ _ _ _ s9 1) rfl (lb rfl) fun a S => ?_
    exact leafL ⟨rfl, S⟩
  · refine fI 39 (.pointer (some ⟨b7, 0, none⟩)) [(5, .pointer (some ⟨b7, 0, none⟩))] 24 [none] rfl rfl rfl rfl rfl rfl fun G a w S => ?_
    refine sField (b := b7) (off := 0) 0 0 S (wN rfl) rfl rfl rfl rfl rfl (lb rfl) fun a S => ?_
    exact leafL ⟨rfl, S⟩
  · refine fI 40 (iv p3.W) [(39, .pointer (some ⟨b7, 0, none⟩))] 25 [some 24] rfl rfl rfl rfl rfl rfl fun G a w S => ?_
    refine sLoad1 (p := b7) (off := 0) (T := 24) (vs := [iv p3.W, iv p3.H, .slice ad3 p3.Bits.length cp4]) 1 (iv p3.W) S (wN rfl) rfl rfl rfl rfl rfl rfl (lb rfl) fun a S => ?_
    exact leafL ⟨rfl, S⟩
  · refine fI 41 (iv (w64 ((w64 (s9 + 1)) * p3.W))) [(38, iv (w64 (s9 + 1))), (40, iv p3.W)] 26 [some 23, some 25] rfl rfl rfl rfl rfl rfl fun G a w S => ?_
    refine sBin (iv (w64 ((w64 (s9 + 1)) * p3.W))) S (wN rfl) rfl rfl rfl (bMul _ _ _ _ (w64 (s9 + 1)) p3.W) rfl (lb rfl) fun a S => ?_
    exact leafL ⟨rfl, S⟩
  refine ⟨_, [(32, .slice ad3 p3.Bits.length cp4), (36, iv (w64 (s9 * p3.W))), (41, iv (w64 ((w64 (s9 + 1)) * p3.W)))], rfl, (srcs_of [some 17, some 21, some 26] rfl rfl rfl), fun G a w S => ?_⟩
  refine sSlice (r := rB) (v := .slice ad3 p3.Bits.length cp4) (xs := p3.Bits) (vlo := (some (.int .i64 (w64 (s9 * p3.W))))) (vhi := (some (.int .i64 (w64 ((w64 (s9 + 1)) * p3.W))))) (lo' := w64 (s9 * p3.W)) (hi' := w64 ((w64 (s9 + 1)) * p3.W)) 0 S (wN rfl) rfl Try.underlying22 rfl rfl rfl rfl rfl (.inl rfl) (.inl rfl) hx27 rfl (lb rfl) fun a ad34 cp35 S => ?_
  refine leafL ⟨rfl, _, _, .inl ⟨42, (.slice ad34 y26.length cp35), [], rfl, S, hz_of rfl, ?_⟩⟩
  refine node_by (A := anc_block_put_s0_0) (nf := [16, 28, 29]) (Y := [28]) 30 (by kernel_rfl) (by kernel_rfl) (by kernel_rfl) (by kernel_rfl) (by kernel_rfl) [28, 0, 1, 2, 3, 4, 5, 6, 7, 8, 9, 10, 11, 12, 13, 14, 15, 17, 18, 19, 20, 21, 22, 23, 24, 25, 26, 27] (by kernel_rfl) (by decide) (by decide) (aF 0 29 (by decide) ?_ (aF 1 28 (by decide) ?_ (aF 2 27 (by decide) ?_ (aF 3 26 (by decide) ?_ (aF 4 25 (by decide) ?_ (aF 5 24 (by decide) ?_ (aF 6 23 (by decide) ?_ (aF 7 22 (by decide) ?_ (aF 8 21 (by decide) ?_ (aF 9 20 (by decide) ?_ (aF 10 19 (by decide) ?_ (aF 11 18 (by decide) ?_ (aF 12 17 (by decide) ?_ (aF 13 16 (by decide) ?_ (aF 14 15 (by decide) ?_ (aF 15 14 (by decide) ?_ (aN 16 13 (by decide) ?_ (aD 17 12 28 (by decide) (aD 18 11 28 (by decide) (aD 19 10 28 (by decide) (aD 20 9 28 (by decide) (aD 21 8 28 (by decide) (aD 22 7 28 (by decide) (aD 23 6 28 (by decide) (aD 24 5 28 (by decide) (aD 25 4 28 (by decide) (aD 26 3 28 (by decide) (aD 27 2 28 (by decide) (aY 28 1 (by decide) (aB 29 0 16 (by decide) (trivial))))))))))))))))))))))))))))))) [] (fun q hq => by cases hq) (fun hY => absurd (hY 16 (by decide)) (by decide))
  · refine fI 14 (.pointer (some ⟨b6, 2, none⟩)) [(4, .pointer (some ⟨b6, 0, none⟩))] 1 [none] rfl rfl rfl rfl rfl rfl fun G a w S => ?_
    refine sField (b := b6) (off := 0) 2 2 S (wN rfl) rfl rfl rfl rfl rfl (lb rfl) fun a S => ?_
    exact leafL ⟨rfl, S⟩
  · refine fI 15 (.slice ad_2 s10.length cp_2) [(14, .pointer (some ⟨b6, 2, none⟩))] 2 [some 1] rfl rfl rfl rfl rfl rfl fun G a w S => ?_
    refine sLoad1 (p := b6) (off := 2) (T := 24) (vs := [iv p0, iv p1, .slice ad_2 s10.length cp_2]) 0 (.slice ad_2 s10.length cp_2) S (wN rfl) rfl rfl rfl rfl rfl rfl (lb rfl) fun a S => ?_
    exact leafL ⟨rfl, S⟩
  · refine fI 16 (iv p5) [(3, iv p5)] 3 [none] rfl rfl rfl rfl rfl rfl fun G a w S => ?_
    refine sMove (iv p5) S (wN rfl) (.inl rfl) rfl rfl (lb rfl) fun a S => ?_
    exact leafL ⟨rfl, S⟩
  · refine fI 17 (.pointer (some ⟨b7, 1, none⟩)) [(5, .pointer (some ⟨b7, 0, none⟩))] 4 [none] rfl rfl rfl rfl rfl rfl fun G a w S => ?_
    refine sField (b := b7) (off := 0) 1 1 S (wN rfl) rfl rfl rfl rfl rfl (lb rfl) fun a S => ?_
    exact leafL ⟨rfl, S⟩
  · refine fI 18 (iv p3.H) [(17, .pointer (some ⟨b7, 1, none⟩))] 5 [some 4] rfl rfl rfl rfl rfl rfl fun G a w S => ?_
    refine sLoad1 (p := b7) (off := 1) (T := 24) (vs := [iv p3.W, iv p3.H, .slice ad3 p3.Bits.length cp4]) 1 (iv p3.H) S (wN rfl) rfl rfl rfl rfl rfl rfl (lb rfl) fun a S => ?_
    exact leafL ⟨rfl, S⟩
  · refine fI 19 (iv (w64 (p5 * p3.H))) [(16, iv p5), (18, iv p3.H)] 6 [some 3, some 5] rfl rfl rfl rfl rfl rfl fun G a w S => ?_
    refine sBin (iv (w64 (p5 * p3.H))) S (wN rfl) rfl rfl rfl (bMul _ _ _ _ p5 p3.H) rfl (lb rfl) fun a S => ?_
    exact leafL ⟨rfl, S⟩
  · refine fI 20 (iv s9) [(8, iv s9)] 7 [none] rfl rfl rfl rfl rfl rfl fun G a w S => ?_
    refine sMove (iv s9) S (wN rfl) (.inl rfl) rfl rfl (lb rfl) fun a S => ?_
    exact leafL ⟨rfl, S⟩
  · refine fI 21 (iv (w64 ((w64 (p5 * p3.H)) + s9))) [(19, iv (w64 (p5 * p3.H))), (20, iv s9)] 8 [some 6, some 7] rfl rfl rfl rfl rfl rfl fun G a w S => ?_
    refine sBin (iv (w64 ((w64 (p5 * p3.H)) + s9))) S (wN rfl) rfl rfl rfl (bAdd _ _ _ _ (w64 (p5 * p3.H)) s9) rfl (lb rfl) fun a S => ?_
    exact leafL ⟨rfl, S⟩
  · refine fI 22 (.pointer (some ⟨b6, 0, none⟩)) [(4, .pointer (some ⟨b6, 0, none⟩))] 9 [none] rfl rfl rfl rfl rfl rfl fun G a w S => ?_
    refine sField (b := b6) (off := 0) 0 0 S (wN rfl) rfl rfl rfl rfl rfl (lb rfl) fun a S => ?_
    exact leafL ⟨rfl, S⟩
  · refine fI 23 (iv p0) [(22, .pointer (some ⟨b6, 0, none⟩))] 10 [some 9] rfl rfl rfl rfl rfl rfl fun G a w S => ?_
    refine sLoad1 (p := b6) (off := 0) (T := 24) (vs := [iv p0, iv p1, .slice ad_2 s10.length cp_2]) 0 (iv p0) S (wN rfl) rfl rfl rfl rfl rfl rfl (lb rfl) fun a S => ?_
    exact leafL ⟨rfl, S⟩
  · refine fI 24 (iv (w64 ((w64 ((w64 (p5 * p3.H)) + s9)) * p0))) [(21, iv (w64 ((w64 (p5 * p3.H)) + s9))), (23, iv p0)] 11 [some 8, some 10] rfl rfl rfl rfl rfl rfl fun G a w S => ?_
    refine sBin (iv (w64 ((w64 ((w64 (p5 * p3.H)) + s9)) * p0))) S (wN rfl) rfl rfl rfl (bMul _ _ _ _ (w64 ((w64 (p5 * p3.H)) + s9)) p0) rfl (lb rfl) fun a S => ?_
    exact leafL ⟨rfl, S⟩
  · refine fI 25 (iv p4) [(2, iv p4)] 12 [none] rfl rfl rfl rfl rfl rfl fun G a w S => ?_
    refine sMove (iv p4) S (wN rfl) (.inl rfl) rfl rfl (lb rfl) fun a S => ?_
    exact leafL ⟨rfl, S⟩
  · refine fI 26 (.pointer (some ⟨b7, 0, none⟩)) [(5, .pointer (some ⟨b7, 0, none⟩))] 13 [none] rfl rfl rfl rfl rfl rfl fun G a w S => ?_
    refine sField (b := b7) (off := 0) 0 0 S (wN rfl) rfl rfl rfl rfl rfl (lb rfl) fun a S => ?_
    exact leafL ⟨rfl, S⟩
  · refine fI 27 (iv p3.W) [(26, .pointer (some ⟨b7, 0, none⟩))] 14 [some 13] rfl rfl rfl rfl rfl rfl fun G a w S => ?_
    refine sLoad1 (p := b7) (off := 0) (T := 24) (vs := [iv p3.W, iv p3.H, .slice ad3 p3.Bits.length cp4]) 1 (iv p3.W) S (wN rfl) rfl rfl rfl rfl rfl rfl (lb rfl) fun a S => ?_
    exact leafL ⟨rfl, S⟩
  · refine fI 28 (iv (w64 (p4 * p3.W))) [(25, iv p4), (27, iv p3.W)] 15 [some 12, some 14] rfl rfl rfl rfl rfl rfl fun G a w S => ?_
    refine sBin (iv (w64 (p4 * p3.W))) S (wN rfl) rfl rfl rfl (bMul _ _ _ _ p4 p3.W) rfl (lb rfl) fun a S => ?_
    exact leafL ⟨rfl, S⟩
  · refine fI 29 (iv (w64 ((w64 ((w64 ((w64 (p5 * p3.H)) + s9)) * p0)) + (w64 (p4 * p3.W))))) [(24, iv (w64 ((w64 ((w64 (p5 * p3.H)) + s9)) * p0))), (28, iv (w64 (p4 * p3.W)))] 16 [some 11, some 15] rfl rfl rfl rfl rfl rfl fun G a w S => ?_
    refine sBin (iv (w64 ((w64 ((w64 ((w64 (p5 * p3.H)) + s9)) * p0)) + (w64 (p4 * p3.W))))) S (wN rfl) rfl rfl rfl (bAdd _ _ _ _ (w64 ((w64 ((w64 (p5 * p3.H)) + s9)) * p0)) (w64 (p4 * p3.W))) rfl (lb rfl) fun a S => ?_
    exact leafL ⟨rfl, S⟩
  refine ⟨_, [(15, .slice ad_2 s10.length cp_2), (29, iv (w64 ((w64 ((w64 ((w64 (p5 * p3.H)) + s9)) * p0)) + (w64 (p4 * p3.W)))))], rfl, (srcs_of [some 2, some 16] rfl rfl rfl), fun G a w S => ?_⟩
  refine sSliceR (r := rB) (T := 4) (v := .slice ad_2 s10.length cp_2) (xs := s10) (vlo := (some (.int .i64 (w64 ((w64 ((w64 ((w64 (p5 * p3.H)) + s9)) * p0)) + (w64 (p4 * p3.W))))))) (vhi := none) (lo' := w64 ((w64 ((w64 ((w64 (p5 * p3.H)) + s9)) * p0)) + (w64 (p4 * p3.W)))) (hi' := (s10.length : Int)) 2 S (wN rfl) rfl Try.underlying22 rfl rfl rfl rfl rfl (.inl rfl) (.inr ⟨rfl, rfl⟩) hx23 rfl (lb rfl) fun a os36 hO37 S => ?_
  refine leafL ⟨rfl, _, _, .inl ⟨30, os36, [], rfl, S, hz_of rfl, ?_⟩⟩
  refine node_by (A := anc_block_put_s0_0) (nf := [16, 28, 29]) (Y := [16, 28]) 30 (by kernel_rfl) (by kernel_rfl) (by kernel_rfl) (by kernel_rfl) (by kernel_rfl) [16, 28, 0, 1, 2, 3, 4, 5, 6, 7, 8, 9, 10, 11, 12, 13, 14, 15, 17, 18, 19, 20, 21, 22, 23, 24, 25, 26, 27] (by kernel_rfl) (by decide) (by decide) (aD 0 29 16 (by decide) (aD 1 28 16 (by decide) (aD 2 27 16 (by decide) (aD 3 26 16 (by decide) (aD 4 25 16 (by decide) (aD 5 24 16 (by decide) (aD 6 23 16 (by decide) (aD 7 22 16 (by decide) (aD 8 21 16 (by decide) (aD 9 20 16 (by decide) (aD 10 19 16 (by decide) (aD 11 18 16 (by decide) (aD 12 17 16 (by decide) (aD 13 16 16 (by decide) (aD 14 15 16 (by decide) (aD 15 14 16 (by decide) (aY 16 13 (by decide) (aD 17 12 28 (by decide) (aD 18 11 28 (by decide) (aD 19 10 28 (by decide) (aD 20 9 28 (by decide) (aD 21 8 28 (by decide) (aD 22 7 28 (by decide) (aD 23 6 28 (by decide) (aD 24 5 28 (by decide) (aD 25 4 28 (by decide) (aD 26 3 28 (by decide) (aD 27 2 28 (by decide) (aY 28 1 (by decide) (aN 29 0 (by decide) ?_ (trivial))))))))))))))))))))))))))))))) [] (fun q hq => by cases hq) (fun hY => absurd (hY 29 (by decide)) (by decide))
  refine ⟨_, [(30, os36), (42, .slice ad34 y26.length cp35)], rfl, (srcs_of [some 0, some 1] rfl rfl rfl), fun G a w S => ?_⟩
  refine sCopyS (r := rB) (T := 4) (xs := s10) (ys := y26) (v := .slice ad_2 s10.length cp_2) (u := .slice ad34 y26.length cp35) (l := (w64 ((w64 ((w64 ((w64 (p5 * p3.H)) + s9)) * p0)) + (w64 (p4 * p3.W)))).toNat) (q := ((s10.length : Int)).toNat) 2 0 S hO37 (sliceO_le hx23).1 (sliceO_le hx23).2 (wN rfl) rfl Try.underlying22 rfl rfl rfl rfl rfl rfl (lb rfl) fun a w S => ?_
  refine leafL ⟨rfl, _, _, .inl ⟨43, (iv ((Nat.min y26.length (((s10.length : Int)).toNat - (w64 ((w64 ((w64 ((w64 (p5 * p3.H)) + s9)) * p0)) + (w64 (p4 * p3.W)))).toNat) : Nat) : Int)), [], rfl, S, hz_of rfl, ?_⟩⟩
  refine node_by (A := anc_block_put_s0_0) (nf := [16, 28, 29]) (Y := [29, 16, 28]) 30 (by kernel_rfl) (by kernel_rfl) (by kernel_rfl) (by kernel_rfl) (by kernel_rfl) [29, 16, 28, 0, 1, 2, 3, 4, 5, 6, 7, 8, 9, 10, 11, 12, 13, 14, 15, 17, 18, 19, 20, 21, 22, 23, 24, 25, 26, 27] (by kernel_rfl) (by decide) (by decide) (aD 0 29 29 (by decide) (aD 1 28 29 (by decide) (aD 2 27 29 (by decide) (aD 3 26 29 (by decide) (aD 4 25 29 (by decide) (aD 5 24 29 (by decide) (aD 6 23 29 (by decide) (aD 7 22 29 (by decide) (aD 8 21 29 (by decide) (aD 9 20 29 (by decide) (aD 10 19 29 (by decide) (aD 11 18 29 (by decide) (aD 12 17 29 (by decide) (aD 13 16 29 (by decide) (aD 14 15 29 (by decide) (aD 15 14 29 (by decide) (aY 16 13 (by decide) (aD 17 12 29 (by decide) (aD 18 11 29 (by decide) (aD 19 10 29 (by decide) (aD 20 9 29 (by decide) (aD 21 8 29 (by decide) (aD 22 7 29 (by decide) (aD 23 6 29 (by decide) (aD 24 5 29 (by decide) (aD 25 4 29 (by decide) (aD 26 3 29 (by decide) (aD 27 2 29 (by decide) (aY 28 1 (by decide) (aY 29 0 (by decide) (trivial))))))))))))))))))))))))))))))) [(2, iv p4), (3, iv p5), (4, .pointer (some ⟨b6, 0, none⟩)), (5, .pointer (some ⟨b7, 0, none⟩)), (10, iv p3.H), (11, iv s9)] (fin_of [none, none, none, none, none, none] rfl (by kernel_rfl) (by kernel_rfl)) (fun _ a w S => ?_)
  rw [cpA_v hx23 y26 ad_2 cp_2] at S
  exact leafB (leafT (⟨cpA s10 (w64 ((w64 ((w64 ((w64 (p5 * p3.H)) + s9)) * p0)) + (w64 (p4 * p3.W)))).toNat ((s10.length : Int)).toNat y26, Option.some.inj h, S.fix [1, 2, 0] [1] (by decide) rfl rfl rfl⟩))

end Go.Proofs.Ythfifeabomdlpaa
namespace Go.Proofs.Ythfifeabomdlpaa
open Go.RowKit
set_option linter.unusedVariables false

end Go.Proofs.Ythfifeabomdlpaa
namespace Go.Proofs.Ythfifeabomdlpaa
open Go.RowKit
set_option linter.unusedVariables false

noncomputable def F_raddleref01_Zero_s0 (p0 : Int) (p1 : Int) : Option api_Grid :=
  Option.bind (makeO (w64 (p0 * p1)) false) fun m6 =>
  some (api_Grid.mk p0 p1 m6)
set_option maxHeartbeats 4000000 in
set_option maxRecDepth 100000 in
theorem c_raddleref01_Zero_s0 (E : Nat → Prop) (w0 : World) (p0 : Int) (p1 : Int) (r : api_Grid) (h : F_raddleref01_Zero_s0 p0 p1 = some r) (S : St0 E [] w0 w0 [] []) :
    Calls Try.prog 40 #[iv p0, iv p1] w0 (Ret (X := Option Addr × Nat) E [] w0 (fun x => .agg #[iv r.W, iv r.H, .slice x.1 r.Bits.length x.2]) (fun x => [eRow rB 4 (.slice x.1 r.Bits.length x.2) r.Bits]) (fun _ => [])) := by
  unfold F_raddleref01_Zero_s0 at h
  refine sEnter (args := [iv p0, iv p1]) 12 Try.func40 rfl rfl (by simp) S (fun a S => ?_)
  refine sSeq (fun K1 hK1 => ?_)
  refine sRegion ?_
  refine sAlloc (.agg #[iv 0, iv 0, .slice none 0 0]) S (wN rfl) rfl rfl [iv 0, iv 0, .slice none 0 0] rfl rfl (lb rfl) fun a b2 w S => ?_
  refine leafL (leafT (hK1 _ _ ?_))
  refine sSeq (fun K3 hK3 => ?_)
  refine sRegion ?_
  refine sMove (iv p0) S (wN rfl) (.inl rfl) rfl rfl (lb rfl) fun a S => ?_
  refine sMove (iv p1) S (wN rfl) (.inl rfl) rfl rfl (lb rfl) fun a S => ?_
  refine sMove (iv p0) S (wN rfl) (.inl rfl) rfl rfl (lb rfl) fun a S => ?_
  refine sMove (iv p1) S (wN rfl) (.inl rfl) rfl rfl (lb rfl) fun a S => ?_
  refine sBin (iv (w64 (p0 * p1))) S (wN rfl) rfl rfl rfl (bMul _ _ _ _ p0 p1) rfl (lb rfl) fun a S => ?_
  obtain ⟨m6, hx7, h⟩ := bindSome h
  refine sMake (r := rB) (m := w64 (p0 * p1)) (xs := m6) (.bool false) false 1 S (wN rfl) rfl Try.underlying22 rfl rfl (by decide) (fun _ _ => rfl) rfl rfl hx7 rfl (lb rfl) fun a w ad4 cp5 S => ?_
  refine sBuild [(0, iv p0), (1, iv p1), (2, .slice ad4 m6.length cp5)] [iv p0, iv p1, .slice ad4 m6.length cp5] S (wN rfl) rfl rfl rfl rfl (lb rfl) fun a S => ?_
  refine sStore (p := b2) (off := 0) (T := 24) (vs := [iv 0, iv 0, .slice none 0 0]) (v := .agg #[iv p0, iv p1, .slice ad4 m6.length cp5]) 1 [iv p0, iv p1, .slice ad4 m6.length cp5] S (wN rfl) rfl rfl rfl rfl rfl rfl rfl (by simp) rfl fun a w S => ?_
  refine leafL (leafT (hK3 _ _ ?_))
  obtain rfl := Option.some.inj h
  exact wp_ret (sRet (.agg #[iv p0, iv p1, .slice ad4 m6.length cp5]) S (rsl1 rfl (rvN (c := 4) (t := 24) (T := 24) (p := b2) 0 [iv p0, iv p1, .slice ad4 m6.length cp5] S rfl rfl rfl rfl)) ⟨(ad4, cp5), rfl, S.mem.sel [1] [] (by decide) rfl rfl⟩)

end Go.Proofs.Ythfifeabomdlpaa
namespace Go.Proofs.Ythfifeabomdlpaa
open Go.RowKit
set_option linter.unusedVariables false

noncomputable def F_raddleref01_Check (p0 : api_Grid) : Option Int :=
  Option.bind (α := Bool) (
    if decide (64 < p0.W) then
      some true
    else
      some (decide (64 < p0.H))) fun o8 =>
  if o8 then
    some 4
  else
    Option.bind (α := Bool) (
      if decide (p0.W < 1) then
        some true
      else
        if decide (p0.H < 1) then
          some true
        else
          some ((p0.Bits.length : Int) != (w64 (p0.W * p0.H)))) fun o15 =>
    if o15 then
      some 8
    else
      some 0
set_option maxHeartbeats 4000000 in
set_option maxRecDepth 100000 in
theorem c_raddleref01_Check (E : Nat → Prop) (w0 : World) (p0 : api_Grid) (v0 : Value) (r : Int) (h : F_raddleref01_Check p0 = some r) (S : St0 E [] w0 w0 [] [fRep r_api_Grid (v0) p0]) :
    Calls Try.prog 53 #[v0] w0 (Ret (X := Unit) E [] w0 (fun _ => .int .i64 r) (fun _ => []) (fun _ => [])) := by
  unfold F_raddleref01_Check at h
  obtain ⟨u1, rfl, hu2⟩ := S.know (i := 0) (e := fRep r_api_Grid (v0) p0) rfl
  have S := S.learn (fRep (rL rB) u1 p0.Bits) hu2
  obtain ⟨ad3, cp4, _, rfl, _⟩ := hu2
  refine sEnter (args := [.agg #[iv p0.W, iv p0.H, .slice ad3 p0.Bits.length cp4]]) 30 Try.func53 rfl rfl (by simp) S (fun a S => ?_)
  refine sSeq (fun K5 hK5 => ?_)
  refine sRegion ?_
  refine sBox (v := .agg #[iv p0.W, iv p0.H, .slice ad3 p0.Bits.length cp4]) S (wN rfl) rfl rfl [iv p0.W, iv p0.H, .slice ad3 p0.Bits.length cp4] rfl rfl (lb rfl) fun a b6 w S => ?_
  refine sMove (iv 0) S (wN rfl) (.inr rfl) rfl rfl (lb rfl) fun a S => ?_
  refine leafL (leafT (hK5 _ _ ?_))
  refine sSeq (fun K7 hK7 => ?_)
  obtain ⟨t9, h, g10⟩ := bindSome h
  refine sCut (fun a w => ∃ o8, o8 = t9 ∧ St [] E [] w0 30 a w [(1, .pointer (some ⟨b6, 0, none⟩)), (10, .bool o8)] [eBox b6 24 [iv p0.W, iv p0.H, .slice ad3 p0.Bits.length cp4]] [fRep (rL rB) (.slice ad3 p0.Bits.length cp4) p0.Bits]) ?_ (fun a w hI => ?_)
  · refine sRegion ?_
    refine sField (b := b6) (off := 0) 0 0 S (wN rfl) rfl rfl rfl rfl rfl (lb rfl) fun a S => ?_
    refine sLoad1 (p := b6) (off := 0) (T := 24) (vs := [iv p0.W, iv p0.H, .slice ad3 p0.Bits.length cp4]) 0 (iv p0.W) S (wN rfl) rfl rfl rfl rfl rfl rfl (lb rfl) fun a S => ?_
    refine sBin (.bool (decide (64 < p0.W))) S (wN rfl) rfl rfl rfl (bGt _ _ _ _ .i64 p0.W 64) rfl (lb rfl) fun a S => ?_
    refine sMove (.bool (decide (64 < p0.W))) S (wN rfl) (.inl rfl) rfl rfl (lb rfl) fun a S => ?_
    rcases iteSome h with ⟨hc11, h⟩ | ⟨hc11, h⟩
    · refine sSkip 3 false 6 7 S rfl rfl rfl hc11 rfl (lb rfl) fun a S => ?_
      refine sSkip 3 false 6 8 S rfl rfl rfl hc11 rfl (lb rfl) fun a S => ?_
      refine sSkip 3 false 6 9 S rfl rfl rfl hc11 rfl (lb rfl) fun a S => ?_
      refine sPickT (.bool true) S (wN rfl) rfl rfl hc11 rfl rfl (lb rfl) fun a S => ?_
      exact leafL (leafT (⟨true, Option.some.inj h, S.fix [0] [0] (by decide) rfl rfl rfl⟩))
    refine sField (b := b6) (off := 0) 1 1 S (wG 3 false 6 rfl rfl rfl hc11) rfl rfl rfl rfl rfl (lb rfl) fun a S => ?_
    refine sLoad1 (p := b6) (off := 1) (T := 24) (vs := [iv p0.W, iv p0.H, .slice ad3 p0.Bits.length cp4]) 0 (iv p0.H) S (wG 3 false 6 rfl rfl rfl hc11) rfl rfl rfl rfl rfl rfl (lb rfl) fun a S => ?_
    refine sBin (.bool (decide (64 < p0.H))) S (wG 3 false 6 rfl rfl rfl hc11) rfl rfl rfl (bGt _ _ _ _ .i64 p0.H 64) rfl (lb rfl) fun a S => ?_
    refine sPickF (.bool (decide (64 < p0.H))) S (wN rfl) rfl rfl hc11 rfl rfl (lb rfl) fun a S => ?_
    exact leafL (leafT (⟨decide (64 < p0.H), Option.some.inj h, S.fix [0] [0] (by decide) rfl rfl rfl⟩))
  obtain ⟨o8, rfl, S⟩ := hI
  have h := g10
  clear g10
  try dsimp only at h
  rcases iteSome h with ⟨hc12, h⟩ | ⟨hc12, h⟩
  · refine sCondT S rfl hc12 ?_
    refine sSeq (fun K13 hK13 => ?_)
    refine sRegion ?_
    refine sMove (iv 4) S (wN rfl) (.inr rfl) rfl rfl (lb rfl) fun a S => ?_
    refine leafL (leafT (hK13 _ _ ?_))
    obtain rfl := Option.some.inj h
    exact wp_ret (rThen (sRet (iv 4) S (rsl1 rfl (rvT (t := 2) (v := iv 4) S rfl)) ⟨(), rfl, S.mem.sel [] [] (by decide) rfl rfl⟩))
  refine sCondF S rfl hc12 ?_
  refine wp_skip (leafT (hK7 _ _ ?_))
  refine sSeq (fun K14 hK14 => ?_)
  obtain ⟨t16, h, g17⟩ := bindSome h
  refine sCut (fun a w => ∃ o15, o15 = t16 ∧ St [] E [] w0 30 a w [(29, .bool o15)] [] []) ?_ (fun a w hI => ?_)
  rotate_left
  · obtain ⟨o15, rfl, S⟩ := hI
    have h := g17
    clear g17
    try dsimp only at h
    rcases iteSome h with ⟨hc20, h⟩ | ⟨hc20, h⟩
    · refine sCondT S rfl hc20 ?_
      refine sSeq (fun K21 hK21 => ?_)
      refine sRegion ?_
      refine sMove (iv 8) S (wN rfl) (.inr rfl) rfl rfl (lb rfl) fun a S => ?_
      refine leafL (leafT (hK21 _ _ ?_))
      obtain rfl := Option.some.inj h
      exact wp_ret (rThen (sRet (iv 8) S (rsl1 rfl (rvT (t := 2) (v := iv 8) S rfl)) ⟨(), rfl, S.mem.sel [] [] (by decide) rfl rfl⟩))
    refine sCondF S rfl hc20 ?_
    refine wp_skip (leafT (hK14 _ _ ?_))
    refine sSeq (fun K22 hK22 => ?_)
    refine sRegion ?_
    refine sMove (iv 0) S (wN rfl) (.inr rfl) rfl rfl (lb rfl) fun a S => ?_
    refine leafL (leafT (hK22 _ _ ?_))
    obtain rfl := Option.some.inj h
    exact wp_ret (sRet (iv 0) S (rsl1 rfl (rvT (t := 2) (v := iv 0) S rfl)) ⟨(), rfl, S.mem.sel [] [] (by decide) rfl rfl⟩)
  refine sRegion ?_
  refine sField (b := b6) (off := 0) 0 0 S (wN rfl) rfl rfl rfl rfl rfl (lb rfl) fun a S => ?_
  refine sLoad1 (p := b6) (off := 0) (T := 24) (vs := [iv p0.W, iv p0.H, .slice ad3 p0.Bits.length cp4]) 0 (iv p0.W) S (wN rfl) rfl rfl rfl rfl rfl rfl (lb rfl) fun a S => ?_
  refine sBin (.bool (decide (p0.W < 1))) S (wN rfl) rfl rfl rfl (bLt _ _ _ _ .i64 p0.W 1) rfl (lb rfl) fun a S => ?_
  refine sMove (.bool (decide (p0.W < 1))) S (wN rfl) (.inl rfl) rfl rfl (lb rfl) fun a S => ?_
  rcases iteSome h with ⟨hc18, h⟩ | ⟨hc18, h⟩
  · refine sSkip 3 false 14 15 S rfl rfl rfl hc18 rfl (lb rfl) fun a S => ?_
    refine sSkip 3 false 14 16 S rfl rfl rfl hc18 rfl (lb rfl) fun a S => ?_
    refine sSkip 3 false 14 17 S rfl rfl rfl hc18 rfl (lb rfl) fun a S => ?_
    refine sPickT (.bool true) S (wN rfl) rfl rfl hc18 rfl rfl (lb rfl) fun a S => ?_
    refine sMove (.bool true) S (wN rfl) (.inl rfl) rfl rfl (lb rfl) fun a S => ?_
    refine sSkip 8 false 19 20 S rfl rfl rfl rfl rfl (lb rfl) fun a S => ?_
    refine sSkip 8 false 19 21 S rfl rfl rfl rfl rfl (lb rfl) fun a S => ?_
    refine sSkip 8 false 19 22 S rfl rfl rfl rfl rfl (lb rfl) fun a S => ?_
    refine sSkip 8 false 19 23 S rfl rfl rfl rfl rfl (lb rfl) fun a S => ?_
    refine sSkip 8 false 19 24 S rfl rfl rfl rfl rfl (lb rfl) fun a S => ?_
    refine sSkip 8 false 19 25 S rfl rfl rfl rfl rfl (lb rfl) fun a S => ?_
    refine sSkip 8 false 19 26 S rfl rfl rfl rfl rfl (lb rfl) fun a S => ?_
    refine sSkip 8 false 19 27 S rfl rfl rfl rfl rfl (lb rfl) fun a S => ?_
    refine sSkip 8 false 19 28 S rfl rfl rfl rfl rfl (lb rfl) fun a S => ?_
    refine sPickT (.bool true) S (wN rfl) rfl rfl rfl rfl rfl (lb rfl) fun a S => ?_
    exact leafL (leafT (⟨true, Option.some.inj h, S.fix [] [] (by decide) rfl rfl rfl⟩))
  refine sField (b := b6) (off := 0) 1 1 S (wG 3 false 14 rfl rfl rfl hc18) rfl rfl rfl rfl rfl (lb rfl) fun a S => ?_
  refine sLoad1 (p := b6) (off := 1) (T := 24) (vs := [iv p0.W, iv p0.H, .slice ad3 p0.Bits.length cp4]) 0 (iv p0.H) S (wG 3 false 14 rfl rfl rfl hc18) rfl rfl rfl rfl rfl rfl (lb rfl) fun a S => ?_
  refine sBin (.bool (decide (p0.H < 1))) S (wG 3 false 14 rfl rfl rfl hc18) rfl rfl rfl (bLt _ _ _ _ .i64 p0.H 1) rfl (lb rfl) fun a S => ?_
  refine sPickF (.bool (decide (p0.H < 1))) S (wN rfl) rfl rfl hc18 rfl rfl (lb rfl) fun a S => ?_
  refine sMove (.bool (decide (p0.H < 1))) S (wN rfl) (.inl rfl) rfl rfl (lb rfl) fun a S => ?_
  rcases iteSome h with ⟨hc19, h⟩ | ⟨hc19, h⟩
  · refine sSkip 8 false 19 20 S rfl rfl rfl hc19 rfl (lb rfl) fun a S => ?_
    refine sSkip 8 false 19 21 S rfl rfl rfl hc19 rfl (lb rfl) fun a S => ?_
    refine sSkip 8 false 19 22 S rfl rfl rfl hc19 rfl (lb rfl) fun a S => ?_
    refine sSkip 8 false 19 23 S rfl rfl rfl hc19 rfl (lb rfl) fun a S => ?_
    refine sSkip 8 false 19 24 S rfl rfl rfl hc19 rfl (lb rfl) fun a S => ?_
    refine sSkip 8 false 19 25 S rfl rfl rfl hc19 rfl (lb rfl) fun a S => ?_
    refine sSkip 8 false 19 26 S rfl rfl rfl hc19 rfl (lb rfl) fun a S => ?_
    refine sSkip 8 false 19 27 S rfl rfl rfl hc19 rfl (lb rfl) fun a S => ?_
    refine sSkip 8 false 19 28 S rfl rfl rfl hc19 rfl (lb rfl) fun a S => ?_
    refine sPickT (.bool true) S (wN rfl) rfl rfl hc19 rfl rfl (lb rfl) fun a S => ?_
    exact leafL (leafT (⟨true, Option.some.inj h, S.fix [] [] (by decide) rfl rfl rfl⟩))
  refine sField (b := b6) (off := 0) 2 2 S (wG 8 false 19 rfl rfl rfl hc19) rfl rfl rfl rfl rfl (lb rfl) fun a S => ?_
  refine sLoad1 (p := b6) (off := 2) (T := 24) (vs := [iv p0.W, iv p0.H, .slice ad3 p0.Bits.length cp4]) 0 (.slice ad3 p0.Bits.length cp4) S (wG 8 false 19 rfl rfl rfl hc19) rfl rfl rfl rfl rfl rfl (lb rfl) fun a S => ?_
  refine sLen (ad := ad3) (m := p0.Bits.length) (c := cp4) S (wG 8 false 19 rfl rfl rfl hc19) rfl Try.underlying22 rfl rfl (lb rfl) fun a S => ?_
  refine sField (b := b6) (off := 0) 0 0 S (wG 8 false 19 rfl rfl rfl hc19) rfl rfl rfl rfl rfl (lb rfl) fun a S => ?_
  refine sLoad1 (p := b6) (off := 0) (T := 24) (vs := [iv p0.W, iv p0.H, .slice ad3 p0.Bits.length cp4]) 0 (iv p0.W) S (wG 8 false 19 rfl rfl rfl hc19) rfl rfl rfl rfl rfl rfl (lb rfl) fun a S => ?_
  refine sField (b := b6) (off := 0) 1 1 S (wG 8 false 19 rfl rfl rfl hc19) rfl rfl rfl rfl rfl (lb rfl) fun a S => ?_
  refine sLoad1 (p := b6) (off := 1) (T := 24) (vs := [iv p0.W, iv p0.H, .slice ad3 p0.Bits.length cp4]) 0 (iv p0.H) S (wG 8 false 19 rfl rfl rfl hc19) rfl rfl rfl rfl rfl rfl (lb rfl) fun a S => ?_
  refine sBin (iv (w64 (p0.W * p0.H))) S (wG 8 false 19 rfl rfl rfl hc19) rfl rfl rfl (bMul _ _ _ _ p0.W p0.H) rfl (lb rfl) fun a S => ?_
  refine sBin (.bool ((p0.Bits.length : Int) != (w64 (p0.W * p0.H)))) S (wG 8 false 19 rfl rfl rfl hc19) rfl rfl rfl (bNe _ _ _ _ .i64 (p0.Bits.length : Int) (w64 (p0.W * p0.H))) rfl (lb rfl) fun a S => ?_
  refine sPickF (.bool ((p0.Bits.length : Int) != (w64 (p0.W * p0.H)))) S (wN rfl) rfl rfl hc19 rfl rfl (lb rfl) fun a S => ?_
  exact leafL (leafT (⟨(p0.Bits.length : Int) != (w64 (p0.W * p0.H)), Option.some.inj h, S.fix [] [] (by decide) rfl rfl rfl⟩))

end Go.Proofs.Ythfifeabomdlpaa
namespace Go.Proofs.Ythfifeabomdlpaa
open Go.RowKit
set_option linter.unusedVariables false

end Go.Proofs.Ythfifeabomdlpaa
namespace Go.Proofs.Ythfifeabomdlpaa
open Go.RowKit
set_option linter.unusedVariables false

end Go.Proofs.Ythfifeabomdlpaa
namespace Go.Proofs.Ythfifeabomdlpaa
open Go.RowKit
set_option linter.unusedVariables false

noncomputable def F_raddleref01_At (p0 : api_Grid) (p1 : Int) (p2 : Int) : Option Bool :=
  Option.bind (idxO p0.Bits (w64 ((w64 (p2 * p0.W)) + p1))) fun x8 =>
  some x8
set_option maxHeartbeats 4000000 in
set_option maxRecDepth 100000 in
theorem c_raddleref01_At (E : Nat → Prop) (w0 : World) (p0 : api_Grid) (v0 : Value) (p1 : Int) (p2 : Int) (r : Bool) (h : F_raddleref01_At p0 p1 p2 = some r) (S : St0 E [] w0 w0 [] [fRep r_api_Grid (v0) p0]) :
    Calls Try.prog 46 #[v0, iv p1, iv p2] w0 (Ret (X := Unit) E [] w0 (fun _ => .bool r) (fun _ => []) (fun _ => [])) := by
  unfold F_raddleref01_At at h
  obtain ⟨u1, rfl, hu2⟩ := S.know (i := 0) (e := fRep r_api_Grid (v0) p0) rfl
  have S := S.learn (fRep (rL rB) u1 p0.Bits) hu2
  obtain ⟨ad3, cp4, _, rfl, _⟩ := hu2
  refine sEnter (args := [.agg #[iv p0.W, iv p0.H, .slice ad3 p0.Bits.length cp4], iv p1, iv p2]) 17 Try.func46 rfl rfl (by simp) S (fun a S => ?_)
  refine sSeq (fun K5 hK5 => ?_)
  refine sRegion ?_
  refine sBox (v := .agg #[iv p0.W, iv p0.H, .slice ad3 p0.Bits.length cp4]) S (wN rfl) rfl rfl [iv p0.W, iv p0.H, .slice ad3 p0.Bits.length cp4] rfl rfl (lb rfl) fun a b6 w S => ?_
  refine sMove (.bool false) S (wN rfl) (.inr rfl) rfl rfl (lb rfl) fun a S => ?_
  refine leafL (leafT (hK5 _ _ ?_))
  refine sSeq (fun K7 hK7 => ?_)
  refine sRegion ?_
  refine sField (b := b6) (off := 0) 2 2 S (wN rfl) rfl rfl rfl rfl rfl (lb rfl) fun a S => ?_
  refine sLoad1 (p := b6) (off := 2) (T := 24) (vs := [iv p0.W, iv p0.H, .slice ad3 p0.Bits.length cp4]) 0 (.slice ad3 p0.Bits.length cp4) S (wN rfl) rfl rfl rfl rfl rfl rfl (lb rfl) fun a S => ?_
  refine sMove (iv p2) S (wN rfl) (.inl rfl) rfl rfl (lb rfl) fun a S => ?_
  refine sField (b := b6) (off := 0) 0 0 S (wN rfl) rfl rfl rfl rfl rfl (lb rfl) fun a S => ?_
  refine sLoad1 (p := b6) (off := 0) (T := 24) (vs := [iv p0.W, iv p0.H, .slice ad3 p0.Bits.length cp4]) 0 (iv p0.W) S (wN rfl) rfl rfl rfl rfl rfl rfl (lb rfl) fun a S => ?_
  refine sBin (iv (w64 (p2 * p0.W))) S (wN rfl) rfl rfl rfl (bMul _ _ _ _ p2 p0.W) rfl (lb rfl) fun a S => ?_
  refine sMove (iv p1) S (wN rfl) (.inl rfl) rfl rfl (lb rfl) fun a S => ?_
  refine sBin (iv (w64 ((w64 (p2 * p0.W)) + p1))) S (wN rfl) rfl rfl rfl (bAdd _ _ _ _ (w64 (p2 * p0.W)) p1) rfl (lb rfl) fun a S => ?_
  obtain ⟨x8, hx9, h⟩ := bindSome h
  obtain ⟨q10, hq11, S⟩ := pIdx (P := Try.prog) (r := rB) (v := .slice ad3 p0.Bits.length cp4) (xs := p0.Bits) (j := w64 ((w64 (p2 * p0.W)) + p1)) 22 4 0 S Try.underlying22 rfl rfl hx9
  refine sIdxV (v := .slice ad3 p0.Bits.length cp4) (k := .i64) (j := w64 ((w64 (p2 * p0.W)) + p1)) S (wN rfl) rfl rfl rfl hq11 rfl (lb rfl) fun a S => ?_
  obtain ⟨u12, S⟩ := pLoad (r := rB) (q := q10) (x := x8) 0 S rfl
  obtain rfl : u12 = .bool x8 := S.mem.know (i := 1) (e := fRep rB (u12) x8) rfl
  refine sLoadV1 (vq := q10) 0 (.bool x8) S (wN rfl) rfl rfl rfl rfl rfl (lb rfl) fun a S => ?_
  refine sMove (.bool x8) S (wN rfl) (.inr rfl) rfl rfl (lb rfl) fun a S => ?_
  refine leafL (leafT (hK7 _ _ ?_))
  obtain rfl := Option.some.inj h
  exact wp_ret (sRet (.bool x8) S (rsl1 rfl (rvT (t := 6) (v := .bool x8) S rfl)) ⟨(), rfl, S.mem.sel [] [] (by decide) rfl rfl⟩)

end Go.Proofs.Ythfifeabomdlpaa
namespace Go.Proofs.Ythfifeabomdlpaa
open Go.RowKit
set_option linter.unusedVariables false

noncomputable def F_raddleref01_Set_s0 (p0 : Int) (p1 : Int) (p2 : (List Bool)) (p3 : Int) (p4 : Int) (p5 : Bool) : Option (List Bool) :=
  Option.bind (idxO p2 (w64 ((w64 (p4 * p0)) + p3))) fun x3 =>
  Option.bind (setO p2 (w64 ((w64 (p4 * p0)) + p3)) p5) fun l8 =>
  (keepO p2 l8).bind fun _ =>
  some l8
set_option maxHeartbeats 4000000 in
set_option maxRecDepth 100000 in
theorem c_raddleref01_Set_s0 (E : Nat → Prop) (w0 : World) (p0 : Int) (p1 : Int) (p2 : (List Bool)) (ad_2 : Option Addr) (cp_2 : Nat) (p3 : Int) (p4 : Int) (p5 : Bool) (r : (List Bool)) (h : F_raddleref01_Set_s0 p0 p1 p2 p3 p4 p5 = some r) (S : St0 E (keysL [eRow rB 4 (.slice ad_2 p2.length cp_2) p2]) w0 w0 [eRow rB 4 (.slice ad_2 p2.length cp_2) p2] []) :
    Calls Try.prog 47 #[.agg #[iv p0, iv p1, .slice ad_2 p2.length cp_2], iv p3, iv p4, .bool p5] w0 (Ret (X := Unit) E (keysL [eRow rB 4 (.slice ad_2 p2.length cp_2) p2]) w0 (fun _ => .tuple #[]) (fun _ => [eRow rB 4 (.slice ad_2 p2.length cp_2) r]) (fun _ => [])) := by
  unfold F_raddleref01_Set_s0 at h
  refine sEnter (args := [.agg #[iv p0, iv p1, .slice ad_2 p2.length cp_2], iv p3, iv p4, .bool p5]) 18 Try.func47 rfl rfl (by simp) S (fun a S => ?_)
  refine sSeq (fun K1 hK1 => ?_)
  refine sRegion ?_
  refine sBox (v := .agg #[iv p0, iv p1, .slice ad_2 p2.length cp_2]) S (wN rfl) rfl rfl [iv p0, iv p1, .slice ad_2 p2.length cp_2] rfl rfl (lb rfl) fun a b2 w S => ?_
  refine leafL (leafT (hK1 _ _ ?_))
  refine sRegion ?_
  refine sField (b := b2) (off := 0) 2 2 S (wN rfl) rfl rfl rfl rfl rfl (lb rfl) fun a S => ?_
  refine sLoad1 (p := b2) (off := 2) (T := 24) (vs := [iv p0, iv p1, .slice ad_2 p2.length cp_2]) 0 (.slice ad_2 p2.length cp_2) S (wN rfl) rfl rfl rfl rfl rfl rfl (lb rfl) fun a S => ?_
  refine sMove (iv p4) S (wN rfl) (.inl rfl) rfl rfl (lb rfl) fun a S => ?_
  refine sField (b := b2) (off := 0) 0 0 S (wN rfl) rfl rfl rfl rfl rfl (lb rfl) fun a S => ?_
  refine sLoad1 (p := b2) (off := 0) (T := 24) (vs := [iv p0, iv p1, .slice ad_2 p2.length cp_2]) 0 (iv p0) S (wN rfl) rfl rfl rfl rfl rfl rfl (lb rfl) fun a S => ?_
  refine sBin (iv (w64 (p4 * p0))) S (wN rfl) rfl rfl rfl (bMul _ _ _ _ p4 p0) rfl (lb rfl) fun a S => ?_
  refine sMove (iv p3) S (wN rfl) (.inl rfl) rfl rfl (lb rfl) fun a S => ?_
  refine sBin (iv (w64 ((w64 (p4 * p0)) + p3))) S (wN rfl) rfl rfl rfl (bAdd _ _ _ _ (w64 (p4 * p0)) p3) rfl (lb rfl) fun a S => ?_
  refine sMove (.bool p5) S (wN rfl) (.inl rfl) rfl rfl (lb rfl) fun a S => ?_
  obtain ⟨x3, hx4, h⟩ := bindSome h
  obtain ⟨q5, hq6, hp7⟩ := pIdxR (P := Try.prog) (r := rB) (T := 4) (v := .slice ad_2 p2.length cp_2) (xs := p2) (j := w64 ((w64 (p4 * p0)) + p3)) 22 4 1 S Try.underlying22 rfl rfl hx4
  refine sIdxV (v := .slice ad_2 p2.length cp_2) (k := .i64) (j := w64 ((w64 (p4 * p0)) + p3)) S (wN rfl) rfl rfl rfl hq6 rfl (lb rfl) fun a S => ?_
  obtain ⟨l8, hx9, h⟩ := bindSome h
  refine sStoreR (r := rB) (T := 4) (xs := p2) (ys := l8) (y := p5) (v := .slice ad_2 p2.length cp_2) (vq := q5) (u := .bool p5) (j := w64 ((w64 (p4 * p0)) + p3)) 1 S hp7 (wN rfl) rfl rfl rfl rfl rfl hx9 rfl rfl fun a w S => ?_
  rw [setO_v hx9 ad_2 cp_2] at S
  obtain ⟨_, hk10, h⟩ := bindSome h
  rw [keepO_v hk10 ad_2 cp_2] at S
  obtain rfl := Option.some.inj h
  exact leafL (sEnd (.tuple #[]) S (rsl0 rfl ) ⟨(), rfl, S.mem.sel [0] [] (by decide) rfl rfl⟩)

end Go.Proofs.Ythfifeabomdlpaa
namespace Go.Proofs.Ythfifeabomdlpaa
open Go.RowKit
set_option linter.unusedVariables false

end Go.Proofs.Ythfifeabomdlpaa
namespace Go.Proofs.Ythfifeabomdlpaa
open Go.RowKit
set_option linter.unusedVariables false

def anc_slices_Equal___bool_bool__0 : List (List Nat) := [[], [], [0, 1], [0, 1, 2], [], [], [4, 5], [4, 5, 6], [0, 1, 2, 3, 4, 5, 6, 7]]
noncomputable def slices_Equal___bool_bool__l1 (p0 : (List Bool)) (p1 : (List Bool)) : Int → Option (Int ⊕ (Bool ⊕ Unit)) := fun s0 => match s0 with
  | s13 =>
    if decide (s13 < (p0.length : Int)) then
      Option.bind (idxO p0 s13) fun x23 =>
      Option.bind (idxO p1 s13) fun x28 =>
      if x23 != x28 then
        some (.inr (.inl false))
      else
        some (.inl (w64 (s13 + 1)))
    else
      some (.inr (.inr ()))
noncomputable def F_slices_Equal___bool_bool_ (p0 : (List Bool)) (p1 : (List Bool)) : Option Bool :=
  if (p0.length : Int) != (p1.length : Int) then
    some false
  else
    Option.bind (α := Unit ⊕ Bool) (
      Option.bind (whileO (slices_Equal___bool_bool__l1 p0 p1) 0) fun z0 => match z0 with
        | .inl z =>
          some (.inr z)
        | .inr _ =>
          some (.inl ())) fun z0 => match z0 with
      | .inl _ =>
        some true
      | .inr z =>
        some z
set_option maxHeartbeats 4000000 in
set_option maxRecDepth 100000 in
theorem c_slices_Equal___bool_bool_ (E : Nat → Prop) (w0 : World) (p0 : (List Bool)) (v0 : Value) (p1 : (List Bool)) (v1 : Value) (r : Bool) (h : F_slices_Equal___bool_bool_ p0 p1 = some r) (S : St0 E [] w0 w0 [] [fRep (rL rB) (v0) p0, fRep (rL rB) (v1) p1]) :
    Calls Try.prog 70 #[v0, v1] w0 (Ret (X := Unit) E [] w0 (fun _ => .bool r) (fun _ => []) (fun _ => [])) := by
  unfold F_slices_Equal___bool_bool_ at h
  obtain ⟨ad1, cp2, _, rfl, _⟩ := S.know (i := 0) (e := fRep (rL rB) (v0) p0) rfl
  obtain ⟨ad3, cp4, _, rfl, _⟩ := S.know (i := 1) (e := fRep (rL rB) (v1) p1) rfl
  refine sEnter (args := [.slice ad1 p0.length cp2, .slice ad3 p1.length cp4]) 26 Try.func70 rfl rfl (by simp) S (fun a S => ?_)
  refine sSeq (fun K5 hK5 => ?_)
  refine sRegion ?_
  refine sMove (.bool false) S (wN rfl) (.inr rfl) rfl rfl (lb rfl) fun a S => ?_
  refine leafL (leafT (hK5 _ _ ?_))
  refine sSeq (fun K6 hK6 => ?_)
  refine sSeq (fun K7 hK7 => ?_)
  refine sRegion ?_
  refine sMove (.slice ad1 p0.length cp2) S (wN rfl) (.inl rfl) rfl rfl (lb rfl) fun a S => ?_
  refine sLen (ad := ad1) (m := p0.length) (c := cp2) S (wN rfl) rfl Try.underlying22 rfl rfl (lb rfl) fun a S => ?_
  refine sMove (.slice ad3 p1.length cp4) S (wN rfl) (.inl rfl) rfl rfl (lb rfl) fun a S => ?_
  refine sLen (ad := ad3) (m := p1.length) (c := cp4) S (wN rfl) rfl Try.underlying22 rfl rfl (lb rfl) fun a S => ?_
  refine sBin (.bool ((p0.length : Int) != (p1.length : Int))) S (wN rfl) rfl rfl rfl (bNe _ _ _ _ .i64 (p0.length : Int) (p1.length : Int)) rfl (lb rfl) fun a S => ?_
  refine leafL (leafT (hK7 _ _ ?_))
  rcases iteSome h with ⟨hc8, h⟩ | ⟨hc8, h⟩
  · refine sCondT S rfl hc8 ?_
    refine sSeq (fun K9 hK9 => ?_)
    refine sRegion ?_
    refine sMove (.bool false) S (wN rfl) (.inr rfl) rfl rfl (lb rfl) fun a S => ?_
    refine leafL (leafT (hK9 _ _ ?_))
    obtain rfl := Option.some.inj h
    exact wp_ret (rThen (sRet (.bool false) S (rsl1 rfl (rvT (t := 4) (v := .bool false) S rfl)) ⟨(), rfl, S.mem.sel [] [] (by decide) rfl rfl⟩))
  refine sCondF S rfl hc8 ?_
  refine wp_skip (leafT (hK6 _ _ ?_))
  obtain ⟨t10, h, g11⟩ := bindSome h
  refine sCut (fun a w => .inl () = t10 ∧ St [] E [] w0 26 a w [] [] []) ?_ (fun a w hI => ?_)
  rotate_left
  · obtain ⟨rfl, S⟩ := hI
    have h := g11
    clear g11
    try dsimp only at h
    refine sSeq (fun K41 hK41 => ?_)
    refine sRegion ?_
    refine sMove (.bool true) S (wN rfl) (.inr rfl) rfl rfl (lb rfl) fun a S => ?_
    refine leafL (leafT (hK41 _ _ ?_))
    obtain rfl := Option.some.inj h
    exact wp_ret (sRet (.bool true) S (rsl1 rfl (rvT (t := 4) (v := .bool true) S rfl)) ⟨(), rfl, S.mem.sel [] [] (by decide) rfl rfl⟩)
  refine sSeq (fun K12 hK12 => ?_)
  refine sRegion ?_
  refine sMove (.slice ad1 p0.length cp2) S (wN rfl) (.inl rfl) rfl rfl (lb rfl) fun a S => ?_
  refine sLen (ad := ad1) (m := p0.length) (c := cp2) S (wN rfl) rfl Try.underlying22 rfl rfl (lb rfl) fun a S => ?_
  refine sMove (iv 0) S (wN rfl) (.inl rfl) rfl rfl (lb rfl) fun a S => ?_
  refine leafL (leafT (hK12 _ _ ?_))
  refine wp_block ?_
  obtain ⟨t16, hl, g15⟩ := bindSome h
  refine sLoop hl (fun s0 a w => match s0 with | s13 => St [] E [] w0 26 a w [(0, .slice ad1 p0.length cp2), (1, .slice ad3 p1.length cp4), (12, iv (p0.length : Int)), (13, iv s13)] [] [fRep (rL rB) (.slice ad1 p0.length cp2) p0, fRep (rL rB) (.slice ad3 p1.length cp4) p1]) (S.fix [] [0, 1] (by decide) rfl rfl rfl) ?_
  clear hl h
  intro s13 a w c0 hI h hu14
  unfold slices_Equal___bool_bool__l1 at h
  dsimp only at h hI
  have S := hI
  refine sSeq (fun K17 hK17 => ?_)
  refine sRegion ?_
  refine sBin (.bool (decide (s13 < (p0.length : Int)))) S (wN rfl) rfl rfl rfl (bLt _ _ _ _ .i64 s13 (p0.length : Int)) rfl (lb rfl) fun a S => ?_
  refine leafL (leafT (hK17 _ _ ?_))
  refine sSeq (fun K18 hK18 => ?_)
  rcases iteSome h with ⟨hc19, h⟩ | ⟨hc19, h⟩
  rotate_left
  · refine sCondF S rfl hc19 ?_
    obtain rfl := Option.some.inj h
    obtain rfl := hu14 _ rfl
    have h := g15
    clear g15
    try dsimp only at h
    exact wp_exit (xThen (xThen (xHit (leafT (⟨Option.some.inj h, S.fix [] [] (by decide) rfl rfl rfl⟩)))))
  refine sCondT S rfl hc19 ?_
  refine wp_skip (leafT (hK18 _ _ ?_))
  refine sSeq (fun K20 hK20 => ?_)
  refine wp_block ?_
  refine sSeq (fun K21 hK21 => ?_)
  refine sRegion ?_
  refine sMove (iv s13) S (wN rfl) (.inl rfl) rfl rfl (lb rfl) fun a S => ?_
  refine sMove (iv s13) S (wN rfl) (.inr rfl) rfl rfl (lb rfl) fun a S => ?_
  refine leafL (leafT (hK21 _ _ ?_))
  refine sSeq (fun K22 hK22 => ?_)
  obtain ⟨x23, hx24, h⟩ := bindSome h
  obtain ⟨x28, hx29, h⟩ := bindSome h
  obtain ⟨q33, hq34, S⟩ := pIdx (P := Try.prog) (r := rB) (v := .slice ad1 p0.length cp2) (xs := p0) (j := s13) 22 4 0 S Try.underlying22 rfl rfl hx24
  obtain ⟨u35, S⟩ := pLoad (r := rB) (q := q33) (x := x23) 0 S rfl
  obtain rfl : u35 = .bool x23 := S.mem.know (i := 1) (e := fRep rB (u35) x23) rfl
  obtain ⟨q36, hq37, S⟩ := pIdx (P := Try.prog) (r := rB) (v := .slice ad3 p1.length cp4) (xs := p1) (j := s13) 22 4 4 S Try.underlying22 rfl rfl hx29
  obtain ⟨u38, S⟩ := pLoad (r := rB) (q := q36) (x := x28) 0 S rfl
  obtain rfl : u38 = .bool x28 := S.mem.know (i := 1) (e := fRep rB (u38) x28) rfl
  refine sDraw (nf := []) (W := [(0, 16, .slice ad1 p0.length cp2), (1, 17, iv s13), (2, 18, q33), (3, 19, .bool x23), (4, 20, .slice ad3 p1.length cp4), (5, 21, iv s13), (6, 22, q36), (7, 23, .bool x28), (8, 24, .bool (x23 != x28))]) rfl S ?_
  refine node_by (A := anc_slices_Equal___bool_bool__0) (nf := []) (Y := []) (W := [(0, 16, .slice ad1 p0.length cp2), (1, 17, iv s13), (2, 18, q33), (3, 19, .bool x23), (4, 20, .slice ad3 p1.length cp4), (5, 21, iv s13), (6, 22, q36), (7, 23, .bool x28), (8, 24, .bool (x23 != x28))]) 9 (by kernel_rfl) (by kernel_rfl) (by kernel_rfl) (by kernel_rfl) (by kernel_rfl) [0, 1, 2, 3, 4, 5, 6, 7, 8] (by kernel_rfl) (by decide) (by decide) (aF 0 8 (by decide) ?_ (aF 1 7 (by decide) ?_ (aF 2 6 (by decide) ?_ (aF 3 5 (by decide) ?_ (aF 4 4 (by decide) ?_ (aF 5 3 (by decide) ?_ (aF 6 2 (by decide) ?_ (aF 7 1 (by decide) ?_ (aF 8 0 (by decide) ?_ (trivial)))))))))) [(0, .slice ad1 p0.length cp2), (1, .slice ad3 p1.length cp4), (12, iv (p0.length : Int)), (13, iv s13), (24, .bool (x23 != x28))] (fin_of [none, none, none, none, some 8] rfl (by kernel_rfl) (by kernel_rfl)) (fun _ a w S => ?_)
  · refine fI 16 (.slice ad1 p0.length cp2) [(0, .slice ad1 p0.length cp2)] 0 [none] rfl rfl rfl rfl rfl rfl fun G a w S => ?_
    refine sMove (.slice ad1 p0.length cp2) S (wN rfl) (.inl rfl) rfl rfl (lb rfl) fun a S => ?_
    exact leafL ⟨rfl, S⟩
  · refine fI 17 (iv s13) [(5, iv s13)] 1 [none] rfl rfl rfl rfl rfl rfl fun G a w S => ?_
    refine sMove (iv s13) S (wN rfl) (.inl rfl) rfl rfl (lb rfl) fun a S => ?_
    exact leafL ⟨rfl, S⟩
  · refine fI 18 q33 [(16, .slice ad1 p0.length cp2), (17, iv s13)] 2 [some 0, some 1] rfl rfl rfl rfl rfl rfl fun G a w S => ?_
    refine sIdxV (v := .slice ad1 p0.length cp2) (k := .i64) (j := s13) S (wN rfl) rfl rfl rfl hq34 rfl (lb rfl) fun a S => ?_
    exact leafL ⟨rfl, S⟩
  · refine fI 19 (.bool x23) [(18, q33)] 3 [some 2] rfl rfl rfl rfl rfl rfl fun G a w S => ?_
    refine sLoadV1 (vq := q33) 3 (.bool x23) S (wN rfl) rfl rfl rfl rfl rfl (lb rfl) fun a S => ?_
    exact leafL ⟨rfl, S⟩
  · refine fI 20 (.slice ad3 p1.length cp4) [(1, .slice ad3 p1.length cp4)] 4 [none] rfl rfl rfl rfl rfl rfl fun G a w S => ?_
    refine sMove (.slice ad3 p1.length cp4) S (wN rfl) (.inl rfl) rfl rfl (lb rfl) fun a S => ?_
    exact leafL ⟨rfl, S⟩
  · refine fI 21 (iv s13) [(5, iv s13)] 5 [none] rfl rfl rfl rfl rfl rfl fun G a w S => ?_
    refine sMove (iv s13) S (wN rfl) (.inl rfl) rfl rfl (lb rfl) fun a S => ?_
    exact leafL ⟨rfl, S⟩
  · refine fI 22 q36 [(20, .slice ad3 p1.length cp4), (21, iv s13)] 6 [some 4, some 5] rfl rfl rfl rfl rfl rfl fun G a w S => ?_
    refine sIdxV (v := .slice ad3 p1.length cp4) (k := .i64) (j := s13) S (wN rfl) rfl rfl rfl hq37 rfl (lb rfl) fun a S => ?_
    exact leafL ⟨rfl, S⟩
  · refine fI 23 (.bool x28) [(22, q36)] 7 [some 6] rfl rfl rfl rfl rfl rfl fun G a w S => ?_
    refine sLoadV1 (vq := q36) 0 (.bool x28) S (wN rfl) rfl rfl rfl rfl rfl (lb rfl) fun a S => ?_
    exact leafL ⟨rfl, S⟩
  · refine fI 24 (.bool (x23 != x28)) [(19, .bool x23), (23, .bool x28)] 8 [some 3, some 7] rfl rfl rfl rfl rfl rfl fun G a w S => ?_
    refine sBin (.bool (x23 != x28)) S (wN rfl) rfl rfl rfl (bNeB _ _ _ _ Try.underlying4 x23 x28) rfl (lb rfl) fun a S => ?_
    exact leafL ⟨rfl, S⟩
  refine leafT (hK22 _ _ ?_)
  rcases iteSome h with ⟨hc39, h⟩ | ⟨hc39, h⟩
  rotate_left
  · refine sCondF S rfl hc39 ?_
    refine wp_skip (leafB (leafT (hK20 _ _ ?_)))
    refine sRegion ?_
    refine sBin (iv (w64 (s13 + 1))) S (wN rfl) rfl rfl rfl (bAdd _ _ _ _ s13 1) rfl (lb rfl) fun a S => ?_
    refine sMove (iv (w64 (s13 + 1))) S (wN rfl) (.inl rfl) rfl rfl (lb rfl) fun a S => ?_
    exact leafL (leafT (⟨w64 (s13 + 1), (Option.some.inj h).symm, (S.fix [] [6, 7] (by decide) rfl rfl rfl)⟩))
  refine sCondT S rfl hc39 ?_
  refine sSeq (fun K40 hK40 => ?_)
  refine sRegion ?_
  refine sMove (.bool false) S (wN rfl) (.inr rfl) rfl rfl (lb rfl) fun a S => ?_
  refine leafL (leafT (hK40 _ _ ?_))
  obtain rfl := Option.some.inj h
  obtain rfl := hu14 _ rfl
  have h := g15
  clear g15
  try dsimp only at h
  obtain rfl := Option.some.inj h
  have h := g11
  clear g11
  try dsimp only at h
  obtain rfl := Option.some.inj h
  exact wp_ret (rBlock (rThen (rThen (rBlock (rThen (sRet (.bool false) S (rsl1 rfl (rvT (t := 4) (v := .bool false) S rfl)) ⟨(), rfl, S.mem.sel [] [] (by decide) rfl rfl⟩))))))

end Go.Proofs.Ythfifeabomdlpaa
namespace Go.Proofs.Ythfifeabomdlpaa
open Go.RowKit
set_option linter.unusedVariables false

noncomputable def F_grid_Same (p0 : api_Grid) (p1 : api_Grid) : Option Bool :=
  Option.bind (α := Bool) (
    if p0.W == p1.W then
      if p0.H == p1.H then
        Option.bind (F_slices_Equal___bool_bool_ p0.Bits p1.Bits) fun r17 =>
        some r17
      else
        some false
    else
      some false) fun o12 =>
  some o12
set_option maxHeartbeats 4000000 in
set_option maxRecDepth 100000 in
theorem c_grid_Same (E : Nat → Prop) (w0 : World) (p0 : api_Grid) (v0 : Value) (p1 : api_Grid) (v1 : Value) (r : Bool) (h : F_grid_Same p0 p1 = some r) (S : St0 E [] w0 w0 [] [fRep r_api_Grid (v0) p0, fRep r_api_Grid (v1) p1]) :
    Calls Try.prog 48 #[v0, v1] w0 (Ret (X := Unit) E [] w0 (fun _ => .bool r) (fun _ => []) (fun _ => [])) := by
  unfold F_grid_Same at h
  obtain ⟨u1, rfl, hu2⟩ := S.know (i := 0) (e := fRep r_api_Grid (v0) p0) rfl
  have S := S.learn (fRep (rL rB) u1 p0.Bits) hu2
  obtain ⟨ad3, cp4, _, rfl, _⟩ := hu2
  obtain ⟨u5, rfl, hu6⟩ := S.know (i := 2) (e := fRep r_api_Grid (v1) p1) rfl
  have S := S.learn (fRep (rL rB) u5 p1.Bits) hu6
  obtain ⟨ad7, cp8, _, rfl, _⟩ := hu6
  refine sEnter (args := [.agg #[iv p0.W, iv p0.H, .slice ad3 p0.Bits.length cp4], .agg #[iv p1.W, iv p1.H, .slice ad7 p1.Bits.length cp8]]) 24 Try.func48 rfl rfl (by simp) S (fun a S => ?_)
  refine sSeq (fun K9 hK9 => ?_)
  refine sRegion ?_
  refine sBox (v := .agg #[iv p0.W, iv p0.H, .slice ad3 p0.Bits.length cp4]) S (wN rfl) rfl rfl [iv p0.W, iv p0.H, .slice ad3 p0.Bits.length cp4] rfl rfl (lb rfl) fun a b10 w S => ?_
  refine sBox (v := .agg #[iv p1.W, iv p1.H, .slice ad7 p1.Bits.length cp8]) S (wN rfl) rfl rfl [iv p1.W, iv p1.H, .slice ad7 p1.Bits.length cp8] rfl rfl (lb rfl) fun a b11 w S => ?_
  refine sMove (.bool false) S (wN rfl) (.inr rfl) rfl rfl (lb rfl) fun a S => ?_
  refine leafL (leafT (hK9 _ _ ?_))
  obtain ⟨t13, h, g14⟩ := bindSome h
  refine sCut (fun a w => ∃ o12, o12 = t13 ∧ St [] E [] w0 24 a w [(4, .bool o12)] [] []) ?_ (fun a w hI => ?_)
  rotate_left
  · obtain ⟨o12, rfl, S⟩ := hI
    have h := g14
    clear g14
    try dsimp only at h
    obtain rfl := Option.some.inj h
    exact wp_ret (sRet (.bool o12) S (rsl1 rfl (rvT (t := 4) (v := .bool o12) S rfl)) ⟨(), rfl, S.mem.sel [] [] (by decide) rfl rfl⟩)
  refine sRegion ?_
  refine sField (b := b10) (off := 0) 0 0 S (wN rfl) rfl rfl rfl rfl rfl (lb rfl) fun a S => ?_
  refine sLoad1 (p := b10) (off := 0) (T := 24) (vs := [iv p0.W, iv p0.H, .slice ad3 p0.Bits.length cp4]) 1 (iv p0.W) S (wN rfl) rfl rfl rfl rfl rfl rfl (lb rfl) fun a S => ?_
  refine sField (b := b11) (off := 0) 0 0 S (wN rfl) rfl rfl rfl rfl rfl (lb rfl) fun a S => ?_
  refine sLoad1 (p := b11) (off := 0) (T := 24) (vs := [iv p1.W, iv p1.H, .slice ad7 p1.Bits.length cp8]) 0 (iv p1.W) S (wN rfl) rfl rfl rfl rfl rfl rfl (lb rfl) fun a S => ?_
  refine sBin (.bool (p0.W == p1.W)) S (wN rfl) rfl rfl rfl (bEq _ _ _ _ .i64 p0.W p1.W) rfl (lb rfl) fun a S => ?_
  refine sMove (.bool (p0.W == p1.W)) S (wN rfl) (.inl rfl) rfl rfl (lb rfl) fun a S => ?_
  rcases iteSome h with ⟨hc15, h⟩ | ⟨hc15, h⟩
  rotate_left
  · refine sSkip 5 true 10 11 S rfl rfl rfl hc15 rfl (lb rfl) fun a S => ?_
    refine sSkip 5 true 10 12 S rfl rfl rfl hc15 rfl (lb rfl) fun a S => ?_
    refine sSkip 5 true 10 13 S rfl rfl rfl hc15 rfl (lb rfl) fun a S => ?_
    refine sSkip 5 true 10 14 S rfl rfl rfl hc15 rfl (lb rfl) fun a S => ?_
    refine sSkip 5 true 10 15 S rfl rfl rfl hc15 rfl (lb rfl) fun a S => ?_
    refine sPickF (.bool false) S (wN rfl) rfl rfl hc15 rfl rfl (lb rfl) fun a S => ?_
    refine sMove (.bool false) S (wN rfl) (.inl rfl) rfl rfl (lb rfl) fun a S => ?_
    refine sSkip 12 true 17 18 S rfl rfl rfl rfl rfl (lb rfl) fun a S => ?_
    refine sSkip 12 true 17 19 S rfl rfl rfl rfl rfl (lb rfl) fun a S => ?_
    refine sSkip 12 true 17 20 S rfl rfl rfl rfl rfl (lb rfl) fun a S => ?_
    refine sSkip 12 true 17 21 S rfl rfl rfl rfl rfl (lb rfl) fun a S => ?_
    refine sSkip 12 true 17 22 S rfl rfl rfl rfl rfl (lb rfl) fun a S => ?_
    refine sPickF (.bool false) S (wN rfl) rfl rfl rfl rfl rfl (lb rfl) fun a S => ?_
    refine sMove (.bool false) S (wN rfl) (.inr rfl) rfl rfl (lb rfl) fun a S => ?_
    exact leafL (leafT (⟨false, Option.some.inj h, S.fix [] [] (by decide) rfl rfl rfl⟩))
  refine sField (b := b10) (off := 0) 1 1 S (wG 5 true 10 rfl rfl rfl hc15) rfl rfl rfl rfl rfl (lb rfl) fun a S => ?_
  refine sLoad1 (p := b10) (off := 1) (T := 24) (vs := [iv p0.W, iv p0.H, .slice ad3 p0.Bits.length cp4]) 1 (iv p0.H) S (wG 5 true 10 rfl rfl rfl hc15) rfl rfl rfl rfl rfl rfl (lb rfl) fun a S => ?_
  refine sField (b := b11) (off := 0) 1 1 S (wG 5 true 10 rfl rfl rfl hc15) rfl rfl rfl rfl rfl (lb rfl) fun a S => ?_
  refine sLoad1 (p := b11) (off := 1) (T := 24) (vs := [iv p1.W, iv p1.H, .slice ad7 p1.Bits.length cp8]) 0 (iv p1.H) S (wG 5 true 10 rfl rfl rfl hc15) rfl rfl rfl rfl rfl rfl (lb rfl) fun a S => ?_
  refine sBin (.bool (p0.H == p1.H)) S (wG 5 true 10 rfl rfl rfl hc15) rfl rfl rfl (bEq _ _ _ _ .i64 p0.H p1.H) rfl (lb rfl) fun a S => ?_
  refine sPickT (.bool (p0.H == p1.H)) S (wN rfl) rfl rfl hc15 rfl rfl (lb rfl) fun a S => ?_
  refine sMove (.bool (p0.H == p1.H)) S (wN rfl) (.inl rfl) rfl rfl (lb rfl) fun a S => ?_
  rcases iteSome h with ⟨hc16, h⟩ | ⟨hc16, h⟩
  rotate_left
  · refine sSkip 12 true 17 18 S rfl rfl rfl hc16 rfl (lb rfl) fun a S => ?_
    refine sSkip 12 true 17 19 S rfl rfl rfl hc16 rfl (lb rfl) fun a S => ?_
    refine sSkip 12 true 17 20 S rfl rfl rfl hc16 rfl (lb rfl) fun a S => ?_
    refine sSkip 12 true 17 21 S rfl rfl rfl hc16 rfl (lb rfl) fun a S => ?_
    refine sSkip 12 true 17 22 S rfl rfl rfl hc16 rfl (lb rfl) fun a S => ?_
    refine sPickF (.bool false) S (wN rfl) rfl rfl hc16 rfl rfl (lb rfl) fun a S => ?_
    refine sMove (.bool false) S (wN rfl) (.inr rfl) rfl rfl (lb rfl) fun a S => ?_
    exact leafL (leafT (⟨false, Option.some.inj h, S.fix [] [] (by decide) rfl rfl rfl⟩))
  refine sField (b := b10) (off := 0) 2 2 S (wG 12 true 17 rfl rfl rfl hc16) rfl rfl rfl rfl rfl (lb rfl) fun a S => ?_
  refine sLoad1 (p := b10) (off := 2) (T := 24) (vs := [iv p0.W, iv p0.H, .slice ad3 p0.Bits.length cp4]) 1 (.slice ad3 p0.Bits.length cp4) S (wG 12 true 17 rfl rfl rfl hc16) rfl rfl rfl rfl rfl rfl (lb rfl) fun a S => ?_
  refine sField (b := b11) (off := 0) 2 2 S (wG 12 true 17 rfl rfl rfl hc16) rfl rfl rfl rfl rfl (lb rfl) fun a S => ?_
  refine sLoad1 (p := b11) (off := 2) (T := 24) (vs := [iv p1.W, iv p1.H, .slice ad7 p1.Bits.length cp8]) 0 (.slice ad7 p1.Bits.length cp8) S (wG 12 true 17 rfl rfl rfl hc16) rfl rfl rfl rfl rfl rfl (lb rfl) fun a S => ?_
  obtain ⟨r17, hx18, h⟩ := bindSome h
  have S1 := S.mem
  refine sCallQ (X := Unit) (f := 70) (vs := [.slice ad3 p0.Bits.length cp4, .slice ad7 p1.Bits.length cp8]) (val := fun _ => .bool r17) S (wG 12 true 17 rfl rfl rfl hc16) rfl callee70 rfl (S1.quiet [1, 0] rfl) (fun E1 w1 S1 => c_slices_Equal___bool_bool_ E1 w1 p0.Bits (.slice ad3 p0.Bits.length cp4) p1.Bits (.slice ad7 p1.Bits.length cp8) r17 hx18 S1) rfl (lb rfl) fun _ a w S => ?_
  refine sPickT (.bool r17) S (wN rfl) rfl rfl hc16 rfl rfl (lb rfl) fun a S => ?_
  refine sMove (.bool r17) S (wN rfl) (.inr rfl) rfl rfl (lb rfl) fun a S => ?_
  exact leafL (leafT (⟨r17, Option.some.inj h, S.fix [] [] (by decide) rfl rfl rfl⟩))

end Go.Proofs.Ythfifeabomdlpaa
namespace Go.Proofs.Ythfifeabomdlpaa
open Go.RowKit
set_option linter.unusedVariables false

def anc_block_part_0 : List (List Nat) := [[], [0], [], [2], [], [], [], [5, 6], [2, 3, 4, 5, 6, 7], [0, 1, 2, 3, 4, 5, 6, 7, 8], [0, 1, 2, 3, 4, 5, 6, 7, 8, 9], [0, 1, 2, 3, 4, 5, 6, 7, 8, 9, 10]]
noncomputable def block_part_l1 (p2 : Int) (p0 : api_Grid) (p4 : Int) (p3 : Int) (p1 : Int) : (Int × List Bool) → Option ((Int × List Bool) ⊕ List Bool) := fun s0 => match s0 with
  | (s16, s17) =>
    if decide (s16 < p2) then
      Option.bind (sliceO p0.Bits (w64 ((w64 ((w64 ((w64 (p4 * p2)) + s16)) * p0.W)) + (w64 (p3 * p1)))) (w64 ((w64 ((w64 ((w64 ((w64 (p4 * p2)) + s16)) * p0.W)) + (w64 (p3 * p1)))) + p1))) fun y32 =>
      Option.bind (appO s17 y32) fun l36 =>
      some (.inl (w64 (s16 + 1), l36))
    else
      some (.inr s17)
noncomputable def F_block_part (p0 : api_Grid) (p1 : Int) (p2 : Int) (p3 : Int) (p4 : Int) : Option api_Grid :=
  Option.bind (α := List Bool) (
    Option.bind (whileO (block_part_l1 p2 p0 p4 p3 p1) (0, ([] : List Bool))) fun e23 =>
      some e23) fun o10 =>
  some (api_Grid.mk p1 p2 o10)
def c_block_part_val (r : api_Grid) (x : Value) : Value := x
def c_block_part_D (r : api_Grid) (x : Value) : List Fact := [fRep r_api_Grid x r]
set_option maxHeartbeats 4000000 in
set_option maxRecDepth 100000 in
theorem c_block_part (E : Nat → Prop) (w0 : World) (p0 : api_Grid) (v0 : Value) (p1 : Int) (p2 : Int) (p3 : Int) (p4 : Int) (r : api_Grid) (h : F_block_part p0 p1 p2 p3 p4 = some r) (S : St0 E [] w0 w0 [] [fRep r_api_Grid (v0) p0]) :
    Calls Try.prog 49 #[v0, iv p1, iv p2, iv p3, iv p4] w0 (Ret (X := Value) E [] w0 (c_block_part_val r) (fun _ => []) (c_block_part_D r)) := by
  unfold F_block_part at h
  obtain ⟨u1, rfl, hu2⟩ := S.know (i := 0) (e := fRep r_api_Grid (v0) p0) rfl
  have S := S.learn (fRep (rL rB) u1 p0.Bits) hu2
  obtain ⟨ad3, cp4, _, rfl, _⟩ := hu2
  refine sEnter (args := [.agg #[iv p0.W, iv p0.H, .slice ad3 p0.Bits.length cp4], iv p1, iv p2, iv p3, iv p4]) 46 Try.func49 rfl rfl (by simp) S (fun a S => ?_)
  refine sSeq (fun K5 hK5 => ?_)
  refine sRegion ?_
  refine sBox (v := .agg #[iv p0.W, iv p0.H, .slice ad3 p0.Bits.length cp4]) S (wN rfl) rfl rfl [iv p0.W, iv p0.H, .slice ad3 p0.Bits.length cp4] rfl rfl (lb rfl) fun a b6 w S => ?_
  refine sAlloc (.agg #[iv 0, iv 0, .slice none 0 0]) S (wN rfl) rfl rfl [iv 0, iv 0, .slice none 0 0] rfl rfl (lb rfl) fun a b7 w S => ?_
  refine leafL (leafT (hK5 _ _ ?_))
  refine sSeq (fun K8 hK8 => ?_)
  refine sRegion ?_
  refine sMove (iv p1) S (wN rfl) (.inl rfl) rfl rfl (lb rfl) fun a S => ?_
  refine sMove (iv p2) S (wN rfl) (.inl rfl) rfl rfl (lb rfl) fun a S => ?_
  refine sBuild [(0, iv p1), (1, iv p2)] [iv p1, iv p2, .slice none 0 0] S (wN rfl) rfl rfl rfl rfl (lb rfl) fun a S => ?_
  refine sAlloc (.agg #[iv 0, iv 0, .slice none 0 0]) S (wN rfl) rfl rfl [iv 0, iv 0, .slice none 0 0] rfl rfl (lb rfl) fun a b9 w S => ?_
  refine sStore (p := b9) (off := 0) (T := 24) (vs := [iv 0, iv 0, .slice none 0 0]) (v := .agg #[iv p1, iv p2, .slice none 0 0]) 0 [iv p1, iv p2, .slice none 0 0] S (wN rfl) rfl rfl rfl rfl rfl rfl rfl (by simp) rfl fun a w S => ?_
  refine leafL (leafT (hK8 _ _ ?_))
  obtain ⟨t13, h, g14⟩ := bindSome h
  refine sCut (fun a w => ∃ o10, o10 = t13 ∧ ∃ ad11, ∃ cp12, St [] E [] w0 46 a w [(10, .pointer (some ⟨b7, 0, none⟩)), (11, .pointer (some ⟨b9, 0, none⟩))] [eBox b7 24 [iv 0, iv 0, .slice none 0 0], eBox b9 24 [iv p1, iv p2, .slice ad11 o10.length cp12], eRow rB 4 (.slice ad11 o10.length cp12) o10] []) ?_ (fun a w hI => ?_)
  rotate_left
  · obtain ⟨o10, rfl, ad11, cp12, S⟩ := hI
    have h := g14
    clear g14
    try dsimp only at h
    refine sSeq (fun K44 hK44 => ?_)
    refine sRegion ?_
    refine sLoadN (p := b9) (off := 0) (T := 24) (vs := [iv p1, iv p2, .slice ad11 o10.length cp12]) 1 [iv p1, iv p2, .slice ad11 o10.length cp12] S (wN rfl) rfl rfl rfl rfl rfl rfl rfl (lb rfl) fun a S => ?_
    refine sStore (p := b7) (off := 0) (T := 24) (vs := [iv 0, iv 0, .slice none 0 0]) (v := .agg #[iv p1, iv p2, .slice ad11 o10.length cp12]) 0 [iv p1, iv p2, .slice ad11 o10.length cp12] S (wN rfl) rfl rfl rfl rfl rfl rfl rfl (by simp) rfl fun a w S => ?_
    refine leafL (leafT (hK44 _ _ ?_))
    obtain rfl := Option.some.inj h
    have S := S.shutR (r := rB) (T := 4) (v := .slice ad11 o10.length cp12) (xs := o10) 2 rfl
    have S := S.learn (fRep r_api_Grid (.agg #[iv p1, iv p2, .slice ad11 o10.length cp12]) (api_Grid.mk p1 p2 o10)) ⟨_, rfl, S.mem.know (i := 0) (e := fRep (rL rB) (.slice ad11 o10.length cp12) o10) rfl⟩
    exact wp_ret (sRet (.agg #[iv p1, iv p2, .slice ad11 o10.length cp12]) S (rsl1 rfl (rvN (c := 10) (t := 24) (T := 24) (p := b7) 0 [iv p1, iv p2, .slice ad11 o10.length cp12] S rfl rfl rfl rfl)) ⟨(.agg #[iv p1, iv p2, .slice ad11 o10.length cp12]), rfl, S.mem.sel [] [0] (by decide) rfl rfl⟩)
  refine sSeq (fun K15 hK15 => ?_)
  refine sRegion ?_
  refine sMove (iv p2) S (wN rfl) (.inl rfl) rfl rfl (lb rfl) fun a S => ?_
  refine sMove (iv 0) S (wN rfl) (.inl rfl) rfl rfl (lb rfl) fun a S => ?_
  refine leafL (leafT (hK15 _ _ ?_))
  refine wp_block ?_
  have S := S.nilRow rB 4 (α := Bool)
  obtain ⟨t22, hl, g21⟩ := bindSome h
  refine sLoop hl (fun s0 a w => match s0 with | (s16, s17) => ∃ ad18, ∃ cp19, St [] E [] w0 46 a w [(1, iv p1), (2, iv p2), (3, iv p3), (4, iv p4), (5, .pointer (some ⟨b6, 0, none⟩)), (10, .pointer (some ⟨b7, 0, none⟩)), (11, .pointer (some ⟨b9, 0, none⟩)), (17, iv p2), (18, iv s16)] [eBox b6 24 [iv p0.W, iv p0.H, .slice ad3 p0.Bits.length cp4], eBox b7 24 [iv 0, iv 0, .slice none 0 0], eBox b9 24 [iv p1, iv p2, .slice ad18 s17.length cp19], eRow rB 4 (.slice ad18 s17.length cp19) s17] [fRep (rL rB) (.slice ad3 p0.Bits.length cp4) p0.Bits]) ⟨none, 0, S.fix [3, 2, 1, 0] [0] (by decide) rfl rfl rfl⟩ ?_
  clear hl h
  intro s0 a w c0 hI h hu20
  obtain ⟨s16, s17⟩ := s0
  unfold block_part_l1 at h
  dsimp only at h hI
  obtain ⟨ad18, cp19, S⟩ := hI
  refine sSeq (fun K26 hK26 => ?_)
  refine sRegion ?_
  refine sBin (.bool (decide (s16 < p2))) S (wN rfl) rfl rfl rfl (bLt _ _ _ _ .i64 s16 p2) rfl (lb rfl) fun a S => ?_
  refine leafL (leafT (hK26 _ _ ?_))
  refine sSeq (fun K27 hK27 => ?_)
  rcases iteSome h with ⟨hc28, h⟩ | ⟨hc28, h⟩
  rotate_left
  · refine sCondF S rfl hc28 ?_
    obtain rfl := Option.some.inj h
    obtain rfl := hu20 _ rfl
    have h := g21
    clear g21
    try dsimp only at h
    exact wp_exit (xThen (xThen (xHit (leafT (⟨s17, Option.some.inj h, ad18, cp19, S.fix [1, 2, 3] [] (by decide) rfl rfl rfl⟩)))))
  refine sCondT S rfl hc28 ?_
  refine wp_skip (leafT (hK27 _ _ ?_))
  refine sSeq (fun K29 hK29 => ?_)
  refine wp_block ?_
  refine sSeq (fun K30 hK30 => ?_)
  refine sRegion ?_
  refine sMove (iv s16) S (wN rfl) (.inl rfl) rfl rfl (lb rfl) fun a S => ?_
  refine sMove (iv s16) S (wN rfl) (.inr rfl) rfl rfl (lb rfl) fun a S => ?_
  refine leafL (leafT (hK30 _ _ ?_))
  refine sSeq (fun K31 hK31 => ?_)
  refine sRegion ?_
  refine sMove (iv p4) S (wN rfl) (.inl rfl) rfl rfl (lb rfl) fun a S => ?_
  refine sMove (iv p2) S (wN rfl) (.inl rfl) rfl rfl (lb rfl) fun a S => ?_
  refine sBin (iv (w64 (p4 * p2))) S (wN rfl) rfl rfl rfl (bMul _ _ _ _ p4 p2) rfl (lb rfl) fun a S => ?_
  refine sMove (iv s16) S (wN rfl) (.inl rfl) rfl rfl (lb rfl) fun a S => ?_
  refine sBin (iv (w64 ((w64 (p4 * p2)) + s16))) S (wN rfl) rfl rfl rfl (bAdd _ _ _ _ (w64 (p4 * p2)) s16) rfl (lb rfl) fun a S => ?_
  refine sField (b := b6) (off := 0) 0 0 S (wN rfl) rfl rfl rfl rfl rfl (lb rfl) fun a S => ?_
  refine sLoad1 (p := b6) (off := 0) (T := 24) (vs := [iv p0.W, iv p0.H, .slice ad3 p0.Bits.length cp4]) 0 (iv p0.W) S (wN rfl) rfl rfl rfl rfl rfl rfl (lb rfl) fun a S => ?_
  refine sBin (iv (w64 ((w64 ((w64 (p4 * p2)) + s16)) * p0.W))) S (wN rfl) rfl rfl rfl (bMul _ _ _ _ (w64 ((w64 (p4 * p2)) + s16)) p0.W) rfl (lb rfl) fun a S => ?_
  refine sMove (iv p3) S (wN rfl) (.inl rfl) rfl rfl (lb rfl) fun a S => ?_
  refine sMove (iv p1) S (wN rfl) (.inl rfl) rfl rfl (lb rfl) fun a S => ?_
  refine sBin (iv (w64 (p3 * p1))) S (wN rfl) rfl rfl rfl (bMul _ _ _ _ p3 p1) rfl (lb rfl) fun a S => ?_
  refine sBin (iv (w64 ((w64 ((w64 ((w64 (p4 * p2)) + s16)) * p0.W)) + (w64 (p3 * p1))))) S (wN rfl) rfl rfl rfl (bAdd _ _ _ _ (w64 ((w64 ((w64 (p4 * p2)) + s16)) * p0.W)) (w64 (p3 * p1))) rfl (lb rfl) fun a S => ?_
  refine sMove (iv (w64 ((w64 ((w64 ((w64 (p4 * p2)) + s16)) * p0.W)) + (w64 (p3 * p1))))) S (wN rfl) (.inr rfl) rfl rfl (lb rfl) fun a S => ?_
  refine leafL (leafT (hK31 _ _ ?_))
  obtain ⟨y32, hx33, h⟩ := bindSome h
  obtain ⟨l36, hx37, h⟩ := bindSome h
  refine sDraw (nf := [8, 9, 11]) (W := [(0, 33, .pointer (some ⟨b9, 2, none⟩)), (1, 34, .slice ad18 s17.length cp19), (2, 35, .pointer (some ⟨b6, 2, none⟩)), (3, 36, .slice ad3 p0.Bits.length cp4), (4, 37, iv (w64 ((w64 ((w64 ((w64 (p4 * p2)) + s16)) * p0.W)) + (w64 (p3 * p1))))), (5, 38, iv (w64 ((w64 ((w64 ((w64 (p4 * p2)) + s16)) * p0.W)) + (w64 (p3 * p1))))), (6, 39, iv p1), (7, 40, iv (w64 ((w64 ((w64 ((w64 ((w64 (p4 * p2)) + s16)) * p0.W)) + (w64 (p3 * p1)))) + p1)))]) rfl S ?_
  refine node_by (A := anc_block_part_0) (nf := [8, 9, 11]) (Y := []) (W := [(0, 33, .pointer (some ⟨b9, 2, none⟩)), (1, 34, .slice ad18 s17.length cp19), (2, 35, .pointer (some ⟨b6, 2, none⟩)), (3, 36, .slice ad3 p0.Bits.length cp4), (4, 37, iv (w64 ((w64 ((w64 ((w64 (p4 * p2)) + s16)) * p0.W)) + (w64 (p3 * p1))))), (5, 38, iv (w64 ((w64 ((w64 ((w64 (p4 * p2)) + s16)) * p0.W)) + (w64 (p3 * p1))))), (6, 39, iv p1), (7, 40, iv (w64 ((w64 ((w64 ((w64 ((w64 (p4 * p2)) + s16)) * p0.W)) + (w64 (p3 * p1)))) + p1)))]) 12 (by kernel_rfl) (by kernel_rfl) (by kernel_rfl) (by kernel_rfl) (by kernel_rfl) [0, 1, 2, 3, 4, 5, 6, 7] (by kernel_rfl) (by decide) (by decide) (aF 0 11 (by decide) ?_ (aF 1 10 (by decide) ?_ (aF 2 9 (by decide) ?_ (aF 3 8 (by decide) ?_ (aF 4 7 (by decide) ?_ (aF 5 6 (by decide) ?_ (aF 6 5 (by decide) ?_ (aF 7 4 (by decide) ?_ (aN 8 3 (by decide) ?_ (aB 9 2 8 (by decide) (aE 10 1 8 (by decide) (aB 11 0 8 (by decide) (trivial))))))))))))) [] (fun q hq => by cases hq) (fun hY => absurd (hY 8 (by decide)) (by decide))
  · refine fI 33 (.pointer (some ⟨b9, 2, none⟩)) [(11, .pointer (some ⟨b9, 0, none⟩))] 0 [none] rfl rfl rfl rfl rfl rfl fun G a w S => ?_
    refine sField (b := b9) (off := 0) 2 2 S (wN rfl) rfl rfl rfl rfl rfl (lb rfl) fun a S => ?_
    exact leafL ⟨rfl, S⟩
  · refine fI 34 (.slice ad18 s17.length cp19) [(33, .pointer (some ⟨b9, 2, none⟩))] 1 [some 0] rfl rfl rfl rfl rfl rfl fun G a w S => ?_
    refine sLoad1 (p := b9) (off := 2) (T := 24) (vs := [iv p1, iv p2, .slice ad18 s17.length cp19]) 2 (.slice ad18 s17.length cp19) S (wN rfl) rfl rfl rfl rfl rfl rfl (lb rfl) fun a S => ?_
    exact leafL ⟨rfl, S⟩
  · refine fI 35 (.pointer (some ⟨b6, 2, none⟩)) [(5, .pointer (some ⟨b6, 0, none⟩))] 2 [none] rfl rfl rfl rfl rfl rfl fun G a w S => ?_
    refine sField (b := b6) (off := 0) 2 2 S (wN rfl) rfl rfl rfl rfl rfl (lb rfl) fun a S => ?_
    exact leafL ⟨rfl, S⟩
  · refine fI 36 (.slice ad3 p0.Bits.length cp4) [(35, .pointer (some ⟨b6, 2, none⟩))] 3 [some 2] rfl rfl rfl rfl rfl rfl fun G a w S => ?_
    refine sLoad1 (p := b6) (off := 2) (T := 24) (vs := [iv p0.W, iv p0.H, .slice ad3 p0.Bits.length cp4]) 0 (.slice ad3 p0.Bits.length cp4) S (wN rfl) rfl rfl rfl rfl rfl rfl (lb rfl) fun a S => ?_
    exact leafL ⟨rfl, S⟩
  · refine fI 37 (iv (w64 ((w64 ((w64 ((w64 (p4 * p2)) + s16)) * p0.W)) + (w64 (p3 * p1))))) [(13, iv (w64 ((w64 ((w64 ((w64 (p4 * p2)) + s16)) * p0.W)) + (w64 (p3 * p1)))))] 4 [none] rfl rfl rfl rfl rfl rfl fun G a w S => ?_
    refine sMove (iv (w64 ((w64 ((w64 ((w64 (p4 * p2)) + s16)) * p0.W)) + (w64 (p3 * p1))))) S (wN rfl) (.inl rfl) rfl rfl (lb rfl) fun a S => ?_
    exact leafL ⟨rfl, S⟩
  · refine fI 38 (iv (w64 ((w64 ((w64 ((w64 (p4 * p2)) + s16)) * p0.W)) + (w64 (p3 * p1))))) [(13, iv (w64 ((w64 ((w64 ((w64 (p4 * p2)) + s16)) * p0.W)) + (w64 (p3 * p1)))))] 5 [none] rfl rfl rfl rfl rfl rfl fun G a w S => ?_
    refine sMove (iv (w64 ((w64 ((w64 ((w64 (p4 * p2)) + s16)) * p0.W)) + (w64 (p3 * p1))))) S (wN rfl) (.inl rfl) rfl rfl (lb rfl) fun a S => ?_
    exact leafL ⟨rfl, S⟩
  · refine fI 39 (iv p1) [(1, iv p1)] 6 [none] rfl rfl rfl rfl rfl rfl fun G a w S => ?_
    refine sMove (iv p1) S (wN rfl) (.inl rfl) rfl rfl (lb rfl) fun a S => ?_
    exact leafL ⟨rfl, S⟩
  · refine fI 40 (iv (w64 ((w64 ((w64 ((w64 ((w64 (p4 * p2)) + s16)) * p0.W)) + (w64 (p3 * p1)))) + p1))) [(38, iv (w64 ((w64 ((w64 ((w64 (p4 * p2)) + s16)) * p0.W)) + (w64 (p3 * p1))))), (39, iv p1)] 7 [some 5, some 6] rfl rfl rfl rfl rfl rfl fun G a w S => ?_
    refine sBin (iv (w64 ((w64 ((w64 ((w64 ((w64 (p4 * p2)) + s16)) * p0.W)) + (w64 (p3 * p1)))) + p1))) S (wN rfl) rfl rfl rfl (bAdd _ _ _ _ (w64 ((w64 ((w64 ((w64 (p4 * p2)) + s16)) * p0.W)) + (w64 (p3 * p1)))) p1) rfl (lb rfl) fun a S => ?_
    exact leafL ⟨rfl, S⟩
  refine ⟨_, [(36, .slice ad3 p0.Bits.length cp4), (37, iv (w64 ((w64 ((w64 ((w64 (p4 * p2)) + s16)) * p0.W)) + (w64 (p3 * p1))))), (40, iv (w64 ((w64 ((w64 ((w64 ((w64 (p4 * p2)) + s16)) * p0.W)) + (w64 (p3 * p1)))) + p1)))], rfl, (srcs_of [some 3, some 4, some 7] rfl rfl rfl), fun G a w S => ?_⟩
  refine sSlice (r := rB) (v := .slice ad3 p0.Bits.length cp4) (xs := p0.Bits) (vlo := (some (.int .i64 (w64 ((w64 ((w64 ((w64 (p4 * p2)) + s16)) * p0.W)) + (w64 (p3 * p1))))))) (vhi := (some (.int .i64 (w64 ((w64 ((w64 ((w64 ((w64 (p4 * p2)) + s16)) * p0.W)) + (w64 (p3 * p1)))) + p1))))) (lo' := w64 ((w64 ((w64 ((w64 (p4 * p2)) + s16)) * p0.W)) + (w64 (p3 * p1)))) (hi' := w64 ((w64 ((w64 ((w64 ((w64 (p4 * p2)) + s16)) * p0.W)) + (w64 (p3 * p1)))) + p1)) 0 S (wN rfl) rfl Try.underlying22 rfl rfl rfl rfl rfl (.inl rfl) (.inl rfl) hx33 rfl (lb rfl) fun a ad40 cp41 S => ?_
  refine leafL ⟨rfl, _, _, .inl ⟨41, (.slice ad40 y32.length cp41), [], rfl, S, hz_of rfl, ?_⟩⟩
  refine node_by (A := anc_block_part_0) (nf := [8, 9, 11]) (Y := [8]) 12 (by kernel_rfl) (by kernel_rfl) (by kernel_rfl) (by kernel_rfl) (by kernel_rfl) [8, 0, 1, 2, 3, 4, 5, 6, 7] (by kernel_rfl) (by decide) (by decide) (aF 0 11 (by decide) ?_ (aF 1 10 (by decide) ?_ (aD 2 9 8 (by decide) (aD 3 8 8 (by decide) (aD 4 7 8 (by decide) (aD 5 6 8 (by decide) (aD 6 5 8 (by decide) (aD 7 4 8 (by decide) (aY 8 3 (by decide) (aN 9 2 (by decide) ?_ (aE 10 1 9 (by decide) (aB 11 0 9 (by decide) (trivial))))))))))))) [] (fun q hq => by cases hq) (fun hY => absurd (hY 9 (by decide)) (by decide))
  · refine fI 33 (.pointer (some ⟨b9, 2, none⟩)) [(11, .pointer (some ⟨b9, 0, none⟩))] 1 [none] rfl rfl rfl rfl rfl rfl fun G a w S => ?_
    refine sField (b := b9) (off := 0) 2 2 S (wN rfl) rfl rfl rfl rfl rfl (lb rfl) fun a S => ?_
    exact leafL ⟨rfl, S⟩
  · refine fI 34 (.slice ad18 s17.length cp19) [(33, .pointer (some ⟨b9, 2, none⟩))] 2 [some 1] rfl rfl rfl rfl rfl rfl fun G a w S => ?_
    refine sLoad1 (p := b9) (off := 2) (T := 24) (vs := [iv p1, iv p2, .slice ad18 s17.length cp19]) 2 (.slice ad18 s17.length cp19) S (wN rfl) rfl rfl rfl rfl rfl rfl (lb rfl) fun a S => ?_
    exact leafL ⟨rfl, S⟩
  refine ⟨_, [(34, .slice ad18 s17.length cp19), (41, .slice ad40 y32.length cp41)], rfl, (srcs_of [some 2, some 0] rfl rfl rfl), fun G a w S => ?_⟩
  refine sApp (r := rB) (T := 4) (xs := s17) (ys := y32) (v := .slice ad18 s17.length cp19) (u := .slice ad40 y32.length cp41) 3 (.bool false) 1 S (wN rfl) rfl Try.underlying22 rfl rfl (by decide) rfl rfl rfl (src_D 0 S.mem rfl) hx37 rfl (lb rfl) fun a w ad42 cp43 S => ?_
  refine leafL ⟨rfl, _, _, .inl ⟨42, (.slice ad42 l36.length cp43), [(10, 43, .pointer (some ⟨b9, 2, none⟩))], rfl, S, hz_of rfl, ?_⟩⟩
  refine node_by (A := anc_block_part_0) (nf := [8, 9, 11]) (Y := [9, 8]) 12 (by kernel_rfl) (by kernel_rfl) (by kernel_rfl) (by kernel_rfl) (by kernel_rfl) [10, 9, 8, 0, 1, 2, 3, 4, 5, 6, 7] (by kernel_rfl) (by decide) (by decide) (aD 0 11 9 (by decide) (aD 1 10 9 (by decide) (aD 2 9 9 (by decide) (aD 3 8 9 (by decide) (aD 4 7 9 (by decide) (aD 5 6 9 (by decide) (aD 6 5 9 (by decide) (aD 7 4 9 (by decide) (aY 8 3 (by decide) (aY 9 2 (by decide) (aF 10 1 (by decide) ?_ (aN 11 0 (by decide) ?_ (trivial))))))))))))) [] (fun q hq => by cases hq) (fun hY => absurd (hY 11 (by decide)) (by decide))
  · refine fI 43 (.pointer (some ⟨b9, 2, none⟩)) [(11, .pointer (some ⟨b9, 0, none⟩))] 0 [none] rfl rfl rfl rfl rfl rfl fun G a w S => ?_
    refine sField (b := b9) (off := 0) 2 2 S (wN rfl) rfl rfl rfl rfl rfl (lb rfl) fun a S => ?_
    exact leafL ⟨rfl, S⟩
  refine ⟨_, [(42, .slice ad42 l36.length cp43), (43, .pointer (some ⟨b9, 2, none⟩))], rfl, (srcs_of [some 1, some 0] rfl rfl rfl), fun G a w S => ?_⟩
  refine sStore (p := b9) (off := 2) (T := 24) (vs := [iv p1, iv p2, .slice ad18 s17.length cp19]) (v := .slice ad42 l36.length cp43) 3 [.slice ad42 l36.length cp43] S (wN rfl) rfl rfl rfl rfl rfl rfl rfl (by simp) rfl fun a w S => ?_
  refine leafL ⟨rfl, _, _, .inr ⟨[], rfl, S, hz_of rfl, ?_⟩⟩
  refine node_by (A := anc_block_part_0) (nf := [8, 9, 11]) (Y := [11, 9, 8]) 12 (by kernel_rfl) (by kernel_rfl) (by kernel_rfl) (by kernel_rfl) (by kernel_rfl) [10, 9, 8, 0, 1, 2, 3, 4, 5, 6, 7] (by kernel_rfl) (by decide) (by decide) (aD 0 11 11 (by decide) (aD 1 10 11 (by decide) (aD 2 9 11 (by decide) (aD 3 8 11 (by decide) (aD 4 7 11 (by decide) (aD 5 6 11 (by decide) (aD 6 5 11 (by decide) (aD 7 4 11 (by decide) (aY 8 3 (by decide) (aY 9 2 (by decide) (aD 10 1 11 (by decide) (aY 11 0 (by decide) (trivial))))))))))))) [(1, iv p1), (2, iv p2), (3, iv p3), (4, iv p4), (5, .pointer (some ⟨b6, 0, none⟩)), (10, .pointer (some ⟨b7, 0, none⟩)), (11, .pointer (some ⟨b9, 0, none⟩)), (17, iv p2), (18, iv s16)] (fin_of [none, none, none, none, none, none, none, none, none] rfl (by kernel_rfl) (by kernel_rfl)) (fun _ a w S => ?_)
  refine leafB (leafT (hK29 _ _ ?_))
  refine sRegion ?_
  refine sBin (iv (w64 (s16 + 1))) S (wN rfl) rfl rfl rfl (bAdd _ _ _ _ s16 1) rfl (lb rfl) fun a S => ?_
  refine sMove (iv (w64 (s16 + 1))) S (wN rfl) (.inl rfl) rfl rfl (lb rfl) fun a S => ?_
  exact leafL (leafT (⟨(w64 (s16 + 1), l36), (Option.some.inj h).symm, ⟨ad42, cp43, S.fix [2, 3, 0, 1] [1] (by decide) rfl rfl rfl⟩⟩))

end Go.Proofs.Ythfifeabomdlpaa
namespace Go.Proofs.Ythfifeabomdlpaa
open Go.RowKit
set_option linter.unusedVariables false

end Go.Proofs.Ythfifeabomdlpaa
namespace Go.Proofs.Ythfifeabomdlpaa
open Go.RowKit
set_option linter.unusedVariables false

def anc_raddleref01_Same_0 : List (List Nat) := [[], [0], [], [0, 1, 2], [0, 1, 2, 3], [], [5], [], [5, 6, 7], [5, 6, 7, 8], [0, 1, 2, 3, 4, 5, 6, 7, 8, 9]]
noncomputable def raddleref01_Same_l1 (p0 : api_Grid) (p1 : api_Grid) : Int → Option (Int ⊕ (Bool ⊕ Unit)) := fun s0 => match s0 with
  | s23 =>
    if decide (s23 < (p0.Bits.length : Int)) then
      Option.bind (idxO p0.Bits s23) fun x32 =>
      Option.bind (idxO p1.Bits s23) fun x37 =>
      if x32 != x37 then
        some (.inr (.inl false))
      else
        some (.inl (w64 (s23 + 1)))
    else
      some (.inr (.inr ()))
noncomputable def F_raddleref01_Same (p0 : api_Grid) (p1 : api_Grid) : Option Bool :=
  Option.bind (α := Bool) (
    if p0.W != p1.W then
      some true
    else
      if p0.H != p1.H then
        some true
      else
        some ((p0.Bits.length : Int) != (p1.Bits.length : Int))) fun o13 =>
  if o13 then
    some false
  else
    Option.bind (α := Unit ⊕ Bool) (
      Option.bind (whileO (raddleref01_Same_l1 p0 p1) 0) fun z0 => match z0 with
        | .inl z =>
          some (.inr z)
        | .inr _ =>
          some (.inl ())) fun z0 => match z0 with
      | .inl _ =>
        some true
      | .inr z =>
        some z
set_option maxHeartbeats 4000000 in
set_option maxRecDepth 100000 in
theorem c_raddleref01_Same (E : Nat → Prop) (w0 : World) (p0 : api_Grid) (v0 : Value) (p1 : api_Grid) (v1 : Value) (r : Bool) (h : F_raddleref01_Same p0 p1 = some r) (S : St0 E [] w0 w0 [] [fRep r_api_Grid (v0) p0, fRep r_api_Grid (v1) p1]) :
    Calls Try.prog 17 #[v0, v1] w0 (Ret (X := Unit) E [] w0 (fun _ => .bool r) (fun _ => []) (fun _ => [])) := by
  unfold F_raddleref01_Same at h
  obtain ⟨u1, rfl, hu2⟩ := S.know (i := 0) (e := fRep r_api_Grid (v0) p0) rfl
  have S := S.learn (fRep (rL rB) u1 p0.Bits) hu2
  obtain ⟨ad3, cp4, _, rfl, _⟩ := hu2
  obtain ⟨u5, rfl, hu6⟩ := S.know (i := 2) (e := fRep r_api_Grid (v1) p1) rfl
  have S := S.learn (fRep (rL rB) u5 p1.Bits) hu6
  obtain ⟨ad7, cp8, _, rfl, _⟩ := hu6
  refine sEnter (args := [.agg #[iv p0.W, iv p0.H, .slice ad3 p0.Bits.length cp4], .agg #[iv p1.W, iv p1.H, .slice ad7 p1.Bits.length cp8]]) 45 Try.func17 rfl rfl (by simp) S (fun a S => ?_)
  refine sSeq (fun K9 hK9 => ?_)
  refine sRegion ?_
  refine sBox (v := .agg #[iv p0.W, iv p0.H, .slice ad3 p0.Bits.length cp4]) S (wN rfl) rfl rfl [iv p0.W, iv p0.H, .slice ad3 p0.Bits.length cp4] rfl rfl (lb rfl) fun a b10 w S => ?_
  refine sBox (v := .agg #[iv p1.W, iv p1.H, .slice ad7 p1.Bits.length cp8]) S (wN rfl) rfl rfl [iv p1.W, iv p1.H, .slice ad7 p1.Bits.length cp8] rfl rfl (lb rfl) fun a b11 w S => ?_
  refine sMove (.bool false) S (wN rfl) (.inr rfl) rfl rfl (lb rfl) fun a S => ?_
  refine leafL (leafT (hK9 _ _ ?_))
  refine sSeq (fun K12 hK12 => ?_)
  obtain ⟨t14, h, g15⟩ := bindSome h
  refine sCut (fun a w => ∃ o13, o13 = t14 ∧ St [] E [] w0 45 a w [(2, .pointer (some ⟨b10, 0, none⟩)), (3, .pointer (some ⟨b11, 0, none⟩)), (26, .bool o13)] [eBox b10 24 [iv p0.W, iv p0.H, .slice ad3 p0.Bits.length cp4], eBox b11 24 [iv p1.W, iv p1.H, .slice ad7 p1.Bits.length cp8]] [fRep (rL rB) (.slice ad3 p0.Bits.length cp4) p0.Bits, fRep (rL rB) (.slice ad7 p1.Bits.length cp8) p1.Bits]) ?_ (fun a w hI => ?_)
  · refine sRegion ?_
    refine sField (b := b10) (off := 0) 0 0 S (wN rfl) rfl rfl rfl rfl rfl (lb rfl) fun a S => ?_
    refine sLoad1 (p := b10) (off := 0) (T := 24) (vs := [iv p0.W, iv p0.H, .slice ad3 p0.Bits.length cp4]) 1 (iv p0.W) S (wN rfl) rfl rfl rfl rfl rfl rfl (lb rfl) fun a S => ?_
    refine sField (b := b11) (off := 0) 0 0 S (wN rfl) rfl rfl rfl rfl rfl (lb rfl) fun a S => ?_
    refine sLoad1 (p := b11) (off := 0) (T := 24) (vs := [iv p1.W, iv p1.H, .slice ad7 p1.Bits.length cp8]) 0 (iv p1.W) S (wN rfl) rfl rfl rfl rfl rfl rfl (lb rfl) fun a S => ?_
    refine sBin (.bool (p0.W != p1.W)) S (wN rfl) rfl rfl rfl (bNe _ _ _ _ .i64 p0.W p1.W) rfl (lb rfl) fun a S => ?_
    refine sMove (.bool (p0.W != p1.W)) S (wN rfl) (.inl rfl) rfl rfl (lb rfl) fun a S => ?_
    rcases iteSome h with ⟨hc16, h⟩ | ⟨hc16, h⟩
    · refine sSkip 5 false 11 12 S rfl rfl rfl hc16 rfl (lb rfl) fun a S => ?_
      refine sSkip 5 false 11 13 S rfl rfl rfl hc16 rfl (lb rfl) fun a S => ?_
      refine sSkip 5 false 11 14 S rfl rfl rfl hc16 rfl (lb rfl) fun a S => ?_
      refine sSkip 5 false 11 15 S rfl rfl rfl hc16 rfl (lb rfl) fun a S => ?_
      refine sSkip 5 false 11 16 S rfl rfl rfl hc16 rfl (lb rfl) fun a S => ?_
      refine sPickT (.bool true) S (wN rfl) rfl rfl hc16 rfl rfl (lb rfl) fun a S => ?_
      refine sMove (.bool true) S (wN rfl) (.inl rfl) rfl rfl (lb rfl) fun a S => ?_
      refine sSkip 12 false 18 19 S rfl rfl rfl rfl rfl (lb rfl) fun a S => ?_
      refine sSkip 12 false 18 20 S rfl rfl rfl rfl rfl (lb rfl) fun a S => ?_
      refine sSkip 12 false 18 21 S rfl rfl rfl rfl rfl (lb rfl) fun a S => ?_
      refine sSkip 12 false 18 22 S rfl rfl rfl rfl rfl (lb rfl) fun a S => ?_
      refine sSkip 12 false 18 23 S rfl rfl rfl rfl rfl (lb rfl) fun a S => ?_
      refine sSkip 12 false 18 24 S rfl rfl rfl rfl rfl (lb rfl) fun a S => ?_
      refine sSkip 12 false 18 25 S rfl rfl rfl rfl rfl (lb rfl) fun a S => ?_
      refine sPickT (.bool true) S (wN rfl) rfl rfl rfl rfl rfl (lb rfl) fun a S => ?_
      exact leafL (leafT (⟨true, Option.some.inj h, S.fix [1, 0] [1, 0] (by decide) rfl rfl rfl⟩))
    refine sField (b := b10) (off := 0) 1 1 S (wG 5 false 11 rfl rfl rfl hc16) rfl rfl rfl rfl rfl (lb rfl) fun a S => ?_
    refine sLoad1 (p := b10) (off := 1) (T := 24) (vs := [iv p0.W, iv p0.H, .slice ad3 p0.Bits.length cp4]) 1 (iv p0.H) S (wG 5 false 11 rfl rfl rfl hc16) rfl rfl rfl rfl rfl rfl (lb rfl) fun a S => ?_
    refine sField (b := b11) (off := 0) 1 1 S (wG 5 false 11 rfl rfl rfl hc16) rfl rfl rfl rfl rfl (lb rfl) fun a S => ?_
    refine sLoad1 (p := b11) (off := 1) (T := 24) (vs := [iv p1.W, iv p1.H, .slice ad7 p1.Bits.length cp8]) 0 (iv p1.H) S (wG 5 false 11 rfl rfl rfl hc16) rfl rfl rfl rfl rfl rfl (lb rfl) fun a S => ?_
    refine sBin (.bool (p0.H != p1.H)) S (wG 5 false 11 rfl rfl rfl hc16) rfl rfl rfl (bNe _ _ _ _ .i64 p0.H p1.H) rfl (lb rfl) fun a S => ?_
    refine sPickF (.bool (p0.H != p1.H)) S (wN rfl) rfl rfl hc16 rfl rfl (lb rfl) fun a S => ?_
    refine sMove (.bool (p0.H != p1.H)) S (wN rfl) (.inl rfl) rfl rfl (lb rfl) fun a S => ?_
    rcases iteSome h with ⟨hc17, h⟩ | ⟨hc17, h⟩
    · refine sSkip 12 false 18 19 S rfl rfl rfl hc17 rfl (lb rfl) fun a S => ?_
      refine sSkip 12 false 18 20 S rfl rfl rfl hc17 rfl (lb rfl) fun a S => ?_
      refine sSkip 12 false 18 21 S rfl rfl rfl hc17 rfl (lb rfl) fun a S => ?_
      refine sSkip 12 false 18 22 S rfl rfl rfl hc17 rfl (lb rfl) fun a S => ?_
      refine sSkip 12 false 18 23 S rfl rfl rfl hc17 rfl (lb rfl) fun a S => ?_
      refine sSkip 12 false 18 24 S rfl rfl rfl hc17 rfl (lb rfl) fun a S => ?_
      refine sSkip 12 false 18 25 S rfl rfl rfl hc17 rfl (lb rfl) fun a S => ?_
      refine sPickT (.bool true) S (wN rfl) rfl rfl hc17 rfl rfl (lb rfl) fun a S => ?_
      exact leafL (leafT (⟨true, Option.some.inj h, S.fix [1, 0] [1, 0] (by decide) rfl rfl rfl⟩))
    refine sField (b := b10) (off := 0) 2 2 S (wG 12 false 18 rfl rfl rfl hc17) rfl rfl rfl rfl rfl (lb rfl) fun a S => ?_
    refine sLoad1 (p := b10) (off := 2) (T := 24) (vs := [iv p0.W, iv p0.H, .slice ad3 p0.Bits.length cp4]) 1 (.slice ad3 p0.Bits.length cp4) S (wG 12 false 18 rfl rfl rfl hc17) rfl rfl rfl rfl rfl rfl (lb rfl) fun a S => ?_
    refine sLen (ad := ad3) (m := p0.Bits.length) (c := cp4) S (wG 12 false 18 rfl rfl rfl hc17) rfl Try.underlying22 rfl rfl (lb rfl) fun a S => ?_
    refine sField (b := b11) (off := 0) 2 2 S (wG 12 false 18 rfl rfl rfl hc17) rfl rfl rfl rfl rfl (lb rfl) fun a S => ?_
    refine sLoad1 (p := b11) (off := 2) (T := 24) (vs := [iv p1.W, iv p1.H, .slice ad7 p1.Bits.length cp8]) 0 (.slice ad7 p1.Bits.length cp8) S (wG 12 false 18 rfl rfl rfl hc17) rfl rfl rfl rfl rfl rfl (lb rfl) fun a S => ?_
    refine sLen (ad := ad7) (m := p1.Bits.length) (c := cp8) S (wG 12 false 18 rfl rfl rfl hc17) rfl Try.underlying22 rfl rfl (lb rfl) fun a S => ?_
    refine sBin (.bool ((p0.Bits.length : Int) != (p1.Bits.length : Int))) S (wG 12 false 18 rfl rfl rfl hc17) rfl rfl rfl (bNe _ _ _ _ .i64 (p0.Bits.length : Int) (p1.Bits.length : Int)) rfl (lb rfl) fun a S => ?_
    refine sPickF (.bool ((p0.Bits.length : Int) != (p1.Bits.length : Int))) S (wN rfl) rfl rfl hc17 rfl rfl (lb rfl) fun a S => ?_
    exact leafL (leafT (⟨(p0.Bits.length : Int) != (p1.Bits.length : Int), Option.some.inj h, S.fix [1, 0] [1, 0] (by decide) rfl rfl rfl⟩))
  obtain ⟨o13, rfl, S⟩ := hI
  have h := g15
  clear g15
  try dsimp only at h
  rcases iteSome h with ⟨hc18, h⟩ | ⟨hc18, h⟩
  · refine sCondT S rfl hc18 ?_
    refine sSeq (fun K19 hK19 => ?_)
    refine sRegion ?_
    refine sMove (.bool false) S (wN rfl) (.inr rfl) rfl rfl (lb rfl) fun a S => ?_
    refine leafL (leafT (hK19 _ _ ?_))
    obtain rfl := Option.some.inj h
    exact wp_ret (rThen (sRet (.bool false) S (rsl1 rfl (rvT (t := 4) (v := .bool false) S rfl)) ⟨(), rfl, S.mem.sel [] [] (by decide) rfl rfl⟩))
  refine sCondF S rfl hc18 ?_
  refine wp_skip (leafT (hK12 _ _ ?_))
  obtain ⟨t20, h, g21⟩ := bindSome h
  refine sCut (fun a w => .inl () = t20 ∧ St [] E [] w0 45 a w [] [] []) ?_ (fun a w hI => ?_)
  rotate_left
  · obtain ⟨rfl, S⟩ := hI
    have h := g21
    clear g21
    try dsimp only at h
    refine sSeq (fun K50 hK50 => ?_)
    refine sRegion ?_
    refine sMove (.bool true) S (wN rfl) (.inr rfl) rfl rfl (lb rfl) fun a S => ?_
    refine leafL (leafT (hK50 _ _ ?_))
    obtain rfl := Option.some.inj h
    exact wp_ret (sRet (.bool true) S (rsl1 rfl (rvT (t := 4) (v := .bool true) S rfl)) ⟨(), rfl, S.mem.sel [] [] (by decide) rfl rfl⟩)
  refine sSeq (fun K22 hK22 => ?_)
  refine sRegion ?_
  refine sMove (iv 0) S (wN rfl) (.inr rfl) rfl rfl (lb rfl) fun a S => ?_
  refine leafL (leafT (hK22 _ _ ?_))
  refine wp_block ?_
  obtain ⟨t26, hl, g25⟩ := bindSome h
  refine sLoop hl (fun s0 a w => match s0 with | s23 => St [] E [] w0 45 a w [(2, .pointer (some ⟨b10, 0, none⟩)), (3, .pointer (some ⟨b11, 0, none⟩)), (5, iv s23)] [eBox b10 24 [iv p0.W, iv p0.H, .slice ad3 p0.Bits.length cp4], eBox b11 24 [iv p1.W, iv p1.H, .slice ad7 p1.Bits.length cp8]] [fRep (rL rB) (.slice ad3 p0.Bits.length cp4) p0.Bits, fRep (rL rB) (.slice ad7 p1.Bits.length cp8) p1.Bits]) (S.fix [0, 1] [0, 1] (by decide) rfl rfl rfl) ?_
  clear hl h
  intro s23 a w c0 hI h hu24
  unfold raddleref01_Same_l1 at h
  dsimp only at h hI
  have S := hI
  refine sSeq (fun K27 hK27 => ?_)
  refine sSeq (fun K28 hK28 => ?_)
  refine sRegion ?_
  refine sMove (iv s23) S (wN rfl) (.inl rfl) rfl rfl (lb rfl) fun a S => ?_
  refine sField (b := b10) (off := 0) 2 2 S (wN rfl) rfl rfl rfl rfl rfl (lb rfl) fun a S => ?_
  refine sLoad1 (p := b10) (off := 2) (T := 24) (vs := [iv p0.W, iv p0.H, .slice ad3 p0.Bits.length cp4]) 0 (.slice ad3 p0.Bits.length cp4) S (wN rfl) rfl rfl rfl rfl rfl rfl (lb rfl) fun a S => ?_
  refine sLen (ad := ad3) (m := p0.Bits.length) (c := cp4) S (wN rfl) rfl Try.underlying22 rfl rfl (lb rfl) fun a S => ?_
  refine sBin (.bool (decide (s23 < (p0.Bits.length : Int)))) S (wN rfl) rfl rfl rfl (bLt _ _ _ _ .i64 s23 (p0.Bits.length : Int)) rfl (lb rfl) fun a S => ?_
  refine leafL (leafT (hK28 _ _ ?_))
  rcases iteSome h with ⟨hc29, h⟩ | ⟨hc29, h⟩
  rotate_left
  · refine sCondF S rfl hc29 ?_
    obtain rfl := Option.some.inj h
    obtain rfl := hu24 _ rfl
    have h := g25
    clear g25
    try dsimp only at h
    exact wp_exit (xThen (xThen (xHit (leafT (⟨Option.some.inj h, S.fix [] [] (by decide) rfl rfl rfl⟩)))))
  refine sCondT S rfl hc29 ?_
  refine wp_skip (leafT (hK27 _ _ ?_))
  refine sSeq (fun K30 hK30 => ?_)
  refine wp_block ?_
  refine sSeq (fun K31 hK31 => ?_)
  obtain ⟨x32, hx33, h⟩ := bindSome h
  obtain ⟨x37, hx38, h⟩ := bindSome h
  obtain ⟨q42, hq43, S⟩ := pIdx (P := Try.prog) (r := rB) (v := .slice ad3 p0.Bits.length cp4) (xs := p0.Bits) (j := s23) 22 4 0 S Try.underlying22 rfl rfl hx33
  obtain ⟨u44, S⟩ := pLoad (r := rB) (q := q42) (x := x32) 0 S rfl
  obtain rfl : u44 = .bool x32 := S.mem.know (i := 1) (e := fRep rB (u44) x32) rfl
  obtain ⟨q45, hq46, S⟩ := pIdx (P := Try.prog) (r := rB) (v := .slice ad7 p1.Bits.length cp8) (xs := p1.Bits) (j := s23) 22 4 4 S Try.underlying22 rfl rfl hx38
  obtain ⟨u47, S⟩ := pLoad (r := rB) (q := q45) (x := x37) 0 S rfl
  obtain rfl : u47 = .bool x37 := S.mem.know (i := 1) (e := fRep rB (u47) x37) rfl
  refine sDraw (nf := []) (W := [(0, 34, .pointer (some ⟨b10, 2, none⟩)), (1, 35, .slice ad3 p0.Bits.length cp4), (2, 36, iv s23), (3, 37, q42), (4, 38, .bool x32), (5, 39, .pointer (some ⟨b11, 2, none⟩)), (6, 40, .slice ad7 p1.Bits.length cp8), (7, 41, iv s23), (8, 42, q45), (9, 43, .bool x37), (10, 44, .bool (x32 != x37))]) rfl S ?_
  refine node_by (A := anc_raddleref01_Same_0) (nf := []) (Y := []) (W := [(0, 34, .pointer (some ⟨b10, 2, none⟩)), (1, 35, .slice ad3 p0.Bits.length cp4), (2, 36, iv s23), (3, 37, q42), (4, 38, .bool x32), (5, 39, .pointer (some ⟨b11, 2, none⟩)), (6, 40, .slice ad7 p1.Bits.length cp8), (7, 41, iv s23), (8, 42, q45), (9, 43, .bool x37), (10, 44, .bool (x32 != x37))]) 11 (by kernel_rfl) (by kernel_rfl) (by kernel_rfl) (by kernel_rfl) (by kernel_rfl) [0, 1, 2, 3, 4, 5, 6, 7, 8, 9, 10] (by kernel_rfl) (by decide) (by decide) (aF 0 10 (by decide) ?_ (aF 1 9 (by decide) ?_ (aF 2 8 (by decide) ?_ (aF 3 7 (by decide) ?_ (aF 4 6 (by decide) ?_ (aF 5 5 (by decide) ?_ (aF 6 4 (by decide) ?_ (aF 7 3 (by decide) ?_ (aF 8 2 (by decide) ?_ (aF 9 1 (by decide) ?_ (aF 10 0 (by decide) ?_ (trivial)))))))))))) [(2, .pointer (some ⟨b10, 0, none⟩)), (3, .pointer (some ⟨b11, 0, none⟩)), (5, iv s23), (44, .bool (x32 != x37))] (fin_of [none, none, none, some 10] rfl (by kernel_rfl) (by kernel_rfl)) (fun _ a w S => ?_)
  · refine fI 34 (.pointer (some ⟨b10, 2, none⟩)) [(2, .pointer (some ⟨b10, 0, none⟩))] 0 [none] rfl rfl rfl rfl rfl rfl fun G a w S => ?_
    refine sField (b := b10) (off := 0) 2 2 S (wN rfl) rfl rfl rfl rfl rfl (lb rfl) fun a S => ?_
    exact leafL ⟨rfl, S⟩
  · refine fI 35 (.slice ad3 p0.Bits.length cp4) [(34, .pointer (some ⟨b10, 2, none⟩))] 1 [some 0] rfl rfl rfl rfl rfl rfl fun G a w S => ?_
    refine sLoad1 (p := b10) (off := 2) (T := 24) (vs := [iv p0.W, iv p0.H, .slice ad3 p0.Bits.length cp4]) 0 (.slice ad3 p0.Bits.length cp4) S (wN rfl) rfl rfl rfl rfl rfl rfl (lb rfl) fun a S => ?_
    exact leafL ⟨rfl, S⟩
  · refine fI 36 (iv s23) [(5, iv s23)] 2 [none] rfl rfl rfl rfl rfl rfl fun G a w S => ?_
    refine sMove (iv s23) S (wN rfl) (.inl rfl) rfl rfl (lb rfl) fun a S => ?_
    exact leafL ⟨rfl, S⟩
  · refine fI 37 q42 [(35, .slice ad3 p0.Bits.length cp4), (36, iv s23)] 3 [some 1, some 2] rfl rfl rfl rfl rfl rfl fun G a w S => ?_
    refine sIdxV (v := .slice ad3 p0.Bits.length cp4) (k := .i64) (j := s23) S (wN rfl) rfl rfl rfl hq43 rfl (lb rfl) fun a S => ?_
    exact leafL ⟨rfl, S⟩
  · refine fI 38 (.bool x32) [(37, q42)] 4 [some 3] rfl rfl rfl rfl rfl rfl fun G a w S => ?_
    refine sLoadV1 (vq := q42) 3 (.bool x32) S (wN rfl) rfl rfl rfl rfl rfl (lb rfl) fun a S => ?_
    exact leafL ⟨rfl, S⟩
  · refine fI 39 (.pointer (some ⟨b11, 2, none⟩)) [(3, .pointer (some ⟨b11, 0, none⟩))] 5 [none] rfl rfl rfl rfl rfl rfl fun G a w S => ?_
    refine sField (b := b11) (off := 0) 2 2 S (wN rfl) rfl rfl rfl rfl rfl (lb rfl) fun a S => ?_
    exact leafL ⟨rfl, S⟩
  · refine fI 40 (.slice ad7 p1.Bits.length cp8) [(39, .pointer (some ⟨b11, 2, none⟩))] 6 [some 5] rfl rfl rfl rfl rfl rfl fun G a w S => ?_
    refine sLoad1 (p := b11) (off := 2) (T := 24) (vs := [iv p1.W, iv p1.H, .slice ad7 p1.Bits.length cp8]) 1 (.slice ad7 p1.Bits.length cp8) S (wN rfl) rfl rfl rfl rfl rfl rfl (lb rfl) fun a S => ?_
    exact leafL ⟨rfl, S⟩
  · refine fI 41 (iv s23) [(5, iv s23)] 7 [none] rfl rfl rfl rfl rfl rfl fun G a w S => ?_
    refine sMove (iv s23) S (wN rfl) (.inl rfl) rfl rfl (lb rfl) fun a S => ?_
    exact leafL ⟨rfl, S⟩
  · refine fI 42 q45 [(40, .slice ad7 p1.Bits.length cp8), (41, iv s23)] 8 [some 6, some 7] rfl rfl rfl rfl rfl rfl fun G a w S => ?_
    refine sIdxV (v := .slice ad7 p1.Bits.length cp8) (k := .i64) (j := s23) S (wN rfl) rfl rfl rfl hq46 rfl (lb rfl) fun a S => ?_
    exact leafL ⟨rfl, S⟩
  · refine fI 43 (.bool x37) [(42, q45)] 9 [some 8] rfl rfl rfl rfl rfl rfl fun G a w S => ?_
    refine sLoadV1 (vq := q45) 0 (.bool x37) S (wN rfl) rfl rfl rfl rfl rfl (lb rfl) fun a S => ?_
    exact leafL ⟨rfl, S⟩
  · refine fI 44 (.bool (x32 != x37)) [(38, .bool x32), (43, .bool x37)] 10 [some 4, some 9] rfl rfl rfl rfl rfl rfl fun G a w S => ?_
    refine sBin (.bool (x32 != x37)) S (wN rfl) rfl rfl rfl (bNeB _ _ _ _ Try.underlying4 x32 x37) rfl (lb rfl) fun a S => ?_
    exact leafL ⟨rfl, S⟩
  refine leafT (hK31 _ _ ?_)
  rcases iteSome h with ⟨hc48, h⟩ | ⟨hc48, h⟩
  rotate_left
  · refine sCondF S rfl hc48 ?_
    refine wp_skip (leafB (leafT (hK30 _ _ ?_)))
    refine sRegion ?_
    refine sMove (iv s23) S (wN rfl) (.inl rfl) rfl rfl (lb rfl) fun a S => ?_
    refine sBin (iv (w64 (s23 + 1))) S (wN rfl) rfl rfl rfl (bAdd _ _ _ _ s23 1) rfl (lb rfl) fun a S => ?_
    refine sMove (iv (w64 (s23 + 1))) S (wN rfl) (.inr rfl) rfl rfl (lb rfl) fun a S => ?_
    exact leafL (leafT (⟨w64 (s23 + 1), (Option.some.inj h).symm, (S.fix [0, 1] [6, 7] (by decide) rfl rfl rfl)⟩))
  refine sCondT S rfl hc48 ?_
  refine sSeq (fun K49 hK49 => ?_)
  refine sRegion ?_
  refine sMove (.bool false) S (wN rfl) (.inr rfl) rfl rfl (lb rfl) fun a S => ?_
  refine leafL (leafT (hK49 _ _ ?_))
  obtain rfl := Option.some.inj h
  obtain rfl := hu24 _ rfl
  have h := g25
  clear g25
  try dsimp only at h
  obtain rfl := Option.some.inj h
  have h := g21
  clear g21
  try dsimp only at h
  obtain rfl := Option.some.inj h
  exact wp_ret (rBlock (rThen (rThen (rBlock (rThen (sRet (.bool false) S (rsl1 rfl (rvT (t := 4) (v := .bool false) S rfl)) ⟨(), rfl, S.mem.sel [] [] (by decide) rfl rfl⟩))))))

end Go.Proofs.Ythfifeabomdlpaa
namespace Go.Proofs.Ythfifeabomdlpaa
open Go.RowKit
set_option linter.unusedVariables false

def anc_raddleref13_Part_s0_0 : List (List Nat) := [[], [], [], [], [], [], [4, 5], [], [4, 5, 6, 7], [], [], [9, 10], [], [9, 10, 11, 12], [3, 4, 5, 6, 7, 8, 9, 10, 11, 12, 13], [0, 1, 2, 3, 4, 5, 6, 7, 8, 9, 10, 11, 12, 13, 14]]
noncomputable def raddleref13_Part_s0_l1 (p1 : Int) (p0 : api_Grid) (p3 : Int) (p4 : Int) (p2 : Int) (s18 : Int) (r9 : api_Grid) : (Int × List Bool) → Option ((Int × List Bool) ⊕ List Bool) := fun s0 => match s0 with
  | (s31, s32) =>
    if decide (s31 < p1) then
      Option.bind (F_raddleref01_At p0 (w64 ((w64 (p3 * p1)) + s31)) (w64 ((w64 (p4 * p2)) + s18))) fun r41 =>
      Option.bind (F_raddleref01_Set_s0 r9.W r9.H s32 s31 s18 r41) fun r43 =>
      some (.inl (w64 (s31 + 1), r43))
    else
      some (.inr s32)
noncomputable def raddleref13_Part_s0_l2 (p2 : Int) (p1 : Int) (p0 : api_Grid) (p3 : Int) (p4 : Int) (r9 : api_Grid) : (Int × List Bool) → Option ((Int × List Bool) ⊕ List Bool) := fun s0 => match s0 with
  | (s18, s19) =>
    if decide (s18 < p2) then
      Option.bind (α := List Bool) (
        Option.bind (whileO (raddleref13_Part_s0_l1 p1 p0 p3 p4 p2 s18 r9) (0, s19)) fun e36 =>
          some e36) fun o27 =>
      some (.inl (w64 (s18 + 1), o27))
    else
      some (.inr s19)
noncomputable def F_raddleref13_Part_s0 (p0 : api_Grid) (p1 : Int) (p2 : Int) (p3 : Int) (p4 : Int) : Option api_Grid :=
  Option.bind (F_raddleref01_Zero_s0 p1 p2) fun r9 =>
  Option.bind (α := List Bool) (
    Option.bind (whileO (raddleref13_Part_s0_l2 p2 p1 p0 p3 p4 r9) (0, r9.Bits)) fun e23 =>
      some e23) fun o14 =>
  some (api_Grid.mk r9.W r9.H o14)
set_option maxHeartbeats 4000000 in
set_option maxRecDepth 100000 in
theorem c_raddleref13_Part_s0 (E : Nat → Prop) (w0 : World) (p0 : api_Grid) (v0 : Value) (p1 : Int) (p2 : Int) (p3 : Int) (p4 : Int) (r : api_Grid) (h : F_raddleref13_Part_s0 p0 p1 p2 p3 p4 = some r) (S : St0 E [] w0 w0 [] [fRep r_api_Grid (v0) p0]) :
    Calls Try.prog 50 #[v0, iv p1, iv p2, iv p3, iv p4] w0 (Ret (X := Option Addr × Nat) E [] w0 (fun x => .agg #[iv r.W, iv r.H, .slice x.1 r.Bits.length x.2]) (fun x => [eRow rB 4 (.slice x.1 r.Bits.length x.2) r.Bits]) (fun _ => [])) := by
  unfold F_raddleref13_Part_s0 at h
  obtain ⟨u1, rfl, hu2⟩ := S.know (i := 0) (e := fRep r_api_Grid (v0) p0) rfl
  have S := S.learn (fRep (rL rB) u1 p0.Bits) hu2
  obtain ⟨ad3, cp4, _, rfl, _⟩ := hu2
  refine sEnter (args := [.agg #[iv p0.W, iv p0.H, .slice ad3 p0.Bits.length cp4], iv p1, iv p2, iv p3, iv p4]) 44 Try.func50 rfl rfl (by simp) S (fun a S => ?_)
  refine sSeq (fun K5 hK5 => ?_)
  refine sRegion ?_
  refine sBox (v := .agg #[iv p0.W, iv p0.H, .slice ad3 p0.Bits.length cp4]) S (wN rfl) rfl rfl [iv p0.W, iv p0.H, .slice ad3 p0.Bits.length cp4] rfl rfl (lb rfl) fun a b6 w S => ?_
  refine sAlloc (.agg #[iv 0, iv 0, .slice none 0 0]) S (wN rfl) rfl rfl [iv 0, iv 0, .slice none 0 0] rfl rfl (lb rfl) fun a b7 w S => ?_
  refine leafL (leafT (hK5 _ _ ?_))
  refine sSeq (fun K8 hK8 => ?_)
  refine sRegion ?_
  refine sMove (iv p1) S (wN rfl) (.inl rfl) rfl rfl (lb rfl) fun a S => ?_
  refine sMove (iv p2) S (wN rfl) (.inl rfl) rfl rfl (lb rfl) fun a S => ?_
  obtain ⟨r9, hx10, h⟩ := bindSome h
  refine sCall (X := Option Addr × Nat) (f := 40) (vs := [iv p1, iv p2]) (val := fun x => .agg #[iv r9.W, iv r9.H, .slice x.1 r9.Bits.length x.2]) (B' := fun x => [eRow rB 4 (.slice x.1 r9.Bits.length x.2) r9.Bits]) (D' := fun _ => []) [] [eBox b7 24 [iv 0, iv 0, .slice none 0 0], eBox b6 24 [iv p0.W, iv p0.H, .slice ad3 p0.Bits.length cp4]] [] [0, 1] [] S (wN rfl) rfl callee40 rfl (by decide) rfl rfl (fun E1 w1 S1 => c_raddleref01_Zero_s0 E1 w1 p1 p2 r9 hx10 S1) rfl (lb rfl) fun xx a w S => ?_
  obtain ⟨ad11, cp12⟩ := xx
  dsimp only at S
  refine sAlloc (.agg #[iv 0, iv 0, .slice none 0 0]) S (wN rfl) rfl rfl [iv 0, iv 0, .slice none 0 0] rfl rfl (lb rfl) fun a b13 w S => ?_
  refine sStore (p := b13) (off := 0) (T := 24) (vs := [iv 0, iv 0, .slice none 0 0]) (v := .agg #[iv r9.W, iv r9.H, .slice ad11 r9.Bits.length cp12]) 0 [iv r9.W, iv r9.H, .slice ad11 r9.Bits.length cp12] S (wN rfl) rfl rfl rfl rfl rfl rfl rfl (by simp) rfl fun a w S => ?_
  refine leafL (leafT (hK8 _ _ ?_))
  obtain ⟨t15, h, g16⟩ := bindSome h
  refine sCut (fun a w => ∃ o14, o14 = t15 ∧ St [] E [] w0 44 a w [(10, .pointer (some ⟨b7, 0, none⟩)), (11, .pointer (some ⟨b13, 0, none⟩))] [eBox b7 24 [iv 0, iv 0, .slice none 0 0], eBox b13 24 [iv r9.W, iv r9.H, .slice ad11 o14.length cp12], eRow rB 4 (.slice ad11 o14.length cp12) o14] []) ?_ (fun a w hI => ?_)
  rotate_left
  · obtain ⟨o14, rfl, S⟩ := hI
    have h := g16
    clear g16
    try dsimp only at h
    refine sSeq (fun K46 hK46 => ?_)
    refine sRegion ?_
    refine sLoadN (p := b13) (off := 0) (T := 24) (vs := [iv r9.W, iv r9.H, .slice ad11 o14.length cp12]) 1 [iv r9.W, iv r9.H, .slice ad11 o14.length cp12] S (wN rfl) rfl rfl rfl rfl rfl rfl rfl (lb rfl) fun a S => ?_
    refine sStore (p := b7) (off := 0) (T := 24) (vs := [iv 0, iv 0, .slice none 0 0]) (v := .agg #[iv r9.W, iv r9.H, .slice ad11 o14.length cp12]) 0 [iv r9.W, iv r9.H, .slice ad11 o14.length cp12] S (wN rfl) rfl rfl rfl rfl rfl rfl rfl (by simp) rfl fun a w S => ?_
    refine leafL (leafT (hK46 _ _ ?_))
    obtain rfl := Option.some.inj h
    exact wp_ret (sRet (.agg #[iv r9.W, iv r9.H, .slice ad11 o14.length cp12]) S (rsl1 rfl (rvN (c := 10) (t := 24) (T := 24) (p := b7) 0 [iv r9.W, iv r9.H, .slice ad11 o14.length cp12] S rfl rfl rfl rfl)) ⟨(ad11, cp12), rfl, S.mem.sel [2] [] (by decide) rfl rfl⟩)
  refine sSeq (fun K17 hK17 => ?_)
  refine sRegion ?_
  refine sMove (iv 0) S (wN rfl) (.inr rfl) rfl rfl (lb rfl) fun a S => ?_
  refine leafL (leafT (hK17 _ _ ?_))
  refine wp_block ?_
  obtain ⟨t22, hl, g21⟩ := bindSome h
  refine sLoop hl (fun s0 a w => match s0 with | (s18, s19) => St [] E [] w0 44 a w [(1, iv p1), (2, iv p2), (3, iv p3), (4, iv p4), (5, .pointer (some ⟨b6, 0, none⟩)), (10, .pointer (some ⟨b7, 0, none⟩)), (11, .pointer (some ⟨b13, 0, none⟩)), (12, iv s18)] [eBox b6 24 [iv p0.W, iv p0.H, .slice ad3 p0.Bits.length cp4], eBox b7 24 [iv 0, iv 0, .slice none 0 0], eBox b13 24 [iv r9.W, iv r9.H, .slice ad11 s19.length cp12], eRow rB 4 (.slice ad11 s19.length cp12) s19] [fRep (rL rB) (.slice ad3 p0.Bits.length cp4) p0.Bits]) (S.fix [3, 2, 0, 1] [0] (by decide) rfl rfl rfl) ?_
  clear hl h
  intro s0 a w c0 hI h hu20
  obtain ⟨s18, s19⟩ := s0
  unfold raddleref13_Part_s0_l2 at h
  dsimp only at h hI
  have S := hI
  refine sSeq (fun K24 hK24 => ?_)
  refine sSeq (fun K25 hK25 => ?_)
  refine sRegion ?_
  refine sMove (iv s18) S (wN rfl) (.inl rfl) rfl rfl (lb rfl) fun a S => ?_
  refine sMove (iv p2) S (wN rfl) (.inl rfl) rfl rfl (lb rfl) fun a S => ?_
  refine sBin (.bool (decide (s18 < p2))) S (wN rfl) rfl rfl rfl (bLt _ _ _ _ .i64 s18 p2) rfl (lb rfl) fun a S => ?_
  refine leafL (leafT (hK25 _ _ ?_))
  rcases iteSome h with ⟨hc26, h⟩ | ⟨hc26, h⟩
  rotate_left
  · refine sCondF S rfl hc26 ?_
    obtain rfl := Option.some.inj h
    obtain rfl := hu20 _ rfl
    have h := g21
    clear g21
    try dsimp only at h
    exact wp_exit (xThen (xThen (xHit (leafT (⟨s19, Option.some.inj h, S.fix [1, 2, 3] [] (by decide) rfl rfl rfl⟩)))))
  refine sCondT S rfl hc26 ?_
  refine wp_skip (leafT (hK24 _ _ ?_))
  obtain ⟨t28, h, g29⟩ := bindSome h
  refine sCut (fun a w => ∃ o27, o27 = t28 ∧ St [] E [] w0 44 a w [(1, iv p1), (2, iv p2), (3, iv p3), (4, iv p4), (5, .pointer (some ⟨b6, 0, none⟩)), (10, .pointer (some ⟨b7, 0, none⟩)), (11, .pointer (some ⟨b13, 0, none⟩)), (12, iv s18)] [eBox b6 24 [iv p0.W, iv p0.H, .slice ad3 p0.Bits.length cp4], eBox b7 24 [iv 0, iv 0, .slice none 0 0], eBox b13 24 [iv r9.W, iv r9.H, .slice ad11 o27.length cp12], eRow rB 4 (.slice ad11 o27.length cp12) o27] [fRep (rL rB) (.slice ad3 p0.Bits.length cp4) p0.Bits]) ?_ (fun a w hI => ?_)
  rotate_left
  · obtain ⟨o27, rfl, S⟩ := hI
    have h := g29
    clear g29
    try dsimp only at h
    refine sRegion ?_
    refine sMove (iv s18) S (wN rfl) (.inl rfl) rfl rfl (lb rfl) fun a S => ?_
    refine sBin (iv (w64 (s18 + 1))) S (wN rfl) rfl rfl rfl (bAdd _ _ _ _ s18 1) rfl (lb rfl) fun a S => ?_
    refine sMove (iv (w64 (s18 + 1))) S (wN rfl) (.inr rfl) rfl rfl (lb rfl) fun a S => ?_
    exact leafL (leafT (⟨(w64 (s18 + 1), o27), (Option.some.inj h).symm, (S.fix [0, 1, 2, 3] [0] (by decide) rfl rfl rfl)⟩))
  refine wp_block ?_
  refine sSeq (fun K30 hK30 => ?_)
  refine sRegion ?_
  refine sMove (iv 0) S (wN rfl) (.inr rfl) rfl rfl (lb rfl) fun a S => ?_
  refine leafL (leafT (hK30 _ _ ?_))
  refine wp_block ?_
  obtain ⟨t35, hl, g34⟩ := bindSome h
  refine sLoop hl (fun s0 a w => match s0 with | (s31, s32) => St [] E [] w0 44 a w [(1, iv p1), (2, iv p2), (3, iv p3), (4, iv p4), (5, .pointer (some ⟨b6, 0, none⟩)), (10, .pointer (some ⟨b7, 0, none⟩)), (11, .pointer (some ⟨b13, 0, none⟩)), (12, iv s18), (13, iv s31)] [eBox b6 24 [iv p0.W, iv p0.H, .slice ad3 p0.Bits.length cp4], eBox b7 24 [iv 0, iv 0, .slice none 0 0], eBox b13 24 [iv r9.W, iv r9.H, .slice ad11 s32.length cp12], eRow rB 4 (.slice ad11 s32.length cp12) s32] [fRep (rL rB) (.slice ad3 p0.Bits.length cp4) p0.Bits]) (S.fix [0, 1, 2, 3] [0] (by decide) rfl rfl rfl) ?_
  clear hl h
  intro s0 a w c0 hI h hu33
  obtain ⟨s31, s32⟩ := s0
  unfold raddleref13_Part_s0_l1 at h
  dsimp only at h hI
  have S := hI
  refine sSeq (fun K37 hK37 => ?_)
  refine sSeq (fun K38 hK38 => ?_)
  refine sRegion ?_
  refine sMove (iv s31) S (wN rfl) (.inl rfl) rfl rfl (lb rfl) fun a S => ?_
  refine sMove (iv p1) S (wN rfl) (.inl rfl) rfl rfl (lb rfl) fun a S => ?_
  refine sBin (.bool (decide (s31 < p1))) S (wN rfl) rfl rfl rfl (bLt _ _ _ _ .i64 s31 p1) rfl (lb rfl) fun a S => ?_
  refine leafL (leafT (hK38 _ _ ?_))
  rcases iteSome h with ⟨hc39, h⟩ | ⟨hc39, h⟩
  rotate_left
  · refine sCondF S rfl hc39 ?_
    obtain rfl := Option.some.inj h
    obtain rfl := hu33 _ rfl
    have h := g34
    clear g34
    try dsimp only at h
    exact wp_exit (xThen (xThen (xHit (leafB (leafT (⟨s32, Option.some.inj h, S.fix [0, 1, 2, 3] [0] (by decide) rfl rfl rfl⟩))))))
  refine sCondT S rfl hc39 ?_
  refine wp_skip (leafT (hK37 _ _ ?_))
  refine sSeq (fun K40 hK40 => ?_)
  refine wp_block ?_
  obtain ⟨r41, hx42, h⟩ := bindSome h
  obtain ⟨r43, hx44, h⟩ := bindSome h
  refine sDraw (nf := [15]) (W := [(0, 27, .agg #[iv r9.W, iv r9.H, .slice ad11 s32.length cp12]), (1, 28, iv s31), (2, 29, iv s18), (3, 30, .agg #[iv p0.W, iv p0.H, .slice ad3 p0.Bits.length cp4]), (4, 31, iv p3), (5, 32, iv p1), (6, 33, iv (w64 (p3 * p1))), (7, 34, iv s31), (8, 35, iv (w64 ((w64 (p3 * p1)) + s31))), (9, 36, iv p4), (10, 37, iv p2), (11, 38, iv (w64 (p4 * p2))), (12, 39, iv s18), (13, 40, iv (w64 ((w64 (p4 * p2)) + s18))), (14, 41, .bool r41)]) rfl S ?_
  refine node_by (A := anc_raddleref13_Part_s0_0) (nf := [15]) (Y := []) (W := [(0, 27, .agg #[iv r9.W, iv r9.H, .slice ad11 s32.length cp12]), (1, 28, iv s31), (2, 29, iv s18), (3, 30, .agg #[iv p0.W, iv p0.H, .slice ad3 p0.Bits.length cp4]), (4, 31, iv p3), (5, 32, iv p1), (6, 33, iv (w64 (p3 * p1))), (7, 34, iv s31), (8, 35, iv (w64 ((w64 (p3 * p1)) + s31))), (9, 36, iv p4), (10, 37, iv p2), (11, 38, iv (w64 (p4 * p2))), (12, 39, iv s18), (13, 40, iv (w64 ((w64 (p4 * p2)) + s18))), (14, 41, .bool r41)]) 16 (by kernel_rfl) (by kernel_rfl) (by kernel_rfl) (by kernel_rfl) (by kernel_rfl) [0, 1, 2, 3, 4, 5, 6, 7, 8, 9, 10, 11, 12, 13, 14] (by kernel_rfl) (by decide) (by decide) (aF 0 15 (by decide) ?_ (aF 1 14 (by decide) ?_ (aF 2 13 (by decide) ?_ (aF 3 12 (by decide) ?_ (aF 4 11 (by decide) ?_ (aF 5 10 (by decide) ?_ (aF 6 9 (by decide) ?_ (aF 7 8 (by decide) ?_ (aF 8 7 (by decide) ?_ (aF 9 6 (by decide) ?_ (aF 10 5 (by decide) ?_ (aF 11 4 (by decide) ?_ (aF 12 3 (by decide) ?_ (aF 13 2 (by decide) ?_ (aF 14 1 (by decide) ?_ (aN 15 0 (by decide) ?_ (trivial))))))))))))))))) [] (fun q hq => by cases hq) (fun hY => absurd (hY 15 (by decide)) (by decide))
  · refine fI 27 (.agg #[iv r9.W, iv r9.H, .slice ad11 s32.length cp12]) [(11, .pointer (some ⟨b13, 0, none⟩))] 0 [none] rfl rfl rfl rfl rfl rfl fun G a w S => ?_
    refine sLoadN (p := b13) (off := 0) (T := 24) (vs := [iv r9.W, iv r9.H, .slice ad11 s32.length cp12]) 2 [iv r9.W, iv r9.H, .slice ad11 s32.length cp12] S (wN rfl) rfl rfl rfl rfl rfl rfl rfl (lb rfl) fun a S => ?_
    exact leafL ⟨rfl, S⟩
  · refine fI 28 (iv s31) [(13, iv s31)] 1 [none] rfl rfl rfl rfl rfl rfl fun G a w S => ?_
    refine sMove (iv s31) S (wN rfl) (.inl rfl) rfl rfl (lb rfl) fun a S => ?_
    exact leafL ⟨rfl, S⟩
  · refine fI 29 (iv s18) [(12, iv s18)] 2 [none] rfl rfl rfl rfl rfl rfl fun G a w S => ?_
    refine sMove (iv s18) S (wN rfl) (.inl rfl) rfl rfl (lb rfl) fun a S => ?_
    exact leafL ⟨rfl, S⟩
  · refine fI 30 (.agg #[iv p0.W, iv p0.H, .slice ad3 p0.Bits.length cp4]) [(5, .pointer (some ⟨b6, 0, none⟩))] 3 [none] rfl rfl rfl rfl rfl rfl fun G a w S => ?_
    refine sLoadN (p := b6) (off := 0) (T := 24) (vs := [iv p0.W, iv p0.H, .slice ad3 p0.Bits.length cp4]) 0 [iv p0.W, iv p0.H, .slice ad3 p0.Bits.length cp4] S (wN rfl) rfl rfl rfl rfl rfl rfl rfl (lb rfl) fun a S => ?_
    exact leafL ⟨rfl, S⟩
  · refine fI 31 (iv p3) [(3, iv p3)] 4 [none] rfl rfl rfl rfl rfl rfl fun G a w S => ?_
    refine sMove (iv p3) S (wN rfl) (.inl rfl) rfl rfl (lb rfl) fun a S => ?_
    exact leafL ⟨rfl, S⟩
  · refine fI 32 (iv p1) [(1, iv p1)] 5 [none] rfl rfl rfl rfl rfl rfl fun G a w S => ?_
    refine sMove (iv p1) S (wN rfl) (.inl rfl) rfl rfl (lb rfl) fun a S => ?_
    exact leafL ⟨rfl, S⟩
  · refine fI 33 (iv (w64 (p3 * p1))) [(31, iv p3), (32, iv p1)] 6 [some 4, some 5] rfl rfl rfl rfl rfl rfl fun G a w S => ?_
    refine sBin (iv (w64 (p3 * p1))) S (wN rfl) rfl rfl rfl (bMul _ _ _ _ p3 p1) rfl (lb rfl) fun a S => ?_
    exact leafL ⟨rfl, S⟩
  · refine fI 34 (iv s31) [(13, iv s31)] 7 [none] rfl rfl rfl rfl rfl rfl fun G a w S => ?_
    refine sMove (iv s31) S (wN rfl) (.inl rfl) rfl rfl (lb rfl) fun a S => ?_
    exact leafL ⟨rfl, S⟩
  · refine fI 35 (iv (w64 ((w64 (p3 * p1)) + s31))) [(33, iv (w64 (p3 * p1))), (34, iv s31)] 8 [some 6, some 7] rfl rfl rfl rfl rfl rfl fun G a w S => ?_
    refine sBin (iv (w64 ((w64 (p3 * p1)) + s31))) S (wN rfl) rfl rfl rfl (bAdd _ _ _ _ (w64 (p3 * p1)) s31) rfl (lb rfl) fun a S => ?_
    exact leafL ⟨rfl, S⟩
  · refine fI 36 (iv p4) [(4, iv p4)] 9 [none] rfl rfl rfl rfl rfl rfl fun G a w S => ?_
    refine sMove (iv p4) S (wN rfl) (.inl rfl) rfl rfl (lb rfl) fun a S => ?_
    exact leafL ⟨rfl, S⟩
  · refine fI 37 (iv p2) [(2, iv p2)] 10 [none] rfl rfl rfl rfl rfl rfl fun G a w S => ?_
    refine sMove (iv p2) S (wN rfl) (.inl rfl) rfl rfl (lb rfl) fun a S => ?_
    exact leafL ⟨rfl, S⟩
  · refine fI 38 (iv (w64 (p4 * p2))) [(36, iv p4), (37, iv p2)] 11 [some 9, some 10] rfl rfl rfl rfl rfl rfl fun G a w S => ?_
    refine sBin (iv (w64 (p4 * p2))) S (wN rfl) rfl rfl rfl (bMul _ _ _ _ p4 p2) rfl (lb rfl) fun a S => ?_
    exact leafL ⟨rfl, S⟩
  · refine fI 39 (iv s18) [(12, iv s18)] 12 [none] rfl rfl rfl rfl rfl rfl fun G a w S => ?_
    refine sMove (iv s18) S (wN rfl) (.inl rfl) rfl rfl (lb rfl) fun a S => ?_
    exact leafL ⟨rfl, S⟩
  · refine fI 40 (iv (w64 ((w64 (p4 * p2)) + s18))) [(38, iv (w64 (p4 * p2))), (39, iv s18)] 13 [some 11, some 12] rfl rfl rfl rfl rfl rfl fun G a w S => ?_
    refine sBin (iv (w64 ((w64 (p4 * p2)) + s18))) S (wN rfl) rfl rfl rfl (bAdd _ _ _ _ (w64 (p4 * p2)) s18) rfl (lb rfl) fun a S => ?_
    exact leafL ⟨rfl, S⟩
  · refine fI 41 (.bool r41) [(30, .agg #[iv p0.W, iv p0.H, .slice ad3 p0.Bits.length cp4]), (35, iv (w64 ((w64 (p3 * p1)) + s31))), (40, iv (w64 ((w64 (p4 * p2)) + s18)))] 14 [some 3, some 8, some 13] rfl rfl rfl rfl rfl rfl fun G a w S => ?_
    have S1 := S.mem
    have S1 := S1.learn (fRep r_api_Grid (.agg #[iv p0.W, iv p0.H, .slice ad3 p0.Bits.length cp4]) p0) ⟨_, rfl, S1.know (i := 0) (e := fRep (rL rB) (.slice ad3 p0.Bits.length cp4) p0.Bits) rfl⟩
    refine sCallQ (X := Unit) (f := 46) (vs := [.agg #[iv p0.W, iv p0.H, .slice ad3 p0.Bits.length cp4], iv (w64 ((w64 (p3 * p1)) + s31)), iv (w64 ((w64 (p4 * p2)) + s18))]) (val := fun _ => .bool r41) S (wN rfl) rfl callee46 rfl (S1.quiet [0] rfl) (fun E1 w1 S1 => c_raddleref01_At E1 w1 p0 (.agg #[iv p0.W, iv p0.H, .slice ad3 p0.Bits.length cp4]) (w64 ((w64 (p3 * p1)) + s31)) (w64 ((w64 (p4 * p2)) + s18)) r41 hx42 S1) rfl (lb rfl) fun _ a w S => ?_
    exact leafL ⟨rfl, S⟩
  refine ⟨_, [(27, .agg #[iv r9.W, iv r9.H, .slice ad11 s32.length cp12]), (28, iv s31), (29, iv s18), (41, .bool r41)], rfl, (srcs_of [some 0, some 1, some 2, some 14] rfl rfl rfl), fun G a w S => ?_⟩
  refine sCall (X := Unit) (f := 47) (vs := [.agg #[iv r9.W, iv r9.H, .slice ad11 s32.length cp12], iv s31, iv s18, .bool r41]) (val := fun _ => .tuple #[]) (B' := fun _ => [eRow rB 4 (.slice ad11 s32.length cp12) r43]) (D' := fun _ => []) [eRow rB 4 (.slice ad11 s32.length cp12) s32] [eBox b6 24 [iv p0.W, iv p0.H, .slice ad3 p0.Bits.length cp4], eBox b7 24 [iv 0, iv 0, .slice none 0 0], eBox b13 24 [iv r9.W, iv r9.H, .slice ad11 s32.length cp12]] [] [3, 0, 1, 2] [] S (wN rfl) rfl callee47 rfl (by decide) rfl rfl (fun E1 w1 S1 => c_raddleref01_Set_s0 E1 w1 r9.W r9.H s32 ad11 cp12 s31 s18 r41 r43 hx44 S1) rfl (lb rfl) fun _ a w S => ?_
  refine leafL ⟨rfl, _, _, .inl ⟨42, (.tuple #[]), [], rfl, S, hz_of rfl, ?_⟩⟩
  refine node_by (A := anc_raddleref13_Part_s0_0) (nf := [15]) (Y := [15]) 16 (by kernel_rfl) (by kernel_rfl) (by kernel_rfl) (by kernel_rfl) (by kernel_rfl) [15, 0, 1, 2, 3, 4, 5, 6, 7, 8, 9, 10, 11, 12, 13, 14] (by kernel_rfl) (by decide) (by decide) (aD 0 15 15 (by decide) (aD 1 14 15 (by decide) (aD 2 13 15 (by decide) (aD 3 12 15 (by decide) (aD 4 11 15 (by decide) (aD 5 10 15 (by decide) (aD 6 9 15 (by decide) (aD 7 8 15 (by decide) (aD 8 7 15 (by decide) (aD 9 6 15 (by decide) (aD 10 5 15 (by decide) (aD 11 4 15 (by decide) (aD 12 3 15 (by decide) (aD 13 2 15 (by decide) (aD 14 1 15 (by decide) (aY 15 0 (by decide) (trivial))))))))))))))))) [(1, iv p1), (2, iv p2), (3, iv p3), (4, iv p4), (5, .pointer (some ⟨b6, 0, none⟩)), (10, .pointer (some ⟨b7, 0, none⟩)), (11, .pointer (some ⟨b13, 0, none⟩)), (12, iv s18), (13, iv s31)] (fin_of [none, none, none, none, none, none, none, none, none] rfl (by kernel_rfl) (by kernel_rfl)) (fun _ a w S => ?_)
  have hr45 := row_v (S.mem.hold (i := 0) (e := eRow rB 4 (.slice ad11 s32.length cp12) r43) rfl)
  rw [hr45] at S
  refine leafB (leafT (hK40 _ _ ?_))
  refine sRegion ?_
  refine sMove (iv s31) S (wN rfl) (.inl rfl) rfl rfl (lb rfl) fun a S => ?_
  refine sBin (iv (w64 (s31 + 1))) S (wN rfl) rfl rfl rfl (bAdd _ _ _ _ s31 1) rfl (lb rfl) fun a S => ?_
  refine sMove (iv (w64 (s31 + 1))) S (wN rfl) (.inr rfl) rfl rfl (lb rfl) fun a S => ?_
  exact leafL (leafT (⟨(w64 (s31 + 1), r43), (Option.some.inj h).symm, (S.fix [1, 2, 3, 0] [0] (by decide) rfl rfl rfl)⟩))

end Go.Proofs.Ythfifeabomdlpaa
namespace Go.Proofs.Ythfifeabomdlpaa
open Go.RowKit
set_option linter.unusedVariables false

end Go.Proofs.Ythfifeabomdlpaa
namespace Go.Proofs.Ythfifeabomdlpaa
open Go.RowKit
set_option linter.unusedVariables false

end Go.Proofs.Ythfifeabomdlpaa
namespace Go.Proofs.Ythfifeabomdlpaa
open Go.RowKit
set_option linter.unusedVariables false

instance decGrid : DecidableEq api_Grid := fun a b => decidable_of_iff (a.W = b.W ∧ a.H = b.H ∧ a.Bits = b.Bits) (by cases a; cases b; simp)
structure Gr (g : api_Grid) (w h : Nat) : Prop where
  hw : g.W = (w : Int)
  hh : g.H = (h : Int)
  w0 : 1 ≤ w
  w1 : w ≤ 64
  h0 : 1 ≤ h
  h1 : h ≤ 64
  len : g.Bits.length = w * h
def cell (g : api_Grid) (w x y : Nat) : Bool := g.Bits.getD (y * w + x) false
theorem Gr.at {g : api_Grid} {w h : Nat} (G : Gr g w h) {x y : Nat} (hx : x < w) (hy : y < h) : idxO g.Bits (w64 ((w64 ((y : Int) * g.W)) + (x : Int))) = some (cell g w x y) := by
  have h1 : y * w + x < w * h := by
    have := Nat.mul_le_mul_right w (show y + 1 ≤ h by omega)
    rw [Nat.add_mul, Nat.one_mul, Nat.mul_comm h w] at this
    omega
  have h2 : w * h ≤ 64 * 64 := Nat.mul_le_mul G.w1 G.h1
  have e : ((y : Int) * g.W) = ((y * w : Nat) : Int) := by rw [G.hw]; simp
  have hz : w64 ((y * w : Nat) : Int) = ((y * w : Nat) : Int) := w64_of (by omega) (by omega)
  rw [e, hz, w64_of (by omega) (by omega)]
  exact idxO_of (k := y * w + x) (by omega) (by rw [G.len]; exact h1) |>.trans (by unfold cell; simp [G.len, h1])
def gerr (g : api_Grid) : Int := if 64 < g.W ∨ 64 < g.H then 4 else if g.W < 1 ∨ g.H < 1 ∨ ¬ (g.Bits.length : Int) = g.W * g.H then 8 else 0
theorem gprod {g : api_Grid} (h1 : ¬ (64 < g.W ∨ 64 < g.H)) (h2 : ¬ (g.W < 1 ∨ g.H < 1)) : w64 (g.W * g.H) = g.W * g.H := by
  have := mul_bd (u := g.W) (v := g.H) (a := 64) (b := 64) (by omega) (by omega) (by omega) (by omega)
  exact w64_of (by omega) (by omega)
theorem gcheck_eq (g : api_Grid) : F_grid_Check g = some (gerr g) ∧ F_raddleref01_Check g = some (gerr g) := by
  unfold F_grid_Check F_raddleref01_Check gerr
  by_cases c1 : 64 < g.W ∨ 64 < g.H
  · constructor
    · have : (64 : Int) < (if g.W < g.H then g.H else g.W) := by split <;> omega
      simp only [dT this, if_true, c1]
    · by_cases c2 : 64 < g.W
      · simp only [dT c2, if_true, Option.bind_some, c1]
      · simp only [dF c2, dT (show 64 < g.H by omega), Bool.false_eq_true, if_true, if_false, Option.bind_some, c1]
  · have m1 : ¬ (64 : Int) < (if g.W < g.H then g.H else g.W) := by split <;> omega
    by_cases c2 : g.W < 1 ∨ g.H < 1
    · have m2 : (if g.H < g.W then g.H else g.W) < (1 : Int) := by split <;> omega
      have c3 : g.W < 1 ∨ g.H < 1 ∨ ¬ (g.Bits.length : Int) = g.W * g.H := by omega
      simp only [dF m1, dT m2, dF (show ¬ 64 < g.W by omega), dF (show ¬ 64 < g.H by omega), Bool.false_eq_true, if_true, if_false, Option.bind_some, c1, c3, true_and]
      by_cases c4 : g.W < 1
      · simp only [dT c4, if_true, Option.bind_some]
      · simp only [dF c4, dT (show g.H < 1 by omega), Bool.false_eq_true, if_true, if_false, Option.bind_some]
    · have m2 : ¬ (if g.H < g.W then g.H else g.W) < (1 : Int) := by split <;> omega
      have c4 : ¬ g.W < 1 := by omega
      have c5 : ¬ g.H < 1 := by omega
      have hb : (if 64 < g.W ∨ 64 < g.H then (4 : Int) else if g.W < 1 ∨ g.H < 1 ∨ ¬ (g.Bits.length : Int) = g.W * g.H then 8 else 0) = if (g.Bits.length : Int) = g.W * g.H then 0 else 8 := by
        rw [if_neg c1]
        by_cases c6 : (g.Bits.length : Int) = g.W * g.H
        · rw [if_neg (by omega), if_pos c6]
        · rw [if_pos (by omega), if_neg c6]
      rw [hb]
      by_cases c6 : (g.Bits.length : Int) = g.W * g.H
      · rw [if_pos c6]
        simp only [dF m1, dF m2, dF (show ¬ 64 < g.W by omega), dF (show ¬ 64 < g.H by omega), dF c4, dF c5, gprod c1 c2, nF c6, Bool.false_eq_true, if_false, Option.bind_some, and_self]
      · rw [if_neg c6]
        simp only [dF m1, dF m2, dF (show ¬ 64 < g.W by omega), dF (show ¬ 64 < g.H by omega), dF c4, dF c5, gprod c1 c2, nT c6, Bool.false_eq_true, if_true, if_false, Option.bind_some, and_self]
theorem gerr_zero {g : api_Grid} (h : gerr g = 0) : ∃ w h, Gr g w h := by
  unfold gerr at h
  by_cases c1 : 64 < g.W ∨ 64 < g.H
  · rw [if_pos c1] at h; cases h
  rw [if_neg c1] at h
  by_cases c2 : g.W < 1 ∨ g.H < 1 ∨ ¬ (g.Bits.length : Int) = g.W * g.H
  · rw [if_pos c2] at h; cases h
  have c3 : (g.Bits.length : Int) = g.W * g.H := by omega
  refine ⟨g.W.toNat, g.H.toNat, by omega, by omega, by omega, by omega, by omega, by omega, ?_⟩
  have e1 : g.W = (g.W.toNat : Int) := by omega
  have e2 : g.H = (g.H.toNat : Int) := by omega
  rw [e1, e2, ← Int.natCast_mul] at c3
  exact Int.ofNat.inj c3
/-- a grid by its cells -/
def gm (f : Nat → Nat → Bool) (w h : Nat) : api_Grid := api_Grid.mk (w : Int) (h : Int) (gl f w h)
theorem gm_gr (f : Nat → Nat → Bool) {w h : Nat} (w0 : 1 ≤ w) (w1 : w ≤ 64) (h0 : 1 ≤ h) (h1 : h ≤ 64) : Gr (gm f w h) w h :=
  ⟨rfl, rfl, w0, w1, h0, h1, gl_len f w h⟩
theorem rat_eq {g : api_Grid} {w h : Nat} (G : Gr g w h) {x y : Nat} (hx : x < w) (hy : y < h) : F_raddleref01_At g (x : Int) (y : Int) = some (cell g w x y) := by
  unfold F_raddleref01_At
  rw [G.at hx hy]
  rfl
theorem rset_eq {w h : Nat} (hw : w ≤ 64) (hh : h ≤ 64) {s : List Bool} (hs : s.length = w * h) {x y : Nat} (hx : x < w) (hy : y < h) (H : Int) (b : Bool) : F_raddleref01_Set_s0 (w : Int) H s (x : Int) (y : Int) b = some (s.set (y * w + x) b) := by
  have hp : w * h ≤ 64 * 64 := Nat.mul_le_mul hw hh
  have hl := pl_lt hx hy
  have hy2 : y * w ≤ y * w + x := Nat.le_add_right _ _
  have e1 : w64 ((y : Int) * (w : Int)) = ((y * w : Nat) : Int) := wmul (by omega)
  have e2 : w64 (((y * w : Nat) : Int) + (x : Int)) = ((y * w + x : Nat) : Int) := wadd (by omega)
  unfold F_raddleref01_Set_s0
  rw [e1, e2, idxO_nat (by omega), setO_nat (by omega)]
  simp [keepO]
theorem rzero_eq {w h : Nat} (hw : w ≤ 64) (hh : h ≤ 64) : F_raddleref01_Zero_s0 (w : Int) (h : Int) = some ⟨(w : Int), (h : Int), List.replicate (w * h) false⟩ := by
  have hp : w * h ≤ 64 * 64 := Nat.mul_le_mul hw hh
  unfold F_raddleref01_Zero_s0
  rw [wmul (by omega), makeO_of (k := w * h) rfl (by omega)]
  rfl
theorem rsame_grid (a b : api_Grid) (hl : a.Bits.length ≤ 9223372036854775807) : F_raddleref01_Same a b = some (decide (a = b)) := by
  by_cases h1 : a.W = b.W
  case neg => unfold F_raddleref01_Same; simp only [nT h1, if_true, Option.bind_some]; rw [decide_eq_false]; rintro rfl; exact h1 rfl
  by_cases h2 : a.H = b.H
  case neg => unfold F_raddleref01_Same; simp only [nF h1, nT h2, Bool.false_eq_true, if_false, if_true, Option.bind_some]; rw [decide_eq_false]; rintro rfl; exact h2 rfl
  by_cases h3 : (a.Bits.length : Int) = (b.Bits.length : Int)
  case neg => unfold F_raddleref01_Same; simp only [nF h1, nF h2, nT h3, Bool.false_eq_true, if_false, if_true, Option.bind_some]; rw [decide_eq_false]; rintro rfl; exact h3 rfl
  have hw : whileO (raddleref01_Same_l1 a b) 0 = some (if a.Bits = b.Bits then .inr () else .inl false) := by
    refine loop_eql a.Bits b.Bits (by omega) _ _ (fun k hk => ?_) ?_
    · unfold raddleref01_Same_l1
      simp only [dT (show (k : Int) < (a.Bits.length : Int) by omega), if_true, idxO_nat hk, idxO_nat (xs := b.Bits) (k := k) (by omega), Option.bind_some, w64_succ (show k < 9223372036854775807 by omega)]
      by_cases e : a.Bits[k] = b.Bits[k]'(by omega)
      · rw [if_pos e, e]; simp
      · rw [if_neg e, if_pos (by simpa using e)]
    · unfold raddleref01_Same_l1; simp
  unfold F_raddleref01_Same
  simp only [nF h1, nF h2, nF h3, Bool.false_eq_true, if_false, Option.bind_some, hw]
  by_cases e : a.Bits = b.Bits
  · rw [if_pos e]
    have : a = b := by cases a; cases b; simp_all
    simp [this]
  · rw [if_neg e]
    have : ¬ a = b := fun h => e (by rw [h])
    simp [this]
theorem equal_bool (a b : List Bool) (hl : a.length ≤ 9223372036854775807) : F_slices_Equal___bool_bool_ a b = some (decide (a = b)) := by
  by_cases h3 : (a.length : Int) = (b.length : Int)
  case neg => unfold F_slices_Equal___bool_bool_; simp only [nT h3, if_true]; rw [decide_eq_false]; rintro rfl; exact h3 rfl
  have hw : whileO (slices_Equal___bool_bool__l1 a b) 0 = some (if a = b then .inr () else .inl false) := by
    refine loop_eql a b (by omega) _ _ (fun k hk => ?_) ?_
    · unfold slices_Equal___bool_bool__l1
      simp only [dT (show (k : Int) < (a.length : Int) by omega), if_true, idxO_nat hk, idxO_nat (xs := b) (k := k) (by omega), Option.bind_some, w64_succ (show k < 9223372036854775807 by omega)]
      by_cases e : a[k] = b[k]'(by omega)
      · rw [if_pos e, e]; simp
      · rw [if_neg e, if_pos (by simpa using e)]
    · unfold slices_Equal___bool_bool__l1; simp
  unfold F_slices_Equal___bool_bool_
  simp only [nF h3, Bool.false_eq_true, if_false, Option.bind_some, hw]
  by_cases e : a = b
  · rw [if_pos e]; simp [e]
  · rw [if_neg e]; simp [e]
theorem gsame_eq (a b : api_Grid) (hl : a.Bits.length ≤ 9223372036854775807) : F_grid_Same a b = some (decide (a = b)) := by
  unfold F_grid_Same
  by_cases h1 : a.W = b.W
  case neg => simp only [bF h1, Bool.false_eq_true, if_false, Option.bind_some]; rw [decide_eq_false]; rintro rfl; exact h1 rfl
  by_cases h2 : a.H = b.H
  case neg => simp only [bT h1, bF h2, Bool.false_eq_true, if_false, if_true, Option.bind_some]; rw [decide_eq_false]; rintro rfl; exact h2 rfl
  simp only [bT h1, bT h2, if_true, equal_bool _ _ hl, Option.bind_some]
  congr 1
  by_cases e : a.Bits = b.Bits
  · rw [decide_eq_true e, decide_eq_true]; cases a; cases b; simp_all
  · rw [decide_eq_false e, decide_eq_false]; exact fun h => e (by rw [h])
theorem rgreat_eq (g : api_Grid) : F_raddleref01_Great g = some (decide (4200 < g.Bits.length)) := by
  unfold F_raddleref01_Great
  congr 1
  exact decide_eq_decide.2 (by omega)
/-- a grid laid cell by cell with Set -/
theorem sets_eq {l1 : Int → Int × List Bool → Option ((Int × List Bool) ⊕ List Bool)} {l2 : Int × List Bool → Option ((Int × List Bool) ⊕ List Bool)} (f : Nat → Nat → Bool) (w h : Nat) (hw : w ≤ 64) (hh : h ≤ 64)
    (h1 : ∀ y x s, y < h → x < w → s.length = w * h → l1 (y : Int) ((x : Int), s) = some (.inl (((x + 1 : Nat) : Int), s.set (y * w + x) (f x y)))) (h1e : ∀ (y : Nat) s, l1 (y : Int) ((w : Int), s) = some (.inr s))
    (h2 : ∀ (y : Nat) s t, y < h → whileO (l1 (y : Int)) (0, s) = some t → l2 ((y : Int), s) = some (.inl (((y + 1 : Nat) : Int), t))) (h2e : ∀ s, l2 ((h : Int), s) = some (.inr s)) :
    whileO l2 (0, List.replicate (w * h) false) = some (gl f w h) := by
  have := loop2 (l1 := fun y => l1 (y : Int)) (l2 := l2) (fun y x => ((x : Int), gst f false w h (y * w + x))) (fun y => ((y : Int), gst f false w h (y * w))) (fun y => gst f false w h (y * w + w)) w h (t := gst f false w h (h * w))
    (fun y x hy hx => by
      rw [h1 y x _ hy hx (gst_len _ _ _ _ _)]
      have := gst_set f false w h (y * w + x)
      rw [pl_mod hx, pl_div hx] at this
      rw [this]; rfl)
    (fun y hy => h1e y _)
    (fun y hy hl => by
      have h3 := h2 y (gst f false w h (y * w)) _ hy hl
      rw [h3, show (y + 1) * w = y * w + w by rw [Nat.add_mul, Nat.one_mul]])
    (h2e _)
  rw [gst_full, Nat.zero_mul, gst_zero] at this
  exact this

end Go.Proofs.Ythfifeabomdlpaa
namespace Go.Proofs.Ythfifeabomdlpaa
open Go.RowKit
set_option linter.unusedVariables false

theorem cpA_getD {α : Type} {xs ys : List α} {l q : Nat} (h : l ≤ q) (hq : q ≤ xs.length) (hy : ys.length ≤ q - l) (t : Nat) (d : α) : (cpA xs l q ys).getD t d = if l ≤ t ∧ t < l + ys.length then ys.getD (t - l) d else xs.getD t d := by
  have hA : ((xs.take q).drop l).length = q - l := by simp; omega
  have e1 : cpO ((xs.take q).drop l) ys = ys ++ ((xs.take q).drop l).drop ys.length := by
    unfold cpO
    rw [hA, List.take_of_length_le hy]
  simp only [List.getD_eq_getElem?_getD]
  congr 1
  unfold cpA
  rw [e1]
  by_cases h1 : t < l
  · rw [List.getElem?_append_left (by simp; omega), List.getElem?_take, if_pos h1, if_neg (by omega)]
  · have hl : (xs.take l).length = l := by simp; omega
    rw [List.getElem?_append_right (by omega), hl]
    by_cases h2 : t < l + ys.length
    · rw [if_pos ⟨by omega, h2⟩, List.append_assoc, List.getElem?_append_left (by omega)]
    · rw [if_neg (by omega), List.append_assoc, List.getElem?_append_right (by omega)]
      by_cases h3 : t < q
      · rw [List.getElem?_append_left (by rw [List.length_drop, hA]; omega), List.getElem?_drop, List.getElem?_drop, List.getElem?_take, if_pos (by omega), show l + (ys.length + (t - l - ys.length)) = t by omega]
      · rw [List.getElem?_append_right (by rw [List.length_drop, hA]; omega), List.length_drop, hA, List.getElem?_drop, show q + (t - l - ys.length - (q - l - ys.length)) = t by omega]
/-- a row of cells, as a part of the bits -/
theorem bits_part {g : api_Grid} {w h : Nat} (G : Gr g w h) {x0 n y : Nat} (hx : x0 + n ≤ w) (hy : y < h) : (g.Bits.take (y * w + x0 + n)).drop (y * w + x0) = (List.range n).map fun x => cell g w (x0 + x) y := by
  have h2 : y * w + w ≤ w * h := by
    have := Nat.mul_le_mul_right w (show y + 1 ≤ h by omega)
    rw [Nat.add_mul, Nat.one_mul, Nat.mul_comm h w] at this
    exact this
  have hl := G.len
  apply List.ext_getElem?
  intro t
  by_cases ht : t < n
  · rw [List.getElem?_drop, List.getElem?_take, if_pos (by omega)]
    simp only [List.getElem?_map, List.getElem?_range ht, Option.map_some]
    unfold cell
    rw [List.getElem?_eq_getElem (by omega), List.getD_eq_getElem?_getD, List.getElem?_eq_getElem (by omega)]
    simp only [Option.getD_some, Nat.add_assoc]
  · rw [List.getElem?_eq_none (by simp; omega), List.getElem?_eq_none (by simp; omega)]
theorem alike_eq (a b : api_Grid) : F_block_alike a b = some (decide (a.W = b.W ∧ a.H = b.H)) := by
  unfold F_block_alike
  by_cases h1 : a.W = b.W
  · by_cases h2 : a.H = b.H
    · simp [h1, h2]
    · simp [h1, h2]
  · simp [h1]
/-- the error of the first grid that has one -/
def ckL : List api_Grid → Int
  | [] => 0
  | g :: l => if gerr g = 0 then ckL l else gerr g
theorem checked_eq (l : List api_Grid) (hl : l.length ≤ 9223372036854775806) : F_block_checked l = some (ckL l) := by
  have hw : whileO (block_checked_l1 l) 0 = some ((l.findSome? fun g => if gerr g = 0 then none else some (Sum.inl (β := Unit) (gerr g))).getD (.inr ())) := by
    refine loop_list l (fun g => if gerr g = 0 then none else some (Sum.inl (gerr g))) (.inr ()) (fun k hk => ?_) ?_
    · unfold block_checked_l1
      simp only [dT (show (k : Int) < (l.length : Int) by omega), if_true, idxO_nat hk, Option.bind_some, (gcheck_eq _).1, w64_succ (show k < 9223372036854775807 by omega)]
      by_cases h : gerr l[k] = 0
      · rw [nF h, if_pos h]; rfl
      · rw [nT h, if_neg h]; rfl
    · unfold block_checked_l1
      simp only [dF (show ¬ (l.length : Int) < (l.length : Int) by omega), Bool.false_eq_true, if_false]
  have this : ∀ l : List api_Grid, (l.findSome? fun g => if gerr g = 0 then none else some (Sum.inl (β := Unit) (gerr g))).getD (.inr ()) = if ckL l = 0 then .inr () else .inl (ckL l) := by
    intro l
    induction l with
    | nil => rfl
    | cons g l ih =>
      rw [List.findSome?_cons]
      by_cases h : gerr g = 0
      · rw [if_pos h]; simp only [ckL, if_pos h]; exact ih
      · rw [if_neg h]; simp only [ckL, if_neg h, Option.getD_some]
  unfold F_block_checked
  rw [hw, this l]
  by_cases h : ckL l = 0
  · rw [if_pos h, h]; rfl
  · rw [if_neg h]; rfl
theorem blk_iff {a b k pw : Nat} (ha : a < pw) : (a = k % pw ∧ b = k / pw) ↔ b * pw + a = k := by
  constructor
  · rintro ⟨rfl, rfl⟩; exact pl_of _ _
  · rintro rfl; exact ⟨(pl_mod ha).symm, (pl_div ha).symm⟩
/-- a unit put at a place -/
theorem put_eq {u : api_Grid} {uw uh : Nat} (U : Gr u uw uh) {W H i j : Nat} (hW : W ≤ 64) (hH : H ≤ 64) (hi : i * uw + uw ≤ W) (hj : j * uh + uh ≤ H) {s : List Bool} (hs : s.length = W * H) (Hz : Int) :
    ∃ s', F_block_put_s0 (W : Int) Hz s u (i : Int) (j : Int) = some s' ∧ s'.length = W * H ∧ ∀ x y, x < W → y < H → s'.getD (y * W + x) false = if x / uw = i ∧ y / uh = j then cell u uw (x % uw) (y % uh) else s.getD (y * W + x) false := by
  have u0 := U.w0
  have v0 := U.h0
  have key : ∃ t, whileO (block_put_s0_l1 u (j : Int) (W : Int) (i : Int)) (0, s) = some t ∧ (t.length = W * H ∧ ∀ x y, x < W → y < H → t.getD (y * W + x) false = if x / uw = i ∧ y / uh = j ∧ y % uh < uh then cell u uw (x % uw) (y % uh) else s.getD (y * W + x) false) := by
    refine loop_ts uh (fun k t => t.length = W * H ∧ ∀ x y, x < W → y < H → t.getD (y * W + x) false = if x / uw = i ∧ y / uh = j ∧ y % uh < k then cell u uw (x % uw) (y % uh) else s.getD (y * W + x) false) _ ⟨hs, fun x y _ _ => by rw [if_neg (by omega)]⟩ ?_ ?_
    · rintro k t hk ⟨hl, ht⟩
      have hp : W * H ≤ 64 * 64 := Nat.mul_le_mul hW hH
      have hy : j * uh + k < H := by omega
      have a1 : (j * uh + k) * W + W ≤ W * H := by
        have := Nat.mul_le_mul_right W (show j * uh + k + 1 ≤ H by omega)
        rw [Nat.add_mul (j * uh + k) 1, Nat.one_mul, Nat.mul_comm H W] at this
        exact this
      have a2 : k * uw + uw ≤ uw * uh := by
        have := Nat.mul_le_mul_right uw (show k + 1 ≤ uh by omega)
        rw [Nat.add_mul, Nat.one_mul, Nat.mul_comm uh uw] at this
        exact this
      have a3 : uw * uh ≤ 64 * 64 := Nat.mul_le_mul U.w1 U.h1
      have a4 : (j * uh + k) * W ≤ W * H := by omega
      have a5 : j * uh ≤ H := by omega
      have e1 : w64 ((j : Int) * u.H) = ((j * uh : Nat) : Int) := by rw [U.hh]; exact wmul (by omega)
      have e2 : w64 (((j * uh : Nat) : Int) + (k : Int)) = ((j * uh + k : Nat) : Int) := wadd (by omega)
      have e3 : w64 (((j * uh + k : Nat) : Int) * (W : Int)) = (((j * uh + k) * W : Nat) : Int) := wmul (by omega)
      have e4 : w64 ((i : Int) * u.W) = ((i * uw : Nat) : Int) := by rw [U.hw]; exact wmul (by omega)
      have e5 : w64 ((((j * uh + k) * W : Nat) : Int) + ((i * uw : Nat) : Int)) = (((j * uh + k) * W + i * uw : Nat) : Int) := wadd (by omega)
      have e6 : w64 ((k : Int) * u.W) = ((k * uw : Nat) : Int) := by rw [U.hw]; exact wmul (by omega)
      have e7 : w64 ((k : Int) + 1) = ((k + 1 : Nat) : Int) := w64_succ (by omega)
      have e8 : w64 (((k + 1 : Nat) : Int) * u.W) = ((k * uw + 0 + uw : Nat) : Int) := by rw [U.hw, wmul (by rw [Nat.add_mul]; omega), Nat.add_mul, Nat.one_mul, Nat.add_zero]
      have hb := bits_part U (x0 := 0) (n := uw) (y := k) (by omega) hk
      rw [Nat.add_zero] at hb
      have hsl := sliceO_of (xs := u.Bits) (lo := ((k * uw : Nat) : Int)) (hi := ((k * uw + 0 + uw : Nat) : Int)) rfl rfl (by omega) (by rw [U.len]; omega)
      rw [Nat.add_zero, hb] at hsl
      have hsl2 := sliceO_all (xs := t) (k := (j * uh + k) * W + i * uw) (by omega)
      have hyl : ((List.range uw).map fun x => cell u uw (0 + x) k).length = uw := by simp
      refine .inl ⟨cpA t ((j * uh + k) * W + i * uw) t.length ((List.range uw).map fun x => cell u uw (0 + x) k), ?_, ?_, ?_⟩
      · unfold block_put_s0_l1
        simp only [U.hh, dT (show (k : Int) < (uh : Int) by omega), if_true]
        rw [← U.hh]
        simp only [e1, e2, e3, e4, e5, e6, e7, e8, hsl2, Nat.add_zero, hsl, Option.bind_some, Int.toNat_natCast]
      · rw [cpA_length _ _ (by omega) (Nat.le_refl _)]; exact hl
      · intro x y hx hy2
        rw [cpA_getD (by omega) (Nat.le_refl _) (by rw [hyl]; omega), hyl, ht x y hx hy2]
        by_cases hc : x / uw = i ∧ y / uh = j ∧ y % uh = k
        · obtain ⟨c1, c2, c3⟩ := hc
          have d1 := pl_of x uw
          have d2 := pl_of y uh
          rw [c1] at d1
          rw [c2, c3] at d2
          have d3 := pl_modlt (t := x) u0
          have hy3 : y = j * uh + k := by omega
          subst hy3
          rw [if_pos ⟨by omega, by omega⟩, if_pos ⟨c1, c2, by omega⟩, c3]
          have : (j * uh + k) * W + x - ((j * uh + k) * W + i * uw) = x % uw := by omega
          rw [this]
          simp [List.getD_eq_getElem?_getD, d3]
        · have hn : ¬ ((j * uh + k) * W + i * uw ≤ y * W + x ∧ y * W + x < (j * uh + k) * W + i * uw + uw) := by
            rintro ⟨b1, b2⟩
            have e9 : y * W + x = (j * uh + k) * W + (y * W + x - (j * uh + k) * W) := by omega
            obtain ⟨q1, q2⟩ := pl_inj (w := W) hx (by omega) e9
            subst q2
            have q3 : x = i * uw + (x - i * uw) := by omega
            have q4 : x - i * uw < uw := by omega
            refine hc ⟨?_, ?_, ?_⟩
            · rw [q3, pl_div q4]
            · exact pl_div hk
            · exact pl_mod hk
          rw [if_neg hn]
          by_cases hc2 : x / uw = i ∧ y / uh = j ∧ y % uh < k
          · rw [if_pos hc2, if_pos ⟨hc2.1, hc2.2.1, by omega⟩]
          · rw [if_neg hc2, if_neg (by rintro ⟨c1, c2, c3⟩; exact hc2 ⟨c1, c2, by rcases Nat.lt_or_ge (y % uh) k with h | h; exact h; exact absurd ⟨c1, c2, by omega⟩ hc⟩)]
    · rintro t ht
      refine ⟨t, ?_, ht⟩
      unfold block_put_s0_l1
      simp only [U.hh, dF (show ¬ (uh : Int) < (uh : Int) by omega), Bool.false_eq_true, if_false]
  obtain ⟨t, h1, h2, h3⟩ := key
  refine ⟨t, ?_, h2, fun x y hx hy => ?_⟩
  · unfold F_block_put_s0
    rw [h1]
    simp [keepO, h2, hs]
  · rw [h3 x y hx hy]
    by_cases hc : x / uw = i ∧ y / uh = j
    · rw [if_pos hc, if_pos ⟨hc.1, hc.2, pl_modlt v0⟩]
    · rw [if_neg hc, if_neg (fun h => hc ⟨h.1, h.2.1⟩)]
/-- units put at all places -/
theorem puts_eq {Bd : Int × List Bool → Option ((Int × List Bool) ⊕ List Bool)} {pw ph uw uh : Nat} (p0 : 1 ≤ pw) (u : Nat → api_Grid) (hu : ∀ k, k < pw * ph → Gr (u k) uw uh) (hW : pw * uw ≤ 64) (hH : ph * uh ≤ 64) (hp : pw * ph ≤ 100000) (Hz : Int)
    (hB : ∀ k s, k < pw * ph → Bd ((k : Int), s) = (F_block_put_s0 ((pw * uw : Nat) : Int) Hz s (u k) ((k % pw : Nat) : Int) ((k / pw : Nat) : Int)).bind fun r => some (.inl (w64 ((k : Int) + 1), r))) (hBe : ∀ s, Bd (((pw * ph : Nat) : Int), s) = some (.inr s)) :
    whileO Bd (0, List.replicate (pw * uw * (ph * uh)) false) = some (gl (fun x y => cell (u ((y / uh) * pw + x / uw)) uw (x % uw) (y % uh)) (pw * uw) (ph * uh)) := by
  have key : ∃ t, whileO Bd (0, List.replicate (pw * uw * (ph * uh)) false) = some t ∧ t = gl (fun x y => cell (u ((y / uh) * pw + x / uw)) uw (x % uw) (y % uh)) (pw * uw) (ph * uh) := by
    refine loop_ts (pw * ph) (fun k s => s.length = pw * uw * (ph * uh) ∧ ∀ x y, x < pw * uw → y < ph * uh → s.getD (y * (pw * uw) + x) false = if (y / uh) * pw + x / uw < k then cell (u ((y / uh) * pw + x / uw)) uw (x % uw) (y % uh) else false) _
      ⟨by simp, fun x y hx hy => ?_⟩ ?_ ?_
    · rw [if_neg (Nat.not_lt_zero _)]
      have := pl_lt hx hy
      simp [List.getD_eq_getElem?_getD, this]
    · rintro k s hk ⟨hl, hs⟩
      have U := hu k hk
      have hi : k % pw < pw := pl_modlt (by omega)
      have hj : k / pw < ph := pl_divlt hk
      have b1 : (k % pw) * uw + uw ≤ pw * uw := by have := Nat.mul_le_mul_right uw (show k % pw + 1 ≤ pw by omega); rw [Nat.add_mul, Nat.one_mul] at this; exact this
      have b2 : (k / pw) * uh + uh ≤ ph * uh := by have := Nat.mul_le_mul_right uh (show k / pw + 1 ≤ ph by omega); rw [Nat.add_mul, Nat.one_mul] at this; exact this
      obtain ⟨s', h1, h2, h3⟩ := put_eq U hW hH b1 b2 hl Hz
      refine .inl ⟨s', ?_, h2, fun x y hx hy => ?_⟩
      · rw [hB k s hk, h1, Option.bind_some, w64_succ (by omega)]
      · rw [h3 x y hx hy, hs x y hx hy]
        have hx2 : x / uw < pw := pl_divlt (by rw [Nat.mul_comm]; exact hx)
        have hb := blk_iff (a := x / uw) (b := y / uh) (k := k) hx2
        by_cases hc : x / uw = k % pw ∧ y / uh = k / pw
        · rw [if_pos hc, if_pos (by rw [hb.1 hc]; omega), hb.1 hc]
        · rw [if_neg hc]
          have hne : (y / uh) * pw + x / uw ≠ k := fun h => hc (hb.2 h)
          by_cases h4 : (y / uh) * pw + x / uw < k
          · rw [if_pos h4, if_pos (by omega)]
          · rw [if_neg h4, if_neg (by omega)]
    · rintro s ⟨hl, hs⟩
      refine ⟨s, hBe s, gl_of false hl fun x y hx hy => ?_⟩
      rw [hs x y hx hy, if_pos]
      have u0 : 0 < uh := by rcases Nat.eq_zero_or_pos uh with h0 | h0; rw [h0, Nat.mul_zero] at hy; omega; exact h0
      exact pl_lt (pl_divlt (by rw [Nat.mul_comm]; exact hx)) (pl_divlt (by rw [Nat.mul_comm]; exact hy))
  obtain ⟨t, h1, rfl⟩ := key
  exact h1
theorem Gr.W {g : api_Grid} {w h : Nat} (G : Gr g w h) : g.W.toNat = w := by rw [G.hw]; rfl
theorem Gr.H {g : api_Grid} {w h : Nat} (G : Gr g w h) : g.H.toNat = h := by rw [G.hh]; rfl
/-- a part of a grid -/
def prt (g : api_Grid) (W w h i j : Nat) : api_Grid := gm (fun x y => cell g W (i * w + x) (j * h + y)) w h
theorem part_eq {g : api_Grid} {W H w h i j : Nat} (G : Gr g W H) (hi : i * w + w ≤ W) (hj : j * h + h ≤ H) (w0 : 1 ≤ w) (h0 : 1 ≤ h) : F_block_part g (w : Int) (h : Int) (i : Int) (j : Int) = some (prt g W w h i j) := by
  have hp : W * H ≤ 64 * 64 := Nat.mul_le_mul G.w1 G.h1
  have W1 := G.w1
  have H1 := G.h1
  have hb := loop_seq (B := block_part_l1 (h : Int) g (j : Int) (i : Int) (w : Int)) (fun k : Nat => ((k : Int), glf (fun x y => cell g W (i * w + x) (j * h + y)) w (k * w))) h (t := glf (fun x y => cell g W (i * w + x) (j * h + y)) w (h * w))
    (fun k hk => by
      have hy : j * h + k < H := by omega
      have a1 : (j * h + k) * W + W ≤ W * H := by
        have := Nat.mul_le_mul_right W (show j * h + k + 1 ≤ H by omega)
        rw [Nat.add_mul (j * h + k) 1, Nat.one_mul, Nat.mul_comm H W] at this
        exact this
      have a2 : k * w ≤ 64 * 64 := Nat.mul_le_mul (by omega) (by omega)
      have e1 : w64 ((j : Int) * (h : Int)) = ((j * h : Nat) : Int) := wmul (by omega)
      have e2 : w64 (((j * h : Nat) : Int) + (k : Int)) = ((j * h + k : Nat) : Int) := wadd (by omega)
      have e3 : w64 (((j * h + k : Nat) : Int) * (W : Int)) = (((j * h + k) * W : Nat) : Int) := wmul (by omega)
      have e4 : w64 ((i : Int) * (w : Int)) = ((i * w : Nat) : Int) := wmul (by omega)
      have e5 : w64 ((((j * h + k) * W : Nat) : Int) + ((i * w : Nat) : Int)) = (((j * h + k) * W + i * w : Nat) : Int) := wadd (by omega)
      have e6 : w64 ((((j * h + k) * W + i * w : Nat) : Int) + (w : Int)) = (((j * h + k) * W + i * w + w : Nat) : Int) := wadd (by omega)
      have hsl := sliceO_of (xs := g.Bits) (lo := (((j * h + k) * W + i * w : Nat) : Int)) (hi := (((j * h + k) * W + i * w + w : Nat) : Int)) rfl rfl (by omega) (by rw [G.len]; omega)
      rw [bits_part G (x0 := i * w) (n := w) (y := j * h + k) hi hy] at hsl
      unfold block_part_l1
      simp only [dT (show (k : Int) < (h : Int) by omega), if_true, G.hw, e1, e2, e3, e4, e5, e6, hsl, Option.bind_some]
      rw [appO_of (by simp [glf]; omega), Option.bind_some, w64_succ (by omega)]
      congr 3
      rw [Nat.add_mul, Nat.one_mul]
      unfold glf
      rw [List.range_add, List.map_append]
      congr 1
      rw [List.map_map]
      refine map_cong fun x hx => ?_
      simp only [Function.comp, pl_mod hx, pl_div hx])
    (by
      unfold block_part_l1
      simp only [dF (show ¬ (h : Int) < (h : Int) by omega), Bool.false_eq_true, if_false])
  have h00 : (((0 : Nat) : Int), glf (fun x y => cell g W (i * w + x) (j * h + y)) w (0 * w)) = ((0 : Int), ([] : List Bool)) := by simp [glf]
  rw [h00] at hb
  unfold F_block_part
  rw [hb]
  simp only [Option.bind_some]
  unfold prt gm gl
  rw [Nat.mul_comm w h]
theorem rpart_eq {g : api_Grid} {W H w h i j : Nat} (G : Gr g W H) (hi : i * w + w ≤ W) (hj : j * h + h ≤ H) (w0 : 1 ≤ w) (h0 : 1 ≤ h) : F_raddleref13_Part_s0 g (w : Int) (h : Int) (i : Int) (j : Int) = some (prt g W w h i j) := by
  have W1 := G.w1
  have H1 := G.h1
  unfold F_raddleref13_Part_s0
  rw [rzero_eq (by omega) (by omega)]
  simp only [Option.bind_some]
  generalize hZ : (⟨(w : Int), (h : Int), List.replicate (w * h) false⟩ : api_Grid) = Z
  have zW : Z.W = (w : Int) := by rw [← hZ]
  have zH : Z.H = (h : Int) := by rw [← hZ]
  have zB : Z.Bits = List.replicate (w * h) false := by rw [← hZ]
  have hb := sets_eq (l1 := fun y => raddleref13_Part_s0_l1 (w : Int) g (i : Int) (j : Int) (h : Int) y Z) (l2 := raddleref13_Part_s0_l2 (h : Int) (w : Int) g (i : Int) (j : Int) Z) (fun x y => cell g W (i * w + x) (j * h + y)) w h (by omega) (by omega)
    (fun y x s hy hx hl => by
      have e1 : w64 ((i : Int) * (w : Int)) = ((i * w : Nat) : Int) := wmul (by omega)
      have e2 : w64 (((i * w : Nat) : Int) + (x : Int)) = ((i * w + x : Nat) : Int) := wadd (by omega)
      have e3 : w64 ((j : Int) * (h : Int)) = ((j * h : Nat) : Int) := wmul (by omega)
      have e4 : w64 (((j * h : Nat) : Int) + (y : Int)) = ((j * h + y : Nat) : Int) := wadd (by omega)
      unfold raddleref13_Part_s0_l1
      simp only [dT (show (x : Int) < (w : Int) by omega), if_true, e1, e2, e3, e4, rat_eq G (show i * w + x < W by omega) (show j * h + y < H by omega), Option.bind_some, zW, zH, rset_eq (w := w) (h := h) (by omega) (by omega) hl hx hy, w64_succ (show x < 9223372036854775807 by omega)])
    (fun y s => by
      unfold raddleref13_Part_s0_l1
      simp only [dF (show ¬ (w : Int) < (w : Int) by omega), Bool.false_eq_true, if_false])
    (fun y s t hy ht => by
      unfold raddleref13_Part_s0_l2
      simp only [dT (show (y : Int) < (h : Int) by omega), if_true, ht, Option.bind_some, w64_succ (show y < 9223372036854775807 by omega)])
    (fun s => by
      unfold raddleref13_Part_s0_l2
      simp only [dF (show ¬ (h : Int) < (h : Int) by omega), Bool.false_eq_true, if_false])
  simp only [zW, zH, hb, Option.bind_some]
  rfl
theorem prt_gr {g : api_Grid} {W w h i j : Nat} (w0 : 1 ≤ w) (w1 : w ≤ 64) (h0 : 1 ≤ h) (h1 : h ≤ 64) : Gr (prt g W w h i j) w h := gm_gr _ w0 w1 h0 h1

end Go.Proofs.Ythfifeabomdlpaa
namespace Go.Proofs.Ythfifeabomdlpaa
open Go.RowKit
set_option linter.unusedVariables false

noncomputable def raddleref13_GreatGrids_l1 (p0 : (List api_Grid)) : Int → Option (Int ⊕ (Bool ⊕ Unit)) := fun s0 => match s0 with
  | s7 =>
    if decide (s7 < (p0.length : Int)) then
      Option.bind (idxO p0 s7) fun x16 =>
      Option.bind (F_raddleref01_Great x16) fun r25 =>
      if r25 then
        some (.inr (.inl true))
      else
        some (.inl (w64 (s7 + 1)))
    else
      some (.inr (.inr ()))
noncomputable def F_raddleref13_GreatGrids (p0 : (List api_Grid)) : Option Bool :=
  Option.bind (α := Unit ⊕ Bool) (
    Option.bind (whileO (raddleref13_GreatGrids_l1 p0) 0) fun z0 => match z0 with
      | .inl z =>
        some (.inr z)
      | .inr _ =>
        some (.inl ())) fun z0 => match z0 with
    | .inl _ =>
      some (decide (20 < (p0.length : Int)))
    | .inr z =>
      some z
set_option maxHeartbeats 4000000 in
set_option maxRecDepth 100000 in
theorem c_raddleref13_GreatGrids (E : Nat → Prop) (w0 : World) (p0 : (List api_Grid)) (v0 : Value) (r : Bool) (h : F_raddleref13_GreatGrids p0 = some r) (S : St0 E [] w0 w0 [] [fRep (rL r_api_Grid) (v0) p0]) :
    Calls Try.prog 18 #[v0] w0 (Ret (X := Unit) E [] w0 (fun _ => .bool r) (fun _ => []) (fun _ => [])) := by
  unfold F_raddleref13_GreatGrids at h
  obtain ⟨ad1, cp2, _, rfl, _⟩ := S.know (i := 0) (e := fRep (rL r_api_Grid) (v0) p0) rfl
  refine sEnter (args := [.slice ad1 p0.length cp2]) 18 Try.func18 rfl rfl (by simp) S (fun a S => ?_)
  refine sSeq (fun K3 hK3 => ?_)
  refine sRegion ?_
  refine sMove (.bool false) S (wN rfl) (.inr rfl) rfl rfl (lb rfl) fun a S => ?_
  refine leafL (leafT (hK3 _ _ ?_))
  obtain ⟨t4, h, g5⟩ := bindSome h
  refine sCut (fun a w => .inl () = t4 ∧ St [] E [] w0 18 a w [(0, .slice ad1 p0.length cp2)] [] [fRep (rL r_api_Grid) (.slice ad1 p0.length cp2) p0]) ?_ (fun a w hI => ?_)
  rotate_left
  · obtain ⟨rfl, S⟩ := hI
    have h := g5
    clear g5
    try dsimp only at h
    refine sSeq (fun K29 hK29 => ?_)
    refine sRegion ?_
    refine sMove (.slice ad1 p0.length cp2) S (wN rfl) (.inl rfl) rfl rfl (lb rfl) fun a S => ?_
    refine sLen (ad := ad1) (m := p0.length) (c := cp2) S (wN rfl) rfl Try.underlying34 rfl rfl (lb rfl) fun a S => ?_
    refine sBin (.bool (decide (20 < (p0.length : Int)))) S (wN rfl) rfl rfl rfl (bGt _ _ _ _ .i64 (p0.length : Int) 20) rfl (lb rfl) fun a S => ?_
    refine sMove (.bool (decide (20 < (p0.length : Int)))) S (wN rfl) (.inr rfl) rfl rfl (lb rfl) fun a S => ?_
    refine leafL (leafT (hK29 _ _ ?_))
    obtain rfl := Option.some.inj h
    exact wp_ret (sRet (.bool (decide (20 < (p0.length : Int)))) S (rsl1 rfl (rvT (t := 2) (v := .bool (decide (20 < (p0.length : Int)))) S rfl)) ⟨(), rfl, S.mem.sel [] [] (by decide) rfl rfl⟩)
  refine sSeq (fun K6 hK6 => ?_)
  refine sRegion ?_
  refine sMove (iv 0) S (wN rfl) (.inr rfl) rfl rfl (lb rfl) fun a S => ?_
  refine leafL (leafT (hK6 _ _ ?_))
  refine wp_block ?_
  obtain ⟨t10, hl, g9⟩ := bindSome h
  refine sLoop hl (fun s0 a w => match s0 with | s7 => St [] E [] w0 18 a w [(0, .slice ad1 p0.length cp2), (3, iv s7)] [] [fRep (rL r_api_Grid) (.slice ad1 p0.length cp2) p0]) (S.fix [] [0] (by decide) rfl rfl rfl) ?_
  clear hl h
  intro s7 a w c0 hI h hu8
  unfold raddleref13_GreatGrids_l1 at h
  dsimp only at h hI
  have S := hI
  refine sSeq (fun K11 hK11 => ?_)
  refine sSeq (fun K12 hK12 => ?_)
  refine sRegion ?_
  refine sMove (iv s7) S (wN rfl) (.inl rfl) rfl rfl (lb rfl) fun a S => ?_
  refine sMove (.slice ad1 p0.length cp2) S (wN rfl) (.inl rfl) rfl rfl (lb rfl) fun a S => ?_
  refine sLen (ad := ad1) (m := p0.length) (c := cp2) S (wN rfl) rfl Try.underlying34 rfl rfl (lb rfl) fun a S => ?_
  refine sBin (.bool (decide (s7 < (p0.length : Int)))) S (wN rfl) rfl rfl rfl (bLt _ _ _ _ .i64 s7 (p0.length : Int)) rfl (lb rfl) fun a S => ?_
  refine leafL (leafT (hK12 _ _ ?_))
  rcases iteSome h with ⟨hc13, h⟩ | ⟨hc13, h⟩
  rotate_left
  · refine sCondF S rfl hc13 ?_
    obtain rfl := Option.some.inj h
    obtain rfl := hu8 _ rfl
    have h := g9
    clear g9
    try dsimp only at h
    exact wp_exit (xThen (xThen (xHit (leafT (⟨Option.some.inj h, S.fix [] [0] (by decide) rfl rfl rfl⟩)))))
  refine sCondT S rfl hc13 ?_
  refine wp_skip (leafT (hK11 _ _ ?_))
  refine sSeq (fun K14 hK14 => ?_)
  refine wp_block ?_
  refine sSeq (fun K15 hK15 => ?_)
  refine sRegion ?_
  refine sMove (.slice ad1 p0.length cp2) S (wN rfl) (.inl rfl) rfl rfl (lb rfl) fun a S => ?_
  refine sMove (iv s7) S (wN rfl) (.inl rfl) rfl rfl (lb rfl) fun a S => ?_
  obtain ⟨x16, hx17, h⟩ := bindSome h
  obtain ⟨q18, hq19, S⟩ := pIdx (P := Try.prog) (r := r_api_Grid) (v := .slice ad1 p0.length cp2) (xs := p0) (j := s7) 34 24 0 S Try.underlying34 rfl rfl hx17
  refine sIdxV (v := .slice ad1 p0.length cp2) (k := .i64) (j := s7) S (wN rfl) rfl rfl rfl hq19 rfl (lb rfl) fun a S => ?_
  obtain ⟨u20, S⟩ := pLoad (r := r_api_Grid) (q := q18) (x := x16) 0 S rfl
  obtain ⟨u21, rfl, hu22⟩ := S.mem.know (i := 1) (e := fRep r_api_Grid (u20) x16) rfl
  have S := S.learn (fRep (rL rB) u21 x16.Bits) hu22
  obtain ⟨ad23, cp24, _, rfl, _⟩ := hu22
  refine sLoadVN (vq := q18) 1 [iv x16.W, iv x16.H, .slice ad23 x16.Bits.length cp24] S (wN rfl) rfl rfl rfl rfl rfl rfl (lb rfl) fun a S => ?_
  obtain ⟨r25, hx26, h⟩ := bindSome h
  have S1 := S.mem
  refine sCallQ (X := Unit) (f := 11) (vs := [.agg #[iv x16.W, iv x16.H, .slice ad23 x16.Bits.length cp24]]) (val := fun _ => .bool r25) S (wN rfl) rfl callee11 rfl (S1.quiet [2] rfl) (fun E1 w1 S1 => c_raddleref01_Great E1 w1 x16 (.agg #[iv x16.W, iv x16.H, .slice ad23 x16.Bits.length cp24]) r25 hx26 S1) rfl (lb rfl) fun _ a w S => ?_
  refine leafL (leafT (hK15 _ _ ?_))
  rcases iteSome h with ⟨hc27, h⟩ | ⟨hc27, h⟩
  rotate_left
  · refine sCondF S rfl hc27 ?_
    refine wp_skip (leafB (leafT (hK14 _ _ ?_)))
    refine sRegion ?_
    refine sMove (iv s7) S (wN rfl) (.inl rfl) rfl rfl (lb rfl) fun a S => ?_
    refine sBin (iv (w64 (s7 + 1))) S (wN rfl) rfl rfl rfl (bAdd _ _ _ _ s7 1) rfl (lb rfl) fun a S => ?_
    refine sMove (iv (w64 (s7 + 1))) S (wN rfl) (.inr rfl) rfl rfl (lb rfl) fun a S => ?_
    exact leafL (leafT (⟨w64 (s7 + 1), (Option.some.inj h).symm, (S.fix [] [4] (by decide) rfl rfl rfl)⟩))
  refine sCondT S rfl hc27 ?_
  refine sSeq (fun K28 hK28 => ?_)
  refine sRegion ?_
  refine sMove (.bool true) S (wN rfl) (.inr rfl) rfl rfl (lb rfl) fun a S => ?_
  refine leafL (leafT (hK28 _ _ ?_))
  obtain rfl := Option.some.inj h
  obtain rfl := hu8 _ rfl
  have h := g9
  clear g9
  try dsimp only at h
  obtain rfl := Option.some.inj h
  have h := g5
  clear g5
  try dsimp only at h
  obtain rfl := Option.some.inj h
  exact wp_ret (rBlock (rThen (rThen (rBlock (rThen (sRet (.bool true) S (rsl1 rfl (rvT (t := 2) (v := .bool true) S rfl)) ⟨(), rfl, S.mem.sel [] [] (by decide) rfl rfl⟩))))))

end Go.Proofs.Ythfifeabomdlpaa
namespace Go.Proofs.Ythfifeabomdlpaa
open Go.RowKit
set_option linter.unusedVariables false

noncomputable def F_block_Units_1_s0 (p0 : api_Grid) (p1 : api_Grid) : Option Bool :=
  Option.bind (F_grid_Same p0 p1) fun r13 =>
  some r13
set_option maxHeartbeats 4000000 in
set_option maxRecDepth 100000 in
theorem c_block_Units_1_s0 (E : Nat → Prop) (w0 : World) (p0 : api_Grid) (v0 : Value) (p1 : api_Grid) (v1 : Value) (r : Bool) (h : F_block_Units_1_s0 p0 p1 = some r) (S : St0 E [] w0 w0 [] [fRep r_api_Grid (v0) p0, fPtr r_api_Grid (v1) p1]) :
    Calls Try.prog 52 #[v0, v1] w0 (Ret (X := Unit) E [] w0 (fun _ => .bool r) (fun _ => []) (fun _ => [])) := by
  unfold F_block_Units_1_s0 at h
  obtain ⟨u1, rfl, hu2⟩ := S.know (i := 0) (e := fRep r_api_Grid (v0) p0) rfl
  have S := S.learn (fRep (rL rB) u1 p0.Bits) hu2
  obtain ⟨ad3, cp4, _, rfl, _⟩ := hu2
  refine sEnter (args := [.agg #[iv p0.W, iv p0.H, .slice ad3 p0.Bits.length cp4], v1]) 7 Try.func52 rfl rfl (by simp) S (fun a S => ?_)
  refine sSeq (fun K5 hK5 => ?_)
  refine sRegion ?_
  refine sBox (v := .agg #[iv p0.W, iv p0.H, .slice ad3 p0.Bits.length cp4]) S (wN rfl) rfl rfl [iv p0.W, iv p0.H, .slice ad3 p0.Bits.length cp4] rfl rfl (lb rfl) fun a b6 w S => ?_
  refine sMove (.bool false) S (wN rfl) (.inr rfl) rfl rfl (lb rfl) fun a S => ?_
  refine leafL (leafT (hK5 _ _ ?_))
  refine sSeq (fun K7 hK7 => ?_)
  refine sRegion ?_
  refine sLoadN (p := b6) (off := 0) (T := 24) (vs := [iv p0.W, iv p0.H, .slice ad3 p0.Bits.length cp4]) 0 [iv p0.W, iv p0.H, .slice ad3 p0.Bits.length cp4] S (wN rfl) rfl rfl rfl rfl rfl rfl rfl (lb rfl) fun a S => ?_
  obtain ⟨u8, S⟩ := pLoad (r := r_api_Grid) (q := v1) (x := p1) 2 S rfl
  obtain ⟨u9, rfl, hu10⟩ := S.mem.know (i := 1) (e := fRep r_api_Grid (u8) p1) rfl
  have S := S.learn (fRep (rL rB) u9 p1.Bits) hu10
  obtain ⟨ad11, cp12, _, rfl, _⟩ := hu10
  refine sLoadVN (vq := v1) 1 [iv p1.W, iv p1.H, .slice ad11 p1.Bits.length cp12] S (wN rfl) rfl rfl rfl rfl rfl rfl (lb rfl) fun a S => ?_
  obtain ⟨r13, hx14, h⟩ := bindSome h
  have S1 := S.mem
  refine sCallQ (X := Unit) (f := 48) (vs := [.agg #[iv p0.W, iv p0.H, .slice ad3 p0.Bits.length cp4], .agg #[iv p1.W, iv p1.H, .slice ad11 p1.Bits.length cp12]]) (val := fun _ => .bool r13) S (wN rfl) rfl callee48 rfl (S1.quiet [4, 2] rfl) (fun E1 w1 S1 => c_grid_Same E1 w1 p0 (.agg #[iv p0.W, iv p0.H, .slice ad3 p0.Bits.length cp4]) p1 (.agg #[iv p1.W, iv p1.H, .slice ad11 p1.Bits.length cp12]) r13 hx14 S1) rfl (lb rfl) fun _ a w S => ?_
  refine sMove (.bool r13) S (wN rfl) (.inr rfl) rfl rfl (lb rfl) fun a S => ?_
  refine leafL (leafT (hK7 _ _ ?_))
  obtain rfl := Option.some.inj h
  exact wp_ret (sRet (.bool r13) S (rsl1 rfl (rvT (t := 3) (v := .bool r13) S rfl)) ⟨(), rfl, S.mem.sel [] [] (by decide) rfl rfl⟩)

end Go.Proofs.Ythfifeabomdlpaa
namespace Go.Proofs.Ythfifeabomdlpaa
open Go.RowKit
set_option linter.unusedVariables false

noncomputable def slices_IndexFunc___api_Grid_api_Grid__s0_l1 (p0 : (List api_Grid)) (p1 : api_Grid) : Int → Option (Int ⊕ (Int ⊕ Unit)) := fun s0 => match s0 with
  | s7 =>
    if decide (s7 < (p0.length : Int)) then
      Option.bind (idxO p0 s7) fun x17 =>
      Option.bind (F_block_Units_1_s0 x17 p1) fun r26 =>
      if r26 then
        some (.inr (.inl s7))
      else
        some (.inl (w64 (s7 + 1)))
    else
      some (.inr (.inr ()))
noncomputable def F_slices_IndexFunc___api_Grid_api_Grid__s0 (p0 : (List api_Grid)) (p1 : api_Grid) : Option Int :=
  Option.bind (α := Unit ⊕ Int) (
    Option.bind (whileO (slices_IndexFunc___api_Grid_api_Grid__s0_l1 p0 p1) 0) fun z0 => match z0 with
      | .inl z =>
        some (.inr z)
      | .inr _ =>
        some (.inl ())) fun z0 => match z0 with
    | .inl _ =>
      some (-1)
    | .inr z =>
      some z
set_option maxHeartbeats 4000000 in
set_option maxRecDepth 100000 in
theorem c_slices_IndexFunc___api_Grid_api_Grid__s0 (E : Nat → Prop) (w0 : World) (p0 : (List api_Grid)) (v0 : Value) (p1 : api_Grid) (v1 : Value) (r : Int) (h : F_slices_IndexFunc___api_Grid_api_Grid__s0 p0 p1 = some r) (S : St0 E [] w0 w0 [] [fRep (rL r_api_Grid) (v0) p0, fPtr r_api_Grid (v1) p1]) :
    Calls Try.prog 51 #[v0, .func (.func 52) #[] #[v1]] w0 (Ret (X := Unit) E [] w0 (fun _ => .int .i64 r) (fun _ => []) (fun _ => [])) := by
  unfold F_slices_IndexFunc___api_Grid_api_Grid__s0 at h
  obtain ⟨ad1, cp2, _, rfl, _⟩ := S.know (i := 0) (e := fRep (rL r_api_Grid) (v0) p0) rfl
  refine sEnter (args := [.slice ad1 p0.length cp2, .func (.func 52) #[] #[v1]]) 19 Try.func51 rfl rfl (by simp) S (fun a S => ?_)
  refine sSeq (fun K3 hK3 => ?_)
  refine sRegion ?_
  refine sMove (iv 0) S (wN rfl) (.inr rfl) rfl rfl (lb rfl) fun a S => ?_
  refine leafL (leafT (hK3 _ _ ?_))
  obtain ⟨t4, h, g5⟩ := bindSome h
  refine sCut (fun a w => .inl () = t4 ∧ St [] E [] w0 19 a w [] [] []) ?_ (fun a w hI => ?_)
  rotate_left
  · obtain ⟨rfl, S⟩ := hI
    have h := g5
    clear g5
    try dsimp only at h
    refine sSeq (fun K30 hK30 => ?_)
    refine sRegion ?_
    refine sMove (iv (-1)) S (wN rfl) (.inr rfl) rfl rfl (lb rfl) fun a S => ?_
    refine leafL (leafT (hK30 _ _ ?_))
    obtain rfl := Option.some.inj h
    exact wp_ret (sRet (iv (-1)) S (rsl1 rfl (rvT (t := 4) (v := iv (-1)) S rfl)) ⟨(), rfl, S.mem.sel [] [] (by decide) rfl rfl⟩)
  refine sSeq (fun K6 hK6 => ?_)
  refine sRegion ?_
  refine sMove (.slice ad1 p0.length cp2) S (wN rfl) (.inl rfl) rfl rfl (lb rfl) fun a S => ?_
  refine sLen (ad := ad1) (m := p0.length) (c := cp2) S (wN rfl) rfl Try.underlying34 rfl rfl (lb rfl) fun a S => ?_
  refine sMove (iv 0) S (wN rfl) (.inl rfl) rfl rfl (lb rfl) fun a S => ?_
  refine leafL (leafT (hK6 _ _ ?_))
  refine wp_block ?_
  obtain ⟨t10, hl, g9⟩ := bindSome h
  refine sLoop hl (fun s0 a w => match s0 with | s7 => St [] E [] w0 19 a w [(0, .slice ad1 p0.length cp2), (1, .func (.func 52) #[] #[v1]), (7, iv (p0.length : Int)), (8, iv s7)] [] [fPtr r_api_Grid (v1) p1, fRep (rL r_api_Grid) (.slice ad1 p0.length cp2) p0]) (S.fix [] [1, 0] (by decide) rfl rfl rfl) ?_
  clear hl h
  intro s7 a w c0 hI h hu8
  unfold slices_IndexFunc___api_Grid_api_Grid__s0_l1 at h
  dsimp only at h hI
  have S := hI
  refine sSeq (fun K11 hK11 => ?_)
  refine sRegion ?_
  refine sBin (.bool (decide (s7 < (p0.length : Int)))) S (wN rfl) rfl rfl rfl (bLt _ _ _ _ .i64 s7 (p0.length : Int)) rfl (lb rfl) fun a S => ?_
  refine leafL (leafT (hK11 _ _ ?_))
  refine sSeq (fun K12 hK12 => ?_)
  rcases iteSome h with ⟨hc13, h⟩ | ⟨hc13, h⟩
  rotate_left
  · refine sCondF S rfl hc13 ?_
    obtain rfl := Option.some.inj h
    obtain rfl := hu8 _ rfl
    have h := g9
    clear g9
    try dsimp only at h
    exact wp_exit (xThen (xThen (xHit (leafT (⟨Option.some.inj h, S.fix [] [] (by decide) rfl rfl rfl⟩)))))
  refine sCondT S rfl hc13 ?_
  refine wp_skip (leafT (hK12 _ _ ?_))
  refine sSeq (fun K14 hK14 => ?_)
  refine wp_block ?_
  refine sSeq (fun K15 hK15 => ?_)
  refine sRegion ?_
  refine sMove (iv s7) S (wN rfl) (.inl rfl) rfl rfl (lb rfl) fun a S => ?_
  refine sMove (iv s7) S (wN rfl) (.inr rfl) rfl rfl (lb rfl) fun a S => ?_
  refine leafL (leafT (hK15 _ _ ?_))
  refine sSeq (fun K16 hK16 => ?_)
  refine sRegion ?_
  refine sMove (.func (.func 52) #[] #[v1]) S (wN rfl) (.inl rfl) rfl rfl (lb rfl) fun a S => ?_
  refine sMove (.slice ad1 p0.length cp2) S (wN rfl) (.inl rfl) rfl rfl (lb rfl) fun a S => ?_
  refine sMove (iv s7) S (wN rfl) (.inl rfl) rfl rfl (lb rfl) fun a S => ?_
  obtain ⟨x17, hx18, h⟩ := bindSome h
  obtain ⟨q19, hq20, S⟩ := pIdx (P := Try.prog) (r := r_api_Grid) (v := .slice ad1 p0.length cp2) (xs := p0) (j := s7) 34 24 1 S Try.underlying34 rfl rfl hx18
  refine sIdxV (v := .slice ad1 p0.length cp2) (k := .i64) (j := s7) S (wN rfl) rfl rfl rfl hq20 rfl (lb rfl) fun a S => ?_
  obtain ⟨u21, S⟩ := pLoad (r := r_api_Grid) (q := q19) (x := x17) 0 S rfl
  obtain ⟨u22, rfl, hu23⟩ := S.mem.know (i := 1) (e := fRep r_api_Grid (u21) x17) rfl
  have S := S.learn (fRep (rL rB) u22 x17.Bits) hu23
  obtain ⟨ad24, cp25, _, rfl, _⟩ := hu23
  refine sLoadVN (vq := q19) 1 [iv x17.W, iv x17.H, .slice ad24 x17.Bits.length cp25] S (wN rfl) rfl rfl rfl rfl rfl rfl (lb rfl) fun a S => ?_
  obtain ⟨r26, hx27, h⟩ := bindSome h
  have S1 := S.mem
  refine sCallVQ (X := Unit) (g := 52) (vs := [.agg #[iv x17.W, iv x17.H, .slice ad24 x17.Bits.length cp25]]) (caps := [v1]) (val := fun _ => .bool r26) S (wN rfl) rfl rfl callee52 rfl (S1.quiet [2, 4] rfl) (fun E1 w1 S1 => c_block_Units_1_s0 E1 w1 x17 (.agg #[iv x17.W, iv x17.H, .slice ad24 x17.Bits.length cp25]) p1 v1 r26 hx27 S1) rfl (lb rfl) fun _ a w S => ?_
  refine leafL (leafT (hK16 _ _ ?_))
  rcases iteSome h with ⟨hc28, h⟩ | ⟨hc28, h⟩
  rotate_left
  · refine sCondF S rfl hc28 ?_
    refine wp_skip (leafB (leafT (hK14 _ _ ?_)))
    refine sRegion ?_
    refine sBin (iv (w64 (s7 + 1))) S (wN rfl) rfl rfl rfl (bAdd _ _ _ _ s7 1) rfl (lb rfl) fun a S => ?_
    refine sMove (iv (w64 (s7 + 1))) S (wN rfl) (.inl rfl) rfl rfl (lb rfl) fun a S => ?_
    exact leafL (leafT (⟨w64 (s7 + 1), (Option.some.inj h).symm, (S.fix [] [4, 5] (by decide) rfl rfl rfl)⟩))
  refine sCondT S rfl hc28 ?_
  refine sSeq (fun K29 hK29 => ?_)
  refine sRegion ?_
  refine sMove (iv s7) S (wN rfl) (.inl rfl) rfl rfl (lb rfl) fun a S => ?_
  refine sMove (iv s7) S (wN rfl) (.inr rfl) rfl rfl (lb rfl) fun a S => ?_
  refine leafL (leafT (hK29 _ _ ?_))
  obtain rfl := Option.some.inj h
  obtain rfl := hu8 _ rfl
  have h := g9
  clear g9
  try dsimp only at h
  obtain rfl := Option.some.inj h
  have h := g5
  clear g5
  try dsimp only at h
  obtain rfl := Option.some.inj h
  exact wp_ret (rBlock (rThen (rThen (rBlock (rThen (sRet (iv s7) S (rsl1 rfl (rvT (t := 4) (v := iv s7) S rfl)) ⟨(), rfl, S.mem.sel [] [] (by decide) rfl rfl⟩))))))

end Go.Proofs.Ythfifeabomdlpaa
