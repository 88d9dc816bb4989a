/- Several texts in one: G90 G70 G88 G66 PlS G86 G33 G50 G51 PlSu G64 G85i0 G41 G30 PlT G16 G17 G42 G22 -/
import Derived.WalkKit
import Derived.Maps.AppendAt
import Derived.Deep.AppendLies
import Derived.KernelRfl
import Derived.Laws.OwnMore
import Derived.Great.BuildSlice
import Derived.Orders
import Derived.Laws.StructEq
import Derived.ChangeKeysEq
import Derived.Defers
import Derived.Laws.BytesString
import Derived.RangeFuncNested
import Derived.RangeFuncBound
import Derived.RangeFuncCalls
import Derived.RangeFuncLeaves
import Derived.OrdersIn
import Derived.LoopNIn
import Derived.Test.YtdbgkakmhlmpbaaProg
import Derived.ProofKit
import Derived.OpenShut
import Derived.ChangeOld
import Derived.Deep.Slices
import Derived.Lib.SmallJoins
import Derived.JoinedOf
import Derived.JoinedAt
import Derived.Below
import Derived.Test.YtdbgkakmhlmpbaaRows
import Derived.Test.YtdbgkakmhlmpbaaMCostNeeds2
namespace Go.Proofs.Ytdbgkakmhlmpbaa
open Go.RowKit
set_option linter.unusedVariables false

noncomputable def F_raddleref25_Used (p0 : api_Stitch) : Option Int :=
  Option.bind (α := Bool) (
    if p0.Kind == 2 then
      some (p0.Kind == 2)
    else
      some (p0.Kind == 9)) fun o5 =>
  if o5 then
    some 0
  else
    Option.bind (α := Bool) (
      if p0.Kind == 3 then
        some (p0.Kind == 3)
      else
        if p0.Kind == 4 then
          some (p0.Kind == 4)
        else
          some (p0.Kind == 10)) fun o12 =>
    if o12 then
      some p0.A
    else
      Option.bind (α := Bool) (
        if p0.Kind == 6 then
          some (p0.Kind == 6)
        else
          some (p0.Kind == 7)) fun o21 =>
      if o21 then
        some (w64 (p0.A + p0.B))
      else
        some 1
set_option maxHeartbeats 4000000 in
set_option maxRecDepth 100000 in
theorem c_raddleref25_Used (E : Nat → Prop) (w0 : World) (p0 : api_Stitch) (v0 : Value) (r : Int) (h : F_raddleref25_Used p0 = some r) (S : St0 E [] w0 w0 [] [fRep r_api_Stitch (v0) p0]) :
    Calls Try.prog 90 #[v0] w0 (Ret (X := Unit) E [] w0 (fun _ => .int .i64 r) (fun _ => []) (fun _ => [])) := by
  unfold F_raddleref25_Used at h
  obtain rfl : v0 = .agg #[.int .u8 p0.Kind, .bool p0.Purl, iv p0.A, iv p0.B] := S.know (i := 0) (e := fRep r_api_Stitch (v0) p0) rfl
  refine sEnter (args := [.agg #[.int .u8 p0.Kind, .bool p0.Purl, iv p0.A, iv p0.B]]) 22 Try.func90 rfl rfl (by simp) S (fun a S => ?_)
  refine sSeq (fun K1 hK1 => ?_)
  refine sRegion ?_
  refine sBox (v := .agg #[.int .u8 p0.Kind, .bool p0.Purl, iv p0.A, iv p0.B]) S (wN rfl) rfl rfl [.int .u8 p0.Kind, .bool p0.Purl, iv p0.A, iv p0.B] rfl rfl (lb rfl) fun a b2 w S => ?_
  refine sMove (iv 0) S (wN rfl) (.inr rfl) rfl rfl (lb rfl) fun a S => ?_
  refine leafL (leafT (hK1 _ _ ?_))
  refine sSeq (fun K3 hK3 => ?_)
  refine sSeq (fun K4 hK4 => ?_)
  refine sRegion ?_
  refine sField (b := b2) (off := 0) 0 0 S (wN rfl) rfl rfl rfl rfl rfl (lb rfl) fun a S => ?_
  refine sLoad1 (p := b2) (off := 0) (T := 74) (vs := [.int .u8 p0.Kind, .bool p0.Purl, iv p0.A, iv p0.B]) 0 (.int .u8 p0.Kind) S (wN rfl) rfl rfl rfl rfl rfl rfl (lb rfl) fun a S => ?_
  refine leafL (leafT (hK4 _ _ ?_))
  refine wp_block ?_
  obtain ⟨t6, h, g7⟩ := bindSome h
  refine sCut (fun a w => ∃ o5, o5 = t6 ∧ St [] E [] w0 22 a w [(1, .pointer (some ⟨b2, 0, none⟩)), (4, .int .u8 p0.Kind), (5, .bool o5)] [eBox b2 74 [.int .u8 p0.Kind, .bool p0.Purl, iv p0.A, iv p0.B]] []) ?_ (fun a w hI => ?_)
  · refine sSeq (fun K8 hK8 => ?_)
    refine sRegion ?_
    refine sBin (.bool (p0.Kind == 2)) S (wN rfl) rfl rfl rfl (bEq _ _ _ _ .u8 p0.Kind 2) rfl (lb rfl) fun a S => ?_
    refine sMove (.bool (p0.Kind == 2)) S (wN rfl) (.inr rfl) rfl rfl (lb rfl) fun a S => ?_
    refine leafL (leafT (hK8 _ _ ?_))
    rcases iteSome h with ⟨hc9, h⟩ | ⟨hc9, h⟩
    · refine sCondT S rfl hc9 ?_
      exact wp_skip (leafT (⟨p0.Kind == 2, Option.some.inj h, S.fix [0] [] (by decide) rfl rfl rfl⟩))
    refine sCondF S rfl hc9 ?_
    refine sRegion ?_
    refine sBin (.bool (p0.Kind == 9)) S (wN rfl) rfl rfl rfl (bEq _ _ _ _ .u8 p0.Kind 9) rfl (lb rfl) fun a S => ?_
    refine sMove (.bool (p0.Kind == 9)) S (wN rfl) (.inr rfl) rfl rfl (lb rfl) fun a S => ?_
    exact leafL (leafT (⟨p0.Kind == 9, Option.some.inj h, S.fix [0] [] (by decide) rfl rfl rfl⟩))
  obtain ⟨o5, rfl, S⟩ := hI
  have h := g7
  clear g7
  try dsimp only at h
  rcases iteSome h with ⟨hc10, h⟩ | ⟨hc10, h⟩
  · refine sCondT S rfl hc10 ?_
    refine sSeq (fun K11 hK11 => ?_)
    refine sRegion ?_
    refine sMove (iv 0) S (wN rfl) (.inr rfl) rfl rfl (lb rfl) fun a S => ?_
    refine leafL (leafT (hK11 _ _ ?_))
    obtain rfl := Option.some.inj h
    exact wp_ret (rBlock (rThen (sRet (iv 0) S (rsl1 rfl (rvT (t := 2) (v := iv 0) S rfl)) ⟨(), rfl, S.mem.sel [] [] (by decide) rfl rfl⟩)))
  refine sCondF S rfl hc10 ?_
  obtain ⟨t13, h, g14⟩ := bindSome h
  refine sCut (fun a w => ∃ o12, o12 = t13 ∧ St [] E [] w0 22 a w [(1, .pointer (some ⟨b2, 0, none⟩)), (4, .int .u8 p0.Kind), (8, .bool o12)] [eBox b2 74 [.int .u8 p0.Kind, .bool p0.Purl, iv p0.A, iv p0.B]] []) ?_ (fun a w hI => ?_)
  · refine sSeq (fun K15 hK15 => ?_)
    refine sRegion ?_
    refine sBin (.bool (p0.Kind == 3)) S (wN rfl) rfl rfl rfl (bEq _ _ _ _ .u8 p0.Kind 3) rfl (lb rfl) fun a S => ?_
    refine sMove (.bool (p0.Kind == 3)) S (wN rfl) (.inr rfl) rfl rfl (lb rfl) fun a S => ?_
    refine leafL (leafT (hK15 _ _ ?_))
    rcases iteSome h with ⟨hc16, h⟩ | ⟨hc16, h⟩
    · refine sCondT S rfl hc16 ?_
      exact wp_skip (leafT (⟨p0.Kind == 3, Option.some.inj h, S.fix [0] [] (by decide) rfl rfl rfl⟩))
    refine sCondF S rfl hc16 ?_
    refine sSeq (fun K17 hK17 => ?_)
    refine sRegion ?_
    refine sBin (.bool (p0.Kind == 4)) S (wN rfl) rfl rfl rfl (bEq _ _ _ _ .u8 p0.Kind 4) rfl (lb rfl) fun a S => ?_
    refine sMove (.bool (p0.Kind == 4)) S (wN rfl) (.inr rfl) rfl rfl (lb rfl) fun a S => ?_
    refine leafL (leafT (hK17 _ _ ?_))
    rcases iteSome h with ⟨hc18, h⟩ | ⟨hc18, h⟩
    · refine sCondT S rfl hc18 ?_
      exact wp_skip (leafT (⟨p0.Kind == 4, Option.some.inj h, S.fix [0] [] (by decide) rfl rfl rfl⟩))
    refine sCondF S rfl hc18 ?_
    refine sRegion ?_
    refine sBin (.bool (p0.Kind == 10)) S (wN rfl) rfl rfl rfl (bEq _ _ _ _ .u8 p0.Kind 10) rfl (lb rfl) fun a S => ?_
    refine sMove (.bool (p0.Kind == 10)) S (wN rfl) (.inr rfl) rfl rfl (lb rfl) fun a S => ?_
    exact leafL (leafT (⟨p0.Kind == 10, Option.some.inj h, S.fix [0] [] (by decide) rfl rfl rfl⟩))
  obtain ⟨o12, rfl, S⟩ := hI
  have h := g14
  clear g14
  try dsimp only at h
  rcases iteSome h with ⟨hc19, h⟩ | ⟨hc19, h⟩
  · refine sCondT S rfl hc19 ?_
    refine sSeq (fun K20 hK20 => ?_)
    refine sRegion ?_
    refine sField (b := b2) (off := 0) 2 2 S (wN rfl) rfl rfl rfl rfl rfl (lb rfl) fun a S => ?_
    refine sLoad1 (p := b2) (off := 2) (T := 74) (vs := [.int .u8 p0.Kind, .bool p0.Purl, iv p0.A, iv p0.B]) 0 (iv p0.A) S (wN rfl) rfl rfl rfl rfl rfl rfl (lb rfl) fun a S => ?_
    refine sMove (iv p0.A) S (wN rfl) (.inr rfl) rfl rfl (lb rfl) fun a S => ?_
    refine leafL (leafT (hK20 _ _ ?_))
    obtain rfl := Option.some.inj h
    exact wp_ret (rBlock (rThen (sRet (iv p0.A) S (rsl1 rfl (rvT (t := 2) (v := iv p0.A) S rfl)) ⟨(), rfl, S.mem.sel [] [] (by decide) rfl rfl⟩)))
  refine sCondF S rfl hc19 ?_
  obtain ⟨t22, h, g23⟩ := bindSome h
  refine sCut (fun a w => ∃ o21, o21 = t22 ∧ St [] E [] w0 22 a w [(1, .pointer (some ⟨b2, 0, none⟩)), (14, .bool o21)] [eBox b2 74 [.int .u8 p0.Kind, .bool p0.Purl, iv p0.A, iv p0.B]] []) ?_ (fun a w hI => ?_)
  · refine sSeq (fun K24 hK24 => ?_)
    refine sRegion ?_
    refine sBin (.bool (p0.Kind == 6)) S (wN rfl) rfl rfl rfl (bEq _ _ _ _ .u8 p0.Kind 6) rfl (lb rfl) fun a S => ?_
    refine sMove (.bool (p0.Kind == 6)) S (wN rfl) (.inr rfl) rfl rfl (lb rfl) fun a S => ?_
    refine leafL (leafT (hK24 _ _ ?_))
    rcases iteSome h with ⟨hc25, h⟩ | ⟨hc25, h⟩
    · refine sCondT S rfl hc25 ?_
      exact wp_skip (leafT (⟨p0.Kind == 6, Option.some.inj h, S.fix [0] [] (by decide) rfl rfl rfl⟩))
    refine sCondF S rfl hc25 ?_
    refine sRegion ?_
    refine sBin (.bool (p0.Kind == 7)) S (wN rfl) rfl rfl rfl (bEq _ _ _ _ .u8 p0.Kind 7) rfl (lb rfl) fun a S => ?_
    refine sMove (.bool (p0.Kind == 7)) S (wN rfl) (.inr rfl) rfl rfl (lb rfl) fun a S => ?_
    exact leafL (leafT (⟨p0.Kind == 7, Option.some.inj h, S.fix [0] [] (by decide) rfl rfl rfl⟩))
  obtain ⟨o21, rfl, S⟩ := hI
  have h := g23
  clear g23
  try dsimp only at h
  rcases iteSome h with ⟨hc26, h⟩ | ⟨hc26, h⟩
  rotate_left
  · refine sCondF S rfl hc26 ?_
    refine wp_skip (leafB (leafT (hK3 _ _ ?_)))
    refine sSeq (fun K28 hK28 => ?_)
    refine sRegion ?_
    refine sMove (iv 1) S (wN rfl) (.inr rfl) rfl rfl (lb rfl) fun a S => ?_
    refine leafL (leafT (hK28 _ _ ?_))
    obtain rfl := Option.some.inj h
    exact wp_ret (sRet (iv 1) S (rsl1 rfl (rvT (t := 2) (v := iv 1) S rfl)) ⟨(), rfl, S.mem.sel [] [] (by decide) rfl rfl⟩)
  refine sCondT S rfl hc26 ?_
  refine sSeq (fun K27 hK27 => ?_)
  refine sRegion ?_
  refine sField (b := b2) (off := 0) 2 2 S (wN rfl) rfl rfl rfl rfl rfl (lb rfl) fun a S => ?_
  refine sLoad1 (p := b2) (off := 2) (T := 74) (vs := [.int .u8 p0.Kind, .bool p0.Purl, iv p0.A, iv p0.B]) 0 (iv p0.A) S (wN rfl) rfl rfl rfl rfl rfl rfl (lb rfl) fun a S => ?_
  refine sField (b := b2) (off := 0) 3 3 S (wN rfl) rfl rfl rfl rfl rfl (lb rfl) fun a S => ?_
  refine sLoad1 (p := b2) (off := 3) (T := 74) (vs := [.int .u8 p0.Kind, .bool p0.Purl, iv p0.A, iv p0.B]) 0 (iv p0.B) S (wN rfl) rfl rfl rfl rfl rfl rfl (lb rfl) fun a S => ?_
  refine sBin (iv (w64 (p0.A + p0.B))) S (wN rfl) rfl rfl rfl (bAdd _ _ _ _ p0.A p0.B) rfl (lb rfl) fun a S => ?_
  refine sMove (iv (w64 (p0.A + p0.B))) S (wN rfl) (.inr rfl) rfl rfl (lb rfl) fun a S => ?_
  refine leafL (leafT (hK27 _ _ ?_))
  obtain rfl := Option.some.inj h
  exact wp_ret (rBlock (rThen (sRet (iv (w64 (p0.A + p0.B))) S (rsl1 rfl (rvT (t := 2) (v := iv (w64 (p0.A + p0.B))) S rfl)) ⟨(), rfl, S.mem.sel [] [] (by decide) rfl rfl⟩)))

end Go.Proofs.Ytdbgkakmhlmpbaa
namespace Go.Proofs.Ytdbgkakmhlmpbaa
open Go.RowKit
set_option linter.unusedVariables false

noncomputable def raddleref25_sums_l1 (p0 : (List api_Stitch)) : (Int × Int × Int) → Option ((Int × Int × Int) ⊕ (Int × Int)) := fun s0 => match s0 with
  | (s10, s11, s12) =>
    if decide (s12 < (p0.length : Int)) then
      Option.bind (idxO p0 s12) fun x23 =>
      Option.bind (F_raddleref25_Used x23) fun r28 =>
      Option.bind (F_raddleref25_Gives x23) fun r33 =>
      some (.inl (w64 (s10 + r28), w64 (s11 + r33), w64 (s12 + 1)))
    else
      some (.inr (s10, s11))
noncomputable def F_raddleref25_sums (p0 : (List api_Stitch)) : Option (Int × Int) :=
  Option.bind (α := (Int × Int)) (
    Option.bind (whileO (raddleref25_sums_l1 p0) (0, 0, 0)) fun (e16, e17) =>
      some (e16, e17)) fun (o5, o6) =>
  some (o5, o6)
set_option maxHeartbeats 4000000 in
set_option maxRecDepth 100000 in
theorem c_raddleref25_sums (E : Nat → Prop) (w0 : World) (p0 : (List api_Stitch)) (v0 : Value) (r : (Int × Int)) (h : F_raddleref25_sums p0 = some r) (S : St0 E [] w0 w0 [] [fRep (rL r_api_Stitch) (v0) p0]) :
    Calls Try.prog 70 #[v0] w0 (Ret (X := Unit) E [] w0 (fun _ => .tuple #[.int .i64 r.1, .int .i64 r.2]) (fun _ => []) (fun _ => [])) := by
  unfold F_raddleref25_sums at h
  obtain ⟨ad1, cp2, _, rfl, _⟩ := S.know (i := 0) (e := fRep (rL r_api_Stitch) (v0) p0) rfl
  refine sEnter (args := [.slice ad1 p0.length cp2]) 29 Try.func70 rfl rfl (by simp) S (fun a S => ?_)
  refine sSeq (fun K3 hK3 => ?_)
  refine sRegion ?_
  refine sMove (iv 0) S (wN rfl) (.inr rfl) rfl rfl (lb rfl) fun a S => ?_
  refine sMove (iv 0) S (wN rfl) (.inr rfl) rfl rfl (lb rfl) fun a S => ?_
  refine leafL (leafT (hK3 _ _ ?_))
  refine sSeq (fun K4 hK4 => ?_)
  refine sRegion ?_
  refine sMove (iv 0) S (wN rfl) (.inr rfl) rfl rfl (lb rfl) fun a S => ?_
  refine sMove (iv 0) S (wN rfl) (.inr rfl) rfl rfl (lb rfl) fun a S => ?_
  refine leafL (leafT (hK4 _ _ ?_))
  obtain ⟨t7, h, g8⟩ := bindSome h
  refine sCut (fun a w => ∃ o5, ∃ o6, (o5, o6) = t7 ∧ St [] E [] w0 29 a w [(4, iv o5), (5, iv o6)] [] []) ?_ (fun a w hI => ?_)
  rotate_left
  · obtain ⟨o5, o6, rfl, S⟩ := hI
    have h := g8
    clear g8
    try dsimp only at h
    refine sSeq (fun K35 hK35 => ?_)
    refine sRegion ?_
    refine sMove (iv o5) S (wN rfl) (.inl rfl) rfl rfl (lb rfl) fun a S => ?_
    refine sMove (iv o6) S (wN rfl) (.inl rfl) rfl rfl (lb rfl) fun a S => ?_
    refine sMove (iv o5) S (wN rfl) (.inr rfl) rfl rfl (lb rfl) fun a S => ?_
    refine sMove (iv o6) S (wN rfl) (.inr rfl) rfl rfl (lb rfl) fun a S => ?_
    refine leafL (leafT (hK35 _ _ ?_))
    obtain rfl := Option.some.inj h
    exact wp_ret (sRet (.tuple #[iv o5, iv o6]) S (rsl2 rfl (rvT (t := 2) (v := iv o5) S rfl) (rvT (t := 3) (v := iv o6) S rfl)) ⟨(), rfl, S.mem.sel [] [] (by decide) rfl rfl⟩)
  refine sSeq (fun K9 hK9 => ?_)
  refine sRegion ?_
  refine sMove (iv 0) S (wN rfl) (.inr rfl) rfl rfl (lb rfl) fun a S => ?_
  refine leafL (leafT (hK9 _ _ ?_))
  refine wp_block ?_
  obtain ⟨t15, hl, g14⟩ := bindSome h
  refine sLoop hl (fun s0 a w => match s0 with | (s10, s11, s12) => St [] E [] w0 29 a w [(0, .slice ad1 p0.length cp2), (4, iv s10), (5, iv s11), (6, iv s12)] [] [fRep (rL r_api_Stitch) (.slice ad1 p0.length cp2) p0]) (S.fix [] [0] (by decide) rfl rfl rfl) ?_
  clear hl h
  intro s0 a w c0 hI h hu13
  obtain ⟨s10, s11, s12⟩ := s0
  unfold raddleref25_sums_l1 at h
  dsimp only at h hI
  have S := hI
  refine sSeq (fun K18 hK18 => ?_)
  refine sSeq (fun K19 hK19 => ?_)
  refine sRegion ?_
  refine sMove (iv s12) S (wN rfl) (.inl rfl) rfl rfl (lb rfl) fun a S => ?_
  refine sMove (.slice ad1 p0.length cp2) S (wN rfl) (.inl rfl) rfl rfl (lb rfl) fun a S => ?_
  refine sLen (ad := ad1) (m := p0.length) (c := cp2) S (wN rfl) rfl Try.underlying70 rfl rfl (lb rfl) fun a S => ?_
  refine sBin (.bool (decide (s12 < (p0.length : Int)))) S (wN rfl) rfl rfl rfl (bLt _ _ _ _ .i64 s12 (p0.length : Int)) rfl (lb rfl) fun a S => ?_
  refine leafL (leafT (hK19 _ _ ?_))
  rcases iteSome h with ⟨hc20, h⟩ | ⟨hc20, h⟩
  rotate_left
  · refine sCondF S rfl hc20 ?_
    obtain rfl := Option.some.inj h
    obtain rfl := hu13 _ rfl
    have h := g14
    clear g14
    try dsimp only at h
    exact wp_exit (xThen (xThen (xHit (leafT (⟨s10, s11, Option.some.inj h, S.fix [] [] (by decide) rfl rfl rfl⟩)))))
  refine sCondT S rfl hc20 ?_
  refine wp_skip (leafT (hK18 _ _ ?_))
  refine sSeq (fun K21 hK21 => ?_)
  refine wp_block ?_
  refine sSeq (fun K22 hK22 => ?_)
  refine sRegion ?_
  refine sMove (iv s10) S (wN rfl) (.inl rfl) rfl rfl (lb rfl) fun a S => ?_
  refine sMove (.slice ad1 p0.length cp2) S (wN rfl) (.inl rfl) rfl rfl (lb rfl) fun a S => ?_
  refine sMove (iv s12) S (wN rfl) (.inl rfl) rfl rfl (lb rfl) fun a S => ?_
  obtain ⟨x23, hx24, h⟩ := bindSome h
  obtain ⟨q25, hq26, S⟩ := pIdx (P := Try.prog) (r := r_api_Stitch) (v := .slice ad1 p0.length cp2) (xs := p0) (j := s12) 70 74 0 S Try.underlying70 rfl rfl hx24
  refine sIdxV (v := .slice ad1 p0.length cp2) (k := .i64) (j := s12) S (wN rfl) rfl rfl rfl hq26 rfl (lb rfl) fun a S => ?_
  obtain ⟨u27, S⟩ := pLoad (r := r_api_Stitch) (q := q25) (x := x23) 0 S rfl
  obtain rfl : u27 = .agg #[.int .u8 x23.Kind, .bool x23.Purl, iv x23.A, iv x23.B] := S.mem.know (i := 1) (e := fRep r_api_Stitch (u27) x23) rfl
  refine sLoadVN (vq := q25) 0 [.int .u8 x23.Kind, .bool x23.Purl, iv x23.A, iv x23.B] S (wN rfl) rfl rfl rfl rfl rfl rfl (lb rfl) fun a S => ?_
  obtain ⟨r28, hx29, h⟩ := bindSome h
  have S1 := S.mem
  refine sCallQ (X := Unit) (f := 90) (vs := [.agg #[.int .u8 x23.Kind, .bool x23.Purl, iv x23.A, iv x23.B]]) (val := fun _ => iv r28) S (wN rfl) rfl callee90 rfl (S1.quiet [1] rfl) (fun E1 w1 S1 => c_raddleref25_Used E1 w1 x23 (.agg #[.int .u8 x23.Kind, .bool x23.Purl, iv x23.A, iv x23.B]) r28 hx29 S1) rfl (lb rfl) fun _ a w S => ?_
  refine sBin (iv (w64 (s10 + r28))) S (wN rfl) rfl rfl rfl (bAdd _ _ _ _ s10 r28) rfl (lb rfl) fun a S => ?_
  refine sMove (iv (w64 (s10 + r28))) S (wN rfl) (.inr rfl) rfl rfl (lb rfl) fun a S => ?_
  refine leafL (leafT (hK22 _ _ ?_))
  refine sRegion ?_
  refine sMove (iv s11) S (wN rfl) (.inl rfl) rfl rfl (lb rfl) fun a S => ?_
  refine sMove (.slice ad1 p0.length cp2) S (wN rfl) (.inl rfl) rfl rfl (lb rfl) fun a S => ?_
  refine sMove (iv s12) S (wN rfl) (.inl rfl) rfl rfl (lb rfl) fun a S => ?_
  obtain ⟨q30, hq31, S⟩ := pIdx (P := Try.prog) (r := r_api_Stitch) (v := .slice ad1 p0.length cp2) (xs := p0) (j := s12) 70 74 3 S Try.underlying70 rfl rfl hx24
  refine sIdxV (v := .slice ad1 p0.length cp2) (k := .i64) (j := s12) S (wN rfl) rfl rfl rfl hq31 rfl (lb rfl) fun a S => ?_
  obtain ⟨u32, S⟩ := pLoad (r := r_api_Stitch) (q := q30) (x := x23) 0 S rfl
  obtain rfl : u32 = .agg #[.int .u8 x23.Kind, .bool x23.Purl, iv x23.A, iv x23.B] := S.mem.know (i := 1) (e := fRep r_api_Stitch (u32) x23) rfl
  refine sLoadVN (vq := q30) 0 [.int .u8 x23.Kind, .bool x23.Purl, iv x23.A, iv x23.B] S (wN rfl) rfl rfl rfl rfl rfl rfl (lb rfl) fun a S => ?_
  obtain ⟨r33, hx34, h⟩ := bindSome h
  have S1 := S.mem
  refine sCallQ (X := Unit) (f := 32) (vs := [.agg #[.int .u8 x23.Kind, .bool x23.Purl, iv x23.A, iv x23.B]]) (val := fun _ => iv r33) S (wN rfl) rfl callee32 rfl (S1.quiet [1] rfl) (fun E1 w1 S1 => c_raddleref25_Gives E1 w1 x23 (.agg #[.int .u8 x23.Kind, .bool x23.Purl, iv x23.A, iv x23.B]) r33 hx34 S1) rfl (lb rfl) fun _ a w S => ?_
  refine sBin (iv (w64 (s11 + r33))) S (wN rfl) rfl rfl rfl (bAdd _ _ _ _ s11 r33) rfl (lb rfl) fun a S => ?_
  refine sMove (iv (w64 (s11 + r33))) S (wN rfl) (.inr rfl) rfl rfl (lb rfl) fun a S => ?_
  refine leafL (leafB (leafT (hK21 _ _ ?_)))
  refine sRegion ?_
  refine sMove (iv s12) S (wN rfl) (.inl rfl) rfl rfl (lb rfl) fun a S => ?_
  refine sBin (iv (w64 (s12 + 1))) S (wN rfl) rfl rfl rfl (bAdd _ _ _ _ s12 1) rfl (lb rfl) fun a S => ?_
  refine sMove (iv (w64 (s12 + 1))) S (wN rfl) (.inr rfl) rfl rfl (lb rfl) fun a S => ?_
  exact leafL (leafT (⟨(w64 (s10 + r28), w64 (s11 + r33), w64 (s12 + 1)), (Option.some.inj h).symm, (S.fix [] [6] (by decide) rfl rfl rfl)⟩))

end Go.Proofs.Ytdbgkakmhlmpbaa
namespace Go.Proofs.Ytdbgkakmhlmpbaa
open Go.RowKit
set_option linter.unusedVariables false

noncomputable def F_raddleref25_Check (p0 : api_Stitch) : Option Int :=
  Option.bind (α := Bool) (
    if p0.A == 0 then
      some (p0.B == 0)
    else
      some false) fun o3 =>
  Option.bind (α := Bool) (
    Option.bind (α := Bool) (
      if p0.Kind == 1 then
        some (p0.Kind == 1)
      else
        some (p0.Kind == 8)) fun o12 =>
    if o12 then
      some o3
    else
      if p0.Kind == 2 then
        if o3 then
          some (!p0.Purl)
        else
          some false
      else
        Option.bind (α := Bool) (
          if p0.Kind == 3 then
            some (p0.Kind == 3)
          else
            if p0.Kind == 4 then
              some (p0.Kind == 4)
            else
              some (p0.Kind == 5)) fun o21 =>
        if o21 then
          if p0.B == 0 then
            if decide (2 ≤ p0.A) then
              some (decide (p0.A ≤ 4))
            else
              some false
          else
            some false
        else
          Option.bind (α := Bool) (
            if p0.Kind == 6 then
              some (p0.Kind == 6)
            else
              some (p0.Kind == 7)) fun o31 =>
          if o31 then
            if decide (1 ≤ p0.A) then
              if decide (p0.A ≤ 6) then
                if decide (1 ≤ p0.B) then
                  some (decide (p0.B ≤ 6))
                else
                  some false
              else
                some false
            else
              some false
          else
            if p0.Kind == 9 then
              if p0.B == 0 then
                if !p0.Purl then
                  if decide (1 ≤ p0.A) then
                    some (decide (p0.A ≤ 200))
                  else
                    some false
                else
                  some false
              else
                some false
            else
              if p0.Kind == 10 then
                if p0.B == 0 then
                  if decide (1 ≤ p0.A) then
                    some (decide (p0.A ≤ 200))
                  else
                    some false
                else
                  some false
              else
                some false) fun o8 =>
  if !o8 then
    some 8
  else
    some 0
set_option maxHeartbeats 4000000 in
set_option maxRecDepth 100000 in
theorem c_raddleref25_Check (E : Nat → Prop) (w0 : World) (p0 : api_Stitch) (v0 : Value) (r : Int) (h : F_raddleref25_Check p0 = some r) (S : St0 E [] w0 w0 [] [fRep r_api_Stitch (v0) p0]) :
    Calls Try.prog 88 #[v0] w0 (Ret (X := Unit) E [] w0 (fun _ => .int .i64 r) (fun _ => []) (fun _ => [])) := by
  unfold F_raddleref25_Check at h
  obtain rfl : v0 = .agg #[.int .u8 p0.Kind, .bool p0.Purl, iv p0.A, iv p0.B] := S.know (i := 0) (e := fRep r_api_Stitch (v0) p0) rfl
  refine sEnter (args := [.agg #[.int .u8 p0.Kind, .bool p0.Purl, iv p0.A, iv p0.B]]) 102 Try.func88 rfl rfl (by simp) S (fun a S => ?_)
  refine sSeq (fun K1 hK1 => ?_)
  refine sRegion ?_
  refine sBox (v := .agg #[.int .u8 p0.Kind, .bool p0.Purl, iv p0.A, iv p0.B]) S (wN rfl) rfl rfl [.int .u8 p0.Kind, .bool p0.Purl, iv p0.A, iv p0.B] rfl rfl (lb rfl) fun a b2 w S => ?_
  refine sMove (iv 0) S (wN rfl) (.inr rfl) rfl rfl (lb rfl) fun a S => ?_
  refine leafL (leafT (hK1 _ _ ?_))
  obtain ⟨t4, h, g5⟩ := bindSome h
  refine sCut (fun a w => ∃ o3, o3 = t4 ∧ St [] E [] w0 102 a w [(1, .pointer (some ⟨b2, 0, none⟩)), (3, .bool o3)] [eBox b2 74 [.int .u8 p0.Kind, .bool p0.Purl, iv p0.A, iv p0.B]] []) ?_ (fun a w hI => ?_)
  · refine sRegion ?_
    refine sField (b := b2) (off := 0) 2 2 S (wN rfl) rfl rfl rfl rfl rfl (lb rfl) fun a S => ?_
    refine sLoad1 (p := b2) (off := 2) (T := 74) (vs := [.int .u8 p0.Kind, .bool p0.Purl, iv p0.A, iv p0.B]) 0 (iv p0.A) S (wN rfl) rfl rfl rfl rfl rfl rfl (lb rfl) fun a S => ?_
    refine sBin (.bool (p0.A == 0)) S (wN rfl) rfl rfl rfl (bEq _ _ _ _ .i64 p0.A 0) rfl (lb rfl) fun a S => ?_
    refine sMove (.bool (p0.A == 0)) S (wN rfl) (.inl rfl) rfl rfl (lb rfl) fun a S => ?_
    rcases iteSome h with ⟨hc6, h⟩ | ⟨hc6, h⟩
    rotate_left
    · refine sSkip 3 true 8 9 S rfl rfl rfl hc6 rfl (lb rfl) fun a S => ?_
      refine sSkip 3 true 8 10 S rfl rfl rfl hc6 rfl (lb rfl) fun a S => ?_
      refine sSkip 3 true 8 11 S rfl rfl rfl hc6 rfl (lb rfl) fun a S => ?_
      refine sPickF (.bool false) S (wN rfl) rfl rfl hc6 rfl rfl (lb rfl) fun a S => ?_
      refine sMove (.bool false) S (wN rfl) (.inr rfl) rfl rfl (lb rfl) fun a S => ?_
      exact leafL (leafT (⟨false, Option.some.inj h, S.fix [0] [] (by decide) rfl rfl rfl⟩))
    refine sField (b := b2) (off := 0) 3 3 S (wG 3 true 8 rfl rfl rfl hc6) rfl rfl rfl rfl rfl (lb rfl) fun a S => ?_
    refine sLoad1 (p := b2) (off := 3) (T := 74) (vs := [.int .u8 p0.Kind, .bool p0.Purl, iv p0.A, iv p0.B]) 0 (iv p0.B) S (wG 3 true 8 rfl rfl rfl hc6) rfl rfl rfl rfl rfl rfl (lb rfl) fun a S => ?_
    refine sBin (.bool (p0.B == 0)) S (wG 3 true 8 rfl rfl rfl hc6) rfl rfl rfl (bEq _ _ _ _ .i64 p0.B 0) rfl (lb rfl) fun a S => ?_
    refine sPickT (.bool (p0.B == 0)) S (wN rfl) rfl rfl hc6 rfl rfl (lb rfl) fun a S => ?_
    refine sMove (.bool (p0.B == 0)) S (wN rfl) (.inr rfl) rfl rfl (lb rfl) fun a S => ?_
    exact leafL (leafT (⟨p0.B == 0, Option.some.inj h, S.fix [0] [] (by decide) rfl rfl rfl⟩))
  obtain ⟨o3, rfl, S⟩ := hI
  have h := g5
  clear g5
  try dsimp only at h
  refine sSeq (fun K7 hK7 => ?_)
  refine sRegion ?_
  refine sMove (.bool false) S (wN rfl) (.inr rfl) rfl rfl (lb rfl) fun a S => ?_
  refine leafL (leafT (hK7 _ _ ?_))
  obtain ⟨t9, h, g10⟩ := bindSome h
  refine sCut (fun a w => ∃ o8, o8 = t9 ∧ St [] E [] w0 102 a w [(4, .bool o8)] [] []) ?_ (fun a w hI => ?_)
  rotate_left
  · obtain ⟨o8, rfl, S⟩ := hI
    have h := g10
    clear g10
    try dsimp only at h
    refine sSeq (fun K49 hK49 => ?_)
    refine sSeq (fun K50 hK50 => ?_)
    refine sRegion ?_
    refine sMove (.bool o8) S (wN rfl) (.inl rfl) rfl rfl (lb rfl) fun a S => ?_
    refine sNot (b := o8) S (wN rfl) rfl rfl rfl (lb rfl) fun a S => ?_
    refine leafL (leafT (hK50 _ _ ?_))
    rcases iteSome h with ⟨hc51, h⟩ | ⟨hc51, h⟩
    · refine sCondT S rfl hc51 ?_
      refine sSeq (fun K52 hK52 => ?_)
      refine sRegion ?_
      refine sMove (iv 8) S (wN rfl) (.inr rfl) rfl rfl (lb rfl) fun a S => ?_
      refine leafL (leafT (hK52 _ _ ?_))
      obtain rfl := Option.some.inj h
      exact wp_ret (rThen (sRet (iv 8) S (rsl1 rfl (rvT (t := 2) (v := iv 8) S rfl)) ⟨(), rfl, S.mem.sel [] [] (by decide) rfl rfl⟩))
    refine sCondF S rfl hc51 ?_
    refine wp_skip (leafT (hK49 _ _ ?_))
    refine sSeq (fun K53 hK53 => ?_)
    refine sRegion ?_
    refine sMove (iv 0) S (wN rfl) (.inr rfl) rfl rfl (lb rfl) fun a S => ?_
    refine leafL (leafT (hK53 _ _ ?_))
    obtain rfl := Option.some.inj h
    exact wp_ret (sRet (iv 0) S (rsl1 rfl (rvT (t := 2) (v := iv 0) S rfl)) ⟨(), rfl, S.mem.sel [] [] (by decide) rfl rfl⟩)
  refine sSeq (fun K11 hK11 => ?_)
  refine sRegion ?_
  refine sField (b := b2) (off := 0) 0 0 S (wN rfl) rfl rfl rfl rfl rfl (lb rfl) fun a S => ?_
  refine sLoad1 (p := b2) (off := 0) (T := 74) (vs := [.int .u8 p0.Kind, .bool p0.Purl, iv p0.A, iv p0.B]) 0 (.int .u8 p0.Kind) S (wN rfl) rfl rfl rfl rfl rfl rfl (lb rfl) fun a S => ?_
  refine leafL (leafT (hK11 _ _ ?_))
  refine wp_block ?_
  obtain ⟨t13, h, g14⟩ := bindSome h
  refine sCut (fun a w => ∃ o12, o12 = t13 ∧ St [] E [] w0 102 a w [(1, .pointer (some ⟨b2, 0, none⟩)), (3, .bool o3), (4, .bool false), (14, .int .u8 p0.Kind), (15, .bool o12)] [eBox b2 74 [.int .u8 p0.Kind, .bool p0.Purl, iv p0.A, iv p0.B]] []) ?_ (fun a w hI => ?_)
  · refine sSeq (fun K15 hK15 => ?_)
    refine sRegion ?_
    refine sBin (.bool (p0.Kind == 1)) S (wN rfl) rfl rfl rfl (bEq _ _ _ _ .u8 p0.Kind 1) rfl (lb rfl) fun a S => ?_
    refine sMove (.bool (p0.Kind == 1)) S (wN rfl) (.inr rfl) rfl rfl (lb rfl) fun a S => ?_
    refine leafL (leafT (hK15 _ _ ?_))
    rcases iteSome h with ⟨hc16, h⟩ | ⟨hc16, h⟩
    · refine sCondT S rfl hc16 ?_
      exact wp_skip (leafT (⟨p0.Kind == 1, Option.some.inj h, S.fix [0] [] (by decide) rfl rfl rfl⟩))
    refine sCondF S rfl hc16 ?_
    refine sRegion ?_
    refine sBin (.bool (p0.Kind == 8)) S (wN rfl) rfl rfl rfl (bEq _ _ _ _ .u8 p0.Kind 8) rfl (lb rfl) fun a S => ?_
    refine sMove (.bool (p0.Kind == 8)) S (wN rfl) (.inr rfl) rfl rfl (lb rfl) fun a S => ?_
    exact leafL (leafT (⟨p0.Kind == 8, Option.some.inj h, S.fix [0] [] (by decide) rfl rfl rfl⟩))
  obtain ⟨o12, rfl, S⟩ := hI
  have h := g14
  clear g14
  try dsimp only at h
  rcases iteSome h with ⟨hc17, h⟩ | ⟨hc17, h⟩
  · refine sCondT S rfl hc17 ?_
    refine sRegion ?_
    refine sMove (.bool o3) S (wN rfl) (.inl rfl) rfl rfl (lb rfl) fun a S => ?_
    refine sMove (.bool o3) S (wN rfl) (.inr rfl) rfl rfl (lb rfl) fun a S => ?_
    exact leafL (leafB (leafT (⟨o3, Option.some.inj h, S.fix [] [] (by decide) rfl rfl rfl⟩)))
  refine sCondF S rfl hc17 ?_
  refine sSeq (fun K18 hK18 => ?_)
  refine sRegion ?_
  refine sBin (.bool (p0.Kind == 2)) S (wN rfl) rfl rfl rfl (bEq _ _ _ _ .u8 p0.Kind 2) rfl (lb rfl) fun a S => ?_
  refine sMove (.bool (p0.Kind == 2)) S (wN rfl) (.inr rfl) rfl rfl (lb rfl) fun a S => ?_
  refine leafL (leafT (hK18 _ _ ?_))
  rcases iteSome h with ⟨hc19, h⟩ | ⟨hc19, h⟩
  · refine sCondT S rfl hc19 ?_
    refine sRegion ?_
    refine sMove (.bool o3) S (wN rfl) (.inl rfl) rfl rfl (lb rfl) fun a S => ?_
    refine sMove (.bool o3) S (wN rfl) (.inl rfl) rfl rfl (lb rfl) fun a S => ?_
    rcases iteSome h with ⟨hc20, h⟩ | ⟨hc20, h⟩
    rotate_left
    · refine sSkip 1 true 22 23 S rfl rfl rfl hc20 rfl (lb rfl) fun a S => ?_
      refine sSkip 1 true 22 24 S rfl rfl rfl hc20 rfl (lb rfl) fun a S => ?_
      refine sSkip 1 true 22 25 S rfl rfl rfl hc20 rfl (lb rfl) fun a S => ?_
      refine sPickF (.bool false) S (wN rfl) rfl rfl hc20 rfl rfl (lb rfl) fun a S => ?_
      refine sMove (.bool false) S (wN rfl) (.inr rfl) rfl rfl (lb rfl) fun a S => ?_
      exact leafL (leafB (leafT (⟨false, Option.some.inj h, S.fix [] [] (by decide) rfl rfl rfl⟩)))
    refine sField (b := b2) (off := 0) 1 1 S (wG 1 true 22 rfl rfl rfl hc20) rfl rfl rfl rfl rfl (lb rfl) fun a S => ?_
    refine sLoad1 (p := b2) (off := 1) (T := 74) (vs := [.int .u8 p0.Kind, .bool p0.Purl, iv p0.A, iv p0.B]) 0 (.bool p0.Purl) S (wG 1 true 22 rfl rfl rfl hc20) rfl rfl rfl rfl rfl rfl (lb rfl) fun a S => ?_
    refine sNot (b := p0.Purl) S (wG 1 true 22 rfl rfl rfl hc20) rfl rfl rfl (lb rfl) fun a S => ?_
    refine sPickT (.bool (!p0.Purl)) S (wN rfl) rfl rfl hc20 rfl rfl (lb rfl) fun a S => ?_
    refine sMove (.bool (!p0.Purl)) S (wN rfl) (.inr rfl) rfl rfl (lb rfl) fun a S => ?_
    exact leafL (leafB (leafT (⟨!p0.Purl, Option.some.inj h, S.fix [] [] (by decide) rfl rfl rfl⟩)))
  refine sCondF S rfl hc19 ?_
  obtain ⟨t22, h, g23⟩ := bindSome h
  refine sCut (fun a w => ∃ o21, o21 = t22 ∧ St [] E [] w0 102 a w [(1, .pointer (some ⟨b2, 0, none⟩)), (4, .bool false), (14, .int .u8 p0.Kind), (27, .bool o21)] [eBox b2 74 [.int .u8 p0.Kind, .bool p0.Purl, iv p0.A, iv p0.B]] []) ?_ (fun a w hI => ?_)
  · refine sSeq (fun K24 hK24 => ?_)
    refine sRegion ?_
    refine sBin (.bool (p0.Kind == 3)) S (wN rfl) rfl rfl rfl (bEq _ _ _ _ .u8 p0.Kind 3) rfl (lb rfl) fun a S => ?_
    refine sMove (.bool (p0.Kind == 3)) S (wN rfl) (.inr rfl) rfl rfl (lb rfl) fun a S => ?_
    refine leafL (leafT (hK24 _ _ ?_))
    rcases iteSome h with ⟨hc25, h⟩ | ⟨hc25, h⟩
    · refine sCondT S rfl hc25 ?_
      exact wp_skip (leafT (⟨p0.Kind == 3, Option.some.inj h, S.fix [0] [] (by decide) rfl rfl rfl⟩))
    refine sCondF S rfl hc25 ?_
    refine sSeq (fun K26 hK26 => ?_)
    refine sRegion ?_
    refine sBin (.bool (p0.Kind == 4)) S (wN rfl) rfl rfl rfl (bEq _ _ _ _ .u8 p0.Kind 4) rfl (lb rfl) fun a S => ?_
    refine sMove (.bool (p0.Kind == 4)) S (wN rfl) (.inr rfl) rfl rfl (lb rfl) fun a S => ?_
    refine leafL (leafT (hK26 _ _ ?_))
    rcases iteSome h with ⟨hc27, h⟩ | ⟨hc27, h⟩
    · refine sCondT S rfl hc27 ?_
      exact wp_skip (leafT (⟨p0.Kind == 4, Option.some.inj h, S.fix [0] [] (by decide) rfl rfl rfl⟩))
    refine sCondF S rfl hc27 ?_
    refine sRegion ?_
    refine sBin (.bool (p0.Kind == 5)) S (wN rfl) rfl rfl rfl (bEq _ _ _ _ .u8 p0.Kind 5) rfl (lb rfl) fun a S => ?_
    refine sMove (.bool (p0.Kind == 5)) S (wN rfl) (.inr rfl) rfl rfl (lb rfl) fun a S => ?_
    exact leafL (leafT (⟨p0.Kind == 5, Option.some.inj h, S.fix [0] [] (by decide) rfl rfl rfl⟩))
  obtain ⟨o21, rfl, S⟩ := hI
  have h := g23
  clear g23
  try dsimp only at h
  rcases iteSome h with ⟨hc28, h⟩ | ⟨hc28, h⟩
  · refine sCondT S rfl hc28 ?_
    refine sRegion ?_
    refine sField (b := b2) (off := 0) 3 3 S (wN rfl) rfl rfl rfl rfl rfl (lb rfl) fun a S => ?_
    refine sLoad1 (p := b2) (off := 3) (T := 74) (vs := [.int .u8 p0.Kind, .bool p0.Purl, iv p0.A, iv p0.B]) 0 (iv p0.B) S (wN rfl) rfl rfl rfl rfl rfl rfl (lb rfl) fun a S => ?_
    refine sBin (.bool (p0.B == 0)) S (wN rfl) rfl rfl rfl (bEq _ _ _ _ .i64 p0.B 0) rfl (lb rfl) fun a S => ?_
    refine sMove (.bool (p0.B == 0)) S (wN rfl) (.inl rfl) rfl rfl (lb rfl) fun a S => ?_
    rcases iteSome h with ⟨hc29, h⟩ | ⟨hc29, h⟩
    rotate_left
    · refine sSkip 3 true 34 35 S rfl rfl rfl hc29 rfl (lb rfl) fun a S => ?_
      refine sSkip 3 true 34 36 S rfl rfl rfl hc29 rfl (lb rfl) fun a S => ?_
      refine sSkip 3 true 34 37 S rfl rfl rfl hc29 rfl (lb rfl) fun a S => ?_
      refine sPickF (.bool false) S (wN rfl) rfl rfl hc29 rfl rfl (lb rfl) fun a S => ?_
      refine sMove (.bool false) S (wN rfl) (.inl rfl) rfl rfl (lb rfl) fun a S => ?_
      refine sSkip 8 true 39 40 S rfl rfl rfl rfl rfl (lb rfl) fun a S => ?_
      refine sSkip 8 true 39 41 S rfl rfl rfl rfl rfl (lb rfl) fun a S => ?_
      refine sSkip 8 true 39 42 S rfl rfl rfl rfl rfl (lb rfl) fun a S => ?_
      refine sPickF (.bool false) S (wN rfl) rfl rfl rfl rfl rfl (lb rfl) fun a S => ?_
      refine sMove (.bool false) S (wN rfl) (.inr rfl) rfl rfl (lb rfl) fun a S => ?_
      exact leafL (leafB (leafT (⟨false, Option.some.inj h, S.fix [] [] (by decide) rfl rfl rfl⟩)))
    refine sField (b := b2) (off := 0) 2 2 S (wG 3 true 34 rfl rfl rfl hc29) rfl rfl rfl rfl rfl (lb rfl) fun a S => ?_
    refine sLoad1 (p := b2) (off := 2) (T := 74) (vs := [.int .u8 p0.Kind, .bool p0.Purl, iv p0.A, iv p0.B]) 0 (iv p0.A) S (wG 3 true 34 rfl rfl rfl hc29) rfl rfl rfl rfl rfl rfl (lb rfl) fun a S => ?_
    refine sBin (.bool (decide (2 ≤ p0.A))) S (wG 3 true 34 rfl rfl rfl hc29) rfl rfl rfl (bGe _ _ _ _ .i64 p0.A 2) rfl (lb rfl) fun a S => ?_
    refine sPickT (.bool (decide (2 ≤ p0.A))) S (wN rfl) rfl rfl hc29 rfl rfl (lb rfl) fun a S => ?_
    refine sMove (.bool (decide (2 ≤ p0.A))) S (wN rfl) (.inl rfl) rfl rfl (lb rfl) fun a S => ?_
    rcases iteSome h with ⟨hc30, h⟩ | ⟨hc30, h⟩
    rotate_left
    · refine sSkip 8 true 39 40 S rfl rfl rfl hc30 rfl (lb rfl) fun a S => ?_
      refine sSkip 8 true 39 41 S rfl rfl rfl hc30 rfl (lb rfl) fun a S => ?_
      refine sSkip 8 true 39 42 S rfl rfl rfl hc30 rfl (lb rfl) fun a S => ?_
      refine sPickF (.bool false) S (wN rfl) rfl rfl hc30 rfl rfl (lb rfl) fun a S => ?_
      refine sMove (.bool false) S (wN rfl) (.inr rfl) rfl rfl (lb rfl) fun a S => ?_
      exact leafL (leafB (leafT (⟨false, Option.some.inj h, S.fix [] [] (by decide) rfl rfl rfl⟩)))
    refine sField (b := b2) (off := 0) 2 2 S (wG 8 true 39 rfl rfl rfl hc30) rfl rfl rfl rfl rfl (lb rfl) fun a S => ?_
    refine sLoad1 (p := b2) (off := 2) (T := 74) (vs := [.int .u8 p0.Kind, .bool p0.Purl, iv p0.A, iv p0.B]) 0 (iv p0.A) S (wG 8 true 39 rfl rfl rfl hc30) rfl rfl rfl rfl rfl rfl (lb rfl) fun a S => ?_
    refine sBin (.bool (decide (p0.A ≤ 4))) S (wG 8 true 39 rfl rfl rfl hc30) rfl rfl rfl (bLe _ _ _ _ .i64 p0.A 4) rfl (lb rfl) fun a S => ?_
    refine sPickT (.bool (decide (p0.A ≤ 4))) S (wN rfl) rfl rfl hc30 rfl rfl (lb rfl) fun a S => ?_
    refine sMove (.bool (decide (p0.A ≤ 4))) S (wN rfl) (.inr rfl) rfl rfl (lb rfl) fun a S => ?_
    exact leafL (leafB (leafT (⟨decide (p0.A ≤ 4), Option.some.inj h, S.fix [] [] (by decide) rfl rfl rfl⟩)))
  refine sCondF S rfl hc28 ?_
  obtain ⟨t32, h, g33⟩ := bindSome h
  refine sCut (fun a w => ∃ o31, o31 = t32 ∧ St [] E [] w0 102 a w [(1, .pointer (some ⟨b2, 0, none⟩)), (4, .bool false), (14, .int .u8 p0.Kind), (44, .bool o31)] [eBox b2 74 [.int .u8 p0.Kind, .bool p0.Purl, iv p0.A, iv p0.B]] []) ?_ (fun a w hI => ?_)
  · refine sSeq (fun K34 hK34 => ?_)
    refine sRegion ?_
    refine sBin (.bool (p0.Kind == 6)) S (wN rfl) rfl rfl rfl (bEq _ _ _ _ .u8 p0.Kind 6) rfl (lb rfl) fun a S => ?_
    refine sMove (.bool (p0.Kind == 6)) S (wN rfl) (.inr rfl) rfl rfl (lb rfl) fun a S => ?_
    refine leafL (leafT (hK34 _ _ ?_))
    rcases iteSome h with ⟨hc35, h⟩ | ⟨hc35, h⟩
    · refine sCondT S rfl hc35 ?_
      exact wp_skip (leafT (⟨p0.Kind == 6, Option.some.inj h, S.fix [0] [] (by decide) rfl rfl rfl⟩))
    refine sCondF S rfl hc35 ?_
    refine sRegion ?_
    refine sBin (.bool (p0.Kind == 7)) S (wN rfl) rfl rfl rfl (bEq _ _ _ _ .u8 p0.Kind 7) rfl (lb rfl) fun a S => ?_
    refine sMove (.bool (p0.Kind == 7)) S (wN rfl) (.inr rfl) rfl rfl (lb rfl) fun a S => ?_
    exact leafL (leafT (⟨p0.Kind == 7, Option.some.inj h, S.fix [0] [] (by decide) rfl rfl rfl⟩))
  obtain ⟨o31, rfl, S⟩ := hI
  have h := g33
  clear g33
  try dsimp only at h
  rcases iteSome h with ⟨hc36, h⟩ | ⟨hc36, h⟩
  · refine sCondT S rfl hc36 ?_
    refine sRegion ?_
    refine sField (b := b2) (off := 0) 2 2 S (wN rfl) rfl rfl rfl rfl rfl (lb rfl) fun a S => ?_
    refine sLoad1 (p := b2) (off := 2) (T := 74) (vs := [.int .u8 p0.Kind, .bool p0.Purl, iv p0.A, iv p0.B]) 0 (iv p0.A) S (wN rfl) rfl rfl rfl rfl rfl rfl (lb rfl) fun a S => ?_
    refine sBin (.bool (decide (1 ≤ p0.A))) S (wN rfl) rfl rfl rfl (bGe _ _ _ _ .i64 p0.A 1) rfl (lb rfl) fun a S => ?_
    refine sMove (.bool (decide (1 ≤ p0.A))) S (wN rfl) (.inl rfl) rfl rfl (lb rfl) fun a S => ?_
    rcases iteSome h with ⟨hc37, h⟩ | ⟨hc37, h⟩
    rotate_left
    · refine sSkip 3 true 50 51 S rfl rfl rfl hc37 rfl (lb rfl) fun a S => ?_
      refine sSkip 3 true 50 52 S rfl rfl rfl hc37 rfl (lb rfl) fun a S => ?_
      refine sSkip 3 true 50 53 S rfl rfl rfl hc37 rfl (lb rfl) fun a S => ?_
      refine sPickF (.bool false) S (wN rfl) rfl rfl hc37 rfl rfl (lb rfl) fun a S => ?_
      refine sMove (.bool false) S (wN rfl) (.inl rfl) rfl rfl (lb rfl) fun a S => ?_
      refine sSkip 8 true 55 56 S rfl rfl rfl rfl rfl (lb rfl) fun a S => ?_
      refine sSkip 8 true 55 57 S rfl rfl rfl rfl rfl (lb rfl) fun a S => ?_
      refine sSkip 8 true 55 58 S rfl rfl rfl rfl rfl (lb rfl) fun a S => ?_
      refine sPickF (.bool false) S (wN rfl) rfl rfl rfl rfl rfl (lb rfl) fun a S => ?_
      refine sMove (.bool false) S (wN rfl) (.inl rfl) rfl rfl (lb rfl) fun a S => ?_
      refine sSkip 13 true 60 61 S rfl rfl rfl rfl rfl (lb rfl) fun a S => ?_
      refine sSkip 13 true 60 62 S rfl rfl rfl rfl rfl (lb rfl) fun a S => ?_
      refine sSkip 13 true 60 63 S rfl rfl rfl rfl rfl (lb rfl) fun a S => ?_
      refine sPickF (.bool false) S (wN rfl) rfl rfl rfl rfl rfl (lb rfl) fun a S => ?_
      refine sMove (.bool false) S (wN rfl) (.inr rfl) rfl rfl (lb rfl) fun a S => ?_
      exact leafL (leafB (leafT (⟨false, Option.some.inj h, S.fix [] [] (by decide) rfl rfl rfl⟩)))
    refine sField (b := b2) (off := 0) 2 2 S (wG 3 true 50 rfl rfl rfl hc37) rfl rfl rfl rfl rfl (lb rfl) fun a S => ?_
    refine sLoad1 (p := b2) (off := 2) (T := 74) (vs := [.int .u8 p0.Kind, .bool p0.Purl, iv p0.A, iv p0.B]) 0 (iv p0.A) S (wG 3 true 50 rfl rfl rfl hc37) rfl rfl rfl rfl rfl rfl (lb rfl) fun a S => ?_
    refine sBin (.bool (decide (p0.A ≤ 6))) S (wG 3 true 50 rfl rfl rfl hc37) rfl rfl rfl (bLe _ _ _ _ .i64 p0.A 6) rfl (lb rfl) fun a S => ?_
    refine sPickT (.bool (decide (p0.A ≤ 6))) S (wN rfl) rfl rfl hc37 rfl rfl (lb rfl) fun a S => ?_
    refine sMove (.bool (decide (p0.A ≤ 6))) S (wN rfl) (.inl rfl) rfl rfl (lb rfl) fun a S => ?_
    rcases iteSome h with ⟨hc38, h⟩ | ⟨hc38, h⟩
    rotate_left
    · refine sSkip 8 true 55 56 S rfl rfl rfl hc38 rfl (lb rfl) fun a S => ?_
      refine sSkip 8 true 55 57 S rfl rfl rfl hc38 rfl (lb rfl) fun a S => ?_
      refine sSkip 8 true 55 58 S rfl rfl rfl hc38 rfl (lb rfl) fun a S => ?_
      refine sPickF (.bool false) S (wN rfl) rfl rfl hc38 rfl rfl (lb rfl) fun a S => ?_
      refine sMove (.bool false) S (wN rfl) (.inl rfl) rfl rfl (lb rfl) fun a S => ?_
      refine sSkip 13 true 60 61 S rfl rfl rfl rfl rfl (lb rfl) fun a S => ?_
      refine sSkip 13 true 60 62 S rfl rfl rfl rfl rfl (lb rfl) fun a S => ?_
      refine sSkip 13 true 60 63 S rfl rfl rfl rfl rfl (lb rfl) fun a S => ?_
      refine sPickF (.bool false) S (wN rfl) rfl rfl rfl rfl rfl (lb rfl) fun a S => ?_
      refine sMove (.bool false) S (wN rfl) (.inr rfl) rfl rfl (lb rfl) fun a S => ?_
      exact leafL (leafB (leafT (⟨false, Option.some.inj h, S.fix [] [] (by decide) rfl rfl rfl⟩)))
    refine sField (b := b2) (off := 0) 3 3 S (wG 8 true 55 rfl rfl rfl hc38) rfl rfl rfl rfl rfl (lb rfl) fun a S => ?_
    refine sLoad1 (p := b2) (off := 3) (T := 74) (vs := [.int .u8 p0.Kind, .bool p0.Purl, iv p0.A, iv p0.B]) 0 (iv p0.B) S (wG 8 true 55 rfl rfl rfl hc38) rfl rfl rfl rfl rfl rfl (lb rfl) fun a S => ?_
    refine sBin (.bool (decide (1 ≤ p0.B))) S (wG 8 true 55 rfl rfl rfl hc38) rfl rfl rfl (bGe _ _ _ _ .i64 p0.B 1) rfl (lb rfl) fun a S => ?_
    refine sPickT (.bool (decide (1 ≤ p0.B))) S (wN rfl) rfl rfl hc38 rfl rfl (lb rfl) fun a S => ?_
    refine sMove (.bool (decide (1 ≤ p0.B))) S (wN rfl) (.inl rfl) rfl rfl (lb rfl) fun a S => ?_
    rcases iteSome h with ⟨hc39, h⟩ | ⟨hc39, h⟩
    rotate_left
    · refine sSkip 13 true 60 61 S rfl rfl rfl hc39 rfl (lb rfl) fun a S => ?_
      refine sSkip 13 true 60 62 S rfl rfl rfl hc39 rfl (lb rfl) fun a S => ?_
      refine sSkip 13 true 60 63 S rfl rfl rfl hc39 rfl (lb rfl) fun a S => ?_
      refine sPickF (.bool false) S (wN rfl) rfl rfl hc39 rfl rfl (lb rfl) fun a S => ?_
      refine sMove (.bool false) S (wN rfl) (.inr rfl) rfl rfl (lb rfl) fun a S => ?_
      exact leafL (leafB (leafT (⟨false, Option.some.inj h, S.fix [] [] (by decide) rfl rfl rfl⟩)))
    refine sField (b := b2) (off := 0) 3 3 S (wG 13 true 60 rfl rfl rfl hc39) rfl rfl rfl rfl rfl (lb rfl) fun a S => ?_
    refine sLoad1 (p := b2) (off := 3) (T := 74) (vs := [.int .u8 p0.Kind, .bool p0.Purl, iv p0.A, iv p0.B]) 0 (iv p0.B) S (wG 13 true 60 rfl rfl rfl hc39) rfl rfl rfl rfl rfl rfl (lb rfl) fun a S => ?_
    refine sBin (.bool (decide (p0.B ≤ 6))) S (wG 13 true 60 rfl rfl rfl hc39) rfl rfl rfl (bLe _ _ _ _ .i64 p0.B 6) rfl (lb rfl) fun a S => ?_
    refine sPickT (.bool (decide (p0.B ≤ 6))) S (wN rfl) rfl rfl hc39 rfl rfl (lb rfl) fun a S => ?_
    refine sMove (.bool (decide (p0.B ≤ 6))) S (wN rfl) (.inr rfl) rfl rfl (lb rfl) fun a S => ?_
    exact leafL (leafB (leafT (⟨decide (p0.B ≤ 6), Option.some.inj h, S.fix [] [] (by decide) rfl rfl rfl⟩)))
  refine sCondF S rfl hc36 ?_
  refine sSeq (fun K40 hK40 => ?_)
  refine sRegion ?_
  refine sBin (.bool (p0.Kind == 9)) S (wN rfl) rfl rfl rfl (bEq _ _ _ _ .u8 p0.Kind 9) rfl (lb rfl) fun a S => ?_
  refine sMove (.bool (p0.Kind == 9)) S (wN rfl) (.inr rfl) rfl rfl (lb rfl) fun a S => ?_
  refine leafL (leafT (hK40 _ _ ?_))
  rcases iteSome h with ⟨hc41, h⟩ | ⟨hc41, h⟩
  rotate_left
  · refine sCondF S rfl hc41 ?_
    refine sSeq (fun K45 hK45 => ?_)
    refine sRegion ?_
    refine sBin (.bool (p0.Kind == 10)) S (wN rfl) rfl rfl rfl (bEq _ _ _ _ .u8 p0.Kind 10) rfl (lb rfl) fun a S => ?_
    refine sMove (.bool (p0.Kind == 10)) S (wN rfl) (.inr rfl) rfl rfl (lb rfl) fun a S => ?_
    refine leafL (leafT (hK45 _ _ ?_))
    rcases iteSome h with ⟨hc46, h⟩ | ⟨hc46, h⟩
    rotate_left
    · refine sCondF S rfl hc46 ?_
      exact wp_skip (leafB (leafT (⟨false, Option.some.inj h, S.fix [] [] (by decide) rfl rfl rfl⟩)))
    refine sCondT S rfl hc46 ?_
    refine sRegion ?_
    refine sField (b := b2) (off := 0) 3 3 S (wN rfl) rfl rfl rfl rfl rfl (lb rfl) fun a S => ?_
    refine sLoad1 (p := b2) (off := 3) (T := 74) (vs := [.int .u8 p0.Kind, .bool p0.Purl, iv p0.A, iv p0.B]) 0 (iv p0.B) S (wN rfl) rfl rfl rfl rfl rfl rfl (lb rfl) fun a S => ?_
    refine sBin (.bool (p0.B == 0)) S (wN rfl) rfl rfl rfl (bEq _ _ _ _ .i64 p0.B 0) rfl (lb rfl) fun a S => ?_
    refine sMove (.bool (p0.B == 0)) S (wN rfl) (.inl rfl) rfl rfl (lb rfl) fun a S => ?_
    rcases iteSome h with ⟨hc47, h⟩ | ⟨hc47, h⟩
    rotate_left
    · refine sSkip 3 true 90 91 S rfl rfl rfl hc47 rfl (lb rfl) fun a S => ?_
      refine sSkip 3 true 90 92 S rfl rfl rfl hc47 rfl (lb rfl) fun a S => ?_
      refine sSkip 3 true 90 93 S rfl rfl rfl hc47 rfl (lb rfl) fun a S => ?_
      refine sPickF (.bool false) S (wN rfl) rfl rfl hc47 rfl rfl (lb rfl) fun a S => ?_
      refine sMove (.bool false) S (wN rfl) (.inl rfl) rfl rfl (lb rfl) fun a S => ?_
      refine sSkip 8 true 95 96 S rfl rfl rfl rfl rfl (lb rfl) fun a S => ?_
      refine sSkip 8 true 95 97 S rfl rfl rfl rfl rfl (lb rfl) fun a S => ?_
      refine sSkip 8 true 95 98 S rfl rfl rfl rfl rfl (lb rfl) fun a S => ?_
      refine sPickF (.bool false) S (wN rfl) rfl rfl rfl rfl rfl (lb rfl) fun a S => ?_
      refine sMove (.bool false) S (wN rfl) (.inr rfl) rfl rfl (lb rfl) fun a S => ?_
      exact leafL (leafB (leafT (⟨false, Option.some.inj h, S.fix [] [] (by decide) rfl rfl rfl⟩)))
    refine sField (b := b2) (off := 0) 2 2 S (wG 3 true 90 rfl rfl rfl hc47) rfl rfl rfl rfl rfl (lb rfl) fun a S => ?_
    refine sLoad1 (p := b2) (off := 2) (T := 74) (vs := [.int .u8 p0.Kind, .bool p0.Purl, iv p0.A, iv p0.B]) 0 (iv p0.A) S (wG 3 true 90 rfl rfl rfl hc47) rfl rfl rfl rfl rfl rfl (lb rfl) fun a S => ?_
    refine sBin (.bool (decide (1 ≤ p0.A))) S (wG 3 true 90 rfl rfl rfl hc47) rfl rfl rfl (bGe _ _ _ _ .i64 p0.A 1) rfl (lb rfl) fun a S => ?_
    refine sPickT (.bool (decide (1 ≤ p0.A))) S (wN rfl) rfl rfl hc47 rfl rfl (lb rfl) fun a S => ?_
    refine sMove (.bool (decide (1 ≤ p0.A))) S (wN rfl) (.inl rfl) rfl rfl (lb rfl) fun a S => ?_
    rcases iteSome h with ⟨hc48, h⟩ | ⟨hc48, h⟩
    rotate_left
    · refine sSkip 8 true 95 96 S rfl rfl rfl hc48 rfl (lb rfl) fun a S => ?_
      refine sSkip 8 true 95 97 S rfl rfl rfl hc48 rfl (lb rfl) fun a S => ?_
      refine sSkip 8 true 95 98 S rfl rfl rfl hc48 rfl (lb rfl) fun a S => ?_
      refine sPickF (.bool false) S (wN rfl) rfl rfl hc48 rfl rfl (lb rfl) fun a S => ?_
      refine sMove (.bool false) S (wN rfl) (.inr rfl) rfl rfl (lb rfl) fun a S => ?_
      exact leafL (leafB (leafT (⟨false, Option.some.inj h, S.fix [] [] (by decide) rfl rfl rfl⟩)))
    refine sField (b := b2) (off := 0) 2 2 S (wG 8 true 95 rfl rfl rfl hc48) rfl rfl rfl rfl rfl (lb rfl) fun a S => ?_
    refine sLoad1 (p := b2) (off := 2) (T := 74) (vs := [.int .u8 p0.Kind, .bool p0.Purl, iv p0.A, iv p0.B]) 0 (iv p0.A) S (wG 8 true 95 rfl rfl rfl hc48) rfl rfl rfl rfl rfl rfl (lb rfl) fun a S => ?_
    refine sBin (.bool (decide (p0.A ≤ 200))) S (wG 8 true 95 rfl rfl rfl hc48) rfl rfl rfl (bLe _ _ _ _ .i64 p0.A 200) rfl (lb rfl) fun a S => ?_
    refine sPickT (.bool (decide (p0.A ≤ 200))) S (wN rfl) rfl rfl hc48 rfl rfl (lb rfl) fun a S => ?_
    refine sMove (.bool (decide (p0.A ≤ 200))) S (wN rfl) (.inr rfl) rfl rfl (lb rfl) fun a S => ?_
    exact leafL (leafB (leafT (⟨decide (p0.A ≤ 200), Option.some.inj h, S.fix [] [] (by decide) rfl rfl rfl⟩)))
  refine sCondT S rfl hc41 ?_
  refine sRegion ?_
  refine sField (b := b2) (off := 0) 3 3 S (wN rfl) rfl rfl rfl rfl rfl (lb rfl) fun a S => ?_
  refine sLoad1 (p := b2) (off := 3) (T := 74) (vs := [.int .u8 p0.Kind, .bool p0.Purl, iv p0.A, iv p0.B]) 0 (iv p0.B) S (wN rfl) rfl rfl rfl rfl rfl rfl (lb rfl) fun a S => ?_
  refine sBin (.bool (p0.B == 0)) S (wN rfl) rfl rfl rfl (bEq _ _ _ _ .i64 p0.B 0) rfl (lb rfl) fun a S => ?_
  refine sMove (.bool (p0.B == 0)) S (wN rfl) (.inl rfl) rfl rfl (lb rfl) fun a S => ?_
  rcases iteSome h with ⟨hc42, h⟩ | ⟨hc42, h⟩
  rotate_left
  · refine sSkip 3 true 70 71 S rfl rfl rfl hc42 rfl (lb rfl) fun a S => ?_
    refine sSkip 3 true 70 72 S rfl rfl rfl hc42 rfl (lb rfl) fun a S => ?_
    refine sSkip 3 true 70 73 S rfl rfl rfl hc42 rfl (lb rfl) fun a S => ?_
    refine sPickF (.bool false) S (wN rfl) rfl rfl hc42 rfl rfl (lb rfl) fun a S => ?_
    refine sMove (.bool false) S (wN rfl) (.inl rfl) rfl rfl (lb rfl) fun a S => ?_
    refine sSkip 8 true 75 76 S rfl rfl rfl rfl rfl (lb rfl) fun a S => ?_
    refine sSkip 8 true 75 77 S rfl rfl rfl rfl rfl (lb rfl) fun a S => ?_
    refine sSkip 8 true 75 78 S rfl rfl rfl rfl rfl (lb rfl) fun a S => ?_
    refine sPickF (.bool false) S (wN rfl) rfl rfl rfl rfl rfl (lb rfl) fun a S => ?_
    refine sMove (.bool false) S (wN rfl) (.inl rfl) rfl rfl (lb rfl) fun a S => ?_
    refine sSkip 13 true 80 81 S rfl rfl rfl rfl rfl (lb rfl) fun a S => ?_
    refine sSkip 13 true 80 82 S rfl rfl rfl rfl rfl (lb rfl) fun a S => ?_
    refine sSkip 13 true 80 83 S rfl rfl rfl rfl rfl (lb rfl) fun a S => ?_
    refine sPickF (.bool false) S (wN rfl) rfl rfl rfl rfl rfl (lb rfl) fun a S => ?_
    refine sMove (.bool false) S (wN rfl) (.inr rfl) rfl rfl (lb rfl) fun a S => ?_
    exact leafL (leafB (leafT (⟨false, Option.some.inj h, S.fix [] [] (by decide) rfl rfl rfl⟩)))
  refine sField (b := b2) (off := 0) 1 1 S (wG 3 true 70 rfl rfl rfl hc42) rfl rfl rfl rfl rfl (lb rfl) fun a S => ?_
  refine sLoad1 (p := b2) (off := 1) (T := 74) (vs := [.int .u8 p0.Kind, .bool p0.Purl, iv p0.A, iv p0.B]) 0 (.bool p0.Purl) S (wG 3 true 70 rfl rfl rfl hc42) rfl rfl rfl rfl rfl rfl (lb rfl) fun a S => ?_
  refine sNot (b := p0.Purl) S (wG 3 true 70 rfl rfl rfl hc42) rfl rfl rfl (lb rfl) fun a S => ?_
  refine sPickT (.bool (!p0.Purl)) S (wN rfl) rfl rfl hc42 rfl rfl (lb rfl) fun a S => ?_
  refine sMove (.bool (!p0.Purl)) S (wN rfl) (.inl rfl) rfl rfl (lb rfl) fun a S => ?_
  rcases iteSome h with ⟨hc43, h⟩ | ⟨hc43, h⟩
  rotate_left
  · refine sSkip 8 true 75 76 S rfl rfl rfl hc43 rfl (lb rfl) fun a S => ?_
    refine sSkip 8 true 75 77 S rfl rfl rfl hc43 rfl (lb rfl) fun a S => ?_
    refine sSkip 8 true 75 78 S rfl rfl rfl hc43 rfl (lb rfl) fun a S => ?_
    refine sPickF (.bool false) S (wN rfl) rfl rfl hc43 rfl rfl (lb rfl) fun a S => ?_
    refine sMove (.bool false) S (wN rfl) (.inl rfl) rfl rfl (lb rfl) fun a S => ?_
    refine sSkip 13 true 80 81 S rfl rfl rfl rfl rfl (lb rfl) fun a S => ?_
    refine sSkip 13 true 80 82 S rfl rfl rfl rfl rfl (lb rfl) fun a S => ?_
    refine sSkip 13 true 80 83 S rfl rfl rfl rfl rfl (lb rfl) fun a S => ?_
    refine sPickF (.bool false) S (wN rfl) rfl rfl rfl rfl rfl (lb rfl) fun a S => ?_
    refine sMove (.bool false) S (wN rfl) (.inr rfl) rfl rfl (lb rfl) fun a S => ?_
    exact leafL (leafB (leafT (⟨false, Option.some.inj h, S.fix [] [] (by decide) rfl rfl rfl⟩)))
  refine sField (b := b2) (off := 0) 2 2 S (wG 8 true 75 rfl rfl rfl hc43) rfl rfl rfl rfl rfl (lb rfl) fun a S => ?_
  refine sLoad1 (p := b2) (off := 2) (T := 74) (vs := [.int .u8 p0.Kind, .bool p0.Purl, iv p0.A, iv p0.B]) 0 (iv p0.A) S (wG 8 true 75 rfl rfl rfl hc43) rfl rfl rfl rfl rfl rfl (lb rfl) fun a S => ?_
  refine sBin (.bool (decide (1 ≤ p0.A))) S (wG 8 true 75 rfl rfl rfl hc43) rfl rfl rfl (bGe _ _ _ _ .i64 p0.A 1) rfl (lb rfl) fun a S => ?_
  refine sPickT (.bool (decide (1 ≤ p0.A))) S (wN rfl) rfl rfl hc43 rfl rfl (lb rfl) fun a S => ?_
  refine sMove (.bool (decide (1 ≤ p0.A))) S (wN rfl) (.inl rfl) rfl rfl (lb rfl) fun a S => ?_
  rcases iteSome h with ⟨hc44, h⟩ | ⟨hc44, h⟩
  rotate_left
  · refine sSkip 13 true 80 81 S rfl rfl rfl hc44 rfl (lb rfl) fun a S => ?_
    refine sSkip 13 true 80 82 S rfl rfl rfl hc44 rfl (lb rfl) fun a S => ?_
    refine sSkip 13 true 80 83 S rfl rfl rfl hc44 rfl (lb rfl) fun a S => ?_
    refine sPickF (.bool false) S (wN rfl) rfl rfl hc44 rfl rfl (lb rfl) fun a S => ?_
    refine sMove (.bool false) S (wN rfl) (.inr rfl) rfl rfl (lb rfl) fun a S => ?_
    exact leafL (leafB (leafT (⟨false, Option.some.inj h, S.fix [] [] (by decide) rfl rfl rfl⟩)))
  refine sField (b := b2) (off := 0) 2 2 S (wG 13 true 80 rfl rfl rfl hc44) rfl rfl rfl rfl rfl (lb rfl) fun a S => ?_
  refine sLoad1 (p := b2) (off := 2) (T := 74) (vs := [.int .u8 p0.Kind, .bool p0.Purl, iv p0.A, iv p0.B]) 0 (iv p0.A) S (wG 13 true 80 rfl rfl rfl hc44) rfl rfl rfl rfl rfl rfl (lb rfl) fun a S => ?_
  refine sBin (.bool (decide (p0.A ≤ 200))) S (wG 13 true 80 rfl rfl rfl hc44) rfl rfl rfl (bLe _ _ _ _ .i64 p0.A 200) rfl (lb rfl) fun a S => ?_
  refine sPickT (.bool (decide (p0.A ≤ 200))) S (wN rfl) rfl rfl hc44 rfl rfl (lb rfl) fun a S => ?_
  refine sMove (.bool (decide (p0.A ≤ 200))) S (wN rfl) (.inr rfl) rfl rfl (lb rfl) fun a S => ?_
  exact leafL (leafB (leafT (⟨decide (p0.A ≤ 200), Option.some.inj h, S.fix [] [] (by decide) rfl rfl rfl⟩)))

end Go.Proofs.Ytdbgkakmhlmpbaa
namespace Go.Proofs.Ytdbgkakmhlmpbaa
open Go.RowKit
set_option linter.unusedVariables false

noncomputable def raddleref25_All_l1 (p0 : (List api_Stitch)) : Int → Option (Int ⊕ (Int ⊕ Unit)) := fun s0 => match s0 with
  | s11 =>
    if decide (s11 < (p0.length : Int)) then
      Option.bind (idxO p0 s11) fun x20 =>
      Option.bind (F_raddleref25_Check x20) fun r25 =>
      if r25 != 0 then
        some (.inr (.inl 8))
      else
        some (.inl (w64 (s11 + 1)))
    else
      some (.inr (.inr ()))
noncomputable def F_raddleref25_All (p0 : (List api_Stitch)) : Option Int :=
  if decide (200 < (p0.length : Int)) then
    some 4
  else
    Option.bind (α := Unit ⊕ Int) (
      Option.bind (whileO (raddleref25_All_l1 p0) 0) fun z0 => match z0 with
        | .inl z =>
          some (.inr z)
        | .inr _ =>
          some (.inl ())) fun z0 => match z0 with
      | .inl _ =>
        Option.bind (F_raddleref25_sums p0) fun r30 =>
        Option.bind (α := Bool) (
          if decide (200 < r30.1) then
            some true
          else
            some (decide (200 < r30.2))) fun o33 =>
        if o33 then
          some 4
        else
          some 0
      | .inr z =>
        some z
set_option maxHeartbeats 4000000 in
set_option maxRecDepth 100000 in
theorem c_raddleref25_All (E : Nat → Prop) (w0 : World) (p0 : (List api_Stitch)) (v0 : Value) (r : Int) (h : F_raddleref25_All p0 = some r) (S : St0 E [] w0 w0 [] [fRep (rL r_api_Stitch) (v0) p0]) :
    Calls Try.prog 66 #[v0] w0 (Ret (X := Unit) E [] w0 (fun _ => .int .i64 r) (fun _ => []) (fun _ => [])) := by
  unfold F_raddleref25_All at h
  obtain ⟨ad1, cp2, _, rfl, _⟩ := S.know (i := 0) (e := fRep (rL r_api_Stitch) (v0) p0) rfl
  refine sEnter (args := [.slice ad1 p0.length cp2]) 32 Try.func66 rfl rfl (by simp) S (fun a S => ?_)
  refine sSeq (fun K3 hK3 => ?_)
  refine sRegion ?_
  refine sMove (iv 0) S (wN rfl) (.inr rfl) rfl rfl (lb rfl) fun a S => ?_
  refine leafL (leafT (hK3 _ _ ?_))
  refine sSeq (fun K4 hK4 => ?_)
  refine sSeq (fun K5 hK5 => ?_)
  refine sRegion ?_
  refine sMove (.slice ad1 p0.length cp2) S (wN rfl) (.inl rfl) rfl rfl (lb rfl) fun a S => ?_
  refine sLen (ad := ad1) (m := p0.length) (c := cp2) S (wN rfl) rfl Try.underlying70 rfl rfl (lb rfl) fun a S => ?_
  refine sBin (.bool (decide (200 < (p0.length : Int)))) S (wN rfl) rfl rfl rfl (bGt _ _ _ _ .i64 (p0.length : Int) 200) rfl (lb rfl) fun a S => ?_
  refine leafL (leafT (hK5 _ _ ?_))
  rcases iteSome h with ⟨hc6, h⟩ | ⟨hc6, h⟩
  · refine sCondT S rfl hc6 ?_
    refine sSeq (fun K7 hK7 => ?_)
    refine sRegion ?_
    refine sMove (iv 4) S (wN rfl) (.inr rfl) rfl rfl (lb rfl) fun a S => ?_
    refine leafL (leafT (hK7 _ _ ?_))
    obtain rfl := Option.some.inj h
    exact wp_ret (rThen (sRet (iv 4) S (rsl1 rfl (rvT (t := 2) (v := iv 4) S rfl)) ⟨(), rfl, S.mem.sel [] [] (by decide) rfl rfl⟩))
  refine sCondF S rfl hc6 ?_
  refine wp_skip (leafT (hK4 _ _ ?_))
  obtain ⟨t8, h, g9⟩ := bindSome h
  refine sCut (fun a w => .inl () = t8 ∧ St [] E [] w0 32 a w [(0, .slice ad1 p0.length cp2)] [] [fRep (rL r_api_Stitch) (.slice ad1 p0.length cp2) p0]) ?_ (fun a w hI => ?_)
  rotate_left
  · obtain ⟨rfl, S⟩ := hI
    have h := g9
    clear g9
    try dsimp only at h
    refine sSeq (fun K29 hK29 => ?_)
    refine sRegion ?_
    refine sMove (.slice ad1 p0.length cp2) S (wN rfl) (.inl rfl) rfl rfl (lb rfl) fun a S => ?_
    obtain ⟨r30, hx31, h⟩ := bindSome h
    have S1 := S.mem
    refine sCallQ (X := Unit) (f := 70) (vs := [.slice ad1 p0.length cp2]) (val := fun _ => .tuple #[iv r30.1, iv r30.2]) S (wN rfl) rfl callee70 rfl (S1.quiet [0] rfl) (fun E1 w1 S1 => c_raddleref25_sums E1 w1 p0 (.slice ad1 p0.length cp2) r30 hx31 S1) rfl (lb rfl) fun _ a w S => ?_
    refine sMove (.tuple #[iv r30.1, iv r30.2]) S (wN rfl) (.inl rfl) rfl rfl (lb rfl) fun a S => ?_
    refine sExtract (vs := [iv r30.1, iv r30.2]) (iv r30.1) S (wN rfl) rfl rfl rfl rfl (lb rfl) fun a S => ?_
    refine sExtract (vs := [iv r30.1, iv r30.2]) (iv r30.2) S (wN rfl) rfl rfl rfl rfl (lb rfl) fun a S => ?_
    refine sMove (iv r30.1) S (wN rfl) (.inr rfl) rfl rfl (lb rfl) fun a S => ?_
    refine sMove (iv r30.2) S (wN rfl) (.inr rfl) rfl rfl (lb rfl) fun a S => ?_
    refine leafL (leafT (hK29 _ _ ?_))
    refine sSeq (fun K32 hK32 => ?_)
    obtain ⟨t34, h, g35⟩ := bindSome h
    refine sCut (fun a w => ∃ o33, o33 = t34 ∧ St [] E [] w0 32 a w [(31, .bool o33)] [] []) ?_ (fun a w hI => ?_)
    rotate_left
    · obtain ⟨o33, rfl, S⟩ := hI
      have h := g35
      clear g35
      try dsimp only at h
      rcases iteSome h with ⟨hc37, h⟩ | ⟨hc37, h⟩
      · refine sCondT S rfl hc37 ?_
        refine sSeq (fun K38 hK38 => ?_)
        refine sRegion ?_
        refine sMove (iv 4) S (wN rfl) (.inr rfl) rfl rfl (lb rfl) fun a S => ?_
        refine leafL (leafT (hK38 _ _ ?_))
        obtain rfl := Option.some.inj h
        exact wp_ret (rThen (sRet (iv 4) S (rsl1 rfl (rvT (t := 2) (v := iv 4) S rfl)) ⟨(), rfl, S.mem.sel [] [] (by decide) rfl rfl⟩))
      refine sCondF S rfl hc37 ?_
      refine wp_skip (leafT (hK32 _ _ ?_))
      refine sSeq (fun K39 hK39 => ?_)
      refine sRegion ?_
      refine sMove (iv 0) S (wN rfl) (.inr rfl) rfl rfl (lb rfl) fun a S => ?_
      refine leafL (leafT (hK39 _ _ ?_))
      obtain rfl := Option.some.inj h
      exact wp_ret (sRet (iv 0) S (rsl1 rfl (rvT (t := 2) (v := iv 0) S rfl)) ⟨(), rfl, S.mem.sel [] [] (by decide) rfl rfl⟩)
    refine sRegion ?_
    refine sMove (iv r30.1) S (wN rfl) (.inl rfl) rfl rfl (lb rfl) fun a S => ?_
    refine sBin (.bool (decide (200 < r30.1))) S (wN rfl) rfl rfl rfl (bGt _ _ _ _ .i64 r30.1 200) rfl (lb rfl) fun a S => ?_
    refine sMove (.bool (decide (200 < r30.1))) S (wN rfl) (.inl rfl) rfl rfl (lb rfl) fun a S => ?_
    rcases iteSome h with ⟨hc36, h⟩ | ⟨hc36, h⟩
    · refine sSkip 2 false 28 29 S rfl rfl rfl hc36 rfl (lb rfl) fun a S => ?_
      refine sSkip 2 false 28 30 S rfl rfl rfl hc36 rfl (lb rfl) fun a S => ?_
      refine sPickT (.bool true) S (wN rfl) rfl rfl hc36 rfl rfl (lb rfl) fun a S => ?_
      exact leafL (leafT (⟨true, Option.some.inj h, S.fix [] [] (by decide) rfl rfl rfl⟩))
    refine sMove (iv r30.2) S (wG 2 false 28 rfl rfl rfl hc36) (.inl rfl) rfl rfl (lb rfl) fun a S => ?_
    refine sBin (.bool (decide (200 < r30.2))) S (wG 2 false 28 rfl rfl rfl hc36) rfl rfl rfl (bGt _ _ _ _ .i64 r30.2 200) rfl (lb rfl) fun a S => ?_
    refine sPickF (.bool (decide (200 < r30.2))) S (wN rfl) rfl rfl hc36 rfl rfl (lb rfl) fun a S => ?_
    exact leafL (leafT (⟨decide (200 < r30.2), Option.some.inj h, S.fix [] [] (by decide) rfl rfl rfl⟩))
  refine sSeq (fun K10 hK10 => ?_)
  refine sRegion ?_
  refine sMove (iv 0) S (wN rfl) (.inr rfl) rfl rfl (lb rfl) fun a S => ?_
  refine leafL (leafT (hK10 _ _ ?_))
  refine wp_block ?_
  obtain ⟨t14, hl, g13⟩ := bindSome h
  refine sLoop hl (fun s0 a w => match s0 with | s11 => St [] E [] w0 32 a w [(0, .slice ad1 p0.length cp2), (3, iv s11)] [] [fRep (rL r_api_Stitch) (.slice ad1 p0.length cp2) p0]) (S.fix [] [0] (by decide) rfl rfl rfl) ?_
  clear hl h
  intro s11 a w c0 hI h hu12
  unfold raddleref25_All_l1 at h
  dsimp only at h hI
  have S := hI
  refine sSeq (fun K15 hK15 => ?_)
  refine sSeq (fun K16 hK16 => ?_)
  refine sRegion ?_
  refine sMove (iv s11) S (wN rfl) (.inl rfl) rfl rfl (lb rfl) fun a S => ?_
  refine sMove (.slice ad1 p0.length cp2) S (wN rfl) (.inl rfl) rfl rfl (lb rfl) fun a S => ?_
  refine sLen (ad := ad1) (m := p0.length) (c := cp2) S (wN rfl) rfl Try.underlying70 rfl rfl (lb rfl) fun a S => ?_
  refine sBin (.bool (decide (s11 < (p0.length : Int)))) S (wN rfl) rfl rfl rfl (bLt _ _ _ _ .i64 s11 (p0.length : Int)) rfl (lb rfl) fun a S => ?_
  refine leafL (leafT (hK16 _ _ ?_))
  rcases iteSome h with ⟨hc17, h⟩ | ⟨hc17, h⟩
  rotate_left
  · refine sCondF S rfl hc17 ?_
    obtain rfl := Option.some.inj h
    obtain rfl := hu12 _ rfl
    have h := g13
    clear g13
    try dsimp only at h
    exact wp_exit (xThen (xThen (xHit (leafT (⟨Option.some.inj h, S.fix [] [0] (by decide) rfl rfl rfl⟩)))))
  refine sCondT S rfl hc17 ?_
  refine wp_skip (leafT (hK15 _ _ ?_))
  refine sSeq (fun K18 hK18 => ?_)
  refine wp_block ?_
  refine sSeq (fun K19 hK19 => ?_)
  refine sRegion ?_
  refine sMove (.slice ad1 p0.length cp2) S (wN rfl) (.inl rfl) rfl rfl (lb rfl) fun a S => ?_
  refine sMove (iv s11) S (wN rfl) (.inl rfl) rfl rfl (lb rfl) fun a S => ?_
  obtain ⟨x20, hx21, h⟩ := bindSome h
  obtain ⟨q22, hq23, S⟩ := pIdx (P := Try.prog) (r := r_api_Stitch) (v := .slice ad1 p0.length cp2) (xs := p0) (j := s11) 70 74 0 S Try.underlying70 rfl rfl hx21
  refine sIdxV (v := .slice ad1 p0.length cp2) (k := .i64) (j := s11) S (wN rfl) rfl rfl rfl hq23 rfl (lb rfl) fun a S => ?_
  obtain ⟨u24, S⟩ := pLoad (r := r_api_Stitch) (q := q22) (x := x20) 0 S rfl
  obtain rfl : u24 = .agg #[.int .u8 x20.Kind, .bool x20.Purl, iv x20.A, iv x20.B] := S.mem.know (i := 1) (e := fRep r_api_Stitch (u24) x20) rfl
  refine sLoadVN (vq := q22) 0 [.int .u8 x20.Kind, .bool x20.Purl, iv x20.A, iv x20.B] S (wN rfl) rfl rfl rfl rfl rfl rfl (lb rfl) fun a S => ?_
  obtain ⟨r25, hx26, h⟩ := bindSome h
  have S1 := S.mem
  refine sCallQ (X := Unit) (f := 88) (vs := [.agg #[.int .u8 x20.Kind, .bool x20.Purl, iv x20.A, iv x20.B]]) (val := fun _ => iv r25) S (wN rfl) rfl callee88 rfl (S1.quiet [1] rfl) (fun E1 w1 S1 => c_raddleref25_Check E1 w1 x20 (.agg #[.int .u8 x20.Kind, .bool x20.Purl, iv x20.A, iv x20.B]) r25 hx26 S1) rfl (lb rfl) fun _ a w S => ?_
  refine sBin (.bool (r25 != 0)) S (wN rfl) rfl rfl rfl (bNe _ _ _ _ .i64 r25 0) rfl (lb rfl) fun a S => ?_
  refine leafL (leafT (hK19 _ _ ?_))
  rcases iteSome h with ⟨hc27, h⟩ | ⟨hc27, h⟩
  rotate_left
  · refine sCondF S rfl hc27 ?_
    refine wp_skip (leafB (leafT (hK18 _ _ ?_)))
    refine sRegion ?_
    refine sMove (iv s11) S (wN rfl) (.inl rfl) rfl rfl (lb rfl) fun a S => ?_
    refine sBin (iv (w64 (s11 + 1))) S (wN rfl) rfl rfl rfl (bAdd _ _ _ _ s11 1) rfl (lb rfl) fun a S => ?_
    refine sMove (iv (w64 (s11 + 1))) S (wN rfl) (.inr rfl) rfl rfl (lb rfl) fun a S => ?_
    exact leafL (leafT (⟨w64 (s11 + 1), (Option.some.inj h).symm, (S.fix [] [3] (by decide) rfl rfl rfl)⟩))
  refine sCondT S rfl hc27 ?_
  refine sSeq (fun K28 hK28 => ?_)
  refine sRegion ?_
  refine sMove (iv 8) S (wN rfl) (.inr rfl) rfl rfl (lb rfl) fun a S => ?_
  refine leafL (leafT (hK28 _ _ ?_))
  obtain rfl := Option.some.inj h
  obtain rfl := hu12 _ rfl
  have h := g13
  clear g13
  try dsimp only at h
  obtain rfl := Option.some.inj h
  have h := g9
  clear g9
  try dsimp only at h
  obtain rfl := Option.some.inj h
  exact wp_ret (rBlock (rThen (rThen (rBlock (rThen (sRet (iv 8) S (rsl1 rfl (rvT (t := 2) (v := iv 8) S rfl)) ⟨(), rfl, S.mem.sel [] [] (by decide) rfl rfl⟩))))))

end Go.Proofs.Ytdbgkakmhlmpbaa
namespace Go.Proofs.Ytdbgkakmhlmpbaa
open Go.RowKit
set_option linter.unusedVariables false

/-- a loop by a count, whatever its state looks like -/
theorem loop_at {S σ τ : Type} {B : S → Option (S ⊕ τ)} (n : Nat) (st : Nat → σ → S) (I : Nat → σ → Prop) (Pt : τ → Prop) {s0 : σ} (h0 : I 0 s0)
    (step : ∀ k s, k < n → I k s → (∃ s', B (st k s) = some (.inl (st (k + 1) s')) ∧ I (k + 1) s') ∨ (∃ t, B (st k s) = some (.inr t) ∧ Pt t))
    (last : ∀ s, I n s → ∃ t, B (st n s) = some (.inr t) ∧ Pt t) : ∃ t, whileO B (st 0 s0) = some t ∧ Pt t := by
  have key : ∀ j k s, j + k = n → I k s → ∃ t, whileO B (st k s) = some t ∧ Pt t := by
    intro j
    induction j with
    | zero =>
      intro k s hk hI
      obtain rfl : k = n := by omega
      obtain ⟨t, h1, h2⟩ := last s hI
      exact ⟨t, whileO_done h1, h2⟩
    | succ j ih =>
      intro k s hk hI
      rcases step k s (by omega) hI with ⟨s', h1, h2⟩ | ⟨t, h1, h2⟩
      · rw [whileO_step h1]; exact ih _ _ (by omega) h2
      · exact ⟨t, whileO_done h1, h2⟩
  exact key n 0 s0 (by omega) h0
theorem whileO_none {σ τ : Type} {B : σ → Option (σ ⊕ τ)} {s : σ} (h : B s = none) : whileO B s = none := by
  cases hx : whileO B s with
  | none => rfl
  | some t =>
    obtain ⟨n, hn⟩ := whileO_some hx
    cases n with
    | zero => simp [iterO] at hn
    | succ n => rw [iterO, h] at hn; cases hn
theorem whileO_eq {σ τ : Type} (B : σ → Option (σ ⊕ τ)) (s : σ) : whileO B s = (B s).bind fun r => match r with | .inl s' => whileO B s' | .inr t => some t := by
  cases h : B s with
  | none => rw [whileO_none h]; rfl
  | some r =>
    cases r with
    | inl s' => rw [whileO_step h]; rfl
    | inr t => rw [whileO_done h]; rfl
/-- sums over a list -/
def sm {α : Type} (f : α → Int) : List α → Int
  | [] => 0
  | x :: l => f x + sm f l
theorem sm_append {α : Type} (f : α → Int) (l k : List α) : sm f (l ++ k) = sm f l + sm f k := by
  induction l with
  | nil => simp [sm]
  | cons x l ih => simp only [List.cons_append, sm, ih]; omega
theorem sm_take {α : Type} (f : α → Int) (l : List α) {k : Nat} (h : k < l.length) : sm f (l.take (k + 1)) = sm f (l.take k) + f l[k] := by
  rw [List.take_succ_eq_append_getElem h, sm_append]
  simp [sm]
theorem sm_bd {α : Type} {f : α → Int} {b : Int} {l : List α} (h : ∀ x, x ∈ l → 0 ≤ f x ∧ f x ≤ b) : 0 ≤ sm f l ∧ sm f l ≤ b * l.length := by
  induction l with
  | nil => simp [sm]
  | cons x l ih =>
    have h1 := h x (by simp)
    have h2 := ih fun y hy => h y (by simp [hy])
    simp only [sm, List.length_cons]
    have e : b * ((l.length + 1 : Nat) : Int) = b * l.length + b := by rw [Int.natCast_add, Int.mul_add]; simp
    rw [e]
    omega
def usedS (p : api_Stitch) : Int := if p.Kind = 2 ∨ p.Kind = 9 then 0 else if p.Kind = 3 ∨ p.Kind = 4 ∨ p.Kind = 10 then p.A else if p.Kind = 6 ∨ p.Kind = 7 then p.A + p.B else 1
def madeS (p : api_Stitch) : Int := if p.Kind = 10 then 0 else if p.Kind = 5 ∨ p.Kind = 9 then p.A else if p.Kind = 6 ∨ p.Kind = 7 then p.A + p.B else 1
def okS (p : api_Stitch) : Prop :=
  (p.Kind = 1 ∨ p.Kind = 8) ∧ p.A = 0 ∧ p.B = 0 ∨ p.Kind = 2 ∧ p.A = 0 ∧ p.B = 0 ∧ p.Purl = false ∨ (p.Kind = 3 ∨ p.Kind = 4 ∨ p.Kind = 5) ∧ 2 ≤ p.A ∧ p.A ≤ 4 ∧ p.B = 0 ∨
  (p.Kind = 6 ∨ p.Kind = 7) ∧ 1 ≤ p.A ∧ p.A ≤ 6 ∧ 1 ≤ p.B ∧ p.B ≤ 6 ∨ p.Kind = 9 ∧ 1 ≤ p.A ∧ p.A ≤ 200 ∧ p.B = 0 ∧ p.Purl = false ∨ p.Kind = 10 ∧ 1 ≤ p.A ∧ p.A ≤ 200 ∧ p.B = 0
instance (p : api_Stitch) : Decidable (okS p) := by unfold okS; infer_instance
theorem okS_bd {p : api_Stitch} (h : okS p) : 1 ≤ p.Kind ∧ p.Kind ≤ 10 ∧ 0 ≤ p.A ∧ p.A ≤ 200 ∧ 0 ≤ p.B ∧ p.B ≤ 6 := by
  unfold okS at h
  omega
theorem usedS_bd {p : api_Stitch} (h : okS p) : 0 ≤ usedS p ∧ usedS p ≤ 200 := by
  have hb := okS_bd h
  unfold okS at h
  unfold usedS
  split
  · omega
  · split
    · omega
    · split <;> omega
theorem madeS_bd {p : api_Stitch} (h : okS p) : 0 ≤ madeS p ∧ madeS p ≤ 200 := by
  have hb := okS_bd h
  unfold okS at h
  unfold madeS
  split
  · omega
  · split
    · omega
    · split <;> omega
theorem check_form (p : api_Stitch) (f : stitch_form) (h : F_stitch_forms p.Kind = some (f, true)) :
    F_stitch_Check p = some (if (f.a.1 ≤ p.A ∧ p.A ≤ f.a.2) ∧ (f.b.1 ≤ p.B ∧ p.B ≤ f.b.2) ∧ (p.Purl = true → f.sided = true) then 0 else 8) := by
  unfold F_stitch_Check F_stitch_within
  rw [h]
  by_cases a1 : f.a.1 ≤ p.A <;> by_cases a2 : p.A ≤ f.a.2 <;> by_cases b1 : f.b.1 ≤ p.B <;> by_cases b2 : p.B ≤ f.b.2 <;> cases hp : p.Purl <;> cases hs : f.sided <;> simp [a1, a2, b1, b2, hs]
theorem ifc {α : Type} {c d : Prop} [Decidable c] [Decidable d] {a b : α} (h : c ↔ d) : (if c then a else b) = if d then a else b := by
  by_cases hc : c
  · rw [if_pos hc, if_pos (h.1 hc)]
  · rw [if_neg hc, if_neg (fun hd => hc (h.2 hd))]
theorem kinds {x : Int} (h : 0 ≤ x ∧ x ≤ 255) : x = 0 ∨ x = 1 ∨ x = 2 ∨ x = 3 ∨ x = 4 ∨ x = 5 ∨ x = 6 ∨ x = 7 ∨ x = 8 ∨ x = 9 ∨ x = 10 ∨ 10 < x := by omega
theorem forms_none {x : Int} (h : 10 < x ∧ x ≤ 255) : ∃ f, F_stitch_forms x = some (f, false) := by
  unfold F_stitch_forms
  have hw : IntKind.i64.wrap x = x := w64_of (by omega) (by omega)
  simp only [dF (show ¬ x < 1 by omega), hw, Bool.false_eq_true, if_false, Option.bind_some, List.length_cons, List.length_nil]
  rw [dT (show ((0 + 1 + 1 + 1 + 1 + 1 + 1 + 1 + 1 + 1 + 1 : Nat) : Int) < x by omega)]
  exact ⟨_, rfl⟩
theorem check_none {p : api_Stitch} {f : stitch_form} (h : F_stitch_forms p.Kind = some (f, false)) : F_stitch_Check p = some 8 := by
  unfold F_stitch_Check
  rw [h]
  simp
theorem check_eq (p : api_Stitch) (hk : 0 ≤ p.Kind ∧ p.Kind ≤ 255) : F_stitch_Check p = some (if okS p then 0 else 8) := by
  rcases kinds hk with h | h | h | h | h | h | h | h | h | h | h | h
  · rw [check_none (f := ⟨⟨#[]⟩, (0, 0), (0, 0), false, 0, 0⟩) (by rw [h]; rfl), if_neg (by unfold okS; omega)]
  · rw [check_form p _ (by rw [h]; rfl)]; cases hp : p.Purl <;> exact congrArg some (ifc (by simp [okS, h]; omega))
  · rw [check_form p _ (by rw [h]; rfl)]; cases hp : p.Purl <;> exact congrArg some (ifc (by simp [okS, h, hp] <;> omega))
  · rw [check_form p _ (by rw [h]; rfl)]; cases hp : p.Purl <;> exact congrArg some (ifc (by simp [okS, h]; omega))
  · rw [check_form p _ (by rw [h]; rfl)]; cases hp : p.Purl <;> exact congrArg some (ifc (by simp [okS, h]; omega))
  · rw [check_form p _ (by rw [h]; rfl)]; cases hp : p.Purl <;> exact congrArg some (ifc (by simp [okS, h]; omega))
  · rw [check_form p _ (by rw [h]; rfl)]; cases hp : p.Purl <;> exact congrArg some (ifc (by simp [okS, h]; omega))
  · rw [check_form p _ (by rw [h]; rfl)]; cases hp : p.Purl <;> exact congrArg some (ifc (by simp [okS, h]; omega))
  · rw [check_form p _ (by rw [h]; rfl)]; cases hp : p.Purl <;> exact congrArg some (ifc (by simp [okS, h]; omega))
  · rw [check_form p _ (by rw [h]; rfl)]; cases hp : p.Purl <;> exact congrArg some (ifc (by simp [okS, h, hp] <;> omega))
  · rw [check_form p _ (by rw [h]; rfl)]; cases hp : p.Purl <;> exact congrArg some (ifc (by simp [okS, h]; omega))
  · obtain ⟨f, hf⟩ := forms_none ⟨h, hk.2⟩
    rw [check_none hf, if_neg (by unfold okS; omega)]
theorem rstitch_eq (p : api_Stitch) : F_raddleref25_Check p = some (if okS p then 0 else 8) := by
  have e3 : (if (p.A == 0) = true then some (p.B == 0) else some false) = some (p.A == 0 && p.B == 0) := by cases h : (p.A == 0) <;> simp
  unfold F_raddleref25_Check
  rw [e3, Option.bind_some]
  by_cases k1 : p.Kind = 1
  · by_cases hA : p.A = 0 <;> by_cases hB : p.B = 0 <;> simp [k1, hA, hB, okS]
  by_cases k8 : p.Kind = 8
  · by_cases hA : p.A = 0 <;> by_cases hB : p.B = 0 <;> simp [k8, hA, hB, okS]
  by_cases k2 : p.Kind = 2
  · by_cases hA : p.A = 0 <;> by_cases hB : p.B = 0 <;> cases hp : p.Purl <;> simp [k2, hA, hB, hp, okS]
  by_cases k3 : p.Kind = 3
  · by_cases h1 : 2 ≤ p.A <;> by_cases h2 : p.A ≤ 4 <;> by_cases hB : p.B = 0 <;> simp [k3, h1, h2, hB, okS]
  by_cases k4 : p.Kind = 4
  · by_cases h1 : 2 ≤ p.A <;> by_cases h2 : p.A ≤ 4 <;> by_cases hB : p.B = 0 <;> simp [k4, h1, h2, hB, okS]
  by_cases k5 : p.Kind = 5
  · by_cases h1 : 2 ≤ p.A <;> by_cases h2 : p.A ≤ 4 <;> by_cases hB : p.B = 0 <;> simp [k5, h1, h2, hB, okS]
  by_cases k6 : p.Kind = 6
  · by_cases h1 : 1 ≤ p.A <;> by_cases h2 : p.A ≤ 6 <;> by_cases h3 : 1 ≤ p.B <;> by_cases h4 : p.B ≤ 6 <;> simp [k6, h1, h2, h3, h4, okS]
  by_cases k7 : p.Kind = 7
  · by_cases h1 : 1 ≤ p.A <;> by_cases h2 : p.A ≤ 6 <;> by_cases h3 : 1 ≤ p.B <;> by_cases h4 : p.B ≤ 6 <;> simp [k7, h1, h2, h3, h4, okS]
  by_cases k9 : p.Kind = 9
  · by_cases h1 : 1 ≤ p.A <;> by_cases h2 : p.A ≤ 200 <;> by_cases hB : p.B = 0 <;> cases hp : p.Purl <;> simp [k9, h1, h2, hB, hp, okS]
  by_cases k10 : p.Kind = 10
  · by_cases h1 : 1 ≤ p.A <;> by_cases h2 : p.A ≤ 200 <;> by_cases hB : p.B = 0 <;> simp [k10, h1, h2, hB, okS]
  have hn : ¬ okS p := by unfold okS; omega
  simp [k1, k2, k3, k4, k5, k6, k7, k8, k9, k10, hn]
theorem form_ok {p : api_Stitch} (h : okS p) : ∃ f, F_stitch_forms p.Kind = some (f, true) ∧ F_stitch_loops p f.uses = some (usedS p) ∧ F_stitch_loops p f.made = some (madeS p) := by
  have hb := okS_bd h
  have hw : w64 (p.A + p.B) = p.A + p.B := w64_of (by omega) (by omega)
  have l0 : F_stitch_loops p 0 = some 0 := rfl
  have l1 : F_stitch_loops p 1 = some 1 := rfl
  have l2 : F_stitch_loops p 2 = some p.A := rfl
  have l3 : F_stitch_loops p 3 = some (p.A + p.B) := by rw [← hw]; rfl
  rcases kinds (x := p.Kind) (by omega) with k | k | k | k | k | k | k | k | k | k | k | k
  · omega
  · exact ⟨⟨⟨#[]⟩, (0, 0), (0, 0), true, 1, 1⟩, by rw [k]; rfl, by rw [l1]; simp [usedS, k], by rw [l1]; simp [madeS, k]⟩
  · exact ⟨⟨⟨#[]⟩, (0, 0), (0, 0), false, 0, 1⟩, by rw [k]; rfl, by rw [l0]; simp [usedS, k], by rw [l1]; simp [madeS, k]⟩
  · exact ⟨⟨⟨#[102]⟩, (2, 4), (0, 0), true, 2, 1⟩, by rw [k]; rfl, by rw [l2]; simp [usedS, k], by rw [l1]; simp [madeS, k]⟩
  · exact ⟨⟨⟨#[108]⟩, (2, 4), (0, 0), true, 2, 1⟩, by rw [k]; rfl, by rw [l2]; simp [usedS, k], by rw [l1]; simp [madeS, k]⟩
  · exact ⟨⟨⟨#[109]⟩, (2, 4), (0, 0), true, 1, 2⟩, by rw [k]; rfl, by rw [l1]; simp [usedS, k], by rw [l2]; simp [madeS, k]⟩
  · exact ⟨⟨⟨#[120]⟩, (1, 6), (1, 6), true, 3, 3⟩, by rw [k]; rfl, by rw [l3]; simp [usedS, k], by rw [l3]; simp [madeS, k]⟩
  · exact ⟨⟨⟨#[121]⟩, (1, 6), (1, 6), true, 3, 3⟩, by rw [k]; rfl, by rw [l3]; simp [usedS, k], by rw [l3]; simp [madeS, k]⟩
  · exact ⟨⟨⟨#[115]⟩, (0, 0), (0, 0), true, 1, 1⟩, by rw [k]; rfl, by rw [l1]; simp [usedS, k], by rw [l1]; simp [madeS, k]⟩
  · exact ⟨⟨⟨#[]⟩, (1, 200), (0, 0), false, 0, 2⟩, by rw [k]; rfl, by rw [l0]; simp [usedS, k], by rw [l2]; simp [madeS, k]⟩
  · exact ⟨⟨⟨#[111]⟩, (1, 200), (0, 0), true, 2, 0⟩, by rw [k]; rfl, by rw [l2]; simp [usedS, k], by rw [l0]; simp [madeS, k]⟩
  · omega
theorem rused_eq {p : api_Stitch} (h : okS p) : F_raddleref25_Used p = some (usedS p) := by
  have hb := okS_bd h
  have hw : w64 (p.A + p.B) = p.A + p.B := w64_of (by omega) (by omega)
  unfold F_raddleref25_Used usedS
  rcases kinds (x := p.Kind) (by omega) with k | k | k | k | k | k | k | k | k | k | k | k <;> first | omega | simp [k, hw]
theorem rgives_eq {p : api_Stitch} (h : okS p) : F_raddleref25_Gives p = some (madeS p) := by
  have hb := okS_bd h
  have hw : w64 (p.A + p.B) = p.A + p.B := w64_of (by omega) (by omega)
  unfold F_raddleref25_Gives madeS
  rcases kinds (x := p.Kind) (by omega) with k | k | k | k | k | k | k | k | k | k | k | k <;> first | omega | simp [k, hw]
/-- lists of stitches -/
def allOk (l : List api_Stitch) : Prop := ∀ p, p ∈ l → okS p
instance (l : List api_Stitch) : Decidable (allOk l) := by unfold allOk; infer_instance
def wfS (p : api_Stitch) : Prop := 0 ≤ p.Kind ∧ p.Kind ≤ 255
theorem used_bd {l : List api_Stitch} (h : allOk l) : 0 ≤ sm usedS l ∧ sm usedS l ≤ 200 * l.length := sm_bd fun _ hx => usedS_bd (h _ hx)
theorem made_bd {l : List api_Stitch} (h : allOk l) : 0 ≤ sm madeS l ∧ sm madeS l ≤ 200 * l.length := sm_bd fun _ hx => madeS_bd (h _ hx)
theorem take_ok {l : List api_Stitch} (h : allOk l) (k : Nat) : allOk (l.take k) := fun _ hx => h _ (List.mem_of_mem_take hx)
theorem sum_step {l : List api_Stitch} (h : allOk l) (hl : l.length ≤ 100000) {k : Nat} (hk : k < l.length) :
    w64 (sm usedS (l.take k) + usedS l[k]) = sm usedS (l.take (k + 1)) ∧ w64 (sm madeS (l.take k) + madeS l[k]) = sm madeS (l.take (k + 1)) := by
  have h1 := used_bd (take_ok h k)
  have h2 := made_bd (take_ok h k)
  have h3 := usedS_bd (h _ (List.getElem_mem hk))
  have h4 := madeS_bd (h _ (List.getElem_mem hk))
  have hlen : (l.take k).length ≤ 100000 := by rw [List.length_take]; omega
  rw [sm_take _ _ hk, sm_take _ _ hk]
  exact ⟨w64_of (by omega) (by omega), w64_of (by omega) (by omega)⟩
theorem sum_eq {l : List api_Stitch} (h : allOk l) (hl : l.length ≤ 100000) : F_stitch_sum l = some (sm usedS l, sm madeS l) := by
  have key : ∃ t, whileO (stitch_sum_l1 l) (0, 0, 0) = some t ∧ t = (sm usedS l, sm madeS l) := by
    refine loop_at (σ := Unit) l.length (fun k _ => (sm usedS (l.take k), sm madeS (l.take k), (k : Int))) (fun _ _ => True) _ (s0 := ()) trivial ?_ ?_
    · intro k _ hk _
      refine .inl ⟨(), ?_, trivial⟩
      obtain ⟨f, f1, f2, f3⟩ := form_ok (h _ (List.getElem_mem hk))
      have hs := sum_step h hl hk
      unfold stitch_sum_l1
      simp only [dT (show (k : Int) < (l.length : Int) by omega), if_true, idxO_nat hk, Option.bind_some, f1, f2, f3, hs.1, hs.2, w64_succ (show k < 9223372036854775807 by omega)]
    · intro _ _
      refine ⟨_, ?_, rfl⟩
      unfold stitch_sum_l1
      simp only [dF (show ¬ (l.length : Int) < (l.length : Int) by omega), Bool.false_eq_true, if_false, List.take_length]
  obtain ⟨t, h1, rfl⟩ := key
  unfold F_stitch_sum
  rw [h1]; rfl
theorem rsums_eq {l : List api_Stitch} (h : allOk l) (hl : l.length ≤ 100000) : F_raddleref25_sums l = some (sm usedS l, sm madeS l) := by
  have key : ∃ t, whileO (raddleref25_sums_l1 l) (0, 0, 0) = some t ∧ t = (sm usedS l, sm madeS l) := by
    refine loop_at (σ := Unit) l.length (fun k _ => (sm usedS (l.take k), sm madeS (l.take k), (k : Int))) (fun _ _ => True) _ (s0 := ()) trivial ?_ ?_
    · intro k _ hk _
      refine .inl ⟨(), ?_, trivial⟩
      have hs := sum_step h hl hk
      unfold raddleref25_sums_l1
      simp only [dT (show (k : Int) < (l.length : Int) by omega), if_true, idxO_nat hk, Option.bind_some, rused_eq (h _ (List.getElem_mem hk)), rgives_eq (h _ (List.getElem_mem hk)), hs.1, hs.2, w64_succ (show k < 9223372036854775807 by omega)]
    · intro _ _
      refine ⟨_, ?_, rfl⟩
      unfold raddleref25_sums_l1
      simp only [dF (show ¬ (l.length : Int) < (l.length : Int) by omega), Bool.false_eq_true, if_false, List.take_length]
  obtain ⟨t, h1, rfl⟩ := key
  unfold F_raddleref25_sums
  rw [h1]; rfl
/-- the error of a list -/
def allS (l : List api_Stitch) : Int := if 200 < l.length then 4 else if allOk l then (if 200 < sm usedS l ∨ 200 < sm madeS l then 4 else 0) else 8
theorem allOk_range {l : List api_Stitch} : (List.range l.length).all (fun k => decide (okS (l.getD k ⟨0, false, 0, 0⟩))) = true ↔ allOk l := by
  rw [List.all_eq_true]
  constructor
  · intro h p hp
    obtain ⟨k, hk, rfl⟩ := List.getElem_of_mem hp
    have := h k (List.mem_range.2 hk)
    simpa [hk] using this
  · intro h k hk
    have hk := List.mem_range.1 hk
    have := h _ (List.getElem_mem hk)
    simpa [hk] using this
theorem getD_of {α : Type} {l : List α} {k : Nat} (d : α) (h : k < l.length) : l.getD k d = l[k] := by simp [h]
theorem find_bad {l : List api_Stitch} (hw : ∀ p, p ∈ l → wfS p) (hl : l.length ≤ 100000) : ∃ j, F_slices_IndexFunc___api_Stitch_api_Stitch__s0 l = some j ∧ (0 ≤ j ↔ ¬ allOk l) := by
  have key : ∃ t, whileO (slices_IndexFunc___api_Stitch_api_Stitch__s0_l1 l) 0 = some t ∧ ((t = .inr () ∧ allOk l) ∨ (∃ k : Nat, t = .inl (k : Int) ∧ ¬ allOk l)) := by
    refine loop_ix l.length (fun k => allOk (l.take k)) _ (fun p hp => by simp at hp) ?_ ?_
    · intro k hk hI
      have hc := check_eq l[k] (hw _ (List.getElem_mem hk))
      unfold slices_IndexFunc___api_Stitch_api_Stitch__s0_l1 F_stitch_All_1
      simp only [dT (show (k : Int) < (l.length : Int) by omega), if_true, idxO_nat hk, Option.bind_some, hc, w64_succ (show k < 9223372036854775807 by omega)]
      by_cases ho : okS l[k]
      · refine .inl ⟨by simp [ho], fun p hp => ?_⟩
        rw [List.take_succ_eq_append_getElem hk, List.mem_append] at hp
        rcases hp with hp | hp
        · exact hI p hp
        · simp at hp; subst hp; exact ho
      · exact .inr ⟨.inl (k : Int), by simp [ho], .inr ⟨k, rfl, fun h => ho (h _ (List.getElem_mem hk))⟩⟩
    · intro hI
      refine ⟨.inr (), ?_, .inl ⟨rfl, by simpa using hI⟩⟩
      unfold slices_IndexFunc___api_Stitch_api_Stitch__s0_l1
      simp only [dF (show ¬ (l.length : Int) < (l.length : Int) by omega), Bool.false_eq_true, if_false]
  obtain ⟨t, h1, h2⟩ := key
  unfold F_slices_IndexFunc___api_Stitch_api_Stitch__s0
  rw [h1]
  rcases h2 with ⟨rfl, h⟩ | ⟨k, rfl, h⟩
  · exact ⟨-1, rfl, by simp [h]⟩
  · exact ⟨(k : Int), rfl, by simp [h]⟩
theorem all_eq {l : List api_Stitch} (hw : ∀ p, p ∈ l → wfS p) : F_stitch_All l = some (allS l) := by
  unfold F_stitch_All allS
  by_cases hl : 200 < l.length
  · simp only [dT (show (200 : Int) < (l.length : Int) by omega), if_true, if_pos hl]
  simp only [dF (show ¬ (200 : Int) < (l.length : Int) by omega), Bool.false_eq_true, if_false, if_neg hl]
  obtain ⟨j, h1, h2⟩ := find_bad hw (by omega)
  unfold F_slices_ContainsFunc___api_Stitch_api_Stitch__s0
  rw [h1]
  by_cases ho : allOk l
  · have : ¬ 0 ≤ j := fun h => h2.1 h ho
    simp only [Option.bind_some, dF this, Bool.false_eq_true, if_false, sum_eq ho (show l.length ≤ 100000 by omega), if_pos ho]
    by_cases hm : 200 < sm usedS l ∨ 200 < sm madeS l
    · rw [dT (show (200 : Int) < if sm usedS l < sm madeS l then sm madeS l else sm usedS l by split <;> omega)]
      simp [hm]
    · rw [dF (show ¬ (200 : Int) < if sm usedS l < sm madeS l then sm madeS l else sm usedS l by split <;> omega)]
      simp [hm]
  · have : 0 ≤ j := h2.2 ho
    simp only [Option.bind_some, dT this, if_true, if_neg ho]
theorem rall_eq (l : List api_Stitch) : F_raddleref25_All l = some (allS l) := by
  unfold F_raddleref25_All allS
  by_cases hl : 200 < l.length
  · simp only [dT (show (200 : Int) < (l.length : Int) by omega), if_true, if_pos hl]
  simp only [dF (show ¬ (200 : Int) < (l.length : Int) by omega), Bool.false_eq_true, if_false, if_neg hl]
  have hloop : whileO (raddleref25_All_l1 l) 0 = some (if (List.range l.length).all (fun k => decide (okS (l.getD k ⟨0, false, 0, 0⟩))) = true then .inr () else .inl 8) := by
    refine loop_all l.length _ _ _ ?_ ?_
    · intro k hk
      unfold raddleref25_All_l1
      simp only [dT (show (k : Int) < (l.length : Int) by omega), if_true, idxO_nat hk, Option.bind_some, rstitch_eq, w64_succ (show k < 9223372036854775807 by omega), getD_of _ hk]
      by_cases ho : okS l[k] <;> simp [ho]
    · unfold raddleref25_All_l1
      simp only [dF (show ¬ (l.length : Int) < (l.length : Int) by omega), Bool.false_eq_true, if_false]
  rw [hloop]
  by_cases ho : allOk l
  · rw [if_pos (allOk_range.2 ho), if_pos ho]
    simp only [Option.bind_some, rsums_eq ho (show l.length ≤ 100000 by omega)]
    by_cases hu : 200 < sm usedS l
    · simp [hu]
    · by_cases hm : 200 < sm madeS l <;> simp [hu, hm]
  · rw [if_neg (fun h => ho (allOk_range.1 h)), if_neg ho]
    rfl
theorem allS_ok {l : List api_Stitch} (h : allS l = 0) : l.length ≤ 200 ∧ allOk l ∧ sm usedS l ≤ 200 ∧ sm madeS l ≤ 200 := by
  unfold allS at h
  split at h
  · omega
  · split at h
    · rename_i h1 h2
      split at h
      · omega
      · rename_i h3
        exact ⟨by omega, h2, by omega, by omega⟩
    · omega
def fin3 {σ τ : Type} (z0 : (σ ⊕ τ) ⊕ σ) : Option (σ ⊕ τ) := match z0 with
  | .inl z => some z
  | .inr g => some (.inl g)

end Go.Proofs.Ytdbgkakmhlmpbaa
namespace Go.Proofs.Ytdbgkakmhlmpbaa
open Go.RowKit
set_option linter.unusedVariables false

noncomputable def F_stitch_Uses (p0 : (List api_Stitch)) : Option (Int × Int) :=
  Option.bind (F_stitch_All p0) fun r6 =>
  if r6 != 0 then
    some (0, r6)
  else
    Option.bind (F_stitch_sum p0) fun r12 =>
    some (r12.1, 0)
set_option maxHeartbeats 4000000 in
set_option maxRecDepth 100000 in
theorem c_stitch_Uses (E : Nat → Prop) (w0 : World) (p0 : (List api_Stitch)) (v0 : Value) (r : (Int × Int)) (h : F_stitch_Uses p0 = some r) (S : St0 E [] w0 w0 [] [fRep (rL r_api_Stitch) (v0) p0]) :
    Calls Try.prog 86 #[v0] w0 (Ret (X := Unit) E [] w0 (fun _ => .tuple #[.int .i64 r.1, .int .i64 r.2]) (fun _ => []) (fun _ => [])) := by
  unfold F_stitch_Uses at h
  obtain ⟨ad1, cp2, _, rfl, _⟩ := S.know (i := 0) (e := fRep (rL r_api_Stitch) (v0) p0) rfl
  refine sEnter (args := [.slice ad1 p0.length cp2]) 18 Try.func86 rfl rfl (by simp) S (fun a S => ?_)
  refine sSeq (fun K3 hK3 => ?_)
  refine sRegion ?_
  refine sMove (iv 0) S (wN rfl) (.inr rfl) rfl rfl (lb rfl) fun a S => ?_
  refine sMove (iv 0) S (wN rfl) (.inr rfl) rfl rfl (lb rfl) fun a S => ?_
  refine leafL (leafT (hK3 _ _ ?_))
  refine sSeq (fun K4 hK4 => ?_)
  refine sSeq (fun K5 hK5 => ?_)
  refine sRegion ?_
  refine sMove (.slice ad1 p0.length cp2) S (wN rfl) (.inl rfl) rfl rfl (lb rfl) fun a S => ?_
  obtain ⟨r6, hx7, h⟩ := bindSome h
  have S1 := S.mem
  refine sCallQ (X := Unit) (f := 53) (vs := [.slice ad1 p0.length cp2]) (val := fun _ => iv r6) S (wN rfl) rfl callee53 rfl (S1.quiet [0] rfl) (fun E1 w1 S1 => c_stitch_All E1 w1 p0 (.slice ad1 p0.length cp2) r6 hx7 S1) rfl (lb rfl) fun _ a w S => ?_
  refine sMove (iv r6) S (wN rfl) (.inr rfl) rfl rfl (lb rfl) fun a S => ?_
  refine leafL (leafT (hK5 _ _ ?_))
  refine sSeq (fun K8 hK8 => ?_)
  refine sRegion ?_
  refine sMove (iv r6) S (wN rfl) (.inl rfl) rfl rfl (lb rfl) fun a S => ?_
  refine sBin (.bool (r6 != 0)) S (wN rfl) rfl rfl rfl (bNe _ _ _ _ .i64 r6 0) rfl (lb rfl) fun a S => ?_
  refine leafL (leafT (hK8 _ _ ?_))
  rcases iteSome h with ⟨hc9, h⟩ | ⟨hc9, h⟩
  · refine sCondT S rfl hc9 ?_
    refine sSeq (fun K10 hK10 => ?_)
    refine sRegion ?_
    refine sMove (iv r6) S (wN rfl) (.inl rfl) rfl rfl (lb rfl) fun a S => ?_
    refine sMove (iv 0) S (wN rfl) (.inr rfl) rfl rfl (lb rfl) fun a S => ?_
    refine sMove (iv r6) S (wN rfl) (.inr rfl) rfl rfl (lb rfl) fun a S => ?_
    refine leafL (leafT (hK10 _ _ ?_))
    obtain rfl := Option.some.inj h
    exact wp_ret (rThen (sRet (.tuple #[iv 0, iv r6]) S (rsl2 rfl (rvT (t := 2) (v := iv 0) S rfl) (rvT (t := 3) (v := iv r6) S rfl)) ⟨(), rfl, S.mem.sel [] [] (by decide) rfl rfl⟩))
  refine sCondF S rfl hc9 ?_
  refine wp_skip (leafT (hK4 _ _ ?_))
  refine sSeq (fun K11 hK11 => ?_)
  refine sRegion ?_
  refine sMove (.slice ad1 p0.length cp2) S (wN rfl) (.inl rfl) rfl rfl (lb rfl) fun a S => ?_
  obtain ⟨r12, hx13, h⟩ := bindSome h
  have S1 := S.mem
  refine sCallQ (X := Unit) (f := 54) (vs := [.slice ad1 p0.length cp2]) (val := fun _ => .tuple #[iv r12.1, iv r12.2]) S (wN rfl) rfl callee54 rfl (S1.quiet [0] rfl) (fun E1 w1 S1 => c_stitch_sum E1 w1 p0 (.slice ad1 p0.length cp2) r12 hx13 S1) rfl (lb rfl) fun _ a w S => ?_
  refine sMove (.tuple #[iv r12.1, iv r12.2]) S (wN rfl) (.inl rfl) rfl rfl (lb rfl) fun a S => ?_
  refine sExtract (vs := [iv r12.1, iv r12.2]) (iv r12.1) S (wN rfl) rfl rfl rfl rfl (lb rfl) fun a S => ?_
  refine sExtract (vs := [iv r12.1, iv r12.2]) (iv r12.2) S (wN rfl) rfl rfl rfl rfl (lb rfl) fun a S => ?_
  refine sMove (iv r12.1) S (wN rfl) (.inr rfl) rfl rfl (lb rfl) fun a S => ?_
  refine sMove (iv r12.2) S (wN rfl) (.inr rfl) rfl rfl (lb rfl) fun a S => ?_
  refine leafL (leafT (hK11 _ _ ?_))
  refine sSeq (fun K14 hK14 => ?_)
  refine sRegion ?_
  refine sMove (iv r12.1) S (wN rfl) (.inl rfl) rfl rfl (lb rfl) fun a S => ?_
  refine sMove (iv r12.1) S (wN rfl) (.inr rfl) rfl rfl (lb rfl) fun a S => ?_
  refine sMove (iv 0) S (wN rfl) (.inr rfl) rfl rfl (lb rfl) fun a S => ?_
  refine leafL (leafT (hK14 _ _ ?_))
  obtain rfl := Option.some.inj h
  exact wp_ret (sRet (.tuple #[iv r12.1, iv 0]) S (rsl2 rfl (rvT (t := 2) (v := iv r12.1) S rfl) (rvT (t := 3) (v := iv 0) S rfl)) ⟨(), rfl, S.mem.sel [] [] (by decide) rfl rfl⟩)

end Go.Proofs.Ytdbgkakmhlmpbaa
namespace Go.Proofs.Ytdbgkakmhlmpbaa
open Go.RowKit
set_option linter.unusedVariables false

noncomputable def F_stitch_Makes (p0 : (List api_Stitch)) : Option (Int × Int) :=
  Option.bind (F_stitch_All p0) fun r6 =>
  if r6 != 0 then
    some (0, r6)
  else
    Option.bind (F_stitch_sum p0) fun r12 =>
    some (r12.2, 0)
set_option maxHeartbeats 4000000 in
set_option maxRecDepth 100000 in
theorem c_stitch_Makes (E : Nat → Prop) (w0 : World) (p0 : (List api_Stitch)) (v0 : Value) (r : (Int × Int)) (h : F_stitch_Makes p0 = some r) (S : St0 E [] w0 w0 [] [fRep (rL r_api_Stitch) (v0) p0]) :
    Calls Try.prog 33 #[v0] w0 (Ret (X := Unit) E [] w0 (fun _ => .tuple #[.int .i64 r.1, .int .i64 r.2]) (fun _ => []) (fun _ => [])) := by
  unfold F_stitch_Makes at h
  obtain ⟨ad1, cp2, _, rfl, _⟩ := S.know (i := 0) (e := fRep (rL r_api_Stitch) (v0) p0) rfl
  refine sEnter (args := [.slice ad1 p0.length cp2]) 18 Try.func33 rfl rfl (by simp) S (fun a S => ?_)
  refine sSeq (fun K3 hK3 => ?_)
  refine sRegion ?_
  refine sMove (iv 0) S (wN rfl) (.inr rfl) rfl rfl (lb rfl) fun a S => ?_
  refine sMove (iv 0) S (wN rfl) (.inr rfl) rfl rfl (lb rfl) fun a S => ?_
  refine leafL (leafT (hK3 _ _ ?_))
  refine sSeq (fun K4 hK4 => ?_)
  refine sSeq (fun K5 hK5 => ?_)
  refine sRegion ?_
  refine sMove (.slice ad1 p0.length cp2) S (wN rfl) (.inl rfl) rfl rfl (lb rfl) fun a S => ?_
  obtain ⟨r6, hx7, h⟩ := bindSome h
  have S1 := S.mem
  refine sCallQ (X := Unit) (f := 53) (vs := [.slice ad1 p0.length cp2]) (val := fun _ => iv r6) S (wN rfl) rfl callee53 rfl (S1.quiet [0] rfl) (fun E1 w1 S1 => c_stitch_All E1 w1 p0 (.slice ad1 p0.length cp2) r6 hx7 S1) rfl (lb rfl) fun _ a w S => ?_
  refine sMove (iv r6) S (wN rfl) (.inr rfl) rfl rfl (lb rfl) fun a S => ?_
  refine leafL (leafT (hK5 _ _ ?_))
  refine sSeq (fun K8 hK8 => ?_)
  refine sRegion ?_
  refine sMove (iv r6) S (wN rfl) (.inl rfl) rfl rfl (lb rfl) fun a S => ?_
  refine sBin (.bool (r6 != 0)) S (wN rfl) rfl rfl rfl (bNe _ _ _ _ .i64 r6 0) rfl (lb rfl) fun a S => ?_
  refine leafL (leafT (hK8 _ _ ?_))
  rcases iteSome h with ⟨hc9, h⟩ | ⟨hc9, h⟩
  · refine sCondT S rfl hc9 ?_
    refine sSeq (fun K10 hK10 => ?_)
    refine sRegion ?_
    refine sMove (iv r6) S (wN rfl) (.inl rfl) rfl rfl (lb rfl) fun a S => ?_
    refine sMove (iv 0) S (wN rfl) (.inr rfl) rfl rfl (lb rfl) fun a S => ?_
    refine sMove (iv r6) S (wN rfl) (.inr rfl) rfl rfl (lb rfl) fun a S => ?_
    refine leafL (leafT (hK10 _ _ ?_))
    obtain rfl := Option.some.inj h
    exact wp_ret (rThen (sRet (.tuple #[iv 0, iv r6]) S (rsl2 rfl (rvT (t := 2) (v := iv 0) S rfl) (rvT (t := 3) (v := iv r6) S rfl)) ⟨(), rfl, S.mem.sel [] [] (by decide) rfl rfl⟩))
  refine sCondF S rfl hc9 ?_
  refine wp_skip (leafT (hK4 _ _ ?_))
  refine sSeq (fun K11 hK11 => ?_)
  refine sRegion ?_
  refine sMove (.slice ad1 p0.length cp2) S (wN rfl) (.inl rfl) rfl rfl (lb rfl) fun a S => ?_
  obtain ⟨r12, hx13, h⟩ := bindSome h
  have S1 := S.mem
  refine sCallQ (X := Unit) (f := 54) (vs := [.slice ad1 p0.length cp2]) (val := fun _ => .tuple #[iv r12.1, iv r12.2]) S (wN rfl) rfl callee54 rfl (S1.quiet [0] rfl) (fun E1 w1 S1 => c_stitch_sum E1 w1 p0 (.slice ad1 p0.length cp2) r12 hx13 S1) rfl (lb rfl) fun _ a w S => ?_
  refine sMove (.tuple #[iv r12.1, iv r12.2]) S (wN rfl) (.inl rfl) rfl rfl (lb rfl) fun a S => ?_
  refine sExtract (vs := [iv r12.1, iv r12.2]) (iv r12.1) S (wN rfl) rfl rfl rfl rfl (lb rfl) fun a S => ?_
  refine sExtract (vs := [iv r12.1, iv r12.2]) (iv r12.2) S (wN rfl) rfl rfl rfl rfl (lb rfl) fun a S => ?_
  refine sMove (iv r12.1) S (wN rfl) (.inr rfl) rfl rfl (lb rfl) fun a S => ?_
  refine sMove (iv r12.2) S (wN rfl) (.inr rfl) rfl rfl (lb rfl) fun a S => ?_
  refine leafL (leafT (hK11 _ _ ?_))
  refine sSeq (fun K14 hK14 => ?_)
  refine sRegion ?_
  refine sMove (iv r12.2) S (wN rfl) (.inl rfl) rfl rfl (lb rfl) fun a S => ?_
  refine sMove (iv r12.2) S (wN rfl) (.inr rfl) rfl rfl (lb rfl) fun a S => ?_
  refine sMove (iv 0) S (wN rfl) (.inr rfl) rfl rfl (lb rfl) fun a S => ?_
  refine leafL (leafT (hK14 _ _ ?_))
  obtain rfl := Option.some.inj h
  exact wp_ret (sRet (.tuple #[iv r12.2, iv 0]) S (rsl2 rfl (rvT (t := 2) (v := iv r12.2) S rfl) (rvT (t := 3) (v := iv 0) S rfl)) ⟨(), rfl, S.mem.sel [] [] (by decide) rfl rfl⟩)

end Go.Proofs.Ytdbgkakmhlmpbaa
namespace Go.Proofs.Ytdbgkakmhlmpbaa
open Go.RowKit
set_option linter.unusedVariables false

noncomputable def F_raddleref25_Uses (p0 : (List api_Stitch)) : Option (Int × Int) :=
  Option.bind (F_raddleref25_All p0) fun r6 =>
  if r6 != 0 then
    some (0, r6)
  else
    Option.bind (F_raddleref25_sums p0) fun r11 =>
    some (r11.1, 0)
set_option maxHeartbeats 4000000 in
set_option maxRecDepth 100000 in
theorem c_raddleref25_Uses (E : Nat → Prop) (w0 : World) (p0 : (List api_Stitch)) (v0 : Value) (r : (Int × Int)) (h : F_raddleref25_Uses p0 = some r) (S : St0 E [] w0 w0 [] [fRep (rL r_api_Stitch) (v0) p0]) :
    Calls Try.prog 50 #[v0] w0 (Ret (X := Unit) E [] w0 (fun _ => .tuple #[.int .i64 r.1, .int .i64 r.2]) (fun _ => []) (fun _ => [])) := by
  unfold F_raddleref25_Uses at h
  obtain ⟨ad1, cp2, _, rfl, _⟩ := S.know (i := 0) (e := fRep (rL r_api_Stitch) (v0) p0) rfl
  refine sEnter (args := [.slice ad1 p0.length cp2]) 17 Try.func50 rfl rfl (by simp) S (fun a S => ?_)
  refine sSeq (fun K3 hK3 => ?_)
  refine sRegion ?_
  refine sMove (iv 0) S (wN rfl) (.inr rfl) rfl rfl (lb rfl) fun a S => ?_
  refine sMove (iv 0) S (wN rfl) (.inr rfl) rfl rfl (lb rfl) fun a S => ?_
  refine leafL (leafT (hK3 _ _ ?_))
  refine sSeq (fun K4 hK4 => ?_)
  refine sSeq (fun K5 hK5 => ?_)
  refine sRegion ?_
  refine sMove (.slice ad1 p0.length cp2) S (wN rfl) (.inl rfl) rfl rfl (lb rfl) fun a S => ?_
  obtain ⟨r6, hx7, h⟩ := bindSome h
  have S1 := S.mem
  refine sCallQ (X := Unit) (f := 66) (vs := [.slice ad1 p0.length cp2]) (val := fun _ => iv r6) S (wN rfl) rfl callee66 rfl (S1.quiet [0] rfl) (fun E1 w1 S1 => c_raddleref25_All E1 w1 p0 (.slice ad1 p0.length cp2) r6 hx7 S1) rfl (lb rfl) fun _ a w S => ?_
  refine sBin (.bool (r6 != 0)) S (wN rfl) rfl rfl rfl (bNe _ _ _ _ .i64 r6 0) rfl (lb rfl) fun a S => ?_
  refine leafL (leafT (hK5 _ _ ?_))
  rcases iteSome h with ⟨hc8, h⟩ | ⟨hc8, h⟩
  · refine sCondT S rfl hc8 ?_
    refine sSeq (fun K9 hK9 => ?_)
    refine sRegion ?_
    refine sMove (.slice ad1 p0.length cp2) S (wN rfl) (.inl rfl) rfl rfl (lb rfl) fun a S => ?_
    have S1 := S.mem
    refine sCallQ (X := Unit) (f := 66) (vs := [.slice ad1 p0.length cp2]) (val := fun _ => iv r6) S (wN rfl) rfl callee66 rfl (S1.quiet [0] rfl) (fun E1 w1 S1 => c_raddleref25_All E1 w1 p0 (.slice ad1 p0.length cp2) r6 hx7 S1) rfl (lb rfl) fun _ a w S => ?_
    refine sMove (iv 0) S (wN rfl) (.inr rfl) rfl rfl (lb rfl) fun a S => ?_
    refine sMove (iv r6) S (wN rfl) (.inr rfl) rfl rfl (lb rfl) fun a S => ?_
    refine leafL (leafT (hK9 _ _ ?_))
    obtain rfl := Option.some.inj h
    exact wp_ret (rThen (sRet (.tuple #[iv 0, iv r6]) S (rsl2 rfl (rvT (t := 2) (v := iv 0) S rfl) (rvT (t := 3) (v := iv r6) S rfl)) ⟨(), rfl, S.mem.sel [] [] (by decide) rfl rfl⟩))
  refine sCondF S rfl hc8 ?_
  refine wp_skip (leafT (hK4 _ _ ?_))
  refine sSeq (fun K10 hK10 => ?_)
  refine sRegion ?_
  refine sMove (.slice ad1 p0.length cp2) S (wN rfl) (.inl rfl) rfl rfl (lb rfl) fun a S => ?_
  obtain ⟨r11, hx12, h⟩ := bindSome h
  have S1 := S.mem
  refine sCallQ (X := Unit) (f := 70) (vs := [.slice ad1 p0.length cp2]) (val := fun _ => .tuple #[iv r11.1, iv r11.2]) S (wN rfl) rfl callee70 rfl (S1.quiet [0] rfl) (fun E1 w1 S1 => c_raddleref25_sums E1 w1 p0 (.slice ad1 p0.length cp2) r11 hx12 S1) rfl (lb rfl) fun _ a w S => ?_
  refine sMove (.tuple #[iv r11.1, iv r11.2]) S (wN rfl) (.inl rfl) rfl rfl (lb rfl) fun a S => ?_
  refine sExtract (vs := [iv r11.1, iv r11.2]) (iv r11.1) S (wN rfl) rfl rfl rfl rfl (lb rfl) fun a S => ?_
  refine sExtract (vs := [iv r11.1, iv r11.2]) (iv r11.2) S (wN rfl) rfl rfl rfl rfl (lb rfl) fun a S => ?_
  refine sMove (iv r11.1) S (wN rfl) (.inr rfl) rfl rfl (lb rfl) fun a S => ?_
  refine sMove (iv r11.2) S (wN rfl) (.inr rfl) rfl rfl (lb rfl) fun a S => ?_
  refine leafL (leafT (hK10 _ _ ?_))
  refine sSeq (fun K13 hK13 => ?_)
  refine sRegion ?_
  refine sMove (iv r11.1) S (wN rfl) (.inl rfl) rfl rfl (lb rfl) fun a S => ?_
  refine sMove (iv r11.1) S (wN rfl) (.inr rfl) rfl rfl (lb rfl) fun a S => ?_
  refine sMove (iv 0) S (wN rfl) (.inr rfl) rfl rfl (lb rfl) fun a S => ?_
  refine leafL (leafT (hK13 _ _ ?_))
  obtain rfl := Option.some.inj h
  exact wp_ret (sRet (.tuple #[iv r11.1, iv 0]) S (rsl2 rfl (rvT (t := 2) (v := iv r11.1) S rfl) (rvT (t := 3) (v := iv 0) S rfl)) ⟨(), rfl, S.mem.sel [] [] (by decide) rfl rfl⟩)

end Go.Proofs.Ytdbgkakmhlmpbaa
namespace Go.Proofs.Ytdbgkakmhlmpbaa
open Go.RowKit
set_option linter.unusedVariables false

noncomputable def F_raddleref25_Makes (p0 : (List api_Stitch)) : Option (Int × Int) :=
  Option.bind (F_raddleref25_All p0) fun r6 =>
  if r6 != 0 then
    some (0, r6)
  else
    Option.bind (F_raddleref25_sums p0) fun r11 =>
    some (r11.2, 0)
set_option maxHeartbeats 4000000 in
set_option maxRecDepth 100000 in
theorem c_raddleref25_Makes (E : Nat → Prop) (w0 : World) (p0 : (List api_Stitch)) (v0 : Value) (r : (Int × Int)) (h : F_raddleref25_Makes p0 = some r) (S : St0 E [] w0 w0 [] [fRep (rL r_api_Stitch) (v0) p0]) :
    Calls Try.prog 51 #[v0] w0 (Ret (X := Unit) E [] w0 (fun _ => .tuple #[.int .i64 r.1, .int .i64 r.2]) (fun _ => []) (fun _ => [])) := by
  unfold F_raddleref25_Makes at h
  obtain ⟨ad1, cp2, _, rfl, _⟩ := S.know (i := 0) (e := fRep (rL r_api_Stitch) (v0) p0) rfl
  refine sEnter (args := [.slice ad1 p0.length cp2]) 17 Try.func51 rfl rfl (by simp) S (fun a S => ?_)
  refine sSeq (fun K3 hK3 => ?_)
  refine sRegion ?_
  refine sMove (iv 0) S (wN rfl) (.inr rfl) rfl rfl (lb rfl) fun a S => ?_
  refine sMove (iv 0) S (wN rfl) (.inr rfl) rfl rfl (lb rfl) fun a S => ?_
  refine leafL (leafT (hK3 _ _ ?_))
  refine sSeq (fun K4 hK4 => ?_)
  refine sSeq (fun K5 hK5 => ?_)
  refine sRegion ?_
  refine sMove (.slice ad1 p0.length cp2) S (wN rfl) (.inl rfl) rfl rfl (lb rfl) fun a S => ?_
  obtain ⟨r6, hx7, h⟩ := bindSome h
  have S1 := S.mem
  refine sCallQ (X := Unit) (f := 66) (vs := [.slice ad1 p0.length cp2]) (val := fun _ => iv r6) S (wN rfl) rfl callee66 rfl (S1.quiet [0] rfl) (fun E1 w1 S1 => c_raddleref25_All E1 w1 p0 (.slice ad1 p0.length cp2) r6 hx7 S1) rfl (lb rfl) fun _ a w S => ?_
  refine sBin (.bool (r6 != 0)) S (wN rfl) rfl rfl rfl (bNe _ _ _ _ .i64 r6 0) rfl (lb rfl) fun a S => ?_
  refine leafL (leafT (hK5 _ _ ?_))
  rcases iteSome h with ⟨hc8, h⟩ | ⟨hc8, h⟩
  · refine sCondT S rfl hc8 ?_
    refine sSeq (fun K9 hK9 => ?_)
    refine sRegion ?_
    refine sMove (.slice ad1 p0.length cp2) S (wN rfl) (.inl rfl) rfl rfl (lb rfl) fun a S => ?_
    have S1 := S.mem
    refine sCallQ (X := Unit) (f := 66) (vs := [.slice ad1 p0.length cp2]) (val := fun _ => iv r6) S (wN rfl) rfl callee66 rfl (S1.quiet [0] rfl) (fun E1 w1 S1 => c_raddleref25_All E1 w1 p0 (.slice ad1 p0.length cp2) r6 hx7 S1) rfl (lb rfl) fun _ a w S => ?_
    refine sMove (iv 0) S (wN rfl) (.inr rfl) rfl rfl (lb rfl) fun a S => ?_
    refine sMove (iv r6) S (wN rfl) (.inr rfl) rfl rfl (lb rfl) fun a S => ?_
    refine leafL (leafT (hK9 _ _ ?_))
    obtain rfl := Option.some.inj h
    exact wp_ret (rThen (sRet (.tuple #[iv 0, iv r6]) S (rsl2 rfl (rvT (t := 2) (v := iv 0) S rfl) (rvT (t := 3) (v := iv r6) S rfl)) ⟨(), rfl, S.mem.sel [] [] (by decide) rfl rfl⟩))
  refine sCondF S rfl hc8 ?_
  refine wp_skip (leafT (hK4 _ _ ?_))
  refine sSeq (fun K10 hK10 => ?_)
  refine sRegion ?_
  refine sMove (.slice ad1 p0.length cp2) S (wN rfl) (.inl rfl) rfl rfl (lb rfl) fun a S => ?_
  obtain ⟨r11, hx12, h⟩ := bindSome h
  have S1 := S.mem
  refine sCallQ (X := Unit) (f := 70) (vs := [.slice ad1 p0.length cp2]) (val := fun _ => .tuple #[iv r11.1, iv r11.2]) S (wN rfl) rfl callee70 rfl (S1.quiet [0] rfl) (fun E1 w1 S1 => c_raddleref25_sums E1 w1 p0 (.slice ad1 p0.length cp2) r11 hx12 S1) rfl (lb rfl) fun _ a w S => ?_
  refine sMove (.tuple #[iv r11.1, iv r11.2]) S (wN rfl) (.inl rfl) rfl rfl (lb rfl) fun a S => ?_
  refine sExtract (vs := [iv r11.1, iv r11.2]) (iv r11.1) S (wN rfl) rfl rfl rfl rfl (lb rfl) fun a S => ?_
  refine sExtract (vs := [iv r11.1, iv r11.2]) (iv r11.2) S (wN rfl) rfl rfl rfl rfl (lb rfl) fun a S => ?_
  refine sMove (iv r11.1) S (wN rfl) (.inr rfl) rfl rfl (lb rfl) fun a S => ?_
  refine sMove (iv r11.2) S (wN rfl) (.inr rfl) rfl rfl (lb rfl) fun a S => ?_
  refine leafL (leafT (hK10 _ _ ?_))
  refine sSeq (fun K13 hK13 => ?_)
  refine sRegion ?_
  refine sMove (iv r11.2) S (wN rfl) (.inl rfl) rfl rfl (lb rfl) fun a S => ?_
  refine sMove (iv r11.2) S (wN rfl) (.inr rfl) rfl rfl (lb rfl) fun a S => ?_
  refine sMove (iv 0) S (wN rfl) (.inr rfl) rfl rfl (lb rfl) fun a S => ?_
  refine leafL (leafT (hK13 _ _ ?_))
  obtain rfl := Option.some.inj h
  exact wp_ret (sRet (.tuple #[iv r11.2, iv 0]) S (rsl2 rfl (rvT (t := 2) (v := iv r11.2) S rfl) (rvT (t := 3) (v := iv 0) S rfl)) ⟨(), rfl, S.mem.sel [] [] (by decide) rfl rfl⟩)

end Go.Proofs.Ytdbgkakmhlmpbaa
namespace Go.Proofs.Ytdbgkakmhlmpbaa
open Go.RowKit
set_option linter.unusedVariables false

theorem uses_eq {l : List api_Stitch} (hw : ∀ p, p ∈ l → wfS p) : F_stitch_Uses l = some (if allS l = 0 then (sm usedS l, 0) else (0, allS l)) := by
  unfold F_stitch_Uses
  rw [all_eq hw, Option.bind_some]
  by_cases h : allS l = 0
  · simp only [nF h, Bool.false_eq_true, if_false, sum_eq (allS_ok h).2.1 (show l.length ≤ 100000 by have := (allS_ok h).1; omega), Option.bind_some, if_pos h]
  · simp only [nT h, if_true, if_neg h]
theorem makes_eq {l : List api_Stitch} (hw : ∀ p, p ∈ l → wfS p) : F_stitch_Makes l = some (if allS l = 0 then (sm madeS l, 0) else (0, allS l)) := by
  unfold F_stitch_Makes
  rw [all_eq hw, Option.bind_some]
  by_cases h : allS l = 0
  · simp only [nF h, Bool.false_eq_true, if_false, sum_eq (allS_ok h).2.1 (show l.length ≤ 100000 by have := (allS_ok h).1; omega), Option.bind_some, if_pos h]
  · simp only [nT h, if_true, if_neg h]
theorem ruses_eq (l : List api_Stitch) : F_raddleref25_Uses l = some (if allS l = 0 then (sm usedS l, 0) else (0, allS l)) := by
  unfold F_raddleref25_Uses
  rw [rall_eq, Option.bind_some]
  by_cases h : allS l = 0
  · simp only [nF h, Bool.false_eq_true, if_false, rsums_eq (allS_ok h).2.1 (show l.length ≤ 100000 by have := (allS_ok h).1; omega), Option.bind_some, if_pos h]
  · simp only [nT h, if_true, if_neg h]
theorem rmakes_eq (l : List api_Stitch) : F_raddleref25_Makes l = some (if allS l = 0 then (sm madeS l, 0) else (0, allS l)) := by
  unfold F_raddleref25_Makes
  rw [rall_eq, Option.bind_some]
  by_cases h : allS l = 0
  · simp only [nF h, Bool.false_eq_true, if_false, rsums_eq (allS_ok h).2.1 (show l.length ≤ 100000 by have := (allS_ok h).1; omega), Option.bind_some, if_pos h]
  · simp only [nT h, if_true, if_neg h]

end Go.Proofs.Ytdbgkakmhlmpbaa
namespace Go.Proofs.Ytdbgkakmhlmpbaa
open Go.RowKit
set_option linter.unusedVariables false

noncomputable def F_chart_counted (p0 : api_Chart) : Option api_Chart :=
  some p0
def c_chart_counted_val (r : api_Chart) (x : Value) : Value := .func (.func 85) #[] #[x]
def c_chart_counted_D (r : api_Chart) (x : Value) : List Fact := [fPtr r_api_Chart x r]
set_option maxHeartbeats 4000000 in
set_option maxRecDepth 100000 in
theorem c_chart_counted (E : Nat → Prop) (w0 : World) (p0 : api_Chart) (v0 : Value) (r : api_Chart) (h : F_chart_counted p0 = some r) (S : St0 E [] w0 w0 [] [fRep r_api_Chart (v0) p0]) :
    Calls Try.prog 64 #[v0] w0 (Ret (X := Value) E [] w0 (c_chart_counted_val r) (fun _ => []) (c_chart_counted_D r)) := by
  unfold F_chart_counted at h
  obtain ⟨u1, rfl, hu2⟩ := S.know (i := 0) (e := fRep r_api_Chart (v0) p0) rfl
  have S := S.learn (fRep (rL r_api_Row) u1 p0.Rows) hu2
  obtain ⟨ad3, cp4, _, rfl, _⟩ := hu2
  refine sEnter (args := [.agg #[iv p0.Start, .slice ad3 p0.Rows.length cp4]]) 4 Try.func64 rfl rfl (by simp) S (fun a S => ?_)
  refine sSeq (fun K5 hK5 => ?_)
  refine sRegion ?_
  refine sBox (v := .agg #[iv p0.Start, .slice ad3 p0.Rows.length cp4]) S (wN rfl) rfl rfl [iv p0.Start, .slice ad3 p0.Rows.length cp4] rfl rfl (lb rfl) fun a b6 w S => ?_
  refine sMove (.nilFunc) S (wN rfl) (.inr rfl) rfl rfl (lb rfl) fun a S => ?_
  refine leafL (leafT (hK5 _ _ ?_))
  refine sSeq (fun K7 hK7 => ?_)
  refine sRegion ?_
  refine sFunc (g := 85) (vs := [.pointer (some ⟨b6, 0, none⟩)]) S (wN rfl) rfl rfl rfl (lb rfl) fun a S => ?_
  refine sMove (.func (.func 85) #[] #[.pointer (some ⟨b6, 0, none⟩)]) S (wN rfl) (.inr rfl) rfl rfl (lb rfl) fun a S => ?_
  refine leafL (leafT (hK7 _ _ ?_))
  have S := S.shutB (r := r_api_Chart) (T := 41) (b := b6) (cs := [iv p0.Start, .slice ad3 p0.Rows.length cp4]) 0 (.agg #[iv p0.Start, .slice ad3 p0.Rows.length cp4]) p0 rfl rfl (S.mem.know (i := 1) (e := fRep r_api_Chart (.agg #[iv p0.Start, .slice ad3 p0.Rows.length cp4]) p0) rfl)
  obtain rfl := Option.some.inj h
  exact wp_ret (sRet (.func (.func 85) #[] #[.pointer (some ⟨b6, 0, none⟩)]) S (rsl1 rfl (rvT (t := 2) (v := .func (.func 85) #[] #[.pointer (some ⟨b6, 0, none⟩)]) S rfl)) ⟨(.pointer (some ⟨b6, 0, none⟩)), rfl, S.mem.sel [] [0] (by decide) rfl rfl⟩)

end Go.Proofs.Ytdbgkakmhlmpbaa
namespace Go.Proofs.Ytdbgkakmhlmpbaa
open Go.RowKit
set_option linter.unusedVariables false

noncomputable def chart_counted_1_l1 {σ τ : Type} (p0 : api_Chart) (B : σ → (Int × chart_count) → Option (σ ⊕ τ)) : (Int × Int × σ) → Option ((Int × Int × σ) ⊕ ((σ ⊕ τ) ⊕ (σ))) := fun s0 => match s0 with
  | (s11, s12, gz13) =>
    if decide (s12 < (p0.Rows.length : Int)) then
      Option.bind (idxO p0.Rows s12) fun x23 =>
      Option.bind (F_stitch_Uses x23.Cells) fun r36 =>
      Option.bind (α := (Int × Int)) (
        if r36.2 != 0 then
          some (0, r36.2)
        else
          if r36.1 != s11 then
            some (0, 26)
          else
            Option.bind (F_stitch_Makes x23.Cells) fun r46 =>
            some (r46.1, 0)) fun (o38, o39) =>
      Option.bind (B gz13 (s12, (chart_count.mk s11 o38 o39))) fun y51 =>
      match y51 with
      | .inl gz53 =>
        if ((chart_count.mk s11 o38 o39).e) != 0 then
          some (.inr (.inl (.inl gz53)))
        else
          some (.inl ((chart_count.mk s11 o38 o39).after, w64 (s12 + 1), gz53))
      | .inr tz54 =>
        some (.inr (.inl (.inr tz54)))
    else
      some (.inr (.inr gz13))
noncomputable def I_chart_counted_1 (p0 : api_Chart) (σ τ : Type) (B : σ → (Int × chart_count) → Option (σ ⊕ τ)) (gz0 : σ) : Option (σ ⊕ τ) :=
  Option.bind (whileO (chart_counted_1_l1 p0 B) (p0.Start, 0, gz0)) fun z0 => match z0 with
    | .inl z =>
      some z
    | .inr gz17 =>
      some (.inl gz17)
set_option maxHeartbeats 4000000 in
set_option maxRecDepth 100000 in
theorem it_chart_counted_1 (p0 : api_Chart) (v0 : Value) : SeqF Try.prog 85 #[v0] (fA2 (rI .i64) r_chart_count) (I_chart_counted_1 p0) [fPtr r_api_Chart (v0) p0] := by
  refine seqF_of (lb := [v0]) (fun σ τ B gz0 r h l J Jx E w0 hC S hJ => ?_)
  unfold I_chart_counted_1 at h
  refine sEnterI (args := [.func (.yield l) #[] #[], v0]) 57 Try.func85 rfl rfl (by simp) S (fun a S => ?_)
  refine sSeq (fun K1 hK1 => ?_)
  refine sRegion ?_
  obtain ⟨q2, hq3, S⟩ := pFld (P := Try.prog) (r := r_api_Chart) (s2 := (rI .i64)) (g := (·.Start)) (q := v0) (z := p0) 41 0 0 0 S rfl rfl comp_api_Chart_Start
  refine sFldV (q := v0) S (wN rfl) rfl rfl hq3 rfl (lb rfl) fun a S => ?_
  obtain ⟨u4, S⟩ := pLoad (r := (rI .i64)) (q := q2) (x := p0.Start) 0 S rfl
  obtain rfl : u4 = iv p0.Start := S.mem.know (i := 1) (e := fRep (rI .i64) (u4) p0.Start) rfl
  refine sLoadV1 (vq := q2) 0 (iv p0.Start) S (wN rfl) rfl rfl rfl rfl rfl (lb rfl) fun a S => ?_
  refine sMove (iv p0.Start) S (wN rfl) (.inr rfl) rfl rfl (lb rfl) fun a S => ?_
  refine leafL (leafT (hK1 _ _ ?_))
  refine sSeq (fun K5 hK5 => ?_)
  refine sRegion ?_
  obtain ⟨q6, hq7, S⟩ := pFld (P := Try.prog) (r := r_api_Chart) (s2 := (rL r_api_Row)) (g := (·.Rows)) (q := v0) (z := p0) 41 1 3 1 S rfl rfl comp_api_Chart_Rows
  refine sFldV (q := v0) S (wN rfl) rfl rfl hq7 rfl (lb rfl) fun a S => ?_
  obtain ⟨u8, S⟩ := pLoad (r := (rL r_api_Row)) (q := q6) (x := p0.Rows) 0 S rfl
  obtain ⟨ad9, cp10, _, rfl, _⟩ := S.mem.know (i := 1) (e := fRep (rL r_api_Row) (u8) p0.Rows) rfl
  refine sLoadV1 (vq := q6) 0 (.slice ad9 p0.Rows.length cp10) S (wN rfl) rfl rfl rfl rfl rfl (lb rfl) fun a S => ?_
  refine sLen (ad := ad9) (m := p0.Rows.length) (c := cp10) S (wN rfl) rfl Try.underlying39 rfl rfl (lb rfl) fun a S => ?_
  refine sMove (iv 0) S (wN rfl) (.inl rfl) rfl rfl (lb rfl) fun a S => ?_
  refine leafL (leafT (hK5 _ _ ?_))
  refine wp_block ?_
  obtain ⟨t16, hl, g15⟩ := bindSome h
  refine sLoop hl (fun s0 a w => match s0 with | (s11, s12, gz13) => ∃ E w0, J gz13 E w0 ∧ St [] E [] w0 57 a w [(0, .func (.yield l) #[] #[]), (3, iv s11), (12, .slice ad9 p0.Rows.length cp10), (13, iv (p0.Rows.length : Int)), (14, iv s12)] [] [fRep (rL r_api_Row) (.slice ad9 p0.Rows.length cp10) p0.Rows]) ⟨_, _, hJ, S.fix [] [1] (by decide) rfl rfl rfl⟩ ?_
  clear hl h
  intro s0 a w c0 hI h hu14
  obtain ⟨s11, s12, gz13⟩ := s0
  unfold chart_counted_1_l1 at h
  dsimp only at h hI
  obtain ⟨E, w0, hJ, S⟩ := hI
  refine sSeq (fun K18 hK18 => ?_)
  refine sRegion ?_
  refine sBin (.bool (decide (s12 < (p0.Rows.length : Int)))) S (wN rfl) rfl rfl rfl (bLt _ _ _ _ .i64 s12 (p0.Rows.length : Int)) rfl (lb rfl) fun a S => ?_
  refine leafL (leafT (hK18 _ _ ?_))
  refine sSeq (fun K19 hK19 => ?_)
  rcases iteSome h with ⟨hc20, h⟩ | ⟨hc20, h⟩
  rotate_left
  · refine sCondF S rfl hc20 ?_
    obtain rfl := Option.some.inj h
    obtain rfl := hu14 _ rfl
    have h := g15
    clear g15
    try dsimp only at h
    exact wp_exit (xThen (xThen (xHit (sEnd (.tuple #[]) S (res0 rfl) (sGoI S hC hJ (Option.some.inj h) _)))))
  refine sCondT S rfl hc20 ?_
  refine wp_skip (leafT (hK19 _ _ ?_))
  refine sSeq (fun K21 hK21 => ?_)
  refine wp_block ?_
  refine sSeq (fun K22 hK22 => ?_)
  refine sRegion ?_
  refine sMove (iv s12) S (wN rfl) (.inl rfl) rfl rfl (lb rfl) fun a S => ?_
  obtain ⟨x23, hx24, h⟩ := bindSome h
  obtain ⟨q25, hq26, S⟩ := pIdx (P := Try.prog) (r := r_api_Row) (v := .slice ad9 p0.Rows.length cp10) (xs := p0.Rows) (j := s12) 39 72 0 S Try.underlying39 rfl rfl hx24
  refine sIdxV (v := .slice ad9 p0.Rows.length cp10) (k := .i64) (j := s12) S (wN rfl) rfl rfl rfl hq26 rfl (lb rfl) fun a S => ?_
  obtain ⟨u27, S⟩ := pLoad (r := r_api_Row) (q := q25) (x := x23) 0 S rfl
  obtain ⟨u28, rfl, hu29⟩ := S.mem.know (i := 1) (e := fRep r_api_Row (u27) x23) rfl
  have S := S.learn (fRep (rL r_api_Stitch) u28 x23.Cells) hu29
  obtain ⟨ad30, cp31, _, rfl, _⟩ := hu29
  refine sLoadVN (vq := q25) 1 [.bool x23.Back, .slice ad30 x23.Cells.length cp31] S (wN rfl) rfl rfl rfl rfl rfl rfl (lb rfl) fun a S => ?_
  refine sAlloc (.agg #[.bool false, .slice none 0 0]) S (wN rfl) rfl rfl [.bool false, .slice none 0 0] rfl rfl (lb rfl) fun a b32 w S => ?_
  refine sMove (iv s12) S (wN rfl) (.inr rfl) rfl rfl (lb rfl) fun a S => ?_
  refine sStore (p := b32) (off := 0) (T := 72) (vs := [.bool false, .slice none 0 0]) (v := .agg #[.bool x23.Back, .slice ad30 x23.Cells.length cp31]) 0 [.bool x23.Back, .slice ad30 x23.Cells.length cp31] S (wN rfl) rfl rfl rfl rfl rfl rfl rfl (by simp) rfl fun a w S => ?_
  refine leafL (leafT (hK22 _ _ ?_))
  refine sSeq (fun K33 hK33 => ?_)
  refine sRegion ?_
  refine sMove (iv s11) S (wN rfl) (.inl rfl) rfl rfl (lb rfl) fun a S => ?_
  refine sBuild [(0, iv s11)] [iv s11, iv 0, iv 0] S (wN rfl) rfl rfl rfl rfl (lb rfl) fun a S => ?_
  refine sAlloc (.agg #[iv 0, iv 0, iv 0]) S (wN rfl) rfl rfl [iv 0, iv 0, iv 0] rfl rfl (lb rfl) fun a b34 w S => ?_
  refine sStore (p := b34) (off := 0) (T := 120) (vs := [iv 0, iv 0, iv 0]) (v := .agg #[iv s11, iv 0, iv 0]) 0 [iv s11, iv 0, iv 0] S (wN rfl) rfl rfl rfl rfl rfl rfl rfl (by simp) rfl fun a w S => ?_
  refine leafL (leafT (hK33 _ _ ?_))
  refine sSeq (fun K35 hK35 => ?_)
  refine sRegion ?_
  refine sField (b := b32) (off := 0) 1 1 S (wN rfl) rfl rfl rfl rfl rfl (lb rfl) fun a S => ?_
  refine sLoad1 (p := b32) (off := 1) (T := 72) (vs := [.bool x23.Back, .slice ad30 x23.Cells.length cp31]) 1 (.slice ad30 x23.Cells.length cp31) S (wN rfl) rfl rfl rfl rfl rfl rfl (lb rfl) fun a S => ?_
  obtain ⟨r36, hx37, h⟩ := bindSome h
  have S1 := S.mem
  refine sCallQ (X := Unit) (f := 86) (vs := [.slice ad30 x23.Cells.length cp31]) (val := fun _ => .tuple #[iv r36.1, iv r36.2]) S (wN rfl) rfl callee86 rfl (S1.quiet [0] rfl) (fun E1 w1 S1 => c_stitch_Uses E1 w1 x23.Cells (.slice ad30 x23.Cells.length cp31) r36 hx37 S1) rfl (lb rfl) fun _ a w S => ?_
  refine sMove (.tuple #[iv r36.1, iv r36.2]) S (wN rfl) (.inl rfl) rfl rfl (lb rfl) fun a S => ?_
  refine sExtract (vs := [iv r36.1, iv r36.2]) (iv r36.1) S (wN rfl) rfl rfl rfl rfl (lb rfl) fun a S => ?_
  refine sExtract (vs := [iv r36.1, iv r36.2]) (iv r36.2) S (wN rfl) rfl rfl rfl rfl (lb rfl) fun a S => ?_
  refine sMove (iv r36.1) S (wN rfl) (.inr rfl) rfl rfl (lb rfl) fun a S => ?_
  refine sMove (iv r36.2) S (wN rfl) (.inr rfl) rfl rfl (lb rfl) fun a S => ?_
  refine leafL (leafT (hK35 _ _ ?_))
  obtain ⟨t40, h, g41⟩ := bindSome h
  refine sCut (fun a w => ∃ o38, ∃ o39, (o38, o39) = t40 ∧ ∃ E w0, J gz13 E w0 ∧ St [] E [] w0 57 a w [(0, .func (.yield l) #[] #[]), (4, iv s12), (6, .pointer (some ⟨b34, 0, none⟩)), (12, .slice ad9 p0.Rows.length cp10), (13, iv (p0.Rows.length : Int)), (14, iv s12)] [eBox b34 120 [iv s11, iv o38, iv o39]] [fRep (rL r_api_Row) (.slice ad9 p0.Rows.length cp10) p0.Rows]) ?_ (fun a w hI => ?_)
  · refine wp_block ?_
    refine sSeq (fun K42 hK42 => ?_)
    refine sRegion ?_
    refine sMove (iv r36.2) S (wN rfl) (.inl rfl) rfl rfl (lb rfl) fun a S => ?_
    refine sBin (.bool (r36.2 != 0)) S (wN rfl) rfl rfl rfl (bNe _ _ _ _ .i64 r36.2 0) rfl (lb rfl) fun a S => ?_
    refine sMove (.bool (r36.2 != 0)) S (wN rfl) (.inr rfl) rfl rfl (lb rfl) fun a S => ?_
    refine leafL (leafT (hK42 _ _ ?_))
    rcases iteSome h with ⟨hc43, h⟩ | ⟨hc43, h⟩
    · refine sCondT S rfl hc43 ?_
      refine sRegion ?_
      refine sMove (iv r36.2) S (wN rfl) (.inl rfl) rfl rfl (lb rfl) fun a S => ?_
      refine sField (b := b34) (off := 0) 2 2 S (wN rfl) rfl rfl rfl rfl rfl (lb rfl) fun a S => ?_
      refine sStore (p := b34) (off := 2) (T := 120) (vs := [iv s11, iv 0, iv 0]) (v := iv r36.2) 0 [iv r36.2] S (wN rfl) rfl rfl rfl rfl rfl rfl rfl (by simp) rfl fun a w S => ?_
      exact leafL (leafB (leafT (⟨0, r36.2, Option.some.inj h, _, _, hJ, S.fix [0] [4] (by decide) rfl rfl rfl⟩)))
    refine sCondF S rfl hc43 ?_
    refine sSeq (fun K44 hK44 => ?_)
    refine sRegion ?_
    refine sMove (iv r36.1) S (wN rfl) (.inl rfl) rfl rfl (lb rfl) fun a S => ?_
    refine sMove (iv s11) S (wN rfl) (.inl rfl) rfl rfl (lb rfl) fun a S => ?_
    refine sBin (.bool (r36.1 != s11)) S (wN rfl) rfl rfl rfl (bNe _ _ _ _ .i64 r36.1 s11) rfl (lb rfl) fun a S => ?_
    refine sMove (.bool (r36.1 != s11)) S (wN rfl) (.inr rfl) rfl rfl (lb rfl) fun a S => ?_
    refine leafL (leafT (hK44 _ _ ?_))
    rcases iteSome h with ⟨hc45, h⟩ | ⟨hc45, h⟩
    · refine sCondT S rfl hc45 ?_
      refine sRegion ?_
      refine sField (b := b34) (off := 0) 2 2 S (wN rfl) rfl rfl rfl rfl rfl (lb rfl) fun a S => ?_
      refine sStore (p := b34) (off := 2) (T := 120) (vs := [iv s11, iv 0, iv 0]) (v := iv 26) 0 [iv 26] S (wN rfl) rfl rfl rfl rfl rfl rfl rfl (by simp) rfl fun a w S => ?_
      exact leafL (leafB (leafT (⟨0, 26, Option.some.inj h, _, _, hJ, S.fix [0] [4] (by decide) rfl rfl rfl⟩)))
    refine sCondF S rfl hc45 ?_
    refine sRegion ?_
    refine sField (b := b32) (off := 0) 1 1 S (wN rfl) rfl rfl rfl rfl rfl (lb rfl) fun a S => ?_
    refine sLoad1 (p := b32) (off := 1) (T := 72) (vs := [.bool x23.Back, .slice ad30 x23.Cells.length cp31]) 1 (.slice ad30 x23.Cells.length cp31) S (wN rfl) rfl rfl rfl rfl rfl rfl (lb rfl) fun a S => ?_
    obtain ⟨r46, hx47, h⟩ := bindSome h
    have S1 := S.mem
    refine sCallQ (X := Unit) (f := 33) (vs := [.slice ad30 x23.Cells.length cp31]) (val := fun _ => .tuple #[iv r46.1, iv r46.2]) S (wN rfl) rfl callee33 rfl (S1.quiet [0] rfl) (fun E1 w1 S1 => c_stitch_Makes E1 w1 x23.Cells (.slice ad30 x23.Cells.length cp31) r46 hx47 S1) rfl (lb rfl) fun _ a w S => ?_
    refine sMove (.tuple #[iv r46.1, iv r46.2]) S (wN rfl) (.inl rfl) rfl rfl (lb rfl) fun a S => ?_
    refine sExtract (vs := [iv r46.1, iv r46.2]) (iv r46.1) S (wN rfl) rfl rfl rfl rfl (lb rfl) fun a S => ?_
    refine sExtract (vs := [iv r46.1, iv r46.2]) (iv r46.2) S (wN rfl) rfl rfl rfl rfl (lb rfl) fun a S => ?_
    refine sField (b := b34) (off := 0) 1 1 S (wN rfl) rfl rfl rfl rfl rfl (lb rfl) fun a S => ?_
    refine sStore (p := b34) (off := 1) (T := 120) (vs := [iv s11, iv 0, iv 0]) (v := iv r46.1) 0 [iv r46.1] S (wN rfl) rfl rfl rfl rfl rfl rfl rfl (by simp) rfl fun a w S => ?_
    exact leafL (leafB (leafT (⟨r46.1, 0, Option.some.inj h, _, _, hJ, S.fix [0] [4] (by decide) rfl rfl rfl⟩)))
  obtain ⟨o38, o39, rfl, E, w0, hJ, S⟩ := hI
  have h := g41
  clear g41
  try dsimp only at h
  refine sSeq (fun K48 hK48 => ?_)
  refine sSeq (fun K49 hK49 => ?_)
  refine sRegionY ?_
  refine sSplitR (by repeat (first | exact roundU_out | exact it_out | exact lo_false | refine lo_then ?_ | refine lo_block ?_)) 3 rfl (fun K50 hK50 => ?_)
  refine sMove (.func (.yield l) #[] #[]) S (wN rfl) (.inl rfl) rfl rfl (lb rfl) fun a S => ?_
  refine sMove (iv s12) S (wN rfl) (.inl rfl) rfl rfl (lb rfl) fun a S => ?_
  refine sLoadN (p := b34) (off := 0) (T := 120) (vs := [iv s11, iv o38, iv o39]) 0 [iv s11, iv o38, iv o39] S (wN rfl) rfl rfl rfl rfl rfl rfl rfl (lb rfl) fun a S => ?_
  refine leafL ⟨rfl, hK50 _ _ ?_⟩
  have S := S.learn (fRep r_chart_count (.agg #[iv s11, iv o38, iv o39]) (chart_count.mk s11 o38 o39)) rfl
  have S := S.shutB (r := r_chart_count) (T := 120) (b := b34) (cs := [iv s11, iv o38, iv o39]) 0 (.agg #[iv s11, iv o38, iv o39]) (chart_count.mk s11 o38 o39) rfl rfl (S.mem.know (i := 0) (e := fRep r_chart_count (.agg #[iv s11, iv o38, iv o39]) (chart_count.mk s11 o38 o39)) rfl)
  obtain ⟨y51, hy52, h⟩ := bindSome h
  refine sYieldI (s12, (chart_count.mk s11 o38 o39)) [iv s12, .agg #[iv s11, iv o38, iv o39]] S hC hJ hy52 (fA2_mk (rfl) (S.mem.know (i := 1) (e := fRep r_chart_count (.agg #[iv s11, iv o38, iv o39]) (chart_count.mk s11 o38 o39)) rfl)) (wN rfl) rfl rfl rfl rfl (by decide) (fun gz53 E a w hb hJ S => ?_) (fun tz54 a w hb hJ S => ?_)
  · obtain rfl := hb
    dsimp only at h
    refine list_inR (by repeat (first | exact roundU_out | exact it_out | exact lo_false | refine lo_then ?_ | refine lo_block ?_)) _ rfl _ _ ?_
    refine sNot (b := true) S (wN rfl) rfl rfl rfl (lb rfl) fun a S => ?_
    refine sMove (.bool false) S (wN rfl) (.inl rfl) rfl rfl (lb rfl) fun a S => ?_
    obtain ⟨q55, hq56, S⟩ := pFld (P := Try.prog) (r := r_chart_count) (s2 := (rI .i64)) (g := (·.e)) (q := .pointer (some ⟨b34, 0, none⟩)) (z := (chart_count.mk s11 o38 o39)) 120 2 0 2 S rfl rfl comp_chart_count_e
    refine sFldV (q := .pointer (some ⟨b34, 0, none⟩)) S (wG 5 false 49 rfl rfl rfl rfl) rfl rfl hq56 rfl (lb rfl) fun a S => ?_
    obtain ⟨u57, S⟩ := pLoad (r := (rI .i64)) (q := q55) (x := (chart_count.mk s11 o38 o39).e) 0 S rfl
    obtain rfl : u57 = iv ((chart_count.mk s11 o38 o39).e) := S.mem.know (i := 1) (e := fRep (rI .i64) (u57) ((chart_count.mk s11 o38 o39).e)) rfl
    refine sLoadV1 (vq := q55) 0 (iv ((chart_count.mk s11 o38 o39).e)) S (wG 5 false 49 rfl rfl rfl rfl) rfl rfl rfl rfl rfl (lb rfl) fun a S => ?_
    refine sBin (.bool (((chart_count.mk s11 o38 o39).e) != 0)) S (wG 5 false 49 rfl rfl rfl rfl) rfl rfl rfl (bNe _ _ _ _ .i64 ((chart_count.mk s11 o38 o39).e) 0) rfl (lb rfl) fun a S => ?_
    refine sPickF (.bool (((chart_count.mk s11 o38 o39).e) != 0)) S (wN rfl) rfl rfl rfl rfl rfl (lb rfl) fun a S => ?_
    refine leafL (leafT (hK49 _ _ ?_))
    rcases iteSome h with ⟨hc58, h⟩ | ⟨hc58, h⟩
    · refine sCondT S rfl hc58 ?_
      obtain rfl := Option.some.inj h
      obtain rfl := hu14 _ rfl
      have h := g15
      clear g15
      try dsimp only at h
      exact wp_ret (rThen (rBlock (rThen (rThen (rBlock (sRet (.tuple #[]) S (res0 rfl) (sGoI S hC hJ (Option.some.inj h) _)))))))
    refine sCondF S rfl hc58 ?_
    refine wp_skip (leafT (hK48 _ _ ?_))
    refine sRegion ?_
    obtain ⟨q59, hq60, S⟩ := pFld (P := Try.prog) (r := r_chart_count) (s2 := (rI .i64)) (g := (·.after)) (q := .pointer (some ⟨b34, 0, none⟩)) (z := (chart_count.mk s11 o38 o39)) 120 1 3 1 S rfl rfl comp_chart_count_after
    refine sFldV (q := .pointer (some ⟨b34, 0, none⟩)) S (wN rfl) rfl rfl hq60 rfl (lb rfl) fun a S => ?_
    obtain ⟨u61, S⟩ := pLoad (r := (rI .i64)) (q := q59) (x := (chart_count.mk s11 o38 o39).after) 0 S rfl
    obtain rfl : u61 = iv ((chart_count.mk s11 o38 o39).after) := S.mem.know (i := 1) (e := fRep (rI .i64) (u61) ((chart_count.mk s11 o38 o39).after)) rfl
    refine sLoadV1 (vq := q59) 0 (iv ((chart_count.mk s11 o38 o39).after)) S (wN rfl) rfl rfl rfl rfl rfl (lb rfl) fun a S => ?_
    refine sMove (iv ((chart_count.mk s11 o38 o39).after)) S (wN rfl) (.inr rfl) rfl rfl (lb rfl) fun a S => ?_
    refine leafL (leafB (leafT (hK21 _ _ ?_)))
    refine sRegion ?_
    refine sBin (iv (w64 (s12 + 1))) S (wN rfl) rfl rfl rfl (bAdd _ _ _ _ s12 1) rfl (lb rfl) fun a S => ?_
    refine sMove (iv (w64 (s12 + 1))) S (wN rfl) (.inl rfl) rfl rfl (lb rfl) fun a S => ?_
    exact leafL (leafT (⟨((chart_count.mk s11 o38 o39).after, w64 (s12 + 1), gz53), (Option.some.inj h).symm, ⟨_, _, hJ, S.fix [] [8] (by decide) rfl rfl rfl⟩⟩))
  · obtain rfl := hb
    dsimp only at h
    refine list_inR (by repeat (first | exact roundU_out | exact it_out | exact lo_false | refine lo_then ?_ | refine lo_block ?_)) _ rfl _ _ ?_
    refine sNot (b := false) S (wN rfl) rfl rfl rfl (lb rfl) fun a S => ?_
    refine sMove (.bool true) S (wN rfl) (.inl rfl) rfl rfl (lb rfl) fun a S => ?_
    refine sSkip 5 false 49 50 S rfl rfl rfl rfl rfl (lb rfl) fun a S => ?_
    refine sSkip 5 false 49 51 S rfl rfl rfl rfl rfl (lb rfl) fun a S => ?_
    refine sSkip 5 false 49 52 S rfl rfl rfl rfl rfl (lb rfl) fun a S => ?_
    refine sPickT (.bool true) S (wN rfl) rfl rfl rfl rfl rfl (lb rfl) fun a S => ?_
    refine leafL (leafT (hK49 _ _ ?_))
    refine sCondT S rfl rfl ?_
    obtain rfl := Option.some.inj h
    obtain rfl := hu14 _ rfl
    have h := g15
    clear g15
    try dsimp only at h
    exact wp_ret (rThen (rBlock (rThen (rThen (rBlock (sRet (.tuple #[]) S (res0 rfl) (sStopI S hC hJ (Option.some.inj h) _)))))))

end Go.Proofs.Ytdbgkakmhlmpbaa
namespace Go.Proofs.Ytdbgkakmhlmpbaa
open Go.RowKit
set_option linter.unusedVariables false

noncomputable def chart_Check_l1  : Unit → (Int × chart_count) → Option (Unit ⊕ Int) := fun s0 x0 => match s0, x0 with
  | _, (x24, x26) =>
    if x26.e != 0 then
      some (.inr x26.e)
    else
      some (.inl ())
noncomputable def chart_Check_l2  : Unit → (Int × chart_count) → Option (Unit ⊕ Int) := fun s0 x0 => match s0, x0 with
  | _, (x25, x27) =>
    if x27.e != 0 then
      some (.inr x27.e)
    else
      some (.inl ())
noncomputable def F_chart_Check (p0 : api_Chart) : Option Int :=
  if decide (100 < (p0.Rows.length : Int)) then
    some 4
  else
    Option.bind (α := Bool) (
      if decide (p0.Start < 0) then
        some true
      else
        some (decide (200 < p0.Start))) fun o13 =>
    if o13 then
      some 8
    else
      Option.bind (F_chart_counted p0) fun r21 =>
      Option.bind (I_chart_counted_1 r21 _ _ (chart_Check_l2) ()) fun z0 => match z0 with
        | .inl _ =>
          some 0
        | .inr e24 =>
          some e24
set_option maxHeartbeats 4000000 in
set_option maxRecDepth 100000 in
theorem c_chart_Check (E : Nat → Prop) (w0 : World) (p0 : api_Chart) (v0 : Value) (r : Int) (h : F_chart_Check p0 = some r) (S : St0 E [] w0 w0 [] [fRep r_api_Chart (v0) p0]) :
    Calls Try.prog 41 #[v0] w0 (Ret (X := Unit) E [] w0 (fun _ => .int .i64 r) (fun _ => []) (fun _ => [])) := by
  unfold F_chart_Check at h
  obtain ⟨u1, rfl, hu2⟩ := S.know (i := 0) (e := fRep r_api_Chart (v0) p0) rfl
  have S := S.learn (fRep (rL r_api_Row) u1 p0.Rows) hu2
  obtain ⟨ad3, cp4, _, rfl, _⟩ := hu2
  refine sEnterM (args := [.agg #[iv p0.Start, .slice ad3 p0.Rows.length cp4]]) 26 Try.func41 rfl rfl (by simp) S (fun a S => ?_)
  refine sSeq (fun K5 hK5 => ?_)
  refine sRegion ?_
  refine sBox (v := .agg #[iv p0.Start, .slice ad3 p0.Rows.length cp4]) S (wN rfl) rfl rfl [iv p0.Start, .slice ad3 p0.Rows.length cp4] rfl rfl (lb rfl) fun a b6 w S => ?_
  refine sAlloc (iv 0) S (wN rfl) rfl rfl [iv 0] rfl rfl (lb rfl) fun a b7 w S => ?_
  refine leafL (leafT (hK5 _ _ ?_))
  refine sSeq (fun K8 hK8 => ?_)
  refine sSeq (fun K9 hK9 => ?_)
  refine sRegion ?_
  refine sField (b := b6) (off := 0) 1 1 S (wN rfl) rfl rfl rfl rfl rfl (lb rfl) fun a S => ?_
  refine sLoad1 (p := b6) (off := 1) (T := 41) (vs := [iv p0.Start, .slice ad3 p0.Rows.length cp4]) 1 (.slice ad3 p0.Rows.length cp4) S (wN rfl) rfl rfl rfl rfl rfl rfl (lb rfl) fun a S => ?_
  refine sLen (ad := ad3) (m := p0.Rows.length) (c := cp4) S (wN rfl) rfl Try.underlying39 rfl rfl (lb rfl) fun a S => ?_
  refine sBin (.bool (decide (100 < (p0.Rows.length : Int)))) S (wN rfl) rfl rfl rfl (bGt _ _ _ _ .i64 (p0.Rows.length : Int) 100) rfl (lb rfl) fun a S => ?_
  refine leafL (leafT (hK9 _ _ ?_))
  rcases iteSome h with ⟨hc10, h⟩ | ⟨hc10, h⟩
  · refine sCondT S rfl hc10 ?_
    refine sSeq (fun K11 hK11 => ?_)
    refine sRegion ?_
    refine sStore (p := b7) (off := 0) (T := 28) (vs := [iv 0]) (v := iv 4) 0 [iv 4] S (wN rfl) rfl rfl rfl rfl rfl rfl rfl (by simp) rfl fun a w S => ?_
    refine leafL (leafT (hK11 _ _ ?_))
    obtain rfl := Option.some.inj h
    exact wp_ret (rThen (sRetM0 (iv 4) S (rsl1 rfl (rv1 (c := 2) (t := 28) (T := 28) (p := b7) 0 (iv 4) S rfl rfl rfl)) ⟨(), rfl, S.mem.sel [] [] (by decide) rfl rfl⟩))
  refine sCondF S rfl hc10 ?_
  refine wp_skip (leafT (hK8 _ _ ?_))
  refine sSeq (fun K12 hK12 => ?_)
  obtain ⟨t14, h, g15⟩ := bindSome h
  refine sCut (fun a w => ∃ o13, o13 = t14 ∧ St [] E [] w0 26 a w [(1, .pointer (some ⟨b6, 0, none⟩)), (2, .pointer (some ⟨b7, 0, none⟩)), (16, .bool o13)] [eBox b6 41 [iv p0.Start, .slice ad3 p0.Rows.length cp4], eBox b7 28 [iv 0]] [fRep (rL r_api_Row) (.slice ad3 p0.Rows.length cp4) p0.Rows]) ?_ (fun a w hI => ?_)
  · refine sRegion ?_
    refine sField (b := b6) (off := 0) 0 0 S (wN rfl) rfl rfl rfl rfl rfl (lb rfl) fun a S => ?_
    refine sLoad1 (p := b6) (off := 0) (T := 41) (vs := [iv p0.Start, .slice ad3 p0.Rows.length cp4]) 1 (iv p0.Start) S (wN rfl) rfl rfl rfl rfl rfl rfl (lb rfl) fun a S => ?_
    refine sBin (.bool (decide (p0.Start < 0))) S (wN rfl) rfl rfl rfl (bLt _ _ _ _ .i64 p0.Start 0) rfl (lb rfl) fun a S => ?_
    refine sMove (.bool (decide (p0.Start < 0))) S (wN rfl) (.inl rfl) rfl rfl (lb rfl) fun a S => ?_
    rcases iteSome h with ⟨hc16, h⟩ | ⟨hc16, h⟩
    · refine sSkip 3 false 12 13 S rfl rfl rfl hc16 rfl (lb rfl) fun a S => ?_
      refine sSkip 3 false 12 14 S rfl rfl rfl hc16 rfl (lb rfl) fun a S => ?_
      refine sSkip 3 false 12 15 S rfl rfl rfl hc16 rfl (lb rfl) fun a S => ?_
      refine sPickT (.bool true) S (wN rfl) rfl rfl hc16 rfl rfl (lb rfl) fun a S => ?_
      exact leafL (leafT (⟨true, Option.some.inj h, S.fix [1, 0] [0] (by decide) rfl rfl rfl⟩))
    refine sField (b := b6) (off := 0) 0 0 S (wG 3 false 12 rfl rfl rfl hc16) rfl rfl rfl rfl rfl (lb rfl) fun a S => ?_
    refine sLoad1 (p := b6) (off := 0) (T := 41) (vs := [iv p0.Start, .slice ad3 p0.Rows.length cp4]) 1 (iv p0.Start) S (wG 3 false 12 rfl rfl rfl hc16) rfl rfl rfl rfl rfl rfl (lb rfl) fun a S => ?_
    refine sBin (.bool (decide (200 < p0.Start))) S (wG 3 false 12 rfl rfl rfl hc16) rfl rfl rfl (bGt _ _ _ _ .i64 p0.Start 200) rfl (lb rfl) fun a S => ?_
    refine sPickF (.bool (decide (200 < p0.Start))) S (wN rfl) rfl rfl hc16 rfl rfl (lb rfl) fun a S => ?_
    exact leafL (leafT (⟨decide (200 < p0.Start), Option.some.inj h, S.fix [1, 0] [0] (by decide) rfl rfl rfl⟩))
  obtain ⟨o13, rfl, S⟩ := hI
  have h := g15
  clear g15
  try dsimp only at h
  rcases iteSome h with ⟨hc17, h⟩ | ⟨hc17, h⟩
  · refine sCondT S rfl hc17 ?_
    refine sSeq (fun K18 hK18 => ?_)
    refine sRegion ?_
    refine sStore (p := b7) (off := 0) (T := 28) (vs := [iv 0]) (v := iv 8) 1 [iv 8] S (wN rfl) rfl rfl rfl rfl rfl rfl rfl (by simp) rfl fun a w S => ?_
    refine leafL (leafT (hK18 _ _ ?_))
    obtain rfl := Option.some.inj h
    exact wp_ret (rThen (sRetM0 (iv 8) S (rsl1 rfl (rv1 (c := 2) (t := 28) (T := 28) (p := b7) 0 (iv 8) S rfl rfl rfl)) ⟨(), rfl, S.mem.sel [] [] (by decide) rfl rfl⟩))
  refine sCondF S rfl hc17 ?_
  refine wp_skip (leafT (hK12 _ _ ?_))
  refine sSeq (fun K19 hK19 => ?_)
  refine sSeq (fun K20 hK20 => ?_)
  refine sRegion ?_
  refine sLoadN (p := b6) (off := 0) (T := 41) (vs := [iv p0.Start, .slice ad3 p0.Rows.length cp4]) 0 [iv p0.Start, .slice ad3 p0.Rows.length cp4] S (wN rfl) rfl rfl rfl rfl rfl rfl rfl (lb rfl) fun a S => ?_
  obtain ⟨r21, hx22, h⟩ := bindSome h
  have S := S.learn (fRep r_api_Chart (.agg #[iv p0.Start, .slice ad3 p0.Rows.length cp4]) p0) ⟨_, rfl, S.mem.know (i := 0) (e := fRep (rL r_api_Row) (.slice ad3 p0.Rows.length cp4) p0.Rows) rfl⟩
  refine sCall (X := Value) (f := 64) (vs := [.agg #[iv p0.Start, .slice ad3 p0.Rows.length cp4]]) (val := c_chart_counted_val r21) (B' := fun _ => []) (D' := c_chart_counted_D r21) [] [eBox b6 41 [iv p0.Start, .slice ad3 p0.Rows.length cp4], eBox b7 28 [iv 0]] [fRep r_api_Chart (.agg #[iv p0.Start, .slice ad3 p0.Rows.length cp4]) p0] [0, 1] [0] S (wN rfl) rfl callee64 rfl (by decide) rfl rfl (fun E1 w1 S1 => c_chart_counted E1 w1 p0 (.agg #[iv p0.Start, .slice ad3 p0.Rows.length cp4]) r21 hx22 S1) rfl (lb rfl) fun u23 a w S => ?_
  refine leafL (leafT (hK20 _ _ ?_))
  refine wp_block ?_
  obtain ⟨t35, hl36, g34⟩ := bindSome h
  replace S : St [] E [] w0 26 a w [(2, .pointer (some ⟨b7, 0, none⟩)), (18, .func (.func 85) #[] #[u23])] [eBox b7 28 [iv 0]] [fPtr r_api_Chart (u23) r21] := S.fix [1] [0] (by decide) rfl rfl rfl
  refine sRange2 (B := chart_Check_l2) (fun s0 L D => match s0 with | _ => L = [eBox b7 28 [iv 0]] ∧ D = [fPtr r_api_Chart (u23) r21]) (fun t0 c L D => match t0 with | e24 => c = .ret ∧ L = [eBox b7 28 [iv e24]] ∧ D = []) [0] S hl36 rfl callee85 (it_chart_counted_1 r21 u23) rfl (by decide) (by decide) ⟨rfl, rfl⟩ ?_ ?_ ?_
  · intro E l0 s0 x25 x27 u26 u28 b L D K a w0 hK hIL hB S
    clear hl36 g34 h hK
    unfold chart_Check_l2 at hB
    dsimp only at hB hIL
    obtain ⟨rfl, rfl⟩ := hIL
    have h := hB
    clear hB
    obtain rfl : u26 = iv x25 := S.mem.know (i := 0) (e := fRep (rI .i64) (u26) x25) rfl
    obtain rfl : u28 = .agg #[iv x27.before, iv x27.after, iv x27.e] := S.mem.know (i := 1) (e := fRep r_chart_count (u28) x27) rfl
    refine sRegionR (by repeat (first | exact roundU_out | exact it_out | exact lo_false | refine lo_then ?_ | refine lo_block ?_)) rfl ?_
    refine sAlloc (.agg #[iv 0, iv 0, iv 0]) S (wN rfl) rfl rfl [iv 0, iv 0, iv 0] rfl rfl (lb rfl) fun a b29 w S => ?_
    refine sStore (p := b29) (off := 0) (T := 120) (vs := [iv 0, iv 0, iv 0]) (v := .agg #[iv x27.before, iv x27.after, iv x27.e]) 0 [iv x27.before, iv x27.after, iv x27.e] S (wN rfl) rfl rfl rfl rfl rfl rfl rfl (by simp) rfl fun a w S => ?_
    refine leafL (leafT (⟨_, _, _, S, fun K a w0 hK S => ?_⟩))
    refine wpIn_block ?_
    refine sSeqR (fun K30 hK30 => ?_)
    refine sRegionR (by repeat (first | exact roundU_out | exact it_out | exact lo_false | refine lo_then ?_ | refine lo_block ?_)) rfl ?_
    refine sField (b := b29) (off := 0) 2 2 S (wN rfl) rfl rfl rfl rfl rfl (lb rfl) fun a S => ?_
    refine sLoad1 (p := b29) (off := 2) (T := 120) (vs := [iv x27.before, iv x27.after, iv x27.e]) 0 (iv x27.e) S (wN rfl) rfl rfl rfl rfl rfl rfl (lb rfl) fun a S => ?_
    refine sBin (.bool (x27.e != 0)) S (wN rfl) rfl rfl rfl (bNe _ _ _ _ .i64 x27.e 0) rfl (lb rfl) fun a S => ?_
    refine leafL (leafT (hK30 _ _ ?_))
    rcases iteSome h with ⟨hc31, h⟩ | ⟨hc31, h⟩
    rotate_left
    · refine sCondFR S rfl hc31 ?_
      exact wpIn_skip (leafB (rnN () _ _ [] (Option.some.inj h) ⟨rfl, rfl⟩ (S.fix [1] [2] (by decide) rfl rfl rfl)))
    refine sCondTR S rfl hc31 ?_
    refine sSeqR (fun K32 hK32 => ?_)
    refine sRegionR (by repeat (first | exact roundU_out | exact it_out | exact lo_false | refine lo_then ?_ | refine lo_block ?_)) rfl ?_
    refine sField (b := b29) (off := 0) 2 2 S (wN rfl) rfl rfl rfl rfl rfl (lb rfl) fun a S => ?_
    refine sLoad1 (p := b29) (off := 2) (T := 120) (vs := [iv x27.before, iv x27.after, iv x27.e]) 0 (iv x27.e) S (wN rfl) rfl rfl rfl rfl rfl rfl (lb rfl) fun a S => ?_
    refine sStore (p := b7) (off := 0) (T := 28) (vs := [iv 0]) (v := iv x27.e) 1 [iv x27.e] S (wN rfl) rfl rfl rfl rfl rfl rfl rfl (by simp) rfl fun a w S => ?_
    refine leafL (leafT (hK32 _ _ ?_))
    exact wpIn_ret (rBlock (rnR x27.e _ _ [] (Option.some.inj h) ⟨rfl, rfl, rfl⟩ (S.fix [0] [] (by decide) rfl rfl rfl)))
  · intro dk33 s0 L D a w hr hIL S
    clear h
    obtain rfl := hr
    dsimp only at g34 hIL
    obtain ⟨rfl, rfl⟩ := hIL
    have h := g34
    clear g34 hl36
    replace S : St [mark dk33] E [] w0 26 a w [(2, .pointer (some ⟨b7, 0, none⟩)), (18, .func (.func 85) #[] #[u23])] [eBox b7 28 [iv 0], eDef dk33] [fPtr r_api_Chart (u23) r21] := S
    refine leafB (leafT (hK19 _ _ ?_))
    refine sSeq (fun K37 hK37 => ?_)
    refine sRegion ?_
    refine sStore (p := b7) (off := 0) (T := 28) (vs := [iv 0]) (v := iv 0) 0 [iv 0] S (wN rfl) rfl rfl rfl rfl rfl rfl rfl (by simp) rfl fun a w S => ?_
    refine leafL (leafT (hK37 _ _ ?_))
    refine wp_ret (sRetM1 1 S rfl (fun a w S => ?_))
    obtain rfl := Option.some.inj h
    exact sFin (iv 0) S (rsl1 rfl (rv1 (c := 2) (t := 28) (T := 28) (p := b7) 0 (iv 0) S rfl rfl rfl)) ⟨(), rfl, S.mem.sel [] [] (by decide) rfl rfl⟩
  · intro dk33 c0 e24 L D a w hr hIX S
    clear h
    obtain rfl := hr
    dsimp only at g34 hIX
    obtain ⟨rfl, rfl, rfl⟩ := hIX
    have h := g34
    clear g34 hl36
    replace S : St [mark dk33] E [] w0 26 a w [(2, .pointer (some ⟨b7, 0, none⟩)), (18, .func (.func 85) #[] #[u23])] [eBox b7 28 [iv e24], eDef dk33] [] := S
    refine wp_ret (rBlock (rThen (sRetM1 1 S rfl (fun a w S => ?_))))
    obtain rfl := Option.some.inj h
    exact sFin (iv e24) S (rsl1 rfl (rv1 (c := 2) (t := 28) (T := 28) (p := b7) 0 (iv e24) S rfl rfl rfl)) ⟨(), rfl, S.mem.sel [] [] (by decide) rfl rfl⟩

end Go.Proofs.Ytdbgkakmhlmpbaa
namespace Go.Proofs.Ytdbgkakmhlmpbaa
open Go.RowKit
set_option linter.unusedVariables false

noncomputable def raddleref26_Check_l1 (p0 : api_Chart) : (Int × Int) → Option ((Int × Int) ⊕ (Int ⊕ Unit)) := fun s0 => match s0 with
  | (s22, s23) =>
    if decide (s23 < (p0.Rows.length : Int)) then
      Option.bind (idxO p0.Rows s23) fun x32 =>
      Option.bind (F_raddleref25_Uses x32.Cells) fun r41 =>
      if r41.2 != 0 then
        some (.inr (.inl r41.2))
      else
        if r41.1 != s22 then
          some (.inr (.inl 26))
        else
          Option.bind (F_raddleref25_Makes x32.Cells) fun r58 =>
          some (.inl (r58.1, w64 (s23 + 1)))
    else
      some (.inr (.inr ()))
noncomputable def F_raddleref26_Check (p0 : api_Chart) : Option Int :=
  if decide (100 < (p0.Rows.length : Int)) then
    some 4
  else
    Option.bind (α := Bool) (
      if decide (p0.Start < 0) then
        some true
      else
        some (decide (200 < p0.Start))) fun o12 =>
    if o12 then
      some 8
    else
      Option.bind (α := Unit ⊕ Int) (
        Option.bind (whileO (raddleref26_Check_l1 p0) (p0.Start, 0)) fun z0 => match z0 with
          | .inl z =>
            some (.inr z)
          | .inr _ =>
            some (.inl ())) fun z0 => match z0 with
        | .inl _ =>
          some 0
        | .inr z =>
          some z
set_option maxHeartbeats 4000000 in
set_option maxRecDepth 100000 in
theorem c_raddleref26_Check (E : Nat → Prop) (w0 : World) (p0 : api_Chart) (v0 : Value) (r : Int) (h : F_raddleref26_Check p0 = some r) (S : St0 E [] w0 w0 [] [fRep r_api_Chart (v0) p0]) :
    Calls Try.prog 30 #[v0] w0 (Ret (X := Unit) E [] w0 (fun _ => .int .i64 r) (fun _ => []) (fun _ => [])) := by
  unfold F_raddleref26_Check at h
  obtain ⟨u1, rfl, hu2⟩ := S.know (i := 0) (e := fRep r_api_Chart (v0) p0) rfl
  have S := S.learn (fRep (rL r_api_Row) u1 p0.Rows) hu2
  obtain ⟨ad3, cp4, _, rfl, _⟩ := hu2
  refine sEnter (args := [.agg #[iv p0.Start, .slice ad3 p0.Rows.length cp4]]) 54 Try.func30 rfl rfl (by simp) S (fun a S => ?_)
  refine sSeq (fun K5 hK5 => ?_)
  refine sRegion ?_
  refine sBox (v := .agg #[iv p0.Start, .slice ad3 p0.Rows.length cp4]) S (wN rfl) rfl rfl [iv p0.Start, .slice ad3 p0.Rows.length cp4] rfl rfl (lb rfl) fun a b6 w S => ?_
  refine sMove (iv 0) S (wN rfl) (.inr rfl) rfl rfl (lb rfl) fun a S => ?_
  refine leafL (leafT (hK5 _ _ ?_))
  refine sSeq (fun K7 hK7 => ?_)
  refine sSeq (fun K8 hK8 => ?_)
  refine sRegion ?_
  refine sField (b := b6) (off := 0) 1 1 S (wN rfl) rfl rfl rfl rfl rfl (lb rfl) fun a S => ?_
  refine sLoad1 (p := b6) (off := 1) (T := 41) (vs := [iv p0.Start, .slice ad3 p0.Rows.length cp4]) 0 (.slice ad3 p0.Rows.length cp4) S (wN rfl) rfl rfl rfl rfl rfl rfl (lb rfl) fun a S => ?_
  refine sLen (ad := ad3) (m := p0.Rows.length) (c := cp4) S (wN rfl) rfl Try.underlying39 rfl rfl (lb rfl) fun a S => ?_
  refine sBin (.bool (decide (100 < (p0.Rows.length : Int)))) S (wN rfl) rfl rfl rfl (bGt _ _ _ _ .i64 (p0.Rows.length : Int) 100) rfl (lb rfl) fun a S => ?_
  refine leafL (leafT (hK8 _ _ ?_))
  rcases iteSome h with ⟨hc9, h⟩ | ⟨hc9, h⟩
  · refine sCondT S rfl hc9 ?_
    refine sSeq (fun K10 hK10 => ?_)
    refine sRegion ?_
    refine sMove (iv 4) S (wN rfl) (.inr rfl) rfl rfl (lb rfl) fun a S => ?_
    refine leafL (leafT (hK10 _ _ ?_))
    obtain rfl := Option.some.inj h
    exact wp_ret (rThen (sRet (iv 4) S (rsl1 rfl (rvT (t := 2) (v := iv 4) S rfl)) ⟨(), rfl, S.mem.sel [] [] (by decide) rfl rfl⟩))
  refine sCondF S rfl hc9 ?_
  refine wp_skip (leafT (hK7 _ _ ?_))
  refine sSeq (fun K11 hK11 => ?_)
  obtain ⟨t13, h, g14⟩ := bindSome h
  refine sCut (fun a w => ∃ o12, o12 = t13 ∧ St [] E [] w0 54 a w [(1, .pointer (some ⟨b6, 0, none⟩)), (18, .bool o12)] [eBox b6 41 [iv p0.Start, .slice ad3 p0.Rows.length cp4]] [fRep (rL r_api_Row) (.slice ad3 p0.Rows.length cp4) p0.Rows]) ?_ (fun a w hI => ?_)
  · refine sRegion ?_
    refine sField (b := b6) (off := 0) 0 0 S (wN rfl) rfl rfl rfl rfl rfl (lb rfl) fun a S => ?_
    refine sLoad1 (p := b6) (off := 0) (T := 41) (vs := [iv p0.Start, .slice ad3 p0.Rows.length cp4]) 0 (iv p0.Start) S (wN rfl) rfl rfl rfl rfl rfl rfl (lb rfl) fun a S => ?_
    refine sBin (.bool (decide (p0.Start < 0))) S (wN rfl) rfl rfl rfl (bLt _ _ _ _ .i64 p0.Start 0) rfl (lb rfl) fun a S => ?_
    refine sMove (.bool (decide (p0.Start < 0))) S (wN rfl) (.inl rfl) rfl rfl (lb rfl) fun a S => ?_
    rcases iteSome h with ⟨hc15, h⟩ | ⟨hc15, h⟩
    · refine sSkip 3 false 14 15 S rfl rfl rfl hc15 rfl (lb rfl) fun a S => ?_
      refine sSkip 3 false 14 16 S rfl rfl rfl hc15 rfl (lb rfl) fun a S => ?_
      refine sSkip 3 false 14 17 S rfl rfl rfl hc15 rfl (lb rfl) fun a S => ?_
      refine sPickT (.bool true) S (wN rfl) rfl rfl hc15 rfl rfl (lb rfl) fun a S => ?_
      exact leafL (leafT (⟨true, Option.some.inj h, S.fix [0] [0] (by decide) rfl rfl rfl⟩))
    refine sField (b := b6) (off := 0) 0 0 S (wG 3 false 14 rfl rfl rfl hc15) rfl rfl rfl rfl rfl (lb rfl) fun a S => ?_
    refine sLoad1 (p := b6) (off := 0) (T := 41) (vs := [iv p0.Start, .slice ad3 p0.Rows.length cp4]) 0 (iv p0.Start) S (wG 3 false 14 rfl rfl rfl hc15) rfl rfl rfl rfl rfl rfl (lb rfl) fun a S => ?_
    refine sBin (.bool (decide (200 < p0.Start))) S (wG 3 false 14 rfl rfl rfl hc15) rfl rfl rfl (bGt _ _ _ _ .i64 p0.Start 200) rfl (lb rfl) fun a S => ?_
    refine sPickF (.bool (decide (200 < p0.Start))) S (wN rfl) rfl rfl hc15 rfl rfl (lb rfl) fun a S => ?_
    exact leafL (leafT (⟨decide (200 < p0.Start), Option.some.inj h, S.fix [0] [0] (by decide) rfl rfl rfl⟩))
  obtain ⟨o12, rfl, S⟩ := hI
  have h := g14
  clear g14
  try dsimp only at h
  rcases iteSome h with ⟨hc16, h⟩ | ⟨hc16, h⟩
  · refine sCondT S rfl hc16 ?_
    refine sSeq (fun K17 hK17 => ?_)
    refine sRegion ?_
    refine sMove (iv 8) S (wN rfl) (.inr rfl) rfl rfl (lb rfl) fun a S => ?_
    refine leafL (leafT (hK17 _ _ ?_))
    obtain rfl := Option.some.inj h
    exact wp_ret (rThen (sRet (iv 8) S (rsl1 rfl (rvT (t := 2) (v := iv 8) S rfl)) ⟨(), rfl, S.mem.sel [] [] (by decide) rfl rfl⟩))
  refine sCondF S rfl hc16 ?_
  refine wp_skip (leafT (hK11 _ _ ?_))
  refine sSeq (fun K18 hK18 => ?_)
  refine sRegion ?_
  refine sField (b := b6) (off := 0) 0 0 S (wN rfl) rfl rfl rfl rfl rfl (lb rfl) fun a S => ?_
  refine sLoad1 (p := b6) (off := 0) (T := 41) (vs := [iv p0.Start, .slice ad3 p0.Rows.length cp4]) 0 (iv p0.Start) S (wN rfl) rfl rfl rfl rfl rfl rfl (lb rfl) fun a S => ?_
  refine sMove (iv p0.Start) S (wN rfl) (.inr rfl) rfl rfl (lb rfl) fun a S => ?_
  refine leafL (leafT (hK18 _ _ ?_))
  obtain ⟨t19, h, g20⟩ := bindSome h
  refine sCut (fun a w => .inl () = t19 ∧ St [] E [] w0 54 a w [] [] []) ?_ (fun a w hI => ?_)
  rotate_left
  · obtain ⟨rfl, S⟩ := hI
    have h := g20
    clear g20
    try dsimp only at h
    refine sSeq (fun K60 hK60 => ?_)
    refine sRegion ?_
    refine sMove (iv 0) S (wN rfl) (.inr rfl) rfl rfl (lb rfl) fun a S => ?_
    refine leafL (leafT (hK60 _ _ ?_))
    obtain rfl := Option.some.inj h
    exact wp_ret (sRet (iv 0) S (rsl1 rfl (rvT (t := 2) (v := iv 0) S rfl)) ⟨(), rfl, S.mem.sel [] [] (by decide) rfl rfl⟩)
  refine sSeq (fun K21 hK21 => ?_)
  refine sRegion ?_
  refine sMove (iv 0) S (wN rfl) (.inr rfl) rfl rfl (lb rfl) fun a S => ?_
  refine leafL (leafT (hK21 _ _ ?_))
  refine wp_block ?_
  obtain ⟨t26, hl, g25⟩ := bindSome h
  refine sLoop hl (fun s0 a w => match s0 with | (s22, s23) => St [] E [] w0 54 a w [(1, .pointer (some ⟨b6, 0, none⟩)), (3, iv s22), (4, iv s23)] [eBox b6 41 [iv p0.Start, .slice ad3 p0.Rows.length cp4]] [fRep (rL r_api_Row) (.slice ad3 p0.Rows.length cp4) p0.Rows]) (S.fix [0] [0] (by decide) rfl rfl rfl) ?_
  clear hl h
  intro s0 a w c0 hI h hu24
  obtain ⟨s22, s23⟩ := s0
  unfold raddleref26_Check_l1 at h
  dsimp only at h hI
  have S := hI
  refine sSeq (fun K27 hK27 => ?_)
  refine sSeq (fun K28 hK28 => ?_)
  refine sRegion ?_
  refine sMove (iv s23) S (wN rfl) (.inl rfl) rfl rfl (lb rfl) fun a S => ?_
  refine sField (b := b6) (off := 0) 1 1 S (wN rfl) rfl rfl rfl rfl rfl (lb rfl) fun a S => ?_
  refine sLoad1 (p := b6) (off := 1) (T := 41) (vs := [iv p0.Start, .slice ad3 p0.Rows.length cp4]) 0 (.slice ad3 p0.Rows.length cp4) S (wN rfl) rfl rfl rfl rfl rfl rfl (lb rfl) fun a S => ?_
  refine sLen (ad := ad3) (m := p0.Rows.length) (c := cp4) S (wN rfl) rfl Try.underlying39 rfl rfl (lb rfl) fun a S => ?_
  refine sBin (.bool (decide (s23 < (p0.Rows.length : Int)))) S (wN rfl) rfl rfl rfl (bLt _ _ _ _ .i64 s23 (p0.Rows.length : Int)) rfl (lb rfl) fun a S => ?_
  refine leafL (leafT (hK28 _ _ ?_))
  rcases iteSome h with ⟨hc29, h⟩ | ⟨hc29, h⟩
  rotate_left
  · refine sCondF S rfl hc29 ?_
    obtain rfl := Option.some.inj h
    obtain rfl := hu24 _ rfl
    have h := g25
    clear g25
    try dsimp only at h
    exact wp_exit (xThen (xThen (xHit (leafT (⟨Option.some.inj h, S.fix [] [] (by decide) rfl rfl rfl⟩)))))
  refine sCondT S rfl hc29 ?_
  refine wp_skip (leafT (hK27 _ _ ?_))
  refine sSeq (fun K30 hK30 => ?_)
  refine wp_block ?_
  refine sSeq (fun K31 hK31 => ?_)
  refine sRegion ?_
  refine sField (b := b6) (off := 0) 1 1 S (wN rfl) rfl rfl rfl rfl rfl (lb rfl) fun a S => ?_
  refine sLoad1 (p := b6) (off := 1) (T := 41) (vs := [iv p0.Start, .slice ad3 p0.Rows.length cp4]) 0 (.slice ad3 p0.Rows.length cp4) S (wN rfl) rfl rfl rfl rfl rfl rfl (lb rfl) fun a S => ?_
  refine sMove (iv s23) S (wN rfl) (.inl rfl) rfl rfl (lb rfl) fun a S => ?_
  obtain ⟨x32, hx33, h⟩ := bindSome h
  obtain ⟨q34, hq35, S⟩ := pIdx (P := Try.prog) (r := r_api_Row) (v := .slice ad3 p0.Rows.length cp4) (xs := p0.Rows) (j := s23) 39 72 0 S Try.underlying39 rfl rfl hx33
  refine sIdxV (v := .slice ad3 p0.Rows.length cp4) (k := .i64) (j := s23) S (wN rfl) rfl rfl rfl hq35 rfl (lb rfl) fun a S => ?_
  obtain ⟨q36, hq37, S⟩ := pFld (P := Try.prog) (r := r_api_Row) (s2 := (rL r_api_Stitch)) (g := (·.Cells)) (q := q34) (z := x32) 72 1 0 1 S rfl rfl comp_api_Row_Cells
  refine sFldV (q := q34) S (wN rfl) rfl rfl hq37 rfl (lb rfl) fun a S => ?_
  obtain ⟨u38, S⟩ := pLoad (r := (rL r_api_Stitch)) (q := q36) (x := x32.Cells) 0 S rfl
  obtain ⟨ad39, cp40, _, rfl, _⟩ := S.mem.know (i := 1) (e := fRep (rL r_api_Stitch) (u38) x32.Cells) rfl
  refine sLoadV1 (vq := q36) 0 (.slice ad39 x32.Cells.length cp40) S (wN rfl) rfl rfl rfl rfl rfl (lb rfl) fun a S => ?_
  obtain ⟨r41, hx42, h⟩ := bindSome h
  have S1 := S.mem
  refine sCallQ (X := Unit) (f := 50) (vs := [.slice ad39 x32.Cells.length cp40]) (val := fun _ => .tuple #[iv r41.1, iv r41.2]) S (wN rfl) rfl callee50 rfl (S1.quiet [1] rfl) (fun E1 w1 S1 => c_raddleref25_Uses E1 w1 x32.Cells (.slice ad39 x32.Cells.length cp40) r41 hx42 S1) rfl (lb rfl) fun _ a w S => ?_
  refine sMove (.tuple #[iv r41.1, iv r41.2]) S (wN rfl) (.inl rfl) rfl rfl (lb rfl) fun a S => ?_
  refine sExtract (vs := [iv r41.1, iv r41.2]) (iv r41.1) S (wN rfl) rfl rfl rfl rfl (lb rfl) fun a S => ?_
  refine sExtract (vs := [iv r41.1, iv r41.2]) (iv r41.2) S (wN rfl) rfl rfl rfl rfl (lb rfl) fun a S => ?_
  refine sMove (iv r41.1) S (wN rfl) (.inr rfl) rfl rfl (lb rfl) fun a S => ?_
  refine sMove (iv r41.2) S (wN rfl) (.inr rfl) rfl rfl (lb rfl) fun a S => ?_
  refine leafL (leafT (hK31 _ _ ?_))
  refine sSeq (fun K43 hK43 => ?_)
  refine sSeq (fun K44 hK44 => ?_)
  refine sRegion ?_
  refine sMove (iv r41.2) S (wN rfl) (.inl rfl) rfl rfl (lb rfl) fun a S => ?_
  refine sBin (.bool (r41.2 != 0)) S (wN rfl) rfl rfl rfl (bNe _ _ _ _ .i64 r41.2 0) rfl (lb rfl) fun a S => ?_
  refine leafL (leafT (hK44 _ _ ?_))
  rcases iteSome h with ⟨hc45, h⟩ | ⟨hc45, h⟩
  · refine sCondT S rfl hc45 ?_
    refine sSeq (fun K46 hK46 => ?_)
    refine sRegion ?_
    refine sMove (iv r41.2) S (wN rfl) (.inl rfl) rfl rfl (lb rfl) fun a S => ?_
    refine sMove (iv r41.2) S (wN rfl) (.inr rfl) rfl rfl (lb rfl) fun a S => ?_
    refine leafL (leafT (hK46 _ _ ?_))
    obtain rfl := Option.some.inj h
    obtain rfl := hu24 _ rfl
    have h := g25
    clear g25
    try dsimp only at h
    obtain rfl := Option.some.inj h
    have h := g20
    clear g20
    try dsimp only at h
    obtain rfl := Option.some.inj h
    exact wp_ret (rThen (rBlock (rThen (rThen (rBlock (rThen (sRet (iv r41.2) S (rsl1 rfl (rvT (t := 2) (v := iv r41.2) S rfl)) ⟨(), rfl, S.mem.sel [] [] (by decide) rfl rfl⟩)))))))
  refine sCondF S rfl hc45 ?_
  refine wp_skip (leafT (hK43 _ _ ?_))
  refine sSeq (fun K47 hK47 => ?_)
  refine sSeq (fun K48 hK48 => ?_)
  refine sRegion ?_
  refine sMove (iv r41.1) S (wN rfl) (.inl rfl) rfl rfl (lb rfl) fun a S => ?_
  refine sMove (iv s22) S (wN rfl) (.inl rfl) rfl rfl (lb rfl) fun a S => ?_
  refine sBin (.bool (r41.1 != s22)) S (wN rfl) rfl rfl rfl (bNe _ _ _ _ .i64 r41.1 s22) rfl (lb rfl) fun a S => ?_
  refine leafL (leafT (hK48 _ _ ?_))
  rcases iteSome h with ⟨hc49, h⟩ | ⟨hc49, h⟩
  · refine sCondT S rfl hc49 ?_
    refine sSeq (fun K50 hK50 => ?_)
    refine sRegion ?_
    refine sMove (iv 26) S (wN rfl) (.inr rfl) rfl rfl (lb rfl) fun a S => ?_
    refine leafL (leafT (hK50 _ _ ?_))
    obtain rfl := Option.some.inj h
    obtain rfl := hu24 _ rfl
    have h := g25
    clear g25
    try dsimp only at h
    obtain rfl := Option.some.inj h
    have h := g20
    clear g20
    try dsimp only at h
    obtain rfl := Option.some.inj h
    exact wp_ret (rThen (rBlock (rThen (rThen (rBlock (rThen (sRet (iv 26) S (rsl1 rfl (rvT (t := 2) (v := iv 26) S rfl)) ⟨(), rfl, S.mem.sel [] [] (by decide) rfl rfl⟩)))))))
  refine sCondF S rfl hc49 ?_
  refine wp_skip (leafT (hK47 _ _ ?_))
  refine sRegion ?_
  refine sField (b := b6) (off := 0) 1 1 S (wN rfl) rfl rfl rfl rfl rfl (lb rfl) fun a S => ?_
  refine sLoad1 (p := b6) (off := 1) (T := 41) (vs := [iv p0.Start, .slice ad3 p0.Rows.length cp4]) 0 (.slice ad3 p0.Rows.length cp4) S (wN rfl) rfl rfl rfl rfl rfl rfl (lb rfl) fun a S => ?_
  refine sMove (iv s23) S (wN rfl) (.inl rfl) rfl rfl (lb rfl) fun a S => ?_
  obtain ⟨q51, hq52, S⟩ := pIdx (P := Try.prog) (r := r_api_Row) (v := .slice ad3 p0.Rows.length cp4) (xs := p0.Rows) (j := s23) 39 72 4 S Try.underlying39 rfl rfl hx33
  refine sIdxV (v := .slice ad3 p0.Rows.length cp4) (k := .i64) (j := s23) S (wN rfl) rfl rfl rfl hq52 rfl (lb rfl) fun a S => ?_
  obtain ⟨q53, hq54, S⟩ := pFld (P := Try.prog) (r := r_api_Row) (s2 := (rL r_api_Stitch)) (g := (·.Cells)) (q := q51) (z := x32) 72 1 0 1 S rfl rfl comp_api_Row_Cells
  refine sFldV (q := q51) S (wN rfl) rfl rfl hq54 rfl (lb rfl) fun a S => ?_
  obtain ⟨u55, S⟩ := pLoad (r := (rL r_api_Stitch)) (q := q53) (x := x32.Cells) 0 S rfl
  obtain ⟨ad56, cp57, _, rfl, _⟩ := S.mem.know (i := 1) (e := fRep (rL r_api_Stitch) (u55) x32.Cells) rfl
  refine sLoadV1 (vq := q53) 0 (.slice ad56 x32.Cells.length cp57) S (wN rfl) rfl rfl rfl rfl rfl (lb rfl) fun a S => ?_
  obtain ⟨r58, hx59, h⟩ := bindSome h
  have S1 := S.mem
  refine sCallQ (X := Unit) (f := 51) (vs := [.slice ad56 x32.Cells.length cp57]) (val := fun _ => .tuple #[iv r58.1, iv r58.2]) S (wN rfl) rfl callee51 rfl (S1.quiet [1] rfl) (fun E1 w1 S1 => c_raddleref25_Makes E1 w1 x32.Cells (.slice ad56 x32.Cells.length cp57) r58 hx59 S1) rfl (lb rfl) fun _ a w S => ?_
  refine sMove (.tuple #[iv r58.1, iv r58.2]) S (wN rfl) (.inl rfl) rfl rfl (lb rfl) fun a S => ?_
  refine sExtract (vs := [iv r58.1, iv r58.2]) (iv r58.1) S (wN rfl) rfl rfl rfl rfl (lb rfl) fun a S => ?_
  refine sExtract (vs := [iv r58.1, iv r58.2]) (iv r58.2) S (wN rfl) rfl rfl rfl rfl (lb rfl) fun a S => ?_
  refine sMove (iv r58.1) S (wN rfl) (.inr rfl) rfl rfl (lb rfl) fun a S => ?_
  refine leafL (leafB (leafT (hK30 _ _ ?_)))
  refine sRegion ?_
  refine sMove (iv s23) S (wN rfl) (.inl rfl) rfl rfl (lb rfl) fun a S => ?_
  refine sBin (iv (w64 (s23 + 1))) S (wN rfl) rfl rfl rfl (bAdd _ _ _ _ s23 1) rfl (lb rfl) fun a S => ?_
  refine sMove (iv (w64 (s23 + 1))) S (wN rfl) (.inr rfl) rfl rfl (lb rfl) fun a S => ?_
  exact leafL (leafT (⟨(r58.1, w64 (s23 + 1)), (Option.some.inj h).symm, (S.fix [0] [8] (by decide) rfl rfl rfl)⟩))

end Go.Proofs.Ytdbgkakmhlmpbaa
namespace Go.Proofs.Ytdbgkakmhlmpbaa
open Go.RowKit
set_option linter.unusedVariables false

def wfR (rows : List api_Row) : Prop := ∀ r, r ∈ rows → ∀ p, p ∈ r.Cells → wfS p
/-- the error of rows behind n loops -/
def chkR : Int → List api_Row → Int
  | _, [] => 0
  | n, r :: rs => if allS r.Cells ≠ 0 then allS r.Cells else if sm usedS r.Cells ≠ n then 26 else chkR (sm madeS r.Cells) rs
/-- what the iterator goes over -/
def ctl : Nat → Int → List api_Row → List (Int × chart_count)
  | _, _, [] => []
  | i, n, r :: rs => if allS r.Cells ≠ 0 then [((i : Int), ⟨n, 0, allS r.Cells⟩)] else if sm usedS r.Cells ≠ n then [((i : Int), ⟨n, 0, 26⟩)] else ((i : Int), ⟨n, sm madeS r.Cells, 0⟩) :: ctl (i + 1) (sm madeS r.Cells) rs
theorem counted_loop {σ τ : Type} (c : api_Chart) (hw : wfR c.Rows) (hl : c.Rows.length ≤ 1000000000) (B : σ → (Int × chart_count) → Option (σ ⊕ τ)) : ∀ (rs : List api_Row) (i : Nat) (n : Int) (z : σ), c.Rows.drop i = rs → (whileO (chart_counted_1_l1 c B) (n, (i : Int), z)).bind fin3 = foldO B z (ctl i n rs) := by
  intro rs
  induction rs with
  | nil =>
    intro i n z hd
    have hi : c.Rows.length ≤ i := by
      have := congrArg List.length hd
      simp at this; omega
    have : chart_counted_1_l1 c B (n, (i : Int), z) = some (.inr (.inr z)) := by
      unfold chart_counted_1_l1
      simp only [dF (show ¬ (i : Int) < (c.Rows.length : Int) by omega), Bool.false_eq_true, if_false]
    rw [whileO_done this]
    rfl
  | cons r rs ih =>
    intro i n z hd
    have hi : i < c.Rows.length := by
      have := congrArg List.length hd
      simp at this; omega
    have hr : c.Rows[i] = r := by
      have := List.getElem_drop (xs := c.Rows) (i := i) (j := 0) (h := by rw [hd]; simp)
      simp only [hd, List.getElem_cons_zero, Nat.add_zero] at this
      exact this.symm
    have hrs : c.Rows.drop (i + 1) = rs := by
      rw [← List.drop_drop, hd]; rfl
    have hwr : ∀ p, p ∈ r.Cells → wfS p := hw r (hr ▸ List.getElem_mem hi)
    have hs : w64 ((i : Int) + 1) = ((i + 1 : Nat) : Int) := w64_succ (by omega)
    simp only [ctl]
    by_cases ha : allS r.Cells = 0
    · have eu : F_stitch_Uses r.Cells = some (sm usedS r.Cells, 0) := by rw [uses_eq hwr, if_pos ha]
      have em : F_stitch_Makes r.Cells = some (sm madeS r.Cells, 0) := by rw [makes_eq hwr, if_pos ha]
      rw [if_neg (by simp [ha])]
      by_cases hu : sm usedS r.Cells = n
      · have e1 : chart_counted_1_l1 c B (n, (i : Int), z) = (B z ((i : Int), ⟨n, sm madeS r.Cells, 0⟩)).bind fun y => match y with | .inl z' => some (.inl (sm madeS r.Cells, ((i + 1 : Nat) : Int), z')) | .inr t => some (.inr (.inl (.inr t))) := by
          unfold chart_counted_1_l1
          simp only [dT (show (i : Int) < (c.Rows.length : Int) by omega), if_true, idxO_nat hi, hr, Option.bind_some, eu, em, bne_self_eq_false, Bool.false_eq_true, if_false, nF hu, hs]
          try congr 1
        rw [if_neg (by simp [hu]), whileO_eq, e1, foldO]
        cases hb : B z ((i : Int), ⟨n, sm madeS r.Cells, 0⟩) with
        | none => rfl
        | some y =>
          cases y with
          | inl z' => exact ih (i + 1) (sm madeS r.Cells) z' hrs
          | inr t => rfl
      · have e1 : chart_counted_1_l1 c B (n, (i : Int), z) = (B z ((i : Int), ⟨n, 0, 26⟩)).bind fun y => match y with | .inl z' => some (.inr (.inl (.inl z'))) | .inr t => some (.inr (.inl (.inr t))) := by
          unfold chart_counted_1_l1
          simp only [dT (show (i : Int) < (c.Rows.length : Int) by omega), if_true, idxO_nat hi, hr, Option.bind_some, eu, em, bne_self_eq_false, Bool.false_eq_true, if_false, nT hu, nT (show ¬ (26 : Int) = 0 by omega)]
          try congr 1
        rw [if_pos (by simp [hu]), whileO_eq, e1, foldO]
        cases hb : B z ((i : Int), ⟨n, 0, 26⟩) with
        | none => rfl
        | some y => cases y <;> rfl
    · have eu : F_stitch_Uses r.Cells = some (0, allS r.Cells) := by rw [uses_eq hwr, if_neg ha]
      have e1 : chart_counted_1_l1 c B (n, (i : Int), z) = (B z ((i : Int), ⟨n, 0, allS r.Cells⟩)).bind fun y => match y with | .inl z' => some (.inr (.inl (.inl z'))) | .inr t => some (.inr (.inl (.inr t))) := by
        unfold chart_counted_1_l1
        simp only [dT (show (i : Int) < (c.Rows.length : Int) by omega), if_true, idxO_nat hi, hr, Option.bind_some, eu, nT ha]
        try congr 1
      rw [if_pos (by simp [ha]), whileO_eq, e1, foldO]
      cases hb : B z ((i : Int), ⟨n, 0, allS r.Cells⟩) with
      | none => rfl
      | some y => cases y <;> rfl
theorem chcount_eq {σ τ : Type} (c : api_Chart) (hw : wfR c.Rows) (hl : c.Rows.length ≤ 1000000000) (B : σ → (Int × chart_count) → Option (σ ⊕ τ)) (z : σ) : I_chart_counted_1 c σ τ B z = foldO B z (ctl 0 c.Start c.Rows) := by
  rw [← counted_loop c hw hl B c.Rows 0 c.Start z rfl]
  unfold I_chart_counted_1
  try congr 1
/-- the error of a chart -/
def chk (c : api_Chart) : Int := if 100 < c.Rows.length then 4 else if c.Start < 0 ∨ 200 < c.Start then 8 else chkR c.Start c.Rows
theorem check_fold : ∀ (rs : List api_Row) (i : Nat) (n : Int), foldO chart_Check_l2 () (ctl i n rs) = some (if chkR n rs = 0 then .inl () else .inr (chkR n rs)) := by
  intro rs
  induction rs with
  | nil => intro i n; rfl
  | cons r rs ih =>
    intro i n
    simp only [ctl, chkR]
    by_cases ha : allS r.Cells = 0
    · simp only [ha, ne_eq, not_true_eq_false, if_false]
      by_cases hu : sm usedS r.Cells = n
      · simp only [hu, not_true_eq_false, if_false, foldO, chart_Check_l2, bne_self_eq_false, Bool.false_eq_true, Option.bind_some]
        exact ih _ _
      · simp only [hu, not_false_eq_true, if_true, foldO, chart_Check_l2, nT (show ¬ (26 : Int) = 0 by omega), Option.bind_some]
        rfl
    · simp only [ha, ne_eq, not_false_eq_true, if_true, foldO, chart_Check_l2, nT ha, Option.bind_some, if_false]
theorem chart_check_eq (c : api_Chart) (hw : wfR c.Rows) : F_chart_Check c = some (chk c) := by
  unfold F_chart_Check chk F_chart_counted
  by_cases h1 : 100 < c.Rows.length
  · simp only [dT (show (100 : Int) < (c.Rows.length : Int) by omega), if_true, if_pos h1]
  simp only [dF (show ¬ (100 : Int) < (c.Rows.length : Int) by omega), Bool.false_eq_true, if_false, if_neg h1, Option.bind_some, chcount_eq c hw (show c.Rows.length ≤ 1000000000 by omega), check_fold]
  by_cases h2 : c.Start < 0
  · simp [h2]
  by_cases h3 : 200 < c.Start
  · simp [h2, h3]
  by_cases h4 : chkR c.Start c.Rows = 0 <;> simp [h2, h3, h4]
theorem rchart_loop (c : api_Chart) (hl : c.Rows.length ≤ 1000000000) : ∀ (rs : List api_Row) (i : Nat) (n : Int), c.Rows.drop i = rs → whileO (raddleref26_Check_l1 c) (n, (i : Int)) = some (if chkR n rs = 0 then .inr () else .inl (chkR n rs)) := by
  intro rs
  induction rs with
  | nil =>
    intro i n hd
    have hi : c.Rows.length ≤ i := by
      have := congrArg List.length hd
      simp at this; omega
    have : raddleref26_Check_l1 c (n, (i : Int)) = some (.inr (.inr ())) := by
      unfold raddleref26_Check_l1
      simp only [dF (show ¬ (i : Int) < (c.Rows.length : Int) by omega), Bool.false_eq_true, if_false]
    rw [whileO_done this]
    rfl
  | cons r rs ih =>
    intro i n hd
    have hi : i < c.Rows.length := by
      have := congrArg List.length hd
      simp at this; omega
    have hr : c.Rows[i] = r := by
      have := List.getElem_drop (xs := c.Rows) (i := i) (j := 0) (h := by rw [hd]; simp)
      simp only [hd, List.getElem_cons_zero, Nat.add_zero] at this
      exact this.symm
    have hrs : c.Rows.drop (i + 1) = rs := by
      rw [← List.drop_drop, hd]; rfl
    have hs : w64 ((i : Int) + 1) = ((i + 1 : Nat) : Int) := w64_succ (by omega)
    by_cases ha : allS r.Cells = 0
    · have eu : F_raddleref25_Uses r.Cells = some (sm usedS r.Cells, 0) := by rw [ruses_eq, if_pos ha]
      have em : F_raddleref25_Makes r.Cells = some (sm madeS r.Cells, 0) := by rw [rmakes_eq, if_pos ha]
      by_cases hu : sm usedS r.Cells = n
      · have e1 : raddleref26_Check_l1 c (n, (i : Int)) = some (.inl (sm madeS r.Cells, ((i + 1 : Nat) : Int))) := by
          unfold raddleref26_Check_l1
          simp only [dT (show (i : Int) < (c.Rows.length : Int) by omega), if_true, idxO_nat hi, hr, Option.bind_some, eu, em, bne_self_eq_false, Bool.false_eq_true, if_false, nF hu, hs]
        have hc : chkR n (r :: rs) = chkR (sm madeS r.Cells) rs := by simp [chkR, ha, hu]
        rw [whileO_step e1, ih (i + 1) (sm madeS r.Cells) hrs, hc]
      · have e1 : raddleref26_Check_l1 c (n, (i : Int)) = some (.inr (.inl 26)) := by
          unfold raddleref26_Check_l1
          simp only [dT (show (i : Int) < (c.Rows.length : Int) by omega), if_true, idxO_nat hi, hr, Option.bind_some, eu, em, bne_self_eq_false, Bool.false_eq_true, if_false, nT hu]
        have hc : chkR n (r :: rs) = 26 := by simp [chkR, ha, hu]
        rw [whileO_done e1, hc]
        rfl
    · have eu : F_raddleref25_Uses r.Cells = some (0, allS r.Cells) := by rw [ruses_eq, if_neg ha]
      have e1 : raddleref26_Check_l1 c (n, (i : Int)) = some (.inr (.inl (allS r.Cells))) := by
        unfold raddleref26_Check_l1
        simp only [dT (show (i : Int) < (c.Rows.length : Int) by omega), if_true, idxO_nat hi, hr, Option.bind_some, eu, nT ha]
      have hc : chkR n (r :: rs) = allS r.Cells := by simp [chkR, ha]
      rw [whileO_done e1, hc, if_neg ha]
theorem rchart_check_eq (c : api_Chart) : F_raddleref26_Check c = some (chk c) := by
  unfold F_raddleref26_Check chk
  by_cases h1 : 100 < c.Rows.length
  · simp only [dT (show (100 : Int) < (c.Rows.length : Int) by omega), if_true, if_pos h1]
  simp only [dF (show ¬ (100 : Int) < (c.Rows.length : Int) by omega), Bool.false_eq_true, if_false, if_neg h1]
  have hloop := rchart_loop c (by omega) c.Rows 0 c.Start rfl
  have h0 : ((0 : Nat) : Int) = 0 := rfl
  rw [h0] at hloop
  rw [hloop]
  by_cases h2 : c.Start < 0
  · simp [h2]
  by_cases h3 : 200 < c.Start
  · simp [h2, h3]
  by_cases h4 : chkR c.Start c.Rows = 0 <;> simp [h2, h3, h4]
/-- a chart without an error: every row is one, uses what the row before made -/
theorem chk_ok {c : api_Chart} (h : chk c = 0) : c.Rows.length ≤ 100 ∧ 0 ≤ c.Start ∧ c.Start ≤ 200 ∧ chkR c.Start c.Rows = 0 := by
  unfold chk at h
  split at h
  · omega
  · split at h
    · omega
    · rename_i h1 h2
      exact ⟨by omega, by omega, by omega, h⟩
theorem chkR_cons {n : Int} {r : api_Row} {rs : List api_Row} : chkR n (r :: rs) = 0 ↔ allS r.Cells = 0 ∧ sm usedS r.Cells = n ∧ chkR (sm madeS r.Cells) rs = 0 := by
  simp only [chkR]
  by_cases ha : allS r.Cells = 0
  · by_cases hu : sm usedS r.Cells = n
    · simp [ha, hu]
    · simp [ha, hu]
  · simp [ha]
theorem chkR_mem : ∀ {rs : List api_Row} {n : Int}, chkR n rs = 0 → ∀ r, r ∈ rs → allS r.Cells = 0 := by
  intro rs
  induction rs with
  | nil => intro n _ r hr; cases hr
  | cons x rs ih =>
    intro n h r hr
    obtain ⟨h1, h2, h3⟩ := chkR_cons.1 h
    rcases List.mem_cons.1 hr with rfl | hr
    · exact h1
    · exact ih h3 r hr
theorem wfR_of {c : api_Chart} (h : wf_api_Chart c) : wfR c.Rows := fun r hr p hp => inK_u8 ((((h.2.2 r hr).2).2 p hp).1)

end Go.Proofs.Ytdbgkakmhlmpbaa
namespace Go.Proofs.Ytdbgkakmhlmpbaa
open Go.RowKit
set_option linter.unusedVariables false

noncomputable def cost_Count_l1 (x74 : api_Row) : (Int × Int × Int × Int × Int × Int × Int × Int × Int × Int × Int × Int) → Option ((Int × Int × Int × Int × Int × Int × Int × Int × Int × Int × Int × Int) ⊕ (Int × Int × Int × Int × Int × Int × Int × Int × Int × Int × Int)) := fun s0 => match s0 with
  | (s85, s86, s87, s88, s89, s90, s91, s92, s93, s94, s95, s96) =>
    if decide (s85 < (x74.Cells.length : Int)) then
      Option.bind (idxO x74.Cells s85) fun x116 =>
      Option.bind (idxO ([s86, s87, s88, s89, s90, s91, s92, s93, s94, s95, s96] : List Int) x116.Kind) fun x122 =>
      some (.inl (w64 (s85 + 1), (if x116.Kind = 0 then w64 (x122 + 1) else s86), (if x116.Kind = 1 then w64 (x122 + 1) else s87), (if x116.Kind = 2 then w64 (x122 + 1) else s88), (if x116.Kind = 3 then w64 (x122 + 1) else s89), (if x116.Kind = 4 then w64 (x122 + 1) else s90), (if x116.Kind = 5 then w64 (x122 + 1) else s91), (if x116.Kind = 6 then w64 (x122 + 1) else s92), (if x116.Kind = 7 then w64 (x122 + 1) else s93), (if x116.Kind = 8 then w64 (x122 + 1) else s94), (if x116.Kind = 9 then w64 (x122 + 1) else s95), (if x116.Kind = 10 then w64 (x122 + 1) else s96)))
    else
      some (.inr (s86, s87, s88, s89, s90, s91, s92, s93, s94, s95, s96))
noncomputable def cost_Count_l2 (p0 : api_Chart) : (Int × Int × Int × Int × Int × Int × Int × Int × Int × Int × Int × Int) → Option ((Int × Int × Int × Int × Int × Int × Int × Int × Int × Int × Int × Int) ⊕ (Int × Int × Int × Int × Int × Int × Int × Int × Int × Int × Int)) := fun s0 => match s0 with
  | (s31, s32, s33, s34, s35, s36, s37, s38, s39, s40, s41, s42) =>
    if decide (s31 < (p0.Rows.length : Int)) then
      Option.bind (α := (Int × Int × Int × Int × Int × Int × Int × Int × Int × Int × Int)) (
        Option.bind (idxO p0.Rows s31) fun x74 =>
        Option.bind (whileO (cost_Count_l1 x74) (0, s32, s33, s34, s35, s36, s37, s38, s39, s40, s41, s42)) fun (e100, e101, e102, e103, e104, e105, e106, e107, e108, e109, e110) =>
          some (e100, e101, e102, e103, e104, e105, e106, e107, e108, e109, e110)) fun (o60, o61, o62, o63, o64, o65, o66, o67, o68, o69, o70) =>
      some (.inl (w64 (s31 + 1), o60, o61, o62, o63, o64, o65, o66, o67, o68, o69, o70))
    else
      some (.inr (s32, s33, s34, s35, s36, s37, s38, s39, s40, s41, s42))
noncomputable def F_cost_Count (p0 : api_Chart) : Option ((Int × Int × Int × Int × Int × Int × Int × Int × Int × Int × Int) × Int) :=
  Option.bind (F_chart_Check p0) fun r12 =>
  if r12 != 0 then
    some ((0, 0, 0, 0, 0, 0, 0, 0, 0, 0, 0), r12)
  else
    Option.bind (α := (Int × Int × Int × Int × Int × Int × Int × Int × Int × Int × Int)) (
      Option.bind (whileO (cost_Count_l2 p0) (0, 0, 0, 0, 0, 0, 0, 0, 0, 0, 0, 0)) fun (e46, e47, e48, e49, e50, e51, e52, e53, e54, e55, e56) =>
        some (e46, e47, e48, e49, e50, e51, e52, e53, e54, e55, e56)) fun (o17, o18, o19, o20, o21, o22, o23, o24, o25, o26, o27) =>
    some ((o17, o18, o19, o20, o21, o22, o23, o24, o25, o26, o27), 0)
def c_cost_Count_val (r : ((Int × Int × Int × Int × Int × Int × Int × Int × Int × Int × Int) × Int)) (x : Value) : Value := .tuple #[x, .int .i64 r.2]
def c_cost_Count_D (r : ((Int × Int × Int × Int × Int × Int × Int × Int × Int × Int × Int) × Int)) (x : Value) : List Fact := [fRep r_A11_Int x r.1]
set_option maxHeartbeats 4000000 in
set_option maxRecDepth 100000 in
theorem c_cost_Count (E : Nat → Prop) (w0 : World) (p0 : api_Chart) (v0 : Value) (r : ((Int × Int × Int × Int × Int × Int × Int × Int × Int × Int × Int) × Int)) (h : F_cost_Count p0 = some r) (S : St0 E [] w0 w0 [] [fRep r_api_Chart (v0) p0]) :
    Calls Try.prog 16 #[v0] w0 (Ret (X := Value) E [] w0 (c_cost_Count_val r) (fun _ => []) (c_cost_Count_D r)) := by
  unfold F_cost_Count at h
  obtain ⟨u1, rfl, hu2⟩ := S.know (i := 0) (e := fRep r_api_Chart (v0) p0) rfl
  have S := S.learn (fRep (rL r_api_Row) u1 p0.Rows) hu2
  obtain ⟨ad3, cp4, _, rfl, _⟩ := hu2
  refine sEnter (args := [.agg #[iv p0.Start, .slice ad3 p0.Rows.length cp4]]) 39 Try.func16 rfl rfl (by simp) S (fun a S => ?_)
  refine sSeq (fun K5 hK5 => ?_)
  refine sRegion ?_
  refine sBox (v := .agg #[iv p0.Start, .slice ad3 p0.Rows.length cp4]) S (wN rfl) rfl rfl [iv p0.Start, .slice ad3 p0.Rows.length cp4] rfl rfl (lb rfl) fun a b6 w S => ?_
  refine sAlloc (gv_A11_Int (0, 0, 0, 0, 0, 0, 0, 0, 0, 0, 0)) S (wN rfl) rfl rfl (gl_A11_Int (0, 0, 0, 0, 0, 0, 0, 0, 0, 0, 0)) rfl rfl (lb rfl) fun a b7 w S => ?_
  refine sMove (iv 0) S (wN rfl) (.inr rfl) rfl rfl (lb rfl) fun a S => ?_
  refine leafL (leafT (hK5 _ _ ?_))
  refine sSeq (fun K8 hK8 => ?_)
  refine sRegion ?_
  refine sAlloc (gv_A11_Int (0, 0, 0, 0, 0, 0, 0, 0, 0, 0, 0)) S (wN rfl) rfl rfl (gl_A11_Int (0, 0, 0, 0, 0, 0, 0, 0, 0, 0, 0)) rfl rfl (lb rfl) fun a b9 w S => ?_
  refine leafL (leafT (hK8 _ _ ?_))
  refine sSeq (fun K10 hK10 => ?_)
  refine sSeq (fun K11 hK11 => ?_)
  refine sRegion ?_
  refine sLoadN (p := b6) (off := 0) (T := 41) (vs := [iv p0.Start, .slice ad3 p0.Rows.length cp4]) 2 [iv p0.Start, .slice ad3 p0.Rows.length cp4] S (wN rfl) rfl rfl rfl rfl rfl rfl rfl (lb rfl) fun a S => ?_
  obtain ⟨r12, hx13, h⟩ := bindSome h
  have S1 := S.mem
  refine sCallQ (X := Unit) (f := 41) (vs := [.agg #[iv p0.Start, .slice ad3 p0.Rows.length cp4]]) (val := fun _ => iv r12) S (wN rfl) rfl callee41 rfl (S1.quiet [1] rfl) (fun E1 w1 S1 => c_chart_Check E1 w1 p0 (.agg #[iv p0.Start, .slice ad3 p0.Rows.length cp4]) r12 hx13 S1) rfl (lb rfl) fun _ a w S => ?_
  refine sMove (iv r12) S (wN rfl) (.inr rfl) rfl rfl (lb rfl) fun a S => ?_
  refine leafL (leafT (hK11 _ _ ?_))
  refine sSeq (fun K14 hK14 => ?_)
  refine sRegion ?_
  refine sMove (iv r12) S (wN rfl) (.inl rfl) rfl rfl (lb rfl) fun a S => ?_
  refine sBin (.bool (r12 != 0)) S (wN rfl) rfl rfl rfl (bNe _ _ _ _ .i64 r12 0) rfl (lb rfl) fun a S => ?_
  refine leafL (leafT (hK14 _ _ ?_))
  rcases iteSome h with ⟨hc15, h⟩ | ⟨hc15, h⟩
  · refine sCondT S rfl hc15 ?_
    refine sSeq (fun K16 hK16 => ?_)
    refine sRegion ?_
    refine sLoadN (p := b9) (off := 0) (T := 42) (vs := (gl_A11_Int (0, 0, 0, 0, 0, 0, 0, 0, 0, 0, 0))) 0 (gl_A11_Int (0, 0, 0, 0, 0, 0, 0, 0, 0, 0, 0)) S (wN rfl) rfl rfl rfl rfl rfl rfl rfl (lb rfl) fun a S => ?_
    refine sMove (iv r12) S (wN rfl) (.inl rfl) rfl rfl (lb rfl) fun a S => ?_
    refine sStore (p := b7) (off := 0) (T := 42) (vs := [iv 0, iv 0, iv 0, iv 0, iv 0, iv 0, iv 0, iv 0, iv 0, iv 0, iv 0]) (v := gv_A11_Int (0, 0, 0, 0, 0, 0, 0, 0, 0, 0, 0)) 1 [iv 0, iv 0, iv 0, iv 0, iv 0, iv 0, iv 0, iv 0, iv 0, iv 0, iv 0] S (wN rfl) rfl rfl rfl rfl rfl rfl rfl (by simp) rfl fun a w S => ?_
    refine sMove (iv r12) S (wN rfl) (.inr rfl) rfl rfl (lb rfl) fun a S => ?_
    refine leafL (leafT (hK16 _ _ ?_))
    obtain rfl := Option.some.inj h
    have S := S.learn (fRep r_A11_Int (gv_A11_Int (0, 0, 0, 0, 0, 0, 0, 0, 0, 0, 0)) (0, 0, 0, 0, 0, 0, 0, 0, 0, 0, 0)) rfl
    exact wp_ret (rThen (sRet (.tuple #[gv_A11_Int (0, 0, 0, 0, 0, 0, 0, 0, 0, 0, 0), iv r12]) S (rsl2 rfl (rvN (c := 2) (t := 42) (T := 42) (p := b7) 0 [iv 0, iv 0, iv 0, iv 0, iv 0, iv 0, iv 0, iv 0, iv 0, iv 0, iv 0] S rfl rfl rfl rfl) (rvT (t := 3) (v := iv r12) S rfl)) ⟨(gv_A11_Int (0, 0, 0, 0, 0, 0, 0, 0, 0, 0, 0)), rfl, S.mem.sel [] [0] (by decide) rfl rfl⟩))
  refine sCondF S rfl hc15 ?_
  refine wp_skip (leafT (hK10 _ _ ?_))
  obtain ⟨t28, h, g29⟩ := bindSome h
  refine sCut (fun a w => ∃ o17, ∃ o18, ∃ o19, ∃ o20, ∃ o21, ∃ o22, ∃ o23, ∃ o24, ∃ o25, ∃ o26, ∃ o27, (o17, o18, o19, o20, o21, o22, o23, o24, o25, o26, o27) = t28 ∧ St [] E [] w0 39 a w [(2, .pointer (some ⟨b7, 0, none⟩)), (4, .pointer (some ⟨b9, 0, none⟩))] [eBox b7 42 (gl_A11_Int (0, 0, 0, 0, 0, 0, 0, 0, 0, 0, 0)), eBox b9 42 (gl_A11_Int (o17, o18, o19, o20, o21, o22, o23, o24, o25, o26, o27))] []) ?_ (fun a w hI => ?_)
  rotate_left
  · obtain ⟨o17, o18, o19, o20, o21, o22, o23, o24, o25, o26, o27, rfl, S⟩ := hI
    have h := g29
    clear g29
    try dsimp only at h
    refine sSeq (fun K125 hK125 => ?_)
    refine sRegion ?_
    refine sLoadN (p := b9) (off := 0) (T := 42) (vs := (gl_A11_Int (o17, o18, o19, o20, o21, o22, o23, o24, o25, o26, o27))) 1 (gl_A11_Int (o17, o18, o19, o20, o21, o22, o23, o24, o25, o26, o27)) S (wN rfl) rfl rfl rfl rfl rfl rfl rfl (lb rfl) fun a S => ?_
    refine sStore (p := b7) (off := 0) (T := 42) (vs := [iv 0, iv 0, iv 0, iv 0, iv 0, iv 0, iv 0, iv 0, iv 0, iv 0, iv 0]) (v := gv_A11_Int (o17, o18, o19, o20, o21, o22, o23, o24, o25, o26, o27)) 0 [iv o17, iv o18, iv o19, iv o20, iv o21, iv o22, iv o23, iv o24, iv o25, iv o26, iv o27] S (wN rfl) rfl rfl rfl rfl rfl rfl rfl (by simp) rfl fun a w S => ?_
    refine sMove (iv 0) S (wN rfl) (.inr rfl) rfl rfl (lb rfl) fun a S => ?_
    refine leafL (leafT (hK125 _ _ ?_))
    obtain rfl := Option.some.inj h
    have S := S.learn (fRep r_A11_Int (gv_A11_Int (o17, o18, o19, o20, o21, o22, o23, o24, o25, o26, o27)) (o17, o18, o19, o20, o21, o22, o23, o24, o25, o26, o27)) rfl
    exact wp_ret (sRet (.tuple #[gv_A11_Int (o17, o18, o19, o20, o21, o22, o23, o24, o25, o26, o27), iv 0]) S (rsl2 rfl (rvN (c := 2) (t := 42) (T := 42) (p := b7) 0 [iv o17, iv o18, iv o19, iv o20, iv o21, iv o22, iv o23, iv o24, iv o25, iv o26, iv o27] S rfl rfl rfl rfl) (rvT (t := 3) (v := iv 0) S rfl)) ⟨(gv_A11_Int (o17, o18, o19, o20, o21, o22, o23, o24, o25, o26, o27)), rfl, S.mem.sel [] [0] (by decide) rfl rfl⟩)
  refine sSeq (fun K30 hK30 => ?_)
  refine sRegion ?_
  refine sField (b := b6) (off := 0) 1 1 S (wN rfl) rfl rfl rfl rfl rfl (lb rfl) fun a S => ?_
  refine sLoad1 (p := b6) (off := 1) (T := 41) (vs := [iv p0.Start, .slice ad3 p0.Rows.length cp4]) 2 (.slice ad3 p0.Rows.length cp4) S (wN rfl) rfl rfl rfl rfl rfl rfl (lb rfl) fun a S => ?_
  refine sLen (ad := ad3) (m := p0.Rows.length) (c := cp4) S (wN rfl) rfl Try.underlying39 rfl rfl (lb rfl) fun a S => ?_
  refine sMove (iv 0) S (wN rfl) (.inl rfl) rfl rfl (lb rfl) fun a S => ?_
  refine leafL (leafT (hK30 _ _ ?_))
  refine wp_block ?_
  obtain ⟨t45, hl, g44⟩ := bindSome h
  refine sLoop hl (fun s0 a w => match s0 with | (s31, s32, s33, s34, s35, s36, s37, s38, s39, s40, s41, s42) => St [] E [] w0 39 a w [(2, .pointer (some ⟨b7, 0, none⟩)), (4, .pointer (some ⟨b9, 0, none⟩)), (17, .slice ad3 p0.Rows.length cp4), (18, iv (p0.Rows.length : Int)), (19, iv s31)] [eBox b7 42 (gl_A11_Int (0, 0, 0, 0, 0, 0, 0, 0, 0, 0, 0)), eBox b9 42 (gl_A11_Int (s32, s33, s34, s35, s36, s37, s38, s39, s40, s41, s42))] [fRep (rL r_api_Row) (.slice ad3 p0.Rows.length cp4) p0.Rows]) (S.fix [1, 0] [0] (by decide) rfl rfl rfl) ?_
  clear hl h
  intro s0 a w c0 hI h hu43
  obtain ⟨s31, s32, s33, s34, s35, s36, s37, s38, s39, s40, s41, s42⟩ := s0
  unfold cost_Count_l2 at h
  dsimp only at h hI
  have S := hI
  refine sSeq (fun K57 hK57 => ?_)
  refine sRegion ?_
  refine sBin (.bool (decide (s31 < (p0.Rows.length : Int)))) S (wN rfl) rfl rfl rfl (bLt _ _ _ _ .i64 s31 (p0.Rows.length : Int)) rfl (lb rfl) fun a S => ?_
  refine leafL (leafT (hK57 _ _ ?_))
  refine sSeq (fun K58 hK58 => ?_)
  rcases iteSome h with ⟨hc59, h⟩ | ⟨hc59, h⟩
  rotate_left
  · refine sCondF S rfl hc59 ?_
    obtain rfl := Option.some.inj h
    obtain rfl := hu43 _ rfl
    have h := g44
    clear g44
    try dsimp only at h
    exact wp_exit (xThen (xThen (xHit (leafT (⟨s32, s33, s34, s35, s36, s37, s38, s39, s40, s41, s42, Option.some.inj h, S.fix [0, 1] [] (by decide) rfl rfl rfl⟩)))))
  refine sCondT S rfl hc59 ?_
  refine wp_skip (leafT (hK58 _ _ ?_))
  obtain ⟨t71, h, g72⟩ := bindSome h
  refine sCut (fun a w => ∃ o60, ∃ o61, ∃ o62, ∃ o63, ∃ o64, ∃ o65, ∃ o66, ∃ o67, ∃ o68, ∃ o69, ∃ o70, (o60, o61, o62, o63, o64, o65, o66, o67, o68, o69, o70) = t71 ∧ St [] E [] w0 39 a w [(2, .pointer (some ⟨b7, 0, none⟩)), (4, .pointer (some ⟨b9, 0, none⟩)), (17, .slice ad3 p0.Rows.length cp4), (18, iv (p0.Rows.length : Int)), (19, iv s31)] [eBox b7 42 (gl_A11_Int (0, 0, 0, 0, 0, 0, 0, 0, 0, 0, 0)), eBox b9 42 (gl_A11_Int (o60, o61, o62, o63, o64, o65, o66, o67, o68, o69, o70))] [fRep (rL r_api_Row) (.slice ad3 p0.Rows.length cp4) p0.Rows]) ?_ (fun a w hI => ?_)
  rotate_left
  · obtain ⟨o60, o61, o62, o63, o64, o65, o66, o67, o68, o69, o70, rfl, S⟩ := hI
    have h := g72
    clear g72
    try dsimp only at h
    refine sRegion ?_
    refine sBin (iv (w64 (s31 + 1))) S (wN rfl) rfl rfl rfl (bAdd _ _ _ _ s31 1) rfl (lb rfl) fun a S => ?_
    refine sMove (iv (w64 (s31 + 1))) S (wN rfl) (.inl rfl) rfl rfl (lb rfl) fun a S => ?_
    exact leafL (leafT (⟨(w64 (s31 + 1), o60, o61, o62, o63, o64, o65, o66, o67, o68, o69, o70), (Option.some.inj h).symm, (S.fix [0, 1] [0] (by decide) rfl rfl rfl)⟩))
  refine wp_block ?_
  refine sSeq (fun K73 hK73 => ?_)
  refine sRegion ?_
  obtain ⟨x74, hx75, h⟩ := bindSome h
  obtain ⟨q76, hq77, S⟩ := pIdx (P := Try.prog) (r := r_api_Row) (v := .slice ad3 p0.Rows.length cp4) (xs := p0.Rows) (j := s31) 39 72 0 S Try.underlying39 rfl rfl hx75
  refine sIdxV (v := .slice ad3 p0.Rows.length cp4) (k := .i64) (j := s31) S (wN rfl) rfl rfl rfl hq77 rfl (lb rfl) fun a S => ?_
  obtain ⟨u78, S⟩ := pLoad (r := r_api_Row) (q := q76) (x := x74) 0 S rfl
  obtain ⟨u79, rfl, hu80⟩ := S.mem.know (i := 1) (e := fRep r_api_Row (u78) x74) rfl
  have S := S.learn (fRep (rL r_api_Stitch) u79 x74.Cells) hu80
  obtain ⟨ad81, cp82, _, rfl, _⟩ := hu80
  refine sLoadVN (vq := q76) 1 [.bool x74.Back, .slice ad81 x74.Cells.length cp82] S (wN rfl) rfl rfl rfl rfl rfl rfl (lb rfl) fun a S => ?_
  refine sAlloc (.agg #[.bool false, .slice none 0 0]) S (wN rfl) rfl rfl [.bool false, .slice none 0 0] rfl rfl (lb rfl) fun a b83 w S => ?_
  refine sStore (p := b83) (off := 0) (T := 72) (vs := [.bool false, .slice none 0 0]) (v := .agg #[.bool x74.Back, .slice ad81 x74.Cells.length cp82]) 0 [.bool x74.Back, .slice ad81 x74.Cells.length cp82] S (wN rfl) rfl rfl rfl rfl rfl rfl rfl (by simp) rfl fun a w S => ?_
  refine leafL (leafT (hK73 _ _ ?_))
  refine sSeq (fun K84 hK84 => ?_)
  refine sRegion ?_
  refine sField (b := b83) (off := 0) 1 1 S (wN rfl) rfl rfl rfl rfl rfl (lb rfl) fun a S => ?_
  refine sLoad1 (p := b83) (off := 1) (T := 72) (vs := [.bool x74.Back, .slice ad81 x74.Cells.length cp82]) 0 (.slice ad81 x74.Cells.length cp82) S (wN rfl) rfl rfl rfl rfl rfl rfl (lb rfl) fun a S => ?_
  refine sLen (ad := ad81) (m := x74.Cells.length) (c := cp82) S (wN rfl) rfl Try.underlying70 rfl rfl (lb rfl) fun a S => ?_
  refine sMove (iv 0) S (wN rfl) (.inl rfl) rfl rfl (lb rfl) fun a S => ?_
  refine leafL (leafT (hK84 _ _ ?_))
  refine wp_block ?_
  obtain ⟨t99, hl, g98⟩ := bindSome h
  refine sLoop hl (fun s0 a w => match s0 with | (s85, s86, s87, s88, s89, s90, s91, s92, s93, s94, s95, s96) => St [] E [] w0 39 a w [(2, .pointer (some ⟨b7, 0, none⟩)), (4, .pointer (some ⟨b9, 0, none⟩)), (17, .slice ad3 p0.Rows.length cp4), (18, iv (p0.Rows.length : Int)), (19, iv s31), (24, .slice ad81 x74.Cells.length cp82), (25, iv (x74.Cells.length : Int)), (26, iv s85)] [eBox b7 42 (gl_A11_Int (0, 0, 0, 0, 0, 0, 0, 0, 0, 0, 0)), eBox b9 42 (gl_A11_Int (s86, s87, s88, s89, s90, s91, s92, s93, s94, s95, s96))] [fRep (rL r_api_Row) (.slice ad3 p0.Rows.length cp4) p0.Rows, fRep (rL r_api_Stitch) (.slice ad81 x74.Cells.length cp82) x74.Cells]) (S.fix [1, 2] [4, 0] (by decide) rfl rfl rfl) ?_
  clear hl h
  intro s0 a w c0 hI h hu97
  obtain ⟨s85, s86, s87, s88, s89, s90, s91, s92, s93, s94, s95, s96⟩ := s0
  unfold cost_Count_l1 at h
  dsimp only at h hI
  have S := hI
  refine sSeq (fun K111 hK111 => ?_)
  refine sRegion ?_
  refine sBin (.bool (decide (s85 < (x74.Cells.length : Int)))) S (wN rfl) rfl rfl rfl (bLt _ _ _ _ .i64 s85 (x74.Cells.length : Int)) rfl (lb rfl) fun a S => ?_
  refine leafL (leafT (hK111 _ _ ?_))
  refine sSeq (fun K112 hK112 => ?_)
  rcases iteSome h with ⟨hc113, h⟩ | ⟨hc113, h⟩
  rotate_left
  · refine sCondF S rfl hc113 ?_
    obtain rfl := Option.some.inj h
    obtain rfl := hu97 _ rfl
    have h := g98
    clear g98
    try dsimp only at h
    exact wp_exit (xThen (xThen (xHit (leafB (leafT (⟨s86, s87, s88, s89, s90, s91, s92, s93, s94, s95, s96, Option.some.inj h, S.fix [0, 1] [0] (by decide) rfl rfl rfl⟩))))))
  refine sCondT S rfl hc113 ?_
  refine wp_skip (leafT (hK112 _ _ ?_))
  refine sSeq (fun K114 hK114 => ?_)
  refine wp_block ?_
  refine sSeq (fun K115 hK115 => ?_)
  refine sRegion ?_
  obtain ⟨x116, hx117, h⟩ := bindSome h
  obtain ⟨q118, hq119, S⟩ := pIdx (P := Try.prog) (r := r_api_Stitch) (v := .slice ad81 x74.Cells.length cp82) (xs := x74.Cells) (j := s85) 70 74 1 S Try.underlying70 rfl rfl hx117
  refine sIdxV (v := .slice ad81 x74.Cells.length cp82) (k := .i64) (j := s85) S (wN rfl) rfl rfl rfl hq119 rfl (lb rfl) fun a S => ?_
  obtain ⟨u120, S⟩ := pLoad (r := r_api_Stitch) (q := q118) (x := x116) 0 S rfl
  obtain rfl : u120 = .agg #[.int .u8 x116.Kind, .bool x116.Purl, iv x116.A, iv x116.B] := S.mem.know (i := 1) (e := fRep r_api_Stitch (u120) x116) rfl
  refine sLoadVN (vq := q118) 0 [.int .u8 x116.Kind, .bool x116.Purl, iv x116.A, iv x116.B] S (wN rfl) rfl rfl rfl rfl rfl rfl (lb rfl) fun a S => ?_
  refine sAlloc (.agg #[.int .u8 0, .bool false, iv 0, iv 0]) S (wN rfl) rfl rfl [.int .u8 0, .bool false, iv 0, iv 0] rfl rfl (lb rfl) fun a b121 w S => ?_
  refine sStore (p := b121) (off := 0) (T := 74) (vs := [.int .u8 0, .bool false, iv 0, iv 0]) (v := .agg #[.int .u8 x116.Kind, .bool x116.Purl, iv x116.A, iv x116.B]) 0 [.int .u8 x116.Kind, .bool x116.Purl, iv x116.A, iv x116.B] S (wN rfl) rfl rfl rfl rfl rfl rfl rfl (by simp) rfl fun a w S => ?_
  refine leafL (leafT (hK115 _ _ ?_))
  refine sRegion ?_
  refine sField (b := b121) (off := 0) 0 0 S (wN rfl) rfl rfl rfl rfl rfl (lb rfl) fun a S => ?_
  refine sLoad1 (p := b121) (off := 0) (T := 74) (vs := [.int .u8 x116.Kind, .bool x116.Purl, iv x116.A, iv x116.B]) 0 (.int .u8 x116.Kind) S (wN rfl) rfl rfl rfl rfl rfl rfl (lb rfl) fun a S => ?_
  obtain ⟨x122, hx123, h⟩ := bindSome h
  refine sIdxV (v := .pointer (some ⟨b9, 0, none⟩)) (k := .u8) (j := x116.Kind) (q := .pointer (some ⟨b9, 0 + (x116.Kind).toNat * 1, none⟩)) S (wN rfl) rfl rfl rfl (idxV_arr (m := 11) (sz := 1) Try.underlying42 rfl (idxO_rng (m := 11) hx123 rfl).1 (idxO_rng (m := 11) hx123 rfl).2 0) rfl (lb rfl) fun a S => ?_
  refine sLoad1 (p := b9) (off := 0 + (x116.Kind).toNat * 1) (T := 42) (vs := [iv s86, iv s87, iv s88, iv s89, iv s90, iv s91, iv s92, iv s93, iv s94, iv s95, iv s96]) 2 (iv x122) S (wN rfl) rfl rfl rfl rfl (box_at (g := (fun z => .int .i64 z)) [] [] 0 hx123 rfl rfl) rfl (lb rfl) fun a S => ?_
  refine sBin (iv (w64 (x122 + 1))) S (wN rfl) rfl rfl rfl (bAdd _ _ _ _ x122 1) rfl (lb rfl) fun a S => ?_
  refine sIdxV (v := .pointer (some ⟨b9, 0, none⟩)) (k := .u8) (j := x116.Kind) (q := .pointer (some ⟨b9, 0 + (x116.Kind).toNat * 1, none⟩)) S (wN rfl) rfl rfl rfl (idxV_arr (m := 11) (sz := 1) Try.underlying42 rfl (idxO_rng (m := 11) hx123 rfl).1 (idxO_rng (m := 11) hx123 rfl).2 0) rfl (lb rfl) fun a S => ?_
  refine sStore (p := b9) (off := 0 + (x116.Kind).toNat * 1) (T := 42) (vs := [iv s86, iv s87, iv s88, iv s89, iv s90, iv s91, iv s92, iv s93, iv s94, iv s95, iv s96]) (v := iv (w64 (x122 + 1))) 2 [iv (w64 (x122 + 1))] S (wN rfl) rfl rfl rfl rfl rfl rfl rfl (by have hq := idxO_rng (m := 11) hx123 rfl; simp; omega) rfl fun a w S => ?_
  have ho124 : over [iv s86, iv s87, iv s88, iv s89, iv s90, iv s91, iv s92, iv s93, iv s94, iv s95, iv s96] (0 + (x116.Kind).toNat * 1) [iv (w64 (x122 + 1))] = [iv (if x116.Kind = 0 then w64 (x122 + 1) else s86), iv (if x116.Kind = 1 then w64 (x122 + 1) else s87), iv (if x116.Kind = 2 then w64 (x122 + 1) else s88), iv (if x116.Kind = 3 then w64 (x122 + 1) else s89), iv (if x116.Kind = 4 then w64 (x122 + 1) else s90), iv (if x116.Kind = 5 then w64 (x122 + 1) else s91), iv (if x116.Kind = 6 then w64 (x122 + 1) else s92), iv (if x116.Kind = 7 then w64 (x122 + 1) else s93), iv (if x116.Kind = 8 then w64 (x122 + 1) else s94), iv (if x116.Kind = 9 then w64 (x122 + 1) else s95), iv (if x116.Kind = 10 then w64 (x122 + 1) else s96)] := over_at (g := (fun z => .int .i64 z)) (xs := ([s86, s87, s88, s89, s90, s91, s92, s93, s94, s95, s96] : List Int)) (y := w64 (x122 + 1)) [] [] 0 hx123 rfl rfl rfl rfl
  rw [ho124] at S
  refine leafL (leafB (leafT (hK114 _ _ ?_)))
  refine sRegion ?_
  refine sBin (iv (w64 (s85 + 1))) S (wN rfl) rfl rfl rfl (bAdd _ _ _ _ s85 1) rfl (lb rfl) fun a S => ?_
  refine sMove (iv (w64 (s85 + 1))) S (wN rfl) (.inl rfl) rfl rfl (lb rfl) fun a S => ?_
  exact leafL (leafT (⟨(w64 (s85 + 1), (if x116.Kind = 0 then w64 (x122 + 1) else s86), (if x116.Kind = 1 then w64 (x122 + 1) else s87), (if x116.Kind = 2 then w64 (x122 + 1) else s88), (if x116.Kind = 3 then w64 (x122 + 1) else s89), (if x116.Kind = 4 then w64 (x122 + 1) else s90), (if x116.Kind = 5 then w64 (x122 + 1) else s91), (if x116.Kind = 6 then w64 (x122 + 1) else s92), (if x116.Kind = 7 then w64 (x122 + 1) else s93), (if x116.Kind = 8 then w64 (x122 + 1) else s94), (if x116.Kind = 9 then w64 (x122 + 1) else s95), (if x116.Kind = 10 then w64 (x122 + 1) else s96)), (Option.some.inj h).symm, (S.fix [2, 0] [3, 4] (by decide) rfl rfl rfl)⟩))

end Go.Proofs.Ytdbgkakmhlmpbaa
namespace Go.Proofs.Ytdbgkakmhlmpbaa
open Go.RowKit
set_option linter.unusedVariables false

noncomputable def raddleref45_Count_l1 (p0 : api_Chart) (s31 : Int) : (Int × Int × Int × Int × Int × Int × Int × Int × Int × Int × Int × Int) → Option ((Int × Int × Int × Int × Int × Int × Int × Int × Int × Int × Int × Int) ⊕ (Int × Int × Int × Int × Int × Int × Int × Int × Int × Int × Int)) := fun s0 => match s0 with
  | (s74, s75, s76, s77, s78, s79, s80, s81, s82, s83, s84, s85) =>
    Option.bind (idxO p0.Rows s31) fun x102 =>
    if decide (s74 < (x102.Cells.length : Int)) then
      Option.bind (idxO x102.Cells s74) fun x120 =>
      Option.bind (idxO ([s75, s76, s77, s78, s79, s80, s81, s82, s83, s84, s85] : List Int) x120.Kind) fun x127 =>
      some (.inl (w64 (s74 + 1), (if x120.Kind = 0 then w64 (x127 + 1) else s75), (if x120.Kind = 1 then w64 (x127 + 1) else s76), (if x120.Kind = 2 then w64 (x127 + 1) else s77), (if x120.Kind = 3 then w64 (x127 + 1) else s78), (if x120.Kind = 4 then w64 (x127 + 1) else s79), (if x120.Kind = 5 then w64 (x127 + 1) else s80), (if x120.Kind = 6 then w64 (x127 + 1) else s81), (if x120.Kind = 7 then w64 (x127 + 1) else s82), (if x120.Kind = 8 then w64 (x127 + 1) else s83), (if x120.Kind = 9 then w64 (x127 + 1) else s84), (if x120.Kind = 10 then w64 (x127 + 1) else s85)))
    else
      some (.inr (s75, s76, s77, s78, s79, s80, s81, s82, s83, s84, s85))
noncomputable def raddleref45_Count_l2 (p0 : api_Chart) : (Int × Int × Int × Int × Int × Int × Int × Int × Int × Int × Int × Int) → Option ((Int × Int × Int × Int × Int × Int × Int × Int × Int × Int × Int × Int) ⊕ (Int × Int × Int × Int × Int × Int × Int × Int × Int × Int × Int)) := fun s0 => match s0 with
  | (s31, s32, s33, s34, s35, s36, s37, s38, s39, s40, s41, s42) =>
    if decide (s31 < (p0.Rows.length : Int)) then
      Option.bind (α := (Int × Int × Int × Int × Int × Int × Int × Int × Int × Int × Int)) (
        Option.bind (whileO (raddleref45_Count_l1 p0 s31) (0, s32, s33, s34, s35, s36, s37, s38, s39, s40, s41, s42)) fun (e89, e90, e91, e92, e93, e94, e95, e96, e97, e98, e99) =>
          some (e89, e90, e91, e92, e93, e94, e95, e96, e97, e98, e99)) fun (o60, o61, o62, o63, o64, o65, o66, o67, o68, o69, o70) =>
      some (.inl (w64 (s31 + 1), o60, o61, o62, o63, o64, o65, o66, o67, o68, o69, o70))
    else
      some (.inr (s32, s33, s34, s35, s36, s37, s38, s39, s40, s41, s42))
noncomputable def F_raddleref45_Count (p0 : api_Chart) : Option ((Int × Int × Int × Int × Int × Int × Int × Int × Int × Int × Int) × Int) :=
  Option.bind (F_raddleref26_Check p0) fun r12 =>
  if r12 != 0 then
    some ((0, 0, 0, 0, 0, 0, 0, 0, 0, 0, 0), r12)
  else
    Option.bind (α := (Int × Int × Int × Int × Int × Int × Int × Int × Int × Int × Int)) (
      Option.bind (whileO (raddleref45_Count_l2 p0) (0, 0, 0, 0, 0, 0, 0, 0, 0, 0, 0, 0)) fun (e46, e47, e48, e49, e50, e51, e52, e53, e54, e55, e56) =>
        some (e46, e47, e48, e49, e50, e51, e52, e53, e54, e55, e56)) fun (o17, o18, o19, o20, o21, o22, o23, o24, o25, o26, o27) =>
    some ((o17, o18, o19, o20, o21, o22, o23, o24, o25, o26, o27), 0)
def c_raddleref45_Count_val (r : ((Int × Int × Int × Int × Int × Int × Int × Int × Int × Int × Int) × Int)) (x : Value) : Value := .tuple #[x, .int .i64 r.2]
def c_raddleref45_Count_D (r : ((Int × Int × Int × Int × Int × Int × Int × Int × Int × Int × Int) × Int)) (x : Value) : List Fact := [fRep r_A11_Int x r.1]
set_option maxHeartbeats 4000000 in
set_option maxRecDepth 100000 in
theorem c_raddleref45_Count (E : Nat → Prop) (w0 : World) (p0 : api_Chart) (v0 : Value) (r : ((Int × Int × Int × Int × Int × Int × Int × Int × Int × Int × Int) × Int)) (h : F_raddleref45_Count p0 = some r) (S : St0 E [] w0 w0 [] [fRep r_api_Chart (v0) p0]) :
    Calls Try.prog 17 #[v0] w0 (Ret (X := Value) E [] w0 (c_raddleref45_Count_val r) (fun _ => []) (c_raddleref45_Count_D r)) := by
  unfold F_raddleref45_Count at h
  obtain ⟨u1, rfl, hu2⟩ := S.know (i := 0) (e := fRep r_api_Chart (v0) p0) rfl
  have S := S.learn (fRep (rL r_api_Row) u1 p0.Rows) hu2
  obtain ⟨ad3, cp4, _, rfl, _⟩ := hu2
  refine sEnter (args := [.agg #[iv p0.Start, .slice ad3 p0.Rows.length cp4]]) 47 Try.func17 rfl rfl (by simp) S (fun a S => ?_)
  refine sSeq (fun K5 hK5 => ?_)
  refine sRegion ?_
  refine sBox (v := .agg #[iv p0.Start, .slice ad3 p0.Rows.length cp4]) S (wN rfl) rfl rfl [iv p0.Start, .slice ad3 p0.Rows.length cp4] rfl rfl (lb rfl) fun a b6 w S => ?_
  refine sAlloc (gv_A11_Int (0, 0, 0, 0, 0, 0, 0, 0, 0, 0, 0)) S (wN rfl) rfl rfl (gl_A11_Int (0, 0, 0, 0, 0, 0, 0, 0, 0, 0, 0)) rfl rfl (lb rfl) fun a b7 w S => ?_
  refine sMove (iv 0) S (wN rfl) (.inr rfl) rfl rfl (lb rfl) fun a S => ?_
  refine leafL (leafT (hK5 _ _ ?_))
  refine sSeq (fun K8 hK8 => ?_)
  refine sRegion ?_
  refine sAlloc (gv_A11_Int (0, 0, 0, 0, 0, 0, 0, 0, 0, 0, 0)) S (wN rfl) rfl rfl (gl_A11_Int (0, 0, 0, 0, 0, 0, 0, 0, 0, 0, 0)) rfl rfl (lb rfl) fun a b9 w S => ?_
  refine leafL (leafT (hK8 _ _ ?_))
  refine sSeq (fun K10 hK10 => ?_)
  refine sSeq (fun K11 hK11 => ?_)
  refine sRegion ?_
  refine sLoadN (p := b6) (off := 0) (T := 41) (vs := [iv p0.Start, .slice ad3 p0.Rows.length cp4]) 2 [iv p0.Start, .slice ad3 p0.Rows.length cp4] S (wN rfl) rfl rfl rfl rfl rfl rfl rfl (lb rfl) fun a S => ?_
  obtain ⟨r12, hx13, h⟩ := bindSome h
  have S1 := S.mem
  refine sCallQ (X := Unit) (f := 30) (vs := [.agg #[iv p0.Start, .slice ad3 p0.Rows.length cp4]]) (val := fun _ => iv r12) S (wN rfl) rfl callee30 rfl (S1.quiet [1] rfl) (fun E1 w1 S1 => c_raddleref26_Check E1 w1 p0 (.agg #[iv p0.Start, .slice ad3 p0.Rows.length cp4]) r12 hx13 S1) rfl (lb rfl) fun _ a w S => ?_
  refine sMove (iv r12) S (wN rfl) (.inr rfl) rfl rfl (lb rfl) fun a S => ?_
  refine leafL (leafT (hK11 _ _ ?_))
  refine sSeq (fun K14 hK14 => ?_)
  refine sRegion ?_
  refine sMove (iv r12) S (wN rfl) (.inl rfl) rfl rfl (lb rfl) fun a S => ?_
  refine sBin (.bool (r12 != 0)) S (wN rfl) rfl rfl rfl (bNe _ _ _ _ .i64 r12 0) rfl (lb rfl) fun a S => ?_
  refine leafL (leafT (hK14 _ _ ?_))
  rcases iteSome h with ⟨hc15, h⟩ | ⟨hc15, h⟩
  · refine sCondT S rfl hc15 ?_
    refine sSeq (fun K16 hK16 => ?_)
    refine sRegion ?_
    refine sLoadN (p := b9) (off := 0) (T := 42) (vs := (gl_A11_Int (0, 0, 0, 0, 0, 0, 0, 0, 0, 0, 0))) 0 (gl_A11_Int (0, 0, 0, 0, 0, 0, 0, 0, 0, 0, 0)) S (wN rfl) rfl rfl rfl rfl rfl rfl rfl (lb rfl) fun a S => ?_
    refine sMove (iv r12) S (wN rfl) (.inl rfl) rfl rfl (lb rfl) fun a S => ?_
    refine sStore (p := b7) (off := 0) (T := 42) (vs := [iv 0, iv 0, iv 0, iv 0, iv 0, iv 0, iv 0, iv 0, iv 0, iv 0, iv 0]) (v := gv_A11_Int (0, 0, 0, 0, 0, 0, 0, 0, 0, 0, 0)) 1 [iv 0, iv 0, iv 0, iv 0, iv 0, iv 0, iv 0, iv 0, iv 0, iv 0, iv 0] S (wN rfl) rfl rfl rfl rfl rfl rfl rfl (by simp) rfl fun a w S => ?_
    refine sMove (iv r12) S (wN rfl) (.inr rfl) rfl rfl (lb rfl) fun a S => ?_
    refine leafL (leafT (hK16 _ _ ?_))
    obtain rfl := Option.some.inj h
    have S := S.learn (fRep r_A11_Int (gv_A11_Int (0, 0, 0, 0, 0, 0, 0, 0, 0, 0, 0)) (0, 0, 0, 0, 0, 0, 0, 0, 0, 0, 0)) rfl
    exact wp_ret (rThen (sRet (.tuple #[gv_A11_Int (0, 0, 0, 0, 0, 0, 0, 0, 0, 0, 0), iv r12]) S (rsl2 rfl (rvN (c := 2) (t := 42) (T := 42) (p := b7) 0 [iv 0, iv 0, iv 0, iv 0, iv 0, iv 0, iv 0, iv 0, iv 0, iv 0, iv 0] S rfl rfl rfl rfl) (rvT (t := 3) (v := iv r12) S rfl)) ⟨(gv_A11_Int (0, 0, 0, 0, 0, 0, 0, 0, 0, 0, 0)), rfl, S.mem.sel [] [0] (by decide) rfl rfl⟩))
  refine sCondF S rfl hc15 ?_
  refine wp_skip (leafT (hK10 _ _ ?_))
  obtain ⟨t28, h, g29⟩ := bindSome h
  refine sCut (fun a w => ∃ o17, ∃ o18, ∃ o19, ∃ o20, ∃ o21, ∃ o22, ∃ o23, ∃ o24, ∃ o25, ∃ o26, ∃ o27, (o17, o18, o19, o20, o21, o22, o23, o24, o25, o26, o27) = t28 ∧ St [] E [] w0 47 a w [(2, .pointer (some ⟨b7, 0, none⟩)), (4, .pointer (some ⟨b9, 0, none⟩))] [eBox b7 42 (gl_A11_Int (0, 0, 0, 0, 0, 0, 0, 0, 0, 0, 0)), eBox b9 42 (gl_A11_Int (o17, o18, o19, o20, o21, o22, o23, o24, o25, o26, o27))] []) ?_ (fun a w hI => ?_)
  rotate_left
  · obtain ⟨o17, o18, o19, o20, o21, o22, o23, o24, o25, o26, o27, rfl, S⟩ := hI
    have h := g29
    clear g29
    try dsimp only at h
    refine sSeq (fun K130 hK130 => ?_)
    refine sRegion ?_
    refine sLoadN (p := b9) (off := 0) (T := 42) (vs := (gl_A11_Int (o17, o18, o19, o20, o21, o22, o23, o24, o25, o26, o27))) 1 (gl_A11_Int (o17, o18, o19, o20, o21, o22, o23, o24, o25, o26, o27)) S (wN rfl) rfl rfl rfl rfl rfl rfl rfl (lb rfl) fun a S => ?_
    refine sStore (p := b7) (off := 0) (T := 42) (vs := [iv 0, iv 0, iv 0, iv 0, iv 0, iv 0, iv 0, iv 0, iv 0, iv 0, iv 0]) (v := gv_A11_Int (o17, o18, o19, o20, o21, o22, o23, o24, o25, o26, o27)) 0 [iv o17, iv o18, iv o19, iv o20, iv o21, iv o22, iv o23, iv o24, iv o25, iv o26, iv o27] S (wN rfl) rfl rfl rfl rfl rfl rfl rfl (by simp) rfl fun a w S => ?_
    refine sMove (iv 0) S (wN rfl) (.inr rfl) rfl rfl (lb rfl) fun a S => ?_
    refine leafL (leafT (hK130 _ _ ?_))
    obtain rfl := Option.some.inj h
    have S := S.learn (fRep r_A11_Int (gv_A11_Int (o17, o18, o19, o20, o21, o22, o23, o24, o25, o26, o27)) (o17, o18, o19, o20, o21, o22, o23, o24, o25, o26, o27)) rfl
    exact wp_ret (sRet (.tuple #[gv_A11_Int (o17, o18, o19, o20, o21, o22, o23, o24, o25, o26, o27), iv 0]) S (rsl2 rfl (rvN (c := 2) (t := 42) (T := 42) (p := b7) 0 [iv o17, iv o18, iv o19, iv o20, iv o21, iv o22, iv o23, iv o24, iv o25, iv o26, iv o27] S rfl rfl rfl rfl) (rvT (t := 3) (v := iv 0) S rfl)) ⟨(gv_A11_Int (o17, o18, o19, o20, o21, o22, o23, o24, o25, o26, o27)), rfl, S.mem.sel [] [0] (by decide) rfl rfl⟩)
  refine sSeq (fun K30 hK30 => ?_)
  refine sRegion ?_
  refine sMove (iv 0) S (wN rfl) (.inr rfl) rfl rfl (lb rfl) fun a S => ?_
  refine leafL (leafT (hK30 _ _ ?_))
  refine wp_block ?_
  obtain ⟨t45, hl, g44⟩ := bindSome h
  refine sLoop hl (fun s0 a w => match s0 with | (s31, s32, s33, s34, s35, s36, s37, s38, s39, s40, s41, s42) => St [] E [] w0 47 a w [(1, .pointer (some ⟨b6, 0, none⟩)), (2, .pointer (some ⟨b7, 0, none⟩)), (4, .pointer (some ⟨b9, 0, none⟩)), (6, iv s31)] [eBox b6 41 [iv p0.Start, .slice ad3 p0.Rows.length cp4], eBox b7 42 (gl_A11_Int (0, 0, 0, 0, 0, 0, 0, 0, 0, 0, 0)), eBox b9 42 (gl_A11_Int (s32, s33, s34, s35, s36, s37, s38, s39, s40, s41, s42))] [fRep (rL r_api_Row) (.slice ad3 p0.Rows.length cp4) p0.Rows]) (S.fix [2, 1, 0] [0] (by decide) rfl rfl rfl) ?_
  clear hl h
  intro s0 a w c0 hI h hu43
  obtain ⟨s31, s32, s33, s34, s35, s36, s37, s38, s39, s40, s41, s42⟩ := s0
  unfold raddleref45_Count_l2 at h
  dsimp only at h hI
  have S := hI
  refine sSeq (fun K57 hK57 => ?_)
  refine sSeq (fun K58 hK58 => ?_)
  refine sRegion ?_
  refine sMove (iv s31) S (wN rfl) (.inl rfl) rfl rfl (lb rfl) fun a S => ?_
  refine sField (b := b6) (off := 0) 1 1 S (wN rfl) rfl rfl rfl rfl rfl (lb rfl) fun a S => ?_
  refine sLoad1 (p := b6) (off := 1) (T := 41) (vs := [iv p0.Start, .slice ad3 p0.Rows.length cp4]) 0 (.slice ad3 p0.Rows.length cp4) S (wN rfl) rfl rfl rfl rfl rfl rfl (lb rfl) fun a S => ?_
  refine sLen (ad := ad3) (m := p0.Rows.length) (c := cp4) S (wN rfl) rfl Try.underlying39 rfl rfl (lb rfl) fun a S => ?_
  refine sBin (.bool (decide (s31 < (p0.Rows.length : Int)))) S (wN rfl) rfl rfl rfl (bLt _ _ _ _ .i64 s31 (p0.Rows.length : Int)) rfl (lb rfl) fun a S => ?_
  refine leafL (leafT (hK58 _ _ ?_))
  rcases iteSome h with ⟨hc59, h⟩ | ⟨hc59, h⟩
  rotate_left
  · refine sCondF S rfl hc59 ?_
    obtain rfl := Option.some.inj h
    obtain rfl := hu43 _ rfl
    have h := g44
    clear g44
    try dsimp only at h
    exact wp_exit (xThen (xThen (xHit (leafT (⟨s32, s33, s34, s35, s36, s37, s38, s39, s40, s41, s42, Option.some.inj h, S.fix [1, 2] [] (by decide) rfl rfl rfl⟩)))))
  refine sCondT S rfl hc59 ?_
  refine wp_skip (leafT (hK57 _ _ ?_))
  obtain ⟨t71, h, g72⟩ := bindSome h
  refine sCut (fun a w => ∃ o60, ∃ o61, ∃ o62, ∃ o63, ∃ o64, ∃ o65, ∃ o66, ∃ o67, ∃ o68, ∃ o69, ∃ o70, (o60, o61, o62, o63, o64, o65, o66, o67, o68, o69, o70) = t71 ∧ St [] E [] w0 47 a w [(1, .pointer (some ⟨b6, 0, none⟩)), (2, .pointer (some ⟨b7, 0, none⟩)), (4, .pointer (some ⟨b9, 0, none⟩)), (6, iv s31)] [eBox b6 41 [iv p0.Start, .slice ad3 p0.Rows.length cp4], eBox b7 42 (gl_A11_Int (0, 0, 0, 0, 0, 0, 0, 0, 0, 0, 0)), eBox b9 42 (gl_A11_Int (o60, o61, o62, o63, o64, o65, o66, o67, o68, o69, o70))] [fRep (rL r_api_Row) (.slice ad3 p0.Rows.length cp4) p0.Rows]) ?_ (fun a w hI => ?_)
  rotate_left
  · obtain ⟨o60, o61, o62, o63, o64, o65, o66, o67, o68, o69, o70, rfl, S⟩ := hI
    have h := g72
    clear g72
    try dsimp only at h
    refine sRegion ?_
    refine sMove (iv s31) S (wN rfl) (.inl rfl) rfl rfl (lb rfl) fun a S => ?_
    refine sBin (iv (w64 (s31 + 1))) S (wN rfl) rfl rfl rfl (bAdd _ _ _ _ s31 1) rfl (lb rfl) fun a S => ?_
    refine sMove (iv (w64 (s31 + 1))) S (wN rfl) (.inr rfl) rfl rfl (lb rfl) fun a S => ?_
    exact leafL (leafT (⟨(w64 (s31 + 1), o60, o61, o62, o63, o64, o65, o66, o67, o68, o69, o70), (Option.some.inj h).symm, (S.fix [0, 1, 2] [0] (by decide) rfl rfl rfl)⟩))
  refine wp_block ?_
  refine sSeq (fun K73 hK73 => ?_)
  refine sRegion ?_
  refine sMove (iv 0) S (wN rfl) (.inr rfl) rfl rfl (lb rfl) fun a S => ?_
  refine leafL (leafT (hK73 _ _ ?_))
  refine wp_block ?_
  obtain ⟨t88, hl, g87⟩ := bindSome h
  refine sLoop hl (fun s0 a w => match s0 with | (s74, s75, s76, s77, s78, s79, s80, s81, s82, s83, s84, s85) => St [] E [] w0 47 a w [(1, .pointer (some ⟨b6, 0, none⟩)), (2, .pointer (some ⟨b7, 0, none⟩)), (4, .pointer (some ⟨b9, 0, none⟩)), (6, iv s31), (7, iv s74)] [eBox b6 41 [iv p0.Start, .slice ad3 p0.Rows.length cp4], eBox b7 42 (gl_A11_Int (0, 0, 0, 0, 0, 0, 0, 0, 0, 0, 0)), eBox b9 42 (gl_A11_Int (s75, s76, s77, s78, s79, s80, s81, s82, s83, s84, s85))] [fRep (rL r_api_Row) (.slice ad3 p0.Rows.length cp4) p0.Rows]) (S.fix [0, 1, 2] [0] (by decide) rfl rfl rfl) ?_
  clear hl h
  intro s0 a w c0 hI h hu86
  obtain ⟨s74, s75, s76, s77, s78, s79, s80, s81, s82, s83, s84, s85⟩ := s0
  unfold raddleref45_Count_l1 at h
  dsimp only at h hI
  have S := hI
  refine sSeq (fun K100 hK100 => ?_)
  refine sSeq (fun K101 hK101 => ?_)
  refine sRegion ?_
  refine sMove (iv s74) S (wN rfl) (.inl rfl) rfl rfl (lb rfl) fun a S => ?_
  refine sField (b := b6) (off := 0) 1 1 S (wN rfl) rfl rfl rfl rfl rfl (lb rfl) fun a S => ?_
  refine sLoad1 (p := b6) (off := 1) (T := 41) (vs := [iv p0.Start, .slice ad3 p0.Rows.length cp4]) 0 (.slice ad3 p0.Rows.length cp4) S (wN rfl) rfl rfl rfl rfl rfl rfl (lb rfl) fun a S => ?_
  refine sMove (iv s31) S (wN rfl) (.inl rfl) rfl rfl (lb rfl) fun a S => ?_
  obtain ⟨x102, hx103, h⟩ := bindSome h
  obtain ⟨q104, hq105, S⟩ := pIdx (P := Try.prog) (r := r_api_Row) (v := .slice ad3 p0.Rows.length cp4) (xs := p0.Rows) (j := s31) 39 72 0 S Try.underlying39 rfl rfl hx103
  refine sIdxV (v := .slice ad3 p0.Rows.length cp4) (k := .i64) (j := s31) S (wN rfl) rfl rfl rfl hq105 rfl (lb rfl) fun a S => ?_
  obtain ⟨q106, hq107, S⟩ := pFld (P := Try.prog) (r := r_api_Row) (s2 := (rL r_api_Stitch)) (g := (·.Cells)) (q := q104) (z := x102) 72 1 0 1 S rfl rfl comp_api_Row_Cells
  refine sFldV (q := q104) S (wN rfl) rfl rfl hq107 rfl (lb rfl) fun a S => ?_
  obtain ⟨u108, S⟩ := pLoad (r := (rL r_api_Stitch)) (q := q106) (x := x102.Cells) 0 S rfl
  obtain ⟨ad109, cp110, _, rfl, _⟩ := S.mem.know (i := 1) (e := fRep (rL r_api_Stitch) (u108) x102.Cells) rfl
  refine sLoadV1 (vq := q106) 0 (.slice ad109 x102.Cells.length cp110) S (wN rfl) rfl rfl rfl rfl rfl (lb rfl) fun a S => ?_
  refine sLen (ad := ad109) (m := x102.Cells.length) (c := cp110) S (wN rfl) rfl Try.underlying70 rfl rfl (lb rfl) fun a S => ?_
  refine sBin (.bool (decide (s74 < (x102.Cells.length : Int)))) S (wN rfl) rfl rfl rfl (bLt _ _ _ _ .i64 s74 (x102.Cells.length : Int)) rfl (lb rfl) fun a S => ?_
  refine leafL (leafT (hK101 _ _ ?_))
  rcases iteSome h with ⟨hc111, h⟩ | ⟨hc111, h⟩
  rotate_left
  · refine sCondF S rfl hc111 ?_
    obtain rfl := Option.some.inj h
    obtain rfl := hu86 _ rfl
    have h := g87
    clear g87
    try dsimp only at h
    exact wp_exit (xThen (xThen (xHit (leafB (leafT (⟨s75, s76, s77, s78, s79, s80, s81, s82, s83, s84, s85, Option.some.inj h, S.fix [0, 1, 2] [4] (by decide) rfl rfl rfl⟩))))))
  refine sCondT S rfl hc111 ?_
  refine wp_skip (leafT (hK100 _ _ ?_))
  refine sSeq (fun K112 hK112 => ?_)
  refine wp_block ?_
  refine sRegion ?_
  refine sField (b := b6) (off := 0) 1 1 S (wN rfl) rfl rfl rfl rfl rfl (lb rfl) fun a S => ?_
  refine sLoad1 (p := b6) (off := 1) (T := 41) (vs := [iv p0.Start, .slice ad3 p0.Rows.length cp4]) 0 (.slice ad3 p0.Rows.length cp4) S (wN rfl) rfl rfl rfl rfl rfl rfl (lb rfl) fun a S => ?_
  refine sMove (iv s31) S (wN rfl) (.inl rfl) rfl rfl (lb rfl) fun a S => ?_
  obtain ⟨q113, hq114, S⟩ := pIdx (P := Try.prog) (r := r_api_Row) (v := .slice ad3 p0.Rows.length cp4) (xs := p0.Rows) (j := s31) 39 72 4 S Try.underlying39 rfl rfl hx103
  refine sIdxV (v := .slice ad3 p0.Rows.length cp4) (k := .i64) (j := s31) S (wN rfl) rfl rfl rfl hq114 rfl (lb rfl) fun a S => ?_
  obtain ⟨q115, hq116, S⟩ := pFld (P := Try.prog) (r := r_api_Row) (s2 := (rL r_api_Stitch)) (g := (·.Cells)) (q := q113) (z := x102) 72 1 0 1 S rfl rfl comp_api_Row_Cells
  refine sFldV (q := q113) S (wN rfl) rfl rfl hq116 rfl (lb rfl) fun a S => ?_
  obtain ⟨u117, S⟩ := pLoad (r := (rL r_api_Stitch)) (q := q115) (x := x102.Cells) 0 S rfl
  obtain ⟨ad118, cp119, _, rfl, _⟩ := S.mem.know (i := 1) (e := fRep (rL r_api_Stitch) (u117) x102.Cells) rfl
  refine sLoadV1 (vq := q115) 0 (.slice ad118 x102.Cells.length cp119) S (wN rfl) rfl rfl rfl rfl rfl (lb rfl) fun a S => ?_
  refine sMove (iv s74) S (wN rfl) (.inl rfl) rfl rfl (lb rfl) fun a S => ?_
  obtain ⟨x120, hx121, h⟩ := bindSome h
  obtain ⟨q122, hq123, S⟩ := pIdx (P := Try.prog) (r := r_api_Stitch) (v := .slice ad118 x102.Cells.length cp119) (xs := x102.Cells) (j := s74) 70 74 1 S Try.underlying70 rfl rfl hx121
  refine sIdxV (v := .slice ad118 x102.Cells.length cp119) (k := .i64) (j := s74) S (wN rfl) rfl rfl rfl hq123 rfl (lb rfl) fun a S => ?_
  obtain ⟨q124, hq125, S⟩ := pFld (P := Try.prog) (r := r_api_Stitch) (s2 := (rI .u8)) (g := (·.Kind)) (q := q122) (z := x120) 74 0 0 0 S rfl rfl comp_api_Stitch_Kind
  refine sFldV (q := q122) S (wN rfl) rfl rfl hq125 rfl (lb rfl) fun a S => ?_
  obtain ⟨u126, S⟩ := pLoad (r := (rI .u8)) (q := q124) (x := x120.Kind) 0 S rfl
  obtain rfl : u126 = .int .u8 x120.Kind := S.mem.know (i := 1) (e := fRep (rI .u8) (u126) x120.Kind) rfl
  refine sLoadV1 (vq := q124) 0 (.int .u8 x120.Kind) S (wN rfl) rfl rfl rfl rfl rfl (lb rfl) fun a S => ?_
  obtain ⟨x127, hx128, h⟩ := bindSome h
  refine sIdxV (v := .pointer (some ⟨b9, 0, none⟩)) (k := .u8) (j := x120.Kind) (q := .pointer (some ⟨b9, 0 + (x120.Kind).toNat * 1, none⟩)) S (wN rfl) rfl rfl rfl (idxV_arr (m := 11) (sz := 1) Try.underlying42 rfl (idxO_rng (m := 11) hx128 rfl).1 (idxO_rng (m := 11) hx128 rfl).2 0) rfl (lb rfl) fun a S => ?_
  refine sLoad1 (p := b9) (off := 0 + (x120.Kind).toNat * 1) (T := 42) (vs := [iv s75, iv s76, iv s77, iv s78, iv s79, iv s80, iv s81, iv s82, iv s83, iv s84, iv s85]) 2 (iv x127) S (wN rfl) rfl rfl rfl rfl (box_at (g := (fun z => .int .i64 z)) [] [] 0 hx128 rfl rfl) rfl (lb rfl) fun a S => ?_
  refine sBin (iv (w64 (x127 + 1))) S (wN rfl) rfl rfl rfl (bAdd _ _ _ _ x127 1) rfl (lb rfl) fun a S => ?_
  refine sIdxV (v := .pointer (some ⟨b9, 0, none⟩)) (k := .u8) (j := x120.Kind) (q := .pointer (some ⟨b9, 0 + (x120.Kind).toNat * 1, none⟩)) S (wN rfl) rfl rfl rfl (idxV_arr (m := 11) (sz := 1) Try.underlying42 rfl (idxO_rng (m := 11) hx128 rfl).1 (idxO_rng (m := 11) hx128 rfl).2 0) rfl (lb rfl) fun a S => ?_
  refine sStore (p := b9) (off := 0 + (x120.Kind).toNat * 1) (T := 42) (vs := [iv s75, iv s76, iv s77, iv s78, iv s79, iv s80, iv s81, iv s82, iv s83, iv s84, iv s85]) (v := iv (w64 (x127 + 1))) 2 [iv (w64 (x127 + 1))] S (wN rfl) rfl rfl rfl rfl rfl rfl rfl (by have hq := idxO_rng (m := 11) hx128 rfl; simp; omega) rfl fun a w S => ?_
  have ho129 : over [iv s75, iv s76, iv s77, iv s78, iv s79, iv s80, iv s81, iv s82, iv s83, iv s84, iv s85] (0 + (x120.Kind).toNat * 1) [iv (w64 (x127 + 1))] = [iv (if x120.Kind = 0 then w64 (x127 + 1) else s75), iv (if x120.Kind = 1 then w64 (x127 + 1) else s76), iv (if x120.Kind = 2 then w64 (x127 + 1) else s77), iv (if x120.Kind = 3 then w64 (x127 + 1) else s78), iv (if x120.Kind = 4 then w64 (x127 + 1) else s79), iv (if x120.Kind = 5 then w64 (x127 + 1) else s80), iv (if x120.Kind = 6 then w64 (x127 + 1) else s81), iv (if x120.Kind = 7 then w64 (x127 + 1) else s82), iv (if x120.Kind = 8 then w64 (x127 + 1) else s83), iv (if x120.Kind = 9 then w64 (x127 + 1) else s84), iv (if x120.Kind = 10 then w64 (x127 + 1) else s85)] := over_at (g := (fun z => .int .i64 z)) (xs := ([s75, s76, s77, s78, s79, s80, s81, s82, s83, s84, s85] : List Int)) (y := w64 (x127 + 1)) [] [] 0 hx128 rfl rfl rfl rfl
  rw [ho129] at S
  refine leafL (leafB (leafT (hK112 _ _ ?_)))
  refine sRegion ?_
  refine sMove (iv s74) S (wN rfl) (.inl rfl) rfl rfl (lb rfl) fun a S => ?_
  refine sBin (iv (w64 (s74 + 1))) S (wN rfl) rfl rfl rfl (bAdd _ _ _ _ s74 1) rfl (lb rfl) fun a S => ?_
  refine sMove (iv (w64 (s74 + 1))) S (wN rfl) (.inr rfl) rfl rfl (lb rfl) fun a S => ?_
  exact leafL (leafT (⟨(w64 (s74 + 1), (if x120.Kind = 0 then w64 (x127 + 1) else s75), (if x120.Kind = 1 then w64 (x127 + 1) else s76), (if x120.Kind = 2 then w64 (x127 + 1) else s77), (if x120.Kind = 3 then w64 (x127 + 1) else s78), (if x120.Kind = 4 then w64 (x127 + 1) else s79), (if x120.Kind = 5 then w64 (x127 + 1) else s80), (if x120.Kind = 6 then w64 (x127 + 1) else s81), (if x120.Kind = 7 then w64 (x127 + 1) else s82), (if x120.Kind = 8 then w64 (x127 + 1) else s83), (if x120.Kind = 9 then w64 (x127 + 1) else s84), (if x120.Kind = 10 then w64 (x127 + 1) else s85)), (Option.some.inj h).symm, (S.fix [1, 2, 0] [12] (by decide) rfl rfl rfl)⟩))

end Go.Proofs.Ytdbgkakmhlmpbaa
namespace Go.Proofs.Ytdbgkakmhlmpbaa
open Go.RowKit
set_option linter.unusedVariables false

noncomputable def F_cost_rate (p0 : Int) : Option Bool :=
  Option.bind (α := Bool) (
    if decide (0 ≤ p0) then
      some (decide (p0 ≤ 1000000))
    else
      some false) fun o2 =>
  some o2
set_option maxHeartbeats 4000000 in
set_option maxRecDepth 100000 in
theorem c_cost_rate (E : Nat → Prop) (w0 : World) (p0 : Int) (r : Bool) (h : F_cost_rate p0 = some r) (S : St0 E [] w0 w0 [] []) :
    Calls Try.prog 42 #[iv p0] w0 (Ret (X := Unit) E [] w0 (fun _ => .bool r) (fun _ => []) (fun _ => [])) := by
  unfold F_cost_rate at h
  refine sEnter (args := [iv p0]) 9 Try.func42 rfl rfl (by simp) S (fun a S => ?_)
  refine sSeq (fun K1 hK1 => ?_)
  refine sRegion ?_
  refine sMove (.bool false) S (wN rfl) (.inr rfl) rfl rfl (lb rfl) fun a S => ?_
  refine leafL (leafT (hK1 _ _ ?_))
  obtain ⟨t3, h, g4⟩ := bindSome h
  refine sCut (fun a w => ∃ o2, o2 = t3 ∧ St [] E [] w0 9 a w [(2, .bool o2)] [] []) ?_ (fun a w hI => ?_)
  rotate_left
  · obtain ⟨o2, rfl, S⟩ := hI
    have h := g4
    clear g4
    try dsimp only at h
    obtain rfl := Option.some.inj h
    exact wp_ret (sRet (.bool o2) S (rsl1 rfl (rvT (t := 2) (v := .bool o2) S rfl)) ⟨(), rfl, S.mem.sel [] [] (by decide) rfl rfl⟩)
  refine sRegion ?_
  refine sMove (iv p0) S (wN rfl) (.inl rfl) rfl rfl (lb rfl) fun a S => ?_
  refine sBin (.bool (decide (0 ≤ p0))) S (wN rfl) rfl rfl rfl (bGe _ _ _ _ .i64 p0 0) rfl (lb rfl) fun a S => ?_
  refine sMove (.bool (decide (0 ≤ p0))) S (wN rfl) (.inl rfl) rfl rfl (lb rfl) fun a S => ?_
  rcases iteSome h with ⟨hc5, h⟩ | ⟨hc5, h⟩
  rotate_left
  · refine sSkip 2 true 5 6 S rfl rfl rfl hc5 rfl (lb rfl) fun a S => ?_
    refine sSkip 2 true 5 7 S rfl rfl rfl hc5 rfl (lb rfl) fun a S => ?_
    refine sPickF (.bool false) S (wN rfl) rfl rfl hc5 rfl rfl (lb rfl) fun a S => ?_
    refine sMove (.bool false) S (wN rfl) (.inr rfl) rfl rfl (lb rfl) fun a S => ?_
    exact leafL (leafT (⟨false, Option.some.inj h, S.fix [] [] (by decide) rfl rfl rfl⟩))
  refine sMove (iv p0) S (wG 2 true 5 rfl rfl rfl hc5) (.inl rfl) rfl rfl (lb rfl) fun a S => ?_
  refine sBin (.bool (decide (p0 ≤ 1000000))) S (wG 2 true 5 rfl rfl rfl hc5) rfl rfl rfl (bLe _ _ _ _ .i64 p0 1000000) rfl (lb rfl) fun a S => ?_
  refine sPickT (.bool (decide (p0 ≤ 1000000))) S (wN rfl) rfl rfl hc5 rfl rfl (lb rfl) fun a S => ?_
  refine sMove (.bool (decide (p0 ≤ 1000000))) S (wN rfl) (.inr rfl) rfl rfl (lb rfl) fun a S => ?_
  exact leafL (leafT (⟨decide (p0 ≤ 1000000), Option.some.inj h, S.fix [] [] (by decide) rfl rfl rfl⟩))

end Go.Proofs.Ytdbgkakmhlmpbaa
namespace Go.Proofs.Ytdbgkakmhlmpbaa
open Go.RowKit
set_option linter.unusedVariables false

noncomputable def cost_Check_l1 (p0 : api_Rates) : Int → Option (Int ⊕ (Int ⊕ Unit)) := fun s0 => match s0 with
  | s6 =>
    if decide (s6 < 11) then
      Option.bind (idxO ([p0.Length.1, p0.Length.2.1, p0.Length.2.2.1, p0.Length.2.2.2.1, p0.Length.2.2.2.2.1, p0.Length.2.2.2.2.2.1, p0.Length.2.2.2.2.2.2.1, p0.Length.2.2.2.2.2.2.2.1, p0.Length.2.2.2.2.2.2.2.2.1, p0.Length.2.2.2.2.2.2.2.2.2.1, p0.Length.2.2.2.2.2.2.2.2.2.2] : List Int) s6) fun x15 =>
      Option.bind (α := Bool) (
        Option.bind (F_cost_rate x15) fun r20 =>
        if !r20 then
          some true
        else
          Option.bind (idxO ([p0.Time.1, p0.Time.2.1, p0.Time.2.2.1, p0.Time.2.2.2.1, p0.Time.2.2.2.2.1, p0.Time.2.2.2.2.2.1, p0.Time.2.2.2.2.2.2.1, p0.Time.2.2.2.2.2.2.2.1, p0.Time.2.2.2.2.2.2.2.2.1, p0.Time.2.2.2.2.2.2.2.2.2.1, p0.Time.2.2.2.2.2.2.2.2.2.2] : List Int) s6) fun x23 =>
          Option.bind (F_cost_rate x23) fun r25 =>
          some (!r25)) fun o17 =>
      if o17 then
        some (.inr (.inl 8))
      else
        some (.inl (w64 (s6 + 1)))
    else
      some (.inr (.inr ()))
noncomputable def F_cost_Check (p0 : api_Rates) : Option Int :=
  Option.bind (α := Unit ⊕ Int) (
    Option.bind (whileO (cost_Check_l1 p0) 0) fun z0 => match z0 with
      | .inl z =>
        some (.inr z)
      | .inr _ =>
        some (.inl ())) fun z0 => match z0 with
    | .inl _ =>
      Option.bind (α := Bool) (
        Option.bind (F_cost_rate p0.Turn) fun r33 =>
        if !r33 then
          some true
        else
          if p0.Length.1 != 0 then
            some true
          else
            some (p0.Time.1 != 0)) fun o30 =>
      if o30 then
        some 8
      else
        some 0
    | .inr z =>
      some z
set_option maxHeartbeats 4000000 in
set_option maxRecDepth 100000 in
theorem c_cost_Check (E : Nat → Prop) (w0 : World) (p0 : api_Rates) (v0 : Value) (r : Int) (h : F_cost_Check p0 = some r) (S : St0 E [] w0 w0 [] [fRep r_api_Rates (v0) p0]) :
    Calls Try.prog 22 #[v0] w0 (Ret (X := Unit) E [] w0 (fun _ => .int .i64 r) (fun _ => []) (fun _ => [])) := by
  unfold F_cost_Check at h
  obtain rfl : v0 = gv_api_Rates p0 := S.know (i := 0) (e := fRep r_api_Rates (v0) p0) rfl
  refine sEnter (args := [gv_api_Rates p0]) 39 Try.func22 rfl rfl (by simp) S (fun a S => ?_)
  refine sSeq (fun K1 hK1 => ?_)
  refine sRegion ?_
  refine sBox (v := gv_api_Rates p0) S (wN rfl) rfl rfl (gl_api_Rates p0) rfl rfl (lb rfl) fun a b2 w S => ?_
  refine sMove (iv 0) S (wN rfl) (.inr rfl) rfl rfl (lb rfl) fun a S => ?_
  refine leafL (leafT (hK1 _ _ ?_))
  obtain ⟨t3, h, g4⟩ := bindSome h
  refine sCut (fun a w => .inl () = t3 ∧ St [] E [] w0 39 a w [(1, .pointer (some ⟨b2, 0, none⟩))] [eBox b2 44 (gl_api_Rates p0)] []) ?_ (fun a w hI => ?_)
  rotate_left
  · obtain ⟨rfl, S⟩ := hI
    have h := g4
    clear g4
    try dsimp only at h
    refine sSeq (fun K29 hK29 => ?_)
    obtain ⟨t31, h, g32⟩ := bindSome h
    refine sCut (fun a w => ∃ o30, o30 = t31 ∧ St [] E [] w0 39 a w [(38, .bool o30)] [] []) ?_ (fun a w hI => ?_)
    rotate_left
    · obtain ⟨o30, rfl, S⟩ := hI
      have h := g32
      clear g32
      try dsimp only at h
      rcases iteSome h with ⟨hc37, h⟩ | ⟨hc37, h⟩
      · refine sCondT S rfl hc37 ?_
        refine sSeq (fun K38 hK38 => ?_)
        refine sRegion ?_
        refine sMove (iv 8) S (wN rfl) (.inr rfl) rfl rfl (lb rfl) fun a S => ?_
        refine leafL (leafT (hK38 _ _ ?_))
        obtain rfl := Option.some.inj h
        exact wp_ret (rThen (sRet (iv 8) S (rsl1 rfl (rvT (t := 2) (v := iv 8) S rfl)) ⟨(), rfl, S.mem.sel [] [] (by decide) rfl rfl⟩))
      refine sCondF S rfl hc37 ?_
      refine wp_skip (leafT (hK29 _ _ ?_))
      refine sSeq (fun K39 hK39 => ?_)
      refine sRegion ?_
      refine sMove (iv 0) S (wN rfl) (.inr rfl) rfl rfl (lb rfl) fun a S => ?_
      refine leafL (leafT (hK39 _ _ ?_))
      obtain rfl := Option.some.inj h
      exact wp_ret (sRet (iv 0) S (rsl1 rfl (rvT (t := 2) (v := iv 0) S rfl)) ⟨(), rfl, S.mem.sel [] [] (by decide) rfl rfl⟩)
    refine sRegion ?_
    refine sField (b := b2) (off := 0) 22 22 S (wN rfl) rfl rfl rfl rfl rfl (lb rfl) fun a S => ?_
    refine sLoad1 (p := b2) (off := 22) (T := 44) (vs := (gl_api_Rates p0)) 0 (iv p0.Turn) S (wN rfl) rfl rfl rfl rfl rfl rfl (lb rfl) fun a S => ?_
    obtain ⟨r33, hx34, h⟩ := bindSome h
    have S1 := S.mem
    refine sCallQ (X := Unit) (f := 42) (vs := [iv p0.Turn]) (val := fun _ => .bool r33) S (wN rfl) rfl callee42 rfl (S1.quiet [] rfl) (fun E1 w1 S1 => c_cost_rate E1 w1 p0.Turn r33 hx34 S1) rfl (lb rfl) fun _ a w S => ?_
    refine sNot (b := r33) S (wN rfl) rfl rfl rfl (lb rfl) fun a S => ?_
    refine sMove (.bool (!r33)) S (wN rfl) (.inl rfl) rfl rfl (lb rfl) fun a S => ?_
    rcases iteSome h with ⟨hc35, h⟩ | ⟨hc35, h⟩
    · refine sSkip 4 false 27 28 S rfl rfl rfl hc35 rfl (lb rfl) fun a S => ?_
      refine sSkip 4 false 27 29 S rfl rfl rfl hc35 rfl (lb rfl) fun a S => ?_
      refine sSkip 4 false 27 30 S rfl rfl rfl hc35 rfl (lb rfl) fun a S => ?_
      refine sSkip 4 false 27 31 S rfl rfl rfl hc35 rfl (lb rfl) fun a S => ?_
      refine sPickT (.bool true) S (wN rfl) rfl rfl hc35 rfl rfl (lb rfl) fun a S => ?_
      refine sMove (.bool true) S (wN rfl) (.inl rfl) rfl rfl (lb rfl) fun a S => ?_
      refine sSkip 10 false 33 34 S rfl rfl rfl rfl rfl (lb rfl) fun a S => ?_
      refine sSkip 10 false 33 35 S rfl rfl rfl rfl rfl (lb rfl) fun a S => ?_
      refine sSkip 10 false 33 36 S rfl rfl rfl rfl rfl (lb rfl) fun a S => ?_
      refine sSkip 10 false 33 37 S rfl rfl rfl rfl rfl (lb rfl) fun a S => ?_
      refine sPickT (.bool true) S (wN rfl) rfl rfl rfl rfl rfl (lb rfl) fun a S => ?_
      exact leafL (leafT (⟨true, Option.some.inj h, S.fix [] [] (by decide) rfl rfl rfl⟩))
    refine sField (b := b2) (off := 0) 0 0 S (wG 4 false 27 rfl rfl rfl hc35) rfl rfl rfl rfl rfl (lb rfl) fun a S => ?_
    refine sIdxV (v := .pointer (some ⟨b2, 0, none⟩)) (k := .i64) (j := 0) (q := .pointer (some ⟨b2, 0, none⟩)) S (wG 4 false 27 rfl rfl rfl hc35) rfl rfl rfl (idxV_arr (m := 11) (sz := 1) Try.underlying42 rfl (by decide) (by decide) 0) rfl (lb rfl) fun a S => ?_
    refine sLoad1 (p := b2) (off := 0) (T := 44) (vs := (gl_api_Rates p0)) 0 (iv p0.Length.1) S (wG 4 false 27 rfl rfl rfl hc35) rfl rfl rfl rfl rfl rfl (lb rfl) fun a S => ?_
    refine sBin (.bool (p0.Length.1 != 0)) S (wG 4 false 27 rfl rfl rfl hc35) rfl rfl rfl (bNe _ _ _ _ .i64 p0.Length.1 0) rfl (lb rfl) fun a S => ?_
    refine sPickF (.bool (p0.Length.1 != 0)) S (wN rfl) rfl rfl hc35 rfl rfl (lb rfl) fun a S => ?_
    refine sMove (.bool (p0.Length.1 != 0)) S (wN rfl) (.inl rfl) rfl rfl (lb rfl) fun a S => ?_
    rcases iteSome h with ⟨hc36, h⟩ | ⟨hc36, h⟩
    · refine sSkip 10 false 33 34 S rfl rfl rfl hc36 rfl (lb rfl) fun a S => ?_
      refine sSkip 10 false 33 35 S rfl rfl rfl hc36 rfl (lb rfl) fun a S => ?_
      refine sSkip 10 false 33 36 S rfl rfl rfl hc36 rfl (lb rfl) fun a S => ?_
      refine sSkip 10 false 33 37 S rfl rfl rfl hc36 rfl (lb rfl) fun a S => ?_
      refine sPickT (.bool true) S (wN rfl) rfl rfl hc36 rfl rfl (lb rfl) fun a S => ?_
      exact leafL (leafT (⟨true, Option.some.inj h, S.fix [] [] (by decide) rfl rfl rfl⟩))
    refine sField (b := b2) (off := 0) 11 11 S (wG 10 false 33 rfl rfl rfl hc36) rfl rfl rfl rfl rfl (lb rfl) fun a S => ?_
    refine sIdxV (v := .pointer (some ⟨b2, 11, none⟩)) (k := .i64) (j := 0) (q := .pointer (some ⟨b2, 11, none⟩)) S (wG 10 false 33 rfl rfl rfl hc36) rfl rfl rfl (idxV_arr (m := 11) (sz := 1) Try.underlying42 rfl (by decide) (by decide) 11) rfl (lb rfl) fun a S => ?_
    refine sLoad1 (p := b2) (off := 11) (T := 44) (vs := (gl_api_Rates p0)) 0 (iv p0.Time.1) S (wG 10 false 33 rfl rfl rfl hc36) rfl rfl rfl rfl rfl rfl (lb rfl) fun a S => ?_
    refine sBin (.bool (p0.Time.1 != 0)) S (wG 10 false 33 rfl rfl rfl hc36) rfl rfl rfl (bNe _ _ _ _ .i64 p0.Time.1 0) rfl (lb rfl) fun a S => ?_
    refine sPickF (.bool (p0.Time.1 != 0)) S (wN rfl) rfl rfl hc36 rfl rfl (lb rfl) fun a S => ?_
    exact leafL (leafT (⟨p0.Time.1 != 0, Option.some.inj h, S.fix [] [] (by decide) rfl rfl rfl⟩))
  refine sSeq (fun K5 hK5 => ?_)
  refine sRegion ?_
  refine sField (b := b2) (off := 0) 0 0 S (wN rfl) rfl rfl rfl rfl rfl (lb rfl) fun a S => ?_
  refine sLoadN (p := b2) (off := 0) (T := 44) (vs := (gl_api_Rates p0)) 0 (gl_A11_Int p0.Length) S (wN rfl) rfl rfl rfl rfl rfl rfl rfl (lb rfl) fun a S => ?_
  refine sMove (iv 0) S (wN rfl) (.inl rfl) rfl rfl (lb rfl) fun a S => ?_
  refine leafL (leafT (hK5 _ _ ?_))
  refine wp_block ?_
  obtain ⟨t9, hl, g8⟩ := bindSome h
  refine sLoop hl (fun s0 a w => match s0 with | s6 => St [] E [] w0 39 a w [(1, .pointer (some ⟨b2, 0, none⟩)), (6, gv_A11_Int p0.Length), (7, iv s6)] [eBox b2 44 (gl_api_Rates p0)] []) (S.fix [0] [] (by decide) rfl rfl rfl) ?_
  clear hl h
  intro s6 a w c0 hI h hu7
  unfold cost_Check_l1 at h
  dsimp only at h hI
  have S := hI
  refine sSeq (fun K10 hK10 => ?_)
  refine sRegion ?_
  refine sBin (.bool (decide (s6 < 11))) S (wN rfl) rfl rfl rfl (bLt _ _ _ _ .i64 s6 11) rfl (lb rfl) fun a S => ?_
  refine leafL (leafT (hK10 _ _ ?_))
  refine sSeq (fun K11 hK11 => ?_)
  rcases iteSome h with ⟨hc12, h⟩ | ⟨hc12, h⟩
  rotate_left
  · refine sCondF S rfl hc12 ?_
    obtain rfl := Option.some.inj h
    obtain rfl := hu7 _ rfl
    have h := g8
    clear g8
    try dsimp only at h
    exact wp_exit (xThen (xThen (xHit (leafT (⟨Option.some.inj h, S.fix [0] [] (by decide) rfl rfl rfl⟩)))))
  refine sCondT S rfl hc12 ?_
  refine wp_skip (leafT (hK11 _ _ ?_))
  refine sSeq (fun K13 hK13 => ?_)
  refine wp_block ?_
  refine sSeq (fun K14 hK14 => ?_)
  refine sRegion ?_
  refine sMove (iv s6) S (wN rfl) (.inl rfl) rfl rfl (lb rfl) fun a S => ?_
  obtain ⟨x15, hx16, h⟩ := bindSome h
  refine sIndexA (g := fun z => .int .i64 z) (xs := ([p0.Length.1, p0.Length.2.1, p0.Length.2.2.1, p0.Length.2.2.2.1, p0.Length.2.2.2.2.1, p0.Length.2.2.2.2.2.1, p0.Length.2.2.2.2.2.2.1, p0.Length.2.2.2.2.2.2.2.1, p0.Length.2.2.2.2.2.2.2.2.1, p0.Length.2.2.2.2.2.2.2.2.2.1, p0.Length.2.2.2.2.2.2.2.2.2.2] : List Int)) (j := s6) (k := .i64) 11 [iv p0.Length.1, iv p0.Length.2.1, iv p0.Length.2.2.1, iv p0.Length.2.2.2.1, iv p0.Length.2.2.2.2.1, iv p0.Length.2.2.2.2.2.1, iv p0.Length.2.2.2.2.2.2.1, iv p0.Length.2.2.2.2.2.2.2.1, iv p0.Length.2.2.2.2.2.2.2.2.1, iv p0.Length.2.2.2.2.2.2.2.2.2.1, iv p0.Length.2.2.2.2.2.2.2.2.2.2] S (wN rfl) rfl Try.underlying42 rfl rfl rfl rfl rfl rfl hx16 rfl (lb rfl) fun a S => ?_
  refine sMove (iv s6) S (wN rfl) (.inr rfl) rfl rfl (lb rfl) fun a S => ?_
  refine sMove (iv x15) S (wN rfl) (.inr rfl) rfl rfl (lb rfl) fun a S => ?_
  refine leafL (leafT (hK14 _ _ ?_))
  obtain ⟨t18, h, g19⟩ := bindSome h
  refine sCut (fun a w => ∃ o17, o17 = t18 ∧ St [] E [] w0 39 a w [(1, .pointer (some ⟨b2, 0, none⟩)), (6, gv_A11_Int p0.Length), (7, iv s6), (21, .bool o17)] [eBox b2 44 (gl_api_Rates p0)] []) ?_ (fun a w hI => ?_)
  rotate_left
  · obtain ⟨o17, rfl, S⟩ := hI
    have h := g19
    clear g19
    try dsimp only at h
    rcases iteSome h with ⟨hc27, h⟩ | ⟨hc27, h⟩
    rotate_left
    · refine sCondF S rfl hc27 ?_
      refine wp_skip (leafB (leafT (hK13 _ _ ?_)))
      refine sRegion ?_
      refine sBin (iv (w64 (s6 + 1))) S (wN rfl) rfl rfl rfl (bAdd _ _ _ _ s6 1) rfl (lb rfl) fun a S => ?_
      refine sMove (iv (w64 (s6 + 1))) S (wN rfl) (.inl rfl) rfl rfl (lb rfl) fun a S => ?_
      exact leafL (leafT (⟨w64 (s6 + 1), (Option.some.inj h).symm, (S.fix [0] [] (by decide) rfl rfl rfl)⟩))
    refine sCondT S rfl hc27 ?_
    refine sSeq (fun K28 hK28 => ?_)
    refine sRegion ?_
    refine sMove (iv 8) S (wN rfl) (.inr rfl) rfl rfl (lb rfl) fun a S => ?_
    refine leafL (leafT (hK28 _ _ ?_))
    obtain rfl := Option.some.inj h
    obtain rfl := hu7 _ rfl
    have h := g8
    clear g8
    try dsimp only at h
    obtain rfl := Option.some.inj h
    have h := g4
    clear g4
    try dsimp only at h
    obtain rfl := Option.some.inj h
    exact wp_ret (rBlock (rThen (rThen (rBlock (rThen (sRet (iv 8) S (rsl1 rfl (rvT (t := 2) (v := iv 8) S rfl)) ⟨(), rfl, S.mem.sel [] [] (by decide) rfl rfl⟩))))))
  refine sRegion ?_
  refine sMove (iv x15) S (wN rfl) (.inl rfl) rfl rfl (lb rfl) fun a S => ?_
  obtain ⟨r20, hx21, h⟩ := bindSome h
  have S1 := S.mem
  refine sCallQ (X := Unit) (f := 42) (vs := [iv x15]) (val := fun _ => .bool r20) S (wN rfl) rfl callee42 rfl (S1.quiet [] rfl) (fun E1 w1 S1 => c_cost_rate E1 w1 x15 r20 hx21 S1) rfl (lb rfl) fun _ a w S => ?_
  refine sNot (b := r20) S (wN rfl) rfl rfl rfl (lb rfl) fun a S => ?_
  refine sMove (.bool (!r20)) S (wN rfl) (.inl rfl) rfl rfl (lb rfl) fun a S => ?_
  rcases iteSome h with ⟨hc22, h⟩ | ⟨hc22, h⟩
  · refine sSkip 3 false 14 15 S rfl rfl rfl hc22 rfl (lb rfl) fun a S => ?_
    refine sSkip 3 false 14 16 S rfl rfl rfl hc22 rfl (lb rfl) fun a S => ?_
    refine sSkip 3 false 14 17 S rfl rfl rfl hc22 rfl (lb rfl) fun a S => ?_
    refine sSkip 3 false 14 18 S rfl rfl rfl hc22 rfl (lb rfl) fun a S => ?_
    refine sSkip 3 false 14 19 S rfl rfl rfl hc22 rfl (lb rfl) fun a S => ?_
    refine sSkip 3 false 14 20 S rfl rfl rfl hc22 rfl (lb rfl) fun a S => ?_
    refine sPickT (.bool true) S (wN rfl) rfl rfl hc22 rfl rfl (lb rfl) fun a S => ?_
    exact leafL (leafT (⟨true, Option.some.inj h, S.fix [0] [] (by decide) rfl rfl rfl⟩))
  refine sMove (iv s6) S (wG 3 false 14 rfl rfl rfl hc22) (.inl rfl) rfl rfl (lb rfl) fun a S => ?_
  refine sField (b := b2) (off := 0) 11 11 S (wG 3 false 14 rfl rfl rfl hc22) rfl rfl rfl rfl rfl (lb rfl) fun a S => ?_
  obtain ⟨x23, hx24, h⟩ := bindSome h
  refine sIdxV (v := .pointer (some ⟨b2, 11, none⟩)) (k := .i64) (j := s6) (q := .pointer (some ⟨b2, 11 + (s6).toNat * 1, none⟩)) S (wG 3 false 14 rfl rfl rfl hc22) rfl rfl rfl (idxV_arr (m := 11) (sz := 1) Try.underlying42 rfl (idxO_rng (m := 11) hx24 rfl).1 (idxO_rng (m := 11) hx24 rfl).2 11) rfl (lb rfl) fun a S => ?_
  refine sLoad1 (p := b2) (off := 11 + (s6).toNat * 1) (T := 44) (vs := [iv p0.Length.1, iv p0.Length.2.1, iv p0.Length.2.2.1, iv p0.Length.2.2.2.1, iv p0.Length.2.2.2.2.1, iv p0.Length.2.2.2.2.2.1, iv p0.Length.2.2.2.2.2.2.1, iv p0.Length.2.2.2.2.2.2.2.1, iv p0.Length.2.2.2.2.2.2.2.2.1, iv p0.Length.2.2.2.2.2.2.2.2.2.1, iv p0.Length.2.2.2.2.2.2.2.2.2.2, iv p0.Time.1, iv p0.Time.2.1, iv p0.Time.2.2.1, iv p0.Time.2.2.2.1, iv p0.Time.2.2.2.2.1, iv p0.Time.2.2.2.2.2.1, iv p0.Time.2.2.2.2.2.2.1, iv p0.Time.2.2.2.2.2.2.2.1, iv p0.Time.2.2.2.2.2.2.2.2.1, iv p0.Time.2.2.2.2.2.2.2.2.2.1, iv p0.Time.2.2.2.2.2.2.2.2.2.2, iv p0.Turn]) 0 (iv x23) S (wG 3 false 14 rfl rfl rfl hc22) rfl rfl rfl rfl (box_at (g := (fun z => .int .i64 z)) [iv p0.Length.1, iv p0.Length.2.1, iv p0.Length.2.2.1, iv p0.Length.2.2.2.1, iv p0.Length.2.2.2.2.1, iv p0.Length.2.2.2.2.2.1, iv p0.Length.2.2.2.2.2.2.1, iv p0.Length.2.2.2.2.2.2.2.1, iv p0.Length.2.2.2.2.2.2.2.2.1, iv p0.Length.2.2.2.2.2.2.2.2.2.1, iv p0.Length.2.2.2.2.2.2.2.2.2.2] [iv p0.Turn] 11 hx24 rfl rfl) rfl (lb rfl) fun a S => ?_
  obtain ⟨r25, hx26, h⟩ := bindSome h
  have S1 := S.mem
  refine sCallQ (X := Unit) (f := 42) (vs := [iv x23]) (val := fun _ => .bool r25) S (wG 3 false 14 rfl rfl rfl hc22) rfl callee42 rfl (S1.quiet [] rfl) (fun E1 w1 S1 => c_cost_rate E1 w1 x23 r25 hx26 S1) rfl (lb rfl) fun _ a w S => ?_
  refine sNot (b := r25) S (wG 3 false 14 rfl rfl rfl hc22) rfl rfl rfl (lb rfl) fun a S => ?_
  refine sPickF (.bool (!r25)) S (wN rfl) rfl rfl hc22 rfl rfl (lb rfl) fun a S => ?_
  exact leafL (leafT (⟨!r25, Option.some.inj h, S.fix [0] [] (by decide) rfl rfl rfl⟩))

end Go.Proofs.Ytdbgkakmhlmpbaa
