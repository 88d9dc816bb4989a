/- CompareLeast: walks, tables, laws. -/
import Derived.Test.YtffikfajljbmnaaProg
import Derived.Test.YtffikfajljbmnaaRows
import Derived.Test.YtffikfajljbmnaaMCompareLeast4
set_option linter.unusedVariables false
set_option linter.unusedSimpArgs false
set_option maxHeartbeats 4000000
set_option maxRecDepth 100000
namespace Go.Proofs.Ytffikfajljbmnaa
open Go.RowKit
noncomputable def F_raddleref25_Check (p0 : api_Stitch) : Option Int :=
 Option.bind (α := Bool) (
  if p0.A == 0 then
   some (p0.B == 0)
  else
   some false) fun o3 =>
 Option.bind (α := Bool) (
  Option.bind (α := Bool) (
   if p0.Kind == 1 then
    some (p0.Kind == 1)
   else
    some (p0.Kind == 8)) fun a0 =>
  if a0 then
   some o3
  else
   if p0.Kind == 2 then
    if o3 then
     some (!p0.Purl)
    else
     some false
   else
    Option.bind (α := Bool) (
     if p0.Kind == 3 then
      some (p0.Kind == 3)
     else
      if p0.Kind == 4 then
       some (p0.Kind == 4)
      else
       some (p0.Kind == 5)) fun a4 =>
    if a4 then
     if p0.B == 0 then
      if decide (2 ≤ p0.A) then
       some (decide (p0.A ≤ 4))
      else
       some false
     else
      some false
    else
     Option.bind (α := Bool) (
      if p0.Kind == 6 then
       some (p0.Kind == 6)
      else
       some (p0.Kind == 7)) fun a5 =>
     if a5 then
      if decide (1 ≤ p0.A) then
       if decide (p0.A ≤ 6) then
        if decide (1 ≤ p0.B) then
         some (decide (p0.B ≤ 6))
        else
         some false
       else
        some false
      else
       some false
     else
      if p0.Kind == 9 then
       if p0.B == 0 then
        if !p0.Purl then
         if decide (1 ≤ p0.A) then
          some (decide (p0.A ≤ 200))
         else
          some false
        else
         some false
       else
        some false
      else
       if p0.Kind == 10 then
        if p0.B == 0 then
         if decide (1 ≤ p0.A) then
          some (decide (p0.A ≤ 200))
         else
          some false
        else
         some false
       else
        some false) fun o8 =>
 if !o8 then
  some 8
 else
  some 0
theorem c_raddleref25_Check (E : Nat → Prop) (w0 : World) (p0 : api_Stitch) (v0 : Value) (r : Int) (h : F_raddleref25_Check p0 = some r) (S : St0 E [] w0 w0 [] [fRep r_api_Stitch (v0) p0]) :
 Calls Try.prog 73 #[v0] w0 (Ret (X := Unit) E [] w0 (fun _ => .int .i64 r) (fun _ => []) (fun _ => [])) := by
 unfold F_raddleref25_Check at h
 obtain rfl : v0 = .agg #[.int .u8 p0.Kind, .bool p0.Purl, iv p0.A, iv p0.B] := S.know (i := 0) (e := fRep r_api_Stitch (v0) p0) rfl
 refine sEnter (args := [.agg #[.int .u8 p0.Kind, .bool p0.Purl, iv p0.A, iv p0.B]]) 102 Try.func73 rfl rfl (by simp) S (fun a S => ?_)
 refine sSeq (fun K1 aP => sRegion (sBox (v := .agg #[.int .u8 p0.Kind, .bool p0.Purl, iv p0.A, iv p0.B]) S (wN rfl) rfl rfl [.int .u8 p0.Kind, .bool p0.Purl, iv p0.A, iv p0.B] rfl rfl (lb rfl) fun a b2 w S => ?_))
 refine sN S fun a S => ?_
 refine lT (aP _ _ ?_)
 obtain ⟨t4, h, g5⟩ := bS h
 refine sCut (fun a w => ∃ o3, o3 = t4 ∧ St [] E [] w0 102 a w [(1, .pointer (some ⟨b2, 0, none⟩)), (3, .bool o3)] [eBox b2 81 [.int .u8 p0.Kind, .bool p0.Purl, iv p0.A, iv p0.B]] []) ?_ (fun a w hI => ?_)
 ·refine sRegion (sField (b := b2) (off := 0) 2 2 S (wN rfl) rfl rfl rfl rfl rfl (lb rfl) fun a S => ?_)
  refine sLoad1 0 (iv p0.A) S (wN rfl) rfl rfl rfl rfl rfl rfl (lb rfl) fun a S => ?_
  refine sBin _ S (wN rfl) rfl rfl rfl (bEq _ _ _ _ .i64 p0.A 0) rfl (lb rfl) fun a S => ?_
  refine sM S fun a S => ?_
  rcases iS h with ⟨af, h⟩ | ⟨af, h⟩
  rotate_left
  ·refine sSkN 3 3 true 8 S rfl rfl af rfl fun a S => ?_
   refine sPickF (.bool false) S (wN rfl) rfl rfl af rfl rfl (lb rfl) fun a S => ?_
   refine sN S fun a S => ?_
   exact lT (⟨false, Option.some.inj h, S.fix [0] [] (by decide) rfl rfl rfl⟩)
  refine sField (b := b2) (off := 0) 3 3 S (wG 3 true 8 rfl rfl rfl af) rfl rfl rfl rfl rfl (lb rfl) fun a S => ?_
  refine sLoad1 0 (iv p0.B) S (wG 3 true 8 rfl rfl rfl af) rfl rfl rfl rfl rfl rfl (lb rfl) fun a S => ?_
  refine sBin _ S (wG 3 true 8 rfl rfl rfl af) rfl rfl rfl (bEq _ _ _ _ .i64 p0.B 0) rfl (lb rfl) fun a S => ?_
  refine sPickT (.bool (p0.B == 0)) S (wN rfl) rfl rfl af rfl rfl (lb rfl) fun a S => ?_
  refine sN S fun a S => ?_
  exact lT (⟨p0.B == 0, Option.some.inj h, S.fix [0] [] (by decide) rfl rfl rfl⟩)
 obtain ⟨o3, rfl, S⟩ := hI
 have h := g5
 try dsimp only at h
 refine sSeq (fun K7 aQ => sRegion (sN S fun a S => ?_))
 refine lT (aQ _ _ ?_)
 obtain ⟨t9, h, aR⟩ := bS h
 refine sCut (fun a w => ∃ o8, o8 = t9 ∧ St [] E [] w0 102 a w [(4, .bool o8)] [] []) ?_ (fun a w hI => ?_)
 rotate_left
 ·obtain ⟨o8, rfl, S⟩ := hI
  have h := aR
  try dsimp only at h
  refine sSeq (fun aZ av => sSeq (fun ba aw => sRegion (sM S fun a S => ?_)))
  refine sNot (b := o8) S (wN rfl) rfl rfl rfl (lb rfl) fun a S => ?_
  refine lT (aw _ _ ?_)
  rcases iS h with ⟨ag, h⟩ | ⟨ag, h⟩
  ·refine sCondT S rfl ag ?_
   refine sSeq (fun bb ax => sRegion (sN S fun a S => ?_))
   refine lT (ax _ _ ?_)
   obtain rfl := tS h
   exact wp_ret (rThen (sRet (iv 8) S (rsl1 rfl (rvT (t := 2) (v := iv 8) S rfl)) ⟨(), rfl, S.mem.sel [] [] (by decide) rfl rfl⟩))
  refine sCondF S rfl ag ?_
  refine wp_skip (leafT (av _ _ ?_))
  refine sSeq (fun bc ay => sRegion (sN S fun a S => ?_))
  refine lT (ay _ _ ?_)
  obtain rfl := tS h
  exact wp_ret (sRet (iv 0) S (rsl1 rfl (rvT (t := 2) (v := iv 0) S rfl)) ⟨(), rfl, S.mem.sel [] [] (by decide) rfl rfl⟩)
 refine sSeq (fun bf az => sRegion (sField (b := b2) (off := 0) 0 0 S (wN rfl) rfl rfl rfl rfl rfl (lb rfl) fun a S => ?_))
 refine sLoad1 0 (.int .u8 p0.Kind) S (wN rfl) rfl rfl rfl rfl rfl rfl (lb rfl) fun a S => ?_
 refine lT (az _ _ (wp_block ?_))
 obtain ⟨aS, h, aT⟩ := bS h
 refine sCut (fun a w => ∃ aA, aA = aS ∧ St [] E [] w0 102 a w [(1, .pointer (some ⟨b2, 0, none⟩)), (3, .bool o3), (4, .bool false), (14, .int .u8 p0.Kind), (15, .bool aA)] [eBox b2 81 [.int .u8 p0.Kind, .bool p0.Purl, iv p0.A, iv p0.B]] []) ?_ (fun a w hI => ?_)
 ·refine sSeq (fun bg aC => sRegion (sBin _ S (wN rfl) rfl rfl rfl (bEq _ _ _ _ .u8 p0.Kind 1) rfl (lb rfl) fun a S => ?_))
  refine sN S fun a S => ?_
  refine lT (aC _ _ ?_)
  rcases iS h with ⟨ah, h⟩ | ⟨ah, h⟩
  ·refine sCondT S rfl ah ?_
   exact wp_skip (leafT (⟨p0.Kind == 1, Option.some.inj h, S.fix [0] [] (by decide) rfl rfl rfl⟩))
  refine sCondF S rfl ah ?_
  refine sRegion (sBin _ S (wN rfl) rfl rfl rfl (bEq _ _ _ _ .u8 p0.Kind 8) rfl (lb rfl) fun a S => ?_)
  refine sN S fun a S => ?_
  exact lT (⟨p0.Kind == 8, Option.some.inj h, S.fix [0] [] (by decide) rfl rfl rfl⟩)
 obtain ⟨aA, rfl, S⟩ := hI
 have h := aT
 try dsimp only at h
 rcases iS h with ⟨ai, h⟩ | ⟨ai, h⟩
 ·refine sCondT S rfl ai ?_
  refine sRegion (sM S fun a S => ?_)
  refine sN S fun a S => ?_
  exact leafL (leafB (leafT (⟨o3, Option.some.inj h, S.fix [] [] (by decide) rfl rfl rfl⟩)))
 refine sCondF S rfl ai ?_
 refine sSeq (fun bh aG => sRegion (sBin _ S (wN rfl) rfl rfl rfl (bEq _ _ _ _ .u8 p0.Kind 2) rfl (lb rfl) fun a S => ?_))
 refine sN S fun a S => ?_
 refine lT (aG _ _ ?_)
 rcases iS h with ⟨aj, h⟩ | ⟨aj, h⟩
 ·refine sCondT S rfl aj ?_
  refine sRegion (sM S fun a S => ?_)
  refine sM S fun a S => ?_
  rcases iS h with ⟨a0, h⟩ | ⟨a0, h⟩
  rotate_left
  ·refine sSkN 3 1 true 22 S rfl rfl a0 rfl fun a S => ?_
   refine sPickF (.bool false) S (wN rfl) rfl rfl a0 rfl rfl (lb rfl) fun a S => ?_
   refine sN S fun a S => ?_
   exact leafL (leafB (leafT (⟨false, Option.some.inj h, S.fix [] [] (by decide) rfl rfl rfl⟩)))
  refine sField (b := b2) (off := 0) 1 1 S (wG 1 true 22 rfl rfl rfl a0) rfl rfl rfl rfl rfl (lb rfl) fun a S => ?_
  refine sLoad1 0 (.bool p0.Purl) S (wG 1 true 22 rfl rfl rfl a0) rfl rfl rfl rfl rfl rfl (lb rfl) fun a S => ?_
  refine sNot (b := p0.Purl) S (wG 1 true 22 rfl rfl rfl a0) rfl rfl rfl (lb rfl) fun a S => ?_
  refine sPickT (.bool (!p0.Purl)) S (wN rfl) rfl rfl a0 rfl rfl (lb rfl) fun a S => ?_
  refine sN S fun a S => ?_
  exact leafL (leafB (leafT (⟨!p0.Purl, Option.some.inj h, S.fix [] [] (by decide) rfl rfl rfl⟩)))
 refine sCondF S rfl aj ?_
 obtain ⟨aU, h, aV⟩ := bS h
 refine sCut (fun a w => ∃ aH, aH = aU ∧ St [] E [] w0 102 a w [(1, .pointer (some ⟨b2, 0, none⟩)), (4, .bool false), (14, .int .u8 p0.Kind), (27, .bool aH)] [eBox b2 81 [.int .u8 p0.Kind, .bool p0.Purl, iv p0.A, iv p0.B]] []) ?_ (fun a w hI => ?_)
 ·refine sSeq (fun bi aI => sRegion (sBin _ S (wN rfl) rfl rfl rfl (bEq _ _ _ _ .u8 p0.Kind 3) rfl (lb rfl) fun a S => ?_))
  refine sN S fun a S => ?_
  refine lT (aI _ _ ?_)
  rcases iS h with ⟨ak, h⟩ | ⟨ak, h⟩
  ·refine sCondT S rfl ak ?_
   exact wp_skip (leafT (⟨p0.Kind == 3, Option.some.inj h, S.fix [0] [] (by decide) rfl rfl rfl⟩))
  refine sCondF S rfl ak ?_
  refine sSeq (fun bj aJ => sRegion (sBin _ S (wN rfl) rfl rfl rfl (bEq _ _ _ _ .u8 p0.Kind 4) rfl (lb rfl) fun a S => ?_))
  refine sN S fun a S => ?_
  refine lT (aJ _ _ ?_)
  rcases iS h with ⟨am, h⟩ | ⟨am, h⟩
  ·refine sCondT S rfl am ?_
   exact wp_skip (leafT (⟨p0.Kind == 4, Option.some.inj h, S.fix [0] [] (by decide) rfl rfl rfl⟩))
  refine sCondF S rfl am ?_
  refine sRegion (sBin _ S (wN rfl) rfl rfl rfl (bEq _ _ _ _ .u8 p0.Kind 5) rfl (lb rfl) fun a S => ?_)
  refine sN S fun a S => ?_
  exact lT (⟨p0.Kind == 5, Option.some.inj h, S.fix [0] [] (by decide) rfl rfl rfl⟩)
 obtain ⟨aH, rfl, S⟩ := hI
 have h := aV
 try dsimp only at h
 rcases iS h with ⟨ao, h⟩ | ⟨ao, h⟩
 ·refine sCondT S rfl ao ?_
  refine sRegion (sField (b := b2) (off := 0) 3 3 S (wN rfl) rfl rfl rfl rfl rfl (lb rfl) fun a S => ?_)
  refine sLoad1 0 (iv p0.B) S (wN rfl) rfl rfl rfl rfl rfl rfl (lb rfl) fun a S => ?_
  refine sBin _ S (wN rfl) rfl rfl rfl (bEq _ _ _ _ .i64 p0.B 0) rfl (lb rfl) fun a S => ?_
  refine sM S fun a S => ?_
  rcases iS h with ⟨a4, h⟩ | ⟨a4, h⟩
  rotate_left
  ·refine sSkN 3 3 true 34 S rfl rfl a4 rfl fun a S => ?_
   refine sPickF (.bool false) S (wN rfl) rfl rfl a4 rfl rfl (lb rfl) fun a S => ?_
   refine sM S fun a S => ?_
   refine sSkN 3 8 true 39 S rfl rfl rfl rfl fun a S => ?_
   refine sPickF (.bool false) S (wN rfl) rfl rfl rfl rfl rfl (lb rfl) fun a S => ?_
   refine sN S fun a S => ?_
   exact leafL (leafB (leafT (⟨false, Option.some.inj h, S.fix [] [] (by decide) rfl rfl rfl⟩)))
  refine sField (b := b2) (off := 0) 2 2 S (wG 3 true 34 rfl rfl rfl a4) rfl rfl rfl rfl rfl (lb rfl) fun a S => ?_
  refine sLoad1 0 (iv p0.A) S (wG 3 true 34 rfl rfl rfl a4) rfl rfl rfl rfl rfl rfl (lb rfl) fun a S => ?_
  refine sBin _ S (wG 3 true 34 rfl rfl rfl a4) rfl rfl rfl (bGe _ _ _ _ .i64 p0.A 2) rfl (lb rfl) fun a S => ?_
  refine sPickT (.bool (decide (2 ≤ p0.A))) S (wN rfl) rfl rfl a4 rfl rfl (lb rfl) fun a S => ?_
  refine sM S fun a S => ?_
  rcases iS h with ⟨a5, h⟩ | ⟨a5, h⟩
  rotate_left
  ·refine sSkN 3 8 true 39 S rfl rfl a5 rfl fun a S => ?_
   refine sPickF (.bool false) S (wN rfl) rfl rfl a5 rfl rfl (lb rfl) fun a S => ?_
   refine sN S fun a S => ?_
   exact leafL (leafB (leafT (⟨false, Option.some.inj h, S.fix [] [] (by decide) rfl rfl rfl⟩)))
  refine sField (b := b2) (off := 0) 2 2 S (wG 8 true 39 rfl rfl rfl a5) rfl rfl rfl rfl rfl (lb rfl) fun a S => ?_
  refine sLoad1 0 (iv p0.A) S (wG 8 true 39 rfl rfl rfl a5) rfl rfl rfl rfl rfl rfl (lb rfl) fun a S => ?_
  refine sBin _ S (wG 8 true 39 rfl rfl rfl a5) rfl rfl rfl (bLe _ _ _ _ .i64 p0.A 4) rfl (lb rfl) fun a S => ?_
  refine sPickT (.bool (decide (p0.A ≤ 4))) S (wN rfl) rfl rfl a5 rfl rfl (lb rfl) fun a S => ?_
  refine sN S fun a S => ?_
  exact leafL (leafB (leafT (⟨decide (p0.A ≤ 4), Option.some.inj h, S.fix [] [] (by decide) rfl rfl rfl⟩)))
 refine sCondF S rfl ao ?_
 obtain ⟨aW, h, aX⟩ := bS h
 refine sCut (fun a w => ∃ aK, aK = aW ∧ St [] E [] w0 102 a w [(1, .pointer (some ⟨b2, 0, none⟩)), (4, .bool false), (14, .int .u8 p0.Kind), (44, .bool aK)] [eBox b2 81 [.int .u8 p0.Kind, .bool p0.Purl, iv p0.A, iv p0.B]] []) ?_ (fun a w hI => ?_)
 ·refine sSeq (fun bk aL => sRegion (sBin _ S (wN rfl) rfl rfl rfl (bEq _ _ _ _ .u8 p0.Kind 6) rfl (lb rfl) fun a S => ?_))
  refine sN S fun a S => ?_
  refine lT (aL _ _ ?_)
  rcases iS h with ⟨ap, h⟩ | ⟨ap, h⟩
  ·refine sCondT S rfl ap ?_
   exact wp_skip (leafT (⟨p0.Kind == 6, Option.some.inj h, S.fix [0] [] (by decide) rfl rfl rfl⟩))
  refine sCondF S rfl ap ?_
  refine sRegion (sBin _ S (wN rfl) rfl rfl rfl (bEq _ _ _ _ .u8 p0.Kind 7) rfl (lb rfl) fun a S => ?_)
  refine sN S fun a S => ?_
  exact lT (⟨p0.Kind == 7, Option.some.inj h, S.fix [0] [] (by decide) rfl rfl rfl⟩)
 obtain ⟨aK, rfl, S⟩ := hI
 have h := aX
 try dsimp only at h
 rcases iS h with ⟨aq, h⟩ | ⟨aq, h⟩
 ·refine sCondT S rfl aq ?_
  refine sRegion (sField (b := b2) (off := 0) 2 2 S (wN rfl) rfl rfl rfl rfl rfl (lb rfl) fun a S => ?_)
  refine sLoad1 0 (iv p0.A) S (wN rfl) rfl rfl rfl rfl rfl rfl (lb rfl) fun a S => ?_
  refine sBin _ S (wN rfl) rfl rfl rfl (bGe _ _ _ _ .i64 p0.A 1) rfl (lb rfl) fun a S => ?_
  refine sM S fun a S => ?_
  rcases iS h with ⟨a6, h⟩ | ⟨a6, h⟩
  rotate_left
  ·refine sSkN 3 3 true 50 S rfl rfl a6 rfl fun a S => ?_
   refine sPickF (.bool false) S (wN rfl) rfl rfl a6 rfl rfl (lb rfl) fun a S => ?_
   refine sM S fun a S => ?_
   refine sSkN 3 8 true 55 S rfl rfl rfl rfl fun a S => ?_
   refine sPickF (.bool false) S (wN rfl) rfl rfl rfl rfl rfl (lb rfl) fun a S => ?_
   refine sM S fun a S => ?_
   refine sSkN 3 13 true 60 S rfl rfl rfl rfl fun a S => ?_
   refine sPickF (.bool false) S (wN rfl) rfl rfl rfl rfl rfl (lb rfl) fun a S => ?_
   refine sN S fun a S => ?_
   exact leafL (leafB (leafT (⟨false, Option.some.inj h, S.fix [] [] (by decide) rfl rfl rfl⟩)))
  refine sField (b := b2) (off := 0) 2 2 S (wG 3 true 50 rfl rfl rfl a6) rfl rfl rfl rfl rfl (lb rfl) fun a S => ?_
  refine sLoad1 0 (iv p0.A) S (wG 3 true 50 rfl rfl rfl a6) rfl rfl rfl rfl rfl rfl (lb rfl) fun a S => ?_
  refine sBin _ S (wG 3 true 50 rfl rfl rfl a6) rfl rfl rfl (bLe _ _ _ _ .i64 p0.A 6) rfl (lb rfl) fun a S => ?_
  refine sPickT (.bool (decide (p0.A ≤ 6))) S (wN rfl) rfl rfl a6 rfl rfl (lb rfl) fun a S => ?_
  refine sM S fun a S => ?_
  rcases iS h with ⟨a7, h⟩ | ⟨a7, h⟩
  rotate_left
  ·refine sSkN 3 8 true 55 S rfl rfl a7 rfl fun a S => ?_
   refine sPickF (.bool false) S (wN rfl) rfl rfl a7 rfl rfl (lb rfl) fun a S => ?_
   refine sM S fun a S => ?_
   refine sSkN 3 13 true 60 S rfl rfl rfl rfl fun a S => ?_
   refine sPickF (.bool false) S (wN rfl) rfl rfl rfl rfl rfl (lb rfl) fun a S => ?_
   refine sN S fun a S => ?_
   exact leafL (leafB (leafT (⟨false, Option.some.inj h, S.fix [] [] (by decide) rfl rfl rfl⟩)))
  refine sField (b := b2) (off := 0) 3 3 S (wG 8 true 55 rfl rfl rfl a7) rfl rfl rfl rfl rfl (lb rfl) fun a S => ?_
  refine sLoad1 0 (iv p0.B) S (wG 8 true 55 rfl rfl rfl a7) rfl rfl rfl rfl rfl rfl (lb rfl) fun a S => ?_
  refine sBin _ S (wG 8 true 55 rfl rfl rfl a7) rfl rfl rfl (bGe _ _ _ _ .i64 p0.B 1) rfl (lb rfl) fun a S => ?_
  refine sPickT (.bool (decide (1 ≤ p0.B))) S (wN rfl) rfl rfl a7 rfl rfl (lb rfl) fun a S => ?_
  refine sM S fun a S => ?_
  rcases iS h with ⟨a8, h⟩ | ⟨a8, h⟩
  rotate_left
  ·refine sSkN 3 13 true 60 S rfl rfl a8 rfl fun a S => ?_
   refine sPickF (.bool false) S (wN rfl) rfl rfl a8 rfl rfl (lb rfl) fun a S => ?_
   refine sN S fun a S => ?_
   exact leafL (leafB (leafT (⟨false, Option.some.inj h, S.fix [] [] (by decide) rfl rfl rfl⟩)))
  refine sField (b := b2) (off := 0) 3 3 S (wG 13 true 60 rfl rfl rfl a8) rfl rfl rfl rfl rfl (lb rfl) fun a S => ?_
  refine sLoad1 0 (iv p0.B) S (wG 13 true 60 rfl rfl rfl a8) rfl rfl rfl rfl rfl rfl (lb rfl) fun a S => ?_
  refine sBin _ S (wG 13 true 60 rfl rfl rfl a8) rfl rfl rfl (bLe _ _ _ _ .i64 p0.B 6) rfl (lb rfl) fun a S => ?_
  refine sPickT (.bool (decide (p0.B ≤ 6))) S (wN rfl) rfl rfl a8 rfl rfl (lb rfl) fun a S => ?_
  refine sN S fun a S => ?_
  exact leafL (leafB (leafT (⟨decide (p0.B ≤ 6), Option.some.inj h, S.fix [] [] (by decide) rfl rfl rfl⟩)))
 refine sCondF S rfl aq ?_
 refine sSeq (fun bl aM => sRegion (sBin _ S (wN rfl) rfl rfl rfl (bEq _ _ _ _ .u8 p0.Kind 9) rfl (lb rfl) fun a S => ?_))
 refine sN S fun a S => ?_
 refine lT (aM _ _ ?_)
 rcases iS h with ⟨ar, h⟩ | ⟨ar, h⟩
 rotate_left
 ·refine sCondF S rfl ar ?_
  refine sSeq (fun bm aO => sRegion (sBin _ S (wN rfl) rfl rfl rfl (bEq _ _ _ _ .u8 p0.Kind 10) rfl (lb rfl) fun a S => ?_))
  refine sN S fun a S => ?_
  refine lT (aO _ _ ?_)
  rcases iS h with ⟨au, h⟩ | ⟨au, h⟩
  rotate_left
  ·refine sCondF S rfl au ?_
   exact wp_skip (leafB (leafT (⟨false, Option.some.inj h, S.fix [] [] (by decide) rfl rfl rfl⟩)))
  refine sCondT S rfl au ?_
  refine sRegion (sField (b := b2) (off := 0) 3 3 S (wN rfl) rfl rfl rfl rfl rfl (lb rfl) fun a S => ?_)
  refine sLoad1 0 (iv p0.B) S (wN rfl) rfl rfl rfl rfl rfl rfl (lb rfl) fun a S => ?_
  refine sBin _ S (wN rfl) rfl rfl rfl (bEq _ _ _ _ .i64 p0.B 0) rfl (lb rfl) fun a S => ?_
  refine sM S fun a S => ?_
  rcases iS h with ⟨a9, h⟩ | ⟨a9, h⟩
  rotate_left
  ·refine sSkN 3 3 true 90 S rfl rfl a9 rfl fun a S => ?_
   refine sPickF (.bool false) S (wN rfl) rfl rfl a9 rfl rfl (lb rfl) fun a S => ?_
   refine sM S fun a S => ?_
   refine sSkN 3 8 true 95 S rfl rfl rfl rfl fun a S => ?_
   refine sPickF (.bool false) S (wN rfl) rfl rfl rfl rfl rfl (lb rfl) fun a S => ?_
   refine sN S fun a S => ?_
   exact leafL (leafB (leafT (⟨false, Option.some.inj h, S.fix [] [] (by decide) rfl rfl rfl⟩)))
  refine sField (b := b2) (off := 0) 2 2 S (wG 3 true 90 rfl rfl rfl a9) rfl rfl rfl rfl rfl (lb rfl) fun a S => ?_
  refine sLoad1 0 (iv p0.A) S (wG 3 true 90 rfl rfl rfl a9) rfl rfl rfl rfl rfl rfl (lb rfl) fun a S => ?_
  refine sBin _ S (wG 3 true 90 rfl rfl rfl a9) rfl rfl rfl (bGe _ _ _ _ .i64 p0.A 1) rfl (lb rfl) fun a S => ?_
  refine sPickT (.bool (decide (1 ≤ p0.A))) S (wN rfl) rfl rfl a9 rfl rfl (lb rfl) fun a S => ?_
  refine sM S fun a S => ?_
  rcases iS h with ⟨aa, h⟩ | ⟨aa, h⟩
  rotate_left
  ·refine sSkN 3 8 true 95 S rfl rfl aa rfl fun a S => ?_
   refine sPickF (.bool false) S (wN rfl) rfl rfl aa rfl rfl (lb rfl) fun a S => ?_
   refine sN S fun a S => ?_
   exact leafL (leafB (leafT (⟨false, Option.some.inj h, S.fix [] [] (by decide) rfl rfl rfl⟩)))
  refine sField (b := b2) (off := 0) 2 2 S (wG 8 true 95 rfl rfl rfl aa) rfl rfl rfl rfl rfl (lb rfl) fun a S => ?_
  refine sLoad1 0 (iv p0.A) S (wG 8 true 95 rfl rfl rfl aa) rfl rfl rfl rfl rfl rfl (lb rfl) fun a S => ?_
  refine sBin _ S (wG 8 true 95 rfl rfl rfl aa) rfl rfl rfl (bLe _ _ _ _ .i64 p0.A 200) rfl (lb rfl) fun a S => ?_
  refine sPickT (.bool (decide (p0.A ≤ 200))) S (wN rfl) rfl rfl aa rfl rfl (lb rfl) fun a S => ?_
  refine sN S fun a S => ?_
  exact leafL (leafB (leafT (⟨decide (p0.A ≤ 200), Option.some.inj h, S.fix [] [] (by decide) rfl rfl rfl⟩)))
 refine sCondT S rfl ar ?_
 refine sRegion (sField (b := b2) (off := 0) 3 3 S (wN rfl) rfl rfl rfl rfl rfl (lb rfl) fun a S => ?_)
 refine sLoad1 0 (iv p0.B) S (wN rfl) rfl rfl rfl rfl rfl rfl (lb rfl) fun a S => ?_
 refine sBin _ S (wN rfl) rfl rfl rfl (bEq _ _ _ _ .i64 p0.B 0) rfl (lb rfl) fun a S => ?_
 refine sM S fun a S => ?_
 rcases iS h with ⟨ab, h⟩ | ⟨ab, h⟩
 rotate_left
 ·refine sSkN 3 3 true 70 S rfl rfl ab rfl fun a S => ?_
  refine sPickF (.bool false) S (wN rfl) rfl rfl ab rfl rfl (lb rfl) fun a S => ?_
  refine sM S fun a S => ?_
  refine sSkN 3 8 true 75 S rfl rfl rfl rfl fun a S => ?_
  refine sPickF (.bool false) S (wN rfl) rfl rfl rfl rfl rfl (lb rfl) fun a S => ?_
  refine sM S fun a S => ?_
  refine sSkN 3 13 true 80 S rfl rfl rfl rfl fun a S => ?_
  refine sPickF (.bool false) S (wN rfl) rfl rfl rfl rfl rfl (lb rfl) fun a S => ?_
  refine sN S fun a S => ?_
  exact leafL (leafB (leafT (⟨false, Option.some.inj h, S.fix [] [] (by decide) rfl rfl rfl⟩)))
 refine sField (b := b2) (off := 0) 1 1 S (wG 3 true 70 rfl rfl rfl ab) rfl rfl rfl rfl rfl (lb rfl) fun a S => ?_
 refine sLoad1 0 (.bool p0.Purl) S (wG 3 true 70 rfl rfl rfl ab) rfl rfl rfl rfl rfl rfl (lb rfl) fun a S => ?_
 refine sNot (b := p0.Purl) S (wG 3 true 70 rfl rfl rfl ab) rfl rfl rfl (lb rfl) fun a S => ?_
 refine sPickT (.bool (!p0.Purl)) S (wN rfl) rfl rfl ab rfl rfl (lb rfl) fun a S => ?_
 refine sM S fun a S => ?_
 rcases iS h with ⟨ac, h⟩ | ⟨ac, h⟩
 rotate_left
 ·refine sSkN 3 8 true 75 S rfl rfl ac rfl fun a S => ?_
  refine sPickF (.bool false) S (wN rfl) rfl rfl ac rfl rfl (lb rfl) fun a S => ?_
  refine sM S fun a S => ?_
  refine sSkN 3 13 true 80 S rfl rfl rfl rfl fun a S => ?_
  refine sPickF (.bool false) S (wN rfl) rfl rfl rfl rfl rfl (lb rfl) fun a S => ?_
  refine sN S fun a S => ?_
  exact leafL (leafB (leafT (⟨false, Option.some.inj h, S.fix [] [] (by decide) rfl rfl rfl⟩)))
 refine sField (b := b2) (off := 0) 2 2 S (wG 8 true 75 rfl rfl rfl ac) rfl rfl rfl rfl rfl (lb rfl) fun a S => ?_
 refine sLoad1 0 (iv p0.A) S (wG 8 true 75 rfl rfl rfl ac) rfl rfl rfl rfl rfl rfl (lb rfl) fun a S => ?_
 refine sBin _ S (wG 8 true 75 rfl rfl rfl ac) rfl rfl rfl (bGe _ _ _ _ .i64 p0.A 1) rfl (lb rfl) fun a S => ?_
 refine sPickT (.bool (decide (1 ≤ p0.A))) S (wN rfl) rfl rfl ac rfl rfl (lb rfl) fun a S => ?_
 refine sM S fun a S => ?_
 rcases iS h with ⟨ae, h⟩ | ⟨ae, h⟩
 rotate_left
 ·refine sSkN 3 13 true 80 S rfl rfl ae rfl fun a S => ?_
  refine sPickF (.bool false) S (wN rfl) rfl rfl ae rfl rfl (lb rfl) fun a S => ?_
  refine sN S fun a S => ?_
  exact leafL (leafB (leafT (⟨false, Option.some.inj h, S.fix [] [] (by decide) rfl rfl rfl⟩)))
 refine sField (b := b2) (off := 0) 2 2 S (wG 13 true 80 rfl rfl rfl ae) rfl rfl rfl rfl rfl (lb rfl) fun a S => ?_
 refine sLoad1 0 (iv p0.A) S (wG 13 true 80 rfl rfl rfl ae) rfl rfl rfl rfl rfl rfl (lb rfl) fun a S => ?_
 refine sBin _ S (wG 13 true 80 rfl rfl rfl ae) rfl rfl rfl (bLe _ _ _ _ .i64 p0.A 200) rfl (lb rfl) fun a S => ?_
 refine sPickT (.bool (decide (p0.A ≤ 200))) S (wN rfl) rfl rfl ae rfl rfl (lb rfl) fun a S => ?_
 refine sN S fun a S => ?_
 exact leafL (leafB (leafT (⟨decide (p0.A ≤ 200), Option.some.inj h, S.fix [] [] (by decide) rfl rfl rfl⟩)))
noncomputable def F_raddleref25_Used (p0 : api_Stitch) : Option Int :=
 Option.bind (α := Bool) (
  if p0.Kind == 2 then
   some (p0.Kind == 2)
  else
   some (p0.Kind == 9)) fun o5 =>
 if o5 then
  some 0
 else
  Option.bind (α := Bool) (
   if p0.Kind == 3 then
    some (p0.Kind == 3)
   else
    if p0.Kind == 4 then
     some (p0.Kind == 4)
    else
     some (p0.Kind == 10)) fun a0 =>
  if a0 then
   some p0.A
  else
   Option.bind (α := Bool) (
    if p0.Kind == 6 then
     some (p0.Kind == 6)
    else
     some (p0.Kind == 7)) fun a4 =>
   if a4 then
    some (w64 (p0.A + p0.B))
   else
    some 1
theorem c_raddleref25_Used (E : Nat → Prop) (w0 : World) (p0 : api_Stitch) (v0 : Value) (r : Int) (h : F_raddleref25_Used p0 = some r) (S : St0 E [] w0 w0 [] [fRep r_api_Stitch (v0) p0]) :
 Calls Try.prog 92 #[v0] w0 (Ret (X := Unit) E [] w0 (fun _ => .int .i64 r) (fun _ => []) (fun _ => [])) := by
 unfold F_raddleref25_Used at h
 obtain rfl : v0 = .agg #[.int .u8 p0.Kind, .bool p0.Purl, iv p0.A, iv p0.B] := S.know (i := 0) (e := fRep r_api_Stitch (v0) p0) rfl
 refine sEnter (args := [.agg #[.int .u8 p0.Kind, .bool p0.Purl, iv p0.A, iv p0.B]]) 22 Try.func92 rfl rfl (by simp) S (fun a S => ?_)
 refine sSeq (fun K1 ak => sRegion (sBox (v := .agg #[.int .u8 p0.Kind, .bool p0.Purl, iv p0.A, iv p0.B]) S (wN rfl) rfl rfl [.int .u8 p0.Kind, .bool p0.Purl, iv p0.A, iv p0.B] rfl rfl (lb rfl) fun a b2 w S => ?_))
 refine sN S fun a S => ?_
 refine lT (ak _ _ (sSeq (fun K3 am => sSeq (fun K4 ao => sRegion (sField (b := b2) (off := 0) 0 0 S (wN rfl) rfl rfl rfl rfl rfl (lb rfl) fun a S => ?_)))))
 refine sLoad1 0 (.int .u8 p0.Kind) S (wN rfl) rfl rfl rfl rfl rfl rfl (lb rfl) fun a S => ?_
 refine lT (ao _ _ (wp_block ?_))
 obtain ⟨t6, h, g7⟩ := bS h
 refine sCut (fun a w => ∃ o5, o5 = t6 ∧ St [] E [] w0 22 a w [(1, .pointer (some ⟨b2, 0, none⟩)), (4, .int .u8 p0.Kind), (5, .bool o5)] [eBox b2 81 [.int .u8 p0.Kind, .bool p0.Purl, iv p0.A, iv p0.B]] []) ?_ (fun a w hI => ?_)
 ·refine sSeq (fun K8 ap => sRegion (sBin _ S (wN rfl) rfl rfl rfl (bEq _ _ _ _ .u8 p0.Kind 2) rfl (lb rfl) fun a S => ?_))
  refine sN S fun a S => ?_
  refine lT (ap _ _ ?_)
  rcases iS h with ⟨a9, h⟩ | ⟨a9, h⟩
  ·refine sCondT S rfl a9 ?_
   exact wp_skip (leafT (⟨p0.Kind == 2, Option.some.inj h, S.fix [0] [] (by decide) rfl rfl rfl⟩))
  refine sCondF S rfl a9 ?_
  refine sRegion (sBin _ S (wN rfl) rfl rfl rfl (bEq _ _ _ _ .u8 p0.Kind 9) rfl (lb rfl) fun a S => ?_)
  refine sN S fun a S => ?_
  exact lT (⟨p0.Kind == 9, Option.some.inj h, S.fix [0] [] (by decide) rfl rfl rfl⟩)
 obtain ⟨o5, rfl, S⟩ := hI
 have h := g7
 try dsimp only at h
 rcases iS h with ⟨a0, h⟩ | ⟨a0, h⟩
 ·refine sCondT S rfl a0 ?_
  refine sSeq (fun aw aa => sRegion (sN S fun a S => ?_))
  refine lT (aa _ _ ?_)
  obtain rfl := tS h
  exact wp_ret (rBlock (rThen (sRet (iv 0) S (rsl1 rfl (rvT (t := 2) (v := iv 0) S rfl)) ⟨(), rfl, S.mem.sel [] [] (by decide) rfl rfl⟩)))
 refine sCondF S rfl a0 ?_
 obtain ⟨aq, h, ar⟩ := bS h
 refine sCut (fun a w => ∃ ab, ab = aq ∧ St [] E [] w0 22 a w [(1, .pointer (some ⟨b2, 0, none⟩)), (4, .int .u8 p0.Kind), (8, .bool ab)] [eBox b2 81 [.int .u8 p0.Kind, .bool p0.Purl, iv p0.A, iv p0.B]] []) ?_ (fun a w hI => ?_)
 ·refine sSeq (fun ax ac => sRegion (sBin _ S (wN rfl) rfl rfl rfl (bEq _ _ _ _ .u8 p0.Kind 3) rfl (lb rfl) fun a S => ?_))
  refine sN S fun a S => ?_
  refine lT (ac _ _ ?_)
  rcases iS h with ⟨a4, h⟩ | ⟨a4, h⟩
  ·refine sCondT S rfl a4 ?_
   exact wp_skip (leafT (⟨p0.Kind == 3, Option.some.inj h, S.fix [0] [] (by decide) rfl rfl rfl⟩))
  refine sCondF S rfl a4 ?_
  refine sSeq (fun ay ae => sRegion (sBin _ S (wN rfl) rfl rfl rfl (bEq _ _ _ _ .u8 p0.Kind 4) rfl (lb rfl) fun a S => ?_))
  refine sN S fun a S => ?_
  refine lT (ae _ _ ?_)
  rcases iS h with ⟨a5, h⟩ | ⟨a5, h⟩
  ·refine sCondT S rfl a5 ?_
   exact wp_skip (leafT (⟨p0.Kind == 4, Option.some.inj h, S.fix [0] [] (by decide) rfl rfl rfl⟩))
  refine sCondF S rfl a5 ?_
  refine sRegion (sBin _ S (wN rfl) rfl rfl rfl (bEq _ _ _ _ .u8 p0.Kind 10) rfl (lb rfl) fun a S => ?_)
  refine sN S fun a S => ?_
  exact lT (⟨p0.Kind == 10, Option.some.inj h, S.fix [0] [] (by decide) rfl rfl rfl⟩)
 obtain ⟨ab, rfl, S⟩ := hI
 have h := ar
 try dsimp only at h
 rcases iS h with ⟨a6, h⟩ | ⟨a6, h⟩
 ·refine sCondT S rfl a6 ?_
  refine sSeq (fun az af => sRegion (sField (b := b2) (off := 0) 2 2 S (wN rfl) rfl rfl rfl rfl rfl (lb rfl) fun a S => ?_))
  refine sLoad1 0 (iv p0.A) S (wN rfl) rfl rfl rfl rfl rfl rfl (lb rfl) fun a S => ?_
  refine sN S fun a S => ?_
  refine lT (af _ _ ?_)
  obtain rfl := tS h
  exact wp_ret (rBlock (rThen (sRet (iv p0.A) S (rsl1 rfl (rvT (t := 2) (v := iv p0.A) S rfl)) ⟨(), rfl, S.mem.sel [] [] (by decide) rfl rfl⟩)))
 refine sCondF S rfl a6 ?_
 obtain ⟨au, h, av⟩ := bS h
 refine sCut (fun a w => ∃ ag, ag = au ∧ St [] E [] w0 22 a w [(1, .pointer (some ⟨b2, 0, none⟩)), (14, .bool ag)] [eBox b2 81 [.int .u8 p0.Kind, .bool p0.Purl, iv p0.A, iv p0.B]] []) ?_ (fun a w hI => ?_)
 ·refine sSeq (fun aA ah => sRegion (sBin _ S (wN rfl) rfl rfl rfl (bEq _ _ _ _ .u8 p0.Kind 6) rfl (lb rfl) fun a S => ?_))
  refine sN S fun a S => ?_
  refine lT (ah _ _ ?_)
  rcases iS h with ⟨a7, h⟩ | ⟨a7, h⟩
  ·refine sCondT S rfl a7 ?_
   exact wp_skip (leafT (⟨p0.Kind == 6, Option.some.inj h, S.fix [0] [] (by decide) rfl rfl rfl⟩))
  refine sCondF S rfl a7 ?_
  refine sRegion (sBin _ S (wN rfl) rfl rfl rfl (bEq _ _ _ _ .u8 p0.Kind 7) rfl (lb rfl) fun a S => ?_)
  refine sN S fun a S => ?_
  exact lT (⟨p0.Kind == 7, Option.some.inj h, S.fix [0] [] (by decide) rfl rfl rfl⟩)
 obtain ⟨ag, rfl, S⟩ := hI
 have h := av
 try dsimp only at h
 rcases iS h with ⟨a8, h⟩ | ⟨a8, h⟩
 rotate_left
 ·refine sCondF S rfl a8 ?_
  refine wp_skip (leafB (leafT (am _ _ ?_)))
  refine sSeq (fun aC ai => sRegion (sN S fun a S => ?_))
  refine lT (ai _ _ ?_)
  obtain rfl := tS h
  exact wp_ret (sRet (iv 1) S (rsl1 rfl (rvT (t := 2) (v := iv 1) S rfl)) ⟨(), rfl, S.mem.sel [] [] (by decide) rfl rfl⟩)
 refine sCondT S rfl a8 ?_
 refine sSeq (fun aG aj => sRegion (sField (b := b2) (off := 0) 2 2 S (wN rfl) rfl rfl rfl rfl rfl (lb rfl) fun a S => ?_))
 refine sLoad1 0 (iv p0.A) S (wN rfl) rfl rfl rfl rfl rfl rfl (lb rfl) fun a S => ?_
 refine sField (b := b2) (off := 0) 3 3 S (wN rfl) rfl rfl rfl rfl rfl (lb rfl) fun a S => ?_
 refine sLoad1 0 (iv p0.B) S (wN rfl) rfl rfl rfl rfl rfl rfl (lb rfl) fun a S => ?_
 refine sBin _ S (wN rfl) rfl rfl rfl (bAdd _ _ _ _ p0.A p0.B) rfl (lb rfl) fun a S => ?_
 refine sN S fun a S => ?_
 refine lT (aj _ _ ?_)
 obtain rfl := tS h
 exact wp_ret (rBlock (rThen (sRet (iv (w64 (p0.A + p0.B))) S (rsl1 rfl (rvT (t := 2) (v := iv (w64 (p0.A + p0.B))) S rfl)) ⟨(), rfl, S.mem.sel [] [] (by decide) rfl rfl⟩)))
noncomputable def F_raddleref25_Gives (p0 : api_Stitch) : Option Int :=
 if p0.Kind == 10 then
  some 0
 else
  Option.bind (α := Bool) (
   if p0.Kind == 5 then
    some (p0.Kind == 5)
   else
    some (p0.Kind == 9)) fun o8 =>
  if o8 then
   some p0.A
  else
   Option.bind (α := Bool) (
    if p0.Kind == 6 then
     some (p0.Kind == 6)
    else
     some (p0.Kind == 7)) fun a0 =>
   if a0 then
    some (w64 (p0.A + p0.B))
   else
    some 1
theorem c_raddleref25_Gives (E : Nat → Prop) (w0 : World) (p0 : api_Stitch) (v0 : Value) (r : Int) (h : F_raddleref25_Gives p0 = some r) (S : St0 E [] w0 w0 [] [fRep r_api_Stitch (v0) p0]) :
 Calls Try.prog 93 #[v0] w0 (Ret (X := Unit) E [] w0 (fun _ => .int .i64 r) (fun _ => []) (fun _ => [])) := by
 unfold F_raddleref25_Gives at h
 obtain rfl : v0 = .agg #[.int .u8 p0.Kind, .bool p0.Purl, iv p0.A, iv p0.B] := S.know (i := 0) (e := fRep r_api_Stitch (v0) p0) rfl
 refine sEnter (args := [.agg #[.int .u8 p0.Kind, .bool p0.Purl, iv p0.A, iv p0.B]]) 20 Try.func93 rfl rfl (by simp) S (fun a S => ?_)
 refine sSeq (fun K1 af => sRegion (sBox (v := .agg #[.int .u8 p0.Kind, .bool p0.Purl, iv p0.A, iv p0.B]) S (wN rfl) rfl rfl [.int .u8 p0.Kind, .bool p0.Purl, iv p0.A, iv p0.B] rfl rfl (lb rfl) fun a b2 w S => ?_))
 refine sN S fun a S => ?_
 refine lT (af _ _ (sSeq (fun K3 ag => sSeq (fun K4 ah => sRegion (sField (b := b2) (off := 0) 0 0 S (wN rfl) rfl rfl rfl rfl rfl (lb rfl) fun a S => ?_)))))
 refine sLoad1 0 (.int .u8 p0.Kind) S (wN rfl) rfl rfl rfl rfl rfl rfl (lb rfl) fun a S => ?_
 refine lT (ah _ _ (wp_block ?_))
 refine sSeq (fun K5 ai => sRegion (sBin _ S (wN rfl) rfl rfl rfl (bEq _ _ _ _ .u8 p0.Kind 10) rfl (lb rfl) fun a S => ?_))
 refine sN S fun a S => ?_
 refine lT (ai _ _ ?_)
 rcases iS h with ⟨a7, h⟩ | ⟨a7, h⟩
 ·refine sCondT S rfl a7 ?_
  refine sSeq (fun K7 aj => sRegion (sN S fun a S => ?_))
  refine lT (aj _ _ ?_)
  obtain rfl := tS h
  exact wp_ret (rBlock (rThen (sRet (iv 0) S (rsl1 rfl (rvT (t := 2) (v := iv 0) S rfl)) ⟨(), rfl, S.mem.sel [] [] (by decide) rfl rfl⟩)))
 refine sCondF S rfl a7 ?_
 obtain ⟨t9, h, ak⟩ := bS h
 refine sCut (fun a w => ∃ o8, o8 = t9 ∧ St [] E [] w0 20 a w [(1, .pointer (some ⟨b2, 0, none⟩)), (4, .int .u8 p0.Kind), (7, .bool o8)] [eBox b2 81 [.int .u8 p0.Kind, .bool p0.Purl, iv p0.A, iv p0.B]] []) ?_ (fun a w hI => ?_)
 ·refine sSeq (fun ap a8 => sRegion (sBin _ S (wN rfl) rfl rfl rfl (bEq _ _ _ _ .u8 p0.Kind 5) rfl (lb rfl) fun a S => ?_))
  refine sN S fun a S => ?_
  refine lT (a8 _ _ ?_)
  rcases iS h with ⟨a0, h⟩ | ⟨a0, h⟩
  ·refine sCondT S rfl a0 ?_
   exact wp_skip (leafT (⟨p0.Kind == 5, Option.some.inj h, S.fix [0] [] (by decide) rfl rfl rfl⟩))
  refine sCondF S rfl a0 ?_
  refine sRegion (sBin _ S (wN rfl) rfl rfl rfl (bEq _ _ _ _ .u8 p0.Kind 9) rfl (lb rfl) fun a S => ?_)
  refine sN S fun a S => ?_
  exact lT (⟨p0.Kind == 9, Option.some.inj h, S.fix [0] [] (by decide) rfl rfl rfl⟩)
 obtain ⟨o8, rfl, S⟩ := hI
 have h := ak
 try dsimp only at h
 rcases iS h with ⟨a4, h⟩ | ⟨a4, h⟩
 ·refine sCondT S rfl a4 ?_
  refine sSeq (fun aq a9 => sRegion (sField (b := b2) (off := 0) 2 2 S (wN rfl) rfl rfl rfl rfl rfl (lb rfl) fun a S => ?_))
  refine sLoad1 0 (iv p0.A) S (wN rfl) rfl rfl rfl rfl rfl rfl (lb rfl) fun a S => ?_
  refine sN S fun a S => ?_
  refine lT (a9 _ _ ?_)
  obtain rfl := tS h
  exact wp_ret (rBlock (rThen (sRet (iv p0.A) S (rsl1 rfl (rvT (t := 2) (v := iv p0.A) S rfl)) ⟨(), rfl, S.mem.sel [] [] (by decide) rfl rfl⟩)))
 refine sCondF S rfl a4 ?_
 obtain ⟨am, h, ao⟩ := bS h
 refine sCut (fun a w => ∃ aa, aa = am ∧ St [] E [] w0 20 a w [(1, .pointer (some ⟨b2, 0, none⟩)), (12, .bool aa)] [eBox b2 81 [.int .u8 p0.Kind, .bool p0.Purl, iv p0.A, iv p0.B]] []) ?_ (fun a w hI => ?_)
 ·refine sSeq (fun ar ab => sRegion (sBin _ S (wN rfl) rfl rfl rfl (bEq _ _ _ _ .u8 p0.Kind 6) rfl (lb rfl) fun a S => ?_))
  refine sN S fun a S => ?_
  refine lT (ab _ _ ?_)
  rcases iS h with ⟨a5, h⟩ | ⟨a5, h⟩
  ·refine sCondT S rfl a5 ?_
   exact wp_skip (leafT (⟨p0.Kind == 6, Option.some.inj h, S.fix [0] [] (by decide) rfl rfl rfl⟩))
  refine sCondF S rfl a5 ?_
  refine sRegion (sBin _ S (wN rfl) rfl rfl rfl (bEq _ _ _ _ .u8 p0.Kind 7) rfl (lb rfl) fun a S => ?_)
  refine sN S fun a S => ?_
  exact lT (⟨p0.Kind == 7, Option.some.inj h, S.fix [0] [] (by decide) rfl rfl rfl⟩)
 obtain ⟨aa, rfl, S⟩ := hI
 have h := ao
 try dsimp only at h
 rcases iS h with ⟨a6, h⟩ | ⟨a6, h⟩
 rotate_left
 ·refine sCondF S rfl a6 ?_
  refine wp_skip (leafB (leafT (ag _ _ ?_)))
  refine sSeq (fun au ac => sRegion (sN S fun a S => ?_))
  refine lT (ac _ _ ?_)
  obtain rfl := tS h
  exact wp_ret (sRet (iv 1) S (rsl1 rfl (rvT (t := 2) (v := iv 1) S rfl)) ⟨(), rfl, S.mem.sel [] [] (by decide) rfl rfl⟩)
 refine sCondT S rfl a6 ?_
 refine sSeq (fun av ae => sRegion (sField (b := b2) (off := 0) 2 2 S (wN rfl) rfl rfl rfl rfl rfl (lb rfl) fun a S => ?_))
 refine sLoad1 0 (iv p0.A) S (wN rfl) rfl rfl rfl rfl rfl rfl (lb rfl) fun a S => ?_
 refine sField (b := b2) (off := 0) 3 3 S (wN rfl) rfl rfl rfl rfl rfl (lb rfl) fun a S => ?_
 refine sLoad1 0 (iv p0.B) S (wN rfl) rfl rfl rfl rfl rfl rfl (lb rfl) fun a S => ?_
 refine sBin _ S (wN rfl) rfl rfl rfl (bAdd _ _ _ _ p0.A p0.B) rfl (lb rfl) fun a S => ?_
 refine sN S fun a S => ?_
 refine lT (ae _ _ ?_)
 obtain rfl := tS h
 exact wp_ret (rBlock (rThen (sRet (iv (w64 (p0.A + p0.B))) S (rsl1 rfl (rvT (t := 2) (v := iv (w64 (p0.A + p0.B))) S rfl)) ⟨(), rfl, S.mem.sel [] [] (by decide) rfl rfl⟩)))
noncomputable def raddleref25_sums_l1 (p0 : (List api_Stitch)) : (Int × Int × Int) → Option ((Int × Int × Int) ⊕ (Int × Int)) := fun s0 => match s0 with
 | (a4, a5, a0) =>
  if decide (a0 < (p0.length : Int)) then
   (idxO p0 a0).bind fun a6 =>
   (F_raddleref25_Used a6).bind fun a7 =>
   (F_raddleref25_Gives a6).bind fun a8 =>
   some (.inl (w64 (a4 + a7), w64 (a5 + a8), w64 (a0 + 1)))
  else
   some (.inr (a4, a5))
noncomputable def F_raddleref25_sums (p0 : (List api_Stitch)) : Option (Int × Int) :=
 Option.bind (α := (Int × Int)) (
  (whileO (raddleref25_sums_l1 p0) (0, 0, 0)).bind fun (a0, a4) =>
   some (a0, a4)) fun (o5, o6) =>
 some (o5, o6)
theorem c_raddleref25_sums (E : Nat → Prop) (w0 : World) (p0 : (List api_Stitch)) (v0 : Value) (r : (Int × Int)) (h : F_raddleref25_sums p0 = some r) (S : St0 E [] w0 w0 [] [fRep (rL r_api_Stitch) (v0) p0]) :
 Calls Try.prog 74 #[v0] w0 (Ret (X := Unit) E [] w0 (fun _ => .tuple #[.int .i64 r.1, .int .i64 r.2]) (fun _ => []) (fun _ => [])) := by
 unfold F_raddleref25_sums at h
 obtain ⟨a6, a7, _, rfl, _⟩ := S.know (i := 0) (e := fRep (rL r_api_Stitch) (v0) p0) rfl
 refine sEnter (args := [.slice a6 p0.length a7]) 29 Try.func74 rfl rfl (by simp) S (fun a S => ?_)
 refine sSeq (fun K3 aw => sRegion (sN S fun a S => ?_))
 refine sN S fun a S => ?_
 refine lT (aw _ _ (sSeq (fun K4 ax => sRegion (sN S fun a S => ?_))))
 refine sN S fun a S => ?_
 refine lT (ax _ _ ?_)
 obtain ⟨t7, h, g8⟩ := bS h
 refine sCut (fun a w => ∃ o5, ∃ o6, (o5, o6) = t7 ∧ St [] E [] w0 29 a w [(4, iv o5), (5, iv o6)] [] []) ?_ (fun a w hI => ?_)
 rotate_left
 ·obtain ⟨o5, o6, rfl, S⟩ := hI
  have h := g8
  try dsimp only at h
  refine sSeq (fun aA ae => sRegion (sM S fun a S => ?_))
  refine sM S fun a S => ?_
  refine sN S fun a S => ?_
  refine sN S fun a S => ?_
  refine lT (ae _ _ ?_)
  obtain rfl := tS h
  exact wp_ret (sRet (.tuple #[iv o5, iv o6]) S (rsl2 rfl (rvT (t := 2) (v := iv o5) S rfl) (rvT (t := 3) (v := iv o6) S rfl)) ⟨(), rfl, S.mem.sel [] [] (by decide) rfl rfl⟩)
 refine sSeq (fun K9 ay => sRegion (sN S fun a S => ?_))
 refine lT (ay _ _ (wp_block ?_))
 obtain ⟨aC, hl, az⟩ := bS h
 refine sLoop hl (fun s0 a w => match s0 with | (a8, a9, a4) => St [] E [] w0 29 a w [(0, .slice a6 p0.length a7), (4, iv a8), (5, iv a9), (6, iv a4)] [] [fRep (rL r_api_Stitch) (.slice a6 p0.length a7) p0]) (S.fix [] [0] (by decide) rfl rfl rfl) ?_
 clear hl h
 intro s0 a w c0 hI h af
 obtain ⟨a8, a9, a4⟩ := s0
 unfold raddleref25_sums_l1 at h
 dsimp only at h hI
 have S := hI
 refine sSeq (fun aG ag => sSeq (fun aH ah => sRegion (sM S fun a S => ?_)))
 refine sM S fun a S => ?_
 refine sLen S (wN rfl) rfl Try.underlying47 rfl rfl (lb rfl) fun a S => ?_
 refine sBin _ S (wN rfl) rfl rfl rfl (bLt _ _ _ _ .i64 a4 (p0.length : Int)) rfl (lb rfl) fun a S => ?_
 refine lT (ah _ _ ?_)
 rcases iS h with ⟨a5, h⟩ | ⟨a5, h⟩
 rotate_left
 ·refine sCondF S rfl a5 ?_
  obtain rfl := tS h
  obtain rfl := af _ rfl
  have h := az
  try dsimp only at h
  exact wp_exit (xThen (xThen (xHit (leafT (⟨a8, a9, Option.some.inj h, S.fix [] [] (by decide) rfl rfl rfl⟩)))))
 refine sCondT S rfl a5 ?_
 refine wp_skip (leafT (ag _ _ ?_))
 refine sSeq (fun aI ai => wp_block ?_)
 refine sSeq (fun aJ aj => sRegion (sM S fun a S => ?_))
 refine sM S fun a S => ?_
 refine sM S fun a S => ?_
 obtain ⟨a0, aa, h⟩ := bS h
 obtain ⟨aq, ak, S⟩ := pIdx (P := Try.prog) (r := r_api_Stitch) (v := .slice a6 p0.length a7) (xs := p0) (j := a4) 47 81 0 S Try.underlying47 rfl rfl aa
 refine sIdxV S (wN rfl) rfl rfl rfl ak rfl (lb rfl) fun a S => ?_
 obtain ⟨ar, S⟩ := pLoad (r := r_api_Stitch) (q := aq) (x := a0) 0 S rfl
 obtain rfl : ar = .agg #[.int .u8 a0.Kind, .bool a0.Purl, iv a0.A, iv a0.B] := S.mem.know (i := 1) (e := fRep r_api_Stitch (ar) a0) rfl
 refine sLoadVN (vq := aq) 0 [.int .u8 a0.Kind, .bool a0.Purl, iv a0.A, iv a0.B] S (wN rfl) rfl rfl rfl rfl rfl rfl (lb rfl) fun a S => ?_
 obtain ⟨ab, am, h⟩ := bS h
 have S1 := S.mem
 refine sCq [.agg #[.int .u8 a0.Kind, .bool a0.Purl, iv a0.A, iv a0.B]] (iv ab) S callee92 (S1.quiet [1] rfl) (fun E1 w1 S1 => c_raddleref25_Used E1 w1 a0 (.agg #[.int .u8 a0.Kind, .bool a0.Purl, iv a0.A, iv a0.B]) ab am S1) fun a w S => ?_
 refine sBin _ S (wN rfl) rfl rfl rfl (bAdd _ _ _ _ a8 ab) rfl (lb rfl) fun a S => ?_
 refine sN S fun a S => ?_
 refine lT (aj _ _ (sRegion (sM S fun a S => ?_)))
 refine sM S fun a S => ?_
 refine sM S fun a S => ?_
 obtain ⟨au, ao, S⟩ := pIdx (P := Try.prog) (r := r_api_Stitch) (v := .slice a6 p0.length a7) (xs := p0) (j := a4) 47 81 3 S Try.underlying47 rfl rfl aa
 refine sIdxV S (wN rfl) rfl rfl rfl ao rfl (lb rfl) fun a S => ?_
 obtain ⟨av, S⟩ := pLoad (r := r_api_Stitch) (q := au) (x := a0) 0 S rfl
 obtain rfl : av = .agg #[.int .u8 a0.Kind, .bool a0.Purl, iv a0.A, iv a0.B] := S.mem.know (i := 1) (e := fRep r_api_Stitch (av) a0) rfl
 refine sLoadVN (vq := au) 0 [.int .u8 a0.Kind, .bool a0.Purl, iv a0.A, iv a0.B] S (wN rfl) rfl rfl rfl rfl rfl rfl (lb rfl) fun a S => ?_
 obtain ⟨ac, ap, h⟩ := bS h
 have S1 := S.mem
 refine sCq [.agg #[.int .u8 a0.Kind, .bool a0.Purl, iv a0.A, iv a0.B]] (iv ac) S callee93 (S1.quiet [1] rfl) (fun E1 w1 S1 => c_raddleref25_Gives E1 w1 a0 (.agg #[.int .u8 a0.Kind, .bool a0.Purl, iv a0.A, iv a0.B]) ac ap S1) fun a w S => ?_
 refine sBin _ S (wN rfl) rfl rfl rfl (bAdd _ _ _ _ a9 ac) rfl (lb rfl) fun a S => ?_
 refine sN S fun a S => ?_
 refine leafL (leafB (leafT (ai _ _ ?_)))
 refine sRegion (sM S fun a S => ?_)
 refine sBin _ S (wN rfl) rfl rfl rfl (bAdd _ _ _ _ a4 1) rfl (lb rfl) fun a S => ?_
 refine sN S fun a S => ?_
 exact lT (⟨(w64 (a8 + ab), w64 (a9 + ac), w64 (a4 + 1)), (Option.some.inj h).symm, (S.fix [] [6] (by decide) rfl rfl rfl)⟩)
noncomputable def raddleref25_All_l1 (p0 : (List api_Stitch)) : Int → Option (Int ⊕ (Int ⊕ Unit)) := fun s0 => match s0 with
 | a0 =>
  if decide (a0 < (p0.length : Int)) then
   (idxO p0 a0).bind fun a4 =>
   (F_raddleref25_Check a4).bind fun a5 =>
   if a5 != 0 then
    some (.inr (.inl 8))
   else
    some (.inl (w64 (a0 + 1)))
  else
   some (.inr (.inr ()))
noncomputable def F_raddleref25_All (p0 : (List api_Stitch)) : Option Int :=
 if decide (200 < (p0.length : Int)) then
  some 4
 else
  Option.bind (α := Unit ⊕ Int) (
   (whileO (raddleref25_All_l1 p0) 0).bind fun z0 => match z0 with
    | .inl z =>
     some (.inr z)
    | .inr _ =>
     some (.inl ())) fun z0 => match z0 with
   | .inl _ =>
    (F_raddleref25_sums p0).bind fun a0 =>
    Option.bind (α := Bool) (
     if decide (200 < a0.1) then
      some true
     else
      some (decide (200 < a0.2))) fun a4 =>
    if a4 then
     some 4
    else
     some 0
   | .inr z =>
    some z
theorem c_raddleref25_All (E : Nat → Prop) (w0 : World) (p0 : (List api_Stitch)) (v0 : Value) (r : Int) (h : F_raddleref25_All p0 = some r) (S : St0 E [] w0 w0 [] [fRep (rL r_api_Stitch) (v0) p0]) :
 Calls Try.prog 38 #[v0] w0 (Ret (X := Unit) E [] w0 (fun _ => .int .i64 r) (fun _ => []) (fun _ => [])) := by
 unfold F_raddleref25_All at h
 obtain ⟨a6, a7, _, rfl, _⟩ := S.know (i := 0) (e := fRep (rL r_api_Stitch) (v0) p0) rfl
 refine sEnter (args := [.slice a6 p0.length a7]) 32 Try.func38 rfl rfl (by simp) S (fun a S => ?_)
 refine sSeq (fun K3 aG => sRegion (sN S fun a S => ?_))
 refine lT (aG _ _ (sSeq (fun K4 aH => sSeq (fun K5 aI => sRegion (sM S fun a S => ?_)))))
 refine sLen S (wN rfl) rfl Try.underlying47 rfl rfl (lb rfl) fun a S => ?_
 refine sBin _ S (wN rfl) rfl rfl rfl (bGt _ _ _ _ .i64 (p0.length : Int) 200) rfl (lb rfl) fun a S => ?_
 refine lT (aI _ _ ?_)
 rcases iS h with ⟨ae, h⟩ | ⟨ae, h⟩
 ·refine sCondT S rfl ae ?_
  refine sSeq (fun K7 aJ => sRegion (sN S fun a S => ?_))
  refine lT (aJ _ _ ?_)
  obtain rfl := tS h
  exact wp_ret (rThen (sRet (iv 4) S (rsl1 rfl (rvT (t := 2) (v := iv 4) S rfl)) ⟨(), rfl, S.mem.sel [] [] (by decide) rfl rfl⟩))
 refine sCondF S rfl ae ?_
 refine wp_skip (leafT (aH _ _ ?_))
 obtain ⟨t8, h, g9⟩ := bS h
 refine sCut (fun a w => .inl () = t8 ∧ St [] E [] w0 32 a w [(0, .slice a6 p0.length a7)] [] [fRep (rL r_api_Stitch) (.slice a6 p0.length a7) p0]) ?_ (fun a w hI => ?_)
 rotate_left
 ·obtain ⟨rfl, S⟩ := hI
  have h := g9
  try dsimp only at h
  refine sSeq (fun aM af => sRegion (sM S fun a S => ?_))
  obtain ⟨a4, ag, h⟩ := bS h
  have S1 := S.mem
  refine sCq [.slice a6 p0.length a7] (.tuple #[iv a4.1, iv a4.2]) S callee74 (S1.quiet [0] rfl) (fun E1 w1 S1 => c_raddleref25_sums E1 w1 p0 (.slice a6 p0.length a7) a4 ag S1) fun a w S => ?_
  refine sM S fun a S => ?_
  refine sExtract (vs := [iv a4.1, iv a4.2]) (iv a4.1) S (wN rfl) rfl rfl rfl rfl (lb rfl) fun a S => ?_
  refine sExtract (vs := [iv a4.1, iv a4.2]) (iv a4.2) S (wN rfl) rfl rfl rfl rfl (lb rfl) fun a S => ?_
  refine sN S fun a S => ?_
  refine sN S fun a S => ?_
  refine lT (af _ _ (sSeq (fun aO ah => ?_)))
  obtain ⟨aK, h, aL⟩ := bS h
  refine sCut (fun a w => ∃ ai, ai = aK ∧ St [] E [] w0 32 a w [(31, .bool ai)] [] []) ?_ (fun a w hI => ?_)
  rotate_left
  ·obtain ⟨ai, rfl, S⟩ := hI
   have h := aL
   try dsimp only at h
   rcases iS h with ⟨a8, h⟩ | ⟨a8, h⟩
   ·refine sCondT S rfl a8 ?_
    refine sSeq (fun aP aj => sRegion (sN S fun a S => ?_))
    refine lT (aj _ _ ?_)
    obtain rfl := tS h
    exact wp_ret (rThen (sRet (iv 4) S (rsl1 rfl (rvT (t := 2) (v := iv 4) S rfl)) ⟨(), rfl, S.mem.sel [] [] (by decide) rfl rfl⟩))
   refine sCondF S rfl a8 ?_
   refine wp_skip (leafT (ah _ _ ?_))
   refine sSeq (fun aQ ak => sRegion (sN S fun a S => ?_))
   refine lT (ak _ _ ?_)
   obtain rfl := tS h
   exact wp_ret (sRet (iv 0) S (rsl1 rfl (rvT (t := 2) (v := iv 0) S rfl)) ⟨(), rfl, S.mem.sel [] [] (by decide) rfl rfl⟩)
  refine sRegion (sM S fun a S => ?_)
  refine sBin _ S (wN rfl) rfl rfl rfl (bGt _ _ _ _ .i64 a4.1 200) rfl (lb rfl) fun a S => ?_
  refine sM S fun a S => ?_
  rcases iS h with ⟨a5, h⟩ | ⟨a5, h⟩
  ·refine sSkN 2 2 false 28 S rfl rfl a5 rfl fun a S => ?_
   refine sPickT (.bool true) S (wN rfl) rfl rfl a5 rfl rfl (lb rfl) fun a S => ?_
   exact lT (⟨true, Option.some.inj h, S.fix [] [] (by decide) rfl rfl rfl⟩)
  refine sMove (iv a4.2) S (wG 2 false 28 rfl rfl rfl a5) (.inl rfl) rfl rfl (lb rfl) fun a S => ?_
  refine sBin _ S (wG 2 false 28 rfl rfl rfl a5) rfl rfl rfl (bGt _ _ _ _ .i64 a4.2 200) rfl (lb rfl) fun a S => ?_
  refine sPickF (.bool (decide (200 < a4.2))) S (wN rfl) rfl rfl a5 rfl rfl (lb rfl) fun a S => ?_
  exact lT (⟨decide (200 < a4.2), Option.some.inj h, S.fix [] [] (by decide) rfl rfl rfl⟩)
 refine sSeq (fun aR am => sRegion (sN S fun a S => ?_))
 refine lT (am _ _ (wp_block ?_))
 obtain ⟨aS, hl, az⟩ := bS h
 refine sLoop hl (fun s0 a w => match s0 with | ab => St [] E [] w0 32 a w [(0, .slice a6 p0.length a7), (3, iv ab)] [] [fRep (rL r_api_Stitch) (.slice a6 p0.length a7) p0]) (S.fix [] [0] (by decide) rfl rfl rfl) ?_
 clear hl h
 intro ab a w c0 hI h ac
 unfold raddleref25_All_l1 at h
 dsimp only at h hI
 have S := hI
 refine sSeq (fun aT ao => sSeq (fun aU ap => sRegion (sM S fun a S => ?_)))
 refine sM S fun a S => ?_
 refine sLen S (wN rfl) rfl Try.underlying47 rfl rfl (lb rfl) fun a S => ?_
 refine sBin _ S (wN rfl) rfl rfl rfl (bLt _ _ _ _ .i64 ab (p0.length : Int)) rfl (lb rfl) fun a S => ?_
 refine lT (ap _ _ ?_)
 rcases iS h with ⟨a9, h⟩ | ⟨a9, h⟩
 rotate_left
 ·refine sCondF S rfl a9 ?_
  obtain rfl := tS h
  obtain rfl := ac _ rfl
  have h := az
  try dsimp only at h
  exact wp_exit (xThen (xThen (xHit (leafT (⟨Option.some.inj h, S.fix [] [0] (by decide) rfl rfl rfl⟩)))))
 refine sCondT S rfl a9 ?_
 refine wp_skip (leafT (ao _ _ ?_))
 refine sSeq (fun aV aq => wp_block ?_)
 refine sSeq (fun aW ar => sRegion (sM S fun a S => ?_))
 refine sM S fun a S => ?_
 obtain ⟨a0, au, h⟩ := bS h
 obtain ⟨aA, av, S⟩ := pIdx (P := Try.prog) (r := r_api_Stitch) (v := .slice a6 p0.length a7) (xs := p0) (j := ab) 47 81 0 S Try.underlying47 rfl rfl au
 refine sIdxV S (wN rfl) rfl rfl rfl av rfl (lb rfl) fun a S => ?_
 obtain ⟨aC, S⟩ := pLoad (r := r_api_Stitch) (q := aA) (x := a0) 0 S rfl
 obtain rfl : aC = .agg #[.int .u8 a0.Kind, .bool a0.Purl, iv a0.A, iv a0.B] := S.mem.know (i := 1) (e := fRep r_api_Stitch (aC) a0) rfl
 refine sLoadVN (vq := aA) 0 [.int .u8 a0.Kind, .bool a0.Purl, iv a0.A, iv a0.B] S (wN rfl) rfl rfl rfl rfl rfl rfl (lb rfl) fun a S => ?_
 obtain ⟨aw, ax, h⟩ := bS h
 have S1 := S.mem
 refine sCq [.agg #[.int .u8 a0.Kind, .bool a0.Purl, iv a0.A, iv a0.B]] (iv aw) S callee73 (S1.quiet [1] rfl) (fun E1 w1 S1 => c_raddleref25_Check E1 w1 a0 (.agg #[.int .u8 a0.Kind, .bool a0.Purl, iv a0.A, iv a0.B]) aw ax S1) fun a w S => ?_
 refine sBin _ S (wN rfl) rfl rfl rfl (bNe _ _ _ _ .i64 aw 0) rfl (lb rfl) fun a S => ?_
 refine lT (ar _ _ ?_)
 rcases iS h with ⟨aa, h⟩ | ⟨aa, h⟩
 rotate_left
 ·refine sCondF S rfl aa ?_
  refine wp_skip (leafB (leafT (aq _ _ ?_)))
  refine sRegion (sM S fun a S => ?_)
  refine sBin _ S (wN rfl) rfl rfl rfl (bAdd _ _ _ _ ab 1) rfl (lb rfl) fun a S => ?_
  refine sN S fun a S => ?_
  exact lT (⟨w64 (ab + 1), (Option.some.inj h).symm, (S.fix [] [3] (by decide) rfl rfl rfl)⟩)
 refine sCondT S rfl aa ?_
 refine sSeq (fun aX ay => sRegion (sN S fun a S => ?_))
 refine lT (ay _ _ ?_)
 obtain rfl := tS h
 obtain rfl := ac _ rfl
 have h := az
 try dsimp only at h
 obtain rfl := tS h
 have h := g9
 try dsimp only at h
 obtain rfl := tS h
 exact wp_ret (rBlock (rThen (rThen (rBlock (rThen (sRet (iv 8) S (rsl1 rfl (rvT (t := 2) (v := iv 8) S rfl)) ⟨(), rfl, S.mem.sel [] [] (by decide) rfl rfl⟩))))))
noncomputable def F_raddleref25_Uses (p0 : (List api_Stitch)) : Option (Int × Int) :=
 (F_raddleref25_All p0).bind fun r6 =>
 if r6 != 0 then
  some (0, r6)
 else
  (F_raddleref25_sums p0).bind fun a0 =>
  some (a0.1, 0)
theorem c_raddleref25_Uses (E : Nat → Prop) (w0 : World) (p0 : (List api_Stitch)) (v0 : Value) (r : (Int × Int)) (h : F_raddleref25_Uses p0 = some r) (S : St0 E [] w0 w0 [] [fRep (rL r_api_Stitch) (v0) p0]) :
 Calls Try.prog 75 #[v0] w0 (Ret (X := Unit) E [] w0 (fun _ => .tuple #[.int .i64 r.1, .int .i64 r.2]) (fun _ => []) (fun _ => [])) := by
 unfold F_raddleref25_Uses at h
 obtain ⟨a4, a5, _, rfl, _⟩ := S.know (i := 0) (e := fRep (rL r_api_Stitch) (v0) p0) rfl
 refine sEnter (args := [.slice a4 p0.length a5]) 17 Try.func75 rfl rfl (by simp) S (fun a S => ?_)
 refine sSeq (fun K3 ab => sRegion (sN S fun a S => ?_))
 refine sN S fun a S => ?_
 refine lT (ab _ _ (sSeq (fun K4 ac => sSeq (fun K5 ae => sRegion (sM S fun a S => ?_)))))
 obtain ⟨r6, aa, h⟩ := bS h
 have S1 := S.mem
 refine sCq [.slice a4 p0.length a5] (iv r6) S callee38 (S1.quiet [0] rfl) (fun E1 w1 S1 => c_raddleref25_All E1 w1 p0 (.slice a4 p0.length a5) r6 aa S1) fun a w S => ?_
 refine sBin _ S (wN rfl) rfl rfl rfl (bNe _ _ _ _ .i64 r6 0) rfl (lb rfl) fun a S => ?_
 refine lT (ae _ _ ?_)
 rcases iS h with ⟨a6, h⟩ | ⟨a6, h⟩
 ·refine sCondT S rfl a6 ?_
  refine sSeq (fun K9 af => sRegion (sM S fun a S => ?_))
  have S1 := S.mem
  refine sCq [.slice a4 p0.length a5] (iv r6) S callee38 (S1.quiet [0] rfl) (fun E1 w1 S1 => c_raddleref25_All E1 w1 p0 (.slice a4 p0.length a5) r6 aa S1) fun a w S => ?_
  refine sN S fun a S => ?_
  refine sN S fun a S => ?_
  refine lT (af _ _ ?_)
  obtain rfl := tS h
  exact wp_ret (rThen (sRet (.tuple #[iv 0, iv r6]) S (rsl2 rfl (rvT (t := 2) (v := iv 0) S rfl) (rvT (t := 3) (v := iv r6) S rfl)) ⟨(), rfl, S.mem.sel [] [] (by decide) rfl rfl⟩))
 refine sCondF S rfl a6 ?_
 refine wp_skip (leafT (ac _ _ ?_))
 refine sSeq (fun ag a7 => sRegion (sM S fun a S => ?_))
 obtain ⟨a0, a8, h⟩ := bS h
 have S1 := S.mem
 refine sCq [.slice a4 p0.length a5] (.tuple #[iv a0.1, iv a0.2]) S callee74 (S1.quiet [0] rfl) (fun E1 w1 S1 => c_raddleref25_sums E1 w1 p0 (.slice a4 p0.length a5) a0 a8 S1) fun a w S => ?_
 refine sM S fun a S => ?_
 refine sExtract (vs := [iv a0.1, iv a0.2]) (iv a0.1) S (wN rfl) rfl rfl rfl rfl (lb rfl) fun a S => ?_
 refine sExtract (vs := [iv a0.1, iv a0.2]) (iv a0.2) S (wN rfl) rfl rfl rfl rfl (lb rfl) fun a S => ?_
 refine sN S fun a S => ?_
 refine sN S fun a S => ?_
 refine lT (a7 _ _ (sSeq (fun ah a9 => sRegion (sM S fun a S => ?_))))
 refine sN S fun a S => ?_
 refine sN S fun a S => ?_
 refine lT (a9 _ _ ?_)
 obtain rfl := tS h
 exact wp_ret (sRet (.tuple #[iv a0.1, iv 0]) S (rsl2 rfl (rvT (t := 2) (v := iv a0.1) S rfl) (rvT (t := 3) (v := iv 0) S rfl)) ⟨(), rfl, S.mem.sel [] [] (by decide) rfl rfl⟩)
noncomputable def F_raddleref25_Makes (p0 : (List api_Stitch)) : Option (Int × Int) :=
 (F_raddleref25_All p0).bind fun r6 =>
 if r6 != 0 then
  some (0, r6)
 else
  (F_raddleref25_sums p0).bind fun a0 =>
  some (a0.2, 0)
theorem c_raddleref25_Makes (E : Nat → Prop) (w0 : World) (p0 : (List api_Stitch)) (v0 : Value) (r : (Int × Int)) (h : F_raddleref25_Makes p0 = some r) (S : St0 E [] w0 w0 [] [fRep (rL r_api_Stitch) (v0) p0]) :
 Calls Try.prog 76 #[v0] w0 (Ret (X := Unit) E [] w0 (fun _ => .tuple #[.int .i64 r.1, .int .i64 r.2]) (fun _ => []) (fun _ => [])) := by
 unfold F_raddleref25_Makes at h
 obtain ⟨a4, a5, _, rfl, _⟩ := S.know (i := 0) (e := fRep (rL r_api_Stitch) (v0) p0) rfl
 refine sEnter (args := [.slice a4 p0.length a5]) 17 Try.func76 rfl rfl (by simp) S (fun a S => ?_)
 refine sSeq (fun K3 ab => sRegion (sN S fun a S => ?_))
 refine sN S fun a S => ?_
 refine lT (ab _ _ (sSeq (fun K4 ac => sSeq (fun K5 ae => sRegion (sM S fun a S => ?_)))))
 obtain ⟨r6, aa, h⟩ := bS h
 have S1 := S.mem
 refine sCq [.slice a4 p0.length a5] (iv r6) S callee38 (S1.quiet [0] rfl) (fun E1 w1 S1 => c_raddleref25_All E1 w1 p0 (.slice a4 p0.length a5) r6 aa S1) fun a w S => ?_
 refine sBin _ S (wN rfl) rfl rfl rfl (bNe _ _ _ _ .i64 r6 0) rfl (lb rfl) fun a S => ?_
 refine lT (ae _ _ ?_)
 rcases iS h with ⟨a6, h⟩ | ⟨a6, h⟩
 ·refine sCondT S rfl a6 ?_
  refine sSeq (fun K9 af => sRegion (sM S fun a S => ?_))
  have S1 := S.mem
  refine sCq [.slice a4 p0.length a5] (iv r6) S callee38 (S1.quiet [0] rfl) (fun E1 w1 S1 => c_raddleref25_All E1 w1 p0 (.slice a4 p0.length a5) r6 aa S1) fun a w S => ?_
  refine sN S fun a S => ?_
  refine sN S fun a S => ?_
  refine lT (af _ _ ?_)
  obtain rfl := tS h
  exact wp_ret (rThen (sRet (.tuple #[iv 0, iv r6]) S (rsl2 rfl (rvT (t := 2) (v := iv 0) S rfl) (rvT (t := 3) (v := iv r6) S rfl)) ⟨(), rfl, S.mem.sel [] [] (by decide) rfl rfl⟩))
 refine sCondF S rfl a6 ?_
 refine wp_skip (leafT (ac _ _ ?_))
 refine sSeq (fun ag a7 => sRegion (sM S fun a S => ?_))
 obtain ⟨a0, a8, h⟩ := bS h
 have S1 := S.mem
 refine sCq [.slice a4 p0.length a5] (.tuple #[iv a0.1, iv a0.2]) S callee74 (S1.quiet [0] rfl) (fun E1 w1 S1 => c_raddleref25_sums E1 w1 p0 (.slice a4 p0.length a5) a0 a8 S1) fun a w S => ?_
 refine sM S fun a S => ?_
 refine sExtract (vs := [iv a0.1, iv a0.2]) (iv a0.1) S (wN rfl) rfl rfl rfl rfl (lb rfl) fun a S => ?_
 refine sExtract (vs := [iv a0.1, iv a0.2]) (iv a0.2) S (wN rfl) rfl rfl rfl rfl (lb rfl) fun a S => ?_
 refine sN S fun a S => ?_
 refine sN S fun a S => ?_
 refine lT (a7 _ _ (sSeq (fun ah a9 => sRegion (sM S fun a S => ?_))))
 refine sN S fun a S => ?_
 refine sN S fun a S => ?_
 refine lT (a9 _ _ ?_)
 obtain rfl := tS h
 exact wp_ret (sRet (.tuple #[iv a0.2, iv 0]) S (rsl2 rfl (rvT (t := 2) (v := iv a0.2) S rfl) (rvT (t := 3) (v := iv 0) S rfl)) ⟨(), rfl, S.mem.sel [] [] (by decide) rfl rfl⟩)
noncomputable def raddleref26_Check_l1 (p0 : api_Chart) : (Int × Int) → Option ((Int × Int) ⊕ (Int ⊕ Unit)) := fun s0 => match s0 with
 | (a6, a0) =>
  if decide (a0 < (p0.Rows.length : Int)) then
   (idxO p0.Rows a0).bind fun a5 =>
   (F_raddleref25_Uses a5.Cells).bind fun a4 =>
   if a4.2 != 0 then
    some (.inr (.inl a4.2))
   else
    if a4.1 != a6 then
     some (.inr (.inl 26))
    else
     (F_raddleref25_Makes a5.Cells).bind fun a7 =>
     some (.inl (a7.1, w64 (a0 + 1)))
  else
   some (.inr (.inr ()))
noncomputable def F_raddleref26_Check (p0 : api_Chart) : Option Int :=
 if decide (100 < (p0.Rows.length : Int)) then
  some 4
 else
  Option.bind (α := Bool) (
   if decide (p0.Start < 0) then
    some true
   else
    some (decide (200 < p0.Start))) fun a0 =>
  if a0 then
   some 8
  else
   Option.bind (α := Unit ⊕ Int) (
    (whileO (raddleref26_Check_l1 p0) (p0.Start, 0)).bind fun z0 => match z0 with
     | .inl z =>
      some (.inr z)
     | .inr _ =>
      some (.inl ())) fun z0 => match z0 with
    | .inl _ =>
     some 0
    | .inr z =>
     some z
theorem c_raddleref26_Check (E : Nat → Prop) (w0 : World) (p0 : api_Chart) (v0 : Value) (r : Int) (h : F_raddleref26_Check p0 = some r) (S : St0 E [] w0 w0 [] [fRep r_api_Chart (v0) p0]) :
 Calls Try.prog 39 #[v0] w0 (Ret (X := Unit) E [] w0 (fun _ => .int .i64 r) (fun _ => []) (fun _ => [])) := by
 unfold F_raddleref26_Check at h
 obtain ⟨u1, rfl, aV⟩ := S.know (i := 0) (e := fRep r_api_Chart (v0) p0) rfl
 have S := S.learn (fRep (rL r_api_Row) u1 p0.Rows) aV
 obtain ⟨a5, a6, _, rfl, _⟩ := aV
 refine sEnter (args := [.agg #[iv p0.Start, .slice a5 p0.Rows.length a6]]) 54 Try.func39 rfl rfl (by simp) S (fun a S => ?_)
 refine sSeq (fun K5 bb => sRegion (sBox (v := .agg #[iv p0.Start, .slice a5 p0.Rows.length a6]) S (wN rfl) rfl rfl [iv p0.Start, .slice a5 p0.Rows.length a6] rfl rfl (lb rfl) fun a b6 w S => ?_))
 refine sN S fun a S => ?_
 refine lT (bb _ _ (sSeq (fun K7 bc => sSeq (fun K8 bf => sRegion (sField (b := b6) (off := 0) 1 1 S (wN rfl) rfl rfl rfl rfl rfl (lb rfl) fun a S => ?_)))))
 refine sLoad1 0 (.slice a5 p0.Rows.length a6) S (wN rfl) rfl rfl rfl rfl rfl rfl (lb rfl) fun a S => ?_
 refine sLen S (wN rfl) rfl Try.underlying40 rfl rfl (lb rfl) fun a S => ?_
 refine sBin _ S (wN rfl) rfl rfl rfl (bGt _ _ _ _ .i64 (p0.Rows.length : Int) 100) rfl (lb rfl) fun a S => ?_
 refine lT (bf _ _ ?_)
 rcases iS h with ⟨am, h⟩ | ⟨am, h⟩
 ·refine sCondT S rfl am ?_
  refine sSeq (fun bl ao => sRegion (sN S fun a S => ?_))
  refine lT (ao _ _ ?_)
  obtain rfl := tS h
  exact wp_ret (rThen (sRet (iv 4) S (rsl1 rfl (rvT (t := 2) (v := iv 4) S rfl)) ⟨(), rfl, S.mem.sel [] [] (by decide) rfl rfl⟩))
 refine sCondF S rfl am ?_
 refine wp_skip (leafT (bc _ _ ?_))
 refine sSeq (fun bm ap => ?_)
 obtain ⟨bg, h, bh⟩ := bS h
 refine sCut (fun a w => ∃ aq, aq = bg ∧ St [] E [] w0 54 a w [(1, .pointer (some ⟨b6, 0, none⟩)), (18, .bool aq)] [eBox b6 42 [iv p0.Start, .slice a5 p0.Rows.length a6]] [fRep (rL r_api_Row) (.slice a5 p0.Rows.length a6) p0.Rows]) ?_ (fun a w hI => ?_)
 ·refine sRegion (sField (b := b6) (off := 0) 0 0 S (wN rfl) rfl rfl rfl rfl rfl (lb rfl) fun a S => ?_)
  refine sLoad1 0 (iv p0.Start) S (wN rfl) rfl rfl rfl rfl rfl rfl (lb rfl) fun a S => ?_
  refine sBin _ S (wN rfl) rfl rfl rfl (bLt _ _ _ _ .i64 p0.Start 0) rfl (lb rfl) fun a S => ?_
  refine sM S fun a S => ?_
  rcases iS h with ⟨a0, h⟩ | ⟨a0, h⟩
  ·refine sSkN 3 3 false 14 S rfl rfl a0 rfl fun a S => ?_
   refine sPickT (.bool true) S (wN rfl) rfl rfl a0 rfl rfl (lb rfl) fun a S => ?_
   exact lT (⟨true, Option.some.inj h, S.fix [0] [0] (by decide) rfl rfl rfl⟩)
  refine sField (b := b6) (off := 0) 0 0 S (wG 3 false 14 rfl rfl rfl a0) rfl rfl rfl rfl rfl (lb rfl) fun a S => ?_
  refine sLoad1 0 (iv p0.Start) S (wG 3 false 14 rfl rfl rfl a0) rfl rfl rfl rfl rfl rfl (lb rfl) fun a S => ?_
  refine sBin _ S (wG 3 false 14 rfl rfl rfl a0) rfl rfl rfl (bGt _ _ _ _ .i64 p0.Start 200) rfl (lb rfl) fun a S => ?_
  refine sPickF (.bool (decide (200 < p0.Start))) S (wN rfl) rfl rfl a0 rfl rfl (lb rfl) fun a S => ?_
  exact lT (⟨decide (200 < p0.Start), Option.some.inj h, S.fix [0] [0] (by decide) rfl rfl rfl⟩)
 obtain ⟨aq, rfl, S⟩ := hI
 have h := bh
 try dsimp only at h
 rcases iS h with ⟨a9, h⟩ | ⟨a9, h⟩
 ·refine sCondT S rfl a9 ?_
  refine sSeq (fun bn ar => sRegion (sN S fun a S => ?_))
  refine lT (ar _ _ ?_)
  obtain rfl := tS h
  exact wp_ret (rThen (sRet (iv 8) S (rsl1 rfl (rvT (t := 2) (v := iv 8) S rfl)) ⟨(), rfl, S.mem.sel [] [] (by decide) rfl rfl⟩))
 refine sCondF S rfl a9 ?_
 refine wp_skip (leafT (ap _ _ ?_))
 refine sSeq (fun bp au => sRegion (sField (b := b6) (off := 0) 0 0 S (wN rfl) rfl rfl rfl rfl rfl (lb rfl) fun a S => ?_))
 refine sLoad1 0 (iv p0.Start) S (wN rfl) rfl rfl rfl rfl rfl rfl (lb rfl) fun a S => ?_
 refine sN S fun a S => ?_
 refine lT (au _ _ ?_)
 obtain ⟨bi, h, av⟩ := bS h
 refine sCut (fun a w => .inl () = bi ∧ St [] E [] w0 54 a w [] [] []) ?_ (fun a w hI => ?_)
 rotate_left
 ·obtain ⟨rfl, S⟩ := hI
  have h := av
  try dsimp only at h
  refine sSeq (fun bq aw => sRegion (sN S fun a S => ?_))
  refine lT (aw _ _ ?_)
  obtain rfl := tS h
  exact wp_ret (sRet (iv 0) S (rsl1 rfl (rvT (t := 2) (v := iv 0) S rfl)) ⟨(), rfl, S.mem.sel [] [] (by decide) rfl rfl⟩)
 refine sSeq (fun br ax => sRegion (sN S fun a S => ?_))
 refine lT (ax _ _ (wp_block ?_))
 obtain ⟨bt, hl, ay⟩ := bS h
 refine sLoop hl (fun s0 a w => match s0 with | (az, aa) => St [] E [] w0 54 a w [(1, .pointer (some ⟨b6, 0, none⟩)), (3, iv az), (4, iv aa)] [eBox b6 42 [iv p0.Start, .slice a5 p0.Rows.length a6]] [fRep (rL r_api_Row) (.slice a5 p0.Rows.length a6) p0.Rows]) (S.fix [0] [0] (by decide) rfl rfl rfl) ?_
 clear hl h
 intro s0 a w c0 hI h ab
 obtain ⟨az, aa⟩ := s0
 unfold raddleref26_Check_l1 at h
 dsimp only at h hI
 have S := hI
 refine sSeq (fun bu aA => sSeq (fun bv aC => sRegion (sM S fun a S => ?_)))
 refine sField (b := b6) (off := 0) 1 1 S (wN rfl) rfl rfl rfl rfl rfl (lb rfl) fun a S => ?_
 refine sLoad1 0 (.slice a5 p0.Rows.length a6) S (wN rfl) rfl rfl rfl rfl rfl rfl (lb rfl) fun a S => ?_
 refine sLen S (wN rfl) rfl Try.underlying40 rfl rfl (lb rfl) fun a S => ?_
 refine sBin _ S (wN rfl) rfl rfl rfl (bLt _ _ _ _ .i64 aa (p0.Rows.length : Int)) rfl (lb rfl) fun a S => ?_
 refine lT (aC _ _ ?_)
 rcases iS h with ⟨ac, h⟩ | ⟨ac, h⟩
 rotate_left
 ·refine sCondF S rfl ac ?_
  obtain rfl := tS h
  obtain rfl := ab _ rfl
  have h := ay
  try dsimp only at h
  exact wp_exit (xThen (xThen (xHit (leafT (⟨Option.some.inj h, S.fix [] [] (by decide) rfl rfl rfl⟩)))))
 refine sCondT S rfl ac ?_
 refine wp_skip (leafT (aA _ _ ?_))
 refine sSeq (fun bw aG => wp_block ?_)
 refine sSeq (fun bx aH => sRegion (sField (b := b6) (off := 0) 1 1 S (wN rfl) rfl rfl rfl rfl rfl (lb rfl) fun a S => ?_))
 refine sLoad1 0 (.slice a5 p0.Rows.length a6) S (wN rfl) rfl rfl rfl rfl rfl rfl (lb rfl) fun a S => ?_
 refine sM S fun a S => ?_
 obtain ⟨a4, ak, h⟩ := bS h
 obtain ⟨aW, aI, S⟩ := pIdx (P := Try.prog) (r := r_api_Row) (v := .slice a5 p0.Rows.length a6) (xs := p0.Rows) (j := aa) 40 87 0 S Try.underlying40 rfl rfl ak
 refine sIdxV S (wN rfl) rfl rfl rfl aI rfl (lb rfl) fun a S => ?_
 obtain ⟨aX, aJ, S⟩ := pFld (P := Try.prog) (r := r_api_Row) (s2 := (rL r_api_Stitch)) (g := (·.Cells)) (q := aW) (z := a4) 87 1 0 1 S rfl rfl comp_api_Row_Cells
 refine sFldV (q := aW) S (wN rfl) rfl rfl aJ rfl (lb rfl) fun a S => ?_
 obtain ⟨bj, S⟩ := pLoad (r := (rL r_api_Stitch)) (q := aX) (x := a4.Cells) 0 S rfl
 obtain ⟨ae, af, _, rfl, _⟩ := S.mem.know (i := 1) (e := fRep (rL r_api_Stitch) (bj) a4.Cells) rfl
 refine sLoadV1 (vq := aX) 0 (.slice ae a4.Cells.length af) S (wN rfl) rfl rfl rfl rfl rfl (lb rfl) fun a S => ?_
 obtain ⟨a7, aK, h⟩ := bS h
 have S1 := S.mem
 refine sCq [.slice ae a4.Cells.length af] (.tuple #[iv a7.1, iv a7.2]) S callee75 (S1.quiet [1] rfl) (fun E1 w1 S1 => c_raddleref25_Uses E1 w1 a4.Cells (.slice ae a4.Cells.length af) a7 aK S1) fun a w S => ?_
 refine sM S fun a S => ?_
 refine sExtract (vs := [iv a7.1, iv a7.2]) (iv a7.1) S (wN rfl) rfl rfl rfl rfl (lb rfl) fun a S => ?_
 refine sExtract (vs := [iv a7.1, iv a7.2]) (iv a7.2) S (wN rfl) rfl rfl rfl rfl (lb rfl) fun a S => ?_
 refine sN S fun a S => ?_
 refine sN S fun a S => ?_
 refine lT (aH _ _ (sSeq (fun bz aL => sSeq (fun bA aM => sRegion (sM S fun a S => ?_)))))
 refine sBin _ S (wN rfl) rfl rfl rfl (bNe _ _ _ _ .i64 a7.2 0) rfl (lb rfl) fun a S => ?_
 refine lT (aM _ _ ?_)
 rcases iS h with ⟨ag, h⟩ | ⟨ag, h⟩
 ·refine sCondT S rfl ag ?_
  refine sSeq (fun bB aO => sRegion (sM S fun a S => ?_))
  refine sN S fun a S => ?_
  refine lT (aO _ _ ?_)
  obtain rfl := tS h
  obtain rfl := ab _ rfl
  have h := ay
  try dsimp only at h
  obtain rfl := tS h
  have h := av
  try dsimp only at h
  obtain rfl := tS h
  exact wp_ret (rThen (rBlock (rThen (rThen (rBlock (rThen (sRet (iv a7.2) S (rsl1 rfl (rvT (t := 2) (v := iv a7.2) S rfl)) ⟨(), rfl, S.mem.sel [] [] (by decide) rfl rfl⟩)))))))
 refine sCondF S rfl ag ?_
 refine wp_skip (leafT (aL _ _ ?_))
 refine sSeq (fun bC aP => sSeq (fun bD aQ => sRegion (sM S fun a S => ?_)))
 refine sM S fun a S => ?_
 refine sBin _ S (wN rfl) rfl rfl rfl (bNe _ _ _ _ .i64 a7.1 az) rfl (lb rfl) fun a S => ?_
 refine lT (aQ _ _ ?_)
 rcases iS h with ⟨ah, h⟩ | ⟨ah, h⟩
 ·refine sCondT S rfl ah ?_
  refine sSeq (fun bE aR => sRegion (sN S fun a S => ?_))
  refine lT (aR _ _ ?_)
  obtain rfl := tS h
  obtain rfl := ab _ rfl
  have h := ay
  try dsimp only at h
  obtain rfl := tS h
  have h := av
  try dsimp only at h
  obtain rfl := tS h
  exact wp_ret (rThen (rBlock (rThen (rThen (rBlock (rThen (sRet (iv 26) S (rsl1 rfl (rvT (t := 2) (v := iv 26) S rfl)) ⟨(), rfl, S.mem.sel [] [] (by decide) rfl rfl⟩)))))))
 refine sCondF S rfl ah ?_
 refine wp_skip (leafT (aP _ _ ?_))
 refine sRegion (sField (b := b6) (off := 0) 1 1 S (wN rfl) rfl rfl rfl rfl rfl (lb rfl) fun a S => ?_)
 refine sLoad1 0 (.slice a5 p0.Rows.length a6) S (wN rfl) rfl rfl rfl rfl rfl rfl (lb rfl) fun a S => ?_
 refine sM S fun a S => ?_
 obtain ⟨aZ, aS, S⟩ := pIdx (P := Try.prog) (r := r_api_Row) (v := .slice a5 p0.Rows.length a6) (xs := p0.Rows) (j := aa) 40 87 4 S Try.underlying40 rfl rfl ak
 refine sIdxV S (wN rfl) rfl rfl rfl aS rfl (lb rfl) fun a S => ?_
 obtain ⟨ba, aT, S⟩ := pFld (P := Try.prog) (r := r_api_Row) (s2 := (rL r_api_Stitch)) (g := (·.Cells)) (q := aZ) (z := a4) 87 1 0 1 S rfl rfl comp_api_Row_Cells
 refine sFldV (q := aZ) S (wN rfl) rfl rfl aT rfl (lb rfl) fun a S => ?_
 obtain ⟨bk, S⟩ := pLoad (r := (rL r_api_Stitch)) (q := ba) (x := a4.Cells) 0 S rfl
 obtain ⟨ai, aj, _, rfl, _⟩ := S.mem.know (i := 1) (e := fRep (rL r_api_Stitch) (bk) a4.Cells) rfl
 refine sLoadV1 (vq := ba) 0 (.slice ai a4.Cells.length aj) S (wN rfl) rfl rfl rfl rfl rfl (lb rfl) fun a S => ?_
 obtain ⟨a8, aU, h⟩ := bS h
 have S1 := S.mem
 refine sCq [.slice ai a4.Cells.length aj] (.tuple #[iv a8.1, iv a8.2]) S callee76 (S1.quiet [1] rfl) (fun E1 w1 S1 => c_raddleref25_Makes E1 w1 a4.Cells (.slice ai a4.Cells.length aj) a8 aU S1) fun a w S => ?_
 refine sM S fun a S => ?_
 refine sExtract (vs := [iv a8.1, iv a8.2]) (iv a8.1) S (wN rfl) rfl rfl rfl rfl (lb rfl) fun a S => ?_
 refine sExtract (vs := [iv a8.1, iv a8.2]) (iv a8.2) S (wN rfl) rfl rfl rfl rfl (lb rfl) fun a S => ?_
 refine sN S fun a S => ?_
 refine leafL (leafB (leafT (aG _ _ ?_)))
 refine sRegion (sM S fun a S => ?_)
 refine sBin _ S (wN rfl) rfl rfl rfl (bAdd _ _ _ _ aa 1) rfl (lb rfl) fun a S => ?_
 refine sN S fun a S => ?_
 exact lT (⟨(a8.1, w64 (aa + 1)), (Option.some.inj h).symm, (S.fix [0] [8] (by decide) rfl rfl rfl)⟩)
noncomputable def F_raddleref01_Zero_s0 (p0 : Int) (p1 : Int) : Option api_Grid :=
 (makeO (w64 (p0 * p1)) false).bind fun m6 =>
 some (api_Grid.mk p0 p1 m6)
theorem c_raddleref01_Zero_s0 (E : Nat → Prop) (w0 : World) (p0 : Int) (p1 : Int) (r : api_Grid) (h : F_raddleref01_Zero_s0 p0 p1 = some r) (S : St0 E [] w0 w0 [] []) :
 Calls Try.prog 66 #[iv p0, iv p1] w0 (Ret (X := Option Addr × Nat) E [] w0 (fun x => .agg #[iv r.W, iv r.H, .slice x.1 r.Bits.length x.2]) (fun x => [eRow rB 4 (.slice x.1 r.Bits.length x.2) r.Bits]) (fun _ => [])) := by
 unfold F_raddleref01_Zero_s0 at h
 refine sEnter (args := [iv p0, iv p1]) 12 Try.func66 rfl rfl (by simp) S (fun a S => ?_)
 refine sSeq (fun K1 a5 => sRegion (sAlloc (.agg #[iv 0, iv 0, .slice none 0 0]) S (wN rfl) rfl rfl [iv 0, iv 0, .slice none 0 0] rfl rfl (lb rfl) fun a b2 w S => ?_))
 refine lT (a5 _ _ (sSeq (fun K3 a6 => sRegion (sM S fun a S => ?_))))
 refine sM S fun a S => ?_
 refine sM S fun a S => ?_
 refine sM S fun a S => ?_
 refine sBin _ S (wN rfl) rfl rfl rfl (bMul _ _ _ _ p0 p1) rfl (lb rfl) fun a S => ?_
 obtain ⟨m6, a7, h⟩ := bS h
 refine sMake (r := rB) (m := w64 (p0 * p1)) (xs := m6) (.bool false) false 1 S (wN rfl) rfl Try.underlying22 rfl rfl (by decide) (fun _ _ => rfl) rfl rfl a7 rfl (lb rfl) fun a w a0 a4 S => ?_
 refine sBuild [(0, iv p0), (1, iv p1), (2, .slice a0 m6.length a4)] [iv p0, iv p1, .slice a0 m6.length a4] S (wN rfl) rfl rfl rfl rfl (lb rfl) fun a S => ?_
 refine sStore (p := b2) (off := 0) (T := 24) (vs := [iv 0, iv 0, .slice none 0 0]) (v := .agg #[iv p0, iv p1, .slice a0 m6.length a4]) 1 [iv p0, iv p1, .slice a0 m6.length a4] S (wN rfl) rfl rfl rfl rfl rfl rfl rfl (by simp) rfl fun a w S => ?_
 refine lT (a6 _ _ ?_)
 obtain rfl := tS h
 exact wp_ret (sRet (.agg #[iv p0, iv p1, .slice a0 m6.length a4]) S (rsl1 rfl (rvN (c := 4) (t := 24) (T := 24) (p := b2) 0 [iv p0, iv p1, .slice a0 m6.length a4] S rfl rfl rfl rfl)) ⟨(a0, a4), rfl, S.mem.sel [1] [] (by decide) rfl rfl⟩)
noncomputable def F_raddleref01_Set_s0 (p0 : Int) (p1 : Int) (p2 : (List Bool)) (p3 : Int) (p4 : Int) (p5 : Bool) : Option (List Bool) :=
 (idxO p2 (w64 ((w64 (p4 * p0)) + p3))).bind fun x3 =>
 (setO p2 (w64 ((w64 (p4 * p0)) + p3)) p5).bind fun l8 =>
 (keepO p2 l8).bind fun _ =>
 some l8
theorem c_raddleref01_Set_s0 (E : Nat → Prop) (w0 : World) (p0 : Int) (p1 : Int) (p2 : (List Bool)) (ad_2 : Option Addr) (cp_2 : Nat) (p3 : Int) (p4 : Int) (p5 : Bool) (r : (List Bool)) (h : F_raddleref01_Set_s0 p0 p1 p2 p3 p4 p5 = some r) (S : St0 E (keysL [eRow rB 4 (.slice ad_2 p2.length cp_2) p2]) w0 w0 [eRow rB 4 (.slice ad_2 p2.length cp_2) p2] []) :
 Calls Try.prog 67 #[.agg #[iv p0, iv p1, .slice ad_2 p2.length cp_2], iv p3, iv p4, .bool p5] w0 (Ret (X := Unit) E (keysL [eRow rB 4 (.slice ad_2 p2.length cp_2) p2]) w0 (fun _ => .tuple #[]) (fun _ => [eRow rB 4 (.slice ad_2 p2.length cp_2) r]) (fun _ => [])) := by
 unfold F_raddleref01_Set_s0 at h
 refine sEnter (args := [.agg #[iv p0, iv p1, .slice ad_2 p2.length cp_2], iv p3, iv p4, .bool p5]) 18 Try.func67 rfl rfl (by simp) S (fun a S => ?_)
 refine sSeq (fun K1 a5 => sRegion (sBox (v := .agg #[iv p0, iv p1, .slice ad_2 p2.length cp_2]) S (wN rfl) rfl rfl [iv p0, iv p1, .slice ad_2 p2.length cp_2] rfl rfl (lb rfl) fun a b2 w S => ?_))
 refine lT (a5 _ _ (sRegion (sField (b := b2) (off := 0) 2 2 S (wN rfl) rfl rfl rfl rfl rfl (lb rfl) fun a S => ?_)))
 refine sLoad1 0 (.slice ad_2 p2.length cp_2) S (wN rfl) rfl rfl rfl rfl rfl rfl (lb rfl) fun a S => ?_
 refine sM S fun a S => ?_
 refine sField (b := b2) (off := 0) 0 0 S (wN rfl) rfl rfl rfl rfl rfl (lb rfl) fun a S => ?_
 refine sLoad1 0 (iv p0) S (wN rfl) rfl rfl rfl rfl rfl rfl (lb rfl) fun a S => ?_
 refine sBin _ S (wN rfl) rfl rfl rfl (bMul _ _ _ _ p4 p0) rfl (lb rfl) fun a S => ?_
 refine sM S fun a S => ?_
 refine sBin _ S (wN rfl) rfl rfl rfl (bAdd _ _ _ _ (w64 (p4 * p0)) p3) rfl (lb rfl) fun a S => ?_
 refine sM S fun a S => ?_
 obtain ⟨x3, a6, h⟩ := bS h
 obtain ⟨q5, a7, a8⟩ := pIdxR (P := Try.prog) (r := rB) (T := 4) (v := .slice ad_2 p2.length cp_2) (xs := p2) (j := w64 ((w64 (p4 * p0)) + p3)) 22 4 1 S Try.underlying22 rfl rfl a6
 refine sIdxV S (wN rfl) rfl rfl rfl a7 rfl (lb rfl) fun a S => ?_
 obtain ⟨l8, a4, h⟩ := bS h
 refine sStoreR (r := rB) (T := 4) (xs := p2) (ys := l8) (y := p5) (v := .slice ad_2 p2.length cp_2) (vq := q5) (u := .bool p5) (j := w64 ((w64 (p4 * p0)) + p3)) 1 S a8 (wN rfl) rfl rfl rfl rfl rfl a4 rfl rfl fun a w S => ?_
 rw [setO_v a4 ad_2 cp_2] at S
 obtain ⟨_, a0, h⟩ := bS h
 rw [keepO_v a0 ad_2 cp_2] at S
 obtain rfl := tS h
 exact leafL (sEnd (.tuple #[]) S (rsl0 rfl ) ⟨(), rfl, S.mem.sel [0] [] (by decide) rfl rfl⟩)
def anc_raddleref01_Parse_0 : List (List Nat) := [[], [], [1], [0, 1, 2], [], [4], [4, 5], [], [], [8], [7, 8, 9], [4, 5, 6, 7, 8, 9, 10], [0, 1, 2, 3], [0, 1, 2, 3, 4, 5, 6, 7, 8, 9, 10, 11, 12]]
noncomputable def raddleref01_Parse_l1 (p0 : ByteArray) : Int → Option (Int ⊕ Int) := fun s0 => match s0 with
 | s7 =>
  Option.bind (α := Bool) (
   if decide (s7 < (p0.size : Int)) then
    (idxS p0 s7).bind fun a0 =>
    some (a0 != 10)
   else
    some false) fun a4 =>
  if a4 then
   some (.inl (w64 (s7 + 1)))
  else
   some (.inr s7)
noncomputable def raddleref01_Parse_l2 (p0 : ByteArray) (o4 : Int) (a5 : api_Grid) : (Int × List Bool) → Option ((Int × List Bool) ⊕ ((api_Grid × Int) ⊕ (List Bool))) := fun s0 => match s0 with
 | (a0, a6) =>
  if decide (a0 < (p0.size : Int)) then
   Option.bind (α := List Bool ⊕ (api_Grid × Int)) (
    (remI a0 (w64 (o4 + 1))).bind fun a7 =>
    (quoI a0 (w64 (o4 + 1))).bind fun a8 =>
    Option.bind (α := Bool) (
     (idxS p0 a0).bind fun a4 =>
     if (a4 == 10) != (a7 == o4) then
      some true
     else
      if a4 != 10 then
       if a4 != 120 then
        some (a4 != 46)
       else
        some false
      else
       some false) fun a9 =>
    if a9 then
     some (.inr ((api_Grid.mk 0 0 ([] : (List Bool))), 12))
    else
     (idxS p0 a0).bind fun aa =>
     if aa == 120 then
      (F_raddleref01_Set_s0 a5.W a5.H a6 a7 (w64 ((w64 (a5.H - 1)) - a8)) true).bind fun ab =>
      some (.inl ab)
     else
      some (.inl a6)) fun z0 => match z0 with
    | .inl ac =>
     some (.inl (w64 (a0 + 1), ac))
    | .inr z =>
     some (.inr (.inl z))
  else
   some (.inr (.inr a6))
noncomputable def F_raddleref01_Parse (p0 : ByteArray) : Option (api_Grid × Int) :=
 Option.bind (α := Int) (
  (whileO (raddleref01_Parse_l1 p0) 0).bind fun a4 =>
   some a4) fun o4 =>
 Option.bind (α := Bool) (
  if decide (o4 < 1) then
   some true
  else
   if decide (64 < o4) then
    some true
   else
    (remI (p0.size : Int) (w64 (o4 + 1))).bind fun a5 =>
    if a5 != 0 then
     some true
    else
     (quoI (p0.size : Int) (w64 (o4 + 1))).bind fun a6 =>
     some (decide (64 < a6))) fun a7 =>
 if a7 then
  some ((api_Grid.mk 0 0 ([] : (List Bool))), 12)
 else
  (quoI (p0.size : Int) (w64 (o4 + 1))).bind fun a8 =>
  (F_raddleref01_Zero_s0 o4 a8).bind fun a0 =>
  Option.bind (α := List Bool ⊕ (api_Grid × Int)) (
   (whileO (raddleref01_Parse_l2 p0 o4 a0) (0, a0.Bits)).bind fun z0 => match z0 with
    | .inl z =>
     some (.inr z)
    | .inr a9 =>
     some (.inl a9)) fun z0 => match z0 with
   | .inl aa =>
    some ((api_Grid.mk a0.W a0.H aa), 0)
   | .inr z =>
    some z
def c_raddleref01_Parse_val (r : (api_Grid × Int)) (x : Value) : Value := .tuple #[x, .int .i64 r.2]
def c_raddleref01_Parse_D (r : (api_Grid × Int)) (x : Value) : List Fact := [fRep r_api_Grid x r.1]
theorem c_raddleref01_Parse (E : Nat → Prop) (w0 : World) (p0 : ByteArray) (r : (api_Grid × Int)) (h : F_raddleref01_Parse p0 = some r) (S : St0 E [] w0 w0 [] []) :
 Calls Try.prog 77 #[.string p0] w0 (Ret (X := Value) E [] w0 (c_raddleref01_Parse_val r) (fun _ => []) (c_raddleref01_Parse_D r)) := by
 unfold F_raddleref01_Parse at h
 refine sEnter (args := [.string p0]) 105 Try.func77 rfl rfl (by simp) S (fun a S => ?_)
 refine sSeq (fun K1 bm => sRegion (sAlloc (.agg #[iv 0, iv 0, .slice none 0 0]) S (wN rfl) rfl rfl [iv 0, iv 0, .slice none 0 0] rfl rfl (lb rfl) fun a b2 w S => ?_))
 refine sN S fun a S => ?_
 refine lT (bm _ _ (sSeq (fun K3 bn => sRegion (sN S fun a S => ?_))))
 refine lT (bn _ _ ?_)
 obtain ⟨t5, h, g6⟩ := bS h
 refine sCut (fun a w => ∃ o4, o4 = t5 ∧ St [] E [] w0 105 a w [(0, .string p0), (2, .pointer (some ⟨b2, 0, none⟩)), (4, iv o4)] [eBox b2 24 [iv 0, iv 0, .slice none 0 0]] []) ?_ (fun a w hI => ?_)
 ·refine wp_block ?_
  obtain ⟨bB, hl, g9⟩ := bS h
  refine sLoop hl (fun s0 a w => match s0 with | s7 => St [] E [] w0 105 a w [(0, .string p0), (2, .pointer (some ⟨b2, 0, none⟩)), (4, iv s7)] [eBox b2 24 [iv 0, iv 0, .slice none 0 0]] []) (S.fix [0] [] (by decide) rfl rfl rfl) ?_
  clear hl h
  intro s7 a w c0 hI h bp
  unfold raddleref01_Parse_l1 at h
  dsimp only at h hI
  have S := hI
  refine sSeq (fun bC ay => ?_)
  obtain ⟨bq, h, br⟩ := bS h
  refine sCut (fun a w => ∃ az, az = bq ∧ St [] E [] w0 105 a w [(0, .string p0), (2, .pointer (some ⟨b2, 0, none⟩)), (4, iv s7), (18, .bool az)] [eBox b2 24 [iv 0, iv 0, .slice none 0 0]] []) ?_ (fun a w hI => ?_)
  rotate_left
  ·obtain ⟨az, rfl, S⟩ := hI
   have h := br
   try dsimp only at h
   rcases iS h with ⟨ao, h⟩ | ⟨ao, h⟩
   rotate_left
   ·refine sCondF S rfl ao ?_
    obtain rfl := tS h
    obtain rfl := bp _ rfl
    have h := g9
    try dsimp only at h
    exact wp_exit (xThen (xThen (xHit (leafT (⟨s7, Option.some.inj h, S.fix [0] [] (by decide) rfl rfl rfl⟩)))))
   refine sCondT S rfl ao ?_
   refine wp_skip (leafT (ay _ _ ?_))
   refine wp_block ?_
   refine sRegion (sM S fun a S => ?_)
   refine sBin _ S (wN rfl) rfl rfl rfl (bAdd _ _ _ _ s7 1) rfl (lb rfl) fun a S => ?_
   refine sN S fun a S => ?_
   exact leafL (leafB (leafT (⟨w64 (s7 + 1), (Option.some.inj h).symm, (S.fix [0] [] (by decide) rfl rfl rfl)⟩)))
  refine sRegion (sM S fun a S => ?_)
  refine sM S fun a S => ?_
  refine sLenS (v := p0) S (wN rfl) rfl Try.underlying9 rfl rfl (lb rfl) fun a S => ?_
  refine sBin _ S (wN rfl) rfl rfl rfl (bLt _ _ _ _ .i64 s7 (p0.size : Int)) rfl (lb rfl) fun a S => ?_
  refine sM S fun a S => ?_
  rcases iS h with ⟨ac, h⟩ | ⟨ac, h⟩
  rotate_left
  ·refine sSkN 4 4 true 13 S rfl rfl ac rfl fun a S => ?_
   refine sPickF (.bool false) S (wN rfl) rfl rfl ac rfl rfl (lb rfl) fun a S => ?_
   exact lT (⟨false, Option.some.inj h, S.fix [0] [] (by decide) rfl rfl rfl⟩)
  refine sMove (.string p0) S (wG 4 true 13 rfl rfl rfl ac) (.inl rfl) rfl rfl (lb rfl) fun a S => ?_
  refine sMove (iv s7) S (wG 4 true 13 rfl rfl rfl ac) (.inl rfl) rfl rfl (lb rfl) fun a S => ?_
  obtain ⟨aA, aC, h⟩ := bS h
  refine sIndexS (v := p0) (j := s7) (k := .i64) S (wG 4 true 13 rfl rfl rfl ac) rfl Try.underlying9 rfl rfl aC rfl (lb rfl) fun a S => ?_
  refine sBin _ S (wG 4 true 13 rfl rfl rfl ac) rfl rfl rfl (bNe _ _ _ _ .u8 aA 10) rfl (lb rfl) fun a S => ?_
  refine sPickT (.bool (aA != 10)) S (wN rfl) rfl rfl ac rfl rfl (lb rfl) fun a S => ?_
  exact lT (⟨aA != 10, Option.some.inj h, S.fix [0] [] (by decide) rfl rfl rfl⟩)
 obtain ⟨o4, rfl, S⟩ := hI
 have h := g6
 try dsimp only at h
 refine sSeq (fun bD aG => ?_)
 obtain ⟨bt, h, bu⟩ := bS h
 refine sCut (fun a w => ∃ aH, aH = bt ∧ St [] E [] w0 105 a w [(0, .string p0), (2, .pointer (some ⟨b2, 0, none⟩)), (4, iv o4), (42, .bool aH)] [eBox b2 24 [iv 0, iv 0, .slice none 0 0]] []) ?_ (fun a w hI => ?_)
 ·refine sRegion (sM S fun a S => ?_)
  refine sBin _ S (wN rfl) rfl rfl rfl (bLt _ _ _ _ .i64 o4 1) rfl (lb rfl) fun a S => ?_
  refine sM S fun a S => ?_
  rcases iS h with ⟨ah, h⟩ | ⟨ah, h⟩
  ·refine sSkN 2 2 false 23 S rfl rfl ah rfl fun a S => ?_
   refine sPickT (.bool true) S (wN rfl) rfl rfl ah rfl rfl (lb rfl) fun a S => ?_
   refine sM S fun a S => ?_
   refine sSkN 6 6 false 27 S rfl rfl rfl rfl fun a S => ?_
   refine sPickT (.bool true) S (wN rfl) rfl rfl rfl rfl rfl (lb rfl) fun a S => ?_
   refine sM S fun a S => ?_
   refine sSkN 6 14 false 35 S rfl rfl rfl rfl fun a S => ?_
   refine sPickT (.bool true) S (wN rfl) rfl rfl rfl rfl rfl (lb rfl) fun a S => ?_
   exact lT (⟨true, Option.some.inj h, S.fix [0] [] (by decide) rfl rfl rfl⟩)
  refine sMove (iv o4) S (wG 2 false 23 rfl rfl rfl ah) (.inl rfl) rfl rfl (lb rfl) fun a S => ?_
  refine sBin _ S (wG 2 false 23 rfl rfl rfl ah) rfl rfl rfl (bGt _ _ _ _ .i64 o4 64) rfl (lb rfl) fun a S => ?_
  refine sPickF (.bool (decide (64 < o4))) S (wN rfl) rfl rfl ah rfl rfl (lb rfl) fun a S => ?_
  refine sM S fun a S => ?_
  rcases iS h with ⟨a7, h⟩ | ⟨a7, h⟩
  ·refine sSkN 6 6 false 27 S rfl rfl a7 rfl fun a S => ?_
   refine sPickT (.bool true) S (wN rfl) rfl rfl a7 rfl rfl (lb rfl) fun a S => ?_
   refine sM S fun a S => ?_
   refine sSkN 6 14 false 35 S rfl rfl rfl rfl fun a S => ?_
   refine sPickT (.bool true) S (wN rfl) rfl rfl rfl rfl rfl (lb rfl) fun a S => ?_
   exact lT (⟨true, Option.some.inj h, S.fix [0] [] (by decide) rfl rfl rfl⟩)
  refine sMove (.string p0) S (wG 6 false 27 rfl rfl rfl a7) (.inl rfl) rfl rfl (lb rfl) fun a S => ?_
  refine sLenS (v := p0) S (wG 6 false 27 rfl rfl rfl a7) rfl Try.underlying9 rfl rfl (lb rfl) fun a S => ?_
  refine sMove (iv o4) S (wG 6 false 27 rfl rfl rfl a7) (.inl rfl) rfl rfl (lb rfl) fun a S => ?_
  refine sBin _ S (wG 6 false 27 rfl rfl rfl a7) rfl rfl rfl (bAdd _ _ _ _ o4 1) rfl (lb rfl) fun a S => ?_
  obtain ⟨bh, aI, h⟩ := bS h
  refine sBin _ S (wG 6 false 27 rfl rfl rfl a7) rfl rfl rfl (bRem _ _ _ _ (x := (p0.size : Int)) (y := w64 (o4 + 1)) aI) rfl (lb rfl) fun a S => ?_
  refine sBin _ S (wG 6 false 27 rfl rfl rfl a7) rfl rfl rfl (bNe _ _ _ _ .i64 bh 0) rfl (lb rfl) fun a S => ?_
  refine sPickF (.bool (bh != 0)) S (wN rfl) rfl rfl a7 rfl rfl (lb rfl) fun a S => ?_
  refine sM S fun a S => ?_
  rcases iS h with ⟨a8, h⟩ | ⟨a8, h⟩
  ·refine sSkN 6 14 false 35 S rfl rfl a8 rfl fun a S => ?_
   refine sPickT (.bool true) S (wN rfl) rfl rfl a8 rfl rfl (lb rfl) fun a S => ?_
   exact lT (⟨true, Option.some.inj h, S.fix [0] [] (by decide) rfl rfl rfl⟩)
  refine sMove (.string p0) S (wG 14 false 35 rfl rfl rfl a8) (.inl rfl) rfl rfl (lb rfl) fun a S => ?_
  refine sLenS (v := p0) S (wG 14 false 35 rfl rfl rfl a8) rfl Try.underlying9 rfl rfl (lb rfl) fun a S => ?_
  refine sMove (iv o4) S (wG 14 false 35 rfl rfl rfl a8) (.inl rfl) rfl rfl (lb rfl) fun a S => ?_
  refine sBin _ S (wG 14 false 35 rfl rfl rfl a8) rfl rfl rfl (bAdd _ _ _ _ o4 1) rfl (lb rfl) fun a S => ?_
  obtain ⟨aJ, aK, h⟩ := bS h
  refine sBin _ S (wG 14 false 35 rfl rfl rfl a8) rfl rfl rfl (bQuo _ _ _ _ (x := (p0.size : Int)) (y := w64 (o4 + 1)) aK) rfl (lb rfl) fun a S => ?_
  refine sBin _ S (wG 14 false 35 rfl rfl rfl a8) rfl rfl rfl (bGt _ _ _ _ .i64 aJ 64) rfl (lb rfl) fun a S => ?_
  refine sPickF (.bool (decide (64 < aJ))) S (wN rfl) rfl rfl a8 rfl rfl (lb rfl) fun a S => ?_
  exact lT (⟨decide (64 < aJ), Option.some.inj h, S.fix [0] [] (by decide) rfl rfl rfl⟩)
 obtain ⟨aH, rfl, S⟩ := hI
 have h := bu
 try dsimp only at h
 rcases iS h with ⟨ap, h⟩ | ⟨ap, h⟩
 ·refine sCondT S rfl ap ?_
  refine sSeq (fun bE aL => sRegion (sBuild [] [iv 0, iv 0, .slice none 0 0] S (wN rfl) rfl rfl rfl rfl (lb rfl) fun a S => ?_))
  refine sStore (p := b2) (off := 0) (T := 24) (vs := [iv 0, iv 0, .slice none 0 0]) (v := .agg #[iv 0, iv 0, .slice none 0 0]) 0 [iv 0, iv 0, .slice none 0 0] S (wN rfl) rfl rfl rfl rfl rfl rfl rfl (by simp) rfl fun a w S => ?_
  refine sN S fun a S => ?_
  refine lT (aL _ _ ?_)
  obtain rfl := tS h
  have S := S.learn (fRep (rL rB) (.slice none 0 0) ([] : (List Bool))) (rL_nil _ _ _)
  have S := S.learn (fRep r_api_Grid (.agg #[iv 0, iv 0, .slice none 0 0]) (api_Grid.mk 0 0 ([] : (List Bool)))) ⟨_, rfl, S.mem.know (i := 0) (e := fRep (rL rB) (.slice none 0 0) ([] : (List Bool))) rfl⟩
  exact wp_ret (rThen (sRet (.tuple #[.agg #[iv 0, iv 0, .slice none 0 0], iv 12]) S (rsl2 rfl (rvN (c := 2) (t := 24) (T := 24) (p := b2) 0 [iv 0, iv 0, .slice none 0 0] S rfl rfl rfl rfl) (rvT (t := 3) (v := iv 12) S rfl)) ⟨(.agg #[iv 0, iv 0, .slice none 0 0]), rfl, S.mem.sel [] [0] (by decide) rfl rfl⟩))
 refine sCondF S rfl ap ?_
 refine wp_skip (leafT (aG _ _ ?_))
 refine sSeq (fun bG aM => sRegion (sM S fun a S => ?_))
 refine sM S fun a S => ?_
 refine sLenS (v := p0) S (wN rfl) rfl Try.underlying9 rfl rfl (lb rfl) fun a S => ?_
 refine sM S fun a S => ?_
 refine sBin _ S (wN rfl) rfl rfl rfl (bAdd _ _ _ _ o4 1) rfl (lb rfl) fun a S => ?_
 obtain ⟨bi, aO, h⟩ := bS h
 refine sBin _ S (wN rfl) rfl rfl rfl (bQuo _ _ _ _ (x := (p0.size : Int)) (y := w64 (o4 + 1)) aO) rfl (lb rfl) fun a S => ?_
 obtain ⟨a0, aP, h⟩ := bS h
 refine sCall (X := Option Addr × Nat) (f := 66) (vs := [iv o4, iv bi]) (val := fun x => .agg #[iv a0.W, iv a0.H, .slice x.1 a0.Bits.length x.2]) (B' := fun x => [eRow rB 4 (.slice x.1 a0.Bits.length x.2) a0.Bits]) (D' := fun _ => []) [] [eBox b2 24 [iv 0, iv 0, .slice none 0 0]] [] [0] [] S (wN rfl) rfl callee66 rfl (by decide) rfl rfl (fun E1 w1 S1 => c_raddleref01_Zero_s0 E1 w1 o4 bi a0 aP S1) rfl (lb rfl) fun xx a w S => ?_
 obtain ⟨a4, a5⟩ := xx
 dsimp only at S
 refine sAlloc (.agg #[iv 0, iv 0, .slice none 0 0]) S (wN rfl) rfl rfl [iv 0, iv 0, .slice none 0 0] rfl rfl (lb rfl) fun a ag w S => ?_
 refine sStore (p := ag) (off := 0) (T := 24) (vs := [iv 0, iv 0, .slice none 0 0]) (v := .agg #[iv a0.W, iv a0.H, .slice a4 a0.Bits.length a5]) 0 [iv a0.W, iv a0.H, .slice a4 a0.Bits.length a5] S (wN rfl) rfl rfl rfl rfl rfl rfl rfl (by simp) rfl fun a w S => ?_
 refine lT (aM _ _ ?_)
 obtain ⟨bv, h, bj⟩ := bS h
 refine sCut (fun a w => ∃ aa, .inl aa = bv ∧ St [] E [] w0 105 a w [(2, .pointer (some ⟨b2, 0, none⟩)), (5, .pointer (some ⟨ag, 0, none⟩))] [eBox b2 24 [iv 0, iv 0, .slice none 0 0], eBox ag 24 [iv a0.W, iv a0.H, .slice a4 aa.length a5], eRow rB 4 (.slice a4 aa.length a5) aa] []) ?_ (fun a w hI => ?_)
 rotate_left
 ·obtain ⟨aa, rfl, S⟩ := hI
  have h := bj
  try dsimp only at h
  refine sSeq (fun bH aQ => sRegion (sLoadN (p := ag) (off := 0) (T := 24) (vs := [iv a0.W, iv a0.H, .slice a4 aa.length a5]) 1 [iv a0.W, iv a0.H, .slice a4 aa.length a5] S (wN rfl) rfl rfl rfl rfl rfl rfl rfl (lb rfl) fun a S => ?_))
  refine sStore (p := b2) (off := 0) (T := 24) (vs := [iv 0, iv 0, .slice none 0 0]) (v := .agg #[iv a0.W, iv a0.H, .slice a4 aa.length a5]) 0 [iv a0.W, iv a0.H, .slice a4 aa.length a5] S (wN rfl) rfl rfl rfl rfl rfl rfl rfl (by simp) rfl fun a w S => ?_
  refine sN S fun a S => ?_
  refine lT (aQ _ _ ?_)
  obtain rfl := tS h
  have S := S.shutR (r := rB) (T := 4) (v := .slice a4 aa.length a5) (xs := aa) 2 rfl
  have S := S.learn (fRep r_api_Grid (.agg #[iv a0.W, iv a0.H, .slice a4 aa.length a5]) (api_Grid.mk a0.W a0.H aa)) ⟨_, rfl, S.mem.know (i := 0) (e := fRep (rL rB) (.slice a4 aa.length a5) aa) rfl⟩
  exact wp_ret (sRet (.tuple #[.agg #[iv a0.W, iv a0.H, .slice a4 aa.length a5], iv 0]) S (rsl2 rfl (rvN (c := 2) (t := 24) (T := 24) (p := b2) 0 [iv a0.W, iv a0.H, .slice a4 aa.length a5] S rfl rfl rfl rfl) (rvT (t := 3) (v := iv 0) S rfl)) ⟨(.agg #[iv a0.W, iv a0.H, .slice a4 aa.length a5]), rfl, S.mem.sel [] [0] (by decide) rfl rfl⟩)
 refine sSeq (fun bI aR => sRegion (sN S fun a S => ?_))
 refine lT (aR _ _ (wp_block ?_))
 obtain ⟨bJ, hl, bk⟩ := bS h
 refine sLoop hl (fun s0 a w => match s0 with | (a9, ab) => St [] E [] w0 105 a w [(0, .string p0), (2, .pointer (some ⟨b2, 0, none⟩)), (4, iv o4), (5, .pointer (some ⟨ag, 0, none⟩)), (6, iv a9)] [eBox b2 24 [iv 0, iv 0, .slice none 0 0], eBox ag 24 [iv a0.W, iv a0.H, .slice a4 ab.length a5], eRow rB 4 (.slice a4 ab.length a5) ab] []) (S.fix [2, 0, 1] [] (by decide) rfl rfl rfl) ?_
 clear hl h
 intro s0 a w c0 hI h aw
 obtain ⟨a9, ab⟩ := s0
 unfold raddleref01_Parse_l2 at h
 dsimp only at h hI
 have S := hI
 refine sSeq (fun bK aS => sSeq (fun bL aT => sRegion (sM S fun a S => ?_)))
 refine sM S fun a S => ?_
 refine sLenS (v := p0) S (wN rfl) rfl Try.underlying9 rfl rfl (lb rfl) fun a S => ?_
 refine sBin _ S (wN rfl) rfl rfl rfl (bLt _ _ _ _ .i64 a9 (p0.size : Int)) rfl (lb rfl) fun a S => ?_
 refine lT (aT _ _ ?_)
 rcases iS h with ⟨aq, h⟩ | ⟨aq, h⟩
 rotate_left
 ·refine sCondF S rfl aq ?_
  obtain rfl := tS h
  obtain rfl := aw _ rfl
  have h := bk
  try dsimp only at h
  exact wp_exit (xThen (xThen (xHit (leafT (⟨ab, Option.some.inj h, S.fix [0, 1, 2] [] (by decide) rfl rfl rfl⟩)))))
 refine sCondT S rfl aq ?_
 refine wp_skip (leafT (aS _ _ ?_))
 obtain ⟨bw, h, bl⟩ := bS h
 refine sCut (fun a w => ∃ av, .inl av = bw ∧ St [] E [] w0 105 a w [(0, .string p0), (2, .pointer (some ⟨b2, 0, none⟩)), (4, iv o4), (5, .pointer (some ⟨ag, 0, none⟩)), (6, iv a9)] [eBox b2 24 [iv 0, iv 0, .slice none 0 0], eBox ag 24 [iv a0.W, iv a0.H, .slice a4 av.length a5], eRow rB 4 (.slice a4 av.length a5) av] []) ?_ (fun a w hI => ?_)
 rotate_left
 ·obtain ⟨av, rfl, S⟩ := hI
  have h := bl
  try dsimp only at h
  refine sRegion (sM S fun a S => ?_)
  refine sBin _ S (wN rfl) rfl rfl rfl (bAdd _ _ _ _ a9 1) rfl (lb rfl) fun a S => ?_
  refine sN S fun a S => ?_
  exact lT (⟨(w64 (a9 + 1), av), (Option.some.inj h).symm, (S.fix [0, 1, 2] [] (by decide) rfl rfl rfl)⟩)
 refine wp_block ?_
 refine sSeq (fun bM aU => ?_)
 obtain ⟨ak, aV, h⟩ := bS h
 obtain ⟨am, aW, h⟩ := bS h
 refine sDraw (nf := []) (W := [(0, 57, iv a9), (1, 58, iv o4), (2, 59, iv (w64 (o4 + 1))), (3, 60, iv ak), (4, 61, .pointer (some ⟨ag, 1, none⟩)), (5, 62, iv a0.H), (6, 63, iv (w64 (a0.H - 1))), (7, 64, iv a9), (8, 65, iv o4), (9, 66, iv (w64 (o4 + 1))), (10, 67, iv am), (11, 68, iv (w64 ((w64 (a0.H - 1)) - am))), (12, 7, iv ak), (13, 8, iv (w64 ((w64 (a0.H - 1)) - am)))]) rfl S ?_
 refine node_by (A := anc_raddleref01_Parse_0) 14 (by kernel_rfl) (by kernel_rfl) (by kernel_rfl) (by kernel_rfl) (by kernel_rfl) [0, 1, 2, 3, 4, 5, 6, 7, 8, 9, 10, 11, 12, 13] (by kernel_rfl) (by decide) (by decide) (fF ?_ (fF ?_ (fF ?_ (fF ?_ (fF ?_ (fF ?_ (fF ?_ (fF ?_ (fF ?_ (fF ?_ (fF ?_ (fF ?_ (fF ?_ (fF ?_ (trivial))))))))))))))) [(0, .string p0), (2, .pointer (some ⟨b2, 0, none⟩)), (4, iv o4), (5, .pointer (some ⟨ag, 0, none⟩)), (6, iv a9), (7, iv ak), (8, iv (w64 ((w64 (a0.H - 1)) - am)))] (fin_of [none, none, none, none, none, some 12, some 13] rfl (by kernel_rfl) (by kernel_rfl)) (fun _ a w S => ?_)
 ·exact fM 0 none rfl rfl rfl rfl (.inl rfl) rfl rfl rfl
 ·exact fM 1 none rfl rfl rfl rfl (.inl rfl) rfl rfl rfl
 ·refine fJ [(58, _)] 2 [some 1] fun G a w S => ?_
  exact sBin _ S (wN rfl) rfl rfl rfl (bAdd _ _ _ _ o4 1) rfl (lb rfl) fun a S => leafL ⟨rfl, S⟩
 ·refine fJ [(57, _), (59, _)] 3 [some 0, some 2] fun G a w S => ?_
  exact sBin _ S (wN rfl) rfl rfl rfl (bRem _ _ _ _ (x := a9) (y := w64 (o4 + 1)) aV) rfl (lb rfl) fun a S => leafL ⟨rfl, S⟩
 ·refine fJ [(5, _)] 4 [none] fun G a w S => ?_
  exact sField (b := ag) (off := 0) 1 1 S (wN rfl) rfl rfl rfl rfl rfl (lb rfl) fun a S => leafL ⟨rfl, S⟩
 ·refine fJ [(61, _)] 5 [some 4] fun G a w S => ?_
  exact sLoad1 1 (iv a0.H) S (wN rfl) rfl rfl rfl rfl rfl rfl (lb rfl) fun a S => leafL ⟨rfl, S⟩
 ·refine fJ [(62, _)] 6 [some 5] fun G a w S => ?_
  exact sBin _ S (wN rfl) rfl rfl rfl (bSub _ _ _ _ a0.H 1) rfl (lb rfl) fun a S => leafL ⟨rfl, S⟩
 ·exact fM 7 none rfl rfl rfl rfl (.inl rfl) rfl rfl rfl
 ·exact fM 8 none rfl rfl rfl rfl (.inl rfl) rfl rfl rfl
 ·refine fJ [(65, _)] 9 [some 8] fun G a w S => ?_
  exact sBin _ S (wN rfl) rfl rfl rfl (bAdd _ _ _ _ o4 1) rfl (lb rfl) fun a S => leafL ⟨rfl, S⟩
 ·refine fJ [(64, _), (66, _)] 10 [some 7, some 9] fun G a w S => ?_
  exact sBin _ S (wN rfl) rfl rfl rfl (bQuo _ _ _ _ (x := a9) (y := w64 (o4 + 1)) aW) rfl (lb rfl) fun a S => leafL ⟨rfl, S⟩
 ·refine fJ [(63, _), (67, _)] 11 [some 6, some 10] fun G a w S => ?_
  exact sBin _ S (wN rfl) rfl rfl rfl (bSub _ _ _ _ (w64 (a0.H - 1)) am) rfl (lb rfl) fun a S => leafL ⟨rfl, S⟩
 ·exact fM 12 (some 3) rfl rfl rfl rfl (.inr rfl) rfl rfl rfl
 ·exact fM 13 (some 11) rfl rfl rfl rfl (.inr rfl) rfl rfl rfl
 refine leafT (aU _ _ ?_)
 refine sSeq (fun bN aX => ?_)
 obtain ⟨bx, h, bz⟩ := bS h
 refine sCut (fun a w => ∃ aZ, aZ = bx ∧ St [] E [] w0 105 a w [(0, .string p0), (2, .pointer (some ⟨b2, 0, none⟩)), (4, iv o4), (5, .pointer (some ⟨ag, 0, none⟩)), (6, iv a9), (7, iv ak), (8, iv (w64 ((w64 (a0.H - 1)) - am))), (94, .bool aZ)] [eBox b2 24 [iv 0, iv 0, .slice none 0 0], eBox ag 24 [iv a0.W, iv a0.H, .slice a4 ab.length a5], eRow rB 4 (.slice a4 ab.length a5) ab] []) ?_ (fun a w hI => ?_)
 rotate_left
 ·obtain ⟨aZ, rfl, S⟩ := hI
  have h := bz
  try dsimp only at h
  rcases iS h with ⟨ar, h⟩ | ⟨ar, h⟩
  ·refine sCondT S rfl ar ?_
   refine sSeq (fun bO ba => sRegion (sBuild [] [iv 0, iv 0, .slice none 0 0] S (wN rfl) rfl rfl rfl rfl (lb rfl) fun a S => ?_))
   refine sStore (p := b2) (off := 0) (T := 24) (vs := [iv 0, iv 0, .slice none 0 0]) (v := .agg #[iv 0, iv 0, .slice none 0 0]) 0 [iv 0, iv 0, .slice none 0 0] S (wN rfl) rfl rfl rfl rfl rfl rfl rfl (by simp) rfl fun a w S => ?_
   refine sN S fun a S => ?_
   refine lT (ba _ _ ?_)
   obtain rfl := tS h
   have h := bl
   try dsimp only at h
   obtain rfl := tS h
   obtain rfl := aw _ rfl
   have h := bk
   try dsimp only at h
   obtain rfl := tS h
   have h := bj
   try dsimp only at h
   obtain rfl := tS h
   have S := S.learn (fRep (rL rB) (.slice none 0 0) ([] : (List Bool))) (rL_nil _ _ _)
   have S := S.learn (fRep r_api_Grid (.agg #[iv 0, iv 0, .slice none 0 0]) (api_Grid.mk 0 0 ([] : (List Bool)))) ⟨_, rfl, S.mem.know (i := 0) (e := fRep (rL rB) (.slice none 0 0) ([] : (List Bool))) rfl⟩
   exact wp_ret (rThen (rBlock (rThen (rThen (rBlock (rThen (sRet (.tuple #[.agg #[iv 0, iv 0, .slice none 0 0], iv 12]) S (rsl2 rfl (rvN (c := 2) (t := 24) (T := 24) (p := b2) 0 [iv 0, iv 0, .slice none 0 0] S rfl rfl rfl rfl) (rvT (t := 3) (v := iv 12) S rfl)) ⟨(.agg #[iv 0, iv 0, .slice none 0 0]), rfl, S.mem.sel [] [0] (by decide) rfl rfl⟩)))))))
  refine sCondF S rfl ar ?_
  refine wp_skip (leafT (aX _ _ ?_))
  refine sSeq (fun bP bb => sRegion (sM S fun a S => ?_))
  refine sM S fun a S => ?_
  obtain ⟨bA, bc, h⟩ := bS h
  refine sIndexS (v := p0) (j := a9) (k := .i64) S (wN rfl) rfl Try.underlying9 rfl rfl bc rfl (lb rfl) fun a S => ?_
  refine sBin _ S (wN rfl) rfl rfl rfl (bEq _ _ _ _ .u8 bA 120) rfl (lb rfl) fun a S => ?_
  refine lT (bb _ _ ?_)
  rcases iS h with ⟨au, h⟩ | ⟨au, h⟩
  rotate_left
  ·refine sCondF S rfl au ?_
   exact wp_skip (leafB (leafT (⟨ab, Option.some.inj h, S.fix [0, 1, 2] [] (by decide) rfl rfl rfl⟩)))
  refine sCondT S rfl au ?_
  refine sRegion (sLoadN (p := ag) (off := 0) (T := 24) (vs := [iv a0.W, iv a0.H, .slice a4 ab.length a5]) 1 [iv a0.W, iv a0.H, .slice a4 ab.length a5] S (wN rfl) rfl rfl rfl rfl rfl rfl rfl (lb rfl) fun a S => ?_)
  refine sM S fun a S => ?_
  refine sM S fun a S => ?_
  obtain ⟨ax, bf, h⟩ := bS h
  refine sCall (X := Unit) (f := 67) (vs := [.agg #[iv a0.W, iv a0.H, .slice a4 ab.length a5], iv ak, iv (w64 ((w64 (a0.H - 1)) - am)), .bool true]) (val := fun _ => .tuple #[]) (B' := fun _ => [eRow rB 4 (.slice a4 ab.length a5) ax]) (D' := fun _ => []) [eRow rB 4 (.slice a4 ab.length a5) ab] [eBox b2 24 [iv 0, iv 0, .slice none 0 0], eBox ag 24 [iv a0.W, iv a0.H, .slice a4 ab.length a5]] [] [2, 0, 1] [] S (wN rfl) rfl callee67 rfl (by decide) rfl rfl (fun E1 w1 S1 => c_raddleref01_Set_s0 E1 w1 a0.W a0.H ab a4 a5 ak (w64 ((w64 (a0.H - 1)) - am)) true ax bf S1) rfl (lb rfl) fun _ a w S => ?_
  have bg := row_v (S.mem.hold (i := 0) (e := eRow rB 4 (.slice a4 ab.length a5) ax) rfl)
  rw [bg] at S
  exact leafL (leafB (leafT (⟨ax, Option.some.inj h, S.fix [1, 2, 0] [] (by decide) rfl rfl rfl⟩)))
 refine sRegion (sM S fun a S => ?_)
 refine sM S fun a S => ?_
 obtain ⟨ai, aj, h⟩ := bS h
 refine sIndexS (v := p0) (j := a9) (k := .i64) S (wN rfl) rfl Try.underlying9 rfl rfl aj rfl (lb rfl) fun a S => ?_
 refine sBin _ S (wN rfl) rfl rfl rfl (bEq _ _ _ _ .u8 ai 10) rfl (lb rfl) fun a S => ?_
 refine sM S fun a S => ?_
 refine sM S fun a S => ?_
 refine sBin _ S (wN rfl) rfl rfl rfl (bEq _ _ _ _ .i64 ak o4) rfl (lb rfl) fun a S => ?_
 refine sBin _ S (wN rfl) rfl rfl rfl (bNeB _ _ _ _ Try.underlying4 (ai == 10) (ak == o4)) rfl (lb rfl) fun a S => ?_
 refine sM S fun a S => ?_
 rcases iS h with ⟨a6, h⟩ | ⟨a6, h⟩
 ·refine sSkN 5 8 false 77 S rfl rfl a6 rfl fun a S => ?_
  refine sSkipU 13 true 82 83 S rfl rfl rfl rfl (lb rfl) fun a S => ?_
  refine sSkipU 13 true 82 84 S rfl rfl rfl rfl (lb rfl) fun a S => ?_
  refine sSkipU 13 true 82 85 S rfl rfl rfl rfl (lb rfl) fun a S => ?_
  refine sSkipU 13 true 82 86 S rfl rfl rfl rfl (lb rfl) fun a S => ?_
  refine sSkN 2 8 false 77 S rfl rfl a6 rfl fun a S => ?_
  refine sSkipU 19 true 88 89 S rfl rfl rfl rfl (lb rfl) fun a S => ?_
  refine sSkipU 19 true 88 90 S rfl rfl rfl rfl (lb rfl) fun a S => ?_
  refine sSkipU 19 true 88 91 S rfl rfl rfl rfl (lb rfl) fun a S => ?_
  refine sSkipU 19 true 88 92 S rfl rfl rfl rfl (lb rfl) fun a S => ?_
  refine sSk S rfl rfl rfl a6 rfl rfl fun a S => ?_
  refine sPickT (.bool true) S (wN rfl) rfl rfl a6 rfl rfl (lb rfl) fun a S => ?_
  exact lT (⟨true, Option.some.inj h, S.fix [0, 1, 2] [] (by decide) rfl rfl rfl⟩)
 refine sMove (.string p0) S (wG 8 false 77 rfl rfl rfl a6) (.inl rfl) rfl rfl (lb rfl) fun a S => ?_
 refine sMove (iv a9) S (wG 8 false 77 rfl rfl rfl a6) (.inl rfl) rfl rfl (lb rfl) fun a S => ?_
 refine sIndexS (v := p0) (j := a9) (k := .i64) S (wG 8 false 77 rfl rfl rfl a6) rfl Try.underlying9 rfl rfl aj rfl (lb rfl) fun a S => ?_
 refine sBin _ S (wG 8 false 77 rfl rfl rfl a6) rfl rfl rfl (bNe _ _ _ _ .u8 ai 10) rfl (lb rfl) fun a S => ?_
 refine sMove (.bool (ai != 10)) S (wG 8 false 77 rfl rfl rfl a6) (.inl rfl) rfl rfl (lb rfl) fun a S => ?_
 rcases iS h with ⟨ae, h⟩ | ⟨ae, h⟩
 rotate_left
 ·refine sSkN 4 13 true 82 S rfl rfl ae rfl fun a S => ?_
  refine sPickF (.bool false) S (wG 8 false 77 rfl rfl rfl a6) rfl rfl ae rfl rfl (lb rfl) fun a S => ?_
  refine sMove (.bool false) S (wG 8 false 77 rfl rfl rfl a6) (.inl rfl) rfl rfl (lb rfl) fun a S => ?_
  refine sSkN 4 19 true 88 S rfl rfl rfl rfl fun a S => ?_
  refine sPickF (.bool false) S (wG 8 false 77 rfl rfl rfl a6) rfl rfl rfl rfl rfl (lb rfl) fun a S => ?_
  refine sPickF (.bool false) S (wN rfl) rfl rfl a6 rfl rfl (lb rfl) fun a S => ?_
  exact lT (⟨false, Option.some.inj h, S.fix [0, 1, 2] [] (by decide) rfl rfl rfl⟩)
 refine sMove (.string p0) S (wG 13 true 82 rfl rfl rfl ae) (.inl rfl) rfl rfl (lb rfl) fun a S => ?_
 refine sMove (iv a9) S (wG 13 true 82 rfl rfl rfl ae) (.inl rfl) rfl rfl (lb rfl) fun a S => ?_
 refine sIndexS (v := p0) (j := a9) (k := .i64) S (wG 13 true 82 rfl rfl rfl ae) rfl Try.underlying9 rfl rfl aj rfl (lb rfl) fun a S => ?_
 refine sBin _ S (wG 13 true 82 rfl rfl rfl ae) rfl rfl rfl (bNe _ _ _ _ .u8 ai 120) rfl (lb rfl) fun a S => ?_
 refine sPickT (.bool (ai != 120)) S (wG 8 false 77 rfl rfl rfl a6) rfl rfl ae rfl rfl (lb rfl) fun a S => ?_
 refine sMove (.bool (ai != 120)) S (wG 8 false 77 rfl rfl rfl a6) (.inl rfl) rfl rfl (lb rfl) fun a S => ?_
 rcases iS h with ⟨af, h⟩ | ⟨af, h⟩
 rotate_left
 ·refine sSkN 4 19 true 88 S rfl rfl af rfl fun a S => ?_
  refine sPickF (.bool false) S (wG 8 false 77 rfl rfl rfl a6) rfl rfl af rfl rfl (lb rfl) fun a S => ?_
  refine sPickF (.bool false) S (wN rfl) rfl rfl a6 rfl rfl (lb rfl) fun a S => ?_
  exact lT (⟨false, Option.some.inj h, S.fix [0, 1, 2] [] (by decide) rfl rfl rfl⟩)
 refine sMove (.string p0) S (wG 19 true 88 rfl rfl rfl af) (.inl rfl) rfl rfl (lb rfl) fun a S => ?_
 refine sMove (iv a9) S (wG 19 true 88 rfl rfl rfl af) (.inl rfl) rfl rfl (lb rfl) fun a S => ?_
 refine sIndexS (v := p0) (j := a9) (k := .i64) S (wG 19 true 88 rfl rfl rfl af) rfl Try.underlying9 rfl rfl aj rfl (lb rfl) fun a S => ?_
 refine sBin _ S (wG 19 true 88 rfl rfl rfl af) rfl rfl rfl (bNe _ _ _ _ .u8 ai 46) rfl (lb rfl) fun a S => ?_
 refine sPickT (.bool (ai != 46)) S (wG 8 false 77 rfl rfl rfl a6) rfl rfl af rfl rfl (lb rfl) fun a S => ?_
 refine sPickF (.bool (ai != 46)) S (wN rfl) rfl rfl a6 rfl rfl (lb rfl) fun a S => ?_
 exact lT (⟨ai != 46, Option.some.inj h, S.fix [0, 1, 2] [] (by decide) rfl rfl rfl⟩)
noncomputable def F_raddlelaw46_cloth (p0 : ByteArray) : Option api_Grid :=
 (F_raddleref01_Parse p0).bind fun r4 =>
 some r4.1
def c_raddlelaw46_cloth_val (r : api_Grid) (x : Value) : Value := x
def c_raddlelaw46_cloth_D (r : api_Grid) (x : Value) : List Fact := [fRep r_api_Grid x r]
theorem c_raddlelaw46_cloth (E : Nat → Prop) (w0 : World) (p0 : ByteArray) (r : api_Grid) (h : F_raddlelaw46_cloth p0 = some r) (S : St0 E [] w0 w0 [] []) :
 Calls Try.prog 41 #[.string p0] w0 (Ret (X := Value) E [] w0 (c_raddlelaw46_cloth_val r) (fun _ => []) (c_raddlelaw46_cloth_D r)) := by
 unfold F_raddlelaw46_cloth at h
 refine sEnter (args := [.string p0]) 11 Try.func41 rfl rfl (by simp) S (fun a S => ?_)
 refine sSeq (fun K1 a8 => sRegion (sAlloc (.agg #[iv 0, iv 0, .slice none 0 0]) S (wN rfl) rfl rfl [iv 0, iv 0, .slice none 0 0] rfl rfl (lb rfl) fun a b2 w S => ?_))
 refine lT (a8 _ _ (sSeq (fun K3 a9 => sRegion (sM S fun a S => ?_))))
 obtain ⟨r4, aa, h⟩ := bS h
 refine sCall (X := Value) (f := 77) (vs := [.string p0]) (val := c_raddleref01_Parse_val r4) (B' := fun _ => []) (D' := c_raddleref01_Parse_D r4) [] [eBox b2 24 [iv 0, iv 0, .slice none 0 0]] [] [0] [] S (wN rfl) rfl callee77 rfl (by decide) rfl rfl (fun E1 w1 S1 => c_raddleref01_Parse E1 w1 p0 r4 aa S1) rfl (lb rfl) fun u6 a w S => ?_
 obtain ⟨u7, rfl, a6⟩ := S.mem.know (i := 0) (e := fRep r_api_Grid (u6) r4.1) rfl
 have S := S.learn (fRep (rL rB) u7 r4.1.Bits) a6
 obtain ⟨a4, a0, _, rfl, _⟩ := a6
 refine sM S fun a S => ?_
 refine sExtract (vs := [.agg #[iv r4.1.W, iv r4.1.H, .slice a4 r4.1.Bits.length a0], iv r4.2]) (.agg #[iv r4.1.W, iv r4.1.H, .slice a4 r4.1.Bits.length a0]) S (wN rfl) rfl rfl rfl rfl (lb rfl) fun a S => ?_
 refine sExtract (vs := [.agg #[iv r4.1.W, iv r4.1.H, .slice a4 r4.1.Bits.length a0], iv r4.2]) (iv r4.2) S (wN rfl) rfl rfl rfl rfl (lb rfl) fun a S => ?_
 refine sAlloc (.agg #[iv 0, iv 0, .slice none 0 0]) S (wN rfl) rfl rfl [iv 0, iv 0, .slice none 0 0] rfl rfl (lb rfl) fun a a7 w S => ?_
 refine sStore (p := a7) (off := 0) (T := 24) (vs := [iv 0, iv 0, .slice none 0 0]) (v := .agg #[iv r4.1.W, iv r4.1.H, .slice a4 r4.1.Bits.length a0]) 0 [iv r4.1.W, iv r4.1.H, .slice a4 r4.1.Bits.length a0] S (wN rfl) rfl rfl rfl rfl rfl rfl rfl (by simp) rfl fun a w S => ?_
 refine sN S fun a S => ?_
 refine lT (a9 _ _ (sSeq (fun ab a5 => sRegion (sLoadN (p := a7) (off := 0) (T := 24) (vs := [iv r4.1.W, iv r4.1.H, .slice a4 r4.1.Bits.length a0]) 0 [iv r4.1.W, iv r4.1.H, .slice a4 r4.1.Bits.length a0] S (wN rfl) rfl rfl rfl rfl rfl rfl rfl (lb rfl) fun a S => ?_))))
 refine sStore (p := b2) (off := 0) (T := 24) (vs := [iv 0, iv 0, .slice none 0 0]) (v := .agg #[iv r4.1.W, iv r4.1.H, .slice a4 r4.1.Bits.length a0]) 1 [iv r4.1.W, iv r4.1.H, .slice a4 r4.1.Bits.length a0] S (wN rfl) rfl rfl rfl rfl rfl rfl rfl (by simp) rfl fun a w S => ?_
 refine lT (a5 _ _ ?_)
 obtain rfl := tS h
 exact wp_ret (sRet (.agg #[iv r4.1.W, iv r4.1.H, .slice a4 r4.1.Bits.length a0]) S (rsl1 rfl (rvN (c := 2) (t := 24) (T := 24) (p := b2) 0 [iv r4.1.W, iv r4.1.H, .slice a4 r4.1.Bits.length a0] S rfl rfl rfl rfl)) ⟨(.agg #[iv r4.1.W, iv r4.1.H, .slice a4 r4.1.Bits.length a0]), rfl, S.mem.sel [] [1] (by decide) rfl rfl⟩)
noncomputable def raddleref25_Cut_l1 (p0 : ByteArray) (p1 : Int) : (List ByteArray × Int × Int) → Option ((List ByteArray × Int × Int) ⊕ List ByteArray) := fun s0 => match s0 with
 | (a4, a5, a0) =>
  if decide (a0 ≤ (p0.size : Int)) then
   Option.bind (α := (List ByteArray × Int)) (
    Option.bind (α := Bool) (
     if a0 == (p0.size : Int) then
      some true
     else
      (idxS p0 a0).bind fun a6 =>
      some (a6 == p1)) fun a7 =>
    if a7 then
     (sliceS p0 a5 a0).bind fun a8 =>
     (appO a4 [a8]).bind fun a9 =>
     some (a9, w64 (a0 + 1))
    else
     some (a4, a5)) fun (aa, ab) =>
   some (.inl (aa, ab, w64 (a0 + 1)))
  else
   some (.inr a4)
noncomputable def F_raddleref25_Cut (p0 : ByteArray) (p1 : Int) : Option (List ByteArray) :=
 Option.bind (α := List ByteArray) (
  (whileO (raddleref25_Cut_l1 p0 p1) (([] : List ByteArray), 0, 0)).bind fun a0 =>
   some a0) fun o4 =>
 some o4
def c_raddleref25_Cut_val (r : (List ByteArray)) (x : Value) : Value := x
def c_raddleref25_Cut_D (r : (List ByteArray)) (x : Value) : List Fact := [fRep (rL rS) x r]
theorem c_raddleref25_Cut (E : Nat → Prop) (w0 : World) (p0 : ByteArray) (p1 : Int) (r : (List ByteArray)) (h : F_raddleref25_Cut p0 p1 = some r) (S : St0 E [] w0 w0 [] []) :
 Calls Try.prog 94 #[.string p0, .int .u8 p1] w0 (Ret (X := Value) E [] w0 (c_raddleref25_Cut_val r) (fun _ => []) (c_raddleref25_Cut_D r)) := by
 unfold F_raddleref25_Cut at h
 refine sEnter (args := [.string p0, .int .u8 p1]) 35 Try.func94 rfl rfl (by simp) S (fun a S => ?_)
 refine sSeq (fun K1 aC => sRegion (sN S fun a S => ?_))
 refine lT (aC _ _ (sSeq (fun K2 aG => sRegion (sN S fun a S => ?_))))
 refine lT (aG _ _ (sSeq (fun K3 aH => sRegion (sN S fun a S => ?_))))
 refine lT (aH _ _ ?_)
 obtain ⟨t7, h, g8⟩ := bS h
 refine sCut (fun a w => ∃ o4, o4 = t7 ∧ ∃ aa, ∃ ab, St [] E [] w0 35 a w [(5, .slice aa o4.length ab)] [eRow rS 9 (.slice aa o4.length ab) o4] []) ?_ (fun a w hI => ?_)
 rotate_left
 ·obtain ⟨o4, rfl, aa, ab, S⟩ := hI
  have h := g8
  try dsimp only at h
  refine sSeq (fun aQ aj => sRegion (sM S fun a S => ?_))
  refine sN S fun a S => ?_
  refine lT (aj _ _ ?_)
  obtain rfl := tS h
  have S := S.shutR (r := rS) (T := 9) (v := .slice aa o4.length ab) (xs := o4) 0 rfl
  exact wp_ret (sRet (.slice aa o4.length ab) S (rsl1 rfl (rvT (t := 4) (v := .slice aa o4.length ab) S rfl)) ⟨(.slice aa o4.length ab), rfl, S.mem.sel [] [0] (by decide) rfl rfl⟩)
 refine sSeq (fun K9 aI => sRegion (sN S fun a S => ?_))
 refine lT (aI _ _ (wp_block ?_))
 have S := S.nilRow rS 9 (α := ByteArray)
 obtain ⟨aR, hl, aJ⟩ := bS h
 refine sLoop hl (fun s0 a w => match s0 with | (a7, ag, a6) => ∃ a4, ∃ a5, St [] E [] w0 35 a w [(0, .string p0), (1, .int .u8 p1), (5, .slice a4 a7.length a5), (6, iv ag), (7, iv a6)] [eRow rS 9 (.slice a4 a7.length a5) a7] []) ⟨none, 0, S.fix [0] [] (by decide) rfl rfl rfl⟩ ?_
 clear hl h
 intro s0 a w c0 hI h ak
 obtain ⟨a7, ag, a6⟩ := s0
 unfold raddleref25_Cut_l1 at h
 dsimp only at h hI
 obtain ⟨a4, a5, S⟩ := hI
 refine sSeq (fun aS am => sSeq (fun aT ao => sRegion (sM S fun a S => ?_)))
 refine sM S fun a S => ?_
 refine sLenS (v := p0) S (wN rfl) rfl Try.underlying9 rfl rfl (lb rfl) fun a S => ?_
 refine sBin _ S (wN rfl) rfl rfl rfl (bLe _ _ _ _ .i64 a6 (p0.size : Int)) rfl (lb rfl) fun a S => ?_
 refine lT (ao _ _ ?_)
 rcases iS h with ⟨ac, h⟩ | ⟨ac, h⟩
 rotate_left
 ·refine sCondF S rfl ac ?_
  obtain rfl := tS h
  obtain rfl := ak _ rfl
  have h := aJ
  try dsimp only at h
  exact wp_exit (xThen (xThen (xHit (leafT (⟨a7, Option.some.inj h, a4, a5, S.fix [0] [] (by decide) rfl rfl rfl⟩)))))
 refine sCondT S rfl ac ?_
 refine wp_skip (leafT (am _ _ ?_))
 obtain ⟨aK, h, aL⟩ := bS h
 refine sCut (fun a w => ∃ ah, ∃ ai, (ah, ai) = aK ∧ ∃ a8, ∃ a9, St [] E [] w0 35 a w [(0, .string p0), (1, .int .u8 p1), (5, .slice a8 ah.length a9), (6, iv ai), (7, iv a6)] [eRow rS 9 (.slice a8 ah.length a9) ah] []) ?_ (fun a w hI => ?_)
 rotate_left
 ·obtain ⟨ah, ai, rfl, a8, a9, S⟩ := hI
  have h := aL
  try dsimp only at h
  refine sRegion (sM S fun a S => ?_)
  refine sBin _ S (wN rfl) rfl rfl rfl (bAdd _ _ _ _ a6 1) rfl (lb rfl) fun a S => ?_
  refine sN S fun a S => ?_
  exact lT (⟨(ah, ai, w64 (a6 + 1)), (Option.some.inj h).symm, ⟨a8, a9, S.fix [0] [] (by decide) rfl rfl rfl⟩⟩)
 refine wp_block ?_
 obtain ⟨aM, h, aO⟩ := bS h
 refine sCut (fun a w => ∃ ap, ap = aM ∧ St [] E [] w0 35 a w [(0, .string p0), (1, .int .u8 p1), (5, .slice a4 a7.length a5), (6, iv ag), (7, iv a6), (24, .bool ap)] [eRow rS 9 (.slice a4 a7.length a5) a7] []) ?_ (fun a w hI => ?_)
 ·refine sRegion (sM S fun a S => ?_)
  refine sM S fun a S => ?_
  refine sLenS (v := p0) S (wN rfl) rfl Try.underlying9 rfl rfl (lb rfl) fun a S => ?_
  refine sBin _ S (wN rfl) rfl rfl rfl (bEq _ _ _ _ .i64 a6 (p0.size : Int)) rfl (lb rfl) fun a S => ?_
  refine sM S fun a S => ?_
  rcases iS h with ⟨a0, h⟩ | ⟨a0, h⟩
  ·refine sSkN 5 4 false 18 S rfl rfl a0 rfl fun a S => ?_
   refine sPickT (.bool true) S (wN rfl) rfl rfl a0 rfl rfl (lb rfl) fun a S => ?_
   exact lT (⟨true, Option.some.inj h, S.fix [0] [] (by decide) rfl rfl rfl⟩)
  refine sMove (.string p0) S (wG 4 false 18 rfl rfl rfl a0) (.inl rfl) rfl rfl (lb rfl) fun a S => ?_
  refine sMove (iv a6) S (wG 4 false 18 rfl rfl rfl a0) (.inl rfl) rfl rfl (lb rfl) fun a S => ?_
  obtain ⟨aq, ar, h⟩ := bS h
  refine sIndexS (v := p0) (j := a6) (k := .i64) S (wG 4 false 18 rfl rfl rfl a0) rfl Try.underlying9 rfl rfl ar rfl (lb rfl) fun a S => ?_
  refine sMove (.int .u8 p1) S (wG 4 false 18 rfl rfl rfl a0) (.inl rfl) rfl rfl (lb rfl) fun a S => ?_
  refine sBin _ S (wG 4 false 18 rfl rfl rfl a0) rfl rfl rfl (bEq _ _ _ _ .u8 aq p1) rfl (lb rfl) fun a S => ?_
  refine sPickF (.bool (aq == p1)) S (wN rfl) rfl rfl a0 rfl rfl (lb rfl) fun a S => ?_
  exact lT (⟨aq == p1, Option.some.inj h, S.fix [0] [] (by decide) rfl rfl rfl⟩)
 obtain ⟨ap, rfl, S⟩ := hI
 have h := aO
 try dsimp only at h
 rcases iS h with ⟨ae, h⟩ | ⟨ae, h⟩
 rotate_left
 ·refine sCondF S rfl ae ?_
  exact wp_skip (leafB (leafT (⟨a7, ag, Option.some.inj h, a4, a5, S.fix [0] [] (by decide) rfl rfl rfl⟩)))
 refine sCondT S rfl ae ?_
 refine sSeq (fun aU au => sRegion (sM S fun a S => ?_))
 refine sM S fun a S => ?_
 refine sM S fun a S => ?_
 refine sM S fun a S => ?_
 obtain ⟨af, av, h⟩ := bS h
 refine sSliceS (v := p0) (u := af) (vlo := (some (.int .i64 ag))) (vhi := (some (.int .i64 a6))) (lo' := ag) (hi' := a6) S (wN rfl) rfl Try.underlying9 rfl rfl rfl (.inl rfl) (.inl rfl) av rfl (lb rfl) fun a S => ?_
 refine sLit (r := rS) (T := 9) (xs := [af]) [(0, .string af)] 1 [.string af] [.string af] (.string (⟨#[]⟩ : ByteArray)) 16 S (wN rfl) rfl rfl Try.underlying142 rfl (by decide) (by decide) (by kernel_rfl) rfl (fun E1 w1 hE => All.cons rfl (All.nil _ _ _)) rfl rfl (lb rfl) fun a w aw ax S => ?_
 obtain ⟨aP, ay, h⟩ := bS h
 refine sApp (r := rS) (T := 9) (xs := a7) (ys := [af]) (v := .slice a4 a7.length a5) (u := .slice aw [af].length ax) 1 (.string (⟨#[]⟩ : ByteArray)) 16 S (wN rfl) rfl Try.underlying142 rfl rfl (by decide) rfl rfl rfl (src_R (T := 9) 0 S.mem rfl) ay rfl (lb rfl) fun a w az aA S => ?_
 refine sN S fun a S => ?_
 refine lT (au _ _ (sRegion (sM S fun a S => ?_)))
 refine sBin _ S (wN rfl) rfl rfl rfl (bAdd _ _ _ _ a6 1) rfl (lb rfl) fun a S => ?_
 refine sN S fun a S => ?_
 exact leafL (leafB (leafT (⟨aP, w64 (a6 + 1), Option.some.inj h, az, aA, S.fix [0] [] (by decide) rfl rfl rfl⟩)))
noncomputable def raddleref25_Number_l1 (p0 : ByteArray) : (Int × Int) → Option ((Int × Int) ⊕ ((Int × Bool) ⊕ Int)) := fun s0 => match s0 with
 | (a4, a0) =>
  if decide (a0 < (p0.size : Int)) then
   Option.bind (α := Bool) (
    (idxS p0 a0).bind fun a5 =>
    if decide (a5 < 48) then
     some true
    else
     some (decide (57 < a5))) fun a6 =>
   if a6 then
    some (.inr (.inl (0, false)))
   else
    (idxS p0 a0).bind fun a7 =>
    some (.inl (w64 ((w64 (10 * a4)) + (IntKind.i64.wrap (IntKind.u8.wrap (a7 - 48)))), w64 (a0 + 1)))
  else
   some (.inr (.inr a4))
noncomputable def F_raddleref25_Number (p0 : ByteArray) : Option (Int × Bool) :=
 Option.bind (α := Bool) (
  if (p0.size : Int) == 0 then
   some true
  else
   if decide (4 < (p0.size : Int)) then
    some true
   else
    if decide (1 < (p0.size : Int)) then
     (idxS p0 0).bind fun x9 =>
     some (x9 == 48)
    else
     some false) fun o3 =>
 if o3 then
  some (0, false)
 else
  Option.bind (α := Int ⊕ (Int × Bool)) (
   (whileO (raddleref25_Number_l1 p0) (0, 0)).bind fun z0 => match z0 with
    | .inl z =>
     some (.inr z)
    | .inr a0 =>
     some (.inl a0)) fun z0 => match z0 with
   | .inl a4 =>
    some (a4, true)
   | .inr z =>
    some z
theorem c_raddleref25_Number (E : Nat → Prop) (w0 : World) (p0 : ByteArray) (r : (Int × Bool)) (h : F_raddleref25_Number p0 = some r) (S : St0 E [] w0 w0 [] []) :
 Calls Try.prog 97 #[.string p0] w0 (Ret (X := Unit) E [] w0 (fun _ => .tuple #[.int .i64 r.1, .bool r.2]) (fun _ => []) (fun _ => [])) := by
 unfold F_raddleref25_Number at h
 refine sEnter (args := [.string p0]) 49 Try.func97 rfl rfl (by simp) S (fun a S => ?_)
 refine sSeq (fun K1 aA => sRegion (sN S fun a S => ?_))
 refine sN S fun a S => ?_
 refine lT (aA _ _ (sSeq (fun K2 aC => ?_)))
 obtain ⟨t4, h, g5⟩ := bS h
 refine sCut (fun a w => ∃ o3, o3 = t4 ∧ St [] E [] w0 49 a w [(0, .string p0), (23, .bool o3)] [] []) ?_ (fun a w hI => ?_)
 ·refine sRegion (sM S fun a S => ?_)
  refine sLenS (v := p0) S (wN rfl) rfl Try.underlying9 rfl rfl (lb rfl) fun a S => ?_
  refine sBin _ S (wN rfl) rfl rfl rfl (bEq _ _ _ _ .i64 (p0.size : Int) 0) rfl (lb rfl) fun a S => ?_
  refine sM S fun a S => ?_
  rcases iS h with ⟨a6, h⟩ | ⟨a6, h⟩
  ·refine sSkN 3 3 false 9 S rfl rfl a6 rfl fun a S => ?_
   refine sPickT (.bool true) S (wN rfl) rfl rfl a6 rfl rfl (lb rfl) fun a S => ?_
   refine sM S fun a S => ?_
   refine sSkN 4 8 false 14 S rfl rfl rfl rfl fun a S => ?_
   refine sSkipU 12 true 18 19 S rfl rfl rfl rfl (lb rfl) fun a S => ?_
   refine sSkipU 12 true 18 20 S rfl rfl rfl rfl (lb rfl) fun a S => ?_
   refine sSkipU 12 true 18 21 S rfl rfl rfl rfl (lb rfl) fun a S => ?_
   refine sSk S rfl rfl rfl rfl rfl rfl fun a S => ?_
   refine sPickT (.bool true) S (wN rfl) rfl rfl rfl rfl rfl (lb rfl) fun a S => ?_
   exact lT (⟨true, Option.some.inj h, S.fix [] [] (by decide) rfl rfl rfl⟩)
  refine sMove (.string p0) S (wG 3 false 9 rfl rfl rfl a6) (.inl rfl) rfl rfl (lb rfl) fun a S => ?_
  refine sLenS (v := p0) S (wG 3 false 9 rfl rfl rfl a6) rfl Try.underlying9 rfl rfl (lb rfl) fun a S => ?_
  refine sBin _ S (wG 3 false 9 rfl rfl rfl a6) rfl rfl rfl (bGt _ _ _ _ .i64 (p0.size : Int) 4) rfl (lb rfl) fun a S => ?_
  refine sPickF (.bool (decide (4 < (p0.size : Int)))) S (wN rfl) rfl rfl a6 rfl rfl (lb rfl) fun a S => ?_
  refine sM S fun a S => ?_
  rcases iS h with ⟨a4, h⟩ | ⟨a4, h⟩
  ·refine sSkN 4 8 false 14 S rfl rfl a4 rfl fun a S => ?_
   refine sSkipU 12 true 18 19 S rfl rfl rfl rfl (lb rfl) fun a S => ?_
   refine sSkipU 12 true 18 20 S rfl rfl rfl rfl (lb rfl) fun a S => ?_
   refine sSkipU 12 true 18 21 S rfl rfl rfl rfl (lb rfl) fun a S => ?_
   refine sSk S rfl rfl rfl a4 rfl rfl fun a S => ?_
   refine sPickT (.bool true) S (wN rfl) rfl rfl a4 rfl rfl (lb rfl) fun a S => ?_
   exact lT (⟨true, Option.some.inj h, S.fix [] [] (by decide) rfl rfl rfl⟩)
  refine sMove (.string p0) S (wG 8 false 14 rfl rfl rfl a4) (.inl rfl) rfl rfl (lb rfl) fun a S => ?_
  refine sLenS (v := p0) S (wG 8 false 14 rfl rfl rfl a4) rfl Try.underlying9 rfl rfl (lb rfl) fun a S => ?_
  refine sBin _ S (wG 8 false 14 rfl rfl rfl a4) rfl rfl rfl (bGt _ _ _ _ .i64 (p0.size : Int) 1) rfl (lb rfl) fun a S => ?_
  refine sMove (.bool (decide (1 < (p0.size : Int)))) S (wG 8 false 14 rfl rfl rfl a4) (.inl rfl) rfl rfl (lb rfl) fun a S => ?_
  rcases iS h with ⟨a7, h⟩ | ⟨a7, h⟩
  rotate_left
  ·refine sSkN 3 12 true 18 S rfl rfl a7 rfl fun a S => ?_
   refine sPickF (.bool false) S (wG 8 false 14 rfl rfl rfl a4) rfl rfl a7 rfl rfl (lb rfl) fun a S => ?_
   refine sPickF (.bool false) S (wN rfl) rfl rfl a4 rfl rfl (lb rfl) fun a S => ?_
   exact lT (⟨false, Option.some.inj h, S.fix [] [] (by decide) rfl rfl rfl⟩)
  refine sMove (.string p0) S (wG 12 true 18 rfl rfl rfl a7) (.inl rfl) rfl rfl (lb rfl) fun a S => ?_
  obtain ⟨x9, ai, h⟩ := bS h
  refine sIndexS (v := p0) (j := 0) (k := .i64) S (wG 12 true 18 rfl rfl rfl a7) rfl Try.underlying9 rfl rfl ai rfl (lb rfl) fun a S => ?_
  refine sBin _ S (wG 12 true 18 rfl rfl rfl a7) rfl rfl rfl (bEq _ _ _ _ .u8 x9 48) rfl (lb rfl) fun a S => ?_
  refine sPickT (.bool (x9 == 48)) S (wG 8 false 14 rfl rfl rfl a4) rfl rfl a7 rfl rfl (lb rfl) fun a S => ?_
  refine sPickF (.bool (x9 == 48)) S (wN rfl) rfl rfl a4 rfl rfl (lb rfl) fun a S => ?_
  exact lT (⟨x9 == 48, Option.some.inj h, S.fix [] [] (by decide) rfl rfl rfl⟩)
 obtain ⟨o3, rfl, S⟩ := hI
 have h := g5
 try dsimp only at h
 rcases iS h with ⟨a8, h⟩ | ⟨a8, h⟩
 ·refine sCondT S rfl a8 ?_
  refine sSeq (fun aJ aj => sRegion (sN S fun a S => ?_))
  refine sN S fun a S => ?_
  refine lT (aj _ _ ?_)
  obtain rfl := tS h
  exact wp_ret (rThen (sRet (.tuple #[iv 0, .bool false]) S (rsl2 rfl (rvT (t := 2) (v := iv 0) S rfl) (rvT (t := 3) (v := .bool false) S rfl)) ⟨(), rfl, S.mem.sel [] [] (by decide) rfl rfl⟩))
 refine sCondF S rfl a8 ?_
 refine wp_skip (leafT (aC _ _ ?_))
 refine sSeq (fun aK ak => sRegion (sN S fun a S => ?_))
 refine lT (ak _ _ ?_)
 obtain ⟨aG, h, ay⟩ := bS h
 refine sCut (fun a w => ∃ ac, .inl ac = aG ∧ St [] E [] w0 49 a w [(4, iv ac)] [] []) ?_ (fun a w hI => ?_)
 rotate_left
 ·obtain ⟨ac, rfl, S⟩ := hI
  have h := ay
  try dsimp only at h
  refine sSeq (fun aL am => sRegion (sM S fun a S => ?_))
  refine sN S fun a S => ?_
  refine sN S fun a S => ?_
  refine lT (am _ _ ?_)
  obtain rfl := tS h
  exact wp_ret (sRet (.tuple #[iv ac, .bool true]) S (rsl2 rfl (rvT (t := 2) (v := iv ac) S rfl) (rvT (t := 3) (v := .bool true) S rfl)) ⟨(), rfl, S.mem.sel [] [] (by decide) rfl rfl⟩)
 refine sSeq (fun aM ao => sRegion (sN S fun a S => ?_))
 refine lT (ao _ _ (wp_block ?_))
 obtain ⟨aO, hl, az⟩ := bS h
 refine sLoop hl (fun s0 a w => match s0 with | (a9, a5) => St [] E [] w0 49 a w [(0, .string p0), (4, iv a9), (5, iv a5)] [] []) (S.fix [] [] (by decide) rfl rfl rfl) ?_
 clear hl h
 intro s0 a w c0 hI h ae
 obtain ⟨a9, a5⟩ := s0
 unfold raddleref25_Number_l1 at h
 dsimp only at h hI
 have S := hI
 refine sSeq (fun aP ap => sSeq (fun aQ aq => sRegion (sM S fun a S => ?_)))
 refine sM S fun a S => ?_
 refine sLenS (v := p0) S (wN rfl) rfl Try.underlying9 rfl rfl (lb rfl) fun a S => ?_
 refine sBin _ S (wN rfl) rfl rfl rfl (bLt _ _ _ _ .i64 a5 (p0.size : Int)) rfl (lb rfl) fun a S => ?_
 refine lT (aq _ _ ?_)
 rcases iS h with ⟨aa, h⟩ | ⟨aa, h⟩
 rotate_left
 ·refine sCondF S rfl aa ?_
  obtain rfl := tS h
  obtain rfl := ae _ rfl
  have h := az
  try dsimp only at h
  exact wp_exit (xThen (xThen (xHit (leafT (⟨a9, Option.some.inj h, S.fix [] [] (by decide) rfl rfl rfl⟩)))))
 refine sCondT S rfl aa ?_
 refine wp_skip (leafT (ap _ _ ?_))
 refine sSeq (fun aR ar => wp_block ?_)
 refine sSeq (fun aS au => ?_)
 obtain ⟨aH, h, aI⟩ := bS h
 refine sCut (fun a w => ∃ av, av = aH ∧ St [] E [] w0 49 a w [(0, .string p0), (4, iv a9), (5, iv a5), (39, .bool av)] [] []) ?_ (fun a w hI => ?_)
 ·refine sRegion (sM S fun a S => ?_)
  refine sM S fun a S => ?_
  obtain ⟨ag, af, h⟩ := bS h
  refine sIndexS (v := p0) (j := a5) (k := .i64) S (wN rfl) rfl Try.underlying9 rfl rfl af rfl (lb rfl) fun a S => ?_
  refine sBin _ S (wN rfl) rfl rfl rfl (bLt _ _ _ _ .u8 ag 48) rfl (lb rfl) fun a S => ?_
  refine sM S fun a S => ?_
  rcases iS h with ⟨a0, h⟩ | ⟨a0, h⟩
  ·refine sSkN 4 4 false 34 S rfl rfl a0 rfl fun a S => ?_
   refine sPickT (.bool true) S (wN rfl) rfl rfl a0 rfl rfl (lb rfl) fun a S => ?_
   exact lT (⟨true, Option.some.inj h, S.fix [] [] (by decide) rfl rfl rfl⟩)
  refine sMove (.string p0) S (wG 4 false 34 rfl rfl rfl a0) (.inl rfl) rfl rfl (lb rfl) fun a S => ?_
  refine sMove (iv a5) S (wG 4 false 34 rfl rfl rfl a0) (.inl rfl) rfl rfl (lb rfl) fun a S => ?_
  refine sIndexS (v := p0) (j := a5) (k := .i64) S (wG 4 false 34 rfl rfl rfl a0) rfl Try.underlying9 rfl rfl af rfl (lb rfl) fun a S => ?_
  refine sBin _ S (wG 4 false 34 rfl rfl rfl a0) rfl rfl rfl (bGt _ _ _ _ .u8 ag 57) rfl (lb rfl) fun a S => ?_
  refine sPickF (.bool (decide (57 < ag))) S (wN rfl) rfl rfl a0 rfl rfl (lb rfl) fun a S => ?_
  exact lT (⟨decide (57 < ag), Option.some.inj h, S.fix [] [] (by decide) rfl rfl rfl⟩)
 obtain ⟨av, rfl, S⟩ := hI
 have h := aI
 try dsimp only at h
 rcases iS h with ⟨ab, h⟩ | ⟨ab, h⟩
 ·refine sCondT S rfl ab ?_
  refine sSeq (fun aT aw => sRegion (sN S fun a S => ?_))
  refine sN S fun a S => ?_
  refine lT (aw _ _ ?_)
  obtain rfl := tS h
  obtain rfl := ae _ rfl
  have h := az
  try dsimp only at h
  obtain rfl := tS h
  have h := ay
  try dsimp only at h
  obtain rfl := tS h
  exact wp_ret (rThen (rBlock (rThen (rThen (rBlock (rThen (sRet (.tuple #[iv 0, .bool false]) S (rsl2 rfl (rvT (t := 2) (v := iv 0) S rfl) (rvT (t := 3) (v := .bool false) S rfl)) ⟨(), rfl, S.mem.sel [] [] (by decide) rfl rfl⟩)))))))
 refine sCondF S rfl ab ?_
 refine wp_skip (leafT (au _ _ ?_))
 refine sRegion (sM S fun a S => ?_)
 refine sBin _ S (wN rfl) rfl rfl rfl (bMul _ _ _ _ 10 a9) rfl (lb rfl) fun a S => ?_
 refine sM S fun a S => ?_
 refine sM S fun a S => ?_
 obtain ⟨ah, ax, h⟩ := bS h
 refine sIndexS (v := p0) (j := a5) (k := .i64) S (wN rfl) rfl Try.underlying9 rfl rfl ax rfl (lb rfl) fun a S => ?_
 refine sBin _ S (wN rfl) rfl rfl rfl (bSubK _ _ _ _ .u8 ah 48) rfl (lb rfl) fun a S => ?_
 refine sConv (k := .u8) (k2 := .i64) (b := IntKind.u8.wrap (ah - 48)) S (wN rfl) rfl Try.underlying5 Try.underlying3 rfl rfl (lb rfl) fun a S => ?_
 refine sBin _ S (wN rfl) rfl rfl rfl (bAdd _ _ _ _ (w64 (10 * a9)) (IntKind.i64.wrap (IntKind.u8.wrap (ah - 48)))) rfl (lb rfl) fun a S => ?_
 refine sN S fun a S => ?_
 refine leafL (leafB (leafT (ar _ _ ?_)))
 refine sRegion (sM S fun a S => ?_)
 refine sBin _ S (wN rfl) rfl rfl rfl (bAdd _ _ _ _ a5 1) rfl (lb rfl) fun a S => ?_
 refine sN S fun a S => ?_
 exact lT (⟨(w64 ((w64 (10 * a9)) + (IntKind.i64.wrap (IntKind.u8.wrap (ah - 48)))), w64 (a5 + 1)), (Option.some.inj h).symm, (S.fix [] [] (by decide) rfl rfl rfl)⟩)
noncomputable def raddleref25_word_l1 (a5 : (Int × Bool)) (a6 : Int) : (List api_Stitch × Int) → Option ((List api_Stitch × Int) ⊕ List api_Stitch) := fun s0 => match s0 with
 | (a4, a0) =>
  Option.bind (α := Bool) (
   if decide (a0 < a5.1) then
    some (decide (a0 < 300))
   else
    some false) fun a7 =>
  if a7 then
   (appO a4 [(api_Stitch.mk 1 (a6 == 112) 0 0)]).bind fun a8 =>
   some (.inl (a8, w64 (a0 + 1)))
  else
   some (.inr a4)
noncomputable def F_raddleref25_word (p0 : ByteArray) : Option ((List api_Stitch) × Bool) :=
 if p0 == (⟨#[121, 111]⟩ : ByteArray) then
  some ([(api_Stitch.mk 2 false 0 0)], true)
 else
  Option.bind (α := Bool) (
   if decide (2 < (p0.size : Int)) then
    (sliceS p0 0 2).bind fun aj =>
    some (aj == (⟨#[111, 110]⟩ : ByteArray))
   else
    some false) fun o9 =>
  if o9 then
   (sliceS p0 2 (p0.size : Int)).bind fun ak =>
   (F_raddleref25_Number ak).bind fun ah =>
   some ([(api_Stitch.mk 9 false ah.1 0)], ah.2)
  else
   Option.bind (α := Bool) (
    if (p0.size : Int) == 0 then
     some true
    else
     (idxS p0 0).bind fun ai =>
     if ai != 107 then
      some (ai != 112)
     else
      some false) fun am =>
   if am then
    some (([] : (List api_Stitch)), false)
   else
    (idxS p0 0).bind fun a7 =>
    if (p0.size : Int) == 1 then
     some ([(api_Stitch.mk 1 (a7 == 112) 0 0)], true)
    else
     Option.bind (α := Unit ⊕ ((List api_Stitch) × Bool)) (
      (sliceS p0 1 (p0.size : Int)).bind fun ao =>
      (F_raddleref25_Number ao).bind fun a8 =>
      if a8.2 then
       Option.bind (α := List api_Stitch) (
        (whileO (raddleref25_word_l1 a8 a7) (([] : List api_Stitch), 0)).bind fun ap =>
         some ap) fun aq =>
       some (.inr (aq, decide (1 < a8.1)))
      else
       some (.inl ())) fun z0 => match z0 with
      | .inl _ =>
       (idxS p0 1).bind fun ar =>
       (F_raddleref25_kind ar).bind fun a0 =>
       if a0 == 8 then
        some ([(api_Stitch.mk a0 (a7 == 112) 0 0)], (p0.size : Int) == 2)
       else
        (sliceS p0 2 (p0.size : Int)).bind fun au =>
        (F_raddleref25_Cut au 47).bind fun a4 =>
        Option.bind (α := Bool) (
         if a0 != 0 then
          some ((a4.length : Int) == 1)
         else
          some false) fun a9 =>
        Option.bind (α := (Bool × Int)) (
         Option.bind (α := Bool) (
          if a0 == 6 then
           some true
          else
           some (a0 == 7)) fun aa =>
         if aa then
          if (a4.length : Int) == 2 then
           (idxO a4 1).bind fun ab =>
           (F_raddleref25_Number ab).bind fun a5 =>
           some (a5.2, a5.1)
          else
           some ((a4.length : Int) == 2, 0)
         else
          some (a9, 0)) fun (ac, ae) =>
        (idxO a4 0).bind fun af =>
        (F_raddleref25_Number af).bind fun a6 =>
        Option.bind (α := Bool) (
         if ac then
          some a6.2
         else
          some false) fun ag =>
        some ([(api_Stitch.mk a0 (a7 == 112) a6.1 ae)], ag)
      | .inr z =>
       some z
def c_raddleref25_word_val (r : ((List api_Stitch) × Bool)) (x : Value) : Value := .tuple #[x, .bool r.2]
def c_raddleref25_word_D (r : ((List api_Stitch) × Bool)) (x : Value) : List Fact := [fRep (rL r_api_Stitch) x r.1]
theorem c_raddleref25_word (E : Nat → Prop) (w0 : World) (p0 : ByteArray) (r : ((List api_Stitch) × Bool)) (h : F_raddleref25_word p0 = some r) (S : St0 E [] w0 w0 [] []) :
 Calls Try.prog 95 #[.string p0] w0 (Ret (X := Value) E [] w0 (c_raddleref25_word_val r) (fun _ => []) (c_raddleref25_word_D r)) := by
 unfold F_raddleref25_word at h
 refine sEnter (args := [.string p0]) 140 Try.func95 rfl rfl (by simp) S (fun a S => ?_)
 refine sSeq (fun K1 cB => sRegion (sN S fun a S => ?_))
 refine sN S fun a S => ?_
 refine lT (cB _ _ (sSeq (fun K2 cC => sSeq (fun K3 cD => sRegion (sM S fun a S => ?_)))))
 refine sBin _ S (wN rfl) rfl rfl rfl (bEqS _ _ _ _ p0 (⟨#[121, 111]⟩ : ByteArray)) rfl (lb rfl) fun a S => ?_
 refine lT (cD _ _ ?_)
 rcases iS h with ⟨bz, h⟩ | ⟨bz, h⟩
 ·refine sCondT S rfl bz ?_
  refine sSeq (fun K5 cE => sRegion (sBuild [(0, .int .u8 2)] [.int .u8 2, .bool false, iv 0, iv 0] S (wN rfl) rfl rfl rfl rfl (lb rfl) fun a S => ?_))
  have S := S.learn (fRep r_api_Stitch (.agg #[.int .u8 2, .bool false, iv 0, iv 0]) (api_Stitch.mk 2 false 0 0)) rfl
  refine sLit (r := r_api_Stitch) (T := 81) (xs := [(api_Stitch.mk 2 false 0 0)]) [(0, .agg #[.int .u8 2, .bool false, iv 0, iv 0])] 1 [.agg #[.int .u8 2, .bool false, iv 0, iv 0]] [.int .u8 2, .bool false, iv 0, iv 0] (.agg #[.int .u8 0, .bool false, iv 0, iv 0]) 24 S (wN rfl) rfl rfl Try.underlying47 rfl (by decide) (by decide) (by kernel_rfl) rfl (fun E1 w1 hE => All.cons (r_api_Stitch.mono hE (S.mem.know (i := 0) (e := fRep r_api_Stitch (.agg #[.int .u8 2, .bool false, iv 0, iv 0]) (api_Stitch.mk 2 false 0 0)) rfl)) (All.nil _ _ _)) rfl rfl (lb rfl) fun a w bv bw S => ?_
  refine sN S fun a S => ?_
  refine sN S fun a S => ?_
  refine lT (cE _ _ ?_)
  obtain rfl := tS h
  have S := S.shutR (r := r_api_Stitch) (T := 81) (v := .slice bv [(api_Stitch.mk 2 false 0 0)].length bw) (xs := [(api_Stitch.mk 2 false 0 0)]) 0 rfl
  exact wp_ret (rThen (sRet (.tuple #[.slice bv [(api_Stitch.mk 2 false 0 0)].length bw, .bool true]) S (rsl2 rfl (rvT (t := 2) (v := .slice bv [(api_Stitch.mk 2 false 0 0)].length bw) S rfl) (rvT (t := 3) (v := .bool true) S rfl)) ⟨(.slice bv [(api_Stitch.mk 2 false 0 0)].length bw), rfl, S.mem.sel [] [0] (by decide) rfl rfl⟩))
 refine sCondF S rfl bz ?_
 refine wp_skip (leafT (cC _ _ ?_))
 refine sSeq (fun K8 cF => ?_)
 obtain ⟨cG, h, cH⟩ := bS h
 refine sCut (fun a w => ∃ o9, o9 = cG ∧ St [] E [] w0 140 a w [(0, .string p0), (26, .bool o9)] [] []) ?_ (fun a w hI => ?_)
 ·refine sRegion (sM S fun a S => ?_)
  refine sLenS (v := p0) S (wN rfl) rfl Try.underlying9 rfl rfl (lb rfl) fun a S => ?_
  refine sBin _ S (wN rfl) rfl rfl rfl (bGt _ _ _ _ .i64 (p0.size : Int) 2) rfl (lb rfl) fun a S => ?_
  refine sM S fun a S => ?_
  rcases iS h with ⟨am, h⟩ | ⟨am, h⟩
  rotate_left
  ·refine sSkN 3 3 true 22 S rfl rfl am rfl fun a S => ?_
   refine sPickF (.bool false) S (wN rfl) rfl rfl am rfl rfl (lb rfl) fun a S => ?_
   exact lT (⟨false, Option.some.inj h, S.fix [] [] (by decide) rfl rfl rfl⟩)
  refine sMove (.string p0) S (wG 3 true 22 rfl rfl rfl am) (.inl rfl) rfl rfl (lb rfl) fun a S => ?_
  obtain ⟨bx, bA, h⟩ := bS h
  refine sSliceS (v := p0) (u := bx) (vlo := none) (vhi := (some (.int .i64 2))) (lo' := 0) (hi' := 2) S (wG 3 true 22 rfl rfl rfl am) rfl Try.underlying9 rfl rfl rfl (.inr ⟨rfl, rfl⟩) (.inl rfl) bA rfl (lb rfl) fun a S => ?_
  refine sBin _ S (wG 3 true 22 rfl rfl rfl am) rfl rfl rfl (bEqS _ _ _ _ bx (⟨#[111, 110]⟩ : ByteArray)) rfl (lb rfl) fun a S => ?_
  refine sPickT (.bool (bx == (⟨#[111, 110]⟩ : ByteArray))) S (wN rfl) rfl rfl am rfl rfl (lb rfl) fun a S => ?_
  exact lT (⟨bx == (⟨#[111, 110]⟩ : ByteArray), Option.some.inj h, S.fix [] [] (by decide) rfl rfl rfl⟩)
 obtain ⟨o9, rfl, S⟩ := hI
 have h := cH
 try dsimp only at h
 rcases iS h with ⟨aS, h⟩ | ⟨aS, h⟩
 ·refine sCondT S rfl aS ?_
  refine sSeq (fun cV bB => sRegion (sM S fun a S => ?_))
  obtain ⟨bC, bD, h⟩ := bS h
  refine sSliceS (v := p0) (u := bC) (vlo := (some (.int .i64 2))) (vhi := none) (lo' := 2) (hi' := (p0.size : Int)) S (wN rfl) rfl Try.underlying9 rfl rfl rfl (.inl rfl) (.inr ⟨rfl, rfl⟩) bD rfl (lb rfl) fun a S => ?_
  obtain ⟨ab, bE, h⟩ := bS h
  have S1 := S.mem
  refine sCq [.string bC] (.tuple #[iv ab.1, .bool ab.2]) S callee97 (S1.quiet [] rfl) (fun E1 w1 S1 => c_raddleref25_Number E1 w1 bC ab bE S1) fun a w S => ?_
  refine sM S fun a S => ?_
  refine sExtract (vs := [iv ab.1, .bool ab.2]) (iv ab.1) S (wN rfl) rfl rfl rfl rfl (lb rfl) fun a S => ?_
  refine sExtract (vs := [iv ab.1, .bool ab.2]) (.bool ab.2) S (wN rfl) rfl rfl rfl rfl (lb rfl) fun a S => ?_
  refine sN S fun a S => ?_
  refine sN S fun a S => ?_
  refine lT (bB _ _ (sSeq (fun cW bG => sRegion (sM S fun a S => ?_))))
  refine sBuild [(0, .int .u8 9), (2, iv ab.1)] [.int .u8 9, .bool false, iv ab.1, iv 0] S (wN rfl) rfl rfl rfl rfl (lb rfl) fun a S => ?_
  have S := S.learn (fRep r_api_Stitch (.agg #[.int .u8 9, .bool false, iv ab.1, iv 0]) (api_Stitch.mk 9 false ab.1 0)) rfl
  refine sLit (r := r_api_Stitch) (T := 81) (xs := [(api_Stitch.mk 9 false ab.1 0)]) [(0, .agg #[.int .u8 9, .bool false, iv ab.1, iv 0])] 1 [.agg #[.int .u8 9, .bool false, iv ab.1, iv 0]] [.int .u8 9, .bool false, iv ab.1, iv 0] (.agg #[.int .u8 0, .bool false, iv 0, iv 0]) 24 S (wN rfl) rfl rfl Try.underlying47 rfl (by decide) (by decide) (by kernel_rfl) rfl (fun E1 w1 hE => All.cons (r_api_Stitch.mono hE (S.mem.know (i := 0) (e := fRep r_api_Stitch (.agg #[.int .u8 9, .bool false, iv ab.1, iv 0]) (api_Stitch.mk 9 false ab.1 0)) rfl)) (All.nil _ _ _)) rfl rfl (lb rfl) fun a w aJ aK S => ?_
  refine sM S fun a S => ?_
  refine sN S fun a S => ?_
  refine sN S fun a S => ?_
  refine lT (bG _ _ ?_)
  obtain rfl := tS h
  have S := S.shutR (r := r_api_Stitch) (T := 81) (v := .slice aJ [(api_Stitch.mk 9 false ab.1 0)].length aK) (xs := [(api_Stitch.mk 9 false ab.1 0)]) 0 rfl
  exact wp_ret (rThen (sRet (.tuple #[.slice aJ [(api_Stitch.mk 9 false ab.1 0)].length aK, .bool ab.2]) S (rsl2 rfl (rvT (t := 2) (v := .slice aJ [(api_Stitch.mk 9 false ab.1 0)].length aK) S rfl) (rvT (t := 3) (v := .bool ab.2) S rfl)) ⟨(.slice aJ [(api_Stitch.mk 9 false ab.1 0)].length aK), rfl, S.mem.sel [] [0] (by decide) rfl rfl⟩))
 refine sCondF S rfl aS ?_
 refine wp_skip (leafT (cF _ _ ?_))
 refine sSeq (fun cX bH => ?_)
 obtain ⟨cI, h, cJ⟩ := bS h
 refine sCut (fun a w => ∃ bI, bI = cI ∧ St [] E [] w0 140 a w [(0, .string p0), (49, .bool bI)] [] []) ?_ (fun a w hI => ?_)
 ·refine sRegion (sM S fun a S => ?_)
  refine sLenS (v := p0) S (wN rfl) rfl Try.underlying9 rfl rfl (lb rfl) fun a S => ?_
  refine sBin _ S (wN rfl) rfl rfl rfl (bEq _ _ _ _ .i64 (p0.size : Int) 0) rfl (lb rfl) fun a S => ?_
  refine sM S fun a S => ?_
  rcases iS h with ⟨ac, h⟩ | ⟨ac, h⟩
  ·refine sSkN 4 3 false 40 S rfl rfl ac rfl fun a S => ?_
   refine sSkipU 7 true 44 45 S rfl rfl rfl rfl (lb rfl) fun a S => ?_
   refine sSkipU 7 true 44 46 S rfl rfl rfl rfl (lb rfl) fun a S => ?_
   refine sSkipU 7 true 44 47 S rfl rfl rfl rfl (lb rfl) fun a S => ?_
   refine sSk S rfl rfl rfl ac rfl rfl fun a S => ?_
   refine sPickT (.bool true) S (wN rfl) rfl rfl ac rfl rfl (lb rfl) fun a S => ?_
   exact lT (⟨true, Option.some.inj h, S.fix [] [] (by decide) rfl rfl rfl⟩)
  refine sMove (.string p0) S (wG 3 false 40 rfl rfl rfl ac) (.inl rfl) rfl rfl (lb rfl) fun a S => ?_
  obtain ⟨bb, bc, h⟩ := bS h
  refine sIndexS (v := p0) (j := 0) (k := .i64) S (wG 3 false 40 rfl rfl rfl ac) rfl Try.underlying9 rfl rfl bc rfl (lb rfl) fun a S => ?_
  refine sBin _ S (wG 3 false 40 rfl rfl rfl ac) rfl rfl rfl (bNe _ _ _ _ .u8 bb 107) rfl (lb rfl) fun a S => ?_
  refine sMove (.bool (bb != 107)) S (wG 3 false 40 rfl rfl rfl ac) (.inl rfl) rfl rfl (lb rfl) fun a S => ?_
  rcases iS h with ⟨ao, h⟩ | ⟨ao, h⟩
  rotate_left
  ·refine sSkN 3 7 true 44 S rfl rfl ao rfl fun a S => ?_
   refine sPickF (.bool false) S (wG 3 false 40 rfl rfl rfl ac) rfl rfl ao rfl rfl (lb rfl) fun a S => ?_
   refine sPickF (.bool false) S (wN rfl) rfl rfl ac rfl rfl (lb rfl) fun a S => ?_
   exact lT (⟨false, Option.some.inj h, S.fix [] [] (by decide) rfl rfl rfl⟩)
  refine sMove (.string p0) S (wG 7 true 44 rfl rfl rfl ao) (.inl rfl) rfl rfl (lb rfl) fun a S => ?_
  refine sIndexS (v := p0) (j := 0) (k := .i64) S (wG 7 true 44 rfl rfl rfl ao) rfl Try.underlying9 rfl rfl bc rfl (lb rfl) fun a S => ?_
  refine sBin _ S (wG 7 true 44 rfl rfl rfl ao) rfl rfl rfl (bNe _ _ _ _ .u8 bb 112) rfl (lb rfl) fun a S => ?_
  refine sPickT (.bool (bb != 112)) S (wG 3 false 40 rfl rfl rfl ac) rfl rfl ao rfl rfl (lb rfl) fun a S => ?_
  refine sPickF (.bool (bb != 112)) S (wN rfl) rfl rfl ac rfl rfl (lb rfl) fun a S => ?_
  exact lT (⟨bb != 112, Option.some.inj h, S.fix [] [] (by decide) rfl rfl rfl⟩)
 obtain ⟨bI, rfl, S⟩ := hI
 have h := cJ
 try dsimp only at h
 rcases iS h with ⟨aT, h⟩ | ⟨aT, h⟩
 ·refine sCondT S rfl aT ?_
  refine sSeq (fun cY bJ => sRegion (sN S fun a S => ?_))
  refine sN S fun a S => ?_
  refine lT (bJ _ _ ?_)
  obtain rfl := tS h
  have S := S.learn (fRep (rL r_api_Stitch) (.slice none 0 0) ([] : (List api_Stitch))) (rL_nil _ _ _)
  exact wp_ret (rThen (sRet (.tuple #[.slice none 0 0, .bool false]) S (rsl2 rfl (rvT (t := 2) (v := .slice none 0 0) S rfl) (rvT (t := 3) (v := .bool false) S rfl)) ⟨(.slice none 0 0), rfl, S.mem.sel [] [0] (by decide) rfl rfl⟩))
 refine sCondF S rfl aT ?_
 refine wp_skip (leafT (bH _ _ ?_))
 refine sSeq (fun cZ bK => sRegion (sM S fun a S => ?_))
 obtain ⟨a0, bL, h⟩ := bS h
 refine sIndexS (v := p0) (j := 0) (k := .i64) S (wN rfl) rfl Try.underlying9 rfl rfl bL rfl (lb rfl) fun a S => ?_
 refine sBin _ S (wN rfl) rfl rfl rfl (bEq _ _ _ _ .u8 a0 112) rfl (lb rfl) fun a S => ?_
 refine sBuild [(0, .int .u8 1), (1, .bool (a0 == 112))] [.int .u8 1, .bool (a0 == 112), iv 0, iv 0] S (wN rfl) rfl rfl rfl rfl (lb rfl) fun a S => ?_
 refine sAlloc (.agg #[.int .u8 0, .bool false, iv 0, iv 0]) S (wN rfl) rfl rfl [.int .u8 0, .bool false, iv 0, iv 0] rfl rfl (lb rfl) fun a a9 w S => ?_
 refine sStore (p := a9) (off := 0) (T := 81) (vs := [.int .u8 0, .bool false, iv 0, iv 0]) (v := .agg #[.int .u8 1, .bool (a0 == 112), iv 0, iv 0]) 0 [.int .u8 1, .bool (a0 == 112), iv 0, iv 0] S (wN rfl) rfl rfl rfl rfl rfl rfl rfl (by simp) rfl fun a w S => ?_
 refine lT (bK _ _ (sSeq (fun d4 bM => sSeq (fun d5 bN => sRegion (sM S fun a S => ?_)))))
 refine sLenS (v := p0) S (wN rfl) rfl Try.underlying9 rfl rfl (lb rfl) fun a S => ?_
 refine sBin _ S (wN rfl) rfl rfl rfl (bEq _ _ _ _ .i64 (p0.size : Int) 1) rfl (lb rfl) fun a S => ?_
 refine lT (bN _ _ ?_)
 rcases iS h with ⟨aU, h⟩ | ⟨aU, h⟩
 ·refine sCondT S rfl aU ?_
  refine sSeq (fun d6 bO => sRegion (sLoadN (p := a9) (off := 0) (T := 81) (vs := [.int .u8 1, .bool (a0 == 112), iv 0, iv 0]) 0 [.int .u8 1, .bool (a0 == 112), iv 0, iv 0] S (wN rfl) rfl rfl rfl rfl rfl rfl rfl (lb rfl) fun a S => ?_))
  have S := S.learn (fRep r_api_Stitch (.agg #[.int .u8 1, .bool (a0 == 112), iv 0, iv 0]) (api_Stitch.mk 1 (a0 == 112) 0 0)) rfl
  refine sLit (r := r_api_Stitch) (T := 81) (xs := [(api_Stitch.mk 1 (a0 == 112) 0 0)]) [(0, .agg #[.int .u8 1, .bool (a0 == 112), iv 0, iv 0])] 1 [.agg #[.int .u8 1, .bool (a0 == 112), iv 0, iv 0]] [.int .u8 1, .bool (a0 == 112), iv 0, iv 0] (.agg #[.int .u8 0, .bool false, iv 0, iv 0]) 24 S (wN rfl) rfl rfl Try.underlying47 rfl (by decide) (by decide) (by kernel_rfl) rfl (fun E1 w1 hE => All.cons (r_api_Stitch.mono hE (S.mem.know (i := 0) (e := fRep r_api_Stitch (.agg #[.int .u8 1, .bool (a0 == 112), iv 0, iv 0]) (api_Stitch.mk 1 (a0 == 112) 0 0)) rfl)) (All.nil _ _ _)) rfl rfl (lb rfl) fun a w aL aM S => ?_
  refine sN S fun a S => ?_
  refine sN S fun a S => ?_
  refine lT (bO _ _ ?_)
  obtain rfl := tS h
  have S := S.shutR (r := r_api_Stitch) (T := 81) (v := .slice aL [(api_Stitch.mk 1 (a0 == 112) 0 0)].length aM) (xs := [(api_Stitch.mk 1 (a0 == 112) 0 0)]) 0 rfl
  exact wp_ret (rThen (sRet (.tuple #[.slice aL [(api_Stitch.mk 1 (a0 == 112) 0 0)].length aM, .bool true]) S (rsl2 rfl (rvT (t := 2) (v := .slice aL [(api_Stitch.mk 1 (a0 == 112) 0 0)].length aM) S rfl) (rvT (t := 3) (v := .bool true) S rfl)) ⟨(.slice aL [(api_Stitch.mk 1 (a0 == 112) 0 0)].length aM), rfl, S.mem.sel [] [0] (by decide) rfl rfl⟩))
 refine sCondF S rfl aU ?_
 refine wp_skip (leafT (bM _ _ ?_))
 obtain ⟨cK, h, cz⟩ := bS h
 refine sCut (fun a w => .inl () = cK ∧ St [] E [] w0 140 a w [(0, .string p0), (6, .pointer (some ⟨a9, 0, none⟩))] [eBox a9 81 [.int .u8 1, .bool (a0 == 112), iv 0, iv 0]] []) ?_ (fun a w hI => ?_)
 ·refine sSeq (fun d7 bP => sRegion (sM S fun a S => ?_))
  obtain ⟨bQ, bR, h⟩ := bS h
  refine sSliceS (v := p0) (u := bQ) (vlo := (some (.int .i64 1))) (vhi := none) (lo' := 1) (hi' := (p0.size : Int)) S (wN rfl) rfl Try.underlying9 rfl rfl rfl (.inl rfl) (.inr ⟨rfl, rfl⟩) bR rfl (lb rfl) fun a S => ?_
  obtain ⟨ak, bU, h⟩ := bS h
  have S1 := S.mem
  refine sCq [.string bQ] (.tuple #[iv ak.1, .bool ak.2]) S callee97 (S1.quiet [] rfl) (fun E1 w1 S1 => c_raddleref25_Number E1 w1 bQ ak bU S1) fun a w S => ?_
  refine sM S fun a S => ?_
  refine sExtract (vs := [iv ak.1, .bool ak.2]) (iv ak.1) S (wN rfl) rfl rfl rfl rfl (lb rfl) fun a S => ?_
  refine sExtract (vs := [iv ak.1, .bool ak.2]) (.bool ak.2) S (wN rfl) rfl rfl rfl rfl (lb rfl) fun a S => ?_
  refine sN S fun a S => ?_
  refine sN S fun a S => ?_
  refine lT (bP _ _ (sSeq (fun d8 bV => sRegion (sM S fun a S => ?_))))
  refine lT (bV _ _ ?_)
  rcases iS h with ⟨aV, h⟩ | ⟨aV, h⟩
  rotate_left
  ·refine sCondF S rfl aV ?_
   exact wp_skip (leafT (⟨Option.some.inj h, S.fix [0] [] (by decide) rfl rfl rfl⟩))
  refine sCondT S rfl aV ?_
  refine sSeq (fun d9 bW => sRegion (sN S fun a S => ?_))
  refine lT (bW _ _ ?_)
  obtain ⟨cL, h, cM⟩ := bS h
  refine sCut (fun a w => ∃ aG, aG = cL ∧ ∃ ap, ∃ aq, St [] E [] w0 140 a w [(7, iv ak.1), (9, .slice ap aG.length aq)] [eRow r_api_Stitch 81 (.slice ap aG.length aq) aG] []) ?_ (fun a w hI => ?_)
  rotate_left
  ·obtain ⟨aG, rfl, ap, aq, S⟩ := hI
   have h := cM
   try dsimp only at h
   refine sSeq (fun da bX => sRegion (sM S fun a S => ?_))
   refine sM S fun a S => ?_
   refine sBin _ S (wN rfl) rfl rfl rfl (bGt _ _ _ _ .i64 ak.1 1) rfl (lb rfl) fun a S => ?_
   refine sN S fun a S => ?_
   refine sN S fun a S => ?_
   refine lT (bX _ _ ?_)
   obtain rfl := tS h
   have h := cz
   try dsimp only at h
   obtain rfl := tS h
   have S := S.shutR (r := r_api_Stitch) (T := 81) (v := .slice ap aG.length aq) (xs := aG) 0 rfl
   exact wp_ret (rThen (sRet (.tuple #[.slice ap aG.length aq, .bool (decide (1 < ak.1))]) S (rsl2 rfl (rvT (t := 2) (v := .slice ap aG.length aq) S rfl) (rvT (t := 3) (v := .bool (decide (1 < ak.1))) S rfl)) ⟨(.slice ap aG.length aq), rfl, S.mem.sel [] [0] (by decide) rfl rfl⟩))
  refine sSeq (fun db bY => sRegion (sN S fun a S => ?_))
  refine lT (bY _ _ (wp_block ?_))
  have S := S.nilRow r_api_Stitch 81 (α := api_Stitch)
  obtain ⟨dc, hl, cN⟩ := bS h
  refine sLoop hl (fun s0 a w => match s0 with | (aH, aI) => ∃ ar, ∃ au, St [] E [] w0 140 a w [(6, .pointer (some ⟨a9, 0, none⟩)), (7, iv ak.1), (9, .slice ar aH.length au), (10, iv aI)] [eBox a9 81 [.int .u8 1, .bool (a0 == 112), iv 0, iv 0], eRow r_api_Stitch 81 (.slice ar aH.length au) aH] []) ⟨none, 0, S.fix [1, 0] [] (by decide) rfl rfl rfl⟩ ?_
  clear hl h
  intro s0 a w c0 hI h bZ
  obtain ⟨aH, aI⟩ := s0
  unfold raddleref25_word_l1 at h
  dsimp only at h hI
  obtain ⟨ar, au, S⟩ := hI
  refine sSeq (fun de c5 => ?_)
  obtain ⟨cO, h, cP⟩ := bS h
  refine sCut (fun a w => ∃ c6, c6 = cO ∧ St [] E [] w0 140 a w [(6, .pointer (some ⟨a9, 0, none⟩)), (7, iv ak.1), (9, .slice ar aH.length au), (10, iv aI), (72, .bool c6)] [eBox a9 81 [.int .u8 1, .bool (a0 == 112), iv 0, iv 0], eRow r_api_Stitch 81 (.slice ar aH.length au) aH] []) ?_ (fun a w hI => ?_)
  ·refine sRegion (sM S fun a S => ?_)
   refine sM S fun a S => ?_
   refine sBin _ S (wN rfl) rfl rfl rfl (bLt _ _ _ _ .i64 aI ak.1) rfl (lb rfl) fun a S => ?_
   refine sM S fun a S => ?_
   rcases iS h with ⟨av, h⟩ | ⟨av, h⟩
   rotate_left
   ·refine sSkN 2 3 true 69 S rfl rfl av rfl fun a S => ?_
    refine sPickF (.bool false) S (wN rfl) rfl rfl av rfl rfl (lb rfl) fun a S => ?_
    exact lT (⟨false, Option.some.inj h, S.fix [0, 1] [] (by decide) rfl rfl rfl⟩)
   refine sMove (iv aI) S (wG 3 true 69 rfl rfl rfl av) (.inl rfl) rfl rfl (lb rfl) fun a S => ?_
   refine sBin _ S (wG 3 true 69 rfl rfl rfl av) rfl rfl rfl (bLt _ _ _ _ .i64 aI 300) rfl (lb rfl) fun a S => ?_
   refine sPickT (.bool (decide (aI < 300))) S (wN rfl) rfl rfl av rfl rfl (lb rfl) fun a S => ?_
   exact lT (⟨decide (aI < 300), Option.some.inj h, S.fix [0, 1] [] (by decide) rfl rfl rfl⟩)
  obtain ⟨c6, rfl, S⟩ := hI
  have h := cP
  try dsimp only at h
  rcases iS h with ⟨aW, h⟩ | ⟨aW, h⟩
  rotate_left
  ·refine sCondF S rfl aW ?_
   obtain rfl := tS h
   obtain rfl := bZ _ rfl
   have h := cN
   try dsimp only at h
   exact wp_exit (xThen (xThen (xHit (leafT (⟨aH, Option.some.inj h, ar, au, S.fix [1] [] (by decide) rfl rfl rfl⟩)))))
  refine sCondT S rfl aW ?_
  refine wp_skip (leafT (c5 _ _ ?_))
  refine sSeq (fun df c7 => wp_block ?_)
  refine sRegion (sM S fun a S => ?_)
  refine sLoadN (p := a9) (off := 0) (T := 81) (vs := [.int .u8 1, .bool (a0 == 112), iv 0, iv 0]) 0 [.int .u8 1, .bool (a0 == 112), iv 0, iv 0] S (wN rfl) rfl rfl rfl rfl rfl rfl rfl (lb rfl) fun a S => ?_
  have S := S.learn (fRep r_api_Stitch (.agg #[.int .u8 1, .bool (a0 == 112), iv 0, iv 0]) (api_Stitch.mk 1 (a0 == 112) 0 0)) rfl
  refine sLit (r := r_api_Stitch) (T := 81) (xs := [(api_Stitch.mk 1 (a0 == 112) 0 0)]) [(0, .agg #[.int .u8 1, .bool (a0 == 112), iv 0, iv 0])] 1 [.agg #[.int .u8 1, .bool (a0 == 112), iv 0, iv 0]] [.int .u8 1, .bool (a0 == 112), iv 0, iv 0] (.agg #[.int .u8 0, .bool false, iv 0, iv 0]) 24 S (wN rfl) rfl rfl Try.underlying47 rfl (by decide) (by decide) (by kernel_rfl) rfl (fun E1 w1 hE => All.cons (r_api_Stitch.mono hE (S.mem.know (i := 0) (e := fRep r_api_Stitch (.agg #[.int .u8 1, .bool (a0 == 112), iv 0, iv 0]) (api_Stitch.mk 1 (a0 == 112) 0 0)) rfl)) (All.nil _ _ _)) rfl rfl (lb rfl) fun a w c8 c9 S => ?_
  obtain ⟨cQ, ca, h⟩ := bS h
  refine sApp (r := r_api_Stitch) (T := 81) (xs := aH) (ys := [(api_Stitch.mk 1 (a0 == 112) 0 0)]) (v := .slice ar aH.length au) (u := .slice c8 [(api_Stitch.mk 1 (a0 == 112) 0 0)].length c9) 2 (.agg #[.int .u8 0, .bool false, iv 0, iv 0]) 24 S (wN rfl) rfl Try.underlying47 rfl rfl (by decide) rfl rfl rfl (src_R (T := 81) 0 S.mem rfl) ca rfl (lb rfl) fun a w cb cc S => ?_
  refine sN S fun a S => ?_
  refine leafL (leafB (leafT (c7 _ _ ?_)))
  refine sRegion (sM S fun a S => ?_)
  refine sBin _ S (wN rfl) rfl rfl rfl (bAdd _ _ _ _ aI 1) rfl (lb rfl) fun a S => ?_
  refine sN S fun a S => ?_
  exact lT (⟨(cQ, w64 (aI + 1)), (Option.some.inj h).symm, ⟨cb, cc, S.fix [2, 0] [] (by decide) rfl rfl rfl⟩⟩)
 obtain ⟨rfl, S⟩ := hI
 have h := cz
 try dsimp only at h
 refine sSeq (fun dg cd => sRegion (sM S fun a S => ?_))
 obtain ⟨cA, ce, h⟩ := bS h
 refine sIndexS (v := p0) (j := 1) (k := .i64) S (wN rfl) rfl Try.underlying9 rfl rfl ce rfl (lb rfl) fun a S => ?_
 obtain ⟨a5, cg, h⟩ := bS h
 have S1 := S.mem
 refine sCq [.int .u8 cA] (.int .u8 a5) S callee106 (S1.quiet [] rfl) (fun E1 w1 S1 => c_raddleref25_kind E1 w1 cA a5 cg S1) fun a w S => ?_
 refine sField (b := a9) (off := 0) 0 0 S (wN rfl) rfl rfl rfl rfl rfl (lb rfl) fun a S => ?_
 refine sStore (p := a9) (off := 0) (T := 81) (vs := [.int .u8 1, .bool (a0 == 112), iv 0, iv 0]) (v := .int .u8 a5) 0 [.int .u8 a5] S (wN rfl) rfl rfl rfl rfl rfl rfl rfl (by simp) rfl fun a w S => ?_
 refine lT (cd _ _ (sSeq (fun dh ci => sSeq (fun di cj => sRegion (sField (b := a9) (off := 0) 0 0 S (wN rfl) rfl rfl rfl rfl rfl (lb rfl) fun a S => ?_)))))
 refine sLoad1 0 (.int .u8 a5) S (wN rfl) rfl rfl rfl rfl rfl rfl (lb rfl) fun a S => ?_
 refine sBin _ S (wN rfl) rfl rfl rfl (bEq _ _ _ _ .u8 a5 8) rfl (lb rfl) fun a S => ?_
 refine lT (cj _ _ ?_)
 rcases iS h with ⟨aX, h⟩ | ⟨aX, h⟩
 ·refine sCondT S rfl aX ?_
  refine sSeq (fun dj ck => sRegion (sLoadN (p := a9) (off := 0) (T := 81) (vs := [.int .u8 a5, .bool (a0 == 112), iv 0, iv 0]) 0 [.int .u8 a5, .bool (a0 == 112), iv 0, iv 0] S (wN rfl) rfl rfl rfl rfl rfl rfl rfl (lb rfl) fun a S => ?_))
  have S := S.learn (fRep r_api_Stitch (.agg #[.int .u8 a5, .bool (a0 == 112), iv 0, iv 0]) (api_Stitch.mk a5 (a0 == 112) 0 0)) rfl
  refine sLit (r := r_api_Stitch) (T := 81) (xs := [(api_Stitch.mk a5 (a0 == 112) 0 0)]) [(0, .agg #[.int .u8 a5, .bool (a0 == 112), iv 0, iv 0])] 1 [.agg #[.int .u8 a5, .bool (a0 == 112), iv 0, iv 0]] [.int .u8 a5, .bool (a0 == 112), iv 0, iv 0] (.agg #[.int .u8 0, .bool false, iv 0, iv 0]) 24 S (wN rfl) rfl rfl Try.underlying47 rfl (by decide) (by decide) (by kernel_rfl) rfl (fun E1 w1 hE => All.cons (r_api_Stitch.mono hE (S.mem.know (i := 0) (e := fRep r_api_Stitch (.agg #[.int .u8 a5, .bool (a0 == 112), iv 0, iv 0]) (api_Stitch.mk a5 (a0 == 112) 0 0)) rfl)) (All.nil _ _ _)) rfl rfl (lb rfl) fun a w aO aP S => ?_
  refine sM S fun a S => ?_
  refine sLenS (v := p0) S (wN rfl) rfl Try.underlying9 rfl rfl (lb rfl) fun a S => ?_
  refine sBin _ S (wN rfl) rfl rfl rfl (bEq _ _ _ _ .i64 (p0.size : Int) 2) rfl (lb rfl) fun a S => ?_
  refine sN S fun a S => ?_
  refine sN S fun a S => ?_
  refine lT (ck _ _ ?_)
  obtain rfl := tS h
  have S := S.shutR (r := r_api_Stitch) (T := 81) (v := .slice aO [(api_Stitch.mk a5 (a0 == 112) 0 0)].length aP) (xs := [(api_Stitch.mk a5 (a0 == 112) 0 0)]) 0 rfl
  exact wp_ret (rThen (sRet (.tuple #[.slice aO [(api_Stitch.mk a5 (a0 == 112) 0 0)].length aP, .bool ((p0.size : Int) == 2)]) S (rsl2 rfl (rvT (t := 2) (v := .slice aO [(api_Stitch.mk a5 (a0 == 112) 0 0)].length aP) S rfl) (rvT (t := 3) (v := .bool ((p0.size : Int) == 2)) S rfl)) ⟨(.slice aO [(api_Stitch.mk a5 (a0 == 112) 0 0)].length aP), rfl, S.mem.sel [] [0] (by decide) rfl rfl⟩))
 refine sCondF S rfl aX ?_
 refine wp_skip (leafT (ci _ _ ?_))
 refine sSeq (fun dk cl => sRegion (sM S fun a S => ?_))
 obtain ⟨cm, cn, h⟩ := bS h
 refine sSliceS (v := p0) (u := cm) (vlo := (some (.int .i64 2))) (vhi := none) (lo' := 2) (hi' := (p0.size : Int)) S (wN rfl) rfl Try.underlying9 rfl rfl rfl (.inl rfl) (.inr ⟨rfl, rfl⟩) cn rfl (lb rfl) fun a S => ?_
 obtain ⟨ae, co, h⟩ := bS h
 refine sCall (X := Value) (f := 94) (vs := [.string cm, .int .u8 47]) (val := c_raddleref25_Cut_val ae) (B' := fun _ => []) (D' := c_raddleref25_Cut_D ae) [] [eBox a9 81 [.int .u8 a5, .bool (a0 == 112), iv 0, iv 0]] [] [0] [] S (wN rfl) rfl callee94 rfl (by decide) rfl rfl (fun E1 w1 S1 => c_raddleref25_Cut E1 w1 cm 47 ae co S1) rfl (lb rfl) fun cp a w S => ?_
 obtain ⟨a7, a8, _, rfl, _⟩ := S.mem.know (i := 0) (e := fRep (rL rS) (cp) ae) rfl
 refine sN S fun a S => ?_
 refine lT (cl _ _ ?_)
 obtain ⟨cq, h, cr⟩ := bS h
 refine sCut (fun a w => ∃ ay, ay = cq ∧ St [] E [] w0 140 a w [(6, .pointer (some ⟨a9, 0, none⟩)), (11, .slice a7 ae.length a8), (12, .bool ay)] [eBox a9 81 [.int .u8 a5, .bool (a0 == 112), iv 0, iv 0]] [fRep (rL rS) (.slice a7 ae.length a8) ae]) ?_ (fun a w hI => ?_)
 ·refine sRegion (sField (b := a9) (off := 0) 0 0 S (wN rfl) rfl rfl rfl rfl rfl (lb rfl) fun a S => ?_)
  refine sLoad1 0 (.int .u8 a5) S (wN rfl) rfl rfl rfl rfl rfl rfl (lb rfl) fun a S => ?_
  refine sBin _ S (wN rfl) rfl rfl rfl (bNe _ _ _ _ .u8 a5 0) rfl (lb rfl) fun a S => ?_
  refine sM S fun a S => ?_
  rcases iS h with ⟨af, h⟩ | ⟨af, h⟩
  rotate_left
  ·refine sSkN 3 3 true 100 S rfl rfl af rfl fun a S => ?_
   refine sPickF (.bool false) S (wN rfl) rfl rfl af rfl rfl (lb rfl) fun a S => ?_
   refine sN S fun a S => ?_
   exact lT (⟨false, Option.some.inj h, S.fix [0] [0] (by decide) rfl rfl rfl⟩)
  refine sMove (.slice a7 ae.length a8) S (wG 3 true 100 rfl rfl rfl af) (.inl rfl) rfl rfl (lb rfl) fun a S => ?_
  refine sLen S (wG 3 true 100 rfl rfl rfl af) rfl Try.underlying142 rfl rfl (lb rfl) fun a S => ?_
  refine sBin _ S (wG 3 true 100 rfl rfl rfl af) rfl rfl rfl (bEq _ _ _ _ .i64 (ae.length : Int) 1) rfl (lb rfl) fun a S => ?_
  refine sPickT (.bool ((ae.length : Int) == 1)) S (wN rfl) rfl rfl af rfl rfl (lb rfl) fun a S => ?_
  refine sN S fun a S => ?_
  exact lT (⟨(ae.length : Int) == 1, Option.some.inj h, S.fix [0] [0] (by decide) rfl rfl rfl⟩)
 obtain ⟨ay, rfl, S⟩ := hI
 have h := cr
 try dsimp only at h
 obtain ⟨ct, h, cu⟩ := bS h
 refine sCut (fun a w => ∃ aZ, ∃ a6, (aZ, a6) = ct ∧ St [] E [] w0 140 a w [(6, .pointer (some ⟨a9, 0, none⟩)), (11, .slice a7 ae.length a8), (12, .bool aZ)] [eBox a9 81 [.int .u8 a5, .bool (a0 == 112), iv 0, iv a6]] [fRep (rL rS) (.slice a7 ae.length a8) ae]) ?_ (fun a w hI => ?_)
 ·obtain ⟨cv, h, cw⟩ := bS h
  refine sCut (fun a w => ∃ ba, ba = cv ∧ St [] E [] w0 140 a w [(6, .pointer (some ⟨a9, 0, none⟩)), (11, .slice a7 ae.length a8), (12, .bool ay), (112, .bool ba)] [eBox a9 81 [.int .u8 a5, .bool (a0 == 112), iv 0, iv 0]] [fRep (rL rS) (.slice a7 ae.length a8) ae]) ?_ (fun a w hI => ?_)
  ·refine sRegion (sField (b := a9) (off := 0) 0 0 S (wN rfl) rfl rfl rfl rfl rfl (lb rfl) fun a S => ?_)
   refine sLoad1 0 (.int .u8 a5) S (wN rfl) rfl rfl rfl rfl rfl rfl (lb rfl) fun a S => ?_
   refine sBin _ S (wN rfl) rfl rfl rfl (bEq _ _ _ _ .u8 a5 6) rfl (lb rfl) fun a S => ?_
   refine sM S fun a S => ?_
   rcases iS h with ⟨ag, h⟩ | ⟨ag, h⟩
   ·refine sSkN 3 3 false 108 S rfl rfl ag rfl fun a S => ?_
    refine sPickT (.bool true) S (wN rfl) rfl rfl ag rfl rfl (lb rfl) fun a S => ?_
    exact lT (⟨true, Option.some.inj h, S.fix [0] [0] (by decide) rfl rfl rfl⟩)
   refine sField (b := a9) (off := 0) 0 0 S (wG 3 false 108 rfl rfl rfl ag) rfl rfl rfl rfl rfl (lb rfl) fun a S => ?_
   refine sLoad1 0 (.int .u8 a5) S (wG 3 false 108 rfl rfl rfl ag) rfl rfl rfl rfl rfl rfl (lb rfl) fun a S => ?_
   refine sBin _ S (wG 3 false 108 rfl rfl rfl ag) rfl rfl rfl (bEq _ _ _ _ .u8 a5 7) rfl (lb rfl) fun a S => ?_
   refine sPickF (.bool (a5 == 7)) S (wN rfl) rfl rfl ag rfl rfl (lb rfl) fun a S => ?_
   exact lT (⟨a5 == 7, Option.some.inj h, S.fix [0] [0] (by decide) rfl rfl rfl⟩)
  obtain ⟨ba, rfl, S⟩ := hI
  have h := cw
  try dsimp only at h
  rcases iS h with ⟨az, h⟩ | ⟨az, h⟩
  rotate_left
  ·refine sCondF S rfl az ?_
   exact wp_skip (leafT (⟨ay, 0, Option.some.inj h, S.fix [0] [0] (by decide) rfl rfl rfl⟩))
  refine sCondT S rfl az ?_
  refine sSeq (fun cR bf => sRegion (sM S fun a S => ?_))
  refine sLen S (wN rfl) rfl Try.underlying142 rfl rfl (lb rfl) fun a S => ?_
  refine sBin _ S (wN rfl) rfl rfl rfl (bEq _ _ _ _ .i64 (ae.length : Int) 2) rfl (lb rfl) fun a S => ?_
  refine sN S fun a S => ?_
  refine lT (bf _ _ (sSeq (fun cS bg => sRegion (sM S fun a S => ?_))))
  refine lT (bg _ _ ?_)
  rcases iS h with ⟨aA, h⟩ | ⟨aA, h⟩
  rotate_left
  ·refine sCondF S rfl aA ?_
   exact wp_skip (leafT (⟨(ae.length : Int) == 2, 0, Option.some.inj h, S.fix [0] [0] (by decide) rfl rfl rfl⟩))
  refine sCondT S rfl aA ?_
  refine sRegion (sM S fun a S => ?_)
  obtain ⟨aw, bh, h⟩ := bS h
  obtain ⟨bi, bj, S⟩ := pIdx (P := Try.prog) (r := rS) (v := .slice a7 ae.length a8) (xs := ae) (j := 1) 142 9 0 S Try.underlying142 rfl rfl bh
  refine sIdxV S (wN rfl) rfl rfl rfl bj rfl (lb rfl) fun a S => ?_
  obtain ⟨bk, S⟩ := pLoad (r := rS) (q := bi) (x := aw) 0 S rfl
  obtain rfl : bk = .string aw := S.mem.know (i := 1) (e := fRep rS (bk) aw) rfl
  refine sLoadV1 (vq := bi) 0 (.string aw) S (wN rfl) rfl rfl rfl rfl rfl (lb rfl) fun a S => ?_
  obtain ⟨aa, bl, h⟩ := bS h
  have S1 := S.mem
  refine sCq [.string aw] (.tuple #[iv aa.1, .bool aa.2]) S callee97 (S1.quiet [] rfl) (fun E1 w1 S1 => c_raddleref25_Number E1 w1 aw aa bl S1) fun a w S => ?_
  refine sM S fun a S => ?_
  refine sExtract (vs := [iv aa.1, .bool aa.2]) (iv aa.1) S (wN rfl) rfl rfl rfl rfl (lb rfl) fun a S => ?_
  refine sExtract (vs := [iv aa.1, .bool aa.2]) (.bool aa.2) S (wN rfl) rfl rfl rfl rfl (lb rfl) fun a S => ?_
  refine sField (b := a9) (off := 0) 3 3 S (wN rfl) rfl rfl rfl rfl rfl (lb rfl) fun a S => ?_
  refine sStore (p := a9) (off := 3) (T := 81) (vs := [.int .u8 a5, .bool (a0 == 112), iv 0, iv 0]) (v := iv aa.1) 0 [iv aa.1] S (wN rfl) rfl rfl rfl rfl rfl rfl rfl (by simp) rfl fun a w S => ?_
  refine sN S fun a S => ?_
  exact lT (⟨aa.2, aa.1, Option.some.inj h, S.fix [0] [3] (by decide) rfl rfl rfl⟩)
 obtain ⟨aZ, a6, rfl, S⟩ := hI
 have h := cu
 try dsimp only at h
 refine sSeq (fun cT bm => sRegion (sM S fun a S => ?_))
 obtain ⟨ax, bn, h⟩ := bS h
 obtain ⟨bp, bq, S⟩ := pIdx (P := Try.prog) (r := rS) (v := .slice a7 ae.length a8) (xs := ae) (j := 0) 142 9 0 S Try.underlying142 rfl rfl bn
 refine sIdxV S (wN rfl) rfl rfl rfl bq rfl (lb rfl) fun a S => ?_
 obtain ⟨br, S⟩ := pLoad (r := rS) (q := bp) (x := ax) 0 S rfl
 obtain rfl : br = .string ax := S.mem.know (i := 1) (e := fRep rS (br) ax) rfl
 refine sLoadV1 (vq := bp) 0 (.string ax) S (wN rfl) rfl rfl rfl rfl rfl (lb rfl) fun a S => ?_
 obtain ⟨a4, bt, h⟩ := bS h
 have S1 := S.mem
 refine sCq [.string ax] (.tuple #[iv a4.1, .bool a4.2]) S callee97 (S1.quiet [] rfl) (fun E1 w1 S1 => c_raddleref25_Number E1 w1 ax a4 bt S1) fun a w S => ?_
 refine sM S fun a S => ?_
 refine sExtract (vs := [iv a4.1, .bool a4.2]) (iv a4.1) S (wN rfl) rfl rfl rfl rfl (lb rfl) fun a S => ?_
 refine sExtract (vs := [iv a4.1, .bool a4.2]) (.bool a4.2) S (wN rfl) rfl rfl rfl rfl (lb rfl) fun a S => ?_
 refine sN S fun a S => ?_
 refine sN S fun a S => ?_
 refine lT (bm _ _ (sSeq (fun cU bu => sRegion (sM S fun a S => ?_))))
 refine sField (b := a9) (off := 0) 2 2 S (wN rfl) rfl rfl rfl rfl rfl (lb rfl) fun a S => ?_
 refine sStore (p := a9) (off := 2) (T := 81) (vs := [.int .u8 a5, .bool (a0 == 112), iv 0, iv a6]) (v := iv a4.1) 0 [iv a4.1] S (wN rfl) rfl rfl rfl rfl rfl rfl rfl (by simp) rfl fun a w S => ?_
 refine lT (bu _ _ ?_)
 obtain ⟨cx, h, cy⟩ := bS h
 refine sCut (fun a w => ∃ aC, aC = cx ∧ ∃ ah, ∃ ai, St [] E [] w0 140 a w [(2, .slice ah [(api_Stitch.mk a5 (a0 == 112) a4.1 a6)].length ai), (3, .bool aC)] [eRow r_api_Stitch 81 (.slice ah [(api_Stitch.mk a5 (a0 == 112) a4.1 a6)].length ai) [(api_Stitch.mk a5 (a0 == 112) a4.1 a6)]] []) ?_ (fun a w hI => ?_)
 rotate_left
 ·obtain ⟨aC, rfl, ah, ai, S⟩ := hI
  have h := cy
  try dsimp only at h
  obtain rfl := tS h
  have S := S.shutR (r := r_api_Stitch) (T := 81) (v := .slice ah [(api_Stitch.mk a5 (a0 == 112) a4.1 a6)].length ai) (xs := [(api_Stitch.mk a5 (a0 == 112) a4.1 a6)]) 0 rfl
  exact wp_ret (sRet (.tuple #[.slice ah [(api_Stitch.mk a5 (a0 == 112) a4.1 a6)].length ai, .bool aC]) S (rsl2 rfl (rvT (t := 2) (v := .slice ah [(api_Stitch.mk a5 (a0 == 112) a4.1 a6)].length ai) S rfl) (rvT (t := 3) (v := .bool aC) S rfl)) ⟨(.slice ah [(api_Stitch.mk a5 (a0 == 112) a4.1 a6)].length ai), rfl, S.mem.sel [] [0] (by decide) rfl rfl⟩)
 refine sRegion (sLoadN (p := a9) (off := 0) (T := 81) (vs := [.int .u8 a5, .bool (a0 == 112), iv a4.1, iv a6]) 0 [.int .u8 a5, .bool (a0 == 112), iv a4.1, iv a6] S (wN rfl) rfl rfl rfl rfl rfl rfl rfl (lb rfl) fun a S => ?_)
 have S := S.learn (fRep r_api_Stitch (.agg #[.int .u8 a5, .bool (a0 == 112), iv a4.1, iv a6]) (api_Stitch.mk a5 (a0 == 112) a4.1 a6)) rfl
 refine sLit (r := r_api_Stitch) (T := 81) (xs := [(api_Stitch.mk a5 (a0 == 112) a4.1 a6)]) [(0, .agg #[.int .u8 a5, .bool (a0 == 112), iv a4.1, iv a6])] 1 [.agg #[.int .u8 a5, .bool (a0 == 112), iv a4.1, iv a6]] [.int .u8 a5, .bool (a0 == 112), iv a4.1, iv a6] (.agg #[.int .u8 0, .bool false, iv 0, iv 0]) 24 S (wN rfl) rfl rfl Try.underlying47 rfl (by decide) (by decide) (by kernel_rfl) rfl (fun E1 w1 hE => All.cons (r_api_Stitch.mono hE (S.mem.know (i := 0) (e := fRep r_api_Stitch (.agg #[.int .u8 a5, .bool (a0 == 112), iv a4.1, iv a6]) (api_Stitch.mk a5 (a0 == 112) a4.1 a6)) rfl)) (All.nil _ _ _)) rfl rfl (lb rfl) fun a w aQ aR S => ?_
 refine sM S fun a S => ?_
 refine sM S fun a S => ?_
 rcases iS h with ⟨aj, h⟩ | ⟨aj, h⟩
 rotate_left
 ·refine sSk S rfl rfl rfl aj rfl rfl fun a S => ?_
  refine sPickF (.bool false) S (wN rfl) rfl rfl aj rfl rfl (lb rfl) fun a S => ?_
  refine sN S fun a S => ?_
  refine sN S fun a S => ?_
  exact lT (⟨false, Option.some.inj h, aQ, aR, S.fix [0] [] (by decide) rfl rfl rfl⟩)
 refine sMove (.bool a4.2) S (wG 3 true 137 rfl rfl rfl aj) (.inl rfl) rfl rfl (lb rfl) fun a S => ?_
 refine sPickT (.bool a4.2) S (wN rfl) rfl rfl aj rfl rfl (lb rfl) fun a S => ?_
 refine sN S fun a S => ?_
 refine sN S fun a S => ?_
 exact lT (⟨a4.2, Option.some.inj h, aQ, aR, S.fix [0] [] (by decide) rfl rfl rfl⟩)
def anc_raddleref25_Written_0 : List (List Nat) := [[], [], [0, 1], [0, 1, 2], [0, 1, 2, 3], [0, 1, 2, 3, 4], [0, 1, 2, 3, 4, 5], [0, 1, 2, 3, 4, 5, 6], [0, 1, 2, 3, 4, 5, 6, 7], [0, 1, 2, 3, 4, 5, 6], [0, 1, 2, 3, 4, 5, 6, 9], [0, 1, 2, 3, 4, 5, 6, 7, 8, 9, 10], [0, 1, 2, 3, 4, 5, 6, 7, 8, 9, 10, 11], [0, 1, 2, 3, 4, 5, 6, 7, 8, 9, 10, 11, 12], [0, 1, 2, 3, 4, 5, 6, 7, 8, 9, 10, 11, 12, 13], [0, 1, 2, 3, 4, 5, 6, 7, 8, 9, 10, 11, 12, 13], [0, 1, 2, 3, 4, 5, 6, 7, 8, 9, 10, 11, 12, 13, 15], [0, 1, 2, 3, 4, 5, 6, 7, 8, 9, 10, 11, 12, 13, 14, 15, 16], [0, 1, 2, 3, 4, 5, 6, 7, 8, 9, 10, 11, 12, 13, 14, 15, 16, 17], [0, 1, 2, 3, 4, 5, 6, 7, 8, 9, 10, 11, 12, 13], [0, 1, 2, 3, 4, 5, 6, 7, 8, 9, 10, 11, 12, 13], [0, 1, 2, 3, 4, 5, 6, 7, 8, 9, 10, 11, 12, 13, 19, 20], [0, 1, 2, 3, 4, 5, 6, 7, 8, 9, 10, 11, 12, 13, 19, 20, 21], [0, 1, 2, 3, 4, 5, 6, 7, 8, 9, 10, 11, 12, 13, 14, 15, 16, 17, 18, 19, 20, 21, 22], [0, 1, 2, 3, 4, 5, 6, 7, 8, 9, 10, 11, 12, 13, 14, 15, 16, 17, 18, 19, 20, 21, 22, 23]]
noncomputable def raddleref25_Written_l1 (p0 : (List api_Stitch)) : (Int × Int) → Option ((Int × Int) ⊕ (Int × Int)) := fun s0 => match s0 with
 | (a0, a6) =>
  Option.bind (α := Bool) (
   (idxO p0 a0).bind fun a4 =>
   if a4.Kind == 1 then
    if decide ((w64 (a0 + 1)) < (p0.length : Int)) then
     (idxO p0 (w64 (a0 + 1))).bind fun a5 =>
     some ((a5.Kind == a4.Kind) && ((a5.Purl == a4.Purl) && ((a5.A == a4.A) && ((a5.B == a4.B) && true))))
    else
     some false
   else
    some false) fun a7 =>
  if a7 then
   some (.inl (w64 (a0 + 1), w64 (a6 + 1)))
  else
   some (.inr (a0, a6))
noncomputable def raddleref25_Written_l2 (p0 : (List api_Stitch)) : (ByteArray × Int) → Option ((ByteArray × Int) ⊕ ByteArray) := fun s0 => match s0 with
 | (s9, a0) =>
  if decide (a0 < (p0.length : Int)) then
   Option.bind (α := (ByteArray × Int)) (
    Option.bind (α := ByteArray) (
     if decide (0 < a0) then
      (addS s9 (⟨#[32]⟩ : ByteArray)).bind fun a7 =>
      some a7
     else
      some s9) fun a8 =>
    (idxO p0 a0).bind fun a9 =>
    (F_raddleref25_one a9).bind fun aa =>
    (addS a8 aa).bind fun a4 =>
    Option.bind (α := (Int × Int)) (
     (whileO (raddleref25_Written_l1 p0) (a0, 1)).bind fun (ab, ac) =>
      some (ab, ac)) fun (a5, a6) =>
    if decide (1 < a6) then
     (F_raddleref25_Decimal a6).bind fun ae =>
     (addS a4 ae).bind fun af =>
     some (af, a5)
    else
     some (a4, a5)) fun (ag, ah) =>
   some (.inl (ag, w64 (ah + 1)))
  else
   some (.inr s9)
noncomputable def F_raddleref25_Written (p0 : (List api_Stitch)) : Option ByteArray :=
 Option.bind (α := ByteArray) (
  (whileO (raddleref25_Written_l2 p0) ((⟨#[]⟩ : ByteArray), 0)).bind fun a0 =>
   some a0) fun o5 =>
 some o5
theorem c_raddleref25_Written (E : Nat → Prop) (w0 : World) (p0 : (List api_Stitch)) (v0 : Value) (r : ByteArray) (h : F_raddleref25_Written p0 = some r) (S : St0 E [] w0 w0 [] [fRep (rL r_api_Stitch) (v0) p0]) :
 Calls Try.prog 96 #[v0] w0 (Ret (X := Unit) E [] w0 (fun _ => .string r) (fun _ => []) (fun _ => [])) := by
 unfold F_raddleref25_Written at h
 obtain ⟨a8, a9, _, rfl, _⟩ := S.know (i := 0) (e := fRep (rL r_api_Stitch) (v0) p0) rfl
 refine sEnter (args := [.slice a8 p0.length a9]) 59 Try.func96 rfl rfl (by simp) S (fun a S => ?_)
 refine sSeq (fun K3 bw => sRegion (sN S fun a S => ?_))
 refine lT (bw _ _ (sSeq (fun K4 bx => sRegion (sN S fun a S => ?_))))
 refine lT (bx _ _ ?_)
 obtain ⟨t6, h, g7⟩ := bS h
 refine sCut (fun a w => ∃ o5, o5 = t6 ∧ St [] E [] w0 59 a w [(3, .string o5)] [] []) ?_ (fun a w hI => ?_)
 rotate_left
 ·obtain ⟨o5, rfl, S⟩ := hI
  have h := g7
  try dsimp only at h
  refine sSeq (fun bz am => sRegion (sM S fun a S => ?_))
  refine sN S fun a S => ?_
  refine lT (am _ _ ?_)
  obtain rfl := tS h
  exact wp_ret (sRet (.string o5) S (rsl1 rfl (rvT (t := 2) (v := .string o5) S rfl)) ⟨(), rfl, S.mem.sel [] [] (by decide) rfl rfl⟩)
 refine sSeq (fun K8 bA => sRegion (sN S fun a S => ?_))
 refine lT (bA _ _ (wp_block ?_))
 obtain ⟨bO, hl, bB⟩ := bS h
 refine sLoop hl (fun s0 a w => match s0 with | (s9, aj) => St [] E [] w0 59 a w [(0, .slice a8 p0.length a9), (3, .string s9), (4, iv aj)] [] [fRep (rL r_api_Stitch) (.slice a8 p0.length a9) p0]) (S.fix [] [0] (by decide) rfl rfl rfl) ?_
 clear hl h
 intro s0 a w c0 hI h ax
 obtain ⟨s9, aj⟩ := s0
 unfold raddleref25_Written_l2 at h
 dsimp only at h hI
 have S := hI
 refine sSeq (fun bP ay => sSeq (fun bQ az => sRegion (sM S fun a S => ?_)))
 refine sM S fun a S => ?_
 refine sLen S (wN rfl) rfl Try.underlying47 rfl rfl (lb rfl) fun a S => ?_
 refine sBin _ S (wN rfl) rfl rfl rfl (bLt _ _ _ _ .i64 aj (p0.length : Int)) rfl (lb rfl) fun a S => ?_
 refine lT (az _ _ ?_)
 rcases iS h with ⟨af, h⟩ | ⟨af, h⟩
 rotate_left
 ·refine sCondF S rfl af ?_
  obtain rfl := tS h
  obtain rfl := ax _ rfl
  have h := bB
  try dsimp only at h
  exact wp_exit (xThen (xThen (xHit (leafT (⟨s9, Option.some.inj h, S.fix [] [] (by decide) rfl rfl rfl⟩)))))
 refine sCondT S rfl af ?_
 refine wp_skip (leafT (ay _ _ ?_))
 obtain ⟨bC, h, bD⟩ := bS h
 refine sCut (fun a w => ∃ ar, ∃ ao, (ar, ao) = bC ∧ St [] E [] w0 59 a w [(0, .slice a8 p0.length a9), (3, .string ar), (4, iv ao)] [] [fRep (rL r_api_Stitch) (.slice a8 p0.length a9) p0]) ?_ (fun a w hI => ?_)
 rotate_left
 ·obtain ⟨ar, ao, rfl, S⟩ := hI
  have h := bD
  try dsimp only at h
  refine sRegion (sM S fun a S => ?_)
  refine sBin _ S (wN rfl) rfl rfl rfl (bAdd _ _ _ _ ao 1) rfl (lb rfl) fun a S => ?_
  refine sN S fun a S => ?_
  exact lT (⟨(ar, w64 (ao + 1)), (Option.some.inj h).symm, (S.fix [] [0] (by decide) rfl rfl rfl)⟩)
 refine wp_block ?_
 obtain ⟨bE, h, bG⟩ := bS h
 refine sCut (fun a w => ∃ au, au = bE ∧ St [] E [] w0 59 a w [(0, .slice a8 p0.length a9), (3, .string au), (4, iv aj)] [] [fRep (rL r_api_Stitch) (.slice a8 p0.length a9) p0]) ?_ (fun a w hI => ?_)
 ·refine sSeq (fun bR aA => sRegion (sM S fun a S => ?_))
  refine sBin _ S (wN rfl) rfl rfl rfl (bGt _ _ _ _ .i64 aj 0) rfl (lb rfl) fun a S => ?_
  refine lT (aA _ _ ?_)
  rcases iS h with ⟨ag, h⟩ | ⟨ag, h⟩
  rotate_left
  ·refine sCondF S rfl ag ?_
   exact wp_skip (leafT (⟨s9, Option.some.inj h, S.fix [] [0] (by decide) rfl rfl rfl⟩))
  refine sCondT S rfl ag ?_
  refine sRegion (sM S fun a S => ?_)
  obtain ⟨bH, aC, h⟩ := bS h
  refine sBin _ S (wN rfl) rfl rfl rfl (bAddS _ _ _ _ (x := s9) (y := (⟨#[32]⟩ : ByteArray)) aC) rfl (lb rfl) fun a S => ?_
  refine sN S fun a S => ?_
  exact lT (⟨bH, Option.some.inj h, S.fix [] [0] (by decide) rfl rfl rfl⟩)
 obtain ⟨au, rfl, S⟩ := hI
 have h := bG
 try dsimp only at h
 refine sSeq (fun bU aG => sRegion (sM S fun a S => ?_))
 refine sM S fun a S => ?_
 refine sM S fun a S => ?_
 obtain ⟨aa, aH, h⟩ := bS h
 obtain ⟨bn, aI, S⟩ := pIdx (P := Try.prog) (r := r_api_Stitch) (v := .slice a8 p0.length a9) (xs := p0) (j := aj) 47 81 0 S Try.underlying47 rfl rfl aH
 refine sIdxV S (wN rfl) rfl rfl rfl aI rfl (lb rfl) fun a S => ?_
 obtain ⟨bp, S⟩ := pLoad (r := r_api_Stitch) (q := bn) (x := aa) 0 S rfl
 obtain rfl : bp = .agg #[.int .u8 aa.Kind, .bool aa.Purl, iv aa.A, iv aa.B] := S.mem.know (i := 1) (e := fRep r_api_Stitch (bp) aa) rfl
 refine sLoadVN (vq := bn) 0 [.int .u8 aa.Kind, .bool aa.Purl, iv aa.A, iv aa.B] S (wN rfl) rfl rfl rfl rfl rfl rfl (lb rfl) fun a S => ?_
 obtain ⟨aJ, aK, h⟩ := bS h
 have S1 := S.mem
 refine sCq [.agg #[.int .u8 aa.Kind, .bool aa.Purl, iv aa.A, iv aa.B]] (.string aJ) S callee107 (S1.quiet [1] rfl) (fun E1 w1 S1 => c_raddleref25_one E1 w1 aa (.agg #[.int .u8 aa.Kind, .bool aa.Purl, iv aa.A, iv aa.B]) aJ aK S1) fun a w S => ?_
 obtain ⟨ae, aL, h⟩ := bS h
 refine sBin _ S (wN rfl) rfl rfl rfl (bAddS _ _ _ _ (x := au) (y := aJ) aL) rfl (lb rfl) fun a S => ?_
 refine sN S fun a S => ?_
 refine lT (aG _ _ (sSeq (fun bV aM => sRegion (sN S fun a S => ?_))))
 refine lT (aM _ _ ?_)
 obtain ⟨bI, h, bJ⟩ := bS h
 refine sCut (fun a w => ∃ ap, ∃ ak, (ap, ak) = bI ∧ St [] E [] w0 59 a w [(0, .slice a8 p0.length a9), (3, .string ae), (4, iv ap), (5, iv ak)] [] [fRep (rL r_api_Stitch) (.slice a8 p0.length a9) p0]) ?_ (fun a w hI => ?_)
 rotate_left
 ·obtain ⟨ap, ak, rfl, S⟩ := hI
  have h := bJ
  try dsimp only at h
  refine sSeq (fun bW aO => sRegion (sM S fun a S => ?_))
  refine sBin _ S (wN rfl) rfl rfl rfl (bGt _ _ _ _ .i64 ak 1) rfl (lb rfl) fun a S => ?_
  refine lT (aO _ _ ?_)
  rcases iS h with ⟨ah, h⟩ | ⟨ah, h⟩
  rotate_left
  ·refine sCondF S rfl ah ?_
   exact wp_skip (leafB (leafT (⟨ae, ap, Option.some.inj h, S.fix [] [0] (by decide) rfl rfl rfl⟩)))
  refine sCondT S rfl ah ?_
  refine sRegion (sM S fun a S => ?_)
  refine sM S fun a S => ?_
  obtain ⟨aP, aQ, h⟩ := bS h
  have S1 := S.mem
  refine sCq [iv ak] (.string aP) S callee108 (S1.quiet [] rfl) (fun E1 w1 S1 => c_raddleref25_Decimal E1 w1 ak aP aQ S1) fun a w S => ?_
  obtain ⟨bK, aq, h⟩ := bS h
  refine sBin _ S (wN rfl) rfl rfl rfl (bAddS _ _ _ _ (x := ae) (y := aP) aq) rfl (lb rfl) fun a S => ?_
  refine sN S fun a S => ?_
  exact leafL (leafB (leafT (⟨bK, ap, Option.some.inj h, S.fix [] [0] (by decide) rfl rfl rfl⟩)))
 refine wp_block ?_
 obtain ⟨bX, hl, bL⟩ := bS h
 refine sLoop hl (fun s0 a w => match s0 with | (a4, ab) => St [] E [] w0 59 a w [(0, .slice a8 p0.length a9), (3, .string ae), (4, iv a4), (5, iv ab)] [] [fRep (rL r_api_Stitch) (.slice a8 p0.length a9) p0]) (S.fix [] [3] (by decide) rfl rfl rfl) ?_
 clear hl h
 intro s0 a w c0 hI h aR
 obtain ⟨a4, ab⟩ := s0
 unfold raddleref25_Written_l1 at h
 dsimp only at h hI
 have S := hI
 refine sSeq (fun bY aS => ?_)
 obtain ⟨bM, h, bN⟩ := bS h
 refine sCut (fun a w => ∃ aT, aT = bM ∧ St [] E [] w0 59 a w [(0, .slice a8 p0.length a9), (3, .string ae), (4, iv a4), (5, iv ab), (47, .bool aT)] [] [fRep (rL r_api_Stitch) (.slice a8 p0.length a9) p0]) ?_ (fun a w hI => ?_)
 rotate_left
 ·obtain ⟨aT, rfl, S⟩ := hI
  have h := bN
  try dsimp only at h
  rcases iS h with ⟨ai, h⟩ | ⟨ai, h⟩
  rotate_left
  ·refine sCondF S rfl ai ?_
   obtain rfl := tS h
   obtain rfl := aR _ rfl
   have h := bL
   try dsimp only at h
   exact wp_exit (xThen (xThen (xHit (leafT (⟨a4, ab, Option.some.inj h, S.fix [] [0] (by decide) rfl rfl rfl⟩)))))
  refine sCondT S rfl ai ?_
  refine wp_skip (leafT (aS _ _ ?_))
  refine wp_block ?_
  refine sSeq (fun bZ aU => sRegion (sM S fun a S => ?_))
  refine sBin _ S (wN rfl) rfl rfl rfl (bAdd _ _ _ _ a4 1) rfl (lb rfl) fun a S => ?_
  refine sN S fun a S => ?_
  refine lT (aU _ _ (sRegion (sM S fun a S => ?_)))
  refine sBin _ S (wN rfl) rfl rfl rfl (bAdd _ _ _ _ ab 1) rfl (lb rfl) fun a S => ?_
  refine sN S fun a S => ?_
  exact leafL (leafB (leafT (⟨(w64 (a4 + 1), w64 (ab + 1)), (Option.some.inj h).symm, (S.fix [] [0] (by decide) rfl rfl rfl)⟩)))
 obtain ⟨a0, ac, h⟩ := bS h
 rcases iS h with ⟨a7, h⟩ | ⟨a7, h⟩
 rotate_left
 ·obtain ⟨aV, aW, S⟩ := pIdx (P := Try.prog) (r := r_api_Stitch) (v := .slice a8 p0.length a9) (xs := p0) (j := a4) 47 81 0 S Try.underlying47 rfl rfl ac
  obtain ⟨aX, aZ, S⟩ := pFld (P := Try.prog) (r := r_api_Stitch) (s2 := (rI .u8)) (g := (·.Kind)) (q := aV) (z := a0) 81 0 0 0 S rfl rfl comp_api_Stitch_Kind
  obtain ⟨bq, S⟩ := pLoad (r := (rI .u8)) (q := aX) (x := a0.Kind) 0 S rfl
  obtain rfl : bq = .int .u8 a0.Kind := S.mem.know (i := 1) (e := fRep (rI .u8) (bq) a0.Kind) rfl
  refine sDraw (nf := []) (W := [(0, 23, .slice a8 p0.length a9), (1, 24, iv a4), (2, 25, aV), (3, 26, aX), (4, 27, .int .u8 a0.Kind), (5, 28, .bool (a0.Kind == 1)), (6, 29, .bool (a0.Kind == 1)), (7, 30, undef), (8, 31, undef), (9, 32, undef), (10, 33, undef), (11, 34, undef), (12, 35, .bool false), (13, 36, .bool false), (14, 37, undef), (15, 38, undef), (16, 39, undef), (17, 40, undef), (18, 41, undef), (19, 42, undef), (20, 43, undef), (21, 44, undef), (22, 45, undef), (23, 46, undef), (24, 47, .bool false)]) rfl S ?_
  refine node_by (A := anc_raddleref25_Written_0) 25 (by kernel_rfl) (by kernel_rfl) (by kernel_rfl) (by kernel_rfl) (by kernel_rfl) [0, 1, 2, 3, 4, 5, 6, 7, 8, 9, 10, 11, 12, 13, 14, 15, 16, 17, 18, 19, 20, 21, 22, 23, 24] (by kernel_rfl) (by decide) (by decide) (fF ?_ (fF ?_ (fF ?_ (fF ?_ (fF ?_ (fF ?_ (fF ?_ (fF ?_ (fF ?_ (fF ?_ (fF ?_ (fF ?_ (fF ?_ (fF ?_ (fF ?_ (fF ?_ (fF ?_ (fF ?_ (fF ?_ (fF ?_ (fF ?_ (fF ?_ (fF ?_ (fF ?_ (fF ?_ (trivial)))))))))))))))))))))))))) [(0, .slice a8 p0.length a9), (3, .string ae), (4, iv a4), (5, iv ab), (30, undef), (31, undef), (32, undef), (33, undef), (34, undef), (37, undef), (38, undef), (39, undef), (40, undef), (41, undef), (42, undef), (43, undef), (44, undef), (45, undef), (46, undef), (47, .bool false)] (fin_of [none, none, none, none, some 7, some 8, some 9, some 10, some 11, some 14, some 15, some 16, some 17, some 18, some 19, some 20, some 21, some 22, some 23, some 24] rfl (by kernel_rfl) (by kernel_rfl)) (fun _ a w S => ?_)
  ·exact fM 0 none rfl rfl rfl rfl (.inl rfl) rfl rfl rfl
  ·exact fM 1 none rfl rfl rfl rfl (.inl rfl) rfl rfl rfl
  ·refine fJ [(23, _), (24, _)] 2 [some 0, some 1] fun G a w S => ?_
   exact sIdxV S (wN rfl) rfl rfl rfl aW rfl (lb rfl) fun a S => leafL ⟨rfl, S⟩
  ·refine fJ [(25, _)] 3 [some 2] fun G a w S => ?_
   exact sFldV (q := aV) S (wN rfl) rfl rfl aZ rfl (lb rfl) fun a S => leafL ⟨rfl, S⟩
  ·refine fJ [(26, _)] 4 [some 3] fun G a w S => ?_
   exact sLoadV1 (vq := aX) 0 (.int .u8 a0.Kind) S (wN rfl) rfl rfl rfl rfl rfl (lb rfl) fun a S => leafL ⟨rfl, S⟩
  ·refine fJ [(27, _)] 5 [some 4] fun G a w S => ?_
   exact sBin _ S (wN rfl) rfl rfl rfl (bEq _ _ _ _ .u8 a0.Kind 1) rfl (lb rfl) fun a S => leafL ⟨rfl, S⟩
  ·exact fM 6 (some 5) rfl rfl rfl rfl (.inl rfl) rfl rfl rfl
  ·refine fJ [(4, _), (29, _)] 7 [none, some 6] fun G a w S => ?_
   exact sSk S rfl rfl rfl a7 rfl rfl fun a S => leafL ⟨rfl, S⟩
  ·refine fJ [(30, _), (29, _)] 8 [some 7, some 6] fun G a w S => ?_
   exact sSk S rfl rfl rfl a7 rfl rfl fun a S => leafL ⟨rfl, S⟩
  ·refine fJ [(0, _), (29, _)] 9 [none, some 6] fun G a w S => ?_
   exact sSk S rfl rfl rfl a7 rfl rfl fun a S => leafL ⟨rfl, S⟩
  ·refine fJ [(32, _), (29, _)] 10 [some 9, some 6] fun G a w S => ?_
   exact sSk S rfl rfl rfl a7 rfl rfl fun a S => leafL ⟨rfl, S⟩
  ·refine fJ [(31, _), (33, _), (29, _)] 11 [some 8, some 10, some 6] fun G a w S => ?_
   exact sSk S rfl rfl rfl a7 rfl rfl fun a S => leafL ⟨rfl, S⟩
  ·refine fJ [(29, _), (34, _)] 12 [some 6, some 11] fun G a w S => ?_
   exact sPickF (.bool false) S (wN rfl) rfl rfl a7 rfl rfl (lb rfl) fun a S => leafL ⟨rfl, S⟩
  ·exact fM 13 (some 12) rfl rfl rfl rfl (.inl rfl) rfl rfl rfl
  ·refine fJ [(0, _), (36, _)] 14 [none, some 13] fun G a w S => ?_
   exact sSk S rfl rfl rfl rfl rfl rfl fun a S => leafL ⟨rfl, S⟩
  ·refine fJ [(4, _), (36, _)] 15 [none, some 13] fun G a w S => ?_
   exact sSk S rfl rfl rfl rfl rfl rfl fun a S => leafL ⟨rfl, S⟩
  ·refine fJ [(38, _), (36, _)] 16 [some 15, some 13] fun G a w S => ?_
   exact sSk S rfl rfl rfl rfl rfl rfl fun a S => leafL ⟨rfl, S⟩
  ·refine fJ [(37, _), (39, _), (36, _)] 17 [some 14, some 16, some 13] fun G a w S => ?_
   exact sSk S rfl rfl rfl rfl rfl rfl fun a S => leafL ⟨rfl, S⟩
  ·refine fJ [(40, _), (36, _)] 18 [some 17, some 13] fun G a w S => ?_
   exact sSk S rfl rfl rfl rfl rfl rfl fun a S => leafL ⟨rfl, S⟩
  ·refine fJ [(0, _), (36, _)] 19 [none, some 13] fun G a w S => ?_
   exact sSk S rfl rfl rfl rfl rfl rfl fun a S => leafL ⟨rfl, S⟩
  ·refine fJ [(4, _), (36, _)] 20 [none, some 13] fun G a w S => ?_
   exact sSk S rfl rfl rfl rfl rfl rfl fun a S => leafL ⟨rfl, S⟩
  ·refine fJ [(42, _), (43, _), (36, _)] 21 [some 19, some 20, some 13] fun G a w S => ?_
   exact sSk S rfl rfl rfl rfl rfl rfl fun a S => leafL ⟨rfl, S⟩
  ·refine fJ [(44, _), (36, _)] 22 [some 21, some 13] fun G a w S => ?_
   exact sSk S rfl rfl rfl rfl rfl rfl fun a S => leafL ⟨rfl, S⟩
  ·refine fJ [(41, _), (45, _), (36, _)] 23 [some 18, some 22, some 13] fun G a w S => ?_
   exact sSk S rfl rfl rfl rfl rfl rfl fun a S => leafL ⟨rfl, S⟩
  ·refine fJ [(36, _), (46, _)] 24 [some 13, some 23] fun G a w S => ?_
   exact sPickF (.bool false) S (wN rfl) rfl rfl rfl rfl rfl (lb rfl) fun a S => leafL ⟨rfl, S⟩
  exact leafT (⟨false, Option.some.inj h, S.fix [] [4] (by decide) rfl rfl rfl⟩)
 rcases iS h with ⟨a6, h⟩ | ⟨a6, h⟩
 rotate_left
 ·obtain ⟨ba, bb, S⟩ := pIdx (P := Try.prog) (r := r_api_Stitch) (v := .slice a8 p0.length a9) (xs := p0) (j := a4) 47 81 0 S Try.underlying47 rfl rfl ac
  obtain ⟨bc, bf, S⟩ := pFld (P := Try.prog) (r := r_api_Stitch) (s2 := (rI .u8)) (g := (·.Kind)) (q := ba) (z := a0) 81 0 0 0 S rfl rfl comp_api_Stitch_Kind
  obtain ⟨br, S⟩ := pLoad (r := (rI .u8)) (q := bc) (x := a0.Kind) 0 S rfl
  obtain rfl : br = .int .u8 a0.Kind := S.mem.know (i := 1) (e := fRep (rI .u8) (br) a0.Kind) rfl
  refine sDraw (nf := []) (W := [(0, 23, .slice a8 p0.length a9), (1, 24, iv a4), (2, 25, ba), (3, 26, bc), (4, 27, .int .u8 a0.Kind), (5, 28, .bool (a0.Kind == 1)), (6, 29, .bool (a0.Kind == 1)), (7, 30, iv a4), (8, 31, iv (w64 (a4 + 1))), (9, 32, .slice a8 p0.length a9), (10, 33, iv (p0.length : Int)), (11, 34, .bool (decide ((w64 (a4 + 1)) < (p0.length : Int)))), (12, 35, .bool (decide ((w64 (a4 + 1)) < (p0.length : Int)))), (13, 36, .bool (decide ((w64 (a4 + 1)) < (p0.length : Int)))), (14, 37, undef), (15, 38, undef), (16, 39, undef), (17, 40, undef), (18, 41, undef), (19, 42, undef), (20, 43, undef), (21, 44, undef), (22, 45, undef), (23, 46, undef), (24, 47, .bool false)]) rfl S ?_
  refine node_by (A := anc_raddleref25_Written_0) 25 (by kernel_rfl) (by kernel_rfl) (by kernel_rfl) (by kernel_rfl) (by kernel_rfl) [0, 1, 2, 3, 4, 5, 6, 7, 8, 9, 10, 11, 12, 13, 14, 15, 16, 17, 18, 19, 20, 21, 22, 23, 24] (by kernel_rfl) (by decide) (by decide) (fF ?_ (fF ?_ (fF ?_ (fF ?_ (fF ?_ (fF ?_ (fF ?_ (fF ?_ (fF ?_ (fF ?_ (fF ?_ (fF ?_ (fF ?_ (fF ?_ (fF ?_ (fF ?_ (fF ?_ (fF ?_ (fF ?_ (fF ?_ (fF ?_ (fF ?_ (fF ?_ (fF ?_ (fF ?_ (trivial)))))))))))))))))))))))))) [(0, .slice a8 p0.length a9), (3, .string ae), (4, iv a4), (5, iv ab), (30, iv a4), (31, iv (w64 (a4 + 1))), (32, .slice a8 p0.length a9), (33, iv (p0.length : Int)), (34, .bool (decide ((w64 (a4 + 1)) < (p0.length : Int)))), (37, undef), (38, undef), (39, undef), (40, undef), (41, undef), (42, undef), (43, undef), (44, undef), (45, undef), (46, undef), (47, .bool false)] (fin_of [none, none, none, none, some 7, some 8, some 9, some 10, some 11, some 14, some 15, some 16, some 17, some 18, some 19, some 20, some 21, some 22, some 23, some 24] rfl (by kernel_rfl) (by kernel_rfl)) (fun _ a w S => ?_)
  ·exact fM 0 none rfl rfl rfl rfl (.inl rfl) rfl rfl rfl
  ·exact fM 1 none rfl rfl rfl rfl (.inl rfl) rfl rfl rfl
  ·refine fJ [(23, _), (24, _)] 2 [some 0, some 1] fun G a w S => ?_
   exact sIdxV S (wN rfl) rfl rfl rfl bb rfl (lb rfl) fun a S => leafL ⟨rfl, S⟩
  ·refine fJ [(25, _)] 3 [some 2] fun G a w S => ?_
   exact sFldV (q := ba) S (wN rfl) rfl rfl bf rfl (lb rfl) fun a S => leafL ⟨rfl, S⟩
  ·refine fJ [(26, _)] 4 [some 3] fun G a w S => ?_
   exact sLoadV1 (vq := bc) 0 (.int .u8 a0.Kind) S (wN rfl) rfl rfl rfl rfl rfl (lb rfl) fun a S => leafL ⟨rfl, S⟩
  ·refine fJ [(27, _)] 5 [some 4] fun G a w S => ?_
   exact sBin _ S (wN rfl) rfl rfl rfl (bEq _ _ _ _ .u8 a0.Kind 1) rfl (lb rfl) fun a S => leafL ⟨rfl, S⟩
  ·exact fM 6 (some 5) rfl rfl rfl rfl (.inl rfl) rfl rfl rfl
  ·refine fJ [(4, _), (29, _)] 7 [none, some 6] fun G a w S => ?_
   exact sMove (iv a4) S (wG 6 true 29 rfl rfl rfl a7) (.inl rfl) rfl rfl (lb rfl) fun a S => leafL ⟨rfl, S⟩
  ·refine fJ [(30, _), (29, _)] 8 [some 7, some 6] fun G a w S => ?_
   exact sBin _ S (wG 6 true 29 rfl rfl rfl a7) rfl rfl rfl (bAdd _ _ _ _ a4 1) rfl (lb rfl) fun a S => leafL ⟨rfl, S⟩
  ·refine fJ [(0, _), (29, _)] 9 [none, some 6] fun G a w S => ?_
   exact sMove (.slice a8 p0.length a9) S (wG 6 true 29 rfl rfl rfl a7) (.inl rfl) rfl rfl (lb rfl) fun a S => leafL ⟨rfl, S⟩
  ·refine fJ [(32, _), (29, _)] 10 [some 9, some 6] fun G a w S => ?_
   exact sLen S (wG 6 true 29 rfl rfl rfl a7) rfl Try.underlying47 rfl rfl (lb rfl) fun a S => leafL ⟨rfl, S⟩
  ·refine fJ [(31, _), (33, _), (29, _)] 11 [some 8, some 10, some 6] fun G a w S => ?_
   exact sBin _ S (wG 6 true 29 rfl rfl rfl a7) rfl rfl rfl (bLt _ _ _ _ .i64 (w64 (a4 + 1)) (p0.length : Int)) rfl (lb rfl) fun a S => leafL ⟨rfl, S⟩
  ·refine fJ [(29, _), (34, _)] 12 [some 6, some 11] fun G a w S => ?_
   exact sPickT (.bool (decide ((w64 (a4 + 1)) < (p0.length : Int)))) S (wN rfl) rfl rfl a7 rfl rfl (lb rfl) fun a S => leafL ⟨rfl, S⟩
  ·exact fM 13 (some 12) rfl rfl rfl rfl (.inl rfl) rfl rfl rfl
  ·refine fJ [(0, _), (36, _)] 14 [none, some 13] fun G a w S => ?_
   exact sSk S rfl rfl rfl a6 rfl rfl fun a S => leafL ⟨rfl, S⟩
  ·refine fJ [(4, _), (36, _)] 15 [none, some 13] fun G a w S => ?_
   exact sSk S rfl rfl rfl a6 rfl rfl fun a S => leafL ⟨rfl, S⟩
  ·refine fJ [(38, _), (36, _)] 16 [some 15, some 13] fun G a w S => ?_
   exact sSk S rfl rfl rfl a6 rfl rfl fun a S => leafL ⟨rfl, S⟩
  ·refine fJ [(37, _), (39, _), (36, _)] 17 [some 14, some 16, some 13] fun G a w S => ?_
   exact sSk S rfl rfl rfl a6 rfl rfl fun a S => leafL ⟨rfl, S⟩
  ·refine fJ [(40, _), (36, _)] 18 [some 17, some 13] fun G a w S => ?_
   exact sSk S rfl rfl rfl a6 rfl rfl fun a S => leafL ⟨rfl, S⟩
  ·refine fJ [(0, _), (36, _)] 19 [none, some 13] fun G a w S => ?_
   exact sSk S rfl rfl rfl a6 rfl rfl fun a S => leafL ⟨rfl, S⟩
  ·refine fJ [(4, _), (36, _)] 20 [none, some 13] fun G a w S => ?_
   exact sSk S rfl rfl rfl a6 rfl rfl fun a S => leafL ⟨rfl, S⟩
  ·refine fJ [(42, _), (43, _), (36, _)] 21 [some 19, some 20, some 13] fun G a w S => ?_
   exact sSk S rfl rfl rfl a6 rfl rfl fun a S => leafL ⟨rfl, S⟩
  ·refine fJ [(44, _), (36, _)] 22 [some 21, some 13] fun G a w S => ?_
   exact sSk S rfl rfl rfl a6 rfl rfl fun a S => leafL ⟨rfl, S⟩
  ·refine fJ [(41, _), (45, _), (36, _)] 23 [some 18, some 22, some 13] fun G a w S => ?_
   exact sSk S rfl rfl rfl a6 rfl rfl fun a S => leafL ⟨rfl, S⟩
  ·refine fJ [(36, _), (46, _)] 24 [some 13, some 23] fun G a w S => ?_
   exact sPickF (.bool false) S (wN rfl) rfl rfl a6 rfl rfl (lb rfl) fun a S => leafL ⟨rfl, S⟩
  exact leafT (⟨false, Option.some.inj h, S.fix [] [4] (by decide) rfl rfl rfl⟩)
 obtain ⟨a5, bg, h⟩ := bS h
 obtain ⟨bh, bi, S⟩ := pIdx (P := Try.prog) (r := r_api_Stitch) (v := .slice a8 p0.length a9) (xs := p0) (j := a4) 47 81 0 S Try.underlying47 rfl rfl ac
 obtain ⟨bj, bk, S⟩ := pFld (P := Try.prog) (r := r_api_Stitch) (s2 := (rI .u8)) (g := (·.Kind)) (q := bh) (z := a0) 81 0 0 0 S rfl rfl comp_api_Stitch_Kind
 obtain ⟨bt, S⟩ := pLoad (r := (rI .u8)) (q := bj) (x := a0.Kind) 0 S rfl
 obtain rfl : bt = .int .u8 a0.Kind := S.mem.know (i := 1) (e := fRep (rI .u8) (bt) a0.Kind) rfl
 obtain ⟨av, bl, S⟩ := pIdx (P := Try.prog) (r := r_api_Stitch) (v := .slice a8 p0.length a9) (xs := p0) (j := w64 (a4 + 1)) 47 81 4 S Try.underlying47 rfl rfl bg
 obtain ⟨bu, S⟩ := pLoad (r := r_api_Stitch) (q := av) (x := a5) 0 S rfl
 obtain rfl : bu = .agg #[.int .u8 a5.Kind, .bool a5.Purl, iv a5.A, iv a5.B] := S.mem.know (i := 1) (e := fRep r_api_Stitch (bu) a5) rfl
 obtain ⟨aw, bm, S⟩ := pIdx (P := Try.prog) (r := r_api_Stitch) (v := .slice a8 p0.length a9) (xs := p0) (j := a4) 47 81 7 S Try.underlying47 rfl rfl ac
 obtain ⟨bv, S⟩ := pLoad (r := r_api_Stitch) (q := aw) (x := a0) 0 S rfl
 obtain rfl : bv = .agg #[.int .u8 a0.Kind, .bool a0.Purl, iv a0.A, iv a0.B] := S.mem.know (i := 1) (e := fRep r_api_Stitch (bv) a0) rfl
 refine sDraw (nf := []) (W := [(0, 23, .slice a8 p0.length a9), (1, 24, iv a4), (2, 25, bh), (3, 26, bj), (4, 27, .int .u8 a0.Kind), (5, 28, .bool (a0.Kind == 1)), (6, 29, .bool (a0.Kind == 1)), (7, 30, iv a4), (8, 31, iv (w64 (a4 + 1))), (9, 32, .slice a8 p0.length a9), (10, 33, iv (p0.length : Int)), (11, 34, .bool (decide ((w64 (a4 + 1)) < (p0.length : Int)))), (12, 35, .bool (decide ((w64 (a4 + 1)) < (p0.length : Int)))), (13, 36, .bool (decide ((w64 (a4 + 1)) < (p0.length : Int)))), (14, 37, .slice a8 p0.length a9), (15, 38, iv a4), (16, 39, iv (w64 (a4 + 1))), (17, 40, av), (18, 41, .agg #[.int .u8 a5.Kind, .bool a5.Purl, iv a5.A, iv a5.B]), (19, 42, .slice a8 p0.length a9), (20, 43, iv a4), (21, 44, aw), (22, 45, .agg #[.int .u8 a0.Kind, .bool a0.Purl, iv a0.A, iv a0.B]), (23, 46, .bool ((a5.Kind == a0.Kind) && ((a5.Purl == a0.Purl) && ((a5.A == a0.A) && ((a5.B == a0.B) && true))))), (24, 47, .bool ((a5.Kind == a0.Kind) && ((a5.Purl == a0.Purl) && ((a5.A == a0.A) && ((a5.B == a0.B) && true)))))]) rfl S ?_
 refine node_by (A := anc_raddleref25_Written_0) 25 (by kernel_rfl) (by kernel_rfl) (by kernel_rfl) (by kernel_rfl) (by kernel_rfl) [0, 1, 2, 3, 4, 5, 6, 7, 8, 9, 10, 11, 12, 13, 14, 15, 16, 17, 18, 19, 20, 21, 22, 23, 24] (by kernel_rfl) (by decide) (by decide) (fF ?_ (fF ?_ (fF ?_ (fF ?_ (fF ?_ (fF ?_ (fF ?_ (fF ?_ (fF ?_ (fF ?_ (fF ?_ (fF ?_ (fF ?_ (fF ?_ (fF ?_ (fF ?_ (fF ?_ (fF ?_ (fF ?_ (fF ?_ (fF ?_ (fF ?_ (fF ?_ (fF ?_ (fF ?_ (trivial)))))))))))))))))))))))))) [(0, .slice a8 p0.length a9), (3, .string ae), (4, iv a4), (5, iv ab), (30, iv a4), (31, iv (w64 (a4 + 1))), (32, .slice a8 p0.length a9), (33, iv (p0.length : Int)), (34, .bool (decide ((w64 (a4 + 1)) < (p0.length : Int)))), (37, .slice a8 p0.length a9), (38, iv a4), (39, iv (w64 (a4 + 1))), (40, av), (41, .agg #[.int .u8 a5.Kind, .bool a5.Purl, iv a5.A, iv a5.B]), (42, .slice a8 p0.length a9), (43, iv a4), (44, aw), (45, .agg #[.int .u8 a0.Kind, .bool a0.Purl, iv a0.A, iv a0.B]), (46, .bool ((a5.Kind == a0.Kind) && ((a5.Purl == a0.Purl) && ((a5.A == a0.A) && ((a5.B == a0.B) && true))))), (47, .bool ((a5.Kind == a0.Kind) && ((a5.Purl == a0.Purl) && ((a5.A == a0.A) && ((a5.B == a0.B) && true)))))] (fin_of [none, none, none, none, some 7, some 8, some 9, some 10, some 11, some 14, some 15, some 16, some 17, some 18, some 19, some 20, some 21, some 22, some 23, some 24] rfl (by kernel_rfl) (by kernel_rfl)) (fun _ a w S => ?_)
 ·exact fM 0 none rfl rfl rfl rfl (.inl rfl) rfl rfl rfl
 ·exact fM 1 none rfl rfl rfl rfl (.inl rfl) rfl rfl rfl
 ·refine fJ [(23, _), (24, _)] 2 [some 0, some 1] fun G a w S => ?_
  exact sIdxV S (wN rfl) rfl rfl rfl bi rfl (lb rfl) fun a S => leafL ⟨rfl, S⟩
 ·refine fJ [(25, _)] 3 [some 2] fun G a w S => ?_
  exact sFldV (q := bh) S (wN rfl) rfl rfl bk rfl (lb rfl) fun a S => leafL ⟨rfl, S⟩
 ·refine fJ [(26, _)] 4 [some 3] fun G a w S => ?_
  exact sLoadV1 (vq := bj) 6 (.int .u8 a0.Kind) S (wN rfl) rfl rfl rfl rfl rfl (lb rfl) fun a S => leafL ⟨rfl, S⟩
 ·refine fJ [(27, _)] 5 [some 4] fun G a w S => ?_
  exact sBin _ S (wN rfl) rfl rfl rfl (bEq _ _ _ _ .u8 a0.Kind 1) rfl (lb rfl) fun a S => leafL ⟨rfl, S⟩
 ·exact fM 6 (some 5) rfl rfl rfl rfl (.inl rfl) rfl rfl rfl
 ·refine fJ [(4, _), (29, _)] 7 [none, some 6] fun G a w S => ?_
  exact sMove (iv a4) S (wG 6 true 29 rfl rfl rfl a7) (.inl rfl) rfl rfl (lb rfl) fun a S => leafL ⟨rfl, S⟩
 ·refine fJ [(30, _), (29, _)] 8 [some 7, some 6] fun G a w S => ?_
  exact sBin _ S (wG 6 true 29 rfl rfl rfl a7) rfl rfl rfl (bAdd _ _ _ _ a4 1) rfl (lb rfl) fun a S => leafL ⟨rfl, S⟩
 ·refine fJ [(0, _), (29, _)] 9 [none, some 6] fun G a w S => ?_
  exact sMove (.slice a8 p0.length a9) S (wG 6 true 29 rfl rfl rfl a7) (.inl rfl) rfl rfl (lb rfl) fun a S => leafL ⟨rfl, S⟩
 ·refine fJ [(32, _), (29, _)] 10 [some 9, some 6] fun G a w S => ?_
  exact sLen S (wG 6 true 29 rfl rfl rfl a7) rfl Try.underlying47 rfl rfl (lb rfl) fun a S => leafL ⟨rfl, S⟩
 ·refine fJ [(31, _), (33, _), (29, _)] 11 [some 8, some 10, some 6] fun G a w S => ?_
  exact sBin _ S (wG 6 true 29 rfl rfl rfl a7) rfl rfl rfl (bLt _ _ _ _ .i64 (w64 (a4 + 1)) (p0.length : Int)) rfl (lb rfl) fun a S => leafL ⟨rfl, S⟩
 ·refine fJ [(29, _), (34, _)] 12 [some 6, some 11] fun G a w S => ?_
  exact sPickT (.bool (decide ((w64 (a4 + 1)) < (p0.length : Int)))) S (wN rfl) rfl rfl a7 rfl rfl (lb rfl) fun a S => leafL ⟨rfl, S⟩
 ·exact fM 13 (some 12) rfl rfl rfl rfl (.inl rfl) rfl rfl rfl
 ·refine fJ [(0, _), (36, _)] 14 [none, some 13] fun G a w S => ?_
  exact sMove (.slice a8 p0.length a9) S (wG 13 true 36 rfl rfl rfl a6) (.inl rfl) rfl rfl (lb rfl) fun a S => leafL ⟨rfl, S⟩
 ·refine fJ [(4, _), (36, _)] 15 [none, some 13] fun G a w S => ?_
  exact sMove (iv a4) S (wG 13 true 36 rfl rfl rfl a6) (.inl rfl) rfl rfl (lb rfl) fun a S => leafL ⟨rfl, S⟩
 ·refine fJ [(38, _), (36, _)] 16 [some 15, some 13] fun G a w S => ?_
  exact sBin _ S (wG 13 true 36 rfl rfl rfl a6) rfl rfl rfl (bAdd _ _ _ _ a4 1) rfl (lb rfl) fun a S => leafL ⟨rfl, S⟩
 ·refine fJ [(37, _), (39, _), (36, _)] 17 [some 14, some 16, some 13] fun G a w S => ?_
  exact sIdxV S (wG 13 true 36 rfl rfl rfl a6) rfl rfl rfl bl rfl (lb rfl) fun a S => leafL ⟨rfl, S⟩
 ·refine fJ [(40, _), (36, _)] 18 [some 17, some 13] fun G a w S => ?_
  exact sLoadVN (vq := av) 3 [.int .u8 a5.Kind, .bool a5.Purl, iv a5.A, iv a5.B] S (wG 13 true 36 rfl rfl rfl a6) rfl rfl rfl rfl rfl rfl (lb rfl) fun a S => leafL ⟨rfl, S⟩
 ·refine fJ [(0, _), (36, _)] 19 [none, some 13] fun G a w S => ?_
  exact sMove (.slice a8 p0.length a9) S (wG 13 true 36 rfl rfl rfl a6) (.inl rfl) rfl rfl (lb rfl) fun a S => leafL ⟨rfl, S⟩
 ·refine fJ [(4, _), (36, _)] 20 [none, some 13] fun G a w S => ?_
  exact sMove (iv a4) S (wG 13 true 36 rfl rfl rfl a6) (.inl rfl) rfl rfl (lb rfl) fun a S => leafL ⟨rfl, S⟩
 ·refine fJ [(42, _), (43, _), (36, _)] 21 [some 19, some 20, some 13] fun G a w S => ?_
  exact sIdxV S (wG 13 true 36 rfl rfl rfl a6) rfl rfl rfl bm rfl (lb rfl) fun a S => leafL ⟨rfl, S⟩
 ·refine fJ [(44, _), (36, _)] 22 [some 21, some 13] fun G a w S => ?_
  exact sLoadVN (vq := aw) 0 [.int .u8 a0.Kind, .bool a0.Purl, iv a0.A, iv a0.B] S (wG 13 true 36 rfl rfl rfl a6) rfl rfl rfl rfl rfl rfl (lb rfl) fun a S => leafL ⟨rfl, S⟩
 ·refine fJ [(41, _), (45, _), (36, _)] 23 [some 18, some 22, some 13] fun G a w S => ?_
  exact sBin _ S (wG 13 true 36 rfl rfl rfl a6) rfl rfl rfl (bEqV _ _ _ _ #[.int .u8 a5.Kind, .bool a5.Purl, iv a5.A, iv a5.B] #[.int .u8 a0.Kind, .bool a0.Purl, iv a0.A, iv a0.B] ((a5.Kind == a0.Kind) && ((a5.Purl == a0.Purl) && ((a5.A == a0.A) && ((a5.B == a0.B) && true)))) (by kernel_rfl) (eqlV_of (by kernel_rfl))) rfl (lb rfl) fun a S => leafL ⟨rfl, S⟩
 ·refine fJ [(36, _), (46, _)] 24 [some 13, some 23] fun G a w S => ?_
  exact sPickT (.bool ((a5.Kind == a0.Kind) && ((a5.Purl == a0.Purl) && ((a5.A == a0.A) && ((a5.B == a0.B) && true))))) S (wN rfl) rfl rfl a6 rfl rfl (lb rfl) fun a S => leafL ⟨rfl, S⟩
 exact leafT (⟨((a5.Kind == a0.Kind) && ((a5.Purl == a0.Purl) && ((a5.A == a0.A) && ((a5.B == a0.B) && true)))), Option.some.inj h, S.fix [] [10] (by decide) rfl rfl rfl⟩)
noncomputable def raddleref25_Parse_l1 (a4 : (List ByteArray)) : (List api_Stitch × Int) → Option ((List api_Stitch × Int) ⊕ (((List api_Stitch) × Int) ⊕ (List api_Stitch))) := fun s0 => match s0 with
 | (a5, a0) =>
  if decide (a0 < (a4.length : Int)) then
   (idxO a4 a0).bind fun a8 =>
   (F_raddleref25_word a8).bind fun a6 =>
   if !a6.2 then
    some (.inr (.inl (([] : (List api_Stitch)), 12)))
   else
    (appO a5 a6.1).bind fun a7 =>
    if decide (200 < (a7.length : Int)) then
     some (.inr (.inl (([] : (List api_Stitch)), 12)))
    else
     some (.inl (a7, w64 (a0 + 1)))
  else
   some (.inr (.inr a5))
noncomputable def F_raddleref25_Parse (p0 : ByteArray) : Option ((List api_Stitch) × Int) :=
 if decide (3000 < (p0.size : Int)) then
  some (([] : (List api_Stitch)), 12)
 else
  if p0 == (⟨#[]⟩ : ByteArray) then
   some (([] : (List api_Stitch)), 0)
  else
   (F_raddleref25_Cut p0 32).bind fun a4 =>
   Option.bind (α := List api_Stitch ⊕ ((List api_Stitch) × Int)) (
    (whileO (raddleref25_Parse_l1 a4) (([] : List api_Stitch), 0)).bind fun z0 => match z0 with
     | .inl z =>
      some (.inr z)
     | .inr a5 =>
      some (.inl a5)) fun z0 => match z0 with
    | .inl a0 =>
     Option.bind (α := Bool) (
      (F_raddleref25_All a0).bind fun a6 =>
      if a6 != 0 then
       some true
      else
       (F_raddleref25_Written a0).bind fun a7 =>
       some (a7 != p0)) fun a8 =>
     if a8 then
      some (([] : (List api_Stitch)), 12)
     else
      some (a0, 0)
    | .inr z =>
     some z
def c_raddleref25_Parse_val (r : ((List api_Stitch) × Int)) (x : Value) : Value := .tuple #[x, .int .i64 r.2]
def c_raddleref25_Parse_D (r : ((List api_Stitch) × Int)) (x : Value) : List Fact := [fRep (rL r_api_Stitch) x r.1]
theorem c_raddleref25_Parse (E : Nat → Prop) (w0 : World) (p0 : ByteArray) (r : ((List api_Stitch) × Int)) (h : F_raddleref25_Parse p0 = some r) (S : St0 E [] w0 w0 [] []) :
 Calls Try.prog 78 #[.string p0] w0 (Ret (X := Value) E [] w0 (c_raddleref25_Parse_val r) (fun _ => []) (c_raddleref25_Parse_D r)) := by
 unfold F_raddleref25_Parse at h
 refine sEnter (args := [.string p0]) 48 Try.func78 rfl rfl (by simp) S (fun a S => ?_)
 refine sSeq (fun K1 bj => sRegion (sN S fun a S => ?_))
 refine sN S fun a S => ?_
 refine lT (bj _ _ (sSeq (fun K2 bk => sSeq (fun K3 bl => sRegion (sM S fun a S => ?_)))))
 refine sLenS (v := p0) S (wN rfl) rfl Try.underlying9 rfl rfl (lb rfl) fun a S => ?_
 refine sBin _ S (wN rfl) rfl rfl rfl (bGt _ _ _ _ .i64 (p0.size : Int) 3000) rfl (lb rfl) fun a S => ?_
 refine lT (bl _ _ ?_)
 rcases iS h with ⟨ar, h⟩ | ⟨ar, h⟩
 ·refine sCondT S rfl ar ?_
  refine sSeq (fun K5 bm => sRegion (sN S fun a S => ?_))
  refine sN S fun a S => ?_
  refine lT (bm _ _ ?_)
  obtain rfl := tS h
  have S := S.learn (fRep (rL r_api_Stitch) (.slice none 0 0) ([] : (List api_Stitch))) (rL_nil _ _ _)
  exact wp_ret (rThen (sRet (.tuple #[.slice none 0 0, iv 12]) S (rsl2 rfl (rvT (t := 2) (v := .slice none 0 0) S rfl) (rvT (t := 3) (v := iv 12) S rfl)) ⟨(.slice none 0 0), rfl, S.mem.sel [] [0] (by decide) rfl rfl⟩))
 refine sCondF S rfl ar ?_
 refine wp_skip (leafT (bk _ _ ?_))
 refine sSeq (fun K6 bn => sSeq (fun K7 bp => sRegion (sM S fun a S => ?_)))
 refine sBin _ S (wN rfl) rfl rfl rfl (bEqS _ _ _ _ p0 (⟨#[]⟩ : ByteArray)) rfl (lb rfl) fun a S => ?_
 refine lT (bp _ _ ?_)
 rcases iS h with ⟨au, h⟩ | ⟨au, h⟩
 ·refine sCondT S rfl au ?_
  refine sSeq (fun K9 bq => sRegion (sN S fun a S => ?_))
  refine sN S fun a S => ?_
  refine lT (bq _ _ ?_)
  obtain rfl := tS h
  have S := S.learn (fRep (rL r_api_Stitch) (.slice none 0 0) ([] : (List api_Stitch))) (rL_nil _ _ _)
  exact wp_ret (rThen (sRet (.tuple #[.slice none 0 0, iv 0]) S (rsl2 rfl (rvT (t := 2) (v := .slice none 0 0) S rfl) (rvT (t := 3) (v := iv 0) S rfl)) ⟨(.slice none 0 0), rfl, S.mem.sel [] [0] (by decide) rfl rfl⟩))
 refine sCondF S rfl au ?_
 refine wp_skip (leafT (bn _ _ ?_))
 refine sSeq (fun bx av => sRegion (sM S fun a S => ?_))
 obtain ⟨aa, aw, h⟩ := bS h
 refine sCall (X := Value) (f := 94) (vs := [.string p0, .int .u8 32]) (val := c_raddleref25_Cut_val aa) (B' := fun _ => []) (D' := c_raddleref25_Cut_D aa) [] [] [] [] [] S (wN rfl) rfl callee94 rfl (by decide) rfl rfl (fun E1 w1 S1 => c_raddleref25_Cut E1 w1 p0 32 aa aw S1) rfl (lb rfl) fun br a w S => ?_
 obtain ⟨af, ag, _, rfl, _⟩ := S.mem.know (i := 0) (e := fRep (rL rS) (br) aa) rfl
 refine sN S fun a S => ?_
 refine lT (av _ _ (sSeq (fun bz ax => sRegion (sN S fun a S => ?_))))
 refine lT (ax _ _ ?_)
 obtain ⟨bt, h, ay⟩ := bS h
 refine sCut (fun a w => ∃ a5, .inl a5 = bt ∧ ∃ a0, ∃ a4, St [] E [] w0 48 a w [(0, .string p0), (5, .slice a0 a5.length a4)] [eRow r_api_Stitch 81 (.slice a0 a5.length a4) a5] []) ?_ (fun a w hI => ?_)
 rotate_left
 ·obtain ⟨a5, rfl, a0, a4, S⟩ := hI
  have h := ay
  try dsimp only at h
  refine sSeq (fun bA az => ?_)
  obtain ⟨bu, h, bv⟩ := bS h
  refine sCut (fun a w => ∃ aA, aA = bu ∧ St [] E [] w0 48 a w [(5, .slice a0 a5.length a4), (46, .bool aA)] [eRow r_api_Stitch 81 (.slice a0 a5.length a4) a5] []) ?_ (fun a w hI => ?_)
  rotate_left
  ·obtain ⟨aA, rfl, S⟩ := hI
   have h := bv
   try dsimp only at h
   rcases iS h with ⟨ah, h⟩ | ⟨ah, h⟩
   ·refine sCondT S rfl ah ?_
    refine sSeq (fun bB aC => sRegion (sN S fun a S => ?_))
    refine sN S fun a S => ?_
    refine lT (aC _ _ ?_)
    obtain rfl := tS h
    have S := S.learn (fRep (rL r_api_Stitch) (.slice none 0 0) ([] : (List api_Stitch))) (rL_nil _ _ _)
    exact wp_ret (rThen (sRet (.tuple #[.slice none 0 0, iv 12]) S (rsl2 rfl (rvT (t := 2) (v := .slice none 0 0) S rfl) (rvT (t := 3) (v := iv 12) S rfl)) ⟨(.slice none 0 0), rfl, S.mem.sel [] [0] (by decide) rfl rfl⟩))
   refine sCondF S rfl ah ?_
   refine wp_skip (leafT (az _ _ ?_))
   refine sSeq (fun bC aG => sRegion (sM S fun a S => ?_))
   refine sN S fun a S => ?_
   refine sN S fun a S => ?_
   refine lT (aG _ _ ?_)
   obtain rfl := tS h
   have S := S.shutR (r := r_api_Stitch) (T := 81) (v := .slice a0 a5.length a4) (xs := a5) 0 rfl
   exact wp_ret (sRet (.tuple #[.slice a0 a5.length a4, iv 0]) S (rsl2 rfl (rvT (t := 2) (v := .slice a0 a5.length a4) S rfl) (rvT (t := 3) (v := iv 0) S rfl)) ⟨(.slice a0 a5.length a4), rfl, S.mem.sel [] [0] (by decide) rfl rfl⟩)
  refine sRegion (sM S fun a S => ?_)
  obtain ⟨aH, aI, h⟩ := bS h
  have S1 := S.mem
  have S1 := S1.shutR (r := r_api_Stitch) (T := 81) (v := .slice a0 a5.length a4) (xs := a5) 0 rfl
  refine sCq [.slice a0 a5.length a4] (iv aH) S callee38 (S1.quiet [0] rfl) (fun E1 w1 S1 => c_raddleref25_All E1 w1 a5 (.slice a0 a5.length a4) aH aI S1) fun a w S => ?_
  refine sBin _ S (wN rfl) rfl rfl rfl (bNe _ _ _ _ .i64 aH 0) rfl (lb rfl) fun a S => ?_
  refine sM S fun a S => ?_
  rcases iS h with ⟨a6, h⟩ | ⟨a6, h⟩
  ·refine sSkN 4 3 false 41 S rfl rfl a6 rfl fun a S => ?_
   refine sPickT (.bool true) S (wN rfl) rfl rfl a6 rfl rfl (lb rfl) fun a S => ?_
   exact lT (⟨true, Option.some.inj h, S.fix [0] [] (by decide) rfl rfl rfl⟩)
  refine sMove (.slice a0 a5.length a4) S (wG 3 false 41 rfl rfl rfl a6) (.inl rfl) rfl rfl (lb rfl) fun a S => ?_
  obtain ⟨aq, aJ, h⟩ := bS h
  have S1 := S.mem
  have S1 := S1.shutR (r := r_api_Stitch) (T := 81) (v := .slice a0 a5.length a4) (xs := a5) 0 rfl
  refine sCallQ (X := Unit) (f := 96) (vs := [.slice a0 a5.length a4]) (val := fun _ => .string aq) S (wG 3 false 41 rfl rfl rfl a6) rfl callee96 rfl (S1.quiet [0] rfl) (fun E1 w1 S1 => c_raddleref25_Written E1 w1 a5 (.slice a0 a5.length a4) aq aJ S1) rfl (lb rfl) fun _ a w S => ?_
  refine sMove (.string p0) S (wG 3 false 41 rfl rfl rfl a6) (.inl rfl) rfl rfl (lb rfl) fun a S => ?_
  refine sBin _ S (wG 3 false 41 rfl rfl rfl a6) rfl rfl rfl (bNeS _ _ _ _ aq p0) rfl (lb rfl) fun a S => ?_
  refine sPickF (.bool (aq != p0)) S (wN rfl) rfl rfl a6 rfl rfl (lb rfl) fun a S => ?_
  exact lT (⟨aq != p0, Option.some.inj h, S.fix [0] [] (by decide) rfl rfl rfl⟩)
 refine sSeq (fun bD aK => sRegion (sN S fun a S => ?_))
 refine lT (aK _ _ (wp_block ?_))
 have S := S.nilRow r_api_Stitch 81 (α := api_Stitch)
 obtain ⟨bE, hl, aL⟩ := bS h
 refine sLoop hl (fun s0 a w => match s0 with | (ab, ao) => ∃ a7, ∃ a8, St [] E [] w0 48 a w [(0, .string p0), (4, .slice af aa.length ag), (5, .slice a7 ab.length a8), (6, iv ao)] [eRow r_api_Stitch 81 (.slice a7 ab.length a8) ab] [fRep (rL rS) (.slice af aa.length ag) aa]) ⟨none, 0, S.fix [0] [0] (by decide) rfl rfl rfl⟩ ?_
 clear hl h
 intro s0 a w c0 hI h ai
 obtain ⟨ab, ao⟩ := s0
 unfold raddleref25_Parse_l1 at h
 dsimp only at h hI
 obtain ⟨a7, a8, S⟩ := hI
 refine sSeq (fun bG aM => sSeq (fun bH aO => sRegion (sM S fun a S => ?_)))
 refine sM S fun a S => ?_
 refine sLen S (wN rfl) rfl Try.underlying142 rfl rfl (lb rfl) fun a S => ?_
 refine sBin _ S (wN rfl) rfl rfl rfl (bLt _ _ _ _ .i64 ao (aa.length : Int)) rfl (lb rfl) fun a S => ?_
 refine lT (aO _ _ ?_)
 rcases iS h with ⟨aj, h⟩ | ⟨aj, h⟩
 rotate_left
 ·refine sCondF S rfl aj ?_
  obtain rfl := tS h
  obtain rfl := ai _ rfl
  have h := aL
  try dsimp only at h
  exact wp_exit (xThen (xThen (xHit (leafT (⟨ab, Option.some.inj h, a7, a8, S.fix [0] [] (by decide) rfl rfl rfl⟩)))))
 refine sCondT S rfl aj ?_
 refine wp_skip (leafT (aM _ _ ?_))
 refine sSeq (fun bI aP => wp_block ?_)
 refine sSeq (fun bJ aQ => sRegion (sM S fun a S => ?_))
 refine sM S fun a S => ?_
 obtain ⟨ap, aR, h⟩ := bS h
 obtain ⟨bg, aS, S⟩ := pIdx (P := Try.prog) (r := rS) (v := .slice af aa.length ag) (xs := aa) (j := ao) 142 9 0 S Try.underlying142 rfl rfl aR
 refine sIdxV S (wN rfl) rfl rfl rfl aS rfl (lb rfl) fun a S => ?_
 obtain ⟨bh, S⟩ := pLoad (r := rS) (q := bg) (x := ap) 0 S rfl
 obtain rfl : bh = .string ap := S.mem.know (i := 1) (e := fRep rS (bh) ap) rfl
 refine sLoadV1 (vq := bg) 0 (.string ap) S (wN rfl) rfl rfl rfl rfl rfl (lb rfl) fun a S => ?_
 obtain ⟨a9, aT, h⟩ := bS h
 refine sCall (X := Value) (f := 95) (vs := [.string ap]) (val := c_raddleref25_word_val a9) (B' := fun _ => []) (D' := c_raddleref25_word_D a9) [] [eRow r_api_Stitch 81 (.slice a7 ab.length a8) ab] [] [0] [] S (wN rfl) rfl callee95 rfl (by decide) rfl rfl (fun E1 w1 S1 => c_raddleref25_word E1 w1 ap a9 aT S1) rfl (lb rfl) fun bw a w S => ?_
 obtain ⟨ac, ae, _, rfl, _⟩ := S.mem.know (i := 0) (e := fRep (rL r_api_Stitch) (bw) a9.1) rfl
 refine sM S fun a S => ?_
 refine sExtract (vs := [.slice ac a9.1.length ae, .bool a9.2]) (.slice ac a9.1.length ae) S (wN rfl) rfl rfl rfl rfl (lb rfl) fun a S => ?_
 refine sExtract (vs := [.slice ac a9.1.length ae, .bool a9.2]) (.bool a9.2) S (wN rfl) rfl rfl rfl rfl (lb rfl) fun a S => ?_
 refine sN S fun a S => ?_
 refine sN S fun a S => ?_
 refine lT (aQ _ _ (sSeq (fun bK aU => sSeq (fun bL aV => sRegion (sM S fun a S => ?_)))))
 refine sNot (b := a9.2) S (wN rfl) rfl rfl rfl (lb rfl) fun a S => ?_
 refine lT (aV _ _ ?_)
 rcases iS h with ⟨ak, h⟩ | ⟨ak, h⟩
 ·refine sCondT S rfl ak ?_
  refine sSeq (fun bM aW => sRegion (sN S fun a S => ?_))
  refine sN S fun a S => ?_
  refine lT (aW _ _ ?_)
  obtain rfl := tS h
  obtain rfl := ai _ rfl
  have h := aL
  try dsimp only at h
  obtain rfl := tS h
  have h := ay
  try dsimp only at h
  obtain rfl := tS h
  have S := S.learn (fRep (rL r_api_Stitch) (.slice none 0 0) ([] : (List api_Stitch))) (rL_nil _ _ _)
  exact wp_ret (rThen (rBlock (rThen (rThen (rBlock (rThen (sRet (.tuple #[.slice none 0 0, iv 12]) S (rsl2 rfl (rvT (t := 2) (v := .slice none 0 0) S rfl) (rvT (t := 3) (v := iv 12) S rfl)) ⟨(.slice none 0 0), rfl, S.mem.sel [] [0] (by decide) rfl rfl⟩)))))))
 refine sCondF S rfl ak ?_
 refine wp_skip (leafT (aU _ _ ?_))
 refine sSeq (fun bN aX => sRegion (sM S fun a S => ?_))
 refine sM S fun a S => ?_
 obtain ⟨bi, aZ, h⟩ := bS h
 refine sApp (r := r_api_Stitch) (T := 81) (xs := ab) (ys := a9.1) (v := .slice a7 ab.length a8) (u := .slice ac a9.1.length ae) 0 (.agg #[.int .u8 0, .bool false, iv 0, iv 0]) 24 S (wN rfl) rfl Try.underlying47 rfl rfl (by decide) rfl rfl rfl (src_D 0 S.mem rfl) aZ rfl (lb rfl) fun a w ba bb S => ?_
 refine sN S fun a S => ?_
 refine lT (aX _ _ (sSeq (fun bO bc => sRegion (sM S fun a S => ?_))))
 refine sLen S (wN rfl) rfl Try.underlying47 rfl rfl (lb rfl) fun a S => ?_
 refine sBin _ S (wN rfl) rfl rfl rfl (bGt _ _ _ _ .i64 (bi.length : Int) 200) rfl (lb rfl) fun a S => ?_
 refine lT (bc _ _ ?_)
 rcases iS h with ⟨am, h⟩ | ⟨am, h⟩
 rotate_left
 ·refine sCondF S rfl am ?_
  refine wp_skip (leafB (leafT (aP _ _ ?_)))
  refine sRegion (sM S fun a S => ?_)
  refine sBin _ S (wN rfl) rfl rfl rfl (bAdd _ _ _ _ ao 1) rfl (lb rfl) fun a S => ?_
  refine sN S fun a S => ?_
  exact lT (⟨(bi, w64 (ao + 1)), (Option.some.inj h).symm, ⟨ba, bb, S.fix [0] [4] (by decide) rfl rfl rfl⟩⟩)
 refine sCondT S rfl am ?_
 refine sSeq (fun bP bf => sRegion (sN S fun a S => ?_))
 refine sN S fun a S => ?_
 refine lT (bf _ _ ?_)
 obtain rfl := tS h
 obtain rfl := ai _ rfl
 have h := aL
 try dsimp only at h
 obtain rfl := tS h
 have h := ay
 try dsimp only at h
 obtain rfl := tS h
 have S := S.learn (fRep (rL r_api_Stitch) (.slice none 0 0) ([] : (List api_Stitch))) (rL_nil _ _ _)
 exact wp_ret (rBlock (rThen (rThen (rBlock (rThen (sRet (.tuple #[.slice none 0 0, iv 12]) S (rsl2 rfl (rvT (t := 2) (v := .slice none 0 0) S rfl) (rvT (t := 3) (v := iv 12) S rfl)) ⟨(.slice none 0 0), rfl, S.mem.sel [] [0] (by decide) rfl rfl⟩))))))
noncomputable def F_raddlelaw46_cells (p0 : ByteArray) : Option (List api_Stitch) :=
 (F_raddleref25_Parse p0).bind fun r3 =>
 some r3.1
def c_raddlelaw46_cells_val (r : (List api_Stitch)) (x : Value) : Value := x
def c_raddlelaw46_cells_D (r : (List api_Stitch)) (x : Value) : List Fact := [fRep (rL r_api_Stitch) x r]
theorem c_raddlelaw46_cells (E : Nat → Prop) (w0 : World) (p0 : ByteArray) (r : (List api_Stitch)) (h : F_raddlelaw46_cells p0 = some r) (S : St0 E [] w0 w0 [] []) :
 Calls Try.prog 42 #[.string p0] w0 (Ret (X := Value) E [] w0 (c_raddlelaw46_cells_val r) (fun _ => []) (c_raddlelaw46_cells_D r)) := by
 unfold F_raddlelaw46_cells at h
 refine sEnter (args := [.string p0]) 11 Try.func42 rfl rfl (by simp) S (fun a S => ?_)
 refine sSeq (fun K1 a5 => sRegion (sN S fun a S => ?_))
 refine lT (a5 _ _ (sSeq (fun K2 a6 => sRegion (sM S fun a S => ?_))))
 obtain ⟨r3, a7, h⟩ := bS h
 refine sCall (X := Value) (f := 78) (vs := [.string p0]) (val := c_raddleref25_Parse_val r3) (B' := fun _ => []) (D' := c_raddleref25_Parse_D r3) [] [] [] [] [] S (wN rfl) rfl callee78 rfl (by decide) rfl rfl (fun E1 w1 S1 => c_raddleref25_Parse E1 w1 p0 r3 a7 S1) rfl (lb rfl) fun u5 a w S => ?_
 obtain ⟨a0, a4, _, rfl, _⟩ := S.mem.know (i := 0) (e := fRep (rL r_api_Stitch) (u5) r3.1) rfl
 refine sM S fun a S => ?_
 refine sExtract (vs := [.slice a0 r3.1.length a4, iv r3.2]) (.slice a0 r3.1.length a4) S (wN rfl) rfl rfl rfl rfl (lb rfl) fun a S => ?_
 refine sExtract (vs := [.slice a0 r3.1.length a4, iv r3.2]) (iv r3.2) S (wN rfl) rfl rfl rfl rfl (lb rfl) fun a S => ?_
 refine sN S fun a S => ?_
 refine sN S fun a S => ?_
 refine lT (a6 _ _ (sSeq (fun K8 a8 => sRegion (sM S fun a S => ?_))))
 refine sN S fun a S => ?_
 refine lT (a8 _ _ ?_)
 obtain rfl := tS h
 exact wp_ret (sRet (.slice a0 r3.1.length a4) S (rsl1 rfl (rvT (t := 2) (v := .slice a0 r3.1.length a4) S rfl)) ⟨(.slice a0 r3.1.length a4), rfl, S.mem.sel [] [0] (by decide) rfl rfl⟩)
noncomputable def raddleref26_Written_l1 (p0 : api_Chart) : (ByteArray × Int) → Option ((ByteArray × Int) ⊕ ((ByteArray × Bool) ⊕ ByteArray)) := fun s0 => match s0 with
 | (a5, a0) =>
  if decide (a0 < (p0.Rows.length : Int)) then
   (idxO p0.Rows a0).bind fun a6 =>
   (F_raddleref25_Written a6.Cells).bind fun a4 =>
   if decide (3000 < (a4.size : Int)) then
    some (.inr (.inl ((⟨#[]⟩ : ByteArray), false)))
   else
    (F_raddleref26_side a6.Back).bind fun a8 =>
    (addS a5 a8).bind fun a7 =>
    Option.bind (α := ByteArray) (
     if a4 != (⟨#[]⟩ : ByteArray) then
      (addS a7 (⟨#[32]⟩ : ByteArray)).bind fun a9 =>
      (addS a9 a4).bind fun aa =>
      some aa
     else
      some a7) fun ab =>
    (addS ab (⟨#[10]⟩ : ByteArray)).bind fun ac =>
    some (.inl (ac, w64 (a0 + 1)))
  else
   some (.inr (.inr a5))
noncomputable def F_raddleref26_Written (p0 : api_Chart) : Option (ByteArray × Bool) :=
 (F_raddleref25_Decimal p0.Start).bind fun r8 =>
 (addS (⟨#[115, 116, 97, 114, 116, 32]⟩ : ByteArray) r8).bind fun a0 =>
 (addS a0 (⟨#[10]⟩ : ByteArray)).bind fun a4 =>
 Option.bind (α := ByteArray ⊕ (ByteArray × Bool)) (
  (whileO (raddleref26_Written_l1 p0) (a4, 0)).bind fun z0 => match z0 with
   | .inl z =>
    some (.inr z)
   | .inr a5 =>
    some (.inl a5)) fun z0 => match z0 with
  | .inl a6 =>
   some (a6, true)
  | .inr z =>
   some z
theorem c_raddleref26_Written (E : Nat → Prop) (w0 : World) (p0 : api_Chart) (v0 : Value) (r : (ByteArray × Bool)) (h : F_raddleref26_Written p0 = some r) (S : St0 E [] w0 w0 [] [fRep r_api_Chart (v0) p0]) :
 Calls Try.prog 98 #[v0] w0 (Ret (X := Unit) E [] w0 (fun _ => .tuple #[.string r.1, .bool r.2]) (fun _ => []) (fun _ => [])) := by
 unfold F_raddleref26_Written at h
 obtain ⟨u1, rfl, aQ⟩ := S.know (i := 0) (e := fRep r_api_Chart (v0) p0) rfl
 have S := S.learn (fRep (rL r_api_Row) u1 p0.Rows) aQ
 obtain ⟨a4, a5, _, rfl, _⟩ := aQ
 refine sEnter (args := [.agg #[iv p0.Start, .slice a4 p0.Rows.length a5]]) 47 Try.func98 rfl rfl (by simp) S (fun a S => ?_)
 refine sSeq (fun K5 ba => sRegion (sBox (v := .agg #[iv p0.Start, .slice a4 p0.Rows.length a5]) S (wN rfl) rfl rfl [iv p0.Start, .slice a4 p0.Rows.length a5] rfl rfl (lb rfl) fun a b6 w S => ?_))
 refine sN S fun a S => ?_
 refine sN S fun a S => ?_
 refine lT (ba _ _ (sSeq (fun K7 bb => sRegion (sField (b := b6) (off := 0) 0 0 S (wN rfl) rfl rfl rfl rfl rfl (lb rfl) fun a S => ?_))))
 refine sLoad1 0 (iv p0.Start) S (wN rfl) rfl rfl rfl rfl rfl rfl (lb rfl) fun a S => ?_
 obtain ⟨r8, bc, h⟩ := bS h
 have S1 := S.mem
 refine sCq [iv p0.Start] (.string r8) S callee108 (S1.quiet [] rfl) (fun E1 w1 S1 => c_raddleref25_Decimal E1 w1 p0.Start r8 bc S1) fun a w S => ?_
 obtain ⟨bf, aj, h⟩ := bS h
 refine sBin _ S (wN rfl) rfl rfl rfl (bAddS _ _ _ _ (x := (⟨#[115, 116, 97, 114, 116, 32]⟩ : ByteArray)) (y := r8) aj) rfl (lb rfl) fun a S => ?_
 obtain ⟨bn, ak, h⟩ := bS h
 refine sBin _ S (wN rfl) rfl rfl rfl (bAddS _ _ _ _ (x := bf) (y := (⟨#[10]⟩ : ByteArray)) ak) rfl (lb rfl) fun a S => ?_
 refine sN S fun a S => ?_
 refine lT (bb _ _ ?_)
 obtain ⟨bg, h, aR⟩ := bS h
 refine sCut (fun a w => ∃ ae, .inl ae = bg ∧ St [] E [] w0 47 a w [(4, .string ae)] [] []) ?_ (fun a w hI => ?_)
 rotate_left
 ·obtain ⟨ae, rfl, S⟩ := hI
  have h := aR
  try dsimp only at h
  refine sSeq (fun bp am => sRegion (sM S fun a S => ?_))
  refine sN S fun a S => ?_
  refine sN S fun a S => ?_
  refine lT (am _ _ ?_)
  obtain rfl := tS h
  exact wp_ret (sRet (.tuple #[.string ae, .bool true]) S (rsl2 rfl (rvT (t := 2) (v := .string ae) S rfl) (rvT (t := 3) (v := .bool true) S rfl)) ⟨(), rfl, S.mem.sel [] [] (by decide) rfl rfl⟩)
 refine sSeq (fun bq ao => sRegion (sN S fun a S => ?_))
 refine lT (ao _ _ (wp_block ?_))
 obtain ⟨br, hl, aS⟩ := bS h
 refine sLoop hl (fun s0 a w => match s0 with | (ah, a6) => St [] E [] w0 47 a w [(1, .pointer (some ⟨b6, 0, none⟩)), (4, .string ah), (5, iv a6)] [eBox b6 42 [iv p0.Start, .slice a4 p0.Rows.length a5]] [fRep (rL r_api_Row) (.slice a4 p0.Rows.length a5) p0.Rows]) (S.fix [0] [0] (by decide) rfl rfl rfl) ?_
 clear hl h
 intro s0 a w c0 hI h af
 obtain ⟨ah, a6⟩ := s0
 unfold raddleref26_Written_l1 at h
 dsimp only at h hI
 have S := hI
 refine sSeq (fun bt ap => sSeq (fun bu aq => sRegion (sM S fun a S => ?_)))
 refine sField (b := b6) (off := 0) 1 1 S (wN rfl) rfl rfl rfl rfl rfl (lb rfl) fun a S => ?_
 refine sLoad1 0 (.slice a4 p0.Rows.length a5) S (wN rfl) rfl rfl rfl rfl rfl rfl (lb rfl) fun a S => ?_
 refine sLen S (wN rfl) rfl Try.underlying40 rfl rfl (lb rfl) fun a S => ?_
 refine sBin _ S (wN rfl) rfl rfl rfl (bLt _ _ _ _ .i64 a6 (p0.Rows.length : Int)) rfl (lb rfl) fun a S => ?_
 refine lT (aq _ _ ?_)
 rcases iS h with ⟨a7, h⟩ | ⟨a7, h⟩
 rotate_left
 ·refine sCondF S rfl a7 ?_
  obtain rfl := tS h
  obtain rfl := af _ rfl
  have h := aS
  try dsimp only at h
  exact wp_exit (xThen (xThen (xHit (leafT (⟨ah, Option.some.inj h, S.fix [] [] (by decide) rfl rfl rfl⟩)))))
 refine sCondT S rfl a7 ?_
 refine wp_skip (leafT (ap _ _ ?_))
 refine sSeq (fun bv ar => wp_block ?_)
 refine sSeq (fun bw au => sRegion (sField (b := b6) (off := 0) 1 1 S (wN rfl) rfl rfl rfl rfl rfl (lb rfl) fun a S => ?_))
 refine sLoad1 0 (.slice a4 p0.Rows.length a5) S (wN rfl) rfl rfl rfl rfl rfl rfl (lb rfl) fun a S => ?_
 refine sM S fun a S => ?_
 obtain ⟨a0, ag, h⟩ := bS h
 obtain ⟨aT, av, S⟩ := pIdx (P := Try.prog) (r := r_api_Row) (v := .slice a4 p0.Rows.length a5) (xs := p0.Rows) (j := a6) 40 87 0 S Try.underlying40 rfl rfl ag
 refine sIdxV S (wN rfl) rfl rfl rfl av rfl (lb rfl) fun a S => ?_
 obtain ⟨aU, aw, S⟩ := pFld (P := Try.prog) (r := r_api_Row) (s2 := (rL r_api_Stitch)) (g := (·.Cells)) (q := aT) (z := a0) 87 1 0 1 S rfl rfl comp_api_Row_Cells
 refine sFldV (q := aT) S (wN rfl) rfl rfl aw rfl (lb rfl) fun a S => ?_
 obtain ⟨bh, S⟩ := pLoad (r := (rL r_api_Stitch)) (q := aU) (x := a0.Cells) 0 S rfl
 obtain ⟨a8, a9, _, rfl, _⟩ := S.mem.know (i := 1) (e := fRep (rL r_api_Stitch) (bh) a0.Cells) rfl
 refine sLoadV1 (vq := aU) 0 (.slice a8 a0.Cells.length a9) S (wN rfl) rfl rfl rfl rfl rfl (lb rfl) fun a S => ?_
 obtain ⟨ac, ax, h⟩ := bS h
 have S1 := S.mem
 refine sCq [.slice a8 a0.Cells.length a9] (.string ac) S callee96 (S1.quiet [1] rfl) (fun E1 w1 S1 => c_raddleref25_Written E1 w1 a0.Cells (.slice a8 a0.Cells.length a9) ac ax S1) fun a w S => ?_
 refine sN S fun a S => ?_
 refine lT (au _ _ (sSeq (fun bx ay => sSeq (fun bz az => sRegion (sM S fun a S => ?_)))))
 refine sLenS (v := ac) S (wN rfl) rfl Try.underlying9 rfl rfl (lb rfl) fun a S => ?_
 refine sBin _ S (wN rfl) rfl rfl rfl (bGt _ _ _ _ .i64 (ac.size : Int) 3000) rfl (lb rfl) fun a S => ?_
 refine lT (az _ _ ?_)
 rcases iS h with ⟨aa, h⟩ | ⟨aa, h⟩
 ·refine sCondT S rfl aa ?_
  refine sSeq (fun bA aA => sRegion (sN S fun a S => ?_))
  refine sN S fun a S => ?_
  refine lT (aA _ _ ?_)
  obtain rfl := tS h
  obtain rfl := af _ rfl
  have h := aS
  try dsimp only at h
  obtain rfl := tS h
  have h := aR
  try dsimp only at h
  obtain rfl := tS h
  exact wp_ret (rThen (rBlock (rThen (rThen (rBlock (rThen (sRet (.tuple #[.string (⟨#[]⟩ : ByteArray), .bool false]) S (rsl2 rfl (rvT (t := 2) (v := .string (⟨#[]⟩ : ByteArray)) S rfl) (rvT (t := 3) (v := .bool false) S rfl)) ⟨(), rfl, S.mem.sel [] [] (by decide) rfl rfl⟩)))))))
 refine sCondF S rfl aa ?_
 refine wp_skip (leafT (ay _ _ ?_))
 refine sSeq (fun bB aC => sRegion (sM S fun a S => ?_))
 refine sField (b := b6) (off := 0) 1 1 S (wN rfl) rfl rfl rfl rfl rfl (lb rfl) fun a S => ?_
 refine sLoad1 0 (.slice a4 p0.Rows.length a5) S (wN rfl) rfl rfl rfl rfl rfl rfl (lb rfl) fun a S => ?_
 refine sM S fun a S => ?_
 obtain ⟨aV, aG, S⟩ := pIdx (P := Try.prog) (r := r_api_Row) (v := .slice a4 p0.Rows.length a5) (xs := p0.Rows) (j := a6) 40 87 4 S Try.underlying40 rfl rfl ag
 refine sIdxV S (wN rfl) rfl rfl rfl aG rfl (lb rfl) fun a S => ?_
 obtain ⟨aW, aH, S⟩ := pFld (P := Try.prog) (r := r_api_Row) (s2 := rB) (g := (·.Back)) (q := aV) (z := a0) 87 0 0 0 S rfl rfl comp_api_Row_Back
 refine sFldV (q := aV) S (wN rfl) rfl rfl aH rfl (lb rfl) fun a S => ?_
 obtain ⟨aX, S⟩ := pLoad (r := rB) (q := aW) (x := a0.Back) 0 S rfl
 obtain rfl : aX = .bool a0.Back := S.mem.know (i := 1) (e := fRep rB (aX) a0.Back) rfl
 refine sLoadV1 (vq := aW) 0 (.bool a0.Back) S (wN rfl) rfl rfl rfl rfl rfl (lb rfl) fun a S => ?_
 obtain ⟨aI, aJ, h⟩ := bS h
 have S1 := S.mem
 refine sCq [.bool a0.Back] (.string aI) S callee109 (S1.quiet [] rfl) (fun E1 w1 S1 => c_raddleref26_side E1 w1 a0.Back aI aJ S1) fun a w S => ?_
 obtain ⟨aZ, aK, h⟩ := bS h
 refine sBin _ S (wN rfl) rfl rfl rfl (bAddS _ _ _ _ (x := ah) (y := aI) aK) rfl (lb rfl) fun a S => ?_
 refine sN S fun a S => ?_
 refine lT (aC _ _ ?_)
 obtain ⟨bi, h, bj⟩ := bS h
 refine sCut (fun a w => ∃ ai, ai = bi ∧ St [] E [] w0 47 a w [(1, .pointer (some ⟨b6, 0, none⟩)), (4, .string ai), (5, iv a6)] [eBox b6 42 [iv p0.Start, .slice a4 p0.Rows.length a5]] [fRep (rL r_api_Row) (.slice a4 p0.Rows.length a5) p0.Rows]) ?_ (fun a w hI => ?_)
 rotate_left
 ·obtain ⟨ai, rfl, S⟩ := hI
  have h := bj
  try dsimp only at h
  refine sRegion (sM S fun a S => ?_)
  obtain ⟨bk, aL, h⟩ := bS h
  refine sBin _ S (wN rfl) rfl rfl rfl (bAddS _ _ _ _ (x := ai) (y := (⟨#[10]⟩ : ByteArray)) aL) rfl (lb rfl) fun a S => ?_
  refine sN S fun a S => ?_
  refine leafL (leafB (leafT (ar _ _ ?_)))
  refine sRegion (sM S fun a S => ?_)
  refine sBin _ S (wN rfl) rfl rfl rfl (bAdd _ _ _ _ a6 1) rfl (lb rfl) fun a S => ?_
  refine sN S fun a S => ?_
  exact lT (⟨(bk, w64 (a6 + 1)), (Option.some.inj h).symm, (S.fix [0] [0] (by decide) rfl rfl rfl)⟩)
 refine sSeq (fun bC aM => sRegion (sM S fun a S => ?_))
 refine sBin _ S (wN rfl) rfl rfl rfl (bNeS _ _ _ _ ac (⟨#[]⟩ : ByteArray)) rfl (lb rfl) fun a S => ?_
 refine lT (aM _ _ ?_)
 rcases iS h with ⟨ab, h⟩ | ⟨ab, h⟩
 rotate_left
 ·refine sCondF S rfl ab ?_
  exact wp_skip (leafT (⟨aZ, Option.some.inj h, S.fix [0] [8] (by decide) rfl rfl rfl⟩))
 refine sCondT S rfl ab ?_
 refine sRegion (sM S fun a S => ?_)
 obtain ⟨bl, aO, h⟩ := bS h
 refine sBin _ S (wN rfl) rfl rfl rfl (bAddS _ _ _ _ (x := aZ) (y := (⟨#[32]⟩ : ByteArray)) aO) rfl (lb rfl) fun a S => ?_
 refine sM S fun a S => ?_
 obtain ⟨bm, aP, h⟩ := bS h
 refine sBin _ S (wN rfl) rfl rfl rfl (bAddS _ _ _ _ (x := bl) (y := ac) aP) rfl (lb rfl) fun a S => ?_
 refine sN S fun a S => ?_
 exact lT (⟨bm, Option.some.inj h, S.fix [0] [8] (by decide) rfl rfl rfl⟩)
end Go.Proofs.Ytffikfajljbmnaa
