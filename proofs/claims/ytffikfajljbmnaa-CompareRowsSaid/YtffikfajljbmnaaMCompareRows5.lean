/- CompareRows: walks, tables, laws. -/
import Derived.Test.YtffikfajljbmnaaProg
import Derived.Test.YtffikfajljbmnaaRows
import Derived.Test.YtffikfajljbmnaaMCompareRows4
namespace Go.Proofs.Ytffikfajljbmnaa
open Go.RowKit
def anc_raddleref46_Same_0 : List (List Nat) := [[], [], [0, 1], [0, 1, 2], [], [], [4, 5], [4, 5, 6], [0, 1, 2, 3, 4, 5, 6, 7]]
noncomputable def raddleref46_Same_l1 (p0 : (List api_CellStep)) (p1 : (List api_CellStep)) : Int → Option (Int ⊕ (Bool ⊕ Unit)) := fun s0 => match s0 with
 | s13 =>
  if decide (s13 < (p0.length : Int)) then
   Option.bind (idxO p0 s13) fun x22 =>
   Option.bind (idxO p1 s13) fun x27 =>
   if !((x22.Kind == x27.Kind) && (((x22.S.Kind == x27.S.Kind) && ((x22.S.Purl == x27.S.Purl) && ((x22.S.A == x27.S.A) && ((x22.S.B == x27.S.B) && true)))) && true)) then
    some (.inr (.inl false))
   else
    some (.inl (w64 (s13 + 1)))
  else
   some (.inr (.inr ()))
noncomputable def F_raddleref46_Same (p0 : (List api_CellStep)) (p1 : (List api_CellStep)) : Option Bool :=
 if (p0.length : Int) != (p1.length : Int) then
  some false
 else
  Option.bind (α := Unit ⊕ Bool) (
   Option.bind (whileO (raddleref46_Same_l1 p0 p1) 0) fun z0 => match z0 with
    | .inl z =>
     some (.inr z)
    | .inr _ =>
     some (.inl ())) fun z0 => match z0 with
   | .inl _ =>
    some true
   | .inr z =>
    some z
set_option maxHeartbeats 4000000 in
set_option maxRecDepth 100000 in
theorem c_raddleref46_Same (E : Nat → Prop) (w0 : World) (p0 : (List api_CellStep)) (v0 : Value) (p1 : (List api_CellStep)) (v1 : Value) (r : Bool) (h : F_raddleref46_Same p0 p1 = some r) (S : St0 E [] w0 w0 [] [fRep (rL r_api_CellStep) (v0) p0, fRep (rL r_api_CellStep) (v1) p1]) :
 Calls Try.prog 29 #[v0, v1] w0 (Ret (X := Unit) E [] w0 (fun _ => .bool r) (fun _ => []) (fun _ => [])) := by
 unfold F_raddleref46_Same at h
 obtain ⟨ad1, cp2, _, rfl, _⟩ := S.know (i := 0) (e := fRep (rL r_api_CellStep) (v0) p0) rfl
 obtain ⟨ad3, cp4, _, rfl, _⟩ := S.know (i := 1) (e := fRep (rL r_api_CellStep) (v1) p1) rfl
 refine sEnter (args := [.slice ad1 p0.length cp2, .slice ad3 p1.length cp4]) 26 Try.func29 rfl rfl (by simp) S (fun a S => ?_)
 refine sSeq (fun K5 hK5 => ?_)
 refine sRegion ?_
 refine sMa S rfl rfl rfl rfl rfl fun a S => ?_
 refine lT (hK5 _ _ ?_)
 refine sSeq (fun K6 hK6 => ?_)
 refine sSeq (fun K7 hK7 => ?_)
 refine sRegion ?_
 refine sMm S rfl rfl rfl rfl rfl fun a S => ?_
 refine sLen S (wN rfl) rfl Try.underlying48 rfl rfl (lb rfl) fun a S => ?_
 refine sMm S rfl rfl rfl rfl rfl fun a S => ?_
 refine sLen S (wN rfl) rfl Try.underlying48 rfl rfl (lb rfl) fun a S => ?_
 refine sBin _ S (wN rfl) rfl rfl rfl (bNe _ _ _ _ .i64 (p0.length : Int) (p1.length : Int)) rfl (lb rfl) fun a S => ?_
 refine lT (hK7 _ _ ?_)
 rcases iteSome h with ⟨hc8, h⟩ | ⟨hc8, h⟩
 ·refine sCondT S rfl hc8 ?_
  refine sSeq (fun K9 hK9 => ?_)
  refine sRegion ?_
  refine sMa S rfl rfl rfl rfl rfl fun a S => ?_
  refine lT (hK9 _ _ ?_)
  obtain rfl := Option.some.inj h
  exact wp_ret (rThen (sRet (.bool false) S (rsl1 rfl (rvT (t := 4) (v := .bool false) S rfl)) ⟨(), rfl, S.mem.sel [] [] (by decide) rfl rfl⟩))
 refine sCondF S rfl hc8 ?_
 refine wp_skip (leafT (hK6 _ _ ?_))
 obtain ⟨t10, h, g11⟩ := bindSome h
 refine sCut (fun a w => .inl () = t10 ∧ St [] E [] w0 26 a w [] [] []) ?_ (fun a w hI => ?_)
 rotate_left
 ·obtain ⟨rfl, S⟩ := hI
  have h := g11
  clear g11
  try dsimp only at h
  refine sSeq (fun K40 hK40 => ?_)
  refine sRegion ?_
  refine sMa S rfl rfl rfl rfl rfl fun a S => ?_
  refine lT (hK40 _ _ ?_)
  obtain rfl := Option.some.inj h
  exact wp_ret (sRet (.bool true) S (rsl1 rfl (rvT (t := 4) (v := .bool true) S rfl)) ⟨(), rfl, S.mem.sel [] [] (by decide) rfl rfl⟩)
 refine sSeq (fun K12 hK12 => ?_)
 refine sRegion ?_
 refine sMa S rfl rfl rfl rfl rfl fun a S => ?_
 refine lT (hK12 _ _ ?_)
 refine wp_block ?_
 obtain ⟨t16, hl, g15⟩ := bindSome h
 refine sLoop hl (fun s0 a w => match s0 with | s13 => St [] E [] w0 26 a w [(0, .slice ad1 p0.length cp2), (1, .slice ad3 p1.length cp4), (5, iv s13)] [] [fRep (rL r_api_CellStep) (.slice ad1 p0.length cp2) p0, fRep (rL r_api_CellStep) (.slice ad3 p1.length cp4) p1]) (S.fix [] [0, 1] (by decide) rfl rfl rfl) ?_
 clear hl h
 intro s13 a w c0 hI h hu14
 unfold raddleref46_Same_l1 at h
 dsimp only at h hI
 have S := hI
 refine sSeq (fun K17 hK17 => ?_)
 refine sSeq (fun K18 hK18 => ?_)
 refine sRegion ?_
 refine sMm S rfl rfl rfl rfl rfl fun a S => ?_
 refine sMm S rfl rfl rfl rfl rfl fun a S => ?_
 refine sLen S (wN rfl) rfl Try.underlying48 rfl rfl (lb rfl) fun a S => ?_
 refine sBin _ S (wN rfl) rfl rfl rfl (bLt _ _ _ _ .i64 s13 (p0.length : Int)) rfl (lb rfl) fun a S => ?_
 refine lT (hK18 _ _ ?_)
 rcases iteSome h with ⟨hc19, h⟩ | ⟨hc19, h⟩
 rotate_left
 ·refine sCondF S rfl hc19 ?_
  obtain rfl := Option.some.inj h
  obtain rfl := hu14 _ rfl
  have h := g15
  clear g15
  try dsimp only at h
  exact wp_exit (xThen (xThen (xHit (leafT (⟨Option.some.inj h, S.fix [] [] (by decide) rfl rfl rfl⟩)))))
 refine sCondT S rfl hc19 ?_
 refine wp_skip (leafT (hK17 _ _ ?_))
 refine sSeq (fun K20 hK20 => ?_)
 refine wp_block ?_
 refine sSeq (fun K21 hK21 => ?_)
 obtain ⟨x22, hx23, h⟩ := bindSome h
 obtain ⟨x27, hx28, h⟩ := bindSome h
 obtain ⟨q32, hq33, S⟩ := pIdx (P := Try.prog) (r := r_api_CellStep) (v := .slice ad1 p0.length cp2) (xs := p0) (j := s13) 48 83 0 S Try.underlying48 rfl rfl hx23
 obtain ⟨u34, S⟩ := pLoad (r := r_api_CellStep) (q := q32) (x := x22) 0 S rfl
 obtain rfl : u34 = .agg #[.int .u8 x22.Kind, .int .u8 x22.S.Kind, .bool x22.S.Purl, iv x22.S.A, iv x22.S.B] := S.mem.know (i := 1) (e := fRep r_api_CellStep (u34) x22) rfl
 obtain ⟨q35, hq36, S⟩ := pIdx (P := Try.prog) (r := r_api_CellStep) (v := .slice ad3 p1.length cp4) (xs := p1) (j := s13) 48 83 4 S Try.underlying48 rfl rfl hx28
 obtain ⟨u37, S⟩ := pLoad (r := r_api_CellStep) (q := q35) (x := x27) 0 S rfl
 obtain rfl : u37 = .agg #[.int .u8 x27.Kind, .int .u8 x27.S.Kind, .bool x27.S.Purl, iv x27.S.A, iv x27.S.B] := S.mem.know (i := 1) (e := fRep r_api_CellStep (u37) x27) rfl
 refine sDraw (nf := []) (W := [(0, 17, .slice ad1 p0.length cp2), (1, 18, iv s13), (2, 19, q32), (3, 20, .agg #[.int .u8 x22.Kind, .int .u8 x22.S.Kind, .bool x22.S.Purl, iv x22.S.A, iv x22.S.B]), (4, 21, .slice ad3 p1.length cp4), (5, 22, iv s13), (6, 23, q35), (7, 24, .agg #[.int .u8 x27.Kind, .int .u8 x27.S.Kind, .bool x27.S.Purl, iv x27.S.A, iv x27.S.B]), (8, 25, .bool (!((x22.Kind == x27.Kind) && (((x22.S.Kind == x27.S.Kind) && ((x22.S.Purl == x27.S.Purl) && ((x22.S.A == x27.S.A) && ((x22.S.B == x27.S.B) && true)))) && true))))]) rfl S ?_
 refine node_by (A := anc_raddleref46_Same_0) 9 (by kernel_rfl) (by kernel_rfl) (by kernel_rfl) (by kernel_rfl) (by kernel_rfl) [0, 1, 2, 3, 4, 5, 6, 7, 8] (by kernel_rfl) (by decide) (by decide) (fF ?_ (fF ?_ (fF ?_ (fF ?_ (fF ?_ (fF ?_ (fF ?_ (fF ?_ (fF ?_ (trivial)))))))))) [(0, .slice ad1 p0.length cp2), (1, .slice ad3 p1.length cp4), (5, iv s13), (25, .bool (!((x22.Kind == x27.Kind) && (((x22.S.Kind == x27.S.Kind) && ((x22.S.Purl == x27.S.Purl) && ((x22.S.A == x27.S.A) && ((x22.S.B == x27.S.B) && true)))) && true))))] (fin_of [none, none, none, some 8] rfl (by kernel_rfl) (by kernel_rfl)) (fun _ a w S => ?_)
 ·exact fM 0 none rfl rfl rfl rfl (.inl rfl) rfl rfl rfl
 ·exact fM 1 none rfl rfl rfl rfl (.inl rfl) rfl rfl rfl
 ·refine fJ [(17, _), (18, _)] 2 [some 0, some 1] fun G a w S => ?_
  exact sIdxV S (wN rfl) rfl rfl rfl hq33 rfl (lb rfl) fun a S => leafL ⟨rfl, S⟩
 ·refine fJ [(19, _)] 3 [some 2] fun G a w S => ?_
  exact sLoadVN (vq := q32) 3 [.int .u8 x22.Kind, .int .u8 x22.S.Kind, .bool x22.S.Purl, iv x22.S.A, iv x22.S.B] S (wN rfl) rfl rfl rfl rfl rfl rfl (lb rfl) fun a S => leafL ⟨rfl, S⟩
 ·exact fM 4 none rfl rfl rfl rfl (.inl rfl) rfl rfl rfl
 ·exact fM 5 none rfl rfl rfl rfl (.inl rfl) rfl rfl rfl
 ·refine fJ [(21, _), (22, _)] 6 [some 4, some 5] fun G a w S => ?_
  exact sIdxV S (wN rfl) rfl rfl rfl hq36 rfl (lb rfl) fun a S => leafL ⟨rfl, S⟩
 ·refine fJ [(23, _)] 7 [some 6] fun G a w S => ?_
  exact sLoadVN (vq := q35) 0 [.int .u8 x27.Kind, .int .u8 x27.S.Kind, .bool x27.S.Purl, iv x27.S.A, iv x27.S.B] S (wN rfl) rfl rfl rfl rfl rfl rfl (lb rfl) fun a S => leafL ⟨rfl, S⟩
 ·refine fJ [(20, _), (24, _)] 8 [some 3, some 7] fun G a w S => ?_
  exact sBin _ S (wN rfl) rfl rfl rfl (bNeV _ _ _ _ #[.int .u8 x22.Kind, .int .u8 x22.S.Kind, .bool x22.S.Purl, iv x22.S.A, iv x22.S.B] #[.int .u8 x27.Kind, .int .u8 x27.S.Kind, .bool x27.S.Purl, iv x27.S.A, iv x27.S.B] ((x22.Kind == x27.Kind) && (((x22.S.Kind == x27.S.Kind) && ((x22.S.Purl == x27.S.Purl) && ((x22.S.A == x27.S.A) && ((x22.S.B == x27.S.B) && true)))) && true)) (by kernel_rfl) (eqlV_of (by kernel_rfl))) rfl (lb rfl) fun a S => leafL ⟨rfl, S⟩
 refine leafT (hK21 _ _ ?_)
 rcases iteSome h with ⟨hc38, h⟩ | ⟨hc38, h⟩
 rotate_left
 ·refine sCondF S rfl hc38 ?_
  refine wp_skip (leafB (leafT (hK20 _ _ ?_)))
  refine sRegion ?_
  refine sMm S rfl rfl rfl rfl rfl fun a S => ?_
  refine sBin _ S (wN rfl) rfl rfl rfl (bAdd _ _ _ _ s13 1) rfl (lb rfl) fun a S => ?_
  refine sMa S rfl rfl rfl rfl rfl fun a S => ?_
  exact lT (⟨w64 (s13 + 1), (Option.some.inj h).symm, (S.fix [] [6, 7] (by decide) rfl rfl rfl)⟩)
 refine sCondT S rfl hc38 ?_
 refine sSeq (fun K39 hK39 => ?_)
 refine sRegion ?_
 refine sMa S rfl rfl rfl rfl rfl fun a S => ?_
 refine lT (hK39 _ _ ?_)
 obtain rfl := Option.some.inj h
 obtain rfl := hu14 _ rfl
 have h := g15
 clear g15
 try dsimp only at h
 obtain rfl := Option.some.inj h
 have h := g11
 clear g11
 try dsimp only at h
 obtain rfl := Option.some.inj h
 exact wp_ret (rBlock (rThen (rThen (rBlock (rThen (sRet (.bool false) S (rsl1 rfl (rvT (t := 4) (v := .bool false) S rfl)) ⟨(), rfl, S.mem.sel [] [] (by decide) rfl rfl⟩))))))
end Go.Proofs.Ytffikfajljbmnaa
namespace Go.Proofs.Ytffikfajljbmnaa
open Go.RowKit
noncomputable def F_raddleref25_Check (p0 : api_Stitch) : Option Int :=
 Option.bind (α := Bool) (
  if p0.A == 0 then
   some (p0.B == 0)
  else
   some false) fun o3 =>
 Option.bind (α := Bool) (
  Option.bind (α := Bool) (
   if p0.Kind == 1 then
    some (p0.Kind == 1)
   else
    some (p0.Kind == 8)) fun o12 =>
  if o12 then
   some o3
  else
   if p0.Kind == 2 then
    if o3 then
     some (!p0.Purl)
    else
     some false
   else
    Option.bind (α := Bool) (
     if p0.Kind == 3 then
      some (p0.Kind == 3)
     else
      if p0.Kind == 4 then
       some (p0.Kind == 4)
      else
       some (p0.Kind == 5)) fun o21 =>
    if o21 then
     if p0.B == 0 then
      if decide (2 ≤ p0.A) then
       some (decide (p0.A ≤ 4))
      else
       some false
     else
      some false
    else
     Option.bind (α := Bool) (
      if p0.Kind == 6 then
       some (p0.Kind == 6)
      else
       some (p0.Kind == 7)) fun o31 =>
     if o31 then
      if decide (1 ≤ p0.A) then
       if decide (p0.A ≤ 6) then
        if decide (1 ≤ p0.B) then
         some (decide (p0.B ≤ 6))
        else
         some false
       else
        some false
      else
       some false
     else
      if p0.Kind == 9 then
       if p0.B == 0 then
        if !p0.Purl then
         if decide (1 ≤ p0.A) then
          some (decide (p0.A ≤ 200))
         else
          some false
        else
         some false
       else
        some false
      else
       if p0.Kind == 10 then
        if p0.B == 0 then
         if decide (1 ≤ p0.A) then
          some (decide (p0.A ≤ 200))
         else
          some false
        else
         some false
       else
        some false) fun o8 =>
 if !o8 then
  some 8
 else
  some 0
set_option maxHeartbeats 4000000 in
set_option maxRecDepth 100000 in
theorem c_raddleref25_Check (E : Nat → Prop) (w0 : World) (p0 : api_Stitch) (v0 : Value) (r : Int) (h : F_raddleref25_Check p0 = some r) (S : St0 E [] w0 w0 [] [fRep r_api_Stitch (v0) p0]) :
 Calls Try.prog 73 #[v0] w0 (Ret (X := Unit) E [] w0 (fun _ => .int .i64 r) (fun _ => []) (fun _ => [])) := by
 unfold F_raddleref25_Check at h
 obtain rfl : v0 = .agg #[.int .u8 p0.Kind, .bool p0.Purl, iv p0.A, iv p0.B] := S.know (i := 0) (e := fRep r_api_Stitch (v0) p0) rfl
 refine sEnter (args := [.agg #[.int .u8 p0.Kind, .bool p0.Purl, iv p0.A, iv p0.B]]) 102 Try.func73 rfl rfl (by simp) S (fun a S => ?_)
 refine sSeq (fun K1 hK1 => ?_)
 refine sRegion ?_
 refine sBox (v := .agg #[.int .u8 p0.Kind, .bool p0.Purl, iv p0.A, iv p0.B]) S (wN rfl) rfl rfl [.int .u8 p0.Kind, .bool p0.Purl, iv p0.A, iv p0.B] rfl rfl (lb rfl) fun a b2 w S => ?_
 refine sMa S rfl rfl rfl rfl rfl fun a S => ?_
 refine lT (hK1 _ _ ?_)
 obtain ⟨t4, h, g5⟩ := bindSome h
 refine sCut (fun a w => ∃ o3, o3 = t4 ∧ St [] E [] w0 102 a w [(1, .pointer (some ⟨b2, 0, none⟩)), (3, .bool o3)] [eBox b2 81 [.int .u8 p0.Kind, .bool p0.Purl, iv p0.A, iv p0.B]] []) ?_ (fun a w hI => ?_)
 ·refine sRegion ?_
  refine sField (b := b2) (off := 0) 2 2 S (wN rfl) rfl rfl rfl rfl rfl (lb rfl) fun a S => ?_
  refine sLoad1 0 (iv p0.A) S (wN rfl) rfl rfl rfl rfl rfl rfl (lb rfl) fun a S => ?_
  refine sBin _ S (wN rfl) rfl rfl rfl (bEq _ _ _ _ .i64 p0.A 0) rfl (lb rfl) fun a S => ?_
  refine sMm S rfl rfl rfl rfl rfl fun a S => ?_
  rcases iteSome h with ⟨hc6, h⟩ | ⟨hc6, h⟩
  rotate_left
  ·refine sSkN 3 3 true 8 S rfl rfl hc6 rfl fun a S => ?_
   refine sPickF (.bool false) S (wN rfl) rfl rfl hc6 rfl rfl (lb rfl) fun a S => ?_
   refine sMa S rfl rfl rfl rfl rfl fun a S => ?_
   exact lT (⟨false, Option.some.inj h, S.fix [0] [] (by decide) rfl rfl rfl⟩)
  refine sField (b := b2) (off := 0) 3 3 S (wG 3 true 8 rfl rfl rfl hc6) rfl rfl rfl rfl rfl (lb rfl) fun a S => ?_
  refine sLoad1 0 (iv p0.B) S (wG 3 true 8 rfl rfl rfl hc6) rfl rfl rfl rfl rfl rfl (lb rfl) fun a S => ?_
  refine sBin _ S (wG 3 true 8 rfl rfl rfl hc6) rfl rfl rfl (bEq _ _ _ _ .i64 p0.B 0) rfl (lb rfl) fun a S => ?_
  refine sPickT (.bool (p0.B == 0)) S (wN rfl) rfl rfl hc6 rfl rfl (lb rfl) fun a S => ?_
  refine sMa S rfl rfl rfl rfl rfl fun a S => ?_
  exact lT (⟨p0.B == 0, Option.some.inj h, S.fix [0] [] (by decide) rfl rfl rfl⟩)
 obtain ⟨o3, rfl, S⟩ := hI
 have h := g5
 clear g5
 try dsimp only at h
 refine sSeq (fun K7 hK7 => ?_)
 refine sRegion ?_
 refine sMa S rfl rfl rfl rfl rfl fun a S => ?_
 refine lT (hK7 _ _ ?_)
 obtain ⟨t9, h, g10⟩ := bindSome h
 refine sCut (fun a w => ∃ o8, o8 = t9 ∧ St [] E [] w0 102 a w [(4, .bool o8)] [] []) ?_ (fun a w hI => ?_)
 rotate_left
 ·obtain ⟨o8, rfl, S⟩ := hI
  have h := g10
  clear g10
  try dsimp only at h
  refine sSeq (fun K49 hK49 => ?_)
  refine sSeq (fun K50 hK50 => ?_)
  refine sRegion ?_
  refine sMm S rfl rfl rfl rfl rfl fun a S => ?_
  refine sNot (b := o8) S (wN rfl) rfl rfl rfl (lb rfl) fun a S => ?_
  refine lT (hK50 _ _ ?_)
  rcases iteSome h with ⟨hc51, h⟩ | ⟨hc51, h⟩
  ·refine sCondT S rfl hc51 ?_
   refine sSeq (fun K52 hK52 => ?_)
   refine sRegion ?_
   refine sMa S rfl rfl rfl rfl rfl fun a S => ?_
   refine lT (hK52 _ _ ?_)
   obtain rfl := Option.some.inj h
   exact wp_ret (rThen (sRet (iv 8) S (rsl1 rfl (rvT (t := 2) (v := iv 8) S rfl)) ⟨(), rfl, S.mem.sel [] [] (by decide) rfl rfl⟩))
  refine sCondF S rfl hc51 ?_
  refine wp_skip (leafT (hK49 _ _ ?_))
  refine sSeq (fun K53 hK53 => ?_)
  refine sRegion ?_
  refine sMa S rfl rfl rfl rfl rfl fun a S => ?_
  refine lT (hK53 _ _ ?_)
  obtain rfl := Option.some.inj h
  exact wp_ret (sRet (iv 0) S (rsl1 rfl (rvT (t := 2) (v := iv 0) S rfl)) ⟨(), rfl, S.mem.sel [] [] (by decide) rfl rfl⟩)
 refine sSeq (fun K11 hK11 => ?_)
 refine sRegion ?_
 refine sField (b := b2) (off := 0) 0 0 S (wN rfl) rfl rfl rfl rfl rfl (lb rfl) fun a S => ?_
 refine sLoad1 0 (.int .u8 p0.Kind) S (wN rfl) rfl rfl rfl rfl rfl rfl (lb rfl) fun a S => ?_
 refine lT (hK11 _ _ ?_)
 refine wp_block ?_
 obtain ⟨t13, h, g14⟩ := bindSome h
 refine sCut (fun a w => ∃ o12, o12 = t13 ∧ St [] E [] w0 102 a w [(1, .pointer (some ⟨b2, 0, none⟩)), (3, .bool o3), (4, .bool false), (14, .int .u8 p0.Kind), (15, .bool o12)] [eBox b2 81 [.int .u8 p0.Kind, .bool p0.Purl, iv p0.A, iv p0.B]] []) ?_ (fun a w hI => ?_)
 ·refine sSeq (fun K15 hK15 => ?_)
  refine sRegion ?_
  refine sBin _ S (wN rfl) rfl rfl rfl (bEq _ _ _ _ .u8 p0.Kind 1) rfl (lb rfl) fun a S => ?_
  refine sMa S rfl rfl rfl rfl rfl fun a S => ?_
  refine lT (hK15 _ _ ?_)
  rcases iteSome h with ⟨hc16, h⟩ | ⟨hc16, h⟩
  ·refine sCondT S rfl hc16 ?_
   exact wp_skip (leafT (⟨p0.Kind == 1, Option.some.inj h, S.fix [0] [] (by decide) rfl rfl rfl⟩))
  refine sCondF S rfl hc16 ?_
  refine sRegion ?_
  refine sBin _ S (wN rfl) rfl rfl rfl (bEq _ _ _ _ .u8 p0.Kind 8) rfl (lb rfl) fun a S => ?_
  refine sMa S rfl rfl rfl rfl rfl fun a S => ?_
  exact lT (⟨p0.Kind == 8, Option.some.inj h, S.fix [0] [] (by decide) rfl rfl rfl⟩)
 obtain ⟨o12, rfl, S⟩ := hI
 have h := g14
 clear g14
 try dsimp only at h
 rcases iteSome h with ⟨hc17, h⟩ | ⟨hc17, h⟩
 ·refine sCondT S rfl hc17 ?_
  refine sRegion ?_
  refine sMm S rfl rfl rfl rfl rfl fun a S => ?_
  refine sMa S rfl rfl rfl rfl rfl fun a S => ?_
  exact leafL (leafB (leafT (⟨o3, Option.some.inj h, S.fix [] [] (by decide) rfl rfl rfl⟩)))
 refine sCondF S rfl hc17 ?_
 refine sSeq (fun K18 hK18 => ?_)
 refine sRegion ?_
 refine sBin _ S (wN rfl) rfl rfl rfl (bEq _ _ _ _ .u8 p0.Kind 2) rfl (lb rfl) fun a S => ?_
 refine sMa S rfl rfl rfl rfl rfl fun a S => ?_
 refine lT (hK18 _ _ ?_)
 rcases iteSome h with ⟨hc19, h⟩ | ⟨hc19, h⟩
 ·refine sCondT S rfl hc19 ?_
  refine sRegion ?_
  refine sMm S rfl rfl rfl rfl rfl fun a S => ?_
  refine sMm S rfl rfl rfl rfl rfl fun a S => ?_
  rcases iteSome h with ⟨hc20, h⟩ | ⟨hc20, h⟩
  rotate_left
  ·refine sSkN 3 1 true 22 S rfl rfl hc20 rfl fun a S => ?_
   refine sPickF (.bool false) S (wN rfl) rfl rfl hc20 rfl rfl (lb rfl) fun a S => ?_
   refine sMa S rfl rfl rfl rfl rfl fun a S => ?_
   exact leafL (leafB (leafT (⟨false, Option.some.inj h, S.fix [] [] (by decide) rfl rfl rfl⟩)))
  refine sField (b := b2) (off := 0) 1 1 S (wG 1 true 22 rfl rfl rfl hc20) rfl rfl rfl rfl rfl (lb rfl) fun a S => ?_
  refine sLoad1 0 (.bool p0.Purl) S (wG 1 true 22 rfl rfl rfl hc20) rfl rfl rfl rfl rfl rfl (lb rfl) fun a S => ?_
  refine sNot (b := p0.Purl) S (wG 1 true 22 rfl rfl rfl hc20) rfl rfl rfl (lb rfl) fun a S => ?_
  refine sPickT (.bool (!p0.Purl)) S (wN rfl) rfl rfl hc20 rfl rfl (lb rfl) fun a S => ?_
  refine sMa S rfl rfl rfl rfl rfl fun a S => ?_
  exact leafL (leafB (leafT (⟨!p0.Purl, Option.some.inj h, S.fix [] [] (by decide) rfl rfl rfl⟩)))
 refine sCondF S rfl hc19 ?_
 obtain ⟨t22, h, g23⟩ := bindSome h
 refine sCut (fun a w => ∃ o21, o21 = t22 ∧ St [] E [] w0 102 a w [(1, .pointer (some ⟨b2, 0, none⟩)), (4, .bool false), (14, .int .u8 p0.Kind), (27, .bool o21)] [eBox b2 81 [.int .u8 p0.Kind, .bool p0.Purl, iv p0.A, iv p0.B]] []) ?_ (fun a w hI => ?_)
 ·refine sSeq (fun K24 hK24 => ?_)
  refine sRegion ?_
  refine sBin _ S (wN rfl) rfl rfl rfl (bEq _ _ _ _ .u8 p0.Kind 3) rfl (lb rfl) fun a S => ?_
  refine sMa S rfl rfl rfl rfl rfl fun a S => ?_
  refine lT (hK24 _ _ ?_)
  rcases iteSome h with ⟨hc25, h⟩ | ⟨hc25, h⟩
  ·refine sCondT S rfl hc25 ?_
   exact wp_skip (leafT (⟨p0.Kind == 3, Option.some.inj h, S.fix [0] [] (by decide) rfl rfl rfl⟩))
  refine sCondF S rfl hc25 ?_
  refine sSeq (fun K26 hK26 => ?_)
  refine sRegion ?_
  refine sBin _ S (wN rfl) rfl rfl rfl (bEq _ _ _ _ .u8 p0.Kind 4) rfl (lb rfl) fun a S => ?_
  refine sMa S rfl rfl rfl rfl rfl fun a S => ?_
  refine lT (hK26 _ _ ?_)
  rcases iteSome h with ⟨hc27, h⟩ | ⟨hc27, h⟩
  ·refine sCondT S rfl hc27 ?_
   exact wp_skip (leafT (⟨p0.Kind == 4, Option.some.inj h, S.fix [0] [] (by decide) rfl rfl rfl⟩))
  refine sCondF S rfl hc27 ?_
  refine sRegion ?_
  refine sBin _ S (wN rfl) rfl rfl rfl (bEq _ _ _ _ .u8 p0.Kind 5) rfl (lb rfl) fun a S => ?_
  refine sMa S rfl rfl rfl rfl rfl fun a S => ?_
  exact lT (⟨p0.Kind == 5, Option.some.inj h, S.fix [0] [] (by decide) rfl rfl rfl⟩)
 obtain ⟨o21, rfl, S⟩ := hI
 have h := g23
 clear g23
 try dsimp only at h
 rcases iteSome h with ⟨hc28, h⟩ | ⟨hc28, h⟩
 ·refine sCondT S rfl hc28 ?_
  refine sRegion ?_
  refine sField (b := b2) (off := 0) 3 3 S (wN rfl) rfl rfl rfl rfl rfl (lb rfl) fun a S => ?_
  refine sLoad1 0 (iv p0.B) S (wN rfl) rfl rfl rfl rfl rfl rfl (lb rfl) fun a S => ?_
  refine sBin _ S (wN rfl) rfl rfl rfl (bEq _ _ _ _ .i64 p0.B 0) rfl (lb rfl) fun a S => ?_
  refine sMm S rfl rfl rfl rfl rfl fun a S => ?_
  rcases iteSome h with ⟨hc29, h⟩ | ⟨hc29, h⟩
  rotate_left
  ·refine sSkN 3 3 true 34 S rfl rfl hc29 rfl fun a S => ?_
   refine sPickF (.bool false) S (wN rfl) rfl rfl hc29 rfl rfl (lb rfl) fun a S => ?_
   refine sMm S rfl rfl rfl rfl rfl fun a S => ?_
   refine sSkN 3 8 true 39 S rfl rfl rfl rfl fun a S => ?_
   refine sPickF (.bool false) S (wN rfl) rfl rfl rfl rfl rfl (lb rfl) fun a S => ?_
   refine sMa S rfl rfl rfl rfl rfl fun a S => ?_
   exact leafL (leafB (leafT (⟨false, Option.some.inj h, S.fix [] [] (by decide) rfl rfl rfl⟩)))
  refine sField (b := b2) (off := 0) 2 2 S (wG 3 true 34 rfl rfl rfl hc29) rfl rfl rfl rfl rfl (lb rfl) fun a S => ?_
  refine sLoad1 0 (iv p0.A) S (wG 3 true 34 rfl rfl rfl hc29) rfl rfl rfl rfl rfl rfl (lb rfl) fun a S => ?_
  refine sBin _ S (wG 3 true 34 rfl rfl rfl hc29) rfl rfl rfl (bGe _ _ _ _ .i64 p0.A 2) rfl (lb rfl) fun a S => ?_
  refine sPickT (.bool (decide (2 ≤ p0.A))) S (wN rfl) rfl rfl hc29 rfl rfl (lb rfl) fun a S => ?_
  refine sMm S rfl rfl rfl rfl rfl fun a S => ?_
  rcases iteSome h with ⟨hc30, h⟩ | ⟨hc30, h⟩
  rotate_left
  ·refine sSkN 3 8 true 39 S rfl rfl hc30 rfl fun a S => ?_
   refine sPickF (.bool false) S (wN rfl) rfl rfl hc30 rfl rfl (lb rfl) fun a S => ?_
   refine sMa S rfl rfl rfl rfl rfl fun a S => ?_
   exact leafL (leafB (leafT (⟨false, Option.some.inj h, S.fix [] [] (by decide) rfl rfl rfl⟩)))
  refine sField (b := b2) (off := 0) 2 2 S (wG 8 true 39 rfl rfl rfl hc30) rfl rfl rfl rfl rfl (lb rfl) fun a S => ?_
  refine sLoad1 0 (iv p0.A) S (wG 8 true 39 rfl rfl rfl hc30) rfl rfl rfl rfl rfl rfl (lb rfl) fun a S => ?_
  refine sBin _ S (wG 8 true 39 rfl rfl rfl hc30) rfl rfl rfl (bLe _ _ _ _ .i64 p0.A 4) rfl (lb rfl) fun a S => ?_
  refine sPickT (.bool (decide (p0.A ≤ 4))) S (wN rfl) rfl rfl hc30 rfl rfl (lb rfl) fun a S => ?_
  refine sMa S rfl rfl rfl rfl rfl fun a S => ?_
  exact leafL (leafB (leafT (⟨decide (p0.A ≤ 4), Option.some.inj h, S.fix [] [] (by decide) rfl rfl rfl⟩)))
 refine sCondF S rfl hc28 ?_
 obtain ⟨t32, h, g33⟩ := bindSome h
 refine sCut (fun a w => ∃ o31, o31 = t32 ∧ St [] E [] w0 102 a w [(1, .pointer (some ⟨b2, 0, none⟩)), (4, .bool false), (14, .int .u8 p0.Kind), (44, .bool o31)] [eBox b2 81 [.int .u8 p0.Kind, .bool p0.Purl, iv p0.A, iv p0.B]] []) ?_ (fun a w hI => ?_)
 ·refine sSeq (fun K34 hK34 => ?_)
  refine sRegion ?_
  refine sBin _ S (wN rfl) rfl rfl rfl (bEq _ _ _ _ .u8 p0.Kind 6) rfl (lb rfl) fun a S => ?_
  refine sMa S rfl rfl rfl rfl rfl fun a S => ?_
  refine lT (hK34 _ _ ?_)
  rcases iteSome h with ⟨hc35, h⟩ | ⟨hc35, h⟩
  ·refine sCondT S rfl hc35 ?_
   exact wp_skip (leafT (⟨p0.Kind == 6, Option.some.inj h, S.fix [0] [] (by decide) rfl rfl rfl⟩))
  refine sCondF S rfl hc35 ?_
  refine sRegion ?_
  refine sBin _ S (wN rfl) rfl rfl rfl (bEq _ _ _ _ .u8 p0.Kind 7) rfl (lb rfl) fun a S => ?_
  refine sMa S rfl rfl rfl rfl rfl fun a S => ?_
  exact lT (⟨p0.Kind == 7, Option.some.inj h, S.fix [0] [] (by decide) rfl rfl rfl⟩)
 obtain ⟨o31, rfl, S⟩ := hI
 have h := g33
 clear g33
 try dsimp only at h
 rcases iteSome h with ⟨hc36, h⟩ | ⟨hc36, h⟩
 ·refine sCondT S rfl hc36 ?_
  refine sRegion ?_
  refine sField (b := b2) (off := 0) 2 2 S (wN rfl) rfl rfl rfl rfl rfl (lb rfl) fun a S => ?_
  refine sLoad1 0 (iv p0.A) S (wN rfl) rfl rfl rfl rfl rfl rfl (lb rfl) fun a S => ?_
  refine sBin _ S (wN rfl) rfl rfl rfl (bGe _ _ _ _ .i64 p0.A 1) rfl (lb rfl) fun a S => ?_
  refine sMm S rfl rfl rfl rfl rfl fun a S => ?_
  rcases iteSome h with ⟨hc37, h⟩ | ⟨hc37, h⟩
  rotate_left
  ·refine sSkN 3 3 true 50 S rfl rfl hc37 rfl fun a S => ?_
   refine sPickF (.bool false) S (wN rfl) rfl rfl hc37 rfl rfl (lb rfl) fun a S => ?_
   refine sMm S rfl rfl rfl rfl rfl fun a S => ?_
   refine sSkN 3 8 true 55 S rfl rfl rfl rfl fun a S => ?_
   refine sPickF (.bool false) S (wN rfl) rfl rfl rfl rfl rfl (lb rfl) fun a S => ?_
   refine sMm S rfl rfl rfl rfl rfl fun a S => ?_
   refine sSkN 3 13 true 60 S rfl rfl rfl rfl fun a S => ?_
   refine sPickF (.bool false) S (wN rfl) rfl rfl rfl rfl rfl (lb rfl) fun a S => ?_
   refine sMa S rfl rfl rfl rfl rfl fun a S => ?_
   exact leafL (leafB (leafT (⟨false, Option.some.inj h, S.fix [] [] (by decide) rfl rfl rfl⟩)))
  refine sField (b := b2) (off := 0) 2 2 S (wG 3 true 50 rfl rfl rfl hc37) rfl rfl rfl rfl rfl (lb rfl) fun a S => ?_
  refine sLoad1 0 (iv p0.A) S (wG 3 true 50 rfl rfl rfl hc37) rfl rfl rfl rfl rfl rfl (lb rfl) fun a S => ?_
  refine sBin _ S (wG 3 true 50 rfl rfl rfl hc37) rfl rfl rfl (bLe _ _ _ _ .i64 p0.A 6) rfl (lb rfl) fun a S => ?_
  refine sPickT (.bool (decide (p0.A ≤ 6))) S (wN rfl) rfl rfl hc37 rfl rfl (lb rfl) fun a S => ?_
  refine sMm S rfl rfl rfl rfl rfl fun a S => ?_
  rcases iteSome h with ⟨hc38, h⟩ | ⟨hc38, h⟩
  rotate_left
  ·refine sSkN 3 8 true 55 S rfl rfl hc38 rfl fun a S => ?_
   refine sPickF (.bool false) S (wN rfl) rfl rfl hc38 rfl rfl (lb rfl) fun a S => ?_
   refine sMm S rfl rfl rfl rfl rfl fun a S => ?_
   refine sSkN 3 13 true 60 S rfl rfl rfl rfl fun a S => ?_
   refine sPickF (.bool false) S (wN rfl) rfl rfl rfl rfl rfl (lb rfl) fun a S => ?_
   refine sMa S rfl rfl rfl rfl rfl fun a S => ?_
   exact leafL (leafB (leafT (⟨false, Option.some.inj h, S.fix [] [] (by decide) rfl rfl rfl⟩)))
  refine sField (b := b2) (off := 0) 3 3 S (wG 8 true 55 rfl rfl rfl hc38) rfl rfl rfl rfl rfl (lb rfl) fun a S => ?_
  refine sLoad1 0 (iv p0.B) S (wG 8 true 55 rfl rfl rfl hc38) rfl rfl rfl rfl rfl rfl (lb rfl) fun a S => ?_
  refine sBin _ S (wG 8 true 55 rfl rfl rfl hc38) rfl rfl rfl (bGe _ _ _ _ .i64 p0.B 1) rfl (lb rfl) fun a S => ?_
  refine sPickT (.bool (decide (1 ≤ p0.B))) S (wN rfl) rfl rfl hc38 rfl rfl (lb rfl) fun a S => ?_
  refine sMm S rfl rfl rfl rfl rfl fun a S => ?_
  rcases iteSome h with ⟨hc39, h⟩ | ⟨hc39, h⟩
  rotate_left
  ·refine sSkN 3 13 true 60 S rfl rfl hc39 rfl fun a S => ?_
   refine sPickF (.bool false) S (wN rfl) rfl rfl hc39 rfl rfl (lb rfl) fun a S => ?_
   refine sMa S rfl rfl rfl rfl rfl fun a S => ?_
   exact leafL (leafB (leafT (⟨false, Option.some.inj h, S.fix [] [] (by decide) rfl rfl rfl⟩)))
  refine sField (b := b2) (off := 0) 3 3 S (wG 13 true 60 rfl rfl rfl hc39) rfl rfl rfl rfl rfl (lb rfl) fun a S => ?_
  refine sLoad1 0 (iv p0.B) S (wG 13 true 60 rfl rfl rfl hc39) rfl rfl rfl rfl rfl rfl (lb rfl) fun a S => ?_
  refine sBin _ S (wG 13 true 60 rfl rfl rfl hc39) rfl rfl rfl (bLe _ _ _ _ .i64 p0.B 6) rfl (lb rfl) fun a S => ?_
  refine sPickT (.bool (decide (p0.B ≤ 6))) S (wN rfl) rfl rfl hc39 rfl rfl (lb rfl) fun a S => ?_
  refine sMa S rfl rfl rfl rfl rfl fun a S => ?_
  exact leafL (leafB (leafT (⟨decide (p0.B ≤ 6), Option.some.inj h, S.fix [] [] (by decide) rfl rfl rfl⟩)))
 refine sCondF S rfl hc36 ?_
 refine sSeq (fun K40 hK40 => ?_)
 refine sRegion ?_
 refine sBin _ S (wN rfl) rfl rfl rfl (bEq _ _ _ _ .u8 p0.Kind 9) rfl (lb rfl) fun a S => ?_
 refine sMa S rfl rfl rfl rfl rfl fun a S => ?_
 refine lT (hK40 _ _ ?_)
 rcases iteSome h with ⟨hc41, h⟩ | ⟨hc41, h⟩
 rotate_left
 ·refine sCondF S rfl hc41 ?_
  refine sSeq (fun K45 hK45 => ?_)
  refine sRegion ?_
  refine sBin _ S (wN rfl) rfl rfl rfl (bEq _ _ _ _ .u8 p0.Kind 10) rfl (lb rfl) fun a S => ?_
  refine sMa S rfl rfl rfl rfl rfl fun a S => ?_
  refine lT (hK45 _ _ ?_)
  rcases iteSome h with ⟨hc46, h⟩ | ⟨hc46, h⟩
  rotate_left
  ·refine sCondF S rfl hc46 ?_
   exact wp_skip (leafB (leafT (⟨false, Option.some.inj h, S.fix [] [] (by decide) rfl rfl rfl⟩)))
  refine sCondT S rfl hc46 ?_
  refine sRegion ?_
  refine sField (b := b2) (off := 0) 3 3 S (wN rfl) rfl rfl rfl rfl rfl (lb rfl) fun a S => ?_
  refine sLoad1 0 (iv p0.B) S (wN rfl) rfl rfl rfl rfl rfl rfl (lb rfl) fun a S => ?_
  refine sBin _ S (wN rfl) rfl rfl rfl (bEq _ _ _ _ .i64 p0.B 0) rfl (lb rfl) fun a S => ?_
  refine sMm S rfl rfl rfl rfl rfl fun a S => ?_
  rcases iteSome h with ⟨hc47, h⟩ | ⟨hc47, h⟩
  rotate_left
  ·refine sSkN 3 3 true 90 S rfl rfl hc47 rfl fun a S => ?_
   refine sPickF (.bool false) S (wN rfl) rfl rfl hc47 rfl rfl (lb rfl) fun a S => ?_
   refine sMm S rfl rfl rfl rfl rfl fun a S => ?_
   refine sSkN 3 8 true 95 S rfl rfl rfl rfl fun a S => ?_
   refine sPickF (.bool false) S (wN rfl) rfl rfl rfl rfl rfl (lb rfl) fun a S => ?_
   refine sMa S rfl rfl rfl rfl rfl fun a S => ?_
   exact leafL (leafB (leafT (⟨false, Option.some.inj h, S.fix [] [] (by decide) rfl rfl rfl⟩)))
  refine sField (b := b2) (off := 0) 2 2 S (wG 3 true 90 rfl rfl rfl hc47) rfl rfl rfl rfl rfl (lb rfl) fun a S => ?_
  refine sLoad1 0 (iv p0.A) S (wG 3 true 90 rfl rfl rfl hc47) rfl rfl rfl rfl rfl rfl (lb rfl) fun a S => ?_
  refine sBin _ S (wG 3 true 90 rfl rfl rfl hc47) rfl rfl rfl (bGe _ _ _ _ .i64 p0.A 1) rfl (lb rfl) fun a S => ?_
  refine sPickT (.bool (decide (1 ≤ p0.A))) S (wN rfl) rfl rfl hc47 rfl rfl (lb rfl) fun a S => ?_
  refine sMm S rfl rfl rfl rfl rfl fun a S => ?_
  rcases iteSome h with ⟨hc48, h⟩ | ⟨hc48, h⟩
  rotate_left
  ·refine sSkN 3 8 true 95 S rfl rfl hc48 rfl fun a S => ?_
   refine sPickF (.bool false) S (wN rfl) rfl rfl hc48 rfl rfl (lb rfl) fun a S => ?_
   refine sMa S rfl rfl rfl rfl rfl fun a S => ?_
   exact leafL (leafB (leafT (⟨false, Option.some.inj h, S.fix [] [] (by decide) rfl rfl rfl⟩)))
  refine sField (b := b2) (off := 0) 2 2 S (wG 8 true 95 rfl rfl rfl hc48) rfl rfl rfl rfl rfl (lb rfl) fun a S => ?_
  refine sLoad1 0 (iv p0.A) S (wG 8 true 95 rfl rfl rfl hc48) rfl rfl rfl rfl rfl rfl (lb rfl) fun a S => ?_
  refine sBin _ S (wG 8 true 95 rfl rfl rfl hc48) rfl rfl rfl (bLe _ _ _ _ .i64 p0.A 200) rfl (lb rfl) fun a S => ?_
  refine sPickT (.bool (decide (p0.A ≤ 200))) S (wN rfl) rfl rfl hc48 rfl rfl (lb rfl) fun a S => ?_
  refine sMa S rfl rfl rfl rfl rfl fun a S => ?_
  exact leafL (leafB (leafT (⟨decide (p0.A ≤ 200), Option.some.inj h, S.fix [] [] (by decide) rfl rfl rfl⟩)))
 refine sCondT S rfl hc41 ?_
 refine sRegion ?_
 refine sField (b := b2) (off := 0) 3 3 S (wN rfl) rfl rfl rfl rfl rfl (lb rfl) fun a S => ?_
 refine sLoad1 0 (iv p0.B) S (wN rfl) rfl rfl rfl rfl rfl rfl (lb rfl) fun a S => ?_
 refine sBin _ S (wN rfl) rfl rfl rfl (bEq _ _ _ _ .i64 p0.B 0) rfl (lb rfl) fun a S => ?_
 refine sMm S rfl rfl rfl rfl rfl fun a S => ?_
 rcases iteSome h with ⟨hc42, h⟩ | ⟨hc42, h⟩
 rotate_left
 ·refine sSkN 3 3 true 70 S rfl rfl hc42 rfl fun a S => ?_
  refine sPickF (.bool false) S (wN rfl) rfl rfl hc42 rfl rfl (lb rfl) fun a S => ?_
  refine sMm S rfl rfl rfl rfl rfl fun a S => ?_
  refine sSkN 3 8 true 75 S rfl rfl rfl rfl fun a S => ?_
  refine sPickF (.bool false) S (wN rfl) rfl rfl rfl rfl rfl (lb rfl) fun a S => ?_
  refine sMm S rfl rfl rfl rfl rfl fun a S => ?_
  refine sSkN 3 13 true 80 S rfl rfl rfl rfl fun a S => ?_
  refine sPickF (.bool false) S (wN rfl) rfl rfl rfl rfl rfl (lb rfl) fun a S => ?_
  refine sMa S rfl rfl rfl rfl rfl fun a S => ?_
  exact leafL (leafB (leafT (⟨false, Option.some.inj h, S.fix [] [] (by decide) rfl rfl rfl⟩)))
 refine sField (b := b2) (off := 0) 1 1 S (wG 3 true 70 rfl rfl rfl hc42) rfl rfl rfl rfl rfl (lb rfl) fun a S => ?_
 refine sLoad1 0 (.bool p0.Purl) S (wG 3 true 70 rfl rfl rfl hc42) rfl rfl rfl rfl rfl rfl (lb rfl) fun a S => ?_
 refine sNot (b := p0.Purl) S (wG 3 true 70 rfl rfl rfl hc42) rfl rfl rfl (lb rfl) fun a S => ?_
 refine sPickT (.bool (!p0.Purl)) S (wN rfl) rfl rfl hc42 rfl rfl (lb rfl) fun a S => ?_
 refine sMm S rfl rfl rfl rfl rfl fun a S => ?_
 rcases iteSome h with ⟨hc43, h⟩ | ⟨hc43, h⟩
 rotate_left
 ·refine sSkN 3 8 true 75 S rfl rfl hc43 rfl fun a S => ?_
  refine sPickF (.bool false) S (wN rfl) rfl rfl hc43 rfl rfl (lb rfl) fun a S => ?_
  refine sMm S rfl rfl rfl rfl rfl fun a S => ?_
  refine sSkN 3 13 true 80 S rfl rfl rfl rfl fun a S => ?_
  refine sPickF (.bool false) S (wN rfl) rfl rfl rfl rfl rfl (lb rfl) fun a S => ?_
  refine sMa S rfl rfl rfl rfl rfl fun a S => ?_
  exact leafL (leafB (leafT (⟨false, Option.some.inj h, S.fix [] [] (by decide) rfl rfl rfl⟩)))
 refine sField (b := b2) (off := 0) 2 2 S (wG 8 true 75 rfl rfl rfl hc43) rfl rfl rfl rfl rfl (lb rfl) fun a S => ?_
 refine sLoad1 0 (iv p0.A) S (wG 8 true 75 rfl rfl rfl hc43) rfl rfl rfl rfl rfl rfl (lb rfl) fun a S => ?_
 refine sBin _ S (wG 8 true 75 rfl rfl rfl hc43) rfl rfl rfl (bGe _ _ _ _ .i64 p0.A 1) rfl (lb rfl) fun a S => ?_
 refine sPickT (.bool (decide (1 ≤ p0.A))) S (wN rfl) rfl rfl hc43 rfl rfl (lb rfl) fun a S => ?_
 refine sMm S rfl rfl rfl rfl rfl fun a S => ?_
 rcases iteSome h with ⟨hc44, h⟩ | ⟨hc44, h⟩
 rotate_left
 ·refine sSkN 3 13 true 80 S rfl rfl hc44 rfl fun a S => ?_
  refine sPickF (.bool false) S (wN rfl) rfl rfl hc44 rfl rfl (lb rfl) fun a S => ?_
  refine sMa S rfl rfl rfl rfl rfl fun a S => ?_
  exact leafL (leafB (leafT (⟨false, Option.some.inj h, S.fix [] [] (by decide) rfl rfl rfl⟩)))
 refine sField (b := b2) (off := 0) 2 2 S (wG 13 true 80 rfl rfl rfl hc44) rfl rfl rfl rfl rfl (lb rfl) fun a S => ?_
 refine sLoad1 0 (iv p0.A) S (wG 13 true 80 rfl rfl rfl hc44) rfl rfl rfl rfl rfl rfl (lb rfl) fun a S => ?_
 refine sBin _ S (wG 13 true 80 rfl rfl rfl hc44) rfl rfl rfl (bLe _ _ _ _ .i64 p0.A 200) rfl (lb rfl) fun a S => ?_
 refine sPickT (.bool (decide (p0.A ≤ 200))) S (wN rfl) rfl rfl hc44 rfl rfl (lb rfl) fun a S => ?_
 refine sMa S rfl rfl rfl rfl rfl fun a S => ?_
 exact leafL (leafB (leafT (⟨decide (p0.A ≤ 200), Option.some.inj h, S.fix [] [] (by decide) rfl rfl rfl⟩)))
end Go.Proofs.Ytffikfajljbmnaa
namespace Go.Proofs.Ytffikfajljbmnaa
open Go.RowKit
noncomputable def F_raddleref25_Used (p0 : api_Stitch) : Option Int :=
 Option.bind (α := Bool) (
  if p0.Kind == 2 then
   some (p0.Kind == 2)
  else
   some (p0.Kind == 9)) fun o5 =>
 if o5 then
  some 0
 else
  Option.bind (α := Bool) (
   if p0.Kind == 3 then
    some (p0.Kind == 3)
   else
    if p0.Kind == 4 then
     some (p0.Kind == 4)
    else
     some (p0.Kind == 10)) fun o12 =>
  if o12 then
   some p0.A
  else
   Option.bind (α := Bool) (
    if p0.Kind == 6 then
     some (p0.Kind == 6)
    else
     some (p0.Kind == 7)) fun o21 =>
   if o21 then
    some (w64 (p0.A + p0.B))
   else
    some 1
set_option maxHeartbeats 4000000 in
set_option maxRecDepth 100000 in
theorem c_raddleref25_Used (E : Nat → Prop) (w0 : World) (p0 : api_Stitch) (v0 : Value) (r : Int) (h : F_raddleref25_Used p0 = some r) (S : St0 E [] w0 w0 [] [fRep r_api_Stitch (v0) p0]) :
 Calls Try.prog 92 #[v0] w0 (Ret (X := Unit) E [] w0 (fun _ => .int .i64 r) (fun _ => []) (fun _ => [])) := by
 unfold F_raddleref25_Used at h
 obtain rfl : v0 = .agg #[.int .u8 p0.Kind, .bool p0.Purl, iv p0.A, iv p0.B] := S.know (i := 0) (e := fRep r_api_Stitch (v0) p0) rfl
 refine sEnter (args := [.agg #[.int .u8 p0.Kind, .bool p0.Purl, iv p0.A, iv p0.B]]) 22 Try.func92 rfl rfl (by simp) S (fun a S => ?_)
 refine sSeq (fun K1 hK1 => ?_)
 refine sRegion ?_
 refine sBox (v := .agg #[.int .u8 p0.Kind, .bool p0.Purl, iv p0.A, iv p0.B]) S (wN rfl) rfl rfl [.int .u8 p0.Kind, .bool p0.Purl, iv p0.A, iv p0.B] rfl rfl (lb rfl) fun a b2 w S => ?_
 refine sMa S rfl rfl rfl rfl rfl fun a S => ?_
 refine lT (hK1 _ _ ?_)
 refine sSeq (fun K3 hK3 => ?_)
 refine sSeq (fun K4 hK4 => ?_)
 refine sRegion ?_
 refine sField (b := b2) (off := 0) 0 0 S (wN rfl) rfl rfl rfl rfl rfl (lb rfl) fun a S => ?_
 refine sLoad1 0 (.int .u8 p0.Kind) S (wN rfl) rfl rfl rfl rfl rfl rfl (lb rfl) fun a S => ?_
 refine lT (hK4 _ _ ?_)
 refine wp_block ?_
 obtain ⟨t6, h, g7⟩ := bindSome h
 refine sCut (fun a w => ∃ o5, o5 = t6 ∧ St [] E [] w0 22 a w [(1, .pointer (some ⟨b2, 0, none⟩)), (4, .int .u8 p0.Kind), (5, .bool o5)] [eBox b2 81 [.int .u8 p0.Kind, .bool p0.Purl, iv p0.A, iv p0.B]] []) ?_ (fun a w hI => ?_)
 ·refine sSeq (fun K8 hK8 => ?_)
  refine sRegion ?_
  refine sBin _ S (wN rfl) rfl rfl rfl (bEq _ _ _ _ .u8 p0.Kind 2) rfl (lb rfl) fun a S => ?_
  refine sMa S rfl rfl rfl rfl rfl fun a S => ?_
  refine lT (hK8 _ _ ?_)
  rcases iteSome h with ⟨hc9, h⟩ | ⟨hc9, h⟩
  ·refine sCondT S rfl hc9 ?_
   exact wp_skip (leafT (⟨p0.Kind == 2, Option.some.inj h, S.fix [0] [] (by decide) rfl rfl rfl⟩))
  refine sCondF S rfl hc9 ?_
  refine sRegion ?_
  refine sBin _ S (wN rfl) rfl rfl rfl (bEq _ _ _ _ .u8 p0.Kind 9) rfl (lb rfl) fun a S => ?_
  refine sMa S rfl rfl rfl rfl rfl fun a S => ?_
  exact lT (⟨p0.Kind == 9, Option.some.inj h, S.fix [0] [] (by decide) rfl rfl rfl⟩)
 obtain ⟨o5, rfl, S⟩ := hI
 have h := g7
 clear g7
 try dsimp only at h
 rcases iteSome h with ⟨hc10, h⟩ | ⟨hc10, h⟩
 ·refine sCondT S rfl hc10 ?_
  refine sSeq (fun K11 hK11 => ?_)
  refine sRegion ?_
  refine sMa S rfl rfl rfl rfl rfl fun a S => ?_
  refine lT (hK11 _ _ ?_)
  obtain rfl := Option.some.inj h
  exact wp_ret (rBlock (rThen (sRet (iv 0) S (rsl1 rfl (rvT (t := 2) (v := iv 0) S rfl)) ⟨(), rfl, S.mem.sel [] [] (by decide) rfl rfl⟩)))
 refine sCondF S rfl hc10 ?_
 obtain ⟨t13, h, g14⟩ := bindSome h
 refine sCut (fun a w => ∃ o12, o12 = t13 ∧ St [] E [] w0 22 a w [(1, .pointer (some ⟨b2, 0, none⟩)), (4, .int .u8 p0.Kind), (8, .bool o12)] [eBox b2 81 [.int .u8 p0.Kind, .bool p0.Purl, iv p0.A, iv p0.B]] []) ?_ (fun a w hI => ?_)
 ·refine sSeq (fun K15 hK15 => ?_)
  refine sRegion ?_
  refine sBin _ S (wN rfl) rfl rfl rfl (bEq _ _ _ _ .u8 p0.Kind 3) rfl (lb rfl) fun a S => ?_
  refine sMa S rfl rfl rfl rfl rfl fun a S => ?_
  refine lT (hK15 _ _ ?_)
  rcases iteSome h with ⟨hc16, h⟩ | ⟨hc16, h⟩
  ·refine sCondT S rfl hc16 ?_
   exact wp_skip (leafT (⟨p0.Kind == 3, Option.some.inj h, S.fix [0] [] (by decide) rfl rfl rfl⟩))
  refine sCondF S rfl hc16 ?_
  refine sSeq (fun K17 hK17 => ?_)
  refine sRegion ?_
  refine sBin _ S (wN rfl) rfl rfl rfl (bEq _ _ _ _ .u8 p0.Kind 4) rfl (lb rfl) fun a S => ?_
  refine sMa S rfl rfl rfl rfl rfl fun a S => ?_
  refine lT (hK17 _ _ ?_)
  rcases iteSome h with ⟨hc18, h⟩ | ⟨hc18, h⟩
  ·refine sCondT S rfl hc18 ?_
   exact wp_skip (leafT (⟨p0.Kind == 4, Option.some.inj h, S.fix [0] [] (by decide) rfl rfl rfl⟩))
  refine sCondF S rfl hc18 ?_
  refine sRegion ?_
  refine sBin _ S (wN rfl) rfl rfl rfl (bEq _ _ _ _ .u8 p0.Kind 10) rfl (lb rfl) fun a S => ?_
  refine sMa S rfl rfl rfl rfl rfl fun a S => ?_
  exact lT (⟨p0.Kind == 10, Option.some.inj h, S.fix [0] [] (by decide) rfl rfl rfl⟩)
 obtain ⟨o12, rfl, S⟩ := hI
 have h := g14
 clear g14
 try dsimp only at h
 rcases iteSome h with ⟨hc19, h⟩ | ⟨hc19, h⟩
 ·refine sCondT S rfl hc19 ?_
  refine sSeq (fun K20 hK20 => ?_)
  refine sRegion ?_
  refine sField (b := b2) (off := 0) 2 2 S (wN rfl) rfl rfl rfl rfl rfl (lb rfl) fun a S => ?_
  refine sLoad1 0 (iv p0.A) S (wN rfl) rfl rfl rfl rfl rfl rfl (lb rfl) fun a S => ?_
  refine sMa S rfl rfl rfl rfl rfl fun a S => ?_
  refine lT (hK20 _ _ ?_)
  obtain rfl := Option.some.inj h
  exact wp_ret (rBlock (rThen (sRet (iv p0.A) S (rsl1 rfl (rvT (t := 2) (v := iv p0.A) S rfl)) ⟨(), rfl, S.mem.sel [] [] (by decide) rfl rfl⟩)))
 refine sCondF S rfl hc19 ?_
 obtain ⟨t22, h, g23⟩ := bindSome h
 refine sCut (fun a w => ∃ o21, o21 = t22 ∧ St [] E [] w0 22 a w [(1, .pointer (some ⟨b2, 0, none⟩)), (14, .bool o21)] [eBox b2 81 [.int .u8 p0.Kind, .bool p0.Purl, iv p0.A, iv p0.B]] []) ?_ (fun a w hI => ?_)
 ·refine sSeq (fun K24 hK24 => ?_)
  refine sRegion ?_
  refine sBin _ S (wN rfl) rfl rfl rfl (bEq _ _ _ _ .u8 p0.Kind 6) rfl (lb rfl) fun a S => ?_
  refine sMa S rfl rfl rfl rfl rfl fun a S => ?_
  refine lT (hK24 _ _ ?_)
  rcases iteSome h with ⟨hc25, h⟩ | ⟨hc25, h⟩
  ·refine sCondT S rfl hc25 ?_
   exact wp_skip (leafT (⟨p0.Kind == 6, Option.some.inj h, S.fix [0] [] (by decide) rfl rfl rfl⟩))
  refine sCondF S rfl hc25 ?_
  refine sRegion ?_
  refine sBin _ S (wN rfl) rfl rfl rfl (bEq _ _ _ _ .u8 p0.Kind 7) rfl (lb rfl) fun a S => ?_
  refine sMa S rfl rfl rfl rfl rfl fun a S => ?_
  exact lT (⟨p0.Kind == 7, Option.some.inj h, S.fix [0] [] (by decide) rfl rfl rfl⟩)
 obtain ⟨o21, rfl, S⟩ := hI
 have h := g23
 clear g23
 try dsimp only at h
 rcases iteSome h with ⟨hc26, h⟩ | ⟨hc26, h⟩
 rotate_left
 ·refine sCondF S rfl hc26 ?_
  refine wp_skip (leafB (leafT (hK3 _ _ ?_)))
  refine sSeq (fun K28 hK28 => ?_)
  refine sRegion ?_
  refine sMa S rfl rfl rfl rfl rfl fun a S => ?_
  refine lT (hK28 _ _ ?_)
  obtain rfl := Option.some.inj h
  exact wp_ret (sRet (iv 1) S (rsl1 rfl (rvT (t := 2) (v := iv 1) S rfl)) ⟨(), rfl, S.mem.sel [] [] (by decide) rfl rfl⟩)
 refine sCondT S rfl hc26 ?_
 refine sSeq (fun K27 hK27 => ?_)
 refine sRegion ?_
 refine sField (b := b2) (off := 0) 2 2 S (wN rfl) rfl rfl rfl rfl rfl (lb rfl) fun a S => ?_
 refine sLoad1 0 (iv p0.A) S (wN rfl) rfl rfl rfl rfl rfl rfl (lb rfl) fun a S => ?_
 refine sField (b := b2) (off := 0) 3 3 S (wN rfl) rfl rfl rfl rfl rfl (lb rfl) fun a S => ?_
 refine sLoad1 0 (iv p0.B) S (wN rfl) rfl rfl rfl rfl rfl rfl (lb rfl) fun a S => ?_
 refine sBin _ S (wN rfl) rfl rfl rfl (bAdd _ _ _ _ p0.A p0.B) rfl (lb rfl) fun a S => ?_
 refine sMa S rfl rfl rfl rfl rfl fun a S => ?_
 refine lT (hK27 _ _ ?_)
 obtain rfl := Option.some.inj h
 exact wp_ret (rBlock (rThen (sRet (iv (w64 (p0.A + p0.B))) S (rsl1 rfl (rvT (t := 2) (v := iv (w64 (p0.A + p0.B))) S rfl)) ⟨(), rfl, S.mem.sel [] [] (by decide) rfl rfl⟩)))
end Go.Proofs.Ytffikfajljbmnaa
namespace Go.Proofs.Ytffikfajljbmnaa
open Go.RowKit
noncomputable def F_raddleref25_Gives (p0 : api_Stitch) : Option Int :=
 if p0.Kind == 10 then
  some 0
 else
  Option.bind (α := Bool) (
   if p0.Kind == 5 then
    some (p0.Kind == 5)
   else
    some (p0.Kind == 9)) fun o8 =>
  if o8 then
   some p0.A
  else
   Option.bind (α := Bool) (
    if p0.Kind == 6 then
     some (p0.Kind == 6)
    else
     some (p0.Kind == 7)) fun o15 =>
   if o15 then
    some (w64 (p0.A + p0.B))
   else
    some 1
set_option maxHeartbeats 4000000 in
set_option maxRecDepth 100000 in
theorem c_raddleref25_Gives (E : Nat → Prop) (w0 : World) (p0 : api_Stitch) (v0 : Value) (r : Int) (h : F_raddleref25_Gives p0 = some r) (S : St0 E [] w0 w0 [] [fRep r_api_Stitch (v0) p0]) :
 Calls Try.prog 93 #[v0] w0 (Ret (X := Unit) E [] w0 (fun _ => .int .i64 r) (fun _ => []) (fun _ => [])) := by
 unfold F_raddleref25_Gives at h
 obtain rfl : v0 = .agg #[.int .u8 p0.Kind, .bool p0.Purl, iv p0.A, iv p0.B] := S.know (i := 0) (e := fRep r_api_Stitch (v0) p0) rfl
 refine sEnter (args := [.agg #[.int .u8 p0.Kind, .bool p0.Purl, iv p0.A, iv p0.B]]) 20 Try.func93 rfl rfl (by simp) S (fun a S => ?_)
 refine sSeq (fun K1 hK1 => ?_)
 refine sRegion ?_
 refine sBox (v := .agg #[.int .u8 p0.Kind, .bool p0.Purl, iv p0.A, iv p0.B]) S (wN rfl) rfl rfl [.int .u8 p0.Kind, .bool p0.Purl, iv p0.A, iv p0.B] rfl rfl (lb rfl) fun a b2 w S => ?_
 refine sMa S rfl rfl rfl rfl rfl fun a S => ?_
 refine lT (hK1 _ _ ?_)
 refine sSeq (fun K3 hK3 => ?_)
 refine sSeq (fun K4 hK4 => ?_)
 refine sRegion ?_
 refine sField (b := b2) (off := 0) 0 0 S (wN rfl) rfl rfl rfl rfl rfl (lb rfl) fun a S => ?_
 refine sLoad1 0 (.int .u8 p0.Kind) S (wN rfl) rfl rfl rfl rfl rfl rfl (lb rfl) fun a S => ?_
 refine lT (hK4 _ _ ?_)
 refine wp_block ?_
 refine sSeq (fun K5 hK5 => ?_)
 refine sRegion ?_
 refine sBin _ S (wN rfl) rfl rfl rfl (bEq _ _ _ _ .u8 p0.Kind 10) rfl (lb rfl) fun a S => ?_
 refine sMa S rfl rfl rfl rfl rfl fun a S => ?_
 refine lT (hK5 _ _ ?_)
 rcases iteSome h with ⟨hc6, h⟩ | ⟨hc6, h⟩
 ·refine sCondT S rfl hc6 ?_
  refine sSeq (fun K7 hK7 => ?_)
  refine sRegion ?_
  refine sMa S rfl rfl rfl rfl rfl fun a S => ?_
  refine lT (hK7 _ _ ?_)
  obtain rfl := Option.some.inj h
  exact wp_ret (rBlock (rThen (sRet (iv 0) S (rsl1 rfl (rvT (t := 2) (v := iv 0) S rfl)) ⟨(), rfl, S.mem.sel [] [] (by decide) rfl rfl⟩)))
 refine sCondF S rfl hc6 ?_
 obtain ⟨t9, h, g10⟩ := bindSome h
 refine sCut (fun a w => ∃ o8, o8 = t9 ∧ St [] E [] w0 20 a w [(1, .pointer (some ⟨b2, 0, none⟩)), (4, .int .u8 p0.Kind), (7, .bool o8)] [eBox b2 81 [.int .u8 p0.Kind, .bool p0.Purl, iv p0.A, iv p0.B]] []) ?_ (fun a w hI => ?_)
 ·refine sSeq (fun K11 hK11 => ?_)
  refine sRegion ?_
  refine sBin _ S (wN rfl) rfl rfl rfl (bEq _ _ _ _ .u8 p0.Kind 5) rfl (lb rfl) fun a S => ?_
  refine sMa S rfl rfl rfl rfl rfl fun a S => ?_
  refine lT (hK11 _ _ ?_)
  rcases iteSome h with ⟨hc12, h⟩ | ⟨hc12, h⟩
  ·refine sCondT S rfl hc12 ?_
   exact wp_skip (leafT (⟨p0.Kind == 5, Option.some.inj h, S.fix [0] [] (by decide) rfl rfl rfl⟩))
  refine sCondF S rfl hc12 ?_
  refine sRegion ?_
  refine sBin _ S (wN rfl) rfl rfl rfl (bEq _ _ _ _ .u8 p0.Kind 9) rfl (lb rfl) fun a S => ?_
  refine sMa S rfl rfl rfl rfl rfl fun a S => ?_
  exact lT (⟨p0.Kind == 9, Option.some.inj h, S.fix [0] [] (by decide) rfl rfl rfl⟩)
 obtain ⟨o8, rfl, S⟩ := hI
 have h := g10
 clear g10
 try dsimp only at h
 rcases iteSome h with ⟨hc13, h⟩ | ⟨hc13, h⟩
 ·refine sCondT S rfl hc13 ?_
  refine sSeq (fun K14 hK14 => ?_)
  refine sRegion ?_
  refine sField (b := b2) (off := 0) 2 2 S (wN rfl) rfl rfl rfl rfl rfl (lb rfl) fun a S => ?_
  refine sLoad1 0 (iv p0.A) S (wN rfl) rfl rfl rfl rfl rfl rfl (lb rfl) fun a S => ?_
  refine sMa S rfl rfl rfl rfl rfl fun a S => ?_
  refine lT (hK14 _ _ ?_)
  obtain rfl := Option.some.inj h
  exact wp_ret (rBlock (rThen (sRet (iv p0.A) S (rsl1 rfl (rvT (t := 2) (v := iv p0.A) S rfl)) ⟨(), rfl, S.mem.sel [] [] (by decide) rfl rfl⟩)))
 refine sCondF S rfl hc13 ?_
 obtain ⟨t16, h, g17⟩ := bindSome h
 refine sCut (fun a w => ∃ o15, o15 = t16 ∧ St [] E [] w0 20 a w [(1, .pointer (some ⟨b2, 0, none⟩)), (12, .bool o15)] [eBox b2 81 [.int .u8 p0.Kind, .bool p0.Purl, iv p0.A, iv p0.B]] []) ?_ (fun a w hI => ?_)
 ·refine sSeq (fun K18 hK18 => ?_)
  refine sRegion ?_
  refine sBin _ S (wN rfl) rfl rfl rfl (bEq _ _ _ _ .u8 p0.Kind 6) rfl (lb rfl) fun a S => ?_
  refine sMa S rfl rfl rfl rfl rfl fun a S => ?_
  refine lT (hK18 _ _ ?_)
  rcases iteSome h with ⟨hc19, h⟩ | ⟨hc19, h⟩
  ·refine sCondT S rfl hc19 ?_
   exact wp_skip (leafT (⟨p0.Kind == 6, Option.some.inj h, S.fix [0] [] (by decide) rfl rfl rfl⟩))
  refine sCondF S rfl hc19 ?_
  refine sRegion ?_
  refine sBin _ S (wN rfl) rfl rfl rfl (bEq _ _ _ _ .u8 p0.Kind 7) rfl (lb rfl) fun a S => ?_
  refine sMa S rfl rfl rfl rfl rfl fun a S => ?_
  exact lT (⟨p0.Kind == 7, Option.some.inj h, S.fix [0] [] (by decide) rfl rfl rfl⟩)
 obtain ⟨o15, rfl, S⟩ := hI
 have h := g17
 clear g17
 try dsimp only at h
 rcases iteSome h with ⟨hc20, h⟩ | ⟨hc20, h⟩
 rotate_left
 ·refine sCondF S rfl hc20 ?_
  refine wp_skip (leafB (leafT (hK3 _ _ ?_)))
  refine sSeq (fun K22 hK22 => ?_)
  refine sRegion ?_
  refine sMa S rfl rfl rfl rfl rfl fun a S => ?_
  refine lT (hK22 _ _ ?_)
  obtain rfl := Option.some.inj h
  exact wp_ret (sRet (iv 1) S (rsl1 rfl (rvT (t := 2) (v := iv 1) S rfl)) ⟨(), rfl, S.mem.sel [] [] (by decide) rfl rfl⟩)
 refine sCondT S rfl hc20 ?_
 refine sSeq (fun K21 hK21 => ?_)
 refine sRegion ?_
 refine sField (b := b2) (off := 0) 2 2 S (wN rfl) rfl rfl rfl rfl rfl (lb rfl) fun a S => ?_
 refine sLoad1 0 (iv p0.A) S (wN rfl) rfl rfl rfl rfl rfl rfl (lb rfl) fun a S => ?_
 refine sField (b := b2) (off := 0) 3 3 S (wN rfl) rfl rfl rfl rfl rfl (lb rfl) fun a S => ?_
 refine sLoad1 0 (iv p0.B) S (wN rfl) rfl rfl rfl rfl rfl rfl (lb rfl) fun a S => ?_
 refine sBin _ S (wN rfl) rfl rfl rfl (bAdd _ _ _ _ p0.A p0.B) rfl (lb rfl) fun a S => ?_
 refine sMa S rfl rfl rfl rfl rfl fun a S => ?_
 refine lT (hK21 _ _ ?_)
 obtain rfl := Option.some.inj h
 exact wp_ret (rBlock (rThen (sRet (iv (w64 (p0.A + p0.B))) S (rsl1 rfl (rvT (t := 2) (v := iv (w64 (p0.A + p0.B))) S rfl)) ⟨(), rfl, S.mem.sel [] [] (by decide) rfl rfl⟩)))
end Go.Proofs.Ytffikfajljbmnaa
namespace Go.Proofs.Ytffikfajljbmnaa
open Go.RowKit
noncomputable def raddleref25_sums_l1 (p0 : (List api_Stitch)) : (Int × Int × Int) → Option ((Int × Int × Int) ⊕ (Int × Int)) := fun s0 => match s0 with
 | (s10, s11, s12) =>
  if decide (s12 < (p0.length : Int)) then
   Option.bind (idxO p0 s12) fun x23 =>
   Option.bind (F_raddleref25_Used x23) fun r28 =>
   Option.bind (F_raddleref25_Gives x23) fun r33 =>
   some (.inl (w64 (s10 + r28), w64 (s11 + r33), w64 (s12 + 1)))
  else
   some (.inr (s10, s11))
noncomputable def F_raddleref25_sums (p0 : (List api_Stitch)) : Option (Int × Int) :=
 Option.bind (α := (Int × Int)) (
  Option.bind (whileO (raddleref25_sums_l1 p0) (0, 0, 0)) fun (e16, e17) =>
   some (e16, e17)) fun (o5, o6) =>
 some (o5, o6)
set_option maxHeartbeats 4000000 in
set_option maxRecDepth 100000 in
theorem c_raddleref25_sums (E : Nat → Prop) (w0 : World) (p0 : (List api_Stitch)) (v0 : Value) (r : (Int × Int)) (h : F_raddleref25_sums p0 = some r) (S : St0 E [] w0 w0 [] [fRep (rL r_api_Stitch) (v0) p0]) :
 Calls Try.prog 74 #[v0] w0 (Ret (X := Unit) E [] w0 (fun _ => .tuple #[.int .i64 r.1, .int .i64 r.2]) (fun _ => []) (fun _ => [])) := by
 unfold F_raddleref25_sums at h
 obtain ⟨ad1, cp2, _, rfl, _⟩ := S.know (i := 0) (e := fRep (rL r_api_Stitch) (v0) p0) rfl
 refine sEnter (args := [.slice ad1 p0.length cp2]) 29 Try.func74 rfl rfl (by simp) S (fun a S => ?_)
 refine sSeq (fun K3 hK3 => ?_)
 refine sRegion ?_
 refine sMa S rfl rfl rfl rfl rfl fun a S => ?_
 refine sMa S rfl rfl rfl rfl rfl fun a S => ?_
 refine lT (hK3 _ _ ?_)
 refine sSeq (fun K4 hK4 => ?_)
 refine sRegion ?_
 refine sMa S rfl rfl rfl rfl rfl fun a S => ?_
 refine sMa S rfl rfl rfl rfl rfl fun a S => ?_
 refine lT (hK4 _ _ ?_)
 obtain ⟨t7, h, g8⟩ := bindSome h
 refine sCut (fun a w => ∃ o5, ∃ o6, (o5, o6) = t7 ∧ St [] E [] w0 29 a w [(4, iv o5), (5, iv o6)] [] []) ?_ (fun a w hI => ?_)
 rotate_left
 ·obtain ⟨o5, o6, rfl, S⟩ := hI
  have h := g8
  clear g8
  try dsimp only at h
  refine sSeq (fun K35 hK35 => ?_)
  refine sRegion ?_
  refine sMm S rfl rfl rfl rfl rfl fun a S => ?_
  refine sMm S rfl rfl rfl rfl rfl fun a S => ?_
  refine sMa S rfl rfl rfl rfl rfl fun a S => ?_
  refine sMa S rfl rfl rfl rfl rfl fun a S => ?_
  refine lT (hK35 _ _ ?_)
  obtain rfl := Option.some.inj h
  exact wp_ret (sRet (.tuple #[iv o5, iv o6]) S (rsl2 rfl (rvT (t := 2) (v := iv o5) S rfl) (rvT (t := 3) (v := iv o6) S rfl)) ⟨(), rfl, S.mem.sel [] [] (by decide) rfl rfl⟩)
 refine sSeq (fun K9 hK9 => ?_)
 refine sRegion ?_
 refine sMa S rfl rfl rfl rfl rfl fun a S => ?_
 refine lT (hK9 _ _ ?_)
 refine wp_block ?_
 obtain ⟨t15, hl, g14⟩ := bindSome h
 refine sLoop hl (fun s0 a w => match s0 with | (s10, s11, s12) => St [] E [] w0 29 a w [(0, .slice ad1 p0.length cp2), (4, iv s10), (5, iv s11), (6, iv s12)] [] [fRep (rL r_api_Stitch) (.slice ad1 p0.length cp2) p0]) (S.fix [] [0] (by decide) rfl rfl rfl) ?_
 clear hl h
 intro s0 a w c0 hI h hu13
 obtain ⟨s10, s11, s12⟩ := s0
 unfold raddleref25_sums_l1 at h
 dsimp only at h hI
 have S := hI
 refine sSeq (fun K18 hK18 => ?_)
 refine sSeq (fun K19 hK19 => ?_)
 refine sRegion ?_
 refine sMm S rfl rfl rfl rfl rfl fun a S => ?_
 refine sMm S rfl rfl rfl rfl rfl fun a S => ?_
 refine sLen S (wN rfl) rfl Try.underlying47 rfl rfl (lb rfl) fun a S => ?_
 refine sBin _ S (wN rfl) rfl rfl rfl (bLt _ _ _ _ .i64 s12 (p0.length : Int)) rfl (lb rfl) fun a S => ?_
 refine lT (hK19 _ _ ?_)
 rcases iteSome h with ⟨hc20, h⟩ | ⟨hc20, h⟩
 rotate_left
 ·refine sCondF S rfl hc20 ?_
  obtain rfl := Option.some.inj h
  obtain rfl := hu13 _ rfl
  have h := g14
  clear g14
  try dsimp only at h
  exact wp_exit (xThen (xThen (xHit (leafT (⟨s10, s11, Option.some.inj h, S.fix [] [] (by decide) rfl rfl rfl⟩)))))
 refine sCondT S rfl hc20 ?_
 refine wp_skip (leafT (hK18 _ _ ?_))
 refine sSeq (fun K21 hK21 => ?_)
 refine wp_block ?_
 refine sSeq (fun K22 hK22 => ?_)
 refine sRegion ?_
 refine sMm S rfl rfl rfl rfl rfl fun a S => ?_
 refine sMm S rfl rfl rfl rfl rfl fun a S => ?_
 refine sMm S rfl rfl rfl rfl rfl fun a S => ?_
 obtain ⟨x23, hx24, h⟩ := bindSome h
 obtain ⟨q25, hq26, S⟩ := pIdx (P := Try.prog) (r := r_api_Stitch) (v := .slice ad1 p0.length cp2) (xs := p0) (j := s12) 47 81 0 S Try.underlying47 rfl rfl hx24
 refine sIdxV S (wN rfl) rfl rfl rfl hq26 rfl (lb rfl) fun a S => ?_
 obtain ⟨u27, S⟩ := pLoad (r := r_api_Stitch) (q := q25) (x := x23) 0 S rfl
 obtain rfl : u27 = .agg #[.int .u8 x23.Kind, .bool x23.Purl, iv x23.A, iv x23.B] := S.mem.know (i := 1) (e := fRep r_api_Stitch (u27) x23) rfl
 refine sLoadVN (vq := q25) 0 [.int .u8 x23.Kind, .bool x23.Purl, iv x23.A, iv x23.B] S (wN rfl) rfl rfl rfl rfl rfl rfl (lb rfl) fun a S => ?_
 obtain ⟨r28, hx29, h⟩ := bindSome h
 have S1 := S.mem
 refine sCallQ (X := Unit) (f := 92) (vs := [.agg #[.int .u8 x23.Kind, .bool x23.Purl, iv x23.A, iv x23.B]]) (val := fun _ => iv r28) S (wN rfl) rfl callee92 rfl (S1.quiet [1] rfl) (fun E1 w1 S1 => c_raddleref25_Used E1 w1 x23 (.agg #[.int .u8 x23.Kind, .bool x23.Purl, iv x23.A, iv x23.B]) r28 hx29 S1) rfl (lb rfl) fun _ a w S => ?_
 refine sBin _ S (wN rfl) rfl rfl rfl (bAdd _ _ _ _ s10 r28) rfl (lb rfl) fun a S => ?_
 refine sMa S rfl rfl rfl rfl rfl fun a S => ?_
 refine lT (hK22 _ _ ?_)
 refine sRegion ?_
 refine sMm S rfl rfl rfl rfl rfl fun a S => ?_
 refine sMm S rfl rfl rfl rfl rfl fun a S => ?_
 refine sMm S rfl rfl rfl rfl rfl fun a S => ?_
 obtain ⟨q30, hq31, S⟩ := pIdx (P := Try.prog) (r := r_api_Stitch) (v := .slice ad1 p0.length cp2) (xs := p0) (j := s12) 47 81 3 S Try.underlying47 rfl rfl hx24
 refine sIdxV S (wN rfl) rfl rfl rfl hq31 rfl (lb rfl) fun a S => ?_
 obtain ⟨u32, S⟩ := pLoad (r := r_api_Stitch) (q := q30) (x := x23) 0 S rfl
 obtain rfl : u32 = .agg #[.int .u8 x23.Kind, .bool x23.Purl, iv x23.A, iv x23.B] := S.mem.know (i := 1) (e := fRep r_api_Stitch (u32) x23) rfl
 refine sLoadVN (vq := q30) 0 [.int .u8 x23.Kind, .bool x23.Purl, iv x23.A, iv x23.B] S (wN rfl) rfl rfl rfl rfl rfl rfl (lb rfl) fun a S => ?_
 obtain ⟨r33, hx34, h⟩ := bindSome h
 have S1 := S.mem
 refine sCallQ (X := Unit) (f := 93) (vs := [.agg #[.int .u8 x23.Kind, .bool x23.Purl, iv x23.A, iv x23.B]]) (val := fun _ => iv r33) S (wN rfl) rfl callee93 rfl (S1.quiet [1] rfl) (fun E1 w1 S1 => c_raddleref25_Gives E1 w1 x23 (.agg #[.int .u8 x23.Kind, .bool x23.Purl, iv x23.A, iv x23.B]) r33 hx34 S1) rfl (lb rfl) fun _ a w S => ?_
 refine sBin _ S (wN rfl) rfl rfl rfl (bAdd _ _ _ _ s11 r33) rfl (lb rfl) fun a S => ?_
 refine sMa S rfl rfl rfl rfl rfl fun a S => ?_
 refine leafL (leafB (leafT (hK21 _ _ ?_)))
 refine sRegion ?_
 refine sMm S rfl rfl rfl rfl rfl fun a S => ?_
 refine sBin _ S (wN rfl) rfl rfl rfl (bAdd _ _ _ _ s12 1) rfl (lb rfl) fun a S => ?_
 refine sMa S rfl rfl rfl rfl rfl fun a S => ?_
 exact lT (⟨(w64 (s10 + r28), w64 (s11 + r33), w64 (s12 + 1)), (Option.some.inj h).symm, (S.fix [] [6] (by decide) rfl rfl rfl)⟩)
end Go.Proofs.Ytffikfajljbmnaa
namespace Go.Proofs.Ytffikfajljbmnaa
open Go.RowKit
noncomputable def raddleref25_All_l1 (p0 : (List api_Stitch)) : Int → Option (Int ⊕ (Int ⊕ Unit)) := fun s0 => match s0 with
 | s11 =>
  if decide (s11 < (p0.length : Int)) then
   Option.bind (idxO p0 s11) fun x20 =>
   Option.bind (F_raddleref25_Check x20) fun r25 =>
   if r25 != 0 then
    some (.inr (.inl 8))
   else
    some (.inl (w64 (s11 + 1)))
  else
   some (.inr (.inr ()))
noncomputable def F_raddleref25_All (p0 : (List api_Stitch)) : Option Int :=
 if decide (200 < (p0.length : Int)) then
  some 4
 else
  Option.bind (α := Unit ⊕ Int) (
   Option.bind (whileO (raddleref25_All_l1 p0) 0) fun z0 => match z0 with
    | .inl z =>
     some (.inr z)
    | .inr _ =>
     some (.inl ())) fun z0 => match z0 with
   | .inl _ =>
    Option.bind (F_raddleref25_sums p0) fun r30 =>
    Option.bind (α := Bool) (
     if decide (200 < r30.1) then
      some true
     else
      some (decide (200 < r30.2))) fun o33 =>
    if o33 then
     some 4
    else
     some 0
   | .inr z =>
    some z
set_option maxHeartbeats 4000000 in
set_option maxRecDepth 100000 in
theorem c_raddleref25_All (E : Nat → Prop) (w0 : World) (p0 : (List api_Stitch)) (v0 : Value) (r : Int) (h : F_raddleref25_All p0 = some r) (S : St0 E [] w0 w0 [] [fRep (rL r_api_Stitch) (v0) p0]) :
 Calls Try.prog 38 #[v0] w0 (Ret (X := Unit) E [] w0 (fun _ => .int .i64 r) (fun _ => []) (fun _ => [])) := by
 unfold F_raddleref25_All at h
 obtain ⟨ad1, cp2, _, rfl, _⟩ := S.know (i := 0) (e := fRep (rL r_api_Stitch) (v0) p0) rfl
 refine sEnter (args := [.slice ad1 p0.length cp2]) 32 Try.func38 rfl rfl (by simp) S (fun a S => ?_)
 refine sSeq (fun K3 hK3 => ?_)
 refine sRegion ?_
 refine sMa S rfl rfl rfl rfl rfl fun a S => ?_
 refine lT (hK3 _ _ ?_)
 refine sSeq (fun K4 hK4 => ?_)
 refine sSeq (fun K5 hK5 => ?_)
 refine sRegion ?_
 refine sMm S rfl rfl rfl rfl rfl fun a S => ?_
 refine sLen S (wN rfl) rfl Try.underlying47 rfl rfl (lb rfl) fun a S => ?_
 refine sBin _ S (wN rfl) rfl rfl rfl (bGt _ _ _ _ .i64 (p0.length : Int) 200) rfl (lb rfl) fun a S => ?_
 refine lT (hK5 _ _ ?_)
 rcases iteSome h with ⟨hc6, h⟩ | ⟨hc6, h⟩
 ·refine sCondT S rfl hc6 ?_
  refine sSeq (fun K7 hK7 => ?_)
  refine sRegion ?_
  refine sMa S rfl rfl rfl rfl rfl fun a S => ?_
  refine lT (hK7 _ _ ?_)
  obtain rfl := Option.some.inj h
  exact wp_ret (rThen (sRet (iv 4) S (rsl1 rfl (rvT (t := 2) (v := iv 4) S rfl)) ⟨(), rfl, S.mem.sel [] [] (by decide) rfl rfl⟩))
 refine sCondF S rfl hc6 ?_
 refine wp_skip (leafT (hK4 _ _ ?_))
 obtain ⟨t8, h, g9⟩ := bindSome h
 refine sCut (fun a w => .inl () = t8 ∧ St [] E [] w0 32 a w [(0, .slice ad1 p0.length cp2)] [] [fRep (rL r_api_Stitch) (.slice ad1 p0.length cp2) p0]) ?_ (fun a w hI => ?_)
 rotate_left
 ·obtain ⟨rfl, S⟩ := hI
  have h := g9
  clear g9
  try dsimp only at h
  refine sSeq (fun K29 hK29 => ?_)
  refine sRegion ?_
  refine sMm S rfl rfl rfl rfl rfl fun a S => ?_
  obtain ⟨r30, hx31, h⟩ := bindSome h
  have S1 := S.mem
  refine sCallQ (X := Unit) (f := 74) (vs := [.slice ad1 p0.length cp2]) (val := fun _ => .tuple #[iv r30.1, iv r30.2]) S (wN rfl) rfl callee74 rfl (S1.quiet [0] rfl) (fun E1 w1 S1 => c_raddleref25_sums E1 w1 p0 (.slice ad1 p0.length cp2) r30 hx31 S1) rfl (lb rfl) fun _ a w S => ?_
  refine sMm S rfl rfl rfl rfl rfl fun a S => ?_
  refine sExtract (vs := [iv r30.1, iv r30.2]) (iv r30.1) S (wN rfl) rfl rfl rfl rfl (lb rfl) fun a S => ?_
  refine sExtract (vs := [iv r30.1, iv r30.2]) (iv r30.2) S (wN rfl) rfl rfl rfl rfl (lb rfl) fun a S => ?_
  refine sMa S rfl rfl rfl rfl rfl fun a S => ?_
  refine sMa S rfl rfl rfl rfl rfl fun a S => ?_
  refine lT (hK29 _ _ ?_)
  refine sSeq (fun K32 hK32 => ?_)
  obtain ⟨t34, h, g35⟩ := bindSome h
  refine sCut (fun a w => ∃ o33, o33 = t34 ∧ St [] E [] w0 32 a w [(31, .bool o33)] [] []) ?_ (fun a w hI => ?_)
  rotate_left
  ·obtain ⟨o33, rfl, S⟩ := hI
   have h := g35
   clear g35
   try dsimp only at h
   rcases iteSome h with ⟨hc37, h⟩ | ⟨hc37, h⟩
   ·refine sCondT S rfl hc37 ?_
    refine sSeq (fun K38 hK38 => ?_)
    refine sRegion ?_
    refine sMa S rfl rfl rfl rfl rfl fun a S => ?_
    refine lT (hK38 _ _ ?_)
    obtain rfl := Option.some.inj h
    exact wp_ret (rThen (sRet (iv 4) S (rsl1 rfl (rvT (t := 2) (v := iv 4) S rfl)) ⟨(), rfl, S.mem.sel [] [] (by decide) rfl rfl⟩))
   refine sCondF S rfl hc37 ?_
   refine wp_skip (leafT (hK32 _ _ ?_))
   refine sSeq (fun K39 hK39 => ?_)
   refine sRegion ?_
   refine sMa S rfl rfl rfl rfl rfl fun a S => ?_
   refine lT (hK39 _ _ ?_)
   obtain rfl := Option.some.inj h
   exact wp_ret (sRet (iv 0) S (rsl1 rfl (rvT (t := 2) (v := iv 0) S rfl)) ⟨(), rfl, S.mem.sel [] [] (by decide) rfl rfl⟩)
  refine sRegion ?_
  refine sMm S rfl rfl rfl rfl rfl fun a S => ?_
  refine sBin _ S (wN rfl) rfl rfl rfl (bGt _ _ _ _ .i64 r30.1 200) rfl (lb rfl) fun a S => ?_
  refine sMm S rfl rfl rfl rfl rfl fun a S => ?_
  rcases iteSome h with ⟨hc36, h⟩ | ⟨hc36, h⟩
  ·refine sSkN 2 2 false 28 S rfl rfl hc36 rfl fun a S => ?_
   refine sPickT (.bool true) S (wN rfl) rfl rfl hc36 rfl rfl (lb rfl) fun a S => ?_
   exact lT (⟨true, Option.some.inj h, S.fix [] [] (by decide) rfl rfl rfl⟩)
  refine sMove (iv r30.2) S (wG 2 false 28 rfl rfl rfl hc36) (.inl rfl) rfl rfl (lb rfl) fun a S => ?_
  refine sBin _ S (wG 2 false 28 rfl rfl rfl hc36) rfl rfl rfl (bGt _ _ _ _ .i64 r30.2 200) rfl (lb rfl) fun a S => ?_
  refine sPickF (.bool (decide (200 < r30.2))) S (wN rfl) rfl rfl hc36 rfl rfl (lb rfl) fun a S => ?_
  exact lT (⟨decide (200 < r30.2), Option.some.inj h, S.fix [] [] (by decide) rfl rfl rfl⟩)
 refine sSeq (fun K10 hK10 => ?_)
 refine sRegion ?_
 refine sMa S rfl rfl rfl rfl rfl fun a S => ?_
 refine lT (hK10 _ _ ?_)
 refine wp_block ?_
 obtain ⟨t14, hl, g13⟩ := bindSome h
 refine sLoop hl (fun s0 a w => match s0 with | s11 => St [] E [] w0 32 a w [(0, .slice ad1 p0.length cp2), (3, iv s11)] [] [fRep (rL r_api_Stitch) (.slice ad1 p0.length cp2) p0]) (S.fix [] [0] (by decide) rfl rfl rfl) ?_
 clear hl h
 intro s11 a w c0 hI h hu12
 unfold raddleref25_All_l1 at h
 dsimp only at h hI
 have S := hI
 refine sSeq (fun K15 hK15 => ?_)
 refine sSeq (fun K16 hK16 => ?_)
 refine sRegion ?_
 refine sMm S rfl rfl rfl rfl rfl fun a S => ?_
 refine sMm S rfl rfl rfl rfl rfl fun a S => ?_
 refine sLen S (wN rfl) rfl Try.underlying47 rfl rfl (lb rfl) fun a S => ?_
 refine sBin _ S (wN rfl) rfl rfl rfl (bLt _ _ _ _ .i64 s11 (p0.length : Int)) rfl (lb rfl) fun a S => ?_
 refine lT (hK16 _ _ ?_)
 rcases iteSome h with ⟨hc17, h⟩ | ⟨hc17, h⟩
 rotate_left
 ·refine sCondF S rfl hc17 ?_
  obtain rfl := Option.some.inj h
  obtain rfl := hu12 _ rfl
  have h := g13
  clear g13
  try dsimp only at h
  exact wp_exit (xThen (xThen (xHit (leafT (⟨Option.some.inj h, S.fix [] [0] (by decide) rfl rfl rfl⟩)))))
 refine sCondT S rfl hc17 ?_
 refine wp_skip (leafT (hK15 _ _ ?_))
 refine sSeq (fun K18 hK18 => ?_)
 refine wp_block ?_
 refine sSeq (fun K19 hK19 => ?_)
 refine sRegion ?_
 refine sMm S rfl rfl rfl rfl rfl fun a S => ?_
 refine sMm S rfl rfl rfl rfl rfl fun a S => ?_
 obtain ⟨x20, hx21, h⟩ := bindSome h
 obtain ⟨q22, hq23, S⟩ := pIdx (P := Try.prog) (r := r_api_Stitch) (v := .slice ad1 p0.length cp2) (xs := p0) (j := s11) 47 81 0 S Try.underlying47 rfl rfl hx21
 refine sIdxV S (wN rfl) rfl rfl rfl hq23 rfl (lb rfl) fun a S => ?_
 obtain ⟨u24, S⟩ := pLoad (r := r_api_Stitch) (q := q22) (x := x20) 0 S rfl
 obtain rfl : u24 = .agg #[.int .u8 x20.Kind, .bool x20.Purl, iv x20.A, iv x20.B] := S.mem.know (i := 1) (e := fRep r_api_Stitch (u24) x20) rfl
 refine sLoadVN (vq := q22) 0 [.int .u8 x20.Kind, .bool x20.Purl, iv x20.A, iv x20.B] S (wN rfl) rfl rfl rfl rfl rfl rfl (lb rfl) fun a S => ?_
 obtain ⟨r25, hx26, h⟩ := bindSome h
 have S1 := S.mem
 refine sCallQ (X := Unit) (f := 73) (vs := [.agg #[.int .u8 x20.Kind, .bool x20.Purl, iv x20.A, iv x20.B]]) (val := fun _ => iv r25) S (wN rfl) rfl callee73 rfl (S1.quiet [1] rfl) (fun E1 w1 S1 => c_raddleref25_Check E1 w1 x20 (.agg #[.int .u8 x20.Kind, .bool x20.Purl, iv x20.A, iv x20.B]) r25 hx26 S1) rfl (lb rfl) fun _ a w S => ?_
 refine sBin _ S (wN rfl) rfl rfl rfl (bNe _ _ _ _ .i64 r25 0) rfl (lb rfl) fun a S => ?_
 refine lT (hK19 _ _ ?_)
 rcases iteSome h with ⟨hc27, h⟩ | ⟨hc27, h⟩
 rotate_left
 ·refine sCondF S rfl hc27 ?_
  refine wp_skip (leafB (leafT (hK18 _ _ ?_)))
  refine sRegion ?_
  refine sMm S rfl rfl rfl rfl rfl fun a S => ?_
  refine sBin _ S (wN rfl) rfl rfl rfl (bAdd _ _ _ _ s11 1) rfl (lb rfl) fun a S => ?_
  refine sMa S rfl rfl rfl rfl rfl fun a S => ?_
  exact lT (⟨w64 (s11 + 1), (Option.some.inj h).symm, (S.fix [] [3] (by decide) rfl rfl rfl)⟩)
 refine sCondT S rfl hc27 ?_
 refine sSeq (fun K28 hK28 => ?_)
 refine sRegion ?_
 refine sMa S rfl rfl rfl rfl rfl fun a S => ?_
 refine lT (hK28 _ _ ?_)
 obtain rfl := Option.some.inj h
 obtain rfl := hu12 _ rfl
 have h := g13
 clear g13
 try dsimp only at h
 obtain rfl := Option.some.inj h
 have h := g9
 clear g9
 try dsimp only at h
 obtain rfl := Option.some.inj h
 exact wp_ret (rBlock (rThen (rThen (rBlock (rThen (sRet (iv 8) S (rsl1 rfl (rvT (t := 2) (v := iv 8) S rfl)) ⟨(), rfl, S.mem.sel [] [] (by decide) rfl rfl⟩))))))
end Go.Proofs.Ytffikfajljbmnaa
namespace Go.Proofs.Ytffikfajljbmnaa
open Go.RowKit
noncomputable def F_raddleref25_Uses (p0 : (List api_Stitch)) : Option (Int × Int) :=
 Option.bind (F_raddleref25_All p0) fun r6 =>
 if r6 != 0 then
  some (0, r6)
 else
  Option.bind (F_raddleref25_sums p0) fun r11 =>
  some (r11.1, 0)
set_option maxHeartbeats 4000000 in
set_option maxRecDepth 100000 in
theorem c_raddleref25_Uses (E : Nat → Prop) (w0 : World) (p0 : (List api_Stitch)) (v0 : Value) (r : (Int × Int)) (h : F_raddleref25_Uses p0 = some r) (S : St0 E [] w0 w0 [] [fRep (rL r_api_Stitch) (v0) p0]) :
 Calls Try.prog 75 #[v0] w0 (Ret (X := Unit) E [] w0 (fun _ => .tuple #[.int .i64 r.1, .int .i64 r.2]) (fun _ => []) (fun _ => [])) := by
 unfold F_raddleref25_Uses at h
 obtain ⟨ad1, cp2, _, rfl, _⟩ := S.know (i := 0) (e := fRep (rL r_api_Stitch) (v0) p0) rfl
 refine sEnter (args := [.slice ad1 p0.length cp2]) 17 Try.func75 rfl rfl (by simp) S (fun a S => ?_)
 refine sSeq (fun K3 hK3 => ?_)
 refine sRegion ?_
 refine sMa S rfl rfl rfl rfl rfl fun a S => ?_
 refine sMa S rfl rfl rfl rfl rfl fun a S => ?_
 refine lT (hK3 _ _ ?_)
 refine sSeq (fun K4 hK4 => ?_)
 refine sSeq (fun K5 hK5 => ?_)
 refine sRegion ?_
 refine sMm S rfl rfl rfl rfl rfl fun a S => ?_
 obtain ⟨r6, hx7, h⟩ := bindSome h
 have S1 := S.mem
 refine sCallQ (X := Unit) (f := 38) (vs := [.slice ad1 p0.length cp2]) (val := fun _ => iv r6) S (wN rfl) rfl callee38 rfl (S1.quiet [0] rfl) (fun E1 w1 S1 => c_raddleref25_All E1 w1 p0 (.slice ad1 p0.length cp2) r6 hx7 S1) rfl (lb rfl) fun _ a w S => ?_
 refine sBin _ S (wN rfl) rfl rfl rfl (bNe _ _ _ _ .i64 r6 0) rfl (lb rfl) fun a S => ?_
 refine lT (hK5 _ _ ?_)
 rcases iteSome h with ⟨hc8, h⟩ | ⟨hc8, h⟩
 ·refine sCondT S rfl hc8 ?_
  refine sSeq (fun K9 hK9 => ?_)
  refine sRegion ?_
  refine sMm S rfl rfl rfl rfl rfl fun a S => ?_
  have S1 := S.mem
  refine sCallQ (X := Unit) (f := 38) (vs := [.slice ad1 p0.length cp2]) (val := fun _ => iv r6) S (wN rfl) rfl callee38 rfl (S1.quiet [0] rfl) (fun E1 w1 S1 => c_raddleref25_All E1 w1 p0 (.slice ad1 p0.length cp2) r6 hx7 S1) rfl (lb rfl) fun _ a w S => ?_
  refine sMa S rfl rfl rfl rfl rfl fun a S => ?_
  refine sMa S rfl rfl rfl rfl rfl fun a S => ?_
  refine lT (hK9 _ _ ?_)
  obtain rfl := Option.some.inj h
  exact wp_ret (rThen (sRet (.tuple #[iv 0, iv r6]) S (rsl2 rfl (rvT (t := 2) (v := iv 0) S rfl) (rvT (t := 3) (v := iv r6) S rfl)) ⟨(), rfl, S.mem.sel [] [] (by decide) rfl rfl⟩))
 refine sCondF S rfl hc8 ?_
 refine wp_skip (leafT (hK4 _ _ ?_))
 refine sSeq (fun K10 hK10 => ?_)
 refine sRegion ?_
 refine sMm S rfl rfl rfl rfl rfl fun a S => ?_
 obtain ⟨r11, hx12, h⟩ := bindSome h
 have S1 := S.mem
 refine sCallQ (X := Unit) (f := 74) (vs := [.slice ad1 p0.length cp2]) (val := fun _ => .tuple #[iv r11.1, iv r11.2]) S (wN rfl) rfl callee74 rfl (S1.quiet [0] rfl) (fun E1 w1 S1 => c_raddleref25_sums E1 w1 p0 (.slice ad1 p0.length cp2) r11 hx12 S1) rfl (lb rfl) fun _ a w S => ?_
 refine sMm S rfl rfl rfl rfl rfl fun a S => ?_
 refine sExtract (vs := [iv r11.1, iv r11.2]) (iv r11.1) S (wN rfl) rfl rfl rfl rfl (lb rfl) fun a S => ?_
 refine sExtract (vs := [iv r11.1, iv r11.2]) (iv r11.2) S (wN rfl) rfl rfl rfl rfl (lb rfl) fun a S => ?_
 refine sMa S rfl rfl rfl rfl rfl fun a S => ?_
 refine sMa S rfl rfl rfl rfl rfl fun a S => ?_
 refine lT (hK10 _ _ ?_)
 refine sSeq (fun K13 hK13 => ?_)
 refine sRegion ?_
 refine sMm S rfl rfl rfl rfl rfl fun a S => ?_
 refine sMa S rfl rfl rfl rfl rfl fun a S => ?_
 refine sMa S rfl rfl rfl rfl rfl fun a S => ?_
 refine lT (hK13 _ _ ?_)
 obtain rfl := Option.some.inj h
 exact wp_ret (sRet (.tuple #[iv r11.1, iv 0]) S (rsl2 rfl (rvT (t := 2) (v := iv r11.1) S rfl) (rvT (t := 3) (v := iv 0) S rfl)) ⟨(), rfl, S.mem.sel [] [] (by decide) rfl rfl⟩)
end Go.Proofs.Ytffikfajljbmnaa
namespace Go.Proofs.Ytffikfajljbmnaa
open Go.RowKit
noncomputable def F_raddleref25_Makes (p0 : (List api_Stitch)) : Option (Int × Int) :=
 Option.bind (F_raddleref25_All p0) fun r6 =>
 if r6 != 0 then
  some (0, r6)
 else
  Option.bind (F_raddleref25_sums p0) fun r11 =>
  some (r11.2, 0)
set_option maxHeartbeats 4000000 in
set_option maxRecDepth 100000 in
theorem c_raddleref25_Makes (E : Nat → Prop) (w0 : World) (p0 : (List api_Stitch)) (v0 : Value) (r : (Int × Int)) (h : F_raddleref25_Makes p0 = some r) (S : St0 E [] w0 w0 [] [fRep (rL r_api_Stitch) (v0) p0]) :
 Calls Try.prog 76 #[v0] w0 (Ret (X := Unit) E [] w0 (fun _ => .tuple #[.int .i64 r.1, .int .i64 r.2]) (fun _ => []) (fun _ => [])) := by
 unfold F_raddleref25_Makes at h
 obtain ⟨ad1, cp2, _, rfl, _⟩ := S.know (i := 0) (e := fRep (rL r_api_Stitch) (v0) p0) rfl
 refine sEnter (args := [.slice ad1 p0.length cp2]) 17 Try.func76 rfl rfl (by simp) S (fun a S => ?_)
 refine sSeq (fun K3 hK3 => ?_)
 refine sRegion ?_
 refine sMa S rfl rfl rfl rfl rfl fun a S => ?_
 refine sMa S rfl rfl rfl rfl rfl fun a S => ?_
 refine lT (hK3 _ _ ?_)
 refine sSeq (fun K4 hK4 => ?_)
 refine sSeq (fun K5 hK5 => ?_)
 refine sRegion ?_
 refine sMm S rfl rfl rfl rfl rfl fun a S => ?_
 obtain ⟨r6, hx7, h⟩ := bindSome h
 have S1 := S.mem
 refine sCallQ (X := Unit) (f := 38) (vs := [.slice ad1 p0.length cp2]) (val := fun _ => iv r6) S (wN rfl) rfl callee38 rfl (S1.quiet [0] rfl) (fun E1 w1 S1 => c_raddleref25_All E1 w1 p0 (.slice ad1 p0.length cp2) r6 hx7 S1) rfl (lb rfl) fun _ a w S => ?_
 refine sBin _ S (wN rfl) rfl rfl rfl (bNe _ _ _ _ .i64 r6 0) rfl (lb rfl) fun a S => ?_
 refine lT (hK5 _ _ ?_)
 rcases iteSome h with ⟨hc8, h⟩ | ⟨hc8, h⟩
 ·refine sCondT S rfl hc8 ?_
  refine sSeq (fun K9 hK9 => ?_)
  refine sRegion ?_
  refine sMm S rfl rfl rfl rfl rfl fun a S => ?_
  have S1 := S.mem
  refine sCallQ (X := Unit) (f := 38) (vs := [.slice ad1 p0.length cp2]) (val := fun _ => iv r6) S (wN rfl) rfl callee38 rfl (S1.quiet [0] rfl) (fun E1 w1 S1 => c_raddleref25_All E1 w1 p0 (.slice ad1 p0.length cp2) r6 hx7 S1) rfl (lb rfl) fun _ a w S => ?_
  refine sMa S rfl rfl rfl rfl rfl fun a S => ?_
  refine sMa S rfl rfl rfl rfl rfl fun a S => ?_
  refine lT (hK9 _ _ ?_)
  obtain rfl := Option.some.inj h
  exact wp_ret (rThen (sRet (.tuple #[iv 0, iv r6]) S (rsl2 rfl (rvT (t := 2) (v := iv 0) S rfl) (rvT (t := 3) (v := iv r6) S rfl)) ⟨(), rfl, S.mem.sel [] [] (by decide) rfl rfl⟩))
 refine sCondF S rfl hc8 ?_
 refine wp_skip (leafT (hK4 _ _ ?_))
 refine sSeq (fun K10 hK10 => ?_)
 refine sRegion ?_
 refine sMm S rfl rfl rfl rfl rfl fun a S => ?_
 obtain ⟨r11, hx12, h⟩ := bindSome h
 have S1 := S.mem
 refine sCallQ (X := Unit) (f := 74) (vs := [.slice ad1 p0.length cp2]) (val := fun _ => .tuple #[iv r11.1, iv r11.2]) S (wN rfl) rfl callee74 rfl (S1.quiet [0] rfl) (fun E1 w1 S1 => c_raddleref25_sums E1 w1 p0 (.slice ad1 p0.length cp2) r11 hx12 S1) rfl (lb rfl) fun _ a w S => ?_
 refine sMm S rfl rfl rfl rfl rfl fun a S => ?_
 refine sExtract (vs := [iv r11.1, iv r11.2]) (iv r11.1) S (wN rfl) rfl rfl rfl rfl (lb rfl) fun a S => ?_
 refine sExtract (vs := [iv r11.1, iv r11.2]) (iv r11.2) S (wN rfl) rfl rfl rfl rfl (lb rfl) fun a S => ?_
 refine sMa S rfl rfl rfl rfl rfl fun a S => ?_
 refine sMa S rfl rfl rfl rfl rfl fun a S => ?_
 refine lT (hK10 _ _ ?_)
 refine sSeq (fun K13 hK13 => ?_)
 refine sRegion ?_
 refine sMm S rfl rfl rfl rfl rfl fun a S => ?_
 refine sMa S rfl rfl rfl rfl rfl fun a S => ?_
 refine sMa S rfl rfl rfl rfl rfl fun a S => ?_
 refine lT (hK13 _ _ ?_)
 obtain rfl := Option.some.inj h
 exact wp_ret (sRet (.tuple #[iv r11.2, iv 0]) S (rsl2 rfl (rvT (t := 2) (v := iv r11.2) S rfl) (rvT (t := 3) (v := iv 0) S rfl)) ⟨(), rfl, S.mem.sel [] [] (by decide) rfl rfl⟩)
end Go.Proofs.Ytffikfajljbmnaa
namespace Go.Proofs.Ytffikfajljbmnaa
open Go.RowKit
noncomputable def raddleref26_Check_l1 (p0 : api_Chart) : (Int × Int) → Option ((Int × Int) ⊕ (Int ⊕ Unit)) := fun s0 => match s0 with
 | (s22, s23) =>
  if decide (s23 < (p0.Rows.length : Int)) then
   Option.bind (idxO p0.Rows s23) fun x32 =>
   Option.bind (F_raddleref25_Uses x32.Cells) fun r41 =>
   if r41.2 != 0 then
    some (.inr (.inl r41.2))
   else
    if r41.1 != s22 then
     some (.inr (.inl 26))
    else
     Option.bind (F_raddleref25_Makes x32.Cells) fun r58 =>
     some (.inl (r58.1, w64 (s23 + 1)))
  else
   some (.inr (.inr ()))
noncomputable def F_raddleref26_Check (p0 : api_Chart) : Option Int :=
 if decide (100 < (p0.Rows.length : Int)) then
  some 4
 else
  Option.bind (α := Bool) (
   if decide (p0.Start < 0) then
    some true
   else
    some (decide (200 < p0.Start))) fun o12 =>
  if o12 then
   some 8
  else
   Option.bind (α := Unit ⊕ Int) (
    Option.bind (whileO (raddleref26_Check_l1 p0) (p0.Start, 0)) fun z0 => match z0 with
     | .inl z =>
      some (.inr z)
     | .inr _ =>
      some (.inl ())) fun z0 => match z0 with
    | .inl _ =>
     some 0
    | .inr z =>
     some z
set_option maxHeartbeats 4000000 in
set_option maxRecDepth 100000 in
theorem c_raddleref26_Check (E : Nat → Prop) (w0 : World) (p0 : api_Chart) (v0 : Value) (r : Int) (h : F_raddleref26_Check p0 = some r) (S : St0 E [] w0 w0 [] [fRep r_api_Chart (v0) p0]) :
 Calls Try.prog 39 #[v0] w0 (Ret (X := Unit) E [] w0 (fun _ => .int .i64 r) (fun _ => []) (fun _ => [])) := by
 unfold F_raddleref26_Check at h
 obtain ⟨u1, rfl, hu2⟩ := S.know (i := 0) (e := fRep r_api_Chart (v0) p0) rfl
 have S := S.learn (fRep (rL r_api_Row) u1 p0.Rows) hu2
 obtain ⟨ad3, cp4, _, rfl, _⟩ := hu2
 refine sEnter (args := [.agg #[iv p0.Start, .slice ad3 p0.Rows.length cp4]]) 54 Try.func39 rfl rfl (by simp) S (fun a S => ?_)
 refine sSeq (fun K5 hK5 => ?_)
 refine sRegion ?_
 refine sBox (v := .agg #[iv p0.Start, .slice ad3 p0.Rows.length cp4]) S (wN rfl) rfl rfl [iv p0.Start, .slice ad3 p0.Rows.length cp4] rfl rfl (lb rfl) fun a b6 w S => ?_
 refine sMa S rfl rfl rfl rfl rfl fun a S => ?_
 refine lT (hK5 _ _ ?_)
 refine sSeq (fun K7 hK7 => ?_)
 refine sSeq (fun K8 hK8 => ?_)
 refine sRegion ?_
 refine sField (b := b6) (off := 0) 1 1 S (wN rfl) rfl rfl rfl rfl rfl (lb rfl) fun a S => ?_
 refine sLoad1 0 (.slice ad3 p0.Rows.length cp4) S (wN rfl) rfl rfl rfl rfl rfl rfl (lb rfl) fun a S => ?_
 refine sLen S (wN rfl) rfl Try.underlying40 rfl rfl (lb rfl) fun a S => ?_
 refine sBin _ S (wN rfl) rfl rfl rfl (bGt _ _ _ _ .i64 (p0.Rows.length : Int) 100) rfl (lb rfl) fun a S => ?_
 refine lT (hK8 _ _ ?_)
 rcases iteSome h with ⟨hc9, h⟩ | ⟨hc9, h⟩
 ·refine sCondT S rfl hc9 ?_
  refine sSeq (fun K10 hK10 => ?_)
  refine sRegion ?_
  refine sMa S rfl rfl rfl rfl rfl fun a S => ?_
  refine lT (hK10 _ _ ?_)
  obtain rfl := Option.some.inj h
  exact wp_ret (rThen (sRet (iv 4) S (rsl1 rfl (rvT (t := 2) (v := iv 4) S rfl)) ⟨(), rfl, S.mem.sel [] [] (by decide) rfl rfl⟩))
 refine sCondF S rfl hc9 ?_
 refine wp_skip (leafT (hK7 _ _ ?_))
 refine sSeq (fun K11 hK11 => ?_)
 obtain ⟨t13, h, g14⟩ := bindSome h
 refine sCut (fun a w => ∃ o12, o12 = t13 ∧ St [] E [] w0 54 a w [(1, .pointer (some ⟨b6, 0, none⟩)), (18, .bool o12)] [eBox b6 42 [iv p0.Start, .slice ad3 p0.Rows.length cp4]] [fRep (rL r_api_Row) (.slice ad3 p0.Rows.length cp4) p0.Rows]) ?_ (fun a w hI => ?_)
 ·refine sRegion ?_
  refine sField (b := b6) (off := 0) 0 0 S (wN rfl) rfl rfl rfl rfl rfl (lb rfl) fun a S => ?_
  refine sLoad1 0 (iv p0.Start) S (wN rfl) rfl rfl rfl rfl rfl rfl (lb rfl) fun a S => ?_
  refine sBin _ S (wN rfl) rfl rfl rfl (bLt _ _ _ _ .i64 p0.Start 0) rfl (lb rfl) fun a S => ?_
  refine sMm S rfl rfl rfl rfl rfl fun a S => ?_
  rcases iteSome h with ⟨hc15, h⟩ | ⟨hc15, h⟩
  ·refine sSkN 3 3 false 14 S rfl rfl hc15 rfl fun a S => ?_
   refine sPickT (.bool true) S (wN rfl) rfl rfl hc15 rfl rfl (lb rfl) fun a S => ?_
   exact lT (⟨true, Option.some.inj h, S.fix [0] [0] (by decide) rfl rfl rfl⟩)
  refine sField (b := b6) (off := 0) 0 0 S (wG 3 false 14 rfl rfl rfl hc15) rfl rfl rfl rfl rfl (lb rfl) fun a S => ?_
  refine sLoad1 0 (iv p0.Start) S (wG 3 false 14 rfl rfl rfl hc15) rfl rfl rfl rfl rfl rfl (lb rfl) fun a S => ?_
  refine sBin _ S (wG 3 false 14 rfl rfl rfl hc15) rfl rfl rfl (bGt _ _ _ _ .i64 p0.Start 200) rfl (lb rfl) fun a S => ?_
  refine sPickF (.bool (decide (200 < p0.Start))) S (wN rfl) rfl rfl hc15 rfl rfl (lb rfl) fun a S => ?_
  exact lT (⟨decide (200 < p0.Start), Option.some.inj h, S.fix [0] [0] (by decide) rfl rfl rfl⟩)
 obtain ⟨o12, rfl, S⟩ := hI
 have h := g14
 clear g14
 try dsimp only at h
 rcases iteSome h with ⟨hc16, h⟩ | ⟨hc16, h⟩
 ·refine sCondT S rfl hc16 ?_
  refine sSeq (fun K17 hK17 => ?_)
  refine sRegion ?_
  refine sMa S rfl rfl rfl rfl rfl fun a S => ?_
  refine lT (hK17 _ _ ?_)
  obtain rfl := Option.some.inj h
  exact wp_ret (rThen (sRet (iv 8) S (rsl1 rfl (rvT (t := 2) (v := iv 8) S rfl)) ⟨(), rfl, S.mem.sel [] [] (by decide) rfl rfl⟩))
 refine sCondF S rfl hc16 ?_
 refine wp_skip (leafT (hK11 _ _ ?_))
 refine sSeq (fun K18 hK18 => ?_)
 refine sRegion ?_
 refine sField (b := b6) (off := 0) 0 0 S (wN rfl) rfl rfl rfl rfl rfl (lb rfl) fun a S => ?_
 refine sLoad1 0 (iv p0.Start) S (wN rfl) rfl rfl rfl rfl rfl rfl (lb rfl) fun a S => ?_
 refine sMa S rfl rfl rfl rfl rfl fun a S => ?_
 refine lT (hK18 _ _ ?_)
 obtain ⟨t19, h, g20⟩ := bindSome h
 refine sCut (fun a w => .inl () = t19 ∧ St [] E [] w0 54 a w [] [] []) ?_ (fun a w hI => ?_)
 rotate_left
 ·obtain ⟨rfl, S⟩ := hI
  have h := g20
  clear g20
  try dsimp only at h
  refine sSeq (fun K60 hK60 => ?_)
  refine sRegion ?_
  refine sMa S rfl rfl rfl rfl rfl fun a S => ?_
  refine lT (hK60 _ _ ?_)
  obtain rfl := Option.some.inj h
  exact wp_ret (sRet (iv 0) S (rsl1 rfl (rvT (t := 2) (v := iv 0) S rfl)) ⟨(), rfl, S.mem.sel [] [] (by decide) rfl rfl⟩)
 refine sSeq (fun K21 hK21 => ?_)
 refine sRegion ?_
 refine sMa S rfl rfl rfl rfl rfl fun a S => ?_
 refine lT (hK21 _ _ ?_)
 refine wp_block ?_
 obtain ⟨t26, hl, g25⟩ := bindSome h
 refine sLoop hl (fun s0 a w => match s0 with | (s22, s23) => St [] E [] w0 54 a w [(1, .pointer (some ⟨b6, 0, none⟩)), (3, iv s22), (4, iv s23)] [eBox b6 42 [iv p0.Start, .slice ad3 p0.Rows.length cp4]] [fRep (rL r_api_Row) (.slice ad3 p0.Rows.length cp4) p0.Rows]) (S.fix [0] [0] (by decide) rfl rfl rfl) ?_
 clear hl h
 intro s0 a w c0 hI h hu24
 obtain ⟨s22, s23⟩ := s0
 unfold raddleref26_Check_l1 at h
 dsimp only at h hI
 have S := hI
 refine sSeq (fun K27 hK27 => ?_)
 refine sSeq (fun K28 hK28 => ?_)
 refine sRegion ?_
 refine sMm S rfl rfl rfl rfl rfl fun a S => ?_
 refine sField (b := b6) (off := 0) 1 1 S (wN rfl) rfl rfl rfl rfl rfl (lb rfl) fun a S => ?_
 refine sLoad1 0 (.slice ad3 p0.Rows.length cp4) S (wN rfl) rfl rfl rfl rfl rfl rfl (lb rfl) fun a S => ?_
 refine sLen S (wN rfl) rfl Try.underlying40 rfl rfl (lb rfl) fun a S => ?_
 refine sBin _ S (wN rfl) rfl rfl rfl (bLt _ _ _ _ .i64 s23 (p0.Rows.length : Int)) rfl (lb rfl) fun a S => ?_
 refine lT (hK28 _ _ ?_)
 rcases iteSome h with ⟨hc29, h⟩ | ⟨hc29, h⟩
 rotate_left
 ·refine sCondF S rfl hc29 ?_
  obtain rfl := Option.some.inj h
  obtain rfl := hu24 _ rfl
  have h := g25
  clear g25
  try dsimp only at h
  exact wp_exit (xThen (xThen (xHit (leafT (⟨Option.some.inj h, S.fix [] [] (by decide) rfl rfl rfl⟩)))))
 refine sCondT S rfl hc29 ?_
 refine wp_skip (leafT (hK27 _ _ ?_))
 refine sSeq (fun K30 hK30 => ?_)
 refine wp_block ?_
 refine sSeq (fun K31 hK31 => ?_)
 refine sRegion ?_
 refine sField (b := b6) (off := 0) 1 1 S (wN rfl) rfl rfl rfl rfl rfl (lb rfl) fun a S => ?_
 refine sLoad1 0 (.slice ad3 p0.Rows.length cp4) S (wN rfl) rfl rfl rfl rfl rfl rfl (lb rfl) fun a S => ?_
 refine sMm S rfl rfl rfl rfl rfl fun a S => ?_
 obtain ⟨x32, hx33, h⟩ := bindSome h
 obtain ⟨q34, hq35, S⟩ := pIdx (P := Try.prog) (r := r_api_Row) (v := .slice ad3 p0.Rows.length cp4) (xs := p0.Rows) (j := s23) 40 87 0 S Try.underlying40 rfl rfl hx33
 refine sIdxV S (wN rfl) rfl rfl rfl hq35 rfl (lb rfl) fun a S => ?_
 obtain ⟨q36, hq37, S⟩ := pFld (P := Try.prog) (r := r_api_Row) (s2 := (rL r_api_Stitch)) (g := (·.Cells)) (q := q34) (z := x32) 87 1 0 1 S rfl rfl comp_api_Row_Cells
 refine sFldV (q := q34) S (wN rfl) rfl rfl hq37 rfl (lb rfl) fun a S => ?_
 obtain ⟨u38, S⟩ := pLoad (r := (rL r_api_Stitch)) (q := q36) (x := x32.Cells) 0 S rfl
 obtain ⟨ad39, cp40, _, rfl, _⟩ := S.mem.know (i := 1) (e := fRep (rL r_api_Stitch) (u38) x32.Cells) rfl
 refine sLoadV1 (vq := q36) 0 (.slice ad39 x32.Cells.length cp40) S (wN rfl) rfl rfl rfl rfl rfl (lb rfl) fun a S => ?_
 obtain ⟨r41, hx42, h⟩ := bindSome h
 have S1 := S.mem
 refine sCallQ (X := Unit) (f := 75) (vs := [.slice ad39 x32.Cells.length cp40]) (val := fun _ => .tuple #[iv r41.1, iv r41.2]) S (wN rfl) rfl callee75 rfl (S1.quiet [1] rfl) (fun E1 w1 S1 => c_raddleref25_Uses E1 w1 x32.Cells (.slice ad39 x32.Cells.length cp40) r41 hx42 S1) rfl (lb rfl) fun _ a w S => ?_
 refine sMm S rfl rfl rfl rfl rfl fun a S => ?_
 refine sExtract (vs := [iv r41.1, iv r41.2]) (iv r41.1) S (wN rfl) rfl rfl rfl rfl (lb rfl) fun a S => ?_
 refine sExtract (vs := [iv r41.1, iv r41.2]) (iv r41.2) S (wN rfl) rfl rfl rfl rfl (lb rfl) fun a S => ?_
 refine sMa S rfl rfl rfl rfl rfl fun a S => ?_
 refine sMa S rfl rfl rfl rfl rfl fun a S => ?_
 refine lT (hK31 _ _ ?_)
 refine sSeq (fun K43 hK43 => ?_)
 refine sSeq (fun K44 hK44 => ?_)
 refine sRegion ?_
 refine sMm S rfl rfl rfl rfl rfl fun a S => ?_
 refine sBin _ S (wN rfl) rfl rfl rfl (bNe _ _ _ _ .i64 r41.2 0) rfl (lb rfl) fun a S => ?_
 refine lT (hK44 _ _ ?_)
 rcases iteSome h with ⟨hc45, h⟩ | ⟨hc45, h⟩
 ·refine sCondT S rfl hc45 ?_
  refine sSeq (fun K46 hK46 => ?_)
  refine sRegion ?_
  refine sMm S rfl rfl rfl rfl rfl fun a S => ?_
  refine sMa S rfl rfl rfl rfl rfl fun a S => ?_
  refine lT (hK46 _ _ ?_)
  obtain rfl := Option.some.inj h
  obtain rfl := hu24 _ rfl
  have h := g25
  clear g25
  try dsimp only at h
  obtain rfl := Option.some.inj h
  have h := g20
  clear g20
  try dsimp only at h
  obtain rfl := Option.some.inj h
  exact wp_ret (rThen (rBlock (rThen (rThen (rBlock (rThen (sRet (iv r41.2) S (rsl1 rfl (rvT (t := 2) (v := iv r41.2) S rfl)) ⟨(), rfl, S.mem.sel [] [] (by decide) rfl rfl⟩)))))))
 refine sCondF S rfl hc45 ?_
 refine wp_skip (leafT (hK43 _ _ ?_))
 refine sSeq (fun K47 hK47 => ?_)
 refine sSeq (fun K48 hK48 => ?_)
 refine sRegion ?_
 refine sMm S rfl rfl rfl rfl rfl fun a S => ?_
 refine sMm S rfl rfl rfl rfl rfl fun a S => ?_
 refine sBin _ S (wN rfl) rfl rfl rfl (bNe _ _ _ _ .i64 r41.1 s22) rfl (lb rfl) fun a S => ?_
 refine lT (hK48 _ _ ?_)
 rcases iteSome h with ⟨hc49, h⟩ | ⟨hc49, h⟩
 ·refine sCondT S rfl hc49 ?_
  refine sSeq (fun K50 hK50 => ?_)
  refine sRegion ?_
  refine sMa S rfl rfl rfl rfl rfl fun a S => ?_
  refine lT (hK50 _ _ ?_)
  obtain rfl := Option.some.inj h
  obtain rfl := hu24 _ rfl
  have h := g25
  clear g25
  try dsimp only at h
  obtain rfl := Option.some.inj h
  have h := g20
  clear g20
  try dsimp only at h
  obtain rfl := Option.some.inj h
  exact wp_ret (rThen (rBlock (rThen (rThen (rBlock (rThen (sRet (iv 26) S (rsl1 rfl (rvT (t := 2) (v := iv 26) S rfl)) ⟨(), rfl, S.mem.sel [] [] (by decide) rfl rfl⟩)))))))
 refine sCondF S rfl hc49 ?_
 refine wp_skip (leafT (hK47 _ _ ?_))
 refine sRegion ?_
 refine sField (b := b6) (off := 0) 1 1 S (wN rfl) rfl rfl rfl rfl rfl (lb rfl) fun a S => ?_
 refine sLoad1 0 (.slice ad3 p0.Rows.length cp4) S (wN rfl) rfl rfl rfl rfl rfl rfl (lb rfl) fun a S => ?_
 refine sMm S rfl rfl rfl rfl rfl fun a S => ?_
 obtain ⟨q51, hq52, S⟩ := pIdx (P := Try.prog) (r := r_api_Row) (v := .slice ad3 p0.Rows.length cp4) (xs := p0.Rows) (j := s23) 40 87 4 S Try.underlying40 rfl rfl hx33
 refine sIdxV S (wN rfl) rfl rfl rfl hq52 rfl (lb rfl) fun a S => ?_
 obtain ⟨q53, hq54, S⟩ := pFld (P := Try.prog) (r := r_api_Row) (s2 := (rL r_api_Stitch)) (g := (·.Cells)) (q := q51) (z := x32) 87 1 0 1 S rfl rfl comp_api_Row_Cells
 refine sFldV (q := q51) S (wN rfl) rfl rfl hq54 rfl (lb rfl) fun a S => ?_
 obtain ⟨u55, S⟩ := pLoad (r := (rL r_api_Stitch)) (q := q53) (x := x32.Cells) 0 S rfl
 obtain ⟨ad56, cp57, _, rfl, _⟩ := S.mem.know (i := 1) (e := fRep (rL r_api_Stitch) (u55) x32.Cells) rfl
 refine sLoadV1 (vq := q53) 0 (.slice ad56 x32.Cells.length cp57) S (wN rfl) rfl rfl rfl rfl rfl (lb rfl) fun a S => ?_
 obtain ⟨r58, hx59, h⟩ := bindSome h
 have S1 := S.mem
 refine sCallQ (X := Unit) (f := 76) (vs := [.slice ad56 x32.Cells.length cp57]) (val := fun _ => .tuple #[iv r58.1, iv r58.2]) S (wN rfl) rfl callee76 rfl (S1.quiet [1] rfl) (fun E1 w1 S1 => c_raddleref25_Makes E1 w1 x32.Cells (.slice ad56 x32.Cells.length cp57) r58 hx59 S1) rfl (lb rfl) fun _ a w S => ?_
 refine sMm S rfl rfl rfl rfl rfl fun a S => ?_
 refine sExtract (vs := [iv r58.1, iv r58.2]) (iv r58.1) S (wN rfl) rfl rfl rfl rfl (lb rfl) fun a S => ?_
 refine sExtract (vs := [iv r58.1, iv r58.2]) (iv r58.2) S (wN rfl) rfl rfl rfl rfl (lb rfl) fun a S => ?_
 refine sMa S rfl rfl rfl rfl rfl fun a S => ?_
 refine leafL (leafB (leafT (hK30 _ _ ?_)))
 refine sRegion ?_
 refine sMm S rfl rfl rfl rfl rfl fun a S => ?_
 refine sBin _ S (wN rfl) rfl rfl rfl (bAdd _ _ _ _ s23 1) rfl (lb rfl) fun a S => ?_
 refine sMa S rfl rfl rfl rfl rfl fun a S => ?_
 exact lT (⟨(r58.1, w64 (s23 + 1)), (Option.some.inj h).symm, (S.fix [0] [8] (by decide) rfl rfl rfl)⟩)
end Go.Proofs.Ytffikfajljbmnaa
namespace Go.Proofs.Ytffikfajljbmnaa
open Go.RowKit
noncomputable def F_raddleref01_Zero_s0 (p0 : Int) (p1 : Int) : Option api_Grid :=
 Option.bind (makeO (w64 (p0 * p1)) false) fun m6 =>
 some (api_Grid.mk p0 p1 m6)
set_option maxHeartbeats 4000000 in
set_option maxRecDepth 100000 in
theorem c_raddleref01_Zero_s0 (E : Nat → Prop) (w0 : World) (p0 : Int) (p1 : Int) (r : api_Grid) (h : F_raddleref01_Zero_s0 p0 p1 = some r) (S : St0 E [] w0 w0 [] []) :
 Calls Try.prog 66 #[iv p0, iv p1] w0 (Ret (X := Option Addr × Nat) E [] w0 (fun x => .agg #[iv r.W, iv r.H, .slice x.1 r.Bits.length x.2]) (fun x => [eRow rB 4 (.slice x.1 r.Bits.length x.2) r.Bits]) (fun _ => [])) := by
 unfold F_raddleref01_Zero_s0 at h
 refine sEnter (args := [iv p0, iv p1]) 12 Try.func66 rfl rfl (by simp) S (fun a S => ?_)
 refine sSeq (fun K1 hK1 => ?_)
 refine sRegion ?_
 refine sAlloc (.agg #[iv 0, iv 0, .slice none 0 0]) S (wN rfl) rfl rfl [iv 0, iv 0, .slice none 0 0] rfl rfl (lb rfl) fun a b2 w S => ?_
 refine lT (hK1 _ _ ?_)
 refine sSeq (fun K3 hK3 => ?_)
 refine sRegion ?_
 refine sMm S rfl rfl rfl rfl rfl fun a S => ?_
 refine sMm S rfl rfl rfl rfl rfl fun a S => ?_
 refine sMm S rfl rfl rfl rfl rfl fun a S => ?_
 refine sMm S rfl rfl rfl rfl rfl fun a S => ?_
 refine sBin _ S (wN rfl) rfl rfl rfl (bMul _ _ _ _ p0 p1) rfl (lb rfl) fun a S => ?_
 obtain ⟨m6, hx7, h⟩ := bindSome h
 refine sMake (r := rB) (m := w64 (p0 * p1)) (xs := m6) (.bool false) false 1 S (wN rfl) rfl Try.underlying22 rfl rfl (by decide) (fun _ _ => rfl) rfl rfl hx7 rfl (lb rfl) fun a w ad4 cp5 S => ?_
 refine sBuild [(0, iv p0), (1, iv p1), (2, .slice ad4 m6.length cp5)] [iv p0, iv p1, .slice ad4 m6.length cp5] S (wN rfl) rfl rfl rfl rfl (lb rfl) fun a S => ?_
 refine sStore (p := b2) (off := 0) (T := 24) (vs := [iv 0, iv 0, .slice none 0 0]) (v := .agg #[iv p0, iv p1, .slice ad4 m6.length cp5]) 1 [iv p0, iv p1, .slice ad4 m6.length cp5] S (wN rfl) rfl rfl rfl rfl rfl rfl rfl (by simp) rfl fun a w S => ?_
 refine lT (hK3 _ _ ?_)
 obtain rfl := Option.some.inj h
 exact wp_ret (sRet (.agg #[iv p0, iv p1, .slice ad4 m6.length cp5]) S (rsl1 rfl (rvN (c := 4) (t := 24) (T := 24) (p := b2) 0 [iv p0, iv p1, .slice ad4 m6.length cp5] S rfl rfl rfl rfl)) ⟨(ad4, cp5), rfl, S.mem.sel [1] [] (by decide) rfl rfl⟩)
end Go.Proofs.Ytffikfajljbmnaa
namespace Go.Proofs.Ytffikfajljbmnaa
open Go.RowKit
noncomputable def F_raddleref01_Set_s0 (p0 : Int) (p1 : Int) (p2 : (List Bool)) (p3 : Int) (p4 : Int) (p5 : Bool) : Option (List Bool) :=
 Option.bind (idxO p2 (w64 ((w64 (p4 * p0)) + p3))) fun x3 =>
 Option.bind (setO p2 (w64 ((w64 (p4 * p0)) + p3)) p5) fun l8 =>
 (keepO p2 l8).bind fun _ =>
 some l8
set_option maxHeartbeats 4000000 in
set_option maxRecDepth 100000 in
theorem c_raddleref01_Set_s0 (E : Nat → Prop) (w0 : World) (p0 : Int) (p1 : Int) (p2 : (List Bool)) (ad_2 : Option Addr) (cp_2 : Nat) (p3 : Int) (p4 : Int) (p5 : Bool) (r : (List Bool)) (h : F_raddleref01_Set_s0 p0 p1 p2 p3 p4 p5 = some r) (S : St0 E (keysL [eRow rB 4 (.slice ad_2 p2.length cp_2) p2]) w0 w0 [eRow rB 4 (.slice ad_2 p2.length cp_2) p2] []) :
 Calls Try.prog 67 #[.agg #[iv p0, iv p1, .slice ad_2 p2.length cp_2], iv p3, iv p4, .bool p5] w0 (Ret (X := Unit) E (keysL [eRow rB 4 (.slice ad_2 p2.length cp_2) p2]) w0 (fun _ => .tuple #[]) (fun _ => [eRow rB 4 (.slice ad_2 p2.length cp_2) r]) (fun _ => [])) := by
 unfold F_raddleref01_Set_s0 at h
 refine sEnter (args := [.agg #[iv p0, iv p1, .slice ad_2 p2.length cp_2], iv p3, iv p4, .bool p5]) 18 Try.func67 rfl rfl (by simp) S (fun a S => ?_)
 refine sSeq (fun K1 hK1 => ?_)
 refine sRegion ?_
 refine sBox (v := .agg #[iv p0, iv p1, .slice ad_2 p2.length cp_2]) S (wN rfl) rfl rfl [iv p0, iv p1, .slice ad_2 p2.length cp_2] rfl rfl (lb rfl) fun a b2 w S => ?_
 refine lT (hK1 _ _ ?_)
 refine sRegion ?_
 refine sField (b := b2) (off := 0) 2 2 S (wN rfl) rfl rfl rfl rfl rfl (lb rfl) fun a S => ?_
 refine sLoad1 0 (.slice ad_2 p2.length cp_2) S (wN rfl) rfl rfl rfl rfl rfl rfl (lb rfl) fun a S => ?_
 refine sMm S rfl rfl rfl rfl rfl fun a S => ?_
 refine sField (b := b2) (off := 0) 0 0 S (wN rfl) rfl rfl rfl rfl rfl (lb rfl) fun a S => ?_
 refine sLoad1 0 (iv p0) S (wN rfl) rfl rfl rfl rfl rfl rfl (lb rfl) fun a S => ?_
 refine sBin _ S (wN rfl) rfl rfl rfl (bMul _ _ _ _ p4 p0) rfl (lb rfl) fun a S => ?_
 refine sMm S rfl rfl rfl rfl rfl fun a S => ?_
 refine sBin _ S (wN rfl) rfl rfl rfl (bAdd _ _ _ _ (w64 (p4 * p0)) p3) rfl (lb rfl) fun a S => ?_
 refine sMm S rfl rfl rfl rfl rfl fun a S => ?_
 obtain ⟨x3, hx4, h⟩ := bindSome h
 obtain ⟨q5, hq6, hp7⟩ := pIdxR (P := Try.prog) (r := rB) (T := 4) (v := .slice ad_2 p2.length cp_2) (xs := p2) (j := w64 ((w64 (p4 * p0)) + p3)) 22 4 1 S Try.underlying22 rfl rfl hx4
 refine sIdxV S (wN rfl) rfl rfl rfl hq6 rfl (lb rfl) fun a S => ?_
 obtain ⟨l8, hx9, h⟩ := bindSome h
 refine sStoreR (r := rB) (T := 4) (xs := p2) (ys := l8) (y := p5) (v := .slice ad_2 p2.length cp_2) (vq := q5) (u := .bool p5) (j := w64 ((w64 (p4 * p0)) + p3)) 1 S hp7 (wN rfl) rfl rfl rfl rfl rfl hx9 rfl rfl fun a w S => ?_
 rw [setO_v hx9 ad_2 cp_2] at S
 obtain ⟨_, hk10, h⟩ := bindSome h
 rw [keepO_v hk10 ad_2 cp_2] at S
 obtain rfl := Option.some.inj h
 exact leafL (sEnd (.tuple #[]) S (rsl0 rfl ) ⟨(), rfl, S.mem.sel [0] [] (by decide) rfl rfl⟩)
end Go.Proofs.Ytffikfajljbmnaa
namespace Go.Proofs.Ytffikfajljbmnaa
open Go.RowKit
def anc_raddleref01_Parse_0 : List (List Nat) := [[], [], [1], [0, 1, 2], [], [4], [4, 5], [], [], [8], [7, 8, 9], [4, 5, 6, 7, 8, 9, 10], [0, 1, 2, 3], [0, 1, 2, 3, 4, 5, 6, 7, 8, 9, 10, 11, 12]]
noncomputable def raddleref01_Parse_l1 (p0 : ByteArray) : Int → Option (Int ⊕ Int) := fun s0 => match s0 with
 | s7 =>
  Option.bind (α := Bool) (
   if decide (s7 < (p0.size : Int)) then
    Option.bind (idxS p0 s7) fun x17 =>
    some (x17 != 10)
   else
    some false) fun o13 =>
  if o13 then
   some (.inl (w64 (s7 + 1)))
  else
   some (.inr s7)
noncomputable def raddleref01_Parse_l2 (p0 : ByteArray) (o4 : Int) (r36 : api_Grid) : (Int × List Bool) → Option ((Int × List Bool) ⊕ ((api_Grid × Int) ⊕ (List Bool))) := fun s0 => match s0 with
 | (s45, s46) =>
  if decide (s45 < (p0.size : Int)) then
   Option.bind (α := List Bool ⊕ (api_Grid × Int)) (
    Option.bind (remI s45 (w64 (o4 + 1))) fun z58 =>
    Option.bind (quoI s45 (w64 (o4 + 1))) fun z60 =>
    Option.bind (α := Bool) (
     Option.bind (idxS p0 s45) fun x66 =>
     if (x66 == 10) != (z58 == o4) then
      some true
     else
      if x66 != 10 then
       if x66 != 120 then
        some (x66 != 46)
       else
        some false
      else
       some false) fun o63 =>
    if o63 then
     some (.inr ((api_Grid.mk 0 0 ([] : (List Bool))), 12))
    else
     Option.bind (idxS p0 s45) fun x74 =>
     if x74 == 120 then
      Option.bind (F_raddleref01_Set_s0 r36.W r36.H s46 z58 (w64 ((w64 (r36.H - 1)) - z60)) true) fun r77 =>
      some (.inl r77)
     else
      some (.inl s46)) fun z0 => match z0 with
    | .inl o54 =>
     some (.inl (w64 (s45 + 1), o54))
    | .inr z =>
     some (.inr (.inl z))
  else
   some (.inr (.inr s46))
noncomputable def F_raddleref01_Parse (p0 : ByteArray) : Option (api_Grid × Int) :=
 Option.bind (α := Int) (
  Option.bind (whileO (raddleref01_Parse_l1 p0) 0) fun e11 =>
   some e11) fun o4 =>
 Option.bind (α := Bool) (
  if decide (o4 < 1) then
   some true
  else
   if decide (64 < o4) then
    some true
   else
    Option.bind (remI (p0.size : Int) (w64 (o4 + 1))) fun z26 =>
    if z26 != 0 then
     some true
    else
     Option.bind (quoI (p0.size : Int) (w64 (o4 + 1))) fun z29 =>
     some (decide (64 < z29))) fun o21 =>
 if o21 then
  some ((api_Grid.mk 0 0 ([] : (List Bool))), 12)
 else
  Option.bind (quoI (p0.size : Int) (w64 (o4 + 1))) fun z34 =>
  Option.bind (F_raddleref01_Zero_s0 o4 z34) fun r36 =>
  Option.bind (α := List Bool ⊕ (api_Grid × Int)) (
   Option.bind (whileO (raddleref01_Parse_l2 p0 o4 r36) (0, r36.Bits)) fun z0 => match z0 with
    | .inl z =>
     some (.inr z)
    | .inr e50 =>
     some (.inl e50)) fun z0 => match z0 with
   | .inl o41 =>
    some ((api_Grid.mk r36.W r36.H o41), 0)
   | .inr z =>
    some z
def c_raddleref01_Parse_val (r : (api_Grid × Int)) (x : Value) : Value := .tuple #[x, .int .i64 r.2]
def c_raddleref01_Parse_D (r : (api_Grid × Int)) (x : Value) : List Fact := [fRep r_api_Grid x r.1]
set_option maxHeartbeats 4000000 in
set_option maxRecDepth 100000 in
theorem c_raddleref01_Parse (E : Nat → Prop) (w0 : World) (p0 : ByteArray) (r : (api_Grid × Int)) (h : F_raddleref01_Parse p0 = some r) (S : St0 E [] w0 w0 [] []) :
 Calls Try.prog 77 #[.string p0] w0 (Ret (X := Value) E [] w0 (c_raddleref01_Parse_val r) (fun _ => []) (c_raddleref01_Parse_D r)) := by
 unfold F_raddleref01_Parse at h
 refine sEnter (args := [.string p0]) 105 Try.func77 rfl rfl (by simp) S (fun a S => ?_)
 refine sSeq (fun K1 hK1 => ?_)
 refine sRegion ?_
 refine sAlloc (.agg #[iv 0, iv 0, .slice none 0 0]) S (wN rfl) rfl rfl [iv 0, iv 0, .slice none 0 0] rfl rfl (lb rfl) fun a b2 w S => ?_
 refine sMa S rfl rfl rfl rfl rfl fun a S => ?_
 refine lT (hK1 _ _ ?_)
 refine sSeq (fun K3 hK3 => ?_)
 refine sRegion ?_
 refine sMa S rfl rfl rfl rfl rfl fun a S => ?_
 refine lT (hK3 _ _ ?_)
 obtain ⟨t5, h, g6⟩ := bindSome h
 refine sCut (fun a w => ∃ o4, o4 = t5 ∧ St [] E [] w0 105 a w [(0, .string p0), (2, .pointer (some ⟨b2, 0, none⟩)), (4, iv o4)] [eBox b2 24 [iv 0, iv 0, .slice none 0 0]] []) ?_ (fun a w hI => ?_)
 ·refine wp_block ?_
  obtain ⟨t10, hl, g9⟩ := bindSome h
  refine sLoop hl (fun s0 a w => match s0 with | s7 => St [] E [] w0 105 a w [(0, .string p0), (2, .pointer (some ⟨b2, 0, none⟩)), (4, iv s7)] [eBox b2 24 [iv 0, iv 0, .slice none 0 0]] []) (S.fix [0] [] (by decide) rfl rfl rfl) ?_
  clear hl h
  intro s7 a w c0 hI h hu8
  unfold raddleref01_Parse_l1 at h
  dsimp only at h hI
  have S := hI
  refine sSeq (fun K12 hK12 => ?_)
  obtain ⟨t14, h, g15⟩ := bindSome h
  refine sCut (fun a w => ∃ o13, o13 = t14 ∧ St [] E [] w0 105 a w [(0, .string p0), (2, .pointer (some ⟨b2, 0, none⟩)), (4, iv s7), (18, .bool o13)] [eBox b2 24 [iv 0, iv 0, .slice none 0 0]] []) ?_ (fun a w hI => ?_)
  rotate_left
  ·obtain ⟨o13, rfl, S⟩ := hI
   have h := g15
   clear g15
   try dsimp only at h
   rcases iteSome h with ⟨hc19, h⟩ | ⟨hc19, h⟩
   rotate_left
   ·refine sCondF S rfl hc19 ?_
    obtain rfl := Option.some.inj h
    obtain rfl := hu8 _ rfl
    have h := g9
    clear g9
    try dsimp only at h
    exact wp_exit (xThen (xThen (xHit (leafT (⟨s7, Option.some.inj h, S.fix [0] [] (by decide) rfl rfl rfl⟩)))))
   refine sCondT S rfl hc19 ?_
   refine wp_skip (leafT (hK12 _ _ ?_))
   refine wp_block ?_
   refine sRegion ?_
   refine sMm S rfl rfl rfl rfl rfl fun a S => ?_
   refine sBin _ S (wN rfl) rfl rfl rfl (bAdd _ _ _ _ s7 1) rfl (lb rfl) fun a S => ?_
   refine sMa S rfl rfl rfl rfl rfl fun a S => ?_
   exact leafL (leafB (leafT (⟨w64 (s7 + 1), (Option.some.inj h).symm, (S.fix [0] [] (by decide) rfl rfl rfl)⟩)))
  refine sRegion ?_
  refine sMm S rfl rfl rfl rfl rfl fun a S => ?_
  refine sMm S rfl rfl rfl rfl rfl fun a S => ?_
  refine sLenS (v := p0) S (wN rfl) rfl Try.underlying9 rfl rfl (lb rfl) fun a S => ?_
  refine sBin _ S (wN rfl) rfl rfl rfl (bLt _ _ _ _ .i64 s7 (p0.size : Int)) rfl (lb rfl) fun a S => ?_
  refine sMm S rfl rfl rfl rfl rfl fun a S => ?_
  rcases iteSome h with ⟨hc16, h⟩ | ⟨hc16, h⟩
  rotate_left
  ·refine sSkN 4 4 true 13 S rfl rfl hc16 rfl fun a S => ?_
   refine sPickF (.bool false) S (wN rfl) rfl rfl hc16 rfl rfl (lb rfl) fun a S => ?_
   exact lT (⟨false, Option.some.inj h, S.fix [0] [] (by decide) rfl rfl rfl⟩)
  refine sMove (.string p0) S (wG 4 true 13 rfl rfl rfl hc16) (.inl rfl) rfl rfl (lb rfl) fun a S => ?_
  refine sMove (iv s7) S (wG 4 true 13 rfl rfl rfl hc16) (.inl rfl) rfl rfl (lb rfl) fun a S => ?_
  obtain ⟨x17, hx18, h⟩ := bindSome h
  refine sIndexS (v := p0) (j := s7) (k := .i64) S (wG 4 true 13 rfl rfl rfl hc16) rfl Try.underlying9 rfl rfl hx18 rfl (lb rfl) fun a S => ?_
  refine sBin _ S (wG 4 true 13 rfl rfl rfl hc16) rfl rfl rfl (bNe _ _ _ _ .u8 x17 10) rfl (lb rfl) fun a S => ?_
  refine sPickT (.bool (x17 != 10)) S (wN rfl) rfl rfl hc16 rfl rfl (lb rfl) fun a S => ?_
  exact lT (⟨x17 != 10, Option.some.inj h, S.fix [0] [] (by decide) rfl rfl rfl⟩)
 obtain ⟨o4, rfl, S⟩ := hI
 have h := g6
 clear g6
 try dsimp only at h
 refine sSeq (fun K20 hK20 => ?_)
 obtain ⟨t22, h, g23⟩ := bindSome h
 refine sCut (fun a w => ∃ o21, o21 = t22 ∧ St [] E [] w0 105 a w [(0, .string p0), (2, .pointer (some ⟨b2, 0, none⟩)), (4, iv o4), (42, .bool o21)] [eBox b2 24 [iv 0, iv 0, .slice none 0 0]] []) ?_ (fun a w hI => ?_)
 ·refine sRegion ?_
  refine sMm S rfl rfl rfl rfl rfl fun a S => ?_
  refine sBin _ S (wN rfl) rfl rfl rfl (bLt _ _ _ _ .i64 o4 1) rfl (lb rfl) fun a S => ?_
  refine sMm S rfl rfl rfl rfl rfl fun a S => ?_
  rcases iteSome h with ⟨hc24, h⟩ | ⟨hc24, h⟩
  ·refine sSkN 2 2 false 23 S rfl rfl hc24 rfl fun a S => ?_
   refine sPickT (.bool true) S (wN rfl) rfl rfl hc24 rfl rfl (lb rfl) fun a S => ?_
   refine sMm S rfl rfl rfl rfl rfl fun a S => ?_
   refine sSkN 6 6 false 27 S rfl rfl rfl rfl fun a S => ?_
   refine sPickT (.bool true) S (wN rfl) rfl rfl rfl rfl rfl (lb rfl) fun a S => ?_
   refine sMm S rfl rfl rfl rfl rfl fun a S => ?_
   refine sSkN 6 14 false 35 S rfl rfl rfl rfl fun a S => ?_
   refine sPickT (.bool true) S (wN rfl) rfl rfl rfl rfl rfl (lb rfl) fun a S => ?_
   exact lT (⟨true, Option.some.inj h, S.fix [0] [] (by decide) rfl rfl rfl⟩)
  refine sMove (iv o4) S (wG 2 false 23 rfl rfl rfl hc24) (.inl rfl) rfl rfl (lb rfl) fun a S => ?_
  refine sBin _ S (wG 2 false 23 rfl rfl rfl hc24) rfl rfl rfl (bGt _ _ _ _ .i64 o4 64) rfl (lb rfl) fun a S => ?_
  refine sPickF (.bool (decide (64 < o4))) S (wN rfl) rfl rfl hc24 rfl rfl (lb rfl) fun a S => ?_
  refine sMm S rfl rfl rfl rfl rfl fun a S => ?_
  rcases iteSome h with ⟨hc25, h⟩ | ⟨hc25, h⟩
  ·refine sSkN 6 6 false 27 S rfl rfl hc25 rfl fun a S => ?_
   refine sPickT (.bool true) S (wN rfl) rfl rfl hc25 rfl rfl (lb rfl) fun a S => ?_
   refine sMm S rfl rfl rfl rfl rfl fun a S => ?_
   refine sSkN 6 14 false 35 S rfl rfl rfl rfl fun a S => ?_
   refine sPickT (.bool true) S (wN rfl) rfl rfl rfl rfl rfl (lb rfl) fun a S => ?_
   exact lT (⟨true, Option.some.inj h, S.fix [0] [] (by decide) rfl rfl rfl⟩)
  refine sMove (.string p0) S (wG 6 false 27 rfl rfl rfl hc25) (.inl rfl) rfl rfl (lb rfl) fun a S => ?_
  refine sLenS (v := p0) S (wG 6 false 27 rfl rfl rfl hc25) rfl Try.underlying9 rfl rfl (lb rfl) fun a S => ?_
  refine sMove (iv o4) S (wG 6 false 27 rfl rfl rfl hc25) (.inl rfl) rfl rfl (lb rfl) fun a S => ?_
  refine sBin _ S (wG 6 false 27 rfl rfl rfl hc25) rfl rfl rfl (bAdd _ _ _ _ o4 1) rfl (lb rfl) fun a S => ?_
  obtain ⟨z26, hx27, h⟩ := bindSome h
  refine sBin _ S (wG 6 false 27 rfl rfl rfl hc25) rfl rfl rfl (bRem _ _ _ _ (x := (p0.size : Int)) (y := w64 (o4 + 1)) hx27) rfl (lb rfl) fun a S => ?_
  refine sBin _ S (wG 6 false 27 rfl rfl rfl hc25) rfl rfl rfl (bNe _ _ _ _ .i64 z26 0) rfl (lb rfl) fun a S => ?_
  refine sPickF (.bool (z26 != 0)) S (wN rfl) rfl rfl hc25 rfl rfl (lb rfl) fun a S => ?_
  refine sMm S rfl rfl rfl rfl rfl fun a S => ?_
  rcases iteSome h with ⟨hc28, h⟩ | ⟨hc28, h⟩
  ·refine sSkN 6 14 false 35 S rfl rfl hc28 rfl fun a S => ?_
   refine sPickT (.bool true) S (wN rfl) rfl rfl hc28 rfl rfl (lb rfl) fun a S => ?_
   exact lT (⟨true, Option.some.inj h, S.fix [0] [] (by decide) rfl rfl rfl⟩)
  refine sMove (.string p0) S (wG 14 false 35 rfl rfl rfl hc28) (.inl rfl) rfl rfl (lb rfl) fun a S => ?_
  refine sLenS (v := p0) S (wG 14 false 35 rfl rfl rfl hc28) rfl Try.underlying9 rfl rfl (lb rfl) fun a S => ?_
  refine sMove (iv o4) S (wG 14 false 35 rfl rfl rfl hc28) (.inl rfl) rfl rfl (lb rfl) fun a S => ?_
  refine sBin _ S (wG 14 false 35 rfl rfl rfl hc28) rfl rfl rfl (bAdd _ _ _ _ o4 1) rfl (lb rfl) fun a S => ?_
  obtain ⟨z29, hx30, h⟩ := bindSome h
  refine sBin _ S (wG 14 false 35 rfl rfl rfl hc28) rfl rfl rfl (bQuo _ _ _ _ (x := (p0.size : Int)) (y := w64 (o4 + 1)) hx30) rfl (lb rfl) fun a S => ?_
  refine sBin _ S (wG 14 false 35 rfl rfl rfl hc28) rfl rfl rfl (bGt _ _ _ _ .i64 z29 64) rfl (lb rfl) fun a S => ?_
  refine sPickF (.bool (decide (64 < z29))) S (wN rfl) rfl rfl hc28 rfl rfl (lb rfl) fun a S => ?_
  exact lT (⟨decide (64 < z29), Option.some.inj h, S.fix [0] [] (by decide) rfl rfl rfl⟩)
 obtain ⟨o21, rfl, S⟩ := hI
 have h := g23
 clear g23
 try dsimp only at h
 rcases iteSome h with ⟨hc31, h⟩ | ⟨hc31, h⟩
 ·refine sCondT S rfl hc31 ?_
  refine sSeq (fun K32 hK32 => ?_)
  refine sRegion ?_
  refine sBuild [] [iv 0, iv 0, .slice none 0 0] S (wN rfl) rfl rfl rfl rfl (lb rfl) fun a S => ?_
  refine sStore (p := b2) (off := 0) (T := 24) (vs := [iv 0, iv 0, .slice none 0 0]) (v := .agg #[iv 0, iv 0, .slice none 0 0]) 0 [iv 0, iv 0, .slice none 0 0] S (wN rfl) rfl rfl rfl rfl rfl rfl rfl (by simp) rfl fun a w S => ?_
  refine sMa S rfl rfl rfl rfl rfl fun a S => ?_
  refine lT (hK32 _ _ ?_)
  obtain rfl := Option.some.inj h
  have S := S.learn (fRep (rL rB) (.slice none 0 0) ([] : (List Bool))) (rL_nil _ _ _)
  have S := S.learn (fRep r_api_Grid (.agg #[iv 0, iv 0, .slice none 0 0]) (api_Grid.mk 0 0 ([] : (List Bool)))) ⟨_, rfl, S.mem.know (i := 0) (e := fRep (rL rB) (.slice none 0 0) ([] : (List Bool))) rfl⟩
  exact wp_ret (rThen (sRet (.tuple #[.agg #[iv 0, iv 0, .slice none 0 0], iv 12]) S (rsl2 rfl (rvN (c := 2) (t := 24) (T := 24) (p := b2) 0 [iv 0, iv 0, .slice none 0 0] S rfl rfl rfl rfl) (rvT (t := 3) (v := iv 12) S rfl)) ⟨(.agg #[iv 0, iv 0, .slice none 0 0]), rfl, S.mem.sel [] [0] (by decide) rfl rfl⟩))
 refine sCondF S rfl hc31 ?_
 refine wp_skip (leafT (hK20 _ _ ?_))
 refine sSeq (fun K33 hK33 => ?_)
 refine sRegion ?_
 refine sMm S rfl rfl rfl rfl rfl fun a S => ?_
 refine sMm S rfl rfl rfl rfl rfl fun a S => ?_
 refine sLenS (v := p0) S (wN rfl) rfl Try.underlying9 rfl rfl (lb rfl) fun a S => ?_
 refine sMm S rfl rfl rfl rfl rfl fun a S => ?_
 refine sBin _ S (wN rfl) rfl rfl rfl (bAdd _ _ _ _ o4 1) rfl (lb rfl) fun a S => ?_
 obtain ⟨z34, hx35, h⟩ := bindSome h
 refine sBin _ S (wN rfl) rfl rfl rfl (bQuo _ _ _ _ (x := (p0.size : Int)) (y := w64 (o4 + 1)) hx35) rfl (lb rfl) fun a S => ?_
 obtain ⟨r36, hx37, h⟩ := bindSome h
 refine sCall (X := Option Addr × Nat) (f := 66) (vs := [iv o4, iv z34]) (val := fun x => .agg #[iv r36.W, iv r36.H, .slice x.1 r36.Bits.length x.2]) (B' := fun x => [eRow rB 4 (.slice x.1 r36.Bits.length x.2) r36.Bits]) (D' := fun _ => []) [] [eBox b2 24 [iv 0, iv 0, .slice none 0 0]] [] [0] [] S (wN rfl) rfl callee66 rfl (by decide) rfl rfl (fun E1 w1 S1 => c_raddleref01_Zero_s0 E1 w1 o4 z34 r36 hx37 S1) rfl (lb rfl) fun xx a w S => ?_
 obtain ⟨ad38, cp39⟩ := xx
 dsimp only at S
 refine sAlloc (.agg #[iv 0, iv 0, .slice none 0 0]) S (wN rfl) rfl rfl [iv 0, iv 0, .slice none 0 0] rfl rfl (lb rfl) fun a b40 w S => ?_
 refine sStore (p := b40) (off := 0) (T := 24) (vs := [iv 0, iv 0, .slice none 0 0]) (v := .agg #[iv r36.W, iv r36.H, .slice ad38 r36.Bits.length cp39]) 0 [iv r36.W, iv r36.H, .slice ad38 r36.Bits.length cp39] S (wN rfl) rfl rfl rfl rfl rfl rfl rfl (by simp) rfl fun a w S => ?_
 refine lT (hK33 _ _ ?_)
 obtain ⟨t42, h, g43⟩ := bindSome h
 refine sCut (fun a w => ∃ o41, .inl o41 = t42 ∧ St [] E [] w0 105 a w [(2, .pointer (some ⟨b2, 0, none⟩)), (5, .pointer (some ⟨b40, 0, none⟩))] [eBox b2 24 [iv 0, iv 0, .slice none 0 0], eBox b40 24 [iv r36.W, iv r36.H, .slice ad38 o41.length cp39], eRow rB 4 (.slice ad38 o41.length cp39) o41] []) ?_ (fun a w hI => ?_)
 rotate_left
 ·obtain ⟨o41, rfl, S⟩ := hI
  have h := g43
  clear g43
  try dsimp only at h
  refine sSeq (fun K80 hK80 => ?_)
  refine sRegion ?_
  refine sLoadN (p := b40) (off := 0) (T := 24) (vs := [iv r36.W, iv r36.H, .slice ad38 o41.length cp39]) 1 [iv r36.W, iv r36.H, .slice ad38 o41.length cp39] S (wN rfl) rfl rfl rfl rfl rfl rfl rfl (lb rfl) fun a S => ?_
  refine sStore (p := b2) (off := 0) (T := 24) (vs := [iv 0, iv 0, .slice none 0 0]) (v := .agg #[iv r36.W, iv r36.H, .slice ad38 o41.length cp39]) 0 [iv r36.W, iv r36.H, .slice ad38 o41.length cp39] S (wN rfl) rfl rfl rfl rfl rfl rfl rfl (by simp) rfl fun a w S => ?_
  refine sMa S rfl rfl rfl rfl rfl fun a S => ?_
  refine lT (hK80 _ _ ?_)
  obtain rfl := Option.some.inj h
  have S := S.shutR (r := rB) (T := 4) (v := .slice ad38 o41.length cp39) (xs := o41) 2 rfl
  have S := S.learn (fRep r_api_Grid (.agg #[iv r36.W, iv r36.H, .slice ad38 o41.length cp39]) (api_Grid.mk r36.W r36.H o41)) ⟨_, rfl, S.mem.know (i := 0) (e := fRep (rL rB) (.slice ad38 o41.length cp39) o41) rfl⟩
  exact wp_ret (sRet (.tuple #[.agg #[iv r36.W, iv r36.H, .slice ad38 o41.length cp39], iv 0]) S (rsl2 rfl (rvN (c := 2) (t := 24) (T := 24) (p := b2) 0 [iv r36.W, iv r36.H, .slice ad38 o41.length cp39] S rfl rfl rfl rfl) (rvT (t := 3) (v := iv 0) S rfl)) ⟨(.agg #[iv r36.W, iv r36.H, .slice ad38 o41.length cp39]), rfl, S.mem.sel [] [0] (by decide) rfl rfl⟩)
 refine sSeq (fun K44 hK44 => ?_)
 refine sRegion ?_
 refine sMa S rfl rfl rfl rfl rfl fun a S => ?_
 refine lT (hK44 _ _ ?_)
 refine wp_block ?_
 obtain ⟨t49, hl, g48⟩ := bindSome h
 refine sLoop hl (fun s0 a w => match s0 with | (s45, s46) => St [] E [] w0 105 a w [(0, .string p0), (2, .pointer (some ⟨b2, 0, none⟩)), (4, iv o4), (5, .pointer (some ⟨b40, 0, none⟩)), (6, iv s45)] [eBox b2 24 [iv 0, iv 0, .slice none 0 0], eBox b40 24 [iv r36.W, iv r36.H, .slice ad38 s46.length cp39], eRow rB 4 (.slice ad38 s46.length cp39) s46] []) (S.fix [2, 0, 1] [] (by decide) rfl rfl rfl) ?_
 clear hl h
 intro s0 a w c0 hI h hu47
 obtain ⟨s45, s46⟩ := s0
 unfold raddleref01_Parse_l2 at h
 dsimp only at h hI
 have S := hI
 refine sSeq (fun K51 hK51 => ?_)
 refine sSeq (fun K52 hK52 => ?_)
 refine sRegion ?_
 refine sMm S rfl rfl rfl rfl rfl fun a S => ?_
 refine sMm S rfl rfl rfl rfl rfl fun a S => ?_
 refine sLenS (v := p0) S (wN rfl) rfl Try.underlying9 rfl rfl (lb rfl) fun a S => ?_
 refine sBin _ S (wN rfl) rfl rfl rfl (bLt _ _ _ _ .i64 s45 (p0.size : Int)) rfl (lb rfl) fun a S => ?_
 refine lT (hK52 _ _ ?_)
 rcases iteSome h with ⟨hc53, h⟩ | ⟨hc53, h⟩
 rotate_left
 ·refine sCondF S rfl hc53 ?_
  obtain rfl := Option.some.inj h
  obtain rfl := hu47 _ rfl
  have h := g48
  clear g48
  try dsimp only at h
  exact wp_exit (xThen (xThen (xHit (leafT (⟨s46, Option.some.inj h, S.fix [0, 1, 2] [] (by decide) rfl rfl rfl⟩)))))
 refine sCondT S rfl hc53 ?_
 refine wp_skip (leafT (hK51 _ _ ?_))
 obtain ⟨t55, h, g56⟩ := bindSome h
 refine sCut (fun a w => ∃ o54, .inl o54 = t55 ∧ St [] E [] w0 105 a w [(0, .string p0), (2, .pointer (some ⟨b2, 0, none⟩)), (4, iv o4), (5, .pointer (some ⟨b40, 0, none⟩)), (6, iv s45)] [eBox b2 24 [iv 0, iv 0, .slice none 0 0], eBox b40 24 [iv r36.W, iv r36.H, .slice ad38 o54.length cp39], eRow rB 4 (.slice ad38 o54.length cp39) o54] []) ?_ (fun a w hI => ?_)
 rotate_left
 ·obtain ⟨o54, rfl, S⟩ := hI
  have h := g56
  clear g56
  try dsimp only at h
  refine sRegion ?_
  refine sMm S rfl rfl rfl rfl rfl fun a S => ?_
  refine sBin _ S (wN rfl) rfl rfl rfl (bAdd _ _ _ _ s45 1) rfl (lb rfl) fun a S => ?_
  refine sMa S rfl rfl rfl rfl rfl fun a S => ?_
  exact lT (⟨(w64 (s45 + 1), o54), (Option.some.inj h).symm, (S.fix [0, 1, 2] [] (by decide) rfl rfl rfl)⟩)
 refine wp_block ?_
 refine sSeq (fun K57 hK57 => ?_)
 obtain ⟨z58, hx59, h⟩ := bindSome h
 obtain ⟨z60, hx61, h⟩ := bindSome h
 refine sDraw (nf := []) (W := [(0, 57, iv s45), (1, 58, iv o4), (2, 59, iv (w64 (o4 + 1))), (3, 60, iv z58), (4, 61, .pointer (some ⟨b40, 1, none⟩)), (5, 62, iv r36.H), (6, 63, iv (w64 (r36.H - 1))), (7, 64, iv s45), (8, 65, iv o4), (9, 66, iv (w64 (o4 + 1))), (10, 67, iv z60), (11, 68, iv (w64 ((w64 (r36.H - 1)) - z60))), (12, 7, iv z58), (13, 8, iv (w64 ((w64 (r36.H - 1)) - z60)))]) rfl S ?_
 refine node_by (A := anc_raddleref01_Parse_0) 14 (by kernel_rfl) (by kernel_rfl) (by kernel_rfl) (by kernel_rfl) (by kernel_rfl) [0, 1, 2, 3, 4, 5, 6, 7, 8, 9, 10, 11, 12, 13] (by kernel_rfl) (by decide) (by decide) (fF ?_ (fF ?_ (fF ?_ (fF ?_ (fF ?_ (fF ?_ (fF ?_ (fF ?_ (fF ?_ (fF ?_ (fF ?_ (fF ?_ (fF ?_ (fF ?_ (trivial))))))))))))))) [(0, .string p0), (2, .pointer (some ⟨b2, 0, none⟩)), (4, iv o4), (5, .pointer (some ⟨b40, 0, none⟩)), (6, iv s45), (7, iv z58), (8, iv (w64 ((w64 (r36.H - 1)) - z60)))] (fin_of [none, none, none, none, none, some 12, some 13] rfl (by kernel_rfl) (by kernel_rfl)) (fun _ a w S => ?_)
 ·exact fM 0 none rfl rfl rfl rfl (.inl rfl) rfl rfl rfl
 ·exact fM 1 none rfl rfl rfl rfl (.inl rfl) rfl rfl rfl
 ·refine fJ [(58, _)] 2 [some 1] fun G a w S => ?_
  exact sBin _ S (wN rfl) rfl rfl rfl (bAdd _ _ _ _ o4 1) rfl (lb rfl) fun a S => leafL ⟨rfl, S⟩
 ·refine fJ [(57, _), (59, _)] 3 [some 0, some 2] fun G a w S => ?_
  exact sBin _ S (wN rfl) rfl rfl rfl (bRem _ _ _ _ (x := s45) (y := w64 (o4 + 1)) hx59) rfl (lb rfl) fun a S => leafL ⟨rfl, S⟩
 ·refine fJ [(5, _)] 4 [none] fun G a w S => ?_
  exact sField (b := b40) (off := 0) 1 1 S (wN rfl) rfl rfl rfl rfl rfl (lb rfl) fun a S => leafL ⟨rfl, S⟩
 ·refine fJ [(61, _)] 5 [some 4] fun G a w S => ?_
  exact sLoad1 1 (iv r36.H) S (wN rfl) rfl rfl rfl rfl rfl rfl (lb rfl) fun a S => leafL ⟨rfl, S⟩
 ·refine fJ [(62, _)] 6 [some 5] fun G a w S => ?_
  exact sBin _ S (wN rfl) rfl rfl rfl (bSub _ _ _ _ r36.H 1) rfl (lb rfl) fun a S => leafL ⟨rfl, S⟩
 ·exact fM 7 none rfl rfl rfl rfl (.inl rfl) rfl rfl rfl
 ·exact fM 8 none rfl rfl rfl rfl (.inl rfl) rfl rfl rfl
 ·refine fJ [(65, _)] 9 [some 8] fun G a w S => ?_
  exact sBin _ S (wN rfl) rfl rfl rfl (bAdd _ _ _ _ o4 1) rfl (lb rfl) fun a S => leafL ⟨rfl, S⟩
 ·refine fJ [(64, _), (66, _)] 10 [some 7, some 9] fun G a w S => ?_
  exact sBin _ S (wN rfl) rfl rfl rfl (bQuo _ _ _ _ (x := s45) (y := w64 (o4 + 1)) hx61) rfl (lb rfl) fun a S => leafL ⟨rfl, S⟩
 ·refine fJ [(63, _), (67, _)] 11 [some 6, some 10] fun G a w S => ?_
  exact sBin _ S (wN rfl) rfl rfl rfl (bSub _ _ _ _ (w64 (r36.H - 1)) z60) rfl (lb rfl) fun a S => leafL ⟨rfl, S⟩
 ·exact fM 12 (some 3) rfl rfl rfl rfl (.inr rfl) rfl rfl rfl
 ·exact fM 13 (some 11) rfl rfl rfl rfl (.inr rfl) rfl rfl rfl
 refine leafT (hK57 _ _ ?_)
 refine sSeq (fun K62 hK62 => ?_)
 obtain ⟨t64, h, g65⟩ := bindSome h
 refine sCut (fun a w => ∃ o63, o63 = t64 ∧ St [] E [] w0 105 a w [(0, .string p0), (2, .pointer (some ⟨b2, 0, none⟩)), (4, iv o4), (5, .pointer (some ⟨b40, 0, none⟩)), (6, iv s45), (7, iv z58), (8, iv (w64 ((w64 (r36.H - 1)) - z60))), (94, .bool o63)] [eBox b2 24 [iv 0, iv 0, .slice none 0 0], eBox b40 24 [iv r36.W, iv r36.H, .slice ad38 s46.length cp39], eRow rB 4 (.slice ad38 s46.length cp39) s46] []) ?_ (fun a w hI => ?_)
 rotate_left
 ·obtain ⟨o63, rfl, S⟩ := hI
  have h := g65
  clear g65
  try dsimp only at h
  rcases iteSome h with ⟨hc71, h⟩ | ⟨hc71, h⟩
  ·refine sCondT S rfl hc71 ?_
   refine sSeq (fun K72 hK72 => ?_)
   refine sRegion ?_
   refine sBuild [] [iv 0, iv 0, .slice none 0 0] S (wN rfl) rfl rfl rfl rfl (lb rfl) fun a S => ?_
   refine sStore (p := b2) (off := 0) (T := 24) (vs := [iv 0, iv 0, .slice none 0 0]) (v := .agg #[iv 0, iv 0, .slice none 0 0]) 0 [iv 0, iv 0, .slice none 0 0] S (wN rfl) rfl rfl rfl rfl rfl rfl rfl (by simp) rfl fun a w S => ?_
   refine sMa S rfl rfl rfl rfl rfl fun a S => ?_
   refine lT (hK72 _ _ ?_)
   obtain rfl := Option.some.inj h
   have h := g56
   clear g56
   try dsimp only at h
   obtain rfl := Option.some.inj h
   obtain rfl := hu47 _ rfl
   have h := g48
   clear g48
   try dsimp only at h
   obtain rfl := Option.some.inj h
   have h := g43
   clear g43
   try dsimp only at h
   obtain rfl := Option.some.inj h
   have S := S.learn (fRep (rL rB) (.slice none 0 0) ([] : (List Bool))) (rL_nil _ _ _)
   have S := S.learn (fRep r_api_Grid (.agg #[iv 0, iv 0, .slice none 0 0]) (api_Grid.mk 0 0 ([] : (List Bool)))) ⟨_, rfl, S.mem.know (i := 0) (e := fRep (rL rB) (.slice none 0 0) ([] : (List Bool))) rfl⟩
   exact wp_ret (rThen (rBlock (rThen (rThen (rBlock (rThen (sRet (.tuple #[.agg #[iv 0, iv 0, .slice none 0 0], iv 12]) S (rsl2 rfl (rvN (c := 2) (t := 24) (T := 24) (p := b2) 0 [iv 0, iv 0, .slice none 0 0] S rfl rfl rfl rfl) (rvT (t := 3) (v := iv 12) S rfl)) ⟨(.agg #[iv 0, iv 0, .slice none 0 0]), rfl, S.mem.sel [] [0] (by decide) rfl rfl⟩)))))))
  refine sCondF S rfl hc71 ?_
  refine wp_skip (leafT (hK62 _ _ ?_))
  refine sSeq (fun K73 hK73 => ?_)
  refine sRegion ?_
  refine sMm S rfl rfl rfl rfl rfl fun a S => ?_
  refine sMm S rfl rfl rfl rfl rfl fun a S => ?_
  obtain ⟨x74, hx75, h⟩ := bindSome h
  refine sIndexS (v := p0) (j := s45) (k := .i64) S (wN rfl) rfl Try.underlying9 rfl rfl hx75 rfl (lb rfl) fun a S => ?_
  refine sBin _ S (wN rfl) rfl rfl rfl (bEq _ _ _ _ .u8 x74 120) rfl (lb rfl) fun a S => ?_
  refine lT (hK73 _ _ ?_)
  rcases iteSome h with ⟨hc76, h⟩ | ⟨hc76, h⟩
  rotate_left
  ·refine sCondF S rfl hc76 ?_
   exact wp_skip (leafB (leafT (⟨s46, Option.some.inj h, S.fix [0, 1, 2] [] (by decide) rfl rfl rfl⟩)))
  refine sCondT S rfl hc76 ?_
  refine sRegion ?_
  refine sLoadN (p := b40) (off := 0) (T := 24) (vs := [iv r36.W, iv r36.H, .slice ad38 s46.length cp39]) 1 [iv r36.W, iv r36.H, .slice ad38 s46.length cp39] S (wN rfl) rfl rfl rfl rfl rfl rfl rfl (lb rfl) fun a S => ?_
  refine sMm S rfl rfl rfl rfl rfl fun a S => ?_
  refine sMm S rfl rfl rfl rfl rfl fun a S => ?_
  obtain ⟨r77, hx78, h⟩ := bindSome h
  refine sCall (X := Unit) (f := 67) (vs := [.agg #[iv r36.W, iv r36.H, .slice ad38 s46.length cp39], iv z58, iv (w64 ((w64 (r36.H - 1)) - z60)), .bool true]) (val := fun _ => .tuple #[]) (B' := fun _ => [eRow rB 4 (.slice ad38 s46.length cp39) r77]) (D' := fun _ => []) [eRow rB 4 (.slice ad38 s46.length cp39) s46] [eBox b2 24 [iv 0, iv 0, .slice none 0 0], eBox b40 24 [iv r36.W, iv r36.H, .slice ad38 s46.length cp39]] [] [2, 0, 1] [] S (wN rfl) rfl callee67 rfl (by decide) rfl rfl (fun E1 w1 S1 => c_raddleref01_Set_s0 E1 w1 r36.W r36.H s46 ad38 cp39 z58 (w64 ((w64 (r36.H - 1)) - z60)) true r77 hx78 S1) rfl (lb rfl) fun _ a w S => ?_
  have hr79 := row_v (S.mem.hold (i := 0) (e := eRow rB 4 (.slice ad38 s46.length cp39) r77) rfl)
  rw [hr79] at S
  exact leafL (leafB (leafT (⟨r77, Option.some.inj h, S.fix [1, 2, 0] [] (by decide) rfl rfl rfl⟩)))
 refine sRegion ?_
 refine sMm S rfl rfl rfl rfl rfl fun a S => ?_
 refine sMm S rfl rfl rfl rfl rfl fun a S => ?_
 obtain ⟨x66, hx67, h⟩ := bindSome h
 refine sIndexS (v := p0) (j := s45) (k := .i64) S (wN rfl) rfl Try.underlying9 rfl rfl hx67 rfl (lb rfl) fun a S => ?_
 refine sBin _ S (wN rfl) rfl rfl rfl (bEq _ _ _ _ .u8 x66 10) rfl (lb rfl) fun a S => ?_
 refine sMm S rfl rfl rfl rfl rfl fun a S => ?_
 refine sMm S rfl rfl rfl rfl rfl fun a S => ?_
 refine sBin _ S (wN rfl) rfl rfl rfl (bEq _ _ _ _ .i64 z58 o4) rfl (lb rfl) fun a S => ?_
 refine sBin _ S (wN rfl) rfl rfl rfl (bNeB _ _ _ _ Try.underlying4 (x66 == 10) (z58 == o4)) rfl (lb rfl) fun a S => ?_
 refine sMm S rfl rfl rfl rfl rfl fun a S => ?_
 rcases iteSome h with ⟨hc68, h⟩ | ⟨hc68, h⟩
 ·refine sSkN 5 8 false 77 S rfl rfl hc68 rfl fun a S => ?_
  refine sSkipU 13 true 82 83 S rfl rfl rfl rfl (lb rfl) fun a S => ?_
  refine sSkipU 13 true 82 84 S rfl rfl rfl rfl (lb rfl) fun a S => ?_
  refine sSkipU 13 true 82 85 S rfl rfl rfl rfl (lb rfl) fun a S => ?_
  refine sSkipU 13 true 82 86 S rfl rfl rfl rfl (lb rfl) fun a S => ?_
  refine sSkN 2 8 false 77 S rfl rfl hc68 rfl fun a S => ?_
  refine sSkipU 19 true 88 89 S rfl rfl rfl rfl (lb rfl) fun a S => ?_
  refine sSkipU 19 true 88 90 S rfl rfl rfl rfl (lb rfl) fun a S => ?_
  refine sSkipU 19 true 88 91 S rfl rfl rfl rfl (lb rfl) fun a S => ?_
  refine sSkipU 19 true 88 92 S rfl rfl rfl rfl (lb rfl) fun a S => ?_
  refine sSk S rfl rfl rfl hc68 rfl rfl fun a S => ?_
  refine sPickT (.bool true) S (wN rfl) rfl rfl hc68 rfl rfl (lb rfl) fun a S => ?_
  exact lT (⟨true, Option.some.inj h, S.fix [0, 1, 2] [] (by decide) rfl rfl rfl⟩)
 refine sMove (.string p0) S (wG 8 false 77 rfl rfl rfl hc68) (.inl rfl) rfl rfl (lb rfl) fun a S => ?_
 refine sMove (iv s45) S (wG 8 false 77 rfl rfl rfl hc68) (.inl rfl) rfl rfl (lb rfl) fun a S => ?_
 refine sIndexS (v := p0) (j := s45) (k := .i64) S (wG 8 false 77 rfl rfl rfl hc68) rfl Try.underlying9 rfl rfl hx67 rfl (lb rfl) fun a S => ?_
 refine sBin _ S (wG 8 false 77 rfl rfl rfl hc68) rfl rfl rfl (bNe _ _ _ _ .u8 x66 10) rfl (lb rfl) fun a S => ?_
 refine sMove (.bool (x66 != 10)) S (wG 8 false 77 rfl rfl rfl hc68) (.inl rfl) rfl rfl (lb rfl) fun a S => ?_
 rcases iteSome h with ⟨hc69, h⟩ | ⟨hc69, h⟩
 rotate_left
 ·refine sSkN 4 13 true 82 S rfl rfl hc69 rfl fun a S => ?_
  refine sPickF (.bool false) S (wG 8 false 77 rfl rfl rfl hc68) rfl rfl hc69 rfl rfl (lb rfl) fun a S => ?_
  refine sMove (.bool false) S (wG 8 false 77 rfl rfl rfl hc68) (.inl rfl) rfl rfl (lb rfl) fun a S => ?_
  refine sSkN 4 19 true 88 S rfl rfl rfl rfl fun a S => ?_
  refine sPickF (.bool false) S (wG 8 false 77 rfl rfl rfl hc68) rfl rfl rfl rfl rfl (lb rfl) fun a S => ?_
  refine sPickF (.bool false) S (wN rfl) rfl rfl hc68 rfl rfl (lb rfl) fun a S => ?_
  exact lT (⟨false, Option.some.inj h, S.fix [0, 1, 2] [] (by decide) rfl rfl rfl⟩)
 refine sMove (.string p0) S (wG 13 true 82 rfl rfl rfl hc69) (.inl rfl) rfl rfl (lb rfl) fun a S => ?_
 refine sMove (iv s45) S (wG 13 true 82 rfl rfl rfl hc69) (.inl rfl) rfl rfl (lb rfl) fun a S => ?_
 refine sIndexS (v := p0) (j := s45) (k := .i64) S (wG 13 true 82 rfl rfl rfl hc69) rfl Try.underlying9 rfl rfl hx67 rfl (lb rfl) fun a S => ?_
 refine sBin _ S (wG 13 true 82 rfl rfl rfl hc69) rfl rfl rfl (bNe _ _ _ _ .u8 x66 120) rfl (lb rfl) fun a S => ?_
 refine sPickT (.bool (x66 != 120)) S (wG 8 false 77 rfl rfl rfl hc68) rfl rfl hc69 rfl rfl (lb rfl) fun a S => ?_
 refine sMove (.bool (x66 != 120)) S (wG 8 false 77 rfl rfl rfl hc68) (.inl rfl) rfl rfl (lb rfl) fun a S => ?_
 rcases iteSome h with ⟨hc70, h⟩ | ⟨hc70, h⟩
 rotate_left
 ·refine sSkN 4 19 true 88 S rfl rfl hc70 rfl fun a S => ?_
  refine sPickF (.bool false) S (wG 8 false 77 rfl rfl rfl hc68) rfl rfl hc70 rfl rfl (lb rfl) fun a S => ?_
  refine sPickF (.bool false) S (wN rfl) rfl rfl hc68 rfl rfl (lb rfl) fun a S => ?_
  exact lT (⟨false, Option.some.inj h, S.fix [0, 1, 2] [] (by decide) rfl rfl rfl⟩)
 refine sMove (.string p0) S (wG 19 true 88 rfl rfl rfl hc70) (.inl rfl) rfl rfl (lb rfl) fun a S => ?_
 refine sMove (iv s45) S (wG 19 true 88 rfl rfl rfl hc70) (.inl rfl) rfl rfl (lb rfl) fun a S => ?_
 refine sIndexS (v := p0) (j := s45) (k := .i64) S (wG 19 true 88 rfl rfl rfl hc70) rfl Try.underlying9 rfl rfl hx67 rfl (lb rfl) fun a S => ?_
 refine sBin _ S (wG 19 true 88 rfl rfl rfl hc70) rfl rfl rfl (bNe _ _ _ _ .u8 x66 46) rfl (lb rfl) fun a S => ?_
 refine sPickT (.bool (x66 != 46)) S (wG 8 false 77 rfl rfl rfl hc68) rfl rfl hc70 rfl rfl (lb rfl) fun a S => ?_
 refine sPickF (.bool (x66 != 46)) S (wN rfl) rfl rfl hc68 rfl rfl (lb rfl) fun a S => ?_
 exact lT (⟨x66 != 46, Option.some.inj h, S.fix [0, 1, 2] [] (by decide) rfl rfl rfl⟩)
end Go.Proofs.Ytffikfajljbmnaa
namespace Go.Proofs.Ytffikfajljbmnaa
open Go.RowKit
noncomputable def F_raddlelaw46_cloth (p0 : ByteArray) : Option api_Grid :=
 Option.bind (F_raddleref01_Parse p0) fun r4 =>
 some r4.1
def c_raddlelaw46_cloth_val (r : api_Grid) (x : Value) : Value := x
def c_raddlelaw46_cloth_D (r : api_Grid) (x : Value) : List Fact := [fRep r_api_Grid x r]
set_option maxHeartbeats 4000000 in
set_option maxRecDepth 100000 in
theorem c_raddlelaw46_cloth (E : Nat → Prop) (w0 : World) (p0 : ByteArray) (r : api_Grid) (h : F_raddlelaw46_cloth p0 = some r) (S : St0 E [] w0 w0 [] []) :
 Calls Try.prog 41 #[.string p0] w0 (Ret (X := Value) E [] w0 (c_raddlelaw46_cloth_val r) (fun _ => []) (c_raddlelaw46_cloth_D r)) := by
 unfold F_raddlelaw46_cloth at h
 refine sEnter (args := [.string p0]) 11 Try.func41 rfl rfl (by simp) S (fun a S => ?_)
 refine sSeq (fun K1 hK1 => ?_)
 refine sRegion ?_
 refine sAlloc (.agg #[iv 0, iv 0, .slice none 0 0]) S (wN rfl) rfl rfl [iv 0, iv 0, .slice none 0 0] rfl rfl (lb rfl) fun a b2 w S => ?_
 refine lT (hK1 _ _ ?_)
 refine sSeq (fun K3 hK3 => ?_)
 refine sRegion ?_
 refine sMm S rfl rfl rfl rfl rfl fun a S => ?_
 obtain ⟨r4, hx5, h⟩ := bindSome h
 refine sCall (X := Value) (f := 77) (vs := [.string p0]) (val := c_raddleref01_Parse_val r4) (B' := fun _ => []) (D' := c_raddleref01_Parse_D r4) [] [eBox b2 24 [iv 0, iv 0, .slice none 0 0]] [] [0] [] S (wN rfl) rfl callee77 rfl (by decide) rfl rfl (fun E1 w1 S1 => c_raddleref01_Parse E1 w1 p0 r4 hx5 S1) rfl (lb rfl) fun u6 a w S => ?_
 obtain ⟨u7, rfl, hu8⟩ := S.mem.know (i := 0) (e := fRep r_api_Grid (u6) r4.1) rfl
 have S := S.learn (fRep (rL rB) u7 r4.1.Bits) hu8
 obtain ⟨ad9, cp10, _, rfl, _⟩ := hu8
 refine sMm S rfl rfl rfl rfl rfl fun a S => ?_
 refine sExtract (vs := [.agg #[iv r4.1.W, iv r4.1.H, .slice ad9 r4.1.Bits.length cp10], iv r4.2]) (.agg #[iv r4.1.W, iv r4.1.H, .slice ad9 r4.1.Bits.length cp10]) S (wN rfl) rfl rfl rfl rfl (lb rfl) fun a S => ?_
 refine sExtract (vs := [.agg #[iv r4.1.W, iv r4.1.H, .slice ad9 r4.1.Bits.length cp10], iv r4.2]) (iv r4.2) S (wN rfl) rfl rfl rfl rfl (lb rfl) fun a S => ?_
 refine sAlloc (.agg #[iv 0, iv 0, .slice none 0 0]) S (wN rfl) rfl rfl [iv 0, iv 0, .slice none 0 0] rfl rfl (lb rfl) fun a b11 w S => ?_
 refine sStore (p := b11) (off := 0) (T := 24) (vs := [iv 0, iv 0, .slice none 0 0]) (v := .agg #[iv r4.1.W, iv r4.1.H, .slice ad9 r4.1.Bits.length cp10]) 0 [iv r4.1.W, iv r4.1.H, .slice ad9 r4.1.Bits.length cp10] S (wN rfl) rfl rfl rfl rfl rfl rfl rfl (by simp) rfl fun a w S => ?_
 refine sMa S rfl rfl rfl rfl rfl fun a S => ?_
 refine lT (hK3 _ _ ?_)
 refine sSeq (fun K12 hK12 => ?_)
 refine sRegion ?_
 refine sLoadN (p := b11) (off := 0) (T := 24) (vs := [iv r4.1.W, iv r4.1.H, .slice ad9 r4.1.Bits.length cp10]) 0 [iv r4.1.W, iv r4.1.H, .slice ad9 r4.1.Bits.length cp10] S (wN rfl) rfl rfl rfl rfl rfl rfl rfl (lb rfl) fun a S => ?_
 refine sStore (p := b2) (off := 0) (T := 24) (vs := [iv 0, iv 0, .slice none 0 0]) (v := .agg #[iv r4.1.W, iv r4.1.H, .slice ad9 r4.1.Bits.length cp10]) 1 [iv r4.1.W, iv r4.1.H, .slice ad9 r4.1.Bits.length cp10] S (wN rfl) rfl rfl rfl rfl rfl rfl rfl (by simp) rfl fun a w S => ?_
 refine lT (hK12 _ _ ?_)
 obtain rfl := Option.some.inj h
 exact wp_ret (sRet (.agg #[iv r4.1.W, iv r4.1.H, .slice ad9 r4.1.Bits.length cp10]) S (rsl1 rfl (rvN (c := 2) (t := 24) (T := 24) (p := b2) 0 [iv r4.1.W, iv r4.1.H, .slice ad9 r4.1.Bits.length cp10] S rfl rfl rfl rfl)) ⟨(.agg #[iv r4.1.W, iv r4.1.H, .slice ad9 r4.1.Bits.length cp10]), rfl, S.mem.sel [] [1] (by decide) rfl rfl⟩)
end Go.Proofs.Ytffikfajljbmnaa
namespace Go.Proofs.Ytffikfajljbmnaa
open Go.RowKit
noncomputable def raddleref25_Cut_l1 (p0 : ByteArray) (p1 : Int) : (List ByteArray × Int × Int) → Option ((List ByteArray × Int × Int) ⊕ List ByteArray) := fun s0 => match s0 with
 | (s10, s13, s14) =>
  if decide (s14 ≤ (p0.size : Int)) then
   Option.bind (α := (List ByteArray × Int)) (
    Option.bind (α := Bool) (
     if s14 == (p0.size : Int) then
      some true
     else
      Option.bind (idxS p0 s14) fun x34 =>
      some (x34 == p1)) fun o30 =>
    if o30 then
     Option.bind (sliceS p0 s13 s14) fun y38 =>
     Option.bind (appO s10 [y38]) fun l42 =>
     some (l42, w64 (s14 + 1))
    else
     some (s10, s13)) fun (o24, o27) =>
   some (.inl (o24, o27, w64 (s14 + 1)))
  else
   some (.inr s10)
noncomputable def F_raddleref25_Cut (p0 : ByteArray) (p1 : Int) : Option (List ByteArray) :=
 Option.bind (α := List ByteArray) (
  Option.bind (whileO (raddleref25_Cut_l1 p0 p1) (([] : List ByteArray), 0, 0)) fun e18 =>
   some e18) fun o4 =>
 some o4
def c_raddleref25_Cut_val (r : (List ByteArray)) (x : Value) : Value := x
def c_raddleref25_Cut_D (r : (List ByteArray)) (x : Value) : List Fact := [fRep (rL rS) x r]
set_option maxHeartbeats 4000000 in
set_option maxRecDepth 100000 in
theorem c_raddleref25_Cut (E : Nat → Prop) (w0 : World) (p0 : ByteArray) (p1 : Int) (r : (List ByteArray)) (h : F_raddleref25_Cut p0 p1 = some r) (S : St0 E [] w0 w0 [] []) :
 Calls Try.prog 94 #[.string p0, .int .u8 p1] w0 (Ret (X := Value) E [] w0 (c_raddleref25_Cut_val r) (fun _ => []) (c_raddleref25_Cut_D r)) := by
 unfold F_raddleref25_Cut at h
 refine sEnter (args := [.string p0, .int .u8 p1]) 35 Try.func94 rfl rfl (by simp) S (fun a S => ?_)
 refine sSeq (fun K1 hK1 => ?_)
 refine sRegion ?_
 refine sMa S rfl rfl rfl rfl rfl fun a S => ?_
 refine lT (hK1 _ _ ?_)
 refine sSeq (fun K2 hK2 => ?_)
 refine sRegion ?_
 refine sMa S rfl rfl rfl rfl rfl fun a S => ?_
 refine lT (hK2 _ _ ?_)
 refine sSeq (fun K3 hK3 => ?_)
 refine sRegion ?_
 refine sMa S rfl rfl rfl rfl rfl fun a S => ?_
 refine lT (hK3 _ _ ?_)
 obtain ⟨t7, h, g8⟩ := bindSome h
 refine sCut (fun a w => ∃ o4, o4 = t7 ∧ ∃ ad5, ∃ cp6, St [] E [] w0 35 a w [(5, .slice ad5 o4.length cp6)] [eRow rS 9 (.slice ad5 o4.length cp6) o4] []) ?_ (fun a w hI => ?_)
 rotate_left
 ·obtain ⟨o4, rfl, ad5, cp6, S⟩ := hI
  have h := g8
  clear g8
  try dsimp only at h
  refine sSeq (fun K46 hK46 => ?_)
  refine sRegion ?_
  refine sMm S rfl rfl rfl rfl rfl fun a S => ?_
  refine sMa S rfl rfl rfl rfl rfl fun a S => ?_
  refine lT (hK46 _ _ ?_)
  obtain rfl := Option.some.inj h
  have S := S.shutR (r := rS) (T := 9) (v := .slice ad5 o4.length cp6) (xs := o4) 0 rfl
  exact wp_ret (sRet (.slice ad5 o4.length cp6) S (rsl1 rfl (rvT (t := 4) (v := .slice ad5 o4.length cp6) S rfl)) ⟨(.slice ad5 o4.length cp6), rfl, S.mem.sel [] [0] (by decide) rfl rfl⟩)
 refine sSeq (fun K9 hK9 => ?_)
 refine sRegion ?_
 refine sMa S rfl rfl rfl rfl rfl fun a S => ?_
 refine lT (hK9 _ _ ?_)
 refine wp_block ?_
 have S := S.nilRow rS 9 (α := ByteArray)
 obtain ⟨t17, hl, g16⟩ := bindSome h
 refine sLoop hl (fun s0 a w => match s0 with | (s10, s13, s14) => ∃ ad11, ∃ cp12, St [] E [] w0 35 a w [(0, .string p0), (1, .int .u8 p1), (5, .slice ad11 s10.length cp12), (6, iv s13), (7, iv s14)] [eRow rS 9 (.slice ad11 s10.length cp12) s10] []) ⟨none, 0, S.fix [0] [] (by decide) rfl rfl rfl⟩ ?_
 clear hl h
 intro s0 a w c0 hI h hu15
 obtain ⟨s10, s13, s14⟩ := s0
 unfold raddleref25_Cut_l1 at h
 dsimp only at h hI
 obtain ⟨ad11, cp12, S⟩ := hI
 refine sSeq (fun K21 hK21 => ?_)
 refine sSeq (fun K22 hK22 => ?_)
 refine sRegion ?_
 refine sMm S rfl rfl rfl rfl rfl fun a S => ?_
 refine sMm S rfl rfl rfl rfl rfl fun a S => ?_
 refine sLenS (v := p0) S (wN rfl) rfl Try.underlying9 rfl rfl (lb rfl) fun a S => ?_
 refine sBin _ S (wN rfl) rfl rfl rfl (bLe _ _ _ _ .i64 s14 (p0.size : Int)) rfl (lb rfl) fun a S => ?_
 refine lT (hK22 _ _ ?_)
 rcases iteSome h with ⟨hc23, h⟩ | ⟨hc23, h⟩
 rotate_left
 ·refine sCondF S rfl hc23 ?_
  obtain rfl := Option.some.inj h
  obtain rfl := hu15 _ rfl
  have h := g16
  clear g16
  try dsimp only at h
  exact wp_exit (xThen (xThen (xHit (leafT (⟨s10, Option.some.inj h, ad11, cp12, S.fix [0] [] (by decide) rfl rfl rfl⟩)))))
 refine sCondT S rfl hc23 ?_
 refine wp_skip (leafT (hK21 _ _ ?_))
 obtain ⟨t28, h, g29⟩ := bindSome h
 refine sCut (fun a w => ∃ o24, ∃ o27, (o24, o27) = t28 ∧ ∃ ad25, ∃ cp26, St [] E [] w0 35 a w [(0, .string p0), (1, .int .u8 p1), (5, .slice ad25 o24.length cp26), (6, iv o27), (7, iv s14)] [eRow rS 9 (.slice ad25 o24.length cp26) o24] []) ?_ (fun a w hI => ?_)
 rotate_left
 ·obtain ⟨o24, o27, rfl, ad25, cp26, S⟩ := hI
  have h := g29
  clear g29
  try dsimp only at h
  refine sRegion ?_
  refine sMm S rfl rfl rfl rfl rfl fun a S => ?_
  refine sBin _ S (wN rfl) rfl rfl rfl (bAdd _ _ _ _ s14 1) rfl (lb rfl) fun a S => ?_
  refine sMa S rfl rfl rfl rfl rfl fun a S => ?_
  exact lT (⟨(o24, o27, w64 (s14 + 1)), (Option.some.inj h).symm, ⟨ad25, cp26, S.fix [0] [] (by decide) rfl rfl rfl⟩⟩)
 refine wp_block ?_
 obtain ⟨t31, h, g32⟩ := bindSome h
 refine sCut (fun a w => ∃ o30, o30 = t31 ∧ St [] E [] w0 35 a w [(0, .string p0), (1, .int .u8 p1), (5, .slice ad11 s10.length cp12), (6, iv s13), (7, iv s14), (24, .bool o30)] [eRow rS 9 (.slice ad11 s10.length cp12) s10] []) ?_ (fun a w hI => ?_)
 ·refine sRegion ?_
  refine sMm S rfl rfl rfl rfl rfl fun a S => ?_
  refine sMm S rfl rfl rfl rfl rfl fun a S => ?_
  refine sLenS (v := p0) S (wN rfl) rfl Try.underlying9 rfl rfl (lb rfl) fun a S => ?_
  refine sBin _ S (wN rfl) rfl rfl rfl (bEq _ _ _ _ .i64 s14 (p0.size : Int)) rfl (lb rfl) fun a S => ?_
  refine sMm S rfl rfl rfl rfl rfl fun a S => ?_
  rcases iteSome h with ⟨hc33, h⟩ | ⟨hc33, h⟩
  ·refine sSkN 5 4 false 18 S rfl rfl hc33 rfl fun a S => ?_
   refine sPickT (.bool true) S (wN rfl) rfl rfl hc33 rfl rfl (lb rfl) fun a S => ?_
   exact lT (⟨true, Option.some.inj h, S.fix [0] [] (by decide) rfl rfl rfl⟩)
  refine sMove (.string p0) S (wG 4 false 18 rfl rfl rfl hc33) (.inl rfl) rfl rfl (lb rfl) fun a S => ?_
  refine sMove (iv s14) S (wG 4 false 18 rfl rfl rfl hc33) (.inl rfl) rfl rfl (lb rfl) fun a S => ?_
  obtain ⟨x34, hx35, h⟩ := bindSome h
  refine sIndexS (v := p0) (j := s14) (k := .i64) S (wG 4 false 18 rfl rfl rfl hc33) rfl Try.underlying9 rfl rfl hx35 rfl (lb rfl) fun a S => ?_
  refine sMove (.int .u8 p1) S (wG 4 false 18 rfl rfl rfl hc33) (.inl rfl) rfl rfl (lb rfl) fun a S => ?_
  refine sBin _ S (wG 4 false 18 rfl rfl rfl hc33) rfl rfl rfl (bEq _ _ _ _ .u8 x34 p1) rfl (lb rfl) fun a S => ?_
  refine sPickF (.bool (x34 == p1)) S (wN rfl) rfl rfl hc33 rfl rfl (lb rfl) fun a S => ?_
  exact lT (⟨x34 == p1, Option.some.inj h, S.fix [0] [] (by decide) rfl rfl rfl⟩)
 obtain ⟨o30, rfl, S⟩ := hI
 have h := g32
 clear g32
 try dsimp only at h
 rcases iteSome h with ⟨hc36, h⟩ | ⟨hc36, h⟩
 rotate_left
 ·refine sCondF S rfl hc36 ?_
  exact wp_skip (leafB (leafT (⟨s10, s13, Option.some.inj h, ad11, cp12, S.fix [0] [] (by decide) rfl rfl rfl⟩)))
 refine sCondT S rfl hc36 ?_
 refine sSeq (fun K37 hK37 => ?_)
 refine sRegion ?_
 refine sMm S rfl rfl rfl rfl rfl fun a S => ?_
 refine sMm S rfl rfl rfl rfl rfl fun a S => ?_
 refine sMm S rfl rfl rfl rfl rfl fun a S => ?_
 refine sMm S rfl rfl rfl rfl rfl fun a S => ?_
 obtain ⟨y38, hx39, h⟩ := bindSome h
 refine sSliceS (v := p0) (u := y38) (vlo := (some (.int .i64 s13))) (vhi := (some (.int .i64 s14))) (lo' := s13) (hi' := s14) S (wN rfl) rfl Try.underlying9 rfl rfl rfl (.inl rfl) (.inl rfl) hx39 rfl (lb rfl) fun a S => ?_
 refine sLit (r := rS) (T := 9) (xs := [y38]) [(0, .string y38)] 1 [.string y38] [.string y38] (.string (⟨#[]⟩ : ByteArray)) 16 S (wN rfl) rfl rfl Try.underlying142 rfl (by decide) (by decide) (by kernel_rfl) rfl (fun E1 w1 hE => All.cons rfl (All.nil _ _ _)) rfl rfl (lb rfl) fun a w ad40 cp41 S => ?_
 obtain ⟨l42, hx43, h⟩ := bindSome h
 refine sApp (r := rS) (T := 9) (xs := s10) (ys := [y38]) (v := .slice ad11 s10.length cp12) (u := .slice ad40 [y38].length cp41) 1 (.string (⟨#[]⟩ : ByteArray)) 16 S (wN rfl) rfl Try.underlying142 rfl rfl (by decide) rfl rfl rfl (src_R (T := 9) 0 S.mem rfl) hx43 rfl (lb rfl) fun a w ad44 cp45 S => ?_
 refine sMa S rfl rfl rfl rfl rfl fun a S => ?_
 refine lT (hK37 _ _ ?_)
 refine sRegion ?_
 refine sMm S rfl rfl rfl rfl rfl fun a S => ?_
 refine sBin _ S (wN rfl) rfl rfl rfl (bAdd _ _ _ _ s14 1) rfl (lb rfl) fun a S => ?_
 refine sMa S rfl rfl rfl rfl rfl fun a S => ?_
 exact leafL (leafB (leafT (⟨l42, w64 (s14 + 1), Option.some.inj h, ad44, cp45, S.fix [0] [] (by decide) rfl rfl rfl⟩)))
end Go.Proofs.Ytffikfajljbmnaa
namespace Go.Proofs.Ytffikfajljbmnaa
open Go.RowKit
noncomputable def raddleref25_Number_l1 (p0 : ByteArray) : (Int × Int) → Option ((Int × Int) ⊕ ((Int × Bool) ⊕ Int)) := fun s0 => match s0 with
 | (s18, s19) =>
  if decide (s19 < (p0.size : Int)) then
   Option.bind (α := Bool) (
    Option.bind (idxS p0 s19) fun x32 =>
    if decide (x32 < 48) then
     some true
    else
     some (decide (57 < x32))) fun o29 =>
   if o29 then
    some (.inr (.inl (0, false)))
   else
    Option.bind (idxS p0 s19) fun x37 =>
    some (.inl (w64 ((w64 (10 * s18)) + (IntKind.i64.wrap (IntKind.u8.wrap (x37 - 48)))), w64 (s19 + 1)))
  else
   some (.inr (.inr s18))
noncomputable def F_raddleref25_Number (p0 : ByteArray) : Option (Int × Bool) :=
 Option.bind (α := Bool) (
  if (p0.size : Int) == 0 then
   some true
  else
   if decide (4 < (p0.size : Int)) then
    some true
   else
    if decide (1 < (p0.size : Int)) then
     Option.bind (idxS p0 0) fun x9 =>
     some (x9 == 48)
    else
     some false) fun o3 =>
 if o3 then
  some (0, false)
 else
  Option.bind (α := Int ⊕ (Int × Bool)) (
   Option.bind (whileO (raddleref25_Number_l1 p0) (0, 0)) fun z0 => match z0 with
    | .inl z =>
     some (.inr z)
    | .inr e23 =>
     some (.inl e23)) fun z0 => match z0 with
   | .inl o14 =>
    some (o14, true)
   | .inr z =>
    some z
set_option maxHeartbeats 4000000 in
set_option maxRecDepth 100000 in
theorem c_raddleref25_Number (E : Nat → Prop) (w0 : World) (p0 : ByteArray) (r : (Int × Bool)) (h : F_raddleref25_Number p0 = some r) (S : St0 E [] w0 w0 [] []) :
 Calls Try.prog 97 #[.string p0] w0 (Ret (X := Unit) E [] w0 (fun _ => .tuple #[.int .i64 r.1, .bool r.2]) (fun _ => []) (fun _ => [])) := by
 unfold F_raddleref25_Number at h
 refine sEnter (args := [.string p0]) 49 Try.func97 rfl rfl (by simp) S (fun a S => ?_)
 refine sSeq (fun K1 hK1 => ?_)
 refine sRegion ?_
 refine sMa S rfl rfl rfl rfl rfl fun a S => ?_
 refine sMa S rfl rfl rfl rfl rfl fun a S => ?_
 refine lT (hK1 _ _ ?_)
 refine sSeq (fun K2 hK2 => ?_)
 obtain ⟨t4, h, g5⟩ := bindSome h
 refine sCut (fun a w => ∃ o3, o3 = t4 ∧ St [] E [] w0 49 a w [(0, .string p0), (23, .bool o3)] [] []) ?_ (fun a w hI => ?_)
 ·refine sRegion ?_
  refine sMm S rfl rfl rfl rfl rfl fun a S => ?_
  refine sLenS (v := p0) S (wN rfl) rfl Try.underlying9 rfl rfl (lb rfl) fun a S => ?_
  refine sBin _ S (wN rfl) rfl rfl rfl (bEq _ _ _ _ .i64 (p0.size : Int) 0) rfl (lb rfl) fun a S => ?_
  refine sMm S rfl rfl rfl rfl rfl fun a S => ?_
  rcases iteSome h with ⟨hc6, h⟩ | ⟨hc6, h⟩
  ·refine sSkN 3 3 false 9 S rfl rfl hc6 rfl fun a S => ?_
   refine sPickT (.bool true) S (wN rfl) rfl rfl hc6 rfl rfl (lb rfl) fun a S => ?_
   refine sMm S rfl rfl rfl rfl rfl fun a S => ?_
   refine sSkN 4 8 false 14 S rfl rfl rfl rfl fun a S => ?_
   refine sSkipU 12 true 18 19 S rfl rfl rfl rfl (lb rfl) fun a S => ?_
   refine sSkipU 12 true 18 20 S rfl rfl rfl rfl (lb rfl) fun a S => ?_
   refine sSkipU 12 true 18 21 S rfl rfl rfl rfl (lb rfl) fun a S => ?_
   refine sSk S rfl rfl rfl rfl rfl rfl fun a S => ?_
   refine sPickT (.bool true) S (wN rfl) rfl rfl rfl rfl rfl (lb rfl) fun a S => ?_
   exact lT (⟨true, Option.some.inj h, S.fix [] [] (by decide) rfl rfl rfl⟩)
  refine sMove (.string p0) S (wG 3 false 9 rfl rfl rfl hc6) (.inl rfl) rfl rfl (lb rfl) fun a S => ?_
  refine sLenS (v := p0) S (wG 3 false 9 rfl rfl rfl hc6) rfl Try.underlying9 rfl rfl (lb rfl) fun a S => ?_
  refine sBin _ S (wG 3 false 9 rfl rfl rfl hc6) rfl rfl rfl (bGt _ _ _ _ .i64 (p0.size : Int) 4) rfl (lb rfl) fun a S => ?_
  refine sPickF (.bool (decide (4 < (p0.size : Int)))) S (wN rfl) rfl rfl hc6 rfl rfl (lb rfl) fun a S => ?_
  refine sMm S rfl rfl rfl rfl rfl fun a S => ?_
  rcases iteSome h with ⟨hc7, h⟩ | ⟨hc7, h⟩
  ·refine sSkN 4 8 false 14 S rfl rfl hc7 rfl fun a S => ?_
   refine sSkipU 12 true 18 19 S rfl rfl rfl rfl (lb rfl) fun a S => ?_
   refine sSkipU 12 true 18 20 S rfl rfl rfl rfl (lb rfl) fun a S => ?_
   refine sSkipU 12 true 18 21 S rfl rfl rfl rfl (lb rfl) fun a S => ?_
   refine sSk S rfl rfl rfl hc7 rfl rfl fun a S => ?_
   refine sPickT (.bool true) S (wN rfl) rfl rfl hc7 rfl rfl (lb rfl) fun a S => ?_
   exact lT (⟨true, Option.some.inj h, S.fix [] [] (by decide) rfl rfl rfl⟩)
  refine sMove (.string p0) S (wG 8 false 14 rfl rfl rfl hc7) (.inl rfl) rfl rfl (lb rfl) fun a S => ?_
  refine sLenS (v := p0) S (wG 8 false 14 rfl rfl rfl hc7) rfl Try.underlying9 rfl rfl (lb rfl) fun a S => ?_
  refine sBin _ S (wG 8 false 14 rfl rfl rfl hc7) rfl rfl rfl (bGt _ _ _ _ .i64 (p0.size : Int) 1) rfl (lb rfl) fun a S => ?_
  refine sMove (.bool (decide (1 < (p0.size : Int)))) S (wG 8 false 14 rfl rfl rfl hc7) (.inl rfl) rfl rfl (lb rfl) fun a S => ?_
  rcases iteSome h with ⟨hc8, h⟩ | ⟨hc8, h⟩
  rotate_left
  ·refine sSkN 3 12 true 18 S rfl rfl hc8 rfl fun a S => ?_
   refine sPickF (.bool false) S (wG 8 false 14 rfl rfl rfl hc7) rfl rfl hc8 rfl rfl (lb rfl) fun a S => ?_
   refine sPickF (.bool false) S (wN rfl) rfl rfl hc7 rfl rfl (lb rfl) fun a S => ?_
   exact lT (⟨false, Option.some.inj h, S.fix [] [] (by decide) rfl rfl rfl⟩)
  refine sMove (.string p0) S (wG 12 true 18 rfl rfl rfl hc8) (.inl rfl) rfl rfl (lb rfl) fun a S => ?_
  obtain ⟨x9, hx10, h⟩ := bindSome h
  refine sIndexS (v := p0) (j := 0) (k := .i64) S (wG 12 true 18 rfl rfl rfl hc8) rfl Try.underlying9 rfl rfl hx10 rfl (lb rfl) fun a S => ?_
  refine sBin _ S (wG 12 true 18 rfl rfl rfl hc8) rfl rfl rfl (bEq _ _ _ _ .u8 x9 48) rfl (lb rfl) fun a S => ?_
  refine sPickT (.bool (x9 == 48)) S (wG 8 false 14 rfl rfl rfl hc7) rfl rfl hc8 rfl rfl (lb rfl) fun a S => ?_
  refine sPickF (.bool (x9 == 48)) S (wN rfl) rfl rfl hc7 rfl rfl (lb rfl) fun a S => ?_
  exact lT (⟨x9 == 48, Option.some.inj h, S.fix [] [] (by decide) rfl rfl rfl⟩)
 obtain ⟨o3, rfl, S⟩ := hI
 have h := g5
 clear g5
 try dsimp only at h
 rcases iteSome h with ⟨hc11, h⟩ | ⟨hc11, h⟩
 ·refine sCondT S rfl hc11 ?_
  refine sSeq (fun K12 hK12 => ?_)
  refine sRegion ?_
  refine sMa S rfl rfl rfl rfl rfl fun a S => ?_
  refine sMa S rfl rfl rfl rfl rfl fun a S => ?_
  refine lT (hK12 _ _ ?_)
  obtain rfl := Option.some.inj h
  exact wp_ret (rThen (sRet (.tuple #[iv 0, .bool false]) S (rsl2 rfl (rvT (t := 2) (v := iv 0) S rfl) (rvT (t := 3) (v := .bool false) S rfl)) ⟨(), rfl, S.mem.sel [] [] (by decide) rfl rfl⟩))
 refine sCondF S rfl hc11 ?_
 refine wp_skip (leafT (hK2 _ _ ?_))
 refine sSeq (fun K13 hK13 => ?_)
 refine sRegion ?_
 refine sMa S rfl rfl rfl rfl rfl fun a S => ?_
 refine lT (hK13 _ _ ?_)
 obtain ⟨t15, h, g16⟩ := bindSome h
 refine sCut (fun a w => ∃ o14, .inl o14 = t15 ∧ St [] E [] w0 49 a w [(4, iv o14)] [] []) ?_ (fun a w hI => ?_)
 rotate_left
 ·obtain ⟨o14, rfl, S⟩ := hI
  have h := g16
  clear g16
  try dsimp only at h
  refine sSeq (fun K39 hK39 => ?_)
  refine sRegion ?_
  refine sMm S rfl rfl rfl rfl rfl fun a S => ?_
  refine sMa S rfl rfl rfl rfl rfl fun a S => ?_
  refine sMa S rfl rfl rfl rfl rfl fun a S => ?_
  refine lT (hK39 _ _ ?_)
  obtain rfl := Option.some.inj h
  exact wp_ret (sRet (.tuple #[iv o14, .bool true]) S (rsl2 rfl (rvT (t := 2) (v := iv o14) S rfl) (rvT (t := 3) (v := .bool true) S rfl)) ⟨(), rfl, S.mem.sel [] [] (by decide) rfl rfl⟩)
 refine sSeq (fun K17 hK17 => ?_)
 refine sRegion ?_
 refine sMa S rfl rfl rfl rfl rfl fun a S => ?_
 refine lT (hK17 _ _ ?_)
 refine wp_block ?_
 obtain ⟨t22, hl, g21⟩ := bindSome h
 refine sLoop hl (fun s0 a w => match s0 with | (s18, s19) => St [] E [] w0 49 a w [(0, .string p0), (4, iv s18), (5, iv s19)] [] []) (S.fix [] [] (by decide) rfl rfl rfl) ?_
 clear hl h
 intro s0 a w c0 hI h hu20
 obtain ⟨s18, s19⟩ := s0
 unfold raddleref25_Number_l1 at h
 dsimp only at h hI
 have S := hI
 refine sSeq (fun K24 hK24 => ?_)
 refine sSeq (fun K25 hK25 => ?_)
 refine sRegion ?_
 refine sMm S rfl rfl rfl rfl rfl fun a S => ?_
 refine sMm S rfl rfl rfl rfl rfl fun a S => ?_
 refine sLenS (v := p0) S (wN rfl) rfl Try.underlying9 rfl rfl (lb rfl) fun a S => ?_
 refine sBin _ S (wN rfl) rfl rfl rfl (bLt _ _ _ _ .i64 s19 (p0.size : Int)) rfl (lb rfl) fun a S => ?_
 refine lT (hK25 _ _ ?_)
 rcases iteSome h with ⟨hc26, h⟩ | ⟨hc26, h⟩
 rotate_left
 ·refine sCondF S rfl hc26 ?_
  obtain rfl := Option.some.inj h
  obtain rfl := hu20 _ rfl
  have h := g21
  clear g21
  try dsimp only at h
  exact wp_exit (xThen (xThen (xHit (leafT (⟨s18, Option.some.inj h, S.fix [] [] (by decide) rfl rfl rfl⟩)))))
 refine sCondT S rfl hc26 ?_
 refine wp_skip (leafT (hK24 _ _ ?_))
 refine sSeq (fun K27 hK27 => ?_)
 refine wp_block ?_
 refine sSeq (fun K28 hK28 => ?_)
 obtain ⟨t30, h, g31⟩ := bindSome h
 refine sCut (fun a w => ∃ o29, o29 = t30 ∧ St [] E [] w0 49 a w [(0, .string p0), (4, iv s18), (5, iv s19), (39, .bool o29)] [] []) ?_ (fun a w hI => ?_)
 ·refine sRegion ?_
  refine sMm S rfl rfl rfl rfl rfl fun a S => ?_
  refine sMm S rfl rfl rfl rfl rfl fun a S => ?_
  obtain ⟨x32, hx33, h⟩ := bindSome h
  refine sIndexS (v := p0) (j := s19) (k := .i64) S (wN rfl) rfl Try.underlying9 rfl rfl hx33 rfl (lb rfl) fun a S => ?_
  refine sBin _ S (wN rfl) rfl rfl rfl (bLt _ _ _ _ .u8 x32 48) rfl (lb rfl) fun a S => ?_
  refine sMm S rfl rfl rfl rfl rfl fun a S => ?_
  rcases iteSome h with ⟨hc34, h⟩ | ⟨hc34, h⟩
  ·refine sSkN 4 4 false 34 S rfl rfl hc34 rfl fun a S => ?_
   refine sPickT (.bool true) S (wN rfl) rfl rfl hc34 rfl rfl (lb rfl) fun a S => ?_
   exact lT (⟨true, Option.some.inj h, S.fix [] [] (by decide) rfl rfl rfl⟩)
  refine sMove (.string p0) S (wG 4 false 34 rfl rfl rfl hc34) (.inl rfl) rfl rfl (lb rfl) fun a S => ?_
  refine sMove (iv s19) S (wG 4 false 34 rfl rfl rfl hc34) (.inl rfl) rfl rfl (lb rfl) fun a S => ?_
  refine sIndexS (v := p0) (j := s19) (k := .i64) S (wG 4 false 34 rfl rfl rfl hc34) rfl Try.underlying9 rfl rfl hx33 rfl (lb rfl) fun a S => ?_
  refine sBin _ S (wG 4 false 34 rfl rfl rfl hc34) rfl rfl rfl (bGt _ _ _ _ .u8 x32 57) rfl (lb rfl) fun a S => ?_
  refine sPickF (.bool (decide (57 < x32))) S (wN rfl) rfl rfl hc34 rfl rfl (lb rfl) fun a S => ?_
  exact lT (⟨decide (57 < x32), Option.some.inj h, S.fix [] [] (by decide) rfl rfl rfl⟩)
 obtain ⟨o29, rfl, S⟩ := hI
 have h := g31
 clear g31
 try dsimp only at h
 rcases iteSome h with ⟨hc35, h⟩ | ⟨hc35, h⟩
 ·refine sCondT S rfl hc35 ?_
  refine sSeq (fun K36 hK36 => ?_)
  refine sRegion ?_
  refine sMa S rfl rfl rfl rfl rfl fun a S => ?_
  refine sMa S rfl rfl rfl rfl rfl fun a S => ?_
  refine lT (hK36 _ _ ?_)
  obtain rfl := Option.some.inj h
  obtain rfl := hu20 _ rfl
  have h := g21
  clear g21
  try dsimp only at h
  obtain rfl := Option.some.inj h
  have h := g16
  clear g16
  try dsimp only at h
  obtain rfl := Option.some.inj h
  exact wp_ret (rThen (rBlock (rThen (rThen (rBlock (rThen (sRet (.tuple #[iv 0, .bool false]) S (rsl2 rfl (rvT (t := 2) (v := iv 0) S rfl) (rvT (t := 3) (v := .bool false) S rfl)) ⟨(), rfl, S.mem.sel [] [] (by decide) rfl rfl⟩)))))))
 refine sCondF S rfl hc35 ?_
 refine wp_skip (leafT (hK28 _ _ ?_))
 refine sRegion ?_
 refine sMm S rfl rfl rfl rfl rfl fun a S => ?_
 refine sBin _ S (wN rfl) rfl rfl rfl (bMul _ _ _ _ 10 s18) rfl (lb rfl) fun a S => ?_
 refine sMm S rfl rfl rfl rfl rfl fun a S => ?_
 refine sMm S rfl rfl rfl rfl rfl fun a S => ?_
 obtain ⟨x37, hx38, h⟩ := bindSome h
 refine sIndexS (v := p0) (j := s19) (k := .i64) S (wN rfl) rfl Try.underlying9 rfl rfl hx38 rfl (lb rfl) fun a S => ?_
 refine sBin _ S (wN rfl) rfl rfl rfl (bSubK _ _ _ _ .u8 x37 48) rfl (lb rfl) fun a S => ?_
 refine sConv (k := .u8) (k2 := .i64) (b := IntKind.u8.wrap (x37 - 48)) S (wN rfl) rfl Try.underlying5 Try.underlying3 rfl rfl (lb rfl) fun a S => ?_
 refine sBin _ S (wN rfl) rfl rfl rfl (bAdd _ _ _ _ (w64 (10 * s18)) (IntKind.i64.wrap (IntKind.u8.wrap (x37 - 48)))) rfl (lb rfl) fun a S => ?_
 refine sMa S rfl rfl rfl rfl rfl fun a S => ?_
 refine leafL (leafB (leafT (hK27 _ _ ?_)))
 refine sRegion ?_
 refine sMm S rfl rfl rfl rfl rfl fun a S => ?_
 refine sBin _ S (wN rfl) rfl rfl rfl (bAdd _ _ _ _ s19 1) rfl (lb rfl) fun a S => ?_
 refine sMa S rfl rfl rfl rfl rfl fun a S => ?_
 exact lT (⟨(w64 ((w64 (10 * s18)) + (IntKind.i64.wrap (IntKind.u8.wrap (x37 - 48)))), w64 (s19 + 1)), (Option.some.inj h).symm, (S.fix [] [] (by decide) rfl rfl rfl)⟩)
end Go.Proofs.Ytffikfajljbmnaa
namespace Go.Proofs.Ytffikfajljbmnaa
open Go.RowKit
noncomputable def raddleref25_word_l1 (r49 : (Int × Bool)) (x35 : Int) : (List api_Stitch × Int) → Option ((List api_Stitch × Int) ⊕ List api_Stitch) := fun s0 => match s0 with
 | (s60, s63) =>
  Option.bind (α := Bool) (
   if decide (s63 < r49.1) then
    some (decide (s63 < 300))
   else
    some false) fun o71 =>
  if o71 then
   Option.bind (appO s60 [(api_Stitch.mk 1 (x35 == 112) 0 0)]) fun l79 =>
   some (.inl (l79, w64 (s63 + 1)))
  else
   some (.inr s60)
noncomputable def F_raddleref25_word (p0 : ByteArray) : Option ((List api_Stitch) × Bool) :=
 if p0 == (⟨#[121, 111]⟩ : ByteArray) then
  some ([(api_Stitch.mk 2 false 0 0)], true)
 else
  Option.bind (α := Bool) (
   if decide (2 < (p0.size : Int)) then
    Option.bind (sliceS p0 0 2) fun y13 =>
    some (y13 == (⟨#[111, 110]⟩ : ByteArray))
   else
    some false) fun o9 =>
  if o9 then
   Option.bind (sliceS p0 2 (p0.size : Int)) fun y17 =>
   Option.bind (F_raddleref25_Number y17) fun r19 =>
   some ([(api_Stitch.mk 9 false r19.1 0)], r19.2)
  else
   Option.bind (α := Bool) (
    if (p0.size : Int) == 0 then
     some true
    else
     Option.bind (idxS p0 0) fun x29 =>
     if x29 != 107 then
      some (x29 != 112)
     else
      some false) fun o25 =>
   if o25 then
    some (([] : (List api_Stitch)), false)
   else
    Option.bind (idxS p0 0) fun x35 =>
    if (p0.size : Int) == 1 then
     some ([(api_Stitch.mk 1 (x35 == 112) 0 0)], true)
    else
     Option.bind (α := Unit ⊕ ((List api_Stitch) × Bool)) (
      Option.bind (sliceS p0 1 (p0.size : Int)) fun y47 =>
      Option.bind (F_raddleref25_Number y47) fun r49 =>
      if r49.2 then
       Option.bind (α := List api_Stitch) (
        Option.bind (whileO (raddleref25_word_l1 r49 x35) (([] : List api_Stitch), 0)) fun e67 =>
         some e67) fun o54 =>
       some (.inr (o54, decide (1 < r49.1)))
      else
       some (.inl ())) fun z0 => match z0 with
      | .inl _ =>
       Option.bind (idxS p0 1) fun x85 =>
       Option.bind (F_raddleref25_kind x85) fun r87 =>
       if r87 == 8 then
        some ([(api_Stitch.mk r87 (x35 == 112) 0 0)], (p0.size : Int) == 2)
       else
        Option.bind (sliceS p0 2 (p0.size : Int)) fun y96 =>
        Option.bind (F_raddleref25_Cut y96 47) fun r98 =>
        Option.bind (α := Bool) (
         if r87 != 0 then
          some ((r98.length : Int) == 1)
         else
          some false) fun o103 =>
        Option.bind (α := (Bool × Int)) (
         Option.bind (α := Bool) (
          if r87 == 6 then
           some true
          else
           some (r87 == 7)) fun o111 =>
         if o111 then
          if (r98.length : Int) == 2 then
           Option.bind (idxO r98 1) fun x119 =>
           Option.bind (F_raddleref25_Number x119) fun r124 =>
           some (r124.2, r124.1)
          else
           some ((r98.length : Int) == 2, 0)
         else
          some (o103, 0)) fun (o107, o108) =>
        Option.bind (idxO r98 0) fun x127 =>
        Option.bind (F_raddleref25_Number x127) fun r132 =>
        Option.bind (α := Bool) (
         if o107 then
          some r132.2
         else
          some false) fun o137 =>
        some ([(api_Stitch.mk r87 (x35 == 112) r132.1 o108)], o137)
      | .inr z =>
       some z
def c_raddleref25_word_val (r : ((List api_Stitch) × Bool)) (x : Value) : Value := .tuple #[x, .bool r.2]
def c_raddleref25_word_D (r : ((List api_Stitch) × Bool)) (x : Value) : List Fact := [fRep (rL r_api_Stitch) x r.1]
set_option maxHeartbeats 4000000 in
set_option maxRecDepth 100000 in
theorem c_raddleref25_word (E : Nat → Prop) (w0 : World) (p0 : ByteArray) (r : ((List api_Stitch) × Bool)) (h : F_raddleref25_word p0 = some r) (S : St0 E [] w0 w0 [] []) :
 Calls Try.prog 95 #[.string p0] w0 (Ret (X := Value) E [] w0 (c_raddleref25_word_val r) (fun _ => []) (c_raddleref25_word_D r)) := by
 unfold F_raddleref25_word at h
 refine sEnter (args := [.string p0]) 140 Try.func95 rfl rfl (by simp) S (fun a S => ?_)
 refine sSeq (fun K1 hK1 => ?_)
 refine sRegion ?_
 refine sMa S rfl rfl rfl rfl rfl fun a S => ?_
 refine sMa S rfl rfl rfl rfl rfl fun a S => ?_
 refine lT (hK1 _ _ ?_)
 refine sSeq (fun K2 hK2 => ?_)
 refine sSeq (fun K3 hK3 => ?_)
 refine sRegion ?_
 refine sMm S rfl rfl rfl rfl rfl fun a S => ?_
 refine sBin _ S (wN rfl) rfl rfl rfl (bEqS _ _ _ _ p0 (⟨#[121, 111]⟩ : ByteArray)) rfl (lb rfl) fun a S => ?_
 refine lT (hK3 _ _ ?_)
 rcases iteSome h with ⟨hc4, h⟩ | ⟨hc4, h⟩
 ·refine sCondT S rfl hc4 ?_
  refine sSeq (fun K5 hK5 => ?_)
  refine sRegion ?_
  refine sBuild [(0, .int .u8 2)] [.int .u8 2, .bool false, iv 0, iv 0] S (wN rfl) rfl rfl rfl rfl (lb rfl) fun a S => ?_
  have S := S.learn (fRep r_api_Stitch (.agg #[.int .u8 2, .bool false, iv 0, iv 0]) (api_Stitch.mk 2 false 0 0)) rfl
  refine sLit (r := r_api_Stitch) (T := 81) (xs := [(api_Stitch.mk 2 false 0 0)]) [(0, .agg #[.int .u8 2, .bool false, iv 0, iv 0])] 1 [.agg #[.int .u8 2, .bool false, iv 0, iv 0]] [.int .u8 2, .bool false, iv 0, iv 0] (.agg #[.int .u8 0, .bool false, iv 0, iv 0]) 24 S (wN rfl) rfl rfl Try.underlying47 rfl (by decide) (by decide) (by kernel_rfl) rfl (fun E1 w1 hE => All.cons (r_api_Stitch.mono hE (S.mem.know (i := 0) (e := fRep r_api_Stitch (.agg #[.int .u8 2, .bool false, iv 0, iv 0]) (api_Stitch.mk 2 false 0 0)) rfl)) (All.nil _ _ _)) rfl rfl (lb rfl) fun a w ad6 cp7 S => ?_
  refine sMa S rfl rfl rfl rfl rfl fun a S => ?_
  refine sMa S rfl rfl rfl rfl rfl fun a S => ?_
  refine lT (hK5 _ _ ?_)
  obtain rfl := Option.some.inj h
  have S := S.shutR (r := r_api_Stitch) (T := 81) (v := .slice ad6 [(api_Stitch.mk 2 false 0 0)].length cp7) (xs := [(api_Stitch.mk 2 false 0 0)]) 0 rfl
  exact wp_ret (rThen (sRet (.tuple #[.slice ad6 [(api_Stitch.mk 2 false 0 0)].length cp7, .bool true]) S (rsl2 rfl (rvT (t := 2) (v := .slice ad6 [(api_Stitch.mk 2 false 0 0)].length cp7) S rfl) (rvT (t := 3) (v := .bool true) S rfl)) ⟨(.slice ad6 [(api_Stitch.mk 2 false 0 0)].length cp7), rfl, S.mem.sel [] [0] (by decide) rfl rfl⟩))
 refine sCondF S rfl hc4 ?_
 refine wp_skip (leafT (hK2 _ _ ?_))
 refine sSeq (fun K8 hK8 => ?_)
 obtain ⟨t10, h, g11⟩ := bindSome h
 refine sCut (fun a w => ∃ o9, o9 = t10 ∧ St [] E [] w0 140 a w [(0, .string p0), (26, .bool o9)] [] []) ?_ (fun a w hI => ?_)
 ·refine sRegion ?_
  refine sMm S rfl rfl rfl rfl rfl fun a S => ?_
  refine sLenS (v := p0) S (wN rfl) rfl Try.underlying9 rfl rfl (lb rfl) fun a S => ?_
  refine sBin _ S (wN rfl) rfl rfl rfl (bGt _ _ _ _ .i64 (p0.size : Int) 2) rfl (lb rfl) fun a S => ?_
  refine sMm S rfl rfl rfl rfl rfl fun a S => ?_
  rcases iteSome h with ⟨hc12, h⟩ | ⟨hc12, h⟩
  rotate_left
  ·refine sSkN 3 3 true 22 S rfl rfl hc12 rfl fun a S => ?_
   refine sPickF (.bool false) S (wN rfl) rfl rfl hc12 rfl rfl (lb rfl) fun a S => ?_
   exact lT (⟨false, Option.some.inj h, S.fix [] [] (by decide) rfl rfl rfl⟩)
  refine sMove (.string p0) S (wG 3 true 22 rfl rfl rfl hc12) (.inl rfl) rfl rfl (lb rfl) fun a S => ?_
  obtain ⟨y13, hx14, h⟩ := bindSome h
  refine sSliceS (v := p0) (u := y13) (vlo := none) (vhi := (some (.int .i64 2))) (lo' := 0) (hi' := 2) S (wG 3 true 22 rfl rfl rfl hc12) rfl Try.underlying9 rfl rfl rfl (.inr ⟨rfl, rfl⟩) (.inl rfl) hx14 rfl (lb rfl) fun a S => ?_
  refine sBin _ S (wG 3 true 22 rfl rfl rfl hc12) rfl rfl rfl (bEqS _ _ _ _ y13 (⟨#[111, 110]⟩ : ByteArray)) rfl (lb rfl) fun a S => ?_
  refine sPickT (.bool (y13 == (⟨#[111, 110]⟩ : ByteArray))) S (wN rfl) rfl rfl hc12 rfl rfl (lb rfl) fun a S => ?_
  exact lT (⟨y13 == (⟨#[111, 110]⟩ : ByteArray), Option.some.inj h, S.fix [] [] (by decide) rfl rfl rfl⟩)
 obtain ⟨o9, rfl, S⟩ := hI
 have h := g11
 clear g11
 try dsimp only at h
 rcases iteSome h with ⟨hc15, h⟩ | ⟨hc15, h⟩
 ·refine sCondT S rfl hc15 ?_
  refine sSeq (fun K16 hK16 => ?_)
  refine sRegion ?_
  refine sMm S rfl rfl rfl rfl rfl fun a S => ?_
  obtain ⟨y17, hx18, h⟩ := bindSome h
  refine sSliceS (v := p0) (u := y17) (vlo := (some (.int .i64 2))) (vhi := none) (lo' := 2) (hi' := (p0.size : Int)) S (wN rfl) rfl Try.underlying9 rfl rfl rfl (.inl rfl) (.inr ⟨rfl, rfl⟩) hx18 rfl (lb rfl) fun a S => ?_
  obtain ⟨r19, hx20, h⟩ := bindSome h
  have S1 := S.mem
  refine sCallQ (X := Unit) (f := 97) (vs := [.string y17]) (val := fun _ => .tuple #[iv r19.1, .bool r19.2]) S (wN rfl) rfl callee97 rfl (S1.quiet [] rfl) (fun E1 w1 S1 => c_raddleref25_Number E1 w1 y17 r19 hx20 S1) rfl (lb rfl) fun _ a w S => ?_
  refine sMm S rfl rfl rfl rfl rfl fun a S => ?_
  refine sExtract (vs := [iv r19.1, .bool r19.2]) (iv r19.1) S (wN rfl) rfl rfl rfl rfl (lb rfl) fun a S => ?_
  refine sExtract (vs := [iv r19.1, .bool r19.2]) (.bool r19.2) S (wN rfl) rfl rfl rfl rfl (lb rfl) fun a S => ?_
  refine sMa S rfl rfl rfl rfl rfl fun a S => ?_
  refine sMa S rfl rfl rfl rfl rfl fun a S => ?_
  refine lT (hK16 _ _ ?_)
  refine sSeq (fun K21 hK21 => ?_)
  refine sRegion ?_
  refine sMm S rfl rfl rfl rfl rfl fun a S => ?_
  refine sBuild [(0, .int .u8 9), (2, iv r19.1)] [.int .u8 9, .bool false, iv r19.1, iv 0] S (wN rfl) rfl rfl rfl rfl (lb rfl) fun a S => ?_
  have S := S.learn (fRep r_api_Stitch (.agg #[.int .u8 9, .bool false, iv r19.1, iv 0]) (api_Stitch.mk 9 false r19.1 0)) rfl
  refine sLit (r := r_api_Stitch) (T := 81) (xs := [(api_Stitch.mk 9 false r19.1 0)]) [(0, .agg #[.int .u8 9, .bool false, iv r19.1, iv 0])] 1 [.agg #[.int .u8 9, .bool false, iv r19.1, iv 0]] [.int .u8 9, .bool false, iv r19.1, iv 0] (.agg #[.int .u8 0, .bool false, iv 0, iv 0]) 24 S (wN rfl) rfl rfl Try.underlying47 rfl (by decide) (by decide) (by kernel_rfl) rfl (fun E1 w1 hE => All.cons (r_api_Stitch.mono hE (S.mem.know (i := 0) (e := fRep r_api_Stitch (.agg #[.int .u8 9, .bool false, iv r19.1, iv 0]) (api_Stitch.mk 9 false r19.1 0)) rfl)) (All.nil _ _ _)) rfl rfl (lb rfl) fun a w ad22 cp23 S => ?_
  refine sMm S rfl rfl rfl rfl rfl fun a S => ?_
  refine sMa S rfl rfl rfl rfl rfl fun a S => ?_
  refine sMa S rfl rfl rfl rfl rfl fun a S => ?_
  refine lT (hK21 _ _ ?_)
  obtain rfl := Option.some.inj h
  have S := S.shutR (r := r_api_Stitch) (T := 81) (v := .slice ad22 [(api_Stitch.mk 9 false r19.1 0)].length cp23) (xs := [(api_Stitch.mk 9 false r19.1 0)]) 0 rfl
  exact wp_ret (rThen (sRet (.tuple #[.slice ad22 [(api_Stitch.mk 9 false r19.1 0)].length cp23, .bool r19.2]) S (rsl2 rfl (rvT (t := 2) (v := .slice ad22 [(api_Stitch.mk 9 false r19.1 0)].length cp23) S rfl) (rvT (t := 3) (v := .bool r19.2) S rfl)) ⟨(.slice ad22 [(api_Stitch.mk 9 false r19.1 0)].length cp23), rfl, S.mem.sel [] [0] (by decide) rfl rfl⟩))
 refine sCondF S rfl hc15 ?_
 refine wp_skip (leafT (hK8 _ _ ?_))
 refine sSeq (fun K24 hK24 => ?_)
 obtain ⟨t26, h, g27⟩ := bindSome h
 refine sCut (fun a w => ∃ o25, o25 = t26 ∧ St [] E [] w0 140 a w [(0, .string p0), (49, .bool o25)] [] []) ?_ (fun a w hI => ?_)
 ·refine sRegion ?_
  refine sMm S rfl rfl rfl rfl rfl fun a S => ?_
  refine sLenS (v := p0) S (wN rfl) rfl Try.underlying9 rfl rfl (lb rfl) fun a S => ?_
  refine sBin _ S (wN rfl) rfl rfl rfl (bEq _ _ _ _ .i64 (p0.size : Int) 0) rfl (lb rfl) fun a S => ?_
  refine sMm S rfl rfl rfl rfl rfl fun a S => ?_
  rcases iteSome h with ⟨hc28, h⟩ | ⟨hc28, h⟩
  ·refine sSkN 4 3 false 40 S rfl rfl hc28 rfl fun a S => ?_
   refine sSkipU 7 true 44 45 S rfl rfl rfl rfl (lb rfl) fun a S => ?_
   refine sSkipU 7 true 44 46 S rfl rfl rfl rfl (lb rfl) fun a S => ?_
   refine sSkipU 7 true 44 47 S rfl rfl rfl rfl (lb rfl) fun a S => ?_
   refine sSk S rfl rfl rfl hc28 rfl rfl fun a S => ?_
   refine sPickT (.bool true) S (wN rfl) rfl rfl hc28 rfl rfl (lb rfl) fun a S => ?_
   exact lT (⟨true, Option.some.inj h, S.fix [] [] (by decide) rfl rfl rfl⟩)
  refine sMove (.string p0) S (wG 3 false 40 rfl rfl rfl hc28) (.inl rfl) rfl rfl (lb rfl) fun a S => ?_
  obtain ⟨x29, hx30, h⟩ := bindSome h
  refine sIndexS (v := p0) (j := 0) (k := .i64) S (wG 3 false 40 rfl rfl rfl hc28) rfl Try.underlying9 rfl rfl hx30 rfl (lb rfl) fun a S => ?_
  refine sBin _ S (wG 3 false 40 rfl rfl rfl hc28) rfl rfl rfl (bNe _ _ _ _ .u8 x29 107) rfl (lb rfl) fun a S => ?_
  refine sMove (.bool (x29 != 107)) S (wG 3 false 40 rfl rfl rfl hc28) (.inl rfl) rfl rfl (lb rfl) fun a S => ?_
  rcases iteSome h with ⟨hc31, h⟩ | ⟨hc31, h⟩
  rotate_left
  ·refine sSkN 3 7 true 44 S rfl rfl hc31 rfl fun a S => ?_
   refine sPickF (.bool false) S (wG 3 false 40 rfl rfl rfl hc28) rfl rfl hc31 rfl rfl (lb rfl) fun a S => ?_
   refine sPickF (.bool false) S (wN rfl) rfl rfl hc28 rfl rfl (lb rfl) fun a S => ?_
   exact lT (⟨false, Option.some.inj h, S.fix [] [] (by decide) rfl rfl rfl⟩)
  refine sMove (.string p0) S (wG 7 true 44 rfl rfl rfl hc31) (.inl rfl) rfl rfl (lb rfl) fun a S => ?_
  refine sIndexS (v := p0) (j := 0) (k := .i64) S (wG 7 true 44 rfl rfl rfl hc31) rfl Try.underlying9 rfl rfl hx30 rfl (lb rfl) fun a S => ?_
  refine sBin _ S (wG 7 true 44 rfl rfl rfl hc31) rfl rfl rfl (bNe _ _ _ _ .u8 x29 112) rfl (lb rfl) fun a S => ?_
  refine sPickT (.bool (x29 != 112)) S (wG 3 false 40 rfl rfl rfl hc28) rfl rfl hc31 rfl rfl (lb rfl) fun a S => ?_
  refine sPickF (.bool (x29 != 112)) S (wN rfl) rfl rfl hc28 rfl rfl (lb rfl) fun a S => ?_
  exact lT (⟨x29 != 112, Option.some.inj h, S.fix [] [] (by decide) rfl rfl rfl⟩)
 obtain ⟨o25, rfl, S⟩ := hI
 have h := g27
 clear g27
 try dsimp only at h
 rcases iteSome h with ⟨hc32, h⟩ | ⟨hc32, h⟩
 ·refine sCondT S rfl hc32 ?_
  refine sSeq (fun K33 hK33 => ?_)
  refine sRegion ?_
  refine sMa S rfl rfl rfl rfl rfl fun a S => ?_
  refine sMa S rfl rfl rfl rfl rfl fun a S => ?_
  refine lT (hK33 _ _ ?_)
  obtain rfl := Option.some.inj h
  have S := S.learn (fRep (rL r_api_Stitch) (.slice none 0 0) ([] : (List api_Stitch))) (rL_nil _ _ _)
  exact wp_ret (rThen (sRet (.tuple #[.slice none 0 0, .bool false]) S (rsl2 rfl (rvT (t := 2) (v := .slice none 0 0) S rfl) (rvT (t := 3) (v := .bool false) S rfl)) ⟨(.slice none 0 0), rfl, S.mem.sel [] [0] (by decide) rfl rfl⟩))
 refine sCondF S rfl hc32 ?_
 refine wp_skip (leafT (hK24 _ _ ?_))
 refine sSeq (fun K34 hK34 => ?_)
 refine sRegion ?_
 refine sMm S rfl rfl rfl rfl rfl fun a S => ?_
 obtain ⟨x35, hx36, h⟩ := bindSome h
 refine sIndexS (v := p0) (j := 0) (k := .i64) S (wN rfl) rfl Try.underlying9 rfl rfl hx36 rfl (lb rfl) fun a S => ?_
 refine sBin _ S (wN rfl) rfl rfl rfl (bEq _ _ _ _ .u8 x35 112) rfl (lb rfl) fun a S => ?_
 refine sBuild [(0, .int .u8 1), (1, .bool (x35 == 112))] [.int .u8 1, .bool (x35 == 112), iv 0, iv 0] S (wN rfl) rfl rfl rfl rfl (lb rfl) fun a S => ?_
 refine sAlloc (.agg #[.int .u8 0, .bool false, iv 0, iv 0]) S (wN rfl) rfl rfl [.int .u8 0, .bool false, iv 0, iv 0] rfl rfl (lb rfl) fun a b37 w S => ?_
 refine sStore (p := b37) (off := 0) (T := 81) (vs := [.int .u8 0, .bool false, iv 0, iv 0]) (v := .agg #[.int .u8 1, .bool (x35 == 112), iv 0, iv 0]) 0 [.int .u8 1, .bool (x35 == 112), iv 0, iv 0] S (wN rfl) rfl rfl rfl rfl rfl rfl rfl (by simp) rfl fun a w S => ?_
 refine lT (hK34 _ _ ?_)
 refine sSeq (fun K38 hK38 => ?_)
 refine sSeq (fun K39 hK39 => ?_)
 refine sRegion ?_
 refine sMm S rfl rfl rfl rfl rfl fun a S => ?_
 refine sLenS (v := p0) S (wN rfl) rfl Try.underlying9 rfl rfl (lb rfl) fun a S => ?_
 refine sBin _ S (wN rfl) rfl rfl rfl (bEq _ _ _ _ .i64 (p0.size : Int) 1) rfl (lb rfl) fun a S => ?_
 refine lT (hK39 _ _ ?_)
 rcases iteSome h with ⟨hc40, h⟩ | ⟨hc40, h⟩
 ·refine sCondT S rfl hc40 ?_
  refine sSeq (fun K41 hK41 => ?_)
  refine sRegion ?_
  refine sLoadN (p := b37) (off := 0) (T := 81) (vs := [.int .u8 1, .bool (x35 == 112), iv 0, iv 0]) 0 [.int .u8 1, .bool (x35 == 112), iv 0, iv 0] S (wN rfl) rfl rfl rfl rfl rfl rfl rfl (lb rfl) fun a S => ?_
  have S := S.learn (fRep r_api_Stitch (.agg #[.int .u8 1, .bool (x35 == 112), iv 0, iv 0]) (api_Stitch.mk 1 (x35 == 112) 0 0)) rfl
  refine sLit (r := r_api_Stitch) (T := 81) (xs := [(api_Stitch.mk 1 (x35 == 112) 0 0)]) [(0, .agg #[.int .u8 1, .bool (x35 == 112), iv 0, iv 0])] 1 [.agg #[.int .u8 1, .bool (x35 == 112), iv 0, iv 0]] [.int .u8 1, .bool (x35 == 112), iv 0, iv 0] (.agg #[.int .u8 0, .bool false, iv 0, iv 0]) 24 S (wN rfl) rfl rfl Try.underlying47 rfl (by decide) (by decide) (by kernel_rfl) rfl (fun E1 w1 hE => All.cons (r_api_Stitch.mono hE (S.mem.know (i := 0) (e := fRep r_api_Stitch (.agg #[.int .u8 1, .bool (x35 == 112), iv 0, iv 0]) (api_Stitch.mk 1 (x35 == 112) 0 0)) rfl)) (All.nil _ _ _)) rfl rfl (lb rfl) fun a w ad42 cp43 S => ?_
  refine sMa S rfl rfl rfl rfl rfl fun a S => ?_
  refine sMa S rfl rfl rfl rfl rfl fun a S => ?_
  refine lT (hK41 _ _ ?_)
  obtain rfl := Option.some.inj h
  have S := S.shutR (r := r_api_Stitch) (T := 81) (v := .slice ad42 [(api_Stitch.mk 1 (x35 == 112) 0 0)].length cp43) (xs := [(api_Stitch.mk 1 (x35 == 112) 0 0)]) 0 rfl
  exact wp_ret (rThen (sRet (.tuple #[.slice ad42 [(api_Stitch.mk 1 (x35 == 112) 0 0)].length cp43, .bool true]) S (rsl2 rfl (rvT (t := 2) (v := .slice ad42 [(api_Stitch.mk 1 (x35 == 112) 0 0)].length cp43) S rfl) (rvT (t := 3) (v := .bool true) S rfl)) ⟨(.slice ad42 [(api_Stitch.mk 1 (x35 == 112) 0 0)].length cp43), rfl, S.mem.sel [] [0] (by decide) rfl rfl⟩))
 refine sCondF S rfl hc40 ?_
 refine wp_skip (leafT (hK38 _ _ ?_))
 obtain ⟨t44, h, g45⟩ := bindSome h
 refine sCut (fun a w => .inl () = t44 ∧ St [] E [] w0 140 a w [(0, .string p0), (6, .pointer (some ⟨b37, 0, none⟩))] [eBox b37 81 [.int .u8 1, .bool (x35 == 112), iv 0, iv 0]] []) ?_ (fun a w hI => ?_)
 ·refine sSeq (fun K46 hK46 => ?_)
  refine sRegion ?_
  refine sMm S rfl rfl rfl rfl rfl fun a S => ?_
  obtain ⟨y47, hx48, h⟩ := bindSome h
  refine sSliceS (v := p0) (u := y47) (vlo := (some (.int .i64 1))) (vhi := none) (lo' := 1) (hi' := (p0.size : Int)) S (wN rfl) rfl Try.underlying9 rfl rfl rfl (.inl rfl) (.inr ⟨rfl, rfl⟩) hx48 rfl (lb rfl) fun a S => ?_
  obtain ⟨r49, hx50, h⟩ := bindSome h
  have S1 := S.mem
  refine sCallQ (X := Unit) (f := 97) (vs := [.string y47]) (val := fun _ => .tuple #[iv r49.1, .bool r49.2]) S (wN rfl) rfl callee97 rfl (S1.quiet [] rfl) (fun E1 w1 S1 => c_raddleref25_Number E1 w1 y47 r49 hx50 S1) rfl (lb rfl) fun _ a w S => ?_
  refine sMm S rfl rfl rfl rfl rfl fun a S => ?_
  refine sExtract (vs := [iv r49.1, .bool r49.2]) (iv r49.1) S (wN rfl) rfl rfl rfl rfl (lb rfl) fun a S => ?_
  refine sExtract (vs := [iv r49.1, .bool r49.2]) (.bool r49.2) S (wN rfl) rfl rfl rfl rfl (lb rfl) fun a S => ?_
  refine sMa S rfl rfl rfl rfl rfl fun a S => ?_
  refine sMa S rfl rfl rfl rfl rfl fun a S => ?_
  refine lT (hK46 _ _ ?_)
  refine sSeq (fun K51 hK51 => ?_)
  refine sRegion ?_
  refine sMm S rfl rfl rfl rfl rfl fun a S => ?_
  refine lT (hK51 _ _ ?_)
  rcases iteSome h with ⟨hc52, h⟩ | ⟨hc52, h⟩
  rotate_left
  ·refine sCondF S rfl hc52 ?_
   exact wp_skip (leafT (⟨Option.some.inj h, S.fix [0] [] (by decide) rfl rfl rfl⟩))
  refine sCondT S rfl hc52 ?_
  refine sSeq (fun K53 hK53 => ?_)
  refine sRegion ?_
  refine sMa S rfl rfl rfl rfl rfl fun a S => ?_
  refine lT (hK53 _ _ ?_)
  obtain ⟨t57, h, g58⟩ := bindSome h
  refine sCut (fun a w => ∃ o54, o54 = t57 ∧ ∃ ad55, ∃ cp56, St [] E [] w0 140 a w [(7, iv r49.1), (9, .slice ad55 o54.length cp56)] [eRow r_api_Stitch 81 (.slice ad55 o54.length cp56) o54] []) ?_ (fun a w hI => ?_)
  rotate_left
  ·obtain ⟨o54, rfl, ad55, cp56, S⟩ := hI
   have h := g58
   clear g58
   try dsimp only at h
   refine sSeq (fun K83 hK83 => ?_)
   refine sRegion ?_
   refine sMm S rfl rfl rfl rfl rfl fun a S => ?_
   refine sMm S rfl rfl rfl rfl rfl fun a S => ?_
   refine sBin _ S (wN rfl) rfl rfl rfl (bGt _ _ _ _ .i64 r49.1 1) rfl (lb rfl) fun a S => ?_
   refine sMa S rfl rfl rfl rfl rfl fun a S => ?_
   refine sMa S rfl rfl rfl rfl rfl fun a S => ?_
   refine lT (hK83 _ _ ?_)
   obtain rfl := Option.some.inj h
   have h := g45
   clear g45
   try dsimp only at h
   obtain rfl := Option.some.inj h
   have S := S.shutR (r := r_api_Stitch) (T := 81) (v := .slice ad55 o54.length cp56) (xs := o54) 0 rfl
   exact wp_ret (rThen (sRet (.tuple #[.slice ad55 o54.length cp56, .bool (decide (1 < r49.1))]) S (rsl2 rfl (rvT (t := 2) (v := .slice ad55 o54.length cp56) S rfl) (rvT (t := 3) (v := .bool (decide (1 < r49.1))) S rfl)) ⟨(.slice ad55 o54.length cp56), rfl, S.mem.sel [] [0] (by decide) rfl rfl⟩))
  refine sSeq (fun K59 hK59 => ?_)
  refine sRegion ?_
  refine sMa S rfl rfl rfl rfl rfl fun a S => ?_
  refine lT (hK59 _ _ ?_)
  refine wp_block ?_
  have S := S.nilRow r_api_Stitch 81 (α := api_Stitch)
  obtain ⟨t66, hl, g65⟩ := bindSome h
  refine sLoop hl (fun s0 a w => match s0 with | (s60, s63) => ∃ ad61, ∃ cp62, St [] E [] w0 140 a w [(6, .pointer (some ⟨b37, 0, none⟩)), (7, iv r49.1), (9, .slice ad61 s60.length cp62), (10, iv s63)] [eBox b37 81 [.int .u8 1, .bool (x35 == 112), iv 0, iv 0], eRow r_api_Stitch 81 (.slice ad61 s60.length cp62) s60] []) ⟨none, 0, S.fix [1, 0] [] (by decide) rfl rfl rfl⟩ ?_
  clear hl h
  intro s0 a w c0 hI h hu64
  obtain ⟨s60, s63⟩ := s0
  unfold raddleref25_word_l1 at h
  dsimp only at h hI
  obtain ⟨ad61, cp62, S⟩ := hI
  refine sSeq (fun K70 hK70 => ?_)
  obtain ⟨t72, h, g73⟩ := bindSome h
  refine sCut (fun a w => ∃ o71, o71 = t72 ∧ St [] E [] w0 140 a w [(6, .pointer (some ⟨b37, 0, none⟩)), (7, iv r49.1), (9, .slice ad61 s60.length cp62), (10, iv s63), (72, .bool o71)] [eBox b37 81 [.int .u8 1, .bool (x35 == 112), iv 0, iv 0], eRow r_api_Stitch 81 (.slice ad61 s60.length cp62) s60] []) ?_ (fun a w hI => ?_)
  ·refine sRegion ?_
   refine sMm S rfl rfl rfl rfl rfl fun a S => ?_
   refine sMm S rfl rfl rfl rfl rfl fun a S => ?_
   refine sBin _ S (wN rfl) rfl rfl rfl (bLt _ _ _ _ .i64 s63 r49.1) rfl (lb rfl) fun a S => ?_
   refine sMm S rfl rfl rfl rfl rfl fun a S => ?_
   rcases iteSome h with ⟨hc74, h⟩ | ⟨hc74, h⟩
   rotate_left
   ·refine sSkN 2 3 true 69 S rfl rfl hc74 rfl fun a S => ?_
    refine sPickF (.bool false) S (wN rfl) rfl rfl hc74 rfl rfl (lb rfl) fun a S => ?_
    exact lT (⟨false, Option.some.inj h, S.fix [0, 1] [] (by decide) rfl rfl rfl⟩)
   refine sMove (iv s63) S (wG 3 true 69 rfl rfl rfl hc74) (.inl rfl) rfl rfl (lb rfl) fun a S => ?_
   refine sBin _ S (wG 3 true 69 rfl rfl rfl hc74) rfl rfl rfl (bLt _ _ _ _ .i64 s63 300) rfl (lb rfl) fun a S => ?_
   refine sPickT (.bool (decide (s63 < 300))) S (wN rfl) rfl rfl hc74 rfl rfl (lb rfl) fun a S => ?_
   exact lT (⟨decide (s63 < 300), Option.some.inj h, S.fix [0, 1] [] (by decide) rfl rfl rfl⟩)
  obtain ⟨o71, rfl, S⟩ := hI
  have h := g73
  clear g73
  try dsimp only at h
  rcases iteSome h with ⟨hc75, h⟩ | ⟨hc75, h⟩
  rotate_left
  ·refine sCondF S rfl hc75 ?_
   obtain rfl := Option.some.inj h
   obtain rfl := hu64 _ rfl
   have h := g65
   clear g65
   try dsimp only at h
   exact wp_exit (xThen (xThen (xHit (leafT (⟨s60, Option.some.inj h, ad61, cp62, S.fix [1] [] (by decide) rfl rfl rfl⟩)))))
  refine sCondT S rfl hc75 ?_
  refine wp_skip (leafT (hK70 _ _ ?_))
  refine sSeq (fun K76 hK76 => ?_)
  refine wp_block ?_
  refine sRegion ?_
  refine sMm S rfl rfl rfl rfl rfl fun a S => ?_
  refine sLoadN (p := b37) (off := 0) (T := 81) (vs := [.int .u8 1, .bool (x35 == 112), iv 0, iv 0]) 0 [.int .u8 1, .bool (x35 == 112), iv 0, iv 0] S (wN rfl) rfl rfl rfl rfl rfl rfl rfl (lb rfl) fun a S => ?_
  have S := S.learn (fRep r_api_Stitch (.agg #[.int .u8 1, .bool (x35 == 112), iv 0, iv 0]) (api_Stitch.mk 1 (x35 == 112) 0 0)) rfl
  refine sLit (r := r_api_Stitch) (T := 81) (xs := [(api_Stitch.mk 1 (x35 == 112) 0 0)]) [(0, .agg #[.int .u8 1, .bool (x35 == 112), iv 0, iv 0])] 1 [.agg #[.int .u8 1, .bool (x35 == 112), iv 0, iv 0]] [.int .u8 1, .bool (x35 == 112), iv 0, iv 0] (.agg #[.int .u8 0, .bool false, iv 0, iv 0]) 24 S (wN rfl) rfl rfl Try.underlying47 rfl (by decide) (by decide) (by kernel_rfl) rfl (fun E1 w1 hE => All.cons (r_api_Stitch.mono hE (S.mem.know (i := 0) (e := fRep r_api_Stitch (.agg #[.int .u8 1, .bool (x35 == 112), iv 0, iv 0]) (api_Stitch.mk 1 (x35 == 112) 0 0)) rfl)) (All.nil _ _ _)) rfl rfl (lb rfl) fun a w ad77 cp78 S => ?_
  obtain ⟨l79, hx80, h⟩ := bindSome h
  refine sApp (r := r_api_Stitch) (T := 81) (xs := s60) (ys := [(api_Stitch.mk 1 (x35 == 112) 0 0)]) (v := .slice ad61 s60.length cp62) (u := .slice ad77 [(api_Stitch.mk 1 (x35 == 112) 0 0)].length cp78) 2 (.agg #[.int .u8 0, .bool false, iv 0, iv 0]) 24 S (wN rfl) rfl Try.underlying47 rfl rfl (by decide) rfl rfl rfl (src_R (T := 81) 0 S.mem rfl) hx80 rfl (lb rfl) fun a w ad81 cp82 S => ?_
  refine sMa S rfl rfl rfl rfl rfl fun a S => ?_
  refine leafL (leafB (leafT (hK76 _ _ ?_)))
  refine sRegion ?_
  refine sMm S rfl rfl rfl rfl rfl fun a S => ?_
  refine sBin _ S (wN rfl) rfl rfl rfl (bAdd _ _ _ _ s63 1) rfl (lb rfl) fun a S => ?_
  refine sMa S rfl rfl rfl rfl rfl fun a S => ?_
  exact lT (⟨(l79, w64 (s63 + 1)), (Option.some.inj h).symm, ⟨ad81, cp82, S.fix [2, 0] [] (by decide) rfl rfl rfl⟩⟩)
 obtain ⟨rfl, S⟩ := hI
 have h := g45
 clear g45
 try dsimp only at h
 refine sSeq (fun K84 hK84 => ?_)
 refine sRegion ?_
 refine sMm S rfl rfl rfl rfl rfl fun a S => ?_
 obtain ⟨x85, hx86, h⟩ := bindSome h
 refine sIndexS (v := p0) (j := 1) (k := .i64) S (wN rfl) rfl Try.underlying9 rfl rfl hx86 rfl (lb rfl) fun a S => ?_
 obtain ⟨r87, hx88, h⟩ := bindSome h
 have S1 := S.mem
 refine sCallQ (X := Unit) (f := 106) (vs := [.int .u8 x85]) (val := fun _ => .int .u8 r87) S (wN rfl) rfl callee106 rfl (S1.quiet [] rfl) (fun E1 w1 S1 => c_raddleref25_kind E1 w1 x85 r87 hx88 S1) rfl (lb rfl) fun _ a w S => ?_
 refine sField (b := b37) (off := 0) 0 0 S (wN rfl) rfl rfl rfl rfl rfl (lb rfl) fun a S => ?_
 refine sStore (p := b37) (off := 0) (T := 81) (vs := [.int .u8 1, .bool (x35 == 112), iv 0, iv 0]) (v := .int .u8 r87) 0 [.int .u8 r87] S (wN rfl) rfl rfl rfl rfl rfl rfl rfl (by simp) rfl fun a w S => ?_
 refine lT (hK84 _ _ ?_)
 refine sSeq (fun K89 hK89 => ?_)
 refine sSeq (fun K90 hK90 => ?_)
 refine sRegion ?_
 refine sField (b := b37) (off := 0) 0 0 S (wN rfl) rfl rfl rfl rfl rfl (lb rfl) fun a S => ?_
 refine sLoad1 0 (.int .u8 r87) S (wN rfl) rfl rfl rfl rfl rfl rfl (lb rfl) fun a S => ?_
 refine sBin _ S (wN rfl) rfl rfl rfl (bEq _ _ _ _ .u8 r87 8) rfl (lb rfl) fun a S => ?_
 refine lT (hK90 _ _ ?_)
 rcases iteSome h with ⟨hc91, h⟩ | ⟨hc91, h⟩
 ·refine sCondT S rfl hc91 ?_
  refine sSeq (fun K92 hK92 => ?_)
  refine sRegion ?_
  refine sLoadN (p := b37) (off := 0) (T := 81) (vs := [.int .u8 r87, .bool (x35 == 112), iv 0, iv 0]) 0 [.int .u8 r87, .bool (x35 == 112), iv 0, iv 0] S (wN rfl) rfl rfl rfl rfl rfl rfl rfl (lb rfl) fun a S => ?_
  have S := S.learn (fRep r_api_Stitch (.agg #[.int .u8 r87, .bool (x35 == 112), iv 0, iv 0]) (api_Stitch.mk r87 (x35 == 112) 0 0)) rfl
  refine sLit (r := r_api_Stitch) (T := 81) (xs := [(api_Stitch.mk r87 (x35 == 112) 0 0)]) [(0, .agg #[.int .u8 r87, .bool (x35 == 112), iv 0, iv 0])] 1 [.agg #[.int .u8 r87, .bool (x35 == 112), iv 0, iv 0]] [.int .u8 r87, .bool (x35 == 112), iv 0, iv 0] (.agg #[.int .u8 0, .bool false, iv 0, iv 0]) 24 S (wN rfl) rfl rfl Try.underlying47 rfl (by decide) (by decide) (by kernel_rfl) rfl (fun E1 w1 hE => All.cons (r_api_Stitch.mono hE (S.mem.know (i := 0) (e := fRep r_api_Stitch (.agg #[.int .u8 r87, .bool (x35 == 112), iv 0, iv 0]) (api_Stitch.mk r87 (x35 == 112) 0 0)) rfl)) (All.nil _ _ _)) rfl rfl (lb rfl) fun a w ad93 cp94 S => ?_
  refine sMm S rfl rfl rfl rfl rfl fun a S => ?_
  refine sLenS (v := p0) S (wN rfl) rfl Try.underlying9 rfl rfl (lb rfl) fun a S => ?_
  refine sBin _ S (wN rfl) rfl rfl rfl (bEq _ _ _ _ .i64 (p0.size : Int) 2) rfl (lb rfl) fun a S => ?_
  refine sMa S rfl rfl rfl rfl rfl fun a S => ?_
  refine sMa S rfl rfl rfl rfl rfl fun a S => ?_
  refine lT (hK92 _ _ ?_)
  obtain rfl := Option.some.inj h
  have S := S.shutR (r := r_api_Stitch) (T := 81) (v := .slice ad93 [(api_Stitch.mk r87 (x35 == 112) 0 0)].length cp94) (xs := [(api_Stitch.mk r87 (x35 == 112) 0 0)]) 0 rfl
  exact wp_ret (rThen (sRet (.tuple #[.slice ad93 [(api_Stitch.mk r87 (x35 == 112) 0 0)].length cp94, .bool ((p0.size : Int) == 2)]) S (rsl2 rfl (rvT (t := 2) (v := .slice ad93 [(api_Stitch.mk r87 (x35 == 112) 0 0)].length cp94) S rfl) (rvT (t := 3) (v := .bool ((p0.size : Int) == 2)) S rfl)) ⟨(.slice ad93 [(api_Stitch.mk r87 (x35 == 112) 0 0)].length cp94), rfl, S.mem.sel [] [0] (by decide) rfl rfl⟩))
 refine sCondF S rfl hc91 ?_
 refine wp_skip (leafT (hK89 _ _ ?_))
 refine sSeq (fun K95 hK95 => ?_)
 refine sRegion ?_
 refine sMm S rfl rfl rfl rfl rfl fun a S => ?_
 obtain ⟨y96, hx97, h⟩ := bindSome h
 refine sSliceS (v := p0) (u := y96) (vlo := (some (.int .i64 2))) (vhi := none) (lo' := 2) (hi' := (p0.size : Int)) S (wN rfl) rfl Try.underlying9 rfl rfl rfl (.inl rfl) (.inr ⟨rfl, rfl⟩) hx97 rfl (lb rfl) fun a S => ?_
 obtain ⟨r98, hx99, h⟩ := bindSome h
 refine sCall (X := Value) (f := 94) (vs := [.string y96, .int .u8 47]) (val := c_raddleref25_Cut_val r98) (B' := fun _ => []) (D' := c_raddleref25_Cut_D r98) [] [eBox b37 81 [.int .u8 r87, .bool (x35 == 112), iv 0, iv 0]] [] [0] [] S (wN rfl) rfl callee94 rfl (by decide) rfl rfl (fun E1 w1 S1 => c_raddleref25_Cut E1 w1 y96 47 r98 hx99 S1) rfl (lb rfl) fun u100 a w S => ?_
 obtain ⟨ad101, cp102, _, rfl, _⟩ := S.mem.know (i := 0) (e := fRep (rL rS) (u100) r98) rfl
 refine sMa S rfl rfl rfl rfl rfl fun a S => ?_
 refine lT (hK95 _ _ ?_)
 obtain ⟨t104, h, g105⟩ := bindSome h
 refine sCut (fun a w => ∃ o103, o103 = t104 ∧ St [] E [] w0 140 a w [(6, .pointer (some ⟨b37, 0, none⟩)), (11, .slice ad101 r98.length cp102), (12, .bool o103)] [eBox b37 81 [.int .u8 r87, .bool (x35 == 112), iv 0, iv 0]] [fRep (rL rS) (.slice ad101 r98.length cp102) r98]) ?_ (fun a w hI => ?_)
 ·refine sRegion ?_
  refine sField (b := b37) (off := 0) 0 0 S (wN rfl) rfl rfl rfl rfl rfl (lb rfl) fun a S => ?_
  refine sLoad1 0 (.int .u8 r87) S (wN rfl) rfl rfl rfl rfl rfl rfl (lb rfl) fun a S => ?_
  refine sBin _ S (wN rfl) rfl rfl rfl (bNe _ _ _ _ .u8 r87 0) rfl (lb rfl) fun a S => ?_
  refine sMm S rfl rfl rfl rfl rfl fun a S => ?_
  rcases iteSome h with ⟨hc106, h⟩ | ⟨hc106, h⟩
  rotate_left
  ·refine sSkN 3 3 true 100 S rfl rfl hc106 rfl fun a S => ?_
   refine sPickF (.bool false) S (wN rfl) rfl rfl hc106 rfl rfl (lb rfl) fun a S => ?_
   refine sMa S rfl rfl rfl rfl rfl fun a S => ?_
   exact lT (⟨false, Option.some.inj h, S.fix [0] [0] (by decide) rfl rfl rfl⟩)
  refine sMove (.slice ad101 r98.length cp102) S (wG 3 true 100 rfl rfl rfl hc106) (.inl rfl) rfl rfl (lb rfl) fun a S => ?_
  refine sLen S (wG 3 true 100 rfl rfl rfl hc106) rfl Try.underlying142 rfl rfl (lb rfl) fun a S => ?_
  refine sBin _ S (wG 3 true 100 rfl rfl rfl hc106) rfl rfl rfl (bEq _ _ _ _ .i64 (r98.length : Int) 1) rfl (lb rfl) fun a S => ?_
  refine sPickT (.bool ((r98.length : Int) == 1)) S (wN rfl) rfl rfl hc106 rfl rfl (lb rfl) fun a S => ?_
  refine sMa S rfl rfl rfl rfl rfl fun a S => ?_
  exact lT (⟨(r98.length : Int) == 1, Option.some.inj h, S.fix [0] [0] (by decide) rfl rfl rfl⟩)
 obtain ⟨o103, rfl, S⟩ := hI
 have h := g105
 clear g105
 try dsimp only at h
 obtain ⟨t109, h, g110⟩ := bindSome h
 refine sCut (fun a w => ∃ o107, ∃ o108, (o107, o108) = t109 ∧ St [] E [] w0 140 a w [(6, .pointer (some ⟨b37, 0, none⟩)), (11, .slice ad101 r98.length cp102), (12, .bool o107)] [eBox b37 81 [.int .u8 r87, .bool (x35 == 112), iv 0, iv o108]] [fRep (rL rS) (.slice ad101 r98.length cp102) r98]) ?_ (fun a w hI => ?_)
 ·obtain ⟨t112, h, g113⟩ := bindSome h
  refine sCut (fun a w => ∃ o111, o111 = t112 ∧ St [] E [] w0 140 a w [(6, .pointer (some ⟨b37, 0, none⟩)), (11, .slice ad101 r98.length cp102), (12, .bool o103), (112, .bool o111)] [eBox b37 81 [.int .u8 r87, .bool (x35 == 112), iv 0, iv 0]] [fRep (rL rS) (.slice ad101 r98.length cp102) r98]) ?_ (fun a w hI => ?_)
  ·refine sRegion ?_
   refine sField (b := b37) (off := 0) 0 0 S (wN rfl) rfl rfl rfl rfl rfl (lb rfl) fun a S => ?_
   refine sLoad1 0 (.int .u8 r87) S (wN rfl) rfl rfl rfl rfl rfl rfl (lb rfl) fun a S => ?_
   refine sBin _ S (wN rfl) rfl rfl rfl (bEq _ _ _ _ .u8 r87 6) rfl (lb rfl) fun a S => ?_
   refine sMm S rfl rfl rfl rfl rfl fun a S => ?_
   rcases iteSome h with ⟨hc114, h⟩ | ⟨hc114, h⟩
   ·refine sSkN 3 3 false 108 S rfl rfl hc114 rfl fun a S => ?_
    refine sPickT (.bool true) S (wN rfl) rfl rfl hc114 rfl rfl (lb rfl) fun a S => ?_
    exact lT (⟨true, Option.some.inj h, S.fix [0] [0] (by decide) rfl rfl rfl⟩)
   refine sField (b := b37) (off := 0) 0 0 S (wG 3 false 108 rfl rfl rfl hc114) rfl rfl rfl rfl rfl (lb rfl) fun a S => ?_
   refine sLoad1 0 (.int .u8 r87) S (wG 3 false 108 rfl rfl rfl hc114) rfl rfl rfl rfl rfl rfl (lb rfl) fun a S => ?_
   refine sBin _ S (wG 3 false 108 rfl rfl rfl hc114) rfl rfl rfl (bEq _ _ _ _ .u8 r87 7) rfl (lb rfl) fun a S => ?_
   refine sPickF (.bool (r87 == 7)) S (wN rfl) rfl rfl hc114 rfl rfl (lb rfl) fun a S => ?_
   exact lT (⟨r87 == 7, Option.some.inj h, S.fix [0] [0] (by decide) rfl rfl rfl⟩)
  obtain ⟨o111, rfl, S⟩ := hI
  have h := g113
  clear g113
  try dsimp only at h
  rcases iteSome h with ⟨hc115, h⟩ | ⟨hc115, h⟩
  rotate_left
  ·refine sCondF S rfl hc115 ?_
   exact wp_skip (leafT (⟨o103, 0, Option.some.inj h, S.fix [0] [0] (by decide) rfl rfl rfl⟩))
  refine sCondT S rfl hc115 ?_
  refine sSeq (fun K116 hK116 => ?_)
  refine sRegion ?_
  refine sMm S rfl rfl rfl rfl rfl fun a S => ?_
  refine sLen S (wN rfl) rfl Try.underlying142 rfl rfl (lb rfl) fun a S => ?_
  refine sBin _ S (wN rfl) rfl rfl rfl (bEq _ _ _ _ .i64 (r98.length : Int) 2) rfl (lb rfl) fun a S => ?_
  refine sMa S rfl rfl rfl rfl rfl fun a S => ?_
  refine lT (hK116 _ _ ?_)
  refine sSeq (fun K117 hK117 => ?_)
  refine sRegion ?_
  refine sMm S rfl rfl rfl rfl rfl fun a S => ?_
  refine lT (hK117 _ _ ?_)
  rcases iteSome h with ⟨hc118, h⟩ | ⟨hc118, h⟩
  rotate_left
  ·refine sCondF S rfl hc118 ?_
   exact wp_skip (leafT (⟨(r98.length : Int) == 2, 0, Option.some.inj h, S.fix [0] [0] (by decide) rfl rfl rfl⟩))
  refine sCondT S rfl hc118 ?_
  refine sRegion ?_
  refine sMm S rfl rfl rfl rfl rfl fun a S => ?_
  obtain ⟨x119, hx120, h⟩ := bindSome h
  obtain ⟨q121, hq122, S⟩ := pIdx (P := Try.prog) (r := rS) (v := .slice ad101 r98.length cp102) (xs := r98) (j := 1) 142 9 0 S Try.underlying142 rfl rfl hx120
  refine sIdxV S (wN rfl) rfl rfl rfl hq122 rfl (lb rfl) fun a S => ?_
  obtain ⟨u123, S⟩ := pLoad (r := rS) (q := q121) (x := x119) 0 S rfl
  obtain rfl : u123 = .string x119 := S.mem.know (i := 1) (e := fRep rS (u123) x119) rfl
  refine sLoadV1 (vq := q121) 0 (.string x119) S (wN rfl) rfl rfl rfl rfl rfl (lb rfl) fun a S => ?_
  obtain ⟨r124, hx125, h⟩ := bindSome h
  have S1 := S.mem
  refine sCallQ (X := Unit) (f := 97) (vs := [.string x119]) (val := fun _ => .tuple #[iv r124.1, .bool r124.2]) S (wN rfl) rfl callee97 rfl (S1.quiet [] rfl) (fun E1 w1 S1 => c_raddleref25_Number E1 w1 x119 r124 hx125 S1) rfl (lb rfl) fun _ a w S => ?_
  refine sMm S rfl rfl rfl rfl rfl fun a S => ?_
  refine sExtract (vs := [iv r124.1, .bool r124.2]) (iv r124.1) S (wN rfl) rfl rfl rfl rfl (lb rfl) fun a S => ?_
  refine sExtract (vs := [iv r124.1, .bool r124.2]) (.bool r124.2) S (wN rfl) rfl rfl rfl rfl (lb rfl) fun a S => ?_
  refine sField (b := b37) (off := 0) 3 3 S (wN rfl) rfl rfl rfl rfl rfl (lb rfl) fun a S => ?_
  refine sStore (p := b37) (off := 3) (T := 81) (vs := [.int .u8 r87, .bool (x35 == 112), iv 0, iv 0]) (v := iv r124.1) 0 [iv r124.1] S (wN rfl) rfl rfl rfl rfl rfl rfl rfl (by simp) rfl fun a w S => ?_
  refine sMa S rfl rfl rfl rfl rfl fun a S => ?_
  exact lT (⟨r124.2, r124.1, Option.some.inj h, S.fix [0] [3] (by decide) rfl rfl rfl⟩)
 obtain ⟨o107, o108, rfl, S⟩ := hI
 have h := g110
 clear g110
 try dsimp only at h
 refine sSeq (fun K126 hK126 => ?_)
 refine sRegion ?_
 refine sMm S rfl rfl rfl rfl rfl fun a S => ?_
 obtain ⟨x127, hx128, h⟩ := bindSome h
 obtain ⟨q129, hq130, S⟩ := pIdx (P := Try.prog) (r := rS) (v := .slice ad101 r98.length cp102) (xs := r98) (j := 0) 142 9 0 S Try.underlying142 rfl rfl hx128
 refine sIdxV S (wN rfl) rfl rfl rfl hq130 rfl (lb rfl) fun a S => ?_
 obtain ⟨u131, S⟩ := pLoad (r := rS) (q := q129) (x := x127) 0 S rfl
 obtain rfl : u131 = .string x127 := S.mem.know (i := 1) (e := fRep rS (u131) x127) rfl
 refine sLoadV1 (vq := q129) 0 (.string x127) S (wN rfl) rfl rfl rfl rfl rfl (lb rfl) fun a S => ?_
 obtain ⟨r132, hx133, h⟩ := bindSome h
 have S1 := S.mem
 refine sCallQ (X := Unit) (f := 97) (vs := [.string x127]) (val := fun _ => .tuple #[iv r132.1, .bool r132.2]) S (wN rfl) rfl callee97 rfl (S1.quiet [] rfl) (fun E1 w1 S1 => c_raddleref25_Number E1 w1 x127 r132 hx133 S1) rfl (lb rfl) fun _ a w S => ?_
 refine sMm S rfl rfl rfl rfl rfl fun a S => ?_
 refine sExtract (vs := [iv r132.1, .bool r132.2]) (iv r132.1) S (wN rfl) rfl rfl rfl rfl (lb rfl) fun a S => ?_
 refine sExtract (vs := [iv r132.1, .bool r132.2]) (.bool r132.2) S (wN rfl) rfl rfl rfl rfl (lb rfl) fun a S => ?_
 refine sMa S rfl rfl rfl rfl rfl fun a S => ?_
 refine sMa S rfl rfl rfl rfl rfl fun a S => ?_
 refine lT (hK126 _ _ ?_)
 refine sSeq (fun K134 hK134 => ?_)
 refine sRegion ?_
 refine sMm S rfl rfl rfl rfl rfl fun a S => ?_
 refine sField (b := b37) (off := 0) 2 2 S (wN rfl) rfl rfl rfl rfl rfl (lb rfl) fun a S => ?_
 refine sStore (p := b37) (off := 2) (T := 81) (vs := [.int .u8 r87, .bool (x35 == 112), iv 0, iv o108]) (v := iv r132.1) 0 [iv r132.1] S (wN rfl) rfl rfl rfl rfl rfl rfl rfl (by simp) rfl fun a w S => ?_
 refine lT (hK134 _ _ ?_)
 obtain ⟨t138, h, g139⟩ := bindSome h
 refine sCut (fun a w => ∃ o137, o137 = t138 ∧ ∃ ad135, ∃ cp136, St [] E [] w0 140 a w [(2, .slice ad135 [(api_Stitch.mk r87 (x35 == 112) r132.1 o108)].length cp136), (3, .bool o137)] [eRow r_api_Stitch 81 (.slice ad135 [(api_Stitch.mk r87 (x35 == 112) r132.1 o108)].length cp136) [(api_Stitch.mk r87 (x35 == 112) r132.1 o108)]] []) ?_ (fun a w hI => ?_)
 rotate_left
 ·obtain ⟨o137, rfl, ad135, cp136, S⟩ := hI
  have h := g139
  clear g139
  try dsimp only at h
  obtain rfl := Option.some.inj h
  have S := S.shutR (r := r_api_Stitch) (T := 81) (v := .slice ad135 [(api_Stitch.mk r87 (x35 == 112) r132.1 o108)].length cp136) (xs := [(api_Stitch.mk r87 (x35 == 112) r132.1 o108)]) 0 rfl
  exact wp_ret (sRet (.tuple #[.slice ad135 [(api_Stitch.mk r87 (x35 == 112) r132.1 o108)].length cp136, .bool o137]) S (rsl2 rfl (rvT (t := 2) (v := .slice ad135 [(api_Stitch.mk r87 (x35 == 112) r132.1 o108)].length cp136) S rfl) (rvT (t := 3) (v := .bool o137) S rfl)) ⟨(.slice ad135 [(api_Stitch.mk r87 (x35 == 112) r132.1 o108)].length cp136), rfl, S.mem.sel [] [0] (by decide) rfl rfl⟩)
 refine sRegion ?_
 refine sLoadN (p := b37) (off := 0) (T := 81) (vs := [.int .u8 r87, .bool (x35 == 112), iv r132.1, iv o108]) 0 [.int .u8 r87, .bool (x35 == 112), iv r132.1, iv o108] S (wN rfl) rfl rfl rfl rfl rfl rfl rfl (lb rfl) fun a S => ?_
 have S := S.learn (fRep r_api_Stitch (.agg #[.int .u8 r87, .bool (x35 == 112), iv r132.1, iv o108]) (api_Stitch.mk r87 (x35 == 112) r132.1 o108)) rfl
 refine sLit (r := r_api_Stitch) (T := 81) (xs := [(api_Stitch.mk r87 (x35 == 112) r132.1 o108)]) [(0, .agg #[.int .u8 r87, .bool (x35 == 112), iv r132.1, iv o108])] 1 [.agg #[.int .u8 r87, .bool (x35 == 112), iv r132.1, iv o108]] [.int .u8 r87, .bool (x35 == 112), iv r132.1, iv o108] (.agg #[.int .u8 0, .bool false, iv 0, iv 0]) 24 S (wN rfl) rfl rfl Try.underlying47 rfl (by decide) (by decide) (by kernel_rfl) rfl (fun E1 w1 hE => All.cons (r_api_Stitch.mono hE (S.mem.know (i := 0) (e := fRep r_api_Stitch (.agg #[.int .u8 r87, .bool (x35 == 112), iv r132.1, iv o108]) (api_Stitch.mk r87 (x35 == 112) r132.1 o108)) rfl)) (All.nil _ _ _)) rfl rfl (lb rfl) fun a w ad140 cp141 S => ?_
 refine sMm S rfl rfl rfl rfl rfl fun a S => ?_
 refine sMm S rfl rfl rfl rfl rfl fun a S => ?_
 rcases iteSome h with ⟨hc142, h⟩ | ⟨hc142, h⟩
 rotate_left
 ·refine sSk S rfl rfl rfl hc142 rfl rfl fun a S => ?_
  refine sPickF (.bool false) S (wN rfl) rfl rfl hc142 rfl rfl (lb rfl) fun a S => ?_
  refine sMa S rfl rfl rfl rfl rfl fun a S => ?_
  refine sMa S rfl rfl rfl rfl rfl fun a S => ?_
  exact lT (⟨false, Option.some.inj h, ad140, cp141, S.fix [0] [] (by decide) rfl rfl rfl⟩)
 refine sMove (.bool r132.2) S (wG 3 true 137 rfl rfl rfl hc142) (.inl rfl) rfl rfl (lb rfl) fun a S => ?_
 refine sPickT (.bool r132.2) S (wN rfl) rfl rfl hc142 rfl rfl (lb rfl) fun a S => ?_
 refine sMa S rfl rfl rfl rfl rfl fun a S => ?_
 refine sMa S rfl rfl rfl rfl rfl fun a S => ?_
 exact lT (⟨r132.2, Option.some.inj h, ad140, cp141, S.fix [0] [] (by decide) rfl rfl rfl⟩)
end Go.Proofs.Ytffikfajljbmnaa
namespace Go.Proofs.Ytffikfajljbmnaa
open Go.RowKit
def anc_raddleref25_Written_0 : List (List Nat) := [[], [], [0, 1], [0, 1, 2], [0, 1, 2, 3], [0, 1, 2, 3, 4], [0, 1, 2, 3, 4, 5], [0, 1, 2, 3, 4, 5, 6], [0, 1, 2, 3, 4, 5, 6, 7], [0, 1, 2, 3, 4, 5, 6], [0, 1, 2, 3, 4, 5, 6, 9], [0, 1, 2, 3, 4, 5, 6, 7, 8, 9, 10], [0, 1, 2, 3, 4, 5, 6, 7, 8, 9, 10, 11], [0, 1, 2, 3, 4, 5, 6, 7, 8, 9, 10, 11, 12], [0, 1, 2, 3, 4, 5, 6, 7, 8, 9, 10, 11, 12, 13], [0, 1, 2, 3, 4, 5, 6, 7, 8, 9, 10, 11, 12, 13], [0, 1, 2, 3, 4, 5, 6, 7, 8, 9, 10, 11, 12, 13, 15], [0, 1, 2, 3, 4, 5, 6, 7, 8, 9, 10, 11, 12, 13, 14, 15, 16], [0, 1, 2, 3, 4, 5, 6, 7, 8, 9, 10, 11, 12, 13, 14, 15, 16, 17], [0, 1, 2, 3, 4, 5, 6, 7, 8, 9, 10, 11, 12, 13], [0, 1, 2, 3, 4, 5, 6, 7, 8, 9, 10, 11, 12, 13], [0, 1, 2, 3, 4, 5, 6, 7, 8, 9, 10, 11, 12, 13, 19, 20], [0, 1, 2, 3, 4, 5, 6, 7, 8, 9, 10, 11, 12, 13, 19, 20, 21], [0, 1, 2, 3, 4, 5, 6, 7, 8, 9, 10, 11, 12, 13, 14, 15, 16, 17, 18, 19, 20, 21, 22], [0, 1, 2, 3, 4, 5, 6, 7, 8, 9, 10, 11, 12, 13, 14, 15, 16, 17, 18, 19, 20, 21, 22, 23]]
noncomputable def raddleref25_Written_l1 (p0 : (List api_Stitch)) : (Int × Int) → Option ((Int × Int) ⊕ (Int × Int)) := fun s0 => match s0 with
 | (s44, s45) =>
  Option.bind (α := Bool) (
   Option.bind (idxO p0 s44) fun x55 =>
   if x55.Kind == 1 then
    if decide ((w64 (s44 + 1)) < (p0.length : Int)) then
     Option.bind (idxO p0 (w64 (s44 + 1))) fun x64 =>
     some ((x64.Kind == x55.Kind) && ((x64.Purl == x55.Purl) && ((x64.A == x55.A) && ((x64.B == x55.B) && true))))
    else
     some false
   else
    some false) fun o52 =>
  if o52 then
   some (.inl (w64 (s44 + 1), w64 (s45 + 1)))
  else
   some (.inr (s44, s45))
noncomputable def raddleref25_Written_l2 (p0 : (List api_Stitch)) : (ByteArray × Int) → Option ((ByteArray × Int) ⊕ ByteArray) := fun s0 => match s0 with
 | (s9, s10) =>
  if decide (s10 < (p0.length : Int)) then
   Option.bind (α := (ByteArray × Int)) (
    Option.bind (α := ByteArray) (
     if decide (0 < s10) then
      Option.bind (addS s9 (⟨#[32]⟩ : ByteArray)) fun z27 =>
      some z27
     else
      some s9) fun o22 =>
    Option.bind (idxO p0 s10) fun x30 =>
    Option.bind (F_raddleref25_one x30) fun r35 =>
    Option.bind (addS o22 r35) fun z37 =>
    Option.bind (α := (Int × Int)) (
     Option.bind (whileO (raddleref25_Written_l1 p0) (s10, 1)) fun (e49, e50) =>
      some (e49, e50)) fun (o40, o41) =>
    if decide (1 < o41) then
     Option.bind (F_raddleref25_Decimal o41) fun r97 =>
     Option.bind (addS z37 r97) fun z99 =>
     some (z99, o40)
    else
     some (z37, o40)) fun (o18, o19) =>
   some (.inl (o18, w64 (o19 + 1)))
  else
   some (.inr s9)
noncomputable def F_raddleref25_Written (p0 : (List api_Stitch)) : Option ByteArray :=
 Option.bind (α := ByteArray) (
  Option.bind (whileO (raddleref25_Written_l2 p0) ((⟨#[]⟩ : ByteArray), 0)) fun e14 =>
   some e14) fun o5 =>
 some o5
set_option maxHeartbeats 4000000 in
set_option maxRecDepth 100000 in
theorem c_raddleref25_Written (E : Nat → Prop) (w0 : World) (p0 : (List api_Stitch)) (v0 : Value) (r : ByteArray) (h : F_raddleref25_Written p0 = some r) (S : St0 E [] w0 w0 [] [fRep (rL r_api_Stitch) (v0) p0]) :
 Calls Try.prog 96 #[v0] w0 (Ret (X := Unit) E [] w0 (fun _ => .string r) (fun _ => []) (fun _ => [])) := by
 unfold F_raddleref25_Written at h
 obtain ⟨ad1, cp2, _, rfl, _⟩ := S.know (i := 0) (e := fRep (rL r_api_Stitch) (v0) p0) rfl
 refine sEnter (args := [.slice ad1 p0.length cp2]) 59 Try.func96 rfl rfl (by simp) S (fun a S => ?_)
 refine sSeq (fun K3 hK3 => ?_)
 refine sRegion ?_
 refine sMa S rfl rfl rfl rfl rfl fun a S => ?_
 refine lT (hK3 _ _ ?_)
 refine sSeq (fun K4 hK4 => ?_)
 refine sRegion ?_
 refine sMa S rfl rfl rfl rfl rfl fun a S => ?_
 refine lT (hK4 _ _ ?_)
 obtain ⟨t6, h, g7⟩ := bindSome h
 refine sCut (fun a w => ∃ o5, o5 = t6 ∧ St [] E [] w0 59 a w [(3, .string o5)] [] []) ?_ (fun a w hI => ?_)
 rotate_left
 ·obtain ⟨o5, rfl, S⟩ := hI
  have h := g7
  clear g7
  try dsimp only at h
  refine sSeq (fun K101 hK101 => ?_)
  refine sRegion ?_
  refine sMm S rfl rfl rfl rfl rfl fun a S => ?_
  refine sMa S rfl rfl rfl rfl rfl fun a S => ?_
  refine lT (hK101 _ _ ?_)
  obtain rfl := Option.some.inj h
  exact wp_ret (sRet (.string o5) S (rsl1 rfl (rvT (t := 2) (v := .string o5) S rfl)) ⟨(), rfl, S.mem.sel [] [] (by decide) rfl rfl⟩)
 refine sSeq (fun K8 hK8 => ?_)
 refine sRegion ?_
 refine sMa S rfl rfl rfl rfl rfl fun a S => ?_
 refine lT (hK8 _ _ ?_)
 refine wp_block ?_
 obtain ⟨t13, hl, g12⟩ := bindSome h
 refine sLoop hl (fun s0 a w => match s0 with | (s9, s10) => St [] E [] w0 59 a w [(0, .slice ad1 p0.length cp2), (3, .string s9), (4, iv s10)] [] [fRep (rL r_api_Stitch) (.slice ad1 p0.length cp2) p0]) (S.fix [] [0] (by decide) rfl rfl rfl) ?_
 clear hl h
 intro s0 a w c0 hI h hu11
 obtain ⟨s9, s10⟩ := s0
 unfold raddleref25_Written_l2 at h
 dsimp only at h hI
 have S := hI
 refine sSeq (fun K15 hK15 => ?_)
 refine sSeq (fun K16 hK16 => ?_)
 refine sRegion ?_
 refine sMm S rfl rfl rfl rfl rfl fun a S => ?_
 refine sMm S rfl rfl rfl rfl rfl fun a S => ?_
 refine sLen S (wN rfl) rfl Try.underlying47 rfl rfl (lb rfl) fun a S => ?_
 refine sBin _ S (wN rfl) rfl rfl rfl (bLt _ _ _ _ .i64 s10 (p0.length : Int)) rfl (lb rfl) fun a S => ?_
 refine lT (hK16 _ _ ?_)
 rcases iteSome h with ⟨hc17, h⟩ | ⟨hc17, h⟩
 rotate_left
 ·refine sCondF S rfl hc17 ?_
  obtain rfl := Option.some.inj h
  obtain rfl := hu11 _ rfl
  have h := g12
  clear g12
  try dsimp only at h
  exact wp_exit (xThen (xThen (xHit (leafT (⟨s9, Option.some.inj h, S.fix [] [] (by decide) rfl rfl rfl⟩)))))
 refine sCondT S rfl hc17 ?_
 refine wp_skip (leafT (hK15 _ _ ?_))
 obtain ⟨t20, h, g21⟩ := bindSome h
 refine sCut (fun a w => ∃ o18, ∃ o19, (o18, o19) = t20 ∧ St [] E [] w0 59 a w [(0, .slice ad1 p0.length cp2), (3, .string o18), (4, iv o19)] [] [fRep (rL r_api_Stitch) (.slice ad1 p0.length cp2) p0]) ?_ (fun a w hI => ?_)
 rotate_left
 ·obtain ⟨o18, o19, rfl, S⟩ := hI
  have h := g21
  clear g21
  try dsimp only at h
  refine sRegion ?_
  refine sMm S rfl rfl rfl rfl rfl fun a S => ?_
  refine sBin _ S (wN rfl) rfl rfl rfl (bAdd _ _ _ _ o19 1) rfl (lb rfl) fun a S => ?_
  refine sMa S rfl rfl rfl rfl rfl fun a S => ?_
  exact lT (⟨(o18, w64 (o19 + 1)), (Option.some.inj h).symm, (S.fix [] [0] (by decide) rfl rfl rfl)⟩)
 refine wp_block ?_
 obtain ⟨t23, h, g24⟩ := bindSome h
 refine sCut (fun a w => ∃ o22, o22 = t23 ∧ St [] E [] w0 59 a w [(0, .slice ad1 p0.length cp2), (3, .string o22), (4, iv s10)] [] [fRep (rL r_api_Stitch) (.slice ad1 p0.length cp2) p0]) ?_ (fun a w hI => ?_)
 ·refine sSeq (fun K25 hK25 => ?_)
  refine sRegion ?_
  refine sMm S rfl rfl rfl rfl rfl fun a S => ?_
  refine sBin _ S (wN rfl) rfl rfl rfl (bGt _ _ _ _ .i64 s10 0) rfl (lb rfl) fun a S => ?_
  refine lT (hK25 _ _ ?_)
  rcases iteSome h with ⟨hc26, h⟩ | ⟨hc26, h⟩
  rotate_left
  ·refine sCondF S rfl hc26 ?_
   exact wp_skip (leafT (⟨s9, Option.some.inj h, S.fix [] [0] (by decide) rfl rfl rfl⟩))
  refine sCondT S rfl hc26 ?_
  refine sRegion ?_
  refine sMm S rfl rfl rfl rfl rfl fun a S => ?_
  obtain ⟨z27, hx28, h⟩ := bindSome h
  refine sBin _ S (wN rfl) rfl rfl rfl (bAddS _ _ _ _ (x := s9) (y := (⟨#[32]⟩ : ByteArray)) hx28) rfl (lb rfl) fun a S => ?_
  refine sMa S rfl rfl rfl rfl rfl fun a S => ?_
  exact lT (⟨z27, Option.some.inj h, S.fix [] [0] (by decide) rfl rfl rfl⟩)
 obtain ⟨o22, rfl, S⟩ := hI
 have h := g24
 clear g24
 try dsimp only at h
 refine sSeq (fun K29 hK29 => ?_)
 refine sRegion ?_
 refine sMm S rfl rfl rfl rfl rfl fun a S => ?_
 refine sMm S rfl rfl rfl rfl rfl fun a S => ?_
 refine sMm S rfl rfl rfl rfl rfl fun a S => ?_
 obtain ⟨x30, hx31, h⟩ := bindSome h
 obtain ⟨q32, hq33, S⟩ := pIdx (P := Try.prog) (r := r_api_Stitch) (v := .slice ad1 p0.length cp2) (xs := p0) (j := s10) 47 81 0 S Try.underlying47 rfl rfl hx31
 refine sIdxV S (wN rfl) rfl rfl rfl hq33 rfl (lb rfl) fun a S => ?_
 obtain ⟨u34, S⟩ := pLoad (r := r_api_Stitch) (q := q32) (x := x30) 0 S rfl
 obtain rfl : u34 = .agg #[.int .u8 x30.Kind, .bool x30.Purl, iv x30.A, iv x30.B] := S.mem.know (i := 1) (e := fRep r_api_Stitch (u34) x30) rfl
 refine sLoadVN (vq := q32) 0 [.int .u8 x30.Kind, .bool x30.Purl, iv x30.A, iv x30.B] S (wN rfl) rfl rfl rfl rfl rfl rfl (lb rfl) fun a S => ?_
 obtain ⟨r35, hx36, h⟩ := bindSome h
 have S1 := S.mem
 refine sCallQ (X := Unit) (f := 107) (vs := [.agg #[.int .u8 x30.Kind, .bool x30.Purl, iv x30.A, iv x30.B]]) (val := fun _ => .string r35) S (wN rfl) rfl callee107 rfl (S1.quiet [1] rfl) (fun E1 w1 S1 => c_raddleref25_one E1 w1 x30 (.agg #[.int .u8 x30.Kind, .bool x30.Purl, iv x30.A, iv x30.B]) r35 hx36 S1) rfl (lb rfl) fun _ a w S => ?_
 obtain ⟨z37, hx38, h⟩ := bindSome h
 refine sBin _ S (wN rfl) rfl rfl rfl (bAddS _ _ _ _ (x := o22) (y := r35) hx38) rfl (lb rfl) fun a S => ?_
 refine sMa S rfl rfl rfl rfl rfl fun a S => ?_
 refine lT (hK29 _ _ ?_)
 refine sSeq (fun K39 hK39 => ?_)
 refine sRegion ?_
 refine sMa S rfl rfl rfl rfl rfl fun a S => ?_
 refine lT (hK39 _ _ ?_)
 obtain ⟨t42, h, g43⟩ := bindSome h
 refine sCut (fun a w => ∃ o40, ∃ o41, (o40, o41) = t42 ∧ St [] E [] w0 59 a w [(0, .slice ad1 p0.length cp2), (3, .string z37), (4, iv o40), (5, iv o41)] [] [fRep (rL r_api_Stitch) (.slice ad1 p0.length cp2) p0]) ?_ (fun a w hI => ?_)
 rotate_left
 ·obtain ⟨o40, o41, rfl, S⟩ := hI
  have h := g43
  clear g43
  try dsimp only at h
  refine sSeq (fun K95 hK95 => ?_)
  refine sRegion ?_
  refine sMm S rfl rfl rfl rfl rfl fun a S => ?_
  refine sBin _ S (wN rfl) rfl rfl rfl (bGt _ _ _ _ .i64 o41 1) rfl (lb rfl) fun a S => ?_
  refine lT (hK95 _ _ ?_)
  rcases iteSome h with ⟨hc96, h⟩ | ⟨hc96, h⟩
  rotate_left
  ·refine sCondF S rfl hc96 ?_
   exact wp_skip (leafB (leafT (⟨z37, o40, Option.some.inj h, S.fix [] [0] (by decide) rfl rfl rfl⟩)))
  refine sCondT S rfl hc96 ?_
  refine sRegion ?_
  refine sMm S rfl rfl rfl rfl rfl fun a S => ?_
  refine sMm S rfl rfl rfl rfl rfl fun a S => ?_
  obtain ⟨r97, hx98, h⟩ := bindSome h
  have S1 := S.mem
  refine sCallQ (X := Unit) (f := 108) (vs := [iv o41]) (val := fun _ => .string r97) S (wN rfl) rfl callee108 rfl (S1.quiet [] rfl) (fun E1 w1 S1 => c_raddleref25_Decimal E1 w1 o41 r97 hx98 S1) rfl (lb rfl) fun _ a w S => ?_
  obtain ⟨z99, hx100, h⟩ := bindSome h
  refine sBin _ S (wN rfl) rfl rfl rfl (bAddS _ _ _ _ (x := z37) (y := r97) hx100) rfl (lb rfl) fun a S => ?_
  refine sMa S rfl rfl rfl rfl rfl fun a S => ?_
  exact leafL (leafB (leafT (⟨z99, o40, Option.some.inj h, S.fix [] [0] (by decide) rfl rfl rfl⟩)))
 refine wp_block ?_
 obtain ⟨t48, hl, g47⟩ := bindSome h
 refine sLoop hl (fun s0 a w => match s0 with | (s44, s45) => St [] E [] w0 59 a w [(0, .slice ad1 p0.length cp2), (3, .string z37), (4, iv s44), (5, iv s45)] [] [fRep (rL r_api_Stitch) (.slice ad1 p0.length cp2) p0]) (S.fix [] [3] (by decide) rfl rfl rfl) ?_
 clear hl h
 intro s0 a w c0 hI h hu46
 obtain ⟨s44, s45⟩ := s0
 unfold raddleref25_Written_l1 at h
 dsimp only at h hI
 have S := hI
 refine sSeq (fun K51 hK51 => ?_)
 obtain ⟨t53, h, g54⟩ := bindSome h
 refine sCut (fun a w => ∃ o52, o52 = t53 ∧ St [] E [] w0 59 a w [(0, .slice ad1 p0.length cp2), (3, .string z37), (4, iv s44), (5, iv s45), (47, .bool o52)] [] [fRep (rL r_api_Stitch) (.slice ad1 p0.length cp2) p0]) ?_ (fun a w hI => ?_)
 rotate_left
 ·obtain ⟨o52, rfl, S⟩ := hI
  have h := g54
  clear g54
  try dsimp only at h
  rcases iteSome h with ⟨hc93, h⟩ | ⟨hc93, h⟩
  rotate_left
  ·refine sCondF S rfl hc93 ?_
   obtain rfl := Option.some.inj h
   obtain rfl := hu46 _ rfl
   have h := g47
   clear g47
   try dsimp only at h
   exact wp_exit (xThen (xThen (xHit (leafT (⟨s44, s45, Option.some.inj h, S.fix [] [0] (by decide) rfl rfl rfl⟩)))))
  refine sCondT S rfl hc93 ?_
  refine wp_skip (leafT (hK51 _ _ ?_))
  refine wp_block ?_
  refine sSeq (fun K94 hK94 => ?_)
  refine sRegion ?_
  refine sMm S rfl rfl rfl rfl rfl fun a S => ?_
  refine sBin _ S (wN rfl) rfl rfl rfl (bAdd _ _ _ _ s44 1) rfl (lb rfl) fun a S => ?_
  refine sMa S rfl rfl rfl rfl rfl fun a S => ?_
  refine lT (hK94 _ _ ?_)
  refine sRegion ?_
  refine sMm S rfl rfl rfl rfl rfl fun a S => ?_
  refine sBin _ S (wN rfl) rfl rfl rfl (bAdd _ _ _ _ s45 1) rfl (lb rfl) fun a S => ?_
  refine sMa S rfl rfl rfl rfl rfl fun a S => ?_
  exact leafL (leafB (leafT (⟨(w64 (s44 + 1), w64 (s45 + 1)), (Option.some.inj h).symm, (S.fix [] [0] (by decide) rfl rfl rfl)⟩)))
 obtain ⟨x55, hx56, h⟩ := bindSome h
 rcases iteSome h with ⟨hc62, h⟩ | ⟨hc62, h⟩
 rotate_left
 ·obtain ⟨q88, hq89, S⟩ := pIdx (P := Try.prog) (r := r_api_Stitch) (v := .slice ad1 p0.length cp2) (xs := p0) (j := s44) 47 81 0 S Try.underlying47 rfl rfl hx56
  obtain ⟨q90, hq91, S⟩ := pFld (P := Try.prog) (r := r_api_Stitch) (s2 := (rI .u8)) (g := (·.Kind)) (q := q88) (z := x55) 81 0 0 0 S rfl rfl comp_api_Stitch_Kind
  obtain ⟨u92, S⟩ := pLoad (r := (rI .u8)) (q := q90) (x := x55.Kind) 0 S rfl
  obtain rfl : u92 = .int .u8 x55.Kind := S.mem.know (i := 1) (e := fRep (rI .u8) (u92) x55.Kind) rfl
  refine sDraw (nf := []) (W := [(0, 23, .slice ad1 p0.length cp2), (1, 24, iv s44), (2, 25, q88), (3, 26, q90), (4, 27, .int .u8 x55.Kind), (5, 28, .bool (x55.Kind == 1)), (6, 29, .bool (x55.Kind == 1)), (7, 30, undef), (8, 31, undef), (9, 32, undef), (10, 33, undef), (11, 34, undef), (12, 35, .bool false), (13, 36, .bool false), (14, 37, undef), (15, 38, undef), (16, 39, undef), (17, 40, undef), (18, 41, undef), (19, 42, undef), (20, 43, undef), (21, 44, undef), (22, 45, undef), (23, 46, undef), (24, 47, .bool false)]) rfl S ?_
  refine node_by (A := anc_raddleref25_Written_0) 25 (by kernel_rfl) (by kernel_rfl) (by kernel_rfl) (by kernel_rfl) (by kernel_rfl) [0, 1, 2, 3, 4, 5, 6, 7, 8, 9, 10, 11, 12, 13, 14, 15, 16, 17, 18, 19, 20, 21, 22, 23, 24] (by kernel_rfl) (by decide) (by decide) (fF ?_ (fF ?_ (fF ?_ (fF ?_ (fF ?_ (fF ?_ (fF ?_ (fF ?_ (fF ?_ (fF ?_ (fF ?_ (fF ?_ (fF ?_ (fF ?_ (fF ?_ (fF ?_ (fF ?_ (fF ?_ (fF ?_ (fF ?_ (fF ?_ (fF ?_ (fF ?_ (fF ?_ (fF ?_ (trivial)))))))))))))))))))))))))) [(0, .slice ad1 p0.length cp2), (3, .string z37), (4, iv s44), (5, iv s45), (30, undef), (31, undef), (32, undef), (33, undef), (34, undef), (37, undef), (38, undef), (39, undef), (40, undef), (41, undef), (42, undef), (43, undef), (44, undef), (45, undef), (46, undef), (47, .bool false)] (fin_of [none, none, none, none, some 7, some 8, some 9, some 10, some 11, some 14, some 15, some 16, some 17, some 18, some 19, some 20, some 21, some 22, some 23, some 24] rfl (by kernel_rfl) (by kernel_rfl)) (fun _ a w S => ?_)
  ·exact fM 0 none rfl rfl rfl rfl (.inl rfl) rfl rfl rfl
  ·exact fM 1 none rfl rfl rfl rfl (.inl rfl) rfl rfl rfl
  ·refine fJ [(23, _), (24, _)] 2 [some 0, some 1] fun G a w S => ?_
   exact sIdxV S (wN rfl) rfl rfl rfl hq89 rfl (lb rfl) fun a S => leafL ⟨rfl, S⟩
  ·refine fJ [(25, _)] 3 [some 2] fun G a w S => ?_
   exact sFldV (q := q88) S (wN rfl) rfl rfl hq91 rfl (lb rfl) fun a S => leafL ⟨rfl, S⟩
  ·refine fJ [(26, _)] 4 [some 3] fun G a w S => ?_
   exact sLoadV1 (vq := q90) 0 (.int .u8 x55.Kind) S (wN rfl) rfl rfl rfl rfl rfl (lb rfl) fun a S => leafL ⟨rfl, S⟩
  ·refine fJ [(27, _)] 5 [some 4] fun G a w S => ?_
   exact sBin _ S (wN rfl) rfl rfl rfl (bEq _ _ _ _ .u8 x55.Kind 1) rfl (lb rfl) fun a S => leafL ⟨rfl, S⟩
  ·exact fM 6 (some 5) rfl rfl rfl rfl (.inl rfl) rfl rfl rfl
  ·refine fJ [(4, _), (29, _)] 7 [none, some 6] fun G a w S => ?_
   exact sSk S rfl rfl rfl hc62 rfl rfl fun a S => leafL ⟨rfl, S⟩
  ·refine fJ [(30, _), (29, _)] 8 [some 7, some 6] fun G a w S => ?_
   exact sSk S rfl rfl rfl hc62 rfl rfl fun a S => leafL ⟨rfl, S⟩
  ·refine fJ [(0, _), (29, _)] 9 [none, some 6] fun G a w S => ?_
   exact sSk S rfl rfl rfl hc62 rfl rfl fun a S => leafL ⟨rfl, S⟩
  ·refine fJ [(32, _), (29, _)] 10 [some 9, some 6] fun G a w S => ?_
   exact sSk S rfl rfl rfl hc62 rfl rfl fun a S => leafL ⟨rfl, S⟩
  ·refine fJ [(31, _), (33, _), (29, _)] 11 [some 8, some 10, some 6] fun G a w S => ?_
   exact sSk S rfl rfl rfl hc62 rfl rfl fun a S => leafL ⟨rfl, S⟩
  ·refine fJ [(29, _), (34, _)] 12 [some 6, some 11] fun G a w S => ?_
   exact sPickF (.bool false) S (wN rfl) rfl rfl hc62 rfl rfl (lb rfl) fun a S => leafL ⟨rfl, S⟩
  ·exact fM 13 (some 12) rfl rfl rfl rfl (.inl rfl) rfl rfl rfl
  ·refine fJ [(0, _), (36, _)] 14 [none, some 13] fun G a w S => ?_
   exact sSk S rfl rfl rfl rfl rfl rfl fun a S => leafL ⟨rfl, S⟩
  ·refine fJ [(4, _), (36, _)] 15 [none, some 13] fun G a w S => ?_
   exact sSk S rfl rfl rfl rfl rfl rfl fun a S => leafL ⟨rfl, S⟩
  ·refine fJ [(38, _), (36, _)] 16 [some 15, some 13] fun G a w S => ?_
   exact sSk S rfl rfl rfl rfl rfl rfl fun a S => leafL ⟨rfl, S⟩
  ·refine fJ [(37, _), (39, _), (36, _)] 17 [some 14, some 16, some 13] fun G a w S => ?_
   exact sSk S rfl rfl rfl rfl rfl rfl fun a S => leafL ⟨rfl, S⟩
  ·refine fJ [(40, _), (36, _)] 18 [some 17, some 13] fun G a w S => ?_
   exact sSk S rfl rfl rfl rfl rfl rfl fun a S => leafL ⟨rfl, S⟩
  ·refine fJ [(0, _), (36, _)] 19 [none, some 13] fun G a w S => ?_
   exact sSk S rfl rfl rfl rfl rfl rfl fun a S => leafL ⟨rfl, S⟩
  ·refine fJ [(4, _), (36, _)] 20 [none, some 13] fun G a w S => ?_
   exact sSk S rfl rfl rfl rfl rfl rfl fun a S => leafL ⟨rfl, S⟩
  ·refine fJ [(42, _), (43, _), (36, _)] 21 [some 19, some 20, some 13] fun G a w S => ?_
   exact sSk S rfl rfl rfl rfl rfl rfl fun a S => leafL ⟨rfl, S⟩
  ·refine fJ [(44, _), (36, _)] 22 [some 21, some 13] fun G a w S => ?_
   exact sSk S rfl rfl rfl rfl rfl rfl fun a S => leafL ⟨rfl, S⟩
  ·refine fJ [(41, _), (45, _), (36, _)] 23 [some 18, some 22, some 13] fun G a w S => ?_
   exact sSk S rfl rfl rfl rfl rfl rfl fun a S => leafL ⟨rfl, S⟩
  ·refine fJ [(36, _), (46, _)] 24 [some 13, some 23] fun G a w S => ?_
   exact sPickF (.bool false) S (wN rfl) rfl rfl rfl rfl rfl (lb rfl) fun a S => leafL ⟨rfl, S⟩
  exact leafT (⟨false, Option.some.inj h, S.fix [] [4] (by decide) rfl rfl rfl⟩)
 rcases iteSome h with ⟨hc63, h⟩ | ⟨hc63, h⟩
 rotate_left
 ·obtain ⟨q83, hq84, S⟩ := pIdx (P := Try.prog) (r := r_api_Stitch) (v := .slice ad1 p0.length cp2) (xs := p0) (j := s44) 47 81 0 S Try.underlying47 rfl rfl hx56
  obtain ⟨q85, hq86, S⟩ := pFld (P := Try.prog) (r := r_api_Stitch) (s2 := (rI .u8)) (g := (·.Kind)) (q := q83) (z := x55) 81 0 0 0 S rfl rfl comp_api_Stitch_Kind
  obtain ⟨u87, S⟩ := pLoad (r := (rI .u8)) (q := q85) (x := x55.Kind) 0 S rfl
  obtain rfl : u87 = .int .u8 x55.Kind := S.mem.know (i := 1) (e := fRep (rI .u8) (u87) x55.Kind) rfl
  refine sDraw (nf := []) (W := [(0, 23, .slice ad1 p0.length cp2), (1, 24, iv s44), (2, 25, q83), (3, 26, q85), (4, 27, .int .u8 x55.Kind), (5, 28, .bool (x55.Kind == 1)), (6, 29, .bool (x55.Kind == 1)), (7, 30, iv s44), (8, 31, iv (w64 (s44 + 1))), (9, 32, .slice ad1 p0.length cp2), (10, 33, iv (p0.length : Int)), (11, 34, .bool (decide ((w64 (s44 + 1)) < (p0.length : Int)))), (12, 35, .bool (decide ((w64 (s44 + 1)) < (p0.length : Int)))), (13, 36, .bool (decide ((w64 (s44 + 1)) < (p0.length : Int)))), (14, 37, undef), (15, 38, undef), (16, 39, undef), (17, 40, undef), (18, 41, undef), (19, 42, undef), (20, 43, undef), (21, 44, undef), (22, 45, undef), (23, 46, undef), (24, 47, .bool false)]) rfl S ?_
  refine node_by (A := anc_raddleref25_Written_0) 25 (by kernel_rfl) (by kernel_rfl) (by kernel_rfl) (by kernel_rfl) (by kernel_rfl) [0, 1, 2, 3, 4, 5, 6, 7, 8, 9, 10, 11, 12, 13, 14, 15, 16, 17, 18, 19, 20, 21, 22, 23, 24] (by kernel_rfl) (by decide) (by decide) (fF ?_ (fF ?_ (fF ?_ (fF ?_ (fF ?_ (fF ?_ (fF ?_ (fF ?_ (fF ?_ (fF ?_ (fF ?_ (fF ?_ (fF ?_ (fF ?_ (fF ?_ (fF ?_ (fF ?_ (fF ?_ (fF ?_ (fF ?_ (fF ?_ (fF ?_ (fF ?_ (fF ?_ (fF ?_ (trivial)))))))))))))))))))))))))) [(0, .slice ad1 p0.length cp2), (3, .string z37), (4, iv s44), (5, iv s45), (30, iv s44), (31, iv (w64 (s44 + 1))), (32, .slice ad1 p0.length cp2), (33, iv (p0.length : Int)), (34, .bool (decide ((w64 (s44 + 1)) < (p0.length : Int)))), (37, undef), (38, undef), (39, undef), (40, undef), (41, undef), (42, undef), (43, undef), (44, undef), (45, undef), (46, undef), (47, .bool false)] (fin_of [none, none, none, none, some 7, some 8, some 9, some 10, some 11, some 14, some 15, some 16, some 17, some 18, some 19, some 20, some 21, some 22, some 23, some 24] rfl (by kernel_rfl) (by kernel_rfl)) (fun _ a w S => ?_)
  ·exact fM 0 none rfl rfl rfl rfl (.inl rfl) rfl rfl rfl
  ·exact fM 1 none rfl rfl rfl rfl (.inl rfl) rfl rfl rfl
  ·refine fJ [(23, _), (24, _)] 2 [some 0, some 1] fun G a w S => ?_
   exact sIdxV S (wN rfl) rfl rfl rfl hq84 rfl (lb rfl) fun a S => leafL ⟨rfl, S⟩
  ·refine fJ [(25, _)] 3 [some 2] fun G a w S => ?_
   exact sFldV (q := q83) S (wN rfl) rfl rfl hq86 rfl (lb rfl) fun a S => leafL ⟨rfl, S⟩
  ·refine fJ [(26, _)] 4 [some 3] fun G a w S => ?_
   exact sLoadV1 (vq := q85) 0 (.int .u8 x55.Kind) S (wN rfl) rfl rfl rfl rfl rfl (lb rfl) fun a S => leafL ⟨rfl, S⟩
  ·refine fJ [(27, _)] 5 [some 4] fun G a w S => ?_
   exact sBin _ S (wN rfl) rfl rfl rfl (bEq _ _ _ _ .u8 x55.Kind 1) rfl (lb rfl) fun a S => leafL ⟨rfl, S⟩
  ·exact fM 6 (some 5) rfl rfl rfl rfl (.inl rfl) rfl rfl rfl
  ·refine fJ [(4, _), (29, _)] 7 [none, some 6] fun G a w S => ?_
   exact sMove (iv s44) S (wG 6 true 29 rfl rfl rfl hc62) (.inl rfl) rfl rfl (lb rfl) fun a S => leafL ⟨rfl, S⟩
  ·refine fJ [(30, _), (29, _)] 8 [some 7, some 6] fun G a w S => ?_
   exact sBin _ S (wG 6 true 29 rfl rfl rfl hc62) rfl rfl rfl (bAdd _ _ _ _ s44 1) rfl (lb rfl) fun a S => leafL ⟨rfl, S⟩
  ·refine fJ [(0, _), (29, _)] 9 [none, some 6] fun G a w S => ?_
   exact sMove (.slice ad1 p0.length cp2) S (wG 6 true 29 rfl rfl rfl hc62) (.inl rfl) rfl rfl (lb rfl) fun a S => leafL ⟨rfl, S⟩
  ·refine fJ [(32, _), (29, _)] 10 [some 9, some 6] fun G a w S => ?_
   exact sLen S (wG 6 true 29 rfl rfl rfl hc62) rfl Try.underlying47 rfl rfl (lb rfl) fun a S => leafL ⟨rfl, S⟩
  ·refine fJ [(31, _), (33, _), (29, _)] 11 [some 8, some 10, some 6] fun G a w S => ?_
   exact sBin _ S (wG 6 true 29 rfl rfl rfl hc62) rfl rfl rfl (bLt _ _ _ _ .i64 (w64 (s44 + 1)) (p0.length : Int)) rfl (lb rfl) fun a S => leafL ⟨rfl, S⟩
  ·refine fJ [(29, _), (34, _)] 12 [some 6, some 11] fun G a w S => ?_
   exact sPickT (.bool (decide ((w64 (s44 + 1)) < (p0.length : Int)))) S (wN rfl) rfl rfl hc62 rfl rfl (lb rfl) fun a S => leafL ⟨rfl, S⟩
  ·exact fM 13 (some 12) rfl rfl rfl rfl (.inl rfl) rfl rfl rfl
  ·refine fJ [(0, _), (36, _)] 14 [none, some 13] fun G a w S => ?_
   exact sSk S rfl rfl rfl hc63 rfl rfl fun a S => leafL ⟨rfl, S⟩
  ·refine fJ [(4, _), (36, _)] 15 [none, some 13] fun G a w S => ?_
   exact sSk S rfl rfl rfl hc63 rfl rfl fun a S => leafL ⟨rfl, S⟩
  ·refine fJ [(38, _), (36, _)] 16 [some 15, some 13] fun G a w S => ?_
   exact sSk S rfl rfl rfl hc63 rfl rfl fun a S => leafL ⟨rfl, S⟩
  ·refine fJ [(37, _), (39, _), (36, _)] 17 [some 14, some 16, some 13] fun G a w S => ?_
   exact sSk S rfl rfl rfl hc63 rfl rfl fun a S => leafL ⟨rfl, S⟩
  ·refine fJ [(40, _), (36, _)] 18 [some 17, some 13] fun G a w S => ?_
   exact sSk S rfl rfl rfl hc63 rfl rfl fun a S => leafL ⟨rfl, S⟩
  ·refine fJ [(0, _), (36, _)] 19 [none, some 13] fun G a w S => ?_
   exact sSk S rfl rfl rfl hc63 rfl rfl fun a S => leafL ⟨rfl, S⟩
  ·refine fJ [(4, _), (36, _)] 20 [none, some 13] fun G a w S => ?_
   exact sSk S rfl rfl rfl hc63 rfl rfl fun a S => leafL ⟨rfl, S⟩
  ·refine fJ [(42, _), (43, _), (36, _)] 21 [some 19, some 20, some 13] fun G a w S => ?_
   exact sSk S rfl rfl rfl hc63 rfl rfl fun a S => leafL ⟨rfl, S⟩
  ·refine fJ [(44, _), (36, _)] 22 [some 21, some 13] fun G a w S => ?_
   exact sSk S rfl rfl rfl hc63 rfl rfl fun a S => leafL ⟨rfl, S⟩
  ·refine fJ [(41, _), (45, _), (36, _)] 23 [some 18, some 22, some 13] fun G a w S => ?_
   exact sSk S rfl rfl rfl hc63 rfl rfl fun a S => leafL ⟨rfl, S⟩
  ·refine fJ [(36, _), (46, _)] 24 [some 13, some 23] fun G a w S => ?_
   exact sPickF (.bool false) S (wN rfl) rfl rfl hc63 rfl rfl (lb rfl) fun a S => leafL ⟨rfl, S⟩
  exact leafT (⟨false, Option.some.inj h, S.fix [] [4] (by decide) rfl rfl rfl⟩)
 obtain ⟨x64, hx65, h⟩ := bindSome h
 obtain ⟨q72, hq73, S⟩ := pIdx (P := Try.prog) (r := r_api_Stitch) (v := .slice ad1 p0.length cp2) (xs := p0) (j := s44) 47 81 0 S Try.underlying47 rfl rfl hx56
 obtain ⟨q74, hq75, S⟩ := pFld (P := Try.prog) (r := r_api_Stitch) (s2 := (rI .u8)) (g := (·.Kind)) (q := q72) (z := x55) 81 0 0 0 S rfl rfl comp_api_Stitch_Kind
 obtain ⟨u76, S⟩ := pLoad (r := (rI .u8)) (q := q74) (x := x55.Kind) 0 S rfl
 obtain rfl : u76 = .int .u8 x55.Kind := S.mem.know (i := 1) (e := fRep (rI .u8) (u76) x55.Kind) rfl
 obtain ⟨q77, hq78, S⟩ := pIdx (P := Try.prog) (r := r_api_Stitch) (v := .slice ad1 p0.length cp2) (xs := p0) (j := w64 (s44 + 1)) 47 81 4 S Try.underlying47 rfl rfl hx65
 obtain ⟨u79, S⟩ := pLoad (r := r_api_Stitch) (q := q77) (x := x64) 0 S rfl
 obtain rfl : u79 = .agg #[.int .u8 x64.Kind, .bool x64.Purl, iv x64.A, iv x64.B] := S.mem.know (i := 1) (e := fRep r_api_Stitch (u79) x64) rfl
 obtain ⟨q80, hq81, S⟩ := pIdx (P := Try.prog) (r := r_api_Stitch) (v := .slice ad1 p0.length cp2) (xs := p0) (j := s44) 47 81 7 S Try.underlying47 rfl rfl hx56
 obtain ⟨u82, S⟩ := pLoad (r := r_api_Stitch) (q := q80) (x := x55) 0 S rfl
 obtain rfl : u82 = .agg #[.int .u8 x55.Kind, .bool x55.Purl, iv x55.A, iv x55.B] := S.mem.know (i := 1) (e := fRep r_api_Stitch (u82) x55) rfl
 refine sDraw (nf := []) (W := [(0, 23, .slice ad1 p0.length cp2), (1, 24, iv s44), (2, 25, q72), (3, 26, q74), (4, 27, .int .u8 x55.Kind), (5, 28, .bool (x55.Kind == 1)), (6, 29, .bool (x55.Kind == 1)), (7, 30, iv s44), (8, 31, iv (w64 (s44 + 1))), (9, 32, .slice ad1 p0.length cp2), (10, 33, iv (p0.length : Int)), (11, 34, .bool (decide ((w64 (s44 + 1)) < (p0.length : Int)))), (12, 35, .bool (decide ((w64 (s44 + 1)) < (p0.length : Int)))), (13, 36, .bool (decide ((w64 (s44 + 1)) < (p0.length : Int)))), (14, 37, .slice ad1 p0.length cp2), (15, 38, iv s44), (16, 39, iv (w64 (s44 + 1))), (17, 40, q77), (18, 41, .agg #[.int .u8 x64.Kind, .bool x64.Purl, iv x64.A, iv x64.B]), (19, 42, .slice ad1 p0.length cp2), (20, 43, iv s44), (21, 44, q80), (22, 45, .agg #[.int .u8 x55.Kind, .bool x55.Purl, iv x55.A, iv x55.B]), (23, 46, .bool ((x64.Kind == x55.Kind) && ((x64.Purl == x55.Purl) && ((x64.A == x55.A) && ((x64.B == x55.B) && true))))), (24, 47, .bool ((x64.Kind == x55.Kind) && ((x64.Purl == x55.Purl) && ((x64.A == x55.A) && ((x64.B == x55.B) && true)))))]) rfl S ?_
 refine node_by (A := anc_raddleref25_Written_0) 25 (by kernel_rfl) (by kernel_rfl) (by kernel_rfl) (by kernel_rfl) (by kernel_rfl) [0, 1, 2, 3, 4, 5, 6, 7, 8, 9, 10, 11, 12, 13, 14, 15, 16, 17, 18, 19, 20, 21, 22, 23, 24] (by kernel_rfl) (by decide) (by decide) (fF ?_ (fF ?_ (fF ?_ (fF ?_ (fF ?_ (fF ?_ (fF ?_ (fF ?_ (fF ?_ (fF ?_ (fF ?_ (fF ?_ (fF ?_ (fF ?_ (fF ?_ (fF ?_ (fF ?_ (fF ?_ (fF ?_ (fF ?_ (fF ?_ (fF ?_ (fF ?_ (fF ?_ (fF ?_ (trivial)))))))))))))))))))))))))) [(0, .slice ad1 p0.length cp2), (3, .string z37), (4, iv s44), (5, iv s45), (30, iv s44), (31, iv (w64 (s44 + 1))), (32, .slice ad1 p0.length cp2), (33, iv (p0.length : Int)), (34, .bool (decide ((w64 (s44 + 1)) < (p0.length : Int)))), (37, .slice ad1 p0.length cp2), (38, iv s44), (39, iv (w64 (s44 + 1))), (40, q77), (41, .agg #[.int .u8 x64.Kind, .bool x64.Purl, iv x64.A, iv x64.B]), (42, .slice ad1 p0.length cp2), (43, iv s44), (44, q80), (45, .agg #[.int .u8 x55.Kind, .bool x55.Purl, iv x55.A, iv x55.B]), (46, .bool ((x64.Kind == x55.Kind) && ((x64.Purl == x55.Purl) && ((x64.A == x55.A) && ((x64.B == x55.B) && true))))), (47, .bool ((x64.Kind == x55.Kind) && ((x64.Purl == x55.Purl) && ((x64.A == x55.A) && ((x64.B == x55.B) && true)))))] (fin_of [none, none, none, none, some 7, some 8, some 9, some 10, some 11, some 14, some 15, some 16, some 17, some 18, some 19, some 20, some 21, some 22, some 23, some 24] rfl (by kernel_rfl) (by kernel_rfl)) (fun _ a w S => ?_)
 ·exact fM 0 none rfl rfl rfl rfl (.inl rfl) rfl rfl rfl
 ·exact fM 1 none rfl rfl rfl rfl (.inl rfl) rfl rfl rfl
 ·refine fJ [(23, _), (24, _)] 2 [some 0, some 1] fun G a w S => ?_
  exact sIdxV S (wN rfl) rfl rfl rfl hq73 rfl (lb rfl) fun a S => leafL ⟨rfl, S⟩
 ·refine fJ [(25, _)] 3 [some 2] fun G a w S => ?_
  exact sFldV (q := q72) S (wN rfl) rfl rfl hq75 rfl (lb rfl) fun a S => leafL ⟨rfl, S⟩
 ·refine fJ [(26, _)] 4 [some 3] fun G a w S => ?_
  exact sLoadV1 (vq := q74) 6 (.int .u8 x55.Kind) S (wN rfl) rfl rfl rfl rfl rfl (lb rfl) fun a S => leafL ⟨rfl, S⟩
 ·refine fJ [(27, _)] 5 [some 4] fun G a w S => ?_
  exact sBin _ S (wN rfl) rfl rfl rfl (bEq _ _ _ _ .u8 x55.Kind 1) rfl (lb rfl) fun a S => leafL ⟨rfl, S⟩
 ·exact fM 6 (some 5) rfl rfl rfl rfl (.inl rfl) rfl rfl rfl
 ·refine fJ [(4, _), (29, _)] 7 [none, some 6] fun G a w S => ?_
  exact sMove (iv s44) S (wG 6 true 29 rfl rfl rfl hc62) (.inl rfl) rfl rfl (lb rfl) fun a S => leafL ⟨rfl, S⟩
 ·refine fJ [(30, _), (29, _)] 8 [some 7, some 6] fun G a w S => ?_
  exact sBin _ S (wG 6 true 29 rfl rfl rfl hc62) rfl rfl rfl (bAdd _ _ _ _ s44 1) rfl (lb rfl) fun a S => leafL ⟨rfl, S⟩
 ·refine fJ [(0, _), (29, _)] 9 [none, some 6] fun G a w S => ?_
  exact sMove (.slice ad1 p0.length cp2) S (wG 6 true 29 rfl rfl rfl hc62) (.inl rfl) rfl rfl (lb rfl) fun a S => leafL ⟨rfl, S⟩
 ·refine fJ [(32, _), (29, _)] 10 [some 9, some 6] fun G a w S => ?_
  exact sLen S (wG 6 true 29 rfl rfl rfl hc62) rfl Try.underlying47 rfl rfl (lb rfl) fun a S => leafL ⟨rfl, S⟩
 ·refine fJ [(31, _), (33, _), (29, _)] 11 [some 8, some 10, some 6] fun G a w S => ?_
  exact sBin _ S (wG 6 true 29 rfl rfl rfl hc62) rfl rfl rfl (bLt _ _ _ _ .i64 (w64 (s44 + 1)) (p0.length : Int)) rfl (lb rfl) fun a S => leafL ⟨rfl, S⟩
 ·refine fJ [(29, _), (34, _)] 12 [some 6, some 11] fun G a w S => ?_
  exact sPickT (.bool (decide ((w64 (s44 + 1)) < (p0.length : Int)))) S (wN rfl) rfl rfl hc62 rfl rfl (lb rfl) fun a S => leafL ⟨rfl, S⟩
 ·exact fM 13 (some 12) rfl rfl rfl rfl (.inl rfl) rfl rfl rfl
 ·refine fJ [(0, _), (36, _)] 14 [none, some 13] fun G a w S => ?_
  exact sMove (.slice ad1 p0.length cp2) S (wG 13 true 36 rfl rfl rfl hc63) (.inl rfl) rfl rfl (lb rfl) fun a S => leafL ⟨rfl, S⟩
 ·refine fJ [(4, _), (36, _)] 15 [none, some 13] fun G a w S => ?_
  exact sMove (iv s44) S (wG 13 true 36 rfl rfl rfl hc63) (.inl rfl) rfl rfl (lb rfl) fun a S => leafL ⟨rfl, S⟩
 ·refine fJ [(38, _), (36, _)] 16 [some 15, some 13] fun G a w S => ?_
  exact sBin _ S (wG 13 true 36 rfl rfl rfl hc63) rfl rfl rfl (bAdd _ _ _ _ s44 1) rfl (lb rfl) fun a S => leafL ⟨rfl, S⟩
 ·refine fJ [(37, _), (39, _), (36, _)] 17 [some 14, some 16, some 13] fun G a w S => ?_
  exact sIdxV S (wG 13 true 36 rfl rfl rfl hc63) rfl rfl rfl hq78 rfl (lb rfl) fun a S => leafL ⟨rfl, S⟩
 ·refine fJ [(40, _), (36, _)] 18 [some 17, some 13] fun G a w S => ?_
  exact sLoadVN (vq := q77) 3 [.int .u8 x64.Kind, .bool x64.Purl, iv x64.A, iv x64.B] S (wG 13 true 36 rfl rfl rfl hc63) rfl rfl rfl rfl rfl rfl (lb rfl) fun a S => leafL ⟨rfl, S⟩
 ·refine fJ [(0, _), (36, _)] 19 [none, some 13] fun G a w S => ?_
  exact sMove (.slice ad1 p0.length cp2) S (wG 13 true 36 rfl rfl rfl hc63) (.inl rfl) rfl rfl (lb rfl) fun a S => leafL ⟨rfl, S⟩
 ·refine fJ [(4, _), (36, _)] 20 [none, some 13] fun G a w S => ?_
  exact sMove (iv s44) S (wG 13 true 36 rfl rfl rfl hc63) (.inl rfl) rfl rfl (lb rfl) fun a S => leafL ⟨rfl, S⟩
 ·refine fJ [(42, _), (43, _), (36, _)] 21 [some 19, some 20, some 13] fun G a w S => ?_
  exact sIdxV S (wG 13 true 36 rfl rfl rfl hc63) rfl rfl rfl hq81 rfl (lb rfl) fun a S => leafL ⟨rfl, S⟩
 ·refine fJ [(44, _), (36, _)] 22 [some 21, some 13] fun G a w S => ?_
  exact sLoadVN (vq := q80) 0 [.int .u8 x55.Kind, .bool x55.Purl, iv x55.A, iv x55.B] S (wG 13 true 36 rfl rfl rfl hc63) rfl rfl rfl rfl rfl rfl (lb rfl) fun a S => leafL ⟨rfl, S⟩
 ·refine fJ [(41, _), (45, _), (36, _)] 23 [some 18, some 22, some 13] fun G a w S => ?_
  exact sBin _ S (wG 13 true 36 rfl rfl rfl hc63) rfl rfl rfl (bEqV _ _ _ _ #[.int .u8 x64.Kind, .bool x64.Purl, iv x64.A, iv x64.B] #[.int .u8 x55.Kind, .bool x55.Purl, iv x55.A, iv x55.B] ((x64.Kind == x55.Kind) && ((x64.Purl == x55.Purl) && ((x64.A == x55.A) && ((x64.B == x55.B) && true)))) (by kernel_rfl) (eqlV_of (by kernel_rfl))) rfl (lb rfl) fun a S => leafL ⟨rfl, S⟩
 ·refine fJ [(36, _), (46, _)] 24 [some 13, some 23] fun G a w S => ?_
  exact sPickT (.bool ((x64.Kind == x55.Kind) && ((x64.Purl == x55.Purl) && ((x64.A == x55.A) && ((x64.B == x55.B) && true))))) S (wN rfl) rfl rfl hc63 rfl rfl (lb rfl) fun a S => leafL ⟨rfl, S⟩
 exact leafT (⟨((x64.Kind == x55.Kind) && ((x64.Purl == x55.Purl) && ((x64.A == x55.A) && ((x64.B == x55.B) && true)))), Option.some.inj h, S.fix [] [10] (by decide) rfl rfl rfl⟩)
end Go.Proofs.Ytffikfajljbmnaa
