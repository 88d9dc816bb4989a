/- CompareRows: walks, tables, laws. -/
import Derived.Test.YtffikfajljbmnaaProg
import Derived.Test.YtffikfajljbmnaaRows
import Derived.Test.YtffikfajljbmnaaMCompareRows5
namespace Go.Proofs.Ytffikfajljbmnaa
open Go.RowKit
noncomputable def raddleref25_Parse_l1 (r11 : (List ByteArray)) : (List api_Stitch × Int) → Option ((List api_Stitch × Int) ⊕ (((List api_Stitch) × Int) ⊕ (List api_Stitch))) := fun s0 => match s0 with
 | (s23, s26) =>
  if decide (s26 < (r11.length : Int)) then
   Option.bind (idxO r11 s26) fun x38 =>
   Option.bind (F_raddleref25_word x38) fun r43 =>
   if !r43.2 then
    some (.inr (.inl (([] : (List api_Stitch)), 12)))
   else
    Option.bind (appO s23 r43.1) fun l53 =>
    if decide (200 < (l53.length : Int)) then
     some (.inr (.inl (([] : (List api_Stitch)), 12)))
    else
     some (.inl (l53, w64 (s26 + 1)))
  else
   some (.inr (.inr s23))
noncomputable def F_raddleref25_Parse (p0 : ByteArray) : Option ((List api_Stitch) × Int) :=
 if decide (3000 < (p0.size : Int)) then
  some (([] : (List api_Stitch)), 12)
 else
  if p0 == (⟨#[]⟩ : ByteArray) then
   some (([] : (List api_Stitch)), 0)
  else
   Option.bind (F_raddleref25_Cut p0 32) fun r11 =>
   Option.bind (α := List api_Stitch ⊕ ((List api_Stitch) × Int)) (
    Option.bind (whileO (raddleref25_Parse_l1 r11) (([] : List api_Stitch), 0)) fun z0 => match z0 with
     | .inl z =>
      some (.inr z)
     | .inr e30 =>
      some (.inl e30)) fun z0 => match z0 with
    | .inl o17 =>
     Option.bind (α := Bool) (
      Option.bind (F_raddleref25_All o17) fun r64 =>
      if r64 != 0 then
       some true
      else
       Option.bind (F_raddleref25_Written o17) fun r67 =>
       some (r67 != p0)) fun o61 =>
     if o61 then
      some (([] : (List api_Stitch)), 12)
     else
      some (o17, 0)
    | .inr z =>
     some z
def c_raddleref25_Parse_val (r : ((List api_Stitch) × Int)) (x : Value) : Value := .tuple #[x, .int .i64 r.2]
def c_raddleref25_Parse_D (r : ((List api_Stitch) × Int)) (x : Value) : List Fact := [fRep (rL r_api_Stitch) x r.1]
set_option maxHeartbeats 4000000 in
set_option maxRecDepth 100000 in
theorem c_raddleref25_Parse (E : Nat → Prop) (w0 : World) (p0 : ByteArray) (r : ((List api_Stitch) × Int)) (h : F_raddleref25_Parse p0 = some r) (S : St0 E [] w0 w0 [] []) :
 Calls Try.prog 78 #[.string p0] w0 (Ret (X := Value) E [] w0 (c_raddleref25_Parse_val r) (fun _ => []) (c_raddleref25_Parse_D r)) := by
 unfold F_raddleref25_Parse at h
 refine sEnter (args := [.string p0]) 48 Try.func78 rfl rfl (by simp) S (fun a S => ?_)
 refine sSeq (fun K1 hK1 => ?_)
 refine sRegion ?_
 refine sMa S rfl rfl rfl rfl rfl fun a S => ?_
 refine sMa S rfl rfl rfl rfl rfl fun a S => ?_
 refine lT (hK1 _ _ ?_)
 refine sSeq (fun K2 hK2 => ?_)
 refine sSeq (fun K3 hK3 => ?_)
 refine sRegion ?_
 refine sMm S rfl rfl rfl rfl rfl fun a S => ?_
 refine sLenS (v := p0) S (wN rfl) rfl Try.underlying9 rfl rfl (lb rfl) fun a S => ?_
 refine sBin _ S (wN rfl) rfl rfl rfl (bGt _ _ _ _ .i64 (p0.size : Int) 3000) rfl (lb rfl) fun a S => ?_
 refine lT (hK3 _ _ ?_)
 rcases iteSome h with ⟨hc4, h⟩ | ⟨hc4, h⟩
 ·refine sCondT S rfl hc4 ?_
  refine sSeq (fun K5 hK5 => ?_)
  refine sRegion ?_
  refine sMa S rfl rfl rfl rfl rfl fun a S => ?_
  refine sMa S rfl rfl rfl rfl rfl fun a S => ?_
  refine lT (hK5 _ _ ?_)
  obtain rfl := Option.some.inj h
  have S := S.learn (fRep (rL r_api_Stitch) (.slice none 0 0) ([] : (List api_Stitch))) (rL_nil _ _ _)
  exact wp_ret (rThen (sRet (.tuple #[.slice none 0 0, iv 12]) S (rsl2 rfl (rvT (t := 2) (v := .slice none 0 0) S rfl) (rvT (t := 3) (v := iv 12) S rfl)) ⟨(.slice none 0 0), rfl, S.mem.sel [] [0] (by decide) rfl rfl⟩))
 refine sCondF S rfl hc4 ?_
 refine wp_skip (leafT (hK2 _ _ ?_))
 refine sSeq (fun K6 hK6 => ?_)
 refine sSeq (fun K7 hK7 => ?_)
 refine sRegion ?_
 refine sMm S rfl rfl rfl rfl rfl fun a S => ?_
 refine sBin _ S (wN rfl) rfl rfl rfl (bEqS _ _ _ _ p0 (⟨#[]⟩ : ByteArray)) rfl (lb rfl) fun a S => ?_
 refine lT (hK7 _ _ ?_)
 rcases iteSome h with ⟨hc8, h⟩ | ⟨hc8, h⟩
 ·refine sCondT S rfl hc8 ?_
  refine sSeq (fun K9 hK9 => ?_)
  refine sRegion ?_
  refine sMa S rfl rfl rfl rfl rfl fun a S => ?_
  refine sMa S rfl rfl rfl rfl rfl fun a S => ?_
  refine lT (hK9 _ _ ?_)
  obtain rfl := Option.some.inj h
  have S := S.learn (fRep (rL r_api_Stitch) (.slice none 0 0) ([] : (List api_Stitch))) (rL_nil _ _ _)
  exact wp_ret (rThen (sRet (.tuple #[.slice none 0 0, iv 0]) S (rsl2 rfl (rvT (t := 2) (v := .slice none 0 0) S rfl) (rvT (t := 3) (v := iv 0) S rfl)) ⟨(.slice none 0 0), rfl, S.mem.sel [] [0] (by decide) rfl rfl⟩))
 refine sCondF S rfl hc8 ?_
 refine wp_skip (leafT (hK6 _ _ ?_))
 refine sSeq (fun K10 hK10 => ?_)
 refine sRegion ?_
 refine sMm S rfl rfl rfl rfl rfl fun a S => ?_
 obtain ⟨r11, hx12, h⟩ := bindSome h
 refine sCall (X := Value) (f := 94) (vs := [.string p0, .int .u8 32]) (val := c_raddleref25_Cut_val r11) (B' := fun _ => []) (D' := c_raddleref25_Cut_D r11) [] [] [] [] [] S (wN rfl) rfl callee94 rfl (by decide) rfl rfl (fun E1 w1 S1 => c_raddleref25_Cut E1 w1 p0 32 r11 hx12 S1) rfl (lb rfl) fun u13 a w S => ?_
 obtain ⟨ad14, cp15, _, rfl, _⟩ := S.mem.know (i := 0) (e := fRep (rL rS) (u13) r11) rfl
 refine sMa S rfl rfl rfl rfl rfl fun a S => ?_
 refine lT (hK10 _ _ ?_)
 refine sSeq (fun K16 hK16 => ?_)
 refine sRegion ?_
 refine sMa S rfl rfl rfl rfl rfl fun a S => ?_
 refine lT (hK16 _ _ ?_)
 obtain ⟨t20, h, g21⟩ := bindSome h
 refine sCut (fun a w => ∃ o17, .inl o17 = t20 ∧ ∃ ad18, ∃ cp19, St [] E [] w0 48 a w [(0, .string p0), (5, .slice ad18 o17.length cp19)] [eRow r_api_Stitch 81 (.slice ad18 o17.length cp19) o17] []) ?_ (fun a w hI => ?_)
 rotate_left
 ·obtain ⟨o17, rfl, ad18, cp19, S⟩ := hI
  have h := g21
  clear g21
  try dsimp only at h
  refine sSeq (fun K60 hK60 => ?_)
  obtain ⟨t62, h, g63⟩ := bindSome h
  refine sCut (fun a w => ∃ o61, o61 = t62 ∧ St [] E [] w0 48 a w [(5, .slice ad18 o17.length cp19), (46, .bool o61)] [eRow r_api_Stitch 81 (.slice ad18 o17.length cp19) o17] []) ?_ (fun a w hI => ?_)
  rotate_left
  ·obtain ⟨o61, rfl, S⟩ := hI
   have h := g63
   clear g63
   try dsimp only at h
   rcases iteSome h with ⟨hc69, h⟩ | ⟨hc69, h⟩
   ·refine sCondT S rfl hc69 ?_
    refine sSeq (fun K70 hK70 => ?_)
    refine sRegion ?_
    refine sMa S rfl rfl rfl rfl rfl fun a S => ?_
    refine sMa S rfl rfl rfl rfl rfl fun a S => ?_
    refine lT (hK70 _ _ ?_)
    obtain rfl := Option.some.inj h
    have S := S.learn (fRep (rL r_api_Stitch) (.slice none 0 0) ([] : (List api_Stitch))) (rL_nil _ _ _)
    exact wp_ret (rThen (sRet (.tuple #[.slice none 0 0, iv 12]) S (rsl2 rfl (rvT (t := 2) (v := .slice none 0 0) S rfl) (rvT (t := 3) (v := iv 12) S rfl)) ⟨(.slice none 0 0), rfl, S.mem.sel [] [0] (by decide) rfl rfl⟩))
   refine sCondF S rfl hc69 ?_
   refine wp_skip (leafT (hK60 _ _ ?_))
   refine sSeq (fun K71 hK71 => ?_)
   refine sRegion ?_
   refine sMm S rfl rfl rfl rfl rfl fun a S => ?_
   refine sMa S rfl rfl rfl rfl rfl fun a S => ?_
   refine sMa S rfl rfl rfl rfl rfl fun a S => ?_
   refine lT (hK71 _ _ ?_)
   obtain rfl := Option.some.inj h
   have S := S.shutR (r := r_api_Stitch) (T := 81) (v := .slice ad18 o17.length cp19) (xs := o17) 0 rfl
   exact wp_ret (sRet (.tuple #[.slice ad18 o17.length cp19, iv 0]) S (rsl2 rfl (rvT (t := 2) (v := .slice ad18 o17.length cp19) S rfl) (rvT (t := 3) (v := iv 0) S rfl)) ⟨(.slice ad18 o17.length cp19), rfl, S.mem.sel [] [0] (by decide) rfl rfl⟩)
  refine sRegion ?_
  refine sMm S rfl rfl rfl rfl rfl fun a S => ?_
  obtain ⟨r64, hx65, h⟩ := bindSome h
  have S1 := S.mem
  have S1 := S1.shutR (r := r_api_Stitch) (T := 81) (v := .slice ad18 o17.length cp19) (xs := o17) 0 rfl
  refine sCallQ (X := Unit) (f := 38) (vs := [.slice ad18 o17.length cp19]) (val := fun _ => iv r64) S (wN rfl) rfl callee38 rfl (S1.quiet [0] rfl) (fun E1 w1 S1 => c_raddleref25_All E1 w1 o17 (.slice ad18 o17.length cp19) r64 hx65 S1) rfl (lb rfl) fun _ a w S => ?_
  refine sBin _ S (wN rfl) rfl rfl rfl (bNe _ _ _ _ .i64 r64 0) rfl (lb rfl) fun a S => ?_
  refine sMm S rfl rfl rfl rfl rfl fun a S => ?_
  rcases iteSome h with ⟨hc66, h⟩ | ⟨hc66, h⟩
  ·refine sSkN 4 3 false 41 S rfl rfl hc66 rfl fun a S => ?_
   refine sPickT (.bool true) S (wN rfl) rfl rfl hc66 rfl rfl (lb rfl) fun a S => ?_
   exact lT (⟨true, Option.some.inj h, S.fix [0] [] (by decide) rfl rfl rfl⟩)
  refine sMove (.slice ad18 o17.length cp19) S (wG 3 false 41 rfl rfl rfl hc66) (.inl rfl) rfl rfl (lb rfl) fun a S => ?_
  obtain ⟨r67, hx68, h⟩ := bindSome h
  have S1 := S.mem
  have S1 := S1.shutR (r := r_api_Stitch) (T := 81) (v := .slice ad18 o17.length cp19) (xs := o17) 0 rfl
  refine sCallQ (X := Unit) (f := 96) (vs := [.slice ad18 o17.length cp19]) (val := fun _ => .string r67) S (wG 3 false 41 rfl rfl rfl hc66) rfl callee96 rfl (S1.quiet [0] rfl) (fun E1 w1 S1 => c_raddleref25_Written E1 w1 o17 (.slice ad18 o17.length cp19) r67 hx68 S1) rfl (lb rfl) fun _ a w S => ?_
  refine sMove (.string p0) S (wG 3 false 41 rfl rfl rfl hc66) (.inl rfl) rfl rfl (lb rfl) fun a S => ?_
  refine sBin _ S (wG 3 false 41 rfl rfl rfl hc66) rfl rfl rfl (bNeS _ _ _ _ r67 p0) rfl (lb rfl) fun a S => ?_
  refine sPickF (.bool (r67 != p0)) S (wN rfl) rfl rfl hc66 rfl rfl (lb rfl) fun a S => ?_
  exact lT (⟨r67 != p0, Option.some.inj h, S.fix [0] [] (by decide) rfl rfl rfl⟩)
 refine sSeq (fun K22 hK22 => ?_)
 refine sRegion ?_
 refine sMa S rfl rfl rfl rfl rfl fun a S => ?_
 refine lT (hK22 _ _ ?_)
 refine wp_block ?_
 have S := S.nilRow r_api_Stitch 81 (α := api_Stitch)
 obtain ⟨t29, hl, g28⟩ := bindSome h
 refine sLoop hl (fun s0 a w => match s0 with | (s23, s26) => ∃ ad24, ∃ cp25, St [] E [] w0 48 a w [(0, .string p0), (4, .slice ad14 r11.length cp15), (5, .slice ad24 s23.length cp25), (6, iv s26)] [eRow r_api_Stitch 81 (.slice ad24 s23.length cp25) s23] [fRep (rL rS) (.slice ad14 r11.length cp15) r11]) ⟨none, 0, S.fix [0] [0] (by decide) rfl rfl rfl⟩ ?_
 clear hl h
 intro s0 a w c0 hI h hu27
 obtain ⟨s23, s26⟩ := s0
 unfold raddleref25_Parse_l1 at h
 dsimp only at h hI
 obtain ⟨ad24, cp25, S⟩ := hI
 refine sSeq (fun K33 hK33 => ?_)
 refine sSeq (fun K34 hK34 => ?_)
 refine sRegion ?_
 refine sMm S rfl rfl rfl rfl rfl fun a S => ?_
 refine sMm S rfl rfl rfl rfl rfl fun a S => ?_
 refine sLen S (wN rfl) rfl Try.underlying142 rfl rfl (lb rfl) fun a S => ?_
 refine sBin _ S (wN rfl) rfl rfl rfl (bLt _ _ _ _ .i64 s26 (r11.length : Int)) rfl (lb rfl) fun a S => ?_
 refine lT (hK34 _ _ ?_)
 rcases iteSome h with ⟨hc35, h⟩ | ⟨hc35, h⟩
 rotate_left
 ·refine sCondF S rfl hc35 ?_
  obtain rfl := Option.some.inj h
  obtain rfl := hu27 _ rfl
  have h := g28
  clear g28
  try dsimp only at h
  exact wp_exit (xThen (xThen (xHit (leafT (⟨s23, Option.some.inj h, ad24, cp25, S.fix [0] [] (by decide) rfl rfl rfl⟩)))))
 refine sCondT S rfl hc35 ?_
 refine wp_skip (leafT (hK33 _ _ ?_))
 refine sSeq (fun K36 hK36 => ?_)
 refine wp_block ?_
 refine sSeq (fun K37 hK37 => ?_)
 refine sRegion ?_
 refine sMm S rfl rfl rfl rfl rfl fun a S => ?_
 refine sMm S rfl rfl rfl rfl rfl fun a S => ?_
 obtain ⟨x38, hx39, h⟩ := bindSome h
 obtain ⟨q40, hq41, S⟩ := pIdx (P := Try.prog) (r := rS) (v := .slice ad14 r11.length cp15) (xs := r11) (j := s26) 142 9 0 S Try.underlying142 rfl rfl hx39
 refine sIdxV S (wN rfl) rfl rfl rfl hq41 rfl (lb rfl) fun a S => ?_
 obtain ⟨u42, S⟩ := pLoad (r := rS) (q := q40) (x := x38) 0 S rfl
 obtain rfl : u42 = .string x38 := S.mem.know (i := 1) (e := fRep rS (u42) x38) rfl
 refine sLoadV1 (vq := q40) 0 (.string x38) S (wN rfl) rfl rfl rfl rfl rfl (lb rfl) fun a S => ?_
 obtain ⟨r43, hx44, h⟩ := bindSome h
 refine sCall (X := Value) (f := 95) (vs := [.string x38]) (val := c_raddleref25_word_val r43) (B' := fun _ => []) (D' := c_raddleref25_word_D r43) [] [eRow r_api_Stitch 81 (.slice ad24 s23.length cp25) s23] [] [0] [] S (wN rfl) rfl callee95 rfl (by decide) rfl rfl (fun E1 w1 S1 => c_raddleref25_word E1 w1 x38 r43 hx44 S1) rfl (lb rfl) fun u45 a w S => ?_
 obtain ⟨ad46, cp47, _, rfl, _⟩ := S.mem.know (i := 0) (e := fRep (rL r_api_Stitch) (u45) r43.1) rfl
 refine sMm S rfl rfl rfl rfl rfl fun a S => ?_
 refine sExtract (vs := [.slice ad46 r43.1.length cp47, .bool r43.2]) (.slice ad46 r43.1.length cp47) S (wN rfl) rfl rfl rfl rfl (lb rfl) fun a S => ?_
 refine sExtract (vs := [.slice ad46 r43.1.length cp47, .bool r43.2]) (.bool r43.2) S (wN rfl) rfl rfl rfl rfl (lb rfl) fun a S => ?_
 refine sMa S rfl rfl rfl rfl rfl fun a S => ?_
 refine sMa S rfl rfl rfl rfl rfl fun a S => ?_
 refine lT (hK37 _ _ ?_)
 refine sSeq (fun K48 hK48 => ?_)
 refine sSeq (fun K49 hK49 => ?_)
 refine sRegion ?_
 refine sMm S rfl rfl rfl rfl rfl fun a S => ?_
 refine sNot (b := r43.2) S (wN rfl) rfl rfl rfl (lb rfl) fun a S => ?_
 refine lT (hK49 _ _ ?_)
 rcases iteSome h with ⟨hc50, h⟩ | ⟨hc50, h⟩
 ·refine sCondT S rfl hc50 ?_
  refine sSeq (fun K51 hK51 => ?_)
  refine sRegion ?_
  refine sMa S rfl rfl rfl rfl rfl fun a S => ?_
  refine sMa S rfl rfl rfl rfl rfl fun a S => ?_
  refine lT (hK51 _ _ ?_)
  obtain rfl := Option.some.inj h
  obtain rfl := hu27 _ rfl
  have h := g28
  clear g28
  try dsimp only at h
  obtain rfl := Option.some.inj h
  have h := g21
  clear g21
  try dsimp only at h
  obtain rfl := Option.some.inj h
  have S := S.learn (fRep (rL r_api_Stitch) (.slice none 0 0) ([] : (List api_Stitch))) (rL_nil _ _ _)
  exact wp_ret (rThen (rBlock (rThen (rThen (rBlock (rThen (sRet (.tuple #[.slice none 0 0, iv 12]) S (rsl2 rfl (rvT (t := 2) (v := .slice none 0 0) S rfl) (rvT (t := 3) (v := iv 12) S rfl)) ⟨(.slice none 0 0), rfl, S.mem.sel [] [0] (by decide) rfl rfl⟩)))))))
 refine sCondF S rfl hc50 ?_
 refine wp_skip (leafT (hK48 _ _ ?_))
 refine sSeq (fun K52 hK52 => ?_)
 refine sRegion ?_
 refine sMm S rfl rfl rfl rfl rfl fun a S => ?_
 refine sMm S rfl rfl rfl rfl rfl fun a S => ?_
 obtain ⟨l53, hx54, h⟩ := bindSome h
 refine sApp (r := r_api_Stitch) (T := 81) (xs := s23) (ys := r43.1) (v := .slice ad24 s23.length cp25) (u := .slice ad46 r43.1.length cp47) 0 (.agg #[.int .u8 0, .bool false, iv 0, iv 0]) 24 S (wN rfl) rfl Try.underlying47 rfl rfl (by decide) rfl rfl rfl (src_D 0 S.mem rfl) hx54 rfl (lb rfl) fun a w ad55 cp56 S => ?_
 refine sMa S rfl rfl rfl rfl rfl fun a S => ?_
 refine lT (hK52 _ _ ?_)
 refine sSeq (fun K57 hK57 => ?_)
 refine sRegion ?_
 refine sMm S rfl rfl rfl rfl rfl fun a S => ?_
 refine sLen S (wN rfl) rfl Try.underlying47 rfl rfl (lb rfl) fun a S => ?_
 refine sBin _ S (wN rfl) rfl rfl rfl (bGt _ _ _ _ .i64 (l53.length : Int) 200) rfl (lb rfl) fun a S => ?_
 refine lT (hK57 _ _ ?_)
 rcases iteSome h with ⟨hc58, h⟩ | ⟨hc58, h⟩
 rotate_left
 ·refine sCondF S rfl hc58 ?_
  refine wp_skip (leafB (leafT (hK36 _ _ ?_)))
  refine sRegion ?_
  refine sMm S rfl rfl rfl rfl rfl fun a S => ?_
  refine sBin _ S (wN rfl) rfl rfl rfl (bAdd _ _ _ _ s26 1) rfl (lb rfl) fun a S => ?_
  refine sMa S rfl rfl rfl rfl rfl fun a S => ?_
  exact lT (⟨(l53, w64 (s26 + 1)), (Option.some.inj h).symm, ⟨ad55, cp56, S.fix [0] [4] (by decide) rfl rfl rfl⟩⟩)
 refine sCondT S rfl hc58 ?_
 refine sSeq (fun K59 hK59 => ?_)
 refine sRegion ?_
 refine sMa S rfl rfl rfl rfl rfl fun a S => ?_
 refine sMa S rfl rfl rfl rfl rfl fun a S => ?_
 refine lT (hK59 _ _ ?_)
 obtain rfl := Option.some.inj h
 obtain rfl := hu27 _ rfl
 have h := g28
 clear g28
 try dsimp only at h
 obtain rfl := Option.some.inj h
 have h := g21
 clear g21
 try dsimp only at h
 obtain rfl := Option.some.inj h
 have S := S.learn (fRep (rL r_api_Stitch) (.slice none 0 0) ([] : (List api_Stitch))) (rL_nil _ _ _)
 exact wp_ret (rBlock (rThen (rThen (rBlock (rThen (sRet (.tuple #[.slice none 0 0, iv 12]) S (rsl2 rfl (rvT (t := 2) (v := .slice none 0 0) S rfl) (rvT (t := 3) (v := iv 12) S rfl)) ⟨(.slice none 0 0), rfl, S.mem.sel [] [0] (by decide) rfl rfl⟩))))))
end Go.Proofs.Ytffikfajljbmnaa
namespace Go.Proofs.Ytffikfajljbmnaa
open Go.RowKit
noncomputable def F_raddlelaw46_cells (p0 : ByteArray) : Option (List api_Stitch) :=
 Option.bind (F_raddleref25_Parse p0) fun r3 =>
 some r3.1
def c_raddlelaw46_cells_val (r : (List api_Stitch)) (x : Value) : Value := x
def c_raddlelaw46_cells_D (r : (List api_Stitch)) (x : Value) : List Fact := [fRep (rL r_api_Stitch) x r]
set_option maxHeartbeats 4000000 in
set_option maxRecDepth 100000 in
theorem c_raddlelaw46_cells (E : Nat → Prop) (w0 : World) (p0 : ByteArray) (r : (List api_Stitch)) (h : F_raddlelaw46_cells p0 = some r) (S : St0 E [] w0 w0 [] []) :
 Calls Try.prog 42 #[.string p0] w0 (Ret (X := Value) E [] w0 (c_raddlelaw46_cells_val r) (fun _ => []) (c_raddlelaw46_cells_D r)) := by
 unfold F_raddlelaw46_cells at h
 refine sEnter (args := [.string p0]) 11 Try.func42 rfl rfl (by simp) S (fun a S => ?_)
 refine sSeq (fun K1 hK1 => ?_)
 refine sRegion ?_
 refine sMa S rfl rfl rfl rfl rfl fun a S => ?_
 refine lT (hK1 _ _ ?_)
 refine sSeq (fun K2 hK2 => ?_)
 refine sRegion ?_
 refine sMm S rfl rfl rfl rfl rfl fun a S => ?_
 obtain ⟨r3, hx4, h⟩ := bindSome h
 refine sCall (X := Value) (f := 78) (vs := [.string p0]) (val := c_raddleref25_Parse_val r3) (B' := fun _ => []) (D' := c_raddleref25_Parse_D r3) [] [] [] [] [] S (wN rfl) rfl callee78 rfl (by decide) rfl rfl (fun E1 w1 S1 => c_raddleref25_Parse E1 w1 p0 r3 hx4 S1) rfl (lb rfl) fun u5 a w S => ?_
 obtain ⟨ad6, cp7, _, rfl, _⟩ := S.mem.know (i := 0) (e := fRep (rL r_api_Stitch) (u5) r3.1) rfl
 refine sMm S rfl rfl rfl rfl rfl fun a S => ?_
 refine sExtract (vs := [.slice ad6 r3.1.length cp7, iv r3.2]) (.slice ad6 r3.1.length cp7) S (wN rfl) rfl rfl rfl rfl (lb rfl) fun a S => ?_
 refine sExtract (vs := [.slice ad6 r3.1.length cp7, iv r3.2]) (iv r3.2) S (wN rfl) rfl rfl rfl rfl (lb rfl) fun a S => ?_
 refine sMa S rfl rfl rfl rfl rfl fun a S => ?_
 refine sMa S rfl rfl rfl rfl rfl fun a S => ?_
 refine lT (hK2 _ _ ?_)
 refine sSeq (fun K8 hK8 => ?_)
 refine sRegion ?_
 refine sMm S rfl rfl rfl rfl rfl fun a S => ?_
 refine sMa S rfl rfl rfl rfl rfl fun a S => ?_
 refine lT (hK8 _ _ ?_)
 obtain rfl := Option.some.inj h
 exact wp_ret (sRet (.slice ad6 r3.1.length cp7) S (rsl1 rfl (rvT (t := 2) (v := .slice ad6 r3.1.length cp7) S rfl)) ⟨(.slice ad6 r3.1.length cp7), rfl, S.mem.sel [] [0] (by decide) rfl rfl⟩)
end Go.Proofs.Ytffikfajljbmnaa
namespace Go.Proofs.Ytffikfajljbmnaa
open Go.RowKit
noncomputable def raddleref26_Written_l1 (p0 : api_Chart) : (ByteArray × Int) → Option ((ByteArray × Int) ⊕ ((ByteArray × Bool) ⊕ ByteArray)) := fun s0 => match s0 with
 | (s18, s19) =>
  if decide (s19 < (p0.Rows.length : Int)) then
   Option.bind (idxO p0.Rows s19) fun x29 =>
   Option.bind (F_raddleref25_Written x29.Cells) fun r38 =>
   if decide (3000 < (r38.size : Int)) then
    some (.inr (.inl ((⟨#[]⟩ : ByteArray), false)))
   else
    Option.bind (F_raddleref26_side x29.Back) fun r50 =>
    Option.bind (addS s18 r50) fun z52 =>
    Option.bind (α := ByteArray) (
     if r38 != (⟨#[]⟩ : ByteArray) then
      Option.bind (addS z52 (⟨#[32]⟩ : ByteArray)) fun z59 =>
      Option.bind (addS z59 r38) fun z61 =>
      some z61
     else
      some z52) fun o54 =>
    Option.bind (addS o54 (⟨#[10]⟩ : ByteArray)) fun z63 =>
    some (.inl (z63, w64 (s19 + 1)))
  else
   some (.inr (.inr s18))
noncomputable def F_raddleref26_Written (p0 : api_Chart) : Option (ByteArray × Bool) :=
 Option.bind (F_raddleref25_Decimal p0.Start) fun r8 =>
 Option.bind (addS (⟨#[115, 116, 97, 114, 116, 32]⟩ : ByteArray) r8) fun z10 =>
 Option.bind (addS z10 (⟨#[10]⟩ : ByteArray)) fun z12 =>
 Option.bind (α := ByteArray ⊕ (ByteArray × Bool)) (
  Option.bind (whileO (raddleref26_Written_l1 p0) (z12, 0)) fun z0 => match z0 with
   | .inl z =>
    some (.inr z)
   | .inr e23 =>
    some (.inl e23)) fun z0 => match z0 with
  | .inl o14 =>
   some (o14, true)
  | .inr z =>
   some z
set_option maxHeartbeats 4000000 in
set_option maxRecDepth 100000 in
theorem c_raddleref26_Written (E : Nat → Prop) (w0 : World) (p0 : api_Chart) (v0 : Value) (r : (ByteArray × Bool)) (h : F_raddleref26_Written p0 = some r) (S : St0 E [] w0 w0 [] [fRep r_api_Chart (v0) p0]) :
 Calls Try.prog 98 #[v0] w0 (Ret (X := Unit) E [] w0 (fun _ => .tuple #[.string r.1, .bool r.2]) (fun _ => []) (fun _ => [])) := by
 unfold F_raddleref26_Written at h
 obtain ⟨u1, rfl, hu2⟩ := S.know (i := 0) (e := fRep r_api_Chart (v0) p0) rfl
 have S := S.learn (fRep (rL r_api_Row) u1 p0.Rows) hu2
 obtain ⟨ad3, cp4, _, rfl, _⟩ := hu2
 refine sEnter (args := [.agg #[iv p0.Start, .slice ad3 p0.Rows.length cp4]]) 47 Try.func98 rfl rfl (by simp) S (fun a S => ?_)
 refine sSeq (fun K5 hK5 => ?_)
 refine sRegion ?_
 refine sBox (v := .agg #[iv p0.Start, .slice ad3 p0.Rows.length cp4]) S (wN rfl) rfl rfl [iv p0.Start, .slice ad3 p0.Rows.length cp4] rfl rfl (lb rfl) fun a b6 w S => ?_
 refine sMa S rfl rfl rfl rfl rfl fun a S => ?_
 refine sMa S rfl rfl rfl rfl rfl fun a S => ?_
 refine lT (hK5 _ _ ?_)
 refine sSeq (fun K7 hK7 => ?_)
 refine sRegion ?_
 refine sField (b := b6) (off := 0) 0 0 S (wN rfl) rfl rfl rfl rfl rfl (lb rfl) fun a S => ?_
 refine sLoad1 0 (iv p0.Start) S (wN rfl) rfl rfl rfl rfl rfl rfl (lb rfl) fun a S => ?_
 obtain ⟨r8, hx9, h⟩ := bindSome h
 have S1 := S.mem
 refine sCallQ (X := Unit) (f := 108) (vs := [iv p0.Start]) (val := fun _ => .string r8) S (wN rfl) rfl callee108 rfl (S1.quiet [] rfl) (fun E1 w1 S1 => c_raddleref25_Decimal E1 w1 p0.Start r8 hx9 S1) rfl (lb rfl) fun _ a w S => ?_
 obtain ⟨z10, hx11, h⟩ := bindSome h
 refine sBin _ S (wN rfl) rfl rfl rfl (bAddS _ _ _ _ (x := (⟨#[115, 116, 97, 114, 116, 32]⟩ : ByteArray)) (y := r8) hx11) rfl (lb rfl) fun a S => ?_
 obtain ⟨z12, hx13, h⟩ := bindSome h
 refine sBin _ S (wN rfl) rfl rfl rfl (bAddS _ _ _ _ (x := z10) (y := (⟨#[10]⟩ : ByteArray)) hx13) rfl (lb rfl) fun a S => ?_
 refine sMa S rfl rfl rfl rfl rfl fun a S => ?_
 refine lT (hK7 _ _ ?_)
 obtain ⟨t15, h, g16⟩ := bindSome h
 refine sCut (fun a w => ∃ o14, .inl o14 = t15 ∧ St [] E [] w0 47 a w [(4, .string o14)] [] []) ?_ (fun a w hI => ?_)
 rotate_left
 ·obtain ⟨o14, rfl, S⟩ := hI
  have h := g16
  clear g16
  try dsimp only at h
  refine sSeq (fun K65 hK65 => ?_)
  refine sRegion ?_
  refine sMm S rfl rfl rfl rfl rfl fun a S => ?_
  refine sMa S rfl rfl rfl rfl rfl fun a S => ?_
  refine sMa S rfl rfl rfl rfl rfl fun a S => ?_
  refine lT (hK65 _ _ ?_)
  obtain rfl := Option.some.inj h
  exact wp_ret (sRet (.tuple #[.string o14, .bool true]) S (rsl2 rfl (rvT (t := 2) (v := .string o14) S rfl) (rvT (t := 3) (v := .bool true) S rfl)) ⟨(), rfl, S.mem.sel [] [] (by decide) rfl rfl⟩)
 refine sSeq (fun K17 hK17 => ?_)
 refine sRegion ?_
 refine sMa S rfl rfl rfl rfl rfl fun a S => ?_
 refine lT (hK17 _ _ ?_)
 refine wp_block ?_
 obtain ⟨t22, hl, g21⟩ := bindSome h
 refine sLoop hl (fun s0 a w => match s0 with | (s18, s19) => St [] E [] w0 47 a w [(1, .pointer (some ⟨b6, 0, none⟩)), (4, .string s18), (5, iv s19)] [eBox b6 42 [iv p0.Start, .slice ad3 p0.Rows.length cp4]] [fRep (rL r_api_Row) (.slice ad3 p0.Rows.length cp4) p0.Rows]) (S.fix [0] [0] (by decide) rfl rfl rfl) ?_
 clear hl h
 intro s0 a w c0 hI h hu20
 obtain ⟨s18, s19⟩ := s0
 unfold raddleref26_Written_l1 at h
 dsimp only at h hI
 have S := hI
 refine sSeq (fun K24 hK24 => ?_)
 refine sSeq (fun K25 hK25 => ?_)
 refine sRegion ?_
 refine sMm S rfl rfl rfl rfl rfl fun a S => ?_
 refine sField (b := b6) (off := 0) 1 1 S (wN rfl) rfl rfl rfl rfl rfl (lb rfl) fun a S => ?_
 refine sLoad1 0 (.slice ad3 p0.Rows.length cp4) S (wN rfl) rfl rfl rfl rfl rfl rfl (lb rfl) fun a S => ?_
 refine sLen S (wN rfl) rfl Try.underlying40 rfl rfl (lb rfl) fun a S => ?_
 refine sBin _ S (wN rfl) rfl rfl rfl (bLt _ _ _ _ .i64 s19 (p0.Rows.length : Int)) rfl (lb rfl) fun a S => ?_
 refine lT (hK25 _ _ ?_)
 rcases iteSome h with ⟨hc26, h⟩ | ⟨hc26, h⟩
 rotate_left
 ·refine sCondF S rfl hc26 ?_
  obtain rfl := Option.some.inj h
  obtain rfl := hu20 _ rfl
  have h := g21
  clear g21
  try dsimp only at h
  exact wp_exit (xThen (xThen (xHit (leafT (⟨s18, Option.some.inj h, S.fix [] [] (by decide) rfl rfl rfl⟩)))))
 refine sCondT S rfl hc26 ?_
 refine wp_skip (leafT (hK24 _ _ ?_))
 refine sSeq (fun K27 hK27 => ?_)
 refine wp_block ?_
 refine sSeq (fun K28 hK28 => ?_)
 refine sRegion ?_
 refine sField (b := b6) (off := 0) 1 1 S (wN rfl) rfl rfl rfl rfl rfl (lb rfl) fun a S => ?_
 refine sLoad1 0 (.slice ad3 p0.Rows.length cp4) S (wN rfl) rfl rfl rfl rfl rfl rfl (lb rfl) fun a S => ?_
 refine sMm S rfl rfl rfl rfl rfl fun a S => ?_
 obtain ⟨x29, hx30, h⟩ := bindSome h
 obtain ⟨q31, hq32, S⟩ := pIdx (P := Try.prog) (r := r_api_Row) (v := .slice ad3 p0.Rows.length cp4) (xs := p0.Rows) (j := s19) 40 87 0 S Try.underlying40 rfl rfl hx30
 refine sIdxV S (wN rfl) rfl rfl rfl hq32 rfl (lb rfl) fun a S => ?_
 obtain ⟨q33, hq34, S⟩ := pFld (P := Try.prog) (r := r_api_Row) (s2 := (rL r_api_Stitch)) (g := (·.Cells)) (q := q31) (z := x29) 87 1 0 1 S rfl rfl comp_api_Row_Cells
 refine sFldV (q := q31) S (wN rfl) rfl rfl hq34 rfl (lb rfl) fun a S => ?_
 obtain ⟨u35, S⟩ := pLoad (r := (rL r_api_Stitch)) (q := q33) (x := x29.Cells) 0 S rfl
 obtain ⟨ad36, cp37, _, rfl, _⟩ := S.mem.know (i := 1) (e := fRep (rL r_api_Stitch) (u35) x29.Cells) rfl
 refine sLoadV1 (vq := q33) 0 (.slice ad36 x29.Cells.length cp37) S (wN rfl) rfl rfl rfl rfl rfl (lb rfl) fun a S => ?_
 obtain ⟨r38, hx39, h⟩ := bindSome h
 have S1 := S.mem
 refine sCallQ (X := Unit) (f := 96) (vs := [.slice ad36 x29.Cells.length cp37]) (val := fun _ => .string r38) S (wN rfl) rfl callee96 rfl (S1.quiet [1] rfl) (fun E1 w1 S1 => c_raddleref25_Written E1 w1 x29.Cells (.slice ad36 x29.Cells.length cp37) r38 hx39 S1) rfl (lb rfl) fun _ a w S => ?_
 refine sMa S rfl rfl rfl rfl rfl fun a S => ?_
 refine lT (hK28 _ _ ?_)
 refine sSeq (fun K40 hK40 => ?_)
 refine sSeq (fun K41 hK41 => ?_)
 refine sRegion ?_
 refine sMm S rfl rfl rfl rfl rfl fun a S => ?_
 refine sLenS (v := r38) S (wN rfl) rfl Try.underlying9 rfl rfl (lb rfl) fun a S => ?_
 refine sBin _ S (wN rfl) rfl rfl rfl (bGt _ _ _ _ .i64 (r38.size : Int) 3000) rfl (lb rfl) fun a S => ?_
 refine lT (hK41 _ _ ?_)
 rcases iteSome h with ⟨hc42, h⟩ | ⟨hc42, h⟩
 ·refine sCondT S rfl hc42 ?_
  refine sSeq (fun K43 hK43 => ?_)
  refine sRegion ?_
  refine sMa S rfl rfl rfl rfl rfl fun a S => ?_
  refine sMa S rfl rfl rfl rfl rfl fun a S => ?_
  refine lT (hK43 _ _ ?_)
  obtain rfl := Option.some.inj h
  obtain rfl := hu20 _ rfl
  have h := g21
  clear g21
  try dsimp only at h
  obtain rfl := Option.some.inj h
  have h := g16
  clear g16
  try dsimp only at h
  obtain rfl := Option.some.inj h
  exact wp_ret (rThen (rBlock (rThen (rThen (rBlock (rThen (sRet (.tuple #[.string (⟨#[]⟩ : ByteArray), .bool false]) S (rsl2 rfl (rvT (t := 2) (v := .string (⟨#[]⟩ : ByteArray)) S rfl) (rvT (t := 3) (v := .bool false) S rfl)) ⟨(), rfl, S.mem.sel [] [] (by decide) rfl rfl⟩)))))))
 refine sCondF S rfl hc42 ?_
 refine wp_skip (leafT (hK40 _ _ ?_))
 refine sSeq (fun K44 hK44 => ?_)
 refine sRegion ?_
 refine sMm S rfl rfl rfl rfl rfl fun a S => ?_
 refine sField (b := b6) (off := 0) 1 1 S (wN rfl) rfl rfl rfl rfl rfl (lb rfl) fun a S => ?_
 refine sLoad1 0 (.slice ad3 p0.Rows.length cp4) S (wN rfl) rfl rfl rfl rfl rfl rfl (lb rfl) fun a S => ?_
 refine sMm S rfl rfl rfl rfl rfl fun a S => ?_
 obtain ⟨q45, hq46, S⟩ := pIdx (P := Try.prog) (r := r_api_Row) (v := .slice ad3 p0.Rows.length cp4) (xs := p0.Rows) (j := s19) 40 87 4 S Try.underlying40 rfl rfl hx30
 refine sIdxV S (wN rfl) rfl rfl rfl hq46 rfl (lb rfl) fun a S => ?_
 obtain ⟨q47, hq48, S⟩ := pFld (P := Try.prog) (r := r_api_Row) (s2 := rB) (g := (·.Back)) (q := q45) (z := x29) 87 0 0 0 S rfl rfl comp_api_Row_Back
 refine sFldV (q := q45) S (wN rfl) rfl rfl hq48 rfl (lb rfl) fun a S => ?_
 obtain ⟨u49, S⟩ := pLoad (r := rB) (q := q47) (x := x29.Back) 0 S rfl
 obtain rfl : u49 = .bool x29.Back := S.mem.know (i := 1) (e := fRep rB (u49) x29.Back) rfl
 refine sLoadV1 (vq := q47) 0 (.bool x29.Back) S (wN rfl) rfl rfl rfl rfl rfl (lb rfl) fun a S => ?_
 obtain ⟨r50, hx51, h⟩ := bindSome h
 have S1 := S.mem
 refine sCallQ (X := Unit) (f := 109) (vs := [.bool x29.Back]) (val := fun _ => .string r50) S (wN rfl) rfl callee109 rfl (S1.quiet [] rfl) (fun E1 w1 S1 => c_raddleref26_side E1 w1 x29.Back r50 hx51 S1) rfl (lb rfl) fun _ a w S => ?_
 obtain ⟨z52, hx53, h⟩ := bindSome h
 refine sBin _ S (wN rfl) rfl rfl rfl (bAddS _ _ _ _ (x := s18) (y := r50) hx53) rfl (lb rfl) fun a S => ?_
 refine sMa S rfl rfl rfl rfl rfl fun a S => ?_
 refine lT (hK44 _ _ ?_)
 obtain ⟨t55, h, g56⟩ := bindSome h
 refine sCut (fun a w => ∃ o54, o54 = t55 ∧ St [] E [] w0 47 a w [(1, .pointer (some ⟨b6, 0, none⟩)), (4, .string o54), (5, iv s19)] [eBox b6 42 [iv p0.Start, .slice ad3 p0.Rows.length cp4]] [fRep (rL r_api_Row) (.slice ad3 p0.Rows.length cp4) p0.Rows]) ?_ (fun a w hI => ?_)
 rotate_left
 ·obtain ⟨o54, rfl, S⟩ := hI
  have h := g56
  clear g56
  try dsimp only at h
  refine sRegion ?_
  refine sMm S rfl rfl rfl rfl rfl fun a S => ?_
  obtain ⟨z63, hx64, h⟩ := bindSome h
  refine sBin _ S (wN rfl) rfl rfl rfl (bAddS _ _ _ _ (x := o54) (y := (⟨#[10]⟩ : ByteArray)) hx64) rfl (lb rfl) fun a S => ?_
  refine sMa S rfl rfl rfl rfl rfl fun a S => ?_
  refine leafL (leafB (leafT (hK27 _ _ ?_)))
  refine sRegion ?_
  refine sMm S rfl rfl rfl rfl rfl fun a S => ?_
  refine sBin _ S (wN rfl) rfl rfl rfl (bAdd _ _ _ _ s19 1) rfl (lb rfl) fun a S => ?_
  refine sMa S rfl rfl rfl rfl rfl fun a S => ?_
  exact lT (⟨(z63, w64 (s19 + 1)), (Option.some.inj h).symm, (S.fix [0] [0] (by decide) rfl rfl rfl)⟩)
 refine sSeq (fun K57 hK57 => ?_)
 refine sRegion ?_
 refine sMm S rfl rfl rfl rfl rfl fun a S => ?_
 refine sBin _ S (wN rfl) rfl rfl rfl (bNeS _ _ _ _ r38 (⟨#[]⟩ : ByteArray)) rfl (lb rfl) fun a S => ?_
 refine lT (hK57 _ _ ?_)
 rcases iteSome h with ⟨hc58, h⟩ | ⟨hc58, h⟩
 rotate_left
 ·refine sCondF S rfl hc58 ?_
  exact wp_skip (leafT (⟨z52, Option.some.inj h, S.fix [0] [8] (by decide) rfl rfl rfl⟩))
 refine sCondT S rfl hc58 ?_
 refine sRegion ?_
 refine sMm S rfl rfl rfl rfl rfl fun a S => ?_
 obtain ⟨z59, hx60, h⟩ := bindSome h
 refine sBin _ S (wN rfl) rfl rfl rfl (bAddS _ _ _ _ (x := z52) (y := (⟨#[32]⟩ : ByteArray)) hx60) rfl (lb rfl) fun a S => ?_
 refine sMm S rfl rfl rfl rfl rfl fun a S => ?_
 obtain ⟨z61, hx62, h⟩ := bindSome h
 refine sBin _ S (wN rfl) rfl rfl rfl (bAddS _ _ _ _ (x := z59) (y := r38) hx62) rfl (lb rfl) fun a S => ?_
 refine sMa S rfl rfl rfl rfl rfl fun a S => ?_
 exact lT (⟨z61, Option.some.inj h, S.fix [0] [8] (by decide) rfl rfl rfl⟩)
end Go.Proofs.Ytffikfajljbmnaa
namespace Go.Proofs.Ytffikfajljbmnaa
open Go.RowKit
noncomputable def raddleref26_Parse_l1 (r8 : (List ByteArray)) (s54 : Int) : Int → Option (Int ⊕ Int) := fun s0 => match s0 with
 | s76 =>
  Option.bind (α := Bool) (
   Option.bind (idxO r8 s54) fun x85 =>
   if decide (s76 < (x85.size : Int)) then
    Option.bind (idxS x85 s76) fun x94 =>
    some (x94 != 32)
   else
    some false) fun o82 =>
  if o82 then
   some (.inl (w64 (s76 + 1)))
  else
   some (.inr s76)
noncomputable def raddleref26_Parse_l2 (r8 : (List ByteArray)) : (Int × List api_Row) → Option ((Int × List api_Row) ⊕ ((api_Chart × Int) ⊕ (List api_Row))) := fun s0 => match s0 with
 | (s54, s55) =>
  if decide ((w64 (s54 + 1)) < (r8.length : Int)) then
   Option.bind (α := List api_Row ⊕ (api_Chart × Int)) (
    Option.bind (α := Int) (
     Option.bind (whileO (raddleref26_Parse_l1 r8 s54) 0) fun e80 =>
      some e80) fun o73 =>
    Option.bind (α := Bool) (
     Option.bind (idxO r8 s54) fun x101 =>
     Option.bind (sliceS x101 0 o73) fun y106 =>
     if y106 != (⟨#[102, 114, 111, 110, 116]⟩ : ByteArray) then
      some (y106 != (⟨#[98, 97, 99, 107]⟩ : ByteArray))
     else
      some false) fun o98 =>
    if o98 then
     some (.inr ((api_Chart.mk 0 ([] : (List api_Row))), 12))
    else
     Option.bind (idxO r8 s54) fun x115 =>
     Option.bind (sliceS x115 0 o73) fun y120 =>
     Option.bind (α := List api_Stitch ⊕ (api_Chart × Int)) (
      if decide (o73 < (x115.size : Int)) then
       Option.bind (sliceS x115 (w64 (o73 + 1)) (x115.size : Int)) fun y137 =>
       Option.bind (F_raddleref25_Parse y137) fun r139 =>
       if r139.2 != 0 then
        some (.inr ((api_Chart.mk 0 ([] : (List api_Row))), 12))
       else
        some (.inl r139.1)
      else
       some (.inl ([] : List api_Stitch))) fun z0 => match z0 with
      | .inl o123 =>
       Option.bind (appO s55 [(api_Row.mk (y120 == (⟨#[98, 97, 99, 107]⟩ : ByteArray)) o123)]) fun l150 =>
       some (.inl l150)
      | .inr z =>
       some (.inr z)) fun z0 => match z0 with
    | .inl o67 =>
     some (.inl (w64 (s54 + 1), o67))
    | .inr z =>
     some (.inr (.inl z))
  else
   some (.inr (.inr s55))
noncomputable def F_raddleref26_Parse (p0 : ByteArray) : Option (api_Chart × Int) :=
 if decide (20000 < (p0.size : Int)) then
  some ((api_Chart.mk 0 ([] : (List api_Row))), 12)
 else
  Option.bind (F_raddleref25_Cut p0 10) fun r8 =>
  Option.bind (α := Bool) (
   if decide ((r8.length : Int) < 2) then
    some true
   else
    if decide (100 < (w64 ((r8.length : Int) - 2))) then
     some true
    else
     Option.bind (idxO r8 0) fun x19 =>
     if decide ((x19.size : Int) < 7) then
      some true
     else
      Option.bind (sliceS x19 0 6) fun y28 =>
      some (y28 != (⟨#[115, 116, 97, 114, 116, 32]⟩ : ByteArray))) fun o14 =>
  if o14 then
   some ((api_Chart.mk 0 ([] : (List api_Row))), 12)
  else
   Option.bind (idxO r8 0) fun x33 =>
   Option.bind (sliceS x33 6 (x33.size : Int)) fun y38 =>
   Option.bind (F_raddleref25_Number y38) fun r40 =>
   if !r40.2 then
    some ((api_Chart.mk 0 ([] : (List api_Row))), 12)
   else
    Option.bind (α := List api_Row ⊕ (api_Chart × Int)) (
     Option.bind (whileO (raddleref26_Parse_l2 r8) (1, ([] : List api_Row))) fun z0 => match z0 with
      | .inl z =>
       some (.inr z)
      | .inr e61 =>
       some (.inl e61)) fun z0 => match z0 with
     | .inl o48 =>
      Option.bind (F_raddleref26_Check (api_Chart.mk r40.1 o48)) fun r156 =>
      if r156 != 0 then
       some ((api_Chart.mk 0 ([] : (List api_Row))), 12)
      else
       Option.bind (F_raddleref26_Written (api_Chart.mk r40.1 o48)) fun r161 =>
       Option.bind (α := Bool) (
        if !r161.2 then
         some true
        else
         some (r161.1 != p0)) fun o164 =>
       if o164 then
        some ((api_Chart.mk 0 ([] : (List api_Row))), 12)
       else
        some ((api_Chart.mk r40.1 o48), 0)
     | .inr z =>
      some z
def c_raddleref26_Parse_val (r : (api_Chart × Int)) (x : Value) : Value := .tuple #[x, .int .i64 r.2]
def c_raddleref26_Parse_D (r : (api_Chart × Int)) (x : Value) : List Fact := [fRep r_api_Chart x r.1]
set_option maxHeartbeats 4000000 in
set_option maxRecDepth 100000 in
theorem c_raddleref26_Parse (E : Nat → Prop) (w0 : World) (p0 : ByteArray) (r : (api_Chart × Int)) (h : F_raddleref26_Parse p0 = some r) (S : St0 E [] w0 w0 [] []) :
 Calls Try.prog 79 #[.string p0] w0 (Ret (X := Value) E [] w0 (c_raddleref26_Parse_val r) (fun _ => []) (c_raddleref26_Parse_D r)) := by
 unfold F_raddleref26_Parse at h
 refine sEnter (args := [.string p0]) 155 Try.func79 rfl rfl (by simp) S (fun a S => ?_)
 refine sSeq (fun K1 hK1 => ?_)
 refine sRegion ?_
 refine sAlloc (.agg #[iv 0, .slice none 0 0]) S (wN rfl) rfl rfl [iv 0, .slice none 0 0] rfl rfl (lb rfl) fun a b2 w S => ?_
 refine sMa S rfl rfl rfl rfl rfl fun a S => ?_
 refine lT (hK1 _ _ ?_)
 refine sSeq (fun K3 hK3 => ?_)
 refine sSeq (fun K4 hK4 => ?_)
 refine sRegion ?_
 refine sMm S rfl rfl rfl rfl rfl fun a S => ?_
 refine sLenS (v := p0) S (wN rfl) rfl Try.underlying9 rfl rfl (lb rfl) fun a S => ?_
 refine sBin _ S (wN rfl) rfl rfl rfl (bGt _ _ _ _ .i64 (p0.size : Int) 20000) rfl (lb rfl) fun a S => ?_
 refine lT (hK4 _ _ ?_)
 rcases iteSome h with ⟨hc5, h⟩ | ⟨hc5, h⟩
 ·refine sCondT S rfl hc5 ?_
  refine sSeq (fun K6 hK6 => ?_)
  refine sRegion ?_
  refine sBuild [] [iv 0, .slice none 0 0] S (wN rfl) rfl rfl rfl rfl (lb rfl) fun a S => ?_
  refine sStore (p := b2) (off := 0) (T := 42) (vs := [iv 0, .slice none 0 0]) (v := .agg #[iv 0, .slice none 0 0]) 0 [iv 0, .slice none 0 0] S (wN rfl) rfl rfl rfl rfl rfl rfl rfl (by simp) rfl fun a w S => ?_
  refine sMa S rfl rfl rfl rfl rfl fun a S => ?_
  refine lT (hK6 _ _ ?_)
  obtain rfl := Option.some.inj h
  have S := S.learn (fRep (rL r_api_Row) (.slice none 0 0) ([] : (List api_Row))) (rL_nil _ _ _)
  have S := S.learn (fRep r_api_Chart (.agg #[iv 0, .slice none 0 0]) (api_Chart.mk 0 ([] : (List api_Row)))) ⟨_, rfl, S.mem.know (i := 0) (e := fRep (rL r_api_Row) (.slice none 0 0) ([] : (List api_Row))) rfl⟩
  exact wp_ret (rThen (sRet (.tuple #[.agg #[iv 0, .slice none 0 0], iv 12]) S (rsl2 rfl (rvN (c := 2) (t := 42) (T := 42) (p := b2) 0 [iv 0, .slice none 0 0] S rfl rfl rfl rfl) (rvT (t := 3) (v := iv 12) S rfl)) ⟨(.agg #[iv 0, .slice none 0 0]), rfl, S.mem.sel [] [0] (by decide) rfl rfl⟩))
 refine sCondF S rfl hc5 ?_
 refine wp_skip (leafT (hK3 _ _ ?_))
 refine sSeq (fun K7 hK7 => ?_)
 refine sRegion ?_
 refine sMm S rfl rfl rfl rfl rfl fun a S => ?_
 obtain ⟨r8, hx9, h⟩ := bindSome h
 refine sCall (X := Value) (f := 94) (vs := [.string p0, .int .u8 10]) (val := c_raddleref25_Cut_val r8) (B' := fun _ => []) (D' := c_raddleref25_Cut_D r8) [] [eBox b2 42 [iv 0, .slice none 0 0]] [] [0] [] S (wN rfl) rfl callee94 rfl (by decide) rfl rfl (fun E1 w1 S1 => c_raddleref25_Cut E1 w1 p0 10 r8 hx9 S1) rfl (lb rfl) fun u10 a w S => ?_
 obtain ⟨ad11, cp12, _, rfl, _⟩ := S.mem.know (i := 0) (e := fRep (rL rS) (u10) r8) rfl
 refine sMa S rfl rfl rfl rfl rfl fun a S => ?_
 refine lT (hK7 _ _ ?_)
 refine sSeq (fun K13 hK13 => ?_)
 obtain ⟨t15, h, g16⟩ := bindSome h
 refine sCut (fun a w => ∃ o14, o14 = t15 ∧ St [] E [] w0 155 a w [(0, .string p0), (2, .pointer (some ⟨b2, 0, none⟩)), (4, .slice ad11 r8.length cp12), (43, .bool o14)] [eBox b2 42 [iv 0, .slice none 0 0]] [fRep (rL rS) (.slice ad11 r8.length cp12) r8]) ?_ (fun a w hI => ?_)
 ·refine sRegion ?_
  refine sMm S rfl rfl rfl rfl rfl fun a S => ?_
  refine sLen S (wN rfl) rfl Try.underlying142 rfl rfl (lb rfl) fun a S => ?_
  refine sBin _ S (wN rfl) rfl rfl rfl (bLt _ _ _ _ .i64 (r8.length : Int) 2) rfl (lb rfl) fun a S => ?_
  refine sMm S rfl rfl rfl rfl rfl fun a S => ?_
  rcases iteSome h with ⟨hc17, h⟩ | ⟨hc17, h⟩
  ·refine sSkN 4 3 false 24 S rfl rfl hc17 rfl fun a S => ?_
   refine sPickT (.bool true) S (wN rfl) rfl rfl hc17 rfl rfl (lb rfl) fun a S => ?_
   refine sMm S rfl rfl rfl rfl rfl fun a S => ?_
   refine sSkN 5 9 false 30 S rfl rfl rfl rfl fun a S => ?_
   refine sPickT (.bool true) S (wN rfl) rfl rfl rfl rfl rfl (lb rfl) fun a S => ?_
   refine sMm S rfl rfl rfl rfl rfl fun a S => ?_
   refine sSkN 5 16 false 37 S rfl rfl rfl rfl fun a S => ?_
   refine sPickT (.bool true) S (wN rfl) rfl rfl rfl rfl rfl (lb rfl) fun a S => ?_
   exact lT (⟨true, Option.some.inj h, S.fix [0] [0] (by decide) rfl rfl rfl⟩)
  refine sMove (.slice ad11 r8.length cp12) S (wG 3 false 24 rfl rfl rfl hc17) (.inl rfl) rfl rfl (lb rfl) fun a S => ?_
  refine sLen S (wG 3 false 24 rfl rfl rfl hc17) rfl Try.underlying142 rfl rfl (lb rfl) fun a S => ?_
  refine sBin _ S (wG 3 false 24 rfl rfl rfl hc17) rfl rfl rfl (bSub _ _ _ _ (r8.length : Int) 2) rfl (lb rfl) fun a S => ?_
  refine sBin _ S (wG 3 false 24 rfl rfl rfl hc17) rfl rfl rfl (bGt _ _ _ _ .i64 (w64 ((r8.length : Int) - 2)) 100) rfl (lb rfl) fun a S => ?_
  refine sPickF (.bool (decide (100 < (w64 ((r8.length : Int) - 2))))) S (wN rfl) rfl rfl hc17 rfl rfl (lb rfl) fun a S => ?_
  refine sMm S rfl rfl rfl rfl rfl fun a S => ?_
  rcases iteSome h with ⟨hc18, h⟩ | ⟨hc18, h⟩
  ·refine sSkN 5 9 false 30 S rfl rfl hc18 rfl fun a S => ?_
   refine sPickT (.bool true) S (wN rfl) rfl rfl hc18 rfl rfl (lb rfl) fun a S => ?_
   refine sMm S rfl rfl rfl rfl rfl fun a S => ?_
   refine sSkN 5 16 false 37 S rfl rfl rfl rfl fun a S => ?_
   refine sPickT (.bool true) S (wN rfl) rfl rfl rfl rfl rfl (lb rfl) fun a S => ?_
   exact lT (⟨true, Option.some.inj h, S.fix [0] [0] (by decide) rfl rfl rfl⟩)
  refine sMove (.slice ad11 r8.length cp12) S (wG 9 false 30 rfl rfl rfl hc18) (.inl rfl) rfl rfl (lb rfl) fun a S => ?_
  obtain ⟨x19, hx20, h⟩ := bindSome h
  obtain ⟨q21, hq22, S⟩ := pIdx (P := Try.prog) (r := rS) (v := .slice ad11 r8.length cp12) (xs := r8) (j := 0) 142 9 0 S Try.underlying142 rfl rfl hx20
  refine sIdxV S (wG 9 false 30 rfl rfl rfl hc18) rfl rfl rfl hq22 rfl (lb rfl) fun a S => ?_
  obtain ⟨u23, S⟩ := pLoad (r := rS) (q := q21) (x := x19) 0 S rfl
  obtain rfl : u23 = .string x19 := S.mem.know (i := 1) (e := fRep rS (u23) x19) rfl
  refine sLoadV1 (vq := q21) 0 (.string x19) S (wG 9 false 30 rfl rfl rfl hc18) rfl rfl rfl rfl rfl (lb rfl) fun a S => ?_
  refine sLenS (v := x19) S (wG 9 false 30 rfl rfl rfl hc18) rfl Try.underlying9 rfl rfl (lb rfl) fun a S => ?_
  refine sBin _ S (wG 9 false 30 rfl rfl rfl hc18) rfl rfl rfl (bLt _ _ _ _ .i64 (x19.size : Int) 7) rfl (lb rfl) fun a S => ?_
  refine sPickF (.bool (decide ((x19.size : Int) < 7))) S (wN rfl) rfl rfl hc18 rfl rfl (lb rfl) fun a S => ?_
  refine sMm S rfl rfl rfl rfl rfl fun a S => ?_
  rcases iteSome h with ⟨hc24, h⟩ | ⟨hc24, h⟩
  ·refine sSkN 5 16 false 37 S rfl rfl hc24 rfl fun a S => ?_
   refine sPickT (.bool true) S (wN rfl) rfl rfl hc24 rfl rfl (lb rfl) fun a S => ?_
   exact lT (⟨true, Option.some.inj h, S.fix [0] [3] (by decide) rfl rfl rfl⟩)
  refine sMove (.slice ad11 r8.length cp12) S (wG 16 false 37 rfl rfl rfl hc24) (.inl rfl) rfl rfl (lb rfl) fun a S => ?_
  obtain ⟨q25, hq26, S⟩ := pIdx (P := Try.prog) (r := rS) (v := .slice ad11 r8.length cp12) (xs := r8) (j := 0) 142 9 3 S Try.underlying142 rfl rfl hx20
  refine sIdxV S (wG 16 false 37 rfl rfl rfl hc24) rfl rfl rfl hq26 rfl (lb rfl) fun a S => ?_
  obtain ⟨u27, S⟩ := pLoad (r := rS) (q := q25) (x := x19) 0 S rfl
  obtain rfl : u27 = .string x19 := S.mem.know (i := 1) (e := fRep rS (u27) x19) rfl
  refine sLoadV1 (vq := q25) 0 (.string x19) S (wG 16 false 37 rfl rfl rfl hc24) rfl rfl rfl rfl rfl (lb rfl) fun a S => ?_
  obtain ⟨y28, hx29, h⟩ := bindSome h
  refine sSliceS (v := x19) (u := y28) (vlo := none) (vhi := (some (.int .i64 6))) (lo' := 0) (hi' := 6) S (wG 16 false 37 rfl rfl rfl hc24) rfl Try.underlying9 rfl rfl rfl (.inr ⟨rfl, rfl⟩) (.inl rfl) hx29 rfl (lb rfl) fun a S => ?_
  refine sBin _ S (wG 16 false 37 rfl rfl rfl hc24) rfl rfl rfl (bNeS _ _ _ _ y28 (⟨#[115, 116, 97, 114, 116, 32]⟩ : ByteArray)) rfl (lb rfl) fun a S => ?_
  refine sPickF (.bool (y28 != (⟨#[115, 116, 97, 114, 116, 32]⟩ : ByteArray))) S (wN rfl) rfl rfl hc24 rfl rfl (lb rfl) fun a S => ?_
  exact lT (⟨y28 != (⟨#[115, 116, 97, 114, 116, 32]⟩ : ByteArray), Option.some.inj h, S.fix [0] [6] (by decide) rfl rfl rfl⟩)
 obtain ⟨o14, rfl, S⟩ := hI
 have h := g16
 clear g16
 try dsimp only at h
 rcases iteSome h with ⟨hc30, h⟩ | ⟨hc30, h⟩
 ·refine sCondT S rfl hc30 ?_
  refine sSeq (fun K31 hK31 => ?_)
  refine sRegion ?_
  refine sBuild [] [iv 0, .slice none 0 0] S (wN rfl) rfl rfl rfl rfl (lb rfl) fun a S => ?_
  refine sStore (p := b2) (off := 0) (T := 42) (vs := [iv 0, .slice none 0 0]) (v := .agg #[iv 0, .slice none 0 0]) 0 [iv 0, .slice none 0 0] S (wN rfl) rfl rfl rfl rfl rfl rfl rfl (by simp) rfl fun a w S => ?_
  refine sMa S rfl rfl rfl rfl rfl fun a S => ?_
  refine lT (hK31 _ _ ?_)
  obtain rfl := Option.some.inj h
  have S := S.learn (fRep (rL r_api_Row) (.slice none 0 0) ([] : (List api_Row))) (rL_nil _ _ _)
  have S := S.learn (fRep r_api_Chart (.agg #[iv 0, .slice none 0 0]) (api_Chart.mk 0 ([] : (List api_Row)))) ⟨_, rfl, S.mem.know (i := 0) (e := fRep (rL r_api_Row) (.slice none 0 0) ([] : (List api_Row))) rfl⟩
  exact wp_ret (rThen (sRet (.tuple #[.agg #[iv 0, .slice none 0 0], iv 12]) S (rsl2 rfl (rvN (c := 2) (t := 42) (T := 42) (p := b2) 0 [iv 0, .slice none 0 0] S rfl rfl rfl rfl) (rvT (t := 3) (v := iv 12) S rfl)) ⟨(.agg #[iv 0, .slice none 0 0]), rfl, S.mem.sel [] [0] (by decide) rfl rfl⟩))
 refine sCondF S rfl hc30 ?_
 refine wp_skip (leafT (hK13 _ _ ?_))
 refine sSeq (fun K32 hK32 => ?_)
 refine sRegion ?_
 refine sMm S rfl rfl rfl rfl rfl fun a S => ?_
 obtain ⟨x33, hx34, h⟩ := bindSome h
 obtain ⟨q35, hq36, S⟩ := pIdx (P := Try.prog) (r := rS) (v := .slice ad11 r8.length cp12) (xs := r8) (j := 0) 142 9 0 S Try.underlying142 rfl rfl hx34
 refine sIdxV S (wN rfl) rfl rfl rfl hq36 rfl (lb rfl) fun a S => ?_
 obtain ⟨u37, S⟩ := pLoad (r := rS) (q := q35) (x := x33) 0 S rfl
 obtain rfl : u37 = .string x33 := S.mem.know (i := 1) (e := fRep rS (u37) x33) rfl
 refine sLoadV1 (vq := q35) 0 (.string x33) S (wN rfl) rfl rfl rfl rfl rfl (lb rfl) fun a S => ?_
 obtain ⟨y38, hx39, h⟩ := bindSome h
 refine sSliceS (v := x33) (u := y38) (vlo := (some (.int .i64 6))) (vhi := none) (lo' := 6) (hi' := (x33.size : Int)) S (wN rfl) rfl Try.underlying9 rfl rfl rfl (.inl rfl) (.inr ⟨rfl, rfl⟩) hx39 rfl (lb rfl) fun a S => ?_
 obtain ⟨r40, hx41, h⟩ := bindSome h
 have S1 := S.mem
 refine sCallQ (X := Unit) (f := 97) (vs := [.string y38]) (val := fun _ => .tuple #[iv r40.1, .bool r40.2]) S (wN rfl) rfl callee97 rfl (S1.quiet [] rfl) (fun E1 w1 S1 => c_raddleref25_Number E1 w1 y38 r40 hx41 S1) rfl (lb rfl) fun _ a w S => ?_
 refine sMm S rfl rfl rfl rfl rfl fun a S => ?_
 refine sExtract (vs := [iv r40.1, .bool r40.2]) (iv r40.1) S (wN rfl) rfl rfl rfl rfl (lb rfl) fun a S => ?_
 refine sExtract (vs := [iv r40.1, .bool r40.2]) (.bool r40.2) S (wN rfl) rfl rfl rfl rfl (lb rfl) fun a S => ?_
 refine sMa S rfl rfl rfl rfl rfl fun a S => ?_
 refine sMa S rfl rfl rfl rfl rfl fun a S => ?_
 refine lT (hK32 _ _ ?_)
 refine sSeq (fun K42 hK42 => ?_)
 refine sSeq (fun K43 hK43 => ?_)
 refine sRegion ?_
 refine sMm S rfl rfl rfl rfl rfl fun a S => ?_
 refine sNot (b := r40.2) S (wN rfl) rfl rfl rfl (lb rfl) fun a S => ?_
 refine lT (hK43 _ _ ?_)
 rcases iteSome h with ⟨hc44, h⟩ | ⟨hc44, h⟩
 ·refine sCondT S rfl hc44 ?_
  refine sSeq (fun K45 hK45 => ?_)
  refine sRegion ?_
  refine sBuild [] [iv 0, .slice none 0 0] S (wN rfl) rfl rfl rfl rfl (lb rfl) fun a S => ?_
  refine sStore (p := b2) (off := 0) (T := 42) (vs := [iv 0, .slice none 0 0]) (v := .agg #[iv 0, .slice none 0 0]) 0 [iv 0, .slice none 0 0] S (wN rfl) rfl rfl rfl rfl rfl rfl rfl (by simp) rfl fun a w S => ?_
  refine sMa S rfl rfl rfl rfl rfl fun a S => ?_
  refine lT (hK45 _ _ ?_)
  obtain rfl := Option.some.inj h
  have S := S.learn (fRep (rL r_api_Row) (.slice none 0 0) ([] : (List api_Row))) (rL_nil _ _ _)
  have S := S.learn (fRep r_api_Chart (.agg #[iv 0, .slice none 0 0]) (api_Chart.mk 0 ([] : (List api_Row)))) ⟨_, rfl, S.mem.know (i := 0) (e := fRep (rL r_api_Row) (.slice none 0 0) ([] : (List api_Row))) rfl⟩
  exact wp_ret (rThen (sRet (.tuple #[.agg #[iv 0, .slice none 0 0], iv 12]) S (rsl2 rfl (rvN (c := 2) (t := 42) (T := 42) (p := b2) 0 [iv 0, .slice none 0 0] S rfl rfl rfl rfl) (rvT (t := 3) (v := iv 12) S rfl)) ⟨(.agg #[iv 0, .slice none 0 0]), rfl, S.mem.sel [] [0] (by decide) rfl rfl⟩))
 refine sCondF S rfl hc44 ?_
 refine wp_skip (leafT (hK42 _ _ ?_))
 refine sSeq (fun K46 hK46 => ?_)
 refine sRegion ?_
 refine sMm S rfl rfl rfl rfl rfl fun a S => ?_
 refine sBuild [(0, iv r40.1)] [iv r40.1, .slice none 0 0] S (wN rfl) rfl rfl rfl rfl (lb rfl) fun a S => ?_
 refine sAlloc (.agg #[iv 0, .slice none 0 0]) S (wN rfl) rfl rfl [iv 0, .slice none 0 0] rfl rfl (lb rfl) fun a b47 w S => ?_
 refine sStore (p := b47) (off := 0) (T := 42) (vs := [iv 0, .slice none 0 0]) (v := .agg #[iv r40.1, .slice none 0 0]) 0 [iv r40.1, .slice none 0 0] S (wN rfl) rfl rfl rfl rfl rfl rfl rfl (by simp) rfl fun a w S => ?_
 refine lT (hK46 _ _ ?_)
 obtain ⟨t51, h, g52⟩ := bindSome h
 refine sCut (fun a w => ∃ o48, .inl o48 = t51 ∧ ∃ ad49, ∃ cp50, St [] E [] w0 155 a w [(0, .string p0), (2, .pointer (some ⟨b2, 0, none⟩)), (7, .pointer (some ⟨b47, 0, none⟩))] [eBox b2 42 [iv 0, .slice none 0 0], eBox b47 42 [iv r40.1, .slice ad49 o48.length cp50], eRow r_api_Row 87 (.slice ad49 o48.length cp50) o48] []) ?_ (fun a w hI => ?_)
 rotate_left
 ·obtain ⟨o48, rfl, ad49, cp50, S⟩ := hI
  have h := g52
  clear g52
  try dsimp only at h
  refine sSeq (fun K154 hK154 => ?_)
  refine sSeq (fun K155 hK155 => ?_)
  refine sRegion ?_
  refine sLoadN (p := b47) (off := 0) (T := 42) (vs := [iv r40.1, .slice ad49 o48.length cp50]) 1 [iv r40.1, .slice ad49 o48.length cp50] S (wN rfl) rfl rfl rfl rfl rfl rfl rfl (lb rfl) fun a S => ?_
  obtain ⟨r156, hx157, h⟩ := bindSome h
  have S1 := S.mem
  have S1 := S1.shutR (r := r_api_Row) (T := 87) (v := .slice ad49 o48.length cp50) (xs := o48) 2 rfl
  have S1 := S1.learn (fRep r_api_Chart (.agg #[iv r40.1, .slice ad49 o48.length cp50]) (api_Chart.mk r40.1 o48)) ⟨_, rfl, S1.know (i := 0) (e := fRep (rL r_api_Row) (.slice ad49 o48.length cp50) o48) rfl⟩
  refine sCallQ (X := Unit) (f := 39) (vs := [.agg #[iv r40.1, .slice ad49 o48.length cp50]]) (val := fun _ => iv r156) S (wN rfl) rfl callee39 rfl (S1.quiet [0] rfl) (fun E1 w1 S1 => c_raddleref26_Check E1 w1 (api_Chart.mk r40.1 o48) (.agg #[iv r40.1, .slice ad49 o48.length cp50]) r156 hx157 S1) rfl (lb rfl) fun _ a w S => ?_
  refine sBin _ S (wN rfl) rfl rfl rfl (bNe _ _ _ _ .i64 r156 0) rfl (lb rfl) fun a S => ?_
  refine lT (hK155 _ _ ?_)
  rcases iteSome h with ⟨hc158, h⟩ | ⟨hc158, h⟩
  ·refine sCondT S rfl hc158 ?_
   refine sSeq (fun K159 hK159 => ?_)
   refine sRegion ?_
   refine sBuild [] [iv 0, .slice none 0 0] S (wN rfl) rfl rfl rfl rfl (lb rfl) fun a S => ?_
   refine sStore (p := b2) (off := 0) (T := 42) (vs := [iv 0, .slice none 0 0]) (v := .agg #[iv 0, .slice none 0 0]) 0 [iv 0, .slice none 0 0] S (wN rfl) rfl rfl rfl rfl rfl rfl rfl (by simp) rfl fun a w S => ?_
   refine sMa S rfl rfl rfl rfl rfl fun a S => ?_
   refine lT (hK159 _ _ ?_)
   obtain rfl := Option.some.inj h
   have S := S.learn (fRep (rL r_api_Row) (.slice none 0 0) ([] : (List api_Row))) (rL_nil _ _ _)
   have S := S.learn (fRep r_api_Chart (.agg #[iv 0, .slice none 0 0]) (api_Chart.mk 0 ([] : (List api_Row)))) ⟨_, rfl, S.mem.know (i := 0) (e := fRep (rL r_api_Row) (.slice none 0 0) ([] : (List api_Row))) rfl⟩
   exact wp_ret (rThen (sRet (.tuple #[.agg #[iv 0, .slice none 0 0], iv 12]) S (rsl2 rfl (rvN (c := 2) (t := 42) (T := 42) (p := b2) 0 [iv 0, .slice none 0 0] S rfl rfl rfl rfl) (rvT (t := 3) (v := iv 12) S rfl)) ⟨(.agg #[iv 0, .slice none 0 0]), rfl, S.mem.sel [] [0] (by decide) rfl rfl⟩))
  refine sCondF S rfl hc158 ?_
  refine wp_skip (leafT (hK154 _ _ ?_))
  refine sSeq (fun K160 hK160 => ?_)
  refine sRegion ?_
  refine sLoadN (p := b47) (off := 0) (T := 42) (vs := [iv r40.1, .slice ad49 o48.length cp50]) 1 [iv r40.1, .slice ad49 o48.length cp50] S (wN rfl) rfl rfl rfl rfl rfl rfl rfl (lb rfl) fun a S => ?_
  obtain ⟨r161, hx162, h⟩ := bindSome h
  have S1 := S.mem
  have S1 := S1.shutR (r := r_api_Row) (T := 87) (v := .slice ad49 o48.length cp50) (xs := o48) 2 rfl
  have S1 := S1.learn (fRep r_api_Chart (.agg #[iv r40.1, .slice ad49 o48.length cp50]) (api_Chart.mk r40.1 o48)) ⟨_, rfl, S1.know (i := 0) (e := fRep (rL r_api_Row) (.slice ad49 o48.length cp50) o48) rfl⟩
  refine sCallQ (X := Unit) (f := 98) (vs := [.agg #[iv r40.1, .slice ad49 o48.length cp50]]) (val := fun _ => .tuple #[.string r161.1, .bool r161.2]) S (wN rfl) rfl callee98 rfl (S1.quiet [0] rfl) (fun E1 w1 S1 => c_raddleref26_Written E1 w1 (api_Chart.mk r40.1 o48) (.agg #[iv r40.1, .slice ad49 o48.length cp50]) r161 hx162 S1) rfl (lb rfl) fun _ a w S => ?_
  refine sMm S rfl rfl rfl rfl rfl fun a S => ?_
  refine sExtract (vs := [.string r161.1, .bool r161.2]) (.string r161.1) S (wN rfl) rfl rfl rfl rfl (lb rfl) fun a S => ?_
  refine sExtract (vs := [.string r161.1, .bool r161.2]) (.bool r161.2) S (wN rfl) rfl rfl rfl rfl (lb rfl) fun a S => ?_
  refine sMa S rfl rfl rfl rfl rfl fun a S => ?_
  refine sMa S rfl rfl rfl rfl rfl fun a S => ?_
  refine lT (hK160 _ _ ?_)
  refine sSeq (fun K163 hK163 => ?_)
  obtain ⟨t165, h, g166⟩ := bindSome h
  refine sCut (fun a w => ∃ o164, o164 = t165 ∧ St [] E [] w0 155 a w [(2, .pointer (some ⟨b2, 0, none⟩)), (7, .pointer (some ⟨b47, 0, none⟩)), (152, .bool o164)] [eBox b2 42 [iv 0, .slice none 0 0], eBox b47 42 [iv r40.1, .slice ad49 o48.length cp50], eRow r_api_Row 87 (.slice ad49 o48.length cp50) o48] []) ?_ (fun a w hI => ?_)
  ·refine sRegion ?_
   refine sMm S rfl rfl rfl rfl rfl fun a S => ?_
   refine sNot (b := r161.2) S (wN rfl) rfl rfl rfl (lb rfl) fun a S => ?_
   refine sMm S rfl rfl rfl rfl rfl fun a S => ?_
   rcases iteSome h with ⟨hc167, h⟩ | ⟨hc167, h⟩
   ·refine sSkN 3 2 false 148 S rfl rfl hc167 rfl fun a S => ?_
    refine sPickT (.bool true) S (wN rfl) rfl rfl hc167 rfl rfl (lb rfl) fun a S => ?_
    exact lT (⟨true, Option.some.inj h, S.fix [0, 1, 2] [] (by decide) rfl rfl rfl⟩)
   refine sMove (.string r161.1) S (wG 2 false 148 rfl rfl rfl hc167) (.inl rfl) rfl rfl (lb rfl) fun a S => ?_
   refine sMove (.string p0) S (wG 2 false 148 rfl rfl rfl hc167) (.inl rfl) rfl rfl (lb rfl) fun a S => ?_
   refine sBin _ S (wG 2 false 148 rfl rfl rfl hc167) rfl rfl rfl (bNeS _ _ _ _ r161.1 p0) rfl (lb rfl) fun a S => ?_
   refine sPickF (.bool (r161.1 != p0)) S (wN rfl) rfl rfl hc167 rfl rfl (lb rfl) fun a S => ?_
   exact lT (⟨r161.1 != p0, Option.some.inj h, S.fix [0, 1, 2] [] (by decide) rfl rfl rfl⟩)
  obtain ⟨o164, rfl, S⟩ := hI
  have h := g166
  clear g166
  try dsimp only at h
  rcases iteSome h with ⟨hc168, h⟩ | ⟨hc168, h⟩
  ·refine sCondT S rfl hc168 ?_
   refine sSeq (fun K169 hK169 => ?_)
   refine sRegion ?_
   refine sBuild [] [iv 0, .slice none 0 0] S (wN rfl) rfl rfl rfl rfl (lb rfl) fun a S => ?_
   refine sStore (p := b2) (off := 0) (T := 42) (vs := [iv 0, .slice none 0 0]) (v := .agg #[iv 0, .slice none 0 0]) 0 [iv 0, .slice none 0 0] S (wN rfl) rfl rfl rfl rfl rfl rfl rfl (by simp) rfl fun a w S => ?_
   refine sMa S rfl rfl rfl rfl rfl fun a S => ?_
   refine lT (hK169 _ _ ?_)
   obtain rfl := Option.some.inj h
   have S := S.learn (fRep (rL r_api_Row) (.slice none 0 0) ([] : (List api_Row))) (rL_nil _ _ _)
   have S := S.learn (fRep r_api_Chart (.agg #[iv 0, .slice none 0 0]) (api_Chart.mk 0 ([] : (List api_Row)))) ⟨_, rfl, S.mem.know (i := 0) (e := fRep (rL r_api_Row) (.slice none 0 0) ([] : (List api_Row))) rfl⟩
   exact wp_ret (rThen (sRet (.tuple #[.agg #[iv 0, .slice none 0 0], iv 12]) S (rsl2 rfl (rvN (c := 2) (t := 42) (T := 42) (p := b2) 0 [iv 0, .slice none 0 0] S rfl rfl rfl rfl) (rvT (t := 3) (v := iv 12) S rfl)) ⟨(.agg #[iv 0, .slice none 0 0]), rfl, S.mem.sel [] [0] (by decide) rfl rfl⟩))
  refine sCondF S rfl hc168 ?_
  refine wp_skip (leafT (hK163 _ _ ?_))
  refine sSeq (fun K170 hK170 => ?_)
  refine sRegion ?_
  refine sLoadN (p := b47) (off := 0) (T := 42) (vs := [iv r40.1, .slice ad49 o48.length cp50]) 1 [iv r40.1, .slice ad49 o48.length cp50] S (wN rfl) rfl rfl rfl rfl rfl rfl rfl (lb rfl) fun a S => ?_
  refine sStore (p := b2) (off := 0) (T := 42) (vs := [iv 0, .slice none 0 0]) (v := .agg #[iv r40.1, .slice ad49 o48.length cp50]) 0 [iv r40.1, .slice ad49 o48.length cp50] S (wN rfl) rfl rfl rfl rfl rfl rfl rfl (by simp) rfl fun a w S => ?_
  refine sMa S rfl rfl rfl rfl rfl fun a S => ?_
  refine lT (hK170 _ _ ?_)
  obtain rfl := Option.some.inj h
  have S := S.shutR (r := r_api_Row) (T := 87) (v := .slice ad49 o48.length cp50) (xs := o48) 2 rfl
  have S := S.learn (fRep r_api_Chart (.agg #[iv r40.1, .slice ad49 o48.length cp50]) (api_Chart.mk r40.1 o48)) ⟨_, rfl, S.mem.know (i := 0) (e := fRep (rL r_api_Row) (.slice ad49 o48.length cp50) o48) rfl⟩
  exact wp_ret (sRet (.tuple #[.agg #[iv r40.1, .slice ad49 o48.length cp50], iv 0]) S (rsl2 rfl (rvN (c := 2) (t := 42) (T := 42) (p := b2) 0 [iv r40.1, .slice ad49 o48.length cp50] S rfl rfl rfl rfl) (rvT (t := 3) (v := iv 0) S rfl)) ⟨(.agg #[iv r40.1, .slice ad49 o48.length cp50]), rfl, S.mem.sel [] [0] (by decide) rfl rfl⟩)
 refine sSeq (fun K53 hK53 => ?_)
 refine sRegion ?_
 refine sMa S rfl rfl rfl rfl rfl fun a S => ?_
 refine lT (hK53 _ _ ?_)
 refine wp_block ?_
 have S := S.nilRow r_api_Row 87 (α := api_Row)
 obtain ⟨t60, hl, g59⟩ := bindSome h
 refine sLoop hl (fun s0 a w => match s0 with | (s54, s55) => ∃ ad56, ∃ cp57, St [] E [] w0 155 a w [(0, .string p0), (2, .pointer (some ⟨b2, 0, none⟩)), (4, .slice ad11 r8.length cp12), (7, .pointer (some ⟨b47, 0, none⟩)), (8, iv s54)] [eBox b2 42 [iv 0, .slice none 0 0], eBox b47 42 [iv r40.1, .slice ad56 s55.length cp57], eRow r_api_Row 87 (.slice ad56 s55.length cp57) s55] [fRep (rL rS) (.slice ad11 r8.length cp12) r8]) ⟨none, 0, S.fix [2, 1, 0] [3] (by decide) rfl rfl rfl⟩ ?_
 clear hl h
 intro s0 a w c0 hI h hu58
 obtain ⟨s54, s55⟩ := s0
 unfold raddleref26_Parse_l2 at h
 dsimp only at h hI
 obtain ⟨ad56, cp57, S⟩ := hI
 refine sSeq (fun K64 hK64 => ?_)
 refine sSeq (fun K65 hK65 => ?_)
 refine sRegion ?_
 refine sMm S rfl rfl rfl rfl rfl fun a S => ?_
 refine sBin _ S (wN rfl) rfl rfl rfl (bAdd _ _ _ _ s54 1) rfl (lb rfl) fun a S => ?_
 refine sMm S rfl rfl rfl rfl rfl fun a S => ?_
 refine sLen S (wN rfl) rfl Try.underlying142 rfl rfl (lb rfl) fun a S => ?_
 refine sBin _ S (wN rfl) rfl rfl rfl (bLt _ _ _ _ .i64 (w64 (s54 + 1)) (r8.length : Int)) rfl (lb rfl) fun a S => ?_
 refine lT (hK65 _ _ ?_)
 rcases iteSome h with ⟨hc66, h⟩ | ⟨hc66, h⟩
 rotate_left
 ·refine sCondF S rfl hc66 ?_
  obtain rfl := Option.some.inj h
  obtain rfl := hu58 _ rfl
  have h := g59
  clear g59
  try dsimp only at h
  exact wp_exit (xThen (xThen (xHit (leafT (⟨s55, Option.some.inj h, ad56, cp57, S.fix [0, 1, 2] [] (by decide) rfl rfl rfl⟩)))))
 refine sCondT S rfl hc66 ?_
 refine wp_skip (leafT (hK64 _ _ ?_))
 obtain ⟨t70, h, g71⟩ := bindSome h
 refine sCut (fun a w => ∃ o67, .inl o67 = t70 ∧ ∃ ad68, ∃ cp69, St [] E [] w0 155 a w [(0, .string p0), (2, .pointer (some ⟨b2, 0, none⟩)), (4, .slice ad11 r8.length cp12), (7, .pointer (some ⟨b47, 0, none⟩)), (8, iv s54)] [eBox b2 42 [iv 0, .slice none 0 0], eBox b47 42 [iv r40.1, .slice ad68 o67.length cp69], eRow r_api_Row 87 (.slice ad68 o67.length cp69) o67] [fRep (rL rS) (.slice ad11 r8.length cp12) r8]) ?_ (fun a w hI => ?_)
 rotate_left
 ·obtain ⟨o67, rfl, ad68, cp69, S⟩ := hI
  have h := g71
  clear g71
  try dsimp only at h
  refine sRegion ?_
  refine sMm S rfl rfl rfl rfl rfl fun a S => ?_
  refine sBin _ S (wN rfl) rfl rfl rfl (bAdd _ _ _ _ s54 1) rfl (lb rfl) fun a S => ?_
  refine sMa S rfl rfl rfl rfl rfl fun a S => ?_
  exact lT (⟨(w64 (s54 + 1), o67), (Option.some.inj h).symm, ⟨ad68, cp69, S.fix [0, 1, 2] [0] (by decide) rfl rfl rfl⟩⟩)
 refine wp_block ?_
 refine sSeq (fun K72 hK72 => ?_)
 refine sRegion ?_
 refine sMa S rfl rfl rfl rfl rfl fun a S => ?_
 refine lT (hK72 _ _ ?_)
 obtain ⟨t74, h, g75⟩ := bindSome h
 refine sCut (fun a w => ∃ o73, o73 = t74 ∧ St [] E [] w0 155 a w [(0, .string p0), (2, .pointer (some ⟨b2, 0, none⟩)), (4, .slice ad11 r8.length cp12), (7, .pointer (some ⟨b47, 0, none⟩)), (8, iv s54), (9, iv o73)] [eBox b2 42 [iv 0, .slice none 0 0], eBox b47 42 [iv r40.1, .slice ad56 s55.length cp57], eRow r_api_Row 87 (.slice ad56 s55.length cp57) s55] [fRep (rL rS) (.slice ad11 r8.length cp12) r8]) ?_ (fun a w hI => ?_)
 ·refine wp_block ?_
  obtain ⟨t79, hl, g78⟩ := bindSome h
  refine sLoop hl (fun s0 a w => match s0 with | s76 => St [] E [] w0 155 a w [(0, .string p0), (2, .pointer (some ⟨b2, 0, none⟩)), (4, .slice ad11 r8.length cp12), (7, .pointer (some ⟨b47, 0, none⟩)), (8, iv s54), (9, iv s76)] [eBox b2 42 [iv 0, .slice none 0 0], eBox b47 42 [iv r40.1, .slice ad56 s55.length cp57], eRow r_api_Row 87 (.slice ad56 s55.length cp57) s55] [fRep (rL rS) (.slice ad11 r8.length cp12) r8]) (S.fix [0, 1, 2] [0] (by decide) rfl rfl rfl) ?_
  clear hl h
  intro s76 a w c0 hI h hu77
  unfold raddleref26_Parse_l1 at h
  dsimp only at h hI
  have S := hI
  refine sSeq (fun K81 hK81 => ?_)
  obtain ⟨t83, h, g84⟩ := bindSome h
  refine sCut (fun a w => ∃ o82, o82 = t83 ∧ St [] E [] w0 155 a w [(0, .string p0), (2, .pointer (some ⟨b2, 0, none⟩)), (4, .slice ad11 r8.length cp12), (7, .pointer (some ⟨b47, 0, none⟩)), (8, iv s54), (9, iv s76), (80, .bool o82)] [eBox b2 42 [iv 0, .slice none 0 0], eBox b47 42 [iv r40.1, .slice ad56 s55.length cp57], eRow r_api_Row 87 (.slice ad56 s55.length cp57) s55] [fRep (rL rS) (.slice ad11 r8.length cp12) r8]) ?_ (fun a w hI => ?_)
  rotate_left
  ·obtain ⟨o82, rfl, S⟩ := hI
   have h := g84
   clear g84
   try dsimp only at h
   rcases iteSome h with ⟨hc96, h⟩ | ⟨hc96, h⟩
   rotate_left
   ·refine sCondF S rfl hc96 ?_
    obtain rfl := Option.some.inj h
    obtain rfl := hu77 _ rfl
    have h := g78
    clear g78
    try dsimp only at h
    exact wp_exit (xThen (xThen (xHit (leafT (⟨s76, Option.some.inj h, S.fix [0, 1, 2] [0] (by decide) rfl rfl rfl⟩)))))
   refine sCondT S rfl hc96 ?_
   refine wp_skip (leafT (hK81 _ _ ?_))
   refine wp_block ?_
   refine sRegion ?_
   refine sMm S rfl rfl rfl rfl rfl fun a S => ?_
   refine sBin _ S (wN rfl) rfl rfl rfl (bAdd _ _ _ _ s76 1) rfl (lb rfl) fun a S => ?_
   refine sMa S rfl rfl rfl rfl rfl fun a S => ?_
   exact leafL (leafB (leafT (⟨w64 (s76 + 1), (Option.some.inj h).symm, (S.fix [0, 1, 2] [0] (by decide) rfl rfl rfl)⟩)))
  refine sRegion ?_
  refine sMm S rfl rfl rfl rfl rfl fun a S => ?_
  refine sMm S rfl rfl rfl rfl rfl fun a S => ?_
  refine sMm S rfl rfl rfl rfl rfl fun a S => ?_
  obtain ⟨x85, hx86, h⟩ := bindSome h
  obtain ⟨q87, hq88, S⟩ := pIdx (P := Try.prog) (r := rS) (v := .slice ad11 r8.length cp12) (xs := r8) (j := s54) 142 9 0 S Try.underlying142 rfl rfl hx86
  refine sIdxV S (wN rfl) rfl rfl rfl hq88 rfl (lb rfl) fun a S => ?_
  obtain ⟨u89, S⟩ := pLoad (r := rS) (q := q87) (x := x85) 0 S rfl
  obtain rfl : u89 = .string x85 := S.mem.know (i := 1) (e := fRep rS (u89) x85) rfl
  refine sLoadV1 (vq := q87) 0 (.string x85) S (wN rfl) rfl rfl rfl rfl rfl (lb rfl) fun a S => ?_
  refine sLenS (v := x85) S (wN rfl) rfl Try.underlying9 rfl rfl (lb rfl) fun a S => ?_
  refine sBin _ S (wN rfl) rfl rfl rfl (bLt _ _ _ _ .i64 s76 (x85.size : Int)) rfl (lb rfl) fun a S => ?_
  refine sMm S rfl rfl rfl rfl rfl fun a S => ?_
  rcases iteSome h with ⟨hc90, h⟩ | ⟨hc90, h⟩
  rotate_left
  ·refine sSkN 7 7 true 72 S rfl rfl hc90 rfl fun a S => ?_
   refine sPickF (.bool false) S (wN rfl) rfl rfl hc90 rfl rfl (lb rfl) fun a S => ?_
   exact lT (⟨false, Option.some.inj h, S.fix [0, 1, 2] [3] (by decide) rfl rfl rfl⟩)
  refine sMove (.slice ad11 r8.length cp12) S (wG 7 true 72 rfl rfl rfl hc90) (.inl rfl) rfl rfl (lb rfl) fun a S => ?_
  refine sMove (iv s54) S (wG 7 true 72 rfl rfl rfl hc90) (.inl rfl) rfl rfl (lb rfl) fun a S => ?_
  obtain ⟨q91, hq92, S⟩ := pIdx (P := Try.prog) (r := rS) (v := .slice ad11 r8.length cp12) (xs := r8) (j := s54) 142 9 3 S Try.underlying142 rfl rfl hx86
  refine sIdxV S (wG 7 true 72 rfl rfl rfl hc90) rfl rfl rfl hq92 rfl (lb rfl) fun a S => ?_
  obtain ⟨u93, S⟩ := pLoad (r := rS) (q := q91) (x := x85) 0 S rfl
  obtain rfl : u93 = .string x85 := S.mem.know (i := 1) (e := fRep rS (u93) x85) rfl
  refine sLoadV1 (vq := q91) 0 (.string x85) S (wG 7 true 72 rfl rfl rfl hc90) rfl rfl rfl rfl rfl (lb rfl) fun a S => ?_
  refine sMove (iv s76) S (wG 7 true 72 rfl rfl rfl hc90) (.inl rfl) rfl rfl (lb rfl) fun a S => ?_
  obtain ⟨x94, hx95, h⟩ := bindSome h
  refine sIndexS (v := x85) (j := s76) (k := .i64) S (wG 7 true 72 rfl rfl rfl hc90) rfl Try.underlying9 rfl rfl hx95 rfl (lb rfl) fun a S => ?_
  refine sBin _ S (wG 7 true 72 rfl rfl rfl hc90) rfl rfl rfl (bNe _ _ _ _ .u8 x94 32) rfl (lb rfl) fun a S => ?_
  refine sPickT (.bool (x94 != 32)) S (wN rfl) rfl rfl hc90 rfl rfl (lb rfl) fun a S => ?_
  exact lT (⟨x94 != 32, Option.some.inj h, S.fix [0, 1, 2] [6] (by decide) rfl rfl rfl⟩)
 obtain ⟨o73, rfl, S⟩ := hI
 have h := g75
 clear g75
 try dsimp only at h
 refine sSeq (fun K97 hK97 => ?_)
 obtain ⟨t99, h, g100⟩ := bindSome h
 refine sCut (fun a w => ∃ o98, o98 = t99 ∧ St [] E [] w0 155 a w [(0, .string p0), (2, .pointer (some ⟨b2, 0, none⟩)), (4, .slice ad11 r8.length cp12), (7, .pointer (some ⟨b47, 0, none⟩)), (8, iv s54), (9, iv o73), (98, .bool o98)] [eBox b2 42 [iv 0, .slice none 0 0], eBox b47 42 [iv r40.1, .slice ad56 s55.length cp57], eRow r_api_Row 87 (.slice ad56 s55.length cp57) s55] [fRep (rL rS) (.slice ad11 r8.length cp12) r8]) ?_ (fun a w hI => ?_)
 ·refine sRegion ?_
  refine sMm S rfl rfl rfl rfl rfl fun a S => ?_
  refine sMm S rfl rfl rfl rfl rfl fun a S => ?_
  obtain ⟨x101, hx102, h⟩ := bindSome h
  obtain ⟨q103, hq104, S⟩ := pIdx (P := Try.prog) (r := rS) (v := .slice ad11 r8.length cp12) (xs := r8) (j := s54) 142 9 0 S Try.underlying142 rfl rfl hx102
  refine sIdxV S (wN rfl) rfl rfl rfl hq104 rfl (lb rfl) fun a S => ?_
  obtain ⟨u105, S⟩ := pLoad (r := rS) (q := q103) (x := x101) 0 S rfl
  obtain rfl : u105 = .string x101 := S.mem.know (i := 1) (e := fRep rS (u105) x101) rfl
  refine sLoadV1 (vq := q103) 0 (.string x101) S (wN rfl) rfl rfl rfl rfl rfl (lb rfl) fun a S => ?_
  refine sMm S rfl rfl rfl rfl rfl fun a S => ?_
  obtain ⟨y106, hx107, h⟩ := bindSome h
  refine sSliceS (v := x101) (u := y106) (vlo := none) (vhi := (some (.int .i64 o73))) (lo' := 0) (hi' := o73) S (wN rfl) rfl Try.underlying9 rfl rfl rfl (.inr ⟨rfl, rfl⟩) (.inl rfl) hx107 rfl (lb rfl) fun a S => ?_
  refine sBin _ S (wN rfl) rfl rfl rfl (bNeS _ _ _ _ y106 (⟨#[102, 114, 111, 110, 116]⟩ : ByteArray)) rfl (lb rfl) fun a S => ?_
  refine sMm S rfl rfl rfl rfl rfl fun a S => ?_
  rcases iteSome h with ⟨hc108, h⟩ | ⟨hc108, h⟩
  rotate_left
  ·refine sSkN 7 7 true 90 S rfl rfl hc108 rfl fun a S => ?_
   refine sPickF (.bool false) S (wN rfl) rfl rfl hc108 rfl rfl (lb rfl) fun a S => ?_
   exact lT (⟨false, Option.some.inj h, S.fix [0, 1, 2] [3] (by decide) rfl rfl rfl⟩)
  refine sMove (.slice ad11 r8.length cp12) S (wG 7 true 90 rfl rfl rfl hc108) (.inl rfl) rfl rfl (lb rfl) fun a S => ?_
  refine sMove (iv s54) S (wG 7 true 90 rfl rfl rfl hc108) (.inl rfl) rfl rfl (lb rfl) fun a S => ?_
  obtain ⟨q109, hq110, S⟩ := pIdx (P := Try.prog) (r := rS) (v := .slice ad11 r8.length cp12) (xs := r8) (j := s54) 142 9 3 S Try.underlying142 rfl rfl hx102
  refine sIdxV S (wG 7 true 90 rfl rfl rfl hc108) rfl rfl rfl hq110 rfl (lb rfl) fun a S => ?_
  obtain ⟨u111, S⟩ := pLoad (r := rS) (q := q109) (x := x101) 0 S rfl
  obtain rfl : u111 = .string x101 := S.mem.know (i := 1) (e := fRep rS (u111) x101) rfl
  refine sLoadV1 (vq := q109) 0 (.string x101) S (wG 7 true 90 rfl rfl rfl hc108) rfl rfl rfl rfl rfl (lb rfl) fun a S => ?_
  refine sMove (iv o73) S (wG 7 true 90 rfl rfl rfl hc108) (.inl rfl) rfl rfl (lb rfl) fun a S => ?_
  refine sSliceS (v := x101) (u := y106) (vlo := none) (vhi := (some (.int .i64 o73))) (lo' := 0) (hi' := o73) S (wG 7 true 90 rfl rfl rfl hc108) rfl Try.underlying9 rfl rfl rfl (.inr ⟨rfl, rfl⟩) (.inl rfl) hx107 rfl (lb rfl) fun a S => ?_
  refine sBin _ S (wG 7 true 90 rfl rfl rfl hc108) rfl rfl rfl (bNeS _ _ _ _ y106 (⟨#[98, 97, 99, 107]⟩ : ByteArray)) rfl (lb rfl) fun a S => ?_
  refine sPickT (.bool (y106 != (⟨#[98, 97, 99, 107]⟩ : ByteArray))) S (wN rfl) rfl rfl hc108 rfl rfl (lb rfl) fun a S => ?_
  exact lT (⟨y106 != (⟨#[98, 97, 99, 107]⟩ : ByteArray), Option.some.inj h, S.fix [0, 1, 2] [6] (by decide) rfl rfl rfl⟩)
 obtain ⟨o98, rfl, S⟩ := hI
 have h := g100
 clear g100
 try dsimp only at h
 rcases iteSome h with ⟨hc112, h⟩ | ⟨hc112, h⟩
 ·refine sCondT S rfl hc112 ?_
  refine sSeq (fun K113 hK113 => ?_)
  refine sRegion ?_
  refine sBuild [] [iv 0, .slice none 0 0] S (wN rfl) rfl rfl rfl rfl (lb rfl) fun a S => ?_
  refine sStore (p := b2) (off := 0) (T := 42) (vs := [iv 0, .slice none 0 0]) (v := .agg #[iv 0, .slice none 0 0]) 0 [iv 0, .slice none 0 0] S (wN rfl) rfl rfl rfl rfl rfl rfl rfl (by simp) rfl fun a w S => ?_
  refine sMa S rfl rfl rfl rfl rfl fun a S => ?_
  refine lT (hK113 _ _ ?_)
  obtain rfl := Option.some.inj h
  have h := g71
  clear g71
  try dsimp only at h
  obtain rfl := Option.some.inj h
  obtain rfl := hu58 _ rfl
  have h := g59
  clear g59
  try dsimp only at h
  obtain rfl := Option.some.inj h
  have h := g52
  clear g52
  try dsimp only at h
  obtain rfl := Option.some.inj h
  have S := S.learn (fRep (rL r_api_Row) (.slice none 0 0) ([] : (List api_Row))) (rL_nil _ _ _)
  have S := S.learn (fRep r_api_Chart (.agg #[iv 0, .slice none 0 0]) (api_Chart.mk 0 ([] : (List api_Row)))) ⟨_, rfl, S.mem.know (i := 0) (e := fRep (rL r_api_Row) (.slice none 0 0) ([] : (List api_Row))) rfl⟩
  exact wp_ret (rThen (rBlock (rThen (rThen (rBlock (rThen (sRet (.tuple #[.agg #[iv 0, .slice none 0 0], iv 12]) S (rsl2 rfl (rvN (c := 2) (t := 42) (T := 42) (p := b2) 0 [iv 0, .slice none 0 0] S rfl rfl rfl rfl) (rvT (t := 3) (v := iv 12) S rfl)) ⟨(.agg #[iv 0, .slice none 0 0]), rfl, S.mem.sel [] [0] (by decide) rfl rfl⟩)))))))
 refine sCondF S rfl hc112 ?_
 refine wp_skip (leafT (hK97 _ _ ?_))
 refine sSeq (fun K114 hK114 => ?_)
 refine sRegion ?_
 refine sMm S rfl rfl rfl rfl rfl fun a S => ?_
 refine sMm S rfl rfl rfl rfl rfl fun a S => ?_
 obtain ⟨x115, hx116, h⟩ := bindSome h
 obtain ⟨q117, hq118, S⟩ := pIdx (P := Try.prog) (r := rS) (v := .slice ad11 r8.length cp12) (xs := r8) (j := s54) 142 9 0 S Try.underlying142 rfl rfl hx116
 refine sIdxV S (wN rfl) rfl rfl rfl hq118 rfl (lb rfl) fun a S => ?_
 obtain ⟨u119, S⟩ := pLoad (r := rS) (q := q117) (x := x115) 0 S rfl
 obtain rfl : u119 = .string x115 := S.mem.know (i := 1) (e := fRep rS (u119) x115) rfl
 refine sLoadV1 (vq := q117) 0 (.string x115) S (wN rfl) rfl rfl rfl rfl rfl (lb rfl) fun a S => ?_
 refine sMm S rfl rfl rfl rfl rfl fun a S => ?_
 obtain ⟨y120, hx121, h⟩ := bindSome h
 refine sSliceS (v := x115) (u := y120) (vlo := none) (vhi := (some (.int .i64 o73))) (lo' := 0) (hi' := o73) S (wN rfl) rfl Try.underlying9 rfl rfl rfl (.inr ⟨rfl, rfl⟩) (.inl rfl) hx121 rfl (lb rfl) fun a S => ?_
 refine sBin _ S (wN rfl) rfl rfl rfl (bEqS _ _ _ _ y120 (⟨#[98, 97, 99, 107]⟩ : ByteArray)) rfl (lb rfl) fun a S => ?_
 refine sBuild [(0, .bool (y120 == (⟨#[98, 97, 99, 107]⟩ : ByteArray)))] [.bool (y120 == (⟨#[98, 97, 99, 107]⟩ : ByteArray)), .slice none 0 0] S (wN rfl) rfl rfl rfl rfl (lb rfl) fun a S => ?_
 refine sAlloc (.agg #[.bool false, .slice none 0 0]) S (wN rfl) rfl rfl [.bool false, .slice none 0 0] rfl rfl (lb rfl) fun a b122 w S => ?_
 refine sStore (p := b122) (off := 0) (T := 87) (vs := [.bool false, .slice none 0 0]) (v := .agg #[.bool (y120 == (⟨#[98, 97, 99, 107]⟩ : ByteArray)), .slice none 0 0]) 0 [.bool (y120 == (⟨#[98, 97, 99, 107]⟩ : ByteArray)), .slice none 0 0] S (wN rfl) rfl rfl rfl rfl rfl rfl rfl (by simp) rfl fun a w S => ?_
 refine lT (hK114 _ _ ?_)
 obtain ⟨t126, h, g127⟩ := bindSome h
 refine sCut (fun a w => ∃ o123, .inl o123 = t126 ∧ ∃ ad124, ∃ cp125, St [] E [] w0 155 a w [(0, .string p0), (2, .pointer (some ⟨b2, 0, none⟩)), (4, .slice ad11 r8.length cp12), (7, .pointer (some ⟨b47, 0, none⟩)), (8, iv s54), (10, .pointer (some ⟨b122, 0, none⟩))] [eBox b2 42 [iv 0, .slice none 0 0], eBox b47 42 [iv r40.1, .slice ad56 s55.length cp57], eBox b122 87 [.bool (y120 == (⟨#[98, 97, 99, 107]⟩ : ByteArray)), .slice ad124 o123.length cp125], eRow r_api_Row 87 (.slice ad56 s55.length cp57) s55] [fRep (rL rS) (.slice ad11 r8.length cp12) r8, fRep (rL r_api_Stitch) (.slice ad124 o123.length cp125) o123]) ?_ (fun a w hI => ?_)
 rotate_left
 ·obtain ⟨o123, rfl, ad124, cp125, S⟩ := hI
  have h := g127
  clear g127
  try dsimp only at h
  refine sRegion ?_
  refine sField (b := b47) (off := 0) 1 1 S (wN rfl) rfl rfl rfl rfl rfl (lb rfl) fun a S => ?_
  refine sLoad1 1 (.slice ad56 s55.length cp57) S (wN rfl) rfl rfl rfl rfl rfl rfl (lb rfl) fun a S => ?_
  refine sLoadN (p := b122) (off := 0) (T := 87) (vs := [.bool (y120 == (⟨#[98, 97, 99, 107]⟩ : ByteArray)), .slice ad124 o123.length cp125]) 2 [.bool (y120 == (⟨#[98, 97, 99, 107]⟩ : ByteArray)), .slice ad124 o123.length cp125] S (wN rfl) rfl rfl rfl rfl rfl rfl rfl (lb rfl) fun a S => ?_
  have S := S.learn (fRep r_api_Row (.agg #[.bool (y120 == (⟨#[98, 97, 99, 107]⟩ : ByteArray)), .slice ad124 o123.length cp125]) (api_Row.mk (y120 == (⟨#[98, 97, 99, 107]⟩ : ByteArray)) o123)) ⟨_, rfl, S.mem.know (i := 1) (e := fRep (rL r_api_Stitch) (.slice ad124 o123.length cp125) o123) rfl⟩
  refine sLit (r := r_api_Row) (T := 87) (xs := [(api_Row.mk (y120 == (⟨#[98, 97, 99, 107]⟩ : ByteArray)) o123)]) [(0, .agg #[.bool (y120 == (⟨#[98, 97, 99, 107]⟩ : ByteArray)), .slice ad124 o123.length cp125])] 1 [.agg #[.bool (y120 == (⟨#[98, 97, 99, 107]⟩ : ByteArray)), .slice ad124 o123.length cp125]] [.bool (y120 == (⟨#[98, 97, 99, 107]⟩ : ByteArray)), .slice ad124 o123.length cp125] (.agg #[.bool false, .slice none 0 0]) 32 S (wN rfl) rfl rfl Try.underlying40 rfl (by decide) (by decide) (by kernel_rfl) rfl (fun E1 w1 hE => All.cons (r_api_Row.mono hE (S.mem.know (i := 0) (e := fRep r_api_Row (.agg #[.bool (y120 == (⟨#[98, 97, 99, 107]⟩ : ByteArray)), .slice ad124 o123.length cp125]) (api_Row.mk (y120 == (⟨#[98, 97, 99, 107]⟩ : ByteArray)) o123)) rfl)) (All.nil _ _ _)) rfl rfl (lb rfl) fun a w ad148 cp149 S => ?_
  obtain ⟨l150, hx151, h⟩ := bindSome h
  refine sApp (r := r_api_Row) (T := 87) (xs := s55) (ys := [(api_Row.mk (y120 == (⟨#[98, 97, 99, 107]⟩ : ByteArray)) o123)]) (v := .slice ad56 s55.length cp57) (u := .slice ad148 [(api_Row.mk (y120 == (⟨#[98, 97, 99, 107]⟩ : ByteArray)) o123)].length cp149) 4 (.agg #[.bool false, .slice none 0 0]) 32 S (wN rfl) rfl Try.underlying40 rfl rfl (by decide) rfl rfl rfl (src_R (T := 87) 0 S.mem rfl) hx151 rfl (lb rfl) fun a w ad152 cp153 S => ?_
  refine sField (b := b47) (off := 0) 1 1 S (wN rfl) rfl rfl rfl rfl rfl (lb rfl) fun a S => ?_
  refine sStore (p := b47) (off := 1) (T := 42) (vs := [iv r40.1, .slice ad56 s55.length cp57]) (v := .slice ad152 l150.length cp153) 3 [.slice ad152 l150.length cp153] S (wN rfl) rfl rfl rfl rfl rfl rfl rfl (by simp) rfl fun a w S => ?_
  exact leafL (leafB (leafT (⟨l150, Option.some.inj h, ad152, cp153, S.fix [3, 0, 1] [1] (by decide) rfl rfl rfl⟩)))
 refine sSeq (fun K128 hK128 => ?_)
 refine sRegion ?_
 refine sMm S rfl rfl rfl rfl rfl fun a S => ?_
 refine sMm S rfl rfl rfl rfl rfl fun a S => ?_
 refine sMm S rfl rfl rfl rfl rfl fun a S => ?_
 obtain ⟨q129, hq130, S⟩ := pIdx (P := Try.prog) (r := rS) (v := .slice ad11 r8.length cp12) (xs := r8) (j := s54) 142 9 3 S Try.underlying142 rfl rfl hx116
 refine sIdxV S (wN rfl) rfl rfl rfl hq130 rfl (lb rfl) fun a S => ?_
 obtain ⟨u131, S⟩ := pLoad (r := rS) (q := q129) (x := x115) 0 S rfl
 obtain rfl : u131 = .string x115 := S.mem.know (i := 1) (e := fRep rS (u131) x115) rfl
 refine sLoadV1 (vq := q129) 0 (.string x115) S (wN rfl) rfl rfl rfl rfl rfl (lb rfl) fun a S => ?_
 refine sLenS (v := x115) S (wN rfl) rfl Try.underlying9 rfl rfl (lb rfl) fun a S => ?_
 refine sBin _ S (wN rfl) rfl rfl rfl (bLt _ _ _ _ .i64 o73 (x115.size : Int)) rfl (lb rfl) fun a S => ?_
 refine lT (hK128 _ _ ?_)
 rcases iteSome h with ⟨hc132, h⟩ | ⟨hc132, h⟩
 rotate_left
 ·refine sCondF S rfl hc132 ?_
  have S := S.learn (fRep (rL r_api_Stitch) (.slice none 0 0) ([] : (List api_Stitch))) (rL_nil _ _ _)
  exact wp_skip (leafT (⟨([] : List api_Stitch), Option.some.inj h, none, 0, S.fix [1, 2, 0, 3] [7, 0] (by decide) rfl rfl rfl⟩))
 refine sCondT S rfl hc132 ?_
 refine sSeq (fun K133 hK133 => ?_)
 refine sRegion ?_
 refine sMm S rfl rfl rfl rfl rfl fun a S => ?_
 refine sMm S rfl rfl rfl rfl rfl fun a S => ?_
 obtain ⟨q134, hq135, S⟩ := pIdx (P := Try.prog) (r := rS) (v := .slice ad11 r8.length cp12) (xs := r8) (j := s54) 142 9 6 S Try.underlying142 rfl rfl hx116
 refine sIdxV S (wN rfl) rfl rfl rfl hq135 rfl (lb rfl) fun a S => ?_
 obtain ⟨u136, S⟩ := pLoad (r := rS) (q := q134) (x := x115) 0 S rfl
 obtain rfl : u136 = .string x115 := S.mem.know (i := 1) (e := fRep rS (u136) x115) rfl
 refine sLoadV1 (vq := q134) 0 (.string x115) S (wN rfl) rfl rfl rfl rfl rfl (lb rfl) fun a S => ?_
 refine sMm S rfl rfl rfl rfl rfl fun a S => ?_
 refine sBin _ S (wN rfl) rfl rfl rfl (bAdd _ _ _ _ o73 1) rfl (lb rfl) fun a S => ?_
 obtain ⟨y137, hx138, h⟩ := bindSome h
 refine sSliceS (v := x115) (u := y137) (vlo := (some (.int .i64 (w64 (o73 + 1))))) (vhi := none) (lo' := w64 (o73 + 1)) (hi' := (x115.size : Int)) S (wN rfl) rfl Try.underlying9 rfl rfl rfl (.inl rfl) (.inr ⟨rfl, rfl⟩) hx138 rfl (lb rfl) fun a S => ?_
 obtain ⟨r139, hx140, h⟩ := bindSome h
 refine sCall (X := Value) (f := 78) (vs := [.string y137]) (val := c_raddleref25_Parse_val r139) (B' := fun _ => []) (D' := c_raddleref25_Parse_D r139) [] [eBox b122 87 [.bool (y120 == (⟨#[98, 97, 99, 107]⟩ : ByteArray)), .slice none 0 0], eBox b2 42 [iv 0, .slice none 0 0], eBox b47 42 [iv r40.1, .slice ad56 s55.length cp57], eRow r_api_Row 87 (.slice ad56 s55.length cp57) s55] [] [0, 1, 2, 3] [] S (wN rfl) rfl callee78 rfl (by decide) rfl rfl (fun E1 w1 S1 => c_raddleref25_Parse E1 w1 y137 r139 hx140 S1) rfl (lb rfl) fun u141 a w S => ?_
 obtain ⟨ad142, cp143, _, rfl, _⟩ := S.mem.know (i := 0) (e := fRep (rL r_api_Stitch) (u141) r139.1) rfl
 refine sMm S rfl rfl rfl rfl rfl fun a S => ?_
 refine sExtract (vs := [.slice ad142 r139.1.length cp143, iv r139.2]) (.slice ad142 r139.1.length cp143) S (wN rfl) rfl rfl rfl rfl (lb rfl) fun a S => ?_
 refine sExtract (vs := [.slice ad142 r139.1.length cp143, iv r139.2]) (iv r139.2) S (wN rfl) rfl rfl rfl rfl (lb rfl) fun a S => ?_
 refine sMa S rfl rfl rfl rfl rfl fun a S => ?_
 refine sMa S rfl rfl rfl rfl rfl fun a S => ?_
 refine lT (hK133 _ _ ?_)
 refine sSeq (fun K144 hK144 => ?_)
 refine sSeq (fun K145 hK145 => ?_)
 refine sRegion ?_
 refine sMm S rfl rfl rfl rfl rfl fun a S => ?_
 refine sBin _ S (wN rfl) rfl rfl rfl (bNe _ _ _ _ .i64 r139.2 0) rfl (lb rfl) fun a S => ?_
 refine lT (hK145 _ _ ?_)
 rcases iteSome h with ⟨hc146, h⟩ | ⟨hc146, h⟩
 rotate_left
 ·refine sCondF S rfl hc146 ?_
  refine wp_skip (leafT (hK144 _ _ ?_))
  refine sRegion ?_
  refine sMm S rfl rfl rfl rfl rfl fun a S => ?_
  refine sField (b := b122) (off := 0) 1 1 S (wN rfl) rfl rfl rfl rfl rfl (lb rfl) fun a S => ?_
  refine sStore (p := b122) (off := 1) (T := 87) (vs := [.bool (y120 == (⟨#[98, 97, 99, 107]⟩ : ByteArray)), .slice none 0 0]) (v := .slice ad142 r139.1.length cp143) 0 [.slice ad142 r139.1.length cp143] S (wN rfl) rfl rfl rfl rfl rfl rfl rfl (by simp) rfl fun a w S => ?_
  exact lT (⟨r139.1, Option.some.inj h, ad142, cp143, S.fix [1, 2, 0, 3] [10, 0] (by decide) rfl rfl rfl⟩)
 refine sCondT S rfl hc146 ?_
 refine sSeq (fun K147 hK147 => ?_)
 refine sRegion ?_
 refine sBuild [] [iv 0, .slice none 0 0] S (wN rfl) rfl rfl rfl rfl (lb rfl) fun a S => ?_
 refine sStore (p := b2) (off := 0) (T := 42) (vs := [iv 0, .slice none 0 0]) (v := .agg #[iv 0, .slice none 0 0]) 1 [iv 0, .slice none 0 0] S (wN rfl) rfl rfl rfl rfl rfl rfl rfl (by simp) rfl fun a w S => ?_
 refine sMa S rfl rfl rfl rfl rfl fun a S => ?_
 refine lT (hK147 _ _ ?_)
 obtain rfl := Option.some.inj h
 have h := g127
 clear g127
 try dsimp only at h
 obtain rfl := Option.some.inj h
 have h := g71
 clear g71
 try dsimp only at h
 obtain rfl := Option.some.inj h
 obtain rfl := hu58 _ rfl
 have h := g59
 clear g59
 try dsimp only at h
 obtain rfl := Option.some.inj h
 have h := g52
 clear g52
 try dsimp only at h
 obtain rfl := Option.some.inj h
 have S := S.learn (fRep (rL r_api_Row) (.slice none 0 0) ([] : (List api_Row))) (rL_nil _ _ _)
 have S := S.learn (fRep r_api_Chart (.agg #[iv 0, .slice none 0 0]) (api_Chart.mk 0 ([] : (List api_Row)))) ⟨_, rfl, S.mem.know (i := 0) (e := fRep (rL r_api_Row) (.slice none 0 0) ([] : (List api_Row))) rfl⟩
 exact wp_ret (rThen (rThen (rBlock (rThen (rThen (rBlock (rThen (sRet (.tuple #[.agg #[iv 0, .slice none 0 0], iv 12]) S (rsl2 rfl (rvN (c := 2) (t := 42) (T := 42) (p := b2) 0 [iv 0, .slice none 0 0] S rfl rfl rfl rfl) (rvT (t := 3) (v := iv 12) S rfl)) ⟨(.agg #[iv 0, .slice none 0 0]), rfl, S.mem.sel [] [0] (by decide) rfl rfl⟩))))))))
end Go.Proofs.Ytffikfajljbmnaa
namespace Go.Proofs.Ytffikfajljbmnaa
open Go.RowKit
noncomputable def F_raddlelaw46_knit (p0 : ByteArray) : Option api_Chart :=
 Option.bind (F_raddleref26_Parse p0) fun r4 =>
 some r4.1
def c_raddlelaw46_knit_val (r : api_Chart) (x : Value) : Value := x
def c_raddlelaw46_knit_D (r : api_Chart) (x : Value) : List Fact := [fRep r_api_Chart x r]
set_option maxHeartbeats 4000000 in
set_option maxRecDepth 100000 in
theorem c_raddlelaw46_knit (E : Nat → Prop) (w0 : World) (p0 : ByteArray) (r : api_Chart) (h : F_raddlelaw46_knit p0 = some r) (S : St0 E [] w0 w0 [] []) :
 Calls Try.prog 43 #[.string p0] w0 (Ret (X := Value) E [] w0 (c_raddlelaw46_knit_val r) (fun _ => []) (c_raddlelaw46_knit_D r)) := by
 unfold F_raddlelaw46_knit at h
 refine sEnter (args := [.string p0]) 11 Try.func43 rfl rfl (by simp) S (fun a S => ?_)
 refine sSeq (fun K1 hK1 => ?_)
 refine sRegion ?_
 refine sAlloc (.agg #[iv 0, .slice none 0 0]) S (wN rfl) rfl rfl [iv 0, .slice none 0 0] rfl rfl (lb rfl) fun a b2 w S => ?_
 refine lT (hK1 _ _ ?_)
 refine sSeq (fun K3 hK3 => ?_)
 refine sRegion ?_
 refine sMm S rfl rfl rfl rfl rfl fun a S => ?_
 obtain ⟨r4, hx5, h⟩ := bindSome h
 refine sCall (X := Value) (f := 79) (vs := [.string p0]) (val := c_raddleref26_Parse_val r4) (B' := fun _ => []) (D' := c_raddleref26_Parse_D r4) [] [eBox b2 42 [iv 0, .slice none 0 0]] [] [0] [] S (wN rfl) rfl callee79 rfl (by decide) rfl rfl (fun E1 w1 S1 => c_raddleref26_Parse E1 w1 p0 r4 hx5 S1) rfl (lb rfl) fun u6 a w S => ?_
 obtain ⟨u7, rfl, hu8⟩ := S.mem.know (i := 0) (e := fRep r_api_Chart (u6) r4.1) rfl
 have S := S.learn (fRep (rL r_api_Row) u7 r4.1.Rows) hu8
 obtain ⟨ad9, cp10, _, rfl, _⟩ := hu8
 refine sMm S rfl rfl rfl rfl rfl fun a S => ?_
 refine sExtract (vs := [.agg #[iv r4.1.Start, .slice ad9 r4.1.Rows.length cp10], iv r4.2]) (.agg #[iv r4.1.Start, .slice ad9 r4.1.Rows.length cp10]) S (wN rfl) rfl rfl rfl rfl (lb rfl) fun a S => ?_
 refine sExtract (vs := [.agg #[iv r4.1.Start, .slice ad9 r4.1.Rows.length cp10], iv r4.2]) (iv r4.2) S (wN rfl) rfl rfl rfl rfl (lb rfl) fun a S => ?_
 refine sAlloc (.agg #[iv 0, .slice none 0 0]) S (wN rfl) rfl rfl [iv 0, .slice none 0 0] rfl rfl (lb rfl) fun a b11 w S => ?_
 refine sStore (p := b11) (off := 0) (T := 42) (vs := [iv 0, .slice none 0 0]) (v := .agg #[iv r4.1.Start, .slice ad9 r4.1.Rows.length cp10]) 0 [iv r4.1.Start, .slice ad9 r4.1.Rows.length cp10] S (wN rfl) rfl rfl rfl rfl rfl rfl rfl (by simp) rfl fun a w S => ?_
 refine sMa S rfl rfl rfl rfl rfl fun a S => ?_
 refine lT (hK3 _ _ ?_)
 refine sSeq (fun K12 hK12 => ?_)
 refine sRegion ?_
 refine sLoadN (p := b11) (off := 0) (T := 42) (vs := [iv r4.1.Start, .slice ad9 r4.1.Rows.length cp10]) 0 [iv r4.1.Start, .slice ad9 r4.1.Rows.length cp10] S (wN rfl) rfl rfl rfl rfl rfl rfl rfl (lb rfl) fun a S => ?_
 refine sStore (p := b2) (off := 0) (T := 42) (vs := [iv 0, .slice none 0 0]) (v := .agg #[iv r4.1.Start, .slice ad9 r4.1.Rows.length cp10]) 1 [iv r4.1.Start, .slice ad9 r4.1.Rows.length cp10] S (wN rfl) rfl rfl rfl rfl rfl rfl rfl (by simp) rfl fun a w S => ?_
 refine lT (hK12 _ _ ?_)
 obtain rfl := Option.some.inj h
 exact wp_ret (sRet (.agg #[iv r4.1.Start, .slice ad9 r4.1.Rows.length cp10]) S (rsl1 rfl (rvN (c := 2) (t := 42) (T := 42) (p := b2) 0 [iv r4.1.Start, .slice ad9 r4.1.Rows.length cp10] S rfl rfl rfl rfl)) ⟨(.agg #[iv r4.1.Start, .slice ad9 r4.1.Rows.length cp10]), rfl, S.mem.sel [] [1] (by decide) rfl rfl⟩)
end Go.Proofs.Ytffikfajljbmnaa
namespace Go.Proofs.Ytffikfajljbmnaa
open Go.RowKit
def K_raddleref01_Parse_l1 (p0 : ByteArray) : Int → Option (Int ⊕ Int) := fun s0 => match s0 with
 | s7 =>
  Option.bind (α := Bool) (
   if decide (s7 < (p0.size : Int)) then
    Option.bind (idxS p0 s7) fun x17 =>
    some (x17 != 10)
   else
    some false) fun o13 =>
  if o13 then
   some (.inl (w64 (s7 + 1)))
  else
   some (.inr s7)
def K_raddleref01_Zero_s0 (p0 : Int) (p1 : Int) : Option api_Grid :=
 Option.bind (makeO (w64 (p0 * p1)) false) fun m6 =>
 some (api_Grid.mk p0 p1 m6)
def K_raddleref01_Set_s0 (p0 : Int) (p1 : Int) (p2 : (List Bool)) (p3 : Int) (p4 : Int) (p5 : Bool) : Option (List Bool) :=
 Option.bind (idxO p2 (w64 ((w64 (p4 * p0)) + p3))) fun x3 =>
 Option.bind (setO p2 (w64 ((w64 (p4 * p0)) + p3)) p5) fun l8 =>
 (keepO p2 l8).bind fun _ =>
 some l8
def K_raddleref01_Parse_l2 (p0 : ByteArray) (o4 : Int) (r36 : api_Grid) : (Int × List Bool) → Option ((Int × List Bool) ⊕ ((api_Grid × Int) ⊕ (List Bool))) := fun s0 => match s0 with
 | (s45, s46) =>
  if decide (s45 < (p0.size : Int)) then
   Option.bind (α := List Bool ⊕ (api_Grid × Int)) (
    Option.bind (remI s45 (w64 (o4 + 1))) fun z58 =>
    Option.bind (quoI s45 (w64 (o4 + 1))) fun z60 =>
    Option.bind (α := Bool) (
     Option.bind (idxS p0 s45) fun x66 =>
     if (x66 == 10) != (z58 == o4) then
      some true
     else
      if x66 != 10 then
       if x66 != 120 then
        some (x66 != 46)
       else
        some false
      else
       some false) fun o63 =>
    if o63 then
     some (.inr ((api_Grid.mk 0 0 ([] : (List Bool))), 12))
    else
     Option.bind (idxS p0 s45) fun x74 =>
     if x74 == 120 then
      Option.bind (K_raddleref01_Set_s0 r36.W r36.H s46 z58 (w64 ((w64 (r36.H - 1)) - z60)) true) fun r77 =>
      some (.inl r77)
     else
      some (.inl s46)) fun z0 => match z0 with
    | .inl o54 =>
     some (.inl (w64 (s45 + 1), o54))
    | .inr z =>
     some (.inr (.inl z))
  else
   some (.inr (.inr s46))
def K_raddleref01_Parse (p0 : ByteArray) : Option (api_Grid × Int) :=
 Option.bind (α := Int) (
  Option.bind (whileK (K_raddleref01_Parse_l1 p0) 0) fun e11 =>
   some e11) fun o4 =>
 Option.bind (α := Bool) (
  if decide (o4 < 1) then
   some true
  else
   if decide (64 < o4) then
    some true
   else
    Option.bind (remI (p0.size : Int) (w64 (o4 + 1))) fun z26 =>
    if z26 != 0 then
     some true
    else
     Option.bind (quoI (p0.size : Int) (w64 (o4 + 1))) fun z29 =>
     some (decide (64 < z29))) fun o21 =>
 if o21 then
  some ((api_Grid.mk 0 0 ([] : (List Bool))), 12)
 else
  Option.bind (quoI (p0.size : Int) (w64 (o4 + 1))) fun z34 =>
  Option.bind (K_raddleref01_Zero_s0 o4 z34) fun r36 =>
  Option.bind (α := List Bool ⊕ (api_Grid × Int)) (
   Option.bind (whileK (K_raddleref01_Parse_l2 p0 o4 r36) (0, r36.Bits)) fun z0 => match z0 with
    | .inl z =>
     some (.inr z)
    | .inr e50 =>
     some (.inl e50)) fun z0 => match z0 with
   | .inl o41 =>
    some ((api_Grid.mk r36.W r36.H o41), 0)
   | .inr z =>
    some z
def K_raddlelaw46_cloth (p0 : ByteArray) : Option api_Grid :=
 Option.bind (K_raddleref01_Parse p0) fun r4 =>
 some r4.1
def K_grid_Check (p0 : api_Grid) : Option Int :=
 if decide (64 < (if p0.W < p0.H then p0.H else p0.W)) then
  some 4
 else
  Option.bind (α := Bool) (
   if decide ((if p0.H < p0.W then p0.H else p0.W) < 1) then
    some true
   else
    some ((p0.Bits.length : Int) != (w64 (p0.W * p0.H)))) fun o11 =>
  if o11 then
   some 8
  else
   some 0
def K_compare_differ_l1 (p0 : (List Bool)) (p1 : (List Bool)) : (Int × Int) → Option ((Int × Int) ⊕ Int) := fun s0 => match s0 with
 | (s11, s12) =>
  if decide (s12 < (p0.length : Int)) then
   Option.bind (α := Int) (
    Option.bind (idxO p0 s12) fun x24 =>
    Option.bind (idxO p1 s12) fun x30 =>
    if x24 != x30 then
     some (w64 (s11 + 1))
    else
     some s11) fun o20 =>
   some (.inl (o20, w64 (s12 + 1)))
  else
   some (.inr s11)
def K_compare_differ (p0 : (List Bool)) (p1 : (List Bool)) : Option Int :=
 Option.bind (α := Int) (
  Option.bind (whileK (K_compare_differ_l1 p0 p1) (0, 0)) fun e16 =>
   some e16) fun o7 =>
 some o7
def K_compare_Cells (p0 : api_Grid) (p1 : api_Grid) : Option (Int × Int) :=
 Option.bind (K_grid_Check p0) fun r14 =>
 if r14 != 0 then
  some (0, r14)
 else
  Option.bind (K_grid_Check p1) fun r21 =>
  if r21 != 0 then
   some (0, r21)
  else
   Option.bind (α := Bool) (
    if p0.W != p1.W then
     some true
    else
     some (p0.H != p1.H)) fun o27 =>
   if o27 then
    some (0, 2)
   else
    Option.bind (K_compare_differ p0.Bits p1.Bits) fun r34 =>
    some (r34, 0)
def K_compare_ways (p0 : api_Grid) (p1 : Int) : Option (Int × api_Grid) :=
 some (p1, p0)
def K_symmetry_check_l1 (p0 : (List api_Grid)) : Int → Option (Int ⊕ (Int ⊕ Unit)) := fun s0 => match s0 with
 | s7 =>
  if decide (s7 < (p0.length : Int)) then
   Option.bind (idxO p0 s7) fun x16 =>
   Option.bind (K_grid_Check x16) fun r27 =>
   if r27 != 0 then
    some (.inr (.inl r27))
   else
    some (.inl (w64 (s7 + 1)))
  else
   some (.inr (.inr ()))
def K_symmetry_check_l2 (p0 : (List api_Grid)) : Int → Option (Int ⊕ (Int ⊕ Unit)) := fun s0 => match s0 with
 | s35 =>
  if decide (s35 < (p0.length : Int)) then
   Option.bind (idxO p0 s35) fun x44 =>
   if decide (16 < (if x44.W < x44.H then x44.H else x44.W)) then
    some (.inr (.inl 4))
   else
    some (.inl (w64 (s35 + 1)))
  else
   some (.inr (.inr ()))
def K_symmetry_check (p0 : (List api_Grid)) : Option Int :=
 Option.bind (α := Unit ⊕ Int) (
  Option.bind (whileK (K_symmetry_check_l1 p0) 0) fun z0 => match z0 with
   | .inl z =>
    some (.inr z)
   | .inr _ =>
    some (.inl ())) fun z0 => match z0 with
  | .inl _ =>
   Option.bind (α := Unit ⊕ Int) (
    Option.bind (whileK (K_symmetry_check_l2 p0) 0) fun z0 => match z0 with
     | .inl z =>
      some (.inr z)
     | .inr _ =>
      some (.inl ())) fun z0 => match z0 with
    | .inl _ =>
     some 0
    | .inr z =>
     some z
  | .inr z =>
   some z
def K_symmetry_is (p0 : Int) : Option Bool :=
 Option.bind (α := Bool) (
  if decide (0 ≤ p0) then
   some (decide (p0 < 16))
  else
   some false) fun o2 =>
 some o2
def K_symmetry_applied_l1 (o9 : Int) (p1 : Int) (s23 : Int) (p0 : api_Grid) : (Int × List Bool) → Option ((Int × List Bool) ⊕ List Bool) := fun s0 => match s0 with
 | (s43, s44) =>
  if decide (s43 < o9) then
   Option.bind (α := (Int × Int)) (
    if (andI .i64 p1 4) != 0 then
     some (s23, s43)
    else
     some (s43, s23)) fun (o59, o60) =>
   Option.bind (α := Int) (
    if (andI .i64 p1 1) != 0 then
     some (w64 ((w64 (p0.W - 1)) - o59))
    else
     some o59) fun o65 =>
   Option.bind (α := Int) (
    if (andI .i64 p1 2) != 0 then
     some (w64 ((w64 (p0.H - 1)) - o60))
    else
     some o60) fun o70 =>
   Option.bind (idxO p0.Bits (w64 ((w64 (o70 * p0.W)) + o65))) fun x75 =>
   Option.bind (appO s44 [x75 != ((andI .i64 p1 8) != 0)]) fun l82 =>
   some (.inl (w64 (s43 + 1), l82))
  else
   some (.inr s44)
def K_symmetry_applied_l2 (o10 : Int) (o9 : Int) (p1 : Int) (p0 : api_Grid) : (Int × List Bool) → Option ((Int × List Bool) ⊕ List Bool) := fun s0 => match s0 with
 | (s23, s24) =>
  if decide (s23 < o10) then
   Option.bind (α := List Bool) (
    Option.bind (whileK (K_symmetry_applied_l1 o9 p1 s23 p0) (0, s24)) fun e50 =>
     some e50) fun o36 =>
   some (.inl (w64 (s23 + 1), o36))
  else
   some (.inr s24)
def K_symmetry_applied (p0 : api_Grid) (p1 : Int) : Option api_Grid :=
 Option.bind (α := (Int × Int)) (
  if (andI .i64 p1 4) != 0 then
   some (p0.H, p0.W)
  else
   some (p0.W, p0.H)) fun (o9, o10) =>
 Option.bind (α := List Bool) (
  Option.bind (whileK (K_symmetry_applied_l2 o10 o9 p1 p0) (0, ([] : List Bool))) fun e30 =>
   some e30) fun o17 =>
 some (api_Grid.mk o9 o10 o17)
def K_symmetry_Apply (p0 : api_Grid) (p1 : Int) : Option (api_Grid × Int) :=
 Option.bind (K_symmetry_check [p0]) fun r12 =>
 if r12 != 0 then
  some ((api_Grid.mk 0 0 ([] : (List Bool))), r12)
 else
  Option.bind (K_symmetry_is p1) fun r19 =>
  if !r19 then
   some ((api_Grid.mk 0 0 ([] : (List Bool))), 2)
  else
   Option.bind (K_symmetry_applied p0 p1) fun r24 =>
   some (r24, 0)
def K_grid_around (p0 : Int) (p1 : Int) : Option Int :=
 Option.bind (α := Int) (
  Option.bind (remI p0 p1) fun z6 =>
  if decide (z6 < 0) then
   some (w64 (z6 + p1))
  else
   some z6) fun o2 =>
 some o2
def K_grid_Shift_1_s0 (p0 : Int) (p1 : Int) (p2 : api_Grid) (p3 : Int) (p4 : Int) : Option Bool :=
 Option.bind (K_grid_around (w64 (p1 - p3)) p2.H) fun r12 =>
 Option.bind (K_grid_around (w64 (p0 - p4)) p2.W) fun r21 =>
 Option.bind (idxO p2.Bits (w64 ((w64 (r12 * p2.W)) + r21))) fun x23 =>
 some x23
def K_grid_build_s0_l1 (p0 : Int) (s15 : Int) (p2 : api_Grid) (p3 : Int) (p4 : Int) : (Int × List Bool) → Option ((Int × List Bool) ⊕ List Bool) := fun s0 => match s0 with
 | (s35, s36) =>
  if decide (s35 < p0) then
   Option.bind (K_grid_Shift_1_s0 s35 s15 p2 p3 p4) fun r50 =>
   Option.bind (appO s36 [r50]) fun l54 =>
   some (.inl (w64 (s35 + 1), l54))
  else
   some (.inr s36)
def K_grid_build_s0_l2 (p1 : Int) (p0 : Int) (p2 : api_Grid) (p3 : Int) (p4 : Int) : (Int × List Bool) → Option ((Int × List Bool) ⊕ List Bool) := fun s0 => match s0 with
 | (s15, s16) =>
  if decide (s15 < p1) then
   Option.bind (α := List Bool) (
    Option.bind (whileK (K_grid_build_s0_l1 p0 s15 p2 p3 p4) (0, s16)) fun e42 =>
     some e42) fun o28 =>
   some (.inl (w64 (s15 + 1), o28))
  else
   some (.inr s16)
def K_grid_build_s0 (p0 : Int) (p1 : Int) (p2 : api_Grid) (p3 : Int) (p4 : Int) : Option api_Grid :=
 Option.bind (capO (w64 (p0 * p1))) fun z6 =>
 Option.bind (α := List Bool) (
  Option.bind (whileK (K_grid_build_s0_l2 p1 p0 p2 p3 p4) (0, ([] : List Bool))) fun e22 =>
   some e22) fun o9 =>
 some (api_Grid.mk p0 p1 o9)
def K_grid_Shift (p0 : api_Grid) (p1 : Int) (p2 : Int) : Option (api_Grid × Int) :=
 Option.bind (K_grid_Check p0) fun r12 =>
 if r12 != 0 then
  some ((api_Grid.mk 0 0 ([] : (List Bool))), r12)
 else
  Option.bind (K_grid_around p1 p0.W) fun r18 =>
  Option.bind (K_grid_around p2 p0.H) fun r20 =>
  Option.bind (K_grid_build_s0 p0.W p0.H p0 r20 r18) fun r23 =>
  some (r23, 0)
def K_compare_ways_1_l1 {σ τ : Type} (p1 : api_Grid) (r24 : (api_Grid × Int)) (s36 : Int) (B : σ → (compare_way × api_Grid) → Option (σ ⊕ τ)) (s6 : Int) : (Int × σ) → Option ((Int × σ) ⊕ ((σ ⊕ τ) ⊕ (σ))) := fun s0 => match s0 with
 | (s53, gz54) =>
  if decide (s53 < p1.W) then
   Option.bind (K_grid_Shift r24.1 s53 s36) fun r70 =>
   Option.bind (B gz54 ((compare_way.mk s6 (api_Point.mk s53 s36)), r70.1)) fun y80 =>
   match y80 with
   | .inl gz82 =>
    some (.inl (w64 (s53 + 1), gz82))
   | .inr tz83 =>
    some (.inr (.inl (.inr tz83)))
  else
   some (.inr (.inr gz54))
def K_compare_ways_1_l2 {σ τ : Type} (p1 : api_Grid) (r24 : (api_Grid × Int)) (B : σ → (compare_way × api_Grid) → Option (σ ⊕ τ)) (s6 : Int) : (Int × σ) → Option ((Int × σ) ⊕ ((σ ⊕ τ) ⊕ (σ))) := fun s0 => match s0 with
 | (s36, gz37) =>
  if decide (s36 < p1.H) then
   Option.bind (α := σ ⊕ (σ ⊕ τ)) (
    Option.bind (whileK (K_compare_ways_1_l1 p1 r24 s36 B s6) (0, gz37)) fun z0 => match z0 with
     | .inl z =>
      some (.inr z)
     | .inr gz58 =>
      some (.inl gz58)) fun z0 => match z0 with
    | .inl gz45 =>
     some (.inl (w64 (s36 + 1), gz45))
    | .inr z =>
     some (.inr (.inl z))
  else
   some (.inr (.inr gz37))
def K_compare_ways_1_l3 {σ τ : Type} (x3 : Int) (p1 : api_Grid) (B : σ → (compare_way × api_Grid) → Option (σ ⊕ τ)) : (Int × σ) → Option ((Int × σ) ⊕ ((σ ⊕ τ) ⊕ (σ))) := fun s0 => match s0 with
 | (s6, gz7) =>
  if decide (s6 ≤ x3) then
   Option.bind (α := σ ⊕ (σ ⊕ τ)) (
    Option.bind (K_symmetry_Apply p1 s6) fun r24 =>
    Option.bind (whileK (K_compare_ways_1_l2 p1 r24 B s6) (0, gz7)) fun z0 => match z0 with
     | .inl z =>
      some (.inr z)
     | .inr gz41 =>
      some (.inl gz41)) fun z0 => match z0 with
    | .inl gz15 =>
     some (.inl (w64 (s6 + 1), gz15))
    | .inr z =>
     some (.inr (.inl z))
  else
   some (.inr (.inr gz7))
def K_I_compare_ways_1 (p0 : Int) (p1 : api_Grid) (σ τ : Type) (B : σ → (compare_way × api_Grid) → Option (σ ⊕ τ)) (gz0 : σ) : Option (σ ⊕ τ) :=
 Option.bind (idxO ([0, 3, 7, 15] : List Int) p0) fun x3 =>
 Option.bind (whileK (K_compare_ways_1_l3 x3 p1 B) (0, gz0)) fun z0 => match z0 with
  | .inl z =>
   some z
  | .inr gz11 =>
   some (.inl gz11)
def K_compare_Nearest_l2 (p1 : api_Grid) : (Int × Int × Int × Int) → (compare_way × api_Grid) → Option ((Int × Int × Int × Int) ⊕ (Int × Int × Int × Int)) := fun s0 x0 => match s0, x0 with
 | (s57, s58, s59, s60), (x65, x67) =>
  Option.bind (α := (Int × Int × Int × Int)) (
   Option.bind (K_compare_differ x67.Bits p1.Bits) fun r83 =>
   if decide (r83 < s57) then
    some (r83, x65.op, x65.at_.X, x65.at_.Y)
   else
    some (s57, s58, s59, s60)) fun (o76, o77, o78, o79) =>
  if o76 == 0 then
   some (.inr (o76, o77, o78, o79))
  else
   some (.inl (o76, o77, o78, o79))
def K_compare_Nearest (p0 : api_Grid) (p1 : api_Grid) (p2 : Int) : Option (Int × Int × api_Point × Int) :=
 Option.bind (K_grid_Check p0) fun r15 =>
 if r15 != 0 then
  some (0, 0, (api_Point.mk 0 0), r15)
 else
  Option.bind (K_grid_Check p1) fun r22 =>
  if r22 != 0 then
   some (0, 0, (api_Point.mk 0 0), r22)
  else
   if decide (16 < (max4 p0.W p0.H p1.W p1.H)) then
    some (0, 0, (api_Point.mk 0 0), 4)
   else
    Option.bind (α := Bool) (
     if decide (p2 < 0) then
      some true
     else
      if decide (3 < p2) then
       some true
      else
       if p0.W != p1.W then
        some true
       else
        if p0.H != p1.H then
         some true
        else
         if decide (1 < p2) then
          some (p0.W != p0.H)
         else
          some false) fun o32 =>
    if o32 then
     some (0, 0, (api_Point.mk 0 0), 2)
    else
     Option.bind (α := (Int × Int × Int × Int)) (
      Option.bind (K_compare_ways p0 p2) fun r53 =>
      Option.bind (K_I_compare_ways_1 r53.1 r53.2 _ _ (K_compare_Nearest_l2 p1) (w64 ((p0.Bits.length : Int) + 1), 0, 0, 0)) fun z0 => match z0 with
       | .inl (s57, s58, s59, s60) =>
        some (s57, s58, s59, s60)
       | .inr (e61, e62, e63, e64) =>
        some (e61, e62, e63, e64)) fun (o45, o46, o47, o48) =>
     some (o45, o46, (api_Point.mk o47 o48), 0)
def K_raddleref25_Cut_l1 (p0 : ByteArray) (p1 : Int) : (List ByteArray × Int × Int) → Option ((List ByteArray × Int × Int) ⊕ List ByteArray) := fun s0 => match s0 with
 | (s10, s13, s14) =>
  if decide (s14 ≤ (p0.size : Int)) then
   Option.bind (α := (List ByteArray × Int)) (
    Option.bind (α := Bool) (
     if s14 == (p0.size : Int) then
      some true
     else
      Option.bind (idxS p0 s14) fun x34 =>
      some (x34 == p1)) fun o30 =>
    if o30 then
     Option.bind (sliceS p0 s13 s14) fun y38 =>
     Option.bind (appO s10 [y38]) fun l42 =>
     some (l42, w64 (s14 + 1))
    else
     some (s10, s13)) fun (o24, o27) =>
   some (.inl (o24, o27, w64 (s14 + 1)))
  else
   some (.inr s10)
def K_raddleref25_Cut (p0 : ByteArray) (p1 : Int) : Option (List ByteArray) :=
 Option.bind (α := List ByteArray) (
  Option.bind (whileK (K_raddleref25_Cut_l1 p0 p1) (([] : List ByteArray), 0, 0)) fun e18 =>
   some e18) fun o4 =>
 some o4
def K_raddleref25_Number_l1 (p0 : ByteArray) : (Int × Int) → Option ((Int × Int) ⊕ ((Int × Bool) ⊕ Int)) := fun s0 => match s0 with
 | (s18, s19) =>
  if decide (s19 < (p0.size : Int)) then
   Option.bind (α := Bool) (
    Option.bind (idxS p0 s19) fun x32 =>
    if decide (x32 < 48) then
     some true
    else
     some (decide (57 < x32))) fun o29 =>
   if o29 then
    some (.inr (.inl (0, false)))
   else
    Option.bind (idxS p0 s19) fun x37 =>
    some (.inl (w64 ((w64 (10 * s18)) + (IntKind.i64.wrap (IntKind.u8.wrap (x37 - 48)))), w64 (s19 + 1)))
  else
   some (.inr (.inr s18))
def K_raddleref25_Number (p0 : ByteArray) : Option (Int × Bool) :=
 Option.bind (α := Bool) (
  if (p0.size : Int) == 0 then
   some true
  else
   if decide (4 < (p0.size : Int)) then
    some true
   else
    if decide (1 < (p0.size : Int)) then
     Option.bind (idxS p0 0) fun x9 =>
     some (x9 == 48)
    else
     some false) fun o3 =>
 if o3 then
  some (0, false)
 else
  Option.bind (α := Int ⊕ (Int × Bool)) (
   Option.bind (whileK (K_raddleref25_Number_l1 p0) (0, 0)) fun z0 => match z0 with
    | .inl z =>
     some (.inr z)
    | .inr e23 =>
     some (.inl e23)) fun z0 => match z0 with
   | .inl o14 =>
    some (o14, true)
   | .inr z =>
    some z
def K_raddleref25_word_l1 (r49 : (Int × Bool)) (x35 : Int) : (List api_Stitch × Int) → Option ((List api_Stitch × Int) ⊕ List api_Stitch) := fun s0 => match s0 with
 | (s60, s63) =>
  Option.bind (α := Bool) (
   if decide (s63 < r49.1) then
    some (decide (s63 < 300))
   else
    some false) fun o71 =>
  if o71 then
   Option.bind (appO s60 [(api_Stitch.mk 1 (x35 == 112) 0 0)]) fun l79 =>
   some (.inl (l79, w64 (s63 + 1)))
  else
   some (.inr s60)
def K_raddleref25_kind_l1 (p0 : Int) : Int → Option (Int ⊕ (Int ⊕ Unit)) := fun s0 => match s0 with
 | s9 =>
  if decide (s9 < ((⟨#[102, 108, 109, 120, 121, 115, 111]⟩ : ByteArray).size : Int)) then
   Option.bind (idxS (⟨#[102, 108, 109, 120, 121, 115, 111]⟩ : ByteArray) s9) fun x18 =>
   if x18 == p0 then
    Option.bind (idxO ([3, 4, 5, 6, 7, 8, 10] : List Int) s9) fun x22 =>
    some (.inr (.inl x22))
   else
    some (.inl (w64 (s9 + 1)))
  else
   some (.inr (.inr ()))
def K_raddleref25_kind (p0 : Int) : Option Int :=
 Option.bind (α := Unit ⊕ Int) (
  Option.bind (whileK (K_raddleref25_kind_l1 p0) 0) fun z0 => match z0 with
   | .inl z =>
    some (.inr z)
   | .inr _ =>
    some (.inl ())) fun z0 => match z0 with
  | .inl _ =>
   some 0
  | .inr z =>
   some z
def K_raddleref25_word (p0 : ByteArray) : Option ((List api_Stitch) × Bool) :=
 if p0 == (⟨#[121, 111]⟩ : ByteArray) then
  some ([(api_Stitch.mk 2 false 0 0)], true)
 else
  Option.bind (α := Bool) (
   if decide (2 < (p0.size : Int)) then
    Option.bind (sliceS p0 0 2) fun y13 =>
    some (y13 == (⟨#[111, 110]⟩ : ByteArray))
   else
    some false) fun o9 =>
  if o9 then
   Option.bind (sliceS p0 2 (p0.size : Int)) fun y17 =>
   Option.bind (K_raddleref25_Number y17) fun r19 =>
   some ([(api_Stitch.mk 9 false r19.1 0)], r19.2)
  else
   Option.bind (α := Bool) (
    if (p0.size : Int) == 0 then
     some true
    else
     Option.bind (idxS p0 0) fun x29 =>
     if x29 != 107 then
      some (x29 != 112)
     else
      some false) fun o25 =>
   if o25 then
    some (([] : (List api_Stitch)), false)
   else
    Option.bind (idxS p0 0) fun x35 =>
    if (p0.size : Int) == 1 then
     some ([(api_Stitch.mk 1 (x35 == 112) 0 0)], true)
    else
     Option.bind (α := Unit ⊕ ((List api_Stitch) × Bool)) (
      Option.bind (sliceS p0 1 (p0.size : Int)) fun y47 =>
      Option.bind (K_raddleref25_Number y47) fun r49 =>
      if r49.2 then
       Option.bind (α := List api_Stitch) (
        Option.bind (whileK (K_raddleref25_word_l1 r49 x35) (([] : List api_Stitch), 0)) fun e67 =>
         some e67) fun o54 =>
       some (.inr (o54, decide (1 < r49.1)))
      else
       some (.inl ())) fun z0 => match z0 with
      | .inl _ =>
       Option.bind (idxS p0 1) fun x85 =>
       Option.bind (K_raddleref25_kind x85) fun r87 =>
       if r87 == 8 then
        some ([(api_Stitch.mk r87 (x35 == 112) 0 0)], (p0.size : Int) == 2)
       else
        Option.bind (sliceS p0 2 (p0.size : Int)) fun y96 =>
        Option.bind (K_raddleref25_Cut y96 47) fun r98 =>
        Option.bind (α := Bool) (
         if r87 != 0 then
          some ((r98.length : Int) == 1)
         else
          some false) fun o103 =>
        Option.bind (α := (Bool × Int)) (
         Option.bind (α := Bool) (
          if r87 == 6 then
           some true
          else
           some (r87 == 7)) fun o111 =>
         if o111 then
          if (r98.length : Int) == 2 then
           Option.bind (idxO r98 1) fun x119 =>
           Option.bind (K_raddleref25_Number x119) fun r124 =>
           some (r124.2, r124.1)
          else
           some ((r98.length : Int) == 2, 0)
         else
          some (o103, 0)) fun (o107, o108) =>
        Option.bind (idxO r98 0) fun x127 =>
        Option.bind (K_raddleref25_Number x127) fun r132 =>
        Option.bind (α := Bool) (
         if o107 then
          some r132.2
         else
          some false) fun o137 =>
        some ([(api_Stitch.mk r87 (x35 == 112) r132.1 o108)], o137)
      | .inr z =>
       some z
def K_raddleref25_Parse_l1 (r11 : (List ByteArray)) : (List api_Stitch × Int) → Option ((List api_Stitch × Int) ⊕ (((List api_Stitch) × Int) ⊕ (List api_Stitch))) := fun s0 => match s0 with
 | (s23, s26) =>
  if decide (s26 < (r11.length : Int)) then
   Option.bind (idxO r11 s26) fun x38 =>
   Option.bind (K_raddleref25_word x38) fun r43 =>
   if !r43.2 then
    some (.inr (.inl (([] : (List api_Stitch)), 12)))
   else
    Option.bind (appO s23 r43.1) fun l53 =>
    if decide (200 < (l53.length : Int)) then
     some (.inr (.inl (([] : (List api_Stitch)), 12)))
    else
     some (.inl (l53, w64 (s26 + 1)))
  else
   some (.inr (.inr s23))
def K_raddleref25_Check (p0 : api_Stitch) : Option Int :=
 Option.bind (α := Bool) (
  if p0.A == 0 then
   some (p0.B == 0)
  else
   some false) fun o3 =>
 Option.bind (α := Bool) (
  Option.bind (α := Bool) (
   if p0.Kind == 1 then
    some (p0.Kind == 1)
   else
    some (p0.Kind == 8)) fun o12 =>
  if o12 then
   some o3
  else
   if p0.Kind == 2 then
    if o3 then
     some (!p0.Purl)
    else
     some false
   else
    Option.bind (α := Bool) (
     if p0.Kind == 3 then
      some (p0.Kind == 3)
     else
      if p0.Kind == 4 then
       some (p0.Kind == 4)
      else
       some (p0.Kind == 5)) fun o21 =>
    if o21 then
     if p0.B == 0 then
      if decide (2 ≤ p0.A) then
       some (decide (p0.A ≤ 4))
      else
       some false
     else
      some false
    else
     Option.bind (α := Bool) (
      if p0.Kind == 6 then
       some (p0.Kind == 6)
      else
       some (p0.Kind == 7)) fun o31 =>
     if o31 then
      if decide (1 ≤ p0.A) then
       if decide (p0.A ≤ 6) then
        if decide (1 ≤ p0.B) then
         some (decide (p0.B ≤ 6))
        else
         some false
       else
        some false
      else
       some false
     else
      if p0.Kind == 9 then
       if p0.B == 0 then
        if !p0.Purl then
         if decide (1 ≤ p0.A) then
          some (decide (p0.A ≤ 200))
         else
          some false
        else
         some false
       else
        some false
      else
       if p0.Kind == 10 then
        if p0.B == 0 then
         if decide (1 ≤ p0.A) then
          some (decide (p0.A ≤ 200))
         else
          some false
        else
         some false
       else
        some false) fun o8 =>
 if !o8 then
  some 8
 else
  some 0
def K_raddleref25_All_l1 (p0 : (List api_Stitch)) : Int → Option (Int ⊕ (Int ⊕ Unit)) := fun s0 => match s0 with
 | s11 =>
  if decide (s11 < (p0.length : Int)) then
   Option.bind (idxO p0 s11) fun x20 =>
   Option.bind (K_raddleref25_Check x20) fun r25 =>
   if r25 != 0 then
    some (.inr (.inl 8))
   else
    some (.inl (w64 (s11 + 1)))
  else
   some (.inr (.inr ()))
def K_raddleref25_Used (p0 : api_Stitch) : Option Int :=
 Option.bind (α := Bool) (
  if p0.Kind == 2 then
   some (p0.Kind == 2)
  else
   some (p0.Kind == 9)) fun o5 =>
 if o5 then
  some 0
 else
  Option.bind (α := Bool) (
   if p0.Kind == 3 then
    some (p0.Kind == 3)
   else
    if p0.Kind == 4 then
     some (p0.Kind == 4)
    else
     some (p0.Kind == 10)) fun o12 =>
  if o12 then
   some p0.A
  else
   Option.bind (α := Bool) (
    if p0.Kind == 6 then
     some (p0.Kind == 6)
    else
     some (p0.Kind == 7)) fun o21 =>
   if o21 then
    some (w64 (p0.A + p0.B))
   else
    some 1
def K_raddleref25_Gives (p0 : api_Stitch) : Option Int :=
 if p0.Kind == 10 then
  some 0
 else
  Option.bind (α := Bool) (
   if p0.Kind == 5 then
    some (p0.Kind == 5)
   else
    some (p0.Kind == 9)) fun o8 =>
  if o8 then
   some p0.A
  else
   Option.bind (α := Bool) (
    if p0.Kind == 6 then
     some (p0.Kind == 6)
    else
     some (p0.Kind == 7)) fun o15 =>
   if o15 then
    some (w64 (p0.A + p0.B))
   else
    some 1
def K_raddleref25_sums_l1 (p0 : (List api_Stitch)) : (Int × Int × Int) → Option ((Int × Int × Int) ⊕ (Int × Int)) := fun s0 => match s0 with
 | (s10, s11, s12) =>
  if decide (s12 < (p0.length : Int)) then
   Option.bind (idxO p0 s12) fun x23 =>
   Option.bind (K_raddleref25_Used x23) fun r28 =>
   Option.bind (K_raddleref25_Gives x23) fun r33 =>
   some (.inl (w64 (s10 + r28), w64 (s11 + r33), w64 (s12 + 1)))
  else
   some (.inr (s10, s11))
def K_raddleref25_sums (p0 : (List api_Stitch)) : Option (Int × Int) :=
 Option.bind (α := (Int × Int)) (
  Option.bind (whileK (K_raddleref25_sums_l1 p0) (0, 0, 0)) fun (e16, e17) =>
   some (e16, e17)) fun (o5, o6) =>
 some (o5, o6)
def K_raddleref25_All (p0 : (List api_Stitch)) : Option Int :=
 if decide (200 < (p0.length : Int)) then
  some 4
 else
  Option.bind (α := Unit ⊕ Int) (
   Option.bind (whileK (K_raddleref25_All_l1 p0) 0) fun z0 => match z0 with
    | .inl z =>
     some (.inr z)
    | .inr _ =>
     some (.inl ())) fun z0 => match z0 with
   | .inl _ =>
    Option.bind (K_raddleref25_sums p0) fun r30 =>
    Option.bind (α := Bool) (
     if decide (200 < r30.1) then
      some true
     else
      some (decide (200 < r30.2))) fun o33 =>
    if o33 then
     some 4
    else
     some 0
   | .inr z =>
    some z
def K_raddleref25_Decimal_l1  : (Int × ByteArray) → Option ((Int × ByteArray) ⊕ ByteArray) := fun s0 => match s0 with
 | (s13, s14) =>
  if decide (0 < s13) then
   Option.bind (remI s13 10) fun z23 =>
   Option.bind (addS (strO ([IntKind.u8.wrap (w64 (48 + z23))] : List Int)) s14) fun z27 =>
   Option.bind (quoI s13 10) fun z29 =>
   some (.inl (z29, z27))
  else
   some (.inr s14)
def K_raddleref25_Decimal (p0 : Int) : Option ByteArray :=
 Option.bind (remI p0 10) fun z3 =>
 Option.bind (α := ByteArray) (
  Option.bind (quoI p0 10) fun z11 =>
  Option.bind (whileK (K_raddleref25_Decimal_l1) (z11, strO ([IntKind.u8.wrap (w64 (48 + z3))] : List Int))) fun e18 =>
   some e18) fun o7 =>
 some o7
def K_raddleref25_one (p0 : api_Stitch) : Option ByteArray :=
 Option.bind (α := ByteArray) (
  if p0.Purl then
   some (⟨#[112]⟩ : ByteArray)
  else
   some (⟨#[107]⟩ : ByteArray)) fun o4 =>
 if p0.Kind == 1 then
  some o4
 else
  if p0.Kind == 2 then
   some (⟨#[121, 111]⟩ : ByteArray)
  else
   if p0.Kind == 3 then
    Option.bind (addS o4 (⟨#[102]⟩ : ByteArray)) fun z20 =>
    Option.bind (K_raddleref25_Decimal p0.A) fun r22 =>
    Option.bind (addS z20 r22) fun z24 =>
    some z24
   else
    if p0.Kind == 4 then
     Option.bind (addS o4 (⟨#[108]⟩ : ByteArray)) fun z29 =>
     Option.bind (K_raddleref25_Decimal p0.A) fun r31 =>
     Option.bind (addS z29 r31) fun z33 =>
     some z33
    else
     if p0.Kind == 5 then
      Option.bind (addS o4 (⟨#[109]⟩ : ByteArray)) fun z38 =>
      Option.bind (K_raddleref25_Decimal p0.A) fun r40 =>
      Option.bind (addS z38 r40) fun z42 =>
      some z42
     else
      if p0.Kind == 6 then
       Option.bind (addS o4 (⟨#[120]⟩ : ByteArray)) fun z47 =>
       Option.bind (K_raddleref25_Decimal p0.A) fun r49 =>
       Option.bind (addS z47 r49) fun z51 =>
       Option.bind (addS z51 (⟨#[47]⟩ : ByteArray)) fun z53 =>
       Option.bind (K_raddleref25_Decimal p0.B) fun r55 =>
       Option.bind (addS z53 r55) fun z57 =>
       some z57
      else
       if p0.Kind == 7 then
        Option.bind (addS o4 (⟨#[121]⟩ : ByteArray)) fun z62 =>
        Option.bind (K_raddleref25_Decimal p0.A) fun r64 =>
        Option.bind (addS z62 r64) fun z66 =>
        Option.bind (addS z66 (⟨#[47]⟩ : ByteArray)) fun z68 =>
        Option.bind (K_raddleref25_Decimal p0.B) fun r70 =>
        Option.bind (addS z68 r70) fun z72 =>
        some z72
       else
        if p0.Kind == 8 then
         Option.bind (addS o4 (⟨#[115]⟩ : ByteArray)) fun z77 =>
         some z77
        else
         if p0.Kind == 9 then
          Option.bind (K_raddleref25_Decimal p0.A) fun r82 =>
          Option.bind (addS (⟨#[111, 110]⟩ : ByteArray) r82) fun z84 =>
          some z84
         else
          Option.bind (addS o4 (⟨#[111]⟩ : ByteArray)) fun z87 =>
          Option.bind (K_raddleref25_Decimal p0.A) fun r89 =>
          Option.bind (addS z87 r89) fun z91 =>
          some z91
def K_raddleref25_Written_l1 (p0 : (List api_Stitch)) : (Int × Int) → Option ((Int × Int) ⊕ (Int × Int)) := fun s0 => match s0 with
 | (s44, s45) =>
  Option.bind (α := Bool) (
   Option.bind (idxO p0 s44) fun x55 =>
   if x55.Kind == 1 then
    if decide ((w64 (s44 + 1)) < (p0.length : Int)) then
     Option.bind (idxO p0 (w64 (s44 + 1))) fun x64 =>
     some ((x64.Kind == x55.Kind) && ((x64.Purl == x55.Purl) && ((x64.A == x55.A) && ((x64.B == x55.B) && true))))
    else
     some false
   else
    some false) fun o52 =>
  if o52 then
   some (.inl (w64 (s44 + 1), w64 (s45 + 1)))
  else
   some (.inr (s44, s45))
def K_raddleref25_Written_l2 (p0 : (List api_Stitch)) : (ByteArray × Int) → Option ((ByteArray × Int) ⊕ ByteArray) := fun s0 => match s0 with
 | (s9, s10) =>
  if decide (s10 < (p0.length : Int)) then
   Option.bind (α := (ByteArray × Int)) (
    Option.bind (α := ByteArray) (
     if decide (0 < s10) then
      Option.bind (addS s9 (⟨#[32]⟩ : ByteArray)) fun z27 =>
      some z27
     else
      some s9) fun o22 =>
    Option.bind (idxO p0 s10) fun x30 =>
    Option.bind (K_raddleref25_one x30) fun r35 =>
    Option.bind (addS o22 r35) fun z37 =>
    Option.bind (α := (Int × Int)) (
     Option.bind (whileK (K_raddleref25_Written_l1 p0) (s10, 1)) fun (e49, e50) =>
      some (e49, e50)) fun (o40, o41) =>
    if decide (1 < o41) then
     Option.bind (K_raddleref25_Decimal o41) fun r97 =>
     Option.bind (addS z37 r97) fun z99 =>
     some (z99, o40)
    else
     some (z37, o40)) fun (o18, o19) =>
   some (.inl (o18, w64 (o19 + 1)))
  else
   some (.inr s9)
def K_raddleref25_Written (p0 : (List api_Stitch)) : Option ByteArray :=
 Option.bind (α := ByteArray) (
  Option.bind (whileK (K_raddleref25_Written_l2 p0) ((⟨#[]⟩ : ByteArray), 0)) fun e14 =>
   some e14) fun o5 =>
 some o5
def K_raddleref25_Parse (p0 : ByteArray) : Option ((List api_Stitch) × Int) :=
 if decide (3000 < (p0.size : Int)) then
  some (([] : (List api_Stitch)), 12)
 else
  if p0 == (⟨#[]⟩ : ByteArray) then
   some (([] : (List api_Stitch)), 0)
  else
   Option.bind (K_raddleref25_Cut p0 32) fun r11 =>
   Option.bind (α := List api_Stitch ⊕ ((List api_Stitch) × Int)) (
    Option.bind (whileK (K_raddleref25_Parse_l1 r11) (([] : List api_Stitch), 0)) fun z0 => match z0 with
     | .inl z =>
      some (.inr z)
     | .inr e30 =>
      some (.inl e30)) fun z0 => match z0 with
    | .inl o17 =>
     Option.bind (α := Bool) (
      Option.bind (K_raddleref25_All o17) fun r64 =>
      if r64 != 0 then
       some true
      else
       Option.bind (K_raddleref25_Written o17) fun r67 =>
       some (r67 != p0)) fun o61 =>
     if o61 then
      some (([] : (List api_Stitch)), 12)
     else
      some (o17, 0)
    | .inr z =>
     some z
def K_raddlelaw46_cells (p0 : ByteArray) : Option (List api_Stitch) :=
 Option.bind (K_raddleref25_Parse p0) fun r3 =>
 some r3.1
def K_stitch_forms (p0 : Int) : Option (stitch_form × Bool) :=
 Option.bind (α := Bool) (
  if decide (p0 < 1) then
   some true
  else
   some (decide (([(stitch_form.mk (⟨#[]⟩ : ByteArray) (0, 0) (0, 0) true 1 1), (stitch_form.mk (⟨#[]⟩ : ByteArray) (0, 0) (0, 0) false 0 1), (stitch_form.mk (⟨#[102]⟩ : ByteArray) (2, 4) (0, 0) true 2 1), (stitch_form.mk (⟨#[108]⟩ : ByteArray) (2, 4) (0, 0) true 2 1), (stitch_form.mk (⟨#[109]⟩ : ByteArray) (2, 4) (0, 0) true 1 2), (stitch_form.mk (⟨#[120]⟩ : ByteArray) (1, 6) (1, 6) true 3 3), (stitch_form.mk (⟨#[121]⟩ : ByteArray) (1, 6) (1, 6) true 3 3), (stitch_form.mk (⟨#[115]⟩ : ByteArray) (0, 0) (0, 0) true 1 1), (stitch_form.mk (⟨#[]⟩ : ByteArray) (1, 200) (0, 0) false 0 2), (stitch_form.mk (⟨#[111]⟩ : ByteArray) (1, 200) (0, 0) true 2 0)].length : Int) < (IntKind.i64.wrap p0)))) fun o12 =>
 if o12 then
  some ((stitch_form.mk (⟨#[]⟩ : ByteArray) (0, 0) (0, 0) false 0 0), false)
 else
  Option.bind (idxO [(stitch_form.mk (⟨#[]⟩ : ByteArray) (0, 0) (0, 0) true 1 1), (stitch_form.mk (⟨#[]⟩ : ByteArray) (0, 0) (0, 0) false 0 1), (stitch_form.mk (⟨#[102]⟩ : ByteArray) (2, 4) (0, 0) true 2 1), (stitch_form.mk (⟨#[108]⟩ : ByteArray) (2, 4) (0, 0) true 2 1), (stitch_form.mk (⟨#[109]⟩ : ByteArray) (2, 4) (0, 0) true 1 2), (stitch_form.mk (⟨#[120]⟩ : ByteArray) (1, 6) (1, 6) true 3 3), (stitch_form.mk (⟨#[121]⟩ : ByteArray) (1, 6) (1, 6) true 3 3), (stitch_form.mk (⟨#[115]⟩ : ByteArray) (0, 0) (0, 0) true 1 1), (stitch_form.mk (⟨#[]⟩ : ByteArray) (1, 200) (0, 0) false 0 2), (stitch_form.mk (⟨#[111]⟩ : ByteArray) (1, 200) (0, 0) true 2 0)] (IntKind.u8.wrap (p0 - 1))) fun x19 =>
  some (x19, true)
def K_stitch_within (p0 : Int) (p1 : (Int × Int)) : Option Bool :=
 Option.bind (α := Bool) (
  if decide (p1.1 ≤ p0) then
   some (decide (p0 ≤ p1.2))
  else
   some false) fun o3 =>
 some o3
def K_stitch_Check (p0 : api_Stitch) : Option Int :=
 Option.bind (K_stitch_forms p0.Kind) fun r4 =>
 Option.bind (α := Bool) (
  if !r4.2 then
   some true
  else
   Option.bind (K_stitch_within p0.A r4.1.a) fun r13 =>
   if !r13 then
    some true
   else
    Option.bind (K_stitch_within p0.B r4.1.b) fun r16 =>
    if !r16 then
     some true
    else
     if p0.Purl then
      some (!r4.1.sided)
     else
      some false) fun o9 =>
 if o9 then
  some 8
 else
  some 0
def K_stitch_All_1 (p0 : api_Stitch) : Option Bool :=
 Option.bind (K_stitch_Check p0) fun r4 =>
 some (r4 != 0)
def K_slices_IndexFunc___api_Stitch_api_Stitch__s0_l1 (p0 : (List api_Stitch)) : Int → Option (Int ⊕ (Int ⊕ Unit)) := fun s0 => match s0 with
 | s7 =>
  if decide (s7 < (p0.length : Int)) then
   Option.bind (idxO p0 s7) fun x17 =>
   Option.bind (K_stitch_All_1 x17) fun r22 =>
   if r22 then
    some (.inr (.inl s7))
   else
    some (.inl (w64 (s7 + 1)))
  else
   some (.inr (.inr ()))
def K_slices_IndexFunc___api_Stitch_api_Stitch__s0 (p0 : (List api_Stitch)) : Option Int :=
 Option.bind (α := Unit ⊕ Int) (
  Option.bind (whileK (K_slices_IndexFunc___api_Stitch_api_Stitch__s0_l1 p0) 0) fun z0 => match z0 with
   | .inl z =>
    some (.inr z)
   | .inr _ =>
    some (.inl ())) fun z0 => match z0 with
  | .inl _ =>
   some (-1)
  | .inr z =>
   some z
def K_slices_ContainsFunc___api_Stitch_api_Stitch__s0 (p0 : (List api_Stitch)) : Option Bool :=
 Option.bind (K_slices_IndexFunc___api_Stitch_api_Stitch__s0 p0) fun r5 =>
 some (decide (0 ≤ r5))
def K_stitch_loops (p0 : api_Stitch) (p1 : Int) : Option Int :=
 Option.bind (idxO ([0, 1, p0.A, w64 (p0.A + p0.B)] : List Int) p1) fun x4 =>
 some x4
def K_stitch_sum_l1 (p0 : (List api_Stitch)) : (Int × Int × Int) → Option ((Int × Int × Int) ⊕ (Int × Int)) := fun s0 => match s0 with
 | (s9, s10, s11) =>
  if decide (s11 < (p0.length : Int)) then
   Option.bind (idxO p0 s11) fun x22 =>
   Option.bind (K_stitch_forms x22.Kind) fun r29 =>
   Option.bind (K_stitch_loops x22 r29.1.uses) fun r34 =>
   Option.bind (K_stitch_loops x22 r29.1.made) fun r36 =>
   some (.inl (w64 (s9 + r34), w64 (s10 + r36), w64 (s11 + 1)))
  else
   some (.inr (s9, s10))
def K_stitch_sum (p0 : (List api_Stitch)) : Option (Int × Int) :=
 Option.bind (α := (Int × Int)) (
  Option.bind (whileK (K_stitch_sum_l1 p0) (0, 0, 0)) fun (e15, e16) =>
   some (e15, e16)) fun (o4, o5) =>
 some (o4, o5)
def K_stitch_All (p0 : (List api_Stitch)) : Option Int :=
 if decide (200 < (p0.length : Int)) then
  some 4
 else
  Option.bind (K_slices_ContainsFunc___api_Stitch_api_Stitch__s0 p0) fun r10 =>
  if r10 then
   some 8
  else
   Option.bind (K_stitch_sum p0) fun r16 =>
   if decide (200 < (if r16.1 < r16.2 then r16.2 else r16.1)) then
    some 4
   else
    some 0
def K_compare_Edits_l1 (p0 : (List api_Stitch)) (p1 : (List api_Stitch)) : Int → Option (Int ⊕ (((List api_CellStep) × Int × Int) ⊕ Unit)) := fun s0 => match s0 with
 | s9 =>
  if decide (s9 < 2) then
   Option.bind (idxO ([p0, p1] : List (List api_Stitch)) s9) fun x19 =>
   Option.bind (K_stitch_All x19) fun r24 =>
   if r24 != 0 then
    some (.inr (.inl (([] : (List api_CellStep)), 0, r24)))
   else
    some (.inl (w64 (s9 + 1)))
  else
   some (.inr (.inr ()))
def K_compare_cellTable_1 (p0 : api_Stitch) : Option Int :=
 some 1
def K_compare_cellTable_2 (p0 : api_Stitch) (p1 : api_Stitch) : Option Int :=
 if ((p0.Kind == p1.Kind) && ((p0.Purl == p1.Purl) && ((p0.A == p1.A) && ((p0.B == p1.B) && true)))) then
  some 0
 else
  some 1
def K_compare_table_api_Stitch__s0_l1 (s16 : Int) (p0 : (List api_Stitch)) (p1 : (List api_Stitch)) (s15 : List (List Int)) : (Int × List Int) → Option ((Int × List Int) ⊕ List Int) := fun s0 => match s0 with
 | (s40, s41) =>
  if decide (0 ≤ s40) then
   Option.bind (α := List Int) (
    Option.bind (α := Bool) (
     if s16 == (p0.length : Int) then
      some (s40 == (p1.length : Int))
     else
      some false) fun o52 =>
    if o52 then
     some s41
    else
     if s16 == (p0.length : Int) then
      Option.bind (idxO s41 (w64 (s40 + 1))) fun x65 =>
      Option.bind (idxO p1 s40) fun x70 =>
      Option.bind (K_compare_cellTable_1 x70) fun r75 =>
      Option.bind (idxO s41 s40) fun x77 =>
      Option.bind (setO s41 s40 (w64 (x65 + r75))) fun l82 =>
      some l82
     else
      if s40 == (p1.length : Int) then
       Option.bind (idxO s15 (w64 (s16 + 1))) fun x104 =>
       Option.bind (idxO x104 s40) fun x112 =>
       Option.bind (idxO p0 s16) fun x117 =>
       Option.bind (K_compare_cellTable_1 x117) fun r122 =>
       Option.bind (idxO s41 s40) fun x124 =>
       Option.bind (setO s41 s40 (w64 (x112 + r122))) fun l129 =>
       some l129
      else
       Option.bind (idxO s15 (w64 (s16 + 1))) fun x152 =>
       Option.bind (idxO x152 s40) fun x160 =>
       Option.bind (idxO p0 s16) fun x165 =>
       Option.bind (K_compare_cellTable_1 x165) fun r170 =>
       Option.bind (idxO s41 (w64 (s40 + 1))) fun x175 =>
       Option.bind (idxO p1 s40) fun x180 =>
       Option.bind (K_compare_cellTable_1 x180) fun r185 =>
       Option.bind (idxO x152 (w64 (s40 + 1))) fun x193 =>
       Option.bind (K_compare_cellTable_2 x165 x180) fun r204 =>
       Option.bind (idxO s41 s40) fun x206 =>
       Option.bind (setO s41 s40 (min3 (w64 (x160 + r170)) (w64 (x175 + r185)) (w64 (x193 + r204)))) fun l211 =>
       some l211) fun o49 =>
   some (.inl (w64 (s40 - 1), o49))
  else
   some (.inr s41)
def K_compare_table_api_Stitch__s0_l2 (p1 : (List api_Stitch)) (p0 : (List api_Stitch)) : (List (List Int) × Int) → Option ((List (List Int) × Int) ⊕ List (List Int)) := fun s0 => match s0 with
 | (s15, s16) =>
  if decide (0 ≤ s16) then
   Option.bind (α := List Int) (
    Option.bind (makeO (w64 ((p1.length : Int) + 1)) (0 : Int)) fun m32 =>
    Option.bind (idxO s15 s16) fun x34 =>
    Option.bind (whileK (K_compare_table_api_Stitch__s0_l1 s16 p0 p1 s15) ((p1.length : Int), m32)) fun e45 =>
     some e45) fun o24 =>
   some (.inl ((s15.set (s16).toNat o24), w64 (s16 - 1)))
  else
   some (.inr s15)
def K_compare_table_api_Stitch__s0 (p0 : (List api_Stitch)) (p1 : (List api_Stitch)) : Option (List (List Int)) :=
 Option.bind (makeO (w64 ((p0.length : Int) + 1)) ([] : (List Int))) fun m9 =>
 Option.bind (α := List (List Int)) (
  Option.bind (whileK (K_compare_table_api_Stitch__s0_l2 p1 p0) (m9, (p0.length : Int))) fun e20 =>
   some e20) fun o11 =>
 some o11
def K_compare_cellTable (p0 : (List api_Stitch)) (p1 : (List api_Stitch)) : Option (List (List Int)) :=
 Option.bind (K_compare_table_api_Stitch__s0 p0 p1) fun r7 =>
 some r7
def K_compare_Edits_l2 (p0 : (List api_Stitch)) (p1 : (List api_Stitch)) (r30 : (List (List Int))) : (List api_CellStep × Int × Int) → Option ((List api_CellStep × Int × Int) ⊕ List api_CellStep) := fun s0 => match s0 with
 | (s42, s45, s46) =>
  Option.bind (α := Bool) (
   if decide (s45 < (p0.length : Int)) then
    some true
   else
    some (decide (s46 < (p1.length : Int)))) fun o54 =>
  if o54 then
   Option.bind (idxO r30 s45) fun x60 =>
   Option.bind (idxO x60 s46) fun x67 =>
   Option.bind (α := Bool) (
    if decide (s45 < (p0.length : Int)) then
     if decide (s46 < (p1.length : Int)) then
      Option.bind (idxO p0 s45) fun x77 =>
      Option.bind (idxO p1 s46) fun x82 =>
      if ((x77.Kind == x82.Kind) && ((x77.Purl == x82.Purl) && ((x77.A == x82.A) && ((x77.B == x82.B) && true)))) then
       Option.bind (idxO r30 (w64 (s45 + 1))) fun x88 =>
       Option.bind (idxO x88 (w64 (s46 + 1))) fun x95 =>
       some (x67 == x95)
      else
       some false
     else
      some false
    else
     some false) fun o72 =>
   if o72 then
    Option.bind (appO s42 [(api_CellStep.mk 1 (api_Stitch.mk 0 false 0 0))]) fun l124 =>
    some (.inl (l124, w64 (s45 + 1), w64 (s46 + 1)))
   else
    Option.bind (α := Bool) (
     if decide (s45 < (p0.length : Int)) then
      if decide (s46 < (p1.length : Int)) then
       Option.bind (idxO p0 s45) fun x134 =>
       Option.bind (idxO p1 s46) fun x139 =>
       if !((x134.Kind == x139.Kind) && ((x134.Purl == x139.Purl) && ((x134.A == x139.A) && ((x134.B == x139.B) && true)))) then
        Option.bind (idxO r30 (w64 (s45 + 1))) fun x145 =>
        Option.bind (idxO x145 (w64 (s46 + 1))) fun x152 =>
        some (x67 == (w64 (1 + x152)))
       else
        some false
      else
       some false
     else
      some false) fun o129 =>
    if o129 then
     Option.bind (idxO p1 s46) fun x179 =>
     Option.bind (appO s42 [(api_CellStep.mk 2 x179)]) fun l186 =>
     some (.inl (l186, w64 (s45 + 1), w64 (s46 + 1)))
    else
     Option.bind (α := Bool) (
      if decide (s45 < (p0.length : Int)) then
       Option.bind (idxO r30 (w64 (s45 + 1))) fun x195 =>
       Option.bind (idxO x195 s46) fun x202 =>
       some (x67 == (w64 (1 + x202)))
      else
       some false) fun o191 =>
     if o191 then
      Option.bind (appO s42 [(api_CellStep.mk 4 (api_Stitch.mk 0 false 0 0))]) fun l211 =>
      some (.inl (l211, w64 (s45 + 1), s46))
     else
      Option.bind (idxO p1 s46) fun x216 =>
      Option.bind (appO s42 [(api_CellStep.mk 3 x216)]) fun l223 =>
      some (.inl (l223, s45, w64 (s46 + 1)))
  else
   some (.inr s42)
def K_compare_Edits (p0 : (List api_Stitch)) (p1 : (List api_Stitch)) : Option ((List api_CellStep) × Int × Int) :=
 Option.bind (α := Unit ⊕ ((List api_CellStep) × Int × Int)) (
  Option.bind (whileK (K_compare_Edits_l1 p0 p1) 0) fun z0 => match z0 with
   | .inl z =>
    some (.inr z)
   | .inr _ =>
    some (.inl ())) fun z0 => match z0 with
  | .inl _ =>
   Option.bind (K_compare_cellTable p0 p1) fun r30 =>
   Option.bind (α := List api_CellStep) (
    Option.bind (whileK (K_compare_Edits_l2 p0 p1 r30) (([] : List api_CellStep), 0, 0)) fun e50 =>
     some e50) fun o37 =>
   Option.bind (idxO r30 0) fun x228 =>
   Option.bind (idxO x228 0) fun x235 =>
   some (o37, x235, 0)
  | .inr z =>
   some z
def K_raddleref26_Parse_l1 (r8 : (List ByteArray)) (s54 : Int) : Int → Option (Int ⊕ Int) := fun s0 => match s0 with
 | s76 =>
  Option.bind (α := Bool) (
   Option.bind (idxO r8 s54) fun x85 =>
   if decide (s76 < (x85.size : Int)) then
    Option.bind (idxS x85 s76) fun x94 =>
    some (x94 != 32)
   else
    some false) fun o82 =>
  if o82 then
   some (.inl (w64 (s76 + 1)))
  else
   some (.inr s76)
def K_raddleref26_Parse_l2 (r8 : (List ByteArray)) : (Int × List api_Row) → Option ((Int × List api_Row) ⊕ ((api_Chart × Int) ⊕ (List api_Row))) := fun s0 => match s0 with
 | (s54, s55) =>
  if decide ((w64 (s54 + 1)) < (r8.length : Int)) then
   Option.bind (α := List api_Row ⊕ (api_Chart × Int)) (
    Option.bind (α := Int) (
     Option.bind (whileK (K_raddleref26_Parse_l1 r8 s54) 0) fun e80 =>
      some e80) fun o73 =>
    Option.bind (α := Bool) (
     Option.bind (idxO r8 s54) fun x101 =>
     Option.bind (sliceS x101 0 o73) fun y106 =>
     if y106 != (⟨#[102, 114, 111, 110, 116]⟩ : ByteArray) then
      some (y106 != (⟨#[98, 97, 99, 107]⟩ : ByteArray))
     else
      some false) fun o98 =>
    if o98 then
     some (.inr ((api_Chart.mk 0 ([] : (List api_Row))), 12))
    else
     Option.bind (idxO r8 s54) fun x115 =>
     Option.bind (sliceS x115 0 o73) fun y120 =>
     Option.bind (α := List api_Stitch ⊕ (api_Chart × Int)) (
      if decide (o73 < (x115.size : Int)) then
       Option.bind (sliceS x115 (w64 (o73 + 1)) (x115.size : Int)) fun y137 =>
       Option.bind (K_raddleref25_Parse y137) fun r139 =>
       if r139.2 != 0 then
        some (.inr ((api_Chart.mk 0 ([] : (List api_Row))), 12))
       else
        some (.inl r139.1)
      else
       some (.inl ([] : List api_Stitch))) fun z0 => match z0 with
      | .inl o123 =>
       Option.bind (appO s55 [(api_Row.mk (y120 == (⟨#[98, 97, 99, 107]⟩ : ByteArray)) o123)]) fun l150 =>
       some (.inl l150)
      | .inr z =>
       some (.inr z)) fun z0 => match z0 with
    | .inl o67 =>
     some (.inl (w64 (s54 + 1), o67))
    | .inr z =>
     some (.inr (.inl z))
  else
   some (.inr (.inr s55))
def K_raddleref25_Uses (p0 : (List api_Stitch)) : Option (Int × Int) :=
 Option.bind (K_raddleref25_All p0) fun r6 =>
 if r6 != 0 then
  some (0, r6)
 else
  Option.bind (K_raddleref25_sums p0) fun r11 =>
  some (r11.1, 0)
def K_raddleref25_Makes (p0 : (List api_Stitch)) : Option (Int × Int) :=
 Option.bind (K_raddleref25_All p0) fun r6 =>
 if r6 != 0 then
  some (0, r6)
 else
  Option.bind (K_raddleref25_sums p0) fun r11 =>
  some (r11.2, 0)
def K_raddleref26_Check_l1 (p0 : api_Chart) : (Int × Int) → Option ((Int × Int) ⊕ (Int ⊕ Unit)) := fun s0 => match s0 with
 | (s22, s23) =>
  if decide (s23 < (p0.Rows.length : Int)) then
   Option.bind (idxO p0.Rows s23) fun x32 =>
   Option.bind (K_raddleref25_Uses x32.Cells) fun r41 =>
   if r41.2 != 0 then
    some (.inr (.inl r41.2))
   else
    if r41.1 != s22 then
     some (.inr (.inl 26))
    else
     Option.bind (K_raddleref25_Makes x32.Cells) fun r58 =>
     some (.inl (r58.1, w64 (s23 + 1)))
  else
   some (.inr (.inr ()))
def K_raddleref26_Check (p0 : api_Chart) : Option Int :=
 if decide (100 < (p0.Rows.length : Int)) then
  some 4
 else
  Option.bind (α := Bool) (
   if decide (p0.Start < 0) then
    some true
   else
    some (decide (200 < p0.Start))) fun o12 =>
  if o12 then
   some 8
  else
   Option.bind (α := Unit ⊕ Int) (
    Option.bind (whileK (K_raddleref26_Check_l1 p0) (p0.Start, 0)) fun z0 => match z0 with
     | .inl z =>
      some (.inr z)
     | .inr _ =>
      some (.inl ())) fun z0 => match z0 with
    | .inl _ =>
     some 0
    | .inr z =>
     some z
def K_raddleref26_side (p0 : Bool) : Option ByteArray :=
 if p0 then
  some (⟨#[98, 97, 99, 107]⟩ : ByteArray)
 else
  some (⟨#[102, 114, 111, 110, 116]⟩ : ByteArray)
def K_raddleref26_Written_l1 (p0 : api_Chart) : (ByteArray × Int) → Option ((ByteArray × Int) ⊕ ((ByteArray × Bool) ⊕ ByteArray)) := fun s0 => match s0 with
 | (s18, s19) =>
  if decide (s19 < (p0.Rows.length : Int)) then
   Option.bind (idxO p0.Rows s19) fun x29 =>
   Option.bind (K_raddleref25_Written x29.Cells) fun r38 =>
   if decide (3000 < (r38.size : Int)) then
    some (.inr (.inl ((⟨#[]⟩ : ByteArray), false)))
   else
    Option.bind (K_raddleref26_side x29.Back) fun r50 =>
    Option.bind (addS s18 r50) fun z52 =>
    Option.bind (α := ByteArray) (
     if r38 != (⟨#[]⟩ : ByteArray) then
      Option.bind (addS z52 (⟨#[32]⟩ : ByteArray)) fun z59 =>
      Option.bind (addS z59 r38) fun z61 =>
      some z61
     else
      some z52) fun o54 =>
    Option.bind (addS o54 (⟨#[10]⟩ : ByteArray)) fun z63 =>
    some (.inl (z63, w64 (s19 + 1)))
  else
   some (.inr (.inr s18))
def K_raddleref26_Written (p0 : api_Chart) : Option (ByteArray × Bool) :=
 Option.bind (K_raddleref25_Decimal p0.Start) fun r8 =>
 Option.bind (addS (⟨#[115, 116, 97, 114, 116, 32]⟩ : ByteArray) r8) fun z10 =>
 Option.bind (addS z10 (⟨#[10]⟩ : ByteArray)) fun z12 =>
 Option.bind (α := ByteArray ⊕ (ByteArray × Bool)) (
  Option.bind (whileK (K_raddleref26_Written_l1 p0) (z12, 0)) fun z0 => match z0 with
   | .inl z =>
    some (.inr z)
   | .inr e23 =>
    some (.inl e23)) fun z0 => match z0 with
  | .inl o14 =>
   some (o14, true)
  | .inr z =>
   some z
def K_raddleref26_Parse (p0 : ByteArray) : Option (api_Chart × Int) :=
 if decide (20000 < (p0.size : Int)) then
  some ((api_Chart.mk 0 ([] : (List api_Row))), 12)
 else
  Option.bind (K_raddleref25_Cut p0 10) fun r8 =>
  Option.bind (α := Bool) (
   if decide ((r8.length : Int) < 2) then
    some true
   else
    if decide (100 < (w64 ((r8.length : Int) - 2))) then
     some true
    else
     Option.bind (idxO r8 0) fun x19 =>
     if decide ((x19.size : Int) < 7) then
      some true
     else
      Option.bind (sliceS x19 0 6) fun y28 =>
      some (y28 != (⟨#[115, 116, 97, 114, 116, 32]⟩ : ByteArray))) fun o14 =>
  if o14 then
   some ((api_Chart.mk 0 ([] : (List api_Row))), 12)
  else
   Option.bind (idxO r8 0) fun x33 =>
   Option.bind (sliceS x33 6 (x33.size : Int)) fun y38 =>
   Option.bind (K_raddleref25_Number y38) fun r40 =>
   if !r40.2 then
    some ((api_Chart.mk 0 ([] : (List api_Row))), 12)
   else
    Option.bind (α := List api_Row ⊕ (api_Chart × Int)) (
     Option.bind (whileK (K_raddleref26_Parse_l2 r8) (1, ([] : List api_Row))) fun z0 => match z0 with
      | .inl z =>
       some (.inr z)
      | .inr e61 =>
       some (.inl e61)) fun z0 => match z0 with
     | .inl o48 =>
      Option.bind (K_raddleref26_Check (api_Chart.mk r40.1 o48)) fun r156 =>
      if r156 != 0 then
       some ((api_Chart.mk 0 ([] : (List api_Row))), 12)
      else
       Option.bind (K_raddleref26_Written (api_Chart.mk r40.1 o48)) fun r161 =>
       Option.bind (α := Bool) (
        if !r161.2 then
         some true
        else
         some (r161.1 != p0)) fun o164 =>
       if o164 then
        some ((api_Chart.mk 0 ([] : (List api_Row))), 12)
       else
        some ((api_Chart.mk r40.1 o48), 0)
     | .inr z =>
      some z
def K_raddlelaw46_knit (p0 : ByteArray) : Option api_Chart :=
 Option.bind (K_raddleref26_Parse p0) fun r4 =>
 some r4.1
def K_chart_counted (p0 : api_Chart) : Option api_Chart :=
 some p0
def K_stitch_Uses (p0 : (List api_Stitch)) : Option (Int × Int) :=
 Option.bind (K_stitch_All p0) fun r6 =>
 if r6 != 0 then
  some (0, r6)
 else
  Option.bind (K_stitch_sum p0) fun r12 =>
  some (r12.1, 0)
def K_stitch_Makes (p0 : (List api_Stitch)) : Option (Int × Int) :=
 Option.bind (K_stitch_All p0) fun r6 =>
 if r6 != 0 then
  some (0, r6)
 else
  Option.bind (K_stitch_sum p0) fun r12 =>
  some (r12.2, 0)
def K_chart_counted_1_l1 {σ τ : Type} (p0 : api_Chart) (B : σ → (Int × chart_count) → Option (σ ⊕ τ)) : (Int × Int × σ) → Option ((Int × Int × σ) ⊕ ((σ ⊕ τ) ⊕ (σ))) := fun s0 => match s0 with
 | (s11, s12, gz13) =>
  if decide (s12 < (p0.Rows.length : Int)) then
   Option.bind (idxO p0.Rows s12) fun x23 =>
   Option.bind (K_stitch_Uses x23.Cells) fun r36 =>
   Option.bind (α := (Int × Int)) (
    if r36.2 != 0 then
     some (0, r36.2)
    else
     if r36.1 != s11 then
      some (0, 26)
     else
      Option.bind (K_stitch_Makes x23.Cells) fun r46 =>
      some (r46.1, 0)) fun (o38, o39) =>
   Option.bind (B gz13 (s12, (chart_count.mk s11 o38 o39))) fun y51 =>
   match y51 with
   | .inl gz53 =>
    if ((chart_count.mk s11 o38 o39).e) != 0 then
     some (.inr (.inl (.inl gz53)))
    else
     some (.inl ((chart_count.mk s11 o38 o39).after, w64 (s12 + 1), gz53))
   | .inr tz54 =>
    some (.inr (.inl (.inr tz54)))
  else
   some (.inr (.inr gz13))
def K_I_chart_counted_1 (p0 : api_Chart) (σ τ : Type) (B : σ → (Int × chart_count) → Option (σ ⊕ τ)) (gz0 : σ) : Option (σ ⊕ τ) :=
 Option.bind (whileK (K_chart_counted_1_l1 p0 B) (p0.Start, 0, gz0)) fun z0 => match z0 with
  | .inl z =>
   some z
  | .inr gz17 =>
   some (.inl gz17)
def K_chart_Check_l2  : Unit → (Int × chart_count) → Option (Unit ⊕ Int) := fun s0 x0 => match s0, x0 with
 | _, (x25, x27) =>
  if x27.e != 0 then
   some (.inr x27.e)
  else
   some (.inl ())
def K_chart_Check (p0 : api_Chart) : Option Int :=
 if decide (100 < (p0.Rows.length : Int)) then
  some 4
 else
  Option.bind (α := Bool) (
   if decide (p0.Start < 0) then
    some true
   else
    some (decide (200 < p0.Start))) fun o13 =>
  if o13 then
   some 8
  else
   Option.bind (K_chart_counted p0) fun r21 =>
   Option.bind (K_I_chart_counted_1 r21 _ _ (K_chart_Check_l2) ()) fun z0 => match z0 with
    | .inl _ =>
     some 0
    | .inr e24 =>
     some e24
def K_compare_Charts_1 (p0 : api_Row) : Option Int :=
 some (w64 (1 + (p0.Cells.length : Int)))
def K_compare_Charts_2 (p0 : api_Row) (p1 : api_Row) : Option Int :=
 Option.bind (K_compare_cellTable p0.Cells p1.Cells) fun r13 =>
 Option.bind (idxO r13 0) fun x18 =>
 Option.bind (idxO x18 0) fun x25 =>
 Option.bind (α := Int) (
  if p0.Back != p1.Back then
   some (w64 (x25 + 1))
  else
   some x25) fun o30 =>
 some o30
def K_compare_table_api_Row__s0_l1 (s16 : Int) (p0 : (List api_Row)) (p1 : (List api_Row)) (s15 : List (List Int)) : (Int × List Int) → Option ((Int × List Int) ⊕ List Int) := fun s0 => match s0 with
 | (s40, s41) =>
  if decide (0 ≤ s40) then
   Option.bind (α := List Int) (
    Option.bind (α := Bool) (
     if s16 == (p0.length : Int) then
      some (s40 == (p1.length : Int))
     else
      some false) fun o52 =>
    if o52 then
     some s41
    else
     if s16 == (p0.length : Int) then
      Option.bind (idxO s41 (w64 (s40 + 1))) fun x65 =>
      Option.bind (idxO p1 s40) fun x70 =>
      Option.bind (K_compare_Charts_1 x70) fun r79 =>
      Option.bind (idxO s41 s40) fun x81 =>
      Option.bind (setO s41 s40 (w64 (x65 + r79))) fun l86 =>
      some l86
     else
      if s40 == (p1.length : Int) then
       Option.bind (idxO s15 (w64 (s16 + 1))) fun x112 =>
       Option.bind (idxO x112 s40) fun x120 =>
       Option.bind (idxO p0 s16) fun x125 =>
       Option.bind (K_compare_Charts_1 x125) fun r134 =>
       Option.bind (idxO s41 s40) fun x136 =>
       Option.bind (setO s41 s40 (w64 (x120 + r134))) fun l141 =>
       some l141
      else
       Option.bind (idxO s15 (w64 (s16 + 1))) fun x168 =>
       Option.bind (idxO x168 s40) fun x176 =>
       Option.bind (idxO p0 s16) fun x181 =>
       Option.bind (K_compare_Charts_1 x181) fun r190 =>
       Option.bind (idxO s41 (w64 (s40 + 1))) fun x195 =>
       Option.bind (idxO p1 s40) fun x200 =>
       Option.bind (K_compare_Charts_1 x200) fun r209 =>
       Option.bind (idxO x168 (w64 (s40 + 1))) fun x217 =>
       Option.bind (K_compare_Charts_2 x181 x200) fun r236 =>
       Option.bind (idxO s41 s40) fun x238 =>
       Option.bind (setO s41 s40 (min3 (w64 (x176 + r190)) (w64 (x195 + r209)) (w64 (x217 + r236)))) fun l243 =>
       some l243) fun o49 =>
   some (.inl (w64 (s40 - 1), o49))
  else
   some (.inr s41)
def K_compare_table_api_Row__s0_l2 (p1 : (List api_Row)) (p0 : (List api_Row)) : (List (List Int) × Int) → Option ((List (List Int) × Int) ⊕ List (List Int)) := fun s0 => match s0 with
 | (s15, s16) =>
  if decide (0 ≤ s16) then
   Option.bind (α := List Int) (
    Option.bind (makeO (w64 ((p1.length : Int) + 1)) (0 : Int)) fun m32 =>
    Option.bind (idxO s15 s16) fun x34 =>
    Option.bind (whileK (K_compare_table_api_Row__s0_l1 s16 p0 p1 s15) ((p1.length : Int), m32)) fun e45 =>
     some e45) fun o24 =>
   some (.inl ((s15.set (s16).toNat o24), w64 (s16 - 1)))
  else
   some (.inr s15)
def K_compare_table_api_Row__s0 (p0 : (List api_Row)) (p1 : (List api_Row)) : Option (List (List Int)) :=
 Option.bind (makeO (w64 ((p0.length : Int) + 1)) ([] : (List Int))) fun m9 =>
 Option.bind (α := List (List Int)) (
  Option.bind (whileK (K_compare_table_api_Row__s0_l2 p1 p0) (m9, (p0.length : Int))) fun e20 =>
   some e20) fun o11 =>
 some o11
def K_compare_Charts (p0 : api_Chart) (p1 : api_Chart) : Option (Int × Int) :=
 Option.bind (K_chart_Check p0) fun r14 =>
 if r14 != 0 then
  some (0, r14)
 else
  Option.bind (K_chart_Check p1) fun r21 =>
  if r21 != 0 then
   some (0, r21)
  else
   Option.bind (K_compare_table_api_Row__s0 p0.Rows p1.Rows) fun r27 =>
   Option.bind (idxO r27 0) fun x33 =>
   Option.bind (idxO x33 0) fun x40 =>
   Option.bind (α := Int) (
    if p0.Start != p1.Start then
     some (w64 (x40 + 1))
    else
     some x40) fun o45 =>
   some (o45, 0)
def K_raddleref46_Same_l1 (p0 : (List api_CellStep)) (p1 : (List api_CellStep)) : Int → Option (Int ⊕ (Bool ⊕ Unit)) := fun s0 => match s0 with
 | s13 =>
  if decide (s13 < (p0.length : Int)) then
   Option.bind (idxO p0 s13) fun x22 =>
   Option.bind (idxO p1 s13) fun x27 =>
   if !((x22.Kind == x27.Kind) && (((x22.S.Kind == x27.S.Kind) && ((x22.S.Purl == x27.S.Purl) && ((x22.S.A == x27.S.A) && ((x22.S.B == x27.S.B) && true)))) && true)) then
    some (.inr (.inl false))
   else
    some (.inl (w64 (s13 + 1)))
  else
   some (.inr (.inr ()))
def K_raddleref46_Same (p0 : (List api_CellStep)) (p1 : (List api_CellStep)) : Option Bool :=
 if (p0.length : Int) != (p1.length : Int) then
  some false
 else
  Option.bind (α := Unit ⊕ Bool) (
   Option.bind (whileK (K_raddleref46_Same_l1 p0 p1) 0) fun z0 => match z0 with
    | .inl z =>
     some (.inr z)
    | .inr _ =>
     some (.inl ())) fun z0 => match z0 with
   | .inl _ =>
    some true
   | .inr z =>
    some z
theorem m_raddleref01_Parse_l1 (p0 : ByteArray) : ∀ s, Le (K_raddleref01_Parse_l1 p0 s) (raddleref01_Parse_l1 p0 s) := by
 unfold K_raddleref01_Parse_l1 raddleref01_Parse_l1
 with_reducible repeat' (first | exact Le.rfl _ | refine Le.loop _ ?_ | refine Le.bind ?_ ?_ | refine Le.ite ?_ ?_ | refine Le.sum ?_ ?_ | refine Le.prod ?_ | intro _ | exact Empty.elim (by assumption) | dsimp only)
theorem m_F_raddleref01_Zero_s0 (p0 : Int) (p1 : Int) : Le (K_raddleref01_Zero_s0 p0 p1) (F_raddleref01_Zero_s0 p0 p1) := by
 unfold K_raddleref01_Zero_s0 F_raddleref01_Zero_s0
 with_reducible repeat' (first | exact Le.rfl _ | refine Le.loop _ ?_ | refine Le.bind ?_ ?_ | refine Le.ite ?_ ?_ | refine Le.sum ?_ ?_ | refine Le.prod ?_ | intro _ | exact Empty.elim (by assumption) | dsimp only)
theorem m_F_raddleref01_Set_s0 (p0 : Int) (p1 : Int) (p2 : (List Bool)) (p3 : Int) (p4 : Int) (p5 : Bool) : Le (K_raddleref01_Set_s0 p0 p1 p2 p3 p4 p5) (F_raddleref01_Set_s0 p0 p1 p2 p3 p4 p5) := by
 unfold K_raddleref01_Set_s0 F_raddleref01_Set_s0
 with_reducible repeat' (first | exact Le.rfl _ | refine Le.loop _ ?_ | refine Le.bind ?_ ?_ | refine Le.ite ?_ ?_ | refine Le.sum ?_ ?_ | refine Le.prod ?_ | intro _ | exact Empty.elim (by assumption) | dsimp only)
theorem m_raddleref01_Parse_l2 (p0 : ByteArray) (o4 : Int) (r36 : api_Grid) : ∀ s, Le (K_raddleref01_Parse_l2 p0 o4 r36 s) (raddleref01_Parse_l2 p0 o4 r36 s) := by
 unfold K_raddleref01_Parse_l2 raddleref01_Parse_l2
 with_reducible repeat' (first | exact m_F_raddleref01_Set_s0 _ _ _ _ _ _ | exact Le.rfl _ | refine Le.loop _ ?_ | refine Le.bind ?_ ?_ | refine Le.ite ?_ ?_ | refine Le.sum ?_ ?_ | refine Le.prod ?_ | intro _ | exact Empty.elim (by assumption) | dsimp only)
theorem m_F_raddleref01_Parse (p0 : ByteArray) : Le (K_raddleref01_Parse p0) (F_raddleref01_Parse p0) := by
 unfold K_raddleref01_Parse F_raddleref01_Parse
 with_reducible repeat' (first | exact m_raddleref01_Parse_l1 _ | exact m_F_raddleref01_Zero_s0 _ _ | exact m_raddleref01_Parse_l2 _ _ _ | exact Le.rfl _ | refine Le.loop _ ?_ | refine Le.bind ?_ ?_ | refine Le.ite ?_ ?_ | refine Le.sum ?_ ?_ | refine Le.prod ?_ | intro _ | exact Empty.elim (by assumption) | dsimp only)
theorem m_F_raddlelaw46_cloth (p0 : ByteArray) : Le (K_raddlelaw46_cloth p0) (F_raddlelaw46_cloth p0) := by
 unfold K_raddlelaw46_cloth F_raddlelaw46_cloth
 with_reducible repeat' (first | exact m_F_raddleref01_Parse _ | exact Le.rfl _ | refine Le.loop _ ?_ | refine Le.bind ?_ ?_ | refine Le.ite ?_ ?_ | refine Le.sum ?_ ?_ | refine Le.prod ?_ | intro _ | exact Empty.elim (by assumption) | dsimp only)
theorem m_F_grid_Check (p0 : api_Grid) : Le (K_grid_Check p0) (F_grid_Check p0) := by
 unfold K_grid_Check F_grid_Check
 with_reducible repeat' (first | exact Le.rfl _ | refine Le.loop _ ?_ | refine Le.bind ?_ ?_ | refine Le.ite ?_ ?_ | refine Le.sum ?_ ?_ | refine Le.prod ?_ | intro _ | exact Empty.elim (by assumption) | dsimp only)
theorem m_compare_differ_l1 (p0 : (List Bool)) (p1 : (List Bool)) : ∀ s, Le (K_compare_differ_l1 p0 p1 s) (compare_differ_l1 p0 p1 s) := by
 unfold K_compare_differ_l1 compare_differ_l1
 with_reducible repeat' (first | exact Le.rfl _ | refine Le.loop _ ?_ | refine Le.bind ?_ ?_ | refine Le.ite ?_ ?_ | refine Le.sum ?_ ?_ | refine Le.prod ?_ | intro _ | exact Empty.elim (by assumption) | dsimp only)
theorem m_F_compare_differ (p0 : (List Bool)) (p1 : (List Bool)) : Le (K_compare_differ p0 p1) (F_compare_differ p0 p1) := by
 unfold K_compare_differ F_compare_differ
 with_reducible repeat' (first | exact m_compare_differ_l1 _ _ | exact Le.rfl _ | refine Le.loop _ ?_ | refine Le.bind ?_ ?_ | refine Le.ite ?_ ?_ | refine Le.sum ?_ ?_ | refine Le.prod ?_ | intro _ | exact Empty.elim (by assumption) | dsimp only)
theorem m_F_compare_Cells (p0 : api_Grid) (p1 : api_Grid) : Le (K_compare_Cells p0 p1) (F_compare_Cells p0 p1) := by
 unfold K_compare_Cells F_compare_Cells
 with_reducible repeat' (first | exact m_F_grid_Check _ | exact m_F_compare_differ _ _ | exact Le.rfl _ | refine Le.loop _ ?_ | refine Le.bind ?_ ?_ | refine Le.ite ?_ ?_ | refine Le.sum ?_ ?_ | refine Le.prod ?_ | intro _ | exact Empty.elim (by assumption) | dsimp only)
theorem m_F_compare_ways (p0 : api_Grid) (p1 : Int) : Le (K_compare_ways p0 p1) (F_compare_ways p0 p1) := by
 unfold K_compare_ways F_compare_ways
 with_reducible repeat' (first | exact Le.rfl _ | refine Le.loop _ ?_ | refine Le.bind ?_ ?_ | refine Le.ite ?_ ?_ | refine Le.sum ?_ ?_ | refine Le.prod ?_ | intro _ | exact Empty.elim (by assumption) | dsimp only)
theorem m_symmetry_check_l1 (p0 : (List api_Grid)) : ∀ s, Le (K_symmetry_check_l1 p0 s) (symmetry_check_l1 p0 s) := by
 unfold K_symmetry_check_l1 symmetry_check_l1
 with_reducible repeat' (first | exact m_F_grid_Check _ | exact Le.rfl _ | refine Le.loop _ ?_ | refine Le.bind ?_ ?_ | refine Le.ite ?_ ?_ | refine Le.sum ?_ ?_ | refine Le.prod ?_ | intro _ | exact Empty.elim (by assumption) | dsimp only)
theorem m_symmetry_check_l2 (p0 : (List api_Grid)) : ∀ s, Le (K_symmetry_check_l2 p0 s) (symmetry_check_l2 p0 s) := by
 unfold K_symmetry_check_l2 symmetry_check_l2
 with_reducible repeat' (first | exact Le.rfl _ | refine Le.loop _ ?_ | refine Le.bind ?_ ?_ | refine Le.ite ?_ ?_ | refine Le.sum ?_ ?_ | refine Le.prod ?_ | intro _ | exact Empty.elim (by assumption) | dsimp only)
theorem m_F_symmetry_check (p0 : (List api_Grid)) : Le (K_symmetry_check p0) (F_symmetry_check p0) := by
 unfold K_symmetry_check F_symmetry_check
 with_reducible repeat' (first | exact m_symmetry_check_l1 _ | exact m_symmetry_check_l2 _ | exact Le.rfl _ | refine Le.loop _ ?_ | refine Le.bind ?_ ?_ | refine Le.ite ?_ ?_ | refine Le.sum ?_ ?_ | refine Le.prod ?_ | intro _ | exact Empty.elim (by assumption) | dsimp only)
theorem m_F_symmetry_is (p0 : Int) : Le (K_symmetry_is p0) (F_symmetry_is p0) := by
 unfold K_symmetry_is F_symmetry_is
 with_reducible repeat' (first | exact Le.rfl _ | refine Le.loop _ ?_ | refine Le.bind ?_ ?_ | refine Le.ite ?_ ?_ | refine Le.sum ?_ ?_ | refine Le.prod ?_ | intro _ | exact Empty.elim (by assumption) | dsimp only)
theorem m_symmetry_applied_l1 (o9 : Int) (p1 : Int) (s23 : Int) (p0 : api_Grid) : ∀ s, Le (K_symmetry_applied_l1 o9 p1 s23 p0 s) (symmetry_applied_l1 o9 p1 s23 p0 s) := by
 unfold K_symmetry_applied_l1 symmetry_applied_l1
 with_reducible repeat' (first | exact Le.rfl _ | refine Le.loop _ ?_ | refine Le.bind ?_ ?_ | refine Le.ite ?_ ?_ | refine Le.sum ?_ ?_ | refine Le.prod ?_ | intro _ | exact Empty.elim (by assumption) | dsimp only)
theorem m_symmetry_applied_l2 (o10 : Int) (o9 : Int) (p1 : Int) (p0 : api_Grid) : ∀ s, Le (K_symmetry_applied_l2 o10 o9 p1 p0 s) (symmetry_applied_l2 o10 o9 p1 p0 s) := by
 unfold K_symmetry_applied_l2 symmetry_applied_l2
 with_reducible repeat' (first | exact m_symmetry_applied_l1 _ _ _ _ | exact Le.rfl _ | refine Le.loop _ ?_ | refine Le.bind ?_ ?_ | refine Le.ite ?_ ?_ | refine Le.sum ?_ ?_ | refine Le.prod ?_ | intro _ | exact Empty.elim (by assumption) | dsimp only)
theorem m_F_symmetry_applied (p0 : api_Grid) (p1 : Int) : Le (K_symmetry_applied p0 p1) (F_symmetry_applied p0 p1) := by
 unfold K_symmetry_applied F_symmetry_applied
 with_reducible repeat' (first | exact m_symmetry_applied_l2 _ _ _ _ | exact Le.rfl _ | refine Le.loop _ ?_ | refine Le.bind ?_ ?_ | refine Le.ite ?_ ?_ | refine Le.sum ?_ ?_ | refine Le.prod ?_ | intro _ | exact Empty.elim (by assumption) | dsimp only)
theorem m_F_symmetry_Apply (p0 : api_Grid) (p1 : Int) : Le (K_symmetry_Apply p0 p1) (F_symmetry_Apply p0 p1) := by
 unfold K_symmetry_Apply F_symmetry_Apply
 with_reducible repeat' (first | exact m_F_symmetry_check _ | exact m_F_symmetry_is _ | exact m_F_symmetry_applied _ _ | exact Le.rfl _ | refine Le.loop _ ?_ | refine Le.bind ?_ ?_ | refine Le.ite ?_ ?_ | refine Le.sum ?_ ?_ | refine Le.prod ?_ | intro _ | exact Empty.elim (by assumption) | dsimp only)
theorem m_F_grid_around (p0 : Int) (p1 : Int) : Le (K_grid_around p0 p1) (F_grid_around p0 p1) := by
 unfold K_grid_around F_grid_around
 with_reducible repeat' (first | exact Le.rfl _ | refine Le.loop _ ?_ | refine Le.bind ?_ ?_ | refine Le.ite ?_ ?_ | refine Le.sum ?_ ?_ | refine Le.prod ?_ | intro _ | exact Empty.elim (by assumption) | dsimp only)
theorem m_F_grid_Shift_1_s0 (p0 : Int) (p1 : Int) (p2 : api_Grid) (p3 : Int) (p4 : Int) : Le (K_grid_Shift_1_s0 p0 p1 p2 p3 p4) (F_grid_Shift_1_s0 p0 p1 p2 p3 p4) := by
 unfold K_grid_Shift_1_s0 F_grid_Shift_1_s0
 with_reducible repeat' (first | exact m_F_grid_around _ _ | exact Le.rfl _ | refine Le.loop _ ?_ | refine Le.bind ?_ ?_ | refine Le.ite ?_ ?_ | refine Le.sum ?_ ?_ | refine Le.prod ?_ | intro _ | exact Empty.elim (by assumption) | dsimp only)
theorem m_grid_build_s0_l1 (p0 : Int) (s15 : Int) (p2 : api_Grid) (p3 : Int) (p4 : Int) : ∀ s, Le (K_grid_build_s0_l1 p0 s15 p2 p3 p4 s) (grid_build_s0_l1 p0 s15 p2 p3 p4 s) := by
 unfold K_grid_build_s0_l1 grid_build_s0_l1
 with_reducible repeat' (first | exact m_F_grid_Shift_1_s0 _ _ _ _ _ | exact Le.rfl _ | refine Le.loop _ ?_ | refine Le.bind ?_ ?_ | refine Le.ite ?_ ?_ | refine Le.sum ?_ ?_ | refine Le.prod ?_ | intro _ | exact Empty.elim (by assumption) | dsimp only)
theorem m_grid_build_s0_l2 (p1 : Int) (p0 : Int) (p2 : api_Grid) (p3 : Int) (p4 : Int) : ∀ s, Le (K_grid_build_s0_l2 p1 p0 p2 p3 p4 s) (grid_build_s0_l2 p1 p0 p2 p3 p4 s) := by
 unfold K_grid_build_s0_l2 grid_build_s0_l2
 with_reducible repeat' (first | exact m_grid_build_s0_l1 _ _ _ _ _ | exact Le.rfl _ | refine Le.loop _ ?_ | refine Le.bind ?_ ?_ | refine Le.ite ?_ ?_ | refine Le.sum ?_ ?_ | refine Le.prod ?_ | intro _ | exact Empty.elim (by assumption) | dsimp only)
theorem m_F_grid_build_s0 (p0 : Int) (p1 : Int) (p2 : api_Grid) (p3 : Int) (p4 : Int) : Le (K_grid_build_s0 p0 p1 p2 p3 p4) (F_grid_build_s0 p0 p1 p2 p3 p4) := by
 unfold K_grid_build_s0 F_grid_build_s0
 with_reducible repeat' (first | exact m_grid_build_s0_l2 _ _ _ _ _ | exact Le.rfl _ | refine Le.loop _ ?_ | refine Le.bind ?_ ?_ | refine Le.ite ?_ ?_ | refine Le.sum ?_ ?_ | refine Le.prod ?_ | intro _ | exact Empty.elim (by assumption) | dsimp only)
theorem m_F_grid_Shift (p0 : api_Grid) (p1 : Int) (p2 : Int) : Le (K_grid_Shift p0 p1 p2) (F_grid_Shift p0 p1 p2) := by
 unfold K_grid_Shift F_grid_Shift
 with_reducible repeat' (first | exact m_F_grid_Check _ | exact m_F_grid_around _ _ | exact m_F_grid_build_s0 _ _ _ _ _ | exact Le.rfl _ | refine Le.loop _ ?_ | refine Le.bind ?_ ?_ | refine Le.ite ?_ ?_ | refine Le.sum ?_ ?_ | refine Le.prod ?_ | intro _ | exact Empty.elim (by assumption) | dsimp only)
theorem m_compare_ways_1_l1 {σ τ : Type} (p1 : api_Grid) (r24 : (api_Grid × Int)) (s36 : Int) (B B' : σ → (compare_way × api_Grid) → Option (σ ⊕ τ)) (hB : ∀ s x, Le (B s x) (B' s x)) (s6 : Int) : ∀ s, Le (K_compare_ways_1_l1 p1 r24 s36 B s6 s) (compare_ways_1_l1 p1 r24 s36 B' s6 s) := by
 unfold K_compare_ways_1_l1 compare_ways_1_l1
 with_reducible repeat' (first | exact hB _ _ | exact m_F_grid_Shift _ _ _ | exact Le.rfl _ | refine Le.loop _ ?_ | refine Le.bind ?_ ?_ | refine Le.ite ?_ ?_ | refine Le.sum ?_ ?_ | refine Le.prod ?_ | intro _ | exact Empty.elim (by assumption) | dsimp only)
theorem m_compare_ways_1_l2 {σ τ : Type} (p1 : api_Grid) (r24 : (api_Grid × Int)) (B B' : σ → (compare_way × api_Grid) → Option (σ ⊕ τ)) (hB : ∀ s x, Le (B s x) (B' s x)) (s6 : Int) : ∀ s, Le (K_compare_ways_1_l2 p1 r24 B s6 s) (compare_ways_1_l2 p1 r24 B' s6 s) := by
 unfold K_compare_ways_1_l2 compare_ways_1_l2
 with_reducible repeat' (first | exact hB _ _ | exact m_compare_ways_1_l1 _ _ _ _ _ hB _ | exact Le.rfl _ | refine Le.loop _ ?_ | refine Le.bind ?_ ?_ | refine Le.ite ?_ ?_ | refine Le.sum ?_ ?_ | refine Le.prod ?_ | intro _ | exact Empty.elim (by assumption) | dsimp only)
theorem m_compare_ways_1_l3 {σ τ : Type} (x3 : Int) (p1 : api_Grid) (B B' : σ → (compare_way × api_Grid) → Option (σ ⊕ τ)) (hB : ∀ s x, Le (B s x) (B' s x)) : ∀ s, Le (K_compare_ways_1_l3 x3 p1 B s) (compare_ways_1_l3 x3 p1 B' s) := by
 unfold K_compare_ways_1_l3 compare_ways_1_l3
 with_reducible repeat' (first | exact hB _ _ | exact m_F_symmetry_Apply _ _ | exact m_compare_ways_1_l2 _ _ _ _ hB _ | exact Le.rfl _ | refine Le.loop _ ?_ | refine Le.bind ?_ ?_ | refine Le.ite ?_ ?_ | refine Le.sum ?_ ?_ | refine Le.prod ?_ | intro _ | exact Empty.elim (by assumption) | dsimp only)
theorem m_I_compare_ways_1 (p0 : Int) (p1 : api_Grid) (σ τ : Type) (B B' : σ → (compare_way × api_Grid) → Option (σ ⊕ τ)) (hB : ∀ s x, Le (B s x) (B' s x)) (gz0 : σ) : Le (K_I_compare_ways_1 p0 p1 σ τ B gz0) (I_compare_ways_1 p0 p1 σ τ B' gz0) := by
 unfold K_I_compare_ways_1 I_compare_ways_1
 with_reducible repeat' (first | exact hB _ _ | exact m_compare_ways_1_l3 _ _ _ _ hB | exact Le.rfl _ | refine Le.loop _ ?_ | refine Le.bind ?_ ?_ | refine Le.ite ?_ ?_ | refine Le.sum ?_ ?_ | refine Le.prod ?_ | intro _ | exact Empty.elim (by assumption) | dsimp only)
theorem m_compare_Nearest_l2 (p1 : api_Grid) : ∀ s x, Le (K_compare_Nearest_l2 p1 s x) (compare_Nearest_l2 p1 s x) := by
 unfold K_compare_Nearest_l2 compare_Nearest_l2
 with_reducible repeat' (first | exact m_F_compare_differ _ _ | exact Le.rfl _ | refine Le.loop _ ?_ | refine Le.bind ?_ ?_ | refine Le.ite ?_ ?_ | refine Le.sum ?_ ?_ | refine Le.prod ?_ | intro _ | exact Empty.elim (by assumption) | dsimp only)
theorem m_F_compare_Nearest (p0 : api_Grid) (p1 : api_Grid) (p2 : Int) : Le (K_compare_Nearest p0 p1 p2) (F_compare_Nearest p0 p1 p2) := by
 unfold K_compare_Nearest F_compare_Nearest
 with_reducible repeat' (first | exact m_F_grid_Check _ | exact m_F_compare_ways _ _ | refine m_I_compare_ways_1 _ _ _ _ _ _ ?_ _ | exact m_compare_Nearest_l2 _ | exact Le.rfl _ | refine Le.loop _ ?_ | refine Le.bind ?_ ?_ | refine Le.ite ?_ ?_ | refine Le.sum ?_ ?_ | refine Le.prod ?_ | intro _ | exact Empty.elim (by assumption) | dsimp only)
theorem m_raddleref25_Cut_l1 (p0 : ByteArray) (p1 : Int) : ∀ s, Le (K_raddleref25_Cut_l1 p0 p1 s) (raddleref25_Cut_l1 p0 p1 s) := by
 unfold K_raddleref25_Cut_l1 raddleref25_Cut_l1
 with_reducible repeat' (first | exact Le.rfl _ | refine Le.loop _ ?_ | refine Le.bind ?_ ?_ | refine Le.ite ?_ ?_ | refine Le.sum ?_ ?_ | refine Le.prod ?_ | intro _ | exact Empty.elim (by assumption) | dsimp only)
theorem m_F_raddleref25_Cut (p0 : ByteArray) (p1 : Int) : Le (K_raddleref25_Cut p0 p1) (F_raddleref25_Cut p0 p1) := by
 unfold K_raddleref25_Cut F_raddleref25_Cut
 with_reducible repeat' (first | exact m_raddleref25_Cut_l1 _ _ | exact Le.rfl _ | refine Le.loop _ ?_ | refine Le.bind ?_ ?_ | refine Le.ite ?_ ?_ | refine Le.sum ?_ ?_ | refine Le.prod ?_ | intro _ | exact Empty.elim (by assumption) | dsimp only)
theorem m_raddleref25_Number_l1 (p0 : ByteArray) : ∀ s, Le (K_raddleref25_Number_l1 p0 s) (raddleref25_Number_l1 p0 s) := by
 unfold K_raddleref25_Number_l1 raddleref25_Number_l1
 with_reducible repeat' (first | exact Le.rfl _ | refine Le.loop _ ?_ | refine Le.bind ?_ ?_ | refine Le.ite ?_ ?_ | refine Le.sum ?_ ?_ | refine Le.prod ?_ | intro _ | exact Empty.elim (by assumption) | dsimp only)
theorem m_F_raddleref25_Number (p0 : ByteArray) : Le (K_raddleref25_Number p0) (F_raddleref25_Number p0) := by
 unfold K_raddleref25_Number F_raddleref25_Number
 with_reducible repeat' (first | exact m_raddleref25_Number_l1 _ | exact Le.rfl _ | refine Le.loop _ ?_ | refine Le.bind ?_ ?_ | refine Le.ite ?_ ?_ | refine Le.sum ?_ ?_ | refine Le.prod ?_ | intro _ | exact Empty.elim (by assumption) | dsimp only)
theorem m_raddleref25_word_l1 (r49 : (Int × Bool)) (x35 : Int) : ∀ s, Le (K_raddleref25_word_l1 r49 x35 s) (raddleref25_word_l1 r49 x35 s) := by
 unfold K_raddleref25_word_l1 raddleref25_word_l1
 with_reducible repeat' (first | exact Le.rfl _ | refine Le.loop _ ?_ | refine Le.bind ?_ ?_ | refine Le.ite ?_ ?_ | refine Le.sum ?_ ?_ | refine Le.prod ?_ | intro _ | exact Empty.elim (by assumption) | dsimp only)
theorem m_raddleref25_kind_l1 (p0 : Int) : ∀ s, Le (K_raddleref25_kind_l1 p0 s) (raddleref25_kind_l1 p0 s) := by
 unfold K_raddleref25_kind_l1 raddleref25_kind_l1
 with_reducible repeat' (first | exact Le.rfl _ | refine Le.loop _ ?_ | refine Le.bind ?_ ?_ | refine Le.ite ?_ ?_ | refine Le.sum ?_ ?_ | refine Le.prod ?_ | intro _ | exact Empty.elim (by assumption) | dsimp only)
theorem m_F_raddleref25_kind (p0 : Int) : Le (K_raddleref25_kind p0) (F_raddleref25_kind p0) := by
 unfold K_raddleref25_kind F_raddleref25_kind
 with_reducible repeat' (first | exact m_raddleref25_kind_l1 _ | exact Le.rfl _ | refine Le.loop _ ?_ | refine Le.bind ?_ ?_ | refine Le.ite ?_ ?_ | refine Le.sum ?_ ?_ | refine Le.prod ?_ | intro _ | exact Empty.elim (by assumption) | dsimp only)
theorem m_F_raddleref25_word (p0 : ByteArray) : Le (K_raddleref25_word p0) (F_raddleref25_word p0) := by
 unfold K_raddleref25_word F_raddleref25_word
 with_reducible repeat' (first | exact m_F_raddleref25_Number _ | exact m_raddleref25_word_l1 _ _ | exact m_F_raddleref25_kind _ | exact m_F_raddleref25_Cut _ _ | exact Le.rfl _ | refine Le.loop _ ?_ | refine Le.bind ?_ ?_ | refine Le.ite ?_ ?_ | refine Le.sum ?_ ?_ | refine Le.prod ?_ | intro _ | exact Empty.elim (by assumption) | dsimp only)
theorem m_raddleref25_Parse_l1 (r11 : (List ByteArray)) : ∀ s, Le (K_raddleref25_Parse_l1 r11 s) (raddleref25_Parse_l1 r11 s) := by
 unfold K_raddleref25_Parse_l1 raddleref25_Parse_l1
 with_reducible repeat' (first | exact m_F_raddleref25_word _ | exact Le.rfl _ | refine Le.loop _ ?_ | refine Le.bind ?_ ?_ | refine Le.ite ?_ ?_ | refine Le.sum ?_ ?_ | refine Le.prod ?_ | intro _ | exact Empty.elim (by assumption) | dsimp only)
theorem m_F_raddleref25_Check (p0 : api_Stitch) : Le (K_raddleref25_Check p0) (F_raddleref25_Check p0) := by
 unfold K_raddleref25_Check F_raddleref25_Check
 with_reducible repeat' (first | exact Le.rfl _ | refine Le.loop _ ?_ | refine Le.bind ?_ ?_ | refine Le.ite ?_ ?_ | refine Le.sum ?_ ?_ | refine Le.prod ?_ | intro _ | exact Empty.elim (by assumption) | dsimp only)
theorem m_raddleref25_All_l1 (p0 : (List api_Stitch)) : ∀ s, Le (K_raddleref25_All_l1 p0 s) (raddleref25_All_l1 p0 s) := by
 unfold K_raddleref25_All_l1 raddleref25_All_l1
 with_reducible repeat' (first | exact m_F_raddleref25_Check _ | exact Le.rfl _ | refine Le.loop _ ?_ | refine Le.bind ?_ ?_ | refine Le.ite ?_ ?_ | refine Le.sum ?_ ?_ | refine Le.prod ?_ | intro _ | exact Empty.elim (by assumption) | dsimp only)
theorem m_F_raddleref25_Used (p0 : api_Stitch) : Le (K_raddleref25_Used p0) (F_raddleref25_Used p0) := by
 unfold K_raddleref25_Used F_raddleref25_Used
 with_reducible repeat' (first | exact Le.rfl _ | refine Le.loop _ ?_ | refine Le.bind ?_ ?_ | refine Le.ite ?_ ?_ | refine Le.sum ?_ ?_ | refine Le.prod ?_ | intro _ | exact Empty.elim (by assumption) | dsimp only)
theorem m_F_raddleref25_Gives (p0 : api_Stitch) : Le (K_raddleref25_Gives p0) (F_raddleref25_Gives p0) := by
 unfold K_raddleref25_Gives F_raddleref25_Gives
 with_reducible repeat' (first | exact Le.rfl _ | refine Le.loop _ ?_ | refine Le.bind ?_ ?_ | refine Le.ite ?_ ?_ | refine Le.sum ?_ ?_ | refine Le.prod ?_ | intro _ | exact Empty.elim (by assumption) | dsimp only)
theorem m_raddleref25_sums_l1 (p0 : (List api_Stitch)) : ∀ s, Le (K_raddleref25_sums_l1 p0 s) (raddleref25_sums_l1 p0 s) := by
 unfold K_raddleref25_sums_l1 raddleref25_sums_l1
 with_reducible repeat' (first | exact m_F_raddleref25_Used _ | exact m_F_raddleref25_Gives _ | exact Le.rfl _ | refine Le.loop _ ?_ | refine Le.bind ?_ ?_ | refine Le.ite ?_ ?_ | refine Le.sum ?_ ?_ | refine Le.prod ?_ | intro _ | exact Empty.elim (by assumption) | dsimp only)
theorem m_F_raddleref25_sums (p0 : (List api_Stitch)) : Le (K_raddleref25_sums p0) (F_raddleref25_sums p0) := by
 unfold K_raddleref25_sums F_raddleref25_sums
 with_reducible repeat' (first | exact m_raddleref25_sums_l1 _ | exact Le.rfl _ | refine Le.loop _ ?_ | refine Le.bind ?_ ?_ | refine Le.ite ?_ ?_ | refine Le.sum ?_ ?_ | refine Le.prod ?_ | intro _ | exact Empty.elim (by assumption) | dsimp only)
theorem m_F_raddleref25_All (p0 : (List api_Stitch)) : Le (K_raddleref25_All p0) (F_raddleref25_All p0) := by
 unfold K_raddleref25_All F_raddleref25_All
 with_reducible repeat' (first | exact m_raddleref25_All_l1 _ | exact m_F_raddleref25_sums _ | exact Le.rfl _ | refine Le.loop _ ?_ | refine Le.bind ?_ ?_ | refine Le.ite ?_ ?_ | refine Le.sum ?_ ?_ | refine Le.prod ?_ | intro _ | exact Empty.elim (by assumption) | dsimp only)
theorem m_raddleref25_Decimal_l1  : ∀ s, Le (K_raddleref25_Decimal_l1 s) (raddleref25_Decimal_l1 s) := by
 unfold K_raddleref25_Decimal_l1 raddleref25_Decimal_l1
 with_reducible repeat' (first | exact Le.rfl _ | refine Le.loop _ ?_ | refine Le.bind ?_ ?_ | refine Le.ite ?_ ?_ | refine Le.sum ?_ ?_ | refine Le.prod ?_ | intro _ | exact Empty.elim (by assumption) | dsimp only)
theorem m_F_raddleref25_Decimal (p0 : Int) : Le (K_raddleref25_Decimal p0) (F_raddleref25_Decimal p0) := by
 unfold K_raddleref25_Decimal F_raddleref25_Decimal
 with_reducible repeat' (first | exact m_raddleref25_Decimal_l1 | exact Le.rfl _ | refine Le.loop _ ?_ | refine Le.bind ?_ ?_ | refine Le.ite ?_ ?_ | refine Le.sum ?_ ?_ | refine Le.prod ?_ | intro _ | exact Empty.elim (by assumption) | dsimp only)
theorem m_F_raddleref25_one (p0 : api_Stitch) : Le (K_raddleref25_one p0) (F_raddleref25_one p0) := by
 unfold K_raddleref25_one F_raddleref25_one
 with_reducible repeat' (first | exact m_F_raddleref25_Decimal _ | exact Le.rfl _ | refine Le.loop _ ?_ | refine Le.bind ?_ ?_ | refine Le.ite ?_ ?_ | refine Le.sum ?_ ?_ | refine Le.prod ?_ | intro _ | exact Empty.elim (by assumption) | dsimp only)
theorem m_raddleref25_Written_l1 (p0 : (List api_Stitch)) : ∀ s, Le (K_raddleref25_Written_l1 p0 s) (raddleref25_Written_l1 p0 s) := by
 unfold K_raddleref25_Written_l1 raddleref25_Written_l1
 with_reducible repeat' (first | exact Le.rfl _ | refine Le.loop _ ?_ | refine Le.bind ?_ ?_ | refine Le.ite ?_ ?_ | refine Le.sum ?_ ?_ | refine Le.prod ?_ | intro _ | exact Empty.elim (by assumption) | dsimp only)
theorem m_raddleref25_Written_l2 (p0 : (List api_Stitch)) : ∀ s, Le (K_raddleref25_Written_l2 p0 s) (raddleref25_Written_l2 p0 s) := by
 unfold K_raddleref25_Written_l2 raddleref25_Written_l2
 with_reducible repeat' (first | exact m_F_raddleref25_one _ | exact m_raddleref25_Written_l1 _ | exact m_F_raddleref25_Decimal _ | exact Le.rfl _ | refine Le.loop _ ?_ | refine Le.bind ?_ ?_ | refine Le.ite ?_ ?_ | refine Le.sum ?_ ?_ | refine Le.prod ?_ | intro _ | exact Empty.elim (by assumption) | dsimp only)
theorem m_F_raddleref25_Written (p0 : (List api_Stitch)) : Le (K_raddleref25_Written p0) (F_raddleref25_Written p0) := by
 unfold K_raddleref25_Written F_raddleref25_Written
 with_reducible repeat' (first | exact m_raddleref25_Written_l2 _ | exact Le.rfl _ | refine Le.loop _ ?_ | refine Le.bind ?_ ?_ | refine Le.ite ?_ ?_ | refine Le.sum ?_ ?_ | refine Le.prod ?_ | intro _ | exact Empty.elim (by assumption) | dsimp only)
theorem m_F_raddleref25_Parse (p0 : ByteArray) : Le (K_raddleref25_Parse p0) (F_raddleref25_Parse p0) := by
 unfold K_raddleref25_Parse F_raddleref25_Parse
 with_reducible repeat' (first | exact m_F_raddleref25_Cut _ _ | exact m_raddleref25_Parse_l1 _ | exact m_F_raddleref25_All _ | exact m_F_raddleref25_Written _ | exact Le.rfl _ | refine Le.loop _ ?_ | refine Le.bind ?_ ?_ | refine Le.ite ?_ ?_ | refine Le.sum ?_ ?_ | refine Le.prod ?_ | intro _ | exact Empty.elim (by assumption) | dsimp only)
theorem m_F_raddlelaw46_cells (p0 : ByteArray) : Le (K_raddlelaw46_cells p0) (F_raddlelaw46_cells p0) := by
 unfold K_raddlelaw46_cells F_raddlelaw46_cells
 with_reducible repeat' (first | exact m_F_raddleref25_Parse _ | exact Le.rfl _ | refine Le.loop _ ?_ | refine Le.bind ?_ ?_ | refine Le.ite ?_ ?_ | refine Le.sum ?_ ?_ | refine Le.prod ?_ | intro _ | exact Empty.elim (by assumption) | dsimp only)
theorem m_F_stitch_forms (p0 : Int) : Le (K_stitch_forms p0) (F_stitch_forms p0) := by
 unfold K_stitch_forms F_stitch_forms
 with_reducible repeat' (first | exact Le.rfl _ | refine Le.loop _ ?_ | refine Le.bind ?_ ?_ | refine Le.ite ?_ ?_ | refine Le.sum ?_ ?_ | refine Le.prod ?_ | intro _ | exact Empty.elim (by assumption) | dsimp only)
theorem m_F_stitch_within (p0 : Int) (p1 : (Int × Int)) : Le (K_stitch_within p0 p1) (F_stitch_within p0 p1) := by
 unfold K_stitch_within F_stitch_within
 with_reducible repeat' (first | exact Le.rfl _ | refine Le.loop _ ?_ | refine Le.bind ?_ ?_ | refine Le.ite ?_ ?_ | refine Le.sum ?_ ?_ | refine Le.prod ?_ | intro _ | exact Empty.elim (by assumption) | dsimp only)
theorem m_F_stitch_Check (p0 : api_Stitch) : Le (K_stitch_Check p0) (F_stitch_Check p0) := by
 unfold K_stitch_Check F_stitch_Check
 with_reducible repeat' (first | exact m_F_stitch_forms _ | exact m_F_stitch_within _ _ | exact Le.rfl _ | refine Le.loop _ ?_ | refine Le.bind ?_ ?_ | refine Le.ite ?_ ?_ | refine Le.sum ?_ ?_ | refine Le.prod ?_ | intro _ | exact Empty.elim (by assumption) | dsimp only)
theorem m_F_stitch_All_1 (p0 : api_Stitch) : Le (K_stitch_All_1 p0) (F_stitch_All_1 p0) := by
 unfold K_stitch_All_1 F_stitch_All_1
 with_reducible repeat' (first | exact m_F_stitch_Check _ | exact Le.rfl _ | refine Le.loop _ ?_ | refine Le.bind ?_ ?_ | refine Le.ite ?_ ?_ | refine Le.sum ?_ ?_ | refine Le.prod ?_ | intro _ | exact Empty.elim (by assumption) | dsimp only)
theorem m_slices_IndexFunc___api_Stitch_api_Stitch__s0_l1 (p0 : (List api_Stitch)) : ∀ s, Le (K_slices_IndexFunc___api_Stitch_api_Stitch__s0_l1 p0 s) (slices_IndexFunc___api_Stitch_api_Stitch__s0_l1 p0 s) := by
 unfold K_slices_IndexFunc___api_Stitch_api_Stitch__s0_l1 slices_IndexFunc___api_Stitch_api_Stitch__s0_l1
 with_reducible repeat' (first | exact m_F_stitch_All_1 _ | exact Le.rfl _ | refine Le.loop _ ?_ | refine Le.bind ?_ ?_ | refine Le.ite ?_ ?_ | refine Le.sum ?_ ?_ | refine Le.prod ?_ | intro _ | exact Empty.elim (by assumption) | dsimp only)
theorem m_F_slices_IndexFunc___api_Stitch_api_Stitch__s0 (p0 : (List api_Stitch)) : Le (K_slices_IndexFunc___api_Stitch_api_Stitch__s0 p0) (F_slices_IndexFunc___api_Stitch_api_Stitch__s0 p0) := by
 unfold K_slices_IndexFunc___api_Stitch_api_Stitch__s0 F_slices_IndexFunc___api_Stitch_api_Stitch__s0
 with_reducible repeat' (first | exact m_slices_IndexFunc___api_Stitch_api_Stitch__s0_l1 _ | exact Le.rfl _ | refine Le.loop _ ?_ | refine Le.bind ?_ ?_ | refine Le.ite ?_ ?_ | refine Le.sum ?_ ?_ | refine Le.prod ?_ | intro _ | exact Empty.elim (by assumption) | dsimp only)
theorem m_F_slices_ContainsFunc___api_Stitch_api_Stitch__s0 (p0 : (List api_Stitch)) : Le (K_slices_ContainsFunc___api_Stitch_api_Stitch__s0 p0) (F_slices_ContainsFunc___api_Stitch_api_Stitch__s0 p0) := by
 unfold K_slices_ContainsFunc___api_Stitch_api_Stitch__s0 F_slices_ContainsFunc___api_Stitch_api_Stitch__s0
 with_reducible repeat' (first | exact m_F_slices_IndexFunc___api_Stitch_api_Stitch__s0 _ | exact Le.rfl _ | refine Le.loop _ ?_ | refine Le.bind ?_ ?_ | refine Le.ite ?_ ?_ | refine Le.sum ?_ ?_ | refine Le.prod ?_ | intro _ | exact Empty.elim (by assumption) | dsimp only)
theorem m_F_stitch_loops (p0 : api_Stitch) (p1 : Int) : Le (K_stitch_loops p0 p1) (F_stitch_loops p0 p1) := by
 unfold K_stitch_loops F_stitch_loops
 with_reducible repeat' (first | exact Le.rfl _ | refine Le.loop _ ?_ | refine Le.bind ?_ ?_ | refine Le.ite ?_ ?_ | refine Le.sum ?_ ?_ | refine Le.prod ?_ | intro _ | exact Empty.elim (by assumption) | dsimp only)
theorem m_stitch_sum_l1 (p0 : (List api_Stitch)) : ∀ s, Le (K_stitch_sum_l1 p0 s) (stitch_sum_l1 p0 s) := by
 unfold K_stitch_sum_l1 stitch_sum_l1
 with_reducible repeat' (first | exact m_F_stitch_forms _ | exact m_F_stitch_loops _ _ | exact Le.rfl _ | refine Le.loop _ ?_ | refine Le.bind ?_ ?_ | refine Le.ite ?_ ?_ | refine Le.sum ?_ ?_ | refine Le.prod ?_ | intro _ | exact Empty.elim (by assumption) | dsimp only)
theorem m_F_stitch_sum (p0 : (List api_Stitch)) : Le (K_stitch_sum p0) (F_stitch_sum p0) := by
 unfold K_stitch_sum F_stitch_sum
 with_reducible repeat' (first | exact m_stitch_sum_l1 _ | exact Le.rfl _ | refine Le.loop _ ?_ | refine Le.bind ?_ ?_ | refine Le.ite ?_ ?_ | refine Le.sum ?_ ?_ | refine Le.prod ?_ | intro _ | exact Empty.elim (by assumption) | dsimp only)
theorem m_F_stitch_All (p0 : (List api_Stitch)) : Le (K_stitch_All p0) (F_stitch_All p0) := by
 unfold K_stitch_All F_stitch_All
 with_reducible repeat' (first | exact m_F_slices_ContainsFunc___api_Stitch_api_Stitch__s0 _ | exact m_F_stitch_sum _ | exact Le.rfl _ | refine Le.loop _ ?_ | refine Le.bind ?_ ?_ | refine Le.ite ?_ ?_ | refine Le.sum ?_ ?_ | refine Le.prod ?_ | intro _ | exact Empty.elim (by assumption) | dsimp only)
theorem m_compare_Edits_l1 (p0 : (List api_Stitch)) (p1 : (List api_Stitch)) : ∀ s, Le (K_compare_Edits_l1 p0 p1 s) (compare_Edits_l1 p0 p1 s) := by
 unfold K_compare_Edits_l1 compare_Edits_l1
 with_reducible repeat' (first | exact m_F_stitch_All _ | exact Le.rfl _ | refine Le.loop _ ?_ | refine Le.bind ?_ ?_ | refine Le.ite ?_ ?_ | refine Le.sum ?_ ?_ | refine Le.prod ?_ | intro _ | exact Empty.elim (by assumption) | dsimp only)
theorem m_F_compare_cellTable_1 (p0 : api_Stitch) : Le (K_compare_cellTable_1 p0) (F_compare_cellTable_1 p0) := by
 unfold K_compare_cellTable_1 F_compare_cellTable_1
 with_reducible repeat' (first | exact Le.rfl _ | refine Le.loop _ ?_ | refine Le.bind ?_ ?_ | refine Le.ite ?_ ?_ | refine Le.sum ?_ ?_ | refine Le.prod ?_ | intro _ | exact Empty.elim (by assumption) | dsimp only)
theorem m_F_compare_cellTable_2 (p0 : api_Stitch) (p1 : api_Stitch) : Le (K_compare_cellTable_2 p0 p1) (F_compare_cellTable_2 p0 p1) := by
 unfold K_compare_cellTable_2 F_compare_cellTable_2
 with_reducible repeat' (first | exact Le.rfl _ | refine Le.loop _ ?_ | refine Le.bind ?_ ?_ | refine Le.ite ?_ ?_ | refine Le.sum ?_ ?_ | refine Le.prod ?_ | intro _ | exact Empty.elim (by assumption) | dsimp only)
theorem m_compare_table_api_Stitch__s0_l1 (s16 : Int) (p0 : (List api_Stitch)) (p1 : (List api_Stitch)) (s15 : List (List Int)) : ∀ s, Le (K_compare_table_api_Stitch__s0_l1 s16 p0 p1 s15 s) (compare_table_api_Stitch__s0_l1 s16 p0 p1 s15 s) := by
 unfold K_compare_table_api_Stitch__s0_l1 compare_table_api_Stitch__s0_l1
 with_reducible repeat' (first | exact m_F_compare_cellTable_1 _ | exact m_F_compare_cellTable_2 _ _ | exact Le.rfl _ | refine Le.loop _ ?_ | refine Le.bind ?_ ?_ | refine Le.ite ?_ ?_ | refine Le.sum ?_ ?_ | refine Le.prod ?_ | intro _ | exact Empty.elim (by assumption) | dsimp only)
theorem m_compare_table_api_Stitch__s0_l2 (p1 : (List api_Stitch)) (p0 : (List api_Stitch)) : ∀ s, Le (K_compare_table_api_Stitch__s0_l2 p1 p0 s) (compare_table_api_Stitch__s0_l2 p1 p0 s) := by
 unfold K_compare_table_api_Stitch__s0_l2 compare_table_api_Stitch__s0_l2
 with_reducible repeat' (first | exact m_compare_table_api_Stitch__s0_l1 _ _ _ _ | exact Le.rfl _ | refine Le.loop _ ?_ | refine Le.bind ?_ ?_ | refine Le.ite ?_ ?_ | refine Le.sum ?_ ?_ | refine Le.prod ?_ | intro _ | exact Empty.elim (by assumption) | dsimp only)
theorem m_F_compare_table_api_Stitch__s0 (p0 : (List api_Stitch)) (p1 : (List api_Stitch)) : Le (K_compare_table_api_Stitch__s0 p0 p1) (F_compare_table_api_Stitch__s0 p0 p1) := by
 unfold K_compare_table_api_Stitch__s0 F_compare_table_api_Stitch__s0
 with_reducible repeat' (first | exact m_compare_table_api_Stitch__s0_l2 _ _ | exact Le.rfl _ | refine Le.loop _ ?_ | refine Le.bind ?_ ?_ | refine Le.ite ?_ ?_ | refine Le.sum ?_ ?_ | refine Le.prod ?_ | intro _ | exact Empty.elim (by assumption) | dsimp only)
theorem m_F_compare_cellTable (p0 : (List api_Stitch)) (p1 : (List api_Stitch)) : Le (K_compare_cellTable p0 p1) (F_compare_cellTable p0 p1) := by
 unfold K_compare_cellTable F_compare_cellTable
 with_reducible repeat' (first | exact m_F_compare_table_api_Stitch__s0 _ _ | exact Le.rfl _ | refine Le.loop _ ?_ | refine Le.bind ?_ ?_ | refine Le.ite ?_ ?_ | refine Le.sum ?_ ?_ | refine Le.prod ?_ | intro _ | exact Empty.elim (by assumption) | dsimp only)
theorem m_compare_Edits_l2 (p0 : (List api_Stitch)) (p1 : (List api_Stitch)) (r30 : (List (List Int))) : ∀ s, Le (K_compare_Edits_l2 p0 p1 r30 s) (compare_Edits_l2 p0 p1 r30 s) := by
 unfold K_compare_Edits_l2 compare_Edits_l2
 with_reducible repeat' (first | exact Le.rfl _ | refine Le.loop _ ?_ | refine Le.bind ?_ ?_ | refine Le.ite ?_ ?_ | refine Le.sum ?_ ?_ | refine Le.prod ?_ | intro _ | exact Empty.elim (by assumption) | dsimp only)
theorem m_F_compare_Edits (p0 : (List api_Stitch)) (p1 : (List api_Stitch)) : Le (K_compare_Edits p0 p1) (F_compare_Edits p0 p1) := by
 unfold K_compare_Edits F_compare_Edits
 with_reducible repeat' (first | exact m_compare_Edits_l1 _ _ | exact m_F_compare_cellTable _ _ | exact m_compare_Edits_l2 _ _ _ | exact Le.rfl _ | refine Le.loop _ ?_ | refine Le.bind ?_ ?_ | refine Le.ite ?_ ?_ | refine Le.sum ?_ ?_ | refine Le.prod ?_ | intro _ | exact Empty.elim (by assumption) | dsimp only)
theorem m_raddleref26_Parse_l1 (r8 : (List ByteArray)) (s54 : Int) : ∀ s, Le (K_raddleref26_Parse_l1 r8 s54 s) (raddleref26_Parse_l1 r8 s54 s) := by
 unfold K_raddleref26_Parse_l1 raddleref26_Parse_l1
 with_reducible repeat' (first | exact Le.rfl _ | refine Le.loop _ ?_ | refine Le.bind ?_ ?_ | refine Le.ite ?_ ?_ | refine Le.sum ?_ ?_ | refine Le.prod ?_ | intro _ | exact Empty.elim (by assumption) | dsimp only)
theorem m_raddleref26_Parse_l2 (r8 : (List ByteArray)) : ∀ s, Le (K_raddleref26_Parse_l2 r8 s) (raddleref26_Parse_l2 r8 s) := by
 unfold K_raddleref26_Parse_l2 raddleref26_Parse_l2
 with_reducible repeat' (first | exact m_raddleref26_Parse_l1 _ _ | exact m_F_raddleref25_Parse _ | exact Le.rfl _ | refine Le.loop _ ?_ | refine Le.bind ?_ ?_ | refine Le.ite ?_ ?_ | refine Le.sum ?_ ?_ | refine Le.prod ?_ | intro _ | exact Empty.elim (by assumption) | dsimp only)
theorem m_F_raddleref25_Uses (p0 : (List api_Stitch)) : Le (K_raddleref25_Uses p0) (F_raddleref25_Uses p0) := by
 unfold K_raddleref25_Uses F_raddleref25_Uses
 with_reducible repeat' (first | exact m_F_raddleref25_All _ | exact m_F_raddleref25_sums _ | exact Le.rfl _ | refine Le.loop _ ?_ | refine Le.bind ?_ ?_ | refine Le.ite ?_ ?_ | refine Le.sum ?_ ?_ | refine Le.prod ?_ | intro _ | exact Empty.elim (by assumption) | dsimp only)
theorem m_F_raddleref25_Makes (p0 : (List api_Stitch)) : Le (K_raddleref25_Makes p0) (F_raddleref25_Makes p0) := by
 unfold K_raddleref25_Makes F_raddleref25_Makes
 with_reducible repeat' (first | exact m_F_raddleref25_All _ | exact m_F_raddleref25_sums _ | exact Le.rfl _ | refine Le.loop _ ?_ | refine Le.bind ?_ ?_ | refine Le.ite ?_ ?_ | refine Le.sum ?_ ?_ | refine Le.prod ?_ | intro _ | exact Empty.elim (by assumption) | dsimp only)
theorem m_raddleref26_Check_l1 (p0 : api_Chart) : ∀ s, Le (K_raddleref26_Check_l1 p0 s) (raddleref26_Check_l1 p0 s) := by
 unfold K_raddleref26_Check_l1 raddleref26_Check_l1
 with_reducible repeat' (first | exact m_F_raddleref25_Uses _ | exact m_F_raddleref25_Makes _ | exact Le.rfl _ | refine Le.loop _ ?_ | refine Le.bind ?_ ?_ | refine Le.ite ?_ ?_ | refine Le.sum ?_ ?_ | refine Le.prod ?_ | intro _ | exact Empty.elim (by assumption) | dsimp only)
theorem m_F_raddleref26_Check (p0 : api_Chart) : Le (K_raddleref26_Check p0) (F_raddleref26_Check p0) := by
 unfold K_raddleref26_Check F_raddleref26_Check
 with_reducible repeat' (first | exact m_raddleref26_Check_l1 _ | exact Le.rfl _ | refine Le.loop _ ?_ | refine Le.bind ?_ ?_ | refine Le.ite ?_ ?_ | refine Le.sum ?_ ?_ | refine Le.prod ?_ | intro _ | exact Empty.elim (by assumption) | dsimp only)
theorem m_F_raddleref26_side (p0 : Bool) : Le (K_raddleref26_side p0) (F_raddleref26_side p0) := by
 unfold K_raddleref26_side F_raddleref26_side
 with_reducible repeat' (first | exact Le.rfl _ | refine Le.loop _ ?_ | refine Le.bind ?_ ?_ | refine Le.ite ?_ ?_ | refine Le.sum ?_ ?_ | refine Le.prod ?_ | intro _ | exact Empty.elim (by assumption) | dsimp only)
theorem m_raddleref26_Written_l1 (p0 : api_Chart) : ∀ s, Le (K_raddleref26_Written_l1 p0 s) (raddleref26_Written_l1 p0 s) := by
 unfold K_raddleref26_Written_l1 raddleref26_Written_l1
 with_reducible repeat' (first | exact m_F_raddleref25_Written _ | exact m_F_raddleref26_side _ | exact Le.rfl _ | refine Le.loop _ ?_ | refine Le.bind ?_ ?_ | refine Le.ite ?_ ?_ | refine Le.sum ?_ ?_ | refine Le.prod ?_ | intro _ | exact Empty.elim (by assumption) | dsimp only)
theorem m_F_raddleref26_Written (p0 : api_Chart) : Le (K_raddleref26_Written p0) (F_raddleref26_Written p0) := by
 unfold K_raddleref26_Written F_raddleref26_Written
 with_reducible repeat' (first | exact m_F_raddleref25_Decimal _ | exact m_raddleref26_Written_l1 _ | exact Le.rfl _ | refine Le.loop _ ?_ | refine Le.bind ?_ ?_ | refine Le.ite ?_ ?_ | refine Le.sum ?_ ?_ | refine Le.prod ?_ | intro _ | exact Empty.elim (by assumption) | dsimp only)
theorem m_F_raddleref26_Parse (p0 : ByteArray) : Le (K_raddleref26_Parse p0) (F_raddleref26_Parse p0) := by
 unfold K_raddleref26_Parse F_raddleref26_Parse
 with_reducible repeat' (first | exact m_F_raddleref25_Cut _ _ | exact m_F_raddleref25_Number _ | exact m_raddleref26_Parse_l2 _ | exact m_F_raddleref26_Check _ | exact m_F_raddleref26_Written _ | exact Le.rfl _ | refine Le.loop _ ?_ | refine Le.bind ?_ ?_ | refine Le.ite ?_ ?_ | refine Le.sum ?_ ?_ | refine Le.prod ?_ | intro _ | exact Empty.elim (by assumption) | dsimp only)
theorem m_F_raddlelaw46_knit (p0 : ByteArray) : Le (K_raddlelaw46_knit p0) (F_raddlelaw46_knit p0) := by
 unfold K_raddlelaw46_knit F_raddlelaw46_knit
 with_reducible repeat' (first | exact m_F_raddleref26_Parse _ | exact Le.rfl _ | refine Le.loop _ ?_ | refine Le.bind ?_ ?_ | refine Le.ite ?_ ?_ | refine Le.sum ?_ ?_ | refine Le.prod ?_ | intro _ | exact Empty.elim (by assumption) | dsimp only)
theorem m_F_chart_counted (p0 : api_Chart) : Le (K_chart_counted p0) (F_chart_counted p0) := by
 unfold K_chart_counted F_chart_counted
 with_reducible repeat' (first | exact Le.rfl _ | refine Le.loop _ ?_ | refine Le.bind ?_ ?_ | refine Le.ite ?_ ?_ | refine Le.sum ?_ ?_ | refine Le.prod ?_ | intro _ | exact Empty.elim (by assumption) | dsimp only)
theorem m_F_stitch_Uses (p0 : (List api_Stitch)) : Le (K_stitch_Uses p0) (F_stitch_Uses p0) := by
 unfold K_stitch_Uses F_stitch_Uses
 with_reducible repeat' (first | exact m_F_stitch_All _ | exact m_F_stitch_sum _ | exact Le.rfl _ | refine Le.loop _ ?_ | refine Le.bind ?_ ?_ | refine Le.ite ?_ ?_ | refine Le.sum ?_ ?_ | refine Le.prod ?_ | intro _ | exact Empty.elim (by assumption) | dsimp only)
theorem m_F_stitch_Makes (p0 : (List api_Stitch)) : Le (K_stitch_Makes p0) (F_stitch_Makes p0) := by
 unfold K_stitch_Makes F_stitch_Makes
 with_reducible repeat' (first | exact m_F_stitch_All _ | exact m_F_stitch_sum _ | exact Le.rfl _ | refine Le.loop _ ?_ | refine Le.bind ?_ ?_ | refine Le.ite ?_ ?_ | refine Le.sum ?_ ?_ | refine Le.prod ?_ | intro _ | exact Empty.elim (by assumption) | dsimp only)
theorem m_chart_counted_1_l1 {σ τ : Type} (p0 : api_Chart) (B B' : σ → (Int × chart_count) → Option (σ ⊕ τ)) (hB : ∀ s x, Le (B s x) (B' s x)) : ∀ s, Le (K_chart_counted_1_l1 p0 B s) (chart_counted_1_l1 p0 B' s) := by
 unfold K_chart_counted_1_l1 chart_counted_1_l1
 with_reducible repeat' (first | exact hB _ _ | exact m_F_stitch_Uses _ | exact m_F_stitch_Makes _ | exact Le.rfl _ | refine Le.loop _ ?_ | refine Le.bind ?_ ?_ | refine Le.ite ?_ ?_ | refine Le.sum ?_ ?_ | refine Le.prod ?_ | intro _ | exact Empty.elim (by assumption) | dsimp only)
theorem m_I_chart_counted_1 (p0 : api_Chart) (σ τ : Type) (B B' : σ → (Int × chart_count) → Option (σ ⊕ τ)) (hB : ∀ s x, Le (B s x) (B' s x)) (gz0 : σ) : Le (K_I_chart_counted_1 p0 σ τ B gz0) (I_chart_counted_1 p0 σ τ B' gz0) := by
 unfold K_I_chart_counted_1 I_chart_counted_1
 with_reducible repeat' (first | exact hB _ _ | exact m_chart_counted_1_l1 _ _ _ hB | exact Le.rfl _ | refine Le.loop _ ?_ | refine Le.bind ?_ ?_ | refine Le.ite ?_ ?_ | refine Le.sum ?_ ?_ | refine Le.prod ?_ | intro _ | exact Empty.elim (by assumption) | dsimp only)
theorem m_chart_Check_l2  : ∀ s x, Le (K_chart_Check_l2 s x) (chart_Check_l2 s x) := by
 unfold K_chart_Check_l2 chart_Check_l2
 with_reducible repeat' (first | exact Le.rfl _ | refine Le.loop _ ?_ | refine Le.bind ?_ ?_ | refine Le.ite ?_ ?_ | refine Le.sum ?_ ?_ | refine Le.prod ?_ | intro _ | exact Empty.elim (by assumption) | dsimp only)
theorem m_F_chart_Check (p0 : api_Chart) : Le (K_chart_Check p0) (F_chart_Check p0) := by
 unfold K_chart_Check F_chart_Check
 with_reducible repeat' (first | exact m_F_chart_counted _ | refine m_I_chart_counted_1 _ _ _ _ _ ?_ _ | exact m_chart_Check_l2 | exact Le.rfl _ | refine Le.loop _ ?_ | refine Le.bind ?_ ?_ | refine Le.ite ?_ ?_ | refine Le.sum ?_ ?_ | refine Le.prod ?_ | intro _ | exact Empty.elim (by assumption) | dsimp only)
theorem m_F_compare_Charts_1 (p0 : api_Row) : Le (K_compare_Charts_1 p0) (F_compare_Charts_1 p0) := by
 unfold K_compare_Charts_1 F_compare_Charts_1
 with_reducible repeat' (first | exact Le.rfl _ | refine Le.loop _ ?_ | refine Le.bind ?_ ?_ | refine Le.ite ?_ ?_ | refine Le.sum ?_ ?_ | refine Le.prod ?_ | intro _ | exact Empty.elim (by assumption) | dsimp only)
theorem m_F_compare_Charts_2 (p0 : api_Row) (p1 : api_Row) : Le (K_compare_Charts_2 p0 p1) (F_compare_Charts_2 p0 p1) := by
 unfold K_compare_Charts_2 F_compare_Charts_2
 with_reducible repeat' (first | exact m_F_compare_cellTable _ _ | exact Le.rfl _ | refine Le.loop _ ?_ | refine Le.bind ?_ ?_ | refine Le.ite ?_ ?_ | refine Le.sum ?_ ?_ | refine Le.prod ?_ | intro _ | exact Empty.elim (by assumption) | dsimp only)
theorem m_compare_table_api_Row__s0_l1 (s16 : Int) (p0 : (List api_Row)) (p1 : (List api_Row)) (s15 : List (List Int)) : ∀ s, Le (K_compare_table_api_Row__s0_l1 s16 p0 p1 s15 s) (compare_table_api_Row__s0_l1 s16 p0 p1 s15 s) := by
 unfold K_compare_table_api_Row__s0_l1 compare_table_api_Row__s0_l1
 with_reducible repeat' (first | exact m_F_compare_Charts_1 _ | exact m_F_compare_Charts_2 _ _ | exact Le.rfl _ | refine Le.loop _ ?_ | refine Le.bind ?_ ?_ | refine Le.ite ?_ ?_ | refine Le.sum ?_ ?_ | refine Le.prod ?_ | intro _ | exact Empty.elim (by assumption) | dsimp only)
theorem m_compare_table_api_Row__s0_l2 (p1 : (List api_Row)) (p0 : (List api_Row)) : ∀ s, Le (K_compare_table_api_Row__s0_l2 p1 p0 s) (compare_table_api_Row__s0_l2 p1 p0 s) := by
 unfold K_compare_table_api_Row__s0_l2 compare_table_api_Row__s0_l2
 with_reducible repeat' (first | exact m_compare_table_api_Row__s0_l1 _ _ _ _ | exact Le.rfl _ | refine Le.loop _ ?_ | refine Le.bind ?_ ?_ | refine Le.ite ?_ ?_ | refine Le.sum ?_ ?_ | refine Le.prod ?_ | intro _ | exact Empty.elim (by assumption) | dsimp only)
theorem m_F_compare_table_api_Row__s0 (p0 : (List api_Row)) (p1 : (List api_Row)) : Le (K_compare_table_api_Row__s0 p0 p1) (F_compare_table_api_Row__s0 p0 p1) := by
 unfold K_compare_table_api_Row__s0 F_compare_table_api_Row__s0
 with_reducible repeat' (first | exact m_compare_table_api_Row__s0_l2 _ _ | exact Le.rfl _ | refine Le.loop _ ?_ | refine Le.bind ?_ ?_ | refine Le.ite ?_ ?_ | refine Le.sum ?_ ?_ | refine Le.prod ?_ | intro _ | exact Empty.elim (by assumption) | dsimp only)
theorem m_F_compare_Charts (p0 : api_Chart) (p1 : api_Chart) : Le (K_compare_Charts p0 p1) (F_compare_Charts p0 p1) := by
 unfold K_compare_Charts F_compare_Charts
 with_reducible repeat' (first | exact m_F_chart_Check _ | exact m_F_compare_table_api_Row__s0 _ _ | exact Le.rfl _ | refine Le.loop _ ?_ | refine Le.bind ?_ ?_ | refine Le.ite ?_ ?_ | refine Le.sum ?_ ?_ | refine Le.prod ?_ | intro _ | exact Empty.elim (by assumption) | dsimp only)
theorem m_raddleref46_Same_l1 (p0 : (List api_CellStep)) (p1 : (List api_CellStep)) : ∀ s, Le (K_raddleref46_Same_l1 p0 p1 s) (raddleref46_Same_l1 p0 p1 s) := by
 unfold K_raddleref46_Same_l1 raddleref46_Same_l1
 with_reducible repeat' (first | exact Le.rfl _ | refine Le.loop _ ?_ | refine Le.bind ?_ ?_ | refine Le.ite ?_ ?_ | refine Le.sum ?_ ?_ | refine Le.prod ?_ | intro _ | exact Empty.elim (by assumption) | dsimp only)
theorem m_F_raddleref46_Same (p0 : (List api_CellStep)) (p1 : (List api_CellStep)) : Le (K_raddleref46_Same p0 p1) (F_raddleref46_Same p0 p1) := by
 unfold K_raddleref46_Same F_raddleref46_Same
 with_reducible repeat' (first | exact m_raddleref46_Same_l1 _ _ | exact Le.rfl _ | refine Le.loop _ ?_ | refine Le.bind ?_ ?_ | refine Le.ite ?_ ?_ | refine Le.sum ?_ ?_ | refine Le.prod ?_ | intro _ | exact Empty.elim (by assumption) | dsimp only)
set_option maxRecDepth 1000000 in
theorem kc_raddlelaw46_alive_0 : F_raddlelaw46_cloth (⟨#[46, 120, 10]⟩ : ByteArray) = some (api_Grid.mk 2 1 [false, true]) := m_F_raddlelaw46_cloth _ _ (by kernel_rfl)
set_option maxRecDepth 1000000 in
theorem kc_raddlelaw46_alive_1 : F_raddlelaw46_cloth (⟨#[120, 46, 10]⟩ : ByteArray) = some (api_Grid.mk 2 1 [true, false]) := m_F_raddlelaw46_cloth _ _ (by kernel_rfl)
set_option maxRecDepth 1000000 in
theorem kc_raddlelaw46_alive_2 : F_compare_Cells ((api_Grid.mk 2 1 [false, true])) ((api_Grid.mk 2 1 [true, false])) = some (2, 0) := m_F_compare_Cells _ _ _ (by kernel_rfl)
set_option maxRecDepth 1000000 in
theorem kc_raddlelaw46_alive_3 : F_compare_Nearest ((api_Grid.mk 2 1 [false, true])) ((api_Grid.mk 2 1 [true, false])) 0 = some (0, (0, ((api_Point.mk 1 0), 0))) := m_F_compare_Nearest _ _ _ _ (by kernel_rfl)
set_option maxRecDepth 1000000 in
theorem kc_raddlelaw46_alive_4 : F_raddlelaw46_cells (⟨#[107, 32, 112, 32, 107]⟩ : ByteArray) = some [(api_Stitch.mk 1 false 0 0), (api_Stitch.mk 1 true 0 0), (api_Stitch.mk 1 false 0 0)] := m_F_raddlelaw46_cells _ _ (by kernel_rfl)
set_option maxRecDepth 1000000 in
theorem kc_raddlelaw46_alive_5 : F_raddlelaw46_cells (⟨#[107, 32, 121, 111, 32, 107]⟩ : ByteArray) = some [(api_Stitch.mk 1 false 0 0), (api_Stitch.mk 2 false 0 0), (api_Stitch.mk 1 false 0 0)] := m_F_raddlelaw46_cells _ _ (by kernel_rfl)
set_option maxRecDepth 1000000 in
theorem kc_raddlelaw46_alive_6 : F_compare_Edits ([(api_Stitch.mk 1 false 0 0), (api_Stitch.mk 1 true 0 0), (api_Stitch.mk 1 false 0 0)]) ([(api_Stitch.mk 1 false 0 0), (api_Stitch.mk 2 false 0 0), (api_Stitch.mk 1 false 0 0)]) = some ([(api_CellStep.mk 1 (api_Stitch.mk 0 false 0 0)), (api_CellStep.mk 2 (api_Stitch.mk 2 false 0 0)), (api_CellStep.mk 1 (api_Stitch.mk 0 false 0 0))], (1, 0)) := m_F_compare_Edits _ _ _ (by kernel_rfl)
set_option maxRecDepth 1000000 in
theorem kc_raddlelaw46_alive_7 : F_raddlelaw46_cells (⟨#[107, 32, 112]⟩ : ByteArray) = some [(api_Stitch.mk 1 false 0 0), (api_Stitch.mk 1 true 0 0)] := m_F_raddlelaw46_cells _ _ (by kernel_rfl)
set_option maxRecDepth 1000000 in
theorem kc_raddlelaw46_alive_8 : F_raddlelaw46_cells (⟨#[112]⟩ : ByteArray) = some [(api_Stitch.mk 1 true 0 0)] := m_F_raddlelaw46_cells _ _ (by kernel_rfl)
set_option maxRecDepth 1000000 in
theorem kc_raddlelaw46_alive_9 : F_compare_Edits ([(api_Stitch.mk 1 false 0 0), (api_Stitch.mk 1 true 0 0)]) ([(api_Stitch.mk 1 true 0 0)]) = some ([(api_CellStep.mk 4 (api_Stitch.mk 0 false 0 0)), (api_CellStep.mk 1 (api_Stitch.mk 0 false 0 0))], (1, 0)) := m_F_compare_Edits _ _ _ (by kernel_rfl)
set_option maxRecDepth 1000000 in
theorem kc_raddlelaw46_alive_10 : F_raddlelaw46_knit (⟨#[115, 116, 97, 114, 116, 32, 49, 10, 102, 114, 111, 110, 116, 32, 107, 10]⟩ : ByteArray) = some (api_Chart.mk 1 [(api_Row.mk false [(api_Stitch.mk 1 false 0 0)])]) := m_F_raddlelaw46_knit _ _ (by kernel_rfl)
set_option maxRecDepth 1000000 in
theorem kc_raddlelaw46_alive_11 : F_raddlelaw46_knit (⟨#[115, 116, 97, 114, 116, 32, 49, 10, 102, 114, 111, 110, 116, 32, 112, 10, 98, 97, 99, 107, 32, 107, 10]⟩ : ByteArray) = some (api_Chart.mk 1 [(api_Row.mk false [(api_Stitch.mk 1 true 0 0)]), (api_Row.mk true [(api_Stitch.mk 1 false 0 0)])]) := m_F_raddlelaw46_knit _ _ (by kernel_rfl)
set_option maxRecDepth 1000000 in
theorem kc_raddlelaw46_alive_12 : F_compare_Charts ((api_Chart.mk 1 [(api_Row.mk false [(api_Stitch.mk 1 false 0 0)])])) ((api_Chart.mk 1 [(api_Row.mk false [(api_Stitch.mk 1 true 0 0)]), (api_Row.mk true [(api_Stitch.mk 1 false 0 0)])])) = some (3, 0) := m_F_compare_Charts _ _ _ (by kernel_rfl)
set_option maxRecDepth 1000000 in
theorem kc_raddlelaw46_alive_13 : F_raddleref46_Same (([(api_CellStep.mk 1 (api_Stitch.mk 0 false 0 0)), (api_CellStep.mk 2 (api_Stitch.mk 2 false 0 0)), (api_CellStep.mk 1 (api_Stitch.mk 0 false 0 0))], (1, 0))).1 [(api_CellStep.mk 1 (api_Stitch.mk 0 false 0 0)), (api_CellStep.mk 2 (api_Stitch.mk 2 false 0 0)), (api_CellStep.mk 1 (api_Stitch.mk 0 false 0 0))] = some true := m_F_raddleref46_Same _ _ _ (by kernel_rfl)
set_option maxRecDepth 1000000 in
theorem kc_raddlelaw46_alive_14 : F_raddleref46_Same (([(api_CellStep.mk 4 (api_Stitch.mk 0 false 0 0)), (api_CellStep.mk 1 (api_Stitch.mk 0 false 0 0))], (1, 0))).1 [(api_CellStep.mk 4 (api_Stitch.mk 0 false 0 0)), (api_CellStep.mk 1 (api_Stitch.mk 0 false 0 0))] = some true := m_F_raddleref46_Same _ _ _ (by kernel_rfl)
end Go.Proofs.Ytffikfajljbmnaa
namespace Go.Proofs.Ytffikfajljbmnaa
open Go.RowKit
noncomputable def F_raddlelaw46_alive  : Option Bool :=
 Option.bind (F_raddlelaw46_cloth (⟨#[46, 120, 10]⟩ : ByteArray)) fun r3 =>
 Option.bind (F_raddlelaw46_cloth (⟨#[120, 46, 10]⟩ : ByteArray)) fun r10 =>
 Option.bind (F_compare_Cells r3 r10) fun r17 =>
 Option.bind (F_compare_Nearest r3 r10 0) fun r30 =>
 Option.bind (F_raddlelaw46_cells (⟨#[107, 32, 112, 32, 107]⟩ : ByteArray)) fun r35 =>
 Option.bind (F_raddlelaw46_cells (⟨#[107, 32, 121, 111, 32, 107]⟩ : ByteArray)) fun r40 =>
 Option.bind (F_compare_Edits r35 r40) fun r45 =>
 Option.bind (F_raddlelaw46_cells (⟨#[107, 32, 112]⟩ : ByteArray)) fun r51 =>
 Option.bind (F_raddlelaw46_cells (⟨#[112]⟩ : ByteArray)) fun r56 =>
 Option.bind (F_compare_Edits r51 r56) fun r61 =>
 Option.bind (F_raddlelaw46_knit (⟨#[115, 116, 97, 114, 116, 32, 49, 10, 102, 114, 111, 110, 116, 32, 107, 10]⟩ : ByteArray)) fun r67 =>
 Option.bind (F_raddlelaw46_knit (⟨#[115, 116, 97, 114, 116, 32, 49, 10, 102, 114, 111, 110, 116, 32, 112, 10, 98, 97, 99, 107, 32, 107, 10]⟩ : ByteArray)) fun r74 =>
 Option.bind (F_compare_Charts r67 r74) fun r81 =>
 if r17.2 == 0 then
  if r30.2.2.2 == 0 then
   if r45.2.2 == 0 then
    if r61.2.2 == 0 then
     Option.bind (α := Bool) (
      if r81.2 == 0 then
       if r17.1 == 2 then
        if r30.1 == 0 then
         if r30.2.1 == 0 then
          if ((r30.2.2.1.X == 1) && ((r30.2.2.1.Y == 0) && true)) then
           Option.bind (F_raddleref46_Same r45.1 [(api_CellStep.mk 1 (api_Stitch.mk 0 false 0 0)), (api_CellStep.mk 2 (api_Stitch.mk 2 false 0 0)), (api_CellStep.mk 1 (api_Stitch.mk 0 false 0 0))]) fun r102 =>
           if r102 then
            if r45.2.1 == 1 then
             Option.bind (F_raddleref46_Same r61.1 [(api_CellStep.mk 4 (api_Stitch.mk 0 false 0 0)), (api_CellStep.mk 1 (api_Stitch.mk 0 false 0 0))]) fun r108 =>
             if r108 then
              if r61.2.1 == 1 then
               some (r81.1 == 3)
              else
               none
             else
              none
            else
             none
           else
            none
          else
           none
         else
          none
        else
         none
       else
        none
      else
       some false) fun o92 =>
     some o92
    else
     none
   else
    none
  else
   none
 else
  none
set_option maxHeartbeats 4000000 in
set_option maxRecDepth 100000 in
theorem c_raddlelaw46_alive (E : Nat → Prop) (w0 : World)  (r : Bool) (h : F_raddlelaw46_alive  = some r) (S : St0 E [] w0 w0 [] []) :
 Calls Try.prog 31 #[] w0 (Ret (X := Unit) E [] w0 (fun _ => .bool r) (fun _ => []) (fun _ => [])) := by
 unfold F_raddlelaw46_alive at h
 refine sEnter (args := []) 120 Try.func31 rfl rfl (by simp) S (fun a S => ?_)
 refine sSeq (fun K1 hK1 => ?_)
 refine sRegion ?_
 refine sMa S rfl rfl rfl rfl rfl fun a S => ?_
 refine lT (hK1 _ _ ?_)
 refine sSeq (fun K2 hK2 => ?_)
 refine sRegion ?_
 obtain ⟨r3, hx4, h⟩ := bindSome h
 have hv_r3 : r3 = (api_Grid.mk 2 1 [false, true]) := Option.some.inj (hx4.symm.trans (by exact kc_raddlelaw46_alive_0))
 refine sCall (X := Value) (f := 41) (vs := [.string (⟨#[46, 120, 10]⟩ : ByteArray)]) (val := c_raddlelaw46_cloth_val r3) (B' := fun _ => []) (D' := c_raddlelaw46_cloth_D r3) [] [] [] [] [] S (wN rfl) rfl callee41 rfl (by decide) rfl rfl (fun E1 w1 S1 => c_raddlelaw46_cloth E1 w1 (⟨#[46, 120, 10]⟩ : ByteArray) r3 hx4 S1) rfl (lb rfl) fun u5 a w S => ?_
 obtain ⟨u6, rfl, hu7⟩ := S.mem.know (i := 0) (e := fRep r_api_Grid (u5) r3) rfl
 have S := S.learn (fRep (rL rB) u6 r3.Bits) hu7
 obtain ⟨ad8, cp9, _, rfl, _⟩ := hu7
 obtain ⟨r10, hx11, h⟩ := bindSome h
 have hv_r10 : r10 = (api_Grid.mk 2 1 [true, false]) := Option.some.inj (hx11.symm.trans (by exact kc_raddlelaw46_alive_1))
 refine sCall (X := Value) (f := 41) (vs := [.string (⟨#[120, 46, 10]⟩ : ByteArray)]) (val := c_raddlelaw46_cloth_val r10) (B' := fun _ => []) (D' := c_raddlelaw46_cloth_D r10) [] [] [] [] [] S (wN rfl) rfl callee41 rfl (by decide) rfl rfl (fun E1 w1 S1 => c_raddlelaw46_cloth E1 w1 (⟨#[120, 46, 10]⟩ : ByteArray) r10 hx11 S1) rfl (lb rfl) fun u12 a w S => ?_
 obtain ⟨u13, rfl, hu14⟩ := S.mem.know (i := 0) (e := fRep r_api_Grid (u12) r10) rfl
 have S := S.learn (fRep (rL rB) u13 r10.Bits) hu14
 obtain ⟨ad15, cp16, _, rfl, _⟩ := hu14
 obtain ⟨r17, hx18, h⟩ := bindSome h
 have hv_r17 : r17 = (2, 0) := Option.some.inj (hx18.symm.trans (by rw [hv_r3, hv_r10]; exact kc_raddlelaw46_alive_2))
 have S1 := S.mem
 refine sCallQ (X := Unit) (f := 14) (vs := [.agg #[iv r3.W, iv r3.H, .slice ad8 r3.Bits.length cp9], .agg #[iv r10.W, iv r10.H, .slice ad15 r10.Bits.length cp16]]) (val := fun _ => .tuple #[iv r17.1, iv r17.2]) S (wN rfl) rfl callee14 rfl (S1.quiet [3, 1] rfl) (fun E1 w1 S1 => c_compare_Cells E1 w1 r3 (.agg #[iv r3.W, iv r3.H, .slice ad8 r3.Bits.length cp9]) r10 (.agg #[iv r10.W, iv r10.H, .slice ad15 r10.Bits.length cp16]) r17 hx18 S1) rfl (lb rfl) fun _ a w S => ?_
 refine sMm S rfl rfl rfl rfl rfl fun a S => ?_
 refine sExtract (vs := [iv r17.1, iv r17.2]) (iv r17.1) S (wN rfl) rfl rfl rfl rfl (lb rfl) fun a S => ?_
 refine sExtract (vs := [iv r17.1, iv r17.2]) (iv r17.2) S (wN rfl) rfl rfl rfl rfl (lb rfl) fun a S => ?_
 refine sMa S rfl rfl rfl rfl rfl fun a S => ?_
 refine sMa S rfl rfl rfl rfl rfl fun a S => ?_
 refine lT (hK2 _ _ ?_)
 refine sSeq (fun K19 hK19 => ?_)
 refine sRegion ?_
 refine sCall (X := Value) (f := 41) (vs := [.string (⟨#[46, 120, 10]⟩ : ByteArray)]) (val := c_raddlelaw46_cloth_val r3) (B' := fun _ => []) (D' := c_raddlelaw46_cloth_D r3) [] [] [] [] [] S (wN rfl) rfl callee41 rfl (by decide) rfl rfl (fun E1 w1 S1 => c_raddlelaw46_cloth E1 w1 (⟨#[46, 120, 10]⟩ : ByteArray) r3 hx4 S1) rfl (lb rfl) fun u20 a w S => ?_
 obtain ⟨u21, rfl, hu22⟩ := S.mem.know (i := 0) (e := fRep r_api_Grid (u20) r3) rfl
 have S := S.learn (fRep (rL rB) u21 r3.Bits) hu22
 obtain ⟨ad23, cp24, _, rfl, _⟩ := hu22
 refine sCall (X := Value) (f := 41) (vs := [.string (⟨#[120, 46, 10]⟩ : ByteArray)]) (val := c_raddlelaw46_cloth_val r10) (B' := fun _ => []) (D' := c_raddlelaw46_cloth_D r10) [] [] [] [] [] S (wN rfl) rfl callee41 rfl (by decide) rfl rfl (fun E1 w1 S1 => c_raddlelaw46_cloth E1 w1 (⟨#[120, 46, 10]⟩ : ByteArray) r10 hx11 S1) rfl (lb rfl) fun u25 a w S => ?_
 obtain ⟨u26, rfl, hu27⟩ := S.mem.know (i := 0) (e := fRep r_api_Grid (u25) r10) rfl
 have S := S.learn (fRep (rL rB) u26 r10.Bits) hu27
 obtain ⟨ad28, cp29, _, rfl, _⟩ := hu27
 obtain ⟨r30, hx31, h⟩ := bindSome h
 have hv_r30 : r30 = (0, (0, ((api_Point.mk 1 0), 0))) := Option.some.inj (hx31.symm.trans (by rw [hv_r3, hv_r10]; exact kc_raddlelaw46_alive_3))
 refine sCall (X := Value) (f := 16) (vs := [.agg #[iv r3.W, iv r3.H, .slice ad23 r3.Bits.length cp24], .agg #[iv r10.W, iv r10.H, .slice ad28 r10.Bits.length cp29], iv 0]) (val := c_compare_Nearest_val r30) (B' := fun _ => []) (D' := c_compare_Nearest_D r30) [] [] [fRep r_api_Grid (.agg #[iv r3.W, iv r3.H, .slice ad23 r3.Bits.length cp24]) r3, fRep r_api_Grid (.agg #[iv r10.W, iv r10.H, .slice ad28 r10.Bits.length cp29]) r10] [] [3, 1] S (wN rfl) rfl callee16 rfl (by decide) rfl rfl (fun E1 w1 S1 => c_compare_Nearest E1 w1 r3 (.agg #[iv r3.W, iv r3.H, .slice ad23 r3.Bits.length cp24]) r10 (.agg #[iv r10.W, iv r10.H, .slice ad28 r10.Bits.length cp29]) 0 r30 hx31 S1) rfl (lb rfl) fun u32 a w S => ?_
 obtain rfl : u32 = .agg #[iv r30.2.2.1.X, iv r30.2.2.1.Y] := S.mem.know (i := 0) (e := fRep r_api_Point (u32) r30.2.2.1) rfl
 refine sMm S rfl rfl rfl rfl rfl fun a S => ?_
 refine sExtract (vs := [iv r30.1, iv r30.2.1, .agg #[iv r30.2.2.1.X, iv r30.2.2.1.Y], iv r30.2.2.2]) (iv r30.1) S (wN rfl) rfl rfl rfl rfl (lb rfl) fun a S => ?_
 refine sExtract (vs := [iv r30.1, iv r30.2.1, .agg #[iv r30.2.2.1.X, iv r30.2.2.1.Y], iv r30.2.2.2]) (iv r30.2.1) S (wN rfl) rfl rfl rfl rfl (lb rfl) fun a S => ?_
 refine sExtract (vs := [iv r30.1, iv r30.2.1, .agg #[iv r30.2.2.1.X, iv r30.2.2.1.Y], iv r30.2.2.2]) (.agg #[iv r30.2.2.1.X, iv r30.2.2.1.Y]) S (wN rfl) rfl rfl rfl rfl (lb rfl) fun a S => ?_
 refine sExtract (vs := [iv r30.1, iv r30.2.1, .agg #[iv r30.2.2.1.X, iv r30.2.2.1.Y], iv r30.2.2.2]) (iv r30.2.2.2) S (wN rfl) rfl rfl rfl rfl (lb rfl) fun a S => ?_
 refine sAlloc (.agg #[iv 0, iv 0]) S (wN rfl) rfl rfl [iv 0, iv 0] rfl rfl (lb rfl) fun a b33 w S => ?_
 refine sMa S rfl rfl rfl rfl rfl fun a S => ?_
 refine sMa S rfl rfl rfl rfl rfl fun a S => ?_
 refine sStore (p := b33) (off := 0) (T := 33) (vs := [iv 0, iv 0]) (v := .agg #[iv r30.2.2.1.X, iv r30.2.2.1.Y]) 0 [iv r30.2.2.1.X, iv r30.2.2.1.Y] S (wN rfl) rfl rfl rfl rfl rfl rfl rfl (by simp) rfl fun a w S => ?_
 refine sMa S rfl rfl rfl rfl rfl fun a S => ?_
 refine lT (hK19 _ _ ?_)
 refine sSeq (fun K34 hK34 => ?_)
 refine sRegion ?_
 obtain ⟨r35, hx36, h⟩ := bindSome h
 have hv_r35 : r35 = [(api_Stitch.mk 1 false 0 0), (api_Stitch.mk 1 true 0 0), (api_Stitch.mk 1 false 0 0)] := Option.some.inj (hx36.symm.trans (by exact kc_raddlelaw46_alive_4))
 refine sCall (X := Value) (f := 42) (vs := [.string (⟨#[107, 32, 112, 32, 107]⟩ : ByteArray)]) (val := c_raddlelaw46_cells_val r35) (B' := fun _ => []) (D' := c_raddlelaw46_cells_D r35) [] [eBox b33 33 [iv r30.2.2.1.X, iv r30.2.2.1.Y]] [] [0] [] S (wN rfl) rfl callee42 rfl (by decide) rfl rfl (fun E1 w1 S1 => c_raddlelaw46_cells E1 w1 (⟨#[107, 32, 112, 32, 107]⟩ : ByteArray) r35 hx36 S1) rfl (lb rfl) fun u37 a w S => ?_
 obtain ⟨ad38, cp39, _, rfl, _⟩ := S.mem.know (i := 0) (e := fRep (rL r_api_Stitch) (u37) r35) rfl
 obtain ⟨r40, hx41, h⟩ := bindSome h
 have hv_r40 : r40 = [(api_Stitch.mk 1 false 0 0), (api_Stitch.mk 2 false 0 0), (api_Stitch.mk 1 false 0 0)] := Option.some.inj (hx41.symm.trans (by exact kc_raddlelaw46_alive_5))
 refine sCall (X := Value) (f := 42) (vs := [.string (⟨#[107, 32, 121, 111, 32, 107]⟩ : ByteArray)]) (val := c_raddlelaw46_cells_val r40) (B' := fun _ => []) (D' := c_raddlelaw46_cells_D r40) [] [eBox b33 33 [iv r30.2.2.1.X, iv r30.2.2.1.Y]] [] [0] [] S (wN rfl) rfl callee42 rfl (by decide) rfl rfl (fun E1 w1 S1 => c_raddlelaw46_cells E1 w1 (⟨#[107, 32, 121, 111, 32, 107]⟩ : ByteArray) r40 hx41 S1) rfl (lb rfl) fun u42 a w S => ?_
 obtain ⟨ad43, cp44, _, rfl, _⟩ := S.mem.know (i := 0) (e := fRep (rL r_api_Stitch) (u42) r40) rfl
 obtain ⟨r45, hx46, h⟩ := bindSome h
 have hv_r45 : r45 = ([(api_CellStep.mk 1 (api_Stitch.mk 0 false 0 0)), (api_CellStep.mk 2 (api_Stitch.mk 2 false 0 0)), (api_CellStep.mk 1 (api_Stitch.mk 0 false 0 0))], (1, 0)) := Option.some.inj (hx46.symm.trans (by rw [hv_r35, hv_r40]; exact kc_raddlelaw46_alive_6))
 refine sCall (X := Value) (f := 23) (vs := [.slice ad38 r35.length cp39, .slice ad43 r40.length cp44]) (val := c_compare_Edits_val r45) (B' := fun _ => []) (D' := c_compare_Edits_D r45) [] [eBox b33 33 [iv r30.2.2.1.X, iv r30.2.2.1.Y]] [fRep (rL r_api_Stitch) (.slice ad38 r35.length cp39) r35, fRep (rL r_api_Stitch) (.slice ad43 r40.length cp44) r40] [0] [1, 0] S (wN rfl) rfl callee23 rfl (by decide) rfl rfl (fun E1 w1 S1 => c_compare_Edits E1 w1 r35 (.slice ad38 r35.length cp39) r40 (.slice ad43 r40.length cp44) r45 hx46 S1) rfl (lb rfl) fun u47 a w S => ?_
 obtain ⟨ad48, cp49, _, rfl, _⟩ := S.mem.know (i := 0) (e := fRep (rL r_api_CellStep) (u47) r45.1) rfl
 refine sMm S rfl rfl rfl rfl rfl fun a S => ?_
 refine sExtract (vs := [.slice ad48 r45.1.length cp49, iv r45.2.1, iv r45.2.2]) (.slice ad48 r45.1.length cp49) S (wN rfl) rfl rfl rfl rfl (lb rfl) fun a S => ?_
 refine sExtract (vs := [.slice ad48 r45.1.length cp49, iv r45.2.1, iv r45.2.2]) (iv r45.2.1) S (wN rfl) rfl rfl rfl rfl (lb rfl) fun a S => ?_
 refine sExtract (vs := [.slice ad48 r45.1.length cp49, iv r45.2.1, iv r45.2.2]) (iv r45.2.2) S (wN rfl) rfl rfl rfl rfl (lb rfl) fun a S => ?_
 refine sMa S rfl rfl rfl rfl rfl fun a S => ?_
 refine sMa S rfl rfl rfl rfl rfl fun a S => ?_
 refine sMa S rfl rfl rfl rfl rfl fun a S => ?_
 refine lT (hK34 _ _ ?_)
 refine sSeq (fun K50 hK50 => ?_)
 refine sRegion ?_
 obtain ⟨r51, hx52, h⟩ := bindSome h
 have hv_r51 : r51 = [(api_Stitch.mk 1 false 0 0), (api_Stitch.mk 1 true 0 0)] := Option.some.inj (hx52.symm.trans (by exact kc_raddlelaw46_alive_7))
 refine sCall (X := Value) (f := 42) (vs := [.string (⟨#[107, 32, 112]⟩ : ByteArray)]) (val := c_raddlelaw46_cells_val r51) (B' := fun _ => []) (D' := c_raddlelaw46_cells_D r51) [] [eBox b33 33 [iv r30.2.2.1.X, iv r30.2.2.1.Y]] [] [0] [] S (wN rfl) rfl callee42 rfl (by decide) rfl rfl (fun E1 w1 S1 => c_raddlelaw46_cells E1 w1 (⟨#[107, 32, 112]⟩ : ByteArray) r51 hx52 S1) rfl (lb rfl) fun u53 a w S => ?_
 obtain ⟨ad54, cp55, _, rfl, _⟩ := S.mem.know (i := 0) (e := fRep (rL r_api_Stitch) (u53) r51) rfl
 obtain ⟨r56, hx57, h⟩ := bindSome h
 have hv_r56 : r56 = [(api_Stitch.mk 1 true 0 0)] := Option.some.inj (hx57.symm.trans (by exact kc_raddlelaw46_alive_8))
 refine sCall (X := Value) (f := 42) (vs := [.string (⟨#[112]⟩ : ByteArray)]) (val := c_raddlelaw46_cells_val r56) (B' := fun _ => []) (D' := c_raddlelaw46_cells_D r56) [] [eBox b33 33 [iv r30.2.2.1.X, iv r30.2.2.1.Y]] [] [0] [] S (wN rfl) rfl callee42 rfl (by decide) rfl rfl (fun E1 w1 S1 => c_raddlelaw46_cells E1 w1 (⟨#[112]⟩ : ByteArray) r56 hx57 S1) rfl (lb rfl) fun u58 a w S => ?_
 obtain ⟨ad59, cp60, _, rfl, _⟩ := S.mem.know (i := 0) (e := fRep (rL r_api_Stitch) (u58) r56) rfl
 obtain ⟨r61, hx62, h⟩ := bindSome h
 have hv_r61 : r61 = ([(api_CellStep.mk 4 (api_Stitch.mk 0 false 0 0)), (api_CellStep.mk 1 (api_Stitch.mk 0 false 0 0))], (1, 0)) := Option.some.inj (hx62.symm.trans (by rw [hv_r51, hv_r56]; exact kc_raddlelaw46_alive_9))
 refine sCall (X := Value) (f := 23) (vs := [.slice ad54 r51.length cp55, .slice ad59 r56.length cp60]) (val := c_compare_Edits_val r61) (B' := fun _ => []) (D' := c_compare_Edits_D r61) [] [eBox b33 33 [iv r30.2.2.1.X, iv r30.2.2.1.Y]] [fRep (rL r_api_Stitch) (.slice ad54 r51.length cp55) r51, fRep (rL r_api_Stitch) (.slice ad59 r56.length cp60) r56] [0] [1, 0] S (wN rfl) rfl callee23 rfl (by decide) rfl rfl (fun E1 w1 S1 => c_compare_Edits E1 w1 r51 (.slice ad54 r51.length cp55) r56 (.slice ad59 r56.length cp60) r61 hx62 S1) rfl (lb rfl) fun u63 a w S => ?_
 obtain ⟨ad64, cp65, _, rfl, _⟩ := S.mem.know (i := 0) (e := fRep (rL r_api_CellStep) (u63) r61.1) rfl
 refine sMm S rfl rfl rfl rfl rfl fun a S => ?_
 refine sExtract (vs := [.slice ad64 r61.1.length cp65, iv r61.2.1, iv r61.2.2]) (.slice ad64 r61.1.length cp65) S (wN rfl) rfl rfl rfl rfl (lb rfl) fun a S => ?_
 refine sExtract (vs := [.slice ad64 r61.1.length cp65, iv r61.2.1, iv r61.2.2]) (iv r61.2.1) S (wN rfl) rfl rfl rfl rfl (lb rfl) fun a S => ?_
 refine sExtract (vs := [.slice ad64 r61.1.length cp65, iv r61.2.1, iv r61.2.2]) (iv r61.2.2) S (wN rfl) rfl rfl rfl rfl (lb rfl) fun a S => ?_
 refine sMa S rfl rfl rfl rfl rfl fun a S => ?_
 refine sMa S rfl rfl rfl rfl rfl fun a S => ?_
 refine sMa S rfl rfl rfl rfl rfl fun a S => ?_
 refine lT (hK50 _ _ ?_)
 refine sSeq (fun K66 hK66 => ?_)
 refine sRegion ?_
 obtain ⟨r67, hx68, h⟩ := bindSome h
 have hv_r67 : r67 = (api_Chart.mk 1 [(api_Row.mk false [(api_Stitch.mk 1 false 0 0)])]) := Option.some.inj (hx68.symm.trans (by exact kc_raddlelaw46_alive_10))
 refine sCall (X := Value) (f := 43) (vs := [.string (⟨#[115, 116, 97, 114, 116, 32, 49, 10, 102, 114, 111, 110, 116, 32, 107, 10]⟩ : ByteArray)]) (val := c_raddlelaw46_knit_val r67) (B' := fun _ => []) (D' := c_raddlelaw46_knit_D r67) [] [eBox b33 33 [iv r30.2.2.1.X, iv r30.2.2.1.Y]] [] [0] [] S (wN rfl) rfl callee43 rfl (by decide) rfl rfl (fun E1 w1 S1 => c_raddlelaw46_knit E1 w1 (⟨#[115, 116, 97, 114, 116, 32, 49, 10, 102, 114, 111, 110, 116, 32, 107, 10]⟩ : ByteArray) r67 hx68 S1) rfl (lb rfl) fun u69 a w S => ?_
 obtain ⟨u70, rfl, hu71⟩ := S.mem.know (i := 0) (e := fRep r_api_Chart (u69) r67) rfl
 have S := S.learn (fRep (rL r_api_Row) u70 r67.Rows) hu71
 obtain ⟨ad72, cp73, _, rfl, _⟩ := hu71
 obtain ⟨r74, hx75, h⟩ := bindSome h
 have hv_r74 : r74 = (api_Chart.mk 1 [(api_Row.mk false [(api_Stitch.mk 1 true 0 0)]), (api_Row.mk true [(api_Stitch.mk 1 false 0 0)])]) := Option.some.inj (hx75.symm.trans (by exact kc_raddlelaw46_alive_11))
 refine sCall (X := Value) (f := 43) (vs := [.string (⟨#[115, 116, 97, 114, 116, 32, 49, 10, 102, 114, 111, 110, 116, 32, 112, 10, 98, 97, 99, 107, 32, 107, 10]⟩ : ByteArray)]) (val := c_raddlelaw46_knit_val r74) (B' := fun _ => []) (D' := c_raddlelaw46_knit_D r74) [] [eBox b33 33 [iv r30.2.2.1.X, iv r30.2.2.1.Y]] [] [0] [] S (wN rfl) rfl callee43 rfl (by decide) rfl rfl (fun E1 w1 S1 => c_raddlelaw46_knit E1 w1 (⟨#[115, 116, 97, 114, 116, 32, 49, 10, 102, 114, 111, 110, 116, 32, 112, 10, 98, 97, 99, 107, 32, 107, 10]⟩ : ByteArray) r74 hx75 S1) rfl (lb rfl) fun u76 a w S => ?_
 obtain ⟨u77, rfl, hu78⟩ := S.mem.know (i := 0) (e := fRep r_api_Chart (u76) r74) rfl
 have S := S.learn (fRep (rL r_api_Row) u77 r74.Rows) hu78
 obtain ⟨ad79, cp80, _, rfl, _⟩ := hu78
 obtain ⟨r81, hx82, h⟩ := bindSome h
 have hv_r81 : r81 = (3, 0) := Option.some.inj (hx82.symm.trans (by rw [hv_r67, hv_r74]; exact kc_raddlelaw46_alive_12))
 have S1 := S.mem
 refine sCallQ (X := Unit) (f := 20) (vs := [.agg #[iv r67.Start, .slice ad72 r67.Rows.length cp73], .agg #[iv r74.Start, .slice ad79 r74.Rows.length cp80]]) (val := fun _ => .tuple #[iv r81.1, iv r81.2]) S (wN rfl) rfl callee20 rfl (S1.quiet [3, 1] rfl) (fun E1 w1 S1 => c_compare_Charts E1 w1 r67 (.agg #[iv r67.Start, .slice ad72 r67.Rows.length cp73]) r74 (.agg #[iv r74.Start, .slice ad79 r74.Rows.length cp80]) r81 hx82 S1) rfl (lb rfl) fun _ a w S => ?_
 refine sMm S rfl rfl rfl rfl rfl fun a S => ?_
 refine sExtract (vs := [iv r81.1, iv r81.2]) (iv r81.1) S (wN rfl) rfl rfl rfl rfl (lb rfl) fun a S => ?_
 refine sExtract (vs := [iv r81.1, iv r81.2]) (iv r81.2) S (wN rfl) rfl rfl rfl rfl (lb rfl) fun a S => ?_
 refine sMa S rfl rfl rfl rfl rfl fun a S => ?_
 refine sMa S rfl rfl rfl rfl rfl fun a S => ?_
 refine lT (hK66 _ _ ?_)
 refine sSeq (fun K83 hK83 => ?_)
 refine sRegion ?_
 refine sBuild [(0, .int .u8 1)] [.int .u8 1, .int .u8 0, .bool false, iv 0, iv 0] S (wN rfl) rfl rfl rfl rfl (lb rfl) fun a S => ?_
 refine sBuild [(0, .int .u8 2)] [.int .u8 2, .bool false, iv 0, iv 0] S (wN rfl) rfl rfl rfl rfl (lb rfl) fun a S => ?_
 refine sBuild [(0, .int .u8 2), (1, .agg #[.int .u8 2, .bool false, iv 0, iv 0])] [.int .u8 2, .int .u8 2, .bool false, iv 0, iv 0] S (wN rfl) rfl rfl rfl rfl (lb rfl) fun a S => ?_
 refine sBuild [(0, .int .u8 4)] [.int .u8 4, .int .u8 0, .bool false, iv 0, iv 0] S (wN rfl) rfl rfl rfl rfl (lb rfl) fun a S => ?_
 refine sAlloc (.agg #[.int .u8 0, .int .u8 0, .bool false, iv 0, iv 0]) S (wN rfl) rfl rfl [.int .u8 0, .int .u8 0, .bool false, iv 0, iv 0] rfl rfl (lb rfl) fun a b84 w S => ?_
 refine sAlloc (.agg #[.int .u8 0, .int .u8 0, .bool false, iv 0, iv 0]) S (wN rfl) rfl rfl [.int .u8 0, .int .u8 0, .bool false, iv 0, iv 0] rfl rfl (lb rfl) fun a b85 w S => ?_
 refine sAlloc (.agg #[.int .u8 0, .int .u8 0, .bool false, iv 0, iv 0]) S (wN rfl) rfl rfl [.int .u8 0, .int .u8 0, .bool false, iv 0, iv 0] rfl rfl (lb rfl) fun a b86 w S => ?_
 refine sStore (p := b84) (off := 0) (T := 83) (vs := [.int .u8 0, .int .u8 0, .bool false, iv 0, iv 0]) (v := .agg #[.int .u8 1, .int .u8 0, .bool false, iv 0, iv 0]) 2 [.int .u8 1, .int .u8 0, .bool false, iv 0, iv 0] S (wN rfl) rfl rfl rfl rfl rfl rfl rfl (by simp) rfl fun a w S => ?_
 refine sStore (p := b85) (off := 0) (T := 83) (vs := [.int .u8 0, .int .u8 0, .bool false, iv 0, iv 0]) (v := .agg #[.int .u8 2, .int .u8 2, .bool false, iv 0, iv 0]) 2 [.int .u8 2, .int .u8 2, .bool false, iv 0, iv 0] S (wN rfl) rfl rfl rfl rfl rfl rfl rfl (by simp) rfl fun a w S => ?_
 refine sStore (p := b86) (off := 0) (T := 83) (vs := [.int .u8 0, .int .u8 0, .bool false, iv 0, iv 0]) (v := .agg #[.int .u8 4, .int .u8 0, .bool false, iv 0, iv 0]) 2 [.int .u8 4, .int .u8 0, .bool false, iv 0, iv 0] S (wN rfl) rfl rfl rfl rfl rfl rfl rfl (by simp) rfl fun a w S => ?_
 refine lT (hK83 _ _ ?_)
 refine sSeq (fun K87 hK87 => ?_)
 refine sRegion ?_
 refine sMm S rfl rfl rfl rfl rfl fun a S => ?_
 refine sBin _ S (wN rfl) rfl rfl rfl (bEq _ _ _ _ .i64 r17.2 0) rfl (lb rfl) fun a S => ?_
 refine sMm S rfl rfl rfl rfl rfl fun a S => ?_
 rcases iteSome h with ⟨hc88, h⟩ | ⟨hc88, h⟩
 rotate_left
 ·exact absurd hc88 (by rw [hv_r17]; decide)
 refine sMove (iv r30.2.2.2) S (wG 2 true 59 rfl rfl rfl hc88) (.inl rfl) rfl rfl (lb rfl) fun a S => ?_
 refine sBin _ S (wG 2 true 59 rfl rfl rfl hc88) rfl rfl rfl (bEq _ _ _ _ .i64 r30.2.2.2 0) rfl (lb rfl) fun a S => ?_
 refine sPickT (.bool (r30.2.2.2 == 0)) S (wN rfl) rfl rfl hc88 rfl rfl (lb rfl) fun a S => ?_
 refine sMm S rfl rfl rfl rfl rfl fun a S => ?_
 rcases iteSome h with ⟨hc89, h⟩ | ⟨hc89, h⟩
 rotate_left
 ·exact absurd hc89 (by rw [hv_r30]; decide)
 refine sMove (iv r45.2.2) S (wG 6 true 63 rfl rfl rfl hc89) (.inl rfl) rfl rfl (lb rfl) fun a S => ?_
 refine sBin _ S (wG 6 true 63 rfl rfl rfl hc89) rfl rfl rfl (bEq _ _ _ _ .i64 r45.2.2 0) rfl (lb rfl) fun a S => ?_
 refine sPickT (.bool (r45.2.2 == 0)) S (wN rfl) rfl rfl hc89 rfl rfl (lb rfl) fun a S => ?_
 refine sMm S rfl rfl rfl rfl rfl fun a S => ?_
 rcases iteSome h with ⟨hc90, h⟩ | ⟨hc90, h⟩
 rotate_left
 ·exact absurd hc90 (by rw [hv_r45]; decide)
 refine sMove (iv r61.2.2) S (wG 10 true 67 rfl rfl rfl hc90) (.inl rfl) rfl rfl (lb rfl) fun a S => ?_
 refine sBin _ S (wG 10 true 67 rfl rfl rfl hc90) rfl rfl rfl (bEq _ _ _ _ .i64 r61.2.2 0) rfl (lb rfl) fun a S => ?_
 refine sPickT (.bool (r61.2.2 == 0)) S (wN rfl) rfl rfl hc90 rfl rfl (lb rfl) fun a S => ?_
 refine sMm S rfl rfl rfl rfl rfl fun a S => ?_
 rcases iteSome h with ⟨hc91, h⟩ | ⟨hc91, h⟩
 rotate_left
 ·exact absurd hc91 (by rw [hv_r61]; decide)
 refine sMove (iv r81.2) S (wG 14 true 71 rfl rfl rfl hc91) (.inl rfl) rfl rfl (lb rfl) fun a S => ?_
 refine sBin _ S (wG 14 true 71 rfl rfl rfl hc91) rfl rfl rfl (bEq _ _ _ _ .i64 r81.2 0) rfl (lb rfl) fun a S => ?_
 refine sPickT (.bool (r81.2 == 0)) S (wN rfl) rfl rfl hc91 rfl rfl (lb rfl) fun a S => ?_
 refine sMa S rfl rfl rfl rfl rfl fun a S => ?_
 refine lT (hK87 _ _ ?_)
 obtain ⟨t93, h, g94⟩ := bindSome h
 refine sCut (fun a w => ∃ o92, o92 = t93 ∧ St [] E [] w0 120 a w [(0, .bool o92)] [] []) ?_ (fun a w hI => ?_)
 rotate_left
 ·obtain ⟨o92, rfl, S⟩ := hI
  have h := g94
  clear g94
  try dsimp only at h
  obtain rfl := Option.some.inj h
  exact wp_ret (sRet (.bool o92) S (rsl1 rfl (rvT (t := 0) (v := .bool o92) S rfl)) ⟨(), rfl, S.mem.sel [] [] (by decide) rfl rfl⟩)
 refine sRegion ?_
 refine sMm S rfl rfl rfl rfl rfl fun a S => ?_
 refine sMm S rfl rfl rfl rfl rfl fun a S => ?_
 rcases iteSome h with ⟨hc95, h⟩ | ⟨hc95, h⟩
 rotate_left
 ·refine sSkN 2 1 true 76 S rfl rfl hc95 rfl fun a S => ?_
  refine sPickF (.bool false) S (wN rfl) rfl rfl hc95 rfl rfl (lb rfl) fun a S => ?_
  refine sMm S rfl rfl rfl rfl rfl fun a S => ?_
  refine sSkN 2 5 true 80 S rfl rfl rfl rfl fun a S => ?_
  refine sPickF (.bool false) S (wN rfl) rfl rfl rfl rfl rfl (lb rfl) fun a S => ?_
  refine sMm S rfl rfl rfl rfl rfl fun a S => ?_
  refine sSkN 2 9 true 84 S rfl rfl rfl rfl fun a S => ?_
  refine sPickF (.bool false) S (wN rfl) rfl rfl rfl rfl rfl (lb rfl) fun a S => ?_
  refine sMm S rfl rfl rfl rfl rfl fun a S => ?_
  refine sSkN 3 13 true 88 S rfl rfl rfl rfl fun a S => ?_
  refine sPickF (.bool false) S (wN rfl) rfl rfl rfl rfl rfl (lb rfl) fun a S => ?_
  refine sMm S rfl rfl rfl rfl rfl fun a S => ?_
  refine sSkN 6 18 true 93 S rfl rfl rfl rfl fun a S => ?_
  refine sPickF (.bool false) S (wN rfl) rfl rfl rfl rfl rfl (lb rfl) fun a S => ?_
  refine sMm S rfl rfl rfl rfl rfl fun a S => ?_
  refine sSkN 2 26 true 101 S rfl rfl rfl rfl fun a S => ?_
  refine sPickF (.bool false) S (wN rfl) rfl rfl rfl rfl rfl (lb rfl) fun a S => ?_
  refine sMm S rfl rfl rfl rfl rfl fun a S => ?_
  refine sSkN 5 30 true 105 S rfl rfl rfl rfl fun a S => ?_
  refine sPickF (.bool false) S (wN rfl) rfl rfl rfl rfl rfl (lb rfl) fun a S => ?_
  refine sMm S rfl rfl rfl rfl rfl fun a S => ?_
  refine sSkN 2 37 true 112 S rfl rfl rfl rfl fun a S => ?_
  refine sPickF (.bool false) S (wN rfl) rfl rfl rfl rfl rfl (lb rfl) fun a S => ?_
  refine sMm S rfl rfl rfl rfl rfl fun a S => ?_
  refine sSkN 2 41 true 116 S rfl rfl rfl rfl fun a S => ?_
  refine sPickF (.bool false) S (wN rfl) rfl rfl rfl rfl rfl (lb rfl) fun a S => ?_
  refine sMa S rfl rfl rfl rfl rfl fun a S => ?_
  exact lT (⟨false, Option.some.inj h, S.fix [] [] (by decide) rfl rfl rfl⟩)
 refine sMove (iv r17.1) S (wG 1 true 76 rfl rfl rfl hc95) (.inl rfl) rfl rfl (lb rfl) fun a S => ?_
 refine sBin _ S (wG 1 true 76 rfl rfl rfl hc95) rfl rfl rfl (bEq _ _ _ _ .i64 r17.1 2) rfl (lb rfl) fun a S => ?_
 refine sPickT (.bool (r17.1 == 2)) S (wN rfl) rfl rfl hc95 rfl rfl (lb rfl) fun a S => ?_
 refine sMm S rfl rfl rfl rfl rfl fun a S => ?_
 rcases iteSome h with ⟨hc96, h⟩ | ⟨hc96, h⟩
 rotate_left
 ·exact absurd hc96 (by rw [hv_r17]; decide)
 refine sMove (iv r30.1) S (wG 5 true 80 rfl rfl rfl hc96) (.inl rfl) rfl rfl (lb rfl) fun a S => ?_
 refine sBin _ S (wG 5 true 80 rfl rfl rfl hc96) rfl rfl rfl (bEq _ _ _ _ .i64 r30.1 0) rfl (lb rfl) fun a S => ?_
 refine sPickT (.bool (r30.1 == 0)) S (wN rfl) rfl rfl hc96 rfl rfl (lb rfl) fun a S => ?_
 refine sMm S rfl rfl rfl rfl rfl fun a S => ?_
 rcases iteSome h with ⟨hc97, h⟩ | ⟨hc97, h⟩
 rotate_left
 ·exact absurd hc97 (by rw [hv_r30]; decide)
 refine sMove (iv r30.2.1) S (wG 9 true 84 rfl rfl rfl hc97) (.inl rfl) rfl rfl (lb rfl) fun a S => ?_
 refine sBin _ S (wG 9 true 84 rfl rfl rfl hc97) rfl rfl rfl (bEq _ _ _ _ .i64 r30.2.1 0) rfl (lb rfl) fun a S => ?_
 refine sPickT (.bool (r30.2.1 == 0)) S (wN rfl) rfl rfl hc97 rfl rfl (lb rfl) fun a S => ?_
 refine sMm S rfl rfl rfl rfl rfl fun a S => ?_
 rcases iteSome h with ⟨hc98, h⟩ | ⟨hc98, h⟩
 rotate_left
 ·exact absurd hc98 (by rw [hv_r30]; decide)
 refine sLoadN (p := b33) (off := 0) (T := 33) (vs := [iv r30.2.2.1.X, iv r30.2.2.1.Y]) 3 [iv r30.2.2.1.X, iv r30.2.2.1.Y] S (wG 13 true 88 rfl rfl rfl hc98) rfl rfl rfl rfl rfl rfl rfl (lb rfl) fun a S => ?_
 refine sBuild [(0, iv 1)] [iv 1, iv 0] S (wG 13 true 88 rfl rfl rfl hc98) rfl rfl rfl rfl (lb rfl) fun a S => ?_
 refine sBin _ S (wG 13 true 88 rfl rfl rfl hc98) rfl rfl rfl (bEqV _ _ _ _ #[iv r30.2.2.1.X, iv r30.2.2.1.Y] #[iv 1, iv 0] ((r30.2.2.1.X == 1) && ((r30.2.2.1.Y == 0) && true)) (by kernel_rfl) (eqlV_of (by kernel_rfl))) rfl (lb rfl) fun a S => ?_
 refine sPickT (.bool ((r30.2.2.1.X == 1) && ((r30.2.2.1.Y == 0) && true))) S (wN rfl) rfl rfl hc98 rfl rfl (lb rfl) fun a S => ?_
 refine sMm S rfl rfl rfl rfl rfl fun a S => ?_
 rcases iteSome h with ⟨hc99, h⟩ | ⟨hc99, h⟩
 rotate_left
 ·exact absurd hc99 (by rw [hv_r30]; decide)
 refine sMove (.slice ad48 r45.1.length cp49) S (wG 18 true 93 rfl rfl rfl hc99) (.inl rfl) rfl rfl (lb rfl) fun a S => ?_
 refine sLoadN (p := b84) (off := 0) (T := 83) (vs := [.int .u8 1, .int .u8 0, .bool false, iv 0, iv 0]) 2 [.int .u8 1, .int .u8 0, .bool false, iv 0, iv 0] S (wG 18 true 93 rfl rfl rfl hc99) rfl rfl rfl rfl rfl rfl rfl (lb rfl) fun a S => ?_
 refine sLoadN (p := b85) (off := 0) (T := 83) (vs := [.int .u8 2, .int .u8 2, .bool false, iv 0, iv 0]) 1 [.int .u8 2, .int .u8 2, .bool false, iv 0, iv 0] S (wG 18 true 93 rfl rfl rfl hc99) rfl rfl rfl rfl rfl rfl rfl (lb rfl) fun a S => ?_
 refine sLoadN (p := b84) (off := 0) (T := 83) (vs := [.int .u8 1, .int .u8 0, .bool false, iv 0, iv 0]) 2 [.int .u8 1, .int .u8 0, .bool false, iv 0, iv 0] S (wG 18 true 93 rfl rfl rfl hc99) rfl rfl rfl rfl rfl rfl rfl (lb rfl) fun a S => ?_
 have S := S.learn (fRep r_api_CellStep (.agg #[.int .u8 1, .int .u8 0, .bool false, iv 0, iv 0]) (api_CellStep.mk 1 (api_Stitch.mk 0 false 0 0))) rfl
 have S := S.learn (fRep r_api_CellStep (.agg #[.int .u8 2, .int .u8 2, .bool false, iv 0, iv 0]) (api_CellStep.mk 2 (api_Stitch.mk 2 false 0 0))) rfl
 refine sLit (r := r_api_CellStep) (T := 83) (xs := [(api_CellStep.mk 1 (api_Stitch.mk 0 false 0 0)), (api_CellStep.mk 2 (api_Stitch.mk 2 false 0 0)), (api_CellStep.mk 1 (api_Stitch.mk 0 false 0 0))]) [(0, .agg #[.int .u8 1, .int .u8 0, .bool false, iv 0, iv 0]), (1, .agg #[.int .u8 2, .int .u8 2, .bool false, iv 0, iv 0]), (2, .agg #[.int .u8 1, .int .u8 0, .bool false, iv 0, iv 0])] 3 [.agg #[.int .u8 1, .int .u8 0, .bool false, iv 0, iv 0], .agg #[.int .u8 2, .int .u8 2, .bool false, iv 0, iv 0], .agg #[.int .u8 1, .int .u8 0, .bool false, iv 0, iv 0]] [.int .u8 1, .int .u8 0, .bool false, iv 0, iv 0, .int .u8 2, .int .u8 2, .bool false, iv 0, iv 0, .int .u8 1, .int .u8 0, .bool false, iv 0, iv 0] (.agg #[.int .u8 0, .int .u8 0, .bool false, iv 0, iv 0]) 32 S (wG 18 true 93 rfl rfl rfl hc99) rfl rfl Try.underlying48 rfl (by decide) (by decide) (by kernel_rfl) rfl (fun E1 w1 hE => All.cons (r_api_CellStep.mono hE (S.mem.know (i := 1) (e := fRep r_api_CellStep (.agg #[.int .u8 1, .int .u8 0, .bool false, iv 0, iv 0]) (api_CellStep.mk 1 (api_Stitch.mk 0 false 0 0))) rfl)) (All.cons (r_api_CellStep.mono hE (S.mem.know (i := 0) (e := fRep r_api_CellStep (.agg #[.int .u8 2, .int .u8 2, .bool false, iv 0, iv 0]) (api_CellStep.mk 2 (api_Stitch.mk 2 false 0 0))) rfl)) (All.cons (r_api_CellStep.mono hE (S.mem.know (i := 1) (e := fRep r_api_CellStep (.agg #[.int .u8 1, .int .u8 0, .bool false, iv 0, iv 0]) (api_CellStep.mk 1 (api_Stitch.mk 0 false 0 0))) rfl)) (All.nil _ _ _)))) rfl rfl (lb rfl) fun a w ad100 cp101 S => ?_
 obtain ⟨r102, hx103, h⟩ := bindSome h
 have hv_r102 : r102 = true := Option.some.inj (hx103.symm.trans (by rw [hv_r45]; exact kc_raddlelaw46_alive_13))
 have S1 := S.mem
 have S1 := S1.shutR (r := r_api_CellStep) (T := 83) (v := .slice ad100 [(api_CellStep.mk 1 (api_Stitch.mk 0 false 0 0)), (api_CellStep.mk 2 (api_Stitch.mk 2 false 0 0)), (api_CellStep.mk 1 (api_Stitch.mk 0 false 0 0))].length cp101) (xs := [(api_CellStep.mk 1 (api_Stitch.mk 0 false 0 0)), (api_CellStep.mk 2 (api_Stitch.mk 2 false 0 0)), (api_CellStep.mk 1 (api_Stitch.mk 0 false 0 0))]) 0 rfl
 refine sCallQ (X := Unit) (f := 29) (vs := [.slice ad48 r45.1.length cp49, .slice ad100 [(api_CellStep.mk 1 (api_Stitch.mk 0 false 0 0)), (api_CellStep.mk 2 (api_Stitch.mk 2 false 0 0)), (api_CellStep.mk 1 (api_Stitch.mk 0 false 0 0))].length cp101]) (val := fun _ => .bool r102) S (wG 18 true 93 rfl rfl rfl hc99) rfl callee29 rfl (S1.quiet [10, 0] rfl) (fun E1 w1 S1 => c_raddleref46_Same E1 w1 r45.1 (.slice ad48 r45.1.length cp49) [(api_CellStep.mk 1 (api_Stitch.mk 0 false 0 0)), (api_CellStep.mk 2 (api_Stitch.mk 2 false 0 0)), (api_CellStep.mk 1 (api_Stitch.mk 0 false 0 0))] (.slice ad100 [(api_CellStep.mk 1 (api_Stitch.mk 0 false 0 0)), (api_CellStep.mk 2 (api_Stitch.mk 2 false 0 0)), (api_CellStep.mk 1 (api_Stitch.mk 0 false 0 0))].length cp101) r102 hx103 S1) rfl (lb rfl) fun _ a w S => ?_
 refine sPickT (.bool r102) S (wN rfl) rfl rfl hc99 rfl rfl (lb rfl) fun a S => ?_
 refine sMm S rfl rfl rfl rfl rfl fun a S => ?_
 rcases iteSome h with ⟨hc104, h⟩ | ⟨hc104, h⟩
 rotate_left
 ·exact absurd hc104 (by rw [hv_r102]; decide)
 refine sMove (iv r45.2.1) S (wG 26 true 101 rfl rfl rfl hc104) (.inl rfl) rfl rfl (lb rfl) fun a S => ?_
 refine sBin _ S (wG 26 true 101 rfl rfl rfl hc104) rfl rfl rfl (bEq _ _ _ _ .i64 r45.2.1 1) rfl (lb rfl) fun a S => ?_
 refine sPickT (.bool (r45.2.1 == 1)) S (wN rfl) rfl rfl hc104 rfl rfl (lb rfl) fun a S => ?_
 refine sMm S rfl rfl rfl rfl rfl fun a S => ?_
 rcases iteSome h with ⟨hc105, h⟩ | ⟨hc105, h⟩
 rotate_left
 ·exact absurd hc105 (by rw [hv_r45]; decide)
 refine sMove (.slice ad64 r61.1.length cp65) S (wG 30 true 105 rfl rfl rfl hc105) (.inl rfl) rfl rfl (lb rfl) fun a S => ?_
 refine sLoadN (p := b86) (off := 0) (T := 83) (vs := [.int .u8 4, .int .u8 0, .bool false, iv 0, iv 0]) 1 [.int .u8 4, .int .u8 0, .bool false, iv 0, iv 0] S (wG 30 true 105 rfl rfl rfl hc105) rfl rfl rfl rfl rfl rfl rfl (lb rfl) fun a S => ?_
 refine sLoadN (p := b84) (off := 0) (T := 83) (vs := [.int .u8 1, .int .u8 0, .bool false, iv 0, iv 0]) 3 [.int .u8 1, .int .u8 0, .bool false, iv 0, iv 0] S (wG 30 true 105 rfl rfl rfl hc105) rfl rfl rfl rfl rfl rfl rfl (lb rfl) fun a S => ?_
 have S := S.learn (fRep r_api_CellStep (.agg #[.int .u8 4, .int .u8 0, .bool false, iv 0, iv 0]) (api_CellStep.mk 4 (api_Stitch.mk 0 false 0 0))) rfl
 refine sLit (r := r_api_CellStep) (T := 83) (xs := [(api_CellStep.mk 4 (api_Stitch.mk 0 false 0 0)), (api_CellStep.mk 1 (api_Stitch.mk 0 false 0 0))]) [(0, .agg #[.int .u8 4, .int .u8 0, .bool false, iv 0, iv 0]), (1, .agg #[.int .u8 1, .int .u8 0, .bool false, iv 0, iv 0])] 2 [.agg #[.int .u8 4, .int .u8 0, .bool false, iv 0, iv 0], .agg #[.int .u8 1, .int .u8 0, .bool false, iv 0, iv 0]] [.int .u8 4, .int .u8 0, .bool false, iv 0, iv 0, .int .u8 1, .int .u8 0, .bool false, iv 0, iv 0] (.agg #[.int .u8 0, .int .u8 0, .bool false, iv 0, iv 0]) 32 S (wG 30 true 105 rfl rfl rfl hc105) rfl rfl Try.underlying48 rfl (by decide) (by decide) (by kernel_rfl) rfl (fun E1 w1 hE => All.cons (r_api_CellStep.mono hE (S.mem.know (i := 0) (e := fRep r_api_CellStep (.agg #[.int .u8 4, .int .u8 0, .bool false, iv 0, iv 0]) (api_CellStep.mk 4 (api_Stitch.mk 0 false 0 0))) rfl)) (All.cons (r_api_CellStep.mono hE (S.mem.know (i := 2) (e := fRep r_api_CellStep (.agg #[.int .u8 1, .int .u8 0, .bool false, iv 0, iv 0]) (api_CellStep.mk 1 (api_Stitch.mk 0 false 0 0))) rfl)) (All.nil _ _ _))) rfl rfl (lb rfl) fun a w ad106 cp107 S => ?_
 obtain ⟨r108, hx109, h⟩ := bindSome h
 have hv_r108 : r108 = true := Option.some.inj (hx109.symm.trans (by rw [hv_r61]; exact kc_raddlelaw46_alive_14))
 have S1 := S.mem
 have S1 := S1.shutR (r := r_api_CellStep) (T := 83) (v := .slice ad106 [(api_CellStep.mk 4 (api_Stitch.mk 0 false 0 0)), (api_CellStep.mk 1 (api_Stitch.mk 0 false 0 0))].length cp107) (xs := [(api_CellStep.mk 4 (api_Stitch.mk 0 false 0 0)), (api_CellStep.mk 1 (api_Stitch.mk 0 false 0 0))]) 0 rfl
 refine sCallQ (X := Unit) (f := 29) (vs := [.slice ad64 r61.1.length cp65, .slice ad106 [(api_CellStep.mk 4 (api_Stitch.mk 0 false 0 0)), (api_CellStep.mk 1 (api_Stitch.mk 0 false 0 0))].length cp107]) (val := fun _ => .bool r108) S (wG 30 true 105 rfl rfl rfl hc105) rfl callee29 rfl (S1.quiet [8, 0] rfl) (fun E1 w1 S1 => c_raddleref46_Same E1 w1 r61.1 (.slice ad64 r61.1.length cp65) [(api_CellStep.mk 4 (api_Stitch.mk 0 false 0 0)), (api_CellStep.mk 1 (api_Stitch.mk 0 false 0 0))] (.slice ad106 [(api_CellStep.mk 4 (api_Stitch.mk 0 false 0 0)), (api_CellStep.mk 1 (api_Stitch.mk 0 false 0 0))].length cp107) r108 hx109 S1) rfl (lb rfl) fun _ a w S => ?_
 refine sPickT (.bool r108) S (wN rfl) rfl rfl hc105 rfl rfl (lb rfl) fun a S => ?_
 refine sMm S rfl rfl rfl rfl rfl fun a S => ?_
 rcases iteSome h with ⟨hc110, h⟩ | ⟨hc110, h⟩
 rotate_left
 ·exact absurd hc110 (by rw [hv_r108]; decide)
 refine sMove (iv r61.2.1) S (wG 37 true 112 rfl rfl rfl hc110) (.inl rfl) rfl rfl (lb rfl) fun a S => ?_
 refine sBin _ S (wG 37 true 112 rfl rfl rfl hc110) rfl rfl rfl (bEq _ _ _ _ .i64 r61.2.1 1) rfl (lb rfl) fun a S => ?_
 refine sPickT (.bool (r61.2.1 == 1)) S (wN rfl) rfl rfl hc110 rfl rfl (lb rfl) fun a S => ?_
 refine sMm S rfl rfl rfl rfl rfl fun a S => ?_
 rcases iteSome h with ⟨hc111, h⟩ | ⟨hc111, h⟩
 rotate_left
 ·exact absurd hc111 (by rw [hv_r61]; decide)
 refine sMove (iv r81.1) S (wG 41 true 116 rfl rfl rfl hc111) (.inl rfl) rfl rfl (lb rfl) fun a S => ?_
 refine sBin _ S (wG 41 true 116 rfl rfl rfl hc111) rfl rfl rfl (bEq _ _ _ _ .i64 r81.1 3) rfl (lb rfl) fun a S => ?_
 refine sPickT (.bool (r81.1 == 3)) S (wN rfl) rfl rfl hc111 rfl rfl (lb rfl) fun a S => ?_
 refine sMa S rfl rfl rfl rfl rfl fun a S => ?_
 exact lT (⟨r81.1 == 3, Option.some.inj h, S.fix [] [] (by decide) rfl rfl rfl⟩)
end Go.Proofs.Ytffikfajljbmnaa
