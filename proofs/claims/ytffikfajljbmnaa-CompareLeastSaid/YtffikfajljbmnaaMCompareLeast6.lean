/- CompareLeast: walks, tables, laws. -/
import Derived.Test.YtffikfajljbmnaaProg
import Derived.Test.YtffikfajljbmnaaRows
import Derived.Test.YtffikfajljbmnaaMCompareLeast5
set_option linter.unusedVariables false
set_option linter.unusedSimpArgs false
set_option maxHeartbeats 4000000
set_option maxRecDepth 100000
namespace Go.Proofs.Ytffikfajljbmnaa
open Go.RowKit
noncomputable def raddleref26_Parse_l1 (r8 : (List ByteArray)) (a5 : Int) : Int → Option (Int ⊕ Int) := fun s0 => match s0 with
 | a0 =>
  Option.bind (α := Bool) (
   (idxO r8 a5).bind fun a4 =>
   if decide (a0 < (a4.size : Int)) then
    (idxS a4 a0).bind fun a6 =>
    some (a6 != 32)
   else
    some false) fun a7 =>
  if a7 then
   some (.inl (w64 (a0 + 1)))
  else
   some (.inr a0)
noncomputable def raddleref26_Parse_l2 (r8 : (List ByteArray)) : (Int × List api_Row) → Option ((Int × List api_Row) ⊕ ((api_Chart × Int) ⊕ (List api_Row))) := fun s0 => match s0 with
 | (a4, ae) =>
  if decide ((w64 (a4 + 1)) < (r8.length : Int)) then
   Option.bind (α := List api_Row ⊕ (api_Chart × Int)) (
    Option.bind (α := Int) (
     (whileO (raddleref26_Parse_l1 r8 a4) 0).bind fun af =>
      some af) fun a7 =>
    Option.bind (α := Bool) (
     (idxO r8 a4).bind fun a8 =>
     (sliceS a8 0 a7).bind fun a5 =>
     if a5 != (⟨#[102, 114, 111, 110, 116]⟩ : ByteArray) then
      some (a5 != (⟨#[98, 97, 99, 107]⟩ : ByteArray))
     else
      some false) fun ag =>
    if ag then
     some (.inr ((api_Chart.mk 0 ([] : (List api_Row))), 12))
    else
     (idxO r8 a4).bind fun a0 =>
     (sliceS a0 0 a7).bind fun a9 =>
     Option.bind (α := List api_Stitch ⊕ (api_Chart × Int)) (
      if decide (a7 < (a0.size : Int)) then
       (sliceS a0 (w64 (a7 + 1)) (a0.size : Int)).bind fun aa =>
       (F_raddleref25_Parse aa).bind fun a6 =>
       if a6.2 != 0 then
        some (.inr ((api_Chart.mk 0 ([] : (List api_Row))), 12))
       else
        some (.inl a6.1)
      else
       some (.inl ([] : List api_Stitch))) fun z0 => match z0 with
      | .inl ab =>
       (appO ae [(api_Row.mk (a9 == (⟨#[98, 97, 99, 107]⟩ : ByteArray)) ab)]).bind fun ac =>
       some (.inl ac)
      | .inr z =>
       some (.inr z)) fun z0 => match z0 with
    | .inl ah =>
     some (.inl (w64 (a4 + 1), ah))
    | .inr z =>
     some (.inr (.inl z))
  else
   some (.inr (.inr ae))
noncomputable def F_raddleref26_Parse (p0 : ByteArray) : Option (api_Chart × Int) :=
 if decide (20000 < (p0.size : Int)) then
  some ((api_Chart.mk 0 ([] : (List api_Row))), 12)
 else
  (F_raddleref25_Cut p0 10).bind fun r8 =>
  Option.bind (α := Bool) (
   if decide ((r8.length : Int) < 2) then
    some true
   else
    if decide (100 < (w64 ((r8.length : Int) - 2))) then
     some true
    else
     (idxO r8 0).bind fun a8 =>
     if decide ((a8.size : Int) < 7) then
      some true
     else
      (sliceS a8 0 6).bind fun aa =>
      some (aa != (⟨#[115, 116, 97, 114, 116, 32]⟩ : ByteArray))) fun ab =>
  if ab then
   some ((api_Chart.mk 0 ([] : (List api_Row))), 12)
  else
   (idxO r8 0).bind fun a9 =>
   (sliceS a9 6 (a9.size : Int)).bind fun ac =>
   (F_raddleref25_Number ac).bind fun a4 =>
   if !a4.2 then
    some ((api_Chart.mk 0 ([] : (List api_Row))), 12)
   else
    Option.bind (α := List api_Row ⊕ (api_Chart × Int)) (
     (whileO (raddleref26_Parse_l2 r8) (1, ([] : List api_Row))).bind fun z0 => match z0 with
      | .inl z =>
       some (.inr z)
      | .inr ae =>
       some (.inl ae)) fun z0 => match z0 with
     | .inl a5 =>
      (F_raddleref26_Check (api_Chart.mk a4.1 a5)).bind fun a6 =>
      if a6 != 0 then
       some ((api_Chart.mk 0 ([] : (List api_Row))), 12)
      else
       (F_raddleref26_Written (api_Chart.mk a4.1 a5)).bind fun a0 =>
       Option.bind (α := Bool) (
        if !a0.2 then
         some true
        else
         some (a0.1 != p0)) fun a7 =>
       if a7 then
        some ((api_Chart.mk 0 ([] : (List api_Row))), 12)
       else
        some ((api_Chart.mk a4.1 a5), 0)
     | .inr z =>
      some z
def c_raddleref26_Parse_val (r : (api_Chart × Int)) (x : Value) : Value := .tuple #[x, .int .i64 r.2]
def c_raddleref26_Parse_D (r : (api_Chart × Int)) (x : Value) : List Fact := [fRep r_api_Chart x r.1]
theorem c_raddleref26_Parse (E : Nat → Prop) (w0 : World) (p0 : ByteArray) (r : (api_Chart × Int)) (h : F_raddleref26_Parse p0 = some r) (S : St0 E [] w0 w0 [] []) :
 Calls Try.prog 79 #[.string p0] w0 (Ret (X := Value) E [] w0 (c_raddleref26_Parse_val r) (fun _ => []) (c_raddleref26_Parse_D r)) := by
 unfold F_raddleref26_Parse at h
 refine sEnter (args := [.string p0]) 155 Try.func79 rfl rfl (by simp) S (fun a S => ?_)
 refine sSeq (fun K1 cZ => sRegion (sAlloc (.agg #[iv 0, .slice none 0 0]) S (wN rfl) rfl rfl [iv 0, .slice none 0 0] rfl rfl (lb rfl) fun a b2 w S => ?_))
 refine sN S fun a S => ?_
 refine lT (cZ _ _ (sSeq (fun K3 d4 => sSeq (fun K4 d5 => sRegion (sM S fun a S => ?_)))))
 refine sLenS (v := p0) S (wN rfl) rfl Try.underlying9 rfl rfl (lb rfl) fun a S => ?_
 refine sBin _ S (wN rfl) rfl rfl rfl (bGt _ _ _ _ .i64 (p0.size : Int) 20000) rfl (lb rfl) fun a S => ?_
 refine lT (d5 _ _ ?_)
 rcases iS h with ⟨ca, h⟩ | ⟨ca, h⟩
 ·refine sCondT S rfl ca ?_
  refine sSeq (fun K6 d6 => sRegion (sBuild [] [iv 0, .slice none 0 0] S (wN rfl) rfl rfl rfl rfl (lb rfl) fun a S => ?_))
  refine sStore (p := b2) (off := 0) (T := 42) (vs := [iv 0, .slice none 0 0]) (v := .agg #[iv 0, .slice none 0 0]) 0 [iv 0, .slice none 0 0] S (wN rfl) rfl rfl rfl rfl rfl rfl rfl (by simp) rfl fun a w S => ?_
  refine sN S fun a S => ?_
  refine lT (d6 _ _ ?_)
  obtain rfl := tS h
  have S := S.learn (fRep (rL r_api_Row) (.slice none 0 0) ([] : (List api_Row))) (rL_nil _ _ _)
  have S := S.learn (fRep r_api_Chart (.agg #[iv 0, .slice none 0 0]) (api_Chart.mk 0 ([] : (List api_Row)))) ⟨_, rfl, S.mem.know (i := 0) (e := fRep (rL r_api_Row) (.slice none 0 0) ([] : (List api_Row))) rfl⟩
  exact wp_ret (rThen (sRet (.tuple #[.agg #[iv 0, .slice none 0 0], iv 12]) S (rsl2 rfl (rvN (c := 2) (t := 42) (T := 42) (p := b2) 0 [iv 0, .slice none 0 0] S rfl rfl rfl rfl) (rvT (t := 3) (v := iv 12) S rfl)) ⟨(.agg #[iv 0, .slice none 0 0]), rfl, S.mem.sel [] [0] (by decide) rfl rfl⟩))
 refine sCondF S rfl ca ?_
 refine wp_skip (leafT (d4 _ _ ?_))
 refine sSeq (fun K7 d7 => sRegion (sM S fun a S => ?_))
 obtain ⟨r8, d8, h⟩ := bS h
 refine sCall (X := Value) (f := 94) (vs := [.string p0, .int .u8 10]) (val := c_raddleref25_Cut_val r8) (B' := fun _ => []) (D' := c_raddleref25_Cut_D r8) [] [eBox b2 42 [iv 0, .slice none 0 0]] [] [0] [] S (wN rfl) rfl callee94 rfl (by decide) rfl rfl (fun E1 w1 S1 => c_raddleref25_Cut E1 w1 p0 10 r8 d8 S1) rfl (lb rfl) fun d9 a w S => ?_
 obtain ⟨a0, a4, _, rfl, _⟩ := S.mem.know (i := 0) (e := fRep (rL rS) (d9) r8) rfl
 refine sN S fun a S => ?_
 refine lT (d7 _ _ (sSeq (fun dC cb => ?_)))
 obtain ⟨da, h, db⟩ := bS h
 refine sCut (fun a w => ∃ cc, cc = da ∧ St [] E [] w0 155 a w [(0, .string p0), (2, .pointer (some ⟨b2, 0, none⟩)), (4, .slice a0 r8.length a4), (43, .bool cc)] [eBox b2 42 [iv 0, .slice none 0 0]] [fRep (rL rS) (.slice a0 r8.length a4) r8]) ?_ (fun a w hI => ?_)
 ·refine sRegion (sM S fun a S => ?_)
  refine sLen S (wN rfl) rfl Try.underlying142 rfl rfl (lb rfl) fun a S => ?_
  refine sBin _ S (wN rfl) rfl rfl rfl (bLt _ _ _ _ .i64 (r8.length : Int) 2) rfl (lb rfl) fun a S => ?_
  refine sM S fun a S => ?_
  rcases iS h with ⟨ay, h⟩ | ⟨ay, h⟩
  ·refine sSkN 4 3 false 24 S rfl rfl ay rfl fun a S => ?_
   refine sPickT (.bool true) S (wN rfl) rfl rfl ay rfl rfl (lb rfl) fun a S => ?_
   refine sM S fun a S => ?_
   refine sSkN 5 9 false 30 S rfl rfl rfl rfl fun a S => ?_
   refine sPickT (.bool true) S (wN rfl) rfl rfl rfl rfl rfl (lb rfl) fun a S => ?_
   refine sM S fun a S => ?_
   refine sSkN 5 16 false 37 S rfl rfl rfl rfl fun a S => ?_
   refine sPickT (.bool true) S (wN rfl) rfl rfl rfl rfl rfl (lb rfl) fun a S => ?_
   exact lT (⟨true, Option.some.inj h, S.fix [0] [0] (by decide) rfl rfl rfl⟩)
  refine sMove (.slice a0 r8.length a4) S (wG 3 false 24 rfl rfl rfl ay) (.inl rfl) rfl rfl (lb rfl) fun a S => ?_
  refine sLen S (wG 3 false 24 rfl rfl rfl ay) rfl Try.underlying142 rfl rfl (lb rfl) fun a S => ?_
  refine sBin _ S (wG 3 false 24 rfl rfl rfl ay) rfl rfl rfl (bSub _ _ _ _ (r8.length : Int) 2) rfl (lb rfl) fun a S => ?_
  refine sBin _ S (wG 3 false 24 rfl rfl rfl ay) rfl rfl rfl (bGt _ _ _ _ .i64 (w64 ((r8.length : Int) - 2)) 100) rfl (lb rfl) fun a S => ?_
  refine sPickF (.bool (decide (100 < (w64 ((r8.length : Int) - 2))))) S (wN rfl) rfl rfl ay rfl rfl (lb rfl) fun a S => ?_
  refine sM S fun a S => ?_
  rcases iS h with ⟨aw, h⟩ | ⟨aw, h⟩
  ·refine sSkN 5 9 false 30 S rfl rfl aw rfl fun a S => ?_
   refine sPickT (.bool true) S (wN rfl) rfl rfl aw rfl rfl (lb rfl) fun a S => ?_
   refine sM S fun a S => ?_
   refine sSkN 5 16 false 37 S rfl rfl rfl rfl fun a S => ?_
   refine sPickT (.bool true) S (wN rfl) rfl rfl rfl rfl rfl (lb rfl) fun a S => ?_
   exact lT (⟨true, Option.some.inj h, S.fix [0] [0] (by decide) rfl rfl rfl⟩)
  refine sMove (.slice a0 r8.length a4) S (wG 9 false 30 rfl rfl rfl aw) (.inl rfl) rfl rfl (lb rfl) fun a S => ?_
  obtain ⟨aG, bk, h⟩ := bS h
  obtain ⟨cP, cd, S⟩ := pIdx (P := Try.prog) (r := rS) (v := .slice a0 r8.length a4) (xs := r8) (j := 0) 142 9 0 S Try.underlying142 rfl rfl bk
  refine sIdxV S (wG 9 false 30 rfl rfl rfl aw) rfl rfl rfl cd rfl (lb rfl) fun a S => ?_
  obtain ⟨cQ, S⟩ := pLoad (r := rS) (q := cP) (x := aG) 0 S rfl
  obtain rfl : cQ = .string aG := S.mem.know (i := 1) (e := fRep rS (cQ) aG) rfl
  refine sLoadV1 (vq := cP) 0 (.string aG) S (wG 9 false 30 rfl rfl rfl aw) rfl rfl rfl rfl rfl (lb rfl) fun a S => ?_
  refine sLenS (v := aG) S (wG 9 false 30 rfl rfl rfl aw) rfl Try.underlying9 rfl rfl (lb rfl) fun a S => ?_
  refine sBin _ S (wG 9 false 30 rfl rfl rfl aw) rfl rfl rfl (bLt _ _ _ _ .i64 (aG.size : Int) 7) rfl (lb rfl) fun a S => ?_
  refine sPickF (.bool (decide ((aG.size : Int) < 7))) S (wN rfl) rfl rfl aw rfl rfl (lb rfl) fun a S => ?_
  refine sM S fun a S => ?_
  rcases iS h with ⟨ax, h⟩ | ⟨ax, h⟩
  ·refine sSkN 5 16 false 37 S rfl rfl ax rfl fun a S => ?_
   refine sPickT (.bool true) S (wN rfl) rfl rfl ax rfl rfl (lb rfl) fun a S => ?_
   exact lT (⟨true, Option.some.inj h, S.fix [0] [3] (by decide) rfl rfl rfl⟩)
  refine sMove (.slice a0 r8.length a4) S (wG 16 false 37 rfl rfl rfl ax) (.inl rfl) rfl rfl (lb rfl) fun a S => ?_
  obtain ⟨cR, ce, S⟩ := pIdx (P := Try.prog) (r := rS) (v := .slice a0 r8.length a4) (xs := r8) (j := 0) 142 9 3 S Try.underlying142 rfl rfl bk
  refine sIdxV S (wG 16 false 37 rfl rfl rfl ax) rfl rfl rfl ce rfl (lb rfl) fun a S => ?_
  obtain ⟨cS, S⟩ := pLoad (r := rS) (q := cR) (x := aG) 0 S rfl
  obtain rfl : cS = .string aG := S.mem.know (i := 1) (e := fRep rS (cS) aG) rfl
  refine sLoadV1 (vq := cR) 0 (.string aG) S (wG 16 false 37 rfl rfl rfl ax) rfl rfl rfl rfl rfl (lb rfl) fun a S => ?_
  obtain ⟨c9, cg, h⟩ := bS h
  refine sSliceS (v := aG) (u := c9) (vlo := none) (vhi := (some (.int .i64 6))) (lo' := 0) (hi' := 6) S (wG 16 false 37 rfl rfl rfl ax) rfl Try.underlying9 rfl rfl rfl (.inr ⟨rfl, rfl⟩) (.inl rfl) cg rfl (lb rfl) fun a S => ?_
  refine sBin _ S (wG 16 false 37 rfl rfl rfl ax) rfl rfl rfl (bNeS _ _ _ _ c9 (⟨#[115, 116, 97, 114, 116, 32]⟩ : ByteArray)) rfl (lb rfl) fun a S => ?_
  refine sPickF (.bool (c9 != (⟨#[115, 116, 97, 114, 116, 32]⟩ : ByteArray))) S (wN rfl) rfl rfl ax rfl rfl (lb rfl) fun a S => ?_
  exact lT (⟨c9 != (⟨#[115, 116, 97, 114, 116, 32]⟩ : ByteArray), Option.some.inj h, S.fix [0] [6] (by decide) rfl rfl rfl⟩)
 obtain ⟨cc, rfl, S⟩ := hI
 have h := db
 try dsimp only at h
 rcases iS h with ⟨aW, h⟩ | ⟨aW, h⟩
 ·refine sCondT S rfl aW ?_
  refine sSeq (fun dD ci => sRegion (sBuild [] [iv 0, .slice none 0 0] S (wN rfl) rfl rfl rfl rfl (lb rfl) fun a S => ?_))
  refine sStore (p := b2) (off := 0) (T := 42) (vs := [iv 0, .slice none 0 0]) (v := .agg #[iv 0, .slice none 0 0]) 0 [iv 0, .slice none 0 0] S (wN rfl) rfl rfl rfl rfl rfl rfl rfl (by simp) rfl fun a w S => ?_
  refine sN S fun a S => ?_
  refine lT (ci _ _ ?_)
  obtain rfl := tS h
  have S := S.learn (fRep (rL r_api_Row) (.slice none 0 0) ([] : (List api_Row))) (rL_nil _ _ _)
  have S := S.learn (fRep r_api_Chart (.agg #[iv 0, .slice none 0 0]) (api_Chart.mk 0 ([] : (List api_Row)))) ⟨_, rfl, S.mem.know (i := 0) (e := fRep (rL r_api_Row) (.slice none 0 0) ([] : (List api_Row))) rfl⟩
  exact wp_ret (rThen (sRet (.tuple #[.agg #[iv 0, .slice none 0 0], iv 12]) S (rsl2 rfl (rvN (c := 2) (t := 42) (T := 42) (p := b2) 0 [iv 0, .slice none 0 0] S rfl rfl rfl rfl) (rvT (t := 3) (v := iv 12) S rfl)) ⟨(.agg #[iv 0, .slice none 0 0]), rfl, S.mem.sel [] [0] (by decide) rfl rfl⟩))
 refine sCondF S rfl aW ?_
 refine wp_skip (leafT (cb _ _ ?_))
 refine sSeq (fun dE cj => sRegion (sM S fun a S => ?_))
 obtain ⟨bi, ck, h⟩ := bS h
 obtain ⟨cT, cl, S⟩ := pIdx (P := Try.prog) (r := rS) (v := .slice a0 r8.length a4) (xs := r8) (j := 0) 142 9 0 S Try.underlying142 rfl rfl ck
 refine sIdxV S (wN rfl) rfl rfl rfl cl rfl (lb rfl) fun a S => ?_
 obtain ⟨cU, S⟩ := pLoad (r := rS) (q := cT) (x := bi) 0 S rfl
 obtain rfl : cU = .string bi := S.mem.know (i := 1) (e := fRep rS (cU) bi) rfl
 refine sLoadV1 (vq := cT) 0 (.string bi) S (wN rfl) rfl rfl rfl rfl rfl (lb rfl) fun a S => ?_
 obtain ⟨cm, cn, h⟩ := bS h
 refine sSliceS (v := bi) (u := cm) (vlo := (some (.int .i64 6))) (vhi := none) (lo' := 6) (hi' := (bi.size : Int)) S (wN rfl) rfl Try.underlying9 rfl rfl rfl (.inl rfl) (.inr ⟨rfl, rfl⟩) cn rfl (lb rfl) fun a S => ?_
 obtain ⟨a7, co, h⟩ := bS h
 have S1 := S.mem
 refine sCq [.string cm] (.tuple #[iv a7.1, .bool a7.2]) S callee97 (S1.quiet [] rfl) (fun E1 w1 S1 => c_raddleref25_Number E1 w1 cm a7 co S1) fun a w S => ?_
 refine sM S fun a S => ?_
 refine sExtract (vs := [iv a7.1, .bool a7.2]) (iv a7.1) S (wN rfl) rfl rfl rfl rfl (lb rfl) fun a S => ?_
 refine sExtract (vs := [iv a7.1, .bool a7.2]) (.bool a7.2) S (wN rfl) rfl rfl rfl rfl (lb rfl) fun a S => ?_
 refine sN S fun a S => ?_
 refine sN S fun a S => ?_
 refine lT (cj _ _ (sSeq (fun dG cp => sSeq (fun dH cq => sRegion (sM S fun a S => ?_)))))
 refine sNot (b := a7.2) S (wN rfl) rfl rfl rfl (lb rfl) fun a S => ?_
 refine lT (cq _ _ ?_)
 rcases iS h with ⟨aX, h⟩ | ⟨aX, h⟩
 ·refine sCondT S rfl aX ?_
  refine sSeq (fun dI cr => sRegion (sBuild [] [iv 0, .slice none 0 0] S (wN rfl) rfl rfl rfl rfl (lb rfl) fun a S => ?_))
  refine sStore (p := b2) (off := 0) (T := 42) (vs := [iv 0, .slice none 0 0]) (v := .agg #[iv 0, .slice none 0 0]) 0 [iv 0, .slice none 0 0] S (wN rfl) rfl rfl rfl rfl rfl rfl rfl (by simp) rfl fun a w S => ?_
  refine sN S fun a S => ?_
  refine lT (cr _ _ ?_)
  obtain rfl := tS h
  have S := S.learn (fRep (rL r_api_Row) (.slice none 0 0) ([] : (List api_Row))) (rL_nil _ _ _)
  have S := S.learn (fRep r_api_Chart (.agg #[iv 0, .slice none 0 0]) (api_Chart.mk 0 ([] : (List api_Row)))) ⟨_, rfl, S.mem.know (i := 0) (e := fRep (rL r_api_Row) (.slice none 0 0) ([] : (List api_Row))) rfl⟩
  exact wp_ret (rThen (sRet (.tuple #[.agg #[iv 0, .slice none 0 0], iv 12]) S (rsl2 rfl (rvN (c := 2) (t := 42) (T := 42) (p := b2) 0 [iv 0, .slice none 0 0] S rfl rfl rfl rfl) (rvT (t := 3) (v := iv 12) S rfl)) ⟨(.agg #[iv 0, .slice none 0 0]), rfl, S.mem.sel [] [0] (by decide) rfl rfl⟩))
 refine sCondF S rfl aX ?_
 refine wp_skip (leafT (cp _ _ ?_))
 refine sSeq (fun dJ ct => sRegion (sM S fun a S => ?_))
 refine sBuild [(0, iv a7.1)] [iv a7.1, .slice none 0 0] S (wN rfl) rfl rfl rfl rfl (lb rfl) fun a S => ?_
 refine sAlloc (.agg #[iv 0, .slice none 0 0]) S (wN rfl) rfl rfl [iv 0, .slice none 0 0] rfl rfl (lb rfl) fun a am w S => ?_
 refine sStore (p := am) (off := 0) (T := 42) (vs := [iv 0, .slice none 0 0]) (v := .agg #[iv a7.1, .slice none 0 0]) 0 [iv a7.1, .slice none 0 0] S (wN rfl) rfl rfl rfl rfl rfl rfl rfl (by simp) rfl fun a w S => ?_
 refine lT (ct _ _ ?_)
 obtain ⟨dc, h, cu⟩ := bS h
 refine sCut (fun a w => ∃ a8, .inl a8 = dc ∧ ∃ a5, ∃ a6, St [] E [] w0 155 a w [(0, .string p0), (2, .pointer (some ⟨b2, 0, none⟩)), (7, .pointer (some ⟨am, 0, none⟩))] [eBox b2 42 [iv 0, .slice none 0 0], eBox am 42 [iv a7.1, .slice a5 a8.length a6], eRow r_api_Row 87 (.slice a5 a8.length a6) a8] []) ?_ (fun a w hI => ?_)
 rotate_left
 ·obtain ⟨a8, rfl, a5, a6, S⟩ := hI
  have h := cu
  try dsimp only at h
  refine sSeq (fun de bl => sSeq (fun df bm => sRegion (sLoadN (p := am) (off := 0) (T := 42) (vs := [iv a7.1, .slice a5 a8.length a6]) 1 [iv a7.1, .slice a5 a8.length a6] S (wN rfl) rfl rfl rfl rfl rfl rfl rfl (lb rfl) fun a S => ?_)))
  obtain ⟨aZ, bn, h⟩ := bS h
  have S1 := S.mem
  have S1 := S1.shutR (r := r_api_Row) (T := 87) (v := .slice a5 a8.length a6) (xs := a8) 2 rfl
  have S1 := S1.learn (fRep r_api_Chart (.agg #[iv a7.1, .slice a5 a8.length a6]) (api_Chart.mk a7.1 a8)) ⟨_, rfl, S1.know (i := 0) (e := fRep (rL r_api_Row) (.slice a5 a8.length a6) a8) rfl⟩
  refine sCq [.agg #[iv a7.1, .slice a5 a8.length a6]] (iv aZ) S callee39 (S1.quiet [0] rfl) (fun E1 w1 S1 => c_raddleref26_Check E1 w1 (api_Chart.mk a7.1 a8) (.agg #[iv a7.1, .slice a5 a8.length a6]) aZ bn S1) fun a w S => ?_
  refine sBin _ S (wN rfl) rfl rfl rfl (bNe _ _ _ _ .i64 aZ 0) rfl (lb rfl) fun a S => ?_
  refine lT (bm _ _ ?_)
  rcases iS h with ⟨aH, h⟩ | ⟨aH, h⟩
  ·refine sCondT S rfl aH ?_
   refine sSeq (fun dg bp => sRegion (sBuild [] [iv 0, .slice none 0 0] S (wN rfl) rfl rfl rfl rfl (lb rfl) fun a S => ?_))
   refine sStore (p := b2) (off := 0) (T := 42) (vs := [iv 0, .slice none 0 0]) (v := .agg #[iv 0, .slice none 0 0]) 0 [iv 0, .slice none 0 0] S (wN rfl) rfl rfl rfl rfl rfl rfl rfl (by simp) rfl fun a w S => ?_
   refine sN S fun a S => ?_
   refine lT (bp _ _ ?_)
   obtain rfl := tS h
   have S := S.learn (fRep (rL r_api_Row) (.slice none 0 0) ([] : (List api_Row))) (rL_nil _ _ _)
   have S := S.learn (fRep r_api_Chart (.agg #[iv 0, .slice none 0 0]) (api_Chart.mk 0 ([] : (List api_Row)))) ⟨_, rfl, S.mem.know (i := 0) (e := fRep (rL r_api_Row) (.slice none 0 0) ([] : (List api_Row))) rfl⟩
   exact wp_ret (rThen (sRet (.tuple #[.agg #[iv 0, .slice none 0 0], iv 12]) S (rsl2 rfl (rvN (c := 2) (t := 42) (T := 42) (p := b2) 0 [iv 0, .slice none 0 0] S rfl rfl rfl rfl) (rvT (t := 3) (v := iv 12) S rfl)) ⟨(.agg #[iv 0, .slice none 0 0]), rfl, S.mem.sel [] [0] (by decide) rfl rfl⟩))
  refine sCondF S rfl aH ?_
  refine wp_skip (leafT (bl _ _ ?_))
  refine sSeq (fun dh bq => sRegion (sLoadN (p := am) (off := 0) (T := 42) (vs := [iv a7.1, .slice a5 a8.length a6]) 1 [iv a7.1, .slice a5 a8.length a6] S (wN rfl) rfl rfl rfl rfl rfl rfl rfl (lb rfl) fun a S => ?_))
  obtain ⟨ai, br, h⟩ := bS h
  have S1 := S.mem
  have S1 := S1.shutR (r := r_api_Row) (T := 87) (v := .slice a5 a8.length a6) (xs := a8) 2 rfl
  have S1 := S1.learn (fRep r_api_Chart (.agg #[iv a7.1, .slice a5 a8.length a6]) (api_Chart.mk a7.1 a8)) ⟨_, rfl, S1.know (i := 0) (e := fRep (rL r_api_Row) (.slice a5 a8.length a6) a8) rfl⟩
  refine sCq [.agg #[iv a7.1, .slice a5 a8.length a6]] (.tuple #[.string ai.1, .bool ai.2]) S callee98 (S1.quiet [0] rfl) (fun E1 w1 S1 => c_raddleref26_Written E1 w1 (api_Chart.mk a7.1 a8) (.agg #[iv a7.1, .slice a5 a8.length a6]) ai br S1) fun a w S => ?_
  refine sM S fun a S => ?_
  refine sExtract (vs := [.string ai.1, .bool ai.2]) (.string ai.1) S (wN rfl) rfl rfl rfl rfl (lb rfl) fun a S => ?_
  refine sExtract (vs := [.string ai.1, .bool ai.2]) (.bool ai.2) S (wN rfl) rfl rfl rfl rfl (lb rfl) fun a S => ?_
  refine sN S fun a S => ?_
  refine sN S fun a S => ?_
  refine lT (bq _ _ (sSeq (fun di bt => ?_)))
  obtain ⟨cv, h, cw⟩ := bS h
  refine sCut (fun a w => ∃ ba, ba = cv ∧ St [] E [] w0 155 a w [(2, .pointer (some ⟨b2, 0, none⟩)), (7, .pointer (some ⟨am, 0, none⟩)), (152, .bool ba)] [eBox b2 42 [iv 0, .slice none 0 0], eBox am 42 [iv a7.1, .slice a5 a8.length a6], eRow r_api_Row 87 (.slice a5 a8.length a6) a8] []) ?_ (fun a w hI => ?_)
  ·refine sRegion (sM S fun a S => ?_)
   refine sNot (b := ai.2) S (wN rfl) rfl rfl rfl (lb rfl) fun a S => ?_
   refine sM S fun a S => ?_
   rcases iS h with ⟨ao, h⟩ | ⟨ao, h⟩
   ·refine sSkN 3 2 false 148 S rfl rfl ao rfl fun a S => ?_
    refine sPickT (.bool true) S (wN rfl) rfl rfl ao rfl rfl (lb rfl) fun a S => ?_
    exact lT (⟨true, Option.some.inj h, S.fix [0, 1, 2] [] (by decide) rfl rfl rfl⟩)
   refine sMove (.string ai.1) S (wG 2 false 148 rfl rfl rfl ao) (.inl rfl) rfl rfl (lb rfl) fun a S => ?_
   refine sMove (.string p0) S (wG 2 false 148 rfl rfl rfl ao) (.inl rfl) rfl rfl (lb rfl) fun a S => ?_
   refine sBin _ S (wG 2 false 148 rfl rfl rfl ao) rfl rfl rfl (bNeS _ _ _ _ ai.1 p0) rfl (lb rfl) fun a S => ?_
   refine sPickF (.bool (ai.1 != p0)) S (wN rfl) rfl rfl ao rfl rfl (lb rfl) fun a S => ?_
   exact lT (⟨ai.1 != p0, Option.some.inj h, S.fix [0, 1, 2] [] (by decide) rfl rfl rfl⟩)
  obtain ⟨ba, rfl, S⟩ := hI
  have h := cw
  try dsimp only at h
  rcases iS h with ⟨aI, h⟩ | ⟨aI, h⟩
  ·refine sCondT S rfl aI ?_
   refine sSeq (fun dj bu => sRegion (sBuild [] [iv 0, .slice none 0 0] S (wN rfl) rfl rfl rfl rfl (lb rfl) fun a S => ?_))
   refine sStore (p := b2) (off := 0) (T := 42) (vs := [iv 0, .slice none 0 0]) (v := .agg #[iv 0, .slice none 0 0]) 0 [iv 0, .slice none 0 0] S (wN rfl) rfl rfl rfl rfl rfl rfl rfl (by simp) rfl fun a w S => ?_
   refine sN S fun a S => ?_
   refine lT (bu _ _ ?_)
   obtain rfl := tS h
   have S := S.learn (fRep (rL r_api_Row) (.slice none 0 0) ([] : (List api_Row))) (rL_nil _ _ _)
   have S := S.learn (fRep r_api_Chart (.agg #[iv 0, .slice none 0 0]) (api_Chart.mk 0 ([] : (List api_Row)))) ⟨_, rfl, S.mem.know (i := 0) (e := fRep (rL r_api_Row) (.slice none 0 0) ([] : (List api_Row))) rfl⟩
   exact wp_ret (rThen (sRet (.tuple #[.agg #[iv 0, .slice none 0 0], iv 12]) S (rsl2 rfl (rvN (c := 2) (t := 42) (T := 42) (p := b2) 0 [iv 0, .slice none 0 0] S rfl rfl rfl rfl) (rvT (t := 3) (v := iv 12) S rfl)) ⟨(.agg #[iv 0, .slice none 0 0]), rfl, S.mem.sel [] [0] (by decide) rfl rfl⟩))
  refine sCondF S rfl aI ?_
  refine wp_skip (leafT (bt _ _ ?_))
  refine sSeq (fun dk bv => sRegion (sLoadN (p := am) (off := 0) (T := 42) (vs := [iv a7.1, .slice a5 a8.length a6]) 1 [iv a7.1, .slice a5 a8.length a6] S (wN rfl) rfl rfl rfl rfl rfl rfl rfl (lb rfl) fun a S => ?_))
  refine sStore (p := b2) (off := 0) (T := 42) (vs := [iv 0, .slice none 0 0]) (v := .agg #[iv a7.1, .slice a5 a8.length a6]) 0 [iv a7.1, .slice a5 a8.length a6] S (wN rfl) rfl rfl rfl rfl rfl rfl rfl (by simp) rfl fun a w S => ?_
  refine sN S fun a S => ?_
  refine lT (bv _ _ ?_)
  obtain rfl := tS h
  have S := S.shutR (r := r_api_Row) (T := 87) (v := .slice a5 a8.length a6) (xs := a8) 2 rfl
  have S := S.learn (fRep r_api_Chart (.agg #[iv a7.1, .slice a5 a8.length a6]) (api_Chart.mk a7.1 a8)) ⟨_, rfl, S.mem.know (i := 0) (e := fRep (rL r_api_Row) (.slice a5 a8.length a6) a8) rfl⟩
  exact wp_ret (sRet (.tuple #[.agg #[iv a7.1, .slice a5 a8.length a6], iv 0]) S (rsl2 rfl (rvN (c := 2) (t := 42) (T := 42) (p := b2) 0 [iv a7.1, .slice a5 a8.length a6] S rfl rfl rfl rfl) (rvT (t := 3) (v := iv 0) S rfl)) ⟨(.agg #[iv a7.1, .slice a5 a8.length a6]), rfl, S.mem.sel [] [0] (by decide) rfl rfl⟩)
 refine sSeq (fun dK cx => sRegion (sN S fun a S => ?_))
 refine lT (cx _ _ (wp_block ?_))
 have S := S.nilRow r_api_Row 87 (α := api_Row)
 obtain ⟨dL, hl, cy⟩ := bS h
 refine sLoop hl (fun s0 a w => match s0 with | (aq, ak) => ∃ aa, ∃ ab, St [] E [] w0 155 a w [(0, .string p0), (2, .pointer (some ⟨b2, 0, none⟩)), (4, .slice a0 r8.length a4), (7, .pointer (some ⟨am, 0, none⟩)), (8, iv aq)] [eBox b2 42 [iv 0, .slice none 0 0], eBox am 42 [iv a7.1, .slice aa ak.length ab], eRow r_api_Row 87 (.slice aa ak.length ab) ak] [fRep (rL rS) (.slice a0 r8.length a4) r8]) ⟨none, 0, S.fix [2, 1, 0] [3] (by decide) rfl rfl rfl⟩ ?_
 clear hl h
 intro s0 a w c0 hI h bb
 obtain ⟨aq, ak⟩ := s0
 unfold raddleref26_Parse_l2 at h
 dsimp only at h hI
 obtain ⟨aa, ab, S⟩ := hI
 refine sSeq (fun dM cz => sSeq (fun dN cA => sRegion (sM S fun a S => ?_)))
 refine sBin _ S (wN rfl) rfl rfl rfl (bAdd _ _ _ _ aq 1) rfl (lb rfl) fun a S => ?_
 refine sM S fun a S => ?_
 refine sLen S (wN rfl) rfl Try.underlying142 rfl rfl (lb rfl) fun a S => ?_
 refine sBin _ S (wN rfl) rfl rfl rfl (bLt _ _ _ _ .i64 (w64 (aq + 1)) (r8.length : Int)) rfl (lb rfl) fun a S => ?_
 refine lT (cA _ _ ?_)
 rcases iS h with ⟨bc, h⟩ | ⟨bc, h⟩
 rotate_left
 ·refine sCondF S rfl bc ?_
  obtain rfl := tS h
  obtain rfl := bb _ rfl
  have h := cy
  try dsimp only at h
  exact wp_exit (xThen (xThen (xHit (leafT (⟨ak, Option.some.inj h, aa, ab, S.fix [0, 1, 2] [] (by decide) rfl rfl rfl⟩)))))
 refine sCondT S rfl bc ?_
 refine wp_skip (leafT (cz _ _ ?_))
 obtain ⟨dl, h, cB⟩ := bS h
 refine sCut (fun a w => ∃ bj, .inl bj = dl ∧ ∃ aR, ∃ aS, St [] E [] w0 155 a w [(0, .string p0), (2, .pointer (some ⟨b2, 0, none⟩)), (4, .slice a0 r8.length a4), (7, .pointer (some ⟨am, 0, none⟩)), (8, iv aq)] [eBox b2 42 [iv 0, .slice none 0 0], eBox am 42 [iv a7.1, .slice aR bj.length aS], eRow r_api_Row 87 (.slice aR bj.length aS) bj] [fRep (rL rS) (.slice a0 r8.length a4) r8]) ?_ (fun a w hI => ?_)
 rotate_left
 ·obtain ⟨bj, rfl, aR, aS, S⟩ := hI
  have h := cB
  try dsimp only at h
  refine sRegion (sM S fun a S => ?_)
  refine sBin _ S (wN rfl) rfl rfl rfl (bAdd _ _ _ _ aq 1) rfl (lb rfl) fun a S => ?_
  refine sN S fun a S => ?_
  exact lT (⟨(w64 (aq + 1), bj), (Option.some.inj h).symm, ⟨aR, aS, S.fix [0, 1, 2] [0] (by decide) rfl rfl rfl⟩⟩)
 refine wp_block ?_
 refine sSeq (fun dO cC => sRegion (sN S fun a S => ?_))
 refine lT (cC _ _ ?_)
 obtain ⟨dm, h, dn⟩ := bS h
 refine sCut (fun a w => ∃ az, az = dm ∧ St [] E [] w0 155 a w [(0, .string p0), (2, .pointer (some ⟨b2, 0, none⟩)), (4, .slice a0 r8.length a4), (7, .pointer (some ⟨am, 0, none⟩)), (8, iv aq), (9, iv az)] [eBox b2 42 [iv 0, .slice none 0 0], eBox am 42 [iv a7.1, .slice aa ak.length ab], eRow r_api_Row 87 (.slice aa ak.length ab) ak] [fRep (rL rS) (.slice a0 r8.length a4) r8]) ?_ (fun a w hI => ?_)
 ·refine wp_block ?_
  obtain ⟨dP, hl, dp⟩ := bS h
  refine sLoop hl (fun s0 a w => match s0 with | aT => St [] E [] w0 155 a w [(0, .string p0), (2, .pointer (some ⟨b2, 0, none⟩)), (4, .slice a0 r8.length a4), (7, .pointer (some ⟨am, 0, none⟩)), (8, iv aq), (9, iv aT)] [eBox b2 42 [iv 0, .slice none 0 0], eBox am 42 [iv a7.1, .slice aa ak.length ab], eRow r_api_Row 87 (.slice aa ak.length ab) ak] [fRep (rL rS) (.slice a0 r8.length a4) r8]) (S.fix [0, 1, 2] [0] (by decide) rfl rfl rfl) ?_
  clear hl h
  intro aT a w c0 hI h cD
  unfold raddleref26_Parse_l1 at h
  dsimp only at h hI
  have S := hI
  refine sSeq (fun dQ cE => ?_)
  obtain ⟨dr, h, dt⟩ := bS h
  refine sCut (fun a w => ∃ cF, cF = dr ∧ St [] E [] w0 155 a w [(0, .string p0), (2, .pointer (some ⟨b2, 0, none⟩)), (4, .slice a0 r8.length a4), (7, .pointer (some ⟨am, 0, none⟩)), (8, iv aq), (9, iv aT), (80, .bool cF)] [eBox b2 42 [iv 0, .slice none 0 0], eBox am 42 [iv a7.1, .slice aa ak.length ab], eRow r_api_Row 87 (.slice aa ak.length ab) ak] [fRep (rL rS) (.slice a0 r8.length a4) r8]) ?_ (fun a w hI => ?_)
  rotate_left
  ·obtain ⟨cF, rfl, S⟩ := hI
   have h := dt
   try dsimp only at h
   rcases iS h with ⟨bf, h⟩ | ⟨bf, h⟩
   rotate_left
   ·refine sCondF S rfl bf ?_
    obtain rfl := tS h
    obtain rfl := cD _ rfl
    have h := dp
    try dsimp only at h
    exact wp_exit (xThen (xThen (xHit (leafT (⟨aT, Option.some.inj h, S.fix [0, 1, 2] [0] (by decide) rfl rfl rfl⟩)))))
   refine sCondT S rfl bf ?_
   refine wp_skip (leafT (cE _ _ ?_))
   refine wp_block ?_
   refine sRegion (sM S fun a S => ?_)
   refine sBin _ S (wN rfl) rfl rfl rfl (bAdd _ _ _ _ aT 1) rfl (lb rfl) fun a S => ?_
   refine sN S fun a S => ?_
   exact leafL (leafB (leafT (⟨w64 (aT + 1), (Option.some.inj h).symm, (S.fix [0, 1, 2] [0] (by decide) rfl rfl rfl)⟩)))
  refine sRegion (sM S fun a S => ?_)
  refine sM S fun a S => ?_
  refine sM S fun a S => ?_
  obtain ⟨aJ, bw, h⟩ := bS h
  obtain ⟨cV, cG, S⟩ := pIdx (P := Try.prog) (r := rS) (v := .slice a0 r8.length a4) (xs := r8) (j := aq) 142 9 0 S Try.underlying142 rfl rfl bw
  refine sIdxV S (wN rfl) rfl rfl rfl cG rfl (lb rfl) fun a S => ?_
  obtain ⟨cW, S⟩ := pLoad (r := rS) (q := cV) (x := aJ) 0 S rfl
  obtain rfl : cW = .string aJ := S.mem.know (i := 1) (e := fRep rS (cW) aJ) rfl
  refine sLoadV1 (vq := cV) 0 (.string aJ) S (wN rfl) rfl rfl rfl rfl rfl (lb rfl) fun a S => ?_
  refine sLenS (v := aJ) S (wN rfl) rfl Try.underlying9 rfl rfl (lb rfl) fun a S => ?_
  refine sBin _ S (wN rfl) rfl rfl rfl (bLt _ _ _ _ .i64 aT (aJ.size : Int)) rfl (lb rfl) fun a S => ?_
  refine sM S fun a S => ?_
  rcases iS h with ⟨ap, h⟩ | ⟨ap, h⟩
  rotate_left
  ·refine sSkN 7 7 true 72 S rfl rfl ap rfl fun a S => ?_
   refine sPickF (.bool false) S (wN rfl) rfl rfl ap rfl rfl (lb rfl) fun a S => ?_
   exact lT (⟨false, Option.some.inj h, S.fix [0, 1, 2] [3] (by decide) rfl rfl rfl⟩)
  refine sMove (.slice a0 r8.length a4) S (wG 7 true 72 rfl rfl rfl ap) (.inl rfl) rfl rfl (lb rfl) fun a S => ?_
  refine sMove (iv aq) S (wG 7 true 72 rfl rfl rfl ap) (.inl rfl) rfl rfl (lb rfl) fun a S => ?_
  obtain ⟨cX, cH, S⟩ := pIdx (P := Try.prog) (r := rS) (v := .slice a0 r8.length a4) (xs := r8) (j := aq) 142 9 3 S Try.underlying142 rfl rfl bw
  refine sIdxV S (wG 7 true 72 rfl rfl rfl ap) rfl rfl rfl cH rfl (lb rfl) fun a S => ?_
  obtain ⟨cY, S⟩ := pLoad (r := rS) (q := cX) (x := aJ) 0 S rfl
  obtain rfl : cY = .string aJ := S.mem.know (i := 1) (e := fRep rS (cY) aJ) rfl
  refine sLoadV1 (vq := cX) 0 (.string aJ) S (wG 7 true 72 rfl rfl rfl ap) rfl rfl rfl rfl rfl (lb rfl) fun a S => ?_
  refine sMove (iv aT) S (wG 7 true 72 rfl rfl rfl ap) (.inl rfl) rfl rfl (lb rfl) fun a S => ?_
  obtain ⟨cI, cJ, h⟩ := bS h
  refine sIndexS (v := aJ) (j := aT) (k := .i64) S (wG 7 true 72 rfl rfl rfl ap) rfl Try.underlying9 rfl rfl cJ rfl (lb rfl) fun a S => ?_
  refine sBin _ S (wG 7 true 72 rfl rfl rfl ap) rfl rfl rfl (bNe _ _ _ _ .u8 cI 32) rfl (lb rfl) fun a S => ?_
  refine sPickT (.bool (cI != 32)) S (wN rfl) rfl rfl ap rfl rfl (lb rfl) fun a S => ?_
  exact lT (⟨cI != 32, Option.some.inj h, S.fix [0, 1, 2] [6] (by decide) rfl rfl rfl⟩)
 obtain ⟨az, rfl, S⟩ := hI
 have h := dn
 try dsimp only at h
 refine sSeq (fun dR cK => ?_)
 obtain ⟨du, h, cL⟩ := bS h
 refine sCut (fun a w => ∃ cM, cM = du ∧ St [] E [] w0 155 a w [(0, .string p0), (2, .pointer (some ⟨b2, 0, none⟩)), (4, .slice a0 r8.length a4), (7, .pointer (some ⟨am, 0, none⟩)), (8, iv aq), (9, iv az), (98, .bool cM)] [eBox b2 42 [iv 0, .slice none 0 0], eBox am 42 [iv a7.1, .slice aa ak.length ab], eRow r_api_Row 87 (.slice aa ak.length ab) ak] [fRep (rL rS) (.slice a0 r8.length a4) r8]) ?_ (fun a w hI => ?_)
 ·refine sRegion (sM S fun a S => ?_)
  refine sM S fun a S => ?_
  obtain ⟨ar, aU, h⟩ := bS h
  obtain ⟨bx, bz, S⟩ := pIdx (P := Try.prog) (r := rS) (v := .slice a0 r8.length a4) (xs := r8) (j := aq) 142 9 0 S Try.underlying142 rfl rfl aU
  refine sIdxV S (wN rfl) rfl rfl rfl bz rfl (lb rfl) fun a S => ?_
  obtain ⟨bA, S⟩ := pLoad (r := rS) (q := bx) (x := ar) 0 S rfl
  obtain rfl : bA = .string ar := S.mem.know (i := 1) (e := fRep rS (bA) ar) rfl
  refine sLoadV1 (vq := bx) 0 (.string ar) S (wN rfl) rfl rfl rfl rfl rfl (lb rfl) fun a S => ?_
  refine sM S fun a S => ?_
  obtain ⟨aC, aV, h⟩ := bS h
  refine sSliceS (v := ar) (u := aC) (vlo := none) (vhi := (some (.int .i64 az))) (lo' := 0) (hi' := az) S (wN rfl) rfl Try.underlying9 rfl rfl rfl (.inr ⟨rfl, rfl⟩) (.inl rfl) aV rfl (lb rfl) fun a S => ?_
  refine sBin _ S (wN rfl) rfl rfl rfl (bNeS _ _ _ _ aC (⟨#[102, 114, 111, 110, 116]⟩ : ByteArray)) rfl (lb rfl) fun a S => ?_
  refine sM S fun a S => ?_
  rcases iS h with ⟨ae, h⟩ | ⟨ae, h⟩
  rotate_left
  ·refine sSkN 7 7 true 90 S rfl rfl ae rfl fun a S => ?_
   refine sPickF (.bool false) S (wN rfl) rfl rfl ae rfl rfl (lb rfl) fun a S => ?_
   exact lT (⟨false, Option.some.inj h, S.fix [0, 1, 2] [3] (by decide) rfl rfl rfl⟩)
  refine sMove (.slice a0 r8.length a4) S (wG 7 true 90 rfl rfl rfl ae) (.inl rfl) rfl rfl (lb rfl) fun a S => ?_
  refine sMove (iv aq) S (wG 7 true 90 rfl rfl rfl ae) (.inl rfl) rfl rfl (lb rfl) fun a S => ?_
  obtain ⟨bB, bC, S⟩ := pIdx (P := Try.prog) (r := rS) (v := .slice a0 r8.length a4) (xs := r8) (j := aq) 142 9 3 S Try.underlying142 rfl rfl aU
  refine sIdxV S (wG 7 true 90 rfl rfl rfl ae) rfl rfl rfl bC rfl (lb rfl) fun a S => ?_
  obtain ⟨bD, S⟩ := pLoad (r := rS) (q := bB) (x := ar) 0 S rfl
  obtain rfl : bD = .string ar := S.mem.know (i := 1) (e := fRep rS (bD) ar) rfl
  refine sLoadV1 (vq := bB) 0 (.string ar) S (wG 7 true 90 rfl rfl rfl ae) rfl rfl rfl rfl rfl (lb rfl) fun a S => ?_
  refine sMove (iv az) S (wG 7 true 90 rfl rfl rfl ae) (.inl rfl) rfl rfl (lb rfl) fun a S => ?_
  refine sSliceS (v := ar) (u := aC) (vlo := none) (vhi := (some (.int .i64 az))) (lo' := 0) (hi' := az) S (wG 7 true 90 rfl rfl rfl ae) rfl Try.underlying9 rfl rfl rfl (.inr ⟨rfl, rfl⟩) (.inl rfl) aV rfl (lb rfl) fun a S => ?_
  refine sBin _ S (wG 7 true 90 rfl rfl rfl ae) rfl rfl rfl (bNeS _ _ _ _ aC (⟨#[98, 97, 99, 107]⟩ : ByteArray)) rfl (lb rfl) fun a S => ?_
  refine sPickT (.bool (aC != (⟨#[98, 97, 99, 107]⟩ : ByteArray))) S (wN rfl) rfl rfl ae rfl rfl (lb rfl) fun a S => ?_
  exact lT (⟨aC != (⟨#[98, 97, 99, 107]⟩ : ByteArray), Option.some.inj h, S.fix [0, 1, 2] [6] (by decide) rfl rfl rfl⟩)
 obtain ⟨cM, rfl, S⟩ := hI
 have h := cL
 try dsimp only at h
 rcases iS h with ⟨aK, h⟩ | ⟨aK, h⟩
 ·refine sCondT S rfl aK ?_
  refine sSeq (fun dv bE => sRegion (sBuild [] [iv 0, .slice none 0 0] S (wN rfl) rfl rfl rfl rfl (lb rfl) fun a S => ?_))
  refine sStore (p := b2) (off := 0) (T := 42) (vs := [iv 0, .slice none 0 0]) (v := .agg #[iv 0, .slice none 0 0]) 0 [iv 0, .slice none 0 0] S (wN rfl) rfl rfl rfl rfl rfl rfl rfl (by simp) rfl fun a w S => ?_
  refine sN S fun a S => ?_
  refine lT (bE _ _ ?_)
  obtain rfl := tS h
  have h := cB
  try dsimp only at h
  obtain rfl := tS h
  obtain rfl := bb _ rfl
  have h := cy
  try dsimp only at h
  obtain rfl := tS h
  have h := cu
  try dsimp only at h
  obtain rfl := tS h
  have S := S.learn (fRep (rL r_api_Row) (.slice none 0 0) ([] : (List api_Row))) (rL_nil _ _ _)
  have S := S.learn (fRep r_api_Chart (.agg #[iv 0, .slice none 0 0]) (api_Chart.mk 0 ([] : (List api_Row)))) ⟨_, rfl, S.mem.know (i := 0) (e := fRep (rL r_api_Row) (.slice none 0 0) ([] : (List api_Row))) rfl⟩
  exact wp_ret (rThen (rBlock (rThen (rThen (rBlock (rThen (sRet (.tuple #[.agg #[iv 0, .slice none 0 0], iv 12]) S (rsl2 rfl (rvN (c := 2) (t := 42) (T := 42) (p := b2) 0 [iv 0, .slice none 0 0] S rfl rfl rfl rfl) (rvT (t := 3) (v := iv 12) S rfl)) ⟨(.agg #[iv 0, .slice none 0 0]), rfl, S.mem.sel [] [0] (by decide) rfl rfl⟩)))))))
 refine sCondF S rfl aK ?_
 refine wp_skip (leafT (cK _ _ ?_))
 refine sSeq (fun dw bG => sRegion (sM S fun a S => ?_))
 refine sM S fun a S => ?_
 obtain ⟨af, aL, h⟩ := bS h
 obtain ⟨bH, bI, S⟩ := pIdx (P := Try.prog) (r := rS) (v := .slice a0 r8.length a4) (xs := r8) (j := aq) 142 9 0 S Try.underlying142 rfl rfl aL
 refine sIdxV S (wN rfl) rfl rfl rfl bI rfl (lb rfl) fun a S => ?_
 obtain ⟨bJ, S⟩ := pLoad (r := rS) (q := bH) (x := af) 0 S rfl
 obtain rfl : bJ = .string af := S.mem.know (i := 1) (e := fRep rS (bJ) af) rfl
 refine sLoadV1 (vq := bH) 0 (.string af) S (wN rfl) rfl rfl rfl rfl rfl (lb rfl) fun a S => ?_
 refine sM S fun a S => ?_
 obtain ⟨a9, bK, h⟩ := bS h
 refine sSliceS (v := af) (u := a9) (vlo := none) (vhi := (some (.int .i64 az))) (lo' := 0) (hi' := az) S (wN rfl) rfl Try.underlying9 rfl rfl rfl (.inr ⟨rfl, rfl⟩) (.inl rfl) bK rfl (lb rfl) fun a S => ?_
 refine sBin _ S (wN rfl) rfl rfl rfl (bEqS _ _ _ _ a9 (⟨#[98, 97, 99, 107]⟩ : ByteArray)) rfl (lb rfl) fun a S => ?_
 refine sBuild [(0, .bool (a9 == (⟨#[98, 97, 99, 107]⟩ : ByteArray)))] [.bool (a9 == (⟨#[98, 97, 99, 107]⟩ : ByteArray)), .slice none 0 0] S (wN rfl) rfl rfl rfl rfl (lb rfl) fun a S => ?_
 refine sAlloc (.agg #[.bool false, .slice none 0 0]) S (wN rfl) rfl rfl [.bool false, .slice none 0 0] rfl rfl (lb rfl) fun a aA w S => ?_
 refine sStore (p := aA) (off := 0) (T := 87) (vs := [.bool false, .slice none 0 0]) (v := .agg #[.bool (a9 == (⟨#[98, 97, 99, 107]⟩ : ByteArray)), .slice none 0 0]) 0 [.bool (a9 == (⟨#[98, 97, 99, 107]⟩ : ByteArray)), .slice none 0 0] S (wN rfl) rfl rfl rfl rfl rfl rfl rfl (by simp) rfl fun a w S => ?_
 refine lT (bG _ _ ?_)
 obtain ⟨cN, h, bL⟩ := bS h
 refine sCut (fun a w => ∃ ac, .inl ac = cN ∧ ∃ ag, ∃ ah, St [] E [] w0 155 a w [(0, .string p0), (2, .pointer (some ⟨b2, 0, none⟩)), (4, .slice a0 r8.length a4), (7, .pointer (some ⟨am, 0, none⟩)), (8, iv aq), (10, .pointer (some ⟨aA, 0, none⟩))] [eBox b2 42 [iv 0, .slice none 0 0], eBox am 42 [iv a7.1, .slice aa ak.length ab], eBox aA 87 [.bool (a9 == (⟨#[98, 97, 99, 107]⟩ : ByteArray)), .slice ag ac.length ah], eRow r_api_Row 87 (.slice aa ak.length ab) ak] [fRep (rL rS) (.slice a0 r8.length a4) r8, fRep (rL r_api_Stitch) (.slice ag ac.length ah) ac]) ?_ (fun a w hI => ?_)
 rotate_left
 ·obtain ⟨ac, rfl, ag, ah, S⟩ := hI
  have h := bL
  try dsimp only at h
  refine sRegion (sField (b := am) (off := 0) 1 1 S (wN rfl) rfl rfl rfl rfl rfl (lb rfl) fun a S => ?_)
  refine sLoad1 1 (.slice aa ak.length ab) S (wN rfl) rfl rfl rfl rfl rfl rfl (lb rfl) fun a S => ?_
  refine sLoadN (p := aA) (off := 0) (T := 87) (vs := [.bool (a9 == (⟨#[98, 97, 99, 107]⟩ : ByteArray)), .slice ag ac.length ah]) 2 [.bool (a9 == (⟨#[98, 97, 99, 107]⟩ : ByteArray)), .slice ag ac.length ah] S (wN rfl) rfl rfl rfl rfl rfl rfl rfl (lb rfl) fun a S => ?_
  have S := S.learn (fRep r_api_Row (.agg #[.bool (a9 == (⟨#[98, 97, 99, 107]⟩ : ByteArray)), .slice ag ac.length ah]) (api_Row.mk (a9 == (⟨#[98, 97, 99, 107]⟩ : ByteArray)) ac)) ⟨_, rfl, S.mem.know (i := 1) (e := fRep (rL r_api_Stitch) (.slice ag ac.length ah) ac) rfl⟩
  refine sLit (r := r_api_Row) (T := 87) (xs := [(api_Row.mk (a9 == (⟨#[98, 97, 99, 107]⟩ : ByteArray)) ac)]) [(0, .agg #[.bool (a9 == (⟨#[98, 97, 99, 107]⟩ : ByteArray)), .slice ag ac.length ah])] 1 [.agg #[.bool (a9 == (⟨#[98, 97, 99, 107]⟩ : ByteArray)), .slice ag ac.length ah]] [.bool (a9 == (⟨#[98, 97, 99, 107]⟩ : ByteArray)), .slice ag ac.length ah] (.agg #[.bool false, .slice none 0 0]) 32 S (wN rfl) rfl rfl Try.underlying40 rfl (by decide) (by decide) (by kernel_rfl) rfl (fun E1 w1 hE => All.cons (r_api_Row.mono hE (S.mem.know (i := 0) (e := fRep r_api_Row (.agg #[.bool (a9 == (⟨#[98, 97, 99, 107]⟩ : ByteArray)), .slice ag ac.length ah]) (api_Row.mk (a9 == (⟨#[98, 97, 99, 107]⟩ : ByteArray)) ac)) rfl)) (All.nil _ _ _)) rfl rfl (lb rfl) fun a w bM bN S => ?_
  obtain ⟨bg, bO, h⟩ := bS h
  refine sApp (r := r_api_Row) (T := 87) (xs := ak) (ys := [(api_Row.mk (a9 == (⟨#[98, 97, 99, 107]⟩ : ByteArray)) ac)]) (v := .slice aa ak.length ab) (u := .slice bM [(api_Row.mk (a9 == (⟨#[98, 97, 99, 107]⟩ : ByteArray)) ac)].length bN) 4 (.agg #[.bool false, .slice none 0 0]) 32 S (wN rfl) rfl Try.underlying40 rfl rfl (by decide) rfl rfl rfl (src_R (T := 87) 0 S.mem rfl) bO rfl (lb rfl) fun a w aM aO S => ?_
  refine sField (b := am) (off := 0) 1 1 S (wN rfl) rfl rfl rfl rfl rfl (lb rfl) fun a S => ?_
  refine sStore (p := am) (off := 1) (T := 42) (vs := [iv a7.1, .slice aa ak.length ab]) (v := .slice aM bg.length aO) 3 [.slice aM bg.length aO] S (wN rfl) rfl rfl rfl rfl rfl rfl rfl (by simp) rfl fun a w S => ?_
  exact leafL (leafB (leafT (⟨bg, Option.some.inj h, aM, aO, S.fix [3, 0, 1] [1] (by decide) rfl rfl rfl⟩)))
 refine sSeq (fun dx bP => sRegion (sM S fun a S => ?_))
 refine sM S fun a S => ?_
 refine sM S fun a S => ?_
 obtain ⟨bQ, bR, S⟩ := pIdx (P := Try.prog) (r := rS) (v := .slice a0 r8.length a4) (xs := r8) (j := aq) 142 9 3 S Try.underlying142 rfl rfl aL
 refine sIdxV S (wN rfl) rfl rfl rfl bR rfl (lb rfl) fun a S => ?_
 obtain ⟨bU, S⟩ := pLoad (r := rS) (q := bQ) (x := af) 0 S rfl
 obtain rfl : bU = .string af := S.mem.know (i := 1) (e := fRep rS (bU) af) rfl
 refine sLoadV1 (vq := bQ) 0 (.string af) S (wN rfl) rfl rfl rfl rfl rfl (lb rfl) fun a S => ?_
 refine sLenS (v := af) S (wN rfl) rfl Try.underlying9 rfl rfl (lb rfl) fun a S => ?_
 refine sBin _ S (wN rfl) rfl rfl rfl (bLt _ _ _ _ .i64 az (af.size : Int)) rfl (lb rfl) fun a S => ?_
 refine lT (bP _ _ ?_)
 rcases iS h with ⟨aP, h⟩ | ⟨aP, h⟩
 rotate_left
 ·refine sCondF S rfl aP ?_
  have S := S.learn (fRep (rL r_api_Stitch) (.slice none 0 0) ([] : (List api_Stitch))) (rL_nil _ _ _)
  exact wp_skip (leafT (⟨([] : List api_Stitch), Option.some.inj h, none, 0, S.fix [1, 2, 0, 3] [7, 0] (by decide) rfl rfl rfl⟩))
 refine sCondT S rfl aP ?_
 refine sSeq (fun dy bV => sRegion (sM S fun a S => ?_))
 refine sM S fun a S => ?_
 obtain ⟨bW, bX, S⟩ := pIdx (P := Try.prog) (r := rS) (v := .slice a0 r8.length a4) (xs := r8) (j := aq) 142 9 6 S Try.underlying142 rfl rfl aL
 refine sIdxV S (wN rfl) rfl rfl rfl bX rfl (lb rfl) fun a S => ?_
 obtain ⟨bY, S⟩ := pLoad (r := rS) (q := bW) (x := af) 0 S rfl
 obtain rfl : bY = .string af := S.mem.know (i := 1) (e := fRep rS (bY) af) rfl
 refine sLoadV1 (vq := bW) 0 (.string af) S (wN rfl) rfl rfl rfl rfl rfl (lb rfl) fun a S => ?_
 refine sM S fun a S => ?_
 refine sBin _ S (wN rfl) rfl rfl rfl (bAdd _ _ _ _ az 1) rfl (lb rfl) fun a S => ?_
 obtain ⟨bh, bZ, h⟩ := bS h
 refine sSliceS (v := af) (u := bh) (vlo := (some (.int .i64 (w64 (az + 1))))) (vhi := none) (lo' := w64 (az + 1)) (hi' := (af.size : Int)) S (wN rfl) rfl Try.underlying9 rfl rfl rfl (.inl rfl) (.inr ⟨rfl, rfl⟩) bZ rfl (lb rfl) fun a S => ?_
 obtain ⟨aj, c5, h⟩ := bS h
 refine sCall (X := Value) (f := 78) (vs := [.string bh]) (val := c_raddleref25_Parse_val aj) (B' := fun _ => []) (D' := c_raddleref25_Parse_D aj) [] [eBox aA 87 [.bool (a9 == (⟨#[98, 97, 99, 107]⟩ : ByteArray)), .slice none 0 0], eBox b2 42 [iv 0, .slice none 0 0], eBox am 42 [iv a7.1, .slice aa ak.length ab], eRow r_api_Row 87 (.slice aa ak.length ab) ak] [] [0, 1, 2, 3] [] S (wN rfl) rfl callee78 rfl (by decide) rfl rfl (fun E1 w1 S1 => c_raddleref25_Parse E1 w1 bh aj c5 S1) rfl (lb rfl) fun cO a w S => ?_
 obtain ⟨au, av, _, rfl, _⟩ := S.mem.know (i := 0) (e := fRep (rL r_api_Stitch) (cO) aj.1) rfl
 refine sM S fun a S => ?_
 refine sExtract (vs := [.slice au aj.1.length av, iv aj.2]) (.slice au aj.1.length av) S (wN rfl) rfl rfl rfl rfl (lb rfl) fun a S => ?_
 refine sExtract (vs := [.slice au aj.1.length av, iv aj.2]) (iv aj.2) S (wN rfl) rfl rfl rfl rfl (lb rfl) fun a S => ?_
 refine sN S fun a S => ?_
 refine sN S fun a S => ?_
 refine lT (bV _ _ (sSeq (fun dz c6 => sSeq (fun dA c7 => sRegion (sM S fun a S => ?_)))))
 refine sBin _ S (wN rfl) rfl rfl rfl (bNe _ _ _ _ .i64 aj.2 0) rfl (lb rfl) fun a S => ?_
 refine lT (c7 _ _ ?_)
 rcases iS h with ⟨aQ, h⟩ | ⟨aQ, h⟩
 rotate_left
 ·refine sCondF S rfl aQ ?_
  refine wp_skip (leafT (c6 _ _ ?_))
  refine sRegion (sM S fun a S => ?_)
  refine sField (b := aA) (off := 0) 1 1 S (wN rfl) rfl rfl rfl rfl rfl (lb rfl) fun a S => ?_
  refine sStore (p := aA) (off := 1) (T := 87) (vs := [.bool (a9 == (⟨#[98, 97, 99, 107]⟩ : ByteArray)), .slice none 0 0]) (v := .slice au aj.1.length av) 0 [.slice au aj.1.length av] S (wN rfl) rfl rfl rfl rfl rfl rfl rfl (by simp) rfl fun a w S => ?_
  exact lT (⟨aj.1, Option.some.inj h, au, av, S.fix [1, 2, 0, 3] [10, 0] (by decide) rfl rfl rfl⟩)
 refine sCondT S rfl aQ ?_
 refine sSeq (fun dB c8 => sRegion (sBuild [] [iv 0, .slice none 0 0] S (wN rfl) rfl rfl rfl rfl (lb rfl) fun a S => ?_))
 refine sStore (p := b2) (off := 0) (T := 42) (vs := [iv 0, .slice none 0 0]) (v := .agg #[iv 0, .slice none 0 0]) 1 [iv 0, .slice none 0 0] S (wN rfl) rfl rfl rfl rfl rfl rfl rfl (by simp) rfl fun a w S => ?_
 refine sN S fun a S => ?_
 refine lT (c8 _ _ ?_)
 obtain rfl := tS h
 have h := bL
 try dsimp only at h
 obtain rfl := tS h
 have h := cB
 try dsimp only at h
 obtain rfl := tS h
 obtain rfl := bb _ rfl
 have h := cy
 try dsimp only at h
 obtain rfl := tS h
 have h := cu
 try dsimp only at h
 obtain rfl := tS h
 have S := S.learn (fRep (rL r_api_Row) (.slice none 0 0) ([] : (List api_Row))) (rL_nil _ _ _)
 have S := S.learn (fRep r_api_Chart (.agg #[iv 0, .slice none 0 0]) (api_Chart.mk 0 ([] : (List api_Row)))) ⟨_, rfl, S.mem.know (i := 0) (e := fRep (rL r_api_Row) (.slice none 0 0) ([] : (List api_Row))) rfl⟩
 exact wp_ret (rThen (rThen (rBlock (rThen (rThen (rBlock (rThen (sRet (.tuple #[.agg #[iv 0, .slice none 0 0], iv 12]) S (rsl2 rfl (rvN (c := 2) (t := 42) (T := 42) (p := b2) 0 [iv 0, .slice none 0 0] S rfl rfl rfl rfl) (rvT (t := 3) (v := iv 12) S rfl)) ⟨(.agg #[iv 0, .slice none 0 0]), rfl, S.mem.sel [] [0] (by decide) rfl rfl⟩))))))))
noncomputable def F_raddlelaw46_knit (p0 : ByteArray) : Option api_Chart :=
 (F_raddleref26_Parse p0).bind fun r4 =>
 some r4.1
def c_raddlelaw46_knit_val (r : api_Chart) (x : Value) : Value := x
def c_raddlelaw46_knit_D (r : api_Chart) (x : Value) : List Fact := [fRep r_api_Chart x r]
theorem c_raddlelaw46_knit (E : Nat → Prop) (w0 : World) (p0 : ByteArray) (r : api_Chart) (h : F_raddlelaw46_knit p0 = some r) (S : St0 E [] w0 w0 [] []) :
 Calls Try.prog 43 #[.string p0] w0 (Ret (X := Value) E [] w0 (c_raddlelaw46_knit_val r) (fun _ => []) (c_raddlelaw46_knit_D r)) := by
 unfold F_raddlelaw46_knit at h
 refine sEnter (args := [.string p0]) 11 Try.func43 rfl rfl (by simp) S (fun a S => ?_)
 refine sSeq (fun K1 a8 => sRegion (sAlloc (.agg #[iv 0, .slice none 0 0]) S (wN rfl) rfl rfl [iv 0, .slice none 0 0] rfl rfl (lb rfl) fun a b2 w S => ?_))
 refine lT (a8 _ _ (sSeq (fun K3 a9 => sRegion (sM S fun a S => ?_))))
 obtain ⟨r4, aa, h⟩ := bS h
 refine sCall (X := Value) (f := 79) (vs := [.string p0]) (val := c_raddleref26_Parse_val r4) (B' := fun _ => []) (D' := c_raddleref26_Parse_D r4) [] [eBox b2 42 [iv 0, .slice none 0 0]] [] [0] [] S (wN rfl) rfl callee79 rfl (by decide) rfl rfl (fun E1 w1 S1 => c_raddleref26_Parse E1 w1 p0 r4 aa S1) rfl (lb rfl) fun u6 a w S => ?_
 obtain ⟨u7, rfl, a6⟩ := S.mem.know (i := 0) (e := fRep r_api_Chart (u6) r4.1) rfl
 have S := S.learn (fRep (rL r_api_Row) u7 r4.1.Rows) a6
 obtain ⟨a4, a0, _, rfl, _⟩ := a6
 refine sM S fun a S => ?_
 refine sExtract (vs := [.agg #[iv r4.1.Start, .slice a4 r4.1.Rows.length a0], iv r4.2]) (.agg #[iv r4.1.Start, .slice a4 r4.1.Rows.length a0]) S (wN rfl) rfl rfl rfl rfl (lb rfl) fun a S => ?_
 refine sExtract (vs := [.agg #[iv r4.1.Start, .slice a4 r4.1.Rows.length a0], iv r4.2]) (iv r4.2) S (wN rfl) rfl rfl rfl rfl (lb rfl) fun a S => ?_
 refine sAlloc (.agg #[iv 0, .slice none 0 0]) S (wN rfl) rfl rfl [iv 0, .slice none 0 0] rfl rfl (lb rfl) fun a a7 w S => ?_
 refine sStore (p := a7) (off := 0) (T := 42) (vs := [iv 0, .slice none 0 0]) (v := .agg #[iv r4.1.Start, .slice a4 r4.1.Rows.length a0]) 0 [iv r4.1.Start, .slice a4 r4.1.Rows.length a0] S (wN rfl) rfl rfl rfl rfl rfl rfl rfl (by simp) rfl fun a w S => ?_
 refine sN S fun a S => ?_
 refine lT (a9 _ _ (sSeq (fun ab a5 => sRegion (sLoadN (p := a7) (off := 0) (T := 42) (vs := [iv r4.1.Start, .slice a4 r4.1.Rows.length a0]) 0 [iv r4.1.Start, .slice a4 r4.1.Rows.length a0] S (wN rfl) rfl rfl rfl rfl rfl rfl rfl (lb rfl) fun a S => ?_))))
 refine sStore (p := b2) (off := 0) (T := 42) (vs := [iv 0, .slice none 0 0]) (v := .agg #[iv r4.1.Start, .slice a4 r4.1.Rows.length a0]) 1 [iv r4.1.Start, .slice a4 r4.1.Rows.length a0] S (wN rfl) rfl rfl rfl rfl rfl rfl rfl (by simp) rfl fun a w S => ?_
 refine lT (a5 _ _ ?_)
 obtain rfl := tS h
 exact wp_ret (sRet (.agg #[iv r4.1.Start, .slice a4 r4.1.Rows.length a0]) S (rsl1 rfl (rvN (c := 2) (t := 42) (T := 42) (p := b2) 0 [iv r4.1.Start, .slice a4 r4.1.Rows.length a0] S rfl rfl rfl rfl)) ⟨(.agg #[iv r4.1.Start, .slice a4 r4.1.Rows.length a0]), rfl, S.mem.sel [] [1] (by decide) rfl rfl⟩)
def K_raddleref01_Parse_l1 (p0 : ByteArray) : Int → Option (Int ⊕ Int) := fun s0 => match s0 with
 | s7 =>
  Option.bind (α := Bool) (
   if decide (s7 < (p0.size : Int)) then
    Option.bind (idxS p0 s7) fun x17 =>
    some (x17 != 10)
   else
    some false) fun o13 =>
  if o13 then
   some (.inl (w64 (s7 + 1)))
  else
   some (.inr s7)
def K_raddleref01_Zero_s0 (p0 : Int) (p1 : Int) : Option api_Grid :=
 Option.bind (makeO (w64 (p0 * p1)) false) fun m6 =>
 some (api_Grid.mk p0 p1 m6)
def K_raddleref01_Set_s0 (p0 : Int) (p1 : Int) (p2 : (List Bool)) (p3 : Int) (p4 : Int) (p5 : Bool) : Option (List Bool) :=
 Option.bind (idxO p2 (w64 ((w64 (p4 * p0)) + p3))) fun x3 =>
 Option.bind (setO p2 (w64 ((w64 (p4 * p0)) + p3)) p5) fun l8 =>
 (keepO p2 l8).bind fun _ =>
 some l8
def K_raddleref01_Parse_l2 (p0 : ByteArray) (o4 : Int) (r36 : api_Grid) : (Int × List Bool) → Option ((Int × List Bool) ⊕ ((api_Grid × Int) ⊕ (List Bool))) := fun s0 => match s0 with
 | (s45, s46) =>
  if decide (s45 < (p0.size : Int)) then
   Option.bind (α := List Bool ⊕ (api_Grid × Int)) (
    Option.bind (remI s45 (w64 (o4 + 1))) fun z58 =>
    Option.bind (quoI s45 (w64 (o4 + 1))) fun z60 =>
    Option.bind (α := Bool) (
     Option.bind (idxS p0 s45) fun x66 =>
     if (x66 == 10) != (z58 == o4) then
      some true
     else
      if x66 != 10 then
       if x66 != 120 then
        some (x66 != 46)
       else
        some false
      else
       some false) fun o63 =>
    if o63 then
     some (.inr ((api_Grid.mk 0 0 ([] : (List Bool))), 12))
    else
     Option.bind (idxS p0 s45) fun x74 =>
     if x74 == 120 then
      Option.bind (K_raddleref01_Set_s0 r36.W r36.H s46 z58 (w64 ((w64 (r36.H - 1)) - z60)) true) fun r77 =>
      some (.inl r77)
     else
      some (.inl s46)) fun z0 => match z0 with
    | .inl o54 =>
     some (.inl (w64 (s45 + 1), o54))
    | .inr z =>
     some (.inr (.inl z))
  else
   some (.inr (.inr s46))
def K_raddleref01_Parse (p0 : ByteArray) : Option (api_Grid × Int) :=
 Option.bind (α := Int) (
  Option.bind (whileK (K_raddleref01_Parse_l1 p0) 0) fun e11 =>
   some e11) fun o4 =>
 Option.bind (α := Bool) (
  if decide (o4 < 1) then
   some true
  else
   if decide (64 < o4) then
    some true
   else
    Option.bind (remI (p0.size : Int) (w64 (o4 + 1))) fun z26 =>
    if z26 != 0 then
     some true
    else
     Option.bind (quoI (p0.size : Int) (w64 (o4 + 1))) fun z29 =>
     some (decide (64 < z29))) fun o21 =>
 if o21 then
  some ((api_Grid.mk 0 0 ([] : (List Bool))), 12)
 else
  Option.bind (quoI (p0.size : Int) (w64 (o4 + 1))) fun z34 =>
  Option.bind (K_raddleref01_Zero_s0 o4 z34) fun r36 =>
  Option.bind (α := List Bool ⊕ (api_Grid × Int)) (
   Option.bind (whileK (K_raddleref01_Parse_l2 p0 o4 r36) (0, r36.Bits)) fun z0 => match z0 with
    | .inl z =>
     some (.inr z)
    | .inr e50 =>
     some (.inl e50)) fun z0 => match z0 with
   | .inl o41 =>
    some ((api_Grid.mk r36.W r36.H o41), 0)
   | .inr z =>
    some z
def K_raddlelaw46_cloth (p0 : ByteArray) : Option api_Grid :=
 Option.bind (K_raddleref01_Parse p0) fun r4 =>
 some r4.1
def K_grid_Check (p0 : api_Grid) : Option Int :=
 if decide (64 < (if p0.W < p0.H then p0.H else p0.W)) then
  some 4
 else
  Option.bind (α := Bool) (
   if decide ((if p0.H < p0.W then p0.H else p0.W) < 1) then
    some true
   else
    some ((p0.Bits.length : Int) != (w64 (p0.W * p0.H)))) fun o11 =>
  if o11 then
   some 8
  else
   some 0
def K_compare_differ_l1 (p0 : (List Bool)) (p1 : (List Bool)) : (Int × Int) → Option ((Int × Int) ⊕ Int) := fun s0 => match s0 with
 | (s11, s12) =>
  if decide (s12 < (p0.length : Int)) then
   Option.bind (α := Int) (
    Option.bind (idxO p0 s12) fun x24 =>
    Option.bind (idxO p1 s12) fun x30 =>
    if x24 != x30 then
     some (w64 (s11 + 1))
    else
     some s11) fun o20 =>
   some (.inl (o20, w64 (s12 + 1)))
  else
   some (.inr s11)
def K_compare_differ (p0 : (List Bool)) (p1 : (List Bool)) : Option Int :=
 Option.bind (α := Int) (
  Option.bind (whileK (K_compare_differ_l1 p0 p1) (0, 0)) fun e16 =>
   some e16) fun o7 =>
 some o7
def K_compare_Cells (p0 : api_Grid) (p1 : api_Grid) : Option (Int × Int) :=
 Option.bind (K_grid_Check p0) fun r14 =>
 if r14 != 0 then
  some (0, r14)
 else
  Option.bind (K_grid_Check p1) fun r21 =>
  if r21 != 0 then
   some (0, r21)
  else
   Option.bind (α := Bool) (
    if p0.W != p1.W then
     some true
    else
     some (p0.H != p1.H)) fun o27 =>
   if o27 then
    some (0, 2)
   else
    Option.bind (K_compare_differ p0.Bits p1.Bits) fun r34 =>
    some (r34, 0)
def K_compare_ways (p0 : api_Grid) (p1 : Int) : Option (Int × api_Grid) :=
 some (p1, p0)
def K_symmetry_check_l1 (p0 : (List api_Grid)) : Int → Option (Int ⊕ (Int ⊕ Unit)) := fun s0 => match s0 with
 | s7 =>
  if decide (s7 < (p0.length : Int)) then
   Option.bind (idxO p0 s7) fun x16 =>
   Option.bind (K_grid_Check x16) fun r27 =>
   if r27 != 0 then
    some (.inr (.inl r27))
   else
    some (.inl (w64 (s7 + 1)))
  else
   some (.inr (.inr ()))
def K_symmetry_check_l2 (p0 : (List api_Grid)) : Int → Option (Int ⊕ (Int ⊕ Unit)) := fun s0 => match s0 with
 | s35 =>
  if decide (s35 < (p0.length : Int)) then
   Option.bind (idxO p0 s35) fun x44 =>
   if decide (16 < (if x44.W < x44.H then x44.H else x44.W)) then
    some (.inr (.inl 4))
   else
    some (.inl (w64 (s35 + 1)))
  else
   some (.inr (.inr ()))
def K_symmetry_check (p0 : (List api_Grid)) : Option Int :=
 Option.bind (α := Unit ⊕ Int) (
  Option.bind (whileK (K_symmetry_check_l1 p0) 0) fun z0 => match z0 with
   | .inl z =>
    some (.inr z)
   | .inr _ =>
    some (.inl ())) fun z0 => match z0 with
  | .inl _ =>
   Option.bind (α := Unit ⊕ Int) (
    Option.bind (whileK (K_symmetry_check_l2 p0) 0) fun z0 => match z0 with
     | .inl z =>
      some (.inr z)
     | .inr _ =>
      some (.inl ())) fun z0 => match z0 with
    | .inl _ =>
     some 0
    | .inr z =>
     some z
  | .inr z =>
   some z
def K_symmetry_is (p0 : Int) : Option Bool :=
 Option.bind (α := Bool) (
  if decide (0 ≤ p0) then
   some (decide (p0 < 16))
  else
   some false) fun o2 =>
 some o2
def K_symmetry_applied_l1 (o9 : Int) (p1 : Int) (s23 : Int) (p0 : api_Grid) : (Int × List Bool) → Option ((Int × List Bool) ⊕ List Bool) := fun s0 => match s0 with
 | (s43, s44) =>
  if decide (s43 < o9) then
   Option.bind (α := (Int × Int)) (
    if (andI .i64 p1 4) != 0 then
     some (s23, s43)
    else
     some (s43, s23)) fun (o59, o60) =>
   Option.bind (α := Int) (
    if (andI .i64 p1 1) != 0 then
     some (w64 ((w64 (p0.W - 1)) - o59))
    else
     some o59) fun o65 =>
   Option.bind (α := Int) (
    if (andI .i64 p1 2) != 0 then
     some (w64 ((w64 (p0.H - 1)) - o60))
    else
     some o60) fun o70 =>
   Option.bind (idxO p0.Bits (w64 ((w64 (o70 * p0.W)) + o65))) fun x75 =>
   Option.bind (appO s44 [x75 != ((andI .i64 p1 8) != 0)]) fun l82 =>
   some (.inl (w64 (s43 + 1), l82))
  else
   some (.inr s44)
def K_symmetry_applied_l2 (o10 : Int) (o9 : Int) (p1 : Int) (p0 : api_Grid) : (Int × List Bool) → Option ((Int × List Bool) ⊕ List Bool) := fun s0 => match s0 with
 | (s23, s24) =>
  if decide (s23 < o10) then
   Option.bind (α := List Bool) (
    Option.bind (whileK (K_symmetry_applied_l1 o9 p1 s23 p0) (0, s24)) fun e50 =>
     some e50) fun o36 =>
   some (.inl (w64 (s23 + 1), o36))
  else
   some (.inr s24)
def K_symmetry_applied (p0 : api_Grid) (p1 : Int) : Option api_Grid :=
 Option.bind (α := (Int × Int)) (
  if (andI .i64 p1 4) != 0 then
   some (p0.H, p0.W)
  else
   some (p0.W, p0.H)) fun (o9, o10) =>
 Option.bind (α := List Bool) (
  Option.bind (whileK (K_symmetry_applied_l2 o10 o9 p1 p0) (0, ([] : List Bool))) fun e30 =>
   some e30) fun o17 =>
 some (api_Grid.mk o9 o10 o17)
def K_symmetry_Apply (p0 : api_Grid) (p1 : Int) : Option (api_Grid × Int) :=
 Option.bind (K_symmetry_check [p0]) fun r12 =>
 if r12 != 0 then
  some ((api_Grid.mk 0 0 ([] : (List Bool))), r12)
 else
  Option.bind (K_symmetry_is p1) fun r19 =>
  if !r19 then
   some ((api_Grid.mk 0 0 ([] : (List Bool))), 2)
  else
   Option.bind (K_symmetry_applied p0 p1) fun r24 =>
   some (r24, 0)
def K_grid_around (p0 : Int) (p1 : Int) : Option Int :=
 Option.bind (α := Int) (
  Option.bind (remI p0 p1) fun z6 =>
  if decide (z6 < 0) then
   some (w64 (z6 + p1))
  else
   some z6) fun o2 =>
 some o2
def K_grid_Shift_1_s0 (p0 : Int) (p1 : Int) (p2 : api_Grid) (p3 : Int) (p4 : Int) : Option Bool :=
 Option.bind (K_grid_around (w64 (p1 - p3)) p2.H) fun r12 =>
 Option.bind (K_grid_around (w64 (p0 - p4)) p2.W) fun r21 =>
 Option.bind (idxO p2.Bits (w64 ((w64 (r12 * p2.W)) + r21))) fun x23 =>
 some x23
def K_grid_build_s0_l1 (p0 : Int) (s15 : Int) (p2 : api_Grid) (p3 : Int) (p4 : Int) : (Int × List Bool) → Option ((Int × List Bool) ⊕ List Bool) := fun s0 => match s0 with
 | (s35, s36) =>
  if decide (s35 < p0) then
   Option.bind (K_grid_Shift_1_s0 s35 s15 p2 p3 p4) fun r50 =>
   Option.bind (appO s36 [r50]) fun l54 =>
   some (.inl (w64 (s35 + 1), l54))
  else
   some (.inr s36)
def K_grid_build_s0_l2 (p1 : Int) (p0 : Int) (p2 : api_Grid) (p3 : Int) (p4 : Int) : (Int × List Bool) → Option ((Int × List Bool) ⊕ List Bool) := fun s0 => match s0 with
 | (s15, s16) =>
  if decide (s15 < p1) then
   Option.bind (α := List Bool) (
    Option.bind (whileK (K_grid_build_s0_l1 p0 s15 p2 p3 p4) (0, s16)) fun e42 =>
     some e42) fun o28 =>
   some (.inl (w64 (s15 + 1), o28))
  else
   some (.inr s16)
def K_grid_build_s0 (p0 : Int) (p1 : Int) (p2 : api_Grid) (p3 : Int) (p4 : Int) : Option api_Grid :=
 Option.bind (capO (w64 (p0 * p1))) fun z6 =>
 Option.bind (α := List Bool) (
  Option.bind (whileK (K_grid_build_s0_l2 p1 p0 p2 p3 p4) (0, ([] : List Bool))) fun e22 =>
   some e22) fun o9 =>
 some (api_Grid.mk p0 p1 o9)
def K_grid_Shift (p0 : api_Grid) (p1 : Int) (p2 : Int) : Option (api_Grid × Int) :=
 Option.bind (K_grid_Check p0) fun r12 =>
 if r12 != 0 then
  some ((api_Grid.mk 0 0 ([] : (List Bool))), r12)
 else
  Option.bind (K_grid_around p1 p0.W) fun r18 =>
  Option.bind (K_grid_around p2 p0.H) fun r20 =>
  Option.bind (K_grid_build_s0 p0.W p0.H p0 r20 r18) fun r23 =>
  some (r23, 0)
def K_compare_ways_1_l1 {σ τ : Type} (p1 : api_Grid) (r24 : (api_Grid × Int)) (s36 : Int) (B : σ → (compare_way × api_Grid) → Option (σ ⊕ τ)) (s6 : Int) : (Int × σ) → Option ((Int × σ) ⊕ ((σ ⊕ τ) ⊕ (σ))) := fun s0 => match s0 with
 | (s53, gz54) =>
  if decide (s53 < p1.W) then
   Option.bind (K_grid_Shift r24.1 s53 s36) fun r70 =>
   Option.bind (B gz54 ((compare_way.mk s6 (api_Point.mk s53 s36)), r70.1)) fun y80 =>
   match y80 with
   | .inl gz82 =>
    some (.inl (w64 (s53 + 1), gz82))
   | .inr tz83 =>
    some (.inr (.inl (.inr tz83)))
  else
   some (.inr (.inr gz54))
def K_compare_ways_1_l2 {σ τ : Type} (p1 : api_Grid) (r24 : (api_Grid × Int)) (B : σ → (compare_way × api_Grid) → Option (σ ⊕ τ)) (s6 : Int) : (Int × σ) → Option ((Int × σ) ⊕ ((σ ⊕ τ) ⊕ (σ))) := fun s0 => match s0 with
 | (s36, gz37) =>
  if decide (s36 < p1.H) then
   Option.bind (α := σ ⊕ (σ ⊕ τ)) (
    Option.bind (whileK (K_compare_ways_1_l1 p1 r24 s36 B s6) (0, gz37)) fun z0 => match z0 with
     | .inl z =>
      some (.inr z)
     | .inr gz58 =>
      some (.inl gz58)) fun z0 => match z0 with
    | .inl gz45 =>
     some (.inl (w64 (s36 + 1), gz45))
    | .inr z =>
     some (.inr (.inl z))
  else
   some (.inr (.inr gz37))
def K_compare_ways_1_l3 {σ τ : Type} (x3 : Int) (p1 : api_Grid) (B : σ → (compare_way × api_Grid) → Option (σ ⊕ τ)) : (Int × σ) → Option ((Int × σ) ⊕ ((σ ⊕ τ) ⊕ (σ))) := fun s0 => match s0 with
 | (s6, gz7) =>
  if decide (s6 ≤ x3) then
   Option.bind (α := σ ⊕ (σ ⊕ τ)) (
    Option.bind (K_symmetry_Apply p1 s6) fun r24 =>
    Option.bind (whileK (K_compare_ways_1_l2 p1 r24 B s6) (0, gz7)) fun z0 => match z0 with
     | .inl z =>
      some (.inr z)
     | .inr gz41 =>
      some (.inl gz41)) fun z0 => match z0 with
    | .inl gz15 =>
     some (.inl (w64 (s6 + 1), gz15))
    | .inr z =>
     some (.inr (.inl z))
  else
   some (.inr (.inr gz7))
def K_I_compare_ways_1 (p0 : Int) (p1 : api_Grid) (σ τ : Type) (B : σ → (compare_way × api_Grid) → Option (σ ⊕ τ)) (gz0 : σ) : Option (σ ⊕ τ) :=
 Option.bind (idxO ([0, 3, 7, 15] : List Int) p0) fun x3 =>
 Option.bind (whileK (K_compare_ways_1_l3 x3 p1 B) (0, gz0)) fun z0 => match z0 with
  | .inl z =>
   some z
  | .inr gz11 =>
   some (.inl gz11)
def K_compare_Nearest_l2 (p1 : api_Grid) : (Int × Int × Int × Int) → (compare_way × api_Grid) → Option ((Int × Int × Int × Int) ⊕ (Int × Int × Int × Int)) := fun s0 x0 => match s0, x0 with
 | (s57, s58, s59, s60), (x65, x67) =>
  Option.bind (α := (Int × Int × Int × Int)) (
   Option.bind (K_compare_differ x67.Bits p1.Bits) fun r83 =>
   if decide (r83 < s57) then
    some (r83, x65.op, x65.at_.X, x65.at_.Y)
   else
    some (s57, s58, s59, s60)) fun (o76, o77, o78, o79) =>
  if o76 == 0 then
   some (.inr (o76, o77, o78, o79))
  else
   some (.inl (o76, o77, o78, o79))
def K_compare_Nearest (p0 : api_Grid) (p1 : api_Grid) (p2 : Int) : Option (Int × Int × api_Point × Int) :=
 Option.bind (K_grid_Check p0) fun r15 =>
 if r15 != 0 then
  some (0, 0, (api_Point.mk 0 0), r15)
 else
  Option.bind (K_grid_Check p1) fun r22 =>
  if r22 != 0 then
   some (0, 0, (api_Point.mk 0 0), r22)
  else
   if decide (16 < (max4 p0.W p0.H p1.W p1.H)) then
    some (0, 0, (api_Point.mk 0 0), 4)
   else
    Option.bind (α := Bool) (
     if decide (p2 < 0) then
      some true
     else
      if decide (3 < p2) then
       some true
      else
       if p0.W != p1.W then
        some true
       else
        if p0.H != p1.H then
         some true
        else
         if decide (1 < p2) then
          some (p0.W != p0.H)
         else
          some false) fun o32 =>
    if o32 then
     some (0, 0, (api_Point.mk 0 0), 2)
    else
     Option.bind (α := (Int × Int × Int × Int)) (
      Option.bind (K_compare_ways p0 p2) fun r53 =>
      Option.bind (K_I_compare_ways_1 r53.1 r53.2 _ _ (K_compare_Nearest_l2 p1) (w64 ((p0.Bits.length : Int) + 1), 0, 0, 0)) fun z0 => match z0 with
       | .inl (s57, s58, s59, s60) =>
        some (s57, s58, s59, s60)
       | .inr (e61, e62, e63, e64) =>
        some (e61, e62, e63, e64)) fun (o45, o46, o47, o48) =>
     some (o45, o46, (api_Point.mk o47 o48), 0)
def K_raddleref25_Cut_l1 (p0 : ByteArray) (p1 : Int) : (List ByteArray × Int × Int) → Option ((List ByteArray × Int × Int) ⊕ List ByteArray) := fun s0 => match s0 with
 | (s10, s13, s14) =>
  if decide (s14 ≤ (p0.size : Int)) then
   Option.bind (α := (List ByteArray × Int)) (
    Option.bind (α := Bool) (
     if s14 == (p0.size : Int) then
      some true
     else
      Option.bind (idxS p0 s14) fun x34 =>
      some (x34 == p1)) fun o30 =>
    if o30 then
     Option.bind (sliceS p0 s13 s14) fun y38 =>
     Option.bind (appO s10 [y38]) fun l42 =>
     some (l42, w64 (s14 + 1))
    else
     some (s10, s13)) fun (o24, o27) =>
   some (.inl (o24, o27, w64 (s14 + 1)))
  else
   some (.inr s10)
def K_raddleref25_Cut (p0 : ByteArray) (p1 : Int) : Option (List ByteArray) :=
 Option.bind (α := List ByteArray) (
  Option.bind (whileK (K_raddleref25_Cut_l1 p0 p1) (([] : List ByteArray), 0, 0)) fun e18 =>
   some e18) fun o4 =>
 some o4
def K_raddleref25_Number_l1 (p0 : ByteArray) : (Int × Int) → Option ((Int × Int) ⊕ ((Int × Bool) ⊕ Int)) := fun s0 => match s0 with
 | (s18, s19) =>
  if decide (s19 < (p0.size : Int)) then
   Option.bind (α := Bool) (
    Option.bind (idxS p0 s19) fun x32 =>
    if decide (x32 < 48) then
     some true
    else
     some (decide (57 < x32))) fun o29 =>
   if o29 then
    some (.inr (.inl (0, false)))
   else
    Option.bind (idxS p0 s19) fun x37 =>
    some (.inl (w64 ((w64 (10 * s18)) + (IntKind.i64.wrap (IntKind.u8.wrap (x37 - 48)))), w64 (s19 + 1)))
  else
   some (.inr (.inr s18))
def K_raddleref25_Number (p0 : ByteArray) : Option (Int × Bool) :=
 Option.bind (α := Bool) (
  if (p0.size : Int) == 0 then
   some true
  else
   if decide (4 < (p0.size : Int)) then
    some true
   else
    if decide (1 < (p0.size : Int)) then
     Option.bind (idxS p0 0) fun x9 =>
     some (x9 == 48)
    else
     some false) fun o3 =>
 if o3 then
  some (0, false)
 else
  Option.bind (α := Int ⊕ (Int × Bool)) (
   Option.bind (whileK (K_raddleref25_Number_l1 p0) (0, 0)) fun z0 => match z0 with
    | .inl z =>
     some (.inr z)
    | .inr e23 =>
     some (.inl e23)) fun z0 => match z0 with
   | .inl o14 =>
    some (o14, true)
   | .inr z =>
    some z
def K_raddleref25_word_l1 (r49 : (Int × Bool)) (x35 : Int) : (List api_Stitch × Int) → Option ((List api_Stitch × Int) ⊕ List api_Stitch) := fun s0 => match s0 with
 | (s60, s63) =>
  Option.bind (α := Bool) (
   if decide (s63 < r49.1) then
    some (decide (s63 < 300))
   else
    some false) fun o71 =>
  if o71 then
   Option.bind (appO s60 [(api_Stitch.mk 1 (x35 == 112) 0 0)]) fun l79 =>
   some (.inl (l79, w64 (s63 + 1)))
  else
   some (.inr s60)
def K_raddleref25_kind_l1 (p0 : Int) : Int → Option (Int ⊕ (Int ⊕ Unit)) := fun s0 => match s0 with
 | s9 =>
  if decide (s9 < ((⟨#[102, 108, 109, 120, 121, 115, 111]⟩ : ByteArray).size : Int)) then
   Option.bind (idxS (⟨#[102, 108, 109, 120, 121, 115, 111]⟩ : ByteArray) s9) fun x18 =>
   if x18 == p0 then
    Option.bind (idxO ([3, 4, 5, 6, 7, 8, 10] : List Int) s9) fun x22 =>
    some (.inr (.inl x22))
   else
    some (.inl (w64 (s9 + 1)))
  else
   some (.inr (.inr ()))
def K_raddleref25_kind (p0 : Int) : Option Int :=
 Option.bind (α := Unit ⊕ Int) (
  Option.bind (whileK (K_raddleref25_kind_l1 p0) 0) fun z0 => match z0 with
   | .inl z =>
    some (.inr z)
   | .inr _ =>
    some (.inl ())) fun z0 => match z0 with
  | .inl _ =>
   some 0
  | .inr z =>
   some z
def K_raddleref25_word (p0 : ByteArray) : Option ((List api_Stitch) × Bool) :=
 if p0 == (⟨#[121, 111]⟩ : ByteArray) then
  some ([(api_Stitch.mk 2 false 0 0)], true)
 else
  Option.bind (α := Bool) (
   if decide (2 < (p0.size : Int)) then
    Option.bind (sliceS p0 0 2) fun y13 =>
    some (y13 == (⟨#[111, 110]⟩ : ByteArray))
   else
    some false) fun o9 =>
  if o9 then
   Option.bind (sliceS p0 2 (p0.size : Int)) fun y17 =>
   Option.bind (K_raddleref25_Number y17) fun r19 =>
   some ([(api_Stitch.mk 9 false r19.1 0)], r19.2)
  else
   Option.bind (α := Bool) (
    if (p0.size : Int) == 0 then
     some true
    else
     Option.bind (idxS p0 0) fun x29 =>
     if x29 != 107 then
      some (x29 != 112)
     else
      some false) fun o25 =>
   if o25 then
    some (([] : (List api_Stitch)), false)
   else
    Option.bind (idxS p0 0) fun x35 =>
    if (p0.size : Int) == 1 then
     some ([(api_Stitch.mk 1 (x35 == 112) 0 0)], true)
    else
     Option.bind (α := Unit ⊕ ((List api_Stitch) × Bool)) (
      Option.bind (sliceS p0 1 (p0.size : Int)) fun y47 =>
      Option.bind (K_raddleref25_Number y47) fun r49 =>
      if r49.2 then
       Option.bind (α := List api_Stitch) (
        Option.bind (whileK (K_raddleref25_word_l1 r49 x35) (([] : List api_Stitch), 0)) fun e67 =>
         some e67) fun o54 =>
       some (.inr (o54, decide (1 < r49.1)))
      else
       some (.inl ())) fun z0 => match z0 with
      | .inl _ =>
       Option.bind (idxS p0 1) fun x85 =>
       Option.bind (K_raddleref25_kind x85) fun r87 =>
       if r87 == 8 then
        some ([(api_Stitch.mk r87 (x35 == 112) 0 0)], (p0.size : Int) == 2)
       else
        Option.bind (sliceS p0 2 (p0.size : Int)) fun y96 =>
        Option.bind (K_raddleref25_Cut y96 47) fun r98 =>
        Option.bind (α := Bool) (
         if r87 != 0 then
          some ((r98.length : Int) == 1)
         else
          some false) fun o103 =>
        Option.bind (α := (Bool × Int)) (
         Option.bind (α := Bool) (
          if r87 == 6 then
           some true
          else
           some (r87 == 7)) fun o111 =>
         if o111 then
          if (r98.length : Int) == 2 then
           Option.bind (idxO r98 1) fun x119 =>
           Option.bind (K_raddleref25_Number x119) fun r124 =>
           some (r124.2, r124.1)
          else
           some ((r98.length : Int) == 2, 0)
         else
          some (o103, 0)) fun (o107, o108) =>
        Option.bind (idxO r98 0) fun x127 =>
        Option.bind (K_raddleref25_Number x127) fun r132 =>
        Option.bind (α := Bool) (
         if o107 then
          some r132.2
         else
          some false) fun o137 =>
        some ([(api_Stitch.mk r87 (x35 == 112) r132.1 o108)], o137)
      | .inr z =>
       some z
def K_raddleref25_Parse_l1 (r11 : (List ByteArray)) : (List api_Stitch × Int) → Option ((List api_Stitch × Int) ⊕ (((List api_Stitch) × Int) ⊕ (List api_Stitch))) := fun s0 => match s0 with
 | (s23, s26) =>
  if decide (s26 < (r11.length : Int)) then
   Option.bind (idxO r11 s26) fun x38 =>
   Option.bind (K_raddleref25_word x38) fun r43 =>
   if !r43.2 then
    some (.inr (.inl (([] : (List api_Stitch)), 12)))
   else
    Option.bind (appO s23 r43.1) fun l53 =>
    if decide (200 < (l53.length : Int)) then
     some (.inr (.inl (([] : (List api_Stitch)), 12)))
    else
     some (.inl (l53, w64 (s26 + 1)))
  else
   some (.inr (.inr s23))
def K_raddleref25_Check (p0 : api_Stitch) : Option Int :=
 Option.bind (α := Bool) (
  if p0.A == 0 then
   some (p0.B == 0)
  else
   some false) fun o3 =>
 Option.bind (α := Bool) (
  Option.bind (α := Bool) (
   if p0.Kind == 1 then
    some (p0.Kind == 1)
   else
    some (p0.Kind == 8)) fun o12 =>
  if o12 then
   some o3
  else
   if p0.Kind == 2 then
    if o3 then
     some (!p0.Purl)
    else
     some false
   else
    Option.bind (α := Bool) (
     if p0.Kind == 3 then
      some (p0.Kind == 3)
     else
      if p0.Kind == 4 then
       some (p0.Kind == 4)
      else
       some (p0.Kind == 5)) fun o21 =>
    if o21 then
     if p0.B == 0 then
      if decide (2 ≤ p0.A) then
       some (decide (p0.A ≤ 4))
      else
       some false
     else
      some false
    else
     Option.bind (α := Bool) (
      if p0.Kind == 6 then
       some (p0.Kind == 6)
      else
       some (p0.Kind == 7)) fun o31 =>
     if o31 then
      if decide (1 ≤ p0.A) then
       if decide (p0.A ≤ 6) then
        if decide (1 ≤ p0.B) then
         some (decide (p0.B ≤ 6))
        else
         some false
       else
        some false
      else
       some false
     else
      if p0.Kind == 9 then
       if p0.B == 0 then
        if !p0.Purl then
         if decide (1 ≤ p0.A) then
          some (decide (p0.A ≤ 200))
         else
          some false
        else
         some false
       else
        some false
      else
       if p0.Kind == 10 then
        if p0.B == 0 then
         if decide (1 ≤ p0.A) then
          some (decide (p0.A ≤ 200))
         else
          some false
        else
         some false
       else
        some false) fun o8 =>
 if !o8 then
  some 8
 else
  some 0
def K_raddleref25_All_l1 (p0 : (List api_Stitch)) : Int → Option (Int ⊕ (Int ⊕ Unit)) := fun s0 => match s0 with
 | s11 =>
  if decide (s11 < (p0.length : Int)) then
   Option.bind (idxO p0 s11) fun x20 =>
   Option.bind (K_raddleref25_Check x20) fun r25 =>
   if r25 != 0 then
    some (.inr (.inl 8))
   else
    some (.inl (w64 (s11 + 1)))
  else
   some (.inr (.inr ()))
def K_raddleref25_Used (p0 : api_Stitch) : Option Int :=
 Option.bind (α := Bool) (
  if p0.Kind == 2 then
   some (p0.Kind == 2)
  else
   some (p0.Kind == 9)) fun o5 =>
 if o5 then
  some 0
 else
  Option.bind (α := Bool) (
   if p0.Kind == 3 then
    some (p0.Kind == 3)
   else
    if p0.Kind == 4 then
     some (p0.Kind == 4)
    else
     some (p0.Kind == 10)) fun o12 =>
  if o12 then
   some p0.A
  else
   Option.bind (α := Bool) (
    if p0.Kind == 6 then
     some (p0.Kind == 6)
    else
     some (p0.Kind == 7)) fun o21 =>
   if o21 then
    some (w64 (p0.A + p0.B))
   else
    some 1
def K_raddleref25_Gives (p0 : api_Stitch) : Option Int :=
 if p0.Kind == 10 then
  some 0
 else
  Option.bind (α := Bool) (
   if p0.Kind == 5 then
    some (p0.Kind == 5)
   else
    some (p0.Kind == 9)) fun o8 =>
  if o8 then
   some p0.A
  else
   Option.bind (α := Bool) (
    if p0.Kind == 6 then
     some (p0.Kind == 6)
    else
     some (p0.Kind == 7)) fun o15 =>
   if o15 then
    some (w64 (p0.A + p0.B))
   else
    some 1
def K_raddleref25_sums_l1 (p0 : (List api_Stitch)) : (Int × Int × Int) → Option ((Int × Int × Int) ⊕ (Int × Int)) := fun s0 => match s0 with
 | (s10, s11, s12) =>
  if decide (s12 < (p0.length : Int)) then
   Option.bind (idxO p0 s12) fun x23 =>
   Option.bind (K_raddleref25_Used x23) fun r28 =>
   Option.bind (K_raddleref25_Gives x23) fun r33 =>
   some (.inl (w64 (s10 + r28), w64 (s11 + r33), w64 (s12 + 1)))
  else
   some (.inr (s10, s11))
def K_raddleref25_sums (p0 : (List api_Stitch)) : Option (Int × Int) :=
 Option.bind (α := (Int × Int)) (
  Option.bind (whileK (K_raddleref25_sums_l1 p0) (0, 0, 0)) fun (e16, e17) =>
   some (e16, e17)) fun (o5, o6) =>
 some (o5, o6)
def K_raddleref25_All (p0 : (List api_Stitch)) : Option Int :=
 if decide (200 < (p0.length : Int)) then
  some 4
 else
  Option.bind (α := Unit ⊕ Int) (
   Option.bind (whileK (K_raddleref25_All_l1 p0) 0) fun z0 => match z0 with
    | .inl z =>
     some (.inr z)
    | .inr _ =>
     some (.inl ())) fun z0 => match z0 with
   | .inl _ =>
    Option.bind (K_raddleref25_sums p0) fun r30 =>
    Option.bind (α := Bool) (
     if decide (200 < r30.1) then
      some true
     else
      some (decide (200 < r30.2))) fun o33 =>
    if o33 then
     some 4
    else
     some 0
   | .inr z =>
    some z
def K_raddleref25_Decimal_l1  : (Int × ByteArray) → Option ((Int × ByteArray) ⊕ ByteArray) := fun s0 => match s0 with
 | (s13, s14) =>
  if decide (0 < s13) then
   Option.bind (remI s13 10) fun z23 =>
   Option.bind (addS (strO ([IntKind.u8.wrap (w64 (48 + z23))] : List Int)) s14) fun z27 =>
   Option.bind (quoI s13 10) fun z29 =>
   some (.inl (z29, z27))
  else
   some (.inr s14)
def K_raddleref25_Decimal (p0 : Int) : Option ByteArray :=
 Option.bind (remI p0 10) fun z3 =>
 Option.bind (α := ByteArray) (
  Option.bind (quoI p0 10) fun z11 =>
  Option.bind (whileK (K_raddleref25_Decimal_l1) (z11, strO ([IntKind.u8.wrap (w64 (48 + z3))] : List Int))) fun e18 =>
   some e18) fun o7 =>
 some o7
def K_raddleref25_one (p0 : api_Stitch) : Option ByteArray :=
 Option.bind (α := ByteArray) (
  if p0.Purl then
   some (⟨#[112]⟩ : ByteArray)
  else
   some (⟨#[107]⟩ : ByteArray)) fun o4 =>
 if p0.Kind == 1 then
  some o4
 else
  if p0.Kind == 2 then
   some (⟨#[121, 111]⟩ : ByteArray)
  else
   if p0.Kind == 3 then
    Option.bind (addS o4 (⟨#[102]⟩ : ByteArray)) fun z20 =>
    Option.bind (K_raddleref25_Decimal p0.A) fun r22 =>
    Option.bind (addS z20 r22) fun z24 =>
    some z24
   else
    if p0.Kind == 4 then
     Option.bind (addS o4 (⟨#[108]⟩ : ByteArray)) fun z29 =>
     Option.bind (K_raddleref25_Decimal p0.A) fun r31 =>
     Option.bind (addS z29 r31) fun z33 =>
     some z33
    else
     if p0.Kind == 5 then
      Option.bind (addS o4 (⟨#[109]⟩ : ByteArray)) fun z38 =>
      Option.bind (K_raddleref25_Decimal p0.A) fun r40 =>
      Option.bind (addS z38 r40) fun z42 =>
      some z42
     else
      if p0.Kind == 6 then
       Option.bind (addS o4 (⟨#[120]⟩ : ByteArray)) fun z47 =>
       Option.bind (K_raddleref25_Decimal p0.A) fun r49 =>
       Option.bind (addS z47 r49) fun z51 =>
       Option.bind (addS z51 (⟨#[47]⟩ : ByteArray)) fun z53 =>
       Option.bind (K_raddleref25_Decimal p0.B) fun r55 =>
       Option.bind (addS z53 r55) fun z57 =>
       some z57
      else
       if p0.Kind == 7 then
        Option.bind (addS o4 (⟨#[121]⟩ : ByteArray)) fun z62 =>
        Option.bind (K_raddleref25_Decimal p0.A) fun r64 =>
        Option.bind (addS z62 r64) fun z66 =>
        Option.bind (addS z66 (⟨#[47]⟩ : ByteArray)) fun z68 =>
        Option.bind (K_raddleref25_Decimal p0.B) fun r70 =>
        Option.bind (addS z68 r70) fun z72 =>
        some z72
       else
        if p0.Kind == 8 then
         Option.bind (addS o4 (⟨#[115]⟩ : ByteArray)) fun z77 =>
         some z77
        else
         if p0.Kind == 9 then
          Option.bind (K_raddleref25_Decimal p0.A) fun r82 =>
          Option.bind (addS (⟨#[111, 110]⟩ : ByteArray) r82) fun z84 =>
          some z84
         else
          Option.bind (addS o4 (⟨#[111]⟩ : ByteArray)) fun z87 =>
          Option.bind (K_raddleref25_Decimal p0.A) fun r89 =>
          Option.bind (addS z87 r89) fun z91 =>
          some z91
def K_raddleref25_Written_l1 (p0 : (List api_Stitch)) : (Int × Int) → Option ((Int × Int) ⊕ (Int × Int)) := fun s0 => match s0 with
 | (s44, s45) =>
  Option.bind (α := Bool) (
   Option.bind (idxO p0 s44) fun x55 =>
   if x55.Kind == 1 then
    if decide ((w64 (s44 + 1)) < (p0.length : Int)) then
     Option.bind (idxO p0 (w64 (s44 + 1))) fun x64 =>
     some ((x64.Kind == x55.Kind) && ((x64.Purl == x55.Purl) && ((x64.A == x55.A) && ((x64.B == x55.B) && true))))
    else
     some false
   else
    some false) fun o52 =>
  if o52 then
   some (.inl (w64 (s44 + 1), w64 (s45 + 1)))
  else
   some (.inr (s44, s45))
def K_raddleref25_Written_l2 (p0 : (List api_Stitch)) : (ByteArray × Int) → Option ((ByteArray × Int) ⊕ ByteArray) := fun s0 => match s0 with
 | (s9, s10) =>
  if decide (s10 < (p0.length : Int)) then
   Option.bind (α := (ByteArray × Int)) (
    Option.bind (α := ByteArray) (
     if decide (0 < s10) then
      Option.bind (addS s9 (⟨#[32]⟩ : ByteArray)) fun z27 =>
      some z27
     else
      some s9) fun o22 =>
    Option.bind (idxO p0 s10) fun x30 =>
    Option.bind (K_raddleref25_one x30) fun r35 =>
    Option.bind (addS o22 r35) fun z37 =>
    Option.bind (α := (Int × Int)) (
     Option.bind (whileK (K_raddleref25_Written_l1 p0) (s10, 1)) fun (e49, e50) =>
      some (e49, e50)) fun (o40, o41) =>
    if decide (1 < o41) then
     Option.bind (K_raddleref25_Decimal o41) fun r97 =>
     Option.bind (addS z37 r97) fun z99 =>
     some (z99, o40)
    else
     some (z37, o40)) fun (o18, o19) =>
   some (.inl (o18, w64 (o19 + 1)))
  else
   some (.inr s9)
def K_raddleref25_Written (p0 : (List api_Stitch)) : Option ByteArray :=
 Option.bind (α := ByteArray) (
  Option.bind (whileK (K_raddleref25_Written_l2 p0) ((⟨#[]⟩ : ByteArray), 0)) fun e14 =>
   some e14) fun o5 =>
 some o5
def K_raddleref25_Parse (p0 : ByteArray) : Option ((List api_Stitch) × Int) :=
 if decide (3000 < (p0.size : Int)) then
  some (([] : (List api_Stitch)), 12)
 else
  if p0 == (⟨#[]⟩ : ByteArray) then
   some (([] : (List api_Stitch)), 0)
  else
   Option.bind (K_raddleref25_Cut p0 32) fun r11 =>
   Option.bind (α := List api_Stitch ⊕ ((List api_Stitch) × Int)) (
    Option.bind (whileK (K_raddleref25_Parse_l1 r11) (([] : List api_Stitch), 0)) fun z0 => match z0 with
     | .inl z =>
      some (.inr z)
     | .inr e30 =>
      some (.inl e30)) fun z0 => match z0 with
    | .inl o17 =>
     Option.bind (α := Bool) (
      Option.bind (K_raddleref25_All o17) fun r64 =>
      if r64 != 0 then
       some true
      else
       Option.bind (K_raddleref25_Written o17) fun r67 =>
       some (r67 != p0)) fun o61 =>
     if o61 then
      some (([] : (List api_Stitch)), 12)
     else
      some (o17, 0)
    | .inr z =>
     some z
def K_raddlelaw46_cells (p0 : ByteArray) : Option (List api_Stitch) :=
 Option.bind (K_raddleref25_Parse p0) fun r3 =>
 some r3.1
def K_stitch_forms (p0 : Int) : Option (stitch_form × Bool) :=
 Option.bind (α := Bool) (
  if decide (p0 < 1) then
   some true
  else
   some (decide (([(stitch_form.mk (⟨#[]⟩ : ByteArray) (0, 0) (0, 0) true 1 1), (stitch_form.mk (⟨#[]⟩ : ByteArray) (0, 0) (0, 0) false 0 1), (stitch_form.mk (⟨#[102]⟩ : ByteArray) (2, 4) (0, 0) true 2 1), (stitch_form.mk (⟨#[108]⟩ : ByteArray) (2, 4) (0, 0) true 2 1), (stitch_form.mk (⟨#[109]⟩ : ByteArray) (2, 4) (0, 0) true 1 2), (stitch_form.mk (⟨#[120]⟩ : ByteArray) (1, 6) (1, 6) true 3 3), (stitch_form.mk (⟨#[121]⟩ : ByteArray) (1, 6) (1, 6) true 3 3), (stitch_form.mk (⟨#[115]⟩ : ByteArray) (0, 0) (0, 0) true 1 1), (stitch_form.mk (⟨#[]⟩ : ByteArray) (1, 200) (0, 0) false 0 2), (stitch_form.mk (⟨#[111]⟩ : ByteArray) (1, 200) (0, 0) true 2 0)].length : Int) < (IntKind.i64.wrap p0)))) fun o12 =>
 if o12 then
  some ((stitch_form.mk (⟨#[]⟩ : ByteArray) (0, 0) (0, 0) false 0 0), false)
 else
  Option.bind (idxO [(stitch_form.mk (⟨#[]⟩ : ByteArray) (0, 0) (0, 0) true 1 1), (stitch_form.mk (⟨#[]⟩ : ByteArray) (0, 0) (0, 0) false 0 1), (stitch_form.mk (⟨#[102]⟩ : ByteArray) (2, 4) (0, 0) true 2 1), (stitch_form.mk (⟨#[108]⟩ : ByteArray) (2, 4) (0, 0) true 2 1), (stitch_form.mk (⟨#[109]⟩ : ByteArray) (2, 4) (0, 0) true 1 2), (stitch_form.mk (⟨#[120]⟩ : ByteArray) (1, 6) (1, 6) true 3 3), (stitch_form.mk (⟨#[121]⟩ : ByteArray) (1, 6) (1, 6) true 3 3), (stitch_form.mk (⟨#[115]⟩ : ByteArray) (0, 0) (0, 0) true 1 1), (stitch_form.mk (⟨#[]⟩ : ByteArray) (1, 200) (0, 0) false 0 2), (stitch_form.mk (⟨#[111]⟩ : ByteArray) (1, 200) (0, 0) true 2 0)] (IntKind.u8.wrap (p0 - 1))) fun x19 =>
  some (x19, true)
def K_stitch_within (p0 : Int) (p1 : (Int × Int)) : Option Bool :=
 Option.bind (α := Bool) (
  if decide (p1.1 ≤ p0) then
   some (decide (p0 ≤ p1.2))
  else
   some false) fun o3 =>
 some o3
def K_stitch_Check (p0 : api_Stitch) : Option Int :=
 Option.bind (K_stitch_forms p0.Kind) fun r4 =>
 Option.bind (α := Bool) (
  if !r4.2 then
   some true
  else
   Option.bind (K_stitch_within p0.A r4.1.a) fun r13 =>
   if !r13 then
    some true
   else
    Option.bind (K_stitch_within p0.B r4.1.b) fun r16 =>
    if !r16 then
     some true
    else
     if p0.Purl then
      some (!r4.1.sided)
     else
      some false) fun o9 =>
 if o9 then
  some 8
 else
  some 0
def K_stitch_All_1 (p0 : api_Stitch) : Option Bool :=
 Option.bind (K_stitch_Check p0) fun r4 =>
 some (r4 != 0)
def K_slices_IndexFunc___api_Stitch_api_Stitch__s0_l1 (p0 : (List api_Stitch)) : Int → Option (Int ⊕ (Int ⊕ Unit)) := fun s0 => match s0 with
 | s7 =>
  if decide (s7 < (p0.length : Int)) then
   Option.bind (idxO p0 s7) fun x17 =>
   Option.bind (K_stitch_All_1 x17) fun r22 =>
   if r22 then
    some (.inr (.inl s7))
   else
    some (.inl (w64 (s7 + 1)))
  else
   some (.inr (.inr ()))
def K_slices_IndexFunc___api_Stitch_api_Stitch__s0 (p0 : (List api_Stitch)) : Option Int :=
 Option.bind (α := Unit ⊕ Int) (
  Option.bind (whileK (K_slices_IndexFunc___api_Stitch_api_Stitch__s0_l1 p0) 0) fun z0 => match z0 with
   | .inl z =>
    some (.inr z)
   | .inr _ =>
    some (.inl ())) fun z0 => match z0 with
  | .inl _ =>
   some (-1)
  | .inr z =>
   some z
def K_slices_ContainsFunc___api_Stitch_api_Stitch__s0 (p0 : (List api_Stitch)) : Option Bool :=
 Option.bind (K_slices_IndexFunc___api_Stitch_api_Stitch__s0 p0) fun r5 =>
 some (decide (0 ≤ r5))
def K_stitch_loops (p0 : api_Stitch) (p1 : Int) : Option Int :=
 Option.bind (idxO ([0, 1, p0.A, w64 (p0.A + p0.B)] : List Int) p1) fun x4 =>
 some x4
def K_stitch_sum_l1 (p0 : (List api_Stitch)) : (Int × Int × Int) → Option ((Int × Int × Int) ⊕ (Int × Int)) := fun s0 => match s0 with
 | (s9, s10, s11) =>
  if decide (s11 < (p0.length : Int)) then
   Option.bind (idxO p0 s11) fun x22 =>
   Option.bind (K_stitch_forms x22.Kind) fun r29 =>
   Option.bind (K_stitch_loops x22 r29.1.uses) fun r34 =>
   Option.bind (K_stitch_loops x22 r29.1.made) fun r36 =>
   some (.inl (w64 (s9 + r34), w64 (s10 + r36), w64 (s11 + 1)))
  else
   some (.inr (s9, s10))
def K_stitch_sum (p0 : (List api_Stitch)) : Option (Int × Int) :=
 Option.bind (α := (Int × Int)) (
  Option.bind (whileK (K_stitch_sum_l1 p0) (0, 0, 0)) fun (e15, e16) =>
   some (e15, e16)) fun (o4, o5) =>
 some (o4, o5)
def K_stitch_All (p0 : (List api_Stitch)) : Option Int :=
 if decide (200 < (p0.length : Int)) then
  some 4
 else
  Option.bind (K_slices_ContainsFunc___api_Stitch_api_Stitch__s0 p0) fun r10 =>
  if r10 then
   some 8
  else
   Option.bind (K_stitch_sum p0) fun r16 =>
   if decide (200 < (if r16.1 < r16.2 then r16.2 else r16.1)) then
    some 4
   else
    some 0
def K_compare_Edits_l1 (p0 : (List api_Stitch)) (p1 : (List api_Stitch)) : Int → Option (Int ⊕ (((List api_CellStep) × Int × Int) ⊕ Unit)) := fun s0 => match s0 with
 | s9 =>
  if decide (s9 < 2) then
   Option.bind (idxO ([p0, p1] : List (List api_Stitch)) s9) fun x19 =>
   Option.bind (K_stitch_All x19) fun r24 =>
   if r24 != 0 then
    some (.inr (.inl (([] : (List api_CellStep)), 0, r24)))
   else
    some (.inl (w64 (s9 + 1)))
  else
   some (.inr (.inr ()))
def K_compare_cellTable_1 (p0 : api_Stitch) : Option Int :=
 some 1
def K_compare_cellTable_2 (p0 : api_Stitch) (p1 : api_Stitch) : Option Int :=
 if ((p0.Kind == p1.Kind) && ((p0.Purl == p1.Purl) && ((p0.A == p1.A) && ((p0.B == p1.B) && true)))) then
  some 0
 else
  some 1
def K_compare_table_api_Stitch__s0_l1 (s16 : Int) (p0 : (List api_Stitch)) (p1 : (List api_Stitch)) (s15 : List (List Int)) : (Int × List Int) → Option ((Int × List Int) ⊕ List Int) := fun s0 => match s0 with
 | (s40, s41) =>
  if decide (0 ≤ s40) then
   Option.bind (α := List Int) (
    Option.bind (α := Bool) (
     if s16 == (p0.length : Int) then
      some (s40 == (p1.length : Int))
     else
      some false) fun o52 =>
    if o52 then
     some s41
    else
     if s16 == (p0.length : Int) then
      Option.bind (idxO s41 (w64 (s40 + 1))) fun x65 =>
      Option.bind (idxO p1 s40) fun x70 =>
      Option.bind (K_compare_cellTable_1 x70) fun r75 =>
      Option.bind (idxO s41 s40) fun x77 =>
      Option.bind (setO s41 s40 (w64 (x65 + r75))) fun l82 =>
      some l82
     else
      if s40 == (p1.length : Int) then
       Option.bind (idxO s15 (w64 (s16 + 1))) fun x104 =>
       Option.bind (idxO x104 s40) fun x112 =>
       Option.bind (idxO p0 s16) fun x117 =>
       Option.bind (K_compare_cellTable_1 x117) fun r122 =>
       Option.bind (idxO s41 s40) fun x124 =>
       Option.bind (setO s41 s40 (w64 (x112 + r122))) fun l129 =>
       some l129
      else
       Option.bind (idxO s15 (w64 (s16 + 1))) fun x152 =>
       Option.bind (idxO x152 s40) fun x160 =>
       Option.bind (idxO p0 s16) fun x165 =>
       Option.bind (K_compare_cellTable_1 x165) fun r170 =>
       Option.bind (idxO s41 (w64 (s40 + 1))) fun x175 =>
       Option.bind (idxO p1 s40) fun x180 =>
       Option.bind (K_compare_cellTable_1 x180) fun r185 =>
       Option.bind (idxO x152 (w64 (s40 + 1))) fun x193 =>
       Option.bind (K_compare_cellTable_2 x165 x180) fun r204 =>
       Option.bind (idxO s41 s40) fun x206 =>
       Option.bind (setO s41 s40 (min3 (w64 (x160 + r170)) (w64 (x175 + r185)) (w64 (x193 + r204)))) fun l211 =>
       some l211) fun o49 =>
   some (.inl (w64 (s40 - 1), o49))
  else
   some (.inr s41)
def K_compare_table_api_Stitch__s0_l2 (p1 : (List api_Stitch)) (p0 : (List api_Stitch)) : (List (List Int) × Int) → Option ((List (List Int) × Int) ⊕ List (List Int)) := fun s0 => match s0 with
 | (s15, s16) =>
  if decide (0 ≤ s16) then
   Option.bind (α := List Int) (
    Option.bind (makeO (w64 ((p1.length : Int) + 1)) (0 : Int)) fun m32 =>
    Option.bind (idxO s15 s16) fun x34 =>
    Option.bind (whileK (K_compare_table_api_Stitch__s0_l1 s16 p0 p1 s15) ((p1.length : Int), m32)) fun e45 =>
     some e45) fun o24 =>
   some (.inl ((s15.set (s16).toNat o24), w64 (s16 - 1)))
  else
   some (.inr s15)
def K_compare_table_api_Stitch__s0 (p0 : (List api_Stitch)) (p1 : (List api_Stitch)) : Option (List (List Int)) :=
 Option.bind (makeO (w64 ((p0.length : Int) + 1)) ([] : (List Int))) fun m9 =>
 Option.bind (α := List (List Int)) (
  Option.bind (whileK (K_compare_table_api_Stitch__s0_l2 p1 p0) (m9, (p0.length : Int))) fun e20 =>
   some e20) fun o11 =>
 some o11
def K_compare_cellTable (p0 : (List api_Stitch)) (p1 : (List api_Stitch)) : Option (List (List Int)) :=
 Option.bind (K_compare_table_api_Stitch__s0 p0 p1) fun r7 =>
 some r7
def K_compare_Edits_l2 (p0 : (List api_Stitch)) (p1 : (List api_Stitch)) (r30 : (List (List Int))) : (List api_CellStep × Int × Int) → Option ((List api_CellStep × Int × Int) ⊕ List api_CellStep) := fun s0 => match s0 with
 | (s42, s45, s46) =>
  Option.bind (α := Bool) (
   if decide (s45 < (p0.length : Int)) then
    some true
   else
    some (decide (s46 < (p1.length : Int)))) fun o54 =>
  if o54 then
   Option.bind (idxO r30 s45) fun x60 =>
   Option.bind (idxO x60 s46) fun x67 =>
   Option.bind (α := Bool) (
    if decide (s45 < (p0.length : Int)) then
     if decide (s46 < (p1.length : Int)) then
      Option.bind (idxO p0 s45) fun x77 =>
      Option.bind (idxO p1 s46) fun x82 =>
      if ((x77.Kind == x82.Kind) && ((x77.Purl == x82.Purl) && ((x77.A == x82.A) && ((x77.B == x82.B) && true)))) then
       Option.bind (idxO r30 (w64 (s45 + 1))) fun x88 =>
       Option.bind (idxO x88 (w64 (s46 + 1))) fun x95 =>
       some (x67 == x95)
      else
       some false
     else
      some false
    else
     some false) fun o72 =>
   if o72 then
    Option.bind (appO s42 [(api_CellStep.mk 1 (api_Stitch.mk 0 false 0 0))]) fun l124 =>
    some (.inl (l124, w64 (s45 + 1), w64 (s46 + 1)))
   else
    Option.bind (α := Bool) (
     if decide (s45 < (p0.length : Int)) then
      if decide (s46 < (p1.length : Int)) then
       Option.bind (idxO p0 s45) fun x134 =>
       Option.bind (idxO p1 s46) fun x139 =>
       if !((x134.Kind == x139.Kind) && ((x134.Purl == x139.Purl) && ((x134.A == x139.A) && ((x134.B == x139.B) && true)))) then
        Option.bind (idxO r30 (w64 (s45 + 1))) fun x145 =>
        Option.bind (idxO x145 (w64 (s46 + 1))) fun x152 =>
        some (x67 == (w64 (1 + x152)))
       else
        some false
      else
       some false
     else
      some false) fun o129 =>
    if o129 then
     Option.bind (idxO p1 s46) fun x179 =>
     Option.bind (appO s42 [(api_CellStep.mk 2 x179)]) fun l186 =>
     some (.inl (l186, w64 (s45 + 1), w64 (s46 + 1)))
    else
     Option.bind (α := Bool) (
      if decide (s45 < (p0.length : Int)) then
       Option.bind (idxO r30 (w64 (s45 + 1))) fun x195 =>
       Option.bind (idxO x195 s46) fun x202 =>
       some (x67 == (w64 (1 + x202)))
      else
       some false) fun o191 =>
     if o191 then
      Option.bind (appO s42 [(api_CellStep.mk 4 (api_Stitch.mk 0 false 0 0))]) fun l211 =>
      some (.inl (l211, w64 (s45 + 1), s46))
     else
      Option.bind (idxO p1 s46) fun x216 =>
      Option.bind (appO s42 [(api_CellStep.mk 3 x216)]) fun l223 =>
      some (.inl (l223, s45, w64 (s46 + 1)))
  else
   some (.inr s42)
def K_compare_Edits (p0 : (List api_Stitch)) (p1 : (List api_Stitch)) : Option ((List api_CellStep) × Int × Int) :=
 Option.bind (α := Unit ⊕ ((List api_CellStep) × Int × Int)) (
  Option.bind (whileK (K_compare_Edits_l1 p0 p1) 0) fun z0 => match z0 with
   | .inl z =>
    some (.inr z)
   | .inr _ =>
    some (.inl ())) fun z0 => match z0 with
  | .inl _ =>
   Option.bind (K_compare_cellTable p0 p1) fun r30 =>
   Option.bind (α := List api_CellStep) (
    Option.bind (whileK (K_compare_Edits_l2 p0 p1 r30) (([] : List api_CellStep), 0, 0)) fun e50 =>
     some e50) fun o37 =>
   Option.bind (idxO r30 0) fun x228 =>
   Option.bind (idxO x228 0) fun x235 =>
   some (o37, x235, 0)
  | .inr z =>
   some z
def K_raddleref26_Parse_l1 (r8 : (List ByteArray)) (s54 : Int) : Int → Option (Int ⊕ Int) := fun s0 => match s0 with
 | s76 =>
  Option.bind (α := Bool) (
   Option.bind (idxO r8 s54) fun x85 =>
   if decide (s76 < (x85.size : Int)) then
    Option.bind (idxS x85 s76) fun x94 =>
    some (x94 != 32)
   else
    some false) fun o82 =>
  if o82 then
   some (.inl (w64 (s76 + 1)))
  else
   some (.inr s76)
def K_raddleref26_Parse_l2 (r8 : (List ByteArray)) : (Int × List api_Row) → Option ((Int × List api_Row) ⊕ ((api_Chart × Int) ⊕ (List api_Row))) := fun s0 => match s0 with
 | (s54, s55) =>
  if decide ((w64 (s54 + 1)) < (r8.length : Int)) then
   Option.bind (α := List api_Row ⊕ (api_Chart × Int)) (
    Option.bind (α := Int) (
     Option.bind (whileK (K_raddleref26_Parse_l1 r8 s54) 0) fun e80 =>
      some e80) fun o73 =>
    Option.bind (α := Bool) (
     Option.bind (idxO r8 s54) fun x101 =>
     Option.bind (sliceS x101 0 o73) fun y106 =>
     if y106 != (⟨#[102, 114, 111, 110, 116]⟩ : ByteArray) then
      some (y106 != (⟨#[98, 97, 99, 107]⟩ : ByteArray))
     else
      some false) fun o98 =>
    if o98 then
     some (.inr ((api_Chart.mk 0 ([] : (List api_Row))), 12))
    else
     Option.bind (idxO r8 s54) fun x115 =>
     Option.bind (sliceS x115 0 o73) fun y120 =>
     Option.bind (α := List api_Stitch ⊕ (api_Chart × Int)) (
      if decide (o73 < (x115.size : Int)) then
       Option.bind (sliceS x115 (w64 (o73 + 1)) (x115.size : Int)) fun y137 =>
       Option.bind (K_raddleref25_Parse y137) fun r139 =>
       if r139.2 != 0 then
        some (.inr ((api_Chart.mk 0 ([] : (List api_Row))), 12))
       else
        some (.inl r139.1)
      else
       some (.inl ([] : List api_Stitch))) fun z0 => match z0 with
      | .inl o123 =>
       Option.bind (appO s55 [(api_Row.mk (y120 == (⟨#[98, 97, 99, 107]⟩ : ByteArray)) o123)]) fun l150 =>
       some (.inl l150)
      | .inr z =>
       some (.inr z)) fun z0 => match z0 with
    | .inl o67 =>
     some (.inl (w64 (s54 + 1), o67))
    | .inr z =>
     some (.inr (.inl z))
  else
   some (.inr (.inr s55))
def K_raddleref25_Uses (p0 : (List api_Stitch)) : Option (Int × Int) :=
 Option.bind (K_raddleref25_All p0) fun r6 =>
 if r6 != 0 then
  some (0, r6)
 else
  Option.bind (K_raddleref25_sums p0) fun r11 =>
  some (r11.1, 0)
def K_raddleref25_Makes (p0 : (List api_Stitch)) : Option (Int × Int) :=
 Option.bind (K_raddleref25_All p0) fun r6 =>
 if r6 != 0 then
  some (0, r6)
 else
  Option.bind (K_raddleref25_sums p0) fun r11 =>
  some (r11.2, 0)
def K_raddleref26_Check_l1 (p0 : api_Chart) : (Int × Int) → Option ((Int × Int) ⊕ (Int ⊕ Unit)) := fun s0 => match s0 with
 | (s22, s23) =>
  if decide (s23 < (p0.Rows.length : Int)) then
   Option.bind (idxO p0.Rows s23) fun x32 =>
   Option.bind (K_raddleref25_Uses x32.Cells) fun r41 =>
   if r41.2 != 0 then
    some (.inr (.inl r41.2))
   else
    if r41.1 != s22 then
     some (.inr (.inl 26))
    else
     Option.bind (K_raddleref25_Makes x32.Cells) fun r58 =>
     some (.inl (r58.1, w64 (s23 + 1)))
  else
   some (.inr (.inr ()))
def K_raddleref26_Check (p0 : api_Chart) : Option Int :=
 if decide (100 < (p0.Rows.length : Int)) then
  some 4
 else
  Option.bind (α := Bool) (
   if decide (p0.Start < 0) then
    some true
   else
    some (decide (200 < p0.Start))) fun o12 =>
  if o12 then
   some 8
  else
   Option.bind (α := Unit ⊕ Int) (
    Option.bind (whileK (K_raddleref26_Check_l1 p0) (p0.Start, 0)) fun z0 => match z0 with
     | .inl z =>
      some (.inr z)
     | .inr _ =>
      some (.inl ())) fun z0 => match z0 with
    | .inl _ =>
     some 0
    | .inr z =>
     some z
def K_raddleref26_side (p0 : Bool) : Option ByteArray :=
 if p0 then
  some (⟨#[98, 97, 99, 107]⟩ : ByteArray)
 else
  some (⟨#[102, 114, 111, 110, 116]⟩ : ByteArray)
def K_raddleref26_Written_l1 (p0 : api_Chart) : (ByteArray × Int) → Option ((ByteArray × Int) ⊕ ((ByteArray × Bool) ⊕ ByteArray)) := fun s0 => match s0 with
 | (s18, s19) =>
  if decide (s19 < (p0.Rows.length : Int)) then
   Option.bind (idxO p0.Rows s19) fun x29 =>
   Option.bind (K_raddleref25_Written x29.Cells) fun r38 =>
   if decide (3000 < (r38.size : Int)) then
    some (.inr (.inl ((⟨#[]⟩ : ByteArray), false)))
   else
    Option.bind (K_raddleref26_side x29.Back) fun r50 =>
    Option.bind (addS s18 r50) fun z52 =>
    Option.bind (α := ByteArray) (
     if r38 != (⟨#[]⟩ : ByteArray) then
      Option.bind (addS z52 (⟨#[32]⟩ : ByteArray)) fun z59 =>
      Option.bind (addS z59 r38) fun z61 =>
      some z61
     else
      some z52) fun o54 =>
    Option.bind (addS o54 (⟨#[10]⟩ : ByteArray)) fun z63 =>
    some (.inl (z63, w64 (s19 + 1)))
  else
   some (.inr (.inr s18))
def K_raddleref26_Written (p0 : api_Chart) : Option (ByteArray × Bool) :=
 Option.bind (K_raddleref25_Decimal p0.Start) fun r8 =>
 Option.bind (addS (⟨#[115, 116, 97, 114, 116, 32]⟩ : ByteArray) r8) fun z10 =>
 Option.bind (addS z10 (⟨#[10]⟩ : ByteArray)) fun z12 =>
 Option.bind (α := ByteArray ⊕ (ByteArray × Bool)) (
  Option.bind (whileK (K_raddleref26_Written_l1 p0) (z12, 0)) fun z0 => match z0 with
   | .inl z =>
    some (.inr z)
   | .inr e23 =>
    some (.inl e23)) fun z0 => match z0 with
  | .inl o14 =>
   some (o14, true)
  | .inr z =>
   some z
def K_raddleref26_Parse (p0 : ByteArray) : Option (api_Chart × Int) :=
 if decide (20000 < (p0.size : Int)) then
  some ((api_Chart.mk 0 ([] : (List api_Row))), 12)
 else
  Option.bind (K_raddleref25_Cut p0 10) fun r8 =>
  Option.bind (α := Bool) (
   if decide ((r8.length : Int) < 2) then
    some true
   else
    if decide (100 < (w64 ((r8.length : Int) - 2))) then
     some true
    else
     Option.bind (idxO r8 0) fun x19 =>
     if decide ((x19.size : Int) < 7) then
      some true
     else
      Option.bind (sliceS x19 0 6) fun y28 =>
      some (y28 != (⟨#[115, 116, 97, 114, 116, 32]⟩ : ByteArray))) fun o14 =>
  if o14 then
   some ((api_Chart.mk 0 ([] : (List api_Row))), 12)
  else
   Option.bind (idxO r8 0) fun x33 =>
   Option.bind (sliceS x33 6 (x33.size : Int)) fun y38 =>
   Option.bind (K_raddleref25_Number y38) fun r40 =>
   if !r40.2 then
    some ((api_Chart.mk 0 ([] : (List api_Row))), 12)
   else
    Option.bind (α := List api_Row ⊕ (api_Chart × Int)) (
     Option.bind (whileK (K_raddleref26_Parse_l2 r8) (1, ([] : List api_Row))) fun z0 => match z0 with
      | .inl z =>
       some (.inr z)
      | .inr e61 =>
       some (.inl e61)) fun z0 => match z0 with
     | .inl o48 =>
      Option.bind (K_raddleref26_Check (api_Chart.mk r40.1 o48)) fun r156 =>
      if r156 != 0 then
       some ((api_Chart.mk 0 ([] : (List api_Row))), 12)
      else
       Option.bind (K_raddleref26_Written (api_Chart.mk r40.1 o48)) fun r161 =>
       Option.bind (α := Bool) (
        if !r161.2 then
         some true
        else
         some (r161.1 != p0)) fun o164 =>
       if o164 then
        some ((api_Chart.mk 0 ([] : (List api_Row))), 12)
       else
        some ((api_Chart.mk r40.1 o48), 0)
     | .inr z =>
      some z
def K_raddlelaw46_knit (p0 : ByteArray) : Option api_Chart :=
 Option.bind (K_raddleref26_Parse p0) fun r4 =>
 some r4.1
def K_chart_counted (p0 : api_Chart) : Option api_Chart :=
 some p0
def K_stitch_Uses (p0 : (List api_Stitch)) : Option (Int × Int) :=
 Option.bind (K_stitch_All p0) fun r6 =>
 if r6 != 0 then
  some (0, r6)
 else
  Option.bind (K_stitch_sum p0) fun r12 =>
  some (r12.1, 0)
def K_stitch_Makes (p0 : (List api_Stitch)) : Option (Int × Int) :=
 Option.bind (K_stitch_All p0) fun r6 =>
 if r6 != 0 then
  some (0, r6)
 else
  Option.bind (K_stitch_sum p0) fun r12 =>
  some (r12.2, 0)
def K_chart_counted_1_l1 {σ τ : Type} (p0 : api_Chart) (B : σ → (Int × chart_count) → Option (σ ⊕ τ)) : (Int × Int × σ) → Option ((Int × Int × σ) ⊕ ((σ ⊕ τ) ⊕ (σ))) := fun s0 => match s0 with
 | (s11, s12, gz13) =>
  if decide (s12 < (p0.Rows.length : Int)) then
   Option.bind (idxO p0.Rows s12) fun x23 =>
   Option.bind (K_stitch_Uses x23.Cells) fun r36 =>
   Option.bind (α := (Int × Int)) (
    if r36.2 != 0 then
     some (0, r36.2)
    else
     if r36.1 != s11 then
      some (0, 26)
     else
      Option.bind (K_stitch_Makes x23.Cells) fun r46 =>
      some (r46.1, 0)) fun (o38, o39) =>
   Option.bind (B gz13 (s12, (chart_count.mk s11 o38 o39))) fun y51 =>
   match y51 with
   | .inl gz53 =>
    if ((chart_count.mk s11 o38 o39).e) != 0 then
     some (.inr (.inl (.inl gz53)))
    else
     some (.inl ((chart_count.mk s11 o38 o39).after, w64 (s12 + 1), gz53))
   | .inr tz54 =>
    some (.inr (.inl (.inr tz54)))
  else
   some (.inr (.inr gz13))
def K_I_chart_counted_1 (p0 : api_Chart) (σ τ : Type) (B : σ → (Int × chart_count) → Option (σ ⊕ τ)) (gz0 : σ) : Option (σ ⊕ τ) :=
 Option.bind (whileK (K_chart_counted_1_l1 p0 B) (p0.Start, 0, gz0)) fun z0 => match z0 with
  | .inl z =>
   some z
  | .inr gz17 =>
   some (.inl gz17)
def K_chart_Check_l2  : Unit → (Int × chart_count) → Option (Unit ⊕ Int) := fun s0 x0 => match s0, x0 with
 | _, (x25, x27) =>
  if x27.e != 0 then
   some (.inr x27.e)
  else
   some (.inl ())
def K_chart_Check (p0 : api_Chart) : Option Int :=
 if decide (100 < (p0.Rows.length : Int)) then
  some 4
 else
  Option.bind (α := Bool) (
   if decide (p0.Start < 0) then
    some true
   else
    some (decide (200 < p0.Start))) fun o13 =>
  if o13 then
   some 8
  else
   Option.bind (K_chart_counted p0) fun r21 =>
   Option.bind (K_I_chart_counted_1 r21 _ _ (K_chart_Check_l2) ()) fun z0 => match z0 with
    | .inl _ =>
     some 0
    | .inr e24 =>
     some e24
def K_compare_Charts_1 (p0 : api_Row) : Option Int :=
 some (w64 (1 + (p0.Cells.length : Int)))
def K_compare_Charts_2 (p0 : api_Row) (p1 : api_Row) : Option Int :=
 Option.bind (K_compare_cellTable p0.Cells p1.Cells) fun r13 =>
 Option.bind (idxO r13 0) fun x18 =>
 Option.bind (idxO x18 0) fun x25 =>
 Option.bind (α := Int) (
  if p0.Back != p1.Back then
   some (w64 (x25 + 1))
  else
   some x25) fun o30 =>
 some o30
def K_compare_table_api_Row__s0_l1 (s16 : Int) (p0 : (List api_Row)) (p1 : (List api_Row)) (s15 : List (List Int)) : (Int × List Int) → Option ((Int × List Int) ⊕ List Int) := fun s0 => match s0 with
 | (s40, s41) =>
  if decide (0 ≤ s40) then
   Option.bind (α := List Int) (
    Option.bind (α := Bool) (
     if s16 == (p0.length : Int) then
      some (s40 == (p1.length : Int))
     else
      some false) fun o52 =>
    if o52 then
     some s41
    else
     if s16 == (p0.length : Int) then
      Option.bind (idxO s41 (w64 (s40 + 1))) fun x65 =>
      Option.bind (idxO p1 s40) fun x70 =>
      Option.bind (K_compare_Charts_1 x70) fun r79 =>
      Option.bind (idxO s41 s40) fun x81 =>
      Option.bind (setO s41 s40 (w64 (x65 + r79))) fun l86 =>
      some l86
     else
      if s40 == (p1.length : Int) then
       Option.bind (idxO s15 (w64 (s16 + 1))) fun x112 =>
       Option.bind (idxO x112 s40) fun x120 =>
       Option.bind (idxO p0 s16) fun x125 =>
       Option.bind (K_compare_Charts_1 x125) fun r134 =>
       Option.bind (idxO s41 s40) fun x136 =>
       Option.bind (setO s41 s40 (w64 (x120 + r134))) fun l141 =>
       some l141
      else
       Option.bind (idxO s15 (w64 (s16 + 1))) fun x168 =>
       Option.bind (idxO x168 s40) fun x176 =>
       Option.bind (idxO p0 s16) fun x181 =>
       Option.bind (K_compare_Charts_1 x181) fun r190 =>
       Option.bind (idxO s41 (w64 (s40 + 1))) fun x195 =>
       Option.bind (idxO p1 s40) fun x200 =>
       Option.bind (K_compare_Charts_1 x200) fun r209 =>
       Option.bind (idxO x168 (w64 (s40 + 1))) fun x217 =>
       Option.bind (K_compare_Charts_2 x181 x200) fun r236 =>
       Option.bind (idxO s41 s40) fun x238 =>
       Option.bind (setO s41 s40 (min3 (w64 (x176 + r190)) (w64 (x195 + r209)) (w64 (x217 + r236)))) fun l243 =>
       some l243) fun o49 =>
   some (.inl (w64 (s40 - 1), o49))
  else
   some (.inr s41)
def K_compare_table_api_Row__s0_l2 (p1 : (List api_Row)) (p0 : (List api_Row)) : (List (List Int) × Int) → Option ((List (List Int) × Int) ⊕ List (List Int)) := fun s0 => match s0 with
 | (s15, s16) =>
  if decide (0 ≤ s16) then
   Option.bind (α := List Int) (
    Option.bind (makeO (w64 ((p1.length : Int) + 1)) (0 : Int)) fun m32 =>
    Option.bind (idxO s15 s16) fun x34 =>
    Option.bind (whileK (K_compare_table_api_Row__s0_l1 s16 p0 p1 s15) ((p1.length : Int), m32)) fun e45 =>
     some e45) fun o24 =>
   some (.inl ((s15.set (s16).toNat o24), w64 (s16 - 1)))
  else
   some (.inr s15)
def K_compare_table_api_Row__s0 (p0 : (List api_Row)) (p1 : (List api_Row)) : Option (List (List Int)) :=
 Option.bind (makeO (w64 ((p0.length : Int) + 1)) ([] : (List Int))) fun m9 =>
 Option.bind (α := List (List Int)) (
  Option.bind (whileK (K_compare_table_api_Row__s0_l2 p1 p0) (m9, (p0.length : Int))) fun e20 =>
   some e20) fun o11 =>
 some o11
def K_compare_Charts (p0 : api_Chart) (p1 : api_Chart) : Option (Int × Int) :=
 Option.bind (K_chart_Check p0) fun r14 =>
 if r14 != 0 then
  some (0, r14)
 else
  Option.bind (K_chart_Check p1) fun r21 =>
  if r21 != 0 then
   some (0, r21)
  else
   Option.bind (K_compare_table_api_Row__s0 p0.Rows p1.Rows) fun r27 =>
   Option.bind (idxO r27 0) fun x33 =>
   Option.bind (idxO x33 0) fun x40 =>
   Option.bind (α := Int) (
    if p0.Start != p1.Start then
     some (w64 (x40 + 1))
    else
     some x40) fun o45 =>
   some (o45, 0)
def K_raddleref46_Same_l1 (p0 : (List api_CellStep)) (p1 : (List api_CellStep)) : Int → Option (Int ⊕ (Bool ⊕ Unit)) := fun s0 => match s0 with
 | s13 =>
  if decide (s13 < (p0.length : Int)) then
   Option.bind (idxO p0 s13) fun x22 =>
   Option.bind (idxO p1 s13) fun x27 =>
   if !((x22.Kind == x27.Kind) && (((x22.S.Kind == x27.S.Kind) && ((x22.S.Purl == x27.S.Purl) && ((x22.S.A == x27.S.A) && ((x22.S.B == x27.S.B) && true)))) && true)) then
    some (.inr (.inl false))
   else
    some (.inl (w64 (s13 + 1)))
  else
   some (.inr (.inr ()))
def K_raddleref46_Same (p0 : (List api_CellStep)) (p1 : (List api_CellStep)) : Option Bool :=
 if (p0.length : Int) != (p1.length : Int) then
  some false
 else
  Option.bind (α := Unit ⊕ Bool) (
   Option.bind (whileK (K_raddleref46_Same_l1 p0 p1) 0) fun z0 => match z0 with
    | .inl z =>
     some (.inr z)
    | .inr _ =>
     some (.inl ())) fun z0 => match z0 with
   | .inl _ =>
    some true
   | .inr z =>
    some z
theorem m_raddleref01_Parse_l1 (p0 : ByteArray) : ∀ s, Le (K_raddleref01_Parse_l1 p0 s) (raddleref01_Parse_l1 p0 s) := by
 unfold K_raddleref01_Parse_l1 raddleref01_Parse_l1
 with_reducible repeat' (first | exact Le.rfl _ | refine Le.loop _ ?_ | refine Le.bind ?_ ?_ | refine Le.ite ?_ ?_ | refine Le.sum ?_ ?_ | refine Le.prod ?_ | intro _ | exact Empty.elim (by assumption) | dsimp only)
theorem m_F_raddleref01_Zero_s0 (p0 : Int) (p1 : Int) : Le (K_raddleref01_Zero_s0 p0 p1) (F_raddleref01_Zero_s0 p0 p1) := by
 unfold K_raddleref01_Zero_s0 F_raddleref01_Zero_s0
 with_reducible repeat' (first | exact Le.rfl _ | refine Le.loop _ ?_ | refine Le.bind ?_ ?_ | refine Le.ite ?_ ?_ | refine Le.sum ?_ ?_ | refine Le.prod ?_ | intro _ | exact Empty.elim (by assumption) | dsimp only)
theorem m_F_raddleref01_Set_s0 (p0 : Int) (p1 : Int) (p2 : (List Bool)) (p3 : Int) (p4 : Int) (p5 : Bool) : Le (K_raddleref01_Set_s0 p0 p1 p2 p3 p4 p5) (F_raddleref01_Set_s0 p0 p1 p2 p3 p4 p5) := by
 unfold K_raddleref01_Set_s0 F_raddleref01_Set_s0
 with_reducible repeat' (first | exact Le.rfl _ | refine Le.loop _ ?_ | refine Le.bind ?_ ?_ | refine Le.ite ?_ ?_ | refine Le.sum ?_ ?_ | refine Le.prod ?_ | intro _ | exact Empty.elim (by assumption) | dsimp only)
theorem m_raddleref01_Parse_l2 (p0 : ByteArray) (o4 : Int) (r36 : api_Grid) : ∀ s, Le (K_raddleref01_Parse_l2 p0 o4 r36 s) (raddleref01_Parse_l2 p0 o4 r36 s) := by
 unfold K_raddleref01_Parse_l2 raddleref01_Parse_l2
 with_reducible repeat' (first | exact m_F_raddleref01_Set_s0 _ _ _ _ _ _ | exact Le.rfl _ | refine Le.loop _ ?_ | refine Le.bind ?_ ?_ | refine Le.ite ?_ ?_ | refine Le.sum ?_ ?_ | refine Le.prod ?_ | intro _ | exact Empty.elim (by assumption) | dsimp only)
theorem m_F_raddleref01_Parse (p0 : ByteArray) : Le (K_raddleref01_Parse p0) (F_raddleref01_Parse p0) := by
 unfold K_raddleref01_Parse F_raddleref01_Parse
 with_reducible repeat' (first | exact m_raddleref01_Parse_l1 _ | exact m_F_raddleref01_Zero_s0 _ _ | exact m_raddleref01_Parse_l2 _ _ _ | exact Le.rfl _ | refine Le.loop _ ?_ | refine Le.bind ?_ ?_ | refine Le.ite ?_ ?_ | refine Le.sum ?_ ?_ | refine Le.prod ?_ | intro _ | exact Empty.elim (by assumption) | dsimp only)
theorem m_F_raddlelaw46_cloth (p0 : ByteArray) : Le (K_raddlelaw46_cloth p0) (F_raddlelaw46_cloth p0) := by
 unfold K_raddlelaw46_cloth F_raddlelaw46_cloth
 with_reducible repeat' (first | exact m_F_raddleref01_Parse _ | exact Le.rfl _ | refine Le.loop _ ?_ | refine Le.bind ?_ ?_ | refine Le.ite ?_ ?_ | refine Le.sum ?_ ?_ | refine Le.prod ?_ | intro _ | exact Empty.elim (by assumption) | dsimp only)
theorem m_F_grid_Check (p0 : api_Grid) : Le (K_grid_Check p0) (F_grid_Check p0) := by
 unfold K_grid_Check F_grid_Check
 with_reducible repeat' (first | exact Le.rfl _ | refine Le.loop _ ?_ | refine Le.bind ?_ ?_ | refine Le.ite ?_ ?_ | refine Le.sum ?_ ?_ | refine Le.prod ?_ | intro _ | exact Empty.elim (by assumption) | dsimp only)
theorem m_compare_differ_l1 (p0 : (List Bool)) (p1 : (List Bool)) : ∀ s, Le (K_compare_differ_l1 p0 p1 s) (compare_differ_l1 p0 p1 s) := by
 unfold K_compare_differ_l1 compare_differ_l1
 with_reducible repeat' (first | exact Le.rfl _ | refine Le.loop _ ?_ | refine Le.bind ?_ ?_ | refine Le.ite ?_ ?_ | refine Le.sum ?_ ?_ | refine Le.prod ?_ | intro _ | exact Empty.elim (by assumption) | dsimp only)
theorem m_F_compare_differ (p0 : (List Bool)) (p1 : (List Bool)) : Le (K_compare_differ p0 p1) (F_compare_differ p0 p1) := by
 unfold K_compare_differ F_compare_differ
 with_reducible repeat' (first | exact m_compare_differ_l1 _ _ | exact Le.rfl _ | refine Le.loop _ ?_ | refine Le.bind ?_ ?_ | refine Le.ite ?_ ?_ | refine Le.sum ?_ ?_ | refine Le.prod ?_ | intro _ | exact Empty.elim (by assumption) | dsimp only)
theorem m_F_compare_Cells (p0 : api_Grid) (p1 : api_Grid) : Le (K_compare_Cells p0 p1) (F_compare_Cells p0 p1) := by
 unfold K_compare_Cells F_compare_Cells
 with_reducible repeat' (first | exact m_F_grid_Check _ | exact m_F_compare_differ _ _ | exact Le.rfl _ | refine Le.loop _ ?_ | refine Le.bind ?_ ?_ | refine Le.ite ?_ ?_ | refine Le.sum ?_ ?_ | refine Le.prod ?_ | intro _ | exact Empty.elim (by assumption) | dsimp only)
theorem m_F_compare_ways (p0 : api_Grid) (p1 : Int) : Le (K_compare_ways p0 p1) (F_compare_ways p0 p1) := by
 unfold K_compare_ways F_compare_ways
 with_reducible repeat' (first | exact Le.rfl _ | refine Le.loop _ ?_ | refine Le.bind ?_ ?_ | refine Le.ite ?_ ?_ | refine Le.sum ?_ ?_ | refine Le.prod ?_ | intro _ | exact Empty.elim (by assumption) | dsimp only)
theorem m_symmetry_check_l1 (p0 : (List api_Grid)) : ∀ s, Le (K_symmetry_check_l1 p0 s) (symmetry_check_l1 p0 s) := by
 unfold K_symmetry_check_l1 symmetry_check_l1
 with_reducible repeat' (first | exact m_F_grid_Check _ | exact Le.rfl _ | refine Le.loop _ ?_ | refine Le.bind ?_ ?_ | refine Le.ite ?_ ?_ | refine Le.sum ?_ ?_ | refine Le.prod ?_ | intro _ | exact Empty.elim (by assumption) | dsimp only)
theorem m_symmetry_check_l2 (p0 : (List api_Grid)) : ∀ s, Le (K_symmetry_check_l2 p0 s) (symmetry_check_l2 p0 s) := by
 unfold K_symmetry_check_l2 symmetry_check_l2
 with_reducible repeat' (first | exact Le.rfl _ | refine Le.loop _ ?_ | refine Le.bind ?_ ?_ | refine Le.ite ?_ ?_ | refine Le.sum ?_ ?_ | refine Le.prod ?_ | intro _ | exact Empty.elim (by assumption) | dsimp only)
theorem m_F_symmetry_check (p0 : (List api_Grid)) : Le (K_symmetry_check p0) (F_symmetry_check p0) := by
 unfold K_symmetry_check F_symmetry_check
 with_reducible repeat' (first | exact m_symmetry_check_l1 _ | exact m_symmetry_check_l2 _ | exact Le.rfl _ | refine Le.loop _ ?_ | refine Le.bind ?_ ?_ | refine Le.ite ?_ ?_ | refine Le.sum ?_ ?_ | refine Le.prod ?_ | intro _ | exact Empty.elim (by assumption) | dsimp only)
theorem m_F_symmetry_is (p0 : Int) : Le (K_symmetry_is p0) (F_symmetry_is p0) := by
 unfold K_symmetry_is F_symmetry_is
 with_reducible repeat' (first | exact Le.rfl _ | refine Le.loop _ ?_ | refine Le.bind ?_ ?_ | refine Le.ite ?_ ?_ | refine Le.sum ?_ ?_ | refine Le.prod ?_ | intro _ | exact Empty.elim (by assumption) | dsimp only)
theorem m_symmetry_applied_l1 (o9 : Int) (p1 : Int) (s23 : Int) (p0 : api_Grid) : ∀ s, Le (K_symmetry_applied_l1 o9 p1 s23 p0 s) (symmetry_applied_l1 o9 p1 s23 p0 s) := by
 unfold K_symmetry_applied_l1 symmetry_applied_l1
 with_reducible repeat' (first | exact Le.rfl _ | refine Le.loop _ ?_ | refine Le.bind ?_ ?_ | refine Le.ite ?_ ?_ | refine Le.sum ?_ ?_ | refine Le.prod ?_ | intro _ | exact Empty.elim (by assumption) | dsimp only)
theorem m_symmetry_applied_l2 (o10 : Int) (o9 : Int) (p1 : Int) (p0 : api_Grid) : ∀ s, Le (K_symmetry_applied_l2 o10 o9 p1 p0 s) (symmetry_applied_l2 o10 o9 p1 p0 s) := by
 unfold K_symmetry_applied_l2 symmetry_applied_l2
 with_reducible repeat' (first | exact m_symmetry_applied_l1 _ _ _ _ | exact Le.rfl _ | refine Le.loop _ ?_ | refine Le.bind ?_ ?_ | refine Le.ite ?_ ?_ | refine Le.sum ?_ ?_ | refine Le.prod ?_ | intro _ | exact Empty.elim (by assumption) | dsimp only)
theorem m_F_symmetry_applied (p0 : api_Grid) (p1 : Int) : Le (K_symmetry_applied p0 p1) (F_symmetry_applied p0 p1) := by
 unfold K_symmetry_applied F_symmetry_applied
 with_reducible repeat' (first | exact m_symmetry_applied_l2 _ _ _ _ | exact Le.rfl _ | refine Le.loop _ ?_ | refine Le.bind ?_ ?_ | refine Le.ite ?_ ?_ | refine Le.sum ?_ ?_ | refine Le.prod ?_ | intro _ | exact Empty.elim (by assumption) | dsimp only)
theorem m_F_symmetry_Apply (p0 : api_Grid) (p1 : Int) : Le (K_symmetry_Apply p0 p1) (F_symmetry_Apply p0 p1) := by
 unfold K_symmetry_Apply F_symmetry_Apply
 with_reducible repeat' (first | exact m_F_symmetry_check _ | exact m_F_symmetry_is _ | exact m_F_symmetry_applied _ _ | exact Le.rfl _ | refine Le.loop _ ?_ | refine Le.bind ?_ ?_ | refine Le.ite ?_ ?_ | refine Le.sum ?_ ?_ | refine Le.prod ?_ | intro _ | exact Empty.elim (by assumption) | dsimp only)
theorem m_F_grid_around (p0 : Int) (p1 : Int) : Le (K_grid_around p0 p1) (F_grid_around p0 p1) := by
 unfold K_grid_around F_grid_around
 with_reducible repeat' (first | exact Le.rfl _ | refine Le.loop _ ?_ | refine Le.bind ?_ ?_ | refine Le.ite ?_ ?_ | refine Le.sum ?_ ?_ | refine Le.prod ?_ | intro _ | exact Empty.elim (by assumption) | dsimp only)
theorem m_F_grid_Shift_1_s0 (p0 : Int) (p1 : Int) (p2 : api_Grid) (p3 : Int) (p4 : Int) : Le (K_grid_Shift_1_s0 p0 p1 p2 p3 p4) (F_grid_Shift_1_s0 p0 p1 p2 p3 p4) := by
 unfold K_grid_Shift_1_s0 F_grid_Shift_1_s0
 with_reducible repeat' (first | exact m_F_grid_around _ _ | exact Le.rfl _ | refine Le.loop _ ?_ | refine Le.bind ?_ ?_ | refine Le.ite ?_ ?_ | refine Le.sum ?_ ?_ | refine Le.prod ?_ | intro _ | exact Empty.elim (by assumption) | dsimp only)
theorem m_grid_build_s0_l1 (p0 : Int) (s15 : Int) (p2 : api_Grid) (p3 : Int) (p4 : Int) : ∀ s, Le (K_grid_build_s0_l1 p0 s15 p2 p3 p4 s) (grid_build_s0_l1 p0 s15 p2 p3 p4 s) := by
 unfold K_grid_build_s0_l1 grid_build_s0_l1
 with_reducible repeat' (first | exact m_F_grid_Shift_1_s0 _ _ _ _ _ | exact Le.rfl _ | refine Le.loop _ ?_ | refine Le.bind ?_ ?_ | refine Le.ite ?_ ?_ | refine Le.sum ?_ ?_ | refine Le.prod ?_ | intro _ | exact Empty.elim (by assumption) | dsimp only)
theorem m_grid_build_s0_l2 (p1 : Int) (p0 : Int) (p2 : api_Grid) (p3 : Int) (p4 : Int) : ∀ s, Le (K_grid_build_s0_l2 p1 p0 p2 p3 p4 s) (grid_build_s0_l2 p1 p0 p2 p3 p4 s) := by
 unfold K_grid_build_s0_l2 grid_build_s0_l2
 with_reducible repeat' (first | exact m_grid_build_s0_l1 _ _ _ _ _ | exact Le.rfl _ | refine Le.loop _ ?_ | refine Le.bind ?_ ?_ | refine Le.ite ?_ ?_ | refine Le.sum ?_ ?_ | refine Le.prod ?_ | intro _ | exact Empty.elim (by assumption) | dsimp only)
theorem m_F_grid_build_s0 (p0 : Int) (p1 : Int) (p2 : api_Grid) (p3 : Int) (p4 : Int) : Le (K_grid_build_s0 p0 p1 p2 p3 p4) (F_grid_build_s0 p0 p1 p2 p3 p4) := by
 unfold K_grid_build_s0 F_grid_build_s0
 with_reducible repeat' (first | exact m_grid_build_s0_l2 _ _ _ _ _ | exact Le.rfl _ | refine Le.loop _ ?_ | refine Le.bind ?_ ?_ | refine Le.ite ?_ ?_ | refine Le.sum ?_ ?_ | refine Le.prod ?_ | intro _ | exact Empty.elim (by assumption) | dsimp only)
theorem m_F_grid_Shift (p0 : api_Grid) (p1 : Int) (p2 : Int) : Le (K_grid_Shift p0 p1 p2) (F_grid_Shift p0 p1 p2) := by
 unfold K_grid_Shift F_grid_Shift
 with_reducible repeat' (first | exact m_F_grid_Check _ | exact m_F_grid_around _ _ | exact m_F_grid_build_s0 _ _ _ _ _ | exact Le.rfl _ | refine Le.loop _ ?_ | refine Le.bind ?_ ?_ | refine Le.ite ?_ ?_ | refine Le.sum ?_ ?_ | refine Le.prod ?_ | intro _ | exact Empty.elim (by assumption) | dsimp only)
theorem m_compare_ways_1_l1 {σ τ : Type} (p1 : api_Grid) (r24 : (api_Grid × Int)) (s36 : Int) (B B' : σ → (compare_way × api_Grid) → Option (σ ⊕ τ)) (hB : ∀ s x, Le (B s x) (B' s x)) (s6 : Int) : ∀ s, Le (K_compare_ways_1_l1 p1 r24 s36 B s6 s) (compare_ways_1_l1 p1 r24 s36 B' s6 s) := by
 unfold K_compare_ways_1_l1 compare_ways_1_l1
 with_reducible repeat' (first | exact hB _ _ | exact m_F_grid_Shift _ _ _ | exact Le.rfl _ | refine Le.loop _ ?_ | refine Le.bind ?_ ?_ | refine Le.ite ?_ ?_ | refine Le.sum ?_ ?_ | refine Le.prod ?_ | intro _ | exact Empty.elim (by assumption) | dsimp only)
theorem m_compare_ways_1_l2 {σ τ : Type} (p1 : api_Grid) (r24 : (api_Grid × Int)) (B B' : σ → (compare_way × api_Grid) → Option (σ ⊕ τ)) (hB : ∀ s x, Le (B s x) (B' s x)) (s6 : Int) : ∀ s, Le (K_compare_ways_1_l2 p1 r24 B s6 s) (compare_ways_1_l2 p1 r24 B' s6 s) := by
 unfold K_compare_ways_1_l2 compare_ways_1_l2
 with_reducible repeat' (first | exact hB _ _ | exact m_compare_ways_1_l1 _ _ _ _ _ hB _ | exact Le.rfl _ | refine Le.loop _ ?_ | refine Le.bind ?_ ?_ | refine Le.ite ?_ ?_ | refine Le.sum ?_ ?_ | refine Le.prod ?_ | intro _ | exact Empty.elim (by assumption) | dsimp only)
theorem m_compare_ways_1_l3 {σ τ : Type} (x3 : Int) (p1 : api_Grid) (B B' : σ → (compare_way × api_Grid) → Option (σ ⊕ τ)) (hB : ∀ s x, Le (B s x) (B' s x)) : ∀ s, Le (K_compare_ways_1_l3 x3 p1 B s) (compare_ways_1_l3 x3 p1 B' s) := by
 unfold K_compare_ways_1_l3 compare_ways_1_l3
 with_reducible repeat' (first | exact hB _ _ | exact m_F_symmetry_Apply _ _ | exact m_compare_ways_1_l2 _ _ _ _ hB _ | exact Le.rfl _ | refine Le.loop _ ?_ | refine Le.bind ?_ ?_ | refine Le.ite ?_ ?_ | refine Le.sum ?_ ?_ | refine Le.prod ?_ | intro _ | exact Empty.elim (by assumption) | dsimp only)
theorem m_I_compare_ways_1 (p0 : Int) (p1 : api_Grid) (σ τ : Type) (B B' : σ → (compare_way × api_Grid) → Option (σ ⊕ τ)) (hB : ∀ s x, Le (B s x) (B' s x)) (gz0 : σ) : Le (K_I_compare_ways_1 p0 p1 σ τ B gz0) (I_compare_ways_1 p0 p1 σ τ B' gz0) := by
 unfold K_I_compare_ways_1 I_compare_ways_1
 with_reducible repeat' (first | exact hB _ _ | exact m_compare_ways_1_l3 _ _ _ _ hB | exact Le.rfl _ | refine Le.loop _ ?_ | refine Le.bind ?_ ?_ | refine Le.ite ?_ ?_ | refine Le.sum ?_ ?_ | refine Le.prod ?_ | intro _ | exact Empty.elim (by assumption) | dsimp only)
theorem m_compare_Nearest_l2 (p1 : api_Grid) : ∀ s x, Le (K_compare_Nearest_l2 p1 s x) (compare_Nearest_l2 p1 s x) := by
 unfold K_compare_Nearest_l2 compare_Nearest_l2
 with_reducible repeat' (first | exact m_F_compare_differ _ _ | exact Le.rfl _ | refine Le.loop _ ?_ | refine Le.bind ?_ ?_ | refine Le.ite ?_ ?_ | refine Le.sum ?_ ?_ | refine Le.prod ?_ | intro _ | exact Empty.elim (by assumption) | dsimp only)
theorem m_F_compare_Nearest (p0 : api_Grid) (p1 : api_Grid) (p2 : Int) : Le (K_compare_Nearest p0 p1 p2) (F_compare_Nearest p0 p1 p2) := by
 unfold K_compare_Nearest F_compare_Nearest
 with_reducible repeat' (first | exact m_F_grid_Check _ | exact m_F_compare_ways _ _ | refine m_I_compare_ways_1 _ _ _ _ _ _ ?_ _ | exact m_compare_Nearest_l2 _ | exact Le.rfl _ | refine Le.loop _ ?_ | refine Le.bind ?_ ?_ | refine Le.ite ?_ ?_ | refine Le.sum ?_ ?_ | refine Le.prod ?_ | intro _ | exact Empty.elim (by assumption) | dsimp only)
theorem m_raddleref25_Cut_l1 (p0 : ByteArray) (p1 : Int) : ∀ s, Le (K_raddleref25_Cut_l1 p0 p1 s) (raddleref25_Cut_l1 p0 p1 s) := by
 unfold K_raddleref25_Cut_l1 raddleref25_Cut_l1
 with_reducible repeat' (first | exact Le.rfl _ | refine Le.loop _ ?_ | refine Le.bind ?_ ?_ | refine Le.ite ?_ ?_ | refine Le.sum ?_ ?_ | refine Le.prod ?_ | intro _ | exact Empty.elim (by assumption) | dsimp only)
theorem m_F_raddleref25_Cut (p0 : ByteArray) (p1 : Int) : Le (K_raddleref25_Cut p0 p1) (F_raddleref25_Cut p0 p1) := by
 unfold K_raddleref25_Cut F_raddleref25_Cut
 with_reducible repeat' (first | exact m_raddleref25_Cut_l1 _ _ | exact Le.rfl _ | refine Le.loop _ ?_ | refine Le.bind ?_ ?_ | refine Le.ite ?_ ?_ | refine Le.sum ?_ ?_ | refine Le.prod ?_ | intro _ | exact Empty.elim (by assumption) | dsimp only)
theorem m_raddleref25_Number_l1 (p0 : ByteArray) : ∀ s, Le (K_raddleref25_Number_l1 p0 s) (raddleref25_Number_l1 p0 s) := by
 unfold K_raddleref25_Number_l1 raddleref25_Number_l1
 with_reducible repeat' (first | exact Le.rfl _ | refine Le.loop _ ?_ | refine Le.bind ?_ ?_ | refine Le.ite ?_ ?_ | refine Le.sum ?_ ?_ | refine Le.prod ?_ | intro _ | exact Empty.elim (by assumption) | dsimp only)
theorem m_F_raddleref25_Number (p0 : ByteArray) : Le (K_raddleref25_Number p0) (F_raddleref25_Number p0) := by
 unfold K_raddleref25_Number F_raddleref25_Number
 with_reducible repeat' (first | exact m_raddleref25_Number_l1 _ | exact Le.rfl _ | refine Le.loop _ ?_ | refine Le.bind ?_ ?_ | refine Le.ite ?_ ?_ | refine Le.sum ?_ ?_ | refine Le.prod ?_ | intro _ | exact Empty.elim (by assumption) | dsimp only)
theorem m_raddleref25_word_l1 (r49 : (Int × Bool)) (x35 : Int) : ∀ s, Le (K_raddleref25_word_l1 r49 x35 s) (raddleref25_word_l1 r49 x35 s) := by
 unfold K_raddleref25_word_l1 raddleref25_word_l1
 with_reducible repeat' (first | exact Le.rfl _ | refine Le.loop _ ?_ | refine Le.bind ?_ ?_ | refine Le.ite ?_ ?_ | refine Le.sum ?_ ?_ | refine Le.prod ?_ | intro _ | exact Empty.elim (by assumption) | dsimp only)
theorem m_raddleref25_kind_l1 (p0 : Int) : ∀ s, Le (K_raddleref25_kind_l1 p0 s) (raddleref25_kind_l1 p0 s) := by
 unfold K_raddleref25_kind_l1 raddleref25_kind_l1
 with_reducible repeat' (first | exact Le.rfl _ | refine Le.loop _ ?_ | refine Le.bind ?_ ?_ | refine Le.ite ?_ ?_ | refine Le.sum ?_ ?_ | refine Le.prod ?_ | intro _ | exact Empty.elim (by assumption) | dsimp only)
theorem m_F_raddleref25_kind (p0 : Int) : Le (K_raddleref25_kind p0) (F_raddleref25_kind p0) := by
 unfold K_raddleref25_kind F_raddleref25_kind
 with_reducible repeat' (first | exact m_raddleref25_kind_l1 _ | exact Le.rfl _ | refine Le.loop _ ?_ | refine Le.bind ?_ ?_ | refine Le.ite ?_ ?_ | refine Le.sum ?_ ?_ | refine Le.prod ?_ | intro _ | exact Empty.elim (by assumption) | dsimp only)
theorem m_F_raddleref25_word (p0 : ByteArray) : Le (K_raddleref25_word p0) (F_raddleref25_word p0) := by
 unfold K_raddleref25_word F_raddleref25_word
 with_reducible repeat' (first | exact m_F_raddleref25_Number _ | exact m_raddleref25_word_l1 _ _ | exact m_F_raddleref25_kind _ | exact m_F_raddleref25_Cut _ _ | exact Le.rfl _ | refine Le.loop _ ?_ | refine Le.bind ?_ ?_ | refine Le.ite ?_ ?_ | refine Le.sum ?_ ?_ | refine Le.prod ?_ | intro _ | exact Empty.elim (by assumption) | dsimp only)
theorem m_raddleref25_Parse_l1 (r11 : (List ByteArray)) : ∀ s, Le (K_raddleref25_Parse_l1 r11 s) (raddleref25_Parse_l1 r11 s) := by
 unfold K_raddleref25_Parse_l1 raddleref25_Parse_l1
 with_reducible repeat' (first | exact m_F_raddleref25_word _ | exact Le.rfl _ | refine Le.loop _ ?_ | refine Le.bind ?_ ?_ | refine Le.ite ?_ ?_ | refine Le.sum ?_ ?_ | refine Le.prod ?_ | intro _ | exact Empty.elim (by assumption) | dsimp only)
theorem m_F_raddleref25_Check (p0 : api_Stitch) : Le (K_raddleref25_Check p0) (F_raddleref25_Check p0) := by
 unfold K_raddleref25_Check F_raddleref25_Check
 with_reducible repeat' (first | exact Le.rfl _ | refine Le.loop _ ?_ | refine Le.bind ?_ ?_ | refine Le.ite ?_ ?_ | refine Le.sum ?_ ?_ | refine Le.prod ?_ | intro _ | exact Empty.elim (by assumption) | dsimp only)
theorem m_raddleref25_All_l1 (p0 : (List api_Stitch)) : ∀ s, Le (K_raddleref25_All_l1 p0 s) (raddleref25_All_l1 p0 s) := by
 unfold K_raddleref25_All_l1 raddleref25_All_l1
 with_reducible repeat' (first | exact m_F_raddleref25_Check _ | exact Le.rfl _ | refine Le.loop _ ?_ | refine Le.bind ?_ ?_ | refine Le.ite ?_ ?_ | refine Le.sum ?_ ?_ | refine Le.prod ?_ | intro _ | exact Empty.elim (by assumption) | dsimp only)
theorem m_F_raddleref25_Used (p0 : api_Stitch) : Le (K_raddleref25_Used p0) (F_raddleref25_Used p0) := by
 unfold K_raddleref25_Used F_raddleref25_Used
 with_reducible repeat' (first | exact Le.rfl _ | refine Le.loop _ ?_ | refine Le.bind ?_ ?_ | refine Le.ite ?_ ?_ | refine Le.sum ?_ ?_ | refine Le.prod ?_ | intro _ | exact Empty.elim (by assumption) | dsimp only)
theorem m_F_raddleref25_Gives (p0 : api_Stitch) : Le (K_raddleref25_Gives p0) (F_raddleref25_Gives p0) := by
 unfold K_raddleref25_Gives F_raddleref25_Gives
 with_reducible repeat' (first | exact Le.rfl _ | refine Le.loop _ ?_ | refine Le.bind ?_ ?_ | refine Le.ite ?_ ?_ | refine Le.sum ?_ ?_ | refine Le.prod ?_ | intro _ | exact Empty.elim (by assumption) | dsimp only)
theorem m_raddleref25_sums_l1 (p0 : (List api_Stitch)) : ∀ s, Le (K_raddleref25_sums_l1 p0 s) (raddleref25_sums_l1 p0 s) := by
 unfold K_raddleref25_sums_l1 raddleref25_sums_l1
 with_reducible repeat' (first | exact m_F_raddleref25_Used _ | exact m_F_raddleref25_Gives _ | exact Le.rfl _ | refine Le.loop _ ?_ | refine Le.bind ?_ ?_ | refine Le.ite ?_ ?_ | refine Le.sum ?_ ?_ | refine Le.prod ?_ | intro _ | exact Empty.elim (by assumption) | dsimp only)
theorem m_F_raddleref25_sums (p0 : (List api_Stitch)) : Le (K_raddleref25_sums p0) (F_raddleref25_sums p0) := by
 unfold K_raddleref25_sums F_raddleref25_sums
 with_reducible repeat' (first | exact m_raddleref25_sums_l1 _ | exact Le.rfl _ | refine Le.loop _ ?_ | refine Le.bind ?_ ?_ | refine Le.ite ?_ ?_ | refine Le.sum ?_ ?_ | refine Le.prod ?_ | intro _ | exact Empty.elim (by assumption) | dsimp only)
theorem m_F_raddleref25_All (p0 : (List api_Stitch)) : Le (K_raddleref25_All p0) (F_raddleref25_All p0) := by
 unfold K_raddleref25_All F_raddleref25_All
 with_reducible repeat' (first | exact m_raddleref25_All_l1 _ | exact m_F_raddleref25_sums _ | exact Le.rfl _ | refine Le.loop _ ?_ | refine Le.bind ?_ ?_ | refine Le.ite ?_ ?_ | refine Le.sum ?_ ?_ | refine Le.prod ?_ | intro _ | exact Empty.elim (by assumption) | dsimp only)
theorem m_raddleref25_Decimal_l1  : ∀ s, Le (K_raddleref25_Decimal_l1 s) (raddleref25_Decimal_l1 s) := by
 unfold K_raddleref25_Decimal_l1 raddleref25_Decimal_l1
 with_reducible repeat' (first | exact Le.rfl _ | refine Le.loop _ ?_ | refine Le.bind ?_ ?_ | refine Le.ite ?_ ?_ | refine Le.sum ?_ ?_ | refine Le.prod ?_ | intro _ | exact Empty.elim (by assumption) | dsimp only)
theorem m_F_raddleref25_Decimal (p0 : Int) : Le (K_raddleref25_Decimal p0) (F_raddleref25_Decimal p0) := by
 unfold K_raddleref25_Decimal F_raddleref25_Decimal
 with_reducible repeat' (first | exact m_raddleref25_Decimal_l1 | exact Le.rfl _ | refine Le.loop _ ?_ | refine Le.bind ?_ ?_ | refine Le.ite ?_ ?_ | refine Le.sum ?_ ?_ | refine Le.prod ?_ | intro _ | exact Empty.elim (by assumption) | dsimp only)
theorem m_F_raddleref25_one (p0 : api_Stitch) : Le (K_raddleref25_one p0) (F_raddleref25_one p0) := by
 unfold K_raddleref25_one F_raddleref25_one
 with_reducible repeat' (first | exact m_F_raddleref25_Decimal _ | exact Le.rfl _ | refine Le.loop _ ?_ | refine Le.bind ?_ ?_ | refine Le.ite ?_ ?_ | refine Le.sum ?_ ?_ | refine Le.prod ?_ | intro _ | exact Empty.elim (by assumption) | dsimp only)
theorem m_raddleref25_Written_l1 (p0 : (List api_Stitch)) : ∀ s, Le (K_raddleref25_Written_l1 p0 s) (raddleref25_Written_l1 p0 s) := by
 unfold K_raddleref25_Written_l1 raddleref25_Written_l1
 with_reducible repeat' (first | exact Le.rfl _ | refine Le.loop _ ?_ | refine Le.bind ?_ ?_ | refine Le.ite ?_ ?_ | refine Le.sum ?_ ?_ | refine Le.prod ?_ | intro _ | exact Empty.elim (by assumption) | dsimp only)
theorem m_raddleref25_Written_l2 (p0 : (List api_Stitch)) : ∀ s, Le (K_raddleref25_Written_l2 p0 s) (raddleref25_Written_l2 p0 s) := by
 unfold K_raddleref25_Written_l2 raddleref25_Written_l2
 with_reducible repeat' (first | exact m_F_raddleref25_one _ | exact m_raddleref25_Written_l1 _ | exact m_F_raddleref25_Decimal _ | exact Le.rfl _ | refine Le.loop _ ?_ | refine Le.bind ?_ ?_ | refine Le.ite ?_ ?_ | refine Le.sum ?_ ?_ | refine Le.prod ?_ | intro _ | exact Empty.elim (by assumption) | dsimp only)
theorem m_F_raddleref25_Written (p0 : (List api_Stitch)) : Le (K_raddleref25_Written p0) (F_raddleref25_Written p0) := by
 unfold K_raddleref25_Written F_raddleref25_Written
 with_reducible repeat' (first | exact m_raddleref25_Written_l2 _ | exact Le.rfl _ | refine Le.loop _ ?_ | refine Le.bind ?_ ?_ | refine Le.ite ?_ ?_ | refine Le.sum ?_ ?_ | refine Le.prod ?_ | intro _ | exact Empty.elim (by assumption) | dsimp only)
theorem m_F_raddleref25_Parse (p0 : ByteArray) : Le (K_raddleref25_Parse p0) (F_raddleref25_Parse p0) := by
 unfold K_raddleref25_Parse F_raddleref25_Parse
 with_reducible repeat' (first | exact m_F_raddleref25_Cut _ _ | exact m_raddleref25_Parse_l1 _ | exact m_F_raddleref25_All _ | exact m_F_raddleref25_Written _ | exact Le.rfl _ | refine Le.loop _ ?_ | refine Le.bind ?_ ?_ | refine Le.ite ?_ ?_ | refine Le.sum ?_ ?_ | refine Le.prod ?_ | intro _ | exact Empty.elim (by assumption) | dsimp only)
theorem m_F_raddlelaw46_cells (p0 : ByteArray) : Le (K_raddlelaw46_cells p0) (F_raddlelaw46_cells p0) := by
 unfold K_raddlelaw46_cells F_raddlelaw46_cells
 with_reducible repeat' (first | exact m_F_raddleref25_Parse _ | exact Le.rfl _ | refine Le.loop _ ?_ | refine Le.bind ?_ ?_ | refine Le.ite ?_ ?_ | refine Le.sum ?_ ?_ | refine Le.prod ?_ | intro _ | exact Empty.elim (by assumption) | dsimp only)
theorem m_F_stitch_forms (p0 : Int) : Le (K_stitch_forms p0) (F_stitch_forms p0) := by
 unfold K_stitch_forms F_stitch_forms
 with_reducible repeat' (first | exact Le.rfl _ | refine Le.loop _ ?_ | refine Le.bind ?_ ?_ | refine Le.ite ?_ ?_ | refine Le.sum ?_ ?_ | refine Le.prod ?_ | intro _ | exact Empty.elim (by assumption) | dsimp only)
theorem m_F_stitch_within (p0 : Int) (p1 : (Int × Int)) : Le (K_stitch_within p0 p1) (F_stitch_within p0 p1) := by
 unfold K_stitch_within F_stitch_within
 with_reducible repeat' (first | exact Le.rfl _ | refine Le.loop _ ?_ | refine Le.bind ?_ ?_ | refine Le.ite ?_ ?_ | refine Le.sum ?_ ?_ | refine Le.prod ?_ | intro _ | exact Empty.elim (by assumption) | dsimp only)
theorem m_F_stitch_Check (p0 : api_Stitch) : Le (K_stitch_Check p0) (F_stitch_Check p0) := by
 unfold K_stitch_Check F_stitch_Check
 with_reducible repeat' (first | exact m_F_stitch_forms _ | exact m_F_stitch_within _ _ | exact Le.rfl _ | refine Le.loop _ ?_ | refine Le.bind ?_ ?_ | refine Le.ite ?_ ?_ | refine Le.sum ?_ ?_ | refine Le.prod ?_ | intro _ | exact Empty.elim (by assumption) | dsimp only)
theorem m_F_stitch_All_1 (p0 : api_Stitch) : Le (K_stitch_All_1 p0) (F_stitch_All_1 p0) := by
 unfold K_stitch_All_1 F_stitch_All_1
 with_reducible repeat' (first | exact m_F_stitch_Check _ | exact Le.rfl _ | refine Le.loop _ ?_ | refine Le.bind ?_ ?_ | refine Le.ite ?_ ?_ | refine Le.sum ?_ ?_ | refine Le.prod ?_ | intro _ | exact Empty.elim (by assumption) | dsimp only)
theorem m_slices_IndexFunc___api_Stitch_api_Stitch__s0_l1 (p0 : (List api_Stitch)) : ∀ s, Le (K_slices_IndexFunc___api_Stitch_api_Stitch__s0_l1 p0 s) (slices_IndexFunc___api_Stitch_api_Stitch__s0_l1 p0 s) := by
 unfold K_slices_IndexFunc___api_Stitch_api_Stitch__s0_l1 slices_IndexFunc___api_Stitch_api_Stitch__s0_l1
 with_reducible repeat' (first | exact m_F_stitch_All_1 _ | exact Le.rfl _ | refine Le.loop _ ?_ | refine Le.bind ?_ ?_ | refine Le.ite ?_ ?_ | refine Le.sum ?_ ?_ | refine Le.prod ?_ | intro _ | exact Empty.elim (by assumption) | dsimp only)
theorem m_F_slices_IndexFunc___api_Stitch_api_Stitch__s0 (p0 : (List api_Stitch)) : Le (K_slices_IndexFunc___api_Stitch_api_Stitch__s0 p0) (F_slices_IndexFunc___api_Stitch_api_Stitch__s0 p0) := by
 unfold K_slices_IndexFunc___api_Stitch_api_Stitch__s0 F_slices_IndexFunc___api_Stitch_api_Stitch__s0
 with_reducible repeat' (first | exact m_slices_IndexFunc___api_Stitch_api_Stitch__s0_l1 _ | exact Le.rfl _ | refine Le.loop _ ?_ | refine Le.bind ?_ ?_ | refine Le.ite ?_ ?_ | refine Le.sum ?_ ?_ | refine Le.prod ?_ | intro _ | exact Empty.elim (by assumption) | dsimp only)
theorem m_F_slices_ContainsFunc___api_Stitch_api_Stitch__s0 (p0 : (List api_Stitch)) : Le (K_slices_ContainsFunc___api_Stitch_api_Stitch__s0 p0) (F_slices_ContainsFunc___api_Stitch_api_Stitch__s0 p0) := by
 unfold K_slices_ContainsFunc___api_Stitch_api_Stitch__s0 F_slices_ContainsFunc___api_Stitch_api_Stitch__s0
 with_reducible repeat' (first | exact m_F_slices_IndexFunc___api_Stitch_api_Stitch__s0 _ | exact Le.rfl _ | refine Le.loop _ ?_ | refine Le.bind ?_ ?_ | refine Le.ite ?_ ?_ | refine Le.sum ?_ ?_ | refine Le.prod ?_ | intro _ | exact Empty.elim (by assumption) | dsimp only)
theorem m_F_stitch_loops (p0 : api_Stitch) (p1 : Int) : Le (K_stitch_loops p0 p1) (F_stitch_loops p0 p1) := by
 unfold K_stitch_loops F_stitch_loops
 with_reducible repeat' (first | exact Le.rfl _ | refine Le.loop _ ?_ | refine Le.bind ?_ ?_ | refine Le.ite ?_ ?_ | refine Le.sum ?_ ?_ | refine Le.prod ?_ | intro _ | exact Empty.elim (by assumption) | dsimp only)
theorem m_stitch_sum_l1 (p0 : (List api_Stitch)) : ∀ s, Le (K_stitch_sum_l1 p0 s) (stitch_sum_l1 p0 s) := by
 unfold K_stitch_sum_l1 stitch_sum_l1
 with_reducible repeat' (first | exact m_F_stitch_forms _ | exact m_F_stitch_loops _ _ | exact Le.rfl _ | refine Le.loop _ ?_ | refine Le.bind ?_ ?_ | refine Le.ite ?_ ?_ | refine Le.sum ?_ ?_ | refine Le.prod ?_ | intro _ | exact Empty.elim (by assumption) | dsimp only)
theorem m_F_stitch_sum (p0 : (List api_Stitch)) : Le (K_stitch_sum p0) (F_stitch_sum p0) := by
 unfold K_stitch_sum F_stitch_sum
 with_reducible repeat' (first | exact m_stitch_sum_l1 _ | exact Le.rfl _ | refine Le.loop _ ?_ | refine Le.bind ?_ ?_ | refine Le.ite ?_ ?_ | refine Le.sum ?_ ?_ | refine Le.prod ?_ | intro _ | exact Empty.elim (by assumption) | dsimp only)
theorem m_F_stitch_All (p0 : (List api_Stitch)) : Le (K_stitch_All p0) (F_stitch_All p0) := by
 unfold K_stitch_All F_stitch_All
 with_reducible repeat' (first | exact m_F_slices_ContainsFunc___api_Stitch_api_Stitch__s0 _ | exact m_F_stitch_sum _ | exact Le.rfl _ | refine Le.loop _ ?_ | refine Le.bind ?_ ?_ | refine Le.ite ?_ ?_ | refine Le.sum ?_ ?_ | refine Le.prod ?_ | intro _ | exact Empty.elim (by assumption) | dsimp only)
theorem m_compare_Edits_l1 (p0 : (List api_Stitch)) (p1 : (List api_Stitch)) : ∀ s, Le (K_compare_Edits_l1 p0 p1 s) (compare_Edits_l1 p0 p1 s) := by
 unfold K_compare_Edits_l1 compare_Edits_l1
 with_reducible repeat' (first | exact m_F_stitch_All _ | exact Le.rfl _ | refine Le.loop _ ?_ | refine Le.bind ?_ ?_ | refine Le.ite ?_ ?_ | refine Le.sum ?_ ?_ | refine Le.prod ?_ | intro _ | exact Empty.elim (by assumption) | dsimp only)
theorem m_F_compare_cellTable_1 (p0 : api_Stitch) : Le (K_compare_cellTable_1 p0) (F_compare_cellTable_1 p0) := by
 unfold K_compare_cellTable_1 F_compare_cellTable_1
 with_reducible repeat' (first | exact Le.rfl _ | refine Le.loop _ ?_ | refine Le.bind ?_ ?_ | refine Le.ite ?_ ?_ | refine Le.sum ?_ ?_ | refine Le.prod ?_ | intro _ | exact Empty.elim (by assumption) | dsimp only)
theorem m_F_compare_cellTable_2 (p0 : api_Stitch) (p1 : api_Stitch) : Le (K_compare_cellTable_2 p0 p1) (F_compare_cellTable_2 p0 p1) := by
 unfold K_compare_cellTable_2 F_compare_cellTable_2
 with_reducible repeat' (first | exact Le.rfl _ | refine Le.loop _ ?_ | refine Le.bind ?_ ?_ | refine Le.ite ?_ ?_ | refine Le.sum ?_ ?_ | refine Le.prod ?_ | intro _ | exact Empty.elim (by assumption) | dsimp only)
theorem m_compare_table_api_Stitch__s0_l1 (s16 : Int) (p0 : (List api_Stitch)) (p1 : (List api_Stitch)) (s15 : List (List Int)) : ∀ s, Le (K_compare_table_api_Stitch__s0_l1 s16 p0 p1 s15 s) (compare_table_api_Stitch__s0_l1 s16 p0 p1 s15 s) := by
 unfold K_compare_table_api_Stitch__s0_l1 compare_table_api_Stitch__s0_l1
 with_reducible repeat' (first | exact m_F_compare_cellTable_1 _ | exact m_F_compare_cellTable_2 _ _ | exact Le.rfl _ | refine Le.loop _ ?_ | refine Le.bind ?_ ?_ | refine Le.ite ?_ ?_ | refine Le.sum ?_ ?_ | refine Le.prod ?_ | intro _ | exact Empty.elim (by assumption) | dsimp only)
theorem m_compare_table_api_Stitch__s0_l2 (p1 : (List api_Stitch)) (p0 : (List api_Stitch)) : ∀ s, Le (K_compare_table_api_Stitch__s0_l2 p1 p0 s) (compare_table_api_Stitch__s0_l2 p1 p0 s) := by
 unfold K_compare_table_api_Stitch__s0_l2 compare_table_api_Stitch__s0_l2
 with_reducible repeat' (first | exact m_compare_table_api_Stitch__s0_l1 _ _ _ _ | exact Le.rfl _ | refine Le.loop _ ?_ | refine Le.bind ?_ ?_ | refine Le.ite ?_ ?_ | refine Le.sum ?_ ?_ | refine Le.prod ?_ | intro _ | exact Empty.elim (by assumption) | dsimp only)
theorem m_F_compare_table_api_Stitch__s0 (p0 : (List api_Stitch)) (p1 : (List api_Stitch)) : Le (K_compare_table_api_Stitch__s0 p0 p1) (F_compare_table_api_Stitch__s0 p0 p1) := by
 unfold K_compare_table_api_Stitch__s0 F_compare_table_api_Stitch__s0
 with_reducible repeat' (first | exact m_compare_table_api_Stitch__s0_l2 _ _ | exact Le.rfl _ | refine Le.loop _ ?_ | refine Le.bind ?_ ?_ | refine Le.ite ?_ ?_ | refine Le.sum ?_ ?_ | refine Le.prod ?_ | intro _ | exact Empty.elim (by assumption) | dsimp only)
theorem m_F_compare_cellTable (p0 : (List api_Stitch)) (p1 : (List api_Stitch)) : Le (K_compare_cellTable p0 p1) (F_compare_cellTable p0 p1) := by
 unfold K_compare_cellTable F_compare_cellTable
 with_reducible repeat' (first | exact m_F_compare_table_api_Stitch__s0 _ _ | exact Le.rfl _ | refine Le.loop _ ?_ | refine Le.bind ?_ ?_ | refine Le.ite ?_ ?_ | refine Le.sum ?_ ?_ | refine Le.prod ?_ | intro _ | exact Empty.elim (by assumption) | dsimp only)
theorem m_compare_Edits_l2 (p0 : (List api_Stitch)) (p1 : (List api_Stitch)) (r30 : (List (List Int))) : ∀ s, Le (K_compare_Edits_l2 p0 p1 r30 s) (compare_Edits_l2 p0 p1 r30 s) := by
 unfold K_compare_Edits_l2 compare_Edits_l2
 with_reducible repeat' (first | exact Le.rfl _ | refine Le.loop _ ?_ | refine Le.bind ?_ ?_ | refine Le.ite ?_ ?_ | refine Le.sum ?_ ?_ | refine Le.prod ?_ | intro _ | exact Empty.elim (by assumption) | dsimp only)
theorem m_F_compare_Edits (p0 : (List api_Stitch)) (p1 : (List api_Stitch)) : Le (K_compare_Edits p0 p1) (F_compare_Edits p0 p1) := by
 unfold K_compare_Edits F_compare_Edits
 with_reducible repeat' (first | exact m_compare_Edits_l1 _ _ | exact m_F_compare_cellTable _ _ | exact m_compare_Edits_l2 _ _ _ | exact Le.rfl _ | refine Le.loop _ ?_ | refine Le.bind ?_ ?_ | refine Le.ite ?_ ?_ | refine Le.sum ?_ ?_ | refine Le.prod ?_ | intro _ | exact Empty.elim (by assumption) | dsimp only)
theorem m_raddleref26_Parse_l1 (r8 : (List ByteArray)) (s54 : Int) : ∀ s, Le (K_raddleref26_Parse_l1 r8 s54 s) (raddleref26_Parse_l1 r8 s54 s) := by
 unfold K_raddleref26_Parse_l1 raddleref26_Parse_l1
 with_reducible repeat' (first | exact Le.rfl _ | refine Le.loop _ ?_ | refine Le.bind ?_ ?_ | refine Le.ite ?_ ?_ | refine Le.sum ?_ ?_ | refine Le.prod ?_ | intro _ | exact Empty.elim (by assumption) | dsimp only)
theorem m_raddleref26_Parse_l2 (r8 : (List ByteArray)) : ∀ s, Le (K_raddleref26_Parse_l2 r8 s) (raddleref26_Parse_l2 r8 s) := by
 unfold K_raddleref26_Parse_l2 raddleref26_Parse_l2
 with_reducible repeat' (first | exact m_raddleref26_Parse_l1 _ _ | exact m_F_raddleref25_Parse _ | exact Le.rfl _ | refine Le.loop _ ?_ | refine Le.bind ?_ ?_ | refine Le.ite ?_ ?_ | refine Le.sum ?_ ?_ | refine Le.prod ?_ | intro _ | exact Empty.elim (by assumption) | dsimp only)
theorem m_F_raddleref25_Uses (p0 : (List api_Stitch)) : Le (K_raddleref25_Uses p0) (F_raddleref25_Uses p0) := by
 unfold K_raddleref25_Uses F_raddleref25_Uses
 with_reducible repeat' (first | exact m_F_raddleref25_All _ | exact m_F_raddleref25_sums _ | exact Le.rfl _ | refine Le.loop _ ?_ | refine Le.bind ?_ ?_ | refine Le.ite ?_ ?_ | refine Le.sum ?_ ?_ | refine Le.prod ?_ | intro _ | exact Empty.elim (by assumption) | dsimp only)
theorem m_F_raddleref25_Makes (p0 : (List api_Stitch)) : Le (K_raddleref25_Makes p0) (F_raddleref25_Makes p0) := by
 unfold K_raddleref25_Makes F_raddleref25_Makes
 with_reducible repeat' (first | exact m_F_raddleref25_All _ | exact m_F_raddleref25_sums _ | exact Le.rfl _ | refine Le.loop _ ?_ | refine Le.bind ?_ ?_ | refine Le.ite ?_ ?_ | refine Le.sum ?_ ?_ | refine Le.prod ?_ | intro _ | exact Empty.elim (by assumption) | dsimp only)
theorem m_raddleref26_Check_l1 (p0 : api_Chart) : ∀ s, Le (K_raddleref26_Check_l1 p0 s) (raddleref26_Check_l1 p0 s) := by
 unfold K_raddleref26_Check_l1 raddleref26_Check_l1
 with_reducible repeat' (first | exact m_F_raddleref25_Uses _ | exact m_F_raddleref25_Makes _ | exact Le.rfl _ | refine Le.loop _ ?_ | refine Le.bind ?_ ?_ | refine Le.ite ?_ ?_ | refine Le.sum ?_ ?_ | refine Le.prod ?_ | intro _ | exact Empty.elim (by assumption) | dsimp only)
theorem m_F_raddleref26_Check (p0 : api_Chart) : Le (K_raddleref26_Check p0) (F_raddleref26_Check p0) := by
 unfold K_raddleref26_Check F_raddleref26_Check
 with_reducible repeat' (first | exact m_raddleref26_Check_l1 _ | exact Le.rfl _ | refine Le.loop _ ?_ | refine Le.bind ?_ ?_ | refine Le.ite ?_ ?_ | refine Le.sum ?_ ?_ | refine Le.prod ?_ | intro _ | exact Empty.elim (by assumption) | dsimp only)
theorem m_F_raddleref26_side (p0 : Bool) : Le (K_raddleref26_side p0) (F_raddleref26_side p0) := by
 unfold K_raddleref26_side F_raddleref26_side
 with_reducible repeat' (first | exact Le.rfl _ | refine Le.loop _ ?_ | refine Le.bind ?_ ?_ | refine Le.ite ?_ ?_ | refine Le.sum ?_ ?_ | refine Le.prod ?_ | intro _ | exact Empty.elim (by assumption) | dsimp only)
theorem m_raddleref26_Written_l1 (p0 : api_Chart) : ∀ s, Le (K_raddleref26_Written_l1 p0 s) (raddleref26_Written_l1 p0 s) := by
 unfold K_raddleref26_Written_l1 raddleref26_Written_l1
 with_reducible repeat' (first | exact m_F_raddleref25_Written _ | exact m_F_raddleref26_side _ | exact Le.rfl _ | refine Le.loop _ ?_ | refine Le.bind ?_ ?_ | refine Le.ite ?_ ?_ | refine Le.sum ?_ ?_ | refine Le.prod ?_ | intro _ | exact Empty.elim (by assumption) | dsimp only)
theorem m_F_raddleref26_Written (p0 : api_Chart) : Le (K_raddleref26_Written p0) (F_raddleref26_Written p0) := by
 unfold K_raddleref26_Written F_raddleref26_Written
 with_reducible repeat' (first | exact m_F_raddleref25_Decimal _ | exact m_raddleref26_Written_l1 _ | exact Le.rfl _ | refine Le.loop _ ?_ | refine Le.bind ?_ ?_ | refine Le.ite ?_ ?_ | refine Le.sum ?_ ?_ | refine Le.prod ?_ | intro _ | exact Empty.elim (by assumption) | dsimp only)
theorem m_F_raddleref26_Parse (p0 : ByteArray) : Le (K_raddleref26_Parse p0) (F_raddleref26_Parse p0) := by
 unfold K_raddleref26_Parse F_raddleref26_Parse
 with_reducible repeat' (first | exact m_F_raddleref25_Cut _ _ | exact m_F_raddleref25_Number _ | exact m_raddleref26_Parse_l2 _ | exact m_F_raddleref26_Check _ | exact m_F_raddleref26_Written _ | exact Le.rfl _ | refine Le.loop _ ?_ | refine Le.bind ?_ ?_ | refine Le.ite ?_ ?_ | refine Le.sum ?_ ?_ | refine Le.prod ?_ | intro _ | exact Empty.elim (by assumption) | dsimp only)
theorem m_F_raddlelaw46_knit (p0 : ByteArray) : Le (K_raddlelaw46_knit p0) (F_raddlelaw46_knit p0) := by
 unfold K_raddlelaw46_knit F_raddlelaw46_knit
 with_reducible repeat' (first | exact m_F_raddleref26_Parse _ | exact Le.rfl _ | refine Le.loop _ ?_ | refine Le.bind ?_ ?_ | refine Le.ite ?_ ?_ | refine Le.sum ?_ ?_ | refine Le.prod ?_ | intro _ | exact Empty.elim (by assumption) | dsimp only)
theorem m_F_chart_counted (p0 : api_Chart) : Le (K_chart_counted p0) (F_chart_counted p0) := by
 unfold K_chart_counted F_chart_counted
 with_reducible repeat' (first | exact Le.rfl _ | refine Le.loop _ ?_ | refine Le.bind ?_ ?_ | refine Le.ite ?_ ?_ | refine Le.sum ?_ ?_ | refine Le.prod ?_ | intro _ | exact Empty.elim (by assumption) | dsimp only)
theorem m_F_stitch_Uses (p0 : (List api_Stitch)) : Le (K_stitch_Uses p0) (F_stitch_Uses p0) := by
 unfold K_stitch_Uses F_stitch_Uses
 with_reducible repeat' (first | exact m_F_stitch_All _ | exact m_F_stitch_sum _ | exact Le.rfl _ | refine Le.loop _ ?_ | refine Le.bind ?_ ?_ | refine Le.ite ?_ ?_ | refine Le.sum ?_ ?_ | refine Le.prod ?_ | intro _ | exact Empty.elim (by assumption) | dsimp only)
theorem m_F_stitch_Makes (p0 : (List api_Stitch)) : Le (K_stitch_Makes p0) (F_stitch_Makes p0) := by
 unfold K_stitch_Makes F_stitch_Makes
 with_reducible repeat' (first | exact m_F_stitch_All _ | exact m_F_stitch_sum _ | exact Le.rfl _ | refine Le.loop _ ?_ | refine Le.bind ?_ ?_ | refine Le.ite ?_ ?_ | refine Le.sum ?_ ?_ | refine Le.prod ?_ | intro _ | exact Empty.elim (by assumption) | dsimp only)
theorem m_chart_counted_1_l1 {σ τ : Type} (p0 : api_Chart) (B B' : σ → (Int × chart_count) → Option (σ ⊕ τ)) (hB : ∀ s x, Le (B s x) (B' s x)) : ∀ s, Le (K_chart_counted_1_l1 p0 B s) (chart_counted_1_l1 p0 B' s) := by
 unfold K_chart_counted_1_l1 chart_counted_1_l1
 with_reducible repeat' (first | exact hB _ _ | exact m_F_stitch_Uses _ | exact m_F_stitch_Makes _ | exact Le.rfl _ | refine Le.loop _ ?_ | refine Le.bind ?_ ?_ | refine Le.ite ?_ ?_ | refine Le.sum ?_ ?_ | refine Le.prod ?_ | intro _ | exact Empty.elim (by assumption) | dsimp only)
theorem m_I_chart_counted_1 (p0 : api_Chart) (σ τ : Type) (B B' : σ → (Int × chart_count) → Option (σ ⊕ τ)) (hB : ∀ s x, Le (B s x) (B' s x)) (gz0 : σ) : Le (K_I_chart_counted_1 p0 σ τ B gz0) (I_chart_counted_1 p0 σ τ B' gz0) := by
 unfold K_I_chart_counted_1 I_chart_counted_1
 with_reducible repeat' (first | exact hB _ _ | exact m_chart_counted_1_l1 _ _ _ hB | exact Le.rfl _ | refine Le.loop _ ?_ | refine Le.bind ?_ ?_ | refine Le.ite ?_ ?_ | refine Le.sum ?_ ?_ | refine Le.prod ?_ | intro _ | exact Empty.elim (by assumption) | dsimp only)
theorem m_chart_Check_l2  : ∀ s x, Le (K_chart_Check_l2 s x) (chart_Check_l2 s x) := by
 unfold K_chart_Check_l2 chart_Check_l2
 with_reducible repeat' (first | exact Le.rfl _ | refine Le.loop _ ?_ | refine Le.bind ?_ ?_ | refine Le.ite ?_ ?_ | refine Le.sum ?_ ?_ | refine Le.prod ?_ | intro _ | exact Empty.elim (by assumption) | dsimp only)
theorem m_F_chart_Check (p0 : api_Chart) : Le (K_chart_Check p0) (F_chart_Check p0) := by
 unfold K_chart_Check F_chart_Check
 with_reducible repeat' (first | exact m_F_chart_counted _ | refine m_I_chart_counted_1 _ _ _ _ _ ?_ _ | exact m_chart_Check_l2 | exact Le.rfl _ | refine Le.loop _ ?_ | refine Le.bind ?_ ?_ | refine Le.ite ?_ ?_ | refine Le.sum ?_ ?_ | refine Le.prod ?_ | intro _ | exact Empty.elim (by assumption) | dsimp only)
theorem m_F_compare_Charts_1 (p0 : api_Row) : Le (K_compare_Charts_1 p0) (F_compare_Charts_1 p0) := by
 unfold K_compare_Charts_1 F_compare_Charts_1
 with_reducible repeat' (first | exact Le.rfl _ | refine Le.loop _ ?_ | refine Le.bind ?_ ?_ | refine Le.ite ?_ ?_ | refine Le.sum ?_ ?_ | refine Le.prod ?_ | intro _ | exact Empty.elim (by assumption) | dsimp only)
theorem m_F_compare_Charts_2 (p0 : api_Row) (p1 : api_Row) : Le (K_compare_Charts_2 p0 p1) (F_compare_Charts_2 p0 p1) := by
 unfold K_compare_Charts_2 F_compare_Charts_2
 with_reducible repeat' (first | exact m_F_compare_cellTable _ _ | exact Le.rfl _ | refine Le.loop _ ?_ | refine Le.bind ?_ ?_ | refine Le.ite ?_ ?_ | refine Le.sum ?_ ?_ | refine Le.prod ?_ | intro _ | exact Empty.elim (by assumption) | dsimp only)
theorem m_compare_table_api_Row__s0_l1 (s16 : Int) (p0 : (List api_Row)) (p1 : (List api_Row)) (s15 : List (List Int)) : ∀ s, Le (K_compare_table_api_Row__s0_l1 s16 p0 p1 s15 s) (compare_table_api_Row__s0_l1 s16 p0 p1 s15 s) := by
 unfold K_compare_table_api_Row__s0_l1 compare_table_api_Row__s0_l1
 with_reducible repeat' (first | exact m_F_compare_Charts_1 _ | exact m_F_compare_Charts_2 _ _ | exact Le.rfl _ | refine Le.loop _ ?_ | refine Le.bind ?_ ?_ | refine Le.ite ?_ ?_ | refine Le.sum ?_ ?_ | refine Le.prod ?_ | intro _ | exact Empty.elim (by assumption) | dsimp only)
theorem m_compare_table_api_Row__s0_l2 (p1 : (List api_Row)) (p0 : (List api_Row)) : ∀ s, Le (K_compare_table_api_Row__s0_l2 p1 p0 s) (compare_table_api_Row__s0_l2 p1 p0 s) := by
 unfold K_compare_table_api_Row__s0_l2 compare_table_api_Row__s0_l2
 with_reducible repeat' (first | exact m_compare_table_api_Row__s0_l1 _ _ _ _ | exact Le.rfl _ | refine Le.loop _ ?_ | refine Le.bind ?_ ?_ | refine Le.ite ?_ ?_ | refine Le.sum ?_ ?_ | refine Le.prod ?_ | intro _ | exact Empty.elim (by assumption) | dsimp only)
theorem m_F_compare_table_api_Row__s0 (p0 : (List api_Row)) (p1 : (List api_Row)) : Le (K_compare_table_api_Row__s0 p0 p1) (F_compare_table_api_Row__s0 p0 p1) := by
 unfold K_compare_table_api_Row__s0 F_compare_table_api_Row__s0
 with_reducible repeat' (first | exact m_compare_table_api_Row__s0_l2 _ _ | exact Le.rfl _ | refine Le.loop _ ?_ | refine Le.bind ?_ ?_ | refine Le.ite ?_ ?_ | refine Le.sum ?_ ?_ | refine Le.prod ?_ | intro _ | exact Empty.elim (by assumption) | dsimp only)
theorem m_F_compare_Charts (p0 : api_Chart) (p1 : api_Chart) : Le (K_compare_Charts p0 p1) (F_compare_Charts p0 p1) := by
 unfold K_compare_Charts F_compare_Charts
 with_reducible repeat' (first | exact m_F_chart_Check _ | exact m_F_compare_table_api_Row__s0 _ _ | exact Le.rfl _ | refine Le.loop _ ?_ | refine Le.bind ?_ ?_ | refine Le.ite ?_ ?_ | refine Le.sum ?_ ?_ | refine Le.prod ?_ | intro _ | exact Empty.elim (by assumption) | dsimp only)
theorem m_raddleref46_Same_l1 (p0 : (List api_CellStep)) (p1 : (List api_CellStep)) : ∀ s, Le (K_raddleref46_Same_l1 p0 p1 s) (raddleref46_Same_l1 p0 p1 s) := by
 unfold K_raddleref46_Same_l1 raddleref46_Same_l1
 with_reducible repeat' (first | exact Le.rfl _ | refine Le.loop _ ?_ | refine Le.bind ?_ ?_ | refine Le.ite ?_ ?_ | refine Le.sum ?_ ?_ | refine Le.prod ?_ | intro _ | exact Empty.elim (by assumption) | dsimp only)
theorem m_F_raddleref46_Same (p0 : (List api_CellStep)) (p1 : (List api_CellStep)) : Le (K_raddleref46_Same p0 p1) (F_raddleref46_Same p0 p1) := by
 unfold K_raddleref46_Same F_raddleref46_Same
 with_reducible repeat' (first | exact m_raddleref46_Same_l1 _ _ | exact Le.rfl _ | refine Le.loop _ ?_ | refine Le.bind ?_ ?_ | refine Le.ite ?_ ?_ | refine Le.sum ?_ ?_ | refine Le.prod ?_ | intro _ | exact Empty.elim (by assumption) | dsimp only)
set_option maxRecDepth 1000000 in
theorem kc_raddlelaw46_alive_0 : F_raddlelaw46_cloth (⟨#[46, 120, 10]⟩ : ByteArray) = some (api_Grid.mk 2 1 [false, true]) := m_F_raddlelaw46_cloth _ _ (by kernel_rfl)
set_option maxRecDepth 1000000 in
theorem kc_raddlelaw46_alive_1 : F_raddlelaw46_cloth (⟨#[120, 46, 10]⟩ : ByteArray) = some (api_Grid.mk 2 1 [true, false]) := m_F_raddlelaw46_cloth _ _ (by kernel_rfl)
set_option maxRecDepth 1000000 in
theorem kc_raddlelaw46_alive_2 : F_compare_Cells ((api_Grid.mk 2 1 [false, true])) ((api_Grid.mk 2 1 [true, false])) = some (2, 0) := m_F_compare_Cells _ _ _ (by kernel_rfl)
set_option maxRecDepth 1000000 in
theorem kc_raddlelaw46_alive_3 : F_compare_Nearest ((api_Grid.mk 2 1 [false, true])) ((api_Grid.mk 2 1 [true, false])) 0 = some (0, (0, ((api_Point.mk 1 0), 0))) := m_F_compare_Nearest _ _ _ _ (by kernel_rfl)
set_option maxRecDepth 1000000 in
theorem kc_raddlelaw46_alive_4 : F_raddlelaw46_cells (⟨#[107, 32, 112, 32, 107]⟩ : ByteArray) = some [(api_Stitch.mk 1 false 0 0), (api_Stitch.mk 1 true 0 0), (api_Stitch.mk 1 false 0 0)] := m_F_raddlelaw46_cells _ _ (by kernel_rfl)
set_option maxRecDepth 1000000 in
theorem kc_raddlelaw46_alive_5 : F_raddlelaw46_cells (⟨#[107, 32, 121, 111, 32, 107]⟩ : ByteArray) = some [(api_Stitch.mk 1 false 0 0), (api_Stitch.mk 2 false 0 0), (api_Stitch.mk 1 false 0 0)] := m_F_raddlelaw46_cells _ _ (by kernel_rfl)
set_option maxRecDepth 1000000 in
theorem kc_raddlelaw46_alive_6 : F_compare_Edits ([(api_Stitch.mk 1 false 0 0), (api_Stitch.mk 1 true 0 0), (api_Stitch.mk 1 false 0 0)]) ([(api_Stitch.mk 1 false 0 0), (api_Stitch.mk 2 false 0 0), (api_Stitch.mk 1 false 0 0)]) = some ([(api_CellStep.mk 1 (api_Stitch.mk 0 false 0 0)), (api_CellStep.mk 2 (api_Stitch.mk 2 false 0 0)), (api_CellStep.mk 1 (api_Stitch.mk 0 false 0 0))], (1, 0)) := m_F_compare_Edits _ _ _ (by kernel_rfl)
set_option maxRecDepth 1000000 in
theorem kc_raddlelaw46_alive_7 : F_raddlelaw46_cells (⟨#[107, 32, 112]⟩ : ByteArray) = some [(api_Stitch.mk 1 false 0 0), (api_Stitch.mk 1 true 0 0)] := m_F_raddlelaw46_cells _ _ (by kernel_rfl)
set_option maxRecDepth 1000000 in
theorem kc_raddlelaw46_alive_8 : F_raddlelaw46_cells (⟨#[112]⟩ : ByteArray) = some [(api_Stitch.mk 1 true 0 0)] := m_F_raddlelaw46_cells _ _ (by kernel_rfl)
set_option maxRecDepth 1000000 in
theorem kc_raddlelaw46_alive_9 : F_compare_Edits ([(api_Stitch.mk 1 false 0 0), (api_Stitch.mk 1 true 0 0)]) ([(api_Stitch.mk 1 true 0 0)]) = some ([(api_CellStep.mk 4 (api_Stitch.mk 0 false 0 0)), (api_CellStep.mk 1 (api_Stitch.mk 0 false 0 0))], (1, 0)) := m_F_compare_Edits _ _ _ (by kernel_rfl)
set_option maxRecDepth 1000000 in
theorem kc_raddlelaw46_alive_10 : F_raddlelaw46_knit (⟨#[115, 116, 97, 114, 116, 32, 49, 10, 102, 114, 111, 110, 116, 32, 107, 10]⟩ : ByteArray) = some (api_Chart.mk 1 [(api_Row.mk false [(api_Stitch.mk 1 false 0 0)])]) := m_F_raddlelaw46_knit _ _ (by kernel_rfl)
set_option maxRecDepth 1000000 in
theorem kc_raddlelaw46_alive_11 : F_raddlelaw46_knit (⟨#[115, 116, 97, 114, 116, 32, 49, 10, 102, 114, 111, 110, 116, 32, 112, 10, 98, 97, 99, 107, 32, 107, 10]⟩ : ByteArray) = some (api_Chart.mk 1 [(api_Row.mk false [(api_Stitch.mk 1 true 0 0)]), (api_Row.mk true [(api_Stitch.mk 1 false 0 0)])]) := m_F_raddlelaw46_knit _ _ (by kernel_rfl)
set_option maxRecDepth 1000000 in
theorem kc_raddlelaw46_alive_12 : F_compare_Charts ((api_Chart.mk 1 [(api_Row.mk false [(api_Stitch.mk 1 false 0 0)])])) ((api_Chart.mk 1 [(api_Row.mk false [(api_Stitch.mk 1 true 0 0)]), (api_Row.mk true [(api_Stitch.mk 1 false 0 0)])])) = some (3, 0) := m_F_compare_Charts _ _ _ (by kernel_rfl)
set_option maxRecDepth 1000000 in
theorem kc_raddlelaw46_alive_13 : F_raddleref46_Same (([(api_CellStep.mk 1 (api_Stitch.mk 0 false 0 0)), (api_CellStep.mk 2 (api_Stitch.mk 2 false 0 0)), (api_CellStep.mk 1 (api_Stitch.mk 0 false 0 0))], (1, 0))).1 [(api_CellStep.mk 1 (api_Stitch.mk 0 false 0 0)), (api_CellStep.mk 2 (api_Stitch.mk 2 false 0 0)), (api_CellStep.mk 1 (api_Stitch.mk 0 false 0 0))] = some true := m_F_raddleref46_Same _ _ _ (by kernel_rfl)
set_option maxRecDepth 1000000 in
theorem kc_raddlelaw46_alive_14 : F_raddleref46_Same (([(api_CellStep.mk 4 (api_Stitch.mk 0 false 0 0)), (api_CellStep.mk 1 (api_Stitch.mk 0 false 0 0))], (1, 0))).1 [(api_CellStep.mk 4 (api_Stitch.mk 0 false 0 0)), (api_CellStep.mk 1 (api_Stitch.mk 0 false 0 0))] = some true := m_F_raddleref46_Same _ _ _ (by kernel_rfl)
noncomputable def F_raddlelaw46_alive  : Option Bool :=
 (F_raddlelaw46_cloth (⟨#[46, 120, 10]⟩ : ByteArray)).bind fun r3 =>
 (F_raddlelaw46_cloth (⟨#[120, 46, 10]⟩ : ByteArray)).bind fun a8 =>
 (F_compare_Cells r3 a8).bind fun a9 =>
 (F_compare_Nearest r3 a8 0).bind fun a0 =>
 (F_raddlelaw46_cells (⟨#[107, 32, 112, 32, 107]⟩ : ByteArray)).bind fun ab =>
 (F_raddlelaw46_cells (⟨#[107, 32, 121, 111, 32, 107]⟩ : ByteArray)).bind fun ac =>
 (F_compare_Edits ab ac).bind fun a4 =>
 (F_raddlelaw46_cells (⟨#[107, 32, 112]⟩ : ByteArray)).bind fun ae =>
 (F_raddlelaw46_cells (⟨#[112]⟩ : ByteArray)).bind fun af =>
 (F_compare_Edits ae af).bind fun a5 =>
 (F_raddlelaw46_knit (⟨#[115, 116, 97, 114, 116, 32, 49, 10, 102, 114, 111, 110, 116, 32, 107, 10]⟩ : ByteArray)).bind fun ag =>
 (F_raddlelaw46_knit (⟨#[115, 116, 97, 114, 116, 32, 49, 10, 102, 114, 111, 110, 116, 32, 112, 10, 98, 97, 99, 107, 32, 107, 10]⟩ : ByteArray)).bind fun ah =>
 (F_compare_Charts ag ah).bind fun aa =>
 if a9.2 == 0 then
  if a0.2.2.2 == 0 then
   if a4.2.2 == 0 then
    if a5.2.2 == 0 then
     Option.bind (α := Bool) (
      if aa.2 == 0 then
       if a9.1 == 2 then
        if a0.1 == 0 then
         if a0.2.1 == 0 then
          if ((a0.2.2.1.X == 1) && ((a0.2.2.1.Y == 0) && true)) then
           (F_raddleref46_Same a4.1 [(api_CellStep.mk 1 (api_Stitch.mk 0 false 0 0)), (api_CellStep.mk 2 (api_Stitch.mk 2 false 0 0)), (api_CellStep.mk 1 (api_Stitch.mk 0 false 0 0))]).bind fun a6 =>
           if a6 then
            if a4.2.1 == 1 then
             (F_raddleref46_Same a5.1 [(api_CellStep.mk 4 (api_Stitch.mk 0 false 0 0)), (api_CellStep.mk 1 (api_Stitch.mk 0 false 0 0))]).bind fun a7 =>
             if a7 then
              if a5.2.1 == 1 then
               some (aa.1 == 3)
              else
               none
             else
              none
            else
             none
           else
            none
          else
           none
         else
          none
        else
         none
       else
        none
      else
       some false) fun ai =>
     some ai
    else
     none
   else
    none
  else
   none
 else
  none
theorem c_raddlelaw46_alive (E : Nat → Prop) (w0 : World)  (r : Bool) (h : F_raddlelaw46_alive  = some r) (S : St0 E [] w0 w0 [] []) :
 Calls Try.prog 31 #[] w0 (Ret (X := Unit) E [] w0 (fun _ => .bool r) (fun _ => []) (fun _ => [])) := by
 unfold F_raddlelaw46_alive at h
 refine sEnter (args := []) 120 Try.func31 rfl rfl (by simp) S (fun a S => ?_)
 refine sSeq (fun K1 bW => sRegion (sN S fun a S => ?_))
 refine lT (bW _ _ (sSeq (fun K2 bX => sRegion ?_)))
 obtain ⟨r3, bH, h⟩ := bS h
 have hv_r3 : r3 = (api_Grid.mk 2 1 [false, true]) := Option.some.inj (bH.symm.trans (by exact kc_raddlelaw46_alive_0))
 refine sCall (X := Value) (f := 41) (vs := [.string (⟨#[46, 120, 10]⟩ : ByteArray)]) (val := c_raddlelaw46_cloth_val r3) (B' := fun _ => []) (D' := c_raddlelaw46_cloth_D r3) [] [] [] [] [] S (wN rfl) rfl callee41 rfl (by decide) rfl rfl (fun E1 w1 S1 => c_raddlelaw46_cloth E1 w1 (⟨#[46, 120, 10]⟩ : ByteArray) r3 bH S1) rfl (lb rfl) fun u5 a w S => ?_
 obtain ⟨u6, rfl, bO⟩ := S.mem.know (i := 0) (e := fRep r_api_Grid (u5) r3) rfl
 have S := S.learn (fRep (rL rB) u6 r3.Bits) bO
 obtain ⟨bP, bQ, _, rfl, _⟩ := bO
 obtain ⟨a4, aP, h⟩ := bS h
 have hv_r10 : a4 = (api_Grid.mk 2 1 [true, false]) := Option.some.inj (aP.symm.trans (by exact kc_raddlelaw46_alive_1))
 refine sCall (X := Value) (f := 41) (vs := [.string (⟨#[120, 46, 10]⟩ : ByteArray)]) (val := c_raddlelaw46_cloth_val a4) (B' := fun _ => []) (D' := c_raddlelaw46_cloth_D a4) [] [] [] [] [] S (wN rfl) rfl callee41 rfl (by decide) rfl rfl (fun E1 w1 S1 => c_raddlelaw46_cloth E1 w1 (⟨#[120, 46, 10]⟩ : ByteArray) a4 aP S1) rfl (lb rfl) fun bY a w S => ?_
 obtain ⟨bZ, rfl, bf⟩ := S.mem.know (i := 0) (e := fRep r_api_Grid (bY) a4) rfl
 have S := S.learn (fRep (rL rB) bZ a4.Bits) bf
 obtain ⟨bg, bh, _, rfl, _⟩ := bf
 obtain ⟨ai, bi, h⟩ := bS h
 have hv_r17 : ai = (2, 0) := Option.some.inj (bi.symm.trans (by rw [hv_r3, hv_r10]; exact kc_raddlelaw46_alive_2))
 have S1 := S.mem
 refine sCq [.agg #[iv r3.W, iv r3.H, .slice bP r3.Bits.length bQ], .agg #[iv a4.W, iv a4.H, .slice bg a4.Bits.length bh]] (.tuple #[iv ai.1, iv ai.2]) S callee14 (S1.quiet [3, 1] rfl) (fun E1 w1 S1 => c_compare_Cells E1 w1 r3 (.agg #[iv r3.W, iv r3.H, .slice bP r3.Bits.length bQ]) a4 (.agg #[iv a4.W, iv a4.H, .slice bg a4.Bits.length bh]) ai bi S1) fun a w S => ?_
 refine sM S fun a S => ?_
 refine sExtract (vs := [iv ai.1, iv ai.2]) (iv ai.1) S (wN rfl) rfl rfl rfl rfl (lb rfl) fun a S => ?_
 refine sExtract (vs := [iv ai.1, iv ai.2]) (iv ai.2) S (wN rfl) rfl rfl rfl rfl (lb rfl) fun a S => ?_
 refine sN S fun a S => ?_
 refine sN S fun a S => ?_
 refine lT (bX _ _ (sSeq (fun cn bI => sRegion (sCall (X := Value) (f := 41) (vs := [.string (⟨#[46, 120, 10]⟩ : ByteArray)]) (val := c_raddlelaw46_cloth_val r3) (B' := fun _ => []) (D' := c_raddlelaw46_cloth_D r3) [] [] [] [] [] S (wN rfl) rfl callee41 rfl (by decide) rfl rfl (fun E1 w1 S1 => c_raddlelaw46_cloth E1 w1 (⟨#[46, 120, 10]⟩ : ByteArray) r3 bH S1) rfl (lb rfl) fun c5 a w S => ?_))))
 obtain ⟨c6, rfl, bj⟩ := S.mem.know (i := 0) (e := fRep r_api_Grid (c5) r3) rfl
 have S := S.learn (fRep (rL rB) c6 r3.Bits) bj
 obtain ⟨aQ, aR, _, rfl, _⟩ := bj
 refine sCall (X := Value) (f := 41) (vs := [.string (⟨#[120, 46, 10]⟩ : ByteArray)]) (val := c_raddlelaw46_cloth_val a4) (B' := fun _ => []) (D' := c_raddlelaw46_cloth_D a4) [] [] [] [] [] S (wN rfl) rfl callee41 rfl (by decide) rfl rfl (fun E1 w1 S1 => c_raddlelaw46_cloth E1 w1 (⟨#[120, 46, 10]⟩ : ByteArray) a4 aP S1) rfl (lb rfl) fun c7 a w S => ?_
 obtain ⟨c8, rfl, bk⟩ := S.mem.know (i := 0) (e := fRep r_api_Grid (c7) a4) rfl
 have S := S.learn (fRep (rL rB) c8 a4.Bits) bk
 obtain ⟨aS, aT, _, rfl, _⟩ := bk
 obtain ⟨a0, bl, h⟩ := bS h
 have hv_r30 : a0 = (0, (0, ((api_Point.mk 1 0), 0))) := Option.some.inj (bl.symm.trans (by rw [hv_r3, hv_r10]; exact kc_raddlelaw46_alive_3))
 refine sCall (X := Value) (f := 16) (vs := [.agg #[iv r3.W, iv r3.H, .slice aQ r3.Bits.length aR], .agg #[iv a4.W, iv a4.H, .slice aS a4.Bits.length aT], iv 0]) (val := c_compare_Nearest_val a0) (B' := fun _ => []) (D' := c_compare_Nearest_D a0) [] [] [fRep r_api_Grid (.agg #[iv r3.W, iv r3.H, .slice aQ r3.Bits.length aR]) r3, fRep r_api_Grid (.agg #[iv a4.W, iv a4.H, .slice aS a4.Bits.length aT]) a4] [] [3, 1] S (wN rfl) rfl callee16 rfl (by decide) rfl rfl (fun E1 w1 S1 => c_compare_Nearest E1 w1 r3 (.agg #[iv r3.W, iv r3.H, .slice aQ r3.Bits.length aR]) a4 (.agg #[iv a4.W, iv a4.H, .slice aS a4.Bits.length aT]) 0 a0 bl S1) rfl (lb rfl) fun bR a w S => ?_
 obtain rfl : bR = .agg #[iv a0.2.2.1.X, iv a0.2.2.1.Y] := S.mem.know (i := 0) (e := fRep r_api_Point (bR) a0.2.2.1) rfl
 refine sM S fun a S => ?_
 refine sExtract (vs := [iv a0.1, iv a0.2.1, .agg #[iv a0.2.2.1.X, iv a0.2.2.1.Y], iv a0.2.2.2]) (iv a0.1) S (wN rfl) rfl rfl rfl rfl (lb rfl) fun a S => ?_
 refine sExtract (vs := [iv a0.1, iv a0.2.1, .agg #[iv a0.2.2.1.X, iv a0.2.2.1.Y], iv a0.2.2.2]) (iv a0.2.1) S (wN rfl) rfl rfl rfl rfl (lb rfl) fun a S => ?_
 refine sExtract (vs := [iv a0.1, iv a0.2.1, .agg #[iv a0.2.2.1.X, iv a0.2.2.1.Y], iv a0.2.2.2]) (.agg #[iv a0.2.2.1.X, iv a0.2.2.1.Y]) S (wN rfl) rfl rfl rfl rfl (lb rfl) fun a S => ?_
 refine sExtract (vs := [iv a0.1, iv a0.2.1, .agg #[iv a0.2.2.1.X, iv a0.2.2.1.Y], iv a0.2.2.2]) (iv a0.2.2.2) S (wN rfl) rfl rfl rfl rfl (lb rfl) fun a S => ?_
 refine sAlloc (.agg #[iv 0, iv 0]) S (wN rfl) rfl rfl [iv 0, iv 0] rfl rfl (lb rfl) fun a aC w S => ?_
 refine sN S fun a S => ?_
 refine sN S fun a S => ?_
 refine sStore (p := aC) (off := 0) (T := 33) (vs := [iv 0, iv 0]) (v := .agg #[iv a0.2.2.1.X, iv a0.2.2.1.Y]) 0 [iv a0.2.2.1.X, iv a0.2.2.1.Y] S (wN rfl) rfl rfl rfl rfl rfl rfl rfl (by simp) rfl fun a w S => ?_
 refine sN S fun a S => ?_
 refine lT (bI _ _ (sSeq (fun co bJ => sRegion ?_)))
 obtain ⟨aG, bm, h⟩ := bS h
 have hv_r35 : aG = [(api_Stitch.mk 1 false 0 0), (api_Stitch.mk 1 true 0 0), (api_Stitch.mk 1 false 0 0)] := Option.some.inj (bm.symm.trans (by exact kc_raddlelaw46_alive_4))
 refine sCall (X := Value) (f := 42) (vs := [.string (⟨#[107, 32, 112, 32, 107]⟩ : ByteArray)]) (val := c_raddlelaw46_cells_val aG) (B' := fun _ => []) (D' := c_raddlelaw46_cells_D aG) [] [eBox aC 33 [iv a0.2.2.1.X, iv a0.2.2.1.Y]] [] [0] [] S (wN rfl) rfl callee42 rfl (by decide) rfl rfl (fun E1 w1 S1 => c_raddlelaw46_cells E1 w1 (⟨#[107, 32, 112, 32, 107]⟩ : ByteArray) aG bm S1) rfl (lb rfl) fun c9 a w S => ?_
 obtain ⟨aU, aV, _, rfl, _⟩ := S.mem.know (i := 0) (e := fRep (rL r_api_Stitch) (c9) aG) rfl
 obtain ⟨aH, bn, h⟩ := bS h
 have hv_r40 : aH = [(api_Stitch.mk 1 false 0 0), (api_Stitch.mk 2 false 0 0), (api_Stitch.mk 1 false 0 0)] := Option.some.inj (bn.symm.trans (by exact kc_raddlelaw46_alive_5))
 refine sCall (X := Value) (f := 42) (vs := [.string (⟨#[107, 32, 121, 111, 32, 107]⟩ : ByteArray)]) (val := c_raddlelaw46_cells_val aH) (B' := fun _ => []) (D' := c_raddlelaw46_cells_D aH) [] [eBox aC 33 [iv a0.2.2.1.X, iv a0.2.2.1.Y]] [] [0] [] S (wN rfl) rfl callee42 rfl (by decide) rfl rfl (fun E1 w1 S1 => c_raddlelaw46_cells E1 w1 (⟨#[107, 32, 121, 111, 32, 107]⟩ : ByteArray) aH bn S1) rfl (lb rfl) fun ca a w S => ?_
 obtain ⟨aW, aX, _, rfl, _⟩ := S.mem.know (i := 0) (e := fRep (rL r_api_Stitch) (ca) aH) rfl
 obtain ⟨a5, bp, h⟩ := bS h
 have hv_r45 : a5 = ([(api_CellStep.mk 1 (api_Stitch.mk 0 false 0 0)), (api_CellStep.mk 2 (api_Stitch.mk 2 false 0 0)), (api_CellStep.mk 1 (api_Stitch.mk 0 false 0 0))], (1, 0)) := Option.some.inj (bp.symm.trans (by rw [hv_r35, hv_r40]; exact kc_raddlelaw46_alive_6))
 refine sCall (X := Value) (f := 23) (vs := [.slice aU aG.length aV, .slice aW aH.length aX]) (val := c_compare_Edits_val a5) (B' := fun _ => []) (D' := c_compare_Edits_D a5) [] [eBox aC 33 [iv a0.2.2.1.X, iv a0.2.2.1.Y]] [fRep (rL r_api_Stitch) (.slice aU aG.length aV) aG, fRep (rL r_api_Stitch) (.slice aW aH.length aX) aH] [0] [1, 0] S (wN rfl) rfl callee23 rfl (by decide) rfl rfl (fun E1 w1 S1 => c_compare_Edits E1 w1 aG (.slice aU aG.length aV) aH (.slice aW aH.length aX) a5 bp S1) rfl (lb rfl) fun cb a w S => ?_
 obtain ⟨ae, af, _, rfl, _⟩ := S.mem.know (i := 0) (e := fRep (rL r_api_CellStep) (cb) a5.1) rfl
 refine sM S fun a S => ?_
 refine sExtract (vs := [.slice ae a5.1.length af, iv a5.2.1, iv a5.2.2]) (.slice ae a5.1.length af) S (wN rfl) rfl rfl rfl rfl (lb rfl) fun a S => ?_
 refine sExtract (vs := [.slice ae a5.1.length af, iv a5.2.1, iv a5.2.2]) (iv a5.2.1) S (wN rfl) rfl rfl rfl rfl (lb rfl) fun a S => ?_
 refine sExtract (vs := [.slice ae a5.1.length af, iv a5.2.1, iv a5.2.2]) (iv a5.2.2) S (wN rfl) rfl rfl rfl rfl (lb rfl) fun a S => ?_
 refine sN S fun a S => ?_
 refine sN S fun a S => ?_
 refine sN S fun a S => ?_
 refine lT (bJ _ _ (sSeq (fun cp bK => sRegion ?_)))
 obtain ⟨aI, bq, h⟩ := bS h
 have hv_r51 : aI = [(api_Stitch.mk 1 false 0 0), (api_Stitch.mk 1 true 0 0)] := Option.some.inj (bq.symm.trans (by exact kc_raddlelaw46_alive_7))
 refine sCall (X := Value) (f := 42) (vs := [.string (⟨#[107, 32, 112]⟩ : ByteArray)]) (val := c_raddlelaw46_cells_val aI) (B' := fun _ => []) (D' := c_raddlelaw46_cells_D aI) [] [eBox aC 33 [iv a0.2.2.1.X, iv a0.2.2.1.Y]] [] [0] [] S (wN rfl) rfl callee42 rfl (by decide) rfl rfl (fun E1 w1 S1 => c_raddlelaw46_cells E1 w1 (⟨#[107, 32, 112]⟩ : ByteArray) aI bq S1) rfl (lb rfl) fun cc a w S => ?_
 obtain ⟨aZ, ba, _, rfl, _⟩ := S.mem.know (i := 0) (e := fRep (rL r_api_Stitch) (cc) aI) rfl
 obtain ⟨aJ, br, h⟩ := bS h
 have hv_r56 : aJ = [(api_Stitch.mk 1 true 0 0)] := Option.some.inj (br.symm.trans (by exact kc_raddlelaw46_alive_8))
 refine sCall (X := Value) (f := 42) (vs := [.string (⟨#[112]⟩ : ByteArray)]) (val := c_raddlelaw46_cells_val aJ) (B' := fun _ => []) (D' := c_raddlelaw46_cells_D aJ) [] [eBox aC 33 [iv a0.2.2.1.X, iv a0.2.2.1.Y]] [] [0] [] S (wN rfl) rfl callee42 rfl (by decide) rfl rfl (fun E1 w1 S1 => c_raddlelaw46_cells E1 w1 (⟨#[112]⟩ : ByteArray) aJ br S1) rfl (lb rfl) fun cd a w S => ?_
 obtain ⟨bb, bc, _, rfl, _⟩ := S.mem.know (i := 0) (e := fRep (rL r_api_Stitch) (cd) aJ) rfl
 obtain ⟨a6, bt, h⟩ := bS h
 have hv_r61 : a6 = ([(api_CellStep.mk 4 (api_Stitch.mk 0 false 0 0)), (api_CellStep.mk 1 (api_Stitch.mk 0 false 0 0))], (1, 0)) := Option.some.inj (bt.symm.trans (by rw [hv_r51, hv_r56]; exact kc_raddlelaw46_alive_9))
 refine sCall (X := Value) (f := 23) (vs := [.slice aZ aI.length ba, .slice bb aJ.length bc]) (val := c_compare_Edits_val a6) (B' := fun _ => []) (D' := c_compare_Edits_D a6) [] [eBox aC 33 [iv a0.2.2.1.X, iv a0.2.2.1.Y]] [fRep (rL r_api_Stitch) (.slice aZ aI.length ba) aI, fRep (rL r_api_Stitch) (.slice bb aJ.length bc) aJ] [0] [1, 0] S (wN rfl) rfl callee23 rfl (by decide) rfl rfl (fun E1 w1 S1 => c_compare_Edits E1 w1 aI (.slice aZ aI.length ba) aJ (.slice bb aJ.length bc) a6 bt S1) rfl (lb rfl) fun ce a w S => ?_
 obtain ⟨ag, ah, _, rfl, _⟩ := S.mem.know (i := 0) (e := fRep (rL r_api_CellStep) (ce) a6.1) rfl
 refine sM S fun a S => ?_
 refine sExtract (vs := [.slice ag a6.1.length ah, iv a6.2.1, iv a6.2.2]) (.slice ag a6.1.length ah) S (wN rfl) rfl rfl rfl rfl (lb rfl) fun a S => ?_
 refine sExtract (vs := [.slice ag a6.1.length ah, iv a6.2.1, iv a6.2.2]) (iv a6.2.1) S (wN rfl) rfl rfl rfl rfl (lb rfl) fun a S => ?_
 refine sExtract (vs := [.slice ag a6.1.length ah, iv a6.2.1, iv a6.2.2]) (iv a6.2.2) S (wN rfl) rfl rfl rfl rfl (lb rfl) fun a S => ?_
 refine sN S fun a S => ?_
 refine sN S fun a S => ?_
 refine sN S fun a S => ?_
 refine lT (bK _ _ (sSeq (fun cq bL => sRegion ?_)))
 obtain ⟨am, bu, h⟩ := bS h
 have hv_r67 : am = (api_Chart.mk 1 [(api_Row.mk false [(api_Stitch.mk 1 false 0 0)])]) := Option.some.inj (bu.symm.trans (by exact kc_raddlelaw46_alive_10))
 refine sCall (X := Value) (f := 43) (vs := [.string (⟨#[115, 116, 97, 114, 116, 32, 49, 10, 102, 114, 111, 110, 116, 32, 107, 10]⟩ : ByteArray)]) (val := c_raddlelaw46_knit_val am) (B' := fun _ => []) (D' := c_raddlelaw46_knit_D am) [] [eBox aC 33 [iv a0.2.2.1.X, iv a0.2.2.1.Y]] [] [0] [] S (wN rfl) rfl callee43 rfl (by decide) rfl rfl (fun E1 w1 S1 => c_raddlelaw46_knit E1 w1 (⟨#[115, 116, 97, 114, 116, 32, 49, 10, 102, 114, 111, 110, 116, 32, 107, 10]⟩ : ByteArray) am bu S1) rfl (lb rfl) fun cg a w S => ?_
 obtain ⟨ci, rfl, bv⟩ := S.mem.know (i := 0) (e := fRep r_api_Chart (cg) am) rfl
 have S := S.learn (fRep (rL r_api_Row) ci am.Rows) bv
 obtain ⟨bw, bx, _, rfl, _⟩ := bv
 obtain ⟨ao, bz, h⟩ := bS h
 have hv_r74 : ao = (api_Chart.mk 1 [(api_Row.mk false [(api_Stitch.mk 1 true 0 0)]), (api_Row.mk true [(api_Stitch.mk 1 false 0 0)])]) := Option.some.inj (bz.symm.trans (by exact kc_raddlelaw46_alive_11))
 refine sCall (X := Value) (f := 43) (vs := [.string (⟨#[115, 116, 97, 114, 116, 32, 49, 10, 102, 114, 111, 110, 116, 32, 112, 10, 98, 97, 99, 107, 32, 107, 10]⟩ : ByteArray)]) (val := c_raddlelaw46_knit_val ao) (B' := fun _ => []) (D' := c_raddlelaw46_knit_D ao) [] [eBox aC 33 [iv a0.2.2.1.X, iv a0.2.2.1.Y]] [] [0] [] S (wN rfl) rfl callee43 rfl (by decide) rfl rfl (fun E1 w1 S1 => c_raddlelaw46_knit E1 w1 (⟨#[115, 116, 97, 114, 116, 32, 49, 10, 102, 114, 111, 110, 116, 32, 112, 10, 98, 97, 99, 107, 32, 107, 10]⟩ : ByteArray) ao bz S1) rfl (lb rfl) fun cj a w S => ?_
 obtain ⟨ck, rfl, bA⟩ := S.mem.know (i := 0) (e := fRep r_api_Chart (cj) ao) rfl
 have S := S.learn (fRep (rL r_api_Row) ck ao.Rows) bA
 obtain ⟨bB, bC, _, rfl, _⟩ := bA
 obtain ⟨a9, bD, h⟩ := bS h
 have hv_r81 : a9 = (3, 0) := Option.some.inj (bD.symm.trans (by rw [hv_r67, hv_r74]; exact kc_raddlelaw46_alive_12))
 have S1 := S.mem
 refine sCq [.agg #[iv am.Start, .slice bw am.Rows.length bx], .agg #[iv ao.Start, .slice bB ao.Rows.length bC]] (.tuple #[iv a9.1, iv a9.2]) S callee20 (S1.quiet [3, 1] rfl) (fun E1 w1 S1 => c_compare_Charts E1 w1 am (.agg #[iv am.Start, .slice bw am.Rows.length bx]) ao (.agg #[iv ao.Start, .slice bB ao.Rows.length bC]) a9 bD S1) fun a w S => ?_
 refine sM S fun a S => ?_
 refine sExtract (vs := [iv a9.1, iv a9.2]) (iv a9.1) S (wN rfl) rfl rfl rfl rfl (lb rfl) fun a S => ?_
 refine sExtract (vs := [iv a9.1, iv a9.2]) (iv a9.2) S (wN rfl) rfl rfl rfl rfl (lb rfl) fun a S => ?_
 refine sN S fun a S => ?_
 refine sN S fun a S => ?_
 refine lT (bL _ _ (sSeq (fun cr bM => sRegion (sBuild [(0, .int .u8 1)] [.int .u8 1, .int .u8 0, .bool false, iv 0, iv 0] S (wN rfl) rfl rfl rfl rfl (lb rfl) fun a S => ?_))))
 refine sBuild [(0, .int .u8 2)] [.int .u8 2, .bool false, iv 0, iv 0] S (wN rfl) rfl rfl rfl rfl (lb rfl) fun a S => ?_
 refine sBuild [(0, .int .u8 2), (1, .agg #[.int .u8 2, .bool false, iv 0, iv 0])] [.int .u8 2, .int .u8 2, .bool false, iv 0, iv 0] S (wN rfl) rfl rfl rfl rfl (lb rfl) fun a S => ?_
 refine sBuild [(0, .int .u8 4)] [.int .u8 4, .int .u8 0, .bool false, iv 0, iv 0] S (wN rfl) rfl rfl rfl rfl (lb rfl) fun a S => ?_
 refine sAlloc (.agg #[.int .u8 0, .int .u8 0, .bool false, iv 0, iv 0]) S (wN rfl) rfl rfl [.int .u8 0, .int .u8 0, .bool false, iv 0, iv 0] rfl rfl (lb rfl) fun a bG w S => ?_
 refine sAlloc (.agg #[.int .u8 0, .int .u8 0, .bool false, iv 0, iv 0]) S (wN rfl) rfl rfl [.int .u8 0, .int .u8 0, .bool false, iv 0, iv 0] rfl rfl (lb rfl) fun a bU w S => ?_
 refine sAlloc (.agg #[.int .u8 0, .int .u8 0, .bool false, iv 0, iv 0]) S (wN rfl) rfl rfl [.int .u8 0, .int .u8 0, .bool false, iv 0, iv 0] rfl rfl (lb rfl) fun a bV w S => ?_
 refine sStore (p := bG) (off := 0) (T := 83) (vs := [.int .u8 0, .int .u8 0, .bool false, iv 0, iv 0]) (v := .agg #[.int .u8 1, .int .u8 0, .bool false, iv 0, iv 0]) 2 [.int .u8 1, .int .u8 0, .bool false, iv 0, iv 0] S (wN rfl) rfl rfl rfl rfl rfl rfl rfl (by simp) rfl fun a w S => ?_
 refine sStore (p := bU) (off := 0) (T := 83) (vs := [.int .u8 0, .int .u8 0, .bool false, iv 0, iv 0]) (v := .agg #[.int .u8 2, .int .u8 2, .bool false, iv 0, iv 0]) 2 [.int .u8 2, .int .u8 2, .bool false, iv 0, iv 0] S (wN rfl) rfl rfl rfl rfl rfl rfl rfl (by simp) rfl fun a w S => ?_
 refine sStore (p := bV) (off := 0) (T := 83) (vs := [.int .u8 0, .int .u8 0, .bool false, iv 0, iv 0]) (v := .agg #[.int .u8 4, .int .u8 0, .bool false, iv 0, iv 0]) 2 [.int .u8 4, .int .u8 0, .bool false, iv 0, iv 0] S (wN rfl) rfl rfl rfl rfl rfl rfl rfl (by simp) rfl fun a w S => ?_
 refine lT (bM _ _ (sSeq (fun ct bN => sRegion (sM S fun a S => ?_))))
 refine sBin _ S (wN rfl) rfl rfl rfl (bEq _ _ _ _ .i64 ai.2 0) rfl (lb rfl) fun a S => ?_
 refine sM S fun a S => ?_
 rcases iS h with ⟨ap, h⟩ | ⟨ap, h⟩
 rotate_left
 ·exact absurd ap (by rw [hv_r17]; decide)
 refine sMove (iv a0.2.2.2) S (wG 2 true 59 rfl rfl rfl ap) (.inl rfl) rfl rfl (lb rfl) fun a S => ?_
 refine sBin _ S (wG 2 true 59 rfl rfl rfl ap) rfl rfl rfl (bEq _ _ _ _ .i64 a0.2.2.2 0) rfl (lb rfl) fun a S => ?_
 refine sPickT (.bool (a0.2.2.2 == 0)) S (wN rfl) rfl rfl ap rfl rfl (lb rfl) fun a S => ?_
 refine sM S fun a S => ?_
 rcases iS h with ⟨aq, h⟩ | ⟨aq, h⟩
 rotate_left
 ·exact absurd aq (by rw [hv_r30]; decide)
 refine sMove (iv a5.2.2) S (wG 6 true 63 rfl rfl rfl aq) (.inl rfl) rfl rfl (lb rfl) fun a S => ?_
 refine sBin _ S (wG 6 true 63 rfl rfl rfl aq) rfl rfl rfl (bEq _ _ _ _ .i64 a5.2.2 0) rfl (lb rfl) fun a S => ?_
 refine sPickT (.bool (a5.2.2 == 0)) S (wN rfl) rfl rfl aq rfl rfl (lb rfl) fun a S => ?_
 refine sM S fun a S => ?_
 rcases iS h with ⟨ar, h⟩ | ⟨ar, h⟩
 rotate_left
 ·exact absurd ar (by rw [hv_r45]; decide)
 refine sMove (iv a6.2.2) S (wG 10 true 67 rfl rfl rfl ar) (.inl rfl) rfl rfl (lb rfl) fun a S => ?_
 refine sBin _ S (wG 10 true 67 rfl rfl rfl ar) rfl rfl rfl (bEq _ _ _ _ .i64 a6.2.2 0) rfl (lb rfl) fun a S => ?_
 refine sPickT (.bool (a6.2.2 == 0)) S (wN rfl) rfl rfl ar rfl rfl (lb rfl) fun a S => ?_
 refine sM S fun a S => ?_
 rcases iS h with ⟨au, h⟩ | ⟨au, h⟩
 rotate_left
 ·exact absurd au (by rw [hv_r61]; decide)
 refine sMove (iv a9.2) S (wG 14 true 71 rfl rfl rfl au) (.inl rfl) rfl rfl (lb rfl) fun a S => ?_
 refine sBin _ S (wG 14 true 71 rfl rfl rfl au) rfl rfl rfl (bEq _ _ _ _ .i64 a9.2 0) rfl (lb rfl) fun a S => ?_
 refine sPickT (.bool (a9.2 == 0)) S (wN rfl) rfl rfl au rfl rfl (lb rfl) fun a S => ?_
 refine sN S fun a S => ?_
 refine lT (bN _ _ ?_)
 obtain ⟨cl, h, cm⟩ := bS h
 refine sCut (fun a w => ∃ bE, bE = cl ∧ St [] E [] w0 120 a w [(0, .bool bE)] [] []) ?_ (fun a w hI => ?_)
 rotate_left
 ·obtain ⟨bE, rfl, S⟩ := hI
  have h := cm
  try dsimp only at h
  obtain rfl := tS h
  exact wp_ret (sRet (.bool bE) S (rsl1 rfl (rvT (t := 0) (v := .bool bE) S rfl)) ⟨(), rfl, S.mem.sel [] [] (by decide) rfl rfl⟩)
 refine sRegion (sM S fun a S => ?_)
 refine sM S fun a S => ?_
 rcases iS h with ⟨aj, h⟩ | ⟨aj, h⟩
 rotate_left
 ·refine sSkN 2 1 true 76 S rfl rfl aj rfl fun a S => ?_
  refine sPickF (.bool false) S (wN rfl) rfl rfl aj rfl rfl (lb rfl) fun a S => ?_
  refine sM S fun a S => ?_
  refine sSkN 2 5 true 80 S rfl rfl rfl rfl fun a S => ?_
  refine sPickF (.bool false) S (wN rfl) rfl rfl rfl rfl rfl (lb rfl) fun a S => ?_
  refine sM S fun a S => ?_
  refine sSkN 2 9 true 84 S rfl rfl rfl rfl fun a S => ?_
  refine sPickF (.bool false) S (wN rfl) rfl rfl rfl rfl rfl (lb rfl) fun a S => ?_
  refine sM S fun a S => ?_
  refine sSkN 3 13 true 88 S rfl rfl rfl rfl fun a S => ?_
  refine sPickF (.bool false) S (wN rfl) rfl rfl rfl rfl rfl (lb rfl) fun a S => ?_
  refine sM S fun a S => ?_
  refine sSkN 6 18 true 93 S rfl rfl rfl rfl fun a S => ?_
  refine sPickF (.bool false) S (wN rfl) rfl rfl rfl rfl rfl (lb rfl) fun a S => ?_
  refine sM S fun a S => ?_
  refine sSkN 2 26 true 101 S rfl rfl rfl rfl fun a S => ?_
  refine sPickF (.bool false) S (wN rfl) rfl rfl rfl rfl rfl (lb rfl) fun a S => ?_
  refine sM S fun a S => ?_
  refine sSkN 5 30 true 105 S rfl rfl rfl rfl fun a S => ?_
  refine sPickF (.bool false) S (wN rfl) rfl rfl rfl rfl rfl (lb rfl) fun a S => ?_
  refine sM S fun a S => ?_
  refine sSkN 2 37 true 112 S rfl rfl rfl rfl fun a S => ?_
  refine sPickF (.bool false) S (wN rfl) rfl rfl rfl rfl rfl (lb rfl) fun a S => ?_
  refine sM S fun a S => ?_
  refine sSkN 2 41 true 116 S rfl rfl rfl rfl fun a S => ?_
  refine sPickF (.bool false) S (wN rfl) rfl rfl rfl rfl rfl (lb rfl) fun a S => ?_
  refine sN S fun a S => ?_
  exact lT (⟨false, Option.some.inj h, S.fix [] [] (by decide) rfl rfl rfl⟩)
 refine sMove (iv ai.1) S (wG 1 true 76 rfl rfl rfl aj) (.inl rfl) rfl rfl (lb rfl) fun a S => ?_
 refine sBin _ S (wG 1 true 76 rfl rfl rfl aj) rfl rfl rfl (bEq _ _ _ _ .i64 ai.1 2) rfl (lb rfl) fun a S => ?_
 refine sPickT (.bool (ai.1 == 2)) S (wN rfl) rfl rfl aj rfl rfl (lb rfl) fun a S => ?_
 refine sM S fun a S => ?_
 rcases iS h with ⟨av, h⟩ | ⟨av, h⟩
 rotate_left
 ·exact absurd av (by rw [hv_r17]; decide)
 refine sMove (iv a0.1) S (wG 5 true 80 rfl rfl rfl av) (.inl rfl) rfl rfl (lb rfl) fun a S => ?_
 refine sBin _ S (wG 5 true 80 rfl rfl rfl av) rfl rfl rfl (bEq _ _ _ _ .i64 a0.1 0) rfl (lb rfl) fun a S => ?_
 refine sPickT (.bool (a0.1 == 0)) S (wN rfl) rfl rfl av rfl rfl (lb rfl) fun a S => ?_
 refine sM S fun a S => ?_
 rcases iS h with ⟨aw, h⟩ | ⟨aw, h⟩
 rotate_left
 ·exact absurd aw (by rw [hv_r30]; decide)
 refine sMove (iv a0.2.1) S (wG 9 true 84 rfl rfl rfl aw) (.inl rfl) rfl rfl (lb rfl) fun a S => ?_
 refine sBin _ S (wG 9 true 84 rfl rfl rfl aw) rfl rfl rfl (bEq _ _ _ _ .i64 a0.2.1 0) rfl (lb rfl) fun a S => ?_
 refine sPickT (.bool (a0.2.1 == 0)) S (wN rfl) rfl rfl aw rfl rfl (lb rfl) fun a S => ?_
 refine sM S fun a S => ?_
 rcases iS h with ⟨ak, h⟩ | ⟨ak, h⟩
 rotate_left
 ·exact absurd ak (by rw [hv_r30]; decide)
 refine sLoadN (p := aC) (off := 0) (T := 33) (vs := [iv a0.2.2.1.X, iv a0.2.2.1.Y]) 3 [iv a0.2.2.1.X, iv a0.2.2.1.Y] S (wG 13 true 88 rfl rfl rfl ak) rfl rfl rfl rfl rfl rfl rfl (lb rfl) fun a S => ?_
 refine sBuild [(0, iv 1)] [iv 1, iv 0] S (wG 13 true 88 rfl rfl rfl ak) rfl rfl rfl rfl (lb rfl) fun a S => ?_
 refine sBin _ S (wG 13 true 88 rfl rfl rfl ak) rfl rfl rfl (bEqV _ _ _ _ #[iv a0.2.2.1.X, iv a0.2.2.1.Y] #[iv 1, iv 0] ((a0.2.2.1.X == 1) && ((a0.2.2.1.Y == 0) && true)) (by kernel_rfl) (eqlV_of (by kernel_rfl))) rfl (lb rfl) fun a S => ?_
 refine sPickT (.bool ((a0.2.2.1.X == 1) && ((a0.2.2.1.Y == 0) && true))) S (wN rfl) rfl rfl ak rfl rfl (lb rfl) fun a S => ?_
 refine sM S fun a S => ?_
 rcases iS h with ⟨a8, h⟩ | ⟨a8, h⟩
 rotate_left
 ·exact absurd a8 (by rw [hv_r30]; decide)
 refine sMove (.slice ae a5.1.length af) S (wG 18 true 93 rfl rfl rfl a8) (.inl rfl) rfl rfl (lb rfl) fun a S => ?_
 refine sLoadN (p := bG) (off := 0) (T := 83) (vs := [.int .u8 1, .int .u8 0, .bool false, iv 0, iv 0]) 2 [.int .u8 1, .int .u8 0, .bool false, iv 0, iv 0] S (wG 18 true 93 rfl rfl rfl a8) rfl rfl rfl rfl rfl rfl rfl (lb rfl) fun a S => ?_
 refine sLoadN (p := bU) (off := 0) (T := 83) (vs := [.int .u8 2, .int .u8 2, .bool false, iv 0, iv 0]) 1 [.int .u8 2, .int .u8 2, .bool false, iv 0, iv 0] S (wG 18 true 93 rfl rfl rfl a8) rfl rfl rfl rfl rfl rfl rfl (lb rfl) fun a S => ?_
 refine sLoadN (p := bG) (off := 0) (T := 83) (vs := [.int .u8 1, .int .u8 0, .bool false, iv 0, iv 0]) 2 [.int .u8 1, .int .u8 0, .bool false, iv 0, iv 0] S (wG 18 true 93 rfl rfl rfl a8) rfl rfl rfl rfl rfl rfl rfl (lb rfl) fun a S => ?_
 have S := S.learn (fRep r_api_CellStep (.agg #[.int .u8 1, .int .u8 0, .bool false, iv 0, iv 0]) (api_CellStep.mk 1 (api_Stitch.mk 0 false 0 0))) rfl
 have S := S.learn (fRep r_api_CellStep (.agg #[.int .u8 2, .int .u8 2, .bool false, iv 0, iv 0]) (api_CellStep.mk 2 (api_Stitch.mk 2 false 0 0))) rfl
 refine sLit (r := r_api_CellStep) (T := 83) (xs := [(api_CellStep.mk 1 (api_Stitch.mk 0 false 0 0)), (api_CellStep.mk 2 (api_Stitch.mk 2 false 0 0)), (api_CellStep.mk 1 (api_Stitch.mk 0 false 0 0))]) [(0, .agg #[.int .u8 1, .int .u8 0, .bool false, iv 0, iv 0]), (1, .agg #[.int .u8 2, .int .u8 2, .bool false, iv 0, iv 0]), (2, .agg #[.int .u8 1, .int .u8 0, .bool false, iv 0, iv 0])] 3 [.agg #[.int .u8 1, .int .u8 0, .bool false, iv 0, iv 0], .agg #[.int .u8 2, .int .u8 2, .bool false, iv 0, iv 0], .agg #[.int .u8 1, .int .u8 0, .bool false, iv 0, iv 0]] [.int .u8 1, .int .u8 0, .bool false, iv 0, iv 0, .int .u8 2, .int .u8 2, .bool false, iv 0, iv 0, .int .u8 1, .int .u8 0, .bool false, iv 0, iv 0] (.agg #[.int .u8 0, .int .u8 0, .bool false, iv 0, iv 0]) 32 S (wG 18 true 93 rfl rfl rfl a8) rfl rfl Try.underlying48 rfl (by decide) (by decide) (by kernel_rfl) rfl (fun E1 w1 hE => All.cons (r_api_CellStep.mono hE (S.mem.know (i := 1) (e := fRep r_api_CellStep (.agg #[.int .u8 1, .int .u8 0, .bool false, iv 0, iv 0]) (api_CellStep.mk 1 (api_Stitch.mk 0 false 0 0))) rfl)) (All.cons (r_api_CellStep.mono hE (S.mem.know (i := 0) (e := fRep r_api_CellStep (.agg #[.int .u8 2, .int .u8 2, .bool false, iv 0, iv 0]) (api_CellStep.mk 2 (api_Stitch.mk 2 false 0 0))) rfl)) (All.cons (r_api_CellStep.mono hE (S.mem.know (i := 1) (e := fRep r_api_CellStep (.agg #[.int .u8 1, .int .u8 0, .bool false, iv 0, iv 0]) (api_CellStep.mk 1 (api_Stitch.mk 0 false 0 0))) rfl)) (All.nil _ _ _)))) rfl rfl (lb rfl) fun a w ax ay S => ?_
 obtain ⟨aK, aM, h⟩ := bS h
 have hv_r102 : aK = true := Option.some.inj (aM.symm.trans (by rw [hv_r45]; exact kc_raddlelaw46_alive_13))
 have S1 := S.mem
 have S1 := S1.shutR (r := r_api_CellStep) (T := 83) (v := .slice ax [(api_CellStep.mk 1 (api_Stitch.mk 0 false 0 0)), (api_CellStep.mk 2 (api_Stitch.mk 2 false 0 0)), (api_CellStep.mk 1 (api_Stitch.mk 0 false 0 0))].length ay) (xs := [(api_CellStep.mk 1 (api_Stitch.mk 0 false 0 0)), (api_CellStep.mk 2 (api_Stitch.mk 2 false 0 0)), (api_CellStep.mk 1 (api_Stitch.mk 0 false 0 0))]) 0 rfl
 refine sCallQ (X := Unit) (f := 29) (vs := [.slice ae a5.1.length af, .slice ax [(api_CellStep.mk 1 (api_Stitch.mk 0 false 0 0)), (api_CellStep.mk 2 (api_Stitch.mk 2 false 0 0)), (api_CellStep.mk 1 (api_Stitch.mk 0 false 0 0))].length ay]) (val := fun _ => .bool aK) S (wG 18 true 93 rfl rfl rfl a8) rfl callee29 rfl (S1.quiet [10, 0] rfl) (fun E1 w1 S1 => c_raddleref46_Same E1 w1 a5.1 (.slice ae a5.1.length af) [(api_CellStep.mk 1 (api_Stitch.mk 0 false 0 0)), (api_CellStep.mk 2 (api_Stitch.mk 2 false 0 0)), (api_CellStep.mk 1 (api_Stitch.mk 0 false 0 0))] (.slice ax [(api_CellStep.mk 1 (api_Stitch.mk 0 false 0 0)), (api_CellStep.mk 2 (api_Stitch.mk 2 false 0 0)), (api_CellStep.mk 1 (api_Stitch.mk 0 false 0 0))].length ay) aK aM S1) rfl (lb rfl) fun _ a w S => ?_
 refine sPickT (.bool aK) S (wN rfl) rfl rfl a8 rfl rfl (lb rfl) fun a S => ?_
 refine sM S fun a S => ?_
 rcases iS h with ⟨aa, h⟩ | ⟨aa, h⟩
 rotate_left
 ·exact absurd aa (by rw [hv_r102]; decide)
 refine sMove (iv a5.2.1) S (wG 26 true 101 rfl rfl rfl aa) (.inl rfl) rfl rfl (lb rfl) fun a S => ?_
 refine sBin _ S (wG 26 true 101 rfl rfl rfl aa) rfl rfl rfl (bEq _ _ _ _ .i64 a5.2.1 1) rfl (lb rfl) fun a S => ?_
 refine sPickT (.bool (a5.2.1 == 1)) S (wN rfl) rfl rfl aa rfl rfl (lb rfl) fun a S => ?_
 refine sM S fun a S => ?_
 rcases iS h with ⟨a7, h⟩ | ⟨a7, h⟩
 rotate_left
 ·exact absurd a7 (by rw [hv_r45]; decide)
 refine sMove (.slice ag a6.1.length ah) S (wG 30 true 105 rfl rfl rfl a7) (.inl rfl) rfl rfl (lb rfl) fun a S => ?_
 refine sLoadN (p := bV) (off := 0) (T := 83) (vs := [.int .u8 4, .int .u8 0, .bool false, iv 0, iv 0]) 1 [.int .u8 4, .int .u8 0, .bool false, iv 0, iv 0] S (wG 30 true 105 rfl rfl rfl a7) rfl rfl rfl rfl rfl rfl rfl (lb rfl) fun a S => ?_
 refine sLoadN (p := bG) (off := 0) (T := 83) (vs := [.int .u8 1, .int .u8 0, .bool false, iv 0, iv 0]) 3 [.int .u8 1, .int .u8 0, .bool false, iv 0, iv 0] S (wG 30 true 105 rfl rfl rfl a7) rfl rfl rfl rfl rfl rfl rfl (lb rfl) fun a S => ?_
 have S := S.learn (fRep r_api_CellStep (.agg #[.int .u8 4, .int .u8 0, .bool false, iv 0, iv 0]) (api_CellStep.mk 4 (api_Stitch.mk 0 false 0 0))) rfl
 refine sLit (r := r_api_CellStep) (T := 83) (xs := [(api_CellStep.mk 4 (api_Stitch.mk 0 false 0 0)), (api_CellStep.mk 1 (api_Stitch.mk 0 false 0 0))]) [(0, .agg #[.int .u8 4, .int .u8 0, .bool false, iv 0, iv 0]), (1, .agg #[.int .u8 1, .int .u8 0, .bool false, iv 0, iv 0])] 2 [.agg #[.int .u8 4, .int .u8 0, .bool false, iv 0, iv 0], .agg #[.int .u8 1, .int .u8 0, .bool false, iv 0, iv 0]] [.int .u8 4, .int .u8 0, .bool false, iv 0, iv 0, .int .u8 1, .int .u8 0, .bool false, iv 0, iv 0] (.agg #[.int .u8 0, .int .u8 0, .bool false, iv 0, iv 0]) 32 S (wG 30 true 105 rfl rfl rfl a7) rfl rfl Try.underlying48 rfl (by decide) (by decide) (by kernel_rfl) rfl (fun E1 w1 hE => All.cons (r_api_CellStep.mono hE (S.mem.know (i := 0) (e := fRep r_api_CellStep (.agg #[.int .u8 4, .int .u8 0, .bool false, iv 0, iv 0]) (api_CellStep.mk 4 (api_Stitch.mk 0 false 0 0))) rfl)) (All.cons (r_api_CellStep.mono hE (S.mem.know (i := 2) (e := fRep r_api_CellStep (.agg #[.int .u8 1, .int .u8 0, .bool false, iv 0, iv 0]) (api_CellStep.mk 1 (api_Stitch.mk 0 false 0 0))) rfl)) (All.nil _ _ _))) rfl rfl (lb rfl) fun a w az aA S => ?_
 obtain ⟨aL, aO, h⟩ := bS h
 have hv_r108 : aL = true := Option.some.inj (aO.symm.trans (by rw [hv_r61]; exact kc_raddlelaw46_alive_14))
 have S1 := S.mem
 have S1 := S1.shutR (r := r_api_CellStep) (T := 83) (v := .slice az [(api_CellStep.mk 4 (api_Stitch.mk 0 false 0 0)), (api_CellStep.mk 1 (api_Stitch.mk 0 false 0 0))].length aA) (xs := [(api_CellStep.mk 4 (api_Stitch.mk 0 false 0 0)), (api_CellStep.mk 1 (api_Stitch.mk 0 false 0 0))]) 0 rfl
 refine sCallQ (X := Unit) (f := 29) (vs := [.slice ag a6.1.length ah, .slice az [(api_CellStep.mk 4 (api_Stitch.mk 0 false 0 0)), (api_CellStep.mk 1 (api_Stitch.mk 0 false 0 0))].length aA]) (val := fun _ => .bool aL) S (wG 30 true 105 rfl rfl rfl a7) rfl callee29 rfl (S1.quiet [8, 0] rfl) (fun E1 w1 S1 => c_raddleref46_Same E1 w1 a6.1 (.slice ag a6.1.length ah) [(api_CellStep.mk 4 (api_Stitch.mk 0 false 0 0)), (api_CellStep.mk 1 (api_Stitch.mk 0 false 0 0))] (.slice az [(api_CellStep.mk 4 (api_Stitch.mk 0 false 0 0)), (api_CellStep.mk 1 (api_Stitch.mk 0 false 0 0))].length aA) aL aO S1) rfl (lb rfl) fun _ a w S => ?_
 refine sPickT (.bool aL) S (wN rfl) rfl rfl a7 rfl rfl (lb rfl) fun a S => ?_
 refine sM S fun a S => ?_
 rcases iS h with ⟨ab, h⟩ | ⟨ab, h⟩
 rotate_left
 ·exact absurd ab (by rw [hv_r108]; decide)
 refine sMove (iv a6.2.1) S (wG 37 true 112 rfl rfl rfl ab) (.inl rfl) rfl rfl (lb rfl) fun a S => ?_
 refine sBin _ S (wG 37 true 112 rfl rfl rfl ab) rfl rfl rfl (bEq _ _ _ _ .i64 a6.2.1 1) rfl (lb rfl) fun a S => ?_
 refine sPickT (.bool (a6.2.1 == 1)) S (wN rfl) rfl rfl ab rfl rfl (lb rfl) fun a S => ?_
 refine sM S fun a S => ?_
 rcases iS h with ⟨ac, h⟩ | ⟨ac, h⟩
 rotate_left
 ·exact absurd ac (by rw [hv_r61]; decide)
 refine sMove (iv a9.1) S (wG 41 true 116 rfl rfl rfl ac) (.inl rfl) rfl rfl (lb rfl) fun a S => ?_
 refine sBin _ S (wG 41 true 116 rfl rfl rfl ac) rfl rfl rfl (bEq _ _ _ _ .i64 a9.1 3) rfl (lb rfl) fun a S => ?_
 refine sPickT (.bool (a9.1 == 3)) S (wN rfl) rfl rfl ac rfl rfl (lb rfl) fun a S => ?_
 refine sN S fun a S => ?_
 exact lT (⟨a9.1 == 3, Option.some.inj h, S.fix [] [] (by decide) rfl rfl rfl⟩)
def K_raddlelaw46_alive  : Option Bool :=
 Option.bind (K_raddlelaw46_cloth (⟨#[46, 120, 10]⟩ : ByteArray)) fun r3 =>
 Option.bind (K_raddlelaw46_cloth (⟨#[120, 46, 10]⟩ : ByteArray)) fun r10 =>
 Option.bind (K_compare_Cells r3 r10) fun r17 =>
 Option.bind (K_compare_Nearest r3 r10 0) fun r30 =>
 Option.bind (K_raddlelaw46_cells (⟨#[107, 32, 112, 32, 107]⟩ : ByteArray)) fun r35 =>
 Option.bind (K_raddlelaw46_cells (⟨#[107, 32, 121, 111, 32, 107]⟩ : ByteArray)) fun r40 =>
 Option.bind (K_compare_Edits r35 r40) fun r45 =>
 Option.bind (K_raddlelaw46_cells (⟨#[107, 32, 112]⟩ : ByteArray)) fun r51 =>
 Option.bind (K_raddlelaw46_cells (⟨#[112]⟩ : ByteArray)) fun r56 =>
 Option.bind (K_compare_Edits r51 r56) fun r61 =>
 Option.bind (K_raddlelaw46_knit (⟨#[115, 116, 97, 114, 116, 32, 49, 10, 102, 114, 111, 110, 116, 32, 107, 10]⟩ : ByteArray)) fun r67 =>
 Option.bind (K_raddlelaw46_knit (⟨#[115, 116, 97, 114, 116, 32, 49, 10, 102, 114, 111, 110, 116, 32, 112, 10, 98, 97, 99, 107, 32, 107, 10]⟩ : ByteArray)) fun r74 =>
 Option.bind (K_compare_Charts r67 r74) fun r81 =>
 if r17.2 == 0 then
  if r30.2.2.2 == 0 then
   if r45.2.2 == 0 then
    if r61.2.2 == 0 then
     Option.bind (α := Bool) (
      if r81.2 == 0 then
       if r17.1 == 2 then
        if r30.1 == 0 then
         if r30.2.1 == 0 then
          if ((r30.2.2.1.X == 1) && ((r30.2.2.1.Y == 0) && true)) then
           Option.bind (K_raddleref46_Same r45.1 [(api_CellStep.mk 1 (api_Stitch.mk 0 false 0 0)), (api_CellStep.mk 2 (api_Stitch.mk 2 false 0 0)), (api_CellStep.mk 1 (api_Stitch.mk 0 false 0 0))]) fun r102 =>
           if r102 then
            if r45.2.1 == 1 then
             Option.bind (K_raddleref46_Same r61.1 [(api_CellStep.mk 4 (api_Stitch.mk 0 false 0 0)), (api_CellStep.mk 1 (api_Stitch.mk 0 false 0 0))]) fun r108 =>
             if r108 then
              if r61.2.1 == 1 then
               some (r81.1 == 3)
              else
               none
             else
              none
            else
             none
           else
            none
          else
           none
         else
          none
        else
         none
       else
        none
      else
       some false) fun o92 =>
     some o92
    else
     none
   else
    none
  else
   none
 else
  none
theorem m_F_raddlelaw46_alive  : Le (K_raddlelaw46_alive) (F_raddlelaw46_alive) := by
 unfold K_raddlelaw46_alive F_raddlelaw46_alive
 with_reducible repeat' (first | exact m_F_raddlelaw46_cloth _ | exact m_F_compare_Cells _ _ | exact m_F_compare_Nearest _ _ _ | exact m_F_raddlelaw46_cells _ | exact m_F_compare_Edits _ _ | exact m_F_raddlelaw46_knit _ | exact m_F_compare_Charts _ _ | exact m_F_raddleref46_Same _ _ | exact Le.rfl _ | refine Le.loop _ ?_ | refine Le.bind ?_ ?_ | refine Le.ite ?_ ?_ | refine Le.sum ?_ ?_ | refine Le.prod ?_ | intro _ | exact Empty.elim (by assumption) | dsimp only)
set_option maxRecDepth 1000000 in
theorem k_raddlelaw46_alive : F_raddlelaw46_alive = some true := m_F_raddlelaw46_alive _ (by kernel_rfl)
theorem w64_of {x : Int} (h0 : -9223372036854775808 ≤ x) (h1 : x ≤ 9223372036854775807) : w64 x = x := w64_id ⟨h0, h1⟩
theorem w64_succ {k : Nat} (h : k < 9223372036854775807) : w64 ((k : Int) + 1) = ((k + 1 : Nat) : Int) := by
 rw [w64_of (by omega) (by omega)]; omega
theorem idxO_nat {α : Type} {xs : List α} {k : Nat} (h : k < xs.length) : idxO xs (k : Int) = some xs[k] := by
 simp [idxO, h]
theorem setO_nat {α : Type} {xs : List α} {k : Nat} {y : α} (h : k < xs.length) : setO xs (k : Int) y = some (xs.set k y) := by
 simp [setO, h]
theorem appO_of {α : Type} {xs ys : List α} (h : xs.length + ys.length ≤ 68719476736) : appO xs ys = some (xs ++ ys) := by
 simp [appO, lim, h]
theorem makeO_of {α : Type} {n : Int} {z : α} {k : Nat} (h : n = (k : Int)) (hk : k ≤ 68719476736) : makeO n z = some (List.replicate k z) := by
 subst h; simp [makeO, lim, hk]
theorem sliceO_of {α : Type} {xs : List α} {lo hi : Int} {l k : Nat} (h1 : lo = l) (h2 : hi = k) (h3 : l ≤ k) (h4 : k ≤ xs.length) : sliceO xs lo hi = some ((xs.take k).drop l) := by
 subst h1 h2; simp [sliceO, h3, h4]
theorem loop_ix {τ : Type} {B : Int → Option (Int ⊕ τ)} (n : Nat) (I : Nat → Prop) (Pt : τ → Prop) (h0 : I 0)
 (step : ∀ k, k < n → I k → (B (k : Int) = some (.inl ((k + 1 : Nat) : Int)) ∧ I (k + 1)) ∨ (∃ t, B (k : Int) = some (.inr t) ∧ Pt t))
 (last : I n → ∃ t, B (n : Int) = some (.inr t) ∧ Pt t) : ∃ t, whileO B 0 = some t ∧ Pt t := by
 refine whileO_inv (fun s => ∃ k : Nat, k ≤ n ∧ s = (k : Int) ∧ I k) (fun s => ((n : Int) - s).toNat) Pt ⟨0, Nat.zero_le _, rfl, h0⟩ ?_
 rintro i ⟨k, hk, rfl, hI⟩
 by_cases hlt : k < n
 ·rcases step k hlt hI with ⟨h1, h2⟩ | h
  ·exact .inl ⟨_, h1, ⟨k + 1, hlt, rfl, h2⟩, by simp; omega⟩
  ·exact .inr h
 ·obtain rfl : k = n := by omega
  exact .inr (last hI)
theorem loop_all {τ : Type} {B : Int → Option (Int ⊕ τ)} (n : Nat) (p : Nat → Bool) (good bad : τ)
 (h : ∀ k, k < n → B (k : Int) = some (if p k = true then .inl ((k + 1 : Nat) : Int) else .inr bad)) (hn : B (n : Int) = some (.inr good)) :
 whileO B 0 = some (if (List.range n).all p = true then good else bad) := by
 have key : ∃ t, whileO B 0 = some t ∧ t = if (List.range n).all p = true then good else bad := by
  refine loop_ix n (fun k => ∀ j, j < k → p j = true) _ (fun j h => absurd h (Nat.not_lt_zero j)) ?_ ?_
  ·intro k hk hI
   cases hf : p k with
   | true =>
    refine .inl ⟨by rw [h k hk, if_pos hf], fun j hj => ?_⟩
    by_cases e : j = k
    ·rw [e]; exact hf
    ·exact hI j (by omega)
   | false =>
    refine .inr ⟨bad, by rw [h k hk, hf]; simp, ?_⟩
    rw [if_neg]
    intro hc
    rw [List.all_eq_true] at hc
    have := hc k (List.mem_range.2 hk)
    rw [hf] at this; cases this
  ·intro hI
   refine ⟨good, hn, ?_⟩
   rw [if_pos]
   rw [List.all_eq_true]
   exact fun j hj => hI j (List.mem_range.1 hj)
 obtain ⟨t, h1, rfl⟩ := key
 exact h1
theorem map_cong {α : Type} {n : Nat} {f g : Nat → α} (h : ∀ k, k < n → f k = g k) : (List.range n).map f = (List.range n).map g :=
 List.map_congr_left fun k hk => h k (List.mem_range.1 hk)
theorem dT {p : Prop} [Decidable p] (h : p) : decide p = true := decide_eq_true h
theorem dF {p : Prop} [Decidable p] (h : ¬ p) : decide p = false := decide_eq_false h
theorem bT {a b : Int} (h : a = b) : (a == b) = true := by simp [h]
theorem bF {a b : Int} (h : ¬ a = b) : (a == b) = false := by simp [h]
theorem nT {a b : Int} (h : ¬ a = b) : (a != b) = true := by simp [h]
theorem nF {a b : Int} (h : a = b) : (a != b) = false := by simp [h]
def Fill {α : Type} (n : Nat) (f : Nat → α) (k : Nat) (s : List α) : Prop := s.length = n ∧ ∀ j, j < k → s[j]? = some (f j)
theorem Fill.zero {α : Type} (n : Nat) (f : Nat → α) (z : α) : Fill n f 0 (List.replicate n z) := ⟨by simp, fun j hj => absurd hj (Nat.not_lt_zero j)⟩
theorem Fill.set {α : Type} {n : Nat} {f : Nat → α} {k : Nat} {s : List α} (h : Fill n f k s) (hk : k < n) : Fill n f (k + 1) (s.set k (f k)) := by
 refine ⟨by simp [h.1], fun j hj => ?_⟩
 by_cases e : j = k
 ·subst e; simp [h.1, hk]
 ·rw [List.getElem?_set_ne (fun h => e h.symm)]; exact h.2 j (by omega)
theorem Fill.all {α : Type} {n : Nat} {f : Nat → α} {s : List α} (h : Fill n f n s) : s = (List.range n).map f := by
 apply List.ext_getElem?
 intro j
 by_cases hj : j < n
 ·rw [h.2 j hj]; simp [hj]
 ·rw [List.getElem?_eq_none (by rw [h.1]; omega), List.getElem?_eq_none (by simp; omega)]
theorem sliceO_all {α : Type} {xs : List α} {k : Nat} (h : k ≤ xs.length) : sliceO xs (k : Int) (xs.length : Int) = some (xs.drop k) := by
 rw [sliceO_of (l := k) (k := xs.length) rfl rfl h (Nat.le_refl _), List.take_length]
theorem loop_seq {S τ : Type} {B : S → Option (S ⊕ τ)} (c : Nat → S) (n : Nat) {t : τ} (h : ∀ k, k < n → B (c k) = some (.inl (c (k + 1)))) (hn : B (c n) = some (.inr t)) : whileO B (c 0) = some t := by
 have key : ∀ j k, j + k = n → whileO B (c k) = some t := by
  intro j
  induction j with
  | zero =>
   intro k hk
   obtain rfl : k = n := by omega
   exact whileO_done hn
  | succ j ih =>
   intro k hk
   rw [whileO_step (h k (by omega))]
   exact ih _ (by omega)
 exact key n 0 (by omega)
theorem loop_seqf {S τ : Type} {B : S → Option (S ⊕ τ)} (c : Nat → S) (n : Nat) (g : Nat → Bool) {bad t : τ} (h : ∀ k, k < n → (∀ j, j < k → g j = true) → B (c k) = some (if g k = true then .inl (c (k + 1)) else .inr bad)) (hn : (∀ j, j < n → g j = true) → B (c n) = some (.inr t)) :
 whileO B (c 0) = some (if (List.range n).all g = true then t else bad) := by
 have key : ∀ j k, j + k = n → (∀ i, i < k → g i = true) → whileO B (c k) = some (if (List.range n).all g = true then t else bad) := by
  intro j
  induction j with
  | zero =>
   intro k hk hI
   obtain rfl : k = n := by omega
   rw [whileO_done (hn hI), if_pos (List.all_eq_true.2 fun i hi => hI i (List.mem_range.1 hi))]
  | succ j ih =>
   intro k hk hI
   have hb := h k (by omega) hI
   cases hg : g k with
   | true =>
    rw [hg, if_pos rfl] at hb
    rw [whileO_step hb]
    refine ih _ (by omega) fun i hi => ?_
    by_cases e : i = k
    ·rw [e]; exact hg
    ·exact hI i (by omega)
   | false =>
    rw [hg, if_neg (by decide)] at hb
    rw [whileO_done hb, if_neg]
    intro ha
    have := List.all_eq_true.1 ha k (List.mem_range.2 (by omega))
    rw [hg] at this; cases this
 exact key n 0 (by omega) fun i hi => absurd hi (Nat.not_lt_zero i)
theorem loop_list {α τ : Type} {B : Int → Option (Int ⊕ τ)} (l : List α) (f : α → Option τ) (good : τ)
 (h : ∀ k (hk : k < l.length), B (k : Int) = some (match f l[k] with | none => .inl ((k + 1 : Nat) : Int) | some t => .inr t)) (hn : B (l.length : Int) = some (.inr good)) : whileO B 0 = some ((l.findSome? f).getD good) := by
 have key : ∀ j k, j + k = l.length → whileO B (k : Int) = some (((l.drop k).findSome? f).getD good) := by
  intro j
  induction j with
  | zero =>
   intro k hk
   obtain rfl : k = l.length := by omega
   rw [whileO_done hn, List.drop_length]
   rfl
  | succ j ih =>
   intro k hk
   have hk2 : k < l.length := by omega
   have hb := h k hk2
   rw [List.drop_eq_getElem_cons hk2, List.findSome?_cons]
   cases hf : f l[k] with
   | none =>
    rw [hf] at hb
    rw [whileO_step hb]
    exact ih _ (by omega)
   | some t =>
    rw [hf] at hb
    rw [whileO_done hb]
    rfl
 have := key l.length 0 (by omega)
 simpa using this
theorem loop_eql {α τ : Type} [DecidableEq α] {B : Int → Option (Int ⊕ τ)} (a b : List α) (hl : a.length = b.length) (good bad : τ)
 (h : ∀ k (hk : k < a.length), B (k : Int) = some (if a[k] = b[k]'(by omega) then .inl ((k + 1 : Nat) : Int) else .inr bad)) (hn : B (a.length : Int) = some (.inr good)) : whileO B 0 = some (if a = b then good else bad) := by
 have := loop_seqf (B := B) (fun k => (k : Int)) a.length (fun k => decide (a[k]? = b[k]?)) (bad := bad) (t := good) (fun k hk _ => by
  rw [h k hk]
  by_cases e : a[k] = b[k]'(by omega)
  ·rw [if_pos e, if_pos]; exact decide_eq_true (by rw [List.getElem?_eq_getElem hk, List.getElem?_eq_getElem (by omega), e])
  ·rw [if_neg e, if_neg]; intro hc; have := of_decide_eq_true hc; rw [List.getElem?_eq_getElem hk, List.getElem?_eq_getElem (by omega)] at this; exact e (Option.some.inj this)) (fun _ => hn)
 have h0 : (((0 : Nat) : Int)) = 0 := rfl
 rw [h0] at this
 rw [this]
 congr 1
 by_cases e : a = b
 ·subst e; rw [if_pos rfl, if_pos]; simp
 ·rw [if_neg e, if_neg]
  intro hc
  refine e (List.ext_getElem? fun j => ?_)
  by_cases hj : j < a.length
  ·exact of_decide_eq_true (List.all_eq_true.1 hc j (List.mem_range.2 hj))
  ·rw [List.getElem?_eq_none (by omega), List.getElem?_eq_none (by omega)]
theorem wadd {a b : Nat} (h : a + b ≤ 9223372036854775807) : w64 ((a : Int) + (b : Int)) = ((a + b : Nat) : Int) := by
 rw [← Int.natCast_add]; exact w64_of (by omega) (by omega)
theorem loop_allL {α τ : Type} {B : Int → Option (Int ⊕ τ)} (l : List α) (p : α → Bool) (good bad : τ)
 (h : ∀ k (hk : k < l.length), B (k : Int) = some (if p l[k] = true then .inl ((k + 1 : Nat) : Int) else .inr bad)) (hn : B (l.length : Int) = some (.inr good)) : whileO B 0 = some (if l.all p = true then good else bad) := by
 have h1 := loop_list l (fun x => if p x = true then none else some bad) good (fun k hk => by
  rw [h k hk]
  by_cases hp : p l[k] = true
  ·rw [if_pos hp, if_pos hp]
  ·rw [if_neg hp, if_neg hp]) hn
 rw [h1]
 congr 1
 clear h h1 hn
 induction l with
 | nil => rfl
 | cons x l ih =>
  rw [List.findSome?_cons, List.all_cons]
  cases hp : p x with
  | true => rw [if_pos rfl, Bool.true_and]; exact ih
  | false => rw [if_neg (by decide), Bool.false_and, if_neg (by decide)]; rfl
section
variable {α : Type} (al : α → Nat) (bo : α → α → Nat)
def sumA : List α → Nat
 | [] => 0
 | y :: b => sumA b + al y
def rowD (f : List α → Nat) (x : α) : List α → Nat
 | [] => f [] + al x
 | y :: b => min (min (f (y :: b) + al x) (rowD f x b + al y)) (f b + bo x y)
def wed : List α → List α → Nat
 | [] => sumA al
 | x :: a => rowD al bo (wed a) x
end
section
variable {α : Type} {al : α → Nat} {bo : α → α → Nat}
theorem wed_cn (x : α) (a : List α) : wed al bo (x :: a) [] = wed al bo a [] + al x := rfl
theorem wed_cc (x : α) (a : List α) (y : α) (b : List α) : wed al bo (x :: a) (y :: b) = min (min (wed al bo a (y :: b) + al x) (wed al bo (x :: a) b + al y)) (wed al bo a b + bo x y) := rfl
theorem wed_drop (x : α) (a b : List α) : wed al bo (x :: a) b ≤ wed al bo a b + al x := by
 cases b with
 | nil => exact Nat.le_refl _
 | cons y b => rw [wed_cc]; exact Nat.le_trans (Nat.min_le_left _ _) (Nat.min_le_left _ _)
theorem wed_add (a : List α) (y : α) (b : List α) : wed al bo a (y :: b) ≤ wed al bo a b + al y := by
 cases a with
 | nil => exact Nat.le_refl _
 | cons x a => rw [wed_cc]; exact Nat.le_trans (Nat.min_le_left _ _) (Nat.min_le_right _ _)
theorem wed_both (x : α) (a : List α) (y : α) (b : List α) : wed al bo (x :: a) (y :: b) ≤ wed al bo a b + bo x y := by
 rw [wed_cc]; exact Nat.min_le_right _ _
theorem wed_sum (a b : List α) : wed al bo a b ≤ sumA al a + sumA al b := by
 induction a with
 | nil => simp only [sumA, Nat.zero_add]; exact Nat.le_refl _
 | cons x a ih =>
  have := wed_drop (al := al) (bo := bo) x a b
  simp only [sumA]
  omega
theorem wed_nil (a : List α) : wed al bo a [] = sumA al a := by
 induction a with
 | nil => rfl
 | cons x a ih => rw [wed_cn, ih]; rfl
theorem sumA_one (h : ∀ x, al x = 1) (b : List α) : sumA al b = b.length := by
 induction b with
 | nil => rfl
 | cons y b ih => simp only [sumA, List.length_cons, ih, h y]
theorem wed_max (h : ∀ x, al x = 1) (hb : ∀ x y, bo x y ≤ 1) : ∀ (a b : List α), wed al bo a b ≤ max a.length b.length := by
 intro a
 induction a with
 | nil =>
  intro b
  show sumA al b ≤ _
  rw [sumA_one h]
  exact Nat.le_max_right _ _
 | cons x a ih =>
  intro b
  cases b with
  | nil =>
   rw [wed_nil, sumA_one h]
   exact Nat.le_max_left _ _
  | cons y b =>
   have i1 := wed_both (al := al) (bo := bo) x a y b
   have i2 := ih b
   have i3 := hb x y
   simp only [List.length_cons]
   omega
end
instance decSt : DecidableEq api_Stitch := fun a b => decidable_of_iff (a.Kind = b.Kind ∧ a.Purl = b.Purl ∧ a.A = b.A ∧ a.B = b.B) (by cases a; cases b; simp)
def al1 (_ : api_Stitch) : Nat := 1
def bo1 (x y : api_Stitch) : Nat := if x = y then 0 else 1
abbrev D1 : List api_Stitch → List api_Stitch → Nat := wed al1 bo1
theorem bo1_eq {x y : api_Stitch} (h : x = y) : bo1 x y = 0 := if_pos h
theorem bo1_ne {x y : api_Stitch} (h : ¬ x = y) : bo1 x y = 1 := if_neg h
theorem bo1_le (x y : api_Stitch) : bo1 x y ≤ 1 := by unfold bo1; split <;> omega
theorem D1_max (a b : List api_Stitch) : D1 a b ≤ max a.length b.length := wed_max (fun _ => rfl) bo1_le a b
def z0 : api_Stitch := ⟨0, false, 0, 0⟩
def wk : List api_CellStep → List api_Stitch → Option (List api_Stitch × List api_CellStep)
 | [], [] => some ([], [])
 | [], _ :: _ => none
 | s :: l, rest =>
  if s.Kind = 3 then (wk l rest).map fun r => (s.S :: r.1, ⟨4, z0⟩ :: r.2)
  else match rest with
   | [] => none
   | c :: rest =>
    if s.Kind = 1 then (wk l rest).map fun r => (c :: r.1, s :: r.2)
    else if s.Kind = 2 then (if s.S = c then none else (wk l rest).map fun r => (s.S :: r.1, ⟨2, c⟩ :: r.2))
    else (wk l rest).map fun r => (r.1, ⟨3, c⟩ :: r.2)
theorem wk_add {s : api_CellStep} (h : s.Kind = 3) (l : List api_CellStep) (rest : List api_Stitch) : wk (s :: l) rest = (wk l rest).map fun r => (s.S :: r.1, ⟨4, z0⟩ :: r.2) := by
 cases rest <;> simp only [wk, h, if_true]
theorem wk_none {s : api_CellStep} (h : ¬ s.Kind = 3) (l : List api_CellStep) : wk (s :: l) [] = none := by
 simp only [wk, h, if_false]
theorem wk_keep {s : api_CellStep} (h : s.Kind = 1) (l : List api_CellStep) (c : api_Stitch) (rest : List api_Stitch) : wk (s :: l) (c :: rest) = (wk l rest).map fun r => (c :: r.1, s :: r.2) := by
 have h3 : ¬ s.Kind = 3 := by omega
 simp only [wk, if_neg h3, if_pos h]
theorem wk_change {s : api_CellStep} (h : s.Kind = 2) (l : List api_CellStep) (c : api_Stitch) (rest : List api_Stitch) : wk (s :: l) (c :: rest) = if s.S = c then none else (wk l rest).map fun r => (s.S :: r.1, ⟨2, c⟩ :: r.2) := by
 have h3 : ¬ s.Kind = 3 := by omega
 have h1 : ¬ s.Kind = 1 := by omega
 simp only [wk, if_neg h3, if_neg h1, if_pos h]
theorem wk_drop {s : api_CellStep} (h : s.Kind = 4) (l : List api_CellStep) (c : api_Stitch) (rest : List api_Stitch) : wk (s :: l) (c :: rest) = (wk l rest).map fun r => (r.1, ⟨3, c⟩ :: r.2) := by
 have h3 : ¬ s.Kind = 3 := by omega
 have h1 : ¬ s.Kind = 1 := by omega
 have h2 : ¬ s.Kind = 2 := by omega
 simp only [wk, if_neg h3, if_neg h1, if_neg h2]
def costS : List api_CellStep → Nat
 | [] => 0
 | s :: l => costS l + if s.Kind = 1 then 0 else 1
def kindOk (s : api_CellStep) : Prop := s.Kind = 1 ∨ s.Kind = 2 ∨ s.Kind = 3 ∨ s.Kind = 4
theorem wk_cost (l : List api_CellStep) : ∀ (a d : List api_Stitch) (u : List api_CellStep), (∀ s, s ∈ l → kindOk s) → wk l a = some (d, u) → D1 a d ≤ costS l := by
 induction l with
 | nil =>
  intro a d u _ h
  cases a with
  | nil => cases h; exact Nat.le_refl _
  | cons c a => cases h
 | cons s l ih =>
  intro a d u hk h
  have hk2 : ∀ s, s ∈ l → kindOk s := fun s hs => hk s (List.mem_cons_of_mem _ hs)
  simp only [costS]
  by_cases k3 : s.Kind = 3
  ·rw [wk_add k3, Option.map_eq_some_iff] at h
   obtain ⟨r, hr, e⟩ := h
   cases e
   have i1 := ih a r.1 r.2 hk2 hr
   have i2 : D1 a (s.S :: r.1) ≤ D1 a r.1 + 1 := wed_add (al := al1) (bo := bo1) a s.S r.1
   rw [if_neg (by omega)]
   omega
  cases a with
  | nil => rw [wk_none k3] at h; cases h
  | cons c a =>
   rcases hk s (List.mem_cons_self ..) with k | k | k | k
   ·rw [wk_keep k, Option.map_eq_some_iff] at h
    obtain ⟨r, hr, e⟩ := h
    cases e
    have i1 := ih a r.1 r.2 hk2 hr
    have i2 : D1 (c :: a) (c :: r.1) ≤ D1 a r.1 + bo1 c c := wed_both (al := al1) (bo := bo1) c a c r.1
    rw [bo1_eq rfl] at i2
    rw [if_pos k]
    omega
   ·rw [wk_change k] at h
    by_cases e : s.S = c
    ·rw [if_pos e] at h; cases h
    rw [if_neg e, Option.map_eq_some_iff] at h
    obtain ⟨r, hr, e⟩ := h
    cases e
    have i1 := ih a r.1 r.2 hk2 hr
    have i2 : D1 (c :: a) (s.S :: r.1) ≤ D1 a r.1 + bo1 c s.S := wed_both (al := al1) (bo := bo1) c a s.S r.1
    have i3 := bo1_le c s.S
    rw [if_neg (by omega)]
    omega
   ·exact absurd k k3
   ·rw [wk_drop k, Option.map_eq_some_iff] at h
    obtain ⟨r, hr, e⟩ := h
    cases e
    have i1 := ih a r.1 r.2 hk2 hr
    have i2 : D1 (c :: a) r.1 ≤ D1 a r.1 + 1 := wed_drop (al := al1) (bo := bo1) c a r.1
    rw [if_neg (by omega)]
    omega
theorem wk_back (l : List api_CellStep) : ∀ (a d : List api_Stitch) (u : List api_CellStep), (∀ s, s ∈ l → kindOk s) → wk l a = some (d, u) → (∃ l', wk u d = some (a, l')) ∧ costS u = costS l ∧ u.length = l.length ∧ ∀ s, s ∈ u → (s ∈ l ∧ s.Kind = 1) ∨ s = ⟨4, z0⟩ ∨ ∃ c, c ∈ a ∧ (s = ⟨2, c⟩ ∨ s = ⟨3, c⟩) := by
 induction l with
 | nil =>
  intro a d u _ h
  cases a with
  | nil => cases h; exact ⟨⟨[], rfl⟩, rfl, rfl, fun s hs => by cases hs⟩
  | cons c a => cases h
 | cons s l ih =>
  intro a d u hk h
  have hk2 : ∀ s, s ∈ l → kindOk s := fun s hs => hk s (List.mem_cons_of_mem _ hs)
  have lift : ∀ {r : List api_Stitch × List api_CellStep} {c : api_Stitch} {a : List api_Stitch}, (∀ s', s' ∈ r.2 → (s' ∈ l ∧ s'.Kind = 1) ∨ s' = ⟨4, z0⟩ ∨ ∃ c, c ∈ a ∧ (s' = ⟨2, c⟩ ∨ s' = ⟨3, c⟩)) → ∀ s', s' ∈ r.2 → (s' ∈ s :: l ∧ s'.Kind = 1) ∨ s' = ⟨4, z0⟩ ∨ ∃ c', c' ∈ c :: a ∧ (s' = ⟨2, c'⟩ ∨ s' = ⟨3, c'⟩) := by
   intro r c a h4 s' hs
   rcases h4 s' hs with ⟨h1, h2⟩ | h1 | ⟨c', h1, h2⟩
   ·exact .inl ⟨List.mem_cons_of_mem _ h1, h2⟩
   ·exact .inr (.inl h1)
   ·exact .inr (.inr ⟨c', List.mem_cons_of_mem _ h1, h2⟩)
  by_cases k3 : s.Kind = 3
  ·rw [wk_add k3, Option.map_eq_some_iff] at h
   obtain ⟨r, hr, e⟩ := h
   cases e
   obtain ⟨⟨l', h1⟩, h2, h3, h4⟩ := ih a r.1 r.2 hk2 hr
   refine ⟨⟨⟨3, s.S⟩ :: l', ?_⟩, ?_, ?_, ?_⟩
   ·rw [wk_drop rfl, h1]; rfl
   ·simp only [costS, h2]
    rw [if_neg (show ¬ (4 : Int) = 1 by decide), if_neg (by omega)]
   ·simp only [List.length_cons, h3]
   ·intro s' hs
    rcases List.mem_cons.1 hs with rfl | hs
    ·exact .inr (.inl rfl)
    rcases h4 s' hs with ⟨q1, q2⟩ | q1 | q1
    ·exact .inl ⟨List.mem_cons_of_mem _ q1, q2⟩
    ·exact .inr (.inl q1)
    ·exact .inr (.inr q1)
  cases a with
  | nil => rw [wk_none k3] at h; cases h
  | cons c a =>
   rcases hk s (List.mem_cons_self ..) with k | k | k | k
   ·rw [wk_keep k, Option.map_eq_some_iff] at h
    obtain ⟨r, hr, e⟩ := h
    cases e
    obtain ⟨⟨l', h1⟩, h2, h3, h4⟩ := ih a r.1 r.2 hk2 hr
    refine ⟨⟨s :: l', ?_⟩, ?_, ?_, ?_⟩
    ·rw [wk_keep k, h1]; rfl
    ·simp only [costS, h2]
    ·simp only [List.length_cons, h3]
    ·intro s' hs
     rcases List.mem_cons.1 hs with rfl | hs
     ·exact .inl ⟨List.mem_cons_self .., k⟩
     ·exact lift h4 s' hs
   ·rw [wk_change k] at h
    by_cases e : s.S = c
    ·rw [if_pos e] at h; cases h
    rw [if_neg e, Option.map_eq_some_iff] at h
    obtain ⟨r, hr, e2⟩ := h
    cases e2
    obtain ⟨⟨l', h1⟩, h2, h3, h4⟩ := ih a r.1 r.2 hk2 hr
    refine ⟨⟨⟨2, s.S⟩ :: l', ?_⟩, ?_, ?_, ?_⟩
    ·rw [wk_change rfl, if_neg (fun q => e q.symm), h1]; rfl
    ·simp only [costS, h2]
     rw [if_neg (show ¬ (2 : Int) = 1 by decide), if_neg (by omega)]
    ·simp only [List.length_cons, h3]
    ·intro s' hs
     rcases List.mem_cons.1 hs with rfl | hs
     ·exact .inr (.inr ⟨c, List.mem_cons_self .., .inl rfl⟩)
     ·exact lift h4 s' hs
   ·exact absurd k k3
   ·rw [wk_drop k, Option.map_eq_some_iff] at h
    obtain ⟨r, hr, e⟩ := h
    cases e
    obtain ⟨⟨l', h1⟩, h2, h3, h4⟩ := ih a r.1 r.2 hk2 hr
    refine ⟨⟨⟨4, z0⟩ :: l', ?_⟩, ?_, ?_, ?_⟩
    ·rw [wk_add rfl, h1]; rfl
    ·simp only [costS, h2]
     rw [if_neg (show ¬ (3 : Int) = 1 by decide), if_neg (by omega)]
    ·simp only [List.length_cons, h3]
    ·intro s' hs
     rcases List.mem_cons.1 hs with rfl | hs
     ·exact .inr (.inr ⟨c, List.mem_cons_self .., .inr rfl⟩)
     ·exact lift h4 s' hs
def eds : Nat → List api_Stitch → List api_Stitch → List api_CellStep
 | 0, _, _ => []
 | _ + 1, [], [] => []
 | n + 1, [], y :: b => ⟨3, y⟩ :: eds n [] b
 | n + 1, x :: a, [] => ⟨4, z0⟩ :: eds n a []
 | n + 1, x :: a, y :: b =>
  if x = y ∧ D1 (x :: a) (y :: b) = D1 a b then ⟨1, z0⟩ :: eds n a b
  else if ¬ x = y ∧ D1 (x :: a) (y :: b) = 1 + D1 a b then ⟨2, y⟩ :: eds n a b
  else if D1 (x :: a) (y :: b) = 1 + D1 a (y :: b) then ⟨4, z0⟩ :: eds n a (y :: b)
  else ⟨3, y⟩ :: eds n (x :: a) b
theorem eds_ok : ∀ (n : Nat) (a b : List api_Stitch), a.length + b.length ≤ n → (∃ u, wk (eds n a b) a = some (b, u)) ∧ costS (eds n a b) = D1 a b ∧ (eds n a b).length ≤ a.length + b.length ∧ ∀ s, s ∈ eds n a b → s = ⟨1, z0⟩ ∨ s = ⟨4, z0⟩ ∨ ∃ y, y ∈ b ∧ (s = ⟨2, y⟩ ∨ s = ⟨3, y⟩) := by
 intro n
 induction n with
 | zero =>
  intro a b h
  obtain rfl : a = [] := List.length_eq_zero_iff.1 (by omega)
  obtain rfl : b = [] := List.length_eq_zero_iff.1 (by omega)
  exact ⟨⟨[], rfl⟩, rfl, Nat.le_refl _, fun s hs => by cases hs⟩
 | succ n ih =>
  intro a b h
  have keep : ∀ {l : List api_CellStep} {y : api_Stitch} {b : List api_Stitch}, (∀ s, s ∈ l → s = ⟨1, z0⟩ ∨ s = ⟨4, z0⟩ ∨ ∃ y, y ∈ b ∧ (s = ⟨2, y⟩ ∨ s = ⟨3, y⟩)) → ∀ s, s ∈ l → s = ⟨1, z0⟩ ∨ s = ⟨4, z0⟩ ∨ ∃ y', y' ∈ y :: b ∧ (s = ⟨2, y'⟩ ∨ s = ⟨3, y'⟩) := by
   intro l y b h4 s hs
   rcases h4 s hs with h1 | h1 | ⟨y', h1, h2⟩
   ·exact .inl h1
   ·exact .inr (.inl h1)
   ·exact .inr (.inr ⟨y', List.mem_cons_of_mem _ h1, h2⟩)
  cases a with
  | nil =>
   cases b with
   | nil => exact ⟨⟨[], rfl⟩, rfl, Nat.le_refl _, fun s hs => by cases hs⟩
   | cons y b =>
    obtain ⟨⟨u, h1⟩, h2, h3, h4⟩ := ih [] b (by simp only [List.length_cons] at h; omega)
    refine ⟨⟨⟨4, z0⟩ :: u, ?_⟩, ?_, ?_, ?_⟩
    ·rw [show eds (n + 1) [] (y :: b) = ⟨3, y⟩ :: eds n [] b from rfl, wk_add rfl, h1]; rfl
    ·rw [show eds (n + 1) [] (y :: b) = ⟨3, y⟩ :: eds n [] b from rfl]
     simp only [costS, h2]
     rfl
    ·rw [show eds (n + 1) [] (y :: b) = ⟨3, y⟩ :: eds n [] b from rfl]
     simp only [List.length_cons, List.length_nil] at h3 ⊢
     omega
    ·intro s hs
     rw [show eds (n + 1) [] (y :: b) = ⟨3, y⟩ :: eds n [] b from rfl] at hs
     rcases List.mem_cons.1 hs with rfl | hs
     ·exact .inr (.inr ⟨y, List.mem_cons_self .., .inr rfl⟩)
     ·exact keep h4 s hs
  | cons x a =>
   cases b with
   | nil =>
    obtain ⟨⟨u, h1⟩, h2, h3, h4⟩ := ih a [] (by simp only [List.length_cons] at h; omega)
    refine ⟨⟨⟨3, x⟩ :: u, ?_⟩, ?_, ?_, ?_⟩
    ·rw [show eds (n + 1) (x :: a) [] = ⟨4, z0⟩ :: eds n a [] from rfl, wk_drop rfl, h1]; rfl
    ·rw [show eds (n + 1) (x :: a) [] = ⟨4, z0⟩ :: eds n a [] from rfl]
     simp only [costS, h2]
     rfl
    ·rw [show eds (n + 1) (x :: a) [] = ⟨4, z0⟩ :: eds n a [] from rfl]
     simp only [List.length_cons, List.length_nil] at h3 ⊢
     omega
    ·intro s hs
     rw [show eds (n + 1) (x :: a) [] = ⟨4, z0⟩ :: eds n a [] from rfl] at hs
     rcases List.mem_cons.1 hs with rfl | hs
     ·exact .inr (.inl rfl)
     ·exact h4 s hs
   | cons y b =>
    have hstep : D1 (x :: a) (y :: b) = D1 a (y :: b) + 1 ∨ D1 (x :: a) (y :: b) = D1 (x :: a) b + 1 ∨ D1 (x :: a) (y :: b) = D1 a b + bo1 x y := by
     have hc := wed_cc (al := al1) (bo := bo1) x a y b
     simp only [al1] at hc
     unfold D1
     omega
    simp only [List.length_cons] at h
    simp only [eds]
    by_cases c1 : x = y ∧ D1 (x :: a) (y :: b) = D1 a b
    ·obtain ⟨⟨u, h1⟩, h2, h3, h4⟩ := ih a b (by omega)
     rw [if_pos c1]
     refine ⟨⟨⟨1, z0⟩ :: u, ?_⟩, ?_, ?_, ?_⟩
     ·rw [wk_keep rfl, h1, c1.1]; rfl
     ·simp only [costS, h2, if_true, c1.2, Nat.add_zero]
     ·simp only [List.length_cons]; omega
     ·intro s hs
      rcases List.mem_cons.1 hs with rfl | hs
      ·exact .inl rfl
      ·exact keep h4 s hs
    rw [if_neg c1]
    by_cases c2 : ¬ x = y ∧ D1 (x :: a) (y :: b) = 1 + D1 a b
    ·obtain ⟨⟨u, h1⟩, h2, h3, h4⟩ := ih a b (by omega)
     rw [if_pos c2]
     refine ⟨⟨⟨2, x⟩ :: u, ?_⟩, ?_, ?_, ?_⟩
     ·rw [wk_change rfl, if_neg (fun q => c2.1 q.symm), h1]; rfl
     ·simp only [costS, h2]
      rw [if_neg (show ¬ (2 : Int) = 1 by decide), c2.2]
      omega
     ·simp only [List.length_cons]; omega
     ·intro s hs
      rcases List.mem_cons.1 hs with rfl | hs
      ·exact .inr (.inr ⟨y, List.mem_cons_self .., .inl rfl⟩)
      ·exact keep h4 s hs
    rw [if_neg c2]
    by_cases c3 : D1 (x :: a) (y :: b) = 1 + D1 a (y :: b)
    ·obtain ⟨⟨u, h1⟩, h2, h3, h4⟩ := ih a (y :: b) (by simp only [List.length_cons]; omega)
     rw [if_pos c3]
     refine ⟨⟨⟨3, x⟩ :: u, ?_⟩, ?_, ?_, ?_⟩
     ·rw [wk_drop rfl, h1]; rfl
     ·simp only [costS, h2]
      rw [if_neg (show ¬ (4 : Int) = 1 by decide), c3]
      omega
     ·simp only [List.length_cons] at h3 ⊢; omega
     ·intro s hs
      rcases List.mem_cons.1 hs with rfl | hs
      ·exact .inr (.inl rfl)
      ·exact h4 s hs
    rw [if_neg c3]
    have c4 : D1 (x :: a) (y :: b) = D1 (x :: a) b + 1 := by
     rcases hstep with e | e | e
     ·omega
     ·exact e
     ·by_cases q : x = y
      ·rw [bo1_eq q] at e; exact absurd ⟨q, e⟩ c1
      ·rw [bo1_ne q] at e; exact absurd ⟨q, by omega⟩ c2
    obtain ⟨⟨u, h1⟩, h2, h3, h4⟩ := ih (x :: a) b (by simp only [List.length_cons]; omega)
    refine ⟨⟨⟨4, z0⟩ :: u, ?_⟩, ?_, ?_, ?_⟩
    ·rw [wk_add rfl, h1]; rfl
    ·simp only [costS, h2]
     rw [if_neg (show ¬ (3 : Int) = 1 by decide), c4]
    ·simp only [List.length_cons] at h3 ⊢; omega
    ·intro s hs
     rcases List.mem_cons.1 hs with rfl | hs
     ·exact .inr (.inr ⟨y, List.mem_cons_self .., .inr rfl⟩)
     ·exact keep h4 s hs
end Go.Proofs.Ytffikfajljbmnaa
