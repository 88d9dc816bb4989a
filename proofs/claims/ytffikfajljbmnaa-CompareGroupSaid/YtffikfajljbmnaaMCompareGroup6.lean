/- CompareGroup: walks, tables, laws. -/
import Derived.Test.YtffikfajljbmnaaProg
import Derived.Test.YtffikfajljbmnaaRows
import Derived.Test.YtffikfajljbmnaaMCompareGroup5
set_option linter.unusedVariables false
set_option linter.unusedSimpArgs false
set_option maxHeartbeats 4000000
set_option maxRecDepth 100000
namespace Go.Proofs.Ytffikfajljbmnaa
open Go.RowKit
noncomputable def F_raddlelaw46_alive :Option Bool:=
 (F_raddlelaw46_cloth (⟨#[46,120,10]⟩:ByteArray)).bind fun r3=>
 (F_raddlelaw46_cloth (⟨#[120,46,10]⟩:ByteArray)).bind fun a9=>
 (F_compare_Cells r3 a9).bind fun aa=>
 (F_compare_Nearest r3 a9 0).bind fun a0=>
 (F_raddlelaw46_cells (⟨#[107,32,112,32,107]⟩:ByteArray)).bind fun ac=>
 (F_raddlelaw46_cells (⟨#[107,32,121,111,32,107]⟩:ByteArray)).bind fun ae=>
 (F_compare_Edits ac ae).bind fun a5=>
 (F_raddlelaw46_cells (⟨#[107,32,112]⟩:ByteArray)).bind fun af=>
 (F_raddlelaw46_cells (⟨#[112]⟩:ByteArray)).bind fun ag=>
 (F_compare_Edits af ag).bind fun a6=>
 (F_raddlelaw46_knit (⟨#[115,116,97,114,116,32,49,10,102,114,111,110,116,32,107,10]⟩:ByteArray)).bind fun ah=>
 (F_raddlelaw46_knit (⟨#[115,116,97,114,116,32,49,10,102,114,111,110,116,32,112,10,98,97,99,107,32,107,10]⟩:ByteArray)).bind fun ai=>
 (F_compare_Charts ah ai).bind fun ab=>
 if aa.2 == 0 then
  if a0.2.2.2 == 0 then
   if a5.2.2 == 0 then
    if a6.2.2 == 0 then
     Option.bind (α:=Bool) (
      if ab.2 == 0 then
       if aa.1 == 2 then
        if a0.1 == 0 then
         if a0.2.1 == 0 then
          if ((a0.2.2.1.X == 1) && ((a0.2.2.1.Y == 0) && true)) then
           (F_raddleref46_Same a5.1 [(api_CellStep.mk 1 (api_Stitch.mk 0 false 0 0)),(api_CellStep.mk 2 (api_Stitch.mk 2 false 0 0)),(api_CellStep.mk 1 (api_Stitch.mk 0 false 0 0))]).bind fun a7=>
           if a7 then
            if a5.2.1 == 1 then
             (F_raddleref46_Same a6.1 [(api_CellStep.mk 4 (api_Stitch.mk 0 false 0 0)),(api_CellStep.mk 1 (api_Stitch.mk 0 false 0 0))]).bind fun a8=>
             if a8 then
              if a6.2.1 == 1 then
               some (ab.1 == 3)
              else
               none
             else
              none
            else
             none
           else
            none
          else
           none
         else
          none
        else
         none
       else
        none
      else
       some false) fun aj=>
     some aj
    else
     none
   else
    none
  else
   none
 else
  none
theorem c_raddlelaw46_alive (E:Nat→Prop) (w0:World)  (r:Bool) (h:F_raddlelaw46_alive =some r) (S:St0 E [] w0 w0 [] []) :
 Calls Try.prog 31 #[] w0 (Ret (X:=Unit) E [] w0 (fun _=>.bool r) (fun _=>[]) (fun _=>[])):=by
 unfold F_raddlelaw46_alive at h
 refine sEnter (args:=[]) 120 Try.func31 d d (by simp) S (fun a S=>?_)
 refine sSeq (fun K1 bX=>sRegion (sN S fun a S=>?_))
 refine lT (bX _ _ (sSeq (fun K2 bY=>sRegion ?_)))
 obtain ⟨r3,bI,h⟩:=bS h
 have hv_r3:r3=(api_Grid.mk 2 1 [false,true]):=Option.some.inj (bI.symm.trans (by exact kc_raddlelaw46_alive_0))
 refine sCall (X:=Value) (f:=41) (vs:=[.string (⟨#[46,120,10]⟩:ByteArray)]) (val:=c_raddlelaw46_cloth_val r3) (B':=fun _=>[]) (D':=c_raddlelaw46_cloth_D r3) [] [] [] [] [] S (wN d) d callee41 d (by decide) d d (fun E1 w1 S1=>c_raddlelaw46_cloth E1 w1 (⟨#[46,120,10]⟩:ByteArray) r3 bI S1) d (lb d) fun u5 a w S=>?_
 obtain ⟨u6,rfl,bP⟩:=S.mem.know (i:=0) (e:=fRep r_api_Grid (u5) r3) d
 have S:=S.learn (fRep (rL rB) u6 r3.Bits) bP
 obtain ⟨bQ,bR,_,rfl,_⟩:=bP
 obtain ⟨a5,aP,h⟩:=bS h
 have hv_r10:a5=(api_Grid.mk 2 1 [true,false]):=Option.some.inj (aP.symm.trans (by exact kc_raddlelaw46_alive_1))
 refine sCall (X:=Value) (f:=41) (vs:=[.string (⟨#[120,46,10]⟩:ByteArray)]) (val:=c_raddlelaw46_cloth_val a5) (B':=fun _=>[]) (D':=c_raddlelaw46_cloth_D a5) [] [] [] [] [] S (wN d) d callee41 d (by decide) d d (fun E1 w1 S1=>c_raddlelaw46_cloth E1 w1 (⟨#[120,46,10]⟩:ByteArray) a5 aP S1) d (lb d) fun bZ a w S=>?_
 obtain ⟨c7,rfl,bf⟩:=S.mem.know (i:=0) (e:=fRep r_api_Grid (bZ) a5) d
 have S:=S.learn (fRep (rL rB) c7 a5.Bits) bf
 obtain ⟨bg,bh,_,rfl,_⟩:=bf
 obtain ⟨aj,bi,h⟩:=bS h
 have hv_r17:aj=(2,0):=Option.some.inj (bi.symm.trans (by rw [hv_r3,hv_r10]; exact kc_raddlelaw46_alive_2))
 have S1:=S.mem
 refine sCq [.agg #[iv r3.W,iv r3.H,.slice bQ r3.Bits.length bR],.agg #[iv a5.W,iv a5.H,.slice bg a5.Bits.length bh]] (.tuple #[iv aj.1,iv aj.2]) S callee14 (S1.quiet [3,1] d) (fun E1 w1 S1=>c_compare_Cells E1 w1 r3 (.agg #[iv r3.W,iv r3.H,.slice bQ r3.Bits.length bR]) a5 (.agg #[iv a5.W,iv a5.H,.slice bg a5.Bits.length bh]) aj bi S1) fun a w S=>?_
 refine sM S fun a S=>?_
 refine sExtract (vs:=[iv aj.1,iv aj.2]) (iv aj.1) S (wN d) d d d d (lb d) fun a S=>sExtract (vs:=[iv aj.1,iv aj.2]) (iv aj.2) S (wN d) d d d d (lb d) fun a S=>sN S fun a S=>?_
 refine sN S fun a S=>?_
 refine lT (bY _ _ (sSeq (fun cp bJ=>sRegion (sCall (X:=Value) (f:=41) (vs:=[.string (⟨#[46,120,10]⟩:ByteArray)]) (val:=c_raddlelaw46_cloth_val r3) (B':=fun _=>[]) (D':=c_raddlelaw46_cloth_D r3) [] [] [] [] [] S (wN d) d callee41 d (by decide) d d (fun E1 w1 S1=>c_raddlelaw46_cloth E1 w1 (⟨#[46,120,10]⟩:ByteArray) r3 bI S1) d (lb d) fun c8 a w S=>?_))))
 obtain ⟨c9,rfl,bj⟩:=S.mem.know (i:=0) (e:=fRep r_api_Grid (c8) r3) d
 have S:=S.learn (fRep (rL rB) c9 r3.Bits) bj
 obtain ⟨aQ,aR,_,rfl,_⟩:=bj
 refine sCall (X:=Value) (f:=41) (vs:=[.string (⟨#[120,46,10]⟩:ByteArray)]) (val:=c_raddlelaw46_cloth_val a5) (B':=fun _=>[]) (D':=c_raddlelaw46_cloth_D a5) [] [] [] [] [] S (wN d) d callee41 d (by decide) d d (fun E1 w1 S1=>c_raddlelaw46_cloth E1 w1 (⟨#[120,46,10]⟩:ByteArray) a5 aP S1) d (lb d) fun ca a w S=>?_
 obtain ⟨cb,rfl,bk⟩:=S.mem.know (i:=0) (e:=fRep r_api_Grid (ca) a5) d
 have S:=S.learn (fRep (rL rB) cb a5.Bits) bk
 obtain ⟨aS,aT,_,rfl,_⟩:=bk
 obtain ⟨a0,bl,h⟩:=bS h
 have hv_r30:a0=(0,(0,((api_Point.mk 1 0),0))):=Option.some.inj (bl.symm.trans (by rw [hv_r3,hv_r10]; exact kc_raddlelaw46_alive_3))
 refine sCall (X:=Value) (f:=16) (vs:=[.agg #[iv r3.W,iv r3.H,.slice aQ r3.Bits.length aR],.agg #[iv a5.W,iv a5.H,.slice aS a5.Bits.length aT],iv 0]) (val:=c_compare_Nearest_val a0) (B':=fun _=>[]) (D':=c_compare_Nearest_D a0) [] [] [fRep r_api_Grid (.agg #[iv r3.W,iv r3.H,.slice aQ r3.Bits.length aR]) r3,fRep r_api_Grid (.agg #[iv a5.W,iv a5.H,.slice aS a5.Bits.length aT]) a5] [] [3,1] S (wN d) d callee16 d (by decide) d d (fun E1 w1 S1=>c_compare_Nearest E1 w1 r3 (.agg #[iv r3.W,iv r3.H,.slice aQ r3.Bits.length aR]) a5 (.agg #[iv a5.W,iv a5.H,.slice aS a5.Bits.length aT]) 0 a0 bl S1) d (lb d) fun bU a w S=>?_
 obtain rfl:bU=.agg #[iv a0.2.2.1.X,iv a0.2.2.1.Y]:=S.mem.know (i:=0) (e:=fRep r_api_Point (bU) a0.2.2.1) d
 refine sM S fun a S=>?_
 refine sExtract (vs:=[iv a0.1,iv a0.2.1,.agg #[iv a0.2.2.1.X,iv a0.2.2.1.Y],iv a0.2.2.2]) (iv a0.1) S (wN d) d d d d (lb d) fun a S=>sExtract (vs:=[iv a0.1,iv a0.2.1,.agg #[iv a0.2.2.1.X,iv a0.2.2.1.Y],iv a0.2.2.2]) (iv a0.2.1) S (wN d) d d d d (lb d) fun a S=>sExtract (vs:=[iv a0.1,iv a0.2.1,.agg #[iv a0.2.2.1.X,iv a0.2.2.1.Y],iv a0.2.2.2]) (.agg #[iv a0.2.2.1.X,iv a0.2.2.1.Y]) S (wN d) d d d d (lb d) fun a S=>sExtract (vs:=[iv a0.1,iv a0.2.1,.agg #[iv a0.2.2.1.X,iv a0.2.2.1.Y],iv a0.2.2.2]) (iv a0.2.2.2) S (wN d) d d d d (lb d) fun a S=>sAlloc (.agg #[iv 0,iv 0]) S (wN d) d d [iv 0,iv 0] d d (lb d) fun a aC w S=>sN S fun a S=>?_
 refine sN S fun a S=>?_
 refine sStore (p:=aC) (off:=0) (T:=33) (vs:=[iv 0,iv 0]) (v:=.agg #[iv a0.2.2.1.X,iv a0.2.2.1.Y]) 0 [iv a0.2.2.1.X,iv a0.2.2.1.Y] S (wN d) d d d d d d d (by simp) d fun a w S=>sN S fun a S=>?_
 refine lT (bJ _ _ (sSeq (fun cq bK=>sRegion ?_)))
 obtain ⟨aG,bm,h⟩:=bS h
 have hv_r35:aG=[(api_Stitch.mk 1 false 0 0),(api_Stitch.mk 1 true 0 0),(api_Stitch.mk 1 false 0 0)]:=Option.some.inj (bm.symm.trans (by exact kc_raddlelaw46_alive_4))
 refine sCall (X:=Value) (f:=42) (vs:=[.string (⟨#[107,32,112,32,107]⟩:ByteArray)]) (val:=c_raddlelaw46_cells_val aG) (B':=fun _=>[]) (D':=c_raddlelaw46_cells_D aG) [] [eBox aC 33 [iv a0.2.2.1.X,iv a0.2.2.1.Y]] [] [0] [] S (wN d) d callee42 d (by decide) d d (fun E1 w1 S1=>c_raddlelaw46_cells E1 w1 (⟨#[107,32,112,32,107]⟩:ByteArray) aG bm S1) d (lb d) fun cc a w S=>?_
 obtain ⟨aU,aV,_,rfl,_⟩:=S.mem.know (i:=0) (e:=fRep (rL r_api_Stitch) (cc) aG) d
 obtain ⟨aH,bo,h⟩:=bS h
 have hv_r40:aH=[(api_Stitch.mk 1 false 0 0),(api_Stitch.mk 2 false 0 0),(api_Stitch.mk 1 false 0 0)]:=Option.some.inj (bo.symm.trans (by exact kc_raddlelaw46_alive_5))
 refine sCall (X:=Value) (f:=42) (vs:=[.string (⟨#[107,32,121,111,32,107]⟩:ByteArray)]) (val:=c_raddlelaw46_cells_val aH) (B':=fun _=>[]) (D':=c_raddlelaw46_cells_D aH) [] [eBox aC 33 [iv a0.2.2.1.X,iv a0.2.2.1.Y]] [] [0] [] S (wN d) d callee42 d (by decide) d d (fun E1 w1 S1=>c_raddlelaw46_cells E1 w1 (⟨#[107,32,121,111,32,107]⟩:ByteArray) aH bo S1) d (lb d) fun cd a w S=>?_
 obtain ⟨aW,aX,_,rfl,_⟩:=S.mem.know (i:=0) (e:=fRep (rL r_api_Stitch) (cd) aH) d
 obtain ⟨a6,bp,h⟩:=bS h
 have hv_r45:a6=([(api_CellStep.mk 1 (api_Stitch.mk 0 false 0 0)),(api_CellStep.mk 2 (api_Stitch.mk 2 false 0 0)),(api_CellStep.mk 1 (api_Stitch.mk 0 false 0 0))],(1,0)):=Option.some.inj (bp.symm.trans (by rw [hv_r35,hv_r40]; exact kc_raddlelaw46_alive_6))
 refine sCall (X:=Value) (f:=23) (vs:=[.slice aU aG.length aV,.slice aW aH.length aX]) (val:=c_compare_Edits_val a6) (B':=fun _=>[]) (D':=c_compare_Edits_D a6) [] [eBox aC 33 [iv a0.2.2.1.X,iv a0.2.2.1.Y]] [fRep (rL r_api_Stitch) (.slice aU aG.length aV) aG,fRep (rL r_api_Stitch) (.slice aW aH.length aX) aH] [0] [1,0] S (wN d) d callee23 d (by decide) d d (fun E1 w1 S1=>c_compare_Edits E1 w1 aG (.slice aU aG.length aV) aH (.slice aW aH.length aX) a6 bp S1) d (lb d) fun ce a w S=>?_
 obtain ⟨af,ag,_,rfl,_⟩:=S.mem.know (i:=0) (e:=fRep (rL r_api_CellStep) (ce) a6.1) d
 refine sM S fun a S=>?_
 refine sExtract (vs:=[.slice af a6.1.length ag,iv a6.2.1,iv a6.2.2]) (.slice af a6.1.length ag) S (wN d) d d d d (lb d) fun a S=>sExtract (vs:=[.slice af a6.1.length ag,iv a6.2.1,iv a6.2.2]) (iv a6.2.1) S (wN d) d d d d (lb d) fun a S=>sExtract (vs:=[.slice af a6.1.length ag,iv a6.2.1,iv a6.2.2]) (iv a6.2.2) S (wN d) d d d d (lb d) fun a S=>sN S fun a S=>?_
 refine sN S fun a S=>?_
 refine sN S fun a S=>?_
 refine lT (bK _ _ (sSeq (fun cr bL=>sRegion ?_)))
 obtain ⟨aI,bq,h⟩:=bS h
 have hv_r51:aI=[(api_Stitch.mk 1 false 0 0),(api_Stitch.mk 1 true 0 0)]:=Option.some.inj (bq.symm.trans (by exact kc_raddlelaw46_alive_7))
 refine sCall (X:=Value) (f:=42) (vs:=[.string (⟨#[107,32,112]⟩:ByteArray)]) (val:=c_raddlelaw46_cells_val aI) (B':=fun _=>[]) (D':=c_raddlelaw46_cells_D aI) [] [eBox aC 33 [iv a0.2.2.1.X,iv a0.2.2.1.Y]] [] [0] [] S (wN d) d callee42 d (by decide) d d (fun E1 w1 S1=>c_raddlelaw46_cells E1 w1 (⟨#[107,32,112]⟩:ByteArray) aI bq S1) d (lb d) fun cf a w S=>?_
 obtain ⟨aZ,ba,_,rfl,_⟩:=S.mem.know (i:=0) (e:=fRep (rL r_api_Stitch) (cf) aI) d
 obtain ⟨aJ,br,h⟩:=bS h
 have hv_r56:aJ=[(api_Stitch.mk 1 true 0 0)]:=Option.some.inj (br.symm.trans (by exact kc_raddlelaw46_alive_8))
 refine sCall (X:=Value) (f:=42) (vs:=[.string (⟨#[112]⟩:ByteArray)]) (val:=c_raddlelaw46_cells_val aJ) (B':=fun _=>[]) (D':=c_raddlelaw46_cells_D aJ) [] [eBox aC 33 [iv a0.2.2.1.X,iv a0.2.2.1.Y]] [] [0] [] S (wN d) d callee42 d (by decide) d d (fun E1 w1 S1=>c_raddlelaw46_cells E1 w1 (⟨#[112]⟩:ByteArray) aJ br S1) d (lb d) fun cg a w S=>?_
 obtain ⟨bb,bc,_,rfl,_⟩:=S.mem.know (i:=0) (e:=fRep (rL r_api_Stitch) (cg) aJ) d
 obtain ⟨a7,bu,h⟩:=bS h
 have hv_r61:a7=([(api_CellStep.mk 4 (api_Stitch.mk 0 false 0 0)),(api_CellStep.mk 1 (api_Stitch.mk 0 false 0 0))],(1,0)):=Option.some.inj (bu.symm.trans (by rw [hv_r51,hv_r56]; exact kc_raddlelaw46_alive_9))
 refine sCall (X:=Value) (f:=23) (vs:=[.slice aZ aI.length ba,.slice bb aJ.length bc]) (val:=c_compare_Edits_val a7) (B':=fun _=>[]) (D':=c_compare_Edits_D a7) [] [eBox aC 33 [iv a0.2.2.1.X,iv a0.2.2.1.Y]] [fRep (rL r_api_Stitch) (.slice aZ aI.length ba) aI,fRep (rL r_api_Stitch) (.slice bb aJ.length bc) aJ] [0] [1,0] S (wN d) d callee23 d (by decide) d d (fun E1 w1 S1=>c_compare_Edits E1 w1 aI (.slice aZ aI.length ba) aJ (.slice bb aJ.length bc) a7 bu S1) d (lb d) fun ci a w S=>?_
 obtain ⟨ah,ai,_,rfl,_⟩:=S.mem.know (i:=0) (e:=fRep (rL r_api_CellStep) (ci) a7.1) d
 refine sM S fun a S=>?_
 refine sExtract (vs:=[.slice ah a7.1.length ai,iv a7.2.1,iv a7.2.2]) (.slice ah a7.1.length ai) S (wN d) d d d d (lb d) fun a S=>sExtract (vs:=[.slice ah a7.1.length ai,iv a7.2.1,iv a7.2.2]) (iv a7.2.1) S (wN d) d d d d (lb d) fun a S=>sExtract (vs:=[.slice ah a7.1.length ai,iv a7.2.1,iv a7.2.2]) (iv a7.2.2) S (wN d) d d d d (lb d) fun a S=>sN S fun a S=>?_
 refine sN S fun a S=>?_
 refine sN S fun a S=>?_
 refine lT (bL _ _ (sSeq (fun ct bM=>sRegion ?_)))
 obtain ⟨am,bv,h⟩:=bS h
 have hv_r67:am=(api_Chart.mk 1 [(api_Row.mk false [(api_Stitch.mk 1 false 0 0)])]):=Option.some.inj (bv.symm.trans (by exact kc_raddlelaw46_alive_10))
 refine sCall (X:=Value) (f:=43) (vs:=[.string (⟨#[115,116,97,114,116,32,49,10,102,114,111,110,116,32,107,10]⟩:ByteArray)]) (val:=c_raddlelaw46_knit_val am) (B':=fun _=>[]) (D':=c_raddlelaw46_knit_D am) [] [eBox aC 33 [iv a0.2.2.1.X,iv a0.2.2.1.Y]] [] [0] [] S (wN d) d callee43 d (by decide) d d (fun E1 w1 S1=>c_raddlelaw46_knit E1 w1 (⟨#[115,116,97,114,116,32,49,10,102,114,111,110,116,32,107,10]⟩:ByteArray) am bv S1) d (lb d) fun cj a w S=>?_
 obtain ⟨ck,rfl,bw⟩:=S.mem.know (i:=0) (e:=fRep r_api_Chart (cj) am) d
 have S:=S.learn (fRep (rL r_api_Row) ck am.Rows) bw
 obtain ⟨bx,bz,_,rfl,_⟩:=bw
 obtain ⟨ao,bA,h⟩:=bS h
 have hv_r74:ao=(api_Chart.mk 1 [(api_Row.mk false [(api_Stitch.mk 1 true 0 0)]),(api_Row.mk true [(api_Stitch.mk 1 false 0 0)])]):=Option.some.inj (bA.symm.trans (by exact kc_raddlelaw46_alive_11))
 refine sCall (X:=Value) (f:=43) (vs:=[.string (⟨#[115,116,97,114,116,32,49,10,102,114,111,110,116,32,112,10,98,97,99,107,32,107,10]⟩:ByteArray)]) (val:=c_raddlelaw46_knit_val ao) (B':=fun _=>[]) (D':=c_raddlelaw46_knit_D ao) [] [eBox aC 33 [iv a0.2.2.1.X,iv a0.2.2.1.Y]] [] [0] [] S (wN d) d callee43 d (by decide) d d (fun E1 w1 S1=>c_raddlelaw46_knit E1 w1 (⟨#[115,116,97,114,116,32,49,10,102,114,111,110,116,32,112,10,98,97,99,107,32,107,10]⟩:ByteArray) ao bA S1) d (lb d) fun cl a w S=>?_
 obtain ⟨cm,rfl,bB⟩:=S.mem.know (i:=0) (e:=fRep r_api_Chart (cl) ao) d
 have S:=S.learn (fRep (rL r_api_Row) cm ao.Rows) bB
 obtain ⟨bC,bD,_,rfl,_⟩:=bB
 obtain ⟨aa,bE,h⟩:=bS h
 have hv_r81:aa=(3,0):=Option.some.inj (bE.symm.trans (by rw [hv_r67,hv_r74]; exact kc_raddlelaw46_alive_12))
 have S1:=S.mem
 refine sCq [.agg #[iv am.Start,.slice bx am.Rows.length bz],.agg #[iv ao.Start,.slice bC ao.Rows.length bD]] (.tuple #[iv aa.1,iv aa.2]) S callee20 (S1.quiet [3,1] d) (fun E1 w1 S1=>c_compare_Charts E1 w1 am (.agg #[iv am.Start,.slice bx am.Rows.length bz]) ao (.agg #[iv ao.Start,.slice bC ao.Rows.length bD]) aa bE S1) fun a w S=>?_
 refine sM S fun a S=>?_
 refine sExtract (vs:=[iv aa.1,iv aa.2]) (iv aa.1) S (wN d) d d d d (lb d) fun a S=>sExtract (vs:=[iv aa.1,iv aa.2]) (iv aa.2) S (wN d) d d d d (lb d) fun a S=>sN S fun a S=>?_
 refine sN S fun a S=>?_
 refine lT (bM _ _ (sSeq (fun cu bN=>sRegion (sBuild [(0,.int .u8 1)] [.int .u8 1,.int .u8 0,.bool false,iv 0,iv 0] S (wN d) d d d d (lb d) fun a S=>sBuild [(0,.int .u8 2)] [.int .u8 2,.bool false,iv 0,iv 0] S (wN d) d d d d (lb d) fun a S=>sBuild [(0,.int .u8 2),(1,.agg #[.int .u8 2,.bool false,iv 0,iv 0])] [.int .u8 2,.int .u8 2,.bool false,iv 0,iv 0] S (wN d) d d d d (lb d) fun a S=>sBuild [(0,.int .u8 4)] [.int .u8 4,.int .u8 0,.bool false,iv 0,iv 0] S (wN d) d d d d (lb d) fun a S=>sAlloc (.agg #[.int .u8 0,.int .u8 0,.bool false,iv 0,iv 0]) S (wN d) d d [.int .u8 0,.int .u8 0,.bool false,iv 0,iv 0] d d (lb d) fun a bH w S=>sAlloc (.agg #[.int .u8 0,.int .u8 0,.bool false,iv 0,iv 0]) S (wN d) d d [.int .u8 0,.int .u8 0,.bool false,iv 0,iv 0] d d (lb d) fun a bV w S=>sAlloc (.agg #[.int .u8 0,.int .u8 0,.bool false,iv 0,iv 0]) S (wN d) d d [.int .u8 0,.int .u8 0,.bool false,iv 0,iv 0] d d (lb d) fun a bW w S=>sStore (p:=bH) (off:=0) (T:=83) (vs:=[.int .u8 0,.int .u8 0,.bool false,iv 0,iv 0]) (v:=.agg #[.int .u8 1,.int .u8 0,.bool false,iv 0,iv 0]) 2 [.int .u8 1,.int .u8 0,.bool false,iv 0,iv 0] S (wN d) d d d d d d d (by simp) d fun a w S=>sStore (p:=bV) (off:=0) (T:=83) (vs:=[.int .u8 0,.int .u8 0,.bool false,iv 0,iv 0]) (v:=.agg #[.int .u8 2,.int .u8 2,.bool false,iv 0,iv 0]) 2 [.int .u8 2,.int .u8 2,.bool false,iv 0,iv 0] S (wN d) d d d d d d d (by simp) d fun a w S=>sStore (p:=bW) (off:=0) (T:=83) (vs:=[.int .u8 0,.int .u8 0,.bool false,iv 0,iv 0]) (v:=.agg #[.int .u8 4,.int .u8 0,.bool false,iv 0,iv 0]) 2 [.int .u8 4,.int .u8 0,.bool false,iv 0,iv 0] S (wN d) d d d d d d d (by simp) d fun a w S=>lT (bN _ _ (sSeq (fun cv bO=>sRegion ?_)))))))
 refine sM S fun a S=>?_
 refine sBin _ S (wN d) d d d (bEq _ _ _ _ .i64 aj.2 0) d (lb d) fun a S=>sM S fun a S=>?_
 rcases iS h with ⟨ap,h⟩ | ⟨ap,h⟩
 rotate_left
 ·exact absurd ap (by rw [hv_r17]; decide)
 refine sMove (iv a0.2.2.2) S (wG 2 true 59 d d d ap) (.inl d) d d (lb d) fun a S=>sBin _ S (wG 2 true 59 d d d ap) d d d (bEq _ _ _ _ .i64 a0.2.2.2 0) d (lb d) fun a S=>sPickT (.bool (a0.2.2.2 == 0)) S (wN d) d d ap d d (lb d) fun a S=>sM S fun a S=>?_
 rcases iS h with ⟨aq,h⟩ | ⟨aq,h⟩
 rotate_left
 ·exact absurd aq (by rw [hv_r30]; decide)
 refine sMove (iv a6.2.2) S (wG 6 true 63 d d d aq) (.inl d) d d (lb d) fun a S=>sBin _ S (wG 6 true 63 d d d aq) d d d (bEq _ _ _ _ .i64 a6.2.2 0) d (lb d) fun a S=>sPickT (.bool (a6.2.2 == 0)) S (wN d) d d aq d d (lb d) fun a S=>sM S fun a S=>?_
 rcases iS h with ⟨ar,h⟩ | ⟨ar,h⟩
 rotate_left
 ·exact absurd ar (by rw [hv_r45]; decide)
 refine sMove (iv a7.2.2) S (wG 10 true 67 d d d ar) (.inl d) d d (lb d) fun a S=>sBin _ S (wG 10 true 67 d d d ar) d d d (bEq _ _ _ _ .i64 a7.2.2 0) d (lb d) fun a S=>sPickT (.bool (a7.2.2 == 0)) S (wN d) d d ar d d (lb d) fun a S=>sM S fun a S=>?_
 rcases iS h with ⟨au,h⟩ | ⟨au,h⟩
 rotate_left
 ·exact absurd au (by rw [hv_r61]; decide)
 refine sMove (iv aa.2) S (wG 14 true 71 d d d au) (.inl d) d d (lb d) fun a S=>sBin _ S (wG 14 true 71 d d d au) d d d (bEq _ _ _ _ .i64 aa.2 0) d (lb d) fun a S=>sPickT (.bool (aa.2 == 0)) S (wN d) d d au d d (lb d) fun a S=>sN S fun a S=>?_
 refine lT (bO _ _ ?_)
 obtain ⟨cn,h,co⟩:=bS h
 refine sCut (fun a w=>∃ bG,bG=cn∧St [] E [] w0 120 a w [(0,.bool bG)] [] []) ?_ (fun a w hI=>?_)
 rotate_left
 ·obtain ⟨bG,rfl,S⟩:=hI
  have h:=co
  try dsimp only at h
  obtain rfl:=tS h
  exact wp_ret (sRet (.bool bG) S (rsl1 d (rvT (t:=0) (v:=.bool bG) S d)) ⟨(),d,S.mem.sel [] [] (by decide) d d⟩)
 refine sRegion (sM S fun a S=>?_)
 refine sM S fun a S=>?_
 rcases iS h with ⟨ak,h⟩ | ⟨ak,h⟩
 rotate_left
 ·refine sSkN 2 1 true 76 S d d ak d fun a S=>sPickF (.bool false) S (wN d) d d ak d d (lb d) fun a S=>sM S fun a S=>?_
  refine sSkN 2 5 true 80 S d d d d fun a S=>sPickF (.bool false) S (wN d) d d d d d (lb d) fun a S=>sM S fun a S=>?_
  refine sSkN 2 9 true 84 S d d d d fun a S=>sPickF (.bool false) S (wN d) d d d d d (lb d) fun a S=>sM S fun a S=>?_
  refine sSkN 3 13 true 88 S d d d d fun a S=>sPickF (.bool false) S (wN d) d d d d d (lb d) fun a S=>sM S fun a S=>?_
  refine sSkN 6 18 true 93 S d d d d fun a S=>sPickF (.bool false) S (wN d) d d d d d (lb d) fun a S=>sM S fun a S=>?_
  refine sSkN 2 26 true 101 S d d d d fun a S=>sPickF (.bool false) S (wN d) d d d d d (lb d) fun a S=>sM S fun a S=>?_
  refine sSkN 5 30 true 105 S d d d d fun a S=>sPickF (.bool false) S (wN d) d d d d d (lb d) fun a S=>sM S fun a S=>?_
  refine sSkN 2 37 true 112 S d d d d fun a S=>sPickF (.bool false) S (wN d) d d d d d (lb d) fun a S=>sM S fun a S=>?_
  refine sSkN 2 41 true 116 S d d d d fun a S=>sPickF (.bool false) S (wN d) d d d d d (lb d) fun a S=>sN S fun a S=>?_
  exact lT (⟨false,Option.some.inj h,S.fix [] [] (by decide) d d d⟩)
 refine sMove (iv aj.1) S (wG 1 true 76 d d d ak) (.inl d) d d (lb d) fun a S=>sBin _ S (wG 1 true 76 d d d ak) d d d (bEq _ _ _ _ .i64 aj.1 2) d (lb d) fun a S=>sPickT (.bool (aj.1 == 2)) S (wN d) d d ak d d (lb d) fun a S=>sM S fun a S=>?_
 rcases iS h with ⟨av,h⟩ | ⟨av,h⟩
 rotate_left
 ·exact absurd av (by rw [hv_r17]; decide)
 refine sMove (iv a0.1) S (wG 5 true 80 d d d av) (.inl d) d d (lb d) fun a S=>sBin _ S (wG 5 true 80 d d d av) d d d (bEq _ _ _ _ .i64 a0.1 0) d (lb d) fun a S=>sPickT (.bool (a0.1 == 0)) S (wN d) d d av d d (lb d) fun a S=>sM S fun a S=>?_
 rcases iS h with ⟨aw,h⟩ | ⟨aw,h⟩
 rotate_left
 ·exact absurd aw (by rw [hv_r30]; decide)
 refine sMove (iv a0.2.1) S (wG 9 true 84 d d d aw) (.inl d) d d (lb d) fun a S=>sBin _ S (wG 9 true 84 d d d aw) d d d (bEq _ _ _ _ .i64 a0.2.1 0) d (lb d) fun a S=>sPickT (.bool (a0.2.1 == 0)) S (wN d) d d aw d d (lb d) fun a S=>sM S fun a S=>?_
 rcases iS h with ⟨al,h⟩ | ⟨al,h⟩
 rotate_left
 ·exact absurd al (by rw [hv_r30]; decide)
 refine sLoadN (p:=aC) (off:=0) (T:=33) (vs:=[iv a0.2.2.1.X,iv a0.2.2.1.Y]) 3 [iv a0.2.2.1.X,iv a0.2.2.1.Y] S (wG 13 true 88 d d d al) d d d d d d d (lb d) fun a S=>sBuild [(0,iv 1)] [iv 1,iv 0] S (wG 13 true 88 d d d al) d d d d (lb d) fun a S=>sBin _ S (wG 13 true 88 d d d al) d d d (bEqV _ _ _ _ #[iv a0.2.2.1.X,iv a0.2.2.1.Y] #[iv 1,iv 0] ((a0.2.2.1.X == 1) && ((a0.2.2.1.Y == 0) && true)) (by kernel_rfl) (eqlV_of (by kernel_rfl))) d (lb d) fun a S=>sPickT (.bool ((a0.2.2.1.X == 1) && ((a0.2.2.1.Y == 0) && true))) S (wN d) d d al d d (lb d) fun a S=>sM S fun a S=>?_
 rcases iS h with ⟨a9,h⟩ | ⟨a9,h⟩
 rotate_left
 ·exact absurd a9 (by rw [hv_r30]; decide)
 refine sMove (.slice af a6.1.length ag) S (wG 18 true 93 d d d a9) (.inl d) d d (lb d) fun a S=>sLoadN (p:=bH) (off:=0) (T:=83) (vs:=[.int .u8 1,.int .u8 0,.bool false,iv 0,iv 0]) 2 [.int .u8 1,.int .u8 0,.bool false,iv 0,iv 0] S (wG 18 true 93 d d d a9) d d d d d d d (lb d) fun a S=>sLoadN (p:=bV) (off:=0) (T:=83) (vs:=[.int .u8 2,.int .u8 2,.bool false,iv 0,iv 0]) 1 [.int .u8 2,.int .u8 2,.bool false,iv 0,iv 0] S (wG 18 true 93 d d d a9) d d d d d d d (lb d) fun a S=>sLoadN (p:=bH) (off:=0) (T:=83) (vs:=[.int .u8 1,.int .u8 0,.bool false,iv 0,iv 0]) 2 [.int .u8 1,.int .u8 0,.bool false,iv 0,iv 0] S (wG 18 true 93 d d d a9) d d d d d d d (lb d) fun a S=>?_
 have S:=S.learn (fRep r_api_CellStep (.agg #[.int .u8 1,.int .u8 0,.bool false,iv 0,iv 0]) (api_CellStep.mk 1 (api_Stitch.mk 0 false 0 0))) d
 have S:=S.learn (fRep r_api_CellStep (.agg #[.int .u8 2,.int .u8 2,.bool false,iv 0,iv 0]) (api_CellStep.mk 2 (api_Stitch.mk 2 false 0 0))) d
 refine sLit (r:=r_api_CellStep) (T:=83) (xs:=[(api_CellStep.mk 1 (api_Stitch.mk 0 false 0 0)),(api_CellStep.mk 2 (api_Stitch.mk 2 false 0 0)),(api_CellStep.mk 1 (api_Stitch.mk 0 false 0 0))]) [(0,.agg #[.int .u8 1,.int .u8 0,.bool false,iv 0,iv 0]),(1,.agg #[.int .u8 2,.int .u8 2,.bool false,iv 0,iv 0]),(2,.agg #[.int .u8 1,.int .u8 0,.bool false,iv 0,iv 0])] 3 [.agg #[.int .u8 1,.int .u8 0,.bool false,iv 0,iv 0],.agg #[.int .u8 2,.int .u8 2,.bool false,iv 0,iv 0],.agg #[.int .u8 1,.int .u8 0,.bool false,iv 0,iv 0]] [.int .u8 1,.int .u8 0,.bool false,iv 0,iv 0,.int .u8 2,.int .u8 2,.bool false,iv 0,iv 0,.int .u8 1,.int .u8 0,.bool false,iv 0,iv 0] (.agg #[.int .u8 0,.int .u8 0,.bool false,iv 0,iv 0]) 32 S (wG 18 true 93 d d d a9) d d Try.underlying48 d (by decide) (by decide) (by kernel_rfl) d (fun E1 w1 hE=>All.cons (r_api_CellStep.mono hE (S.mem.know (i:=1) (e:=fRep r_api_CellStep (.agg #[.int .u8 1,.int .u8 0,.bool false,iv 0,iv 0]) (api_CellStep.mk 1 (api_Stitch.mk 0 false 0 0))) d)) (All.cons (r_api_CellStep.mono hE (S.mem.know (i:=0) (e:=fRep r_api_CellStep (.agg #[.int .u8 2,.int .u8 2,.bool false,iv 0,iv 0]) (api_CellStep.mk 2 (api_Stitch.mk 2 false 0 0))) d)) (All.cons (r_api_CellStep.mono hE (S.mem.know (i:=1) (e:=fRep r_api_CellStep (.agg #[.int .u8 1,.int .u8 0,.bool false,iv 0,iv 0]) (api_CellStep.mk 1 (api_Stitch.mk 0 false 0 0))) d)) (All.nil _ _ _)))) d d (lb d) fun a w ax ay S=>?_
 obtain ⟨aK,aM,h⟩:=bS h
 have hv_r102:aK=true:=Option.some.inj (aM.symm.trans (by rw [hv_r45]; exact kc_raddlelaw46_alive_13))
 have S1:=S.mem
 have S1:=S1.shutR (r:=r_api_CellStep) (T:=83) (v:=.slice ax [(api_CellStep.mk 1 (api_Stitch.mk 0 false 0 0)),(api_CellStep.mk 2 (api_Stitch.mk 2 false 0 0)),(api_CellStep.mk 1 (api_Stitch.mk 0 false 0 0))].length ay) (xs:=[(api_CellStep.mk 1 (api_Stitch.mk 0 false 0 0)),(api_CellStep.mk 2 (api_Stitch.mk 2 false 0 0)),(api_CellStep.mk 1 (api_Stitch.mk 0 false 0 0))]) 0 d
 refine sCallQ (X:=Unit) (f:=29) (vs:=[.slice af a6.1.length ag,.slice ax [(api_CellStep.mk 1 (api_Stitch.mk 0 false 0 0)),(api_CellStep.mk 2 (api_Stitch.mk 2 false 0 0)),(api_CellStep.mk 1 (api_Stitch.mk 0 false 0 0))].length ay]) (val:=fun _=>.bool aK) S (wG 18 true 93 d d d a9) d callee29 d (S1.quiet [10,0] d) (fun E1 w1 S1=>c_raddleref46_Same E1 w1 a6.1 (.slice af a6.1.length ag) [(api_CellStep.mk 1 (api_Stitch.mk 0 false 0 0)),(api_CellStep.mk 2 (api_Stitch.mk 2 false 0 0)),(api_CellStep.mk 1 (api_Stitch.mk 0 false 0 0))] (.slice ax [(api_CellStep.mk 1 (api_Stitch.mk 0 false 0 0)),(api_CellStep.mk 2 (api_Stitch.mk 2 false 0 0)),(api_CellStep.mk 1 (api_Stitch.mk 0 false 0 0))].length ay) aK aM S1) d (lb d) fun _ a w S=>?_
 refine sPickT (.bool aK) S (wN d) d d a9 d d (lb d) fun a S=>sM S fun a S=>?_
 rcases iS h with ⟨ab,h⟩ | ⟨ab,h⟩
 rotate_left
 ·exact absurd ab (by rw [hv_r102]; decide)
 refine sMove (iv a6.2.1) S (wG 26 true 101 d d d ab) (.inl d) d d (lb d) fun a S=>sBin _ S (wG 26 true 101 d d d ab) d d d (bEq _ _ _ _ .i64 a6.2.1 1) d (lb d) fun a S=>sPickT (.bool (a6.2.1 == 1)) S (wN d) d d ab d d (lb d) fun a S=>sM S fun a S=>?_
 rcases iS h with ⟨a8,h⟩ | ⟨a8,h⟩
 rotate_left
 ·exact absurd a8 (by rw [hv_r45]; decide)
 refine sMove (.slice ah a7.1.length ai) S (wG 30 true 105 d d d a8) (.inl d) d d (lb d) fun a S=>sLoadN (p:=bW) (off:=0) (T:=83) (vs:=[.int .u8 4,.int .u8 0,.bool false,iv 0,iv 0]) 1 [.int .u8 4,.int .u8 0,.bool false,iv 0,iv 0] S (wG 30 true 105 d d d a8) d d d d d d d (lb d) fun a S=>sLoadN (p:=bH) (off:=0) (T:=83) (vs:=[.int .u8 1,.int .u8 0,.bool false,iv 0,iv 0]) 3 [.int .u8 1,.int .u8 0,.bool false,iv 0,iv 0] S (wG 30 true 105 d d d a8) d d d d d d d (lb d) fun a S=>?_
 have S:=S.learn (fRep r_api_CellStep (.agg #[.int .u8 4,.int .u8 0,.bool false,iv 0,iv 0]) (api_CellStep.mk 4 (api_Stitch.mk 0 false 0 0))) d
 refine sLit (r:=r_api_CellStep) (T:=83) (xs:=[(api_CellStep.mk 4 (api_Stitch.mk 0 false 0 0)),(api_CellStep.mk 1 (api_Stitch.mk 0 false 0 0))]) [(0,.agg #[.int .u8 4,.int .u8 0,.bool false,iv 0,iv 0]),(1,.agg #[.int .u8 1,.int .u8 0,.bool false,iv 0,iv 0])] 2 [.agg #[.int .u8 4,.int .u8 0,.bool false,iv 0,iv 0],.agg #[.int .u8 1,.int .u8 0,.bool false,iv 0,iv 0]] [.int .u8 4,.int .u8 0,.bool false,iv 0,iv 0,.int .u8 1,.int .u8 0,.bool false,iv 0,iv 0] (.agg #[.int .u8 0,.int .u8 0,.bool false,iv 0,iv 0]) 32 S (wG 30 true 105 d d d a8) d d Try.underlying48 d (by decide) (by decide) (by kernel_rfl) d (fun E1 w1 hE=>All.cons (r_api_CellStep.mono hE (S.mem.know (i:=0) (e:=fRep r_api_CellStep (.agg #[.int .u8 4,.int .u8 0,.bool false,iv 0,iv 0]) (api_CellStep.mk 4 (api_Stitch.mk 0 false 0 0))) d)) (All.cons (r_api_CellStep.mono hE (S.mem.know (i:=2) (e:=fRep r_api_CellStep (.agg #[.int .u8 1,.int .u8 0,.bool false,iv 0,iv 0]) (api_CellStep.mk 1 (api_Stitch.mk 0 false 0 0))) d)) (All.nil _ _ _))) d d (lb d) fun a w az aA S=>?_
 obtain ⟨aL,aO,h⟩:=bS h
 have hv_r108:aL=true:=Option.some.inj (aO.symm.trans (by rw [hv_r61]; exact kc_raddlelaw46_alive_14))
 have S1:=S.mem
 have S1:=S1.shutR (r:=r_api_CellStep) (T:=83) (v:=.slice az [(api_CellStep.mk 4 (api_Stitch.mk 0 false 0 0)),(api_CellStep.mk 1 (api_Stitch.mk 0 false 0 0))].length aA) (xs:=[(api_CellStep.mk 4 (api_Stitch.mk 0 false 0 0)),(api_CellStep.mk 1 (api_Stitch.mk 0 false 0 0))]) 0 d
 refine sCallQ (X:=Unit) (f:=29) (vs:=[.slice ah a7.1.length ai,.slice az [(api_CellStep.mk 4 (api_Stitch.mk 0 false 0 0)),(api_CellStep.mk 1 (api_Stitch.mk 0 false 0 0))].length aA]) (val:=fun _=>.bool aL) S (wG 30 true 105 d d d a8) d callee29 d (S1.quiet [8,0] d) (fun E1 w1 S1=>c_raddleref46_Same E1 w1 a7.1 (.slice ah a7.1.length ai) [(api_CellStep.mk 4 (api_Stitch.mk 0 false 0 0)),(api_CellStep.mk 1 (api_Stitch.mk 0 false 0 0))] (.slice az [(api_CellStep.mk 4 (api_Stitch.mk 0 false 0 0)),(api_CellStep.mk 1 (api_Stitch.mk 0 false 0 0))].length aA) aL aO S1) d (lb d) fun _ a w S=>?_
 refine sPickT (.bool aL) S (wN d) d d a8 d d (lb d) fun a S=>sM S fun a S=>?_
 rcases iS h with ⟨ac,h⟩ | ⟨ac,h⟩
 rotate_left
 ·exact absurd ac (by rw [hv_r108]; decide)
 refine sMove (iv a7.2.1) S (wG 37 true 112 d d d ac) (.inl d) d d (lb d) fun a S=>sBin _ S (wG 37 true 112 d d d ac) d d d (bEq _ _ _ _ .i64 a7.2.1 1) d (lb d) fun a S=>sPickT (.bool (a7.2.1 == 1)) S (wN d) d d ac d d (lb d) fun a S=>sM S fun a S=>?_
 rcases iS h with ⟨ae,h⟩ | ⟨ae,h⟩
 rotate_left
 ·exact absurd ae (by rw [hv_r61]; decide)
 refine sMove (iv aa.1) S (wG 41 true 116 d d d ae) (.inl d) d d (lb d) fun a S=>sBin _ S (wG 41 true 116 d d d ae) d d d (bEq _ _ _ _ .i64 aa.1 3) d (lb d) fun a S=>sPickT (.bool (aa.1 == 3)) S (wN d) d d ae d d (lb d) fun a S=>sN S fun a S=>?_
 exact lT (⟨aa.1 == 3,Option.some.inj h,S.fix [] [] (by decide) d d d⟩)
def K_raddlelaw46_alive :Option Bool:=
 Option.bind (K_raddlelaw46_cloth (⟨#[46,120,10]⟩:ByteArray)) fun r3=>
 Option.bind (K_raddlelaw46_cloth (⟨#[120,46,10]⟩:ByteArray)) fun r10=>
 Option.bind (K_compare_Cells r3 r10) fun r17=>
 Option.bind (K_compare_Nearest r3 r10 0) fun r30=>
 Option.bind (K_raddlelaw46_cells (⟨#[107,32,112,32,107]⟩:ByteArray)) fun r35=>
 Option.bind (K_raddlelaw46_cells (⟨#[107,32,121,111,32,107]⟩:ByteArray)) fun r40=>
 Option.bind (K_compare_Edits r35 r40) fun r45=>
 Option.bind (K_raddlelaw46_cells (⟨#[107,32,112]⟩:ByteArray)) fun r51=>
 Option.bind (K_raddlelaw46_cells (⟨#[112]⟩:ByteArray)) fun r56=>
 Option.bind (K_compare_Edits r51 r56) fun r61=>
 Option.bind (K_raddlelaw46_knit (⟨#[115,116,97,114,116,32,49,10,102,114,111,110,116,32,107,10]⟩:ByteArray)) fun r67=>
 Option.bind (K_raddlelaw46_knit (⟨#[115,116,97,114,116,32,49,10,102,114,111,110,116,32,112,10,98,97,99,107,32,107,10]⟩:ByteArray)) fun r74=>
 Option.bind (K_compare_Charts r67 r74) fun r81=>
 if r17.2 == 0 then
  if r30.2.2.2 == 0 then
   if r45.2.2 == 0 then
    if r61.2.2 == 0 then
     Option.bind (α:=Bool) (
      if r81.2 == 0 then
       if r17.1 == 2 then
        if r30.1 == 0 then
         if r30.2.1 == 0 then
          if ((r30.2.2.1.X == 1) && ((r30.2.2.1.Y == 0) && true)) then
           Option.bind (K_raddleref46_Same r45.1 [(api_CellStep.mk 1 (api_Stitch.mk 0 false 0 0)),(api_CellStep.mk 2 (api_Stitch.mk 2 false 0 0)),(api_CellStep.mk 1 (api_Stitch.mk 0 false 0 0))]) fun r102=>
           if r102 then
            if r45.2.1 == 1 then
             Option.bind (K_raddleref46_Same r61.1 [(api_CellStep.mk 4 (api_Stitch.mk 0 false 0 0)),(api_CellStep.mk 1 (api_Stitch.mk 0 false 0 0))]) fun r108=>
             if r108 then
              if r61.2.1 == 1 then
               some (r81.1 == 3)
              else
               none
             else
              none
            else
             none
           else
            none
          else
           none
         else
          none
        else
         none
       else
        none
      else
       some false) fun o92=>
     some o92
    else
     none
   else
    none
  else
   none
 else
  none
theorem m_F_raddlelaw46_alive :Le (K_raddlelaw46_alive) (F_raddlelaw46_alive):=by
 unfold K_raddlelaw46_alive F_raddlelaw46_alive
 with_reducible repeat' (first | exact m_F_raddlelaw46_cloth _ | exact m_F_compare_Cells _ _ | exact m_F_compare_Nearest _ _ _ | exact m_F_raddlelaw46_cells _ | exact m_F_compare_Edits _ _ | exact m_F_raddlelaw46_knit _ | exact m_F_compare_Charts _ _ | exact m_F_raddleref46_Same _ _ | exact Le.rfl _ | refine Le.loop _ ?_ | refine Le.bind ?_ ?_ | refine Le.ite ?_ ?_ | refine Le.sum ?_ ?_ | refine Le.prod ?_ | intro _ | exact Empty.elim (by assumption) | dsimp only)
set_option maxRecDepth 1000000 in
theorem k_raddlelaw46_alive:F_raddlelaw46_alive=some true:=m_F_raddlelaw46_alive _ (by kernel_rfl)
theorem w64_of {x:Int} (h0:-9223372036854775808 ≤ x) (h1:x ≤ 9223372036854775807):w64 x=x:=w64_id ⟨h0,h1⟩
theorem w64_succ {k:Nat} (h:k < 9223372036854775807):w64 ((k:Int) + 1)=((k + 1:Nat):Int):=by
 rw [w64_of (by omega) (by omega)]; omega
theorem idxO_nat {α:Type} {xs:List α} {k:Nat} (h:k < xs.length):idxO xs (k:Int)=some xs[k]:=by
 simp [idxO,h]
theorem idxO_of {α:Type} {xs:List α} {i:Int} {k:Nat} (hi:i=(k:Int)) (h:k < xs.length):idxO xs i=some xs[k]:=by subst hi; exact idxO_nat h
theorem setO_nat {α:Type} {xs:List α} {k:Nat} {y:α} (h:k < xs.length):setO xs (k:Int) y=some (xs.set k y):=by
 simp [setO,h]
theorem appO_of {α:Type} {xs ys:List α} (h:xs.length + ys.length ≤ 68719476736):appO xs ys=some (xs ++ ys):=by
 simp [appO,lim,h]
theorem capO_of {n:Int} {k:Nat} (h:n=(k:Int)) (hk:k ≤ 68719476736):capO n=some ():=by
 subst h; simp [capO,lim,hk]
theorem makeO_of {α:Type} {n:Int} {z:α} {k:Nat} (h:n=(k:Int)) (hk:k ≤ 68719476736):makeO n z=some (List.replicate k z):=by
 subst h; simp [makeO,lim,hk]
theorem map_cong {α:Type} {n:Nat} {f g:Nat→α} (h:∀ k,k < n→f k=g k):(List.range n).map f=(List.range n).map g:=
 List.map_congr_left fun k hk=>h k (List.mem_range.1 hk)
theorem dT {p:Prop} [Decidable p] (h:p):decide p=true:=decide_eq_true h
theorem dF {p:Prop} [Decidable p] (h:¬ p):decide p=false:=decide_eq_false h
theorem bT {a b:Int} (h:a=b):(a == b)=true:=by simp [h]
theorem bF {a b:Int} (h:¬ a=b):(a == b)=false:=by simp [h]
theorem nT {a b:Int} (h:¬ a=b):(a != b)=true:=by simp [h]
theorem nF {a b:Int} (h:a=b):(a != b)=false:=by simp [h]
theorem loop_ts {σ τ:Type} {B:Int × σ→Option ((Int × σ) ⊕ τ)} (n:Nat) (I:Nat→σ→Prop) (Pt:τ→Prop) {s0:σ} (h0:I 0 s0)
 (step:∀ k s,k < n→I k s→(∃ s',B ((k:Int),s)=some (.inl (((k + 1:Nat):Int),s'))∧I (k + 1) s') ∨ (∃ t,B ((k:Int),s)=some (.inr t)∧Pt t))
 (last:∀ s,I n s→∃ t,B ((n:Int),s)=some (.inr t)∧Pt t):∃ t,whileO B (0,s0)=some t∧Pt t:=by
 refine whileO_inv (fun s=>∃ k:Nat,k ≤ n∧s.1=(k:Int)∧I k s.2) (fun s=>((n:Int) - s.1).toNat) Pt ⟨0,Nat.zero_le _,rfl,h0⟩ ?_
 rintro ⟨i,s⟩ ⟨k,hk,rfl,hI⟩
 by_cases hlt:k < n
 ·rcases step k s hlt hI with ⟨s',h1,h2⟩ | h
  ·exact .inl ⟨_,h1,⟨k + 1,hlt,rfl,h2⟩,by simp; omega⟩
  ·exact .inr h
 ·obtain rfl:k=n:=by omega
  exact .inr (last s hI)
def Fill {α:Type} (n:Nat) (f:Nat→α) (k:Nat) (s:List α):Prop:=s.length=n∧∀ j,j < k→s[j]?=some (f j)
theorem Fill.zero {α:Type} (n:Nat) (f:Nat→α) (z:α):Fill n f 0 (List.replicate n z):=⟨by simp,fun j hj=>absurd hj (Nat.not_lt_zero j)⟩
theorem Fill.set {α:Type} {n:Nat} {f:Nat→α} {k:Nat} {s:List α} (h:Fill n f k s) (hk:k < n):Fill n f (k + 1) (s.set k (f k)):=by
 refine ⟨by simp [h.1],fun j hj=>?_⟩
 by_cases e:j=k
 ·subst e; simp [h.1,hk]
 ·rw [List.getElem?_set_ne (fun h=>e h.symm)]; exact h.2 j (by omega)
theorem Fill.all {α:Type} {n:Nat} {f:Nat→α} {s:List α} (h:Fill n f n s):s=(List.range n).map f:=by
 apply List.ext_getElem?
 intro j
 by_cases hj:j < n
 ·rw [h.2 j hj]; simp [hj]
 ·rw [List.getElem?_eq_none (by rw [h.1]; omega),List.getElem?_eq_none (by simp; omega)]
theorem idxO_D {α:Type} {xs:List α} {k:Nat} (d:α) (h:k < xs.length):idxO xs (k:Int)=some (xs.getD k d):=by
 rw [idxO_nat h]; simp [h]
theorem mul_bd {u v a b:Int} (u0:0 ≤ u) (u1:u ≤ a) (v0:0 ≤ v) (v1:v ≤ b):0 ≤ u * v∧u * v ≤ a * b:=
 ⟨Int.mul_nonneg u0 v0,Int.mul_le_mul u1 v1 v0 (by omega)⟩
theorem loop_seq {S τ:Type} {B:S→Option (S ⊕ τ)} (c:Nat→S) (n:Nat) {t:τ} (h:∀ k,k < n→B (c k)=some (.inl (c (k + 1)))) (hn:B (c n)=some (.inr t)):whileO B (c 0)=some t:=by
 have key:∀ j k,j + k=n→whileO B (c k)=some t:=by
  intro j
  induction j with
  | zero=>
   intro k hk
   obtain rfl:k=n:=by omega
   exact whileO_done hn
  | succ j ih=>
   intro k hk
   rw [whileO_step (h k (by omega))]
   exact ih _ (by omega)
 exact key n 0 (by omega)
theorem loop_seqf {S τ:Type} {B:S→Option (S ⊕ τ)} (c:Nat→S) (n:Nat) (g:Nat→Bool) {bad t:τ} (h:∀ k,k < n→(∀ j,j < k→g j=true)→B (c k)=some (if g k=true then .inl (c (k + 1)) else .inr bad)) (hn:(∀ j,j < n→g j=true)→B (c n)=some (.inr t)) :
 whileO B (c 0)=some (if (List.range n).all g=true then t else bad):=by
 have key:∀ j k,j + k=n→(∀ i,i < k→g i=true)→whileO B (c k)=some (if (List.range n).all g=true then t else bad):=by
  intro j
  induction j with
  | zero=>
   intro k hk hI
   obtain rfl:k=n:=by omega
   rw [whileO_done (hn hI),if_pos (List.all_eq_true.2 fun i hi=>hI i (List.mem_range.1 hi))]
  | succ j ih=>
   intro k hk hI
   have hb:=h k (by omega) hI
   cases hg:g k with
   | true=>
    rw [hg,if_pos rfl] at hb
    rw [whileO_step hb]
    refine ih _ (by omega) fun i hi=>?_
    by_cases e:i=k
    ·rw [e]; exact hg
    ·exact hI i (by omega)
   | false=>
    rw [hg,if_neg (by decide)] at hb
    rw [whileO_done hb,if_neg]
    intro ha
    have:=List.all_eq_true.1 ha k (List.mem_range.2 (by omega))
    rw [hg] at this; cases this
 exact key n 0 (by omega) fun i hi=>absurd hi (Nat.not_lt_zero i)
theorem wmul {a b:Nat} (h:a * b ≤ 9223372036854775807):w64 ((a:Int) * (b:Int))=((a * b:Nat):Int):=by
 rw [← Int.natCast_mul]; exact w64_of (by omega) (by omega)
theorem wadd {a b:Nat} (h:a + b ≤ 9223372036854775807):w64 ((a:Int) + (b:Int))=((a + b:Nat):Int):=by
 rw [← Int.natCast_add]; exact w64_of (by omega) (by omega)
theorem rem_nat {a b:Nat} (h:0 < b):remI (a:Int) (b:Int)=some ((a % b:Nat):Int):=by
 unfold remI; rw [if_neg (by omega)]; rfl
theorem pl_lt {w h x y:Nat} (hx:x < w) (hy:y < h):y * w + x < w * h:=by
 have:=Nat.mul_le_mul_right w (show y + 1 ≤ h by omega)
 rw [Nat.add_mul,Nat.one_mul,Nat.mul_comm h w] at this
 omega
theorem pl_mod {w x y:Nat} (hx:x < w):(y * w + x) % w=x:=by rw [Nat.mul_comm,Nat.mul_add_mod,Nat.mod_eq_of_lt hx]
theorem pl_div {w x y:Nat} (hx:x < w):(y * w + x) / w=y:=by
 rw [Nat.mul_comm,Nat.mul_add_div (by omega),Nat.div_eq_of_lt hx,Nat.add_zero]
theorem pl_of (t w:Nat):(t / w) * w + t % w=t:=by rw [Nat.mul_comm]; exact Nat.div_add_mod t w
theorem pl_divlt {t w h:Nat} (ht:t < w * h):t / w < h:=Nat.div_lt_of_lt_mul ht
theorem pl_modlt {t w:Nat} (hw:0 < w):t % w < w:=Nat.mod_lt _ hw
theorem pl_inj {w x y x' y':Nat} (hx:x < w) (hx':x' < w) (h:y * w + x=y' * w + x'):x=x'∧y=y':=by
 have h1:=pl_mod (y:=y) hx
 have h2:=pl_div (y:=y) hx
 rw [h] at h1 h2
 rw [pl_mod hx'] at h1
 rw [pl_div hx'] at h2
 exact ⟨h1.symm,h2.symm⟩
def glf {α:Type} (f:Nat→Nat→α) (w n:Nat):List α:=(List.range n).map fun t=>f (t % w) (t / w)
def gl {α:Type} (f:Nat→Nat→α) (w h:Nat):List α:=glf f w (w * h)
theorem gl_len {α:Type} (f:Nat→Nat→α) (w h:Nat):(gl f w h).length=w * h:=by simp [gl,glf]
theorem glf_succ {α:Type} (f:Nat→Nat→α) (w n:Nat):glf f w (n + 1)=glf f w n ++ [f (n % w) (n / w)]:=by simp [glf,List.range_succ]
theorem gl_get {α:Type} (f:Nat→Nat→α) (w h:Nat) (d:α) (x y:Nat) (hx:x < w) (hy:y < h):(gl f w h).getD (y * w + x) d=f x y:=by
 have:=pl_lt hx hy
 simp only [gl,glf,List.getD_eq_getElem?_getD,List.getElem?_map,List.getElem?_range this,Option.map_some,Option.getD_some,pl_mod hx,pl_div hx]
theorem gl_cong {α:Type} {f f':Nat→Nat→α} {w h:Nat} (e:∀ x y,x < w→y < h→f x y=f' x y):gl f w h=gl f' w h:=by
 unfold gl glf
 refine map_cong fun t ht=>?_
 have hw:0 < w:=by rcases Nat.eq_zero_or_pos w with h0 | h0; rw [h0,Nat.zero_mul] at ht; omega; exact h0
 exact e _ _ (pl_modlt hw) (pl_divlt ht)
theorem gl_of {α:Type} {s:List α} {f:Nat→Nat→α} {w h:Nat} (d:α) (hl:s.length=w * h) (hc:∀ x y,x < w→y < h→s.getD (y * w + x) d=f x y):s=gl f w h:=by
 apply List.ext_getElem?
 intro t
 by_cases ht:t < w * h
 ·have hw:0 < w:=by rcases Nat.eq_zero_or_pos w with h0 | h0; rw [h0,Nat.zero_mul] at ht; omega; exact h0
  have:=hc _ _ (pl_modlt (t:=t) hw) (pl_divlt ht)
  rw [pl_of] at this
  rw [List.getElem?_eq_getElem (by omega)]
  simp only [gl,glf,List.getElem?_map,List.getElem?_range ht,Option.map_some,← this]
  simp [hl,ht]
 ·rw [List.getElem?_eq_none (by omega),List.getElem?_eq_none (by rw [gl_len]; omega)]
theorem loop2 {S1 S2 τ1:Type} {l1:Nat→S1→Option (S1 ⊕ τ1)} {τ2:Type} {l2:S2→Option (S2 ⊕ τ2)} (c1:Nat→Nat→S1) (c2:Nat→S2) (e1:Nat→τ1) (w h:Nat) {t:τ2}
 (h1:∀ y x,y < h→x < w→l1 y (c1 y x)=some (.inl (c1 y (x + 1)))) (h1e:∀ y,y < h→l1 y (c1 y w)=some (.inr (e1 y)))
 (h2:∀ y,y < h→whileO (l1 y) (c1 y 0)=some (e1 y)→l2 (c2 y)=some (.inl (c2 (y + 1)))) (h2e:l2 (c2 h)=some (.inr t)):whileO l2 (c2 0)=some t:=
 loop_seq c2 h (fun y hy=>h2 y hy (loop_seq (c1 y) w (fun x hx=>h1 y x hy hx) (h1e y hy))) h2e
theorem loop_same {τ:Type} {B:Int→Option (Int ⊕ τ)} (n:Nat) (good:τ) (h:∀ k,k < n→B (k:Int)=some (.inl ((k + 1:Nat):Int))) (hn:B (n:Int)=some (.inr good)):whileO B 0=some good:=
 loop_seq (fun k=>(k:Int)) n h hn
def sumN (F:Nat→Nat):Nat→Nat
 | 0=>0
 | n + 1=>sumN F n + F n
theorem sumN_cong {F G:Nat→Nat} {n:Nat} (h:∀ k,k < n→F k=G k):sumN F n=sumN G n:=by
 induction n with
 | zero=>rfl
 | succ n ih=>simp only [sumN]; rw [ih (fun k hk=>h k (by omega)),h n (by omega)]
theorem sumN_plus (F G:Nat→Nat) (n:Nat):sumN (fun k=>F k + G k) n=sumN F n + sumN G n:=by
 induction n with
 | zero=>rfl
 | succ n ih=>simp only [sumN,ih]; omega
theorem sumN_zero {F:Nat→Nat} {n:Nat}:sumN F n=0 ↔ ∀ k,k < n→F k=0:=by
 induction n with
 | zero=>exact ⟨fun _ k hk=>by omega,fun _=>rfl⟩
 | succ n ih=>
  simp only [sumN]
  constructor
  ·intro h k hk
   by_cases e:k=n
   ·subst e; omega
   ·exact ih.1 (by omega) k (by omega)
  ·intro h
   have h1:=ih.2 fun k hk=>h k (by omega)
   have h2:=h n (by omega)
   omega
theorem sumN_front (F:Nat→Nat) (n:Nat):sumN F (n + 1)=F 0 + sumN (fun k=>F (k + 1)) n:=by
 induction n with
 | zero=>simp [sumN]
 | succ n ih=>
  rw [show sumN F (n + 1 + 1)=sumN F (n + 1) + F (n + 1) from rfl,ih]
  simp only [sumN]
  omega
theorem sumN_rev (F:Nat→Nat) (n:Nat):sumN (fun k=>F (n - 1 - k)) n=sumN F n:=by
 induction n with
 | zero=>rfl
 | succ n ih=>
  rw [sumN_front]
  simp only [sumN]
  have:sumN (fun k=>F (n + 1 - 1 - (k + 1))) n=sumN (fun k=>F (n - 1 - k)) n:=sumN_cong fun k _=>by congr 1; omega
  rw [this,ih,show n + 1 - 1 - 0=n by omega,Nat.add_comm]
theorem sumN_swap (F:Nat→Nat→Nat) (n m:Nat):sumN (fun y=>sumN (fun x=>F x y) n) m=sumN (fun x=>sumN (fun y=>F x y) m) n:=by
 induction m with
 | zero=>
  have:sumN (fun x=>sumN (fun y=>F x y) 0) n=0:=sumN_zero.2 fun k _=>rfl
  rw [this]; rfl
 | succ m ih=>
  simp only [sumN]
  rw [ih,← sumN_plus]
theorem per_one {n:Nat} {G:Int→Nat} (hp:∀ X,G (X + n)=G X):sumN (fun x=>G ((x:Int) + 1)) n=sumN (fun x=>G (x:Int)) n:=by
 have h1:=sumN_front (fun x=>G (x:Int)) n
 have h2:sumN (fun x=>G (x:Int)) (n + 1)=sumN (fun x=>G (x:Int)) n + G (n:Int):=rfl
 have h3:=hp 0
 rw [Int.zero_add] at h3
 have h4:sumN (fun k=>G ((k + 1:Nat):Int)) n=sumN (fun x=>G ((x:Int) + 1)) n:=sumN_cong fun k _=>by congr 1
 rw [h4] at h1
 rw [h1] at h2
 have h5:G ((0:Nat):Int)=G 0:=rfl
 omega
theorem per_nat {n:Nat}:∀ (k:Nat) {G:Int→Nat} (_:∀ X,G (X + n)=G X),sumN (fun x=>G ((x:Int) + (k:Int))) n=sumN (fun x=>G (x:Int)) n:=by
 intro k
 induction k with
 | zero=>intro G _; exact sumN_cong fun x _=>by rw [show (x:Int) + ((0:Nat):Int)=x by omega]
 | succ k ih=>
  intro G hp
  have h1:=per_one (G:=fun X=>G (X + (k:Int))) (n:=n) (fun X=>by rw [show X + (n:Int) + (k:Int)=X + (k:Int) + (n:Int) by omega]; exact hp _)
  rw [← ih hp,← h1]
  exact sumN_cong fun x _=>by congr 1; omega
theorem per_sh {n:Nat} {G:Int→Nat} (hp:∀ X,G (X + n)=G X) (c:Int):sumN (fun x=>G ((x:Int) + c)) n=sumN (fun x=>G (x:Int)) n:=by
 obtain ⟨k,hk⟩:∃ k:Nat,c=k ∨ c=-(k:Int):=⟨c.natAbs,by omega⟩
 rcases hk with rfl | rfl
 ·exact per_nat k hp
 ·have h1:=per_nat k (G:=fun X=>G (X + -(k:Int))) (n:=n) (fun X=>by rw [show X + (n:Int) + -(k:Int)=X + -(k:Int) + (n:Int) by omega]; exact hp _)
  rw [← h1]
  exact sumN_cong fun x _=>by congr 1; omega
theorem per_neg {n:Nat} {G:Int→Nat} (hp:∀ X,G (X + n)=G X):sumN (fun x=>G (-(x:Int))) n=sumN (fun x=>G (x:Int)) n:=by
 have h1:=sumN_rev (fun x=>G (-(x:Int))) n
 have h2:=per_sh hp (1 - (n:Int))
 rw [← h1,← h2]
 exact sumN_cong fun x hx=>by congr 1; omega
def sg (b:Bool) (X:Int):Int:=if b=true then -X else X
theorem per_sg {n:Nat} {G:Int→Nat} (hp:∀ X,G (X + n)=G X) (b:Bool) (c:Int):sumN (fun x=>G (sg b (x:Int) + c)) n=sumN (fun x=>G (x:Int)) n:=by
 cases b with
 | false=>exact per_sh hp c
 | true=>
  have h1:=per_neg (G:=fun X=>G (X + c)) (n:=n) (fun X=>by rw [show X + (n:Int) + c=X + c + n by omega]; exact hp _)
  have h2:=per_sh hp c
  rw [← h2,← h1]
  rfl
def Per (w h:Nat) (f:Int→Int→Bool):Prop:=(∀ X Y,f (X + w) Y=f X Y)∧∀ X Y,f X (Y + h)=f X Y
def dst (w h:Nat) (f g:Int→Int→Bool):Nat:=sumN (fun y=>sumN (fun x=>if f x y=g x y then 0 else 1) w) h
theorem dst_self (w h:Nat) (f:Int→Int→Bool):dst w h f f=0:=sumN_zero.2 fun y _=>sumN_zero.2 fun x _=>if_pos rfl
structure Mo where
 e:Bool
 p:Bool
 q:Bool
 c:Int
 d:Int
 s:Bool
def act (m:Mo) (f:Int→Int→Bool) (X Y:Int):Bool:=(if m.e=true then f (sg m.p Y + m.c) (sg m.q X + m.d) else f (sg m.p X + m.c) (sg m.q Y + m.d)) != m.s
theorem xr_eq (a b s:Bool):((a != s)=(b != s)) ↔ a=b:=by cases a <;> cases b <;> cases s <;> decide
theorem sg_add (b:Bool) (X n:Int):sg b (X + n)=sg b X + sg b n:=by cases b <;> simp [sg,Int.neg_add]
theorem act_dst {w h:Nat} {f g:Int→Int→Bool} (hf:Per w h f) (hg:Per w h g) (m:Mo) (hm:m.e=true→w=h):dst w h (act m f) (act m g)=dst w h f g:=by
 unfold dst act
 cases he:m.e with
 | false=>
  have h1:∀ y:Int,sumN (fun x=>if f (sg m.p (x:Int) + m.c) y=g (sg m.p (x:Int) + m.c) y then 0 else 1) w=sumN (fun x=>if f (x:Int) y=g (x:Int) y then 0 else 1) w:=fun y=>
   per_sg (G:=fun X=>if f X y=g X y then 0 else 1) (fun X=>by rw [hf.1,hg.1]) m.p m.c
  have h2:=per_sg (n:=h) (G:=fun Y=>sumN (fun x=>if f (x:Int) Y=g (x:Int) Y then 0 else 1) w) (fun Y=>sumN_cong fun x _=>by rw [hf.2,hg.2]) m.q m.d
  rw [← h2]
  refine sumN_cong fun y _=>?_
  rw [← h1]
  exact sumN_cong fun x _=>by simp only [Bool.false_eq_true,if_false,xr_eq]
 | true=>
  obtain rfl:=hm he
  have h1:∀ y:Int,sumN (fun x=>if f (sg m.p (x:Int) + m.c) y=g (sg m.p (x:Int) + m.c) y then 0 else 1) w=sumN (fun x=>if f (x:Int) y=g (x:Int) y then 0 else 1) w:=fun y=>
   per_sg (G:=fun X=>if f X y=g X y then 0 else 1) (fun X=>by rw [hf.1,hg.1]) m.p m.c
  have h2:=per_sg (n:=w) (G:=fun Y=>sumN (fun x=>if f (x:Int) Y=g (x:Int) Y then 0 else 1) w) (fun Y=>sumN_cong fun x _=>by rw [hf.2,hg.2]) m.q m.d
  rw [← h2,sumN_swap]
  refine sumN_cong fun y _=>?_
  rw [← h1]
  exact sumN_cong fun x _=>by simp only [if_true,xr_eq]
theorem act_per {w h:Nat} {f:Int→Int→Bool} (hf:Per w h f) (m:Mo) (hm:m.e=true→w=h):Per w h (act m f):=by
 have n1:∀ X Y,f (X + -(w:Int)) Y=f X Y:=fun X Y=>by rw [← hf.1 (X + -(w:Int)) Y]; congr 1; omega
 have n2:∀ X Y,f X (Y + -(h:Int))=f X Y:=fun X Y=>by rw [← hf.2 X (Y + -(h:Int))]; congr 1; omega
 have s1:∀ (b:Bool) (X c Y:Int),f (sg b (X + w) + c) Y=f (sg b X + c) Y:=by
  intro b X c Y
  rw [sg_add]
  cases b with
  | false=>rw [show sg false X + sg false (w:Int) + c=sg false X + c + w by simp [sg]; omega,hf.1]
  | true=>rw [show sg true X + sg true (w:Int) + c=sg true X + c + -(w:Int) by simp [sg]; omega,n1]
 have s2:∀ (b:Bool) (X Y c:Int),f X (sg b (Y + h) + c)=f X (sg b Y + c):=by
  intro b X Y c
  rw [sg_add]
  cases b with
  | false=>rw [show sg false Y + sg false (h:Int) + c=sg false Y + c + h by simp [sg]; omega,hf.2]
  | true=>rw [show sg true Y + sg true (h:Int) + c=sg true Y + c + -(h:Int) by simp [sg]; omega,n2]
 unfold act
 cases he:m.e with
 | false=>
  simp only [Bool.false_eq_true,if_false]
  exact ⟨fun X Y=>by dsimp only; rw [s1],fun X Y=>by dsimp only; rw [s2]⟩
 | true=>
  obtain rfl:=hm he
  simp only [if_true]
  exact ⟨fun X Y=>by dsimp only; rw [s2],fun X Y=>by dsimp only; rw [s1]⟩
def cmp (m k:Mo):Mo:=
 if m.e=true then
  (if k.e=true then ⟨false,k.p != m.q,k.q != m.p,sg k.p m.d + k.c,sg k.q m.c + k.d,k.s != m.s⟩
  else ⟨true,k.p != m.p,k.q != m.q,sg k.p m.c + k.c,sg k.q m.d + k.d,k.s != m.s⟩)
 else
  (if k.e=true then ⟨true,k.p != m.q,k.q != m.p,sg k.p m.d + k.c,sg k.q m.c + k.d,k.s != m.s⟩
  else ⟨false,k.p != m.p,k.q != m.q,sg k.p m.c + k.c,sg k.q m.d + k.d,k.s != m.s⟩)
theorem sg_sg (a b:Bool) (X c k:Int):sg a (sg b X + c) + k=sg (a != b) X + (sg a c + k):=by
 cases a <;> cases b <;> simp [sg] <;> omega
theorem xr_xr (a s t:Bool):((a != s) != t)=(a != (s != t)):=by cases a <;> cases s <;> cases t <;> rfl
theorem act_act (m k:Mo) (f:Int→Int→Bool):act m (act k f)=act (cmp m k) f:=by
 funext X Y
 obtain ⟨e1,p1,q1,c1,d1,s1⟩:=m
 obtain ⟨e2,p2,q2,c2,d2,s2⟩:=k
 unfold act cmp
 cases e1 <;> cases e2 <;> simp only [Bool.false_eq_true,if_false,if_true,sg_sg,xr_xr]
def inv (m:Mo):Mo:=if m.e=true then ⟨true,m.q,m.p,-sg m.q m.d,-sg m.p m.c,m.s⟩ else ⟨false,m.p,m.q,-sg m.p m.c,-sg m.q m.d,m.s⟩
theorem act_inv (m:Mo) (f:Int→Int→Bool):act (inv m) (act m f)=f:=by
 funext X Y
 obtain ⟨e1,p1,q1,c1,d1,s1⟩:=m
 rw [act_act]
 unfold act cmp inv
 cases e1 <;> simp only [Bool.false_eq_true,if_false,if_true,bne_self_eq_false]
 ·have i1:sg false X + (sg p1 (-sg p1 c1) + c1)=X:=by cases p1 <;> simp [sg] <;> omega
  have i2:sg false Y + (sg q1 (-sg q1 d1) + d1)=Y:=by cases q1 <;> simp [sg] <;> omega
  rw [i1,i2]
  cases f X Y <;> rfl
 ·have i1:sg false X + (sg p1 (-sg p1 c1) + c1)=X:=by cases p1 <;> simp [sg] <;> omega
  have i2:sg false Y + (sg q1 (-sg q1 d1) + d1)=Y:=by cases q1 <;> simp [sg] <;> omega
  rw [i1,i2]
  cases f X Y <;> rfl
def fm (f:Nat→Nat) (big:Nat):Nat→Nat × Nat
 | 0=>(big,0)
 | k + 1=>if f k < (fm f big k).1 then (f k,k) else fm f big k
theorem fm_le (f:Nat→Nat) (big n:Nat):∀ j,j < n→(fm f big n).1 ≤ f j:=by
 induction n with
 | zero=>intro j hj; omega
 | succ n ih=>
  intro j hj
  simp only [fm]
  by_cases c:f n < (fm f big n).1
  ·rw [if_pos c]
   by_cases e:j=n
   ·subst e; exact Nat.le_refl _
   ·have:=ih j (by omega); show f n ≤ f j; omega
  ·rw [if_neg c]
   by_cases e:j=n
   ·subst e; omega
   ·exact ih j (by omega)
theorem fm_at {f:Nat→Nat} {big n:Nat} (hn:0 < n) (h:∀ j,j < n→f j < big):(fm f big n).2 < n∧(fm f big n).1=f (fm f big n).2:=by
 induction n with
 | zero=>omega
 | succ n ih=>
  simp only [fm]
  by_cases c:f n < (fm f big n).1
  ·rw [if_pos c]; exact ⟨by show n < n + 1; omega,rfl⟩
  ·rw [if_neg c]
   cases n with
   | zero=>exact absurd (h 0 (by omega)) c
   | succ n=>
    obtain ⟨h1,h2⟩:=ih (by omega) fun j hj=>h j (by omega)
    exact ⟨by omega,h2⟩
theorem fm_stop {f:Nat→Nat} {big k:Nat} (h:(fm f big k).1=0):∀ n,fm f big (k + n)=fm f big k:=by
 intro n
 induction n with
 | zero=>rfl
 | succ n ih=>
  rw [← Nat.add_assoc]
  simp only [fm]
  rw [if_neg (by rw [ih,h]; omega),ih]
noncomputable def F_raddleref46_GreatGrid (p0:api_Grid):Option Bool:=
 Option.bind (α:=Bool) (
  if decide (36 < (p0.Bits.length:Int)) then
   if decide (p0.W ≤ 16) then
    if decide (p0.H ≤ 16) then
     some true
    else
     some (decide (4200 < (p0.Bits.length:Int)))
   else
    some (decide (4200 < (p0.Bits.length:Int)))
  else
   some (decide (4200 < (p0.Bits.length:Int)))) fun o7=>
 some o7
theorem c_raddleref46_GreatGrid (E:Nat→Prop) (w0:World) (p0:api_Grid) (v0:Value) (r:Bool) (h:F_raddleref46_GreatGrid p0=some r) (S:St0 E [] w0 w0 [] [fRep r_api_Grid (v0) p0]) :
 Calls Try.prog 12 #[v0] w0 (Ret (X:=Unit) E [] w0 (fun _=>.bool r) (fun _=>[]) (fun _=>[])):=by
 unfold F_raddleref46_GreatGrid at h
 obtain ⟨u1,rfl,a9⟩:=S.know (i:=0) (e:=fRep r_api_Grid (v0) p0) d
 have S:=S.learn (fRep (rL rB) u1 p0.Bits) a9
 obtain ⟨a7,a8,_,rfl,_⟩:=a9
 refine sEnter (args:=[.agg #[iv p0.W,iv p0.H,.slice a7 p0.Bits.length a8]]) 23 Try.func12 d d (by simp) S (fun a S=>?_)
 refine sSeq (fun K5 aa=>sRegion (sBox (v:=.agg #[iv p0.W,iv p0.H,.slice a7 p0.Bits.length a8]) S (wN d) d d [iv p0.W,iv p0.H,.slice a7 p0.Bits.length a8] d d (lb d) fun a b6 w S=>sN S fun a S=>?_))
 refine lT (aa _ _ ?_)
 obtain ⟨t8,h,g9⟩:=bS h
 refine sCut (fun a w=>∃ o7,o7=t8∧St [] E [] w0 23 a w [(2,.bool o7)] [] []) ?_ (fun a w hI=>?_)
 rotate_left
 ·obtain ⟨o7,rfl,S⟩:=hI
  have h:=g9
  try dsimp only at h
  obtain rfl:=tS h
  exact wp_ret (sRet (.bool o7) S (rsl1 d (rvT (t:=2) (v:=.bool o7) S d)) ⟨(),d,S.mem.sel [] [] (by decide) d d⟩)
 refine sRegion (sField (b:=b6) (off:=0) 2 2 S (wN d) d d d d d (lb d) fun a S=>sLoad1 0 (.slice a7 p0.Bits.length a8) S (wN d) d d d d d d (lb d) fun a S=>sLen S (wN d) d Try.underlying22 d d (lb d) fun a S=>sBin _ S (wN d) d d d (bGt _ _ _ _ .i64 (p0.Bits.length:Int) 36) d (lb d) fun a S=>sM S fun a S=>?_)
 rcases iS h with ⟨a5,h⟩ | ⟨a5,h⟩
 rotate_left
 ·refine sSkN 3 4 true 7 S d d a5 d fun a S=>sPickF (.bool false) S (wN d) d d a5 d d (lb d) fun a S=>sM S fun a S=>?_
  refine sSkN 3 9 true 12 S d d d d fun a S=>sPickF (.bool false) S (wN d) d d d d d (lb d) fun a S=>sM S fun a S=>?_
  refine sField (b:=b6) (off:=0) 2 2 S (wG 14 false 17 d d d d) d d d d d (lb d) fun a S=>sLoad1 0 (.slice a7 p0.Bits.length a8) S (wG 14 false 17 d d d d) d d d d d d (lb d) fun a S=>sLen S (wG 14 false 17 d d d d) d Try.underlying22 d d (lb d) fun a S=>sBin _ S (wG 14 false 17 d d d d) d d d (bGt _ _ _ _ .i64 (p0.Bits.length:Int) 4200) d (lb d) fun a S=>sPickF (.bool (decide (4200 < (p0.Bits.length:Int)))) S (wN d) d d d d d (lb d) fun a S=>sN S fun a S=>?_
  exact lT (⟨decide (4200 < (p0.Bits.length:Int)),Option.some.inj h,S.fix [] [] (by decide) d d d⟩)
 refine sField (b:=b6) (off:=0) 0 0 S (wG 4 true 7 d d d a5) d d d d d (lb d) fun a S=>sLoad1 0 (iv p0.W) S (wG 4 true 7 d d d a5) d d d d d d (lb d) fun a S=>sBin _ S (wG 4 true 7 d d d a5) d d d (bLe _ _ _ _ .i64 p0.W 16) d (lb d) fun a S=>sPickT (.bool (decide (p0.W ≤ 16))) S (wN d) d d a5 d d (lb d) fun a S=>sM S fun a S=>?_
 rcases iS h with ⟨a6,h⟩ | ⟨a6,h⟩
 rotate_left
 ·refine sSkN 3 9 true 12 S d d a6 d fun a S=>sPickF (.bool false) S (wN d) d d a6 d d (lb d) fun a S=>sM S fun a S=>?_
  refine sField (b:=b6) (off:=0) 2 2 S (wG 14 false 17 d d d d) d d d d d (lb d) fun a S=>sLoad1 0 (.slice a7 p0.Bits.length a8) S (wG 14 false 17 d d d d) d d d d d d (lb d) fun a S=>sLen S (wG 14 false 17 d d d d) d Try.underlying22 d d (lb d) fun a S=>sBin _ S (wG 14 false 17 d d d d) d d d (bGt _ _ _ _ .i64 (p0.Bits.length:Int) 4200) d (lb d) fun a S=>sPickF (.bool (decide (4200 < (p0.Bits.length:Int)))) S (wN d) d d d d d (lb d) fun a S=>sN S fun a S=>?_
  exact lT (⟨decide (4200 < (p0.Bits.length:Int)),Option.some.inj h,S.fix [] [] (by decide) d d d⟩)
 refine sField (b:=b6) (off:=0) 1 1 S (wG 9 true 12 d d d a6) d d d d d (lb d) fun a S=>sLoad1 0 (iv p0.H) S (wG 9 true 12 d d d a6) d d d d d d (lb d) fun a S=>sBin _ S (wG 9 true 12 d d d a6) d d d (bLe _ _ _ _ .i64 p0.H 16) d (lb d) fun a S=>sPickT (.bool (decide (p0.H ≤ 16))) S (wN d) d d a6 d d (lb d) fun a S=>sM S fun a S=>?_
 rcases iS h with ⟨a0,h⟩ | ⟨a0,h⟩
 ·refine sSkN 4 14 false 17 S d d a0 d fun a S=>sPickT (.bool true) S (wN d) d d a0 d d (lb d) fun a S=>sN S fun a S=>?_
  exact lT (⟨true,Option.some.inj h,S.fix [] [] (by decide) d d d⟩)
 refine sField (b:=b6) (off:=0) 2 2 S (wG 14 false 17 d d d a0) d d d d d (lb d) fun a S=>sLoad1 0 (.slice a7 p0.Bits.length a8) S (wG 14 false 17 d d d a0) d d d d d d (lb d) fun a S=>sLen S (wG 14 false 17 d d d a0) d Try.underlying22 d d (lb d) fun a S=>sBin _ S (wG 14 false 17 d d d a0) d d d (bGt _ _ _ _ .i64 (p0.Bits.length:Int) 4200) d (lb d) fun a S=>sPickF (.bool (decide (4200 < (p0.Bits.length:Int)))) S (wN d) d d a0 d d (lb d) fun a S=>sN S fun a S=>?_
 exact lT (⟨decide (4200 < (p0.Bits.length:Int)),Option.some.inj h,S.fix [] [] (by decide) d d d⟩)
def anc_raddleref01_Twin_0:List (List Nat):=[[],[0],[],[2],[],[],[5],[4,5,6],[0,1,2,3,4,5,6,7],[0,1,2,3,4,5,6,7,8]]
noncomputable def F_raddleref01_Twin (p0:api_Grid):Option api_Grid:=
 (appO ([]:List Bool) p0.Bits).bind fun a0=>
 some (api_Grid.mk p0.W p0.H a0)
def c_raddleref01_Twin_val (r:api_Grid) (x:Value):Value:=x
def c_raddleref01_Twin_D (r:api_Grid) (x:Value):List Fact:=[fRep r_api_Grid x r]
theorem c_raddleref01_Twin (E:Nat→Prop) (w0:World) (p0:api_Grid) (v0:Value) (r:api_Grid) (h:F_raddleref01_Twin p0=some r) (S:St0 E [] w0 w0 [] [fRep r_api_Grid (v0) p0]) :
 Calls Try.prog 13 #[v0] w0 (Ret (X:=Value) E [] w0 (c_raddleref01_Twin_val r) (fun _=>[]) (c_raddleref01_Twin_D r)):=by
 unfold F_raddleref01_Twin at h
 obtain ⟨u1,rfl,ac⟩:=S.know (i:=0) (e:=fRep r_api_Grid (v0) p0) d
 have S:=S.learn (fRep (rL rB) u1 p0.Bits) ac
 obtain ⟨a7,a8,_,rfl,_⟩:=ac
 refine sEnter (args:=[.agg #[iv p0.W,iv p0.H,.slice a7 p0.Bits.length a8]]) 12 Try.func13 d d (by simp) S (fun a S=>?_)
 refine sSeq (fun K5 ae=>sRegion (sBox (v:=.agg #[iv p0.W,iv p0.H,.slice a7 p0.Bits.length a8]) S (wN d) d d [iv p0.W,iv p0.H,.slice a7 p0.Bits.length a8] d d (lb d) fun a b6 w S=>sAlloc (.agg #[iv 0,iv 0,.slice none 0 0]) S (wN d) d d [iv 0,iv 0,.slice none 0 0] d d (lb d) fun a b7 w S=>lT (ae _ _ (sSeq (fun K8 af=>?_)))))
 obtain ⟨a6,ab,h⟩:=bS h
 refine sDraw (nf:=[4,7,9]) (W:=[(0,3,.pointer (some ⟨b6,0,none⟩)),(1,4,iv p0.W),(2,5,.pointer (some ⟨b6,1,none⟩)),(3,6,iv p0.H),(5,8,.pointer (some ⟨b6,2,none⟩)),(6,9,.slice a7 p0.Bits.length a8)]) d S ?_
 refine node_by (A:=anc_raddleref01_Twin_0) 10 (by kernel_rfl) (by kernel_rfl) (by kernel_rfl) (by kernel_rfl) (by kernel_rfl) [0,1,2,3,5,6] (by kernel_rfl) (by decide) (by decide) (fF ?_ (fF ?_ (fF ?_ (fF ?_ (fN ?_ (fF ?_ (fF ?_ (aB 7 2 4 (by decide) (fE 4 (aB 9 0 4 (by decide) (trivial))))))))))) [] (fun q hq=>by cases hq) (fun hY=>absurd (hY 4 (by decide)) (by decide))
 ·refine fJ [(1,_)] 0 [none] fun G a w S=>?_
  exact sField (b:=b6) (off:=0) 0 0 S (wN d) d d d d d (lb d) fun a S=>leafL ⟨d,S⟩
 ·refine fJ [(3,_)] 1 [some 0] fun G a w S=>?_
  exact sLoad1 1 (iv p0.W) S (wN d) d d d d d d (lb d) fun a S=>leafL ⟨d,S⟩
 ·refine fJ [(1,_)] 2 [none] fun G a w S=>?_
  exact sField (b:=b6) (off:=0) 1 1 S (wN d) d d d d d (lb d) fun a S=>leafL ⟨d,S⟩
 ·refine fJ [(5,_)] 3 [some 2] fun G a w S=>?_
  exact sLoad1 1 (iv p0.H) S (wN d) d d d d d d (lb d) fun a S=>leafL ⟨d,S⟩
 ·refine ⟨_,[],d,(srcs_of [] d d d),fun G a w S=>?_⟩
  refine sLit0 (α:=Bool) rB (T:=4) S (wN d) d Try.underlying22 d d (lb d) fun a w a9 aa S=>leafL ⟨d,_,_,.inl ⟨7,(.slice a9 ([]:List Bool).length aa),[],d,S,hz_of d,?_⟩⟩
  refine node_by (A:=anc_raddleref01_Twin_0) 10 (by kernel_rfl) (by kernel_rfl) (by kernel_rfl) (by kernel_rfl) (by kernel_rfl) [4,0,1,2,3,5,6] (by kernel_rfl) (by decide) (by decide) (fF ?_ (fF ?_ (fF ?_ (fF ?_ (fY (fF ?_ (fF ?_ (fN ?_ (fE 7 (aB 9 0 7 (by decide) (trivial))))))))))) [] (fun q hq=>by cases hq) (fun hY=>absurd (hY 7 (by decide)) (by decide))
  ·refine fJ [(1,_)] 1 [none] fun G a w S=>?_
   exact sField (b:=b6) (off:=0) 0 0 S (wN d) d d d d d (lb d) fun a S=>leafL ⟨d,S⟩
  ·refine fJ [(3,_)] 2 [some 1] fun G a w S=>?_
   exact sLoad1 2 (iv p0.W) S (wN d) d d d d d d (lb d) fun a S=>leafL ⟨d,S⟩
  ·refine fJ [(1,_)] 3 [none] fun G a w S=>?_
   exact sField (b:=b6) (off:=0) 1 1 S (wN d) d d d d d (lb d) fun a S=>leafL ⟨d,S⟩
  ·refine fJ [(5,_)] 4 [some 3] fun G a w S=>?_
   exact sLoad1 2 (iv p0.H) S (wN d) d d d d d d (lb d) fun a S=>leafL ⟨d,S⟩
  ·refine fJ [(1,_)] 5 [none] fun G a w S=>?_
   exact sField (b:=b6) (off:=0) 2 2 S (wN d) d d d d d (lb d) fun a S=>leafL ⟨d,S⟩
  ·refine fJ [(8,_)] 6 [some 5] fun G a w S=>?_
   exact sLoad1 2 (.slice a7 p0.Bits.length a8) S (wN d) d d d d d d (lb d) fun a S=>leafL ⟨d,S⟩
  refine ⟨_,[(7,.slice a9 ([]:List Bool).length aa),(9,.slice a7 p0.Bits.length a8)],d,(srcs_of [some 0,some 6] d d d),fun G a w S=>?_⟩
  refine sApp (r:=rB) (T:=4) (xs:=([]:List Bool)) (ys:=p0.Bits) (v:=.slice a9 ([]:List Bool).length aa) (u:=.slice a7 p0.Bits.length a8) 0 (.bool false) 1 S (wN d) d Try.underlying22 d d (by decide) d d d (src_D 0 S.mem d) ab d (lb d) fun a w a0 a5 S=>leafL ⟨d,_,_,.inl ⟨10,(.slice a0 a6.length a5),[(8,11,.agg #[iv p0.W,iv p0.H,.slice a0 a6.length a5])],d,S,hz_of d,?_⟩⟩
  refine node_by (A:=anc_raddleref01_Twin_0) 10 (by kernel_rfl) (by kernel_rfl) (by kernel_rfl) (by kernel_rfl) (by kernel_rfl) [8,7,4,0,1,2,3,5,6] (by kernel_rfl) (by decide) (by decide) (fF ?_ (fF ?_ (fF ?_ (fF ?_ (fY (fD 7 (fD 7 (fY (fF ?_ (fN ?_ (trivial))))))))))) [] (fun q hq=>by cases hq) (fun hY=>absurd (hY 9 (by decide)) (by decide))
  ·refine fJ [(1,_)] 3 [none] fun G a w S=>?_
   exact sField (b:=b6) (off:=0) 0 0 S (wN d) d d d d d (lb d) fun a S=>leafL ⟨d,S⟩
  ·refine fJ [(3,_)] 4 [some 3] fun G a w S=>?_
   exact sLoad1 2 (iv p0.W) S (wN d) d d d d d d (lb d) fun a S=>leafL ⟨d,S⟩
  ·refine fJ [(1,_)] 5 [none] fun G a w S=>?_
   exact sField (b:=b6) (off:=0) 1 1 S (wN d) d d d d d (lb d) fun a S=>leafL ⟨d,S⟩
  ·refine fJ [(5,_)] 6 [some 5] fun G a w S=>?_
   exact sLoad1 2 (iv p0.H) S (wN d) d d d d d d (lb d) fun a S=>leafL ⟨d,S⟩
  ·refine fJ [(4,_),(6,_),(10,_)] 0 [some 4,some 6,some 1] fun G a w S=>?_
   exact sBuild [(0,iv p0.W),(1,iv p0.H),(2,.slice a0 a6.length a5)] [iv p0.W,iv p0.H,.slice a0 a6.length a5] S (wN d) d d d d (lb d) fun a S=>leafL ⟨d,S⟩
  refine ⟨_,[(2,.pointer (some ⟨b7,0,none⟩)),(11,.agg #[iv p0.W,iv p0.H,.slice a0 a6.length a5])],d,(srcs_of [none,some 0] d d d),fun G a w S=>?_⟩
  refine sStore (p:=b7) (off:=0) (T:=24) (vs:=[iv 0,iv 0,.slice none 0 0]) (v:=.agg #[iv p0.W,iv p0.H,.slice a0 a6.length a5]) 1 [iv p0.W,iv p0.H,.slice a0 a6.length a5] S (wN d) d d d d d d d (by simp) d fun a w S=>leafL ⟨d,_,_,.inr ⟨[],d,S,hz_of d,?_⟩⟩
  refine node_by (A:=anc_raddleref01_Twin_0) 10 (by kernel_rfl) (by kernel_rfl) (by kernel_rfl) (by kernel_rfl) (by kernel_rfl) [8,7,4,0,1,2,3,5,6] (by kernel_rfl) (by decide) (by decide) (fD 9 (fD 9 (fD 9 (fD 9 (fY (fD 9 (fD 9 (fY (fD 9 (fY (trivial))))))))))) [(2,.pointer (some ⟨b7,0,none⟩))] (fin_of [none] d (by kernel_rfl) (by kernel_rfl)) (fun _ a w S=>?_)
  refine leafT (af _ _ ?_)
  obtain rfl:=tS h
  have S:=S.shutR (r:=rB) (T:=4) (v:=.slice a0 a6.length a5) (xs:=a6) 1 d
  have S:=S.learn (fRep r_api_Grid (.agg #[iv p0.W,iv p0.H,.slice a0 a6.length a5]) (api_Grid.mk p0.W p0.H a6)) ⟨_,d,S.mem.know (i:=0) (e:=fRep (rL rB) (.slice a0 a6.length a5) a6) d⟩
  exact wp_ret (sRet (.agg #[iv p0.W,iv p0.H,.slice a0 a6.length a5]) S (rsl1 d (rvN (c:=2) (t:=24) (T:=24) (p:=b7) 0 [iv p0.W,iv p0.H,.slice a0 a6.length a5] S d d d d)) ⟨(.agg #[iv p0.W,iv p0.H,.slice a0 a6.length a5]),d,S.mem.sel [] [0] (by decide) d d⟩)
 ·refine fJ [(1,_)] 4 [none] fun G a w S=>?_
  exact sField (b:=b6) (off:=0) 2 2 S (wN d) d d d d d (lb d) fun a S=>leafL ⟨d,S⟩
 refine fJ [(8,_)] 5 [some 4] fun G a w S=>?_
 exact sLoad1 1 (.slice a7 p0.Bits.length a8) S (wN d) d d d d d d (lb d) fun a S=>leafL ⟨d,S⟩
noncomputable def F_raddleref01_Check (p0:api_Grid):Option Int:=
 Option.bind (α:=Bool) (
  if decide (64 < p0.W) then
   some true
  else
   some (decide (64 < p0.H))) fun o8=>
 if o8 then
  some 4
 else
  Option.bind (α:=Bool) (
   if decide (p0.W < 1) then
    some true
   else
    if decide (p0.H < 1) then
     some true
    else
     some ((p0.Bits.length:Int) != (w64 (p0.W * p0.H)))) fun a0=>
  if a0 then
   some 8
  else
   some 0
theorem c_raddleref01_Check (E:Nat→Prop) (w0:World) (p0:api_Grid) (v0:Value) (r:Int) (h:F_raddleref01_Check p0=some r) (S:St0 E [] w0 w0 [] [fRep r_api_Grid (v0) p0]) :
 Calls Try.prog 80 #[v0] w0 (Ret (X:=Unit) E [] w0 (fun _=>.int .i64 r) (fun _=>[]) (fun _=>[])):=by
 unfold F_raddleref01_Check at h
 obtain ⟨u1,rfl,ah⟩:=S.know (i:=0) (e:=fRep r_api_Grid (v0) p0) d
 have S:=S.learn (fRep (rL rB) u1 p0.Bits) ah
 obtain ⟨a9,aa,_,rfl,_⟩:=ah
 refine sEnter (args:=[.agg #[iv p0.W,iv p0.H,.slice a9 p0.Bits.length aa]]) 30 Try.func80 d d (by simp) S (fun a S=>?_)
 refine sSeq (fun K5 ai=>sRegion (sBox (v:=.agg #[iv p0.W,iv p0.H,.slice a9 p0.Bits.length aa]) S (wN d) d d [iv p0.W,iv p0.H,.slice a9 p0.Bits.length aa] d d (lb d) fun a b6 w S=>sN S fun a S=>?_))
 refine lT (ai _ _ (sSeq (fun K7 aj=>?_)))
 obtain ⟨t9,h,ak⟩:=bS h
 refine sCut (fun a w=>∃ o8,o8=t9∧St [] E [] w0 30 a w [(1,.pointer (some ⟨b6,0,none⟩)),(10,.bool o8)] [eBox b6 24 [iv p0.W,iv p0.H,.slice a9 p0.Bits.length aa]] [fRep (rL rB) (.slice a9 p0.Bits.length aa) p0.Bits]) ?_ (fun a w hI=>?_)
 ·refine sRegion (sField (b:=b6) (off:=0) 0 0 S (wN d) d d d d d (lb d) fun a S=>sLoad1 0 (iv p0.W) S (wN d) d d d d d d (lb d) fun a S=>sBin _ S (wN d) d d d (bGt _ _ _ _ .i64 p0.W 64) d (lb d) fun a S=>sM S fun a S=>?_)
  rcases iS h with ⟨a5,h⟩ | ⟨a5,h⟩
  ·refine sSkN 3 3 false 6 S d d a5 d fun a S=>sPickT (.bool true) S (wN d) d d a5 d d (lb d) fun a S=>?_
   exact lT (⟨true,Option.some.inj h,S.fix [0] [0] (by decide) d d d⟩)
  refine sField (b:=b6) (off:=0) 1 1 S (wG 3 false 6 d d d a5) d d d d d (lb d) fun a S=>sLoad1 0 (iv p0.H) S (wG 3 false 6 d d d a5) d d d d d d (lb d) fun a S=>sBin _ S (wG 3 false 6 d d d a5) d d d (bGt _ _ _ _ .i64 p0.H 64) d (lb d) fun a S=>sPickF (.bool (decide (64 < p0.H))) S (wN d) d d a5 d d (lb d) fun a S=>?_
  exact lT (⟨decide (64 < p0.H),Option.some.inj h,S.fix [0] [0] (by decide) d d d⟩)
 obtain ⟨o8,rfl,S⟩:=hI
 have h:=ak
 try dsimp only at h
 rcases iS h with ⟨a7,h⟩ | ⟨a7,h⟩
 ·refine sCondT S d a7 (sSeq (fun ao ab=>sRegion (sN S fun a S=>?_)))
  refine lT (ab _ _ ?_)
  obtain rfl:=tS h
  exact wp_ret (rThen (sRet (iv 4) S (rsl1 d (rvT (t:=2) (v:=iv 4) S d)) ⟨(),d,S.mem.sel [] [] (by decide) d d⟩))
 refine sCondF S d a7 (wp_skip (leafT (aj _ _ ?_)))
 refine sSeq (fun ap ac=>?_)
 obtain ⟨al,h,am⟩:=bS h
 refine sCut (fun a w=>∃ ae,ae=al∧St [] E [] w0 30 a w [(29,.bool ae)] [] []) ?_ (fun a w hI=>?_)
 rotate_left
 ·obtain ⟨ae,rfl,S⟩:=hI
  have h:=am
  try dsimp only at h
  rcases iS h with ⟨a8,h⟩ | ⟨a8,h⟩
  ·refine sCondT S d a8 (sSeq (fun aq af=>sRegion (sN S fun a S=>?_)))
   refine lT (af _ _ ?_)
   obtain rfl:=tS h
   exact wp_ret (rThen (sRet (iv 8) S (rsl1 d (rvT (t:=2) (v:=iv 8) S d)) ⟨(),d,S.mem.sel [] [] (by decide) d d⟩))
  refine sCondF S d a8 (wp_skip (leafT (ac _ _ ?_)))
  refine sSeq (fun ar ag=>sRegion (sN S fun a S=>?_))
  refine lT (ag _ _ ?_)
  obtain rfl:=tS h
  exact wp_ret (sRet (iv 0) S (rsl1 d (rvT (t:=2) (v:=iv 0) S d)) ⟨(),d,S.mem.sel [] [] (by decide) d d⟩)
 refine sRegion (sField (b:=b6) (off:=0) 0 0 S (wN d) d d d d d (lb d) fun a S=>sLoad1 0 (iv p0.W) S (wN d) d d d d d d (lb d) fun a S=>sBin _ S (wN d) d d d (bLt _ _ _ _ .i64 p0.W 1) d (lb d) fun a S=>sM S fun a S=>?_)
 rcases iS h with ⟨a6,h⟩ | ⟨a6,h⟩
 ·refine sSkN 3 3 false 14 S d d a6 d fun a S=>sPickT (.bool true) S (wN d) d d a6 d d (lb d) fun a S=>sM S fun a S=>?_
  refine sSkN 9 8 false 19 S d d d d fun a S=>sPickT (.bool true) S (wN d) d d d d d (lb d) fun a S=>?_
  exact lT (⟨true,Option.some.inj h,S.fix [] [] (by decide) d d d⟩)
 refine sField (b:=b6) (off:=0) 1 1 S (wG 3 false 14 d d d a6) d d d d d (lb d) fun a S=>sLoad1 0 (iv p0.H) S (wG 3 false 14 d d d a6) d d d d d d (lb d) fun a S=>sBin _ S (wG 3 false 14 d d d a6) d d d (bLt _ _ _ _ .i64 p0.H 1) d (lb d) fun a S=>sPickF (.bool (decide (p0.H < 1))) S (wN d) d d a6 d d (lb d) fun a S=>sM S fun a S=>?_
 rcases iS h with ⟨a0,h⟩ | ⟨a0,h⟩
 ·refine sSkN 9 8 false 19 S d d a0 d fun a S=>sPickT (.bool true) S (wN d) d d a0 d d (lb d) fun a S=>?_
  exact lT (⟨true,Option.some.inj h,S.fix [] [] (by decide) d d d⟩)
 refine sField (b:=b6) (off:=0) 2 2 S (wG 8 false 19 d d d a0) d d d d d (lb d) fun a S=>sLoad1 0 (.slice a9 p0.Bits.length aa) S (wG 8 false 19 d d d a0) d d d d d d (lb d) fun a S=>sLen S (wG 8 false 19 d d d a0) d Try.underlying22 d d (lb d) fun a S=>sField (b:=b6) (off:=0) 0 0 S (wG 8 false 19 d d d a0) d d d d d (lb d) fun a S=>sLoad1 0 (iv p0.W) S (wG 8 false 19 d d d a0) d d d d d d (lb d) fun a S=>sField (b:=b6) (off:=0) 1 1 S (wG 8 false 19 d d d a0) d d d d d (lb d) fun a S=>sLoad1 0 (iv p0.H) S (wG 8 false 19 d d d a0) d d d d d d (lb d) fun a S=>sBin _ S (wG 8 false 19 d d d a0) d d d (bMul _ _ _ _ p0.W p0.H) d (lb d) fun a S=>sBin _ S (wG 8 false 19 d d d a0) d d d (bNe _ _ _ _ .i64 (p0.Bits.length:Int) (w64 (p0.W * p0.H))) d (lb d) fun a S=>sPickF (.bool ((p0.Bits.length:Int) != (w64 (p0.W * p0.H)))) S (wN d) d d a0 d d (lb d) fun a S=>?_
 exact lT (⟨(p0.Bits.length:Int) != (w64 (p0.W * p0.H)),Option.some.inj h,S.fix [] [] (by decide) d d d⟩)
noncomputable def F_raddleref01_Both (p0:api_Grid) (p1:api_Grid):Option Int:=
 (F_raddleref01_Check p0).bind fun a0=>
 if a0 != 0 then
  some a0
 else
  (F_raddleref01_Check p1).bind fun a5=>
  some a5
theorem c_raddleref01_Both (E:Nat→Prop) (w0:World) (p0:api_Grid) (v0:Value) (p1:api_Grid) (v1:Value) (r:Int) (h:F_raddleref01_Both p0 p1=some r) (S:St0 E [] w0 w0 [] [fRep r_api_Grid (v0) p0,fRep r_api_Grid (v1) p1]) :
 Calls Try.prog 47 #[v0,v1] w0 (Ret (X:=Unit) E [] w0 (fun _=>.int .i64 r) (fun _=>[]) (fun _=>[])):=by
 unfold F_raddleref01_Both at h
 obtain ⟨u1,rfl,ai⟩:=S.know (i:=0) (e:=fRep r_api_Grid (v0) p0) d
 have S:=S.learn (fRep (rL rB) u1 p0.Bits) ai
 obtain ⟨a0,a5,_,rfl,_⟩:=ai
 obtain ⟨u5,rfl,aj⟩:=S.know (i:=2) (e:=fRep r_api_Grid (v1) p1) d
 have S:=S.learn (fRep (rL rB) u5 p1.Bits) aj
 obtain ⟨a6,a7,_,rfl,_⟩:=aj
 refine sEnter (args:=[.agg #[iv p0.W,iv p0.H,.slice a0 p0.Bits.length a5],.agg #[iv p1.W,iv p1.H,.slice a6 p1.Bits.length a7]]) 12 Try.func47 d d (by simp) S (fun a S=>?_)
 refine sSeq (fun K9 al=>sRegion (sBox (v:=.agg #[iv p0.W,iv p0.H,.slice a0 p0.Bits.length a5]) S (wN d) d d [iv p0.W,iv p0.H,.slice a0 p0.Bits.length a5] d d (lb d) fun a ak w S=>sBox (v:=.agg #[iv p1.W,iv p1.H,.slice a6 p1.Bits.length a7]) S (wN d) d d [iv p1.W,iv p1.H,.slice a6 p1.Bits.length a7] d d (lb d) fun a am w S=>sN S fun a S=>?_))
 refine lT (al _ _ (sSeq (fun ao ac=>sSeq (fun ap ae=>sRegion (sLoadN (p:=ak) (off:=0) (T:=24) (vs:=[iv p0.W,iv p0.H,.slice a0 p0.Bits.length a5]) 1 [iv p0.W,iv p0.H,.slice a0 p0.Bits.length a5] S (wN d) d d d d d d d (lb d) fun a S=>?_)))))
 obtain ⟨a8,aa,h⟩:=bS h
 have S1:=S.mem
 refine sCq [.agg #[iv p0.W,iv p0.H,.slice a0 p0.Bits.length a5]] (iv a8) S callee80 (S1.quiet [2] d) (fun E1 w1 S1=>c_raddleref01_Check E1 w1 p0 (.agg #[iv p0.W,iv p0.H,.slice a0 p0.Bits.length a5]) a8 aa S1) fun a w S=>?_
 refine sBin _ S (wN d) d d d (bNe _ _ _ _ .i64 a8 0) d (lb d) fun a S=>lT (ae _ _ ?_)
 rcases iS h with ⟨a9,h⟩ | ⟨a9,h⟩
 ·refine sCondT S d a9 (sSeq (fun aq af=>sRegion (sLoadN (p:=ak) (off:=0) (T:=24) (vs:=[iv p0.W,iv p0.H,.slice a0 p0.Bits.length a5]) 1 [iv p0.W,iv p0.H,.slice a0 p0.Bits.length a5] S (wN d) d d d d d d d (lb d) fun a S=>?_)))
  have S1:=S.mem
  refine sCq [.agg #[iv p0.W,iv p0.H,.slice a0 p0.Bits.length a5]] (iv a8) S callee80 (S1.quiet [2] d) (fun E1 w1 S1=>c_raddleref01_Check E1 w1 p0 (.agg #[iv p0.W,iv p0.H,.slice a0 p0.Bits.length a5]) a8 aa S1) fun a w S=>?_
  refine sN S fun a S=>?_
  refine lT (af _ _ ?_)
  obtain rfl:=tS h
  exact wp_ret (rThen (sRet (iv a8) S (rsl1 d (rvT (t:=4) (v:=iv a8) S d)) ⟨(),d,S.mem.sel [] [] (by decide) d d⟩))
 refine sCondF S d a9 (wp_skip (leafT (ac _ _ ?_)))
 refine sSeq (fun ar ag=>sRegion (sLoadN (p:=am) (off:=0) (T:=24) (vs:=[iv p1.W,iv p1.H,.slice a6 p1.Bits.length a7]) 0 [iv p1.W,iv p1.H,.slice a6 p1.Bits.length a7] S (wN d) d d d d d d d (lb d) fun a S=>?_))
 obtain ⟨ab,ah,h⟩:=bS h
 have S1:=S.mem
 refine sCq [.agg #[iv p1.W,iv p1.H,.slice a6 p1.Bits.length a7]] (iv ab) S callee80 (S1.quiet [3] d) (fun E1 w1 S1=>c_raddleref01_Check E1 w1 p1 (.agg #[iv p1.W,iv p1.H,.slice a6 p1.Bits.length a7]) ab ah S1) fun a w S=>?_
 refine sN S fun a S=>?_
 refine lT (ag _ _ ?_)
 obtain rfl:=tS h
 exact wp_ret (sRet (iv ab) S (rsl1 d (rvT (t:=4) (v:=iv ab) S d)) ⟨(),d,S.mem.sel [] [] (by decide) d d⟩)
noncomputable def raddleref46_differ_l1 (p0:api_Grid) (p1:api_Grid):(Int × Int)→Option ((Int × Int) ⊕ Int):=fun s0=>match s0 with
 | (a5,a0)=>
  if decide (a0 < (p0.Bits.length:Int)) then
   Option.bind (α:=Int) (
    (idxO p0.Bits a0).bind fun a6=>
    (idxO p1.Bits a0).bind fun a7=>
    if a6 != a7 then
     some (w64 (a5 + 1))
    else
     some a5) fun a8=>
   some (.inl (a8,w64 (a0 + 1)))
  else
   some (.inr a5)
noncomputable def F_raddleref46_differ (p0:api_Grid) (p1:api_Grid):Option Int:=
 Option.bind (α:=Int) (
  (whileO (raddleref46_differ_l1 p0 p1) (0,0)).bind fun a0=>
   some a0) fun a5=>
 some a5
noncomputable def F_raddleref46_Cells (p0:api_Grid) (p1:api_Grid):Option (Int × Int):=
 (F_raddleref01_Both p0 p1).bind fun a0=>
 if a0 != 0 then
  some (0,a0)
 else
  Option.bind (α:=Bool) (
   if p0.W != p1.W then
    some true
   else
    some (p0.H != p1.H)) fun a5=>
  if a5 then
   some (0,2)
  else
   (F_raddleref46_differ p0 p1).bind fun a6=>
   some (a6,0)
noncomputable def F_raddleref46_Start (p0:api_Grid) (p1:api_Grid) (p2:Int):Option Int:=
 (F_raddleref01_Both p0 p1).bind fun a0=>
 if a0 != 0 then
  some a0
 else
  Option.bind (α:=Bool) (
   if decide (16 < p0.W) then
    some true
   else
    if decide (16 < p0.H) then
     some true
    else
     if decide (16 < p1.W) then
      some true
     else
      some (decide (16 < p1.H))) fun a5=>
  if a5 then
   some 4
  else
   Option.bind (α:=Bool) (
    if decide (p2 < 0) then
     some true
    else
     if decide (3 < p2) then
      some true
     else
      if p0.W != p1.W then
       some true
      else
       if p0.H != p1.H then
        some true
       else
        if decide (1 < p2) then
         some (p0.W != p0.H)
        else
         some false) fun a6=>
   if a6 then
    some 2
   else
    some 0
theorem c_raddleref46_Start (E:Nat→Prop) (w0:World) (p0:api_Grid) (v0:Value) (p1:api_Grid) (v1:Value) (p2:Int) (r:Int) (h:F_raddleref46_Start p0 p1 p2=some r) (S:St0 E [] w0 w0 [] [fRep r_api_Grid (v0) p0,fRep r_api_Grid (v1) p1]) :
 Calls Try.prog 32 #[v0,v1,iv p2] w0 (Ret (X:=Unit) E [] w0 (fun _=>.int .i64 r) (fun _=>[]) (fun _=>[])):=by
 unfold F_raddleref46_Start at h
 obtain ⟨u1,rfl,aG⟩:=S.know (i:=0) (e:=fRep r_api_Grid (v0) p0) d
 have S:=S.learn (fRep (rL rB) u1 p0.Bits) aG
 obtain ⟨ac,ae,_,rfl,_⟩:=aG
 obtain ⟨u5,rfl,aH⟩:=S.know (i:=2) (e:=fRep r_api_Grid (v1) p1) d
 have S:=S.learn (fRep (rL rB) u5 p1.Bits) aH
 obtain ⟨af,ag,_,rfl,_⟩:=aH
 refine sEnter (args:=[.agg #[iv p0.W,iv p0.H,.slice ac p0.Bits.length ae],.agg #[iv p1.W,iv p1.H,.slice af p1.Bits.length ag],iv p2]) 63 Try.func32 d d (by simp) S (fun a S=>?_)
 refine sSeq (fun K9 aI=>sRegion (sBox (v:=.agg #[iv p0.W,iv p0.H,.slice ac p0.Bits.length ae]) S (wN d) d d [iv p0.W,iv p0.H,.slice ac p0.Bits.length ae] d d (lb d) fun a ah w S=>sBox (v:=.agg #[iv p1.W,iv p1.H,.slice af p1.Bits.length ag]) S (wN d) d d [iv p1.W,iv p1.H,.slice af p1.Bits.length ag] d d (lb d) fun a ai w S=>sN S fun a S=>?_))
 refine lT (aI _ _ (sSeq (fun aO ao=>sSeq (fun aP ap=>sRegion (sLoadN (p:=ah) (off:=0) (T:=24) (vs:=[iv p0.W,iv p0.H,.slice ac p0.Bits.length ae]) 1 [iv p0.W,iv p0.H,.slice ac p0.Bits.length ae] S (wN d) d d d d d d d (lb d) fun a S=>sLoadN (p:=ai) (off:=0) (T:=24) (vs:=[iv p1.W,iv p1.H,.slice af p1.Bits.length ag]) 0 [iv p1.W,iv p1.H,.slice af p1.Bits.length ag] S (wN d) d d d d d d d (lb d) fun a S=>?_)))))
 obtain ⟨am,aq,h⟩:=bS h
 have S1:=S.mem
 refine sCq [.agg #[iv p0.W,iv p0.H,.slice ac p0.Bits.length ae],.agg #[iv p1.W,iv p1.H,.slice af p1.Bits.length ag]] (iv am) S callee47 (S1.quiet [2,3] d) (fun E1 w1 S1=>c_raddleref01_Both E1 w1 p0 (.agg #[iv p0.W,iv p0.H,.slice ac p0.Bits.length ae]) p1 (.agg #[iv p1.W,iv p1.H,.slice af p1.Bits.length ag]) am aq S1) fun a w S=>?_
 refine sN S fun a S=>?_
 refine lT (ap _ _ (sSeq (fun aQ ar=>sRegion (sM S fun a S=>?_))))
 refine sBin _ S (wN d) d d d (bNe _ _ _ _ .i64 am 0) d (lb d) fun a S=>lT (ar _ _ ?_)
 rcases iS h with ⟨aj,h⟩ | ⟨aj,h⟩
 ·refine sCondT S d aj (sSeq (fun aR au=>sRegion (sM S fun a S=>?_)))
  refine sN S fun a S=>?_
  refine lT (au _ _ ?_)
  obtain rfl:=tS h
  exact wp_ret (rThen (sRet (iv am) S (rsl1 d (rvT (t:=6) (v:=iv am) S d)) ⟨(),d,S.mem.sel [] [] (by decide) d d⟩))
 refine sCondF S d aj (wp_skip (leafT (ao _ _ ?_)))
 refine sSeq (fun aS av=>?_)
 obtain ⟨aJ,h,aK⟩:=bS h
 refine sCut (fun a w=>∃ aw,aw=aJ∧St [] E [] w0 63 a w [(2,iv p2),(3,.pointer (some ⟨ah,0,none⟩)),(4,.pointer (some ⟨ai,0,none⟩)),(31,.bool aw)] [eBox ah 24 [iv p0.W,iv p0.H,.slice ac p0.Bits.length ae],eBox ai 24 [iv p1.W,iv p1.H,.slice af p1.Bits.length ag]] [fRep (rL rB) (.slice ac p0.Bits.length ae) p0.Bits,fRep (rL rB) (.slice af p1.Bits.length ag) p1.Bits]) ?_ (fun a w hI=>?_)
 ·refine sRegion (sField (b:=ah) (off:=0) 0 0 S (wN d) d d d d d (lb d) fun a S=>sLoad1 1 (iv p0.W) S (wN d) d d d d d d (lb d) fun a S=>sBin _ S (wN d) d d d (bGt _ _ _ _ .i64 p0.W 16) d (lb d) fun a S=>sM S fun a S=>?_)
  rcases iS h with ⟨a8,h⟩ | ⟨a8,h⟩
  ·refine sSkN 3 3 false 17 S d d a8 d fun a S=>sPickT (.bool true) S (wN d) d d a8 d d (lb d) fun a S=>sM S fun a S=>?_
   refine sSkN 3 8 false 22 S d d d d fun a S=>sPickT (.bool true) S (wN d) d d d d d (lb d) fun a S=>sM S fun a S=>?_
   refine sSkN 3 13 false 27 S d d d d fun a S=>sPickT (.bool true) S (wN d) d d d d d (lb d) fun a S=>?_
   exact lT (⟨true,Option.some.inj h,S.fix [1,0] [1,0] (by decide) d d d⟩)
  refine sField (b:=ah) (off:=0) 1 1 S (wG 3 false 17 d d d a8) d d d d d (lb d) fun a S=>sLoad1 1 (iv p0.H) S (wG 3 false 17 d d d a8) d d d d d d (lb d) fun a S=>sBin _ S (wG 3 false 17 d d d a8) d d d (bGt _ _ _ _ .i64 p0.H 16) d (lb d) fun a S=>sPickF (.bool (decide (16 < p0.H))) S (wN d) d d a8 d d (lb d) fun a S=>sM S fun a S=>?_
  rcases iS h with ⟨a9,h⟩ | ⟨a9,h⟩
  ·refine sSkN 3 8 false 22 S d d a9 d fun a S=>sPickT (.bool true) S (wN d) d d a9 d d (lb d) fun a S=>sM S fun a S=>?_
   refine sSkN 3 13 false 27 S d d d d fun a S=>sPickT (.bool true) S (wN d) d d d d d (lb d) fun a S=>?_
   exact lT (⟨true,Option.some.inj h,S.fix [1,0] [1,0] (by decide) d d d⟩)
  refine sField (b:=ai) (off:=0) 0 0 S (wG 8 false 22 d d d a9) d d d d d (lb d) fun a S=>sLoad1 0 (iv p1.W) S (wG 8 false 22 d d d a9) d d d d d d (lb d) fun a S=>sBin _ S (wG 8 false 22 d d d a9) d d d (bGt _ _ _ _ .i64 p1.W 16) d (lb d) fun a S=>sPickF (.bool (decide (16 < p1.W))) S (wN d) d d a9 d d (lb d) fun a S=>sM S fun a S=>?_
  rcases iS h with ⟨aa,h⟩ | ⟨aa,h⟩
  ·refine sSkN 3 13 false 27 S d d aa d fun a S=>sPickT (.bool true) S (wN d) d d aa d d (lb d) fun a S=>?_
   exact lT (⟨true,Option.some.inj h,S.fix [1,0] [1,0] (by decide) d d d⟩)
  refine sField (b:=ai) (off:=0) 1 1 S (wG 13 false 27 d d d aa) d d d d d (lb d) fun a S=>sLoad1 0 (iv p1.H) S (wG 13 false 27 d d d aa) d d d d d d (lb d) fun a S=>sBin _ S (wG 13 false 27 d d d aa) d d d (bGt _ _ _ _ .i64 p1.H 16) d (lb d) fun a S=>sPickF (.bool (decide (16 < p1.H))) S (wN d) d d aa d d (lb d) fun a S=>?_
  exact lT (⟨decide (16 < p1.H),Option.some.inj h,S.fix [1,0] [1,0] (by decide) d d d⟩)
 obtain ⟨aw,rfl,S⟩:=hI
 have h:=aK
 try dsimp only at h
 rcases iS h with ⟨ak,h⟩ | ⟨ak,h⟩
 ·refine sCondT S d ak (sSeq (fun aT ax=>sRegion (sN S fun a S=>?_)))
  refine lT (ax _ _ ?_)
  obtain rfl:=tS h
  exact wp_ret (rThen (sRet (iv 4) S (rsl1 d (rvT (t:=6) (v:=iv 4) S d)) ⟨(),d,S.mem.sel [] [] (by decide) d d⟩))
 refine sCondF S d ak (wp_skip (leafT (av _ _ ?_)))
 refine sSeq (fun aU ay=>?_)
 obtain ⟨aL,h,aM⟩:=bS h
 refine sCut (fun a w=>∃ az,az=aL∧St [] E [] w0 63 a w [(62,.bool az)] [] []) ?_ (fun a w hI=>?_)
 rotate_left
 ·obtain ⟨az,rfl,S⟩:=hI
  have h:=aM
  try dsimp only at h
  rcases iS h with ⟨al,h⟩ | ⟨al,h⟩
  ·refine sCondT S d al (sSeq (fun aV aA=>sRegion (sN S fun a S=>?_)))
   refine lT (aA _ _ ?_)
   obtain rfl:=tS h
   exact wp_ret (rThen (sRet (iv 2) S (rsl1 d (rvT (t:=6) (v:=iv 2) S d)) ⟨(),d,S.mem.sel [] [] (by decide) d d⟩))
  refine sCondF S d al (wp_skip (leafT (ay _ _ ?_)))
  refine sSeq (fun aW aC=>sRegion (sN S fun a S=>?_))
  refine lT (aC _ _ ?_)
  obtain rfl:=tS h
  exact wp_ret (sRet (iv 0) S (rsl1 d (rvT (t:=6) (v:=iv 0) S d)) ⟨(),d,S.mem.sel [] [] (by decide) d d⟩)
 refine sRegion (sM S fun a S=>?_)
 refine sBin _ S (wN d) d d d (bLt _ _ _ _ .i64 p2 0) d (lb d) fun a S=>sM S fun a S=>?_
 rcases iS h with ⟨ab,h⟩ | ⟨ab,h⟩
 ·refine sSkN 2 2 false 34 S d d ab d fun a S=>sPickT (.bool true) S (wN d) d d ab d d (lb d) fun a S=>sM S fun a S=>?_
  refine sSkN 5 6 false 38 S d d d d fun a S=>sPickT (.bool true) S (wN d) d d d d d (lb d) fun a S=>sM S fun a S=>?_
  refine sSkN 5 13 false 45 S d d d d fun a S=>sPickT (.bool true) S (wN d) d d d d d (lb d) fun a S=>sM S fun a S=>?_
  refine sSkN 3 20 false 52 S d d d d fun a S=>sSkipU 23 true 55 56 S d d d d (lb d) fun a S=>?_
  refine sSkipU 23 true 55 57 S d d d d (lb d) fun a S=>?_
  refine sSkipU 23 true 55 58 S d d d d (lb d) fun a S=>?_
  refine sSkipU 23 true 55 59 S d d d d (lb d) fun a S=>?_
  refine sSkipU 23 true 55 60 S d d d d (lb d) fun a S=>?_
  refine sSk S d d d d d d fun a S=>sPickT (.bool true) S (wN d) d d d d d (lb d) fun a S=>?_
  exact lT (⟨true,Option.some.inj h,S.fix [] [] (by decide) d d d⟩)
 refine sMove (iv p2) S (wG 2 false 34 d d d ab) (.inl d) d d (lb d) fun a S=>sBin _ S (wG 2 false 34 d d d ab) d d d (bGt _ _ _ _ .i64 p2 3) d (lb d) fun a S=>sPickF (.bool (decide (3 < p2))) S (wN d) d d ab d d (lb d) fun a S=>sM S fun a S=>?_
 rcases iS h with ⟨a5,h⟩ | ⟨a5,h⟩
 ·refine sSkN 5 6 false 38 S d d a5 d fun a S=>sPickT (.bool true) S (wN d) d d a5 d d (lb d) fun a S=>sM S fun a S=>?_
  refine sSkN 5 13 false 45 S d d d d fun a S=>sPickT (.bool true) S (wN d) d d d d d (lb d) fun a S=>sM S fun a S=>?_
  refine sSkN 3 20 false 52 S d d d d fun a S=>sSkipU 23 true 55 56 S d d d d (lb d) fun a S=>?_
  refine sSkipU 23 true 55 57 S d d d d (lb d) fun a S=>?_
  refine sSkipU 23 true 55 58 S d d d d (lb d) fun a S=>?_
  refine sSkipU 23 true 55 59 S d d d d (lb d) fun a S=>?_
  refine sSkipU 23 true 55 60 S d d d d (lb d) fun a S=>?_
  refine sSk S d d d d d d fun a S=>sPickT (.bool true) S (wN d) d d d d d (lb d) fun a S=>?_
  exact lT (⟨true,Option.some.inj h,S.fix [] [] (by decide) d d d⟩)
 refine sField (b:=ah) (off:=0) 0 0 S (wG 6 false 38 d d d a5) d d d d d (lb d) fun a S=>sLoad1 0 (iv p0.W) S (wG 6 false 38 d d d a5) d d d d d d (lb d) fun a S=>sField (b:=ai) (off:=0) 0 0 S (wG 6 false 38 d d d a5) d d d d d (lb d) fun a S=>sLoad1 1 (iv p1.W) S (wG 6 false 38 d d d a5) d d d d d d (lb d) fun a S=>sBin _ S (wG 6 false 38 d d d a5) d d d (bNe _ _ _ _ .i64 p0.W p1.W) d (lb d) fun a S=>sPickF (.bool (p0.W != p1.W)) S (wN d) d d a5 d d (lb d) fun a S=>sM S fun a S=>?_
 rcases iS h with ⟨a6,h⟩ | ⟨a6,h⟩
 ·refine sSkN 5 13 false 45 S d d a6 d fun a S=>sPickT (.bool true) S (wN d) d d a6 d d (lb d) fun a S=>sM S fun a S=>?_
  refine sSkN 3 20 false 52 S d d d d fun a S=>sSkipU 23 true 55 56 S d d d d (lb d) fun a S=>?_
  refine sSkipU 23 true 55 57 S d d d d (lb d) fun a S=>?_
  refine sSkipU 23 true 55 58 S d d d d (lb d) fun a S=>?_
  refine sSkipU 23 true 55 59 S d d d d (lb d) fun a S=>?_
  refine sSkipU 23 true 55 60 S d d d d (lb d) fun a S=>?_
  refine sSk S d d d d d d fun a S=>sPickT (.bool true) S (wN d) d d d d d (lb d) fun a S=>?_
  exact lT (⟨true,Option.some.inj h,S.fix [] [] (by decide) d d d⟩)
 refine sField (b:=ah) (off:=0) 1 1 S (wG 13 false 45 d d d a6) d d d d d (lb d) fun a S=>sLoad1 0 (iv p0.H) S (wG 13 false 45 d d d a6) d d d d d d (lb d) fun a S=>sField (b:=ai) (off:=0) 1 1 S (wG 13 false 45 d d d a6) d d d d d (lb d) fun a S=>sLoad1 1 (iv p1.H) S (wG 13 false 45 d d d a6) d d d d d d (lb d) fun a S=>sBin _ S (wG 13 false 45 d d d a6) d d d (bNe _ _ _ _ .i64 p0.H p1.H) d (lb d) fun a S=>sPickF (.bool (p0.H != p1.H)) S (wN d) d d a6 d d (lb d) fun a S=>sM S fun a S=>?_
 rcases iS h with ⟨a0,h⟩ | ⟨a0,h⟩
 ·refine sSkN 3 20 false 52 S d d a0 d fun a S=>sSkipU 23 true 55 56 S d d d d (lb d) fun a S=>?_
  refine sSkipU 23 true 55 57 S d d d d (lb d) fun a S=>?_
  refine sSkipU 23 true 55 58 S d d d d (lb d) fun a S=>?_
  refine sSkipU 23 true 55 59 S d d d d (lb d) fun a S=>?_
  refine sSkipU 23 true 55 60 S d d d d (lb d) fun a S=>?_
  refine sSk S d d d a0 d d fun a S=>sPickT (.bool true) S (wN d) d d a0 d d (lb d) fun a S=>?_
  exact lT (⟨true,Option.some.inj h,S.fix [] [] (by decide) d d d⟩)
 refine sMove (iv p2) S (wG 20 false 52 d d d a0) (.inl d) d d (lb d) fun a S=>sBin _ S (wG 20 false 52 d d d a0) d d d (bGt _ _ _ _ .i64 p2 1) d (lb d) fun a S=>sMove (.bool (decide (1 < p2))) S (wG 20 false 52 d d d a0) (.inl d) d d (lb d) fun a S=>?_
 rcases iS h with ⟨a7,h⟩ | ⟨a7,h⟩
 rotate_left
 ·refine sSkN 5 23 true 55 S d d a7 d fun a S=>sPickF (.bool false) S (wG 20 false 52 d d d a0) d d a7 d d (lb d) fun a S=>sPickF (.bool false) S (wN d) d d a0 d d (lb d) fun a S=>?_
  exact lT (⟨false,Option.some.inj h,S.fix [] [] (by decide) d d d⟩)
 refine sField (b:=ah) (off:=0) 0 0 S (wG 23 true 55 d d d a7) d d d d d (lb d) fun a S=>sLoad1 0 (iv p0.W) S (wG 23 true 55 d d d a7) d d d d d d (lb d) fun a S=>sField (b:=ah) (off:=0) 1 1 S (wG 23 true 55 d d d a7) d d d d d (lb d) fun a S=>sLoad1 0 (iv p0.H) S (wG 23 true 55 d d d a7) d d d d d d (lb d) fun a S=>sBin _ S (wG 23 true 55 d d d a7) d d d (bNe _ _ _ _ .i64 p0.W p0.H) d (lb d) fun a S=>sPickT (.bool (p0.W != p0.H)) S (wG 20 false 52 d d d a0) d d a7 d d (lb d) fun a S=>sPickF (.bool (p0.W != p0.H)) S (wN d) d d a0 d d (lb d) fun a S=>?_
 exact lT (⟨p0.W != p0.H,Option.some.inj h,S.fix [] [] (by decide) d d d⟩)
noncomputable def F_raddleref46_Last (p0:Int):Option Int:=
 if p0 == 0 then
  some 0
 else
  if p0 == 1 then
   some 3
  else
   if p0 == 2 then
    some 7
   else
    some 15
theorem c_raddleref46_Last (E:Nat→Prop) (w0:World) (p0:Int) (r:Int) (h:F_raddleref46_Last p0=some r) (S:St0 E [] w0 w0 [] []) :
 Calls Try.prog 35 #[iv p0] w0 (Ret (X:=Unit) E [] w0 (fun _=>.int .i64 r) (fun _=>[]) (fun _=>[])):=by
 unfold F_raddleref46_Last at h
 refine sEnter (args:=[iv p0]) 10 Try.func35 d d (by simp) S (fun a S=>?_)
 refine sSeq (fun K1 aa=>sRegion (sN S fun a S=>?_))
 refine lT (aa _ _ (sSeq (fun K2 ab=>sSeq (fun K3 ac=>sRegion (sM S fun a S=>?_)))))
 refine lT (ac _ _ (wp_block ?_))
 refine sSeq (fun K4 ae=>sRegion (sBin _ S (wN d) d d d (bEq _ _ _ _ .i64 p0 0) d (lb d) fun a S=>sN S fun a S=>?_))
 refine lT (ae _ _ ?_)
 rcases iS h with ⟨a5,h⟩ | ⟨a5,h⟩
 ·refine sCondT S d a5 (sSeq (fun K6 af=>sRegion (sN S fun a S=>?_)))
  refine lT (af _ _ ?_)
  obtain rfl:=tS h
  exact wp_ret (rBlock (rThen (sRet (iv 0) S (rsl1 d (rvT (t:=2) (v:=iv 0) S d)) ⟨(),d,S.mem.sel [] [] (by decide) d d⟩)))
 refine sCondF S d a5 (sSeq (fun K7 ag=>sRegion (sBin _ S (wN d) d d d (bEq _ _ _ _ .i64 p0 1) d (lb d) fun a S=>sN S fun a S=>?_)))
 refine lT (ag _ _ ?_)
 rcases iS h with ⟨a6,h⟩ | ⟨a6,h⟩
 ·refine sCondT S d a6 (sSeq (fun K9 ah=>sRegion (sN S fun a S=>?_)))
  refine lT (ah _ _ ?_)
  obtain rfl:=tS h
  exact wp_ret (rBlock (rThen (sRet (iv 3) S (rsl1 d (rvT (t:=2) (v:=iv 3) S d)) ⟨(),d,S.mem.sel [] [] (by decide) d d⟩)))
 refine sCondF S d a6 (sSeq (fun ai a7=>sRegion (sBin _ S (wN d) d d d (bEq _ _ _ _ .i64 p0 2) d (lb d) fun a S=>sN S fun a S=>?_)))
 refine lT (a7 _ _ ?_)
 rcases iS h with ⟨a0,h⟩ | ⟨a0,h⟩
 ·refine sCondT S d a0 (sSeq (fun aj a8=>sRegion (sN S fun a S=>?_)))
  refine lT (a8 _ _ ?_)
  obtain rfl:=tS h
  exact wp_ret (rBlock (rThen (sRet (iv 7) S (rsl1 d (rvT (t:=2) (v:=iv 7) S d)) ⟨(),d,S.mem.sel [] [] (by decide) d d⟩)))
 refine sCondF S d a0 (wp_skip (leafB (leafT (ab _ _ ?_))))
 refine sSeq (fun ak a9=>sRegion (sN S fun a S=>?_))
 refine lT (a9 _ _ ?_)
 obtain rfl:=tS h
 exact wp_ret (sRet (iv 15) S (rsl1 d (rvT (t:=2) (v:=iv 15) S d)) ⟨(),d,S.mem.sel [] [] (by decide) d d⟩)
noncomputable def F_raddleref01_Mod (p0:Int) (p1:Int):Option Int:=
 (remI p0 p1).bind fun z3=>
 (remI (w64 (z3 + p1)) p1).bind fun z5=>
 some z5
theorem c_raddleref01_Mod (E:Nat→Prop) (w0:World) (p0:Int) (p1:Int) (r:Int) (h:F_raddleref01_Mod p0 p1=some r) (S:St0 E [] w0 w0 [] []) :
 Calls Try.prog 68 #[iv p0,iv p1] w0 (Ret (X:=Unit) E [] w0 (fun _=>.int .i64 r) (fun _=>[]) (fun _=>[])):=by
 unfold F_raddleref01_Mod at h
 refine sEnter (args:=[iv p0,iv p1]) 12 Try.func68 d d (by simp) S (fun a S=>?_)
 refine sSeq (fun K1 a0=>sRegion (sN S fun a S=>?_))
 refine lT (a0 _ _ (sSeq (fun K2 a5=>sRegion (sM S fun a S=>?_))))
 refine sM S fun a S=>?_
 obtain ⟨z3,a6,h⟩:=bS h
 refine sBin _ S (wN d) d d d (bRem _ _ _ _ (x:=p0) (y:=p1) a6) d (lb d) fun a S=>sM S fun a S=>?_
 refine sBin _ S (wN d) d d d (bAdd _ _ _ _ z3 p1) d (lb d) fun a S=>sM S fun a S=>?_
 obtain ⟨z5,a7,h⟩:=bS h
 refine sBin _ S (wN d) d d d (bRem _ _ _ _ (x:=w64 (z3 + p1)) (y:=p1) a7) d (lb d) fun a S=>sN S fun a S=>?_
 refine lT (a5 _ _ ?_)
 obtain rfl:=tS h
 exact wp_ret (sRet (iv z5) S (rsl1 d (rvT (t:=4) (v:=iv z5) S d)) ⟨(),d,S.mem.sel [] [] (by decide) d d⟩)
noncomputable def F_raddleref01_At (p0:api_Grid) (p1:Int) (p2:Int):Option Bool:=
 (idxO p0.Bits (w64 ((w64 (p2 * p0.W)) + p1))).bind fun x8=>
 some x8
theorem c_raddleref01_At (E:Nat→Prop) (w0:World) (p0:api_Grid) (v0:Value) (p1:Int) (p2:Int) (r:Bool) (h:F_raddleref01_At p0 p1 p2=some r) (S:St0 E [] w0 w0 [] [fRep r_api_Grid (v0) p0]) :
 Calls Try.prog 69 #[v0,iv p1,iv p2] w0 (Ret (X:=Unit) E [] w0 (fun _=>.bool r) (fun _=>[]) (fun _=>[])):=by
 unfold F_raddleref01_At at h
 obtain ⟨u1,rfl,a7⟩:=S.know (i:=0) (e:=fRep r_api_Grid (v0) p0) d
 have S:=S.learn (fRep (rL rB) u1 p0.Bits) a7
 obtain ⟨a0,a5,_,rfl,_⟩:=a7
 refine sEnter (args:=[.agg #[iv p0.W,iv p0.H,.slice a0 p0.Bits.length a5],iv p1,iv p2]) 17 Try.func69 d d (by simp) S (fun a S=>?_)
 refine sSeq (fun K5 aa=>sRegion (sBox (v:=.agg #[iv p0.W,iv p0.H,.slice a0 p0.Bits.length a5]) S (wN d) d d [iv p0.W,iv p0.H,.slice a0 p0.Bits.length a5] d d (lb d) fun a b6 w S=>sN S fun a S=>?_))
 refine lT (aa _ _ (sSeq (fun K7 ab=>sRegion (sField (b:=b6) (off:=0) 2 2 S (wN d) d d d d d (lb d) fun a S=>sLoad1 0 (.slice a0 p0.Bits.length a5) S (wN d) d d d d d d (lb d) fun a S=>sM S fun a S=>?_))))
 refine sField (b:=b6) (off:=0) 0 0 S (wN d) d d d d d (lb d) fun a S=>sLoad1 0 (iv p0.W) S (wN d) d d d d d d (lb d) fun a S=>sBin _ S (wN d) d d d (bMul _ _ _ _ p2 p0.W) d (lb d) fun a S=>sM S fun a S=>?_
 refine sBin _ S (wN d) d d d (bAdd _ _ _ _ (w64 (p2 * p0.W)) p1) d (lb d) fun a S=>?_
 obtain ⟨x8,ac,h⟩:=bS h
 obtain ⟨a8,a6,S⟩:=pIdx (P:=Try.prog) (r:=rB) (v:=.slice a0 p0.Bits.length a5) (xs:=p0.Bits) (j:=w64 ((w64 (p2 * p0.W)) + p1)) 22 4 0 S Try.underlying22 d d ac
 refine sIdxV S (wN d) d d d a6 d (lb d) fun a S=>?_
 obtain ⟨a9,S⟩:=pLoad (r:=rB) (q:=a8) (x:=x8) 0 S d
 obtain rfl:a9=.bool x8:=S.mem.know (i:=1) (e:=fRep rB (a9) x8) d
 refine sLoadV1 (vq:=a8) 0 (.bool x8) S (wN d) d d d d d (lb d) fun a S=>sN S fun a S=>?_
 refine lT (ab _ _ ?_)
 obtain rfl:=tS h
 exact wp_ret (sRet (.bool x8) S (rsl1 d (rvT (t:=6) (v:=.bool x8) S d)) ⟨(),d,S.mem.sel [] [] (by decide) d d⟩)
def anc_raddleref01_Shifted_0:List (List Nat):=[[],[],[],[],[3],[2,3,4],[1,2,3,4,5],[],[7],[1,2,3,4,5,6,7,8],[],[],[],[12],[1,2,3,4,5,6,7,8,9,11,12,13],[1,2,3,4,5,6,7,8,9,10,11,12,13,14],[],[16],[1,2,3,4,5,6,7,8,9,10,11,12,13,14,15,16,17],[],[],[],[1,2,3,4,5,6,7,8,9,10,11,12,13,14,15,16,17,18,19,20,21],[0,1,2,3,4,5,6,7,8,9,10,11,12,13,14,15,16,17,18,19,20,21,22]]
noncomputable def raddleref01_Shifted_l1 (p0:api_Grid) (p1:Int) (a5:Int) (p2:Int) (r9:api_Grid):(Int × List Bool)→Option ((Int × List Bool) ⊕ List Bool):=fun s0=>match s0 with
 | (a0,a6)=>
  if decide (a0 < p0.H) then
   (F_raddleref01_Mod p1 p0.W).bind fun a7=>
   (F_raddleref01_Mod (w64 (a5 + a7)) p0.W).bind fun a8=>
   (F_raddleref01_Mod p2 p0.H).bind fun a9=>
   (F_raddleref01_Mod (w64 (a0 + a9)) p0.H).bind fun aa=>
   (F_raddleref01_At p0 a5 a0).bind fun ab=>
   (F_raddleref01_Set_s0 r9.W r9.H a6 a8 aa ab).bind fun ac=>
   some (.inl (w64 (a0 + 1),ac))
  else
   some (.inr a6)
noncomputable def raddleref01_Shifted_l2 (p0:api_Grid) (p1:Int) (p2:Int) (r9:api_Grid):(Int × List Bool)→Option ((Int × List Bool) ⊕ List Bool):=fun s0=>match s0 with
 | (a0,a5)=>
  if decide (a0 < p0.W) then
   Option.bind (α:=List Bool) (
    (whileO (raddleref01_Shifted_l1 p0 p1 a0 p2 r9) (0,a5)).bind fun a6=>
     some a6) fun a7=>
   some (.inl (w64 (a0 + 1),a7))
  else
   some (.inr a5)
noncomputable def F_raddleref01_Shifted (p0:api_Grid) (p1:Int) (p2:Int):Option api_Grid:=
 (F_raddleref01_Zero_s0 p0.W p0.H).bind fun r9=>
 Option.bind (α:=List Bool) (
  (whileO (raddleref01_Shifted_l2 p0 p1 p2 r9) (0,r9.Bits)).bind fun a0=>
   some a0) fun a5=>
 some (api_Grid.mk r9.W r9.H a5)
def c_raddleref01_Shifted_val (r:api_Grid) (x:Value):Value:=x
def c_raddleref01_Shifted_D (r:api_Grid) (x:Value):List Fact:=[fRep r_api_Grid x r]
theorem c_raddleref01_Shifted (E:Nat→Prop) (w0:World) (p0:api_Grid) (v0:Value) (p1:Int) (p2:Int) (r:api_Grid) (h:F_raddleref01_Shifted p0 p1 p2=some r) (S:St0 E [] w0 w0 [] [fRep r_api_Grid (v0) p0]) :
 Calls Try.prog 36 #[v0,iv p1,iv p2] w0 (Ret (X:=Value) E [] w0 (c_raddleref01_Shifted_val r) (fun _=>[]) (c_raddleref01_Shifted_D r)):=by
 unfold F_raddleref01_Shifted at h
 obtain ⟨u1,rfl,aO⟩:=S.know (i:=0) (e:=fRep r_api_Grid (v0) p0) d
 have S:=S.learn (fRep (rL rB) u1 p0.Bits) aO
 obtain ⟨a6,a7,_,rfl,_⟩:=aO
 refine sEnter (args:=[.agg #[iv p0.W,iv p0.H,.slice a6 p0.Bits.length a7],iv p1,iv p2]) 52 Try.func36 d d (by simp) S (fun a S=>?_)
 refine sSeq (fun K5 aP=>sRegion (sBox (v:=.agg #[iv p0.W,iv p0.H,.slice a6 p0.Bits.length a7]) S (wN d) d d [iv p0.W,iv p0.H,.slice a6 p0.Bits.length a7] d d (lb d) fun a b6 w S=>sAlloc (.agg #[iv 0,iv 0,.slice none 0 0]) S (wN d) d d [iv 0,iv 0,.slice none 0 0] d d (lb d) fun a b7 w S=>lT (aP _ _ (sSeq (fun K8 aQ=>sRegion (sField (b:=b6) (off:=0) 0 0 S (wN d) d d d d d (lb d) fun a S=>sLoad1 1 (iv p0.W) S (wN d) d d d d d d (lb d) fun a S=>sField (b:=b6) (off:=0) 1 1 S (wN d) d d d d d (lb d) fun a S=>sLoad1 1 (iv p0.H) S (wN d) d d d d d d (lb d) fun a S=>?_))))))
 obtain ⟨r9,ap,h⟩:=bS h
 refine sCall (X:=Option Addr × Nat) (f:=66) (vs:=[iv p0.W,iv p0.H]) (val:=fun x=>.agg #[iv r9.W,iv r9.H,.slice x.1 r9.Bits.length x.2]) (B':=fun x=>[eRow rB 4 (.slice x.1 r9.Bits.length x.2) r9.Bits]) (D':=fun _=>[]) [] [eBox b7 24 [iv 0,iv 0,.slice none 0 0],eBox b6 24 [iv p0.W,iv p0.H,.slice a6 p0.Bits.length a7]] [] [0,1] [] S (wN d) d callee66 d (by decide) d d (fun E1 w1 S1=>c_raddleref01_Zero_s0 E1 w1 p0.W p0.H r9 ap S1) d (lb d) fun xx a w S=>?_
 obtain ⟨a0,a5⟩:=xx
 dsimp only at S
 refine sAlloc (.agg #[iv 0,iv 0,.slice none 0 0]) S (wN d) d d [iv 0,iv 0,.slice none 0 0] d d (lb d) fun a ac w S=>sStore (p:=ac) (off:=0) (T:=24) (vs:=[iv 0,iv 0,.slice none 0 0]) (v:=.agg #[iv r9.W,iv r9.H,.slice a0 r9.Bits.length a5]) 0 [iv r9.W,iv r9.H,.slice a0 r9.Bits.length a5] S (wN d) d d d d d d d (by simp) d fun a w S=>lT (aQ _ _ ?_)
 obtain ⟨aR,h,aS⟩:=bS h
 refine sCut (fun a w=>∃ a8,a8=aR∧St [] E [] w0 52 a w [(6,.pointer (some ⟨b7,0,none⟩)),(7,.pointer (some ⟨ac,0,none⟩))] [eBox b7 24 [iv 0,iv 0,.slice none 0 0],eBox ac 24 [iv r9.W,iv r9.H,.slice a0 a8.length a5],eRow rB 4 (.slice a0 a8.length a5) a8] []) ?_ (fun a w hI=>?_)
 rotate_left
 ·obtain ⟨a8,rfl,S⟩:=hI
  have h:=aS
  try dsimp only at h
  refine sSeq (fun aX aq=>sRegion (sLoadN (p:=ac) (off:=0) (T:=24) (vs:=[iv r9.W,iv r9.H,.slice a0 a8.length a5]) 1 [iv r9.W,iv r9.H,.slice a0 a8.length a5] S (wN d) d d d d d d d (lb d) fun a S=>sStore (p:=b7) (off:=0) (T:=24) (vs:=[iv 0,iv 0,.slice none 0 0]) (v:=.agg #[iv r9.W,iv r9.H,.slice a0 a8.length a5]) 0 [iv r9.W,iv r9.H,.slice a0 a8.length a5] S (wN d) d d d d d d d (by simp) d fun a w S=>lT (aq _ _ ?_)))
  obtain rfl:=tS h
  have S:=S.shutR (r:=rB) (T:=4) (v:=.slice a0 a8.length a5) (xs:=a8) 2 d
  have S:=S.learn (fRep r_api_Grid (.agg #[iv r9.W,iv r9.H,.slice a0 a8.length a5]) (api_Grid.mk r9.W r9.H a8)) ⟨_,d,S.mem.know (i:=0) (e:=fRep (rL rB) (.slice a0 a8.length a5) a8) d⟩
  exact wp_ret (sRet (.agg #[iv r9.W,iv r9.H,.slice a0 a8.length a5]) S (rsl1 d (rvN (c:=6) (t:=24) (T:=24) (p:=b7) 0 [iv r9.W,iv r9.H,.slice a0 a8.length a5] S d d d d)) ⟨(.agg #[iv r9.W,iv r9.H,.slice a0 a8.length a5]),d,S.mem.sel [] [0] (by decide) d d⟩)
 refine sSeq (fun aZ ar=>sRegion (sN S fun a S=>?_))
 refine lT (ar _ _ (wp_block ?_))
 obtain ⟨ba,hl,aT⟩:=bS h
 refine sLoop hl (fun s0 a w=>match s0 with | (a9,am)=>St [] E [] w0 52 a w [(1,iv p1),(2,iv p2),(3,.pointer (some ⟨b6,0,none⟩)),(6,.pointer (some ⟨b7,0,none⟩)),(7,.pointer (some ⟨ac,0,none⟩)),(8,iv a9)] [eBox b6 24 [iv p0.W,iv p0.H,.slice a6 p0.Bits.length a7],eBox b7 24 [iv 0,iv 0,.slice none 0 0],eBox ac 24 [iv r9.W,iv r9.H,.slice a0 am.length a5],eRow rB 4 (.slice a0 am.length a5) am] [fRep (rL rB) (.slice a6 p0.Bits.length a7) p0.Bits]) (S.fix [3,2,0,1] [0] (by decide) d d d) ?_
 clear hl h
 intro s0 a w c0 hI h au
 obtain ⟨a9,am⟩:=s0
 unfold raddleref01_Shifted_l2 at h
 dsimp only at h hI
 have S:=hI
 refine sSeq (fun bb av=>sSeq (fun bc aw=>sRegion (sM S fun a S=>?_)))
 refine sField (b:=b6) (off:=0) 0 0 S (wN d) d d d d d (lb d) fun a S=>sLoad1 0 (iv p0.W) S (wN d) d d d d d d (lb d) fun a S=>sBin _ S (wN d) d d d (bLt _ _ _ _ .i64 a9 p0.W) d (lb d) fun a S=>lT (aw _ _ ?_)
 rcases iS h with ⟨ae,h⟩ | ⟨ae,h⟩
 rotate_left
 ·refine sCondF S d ae ?_
  obtain rfl:=tS h
  obtain rfl:=au _ d
  have h:=aT
  try dsimp only at h
  exact wp_exit (xThen (xThen (xHit (leafT (⟨am,Option.some.inj h,S.fix [1,2,3] [] (by decide) d d d⟩)))))
 refine sCondT S d ae (wp_skip (leafT (av _ _ ?_)))
 obtain ⟨aU,h,aV⟩:=bS h
 refine sCut (fun a w=>∃ ai,ai=aU∧St [] E [] w0 52 a w [(1,iv p1),(2,iv p2),(3,.pointer (some ⟨b6,0,none⟩)),(6,.pointer (some ⟨b7,0,none⟩)),(7,.pointer (some ⟨ac,0,none⟩)),(8,iv a9)] [eBox b6 24 [iv p0.W,iv p0.H,.slice a6 p0.Bits.length a7],eBox b7 24 [iv 0,iv 0,.slice none 0 0],eBox ac 24 [iv r9.W,iv r9.H,.slice a0 ai.length a5],eRow rB 4 (.slice a0 ai.length a5) ai] [fRep (rL rB) (.slice a6 p0.Bits.length a7) p0.Bits]) ?_ (fun a w hI=>?_)
 rotate_left
 ·obtain ⟨ai,rfl,S⟩:=hI
  have h:=aV
  try dsimp only at h
  refine sRegion (sM S fun a S=>?_)
  refine sBin _ S (wN d) d d d (bAdd _ _ _ _ a9 1) d (lb d) fun a S=>sN S fun a S=>?_
  exact lT (⟨(w64 (a9 + 1),ai),(Option.some.inj h).symm,(S.fix [0,1,2,3] [0] (by decide) d d d)⟩)
 refine wp_block ?_
 refine sSeq (fun bf ax=>sRegion (sN S fun a S=>?_))
 refine lT (ax _ _ (wp_block ?_))
 obtain ⟨bg,hl,aW⟩:=bS h
 refine sLoop hl (fun s0 a w=>match s0 with | (ab,aa)=>St [] E [] w0 52 a w [(1,iv p1),(2,iv p2),(3,.pointer (some ⟨b6,0,none⟩)),(6,.pointer (some ⟨b7,0,none⟩)),(7,.pointer (some ⟨ac,0,none⟩)),(8,iv a9),(9,iv ab)] [eBox b6 24 [iv p0.W,iv p0.H,.slice a6 p0.Bits.length a7],eBox b7 24 [iv 0,iv 0,.slice none 0 0],eBox ac 24 [iv r9.W,iv r9.H,.slice a0 aa.length a5],eRow rB 4 (.slice a0 aa.length a5) aa] [fRep (rL rB) (.slice a6 p0.Bits.length a7) p0.Bits]) (S.fix [0,1,2,3] [0] (by decide) d d d) ?_
 clear hl h
 intro s0 a w c0 hI h ay
 obtain ⟨ab,aa⟩:=s0
 unfold raddleref01_Shifted_l1 at h
 dsimp only at h hI
 have S:=hI
 refine sSeq (fun bh az=>sSeq (fun bi aA=>sRegion (sM S fun a S=>?_)))
 refine sField (b:=b6) (off:=0) 1 1 S (wN d) d d d d d (lb d) fun a S=>sLoad1 0 (iv p0.H) S (wN d) d d d d d d (lb d) fun a S=>sBin _ S (wN d) d d d (bLt _ _ _ _ .i64 ab p0.H) d (lb d) fun a S=>lT (aA _ _ ?_)
 rcases iS h with ⟨af,h⟩ | ⟨af,h⟩
 rotate_left
 ·refine sCondF S d af ?_
  obtain rfl:=tS h
  obtain rfl:=ay _ d
  have h:=aW
  try dsimp only at h
  exact wp_exit (xThen (xThen (xHit (leafB (leafT (⟨aa,Option.some.inj h,S.fix [0,1,2,3] [0] (by decide) d d d⟩))))))
 refine sCondT S d af (wp_skip (leafT (az _ _ ?_)))
 refine sSeq (fun bj aC=>wp_block ?_)
 obtain ⟨ag,aG,h⟩:=bS h
 obtain ⟨aj,aH,h⟩:=bS h
 obtain ⟨ah,aI,h⟩:=bS h
 obtain ⟨ak,aJ,h⟩:=bS h
 obtain ⟨al,aK,h⟩:=bS h
 obtain ⟨ao,aL,h⟩:=bS h
 refine sDraw (nf:=[23]) (W:=[(0,27,.agg #[iv r9.W,iv r9.H,.slice a0 aa.length a5]),(1,28,iv a9),(2,29,iv p1),(3,30,.pointer (some ⟨b6,0,none⟩)),(4,31,iv p0.W),(5,32,iv ag),(6,33,iv (w64 (a9 + ag))),(7,34,.pointer (some ⟨b6,0,none⟩)),(8,35,iv p0.W),(9,36,iv aj),(10,37,iv ab),(11,38,iv p2),(12,39,.pointer (some ⟨b6,1,none⟩)),(13,40,iv p0.H),(14,41,iv ah),(15,42,iv (w64 (ab + ah))),(16,43,.pointer (some ⟨b6,1,none⟩)),(17,44,iv p0.H),(18,45,iv ak),(19,46,.agg #[iv p0.W,iv p0.H,.slice a6 p0.Bits.length a7]),(20,47,iv a9),(21,48,iv ab),(22,49,.bool al)]) d S ?_
 refine node_by (A:=anc_raddleref01_Shifted_0) 24 (by kernel_rfl) (by kernel_rfl) (by kernel_rfl) (by kernel_rfl) (by kernel_rfl) [0,1,2,3,4,5,6,7,8,9,10,11,12,13,14,15,16,17,18,19,20,21,22] (by kernel_rfl) (by decide) (by decide) (fF ?_ (fF ?_ (fF ?_ (fF ?_ (fF ?_ (fF ?_ (fF ?_ (fF ?_ (fF ?_ (fF ?_ (fF ?_ (fF ?_ (fF ?_ (fF ?_ (fF ?_ (fF ?_ (fF ?_ (fF ?_ (fF ?_ (fF ?_ (fF ?_ (fF ?_ (fF ?_ (fN ?_ (trivial))))))))))))))))))))))))) [] (fun q hq=>by cases hq) (fun hY=>absurd (hY 23 (by decide)) (by decide))
 ·refine fJ [(7,_)] 0 [none] fun G a w S=>?_
  exact sLoadN (p:=ac) (off:=0) (T:=24) (vs:=[iv r9.W,iv r9.H,.slice a0 aa.length a5]) 2 [iv r9.W,iv r9.H,.slice a0 aa.length a5] S (wN d) d d d d d d d (lb d) fun a S=>leafL ⟨d,S⟩
 ·exact fM 1 none d d d d (.inl d) d d d
 ·exact fM 2 none d d d d (.inl d) d d d
 ·refine fJ [(3,_)] 3 [none] fun G a w S=>?_
  exact sField (b:=b6) (off:=0) 0 0 S (wN d) d d d d d (lb d) fun a S=>leafL ⟨d,S⟩
 ·refine fJ [(30,_)] 4 [some 3] fun G a w S=>?_
  exact sLoad1 0 (iv p0.W) S (wN d) d d d d d d (lb d) fun a S=>leafL ⟨d,S⟩
 ·refine fJ [(29,_),(31,_)] 5 [some 2,some 4] fun G a w S=>?_
  have S1:=S.mem
  refine sCq [iv p1,iv p0.W] (iv ag) S callee68 (S1.quiet [] d) (fun E1 w1 S1=>c_raddleref01_Mod E1 w1 p1 p0.W ag aG S1) fun a w S=>?_
  exact leafL ⟨d,S⟩
 ·refine fJ [(28,_),(32,_)] 6 [some 1,some 5] fun G a w S=>?_
  exact sBin _ S (wN d) d d d (bAdd _ _ _ _ a9 ag) d (lb d) fun a S=>leafL ⟨d,S⟩
 ·refine fJ [(3,_)] 7 [none] fun G a w S=>?_
  exact sField (b:=b6) (off:=0) 0 0 S (wN d) d d d d d (lb d) fun a S=>leafL ⟨d,S⟩
 ·refine fJ [(34,_)] 8 [some 7] fun G a w S=>?_
  exact sLoad1 0 (iv p0.W) S (wN d) d d d d d d (lb d) fun a S=>leafL ⟨d,S⟩
 ·refine fJ [(33,_),(35,_)] 9 [some 6,some 8] fun G a w S=>?_
  have S1:=S.mem
  refine sCq [iv (w64 (a9 + ag)),iv p0.W] (iv aj) S callee68 (S1.quiet [] d) (fun E1 w1 S1=>c_raddleref01_Mod E1 w1 (w64 (a9 + ag)) p0.W aj aH S1) fun a w S=>?_
  exact leafL ⟨d,S⟩
 ·exact fM 10 none d d d d (.inl d) d d d
 ·exact fM 11 none d d d d (.inl d) d d d
 ·refine fJ [(3,_)] 12 [none] fun G a w S=>?_
  exact sField (b:=b6) (off:=0) 1 1 S (wN d) d d d d d (lb d) fun a S=>leafL ⟨d,S⟩
 ·refine fJ [(39,_)] 13 [some 12] fun G a w S=>?_
  exact sLoad1 0 (iv p0.H) S (wN d) d d d d d d (lb d) fun a S=>leafL ⟨d,S⟩
 ·refine fJ [(38,_),(40,_)] 14 [some 11,some 13] fun G a w S=>?_
  have S1:=S.mem
  refine sCq [iv p2,iv p0.H] (iv ah) S callee68 (S1.quiet [] d) (fun E1 w1 S1=>c_raddleref01_Mod E1 w1 p2 p0.H ah aI S1) fun a w S=>?_
  exact leafL ⟨d,S⟩
 ·refine fJ [(37,_),(41,_)] 15 [some 10,some 14] fun G a w S=>?_
  exact sBin _ S (wN d) d d d (bAdd _ _ _ _ ab ah) d (lb d) fun a S=>leafL ⟨d,S⟩
 ·refine fJ [(3,_)] 16 [none] fun G a w S=>?_
  exact sField (b:=b6) (off:=0) 1 1 S (wN d) d d d d d (lb d) fun a S=>leafL ⟨d,S⟩
 ·refine fJ [(43,_)] 17 [some 16] fun G a w S=>?_
  exact sLoad1 0 (iv p0.H) S (wN d) d d d d d d (lb d) fun a S=>leafL ⟨d,S⟩
 ·refine fJ [(42,_),(44,_)] 18 [some 15,some 17] fun G a w S=>?_
  have S1:=S.mem
  refine sCq [iv (w64 (ab + ah)),iv p0.H] (iv ak) S callee68 (S1.quiet [] d) (fun E1 w1 S1=>c_raddleref01_Mod E1 w1 (w64 (ab + ah)) p0.H ak aJ S1) fun a w S=>?_
  exact leafL ⟨d,S⟩
 ·refine fJ [(3,_)] 19 [none] fun G a w S=>?_
  exact sLoadN (p:=b6) (off:=0) (T:=24) (vs:=[iv p0.W,iv p0.H,.slice a6 p0.Bits.length a7]) 0 [iv p0.W,iv p0.H,.slice a6 p0.Bits.length a7] S (wN d) d d d d d d d (lb d) fun a S=>leafL ⟨d,S⟩
 ·exact fM 20 none d d d d (.inl d) d d d
 ·exact fM 21 none d d d d (.inl d) d d d
 ·refine fJ [(46,_),(47,_),(48,_)] 22 [some 19,some 20,some 21] fun G a w S=>?_
  have S1:=S.mem
  have S1:=S1.learn (fRep r_api_Grid (.agg #[iv p0.W,iv p0.H,.slice a6 p0.Bits.length a7]) p0) ⟨_,d,S1.know (i:=0) (e:=fRep (rL rB) (.slice a6 p0.Bits.length a7) p0.Bits) d⟩
  refine sCq [.agg #[iv p0.W,iv p0.H,.slice a6 p0.Bits.length a7],iv a9,iv ab] (.bool al) S callee69 (S1.quiet [0] d) (fun E1 w1 S1=>c_raddleref01_At E1 w1 p0 (.agg #[iv p0.W,iv p0.H,.slice a6 p0.Bits.length a7]) a9 ab al aK S1) fun a w S=>?_
  exact leafL ⟨d,S⟩
 refine ⟨_,[(27,.agg #[iv r9.W,iv r9.H,.slice a0 aa.length a5]),(36,iv aj),(45,iv ak),(49,.bool al)],d,(srcs_of [some 0,some 9,some 18,some 22] d d d),fun G a w S=>?_⟩
 refine sCall (X:=Unit) (f:=67) (vs:=[.agg #[iv r9.W,iv r9.H,.slice a0 aa.length a5],iv aj,iv ak,.bool al]) (val:=fun _=>.tuple #[]) (B':=fun _=>[eRow rB 4 (.slice a0 aa.length a5) ao]) (D':=fun _=>[]) [eRow rB 4 (.slice a0 aa.length a5) aa] [eBox b6 24 [iv p0.W,iv p0.H,.slice a6 p0.Bits.length a7],eBox b7 24 [iv 0,iv 0,.slice none 0 0],eBox ac 24 [iv r9.W,iv r9.H,.slice a0 aa.length a5]] [] [3,0,1,2] [] S (wN d) d callee67 d (by decide) d d (fun E1 w1 S1=>c_raddleref01_Set_s0 E1 w1 r9.W r9.H aa a0 a5 aj ak al ao aL S1) d (lb d) fun _ a w S=>?_
 refine leafL ⟨d,_,_,.inl ⟨50,(.tuple #[]),[],d,S,hz_of d,?_⟩⟩
 refine node_by (A:=anc_raddleref01_Shifted_0) 24 (by kernel_rfl) (by kernel_rfl) (by kernel_rfl) (by kernel_rfl) (by kernel_rfl) [23,0,1,2,3,4,5,6,7,8,9,10,11,12,13,14,15,16,17,18,19,20,21,22] (by kernel_rfl) (by decide) (by decide) (fD 23 (fD 23 (fD 23 (fD 23 (fD 23 (fD 23 (fD 23 (fD 23 (fD 23 (fD 23 (fD 23 (fD 23 (fD 23 (fD 23 (fD 23 (fD 23 (fD 23 (fD 23 (fD 23 (fD 23 (fD 23 (fD 23 (fD 23 (fY (trivial))))))))))))))))))))))))) [(1,iv p1),(2,iv p2),(3,.pointer (some ⟨b6,0,none⟩)),(6,.pointer (some ⟨b7,0,none⟩)),(7,.pointer (some ⟨ac,0,none⟩)),(8,iv a9),(9,iv ab)] (fin_of [none,none,none,none,none,none,none] d (by kernel_rfl) (by kernel_rfl)) (fun _ a w S=>?_)
 have aM:=row_v (S.mem.hold (i:=0) (e:=eRow rB 4 (.slice a0 aa.length a5) ao) d)
 rw [aM] at S
 refine leafB (leafT (aC _ _ ?_))
 refine sRegion (sM S fun a S=>?_)
 refine sBin _ S (wN d) d d d (bAdd _ _ _ _ ab 1) d (lb d) fun a S=>sN S fun a S=>?_
 exact lT (⟨(w64 (ab + 1),ao),(Option.some.inj h).symm,(S.fix [1,2,3,0] [0] (by decide) d d d)⟩)
def anc_raddleref01_Mirror_0:List (List Nat):=[[],[],[],[],[],[4],[4,5],[],[4,5,6,7],[],[3,4,5,6,7,8,9],[0,1,2,3,4,5,6,7,8,9,10]]
def anc_raddleref01_Mirror_1:List (List Nat):=[[],[],[],[],[],[],[5],[5,6],[],[5,6,7,8],[3,4,5,6,7,8,9],[0,1,2,3,4,5,6,7,8,9,10]]
noncomputable def raddleref01_Mirror_l1 (p0:api_Grid) (p1:Int) (a5:Int) (a6:api_Grid):(Int × List Bool)→Option ((Int × List Bool) ⊕ List Bool):=fun s0=>match s0 with
 | (a0,a7)=>
  if decide (a0 < p0.H) then
   Option.bind (α:=List Bool) (
    if p1 == 0 then
     (F_raddleref01_At p0 (w64 ((w64 (p0.W - 1)) - a5)) a0).bind fun a8=>
     (F_raddleref01_Set_s0 a6.W a6.H a7 a5 a0 a8).bind fun a9=>
     some a9
    else
     (F_raddleref01_At p0 a5 (w64 ((w64 (p0.H - 1)) - a0))).bind fun aa=>
     (F_raddleref01_Set_s0 a6.W a6.H a7 a5 a0 aa).bind fun ab=>
     some ab) fun ac=>
   some (.inl (w64 (a0 + 1),ac))
  else
   some (.inr a7)
noncomputable def raddleref01_Mirror_l2 (p0:api_Grid) (p1:Int) (a6:api_Grid):(Int × List Bool)→Option ((Int × List Bool) ⊕ List Bool):=fun s0=>match s0 with
 | (a0,a5)=>
  if decide (a0 < p0.W) then
   Option.bind (α:=List Bool) (
    (whileO (raddleref01_Mirror_l1 p0 p1 a0 a6) (0,a5)).bind fun a7=>
     some a7) fun a8=>
   some (.inl (w64 (a0 + 1),a8))
  else
   some (.inr a5)
noncomputable def F_raddleref01_Mirror (p0:api_Grid) (p1:Int):Option (api_Grid × Int):=
 (F_raddleref01_Check p0).bind fun a5=>
 if a5 != 0 then
  some ((api_Grid.mk 0 0 ([]:(List Bool))),a5)
 else
  Option.bind (α:=Bool) (
   if p1 != 0 then
    some (p1 != 1)
   else
    some false) fun a6=>
  if a6 then
   some ((api_Grid.mk 0 0 ([]:(List Bool))),2)
  else
   (F_raddleref01_Zero_s0 p0.W p0.H).bind fun a0=>
   Option.bind (α:=List Bool) (
    (whileO (raddleref01_Mirror_l2 p0 p1 a0) (0,a0.Bits)).bind fun a7=>
     some a7) fun a8=>
   some ((api_Grid.mk a0.W a0.H a8),0)
def c_raddleref01_Mirror_val (r:(api_Grid × Int)) (x:Value):Value:=.tuple #[x,.int .i64 r.2]
def c_raddleref01_Mirror_D (r:(api_Grid × Int)) (x:Value):List Fact:=[fRep r_api_Grid x r.1]
theorem c_raddleref01_Mirror (E:Nat→Prop) (w0:World) (p0:api_Grid) (v0:Value) (p1:Int) (r:(api_Grid × Int)) (h:F_raddleref01_Mirror p0 p1=some r) (S:St0 E [] w0 w0 [] [fRep r_api_Grid (v0) p0]) :
 Calls Try.prog 70 #[v0,iv p1] w0 (Ret (X:=Value) E [] w0 (c_raddleref01_Mirror_val r) (fun _=>[]) (c_raddleref01_Mirror_D r)):=by
 unfold F_raddleref01_Mirror at h
 obtain ⟨u1,rfl,aZ⟩:=S.know (i:=0) (e:=fRep r_api_Grid (v0) p0) d
 have S:=S.learn (fRep (rL rB) u1 p0.Bits) aZ
 obtain ⟨a7,a8,_,rfl,_⟩:=aZ
 refine sEnter (args:=[.agg #[iv p0.W,iv p0.H,.slice a7 p0.Bits.length a8],iv p1]) 66 Try.func70 d d (by simp) S (fun a S=>?_)
 refine sSeq (fun K5 ba=>sRegion (sBox (v:=.agg #[iv p0.W,iv p0.H,.slice a7 p0.Bits.length a8]) S (wN d) d d [iv p0.W,iv p0.H,.slice a7 p0.Bits.length a8] d d (lb d) fun a b6 w S=>sAlloc (.agg #[iv 0,iv 0,.slice none 0 0]) S (wN d) d d [iv 0,iv 0,.slice none 0 0] d d (lb d) fun a b7 w S=>sN S fun a S=>?_))
 refine lT (ba _ _ (sSeq (fun K8 bb=>sSeq (fun K9 bc=>sRegion (sLoadN (p:=b6) (off:=0) (T:=24) (vs:=[iv p0.W,iv p0.H,.slice a7 p0.Bits.length a8]) 1 [iv p0.W,iv p0.H,.slice a7 p0.Bits.length a8] S (wN d) d d d d d d d (lb d) fun a S=>?_)))))
 obtain ⟨ag,ar,h⟩:=bS h
 have S1:=S.mem
 refine sCq [.agg #[iv p0.W,iv p0.H,.slice a7 p0.Bits.length a8]] (iv ag) S callee80 (S1.quiet [1] d) (fun E1 w1 S1=>c_raddleref01_Check E1 w1 p0 (.agg #[iv p0.W,iv p0.H,.slice a7 p0.Bits.length a8]) ag ar S1) fun a w S=>?_
 refine sBin _ S (wN d) d d d (bNe _ _ _ _ .i64 ag 0) d (lb d) fun a S=>lT (bc _ _ ?_)
 rcases iS h with ⟨ah,h⟩ | ⟨ah,h⟩
 ·refine sCondT S d ah (sSeq (fun bq ax=>sRegion (sBuild [] [iv 0,iv 0,.slice none 0 0] S (wN d) d d d d (lb d) fun a S=>sLoadN (p:=b6) (off:=0) (T:=24) (vs:=[iv p0.W,iv p0.H,.slice a7 p0.Bits.length a8]) 1 [iv p0.W,iv p0.H,.slice a7 p0.Bits.length a8] S (wN d) d d d d d d d (lb d) fun a S=>?_)))
  have S1:=S.mem
  refine sCq [.agg #[iv p0.W,iv p0.H,.slice a7 p0.Bits.length a8]] (iv ag) S callee80 (S1.quiet [1] d) (fun E1 w1 S1=>c_raddleref01_Check E1 w1 p0 (.agg #[iv p0.W,iv p0.H,.slice a7 p0.Bits.length a8]) ag ar S1) fun a w S=>?_
  refine sStore (p:=b7) (off:=0) (T:=24) (vs:=[iv 0,iv 0,.slice none 0 0]) (v:=.agg #[iv 0,iv 0,.slice none 0 0]) 0 [iv 0,iv 0,.slice none 0 0] S (wN d) d d d d d d d (by simp) d fun a w S=>sN S fun a S=>?_
  refine lT (ax _ _ ?_)
  obtain rfl:=tS h
  have S:=S.learn (fRep (rL rB) (.slice none 0 0) ([]:(List Bool))) (rL_nil _ _ _)
  have S:=S.learn (fRep r_api_Grid (.agg #[iv 0,iv 0,.slice none 0 0]) (api_Grid.mk 0 0 ([]:(List Bool)))) ⟨_,d,S.mem.know (i:=0) (e:=fRep (rL rB) (.slice none 0 0) ([]:(List Bool))) d⟩
  exact wp_ret (rThen (sRet (.tuple #[.agg #[iv 0,iv 0,.slice none 0 0],iv ag]) S (rsl2 d (rvN (c:=4) (t:=24) (T:=24) (p:=b7) 0 [iv 0,iv 0,.slice none 0 0] S d d d d) (rvT (t:=5) (v:=iv ag) S d)) ⟨(.agg #[iv 0,iv 0,.slice none 0 0]),d,S.mem.sel [] [0] (by decide) d d⟩))
 refine sCondF S d ah (wp_skip (leafT (bb _ _ ?_)))
 refine sSeq (fun br ay=>?_)
 obtain ⟨bf,h,bg⟩:=bS h
 refine sCut (fun a w=>∃ az,az=bf∧St [] E [] w0 66 a w [(1,iv p1),(2,.pointer (some ⟨b6,0,none⟩)),(4,.pointer (some ⟨b7,0,none⟩)),(20,.bool az)] [eBox b6 24 [iv p0.W,iv p0.H,.slice a7 p0.Bits.length a8],eBox b7 24 [iv 0,iv 0,.slice none 0 0]] [fRep (rL rB) (.slice a7 p0.Bits.length a8) p0.Bits]) ?_ (fun a w hI=>?_)
 ·refine sRegion (sM S fun a S=>?_)
  refine sBin _ S (wN d) d d d (bNe _ _ _ _ .i64 p1 0) d (lb d) fun a S=>sM S fun a S=>?_
  rcases iS h with ⟨af,h⟩ | ⟨af,h⟩
  rotate_left
  ·refine sSkN 2 2 true 17 S d d af d fun a S=>sPickF (.bool false) S (wN d) d d af d d (lb d) fun a S=>?_
   exact lT (⟨false,Option.some.inj h,S.fix [1,0] [0] (by decide) d d d⟩)
  refine sMove (iv p1) S (wG 2 true 17 d d d af) (.inl d) d d (lb d) fun a S=>sBin _ S (wG 2 true 17 d d d af) d d d (bNe _ _ _ _ .i64 p1 1) d (lb d) fun a S=>sPickT (.bool (p1 != 1)) S (wN d) d d af d d (lb d) fun a S=>?_
  exact lT (⟨p1 != 1,Option.some.inj h,S.fix [1,0] [0] (by decide) d d d⟩)
 obtain ⟨az,rfl,S⟩:=hI
 have h:=bg
 try dsimp only at h
 rcases iS h with ⟨ai,h⟩ | ⟨ai,h⟩
 ·refine sCondT S d ai (sSeq (fun bu aA=>sRegion (sBuild [] [iv 0,iv 0,.slice none 0 0] S (wN d) d d d d (lb d) fun a S=>sStore (p:=b7) (off:=0) (T:=24) (vs:=[iv 0,iv 0,.slice none 0 0]) (v:=.agg #[iv 0,iv 0,.slice none 0 0]) 1 [iv 0,iv 0,.slice none 0 0] S (wN d) d d d d d d d (by simp) d fun a w S=>sN S fun a S=>?_)))
  refine lT (aA _ _ ?_)
  obtain rfl:=tS h
  have S:=S.learn (fRep (rL rB) (.slice none 0 0) ([]:(List Bool))) (rL_nil _ _ _)
  have S:=S.learn (fRep r_api_Grid (.agg #[iv 0,iv 0,.slice none 0 0]) (api_Grid.mk 0 0 ([]:(List Bool)))) ⟨_,d,S.mem.know (i:=0) (e:=fRep (rL rB) (.slice none 0 0) ([]:(List Bool))) d⟩
  exact wp_ret (rThen (sRet (.tuple #[.agg #[iv 0,iv 0,.slice none 0 0],iv 2]) S (rsl2 d (rvN (c:=4) (t:=24) (T:=24) (p:=b7) 0 [iv 0,iv 0,.slice none 0 0] S d d d d) (rvT (t:=5) (v:=iv 2) S d)) ⟨(.agg #[iv 0,iv 0,.slice none 0 0]),d,S.mem.sel [] [0] (by decide) d d⟩))
 refine sCondF S d ai (wp_skip (leafT (ay _ _ ?_)))
 refine sSeq (fun bv aC=>sRegion (sField (b:=b6) (off:=0) 0 0 S (wN d) d d d d d (lb d) fun a S=>sLoad1 0 (iv p0.W) S (wN d) d d d d d d (lb d) fun a S=>sField (b:=b6) (off:=0) 1 1 S (wN d) d d d d d (lb d) fun a S=>sLoad1 0 (iv p0.H) S (wN d) d d d d d d (lb d) fun a S=>?_))
 obtain ⟨a6,aG,h⟩:=bS h
 refine sCall (X:=Option Addr × Nat) (f:=66) (vs:=[iv p0.W,iv p0.H]) (val:=fun x=>.agg #[iv a6.W,iv a6.H,.slice x.1 a6.Bits.length x.2]) (B':=fun x=>[eRow rB 4 (.slice x.1 a6.Bits.length x.2) a6.Bits]) (D':=fun _=>[]) [] [eBox b6 24 [iv p0.W,iv p0.H,.slice a7 p0.Bits.length a8],eBox b7 24 [iv 0,iv 0,.slice none 0 0]] [] [0,1] [] S (wN d) d callee66 d (by decide) d d (fun E1 w1 S1=>c_raddleref01_Zero_s0 E1 w1 p0.W p0.H a6 aG S1) d (lb d) fun xx a w S=>?_
 obtain ⟨a0,a5⟩:=xx
 dsimp only at S
 refine sAlloc (.agg #[iv 0,iv 0,.slice none 0 0]) S (wN d) d d [iv 0,iv 0,.slice none 0 0] d d (lb d) fun a ac w S=>sStore (p:=ac) (off:=0) (T:=24) (vs:=[iv 0,iv 0,.slice none 0 0]) (v:=.agg #[iv a6.W,iv a6.H,.slice a0 a6.Bits.length a5]) 0 [iv a6.W,iv a6.H,.slice a0 a6.Bits.length a5] S (wN d) d d d d d d d (by simp) d fun a w S=>lT (aC _ _ ?_)
 obtain ⟨bh,h,bi⟩:=bS h
 refine sCut (fun a w=>∃ ae,ae=bh∧St [] E [] w0 66 a w [(4,.pointer (some ⟨b7,0,none⟩)),(6,.pointer (some ⟨ac,0,none⟩))] [eBox b7 24 [iv 0,iv 0,.slice none 0 0],eBox ac 24 [iv a6.W,iv a6.H,.slice a0 ae.length a5],eRow rB 4 (.slice a0 ae.length a5) ae] []) ?_ (fun a w hI=>?_)
 rotate_left
 ·obtain ⟨ae,rfl,S⟩:=hI
  have h:=bi
  try dsimp only at h
  refine sSeq (fun bw aH=>sRegion (sLoadN (p:=ac) (off:=0) (T:=24) (vs:=[iv a6.W,iv a6.H,.slice a0 ae.length a5]) 1 [iv a6.W,iv a6.H,.slice a0 ae.length a5] S (wN d) d d d d d d d (lb d) fun a S=>sStore (p:=b7) (off:=0) (T:=24) (vs:=[iv 0,iv 0,.slice none 0 0]) (v:=.agg #[iv a6.W,iv a6.H,.slice a0 ae.length a5]) 0 [iv a6.W,iv a6.H,.slice a0 ae.length a5] S (wN d) d d d d d d d (by simp) d fun a w S=>sN S fun a S=>?_))
  refine lT (aH _ _ ?_)
  obtain rfl:=tS h
  have S:=S.shutR (r:=rB) (T:=4) (v:=.slice a0 ae.length a5) (xs:=ae) 2 d
  have S:=S.learn (fRep r_api_Grid (.agg #[iv a6.W,iv a6.H,.slice a0 ae.length a5]) (api_Grid.mk a6.W a6.H ae)) ⟨_,d,S.mem.know (i:=0) (e:=fRep (rL rB) (.slice a0 ae.length a5) ae) d⟩
  exact wp_ret (sRet (.tuple #[.agg #[iv a6.W,iv a6.H,.slice a0 ae.length a5],iv 0]) S (rsl2 d (rvN (c:=4) (t:=24) (T:=24) (p:=b7) 0 [iv a6.W,iv a6.H,.slice a0 ae.length a5] S d d d d) (rvT (t:=5) (v:=iv 0) S d)) ⟨(.agg #[iv a6.W,iv a6.H,.slice a0 ae.length a5]),d,S.mem.sel [] [0] (by decide) d d⟩)
 refine sSeq (fun bx aI=>sRegion (sN S fun a S=>?_))
 refine lT (aI _ _ (wp_block ?_))
 obtain ⟨bz,hl,bj⟩:=bS h
 refine sLoop hl (fun s0 a w=>match s0 with | (aa,au)=>St [] E [] w0 66 a w [(1,iv p1),(2,.pointer (some ⟨b6,0,none⟩)),(4,.pointer (some ⟨b7,0,none⟩)),(6,.pointer (some ⟨ac,0,none⟩)),(7,iv aa)] [eBox b6 24 [iv p0.W,iv p0.H,.slice a7 p0.Bits.length a8],eBox b7 24 [iv 0,iv 0,.slice none 0 0],eBox ac 24 [iv a6.W,iv a6.H,.slice a0 au.length a5],eRow rB 4 (.slice a0 au.length a5) au] [fRep (rL rB) (.slice a7 p0.Bits.length a8) p0.Bits]) (S.fix [2,3,0,1] [0] (by decide) d d d) ?_
 clear hl h
 intro s0 a w c0 hI h aJ
 obtain ⟨aa,au⟩:=s0
 unfold raddleref01_Mirror_l2 at h
 dsimp only at h hI
 have S:=hI
 refine sSeq (fun bA aK=>sSeq (fun bB aL=>sRegion (sM S fun a S=>?_)))
 refine sField (b:=b6) (off:=0) 0 0 S (wN d) d d d d d (lb d) fun a S=>sLoad1 0 (iv p0.W) S (wN d) d d d d d d (lb d) fun a S=>sBin _ S (wN d) d d d (bLt _ _ _ _ .i64 aa p0.W) d (lb d) fun a S=>lT (aL _ _ ?_)
 rcases iS h with ⟨aj,h⟩ | ⟨aj,h⟩
 rotate_left
 ·refine sCondF S d aj ?_
  obtain rfl:=tS h
  obtain rfl:=aJ _ d
  have h:=bj
  try dsimp only at h
  exact wp_exit (xThen (xThen (xHit (leafT (⟨au,Option.some.inj h,S.fix [1,2,3] [] (by decide) d d d⟩)))))
 refine sCondT S d aj (wp_skip (leafT (aK _ _ ?_)))
 obtain ⟨bk,h,bl⟩:=bS h
 refine sCut (fun a w=>∃ am,am=bk∧St [] E [] w0 66 a w [(1,iv p1),(2,.pointer (some ⟨b6,0,none⟩)),(4,.pointer (some ⟨b7,0,none⟩)),(6,.pointer (some ⟨ac,0,none⟩)),(7,iv aa)] [eBox b6 24 [iv p0.W,iv p0.H,.slice a7 p0.Bits.length a8],eBox b7 24 [iv 0,iv 0,.slice none 0 0],eBox ac 24 [iv a6.W,iv a6.H,.slice a0 am.length a5],eRow rB 4 (.slice a0 am.length a5) am] [fRep (rL rB) (.slice a7 p0.Bits.length a8) p0.Bits]) ?_ (fun a w hI=>?_)
 rotate_left
 ·obtain ⟨am,rfl,S⟩:=hI
  have h:=bl
  try dsimp only at h
  refine sRegion (sM S fun a S=>?_)
  refine sBin _ S (wN d) d d d (bAdd _ _ _ _ aa 1) d (lb d) fun a S=>sN S fun a S=>?_
  exact lT (⟨(w64 (aa + 1),am),(Option.some.inj h).symm,(S.fix [0,1,2,3] [0] (by decide) d d d)⟩)
 refine wp_block ?_
 refine sSeq (fun bC aM=>sRegion (sN S fun a S=>?_))
 refine lT (aM _ _ (wp_block ?_))
 obtain ⟨bD,hl,bm⟩:=bS h
 refine sLoop hl (fun s0 a w=>match s0 with | (ab,a9)=>St [] E [] w0 66 a w [(1,iv p1),(2,.pointer (some ⟨b6,0,none⟩)),(4,.pointer (some ⟨b7,0,none⟩)),(6,.pointer (some ⟨ac,0,none⟩)),(7,iv aa),(8,iv ab)] [eBox b6 24 [iv p0.W,iv p0.H,.slice a7 p0.Bits.length a8],eBox b7 24 [iv 0,iv 0,.slice none 0 0],eBox ac 24 [iv a6.W,iv a6.H,.slice a0 a9.length a5],eRow rB 4 (.slice a0 a9.length a5) a9] [fRep (rL rB) (.slice a7 p0.Bits.length a8) p0.Bits]) (S.fix [0,1,2,3] [0] (by decide) d d d) ?_
 clear hl h
 intro s0 a w c0 hI h aO
 obtain ⟨ab,a9⟩:=s0
 unfold raddleref01_Mirror_l1 at h
 dsimp only at h hI
 have S:=hI
 refine sSeq (fun bE aP=>sSeq (fun bG aQ=>sRegion (sM S fun a S=>?_)))
 refine sField (b:=b6) (off:=0) 1 1 S (wN d) d d d d d (lb d) fun a S=>sLoad1 0 (iv p0.H) S (wN d) d d d d d d (lb d) fun a S=>sBin _ S (wN d) d d d (bLt _ _ _ _ .i64 ab p0.H) d (lb d) fun a S=>lT (aQ _ _ ?_)
 rcases iS h with ⟨ak,h⟩ | ⟨ak,h⟩
 rotate_left
 ·refine sCondF S d ak ?_
  obtain rfl:=tS h
  obtain rfl:=aO _ d
  have h:=bm
  try dsimp only at h
  exact wp_exit (xThen (xThen (xHit (leafB (leafT (⟨a9,Option.some.inj h,S.fix [0,1,2,3] [0] (by decide) d d d⟩))))))
 refine sCondT S d ak (wp_skip (leafT (aP _ _ ?_)))
 obtain ⟨bo,h,bp⟩:=bS h
 refine sCut (fun a w=>∃ ao,ao=bo∧St [] E [] w0 66 a w [(1,iv p1),(2,.pointer (some ⟨b6,0,none⟩)),(4,.pointer (some ⟨b7,0,none⟩)),(6,.pointer (some ⟨ac,0,none⟩)),(7,iv aa),(8,iv ab)] [eBox b6 24 [iv p0.W,iv p0.H,.slice a7 p0.Bits.length a8],eBox b7 24 [iv 0,iv 0,.slice none 0 0],eBox ac 24 [iv a6.W,iv a6.H,.slice a0 ao.length a5],eRow rB 4 (.slice a0 ao.length a5) ao] [fRep (rL rB) (.slice a7 p0.Bits.length a8) p0.Bits]) ?_ (fun a w hI=>?_)
 rotate_left
 ·obtain ⟨ao,rfl,S⟩:=hI
  have h:=bp
  try dsimp only at h
  refine sRegion (sM S fun a S=>?_)
  refine sBin _ S (wN d) d d d (bAdd _ _ _ _ ab 1) d (lb d) fun a S=>sN S fun a S=>?_
  exact lT (⟨(w64 (ab + 1),ao),(Option.some.inj h).symm,(S.fix [0,1,2,3] [0] (by decide) d d d)⟩)
 refine wp_block ?_
 refine sSeq (fun bH aR=>sRegion (sM S fun a S=>?_))
 refine sBin _ S (wN d) d d d (bEq _ _ _ _ .i64 p1 0) d (lb d) fun a S=>lT (aR _ _ ?_)
 rcases iS h with ⟨al,h⟩ | ⟨al,h⟩
 ·refine sCondT S d al ?_
  obtain ⟨ap,aS,h⟩:=bS h
  obtain ⟨av,aT,h⟩:=bS h
  refine sDraw (nf:=[11]) (W:=[(0,41,.agg #[iv a6.W,iv a6.H,.slice a0 a9.length a5]),(1,42,iv aa),(2,43,iv ab),(3,44,.agg #[iv p0.W,iv p0.H,.slice a7 p0.Bits.length a8]),(4,45,.pointer (some ⟨b6,0,none⟩)),(5,46,iv p0.W),(6,47,iv (w64 (p0.W - 1))),(7,48,iv aa),(8,49,iv (w64 ((w64 (p0.W - 1)) - aa))),(9,50,iv ab),(10,51,.bool ap)]) d S ?_
  refine node_by (A:=anc_raddleref01_Mirror_0) 12 (by kernel_rfl) (by kernel_rfl) (by kernel_rfl) (by kernel_rfl) (by kernel_rfl) [0,1,2,3,4,5,6,7,8,9,10] (by kernel_rfl) (by decide) (by decide) (fF ?_ (fF ?_ (fF ?_ (fF ?_ (fF ?_ (fF ?_ (fF ?_ (fF ?_ (fF ?_ (fF ?_ (fF ?_ (fN ?_ (trivial))))))))))))) [] (fun q hq=>by cases hq) (fun hY=>absurd (hY 11 (by decide)) (by decide))
  ·refine fJ [(6,_)] 0 [none] fun G a w S=>?_
   exact sLoadN (p:=ac) (off:=0) (T:=24) (vs:=[iv a6.W,iv a6.H,.slice a0 a9.length a5]) 2 [iv a6.W,iv a6.H,.slice a0 a9.length a5] S (wN d) d d d d d d d (lb d) fun a S=>leafL ⟨d,S⟩
  ·exact fM 1 none d d d d (.inl d) d d d
  ·exact fM 2 none d d d d (.inl d) d d d
  ·refine fJ [(2,_)] 3 [none] fun G a w S=>?_
   exact sLoadN (p:=b6) (off:=0) (T:=24) (vs:=[iv p0.W,iv p0.H,.slice a7 p0.Bits.length a8]) 0 [iv p0.W,iv p0.H,.slice a7 p0.Bits.length a8] S (wN d) d d d d d d d (lb d) fun a S=>leafL ⟨d,S⟩
  ·refine fJ [(2,_)] 4 [none] fun G a w S=>?_
   exact sField (b:=b6) (off:=0) 0 0 S (wN d) d d d d d (lb d) fun a S=>leafL ⟨d,S⟩
  ·refine fJ [(45,_)] 5 [some 4] fun G a w S=>?_
   exact sLoad1 0 (iv p0.W) S (wN d) d d d d d d (lb d) fun a S=>leafL ⟨d,S⟩
  ·refine fJ [(46,_)] 6 [some 5] fun G a w S=>?_
   exact sBin _ S (wN d) d d d (bSub _ _ _ _ p0.W 1) d (lb d) fun a S=>leafL ⟨d,S⟩
  ·exact fM 7 none d d d d (.inl d) d d d
  ·refine fJ [(47,_),(48,_)] 8 [some 6,some 7] fun G a w S=>?_
   exact sBin _ S (wN d) d d d (bSub _ _ _ _ (w64 (p0.W - 1)) aa) d (lb d) fun a S=>leafL ⟨d,S⟩
  ·exact fM 9 none d d d d (.inl d) d d d
  ·refine fJ [(44,_),(49,_),(50,_)] 10 [some 3,some 8,some 9] fun G a w S=>?_
   have S1:=S.mem
   have S1:=S1.learn (fRep r_api_Grid (.agg #[iv p0.W,iv p0.H,.slice a7 p0.Bits.length a8]) p0) ⟨_,d,S1.know (i:=0) (e:=fRep (rL rB) (.slice a7 p0.Bits.length a8) p0.Bits) d⟩
   refine sCq [.agg #[iv p0.W,iv p0.H,.slice a7 p0.Bits.length a8],iv (w64 ((w64 (p0.W - 1)) - aa)),iv ab] (.bool ap) S callee69 (S1.quiet [0] d) (fun E1 w1 S1=>c_raddleref01_At E1 w1 p0 (.agg #[iv p0.W,iv p0.H,.slice a7 p0.Bits.length a8]) (w64 ((w64 (p0.W - 1)) - aa)) ab ap aS S1) fun a w S=>?_
   exact leafL ⟨d,S⟩
  refine ⟨_,[(41,.agg #[iv a6.W,iv a6.H,.slice a0 a9.length a5]),(42,iv aa),(43,iv ab),(51,.bool ap)],d,(srcs_of [some 0,some 1,some 2,some 10] d d d),fun G a w S=>?_⟩
  refine sCall (X:=Unit) (f:=67) (vs:=[.agg #[iv a6.W,iv a6.H,.slice a0 a9.length a5],iv aa,iv ab,.bool ap]) (val:=fun _=>.tuple #[]) (B':=fun _=>[eRow rB 4 (.slice a0 a9.length a5) av]) (D':=fun _=>[]) [eRow rB 4 (.slice a0 a9.length a5) a9] [eBox b6 24 [iv p0.W,iv p0.H,.slice a7 p0.Bits.length a8],eBox b7 24 [iv 0,iv 0,.slice none 0 0],eBox ac 24 [iv a6.W,iv a6.H,.slice a0 a9.length a5]] [] [3,0,1,2] [] S (wN d) d callee67 d (by decide) d d (fun E1 w1 S1=>c_raddleref01_Set_s0 E1 w1 a6.W a6.H a9 a0 a5 aa ab ap av aT S1) d (lb d) fun _ a w S=>?_
  refine leafL ⟨d,_,_,.inl ⟨52,(.tuple #[]),[],d,S,hz_of d,?_⟩⟩
  refine node_by (A:=anc_raddleref01_Mirror_0) 12 (by kernel_rfl) (by kernel_rfl) (by kernel_rfl) (by kernel_rfl) (by kernel_rfl) [11,0,1,2,3,4,5,6,7,8,9,10] (by kernel_rfl) (by decide) (by decide) (fD 11 (fD 11 (fD 11 (fD 11 (fD 11 (fD 11 (fD 11 (fD 11 (fD 11 (fD 11 (fD 11 (fY (trivial))))))))))))) [(1,iv p1),(2,.pointer (some ⟨b6,0,none⟩)),(4,.pointer (some ⟨b7,0,none⟩)),(6,.pointer (some ⟨ac,0,none⟩)),(7,iv aa),(8,iv ab)] (fin_of [none,none,none,none,none,none] d (by kernel_rfl) (by kernel_rfl)) (fun _ a w S=>?_)
  have aU:=row_v (S.mem.hold (i:=0) (e:=eRow rB 4 (.slice a0 a9.length a5) av) d)
  rw [aU] at S
  exact leafB (leafT (⟨av,Option.some.inj h,S.fix [1,2,3,0] [0] (by decide) d d d⟩))
 refine sCondF S d al ?_
 obtain ⟨aq,aV,h⟩:=bS h
 obtain ⟨aw,aW,h⟩:=bS h
 refine sDraw (nf:=[11]) (W:=[(0,53,.agg #[iv a6.W,iv a6.H,.slice a0 a9.length a5]),(1,54,iv aa),(2,55,iv ab),(3,56,.agg #[iv p0.W,iv p0.H,.slice a7 p0.Bits.length a8]),(4,57,iv aa),(5,58,.pointer (some ⟨b6,1,none⟩)),(6,59,iv p0.H),(7,60,iv (w64 (p0.H - 1))),(8,61,iv ab),(9,62,iv (w64 ((w64 (p0.H - 1)) - ab))),(10,63,.bool aq)]) d S ?_
 refine node_by (A:=anc_raddleref01_Mirror_1) 12 (by kernel_rfl) (by kernel_rfl) (by kernel_rfl) (by kernel_rfl) (by kernel_rfl) [0,1,2,3,4,5,6,7,8,9,10] (by kernel_rfl) (by decide) (by decide) (fF ?_ (fF ?_ (fF ?_ (fF ?_ (fF ?_ (fF ?_ (fF ?_ (fF ?_ (fF ?_ (fF ?_ (fF ?_ (fN ?_ (trivial))))))))))))) [] (fun q hq=>by cases hq) (fun hY=>absurd (hY 11 (by decide)) (by decide))
 ·refine fJ [(6,_)] 0 [none] fun G a w S=>?_
  exact sLoadN (p:=ac) (off:=0) (T:=24) (vs:=[iv a6.W,iv a6.H,.slice a0 a9.length a5]) 2 [iv a6.W,iv a6.H,.slice a0 a9.length a5] S (wN d) d d d d d d d (lb d) fun a S=>leafL ⟨d,S⟩
 ·exact fM 1 none d d d d (.inl d) d d d
 ·exact fM 2 none d d d d (.inl d) d d d
 ·refine fJ [(2,_)] 3 [none] fun G a w S=>?_
  exact sLoadN (p:=b6) (off:=0) (T:=24) (vs:=[iv p0.W,iv p0.H,.slice a7 p0.Bits.length a8]) 0 [iv p0.W,iv p0.H,.slice a7 p0.Bits.length a8] S (wN d) d d d d d d d (lb d) fun a S=>leafL ⟨d,S⟩
 ·exact fM 4 none d d d d (.inl d) d d d
 ·refine fJ [(2,_)] 5 [none] fun G a w S=>?_
  exact sField (b:=b6) (off:=0) 1 1 S (wN d) d d d d d (lb d) fun a S=>leafL ⟨d,S⟩
 ·refine fJ [(58,_)] 6 [some 5] fun G a w S=>?_
  exact sLoad1 0 (iv p0.H) S (wN d) d d d d d d (lb d) fun a S=>leafL ⟨d,S⟩
 ·refine fJ [(59,_)] 7 [some 6] fun G a w S=>?_
  exact sBin _ S (wN d) d d d (bSub _ _ _ _ p0.H 1) d (lb d) fun a S=>leafL ⟨d,S⟩
 ·exact fM 8 none d d d d (.inl d) d d d
 ·refine fJ [(60,_),(61,_)] 9 [some 7,some 8] fun G a w S=>?_
  exact sBin _ S (wN d) d d d (bSub _ _ _ _ (w64 (p0.H - 1)) ab) d (lb d) fun a S=>leafL ⟨d,S⟩
 ·refine fJ [(56,_),(57,_),(62,_)] 10 [some 3,some 4,some 9] fun G a w S=>?_
  have S1:=S.mem
  have S1:=S1.learn (fRep r_api_Grid (.agg #[iv p0.W,iv p0.H,.slice a7 p0.Bits.length a8]) p0) ⟨_,d,S1.know (i:=0) (e:=fRep (rL rB) (.slice a7 p0.Bits.length a8) p0.Bits) d⟩
  refine sCq [.agg #[iv p0.W,iv p0.H,.slice a7 p0.Bits.length a8],iv aa,iv (w64 ((w64 (p0.H - 1)) - ab))] (.bool aq) S callee69 (S1.quiet [0] d) (fun E1 w1 S1=>c_raddleref01_At E1 w1 p0 (.agg #[iv p0.W,iv p0.H,.slice a7 p0.Bits.length a8]) aa (w64 ((w64 (p0.H - 1)) - ab)) aq aV S1) fun a w S=>?_
  exact leafL ⟨d,S⟩
 refine ⟨_,[(53,.agg #[iv a6.W,iv a6.H,.slice a0 a9.length a5]),(54,iv aa),(55,iv ab),(63,.bool aq)],d,(srcs_of [some 0,some 1,some 2,some 10] d d d),fun G a w S=>?_⟩
 refine sCall (X:=Unit) (f:=67) (vs:=[.agg #[iv a6.W,iv a6.H,.slice a0 a9.length a5],iv aa,iv ab,.bool aq]) (val:=fun _=>.tuple #[]) (B':=fun _=>[eRow rB 4 (.slice a0 a9.length a5) aw]) (D':=fun _=>[]) [eRow rB 4 (.slice a0 a9.length a5) a9] [eBox b6 24 [iv p0.W,iv p0.H,.slice a7 p0.Bits.length a8],eBox b7 24 [iv 0,iv 0,.slice none 0 0],eBox ac 24 [iv a6.W,iv a6.H,.slice a0 a9.length a5]] [] [3,0,1,2] [] S (wN d) d callee67 d (by decide) d d (fun E1 w1 S1=>c_raddleref01_Set_s0 E1 w1 a6.W a6.H a9 a0 a5 aa ab aq aw aW S1) d (lb d) fun _ a w S=>?_
 refine leafL ⟨d,_,_,.inl ⟨64,(.tuple #[]),[],d,S,hz_of d,?_⟩⟩
 refine node_by (A:=anc_raddleref01_Mirror_1) 12 (by kernel_rfl) (by kernel_rfl) (by kernel_rfl) (by kernel_rfl) (by kernel_rfl) [11,0,1,2,3,4,5,6,7,8,9,10] (by kernel_rfl) (by decide) (by decide) (fD 11 (fD 11 (fD 11 (fD 11 (fD 11 (fD 11 (fD 11 (fD 11 (fD 11 (fD 11 (fD 11 (fY (trivial))))))))))))) [(1,iv p1),(2,.pointer (some ⟨b6,0,none⟩)),(4,.pointer (some ⟨b7,0,none⟩)),(6,.pointer (some ⟨ac,0,none⟩)),(7,iv aa),(8,iv ab)] (fin_of [none,none,none,none,none,none] d (by kernel_rfl) (by kernel_rfl)) (fun _ a w S=>?_)
 have aX:=row_v (S.mem.hold (i:=0) (e:=eRow rB 4 (.slice a0 a9.length a5) aw) d)
 rw [aX] at S
 exact leafB (leafT (⟨aw,Option.some.inj h,S.fix [1,2,3,0] [0] (by decide) d d d⟩))
noncomputable def raddleref01_Turned_l1 (r9:api_Grid) (p0:api_Grid) (a5:Int):(Int × List Bool)→Option ((Int × List Bool) ⊕ List Bool):=fun s0=>match s0 with
 | (a0,a6)=>
  if decide (a0 < r9.H) then
   (F_raddleref01_At p0 a0 a5).bind fun a7=>
   (F_raddleref01_Set_s0 r9.W r9.H a6 a5 a0 a7).bind fun a8=>
   some (.inl (w64 (a0 + 1),a8))
  else
   some (.inr a6)
noncomputable def raddleref01_Turned_l2 (r9:api_Grid) (p0:api_Grid):(Int × List Bool)→Option ((Int × List Bool) ⊕ List Bool):=fun s0=>match s0 with
 | (a0,a5)=>
  if decide (a0 < r9.W) then
   Option.bind (α:=List Bool) (
    (whileO (raddleref01_Turned_l1 r9 p0 a0) (0,a5)).bind fun a6=>
     some a6) fun a7=>
   some (.inl (w64 (a0 + 1),a7))
  else
   some (.inr a5)
noncomputable def F_raddleref01_Turned (p0:api_Grid):Option api_Grid:=
 (F_raddleref01_Zero_s0 p0.H p0.W).bind fun r9=>
 Option.bind (α:=List Bool) (
  (whileO (raddleref01_Turned_l2 r9 p0) (0,r9.Bits)).bind fun a0=>
   some a0) fun a5=>
 some (api_Grid.mk r9.W r9.H a5)
def c_raddleref01_Turned_val (r:api_Grid) (x:Value):Value:=x
def c_raddleref01_Turned_D (r:api_Grid) (x:Value):List Fact:=[fRep r_api_Grid x r]
theorem c_raddleref01_Turned (E:Nat→Prop) (w0:World) (p0:api_Grid) (v0:Value) (r:api_Grid) (h:F_raddleref01_Turned p0=some r) (S:St0 E [] w0 w0 [] [fRep r_api_Grid (v0) p0]) :
 Calls Try.prog 71 #[v0] w0 (Ret (X:=Value) E [] w0 (c_raddleref01_Turned_val r) (fun _=>[]) (c_raddleref01_Turned_D r)):=by
 unfold F_raddleref01_Turned at h
 obtain ⟨u1,rfl,aC⟩:=S.know (i:=0) (e:=fRep r_api_Grid (v0) p0) d
 have S:=S.learn (fRep (rL rB) u1 p0.Bits) aC
 obtain ⟨a6,a7,_,rfl,_⟩:=aC
 refine sEnter (args:=[.agg #[iv p0.W,iv p0.H,.slice a6 p0.Bits.length a7]]) 32 Try.func71 d d (by simp) S (fun a S=>?_)
 refine sSeq (fun K5 aG=>sRegion (sBox (v:=.agg #[iv p0.W,iv p0.H,.slice a6 p0.Bits.length a7]) S (wN d) d d [iv p0.W,iv p0.H,.slice a6 p0.Bits.length a7] d d (lb d) fun a b6 w S=>sAlloc (.agg #[iv 0,iv 0,.slice none 0 0]) S (wN d) d d [iv 0,iv 0,.slice none 0 0] d d (lb d) fun a b7 w S=>lT (aG _ _ (sSeq (fun K8 aH=>sRegion (sField (b:=b6) (off:=0) 1 1 S (wN d) d d d d d (lb d) fun a S=>sLoad1 1 (iv p0.H) S (wN d) d d d d d d (lb d) fun a S=>sField (b:=b6) (off:=0) 0 0 S (wN d) d d d d d (lb d) fun a S=>sLoad1 1 (iv p0.W) S (wN d) d d d d d d (lb d) fun a S=>?_))))))
 obtain ⟨r9,ak,h⟩:=bS h
 refine sCall (X:=Option Addr × Nat) (f:=66) (vs:=[iv p0.H,iv p0.W]) (val:=fun x=>.agg #[iv r9.W,iv r9.H,.slice x.1 r9.Bits.length x.2]) (B':=fun x=>[eRow rB 4 (.slice x.1 r9.Bits.length x.2) r9.Bits]) (D':=fun _=>[]) [] [eBox b7 24 [iv 0,iv 0,.slice none 0 0],eBox b6 24 [iv p0.W,iv p0.H,.slice a6 p0.Bits.length a7]] [] [0,1] [] S (wN d) d callee66 d (by decide) d d (fun E1 w1 S1=>c_raddleref01_Zero_s0 E1 w1 p0.H p0.W r9 ak S1) d (lb d) fun xx a w S=>?_
 obtain ⟨a0,a5⟩:=xx
 dsimp only at S
 refine sAlloc (.agg #[iv 0,iv 0,.slice none 0 0]) S (wN d) d d [iv 0,iv 0,.slice none 0 0] d d (lb d) fun a ab w S=>sStore (p:=ab) (off:=0) (T:=24) (vs:=[iv 0,iv 0,.slice none 0 0]) (v:=.agg #[iv r9.W,iv r9.H,.slice a0 r9.Bits.length a5]) 0 [iv r9.W,iv r9.H,.slice a0 r9.Bits.length a5] S (wN d) d d d d d d d (by simp) d fun a w S=>lT (aH _ _ ?_)
 obtain ⟨aI,h,aJ⟩:=bS h
 refine sCut (fun a w=>∃ a8,a8=aI∧St [] E [] w0 32 a w [(2,.pointer (some ⟨b7,0,none⟩)),(3,.pointer (some ⟨ab,0,none⟩))] [eBox b7 24 [iv 0,iv 0,.slice none 0 0],eBox ab 24 [iv r9.W,iv r9.H,.slice a0 a8.length a5],eRow rB 4 (.slice a0 a8.length a5) a8] []) ?_ (fun a w hI=>?_)
 rotate_left
 ·obtain ⟨a8,rfl,S⟩:=hI
  have h:=aJ
  try dsimp only at h
  refine sSeq (fun aP al=>sRegion (sLoadN (p:=ab) (off:=0) (T:=24) (vs:=[iv r9.W,iv r9.H,.slice a0 a8.length a5]) 1 [iv r9.W,iv r9.H,.slice a0 a8.length a5] S (wN d) d d d d d d d (lb d) fun a S=>sStore (p:=b7) (off:=0) (T:=24) (vs:=[iv 0,iv 0,.slice none 0 0]) (v:=.agg #[iv r9.W,iv r9.H,.slice a0 a8.length a5]) 0 [iv r9.W,iv r9.H,.slice a0 a8.length a5] S (wN d) d d d d d d d (by simp) d fun a w S=>lT (al _ _ ?_)))
  obtain rfl:=tS h
  have S:=S.shutR (r:=rB) (T:=4) (v:=.slice a0 a8.length a5) (xs:=a8) 2 d
  have S:=S.learn (fRep r_api_Grid (.agg #[iv r9.W,iv r9.H,.slice a0 a8.length a5]) (api_Grid.mk r9.W r9.H a8)) ⟨_,d,S.mem.know (i:=0) (e:=fRep (rL rB) (.slice a0 a8.length a5) a8) d⟩
  exact wp_ret (sRet (.agg #[iv r9.W,iv r9.H,.slice a0 a8.length a5]) S (rsl1 d (rvN (c:=2) (t:=24) (T:=24) (p:=b7) 0 [iv r9.W,iv r9.H,.slice a0 a8.length a5] S d d d d)) ⟨(.agg #[iv r9.W,iv r9.H,.slice a0 a8.length a5]),d,S.mem.sel [] [0] (by decide) d d⟩)
 refine sSeq (fun aQ am=>sRegion (sN S fun a S=>?_))
 refine lT (am _ _ (wp_block ?_))
 obtain ⟨aR,hl,aK⟩:=bS h
 refine sLoop hl (fun s0 a w=>match s0 with | (a9,ai)=>St [] E [] w0 32 a w [(1,.pointer (some ⟨b6,0,none⟩)),(2,.pointer (some ⟨b7,0,none⟩)),(3,.pointer (some ⟨ab,0,none⟩)),(4,iv a9)] [eBox b6 24 [iv p0.W,iv p0.H,.slice a6 p0.Bits.length a7],eBox b7 24 [iv 0,iv 0,.slice none 0 0],eBox ab 24 [iv r9.W,iv r9.H,.slice a0 ai.length a5],eRow rB 4 (.slice a0 ai.length a5) ai] [fRep (rL rB) (.slice a6 p0.Bits.length a7) p0.Bits]) (S.fix [3,2,0,1] [0] (by decide) d d d) ?_
 clear hl h
 intro s0 a w c0 hI h ao
 obtain ⟨a9,ai⟩:=s0
 unfold raddleref01_Turned_l2 at h
 dsimp only at h hI
 have S:=hI
 refine sSeq (fun aS ap=>sSeq (fun aT aq=>sRegion (sM S fun a S=>?_)))
 refine sField (b:=ab) (off:=0) 0 0 S (wN d) d d d d d (lb d) fun a S=>sLoad1 2 (iv r9.W) S (wN d) d d d d d d (lb d) fun a S=>sBin _ S (wN d) d d d (bLt _ _ _ _ .i64 a9 r9.W) d (lb d) fun a S=>lT (aq _ _ ?_)
 rcases iS h with ⟨ae,h⟩ | ⟨ae,h⟩
 rotate_left
 ·refine sCondF S d ae ?_
  obtain rfl:=tS h
  obtain rfl:=ao _ d
  have h:=aK
  try dsimp only at h
  exact wp_exit (xThen (xThen (xHit (leafT (⟨ai,Option.some.inj h,S.fix [1,2,3] [] (by decide) d d d⟩)))))
 refine sCondT S d ae (wp_skip (leafT (ap _ _ ?_)))
 obtain ⟨aL,h,aM⟩:=bS h
 refine sCut (fun a w=>∃ ah,ah=aL∧St [] E [] w0 32 a w [(1,.pointer (some ⟨b6,0,none⟩)),(2,.pointer (some ⟨b7,0,none⟩)),(3,.pointer (some ⟨ab,0,none⟩)),(4,iv a9)] [eBox b6 24 [iv p0.W,iv p0.H,.slice a6 p0.Bits.length a7],eBox b7 24 [iv 0,iv 0,.slice none 0 0],eBox ab 24 [iv r9.W,iv r9.H,.slice a0 ah.length a5],eRow rB 4 (.slice a0 ah.length a5) ah] [fRep (rL rB) (.slice a6 p0.Bits.length a7) p0.Bits]) ?_ (fun a w hI=>?_)
 rotate_left
 ·obtain ⟨ah,rfl,S⟩:=hI
  have h:=aM
  try dsimp only at h
  refine sRegion (sM S fun a S=>?_)
  refine sBin _ S (wN d) d d d (bAdd _ _ _ _ a9 1) d (lb d) fun a S=>sN S fun a S=>?_
  exact lT (⟨(w64 (a9 + 1),ah),(Option.some.inj h).symm,(S.fix [0,1,2,3] [0] (by decide) d d d)⟩)
 refine wp_block ?_
 refine sSeq (fun aU ar=>sRegion (sN S fun a S=>?_))
 refine lT (ar _ _ (wp_block ?_))
 obtain ⟨aV,hl,aO⟩:=bS h
 refine sLoop hl (fun s0 a w=>match s0 with | (ac,aa)=>St [] E [] w0 32 a w [(1,.pointer (some ⟨b6,0,none⟩)),(2,.pointer (some ⟨b7,0,none⟩)),(3,.pointer (some ⟨ab,0,none⟩)),(4,iv a9),(5,iv ac)] [eBox b6 24 [iv p0.W,iv p0.H,.slice a6 p0.Bits.length a7],eBox b7 24 [iv 0,iv 0,.slice none 0 0],eBox ab 24 [iv r9.W,iv r9.H,.slice a0 aa.length a5],eRow rB 4 (.slice a0 aa.length a5) aa] [fRep (rL rB) (.slice a6 p0.Bits.length a7) p0.Bits]) (S.fix [0,1,2,3] [0] (by decide) d d d) ?_
 clear hl h
 intro s0 a w c0 hI h au
 obtain ⟨ac,aa⟩:=s0
 unfold raddleref01_Turned_l1 at h
 dsimp only at h hI
 have S:=hI
 refine sSeq (fun aW av=>sSeq (fun aX aw=>sRegion (sM S fun a S=>?_)))
 refine sField (b:=ab) (off:=0) 1 1 S (wN d) d d d d d (lb d) fun a S=>sLoad1 2 (iv r9.H) S (wN d) d d d d d d (lb d) fun a S=>sBin _ S (wN d) d d d (bLt _ _ _ _ .i64 ac r9.H) d (lb d) fun a S=>lT (aw _ _ ?_)
 rcases iS h with ⟨af,h⟩ | ⟨af,h⟩
 rotate_left
 ·refine sCondF S d af ?_
  obtain rfl:=tS h
  obtain rfl:=au _ d
  have h:=aO
  try dsimp only at h
  exact wp_exit (xThen (xThen (xHit (leafB (leafT (⟨aa,Option.some.inj h,S.fix [0,1,2,3] [0] (by decide) d d d⟩))))))
 refine sCondT S d af (wp_skip (leafT (av _ _ ?_)))
 refine sSeq (fun aZ ax=>wp_block ?_)
 obtain ⟨ag,ay,h⟩:=bS h
 obtain ⟨aj,az,h⟩:=bS h
 refine sDraw (nf:=[7]) (W:=[(0,23,.agg #[iv r9.W,iv r9.H,.slice a0 aa.length a5]),(1,24,iv a9),(2,25,iv ac),(3,26,.agg #[iv p0.W,iv p0.H,.slice a6 p0.Bits.length a7]),(4,27,iv ac),(5,28,iv a9),(6,29,.bool ag)]) d S ?_
 refine node_by (A:=[[],[],[],[],[],[],[3,4,5],[0,1,2,3,4,5,6]]) (nf:=[7]) (Y:=[]) (W:=[(0,23,.agg #[iv r9.W,iv r9.H,.slice a0 aa.length a5]),(1,24,iv a9),(2,25,iv ac),(3,26,.agg #[iv p0.W,iv p0.H,.slice a6 p0.Bits.length a7]),(4,27,iv ac),(5,28,iv a9),(6,29,.bool ag)]) 8 (by kernel_rfl) (by kernel_rfl) (by kernel_rfl) (by kernel_rfl) (by kernel_rfl) [0,1,2,3,4,5,6] (by kernel_rfl) (by decide) (by decide) (fF ?_ (fF ?_ (fF ?_ (fF ?_ (fF ?_ (fF ?_ (fF ?_ (fN ?_ (trivial))))))))) [] (fun q hq=>by cases hq) (fun hY=>absurd (hY 7 (by decide)) (by decide))
 ·refine fJ [(3,_)] 0 [none] fun G a w S=>?_
  exact sLoadN (p:=ab) (off:=0) (T:=24) (vs:=[iv r9.W,iv r9.H,.slice a0 aa.length a5]) 2 [iv r9.W,iv r9.H,.slice a0 aa.length a5] S (wN d) d d d d d d d (lb d) fun a S=>leafL ⟨d,S⟩
 ·exact fM 1 none d d d d (.inl d) d d d
 ·exact fM 2 none d d d d (.inl d) d d d
 ·refine fJ [(1,_)] 3 [none] fun G a w S=>?_
  exact sLoadN (p:=b6) (off:=0) (T:=24) (vs:=[iv p0.W,iv p0.H,.slice a6 p0.Bits.length a7]) 0 [iv p0.W,iv p0.H,.slice a6 p0.Bits.length a7] S (wN d) d d d d d d d (lb d) fun a S=>leafL ⟨d,S⟩
 ·exact fM 4 none d d d d (.inl d) d d d
 ·exact fM 5 none d d d d (.inl d) d d d
 ·refine fJ [(26,_),(27,_),(28,_)] 6 [some 3,some 4,some 5] fun G a w S=>?_
  have S1:=S.mem
  have S1:=S1.learn (fRep r_api_Grid (.agg #[iv p0.W,iv p0.H,.slice a6 p0.Bits.length a7]) p0) ⟨_,d,S1.know (i:=0) (e:=fRep (rL rB) (.slice a6 p0.Bits.length a7) p0.Bits) d⟩
  refine sCq [.agg #[iv p0.W,iv p0.H,.slice a6 p0.Bits.length a7],iv ac,iv a9] (.bool ag) S callee69 (S1.quiet [0] d) (fun E1 w1 S1=>c_raddleref01_At E1 w1 p0 (.agg #[iv p0.W,iv p0.H,.slice a6 p0.Bits.length a7]) ac a9 ag ay S1) fun a w S=>?_
  exact leafL ⟨d,S⟩
 refine ⟨_,[(23,.agg #[iv r9.W,iv r9.H,.slice a0 aa.length a5]),(24,iv a9),(25,iv ac),(29,.bool ag)],d,(srcs_of [some 0,some 1,some 2,some 6] d d d),fun G a w S=>?_⟩
 refine sCall (X:=Unit) (f:=67) (vs:=[.agg #[iv r9.W,iv r9.H,.slice a0 aa.length a5],iv a9,iv ac,.bool ag]) (val:=fun _=>.tuple #[]) (B':=fun _=>[eRow rB 4 (.slice a0 aa.length a5) aj]) (D':=fun _=>[]) [eRow rB 4 (.slice a0 aa.length a5) aa] [eBox b6 24 [iv p0.W,iv p0.H,.slice a6 p0.Bits.length a7],eBox b7 24 [iv 0,iv 0,.slice none 0 0],eBox ab 24 [iv r9.W,iv r9.H,.slice a0 aa.length a5]] [] [3,0,1,2] [] S (wN d) d callee67 d (by decide) d d (fun E1 w1 S1=>c_raddleref01_Set_s0 E1 w1 r9.W r9.H aa a0 a5 a9 ac ag aj az S1) d (lb d) fun _ a w S=>?_
 refine leafL ⟨d,_,_,.inl ⟨30,(.tuple #[]),[],d,S,hz_of d,?_⟩⟩
 refine node_by (A:=[[],[],[],[],[],[],[3,4,5],[0,1,2,3,4,5,6]]) (nf:=[7]) (Y:=[7]) 8 (by kernel_rfl) (by kernel_rfl) (by kernel_rfl) (by kernel_rfl) (by kernel_rfl) [7,0,1,2,3,4,5,6] (by kernel_rfl) (by decide) (by decide) (fD 7 (fD 7 (fD 7 (fD 7 (fD 7 (fD 7 (fD 7 (fY (trivial))))))))) [(1,.pointer (some ⟨b6,0,none⟩)),(2,.pointer (some ⟨b7,0,none⟩)),(3,.pointer (some ⟨ab,0,none⟩)),(4,iv a9),(5,iv ac)] (fin_of [none,none,none,none,none] d (by kernel_rfl) (by kernel_rfl)) (fun _ a w S=>?_)
 have aA:=row_v (S.mem.hold (i:=0) (e:=eRow rB 4 (.slice a0 aa.length a5) aj) d)
 rw [aA] at S
 refine leafB (leafT (ax _ _ ?_))
 refine sRegion (sM S fun a S=>?_)
 refine sBin _ S (wN d) d d d (bAdd _ _ _ _ ac 1) d (lb d) fun a S=>sN S fun a S=>?_
 exact lT (⟨(w64 (ac + 1),aj),(Option.some.inj h).symm,(S.fix [1,2,3,0] [0] (by decide) d d d)⟩)
def anc_raddleref01_Twin_s0_0:List (List Nat):=[[],[0],[],[2],[],[],[5],[4,5,6],[0,1,2,3,4,5,6,7],[0,1,2,3,4,5,6,7,8]]
noncomputable def F_raddleref01_Twin_s0 (p0:api_Grid):Option api_Grid:=
 (appO ([]:List Bool) p0.Bits).bind fun a0=>
 some (api_Grid.mk p0.W p0.H a0)
theorem c_raddleref01_Twin_s0 (E:Nat→Prop) (w0:World) (p0:api_Grid) (v0:Value) (r:api_Grid) (h:F_raddleref01_Twin_s0 p0=some r) (S:St0 E [] w0 w0 [] [fRep r_api_Grid (v0) p0]) :
 Calls Try.prog 13 #[v0] w0 (Ret (X:=Option Addr × Nat) E [] w0 (fun x=>.agg #[iv r.W,iv r.H,.slice x.1 r.Bits.length x.2]) (fun x=>[eRow rB 4 (.slice x.1 r.Bits.length x.2) r.Bits]) (fun _=>[])):=by
 unfold F_raddleref01_Twin_s0 at h
 obtain ⟨u1,rfl,ac⟩:=S.know (i:=0) (e:=fRep r_api_Grid (v0) p0) d
 have S:=S.learn (fRep (rL rB) u1 p0.Bits) ac
 obtain ⟨a7,a8,_,rfl,_⟩:=ac
 refine sEnter (args:=[.agg #[iv p0.W,iv p0.H,.slice a7 p0.Bits.length a8]]) 12 Try.func13 d d (by simp) S (fun a S=>?_)
 refine sSeq (fun K5 ae=>sRegion (sBox (v:=.agg #[iv p0.W,iv p0.H,.slice a7 p0.Bits.length a8]) S (wN d) d d [iv p0.W,iv p0.H,.slice a7 p0.Bits.length a8] d d (lb d) fun a b6 w S=>sAlloc (.agg #[iv 0,iv 0,.slice none 0 0]) S (wN d) d d [iv 0,iv 0,.slice none 0 0] d d (lb d) fun a b7 w S=>lT (ae _ _ (sSeq (fun K8 af=>?_)))))
 obtain ⟨a6,ab,h⟩:=bS h
 refine sDraw (nf:=[4,7,9]) (W:=[(0,3,.pointer (some ⟨b6,0,none⟩)),(1,4,iv p0.W),(2,5,.pointer (some ⟨b6,1,none⟩)),(3,6,iv p0.H),(5,8,.pointer (some ⟨b6,2,none⟩)),(6,9,.slice a7 p0.Bits.length a8)]) d S ?_
 refine node_by (A:=anc_raddleref01_Twin_s0_0) 10 (by kernel_rfl) (by kernel_rfl) (by kernel_rfl) (by kernel_rfl) (by kernel_rfl) [0,1,2,3,5,6] (by kernel_rfl) (by decide) (by decide) (fF ?_ (fF ?_ (fF ?_ (fF ?_ (fN ?_ (fF ?_ (fF ?_ (aB 7 2 4 (by decide) (fE 4 (aB 9 0 4 (by decide) (trivial))))))))))) [] (fun q hq=>by cases hq) (fun hY=>absurd (hY 4 (by decide)) (by decide))
 ·refine fJ [(1,_)] 0 [none] fun G a w S=>?_
  exact sField (b:=b6) (off:=0) 0 0 S (wN d) d d d d d (lb d) fun a S=>leafL ⟨d,S⟩
 ·refine fJ [(3,_)] 1 [some 0] fun G a w S=>?_
  exact sLoad1 1 (iv p0.W) S (wN d) d d d d d d (lb d) fun a S=>leafL ⟨d,S⟩
 ·refine fJ [(1,_)] 2 [none] fun G a w S=>?_
  exact sField (b:=b6) (off:=0) 1 1 S (wN d) d d d d d (lb d) fun a S=>leafL ⟨d,S⟩
 ·refine fJ [(5,_)] 3 [some 2] fun G a w S=>?_
  exact sLoad1 1 (iv p0.H) S (wN d) d d d d d d (lb d) fun a S=>leafL ⟨d,S⟩
 ·refine ⟨_,[],d,(srcs_of [] d d d),fun G a w S=>?_⟩
  refine sLit0 (α:=Bool) rB (T:=4) S (wN d) d Try.underlying22 d d (lb d) fun a w a9 aa S=>leafL ⟨d,_,_,.inl ⟨7,(.slice a9 ([]:List Bool).length aa),[],d,S,hz_of d,?_⟩⟩
  refine node_by (A:=anc_raddleref01_Twin_s0_0) 10 (by kernel_rfl) (by kernel_rfl) (by kernel_rfl) (by kernel_rfl) (by kernel_rfl) [4,0,1,2,3,5,6] (by kernel_rfl) (by decide) (by decide) (fF ?_ (fF ?_ (fF ?_ (fF ?_ (fY (fF ?_ (fF ?_ (fN ?_ (fE 7 (aB 9 0 7 (by decide) (trivial))))))))))) [] (fun q hq=>by cases hq) (fun hY=>absurd (hY 7 (by decide)) (by decide))
  ·refine fJ [(1,_)] 1 [none] fun G a w S=>?_
   exact sField (b:=b6) (off:=0) 0 0 S (wN d) d d d d d (lb d) fun a S=>leafL ⟨d,S⟩
  ·refine fJ [(3,_)] 2 [some 1] fun G a w S=>?_
   exact sLoad1 2 (iv p0.W) S (wN d) d d d d d d (lb d) fun a S=>leafL ⟨d,S⟩
  ·refine fJ [(1,_)] 3 [none] fun G a w S=>?_
   exact sField (b:=b6) (off:=0) 1 1 S (wN d) d d d d d (lb d) fun a S=>leafL ⟨d,S⟩
  ·refine fJ [(5,_)] 4 [some 3] fun G a w S=>?_
   exact sLoad1 2 (iv p0.H) S (wN d) d d d d d d (lb d) fun a S=>leafL ⟨d,S⟩
  ·refine fJ [(1,_)] 5 [none] fun G a w S=>?_
   exact sField (b:=b6) (off:=0) 2 2 S (wN d) d d d d d (lb d) fun a S=>leafL ⟨d,S⟩
  ·refine fJ [(8,_)] 6 [some 5] fun G a w S=>?_
   exact sLoad1 2 (.slice a7 p0.Bits.length a8) S (wN d) d d d d d d (lb d) fun a S=>leafL ⟨d,S⟩
  refine ⟨_,[(7,.slice a9 ([]:List Bool).length aa),(9,.slice a7 p0.Bits.length a8)],d,(srcs_of [some 0,some 6] d d d),fun G a w S=>?_⟩
  refine sApp (r:=rB) (T:=4) (xs:=([]:List Bool)) (ys:=p0.Bits) (v:=.slice a9 ([]:List Bool).length aa) (u:=.slice a7 p0.Bits.length a8) 0 (.bool false) 1 S (wN d) d Try.underlying22 d d (by decide) d d d (src_D 0 S.mem d) ab d (lb d) fun a w a0 a5 S=>leafL ⟨d,_,_,.inl ⟨10,(.slice a0 a6.length a5),[(8,11,.agg #[iv p0.W,iv p0.H,.slice a0 a6.length a5])],d,S,hz_of d,?_⟩⟩
  refine node_by (A:=anc_raddleref01_Twin_s0_0) 10 (by kernel_rfl) (by kernel_rfl) (by kernel_rfl) (by kernel_rfl) (by kernel_rfl) [8,7,4,0,1,2,3,5,6] (by kernel_rfl) (by decide) (by decide) (fF ?_ (fF ?_ (fF ?_ (fF ?_ (fY (fD 7 (fD 7 (fY (fF ?_ (fN ?_ (trivial))))))))))) [] (fun q hq=>by cases hq) (fun hY=>absurd (hY 9 (by decide)) (by decide))
  ·refine fJ [(1,_)] 3 [none] fun G a w S=>?_
   exact sField (b:=b6) (off:=0) 0 0 S (wN d) d d d d d (lb d) fun a S=>leafL ⟨d,S⟩
  ·refine fJ [(3,_)] 4 [some 3] fun G a w S=>?_
   exact sLoad1 2 (iv p0.W) S (wN d) d d d d d d (lb d) fun a S=>leafL ⟨d,S⟩
  ·refine fJ [(1,_)] 5 [none] fun G a w S=>?_
   exact sField (b:=b6) (off:=0) 1 1 S (wN d) d d d d d (lb d) fun a S=>leafL ⟨d,S⟩
  ·refine fJ [(5,_)] 6 [some 5] fun G a w S=>?_
   exact sLoad1 2 (iv p0.H) S (wN d) d d d d d d (lb d) fun a S=>leafL ⟨d,S⟩
  ·refine fJ [(4,_),(6,_),(10,_)] 0 [some 4,some 6,some 1] fun G a w S=>?_
   exact sBuild [(0,iv p0.W),(1,iv p0.H),(2,.slice a0 a6.length a5)] [iv p0.W,iv p0.H,.slice a0 a6.length a5] S (wN d) d d d d (lb d) fun a S=>leafL ⟨d,S⟩
  refine ⟨_,[(2,.pointer (some ⟨b7,0,none⟩)),(11,.agg #[iv p0.W,iv p0.H,.slice a0 a6.length a5])],d,(srcs_of [none,some 0] d d d),fun G a w S=>?_⟩
  refine sStore (p:=b7) (off:=0) (T:=24) (vs:=[iv 0,iv 0,.slice none 0 0]) (v:=.agg #[iv p0.W,iv p0.H,.slice a0 a6.length a5]) 1 [iv p0.W,iv p0.H,.slice a0 a6.length a5] S (wN d) d d d d d d d (by simp) d fun a w S=>leafL ⟨d,_,_,.inr ⟨[],d,S,hz_of d,?_⟩⟩
  refine node_by (A:=anc_raddleref01_Twin_s0_0) 10 (by kernel_rfl) (by kernel_rfl) (by kernel_rfl) (by kernel_rfl) (by kernel_rfl) [8,7,4,0,1,2,3,5,6] (by kernel_rfl) (by decide) (by decide) (fD 9 (fD 9 (fD 9 (fD 9 (fY (fD 9 (fD 9 (fY (fD 9 (fY (trivial))))))))))) [(2,.pointer (some ⟨b7,0,none⟩))] (fin_of [none] d (by kernel_rfl) (by kernel_rfl)) (fun _ a w S=>?_)
  refine leafT (af _ _ ?_)
  obtain rfl:=tS h
  exact wp_ret (sRet (.agg #[iv p0.W,iv p0.H,.slice a0 a6.length a5]) S (rsl1 d (rvN (c:=2) (t:=24) (T:=24) (p:=b7) 0 [iv p0.W,iv p0.H,.slice a0 a6.length a5] S d d d d)) ⟨(a0,a5),d,S.mem.sel [1] [] (by decide) d d⟩)
 ·refine fJ [(1,_)] 4 [none] fun G a w S=>?_
  exact sField (b:=b6) (off:=0) 2 2 S (wN d) d d d d d (lb d) fun a S=>leafL ⟨d,S⟩
 refine fJ [(8,_)] 5 [some 4] fun G a w S=>?_
 exact sLoad1 1 (.slice a7 p0.Bits.length a8) S (wN d) d d d d d d (lb d) fun a S=>leafL ⟨d,S⟩
def anc_raddleref01_Not_0:List (List Nat):=[[],[0],[],[],[3],[],[3,4,5],[3,4,5,6],[3,4,5,6,7],[0,1,2,3,4,5,6,7,8],[0,1,2,3,4,5,6,7,8,9]]
noncomputable def raddleref01_Not_l1 :(Int × List Bool)→Option ((Int × List Bool) ⊕ List Bool):=fun s0=>match s0 with
 | (a0,a5)=>
  if decide (a0 < (a5.length:Int)) then
   (idxO a5 a0).bind fun a6=>
   (setO a5 a0 (!a6)).bind fun a7=>
   some (.inl (w64 (a0 + 1),a7))
  else
   some (.inr a5)
noncomputable def F_raddleref01_Not (p0:api_Grid):Option (api_Grid × Int):=
 (F_raddleref01_Check p0).bind fun a5=>
 if a5 != 0 then
  some ((api_Grid.mk 0 0 ([]:(List Bool))),a5)
 else
  (F_raddleref01_Twin_s0 p0).bind fun a0=>
  Option.bind (α:=List Bool) (
   (whileO (raddleref01_Not_l1) (0,a0.Bits)).bind fun a6=>
    some a6) fun a7=>
  some ((api_Grid.mk a0.W a0.H a7),0)
def c_raddleref01_Not_val (r:(api_Grid × Int)) (x:Value):Value:=.tuple #[x,.int .i64 r.2]
def c_raddleref01_Not_D (r:(api_Grid × Int)) (x:Value):List Fact:=[fRep r_api_Grid x r.1]
theorem c_raddleref01_Not (E:Nat→Prop) (w0:World) (p0:api_Grid) (v0:Value) (r:(api_Grid × Int)) (h:F_raddleref01_Not p0=some r) (S:St0 E [] w0 w0 [] [fRep r_api_Grid (v0) p0]) :
 Calls Try.prog 72 #[v0] w0 (Ret (X:=Value) E [] w0 (c_raddleref01_Not_val r) (fun _=>[]) (c_raddleref01_Not_D r)):=by
 unfold F_raddleref01_Not at h
 obtain ⟨u1,rfl,aG⟩:=S.know (i:=0) (e:=fRep r_api_Grid (v0) p0) d
 have S:=S.learn (fRep (rL rB) u1 p0.Bits) aG
 obtain ⟨a9,aa,_,rfl,_⟩:=aG
 refine sEnter (args:=[.agg #[iv p0.W,iv p0.H,.slice a9 p0.Bits.length aa]]) 32 Try.func72 d d (by simp) S (fun a S=>?_)
 refine sSeq (fun K5 aJ=>sRegion (sBox (v:=.agg #[iv p0.W,iv p0.H,.slice a9 p0.Bits.length aa]) S (wN d) d d [iv p0.W,iv p0.H,.slice a9 p0.Bits.length aa] d d (lb d) fun a b6 w S=>sAlloc (.agg #[iv 0,iv 0,.slice none 0 0]) S (wN d) d d [iv 0,iv 0,.slice none 0 0] d d (lb d) fun a b7 w S=>sN S fun a S=>?_))
 refine lT (aJ _ _ (sSeq (fun K8 aK=>sSeq (fun K9 aL=>sRegion (sLoadN (p:=b6) (off:=0) (T:=24) (vs:=[iv p0.W,iv p0.H,.slice a9 p0.Bits.length aa]) 1 [iv p0.W,iv p0.H,.slice a9 p0.Bits.length aa] S (wN d) d d d d d d d (lb d) fun a S=>?_)))))
 obtain ⟨af,aj,h⟩:=bS h
 have S1:=S.mem
 refine sCq [.agg #[iv p0.W,iv p0.H,.slice a9 p0.Bits.length aa]] (iv af) S callee80 (S1.quiet [1] d) (fun E1 w1 S1=>c_raddleref01_Check E1 w1 p0 (.agg #[iv p0.W,iv p0.H,.slice a9 p0.Bits.length aa]) af aj S1) fun a w S=>?_
 refine sBin _ S (wN d) d d d (bNe _ _ _ _ .i64 af 0) d (lb d) fun a S=>lT (aL _ _ ?_)
 rcases iS h with ⟨ag,h⟩ | ⟨ag,h⟩
 ·refine sCondT S d ag (sSeq (fun aQ al=>sRegion (sBuild [] [iv 0,iv 0,.slice none 0 0] S (wN d) d d d d (lb d) fun a S=>sLoadN (p:=b6) (off:=0) (T:=24) (vs:=[iv p0.W,iv p0.H,.slice a9 p0.Bits.length aa]) 1 [iv p0.W,iv p0.H,.slice a9 p0.Bits.length aa] S (wN d) d d d d d d d (lb d) fun a S=>?_)))
  have S1:=S.mem
  refine sCq [.agg #[iv p0.W,iv p0.H,.slice a9 p0.Bits.length aa]] (iv af) S callee80 (S1.quiet [1] d) (fun E1 w1 S1=>c_raddleref01_Check E1 w1 p0 (.agg #[iv p0.W,iv p0.H,.slice a9 p0.Bits.length aa]) af aj S1) fun a w S=>?_
  refine sStore (p:=b7) (off:=0) (T:=24) (vs:=[iv 0,iv 0,.slice none 0 0]) (v:=.agg #[iv 0,iv 0,.slice none 0 0]) 0 [iv 0,iv 0,.slice none 0 0] S (wN d) d d d d d d d (by simp) d fun a w S=>sN S fun a S=>?_
  refine lT (al _ _ ?_)
  obtain rfl:=tS h
  have S:=S.learn (fRep (rL rB) (.slice none 0 0) ([]:(List Bool))) (rL_nil _ _ _)
  have S:=S.learn (fRep r_api_Grid (.agg #[iv 0,iv 0,.slice none 0 0]) (api_Grid.mk 0 0 ([]:(List Bool)))) ⟨_,d,S.mem.know (i:=0) (e:=fRep (rL rB) (.slice none 0 0) ([]:(List Bool))) d⟩
  exact wp_ret (rThen (sRet (.tuple #[.agg #[iv 0,iv 0,.slice none 0 0],iv af]) S (rsl2 d (rvN (c:=2) (t:=24) (T:=24) (p:=b7) 0 [iv 0,iv 0,.slice none 0 0] S d d d d) (rvT (t:=3) (v:=iv af) S d)) ⟨(.agg #[iv 0,iv 0,.slice none 0 0]),d,S.mem.sel [] [0] (by decide) d d⟩))
 refine sCondF S d ag (wp_skip (leafT (aK _ _ ?_)))
 refine sSeq (fun aR am=>sRegion (sLoadN (p:=b6) (off:=0) (T:=24) (vs:=[iv p0.W,iv p0.H,.slice a9 p0.Bits.length aa]) 1 [iv p0.W,iv p0.H,.slice a9 p0.Bits.length aa] S (wN d) d d d d d d d (lb d) fun a S=>?_))
 obtain ⟨a6,ao,h⟩:=bS h
 refine sCall (X:=Option Addr × Nat) (f:=13) (vs:=[.agg #[iv p0.W,iv p0.H,.slice a9 p0.Bits.length aa]]) (val:=fun x=>.agg #[iv a6.W,iv a6.H,.slice x.1 a6.Bits.length x.2]) (B':=fun x=>[eRow rB 4 (.slice x.1 a6.Bits.length x.2) a6.Bits]) (D':=fun _=>[]) [] [eBox b7 24 [iv 0,iv 0,.slice none 0 0],eBox b6 24 [iv p0.W,iv p0.H,.slice a9 p0.Bits.length aa]] [fRep r_api_Grid (.agg #[iv p0.W,iv p0.H,.slice a9 p0.Bits.length aa]) p0] [0,1] [1] S (wN d) d callee13 d (by decide) d d (fun E1 w1 S1=>c_raddleref01_Twin_s0 E1 w1 p0 (.agg #[iv p0.W,iv p0.H,.slice a9 p0.Bits.length aa]) a6 ao S1) d (lb d) fun xx a w S=>?_
 obtain ⟨a0,a5⟩:=xx
 dsimp only at S
 refine sAlloc (.agg #[iv 0,iv 0,.slice none 0 0]) S (wN d) d d [iv 0,iv 0,.slice none 0 0] d d (lb d) fun a ab w S=>sStore (p:=ab) (off:=0) (T:=24) (vs:=[iv 0,iv 0,.slice none 0 0]) (v:=.agg #[iv a6.W,iv a6.H,.slice a0 a6.Bits.length a5]) 0 [iv a6.W,iv a6.H,.slice a0 a6.Bits.length a5] S (wN d) d d d d d d d (by simp) d fun a w S=>lT (am _ _ ?_)
 obtain ⟨aM,h,aO⟩:=bS h
 refine sCut (fun a w=>∃ a8,a8=aM∧St [] E [] w0 32 a w [(2,.pointer (some ⟨b7,0,none⟩)),(4,.pointer (some ⟨ab,0,none⟩))] [eBox b7 24 [iv 0,iv 0,.slice none 0 0],eBox ab 24 [iv a6.W,iv a6.H,.slice a0 a8.length a5],eRow rB 4 (.slice a0 a8.length a5) a8] []) ?_ (fun a w hI=>?_)
 rotate_left
 ·obtain ⟨a8,rfl,S⟩:=hI
  have h:=aO
  try dsimp only at h
  refine sSeq (fun aS ap=>sRegion (sLoadN (p:=ab) (off:=0) (T:=24) (vs:=[iv a6.W,iv a6.H,.slice a0 a8.length a5]) 1 [iv a6.W,iv a6.H,.slice a0 a8.length a5] S (wN d) d d d d d d d (lb d) fun a S=>sStore (p:=b7) (off:=0) (T:=24) (vs:=[iv 0,iv 0,.slice none 0 0]) (v:=.agg #[iv a6.W,iv a6.H,.slice a0 a8.length a5]) 0 [iv a6.W,iv a6.H,.slice a0 a8.length a5] S (wN d) d d d d d d d (by simp) d fun a w S=>sN S fun a S=>?_))
  refine lT (ap _ _ ?_)
  obtain rfl:=tS h
  have S:=S.shutR (r:=rB) (T:=4) (v:=.slice a0 a8.length a5) (xs:=a8) 2 d
  have S:=S.learn (fRep r_api_Grid (.agg #[iv a6.W,iv a6.H,.slice a0 a8.length a5]) (api_Grid.mk a6.W a6.H a8)) ⟨_,d,S.mem.know (i:=0) (e:=fRep (rL rB) (.slice a0 a8.length a5) a8) d⟩
  exact wp_ret (sRet (.tuple #[.agg #[iv a6.W,iv a6.H,.slice a0 a8.length a5],iv 0]) S (rsl2 d (rvN (c:=2) (t:=24) (T:=24) (p:=b7) 0 [iv a6.W,iv a6.H,.slice a0 a8.length a5] S d d d d) (rvT (t:=3) (v:=iv 0) S d)) ⟨(.agg #[iv a6.W,iv a6.H,.slice a0 a8.length a5]),d,S.mem.sel [] [0] (by decide) d d⟩)
 refine sSeq (fun aT aq=>sRegion (sN S fun a S=>?_))
 refine lT (aq _ _ (wp_block ?_))
 obtain ⟨aU,hl,aP⟩:=bS h
 refine sLoop hl (fun s0 a w=>match s0 with | (ac,a7)=>St [] E [] w0 32 a w [(2,.pointer (some ⟨b7,0,none⟩)),(4,.pointer (some ⟨ab,0,none⟩)),(5,iv ac)] [eBox b7 24 [iv 0,iv 0,.slice none 0 0],eBox ab 24 [iv a6.W,iv a6.H,.slice a0 a7.length a5],eRow rB 4 (.slice a0 a7.length a5) a7] []) (S.fix [2,0,1] [] (by decide) d d d) ?_
 clear hl h
 intro s0 a w c0 hI h ar
 obtain ⟨ac,a7⟩:=s0
 unfold raddleref01_Not_l1 at h
 dsimp only at h hI
 have S:=hI
 refine sSeq (fun aV au=>sSeq (fun aW av=>sRegion (sM S fun a S=>?_)))
 refine sField (b:=ab) (off:=0) 2 2 S (wN d) d d d d d (lb d) fun a S=>sLoad1 1 (.slice a0 a7.length a5) S (wN d) d d d d d d (lb d) fun a S=>sLen S (wN d) d Try.underlying22 d d (lb d) fun a S=>sBin _ S (wN d) d d d (bLt _ _ _ _ .i64 ac (a7.length:Int)) d (lb d) fun a S=>lT (av _ _ ?_)
 rcases iS h with ⟨ah,h⟩ | ⟨ah,h⟩
 rotate_left
 ·refine sCondF S d ah ?_
  obtain rfl:=tS h
  obtain rfl:=ar _ d
  have h:=aP
  try dsimp only at h
  exact wp_exit (xThen (xThen (xHit (leafT (⟨a7,Option.some.inj h,S.fix [0,1,2] [] (by decide) d d d⟩)))))
 refine sCondT S d ah (wp_skip (leafT (au _ _ ?_)))
 refine sSeq (fun aX aw=>wp_block ?_)
 obtain ⟨ae,ai,h⟩:=bS h
 obtain ⟨aH,ak,h⟩:=bS h
 obtain ⟨aI,ax,ay⟩:=pIdxR (P:=Try.prog) (r:=rB) (T:=4) (v:=.slice a0 a7.length a5) (xs:=a7) (j:=ac) 22 4 2 S Try.underlying22 d d ai
 obtain ⟨az,aA,aC⟩:=pIdxR (P:=Try.prog) (r:=rB) (T:=4) (v:=.slice a0 a7.length a5) (xs:=a7) (j:=ac) 22 4 2 S Try.underlying22 d d ai
 refine sDraw (nf:=[10]) (W:=[(0,21,.pointer (some ⟨ab,2,none⟩)),(1,22,.slice a0 a7.length a5),(2,23,iv ac),(3,24,.pointer (some ⟨ab,2,none⟩)),(4,25,.slice a0 a7.length a5),(5,26,iv ac),(6,27,aI),(7,28,.bool ae),(8,29,.bool (!ae)),(9,30,az)]) d S ?_
 refine node_by (A:=anc_raddleref01_Not_0) 11 (by kernel_rfl) (by kernel_rfl) (by kernel_rfl) (by kernel_rfl) (by kernel_rfl) [0,1,2,3,4,5,6,7,8,9] (by kernel_rfl) (by decide) (by decide) (fF ?_ (fF ?_ (fF ?_ (fF ?_ (fF ?_ (fF ?_ (fF ?_ (fF ?_ (fF ?_ (fF ?_ (fN ?_ (trivial)))))))))))) [] (fun q hq=>by cases hq) (fun hY=>absurd (hY 10 (by decide)) (by decide))
 ·refine fJ [(4,_)] 0 [none] fun G a w S=>?_
  exact sField (b:=ab) (off:=0) 2 2 S (wN d) d d d d d (lb d) fun a S=>leafL ⟨d,S⟩
 ·refine fJ [(21,_)] 1 [some 0] fun G a w S=>?_
  exact sLoad1 1 (.slice a0 a7.length a5) S (wN d) d d d d d d (lb d) fun a S=>leafL ⟨d,S⟩
 ·exact fM 2 none d d d d (.inl d) d d d
 ·refine fJ [(4,_)] 3 [none] fun G a w S=>?_
  exact sField (b:=ab) (off:=0) 2 2 S (wN d) d d d d d (lb d) fun a S=>leafL ⟨d,S⟩
 ·refine fJ [(24,_)] 4 [some 3] fun G a w S=>?_
  exact sLoad1 1 (.slice a0 a7.length a5) S (wN d) d d d d d d (lb d) fun a S=>leafL ⟨d,S⟩
 ·exact fM 5 none d d d d (.inl d) d d d
 ·refine fJ [(25,_),(26,_)] 6 [some 4,some 5] fun G a w S=>?_
  exact sIdxV S (wN d) d d d ax d (lb d) fun a S=>leafL ⟨d,S⟩
 ·refine fJ [(27,_)] 7 [some 6] fun G a w S=>?_
  exact sLoadR (r:=rB) (T:=4) (xs:=a7) (x:=ae) (v:=.slice a0 a7.length a5) (vq:=aI) (j:=ac) 2 (.bool ae) S ay (wN d) d d d ai (fun _ _ _ h=>h) scal_B d d (lb d) fun a S=>leafL ⟨d,S⟩
 ·refine fJ [(28,_)] 8 [some 7] fun G a w S=>?_
  exact sNot (b:=ae) S (wN d) d d d (lb d) fun a S=>leafL ⟨d,S⟩
 ·refine fJ [(22,_),(23,_)] 9 [some 1,some 2] fun G a w S=>?_
  exact sIdxV S (wN d) d d d aA d (lb d) fun a S=>leafL ⟨d,S⟩
 refine ⟨_,[(29,.bool (!ae)),(30,az)],d,(srcs_of [some 8,some 9] d d d),fun G a w S=>?_⟩
 refine sStoreR (r:=rB) (T:=4) (xs:=a7) (ys:=aH) (y:=(!ae)) (v:=.slice a0 a7.length a5) (vq:=az) (u:=.bool (!ae)) (j:=ac) 2 S aC (wN d) d d d d d ak d d fun a w S=>leafL ⟨d,_,_,.inr ⟨[],d,S,hz_of d,?_⟩⟩
 refine node_by (A:=anc_raddleref01_Not_0) 11 (by kernel_rfl) (by kernel_rfl) (by kernel_rfl) (by kernel_rfl) (by kernel_rfl) [0,1,2,3,4,5,6,7,8,9] (by kernel_rfl) (by decide) (by decide) (fD 10 (fD 10 (fD 10 (fD 10 (fD 10 (fD 10 (fD 10 (fD 10 (fD 10 (fD 10 (fY (trivial)))))))))))) [(2,.pointer (some ⟨b7,0,none⟩)),(4,.pointer (some ⟨ab,0,none⟩)),(5,iv ac)] (fin_of [none,none,none] d (by kernel_rfl) (by kernel_rfl)) (fun _ a w S=>?_)
 rw [setO_v ak a0 a5] at S
 refine leafB (leafT (aw _ _ ?_))
 refine sRegion (sM S fun a S=>?_)
 refine sBin _ S (wN d) d d d (bAdd _ _ _ _ ac 1) d (lb d) fun a S=>sN S fun a S=>?_
 exact lT (⟨(w64 (ac + 1),aH),(Option.some.inj h).symm,(S.fix [1,2,0] [] (by decide) d d d)⟩)
noncomputable def F_raddleref07_Applied (p0:api_Grid) (p1:Int):Option api_Grid:=
 Option.bind (α:=(Int × Int × List Bool)) (
  if (andI .i64 p1 1) != 0 then
   (F_raddleref01_Mirror p0 0).bind fun a0=>
   some (a0.1.W,a0.1.H,a0.1.Bits)
  else
   some (p0.W,p0.H,p0.Bits)) fun (o8,o9,a8)=>
 Option.bind (α:=(Int × Int × List Bool)) (
  if (andI .i64 p1 2) != 0 then
   (F_raddleref01_Mirror (api_Grid.mk o8 o9 a8) 1).bind fun a5=>
   some (a5.1.W,a5.1.H,a5.1.Bits)
  else
   some (o8,o9,a8)) fun (a9,aa,ab)=>
 Option.bind (α:=(Int × Int × List Bool)) (
  if (andI .i64 p1 4) != 0 then
   (F_raddleref01_Turned (api_Grid.mk a9 aa ab)).bind fun a6=>
   some (a6.W,a6.H,a6.Bits)
  else
   some (a9,aa,ab)) fun (ac,ae,af)=>
 Option.bind (α:=(Int × Int × List Bool)) (
  if (andI .i64 p1 8) != 0 then
   (F_raddleref01_Not (api_Grid.mk ac ae af)).bind fun a7=>
   some (a7.1.W,a7.1.H,a7.1.Bits)
  else
   some (ac,ae,af)) fun (ag,ah,ai)=>
 (F_raddleref01_Twin (api_Grid.mk ag ah ai)).bind fun aj=>
 some aj
def c_raddleref07_Applied_val (r:api_Grid) (x:Value):Value:=x
def c_raddleref07_Applied_D (r:api_Grid) (x:Value):List Fact:=[fRep r_api_Grid x r]
theorem c_raddleref07_Applied (E:Nat→Prop) (w0:World) (p0:api_Grid) (v0:Value) (p1:Int) (r:api_Grid) (h:F_raddleref07_Applied p0 p1=some r) (S:St0 E [] w0 w0 [] [fRep r_api_Grid (v0) p0]) :
 Calls Try.prog 37 #[v0,iv p1] w0 (Ret (X:=Value) E [] w0 (c_raddleref07_Applied_val r) (fun _=>[]) (c_raddleref07_Applied_D r)):=by
 unfold F_raddleref07_Applied at h
 obtain ⟨u1,rfl,bi⟩:=S.know (i:=0) (e:=fRep r_api_Grid (v0) p0) d
 have S:=S.learn (fRep (rL rB) u1 p0.Bits) bi
 obtain ⟨aC,aG,_,rfl,_⟩:=bi
 refine sEnter (args:=[.agg #[iv p0.W,iv p0.H,.slice aC p0.Bits.length aG],iv p1]) 36 Try.func37 d d (by simp) S (fun a S=>?_)
 refine sSeq (fun K5 bj=>sRegion (sBox (v:=.agg #[iv p0.W,iv p0.H,.slice aC p0.Bits.length aG]) S (wN d) d d [iv p0.W,iv p0.H,.slice aC p0.Bits.length aG] d d (lb d) fun a b6 w S=>sAlloc (.agg #[iv 0,iv 0,.slice none 0 0]) S (wN d) d d [iv 0,iv 0,.slice none 0 0] d d (lb d) fun a b7 w S=>lT (bj _ _ ?_)))
 obtain ⟨bk,h,bl⟩:=bS h
 refine sCut (fun a w=>∃ o8,∃ o9,∃ ah,(o8,o9,ah)=bk∧∃ a0,∃ a5,St [] E [] w0 36 a w [(1,iv p1),(2,.pointer (some ⟨b6,0,none⟩)),(4,.pointer (some ⟨b7,0,none⟩))] [eBox b6 24 [iv o8,iv o9,.slice a0 ah.length a5],eBox b7 24 [iv 0,iv 0,.slice none 0 0]] [fRep (rL rB) (.slice a0 ah.length a5) ah]) ?_ (fun a w hI=>?_)
 ·refine sSeq (fun bH aV=>sRegion (sM S fun a S=>?_))
  refine sBin _ S (wN d) d d d (bAndK _ _ _ _ .i64 p1 1) d (lb d) fun a S=>sBin _ S (wN d) d d d (bNe _ _ _ _ .i64 (andI .i64 p1 1) 0) d (lb d) fun a S=>lT (aV _ _ ?_)
  rcases iS h with ⟨aJ,h⟩ | ⟨aJ,h⟩
  rotate_left
  ·refine sCondF S d aJ ?_
   exact wp_skip (leafT (⟨p0.W,p0.H,p0.Bits,Option.some.inj h,aC,aG,S.fix [1,0] [0] (by decide) d d d⟩))
  refine sCondT S d aJ (sRegion (sLoadN (p:=b6) (off:=0) (T:=24) (vs:=[iv p0.W,iv p0.H,.slice aC p0.Bits.length aG]) 1 [iv p0.W,iv p0.H,.slice aC p0.Bits.length aG] S (wN d) d d d d d d d (lb d) fun a S=>?_))
  obtain ⟨aa,aW,h⟩:=bS h
  refine sCall (X:=Value) (f:=70) (vs:=[.agg #[iv p0.W,iv p0.H,.slice aC p0.Bits.length aG],iv 0]) (val:=c_raddleref01_Mirror_val aa) (B':=fun _=>[]) (D':=c_raddleref01_Mirror_D aa) [] [eBox b7 24 [iv 0,iv 0,.slice none 0 0],eBox b6 24 [iv p0.W,iv p0.H,.slice aC p0.Bits.length aG]] [fRep r_api_Grid (.agg #[iv p0.W,iv p0.H,.slice aC p0.Bits.length aG]) p0] [0,1] [1] S (wN d) d callee70 d (by decide) d d (fun E1 w1 S1=>c_raddleref01_Mirror E1 w1 p0 (.agg #[iv p0.W,iv p0.H,.slice aC p0.Bits.length aG]) 0 aa aW S1) d (lb d) fun bm a w S=>?_
  obtain ⟨bo,rfl,aQ⟩:=S.mem.know (i:=0) (e:=fRep r_api_Grid (bm) aa.1) d
  have S:=S.learn (fRep (rL rB) bo aa.1.Bits) aQ
  obtain ⟨ar,au,_,rfl,_⟩:=aQ
  refine sM S fun a S=>?_
  refine sExtract (vs:=[.agg #[iv aa.1.W,iv aa.1.H,.slice ar aa.1.Bits.length au],iv aa.2]) (.agg #[iv aa.1.W,iv aa.1.H,.slice ar aa.1.Bits.length au]) S (wN d) d d d d (lb d) fun a S=>sExtract (vs:=[.agg #[iv aa.1.W,iv aa.1.H,.slice ar aa.1.Bits.length au],iv aa.2]) (iv aa.2) S (wN d) d d d d (lb d) fun a S=>sStore (p:=b6) (off:=0) (T:=24) (vs:=[iv p0.W,iv p0.H,.slice aC p0.Bits.length aG]) (v:=.agg #[iv aa.1.W,iv aa.1.H,.slice ar aa.1.Bits.length au]) 1 [iv aa.1.W,iv aa.1.H,.slice ar aa.1.Bits.length au] S (wN d) d d d d d d d (by simp) d fun a w S=>?_
  exact lT (⟨aa.1.W,aa.1.H,aa.1.Bits,Option.some.inj h,ar,au,S.fix [0,1] [0] (by decide) d d d⟩)
 obtain ⟨o8,o9,ah,rfl,a0,a5,S⟩:=hI
 have h:=bl
 try dsimp only at h
 obtain ⟨bp,h,bq⟩:=bS h
 refine sCut (fun a w=>∃ al,∃ am,∃ ai,(al,am,ai)=bp∧∃ a6,∃ a7,St [] E [] w0 36 a w [(1,iv p1),(2,.pointer (some ⟨b6,0,none⟩)),(4,.pointer (some ⟨b7,0,none⟩))] [eBox b6 24 [iv al,iv am,.slice a6 ai.length a7],eBox b7 24 [iv 0,iv 0,.slice none 0 0]] [fRep (rL rB) (.slice a6 ai.length a7) ai]) ?_ (fun a w hI=>?_)
 ·refine sSeq (fun bI aX=>sRegion (sM S fun a S=>?_))
  refine sBin _ S (wN d) d d d (bAndK _ _ _ _ .i64 p1 2) d (lb d) fun a S=>sBin _ S (wN d) d d d (bNe _ _ _ _ .i64 (andI .i64 p1 2) 0) d (lb d) fun a S=>lT (aX _ _ ?_)
  rcases iS h with ⟨aK,h⟩ | ⟨aK,h⟩
  rotate_left
  ·refine sCondF S d aK ?_
   exact wp_skip (leafT (⟨o8,o9,ah,Option.some.inj h,a0,a5,S.fix [0,1] [0] (by decide) d d d⟩))
  refine sCondT S d aK (sRegion (sLoadN (p:=b6) (off:=0) (T:=24) (vs:=[iv o8,iv o9,.slice a0 ah.length a5]) 0 [iv o8,iv o9,.slice a0 ah.length a5] S (wN d) d d d d d d d (lb d) fun a S=>?_))
  obtain ⟨ab,aZ,h⟩:=bS h
  have S:=S.learn (fRep r_api_Grid (.agg #[iv o8,iv o9,.slice a0 ah.length a5]) (api_Grid.mk o8 o9 ah)) ⟨_,d,S.mem.know (i:=0) (e:=fRep (rL rB) (.slice a0 ah.length a5) ah) d⟩
  refine sCall (X:=Value) (f:=70) (vs:=[.agg #[iv o8,iv o9,.slice a0 ah.length a5],iv 1]) (val:=c_raddleref01_Mirror_val ab) (B':=fun _=>[]) (D':=c_raddleref01_Mirror_D ab) [] [eBox b6 24 [iv o8,iv o9,.slice a0 ah.length a5],eBox b7 24 [iv 0,iv 0,.slice none 0 0]] [fRep r_api_Grid (.agg #[iv o8,iv o9,.slice a0 ah.length a5]) (api_Grid.mk o8 o9 ah)] [0,1] [0] S (wN d) d callee70 d (by decide) d d (fun E1 w1 S1=>c_raddleref01_Mirror E1 w1 (api_Grid.mk o8 o9 ah) (.agg #[iv o8,iv o9,.slice a0 ah.length a5]) 1 ab aZ S1) d (lb d) fun br a w S=>?_
  obtain ⟨bu,rfl,aR⟩:=S.mem.know (i:=0) (e:=fRep r_api_Grid (br) ab.1) d
  have S:=S.learn (fRep (rL rB) bu ab.1.Bits) aR
  obtain ⟨av,aw,_,rfl,_⟩:=aR
  refine sM S fun a S=>?_
  refine sExtract (vs:=[.agg #[iv ab.1.W,iv ab.1.H,.slice av ab.1.Bits.length aw],iv ab.2]) (.agg #[iv ab.1.W,iv ab.1.H,.slice av ab.1.Bits.length aw]) S (wN d) d d d d (lb d) fun a S=>sExtract (vs:=[.agg #[iv ab.1.W,iv ab.1.H,.slice av ab.1.Bits.length aw],iv ab.2]) (iv ab.2) S (wN d) d d d d (lb d) fun a S=>sStore (p:=b6) (off:=0) (T:=24) (vs:=[iv o8,iv o9,.slice a0 ah.length a5]) (v:=.agg #[iv ab.1.W,iv ab.1.H,.slice av ab.1.Bits.length aw]) 0 [iv ab.1.W,iv ab.1.H,.slice av ab.1.Bits.length aw] S (wN d) d d d d d d d (by simp) d fun a w S=>?_
  exact lT (⟨ab.1.W,ab.1.H,ab.1.Bits,Option.some.inj h,av,aw,S.fix [0,1] [0] (by decide) d d d⟩)
 obtain ⟨al,am,ai,rfl,a6,a7,S⟩:=hI
 have h:=bq
 try dsimp only at h
 obtain ⟨bv,h,bw⟩:=bS h
 refine sCut (fun a w=>∃ ao,∃ ap,∃ aj,(ao,ap,aj)=bv∧∃ a8,∃ a9,St [] E [] w0 36 a w [(1,iv p1),(2,.pointer (some ⟨b6,0,none⟩)),(4,.pointer (some ⟨b7,0,none⟩))] [eBox b6 24 [iv ao,iv ap,.slice a8 aj.length a9],eBox b7 24 [iv 0,iv 0,.slice none 0 0]] [fRep (rL rB) (.slice a8 aj.length a9) aj]) ?_ (fun a w hI=>?_)
 ·refine sSeq (fun bJ ba=>sRegion (sM S fun a S=>?_))
  refine sBin _ S (wN d) d d d (bAndK _ _ _ _ .i64 p1 4) d (lb d) fun a S=>sBin _ S (wN d) d d d (bNe _ _ _ _ .i64 (andI .i64 p1 4) 0) d (lb d) fun a S=>lT (ba _ _ ?_)
  rcases iS h with ⟨aL,h⟩ | ⟨aL,h⟩
  rotate_left
  ·refine sCondF S d aL ?_
   exact wp_skip (leafT (⟨al,am,ai,Option.some.inj h,a6,a7,S.fix [0,1] [0] (by decide) d d d⟩))
  refine sCondT S d aL (sRegion (sLoadN (p:=b6) (off:=0) (T:=24) (vs:=[iv al,iv am,.slice a6 ai.length a7]) 0 [iv al,iv am,.slice a6 ai.length a7] S (wN d) d d d d d d d (lb d) fun a S=>?_))
  obtain ⟨aq,bb,h⟩:=bS h
  have S:=S.learn (fRep r_api_Grid (.agg #[iv al,iv am,.slice a6 ai.length a7]) (api_Grid.mk al am ai)) ⟨_,d,S.mem.know (i:=0) (e:=fRep (rL rB) (.slice a6 ai.length a7) ai) d⟩
  refine sCall (X:=Value) (f:=71) (vs:=[.agg #[iv al,iv am,.slice a6 ai.length a7]]) (val:=c_raddleref01_Turned_val aq) (B':=fun _=>[]) (D':=c_raddleref01_Turned_D aq) [] [eBox b6 24 [iv al,iv am,.slice a6 ai.length a7],eBox b7 24 [iv 0,iv 0,.slice none 0 0]] [fRep r_api_Grid (.agg #[iv al,iv am,.slice a6 ai.length a7]) (api_Grid.mk al am ai)] [0,1] [0] S (wN d) d callee71 d (by decide) d d (fun E1 w1 S1=>c_raddleref01_Turned E1 w1 (api_Grid.mk al am ai) (.agg #[iv al,iv am,.slice a6 ai.length a7]) aq bb S1) d (lb d) fun bx a w S=>?_
  obtain ⟨bz,rfl,aS⟩:=S.mem.know (i:=0) (e:=fRep r_api_Grid (bx) aq) d
  have S:=S.learn (fRep (rL rB) bz aq.Bits) aS
  obtain ⟨aM,aO,_,rfl,_⟩:=aS
  refine sStore (p:=b6) (off:=0) (T:=24) (vs:=[iv al,iv am,.slice a6 ai.length a7]) (v:=.agg #[iv aq.W,iv aq.H,.slice aM aq.Bits.length aO]) 0 [iv aq.W,iv aq.H,.slice aM aq.Bits.length aO] S (wN d) d d d d d d d (by simp) d fun a w S=>?_
  exact lT (⟨aq.W,aq.H,aq.Bits,Option.some.inj h,aM,aO,S.fix [0,1] [0] (by decide) d d d⟩)
 obtain ⟨ao,ap,aj,rfl,a8,a9,S⟩:=hI
 have h:=bw
 try dsimp only at h
 obtain ⟨bA,h,bB⟩:=bS h
 refine sCut (fun a w=>∃ ax,∃ ay,∃ ak,(ax,ay,ak)=bA∧∃ ae,∃ af,St [] E [] w0 36 a w [(2,.pointer (some ⟨b6,0,none⟩)),(4,.pointer (some ⟨b7,0,none⟩))] [eBox b6 24 [iv ax,iv ay,.slice ae ak.length af],eBox b7 24 [iv 0,iv 0,.slice none 0 0]] [fRep (rL rB) (.slice ae ak.length af) ak]) ?_ (fun a w hI=>?_)
 rotate_left
 ·obtain ⟨ax,ay,ak,rfl,ae,af,S⟩:=hI
  have h:=bB
  try dsimp only at h
  refine sSeq (fun bK bc=>sRegion (sLoadN (p:=b6) (off:=0) (T:=24) (vs:=[iv ax,iv ay,.slice ae ak.length af]) 0 [iv ax,iv ay,.slice ae ak.length af] S (wN d) d d d d d d d (lb d) fun a S=>?_))
  obtain ⟨ag,bf,h⟩:=bS h
  have S:=S.learn (fRep r_api_Grid (.agg #[iv ax,iv ay,.slice ae ak.length af]) (api_Grid.mk ax ay ak)) ⟨_,d,S.mem.know (i:=0) (e:=fRep (rL rB) (.slice ae ak.length af) ak) d⟩
  refine sCall (X:=Value) (f:=13) (vs:=[.agg #[iv ax,iv ay,.slice ae ak.length af]]) (val:=c_raddleref01_Twin_val ag) (B':=fun _=>[]) (D':=c_raddleref01_Twin_D ag) [] [eBox b6 24 [iv ax,iv ay,.slice ae ak.length af],eBox b7 24 [iv 0,iv 0,.slice none 0 0]] [fRep r_api_Grid (.agg #[iv ax,iv ay,.slice ae ak.length af]) (api_Grid.mk ax ay ak)] [0,1] [0] S (wN d) d callee13 d (by decide) d d (fun E1 w1 S1=>c_raddleref01_Twin E1 w1 (api_Grid.mk ax ay ak) (.agg #[iv ax,iv ay,.slice ae ak.length af]) ag bf S1) d (lb d) fun bC a w S=>?_
  obtain ⟨bD,rfl,aT⟩:=S.mem.know (i:=0) (e:=fRep r_api_Grid (bC) ag) d
  have S:=S.learn (fRep (rL rB) bD ag.Bits) aT
  obtain ⟨aH,aI,_,rfl,_⟩:=aT
  refine sStore (p:=b7) (off:=0) (T:=24) (vs:=[iv 0,iv 0,.slice none 0 0]) (v:=.agg #[iv ag.W,iv ag.H,.slice aH ag.Bits.length aI]) 1 [iv ag.W,iv ag.H,.slice aH ag.Bits.length aI] S (wN d) d d d d d d d (by simp) d fun a w S=>lT (bc _ _ ?_)
  obtain rfl:=tS h
  exact wp_ret (sRet (.agg #[iv ag.W,iv ag.H,.slice aH ag.Bits.length aI]) S (rsl1 d (rvN (c:=4) (t:=24) (T:=24) (p:=b7) 0 [iv ag.W,iv ag.H,.slice aH ag.Bits.length aI] S d d d d)) ⟨(.agg #[iv ag.W,iv ag.H,.slice aH ag.Bits.length aI]),d,S.mem.sel [] [1] (by decide) d d⟩)
 refine sSeq (fun bL bg=>sRegion (sM S fun a S=>?_))
 refine sBin _ S (wN d) d d d (bAndK _ _ _ _ .i64 p1 8) d (lb d) fun a S=>sBin _ S (wN d) d d d (bNe _ _ _ _ .i64 (andI .i64 p1 8) 0) d (lb d) fun a S=>lT (bg _ _ ?_)
 rcases iS h with ⟨aP,h⟩ | ⟨aP,h⟩
 rotate_left
 ·refine sCondF S d aP ?_
  exact wp_skip (leafT (⟨ao,ap,aj,Option.some.inj h,a8,a9,S.fix [0,1] [0] (by decide) d d d⟩))
 refine sCondT S d aP (sRegion (sLoadN (p:=b6) (off:=0) (T:=24) (vs:=[iv ao,iv ap,.slice a8 aj.length a9]) 0 [iv ao,iv ap,.slice a8 aj.length a9] S (wN d) d d d d d d d (lb d) fun a S=>?_))
 obtain ⟨ac,bh,h⟩:=bS h
 have S:=S.learn (fRep r_api_Grid (.agg #[iv ao,iv ap,.slice a8 aj.length a9]) (api_Grid.mk ao ap aj)) ⟨_,d,S.mem.know (i:=0) (e:=fRep (rL rB) (.slice a8 aj.length a9) aj) d⟩
 refine sCall (X:=Value) (f:=72) (vs:=[.agg #[iv ao,iv ap,.slice a8 aj.length a9]]) (val:=c_raddleref01_Not_val ac) (B':=fun _=>[]) (D':=c_raddleref01_Not_D ac) [] [eBox b6 24 [iv ao,iv ap,.slice a8 aj.length a9],eBox b7 24 [iv 0,iv 0,.slice none 0 0]] [fRep r_api_Grid (.agg #[iv ao,iv ap,.slice a8 aj.length a9]) (api_Grid.mk ao ap aj)] [0,1] [0] S (wN d) d callee72 d (by decide) d d (fun E1 w1 S1=>c_raddleref01_Not E1 w1 (api_Grid.mk ao ap aj) (.agg #[iv ao,iv ap,.slice a8 aj.length a9]) ac bh S1) d (lb d) fun bE a w S=>?_
 obtain ⟨bG,rfl,aU⟩:=S.mem.know (i:=0) (e:=fRep r_api_Grid (bE) ac.1) d
 have S:=S.learn (fRep (rL rB) bG ac.1.Bits) aU
 obtain ⟨az,aA,_,rfl,_⟩:=aU
 refine sM S fun a S=>?_
 refine sExtract (vs:=[.agg #[iv ac.1.W,iv ac.1.H,.slice az ac.1.Bits.length aA],iv ac.2]) (.agg #[iv ac.1.W,iv ac.1.H,.slice az ac.1.Bits.length aA]) S (wN d) d d d d (lb d) fun a S=>sExtract (vs:=[.agg #[iv ac.1.W,iv ac.1.H,.slice az ac.1.Bits.length aA],iv ac.2]) (iv ac.2) S (wN d) d d d d (lb d) fun a S=>sStore (p:=b6) (off:=0) (T:=24) (vs:=[iv ao,iv ap,.slice a8 aj.length a9]) (v:=.agg #[iv ac.1.W,iv ac.1.H,.slice az ac.1.Bits.length aA]) 0 [iv ac.1.W,iv ac.1.H,.slice az ac.1.Bits.length aA] S (wN d) d d d d d d d (by simp) d fun a w S=>?_
 exact lT (⟨ac.1.W,ac.1.H,ac.1.Bits,Option.some.inj h,az,aA,S.fix [0,1] [0] (by decide) d d d⟩)
instance decGrid:DecidableEq api_Grid:=fun a b=>decidable_of_iff (a.W=b.W∧a.H=b.H∧a.Bits=b.Bits) (by cases a; cases b; simp)
structure Gr (g:api_Grid) (w h:Nat):Prop where
 hw:g.W=(w:Int)
 hh:g.H=(h:Int)
 w0:1 ≤ w
 w1:w ≤ 64
 h0:1 ≤ h
 h1:h ≤ 64
 len:g.Bits.length=w * h
def cell (g:api_Grid) (w x y:Nat):Bool:=g.Bits.getD (y * w + x) false
theorem Gr.at {g:api_Grid} {w h:Nat} (G:Gr g w h) {x y:Nat} (hx:x < w) (hy:y < h):idxO g.Bits (w64 ((w64 ((y:Int) * g.W)) + (x:Int)))=some (cell g w x y):=by
 have h1:y * w + x < w * h:=by
  have:=Nat.mul_le_mul_right w (show y + 1 ≤ h by omega)
  rw [Nat.add_mul,Nat.one_mul,Nat.mul_comm h w] at this
  omega
 have h2:w * h ≤ 64 * 64:=Nat.mul_le_mul G.w1 G.h1
 have e:((y:Int) * g.W)=((y * w:Nat):Int):=by rw [G.hw]; simp
 have hz:w64 ((y * w:Nat):Int)=((y * w:Nat):Int):=w64_of (by omega) (by omega)
 rw [e,hz,w64_of (by omega) (by omega)]
 exact idxO_of (k:=y * w + x) (by omega) (by rw [G.len]; exact h1) |>.trans (by unfold cell; simp [G.len,h1])
def gerr (g:api_Grid):Int:=if 64 < g.W ∨ 64 < g.H then 4 else if g.W < 1 ∨ g.H < 1 ∨ ¬ (g.Bits.length:Int)=g.W * g.H then 8 else 0
theorem gprod {g:api_Grid} (h1:¬ (64 < g.W ∨ 64 < g.H)) (h2:¬ (g.W < 1 ∨ g.H < 1)):w64 (g.W * g.H)=g.W * g.H:=by
 have:=mul_bd (u:=g.W) (v:=g.H) (a:=64) (b:=64) (by omega) (by omega) (by omega) (by omega)
 exact w64_of (by omega) (by omega)
theorem gcheck_eq (g:api_Grid):F_grid_Check g=some (gerr g)∧F_raddleref01_Check g=some (gerr g):=by
 unfold F_grid_Check F_raddleref01_Check gerr
 by_cases c1:64 < g.W ∨ 64 < g.H
 ·constructor
  ·have:(64:Int) < (if g.W < g.H then g.H else g.W):=by split <;> omega
   simp only [dT this,if_true,c1]
  ·by_cases c2:64 < g.W
   ·simp only [dT c2,if_true,Option.bind_some,c1]
   ·simp only [dF c2,dT (show 64 < g.H by omega),Bool.false_eq_true,if_true,if_false,Option.bind_some,c1]
 ·have m1:¬ (64:Int) < (if g.W < g.H then g.H else g.W):=by split <;> omega
  by_cases c2:g.W < 1 ∨ g.H < 1
  ·have m2:(if g.H < g.W then g.H else g.W) < (1:Int):=by split <;> omega
   have c3:g.W < 1 ∨ g.H < 1 ∨ ¬ (g.Bits.length:Int)=g.W * g.H:=by omega
   simp only [dF m1,dT m2,dF (show ¬ 64 < g.W by omega),dF (show ¬ 64 < g.H by omega),Bool.false_eq_true,if_true,if_false,Option.bind_some,c1,c3,true_and]
   by_cases c4:g.W < 1
   ·simp only [dT c4,if_true,Option.bind_some]
   ·simp only [dF c4,dT (show g.H < 1 by omega),Bool.false_eq_true,if_true,if_false,Option.bind_some]
  ·have m2:¬ (if g.H < g.W then g.H else g.W) < (1:Int):=by split <;> omega
   have c4:¬ g.W < 1:=by omega
   have c5:¬ g.H < 1:=by omega
   have hb:(if 64 < g.W ∨ 64 < g.H then (4:Int) else if g.W < 1 ∨ g.H < 1 ∨ ¬ (g.Bits.length:Int)=g.W * g.H then 8 else 0)=if (g.Bits.length:Int)=g.W * g.H then 0 else 8:=by
    rw [if_neg c1]
    by_cases c6:(g.Bits.length:Int)=g.W * g.H
    ·rw [if_neg (by omega),if_pos c6]
    ·rw [if_pos (by omega),if_neg c6]
   rw [hb]
   by_cases c6:(g.Bits.length:Int)=g.W * g.H
   ·rw [if_pos c6]
    simp only [dF m1,dF m2,dF (show ¬ 64 < g.W by omega),dF (show ¬ 64 < g.H by omega),dF c4,dF c5,gprod c1 c2,nF c6,Bool.false_eq_true,if_false,Option.bind_some,and_self]
   ·rw [if_neg c6]
    simp only [dF m1,dF m2,dF (show ¬ 64 < g.W by omega),dF (show ¬ 64 < g.H by omega),dF c4,dF c5,gprod c1 c2,nT c6,Bool.false_eq_true,if_true,if_false,Option.bind_some,and_self]
theorem gerr_zero {g:api_Grid} (h:gerr g=0):∃ w h,Gr g w h:=by
 unfold gerr at h
 by_cases c1:64 < g.W ∨ 64 < g.H
 ·rw [if_pos c1] at h; cases h
 rw [if_neg c1] at h
 by_cases c2:g.W < 1 ∨ g.H < 1 ∨ ¬ (g.Bits.length:Int)=g.W * g.H
 ·rw [if_pos c2] at h; cases h
 have c3:(g.Bits.length:Int)=g.W * g.H:=by omega
 refine ⟨g.W.toNat,g.H.toNat,by omega,by omega,by omega,by omega,by omega,by omega,?_⟩
 have e1:g.W=(g.W.toNat:Int):=by omega
 have e2:g.H=(g.H.toNat:Int):=by omega
 rw [e1,e2,← Int.natCast_mul] at c3
 exact Int.ofNat.inj c3
theorem gr_err {g:api_Grid} {w h:Nat} (G:Gr g w h):gerr g=0:=by
 have:=G.w0
 have:=G.w1
 have:=G.h0
 have:=G.h1
 unfold gerr
 rw [G.hw,G.hh,G.len,if_neg (by omega),if_neg]
 rw [Int.natCast_mul]
 omega
def gm (f:Nat→Nat→Bool) (w h:Nat):api_Grid:=api_Grid.mk (w:Int) (h:Int) (gl f w h)
theorem gm_gr (f:Nat→Nat→Bool) {w h:Nat} (w0:1 ≤ w) (w1:w ≤ 64) (h0:1 ≤ h) (h1:h ≤ 64):Gr (gm f w h) w h:=
 ⟨rfl,rfl,w0,w1,h0,h1,gl_len f w h⟩
theorem gm_cell (f:Nat→Nat→Bool) {w h x y:Nat} (hx:x < w) (hy:y < h):cell (gm f w h) w x y=f x y:=gl_get f w h false x y hx hy
theorem gm_cong {f f':Nat→Nat→Bool} {w h:Nat} (e:∀ x y,x < w→y < h→f x y=f' x y):gm f w h=gm f' w h:=by unfold gm; rw [gl_cong e]
theorem Gr.eq {g:api_Grid} {w h:Nat} (G:Gr g w h):g=gm (cell g w) w h:=by
 have hb:g.Bits=gl (cell g w) w h:=gl_of false G.len fun x y _ _=>rfl
 have h1:=G.hw
 have h2:=G.hh
 cases g
 simp only at h1 h2 hb
 subst h1 h2
 unfold gm
 rw [← hb]
theorem Gr.ext {g g':api_Grid} {w h:Nat} (G:Gr g w h) (G':Gr g' w h) (e:∀ x y,x < w→y < h→cell g w x y=cell g' w x y):g=g':=by
 rw [G.eq,G'.eq]; exact gm_cong e
theorem rat_eq {g:api_Grid} {w h:Nat} (G:Gr g w h) {x y:Nat} (hx:x < w) (hy:y < h):F_raddleref01_At g (x:Int) (y:Int)=some (cell g w x y):=by
 unfold F_raddleref01_At
 rw [G.at hx hy]
 rfl
theorem rset_eq {w h:Nat} (hw:w ≤ 64) (hh:h ≤ 64) {s:List Bool} (hs:s.length=w * h) {x y:Nat} (hx:x < w) (hy:y < h) (H:Int) (b:Bool):F_raddleref01_Set_s0 (w:Int) H s (x:Int) (y:Int) b=some (s.set (y * w + x) b):=by
 have hp:w * h ≤ 64 * 64:=Nat.mul_le_mul hw hh
 have hl:=pl_lt hx hy
 have hy2:y * w ≤ y * w + x:=Nat.le_add_right _ _
 have e1:w64 ((y:Int) * (w:Int))=((y * w:Nat):Int):=wmul (by omega)
 have e2:w64 (((y * w:Nat):Int) + (x:Int))=((y * w + x:Nat):Int):=wadd (by omega)
 unfold F_raddleref01_Set_s0
 rw [e1,e2,idxO_nat (by omega),setO_nat (by omega)]
 simp [keepO]
theorem rzero_eq {w h:Nat} (hw:w ≤ 64) (hh:h ≤ 64):F_raddleref01_Zero_s0 (w:Int) (h:Int)=some ⟨(w:Int),(h:Int),List.replicate (w * h) false⟩:=by
 have hp:w * h ≤ 64 * 64:=Nat.mul_le_mul hw hh
 unfold F_raddleref01_Zero_s0
 rw [wmul (by omega),makeO_of (k:=w * h) rfl (by omega)]
 rfl
theorem rtwin_eq (g:api_Grid) (hl:g.Bits.length ≤ 68719476736):F_raddleref01_Twin g=some g:=by
 unfold F_raddleref01_Twin
 rw [appO_of (by simpa using hl)]
 rfl
theorem rboth_eq (a b:api_Grid):F_raddleref01_Both a b=some (if gerr a=0 then gerr b else gerr a):=by
 unfold F_raddleref01_Both
 simp only [(gcheck_eq a).2,(gcheck_eq b).2,Option.bind_some]
 by_cases h:gerr a=0
 ·rw [nF h,if_pos h]; rfl
 ·rw [nT h,if_neg h]; rfl
theorem sumN_add (F:Nat→Nat) (a b:Nat):sumN F (a + b)=sumN F a + sumN (fun k=>F (a + k)) b:=by
 induction b with
 | zero=>rfl
 | succ b ih=>rw [← Nat.add_assoc]; simp only [sumN]; rw [ih]; omega
theorem sumN_rows (F:Nat→Nat) (w h:Nat):sumN F (w * h)=sumN (fun y=>sumN (fun x=>F (y * w + x)) w) h:=by
 induction h with
 | zero=>rfl
 | succ h ih=>
  rw [Nat.mul_succ,sumN_add,ih]
  simp only [sumN]
  congr 1
  exact sumN_cong fun x _=>by rw [Nat.mul_comm]
theorem sumN_bd {F:Nat→Nat} {n:Nat} (h:∀ k,k < n→F k ≤ 1):sumN F n ≤ n:=by
 induction n with
 | zero=>exact Nat.le_refl _
 | succ n ih=>
  have h1:=ih fun k hk=>h k (by omega)
  have h2:=h n (by omega)
  simp only [sumN]
  omega
def ext (g:api_Grid) (w h:Nat) (X Y:Int):Bool:=cell g w (X % (w:Int)).toNat (Y % (h:Int)).toNat
theorem ext_per (g:api_Grid) (w h:Nat):Per w h (ext g w h):=by
 unfold ext
 exact ⟨fun X Y=>by dsimp only; rw [Int.add_emod_right],fun X Y=>by dsimp only; rw [Int.add_emod_right]⟩
theorem ext_at (g:api_Grid) {w h x y:Nat} (hx:x < w) (hy:y < h):ext g w h (x:Int) (y:Int)=cell g w x y:=by
 unfold ext
 rw [← Int.natCast_emod,← Int.natCast_emod,Nat.mod_eq_of_lt hx,Nat.mod_eq_of_lt hy,Int.toNat_natCast,Int.toNat_natCast]
def dl (a b:List Bool) (n:Nat):Nat:=sumN (fun t=>if a.getD t false=b.getD t false then 0 else 1) n
theorem dl_le (a b:List Bool) (n:Nat):dl a b n ≤ n:=sumN_bd fun k _=>by split <;> omega
theorem dl_dst (a b:api_Grid) (w h:Nat):dl a.Bits b.Bits (w * h)=dst w h (ext a w h) (ext b w h):=by
 unfold dl dst
 rw [sumN_rows]
 refine sumN_cong fun y hy=>sumN_cong fun x hx=>?_
 rw [ext_at a hx hy,ext_at b hx hy]
 rfl
theorem dl_succ (a b:List Bool) (k:Nat):dl a b (k + 1)=dl a b k + if a.getD k false=b.getD k false then 0 else 1:=rfl
theorem bne_if (x y:Bool) (d:Nat) (hd:d ≤ 1000000):(if (x != y)=true then some (w64 ((d:Int) + 1)) else some (d:Int))=some ((d + (if x=y then 0 else 1):Nat):Int):=by
 rw [w64_succ (by omega)]
 cases x <;> cases y <;> rfl
theorem differ_eq {a b:List Bool} (hl:a.length=b.length) (ha:a.length ≤ 1000000):F_compare_differ a b=some ((dl a b a.length:Nat):Int):=by
 have h:=loop_seq (B:=compare_differ_l1 a b) (fun k=>(((dl a b k:Nat):Int),(k:Int))) a.length (t:=((dl a b a.length:Nat):Int))
  (fun k hk=>by
   have hd:=dl_le a b k
   unfold compare_differ_l1
   simp only [dT (show (k:Int) < (a.length:Int) by omega),if_true,idxO_D (xs:=a) false hk,idxO_D (xs:=b) (k:=k) false (by omega),Option.bind_some,bne_if _ _ (dl a b k) (by omega),w64_succ (show k < 9223372036854775807 by omega),dl_succ])
  (by
   unfold compare_differ_l1
   simp only [dF (show ¬ (a.length:Int) < (a.length:Int) by omega),Bool.false_eq_true,if_false])
 have e0:(((dl a b 0:Nat):Int),(((0:Nat):Int)))=((0:Int),(0:Int)):=rfl
 simp only [e0] at h
 unfold F_compare_differ
 rw [h]
 rfl
theorem rdiffer_eq {a b:api_Grid} (hl:a.Bits.length=b.Bits.length) (ha:a.Bits.length ≤ 1000000):F_raddleref46_differ a b=some ((dl a.Bits b.Bits a.Bits.length:Nat):Int):=by
 have h:=loop_seq (B:=raddleref46_differ_l1 a b) (fun k=>(((dl a.Bits b.Bits k:Nat):Int),(k:Int))) a.Bits.length (t:=((dl a.Bits b.Bits a.Bits.length:Nat):Int))
  (fun k hk=>by
   have hd:=dl_le a.Bits b.Bits k
   unfold raddleref46_differ_l1
   simp only [dT (show (k:Int) < (a.Bits.length:Int) by omega),if_true,idxO_D (xs:=a.Bits) false hk,idxO_D (xs:=b.Bits) (k:=k) false (by omega),Option.bind_some,bne_if _ _ (dl a.Bits b.Bits k) (by omega),w64_succ (show k < 9223372036854775807 by omega),dl_succ])
  (by
   unfold raddleref46_differ_l1
   simp only [dF (show ¬ (a.Bits.length:Int) < (a.Bits.length:Int) by omega),Bool.false_eq_true,if_false])
 have e0:(((dl a.Bits b.Bits 0:Nat):Int),(((0:Nat):Int)))=((0:Int),(0:Int)):=rfl
 simp only [e0] at h
 unfold F_raddleref46_differ
 rw [h]
 rfl
theorem build_eq2 {l1:Int→Int × List Bool→Option ((Int × List Bool) ⊕ List Bool)} {l2:Int × List Bool→Option ((Int × List Bool) ⊕ List Bool)} (f:Nat→Nat→Bool) (w h:Nat) (hw:w ≤ 64) (hh:h ≤ 64)
 (h1:∀ y x s,y < h→x < w→l1 (y:Int) ((x:Int),s)=Option.bind (appO s [f x y]) fun l=>some (.inl (w64 ((x:Int) + 1),l))) (h1e:∀ (y:Nat) s,l1 (y:Int) ((w:Int),s)=some (.inr s))
 (h2:∀ (y:Nat) s,y < h→l2 ((y:Int),s)=Option.bind (Option.bind (whileO (l1 (y:Int)) (0,s)) fun e=>some e) fun o=>some (.inl (w64 ((y:Int) + 1),o))) (h2e:∀ s,l2 ((h:Int),s)=some (.inr s)) :
 whileO l2 (0,([]:List Bool))=some (gl f w h):=by
 have this:=loop2 (l1:=fun y=>l1 (y:Int)) (l2:=l2) (fun y x=>((x:Int),glf f w (y * w + x))) (fun y=>((y:Int),glf f w (y * w))) (fun y=>glf f w (y * w + w)) w h (t:=glf f w (h * w))
  (fun y x hy hx=>by
   have hlt:=pl_lt hx hy
   have hp:w * h ≤ 64 * 64:=Nat.mul_le_mul hw hh
   rw [h1 y x _ hy hx,appO_of (by simp [glf]; omega),Option.bind_some,w64_succ (by omega),show y * w + (x + 1)=y * w + x + 1 from rfl,glf_succ,pl_mod hx,pl_div hx])
  (fun y hy=>h1e y _)
  (fun y hy hl=>by
   have e0:(((0:Nat):Int),glf f w (y * w + 0))=((0:Int),glf f w (y * w)):=rfl
   rw [e0] at hl
   rw [h2 y _ hy,hl]
   simp only [Option.bind_some,w64_succ (show y < 9223372036854775807 by omega)]
   rw [show (y + 1) * w=y * w + w by rw [Nat.add_mul,Nat.one_mul]])
  (h2e _)
 have e0:(((0:Nat):Int),glf f w (0 * w))=((0:Int),([]:List Bool)):=by simp [glf]
 simp only [e0] at this
 rw [this,Nat.mul_comm h w]
 rfl
theorem cap_ok2 {w h:Nat} (hw:w ≤ 64) (hh:h ≤ 64):capO (w64 ((w:Int) * (h:Int)))=some ():=by
 have hp:w * h ≤ 64 * 64:=Nat.mul_le_mul hw hh
 rw [wmul (by omega)]
 exact capO_of rfl (by omega)
theorem gbits {g:api_Grid} {w h:Nat} (G:Gr g w h):g.Bits.length ≤ 4096:=by
 rw [G.len]; exact Nat.mul_le_mul G.w1 G.h1
theorem setsC {l1:Int→Int × List Bool→Option ((Int × List Bool) ⊕ List Bool)} {l2:Int × List Bool→Option ((Int × List Bool) ⊕ List Bool)} (w h:Nat) (px py rx ry:Nat→Nat) (v:Nat→Nat→Bool)
 (x1:∀ x,x < w→px x < w∧rx (px x)=x) (x2:∀ x,x < w→rx x < w∧px (rx x)=x) (y1:∀ y,y < h→py y < h∧ry (py y)=y) (y2:∀ y,y < h→ry y < h∧py (ry y)=y)
 (h1:∀ x y s,x < w→y < h→s.length=w * h→l1 (x:Int) ((y:Int),s)=some (.inl (((y + 1:Nat):Int),s.set (py y * w + px x) (v x y)))) (h1e:∀ (x:Nat) s,l1 (x:Int) ((h:Int),s)=some (.inr s))
 (h2:∀ (x:Nat) s t,x < w→whileO (l1 (x:Int)) (0,s)=some t→l2 ((x:Int),s)=some (.inl (((x + 1:Nat):Int),t))) (h2e:∀ s,l2 ((w:Int),s)=some (.inr s)) :
 whileO l2 (0,List.replicate (w * h) false)=some (gl (fun X Y=>v (rx X) (ry Y)) w h):=by
 have key:∃ t,whileO l2 (0,List.replicate (w * h) false)=some t∧(t.length=w * h∧∀ X Y,X < w→Y < h→t.getD (Y * w + X) false=v (rx X) (ry Y)):=by
  refine loop_ts w (fun x s=>s.length=w * h∧∀ X Y,X < w→Y < h→rx X < x→s.getD (Y * w + X) false=v (rx X) (ry Y)) _ ⟨by simp,fun X Y _ _ hx=>by omega⟩ ?_ ?_
  ·rintro x s hx ⟨hs,hI⟩
   have inner:∃ t,whileO (l1 (x:Int)) (0,s)=some t∧(t.length=w * h∧∀ X Y,X < w→Y < h→rx X < x + 1→t.getD (Y * w + X) false=v (rx X) (ry Y)):=by
    refine loop_ts h (fun y s=>s.length=w * h∧∀ X Y,X < w→Y < h→(rx X < x ∨ rx X=x∧ry Y < y)→s.getD (Y * w + X) false=v (rx X) (ry Y)) _ ⟨hs,fun X Y hX hY hc=>hI X Y hX hY (by omega)⟩ ?_ ?_
    ·rintro y s hy ⟨hs,hJ⟩
     obtain ⟨p1,p2⟩:=x1 x hx
     obtain ⟨p3,p4⟩:=y1 y hy
     have hlt:=pl_lt p1 p3
     refine .inl ⟨_,h1 x y s hx hy hs,by rw [List.length_set]; exact hs,fun X Y hX hY hc=>?_⟩
     by_cases e:py y * w + px x=Y * w + X
     ·obtain ⟨rfl,rfl⟩:=pl_inj p1 hX e
      rw [List.getD_eq_getElem?_getD,List.getElem?_set,if_pos rfl,if_pos (by omega),Option.getD_some,p2,p4]
     ·rw [List.getD_eq_getElem?_getD,List.getElem?_set,if_neg e,← List.getD_eq_getElem?_getD]
      refine hJ X Y hX hY ?_
      rcases hc with hc | ⟨hc1,hc2⟩
      ·exact .inl hc
      ·refine .inr ⟨hc1,?_⟩
       rcases Nat.lt_or_ge (ry Y) y with h | h
       ·exact h
       ·refine absurd ?_ e
        have hy3:ry Y=y:=by omega
        rw [← hc1,← hy3,(x2 X hX).2,(y2 Y hY).2]
    ·rintro s ⟨hs,hJ⟩
     refine ⟨s,h1e x s,hs,fun X Y hX hY hc=>hJ X Y hX hY ?_⟩
     have:=(y2 Y hY).1
     omega
   obtain ⟨t,t1,t2,t3⟩:=inner
   exact .inl ⟨t,h2 x s t hx t1,t2,t3⟩
  ·rintro s ⟨hs,hI⟩
   exact ⟨s,h2e s,hs,fun X Y hX hY=>hI X Y hX hY (x2 X hX).1⟩
 obtain ⟨t,t1,t2,t3⟩:=key
 rw [t1,gl_of false t2 t3]
theorem idp {n:Nat}:∀ x,x < n→x < n∧x=x:=fun x h=>⟨h,rfl⟩
theorem rmirror_eq {g:api_Grid} {w h:Nat} (G:Gr g w h):F_raddleref01_Mirror g 0=some (gm (fun x y=>cell g w (w - 1 - x) y) w h,0)∧F_raddleref01_Mirror g 1=some (gm (fun x y=>cell g w x (h - 1 - y)) w h,0):=by
 have w0:=G.w0
 have h0:=G.h0
 have w1:=G.w1
 have h1:=G.h1
 constructor
 ·unfold F_raddleref01_Mirror
  simp only [(gcheck_eq g).2,gr_err G,Option.bind_some,bne_self_eq_false,Bool.false_eq_true,if_false]
  rw [G.hw,G.hh,rzero_eq w1 h1]
  generalize hZ:(⟨(w:Int),(h:Int),List.replicate (w * h) false⟩:api_Grid)=Z
  simp only [Option.bind_some]
  have zW:Z.W=(w:Int):=by rw [← hZ]
  have zH:Z.H=(h:Int):=by rw [← hZ]
  have zB:Z.Bits=List.replicate (w * h) false:=by rw [← hZ]
  have hb:=setsC (l1:=fun x=>raddleref01_Mirror_l1 g 0 x Z) (l2:=raddleref01_Mirror_l2 g 0 Z) w h id id id id (fun x y=>cell g w (w - 1 - x) y) idp idp idp idp
   (fun x y s hx hy hs=>by
    have m1:w64 (w64 ((w:Int) - 1) - (x:Int))=((w - 1 - x:Nat):Int):=by rw [w64_of (x:=(w:Int) - 1) (by omega) (by omega),w64_of (by omega) (by omega)]; omega
    unfold raddleref01_Mirror_l1
    simp only [G.hh,G.hw,zW,zH,dT (show (y:Int) < (h:Int) by omega),if_true,beq_self_eq_true,m1,rat_eq G (show w - 1 - x < w by omega) hy,rset_eq (w:=w) (h:=h) w1 h1 hs hx hy,Option.bind_some,w64_succ (show y < 9223372036854775807 by omega)]
    rfl)
   (fun x s=>by
    unfold raddleref01_Mirror_l1
    simp only [G.hh,dF (show ¬ (h:Int) < (h:Int) by omega),Bool.false_eq_true,if_false])
   (fun x s t hx ht=>by
    unfold raddleref01_Mirror_l2
    simp only [G.hw,dT (show (x:Int) < (w:Int) by omega),if_true,ht,Option.bind_some,w64_succ (show x < 9223372036854775807 by omega)])
   (fun s=>by
    unfold raddleref01_Mirror_l2
    simp only [G.hw,dF (show ¬ (w:Int) < (w:Int) by omega),Bool.false_eq_true,if_false])
  simp only [zW,zH,zB,hb,Option.bind_some]
  rfl
 ·unfold F_raddleref01_Mirror
  simp only [(gcheck_eq g).2,gr_err G,Option.bind_some,bne_self_eq_false,Bool.false_eq_true,if_false,nT (show ¬ (1:Int)=0 by decide),if_true]
  rw [G.hw,G.hh,rzero_eq w1 h1]
  generalize hZ:(⟨(w:Int),(h:Int),List.replicate (w * h) false⟩:api_Grid)=Z
  simp only [Option.bind_some]
  have zW:Z.W=(w:Int):=by rw [← hZ]
  have zH:Z.H=(h:Int):=by rw [← hZ]
  have zB:Z.Bits=List.replicate (w * h) false:=by rw [← hZ]
  have hb:=setsC (l1:=fun x=>raddleref01_Mirror_l1 g 1 x Z) (l2:=raddleref01_Mirror_l2 g 1 Z) w h id id id id (fun x y=>cell g w x (h - 1 - y)) idp idp idp idp
   (fun x y s hx hy hs=>by
    have m1:w64 (w64 ((h:Int) - 1) - (y:Int))=((h - 1 - y:Nat):Int):=by rw [w64_of (x:=(h:Int) - 1) (by omega) (by omega),w64_of (by omega) (by omega)]; omega
    unfold raddleref01_Mirror_l1
    simp only [G.hh,zW,zH,dT (show (y:Int) < (h:Int) by omega),if_true,bF (show ¬ (1:Int)=0 by decide),Bool.false_eq_true,if_false,m1,rat_eq G hx (show h - 1 - y < h by omega),rset_eq (w:=w) (h:=h) w1 h1 hs hx hy,Option.bind_some,w64_succ (show y < 9223372036854775807 by omega)]
    rfl)
   (fun x s=>by
    unfold raddleref01_Mirror_l1
    simp only [G.hh,dF (show ¬ (h:Int) < (h:Int) by omega),Bool.false_eq_true,if_false])
   (fun x s t hx ht=>by
    unfold raddleref01_Mirror_l2
    simp only [G.hw,dT (show (x:Int) < (w:Int) by omega),if_true,ht,Option.bind_some,w64_succ (show x < 9223372036854775807 by omega)])
   (fun s=>by
    unfold raddleref01_Mirror_l2
    simp only [G.hw,dF (show ¬ (w:Int) < (w:Int) by omega),Bool.false_eq_true,if_false])
  simp only [zW,zH,zB,hb,Option.bind_some]
  rfl
theorem rturned_eq {g:api_Grid} {w h:Nat} (G:Gr g w h):F_raddleref01_Turned g=some (gm (fun x y=>cell g w y x) h w):=by
 have w1:=G.w1
 have h1:=G.h1
 unfold F_raddleref01_Turned
 rw [G.hw,G.hh,rzero_eq h1 w1]
 generalize hZ:(⟨(h:Int),(w:Int),List.replicate (h * w) false⟩:api_Grid)=Z
 simp only [Option.bind_some]
 have zW:Z.W=(h:Int):=by rw [← hZ]
 have zH:Z.H=(w:Int):=by rw [← hZ]
 have zB:Z.Bits=List.replicate (h * w) false:=by rw [← hZ]
 have hb:=setsC (l1:=fun x=>raddleref01_Turned_l1 Z g x) (l2:=raddleref01_Turned_l2 Z g) h w id id id id (fun x y=>cell g w y x) idp idp idp idp
  (fun x y s hx hy hs=>by
   unfold raddleref01_Turned_l1
   simp only [zW,zH,dT (show (y:Int) < (w:Int) by omega),if_true,rat_eq G hy hx,rset_eq (w:=h) (h:=w) h1 w1 hs hx hy,Option.bind_some,w64_succ (show y < 9223372036854775807 by omega)]
   rfl)
  (fun x s=>by
   unfold raddleref01_Turned_l1
   simp only [zH,dF (show ¬ (w:Int) < (w:Int) by omega),Bool.false_eq_true,if_false])
  (fun x s t hx ht=>by
   unfold raddleref01_Turned_l2
   simp only [zW,dT (show (x:Int) < (h:Int) by omega),if_true,ht,Option.bind_some,w64_succ (show x < 9223372036854775807 by omega)])
  (fun s=>by
   unfold raddleref01_Turned_l2
   simp only [zW,dF (show ¬ (h:Int) < (h:Int) by omega),Bool.false_eq_true,if_false])
 simp only [zW,zH,zB,hb,Option.bind_some]
 rfl
theorem rnot_eq {g:api_Grid} {w h:Nat} (G:Gr g w h):F_raddleref01_Not g=some (gm (fun x y=>!cell g w x y) w h,0):=by
 have hl:=gbits G
 have key:∃ t,whileO raddleref01_Not_l1 (0,g.Bits)=some t∧(t.length=g.Bits.length∧∀ k,k < g.Bits.length→t.getD k false=!g.Bits.getD k false):=by
  refine loop_ts g.Bits.length (fun k s=>s.length=g.Bits.length∧∀ j,j < g.Bits.length→s.getD j false=if j < k then !g.Bits.getD j false else g.Bits.getD j false) _ ⟨rfl,fun j _=>by rw [if_neg (by omega)]⟩ ?_ ?_
  ·rintro k s hk ⟨hs,hI⟩
   have hk2:k < s.length:=by omega
   refine .inl ⟨s.set k (!s.getD k false),?_,by rw [List.length_set]; exact hs,fun j hj=>?_⟩
   ·unfold raddleref01_Not_l1
    simp only [dT (show (k:Int) < (s.length:Int) by omega),if_true,idxO_D (xs:=s) false hk2,setO_nat hk2,Option.bind_some,w64_succ (show k < 9223372036854775807 by omega)]
   ·by_cases e:k=j
    ·subst e
     rw [List.getD_eq_getElem?_getD,List.getElem?_set,if_pos rfl,if_pos hk2,Option.getD_some,hI k hk,if_neg (by omega),if_pos (by omega)]
    ·rw [List.getD_eq_getElem?_getD,List.getElem?_set,if_neg e,← List.getD_eq_getElem?_getD,hI j hj]
     by_cases c:j < k
     ·rw [if_pos c,if_pos (by omega)]
     ·rw [if_neg c,if_neg (by omega)]
  ·rintro s ⟨hs,hI⟩
   refine ⟨s,?_,hs,fun j hj=>by rw [hI j hj,if_pos hj]⟩
   unfold raddleref01_Not_l1
   simp only [dF (show ¬ (g.Bits.length:Int) < (s.length:Int) by omega),Bool.false_eq_true,if_false]
 obtain ⟨t,t1,t2,t3⟩:=key
 have ht:t=gl (fun x y=>!cell g w x y) w h:=gl_of false (by rw [t2,G.len]) fun x y hx hy=>t3 _ (by rw [G.len]; exact pl_lt hx hy)
 have htw:F_raddleref01_Twin_s0 g=some g:=by
  unfold F_raddleref01_Twin_s0
  rw [appO_of (by simp; omega)]
  rfl
 unfold F_raddleref01_Not
 simp only [(gcheck_eq g).2,gr_err G,Option.bind_some,bne_self_eq_false,Bool.false_eq_true,if_false,htw,t1,ht,G.hw,G.hh]
 rfl
theorem rmod_eq {x n:Nat} (n0:1 ≤ n) (n1:n ≤ 64) (hx:x ≤ 1000):F_raddleref01_Mod (x:Int) (n:Int)=some ((x % n:Nat):Int):=by
 have hm:x % n < n:=Nat.mod_lt _ n0
 unfold F_raddleref01_Mod
 rw [rem_nat n0,Option.bind_some,wadd (by omega),rem_nat n0,Option.bind_some,Nat.add_mod_right,Nat.mod_mod]
theorem around_sh {n d x:Nat} (n0:1 ≤ n) (hd:d < n):((x + d) % n + (n - d)) % n=x % n:=by
 rw [Nat.mod_add_mod,show x + d + (n - d)=x + n by omega,Nat.add_mod_right]
theorem around_sh2 {n d x:Nat} (n0:1 ≤ n) (hd:d < n):((x + (n - d)) % n + d) % n=x % n:=by
 rw [Nat.mod_add_mod,show x + (n - d) + d=x + n by omega,Nat.add_mod_right]
def shS (g:api_Grid) (w h x y:Nat):api_Grid:=gm (fun X Y=>cell g w ((X + (w - x)) % w) ((Y + (h - y)) % h)) w h
def apf (g:api_Grid) (w h:Nat) (t1 t2 t4 t8:Bool) (x y:Nat):Bool:=
 cell g w (if t1=true then w - 1 - (if t4=true then y else x) else (if t4=true then y else x)) (if t2=true then h - 1 - (if t4=true then x else y) else (if t4=true then x else y)) != t8
def apS (g:api_Grid) (w h:Nat) (t1 t2 t4 t8:Bool):api_Grid:=gm (apf g w h t1 t2 t4 t8) (if t4=true then h else w) (if t4=true then w else h)
theorem rapplied_eq {g:api_Grid} {w h:Nat} (G:Gr g w h) (op:Int):F_raddleref07_Applied g op=some (apS g w h ((andI .i64 op 1) != 0) ((andI .i64 op 2) != 0) ((andI .i64 op 4) != 0) ((andI .i64 op 8) != 0)):=by
 have w0:=G.w0
 have h0:=G.h0
 unfold F_raddleref07_Applied
 generalize ((andI .i64 op 1) != 0)=t1
 generalize ((andI .i64 op 2) != 0)=t2
 generalize ((andI .i64 op 4) != 0)=t4
 generalize ((andI .i64 op 8) != 0)=t8
 have s1:∃ g1,Gr g1 w h∧(∀ x y,x < w→y < h→cell g1 w x y=cell g w (if t1=true then w - 1 - x else x) y)∧(if t1=true then Option.bind (F_raddleref01_Mirror g 0) fun r17=>some (r17.1.W,r17.1.H,r17.1.Bits) else some (g.W,g.H,g.Bits))=some (g1.W,g1.H,g1.Bits):=by
  cases t1 with
  | false=>exact ⟨g,G,fun x y _ _=>rfl,rfl⟩
  | true=>
   refine ⟨_,gm_gr (fun x y=>cell g w (w - 1 - x) y) G.w0 G.w1 G.h0 G.h1,fun x y hx hy=>by rw [gm_cell _ hx hy,if_pos rfl],?_⟩
   rw [if_pos rfl,(rmirror_eq G).1]
   rfl
 obtain ⟨g1,G1,c1,e1⟩:=s1
 rw [e1,Option.bind_some]
 have m1:(⟨g1.W,g1.H,g1.Bits⟩:api_Grid)=g1:=by cases g1; rfl
 have s2:∃ g2,Gr g2 w h∧(∀ x y,x < w→y < h→cell g2 w x y=cell g1 w x (if t2=true then h - 1 - y else y))∧(if t2=true then Option.bind (F_raddleref01_Mirror g1 1) fun r33=>some (r33.1.W,r33.1.H,r33.1.Bits) else some (g1.W,g1.H,g1.Bits))=some (g2.W,g2.H,g2.Bits):=by
  cases t2 with
  | false=>exact ⟨g1,G1,fun x y _ _=>rfl,rfl⟩
  | true=>
   refine ⟨_,gm_gr (fun x y=>cell g1 w x (h - 1 - y)) G.w0 G.w1 G.h0 G.h1,fun x y hx hy=>by rw [gm_cell _ hx hy,if_pos rfl],?_⟩
   rw [if_pos rfl,(rmirror_eq G1).2]
   rfl
 obtain ⟨g2,G2,c2,e2⟩:=s2
 simp only [m1]
 rw [e2,Option.bind_some]
 have m2:(⟨g2.W,g2.H,g2.Bits⟩:api_Grid)=g2:=by cases g2; rfl
 have s3:∃ g3,Gr g3 (if t4=true then h else w) (if t4=true then w else h)∧(∀ x y,x < (if t4=true then h else w)→y < (if t4=true then w else h)→cell g3 (if t4=true then h else w) x y=cell g2 w (if t4=true then y else x) (if t4=true then x else y))∧(if t4=true then Option.bind (F_raddleref01_Turned g2) fun r49=>some (r49.W,r49.H,r49.Bits) else some (g2.W,g2.H,g2.Bits))=some (g3.W,g3.H,g3.Bits):=by
  cases t4 with
  | false=>exact ⟨g2,G2,fun x y _ _=>rfl,rfl⟩
  | true=>
   refine ⟨_,gm_gr (fun x y=>cell g2 w y x) G.h0 G.h1 G.w0 G.w1,fun x y hx hy=>gm_cell _ hx hy,?_⟩
   rw [if_pos rfl,rturned_eq G2]
   rfl
 obtain ⟨g3,G3,c3,e3⟩:=s3
 simp only [m2]
 rw [e3,Option.bind_some]
 have m3:(⟨g3.W,g3.H,g3.Bits⟩:api_Grid)=g3:=by cases g3; rfl
 have s4:∃ g4,Gr g4 (if t4=true then h else w) (if t4=true then w else h)∧(∀ x y,x < (if t4=true then h else w)→y < (if t4=true then w else h)→cell g4 (if t4=true then h else w) x y=(cell g3 (if t4=true then h else w) x y != t8))∧(if t8=true then Option.bind (F_raddleref01_Not g3) fun r65=>some (r65.1.W,r65.1.H,r65.1.Bits) else some (g3.W,g3.H,g3.Bits))=some (g4.W,g4.H,g4.Bits):=by
  cases t8 with
  | false=>exact ⟨g3,G3,fun x y _ _=>by cases cell g3 (if t4=true then h else w) x y <;> rfl,rfl⟩
  | true=>
   refine ⟨_,gm_gr (fun x y=>!cell g3 (if t4=true then h else w) x y) G3.w0 G3.w1 G3.h0 G3.h1,fun x y hx hy=>by rw [gm_cell _ hx hy]; cases cell g3 (if t4=true then h else w) x y <;> rfl,?_⟩
   rw [if_pos rfl,rnot_eq G3]
   rfl
 obtain ⟨g4,G4,c4,e4⟩:=s4
 simp only [m3]
 rw [e4,Option.bind_some]
 have m4:(⟨g4.W,g4.H,g4.Bits⟩:api_Grid)=g4:=by cases g4; rfl
 have h4:=gbits G4
 simp only [m4]
 rw [rtwin_eq g4 (by omega),Option.bind_some]
 congr 1
 refine Eq.trans G4.eq (gm_cong fun x y hx hy=>?_)
 rw [c4 x y hx hy,c3 x y hx hy]
 unfold apf
 cases t4 with
 | false=>
  simp only [Bool.false_eq_true,if_false] at hx hy ⊢
  rw [c2 x y hx hy,c1 _ _ hx (by split <;> omega)]
 | true=>
  simp only [if_true] at hx hy ⊢
  rw [c2 y x hy hx,c1 _ _ hy (by split <;> omega)]
theorem applied_eq {g:api_Grid} {w h:Nat} (G:Gr g w h) (op:Int):F_symmetry_applied g op=some (apS g w h ((andI .i64 op 1) != 0) ((andI .i64 op 2) != 0) ((andI .i64 op 4) != 0) ((andI .i64 op 8) != 0)):=by
 have w0:=G.w0
 have h0:=G.h0
 have w1:=G.w1
 have h1:=G.h1
 have hb:=build_eq2 (l1:=fun y=>symmetry_applied_l1 (((if ((andI .i64 op 4) != 0)=true then h else w:Nat)):Int) op y g) (l2:=symmetry_applied_l2 (((if ((andI .i64 op 4) != 0)=true then w else h:Nat)):Int) (((if ((andI .i64 op 4) != 0)=true then h else w:Nat)):Int) op g)
  (apf g w h ((andI .i64 op 1) != 0) ((andI .i64 op 2) != 0) ((andI .i64 op 4) != 0) ((andI .i64 op 8) != 0)) (if ((andI .i64 op 4) != 0)=true then h else w) (if ((andI .i64 op 4) != 0)=true then w else h) (by split <;> omega) (by split <;> omega)
  (fun y x s hy hx=>by
   unfold symmetry_applied_l1 apf
   simp only [dT (show (x:Int) < (((if ((andI .i64 op 4) != 0)=true then h else w:Nat)):Int) by omega),if_true]
   generalize ((andI .i64 op 1) != 0)=t1 at *
   generalize ((andI .i64 op 2) != 0)=t2 at *
   generalize ((andI .i64 op 4) != 0)=t4 at *
   generalize ((andI .i64 op 8) != 0)=t8 at *
   have s4:(if t4=true then some ((y:Int),(x:Int)) else some ((x:Int),(y:Int)))=some ((((if t4=true then y else x:Nat)):Int),(((if t4=true then x else y:Nat)):Int)):=by cases t4 <;> rfl
   have hu:(if t4=true then y else x) < w:=by cases t4 with | false=>exact hx | true=>exact hy
   have hv:(if t4=true then x else y) < h:=by cases t4 with | false=>exact hy | true=>exact hx
   rw [s4]
   simp only [Option.bind_some,G.hw,G.hh]
   generalize (if t4=true then y else x)=u at *
   generalize (if t4=true then x else y)=v at *
   have s1:(if t1=true then some (w64 (w64 ((w:Int) - 1) - (u:Int))) else some (u:Int))=some ((((if t1=true then w - 1 - u else u:Nat)):Int)):=by
    cases t1 with
    | false=>rfl
    | true=>
     rw [if_pos rfl,if_pos rfl,w64_of (x:=(w:Int) - 1) (by omega) (by omega),w64_of (by omega) (by omega)]
     congr 1; omega
   have s2:(if t2=true then some (w64 (w64 ((h:Int) - 1) - (v:Int))) else some (v:Int))=some ((((if t2=true then h - 1 - v else v:Nat)):Int)):=by
    cases t2 with
    | false=>rfl
    | true=>
     rw [if_pos rfl,if_pos rfl,w64_of (x:=(h:Int) - 1) (by omega) (by omega),w64_of (by omega) (by omega)]
     congr 1; omega
   rw [s1]
   simp only [Option.bind_some]
   rw [s2]
   simp only [Option.bind_some]
   have ha:=G.at (x:=if t1=true then w - 1 - u else u) (y:=if t2=true then h - 1 - v else v) (by split <;> omega) (by split <;> omega)
   rw [G.hw] at ha
   rw [ha,Option.bind_some])
  (fun y s=>by
   unfold symmetry_applied_l1
   simp only [dF (show ¬ (((if ((andI .i64 op 4) != 0)=true then h else w:Nat)):Int) < (((if ((andI .i64 op 4) != 0)=true then h else w:Nat)):Int) by omega),Bool.false_eq_true,if_false])
  (fun y s hy=>by
   unfold symmetry_applied_l2
   simp only [dT (show (y:Int) < (((if ((andI .i64 op 4) != 0)=true then w else h:Nat)):Int) by omega),if_true])
  (fun s=>by
   unfold symmetry_applied_l2
   simp only [dF (show ¬ (((if ((andI .i64 op 4) != 0)=true then w else h:Nat)):Int) < (((if ((andI .i64 op 4) != 0)=true then w else h:Nat)):Int) by omega),Bool.false_eq_true,if_false])
 unfold F_symmetry_applied
 have s0:(if ((andI .i64 op 4) != 0)=true then some (g.H,g.W) else some (g.W,g.H))=some ((((if ((andI .i64 op 4) != 0)=true then h else w:Nat)):Int),(((if ((andI .i64 op 4) != 0)=true then w else h:Nat)):Int)):=by
  rw [G.hw,G.hh]
  cases ((andI .i64 op 4) != 0) <;> rfl
 rw [s0]
 simp only [Option.bind_some,hb]
 rfl
theorem around_eq {z:Int} {n:Nat} (n0:1 ≤ n) (n1:n ≤ 64) (z0:-5000 ≤ z) (z1:z ≤ 5000):F_grid_around z (n:Int)=some (z % (n:Int)):=by
 have hn:¬ (n:Int)=0:=by omega
 have e0:=Int.emod_nonneg z hn
 have e1:=Int.emod_lt_of_pos z (show (0:Int) < n by omega)
 have ht:z.tmod (n:Int)=z % (n:Int) ∨ z.tmod (n:Int)=z % (n:Int) - n∧z.tmod (n:Int) < 0:=by
  by_cases hz:0 ≤ z
  ·exact .inl (Int.tmod_eq_emod_of_nonneg hz)
  ·rw [Int.tmod_eq_emod]
   by_cases hd:(n:Int) ∣ z
   ·left; simp [hd]
   ·right
    have hc:¬ (0 ≤ z ∨ (n:Int) ∣ z):=by rintro (h | h); exact hz h; exact hd h
    rw [if_neg hc]
    have:((n:Int).natAbs:Int)=n:=by omega
    rw [this]
    omega
 unfold F_grid_around remI
 rw [if_neg hn]
 rcases ht with h | ⟨h,hl⟩
 ·simp only [Option.bind_some,h,dF (show ¬ z % (n:Int) < 0 by omega),Bool.false_eq_true,if_false]
 ·simp only [Option.bind_some,dT hl,if_true]
  rw [h,w64_of (by omega) (by omega)]
  congr 1
  omega
theorem emod_back {x d n:Nat} (hd:d ≤ n):(((x:Int) - (d:Int)) % (n:Int))=(((x + (n - d)) % n:Nat):Int):=by
 rw [Int.natCast_emod,show ((x + (n - d):Nat):Int)=((x:Int) - d) + n by omega,Int.add_emod_right]
theorem shift_eq {g:api_Grid} {w h:Nat} (G:Gr g w h) {dx dy:Int} (x0:-4000 ≤ dx) (x1:dx ≤ 4000) (y0:-4000 ≤ dy) (y1:dy ≤ 4000) :
 F_grid_Shift g dx dy=some (gm (fun x y=>cell g w ((x + (w - (dx % (w:Int)).toNat)) % w) ((y + (h - (dy % (h:Int)).toNat)) % h)) w h,0):=by
 have w0:=G.w0
 have w1:=G.w1
 have h0:=G.h0
 have h1:=G.h1
 have a1:=around_eq (z:=dx) w0 w1 (by omega) (by omega)
 have a2:=around_eq (z:=dy) h0 h1 (by omega) (by omega)
 have b0:=Int.emod_nonneg dx (show (w:Int) ≠ 0 by omega)
 have b1:=Int.emod_lt_of_pos dx (show (0:Int) < w by omega)
 have b2:=Int.emod_nonneg dy (show (h:Int) ≠ 0 by omega)
 have b3:=Int.emod_lt_of_pos dy (show (0:Int) < h by omega)
 obtain ⟨d,hd⟩:∃ d:Nat,dx % (w:Int)=d:=⟨(dx % (w:Int)).toNat,by omega⟩
 obtain ⟨e,he⟩:∃ e:Nat,dy % (h:Int)=e:=⟨(dy % (h:Int)).toNat,by omega⟩
 rw [hd] at a1 b1
 rw [he] at a2 b3
 rw [hd,he,Int.toNat_natCast,Int.toNat_natCast]
 have hb:whileO (grid_build_s0_l2 (h:Int) (w:Int) g (e:Int) (d:Int)) (0,([]:List Bool))=some (gl (fun x y=>cell g w ((x + (w - d)) % w) ((y + (h - e)) % h)) w h):=by
  refine build_eq2 (l1:=fun y=>grid_build_s0_l1 (w:Int) y g (e:Int) (d:Int)) (fun x y=>cell g w ((x + (w - d)) % w) ((y + (h - e)) % h)) w h w1 h1 (fun y x s hy hx=>?_) (fun y s=>?_) (fun y s hy=>?_) (fun s=>?_)
  ·have k1:F_grid_around (w64 ((y:Int) - (e:Int))) g.H=some (((y + (h - e)) % h:Nat):Int):=by
    rw [G.hh,w64_of (by omega) (by omega),around_eq h0 h1 (by omega) (by omega),emod_back (by omega)]
   have k2:F_grid_around (w64 ((x:Int) - (d:Int))) g.W=some (((x + (w - d)) % w:Nat):Int):=by
    rw [G.hw,w64_of (by omega) (by omega),around_eq w0 w1 (by omega) (by omega),emod_back (by omega)]
   unfold grid_build_s0_l1 F_grid_Shift_1_s0
   simp only [dT (show (x:Int) < (w:Int) by omega),if_true,k1,k2,G.at (Nat.mod_lt (x + (w - d)) (show 0 < w by omega)) (Nat.mod_lt (y + (h - e)) (show 0 < h by omega)),Option.bind_some]
  ·unfold grid_build_s0_l1
   simp only [dF (show ¬ (w:Int) < (w:Int) by omega),Bool.false_eq_true,if_false]
  ·unfold grid_build_s0_l2
   simp only [dT (show (y:Int) < (h:Int) by omega),if_true]
  ·unfold grid_build_s0_l2
   simp only [dF (show ¬ (h:Int) < (h:Int) by omega),Bool.false_eq_true,if_false]
 unfold F_grid_Shift F_grid_build_s0
 simp only [(gcheck_eq g).1,gr_err G,Option.bind_some,bne_self_eq_false,Bool.false_eq_true,if_false,G.hw,G.hh,a1,a2,cap_ok2 w1 h1,hb]
 rfl
def apB (g:api_Grid) (w h:Nat) (op:Int):api_Grid:=apS g w h ((andI .i64 op 1) != 0) ((andI .i64 op 2) != 0) ((andI .i64 op 4) != 0) ((andI .i64 op 8) != 0)
def Kp (w h n:Nat):Prop:=∀ op:Nat,op < n→((andI .i64 (op:Int) 4) != 0)=true→w=h
theorem kp_dims {w h n op:Nat} (K:Kp w h n) (hop:op < n):(if ((andI .i64 (op:Int) 4) != 0)=true then h else w)=w∧(if ((andI .i64 (op:Int) 4) != 0)=true then w else h)=h:=by
 have:=K op hop
 cases hc:((andI .i64 (op:Int) 4) != 0) with
 | false=>exact ⟨if_neg (by decide),if_neg (by decide)⟩
 | true=>obtain rfl:=this hc; exact ⟨if_pos rfl,if_pos rfl⟩
theorem apB_eq {w h n op:Nat} (K:Kp w h n) (hop:op < n) (g:api_Grid):apB g w h (op:Int)=gm (apf g w h ((andI .i64 (op:Int) 1) != 0) ((andI .i64 (op:Int) 2) != 0) ((andI .i64 (op:Int) 4) != 0) ((andI .i64 (op:Int) 8) != 0)) w h:=by
 obtain ⟨h1,h2⟩:=kp_dims K hop
 unfold apB apS
 rw [h1,h2]
theorem apB_gr {g:api_Grid} {w h n op:Nat} (G:Gr g w h) (K:Kp w h n) (hop:op < n):Gr (apB g w h (op:Int)) w h:=by
 rw [apB_eq K hop]
 exact gm_gr _ G.w0 G.w1 G.h0 G.h1
theorem shS_gr {g:api_Grid} {w h x y:Nat} (G:Gr g w h):Gr (shS g w h x y) w h:=gm_gr _ G.w0 G.w1 G.h0 G.h1
theorem apply_eq {g:api_Grid} {w h op:Nat} (G:Gr g w h) (hw:w ≤ 16) (hh:h ≤ 16) (hop:op < 16):F_symmetry_Apply g (op:Int)=some (apB g w h (op:Int),0):=by
 have hl1:whileO (symmetry_check_l1 [g]) 0=some (.inr ()):=by
  refine loop_same 1 _ (fun k hk=>?_) ?_
  ·obtain rfl:k=0:=by omega
   unfold symmetry_check_l1
   simp only [List.length_cons,List.length_nil,Nat.zero_add,show decide (((0:Nat):Int) < ((1:Nat):Int))=true from rfl,if_true,show idxO [g] ((0:Nat):Int)=some g from rfl,Option.bind_some,(gcheck_eq g).1,gr_err G,bne_self_eq_false,Bool.false_eq_true,if_false]
   rfl
  ·unfold symmetry_check_l1
   simp only [List.length_cons,List.length_nil,Nat.zero_add,show decide (((1:Nat):Int) < ((1:Nat):Int))=false from rfl,Bool.false_eq_true,if_false]
 have hl2:whileO (symmetry_check_l2 [g]) 0=some (.inr ()):=by
  refine loop_same 1 _ (fun k hk=>?_) ?_
  ·obtain rfl:k=0:=by omega
   have hm:¬ (16:Int) < (if g.W < g.H then g.H else g.W):=by rw [G.hw,G.hh]; split <;> omega
   unfold symmetry_check_l2
   simp only [List.length_cons,List.length_nil,Nat.zero_add,show decide (((0:Nat):Int) < ((1:Nat):Int))=true from rfl,if_true,show idxO [g] ((0:Nat):Int)=some g from rfl,Option.bind_some,dF hm,Bool.false_eq_true,if_false]
   rfl
  ·unfold symmetry_check_l2
   simp only [List.length_cons,List.length_nil,Nat.zero_add,show decide (((1:Nat):Int) < ((1:Nat):Int))=false from rfl,Bool.false_eq_true,if_false]
 unfold F_symmetry_Apply F_symmetry_check F_symmetry_is
 simp only [hl1,hl2,Option.bind_some,bne_self_eq_false,Bool.false_eq_true,if_false,dT (show (0:Int) ≤ (op:Int) by omega),dT (show (op:Int) < 16 by omega),if_true,Bool.not_true,applied_eq G]
 rfl
theorem shift_sh {g:api_Grid} {w h x y:Nat} (G:Gr g w h) (hx:x < w) (hy:y < h):F_grid_Shift g (x:Int) (y:Int)=some (shS g w h x y,0):=by
 have:=G.w1
 have:=G.h1
 have h1:=shift_eq G (dx:=(x:Int)) (dy:=(y:Int)) (by omega) (by omega) (by omega) (by omega)
 rw [← Int.natCast_emod,← Int.natCast_emod,Nat.mod_eq_of_lt hx,Nat.mod_eq_of_lt hy,Int.toNat_natCast,Int.toNat_natCast] at h1
 exact h1
def mvT (g:api_Grid) (w h t:Nat):api_Grid:=shS (apB g w h ((t / w / h:Nat):Int)) w h (t % w) (t / w % h)
def fT (g b:api_Grid) (w h t:Nat):Nat:=dl (mvT g w h t).Bits b.Bits (w * h)
def stT (g b:api_Grid) (w h t:Nat):Int × Int × Int × Int:=
 (((fm (fT g b w h) (w * h + 1) t).1:Int),(((fm (fT g b w h) (w * h + 1) t).2 / w / h:Nat):Int),(((fm (fT g b w h) (w * h + 1) t).2 % w:Nat):Int),(((fm (fT g b w h) (w * h + 1) t).2 / w % h:Nat):Int))
theorem fT_le (g b:api_Grid) (w h t:Nat):fT g b w h t ≤ w * h:=dl_le _ _ _
theorem stT_next (g b:api_Grid) (w h t:Nat):stT g b w h (t + 1)=if fT g b w h t < (fm (fT g b w h) (w * h + 1) t).1 then (((fT g b w h t:Nat):Int),((t / w / h:Nat):Int),((t % w:Nat):Int),((t / w % h:Nat):Int)) else stT g b w h t:=by
 unfold stT
 simp only [fm]
 by_cases c:fT g b w h t < (fm (fT g b w h) (w * h + 1) t).1
 ·rw [if_pos c,if_pos c]
 ·rw [if_neg c,if_neg c]
theorem tri {w h x y op:Nat} (hx:x < w) (hy:y < h):((op * h + y) * w + x) % w=x∧((op * h + y) * w + x) / w % h=y∧((op * h + y) * w + x) / w / h=op:=by
 rw [pl_div hx,pl_mod hx,pl_mod hy,pl_div hy]
 exact ⟨rfl,rfl,rfl⟩
theorem near_body {g b:api_Grid} {w h n op x y:Nat} (G:Gr g w h) (B:Gr b w h) (K:Kp w h n) (hop:op < n) (hx:x < w) (hy:y < h) :
 compare_Nearest_l2 b (stT g b w h ((op * h + y) * w + x)) (compare_way.mk (op:Int) (api_Point.mk (x:Int) (y:Int)),shS (apB g w h (op:Int)) w h x y) =
  some (if (fm (fT g b w h) (w * h + 1) ((op * h + y) * w + x + 1)).1=0 then .inr (stT g b w h ((op * h + y) * w + x + 1)) else .inl (stT g b w h ((op * h + y) * w + x + 1))):=by
 obtain ⟨e1,e2,e3⟩:=tri (op:=op) hx hy
 have M:=shS_gr (x:=x) (y:=y) (apB_gr G K hop)
 have hm:mvT g w h ((op * h + y) * w + x)=shS (apB g w h (op:Int)) w h x y:=by unfold mvT; rw [e1,e2,e3]
 have hd:F_compare_differ (shS (apB g w h (op:Int)) w h x y).Bits b.Bits=some ((fT g b w h ((op * h + y) * w + x):Nat):Int):=by
  rw [differ_eq (by rw [M.len,B.len]) (by have:=gbits M; omega),M.len]
  unfold fT
  rw [hm]
 have hs:=stT_next g b w h ((op * h + y) * w + x)
 rw [e1,e2,e3] at hs
 have hv:(stT g b w h ((op * h + y) * w + x + 1)).1=((fm (fT g b w h) (w * h + 1) ((op * h + y) * w + x + 1)).1:Int):=rfl
 have q:stT g b w h ((op * h + y) * w + x)=(((fm (fT g b w h) (w * h + 1) ((op * h + y) * w + x)).1:Int),(stT g b w h ((op * h + y) * w + x)).2.1,(stT g b w h ((op * h + y) * w + x)).2.2.1,(stT g b w h ((op * h + y) * w + x)).2.2.2):=rfl
 unfold compare_Nearest_l2
 rw [q]
 dsimp only
 rw [hd]
 by_cases c:fT g b w h ((op * h + y) * w + x) < (fm (fT g b w h) (w * h + 1) ((op * h + y) * w + x)).1
 ·rw [if_pos c] at hs
  rw [hs] at hv ⊢
  simp only [Option.bind_some,dT (show ((fT g b w h ((op * h + y) * w + x):Nat):Int) < ((fm (fT g b w h) (w * h + 1) ((op * h + y) * w + x)).1:Int) by omega),if_true]
  have hv3:((fT g b w h ((op * h + y) * w + x):Nat):Int)=((fm (fT g b w h) (w * h + 1) ((op * h + y) * w + x + 1)).1:Int):=hv
  by_cases z:(fm (fT g b w h) (w * h + 1) ((op * h + y) * w + x + 1)).1=0
  ·rw [if_pos z,bT (by omega)]; rfl
  ·rw [if_neg z,bF (by omega)]; rfl
 ·rw [if_neg c] at hs
  rw [hs] at hv ⊢
  have hv2:((fm (fT g b w h) (w * h + 1) ((op * h + y) * w + x)).1:Int)=((fm (fT g b w h) (w * h + 1) ((op * h + y) * w + x + 1)).1:Int):=hv
  simp only [Option.bind_some,dF (show ¬ ((fT g b w h ((op * h + y) * w + x):Nat):Int) < ((fm (fT g b w h) (w * h + 1) ((op * h + y) * w + x)).1:Int) by omega),Bool.false_eq_true,if_false]
  by_cases z:(fm (fT g b w h) (w * h + 1) ((op * h + y) * w + x + 1)).1=0
  ·rw [if_pos z,bT (by omega)]; rfl
  ·rw [if_neg z,bF (by omega)]; rfl
theorem stT_stop {g b:api_Grid} {w h t N:Nat} (hz:(fm (fT g b w h) (w * h + 1) t).1=0) (hN:t ≤ N):stT g b w h t=stT g b w h N:=by
 have:=fm_stop hz (N - t)
 rw [show t + (N - t)=N by omega] at this
 unfold stT
 rw [this]
theorem blk_inN {x w n i:Nat} (hx:x < w) (hi:i < n):i * w + x < n * w:=by rw [Nat.mul_comm n w]; exact pl_lt hx hi
theorem ways_eq {g b:api_Grid} {w h n:Nat} (G:Gr g w h) (B:Gr b w h) (hw:w ≤ 16) (hh:h ≤ 16) (K:Kp w h (n + 1)) (hn:n < 16) :
 ∃ z,whileO (compare_ways_1_l3 (n:Int) g (compare_Nearest_l2 b)) (0,stT g b w h 0)=some z∧(z=.inr (stT g b w h ((n + 1) * h * w)) ∨ z=.inl (.inr (stT g b w h ((n + 1) * h * w)))):=by
 have bnd:∀ op y x,op < n + 1→y < h→x < w→(op * h + y) * w + x + 1 ≤ (n + 1) * h * w:=by
  intro op y x h1 h2 h3
  have k1:=blk_inN h2 h1
  have k2:=blk_inN h3 k1
  omega
 have hrow:∀ op y,op < n + 1→y < h→whileO (compare_ways_1_l1 g (apB g w h (op:Int),0) (y:Int) (compare_Nearest_l2 b) (op:Int)) (0,stT g b w h ((op * h + y) * w)) =
  some (if (List.range w).all (fun k=>decide (¬ (fm (fT g b w h) (w * h + 1) ((op * h + y) * w + k + 1)).1=0))=true then .inr (stT g b w h ((op * h + y) * w + w)) else .inl (.inr (stT g b w h ((n + 1) * h * w)))):=by
  intro op y hop hy
  have h1:=loop_seqf (B:=compare_ways_1_l1 g (apB g w h (op:Int),0) (y:Int) (compare_Nearest_l2 b) (op:Int)) (fun k=>((k:Int),stT g b w h ((op * h + y) * w + k))) w (fun k=>decide (¬ (fm (fT g b w h) (w * h + 1) ((op * h + y) * w + k + 1)).1=0))
   (bad:=.inl (.inr (stT g b w h ((n + 1) * h * w)))) (t:=.inr (stT g b w h ((op * h + y) * w + w)))
   (fun k hk _=>by
    have hb:=bnd op y k hop hy hk
    unfold compare_ways_1_l1
    simp only [G.hw,dT (show (k:Int) < (w:Int) by omega),if_true,shift_sh (apB_gr G K hop) hk hy,Option.bind_some,near_body G B K hop hk hy]
    by_cases z:(fm (fT g b w h) (w * h + 1) ((op * h + y) * w + k + 1)).1=0
    ·rw [if_pos z,dF (show ¬ ¬ (fm (fT g b w h) (w * h + 1) ((op * h + y) * w + k + 1)).1=0 from fun q=>q z),stT_stop z hb]
     rfl
    ·rw [if_neg z,dT z,if_pos rfl]
     simp only [w64_succ (show k < 9223372036854775807 by omega)]
     rfl)
   (fun _=>by
    unfold compare_ways_1_l1
    simp only [G.hw,dF (show ¬ (w:Int) < (w:Int) by omega),Bool.false_eq_true,if_false])
  exact h1
 have hcol:∀ op,op < n + 1→whileO (compare_ways_1_l2 g (apB g w h (op:Int),0) (compare_Nearest_l2 b) (op:Int)) (0,stT g b w h ((op * h) * w)) =
  some (if (List.range h).all (fun y=>(List.range w).all (fun k=>decide (¬ (fm (fT g b w h) (w * h + 1) ((op * h + y) * w + k + 1)).1=0)))=true then .inr (stT g b w h ((op * h + h) * w)) else .inl (.inr (stT g b w h ((n + 1) * h * w)))):=by
  intro op hop
  have h1:=loop_seqf (B:=compare_ways_1_l2 g (apB g w h (op:Int),0) (compare_Nearest_l2 b) (op:Int)) (fun y=>((y:Int),stT g b w h ((op * h + y) * w))) h (fun y=>(List.range w).all (fun k=>decide (¬ (fm (fT g b w h) (w * h + 1) ((op * h + y) * w + k + 1)).1=0)))
   (bad:=.inl (.inr (stT g b w h ((n + 1) * h * w)))) (t:=.inr (stT g b w h ((op * h + h) * w)))
   (fun y hy _=>by
    unfold compare_ways_1_l2
    simp only [G.hh,dT (show (y:Int) < (h:Int) by omega),if_true,hrow op y hop hy,Option.bind_some]
    cases (List.range w).all (fun k=>decide (¬ (fm (fT g b w h) (w * h + 1) ((op * h + y) * w + k + 1)).1=0)) with
    | false=>rfl
    | true=>
     simp only [if_true,Option.bind_some,w64_succ (show y < 9223372036854775807 by omega)]
     rw [show (op * h + (y + 1)) * w=(op * h + y) * w + w by rw [← Nat.add_assoc,Nat.add_mul _ 1,Nat.one_mul]])
   (fun _=>by
    unfold compare_ways_1_l2
    simp only [G.hh,dF (show ¬ (h:Int) < (h:Int) by omega),Bool.false_eq_true,if_false])
  exact h1
 have h1:=loop_seqf (B:=compare_ways_1_l3 (n:Int) g (compare_Nearest_l2 b)) (fun op=>((op:Int),stT g b w h ((op * h) * w))) (n + 1) (fun op=>(List.range h).all (fun y=>(List.range w).all (fun k=>decide (¬ (fm (fT g b w h) (w * h + 1) ((op * h + y) * w + k + 1)).1=0))))
  (bad:=.inl (.inr (stT g b w h ((n + 1) * h * w)))) (t:=.inr (stT g b w h ((n + 1) * h * w)))
  (fun op hop _=>by
   unfold compare_ways_1_l3
   simp only [dT (show (op:Int) ≤ (n:Int) by omega),if_true,apply_eq G hw hh (show op < 16 by omega),Option.bind_some,hcol op hop]
   cases (List.range h).all (fun y=>(List.range w).all (fun k=>decide (¬ (fm (fT g b w h) (w * h + 1) ((op * h + y) * w + k + 1)).1=0))) with
   | false=>rfl
   | true=>
    simp only [if_true,Option.bind_some,w64_succ (show op < 9223372036854775807 by omega)]
    rw [show (op + 1) * h * w=(op * h + h) * w by rw [Nat.add_mul op,Nat.one_mul]])
  (fun _=>by
   unfold compare_ways_1_l3
   simp only [dF (show ¬ ((n + 1:Nat):Int) ≤ (n:Int) by omega),Bool.false_eq_true,if_false])
 have e0:(((0:Nat):Int),stT g b w h (0 * h * w))=((0:Int),stT g b w h 0):=by rw [Nat.zero_mul,Nat.zero_mul]; rfl
 simp only [e0] at h1
 refine ⟨_,h1,?_⟩
 split
 ·exact .inl rfl
 ·exact .inr rfl
end Go.Proofs.Ytffikfajljbmnaa
