/- CompareMetric: walks, tables, laws. -/
import Derived.Test.YtffikfajljbmnaaProg
import Derived.Test.YtffikfajljbmnaaRows
import Derived.Test.YtffikfajljbmnaaMCompareMetric5
set_option linter.unusedVariables false
set_option linter.unusedSimpArgs false
set_option maxHeartbeats 4000000
set_option maxRecDepth 100000
namespace Go.Proofs.Ytffikfajljbmnaa
open Go.RowKit
noncomputable def F_raddlelaw46_alive :Option Bool:=
 (F_raddlelaw46_cloth (⟨#[46,120,10]⟩:ByteArray)).bind fun r3=>
 (F_raddlelaw46_cloth (⟨#[120,46,10]⟩:ByteArray)).bind fun a9=>
 (F_compare_Cells r3 a9).bind fun aa=>
 (F_compare_Nearest r3 a9 0).bind fun a0=>
 (F_raddlelaw46_cells (⟨#[107,32,112,32,107]⟩:ByteArray)).bind fun ac=>
 (F_raddlelaw46_cells (⟨#[107,32,121,111,32,107]⟩:ByteArray)).bind fun ae=>
 (F_compare_Edits ac ae).bind fun a5=>
 (F_raddlelaw46_cells (⟨#[107,32,112]⟩:ByteArray)).bind fun af=>
 (F_raddlelaw46_cells (⟨#[112]⟩:ByteArray)).bind fun ag=>
 (F_compare_Edits af ag).bind fun a6=>
 (F_raddlelaw46_knit (⟨#[115,116,97,114,116,32,49,10,102,114,111,110,116,32,107,10]⟩:ByteArray)).bind fun ah=>
 (F_raddlelaw46_knit (⟨#[115,116,97,114,116,32,49,10,102,114,111,110,116,32,112,10,98,97,99,107,32,107,10]⟩:ByteArray)).bind fun ai=>
 (F_compare_Charts ah ai).bind fun ab=>
 if aa.2 == 0 then
  if a0.2.2.2 == 0 then
   if a5.2.2 == 0 then
    if a6.2.2 == 0 then
     Option.bind (α:=Bool) (
      if ab.2 == 0 then
       if aa.1 == 2 then
        if a0.1 == 0 then
         if a0.2.1 == 0 then
          if ((a0.2.2.1.X == 1) && ((a0.2.2.1.Y == 0) && true)) then
           (F_raddleref46_Same a5.1 [(api_CellStep.mk 1 (api_Stitch.mk 0 false 0 0)),(api_CellStep.mk 2 (api_Stitch.mk 2 false 0 0)),(api_CellStep.mk 1 (api_Stitch.mk 0 false 0 0))]).bind fun a7=>
           if a7 then
            if a5.2.1 == 1 then
             (F_raddleref46_Same a6.1 [(api_CellStep.mk 4 (api_Stitch.mk 0 false 0 0)),(api_CellStep.mk 1 (api_Stitch.mk 0 false 0 0))]).bind fun a8=>
             if a8 then
              if a6.2.1 == 1 then
               some (ab.1 == 3)
              else
               none
             else
              none
            else
             none
           else
            none
          else
           none
         else
          none
        else
         none
       else
        none
      else
       some false) fun aj=>
     some aj
    else
     none
   else
    none
  else
   none
 else
  none
theorem c_raddlelaw46_alive (E:Nat→Prop) (w0:World)  (r:Bool) (h:F_raddlelaw46_alive =some r) (S:St0 E [] w0 w0 [] []) :
 Calls Try.prog 31 #[] w0 (Ret (X:=Unit) E [] w0 (fun _=>.bool r) (fun _=>[]) (fun _=>[])):=by
 unfold F_raddlelaw46_alive at h
 refine sEnter (args:=[]) 120 Try.func31 d d (by simp) S (fun a S=>?_)
 refine sSeq (fun K1 bX=>sRegion (sN S fun a S=>?_))
 refine lT (bX _ _ (sSeq (fun K2 bY=>sRegion ?_)))
 obtain ⟨r3,bI,h⟩:=bS h
 have hv_r3:r3=(api_Grid.mk 2 1 [false,true]):=Option.some.inj (bI.symm.trans (by exact kc_raddlelaw46_alive_0))
 refine sCall (X:=Value) (f:=41) (vs:=[.string (⟨#[46,120,10]⟩:ByteArray)]) (val:=c_raddlelaw46_cloth_val r3) (B':=fun _=>[]) (D':=c_raddlelaw46_cloth_D r3) [] [] [] [] [] S (wN d) d callee41 d (by decide) d d (fun E1 w1 S1=>c_raddlelaw46_cloth E1 w1 (⟨#[46,120,10]⟩:ByteArray) r3 bI S1) d (lb d) fun u5 a w S=>?_
 obtain ⟨u6,rfl,bP⟩:=S.mem.know (i:=0) (e:=fRep r_api_Grid (u5) r3) d
 have S:=S.learn (fRep (rL rB) u6 r3.Bits) bP
 obtain ⟨bQ,bR,_,rfl,_⟩:=bP
 obtain ⟨a5,aP,h⟩:=bS h
 have hv_r10:a5=(api_Grid.mk 2 1 [true,false]):=Option.some.inj (aP.symm.trans (by exact kc_raddlelaw46_alive_1))
 refine sCall (X:=Value) (f:=41) (vs:=[.string (⟨#[120,46,10]⟩:ByteArray)]) (val:=c_raddlelaw46_cloth_val a5) (B':=fun _=>[]) (D':=c_raddlelaw46_cloth_D a5) [] [] [] [] [] S (wN d) d callee41 d (by decide) d d (fun E1 w1 S1=>c_raddlelaw46_cloth E1 w1 (⟨#[120,46,10]⟩:ByteArray) a5 aP S1) d (lb d) fun bZ a w S=>?_
 obtain ⟨c7,rfl,bf⟩:=S.mem.know (i:=0) (e:=fRep r_api_Grid (bZ) a5) d
 have S:=S.learn (fRep (rL rB) c7 a5.Bits) bf
 obtain ⟨bg,bh,_,rfl,_⟩:=bf
 obtain ⟨aj,bi,h⟩:=bS h
 have hv_r17:aj=(2,0):=Option.some.inj (bi.symm.trans (by rw [hv_r3,hv_r10]; exact kc_raddlelaw46_alive_2))
 have S1:=S.mem
 refine sCq [.agg #[iv r3.W,iv r3.H,.slice bQ r3.Bits.length bR],.agg #[iv a5.W,iv a5.H,.slice bg a5.Bits.length bh]] (.tuple #[iv aj.1,iv aj.2]) S callee14 (S1.quiet [3,1] d) (fun E1 w1 S1=>c_compare_Cells E1 w1 r3 (.agg #[iv r3.W,iv r3.H,.slice bQ r3.Bits.length bR]) a5 (.agg #[iv a5.W,iv a5.H,.slice bg a5.Bits.length bh]) aj bi S1) fun a w S=>?_
 refine sM S fun a S=>?_
 refine sExtract (vs:=[iv aj.1,iv aj.2]) (iv aj.1) S (wN d) d d d d (lb d) fun a S=>sExtract (vs:=[iv aj.1,iv aj.2]) (iv aj.2) S (wN d) d d d d (lb d) fun a S=>sN S fun a S=>?_
 refine sN S fun a S=>?_
 refine lT (bY _ _ (sSeq (fun cp bJ=>sRegion (sCall (X:=Value) (f:=41) (vs:=[.string (⟨#[46,120,10]⟩:ByteArray)]) (val:=c_raddlelaw46_cloth_val r3) (B':=fun _=>[]) (D':=c_raddlelaw46_cloth_D r3) [] [] [] [] [] S (wN d) d callee41 d (by decide) d d (fun E1 w1 S1=>c_raddlelaw46_cloth E1 w1 (⟨#[46,120,10]⟩:ByteArray) r3 bI S1) d (lb d) fun c8 a w S=>?_))))
 obtain ⟨c9,rfl,bj⟩:=S.mem.know (i:=0) (e:=fRep r_api_Grid (c8) r3) d
 have S:=S.learn (fRep (rL rB) c9 r3.Bits) bj
 obtain ⟨aQ,aR,_,rfl,_⟩:=bj
 refine sCall (X:=Value) (f:=41) (vs:=[.string (⟨#[120,46,10]⟩:ByteArray)]) (val:=c_raddlelaw46_cloth_val a5) (B':=fun _=>[]) (D':=c_raddlelaw46_cloth_D a5) [] [] [] [] [] S (wN d) d callee41 d (by decide) d d (fun E1 w1 S1=>c_raddlelaw46_cloth E1 w1 (⟨#[120,46,10]⟩:ByteArray) a5 aP S1) d (lb d) fun ca a w S=>?_
 obtain ⟨cb,rfl,bk⟩:=S.mem.know (i:=0) (e:=fRep r_api_Grid (ca) a5) d
 have S:=S.learn (fRep (rL rB) cb a5.Bits) bk
 obtain ⟨aS,aT,_,rfl,_⟩:=bk
 obtain ⟨a0,bl,h⟩:=bS h
 have hv_r30:a0=(0,(0,((api_Point.mk 1 0),0))):=Option.some.inj (bl.symm.trans (by rw [hv_r3,hv_r10]; exact kc_raddlelaw46_alive_3))
 refine sCall (X:=Value) (f:=16) (vs:=[.agg #[iv r3.W,iv r3.H,.slice aQ r3.Bits.length aR],.agg #[iv a5.W,iv a5.H,.slice aS a5.Bits.length aT],iv 0]) (val:=c_compare_Nearest_val a0) (B':=fun _=>[]) (D':=c_compare_Nearest_D a0) [] [] [fRep r_api_Grid (.agg #[iv r3.W,iv r3.H,.slice aQ r3.Bits.length aR]) r3,fRep r_api_Grid (.agg #[iv a5.W,iv a5.H,.slice aS a5.Bits.length aT]) a5] [] [3,1] S (wN d) d callee16 d (by decide) d d (fun E1 w1 S1=>c_compare_Nearest E1 w1 r3 (.agg #[iv r3.W,iv r3.H,.slice aQ r3.Bits.length aR]) a5 (.agg #[iv a5.W,iv a5.H,.slice aS a5.Bits.length aT]) 0 a0 bl S1) d (lb d) fun bU a w S=>?_
 obtain rfl:bU=.agg #[iv a0.2.2.1.X,iv a0.2.2.1.Y]:=S.mem.know (i:=0) (e:=fRep r_api_Point (bU) a0.2.2.1) d
 refine sM S fun a S=>?_
 refine sExtract (vs:=[iv a0.1,iv a0.2.1,.agg #[iv a0.2.2.1.X,iv a0.2.2.1.Y],iv a0.2.2.2]) (iv a0.1) S (wN d) d d d d (lb d) fun a S=>sExtract (vs:=[iv a0.1,iv a0.2.1,.agg #[iv a0.2.2.1.X,iv a0.2.2.1.Y],iv a0.2.2.2]) (iv a0.2.1) S (wN d) d d d d (lb d) fun a S=>sExtract (vs:=[iv a0.1,iv a0.2.1,.agg #[iv a0.2.2.1.X,iv a0.2.2.1.Y],iv a0.2.2.2]) (.agg #[iv a0.2.2.1.X,iv a0.2.2.1.Y]) S (wN d) d d d d (lb d) fun a S=>sExtract (vs:=[iv a0.1,iv a0.2.1,.agg #[iv a0.2.2.1.X,iv a0.2.2.1.Y],iv a0.2.2.2]) (iv a0.2.2.2) S (wN d) d d d d (lb d) fun a S=>sAlloc (.agg #[iv 0,iv 0]) S (wN d) d d [iv 0,iv 0] d d (lb d) fun a aC w S=>sN S fun a S=>?_
 refine sN S fun a S=>?_
 refine sStore (p:=aC) (off:=0) (T:=33) (vs:=[iv 0,iv 0]) (v:=.agg #[iv a0.2.2.1.X,iv a0.2.2.1.Y]) 0 [iv a0.2.2.1.X,iv a0.2.2.1.Y] S (wN d) d d d d d d d (by simp) d fun a w S=>sN S fun a S=>?_
 refine lT (bJ _ _ (sSeq (fun cq bK=>sRegion ?_)))
 obtain ⟨aG,bm,h⟩:=bS h
 have hv_r35:aG=[(api_Stitch.mk 1 false 0 0),(api_Stitch.mk 1 true 0 0),(api_Stitch.mk 1 false 0 0)]:=Option.some.inj (bm.symm.trans (by exact kc_raddlelaw46_alive_4))
 refine sCall (X:=Value) (f:=42) (vs:=[.string (⟨#[107,32,112,32,107]⟩:ByteArray)]) (val:=c_raddlelaw46_cells_val aG) (B':=fun _=>[]) (D':=c_raddlelaw46_cells_D aG) [] [eBox aC 33 [iv a0.2.2.1.X,iv a0.2.2.1.Y]] [] [0] [] S (wN d) d callee42 d (by decide) d d (fun E1 w1 S1=>c_raddlelaw46_cells E1 w1 (⟨#[107,32,112,32,107]⟩:ByteArray) aG bm S1) d (lb d) fun cc a w S=>?_
 obtain ⟨aU,aV,_,rfl,_⟩:=S.mem.know (i:=0) (e:=fRep (rL r_api_Stitch) (cc) aG) d
 obtain ⟨aH,bo,h⟩:=bS h
 have hv_r40:aH=[(api_Stitch.mk 1 false 0 0),(api_Stitch.mk 2 false 0 0),(api_Stitch.mk 1 false 0 0)]:=Option.some.inj (bo.symm.trans (by exact kc_raddlelaw46_alive_5))
 refine sCall (X:=Value) (f:=42) (vs:=[.string (⟨#[107,32,121,111,32,107]⟩:ByteArray)]) (val:=c_raddlelaw46_cells_val aH) (B':=fun _=>[]) (D':=c_raddlelaw46_cells_D aH) [] [eBox aC 33 [iv a0.2.2.1.X,iv a0.2.2.1.Y]] [] [0] [] S (wN d) d callee42 d (by decide) d d (fun E1 w1 S1=>c_raddlelaw46_cells E1 w1 (⟨#[107,32,121,111,32,107]⟩:ByteArray) aH bo S1) d (lb d) fun cd a w S=>?_
 obtain ⟨aW,aX,_,rfl,_⟩:=S.mem.know (i:=0) (e:=fRep (rL r_api_Stitch) (cd) aH) d
 obtain ⟨a6,bp,h⟩:=bS h
 have hv_r45:a6=([(api_CellStep.mk 1 (api_Stitch.mk 0 false 0 0)),(api_CellStep.mk 2 (api_Stitch.mk 2 false 0 0)),(api_CellStep.mk 1 (api_Stitch.mk 0 false 0 0))],(1,0)):=Option.some.inj (bp.symm.trans (by rw [hv_r35,hv_r40]; exact kc_raddlelaw46_alive_6))
 refine sCall (X:=Value) (f:=23) (vs:=[.slice aU aG.length aV,.slice aW aH.length aX]) (val:=c_compare_Edits_val a6) (B':=fun _=>[]) (D':=c_compare_Edits_D a6) [] [eBox aC 33 [iv a0.2.2.1.X,iv a0.2.2.1.Y]] [fRep (rL r_api_Stitch) (.slice aU aG.length aV) aG,fRep (rL r_api_Stitch) (.slice aW aH.length aX) aH] [0] [1,0] S (wN d) d callee23 d (by decide) d d (fun E1 w1 S1=>c_compare_Edits E1 w1 aG (.slice aU aG.length aV) aH (.slice aW aH.length aX) a6 bp S1) d (lb d) fun ce a w S=>?_
 obtain ⟨af,ag,_,rfl,_⟩:=S.mem.know (i:=0) (e:=fRep (rL r_api_CellStep) (ce) a6.1) d
 refine sM S fun a S=>?_
 refine sExtract (vs:=[.slice af a6.1.length ag,iv a6.2.1,iv a6.2.2]) (.slice af a6.1.length ag) S (wN d) d d d d (lb d) fun a S=>sExtract (vs:=[.slice af a6.1.length ag,iv a6.2.1,iv a6.2.2]) (iv a6.2.1) S (wN d) d d d d (lb d) fun a S=>sExtract (vs:=[.slice af a6.1.length ag,iv a6.2.1,iv a6.2.2]) (iv a6.2.2) S (wN d) d d d d (lb d) fun a S=>sN S fun a S=>?_
 refine sN S fun a S=>?_
 refine sN S fun a S=>?_
 refine lT (bK _ _ (sSeq (fun cr bL=>sRegion ?_)))
 obtain ⟨aI,bq,h⟩:=bS h
 have hv_r51:aI=[(api_Stitch.mk 1 false 0 0),(api_Stitch.mk 1 true 0 0)]:=Option.some.inj (bq.symm.trans (by exact kc_raddlelaw46_alive_7))
 refine sCall (X:=Value) (f:=42) (vs:=[.string (⟨#[107,32,112]⟩:ByteArray)]) (val:=c_raddlelaw46_cells_val aI) (B':=fun _=>[]) (D':=c_raddlelaw46_cells_D aI) [] [eBox aC 33 [iv a0.2.2.1.X,iv a0.2.2.1.Y]] [] [0] [] S (wN d) d callee42 d (by decide) d d (fun E1 w1 S1=>c_raddlelaw46_cells E1 w1 (⟨#[107,32,112]⟩:ByteArray) aI bq S1) d (lb d) fun cf a w S=>?_
 obtain ⟨aZ,ba,_,rfl,_⟩:=S.mem.know (i:=0) (e:=fRep (rL r_api_Stitch) (cf) aI) d
 obtain ⟨aJ,br,h⟩:=bS h
 have hv_r56:aJ=[(api_Stitch.mk 1 true 0 0)]:=Option.some.inj (br.symm.trans (by exact kc_raddlelaw46_alive_8))
 refine sCall (X:=Value) (f:=42) (vs:=[.string (⟨#[112]⟩:ByteArray)]) (val:=c_raddlelaw46_cells_val aJ) (B':=fun _=>[]) (D':=c_raddlelaw46_cells_D aJ) [] [eBox aC 33 [iv a0.2.2.1.X,iv a0.2.2.1.Y]] [] [0] [] S (wN d) d callee42 d (by decide) d d (fun E1 w1 S1=>c_raddlelaw46_cells E1 w1 (⟨#[112]⟩:ByteArray) aJ br S1) d (lb d) fun cg a w S=>?_
 obtain ⟨bb,bc,_,rfl,_⟩:=S.mem.know (i:=0) (e:=fRep (rL r_api_Stitch) (cg) aJ) d
 obtain ⟨a7,bu,h⟩:=bS h
 have hv_r61:a7=([(api_CellStep.mk 4 (api_Stitch.mk 0 false 0 0)),(api_CellStep.mk 1 (api_Stitch.mk 0 false 0 0))],(1,0)):=Option.some.inj (bu.symm.trans (by rw [hv_r51,hv_r56]; exact kc_raddlelaw46_alive_9))
 refine sCall (X:=Value) (f:=23) (vs:=[.slice aZ aI.length ba,.slice bb aJ.length bc]) (val:=c_compare_Edits_val a7) (B':=fun _=>[]) (D':=c_compare_Edits_D a7) [] [eBox aC 33 [iv a0.2.2.1.X,iv a0.2.2.1.Y]] [fRep (rL r_api_Stitch) (.slice aZ aI.length ba) aI,fRep (rL r_api_Stitch) (.slice bb aJ.length bc) aJ] [0] [1,0] S (wN d) d callee23 d (by decide) d d (fun E1 w1 S1=>c_compare_Edits E1 w1 aI (.slice aZ aI.length ba) aJ (.slice bb aJ.length bc) a7 bu S1) d (lb d) fun ci a w S=>?_
 obtain ⟨ah,ai,_,rfl,_⟩:=S.mem.know (i:=0) (e:=fRep (rL r_api_CellStep) (ci) a7.1) d
 refine sM S fun a S=>?_
 refine sExtract (vs:=[.slice ah a7.1.length ai,iv a7.2.1,iv a7.2.2]) (.slice ah a7.1.length ai) S (wN d) d d d d (lb d) fun a S=>sExtract (vs:=[.slice ah a7.1.length ai,iv a7.2.1,iv a7.2.2]) (iv a7.2.1) S (wN d) d d d d (lb d) fun a S=>sExtract (vs:=[.slice ah a7.1.length ai,iv a7.2.1,iv a7.2.2]) (iv a7.2.2) S (wN d) d d d d (lb d) fun a S=>sN S fun a S=>?_
 refine sN S fun a S=>?_
 refine sN S fun a S=>?_
 refine lT (bL _ _ (sSeq (fun ct bM=>sRegion ?_)))
 obtain ⟨am,bv,h⟩:=bS h
 have hv_r67:am=(api_Chart.mk 1 [(api_Row.mk false [(api_Stitch.mk 1 false 0 0)])]):=Option.some.inj (bv.symm.trans (by exact kc_raddlelaw46_alive_10))
 refine sCall (X:=Value) (f:=43) (vs:=[.string (⟨#[115,116,97,114,116,32,49,10,102,114,111,110,116,32,107,10]⟩:ByteArray)]) (val:=c_raddlelaw46_knit_val am) (B':=fun _=>[]) (D':=c_raddlelaw46_knit_D am) [] [eBox aC 33 [iv a0.2.2.1.X,iv a0.2.2.1.Y]] [] [0] [] S (wN d) d callee43 d (by decide) d d (fun E1 w1 S1=>c_raddlelaw46_knit E1 w1 (⟨#[115,116,97,114,116,32,49,10,102,114,111,110,116,32,107,10]⟩:ByteArray) am bv S1) d (lb d) fun cj a w S=>?_
 obtain ⟨ck,rfl,bw⟩:=S.mem.know (i:=0) (e:=fRep r_api_Chart (cj) am) d
 have S:=S.learn (fRep (rL r_api_Row) ck am.Rows) bw
 obtain ⟨bx,bz,_,rfl,_⟩:=bw
 obtain ⟨ao,bA,h⟩:=bS h
 have hv_r74:ao=(api_Chart.mk 1 [(api_Row.mk false [(api_Stitch.mk 1 true 0 0)]),(api_Row.mk true [(api_Stitch.mk 1 false 0 0)])]):=Option.some.inj (bA.symm.trans (by exact kc_raddlelaw46_alive_11))
 refine sCall (X:=Value) (f:=43) (vs:=[.string (⟨#[115,116,97,114,116,32,49,10,102,114,111,110,116,32,112,10,98,97,99,107,32,107,10]⟩:ByteArray)]) (val:=c_raddlelaw46_knit_val ao) (B':=fun _=>[]) (D':=c_raddlelaw46_knit_D ao) [] [eBox aC 33 [iv a0.2.2.1.X,iv a0.2.2.1.Y]] [] [0] [] S (wN d) d callee43 d (by decide) d d (fun E1 w1 S1=>c_raddlelaw46_knit E1 w1 (⟨#[115,116,97,114,116,32,49,10,102,114,111,110,116,32,112,10,98,97,99,107,32,107,10]⟩:ByteArray) ao bA S1) d (lb d) fun cl a w S=>?_
 obtain ⟨cm,rfl,bB⟩:=S.mem.know (i:=0) (e:=fRep r_api_Chart (cl) ao) d
 have S:=S.learn (fRep (rL r_api_Row) cm ao.Rows) bB
 obtain ⟨bC,bD,_,rfl,_⟩:=bB
 obtain ⟨aa,bE,h⟩:=bS h
 have hv_r81:aa=(3,0):=Option.some.inj (bE.symm.trans (by rw [hv_r67,hv_r74]; exact kc_raddlelaw46_alive_12))
 have S1:=S.mem
 refine sCq [.agg #[iv am.Start,.slice bx am.Rows.length bz],.agg #[iv ao.Start,.slice bC ao.Rows.length bD]] (.tuple #[iv aa.1,iv aa.2]) S callee20 (S1.quiet [3,1] d) (fun E1 w1 S1=>c_compare_Charts E1 w1 am (.agg #[iv am.Start,.slice bx am.Rows.length bz]) ao (.agg #[iv ao.Start,.slice bC ao.Rows.length bD]) aa bE S1) fun a w S=>?_
 refine sM S fun a S=>?_
 refine sExtract (vs:=[iv aa.1,iv aa.2]) (iv aa.1) S (wN d) d d d d (lb d) fun a S=>sExtract (vs:=[iv aa.1,iv aa.2]) (iv aa.2) S (wN d) d d d d (lb d) fun a S=>sN S fun a S=>?_
 refine sN S fun a S=>?_
 refine lT (bM _ _ (sSeq (fun cu bN=>sRegion (sBuild [(0,.int .u8 1)] [.int .u8 1,.int .u8 0,.bool false,iv 0,iv 0] S (wN d) d d d d (lb d) fun a S=>sBuild [(0,.int .u8 2)] [.int .u8 2,.bool false,iv 0,iv 0] S (wN d) d d d d (lb d) fun a S=>sBuild [(0,.int .u8 2),(1,.agg #[.int .u8 2,.bool false,iv 0,iv 0])] [.int .u8 2,.int .u8 2,.bool false,iv 0,iv 0] S (wN d) d d d d (lb d) fun a S=>sBuild [(0,.int .u8 4)] [.int .u8 4,.int .u8 0,.bool false,iv 0,iv 0] S (wN d) d d d d (lb d) fun a S=>sAlloc (.agg #[.int .u8 0,.int .u8 0,.bool false,iv 0,iv 0]) S (wN d) d d [.int .u8 0,.int .u8 0,.bool false,iv 0,iv 0] d d (lb d) fun a bH w S=>sAlloc (.agg #[.int .u8 0,.int .u8 0,.bool false,iv 0,iv 0]) S (wN d) d d [.int .u8 0,.int .u8 0,.bool false,iv 0,iv 0] d d (lb d) fun a bV w S=>sAlloc (.agg #[.int .u8 0,.int .u8 0,.bool false,iv 0,iv 0]) S (wN d) d d [.int .u8 0,.int .u8 0,.bool false,iv 0,iv 0] d d (lb d) fun a bW w S=>sStore (p:=bH) (off:=0) (T:=83) (vs:=[.int .u8 0,.int .u8 0,.bool false,iv 0,iv 0]) (v:=.agg #[.int .u8 1,.int .u8 0,.bool false,iv 0,iv 0]) 2 [.int .u8 1,.int .u8 0,.bool false,iv 0,iv 0] S (wN d) d d d d d d d (by simp) d fun a w S=>sStore (p:=bV) (off:=0) (T:=83) (vs:=[.int .u8 0,.int .u8 0,.bool false,iv 0,iv 0]) (v:=.agg #[.int .u8 2,.int .u8 2,.bool false,iv 0,iv 0]) 2 [.int .u8 2,.int .u8 2,.bool false,iv 0,iv 0] S (wN d) d d d d d d d (by simp) d fun a w S=>sStore (p:=bW) (off:=0) (T:=83) (vs:=[.int .u8 0,.int .u8 0,.bool false,iv 0,iv 0]) (v:=.agg #[.int .u8 4,.int .u8 0,.bool false,iv 0,iv 0]) 2 [.int .u8 4,.int .u8 0,.bool false,iv 0,iv 0] S (wN d) d d d d d d d (by simp) d fun a w S=>lT (bN _ _ (sSeq (fun cv bO=>sRegion ?_)))))))
 refine sM S fun a S=>?_
 refine sBin _ S (wN d) d d d (bEq _ _ _ _ .i64 aj.2 0) d (lb d) fun a S=>sM S fun a S=>?_
 rcases iS h with ⟨ap,h⟩ | ⟨ap,h⟩
 rotate_left
 ·exact absurd ap (by rw [hv_r17]; decide)
 refine sMove (iv a0.2.2.2) S (wG 2 true 59 d d d ap) (.inl d) d d (lb d) fun a S=>sBin _ S (wG 2 true 59 d d d ap) d d d (bEq _ _ _ _ .i64 a0.2.2.2 0) d (lb d) fun a S=>sPickT (.bool (a0.2.2.2 == 0)) S (wN d) d d ap d d (lb d) fun a S=>sM S fun a S=>?_
 rcases iS h with ⟨aq,h⟩ | ⟨aq,h⟩
 rotate_left
 ·exact absurd aq (by rw [hv_r30]; decide)
 refine sMove (iv a6.2.2) S (wG 6 true 63 d d d aq) (.inl d) d d (lb d) fun a S=>sBin _ S (wG 6 true 63 d d d aq) d d d (bEq _ _ _ _ .i64 a6.2.2 0) d (lb d) fun a S=>sPickT (.bool (a6.2.2 == 0)) S (wN d) d d aq d d (lb d) fun a S=>sM S fun a S=>?_
 rcases iS h with ⟨ar,h⟩ | ⟨ar,h⟩
 rotate_left
 ·exact absurd ar (by rw [hv_r45]; decide)
 refine sMove (iv a7.2.2) S (wG 10 true 67 d d d ar) (.inl d) d d (lb d) fun a S=>sBin _ S (wG 10 true 67 d d d ar) d d d (bEq _ _ _ _ .i64 a7.2.2 0) d (lb d) fun a S=>sPickT (.bool (a7.2.2 == 0)) S (wN d) d d ar d d (lb d) fun a S=>sM S fun a S=>?_
 rcases iS h with ⟨au,h⟩ | ⟨au,h⟩
 rotate_left
 ·exact absurd au (by rw [hv_r61]; decide)
 refine sMove (iv aa.2) S (wG 14 true 71 d d d au) (.inl d) d d (lb d) fun a S=>sBin _ S (wG 14 true 71 d d d au) d d d (bEq _ _ _ _ .i64 aa.2 0) d (lb d) fun a S=>sPickT (.bool (aa.2 == 0)) S (wN d) d d au d d (lb d) fun a S=>sN S fun a S=>?_
 refine lT (bO _ _ ?_)
 obtain ⟨cn,h,co⟩:=bS h
 refine sCut (fun a w=>∃ bG,bG=cn∧St [] E [] w0 120 a w [(0,.bool bG)] [] []) ?_ (fun a w hI=>?_)
 rotate_left
 ·obtain ⟨bG,rfl,S⟩:=hI
  have h:=co
  try dsimp only at h
  obtain rfl:=tS h
  exact wp_ret (sRet (.bool bG) S (rsl1 d (rvT (t:=0) (v:=.bool bG) S d)) ⟨(),d,S.mem.sel [] [] (by decide) d d⟩)
 refine sRegion (sM S fun a S=>?_)
 refine sM S fun a S=>?_
 rcases iS h with ⟨ak,h⟩ | ⟨ak,h⟩
 rotate_left
 ·refine sSkN 2 1 true 76 S d d ak d fun a S=>sPickF (.bool false) S (wN d) d d ak d d (lb d) fun a S=>sM S fun a S=>?_
  refine sSkN 2 5 true 80 S d d d d fun a S=>sPickF (.bool false) S (wN d) d d d d d (lb d) fun a S=>sM S fun a S=>?_
  refine sSkN 2 9 true 84 S d d d d fun a S=>sPickF (.bool false) S (wN d) d d d d d (lb d) fun a S=>sM S fun a S=>?_
  refine sSkN 3 13 true 88 S d d d d fun a S=>sPickF (.bool false) S (wN d) d d d d d (lb d) fun a S=>sM S fun a S=>?_
  refine sSkN 6 18 true 93 S d d d d fun a S=>sPickF (.bool false) S (wN d) d d d d d (lb d) fun a S=>sM S fun a S=>?_
  refine sSkN 2 26 true 101 S d d d d fun a S=>sPickF (.bool false) S (wN d) d d d d d (lb d) fun a S=>sM S fun a S=>?_
  refine sSkN 5 30 true 105 S d d d d fun a S=>sPickF (.bool false) S (wN d) d d d d d (lb d) fun a S=>sM S fun a S=>?_
  refine sSkN 2 37 true 112 S d d d d fun a S=>sPickF (.bool false) S (wN d) d d d d d (lb d) fun a S=>sM S fun a S=>?_
  refine sSkN 2 41 true 116 S d d d d fun a S=>sPickF (.bool false) S (wN d) d d d d d (lb d) fun a S=>sN S fun a S=>?_
  exact lT (⟨false,Option.some.inj h,S.fix [] [] (by decide) d d d⟩)
 refine sMove (iv aj.1) S (wG 1 true 76 d d d ak) (.inl d) d d (lb d) fun a S=>sBin _ S (wG 1 true 76 d d d ak) d d d (bEq _ _ _ _ .i64 aj.1 2) d (lb d) fun a S=>sPickT (.bool (aj.1 == 2)) S (wN d) d d ak d d (lb d) fun a S=>sM S fun a S=>?_
 rcases iS h with ⟨av,h⟩ | ⟨av,h⟩
 rotate_left
 ·exact absurd av (by rw [hv_r17]; decide)
 refine sMove (iv a0.1) S (wG 5 true 80 d d d av) (.inl d) d d (lb d) fun a S=>sBin _ S (wG 5 true 80 d d d av) d d d (bEq _ _ _ _ .i64 a0.1 0) d (lb d) fun a S=>sPickT (.bool (a0.1 == 0)) S (wN d) d d av d d (lb d) fun a S=>sM S fun a S=>?_
 rcases iS h with ⟨aw,h⟩ | ⟨aw,h⟩
 rotate_left
 ·exact absurd aw (by rw [hv_r30]; decide)
 refine sMove (iv a0.2.1) S (wG 9 true 84 d d d aw) (.inl d) d d (lb d) fun a S=>sBin _ S (wG 9 true 84 d d d aw) d d d (bEq _ _ _ _ .i64 a0.2.1 0) d (lb d) fun a S=>sPickT (.bool (a0.2.1 == 0)) S (wN d) d d aw d d (lb d) fun a S=>sM S fun a S=>?_
 rcases iS h with ⟨al,h⟩ | ⟨al,h⟩
 rotate_left
 ·exact absurd al (by rw [hv_r30]; decide)
 refine sLoadN (p:=aC) (off:=0) (T:=33) (vs:=[iv a0.2.2.1.X,iv a0.2.2.1.Y]) 3 [iv a0.2.2.1.X,iv a0.2.2.1.Y] S (wG 13 true 88 d d d al) d d d d d d d (lb d) fun a S=>sBuild [(0,iv 1)] [iv 1,iv 0] S (wG 13 true 88 d d d al) d d d d (lb d) fun a S=>sBin _ S (wG 13 true 88 d d d al) d d d (bEqV _ _ _ _ #[iv a0.2.2.1.X,iv a0.2.2.1.Y] #[iv 1,iv 0] ((a0.2.2.1.X == 1) && ((a0.2.2.1.Y == 0) && true)) (by kernel_rfl) (eqlV_of (by kernel_rfl))) d (lb d) fun a S=>sPickT (.bool ((a0.2.2.1.X == 1) && ((a0.2.2.1.Y == 0) && true))) S (wN d) d d al d d (lb d) fun a S=>sM S fun a S=>?_
 rcases iS h with ⟨a9,h⟩ | ⟨a9,h⟩
 rotate_left
 ·exact absurd a9 (by rw [hv_r30]; decide)
 refine sMove (.slice af a6.1.length ag) S (wG 18 true 93 d d d a9) (.inl d) d d (lb d) fun a S=>sLoadN (p:=bH) (off:=0) (T:=83) (vs:=[.int .u8 1,.int .u8 0,.bool false,iv 0,iv 0]) 2 [.int .u8 1,.int .u8 0,.bool false,iv 0,iv 0] S (wG 18 true 93 d d d a9) d d d d d d d (lb d) fun a S=>sLoadN (p:=bV) (off:=0) (T:=83) (vs:=[.int .u8 2,.int .u8 2,.bool false,iv 0,iv 0]) 1 [.int .u8 2,.int .u8 2,.bool false,iv 0,iv 0] S (wG 18 true 93 d d d a9) d d d d d d d (lb d) fun a S=>sLoadN (p:=bH) (off:=0) (T:=83) (vs:=[.int .u8 1,.int .u8 0,.bool false,iv 0,iv 0]) 2 [.int .u8 1,.int .u8 0,.bool false,iv 0,iv 0] S (wG 18 true 93 d d d a9) d d d d d d d (lb d) fun a S=>?_
 have S:=S.learn (fRep r_api_CellStep (.agg #[.int .u8 1,.int .u8 0,.bool false,iv 0,iv 0]) (api_CellStep.mk 1 (api_Stitch.mk 0 false 0 0))) d
 have S:=S.learn (fRep r_api_CellStep (.agg #[.int .u8 2,.int .u8 2,.bool false,iv 0,iv 0]) (api_CellStep.mk 2 (api_Stitch.mk 2 false 0 0))) d
 refine sLit (r:=r_api_CellStep) (T:=83) (xs:=[(api_CellStep.mk 1 (api_Stitch.mk 0 false 0 0)),(api_CellStep.mk 2 (api_Stitch.mk 2 false 0 0)),(api_CellStep.mk 1 (api_Stitch.mk 0 false 0 0))]) [(0,.agg #[.int .u8 1,.int .u8 0,.bool false,iv 0,iv 0]),(1,.agg #[.int .u8 2,.int .u8 2,.bool false,iv 0,iv 0]),(2,.agg #[.int .u8 1,.int .u8 0,.bool false,iv 0,iv 0])] 3 [.agg #[.int .u8 1,.int .u8 0,.bool false,iv 0,iv 0],.agg #[.int .u8 2,.int .u8 2,.bool false,iv 0,iv 0],.agg #[.int .u8 1,.int .u8 0,.bool false,iv 0,iv 0]] [.int .u8 1,.int .u8 0,.bool false,iv 0,iv 0,.int .u8 2,.int .u8 2,.bool false,iv 0,iv 0,.int .u8 1,.int .u8 0,.bool false,iv 0,iv 0] (.agg #[.int .u8 0,.int .u8 0,.bool false,iv 0,iv 0]) 32 S (wG 18 true 93 d d d a9) d d Try.underlying48 d (by decide) (by decide) (by kernel_rfl) d (fun E1 w1 hE=>All.cons (r_api_CellStep.mono hE (S.mem.know (i:=1) (e:=fRep r_api_CellStep (.agg #[.int .u8 1,.int .u8 0,.bool false,iv 0,iv 0]) (api_CellStep.mk 1 (api_Stitch.mk 0 false 0 0))) d)) (All.cons (r_api_CellStep.mono hE (S.mem.know (i:=0) (e:=fRep r_api_CellStep (.agg #[.int .u8 2,.int .u8 2,.bool false,iv 0,iv 0]) (api_CellStep.mk 2 (api_Stitch.mk 2 false 0 0))) d)) (All.cons (r_api_CellStep.mono hE (S.mem.know (i:=1) (e:=fRep r_api_CellStep (.agg #[.int .u8 1,.int .u8 0,.bool false,iv 0,iv 0]) (api_CellStep.mk 1 (api_Stitch.mk 0 false 0 0))) d)) (All.nil _ _ _)))) d d (lb d) fun a w ax ay S=>?_
 obtain ⟨aK,aM,h⟩:=bS h
 have hv_r102:aK=true:=Option.some.inj (aM.symm.trans (by rw [hv_r45]; exact kc_raddlelaw46_alive_13))
 have S1:=S.mem
 have S1:=S1.shutR (r:=r_api_CellStep) (T:=83) (v:=.slice ax [(api_CellStep.mk 1 (api_Stitch.mk 0 false 0 0)),(api_CellStep.mk 2 (api_Stitch.mk 2 false 0 0)),(api_CellStep.mk 1 (api_Stitch.mk 0 false 0 0))].length ay) (xs:=[(api_CellStep.mk 1 (api_Stitch.mk 0 false 0 0)),(api_CellStep.mk 2 (api_Stitch.mk 2 false 0 0)),(api_CellStep.mk 1 (api_Stitch.mk 0 false 0 0))]) 0 d
 refine sCallQ (X:=Unit) (f:=29) (vs:=[.slice af a6.1.length ag,.slice ax [(api_CellStep.mk 1 (api_Stitch.mk 0 false 0 0)),(api_CellStep.mk 2 (api_Stitch.mk 2 false 0 0)),(api_CellStep.mk 1 (api_Stitch.mk 0 false 0 0))].length ay]) (val:=fun _=>.bool aK) S (wG 18 true 93 d d d a9) d callee29 d (S1.quiet [10,0] d) (fun E1 w1 S1=>c_raddleref46_Same E1 w1 a6.1 (.slice af a6.1.length ag) [(api_CellStep.mk 1 (api_Stitch.mk 0 false 0 0)),(api_CellStep.mk 2 (api_Stitch.mk 2 false 0 0)),(api_CellStep.mk 1 (api_Stitch.mk 0 false 0 0))] (.slice ax [(api_CellStep.mk 1 (api_Stitch.mk 0 false 0 0)),(api_CellStep.mk 2 (api_Stitch.mk 2 false 0 0)),(api_CellStep.mk 1 (api_Stitch.mk 0 false 0 0))].length ay) aK aM S1) d (lb d) fun _ a w S=>?_
 refine sPickT (.bool aK) S (wN d) d d a9 d d (lb d) fun a S=>sM S fun a S=>?_
 rcases iS h with ⟨ab,h⟩ | ⟨ab,h⟩
 rotate_left
 ·exact absurd ab (by rw [hv_r102]; decide)
 refine sMove (iv a6.2.1) S (wG 26 true 101 d d d ab) (.inl d) d d (lb d) fun a S=>sBin _ S (wG 26 true 101 d d d ab) d d d (bEq _ _ _ _ .i64 a6.2.1 1) d (lb d) fun a S=>sPickT (.bool (a6.2.1 == 1)) S (wN d) d d ab d d (lb d) fun a S=>sM S fun a S=>?_
 rcases iS h with ⟨a8,h⟩ | ⟨a8,h⟩
 rotate_left
 ·exact absurd a8 (by rw [hv_r45]; decide)
 refine sMove (.slice ah a7.1.length ai) S (wG 30 true 105 d d d a8) (.inl d) d d (lb d) fun a S=>sLoadN (p:=bW) (off:=0) (T:=83) (vs:=[.int .u8 4,.int .u8 0,.bool false,iv 0,iv 0]) 1 [.int .u8 4,.int .u8 0,.bool false,iv 0,iv 0] S (wG 30 true 105 d d d a8) d d d d d d d (lb d) fun a S=>sLoadN (p:=bH) (off:=0) (T:=83) (vs:=[.int .u8 1,.int .u8 0,.bool false,iv 0,iv 0]) 3 [.int .u8 1,.int .u8 0,.bool false,iv 0,iv 0] S (wG 30 true 105 d d d a8) d d d d d d d (lb d) fun a S=>?_
 have S:=S.learn (fRep r_api_CellStep (.agg #[.int .u8 4,.int .u8 0,.bool false,iv 0,iv 0]) (api_CellStep.mk 4 (api_Stitch.mk 0 false 0 0))) d
 refine sLit (r:=r_api_CellStep) (T:=83) (xs:=[(api_CellStep.mk 4 (api_Stitch.mk 0 false 0 0)),(api_CellStep.mk 1 (api_Stitch.mk 0 false 0 0))]) [(0,.agg #[.int .u8 4,.int .u8 0,.bool false,iv 0,iv 0]),(1,.agg #[.int .u8 1,.int .u8 0,.bool false,iv 0,iv 0])] 2 [.agg #[.int .u8 4,.int .u8 0,.bool false,iv 0,iv 0],.agg #[.int .u8 1,.int .u8 0,.bool false,iv 0,iv 0]] [.int .u8 4,.int .u8 0,.bool false,iv 0,iv 0,.int .u8 1,.int .u8 0,.bool false,iv 0,iv 0] (.agg #[.int .u8 0,.int .u8 0,.bool false,iv 0,iv 0]) 32 S (wG 30 true 105 d d d a8) d d Try.underlying48 d (by decide) (by decide) (by kernel_rfl) d (fun E1 w1 hE=>All.cons (r_api_CellStep.mono hE (S.mem.know (i:=0) (e:=fRep r_api_CellStep (.agg #[.int .u8 4,.int .u8 0,.bool false,iv 0,iv 0]) (api_CellStep.mk 4 (api_Stitch.mk 0 false 0 0))) d)) (All.cons (r_api_CellStep.mono hE (S.mem.know (i:=2) (e:=fRep r_api_CellStep (.agg #[.int .u8 1,.int .u8 0,.bool false,iv 0,iv 0]) (api_CellStep.mk 1 (api_Stitch.mk 0 false 0 0))) d)) (All.nil _ _ _))) d d (lb d) fun a w az aA S=>?_
 obtain ⟨aL,aO,h⟩:=bS h
 have hv_r108:aL=true:=Option.some.inj (aO.symm.trans (by rw [hv_r61]; exact kc_raddlelaw46_alive_14))
 have S1:=S.mem
 have S1:=S1.shutR (r:=r_api_CellStep) (T:=83) (v:=.slice az [(api_CellStep.mk 4 (api_Stitch.mk 0 false 0 0)),(api_CellStep.mk 1 (api_Stitch.mk 0 false 0 0))].length aA) (xs:=[(api_CellStep.mk 4 (api_Stitch.mk 0 false 0 0)),(api_CellStep.mk 1 (api_Stitch.mk 0 false 0 0))]) 0 d
 refine sCallQ (X:=Unit) (f:=29) (vs:=[.slice ah a7.1.length ai,.slice az [(api_CellStep.mk 4 (api_Stitch.mk 0 false 0 0)),(api_CellStep.mk 1 (api_Stitch.mk 0 false 0 0))].length aA]) (val:=fun _=>.bool aL) S (wG 30 true 105 d d d a8) d callee29 d (S1.quiet [8,0] d) (fun E1 w1 S1=>c_raddleref46_Same E1 w1 a7.1 (.slice ah a7.1.length ai) [(api_CellStep.mk 4 (api_Stitch.mk 0 false 0 0)),(api_CellStep.mk 1 (api_Stitch.mk 0 false 0 0))] (.slice az [(api_CellStep.mk 4 (api_Stitch.mk 0 false 0 0)),(api_CellStep.mk 1 (api_Stitch.mk 0 false 0 0))].length aA) aL aO S1) d (lb d) fun _ a w S=>?_
 refine sPickT (.bool aL) S (wN d) d d a8 d d (lb d) fun a S=>sM S fun a S=>?_
 rcases iS h with ⟨ac,h⟩ | ⟨ac,h⟩
 rotate_left
 ·exact absurd ac (by rw [hv_r108]; decide)
 refine sMove (iv a7.2.1) S (wG 37 true 112 d d d ac) (.inl d) d d (lb d) fun a S=>sBin _ S (wG 37 true 112 d d d ac) d d d (bEq _ _ _ _ .i64 a7.2.1 1) d (lb d) fun a S=>sPickT (.bool (a7.2.1 == 1)) S (wN d) d d ac d d (lb d) fun a S=>sM S fun a S=>?_
 rcases iS h with ⟨ae,h⟩ | ⟨ae,h⟩
 rotate_left
 ·exact absurd ae (by rw [hv_r61]; decide)
 refine sMove (iv aa.1) S (wG 41 true 116 d d d ae) (.inl d) d d (lb d) fun a S=>sBin _ S (wG 41 true 116 d d d ae) d d d (bEq _ _ _ _ .i64 aa.1 3) d (lb d) fun a S=>sPickT (.bool (aa.1 == 3)) S (wN d) d d ae d d (lb d) fun a S=>sN S fun a S=>?_
 exact lT (⟨aa.1 == 3,Option.some.inj h,S.fix [] [] (by decide) d d d⟩)
def K_raddlelaw46_alive :Option Bool:=
 Option.bind (K_raddlelaw46_cloth (⟨#[46,120,10]⟩:ByteArray)) fun r3=>
 Option.bind (K_raddlelaw46_cloth (⟨#[120,46,10]⟩:ByteArray)) fun r10=>
 Option.bind (K_compare_Cells r3 r10) fun r17=>
 Option.bind (K_compare_Nearest r3 r10 0) fun r30=>
 Option.bind (K_raddlelaw46_cells (⟨#[107,32,112,32,107]⟩:ByteArray)) fun r35=>
 Option.bind (K_raddlelaw46_cells (⟨#[107,32,121,111,32,107]⟩:ByteArray)) fun r40=>
 Option.bind (K_compare_Edits r35 r40) fun r45=>
 Option.bind (K_raddlelaw46_cells (⟨#[107,32,112]⟩:ByteArray)) fun r51=>
 Option.bind (K_raddlelaw46_cells (⟨#[112]⟩:ByteArray)) fun r56=>
 Option.bind (K_compare_Edits r51 r56) fun r61=>
 Option.bind (K_raddlelaw46_knit (⟨#[115,116,97,114,116,32,49,10,102,114,111,110,116,32,107,10]⟩:ByteArray)) fun r67=>
 Option.bind (K_raddlelaw46_knit (⟨#[115,116,97,114,116,32,49,10,102,114,111,110,116,32,112,10,98,97,99,107,32,107,10]⟩:ByteArray)) fun r74=>
 Option.bind (K_compare_Charts r67 r74) fun r81=>
 if r17.2 == 0 then
  if r30.2.2.2 == 0 then
   if r45.2.2 == 0 then
    if r61.2.2 == 0 then
     Option.bind (α:=Bool) (
      if r81.2 == 0 then
       if r17.1 == 2 then
        if r30.1 == 0 then
         if r30.2.1 == 0 then
          if ((r30.2.2.1.X == 1) && ((r30.2.2.1.Y == 0) && true)) then
           Option.bind (K_raddleref46_Same r45.1 [(api_CellStep.mk 1 (api_Stitch.mk 0 false 0 0)),(api_CellStep.mk 2 (api_Stitch.mk 2 false 0 0)),(api_CellStep.mk 1 (api_Stitch.mk 0 false 0 0))]) fun r102=>
           if r102 then
            if r45.2.1 == 1 then
             Option.bind (K_raddleref46_Same r61.1 [(api_CellStep.mk 4 (api_Stitch.mk 0 false 0 0)),(api_CellStep.mk 1 (api_Stitch.mk 0 false 0 0))]) fun r108=>
             if r108 then
              if r61.2.1 == 1 then
               some (r81.1 == 3)
              else
               none
             else
              none
            else
             none
           else
            none
          else
           none
         else
          none
        else
         none
       else
        none
      else
       some false) fun o92=>
     some o92
    else
     none
   else
    none
  else
   none
 else
  none
theorem m_F_raddlelaw46_alive :Le (K_raddlelaw46_alive) (F_raddlelaw46_alive):=by
 unfold K_raddlelaw46_alive F_raddlelaw46_alive
 with_reducible repeat' (first | exact m_F_raddlelaw46_cloth _ | exact m_F_compare_Cells _ _ | exact m_F_compare_Nearest _ _ _ | exact m_F_raddlelaw46_cells _ | exact m_F_compare_Edits _ _ | exact m_F_raddlelaw46_knit _ | exact m_F_compare_Charts _ _ | exact m_F_raddleref46_Same _ _ | exact Le.rfl _ | refine Le.loop _ ?_ | refine Le.bind ?_ ?_ | refine Le.ite ?_ ?_ | refine Le.sum ?_ ?_ | refine Le.prod ?_ | intro _ | exact Empty.elim (by assumption) | dsimp only)
set_option maxRecDepth 1000000 in
theorem k_raddlelaw46_alive:F_raddlelaw46_alive=some true:=m_F_raddlelaw46_alive _ (by kernel_rfl)
theorem w64_of {x:Int} (h0:-9223372036854775808 ≤ x) (h1:x ≤ 9223372036854775807):w64 x=x:=w64_id ⟨h0,h1⟩
theorem w64_succ {k:Nat} (h:k < 9223372036854775807):w64 ((k:Int) + 1)=((k + 1:Nat):Int):=by
 rw [w64_of (by omega) (by omega)]; omega
theorem idxO_nat {α:Type} {xs:List α} {k:Nat} (h:k < xs.length):idxO xs (k:Int)=some xs[k]:=by
 simp [idxO,h]
theorem idxO_of {α:Type} {xs:List α} {i:Int} {k:Nat} (hi:i=(k:Int)) (h:k < xs.length):idxO xs i=some xs[k]:=by subst hi; exact idxO_nat h
theorem appO_of {α:Type} {xs ys:List α} (h:xs.length + ys.length ≤ 68719476736):appO xs ys=some (xs ++ ys):=by
 simp [appO,lim,h]
theorem capO_of {n:Int} {k:Nat} (h:n=(k:Int)) (hk:k ≤ 68719476736):capO n=some ():=by
 subst h; simp [capO,lim,hk]
theorem map_cong {α:Type} {n:Nat} {f g:Nat→α} (h:∀ k,k < n→f k=g k):(List.range n).map f=(List.range n).map g:=
 List.map_congr_left fun k hk=>h k (List.mem_range.1 hk)
theorem dT {p:Prop} [Decidable p] (h:p):decide p=true:=decide_eq_true h
theorem dF {p:Prop} [Decidable p] (h:¬ p):decide p=false:=decide_eq_false h
theorem bT {a b:Int} (h:a=b):(a == b)=true:=by simp [h]
theorem bF {a b:Int} (h:¬ a=b):(a == b)=false:=by simp [h]
theorem nT {a b:Int} (h:¬ a=b):(a != b)=true:=by simp [h]
theorem nF {a b:Int} (h:a=b):(a != b)=false:=by simp [h]
def Fill {α:Type} (n:Nat) (f:Nat→α) (k:Nat) (s:List α):Prop:=s.length=n∧∀ j,j < k→s[j]?=some (f j)
theorem Fill.zero {α:Type} (n:Nat) (f:Nat→α) (z:α):Fill n f 0 (List.replicate n z):=⟨by simp,fun j hj=>absurd hj (Nat.not_lt_zero j)⟩
theorem Fill.set {α:Type} {n:Nat} {f:Nat→α} {k:Nat} {s:List α} (h:Fill n f k s) (hk:k < n):Fill n f (k + 1) (s.set k (f k)):=by
 refine ⟨by simp [h.1],fun j hj=>?_⟩
 by_cases e:j=k
 ·subst e; simp [h.1,hk]
 ·rw [List.getElem?_set_ne (fun h=>e h.symm)]; exact h.2 j (by omega)
theorem Fill.all {α:Type} {n:Nat} {f:Nat→α} {s:List α} (h:Fill n f n s):s=(List.range n).map f:=by
 apply List.ext_getElem?
 intro j
 by_cases hj:j < n
 ·rw [h.2 j hj]; simp [hj]
 ·rw [List.getElem?_eq_none (by rw [h.1]; omega),List.getElem?_eq_none (by simp; omega)]
theorem idxO_D {α:Type} {xs:List α} {k:Nat} (d:α) (h:k < xs.length):idxO xs (k:Int)=some (xs.getD k d):=by
 rw [idxO_nat h]; simp [h]
theorem mul_bd {u v a b:Int} (u0:0 ≤ u) (u1:u ≤ a) (v0:0 ≤ v) (v1:v ≤ b):0 ≤ u * v∧u * v ≤ a * b:=
 ⟨Int.mul_nonneg u0 v0,Int.mul_le_mul u1 v1 v0 (by omega)⟩
theorem loop_seq {S τ:Type} {B:S→Option (S ⊕ τ)} (c:Nat→S) (n:Nat) {t:τ} (h:∀ k,k < n→B (c k)=some (.inl (c (k + 1)))) (hn:B (c n)=some (.inr t)):whileO B (c 0)=some t:=by
 have key:∀ j k,j + k=n→whileO B (c k)=some t:=by
  intro j
  induction j with
  | zero=>
   intro k hk
   obtain rfl:k=n:=by omega
   exact whileO_done hn
  | succ j ih=>
   intro k hk
   rw [whileO_step (h k (by omega))]
   exact ih _ (by omega)
 exact key n 0 (by omega)
theorem loop_seqf {S τ:Type} {B:S→Option (S ⊕ τ)} (c:Nat→S) (n:Nat) (g:Nat→Bool) {bad t:τ} (h:∀ k,k < n→(∀ j,j < k→g j=true)→B (c k)=some (if g k=true then .inl (c (k + 1)) else .inr bad)) (hn:(∀ j,j < n→g j=true)→B (c n)=some (.inr t)) :
 whileO B (c 0)=some (if (List.range n).all g=true then t else bad):=by
 have key:∀ j k,j + k=n→(∀ i,i < k→g i=true)→whileO B (c k)=some (if (List.range n).all g=true then t else bad):=by
  intro j
  induction j with
  | zero=>
   intro k hk hI
   obtain rfl:k=n:=by omega
   rw [whileO_done (hn hI),if_pos (List.all_eq_true.2 fun i hi=>hI i (List.mem_range.1 hi))]
  | succ j ih=>
   intro k hk hI
   have hb:=h k (by omega) hI
   cases hg:g k with
   | true=>
    rw [hg,if_pos rfl] at hb
    rw [whileO_step hb]
    refine ih _ (by omega) fun i hi=>?_
    by_cases e:i=k
    ·rw [e]; exact hg
    ·exact hI i (by omega)
   | false=>
    rw [hg,if_neg (by decide)] at hb
    rw [whileO_done hb,if_neg]
    intro ha
    have:=List.all_eq_true.1 ha k (List.mem_range.2 (by omega))
    rw [hg] at this; cases this
 exact key n 0 (by omega) fun i hi=>absurd hi (Nat.not_lt_zero i)
theorem loop_eql {α τ:Type} [DecidableEq α] {B:Int→Option (Int ⊕ τ)} (a b:List α) (hl:a.length=b.length) (good bad:τ)
 (h:∀ k (hk:k < a.length),B (k:Int)=some (if a[k]=b[k]'(by omega) then .inl ((k + 1:Nat):Int) else .inr bad)) (hn:B (a.length:Int)=some (.inr good)):whileO B 0=some (if a=b then good else bad):=by
 have:=loop_seqf (B:=B) (fun k=>(k:Int)) a.length (fun k=>decide (a[k]?=b[k]?)) (bad:=bad) (t:=good) (fun k hk _=>by
  rw [h k hk]
  by_cases e:a[k]=b[k]'(by omega)
  ·rw [if_pos e,if_pos]; exact decide_eq_true (by rw [List.getElem?_eq_getElem hk,List.getElem?_eq_getElem (by omega),e])
  ·rw [if_neg e,if_neg]; intro hc; have:=of_decide_eq_true hc; rw [List.getElem?_eq_getElem hk,List.getElem?_eq_getElem (by omega)] at this; exact e (Option.some.inj this)) (fun _=>hn)
 have h0:(((0:Nat):Int))=0:=rfl
 rw [h0] at this
 rw [this]
 congr 1
 by_cases e:a=b
 ·subst e; rw [if_pos rfl,if_pos]; simp
 ·rw [if_neg e,if_neg]
  intro hc
  refine e (List.ext_getElem? fun j=>?_)
  by_cases hj:j < a.length
  ·exact of_decide_eq_true (List.all_eq_true.1 hc j (List.mem_range.2 hj))
  ·rw [List.getElem?_eq_none (by omega),List.getElem?_eq_none (by omega)]
theorem wmul {a b:Nat} (h:a * b ≤ 9223372036854775807):w64 ((a:Int) * (b:Int))=((a * b:Nat):Int):=by
 rw [← Int.natCast_mul]; exact w64_of (by omega) (by omega)
theorem wadd {a b:Nat} (h:a + b ≤ 9223372036854775807):w64 ((a:Int) + (b:Int))=((a + b:Nat):Int):=by
 rw [← Int.natCast_add]; exact w64_of (by omega) (by omega)
theorem pl_lt {w h x y:Nat} (hx:x < w) (hy:y < h):y * w + x < w * h:=by
 have:=Nat.mul_le_mul_right w (show y + 1 ≤ h by omega)
 rw [Nat.add_mul,Nat.one_mul,Nat.mul_comm h w] at this
 omega
theorem pl_mod {w x y:Nat} (hx:x < w):(y * w + x) % w=x:=by rw [Nat.mul_comm,Nat.mul_add_mod,Nat.mod_eq_of_lt hx]
theorem pl_div {w x y:Nat} (hx:x < w):(y * w + x) / w=y:=by
 rw [Nat.mul_comm,Nat.mul_add_div (by omega),Nat.div_eq_of_lt hx,Nat.add_zero]
theorem pl_of (t w:Nat):(t / w) * w + t % w=t:=by rw [Nat.mul_comm]; exact Nat.div_add_mod t w
theorem pl_divlt {t w h:Nat} (ht:t < w * h):t / w < h:=Nat.div_lt_of_lt_mul ht
theorem pl_modlt {t w:Nat} (hw:0 < w):t % w < w:=Nat.mod_lt _ hw
def glf {α:Type} (f:Nat→Nat→α) (w n:Nat):List α:=(List.range n).map fun t=>f (t % w) (t / w)
def gl {α:Type} (f:Nat→Nat→α) (w h:Nat):List α:=glf f w (w * h)
theorem gl_len {α:Type} (f:Nat→Nat→α) (w h:Nat):(gl f w h).length=w * h:=by simp [gl,glf]
theorem glf_succ {α:Type} (f:Nat→Nat→α) (w n:Nat):glf f w (n + 1)=glf f w n ++ [f (n % w) (n / w)]:=by simp [glf,List.range_succ]
theorem gl_get {α:Type} (f:Nat→Nat→α) (w h:Nat) (d:α) (x y:Nat) (hx:x < w) (hy:y < h):(gl f w h).getD (y * w + x) d=f x y:=by
 have:=pl_lt hx hy
 simp only [gl,glf,List.getD_eq_getElem?_getD,List.getElem?_map,List.getElem?_range this,Option.map_some,Option.getD_some,pl_mod hx,pl_div hx]
theorem gl_cong {α:Type} {f f':Nat→Nat→α} {w h:Nat} (e:∀ x y,x < w→y < h→f x y=f' x y):gl f w h=gl f' w h:=by
 unfold gl glf
 refine map_cong fun t ht=>?_
 have hw:0 < w:=by rcases Nat.eq_zero_or_pos w with h0 | h0; rw [h0,Nat.zero_mul] at ht; omega; exact h0
 exact e _ _ (pl_modlt hw) (pl_divlt ht)
theorem gl_of {α:Type} {s:List α} {f:Nat→Nat→α} {w h:Nat} (d:α) (hl:s.length=w * h) (hc:∀ x y,x < w→y < h→s.getD (y * w + x) d=f x y):s=gl f w h:=by
 apply List.ext_getElem?
 intro t
 by_cases ht:t < w * h
 ·have hw:0 < w:=by rcases Nat.eq_zero_or_pos w with h0 | h0; rw [h0,Nat.zero_mul] at ht; omega; exact h0
  have:=hc _ _ (pl_modlt (t:=t) hw) (pl_divlt ht)
  rw [pl_of] at this
  rw [List.getElem?_eq_getElem (by omega)]
  simp only [gl,glf,List.getElem?_map,List.getElem?_range ht,Option.map_some,← this]
  simp [hl,ht]
 ·rw [List.getElem?_eq_none (by omega),List.getElem?_eq_none (by rw [gl_len]; omega)]
theorem loop2 {S1 S2 τ1:Type} {l1:Nat→S1→Option (S1 ⊕ τ1)} {τ2:Type} {l2:S2→Option (S2 ⊕ τ2)} (c1:Nat→Nat→S1) (c2:Nat→S2) (e1:Nat→τ1) (w h:Nat) {t:τ2}
 (h1:∀ y x,y < h→x < w→l1 y (c1 y x)=some (.inl (c1 y (x + 1)))) (h1e:∀ y,y < h→l1 y (c1 y w)=some (.inr (e1 y)))
 (h2:∀ y,y < h→whileO (l1 y) (c1 y 0)=some (e1 y)→l2 (c2 y)=some (.inl (c2 (y + 1)))) (h2e:l2 (c2 h)=some (.inr t)):whileO l2 (c2 0)=some t:=
 loop_seq c2 h (fun y hy=>h2 y hy (loop_seq (c1 y) w (fun x hx=>h1 y x hy hx) (h1e y hy))) h2e
theorem loop_same {τ:Type} {B:Int→Option (Int ⊕ τ)} (n:Nat) (good:τ) (h:∀ k,k < n→B (k:Int)=some (.inl ((k + 1:Nat):Int))) (hn:B (n:Int)=some (.inr good)):whileO B 0=some good:=
 loop_seq (fun k=>(k:Int)) n h hn
def sumN (F:Nat→Nat):Nat→Nat
 | 0=>0
 | n + 1=>sumN F n + F n
theorem sumN_cong {F G:Nat→Nat} {n:Nat} (h:∀ k,k < n→F k=G k):sumN F n=sumN G n:=by
 induction n with
 | zero=>rfl
 | succ n ih=>simp only [sumN]; rw [ih (fun k hk=>h k (by omega)),h n (by omega)]
theorem sumN_le {F G:Nat→Nat} {n:Nat} (h:∀ k,k < n→F k ≤ G k):sumN F n ≤ sumN G n:=by
 induction n with
 | zero=>exact Nat.le_refl _
 | succ n ih=>
  have h1:=ih (fun k hk=>h k (by omega))
  have h2:=h n (by omega)
  simp only [sumN]
  omega
theorem sumN_plus (F G:Nat→Nat) (n:Nat):sumN (fun k=>F k + G k) n=sumN F n + sumN G n:=by
 induction n with
 | zero=>rfl
 | succ n ih=>simp only [sumN,ih]; omega
theorem sumN_zero {F:Nat→Nat} {n:Nat}:sumN F n=0 ↔ ∀ k,k < n→F k=0:=by
 induction n with
 | zero=>exact ⟨fun _ k hk=>by omega,fun _=>rfl⟩
 | succ n ih=>
  simp only [sumN]
  constructor
  ·intro h k hk
   by_cases e:k=n
   ·subst e; omega
   ·exact ih.1 (by omega) k (by omega)
  ·intro h
   have h1:=ih.2 fun k hk=>h k (by omega)
   have h2:=h n (by omega)
   omega
theorem sumN_front (F:Nat→Nat) (n:Nat):sumN F (n + 1)=F 0 + sumN (fun k=>F (k + 1)) n:=by
 induction n with
 | zero=>simp [sumN]
 | succ n ih=>
  rw [show sumN F (n + 1 + 1)=sumN F (n + 1) + F (n + 1) from rfl,ih]
  simp only [sumN]
  omega
theorem sumN_rev (F:Nat→Nat) (n:Nat):sumN (fun k=>F (n - 1 - k)) n=sumN F n:=by
 induction n with
 | zero=>rfl
 | succ n ih=>
  rw [sumN_front]
  simp only [sumN]
  have:sumN (fun k=>F (n + 1 - 1 - (k + 1))) n=sumN (fun k=>F (n - 1 - k)) n:=sumN_cong fun k _=>by congr 1; omega
  rw [this,ih,show n + 1 - 1 - 0=n by omega,Nat.add_comm]
theorem sumN_swap (F:Nat→Nat→Nat) (n m:Nat):sumN (fun y=>sumN (fun x=>F x y) n) m=sumN (fun x=>sumN (fun y=>F x y) m) n:=by
 induction m with
 | zero=>
  have:sumN (fun x=>sumN (fun y=>F x y) 0) n=0:=sumN_zero.2 fun k _=>rfl
  rw [this]; rfl
 | succ m ih=>
  simp only [sumN]
  rw [ih,← sumN_plus]
theorem per_one {n:Nat} {G:Int→Nat} (hp:∀ X,G (X + n)=G X):sumN (fun x=>G ((x:Int) + 1)) n=sumN (fun x=>G (x:Int)) n:=by
 have h1:=sumN_front (fun x=>G (x:Int)) n
 have h2:sumN (fun x=>G (x:Int)) (n + 1)=sumN (fun x=>G (x:Int)) n + G (n:Int):=rfl
 have h3:=hp 0
 rw [Int.zero_add] at h3
 have h4:sumN (fun k=>G ((k + 1:Nat):Int)) n=sumN (fun x=>G ((x:Int) + 1)) n:=sumN_cong fun k _=>by congr 1
 rw [h4] at h1
 rw [h1] at h2
 have h5:G ((0:Nat):Int)=G 0:=rfl
 omega
theorem per_nat {n:Nat}:∀ (k:Nat) {G:Int→Nat} (_:∀ X,G (X + n)=G X),sumN (fun x=>G ((x:Int) + (k:Int))) n=sumN (fun x=>G (x:Int)) n:=by
 intro k
 induction k with
 | zero=>intro G _; exact sumN_cong fun x _=>by rw [show (x:Int) + ((0:Nat):Int)=x by omega]
 | succ k ih=>
  intro G hp
  have h1:=per_one (G:=fun X=>G (X + (k:Int))) (n:=n) (fun X=>by rw [show X + (n:Int) + (k:Int)=X + (k:Int) + (n:Int) by omega]; exact hp _)
  rw [← ih hp,← h1]
  exact sumN_cong fun x _=>by congr 1; omega
theorem per_sh {n:Nat} {G:Int→Nat} (hp:∀ X,G (X + n)=G X) (c:Int):sumN (fun x=>G ((x:Int) + c)) n=sumN (fun x=>G (x:Int)) n:=by
 obtain ⟨k,hk⟩:∃ k:Nat,c=k ∨ c=-(k:Int):=⟨c.natAbs,by omega⟩
 rcases hk with rfl | rfl
 ·exact per_nat k hp
 ·have h1:=per_nat k (G:=fun X=>G (X + -(k:Int))) (n:=n) (fun X=>by rw [show X + (n:Int) + -(k:Int)=X + -(k:Int) + (n:Int) by omega]; exact hp _)
  rw [← h1]
  exact sumN_cong fun x _=>by congr 1; omega
theorem per_neg {n:Nat} {G:Int→Nat} (hp:∀ X,G (X + n)=G X):sumN (fun x=>G (-(x:Int))) n=sumN (fun x=>G (x:Int)) n:=by
 have h1:=sumN_rev (fun x=>G (-(x:Int))) n
 have h2:=per_sh hp (1 - (n:Int))
 rw [← h1,← h2]
 exact sumN_cong fun x hx=>by congr 1; omega
def sg (b:Bool) (X:Int):Int:=if b=true then -X else X
theorem per_sg {n:Nat} {G:Int→Nat} (hp:∀ X,G (X + n)=G X) (b:Bool) (c:Int):sumN (fun x=>G (sg b (x:Int) + c)) n=sumN (fun x=>G (x:Int)) n:=by
 cases b with
 | false=>exact per_sh hp c
 | true=>
  have h1:=per_neg (G:=fun X=>G (X + c)) (n:=n) (fun X=>by rw [show X + (n:Int) + c=X + c + n by omega]; exact hp _)
  have h2:=per_sh hp c
  rw [← h2,← h1]
  rfl
def Per (w h:Nat) (f:Int→Int→Bool):Prop:=(∀ X Y,f (X + w) Y=f X Y)∧∀ X Y,f X (Y + h)=f X Y
def dst (w h:Nat) (f g:Int→Int→Bool):Nat:=sumN (fun y=>sumN (fun x=>if f x y=g x y then 0 else 1) w) h
theorem dst_sym (w h:Nat) (f g:Int→Int→Bool):dst w h f g=dst w h g f:=sumN_cong fun y _=>sumN_cong fun x _=>by
 by_cases e:f x y=g x y
 ·rw [if_pos e,if_pos e.symm]
 ·rw [if_neg e,if_neg fun q=>e q.symm]
theorem dst_tri (w h:Nat) (f g k:Int→Int→Bool):dst w h f k ≤ dst w h f g + dst w h g k:=by
 unfold dst
 rw [← sumN_plus]
 refine sumN_le fun y _=>?_
 rw [← sumN_plus]
 refine sumN_le fun x _=>?_
 cases f x y <;> cases g x y <;> cases k x y <;> decide
structure Mo where
 e:Bool
 p:Bool
 q:Bool
 c:Int
 d:Int
 s:Bool
def act (m:Mo) (f:Int→Int→Bool) (X Y:Int):Bool:=(if m.e=true then f (sg m.p Y + m.c) (sg m.q X + m.d) else f (sg m.p X + m.c) (sg m.q Y + m.d)) != m.s
theorem xr_eq (a b s:Bool):((a != s)=(b != s)) ↔ a=b:=by cases a <;> cases b <;> cases s <;> decide
theorem sg_add (b:Bool) (X n:Int):sg b (X + n)=sg b X + sg b n:=by cases b <;> simp [sg,Int.neg_add]
theorem act_dst {w h:Nat} {f g:Int→Int→Bool} (hf:Per w h f) (hg:Per w h g) (m:Mo) (hm:m.e=true→w=h):dst w h (act m f) (act m g)=dst w h f g:=by
 unfold dst act
 cases he:m.e with
 | false=>
  have h1:∀ y:Int,sumN (fun x=>if f (sg m.p (x:Int) + m.c) y=g (sg m.p (x:Int) + m.c) y then 0 else 1) w=sumN (fun x=>if f (x:Int) y=g (x:Int) y then 0 else 1) w:=fun y=>
   per_sg (G:=fun X=>if f X y=g X y then 0 else 1) (fun X=>by rw [hf.1,hg.1]) m.p m.c
  have h2:=per_sg (n:=h) (G:=fun Y=>sumN (fun x=>if f (x:Int) Y=g (x:Int) Y then 0 else 1) w) (fun Y=>sumN_cong fun x _=>by rw [hf.2,hg.2]) m.q m.d
  rw [← h2]
  refine sumN_cong fun y _=>?_
  rw [← h1]
  exact sumN_cong fun x _=>by simp only [Bool.false_eq_true,if_false,xr_eq]
 | true=>
  obtain rfl:=hm he
  have h1:∀ y:Int,sumN (fun x=>if f (sg m.p (x:Int) + m.c) y=g (sg m.p (x:Int) + m.c) y then 0 else 1) w=sumN (fun x=>if f (x:Int) y=g (x:Int) y then 0 else 1) w:=fun y=>
   per_sg (G:=fun X=>if f X y=g X y then 0 else 1) (fun X=>by rw [hf.1,hg.1]) m.p m.c
  have h2:=per_sg (n:=w) (G:=fun Y=>sumN (fun x=>if f (x:Int) Y=g (x:Int) Y then 0 else 1) w) (fun Y=>sumN_cong fun x _=>by rw [hf.2,hg.2]) m.q m.d
  rw [← h2,sumN_swap]
  refine sumN_cong fun y _=>?_
  rw [← h1]
  exact sumN_cong fun x _=>by simp only [if_true,xr_eq]
theorem act_per {w h:Nat} {f:Int→Int→Bool} (hf:Per w h f) (m:Mo) (hm:m.e=true→w=h):Per w h (act m f):=by
 have n1:∀ X Y,f (X + -(w:Int)) Y=f X Y:=fun X Y=>by rw [← hf.1 (X + -(w:Int)) Y]; congr 1; omega
 have n2:∀ X Y,f X (Y + -(h:Int))=f X Y:=fun X Y=>by rw [← hf.2 X (Y + -(h:Int))]; congr 1; omega
 have s1:∀ (b:Bool) (X c Y:Int),f (sg b (X + w) + c) Y=f (sg b X + c) Y:=by
  intro b X c Y
  rw [sg_add]
  cases b with
  | false=>rw [show sg false X + sg false (w:Int) + c=sg false X + c + w by simp [sg]; omega,hf.1]
  | true=>rw [show sg true X + sg true (w:Int) + c=sg true X + c + -(w:Int) by simp [sg]; omega,n1]
 have s2:∀ (b:Bool) (X Y c:Int),f X (sg b (Y + h) + c)=f X (sg b Y + c):=by
  intro b X Y c
  rw [sg_add]
  cases b with
  | false=>rw [show sg false Y + sg false (h:Int) + c=sg false Y + c + h by simp [sg]; omega,hf.2]
  | true=>rw [show sg true Y + sg true (h:Int) + c=sg true Y + c + -(h:Int) by simp [sg]; omega,n2]
 unfold act
 cases he:m.e with
 | false=>
  simp only [Bool.false_eq_true,if_false]
  exact ⟨fun X Y=>by dsimp only; rw [s1],fun X Y=>by dsimp only; rw [s2]⟩
 | true=>
  obtain rfl:=hm he
  simp only [if_true]
  exact ⟨fun X Y=>by dsimp only; rw [s2],fun X Y=>by dsimp only; rw [s1]⟩
def cmp (m k:Mo):Mo:=
 if m.e=true then
  (if k.e=true then ⟨false,k.p != m.q,k.q != m.p,sg k.p m.d + k.c,sg k.q m.c + k.d,k.s != m.s⟩
  else ⟨true,k.p != m.p,k.q != m.q,sg k.p m.c + k.c,sg k.q m.d + k.d,k.s != m.s⟩)
 else
  (if k.e=true then ⟨true,k.p != m.q,k.q != m.p,sg k.p m.d + k.c,sg k.q m.c + k.d,k.s != m.s⟩
  else ⟨false,k.p != m.p,k.q != m.q,sg k.p m.c + k.c,sg k.q m.d + k.d,k.s != m.s⟩)
theorem sg_sg (a b:Bool) (X c k:Int):sg a (sg b X + c) + k=sg (a != b) X + (sg a c + k):=by
 cases a <;> cases b <;> simp [sg] <;> omega
theorem xr_xr (a s t:Bool):((a != s) != t)=(a != (s != t)):=by cases a <;> cases s <;> cases t <;> rfl
theorem act_act (m k:Mo) (f:Int→Int→Bool):act m (act k f)=act (cmp m k) f:=by
 funext X Y
 obtain ⟨e1,p1,q1,c1,d1,s1⟩:=m
 obtain ⟨e2,p2,q2,c2,d2,s2⟩:=k
 unfold act cmp
 cases e1 <;> cases e2 <;> simp only [Bool.false_eq_true,if_false,if_true,sg_sg,xr_xr]
def inv (m:Mo):Mo:=if m.e=true then ⟨true,m.q,m.p,-sg m.q m.d,-sg m.p m.c,m.s⟩ else ⟨false,m.p,m.q,-sg m.p m.c,-sg m.q m.d,m.s⟩
theorem act_inv (m:Mo) (f:Int→Int→Bool):act (inv m) (act m f)=f:=by
 funext X Y
 obtain ⟨e1,p1,q1,c1,d1,s1⟩:=m
 rw [act_act]
 unfold act cmp inv
 cases e1 <;> simp only [Bool.false_eq_true,if_false,if_true,bne_self_eq_false]
 ·have i1:sg false X + (sg p1 (-sg p1 c1) + c1)=X:=by cases p1 <;> simp [sg] <;> omega
  have i2:sg false Y + (sg q1 (-sg q1 d1) + d1)=Y:=by cases q1 <;> simp [sg] <;> omega
  rw [i1,i2]
  cases f X Y <;> rfl
 ·have i1:sg false X + (sg p1 (-sg p1 c1) + c1)=X:=by cases p1 <;> simp [sg] <;> omega
  have i2:sg false Y + (sg q1 (-sg q1 d1) + d1)=Y:=by cases q1 <;> simp [sg] <;> omega
  rw [i1,i2]
  cases f X Y <;> rfl
def fm (f:Nat→Nat) (big:Nat):Nat→Nat × Nat
 | 0=>(big,0)
 | k + 1=>if f k < (fm f big k).1 then (f k,k) else fm f big k
theorem fm_le (f:Nat→Nat) (big n:Nat):∀ j,j < n→(fm f big n).1 ≤ f j:=by
 induction n with
 | zero=>intro j hj; omega
 | succ n ih=>
  intro j hj
  simp only [fm]
  by_cases c:f n < (fm f big n).1
  ·rw [if_pos c]
   by_cases e:j=n
   ·subst e; exact Nat.le_refl _
   ·have:=ih j (by omega); show f n ≤ f j; omega
  ·rw [if_neg c]
   by_cases e:j=n
   ·subst e; omega
   ·exact ih j (by omega)
theorem fm_at {f:Nat→Nat} {big n:Nat} (hn:0 < n) (h:∀ j,j < n→f j < big):(fm f big n).2 < n∧(fm f big n).1=f (fm f big n).2:=by
 induction n with
 | zero=>omega
 | succ n ih=>
  simp only [fm]
  by_cases c:f n < (fm f big n).1
  ·rw [if_pos c]; exact ⟨by show n < n + 1; omega,rfl⟩
  ·rw [if_neg c]
   cases n with
   | zero=>exact absurd (h 0 (by omega)) c
   | succ n=>
    obtain ⟨h1,h2⟩:=ih (by omega) fun j hj=>h j (by omega)
    exact ⟨by omega,h2⟩
theorem fm_stop {f:Nat→Nat} {big k:Nat} (h:(fm f big k).1=0):∀ n,fm f big (k + n)=fm f big k:=by
 intro n
 induction n with
 | zero=>rfl
 | succ n ih=>
  rw [← Nat.add_assoc]
  simp only [fm]
  rw [if_neg (by rw [ih,h]; omega),ih]
noncomputable def F_raddleref46_GreatGrid (p0:api_Grid):Option Bool:=
 Option.bind (α:=Bool) (
  if decide (36 < (p0.Bits.length:Int)) then
   if decide (p0.W ≤ 16) then
    if decide (p0.H ≤ 16) then
     some true
    else
     some (decide (4200 < (p0.Bits.length:Int)))
   else
    some (decide (4200 < (p0.Bits.length:Int)))
  else
   some (decide (4200 < (p0.Bits.length:Int)))) fun o7=>
 some o7
theorem c_raddleref46_GreatGrid (E:Nat→Prop) (w0:World) (p0:api_Grid) (v0:Value) (r:Bool) (h:F_raddleref46_GreatGrid p0=some r) (S:St0 E [] w0 w0 [] [fRep r_api_Grid (v0) p0]) :
 Calls Try.prog 12 #[v0] w0 (Ret (X:=Unit) E [] w0 (fun _=>.bool r) (fun _=>[]) (fun _=>[])):=by
 unfold F_raddleref46_GreatGrid at h
 obtain ⟨u1,rfl,a9⟩:=S.know (i:=0) (e:=fRep r_api_Grid (v0) p0) d
 have S:=S.learn (fRep (rL rB) u1 p0.Bits) a9
 obtain ⟨a7,a8,_,rfl,_⟩:=a9
 refine sEnter (args:=[.agg #[iv p0.W,iv p0.H,.slice a7 p0.Bits.length a8]]) 23 Try.func12 d d (by simp) S (fun a S=>?_)
 refine sSeq (fun K5 aa=>sRegion (sBox (v:=.agg #[iv p0.W,iv p0.H,.slice a7 p0.Bits.length a8]) S (wN d) d d [iv p0.W,iv p0.H,.slice a7 p0.Bits.length a8] d d (lb d) fun a b6 w S=>sN S fun a S=>?_))
 refine lT (aa _ _ ?_)
 obtain ⟨t8,h,g9⟩:=bS h
 refine sCut (fun a w=>∃ o7,o7=t8∧St [] E [] w0 23 a w [(2,.bool o7)] [] []) ?_ (fun a w hI=>?_)
 rotate_left
 ·obtain ⟨o7,rfl,S⟩:=hI
  have h:=g9
  try dsimp only at h
  obtain rfl:=tS h
  exact wp_ret (sRet (.bool o7) S (rsl1 d (rvT (t:=2) (v:=.bool o7) S d)) ⟨(),d,S.mem.sel [] [] (by decide) d d⟩)
 refine sRegion (sField (b:=b6) (off:=0) 2 2 S (wN d) d d d d d (lb d) fun a S=>sLoad1 0 (.slice a7 p0.Bits.length a8) S (wN d) d d d d d d (lb d) fun a S=>sLen S (wN d) d Try.underlying22 d d (lb d) fun a S=>sBin _ S (wN d) d d d (bGt _ _ _ _ .i64 (p0.Bits.length:Int) 36) d (lb d) fun a S=>sM S fun a S=>?_)
 rcases iS h with ⟨a5,h⟩ | ⟨a5,h⟩
 rotate_left
 ·refine sSkN 3 4 true 7 S d d a5 d fun a S=>sPickF (.bool false) S (wN d) d d a5 d d (lb d) fun a S=>sM S fun a S=>?_
  refine sSkN 3 9 true 12 S d d d d fun a S=>sPickF (.bool false) S (wN d) d d d d d (lb d) fun a S=>sM S fun a S=>?_
  refine sField (b:=b6) (off:=0) 2 2 S (wG 14 false 17 d d d d) d d d d d (lb d) fun a S=>sLoad1 0 (.slice a7 p0.Bits.length a8) S (wG 14 false 17 d d d d) d d d d d d (lb d) fun a S=>sLen S (wG 14 false 17 d d d d) d Try.underlying22 d d (lb d) fun a S=>sBin _ S (wG 14 false 17 d d d d) d d d (bGt _ _ _ _ .i64 (p0.Bits.length:Int) 4200) d (lb d) fun a S=>sPickF (.bool (decide (4200 < (p0.Bits.length:Int)))) S (wN d) d d d d d (lb d) fun a S=>sN S fun a S=>?_
  exact lT (⟨decide (4200 < (p0.Bits.length:Int)),Option.some.inj h,S.fix [] [] (by decide) d d d⟩)
 refine sField (b:=b6) (off:=0) 0 0 S (wG 4 true 7 d d d a5) d d d d d (lb d) fun a S=>sLoad1 0 (iv p0.W) S (wG 4 true 7 d d d a5) d d d d d d (lb d) fun a S=>sBin _ S (wG 4 true 7 d d d a5) d d d (bLe _ _ _ _ .i64 p0.W 16) d (lb d) fun a S=>sPickT (.bool (decide (p0.W ≤ 16))) S (wN d) d d a5 d d (lb d) fun a S=>sM S fun a S=>?_
 rcases iS h with ⟨a6,h⟩ | ⟨a6,h⟩
 rotate_left
 ·refine sSkN 3 9 true 12 S d d a6 d fun a S=>sPickF (.bool false) S (wN d) d d a6 d d (lb d) fun a S=>sM S fun a S=>?_
  refine sField (b:=b6) (off:=0) 2 2 S (wG 14 false 17 d d d d) d d d d d (lb d) fun a S=>sLoad1 0 (.slice a7 p0.Bits.length a8) S (wG 14 false 17 d d d d) d d d d d d (lb d) fun a S=>sLen S (wG 14 false 17 d d d d) d Try.underlying22 d d (lb d) fun a S=>sBin _ S (wG 14 false 17 d d d d) d d d (bGt _ _ _ _ .i64 (p0.Bits.length:Int) 4200) d (lb d) fun a S=>sPickF (.bool (decide (4200 < (p0.Bits.length:Int)))) S (wN d) d d d d d (lb d) fun a S=>sN S fun a S=>?_
  exact lT (⟨decide (4200 < (p0.Bits.length:Int)),Option.some.inj h,S.fix [] [] (by decide) d d d⟩)
 refine sField (b:=b6) (off:=0) 1 1 S (wG 9 true 12 d d d a6) d d d d d (lb d) fun a S=>sLoad1 0 (iv p0.H) S (wG 9 true 12 d d d a6) d d d d d d (lb d) fun a S=>sBin _ S (wG 9 true 12 d d d a6) d d d (bLe _ _ _ _ .i64 p0.H 16) d (lb d) fun a S=>sPickT (.bool (decide (p0.H ≤ 16))) S (wN d) d d a6 d d (lb d) fun a S=>sM S fun a S=>?_
 rcases iS h with ⟨a0,h⟩ | ⟨a0,h⟩
 ·refine sSkN 4 14 false 17 S d d a0 d fun a S=>sPickT (.bool true) S (wN d) d d a0 d d (lb d) fun a S=>sN S fun a S=>?_
  exact lT (⟨true,Option.some.inj h,S.fix [] [] (by decide) d d d⟩)
 refine sField (b:=b6) (off:=0) 2 2 S (wG 14 false 17 d d d a0) d d d d d (lb d) fun a S=>sLoad1 0 (.slice a7 p0.Bits.length a8) S (wG 14 false 17 d d d a0) d d d d d d (lb d) fun a S=>sLen S (wG 14 false 17 d d d a0) d Try.underlying22 d d (lb d) fun a S=>sBin _ S (wG 14 false 17 d d d a0) d d d (bGt _ _ _ _ .i64 (p0.Bits.length:Int) 4200) d (lb d) fun a S=>sPickF (.bool (decide (4200 < (p0.Bits.length:Int)))) S (wN d) d d a0 d d (lb d) fun a S=>sN S fun a S=>?_
 exact lT (⟨decide (4200 < (p0.Bits.length:Int)),Option.some.inj h,S.fix [] [] (by decide) d d d⟩)
noncomputable def F_raddleref01_Check (p0:api_Grid):Option Int:=
 Option.bind (α:=Bool) (
  if decide (64 < p0.W) then
   some true
  else
   some (decide (64 < p0.H))) fun o8=>
 if o8 then
  some 4
 else
  Option.bind (α:=Bool) (
   if decide (p0.W < 1) then
    some true
   else
    if decide (p0.H < 1) then
     some true
    else
     some ((p0.Bits.length:Int) != (w64 (p0.W * p0.H)))) fun a0=>
  if a0 then
   some 8
  else
   some 0
theorem c_raddleref01_Check (E:Nat→Prop) (w0:World) (p0:api_Grid) (v0:Value) (r:Int) (h:F_raddleref01_Check p0=some r) (S:St0 E [] w0 w0 [] [fRep r_api_Grid (v0) p0]) :
 Calls Try.prog 80 #[v0] w0 (Ret (X:=Unit) E [] w0 (fun _=>.int .i64 r) (fun _=>[]) (fun _=>[])):=by
 unfold F_raddleref01_Check at h
 obtain ⟨u1,rfl,ah⟩:=S.know (i:=0) (e:=fRep r_api_Grid (v0) p0) d
 have S:=S.learn (fRep (rL rB) u1 p0.Bits) ah
 obtain ⟨a9,aa,_,rfl,_⟩:=ah
 refine sEnter (args:=[.agg #[iv p0.W,iv p0.H,.slice a9 p0.Bits.length aa]]) 30 Try.func80 d d (by simp) S (fun a S=>?_)
 refine sSeq (fun K5 ai=>sRegion (sBox (v:=.agg #[iv p0.W,iv p0.H,.slice a9 p0.Bits.length aa]) S (wN d) d d [iv p0.W,iv p0.H,.slice a9 p0.Bits.length aa] d d (lb d) fun a b6 w S=>sN S fun a S=>?_))
 refine lT (ai _ _ (sSeq (fun K7 aj=>?_)))
 obtain ⟨t9,h,ak⟩:=bS h
 refine sCut (fun a w=>∃ o8,o8=t9∧St [] E [] w0 30 a w [(1,.pointer (some ⟨b6,0,none⟩)),(10,.bool o8)] [eBox b6 24 [iv p0.W,iv p0.H,.slice a9 p0.Bits.length aa]] [fRep (rL rB) (.slice a9 p0.Bits.length aa) p0.Bits]) ?_ (fun a w hI=>?_)
 ·refine sRegion (sField (b:=b6) (off:=0) 0 0 S (wN d) d d d d d (lb d) fun a S=>sLoad1 0 (iv p0.W) S (wN d) d d d d d d (lb d) fun a S=>sBin _ S (wN d) d d d (bGt _ _ _ _ .i64 p0.W 64) d (lb d) fun a S=>sM S fun a S=>?_)
  rcases iS h with ⟨a5,h⟩ | ⟨a5,h⟩
  ·refine sSkN 3 3 false 6 S d d a5 d fun a S=>sPickT (.bool true) S (wN d) d d a5 d d (lb d) fun a S=>?_
   exact lT (⟨true,Option.some.inj h,S.fix [0] [0] (by decide) d d d⟩)
  refine sField (b:=b6) (off:=0) 1 1 S (wG 3 false 6 d d d a5) d d d d d (lb d) fun a S=>sLoad1 0 (iv p0.H) S (wG 3 false 6 d d d a5) d d d d d d (lb d) fun a S=>sBin _ S (wG 3 false 6 d d d a5) d d d (bGt _ _ _ _ .i64 p0.H 64) d (lb d) fun a S=>sPickF (.bool (decide (64 < p0.H))) S (wN d) d d a5 d d (lb d) fun a S=>?_
  exact lT (⟨decide (64 < p0.H),Option.some.inj h,S.fix [0] [0] (by decide) d d d⟩)
 obtain ⟨o8,rfl,S⟩:=hI
 have h:=ak
 try dsimp only at h
 rcases iS h with ⟨a7,h⟩ | ⟨a7,h⟩
 ·refine sCondT S d a7 (sSeq (fun ao ab=>sRegion (sN S fun a S=>?_)))
  refine lT (ab _ _ ?_)
  obtain rfl:=tS h
  exact wp_ret (rThen (sRet (iv 4) S (rsl1 d (rvT (t:=2) (v:=iv 4) S d)) ⟨(),d,S.mem.sel [] [] (by decide) d d⟩))
 refine sCondF S d a7 (wp_skip (leafT (aj _ _ ?_)))
 refine sSeq (fun ap ac=>?_)
 obtain ⟨al,h,am⟩:=bS h
 refine sCut (fun a w=>∃ ae,ae=al∧St [] E [] w0 30 a w [(29,.bool ae)] [] []) ?_ (fun a w hI=>?_)
 rotate_left
 ·obtain ⟨ae,rfl,S⟩:=hI
  have h:=am
  try dsimp only at h
  rcases iS h with ⟨a8,h⟩ | ⟨a8,h⟩
  ·refine sCondT S d a8 (sSeq (fun aq af=>sRegion (sN S fun a S=>?_)))
   refine lT (af _ _ ?_)
   obtain rfl:=tS h
   exact wp_ret (rThen (sRet (iv 8) S (rsl1 d (rvT (t:=2) (v:=iv 8) S d)) ⟨(),d,S.mem.sel [] [] (by decide) d d⟩))
  refine sCondF S d a8 (wp_skip (leafT (ac _ _ ?_)))
  refine sSeq (fun ar ag=>sRegion (sN S fun a S=>?_))
  refine lT (ag _ _ ?_)
  obtain rfl:=tS h
  exact wp_ret (sRet (iv 0) S (rsl1 d (rvT (t:=2) (v:=iv 0) S d)) ⟨(),d,S.mem.sel [] [] (by decide) d d⟩)
 refine sRegion (sField (b:=b6) (off:=0) 0 0 S (wN d) d d d d d (lb d) fun a S=>sLoad1 0 (iv p0.W) S (wN d) d d d d d d (lb d) fun a S=>sBin _ S (wN d) d d d (bLt _ _ _ _ .i64 p0.W 1) d (lb d) fun a S=>sM S fun a S=>?_)
 rcases iS h with ⟨a6,h⟩ | ⟨a6,h⟩
 ·refine sSkN 3 3 false 14 S d d a6 d fun a S=>sPickT (.bool true) S (wN d) d d a6 d d (lb d) fun a S=>sM S fun a S=>?_
  refine sSkN 9 8 false 19 S d d d d fun a S=>sPickT (.bool true) S (wN d) d d d d d (lb d) fun a S=>?_
  exact lT (⟨true,Option.some.inj h,S.fix [] [] (by decide) d d d⟩)
 refine sField (b:=b6) (off:=0) 1 1 S (wG 3 false 14 d d d a6) d d d d d (lb d) fun a S=>sLoad1 0 (iv p0.H) S (wG 3 false 14 d d d a6) d d d d d d (lb d) fun a S=>sBin _ S (wG 3 false 14 d d d a6) d d d (bLt _ _ _ _ .i64 p0.H 1) d (lb d) fun a S=>sPickF (.bool (decide (p0.H < 1))) S (wN d) d d a6 d d (lb d) fun a S=>sM S fun a S=>?_
 rcases iS h with ⟨a0,h⟩ | ⟨a0,h⟩
 ·refine sSkN 9 8 false 19 S d d a0 d fun a S=>sPickT (.bool true) S (wN d) d d a0 d d (lb d) fun a S=>?_
  exact lT (⟨true,Option.some.inj h,S.fix [] [] (by decide) d d d⟩)
 refine sField (b:=b6) (off:=0) 2 2 S (wG 8 false 19 d d d a0) d d d d d (lb d) fun a S=>sLoad1 0 (.slice a9 p0.Bits.length aa) S (wG 8 false 19 d d d a0) d d d d d d (lb d) fun a S=>sLen S (wG 8 false 19 d d d a0) d Try.underlying22 d d (lb d) fun a S=>sField (b:=b6) (off:=0) 0 0 S (wG 8 false 19 d d d a0) d d d d d (lb d) fun a S=>sLoad1 0 (iv p0.W) S (wG 8 false 19 d d d a0) d d d d d d (lb d) fun a S=>sField (b:=b6) (off:=0) 1 1 S (wG 8 false 19 d d d a0) d d d d d (lb d) fun a S=>sLoad1 0 (iv p0.H) S (wG 8 false 19 d d d a0) d d d d d d (lb d) fun a S=>sBin _ S (wG 8 false 19 d d d a0) d d d (bMul _ _ _ _ p0.W p0.H) d (lb d) fun a S=>sBin _ S (wG 8 false 19 d d d a0) d d d (bNe _ _ _ _ .i64 (p0.Bits.length:Int) (w64 (p0.W * p0.H))) d (lb d) fun a S=>sPickF (.bool ((p0.Bits.length:Int) != (w64 (p0.W * p0.H)))) S (wN d) d d a0 d d (lb d) fun a S=>?_
 exact lT (⟨(p0.Bits.length:Int) != (w64 (p0.W * p0.H)),Option.some.inj h,S.fix [] [] (by decide) d d d⟩)
noncomputable def F_raddleref01_Both (p0:api_Grid) (p1:api_Grid):Option Int:=
 (F_raddleref01_Check p0).bind fun a0=>
 if a0 != 0 then
  some a0
 else
  (F_raddleref01_Check p1).bind fun a5=>
  some a5
theorem c_raddleref01_Both (E:Nat→Prop) (w0:World) (p0:api_Grid) (v0:Value) (p1:api_Grid) (v1:Value) (r:Int) (h:F_raddleref01_Both p0 p1=some r) (S:St0 E [] w0 w0 [] [fRep r_api_Grid (v0) p0,fRep r_api_Grid (v1) p1]) :
 Calls Try.prog 47 #[v0,v1] w0 (Ret (X:=Unit) E [] w0 (fun _=>.int .i64 r) (fun _=>[]) (fun _=>[])):=by
 unfold F_raddleref01_Both at h
 obtain ⟨u1,rfl,ai⟩:=S.know (i:=0) (e:=fRep r_api_Grid (v0) p0) d
 have S:=S.learn (fRep (rL rB) u1 p0.Bits) ai
 obtain ⟨a0,a5,_,rfl,_⟩:=ai
 obtain ⟨u5,rfl,aj⟩:=S.know (i:=2) (e:=fRep r_api_Grid (v1) p1) d
 have S:=S.learn (fRep (rL rB) u5 p1.Bits) aj
 obtain ⟨a6,a7,_,rfl,_⟩:=aj
 refine sEnter (args:=[.agg #[iv p0.W,iv p0.H,.slice a0 p0.Bits.length a5],.agg #[iv p1.W,iv p1.H,.slice a6 p1.Bits.length a7]]) 12 Try.func47 d d (by simp) S (fun a S=>?_)
 refine sSeq (fun K9 al=>sRegion (sBox (v:=.agg #[iv p0.W,iv p0.H,.slice a0 p0.Bits.length a5]) S (wN d) d d [iv p0.W,iv p0.H,.slice a0 p0.Bits.length a5] d d (lb d) fun a ak w S=>sBox (v:=.agg #[iv p1.W,iv p1.H,.slice a6 p1.Bits.length a7]) S (wN d) d d [iv p1.W,iv p1.H,.slice a6 p1.Bits.length a7] d d (lb d) fun a am w S=>sN S fun a S=>?_))
 refine lT (al _ _ (sSeq (fun ao ac=>sSeq (fun ap ae=>sRegion (sLoadN (p:=ak) (off:=0) (T:=24) (vs:=[iv p0.W,iv p0.H,.slice a0 p0.Bits.length a5]) 1 [iv p0.W,iv p0.H,.slice a0 p0.Bits.length a5] S (wN d) d d d d d d d (lb d) fun a S=>?_)))))
 obtain ⟨a8,aa,h⟩:=bS h
 have S1:=S.mem
 refine sCq [.agg #[iv p0.W,iv p0.H,.slice a0 p0.Bits.length a5]] (iv a8) S callee80 (S1.quiet [2] d) (fun E1 w1 S1=>c_raddleref01_Check E1 w1 p0 (.agg #[iv p0.W,iv p0.H,.slice a0 p0.Bits.length a5]) a8 aa S1) fun a w S=>?_
 refine sBin _ S (wN d) d d d (bNe _ _ _ _ .i64 a8 0) d (lb d) fun a S=>lT (ae _ _ ?_)
 rcases iS h with ⟨a9,h⟩ | ⟨a9,h⟩
 ·refine sCondT S d a9 (sSeq (fun aq af=>sRegion (sLoadN (p:=ak) (off:=0) (T:=24) (vs:=[iv p0.W,iv p0.H,.slice a0 p0.Bits.length a5]) 1 [iv p0.W,iv p0.H,.slice a0 p0.Bits.length a5] S (wN d) d d d d d d d (lb d) fun a S=>?_)))
  have S1:=S.mem
  refine sCq [.agg #[iv p0.W,iv p0.H,.slice a0 p0.Bits.length a5]] (iv a8) S callee80 (S1.quiet [2] d) (fun E1 w1 S1=>c_raddleref01_Check E1 w1 p0 (.agg #[iv p0.W,iv p0.H,.slice a0 p0.Bits.length a5]) a8 aa S1) fun a w S=>?_
  refine sN S fun a S=>?_
  refine lT (af _ _ ?_)
  obtain rfl:=tS h
  exact wp_ret (rThen (sRet (iv a8) S (rsl1 d (rvT (t:=4) (v:=iv a8) S d)) ⟨(),d,S.mem.sel [] [] (by decide) d d⟩))
 refine sCondF S d a9 (wp_skip (leafT (ac _ _ ?_)))
 refine sSeq (fun ar ag=>sRegion (sLoadN (p:=am) (off:=0) (T:=24) (vs:=[iv p1.W,iv p1.H,.slice a6 p1.Bits.length a7]) 0 [iv p1.W,iv p1.H,.slice a6 p1.Bits.length a7] S (wN d) d d d d d d d (lb d) fun a S=>?_))
 obtain ⟨ab,ah,h⟩:=bS h
 have S1:=S.mem
 refine sCq [.agg #[iv p1.W,iv p1.H,.slice a6 p1.Bits.length a7]] (iv ab) S callee80 (S1.quiet [3] d) (fun E1 w1 S1=>c_raddleref01_Check E1 w1 p1 (.agg #[iv p1.W,iv p1.H,.slice a6 p1.Bits.length a7]) ab ah S1) fun a w S=>?_
 refine sN S fun a S=>?_
 refine lT (ag _ _ ?_)
 obtain rfl:=tS h
 exact wp_ret (sRet (iv ab) S (rsl1 d (rvT (t:=4) (v:=iv ab) S d)) ⟨(),d,S.mem.sel [] [] (by decide) d d⟩)
noncomputable def raddleref46_differ_l1 (p0:api_Grid) (p1:api_Grid):(Int × Int)→Option ((Int × Int) ⊕ Int):=fun s0=>match s0 with
 | (a5,a0)=>
  if decide (a0 < (p0.Bits.length:Int)) then
   Option.bind (α:=Int) (
    (idxO p0.Bits a0).bind fun a6=>
    (idxO p1.Bits a0).bind fun a7=>
    if a6 != a7 then
     some (w64 (a5 + 1))
    else
     some a5) fun a8=>
   some (.inl (a8,w64 (a0 + 1)))
  else
   some (.inr a5)
noncomputable def F_raddleref46_differ (p0:api_Grid) (p1:api_Grid):Option Int:=
 Option.bind (α:=Int) (
  (whileO (raddleref46_differ_l1 p0 p1) (0,0)).bind fun a0=>
   some a0) fun a5=>
 some a5
noncomputable def F_raddleref46_Cells (p0:api_Grid) (p1:api_Grid):Option (Int × Int):=
 (F_raddleref01_Both p0 p1).bind fun a0=>
 if a0 != 0 then
  some (0,a0)
 else
  Option.bind (α:=Bool) (
   if p0.W != p1.W then
    some true
   else
    some (p0.H != p1.H)) fun a5=>
  if a5 then
   some (0,2)
  else
   (F_raddleref46_differ p0 p1).bind fun a6=>
   some (a6,0)
noncomputable def F_raddleref46_Start (p0:api_Grid) (p1:api_Grid) (p2:Int):Option Int:=
 (F_raddleref01_Both p0 p1).bind fun a0=>
 if a0 != 0 then
  some a0
 else
  Option.bind (α:=Bool) (
   if decide (16 < p0.W) then
    some true
   else
    if decide (16 < p0.H) then
     some true
    else
     if decide (16 < p1.W) then
      some true
     else
      some (decide (16 < p1.H))) fun a5=>
  if a5 then
   some 4
  else
   Option.bind (α:=Bool) (
    if decide (p2 < 0) then
     some true
    else
     if decide (3 < p2) then
      some true
     else
      if p0.W != p1.W then
       some true
      else
       if p0.H != p1.H then
        some true
       else
        if decide (1 < p2) then
         some (p0.W != p0.H)
        else
         some false) fun a6=>
   if a6 then
    some 2
   else
    some 0
theorem c_raddleref46_Start (E:Nat→Prop) (w0:World) (p0:api_Grid) (v0:Value) (p1:api_Grid) (v1:Value) (p2:Int) (r:Int) (h:F_raddleref46_Start p0 p1 p2=some r) (S:St0 E [] w0 w0 [] [fRep r_api_Grid (v0) p0,fRep r_api_Grid (v1) p1]) :
 Calls Try.prog 32 #[v0,v1,iv p2] w0 (Ret (X:=Unit) E [] w0 (fun _=>.int .i64 r) (fun _=>[]) (fun _=>[])):=by
 unfold F_raddleref46_Start at h
 obtain ⟨u1,rfl,aG⟩:=S.know (i:=0) (e:=fRep r_api_Grid (v0) p0) d
 have S:=S.learn (fRep (rL rB) u1 p0.Bits) aG
 obtain ⟨ac,ae,_,rfl,_⟩:=aG
 obtain ⟨u5,rfl,aH⟩:=S.know (i:=2) (e:=fRep r_api_Grid (v1) p1) d
 have S:=S.learn (fRep (rL rB) u5 p1.Bits) aH
 obtain ⟨af,ag,_,rfl,_⟩:=aH
 refine sEnter (args:=[.agg #[iv p0.W,iv p0.H,.slice ac p0.Bits.length ae],.agg #[iv p1.W,iv p1.H,.slice af p1.Bits.length ag],iv p2]) 63 Try.func32 d d (by simp) S (fun a S=>?_)
 refine sSeq (fun K9 aI=>sRegion (sBox (v:=.agg #[iv p0.W,iv p0.H,.slice ac p0.Bits.length ae]) S (wN d) d d [iv p0.W,iv p0.H,.slice ac p0.Bits.length ae] d d (lb d) fun a ah w S=>sBox (v:=.agg #[iv p1.W,iv p1.H,.slice af p1.Bits.length ag]) S (wN d) d d [iv p1.W,iv p1.H,.slice af p1.Bits.length ag] d d (lb d) fun a ai w S=>sN S fun a S=>?_))
 refine lT (aI _ _ (sSeq (fun aO ao=>sSeq (fun aP ap=>sRegion (sLoadN (p:=ah) (off:=0) (T:=24) (vs:=[iv p0.W,iv p0.H,.slice ac p0.Bits.length ae]) 1 [iv p0.W,iv p0.H,.slice ac p0.Bits.length ae] S (wN d) d d d d d d d (lb d) fun a S=>sLoadN (p:=ai) (off:=0) (T:=24) (vs:=[iv p1.W,iv p1.H,.slice af p1.Bits.length ag]) 0 [iv p1.W,iv p1.H,.slice af p1.Bits.length ag] S (wN d) d d d d d d d (lb d) fun a S=>?_)))))
 obtain ⟨am,aq,h⟩:=bS h
 have S1:=S.mem
 refine sCq [.agg #[iv p0.W,iv p0.H,.slice ac p0.Bits.length ae],.agg #[iv p1.W,iv p1.H,.slice af p1.Bits.length ag]] (iv am) S callee47 (S1.quiet [2,3] d) (fun E1 w1 S1=>c_raddleref01_Both E1 w1 p0 (.agg #[iv p0.W,iv p0.H,.slice ac p0.Bits.length ae]) p1 (.agg #[iv p1.W,iv p1.H,.slice af p1.Bits.length ag]) am aq S1) fun a w S=>?_
 refine sN S fun a S=>?_
 refine lT (ap _ _ (sSeq (fun aQ ar=>sRegion (sM S fun a S=>?_))))
 refine sBin _ S (wN d) d d d (bNe _ _ _ _ .i64 am 0) d (lb d) fun a S=>lT (ar _ _ ?_)
 rcases iS h with ⟨aj,h⟩ | ⟨aj,h⟩
 ·refine sCondT S d aj (sSeq (fun aR au=>sRegion (sM S fun a S=>?_)))
  refine sN S fun a S=>?_
  refine lT (au _ _ ?_)
  obtain rfl:=tS h
  exact wp_ret (rThen (sRet (iv am) S (rsl1 d (rvT (t:=6) (v:=iv am) S d)) ⟨(),d,S.mem.sel [] [] (by decide) d d⟩))
 refine sCondF S d aj (wp_skip (leafT (ao _ _ ?_)))
 refine sSeq (fun aS av=>?_)
 obtain ⟨aJ,h,aK⟩:=bS h
 refine sCut (fun a w=>∃ aw,aw=aJ∧St [] E [] w0 63 a w [(2,iv p2),(3,.pointer (some ⟨ah,0,none⟩)),(4,.pointer (some ⟨ai,0,none⟩)),(31,.bool aw)] [eBox ah 24 [iv p0.W,iv p0.H,.slice ac p0.Bits.length ae],eBox ai 24 [iv p1.W,iv p1.H,.slice af p1.Bits.length ag]] [fRep (rL rB) (.slice ac p0.Bits.length ae) p0.Bits,fRep (rL rB) (.slice af p1.Bits.length ag) p1.Bits]) ?_ (fun a w hI=>?_)
 ·refine sRegion (sField (b:=ah) (off:=0) 0 0 S (wN d) d d d d d (lb d) fun a S=>sLoad1 1 (iv p0.W) S (wN d) d d d d d d (lb d) fun a S=>sBin _ S (wN d) d d d (bGt _ _ _ _ .i64 p0.W 16) d (lb d) fun a S=>sM S fun a S=>?_)
  rcases iS h with ⟨a8,h⟩ | ⟨a8,h⟩
  ·refine sSkN 3 3 false 17 S d d a8 d fun a S=>sPickT (.bool true) S (wN d) d d a8 d d (lb d) fun a S=>sM S fun a S=>?_
   refine sSkN 3 8 false 22 S d d d d fun a S=>sPickT (.bool true) S (wN d) d d d d d (lb d) fun a S=>sM S fun a S=>?_
   refine sSkN 3 13 false 27 S d d d d fun a S=>sPickT (.bool true) S (wN d) d d d d d (lb d) fun a S=>?_
   exact lT (⟨true,Option.some.inj h,S.fix [1,0] [1,0] (by decide) d d d⟩)
  refine sField (b:=ah) (off:=0) 1 1 S (wG 3 false 17 d d d a8) d d d d d (lb d) fun a S=>sLoad1 1 (iv p0.H) S (wG 3 false 17 d d d a8) d d d d d d (lb d) fun a S=>sBin _ S (wG 3 false 17 d d d a8) d d d (bGt _ _ _ _ .i64 p0.H 16) d (lb d) fun a S=>sPickF (.bool (decide (16 < p0.H))) S (wN d) d d a8 d d (lb d) fun a S=>sM S fun a S=>?_
  rcases iS h with ⟨a9,h⟩ | ⟨a9,h⟩
  ·refine sSkN 3 8 false 22 S d d a9 d fun a S=>sPickT (.bool true) S (wN d) d d a9 d d (lb d) fun a S=>sM S fun a S=>?_
   refine sSkN 3 13 false 27 S d d d d fun a S=>sPickT (.bool true) S (wN d) d d d d d (lb d) fun a S=>?_
   exact lT (⟨true,Option.some.inj h,S.fix [1,0] [1,0] (by decide) d d d⟩)
  refine sField (b:=ai) (off:=0) 0 0 S (wG 8 false 22 d d d a9) d d d d d (lb d) fun a S=>sLoad1 0 (iv p1.W) S (wG 8 false 22 d d d a9) d d d d d d (lb d) fun a S=>sBin _ S (wG 8 false 22 d d d a9) d d d (bGt _ _ _ _ .i64 p1.W 16) d (lb d) fun a S=>sPickF (.bool (decide (16 < p1.W))) S (wN d) d d a9 d d (lb d) fun a S=>sM S fun a S=>?_
  rcases iS h with ⟨aa,h⟩ | ⟨aa,h⟩
  ·refine sSkN 3 13 false 27 S d d aa d fun a S=>sPickT (.bool true) S (wN d) d d aa d d (lb d) fun a S=>?_
   exact lT (⟨true,Option.some.inj h,S.fix [1,0] [1,0] (by decide) d d d⟩)
  refine sField (b:=ai) (off:=0) 1 1 S (wG 13 false 27 d d d aa) d d d d d (lb d) fun a S=>sLoad1 0 (iv p1.H) S (wG 13 false 27 d d d aa) d d d d d d (lb d) fun a S=>sBin _ S (wG 13 false 27 d d d aa) d d d (bGt _ _ _ _ .i64 p1.H 16) d (lb d) fun a S=>sPickF (.bool (decide (16 < p1.H))) S (wN d) d d aa d d (lb d) fun a S=>?_
  exact lT (⟨decide (16 < p1.H),Option.some.inj h,S.fix [1,0] [1,0] (by decide) d d d⟩)
 obtain ⟨aw,rfl,S⟩:=hI
 have h:=aK
 try dsimp only at h
 rcases iS h with ⟨ak,h⟩ | ⟨ak,h⟩
 ·refine sCondT S d ak (sSeq (fun aT ax=>sRegion (sN S fun a S=>?_)))
  refine lT (ax _ _ ?_)
  obtain rfl:=tS h
  exact wp_ret (rThen (sRet (iv 4) S (rsl1 d (rvT (t:=6) (v:=iv 4) S d)) ⟨(),d,S.mem.sel [] [] (by decide) d d⟩))
 refine sCondF S d ak (wp_skip (leafT (av _ _ ?_)))
 refine sSeq (fun aU ay=>?_)
 obtain ⟨aL,h,aM⟩:=bS h
 refine sCut (fun a w=>∃ az,az=aL∧St [] E [] w0 63 a w [(62,.bool az)] [] []) ?_ (fun a w hI=>?_)
 rotate_left
 ·obtain ⟨az,rfl,S⟩:=hI
  have h:=aM
  try dsimp only at h
  rcases iS h with ⟨al,h⟩ | ⟨al,h⟩
  ·refine sCondT S d al (sSeq (fun aV aA=>sRegion (sN S fun a S=>?_)))
   refine lT (aA _ _ ?_)
   obtain rfl:=tS h
   exact wp_ret (rThen (sRet (iv 2) S (rsl1 d (rvT (t:=6) (v:=iv 2) S d)) ⟨(),d,S.mem.sel [] [] (by decide) d d⟩))
  refine sCondF S d al (wp_skip (leafT (ay _ _ ?_)))
  refine sSeq (fun aW aC=>sRegion (sN S fun a S=>?_))
  refine lT (aC _ _ ?_)
  obtain rfl:=tS h
  exact wp_ret (sRet (iv 0) S (rsl1 d (rvT (t:=6) (v:=iv 0) S d)) ⟨(),d,S.mem.sel [] [] (by decide) d d⟩)
 refine sRegion (sM S fun a S=>?_)
 refine sBin _ S (wN d) d d d (bLt _ _ _ _ .i64 p2 0) d (lb d) fun a S=>sM S fun a S=>?_
 rcases iS h with ⟨ab,h⟩ | ⟨ab,h⟩
 ·refine sSkN 2 2 false 34 S d d ab d fun a S=>sPickT (.bool true) S (wN d) d d ab d d (lb d) fun a S=>sM S fun a S=>?_
  refine sSkN 5 6 false 38 S d d d d fun a S=>sPickT (.bool true) S (wN d) d d d d d (lb d) fun a S=>sM S fun a S=>?_
  refine sSkN 5 13 false 45 S d d d d fun a S=>sPickT (.bool true) S (wN d) d d d d d (lb d) fun a S=>sM S fun a S=>?_
  refine sSkN 3 20 false 52 S d d d d fun a S=>sSkipU 23 true 55 56 S d d d d (lb d) fun a S=>?_
  refine sSkipU 23 true 55 57 S d d d d (lb d) fun a S=>?_
  refine sSkipU 23 true 55 58 S d d d d (lb d) fun a S=>?_
  refine sSkipU 23 true 55 59 S d d d d (lb d) fun a S=>?_
  refine sSkipU 23 true 55 60 S d d d d (lb d) fun a S=>?_
  refine sSk S d d d d d d fun a S=>sPickT (.bool true) S (wN d) d d d d d (lb d) fun a S=>?_
  exact lT (⟨true,Option.some.inj h,S.fix [] [] (by decide) d d d⟩)
 refine sMove (iv p2) S (wG 2 false 34 d d d ab) (.inl d) d d (lb d) fun a S=>sBin _ S (wG 2 false 34 d d d ab) d d d (bGt _ _ _ _ .i64 p2 3) d (lb d) fun a S=>sPickF (.bool (decide (3 < p2))) S (wN d) d d ab d d (lb d) fun a S=>sM S fun a S=>?_
 rcases iS h with ⟨a5,h⟩ | ⟨a5,h⟩
 ·refine sSkN 5 6 false 38 S d d a5 d fun a S=>sPickT (.bool true) S (wN d) d d a5 d d (lb d) fun a S=>sM S fun a S=>?_
  refine sSkN 5 13 false 45 S d d d d fun a S=>sPickT (.bool true) S (wN d) d d d d d (lb d) fun a S=>sM S fun a S=>?_
  refine sSkN 3 20 false 52 S d d d d fun a S=>sSkipU 23 true 55 56 S d d d d (lb d) fun a S=>?_
  refine sSkipU 23 true 55 57 S d d d d (lb d) fun a S=>?_
  refine sSkipU 23 true 55 58 S d d d d (lb d) fun a S=>?_
  refine sSkipU 23 true 55 59 S d d d d (lb d) fun a S=>?_
  refine sSkipU 23 true 55 60 S d d d d (lb d) fun a S=>?_
  refine sSk S d d d d d d fun a S=>sPickT (.bool true) S (wN d) d d d d d (lb d) fun a S=>?_
  exact lT (⟨true,Option.some.inj h,S.fix [] [] (by decide) d d d⟩)
 refine sField (b:=ah) (off:=0) 0 0 S (wG 6 false 38 d d d a5) d d d d d (lb d) fun a S=>sLoad1 0 (iv p0.W) S (wG 6 false 38 d d d a5) d d d d d d (lb d) fun a S=>sField (b:=ai) (off:=0) 0 0 S (wG 6 false 38 d d d a5) d d d d d (lb d) fun a S=>sLoad1 1 (iv p1.W) S (wG 6 false 38 d d d a5) d d d d d d (lb d) fun a S=>sBin _ S (wG 6 false 38 d d d a5) d d d (bNe _ _ _ _ .i64 p0.W p1.W) d (lb d) fun a S=>sPickF (.bool (p0.W != p1.W)) S (wN d) d d a5 d d (lb d) fun a S=>sM S fun a S=>?_
 rcases iS h with ⟨a6,h⟩ | ⟨a6,h⟩
 ·refine sSkN 5 13 false 45 S d d a6 d fun a S=>sPickT (.bool true) S (wN d) d d a6 d d (lb d) fun a S=>sM S fun a S=>?_
  refine sSkN 3 20 false 52 S d d d d fun a S=>sSkipU 23 true 55 56 S d d d d (lb d) fun a S=>?_
  refine sSkipU 23 true 55 57 S d d d d (lb d) fun a S=>?_
  refine sSkipU 23 true 55 58 S d d d d (lb d) fun a S=>?_
  refine sSkipU 23 true 55 59 S d d d d (lb d) fun a S=>?_
  refine sSkipU 23 true 55 60 S d d d d (lb d) fun a S=>?_
  refine sSk S d d d d d d fun a S=>sPickT (.bool true) S (wN d) d d d d d (lb d) fun a S=>?_
  exact lT (⟨true,Option.some.inj h,S.fix [] [] (by decide) d d d⟩)
 refine sField (b:=ah) (off:=0) 1 1 S (wG 13 false 45 d d d a6) d d d d d (lb d) fun a S=>sLoad1 0 (iv p0.H) S (wG 13 false 45 d d d a6) d d d d d d (lb d) fun a S=>sField (b:=ai) (off:=0) 1 1 S (wG 13 false 45 d d d a6) d d d d d (lb d) fun a S=>sLoad1 1 (iv p1.H) S (wG 13 false 45 d d d a6) d d d d d d (lb d) fun a S=>sBin _ S (wG 13 false 45 d d d a6) d d d (bNe _ _ _ _ .i64 p0.H p1.H) d (lb d) fun a S=>sPickF (.bool (p0.H != p1.H)) S (wN d) d d a6 d d (lb d) fun a S=>sM S fun a S=>?_
 rcases iS h with ⟨a0,h⟩ | ⟨a0,h⟩
 ·refine sSkN 3 20 false 52 S d d a0 d fun a S=>sSkipU 23 true 55 56 S d d d d (lb d) fun a S=>?_
  refine sSkipU 23 true 55 57 S d d d d (lb d) fun a S=>?_
  refine sSkipU 23 true 55 58 S d d d d (lb d) fun a S=>?_
  refine sSkipU 23 true 55 59 S d d d d (lb d) fun a S=>?_
  refine sSkipU 23 true 55 60 S d d d d (lb d) fun a S=>?_
  refine sSk S d d d a0 d d fun a S=>sPickT (.bool true) S (wN d) d d a0 d d (lb d) fun a S=>?_
  exact lT (⟨true,Option.some.inj h,S.fix [] [] (by decide) d d d⟩)
 refine sMove (iv p2) S (wG 20 false 52 d d d a0) (.inl d) d d (lb d) fun a S=>sBin _ S (wG 20 false 52 d d d a0) d d d (bGt _ _ _ _ .i64 p2 1) d (lb d) fun a S=>sMove (.bool (decide (1 < p2))) S (wG 20 false 52 d d d a0) (.inl d) d d (lb d) fun a S=>?_
 rcases iS h with ⟨a7,h⟩ | ⟨a7,h⟩
 rotate_left
 ·refine sSkN 5 23 true 55 S d d a7 d fun a S=>sPickF (.bool false) S (wG 20 false 52 d d d a0) d d a7 d d (lb d) fun a S=>sPickF (.bool false) S (wN d) d d a0 d d (lb d) fun a S=>?_
  exact lT (⟨false,Option.some.inj h,S.fix [] [] (by decide) d d d⟩)
 refine sField (b:=ah) (off:=0) 0 0 S (wG 23 true 55 d d d a7) d d d d d (lb d) fun a S=>sLoad1 0 (iv p0.W) S (wG 23 true 55 d d d a7) d d d d d d (lb d) fun a S=>sField (b:=ah) (off:=0) 1 1 S (wG 23 true 55 d d d a7) d d d d d (lb d) fun a S=>sLoad1 0 (iv p0.H) S (wG 23 true 55 d d d a7) d d d d d d (lb d) fun a S=>sBin _ S (wG 23 true 55 d d d a7) d d d (bNe _ _ _ _ .i64 p0.W p0.H) d (lb d) fun a S=>sPickT (.bool (p0.W != p0.H)) S (wG 20 false 52 d d d a0) d d a7 d d (lb d) fun a S=>sPickF (.bool (p0.W != p0.H)) S (wN d) d d a0 d d (lb d) fun a S=>?_
 exact lT (⟨p0.W != p0.H,Option.some.inj h,S.fix [] [] (by decide) d d d⟩)
noncomputable def F_raddleref46_Last (p0:Int):Option Int:=
 if p0 == 0 then
  some 0
 else
  if p0 == 1 then
   some 3
  else
   if p0 == 2 then
    some 7
   else
    some 15
theorem c_raddleref46_Last (E:Nat→Prop) (w0:World) (p0:Int) (r:Int) (h:F_raddleref46_Last p0=some r) (S:St0 E [] w0 w0 [] []) :
 Calls Try.prog 35 #[iv p0] w0 (Ret (X:=Unit) E [] w0 (fun _=>.int .i64 r) (fun _=>[]) (fun _=>[])):=by
 unfold F_raddleref46_Last at h
 refine sEnter (args:=[iv p0]) 10 Try.func35 d d (by simp) S (fun a S=>?_)
 refine sSeq (fun K1 aa=>sRegion (sN S fun a S=>?_))
 refine lT (aa _ _ (sSeq (fun K2 ab=>sSeq (fun K3 ac=>sRegion (sM S fun a S=>?_)))))
 refine lT (ac _ _ (wp_block ?_))
 refine sSeq (fun K4 ae=>sRegion (sBin _ S (wN d) d d d (bEq _ _ _ _ .i64 p0 0) d (lb d) fun a S=>sN S fun a S=>?_))
 refine lT (ae _ _ ?_)
 rcases iS h with ⟨a5,h⟩ | ⟨a5,h⟩
 ·refine sCondT S d a5 (sSeq (fun K6 af=>sRegion (sN S fun a S=>?_)))
  refine lT (af _ _ ?_)
  obtain rfl:=tS h
  exact wp_ret (rBlock (rThen (sRet (iv 0) S (rsl1 d (rvT (t:=2) (v:=iv 0) S d)) ⟨(),d,S.mem.sel [] [] (by decide) d d⟩)))
 refine sCondF S d a5 (sSeq (fun K7 ag=>sRegion (sBin _ S (wN d) d d d (bEq _ _ _ _ .i64 p0 1) d (lb d) fun a S=>sN S fun a S=>?_)))
 refine lT (ag _ _ ?_)
 rcases iS h with ⟨a6,h⟩ | ⟨a6,h⟩
 ·refine sCondT S d a6 (sSeq (fun K9 ah=>sRegion (sN S fun a S=>?_)))
  refine lT (ah _ _ ?_)
  obtain rfl:=tS h
  exact wp_ret (rBlock (rThen (sRet (iv 3) S (rsl1 d (rvT (t:=2) (v:=iv 3) S d)) ⟨(),d,S.mem.sel [] [] (by decide) d d⟩)))
 refine sCondF S d a6 (sSeq (fun ai a7=>sRegion (sBin _ S (wN d) d d d (bEq _ _ _ _ .i64 p0 2) d (lb d) fun a S=>sN S fun a S=>?_)))
 refine lT (a7 _ _ ?_)
 rcases iS h with ⟨a0,h⟩ | ⟨a0,h⟩
 ·refine sCondT S d a0 (sSeq (fun aj a8=>sRegion (sN S fun a S=>?_)))
  refine lT (a8 _ _ ?_)
  obtain rfl:=tS h
  exact wp_ret (rBlock (rThen (sRet (iv 7) S (rsl1 d (rvT (t:=2) (v:=iv 7) S d)) ⟨(),d,S.mem.sel [] [] (by decide) d d⟩)))
 refine sCondF S d a0 (wp_skip (leafB (leafT (ab _ _ ?_))))
 refine sSeq (fun ak a9=>sRegion (sN S fun a S=>?_))
 refine lT (a9 _ _ ?_)
 obtain rfl:=tS h
 exact wp_ret (sRet (iv 15) S (rsl1 d (rvT (t:=2) (v:=iv 15) S d)) ⟨(),d,S.mem.sel [] [] (by decide) d d⟩)
def anc_raddleref01_Same_0:List (List Nat):=[[],[0],[],[0,1,2],[0,1,2,3],[],[5],[],[5,6,7],[5,6,7,8],[0,1,2,3,4,5,6,7,8,9]]
noncomputable def raddleref01_Same_l1 (p0:api_Grid) (p1:api_Grid):Int→Option (Int ⊕ (Bool ⊕ Unit)):=fun s0=>match s0 with
 | a0=>
  if decide (a0 < (p0.Bits.length:Int)) then
   (idxO p0.Bits a0).bind fun a5=>
   (idxO p1.Bits a0).bind fun a6=>
   if a5 != a6 then
    some (.inr (.inl false))
   else
    some (.inl (w64 (a0 + 1)))
  else
   some (.inr (.inr ()))
noncomputable def F_raddleref01_Same (p0:api_Grid) (p1:api_Grid):Option Bool:=
 Option.bind (α:=Bool) (
  if p0.W != p1.W then
   some true
  else
   if p0.H != p1.H then
    some true
   else
    some ((p0.Bits.length:Int) != (p1.Bits.length:Int))) fun a0=>
 if a0 then
  some false
 else
  Option.bind (α:=Unit ⊕ Bool) (
   (whileO (raddleref01_Same_l1 p0 p1) 0).bind fun z0=>match z0 with
    | .inl z=>
     some (.inr z)
    | .inr _=>
     some (.inl ())) fun z0=>match z0 with
   | .inl _=>
    some true
   | .inr z=>
    some z
theorem c_raddleref01_Same (E:Nat→Prop) (w0:World) (p0:api_Grid) (v0:Value) (p1:api_Grid) (v1:Value) (r:Bool) (h:F_raddleref01_Same p0 p1=some r) (S:St0 E [] w0 w0 [] [fRep r_api_Grid (v0) p0,fRep r_api_Grid (v1) p1]) :
 Calls Try.prog 18 #[v0,v1] w0 (Ret (X:=Unit) E [] w0 (fun _=>.bool r) (fun _=>[]) (fun _=>[])):=by
 unfold F_raddleref01_Same at h
 obtain ⟨u1,rfl,aH⟩:=S.know (i:=0) (e:=fRep r_api_Grid (v0) p0) d
 have S:=S.learn (fRep (rL rB) u1 p0.Bits) aH
 obtain ⟨a6,a7,_,rfl,_⟩:=aH
 obtain ⟨u5,rfl,aI⟩:=S.know (i:=2) (e:=fRep r_api_Grid (v1) p1) d
 have S:=S.learn (fRep (rL rB) u5 p1.Bits) aI
 obtain ⟨a8,a9,_,rfl,_⟩:=aI
 refine sEnter (args:=[.agg #[iv p0.W,iv p0.H,.slice a6 p0.Bits.length a7],.agg #[iv p1.W,iv p1.H,.slice a8 p1.Bits.length a9]]) 45 Try.func18 d d (by simp) S (fun a S=>?_)
 refine sSeq (fun K9 aO=>sRegion (sBox (v:=.agg #[iv p0.W,iv p0.H,.slice a6 p0.Bits.length a7]) S (wN d) d d [iv p0.W,iv p0.H,.slice a6 p0.Bits.length a7] d d (lb d) fun a aa w S=>sBox (v:=.agg #[iv p1.W,iv p1.H,.slice a8 p1.Bits.length a9]) S (wN d) d d [iv p1.W,iv p1.H,.slice a8 p1.Bits.length a9] d d (lb d) fun a ab w S=>sN S fun a S=>?_))
 refine lT (aO _ _ (sSeq (fun aS ak=>?_)))
 obtain ⟨aP,h,aQ⟩:=bS h
 refine sCut (fun a w=>∃ al,al=aP∧St [] E [] w0 45 a w [(2,.pointer (some ⟨aa,0,none⟩)),(3,.pointer (some ⟨ab,0,none⟩)),(26,.bool al)] [eBox aa 24 [iv p0.W,iv p0.H,.slice a6 p0.Bits.length a7],eBox ab 24 [iv p1.W,iv p1.H,.slice a8 p1.Bits.length a9]] [fRep (rL rB) (.slice a6 p0.Bits.length a7) p0.Bits,fRep (rL rB) (.slice a8 p1.Bits.length a9) p1.Bits]) ?_ (fun a w hI=>?_)
 ·refine sRegion (sField (b:=aa) (off:=0) 0 0 S (wN d) d d d d d (lb d) fun a S=>sLoad1 1 (iv p0.W) S (wN d) d d d d d d (lb d) fun a S=>sField (b:=ab) (off:=0) 0 0 S (wN d) d d d d d (lb d) fun a S=>sLoad1 0 (iv p1.W) S (wN d) d d d d d d (lb d) fun a S=>sBin _ S (wN d) d d d (bNe _ _ _ _ .i64 p0.W p1.W) d (lb d) fun a S=>sM S fun a S=>?_)
  rcases iS h with ⟨a5,h⟩ | ⟨a5,h⟩
  ·refine sSkN 5 5 false 11 S d d a5 d fun a S=>sPickT (.bool true) S (wN d) d d a5 d d (lb d) fun a S=>sM S fun a S=>?_
   refine sSkN 7 12 false 18 S d d d d fun a S=>sPickT (.bool true) S (wN d) d d d d d (lb d) fun a S=>?_
   exact lT (⟨true,Option.some.inj h,S.fix [1,0] [1,0] (by decide) d d d⟩)
  refine sField (b:=aa) (off:=0) 1 1 S (wG 5 false 11 d d d a5) d d d d d (lb d) fun a S=>sLoad1 1 (iv p0.H) S (wG 5 false 11 d d d a5) d d d d d d (lb d) fun a S=>sField (b:=ab) (off:=0) 1 1 S (wG 5 false 11 d d d a5) d d d d d (lb d) fun a S=>sLoad1 0 (iv p1.H) S (wG 5 false 11 d d d a5) d d d d d d (lb d) fun a S=>sBin _ S (wG 5 false 11 d d d a5) d d d (bNe _ _ _ _ .i64 p0.H p1.H) d (lb d) fun a S=>sPickF (.bool (p0.H != p1.H)) S (wN d) d d a5 d d (lb d) fun a S=>sM S fun a S=>?_
  rcases iS h with ⟨a0,h⟩ | ⟨a0,h⟩
  ·refine sSkN 7 12 false 18 S d d a0 d fun a S=>sPickT (.bool true) S (wN d) d d a0 d d (lb d) fun a S=>?_
   exact lT (⟨true,Option.some.inj h,S.fix [1,0] [1,0] (by decide) d d d⟩)
  refine sField (b:=aa) (off:=0) 2 2 S (wG 12 false 18 d d d a0) d d d d d (lb d) fun a S=>sLoad1 1 (.slice a6 p0.Bits.length a7) S (wG 12 false 18 d d d a0) d d d d d d (lb d) fun a S=>sLen S (wG 12 false 18 d d d a0) d Try.underlying22 d d (lb d) fun a S=>sField (b:=ab) (off:=0) 2 2 S (wG 12 false 18 d d d a0) d d d d d (lb d) fun a S=>sLoad1 0 (.slice a8 p1.Bits.length a9) S (wG 12 false 18 d d d a0) d d d d d d (lb d) fun a S=>sLen S (wG 12 false 18 d d d a0) d Try.underlying22 d d (lb d) fun a S=>sBin _ S (wG 12 false 18 d d d a0) d d d (bNe _ _ _ _ .i64 (p0.Bits.length:Int) (p1.Bits.length:Int)) d (lb d) fun a S=>sPickF (.bool ((p0.Bits.length:Int) != (p1.Bits.length:Int))) S (wN d) d d a0 d d (lb d) fun a S=>?_
  exact lT (⟨(p0.Bits.length:Int) != (p1.Bits.length:Int),Option.some.inj h,S.fix [1,0] [1,0] (by decide) d d d⟩)
 obtain ⟨al,rfl,S⟩:=hI
 have h:=aQ
 try dsimp only at h
 rcases iS h with ⟨ag,h⟩ | ⟨ag,h⟩
 ·refine sCondT S d ag (sSeq (fun aT am=>sRegion (sN S fun a S=>?_)))
  refine lT (am _ _ ?_)
  obtain rfl:=tS h
  exact wp_ret (rThen (sRet (.bool false) S (rsl1 d (rvT (t:=4) (v:=.bool false) S d)) ⟨(),d,S.mem.sel [] [] (by decide) d d⟩))
 refine sCondF S d ag (wp_skip (leafT (ak _ _ ?_)))
 obtain ⟨aR,h,aJ⟩:=bS h
 refine sCut (fun a w=>.inl ()=aR∧St [] E [] w0 45 a w [] [] []) ?_ (fun a w hI=>?_)
 rotate_left
 ·obtain ⟨rfl,S⟩:=hI
  have h:=aJ
  try dsimp only at h
  refine sSeq (fun aU ao=>sRegion (sN S fun a S=>?_))
  refine lT (ao _ _ ?_)
  obtain rfl:=tS h
  exact wp_ret (sRet (.bool true) S (rsl1 d (rvT (t:=4) (v:=.bool true) S d)) ⟨(),d,S.mem.sel [] [] (by decide) d d⟩)
 refine sSeq (fun aV ap=>sRegion (sN S fun a S=>?_))
 refine lT (ap _ _ (wp_block ?_))
 obtain ⟨aW,hl,aK⟩:=bS h
 refine sLoop hl (fun s0 a w=>match s0 with | ac=>St [] E [] w0 45 a w [(2,.pointer (some ⟨aa,0,none⟩)),(3,.pointer (some ⟨ab,0,none⟩)),(5,iv ac)] [eBox aa 24 [iv p0.W,iv p0.H,.slice a6 p0.Bits.length a7],eBox ab 24 [iv p1.W,iv p1.H,.slice a8 p1.Bits.length a9]] [fRep (rL rB) (.slice a6 p0.Bits.length a7) p0.Bits,fRep (rL rB) (.slice a8 p1.Bits.length a9) p1.Bits]) (S.fix [0,1] [0,1] (by decide) d d d) ?_
 clear hl h
 intro ac a w c0 hI h aj
 unfold raddleref01_Same_l1 at h
 dsimp only at h hI
 have S:=hI
 refine sSeq (fun aX aq=>sSeq (fun aZ ar=>sRegion (sM S fun a S=>?_)))
 refine sField (b:=aa) (off:=0) 2 2 S (wN d) d d d d d (lb d) fun a S=>sLoad1 0 (.slice a6 p0.Bits.length a7) S (wN d) d d d d d d (lb d) fun a S=>sLen S (wN d) d Try.underlying22 d d (lb d) fun a S=>sBin _ S (wN d) d d d (bLt _ _ _ _ .i64 ac (p0.Bits.length:Int)) d (lb d) fun a S=>lT (ar _ _ ?_)
 rcases iS h with ⟨ah,h⟩ | ⟨ah,h⟩
 rotate_left
 ·refine sCondF S d ah ?_
  obtain rfl:=tS h
  obtain rfl:=aj _ d
  have h:=aK
  try dsimp only at h
  exact wp_exit (xThen (xThen (xHit (leafT (⟨Option.some.inj h,S.fix [] [] (by decide) d d d⟩)))))
 refine sCondT S d ah (wp_skip (leafT (aq _ _ ?_)))
 refine sSeq (fun ba au=>wp_block ?_)
 refine sSeq (fun bb av=>?_)
 obtain ⟨ae,aw,h⟩:=bS h
 obtain ⟨af,ax,h⟩:=bS h
 obtain ⟨ay,az,S⟩:=pIdx (P:=Try.prog) (r:=rB) (v:=.slice a6 p0.Bits.length a7) (xs:=p0.Bits) (j:=ac) 22 4 0 S Try.underlying22 d d aw
 obtain ⟨aL,S⟩:=pLoad (r:=rB) (q:=ay) (x:=ae) 0 S d
 obtain rfl:aL=.bool ae:=S.mem.know (i:=1) (e:=fRep rB (aL) ae) d
 obtain ⟨aA,aC,S⟩:=pIdx (P:=Try.prog) (r:=rB) (v:=.slice a8 p1.Bits.length a9) (xs:=p1.Bits) (j:=ac) 22 4 4 S Try.underlying22 d d ax
 obtain ⟨aM,S⟩:=pLoad (r:=rB) (q:=aA) (x:=af) 0 S d
 obtain rfl:aM=.bool af:=S.mem.know (i:=1) (e:=fRep rB (aM) af) d
 refine sDraw (nf:=[]) (W:=[(0,34,.pointer (some ⟨aa,2,none⟩)),(1,35,.slice a6 p0.Bits.length a7),(2,36,iv ac),(3,37,ay),(4,38,.bool ae),(5,39,.pointer (some ⟨ab,2,none⟩)),(6,40,.slice a8 p1.Bits.length a9),(7,41,iv ac),(8,42,aA),(9,43,.bool af),(10,44,.bool (ae != af))]) d S ?_
 refine node_by (A:=anc_raddleref01_Same_0) 11 (by kernel_rfl) (by kernel_rfl) (by kernel_rfl) (by kernel_rfl) (by kernel_rfl) [0,1,2,3,4,5,6,7,8,9,10] (by kernel_rfl) (by decide) (by decide) (fF ?_ (fF ?_ (fF ?_ (fF ?_ (fF ?_ (fF ?_ (fF ?_ (fF ?_ (fF ?_ (fF ?_ (fF ?_ (trivial)))))))))))) [(2,.pointer (some ⟨aa,0,none⟩)),(3,.pointer (some ⟨ab,0,none⟩)),(5,iv ac),(44,.bool (ae != af))] (fin_of [none,none,none,some 10] d (by kernel_rfl) (by kernel_rfl)) (fun _ a w S=>?_)
 ·refine fJ [(2,_)] 0 [none] fun G a w S=>?_
  exact sField (b:=aa) (off:=0) 2 2 S (wN d) d d d d d (lb d) fun a S=>leafL ⟨d,S⟩
 ·refine fJ [(34,_)] 1 [some 0] fun G a w S=>?_
  exact sLoad1 0 (.slice a6 p0.Bits.length a7) S (wN d) d d d d d d (lb d) fun a S=>leafL ⟨d,S⟩
 ·exact fM 2 none d d d d (.inl d) d d d
 ·refine fJ [(35,_),(36,_)] 3 [some 1,some 2] fun G a w S=>?_
  exact sIdxV S (wN d) d d d az d (lb d) fun a S=>leafL ⟨d,S⟩
 ·refine fJ [(37,_)] 4 [some 3] fun G a w S=>?_
  exact sLoadV1 (vq:=ay) 3 (.bool ae) S (wN d) d d d d d (lb d) fun a S=>leafL ⟨d,S⟩
 ·refine fJ [(3,_)] 5 [none] fun G a w S=>?_
  exact sField (b:=ab) (off:=0) 2 2 S (wN d) d d d d d (lb d) fun a S=>leafL ⟨d,S⟩
 ·refine fJ [(39,_)] 6 [some 5] fun G a w S=>?_
  exact sLoad1 1 (.slice a8 p1.Bits.length a9) S (wN d) d d d d d d (lb d) fun a S=>leafL ⟨d,S⟩
 ·exact fM 7 none d d d d (.inl d) d d d
 ·refine fJ [(40,_),(41,_)] 8 [some 6,some 7] fun G a w S=>?_
  exact sIdxV S (wN d) d d d aC d (lb d) fun a S=>leafL ⟨d,S⟩
 ·refine fJ [(42,_)] 9 [some 8] fun G a w S=>?_
  exact sLoadV1 (vq:=aA) 0 (.bool af) S (wN d) d d d d d (lb d) fun a S=>leafL ⟨d,S⟩
 ·refine fJ [(38,_),(43,_)] 10 [some 4,some 9] fun G a w S=>?_
  exact sBin _ S (wN d) d d d (bNeB _ _ _ _ Try.underlying4 ae af) d (lb d) fun a S=>leafL ⟨d,S⟩
 refine leafT (av _ _ ?_)
 rcases iS h with ⟨ai,h⟩ | ⟨ai,h⟩
 rotate_left
 ·refine sCondF S d ai (wp_skip (leafB (leafT (au _ _ ?_))))
  refine sRegion (sM S fun a S=>?_)
  refine sBin _ S (wN d) d d d (bAdd _ _ _ _ ac 1) d (lb d) fun a S=>sN S fun a S=>?_
  exact lT (⟨w64 (ac + 1),(Option.some.inj h).symm,(S.fix [0,1] [6,7] (by decide) d d d)⟩)
 refine sCondT S d ai (sSeq (fun bc aG=>sRegion (sN S fun a S=>?_)))
 refine lT (aG _ _ ?_)
 obtain rfl:=tS h
 obtain rfl:=aj _ d
 have h:=aK
 try dsimp only at h
 obtain rfl:=tS h
 have h:=aJ
 try dsimp only at h
 obtain rfl:=tS h
 exact wp_ret (rBlock (rThen (rThen (rBlock (rThen (sRet (.bool false) S (rsl1 d (rvT (t:=4) (v:=.bool false) S d)) ⟨(),d,S.mem.sel [] [] (by decide) d d⟩))))))
instance decGrid:DecidableEq api_Grid:=fun a b=>decidable_of_iff (a.W=b.W∧a.H=b.H∧a.Bits=b.Bits) (by cases a; cases b; simp)
structure Gr (g:api_Grid) (w h:Nat):Prop where
 hw:g.W=(w:Int)
 hh:g.H=(h:Int)
 w0:1 ≤ w
 w1:w ≤ 64
 h0:1 ≤ h
 h1:h ≤ 64
 len:g.Bits.length=w * h
def cell (g:api_Grid) (w x y:Nat):Bool:=g.Bits.getD (y * w + x) false
theorem Gr.at {g:api_Grid} {w h:Nat} (G:Gr g w h) {x y:Nat} (hx:x < w) (hy:y < h):idxO g.Bits (w64 ((w64 ((y:Int) * g.W)) + (x:Int)))=some (cell g w x y):=by
 have h1:y * w + x < w * h:=by
  have:=Nat.mul_le_mul_right w (show y + 1 ≤ h by omega)
  rw [Nat.add_mul,Nat.one_mul,Nat.mul_comm h w] at this
  omega
 have h2:w * h ≤ 64 * 64:=Nat.mul_le_mul G.w1 G.h1
 have e:((y:Int) * g.W)=((y * w:Nat):Int):=by rw [G.hw]; simp
 have hz:w64 ((y * w:Nat):Int)=((y * w:Nat):Int):=w64_of (by omega) (by omega)
 rw [e,hz,w64_of (by omega) (by omega)]
 exact idxO_of (k:=y * w + x) (by omega) (by rw [G.len]; exact h1) |>.trans (by unfold cell; simp [G.len,h1])
def gerr (g:api_Grid):Int:=if 64 < g.W ∨ 64 < g.H then 4 else if g.W < 1 ∨ g.H < 1 ∨ ¬ (g.Bits.length:Int)=g.W * g.H then 8 else 0
theorem gprod {g:api_Grid} (h1:¬ (64 < g.W ∨ 64 < g.H)) (h2:¬ (g.W < 1 ∨ g.H < 1)):w64 (g.W * g.H)=g.W * g.H:=by
 have:=mul_bd (u:=g.W) (v:=g.H) (a:=64) (b:=64) (by omega) (by omega) (by omega) (by omega)
 exact w64_of (by omega) (by omega)
theorem gcheck_eq (g:api_Grid):F_grid_Check g=some (gerr g)∧F_raddleref01_Check g=some (gerr g):=by
 unfold F_grid_Check F_raddleref01_Check gerr
 by_cases c1:64 < g.W ∨ 64 < g.H
 ·constructor
  ·have:(64:Int) < (if g.W < g.H then g.H else g.W):=by split <;> omega
   simp only [dT this,if_true,c1]
  ·by_cases c2:64 < g.W
   ·simp only [dT c2,if_true,Option.bind_some,c1]
   ·simp only [dF c2,dT (show 64 < g.H by omega),Bool.false_eq_true,if_true,if_false,Option.bind_some,c1]
 ·have m1:¬ (64:Int) < (if g.W < g.H then g.H else g.W):=by split <;> omega
  by_cases c2:g.W < 1 ∨ g.H < 1
  ·have m2:(if g.H < g.W then g.H else g.W) < (1:Int):=by split <;> omega
   have c3:g.W < 1 ∨ g.H < 1 ∨ ¬ (g.Bits.length:Int)=g.W * g.H:=by omega
   simp only [dF m1,dT m2,dF (show ¬ 64 < g.W by omega),dF (show ¬ 64 < g.H by omega),Bool.false_eq_true,if_true,if_false,Option.bind_some,c1,c3,true_and]
   by_cases c4:g.W < 1
   ·simp only [dT c4,if_true,Option.bind_some]
   ·simp only [dF c4,dT (show g.H < 1 by omega),Bool.false_eq_true,if_true,if_false,Option.bind_some]
  ·have m2:¬ (if g.H < g.W then g.H else g.W) < (1:Int):=by split <;> omega
   have c4:¬ g.W < 1:=by omega
   have c5:¬ g.H < 1:=by omega
   have hb:(if 64 < g.W ∨ 64 < g.H then (4:Int) else if g.W < 1 ∨ g.H < 1 ∨ ¬ (g.Bits.length:Int)=g.W * g.H then 8 else 0)=if (g.Bits.length:Int)=g.W * g.H then 0 else 8:=by
    rw [if_neg c1]
    by_cases c6:(g.Bits.length:Int)=g.W * g.H
    ·rw [if_neg (by omega),if_pos c6]
    ·rw [if_pos (by omega),if_neg c6]
   rw [hb]
   by_cases c6:(g.Bits.length:Int)=g.W * g.H
   ·rw [if_pos c6]
    simp only [dF m1,dF m2,dF (show ¬ 64 < g.W by omega),dF (show ¬ 64 < g.H by omega),dF c4,dF c5,gprod c1 c2,nF c6,Bool.false_eq_true,if_false,Option.bind_some,and_self]
   ·rw [if_neg c6]
    simp only [dF m1,dF m2,dF (show ¬ 64 < g.W by omega),dF (show ¬ 64 < g.H by omega),dF c4,dF c5,gprod c1 c2,nT c6,Bool.false_eq_true,if_true,if_false,Option.bind_some,and_self]
theorem gerr_zero {g:api_Grid} (h:gerr g=0):∃ w h,Gr g w h:=by
 unfold gerr at h
 by_cases c1:64 < g.W ∨ 64 < g.H
 ·rw [if_pos c1] at h; cases h
 rw [if_neg c1] at h
 by_cases c2:g.W < 1 ∨ g.H < 1 ∨ ¬ (g.Bits.length:Int)=g.W * g.H
 ·rw [if_pos c2] at h; cases h
 have c3:(g.Bits.length:Int)=g.W * g.H:=by omega
 refine ⟨g.W.toNat,g.H.toNat,by omega,by omega,by omega,by omega,by omega,by omega,?_⟩
 have e1:g.W=(g.W.toNat:Int):=by omega
 have e2:g.H=(g.H.toNat:Int):=by omega
 rw [e1,e2,← Int.natCast_mul] at c3
 exact Int.ofNat.inj c3
theorem gr_err {g:api_Grid} {w h:Nat} (G:Gr g w h):gerr g=0:=by
 have:=G.w0
 have:=G.w1
 have:=G.h0
 have:=G.h1
 unfold gerr
 rw [G.hw,G.hh,G.len,if_neg (by omega),if_neg]
 rw [Int.natCast_mul]
 omega
def gm (f:Nat→Nat→Bool) (w h:Nat):api_Grid:=api_Grid.mk (w:Int) (h:Int) (gl f w h)
theorem gm_gr (f:Nat→Nat→Bool) {w h:Nat} (w0:1 ≤ w) (w1:w ≤ 64) (h0:1 ≤ h) (h1:h ≤ 64):Gr (gm f w h) w h:=
 ⟨rfl,rfl,w0,w1,h0,h1,gl_len f w h⟩
theorem gm_cell (f:Nat→Nat→Bool) {w h x y:Nat} (hx:x < w) (hy:y < h):cell (gm f w h) w x y=f x y:=gl_get f w h false x y hx hy
theorem gm_cong {f f':Nat→Nat→Bool} {w h:Nat} (e:∀ x y,x < w→y < h→f x y=f' x y):gm f w h=gm f' w h:=by unfold gm; rw [gl_cong e]
theorem Gr.eq {g:api_Grid} {w h:Nat} (G:Gr g w h):g=gm (cell g w) w h:=by
 have hb:g.Bits=gl (cell g w) w h:=gl_of false G.len fun x y _ _=>rfl
 have h1:=G.hw
 have h2:=G.hh
 cases g
 simp only at h1 h2 hb
 subst h1 h2
 unfold gm
 rw [← hb]
theorem Gr.ext {g g':api_Grid} {w h:Nat} (G:Gr g w h) (G':Gr g' w h) (e:∀ x y,x < w→y < h→cell g w x y=cell g' w x y):g=g':=by
 rw [G.eq,G'.eq]; exact gm_cong e
theorem Gr.dim {g:api_Grid} {w h w' h':Nat} (G:Gr g w h) (G':Gr g w' h'):w=w'∧h=h':=by
 have:=G.hw
 have:=G'.hw
 have:=G.hh
 have:=G'.hh
 omega
theorem rsame_grid (a b:api_Grid) (hl:a.Bits.length ≤ 9223372036854775807):F_raddleref01_Same a b=some (decide (a=b)):=by
 by_cases h1:a.W=b.W
 case neg=>unfold F_raddleref01_Same; simp only [nT h1,if_true,Option.bind_some]; rw [decide_eq_false]; rintro rfl; exact h1 rfl
 by_cases h2:a.H=b.H
 case neg=>unfold F_raddleref01_Same; simp only [nF h1,nT h2,Bool.false_eq_true,if_false,if_true,Option.bind_some]; rw [decide_eq_false]; rintro rfl; exact h2 rfl
 by_cases h3:(a.Bits.length:Int)=(b.Bits.length:Int)
 case neg=>unfold F_raddleref01_Same; simp only [nF h1,nF h2,nT h3,Bool.false_eq_true,if_false,if_true,Option.bind_some]; rw [decide_eq_false]; rintro rfl; exact h3 rfl
 have hw:whileO (raddleref01_Same_l1 a b) 0=some (if a.Bits=b.Bits then .inr () else .inl false):=by
  refine loop_eql a.Bits b.Bits (by omega) _ _ (fun k hk=>?_) ?_
  ·unfold raddleref01_Same_l1
   simp only [dT (show (k:Int) < (a.Bits.length:Int) by omega),if_true,idxO_nat hk,idxO_nat (xs:=b.Bits) (k:=k) (by omega),Option.bind_some,w64_succ (show k < 9223372036854775807 by omega)]
   by_cases e:a.Bits[k]=b.Bits[k]'(by omega)
   ·rw [if_pos e,e]; simp
   ·rw [if_neg e,if_pos (by simpa using e)]
  ·unfold raddleref01_Same_l1; simp
 unfold F_raddleref01_Same
 simp only [nF h1,nF h2,nF h3,Bool.false_eq_true,if_false,Option.bind_some,hw]
 by_cases e:a.Bits=b.Bits
 ·rw [if_pos e]
  have:a=b:=by cases a; cases b; simp_all
  simp [this]
 ·rw [if_neg e]
  have:¬ a=b:=fun h=>e (by rw [h])
  simp [this]
theorem rboth_eq (a b:api_Grid):F_raddleref01_Both a b=some (if gerr a=0 then gerr b else gerr a):=by
 unfold F_raddleref01_Both
 simp only [(gcheck_eq a).2,(gcheck_eq b).2,Option.bind_some]
 by_cases h:gerr a=0
 ·rw [nF h,if_pos h]; rfl
 ·rw [nT h,if_neg h]; rfl
theorem sumN_add (F:Nat→Nat) (a b:Nat):sumN F (a + b)=sumN F a + sumN (fun k=>F (a + k)) b:=by
 induction b with
 | zero=>rfl
 | succ b ih=>rw [← Nat.add_assoc]; simp only [sumN]; rw [ih]; omega
theorem sumN_rows (F:Nat→Nat) (w h:Nat):sumN F (w * h)=sumN (fun y=>sumN (fun x=>F (y * w + x)) w) h:=by
 induction h with
 | zero=>rfl
 | succ h ih=>
  rw [Nat.mul_succ,sumN_add,ih]
  simp only [sumN]
  congr 1
  exact sumN_cong fun x _=>by rw [Nat.mul_comm]
theorem sumN_bd {F:Nat→Nat} {n:Nat} (h:∀ k,k < n→F k ≤ 1):sumN F n ≤ n:=by
 induction n with
 | zero=>exact Nat.le_refl _
 | succ n ih=>
  have h1:=ih fun k hk=>h k (by omega)
  have h2:=h n (by omega)
  simp only [sumN]
  omega
def ext (g:api_Grid) (w h:Nat) (X Y:Int):Bool:=cell g w (X % (w:Int)).toNat (Y % (h:Int)).toNat
theorem ext_per (g:api_Grid) (w h:Nat):Per w h (ext g w h):=by
 unfold ext
 exact ⟨fun X Y=>by dsimp only; rw [Int.add_emod_right],fun X Y=>by dsimp only; rw [Int.add_emod_right]⟩
theorem ext_at (g:api_Grid) {w h x y:Nat} (hx:x < w) (hy:y < h):ext g w h (x:Int) (y:Int)=cell g w x y:=by
 unfold ext
 rw [← Int.natCast_emod,← Int.natCast_emod,Nat.mod_eq_of_lt hx,Nat.mod_eq_of_lt hy,Int.toNat_natCast,Int.toNat_natCast]
def dl (a b:List Bool) (n:Nat):Nat:=sumN (fun t=>if a.getD t false=b.getD t false then 0 else 1) n
theorem dl_le (a b:List Bool) (n:Nat):dl a b n ≤ n:=sumN_bd fun k _=>by split <;> omega
theorem dl_dst (a b:api_Grid) (w h:Nat):dl a.Bits b.Bits (w * h)=dst w h (ext a w h) (ext b w h):=by
 unfold dl dst
 rw [sumN_rows]
 refine sumN_cong fun y hy=>sumN_cong fun x hx=>?_
 rw [ext_at a hx hy,ext_at b hx hy]
 rfl
theorem dl_zero {a b:api_Grid} {w h:Nat} (A:Gr a w h) (B:Gr b w h):dl a.Bits b.Bits (w * h)=0 ↔ a=b:=by
 constructor
 ·intro e
  refine A.ext B fun x y hx hy=>?_
  have h1:=sumN_zero.1 e _ (pl_lt hx hy)
  by_cases c:a.Bits.getD (y * w + x) false=b.Bits.getD (y * w + x) false
  ·exact c
  ·rw [if_neg c] at h1; cases h1
 ·rintro rfl
  exact sumN_zero.2 fun k _=>if_pos rfl
theorem dl_succ (a b:List Bool) (k:Nat):dl a b (k + 1)=dl a b k + if a.getD k false=b.getD k false then 0 else 1:=rfl
theorem bne_if (x y:Bool) (d:Nat) (hd:d ≤ 1000000):(if (x != y)=true then some (w64 ((d:Int) + 1)) else some (d:Int))=some ((d + (if x=y then 0 else 1):Nat):Int):=by
 rw [w64_succ (by omega)]
 cases x <;> cases y <;> rfl
theorem differ_eq {a b:List Bool} (hl:a.length=b.length) (ha:a.length ≤ 1000000):F_compare_differ a b=some ((dl a b a.length:Nat):Int):=by
 have h:=loop_seq (B:=compare_differ_l1 a b) (fun k=>(((dl a b k:Nat):Int),(k:Int))) a.length (t:=((dl a b a.length:Nat):Int))
  (fun k hk=>by
   have hd:=dl_le a b k
   unfold compare_differ_l1
   simp only [dT (show (k:Int) < (a.length:Int) by omega),if_true,idxO_D (xs:=a) false hk,idxO_D (xs:=b) (k:=k) false (by omega),Option.bind_some,bne_if _ _ (dl a b k) (by omega),w64_succ (show k < 9223372036854775807 by omega),dl_succ])
  (by
   unfold compare_differ_l1
   simp only [dF (show ¬ (a.length:Int) < (a.length:Int) by omega),Bool.false_eq_true,if_false])
 have e0:(((dl a b 0:Nat):Int),(((0:Nat):Int)))=((0:Int),(0:Int)):=rfl
 simp only [e0] at h
 unfold F_compare_differ
 rw [h]
 rfl
theorem rdiffer_eq {a b:api_Grid} (hl:a.Bits.length=b.Bits.length) (ha:a.Bits.length ≤ 1000000):F_raddleref46_differ a b=some ((dl a.Bits b.Bits a.Bits.length:Nat):Int):=by
 have h:=loop_seq (B:=raddleref46_differ_l1 a b) (fun k=>(((dl a.Bits b.Bits k:Nat):Int),(k:Int))) a.Bits.length (t:=((dl a.Bits b.Bits a.Bits.length:Nat):Int))
  (fun k hk=>by
   have hd:=dl_le a.Bits b.Bits k
   unfold raddleref46_differ_l1
   simp only [dT (show (k:Int) < (a.Bits.length:Int) by omega),if_true,idxO_D (xs:=a.Bits) false hk,idxO_D (xs:=b.Bits) (k:=k) false (by omega),Option.bind_some,bne_if _ _ (dl a.Bits b.Bits k) (by omega),w64_succ (show k < 9223372036854775807 by omega),dl_succ])
  (by
   unfold raddleref46_differ_l1
   simp only [dF (show ¬ (a.Bits.length:Int) < (a.Bits.length:Int) by omega),Bool.false_eq_true,if_false])
 have e0:(((dl a.Bits b.Bits 0:Nat):Int),(((0:Nat):Int)))=((0:Int),(0:Int)):=rfl
 simp only [e0] at h
 unfold F_raddleref46_differ
 rw [h]
 rfl
theorem build_eq2 {l1:Int→Int × List Bool→Option ((Int × List Bool) ⊕ List Bool)} {l2:Int × List Bool→Option ((Int × List Bool) ⊕ List Bool)} (f:Nat→Nat→Bool) (w h:Nat) (hw:w ≤ 64) (hh:h ≤ 64)
 (h1:∀ y x s,y < h→x < w→l1 (y:Int) ((x:Int),s)=Option.bind (appO s [f x y]) fun l=>some (.inl (w64 ((x:Int) + 1),l))) (h1e:∀ (y:Nat) s,l1 (y:Int) ((w:Int),s)=some (.inr s))
 (h2:∀ (y:Nat) s,y < h→l2 ((y:Int),s)=Option.bind (Option.bind (whileO (l1 (y:Int)) (0,s)) fun e=>some e) fun o=>some (.inl (w64 ((y:Int) + 1),o))) (h2e:∀ s,l2 ((h:Int),s)=some (.inr s)) :
 whileO l2 (0,([]:List Bool))=some (gl f w h):=by
 have this:=loop2 (l1:=fun y=>l1 (y:Int)) (l2:=l2) (fun y x=>((x:Int),glf f w (y * w + x))) (fun y=>((y:Int),glf f w (y * w))) (fun y=>glf f w (y * w + w)) w h (t:=glf f w (h * w))
  (fun y x hy hx=>by
   have hlt:=pl_lt hx hy
   have hp:w * h ≤ 64 * 64:=Nat.mul_le_mul hw hh
   rw [h1 y x _ hy hx,appO_of (by simp [glf]; omega),Option.bind_some,w64_succ (by omega),show y * w + (x + 1)=y * w + x + 1 from rfl,glf_succ,pl_mod hx,pl_div hx])
  (fun y hy=>h1e y _)
  (fun y hy hl=>by
   have e0:(((0:Nat):Int),glf f w (y * w + 0))=((0:Int),glf f w (y * w)):=rfl
   rw [e0] at hl
   rw [h2 y _ hy,hl]
   simp only [Option.bind_some,w64_succ (show y < 9223372036854775807 by omega)]
   rw [show (y + 1) * w=y * w + w by rw [Nat.add_mul,Nat.one_mul]])
  (h2e _)
 have e0:(((0:Nat):Int),glf f w (0 * w))=((0:Int),([]:List Bool)):=by simp [glf]
 simp only [e0] at this
 rw [this,Nat.mul_comm h w]
 rfl
theorem cap_ok2 {w h:Nat} (hw:w ≤ 64) (hh:h ≤ 64):capO (w64 ((w:Int) * (h:Int)))=some ():=by
 have hp:w * h ≤ 64 * 64:=Nat.mul_le_mul hw hh
 rw [wmul (by omega)]
 exact capO_of rfl (by omega)
theorem gbits {g:api_Grid} {w h:Nat} (G:Gr g w h):g.Bits.length ≤ 4096:=by
 rw [G.len]; exact Nat.mul_le_mul G.w1 G.h1
def shS (g:api_Grid) (w h x y:Nat):api_Grid:=gm (fun X Y=>cell g w ((X + (w - x)) % w) ((Y + (h - y)) % h)) w h
def apf (g:api_Grid) (w h:Nat) (t1 t2 t4 t8:Bool) (x y:Nat):Bool:=
 cell g w (if t1=true then w - 1 - (if t4=true then y else x) else (if t4=true then y else x)) (if t2=true then h - 1 - (if t4=true then x else y) else (if t4=true then x else y)) != t8
def apS (g:api_Grid) (w h:Nat) (t1 t2 t4 t8:Bool):api_Grid:=gm (apf g w h t1 t2 t4 t8) (if t4=true then h else w) (if t4=true then w else h)
theorem applied_eq {g:api_Grid} {w h:Nat} (G:Gr g w h) (op:Int):F_symmetry_applied g op=some (apS g w h ((andI .i64 op 1) != 0) ((andI .i64 op 2) != 0) ((andI .i64 op 4) != 0) ((andI .i64 op 8) != 0)):=by
 have w0:=G.w0
 have h0:=G.h0
 have w1:=G.w1
 have h1:=G.h1
 have hb:=build_eq2 (l1:=fun y=>symmetry_applied_l1 (((if ((andI .i64 op 4) != 0)=true then h else w:Nat)):Int) op y g) (l2:=symmetry_applied_l2 (((if ((andI .i64 op 4) != 0)=true then w else h:Nat)):Int) (((if ((andI .i64 op 4) != 0)=true then h else w:Nat)):Int) op g)
  (apf g w h ((andI .i64 op 1) != 0) ((andI .i64 op 2) != 0) ((andI .i64 op 4) != 0) ((andI .i64 op 8) != 0)) (if ((andI .i64 op 4) != 0)=true then h else w) (if ((andI .i64 op 4) != 0)=true then w else h) (by split <;> omega) (by split <;> omega)
  (fun y x s hy hx=>by
   unfold symmetry_applied_l1 apf
   simp only [dT (show (x:Int) < (((if ((andI .i64 op 4) != 0)=true then h else w:Nat)):Int) by omega),if_true]
   generalize ((andI .i64 op 1) != 0)=t1 at *
   generalize ((andI .i64 op 2) != 0)=t2 at *
   generalize ((andI .i64 op 4) != 0)=t4 at *
   generalize ((andI .i64 op 8) != 0)=t8 at *
   have s4:(if t4=true then some ((y:Int),(x:Int)) else some ((x:Int),(y:Int)))=some ((((if t4=true then y else x:Nat)):Int),(((if t4=true then x else y:Nat)):Int)):=by cases t4 <;> rfl
   have hu:(if t4=true then y else x) < w:=by cases t4 with | false=>exact hx | true=>exact hy
   have hv:(if t4=true then x else y) < h:=by cases t4 with | false=>exact hy | true=>exact hx
   rw [s4]
   simp only [Option.bind_some,G.hw,G.hh]
   generalize (if t4=true then y else x)=u at *
   generalize (if t4=true then x else y)=v at *
   have s1:(if t1=true then some (w64 (w64 ((w:Int) - 1) - (u:Int))) else some (u:Int))=some ((((if t1=true then w - 1 - u else u:Nat)):Int)):=by
    cases t1 with
    | false=>rfl
    | true=>
     rw [if_pos rfl,if_pos rfl,w64_of (x:=(w:Int) - 1) (by omega) (by omega),w64_of (by omega) (by omega)]
     congr 1; omega
   have s2:(if t2=true then some (w64 (w64 ((h:Int) - 1) - (v:Int))) else some (v:Int))=some ((((if t2=true then h - 1 - v else v:Nat)):Int)):=by
    cases t2 with
    | false=>rfl
    | true=>
     rw [if_pos rfl,if_pos rfl,w64_of (x:=(h:Int) - 1) (by omega) (by omega),w64_of (by omega) (by omega)]
     congr 1; omega
   rw [s1]
   simp only [Option.bind_some]
   rw [s2]
   simp only [Option.bind_some]
   have ha:=G.at (x:=if t1=true then w - 1 - u else u) (y:=if t2=true then h - 1 - v else v) (by split <;> omega) (by split <;> omega)
   rw [G.hw] at ha
   rw [ha,Option.bind_some])
  (fun y s=>by
   unfold symmetry_applied_l1
   simp only [dF (show ¬ (((if ((andI .i64 op 4) != 0)=true then h else w:Nat)):Int) < (((if ((andI .i64 op 4) != 0)=true then h else w:Nat)):Int) by omega),Bool.false_eq_true,if_false])
  (fun y s hy=>by
   unfold symmetry_applied_l2
   simp only [dT (show (y:Int) < (((if ((andI .i64 op 4) != 0)=true then w else h:Nat)):Int) by omega),if_true])
  (fun s=>by
   unfold symmetry_applied_l2
   simp only [dF (show ¬ (((if ((andI .i64 op 4) != 0)=true then w else h:Nat)):Int) < (((if ((andI .i64 op 4) != 0)=true then w else h:Nat)):Int) by omega),Bool.false_eq_true,if_false])
 unfold F_symmetry_applied
 have s0:(if ((andI .i64 op 4) != 0)=true then some (g.H,g.W) else some (g.W,g.H))=some ((((if ((andI .i64 op 4) != 0)=true then h else w:Nat)):Int),(((if ((andI .i64 op 4) != 0)=true then w else h:Nat)):Int)):=by
  rw [G.hw,G.hh]
  cases ((andI .i64 op 4) != 0) <;> rfl
 rw [s0]
 simp only [Option.bind_some,hb]
 rfl
theorem around_eq {z:Int} {n:Nat} (n0:1 ≤ n) (n1:n ≤ 64) (z0:-5000 ≤ z) (z1:z ≤ 5000):F_grid_around z (n:Int)=some (z % (n:Int)):=by
 have hn:¬ (n:Int)=0:=by omega
 have e0:=Int.emod_nonneg z hn
 have e1:=Int.emod_lt_of_pos z (show (0:Int) < n by omega)
 have ht:z.tmod (n:Int)=z % (n:Int) ∨ z.tmod (n:Int)=z % (n:Int) - n∧z.tmod (n:Int) < 0:=by
  by_cases hz:0 ≤ z
  ·exact .inl (Int.tmod_eq_emod_of_nonneg hz)
  ·rw [Int.tmod_eq_emod]
   by_cases hd:(n:Int) ∣ z
   ·left; simp [hd]
   ·right
    have hc:¬ (0 ≤ z ∨ (n:Int) ∣ z):=by rintro (h | h); exact hz h; exact hd h
    rw [if_neg hc]
    have:((n:Int).natAbs:Int)=n:=by omega
    rw [this]
    omega
 unfold F_grid_around remI
 rw [if_neg hn]
 rcases ht with h | ⟨h,hl⟩
 ·simp only [Option.bind_some,h,dF (show ¬ z % (n:Int) < 0 by omega),Bool.false_eq_true,if_false]
 ·simp only [Option.bind_some,dT hl,if_true]
  rw [h,w64_of (by omega) (by omega)]
  congr 1
  omega
theorem emod_back {x d n:Nat} (hd:d ≤ n):(((x:Int) - (d:Int)) % (n:Int))=(((x + (n - d)) % n:Nat):Int):=by
 rw [Int.natCast_emod,show ((x + (n - d):Nat):Int)=((x:Int) - d) + n by omega,Int.add_emod_right]
theorem shift_eq {g:api_Grid} {w h:Nat} (G:Gr g w h) {dx dy:Int} (x0:-4000 ≤ dx) (x1:dx ≤ 4000) (y0:-4000 ≤ dy) (y1:dy ≤ 4000) :
 F_grid_Shift g dx dy=some (gm (fun x y=>cell g w ((x + (w - (dx % (w:Int)).toNat)) % w) ((y + (h - (dy % (h:Int)).toNat)) % h)) w h,0):=by
 have w0:=G.w0
 have w1:=G.w1
 have h0:=G.h0
 have h1:=G.h1
 have a1:=around_eq (z:=dx) w0 w1 (by omega) (by omega)
 have a2:=around_eq (z:=dy) h0 h1 (by omega) (by omega)
 have b0:=Int.emod_nonneg dx (show (w:Int) ≠ 0 by omega)
 have b1:=Int.emod_lt_of_pos dx (show (0:Int) < w by omega)
 have b2:=Int.emod_nonneg dy (show (h:Int) ≠ 0 by omega)
 have b3:=Int.emod_lt_of_pos dy (show (0:Int) < h by omega)
 obtain ⟨d,hd⟩:∃ d:Nat,dx % (w:Int)=d:=⟨(dx % (w:Int)).toNat,by omega⟩
 obtain ⟨e,he⟩:∃ e:Nat,dy % (h:Int)=e:=⟨(dy % (h:Int)).toNat,by omega⟩
 rw [hd] at a1 b1
 rw [he] at a2 b3
 rw [hd,he,Int.toNat_natCast,Int.toNat_natCast]
 have hb:whileO (grid_build_s0_l2 (h:Int) (w:Int) g (e:Int) (d:Int)) (0,([]:List Bool))=some (gl (fun x y=>cell g w ((x + (w - d)) % w) ((y + (h - e)) % h)) w h):=by
  refine build_eq2 (l1:=fun y=>grid_build_s0_l1 (w:Int) y g (e:Int) (d:Int)) (fun x y=>cell g w ((x + (w - d)) % w) ((y + (h - e)) % h)) w h w1 h1 (fun y x s hy hx=>?_) (fun y s=>?_) (fun y s hy=>?_) (fun s=>?_)
  ·have k1:F_grid_around (w64 ((y:Int) - (e:Int))) g.H=some (((y + (h - e)) % h:Nat):Int):=by
    rw [G.hh,w64_of (by omega) (by omega),around_eq h0 h1 (by omega) (by omega),emod_back (by omega)]
   have k2:F_grid_around (w64 ((x:Int) - (d:Int))) g.W=some (((x + (w - d)) % w:Nat):Int):=by
    rw [G.hw,w64_of (by omega) (by omega),around_eq w0 w1 (by omega) (by omega),emod_back (by omega)]
   unfold grid_build_s0_l1 F_grid_Shift_1_s0
   simp only [dT (show (x:Int) < (w:Int) by omega),if_true,k1,k2,G.at (Nat.mod_lt (x + (w - d)) (show 0 < w by omega)) (Nat.mod_lt (y + (h - e)) (show 0 < h by omega)),Option.bind_some]
  ·unfold grid_build_s0_l1
   simp only [dF (show ¬ (w:Int) < (w:Int) by omega),Bool.false_eq_true,if_false]
  ·unfold grid_build_s0_l2
   simp only [dT (show (y:Int) < (h:Int) by omega),if_true]
  ·unfold grid_build_s0_l2
   simp only [dF (show ¬ (h:Int) < (h:Int) by omega),Bool.false_eq_true,if_false]
 unfold F_grid_Shift F_grid_build_s0
 simp only [(gcheck_eq g).1,gr_err G,Option.bind_some,bne_self_eq_false,Bool.false_eq_true,if_false,G.hw,G.hh,a1,a2,cap_ok2 w1 h1,hb]
 rfl
def apB (g:api_Grid) (w h:Nat) (op:Int):api_Grid:=apS g w h ((andI .i64 op 1) != 0) ((andI .i64 op 2) != 0) ((andI .i64 op 4) != 0) ((andI .i64 op 8) != 0)
def Kp (w h n:Nat):Prop:=∀ op:Nat,op < n→((andI .i64 (op:Int) 4) != 0)=true→w=h
theorem kp_dims {w h n op:Nat} (K:Kp w h n) (hop:op < n):(if ((andI .i64 (op:Int) 4) != 0)=true then h else w)=w∧(if ((andI .i64 (op:Int) 4) != 0)=true then w else h)=h:=by
 have:=K op hop
 cases hc:((andI .i64 (op:Int) 4) != 0) with
 | false=>exact ⟨if_neg (by decide),if_neg (by decide)⟩
 | true=>obtain rfl:=this hc; exact ⟨if_pos rfl,if_pos rfl⟩
theorem apB_eq {w h n op:Nat} (K:Kp w h n) (hop:op < n) (g:api_Grid):apB g w h (op:Int)=gm (apf g w h ((andI .i64 (op:Int) 1) != 0) ((andI .i64 (op:Int) 2) != 0) ((andI .i64 (op:Int) 4) != 0) ((andI .i64 (op:Int) 8) != 0)) w h:=by
 obtain ⟨h1,h2⟩:=kp_dims K hop
 unfold apB apS
 rw [h1,h2]
theorem apB_gr {g:api_Grid} {w h n op:Nat} (G:Gr g w h) (K:Kp w h n) (hop:op < n):Gr (apB g w h (op:Int)) w h:=by
 rw [apB_eq K hop]
 exact gm_gr _ G.w0 G.w1 G.h0 G.h1
theorem shS_gr {g:api_Grid} {w h x y:Nat} (G:Gr g w h):Gr (shS g w h x y) w h:=gm_gr _ G.w0 G.w1 G.h0 G.h1
theorem apply_eq {g:api_Grid} {w h op:Nat} (G:Gr g w h) (hw:w ≤ 16) (hh:h ≤ 16) (hop:op < 16):F_symmetry_Apply g (op:Int)=some (apB g w h (op:Int),0):=by
 have hl1:whileO (symmetry_check_l1 [g]) 0=some (.inr ()):=by
  refine loop_same 1 _ (fun k hk=>?_) ?_
  ·obtain rfl:k=0:=by omega
   unfold symmetry_check_l1
   simp only [List.length_cons,List.length_nil,Nat.zero_add,show decide (((0:Nat):Int) < ((1:Nat):Int))=true from rfl,if_true,show idxO [g] ((0:Nat):Int)=some g from rfl,Option.bind_some,(gcheck_eq g).1,gr_err G,bne_self_eq_false,Bool.false_eq_true,if_false]
   rfl
  ·unfold symmetry_check_l1
   simp only [List.length_cons,List.length_nil,Nat.zero_add,show decide (((1:Nat):Int) < ((1:Nat):Int))=false from rfl,Bool.false_eq_true,if_false]
 have hl2:whileO (symmetry_check_l2 [g]) 0=some (.inr ()):=by
  refine loop_same 1 _ (fun k hk=>?_) ?_
  ·obtain rfl:k=0:=by omega
   have hm:¬ (16:Int) < (if g.W < g.H then g.H else g.W):=by rw [G.hw,G.hh]; split <;> omega
   unfold symmetry_check_l2
   simp only [List.length_cons,List.length_nil,Nat.zero_add,show decide (((0:Nat):Int) < ((1:Nat):Int))=true from rfl,if_true,show idxO [g] ((0:Nat):Int)=some g from rfl,Option.bind_some,dF hm,Bool.false_eq_true,if_false]
   rfl
  ·unfold symmetry_check_l2
   simp only [List.length_cons,List.length_nil,Nat.zero_add,show decide (((1:Nat):Int) < ((1:Nat):Int))=false from rfl,Bool.false_eq_true,if_false]
 unfold F_symmetry_Apply F_symmetry_check F_symmetry_is
 simp only [hl1,hl2,Option.bind_some,bne_self_eq_false,Bool.false_eq_true,if_false,dT (show (0:Int) ≤ (op:Int) by omega),dT (show (op:Int) < 16 by omega),if_true,Bool.not_true,applied_eq G]
 rfl
theorem shift_sh {g:api_Grid} {w h x y:Nat} (G:Gr g w h) (hx:x < w) (hy:y < h):F_grid_Shift g (x:Int) (y:Int)=some (shS g w h x y,0):=by
 have:=G.w1
 have:=G.h1
 have h1:=shift_eq G (dx:=(x:Int)) (dy:=(y:Int)) (by omega) (by omega) (by omega) (by omega)
 rw [← Int.natCast_emod,← Int.natCast_emod,Nat.mod_eq_of_lt hx,Nat.mod_eq_of_lt hy,Int.toNat_natCast,Int.toNat_natCast] at h1
 exact h1
def mvT (g:api_Grid) (w h t:Nat):api_Grid:=shS (apB g w h ((t / w / h:Nat):Int)) w h (t % w) (t / w % h)
def fT (g b:api_Grid) (w h t:Nat):Nat:=dl (mvT g w h t).Bits b.Bits (w * h)
def stT (g b:api_Grid) (w h t:Nat):Int × Int × Int × Int:=
 (((fm (fT g b w h) (w * h + 1) t).1:Int),(((fm (fT g b w h) (w * h + 1) t).2 / w / h:Nat):Int),(((fm (fT g b w h) (w * h + 1) t).2 % w:Nat):Int),(((fm (fT g b w h) (w * h + 1) t).2 / w % h:Nat):Int))
theorem fT_le (g b:api_Grid) (w h t:Nat):fT g b w h t ≤ w * h:=dl_le _ _ _
theorem stT_next (g b:api_Grid) (w h t:Nat):stT g b w h (t + 1)=if fT g b w h t < (fm (fT g b w h) (w * h + 1) t).1 then (((fT g b w h t:Nat):Int),((t / w / h:Nat):Int),((t % w:Nat):Int),((t / w % h:Nat):Int)) else stT g b w h t:=by
 unfold stT
 simp only [fm]
 by_cases c:fT g b w h t < (fm (fT g b w h) (w * h + 1) t).1
 ·rw [if_pos c,if_pos c]
 ·rw [if_neg c,if_neg c]
theorem tri {w h x y op:Nat} (hx:x < w) (hy:y < h):((op * h + y) * w + x) % w=x∧((op * h + y) * w + x) / w % h=y∧((op * h + y) * w + x) / w / h=op:=by
 rw [pl_div hx,pl_mod hx,pl_mod hy,pl_div hy]
 exact ⟨rfl,rfl,rfl⟩
theorem near_body {g b:api_Grid} {w h n op x y:Nat} (G:Gr g w h) (B:Gr b w h) (K:Kp w h n) (hop:op < n) (hx:x < w) (hy:y < h) :
 compare_Nearest_l2 b (stT g b w h ((op * h + y) * w + x)) (compare_way.mk (op:Int) (api_Point.mk (x:Int) (y:Int)),shS (apB g w h (op:Int)) w h x y) =
  some (if (fm (fT g b w h) (w * h + 1) ((op * h + y) * w + x + 1)).1=0 then .inr (stT g b w h ((op * h + y) * w + x + 1)) else .inl (stT g b w h ((op * h + y) * w + x + 1))):=by
 obtain ⟨e1,e2,e3⟩:=tri (op:=op) hx hy
 have M:=shS_gr (x:=x) (y:=y) (apB_gr G K hop)
 have hm:mvT g w h ((op * h + y) * w + x)=shS (apB g w h (op:Int)) w h x y:=by unfold mvT; rw [e1,e2,e3]
 have hd:F_compare_differ (shS (apB g w h (op:Int)) w h x y).Bits b.Bits=some ((fT g b w h ((op * h + y) * w + x):Nat):Int):=by
  rw [differ_eq (by rw [M.len,B.len]) (by have:=gbits M; omega),M.len]
  unfold fT
  rw [hm]
 have hs:=stT_next g b w h ((op * h + y) * w + x)
 rw [e1,e2,e3] at hs
 have hv:(stT g b w h ((op * h + y) * w + x + 1)).1=((fm (fT g b w h) (w * h + 1) ((op * h + y) * w + x + 1)).1:Int):=rfl
 have q:stT g b w h ((op * h + y) * w + x)=(((fm (fT g b w h) (w * h + 1) ((op * h + y) * w + x)).1:Int),(stT g b w h ((op * h + y) * w + x)).2.1,(stT g b w h ((op * h + y) * w + x)).2.2.1,(stT g b w h ((op * h + y) * w + x)).2.2.2):=rfl
 unfold compare_Nearest_l2
 rw [q]
 dsimp only
 rw [hd]
 by_cases c:fT g b w h ((op * h + y) * w + x) < (fm (fT g b w h) (w * h + 1) ((op * h + y) * w + x)).1
 ·rw [if_pos c] at hs
  rw [hs] at hv ⊢
  simp only [Option.bind_some,dT (show ((fT g b w h ((op * h + y) * w + x):Nat):Int) < ((fm (fT g b w h) (w * h + 1) ((op * h + y) * w + x)).1:Int) by omega),if_true]
  have hv3:((fT g b w h ((op * h + y) * w + x):Nat):Int)=((fm (fT g b w h) (w * h + 1) ((op * h + y) * w + x + 1)).1:Int):=hv
  by_cases z:(fm (fT g b w h) (w * h + 1) ((op * h + y) * w + x + 1)).1=0
  ·rw [if_pos z,bT (by omega)]; rfl
  ·rw [if_neg z,bF (by omega)]; rfl
 ·rw [if_neg c] at hs
  rw [hs] at hv ⊢
  have hv2:((fm (fT g b w h) (w * h + 1) ((op * h + y) * w + x)).1:Int)=((fm (fT g b w h) (w * h + 1) ((op * h + y) * w + x + 1)).1:Int):=hv
  simp only [Option.bind_some,dF (show ¬ ((fT g b w h ((op * h + y) * w + x):Nat):Int) < ((fm (fT g b w h) (w * h + 1) ((op * h + y) * w + x)).1:Int) by omega),Bool.false_eq_true,if_false]
  by_cases z:(fm (fT g b w h) (w * h + 1) ((op * h + y) * w + x + 1)).1=0
  ·rw [if_pos z,bT (by omega)]; rfl
  ·rw [if_neg z,bF (by omega)]; rfl
theorem stT_stop {g b:api_Grid} {w h t N:Nat} (hz:(fm (fT g b w h) (w * h + 1) t).1=0) (hN:t ≤ N):stT g b w h t=stT g b w h N:=by
 have:=fm_stop hz (N - t)
 rw [show t + (N - t)=N by omega] at this
 unfold stT
 rw [this]
theorem blk_inN {x w n i:Nat} (hx:x < w) (hi:i < n):i * w + x < n * w:=by rw [Nat.mul_comm n w]; exact pl_lt hx hi
theorem ways_eq {g b:api_Grid} {w h n:Nat} (G:Gr g w h) (B:Gr b w h) (hw:w ≤ 16) (hh:h ≤ 16) (K:Kp w h (n + 1)) (hn:n < 16) :
 ∃ z,whileO (compare_ways_1_l3 (n:Int) g (compare_Nearest_l2 b)) (0,stT g b w h 0)=some z∧(z=.inr (stT g b w h ((n + 1) * h * w)) ∨ z=.inl (.inr (stT g b w h ((n + 1) * h * w)))):=by
 have bnd:∀ op y x,op < n + 1→y < h→x < w→(op * h + y) * w + x + 1 ≤ (n + 1) * h * w:=by
  intro op y x h1 h2 h3
  have k1:=blk_inN h2 h1
  have k2:=blk_inN h3 k1
  omega
 have hrow:∀ op y,op < n + 1→y < h→whileO (compare_ways_1_l1 g (apB g w h (op:Int),0) (y:Int) (compare_Nearest_l2 b) (op:Int)) (0,stT g b w h ((op * h + y) * w)) =
  some (if (List.range w).all (fun k=>decide (¬ (fm (fT g b w h) (w * h + 1) ((op * h + y) * w + k + 1)).1=0))=true then .inr (stT g b w h ((op * h + y) * w + w)) else .inl (.inr (stT g b w h ((n + 1) * h * w)))):=by
  intro op y hop hy
  have h1:=loop_seqf (B:=compare_ways_1_l1 g (apB g w h (op:Int),0) (y:Int) (compare_Nearest_l2 b) (op:Int)) (fun k=>((k:Int),stT g b w h ((op * h + y) * w + k))) w (fun k=>decide (¬ (fm (fT g b w h) (w * h + 1) ((op * h + y) * w + k + 1)).1=0))
   (bad:=.inl (.inr (stT g b w h ((n + 1) * h * w)))) (t:=.inr (stT g b w h ((op * h + y) * w + w)))
   (fun k hk _=>by
    have hb:=bnd op y k hop hy hk
    unfold compare_ways_1_l1
    simp only [G.hw,dT (show (k:Int) < (w:Int) by omega),if_true,shift_sh (apB_gr G K hop) hk hy,Option.bind_some,near_body G B K hop hk hy]
    by_cases z:(fm (fT g b w h) (w * h + 1) ((op * h + y) * w + k + 1)).1=0
    ·rw [if_pos z,dF (show ¬ ¬ (fm (fT g b w h) (w * h + 1) ((op * h + y) * w + k + 1)).1=0 from fun q=>q z),stT_stop z hb]
     rfl
    ·rw [if_neg z,dT z,if_pos rfl]
     simp only [w64_succ (show k < 9223372036854775807 by omega)]
     rfl)
   (fun _=>by
    unfold compare_ways_1_l1
    simp only [G.hw,dF (show ¬ (w:Int) < (w:Int) by omega),Bool.false_eq_true,if_false])
  exact h1
 have hcol:∀ op,op < n + 1→whileO (compare_ways_1_l2 g (apB g w h (op:Int),0) (compare_Nearest_l2 b) (op:Int)) (0,stT g b w h ((op * h) * w)) =
  some (if (List.range h).all (fun y=>(List.range w).all (fun k=>decide (¬ (fm (fT g b w h) (w * h + 1) ((op * h + y) * w + k + 1)).1=0)))=true then .inr (stT g b w h ((op * h + h) * w)) else .inl (.inr (stT g b w h ((n + 1) * h * w)))):=by
  intro op hop
  have h1:=loop_seqf (B:=compare_ways_1_l2 g (apB g w h (op:Int),0) (compare_Nearest_l2 b) (op:Int)) (fun y=>((y:Int),stT g b w h ((op * h + y) * w))) h (fun y=>(List.range w).all (fun k=>decide (¬ (fm (fT g b w h) (w * h + 1) ((op * h + y) * w + k + 1)).1=0)))
   (bad:=.inl (.inr (stT g b w h ((n + 1) * h * w)))) (t:=.inr (stT g b w h ((op * h + h) * w)))
   (fun y hy _=>by
    unfold compare_ways_1_l2
    simp only [G.hh,dT (show (y:Int) < (h:Int) by omega),if_true,hrow op y hop hy,Option.bind_some]
    cases (List.range w).all (fun k=>decide (¬ (fm (fT g b w h) (w * h + 1) ((op * h + y) * w + k + 1)).1=0)) with
    | false=>rfl
    | true=>
     simp only [if_true,Option.bind_some,w64_succ (show y < 9223372036854775807 by omega)]
     rw [show (op * h + (y + 1)) * w=(op * h + y) * w + w by rw [← Nat.add_assoc,Nat.add_mul _ 1,Nat.one_mul]])
   (fun _=>by
    unfold compare_ways_1_l2
    simp only [G.hh,dF (show ¬ (h:Int) < (h:Int) by omega),Bool.false_eq_true,if_false])
  exact h1
 have h1:=loop_seqf (B:=compare_ways_1_l3 (n:Int) g (compare_Nearest_l2 b)) (fun op=>((op:Int),stT g b w h ((op * h) * w))) (n + 1) (fun op=>(List.range h).all (fun y=>(List.range w).all (fun k=>decide (¬ (fm (fT g b w h) (w * h + 1) ((op * h + y) * w + k + 1)).1=0))))
  (bad:=.inl (.inr (stT g b w h ((n + 1) * h * w)))) (t:=.inr (stT g b w h ((n + 1) * h * w)))
  (fun op hop _=>by
   unfold compare_ways_1_l3
   simp only [dT (show (op:Int) ≤ (n:Int) by omega),if_true,apply_eq G hw hh (show op < 16 by omega),Option.bind_some,hcol op hop]
   cases (List.range h).all (fun y=>(List.range w).all (fun k=>decide (¬ (fm (fT g b w h) (w * h + 1) ((op * h + y) * w + k + 1)).1=0))) with
   | false=>rfl
   | true=>
    simp only [if_true,Option.bind_some,w64_succ (show op < 9223372036854775807 by omega)]
    rw [show (op + 1) * h * w=(op * h + h) * w by rw [Nat.add_mul op,Nat.one_mul]])
  (fun _=>by
   unfold compare_ways_1_l3
   simp only [dF (show ¬ ((n + 1:Nat):Int) ≤ (n:Int) by omega),Bool.false_eq_true,if_false])
 have e0:(((0:Nat):Int),stT g b w h (0 * h * w))=((0:Int),stT g b w h 0):=by rw [Nat.zero_mul,Nat.zero_mul]; rfl
 simp only [e0] at h1
 refine ⟨_,h1,?_⟩
 split
 ·exact .inl rfl
 ·exact .inr rfl
def lastN (grp:Int):Nat:=if grp=0 then 0 else if grp=1 then 3 else if grp=2 then 7 else 15
theorem lastN_lt (grp:Int):lastN grp < 16:=by
 unfold lastN
 repeat' split
 all_goals omega
theorem last_eq (grp:Int):F_raddleref46_Last grp=some ((lastN grp:Nat):Int):=by
 unfold F_raddleref46_Last lastN
 by_cases h0:grp=0
 ·rw [bT h0,if_pos h0]; rfl
 by_cases h1:grp=1
 ·rw [bF h0,bT h1,if_neg h0,if_pos h1]; rfl
 by_cases h2:grp=2
 ·rw [bF h0,bF h1,bT h2,if_neg h0,if_neg h1,if_pos h2]; rfl
 ·rw [bF h0,bF h1,bF h2,if_neg h0,if_neg h1,if_neg h2]; rfl
theorem last_idx {grp:Int} (h0:0 ≤ grp) (h3:grp ≤ 3):idxO ([0,3,7,15]:List Int) grp=some ((lastN grp:Nat):Int):=by
 have:grp=0 ∨ grp=1 ∨ grp=2 ∨ grp=3:=by omega
 rcases this with rfl | rfl | rfl | rfl <;> rfl
theorem last_kp {grp:Int} (h0:0 ≤ grp) (h3:grp ≤ 3) {w h:Nat} (hs:1 < grp→w=h):Kp w h (lastN grp + 1):=by
 intro op hop hc
 have:grp=0 ∨ grp=1 ∨ grp=2 ∨ grp=3:=by omega
 rcases this with rfl | rfl | rfl | rfl
 ·have:op < 1:=hop
  obtain rfl:op=0:=by omega
  exact absurd hc (by decide)
 ·have:op < 4:=hop
  have:op=0 ∨ op=1 ∨ op=2 ∨ op=3:=by omega
  rcases this with rfl | rfl | rfl | rfl <;> exact absurd hc (by decide)
 ·exact hs (by decide)
 ·exact hs (by decide)
def oddS (a b:api_Grid) (grp:Int):Prop:=grp < 0 ∨ 3 < grp ∨ ¬ a.W=b.W ∨ ¬ a.H=b.H ∨ (1 < grp∧¬ a.W=a.H)
instance (a b:api_Grid) (grp:Int):Decidable (oddS a b grp):=by unfold oddS; infer_instance
theorem odd_eq (a b:api_Grid) (grp:Int):(if decide (grp < 0)=true then some true else if decide (3 < grp)=true then some true else if (a.W != b.W)=true then some true else if (a.H != b.H)=true then some true else if decide (1 < grp)=true then some (a.W != a.H) else some false)=some (decide (oddS a b grp)):=by
 by_cases c1:grp < 0
 ·rw [dT c1,dT (show oddS a b grp from .inl c1)]; rfl
 by_cases c2:3 < grp
 ·rw [dF c1,dT c2,dT (show oddS a b grp from .inr (.inl c2))]; rfl
 by_cases c3:a.W=b.W
 case neg=>rw [dF c1,dF c2,nT c3,dT (show oddS a b grp from .inr (.inr (.inl c3)))]; rfl
 by_cases c4:a.H=b.H
 case neg=>rw [dF c1,dF c2,nF c3,nT c4,dT (show oddS a b grp from .inr (.inr (.inr (.inl c4))))]; rfl
 by_cases c5:1 < grp
 ·by_cases c6:a.W=a.H
  ·rw [dF c1,dF c2,nF c3,nF c4,dT c5,nF c6,dF (show ¬ oddS a b grp by unfold oddS; omega)]; rfl
  ·rw [dF c1,dF c2,nF c3,nF c4,dT c5,nT c6,dT (show oddS a b grp from .inr (.inr (.inr (.inr ⟨c5,c6⟩))))]; rfl
 ·rw [dF c1,dF c2,nF c3,nF c4,dF c5,dF (show ¬ oddS a b grp by unfold oddS; omega)]; rfl
def bigS (a b:api_Grid):Prop:=16 < a.W ∨ 16 < a.H ∨ 16 < b.W ∨ 16 < b.H
instance (a b:api_Grid):Decidable (bigS a b):=by unfold bigS; infer_instance
def startS (a b:api_Grid) (grp:Int):Int:=if gerr a=0 then (if gerr b=0 then (if bigS a b then 4 else if oddS a b grp then 2 else 0) else gerr b) else gerr a
theorem start_ok {a b:api_Grid} {grp:Int} (h:startS a b grp=0):∃ w h,Gr a w h∧Gr b w h∧w ≤ 16∧h ≤ 16∧0 ≤ grp∧grp ≤ 3∧(1 < grp→w=h):=by
 unfold startS at h
 by_cases h1:gerr a=0
 case neg=>rw [if_neg h1] at h; exact absurd h h1
 by_cases h2:gerr b=0
 case neg=>rw [if_pos h1,if_neg h2] at h; exact absurd h h2
 rw [if_pos h1,if_pos h2] at h
 by_cases h3:bigS a b
 ·rw [if_pos h3] at h; cases h
 rw [if_neg h3] at h
 by_cases h4:oddS a b grp
 ·rw [if_pos h4] at h; cases h
 obtain ⟨w,k,A⟩:=gerr_zero h1
 obtain ⟨w',k',B⟩:=gerr_zero h2
 unfold bigS at h3
 unfold oddS at h4
 have q1:=A.hw
 have q2:=A.hh
 have q3:=B.hw
 have q4:=B.hh
 obtain ⟨rfl,rfl⟩:w'=w∧k'=k:=by omega
 exact ⟨w',k',A,B,by omega,by omega,by omega,by omega,fun _=>by omega⟩
theorem start_of {a b:api_Grid} {w h:Nat} {grp:Int} (A:Gr a w h) (B:Gr b w h) (hw:w ≤ 16) (hh:h ≤ 16) (g0:0 ≤ grp) (g3:grp ≤ 3) (gs:1 < grp→w=h):startS a b grp=0:=by
 have q1:=A.hw
 have q2:=A.hh
 have q3:=B.hw
 have q4:=B.hh
 unfold startS
 rw [if_pos (gr_err A),if_pos (gr_err B),if_neg (by unfold bigS; omega),if_neg (by unfold oddS; omega)]
theorem rstart_eq (a b:api_Grid) (grp:Int):F_raddleref46_Start a b grp=some (startS a b grp):=by
 unfold F_raddleref46_Start startS
 simp only [rboth_eq,Option.bind_some]
 by_cases h1:gerr a=0
 case neg=>rw [if_neg h1,if_neg h1]; simp only [nT h1,if_true]
 rw [if_pos h1,if_pos h1]
 by_cases h2:gerr b=0
 case neg=>rw [if_neg h2]; simp only [nT h2,if_true]
 rw [if_pos h2]
 have hb:(if decide (16 < a.W)=true then some true else if decide (16 < a.H)=true then some true else if decide (16 < b.W)=true then some true else some (decide (16 < b.H)))=some (decide (bigS a b)):=by
  by_cases c1:16 < a.W
  ·rw [dT c1,dT (show bigS a b from .inl c1)]; rfl
  by_cases c2:16 < a.H
  ·rw [dF c1,dT c2,dT (show bigS a b from .inr (.inl c2))]; rfl
  by_cases c3:16 < b.W
  ·rw [dF c1,dF c2,dT c3,dT (show bigS a b from .inr (.inr (.inl c3)))]; rfl
  rw [dF c1,dF c2,dF c3]
  simp only [Bool.false_eq_true,if_false]
  congr 1
  exact decide_eq_decide.2 (by unfold bigS; omega)
 rw [hb]
 simp only [nF h2,Bool.false_eq_true,if_false,Option.bind_some]
 by_cases h3:bigS a b
 ·rw [if_pos h3]; simp only [dT h3,if_true]
 rw [if_neg h3,odd_eq]
 simp only [dF h3,Bool.false_eq_true,if_false,Option.bind_some]
 by_cases h4:oddS a b grp
 ·rw [if_pos h4]; simp only [dT h4,if_true]
 ·rw [if_neg h4]; simp only [dF h4,Bool.false_eq_true,if_false]
def nearS (a b:api_Grid) (grp:Int):Int × Int × api_Point × Int:=
 if startS a b grp=0 then ((stT a b a.W.toNat a.H.toNat ((lastN grp + 1) * a.H.toNat * a.W.toNat)).1,(stT a b a.W.toNat a.H.toNat ((lastN grp + 1) * a.H.toNat * a.W.toNat)).2.1,⟨(stT a b a.W.toNat a.H.toNat ((lastN grp + 1) * a.H.toNat * a.W.toNat)).2.2.1,(stT a b a.W.toNat a.H.toNat ((lastN grp + 1) * a.H.toNat * a.W.toNat)).2.2.2⟩,0) else (0,0,⟨0,0⟩,startS a b grp)
theorem nearS_ok {a b:api_Grid} {w h:Nat} {grp:Int} (A:Gr a w h) (hs:startS a b grp=0):nearS a b grp=((stT a b w h ((lastN grp + 1) * h * w)).1,(stT a b w h ((lastN grp + 1) * h * w)).2.1,⟨(stT a b w h ((lastN grp + 1) * h * w)).2.2.1,(stT a b w h ((lastN grp + 1) * h * w)).2.2.2⟩,0):=by
 have e1:a.W.toNat=w:=by rw [A.hw]; rfl
 have e2:a.H.toNat=h:=by rw [A.hh]; rfl
 unfold nearS
 rw [if_pos hs,e1,e2]
theorem nearest_eq (a b:api_Grid) (grp:Int):F_compare_Nearest a b grp=some (nearS a b grp):=by
 by_cases hs:startS a b grp=0
 ·obtain ⟨w,h,A,B,hw,hh,g0,g3,gs⟩:=start_ok hs
  have K:=last_kp g0 g3 gs
  obtain ⟨z,hz,hc⟩:=ways_eq A B hw hh K (lastN_lt grp)
  have hm:¬ (16:Int) < max4 a.W a.H b.W b.H:=by
   rw [A.hw,A.hh,B.hw,B.hh]
   unfold max4 max3
   repeat' split
   all_goals omega
  have ho:¬ oddS a b grp:=by
   have q1:=A.hw
   have q2:=A.hh
   have q3:=B.hw
   have q4:=B.hh
   unfold oddS
   omega
  have st0:(w64 ((a.Bits.length:Int) + 1),(0:Int),(0:Int),(0:Int))=stT a b w h 0:=by
   have hl:=A.len
   have:=gbits A
   rw [w64_succ (by omega),hl]
   unfold stT
   simp only [fm,Nat.zero_div,Nat.zero_mod]
   rfl
  rw [nearS_ok A hs]
  unfold F_compare_Nearest F_compare_ways I_compare_ways_1
  rw [odd_eq]
  simp only [(gcheck_eq a).1,(gcheck_eq b).1,gr_err A,gr_err B,bne_self_eq_false,Bool.false_eq_true,if_false,Option.bind_some,dF hm,dF ho,last_idx g0 g3,st0,hz]
  rcases hc with rfl | rfl <;> rfl
 ·unfold nearS
  rw [if_neg hs]
  unfold startS at hs ⊢
  unfold F_compare_Nearest
  rw [odd_eq]
  by_cases h1:gerr a=0
  case neg=>rw [if_neg h1]; simp only [(gcheck_eq a).1,Option.bind_some,nT h1,if_true]
  by_cases h2:gerr b=0
  case neg=>rw [if_pos h1,if_neg h2]; simp only [(gcheck_eq a).1,(gcheck_eq b).1,Option.bind_some,nF h1,nT h2,Bool.false_eq_true,if_false,if_true]
  rw [if_pos h1,if_pos h2] at hs ⊢
  have hm:(16:Int) < max4 a.W a.H b.W b.H ↔ bigS a b:=by
   unfold max4 max3 bigS
   repeat' split
   all_goals omega
  by_cases h3:bigS a b
  ·rw [if_pos h3]; simp only [(gcheck_eq a).1,(gcheck_eq b).1,Option.bind_some,nF h1,nF h2,Bool.false_eq_true,if_false,dT (hm.2 h3),if_true]
  rw [if_neg h3] at hs ⊢
  by_cases h4:oddS a b grp
  ·rw [if_pos h4]; simp only [(gcheck_eq a).1,(gcheck_eq b).1,Option.bind_some,nF h1,nF h2,Bool.false_eq_true,if_false,dF (fun q=>h3 (hm.1 q)),dT h4,if_true]
  ·rw [if_neg h4] at hs; exact absurd rfl hs
def cellsS (a b:api_Grid):Int × Int:=if gerr a=0 then (if gerr b=0 then (if a.W=b.W∧a.H=b.H then (((dl a.Bits b.Bits a.Bits.length:Nat):Int),0) else (0,2)) else (0,gerr b)) else (0,gerr a)
theorem cells_eq (a b:api_Grid):F_compare_Cells a b=some (cellsS a b)∧F_raddleref46_Cells a b=some (cellsS a b):=by
 unfold F_compare_Cells F_raddleref46_Cells cellsS
 simp only [(gcheck_eq a).1,(gcheck_eq b).1,rboth_eq,Option.bind_some]
 by_cases h1:gerr a=0
 case neg=>rw [if_neg h1,if_neg h1]; simp only [nT h1,if_true,and_self]
 by_cases h2:gerr b=0
 case neg=>rw [if_pos h1,if_pos h1,if_neg h2]; simp only [nF h1,nT h2,Bool.false_eq_true,if_false,if_true,and_self]
 rw [if_pos h1,if_pos h1,if_pos h2]
 by_cases h3:a.W=b.W
 case neg=>rw [if_neg (show ¬ (a.W=b.W∧a.H=b.H) from fun q=>h3 q.1)]; simp only [nF h1,nF h2,nT h3,Bool.false_eq_true,if_false,if_true,Option.bind_some,and_self]
 by_cases h4:a.H=b.H
 case neg=>rw [if_neg (show ¬ (a.W=b.W∧a.H=b.H) from fun q=>h4 q.2)]; simp only [nF h1,nF h2,nF h3,nT h4,Bool.false_eq_true,if_false,if_true,Option.bind_some,and_self]
 obtain ⟨w,h,A⟩:=gerr_zero h1
 obtain ⟨w',h',B⟩:=gerr_zero h2
 have q1:=A.hw
 have q2:=A.hh
 have q3:=B.hw
 have q4:=B.hh
 obtain ⟨rfl,rfl⟩:w'=w∧h'=h:=by omega
 have hl:a.Bits.length=b.Bits.length:=by rw [A.len,B.len]
 have:=gbits A
 rw [if_pos (show a.W=b.W∧a.H=b.H from ⟨h3,h4⟩)]
 simp only [nF h1,nF h2,nF h3,nF h4,Bool.false_eq_true,if_false,Option.bind_some,differ_eq hl (show a.Bits.length ≤ 1000000 by omega),rdiffer_eq hl (show a.Bits.length ≤ 1000000 by omega),and_self]
theorem rgreat46_eq (a:api_Grid):F_raddleref46_GreatGrid a=some (decide (36 < a.Bits.length∧a.W ≤ 16∧a.H ≤ 16 ∨ 4200 < a.Bits.length)):=by
 unfold F_raddleref46_GreatGrid
 by_cases h1:36 < a.Bits.length
 ·by_cases h2:a.W ≤ 16
  ·by_cases h3:a.H ≤ 16
   ·simp only [dT (show (36:Int) < (a.Bits.length:Int) by omega),dT h2,dT h3,if_true,Option.bind_some,dT (show 36 < a.Bits.length∧a.W ≤ 16∧a.H ≤ 16 ∨ 4200 < a.Bits.length from .inl ⟨h1,h2,h3⟩)]
   ·simp only [dT (show (36:Int) < (a.Bits.length:Int) by omega),dT h2,dF h3,if_true,Bool.false_eq_true,if_false,Option.bind_some]
    congr 1
    exact decide_eq_decide.2 (by omega)
  ·simp only [dT (show (36:Int) < (a.Bits.length:Int) by omega),dF h2,if_true,Bool.false_eq_true,if_false,Option.bind_some]
   congr 1
   exact decide_eq_decide.2 (by omega)
 ·simp only [dF (show ¬ (36:Int) < (a.Bits.length:Int) by omega),Bool.false_eq_true,if_false,Option.bind_some]
  congr 1
  exact decide_eq_decide.2 (by omega)
def bt (op:Int) (k:Int):Bool:=(andI .i64 op k) != 0
def moOf (w h op x y:Nat):Mo:=
 if bt (op:Int) 4=true then ⟨true,bt (op:Int) 1,bt (op:Int) 2,if bt (op:Int) 1=true then (w:Int) - 1 + (y:Int) else -(y:Int),if bt (op:Int) 2=true then (h:Int) - 1 + (x:Int) else -(x:Int),bt (op:Int) 8⟩
 else ⟨false,bt (op:Int) 1,bt (op:Int) 2,if bt (op:Int) 1=true then (w:Int) - 1 + (x:Int) else -(x:Int),if bt (op:Int) 2=true then (h:Int) - 1 + (y:Int) else -(y:Int),bt (op:Int) 8⟩
theorem mod_is {n k:Nat} (hk:k < n) {Z j:Int} (h:Z=(k:Int) + (n:Int) * j):(Z % (n:Int)).toNat=k:=by
 rw [h,Int.add_mul_emod_self_left,← Int.natCast_emod,Nat.mod_eq_of_lt hk,Int.toNat_natCast]
theorem back_at {n x:Nat} (hn:1 ≤ n) (hx:x < n) (X:Int):∃ (u:Nat) (j:Int),u < n∧X - (x:Int)=(u:Int) + (n:Int) * j∧((X % (n:Int)).toNat + (n - x)) % n=u:=by
 have e0:=Int.emod_nonneg X (show (n:Int) ≠ 0 by omega)
 obtain ⟨r,hr⟩:∃ r:Nat,X % (n:Int)=r:=⟨(X % (n:Int)).toNat,by omega⟩
 have hd:=Int.emod_add_mul_ediv X (n:Int)
 have hd2:=Nat.div_add_mod (r + (n - x)) n
 refine ⟨(r + (n - x)) % n,X / (n:Int) + (((r + (n - x)) / n:Nat):Int) - 1,Nat.mod_lt _ hn,?_,by rw [hr,Int.toNat_natCast]⟩
 rw [hr] at hd
 have hd3:(n:Int) * (((r + (n - x)) / n:Nat):Int) + (((r + (n - x)) % n:Nat):Int)=((r + (n - x):Nat):Int):=by
  rw [← Int.natCast_mul,← Int.natCast_add,hd2]
 rw [Int.mul_sub,Int.mul_add,Int.mul_one]
 generalize (n:Int) * (X / (n:Int))=A at *
 generalize (n:Int) * (((r + (n - x)) / n:Nat):Int)=B at *
 omega
theorem flip_at {n u:Nat} (hu:u < n) (p:Bool) {x:Nat} {X j:Int} (h:X - (x:Int)=(u:Int) + (n:Int) * j):((sg p X + (if p=true then (n:Int) - 1 + (x:Int) else -(x:Int))) % (n:Int)).toNat=if p=true then n - 1 - u else u:=by
 cases p with
 | false=>
  refine mod_is hu (j:=j) ?_
  simp only [sg,Bool.false_eq_true,if_false]
  omega
 | true=>
  refine mod_is (show n - 1 - u < n by omega) (j:=-j) ?_
  simp only [sg,if_true]
  rw [Int.mul_neg]
  omega
theorem mv_ext {g:api_Grid} {w h n op x y:Nat} (G:Gr g w h) (K:Kp w h n) (hop:op < n) (hx:x < w) (hy:y < h):ext (shS (apB g w h (op:Int)) w h x y) w h=act (moOf w h op x y) (ext g w h):=by
 have w0:=G.w0
 have h0:=G.h0
 funext X Y
 obtain ⟨u,j,hu,ju,eu⟩:=back_at w0 hx X
 obtain ⟨v,k,hv,kv,ev⟩:=back_at h0 hy Y
 have m1:(X % (w:Int)).toNat < w:=by
  have e0:=Int.emod_nonneg X (show (w:Int) ≠ 0 by omega)
  have e1:=Int.emod_lt_of_pos X (show (0:Int) < w by omega)
  omega
 have m2:(Y % (h:Int)).toNat < h:=by
  have e0:=Int.emod_nonneg Y (show (h:Int) ≠ 0 by omega)
  have e1:=Int.emod_lt_of_pos Y (show (0:Int) < h by omega)
  omega
 have hl:ext (shS (apB g w h (op:Int)) w h x y) w h X Y=apf g w h (bt (op:Int) 1) (bt (op:Int) 2) (bt (op:Int) 4) (bt (op:Int) 8) u v:=by
  show cell (gm _ w h) w (X % (w:Int)).toNat (Y % (h:Int)).toNat=_
  rw [gm_cell _ m1 m2,eu,ev,apB_eq K hop,gm_cell _ hu hv]
  rfl
 rw [hl]
 unfold act moOf apf ext
 cases h4:bt (op:Int) 4 with
 | false=>
  simp only [Bool.false_eq_true,if_false]
  rw [flip_at hu _ ju,flip_at hv _ kv]
 | true=>
  obtain rfl:=K op hop h4
  simp only [if_true]
  rw [flip_at hv _ kv,flip_at hu _ ju]
def okG (grp:Int) (m:Mo):Prop:=(m.p=true→1 ≤ grp)∧(m.q=true→1 ≤ grp)∧(m.e=true→2 ≤ grp)∧(m.s=true→3 ≤ grp)
theorem okG_cmp {grp:Int} {m k:Mo} (hm:okG grp m) (hk:okG grp k):okG grp (cmp m k):=by
 obtain ⟨e1,p1,q1,c1,d1,s1⟩:=m
 obtain ⟨e2,p2,q2,c2,d2,s2⟩:=k
 obtain ⟨a1,a2,a3,a4⟩:=hm
 obtain ⟨b1,b2,b3,b4⟩:=hk
 simp only at a1 a2 a3 a4 b1 b2 b3 b4
 unfold okG cmp
 cases e1 <;> cases e2 <;> cases p1 <;> cases p2 <;> cases q1 <;> cases q2 <;> cases s1 <;> cases s2 <;> simp_all
theorem okG_inv {grp:Int} {m:Mo} (hm:okG grp m):okG grp (inv m):=by
 obtain ⟨e1,p1,q1,c1,d1,s1⟩:=m
 obtain ⟨a1,a2,a3,a4⟩:=hm
 simp only at a1 a2 a3 a4
 unfold okG inv
 cases e1 <;> simp_all
theorem moOf_ok {grp:Int} (g0:0 ≤ grp) (g3:grp ≤ 3) {w h op x y:Nat} (hop:op < lastN grp + 1):okG grp (moOf w h op x y):=by
 have hb:(bt (op:Int) 1=true→1 ≤ grp)∧(bt (op:Int) 2=true→1 ≤ grp)∧(bt (op:Int) 4=true→2 ≤ grp)∧(bt (op:Int) 8=true→3 ≤ grp):=by
  have:grp=0 ∨ grp=1 ∨ grp=2 ∨ grp=3:=by omega
  rcases this with rfl | rfl | rfl | rfl
  ·have:op < 1:=hop
   obtain rfl:op=0:=by omega
   decide
  ·have:op < 4:=hop
   have:op=0 ∨ op=1 ∨ op=2 ∨ op=3:=by omega
   rcases this with rfl | rfl | rfl | rfl <;> decide
  ·have:op < 8:=hop
   have:op=0 ∨ op=1 ∨ op=2 ∨ op=3 ∨ op=4 ∨ op=5 ∨ op=6 ∨ op=7:=by omega
   rcases this with rfl | rfl | rfl | rfl | rfl | rfl | rfl | rfl <;> decide
  ·exact ⟨fun _=>by decide,fun _=>by decide,fun _=>by decide,fun _=>by decide⟩
 unfold moOf
 cases h4:bt (op:Int) 4 with
 | false=>exact ⟨hb.1,hb.2.1,fun q=>(by cases q),hb.2.2.2⟩
 | true=>exact ⟨hb.1,hb.2.1,fun _=>hb.2.2.1 h4,hb.2.2.2⟩
def bn (b:Bool) (k:Nat):Nat:=if b=true then k else 0
theorem bits_of (p q e s:Bool):bt ((bn p 1 + bn q 2 + bn e 4 + bn s 8:Nat):Int) 1=p∧bt ((bn p 1 + bn q 2 + bn e 4 + bn s 8:Nat):Int) 2=q∧bt ((bn p 1 + bn q 2 + bn e 4 + bn s 8:Nat):Int) 4=e∧bt ((bn p 1 + bn q 2 + bn e 4 + bn s 8:Nat):Int) 8=s:=by
 cases p <;> cases q <;> cases e <;> cases s <;> decide
theorem shift_for {n:Nat} (hn:1 ≤ n) (p:Bool) (c:Int):∃ (x:Nat) (j:Int),x < n∧c=(if p=true then (n:Int) - 1 + (x:Int) else -(x:Int)) + (n:Int) * j:=by
 cases p with
 | false=>
  have e0:=Int.emod_nonneg (-c) (show (n:Int) ≠ 0 by omega)
  have e1:=Int.emod_lt_of_pos (-c) (show (0:Int) < n by omega)
  have hd:=Int.emod_add_mul_ediv (-c) (n:Int)
  refine ⟨((-c) % (n:Int)).toNat,-((-c) / (n:Int)),by omega,?_⟩
  rw [if_neg (by decide),Int.mul_neg]
  omega
 | true=>
  have e0:=Int.emod_nonneg (c - ((n:Int) - 1)) (show (n:Int) ≠ 0 by omega)
  have e1:=Int.emod_lt_of_pos (c - ((n:Int) - 1)) (show (0:Int) < n by omega)
  have hd:=Int.emod_add_mul_ediv (c - ((n:Int) - 1)) (n:Int)
  refine ⟨((c - ((n:Int) - 1)) % (n:Int)).toNat,(c - ((n:Int) - 1)) / (n:Int),by omega,?_⟩
  rw [if_pos rfl]
  omega
theorem ext_mul (g:api_Grid) (w h:Nat) (X Y j k:Int):ext g w h (X + (w:Int) * j) (Y + (h:Int) * k)=ext g w h X Y:=by
 unfold ext
 rw [Int.add_mul_emod_self_left,Int.add_mul_emod_self_left]
theorem act_is {g:api_Grid} {w h:Nat} {grp:Int} (w0:1 ≤ w) (h0:1 ≤ h) (g0:0 ≤ grp) (g3:grp ≤ 3) (gs:1 < grp→w=h) {m:Mo} (hm:okG grp m):∃ op x y,op < lastN grp + 1∧x < w∧y < h∧act m (ext g w h)=act (moOf w h op x y) (ext g w h):=by
 obtain ⟨e,p,q,c,d,s⟩:=m
 obtain ⟨a1,a2,a3,a4⟩:=hm
 simp only at a1 a2 a3 a4
 obtain ⟨b1,b2,b4,b8⟩:=bits_of p q e s
 have hop:bn p 1 + bn q 2 + bn e 4 + bn s 8 < lastN grp + 1:=by
  have:grp=0 ∨ grp=1 ∨ grp=2 ∨ grp=3:=by omega
  rcases this with rfl | rfl | rfl | rfl <;> cases p <;> cases q <;> cases e <;> cases s <;> first | decide | (exfalso; simp at a1 a2 a3 a4)
 cases e with
 | false=>
  obtain ⟨x,j,hx,hc⟩:=shift_for w0 p c
  obtain ⟨y,k,hy,hd⟩:=shift_for h0 q d
  refine ⟨_,x,y,hop,hx,hy,?_⟩
  funext X Y
  unfold act moOf
  rw [b1,b2,b4,b8]
  simp only [Bool.false_eq_true,if_false]
  rw [hc,hd,← Int.add_assoc,← Int.add_assoc,ext_mul]
 | true=>
  obtain rfl:=gs (by have:=a3 rfl; omega)
  obtain ⟨y,j,hy,hc⟩:=shift_for w0 p c
  obtain ⟨x,k,hx,hd⟩:=shift_for w0 q d
  refine ⟨_,x,y,hop,hx,hy,?_⟩
  funext X Y
  unfold act moOf
  rw [b1,b2,b4,b8]
  simp only [if_true]
  rw [hc,hd,← Int.add_assoc,← Int.add_assoc,ext_mul]
def uN (a b:api_Grid) (w h:Nat) (grp:Int):Nat:=(fm (fT a b w h) (w * h + 1) ((lastN grp + 1) * h * w)).1
theorem uN_le {a b:api_Grid} {w h:Nat} {grp:Int} (A:Gr a w h) (g0:0 ≤ grp) (g3:grp ≤ 3) (gs:1 < grp→w=h) {m:Mo} (hm:okG grp m):uN a b w h grp ≤ dst w h (act m (ext a w h)) (ext b w h):=by
 obtain ⟨op,x,y,hop,hx,hy,e⟩:=act_is (g:=a) A.w0 A.h0 g0 g3 gs hm
 obtain ⟨e1,e2,e3⟩:=tri (op:=op) hx hy
 have hlt:=blk_inN hx (blk_inN hy hop)
 have h1:=fm_le (fT a b w h) (w * h + 1) _ _ hlt
 have h2:fT a b w h ((op * h + y) * w + x)=dst w h (act m (ext a w h)) (ext b w h):=by
  unfold fT mvT
  rw [e1,e2,e3,dl_dst,mv_ext A (last_kp g0 g3 gs) hop hx hy,e]
 rw [h2] at h1
 exact h1
theorem uN_at {a:api_Grid} (b:api_Grid) {w h:Nat} {grp:Int} (A:Gr a w h) (g0:0 ≤ grp) (g3:grp ≤ 3) (gs:1 < grp→w=h):∃ op x y,op < lastN grp + 1∧x < w∧y < h∧(fm (fT a b w h) (w * h + 1) ((lastN grp + 1) * h * w)).2=(op * h + y) * w + x∧uN a b w h grp=fT a b w h ((op * h + y) * w + x)∧fT a b w h ((op * h + y) * w + x)=dst w h (act (moOf w h op x y) (ext a w h)) (ext b w h):=by
 have hN:0 < (lastN grp + 1) * h * w:=Nat.mul_pos (Nat.mul_pos (Nat.succ_pos _) A.h0) A.w0
 obtain ⟨h1,h2⟩:=fm_at (f:=fT a b w h) (big:=w * h + 1) hN (fun j _=>by have:=fT_le a b w h j; omega)
 generalize hi:(fm (fT a b w h) (w * h + 1) ((lastN grp + 1) * h * w)).2=i at *
 have k1:i / w < (lastN grp + 1) * h:=pl_divlt (by rw [Nat.mul_comm w]; exact h1)
 have k2:i / w / h < lastN grp + 1:=pl_divlt (by rw [Nat.mul_comm h]; exact k1)
 have k3:i % w < w:=pl_modlt A.w0
 have k4:i / w % h < h:=pl_modlt A.h0
 have k5:i=(i / w / h * h + i / w % h) * w + i % w:=by rw [pl_of,pl_of]
 refine ⟨i / w / h,i % w,i / w % h,k2,k3,k4,k5,?_,?_⟩
 ·rw [← k5]; exact h2
 ·rw [← k5]
  unfold fT mvT
  rw [dl_dst,mv_ext A (last_kp g0 g3 gs) k2 k3 k4]
theorem uN_tri {a b c:api_Grid} {w h:Nat} {grp:Int} (A:Gr a w h) (B:Gr b w h) (g0:0 ≤ grp) (g3:grp ≤ 3) (gs:1 < grp→w=h):uN a c w h grp ≤ uN a b w h grp + uN b c w h grp:=by
 obtain ⟨op,x,y,h1,h2,h3,-,h4,h5⟩:=uN_at b A g0 g3 gs
 obtain ⟨op',x',y',i1,i2,i3,-,i4,i5⟩:=uN_at c B g0 g3 gs
 have m1:=moOf_ok (w:=w) (h:=h) (x:=x) (y:=y) g0 g3 h1
 have m2:=moOf_ok (w:=w) (h:=h) (x:=x') (y:=y') g0 g3 i1
 have d1:(moOf w h op x y).e=true→w=h:=fun q=>gs (by have:=m1.2.2.1 q; omega)
 have d2:(moOf w h op' x' y').e=true→w=h:=fun q=>gs (by have:=m2.2.2.1 q; omega)
 have k1:=uN_le (b:=c) A g0 g3 gs (okG_cmp m2 m1)
 rw [← act_act] at k1
 have k2:=dst_tri w h (act (moOf w h op' x' y') (act (moOf w h op x y) (ext a w h))) (act (moOf w h op' x' y') (ext b w h)) (ext c w h)
 rw [act_dst (act_per (ext_per a w h) _ d1) (ext_per b w h) _ d2] at k2
 omega
theorem uN_sym1 {a b:api_Grid} {w h:Nat} {grp:Int} (A:Gr a w h) (B:Gr b w h) (g0:0 ≤ grp) (g3:grp ≤ 3) (gs:1 < grp→w=h):uN b a w h grp ≤ uN a b w h grp:=by
 obtain ⟨op,x,y,h1,h2,h3,-,h4,h5⟩:=uN_at b A g0 g3 gs
 have m1:=moOf_ok (w:=w) (h:=h) (x:=x) (y:=y) g0 g3 h1
 have m2:=okG_inv m1
 have d1:(moOf w h op x y).e=true→w=h:=fun q=>gs (by have:=m1.2.2.1 q; omega)
 have d2:(inv (moOf w h op x y)).e=true→w=h:=fun q=>gs (by have:=m2.2.2.1 q; omega)
 have k1:=uN_le (b:=a) B g0 g3 gs m2
 have k2:=act_dst (act_per (ext_per a w h) _ d1) (ext_per b w h) _ d2
 rw [act_inv,dst_sym] at k2
 rw [dst_sym] at k2
 have k3:=dst_sym w h (act (inv (moOf w h op x y)) (ext b w h)) (ext a w h)
 omega
theorem uN_sym {a b:api_Grid} {w h:Nat} {grp:Int} (A:Gr a w h) (B:Gr b w h) (g0:0 ≤ grp) (g3:grp ≤ 3) (gs:1 < grp→w=h):uN a b w h grp=uN b a w h grp:=Nat.le_antisymm (uN_sym1 B A g0 g3 gs) (uN_sym1 A B g0 g3 gs)
def idM:Mo:=⟨false,false,false,0,0,false⟩
theorem act_id (f:Int→Int→Bool):act idM f=f:=by
 funext X Y
 unfold act idM
 simp only [Bool.false_eq_true,if_false,sg,Int.add_zero]
 cases f X Y <;> rfl
theorem okG_id (grp:Int):okG grp idM:=⟨fun q=>(by cases q),fun q=>(by cases q),fun q=>(by cases q),fun q=>(by cases q)⟩
theorem uN_dl {a b:api_Grid} {w h:Nat} {grp:Int} (A:Gr a w h) (g0:0 ≤ grp) (g3:grp ≤ 3) (gs:1 < grp→w=h):uN a b w h grp ≤ dl a.Bits b.Bits (w * h):=by
 have h1:=uN_le (b:=b) A g0 g3 gs (okG_id grp)
 rw [act_id,← dl_dst] at h1
 exact h1
theorem mv_zero {a:api_Grid} {w h:Nat} (A:Gr a w h):mvT a w h 0=a:=by
 have K:Kp w h 1:=by
  intro op hop hc
  obtain rfl:op=0:=by omega
  exact absurd hc (by decide)
 have w0:=A.w0
 have h0:=A.h0
 unfold mvT
 rw [Nat.zero_div,Nat.zero_div,Nat.zero_mod,Nat.zero_mod]
 have hM:=shS_gr (x:=0) (y:=0) (apB_gr A K (show 0 < 1 by omega))
 refine hM.ext A fun x y hx hy=>?_
 have e:=mv_ext A K (show 0 < 1 by omega) (show 0 < w by omega) (show 0 < h by omega)
 rw [← ext_at _ hx hy,← ext_at a hx hy,e]
 have hm:moOf w h 0 0 0=idM:=by
  have:moOf w h 0 0 0=⟨false,false,false,-((0:Nat):Int),-((0:Nat):Int),false⟩:=rfl
  rw [this]
  rfl
 rw [hm,act_id]
theorem st_self {a:api_Grid} {w h:Nat} (A:Gr a w h) (grp:Int):stT a a w h ((lastN grp + 1) * h * w)=(0,0,0,0):=by
 have hN:0 < (lastN grp + 1) * h * w:=Nat.mul_pos (Nat.mul_pos (Nat.succ_pos _) A.h0) A.w0
 have f0:fT a a w h 0=0:=by
  unfold fT
  rw [mv_zero A]
  exact sumN_zero.2 fun k _=>if_pos rfl
 have h1:fm (fT a a w h) (w * h + 1) 1=(0,0):=by
  show (if fT a a w h 0 < w * h + 1 then (fT a a w h 0,0) else _)=_
  rw [f0,if_pos (by omega)]
 have h2:=fm_stop (f:=fT a a w h) (big:=w * h + 1) (k:=1) (by rw [h1]) ((lastN grp + 1) * h * w - 1)
 rw [show 1 + ((lastN grp + 1) * h * w - 1)=(lastN grp + 1) * h * w by omega,h1] at h2
 unfold stT
 rw [h2]
 simp only [Nat.zero_div,Nat.zero_mod]
 rfl
noncomputable def F_raddlelaw46_CompareMetric (p0:api_Grid) (p1:api_Grid) (p2:api_Grid) (p3:Int):Option Bool:=
 (F_raddlelaw46_alive).bind fun aa=>
 Option.bind (α:=Bool) (
  (F_raddleref46_GreatGrid p0).bind fun al=>
  if al then
   some true
  else
   (F_raddleref46_GreatGrid p1).bind fun am=>
   if am then
    some true
   else
    (F_raddleref46_GreatGrid p2).bind fun ao=>
    if ao then
     some true
    else
     (F_raddleref46_Start p0 p1 p3).bind fun ap=>
     if ap != 0 then
      some true
     else
      (F_raddleref46_Start p1 p2 p3).bind fun aq=>
      if aq != 0 then
       some true
      else
       some (!aa)) fun ar=>
 if ar then
  some aa
 else
  (F_compare_Cells p0 p1).bind fun a5=>
  (F_compare_Cells p1 p2).bind fun ae=>
  (F_compare_Cells p0 p2).bind fun af=>
  (F_compare_Cells p1 p0).bind fun ag=>
  (F_compare_Cells p0 p0).bind fun ah=>
  Option.bind (α:=Bool) (
   if a5.2 != 0 then
    some true
   else
    if ae.2 != 0 then
     some true
    else
     if af.2 != 0 then
      some true
     else
      if ag.2 != 0 then
       some true
      else
       if ah.2 != 0 then
        some true
       else
        if a5.1 != ag.1 then
         some true
        else
         if ah.1 != 0 then
          some true
         else
          if decide ((w64 (a5.1 + ae.1)) < af.1) then
           some true
          else
           (F_raddleref01_Same p0 p1).bind fun au=>
           some ((a5.1 == 0) != au)) fun av=>
  if av then
   some false
  else
   (F_compare_Nearest p0 p1 p3).bind fun a0=>
   (F_compare_Nearest p1 p2 p3).bind fun ai=>
   (F_compare_Nearest p0 p2 p3).bind fun aj=>
   (F_compare_Nearest p1 p0 p3).bind fun ak=>
   (F_compare_Nearest p0 p0 p3).bind fun a6=>
   Option.bind (α:=Bool) (
    if a0.2.2.2 != 0 then
     some true
    else
     if ai.2.2.2 != 0 then
      some true
     else
      if aj.2.2.2 != 0 then
       some true
      else
       if ak.2.2.2 != 0 then
        some true
       else
        if a6.2.2.2 != 0 then
         some true
        else
         if a0.1 != ak.1 then
          some true
         else
          if decide ((w64 (a0.1 + ai.1)) < aj.1) then
           some true
          else
           if decide (a5.1 < a0.1) then
            some true
           else
            if a6.1 != 0 then
             some true
            else
             if a6.2.1 != 0 then
              some true
             else
              some (!((a6.2.2.1.X == 0) && ((a6.2.2.1.Y == 0) && true)))) fun aw=>
   if aw then
    some false
   else
    (F_symmetry_Apply p0 a0.2.1).bind fun a7=>
    (F_grid_Shift a7.1 a0.2.2.1.X a0.2.2.1.Y).bind fun a8=>
    (F_compare_Cells a8.1 p1).bind fun a9=>
    Option.bind (α:=Bool) (
     if aa then
      if a7.2 == 0 then
       if a8.2 == 0 then
        if a9.2 == 0 then
         if a9.1 == a0.1 then
          (F_raddleref46_Last p3).bind fun ab=>
          some (decide (a0.2.1 ≤ ab))
         else
          some false
        else
         some false
       else
        some false
      else
       some false
     else
      some false) fun ac=>
    some ac
theorem c_raddlelaw46_CompareMetric (E:Nat→Prop) (w0:World) (p0:api_Grid) (v0:Value) (p1:api_Grid) (v1:Value) (p2:api_Grid) (v2:Value) (p3:Int) (r:Bool) (h:F_raddlelaw46_CompareMetric p0 p1 p2 p3=some r) (S:St0 E [] w0 w0 [] [fRep r_api_Grid (v0) p0,fRep r_api_Grid (v1) p1,fRep r_api_Grid (v2) p2]) :
 Calls Try.prog 6 #[v0,v1,v2,iv p3] w0 (Ret (X:=Unit) E [] w0 (fun _=>.bool r) (fun _=>[]) (fun _=>[])):=by
 unfold F_raddlelaw46_CompareMetric at h
 obtain ⟨u1,rfl,cH⟩:=S.know (i:=0) (e:=fRep r_api_Grid (v0) p0) d
 have S:=S.learn (fRep (rL rB) u1 p0.Bits) cH
 obtain ⟨a5,a6,_,rfl,_⟩:=cH
 obtain ⟨u5,rfl,cI⟩:=S.know (i:=2) (e:=fRep r_api_Grid (v1) p1) d
 have S:=S.learn (fRep (rL rB) u5 p1.Bits) cI
 obtain ⟨ab,ac,_,rfl,_⟩:=cI
 obtain ⟨u9,rfl,bv⟩:=S.know (i:=4) (e:=fRep r_api_Grid (v2) p2) d
 have S:=S.learn (fRep (rL rB) u9 p2.Bits) bv
 obtain ⟨a7,a8,_,rfl,_⟩:=bv
 refine sEnter (args:=[.agg #[iv p0.W,iv p0.H,.slice a5 p0.Bits.length a6],.agg #[iv p1.W,iv p1.H,.slice ab p1.Bits.length ac],.agg #[iv p2.W,iv p2.H,.slice a7 p2.Bits.length a8],iv p3]) 286 Try.func6 d d (by simp) S (fun a S=>?_)
 refine sSeq (fun d4 bL=>sRegion (sBox (v:=.agg #[iv p0.W,iv p0.H,.slice a5 p0.Bits.length a6]) S (wN d) d d [iv p0.W,iv p0.H,.slice a5 p0.Bits.length a6] d d (lb d) fun a ap w S=>sBox (v:=.agg #[iv p1.W,iv p1.H,.slice ab p1.Bits.length ac]) S (wN d) d d [iv p1.W,iv p1.H,.slice ab p1.Bits.length ac] d d (lb d) fun a au w S=>sBox (v:=.agg #[iv p2.W,iv p2.H,.slice a7 p2.Bits.length a8]) S (wN d) d d [iv p2.W,iv p2.H,.slice a7 p2.Bits.length a8] d d (lb d) fun a aS w S=>sN S fun a S=>?_))
 refine lT (bL _ _ (sSeq (fun d5 bM=>sRegion ?_)))
 obtain ⟨bi,bN,h⟩:=bS h
 have S1:=S.mem
 refine sCq [] (.bool bi) S callee31 (S1.quiet [] d) (fun E1 w1 S1=>c_raddlelaw46_alive E1 w1  bi bN S1) fun a w S=>?_
 refine sN S fun a S=>?_
 refine lT (bM _ _ (sSeq (fun d6 bO=>?_)))
 obtain ⟨cR,h,cS⟩:=bS h
 refine sCut (fun a w=>∃ bP,bP=cR∧St [] E [] w0 286 a w [(3,iv p3),(4,.pointer (some ⟨ap,0,none⟩)),(5,.pointer (some ⟨au,0,none⟩)),(6,.pointer (some ⟨aS,0,none⟩)),(9,.bool bi),(74,.bool bP)] [eBox ap 24 [iv p0.W,iv p0.H,.slice a5 p0.Bits.length a6],eBox au 24 [iv p1.W,iv p1.H,.slice ab p1.Bits.length ac],eBox aS 24 [iv p2.W,iv p2.H,.slice a7 p2.Bits.length a8]] [fRep (rL rB) (.slice a5 p0.Bits.length a6) p0.Bits,fRep (rL rB) (.slice ab p1.Bits.length ac) p1.Bits,fRep (rL rB) (.slice a7 p2.Bits.length a8) p2.Bits]) ?_ (fun a w hI=>?_)
 ·refine sRegion (sLoadN (p:=ap) (off:=0) (T:=24) (vs:=[iv p0.W,iv p0.H,.slice a5 p0.Bits.length a6]) 2 [iv p0.W,iv p0.H,.slice a5 p0.Bits.length a6] S (wN d) d d d d d d d (lb d) fun a S=>?_)
  obtain ⟨cJ,bQ,h⟩:=bS h
  have S1:=S.mem
  refine sCq [.agg #[iv p0.W,iv p0.H,.slice a5 p0.Bits.length a6]] (.bool cJ) S callee12 (S1.quiet [3] d) (fun E1 w1 S1=>c_raddleref46_GreatGrid E1 w1 p0 (.agg #[iv p0.W,iv p0.H,.slice a5 p0.Bits.length a6]) cJ bQ S1) fun a w S=>?_
  refine sM S fun a S=>?_
  rcases iS h with ⟨aX,h⟩ | ⟨aX,h⟩
  ·refine sSkN 2 2 false 49 S d d aX d fun a S=>sPickT (.bool true) S (wN d) d d aX d d (lb d) fun a S=>sM S fun a S=>?_
   refine sSkN 2 6 false 53 S d d d d fun a S=>sPickT (.bool true) S (wN d) d d d d d (lb d) fun a S=>sM S fun a S=>?_
   refine sSkN 5 10 false 57 S d d d d fun a S=>sPickT (.bool true) S (wN d) d d d d d (lb d) fun a S=>sM S fun a S=>?_
   refine sSkN 5 17 false 64 S d d d d fun a S=>sPickT (.bool true) S (wN d) d d d d d (lb d) fun a S=>sM S fun a S=>?_
   refine sSkN 2 24 false 71 S d d d d fun a S=>sPickT (.bool true) S (wN d) d d d d d (lb d) fun a S=>?_
   exact lT (⟨true,Option.some.inj h,S.fix [2,1,0] [2,1,0] (by decide) d d d⟩)
  refine sLoadN (p:=au) (off:=0) (T:=24) (vs:=[iv p1.W,iv p1.H,.slice ab p1.Bits.length ac]) 1 [iv p1.W,iv p1.H,.slice ab p1.Bits.length ac] S (wG 2 false 49 d d d aX) d d d d d d d (lb d) fun a S=>?_
  obtain ⟨bR,bU,h⟩:=bS h
  have S1:=S.mem
  refine sCallQ (X:=Unit) (f:=12) (vs:=[.agg #[iv p1.W,iv p1.H,.slice ab p1.Bits.length ac]]) (val:=fun _=>.bool bR) S (wG 2 false 49 d d d aX) d callee12 d (S1.quiet [4] d) (fun E1 w1 S1=>c_raddleref46_GreatGrid E1 w1 p1 (.agg #[iv p1.W,iv p1.H,.slice ab p1.Bits.length ac]) bR bU S1) d (lb d) fun _ a w S=>?_
  refine sPickF (.bool bR) S (wN d) d d aX d d (lb d) fun a S=>sM S fun a S=>?_
  rcases iS h with ⟨aZ,h⟩ | ⟨aZ,h⟩
  ·refine sSkN 2 6 false 53 S d d aZ d fun a S=>sPickT (.bool true) S (wN d) d d aZ d d (lb d) fun a S=>sM S fun a S=>?_
   refine sSkN 5 10 false 57 S d d d d fun a S=>sPickT (.bool true) S (wN d) d d d d d (lb d) fun a S=>sM S fun a S=>?_
   refine sSkN 5 17 false 64 S d d d d fun a S=>sPickT (.bool true) S (wN d) d d d d d (lb d) fun a S=>sM S fun a S=>?_
   refine sSkN 2 24 false 71 S d d d d fun a S=>sPickT (.bool true) S (wN d) d d d d d (lb d) fun a S=>?_
   exact lT (⟨true,Option.some.inj h,S.fix [2,1,0] [2,1,0] (by decide) d d d⟩)
  refine sLoadN (p:=aS) (off:=0) (T:=24) (vs:=[iv p2.W,iv p2.H,.slice a7 p2.Bits.length a8]) 0 [iv p2.W,iv p2.H,.slice a7 p2.Bits.length a8] S (wG 6 false 53 d d d aZ) d d d d d d d (lb d) fun a S=>?_
  obtain ⟨bV,bW,h⟩:=bS h
  have S1:=S.mem
  refine sCallQ (X:=Unit) (f:=12) (vs:=[.agg #[iv p2.W,iv p2.H,.slice a7 p2.Bits.length a8]]) (val:=fun _=>.bool bV) S (wG 6 false 53 d d d aZ) d callee12 d (S1.quiet [5] d) (fun E1 w1 S1=>c_raddleref46_GreatGrid E1 w1 p2 (.agg #[iv p2.W,iv p2.H,.slice a7 p2.Bits.length a8]) bV bW S1) d (lb d) fun _ a w S=>?_
  refine sPickF (.bool bV) S (wN d) d d aZ d d (lb d) fun a S=>sM S fun a S=>?_
  rcases iS h with ⟨aO,h⟩ | ⟨aO,h⟩
  ·refine sSkN 5 10 false 57 S d d aO d fun a S=>sPickT (.bool true) S (wN d) d d aO d d (lb d) fun a S=>sM S fun a S=>?_
   refine sSkN 5 17 false 64 S d d d d fun a S=>sPickT (.bool true) S (wN d) d d d d d (lb d) fun a S=>sM S fun a S=>?_
   refine sSkN 2 24 false 71 S d d d d fun a S=>sPickT (.bool true) S (wN d) d d d d d (lb d) fun a S=>?_
   exact lT (⟨true,Option.some.inj h,S.fix [2,1,0] [2,1,0] (by decide) d d d⟩)
  refine sLoadN (p:=ap) (off:=0) (T:=24) (vs:=[iv p0.W,iv p0.H,.slice a5 p0.Bits.length a6]) 2 [iv p0.W,iv p0.H,.slice a5 p0.Bits.length a6] S (wG 10 false 57 d d d aO) d d d d d d d (lb d) fun a S=>sLoadN (p:=au) (off:=0) (T:=24) (vs:=[iv p1.W,iv p1.H,.slice ab p1.Bits.length ac]) 1 [iv p1.W,iv p1.H,.slice ab p1.Bits.length ac] S (wG 10 false 57 d d d aO) d d d d d d d (lb d) fun a S=>sMove (iv p3) S (wG 10 false 57 d d d aO) (.inl d) d d (lb d) fun a S=>?_
  obtain ⟨bI,bX,h⟩:=bS h
  have S1:=S.mem
  refine sCallQ (X:=Unit) (f:=32) (vs:=[.agg #[iv p0.W,iv p0.H,.slice a5 p0.Bits.length a6],.agg #[iv p1.W,iv p1.H,.slice ab p1.Bits.length ac],iv p3]) (val:=fun _=>iv bI) S (wG 10 false 57 d d d aO) d callee32 d (S1.quiet [3,4] d) (fun E1 w1 S1=>c_raddleref46_Start E1 w1 p0 (.agg #[iv p0.W,iv p0.H,.slice a5 p0.Bits.length a6]) p1 (.agg #[iv p1.W,iv p1.H,.slice ab p1.Bits.length ac]) p3 bI bX S1) d (lb d) fun _ a w S=>?_
  refine sBin _ S (wG 10 false 57 d d d aO) d d d (bNe _ _ _ _ .i64 bI 0) d (lb d) fun a S=>sPickF (.bool (bI != 0)) S (wN d) d d aO d d (lb d) fun a S=>sM S fun a S=>?_
  rcases iS h with ⟨aP,h⟩ | ⟨aP,h⟩
  ·refine sSkN 5 17 false 64 S d d aP d fun a S=>sPickT (.bool true) S (wN d) d d aP d d (lb d) fun a S=>sM S fun a S=>?_
   refine sSkN 2 24 false 71 S d d d d fun a S=>sPickT (.bool true) S (wN d) d d d d d (lb d) fun a S=>?_
   exact lT (⟨true,Option.some.inj h,S.fix [2,1,0] [2,1,0] (by decide) d d d⟩)
  refine sLoadN (p:=au) (off:=0) (T:=24) (vs:=[iv p1.W,iv p1.H,.slice ab p1.Bits.length ac]) 1 [iv p1.W,iv p1.H,.slice ab p1.Bits.length ac] S (wG 17 false 64 d d d aP) d d d d d d d (lb d) fun a S=>sLoadN (p:=aS) (off:=0) (T:=24) (vs:=[iv p2.W,iv p2.H,.slice a7 p2.Bits.length a8]) 0 [iv p2.W,iv p2.H,.slice a7 p2.Bits.length a8] S (wG 17 false 64 d d d aP) d d d d d d d (lb d) fun a S=>sMove (iv p3) S (wG 17 false 64 d d d aP) (.inl d) d d (lb d) fun a S=>?_
  obtain ⟨bJ,bY,h⟩:=bS h
  have S1:=S.mem
  refine sCallQ (X:=Unit) (f:=32) (vs:=[.agg #[iv p1.W,iv p1.H,.slice ab p1.Bits.length ac],.agg #[iv p2.W,iv p2.H,.slice a7 p2.Bits.length a8],iv p3]) (val:=fun _=>iv bJ) S (wG 17 false 64 d d d aP) d callee32 d (S1.quiet [4,5] d) (fun E1 w1 S1=>c_raddleref46_Start E1 w1 p1 (.agg #[iv p1.W,iv p1.H,.slice ab p1.Bits.length ac]) p2 (.agg #[iv p2.W,iv p2.H,.slice a7 p2.Bits.length a8]) p3 bJ bY S1) d (lb d) fun _ a w S=>?_
  refine sBin _ S (wG 17 false 64 d d d aP) d d d (bNe _ _ _ _ .i64 bJ 0) d (lb d) fun a S=>sPickF (.bool (bJ != 0)) S (wN d) d d aP d d (lb d) fun a S=>sM S fun a S=>?_
  rcases iS h with ⟨ba,h⟩ | ⟨ba,h⟩
  ·refine sSkN 2 24 false 71 S d d ba d fun a S=>sPickT (.bool true) S (wN d) d d ba d d (lb d) fun a S=>?_
   exact lT (⟨true,Option.some.inj h,S.fix [2,1,0] [2,1,0] (by decide) d d d⟩)
  refine sMove (.bool bi) S (wG 24 false 71 d d d ba) (.inl d) d d (lb d) fun a S=>sNot (b:=bi) S (wG 24 false 71 d d d ba) d d d (lb d) fun a S=>sPickF (.bool (!bi)) S (wN d) d d ba d d (lb d) fun a S=>?_
  exact lT (⟨!bi,Option.some.inj h,S.fix [2,1,0] [2,1,0] (by decide) d d d⟩)
 obtain ⟨bP,rfl,S⟩:=hI
 have h:=cS
 try dsimp only at h
 rcases iS h with ⟨bq,h⟩ | ⟨bq,h⟩
 ·refine sCondT S d bq (sSeq (fun d7 bZ=>sRegion (sM S fun a S=>?_)))
  refine sN S fun a S=>?_
  refine lT (bZ _ _ ?_)
  obtain rfl:=tS h
  exact wp_ret (rThen (sRet (.bool bi) S (rsl1 d (rvT (t:=8) (v:=.bool bi) S d)) ⟨(),d,S.mem.sel [] [] (by decide) d d⟩))
 refine sCondF S d bq (wp_skip (leafT (bO _ _ ?_)))
 refine sSeq (fun d8 c7=>sRegion (sLoadN (p:=ap) (off:=0) (T:=24) (vs:=[iv p0.W,iv p0.H,.slice a5 p0.Bits.length a6]) 0 [iv p0.W,iv p0.H,.slice a5 p0.Bits.length a6] S (wN d) d d d d d d d (lb d) fun a S=>sLoadN (p:=au) (off:=0) (T:=24) (vs:=[iv p1.W,iv p1.H,.slice ab p1.Bits.length ac]) 1 [iv p1.W,iv p1.H,.slice ab p1.Bits.length ac] S (wN d) d d d d d d d (lb d) fun a S=>?_))
 obtain ⟨aq,c8,h⟩:=bS h
 have S1:=S.mem
 have S1:=S1.learn (fRep r_api_Grid (.agg #[iv p0.W,iv p0.H,.slice a5 p0.Bits.length a6]) p0) ⟨_,d,S1.know (i:=0) (e:=fRep (rL rB) (.slice a5 p0.Bits.length a6) p0.Bits) d⟩
 have S1:=S1.learn (fRep r_api_Grid (.agg #[iv p1.W,iv p1.H,.slice ab p1.Bits.length ac]) p1) ⟨_,d,S1.know (i:=2) (e:=fRep (rL rB) (.slice ab p1.Bits.length ac) p1.Bits) d⟩
 refine sCq [.agg #[iv p0.W,iv p0.H,.slice a5 p0.Bits.length a6],.agg #[iv p1.W,iv p1.H,.slice ab p1.Bits.length ac]] (.tuple #[iv aq.1,iv aq.2]) S callee14 (S1.quiet [1,0] d) (fun E1 w1 S1=>c_compare_Cells E1 w1 p0 (.agg #[iv p0.W,iv p0.H,.slice a5 p0.Bits.length a6]) p1 (.agg #[iv p1.W,iv p1.H,.slice ab p1.Bits.length ac]) aq c8 S1) fun a w S=>?_
 refine sM S fun a S=>?_
 refine sExtract (vs:=[iv aq.1,iv aq.2]) (iv aq.1) S (wN d) d d d d (lb d) fun a S=>sExtract (vs:=[iv aq.1,iv aq.2]) (iv aq.2) S (wN d) d d d d (lb d) fun a S=>sN S fun a S=>?_
 refine sN S fun a S=>?_
 refine lT (c7 _ _ (sSeq (fun d9 c9=>sRegion (sLoadN (p:=au) (off:=0) (T:=24) (vs:=[iv p1.W,iv p1.H,.slice ab p1.Bits.length ac]) 1 [iv p1.W,iv p1.H,.slice ab p1.Bits.length ac] S (wN d) d d d d d d d (lb d) fun a S=>sLoadN (p:=aS) (off:=0) (T:=24) (vs:=[iv p2.W,iv p2.H,.slice a7 p2.Bits.length a8]) 2 [iv p2.W,iv p2.H,.slice a7 p2.Bits.length a8] S (wN d) d d d d d d d (lb d) fun a S=>?_))))
 obtain ⟨aR,ca,h⟩:=bS h
 have S1:=S.mem
 have S1:=S1.learn (fRep r_api_Grid (.agg #[iv p1.W,iv p1.H,.slice ab p1.Bits.length ac]) p1) ⟨_,d,S1.know (i:=1) (e:=fRep (rL rB) (.slice ab p1.Bits.length ac) p1.Bits) d⟩
 have S1:=S1.learn (fRep r_api_Grid (.agg #[iv p2.W,iv p2.H,.slice a7 p2.Bits.length a8]) p2) ⟨_,d,S1.know (i:=3) (e:=fRep (rL rB) (.slice a7 p2.Bits.length a8) p2.Bits) d⟩
 refine sCq [.agg #[iv p1.W,iv p1.H,.slice ab p1.Bits.length ac],.agg #[iv p2.W,iv p2.H,.slice a7 p2.Bits.length a8]] (.tuple #[iv aR.1,iv aR.2]) S callee14 (S1.quiet [1,0] d) (fun E1 w1 S1=>c_compare_Cells E1 w1 p1 (.agg #[iv p1.W,iv p1.H,.slice ab p1.Bits.length ac]) p2 (.agg #[iv p2.W,iv p2.H,.slice a7 p2.Bits.length a8]) aR ca S1) fun a w S=>?_
 refine sM S fun a S=>?_
 refine sExtract (vs:=[iv aR.1,iv aR.2]) (iv aR.1) S (wN d) d d d d (lb d) fun a S=>sExtract (vs:=[iv aR.1,iv aR.2]) (iv aR.2) S (wN d) d d d d (lb d) fun a S=>sN S fun a S=>?_
 refine sN S fun a S=>?_
 refine lT (c9 _ _ (sSeq (fun da cb=>sRegion (sLoadN (p:=ap) (off:=0) (T:=24) (vs:=[iv p0.W,iv p0.H,.slice a5 p0.Bits.length a6]) 0 [iv p0.W,iv p0.H,.slice a5 p0.Bits.length a6] S (wN d) d d d d d d d (lb d) fun a S=>sLoadN (p:=aS) (off:=0) (T:=24) (vs:=[iv p2.W,iv p2.H,.slice a7 p2.Bits.length a8]) 2 [iv p2.W,iv p2.H,.slice a7 p2.Bits.length a8] S (wN d) d d d d d d d (lb d) fun a S=>?_))))
 obtain ⟨aT,cc,h⟩:=bS h
 have S1:=S.mem
 have S1:=S1.learn (fRep r_api_Grid (.agg #[iv p0.W,iv p0.H,.slice a5 p0.Bits.length a6]) p0) ⟨_,d,S1.know (i:=0) (e:=fRep (rL rB) (.slice a5 p0.Bits.length a6) p0.Bits) d⟩
 have S1:=S1.learn (fRep r_api_Grid (.agg #[iv p2.W,iv p2.H,.slice a7 p2.Bits.length a8]) p2) ⟨_,d,S1.know (i:=3) (e:=fRep (rL rB) (.slice a7 p2.Bits.length a8) p2.Bits) d⟩
 refine sCq [.agg #[iv p0.W,iv p0.H,.slice a5 p0.Bits.length a6],.agg #[iv p2.W,iv p2.H,.slice a7 p2.Bits.length a8]] (.tuple #[iv aT.1,iv aT.2]) S callee14 (S1.quiet [1,0] d) (fun E1 w1 S1=>c_compare_Cells E1 w1 p0 (.agg #[iv p0.W,iv p0.H,.slice a5 p0.Bits.length a6]) p2 (.agg #[iv p2.W,iv p2.H,.slice a7 p2.Bits.length a8]) aT cc S1) fun a w S=>?_
 refine sM S fun a S=>?_
 refine sExtract (vs:=[iv aT.1,iv aT.2]) (iv aT.1) S (wN d) d d d d (lb d) fun a S=>sExtract (vs:=[iv aT.1,iv aT.2]) (iv aT.2) S (wN d) d d d d (lb d) fun a S=>sN S fun a S=>?_
 refine sN S fun a S=>?_
 refine lT (cb _ _ (sSeq (fun db cd=>sRegion (sLoadN (p:=au) (off:=0) (T:=24) (vs:=[iv p1.W,iv p1.H,.slice ab p1.Bits.length ac]) 1 [iv p1.W,iv p1.H,.slice ab p1.Bits.length ac] S (wN d) d d d d d d d (lb d) fun a S=>sLoadN (p:=ap) (off:=0) (T:=24) (vs:=[iv p0.W,iv p0.H,.slice a5 p0.Bits.length a6]) 0 [iv p0.W,iv p0.H,.slice a5 p0.Bits.length a6] S (wN d) d d d d d d d (lb d) fun a S=>?_))))
 obtain ⟨aU,ce,h⟩:=bS h
 have S1:=S.mem
 have S1:=S1.learn (fRep r_api_Grid (.agg #[iv p1.W,iv p1.H,.slice ab p1.Bits.length ac]) p1) ⟨_,d,S1.know (i:=1) (e:=fRep (rL rB) (.slice ab p1.Bits.length ac) p1.Bits) d⟩
 have S1:=S1.learn (fRep r_api_Grid (.agg #[iv p0.W,iv p0.H,.slice a5 p0.Bits.length a6]) p0) ⟨_,d,S1.know (i:=1) (e:=fRep (rL rB) (.slice a5 p0.Bits.length a6) p0.Bits) d⟩
 refine sCq [.agg #[iv p1.W,iv p1.H,.slice ab p1.Bits.length ac],.agg #[iv p0.W,iv p0.H,.slice a5 p0.Bits.length a6]] (.tuple #[iv aU.1,iv aU.2]) S callee14 (S1.quiet [1,0] d) (fun E1 w1 S1=>c_compare_Cells E1 w1 p1 (.agg #[iv p1.W,iv p1.H,.slice ab p1.Bits.length ac]) p0 (.agg #[iv p0.W,iv p0.H,.slice a5 p0.Bits.length a6]) aU ce S1) fun a w S=>?_
 refine sM S fun a S=>?_
 refine sExtract (vs:=[iv aU.1,iv aU.2]) (iv aU.1) S (wN d) d d d d (lb d) fun a S=>sExtract (vs:=[iv aU.1,iv aU.2]) (iv aU.2) S (wN d) d d d d (lb d) fun a S=>sN S fun a S=>?_
 refine sN S fun a S=>?_
 refine lT (cd _ _ (sSeq (fun dc cf=>sRegion (sLoadN (p:=ap) (off:=0) (T:=24) (vs:=[iv p0.W,iv p0.H,.slice a5 p0.Bits.length a6]) 0 [iv p0.W,iv p0.H,.slice a5 p0.Bits.length a6] S (wN d) d d d d d d d (lb d) fun a S=>sLoadN (p:=ap) (off:=0) (T:=24) (vs:=[iv p0.W,iv p0.H,.slice a5 p0.Bits.length a6]) 0 [iv p0.W,iv p0.H,.slice a5 p0.Bits.length a6] S (wN d) d d d d d d d (lb d) fun a S=>?_))))
 obtain ⟨aV,cg,h⟩:=bS h
 have S1:=S.mem
 have S1:=S1.learn (fRep r_api_Grid (.agg #[iv p0.W,iv p0.H,.slice a5 p0.Bits.length a6]) p0) ⟨_,d,S1.know (i:=0) (e:=fRep (rL rB) (.slice a5 p0.Bits.length a6) p0.Bits) d⟩
 refine sCq [.agg #[iv p0.W,iv p0.H,.slice a5 p0.Bits.length a6],.agg #[iv p0.W,iv p0.H,.slice a5 p0.Bits.length a6]] (.tuple #[iv aV.1,iv aV.2]) S callee14 (S1.quiet [0,0] d) (fun E1 w1 S1=>c_compare_Cells E1 w1 p0 (.agg #[iv p0.W,iv p0.H,.slice a5 p0.Bits.length a6]) p0 (.agg #[iv p0.W,iv p0.H,.slice a5 p0.Bits.length a6]) aV cg S1) fun a w S=>?_
 refine sM S fun a S=>?_
 refine sExtract (vs:=[iv aV.1,iv aV.2]) (iv aV.1) S (wN d) d d d d (lb d) fun a S=>sExtract (vs:=[iv aV.1,iv aV.2]) (iv aV.2) S (wN d) d d d d (lb d) fun a S=>sN S fun a S=>?_
 refine sN S fun a S=>?_
 refine lT (cf _ _ (sSeq (fun de ci=>?_)))
 obtain ⟨cT,h,cU⟩:=bS h
 refine sCut (fun a w=>∃ cj,cj=cT∧St [] E [] w0 286 a w [(3,iv p3),(4,.pointer (some ⟨ap,0,none⟩)),(5,.pointer (some ⟨au,0,none⟩)),(6,.pointer (some ⟨aS,0,none⟩)),(9,.bool bi),(10,iv aq.1),(147,.bool cj)] [eBox ap 24 [iv p0.W,iv p0.H,.slice a5 p0.Bits.length a6],eBox au 24 [iv p1.W,iv p1.H,.slice ab p1.Bits.length ac],eBox aS 24 [iv p2.W,iv p2.H,.slice a7 p2.Bits.length a8]] [fRep (rL rB) (.slice a5 p0.Bits.length a6) p0.Bits,fRep (rL rB) (.slice ab p1.Bits.length ac) p1.Bits,fRep (rL rB) (.slice a7 p2.Bits.length a8) p2.Bits]) ?_ (fun a w hI=>?_)
 ·refine sRegion (sM S fun a S=>?_)
  refine sBin _ S (wN d) d d d (bNe _ _ _ _ .i64 aq.2 0) d (lb d) fun a S=>sM S fun a S=>?_
  rcases iS h with ⟨bb,h⟩ | ⟨bb,h⟩
  ·refine sSkN 2 2 false 108 S d d bb d fun a S=>sPickT (.bool true) S (wN d) d d bb d d (lb d) fun a S=>sM S fun a S=>?_
   refine sSkN 2 6 false 112 S d d d d fun a S=>sPickT (.bool true) S (wN d) d d d d d (lb d) fun a S=>sM S fun a S=>?_
   refine sSkN 2 10 false 116 S d d d d fun a S=>sPickT (.bool true) S (wN d) d d d d d (lb d) fun a S=>sM S fun a S=>?_
   refine sSkN 2 14 false 120 S d d d d fun a S=>sPickT (.bool true) S (wN d) d d d d d (lb d) fun a S=>sM S fun a S=>?_
   refine sSkN 3 18 false 124 S d d d d fun a S=>sPickT (.bool true) S (wN d) d d d d d (lb d) fun a S=>sM S fun a S=>?_
   refine sSkN 2 23 false 129 S d d d d fun a S=>sPickT (.bool true) S (wN d) d d d d d (lb d) fun a S=>sM S fun a S=>?_
   refine sSkN 5 27 false 133 S d d d d fun a S=>sPickT (.bool true) S (wN d) d d d d d (lb d) fun a S=>sM S fun a S=>?_
   refine sSkN 6 34 false 140 S d d d d fun a S=>sPickT (.bool true) S (wN d) d d d d d (lb d) fun a S=>?_
   exact lT (⟨true,Option.some.inj h,S.fix [0,1,2] [0,1,2] (by decide) d d d⟩)
  refine sMove (iv aR.2) S (wG 2 false 108 d d d bb) (.inl d) d d (lb d) fun a S=>sBin _ S (wG 2 false 108 d d d bb) d d d (bNe _ _ _ _ .i64 aR.2 0) d (lb d) fun a S=>sPickF (.bool (aR.2 != 0)) S (wN d) d d bb d d (lb d) fun a S=>sM S fun a S=>?_
  rcases iS h with ⟨bc,h⟩ | ⟨bc,h⟩
  ·refine sSkN 2 6 false 112 S d d bc d fun a S=>sPickT (.bool true) S (wN d) d d bc d d (lb d) fun a S=>sM S fun a S=>?_
   refine sSkN 2 10 false 116 S d d d d fun a S=>sPickT (.bool true) S (wN d) d d d d d (lb d) fun a S=>sM S fun a S=>?_
   refine sSkN 2 14 false 120 S d d d d fun a S=>sPickT (.bool true) S (wN d) d d d d d (lb d) fun a S=>sM S fun a S=>?_
   refine sSkN 3 18 false 124 S d d d d fun a S=>sPickT (.bool true) S (wN d) d d d d d (lb d) fun a S=>sM S fun a S=>?_
   refine sSkN 2 23 false 129 S d d d d fun a S=>sPickT (.bool true) S (wN d) d d d d d (lb d) fun a S=>sM S fun a S=>?_
   refine sSkN 5 27 false 133 S d d d d fun a S=>sPickT (.bool true) S (wN d) d d d d d (lb d) fun a S=>sM S fun a S=>?_
   refine sSkN 6 34 false 140 S d d d d fun a S=>sPickT (.bool true) S (wN d) d d d d d (lb d) fun a S=>?_
   exact lT (⟨true,Option.some.inj h,S.fix [0,1,2] [0,1,2] (by decide) d d d⟩)
  refine sMove (iv aT.2) S (wG 6 false 112 d d d bc) (.inl d) d d (lb d) fun a S=>sBin _ S (wG 6 false 112 d d d bc) d d d (bNe _ _ _ _ .i64 aT.2 0) d (lb d) fun a S=>sPickF (.bool (aT.2 != 0)) S (wN d) d d bc d d (lb d) fun a S=>sM S fun a S=>?_
  rcases iS h with ⟨bf,h⟩ | ⟨bf,h⟩
  ·refine sSkN 2 10 false 116 S d d bf d fun a S=>sPickT (.bool true) S (wN d) d d bf d d (lb d) fun a S=>sM S fun a S=>?_
   refine sSkN 2 14 false 120 S d d d d fun a S=>sPickT (.bool true) S (wN d) d d d d d (lb d) fun a S=>sM S fun a S=>?_
   refine sSkN 3 18 false 124 S d d d d fun a S=>sPickT (.bool true) S (wN d) d d d d d (lb d) fun a S=>sM S fun a S=>?_
   refine sSkN 2 23 false 129 S d d d d fun a S=>sPickT (.bool true) S (wN d) d d d d d (lb d) fun a S=>sM S fun a S=>?_
   refine sSkN 5 27 false 133 S d d d d fun a S=>sPickT (.bool true) S (wN d) d d d d d (lb d) fun a S=>sM S fun a S=>?_
   refine sSkN 6 34 false 140 S d d d d fun a S=>sPickT (.bool true) S (wN d) d d d d d (lb d) fun a S=>?_
   exact lT (⟨true,Option.some.inj h,S.fix [0,1,2] [0,1,2] (by decide) d d d⟩)
  refine sMove (iv aU.2) S (wG 10 false 116 d d d bf) (.inl d) d d (lb d) fun a S=>sBin _ S (wG 10 false 116 d d d bf) d d d (bNe _ _ _ _ .i64 aU.2 0) d (lb d) fun a S=>sPickF (.bool (aU.2 != 0)) S (wN d) d d bf d d (lb d) fun a S=>sM S fun a S=>?_
  rcases iS h with ⟨bg,h⟩ | ⟨bg,h⟩
  ·refine sSkN 2 14 false 120 S d d bg d fun a S=>sPickT (.bool true) S (wN d) d d bg d d (lb d) fun a S=>sM S fun a S=>?_
   refine sSkN 3 18 false 124 S d d d d fun a S=>sPickT (.bool true) S (wN d) d d d d d (lb d) fun a S=>sM S fun a S=>?_
   refine sSkN 2 23 false 129 S d d d d fun a S=>sPickT (.bool true) S (wN d) d d d d d (lb d) fun a S=>sM S fun a S=>?_
   refine sSkN 5 27 false 133 S d d d d fun a S=>sPickT (.bool true) S (wN d) d d d d d (lb d) fun a S=>sM S fun a S=>?_
   refine sSkN 6 34 false 140 S d d d d fun a S=>sPickT (.bool true) S (wN d) d d d d d (lb d) fun a S=>?_
   exact lT (⟨true,Option.some.inj h,S.fix [0,1,2] [0,1,2] (by decide) d d d⟩)
  refine sMove (iv aV.2) S (wG 14 false 120 d d d bg) (.inl d) d d (lb d) fun a S=>sBin _ S (wG 14 false 120 d d d bg) d d d (bNe _ _ _ _ .i64 aV.2 0) d (lb d) fun a S=>sPickF (.bool (aV.2 != 0)) S (wN d) d d bg d d (lb d) fun a S=>sM S fun a S=>?_
  rcases iS h with ⟨aW,h⟩ | ⟨aW,h⟩
  ·refine sSkN 3 18 false 124 S d d aW d fun a S=>sPickT (.bool true) S (wN d) d d aW d d (lb d) fun a S=>sM S fun a S=>?_
   refine sSkN 2 23 false 129 S d d d d fun a S=>sPickT (.bool true) S (wN d) d d d d d (lb d) fun a S=>sM S fun a S=>?_
   refine sSkN 5 27 false 133 S d d d d fun a S=>sPickT (.bool true) S (wN d) d d d d d (lb d) fun a S=>sM S fun a S=>?_
   refine sSkN 6 34 false 140 S d d d d fun a S=>sPickT (.bool true) S (wN d) d d d d d (lb d) fun a S=>?_
   exact lT (⟨true,Option.some.inj h,S.fix [0,1,2] [0,1,2] (by decide) d d d⟩)
  refine sMove (iv aq.1) S (wG 18 false 124 d d d aW) (.inl d) d d (lb d) fun a S=>sMove (iv aU.1) S (wG 18 false 124 d d d aW) (.inl d) d d (lb d) fun a S=>sBin _ S (wG 18 false 124 d d d aW) d d d (bNe _ _ _ _ .i64 aq.1 aU.1) d (lb d) fun a S=>sPickF (.bool (aq.1 != aU.1)) S (wN d) d d aW d d (lb d) fun a S=>sM S fun a S=>?_
  rcases iS h with ⟨bh,h⟩ | ⟨bh,h⟩
  ·refine sSkN 2 23 false 129 S d d bh d fun a S=>sPickT (.bool true) S (wN d) d d bh d d (lb d) fun a S=>sM S fun a S=>?_
   refine sSkN 5 27 false 133 S d d d d fun a S=>sPickT (.bool true) S (wN d) d d d d d (lb d) fun a S=>sM S fun a S=>?_
   refine sSkN 6 34 false 140 S d d d d fun a S=>sPickT (.bool true) S (wN d) d d d d d (lb d) fun a S=>?_
   exact lT (⟨true,Option.some.inj h,S.fix [0,1,2] [0,1,2] (by decide) d d d⟩)
  refine sMove (iv aV.1) S (wG 23 false 129 d d d bh) (.inl d) d d (lb d) fun a S=>sBin _ S (wG 23 false 129 d d d bh) d d d (bNe _ _ _ _ .i64 aV.1 0) d (lb d) fun a S=>sPickF (.bool (aV.1 != 0)) S (wN d) d d bh d d (lb d) fun a S=>sM S fun a S=>?_
  rcases iS h with ⟨aQ,h⟩ | ⟨aQ,h⟩
  ·refine sSkN 5 27 false 133 S d d aQ d fun a S=>sPickT (.bool true) S (wN d) d d aQ d d (lb d) fun a S=>sM S fun a S=>?_
   refine sSkN 6 34 false 140 S d d d d fun a S=>sPickT (.bool true) S (wN d) d d d d d (lb d) fun a S=>?_
   exact lT (⟨true,Option.some.inj h,S.fix [0,1,2] [0,1,2] (by decide) d d d⟩)
  refine sMove (iv aT.1) S (wG 27 false 133 d d d aQ) (.inl d) d d (lb d) fun a S=>sMove (iv aq.1) S (wG 27 false 133 d d d aQ) (.inl d) d d (lb d) fun a S=>sMove (iv aR.1) S (wG 27 false 133 d d d aQ) (.inl d) d d (lb d) fun a S=>sBin _ S (wG 27 false 133 d d d aQ) d d d (bAdd _ _ _ _ aq.1 aR.1) d (lb d) fun a S=>sBin _ S (wG 27 false 133 d d d aQ) d d d (bGt _ _ _ _ .i64 aT.1 (w64 (aq.1 + aR.1))) d (lb d) fun a S=>sPickF (.bool (decide ((w64 (aq.1 + aR.1)) < aT.1))) S (wN d) d d aQ d d (lb d) fun a S=>sM S fun a S=>?_
  rcases iS h with ⟨az,h⟩ | ⟨az,h⟩
  ·refine sSkN 6 34 false 140 S d d az d fun a S=>sPickT (.bool true) S (wN d) d d az d d (lb d) fun a S=>?_
   exact lT (⟨true,Option.some.inj h,S.fix [0,1,2] [0,1,2] (by decide) d d d⟩)
  refine sMove (iv aq.1) S (wG 34 false 140 d d d az) (.inl d) d d (lb d) fun a S=>sBin _ S (wG 34 false 140 d d d az) d d d (bEq _ _ _ _ .i64 aq.1 0) d (lb d) fun a S=>sLoadN (p:=ap) (off:=0) (T:=24) (vs:=[iv p0.W,iv p0.H,.slice a5 p0.Bits.length a6]) 0 [iv p0.W,iv p0.H,.slice a5 p0.Bits.length a6] S (wG 34 false 140 d d d az) d d d d d d d (lb d) fun a S=>sLoadN (p:=au) (off:=0) (T:=24) (vs:=[iv p1.W,iv p1.H,.slice ab p1.Bits.length ac]) 1 [iv p1.W,iv p1.H,.slice ab p1.Bits.length ac] S (wG 34 false 140 d d d az) d d d d d d d (lb d) fun a S=>?_
  obtain ⟨bw,ck,h⟩:=bS h
  have S1:=S.mem
  have S1:=S1.learn (fRep r_api_Grid (.agg #[iv p0.W,iv p0.H,.slice a5 p0.Bits.length a6]) p0) ⟨_,d,S1.know (i:=0) (e:=fRep (rL rB) (.slice a5 p0.Bits.length a6) p0.Bits) d⟩
  have S1:=S1.learn (fRep r_api_Grid (.agg #[iv p1.W,iv p1.H,.slice ab p1.Bits.length ac]) p1) ⟨_,d,S1.know (i:=2) (e:=fRep (rL rB) (.slice ab p1.Bits.length ac) p1.Bits) d⟩
  refine sCallQ (X:=Unit) (f:=18) (vs:=[.agg #[iv p0.W,iv p0.H,.slice a5 p0.Bits.length a6],.agg #[iv p1.W,iv p1.H,.slice ab p1.Bits.length ac]]) (val:=fun _=>.bool bw) S (wG 34 false 140 d d d az) d callee18 d (S1.quiet [1,0] d) (fun E1 w1 S1=>c_raddleref01_Same E1 w1 p0 (.agg #[iv p0.W,iv p0.H,.slice a5 p0.Bits.length a6]) p1 (.agg #[iv p1.W,iv p1.H,.slice ab p1.Bits.length ac]) bw ck S1) d (lb d) fun _ a w S=>?_
  refine sBin _ S (wG 34 false 140 d d d az) d d d (bNeB _ _ _ _ Try.underlying4 (aq.1 == 0) bw) d (lb d) fun a S=>sPickF (.bool ((aq.1 == 0) != bw)) S (wN d) d d az d d (lb d) fun a S=>?_
  exact lT (⟨(aq.1 == 0) != bw,Option.some.inj h,S.fix [0,1,2] [0,1,2] (by decide) d d d⟩)
 obtain ⟨cj,rfl,S⟩:=hI
 have h:=cU
 try dsimp only at h
 rcases iS h with ⟨br,h⟩ | ⟨br,h⟩
 ·refine sCondT S d br (sSeq (fun df cl=>sRegion (sN S fun a S=>?_)))
  refine lT (cl _ _ ?_)
  obtain rfl:=tS h
  exact wp_ret (rThen (sRet (.bool false) S (rsl1 d (rvT (t:=8) (v:=.bool false) S d)) ⟨(),d,S.mem.sel [] [] (by decide) d d⟩))
 refine sCondF S d br (wp_skip (leafT (ci _ _ ?_)))
 refine sSeq (fun dg cm=>sRegion (sLoadN (p:=ap) (off:=0) (T:=24) (vs:=[iv p0.W,iv p0.H,.slice a5 p0.Bits.length a6]) 0 [iv p0.W,iv p0.H,.slice a5 p0.Bits.length a6] S (wN d) d d d d d d d (lb d) fun a S=>sLoadN (p:=au) (off:=0) (T:=24) (vs:=[iv p1.W,iv p1.H,.slice ab p1.Bits.length ac]) 1 [iv p1.W,iv p1.H,.slice ab p1.Bits.length ac] S (wN d) d d d d d d d (lb d) fun a S=>sM S fun a S=>?_))
 obtain ⟨aa,cn,h⟩:=bS h
 have S:=S.learn (fRep r_api_Grid (.agg #[iv p0.W,iv p0.H,.slice a5 p0.Bits.length a6]) p0) ⟨_,d,S.mem.know (i:=0) (e:=fRep (rL rB) (.slice a5 p0.Bits.length a6) p0.Bits) d⟩
 have S:=S.learn (fRep r_api_Grid (.agg #[iv p1.W,iv p1.H,.slice ab p1.Bits.length ac]) p1) ⟨_,d,S.mem.know (i:=2) (e:=fRep (rL rB) (.slice ab p1.Bits.length ac) p1.Bits) d⟩
 refine sCall (X:=Value) (f:=16) (vs:=[.agg #[iv p0.W,iv p0.H,.slice a5 p0.Bits.length a6],.agg #[iv p1.W,iv p1.H,.slice ab p1.Bits.length ac],iv p3]) (val:=c_compare_Nearest_val aa) (B':=fun _=>[]) (D':=c_compare_Nearest_D aa) [] [eBox ap 24 [iv p0.W,iv p0.H,.slice a5 p0.Bits.length a6],eBox au 24 [iv p1.W,iv p1.H,.slice ab p1.Bits.length ac],eBox aS 24 [iv p2.W,iv p2.H,.slice a7 p2.Bits.length a8]] [fRep r_api_Grid (.agg #[iv p0.W,iv p0.H,.slice a5 p0.Bits.length a6]) p0,fRep r_api_Grid (.agg #[iv p1.W,iv p1.H,.slice ab p1.Bits.length ac]) p1] [0,1,2] [1,0] S (wN d) d callee16 d (by decide) d d (fun E1 w1 S1=>c_compare_Nearest E1 w1 p0 (.agg #[iv p0.W,iv p0.H,.slice a5 p0.Bits.length a6]) p1 (.agg #[iv p1.W,iv p1.H,.slice ab p1.Bits.length ac]) p3 aa cn S1) d (lb d) fun cK a w S=>?_
 obtain rfl:cK=.agg #[iv aa.2.2.1.X,iv aa.2.2.1.Y]:=S.mem.know (i:=0) (e:=fRep r_api_Point (cK) aa.2.2.1) d
 refine sM S fun a S=>?_
 refine sExtract (vs:=[iv aa.1,iv aa.2.1,.agg #[iv aa.2.2.1.X,iv aa.2.2.1.Y],iv aa.2.2.2]) (iv aa.1) S (wN d) d d d d (lb d) fun a S=>sExtract (vs:=[iv aa.1,iv aa.2.1,.agg #[iv aa.2.2.1.X,iv aa.2.2.1.Y],iv aa.2.2.2]) (iv aa.2.1) S (wN d) d d d d (lb d) fun a S=>sExtract (vs:=[iv aa.1,iv aa.2.1,.agg #[iv aa.2.2.1.X,iv aa.2.2.1.Y],iv aa.2.2.2]) (.agg #[iv aa.2.2.1.X,iv aa.2.2.1.Y]) S (wN d) d d d d (lb d) fun a S=>sExtract (vs:=[iv aa.1,iv aa.2.1,.agg #[iv aa.2.2.1.X,iv aa.2.2.1.Y],iv aa.2.2.2]) (iv aa.2.2.2) S (wN d) d d d d (lb d) fun a S=>sAlloc (.agg #[iv 0,iv 0]) S (wN d) d d [iv 0,iv 0] d d (lb d) fun a bj w S=>sN S fun a S=>?_
 refine sN S fun a S=>?_
 refine sStore (p:=bj) (off:=0) (T:=33) (vs:=[iv 0,iv 0]) (v:=.agg #[iv aa.2.2.1.X,iv aa.2.2.1.Y]) 0 [iv aa.2.2.1.X,iv aa.2.2.1.Y] S (wN d) d d d d d d d (by simp) d fun a w S=>sN S fun a S=>?_
 refine lT (cm _ _ (sSeq (fun dh co=>sRegion (sLoadN (p:=au) (off:=0) (T:=24) (vs:=[iv p1.W,iv p1.H,.slice ab p1.Bits.length ac]) 2 [iv p1.W,iv p1.H,.slice ab p1.Bits.length ac] S (wN d) d d d d d d d (lb d) fun a S=>sLoadN (p:=aS) (off:=0) (T:=24) (vs:=[iv p2.W,iv p2.H,.slice a7 p2.Bits.length a8]) 3 [iv p2.W,iv p2.H,.slice a7 p2.Bits.length a8] S (wN d) d d d d d d d (lb d) fun a S=>sM S fun a S=>?_))))
 obtain ⟨af,cp,h⟩:=bS h
 have S:=S.learn (fRep r_api_Grid (.agg #[iv p2.W,iv p2.H,.slice a7 p2.Bits.length a8]) p2) ⟨_,d,S.mem.know (i:=5) (e:=fRep (rL rB) (.slice a7 p2.Bits.length a8) p2.Bits) d⟩
 refine sCall (X:=Value) (f:=16) (vs:=[.agg #[iv p1.W,iv p1.H,.slice ab p1.Bits.length ac],.agg #[iv p2.W,iv p2.H,.slice a7 p2.Bits.length a8],iv p3]) (val:=c_compare_Nearest_val af) (B':=fun _=>[]) (D':=c_compare_Nearest_D af) [] [eBox bj 33 [iv aa.2.2.1.X,iv aa.2.2.1.Y],eBox ap 24 [iv p0.W,iv p0.H,.slice a5 p0.Bits.length a6],eBox au 24 [iv p1.W,iv p1.H,.slice ab p1.Bits.length ac],eBox aS 24 [iv p2.W,iv p2.H,.slice a7 p2.Bits.length a8]] [fRep r_api_Grid (.agg #[iv p1.W,iv p1.H,.slice ab p1.Bits.length ac]) p1,fRep r_api_Grid (.agg #[iv p2.W,iv p2.H,.slice a7 p2.Bits.length a8]) p2] [0,1,2,3] [2,0] S (wN d) d callee16 d (by decide) d d (fun E1 w1 S1=>c_compare_Nearest E1 w1 p1 (.agg #[iv p1.W,iv p1.H,.slice ab p1.Bits.length ac]) p2 (.agg #[iv p2.W,iv p2.H,.slice a7 p2.Bits.length a8]) p3 af cp S1) d (lb d) fun cL a w S=>?_
 obtain rfl:cL=.agg #[iv af.2.2.1.X,iv af.2.2.1.Y]:=S.mem.know (i:=0) (e:=fRep r_api_Point (cL) af.2.2.1) d
 refine sM S fun a S=>?_
 refine sExtract (vs:=[iv af.1,iv af.2.1,.agg #[iv af.2.2.1.X,iv af.2.2.1.Y],iv af.2.2.2]) (iv af.1) S (wN d) d d d d (lb d) fun a S=>sExtract (vs:=[iv af.1,iv af.2.1,.agg #[iv af.2.2.1.X,iv af.2.2.1.Y],iv af.2.2.2]) (iv af.2.1) S (wN d) d d d d (lb d) fun a S=>sExtract (vs:=[iv af.1,iv af.2.1,.agg #[iv af.2.2.1.X,iv af.2.2.1.Y],iv af.2.2.2]) (.agg #[iv af.2.2.1.X,iv af.2.2.1.Y]) S (wN d) d d d d (lb d) fun a S=>sExtract (vs:=[iv af.1,iv af.2.1,.agg #[iv af.2.2.1.X,iv af.2.2.1.Y],iv af.2.2.2]) (iv af.2.2.2) S (wN d) d d d d (lb d) fun a S=>sAlloc (.agg #[iv 0,iv 0]) S (wN d) d d [iv 0,iv 0] d d (lb d) fun a bK w S=>sN S fun a S=>?_
 refine sN S fun a S=>?_
 refine sStore (p:=bK) (off:=0) (T:=33) (vs:=[iv 0,iv 0]) (v:=.agg #[iv af.2.2.1.X,iv af.2.2.1.Y]) 0 [iv af.2.2.1.X,iv af.2.2.1.Y] S (wN d) d d d d d d d (by simp) d fun a w S=>sN S fun a S=>?_
 refine lT (co _ _ (sSeq (fun di cq=>sRegion (sLoadN (p:=ap) (off:=0) (T:=24) (vs:=[iv p0.W,iv p0.H,.slice a5 p0.Bits.length a6]) 2 [iv p0.W,iv p0.H,.slice a5 p0.Bits.length a6] S (wN d) d d d d d d d (lb d) fun a S=>sLoadN (p:=aS) (off:=0) (T:=24) (vs:=[iv p2.W,iv p2.H,.slice a7 p2.Bits.length a8]) 4 [iv p2.W,iv p2.H,.slice a7 p2.Bits.length a8] S (wN d) d d d d d d d (lb d) fun a S=>sM S fun a S=>?_))))
 obtain ⟨ag,cr,h⟩:=bS h
 refine sCall (X:=Value) (f:=16) (vs:=[.agg #[iv p0.W,iv p0.H,.slice a5 p0.Bits.length a6],.agg #[iv p2.W,iv p2.H,.slice a7 p2.Bits.length a8],iv p3]) (val:=c_compare_Nearest_val ag) (B':=fun _=>[]) (D':=c_compare_Nearest_D ag) [] [eBox bK 33 [iv af.2.2.1.X,iv af.2.2.1.Y],eBox bj 33 [iv aa.2.2.1.X,iv aa.2.2.1.Y],eBox ap 24 [iv p0.W,iv p0.H,.slice a5 p0.Bits.length a6],eBox au 24 [iv p1.W,iv p1.H,.slice ab p1.Bits.length ac],eBox aS 24 [iv p2.W,iv p2.H,.slice a7 p2.Bits.length a8]] [fRep r_api_Grid (.agg #[iv p0.W,iv p0.H,.slice a5 p0.Bits.length a6]) p0,fRep r_api_Grid (.agg #[iv p2.W,iv p2.H,.slice a7 p2.Bits.length a8]) p2] [0,1,2,3,4] [4,1] S (wN d) d callee16 d (by decide) d d (fun E1 w1 S1=>c_compare_Nearest E1 w1 p0 (.agg #[iv p0.W,iv p0.H,.slice a5 p0.Bits.length a6]) p2 (.agg #[iv p2.W,iv p2.H,.slice a7 p2.Bits.length a8]) p3 ag cr S1) d (lb d) fun cM a w S=>?_
 obtain rfl:cM=.agg #[iv ag.2.2.1.X,iv ag.2.2.1.Y]:=S.mem.know (i:=0) (e:=fRep r_api_Point (cM) ag.2.2.1) d
 refine sM S fun a S=>?_
 refine sExtract (vs:=[iv ag.1,iv ag.2.1,.agg #[iv ag.2.2.1.X,iv ag.2.2.1.Y],iv ag.2.2.2]) (iv ag.1) S (wN d) d d d d (lb d) fun a S=>sExtract (vs:=[iv ag.1,iv ag.2.1,.agg #[iv ag.2.2.1.X,iv ag.2.2.1.Y],iv ag.2.2.2]) (iv ag.2.1) S (wN d) d d d d (lb d) fun a S=>sExtract (vs:=[iv ag.1,iv ag.2.1,.agg #[iv ag.2.2.1.X,iv ag.2.2.1.Y],iv ag.2.2.2]) (.agg #[iv ag.2.2.1.X,iv ag.2.2.1.Y]) S (wN d) d d d d (lb d) fun a S=>sExtract (vs:=[iv ag.1,iv ag.2.1,.agg #[iv ag.2.2.1.X,iv ag.2.2.1.Y],iv ag.2.2.2]) (iv ag.2.2.2) S (wN d) d d d d (lb d) fun a S=>sAlloc (.agg #[iv 0,iv 0]) S (wN d) d d [iv 0,iv 0] d d (lb d) fun a ct w S=>sN S fun a S=>?_
 refine sN S fun a S=>?_
 refine sStore (p:=ct) (off:=0) (T:=33) (vs:=[iv 0,iv 0]) (v:=.agg #[iv ag.2.2.1.X,iv ag.2.2.1.Y]) 0 [iv ag.2.2.1.X,iv ag.2.2.1.Y] S (wN d) d d d d d d d (by simp) d fun a w S=>sN S fun a S=>?_
 refine lT (cq _ _ (sSeq (fun dj cu=>sRegion (sLoadN (p:=au) (off:=0) (T:=24) (vs:=[iv p1.W,iv p1.H,.slice ab p1.Bits.length ac]) 4 [iv p1.W,iv p1.H,.slice ab p1.Bits.length ac] S (wN d) d d d d d d d (lb d) fun a S=>sLoadN (p:=ap) (off:=0) (T:=24) (vs:=[iv p0.W,iv p0.H,.slice a5 p0.Bits.length a6]) 3 [iv p0.W,iv p0.H,.slice a5 p0.Bits.length a6] S (wN d) d d d d d d d (lb d) fun a S=>sM S fun a S=>?_))))
 obtain ⟨ah,cv,h⟩:=bS h
 refine sCall (X:=Value) (f:=16) (vs:=[.agg #[iv p1.W,iv p1.H,.slice ab p1.Bits.length ac],.agg #[iv p0.W,iv p0.H,.slice a5 p0.Bits.length a6],iv p3]) (val:=c_compare_Nearest_val ah) (B':=fun _=>[]) (D':=c_compare_Nearest_D ah) [] [eBox ct 33 [iv ag.2.2.1.X,iv ag.2.2.1.Y],eBox bK 33 [iv af.2.2.1.X,iv af.2.2.1.Y],eBox bj 33 [iv aa.2.2.1.X,iv aa.2.2.1.Y],eBox ap 24 [iv p0.W,iv p0.H,.slice a5 p0.Bits.length a6],eBox au 24 [iv p1.W,iv p1.H,.slice ab p1.Bits.length ac],eBox aS 24 [iv p2.W,iv p2.H,.slice a7 p2.Bits.length a8]] [fRep r_api_Grid (.agg #[iv p1.W,iv p1.H,.slice ab p1.Bits.length ac]) p1,fRep r_api_Grid (.agg #[iv p0.W,iv p0.H,.slice a5 p0.Bits.length a6]) p0] [0,1,2,3,4,5] [4,5] S (wN d) d callee16 d (by decide) d d (fun E1 w1 S1=>c_compare_Nearest E1 w1 p1 (.agg #[iv p1.W,iv p1.H,.slice ab p1.Bits.length ac]) p0 (.agg #[iv p0.W,iv p0.H,.slice a5 p0.Bits.length a6]) p3 ah cv S1) d (lb d) fun cN a w S=>?_
 obtain rfl:cN=.agg #[iv ah.2.2.1.X,iv ah.2.2.1.Y]:=S.mem.know (i:=0) (e:=fRep r_api_Point (cN) ah.2.2.1) d
 refine sM S fun a S=>?_
 refine sExtract (vs:=[iv ah.1,iv ah.2.1,.agg #[iv ah.2.2.1.X,iv ah.2.2.1.Y],iv ah.2.2.2]) (iv ah.1) S (wN d) d d d d (lb d) fun a S=>sExtract (vs:=[iv ah.1,iv ah.2.1,.agg #[iv ah.2.2.1.X,iv ah.2.2.1.Y],iv ah.2.2.2]) (iv ah.2.1) S (wN d) d d d d (lb d) fun a S=>sExtract (vs:=[iv ah.1,iv ah.2.1,.agg #[iv ah.2.2.1.X,iv ah.2.2.1.Y],iv ah.2.2.2]) (.agg #[iv ah.2.2.1.X,iv ah.2.2.1.Y]) S (wN d) d d d d (lb d) fun a S=>sExtract (vs:=[iv ah.1,iv ah.2.1,.agg #[iv ah.2.2.1.X,iv ah.2.2.1.Y],iv ah.2.2.2]) (iv ah.2.2.2) S (wN d) d d d d (lb d) fun a S=>sAlloc (.agg #[iv 0,iv 0]) S (wN d) d d [iv 0,iv 0] d d (lb d) fun a cO w S=>sN S fun a S=>?_
 refine sN S fun a S=>?_
 refine sStore (p:=cO) (off:=0) (T:=33) (vs:=[iv 0,iv 0]) (v:=.agg #[iv ah.2.2.1.X,iv ah.2.2.1.Y]) 0 [iv ah.2.2.1.X,iv ah.2.2.1.Y] S (wN d) d d d d d d d (by simp) d fun a w S=>sN S fun a S=>?_
 refine lT (cu _ _ (sSeq (fun dk cw=>sRegion (sLoadN (p:=ap) (off:=0) (T:=24) (vs:=[iv p0.W,iv p0.H,.slice a5 p0.Bits.length a6]) 4 [iv p0.W,iv p0.H,.slice a5 p0.Bits.length a6] S (wN d) d d d d d d d (lb d) fun a S=>sLoadN (p:=ap) (off:=0) (T:=24) (vs:=[iv p0.W,iv p0.H,.slice a5 p0.Bits.length a6]) 4 [iv p0.W,iv p0.H,.slice a5 p0.Bits.length a6] S (wN d) d d d d d d d (lb d) fun a S=>sM S fun a S=>?_))))
 obtain ⟨ae,cx,h⟩:=bS h
 refine sCall (X:=Value) (f:=16) (vs:=[.agg #[iv p0.W,iv p0.H,.slice a5 p0.Bits.length a6],.agg #[iv p0.W,iv p0.H,.slice a5 p0.Bits.length a6],iv p3]) (val:=c_compare_Nearest_val ae) (B':=fun _=>[]) (D':=c_compare_Nearest_D ae) [] [eBox cO 33 [iv ah.2.2.1.X,iv ah.2.2.1.Y],eBox ct 33 [iv ag.2.2.1.X,iv ag.2.2.1.Y],eBox bK 33 [iv af.2.2.1.X,iv af.2.2.1.Y],eBox bj 33 [iv aa.2.2.1.X,iv aa.2.2.1.Y],eBox ap 24 [iv p0.W,iv p0.H,.slice a5 p0.Bits.length a6],eBox au 24 [iv p1.W,iv p1.H,.slice ab p1.Bits.length ac],eBox aS 24 [iv p2.W,iv p2.H,.slice a7 p2.Bits.length a8]] [fRep r_api_Grid (.agg #[iv p0.W,iv p0.H,.slice a5 p0.Bits.length a6]) p0,fRep r_api_Grid (.agg #[iv p0.W,iv p0.H,.slice a5 p0.Bits.length a6]) p0] [0,1,2,3,4,5,6] [6,6] S (wN d) d callee16 d (by decide) d d (fun E1 w1 S1=>c_compare_Nearest E1 w1 p0 (.agg #[iv p0.W,iv p0.H,.slice a5 p0.Bits.length a6]) p0 (.agg #[iv p0.W,iv p0.H,.slice a5 p0.Bits.length a6]) p3 ae cx S1) d (lb d) fun cP a w S=>?_
 obtain rfl:cP=.agg #[iv ae.2.2.1.X,iv ae.2.2.1.Y]:=S.mem.know (i:=0) (e:=fRep r_api_Point (cP) ae.2.2.1) d
 refine sM S fun a S=>?_
 refine sExtract (vs:=[iv ae.1,iv ae.2.1,.agg #[iv ae.2.2.1.X,iv ae.2.2.1.Y],iv ae.2.2.2]) (iv ae.1) S (wN d) d d d d (lb d) fun a S=>sExtract (vs:=[iv ae.1,iv ae.2.1,.agg #[iv ae.2.2.1.X,iv ae.2.2.1.Y],iv ae.2.2.2]) (iv ae.2.1) S (wN d) d d d d (lb d) fun a S=>sExtract (vs:=[iv ae.1,iv ae.2.1,.agg #[iv ae.2.2.1.X,iv ae.2.2.1.Y],iv ae.2.2.2]) (.agg #[iv ae.2.2.1.X,iv ae.2.2.1.Y]) S (wN d) d d d d (lb d) fun a S=>sExtract (vs:=[iv ae.1,iv ae.2.1,.agg #[iv ae.2.2.1.X,iv ae.2.2.1.Y],iv ae.2.2.2]) (iv ae.2.2.2) S (wN d) d d d d (lb d) fun a S=>sAlloc (.agg #[iv 0,iv 0]) S (wN d) d d [iv 0,iv 0] d d (lb d) fun a cQ w S=>sN S fun a S=>?_
 refine sN S fun a S=>?_
 refine sStore (p:=cQ) (off:=0) (T:=33) (vs:=[iv 0,iv 0]) (v:=.agg #[iv ae.2.2.1.X,iv ae.2.2.1.Y]) 0 [iv ae.2.2.1.X,iv ae.2.2.1.Y] S (wN d) d d d d d d d (by simp) d fun a w S=>sN S fun a S=>?_
 refine lT (cw _ _ (sSeq (fun dm cy=>?_)))
 obtain ⟨cV,h,cz⟩:=bS h
 refine sCut (fun a w=>∃ cA,cA=cV∧St [] E [] w0 286 a w [(3,iv p3),(4,.pointer (some ⟨ap,0,none⟩)),(5,.pointer (some ⟨au,0,none⟩)),(9,.bool bi),(20,iv aa.1),(21,iv aa.2.1),(22,.pointer (some ⟨bj,0,none⟩)),(240,.bool cA)] [eBox ap 24 [iv p0.W,iv p0.H,.slice a5 p0.Bits.length a6],eBox au 24 [iv p1.W,iv p1.H,.slice ab p1.Bits.length ac],eBox bj 33 [iv aa.2.2.1.X,iv aa.2.2.1.Y]] [fRep (rL rB) (.slice a5 p0.Bits.length a6) p0.Bits,fRep (rL rB) (.slice ab p1.Bits.length ac) p1.Bits]) ?_ (fun a w hI=>?_)
 rotate_left
 ·obtain ⟨cA,rfl,S⟩:=hI
  have h:=cz
  try dsimp only at h
  rcases iS h with ⟨bk,h⟩ | ⟨bk,h⟩
  ·refine sCondT S d bk (sSeq (fun cW bx=>sRegion (sN S fun a S=>?_)))
   refine lT (bx _ _ ?_)
   obtain rfl:=tS h
   exact wp_ret (rThen (sRet (.bool false) S (rsl1 d (rvT (t:=8) (v:=.bool false) S d)) ⟨(),d,S.mem.sel [] [] (by decide) d d⟩))
  refine sCondF S d bk (wp_skip (leafT (cy _ _ ?_)))
  refine sSeq (fun cX bz=>sRegion (sLoadN (p:=ap) (off:=0) (T:=24) (vs:=[iv p0.W,iv p0.H,.slice a5 p0.Bits.length a6]) 0 [iv p0.W,iv p0.H,.slice a5 p0.Bits.length a6] S (wN d) d d d d d d d (lb d) fun a S=>sM S fun a S=>?_))
  obtain ⟨a0,bA,h⟩:=bS h
  have S:=S.learn (fRep r_api_Grid (.agg #[iv p0.W,iv p0.H,.slice a5 p0.Bits.length a6]) p0) ⟨_,d,S.mem.know (i:=0) (e:=fRep (rL rB) (.slice a5 p0.Bits.length a6) p0.Bits) d⟩
  refine sCall (X:=Value) (f:=33) (vs:=[.agg #[iv p0.W,iv p0.H,.slice a5 p0.Bits.length a6],iv aa.2.1]) (val:=c_symmetry_Apply_val a0) (B':=fun _=>[]) (D':=c_symmetry_Apply_D a0) [] [eBox ap 24 [iv p0.W,iv p0.H,.slice a5 p0.Bits.length a6],eBox au 24 [iv p1.W,iv p1.H,.slice ab p1.Bits.length ac],eBox bj 33 [iv aa.2.2.1.X,iv aa.2.2.1.Y]] [fRep r_api_Grid (.agg #[iv p0.W,iv p0.H,.slice a5 p0.Bits.length a6]) p0] [0,1,2] [0] S (wN d) d callee33 d (by decide) d d (fun E1 w1 S1=>c_symmetry_Apply E1 w1 p0 (.agg #[iv p0.W,iv p0.H,.slice a5 p0.Bits.length a6]) aa.2.1 a0 bA S1) d (lb d) fun cB a w S=>?_
  obtain ⟨cC,rfl,bo⟩:=S.mem.know (i:=0) (e:=fRep r_api_Grid (cB) a0.1) d
  have S:=S.learn (fRep (rL rB) cC a0.1.Bits) bo
  obtain ⟨ai,aj,_,rfl,_⟩:=bo
  refine sM S fun a S=>?_
  refine sExtract (vs:=[.agg #[iv a0.1.W,iv a0.1.H,.slice ai a0.1.Bits.length aj],iv a0.2]) (.agg #[iv a0.1.W,iv a0.1.H,.slice ai a0.1.Bits.length aj]) S (wN d) d d d d (lb d) fun a S=>sExtract (vs:=[.agg #[iv a0.1.W,iv a0.1.H,.slice ai a0.1.Bits.length aj],iv a0.2]) (iv a0.2) S (wN d) d d d d (lb d) fun a S=>sAlloc (.agg #[iv 0,iv 0,.slice none 0 0]) S (wN d) d d [iv 0,iv 0,.slice none 0 0] d d (lb d) fun a bu w S=>sStore (p:=bu) (off:=0) (T:=24) (vs:=[iv 0,iv 0,.slice none 0 0]) (v:=.agg #[iv a0.1.W,iv a0.1.H,.slice ai a0.1.Bits.length aj]) 0 [iv a0.1.W,iv a0.1.H,.slice ai a0.1.Bits.length aj] S (wN d) d d d d d d d (by simp) d fun a w S=>sN S fun a S=>?_
  refine lT (bz _ _ (sSeq (fun cY bB=>sRegion (sLoadN (p:=bu) (off:=0) (T:=24) (vs:=[iv a0.1.W,iv a0.1.H,.slice ai a0.1.Bits.length aj]) 0 [iv a0.1.W,iv a0.1.H,.slice ai a0.1.Bits.length aj] S (wN d) d d d d d d d (lb d) fun a S=>sField (b:=bj) (off:=0) 0 0 S (wN d) d d d d d (lb d) fun a S=>sLoad1 3 (iv aa.2.2.1.X) S (wN d) d d d d d d (lb d) fun a S=>sField (b:=bj) (off:=0) 1 1 S (wN d) d d d d d (lb d) fun a S=>sLoad1 3 (iv aa.2.2.1.Y) S (wN d) d d d d d d (lb d) fun a S=>?_))))
  obtain ⟨a9,bC,h⟩:=bS h
  refine sCall (X:=Value) (f:=34) (vs:=[.agg #[iv a0.1.W,iv a0.1.H,.slice ai a0.1.Bits.length aj],iv aa.2.2.1.X,iv aa.2.2.1.Y]) (val:=c_grid_Shift_val a9) (B':=fun _=>[]) (D':=c_grid_Shift_D a9) [] [eBox bu 24 [iv a0.1.W,iv a0.1.H,.slice ai a0.1.Bits.length aj],eBox ap 24 [iv p0.W,iv p0.H,.slice a5 p0.Bits.length a6],eBox au 24 [iv p1.W,iv p1.H,.slice ab p1.Bits.length ac],eBox bj 33 [iv aa.2.2.1.X,iv aa.2.2.1.Y]] [fRep r_api_Grid (.agg #[iv a0.1.W,iv a0.1.H,.slice ai a0.1.Bits.length aj]) a0.1] [0,1,2,3] [1] S (wN d) d callee34 d (by decide) d d (fun E1 w1 S1=>c_grid_Shift E1 w1 a0.1 (.agg #[iv a0.1.W,iv a0.1.H,.slice ai a0.1.Bits.length aj]) aa.2.2.1.X aa.2.2.1.Y a9 bC S1) d (lb d) fun cD a w S=>?_
  obtain ⟨cE,rfl,bp⟩:=S.mem.know (i:=0) (e:=fRep r_api_Grid (cD) a9.1) d
  have S:=S.learn (fRep (rL rB) cE a9.1.Bits) bp
  obtain ⟨al,am,_,rfl,_⟩:=bp
  refine sM S fun a S=>?_
  refine sExtract (vs:=[.agg #[iv a9.1.W,iv a9.1.H,.slice al a9.1.Bits.length am],iv a9.2]) (.agg #[iv a9.1.W,iv a9.1.H,.slice al a9.1.Bits.length am]) S (wN d) d d d d (lb d) fun a S=>sExtract (vs:=[.agg #[iv a9.1.W,iv a9.1.H,.slice al a9.1.Bits.length am],iv a9.2]) (iv a9.2) S (wN d) d d d d (lb d) fun a S=>sAlloc (.agg #[iv 0,iv 0,.slice none 0 0]) S (wN d) d d [iv 0,iv 0,.slice none 0 0] d d (lb d) fun a bD w S=>sStore (p:=bD) (off:=0) (T:=24) (vs:=[iv 0,iv 0,.slice none 0 0]) (v:=.agg #[iv a9.1.W,iv a9.1.H,.slice al a9.1.Bits.length am]) 0 [iv a9.1.W,iv a9.1.H,.slice al a9.1.Bits.length am] S (wN d) d d d d d d d (by simp) d fun a w S=>sN S fun a S=>?_
  refine lT (bB _ _ (sSeq (fun cZ bE=>sRegion (sLoadN (p:=bD) (off:=0) (T:=24) (vs:=[iv a9.1.W,iv a9.1.H,.slice al a9.1.Bits.length am]) 0 [iv a9.1.W,iv a9.1.H,.slice al a9.1.Bits.length am] S (wN d) d d d d d d d (lb d) fun a S=>sLoadN (p:=au) (off:=0) (T:=24) (vs:=[iv p1.W,iv p1.H,.slice ab p1.Bits.length ac]) 3 [iv p1.W,iv p1.H,.slice ab p1.Bits.length ac] S (wN d) d d d d d d d (lb d) fun a S=>?_))))
  obtain ⟨ak,bG,h⟩:=bS h
  have S1:=S.mem
  have S1:=S1.learn (fRep r_api_Grid (.agg #[iv p1.W,iv p1.H,.slice ab p1.Bits.length ac]) p1) ⟨_,d,S1.know (i:=6) (e:=fRep (rL rB) (.slice ab p1.Bits.length ac) p1.Bits) d⟩
  refine sCq [.agg #[iv a9.1.W,iv a9.1.H,.slice al a9.1.Bits.length am],.agg #[iv p1.W,iv p1.H,.slice ab p1.Bits.length ac]] (.tuple #[iv ak.1,iv ak.2]) S callee14 (S1.quiet [2,0] d) (fun E1 w1 S1=>c_compare_Cells E1 w1 a9.1 (.agg #[iv a9.1.W,iv a9.1.H,.slice al a9.1.Bits.length am]) p1 (.agg #[iv p1.W,iv p1.H,.slice ab p1.Bits.length ac]) ak bG S1) fun a w S=>?_
  refine sM S fun a S=>?_
  refine sExtract (vs:=[iv ak.1,iv ak.2]) (iv ak.1) S (wN d) d d d d (lb d) fun a S=>sExtract (vs:=[iv ak.1,iv ak.2]) (iv ak.2) S (wN d) d d d d (lb d) fun a S=>sN S fun a S=>?_
  refine sN S fun a S=>?_
  refine lT (bE _ _ ?_)
  obtain ⟨cF,h,cG⟩:=bS h
  refine sCut (fun a w=>∃ bl,bl=cF∧St [] E [] w0 286 a w [(8,.bool bl)] [] []) ?_ (fun a w hI=>?_)
  rotate_left
  ·obtain ⟨bl,rfl,S⟩:=hI
   have h:=cG
   try dsimp only at h
   obtain rfl:=tS h
   exact wp_ret (sRet (.bool bl) S (rsl1 d (rvT (t:=8) (v:=.bool bl) S d)) ⟨(),d,S.mem.sel [] [] (by decide) d d⟩)
  refine sRegion (sM S fun a S=>?_)
  refine sM S fun a S=>?_
  rcases iS h with ⟨aA,h⟩ | ⟨aA,h⟩
  rotate_left
  ·refine sSkN 2 1 true 263 S d d aA d fun a S=>sPickF (.bool false) S (wN d) d d aA d d (lb d) fun a S=>sM S fun a S=>?_
   refine sSkN 2 5 true 267 S d d d d fun a S=>sPickF (.bool false) S (wN d) d d d d d (lb d) fun a S=>sM S fun a S=>?_
   refine sSkN 2 9 true 271 S d d d d fun a S=>sPickF (.bool false) S (wN d) d d d d d (lb d) fun a S=>sM S fun a S=>?_
   refine sSkN 3 13 true 275 S d d d d fun a S=>sPickF (.bool false) S (wN d) d d d d d (lb d) fun a S=>sM S fun a S=>?_
   refine sSkN 4 18 true 280 S d d d d fun a S=>sPickF (.bool false) S (wN d) d d d d d (lb d) fun a S=>sN S fun a S=>?_
   exact lT (⟨false,Option.some.inj h,S.fix [] [] (by decide) d d d⟩)
  refine sMove (iv a0.2) S (wG 1 true 263 d d d aA) (.inl d) d d (lb d) fun a S=>sBin _ S (wG 1 true 263 d d d aA) d d d (bEq _ _ _ _ .i64 a0.2 0) d (lb d) fun a S=>sPickT (.bool (a0.2 == 0)) S (wN d) d d aA d d (lb d) fun a S=>sM S fun a S=>?_
  rcases iS h with ⟨aC,h⟩ | ⟨aC,h⟩
  rotate_left
  ·refine sSkN 2 5 true 267 S d d aC d fun a S=>sPickF (.bool false) S (wN d) d d aC d d (lb d) fun a S=>sM S fun a S=>?_
   refine sSkN 2 9 true 271 S d d d d fun a S=>sPickF (.bool false) S (wN d) d d d d d (lb d) fun a S=>sM S fun a S=>?_
   refine sSkN 3 13 true 275 S d d d d fun a S=>sPickF (.bool false) S (wN d) d d d d d (lb d) fun a S=>sM S fun a S=>?_
   refine sSkN 4 18 true 280 S d d d d fun a S=>sPickF (.bool false) S (wN d) d d d d d (lb d) fun a S=>sN S fun a S=>?_
   exact lT (⟨false,Option.some.inj h,S.fix [] [] (by decide) d d d⟩)
  refine sMove (iv a9.2) S (wG 5 true 267 d d d aC) (.inl d) d d (lb d) fun a S=>sBin _ S (wG 5 true 267 d d d aC) d d d (bEq _ _ _ _ .i64 a9.2 0) d (lb d) fun a S=>sPickT (.bool (a9.2 == 0)) S (wN d) d d aC d d (lb d) fun a S=>sM S fun a S=>?_
  rcases iS h with ⟨aG,h⟩ | ⟨aG,h⟩
  rotate_left
  ·refine sSkN 2 9 true 271 S d d aG d fun a S=>sPickF (.bool false) S (wN d) d d aG d d (lb d) fun a S=>sM S fun a S=>?_
   refine sSkN 3 13 true 275 S d d d d fun a S=>sPickF (.bool false) S (wN d) d d d d d (lb d) fun a S=>sM S fun a S=>?_
   refine sSkN 4 18 true 280 S d d d d fun a S=>sPickF (.bool false) S (wN d) d d d d d (lb d) fun a S=>sN S fun a S=>?_
   exact lT (⟨false,Option.some.inj h,S.fix [] [] (by decide) d d d⟩)
  refine sMove (iv ak.2) S (wG 9 true 271 d d d aG) (.inl d) d d (lb d) fun a S=>sBin _ S (wG 9 true 271 d d d aG) d d d (bEq _ _ _ _ .i64 ak.2 0) d (lb d) fun a S=>sPickT (.bool (ak.2 == 0)) S (wN d) d d aG d d (lb d) fun a S=>sM S fun a S=>?_
  rcases iS h with ⟨av,h⟩ | ⟨av,h⟩
  rotate_left
  ·refine sSkN 3 13 true 275 S d d av d fun a S=>sPickF (.bool false) S (wN d) d d av d d (lb d) fun a S=>sM S fun a S=>?_
   refine sSkN 4 18 true 280 S d d d d fun a S=>sPickF (.bool false) S (wN d) d d d d d (lb d) fun a S=>sN S fun a S=>?_
   exact lT (⟨false,Option.some.inj h,S.fix [] [] (by decide) d d d⟩)
  refine sMove (iv ak.1) S (wG 13 true 275 d d d av) (.inl d) d d (lb d) fun a S=>sMove (iv aa.1) S (wG 13 true 275 d d d av) (.inl d) d d (lb d) fun a S=>sBin _ S (wG 13 true 275 d d d av) d d d (bEq _ _ _ _ .i64 ak.1 aa.1) d (lb d) fun a S=>sPickT (.bool (ak.1 == aa.1)) S (wN d) d d av d d (lb d) fun a S=>sM S fun a S=>?_
  rcases iS h with ⟨ar,h⟩ | ⟨ar,h⟩
  rotate_left
  ·refine sSkN 4 18 true 280 S d d ar d fun a S=>sPickF (.bool false) S (wN d) d d ar d d (lb d) fun a S=>sN S fun a S=>?_
   exact lT (⟨false,Option.some.inj h,S.fix [] [] (by decide) d d d⟩)
  refine sMove (iv aa.2.1) S (wG 18 true 280 d d d ar) (.inl d) d d (lb d) fun a S=>sMove (iv p3) S (wG 18 true 280 d d d ar) (.inl d) d d (lb d) fun a S=>?_
  obtain ⟨bm,bH,h⟩:=bS h
  have S1:=S.mem
  refine sCallQ (X:=Unit) (f:=35) (vs:=[iv p3]) (val:=fun _=>iv bm) S (wG 18 true 280 d d d ar) d callee35 d (S1.quiet [] d) (fun E1 w1 S1=>c_raddleref46_Last E1 w1 p3 bm bH S1) d (lb d) fun _ a w S=>?_
  refine sBin _ S (wG 18 true 280 d d d ar) d d d (bLe _ _ _ _ .i64 aa.2.1 bm) d (lb d) fun a S=>sPickT (.bool (decide (aa.2.1 ≤ bm))) S (wN d) d d ar d d (lb d) fun a S=>sN S fun a S=>?_
  exact lT (⟨decide (aa.2.1 ≤ bm),Option.some.inj h,S.fix [] [] (by decide) d d d⟩)
 refine sRegion (sM S fun a S=>?_)
 refine sBin _ S (wN d) d d d (bNe _ _ _ _ .i64 aa.2.2.2 0) d (lb d) fun a S=>sM S fun a S=>?_
 rcases iS h with ⟨aH,h⟩ | ⟨aH,h⟩
 ·refine sSkN 2 2 false 195 S d d aH d fun a S=>sPickT (.bool true) S (wN d) d d aH d d (lb d) fun a S=>sM S fun a S=>?_
  refine sSkN 2 6 false 199 S d d d d fun a S=>sPickT (.bool true) S (wN d) d d d d d (lb d) fun a S=>sM S fun a S=>?_
  refine sSkN 2 10 false 203 S d d d d fun a S=>sPickT (.bool true) S (wN d) d d d d d (lb d) fun a S=>sM S fun a S=>?_
  refine sSkN 2 14 false 207 S d d d d fun a S=>sPickT (.bool true) S (wN d) d d d d d (lb d) fun a S=>sM S fun a S=>?_
  refine sSkN 3 18 false 211 S d d d d fun a S=>sPickT (.bool true) S (wN d) d d d d d (lb d) fun a S=>sM S fun a S=>?_
  refine sSkN 5 23 false 216 S d d d d fun a S=>sPickT (.bool true) S (wN d) d d d d d (lb d) fun a S=>sM S fun a S=>?_
  refine sSkN 3 30 false 223 S d d d d fun a S=>sPickT (.bool true) S (wN d) d d d d d (lb d) fun a S=>sM S fun a S=>?_
  refine sSkN 2 35 false 228 S d d d d fun a S=>sPickT (.bool true) S (wN d) d d d d d (lb d) fun a S=>sM S fun a S=>?_
  refine sSkN 2 39 false 232 S d d d d fun a S=>sPickT (.bool true) S (wN d) d d d d d (lb d) fun a S=>sM S fun a S=>?_
  refine sSkN 3 43 false 236 S d d d d fun a S=>sPickT (.bool true) S (wN d) d d d d d (lb d) fun a S=>?_
  exact lT (⟨true,Option.some.inj h,S.fix [5,6,4] [8,9] (by decide) d d d⟩)
 refine sMove (iv af.2.2.2) S (wG 2 false 195 d d d aH) (.inl d) d d (lb d) fun a S=>sBin _ S (wG 2 false 195 d d d aH) d d d (bNe _ _ _ _ .i64 af.2.2.2 0) d (lb d) fun a S=>sPickF (.bool (af.2.2.2 != 0)) S (wN d) d d aH d d (lb d) fun a S=>sM S fun a S=>?_
 rcases iS h with ⟨aI,h⟩ | ⟨aI,h⟩
 ·refine sSkN 2 6 false 199 S d d aI d fun a S=>sPickT (.bool true) S (wN d) d d aI d d (lb d) fun a S=>sM S fun a S=>?_
  refine sSkN 2 10 false 203 S d d d d fun a S=>sPickT (.bool true) S (wN d) d d d d d (lb d) fun a S=>sM S fun a S=>?_
  refine sSkN 2 14 false 207 S d d d d fun a S=>sPickT (.bool true) S (wN d) d d d d d (lb d) fun a S=>sM S fun a S=>?_
  refine sSkN 3 18 false 211 S d d d d fun a S=>sPickT (.bool true) S (wN d) d d d d d (lb d) fun a S=>sM S fun a S=>?_
  refine sSkN 5 23 false 216 S d d d d fun a S=>sPickT (.bool true) S (wN d) d d d d d (lb d) fun a S=>sM S fun a S=>?_
  refine sSkN 3 30 false 223 S d d d d fun a S=>sPickT (.bool true) S (wN d) d d d d d (lb d) fun a S=>sM S fun a S=>?_
  refine sSkN 2 35 false 228 S d d d d fun a S=>sPickT (.bool true) S (wN d) d d d d d (lb d) fun a S=>sM S fun a S=>?_
  refine sSkN 2 39 false 232 S d d d d fun a S=>sPickT (.bool true) S (wN d) d d d d d (lb d) fun a S=>sM S fun a S=>?_
  refine sSkN 3 43 false 236 S d d d d fun a S=>sPickT (.bool true) S (wN d) d d d d d (lb d) fun a S=>?_
  exact lT (⟨true,Option.some.inj h,S.fix [5,6,4] [8,9] (by decide) d d d⟩)
 refine sMove (iv ag.2.2.2) S (wG 6 false 199 d d d aI) (.inl d) d d (lb d) fun a S=>sBin _ S (wG 6 false 199 d d d aI) d d d (bNe _ _ _ _ .i64 ag.2.2.2 0) d (lb d) fun a S=>sPickF (.bool (ag.2.2.2 != 0)) S (wN d) d d aI d d (lb d) fun a S=>sM S fun a S=>?_
 rcases iS h with ⟨aJ,h⟩ | ⟨aJ,h⟩
 ·refine sSkN 2 10 false 203 S d d aJ d fun a S=>sPickT (.bool true) S (wN d) d d aJ d d (lb d) fun a S=>sM S fun a S=>?_
  refine sSkN 2 14 false 207 S d d d d fun a S=>sPickT (.bool true) S (wN d) d d d d d (lb d) fun a S=>sM S fun a S=>?_
  refine sSkN 3 18 false 211 S d d d d fun a S=>sPickT (.bool true) S (wN d) d d d d d (lb d) fun a S=>sM S fun a S=>?_
  refine sSkN 5 23 false 216 S d d d d fun a S=>sPickT (.bool true) S (wN d) d d d d d (lb d) fun a S=>sM S fun a S=>?_
  refine sSkN 3 30 false 223 S d d d d fun a S=>sPickT (.bool true) S (wN d) d d d d d (lb d) fun a S=>sM S fun a S=>?_
  refine sSkN 2 35 false 228 S d d d d fun a S=>sPickT (.bool true) S (wN d) d d d d d (lb d) fun a S=>sM S fun a S=>?_
  refine sSkN 2 39 false 232 S d d d d fun a S=>sPickT (.bool true) S (wN d) d d d d d (lb d) fun a S=>sM S fun a S=>?_
  refine sSkN 3 43 false 236 S d d d d fun a S=>sPickT (.bool true) S (wN d) d d d d d (lb d) fun a S=>?_
  exact lT (⟨true,Option.some.inj h,S.fix [5,6,4] [8,9] (by decide) d d d⟩)
 refine sMove (iv ah.2.2.2) S (wG 10 false 203 d d d aJ) (.inl d) d d (lb d) fun a S=>sBin _ S (wG 10 false 203 d d d aJ) d d d (bNe _ _ _ _ .i64 ah.2.2.2 0) d (lb d) fun a S=>sPickF (.bool (ah.2.2.2 != 0)) S (wN d) d d aJ d d (lb d) fun a S=>sM S fun a S=>?_
 rcases iS h with ⟨aK,h⟩ | ⟨aK,h⟩
 ·refine sSkN 2 14 false 207 S d d aK d fun a S=>sPickT (.bool true) S (wN d) d d aK d d (lb d) fun a S=>sM S fun a S=>?_
  refine sSkN 3 18 false 211 S d d d d fun a S=>sPickT (.bool true) S (wN d) d d d d d (lb d) fun a S=>sM S fun a S=>?_
  refine sSkN 5 23 false 216 S d d d d fun a S=>sPickT (.bool true) S (wN d) d d d d d (lb d) fun a S=>sM S fun a S=>?_
  refine sSkN 3 30 false 223 S d d d d fun a S=>sPickT (.bool true) S (wN d) d d d d d (lb d) fun a S=>sM S fun a S=>?_
  refine sSkN 2 35 false 228 S d d d d fun a S=>sPickT (.bool true) S (wN d) d d d d d (lb d) fun a S=>sM S fun a S=>?_
  refine sSkN 2 39 false 232 S d d d d fun a S=>sPickT (.bool true) S (wN d) d d d d d (lb d) fun a S=>sM S fun a S=>?_
  refine sSkN 3 43 false 236 S d d d d fun a S=>sPickT (.bool true) S (wN d) d d d d d (lb d) fun a S=>?_
  exact lT (⟨true,Option.some.inj h,S.fix [5,6,4] [8,9] (by decide) d d d⟩)
 refine sMove (iv ae.2.2.2) S (wG 14 false 207 d d d aK) (.inl d) d d (lb d) fun a S=>sBin _ S (wG 14 false 207 d d d aK) d d d (bNe _ _ _ _ .i64 ae.2.2.2 0) d (lb d) fun a S=>sPickF (.bool (ae.2.2.2 != 0)) S (wN d) d d aK d d (lb d) fun a S=>sM S fun a S=>?_
 rcases iS h with ⟨aw,h⟩ | ⟨aw,h⟩
 ·refine sSkN 3 18 false 211 S d d aw d fun a S=>sPickT (.bool true) S (wN d) d d aw d d (lb d) fun a S=>sM S fun a S=>?_
  refine sSkN 5 23 false 216 S d d d d fun a S=>sPickT (.bool true) S (wN d) d d d d d (lb d) fun a S=>sM S fun a S=>?_
  refine sSkN 3 30 false 223 S d d d d fun a S=>sPickT (.bool true) S (wN d) d d d d d (lb d) fun a S=>sM S fun a S=>?_
  refine sSkN 2 35 false 228 S d d d d fun a S=>sPickT (.bool true) S (wN d) d d d d d (lb d) fun a S=>sM S fun a S=>?_
  refine sSkN 2 39 false 232 S d d d d fun a S=>sPickT (.bool true) S (wN d) d d d d d (lb d) fun a S=>sM S fun a S=>?_
  refine sSkN 3 43 false 236 S d d d d fun a S=>sPickT (.bool true) S (wN d) d d d d d (lb d) fun a S=>?_
  exact lT (⟨true,Option.some.inj h,S.fix [5,6,4] [8,9] (by decide) d d d⟩)
 refine sMove (iv aa.1) S (wG 18 false 211 d d d aw) (.inl d) d d (lb d) fun a S=>sMove (iv ah.1) S (wG 18 false 211 d d d aw) (.inl d) d d (lb d) fun a S=>sBin _ S (wG 18 false 211 d d d aw) d d d (bNe _ _ _ _ .i64 aa.1 ah.1) d (lb d) fun a S=>sPickF (.bool (aa.1 != ah.1)) S (wN d) d d aw d d (lb d) fun a S=>sM S fun a S=>?_
 rcases iS h with ⟨ao,h⟩ | ⟨ao,h⟩
 ·refine sSkN 5 23 false 216 S d d ao d fun a S=>sPickT (.bool true) S (wN d) d d ao d d (lb d) fun a S=>sM S fun a S=>?_
  refine sSkN 3 30 false 223 S d d d d fun a S=>sPickT (.bool true) S (wN d) d d d d d (lb d) fun a S=>sM S fun a S=>?_
  refine sSkN 2 35 false 228 S d d d d fun a S=>sPickT (.bool true) S (wN d) d d d d d (lb d) fun a S=>sM S fun a S=>?_
  refine sSkN 2 39 false 232 S d d d d fun a S=>sPickT (.bool true) S (wN d) d d d d d (lb d) fun a S=>sM S fun a S=>?_
  refine sSkN 3 43 false 236 S d d d d fun a S=>sPickT (.bool true) S (wN d) d d d d d (lb d) fun a S=>?_
  exact lT (⟨true,Option.some.inj h,S.fix [5,6,4] [8,9] (by decide) d d d⟩)
 refine sMove (iv ag.1) S (wG 23 false 216 d d d ao) (.inl d) d d (lb d) fun a S=>sMove (iv aa.1) S (wG 23 false 216 d d d ao) (.inl d) d d (lb d) fun a S=>sMove (iv af.1) S (wG 23 false 216 d d d ao) (.inl d) d d (lb d) fun a S=>sBin _ S (wG 23 false 216 d d d ao) d d d (bAdd _ _ _ _ aa.1 af.1) d (lb d) fun a S=>sBin _ S (wG 23 false 216 d d d ao) d d d (bGt _ _ _ _ .i64 ag.1 (w64 (aa.1 + af.1))) d (lb d) fun a S=>sPickF (.bool (decide ((w64 (aa.1 + af.1)) < ag.1))) S (wN d) d d ao d d (lb d) fun a S=>sM S fun a S=>?_
 rcases iS h with ⟨ax,h⟩ | ⟨ax,h⟩
 ·refine sSkN 3 30 false 223 S d d ax d fun a S=>sPickT (.bool true) S (wN d) d d ax d d (lb d) fun a S=>sM S fun a S=>?_
  refine sSkN 2 35 false 228 S d d d d fun a S=>sPickT (.bool true) S (wN d) d d d d d (lb d) fun a S=>sM S fun a S=>?_
  refine sSkN 2 39 false 232 S d d d d fun a S=>sPickT (.bool true) S (wN d) d d d d d (lb d) fun a S=>sM S fun a S=>?_
  refine sSkN 3 43 false 236 S d d d d fun a S=>sPickT (.bool true) S (wN d) d d d d d (lb d) fun a S=>?_
  exact lT (⟨true,Option.some.inj h,S.fix [5,6,4] [8,9] (by decide) d d d⟩)
 refine sMove (iv aa.1) S (wG 30 false 223 d d d ax) (.inl d) d d (lb d) fun a S=>sMove (iv aq.1) S (wG 30 false 223 d d d ax) (.inl d) d d (lb d) fun a S=>sBin _ S (wG 30 false 223 d d d ax) d d d (bGt _ _ _ _ .i64 aa.1 aq.1) d (lb d) fun a S=>sPickF (.bool (decide (aq.1 < aa.1))) S (wN d) d d ax d d (lb d) fun a S=>sM S fun a S=>?_
 rcases iS h with ⟨aL,h⟩ | ⟨aL,h⟩
 ·refine sSkN 2 35 false 228 S d d aL d fun a S=>sPickT (.bool true) S (wN d) d d aL d d (lb d) fun a S=>sM S fun a S=>?_
  refine sSkN 2 39 false 232 S d d d d fun a S=>sPickT (.bool true) S (wN d) d d d d d (lb d) fun a S=>sM S fun a S=>?_
  refine sSkN 3 43 false 236 S d d d d fun a S=>sPickT (.bool true) S (wN d) d d d d d (lb d) fun a S=>?_
  exact lT (⟨true,Option.some.inj h,S.fix [5,6,4] [8,9] (by decide) d d d⟩)
 refine sMove (iv ae.1) S (wG 35 false 228 d d d aL) (.inl d) d d (lb d) fun a S=>sBin _ S (wG 35 false 228 d d d aL) d d d (bNe _ _ _ _ .i64 ae.1 0) d (lb d) fun a S=>sPickF (.bool (ae.1 != 0)) S (wN d) d d aL d d (lb d) fun a S=>sM S fun a S=>?_
 rcases iS h with ⟨aM,h⟩ | ⟨aM,h⟩
 ·refine sSkN 2 39 false 232 S d d aM d fun a S=>sPickT (.bool true) S (wN d) d d aM d d (lb d) fun a S=>sM S fun a S=>?_
  refine sSkN 3 43 false 236 S d d d d fun a S=>sPickT (.bool true) S (wN d) d d d d d (lb d) fun a S=>?_
  exact lT (⟨true,Option.some.inj h,S.fix [5,6,4] [8,9] (by decide) d d d⟩)
 refine sMove (iv ae.2.1) S (wG 39 false 232 d d d aM) (.inl d) d d (lb d) fun a S=>sBin _ S (wG 39 false 232 d d d aM) d d d (bNe _ _ _ _ .i64 ae.2.1 0) d (lb d) fun a S=>sPickF (.bool (ae.2.1 != 0)) S (wN d) d d aM d d (lb d) fun a S=>sM S fun a S=>?_
 rcases iS h with ⟨ay,h⟩ | ⟨ay,h⟩
 ·refine sSkN 3 43 false 236 S d d ay d fun a S=>sPickT (.bool true) S (wN d) d d ay d d (lb d) fun a S=>?_
  exact lT (⟨true,Option.some.inj h,S.fix [5,6,4] [8,9] (by decide) d d d⟩)
 refine sLoadN (p:=cQ) (off:=0) (T:=33) (vs:=[iv ae.2.2.1.X,iv ae.2.2.1.Y]) 0 [iv ae.2.2.1.X,iv ae.2.2.1.Y] S (wG 43 false 236 d d d ay) d d d d d d d (lb d) fun a S=>sBuild [] [iv 0,iv 0] S (wG 43 false 236 d d d ay) d d d d (lb d) fun a S=>sBin _ S (wG 43 false 236 d d d ay) d d d (bNeV _ _ _ _ #[iv ae.2.2.1.X,iv ae.2.2.1.Y] #[iv 0,iv 0] ((ae.2.2.1.X == 0) && ((ae.2.2.1.Y == 0) && true)) (by kernel_rfl) (eqlV_of (by kernel_rfl))) d (lb d) fun a S=>sPickF (.bool (!((ae.2.2.1.X == 0) && ((ae.2.2.1.Y == 0) && true)))) S (wN d) d d ay d d (lb d) fun a S=>?_
 exact lT (⟨!((ae.2.2.1.X == 0) && ((ae.2.2.1.Y == 0) && true)),Option.some.inj h,S.fix [5,6,4] [8,9] (by decide) d d d⟩)
theorem cellsS_ok {a b:api_Grid} {w h:Nat} (A:Gr a w h) (B:Gr b w h):cellsS a b=(((dl a.Bits b.Bits (w * h):Nat):Int),0):=by
 unfold cellsS
 rw [if_pos (gr_err A),if_pos (gr_err B),if_pos (show a.W=b.W∧a.H=b.H from ⟨by rw [A.hw,B.hw],by rw [A.hh,B.hh]⟩),A.len]
theorem dl_tri (a b c:api_Grid) (w h:Nat):dl a.Bits c.Bits (w * h) ≤ dl a.Bits b.Bits (w * h) + dl b.Bits c.Bits (w * h):=by
 rw [dl_dst,dl_dst,dl_dst]; exact dst_tri w h _ _ _
theorem dl_sym (a b:api_Grid) (w h:Nat):dl a.Bits b.Bits (w * h)=dl b.Bits a.Bits (w * h):=by
 rw [dl_dst,dl_dst]; exact dst_sym w h _ _
theorem law_CompareMetric' (hal:F_raddlelaw46_alive=some true) (a b c:api_Grid) (grp:Int) (wa:wf_api_Grid a) (wb:wf_api_Grid b) (wc:wf_api_Grid c) (wg:InK .i64 grp):F_raddlelaw46_CompareMetric a b c grp=some true:=by
 unfold F_raddlelaw46_CompareMetric
 rw [hal,rgreat46_eq,rgreat46_eq,rgreat46_eq,rstart_eq,rstart_eq]
 by_cases h1:36 < a.Bits.length∧a.W ≤ 16∧a.H ≤ 16 ∨ 4200 < a.Bits.length
 ·simp only [dT h1,if_true,Option.bind_some]
 by_cases h2:36 < b.Bits.length∧b.W ≤ 16∧b.H ≤ 16 ∨ 4200 < b.Bits.length
 ·simp only [dF h1,dT h2,Bool.false_eq_true,if_false,if_true,Option.bind_some]
 by_cases h3:36 < c.Bits.length∧c.W ≤ 16∧c.H ≤ 16 ∨ 4200 < c.Bits.length
 ·simp only [dF h1,dF h2,dT h3,Bool.false_eq_true,if_false,if_true,Option.bind_some]
 by_cases s1:startS a b grp=0
 case neg=>simp only [dF h1,dF h2,dF h3,nT s1,Bool.false_eq_true,if_false,if_true,Option.bind_some]
 by_cases s2:startS b c grp=0
 case neg=>simp only [dF h1,dF h2,dF h3,nF s1,nT s2,Bool.false_eq_true,if_false,if_true,Option.bind_some]
 obtain ⟨w,h,A,B,hw,hh,g0,g3,gs⟩:=start_ok s1
 obtain ⟨w',h',B',C,-⟩:=start_ok s2
 obtain ⟨rfl,rfl⟩:=B.dim B'
 have s3:=start_of A C hw hh g0 g3 gs
 have s4:=start_of B A hw hh g0 g3 gs
 have s5:=start_of A A hw hh g0 g3 gs
 have t1:=dl_tri a b c w h
 have y1:=dl_sym a b w h
 have z1:=dl_zero A B
 have z2:dl a.Bits a.Bits (w * h)=0:=(dl_zero A A).2 rfl
 have b1:dl a.Bits b.Bits (w * h) ≤ 256:=Nat.le_trans (dl_le _ _ _) (Nat.mul_le_mul hw hh)
 have b2:dl b.Bits c.Bits (w * h) ≤ 256:=Nat.le_trans (dl_le _ _ _) (Nat.mul_le_mul hw hh)
 have u1:=uN_tri (c:=c) A B g0 g3 gs
 have u2:=uN_sym A B g0 g3 gs
 have u3:=uN_dl (b:=b) A g0 g3 gs
 have u4:=uN_dl (b:=c) B g0 g3 gs
 have gl:=gbits A
 obtain ⟨op,x,y,k1,k2,k3,k4,k5,k6⟩:=uN_at b A g0 g3 gs
 obtain ⟨e1,e2,e3⟩:=tri (op:=op) k2 k3
 have hst:stT a b w h ((lastN grp + 1) * h * w)=(((uN a b w h grp:Nat):Int),((op:Nat):Int),((x:Nat):Int),((y:Nat):Int)):=by
  unfold stT
  rw [k4,e1,e2,e3]
  rfl
 have n1:=nearS_ok A s1
 rw [hst] at n1
 have n2:=nearS_ok B s2
 have n3:=nearS_ok A s3
 have n4:=nearS_ok B s4
 have n5:=nearS_ok A s5
 rw [st_self A] at n5
 have v2:(stT b c w h ((lastN grp + 1) * h * w)).1=((uN b c w h grp:Nat):Int):=rfl
 have v3:(stT a c w h ((lastN grp + 1) * h * w)).1=((uN a c w h grp:Nat):Int):=rfl
 have v4:(stT b a w h ((lastN grp + 1) * h * w)).1=((uN b a w h grp:Nat):Int):=rfl
 rw [v2] at n2
 rw [v3] at n3
 rw [v4,← u2] at n4
 have K:=last_kp g0 g3 gs (w:=w) (h:=h)
 have M:=apB_gr A K k1
 have S:=shS_gr (x:=x) (y:=y) M
 have hf:dl (shS (apB a w h (op:Int)) w h x y).Bits b.Bits (w * h)=uN a b w h grp:=by
  rw [k5]
  unfold fT mvT
  rw [e1,e2,e3]
 have hz:(((dl a.Bits b.Bits (w * h):Nat):Int) == 0)=decide (a=b):=by
  by_cases e:a=b
  ·rw [dT e,bT (by have:=z1.2 e; omega)]
  ·rw [dF e,bF (fun q=>e (z1.1 (by omega)))]
 have hl:=lastN_lt grp
 simp only [dF h1,dF h2,dF h3,nF s1,nF s2,Bool.false_eq_true,if_false,Bool.not_true,Option.bind_some,(cells_eq _ _).1,cellsS_ok A B,cellsS_ok B C,cellsS_ok A C,cellsS_ok B A,cellsS_ok A A,bne_self_eq_false,← y1,z2,hz,rsame_grid a b (by omega),Int.natCast_zero,nearest_eq,n1,n2,n3,n4,n5]
 rw [wadd (show dl a.Bits b.Bits (w * h) + dl b.Bits c.Bits (w * h) ≤ 9223372036854775807 by omega),wadd (show uN a b w h grp + uN b c w h grp ≤ 9223372036854775807 by omega)]
 simp only [dF (show ¬ ((dl a.Bits b.Bits (w * h) + dl b.Bits c.Bits (w * h):Nat):Int) < ((dl a.Bits c.Bits (w * h):Nat):Int) by omega),dF (show ¬ ((uN a b w h grp + uN b c w h grp:Nat):Int) < ((uN a c w h grp:Nat):Int) by omega),dF (show ¬ ((dl a.Bits b.Bits (w * h):Nat):Int) < ((uN a b w h grp:Nat):Int) by omega),Bool.false_eq_true,if_false,Option.bind_some,beq_self_eq_true,Bool.and_true,Bool.not_true,apply_eq A hw hh (show op < 16 by omega),shift_sh M k2 k3,cellsS_ok S B,hf,if_true,last_eq,dT (show (op:Int) ≤ ((lastN grp:Nat):Int) by omega)]
theorem law_CompareMetric (a b c:api_Grid) (grp:Int) (wa:wf_api_Grid a) (wb:wf_api_Grid b) (wc:wf_api_Grid c) (wg:InK .i64 grp):F_raddlelaw46_CompareMetric a b c grp=some true:=law_CompareMetric' k_raddlelaw46_alive a b c grp wa wb wc wg
namespace frameCompareMetric
open Go.ChangeShapes Go.WideShapes Go.ChangeAt Go.Joins
theorem own:ownKnob Try.prog.godebug=none:=by kernel_rfl
theorem laidOut:laidOutB Try.prog=true:=by kernel_rfl
theorem lifted (os:Os) (started:os.Started) (H:Type) (enc:TypeId × Value→H) :
 ReturnsInHanded {} Try.checked os 6 .any (Rows.compareMetricSpec.pre6 enc Try.prog Try.f6 Rows.compareMetricRow.domain false) (Rows.compareMetricSpec.post enc Try.prog Try.f6 false true false false):=by
 refine returnsInHanded_of_change (C:=Try.checked) own started (by kernel_rfl) Try.func6
  (ChangeSpec.witness6 (enc:=enc) (C:=Try.checked) false ⟨#[],#[.agg #[iv 0,iv 0,.slice none 0 0],.agg #[iv 0,iv 0,.slice none 0 0],.agg #[iv 0,iv 0,.slice none 0 0],.int .i64 0],[]⟩ 8 (by kernel_rfl) (by kernel_rfl) (by kernel_rfl) (by kernel_rfl)) ?_
 intro W base args ds gs before hval0 hW hcnd _
 have hval:∀ (j:Nat) t v,Try.f6.params[j]?=some t→args[j]?=some v→Value.okWide Try.prog W .any base t v:=hval0
 have hW':=hW
 obtain ⟨p,q,hA0,hV,rfl,hfz,hnd⟩:=hW
 have hA:DataW.TrodAll enc Try.prog W 0 (fun _=>true) true Try.f6.params.toList args.toList ds p:=hA0
 rw [Try.params6] at hA hval
 obtain ⟨v0,vs0,d0,ds0,p0,q0,hargs,rfl,rfl,h0,r0⟩:=trodAll_cons hA
 obtain ⟨v1,vs1,d1,ds1,p1,q1,rfl,rfl,rfl,h1,r1⟩:=trodAll_cons r0
 obtain ⟨v2,vs2,d2,ds2,p2,q2,rfl,rfl,rfl,h2,r2⟩:=trodAll_cons r1
 obtain ⟨v3,vs3,d3,ds3,p3,q3,rfl,rfl,rfl,h3,r3⟩:=trodAll_cons r2
 obtain ⟨rfl,rfl,rfl⟩:=trodAll_nil r3
 obtain rfl:args=#[v0,v1,v2,v3]:=by cases args; simp_all
 obtain ⟨rfl,rfl⟩:=trodVars_none hV
 have k0:=h0
 have lt0:∀ x ∈ p0,x.block < W.heap.size:=by obtain ⟨m,hm⟩:=k0; exact DataW.trod_lt m _ _ _ hm
 have k1:=h1
 have lt1:∀ x ∈ p1,x.block < W.heap.size:=by obtain ⟨m,hm⟩:=k1; exact DataW.trod_lt m _ _ _ hm
 have k2:=h2
 have lt2:∀ x ∈ p2,x.block < W.heap.size:=by obtain ⟨m,hm⟩:=k2; exact DataW.trod_lt m _ _ _ hm
 have k3:=h3
 have lt3:∀ x ∈ p3,x.block < W.heap.size:=by obtain ⟨m,hm⟩:=k3; exact DataW.trod_lt m _ _ _ hm
 obtain ⟨x0,rep0,wf0⟩:=top_agg Try.underlying24 aggr_api_Grid op_api_Grid (hval 0 _ v0 rfl rfl) h0
 obtain ⟨x1,rep1,wf1⟩:=top_agg Try.underlying24 aggr_api_Grid op_api_Grid (hval 1 _ v1 rfl rfl) h1
 obtain ⟨x2,rep2,wf2⟩:=top_agg Try.underlying24 aggr_api_Grid op_api_Grid (hval 2 _ v2 rfl rfl) h2
 obtain ⟨x3,rfl,rfl,rfl,wf3⟩:=open_int Try.underlying3 (hval 3 _ v3 rfl rfl) h3
 clear hA0 hval0
 refine (c_raddlelaw46_CompareMetric (fun _=>False) W x0 v0 x1 v1 x2 v2 x3 true (law_CompareMetric x0 x1 x2 x3 wf0 wf1 wf2 wf3) (St0.start (by intro d hd; simp only [List.mem_cons,List.not_mem_nil,or_false] at hd; rcases hd with rfl | rfl | rfl; exact rep0; exact rep1; exact rep2))).mono fun e W' hr=>?_
 obtain ⟨_,he,hS⟩:=hr
 have bel:=hS.chg.below
 subst he
 exact ⟨_,rfl,_,_,_,[],_,[],hW',trodAll_mk1 (shut_bool Try.underlying4 _),(trodAll_cons_mk (Below.trod laidOut (by kernel_rfl) (of_decide_eq_true (by kernel_rfl)) k0 bel lt0) (trodAll_cons_mk (Below.trod laidOut (by kernel_rfl) (of_decide_eq_true (by kernel_rfl)) k1 bel lt1) (trodAll_cons_mk (Below.trod laidOut (by kernel_rfl) (of_decide_eq_true (by kernel_rfl)) k2 bel lt2) (trodAll_cons_mk (Below.trod laidOut (by kernel_rfl) (of_decide_eq_true (by kernel_rfl)) k3 bel lt3) trodAll_mk0)))),rfl,bel.frame _,fun h=>by cases h⟩
theorem over:Rows.compareMetricRow.holds Try.pinned (OpenSpec.ofChange Rows.compareMetricSpec):=
 OpenClaim.holds_of_wide 6 Try.f6 rfl rfl rfl rfl rfl rfl rfl ⟨rfl,rfl,rfl,rfl,rfl⟩ rfl rfl rfl rfl rfl (by kernel_rfl) Try.func6 (by kernel_rfl)
  (of_decide_eq_true (by kernel_rfl)) (by unfold Func.isWrapper; first | (rw [if_pos (by decide +kernel)]; kernel_rfl) | (rw [if_neg (by decide +kernel)]; exact ⟨rfl,rfl⟩))
  (fun os started H enc _=>lifted os started H enc)
end frameCompareMetric
theorem compareMetric_holds:Rows.CompareMetricSaid:=frameCompareMetric.over
end Go.Proofs.Ytffikfajljbmnaa
