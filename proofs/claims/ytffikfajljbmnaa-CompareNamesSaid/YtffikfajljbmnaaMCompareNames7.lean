/- CompareNames: walks, tables, laws. -/
import Derived.Test.YtffikfajljbmnaaProg
import Derived.Test.YtffikfajljbmnaaRows
import Derived.Test.YtffikfajljbmnaaMCompareNames6
set_option linter.unusedVariables false
set_option linter.unusedSimpArgs false
set_option maxHeartbeats 4000000
set_option maxRecDepth 100000
namespace Go.Proofs.Ytffikfajljbmnaa
open Go.RowKit
def anc_raddlelaw46_CompareNames_0:List (List Nat):=[[],[],[0,1],[0,1,2],[0,1,2,3],[0,1,2,3],[0,1,2,3],[0,1,2,3],[],[0,1,2,3,4,8],[0,1,2,3,4,5,8,9],[0,1,2,3,4,5,6,8,9,10],[0,1,2,3,4,5,6,7,8,9,10,11]]
def anc_raddlelaw46_CompareNames_1:List (List Nat):=[[],[],[0,1],[0,1,2],[0,1,2,3],[0,1,2,3],[0,1,2,3,4],[0,1,2,3,4,5,6]]
def anc_raddlelaw46_CompareNames_2:List (List Nat):=[[],[0],[],[2],[],[],[0,1,4,5],[0,1,2,3,4,5,6]]
def anc_raddlelaw46_CompareNames_3:List (List Nat):=[[],[],[],[],[1,2,3],[0,1,2,3,4],[0,1,2,3,4,5],[0,1,2,3,4,5,6],[0,1,2,3,4,5,6],[0,1,2,3,4,5,6,7],[0,1,2,3,4,5,6,7,8,9]]
noncomputable def F_raddlelaw46_CompareNames :Option Bool:=
 (F_raddlelaw46_cloth (⟨#[120,46,46,46,10,46,46,46,46,10,46,46,46,46,10,46,46,46,46,10]⟩:ByteArray)).bind fun r3=>
 (makeO 17 false).bind fun aQ=>
 (F_raddlelaw46_cloth (⟨#[120,120,10,46,46,10]⟩:ByteArray)).bind fun a5=>
 (F_raddlelaw46_cloth (⟨#[120,46,10,120,46,10]⟩:ByteArray)).bind fun af=>
 (F_compare_Nearest a5 af 1).bind fun a6=>
 (F_compare_Nearest a5 af 2).bind fun a7=>
 (F_raddlelaw46_cloth (⟨#[120,46,120,120,10,120,120,120,120,10,120,120,120,120,10,120,120,120,120,10]⟩:ByteArray)).bind fun aR=>
 (F_compare_Nearest r3 aR 3).bind fun a8=>
 (F_compare_Nearest (api_Grid.mk 17 1 aQ) (api_Grid.mk 17 1 aQ) 0).bind fun aS=>
 (F_compare_Nearest a5 af 4).bind fun aT=>
 (F_raddlelaw46_cloth (⟨#[120,46,10]⟩:ByteArray)).bind fun ae=>
 (F_compare_Nearest ae ae 2).bind fun aU=>
 (F_compare_Nearest a5 ae 0).bind fun ag=>
 (F_compare_Cells a5 ae).bind fun ah=>
 (F_compare_Cells (api_Grid.mk 65 0 ([]:(List Bool))) (api_Grid.mk 0 0 ([]:(List Bool)))).bind fun ai=>
 if a6.2.2.2 == 0 then
  if a6.1 == 2 then
   if a6.2.1 == 0 then
    if ((a6.2.2.1.X == 0) && ((a6.2.2.1.Y == 0) && true)) then
     if a7.2.2.2 == 0 then
      if a7.1 == 0 then
       if a7.2.1 == 4 then
        if ((a7.2.2.1.X == 1) && ((a7.2.2.1.Y == 0) && true)) then
         if a8.2.2.2 == 0 then
          if a8.1 == 0 then
           if a8.2.1 == 8 then
            if ((a8.2.2.1.X == 1) && ((a8.2.2.1.Y == 0) && true)) then
             if aS.2.2.2 == 4 then
              if aT.2.2.2 == 2 then
               if aU.2.2.2 == 2 then
                if ag.2.2.2 == 2 then
                 if ah.2 == 2 then
                  (F_raddlelaw46_cells (⟨#[107,32,112]⟩:ByteArray)).bind fun aj=>
                  (F_raddlelaw46_cells (⟨#[112,32,121,111]⟩:ByteArray)).bind fun ak=>
                  (F_compare_Edits aj ak).bind fun a0=>
                  (F_compare_Edits ([]:(List api_Stitch)) ([]:(List api_Stitch))).bind fun a2=>
                  (F_raddlelaw46_cells (⟨#[107,50]⟩:ByteArray)).bind fun a9=>
                  (F_raddlelaw46_cells (⟨#[121,111,32,121,111,32,121,111]⟩:ByteArray)).bind fun al=>
                  (F_compare_Edits a9 al).bind fun a4=>
                  (makeO 401 (api_CellStep.mk 0 (api_Stitch.mk 0 false 0 0))).bind fun am=>
                  (F_compare_Patch [(api_Stitch.mk 1 false 0 0)] am).bind fun ao=>
                  (F_compare_Patch [(api_Stitch.mk 1 false 0 0)] [(api_CellStep.mk 0 (api_Stitch.mk 0 false 0 0))]).bind fun ap=>
                  (F_compare_Patch [(api_Stitch.mk 1 false 0 0)] [(api_CellStep.mk 1 (api_Stitch.mk 2 false 0 0))]).bind fun aq=>
                  (F_compare_Patch [(api_Stitch.mk 1 false 0 0)] [(api_CellStep.mk 3 (api_Stitch.mk 0 false 0 0))]).bind fun ar=>
                  (F_compare_Patch [(api_Stitch.mk 1 false 0 0)] [(api_CellStep.mk 1 (api_Stitch.mk 0 false 0 0)),(api_CellStep.mk 4 (api_Stitch.mk 0 false 0 0))]).bind fun au=>
                  (F_compare_Patch [(api_Stitch.mk 1 false 0 0)] ([]:(List api_CellStep))).bind fun av=>
                  (F_compare_Patch [(api_Stitch.mk 1 false 0 0)] [(api_CellStep.mk 2 (api_Stitch.mk 1 false 0 0))]).bind fun aw=>
                  (F_compare_Patch [(api_Stitch.mk 0 false 0 0)] ([]:(List api_CellStep))).bind fun ax=>
                  (F_compare_Back a9 [(api_CellStep.mk 3 (api_Stitch.mk 2 false 0 0)),(api_CellStep.mk 4 (api_Stitch.mk 0 false 0 0)),(api_CellStep.mk 2 (api_Stitch.mk 2 false 0 0))]).bind fun aa=>
                  (F_compare_Patch ([]:(List api_Stitch)) [(api_CellStep.mk 3 (api_Stitch.mk 9 false 200 0)),(api_CellStep.mk 3 (api_Stitch.mk 2 false 0 0))]).bind fun ay=>
                  (F_compare_Edits [(api_Stitch.mk 0 false 0 0)] ([]:(List api_Stitch))).bind fun az=>
                  (makeO 201 (api_Stitch.mk 0 false 0 0)).bind fun aA=>
                  (F_compare_Edits ([]:(List api_Stitch)) aA).bind fun aC=>
                  if a0.2.2 == 0 then
                   if a0.2.1 == 2 then
                    (F_raddleref46_Same a0.1 [(api_CellStep.mk 2 (api_Stitch.mk 1 true 0 0)),(api_CellStep.mk 2 (api_Stitch.mk 2 false 0 0))]).bind fun aG=>
                    if aG then
                     if a2.2.2 == 0 then
                      if (a2.1.length:Int) == 0 then
                       if a2.2.1 == 0 then
                        if a4.2.2 == 0 then
                         if a4.2.1 == 3 then
                          (F_raddleref46_Same a4.1 [(api_CellStep.mk 2 (api_Stitch.mk 2 false 0 0)),(api_CellStep.mk 2 (api_Stitch.mk 2 false 0 0)),(api_CellStep.mk 3 (api_Stitch.mk 2 false 0 0))]).bind fun aH=>
                          if aH then
                           if aa.2 == 0 then
                            (F_raddleref46_Same aa.1 [(api_CellStep.mk 4 (api_Stitch.mk 0 false 0 0)),(api_CellStep.mk 3 (api_Stitch.mk 1 false 0 0)),(api_CellStep.mk 2 (api_Stitch.mk 1 false 0 0))]).bind fun aI=>
                            if ao.2 == 4 then
                             if ap.2 == 8 then
                              if aq.2 == 8 then
                               if ar.2 == 8 then
                                if au.2 == 30 then
                                 if av.2 == 30 then
                                  if aw.2 == 30 then
                                   if ax.2 == 8 then
                                    if ay.2 == 4 then
                                     if az.2.2 == 8 then
                                      (F_compare_Charts (api_Chart.mk 1 ([]:(List api_Row))) (api_Chart.mk 2 ([]:(List api_Row)))).bind fun ab=>
                                      (F_raddlelaw46_knit (⟨#[115,116,97,114,116,32,50,10,102,114,111,110,116,32,107,50,10,98,97,99,107,32,112,50,10]⟩:ByteArray)).bind fun aJ=>
                                      (F_raddlelaw46_knit (⟨#[115,116,97,114,116,32,50,10,98,97,99,107,32,112,50,10]⟩:ByteArray)).bind fun aK=>
                                      (F_compare_Charts aJ aK).bind fun ac=>
                                      (F_compare_Charts (api_Chart.mk 1 [(api_Row.mk false ([]:(List api_Stitch)))]) (api_Chart.mk (-1) ([]:(List api_Row)))).bind fun aL=>
                                      (F_compare_Charts (api_Chart.mk 0 ([]:(List api_Row))) (api_Chart.mk (-1) ([]:(List api_Row)))).bind fun aM=>
                                      Option.bind (α:=Bool) (
                                       if ai.2 == 4 then
                                        if aI then
                                         if aC.2.2 == 4 then
                                          if ab.2 == 0 then
                                           if ab.1 == 1 then
                                            if ac.2 == 0 then
                                             if ac.1 == 3 then
                                              if aL.2 == 26 then
                                               if aM.2 == 8 then
                                                (F_raddlelaw46_alive).bind fun aO=>
                                                some aO
                                               else
                                                none
                                              else
                                               none
                                             else
                                              none
                                            else
                                             none
                                           else
                                            none
                                          else
                                           none
                                         else
                                          some false
                                        else
                                         none
                                       else
                                        some false) fun aP=>
                                      some aP
                                     else
                                      none
                                    else
                                     none
                                   else
                                    none
                                  else
                                   none
                                 else
                                  none
                                else
                                 none
                               else
                                none
                              else
                               none
                             else
                              none
                            else
                             none
                           else
                            none
                          else
                           none
                         else
                          none
                        else
                         none
                       else
                        none
                      else
                       none
                     else
                      none
                    else
                     none
                   else
                    none
                  else
                   none
                 else
                  none
                else
                 none
               else
                none
              else
               none
             else
              none
            else
             none
           else
            none
          else
           none
         else
          none
        else
         none
       else
        none
      else
       none
     else
      none
    else
     none
   else
    none
  else
   none
 else
  none
theorem c_raddlelaw46_CompareNames (E:Nat→Prop) (w0:World)  (r:Bool) (h:F_raddlelaw46_CompareNames =some r) (S:St0 E [] w0 w0 [] []) :
 Calls Try.prog 10 #[] w0 (Ret (X:=Unit) E [] w0 (fun _=>.bool r) (fun _=>[]) (fun _=>[])):=by
 unfold F_raddlelaw46_CompareNames at h
 refine sEnter (args:=[]) 511 Try.func10 d d (by simp) S (fun a S=>?_)
 refine sSeq (fun K1 iJ=>sRegion (sN S fun a S=>?_))
 refine lT (iJ _ _ (sSeq (fun K2 iK=>?_)))
 obtain ⟨r3,ee,h⟩:=bS h
 have hv_r3:r3=(api_Grid.mk 4 4 [false,false,false,false,false,false,false,false,false,false,false,false,true,false,false,false]):=Option.some.inj (ee.symm.trans (by exact kc_raddlelaw46_CompareNames_0))
 obtain ⟨aa,bN,h⟩:=bS h
 have hv_m12:aa=[false,false,false,false,false,false,false,false,false,false,false,false,false,false,false,false,false]:=Option.some.inj (bN.symm.trans (by kernel_rfl))
 refine sDraw (nf:=[0,1,3,4,5,6]) (W:=[]) d S ?_
 refine nodeCut (fun N W L D=>∀ aK az a7 a8 a4 a5,N [5,4,3,1,0] ((4,2,.pointer (some ⟨aK,0,none⟩)) :: (3,1,.pointer (some ⟨az,0,none⟩)) :: (2,92,.agg #[iv 17,iv 1,.slice a7 aa.length a8]) :: (1,91,.slice a7 aa.length a8) :: (0,90,.agg #[iv r3.W,iv r3.H,.slice a4 r3.Bits.length a5]) :: []) ((eBox az 24 [iv r3.W,iv r3.H,.slice a4 r3.Bits.length a5]) :: (eBox aK 24 [iv 0,iv 0,.slice none 0 0]) :: (eRow rB 4 (.slice a7 aa.length a8) aa) :: []) ((fRep (rL rB) (.slice a4 r3.Bits.length a5) r3.Bits) :: (fRep r_api_Grid (.agg #[iv r3.W,iv r3.H,.slice a4 r3.Bits.length a5]) r3) :: [])) (fun aK az a7 a8 a4 a5=>?_) fun nd4=>?_
 ·refine node_by (A:=[[],[],[1],[],[],[0,3,4],[0,1,2,3,4,5]]) (nf:=[0,1,3,4,5,6]) (Y:=[5,4,3,1,0]) 7 (by kernel_rfl) (by kernel_rfl) (by kernel_rfl) (by kernel_rfl) (by kernel_rfl) [4,3,2,1,0] (by kernel_rfl) (by decide) (by decide) (fY (fY (fF ?_ (fY (fY (fY (fN ?_ (trivial)))))))) [] (fun q hq=>by cases hq) (fun hY=>absurd (hY 6 (by decide)) (by decide))
  ·refine fJ [(91,_)] 2 [some 3] fun G a w S=>?_
   exact sBuild [(0,iv 17),(1,iv 1),(2,.slice a7 aa.length a8)] [iv 17,iv 1,.slice a7 aa.length a8] S (wN d) d d d d (lb d) fun a S=>leafL ⟨d,S⟩
  refine ⟨_,[(2,.pointer (some ⟨aK,0,none⟩)),(92,.agg #[iv 17,iv 1,.slice a7 aa.length a8])],d,(srcs_of [some 0,some 2] d d d),fun G a w S=>?_⟩
  refine sStore (p:=aK) (off:=0) (T:=24) (vs:=[iv 0,iv 0,.slice none 0 0]) (v:=.agg #[iv 17,iv 1,.slice a7 aa.length a8]) 1 [iv 17,iv 1,.slice a7 aa.length a8] S (wN d) d d d d d d d (by simp) d fun a w S=>leafL ⟨d,_,_,.inr ⟨[],d,S,hz_of d,?_⟩⟩
  refine node_by (A:=[[],[],[1],[],[],[0,3,4],[0,1,2,3,4,5]]) (nf:=[0,1,3,4,5,6]) (Y:=[6,5,4,3,1,0]) 7 (by kernel_rfl) (by kernel_rfl) (by kernel_rfl) (by kernel_rfl) (by kernel_rfl) [4,3,2,1,0] (by kernel_rfl) (by decide) (by decide) (fY (fY (fD 6 (fY (fY (fY (fY (trivial)))))))) [(1,.pointer (some ⟨az,0,none⟩)),(2,.pointer (some ⟨aK,0,none⟩))] (fin_of [some 1,some 0] d (by kernel_rfl) (by kernel_rfl)) (fun _ a w S=>?_)
  refine leafT (iK _ _ ?_)
  refine sSeq (fun jr gG=>sRegion ?_)
  obtain ⟨a2,fB,h⟩:=bS h
  have hv_r26:a2=(api_Grid.mk 2 2 [false,false,true,true]):=Option.some.inj (fB.symm.trans (by exact kc_raddlelaw46_CompareNames_1))
  refine sCall (X:=Value) (f:=41) (vs:=[.string (⟨#[120,120,10,46,46,10]⟩:ByteArray)]) (val:=c_raddlelaw46_cloth_val a2) (B':=fun _=>[]) (D':=c_raddlelaw46_cloth_D a2) [] [eBox aK 24 [iv 17,iv 1,.slice a7 aa.length a8],eBox az 24 [iv r3.W,iv r3.H,.slice a4 r3.Bits.length a5],eRow rB 4 (.slice a7 aa.length a8) aa] [] [0,1,2] [] S (wN d) d callee41 d (by decide) d d (fun E1 w1 S1=>c_raddlelaw46_cloth E1 w1 (⟨#[120,120,10,46,46,10]⟩:ByteArray) a2 fB S1) d (lb d) fun iL a w S=>?_
  obtain ⟨iM,rfl,fC⟩:=S.mem.know (i:=0) (e:=fRep r_api_Grid (iL) a2) d
  have S:=S.learn (fRep (rL rB) iM a2.Bits) fC
  obtain ⟨ab,ac,_,rfl,_⟩:=fC
  obtain ⟨a9,fG,h⟩:=bS h
  have hv_r33:a9=(api_Grid.mk 2 2 [true,false,true,false]):=Option.some.inj (fG.symm.trans (by exact kc_raddlelaw46_CompareNames_2))
  refine sCall (X:=Value) (f:=41) (vs:=[.string (⟨#[120,46,10,120,46,10]⟩:ByteArray)]) (val:=c_raddlelaw46_cloth_val a9) (B':=fun _=>[]) (D':=c_raddlelaw46_cloth_D a9) [] [eBox aK 24 [iv 17,iv 1,.slice a7 aa.length a8],eBox az 24 [iv r3.W,iv r3.H,.slice a4 r3.Bits.length a5],eRow rB 4 (.slice a7 aa.length a8) aa] [] [0,1,2] [] S (wN d) d callee41 d (by decide) d d (fun E1 w1 S1=>c_raddlelaw46_cloth E1 w1 (⟨#[120,46,10,120,46,10]⟩:ByteArray) a9 fG S1) d (lb d) fun iN a w S=>?_
  obtain ⟨iO,rfl,fH⟩:=S.mem.know (i:=0) (e:=fRep r_api_Grid (iN) a9) d
  have S:=S.learn (fRep (rL rB) iO a9.Bits) fH
  obtain ⟨ag,ah,_,rfl,_⟩:=fH
  refine sAlloc (.agg #[iv 0,iv 0,.slice none 0 0]) S (wN d) d d [iv 0,iv 0,.slice none 0 0] d d (lb d) fun a aP w S=>sAlloc (.agg #[iv 0,iv 0,.slice none 0 0]) S (wN d) d d [iv 0,iv 0,.slice none 0 0] d d (lb d) fun a aV w S=>sStore (p:=aP) (off:=0) (T:=24) (vs:=[iv 0,iv 0,.slice none 0 0]) (v:=.agg #[iv a2.W,iv a2.H,.slice ab a2.Bits.length ac]) 1 [iv a2.W,iv a2.H,.slice ab a2.Bits.length ac] S (wN d) d d d d d d d (by simp) d fun a w S=>sStore (p:=aV) (off:=0) (T:=24) (vs:=[iv 0,iv 0,.slice none 0 0]) (v:=.agg #[iv a9.W,iv a9.H,.slice ag a9.Bits.length ah]) 1 [iv a9.W,iv a9.H,.slice ag a9.Bits.length ah] S (wN d) d d d d d d d (by simp) d fun a w S=>lT (gG _ _ (sSeq (fun jt gH=>sRegion (sLoadN (p:=aP) (off:=0) (T:=24) (vs:=[iv a2.W,iv a2.H,.slice ab a2.Bits.length ac]) 1 [iv a2.W,iv a2.H,.slice ab a2.Bits.length ac] S (wN d) d d d d d d d (lb d) fun a S=>sLoadN (p:=aV) (off:=0) (T:=24) (vs:=[iv a9.W,iv a9.H,.slice ag a9.Bits.length ah]) 0 [iv a9.W,iv a9.H,.slice ag a9.Bits.length ah] S (wN d) d d d d d d d (lb d) fun a S=>?_))))
  obtain ⟨ae,fK,h⟩:=bS h
  have hv_r43:ae=(2,(0,((api_Point.mk 0 0),0))):=Option.some.inj (fK.symm.trans (by rw [hv_r26,hv_r33]; exact kc_raddlelaw46_CompareNames_3))
  refine sCall (X:=Value) (f:=16) (vs:=[.agg #[iv a2.W,iv a2.H,.slice ab a2.Bits.length ac],.agg #[iv a9.W,iv a9.H,.slice ag a9.Bits.length ah],iv 1]) (val:=c_compare_Nearest_val ae) (B':=fun _=>[]) (D':=c_compare_Nearest_D ae) [] [eBox aV 24 [iv a9.W,iv a9.H,.slice ag a9.Bits.length ah],eBox aP 24 [iv a2.W,iv a2.H,.slice ab a2.Bits.length ac],eBox aK 24 [iv 17,iv 1,.slice a7 aa.length a8],eBox az 24 [iv r3.W,iv r3.H,.slice a4 r3.Bits.length a5],eRow rB 4 (.slice a7 aa.length a8) aa] [fRep r_api_Grid (.agg #[iv a2.W,iv a2.H,.slice ab a2.Bits.length ac]) a2,fRep r_api_Grid (.agg #[iv a9.W,iv a9.H,.slice ag a9.Bits.length ah]) a9] [0,1,2,3,4] [3,1] S (wN d) d callee16 d (by decide) d d (fun E1 w1 S1=>c_compare_Nearest E1 w1 a2 (.agg #[iv a2.W,iv a2.H,.slice ab a2.Bits.length ac]) a9 (.agg #[iv a9.W,iv a9.H,.slice ag a9.Bits.length ah]) 1 ae fK S1) d (lb d) fun iD a w S=>?_
  obtain rfl:iD=.agg #[iv ae.2.2.1.X,iv ae.2.2.1.Y]:=S.mem.know (i:=0) (e:=fRep r_api_Point (iD) ae.2.2.1) d
  refine sM S fun a S=>?_
  refine sExtract (vs:=[iv ae.1,iv ae.2.1,.agg #[iv ae.2.2.1.X,iv ae.2.2.1.Y],iv ae.2.2.2]) (iv ae.1) S (wN d) d d d d (lb d) fun a S=>sExtract (vs:=[iv ae.1,iv ae.2.1,.agg #[iv ae.2.2.1.X,iv ae.2.2.1.Y],iv ae.2.2.2]) (iv ae.2.1) S (wN d) d d d d (lb d) fun a S=>sExtract (vs:=[iv ae.1,iv ae.2.1,.agg #[iv ae.2.2.1.X,iv ae.2.2.1.Y],iv ae.2.2.2]) (.agg #[iv ae.2.2.1.X,iv ae.2.2.1.Y]) S (wN d) d d d d (lb d) fun a S=>sExtract (vs:=[iv ae.1,iv ae.2.1,.agg #[iv ae.2.2.1.X,iv ae.2.2.1.Y],iv ae.2.2.2]) (iv ae.2.2.2) S (wN d) d d d d (lb d) fun a S=>sAlloc (.agg #[iv 0,iv 0]) S (wN d) d d [iv 0,iv 0] d d (lb d) fun a aW w S=>sN S fun a S=>?_
  refine sN S fun a S=>?_
  refine sStore (p:=aW) (off:=0) (T:=33) (vs:=[iv 0,iv 0]) (v:=.agg #[iv ae.2.2.1.X,iv ae.2.2.1.Y]) 0 [iv ae.2.2.1.X,iv ae.2.2.1.Y] S (wN d) d d d d d d d (by simp) d fun a w S=>sN S fun a S=>?_
  refine lT (gH _ _ (sSeq (fun ju gI=>sRegion (sLoadN (p:=aP) (off:=0) (T:=24) (vs:=[iv a2.W,iv a2.H,.slice ab a2.Bits.length ac]) 2 [iv a2.W,iv a2.H,.slice ab a2.Bits.length ac] S (wN d) d d d d d d d (lb d) fun a S=>sLoadN (p:=aV) (off:=0) (T:=24) (vs:=[iv a9.W,iv a9.H,.slice ag a9.Bits.length ah]) 1 [iv a9.W,iv a9.H,.slice ag a9.Bits.length ah] S (wN d) d d d d d d d (lb d) fun a S=>?_))))
  obtain ⟨af,fL,h⟩:=bS h
  have hv_r48:af=(0,(4,((api_Point.mk 1 0),0))):=Option.some.inj (fL.symm.trans (by rw [hv_r26,hv_r33]; exact kc_raddlelaw46_CompareNames_4))
  refine sCall (X:=Value) (f:=16) (vs:=[.agg #[iv a2.W,iv a2.H,.slice ab a2.Bits.length ac],.agg #[iv a9.W,iv a9.H,.slice ag a9.Bits.length ah],iv 2]) (val:=c_compare_Nearest_val af) (B':=fun _=>[]) (D':=c_compare_Nearest_D af) [] [eBox aW 33 [iv ae.2.2.1.X,iv ae.2.2.1.Y],eBox aV 24 [iv a9.W,iv a9.H,.slice ag a9.Bits.length ah],eBox aP 24 [iv a2.W,iv a2.H,.slice ab a2.Bits.length ac],eBox aK 24 [iv 17,iv 1,.slice a7 aa.length a8],eBox az 24 [iv r3.W,iv r3.H,.slice a4 r3.Bits.length a5],eRow rB 4 (.slice a7 aa.length a8) aa] [fRep r_api_Grid (.agg #[iv a2.W,iv a2.H,.slice ab a2.Bits.length ac]) a2,fRep r_api_Grid (.agg #[iv a9.W,iv a9.H,.slice ag a9.Bits.length ah]) a9] [0,1,2,3,4,5] [4,2] S (wN d) d callee16 d (by decide) d d (fun E1 w1 S1=>c_compare_Nearest E1 w1 a2 (.agg #[iv a2.W,iv a2.H,.slice ab a2.Bits.length ac]) a9 (.agg #[iv a9.W,iv a9.H,.slice ag a9.Bits.length ah]) 2 af fL S1) d (lb d) fun iE a w S=>?_
  obtain rfl:iE=.agg #[iv af.2.2.1.X,iv af.2.2.1.Y]:=S.mem.know (i:=0) (e:=fRep r_api_Point (iE) af.2.2.1) d
  refine sM S fun a S=>?_
  refine sExtract (vs:=[iv af.1,iv af.2.1,.agg #[iv af.2.2.1.X,iv af.2.2.1.Y],iv af.2.2.2]) (iv af.1) S (wN d) d d d d (lb d) fun a S=>sExtract (vs:=[iv af.1,iv af.2.1,.agg #[iv af.2.2.1.X,iv af.2.2.1.Y],iv af.2.2.2]) (iv af.2.1) S (wN d) d d d d (lb d) fun a S=>sExtract (vs:=[iv af.1,iv af.2.1,.agg #[iv af.2.2.1.X,iv af.2.2.1.Y],iv af.2.2.2]) (.agg #[iv af.2.2.1.X,iv af.2.2.1.Y]) S (wN d) d d d d (lb d) fun a S=>sExtract (vs:=[iv af.1,iv af.2.1,.agg #[iv af.2.2.1.X,iv af.2.2.1.Y],iv af.2.2.2]) (iv af.2.2.2) S (wN d) d d d d (lb d) fun a S=>sAlloc (.agg #[iv 0,iv 0]) S (wN d) d d [iv 0,iv 0] d d (lb d) fun a aX w S=>sN S fun a S=>?_
  refine sN S fun a S=>?_
  refine sStore (p:=aX) (off:=0) (T:=33) (vs:=[iv 0,iv 0]) (v:=.agg #[iv af.2.2.1.X,iv af.2.2.1.Y]) 0 [iv af.2.2.1.X,iv af.2.2.1.Y] S (wN d) d d d d d d d (by simp) d fun a w S=>sN S fun a S=>?_
  refine lT (gI _ _ (sSeq (fun jv gJ=>?_)))
  obtain ⟨aA,ft,h⟩:=bS h
  have hv_r53:aA=(api_Grid.mk 4 4 [true,true,true,true,true,true,true,true,true,true,true,true,true,false,true,true]):=Option.some.inj (ft.symm.trans (by exact kc_raddlelaw46_CompareNames_5))
  obtain ⟨a6,fu,h⟩:=bS h
  have hv_r60:a6=(0,(8,((api_Point.mk 1 0),0))):=Option.some.inj (fu.symm.trans (by rw [hv_r3,hv_r53]; exact kc_raddlelaw46_CompareNames_6))
  refine sDraw (nf:=[1,2,8,11]) (W:=[(0,112,.agg #[iv r3.W,iv r3.H,.slice a4 r3.Bits.length a5])]) d S ?_
  refine nodeCut (fun N W L D=>∀ aQ aR aS,N [8,2,1] ((9,13,iv a6.1) :: (10,14,iv a6.2.1) :: (8,15,.pointer (some ⟨aQ,0,none⟩)) :: (3,111,.tuple #[iv a6.1,iv a6.2.1,.agg #[iv a6.2.2.1.X,iv a6.2.2.1.Y],iv a6.2.2.2]) :: (4,115,iv a6.1) :: (5,116,iv a6.2.1) :: (6,117,.agg #[iv a6.2.2.1.X,iv a6.2.2.1.Y]) :: (7,118,iv a6.2.2.2) :: (2,114,.tuple #[iv a6.1,iv a6.2.1,.agg #[iv a6.2.2.1.X,iv a6.2.2.1.Y],iv a6.2.2.2]) :: (1,113,.agg #[iv aA.W,iv aA.H,.slice aR aA.Bits.length aS]) :: W) ((eBox aQ 33 [iv 0,iv 0]) :: L) ((fRep r_api_Point (.agg #[iv a6.2.2.1.X,iv a6.2.2.1.Y]) a6.2.2.1) :: (fRep (rL rB) (.slice aR aA.Bits.length aS) aA.Bits) :: (fRep r_api_Grid (.agg #[iv aA.W,iv aA.H,.slice aR aA.Bits.length aS]) aA) :: D)) (fun aQ aR aS=>?_) fun nd1=>?_
  ·refine node_by (A:=anc_raddlelaw46_CompareNames_0) 13 (by kernel_rfl) (by kernel_rfl) (by kernel_rfl) (by kernel_rfl) (by kernel_rfl) [9,10,8,3,4,5,6,7,2,1,0] (by kernel_rfl) (by decide) (by decide) (fD 2 (fY (fY (fF ?_ (fF ?_ (fF ?_ (fF ?_ (fF ?_ (fY (fF ?_ (fF ?_ (fN ?_ (fE 11 (trivial)))))))))))))) [] (fun q hq=>by cases hq) (fun hY=>absurd (hY 11 (by decide)) (by decide))
   ·exact fM 3 (some 8) d d d d (.inl d) d d d
   ·refine fJ [(111,_)] 4 [some 3] fun G a w S=>?_
    exact sExtract (vs:=[iv a6.1,iv a6.2.1,.agg #[iv a6.2.2.1.X,iv a6.2.2.1.Y],iv a6.2.2.2]) (iv a6.1) S (wN d) d d d d (lb d) fun a S=>leafL ⟨d,S⟩
   ·refine fJ [(111,_)] 5 [some 3] fun G a w S=>?_
    exact sExtract (vs:=[iv a6.1,iv a6.2.1,.agg #[iv a6.2.2.1.X,iv a6.2.2.1.Y],iv a6.2.2.2]) (iv a6.2.1) S (wN d) d d d d (lb d) fun a S=>leafL ⟨d,S⟩
   ·refine fJ [(111,_)] 6 [some 3] fun G a w S=>?_
    exact sExtract (vs:=[iv a6.1,iv a6.2.1,.agg #[iv a6.2.2.1.X,iv a6.2.2.1.Y],iv a6.2.2.2]) (.agg #[iv a6.2.2.1.X,iv a6.2.2.1.Y]) S (wN d) d d d d (lb d) fun a S=>leafL ⟨d,S⟩
   ·refine fJ [(111,_)] 7 [some 3] fun G a w S=>?_
    exact sExtract (vs:=[iv a6.1,iv a6.2.1,.agg #[iv a6.2.2.1.X,iv a6.2.2.1.Y],iv a6.2.2.2]) (iv a6.2.2.2) S (wN d) d d d d (lb d) fun a S=>leafL ⟨d,S⟩
   ·exact fM 0 (some 4) d d d d (.inr d) d d d
   ·exact fM 1 (some 5) d d d d (.inr d) d d d
   refine ⟨_,[(15,.pointer (some ⟨aQ,0,none⟩)),(117,.agg #[iv a6.2.2.1.X,iv a6.2.2.1.Y])],d,(srcs_of [some 2,some 6] d d d),fun G a w S=>?_⟩
   refine sStore (p:=aQ) (off:=0) (T:=33) (vs:=[iv 0,iv 0]) (v:=.agg #[iv a6.2.2.1.X,iv a6.2.2.1.Y]) 0 [iv a6.2.2.1.X,iv a6.2.2.1.Y] S (wN d) d d d d d d d (by simp) d fun a w S=>leafL ⟨d,_,_,.inr ⟨[(12,16,iv a6.2.2.2)],d,S,hz_of d,?_⟩⟩
   refine node_by (A:=anc_raddlelaw46_CompareNames_0) 13 (by kernel_rfl) (by kernel_rfl) (by kernel_rfl) (by kernel_rfl) (by kernel_rfl) [12,9,10,8,3,4,5,6,7,2,1,0] (by kernel_rfl) (by decide) (by decide) (fD 11 (fY (fY (fD 11 (fD 11 (fD 11 (fD 11 (fF ?_ (fY (fD 11 (fD 11 (fY (fF ?_ (trivial)))))))))))))) [(2,.pointer (some ⟨aK,0,none⟩)),(3,.pointer (some ⟨aP,0,none⟩)),(4,.pointer (some ⟨aV,0,none⟩)),(5,iv ae.1),(6,iv ae.2.1),(7,.pointer (some ⟨aW,0,none⟩)),(8,iv ae.2.2.2),(9,iv af.1),(10,iv af.2.1),(11,.pointer (some ⟨aX,0,none⟩)),(12,iv af.2.2.2),(13,iv a6.1),(14,iv a6.2.1),(15,.pointer (some ⟨aQ,0,none⟩)),(16,iv a6.2.2.2)] (fin_of [none,none,none,none,none,none,none,none,none,none,none,some 1,some 2,some 3,some 0] d (by kernel_rfl) (by kernel_rfl)) (fun _ a w S=>?_)
   ·refine fJ [(111,_)] 8 [some 4] fun G a w S=>?_
    exact sExtract (vs:=[iv a6.1,iv a6.2.1,.agg #[iv a6.2.2.1.X,iv a6.2.2.1.Y],iv a6.2.2.2]) (iv a6.2.2.2) S (wN d) d d d d (lb d) fun a S=>leafL ⟨d,S⟩
   ·exact fM 0 (some 8) d d d d (.inr d) d d d
   refine leafT (gJ _ _ ?_)
   refine sSeq (fun jw gK=>sRegion (sLoadN (p:=aK) (off:=0) (T:=24) (vs:=[iv 17,iv 1,.slice a7 aa.length a8]) 5 [iv 17,iv 1,.slice a7 aa.length a8] S (wN d) d d d d d d d (lb d) fun a S=>sLoadN (p:=aK) (off:=0) (T:=24) (vs:=[iv 17,iv 1,.slice a7 aa.length a8]) 5 [iv 17,iv 1,.slice a7 aa.length a8] S (wN d) d d d d d d d (lb d) fun a S=>?_))
   obtain ⟨al,fO,h⟩:=bS h
   have hv_r72:al=(0,(0,((api_Point.mk 0 0),4))):=Option.some.inj (fO.symm.trans (by rw [hv_m12]; exact kc_raddlelaw46_CompareNames_7))
   have S:=S.shutR (r:=rB) (T:=4) (v:=.slice a7 aa.length a8) (xs:=aa) 7 d
   have S:=S.learn (fRep r_api_Grid (.agg #[iv 17,iv 1,.slice a7 aa.length a8]) (api_Grid.mk 17 1 aa)) ⟨_,d,S.mem.know (i:=0) (e:=fRep (rL rB) (.slice a7 aa.length a8) aa) d⟩
   refine sCall (X:=Value) (f:=16) (vs:=[.agg #[iv 17,iv 1,.slice a7 aa.length a8],.agg #[iv 17,iv 1,.slice a7 aa.length a8],iv 0]) (val:=c_compare_Nearest_val al) (B':=fun _=>[]) (D':=c_compare_Nearest_D al) [] [eBox aQ 33 [iv a6.2.2.1.X,iv a6.2.2.1.Y],eBox aX 33 [iv af.2.2.1.X,iv af.2.2.1.Y],eBox aW 33 [iv ae.2.2.1.X,iv ae.2.2.1.Y],eBox aV 24 [iv a9.W,iv a9.H,.slice ag a9.Bits.length ah],eBox aP 24 [iv a2.W,iv a2.H,.slice ab a2.Bits.length ac],eBox aK 24 [iv 17,iv 1,.slice a7 aa.length a8],eBox az 24 [iv r3.W,iv r3.H,.slice a4 r3.Bits.length a5]] [fRep r_api_Grid (.agg #[iv 17,iv 1,.slice a7 aa.length a8]) (api_Grid.mk 17 1 aa),fRep r_api_Grid (.agg #[iv 17,iv 1,.slice a7 aa.length a8]) (api_Grid.mk 17 1 aa)] [0,1,2,3,4,5,6] [0,0] S (wN d) d callee16 d (by decide) d d (fun E1 w1 S1=>c_compare_Nearest E1 w1 (api_Grid.mk 17 1 aa) (.agg #[iv 17,iv 1,.slice a7 aa.length a8]) (api_Grid.mk 17 1 aa) (.agg #[iv 17,iv 1,.slice a7 aa.length a8]) 0 al fO S1) d (lb d) fun iF a w S=>?_
   obtain rfl:iF=.agg #[iv al.2.2.1.X,iv al.2.2.1.Y]:=S.mem.know (i:=0) (e:=fRep r_api_Point (iF) al.2.2.1) d
   refine sM S fun a S=>?_
   refine sExtract (vs:=[iv al.1,iv al.2.1,.agg #[iv al.2.2.1.X,iv al.2.2.1.Y],iv al.2.2.2]) (iv al.1) S (wN d) d d d d (lb d) fun a S=>sExtract (vs:=[iv al.1,iv al.2.1,.agg #[iv al.2.2.1.X,iv al.2.2.1.Y],iv al.2.2.2]) (iv al.2.1) S (wN d) d d d d (lb d) fun a S=>sExtract (vs:=[iv al.1,iv al.2.1,.agg #[iv al.2.2.1.X,iv al.2.2.1.Y],iv al.2.2.2]) (.agg #[iv al.2.2.1.X,iv al.2.2.1.Y]) S (wN d) d d d d (lb d) fun a S=>sExtract (vs:=[iv al.1,iv al.2.1,.agg #[iv al.2.2.1.X,iv al.2.2.1.Y],iv al.2.2.2]) (iv al.2.2.2) S (wN d) d d d d (lb d) fun a S=>sAlloc (.agg #[iv 0,iv 0]) S (wN d) d d [iv 0,iv 0] d d (lb d) fun a bg w S=>sN S fun a S=>?_
   refine sN S fun a S=>?_
   refine sStore (p:=bg) (off:=0) (T:=33) (vs:=[iv 0,iv 0]) (v:=.agg #[iv al.2.2.1.X,iv al.2.2.1.Y]) 0 [iv al.2.2.1.X,iv al.2.2.1.Y] S (wN d) d d d d d d d (by simp) d fun a w S=>sN S fun a S=>?_
   refine lT (gK _ _ (sSeq (fun jx gL=>sRegion (sLoadN (p:=aP) (off:=0) (T:=24) (vs:=[iv a2.W,iv a2.H,.slice ab a2.Bits.length ac]) 5 [iv a2.W,iv a2.H,.slice ab a2.Bits.length ac] S (wN d) d d d d d d d (lb d) fun a S=>sLoadN (p:=aV) (off:=0) (T:=24) (vs:=[iv a9.W,iv a9.H,.slice ag a9.Bits.length ah]) 4 [iv a9.W,iv a9.H,.slice ag a9.Bits.length ah] S (wN d) d d d d d d d (lb d) fun a S=>?_))))
   obtain ⟨am,fP,h⟩:=bS h
   have hv_r77:am=(0,(0,((api_Point.mk 0 0),2))):=Option.some.inj (fP.symm.trans (by rw [hv_r26,hv_r33]; exact kc_raddlelaw46_CompareNames_8))
   refine sCall (X:=Value) (f:=16) (vs:=[.agg #[iv a2.W,iv a2.H,.slice ab a2.Bits.length ac],.agg #[iv a9.W,iv a9.H,.slice ag a9.Bits.length ah],iv 4]) (val:=c_compare_Nearest_val am) (B':=fun _=>[]) (D':=c_compare_Nearest_D am) [] [eBox bg 33 [iv al.2.2.1.X,iv al.2.2.1.Y],eBox aQ 33 [iv a6.2.2.1.X,iv a6.2.2.1.Y],eBox aX 33 [iv af.2.2.1.X,iv af.2.2.1.Y],eBox aW 33 [iv ae.2.2.1.X,iv ae.2.2.1.Y],eBox aV 24 [iv a9.W,iv a9.H,.slice ag a9.Bits.length ah],eBox aP 24 [iv a2.W,iv a2.H,.slice ab a2.Bits.length ac],eBox aK 24 [iv 17,iv 1,.slice a7 aa.length a8],eBox az 24 [iv r3.W,iv r3.H,.slice a4 r3.Bits.length a5]] [fRep r_api_Grid (.agg #[iv a2.W,iv a2.H,.slice ab a2.Bits.length ac]) a2,fRep r_api_Grid (.agg #[iv a9.W,iv a9.H,.slice ag a9.Bits.length ah]) a9] [0,1,2,3,4,5,6,7] [11,9] S (wN d) d callee16 d (by decide) d d (fun E1 w1 S1=>c_compare_Nearest E1 w1 a2 (.agg #[iv a2.W,iv a2.H,.slice ab a2.Bits.length ac]) a9 (.agg #[iv a9.W,iv a9.H,.slice ag a9.Bits.length ah]) 4 am fP S1) d (lb d) fun iG a w S=>?_
   obtain rfl:iG=.agg #[iv am.2.2.1.X,iv am.2.2.1.Y]:=S.mem.know (i:=0) (e:=fRep r_api_Point (iG) am.2.2.1) d
   refine sM S fun a S=>?_
   refine sExtract (vs:=[iv am.1,iv am.2.1,.agg #[iv am.2.2.1.X,iv am.2.2.1.Y],iv am.2.2.2]) (iv am.1) S (wN d) d d d d (lb d) fun a S=>sExtract (vs:=[iv am.1,iv am.2.1,.agg #[iv am.2.2.1.X,iv am.2.2.1.Y],iv am.2.2.2]) (iv am.2.1) S (wN d) d d d d (lb d) fun a S=>sExtract (vs:=[iv am.1,iv am.2.1,.agg #[iv am.2.2.1.X,iv am.2.2.1.Y],iv am.2.2.2]) (.agg #[iv am.2.2.1.X,iv am.2.2.1.Y]) S (wN d) d d d d (lb d) fun a S=>sExtract (vs:=[iv am.1,iv am.2.1,.agg #[iv am.2.2.1.X,iv am.2.2.1.Y],iv am.2.2.2]) (iv am.2.2.2) S (wN d) d d d d (lb d) fun a S=>sAlloc (.agg #[iv 0,iv 0]) S (wN d) d d [iv 0,iv 0] d d (lb d) fun a bk w S=>sN S fun a S=>?_
   refine sN S fun a S=>?_
   refine sStore (p:=bk) (off:=0) (T:=33) (vs:=[iv 0,iv 0]) (v:=.agg #[iv am.2.2.1.X,iv am.2.2.1.Y]) 0 [iv am.2.2.1.X,iv am.2.2.1.Y] S (wN d) d d d d d d d (by simp) d fun a w S=>sN S fun a S=>?_
   refine lT (gL _ _ (sSeq (fun jy gM=>sRegion ?_)))
   obtain ⟨ak,dl,h⟩:=bS h
   have hv_r82:ak=(api_Grid.mk 2 1 [true,false]):=Option.some.inj (dl.symm.trans (by exact kc_raddlelaw46_CompareNames_9))
   refine sCall (X:=Value) (f:=41) (vs:=[.string (⟨#[120,46,10]⟩:ByteArray)]) (val:=c_raddlelaw46_cloth_val ak) (B':=fun _=>[]) (D':=c_raddlelaw46_cloth_D ak) [] [eBox bk 33 [iv am.2.2.1.X,iv am.2.2.1.Y],eBox bg 33 [iv al.2.2.1.X,iv al.2.2.1.Y],eBox aQ 33 [iv a6.2.2.1.X,iv a6.2.2.1.Y],eBox aX 33 [iv af.2.2.1.X,iv af.2.2.1.Y],eBox aW 33 [iv ae.2.2.1.X,iv ae.2.2.1.Y],eBox aV 24 [iv a9.W,iv a9.H,.slice ag a9.Bits.length ah],eBox aP 24 [iv a2.W,iv a2.H,.slice ab a2.Bits.length ac],eBox aK 24 [iv 17,iv 1,.slice a7 aa.length a8],eBox az 24 [iv r3.W,iv r3.H,.slice a4 r3.Bits.length a5]] [] [0,1,2,3,4,5,6,7,8] [] S (wN d) d callee41 d (by decide) d d (fun E1 w1 S1=>c_raddlelaw46_cloth E1 w1 (⟨#[120,46,10]⟩:ByteArray) ak dl S1) d (lb d) fun iP a w S=>?_
   obtain ⟨iQ,rfl,fQ⟩:=S.mem.know (i:=0) (e:=fRep r_api_Grid (iP) ak) d
   have S:=S.learn (fRep (rL rB) iQ ak.Bits) fQ
   obtain ⟨fv,fw,_,rfl,_⟩:=fQ
   refine sCall (X:=Value) (f:=41) (vs:=[.string (⟨#[120,46,10]⟩:ByteArray)]) (val:=c_raddlelaw46_cloth_val ak) (B':=fun _=>[]) (D':=c_raddlelaw46_cloth_D ak) [] [eBox bk 33 [iv am.2.2.1.X,iv am.2.2.1.Y],eBox bg 33 [iv al.2.2.1.X,iv al.2.2.1.Y],eBox aQ 33 [iv a6.2.2.1.X,iv a6.2.2.1.Y],eBox aX 33 [iv af.2.2.1.X,iv af.2.2.1.Y],eBox aW 33 [iv ae.2.2.1.X,iv ae.2.2.1.Y],eBox aV 24 [iv a9.W,iv a9.H,.slice ag a9.Bits.length ah],eBox aP 24 [iv a2.W,iv a2.H,.slice ab a2.Bits.length ac],eBox aK 24 [iv 17,iv 1,.slice a7 aa.length a8],eBox az 24 [iv r3.W,iv r3.H,.slice a4 r3.Bits.length a5]] [] [0,1,2,3,4,5,6,7,8] [] S (wN d) d callee41 d (by decide) d d (fun E1 w1 S1=>c_raddlelaw46_cloth E1 w1 (⟨#[120,46,10]⟩:ByteArray) ak dl S1) d (lb d) fun iR a w S=>?_
   obtain ⟨iT,rfl,fR⟩:=S.mem.know (i:=0) (e:=fRep r_api_Grid (iR) ak) d
   have S:=S.learn (fRep (rL rB) iT ak.Bits) fR
   obtain ⟨fx,fy,_,rfl,_⟩:=fR
   obtain ⟨ao,fS,h⟩:=bS h
   have hv_r94:ao=(0,(0,((api_Point.mk 0 0),2))):=Option.some.inj (fS.symm.trans (by rw [hv_r82]; exact kc_raddlelaw46_CompareNames_10))
   refine sCall (X:=Value) (f:=16) (vs:=[.agg #[iv ak.W,iv ak.H,.slice fv ak.Bits.length fw],.agg #[iv ak.W,iv ak.H,.slice fx ak.Bits.length fy],iv 2]) (val:=c_compare_Nearest_val ao) (B':=fun _=>[]) (D':=c_compare_Nearest_D ao) [] [eBox bk 33 [iv am.2.2.1.X,iv am.2.2.1.Y],eBox bg 33 [iv al.2.2.1.X,iv al.2.2.1.Y],eBox aQ 33 [iv a6.2.2.1.X,iv a6.2.2.1.Y],eBox aX 33 [iv af.2.2.1.X,iv af.2.2.1.Y],eBox aW 33 [iv ae.2.2.1.X,iv ae.2.2.1.Y],eBox aV 24 [iv a9.W,iv a9.H,.slice ag a9.Bits.length ah],eBox aP 24 [iv a2.W,iv a2.H,.slice ab a2.Bits.length ac],eBox aK 24 [iv 17,iv 1,.slice a7 aa.length a8],eBox az 24 [iv r3.W,iv r3.H,.slice a4 r3.Bits.length a5]] [fRep r_api_Grid (.agg #[iv ak.W,iv ak.H,.slice fv ak.Bits.length fw]) ak,fRep r_api_Grid (.agg #[iv ak.W,iv ak.H,.slice fx ak.Bits.length fy]) ak] [0,1,2,3,4,5,6,7,8] [3,1] S (wN d) d callee16 d (by decide) d d (fun E1 w1 S1=>c_compare_Nearest E1 w1 ak (.agg #[iv ak.W,iv ak.H,.slice fv ak.Bits.length fw]) ak (.agg #[iv ak.W,iv ak.H,.slice fx ak.Bits.length fy]) 2 ao fS S1) d (lb d) fun iH a w S=>?_
   obtain rfl:iH=.agg #[iv ao.2.2.1.X,iv ao.2.2.1.Y]:=S.mem.know (i:=0) (e:=fRep r_api_Point (iH) ao.2.2.1) d
   refine sM S fun a S=>?_
   refine sExtract (vs:=[iv ao.1,iv ao.2.1,.agg #[iv ao.2.2.1.X,iv ao.2.2.1.Y],iv ao.2.2.2]) (iv ao.1) S (wN d) d d d d (lb d) fun a S=>sExtract (vs:=[iv ao.1,iv ao.2.1,.agg #[iv ao.2.2.1.X,iv ao.2.2.1.Y],iv ao.2.2.2]) (iv ao.2.1) S (wN d) d d d d (lb d) fun a S=>sExtract (vs:=[iv ao.1,iv ao.2.1,.agg #[iv ao.2.2.1.X,iv ao.2.2.1.Y],iv ao.2.2.2]) (.agg #[iv ao.2.2.1.X,iv ao.2.2.1.Y]) S (wN d) d d d d (lb d) fun a S=>sExtract (vs:=[iv ao.1,iv ao.2.1,.agg #[iv ao.2.2.1.X,iv ao.2.2.1.Y],iv ao.2.2.2]) (iv ao.2.2.2) S (wN d) d d d d (lb d) fun a S=>sAlloc (.agg #[iv 0,iv 0]) S (wN d) d d [iv 0,iv 0] d d (lb d) fun a bw w S=>sN S fun a S=>?_
   refine sN S fun a S=>?_
   refine sStore (p:=bw) (off:=0) (T:=33) (vs:=[iv 0,iv 0]) (v:=.agg #[iv ao.2.2.1.X,iv ao.2.2.1.Y]) 0 [iv ao.2.2.1.X,iv ao.2.2.1.Y] S (wN d) d d d d d d d (by simp) d fun a w S=>sN S fun a S=>?_
   refine lT (gM _ _ (sSeq (fun jz gN=>?_)))
   obtain ⟨a0,dn,h⟩:=bS h
   have hv_r104:a0=(0,(0,((api_Point.mk 0 0),2))):=Option.some.inj (dn.symm.trans (by rw [hv_r26,hv_r82]; exact kc_raddlelaw46_CompareNames_11))
   refine sDraw (nf:=[1,2,8,11]) (W:=[(0,144,.agg #[iv a2.W,iv a2.H,.slice ab a2.Bits.length ac])]) d S ?_
   refine nodeCut (fun N W L D=>∀ ay au av,N [8,2,1] ((9,29,iv a0.1) :: (10,30,iv a0.2.1) :: (8,31,.pointer (some ⟨ay,0,none⟩)) :: (3,143,.tuple #[iv a0.1,iv a0.2.1,.agg #[iv a0.2.2.1.X,iv a0.2.2.1.Y],iv a0.2.2.2]) :: (4,147,iv a0.1) :: (5,148,iv a0.2.1) :: (6,149,.agg #[iv a0.2.2.1.X,iv a0.2.2.1.Y]) :: (7,150,iv a0.2.2.2) :: (2,146,.tuple #[iv a0.1,iv a0.2.1,.agg #[iv a0.2.2.1.X,iv a0.2.2.1.Y],iv a0.2.2.2]) :: (1,145,.agg #[iv ak.W,iv ak.H,.slice au ak.Bits.length av]) :: W) ((eBox ay 33 [iv 0,iv 0]) :: L) ((fRep r_api_Point (.agg #[iv a0.2.2.1.X,iv a0.2.2.1.Y]) a0.2.2.1) :: (fRep (rL rB) (.slice au ak.Bits.length av) ak.Bits) :: (fRep r_api_Grid (.agg #[iv ak.W,iv ak.H,.slice au ak.Bits.length av]) ak) :: D)) (fun ay au av=>?_) fun nd1=>?_
   ·refine node_by (A:=anc_raddlelaw46_CompareNames_0) 13 (by kernel_rfl) (by kernel_rfl) (by kernel_rfl) (by kernel_rfl) (by kernel_rfl) [9,10,8,3,4,5,6,7,2,1,0] (by kernel_rfl) (by decide) (by decide) (fD 2 (fY (fY (fF ?_ (fF ?_ (fF ?_ (fF ?_ (fF ?_ (fY (fF ?_ (fF ?_ (fN ?_ (fE 11 (trivial)))))))))))))) [] (fun q hq=>by cases hq) (fun hY=>absurd (hY 11 (by decide)) (by decide))
    ·exact fM 3 (some 8) d d d d (.inl d) d d d
    ·refine fJ [(143,_)] 4 [some 3] fun G a w S=>?_
     exact sExtract (vs:=[iv a0.1,iv a0.2.1,.agg #[iv a0.2.2.1.X,iv a0.2.2.1.Y],iv a0.2.2.2]) (iv a0.1) S (wN d) d d d d (lb d) fun a S=>leafL ⟨d,S⟩
    ·refine fJ [(143,_)] 5 [some 3] fun G a w S=>?_
     exact sExtract (vs:=[iv a0.1,iv a0.2.1,.agg #[iv a0.2.2.1.X,iv a0.2.2.1.Y],iv a0.2.2.2]) (iv a0.2.1) S (wN d) d d d d (lb d) fun a S=>leafL ⟨d,S⟩
    ·refine fJ [(143,_)] 6 [some 3] fun G a w S=>?_
     exact sExtract (vs:=[iv a0.1,iv a0.2.1,.agg #[iv a0.2.2.1.X,iv a0.2.2.1.Y],iv a0.2.2.2]) (.agg #[iv a0.2.2.1.X,iv a0.2.2.1.Y]) S (wN d) d d d d (lb d) fun a S=>leafL ⟨d,S⟩
    ·refine fJ [(143,_)] 7 [some 3] fun G a w S=>?_
     exact sExtract (vs:=[iv a0.1,iv a0.2.1,.agg #[iv a0.2.2.1.X,iv a0.2.2.1.Y],iv a0.2.2.2]) (iv a0.2.2.2) S (wN d) d d d d (lb d) fun a S=>leafL ⟨d,S⟩
    ·exact fM 0 (some 4) d d d d (.inr d) d d d
    ·exact fM 1 (some 5) d d d d (.inr d) d d d
    refine ⟨_,[(31,.pointer (some ⟨ay,0,none⟩)),(149,.agg #[iv a0.2.2.1.X,iv a0.2.2.1.Y])],d,(srcs_of [some 2,some 6] d d d),fun G a w S=>?_⟩
    refine sStore (p:=ay) (off:=0) (T:=33) (vs:=[iv 0,iv 0]) (v:=.agg #[iv a0.2.2.1.X,iv a0.2.2.1.Y]) 0 [iv a0.2.2.1.X,iv a0.2.2.1.Y] S (wN d) d d d d d d d (by simp) d fun a w S=>leafL ⟨d,_,_,.inr ⟨[(12,32,iv a0.2.2.2)],d,S,hz_of d,?_⟩⟩
    refine node_by (A:=anc_raddlelaw46_CompareNames_0) 13 (by kernel_rfl) (by kernel_rfl) (by kernel_rfl) (by kernel_rfl) (by kernel_rfl) [12,9,10,8,3,4,5,6,7,2,1,0] (by kernel_rfl) (by decide) (by decide) (fD 11 (fY (fY (fD 11 (fD 11 (fD 11 (fD 11 (fF ?_ (fY (fD 11 (fD 11 (fY (fF ?_ (trivial)))))))))))))) [(3,.pointer (some ⟨aP,0,none⟩)),(5,iv ae.1),(6,iv ae.2.1),(7,.pointer (some ⟨aW,0,none⟩)),(8,iv ae.2.2.2),(9,iv af.1),(10,iv af.2.1),(11,.pointer (some ⟨aX,0,none⟩)),(12,iv af.2.2.2),(13,iv a6.1),(14,iv a6.2.1),(15,.pointer (some ⟨aQ,0,none⟩)),(16,iv a6.2.2.2),(20,iv al.2.2.2),(24,iv am.2.2.2),(28,iv ao.2.2.2),(32,iv a0.2.2.2)] (fin_of [none,none,none,none,none,none,none,none,none,none,none,none,none,none,none,none,some 0] d (by kernel_rfl) (by kernel_rfl)) (fun _ a w S=>?_)
    ·refine fJ [(143,_)] 8 [some 4] fun G a w S=>?_
     exact sExtract (vs:=[iv a0.1,iv a0.2.1,.agg #[iv a0.2.2.1.X,iv a0.2.2.1.Y],iv a0.2.2.2]) (iv a0.2.2.2) S (wN d) d d d d (lb d) fun a S=>leafL ⟨d,S⟩
    ·exact fM 0 (some 8) d d d d (.inr d) d d d
    refine leafT (gN _ _ ?_)
    refine sSeq (fun iU fT=>?_)
    obtain ⟨aT,ei,h⟩:=bS h
    have hv_r121:aT=(0,2):=Option.some.inj (ei.symm.trans (by rw [hv_r26,hv_r82]; exact kc_raddlelaw46_CompareNames_12))
    refine sDraw (nf:=[1]) (W:=[(0,152,.agg #[iv a2.W,iv a2.H,.slice ab a2.Bits.length ac])]) d S ?_
    refine node_by (A:=anc_raddlelaw46_CompareNames_1) 8 (by kernel_rfl) (by kernel_rfl) (by kernel_rfl) (by kernel_rfl) (by kernel_rfl) [0] (by kernel_rfl) (by decide) (by decide) (fF ?_ (fN ?_ (fE 1 (fE 1 (fE 1 (fE 1 (fE 1 (fE 1 (trivial))))))))) [] (fun q hq=>by cases hq) (fun hY=>absurd (hY 1 (by decide)) (by decide))
    ·refine fJ [(3,_)] 0 [none] fun G a w S=>?_
     exact sLoadN (p:=aP) (off:=0) (T:=24) (vs:=[iv a2.W,iv a2.H,.slice ab a2.Bits.length ac]) 8 [iv a2.W,iv a2.H,.slice ab a2.Bits.length ac] S (wN d) d d d d d d d (lb d) fun a S=>leafL ⟨d,S⟩
    refine ⟨_,[],d,(srcs_of [] d d d),fun G a w S=>?_⟩
    refine sCall (X:=Value) (f:=41) (vs:=[.string (⟨#[120,46,10]⟩:ByteArray)]) (val:=c_raddlelaw46_cloth_val ak) (B':=fun _=>[]) (D':=c_raddlelaw46_cloth_D ak) [] [eBox ay 33 [iv a0.2.2.1.X,iv a0.2.2.1.Y],eBox bw 33 [iv ao.2.2.1.X,iv ao.2.2.1.Y],eBox bk 33 [iv am.2.2.1.X,iv am.2.2.1.Y],eBox bg 33 [iv al.2.2.1.X,iv al.2.2.1.Y],eBox aQ 33 [iv a6.2.2.1.X,iv a6.2.2.1.Y],eBox aX 33 [iv af.2.2.1.X,iv af.2.2.1.Y],eBox aW 33 [iv ae.2.2.1.X,iv ae.2.2.1.Y],eBox aV 24 [iv a9.W,iv a9.H,.slice ag a9.Bits.length ah],eBox aP 24 [iv a2.W,iv a2.H,.slice ab a2.Bits.length ac],eBox aK 24 [iv 17,iv 1,.slice a7 aa.length a8],eBox az 24 [iv r3.W,iv r3.H,.slice a4 r3.Bits.length a5]] [] [0,1,2,3,4,5,6,7,8,9,10] [] S (wN d) d callee41 d (by decide) d d (fun E1 w1 S1=>c_raddlelaw46_cloth E1 w1 (⟨#[120,46,10]⟩:ByteArray) ak dl S1) d (lb d) fun gO a w S=>?_
    obtain ⟨gP,rfl,ej⟩:=S.mem.know (i:=0) (e:=fRep r_api_Grid (gO) ak) d
    have S:=S.learn (fRep (rL rB) gP ak.Bits) ej
    obtain ⟨dp,dr,_,rfl,_⟩:=ej
    refine leafL ⟨d,_,_,.inl ⟨153,(.agg #[iv ak.W,iv ak.H,.slice dp ak.Bits.length dr]),[(2,154,.tuple #[iv aT.1,iv aT.2]),(3,151,.tuple #[iv aT.1,iv aT.2]),(4,155,iv aT.1),(5,156,iv aT.2),(6,33,iv aT.1),(7,34,iv aT.2)],d,S,hz_of d,?_⟩⟩
    refine node_by (A:=anc_raddlelaw46_CompareNames_1) 8 (by kernel_rfl) (by kernel_rfl) (by kernel_rfl) (by kernel_rfl) (by kernel_rfl) [2,3,4,5,6,7,1,0] (by kernel_rfl) (by decide) (by decide) (fF ?_ (fY (fF ?_ (fF ?_ (fF ?_ (fF ?_ (fF ?_ (fF ?_ (trivial))))))))) [(5,iv ae.1),(6,iv ae.2.1),(7,.pointer (some ⟨aW,0,none⟩)),(8,iv ae.2.2.2),(9,iv af.1),(10,iv af.2.1),(11,.pointer (some ⟨aX,0,none⟩)),(12,iv af.2.2.2),(13,iv a6.1),(14,iv a6.2.1),(15,.pointer (some ⟨aQ,0,none⟩)),(16,iv a6.2.2.2),(20,iv al.2.2.2),(24,iv am.2.2.2),(28,iv ao.2.2.2),(32,iv a0.2.2.2),(34,iv aT.2)] (fin_of [none,none,none,none,none,none,none,none,none,none,none,none,none,none,none,none,some 5] d (by kernel_rfl) (by kernel_rfl)) (fun _ a w S=>?_)
    ·refine fJ [(3,_)] 7 [none] fun G a w S=>?_
     exact sLoadN (p:=aP) (off:=0) (T:=24) (vs:=[iv a2.W,iv a2.H,.slice ab a2.Bits.length ac]) 8 [iv a2.W,iv a2.H,.slice ab a2.Bits.length ac] S (wN d) d d d d d d d (lb d) fun a S=>leafL ⟨d,S⟩
    ·refine fJ [(152,_),(153,_)] 0 [some 7,some 6] fun G a w S=>?_
     have S1:=S.mem
     refine sCq [.agg #[iv a2.W,iv a2.H,.slice ab a2.Bits.length ac],.agg #[iv ak.W,iv ak.H,.slice dp ak.Bits.length dr]] (.tuple #[iv aT.1,iv aT.2]) S callee14 (S1.quiet [22,1] d) (fun E1 w1 S1=>c_compare_Cells E1 w1 a2 (.agg #[iv a2.W,iv a2.H,.slice ab a2.Bits.length ac]) ak (.agg #[iv ak.W,iv ak.H,.slice dp ak.Bits.length dr]) aT ei S1) fun a w S=>?_
     exact leafL ⟨d,S⟩
    ·exact fM 1 (some 0) d d d d (.inl d) d d d
    ·refine fJ [(151,_)] 2 [some 1] fun G a w S=>?_
     exact sExtract (vs:=[iv aT.1,iv aT.2]) (iv aT.1) S (wN d) d d d d (lb d) fun a S=>leafL ⟨d,S⟩
    ·refine fJ [(151,_)] 3 [some 1] fun G a w S=>?_
     exact sExtract (vs:=[iv aT.1,iv aT.2]) (iv aT.2) S (wN d) d d d d (lb d) fun a S=>leafL ⟨d,S⟩
    ·exact fM 4 (some 2) d d d d (.inr d) d d d
    ·exact fM 5 (some 3) d d d d (.inr d) d d d
    refine leafT (fT _ _ ?_)
    refine sSeq (fun iV fU=>sRegion (sBuild [(0,iv 65)] [iv 65,iv 0,.slice none 0 0] S (wN d) d d d d (lb d) fun a S=>sBuild [] [iv 0,iv 0,.slice none 0 0] S (wN d) d d d d (lb d) fun a S=>?_))
    obtain ⟨b0,ek,h⟩:=bS h
    have hv_r129:b0=(0,4):=Option.some.inj (ek.symm.trans (by exact kc_raddlelaw46_CompareNames_13))
    have S1:=S.mem
    have S1:=S1.learn (fRep (rL rB) (.slice none 0 0) ([]:(List Bool))) (rL_nil _ _ _)
    have S1:=S1.learn (fRep r_api_Grid (.agg #[iv 65,iv 0,.slice none 0 0]) (api_Grid.mk 65 0 ([]:(List Bool)))) ⟨_,d,S1.know (i:=0) (e:=fRep (rL rB) (.slice none 0 0) ([]:(List Bool))) d⟩
    have S1:=S1.learn (fRep r_api_Grid (.agg #[iv 0,iv 0,.slice none 0 0]) (api_Grid.mk 0 0 ([]:(List Bool)))) ⟨_,d,S1.know (i:=1) (e:=fRep (rL rB) (.slice none 0 0) ([]:(List Bool))) d⟩
    refine sCq [.agg #[iv 65,iv 0,.slice none 0 0],.agg #[iv 0,iv 0,.slice none 0 0]] (.tuple #[iv b0.1,iv b0.2]) S callee14 (S1.quiet [1,0] d) (fun E1 w1 S1=>c_compare_Cells E1 w1 (api_Grid.mk 65 0 ([]:(List Bool))) (.agg #[iv 65,iv 0,.slice none 0 0]) (api_Grid.mk 0 0 ([]:(List Bool))) (.agg #[iv 0,iv 0,.slice none 0 0]) b0 ek S1) fun a w S=>?_
    refine sM S fun a S=>?_
    refine sExtract (vs:=[iv b0.1,iv b0.2]) (iv b0.1) S (wN d) d d d d (lb d) fun a S=>sExtract (vs:=[iv b0.1,iv b0.2]) (iv b0.2) S (wN d) d d d d (lb d) fun a S=>sN S fun a S=>?_
    refine sN S fun a S=>?_
    refine lT (fU _ _ (sSeq (fun iW fV=>sRegion (sM S fun a S=>?_))))
    refine sBin _ S (wN d) d d d (bEq _ _ _ _ .i64 ae.2.2.2 0) d (lb d) fun a S=>sM S fun a S=>?_
    rcases iS h with ⟨c4,h⟩ | ⟨c4,h⟩
    rotate_left
    ·exact absurd c4 (by rw [hv_r43]; decide)
    refine sMove (iv ae.1) S (wG 2 true 165 d d d c4) (.inl d) d d (lb d) fun a S=>sBin _ S (wG 2 true 165 d d d c4) d d d (bEq _ _ _ _ .i64 ae.1 2) d (lb d) fun a S=>sPickT (.bool (ae.1 == 2)) S (wN d) d d c4 d d (lb d) fun a S=>sM S fun a S=>?_
    rcases iS h with ⟨c5,h⟩ | ⟨c5,h⟩
    rotate_left
    ·exact absurd c5 (by rw [hv_r43]; decide)
    refine sMove (iv ae.2.1) S (wG 6 true 169 d d d c5) (.inl d) d d (lb d) fun a S=>sBin _ S (wG 6 true 169 d d d c5) d d d (bEq _ _ _ _ .i64 ae.2.1 0) d (lb d) fun a S=>sPickT (.bool (ae.2.1 == 0)) S (wN d) d d c5 d d (lb d) fun a S=>sM S fun a S=>?_
    rcases iS h with ⟨bR,h⟩ | ⟨bR,h⟩
    rotate_left
    ·exact absurd bR (by rw [hv_r43]; decide)
    refine sLoadN (p:=aW) (off:=0) (T:=33) (vs:=[iv ae.2.2.1.X,iv ae.2.2.1.Y]) 6 [iv ae.2.2.1.X,iv ae.2.2.1.Y] S (wG 10 true 173 d d d bR) d d d d d d d (lb d) fun a S=>sBuild [] [iv 0,iv 0] S (wG 10 true 173 d d d bR) d d d d (lb d) fun a S=>sBin _ S (wG 10 true 173 d d d bR) d d d (bEqV _ _ _ _ #[iv ae.2.2.1.X,iv ae.2.2.1.Y] #[iv 0,iv 0] ((ae.2.2.1.X == 0) && ((ae.2.2.1.Y == 0) && true)) (by kernel_rfl) (eqlV_of (by kernel_rfl))) d (lb d) fun a S=>sPickT (.bool ((ae.2.2.1.X == 0) && ((ae.2.2.1.Y == 0) && true))) S (wN d) d d bR d d (lb d) fun a S=>sM S fun a S=>?_
    rcases iS h with ⟨c6,h⟩ | ⟨c6,h⟩
    rotate_left
    ·exact absurd c6 (by rw [hv_r43]; decide)
    refine sMove (iv af.2.2.2) S (wG 15 true 178 d d d c6) (.inl d) d d (lb d) fun a S=>sBin _ S (wG 15 true 178 d d d c6) d d d (bEq _ _ _ _ .i64 af.2.2.2 0) d (lb d) fun a S=>sPickT (.bool (af.2.2.2 == 0)) S (wN d) d d c6 d d (lb d) fun a S=>sM S fun a S=>?_
    rcases iS h with ⟨c7,h⟩ | ⟨c7,h⟩
    rotate_left
    ·exact absurd c7 (by rw [hv_r48]; decide)
    refine sMove (iv af.1) S (wG 19 true 182 d d d c7) (.inl d) d d (lb d) fun a S=>sBin _ S (wG 19 true 182 d d d c7) d d d (bEq _ _ _ _ .i64 af.1 0) d (lb d) fun a S=>sPickT (.bool (af.1 == 0)) S (wN d) d d c7 d d (lb d) fun a S=>sM S fun a S=>?_
    rcases iS h with ⟨c8,h⟩ | ⟨c8,h⟩
    rotate_left
    ·exact absurd c8 (by rw [hv_r48]; decide)
    refine sMove (iv af.2.1) S (wG 23 true 186 d d d c8) (.inl d) d d (lb d) fun a S=>sBin _ S (wG 23 true 186 d d d c8) d d d (bEq _ _ _ _ .i64 af.2.1 4) d (lb d) fun a S=>sPickT (.bool (af.2.1 == 4)) S (wN d) d d c8 d d (lb d) fun a S=>sM S fun a S=>?_
    rcases iS h with ⟨bT,h⟩ | ⟨bT,h⟩
    rotate_left
    ·exact absurd bT (by rw [hv_r48]; decide)
    refine sLoadN (p:=aX) (off:=0) (T:=33) (vs:=[iv af.2.2.1.X,iv af.2.2.1.Y]) 5 [iv af.2.2.1.X,iv af.2.2.1.Y] S (wG 27 true 190 d d d bT) d d d d d d d (lb d) fun a S=>sBuild [(0,iv 1)] [iv 1,iv 0] S (wG 27 true 190 d d d bT) d d d d (lb d) fun a S=>sBin _ S (wG 27 true 190 d d d bT) d d d (bEqV _ _ _ _ #[iv af.2.2.1.X,iv af.2.2.1.Y] #[iv 1,iv 0] ((af.2.2.1.X == 1) && ((af.2.2.1.Y == 0) && true)) (by kernel_rfl) (eqlV_of (by kernel_rfl))) d (lb d) fun a S=>sPickT (.bool ((af.2.2.1.X == 1) && ((af.2.2.1.Y == 0) && true))) S (wN d) d d bT d d (lb d) fun a S=>sM S fun a S=>?_
    rcases iS h with ⟨c9,h⟩ | ⟨c9,h⟩
    rotate_left
    ·exact absurd c9 (by rw [hv_r48]; decide)
    refine sMove (iv a6.2.2.2) S (wG 32 true 195 d d d c9) (.inl d) d d (lb d) fun a S=>sBin _ S (wG 32 true 195 d d d c9) d d d (bEq _ _ _ _ .i64 a6.2.2.2 0) d (lb d) fun a S=>sPickT (.bool (a6.2.2.2 == 0)) S (wN d) d d c9 d d (lb d) fun a S=>sM S fun a S=>?_
    rcases iS h with ⟨ca,h⟩ | ⟨ca,h⟩
    rotate_left
    ·exact absurd ca (by rw [hv_r60]; decide)
    refine sMove (iv a6.1) S (wG 36 true 199 d d d ca) (.inl d) d d (lb d) fun a S=>sBin _ S (wG 36 true 199 d d d ca) d d d (bEq _ _ _ _ .i64 a6.1 0) d (lb d) fun a S=>sPickT (.bool (a6.1 == 0)) S (wN d) d d ca d d (lb d) fun a S=>sM S fun a S=>?_
    rcases iS h with ⟨cb,h⟩ | ⟨cb,h⟩
    rotate_left
    ·exact absurd cb (by rw [hv_r60]; decide)
    refine sMove (iv a6.2.1) S (wG 40 true 203 d d d cb) (.inl d) d d (lb d) fun a S=>sBin _ S (wG 40 true 203 d d d cb) d d d (bEq _ _ _ _ .i64 a6.2.1 8) d (lb d) fun a S=>sPickT (.bool (a6.2.1 == 8)) S (wN d) d d cb d d (lb d) fun a S=>sM S fun a S=>?_
    rcases iS h with ⟨bU,h⟩ | ⟨bU,h⟩
    rotate_left
    ·exact absurd bU (by rw [hv_r60]; decide)
    refine sLoadN (p:=aQ) (off:=0) (T:=33) (vs:=[iv a6.2.2.1.X,iv a6.2.2.1.Y]) 4 [iv a6.2.2.1.X,iv a6.2.2.1.Y] S (wG 44 true 207 d d d bU) d d d d d d d (lb d) fun a S=>sBuild [(0,iv 1)] [iv 1,iv 0] S (wG 44 true 207 d d d bU) d d d d (lb d) fun a S=>sBin _ S (wG 44 true 207 d d d bU) d d d (bEqV _ _ _ _ #[iv a6.2.2.1.X,iv a6.2.2.1.Y] #[iv 1,iv 0] ((a6.2.2.1.X == 1) && ((a6.2.2.1.Y == 0) && true)) (by kernel_rfl) (eqlV_of (by kernel_rfl))) d (lb d) fun a S=>sPickT (.bool ((a6.2.2.1.X == 1) && ((a6.2.2.1.Y == 0) && true))) S (wN d) d d bU d d (lb d) fun a S=>sM S fun a S=>?_
    rcases iS h with ⟨cc,h⟩ | ⟨cc,h⟩
    rotate_left
    ·exact absurd cc (by rw [hv_r60]; decide)
    refine sMove (iv al.2.2.2) S (wG 49 true 212 d d d cc) (.inl d) d d (lb d) fun a S=>sBin _ S (wG 49 true 212 d d d cc) d d d (bEq _ _ _ _ .i64 al.2.2.2 4) d (lb d) fun a S=>sPickT (.bool (al.2.2.2 == 4)) S (wN d) d d cc d d (lb d) fun a S=>sM S fun a S=>?_
    rcases iS h with ⟨cd,h⟩ | ⟨cd,h⟩
    rotate_left
    ·exact absurd cd (by rw [hv_r72]; decide)
    refine sMove (iv am.2.2.2) S (wG 53 true 216 d d d cd) (.inl d) d d (lb d) fun a S=>sBin _ S (wG 53 true 216 d d d cd) d d d (bEq _ _ _ _ .i64 am.2.2.2 2) d (lb d) fun a S=>sPickT (.bool (am.2.2.2 == 2)) S (wN d) d d cd d d (lb d) fun a S=>sM S fun a S=>?_
    rcases iS h with ⟨ce,h⟩ | ⟨ce,h⟩
    rotate_left
    ·exact absurd ce (by rw [hv_r77]; decide)
    refine sMove (iv ao.2.2.2) S (wG 57 true 220 d d d ce) (.inl d) d d (lb d) fun a S=>sBin _ S (wG 57 true 220 d d d ce) d d d (bEq _ _ _ _ .i64 ao.2.2.2 2) d (lb d) fun a S=>sPickT (.bool (ao.2.2.2 == 2)) S (wN d) d d ce d d (lb d) fun a S=>sM S fun a S=>?_
    rcases iS h with ⟨cf,h⟩ | ⟨cf,h⟩
    rotate_left
    ·exact absurd cf (by rw [hv_r94]; decide)
    refine sMove (iv a0.2.2.2) S (wG 61 true 224 d d d cf) (.inl d) d d (lb d) fun a S=>sBin _ S (wG 61 true 224 d d d cf) d d d (bEq _ _ _ _ .i64 a0.2.2.2 2) d (lb d) fun a S=>sPickT (.bool (a0.2.2.2 == 2)) S (wN d) d d cf d d (lb d) fun a S=>sM S fun a S=>?_
    rcases iS h with ⟨cg,h⟩ | ⟨cg,h⟩
    rotate_left
    ·exact absurd cg (by rw [hv_r104]; decide)
    refine sMove (iv aT.2) S (wG 65 true 228 d d d cg) (.inl d) d d (lb d) fun a S=>sBin _ S (wG 65 true 228 d d d cg) d d d (bEq _ _ _ _ .i64 aT.2 2) d (lb d) fun a S=>sPickT (.bool (aT.2 == 2)) S (wN d) d d cg d d (lb d) fun a S=>sM S fun a S=>?_
    rcases iS h with ⟨ci,h⟩ | ⟨ci,h⟩
    rotate_left
    ·exact absurd ci (by rw [hv_r121]; decide)
    refine sMove (iv b0.2) S (wG 69 true 232 d d d ci) (.inl d) d d (lb d) fun a S=>sBin _ S (wG 69 true 232 d d d ci) d d d (bEq _ _ _ _ .i64 b0.2 4) d (lb d) fun a S=>sPickT (.bool (b0.2 == 4)) S (wN d) d d ci d d (lb d) fun a S=>sN S fun a S=>?_
    refine lT (fV _ _ (sSeq (fun iX fW=>sRegion (sBuild [(0,.int .u8 1)] [.int .u8 1,.bool false,iv 0,iv 0] S (wN d) d d d d (lb d) fun a S=>sBuild [(0,.int .u8 2)] [.int .u8 2,.bool false,iv 0,iv 0] S (wN d) d d d d (lb d) fun a S=>sAlloc (.agg #[.int .u8 0,.bool false,iv 0,iv 0]) S (wN d) d d [.int .u8 0,.bool false,iv 0,iv 0] d d (lb d) fun a aC w S=>sAlloc (.agg #[.int .u8 0,.bool false,iv 0,iv 0]) S (wN d) d d [.int .u8 0,.bool false,iv 0,iv 0] d d (lb d) fun a ar w S=>sStore (p:=aC) (off:=0) (T:=81) (vs:=[.int .u8 0,.bool false,iv 0,iv 0]) (v:=.agg #[.int .u8 1,.bool false,iv 0,iv 0]) 1 [.int .u8 1,.bool false,iv 0,iv 0] S (wN d) d d d d d d d (by simp) d fun a w S=>sStore (p:=ar) (off:=0) (T:=81) (vs:=[.int .u8 0,.bool false,iv 0,iv 0]) (v:=.agg #[.int .u8 2,.bool false,iv 0,iv 0]) 1 [.int .u8 2,.bool false,iv 0,iv 0] S (wN d) d d d d d d d (by simp) d fun a w S=>lT (fW _ _ (sSeq (fun iY fX=>sRegion (sBuild [(0,.int .u8 1)] [.int .u8 1,.int .u8 0,.bool false,iv 0,iv 0] S (wN d) d d d d (lb d) fun a S=>sBuild [(0,.int .u8 4)] [.int .u8 4,.int .u8 0,.bool false,iv 0,iv 0] S (wN d) d d d d (lb d) fun a S=>sAlloc (.agg #[.int .u8 0,.int .u8 0,.bool false,iv 0,iv 0]) S (wN d) d d [.int .u8 0,.int .u8 0,.bool false,iv 0,iv 0] d d (lb d) fun a aO w S=>sAlloc (.agg #[.int .u8 0,.int .u8 0,.bool false,iv 0,iv 0]) S (wN d) d d [.int .u8 0,.int .u8 0,.bool false,iv 0,iv 0] d d (lb d) fun a aG w S=>?_))))))))
    refine sStore (p:=aO) (off:=0) (T:=83) (vs:=[.int .u8 0,.int .u8 0,.bool false,iv 0,iv 0]) (v:=.agg #[.int .u8 1,.int .u8 0,.bool false,iv 0,iv 0]) 1 [.int .u8 1,.int .u8 0,.bool false,iv 0,iv 0] S (wN d) d d d d d d d (by simp) d fun a w S=>sStore (p:=aG) (off:=0) (T:=83) (vs:=[.int .u8 0,.int .u8 0,.bool false,iv 0,iv 0]) (v:=.agg #[.int .u8 4,.int .u8 0,.bool false,iv 0,iv 0]) 1 [.int .u8 4,.int .u8 0,.bool false,iv 0,iv 0] S (wN d) d d d d d d d (by simp) d fun a w S=>lT (fX _ _ (sSeq (fun iZ fZ=>sDraw (nf:=[4,5,6,7]) (W:=[(0,240,.agg #[.int .u8 2,.bool false,iv 0,iv 0]),(1,241,.agg #[.int .u8 3,.int .u8 2,.bool false,iv 0,iv 0]),(2,242,.agg #[.int .u8 2,.bool false,iv 0,iv 0]),(3,243,.agg #[.int .u8 2,.int .u8 2,.bool false,iv 0,iv 0])]) d S ?_)))
    refine nodeCut (fun N W L D=>∀ ap aq,N [5,4] ((5,43,.pointer (some ⟨ap,0,none⟩)) :: (4,42,.pointer (some ⟨aq,0,none⟩)) :: W) ((eBox ap 83 [.int .u8 0,.int .u8 0,.bool false,iv 0,iv 0]) :: (eBox aq 83 [.int .u8 0,.int .u8 0,.bool false,iv 0,iv 0]) :: L) (D)) (fun ap aq=>?_) fun nd1=>?_
    ·refine node_by (A:=anc_raddlelaw46_CompareNames_2) 8 (by kernel_rfl) (by kernel_rfl) (by kernel_rfl) (by kernel_rfl) (by kernel_rfl) [5,4,0,1,2,3] (by kernel_rfl) (by decide) (by decide) (fF ?_ (fF ?_ (fF ?_ (fF ?_ (fY (fY (fN ?_ (aB 7 0 6 (by decide) (trivial))))))))) [] (fun q hq=>by cases hq) (fun hY=>absurd (hY 6 (by decide)) (by decide))
     ·refine fJ [(39,_)] 2 [none] fun G a w S=>?_
      exact sLoadN (p:=ar) (off:=0) (T:=81) (vs:=[.int .u8 2,.bool false,iv 0,iv 0]) 4 [.int .u8 2,.bool false,iv 0,iv 0] S (wN d) d d d d d d d (lb d) fun a S=>leafL ⟨d,S⟩
     ·refine fJ [(240,_)] 3 [some 2] fun G a w S=>?_
      exact sBuild [(0,.int .u8 3),(1,.agg #[.int .u8 2,.bool false,iv 0,iv 0])] [.int .u8 3,.int .u8 2,.bool false,iv 0,iv 0] S (wN d) d d d d (lb d) fun a S=>leafL ⟨d,S⟩
     ·refine fJ [(39,_)] 4 [none] fun G a w S=>?_
      exact sLoadN (p:=ar) (off:=0) (T:=81) (vs:=[.int .u8 2,.bool false,iv 0,iv 0]) 4 [.int .u8 2,.bool false,iv 0,iv 0] S (wN d) d d d d d d d (lb d) fun a S=>leafL ⟨d,S⟩
     ·refine fJ [(242,_)] 5 [some 4] fun G a w S=>?_
      exact sBuild [(0,.int .u8 2),(1,.agg #[.int .u8 2,.bool false,iv 0,iv 0])] [.int .u8 2,.int .u8 2,.bool false,iv 0,iv 0] S (wN d) d d d d (lb d) fun a S=>leafL ⟨d,S⟩
     refine ⟨_,[(42,.pointer (some ⟨aq,0,none⟩)),(241,.agg #[.int .u8 3,.int .u8 2,.bool false,iv 0,iv 0])],d,(srcs_of [some 1,some 3] d d d),fun G a w S=>?_⟩
     refine sStore (p:=aq) (off:=0) (T:=83) (vs:=[.int .u8 0,.int .u8 0,.bool false,iv 0,iv 0]) (v:=.agg #[.int .u8 3,.int .u8 2,.bool false,iv 0,iv 0]) 1 [.int .u8 3,.int .u8 2,.bool false,iv 0,iv 0] S (wN d) d d d d d d d (by simp) d fun a w S=>leafL ⟨d,_,_,.inr ⟨[],d,S,hz_of d,?_⟩⟩
     refine node_by (A:=anc_raddlelaw46_CompareNames_2) 8 (by kernel_rfl) (by kernel_rfl) (by kernel_rfl) (by kernel_rfl) (by kernel_rfl) [5,4,0,1,2,3] (by kernel_rfl) (by decide) (by decide) (fD 6 (fD 6 (fF ?_ (fF ?_ (fY (fY (fY (fN ?_ (trivial))))))))) [] (fun q hq=>by cases hq) (fun hY=>absurd (hY 7 (by decide)) (by decide))
     ·refine fJ [(39,_)] 4 [none] fun G a w S=>?_
      exact sLoadN (p:=ar) (off:=0) (T:=81) (vs:=[.int .u8 2,.bool false,iv 0,iv 0]) 4 [.int .u8 2,.bool false,iv 0,iv 0] S (wN d) d d d d d d d (lb d) fun a S=>leafL ⟨d,S⟩
     ·refine fJ [(242,_)] 5 [some 4] fun G a w S=>?_
      exact sBuild [(0,.int .u8 2),(1,.agg #[.int .u8 2,.bool false,iv 0,iv 0])] [.int .u8 2,.int .u8 2,.bool false,iv 0,iv 0] S (wN d) d d d d (lb d) fun a S=>leafL ⟨d,S⟩
     refine ⟨_,[(43,.pointer (some ⟨ap,0,none⟩)),(243,.agg #[.int .u8 2,.int .u8 2,.bool false,iv 0,iv 0])],d,(srcs_of [some 0,some 5] d d d),fun G a w S=>?_⟩
     refine sStore (p:=ap) (off:=0) (T:=83) (vs:=[.int .u8 0,.int .u8 0,.bool false,iv 0,iv 0]) (v:=.agg #[.int .u8 2,.int .u8 2,.bool false,iv 0,iv 0]) 1 [.int .u8 2,.int .u8 2,.bool false,iv 0,iv 0] S (wN d) d d d d d d d (by simp) d fun a w S=>leafL ⟨d,_,_,.inr ⟨[],d,S,hz_of d,?_⟩⟩
     refine node_by (A:=anc_raddlelaw46_CompareNames_2) 8 (by kernel_rfl) (by kernel_rfl) (by kernel_rfl) (by kernel_rfl) (by kernel_rfl) [5,4,0,1,2,3] (by kernel_rfl) (by decide) (by decide) (fD 7 (fD 7 (fD 7 (fD 7 (fY (fY (fY (fY (trivial))))))))) [(37,.bool (b0.2 == 4)),(38,.pointer (some ⟨aC,0,none⟩)),(39,.pointer (some ⟨ar,0,none⟩)),(40,.pointer (some ⟨aO,0,none⟩)),(41,.pointer (some ⟨aG,0,none⟩)),(42,.pointer (some ⟨aq,0,none⟩)),(43,.pointer (some ⟨ap,0,none⟩))] (fin_of [none,none,none,none,none,some 1,some 0] d (by kernel_rfl) (by kernel_rfl)) (fun _ a w S=>?_)
     refine leafT (fZ _ _ ?_)
     refine sSeq (fun j0 g0=>sRegion ?_)
     obtain ⟨bO,el,h⟩:=bS h
     have hv_r161:bO=[(api_Stitch.mk 1 false 0 0),(api_Stitch.mk 1 true 0 0)]:=Option.some.inj (el.symm.trans (by exact kc_raddlelaw46_CompareNames_14))
     refine sCall (X:=Value) (f:=42) (vs:=[.string (⟨#[107,32,112]⟩:ByteArray)]) (val:=c_raddlelaw46_cells_val bO) (B':=fun _=>[]) (D':=c_raddlelaw46_cells_D bO) [] [eBox ap 83 [.int .u8 2,.int .u8 2,.bool false,iv 0,iv 0],eBox aq 83 [.int .u8 3,.int .u8 2,.bool false,iv 0,iv 0],eBox aG 83 [.int .u8 4,.int .u8 0,.bool false,iv 0,iv 0],eBox aO 83 [.int .u8 1,.int .u8 0,.bool false,iv 0,iv 0],eBox ar 81 [.int .u8 2,.bool false,iv 0,iv 0],eBox aC 81 [.int .u8 1,.bool false,iv 0,iv 0],eBox ay 33 [iv a0.2.2.1.X,iv a0.2.2.1.Y],eBox bw 33 [iv ao.2.2.1.X,iv ao.2.2.1.Y],eBox bk 33 [iv am.2.2.1.X,iv am.2.2.1.Y],eBox bg 33 [iv al.2.2.1.X,iv al.2.2.1.Y],eBox aQ 33 [iv a6.2.2.1.X,iv a6.2.2.1.Y],eBox aX 33 [iv af.2.2.1.X,iv af.2.2.1.Y],eBox aW 33 [iv ae.2.2.1.X,iv ae.2.2.1.Y],eBox aV 24 [iv a9.W,iv a9.H,.slice ag a9.Bits.length ah],eBox aP 24 [iv a2.W,iv a2.H,.slice ab a2.Bits.length ac],eBox aK 24 [iv 17,iv 1,.slice a7 aa.length a8],eBox az 24 [iv r3.W,iv r3.H,.slice a4 r3.Bits.length a5]] [] [0,1,2,3,4,5,6,7,8,9,10,11,12,13,14,15,16] [] S (wN d) d callee42 d (by decide) d d (fun E1 w1 S1=>c_raddlelaw46_cells E1 w1 (⟨#[107,32,112]⟩:ByteArray) bO el S1) d (lb d) fun gQ a w S=>?_
     obtain ⟨dt,du,_,rfl,_⟩:=S.mem.know (i:=0) (e:=fRep (rL r_api_Stitch) (gQ) bO) d
     obtain ⟨bP,em,h⟩:=bS h
     have hv_r166:bP=[(api_Stitch.mk 1 true 0 0),(api_Stitch.mk 2 false 0 0)]:=Option.some.inj (em.symm.trans (by exact kc_raddlelaw46_CompareNames_15))
     refine sCall (X:=Value) (f:=42) (vs:=[.string (⟨#[112,32,121,111]⟩:ByteArray)]) (val:=c_raddlelaw46_cells_val bP) (B':=fun _=>[]) (D':=c_raddlelaw46_cells_D bP) [] [eBox ap 83 [.int .u8 2,.int .u8 2,.bool false,iv 0,iv 0],eBox aq 83 [.int .u8 3,.int .u8 2,.bool false,iv 0,iv 0],eBox aG 83 [.int .u8 4,.int .u8 0,.bool false,iv 0,iv 0],eBox aO 83 [.int .u8 1,.int .u8 0,.bool false,iv 0,iv 0],eBox ar 81 [.int .u8 2,.bool false,iv 0,iv 0],eBox aC 81 [.int .u8 1,.bool false,iv 0,iv 0],eBox ay 33 [iv a0.2.2.1.X,iv a0.2.2.1.Y],eBox bw 33 [iv ao.2.2.1.X,iv ao.2.2.1.Y],eBox bk 33 [iv am.2.2.1.X,iv am.2.2.1.Y],eBox bg 33 [iv al.2.2.1.X,iv al.2.2.1.Y],eBox aQ 33 [iv a6.2.2.1.X,iv a6.2.2.1.Y],eBox aX 33 [iv af.2.2.1.X,iv af.2.2.1.Y],eBox aW 33 [iv ae.2.2.1.X,iv ae.2.2.1.Y],eBox aV 24 [iv a9.W,iv a9.H,.slice ag a9.Bits.length ah],eBox aP 24 [iv a2.W,iv a2.H,.slice ab a2.Bits.length ac],eBox aK 24 [iv 17,iv 1,.slice a7 aa.length a8],eBox az 24 [iv r3.W,iv r3.H,.slice a4 r3.Bits.length a5]] [] [0,1,2,3,4,5,6,7,8,9,10,11,12,13,14,15,16] [] S (wN d) d callee42 d (by decide) d d (fun E1 w1 S1=>c_raddlelaw46_cells E1 w1 (⟨#[112,32,121,111]⟩:ByteArray) bP em S1) d (lb d) fun gR a w S=>?_
     obtain ⟨dv,dw,_,rfl,_⟩:=S.mem.know (i:=0) (e:=fRep (rL r_api_Stitch) (gR) bP) d
     obtain ⟨aL,en,h⟩:=bS h
     have hv_r171:aL=([(api_CellStep.mk 2 (api_Stitch.mk 1 true 0 0)),(api_CellStep.mk 2 (api_Stitch.mk 2 false 0 0))],(2,0)):=Option.some.inj (en.symm.trans (by rw [hv_r161,hv_r166]; exact kc_raddlelaw46_CompareNames_16))
     refine sCall (X:=Value) (f:=23) (vs:=[.slice dt bO.length du,.slice dv bP.length dw]) (val:=c_compare_Edits_val aL) (B':=fun _=>[]) (D':=c_compare_Edits_D aL) [] [eBox ap 83 [.int .u8 2,.int .u8 2,.bool false,iv 0,iv 0],eBox aq 83 [.int .u8 3,.int .u8 2,.bool false,iv 0,iv 0],eBox aG 83 [.int .u8 4,.int .u8 0,.bool false,iv 0,iv 0],eBox aO 83 [.int .u8 1,.int .u8 0,.bool false,iv 0,iv 0],eBox ar 81 [.int .u8 2,.bool false,iv 0,iv 0],eBox aC 81 [.int .u8 1,.bool false,iv 0,iv 0],eBox ay 33 [iv a0.2.2.1.X,iv a0.2.2.1.Y],eBox bw 33 [iv ao.2.2.1.X,iv ao.2.2.1.Y],eBox bk 33 [iv am.2.2.1.X,iv am.2.2.1.Y],eBox bg 33 [iv al.2.2.1.X,iv al.2.2.1.Y],eBox aQ 33 [iv a6.2.2.1.X,iv a6.2.2.1.Y],eBox aX 33 [iv af.2.2.1.X,iv af.2.2.1.Y],eBox aW 33 [iv ae.2.2.1.X,iv ae.2.2.1.Y],eBox aV 24 [iv a9.W,iv a9.H,.slice ag a9.Bits.length ah],eBox aP 24 [iv a2.W,iv a2.H,.slice ab a2.Bits.length ac],eBox aK 24 [iv 17,iv 1,.slice a7 aa.length a8],eBox az 24 [iv r3.W,iv r3.H,.slice a4 r3.Bits.length a5]] [fRep (rL r_api_Stitch) (.slice dt bO.length du) bO,fRep (rL r_api_Stitch) (.slice dv bP.length dw) bP] [0,1,2,3,4,5,6,7,8,9,10,11,12,13,14,15,16] [1,0] S (wN d) d callee23 d (by decide) d d (fun E1 w1 S1=>c_compare_Edits E1 w1 bO (.slice dt bO.length du) bP (.slice dv bP.length dw) aL en S1) d (lb d) fun gS a w S=>?_
     obtain ⟨bE,bF,_,rfl,_⟩:=S.mem.know (i:=0) (e:=fRep (rL r_api_CellStep) (gS) aL.1) d
     refine sM S fun a S=>?_
     refine sExtract (vs:=[.slice bE aL.1.length bF,iv aL.2.1,iv aL.2.2]) (.slice bE aL.1.length bF) S (wN d) d d d d (lb d) fun a S=>sExtract (vs:=[.slice bE aL.1.length bF,iv aL.2.1,iv aL.2.2]) (iv aL.2.1) S (wN d) d d d d (lb d) fun a S=>sExtract (vs:=[.slice bE aL.1.length bF,iv aL.2.1,iv aL.2.2]) (iv aL.2.2) S (wN d) d d d d (lb d) fun a S=>sN S fun a S=>?_
     refine sN S fun a S=>?_
     refine sN S fun a S=>?_
     refine lT (g0 _ _ (sSeq (fun j1 g1=>sRegion ?_)))
     obtain ⟨aI,eo,h⟩:=bS h
     have hv_r177:aI=([],(0,0)):=Option.some.inj (eo.symm.trans (by exact kc_raddlelaw46_CompareNames_17))
     have S:=S.learn (fRep (rL r_api_Stitch) (.slice none 0 0) ([]:(List api_Stitch))) (rL_nil _ _ _)
     refine sCall (X:=Value) (f:=23) (vs:=[.slice none 0 0,.slice none 0 0]) (val:=c_compare_Edits_val aI) (B':=fun _=>[]) (D':=c_compare_Edits_D aI) [] [eBox ap 83 [.int .u8 2,.int .u8 2,.bool false,iv 0,iv 0],eBox aq 83 [.int .u8 3,.int .u8 2,.bool false,iv 0,iv 0],eBox aG 83 [.int .u8 4,.int .u8 0,.bool false,iv 0,iv 0],eBox aO 83 [.int .u8 1,.int .u8 0,.bool false,iv 0,iv 0],eBox ar 81 [.int .u8 2,.bool false,iv 0,iv 0],eBox aC 81 [.int .u8 1,.bool false,iv 0,iv 0],eBox ay 33 [iv a0.2.2.1.X,iv a0.2.2.1.Y],eBox bw 33 [iv ao.2.2.1.X,iv ao.2.2.1.Y],eBox bk 33 [iv am.2.2.1.X,iv am.2.2.1.Y],eBox bg 33 [iv al.2.2.1.X,iv al.2.2.1.Y],eBox aQ 33 [iv a6.2.2.1.X,iv a6.2.2.1.Y],eBox aX 33 [iv af.2.2.1.X,iv af.2.2.1.Y],eBox aW 33 [iv ae.2.2.1.X,iv ae.2.2.1.Y],eBox aV 24 [iv a9.W,iv a9.H,.slice ag a9.Bits.length ah],eBox aP 24 [iv a2.W,iv a2.H,.slice ab a2.Bits.length ac],eBox aK 24 [iv 17,iv 1,.slice a7 aa.length a8],eBox az 24 [iv r3.W,iv r3.H,.slice a4 r3.Bits.length a5]] [fRep (rL r_api_Stitch) (.slice none 0 0) ([]:(List api_Stitch)),fRep (rL r_api_Stitch) (.slice none 0 0) ([]:(List api_Stitch))] [0,1,2,3,4,5,6,7,8,9,10,11,12,13,14,15,16] [0,0] S (wN d) d callee23 d (by decide) d d (fun E1 w1 S1=>c_compare_Edits E1 w1 ([]:(List api_Stitch)) (.slice none 0 0) ([]:(List api_Stitch)) (.slice none 0 0) aI eo S1) d (lb d) fun gT a w S=>?_
     obtain ⟨bV,bW,_,rfl,_⟩:=S.mem.know (i:=0) (e:=fRep (rL r_api_CellStep) (gT) aI.1) d
     refine sM S fun a S=>?_
     refine sExtract (vs:=[.slice bV aI.1.length bW,iv aI.2.1,iv aI.2.2]) (.slice bV aI.1.length bW) S (wN d) d d d d (lb d) fun a S=>sExtract (vs:=[.slice bV aI.1.length bW,iv aI.2.1,iv aI.2.2]) (iv aI.2.1) S (wN d) d d d d (lb d) fun a S=>sExtract (vs:=[.slice bV aI.1.length bW,iv aI.2.1,iv aI.2.2]) (iv aI.2.2) S (wN d) d d d d (lb d) fun a S=>sN S fun a S=>?_
     refine sN S fun a S=>?_
     refine sN S fun a S=>?_
     refine lT (g1 _ _ (sSeq (fun j2 g2=>sRegion ?_)))
     obtain ⟨aJ,cS,h⟩:=bS h
     have hv_r183:aJ=[(api_Stitch.mk 1 false 0 0),(api_Stitch.mk 1 false 0 0)]:=Option.some.inj (cS.symm.trans (by exact kc_raddlelaw46_CompareNames_18))
     refine sCall (X:=Value) (f:=42) (vs:=[.string (⟨#[107,50]⟩:ByteArray)]) (val:=c_raddlelaw46_cells_val aJ) (B':=fun _=>[]) (D':=c_raddlelaw46_cells_D aJ) [] [eBox ap 83 [.int .u8 2,.int .u8 2,.bool false,iv 0,iv 0],eBox aq 83 [.int .u8 3,.int .u8 2,.bool false,iv 0,iv 0],eBox aG 83 [.int .u8 4,.int .u8 0,.bool false,iv 0,iv 0],eBox aO 83 [.int .u8 1,.int .u8 0,.bool false,iv 0,iv 0],eBox ar 81 [.int .u8 2,.bool false,iv 0,iv 0],eBox aC 81 [.int .u8 1,.bool false,iv 0,iv 0],eBox ay 33 [iv a0.2.2.1.X,iv a0.2.2.1.Y],eBox bw 33 [iv ao.2.2.1.X,iv ao.2.2.1.Y],eBox bk 33 [iv am.2.2.1.X,iv am.2.2.1.Y],eBox bg 33 [iv al.2.2.1.X,iv al.2.2.1.Y],eBox aQ 33 [iv a6.2.2.1.X,iv a6.2.2.1.Y],eBox aX 33 [iv af.2.2.1.X,iv af.2.2.1.Y],eBox aW 33 [iv ae.2.2.1.X,iv ae.2.2.1.Y],eBox aV 24 [iv a9.W,iv a9.H,.slice ag a9.Bits.length ah],eBox aP 24 [iv a2.W,iv a2.H,.slice ab a2.Bits.length ac],eBox aK 24 [iv 17,iv 1,.slice a7 aa.length a8],eBox az 24 [iv r3.W,iv r3.H,.slice a4 r3.Bits.length a5]] [] [0,1,2,3,4,5,6,7,8,9,10,11,12,13,14,15,16] [] S (wN d) d callee42 d (by decide) d d (fun E1 w1 S1=>c_raddlelaw46_cells E1 w1 (⟨#[107,50]⟩:ByteArray) aJ cS S1) d (lb d) fun gU a w S=>?_
     obtain ⟨dx,dy,_,rfl,_⟩:=S.mem.know (i:=0) (e:=fRep (rL r_api_Stitch) (gU) aJ) d
     obtain ⟨bQ,ep,h⟩:=bS h
     have hv_r188:bQ=[(api_Stitch.mk 2 false 0 0),(api_Stitch.mk 2 false 0 0),(api_Stitch.mk 2 false 0 0)]:=Option.some.inj (ep.symm.trans (by exact kc_raddlelaw46_CompareNames_19))
     refine sCall (X:=Value) (f:=42) (vs:=[.string (⟨#[121,111,32,121,111,32,121,111]⟩:ByteArray)]) (val:=c_raddlelaw46_cells_val bQ) (B':=fun _=>[]) (D':=c_raddlelaw46_cells_D bQ) [] [eBox ap 83 [.int .u8 2,.int .u8 2,.bool false,iv 0,iv 0],eBox aq 83 [.int .u8 3,.int .u8 2,.bool false,iv 0,iv 0],eBox aG 83 [.int .u8 4,.int .u8 0,.bool false,iv 0,iv 0],eBox aO 83 [.int .u8 1,.int .u8 0,.bool false,iv 0,iv 0],eBox ar 81 [.int .u8 2,.bool false,iv 0,iv 0],eBox aC 81 [.int .u8 1,.bool false,iv 0,iv 0],eBox ay 33 [iv a0.2.2.1.X,iv a0.2.2.1.Y],eBox bw 33 [iv ao.2.2.1.X,iv ao.2.2.1.Y],eBox bk 33 [iv am.2.2.1.X,iv am.2.2.1.Y],eBox bg 33 [iv al.2.2.1.X,iv al.2.2.1.Y],eBox aQ 33 [iv a6.2.2.1.X,iv a6.2.2.1.Y],eBox aX 33 [iv af.2.2.1.X,iv af.2.2.1.Y],eBox aW 33 [iv ae.2.2.1.X,iv ae.2.2.1.Y],eBox aV 24 [iv a9.W,iv a9.H,.slice ag a9.Bits.length ah],eBox aP 24 [iv a2.W,iv a2.H,.slice ab a2.Bits.length ac],eBox aK 24 [iv 17,iv 1,.slice a7 aa.length a8],eBox az 24 [iv r3.W,iv r3.H,.slice a4 r3.Bits.length a5]] [] [0,1,2,3,4,5,6,7,8,9,10,11,12,13,14,15,16] [] S (wN d) d callee42 d (by decide) d d (fun E1 w1 S1=>c_raddlelaw46_cells E1 w1 (⟨#[121,111,32,121,111,32,121,111]⟩:ByteArray) bQ ep S1) d (lb d) fun gV a w S=>?_
     obtain ⟨dz,dA,_,rfl,_⟩:=S.mem.know (i:=0) (e:=fRep (rL r_api_Stitch) (gV) bQ) d
     obtain ⟨aH,eq,h⟩:=bS h
     have hv_r193:aH=([(api_CellStep.mk 2 (api_Stitch.mk 2 false 0 0)),(api_CellStep.mk 2 (api_Stitch.mk 2 false 0 0)),(api_CellStep.mk 3 (api_Stitch.mk 2 false 0 0))],(3,0)):=Option.some.inj (eq.symm.trans (by rw [hv_r183,hv_r188]; exact kc_raddlelaw46_CompareNames_20))
     refine sCall (X:=Value) (f:=23) (vs:=[.slice dx aJ.length dy,.slice dz bQ.length dA]) (val:=c_compare_Edits_val aH) (B':=fun _=>[]) (D':=c_compare_Edits_D aH) [] [eBox ap 83 [.int .u8 2,.int .u8 2,.bool false,iv 0,iv 0],eBox aq 83 [.int .u8 3,.int .u8 2,.bool false,iv 0,iv 0],eBox aG 83 [.int .u8 4,.int .u8 0,.bool false,iv 0,iv 0],eBox aO 83 [.int .u8 1,.int .u8 0,.bool false,iv 0,iv 0],eBox ar 81 [.int .u8 2,.bool false,iv 0,iv 0],eBox aC 81 [.int .u8 1,.bool false,iv 0,iv 0],eBox ay 33 [iv a0.2.2.1.X,iv a0.2.2.1.Y],eBox bw 33 [iv ao.2.2.1.X,iv ao.2.2.1.Y],eBox bk 33 [iv am.2.2.1.X,iv am.2.2.1.Y],eBox bg 33 [iv al.2.2.1.X,iv al.2.2.1.Y],eBox aQ 33 [iv a6.2.2.1.X,iv a6.2.2.1.Y],eBox aX 33 [iv af.2.2.1.X,iv af.2.2.1.Y],eBox aW 33 [iv ae.2.2.1.X,iv ae.2.2.1.Y],eBox aV 24 [iv a9.W,iv a9.H,.slice ag a9.Bits.length ah],eBox aP 24 [iv a2.W,iv a2.H,.slice ab a2.Bits.length ac],eBox aK 24 [iv 17,iv 1,.slice a7 aa.length a8],eBox az 24 [iv r3.W,iv r3.H,.slice a4 r3.Bits.length a5]] [fRep (rL r_api_Stitch) (.slice dx aJ.length dy) aJ,fRep (rL r_api_Stitch) (.slice dz bQ.length dA) bQ] [0,1,2,3,4,5,6,7,8,9,10,11,12,13,14,15,16] [1,0] S (wN d) d callee23 d (by decide) d d (fun E1 w1 S1=>c_compare_Edits E1 w1 aJ (.slice dx aJ.length dy) bQ (.slice dz bQ.length dA) aH eq S1) d (lb d) fun gW a w S=>?_
     obtain ⟨bG,bH,_,rfl,_⟩:=S.mem.know (i:=0) (e:=fRep (rL r_api_CellStep) (gW) aH.1) d
     refine sM S fun a S=>?_
     refine sExtract (vs:=[.slice bG aH.1.length bH,iv aH.2.1,iv aH.2.2]) (.slice bG aH.1.length bH) S (wN d) d d d d (lb d) fun a S=>sExtract (vs:=[.slice bG aH.1.length bH,iv aH.2.1,iv aH.2.2]) (iv aH.2.1) S (wN d) d d d d (lb d) fun a S=>sExtract (vs:=[.slice bG aH.1.length bH,iv aH.2.1,iv aH.2.2]) (iv aH.2.2) S (wN d) d d d d (lb d) fun a S=>sN S fun a S=>?_
     refine sN S fun a S=>?_
     refine sN S fun a S=>?_
     refine lT (g2 _ _ (sSeq (fun j3 g3=>sRegion (sLoadN (p:=aC) (off:=0) (T:=81) (vs:=[.int .u8 1,.bool false,iv 0,iv 0]) 5 [.int .u8 1,.bool false,iv 0,iv 0] S (wN d) d d d d d d d (lb d) fun a S=>?_))))
     have S:=S.learn (fRep r_api_Stitch (.agg #[.int .u8 1,.bool false,iv 0,iv 0]) (api_Stitch.mk 1 false 0 0)) d
     refine sLit (r:=r_api_Stitch) (T:=81) (xs:=[(api_Stitch.mk 1 false 0 0)]) [(0,.agg #[.int .u8 1,.bool false,iv 0,iv 0])] 1 [.agg #[.int .u8 1,.bool false,iv 0,iv 0]] [.int .u8 1,.bool false,iv 0,iv 0] (.agg #[.int .u8 0,.bool false,iv 0,iv 0]) 24 S (wN d) d d Try.underlying47 d (by decide) (by decide) (by kernel_rfl) d (fun E1 w1 hE=>All.cons (r_api_Stitch.mono hE (S.mem.know (i:=0) (e:=fRep r_api_Stitch (.agg #[.int .u8 1,.bool false,iv 0,iv 0]) (api_Stitch.mk 1 false 0 0)) d)) (All.nil _ _ _)) d d (lb d) fun a w aw ax S=>?_
     refine sN S fun a S=>?_
     refine lT (g3 _ _ (sSeq (fun j4 ga=>sRegion (sM S fun a S=>?_))))
     obtain ⟨bZ,er,h⟩:=bS h
     have hv_m204:bZ=[(api_CellStep.mk 0 (api_Stitch.mk 0 false 0 0)),(api_CellStep.mk 0 (api_Stitch.mk 0 false 0 0)),(api_CellStep.mk 0 (api_Stitch.mk 0 false 0 0)),(api_CellStep.mk 0 (api_Stitch.mk 0 false 0 0)),(api_CellStep.mk 0 (api_Stitch.mk 0 false 0 0)),(api_CellStep.mk 0 (api_Stitch.mk 0 false 0 0)),(api_CellStep.mk 0 (api_Stitch.mk 0 false 0 0)),(api_CellStep.mk 0 (api_Stitch.mk 0 false 0 0)),(api_CellStep.mk 0 (api_Stitch.mk 0 false 0 0)),(api_CellStep.mk 0 (api_Stitch.mk 0 false 0 0)),(api_CellStep.mk 0 (api_Stitch.mk 0 false 0 0)),(api_CellStep.mk 0 (api_Stitch.mk 0 false 0 0)),(api_CellStep.mk 0 (api_Stitch.mk 0 false 0 0)),(api_CellStep.mk 0 (api_Stitch.mk 0 false 0 0)),(api_CellStep.mk 0 (api_Stitch.mk 0 false 0 0)),(api_CellStep.mk 0 (api_Stitch.mk 0 false 0 0)),(api_CellStep.mk 0 (api_Stitch.mk 0 false 0 0)),(api_CellStep.mk 0 (api_Stitch.mk 0 false 0 0)),(api_CellStep.mk 0 (api_Stitch.mk 0 false 0 0)),(api_CellStep.mk 0 (api_Stitch.mk 0 false 0 0)),(api_CellStep.mk 0 (api_Stitch.mk 0 false 0 0)),(api_CellStep.mk 0 (api_Stitch.mk 0 false 0 0)),(api_CellStep.mk 0 (api_Stitch.mk 0 false 0 0)),(api_CellStep.mk 0 (api_Stitch.mk 0 false 0 0)),(api_CellStep.mk 0 (api_Stitch.mk 0 false 0 0)),(api_CellStep.mk 0 (api_Stitch.mk 0 false 0 0)),(api_CellStep.mk 0 (api_Stitch.mk 0 false 0 0)),(api_CellStep.mk 0 (api_Stitch.mk 0 false 0 0)),(api_CellStep.mk 0 (api_Stitch.mk 0 false 0 0)),(api_CellStep.mk 0 (api_Stitch.mk 0 false 0 0)),(api_CellStep.mk 0 (api_Stitch.mk 0 false 0 0)),(api_CellStep.mk 0 (api_Stitch.mk 0 false 0 0)),(api_CellStep.mk 0 (api_Stitch.mk 0 false 0 0)),(api_CellStep.mk 0 (api_Stitch.mk 0 false 0 0)),(api_CellStep.mk 0 (api_Stitch.mk 0 false 0 0)),(api_CellStep.mk 0 (api_Stitch.mk 0 false 0 0)),(api_CellStep.mk 0 (api_Stitch.mk 0 false 0 0)),(api_CellStep.mk 0 (api_Stitch.mk 0 false 0 0)),(api_CellStep.mk 0 (api_Stitch.mk 0 false 0 0)),(api_CellStep.mk 0 (api_Stitch.mk 0 false 0 0)),(api_CellStep.mk 0 (api_Stitch.mk 0 false 0 0)),(api_CellStep.mk 0 (api_Stitch.mk 0 false 0 0)),(api_CellStep.mk 0 (api_Stitch.mk 0 false 0 0)),(api_CellStep.mk 0 (api_Stitch.mk 0 false 0 0)),(api_CellStep.mk 0 (api_Stitch.mk 0 false 0 0)),(api_CellStep.mk 0 (api_Stitch.mk 0 false 0 0)),(api_CellStep.mk 0 (api_Stitch.mk 0 false 0 0)),(api_CellStep.mk 0 (api_Stitch.mk 0 false 0 0)),(api_CellStep.mk 0 (api_Stitch.mk 0 false 0 0)),(api_CellStep.mk 0 (api_Stitch.mk 0 false 0 0)),(api_CellStep.mk 0 (api_Stitch.mk 0 false 0 0)),(api_CellStep.mk 0 (api_Stitch.mk 0 false 0 0)),(api_CellStep.mk 0 (api_Stitch.mk 0 false 0 0)),(api_CellStep.mk 0 (api_Stitch.mk 0 false 0 0)),(api_CellStep.mk 0 (api_Stitch.mk 0 false 0 0)),(api_CellStep.mk 0 (api_Stitch.mk 0 false 0 0)),(api_CellStep.mk 0 (api_Stitch.mk 0 false 0 0)),(api_CellStep.mk 0 (api_Stitch.mk 0 false 0 0)),(api_CellStep.mk 0 (api_Stitch.mk 0 false 0 0)),(api_CellStep.mk 0 (api_Stitch.mk 0 false 0 0)),(api_CellStep.mk 0 (api_Stitch.mk 0 false 0 0)),(api_CellStep.mk 0 (api_Stitch.mk 0 false 0 0)),(api_CellStep.mk 0 (api_Stitch.mk 0 false 0 0)),(api_CellStep.mk 0 (api_Stitch.mk 0 false 0 0)),(api_CellStep.mk 0 (api_Stitch.mk 0 false 0 0)),(api_CellStep.mk 0 (api_Stitch.mk 0 false 0 0)),(api_CellStep.mk 0 (api_Stitch.mk 0 false 0 0)),(api_CellStep.mk 0 (api_Stitch.mk 0 false 0 0)),(api_CellStep.mk 0 (api_Stitch.mk 0 false 0 0)),(api_CellStep.mk 0 (api_Stitch.mk 0 false 0 0)),(api_CellStep.mk 0 (api_Stitch.mk 0 false 0 0)),(api_CellStep.mk 0 (api_Stitch.mk 0 false 0 0)),(api_CellStep.mk 0 (api_Stitch.mk 0 false 0 0)),(api_CellStep.mk 0 (api_Stitch.mk 0 false 0 0)),(api_CellStep.mk 0 (api_Stitch.mk 0 false 0 0)),(api_CellStep.mk 0 (api_Stitch.mk 0 false 0 0)),(api_CellStep.mk 0 (api_Stitch.mk 0 false 0 0)),(api_CellStep.mk 0 (api_Stitch.mk 0 false 0 0)),(api_CellStep.mk 0 (api_Stitch.mk 0 false 0 0)),(api_CellStep.mk 0 (api_Stitch.mk 0 false 0 0)),(api_CellStep.mk 0 (api_Stitch.mk 0 false 0 0)),(api_CellStep.mk 0 (api_Stitch.mk 0 false 0 0)),(api_CellStep.mk 0 (api_Stitch.mk 0 false 0 0)),(api_CellStep.mk 0 (api_Stitch.mk 0 false 0 0)),(api_CellStep.mk 0 (api_Stitch.mk 0 false 0 0)),(api_CellStep.mk 0 (api_Stitch.mk 0 false 0 0)),(api_CellStep.mk 0 (api_Stitch.mk 0 false 0 0)),(api_CellStep.mk 0 (api_Stitch.mk 0 false 0 0)),(api_CellStep.mk 0 (api_Stitch.mk 0 false 0 0)),(api_CellStep.mk 0 (api_Stitch.mk 0 false 0 0)),(api_CellStep.mk 0 (api_Stitch.mk 0 false 0 0)),(api_CellStep.mk 0 (api_Stitch.mk 0 false 0 0)),(api_CellStep.mk 0 (api_Stitch.mk 0 false 0 0)),(api_CellStep.mk 0 (api_Stitch.mk 0 false 0 0)),(api_CellStep.mk 0 (api_Stitch.mk 0 false 0 0)),(api_CellStep.mk 0 (api_Stitch.mk 0 false 0 0)),(api_CellStep.mk 0 (api_Stitch.mk 0 false 0 0)),(api_CellStep.mk 0 (api_Stitch.mk 0 false 0 0)),(api_CellStep.mk 0 (api_Stitch.mk 0 false 0 0)),(api_CellStep.mk 0 (api_Stitch.mk 0 false 0 0)),(api_CellStep.mk 0 (api_Stitch.mk 0 false 0 0)),(api_CellStep.mk 0 (api_Stitch.mk 0 false 0 0)),(api_CellStep.mk 0 (api_Stitch.mk 0 false 0 0)),(api_CellStep.mk 0 (api_Stitch.mk 0 false 0 0)),(api_CellStep.mk 0 (api_Stitch.mk 0 false 0 0)),(api_CellStep.mk 0 (api_Stitch.mk 0 false 0 0)),(api_CellStep.mk 0 (api_Stitch.mk 0 false 0 0)),(api_CellStep.mk 0 (api_Stitch.mk 0 false 0 0)),(api_CellStep.mk 0 (api_Stitch.mk 0 false 0 0)),(api_CellStep.mk 0 (api_Stitch.mk 0 false 0 0)),(api_CellStep.mk 0 (api_Stitch.mk 0 false 0 0)),(api_CellStep.mk 0 (api_Stitch.mk 0 false 0 0)),(api_CellStep.mk 0 (api_Stitch.mk 0 false 0 0)),(api_CellStep.mk 0 (api_Stitch.mk 0 false 0 0)),(api_CellStep.mk 0 (api_Stitch.mk 0 false 0 0)),(api_CellStep.mk 0 (api_Stitch.mk 0 false 0 0)),(api_CellStep.mk 0 (api_Stitch.mk 0 false 0 0)),(api_CellStep.mk 0 (api_Stitch.mk 0 false 0 0)),(api_CellStep.mk 0 (api_Stitch.mk 0 false 0 0)),(api_CellStep.mk 0 (api_Stitch.mk 0 false 0 0)),(api_CellStep.mk 0 (api_Stitch.mk 0 false 0 0)),(api_CellStep.mk 0 (api_Stitch.mk 0 false 0 0)),(api_CellStep.mk 0 (api_Stitch.mk 0 false 0 0)),(api_CellStep.mk 0 (api_Stitch.mk 0 false 0 0)),(api_CellStep.mk 0 (api_Stitch.mk 0 false 0 0)),(api_CellStep.mk 0 (api_Stitch.mk 0 false 0 0)),(api_CellStep.mk 0 (api_Stitch.mk 0 false 0 0)),(api_CellStep.mk 0 (api_Stitch.mk 0 false 0 0)),(api_CellStep.mk 0 (api_Stitch.mk 0 false 0 0)),(api_CellStep.mk 0 (api_Stitch.mk 0 false 0 0)),(api_CellStep.mk 0 (api_Stitch.mk 0 false 0 0)),(api_CellStep.mk 0 (api_Stitch.mk 0 false 0 0)),(api_CellStep.mk 0 (api_Stitch.mk 0 false 0 0)),(api_CellStep.mk 0 (api_Stitch.mk 0 false 0 0)),(api_CellStep.mk 0 (api_Stitch.mk 0 false 0 0)),(api_CellStep.mk 0 (api_Stitch.mk 0 false 0 0)),(api_CellStep.mk 0 (api_Stitch.mk 0 false 0 0)),(api_CellStep.mk 0 (api_Stitch.mk 0 false 0 0)),(api_CellStep.mk 0 (api_Stitch.mk 0 false 0 0)),(api_CellStep.mk 0 (api_Stitch.mk 0 false 0 0)),(api_CellStep.mk 0 (api_Stitch.mk 0 false 0 0)),(api_CellStep.mk 0 (api_Stitch.mk 0 false 0 0)),(api_CellStep.mk 0 (api_Stitch.mk 0 false 0 0)),(api_CellStep.mk 0 (api_Stitch.mk 0 false 0 0)),(api_CellStep.mk 0 (api_Stitch.mk 0 false 0 0)),(api_CellStep.mk 0 (api_Stitch.mk 0 false 0 0)),(api_CellStep.mk 0 (api_Stitch.mk 0 false 0 0)),(api_CellStep.mk 0 (api_Stitch.mk 0 false 0 0)),(api_CellStep.mk 0 (api_Stitch.mk 0 false 0 0)),(api_CellStep.mk 0 (api_Stitch.mk 0 false 0 0)),(api_CellStep.mk 0 (api_Stitch.mk 0 false 0 0)),(api_CellStep.mk 0 (api_Stitch.mk 0 false 0 0)),(api_CellStep.mk 0 (api_Stitch.mk 0 false 0 0)),(api_CellStep.mk 0 (api_Stitch.mk 0 false 0 0)),(api_CellStep.mk 0 (api_Stitch.mk 0 false 0 0)),(api_CellStep.mk 0 (api_Stitch.mk 0 false 0 0)),(api_CellStep.mk 0 (api_Stitch.mk 0 false 0 0)),(api_CellStep.mk 0 (api_Stitch.mk 0 false 0 0)),(api_CellStep.mk 0 (api_Stitch.mk 0 false 0 0)),(api_CellStep.mk 0 (api_Stitch.mk 0 false 0 0)),(api_CellStep.mk 0 (api_Stitch.mk 0 false 0 0)),(api_CellStep.mk 0 (api_Stitch.mk 0 false 0 0)),(api_CellStep.mk 0 (api_Stitch.mk 0 false 0 0)),(api_CellStep.mk 0 (api_Stitch.mk 0 false 0 0)),(api_CellStep.mk 0 (api_Stitch.mk 0 false 0 0)),(api_CellStep.mk 0 (api_Stitch.mk 0 false 0 0)),(api_CellStep.mk 0 (api_Stitch.mk 0 false 0 0)),(api_CellStep.mk 0 (api_Stitch.mk 0 false 0 0)),(api_CellStep.mk 0 (api_Stitch.mk 0 false 0 0)),(api_CellStep.mk 0 (api_Stitch.mk 0 false 0 0)),(api_CellStep.mk 0 (api_Stitch.mk 0 false 0 0)),(api_CellStep.mk 0 (api_Stitch.mk 0 false 0 0)),(api_CellStep.mk 0 (api_Stitch.mk 0 false 0 0)),(api_CellStep.mk 0 (api_Stitch.mk 0 false 0 0)),(api_CellStep.mk 0 (api_Stitch.mk 0 false 0 0)),(api_CellStep.mk 0 (api_Stitch.mk 0 false 0 0)),(api_CellStep.mk 0 (api_Stitch.mk 0 false 0 0)),(api_CellStep.mk 0 (api_Stitch.mk 0 false 0 0)),(api_CellStep.mk 0 (api_Stitch.mk 0 false 0 0)),(api_CellStep.mk 0 (api_Stitch.mk 0 false 0 0)),(api_CellStep.mk 0 (api_Stitch.mk 0 false 0 0)),(api_CellStep.mk 0 (api_Stitch.mk 0 false 0 0)),(api_CellStep.mk 0 (api_Stitch.mk 0 false 0 0)),(api_CellStep.mk 0 (api_Stitch.mk 0 false 0 0)),(api_CellStep.mk 0 (api_Stitch.mk 0 false 0 0)),(api_CellStep.mk 0 (api_Stitch.mk 0 false 0 0)),(api_CellStep.mk 0 (api_Stitch.mk 0 false 0 0)),(api_CellStep.mk 0 (api_Stitch.mk 0 false 0 0)),(api_CellStep.mk 0 (api_Stitch.mk 0 false 0 0)),(api_CellStep.mk 0 (api_Stitch.mk 0 false 0 0)),(api_CellStep.mk 0 (api_Stitch.mk 0 false 0 0)),(api_CellStep.mk 0 (api_Stitch.mk 0 false 0 0)),(api_CellStep.mk 0 (api_Stitch.mk 0 false 0 0)),(api_CellStep.mk 0 (api_Stitch.mk 0 false 0 0)),(api_CellStep.mk 0 (api_Stitch.mk 0 false 0 0)),(api_CellStep.mk 0 (api_Stitch.mk 0 false 0 0)),(api_CellStep.mk 0 (api_Stitch.mk 0 false 0 0)),(api_CellStep.mk 0 (api_Stitch.mk 0 false 0 0)),(api_CellStep.mk 0 (api_Stitch.mk 0 false 0 0)),(api_CellStep.mk 0 (api_Stitch.mk 0 false 0 0)),(api_CellStep.mk 0 (api_Stitch.mk 0 false 0 0)),(api_CellStep.mk 0 (api_Stitch.mk 0 false 0 0)),(api_CellStep.mk 0 (api_Stitch.mk 0 false 0 0)),(api_CellStep.mk 0 (api_Stitch.mk 0 false 0 0)),(api_CellStep.mk 0 (api_Stitch.mk 0 false 0 0)),(api_CellStep.mk 0 (api_Stitch.mk 0 false 0 0)),(api_CellStep.mk 0 (api_Stitch.mk 0 false 0 0)),(api_CellStep.mk 0 (api_Stitch.mk 0 false 0 0)),(api_CellStep.mk 0 (api_Stitch.mk 0 false 0 0)),(api_CellStep.mk 0 (api_Stitch.mk 0 false 0 0)),(api_CellStep.mk 0 (api_Stitch.mk 0 false 0 0)),(api_CellStep.mk 0 (api_Stitch.mk 0 false 0 0)),(api_CellStep.mk 0 (api_Stitch.mk 0 false 0 0)),(api_CellStep.mk 0 (api_Stitch.mk 0 false 0 0)),(api_CellStep.mk 0 (api_Stitch.mk 0 false 0 0)),(api_CellStep.mk 0 (api_Stitch.mk 0 false 0 0)),(api_CellStep.mk 0 (api_Stitch.mk 0 false 0 0)),(api_CellStep.mk 0 (api_Stitch.mk 0 false 0 0)),(api_CellStep.mk 0 (api_Stitch.mk 0 false 0 0)),(api_CellStep.mk 0 (api_Stitch.mk 0 false 0 0)),(api_CellStep.mk 0 (api_Stitch.mk 0 false 0 0)),(api_CellStep.mk 0 (api_Stitch.mk 0 false 0 0)),(api_CellStep.mk 0 (api_Stitch.mk 0 false 0 0)),(api_CellStep.mk 0 (api_Stitch.mk 0 false 0 0)),(api_CellStep.mk 0 (api_Stitch.mk 0 false 0 0)),(api_CellStep.mk 0 (api_Stitch.mk 0 false 0 0)),(api_CellStep.mk 0 (api_Stitch.mk 0 false 0 0)),(api_CellStep.mk 0 (api_Stitch.mk 0 false 0 0)),(api_CellStep.mk 0 (api_Stitch.mk 0 false 0 0)),(api_CellStep.mk 0 (api_Stitch.mk 0 false 0 0)),(api_CellStep.mk 0 (api_Stitch.mk 0 false 0 0)),(api_CellStep.mk 0 (api_Stitch.mk 0 false 0 0)),(api_CellStep.mk 0 (api_Stitch.mk 0 false 0 0)),(api_CellStep.mk 0 (api_Stitch.mk 0 false 0 0)),(api_CellStep.mk 0 (api_Stitch.mk 0 false 0 0)),(api_CellStep.mk 0 (api_Stitch.mk 0 false 0 0)),(api_CellStep.mk 0 (api_Stitch.mk 0 false 0 0)),(api_CellStep.mk 0 (api_Stitch.mk 0 false 0 0)),(api_CellStep.mk 0 (api_Stitch.mk 0 false 0 0)),(api_CellStep.mk 0 (api_Stitch.mk 0 false 0 0)),(api_CellStep.mk 0 (api_Stitch.mk 0 false 0 0)),(api_CellStep.mk 0 (api_Stitch.mk 0 false 0 0)),(api_CellStep.mk 0 (api_Stitch.mk 0 false 0 0)),(api_CellStep.mk 0 (api_Stitch.mk 0 false 0 0)),(api_CellStep.mk 0 (api_Stitch.mk 0 false 0 0)),(api_CellStep.mk 0 (api_Stitch.mk 0 false 0 0)),(api_CellStep.mk 0 (api_Stitch.mk 0 false 0 0)),(api_CellStep.mk 0 (api_Stitch.mk 0 false 0 0)),(api_CellStep.mk 0 (api_Stitch.mk 0 false 0 0)),(api_CellStep.mk 0 (api_Stitch.mk 0 false 0 0)),(api_CellStep.mk 0 (api_Stitch.mk 0 false 0 0)),(api_CellStep.mk 0 (api_Stitch.mk 0 false 0 0)),(api_CellStep.mk 0 (api_Stitch.mk 0 false 0 0)),(api_CellStep.mk 0 (api_Stitch.mk 0 false 0 0)),(api_CellStep.mk 0 (api_Stitch.mk 0 false 0 0)),(api_CellStep.mk 0 (api_Stitch.mk 0 false 0 0)),(api_CellStep.mk 0 (api_Stitch.mk 0 false 0 0)),(api_CellStep.mk 0 (api_Stitch.mk 0 false 0 0)),(api_CellStep.mk 0 (api_Stitch.mk 0 false 0 0)),(api_CellStep.mk 0 (api_Stitch.mk 0 false 0 0)),(api_CellStep.mk 0 (api_Stitch.mk 0 false 0 0)),(api_CellStep.mk 0 (api_Stitch.mk 0 false 0 0)),(api_CellStep.mk 0 (api_Stitch.mk 0 false 0 0)),(api_CellStep.mk 0 (api_Stitch.mk 0 false 0 0)),(api_CellStep.mk 0 (api_Stitch.mk 0 false 0 0)),(api_CellStep.mk 0 (api_Stitch.mk 0 false 0 0)),(api_CellStep.mk 0 (api_Stitch.mk 0 false 0 0)),(api_CellStep.mk 0 (api_Stitch.mk 0 false 0 0)),(api_CellStep.mk 0 (api_Stitch.mk 0 false 0 0)),(api_CellStep.mk 0 (api_Stitch.mk 0 false 0 0)),(api_CellStep.mk 0 (api_Stitch.mk 0 false 0 0)),(api_CellStep.mk 0 (api_Stitch.mk 0 false 0 0)),(api_CellStep.mk 0 (api_Stitch.mk 0 false 0 0)),(api_CellStep.mk 0 (api_Stitch.mk 0 false 0 0)),(api_CellStep.mk 0 (api_Stitch.mk 0 false 0 0)),(api_CellStep.mk 0 (api_Stitch.mk 0 false 0 0)),(api_CellStep.mk 0 (api_Stitch.mk 0 false 0 0)),(api_CellStep.mk 0 (api_Stitch.mk 0 false 0 0)),(api_CellStep.mk 0 (api_Stitch.mk 0 false 0 0)),(api_CellStep.mk 0 (api_Stitch.mk 0 false 0 0)),(api_CellStep.mk 0 (api_Stitch.mk 0 false 0 0)),(api_CellStep.mk 0 (api_Stitch.mk 0 false 0 0)),(api_CellStep.mk 0 (api_Stitch.mk 0 false 0 0)),(api_CellStep.mk 0 (api_Stitch.mk 0 false 0 0)),(api_CellStep.mk 0 (api_Stitch.mk 0 false 0 0)),(api_CellStep.mk 0 (api_Stitch.mk 0 false 0 0)),(api_CellStep.mk 0 (api_Stitch.mk 0 false 0 0)),(api_CellStep.mk 0 (api_Stitch.mk 0 false 0 0)),(api_CellStep.mk 0 (api_Stitch.mk 0 false 0 0)),(api_CellStep.mk 0 (api_Stitch.mk 0 false 0 0)),(api_CellStep.mk 0 (api_Stitch.mk 0 false 0 0)),(api_CellStep.mk 0 (api_Stitch.mk 0 false 0 0)),(api_CellStep.mk 0 (api_Stitch.mk 0 false 0 0)),(api_CellStep.mk 0 (api_Stitch.mk 0 false 0 0)),(api_CellStep.mk 0 (api_Stitch.mk 0 false 0 0)),(api_CellStep.mk 0 (api_Stitch.mk 0 false 0 0)),(api_CellStep.mk 0 (api_Stitch.mk 0 false 0 0)),(api_CellStep.mk 0 (api_Stitch.mk 0 false 0 0)),(api_CellStep.mk 0 (api_Stitch.mk 0 false 0 0)),(api_CellStep.mk 0 (api_Stitch.mk 0 false 0 0)),(api_CellStep.mk 0 (api_Stitch.mk 0 false 0 0)),(api_CellStep.mk 0 (api_Stitch.mk 0 false 0 0)),(api_CellStep.mk 0 (api_Stitch.mk 0 false 0 0)),(api_CellStep.mk 0 (api_Stitch.mk 0 false 0 0)),(api_CellStep.mk 0 (api_Stitch.mk 0 false 0 0)),(api_CellStep.mk 0 (api_Stitch.mk 0 false 0 0)),(api_CellStep.mk 0 (api_Stitch.mk 0 false 0 0)),(api_CellStep.mk 0 (api_Stitch.mk 0 false 0 0)),(api_CellStep.mk 0 (api_Stitch.mk 0 false 0 0)),(api_CellStep.mk 0 (api_Stitch.mk 0 false 0 0)),(api_CellStep.mk 0 (api_Stitch.mk 0 false 0 0)),(api_CellStep.mk 0 (api_Stitch.mk 0 false 0 0)),(api_CellStep.mk 0 (api_Stitch.mk 0 false 0 0)),(api_CellStep.mk 0 (api_Stitch.mk 0 false 0 0)),(api_CellStep.mk 0 (api_Stitch.mk 0 false 0 0)),(api_CellStep.mk 0 (api_Stitch.mk 0 false 0 0)),(api_CellStep.mk 0 (api_Stitch.mk 0 false 0 0)),(api_CellStep.mk 0 (api_Stitch.mk 0 false 0 0)),(api_CellStep.mk 0 (api_Stitch.mk 0 false 0 0)),(api_CellStep.mk 0 (api_Stitch.mk 0 false 0 0)),(api_CellStep.mk 0 (api_Stitch.mk 0 false 0 0)),(api_CellStep.mk 0 (api_Stitch.mk 0 false 0 0)),(api_CellStep.mk 0 (api_Stitch.mk 0 false 0 0)),(api_CellStep.mk 0 (api_Stitch.mk 0 false 0 0)),(api_CellStep.mk 0 (api_Stitch.mk 0 false 0 0)),(api_CellStep.mk 0 (api_Stitch.mk 0 false 0 0)),(api_CellStep.mk 0 (api_Stitch.mk 0 false 0 0)),(api_CellStep.mk 0 (api_Stitch.mk 0 false 0 0)),(api_CellStep.mk 0 (api_Stitch.mk 0 false 0 0)),(api_CellStep.mk 0 (api_Stitch.mk 0 false 0 0)),(api_CellStep.mk 0 (api_Stitch.mk 0 false 0 0)),(api_CellStep.mk 0 (api_Stitch.mk 0 false 0 0)),(api_CellStep.mk 0 (api_Stitch.mk 0 false 0 0)),(api_CellStep.mk 0 (api_Stitch.mk 0 false 0 0)),(api_CellStep.mk 0 (api_Stitch.mk 0 false 0 0)),(api_CellStep.mk 0 (api_Stitch.mk 0 false 0 0)),(api_CellStep.mk 0 (api_Stitch.mk 0 false 0 0)),(api_CellStep.mk 0 (api_Stitch.mk 0 false 0 0)),(api_CellStep.mk 0 (api_Stitch.mk 0 false 0 0)),(api_CellStep.mk 0 (api_Stitch.mk 0 false 0 0)),(api_CellStep.mk 0 (api_Stitch.mk 0 false 0 0)),(api_CellStep.mk 0 (api_Stitch.mk 0 false 0 0)),(api_CellStep.mk 0 (api_Stitch.mk 0 false 0 0)),(api_CellStep.mk 0 (api_Stitch.mk 0 false 0 0)),(api_CellStep.mk 0 (api_Stitch.mk 0 false 0 0)),(api_CellStep.mk 0 (api_Stitch.mk 0 false 0 0)),(api_CellStep.mk 0 (api_Stitch.mk 0 false 0 0)),(api_CellStep.mk 0 (api_Stitch.mk 0 false 0 0)),(api_CellStep.mk 0 (api_Stitch.mk 0 false 0 0)),(api_CellStep.mk 0 (api_Stitch.mk 0 false 0 0)),(api_CellStep.mk 0 (api_Stitch.mk 0 false 0 0)),(api_CellStep.mk 0 (api_Stitch.mk 0 false 0 0)),(api_CellStep.mk 0 (api_Stitch.mk 0 false 0 0)),(api_CellStep.mk 0 (api_Stitch.mk 0 false 0 0)),(api_CellStep.mk 0 (api_Stitch.mk 0 false 0 0)),(api_CellStep.mk 0 (api_Stitch.mk 0 false 0 0)),(api_CellStep.mk 0 (api_Stitch.mk 0 false 0 0)),(api_CellStep.mk 0 (api_Stitch.mk 0 false 0 0)),(api_CellStep.mk 0 (api_Stitch.mk 0 false 0 0)),(api_CellStep.mk 0 (api_Stitch.mk 0 false 0 0)),(api_CellStep.mk 0 (api_Stitch.mk 0 false 0 0)),(api_CellStep.mk 0 (api_Stitch.mk 0 false 0 0)),(api_CellStep.mk 0 (api_Stitch.mk 0 false 0 0)),(api_CellStep.mk 0 (api_Stitch.mk 0 false 0 0)),(api_CellStep.mk 0 (api_Stitch.mk 0 false 0 0)),(api_CellStep.mk 0 (api_Stitch.mk 0 false 0 0)),(api_CellStep.mk 0 (api_Stitch.mk 0 false 0 0)),(api_CellStep.mk 0 (api_Stitch.mk 0 false 0 0)),(api_CellStep.mk 0 (api_Stitch.mk 0 false 0 0)),(api_CellStep.mk 0 (api_Stitch.mk 0 false 0 0)),(api_CellStep.mk 0 (api_Stitch.mk 0 false 0 0)),(api_CellStep.mk 0 (api_Stitch.mk 0 false 0 0)),(api_CellStep.mk 0 (api_Stitch.mk 0 false 0 0)),(api_CellStep.mk 0 (api_Stitch.mk 0 false 0 0)),(api_CellStep.mk 0 (api_Stitch.mk 0 false 0 0)),(api_CellStep.mk 0 (api_Stitch.mk 0 false 0 0)),(api_CellStep.mk 0 (api_Stitch.mk 0 false 0 0)),(api_CellStep.mk 0 (api_Stitch.mk 0 false 0 0)),(api_CellStep.mk 0 (api_Stitch.mk 0 false 0 0)),(api_CellStep.mk 0 (api_Stitch.mk 0 false 0 0)),(api_CellStep.mk 0 (api_Stitch.mk 0 false 0 0)),(api_CellStep.mk 0 (api_Stitch.mk 0 false 0 0)),(api_CellStep.mk 0 (api_Stitch.mk 0 false 0 0)),(api_CellStep.mk 0 (api_Stitch.mk 0 false 0 0)),(api_CellStep.mk 0 (api_Stitch.mk 0 false 0 0)),(api_CellStep.mk 0 (api_Stitch.mk 0 false 0 0)),(api_CellStep.mk 0 (api_Stitch.mk 0 false 0 0)),(api_CellStep.mk 0 (api_Stitch.mk 0 false 0 0)),(api_CellStep.mk 0 (api_Stitch.mk 0 false 0 0)),(api_CellStep.mk 0 (api_Stitch.mk 0 false 0 0)),(api_CellStep.mk 0 (api_Stitch.mk 0 false 0 0)),(api_CellStep.mk 0 (api_Stitch.mk 0 false 0 0)),(api_CellStep.mk 0 (api_Stitch.mk 0 false 0 0)),(api_CellStep.mk 0 (api_Stitch.mk 0 false 0 0)),(api_CellStep.mk 0 (api_Stitch.mk 0 false 0 0)),(api_CellStep.mk 0 (api_Stitch.mk 0 false 0 0)),(api_CellStep.mk 0 (api_Stitch.mk 0 false 0 0)),(api_CellStep.mk 0 (api_Stitch.mk 0 false 0 0)),(api_CellStep.mk 0 (api_Stitch.mk 0 false 0 0)),(api_CellStep.mk 0 (api_Stitch.mk 0 false 0 0)),(api_CellStep.mk 0 (api_Stitch.mk 0 false 0 0))]:=Option.some.inj (er.symm.trans (by kernel_rfl))
     refine sMakeG (r:=r_api_CellStep) (m:=401) (xs:=bZ) (.agg #[.int .u8 0,.int .u8 0,.bool false,iv 0,iv 0]) (api_CellStep.mk 0 (api_Stitch.mk 0 false 0 0)) 32 S (wN d) d Try.underlying48 d (by decide) (fun _ _=>d) d d er d (lb d) fun a w cT cU S=>?_
     obtain ⟨bB,es,h⟩:=bS h
     have hv_r206:bB=([],4):=Option.some.inj (es.symm.trans (by rw [hv_m204]; exact kc_raddlelaw46_CompareNames_21))
     have S:=S.shutR (r:=r_api_Stitch) (T:=81) (v:=.slice aw [(api_Stitch.mk 1 false 0 0)].length ax) (xs:=[(api_Stitch.mk 1 false 0 0)]) 1 d
     have S:=S.shutR (r:=r_api_CellStep) (T:=83) (v:=.slice cT bZ.length cU) (xs:=bZ) 0 d
     refine sCall (X:=Value) (f:=25) (vs:=[.slice aw [(api_Stitch.mk 1 false 0 0)].length ax,.slice cT bZ.length cU]) (val:=c_compare_Patch_val bB) (B':=fun _=>[]) (D':=c_compare_Patch_D bB) [] [eBox ap 83 [.int .u8 2,.int .u8 2,.bool false,iv 0,iv 0],eBox aq 83 [.int .u8 3,.int .u8 2,.bool false,iv 0,iv 0],eBox aG 83 [.int .u8 4,.int .u8 0,.bool false,iv 0,iv 0],eBox aO 83 [.int .u8 1,.int .u8 0,.bool false,iv 0,iv 0],eBox ar 81 [.int .u8 2,.bool false,iv 0,iv 0],eBox aC 81 [.int .u8 1,.bool false,iv 0,iv 0],eBox ay 33 [iv a0.2.2.1.X,iv a0.2.2.1.Y],eBox bw 33 [iv ao.2.2.1.X,iv ao.2.2.1.Y],eBox bk 33 [iv am.2.2.1.X,iv am.2.2.1.Y],eBox bg 33 [iv al.2.2.1.X,iv al.2.2.1.Y],eBox aQ 33 [iv a6.2.2.1.X,iv a6.2.2.1.Y],eBox aX 33 [iv af.2.2.1.X,iv af.2.2.1.Y],eBox aW 33 [iv ae.2.2.1.X,iv ae.2.2.1.Y],eBox aV 24 [iv a9.W,iv a9.H,.slice ag a9.Bits.length ah],eBox aP 24 [iv a2.W,iv a2.H,.slice ab a2.Bits.length ac],eBox aK 24 [iv 17,iv 1,.slice a7 aa.length a8],eBox az 24 [iv r3.W,iv r3.H,.slice a4 r3.Bits.length a5]] [fRep (rL r_api_Stitch) (.slice aw [(api_Stitch.mk 1 false 0 0)].length ax) [(api_Stitch.mk 1 false 0 0)],fRep (rL r_api_CellStep) (.slice cT bZ.length cU) bZ] [0,1,2,3,4,5,6,7,8,9,10,11,12,13,14,15,16] [1,0] S (wN d) d callee25 d (by decide) d d (fun E1 w1 S1=>c_compare_Patch E1 w1 [(api_Stitch.mk 1 false 0 0)] (.slice aw [(api_Stitch.mk 1 false 0 0)].length ax) bZ (.slice cT bZ.length cU) bB es S1) d (lb d) fun gX a w S=>?_
     obtain ⟨dB,dC,_,rfl,_⟩:=S.mem.know (i:=0) (e:=fRep (rL r_api_Stitch) (gX) bB.1) d
     refine sM S fun a S=>?_
     refine sExtract (vs:=[.slice dB bB.1.length dC,iv bB.2]) (.slice dB bB.1.length dC) S (wN d) d d d d (lb d) fun a S=>sExtract (vs:=[.slice dB bB.1.length dC,iv bB.2]) (iv bB.2) S (wN d) d d d d (lb d) fun a S=>sN S fun a S=>?_
     refine sN S fun a S=>?_
     refine lT (ga _ _ (sSeq (fun j5 gb=>sRegion (sM S fun a S=>?_))))
     refine sBuild [] [.int .u8 0,.int .u8 0,.bool false,iv 0,iv 0] S (wN d) d d d d (lb d) fun a S=>?_
     have S:=S.learn (fRep r_api_CellStep (.agg #[.int .u8 0,.int .u8 0,.bool false,iv 0,iv 0]) (api_CellStep.mk 0 (api_Stitch.mk 0 false 0 0))) d
     refine sLit (r:=r_api_CellStep) (T:=83) (xs:=[(api_CellStep.mk 0 (api_Stitch.mk 0 false 0 0))]) [(0,.agg #[.int .u8 0,.int .u8 0,.bool false,iv 0,iv 0])] 1 [.agg #[.int .u8 0,.int .u8 0,.bool false,iv 0,iv 0]] [.int .u8 0,.int .u8 0,.bool false,iv 0,iv 0] (.agg #[.int .u8 0,.int .u8 0,.bool false,iv 0,iv 0]) 32 S (wN d) d d Try.underlying48 d (by decide) (by decide) (by kernel_rfl) d (fun E1 w1 hE=>All.cons (r_api_CellStep.mono hE (S.mem.know (i:=0) (e:=fRep r_api_CellStep (.agg #[.int .u8 0,.int .u8 0,.bool false,iv 0,iv 0]) (api_CellStep.mk 0 (api_Stitch.mk 0 false 0 0))) d)) (All.nil _ _ _)) d d (lb d) fun a w cV cW S=>?_
     obtain ⟨bn,et,h⟩:=bS h
     have hv_r214:bn=([],8):=Option.some.inj (et.symm.trans (by exact kc_raddlelaw46_CompareNames_22))
     have S:=S.shutR (r:=r_api_CellStep) (T:=83) (v:=.slice cV [(api_CellStep.mk 0 (api_Stitch.mk 0 false 0 0))].length cW) (xs:=[(api_CellStep.mk 0 (api_Stitch.mk 0 false 0 0))]) 0 d
     refine sCall (X:=Value) (f:=25) (vs:=[.slice aw [(api_Stitch.mk 1 false 0 0)].length ax,.slice cV [(api_CellStep.mk 0 (api_Stitch.mk 0 false 0 0))].length cW]) (val:=c_compare_Patch_val bn) (B':=fun _=>[]) (D':=c_compare_Patch_D bn) [] [eBox ap 83 [.int .u8 2,.int .u8 2,.bool false,iv 0,iv 0],eBox aq 83 [.int .u8 3,.int .u8 2,.bool false,iv 0,iv 0],eBox aG 83 [.int .u8 4,.int .u8 0,.bool false,iv 0,iv 0],eBox aO 83 [.int .u8 1,.int .u8 0,.bool false,iv 0,iv 0],eBox ar 81 [.int .u8 2,.bool false,iv 0,iv 0],eBox aC 81 [.int .u8 1,.bool false,iv 0,iv 0],eBox ay 33 [iv a0.2.2.1.X,iv a0.2.2.1.Y],eBox bw 33 [iv ao.2.2.1.X,iv ao.2.2.1.Y],eBox bk 33 [iv am.2.2.1.X,iv am.2.2.1.Y],eBox bg 33 [iv al.2.2.1.X,iv al.2.2.1.Y],eBox aQ 33 [iv a6.2.2.1.X,iv a6.2.2.1.Y],eBox aX 33 [iv af.2.2.1.X,iv af.2.2.1.Y],eBox aW 33 [iv ae.2.2.1.X,iv ae.2.2.1.Y],eBox aV 24 [iv a9.W,iv a9.H,.slice ag a9.Bits.length ah],eBox aP 24 [iv a2.W,iv a2.H,.slice ab a2.Bits.length ac],eBox aK 24 [iv 17,iv 1,.slice a7 aa.length a8],eBox az 24 [iv r3.W,iv r3.H,.slice a4 r3.Bits.length a5]] [fRep (rL r_api_Stitch) (.slice aw [(api_Stitch.mk 1 false 0 0)].length ax) [(api_Stitch.mk 1 false 0 0)],fRep (rL r_api_CellStep) (.slice cV [(api_CellStep.mk 0 (api_Stitch.mk 0 false 0 0))].length cW) [(api_CellStep.mk 0 (api_Stitch.mk 0 false 0 0))]] [0,1,2,3,4,5,6,7,8,9,10,11,12,13,14,15,16] [4,0] S (wN d) d callee25 d (by decide) d d (fun E1 w1 S1=>c_compare_Patch E1 w1 [(api_Stitch.mk 1 false 0 0)] (.slice aw [(api_Stitch.mk 1 false 0 0)].length ax) [(api_CellStep.mk 0 (api_Stitch.mk 0 false 0 0))] (.slice cV [(api_CellStep.mk 0 (api_Stitch.mk 0 false 0 0))].length cW) bn et S1) d (lb d) fun gY a w S=>?_
     obtain ⟨dD,dE,_,rfl,_⟩:=S.mem.know (i:=0) (e:=fRep (rL r_api_Stitch) (gY) bn.1) d
     refine sM S fun a S=>?_
     refine sExtract (vs:=[.slice dD bn.1.length dE,iv bn.2]) (.slice dD bn.1.length dE) S (wN d) d d d d (lb d) fun a S=>sExtract (vs:=[.slice dD bn.1.length dE,iv bn.2]) (iv bn.2) S (wN d) d d d d (lb d) fun a S=>sN S fun a S=>?_
     refine sN S fun a S=>?_
     refine lT (gb _ _ (sSeq (fun j6 gc=>sRegion (sM S fun a S=>?_))))
     refine sLoadN (p:=ar) (off:=0) (T:=81) (vs:=[.int .u8 2,.bool false,iv 0,iv 0]) 4 [.int .u8 2,.bool false,iv 0,iv 0] S (wN d) d d d d d d d (lb d) fun a S=>sBuild [(0,.int .u8 1),(1,.agg #[.int .u8 2,.bool false,iv 0,iv 0])] [.int .u8 1,.int .u8 2,.bool false,iv 0,iv 0] S (wN d) d d d d (lb d) fun a S=>?_
     have S:=S.learn (fRep r_api_CellStep (.agg #[.int .u8 1,.int .u8 2,.bool false,iv 0,iv 0]) (api_CellStep.mk 1 (api_Stitch.mk 2 false 0 0))) d
     refine sLit (r:=r_api_CellStep) (T:=83) (xs:=[(api_CellStep.mk 1 (api_Stitch.mk 2 false 0 0))]) [(0,.agg #[.int .u8 1,.int .u8 2,.bool false,iv 0,iv 0])] 1 [.agg #[.int .u8 1,.int .u8 2,.bool false,iv 0,iv 0]] [.int .u8 1,.int .u8 2,.bool false,iv 0,iv 0] (.agg #[.int .u8 0,.int .u8 0,.bool false,iv 0,iv 0]) 32 S (wN d) d d Try.underlying48 d (by decide) (by decide) (by kernel_rfl) d (fun E1 w1 hE=>All.cons (r_api_CellStep.mono hE (S.mem.know (i:=0) (e:=fRep r_api_CellStep (.agg #[.int .u8 1,.int .u8 2,.bool false,iv 0,iv 0]) (api_CellStep.mk 1 (api_Stitch.mk 2 false 0 0))) d)) (All.nil _ _ _)) d d (lb d) fun a w cX cY S=>?_
     obtain ⟨bo,eu,h⟩:=bS h
     have hv_r222:bo=([],8):=Option.some.inj (eu.symm.trans (by exact kc_raddlelaw46_CompareNames_23))
     have S:=S.shutR (r:=r_api_CellStep) (T:=83) (v:=.slice cX [(api_CellStep.mk 1 (api_Stitch.mk 2 false 0 0))].length cY) (xs:=[(api_CellStep.mk 1 (api_Stitch.mk 2 false 0 0))]) 0 d
     refine sCall (X:=Value) (f:=25) (vs:=[.slice aw [(api_Stitch.mk 1 false 0 0)].length ax,.slice cX [(api_CellStep.mk 1 (api_Stitch.mk 2 false 0 0))].length cY]) (val:=c_compare_Patch_val bo) (B':=fun _=>[]) (D':=c_compare_Patch_D bo) [] [eBox ap 83 [.int .u8 2,.int .u8 2,.bool false,iv 0,iv 0],eBox aq 83 [.int .u8 3,.int .u8 2,.bool false,iv 0,iv 0],eBox aG 83 [.int .u8 4,.int .u8 0,.bool false,iv 0,iv 0],eBox aO 83 [.int .u8 1,.int .u8 0,.bool false,iv 0,iv 0],eBox ar 81 [.int .u8 2,.bool false,iv 0,iv 0],eBox aC 81 [.int .u8 1,.bool false,iv 0,iv 0],eBox ay 33 [iv a0.2.2.1.X,iv a0.2.2.1.Y],eBox bw 33 [iv ao.2.2.1.X,iv ao.2.2.1.Y],eBox bk 33 [iv am.2.2.1.X,iv am.2.2.1.Y],eBox bg 33 [iv al.2.2.1.X,iv al.2.2.1.Y],eBox aQ 33 [iv a6.2.2.1.X,iv a6.2.2.1.Y],eBox aX 33 [iv af.2.2.1.X,iv af.2.2.1.Y],eBox aW 33 [iv ae.2.2.1.X,iv ae.2.2.1.Y],eBox aV 24 [iv a9.W,iv a9.H,.slice ag a9.Bits.length ah],eBox aP 24 [iv a2.W,iv a2.H,.slice ab a2.Bits.length ac],eBox aK 24 [iv 17,iv 1,.slice a7 aa.length a8],eBox az 24 [iv r3.W,iv r3.H,.slice a4 r3.Bits.length a5]] [fRep (rL r_api_Stitch) (.slice aw [(api_Stitch.mk 1 false 0 0)].length ax) [(api_Stitch.mk 1 false 0 0)],fRep (rL r_api_CellStep) (.slice cX [(api_CellStep.mk 1 (api_Stitch.mk 2 false 0 0))].length cY) [(api_CellStep.mk 1 (api_Stitch.mk 2 false 0 0))]] [0,1,2,3,4,5,6,7,8,9,10,11,12,13,14,15,16] [7,0] S (wN d) d callee25 d (by decide) d d (fun E1 w1 S1=>c_compare_Patch E1 w1 [(api_Stitch.mk 1 false 0 0)] (.slice aw [(api_Stitch.mk 1 false 0 0)].length ax) [(api_CellStep.mk 1 (api_Stitch.mk 2 false 0 0))] (.slice cX [(api_CellStep.mk 1 (api_Stitch.mk 2 false 0 0))].length cY) bo eu S1) d (lb d) fun gZ a w S=>?_
     obtain ⟨dF,dG,_,rfl,_⟩:=S.mem.know (i:=0) (e:=fRep (rL r_api_Stitch) (gZ) bo.1) d
     refine sM S fun a S=>?_
     refine sExtract (vs:=[.slice dF bo.1.length dG,iv bo.2]) (.slice dF bo.1.length dG) S (wN d) d d d d (lb d) fun a S=>sExtract (vs:=[.slice dF bo.1.length dG,iv bo.2]) (iv bo.2) S (wN d) d d d d (lb d) fun a S=>sN S fun a S=>?_
     refine sN S fun a S=>?_
     refine lT (gc _ _ (sSeq (fun j7 gd=>sRegion (sM S fun a S=>?_))))
     refine sBuild [(0,.int .u8 3)] [.int .u8 3,.int .u8 0,.bool false,iv 0,iv 0] S (wN d) d d d d (lb d) fun a S=>?_
     have S:=S.learn (fRep r_api_CellStep (.agg #[.int .u8 3,.int .u8 0,.bool false,iv 0,iv 0]) (api_CellStep.mk 3 (api_Stitch.mk 0 false 0 0))) d
     refine sLit (r:=r_api_CellStep) (T:=83) (xs:=[(api_CellStep.mk 3 (api_Stitch.mk 0 false 0 0))]) [(0,.agg #[.int .u8 3,.int .u8 0,.bool false,iv 0,iv 0])] 1 [.agg #[.int .u8 3,.int .u8 0,.bool false,iv 0,iv 0]] [.int .u8 3,.int .u8 0,.bool false,iv 0,iv 0] (.agg #[.int .u8 0,.int .u8 0,.bool false,iv 0,iv 0]) 32 S (wN d) d d Try.underlying48 d (by decide) (by decide) (by kernel_rfl) d (fun E1 w1 hE=>All.cons (r_api_CellStep.mono hE (S.mem.know (i:=0) (e:=fRep r_api_CellStep (.agg #[.int .u8 3,.int .u8 0,.bool false,iv 0,iv 0]) (api_CellStep.mk 3 (api_Stitch.mk 0 false 0 0))) d)) (All.nil _ _ _)) d d (lb d) fun a w cZ d0 S=>?_
     obtain ⟨bp,ev,h⟩:=bS h
     have hv_r230:bp=([],8):=Option.some.inj (ev.symm.trans (by exact kc_raddlelaw46_CompareNames_24))
     have S:=S.shutR (r:=r_api_CellStep) (T:=83) (v:=.slice cZ [(api_CellStep.mk 3 (api_Stitch.mk 0 false 0 0))].length d0) (xs:=[(api_CellStep.mk 3 (api_Stitch.mk 0 false 0 0))]) 0 d
     refine sCall (X:=Value) (f:=25) (vs:=[.slice aw [(api_Stitch.mk 1 false 0 0)].length ax,.slice cZ [(api_CellStep.mk 3 (api_Stitch.mk 0 false 0 0))].length d0]) (val:=c_compare_Patch_val bp) (B':=fun _=>[]) (D':=c_compare_Patch_D bp) [] [eBox ap 83 [.int .u8 2,.int .u8 2,.bool false,iv 0,iv 0],eBox aq 83 [.int .u8 3,.int .u8 2,.bool false,iv 0,iv 0],eBox aG 83 [.int .u8 4,.int .u8 0,.bool false,iv 0,iv 0],eBox aO 83 [.int .u8 1,.int .u8 0,.bool false,iv 0,iv 0],eBox ar 81 [.int .u8 2,.bool false,iv 0,iv 0],eBox aC 81 [.int .u8 1,.bool false,iv 0,iv 0],eBox ay 33 [iv a0.2.2.1.X,iv a0.2.2.1.Y],eBox bw 33 [iv ao.2.2.1.X,iv ao.2.2.1.Y],eBox bk 33 [iv am.2.2.1.X,iv am.2.2.1.Y],eBox bg 33 [iv al.2.2.1.X,iv al.2.2.1.Y],eBox aQ 33 [iv a6.2.2.1.X,iv a6.2.2.1.Y],eBox aX 33 [iv af.2.2.1.X,iv af.2.2.1.Y],eBox aW 33 [iv ae.2.2.1.X,iv ae.2.2.1.Y],eBox aV 24 [iv a9.W,iv a9.H,.slice ag a9.Bits.length ah],eBox aP 24 [iv a2.W,iv a2.H,.slice ab a2.Bits.length ac],eBox aK 24 [iv 17,iv 1,.slice a7 aa.length a8],eBox az 24 [iv r3.W,iv r3.H,.slice a4 r3.Bits.length a5]] [fRep (rL r_api_Stitch) (.slice aw [(api_Stitch.mk 1 false 0 0)].length ax) [(api_Stitch.mk 1 false 0 0)],fRep (rL r_api_CellStep) (.slice cZ [(api_CellStep.mk 3 (api_Stitch.mk 0 false 0 0))].length d0) [(api_CellStep.mk 3 (api_Stitch.mk 0 false 0 0))]] [0,1,2,3,4,5,6,7,8,9,10,11,12,13,14,15,16] [10,0] S (wN d) d callee25 d (by decide) d d (fun E1 w1 S1=>c_compare_Patch E1 w1 [(api_Stitch.mk 1 false 0 0)] (.slice aw [(api_Stitch.mk 1 false 0 0)].length ax) [(api_CellStep.mk 3 (api_Stitch.mk 0 false 0 0))] (.slice cZ [(api_CellStep.mk 3 (api_Stitch.mk 0 false 0 0))].length d0) bp ev S1) d (lb d) fun hG a w S=>?_
     obtain ⟨dH,dI,_,rfl,_⟩:=S.mem.know (i:=0) (e:=fRep (rL r_api_Stitch) (hG) bp.1) d
     refine sM S fun a S=>?_
     refine sExtract (vs:=[.slice dH bp.1.length dI,iv bp.2]) (.slice dH bp.1.length dI) S (wN d) d d d d (lb d) fun a S=>sExtract (vs:=[.slice dH bp.1.length dI,iv bp.2]) (iv bp.2) S (wN d) d d d d (lb d) fun a S=>sN S fun a S=>?_
     refine sN S fun a S=>?_
     refine lT (gd _ _ (sSeq (fun j8 ge=>sRegion (sM S fun a S=>?_))))
     refine sLoadN (p:=aO) (off:=0) (T:=83) (vs:=[.int .u8 1,.int .u8 0,.bool false,iv 0,iv 0]) 3 [.int .u8 1,.int .u8 0,.bool false,iv 0,iv 0] S (wN d) d d d d d d d (lb d) fun a S=>sLoadN (p:=aG) (off:=0) (T:=83) (vs:=[.int .u8 4,.int .u8 0,.bool false,iv 0,iv 0]) 2 [.int .u8 4,.int .u8 0,.bool false,iv 0,iv 0] S (wN d) d d d d d d d (lb d) fun a S=>?_
     have S:=S.learn (fRep r_api_CellStep (.agg #[.int .u8 1,.int .u8 0,.bool false,iv 0,iv 0]) (api_CellStep.mk 1 (api_Stitch.mk 0 false 0 0))) d
     have S:=S.learn (fRep r_api_CellStep (.agg #[.int .u8 4,.int .u8 0,.bool false,iv 0,iv 0]) (api_CellStep.mk 4 (api_Stitch.mk 0 false 0 0))) d
     refine sLit (r:=r_api_CellStep) (T:=83) (xs:=[(api_CellStep.mk 1 (api_Stitch.mk 0 false 0 0)),(api_CellStep.mk 4 (api_Stitch.mk 0 false 0 0))]) [(0,.agg #[.int .u8 1,.int .u8 0,.bool false,iv 0,iv 0]),(1,.agg #[.int .u8 4,.int .u8 0,.bool false,iv 0,iv 0])] 2 [.agg #[.int .u8 1,.int .u8 0,.bool false,iv 0,iv 0],.agg #[.int .u8 4,.int .u8 0,.bool false,iv 0,iv 0]] [.int .u8 1,.int .u8 0,.bool false,iv 0,iv 0,.int .u8 4,.int .u8 0,.bool false,iv 0,iv 0] (.agg #[.int .u8 0,.int .u8 0,.bool false,iv 0,iv 0]) 32 S (wN d) d d Try.underlying48 d (by decide) (by decide) (by kernel_rfl) d (fun E1 w1 hE=>All.cons (r_api_CellStep.mono hE (S.mem.know (i:=1) (e:=fRep r_api_CellStep (.agg #[.int .u8 1,.int .u8 0,.bool false,iv 0,iv 0]) (api_CellStep.mk 1 (api_Stitch.mk 0 false 0 0))) d)) (All.cons (r_api_CellStep.mono hE (S.mem.know (i:=0) (e:=fRep r_api_CellStep (.agg #[.int .u8 4,.int .u8 0,.bool false,iv 0,iv 0]) (api_CellStep.mk 4 (api_Stitch.mk 0 false 0 0))) d)) (All.nil _ _ _))) d d (lb d) fun a w d1 d3 S=>?_
     obtain ⟨bq,ew,h⟩:=bS h
     have hv_r238:bq=([],30):=Option.some.inj (ew.symm.trans (by exact kc_raddlelaw46_CompareNames_25))
     have S:=S.shutR (r:=r_api_CellStep) (T:=83) (v:=.slice d1 [(api_CellStep.mk 1 (api_Stitch.mk 0 false 0 0)),(api_CellStep.mk 4 (api_Stitch.mk 0 false 0 0))].length d3) (xs:=[(api_CellStep.mk 1 (api_Stitch.mk 0 false 0 0)),(api_CellStep.mk 4 (api_Stitch.mk 0 false 0 0))]) 0 d
     refine sCall (X:=Value) (f:=25) (vs:=[.slice aw [(api_Stitch.mk 1 false 0 0)].length ax,.slice d1 [(api_CellStep.mk 1 (api_Stitch.mk 0 false 0 0)),(api_CellStep.mk 4 (api_Stitch.mk 0 false 0 0))].length d3]) (val:=c_compare_Patch_val bq) (B':=fun _=>[]) (D':=c_compare_Patch_D bq) [] [eBox ap 83 [.int .u8 2,.int .u8 2,.bool false,iv 0,iv 0],eBox aq 83 [.int .u8 3,.int .u8 2,.bool false,iv 0,iv 0],eBox aG 83 [.int .u8 4,.int .u8 0,.bool false,iv 0,iv 0],eBox aO 83 [.int .u8 1,.int .u8 0,.bool false,iv 0,iv 0],eBox ar 81 [.int .u8 2,.bool false,iv 0,iv 0],eBox aC 81 [.int .u8 1,.bool false,iv 0,iv 0],eBox ay 33 [iv a0.2.2.1.X,iv a0.2.2.1.Y],eBox bw 33 [iv ao.2.2.1.X,iv ao.2.2.1.Y],eBox bk 33 [iv am.2.2.1.X,iv am.2.2.1.Y],eBox bg 33 [iv al.2.2.1.X,iv al.2.2.1.Y],eBox aQ 33 [iv a6.2.2.1.X,iv a6.2.2.1.Y],eBox aX 33 [iv af.2.2.1.X,iv af.2.2.1.Y],eBox aW 33 [iv ae.2.2.1.X,iv ae.2.2.1.Y],eBox aV 24 [iv a9.W,iv a9.H,.slice ag a9.Bits.length ah],eBox aP 24 [iv a2.W,iv a2.H,.slice ab a2.Bits.length ac],eBox aK 24 [iv 17,iv 1,.slice a7 aa.length a8],eBox az 24 [iv r3.W,iv r3.H,.slice a4 r3.Bits.length a5]] [fRep (rL r_api_Stitch) (.slice aw [(api_Stitch.mk 1 false 0 0)].length ax) [(api_Stitch.mk 1 false 0 0)],fRep (rL r_api_CellStep) (.slice d1 [(api_CellStep.mk 1 (api_Stitch.mk 0 false 0 0)),(api_CellStep.mk 4 (api_Stitch.mk 0 false 0 0))].length d3) [(api_CellStep.mk 1 (api_Stitch.mk 0 false 0 0)),(api_CellStep.mk 4 (api_Stitch.mk 0 false 0 0))]] [0,1,2,3,4,5,6,7,8,9,10,11,12,13,14,15,16] [14,0] S (wN d) d callee25 d (by decide) d d (fun E1 w1 S1=>c_compare_Patch E1 w1 [(api_Stitch.mk 1 false 0 0)] (.slice aw [(api_Stitch.mk 1 false 0 0)].length ax) [(api_CellStep.mk 1 (api_Stitch.mk 0 false 0 0)),(api_CellStep.mk 4 (api_Stitch.mk 0 false 0 0))] (.slice d1 [(api_CellStep.mk 1 (api_Stitch.mk 0 false 0 0)),(api_CellStep.mk 4 (api_Stitch.mk 0 false 0 0))].length d3) bq ew S1) d (lb d) fun hH a w S=>?_
     obtain ⟨dJ,dK,_,rfl,_⟩:=S.mem.know (i:=0) (e:=fRep (rL r_api_Stitch) (hH) bq.1) d
     refine sM S fun a S=>?_
     refine sExtract (vs:=[.slice dJ bq.1.length dK,iv bq.2]) (.slice dJ bq.1.length dK) S (wN d) d d d d (lb d) fun a S=>sExtract (vs:=[.slice dJ bq.1.length dK,iv bq.2]) (iv bq.2) S (wN d) d d d d (lb d) fun a S=>sN S fun a S=>?_
     refine sN S fun a S=>?_
     refine lT (ge _ _ (sSeq (fun j9 gg=>sRegion (sM S fun a S=>?_))))
     obtain ⟨br,ex,h⟩:=bS h
     have hv_r244:br=([],30):=Option.some.inj (ex.symm.trans (by exact kc_raddlelaw46_CompareNames_26))
     have S:=S.learn (fRep (rL r_api_CellStep) (.slice none 0 0) ([]:(List api_CellStep))) (rL_nil _ _ _)
     refine sCall (X:=Value) (f:=25) (vs:=[.slice aw [(api_Stitch.mk 1 false 0 0)].length ax,.slice none 0 0]) (val:=c_compare_Patch_val br) (B':=fun _=>[]) (D':=c_compare_Patch_D br) [] [eBox ap 83 [.int .u8 2,.int .u8 2,.bool false,iv 0,iv 0],eBox aq 83 [.int .u8 3,.int .u8 2,.bool false,iv 0,iv 0],eBox aG 83 [.int .u8 4,.int .u8 0,.bool false,iv 0,iv 0],eBox aO 83 [.int .u8 1,.int .u8 0,.bool false,iv 0,iv 0],eBox ar 81 [.int .u8 2,.bool false,iv 0,iv 0],eBox aC 81 [.int .u8 1,.bool false,iv 0,iv 0],eBox ay 33 [iv a0.2.2.1.X,iv a0.2.2.1.Y],eBox bw 33 [iv ao.2.2.1.X,iv ao.2.2.1.Y],eBox bk 33 [iv am.2.2.1.X,iv am.2.2.1.Y],eBox bg 33 [iv al.2.2.1.X,iv al.2.2.1.Y],eBox aQ 33 [iv a6.2.2.1.X,iv a6.2.2.1.Y],eBox aX 33 [iv af.2.2.1.X,iv af.2.2.1.Y],eBox aW 33 [iv ae.2.2.1.X,iv ae.2.2.1.Y],eBox aV 24 [iv a9.W,iv a9.H,.slice ag a9.Bits.length ah],eBox aP 24 [iv a2.W,iv a2.H,.slice ab a2.Bits.length ac],eBox aK 24 [iv 17,iv 1,.slice a7 aa.length a8],eBox az 24 [iv r3.W,iv r3.H,.slice a4 r3.Bits.length a5]] [fRep (rL r_api_Stitch) (.slice aw [(api_Stitch.mk 1 false 0 0)].length ax) [(api_Stitch.mk 1 false 0 0)],fRep (rL r_api_CellStep) (.slice none 0 0) ([]:(List api_CellStep))] [0,1,2,3,4,5,6,7,8,9,10,11,12,13,14,15,16] [16,0] S (wN d) d callee25 d (by decide) d d (fun E1 w1 S1=>c_compare_Patch E1 w1 [(api_Stitch.mk 1 false 0 0)] (.slice aw [(api_Stitch.mk 1 false 0 0)].length ax) ([]:(List api_CellStep)) (.slice none 0 0) br ex S1) d (lb d) fun hM a w S=>?_
     obtain ⟨dL,dM,_,rfl,_⟩:=S.mem.know (i:=0) (e:=fRep (rL r_api_Stitch) (hM) br.1) d
     refine sM S fun a S=>?_
     refine sExtract (vs:=[.slice dL br.1.length dM,iv br.2]) (.slice dL br.1.length dM) S (wN d) d d d d (lb d) fun a S=>sExtract (vs:=[.slice dL br.1.length dM,iv br.2]) (iv br.2) S (wN d) d d d d (lb d) fun a S=>sN S fun a S=>?_
     refine sN S fun a S=>?_
     refine lT (gg _ _ (sSeq (fun ja gh=>sRegion (sM S fun a S=>?_))))
     refine sLoadN (p:=aC) (off:=0) (T:=81) (vs:=[.int .u8 1,.bool false,iv 0,iv 0]) 5 [.int .u8 1,.bool false,iv 0,iv 0] S (wN d) d d d d d d d (lb d) fun a S=>sBuild [(0,.int .u8 2),(1,.agg #[.int .u8 1,.bool false,iv 0,iv 0])] [.int .u8 2,.int .u8 1,.bool false,iv 0,iv 0] S (wN d) d d d d (lb d) fun a S=>?_
     have S:=S.learn (fRep r_api_CellStep (.agg #[.int .u8 2,.int .u8 1,.bool false,iv 0,iv 0]) (api_CellStep.mk 2 (api_Stitch.mk 1 false 0 0))) d
     refine sLit (r:=r_api_CellStep) (T:=83) (xs:=[(api_CellStep.mk 2 (api_Stitch.mk 1 false 0 0))]) [(0,.agg #[.int .u8 2,.int .u8 1,.bool false,iv 0,iv 0])] 1 [.agg #[.int .u8 2,.int .u8 1,.bool false,iv 0,iv 0]] [.int .u8 2,.int .u8 1,.bool false,iv 0,iv 0] (.agg #[.int .u8 0,.int .u8 0,.bool false,iv 0,iv 0]) 32 S (wN d) d d Try.underlying48 d (by decide) (by decide) (by kernel_rfl) d (fun E1 w1 hE=>All.cons (r_api_CellStep.mono hE (S.mem.know (i:=0) (e:=fRep r_api_CellStep (.agg #[.int .u8 2,.int .u8 1,.bool false,iv 0,iv 0]) (api_CellStep.mk 2 (api_Stitch.mk 1 false 0 0))) d)) (All.nil _ _ _)) d d (lb d) fun a w d4 d5 S=>?_
     obtain ⟨bt,ey,h⟩:=bS h
     have hv_r252:bt=([],30):=Option.some.inj (ey.symm.trans (by exact kc_raddlelaw46_CompareNames_27))
     have S:=S.shutR (r:=r_api_CellStep) (T:=83) (v:=.slice d4 [(api_CellStep.mk 2 (api_Stitch.mk 1 false 0 0))].length d5) (xs:=[(api_CellStep.mk 2 (api_Stitch.mk 1 false 0 0))]) 0 d
     refine sCall (X:=Value) (f:=25) (vs:=[.slice aw [(api_Stitch.mk 1 false 0 0)].length ax,.slice d4 [(api_CellStep.mk 2 (api_Stitch.mk 1 false 0 0))].length d5]) (val:=c_compare_Patch_val bt) (B':=fun _=>[]) (D':=c_compare_Patch_D bt) [] [eBox ap 83 [.int .u8 2,.int .u8 2,.bool false,iv 0,iv 0],eBox aq 83 [.int .u8 3,.int .u8 2,.bool false,iv 0,iv 0],eBox aG 83 [.int .u8 4,.int .u8 0,.bool false,iv 0,iv 0],eBox aO 83 [.int .u8 1,.int .u8 0,.bool false,iv 0,iv 0],eBox ar 81 [.int .u8 2,.bool false,iv 0,iv 0],eBox aC 81 [.int .u8 1,.bool false,iv 0,iv 0],eBox ay 33 [iv a0.2.2.1.X,iv a0.2.2.1.Y],eBox bw 33 [iv ao.2.2.1.X,iv ao.2.2.1.Y],eBox bk 33 [iv am.2.2.1.X,iv am.2.2.1.Y],eBox bg 33 [iv al.2.2.1.X,iv al.2.2.1.Y],eBox aQ 33 [iv a6.2.2.1.X,iv a6.2.2.1.Y],eBox aX 33 [iv af.2.2.1.X,iv af.2.2.1.Y],eBox aW 33 [iv ae.2.2.1.X,iv ae.2.2.1.Y],eBox aV 24 [iv a9.W,iv a9.H,.slice ag a9.Bits.length ah],eBox aP 24 [iv a2.W,iv a2.H,.slice ab a2.Bits.length ac],eBox aK 24 [iv 17,iv 1,.slice a7 aa.length a8],eBox az 24 [iv r3.W,iv r3.H,.slice a4 r3.Bits.length a5]] [fRep (rL r_api_Stitch) (.slice aw [(api_Stitch.mk 1 false 0 0)].length ax) [(api_Stitch.mk 1 false 0 0)],fRep (rL r_api_CellStep) (.slice d4 [(api_CellStep.mk 2 (api_Stitch.mk 1 false 0 0))].length d5) [(api_CellStep.mk 2 (api_Stitch.mk 1 false 0 0))]] [0,1,2,3,4,5,6,7,8,9,10,11,12,13,14,15,16] [19,0] S (wN d) d callee25 d (by decide) d d (fun E1 w1 S1=>c_compare_Patch E1 w1 [(api_Stitch.mk 1 false 0 0)] (.slice aw [(api_Stitch.mk 1 false 0 0)].length ax) [(api_CellStep.mk 2 (api_Stitch.mk 1 false 0 0))] (.slice d4 [(api_CellStep.mk 2 (api_Stitch.mk 1 false 0 0))].length d5) bt ey S1) d (lb d) fun hO a w S=>?_
     obtain ⟨dN,dO,_,rfl,_⟩:=S.mem.know (i:=0) (e:=fRep (rL r_api_Stitch) (hO) bt.1) d
     refine sM S fun a S=>?_
     refine sExtract (vs:=[.slice dN bt.1.length dO,iv bt.2]) (.slice dN bt.1.length dO) S (wN d) d d d d (lb d) fun a S=>sExtract (vs:=[.slice dN bt.1.length dO,iv bt.2]) (iv bt.2) S (wN d) d d d d (lb d) fun a S=>sN S fun a S=>?_
     refine sN S fun a S=>?_
     refine lT (gh _ _ (sSeq (fun jb gi=>sRegion (sBuild [] [.int .u8 0,.bool false,iv 0,iv 0] S (wN d) d d d d (lb d) fun a S=>?_))))
     have S:=S.learn (fRep r_api_Stitch (.agg #[.int .u8 0,.bool false,iv 0,iv 0]) (api_Stitch.mk 0 false 0 0)) d
     refine sLit (r:=r_api_Stitch) (T:=81) (xs:=[(api_Stitch.mk 0 false 0 0)]) [(0,.agg #[.int .u8 0,.bool false,iv 0,iv 0])] 1 [.agg #[.int .u8 0,.bool false,iv 0,iv 0]] [.int .u8 0,.bool false,iv 0,iv 0] (.agg #[.int .u8 0,.bool false,iv 0,iv 0]) 24 S (wN d) d d Try.underlying47 d (by decide) (by decide) (by kernel_rfl) d (fun E1 w1 hE=>All.cons (r_api_Stitch.mono hE (S.mem.know (i:=0) (e:=fRep r_api_Stitch (.agg #[.int .u8 0,.bool false,iv 0,iv 0]) (api_Stitch.mk 0 false 0 0)) d)) (All.nil _ _ _)) d d (lb d) fun a w d6 d7 S=>?_
     obtain ⟨bu,ez,h⟩:=bS h
     have hv_r260:bu=([],8):=Option.some.inj (ez.symm.trans (by exact kc_raddlelaw46_CompareNames_28))
     have S:=S.shutR (r:=r_api_Stitch) (T:=81) (v:=.slice d6 [(api_Stitch.mk 0 false 0 0)].length d7) (xs:=[(api_Stitch.mk 0 false 0 0)]) 0 d
     refine sCall (X:=Value) (f:=25) (vs:=[.slice d6 [(api_Stitch.mk 0 false 0 0)].length d7,.slice none 0 0]) (val:=c_compare_Patch_val bu) (B':=fun _=>[]) (D':=c_compare_Patch_D bu) [] [eBox ap 83 [.int .u8 2,.int .u8 2,.bool false,iv 0,iv 0],eBox aq 83 [.int .u8 3,.int .u8 2,.bool false,iv 0,iv 0],eBox aG 83 [.int .u8 4,.int .u8 0,.bool false,iv 0,iv 0],eBox aO 83 [.int .u8 1,.int .u8 0,.bool false,iv 0,iv 0],eBox ar 81 [.int .u8 2,.bool false,iv 0,iv 0],eBox aC 81 [.int .u8 1,.bool false,iv 0,iv 0],eBox ay 33 [iv a0.2.2.1.X,iv a0.2.2.1.Y],eBox bw 33 [iv ao.2.2.1.X,iv ao.2.2.1.Y],eBox bk 33 [iv am.2.2.1.X,iv am.2.2.1.Y],eBox bg 33 [iv al.2.2.1.X,iv al.2.2.1.Y],eBox aQ 33 [iv a6.2.2.1.X,iv a6.2.2.1.Y],eBox aX 33 [iv af.2.2.1.X,iv af.2.2.1.Y],eBox aW 33 [iv ae.2.2.1.X,iv ae.2.2.1.Y],eBox aV 24 [iv a9.W,iv a9.H,.slice ag a9.Bits.length ah],eBox aP 24 [iv a2.W,iv a2.H,.slice ab a2.Bits.length ac],eBox aK 24 [iv 17,iv 1,.slice a7 aa.length a8],eBox az 24 [iv r3.W,iv r3.H,.slice a4 r3.Bits.length a5]] [fRep (rL r_api_Stitch) (.slice d6 [(api_Stitch.mk 0 false 0 0)].length d7) [(api_Stitch.mk 0 false 0 0)],fRep (rL r_api_CellStep) (.slice none 0 0) ([]:(List api_CellStep))] [0,1,2,3,4,5,6,7,8,9,10,11,12,13,14,15,16] [0,6] S (wN d) d callee25 d (by decide) d d (fun E1 w1 S1=>c_compare_Patch E1 w1 [(api_Stitch.mk 0 false 0 0)] (.slice d6 [(api_Stitch.mk 0 false 0 0)].length d7) ([]:(List api_CellStep)) (.slice none 0 0) bu ez S1) d (lb d) fun hP a w S=>?_
     obtain ⟨dP,dQ,_,rfl,_⟩:=S.mem.know (i:=0) (e:=fRep (rL r_api_Stitch) (hP) bu.1) d
     refine sM S fun a S=>?_
     refine sExtract (vs:=[.slice dP bu.1.length dQ,iv bu.2]) (.slice dP bu.1.length dQ) S (wN d) d d d d (lb d) fun a S=>sExtract (vs:=[.slice dP bu.1.length dQ,iv bu.2]) (iv bu.2) S (wN d) d d d d (lb d) fun a S=>sN S fun a S=>?_
     refine sN S fun a S=>?_
     refine lT (gi _ _ (sSeq (fun jc gj=>?_)))
     obtain ⟨aM,eA,h⟩:=bS h
     have hv_r271:aM=([(api_CellStep.mk 4 (api_Stitch.mk 0 false 0 0)),(api_CellStep.mk 3 (api_Stitch.mk 1 false 0 0)),(api_CellStep.mk 2 (api_Stitch.mk 1 false 0 0))],0):=Option.some.inj (eA.symm.trans (by rw [hv_r183]; exact kc_raddlelaw46_CompareNames_29))
     refine sDraw (nf:=[0,4,5]) (W:=[(1,322,.agg #[.int .u8 3,.int .u8 2,.bool false,iv 0,iv 0]),(2,323,.agg #[.int .u8 4,.int .u8 0,.bool false,iv 0,iv 0]),(3,324,.agg #[.int .u8 2,.int .u8 2,.bool false,iv 0,iv 0])]) d S ?_
     refine nodeCut (fun N W L D=>∀ b1 ba bl bm,N [4,0] ((4,325,.slice b1 [(api_CellStep.mk 3 (api_Stitch.mk 2 false 0 0)),(api_CellStep.mk 4 (api_Stitch.mk 0 false 0 0)),(api_CellStep.mk 2 (api_Stitch.mk 2 false 0 0))].length ba) :: (0,321,.slice bl aJ.length bm) :: W) ((eRow r_api_CellStep 83 (.slice b1 [(api_CellStep.mk 3 (api_Stitch.mk 2 false 0 0)),(api_CellStep.mk 4 (api_Stitch.mk 0 false 0 0)),(api_CellStep.mk 2 (api_Stitch.mk 2 false 0 0))].length ba) [(api_CellStep.mk 3 (api_Stitch.mk 2 false 0 0)),(api_CellStep.mk 4 (api_Stitch.mk 0 false 0 0)),(api_CellStep.mk 2 (api_Stitch.mk 2 false 0 0))]) :: L) ((fRep r_api_CellStep (.agg #[.int .u8 2,.int .u8 2,.bool false,iv 0,iv 0]) (api_CellStep.mk 2 (api_Stitch.mk 2 false 0 0))) :: (fRep r_api_CellStep (.agg #[.int .u8 3,.int .u8 2,.bool false,iv 0,iv 0]) (api_CellStep.mk 3 (api_Stitch.mk 2 false 0 0))) :: (fRep (rL r_api_Stitch) (.slice bl aJ.length bm) aJ) :: D)) (fun b1 ba bl bm=>?_) fun nd1=>?_
     ·refine node_by (A:=anc_raddlelaw46_CompareNames_3) 11 (by kernel_rfl) (by kernel_rfl) (by kernel_rfl) (by kernel_rfl) (by kernel_rfl) [4,0,1,2,3] (by kernel_rfl) (by decide) (by decide) (fY (fD 4 (fD 4 (fD 4 (fY (fN ?_ (fE 5 (fE 5 (fE 5 (fE 5 (fE 5 (trivial)))))))))))) [] (fun q hq=>by cases hq) (fun hY=>absurd (hY 5 (by decide)) (by decide))
      refine ⟨_,[(321,.slice bl aJ.length bm),(325,.slice b1 [(api_CellStep.mk 3 (api_Stitch.mk 2 false 0 0)),(api_CellStep.mk 4 (api_Stitch.mk 0 false 0 0)),(api_CellStep.mk 2 (api_Stitch.mk 2 false 0 0))].length ba)],d,(srcs_of [some 1,some 0] d d d),fun G a w S=>?_⟩
      have S:=S.shutR (r:=r_api_CellStep) (T:=83) (v:=.slice b1 [(api_CellStep.mk 3 (api_Stitch.mk 2 false 0 0)),(api_CellStep.mk 4 (api_Stitch.mk 0 false 0 0)),(api_CellStep.mk 2 (api_Stitch.mk 2 false 0 0))].length ba) (xs:=[(api_CellStep.mk 3 (api_Stitch.mk 2 false 0 0)),(api_CellStep.mk 4 (api_Stitch.mk 0 false 0 0)),(api_CellStep.mk 2 (api_Stitch.mk 2 false 0 0))]) 0 d
      refine sCall (X:=Value) (f:=27) (vs:=[.slice bl aJ.length bm,.slice b1 [(api_CellStep.mk 3 (api_Stitch.mk 2 false 0 0)),(api_CellStep.mk 4 (api_Stitch.mk 0 false 0 0)),(api_CellStep.mk 2 (api_Stitch.mk 2 false 0 0))].length ba]) (val:=c_compare_Back_val aM) (B':=fun _=>[]) (D':=c_compare_Back_D aM) [] [eBox ap 83 [.int .u8 2,.int .u8 2,.bool false,iv 0,iv 0],eBox aq 83 [.int .u8 3,.int .u8 2,.bool false,iv 0,iv 0],eBox aG 83 [.int .u8 4,.int .u8 0,.bool false,iv 0,iv 0],eBox aO 83 [.int .u8 1,.int .u8 0,.bool false,iv 0,iv 0],eBox ar 81 [.int .u8 2,.bool false,iv 0,iv 0],eBox aC 81 [.int .u8 1,.bool false,iv 0,iv 0],eBox ay 33 [iv a0.2.2.1.X,iv a0.2.2.1.Y],eBox bw 33 [iv ao.2.2.1.X,iv ao.2.2.1.Y],eBox bk 33 [iv am.2.2.1.X,iv am.2.2.1.Y],eBox bg 33 [iv al.2.2.1.X,iv al.2.2.1.Y],eBox aQ 33 [iv a6.2.2.1.X,iv a6.2.2.1.Y],eBox aX 33 [iv af.2.2.1.X,iv af.2.2.1.Y],eBox aW 33 [iv ae.2.2.1.X,iv ae.2.2.1.Y],eBox aV 24 [iv a9.W,iv a9.H,.slice ag a9.Bits.length ah],eBox aP 24 [iv a2.W,iv a2.H,.slice ab a2.Bits.length ac],eBox aK 24 [iv 17,iv 1,.slice a7 aa.length a8],eBox az 24 [iv r3.W,iv r3.H,.slice a4 r3.Bits.length a5]] [fRep (rL r_api_Stitch) (.slice bl aJ.length bm) aJ,fRep (rL r_api_CellStep) (.slice b1 [(api_CellStep.mk 3 (api_Stitch.mk 2 false 0 0)),(api_CellStep.mk 4 (api_Stitch.mk 0 false 0 0)),(api_CellStep.mk 2 (api_Stitch.mk 2 false 0 0))].length ba) [(api_CellStep.mk 3 (api_Stitch.mk 2 false 0 0)),(api_CellStep.mk 4 (api_Stitch.mk 0 false 0 0)),(api_CellStep.mk 2 (api_Stitch.mk 2 false 0 0))]] [0,1,2,3,4,5,6,7,8,9,10,11,12,13,14,15,16] [3,0] S (wN d) d callee27 d (by decide) d d (fun E1 w1 S1=>c_compare_Back E1 w1 aJ (.slice bl aJ.length bm) [(api_CellStep.mk 3 (api_Stitch.mk 2 false 0 0)),(api_CellStep.mk 4 (api_Stitch.mk 0 false 0 0)),(api_CellStep.mk 2 (api_Stitch.mk 2 false 0 0))] (.slice b1 [(api_CellStep.mk 3 (api_Stitch.mk 2 false 0 0)),(api_CellStep.mk 4 (api_Stitch.mk 0 false 0 0)),(api_CellStep.mk 2 (api_Stitch.mk 2 false 0 0))].length ba) aM eA S1) d (lb d) fun hQ a w S=>?_
      obtain ⟨bb,bc,_,rfl,_⟩:=S.mem.know (i:=0) (e:=fRep (rL r_api_CellStep) (hQ) aM.1) d
      refine leafL ⟨d,_,_,.inl ⟨326,(.tuple #[.slice bb aM.1.length bc,iv aM.2]),[(6,320,.tuple #[.slice bb aM.1.length bc,iv aM.2]),(7,327,.slice bb aM.1.length bc),(8,328,iv aM.2),(9,70,.slice bb aM.1.length bc),(10,71,iv aM.2)],d,S,hz_of d,?_⟩⟩
      refine node_by (A:=anc_raddlelaw46_CompareNames_3) 11 (by kernel_rfl) (by kernel_rfl) (by kernel_rfl) (by kernel_rfl) (by kernel_rfl) [6,7,8,9,10,5,4,0,1,2,3] (by kernel_rfl) (by decide) (by decide) (fY (fD 5 (fD 5 (fD 5 (fY (fY (fF ?_ (fF ?_ (fF ?_ (fF ?_ (fF ?_ (trivial)))))))))))) [(37,.bool (b0.2 == 4)),(38,.pointer (some ⟨aC,0,none⟩)),(41,.pointer (some ⟨aG,0,none⟩)),(42,.pointer (some ⟨aq,0,none⟩)),(43,.pointer (some ⟨ap,0,none⟩)),(44,.slice bE aL.1.length bF),(45,iv aL.2.1),(46,iv aL.2.2),(47,.slice bV aI.1.length bW),(48,iv aI.2.1),(49,iv aI.2.2),(50,.slice bG aH.1.length bH),(51,iv aH.2.1),(52,iv aH.2.2),(55,iv bB.2),(57,iv bn.2),(59,iv bo.2),(61,iv bp.2),(63,iv bq.2),(65,iv br.2),(67,iv bt.2),(69,iv bu.2),(70,.slice bb aM.1.length bc),(71,iv aM.2)] (fin_of [none,none,none,none,none,none,none,none,none,none,none,none,none,none,none,none,none,none,none,none,none,none,some 3,some 4] d (by kernel_rfl) (by kernel_rfl)) (fun _ a w S=>?_)
      ·exact fM 0 (some 5) d d d d (.inl d) d d d
      ·refine fJ [(320,_)] 1 [some 0] fun G a w S=>?_
       exact sExtract (vs:=[.slice bb aM.1.length bc,iv aM.2]) (.slice bb aM.1.length bc) S (wN d) d d d d (lb d) fun a S=>leafL ⟨d,S⟩
      ·refine fJ [(320,_)] 2 [some 0] fun G a w S=>?_
       exact sExtract (vs:=[.slice bb aM.1.length bc,iv aM.2]) (iv aM.2) S (wN d) d d d d (lb d) fun a S=>leafL ⟨d,S⟩
      ·exact fM 3 (some 1) d d d d (.inr d) d d d
      ·exact fM 4 (some 2) d d d d (.inr d) d d d
      refine leafT (gj _ _ ?_)
      refine sSeq (fun jd gk=>sRegion (sBuild [(0,.int .u8 9),(2,iv 200)] [.int .u8 9,.bool false,iv 200,iv 0] S (wN d) d d d d (lb d) fun a S=>sBuild [(0,.int .u8 3),(1,.agg #[.int .u8 9,.bool false,iv 200,iv 0])] [.int .u8 3,.int .u8 9,.bool false,iv 200,iv 0] S (wN d) d d d d (lb d) fun a S=>sLoadN (p:=aq) (off:=0) (T:=83) (vs:=[.int .u8 3,.int .u8 2,.bool false,iv 0,iv 0]) 1 [.int .u8 3,.int .u8 2,.bool false,iv 0,iv 0] S (wN d) d d d d d d d (lb d) fun a S=>?_))
      have S:=S.learn (fRep r_api_CellStep (.agg #[.int .u8 3,.int .u8 9,.bool false,iv 200,iv 0]) (api_CellStep.mk 3 (api_Stitch.mk 9 false 200 0))) d
      refine sLit (r:=r_api_CellStep) (T:=83) (xs:=[(api_CellStep.mk 3 (api_Stitch.mk 9 false 200 0)),(api_CellStep.mk 3 (api_Stitch.mk 2 false 0 0))]) [(0,.agg #[.int .u8 3,.int .u8 9,.bool false,iv 200,iv 0]),(1,.agg #[.int .u8 3,.int .u8 2,.bool false,iv 0,iv 0])] 2 [.agg #[.int .u8 3,.int .u8 9,.bool false,iv 200,iv 0],.agg #[.int .u8 3,.int .u8 2,.bool false,iv 0,iv 0]] [.int .u8 3,.int .u8 9,.bool false,iv 200,iv 0,.int .u8 3,.int .u8 2,.bool false,iv 0,iv 0] (.agg #[.int .u8 0,.int .u8 0,.bool false,iv 0,iv 0]) 32 S (wN d) d d Try.underlying48 d (by decide) (by decide) (by kernel_rfl) d (fun E1 w1 hE=>All.cons (r_api_CellStep.mono hE (S.mem.know (i:=0) (e:=fRep r_api_CellStep (.agg #[.int .u8 3,.int .u8 9,.bool false,iv 200,iv 0]) (api_CellStep.mk 3 (api_Stitch.mk 9 false 200 0))) d)) (All.cons (r_api_CellStep.mono hE (S.mem.know (i:=4) (e:=fRep r_api_CellStep (.agg #[.int .u8 3,.int .u8 2,.bool false,iv 0,iv 0]) (api_CellStep.mk 3 (api_Stitch.mk 2 false 0 0))) d)) (All.nil _ _ _))) d d (lb d) fun a w d8 d9 S=>?_
      obtain ⟨bx,eB,h⟩:=bS h
      have hv_r287:bx=([],4):=Option.some.inj (eB.symm.trans (by exact kc_raddlelaw46_CompareNames_30))
      have S:=S.shutR (r:=r_api_CellStep) (T:=83) (v:=.slice d8 [(api_CellStep.mk 3 (api_Stitch.mk 9 false 200 0)),(api_CellStep.mk 3 (api_Stitch.mk 2 false 0 0))].length d9) (xs:=[(api_CellStep.mk 3 (api_Stitch.mk 9 false 200 0)),(api_CellStep.mk 3 (api_Stitch.mk 2 false 0 0))]) 0 d
      refine sCall (X:=Value) (f:=25) (vs:=[.slice none 0 0,.slice d8 [(api_CellStep.mk 3 (api_Stitch.mk 9 false 200 0)),(api_CellStep.mk 3 (api_Stitch.mk 2 false 0 0))].length d9]) (val:=c_compare_Patch_val bx) (B':=fun _=>[]) (D':=c_compare_Patch_D bx) [] [eBox ap 83 [.int .u8 2,.int .u8 2,.bool false,iv 0,iv 0],eBox aq 83 [.int .u8 3,.int .u8 2,.bool false,iv 0,iv 0],eBox aG 83 [.int .u8 4,.int .u8 0,.bool false,iv 0,iv 0],eBox aO 83 [.int .u8 1,.int .u8 0,.bool false,iv 0,iv 0],eBox ar 81 [.int .u8 2,.bool false,iv 0,iv 0],eBox aC 81 [.int .u8 1,.bool false,iv 0,iv 0],eBox ay 33 [iv a0.2.2.1.X,iv a0.2.2.1.Y],eBox bw 33 [iv ao.2.2.1.X,iv ao.2.2.1.Y],eBox bk 33 [iv am.2.2.1.X,iv am.2.2.1.Y],eBox bg 33 [iv al.2.2.1.X,iv al.2.2.1.Y],eBox aQ 33 [iv a6.2.2.1.X,iv a6.2.2.1.Y],eBox aX 33 [iv af.2.2.1.X,iv af.2.2.1.Y],eBox aW 33 [iv ae.2.2.1.X,iv ae.2.2.1.Y],eBox aV 24 [iv a9.W,iv a9.H,.slice ag a9.Bits.length ah],eBox aP 24 [iv a2.W,iv a2.H,.slice ab a2.Bits.length ac],eBox aK 24 [iv 17,iv 1,.slice a7 aa.length a8],eBox az 24 [iv r3.W,iv r3.H,.slice a4 r3.Bits.length a5]] [fRep (rL r_api_Stitch) (.slice none 0 0) ([]:(List api_Stitch)),fRep (rL r_api_CellStep) (.slice d8 [(api_CellStep.mk 3 (api_Stitch.mk 9 false 200 0)),(api_CellStep.mk 3 (api_Stitch.mk 2 false 0 0))].length d9) [(api_CellStep.mk 3 (api_Stitch.mk 9 false 200 0)),(api_CellStep.mk 3 (api_Stitch.mk 2 false 0 0))]] [0,1,2,3,4,5,6,7,8,9,10,11,12,13,14,15,16] [36,0] S (wN d) d callee25 d (by decide) d d (fun E1 w1 S1=>c_compare_Patch E1 w1 ([]:(List api_Stitch)) (.slice none 0 0) [(api_CellStep.mk 3 (api_Stitch.mk 9 false 200 0)),(api_CellStep.mk 3 (api_Stitch.mk 2 false 0 0))] (.slice d8 [(api_CellStep.mk 3 (api_Stitch.mk 9 false 200 0)),(api_CellStep.mk 3 (api_Stitch.mk 2 false 0 0))].length d9) bx eB S1) d (lb d) fun hU a w S=>?_
      obtain ⟨dR,dS,_,rfl,_⟩:=S.mem.know (i:=0) (e:=fRep (rL r_api_Stitch) (hU) bx.1) d
      refine sM S fun a S=>?_
      refine sExtract (vs:=[.slice dR bx.1.length dS,iv bx.2]) (.slice dR bx.1.length dS) S (wN d) d d d d (lb d) fun a S=>sExtract (vs:=[.slice dR bx.1.length dS,iv bx.2]) (iv bx.2) S (wN d) d d d d (lb d) fun a S=>sN S fun a S=>?_
      refine sN S fun a S=>?_
      refine lT (gk _ _ (sSeq (fun je gl=>sRegion (sBuild [] [.int .u8 0,.bool false,iv 0,iv 0] S (wN d) d d d d (lb d) fun a S=>sLit (r:=r_api_Stitch) (T:=81) (xs:=[(api_Stitch.mk 0 false 0 0)]) [(0,.agg #[.int .u8 0,.bool false,iv 0,iv 0])] 1 [.agg #[.int .u8 0,.bool false,iv 0,iv 0]] [.int .u8 0,.bool false,iv 0,iv 0] (.agg #[.int .u8 0,.bool false,iv 0,iv 0]) 24 S (wN d) d d Try.underlying47 d (by decide) (by decide) (by kernel_rfl) d (fun E1 w1 hE=>All.cons (r_api_Stitch.mono hE (S.mem.know (i:=10) (e:=fRep r_api_Stitch (.agg #[.int .u8 0,.bool false,iv 0,iv 0]) (api_Stitch.mk 0 false 0 0)) d)) (All.nil _ _ _)) d d (lb d) fun a w da db S=>?_))))
      obtain ⟨aZ,eC,h⟩:=bS h
      have hv_r295:aZ=([],(0,8)):=Option.some.inj (eC.symm.trans (by exact kc_raddlelaw46_CompareNames_31))
      have S:=S.shutR (r:=r_api_Stitch) (T:=81) (v:=.slice da [(api_Stitch.mk 0 false 0 0)].length db) (xs:=[(api_Stitch.mk 0 false 0 0)]) 0 d
      refine sCall (X:=Value) (f:=23) (vs:=[.slice da [(api_Stitch.mk 0 false 0 0)].length db,.slice none 0 0]) (val:=c_compare_Edits_val aZ) (B':=fun _=>[]) (D':=c_compare_Edits_D aZ) [] [eBox ap 83 [.int .u8 2,.int .u8 2,.bool false,iv 0,iv 0],eBox aq 83 [.int .u8 3,.int .u8 2,.bool false,iv 0,iv 0],eBox aG 83 [.int .u8 4,.int .u8 0,.bool false,iv 0,iv 0],eBox aO 83 [.int .u8 1,.int .u8 0,.bool false,iv 0,iv 0],eBox ar 81 [.int .u8 2,.bool false,iv 0,iv 0],eBox aC 81 [.int .u8 1,.bool false,iv 0,iv 0],eBox ay 33 [iv a0.2.2.1.X,iv a0.2.2.1.Y],eBox bw 33 [iv ao.2.2.1.X,iv ao.2.2.1.Y],eBox bk 33 [iv am.2.2.1.X,iv am.2.2.1.Y],eBox bg 33 [iv al.2.2.1.X,iv al.2.2.1.Y],eBox aQ 33 [iv a6.2.2.1.X,iv a6.2.2.1.Y],eBox aX 33 [iv af.2.2.1.X,iv af.2.2.1.Y],eBox aW 33 [iv ae.2.2.1.X,iv ae.2.2.1.Y],eBox aV 24 [iv a9.W,iv a9.H,.slice ag a9.Bits.length ah],eBox aP 24 [iv a2.W,iv a2.H,.slice ab a2.Bits.length ac],eBox aK 24 [iv 17,iv 1,.slice a7 aa.length a8],eBox az 24 [iv r3.W,iv r3.H,.slice a4 r3.Bits.length a5]] [fRep (rL r_api_Stitch) (.slice da [(api_Stitch.mk 0 false 0 0)].length db) [(api_Stitch.mk 0 false 0 0)],fRep (rL r_api_Stitch) (.slice none 0 0) ([]:(List api_Stitch))] [0,1,2,3,4,5,6,7,8,9,10,11,12,13,14,15,16] [0,38] S (wN d) d callee23 d (by decide) d d (fun E1 w1 S1=>c_compare_Edits E1 w1 [(api_Stitch.mk 0 false 0 0)] (.slice da [(api_Stitch.mk 0 false 0 0)].length db) ([]:(List api_Stitch)) (.slice none 0 0) aZ eC S1) d (lb d) fun hZ a w S=>?_
      obtain ⟨dc,de,_,rfl,_⟩:=S.mem.know (i:=0) (e:=fRep (rL r_api_CellStep) (hZ) aZ.1) d
      refine sM S fun a S=>?_
      refine sExtract (vs:=[.slice dc aZ.1.length de,iv aZ.2.1,iv aZ.2.2]) (.slice dc aZ.1.length de) S (wN d) d d d d (lb d) fun a S=>sExtract (vs:=[.slice dc aZ.1.length de,iv aZ.2.1,iv aZ.2.2]) (iv aZ.2.1) S (wN d) d d d d (lb d) fun a S=>sExtract (vs:=[.slice dc aZ.1.length de,iv aZ.2.1,iv aZ.2.2]) (iv aZ.2.2) S (wN d) d d d d (lb d) fun a S=>sN S fun a S=>?_
      refine sN S fun a S=>?_
      refine sN S fun a S=>?_
      refine lT (gl _ _ (sSeq (fun jf gm=>sRegion ?_)))
      obtain ⟨c1,eD,h⟩:=bS h
      have hv_m303:c1=[(api_Stitch.mk 0 false 0 0),(api_Stitch.mk 0 false 0 0),(api_Stitch.mk 0 false 0 0),(api_Stitch.mk 0 false 0 0),(api_Stitch.mk 0 false 0 0),(api_Stitch.mk 0 false 0 0),(api_Stitch.mk 0 false 0 0),(api_Stitch.mk 0 false 0 0),(api_Stitch.mk 0 false 0 0),(api_Stitch.mk 0 false 0 0),(api_Stitch.mk 0 false 0 0),(api_Stitch.mk 0 false 0 0),(api_Stitch.mk 0 false 0 0),(api_Stitch.mk 0 false 0 0),(api_Stitch.mk 0 false 0 0),(api_Stitch.mk 0 false 0 0),(api_Stitch.mk 0 false 0 0),(api_Stitch.mk 0 false 0 0),(api_Stitch.mk 0 false 0 0),(api_Stitch.mk 0 false 0 0),(api_Stitch.mk 0 false 0 0),(api_Stitch.mk 0 false 0 0),(api_Stitch.mk 0 false 0 0),(api_Stitch.mk 0 false 0 0),(api_Stitch.mk 0 false 0 0),(api_Stitch.mk 0 false 0 0),(api_Stitch.mk 0 false 0 0),(api_Stitch.mk 0 false 0 0),(api_Stitch.mk 0 false 0 0),(api_Stitch.mk 0 false 0 0),(api_Stitch.mk 0 false 0 0),(api_Stitch.mk 0 false 0 0),(api_Stitch.mk 0 false 0 0),(api_Stitch.mk 0 false 0 0),(api_Stitch.mk 0 false 0 0),(api_Stitch.mk 0 false 0 0),(api_Stitch.mk 0 false 0 0),(api_Stitch.mk 0 false 0 0),(api_Stitch.mk 0 false 0 0),(api_Stitch.mk 0 false 0 0),(api_Stitch.mk 0 false 0 0),(api_Stitch.mk 0 false 0 0),(api_Stitch.mk 0 false 0 0),(api_Stitch.mk 0 false 0 0),(api_Stitch.mk 0 false 0 0),(api_Stitch.mk 0 false 0 0),(api_Stitch.mk 0 false 0 0),(api_Stitch.mk 0 false 0 0),(api_Stitch.mk 0 false 0 0),(api_Stitch.mk 0 false 0 0),(api_Stitch.mk 0 false 0 0),(api_Stitch.mk 0 false 0 0),(api_Stitch.mk 0 false 0 0),(api_Stitch.mk 0 false 0 0),(api_Stitch.mk 0 false 0 0),(api_Stitch.mk 0 false 0 0),(api_Stitch.mk 0 false 0 0),(api_Stitch.mk 0 false 0 0),(api_Stitch.mk 0 false 0 0),(api_Stitch.mk 0 false 0 0),(api_Stitch.mk 0 false 0 0),(api_Stitch.mk 0 false 0 0),(api_Stitch.mk 0 false 0 0),(api_Stitch.mk 0 false 0 0),(api_Stitch.mk 0 false 0 0),(api_Stitch.mk 0 false 0 0),(api_Stitch.mk 0 false 0 0),(api_Stitch.mk 0 false 0 0),(api_Stitch.mk 0 false 0 0),(api_Stitch.mk 0 false 0 0),(api_Stitch.mk 0 false 0 0),(api_Stitch.mk 0 false 0 0),(api_Stitch.mk 0 false 0 0),(api_Stitch.mk 0 false 0 0),(api_Stitch.mk 0 false 0 0),(api_Stitch.mk 0 false 0 0),(api_Stitch.mk 0 false 0 0),(api_Stitch.mk 0 false 0 0),(api_Stitch.mk 0 false 0 0),(api_Stitch.mk 0 false 0 0),(api_Stitch.mk 0 false 0 0),(api_Stitch.mk 0 false 0 0),(api_Stitch.mk 0 false 0 0),(api_Stitch.mk 0 false 0 0),(api_Stitch.mk 0 false 0 0),(api_Stitch.mk 0 false 0 0),(api_Stitch.mk 0 false 0 0),(api_Stitch.mk 0 false 0 0),(api_Stitch.mk 0 false 0 0),(api_Stitch.mk 0 false 0 0),(api_Stitch.mk 0 false 0 0),(api_Stitch.mk 0 false 0 0),(api_Stitch.mk 0 false 0 0),(api_Stitch.mk 0 false 0 0),(api_Stitch.mk 0 false 0 0),(api_Stitch.mk 0 false 0 0),(api_Stitch.mk 0 false 0 0),(api_Stitch.mk 0 false 0 0),(api_Stitch.mk 0 false 0 0),(api_Stitch.mk 0 false 0 0),(api_Stitch.mk 0 false 0 0),(api_Stitch.mk 0 false 0 0),(api_Stitch.mk 0 false 0 0),(api_Stitch.mk 0 false 0 0),(api_Stitch.mk 0 false 0 0),(api_Stitch.mk 0 false 0 0),(api_Stitch.mk 0 false 0 0),(api_Stitch.mk 0 false 0 0),(api_Stitch.mk 0 false 0 0),(api_Stitch.mk 0 false 0 0),(api_Stitch.mk 0 false 0 0),(api_Stitch.mk 0 false 0 0),(api_Stitch.mk 0 false 0 0),(api_Stitch.mk 0 false 0 0),(api_Stitch.mk 0 false 0 0),(api_Stitch.mk 0 false 0 0),(api_Stitch.mk 0 false 0 0),(api_Stitch.mk 0 false 0 0),(api_Stitch.mk 0 false 0 0),(api_Stitch.mk 0 false 0 0),(api_Stitch.mk 0 false 0 0),(api_Stitch.mk 0 false 0 0),(api_Stitch.mk 0 false 0 0),(api_Stitch.mk 0 false 0 0),(api_Stitch.mk 0 false 0 0),(api_Stitch.mk 0 false 0 0),(api_Stitch.mk 0 false 0 0),(api_Stitch.mk 0 false 0 0),(api_Stitch.mk 0 false 0 0),(api_Stitch.mk 0 false 0 0),(api_Stitch.mk 0 false 0 0),(api_Stitch.mk 0 false 0 0),(api_Stitch.mk 0 false 0 0),(api_Stitch.mk 0 false 0 0),(api_Stitch.mk 0 false 0 0),(api_Stitch.mk 0 false 0 0),(api_Stitch.mk 0 false 0 0),(api_Stitch.mk 0 false 0 0),(api_Stitch.mk 0 false 0 0),(api_Stitch.mk 0 false 0 0),(api_Stitch.mk 0 false 0 0),(api_Stitch.mk 0 false 0 0),(api_Stitch.mk 0 false 0 0),(api_Stitch.mk 0 false 0 0),(api_Stitch.mk 0 false 0 0),(api_Stitch.mk 0 false 0 0),(api_Stitch.mk 0 false 0 0),(api_Stitch.mk 0 false 0 0),(api_Stitch.mk 0 false 0 0),(api_Stitch.mk 0 false 0 0),(api_Stitch.mk 0 false 0 0),(api_Stitch.mk 0 false 0 0),(api_Stitch.mk 0 false 0 0),(api_Stitch.mk 0 false 0 0),(api_Stitch.mk 0 false 0 0),(api_Stitch.mk 0 false 0 0),(api_Stitch.mk 0 false 0 0),(api_Stitch.mk 0 false 0 0),(api_Stitch.mk 0 false 0 0),(api_Stitch.mk 0 false 0 0),(api_Stitch.mk 0 false 0 0),(api_Stitch.mk 0 false 0 0),(api_Stitch.mk 0 false 0 0),(api_Stitch.mk 0 false 0 0),(api_Stitch.mk 0 false 0 0),(api_Stitch.mk 0 false 0 0),(api_Stitch.mk 0 false 0 0),(api_Stitch.mk 0 false 0 0),(api_Stitch.mk 0 false 0 0),(api_Stitch.mk 0 false 0 0),(api_Stitch.mk 0 false 0 0),(api_Stitch.mk 0 false 0 0),(api_Stitch.mk 0 false 0 0),(api_Stitch.mk 0 false 0 0),(api_Stitch.mk 0 false 0 0),(api_Stitch.mk 0 false 0 0),(api_Stitch.mk 0 false 0 0),(api_Stitch.mk 0 false 0 0),(api_Stitch.mk 0 false 0 0),(api_Stitch.mk 0 false 0 0),(api_Stitch.mk 0 false 0 0),(api_Stitch.mk 0 false 0 0),(api_Stitch.mk 0 false 0 0),(api_Stitch.mk 0 false 0 0),(api_Stitch.mk 0 false 0 0),(api_Stitch.mk 0 false 0 0),(api_Stitch.mk 0 false 0 0),(api_Stitch.mk 0 false 0 0),(api_Stitch.mk 0 false 0 0),(api_Stitch.mk 0 false 0 0),(api_Stitch.mk 0 false 0 0),(api_Stitch.mk 0 false 0 0),(api_Stitch.mk 0 false 0 0),(api_Stitch.mk 0 false 0 0),(api_Stitch.mk 0 false 0 0),(api_Stitch.mk 0 false 0 0),(api_Stitch.mk 0 false 0 0),(api_Stitch.mk 0 false 0 0),(api_Stitch.mk 0 false 0 0),(api_Stitch.mk 0 false 0 0),(api_Stitch.mk 0 false 0 0)]:=Option.some.inj (eD.symm.trans (by kernel_rfl))
      refine sMakeG (r:=r_api_Stitch) (m:=201) (xs:=c1) (.agg #[.int .u8 0,.bool false,iv 0,iv 0]) (api_Stitch.mk 0 false 0 0) 24 S (wN d) d Try.underlying47 d (by decide) (fun _ _=>d) d d eD d (lb d) fun a w df dg S=>?_
      obtain ⟨aU,eE,h⟩:=bS h
      have hv_r305:aU=([],(0,4)):=Option.some.inj (eE.symm.trans (by rw [hv_m303]; exact kc_raddlelaw46_CompareNames_32))
      have S:=S.shutR (r:=r_api_Stitch) (T:=81) (v:=.slice df c1.length dg) (xs:=c1) 0 d
      refine sCall (X:=Value) (f:=23) (vs:=[.slice none 0 0,.slice df c1.length dg]) (val:=c_compare_Edits_val aU) (B':=fun _=>[]) (D':=c_compare_Edits_D aU) [] [eBox ap 83 [.int .u8 2,.int .u8 2,.bool false,iv 0,iv 0],eBox aq 83 [.int .u8 3,.int .u8 2,.bool false,iv 0,iv 0],eBox aG 83 [.int .u8 4,.int .u8 0,.bool false,iv 0,iv 0],eBox aO 83 [.int .u8 1,.int .u8 0,.bool false,iv 0,iv 0],eBox ar 81 [.int .u8 2,.bool false,iv 0,iv 0],eBox aC 81 [.int .u8 1,.bool false,iv 0,iv 0],eBox ay 33 [iv a0.2.2.1.X,iv a0.2.2.1.Y],eBox bw 33 [iv ao.2.2.1.X,iv ao.2.2.1.Y],eBox bk 33 [iv am.2.2.1.X,iv am.2.2.1.Y],eBox bg 33 [iv al.2.2.1.X,iv al.2.2.1.Y],eBox aQ 33 [iv a6.2.2.1.X,iv a6.2.2.1.Y],eBox aX 33 [iv af.2.2.1.X,iv af.2.2.1.Y],eBox aW 33 [iv ae.2.2.1.X,iv ae.2.2.1.Y],eBox aV 24 [iv a9.W,iv a9.H,.slice ag a9.Bits.length ah],eBox aP 24 [iv a2.W,iv a2.H,.slice ab a2.Bits.length ac],eBox aK 24 [iv 17,iv 1,.slice a7 aa.length a8],eBox az 24 [iv r3.W,iv r3.H,.slice a4 r3.Bits.length a5]] [fRep (rL r_api_Stitch) (.slice none 0 0) ([]:(List api_Stitch)),fRep (rL r_api_Stitch) (.slice df c1.length dg) c1] [0,1,2,3,4,5,6,7,8,9,10,11,12,13,14,15,16] [40,0] S (wN d) d callee23 d (by decide) d d (fun E1 w1 S1=>c_compare_Edits E1 w1 ([]:(List api_Stitch)) (.slice none 0 0) c1 (.slice df c1.length dg) aU eE S1) d (lb d) fun i0 a w S=>?_
      obtain ⟨dh,di,_,rfl,_⟩:=S.mem.know (i:=0) (e:=fRep (rL r_api_CellStep) (i0) aU.1) d
      refine sM S fun a S=>?_
      refine sExtract (vs:=[.slice dh aU.1.length di,iv aU.2.1,iv aU.2.2]) (.slice dh aU.1.length di) S (wN d) d d d d (lb d) fun a S=>sExtract (vs:=[.slice dh aU.1.length di,iv aU.2.1,iv aU.2.2]) (iv aU.2.1) S (wN d) d d d d (lb d) fun a S=>sExtract (vs:=[.slice dh aU.1.length di,iv aU.2.1,iv aU.2.2]) (iv aU.2.2) S (wN d) d d d d (lb d) fun a S=>sN S fun a S=>?_
      refine sN S fun a S=>?_
      refine sN S fun a S=>?_
      refine lT (gm _ _ (sSeq (fun jg gn=>sRegion (sM S fun a S=>?_))))
      refine sBin _ S (wN d) d d d (bEq _ _ _ _ .i64 aL.2.2 0) d (lb d) fun a S=>sM S fun a S=>?_
      rcases iS h with ⟨cj,h⟩ | ⟨cj,h⟩
      rotate_left
      ·exact absurd cj (by rw [hv_r171]; decide)
      refine sMove (iv aL.2.1) S (wG 2 true 352 d d d cj) (.inl d) d d (lb d) fun a S=>sBin _ S (wG 2 true 352 d d d cj) d d d (bEq _ _ _ _ .i64 aL.2.1 2) d (lb d) fun a S=>sPickT (.bool (aL.2.1 == 2)) S (wN d) d d cj d d (lb d) fun a S=>sM S fun a S=>?_
      rcases iS h with ⟨bz,h⟩ | ⟨bz,h⟩
      rotate_left
      ·exact absurd bz (by rw [hv_r171]; decide)
      refine sMove (.slice bE aL.1.length bF) S (wG 6 true 356 d d d bz) (.inl d) d d (lb d) fun a S=>sBuild [(0,.int .u8 1),(1,.bool true)] [.int .u8 1,.bool true,iv 0,iv 0] S (wG 6 true 356 d d d bz) d d d d (lb d) fun a S=>sBuild [(0,.int .u8 2),(1,.agg #[.int .u8 1,.bool true,iv 0,iv 0])] [.int .u8 2,.int .u8 1,.bool true,iv 0,iv 0] S (wG 6 true 356 d d d bz) d d d d (lb d) fun a S=>sLoadN (p:=ap) (off:=0) (T:=83) (vs:=[.int .u8 2,.int .u8 2,.bool false,iv 0,iv 0]) 0 [.int .u8 2,.int .u8 2,.bool false,iv 0,iv 0] S (wG 6 true 356 d d d bz) d d d d d d d (lb d) fun a S=>?_
      have S:=S.learn (fRep r_api_CellStep (.agg #[.int .u8 2,.int .u8 1,.bool true,iv 0,iv 0]) (api_CellStep.mk 2 (api_Stitch.mk 1 true 0 0))) d
      refine sLit (r:=r_api_CellStep) (T:=83) (xs:=[(api_CellStep.mk 2 (api_Stitch.mk 1 true 0 0)),(api_CellStep.mk 2 (api_Stitch.mk 2 false 0 0))]) [(0,.agg #[.int .u8 2,.int .u8 1,.bool true,iv 0,iv 0]),(1,.agg #[.int .u8 2,.int .u8 2,.bool false,iv 0,iv 0])] 2 [.agg #[.int .u8 2,.int .u8 1,.bool true,iv 0,iv 0],.agg #[.int .u8 2,.int .u8 2,.bool false,iv 0,iv 0]] [.int .u8 2,.int .u8 1,.bool true,iv 0,iv 0,.int .u8 2,.int .u8 2,.bool false,iv 0,iv 0] (.agg #[.int .u8 0,.int .u8 0,.bool false,iv 0,iv 0]) 32 S (wG 6 true 356 d d d bz) d d Try.underlying48 d (by decide) (by decide) (by kernel_rfl) d (fun E1 w1 hE=>All.cons (r_api_CellStep.mono hE (S.mem.know (i:=0) (e:=fRep r_api_CellStep (.agg #[.int .u8 2,.int .u8 1,.bool true,iv 0,iv 0]) (api_CellStep.mk 2 (api_Stitch.mk 1 true 0 0))) d)) (All.cons (r_api_CellStep.mono hE (S.mem.know (i:=10) (e:=fRep r_api_CellStep (.agg #[.int .u8 2,.int .u8 2,.bool false,iv 0,iv 0]) (api_CellStep.mk 2 (api_Stitch.mk 2 false 0 0))) d)) (All.nil _ _ _))) d d (lb d) fun a w ck cl S=>?_
      obtain ⟨ef,eF,h⟩:=bS h
      have hv_r315:ef=true:=Option.some.inj (eF.symm.trans (by rw [hv_r171]; exact kc_raddlelaw46_CompareNames_33))
      have S1:=S.mem
      have S1:=S1.shutR (r:=r_api_CellStep) (T:=83) (v:=.slice ck [(api_CellStep.mk 2 (api_Stitch.mk 1 true 0 0)),(api_CellStep.mk 2 (api_Stitch.mk 2 false 0 0))].length cl) (xs:=[(api_CellStep.mk 2 (api_Stitch.mk 1 true 0 0)),(api_CellStep.mk 2 (api_Stitch.mk 2 false 0 0))]) 0 d
      refine sCallQ (X:=Unit) (f:=29) (vs:=[.slice bE aL.1.length bF,.slice ck [(api_CellStep.mk 2 (api_Stitch.mk 1 true 0 0)),(api_CellStep.mk 2 (api_Stitch.mk 2 false 0 0))].length cl]) (val:=fun _=>.bool ef) S (wG 6 true 356 d d d bz) d callee29 d (S1.quiet [44,0] d) (fun E1 w1 S1=>c_raddleref46_Same E1 w1 aL.1 (.slice bE aL.1.length bF) [(api_CellStep.mk 2 (api_Stitch.mk 1 true 0 0)),(api_CellStep.mk 2 (api_Stitch.mk 2 false 0 0))] (.slice ck [(api_CellStep.mk 2 (api_Stitch.mk 1 true 0 0)),(api_CellStep.mk 2 (api_Stitch.mk 2 false 0 0))].length cl) ef eF S1) d (lb d) fun _ a w S=>?_
      refine sPickT (.bool ef) S (wN d) d d bz d d (lb d) fun a S=>sM S fun a S=>?_
      rcases iS h with ⟨cm,h⟩ | ⟨cm,h⟩
      rotate_left
      ·exact absurd cm (by rw [hv_r315]; decide)
      refine sMove (iv aI.2.2) S (wG 14 true 364 d d d cm) (.inl d) d d (lb d) fun a S=>sBin _ S (wG 14 true 364 d d d cm) d d d (bEq _ _ _ _ .i64 aI.2.2 0) d (lb d) fun a S=>sPickT (.bool (aI.2.2 == 0)) S (wN d) d d cm d d (lb d) fun a S=>sM S fun a S=>?_
      rcases iS h with ⟨bX,h⟩ | ⟨bX,h⟩
      rotate_left
      ·exact absurd bX (by rw [hv_r177]; decide)
      refine sMove (.slice bV aI.1.length bW) S (wG 18 true 368 d d d bX) (.inl d) d d (lb d) fun a S=>sLen S (wG 18 true 368 d d d bX) d Try.underlying48 d d (lb d) fun a S=>sBin _ S (wG 18 true 368 d d d bX) d d d (bEq _ _ _ _ .i64 (aI.1.length:Int) 0) d (lb d) fun a S=>sPickT (.bool ((aI.1.length:Int) == 0)) S (wN d) d d bX d d (lb d) fun a S=>sM S fun a S=>?_
      rcases iS h with ⟨cn,h⟩ | ⟨cn,h⟩
      rotate_left
      ·exact absurd cn (by rw [hv_r177]; decide)
      refine sMove (iv aI.2.1) S (wG 23 true 373 d d d cn) (.inl d) d d (lb d) fun a S=>sBin _ S (wG 23 true 373 d d d cn) d d d (bEq _ _ _ _ .i64 aI.2.1 0) d (lb d) fun a S=>sPickT (.bool (aI.2.1 == 0)) S (wN d) d d cn d d (lb d) fun a S=>sM S fun a S=>?_
      rcases iS h with ⟨co,h⟩ | ⟨co,h⟩
      rotate_left
      ·exact absurd co (by rw [hv_r177]; decide)
      refine sMove (iv aH.2.2) S (wG 27 true 377 d d d co) (.inl d) d d (lb d) fun a S=>sBin _ S (wG 27 true 377 d d d co) d d d (bEq _ _ _ _ .i64 aH.2.2 0) d (lb d) fun a S=>sPickT (.bool (aH.2.2 == 0)) S (wN d) d d co d d (lb d) fun a S=>sM S fun a S=>?_
      rcases iS h with ⟨cp,h⟩ | ⟨cp,h⟩
      rotate_left
      ·exact absurd cp (by rw [hv_r193]; decide)
      refine sMove (iv aH.2.1) S (wG 31 true 381 d d d cp) (.inl d) d d (lb d) fun a S=>sBin _ S (wG 31 true 381 d d d cp) d d d (bEq _ _ _ _ .i64 aH.2.1 3) d (lb d) fun a S=>sPickT (.bool (aH.2.1 == 3)) S (wN d) d d cp d d (lb d) fun a S=>sM S fun a S=>?_
      rcases iS h with ⟨bA,h⟩ | ⟨bA,h⟩
      rotate_left
      ·exact absurd bA (by rw [hv_r193]; decide)
      refine sMove (.slice bG aH.1.length bH) S (wG 35 true 385 d d d bA) (.inl d) d d (lb d) fun a S=>sLoadN (p:=ap) (off:=0) (T:=83) (vs:=[.int .u8 2,.int .u8 2,.bool false,iv 0,iv 0]) 1 [.int .u8 2,.int .u8 2,.bool false,iv 0,iv 0] S (wG 35 true 385 d d d bA) d d d d d d d (lb d) fun a S=>sLoadN (p:=ap) (off:=0) (T:=83) (vs:=[.int .u8 2,.int .u8 2,.bool false,iv 0,iv 0]) 1 [.int .u8 2,.int .u8 2,.bool false,iv 0,iv 0] S (wG 35 true 385 d d d bA) d d d d d d d (lb d) fun a S=>sLoadN (p:=aq) (off:=0) (T:=83) (vs:=[.int .u8 3,.int .u8 2,.bool false,iv 0,iv 0]) 2 [.int .u8 3,.int .u8 2,.bool false,iv 0,iv 0] S (wG 35 true 385 d d d bA) d d d d d d d (lb d) fun a S=>sLit (r:=r_api_CellStep) (T:=83) (xs:=[(api_CellStep.mk 2 (api_Stitch.mk 2 false 0 0)),(api_CellStep.mk 2 (api_Stitch.mk 2 false 0 0)),(api_CellStep.mk 3 (api_Stitch.mk 2 false 0 0))]) [(0,.agg #[.int .u8 2,.int .u8 2,.bool false,iv 0,iv 0]),(1,.agg #[.int .u8 2,.int .u8 2,.bool false,iv 0,iv 0]),(2,.agg #[.int .u8 3,.int .u8 2,.bool false,iv 0,iv 0])] 3 [.agg #[.int .u8 2,.int .u8 2,.bool false,iv 0,iv 0],.agg #[.int .u8 2,.int .u8 2,.bool false,iv 0,iv 0],.agg #[.int .u8 3,.int .u8 2,.bool false,iv 0,iv 0]] [.int .u8 2,.int .u8 2,.bool false,iv 0,iv 0,.int .u8 2,.int .u8 2,.bool false,iv 0,iv 0,.int .u8 3,.int .u8 2,.bool false,iv 0,iv 0] (.agg #[.int .u8 0,.int .u8 0,.bool false,iv 0,iv 0]) 32 S (wG 35 true 385 d d d bA) d d Try.underlying48 d (by decide) (by decide) (by kernel_rfl) d (fun E1 w1 hE=>All.cons (r_api_CellStep.mono hE (S.mem.know (i:=10) (e:=fRep r_api_CellStep (.agg #[.int .u8 2,.int .u8 2,.bool false,iv 0,iv 0]) (api_CellStep.mk 2 (api_Stitch.mk 2 false 0 0))) d)) (All.cons (r_api_CellStep.mono hE (S.mem.know (i:=10) (e:=fRep r_api_CellStep (.agg #[.int .u8 2,.int .u8 2,.bool false,iv 0,iv 0]) (api_CellStep.mk 2 (api_Stitch.mk 2 false 0 0))) d)) (All.cons (r_api_CellStep.mono hE (S.mem.know (i:=11) (e:=fRep r_api_CellStep (.agg #[.int .u8 3,.int .u8 2,.bool false,iv 0,iv 0]) (api_CellStep.mk 3 (api_Stitch.mk 2 false 0 0))) d)) (All.nil _ _ _)))) d d (lb d) fun a w cq cr S=>?_
      obtain ⟨eh,eG,h⟩:=bS h
      have hv_r325:eh=true:=Option.some.inj (eG.symm.trans (by rw [hv_r193]; exact kc_raddlelaw46_CompareNames_34))
      have S1:=S.mem
      have S1:=S1.shutR (r:=r_api_CellStep) (T:=83) (v:=.slice cq [(api_CellStep.mk 2 (api_Stitch.mk 2 false 0 0)),(api_CellStep.mk 2 (api_Stitch.mk 2 false 0 0)),(api_CellStep.mk 3 (api_Stitch.mk 2 false 0 0))].length cr) (xs:=[(api_CellStep.mk 2 (api_Stitch.mk 2 false 0 0)),(api_CellStep.mk 2 (api_Stitch.mk 2 false 0 0)),(api_CellStep.mk 3 (api_Stitch.mk 2 false 0 0))]) 0 d
      refine sCallQ (X:=Unit) (f:=29) (vs:=[.slice bG aH.1.length bH,.slice cq [(api_CellStep.mk 2 (api_Stitch.mk 2 false 0 0)),(api_CellStep.mk 2 (api_Stitch.mk 2 false 0 0)),(api_CellStep.mk 3 (api_Stitch.mk 2 false 0 0))].length cr]) (val:=fun _=>.bool eh) S (wG 35 true 385 d d d bA) d callee29 d (S1.quiet [39,0] d) (fun E1 w1 S1=>c_raddleref46_Same E1 w1 aH.1 (.slice bG aH.1.length bH) [(api_CellStep.mk 2 (api_Stitch.mk 2 false 0 0)),(api_CellStep.mk 2 (api_Stitch.mk 2 false 0 0)),(api_CellStep.mk 3 (api_Stitch.mk 2 false 0 0))] (.slice cq [(api_CellStep.mk 2 (api_Stitch.mk 2 false 0 0)),(api_CellStep.mk 2 (api_Stitch.mk 2 false 0 0)),(api_CellStep.mk 3 (api_Stitch.mk 2 false 0 0))].length cr) eh eG S1) d (lb d) fun _ a w S=>?_
      refine sPickT (.bool eh) S (wN d) d d bA d d (lb d) fun a S=>sM S fun a S=>?_
      rcases iS h with ⟨ct,h⟩ | ⟨ct,h⟩
      rotate_left
      ·exact absurd ct (by rw [hv_r325]; decide)
      refine sMove (iv aM.2) S (wG 43 true 393 d d d ct) (.inl d) d d (lb d) fun a S=>sBin _ S (wG 43 true 393 d d d ct) d d d (bEq _ _ _ _ .i64 aM.2 0) d (lb d) fun a S=>sPickT (.bool (aM.2 == 0)) S (wN d) d d ct d d (lb d) fun a S=>sM S fun a S=>?_
      rcases iS h with ⟨bf,h⟩ | ⟨bf,h⟩
      rotate_left
      ·exact absurd bf (by rw [hv_r271]; decide)
      refine sMove (.slice bb aM.1.length bc) S (wG 47 true 397 d d d bf) (.inl d) d d (lb d) fun a S=>sLoadN (p:=aG) (off:=0) (T:=83) (vs:=[.int .u8 4,.int .u8 0,.bool false,iv 0,iv 0]) 4 [.int .u8 4,.int .u8 0,.bool false,iv 0,iv 0] S (wG 47 true 397 d d d bf) d d d d d d d (lb d) fun a S=>sLoadN (p:=aC) (off:=0) (T:=81) (vs:=[.int .u8 1,.bool false,iv 0,iv 0]) 7 [.int .u8 1,.bool false,iv 0,iv 0] S (wG 47 true 397 d d d bf) d d d d d d d (lb d) fun a S=>sBuild [(0,.int .u8 3),(1,.agg #[.int .u8 1,.bool false,iv 0,iv 0])] [.int .u8 3,.int .u8 1,.bool false,iv 0,iv 0] S (wG 47 true 397 d d d bf) d d d d (lb d) fun a S=>sLoadN (p:=aC) (off:=0) (T:=81) (vs:=[.int .u8 1,.bool false,iv 0,iv 0]) 7 [.int .u8 1,.bool false,iv 0,iv 0] S (wG 47 true 397 d d d bf) d d d d d d d (lb d) fun a S=>sBuild [(0,.int .u8 2),(1,.agg #[.int .u8 1,.bool false,iv 0,iv 0])] [.int .u8 2,.int .u8 1,.bool false,iv 0,iv 0] S (wG 47 true 397 d d d bf) d d d d (lb d) fun a S=>?_
      have S:=S.learn (fRep r_api_CellStep (.agg #[.int .u8 3,.int .u8 1,.bool false,iv 0,iv 0]) (api_CellStep.mk 3 (api_Stitch.mk 1 false 0 0))) d
      refine sLit (r:=r_api_CellStep) (T:=83) (xs:=[(api_CellStep.mk 4 (api_Stitch.mk 0 false 0 0)),(api_CellStep.mk 3 (api_Stitch.mk 1 false 0 0)),(api_CellStep.mk 2 (api_Stitch.mk 1 false 0 0))]) [(0,.agg #[.int .u8 4,.int .u8 0,.bool false,iv 0,iv 0]),(1,.agg #[.int .u8 3,.int .u8 1,.bool false,iv 0,iv 0]),(2,.agg #[.int .u8 2,.int .u8 1,.bool false,iv 0,iv 0])] 3 [.agg #[.int .u8 4,.int .u8 0,.bool false,iv 0,iv 0],.agg #[.int .u8 3,.int .u8 1,.bool false,iv 0,iv 0],.agg #[.int .u8 2,.int .u8 1,.bool false,iv 0,iv 0]] [.int .u8 4,.int .u8 0,.bool false,iv 0,iv 0,.int .u8 3,.int .u8 1,.bool false,iv 0,iv 0,.int .u8 2,.int .u8 1,.bool false,iv 0,iv 0] (.agg #[.int .u8 0,.int .u8 0,.bool false,iv 0,iv 0]) 32 S (wG 47 true 397 d d d bf) d d Try.underlying48 d (by decide) (by decide) (by kernel_rfl) d (fun E1 w1 hE=>All.cons (r_api_CellStep.mono hE (S.mem.know (i:=24) (e:=fRep r_api_CellStep (.agg #[.int .u8 4,.int .u8 0,.bool false,iv 0,iv 0]) (api_CellStep.mk 4 (api_Stitch.mk 0 false 0 0))) d)) (All.cons (r_api_CellStep.mono hE (S.mem.know (i:=0) (e:=fRep r_api_CellStep (.agg #[.int .u8 3,.int .u8 1,.bool false,iv 0,iv 0]) (api_CellStep.mk 3 (api_Stitch.mk 1 false 0 0))) d)) (All.cons (r_api_CellStep.mono hE (S.mem.know (i:=19) (e:=fRep r_api_CellStep (.agg #[.int .u8 2,.int .u8 1,.bool false,iv 0,iv 0]) (api_CellStep.mk 2 (api_Stitch.mk 1 false 0 0))) d)) (All.nil _ _ _)))) d d (lb d) fun a w cu cv S=>?_
      obtain ⟨dm,eH,h⟩:=bS h
      have hv_r331:dm=true:=Option.some.inj (eH.symm.trans (by rw [hv_r271]; exact kc_raddlelaw46_CompareNames_35))
      have S1:=S.mem
      have S1:=S1.shutR (r:=r_api_CellStep) (T:=83) (v:=.slice cu [(api_CellStep.mk 4 (api_Stitch.mk 0 false 0 0)),(api_CellStep.mk 3 (api_Stitch.mk 1 false 0 0)),(api_CellStep.mk 2 (api_Stitch.mk 1 false 0 0))].length cv) (xs:=[(api_CellStep.mk 4 (api_Stitch.mk 0 false 0 0)),(api_CellStep.mk 3 (api_Stitch.mk 1 false 0 0)),(api_CellStep.mk 2 (api_Stitch.mk 1 false 0 0))]) 0 d
      refine sCallQ (X:=Unit) (f:=29) (vs:=[.slice bb aM.1.length bc,.slice cu [(api_CellStep.mk 4 (api_Stitch.mk 0 false 0 0)),(api_CellStep.mk 3 (api_Stitch.mk 1 false 0 0)),(api_CellStep.mk 2 (api_Stitch.mk 1 false 0 0))].length cv]) (val:=fun _=>.bool dm) S (wG 47 true 397 d d d bf) d callee29 d (S1.quiet [10,0] d) (fun E1 w1 S1=>c_raddleref46_Same E1 w1 aM.1 (.slice bb aM.1.length bc) [(api_CellStep.mk 4 (api_Stitch.mk 0 false 0 0)),(api_CellStep.mk 3 (api_Stitch.mk 1 false 0 0)),(api_CellStep.mk 2 (api_Stitch.mk 1 false 0 0))] (.slice cu [(api_CellStep.mk 4 (api_Stitch.mk 0 false 0 0)),(api_CellStep.mk 3 (api_Stitch.mk 1 false 0 0)),(api_CellStep.mk 2 (api_Stitch.mk 1 false 0 0))].length cv) dm eH S1) d (lb d) fun _ a w S=>?_
      refine sPickT (.bool dm) S (wN d) d d bf d d (lb d) fun a S=>sN S fun a S=>?_
      refine lT (gn _ _ (sSeq (fun jh gp=>sRegion (sM S fun a S=>?_))))
      refine sBin _ S (wN d) d d d (bEq _ _ _ _ .i64 bB.2 4) d (lb d) fun a S=>sM S fun a S=>?_
      rcases iS h with ⟨cw,h⟩ | ⟨cw,h⟩
      rotate_left
      ·exact absurd cw (by rw [hv_r206]; decide)
      refine sMove (iv bn.2) S (wG 2 true 409 d d d cw) (.inl d) d d (lb d) fun a S=>sBin _ S (wG 2 true 409 d d d cw) d d d (bEq _ _ _ _ .i64 bn.2 8) d (lb d) fun a S=>sPickT (.bool (bn.2 == 8)) S (wN d) d d cw d d (lb d) fun a S=>sM S fun a S=>?_
      rcases iS h with ⟨cx,h⟩ | ⟨cx,h⟩
      rotate_left
      ·exact absurd cx (by rw [hv_r214]; decide)
      refine sMove (iv bo.2) S (wG 6 true 413 d d d cx) (.inl d) d d (lb d) fun a S=>sBin _ S (wG 6 true 413 d d d cx) d d d (bEq _ _ _ _ .i64 bo.2 8) d (lb d) fun a S=>sPickT (.bool (bo.2 == 8)) S (wN d) d d cx d d (lb d) fun a S=>sM S fun a S=>?_
      rcases iS h with ⟨cy,h⟩ | ⟨cy,h⟩
      rotate_left
      ·exact absurd cy (by rw [hv_r222]; decide)
      refine sMove (iv bp.2) S (wG 10 true 417 d d d cy) (.inl d) d d (lb d) fun a S=>sBin _ S (wG 10 true 417 d d d cy) d d d (bEq _ _ _ _ .i64 bp.2 8) d (lb d) fun a S=>sPickT (.bool (bp.2 == 8)) S (wN d) d d cy d d (lb d) fun a S=>sM S fun a S=>?_
      rcases iS h with ⟨cz,h⟩ | ⟨cz,h⟩
      rotate_left
      ·exact absurd cz (by rw [hv_r230]; decide)
      refine sMove (iv bq.2) S (wG 14 true 421 d d d cz) (.inl d) d d (lb d) fun a S=>sBin _ S (wG 14 true 421 d d d cz) d d d (bEq _ _ _ _ .i64 bq.2 30) d (lb d) fun a S=>sPickT (.bool (bq.2 == 30)) S (wN d) d d cz d d (lb d) fun a S=>sM S fun a S=>?_
      rcases iS h with ⟨cA,h⟩ | ⟨cA,h⟩
      rotate_left
      ·exact absurd cA (by rw [hv_r238]; decide)
      refine sMove (iv br.2) S (wG 18 true 425 d d d cA) (.inl d) d d (lb d) fun a S=>sBin _ S (wG 18 true 425 d d d cA) d d d (bEq _ _ _ _ .i64 br.2 30) d (lb d) fun a S=>sPickT (.bool (br.2 == 30)) S (wN d) d d cA d d (lb d) fun a S=>sM S fun a S=>?_
      rcases iS h with ⟨cB,h⟩ | ⟨cB,h⟩
      rotate_left
      ·exact absurd cB (by rw [hv_r244]; decide)
      refine sMove (iv bt.2) S (wG 22 true 429 d d d cB) (.inl d) d d (lb d) fun a S=>sBin _ S (wG 22 true 429 d d d cB) d d d (bEq _ _ _ _ .i64 bt.2 30) d (lb d) fun a S=>sPickT (.bool (bt.2 == 30)) S (wN d) d d cB d d (lb d) fun a S=>sM S fun a S=>?_
      rcases iS h with ⟨cC,h⟩ | ⟨cC,h⟩
      rotate_left
      ·exact absurd cC (by rw [hv_r252]; decide)
      refine sMove (iv bu.2) S (wG 26 true 433 d d d cC) (.inl d) d d (lb d) fun a S=>sBin _ S (wG 26 true 433 d d d cC) d d d (bEq _ _ _ _ .i64 bu.2 8) d (lb d) fun a S=>sPickT (.bool (bu.2 == 8)) S (wN d) d d cC d d (lb d) fun a S=>sM S fun a S=>?_
      rcases iS h with ⟨cD,h⟩ | ⟨cD,h⟩
      rotate_left
      ·exact absurd cD (by rw [hv_r260]; decide)
      refine sMove (iv bx.2) S (wG 30 true 437 d d d cD) (.inl d) d d (lb d) fun a S=>sBin _ S (wG 30 true 437 d d d cD) d d d (bEq _ _ _ _ .i64 bx.2 4) d (lb d) fun a S=>sPickT (.bool (bx.2 == 4)) S (wN d) d d cD d d (lb d) fun a S=>sM S fun a S=>?_
      rcases iS h with ⟨cE,h⟩ | ⟨cE,h⟩
      rotate_left
      ·exact absurd cE (by rw [hv_r287]; decide)
      refine sMove (iv aZ.2.2) S (wG 34 true 441 d d d cE) (.inl d) d d (lb d) fun a S=>sBin _ S (wG 34 true 441 d d d cE) d d d (bEq _ _ _ _ .i64 aZ.2.2 8) d (lb d) fun a S=>sPickT (.bool (aZ.2.2 == 8)) S (wN d) d d cE d d (lb d) fun a S=>sM S fun a S=>?_
      rcases iS h with ⟨cF,h⟩ | ⟨cF,h⟩
      rotate_left
      ·exact absurd cF (by rw [hv_r295]; decide)
      refine sMove (iv aU.2.2) S (wG 38 true 445 d d d cF) (.inl d) d d (lb d) fun a S=>sBin _ S (wG 38 true 445 d d d cF) d d d (bEq _ _ _ _ .i64 aU.2.2 4) d (lb d) fun a S=>sPickT (.bool (aU.2.2 == 4)) S (wN d) d d cF d d (lb d) fun a S=>sN S fun a S=>?_
      refine lT (gp _ _ (sSeq (fun ji gq=>sRegion (sBuild [(0,iv 1)] [iv 1,.slice none 0 0] S (wN d) d d d d (lb d) fun a S=>sBuild [(0,iv 2)] [iv 2,.slice none 0 0] S (wN d) d d d d (lb d) fun a S=>?_))))
      obtain ⟨bh,eI,h⟩:=bS h
      have hv_r345:bh=(1,0):=Option.some.inj (eI.symm.trans (by exact kc_raddlelaw46_CompareNames_36))
      have S1:=S.mem
      have S1:=S1.learn (fRep (rL r_api_Row) (.slice none 0 0) ([]:(List api_Row))) (rL_nil _ _ _)
      have S1:=S1.learn (fRep r_api_Chart (.agg #[iv 1,.slice none 0 0]) (api_Chart.mk 1 ([]:(List api_Row)))) ⟨_,d,S1.know (i:=0) (e:=fRep (rL r_api_Row) (.slice none 0 0) ([]:(List api_Row))) d⟩
      have S1:=S1.learn (fRep r_api_Chart (.agg #[iv 2,.slice none 0 0]) (api_Chart.mk 2 ([]:(List api_Row)))) ⟨_,d,S1.know (i:=1) (e:=fRep (rL r_api_Row) (.slice none 0 0) ([]:(List api_Row))) d⟩
      refine sCq [.agg #[iv 1,.slice none 0 0],.agg #[iv 2,.slice none 0 0]] (.tuple #[iv bh.1,iv bh.2]) S callee20 (S1.quiet [1,0] d) (fun E1 w1 S1=>c_compare_Charts E1 w1 (api_Chart.mk 1 ([]:(List api_Row))) (.agg #[iv 1,.slice none 0 0]) (api_Chart.mk 2 ([]:(List api_Row))) (.agg #[iv 2,.slice none 0 0]) bh eI S1) fun a w S=>?_
      refine sM S fun a S=>?_
      refine sExtract (vs:=[iv bh.1,iv bh.2]) (iv bh.1) S (wN d) d d d d (lb d) fun a S=>sExtract (vs:=[iv bh.1,iv bh.2]) (iv bh.2) S (wN d) d d d d (lb d) fun a S=>sN S fun a S=>?_
      refine sN S fun a S=>?_
      refine lT (gq _ _ (sSeq (fun jj gr=>sRegion ?_)))
      obtain ⟨bJ,eJ,h⟩:=bS h
      have hv_r348:bJ=(api_Chart.mk 2 [(api_Row.mk false [(api_Stitch.mk 1 false 0 0),(api_Stitch.mk 1 false 0 0)]),(api_Row.mk true [(api_Stitch.mk 1 true 0 0),(api_Stitch.mk 1 true 0 0)])]):=Option.some.inj (eJ.symm.trans (by exact kc_raddlelaw46_CompareNames_37))
      refine sCall (X:=Value) (f:=43) (vs:=[.string (⟨#[115,116,97,114,116,32,50,10,102,114,111,110,116,32,107,50,10,98,97,99,107,32,112,50,10]⟩:ByteArray)]) (val:=c_raddlelaw46_knit_val bJ) (B':=fun _=>[]) (D':=c_raddlelaw46_knit_D bJ) [] [eRow r_api_CellStep 83 (.slice cu [(api_CellStep.mk 4 (api_Stitch.mk 0 false 0 0)),(api_CellStep.mk 3 (api_Stitch.mk 1 false 0 0)),(api_CellStep.mk 2 (api_Stitch.mk 1 false 0 0))].length cv) [(api_CellStep.mk 4 (api_Stitch.mk 0 false 0 0)),(api_CellStep.mk 3 (api_Stitch.mk 1 false 0 0)),(api_CellStep.mk 2 (api_Stitch.mk 1 false 0 0))],eRow r_api_CellStep 83 (.slice cq [(api_CellStep.mk 2 (api_Stitch.mk 2 false 0 0)),(api_CellStep.mk 2 (api_Stitch.mk 2 false 0 0)),(api_CellStep.mk 3 (api_Stitch.mk 2 false 0 0))].length cr) [(api_CellStep.mk 2 (api_Stitch.mk 2 false 0 0)),(api_CellStep.mk 2 (api_Stitch.mk 2 false 0 0)),(api_CellStep.mk 3 (api_Stitch.mk 2 false 0 0))],eRow r_api_CellStep 83 (.slice ck [(api_CellStep.mk 2 (api_Stitch.mk 1 true 0 0)),(api_CellStep.mk 2 (api_Stitch.mk 2 false 0 0))].length cl) [(api_CellStep.mk 2 (api_Stitch.mk 1 true 0 0)),(api_CellStep.mk 2 (api_Stitch.mk 2 false 0 0))],eBox ap 83 [.int .u8 2,.int .u8 2,.bool false,iv 0,iv 0],eBox aq 83 [.int .u8 3,.int .u8 2,.bool false,iv 0,iv 0],eBox aG 83 [.int .u8 4,.int .u8 0,.bool false,iv 0,iv 0],eBox aO 83 [.int .u8 1,.int .u8 0,.bool false,iv 0,iv 0],eBox ar 81 [.int .u8 2,.bool false,iv 0,iv 0],eBox aC 81 [.int .u8 1,.bool false,iv 0,iv 0],eBox ay 33 [iv a0.2.2.1.X,iv a0.2.2.1.Y],eBox bw 33 [iv ao.2.2.1.X,iv ao.2.2.1.Y],eBox bk 33 [iv am.2.2.1.X,iv am.2.2.1.Y],eBox bg 33 [iv al.2.2.1.X,iv al.2.2.1.Y],eBox aQ 33 [iv a6.2.2.1.X,iv a6.2.2.1.Y],eBox aX 33 [iv af.2.2.1.X,iv af.2.2.1.Y],eBox aW 33 [iv ae.2.2.1.X,iv ae.2.2.1.Y],eBox aV 24 [iv a9.W,iv a9.H,.slice ag a9.Bits.length ah],eBox aP 24 [iv a2.W,iv a2.H,.slice ab a2.Bits.length ac],eBox aK 24 [iv 17,iv 1,.slice a7 aa.length a8],eBox az 24 [iv r3.W,iv r3.H,.slice a4 r3.Bits.length a5]] [] [0,1,2,3,4,5,6,7,8,9,10,11,12,13,14,15,16,17,18,19] [] S (wN d) d callee43 d (by decide) d d (fun E1 w1 S1=>c_raddlelaw46_knit E1 w1 (⟨#[115,116,97,114,116,32,50,10,102,114,111,110,116,32,107,50,10,98,97,99,107,32,112,50,10]⟩:ByteArray) bJ eJ S1) d (lb d) fun i1 a w S=>?_
      obtain ⟨i3,rfl,eK⟩:=S.mem.know (i:=0) (e:=fRep r_api_Chart (i1) bJ) d
      have S:=S.learn (fRep (rL r_api_Row) i3 bJ.Rows) eK
      obtain ⟨eL,eM,_,rfl,_⟩:=eK
      obtain ⟨bK,eN,h⟩:=bS h
      have hv_r355:bK=(api_Chart.mk 2 [(api_Row.mk true [(api_Stitch.mk 1 true 0 0),(api_Stitch.mk 1 true 0 0)])]):=Option.some.inj (eN.symm.trans (by exact kc_raddlelaw46_CompareNames_38))
      refine sCall (X:=Value) (f:=43) (vs:=[.string (⟨#[115,116,97,114,116,32,50,10,98,97,99,107,32,112,50,10]⟩:ByteArray)]) (val:=c_raddlelaw46_knit_val bK) (B':=fun _=>[]) (D':=c_raddlelaw46_knit_D bK) [] [eRow r_api_CellStep 83 (.slice cu [(api_CellStep.mk 4 (api_Stitch.mk 0 false 0 0)),(api_CellStep.mk 3 (api_Stitch.mk 1 false 0 0)),(api_CellStep.mk 2 (api_Stitch.mk 1 false 0 0))].length cv) [(api_CellStep.mk 4 (api_Stitch.mk 0 false 0 0)),(api_CellStep.mk 3 (api_Stitch.mk 1 false 0 0)),(api_CellStep.mk 2 (api_Stitch.mk 1 false 0 0))],eRow r_api_CellStep 83 (.slice cq [(api_CellStep.mk 2 (api_Stitch.mk 2 false 0 0)),(api_CellStep.mk 2 (api_Stitch.mk 2 false 0 0)),(api_CellStep.mk 3 (api_Stitch.mk 2 false 0 0))].length cr) [(api_CellStep.mk 2 (api_Stitch.mk 2 false 0 0)),(api_CellStep.mk 2 (api_Stitch.mk 2 false 0 0)),(api_CellStep.mk 3 (api_Stitch.mk 2 false 0 0))],eRow r_api_CellStep 83 (.slice ck [(api_CellStep.mk 2 (api_Stitch.mk 1 true 0 0)),(api_CellStep.mk 2 (api_Stitch.mk 2 false 0 0))].length cl) [(api_CellStep.mk 2 (api_Stitch.mk 1 true 0 0)),(api_CellStep.mk 2 (api_Stitch.mk 2 false 0 0))],eBox ap 83 [.int .u8 2,.int .u8 2,.bool false,iv 0,iv 0],eBox aq 83 [.int .u8 3,.int .u8 2,.bool false,iv 0,iv 0],eBox aG 83 [.int .u8 4,.int .u8 0,.bool false,iv 0,iv 0],eBox aO 83 [.int .u8 1,.int .u8 0,.bool false,iv 0,iv 0],eBox ar 81 [.int .u8 2,.bool false,iv 0,iv 0],eBox aC 81 [.int .u8 1,.bool false,iv 0,iv 0],eBox ay 33 [iv a0.2.2.1.X,iv a0.2.2.1.Y],eBox bw 33 [iv ao.2.2.1.X,iv ao.2.2.1.Y],eBox bk 33 [iv am.2.2.1.X,iv am.2.2.1.Y],eBox bg 33 [iv al.2.2.1.X,iv al.2.2.1.Y],eBox aQ 33 [iv a6.2.2.1.X,iv a6.2.2.1.Y],eBox aX 33 [iv af.2.2.1.X,iv af.2.2.1.Y],eBox aW 33 [iv ae.2.2.1.X,iv ae.2.2.1.Y],eBox aV 24 [iv a9.W,iv a9.H,.slice ag a9.Bits.length ah],eBox aP 24 [iv a2.W,iv a2.H,.slice ab a2.Bits.length ac],eBox aK 24 [iv 17,iv 1,.slice a7 aa.length a8],eBox az 24 [iv r3.W,iv r3.H,.slice a4 r3.Bits.length a5]] [] [0,1,2,3,4,5,6,7,8,9,10,11,12,13,14,15,16,17,18,19] [] S (wN d) d callee43 d (by decide) d d (fun E1 w1 S1=>c_raddlelaw46_knit E1 w1 (⟨#[115,116,97,114,116,32,50,10,98,97,99,107,32,112,50,10]⟩:ByteArray) bK eN S1) d (lb d) fun i4 a w S=>?_
      obtain ⟨i5,rfl,eO⟩:=S.mem.know (i:=0) (e:=fRep r_api_Chart (i4) bK) d
      have S:=S.learn (fRep (rL r_api_Row) i5 bK.Rows) eO
      obtain ⟨eP,eQ,_,rfl,_⟩:=eO
      obtain ⟨bi,eR,h⟩:=bS h
      have hv_r362:bi=(3,0):=Option.some.inj (eR.symm.trans (by rw [hv_r348,hv_r355]; exact kc_raddlelaw46_CompareNames_39))
      have S1:=S.mem
      refine sCq [.agg #[iv bJ.Start,.slice eL bJ.Rows.length eM],.agg #[iv bK.Start,.slice eP bK.Rows.length eQ]] (.tuple #[iv bi.1,iv bi.2]) S callee20 (S1.quiet [3,1] d) (fun E1 w1 S1=>c_compare_Charts E1 w1 bJ (.agg #[iv bJ.Start,.slice eL bJ.Rows.length eM]) bK (.agg #[iv bK.Start,.slice eP bK.Rows.length eQ]) bi eR S1) fun a w S=>?_
      refine sM S fun a S=>?_
      refine sExtract (vs:=[iv bi.1,iv bi.2]) (iv bi.1) S (wN d) d d d d (lb d) fun a S=>sExtract (vs:=[iv bi.1,iv bi.2]) (iv bi.2) S (wN d) d d d d (lb d) fun a S=>sN S fun a S=>?_
      refine sN S fun a S=>?_
      refine lT (gr _ _ (sSeq (fun jk gt=>sRegion (sBuild [] [.bool false,.slice none 0 0] S (wN d) d d d d (lb d) fun a S=>?_))))
      have S:=S.learn (fRep r_api_Row (.agg #[.bool false,.slice none 0 0]) (api_Row.mk false ([]:(List api_Stitch)))) ⟨_,d,S.mem.know (i:=47) (e:=fRep (rL r_api_Stitch) (.slice none 0 0) ([]:(List api_Stitch))) d⟩
      refine sLit (r:=r_api_Row) (T:=87) (xs:=[(api_Row.mk false ([]:(List api_Stitch)))]) [(0,.agg #[.bool false,.slice none 0 0])] 1 [.agg #[.bool false,.slice none 0 0]] [.bool false,.slice none 0 0] (.agg #[.bool false,.slice none 0 0]) 32 S (wN d) d d Try.underlying40 d (by decide) (by decide) (by kernel_rfl) d (fun E1 w1 hE=>All.cons (r_api_Row.mono hE (S.mem.know (i:=0) (e:=fRep r_api_Row (.agg #[.bool false,.slice none 0 0]) (api_Row.mk false ([]:(List api_Stitch)))) d)) (All.nil _ _ _)) d d (lb d) fun a w bL bM S=>?_
      refine sBuild [(0,iv 1),(1,.slice bL [(api_Row.mk false ([]:(List api_Stitch)))].length bM)] [iv 1,.slice bL [(api_Row.mk false ([]:(List api_Stitch)))].length bM] S (wN d) d d d d (lb d) fun a S=>sBuild [(0,iv (-1))] [iv (-1),.slice none 0 0] S (wN d) d d d d (lb d) fun a S=>?_
      obtain ⟨bC,eS,h⟩:=bS h
      have hv_r367:bC=(0,26):=Option.some.inj (eS.symm.trans (by exact kc_raddlelaw46_CompareNames_40))
      have S1:=S.mem
      have S1:=S1.shutR (r:=r_api_Row) (T:=87) (v:=.slice bL [(api_Row.mk false ([]:(List api_Stitch)))].length bM) (xs:=[(api_Row.mk false ([]:(List api_Stitch)))]) 0 d
      have S1:=S1.learn (fRep r_api_Chart (.agg #[iv 1,.slice bL [(api_Row.mk false ([]:(List api_Stitch)))].length bM]) (api_Chart.mk 1 [(api_Row.mk false ([]:(List api_Stitch)))])) ⟨_,d,S1.know (i:=0) (e:=fRep (rL r_api_Row) (.slice bL [(api_Row.mk false ([]:(List api_Stitch)))].length bM) [(api_Row.mk false ([]:(List api_Stitch)))]) d⟩
      have S1:=S1.learn (fRep (rL r_api_Row) (.slice none 0 0) ([]:(List api_Row))) (rL_nil _ _ _)
      have S1:=S1.learn (fRep r_api_Chart (.agg #[iv (-1),.slice none 0 0]) (api_Chart.mk (-1) ([]:(List api_Row)))) ⟨_,d,S1.know (i:=0) (e:=fRep (rL r_api_Row) (.slice none 0 0) ([]:(List api_Row))) d⟩
      refine sCq [.agg #[iv 1,.slice bL [(api_Row.mk false ([]:(List api_Stitch)))].length bM],.agg #[iv (-1),.slice none 0 0]] (.tuple #[iv bC.1,iv bC.2]) S callee20 (S1.quiet [2,0] d) (fun E1 w1 S1=>c_compare_Charts E1 w1 (api_Chart.mk 1 [(api_Row.mk false ([]:(List api_Stitch)))]) (.agg #[iv 1,.slice bL [(api_Row.mk false ([]:(List api_Stitch)))].length bM]) (api_Chart.mk (-1) ([]:(List api_Row))) (.agg #[iv (-1),.slice none 0 0]) bC eS S1) fun a w S=>?_
      refine sM S fun a S=>?_
      refine sExtract (vs:=[iv bC.1,iv bC.2]) (iv bC.1) S (wN d) d d d d (lb d) fun a S=>sExtract (vs:=[iv bC.1,iv bC.2]) (iv bC.2) S (wN d) d d d d (lb d) fun a S=>sN S fun a S=>?_
      refine sN S fun a S=>?_
      refine lT (gt _ _ (sSeq (fun jl gu=>sRegion (sBuild [] [iv 0,.slice none 0 0] S (wN d) d d d d (lb d) fun a S=>sBuild [(0,iv (-1))] [iv (-1),.slice none 0 0] S (wN d) d d d d (lb d) fun a S=>?_))))
      obtain ⟨bD,eT,h⟩:=bS h
      have hv_r370:bD=(0,8):=Option.some.inj (eT.symm.trans (by exact kc_raddlelaw46_CompareNames_41))
      have S1:=S.mem
      have S1:=S1.learn (fRep (rL r_api_Row) (.slice none 0 0) ([]:(List api_Row))) (rL_nil _ _ _)
      have S1:=S1.learn (fRep r_api_Chart (.agg #[iv 0,.slice none 0 0]) (api_Chart.mk 0 ([]:(List api_Row)))) ⟨_,d,S1.know (i:=0) (e:=fRep (rL r_api_Row) (.slice none 0 0) ([]:(List api_Row))) d⟩
      have S1:=S1.learn (fRep r_api_Chart (.agg #[iv (-1),.slice none 0 0]) (api_Chart.mk (-1) ([]:(List api_Row)))) ⟨_,d,S1.know (i:=1) (e:=fRep (rL r_api_Row) (.slice none 0 0) ([]:(List api_Row))) d⟩
      refine sCq [.agg #[iv 0,.slice none 0 0],.agg #[iv (-1),.slice none 0 0]] (.tuple #[iv bD.1,iv bD.2]) S callee20 (S1.quiet [1,0] d) (fun E1 w1 S1=>c_compare_Charts E1 w1 (api_Chart.mk 0 ([]:(List api_Row))) (.agg #[iv 0,.slice none 0 0]) (api_Chart.mk (-1) ([]:(List api_Row))) (.agg #[iv (-1),.slice none 0 0]) bD eT S1) fun a w S=>?_
      refine sM S fun a S=>?_
      refine sExtract (vs:=[iv bD.1,iv bD.2]) (iv bD.1) S (wN d) d d d d (lb d) fun a S=>sExtract (vs:=[iv bD.1,iv bD.2]) (iv bD.2) S (wN d) d d d d (lb d) fun a S=>sN S fun a S=>?_
      refine sN S fun a S=>?_
      refine lT (gu _ _ ?_)
      obtain ⟨i6,h,i7⟩:=bS h
      refine sCut (fun a w=>∃ dT,dT=i6∧St [] E [] w0 511 a w [(0,.bool dT)] [] []) ?_ (fun a w hI=>?_)
      rotate_left
      ·obtain ⟨dT,rfl,S⟩:=hI
       have h:=i7
       try dsimp only at h
       obtain rfl:=tS h
       exact wp_ret (sRet (.bool dT) S (rsl1 d (rvT (t:=0) (v:=.bool dT) S d)) ⟨(),d,S.mem.sel [] [] (by decide) d d⟩)
      refine sRegion (sM S fun a S=>?_)
      refine sMove (.bool (b0.2 == 4)) S (wG 0 true 475 d d d d) (.inl d) d d (lb d) fun a S=>sPickT (.bool (b0.2 == 4)) S (wN d) d d d d d (lb d) fun a S=>sM S fun a S=>?_
      rcases iS h with ⟨cG,h⟩ | ⟨cG,h⟩
      rotate_left
      ·refine sSk S d d d cG d d fun a S=>sPickF (.bool false) S (wN d) d d cG d d (lb d) fun a S=>sM S fun a S=>?_
       refine sSk S d d d d d d fun a S=>sPickF (.bool false) S (wN d) d d d d d (lb d) fun a S=>sM S fun a S=>?_
       refine sSkN 2 9 true 484 S d d d d fun a S=>sPickF (.bool false) S (wN d) d d d d d (lb d) fun a S=>sM S fun a S=>?_
       refine sSkN 2 13 true 488 S d d d d fun a S=>sPickF (.bool false) S (wN d) d d d d d (lb d) fun a S=>sM S fun a S=>?_
       refine sSkN 2 17 true 492 S d d d d fun a S=>sPickF (.bool false) S (wN d) d d d d d (lb d) fun a S=>sM S fun a S=>?_
       refine sSkN 2 21 true 496 S d d d d fun a S=>sPickF (.bool false) S (wN d) d d d d d (lb d) fun a S=>sM S fun a S=>?_
       refine sSkN 2 25 true 500 S d d d d fun a S=>sPickF (.bool false) S (wN d) d d d d d (lb d) fun a S=>sM S fun a S=>?_
       refine sSkN 2 29 true 504 S d d d d fun a S=>sPickF (.bool false) S (wN d) d d d d d (lb d) fun a S=>sM S fun a S=>?_
       refine sSk S d d d d d d fun a S=>sPickF (.bool false) S (wN d) d d d d d (lb d) fun a S=>sN S fun a S=>?_
       exact lT (⟨false,Option.some.inj h,S.fix [] [] (by decide) d d d⟩)
      refine sMove (.bool dm) S (wG 3 true 478 d d d cG) (.inl d) d d (lb d) fun a S=>sPickT (.bool dm) S (wN d) d d cG d d (lb d) fun a S=>sM S fun a S=>?_
      rcases iS h with ⟨dj,h⟩ | ⟨dj,h⟩
      rotate_left
      ·exact absurd dj (by rw [hv_r331]; decide)
      refine sMove (.bool (aU.2.2 == 4)) S (wG 6 true 481 d d d dj) (.inl d) d d (lb d) fun a S=>sPickT (.bool (aU.2.2 == 4)) S (wN d) d d dj d d (lb d) fun a S=>sM S fun a S=>?_
      rcases iS h with ⟨bY,h⟩ | ⟨bY,h⟩
      rotate_left
      ·refine sSkN 2 9 true 484 S d d bY d fun a S=>sPickF (.bool false) S (wN d) d d bY d d (lb d) fun a S=>sM S fun a S=>?_
       refine sSkN 2 13 true 488 S d d d d fun a S=>sPickF (.bool false) S (wN d) d d d d d (lb d) fun a S=>sM S fun a S=>?_
       refine sSkN 2 17 true 492 S d d d d fun a S=>sPickF (.bool false) S (wN d) d d d d d (lb d) fun a S=>sM S fun a S=>?_
       refine sSkN 2 21 true 496 S d d d d fun a S=>sPickF (.bool false) S (wN d) d d d d d (lb d) fun a S=>sM S fun a S=>?_
       refine sSkN 2 25 true 500 S d d d d fun a S=>sPickF (.bool false) S (wN d) d d d d d (lb d) fun a S=>sM S fun a S=>?_
       refine sSkN 2 29 true 504 S d d d d fun a S=>sPickF (.bool false) S (wN d) d d d d d (lb d) fun a S=>sM S fun a S=>?_
       refine sSk S d d d d d d fun a S=>sPickF (.bool false) S (wN d) d d d d d (lb d) fun a S=>sN S fun a S=>?_
       exact lT (⟨false,Option.some.inj h,S.fix [] [] (by decide) d d d⟩)
      refine sMove (iv bh.2) S (wG 9 true 484 d d d bY) (.inl d) d d (lb d) fun a S=>sBin _ S (wG 9 true 484 d d d bY) d d d (bEq _ _ _ _ .i64 bh.2 0) d (lb d) fun a S=>sPickT (.bool (bh.2 == 0)) S (wN d) d d bY d d (lb d) fun a S=>sM S fun a S=>?_
      rcases iS h with ⟨cH,h⟩ | ⟨cH,h⟩
      rotate_left
      ·exact absurd cH (by rw [hv_r345]; decide)
      refine sMove (iv bh.1) S (wG 13 true 488 d d d cH) (.inl d) d d (lb d) fun a S=>sBin _ S (wG 13 true 488 d d d cH) d d d (bEq _ _ _ _ .i64 bh.1 1) d (lb d) fun a S=>sPickT (.bool (bh.1 == 1)) S (wN d) d d cH d d (lb d) fun a S=>sM S fun a S=>?_
      rcases iS h with ⟨cI,h⟩ | ⟨cI,h⟩
      rotate_left
      ·exact absurd cI (by rw [hv_r345]; decide)
      refine sMove (iv bi.2) S (wG 17 true 492 d d d cI) (.inl d) d d (lb d) fun a S=>sBin _ S (wG 17 true 492 d d d cI) d d d (bEq _ _ _ _ .i64 bi.2 0) d (lb d) fun a S=>sPickT (.bool (bi.2 == 0)) S (wN d) d d cI d d (lb d) fun a S=>sM S fun a S=>?_
      rcases iS h with ⟨cJ,h⟩ | ⟨cJ,h⟩
      rotate_left
      ·exact absurd cJ (by rw [hv_r362]; decide)
      refine sMove (iv bi.1) S (wG 21 true 496 d d d cJ) (.inl d) d d (lb d) fun a S=>sBin _ S (wG 21 true 496 d d d cJ) d d d (bEq _ _ _ _ .i64 bi.1 3) d (lb d) fun a S=>sPickT (.bool (bi.1 == 3)) S (wN d) d d cJ d d (lb d) fun a S=>sM S fun a S=>?_
      rcases iS h with ⟨cK,h⟩ | ⟨cK,h⟩
      rotate_left
      ·exact absurd cK (by rw [hv_r362]; decide)
      refine sMove (iv bC.2) S (wG 25 true 500 d d d cK) (.inl d) d d (lb d) fun a S=>sBin _ S (wG 25 true 500 d d d cK) d d d (bEq _ _ _ _ .i64 bC.2 26) d (lb d) fun a S=>sPickT (.bool (bC.2 == 26)) S (wN d) d d cK d d (lb d) fun a S=>sM S fun a S=>?_
      rcases iS h with ⟨cL,h⟩ | ⟨cL,h⟩
      rotate_left
      ·exact absurd cL (by rw [hv_r367]; decide)
      refine sMove (iv bD.2) S (wG 29 true 504 d d d cL) (.inl d) d d (lb d) fun a S=>sBin _ S (wG 29 true 504 d d d cL) d d d (bEq _ _ _ _ .i64 bD.2 8) d (lb d) fun a S=>sPickT (.bool (bD.2 == 8)) S (wN d) d d cL d d (lb d) fun a S=>sM S fun a S=>?_
      rcases iS h with ⟨dk,h⟩ | ⟨dk,h⟩
      rotate_left
      ·exact absurd dk (by rw [hv_r370]; decide)
      obtain ⟨dU,eU,h⟩:=bS h
      have hv_r384:dU=true:=Option.some.inj (eU.symm.trans (by exact kc_raddlelaw46_CompareNames_42))
      have S1:=S.mem
      refine sCallQ (X:=Unit) (f:=31) (vs:=[]) (val:=fun _=>.bool dU) S (wG 33 true 508 d d d dk) d callee31 d (S1.quiet [] d) (fun E1 w1 S1=>c_raddlelaw46_alive E1 w1  dU eU S1) d (lb d) fun _ a w S=>?_
      refine sPickT (.bool dU) S (wN d) d d dk d d (lb d) fun a S=>sN S fun a S=>?_
      exact lT (⟨dU,Option.some.inj h,S.fix [] [] (by decide) d d d⟩)
     refine node_by (A:=anc_raddlelaw46_CompareNames_3) 11 (by kernel_rfl) (by kernel_rfl) (by kernel_rfl) (by kernel_rfl) (by kernel_rfl) [1,2,3] (by kernel_rfl) (by decide) (by decide) (fN ?_ (fF ?_ (fF ?_ (fF ?_ (fN ?_ (aB 5 5 0 (by decide) (fE 0 (fE 0 (fE 0 (fE 0 (fE 0 (trivial)))))))))))) [] (fun q hq=>by cases hq) (fun hY=>absurd (hY 0 (by decide)) (by decide))
     ·refine ⟨_,[],d,(srcs_of [] d d d),fun G a w S=>?_⟩
      refine sCall (X:=Value) (f:=42) (vs:=[.string (⟨#[107,50]⟩:ByteArray)]) (val:=c_raddlelaw46_cells_val aJ) (B':=fun _=>[]) (D':=c_raddlelaw46_cells_D aJ) [] [eBox ap 83 [.int .u8 2,.int .u8 2,.bool false,iv 0,iv 0],eBox aq 83 [.int .u8 3,.int .u8 2,.bool false,iv 0,iv 0],eBox aG 83 [.int .u8 4,.int .u8 0,.bool false,iv 0,iv 0],eBox aO 83 [.int .u8 1,.int .u8 0,.bool false,iv 0,iv 0],eBox ar 81 [.int .u8 2,.bool false,iv 0,iv 0],eBox aC 81 [.int .u8 1,.bool false,iv 0,iv 0],eBox ay 33 [iv a0.2.2.1.X,iv a0.2.2.1.Y],eBox bw 33 [iv ao.2.2.1.X,iv ao.2.2.1.Y],eBox bk 33 [iv am.2.2.1.X,iv am.2.2.1.Y],eBox bg 33 [iv al.2.2.1.X,iv al.2.2.1.Y],eBox aQ 33 [iv a6.2.2.1.X,iv a6.2.2.1.Y],eBox aX 33 [iv af.2.2.1.X,iv af.2.2.1.Y],eBox aW 33 [iv ae.2.2.1.X,iv ae.2.2.1.Y],eBox aV 24 [iv a9.W,iv a9.H,.slice ag a9.Bits.length ah],eBox aP 24 [iv a2.W,iv a2.H,.slice ab a2.Bits.length ac],eBox aK 24 [iv 17,iv 1,.slice a7 aa.length a8],eBox az 24 [iv r3.W,iv r3.H,.slice a4 r3.Bits.length a5]] [] [0,1,2,3,4,5,6,7,8,9,10,11,12,13,14,15,16] [] S (wN d) d callee42 d (by decide) d d (fun E1 w1 S1=>c_raddlelaw46_cells E1 w1 (⟨#[107,50]⟩:ByteArray) aJ cS S1) d (lb d) fun i8 a w S=>?_
      obtain ⟨bl,bm,_,rfl,_⟩:=S.mem.know (i:=0) (e:=fRep (rL r_api_Stitch) (i8) aJ) d
      refine leafL ⟨d,_,_,.inl ⟨321,(.slice bl aJ.length bm),[],d,S,hz_of d,?_⟩⟩
      refine node_by (A:=anc_raddlelaw46_CompareNames_3) 11 (by kernel_rfl) (by kernel_rfl) (by kernel_rfl) (by kernel_rfl) (by kernel_rfl) [0,1,2,3] (by kernel_rfl) (by decide) (by decide) (fY (fF ?_ (fF ?_ (fF ?_ (fN ?_ (aB 5 5 4 (by decide) (fE 4 (fE 4 (fE 4 (fE 4 (fE 4 (trivial)))))))))))) [] (fun q hq=>by cases hq) (fun hY=>absurd (hY 4 (by decide)) (by decide))
      ·refine fJ [(42,_)] 1 [none] fun G a w S=>?_
       exact sLoadN (p:=aq) (off:=0) (T:=83) (vs:=[.int .u8 3,.int .u8 2,.bool false,iv 0,iv 0]) 1 [.int .u8 3,.int .u8 2,.bool false,iv 0,iv 0] S (wN d) d d d d d d d (lb d) fun a S=>leafL ⟨d,S⟩
      ·refine fJ [(41,_)] 2 [none] fun G a w S=>?_
       exact sLoadN (p:=aG) (off:=0) (T:=83) (vs:=[.int .u8 4,.int .u8 0,.bool false,iv 0,iv 0]) 2 [.int .u8 4,.int .u8 0,.bool false,iv 0,iv 0] S (wN d) d d d d d d d (lb d) fun a S=>leafL ⟨d,S⟩
      ·refine fJ [(43,_)] 3 [none] fun G a w S=>?_
       exact sLoadN (p:=ap) (off:=0) (T:=83) (vs:=[.int .u8 2,.int .u8 2,.bool false,iv 0,iv 0]) 0 [.int .u8 2,.int .u8 2,.bool false,iv 0,iv 0] S (wN d) d d d d d d d (lb d) fun a S=>leafL ⟨d,S⟩
      refine ⟨_,[(322,.agg #[.int .u8 3,.int .u8 2,.bool false,iv 0,iv 0]),(323,.agg #[.int .u8 4,.int .u8 0,.bool false,iv 0,iv 0]),(324,.agg #[.int .u8 2,.int .u8 2,.bool false,iv 0,iv 0])],d,(srcs_of [some 1,some 2,some 3] d d d),fun G a w S=>?_⟩
      have S:=S.learn (fRep r_api_CellStep (.agg #[.int .u8 3,.int .u8 2,.bool false,iv 0,iv 0]) (api_CellStep.mk 3 (api_Stitch.mk 2 false 0 0))) d
      have S:=S.learn (fRep r_api_CellStep (.agg #[.int .u8 2,.int .u8 2,.bool false,iv 0,iv 0]) (api_CellStep.mk 2 (api_Stitch.mk 2 false 0 0))) d
      refine sLit (r:=r_api_CellStep) (T:=83) (xs:=[(api_CellStep.mk 3 (api_Stitch.mk 2 false 0 0)),(api_CellStep.mk 4 (api_Stitch.mk 0 false 0 0)),(api_CellStep.mk 2 (api_Stitch.mk 2 false 0 0))]) [(0,.agg #[.int .u8 3,.int .u8 2,.bool false,iv 0,iv 0]),(1,.agg #[.int .u8 4,.int .u8 0,.bool false,iv 0,iv 0]),(2,.agg #[.int .u8 2,.int .u8 2,.bool false,iv 0,iv 0])] 3 [.agg #[.int .u8 3,.int .u8 2,.bool false,iv 0,iv 0],.agg #[.int .u8 4,.int .u8 0,.bool false,iv 0,iv 0],.agg #[.int .u8 2,.int .u8 2,.bool false,iv 0,iv 0]] [.int .u8 3,.int .u8 2,.bool false,iv 0,iv 0,.int .u8 4,.int .u8 0,.bool false,iv 0,iv 0,.int .u8 2,.int .u8 2,.bool false,iv 0,iv 0] (.agg #[.int .u8 0,.int .u8 0,.bool false,iv 0,iv 0]) 32 S (wN d) d d Try.underlying48 d (by decide) (by decide) (by kernel_rfl) d (fun E1 w1 hE=>All.cons (r_api_CellStep.mono hE (S.mem.know (i:=1) (e:=fRep r_api_CellStep (.agg #[.int .u8 3,.int .u8 2,.bool false,iv 0,iv 0]) (api_CellStep.mk 3 (api_Stitch.mk 2 false 0 0))) d)) (All.cons (r_api_CellStep.mono hE (S.mem.know (i:=13) (e:=fRep r_api_CellStep (.agg #[.int .u8 4,.int .u8 0,.bool false,iv 0,iv 0]) (api_CellStep.mk 4 (api_Stitch.mk 0 false 0 0))) d)) (All.cons (r_api_CellStep.mono hE (S.mem.know (i:=0) (e:=fRep r_api_CellStep (.agg #[.int .u8 2,.int .u8 2,.bool false,iv 0,iv 0]) (api_CellStep.mk 2 (api_Stitch.mk 2 false 0 0))) d)) (All.nil _ _ _)))) d d (lb d) fun a w b1 ba S=>?_
      refine leafL ⟨d,_,_,.inl ⟨325,(.slice b1 [(api_CellStep.mk 3 (api_Stitch.mk 2 false 0 0)),(api_CellStep.mk 4 (api_Stitch.mk 0 false 0 0)),(api_CellStep.mk 2 (api_Stitch.mk 2 false 0 0))].length ba),[],d,S,hz_of d,?_⟩⟩
      exact nd1 b1 ba bl bm
     ·refine fJ [(42,_)] 0 [none] fun G a w S=>?_
      exact sLoadN (p:=aq) (off:=0) (T:=83) (vs:=[.int .u8 3,.int .u8 2,.bool false,iv 0,iv 0]) 1 [.int .u8 3,.int .u8 2,.bool false,iv 0,iv 0] S (wN d) d d d d d d d (lb d) fun a S=>leafL ⟨d,S⟩
     ·refine fJ [(41,_)] 1 [none] fun G a w S=>?_
      exact sLoadN (p:=aG) (off:=0) (T:=83) (vs:=[.int .u8 4,.int .u8 0,.bool false,iv 0,iv 0]) 2 [.int .u8 4,.int .u8 0,.bool false,iv 0,iv 0] S (wN d) d d d d d d d (lb d) fun a S=>leafL ⟨d,S⟩
     ·refine fJ [(43,_)] 2 [none] fun G a w S=>?_
      exact sLoadN (p:=ap) (off:=0) (T:=83) (vs:=[.int .u8 2,.int .u8 2,.bool false,iv 0,iv 0]) 0 [.int .u8 2,.int .u8 2,.bool false,iv 0,iv 0] S (wN d) d d d d d d d (lb d) fun a S=>leafL ⟨d,S⟩
     refine ⟨_,[(322,.agg #[.int .u8 3,.int .u8 2,.bool false,iv 0,iv 0]),(323,.agg #[.int .u8 4,.int .u8 0,.bool false,iv 0,iv 0]),(324,.agg #[.int .u8 2,.int .u8 2,.bool false,iv 0,iv 0])],d,(srcs_of [some 0,some 1,some 2] d d d),fun G a w S=>?_⟩
     have S:=S.learn (fRep r_api_CellStep (.agg #[.int .u8 3,.int .u8 2,.bool false,iv 0,iv 0]) (api_CellStep.mk 3 (api_Stitch.mk 2 false 0 0))) d
     have S:=S.learn (fRep r_api_CellStep (.agg #[.int .u8 2,.int .u8 2,.bool false,iv 0,iv 0]) (api_CellStep.mk 2 (api_Stitch.mk 2 false 0 0))) d
     refine sLit (r:=r_api_CellStep) (T:=83) (xs:=[(api_CellStep.mk 3 (api_Stitch.mk 2 false 0 0)),(api_CellStep.mk 4 (api_Stitch.mk 0 false 0 0)),(api_CellStep.mk 2 (api_Stitch.mk 2 false 0 0))]) [(0,.agg #[.int .u8 3,.int .u8 2,.bool false,iv 0,iv 0]),(1,.agg #[.int .u8 4,.int .u8 0,.bool false,iv 0,iv 0]),(2,.agg #[.int .u8 2,.int .u8 2,.bool false,iv 0,iv 0])] 3 [.agg #[.int .u8 3,.int .u8 2,.bool false,iv 0,iv 0],.agg #[.int .u8 4,.int .u8 0,.bool false,iv 0,iv 0],.agg #[.int .u8 2,.int .u8 2,.bool false,iv 0,iv 0]] [.int .u8 3,.int .u8 2,.bool false,iv 0,iv 0,.int .u8 4,.int .u8 0,.bool false,iv 0,iv 0,.int .u8 2,.int .u8 2,.bool false,iv 0,iv 0] (.agg #[.int .u8 0,.int .u8 0,.bool false,iv 0,iv 0]) 32 S (wN d) d d Try.underlying48 d (by decide) (by decide) (by kernel_rfl) d (fun E1 w1 hE=>All.cons (r_api_CellStep.mono hE (S.mem.know (i:=1) (e:=fRep r_api_CellStep (.agg #[.int .u8 3,.int .u8 2,.bool false,iv 0,iv 0]) (api_CellStep.mk 3 (api_Stitch.mk 2 false 0 0))) d)) (All.cons (r_api_CellStep.mono hE (S.mem.know (i:=12) (e:=fRep r_api_CellStep (.agg #[.int .u8 4,.int .u8 0,.bool false,iv 0,iv 0]) (api_CellStep.mk 4 (api_Stitch.mk 0 false 0 0))) d)) (All.cons (r_api_CellStep.mono hE (S.mem.know (i:=0) (e:=fRep r_api_CellStep (.agg #[.int .u8 2,.int .u8 2,.bool false,iv 0,iv 0]) (api_CellStep.mk 2 (api_Stitch.mk 2 false 0 0))) d)) (All.nil _ _ _)))) d d (lb d) fun a w dV dW S=>?_
     refine leafL ⟨d,_,_,.inl ⟨325,(.slice dV [(api_CellStep.mk 3 (api_Stitch.mk 2 false 0 0)),(api_CellStep.mk 4 (api_Stitch.mk 0 false 0 0)),(api_CellStep.mk 2 (api_Stitch.mk 2 false 0 0))].length dW),[],d,S,hz_of d,?_⟩⟩
     refine node_by (A:=anc_raddlelaw46_CompareNames_3) 11 (by kernel_rfl) (by kernel_rfl) (by kernel_rfl) (by kernel_rfl) (by kernel_rfl) [4,1,2,3] (by kernel_rfl) (by decide) (by decide) (fN ?_ (fD 4 (fD 4 (fD 4 (fY (aB 5 5 0 (by decide) (fE 0 (fE 0 (fE 0 (fE 0 (fE 0 (trivial)))))))))))) [] (fun q hq=>by cases hq) (fun hY=>absurd (hY 0 (by decide)) (by decide))
     refine ⟨_,[],d,(srcs_of [] d d d),fun G a w S=>?_⟩
     refine sCall (X:=Value) (f:=42) (vs:=[.string (⟨#[107,50]⟩:ByteArray)]) (val:=c_raddlelaw46_cells_val aJ) (B':=fun _=>[]) (D':=c_raddlelaw46_cells_D aJ) [] [eRow r_api_CellStep 83 (.slice dV [(api_CellStep.mk 3 (api_Stitch.mk 2 false 0 0)),(api_CellStep.mk 4 (api_Stitch.mk 0 false 0 0)),(api_CellStep.mk 2 (api_Stitch.mk 2 false 0 0))].length dW) [(api_CellStep.mk 3 (api_Stitch.mk 2 false 0 0)),(api_CellStep.mk 4 (api_Stitch.mk 0 false 0 0)),(api_CellStep.mk 2 (api_Stitch.mk 2 false 0 0))],eBox ap 83 [.int .u8 2,.int .u8 2,.bool false,iv 0,iv 0],eBox aq 83 [.int .u8 3,.int .u8 2,.bool false,iv 0,iv 0],eBox aG 83 [.int .u8 4,.int .u8 0,.bool false,iv 0,iv 0],eBox aO 83 [.int .u8 1,.int .u8 0,.bool false,iv 0,iv 0],eBox ar 81 [.int .u8 2,.bool false,iv 0,iv 0],eBox aC 81 [.int .u8 1,.bool false,iv 0,iv 0],eBox ay 33 [iv a0.2.2.1.X,iv a0.2.2.1.Y],eBox bw 33 [iv ao.2.2.1.X,iv ao.2.2.1.Y],eBox bk 33 [iv am.2.2.1.X,iv am.2.2.1.Y],eBox bg 33 [iv al.2.2.1.X,iv al.2.2.1.Y],eBox aQ 33 [iv a6.2.2.1.X,iv a6.2.2.1.Y],eBox aX 33 [iv af.2.2.1.X,iv af.2.2.1.Y],eBox aW 33 [iv ae.2.2.1.X,iv ae.2.2.1.Y],eBox aV 24 [iv a9.W,iv a9.H,.slice ag a9.Bits.length ah],eBox aP 24 [iv a2.W,iv a2.H,.slice ab a2.Bits.length ac],eBox aK 24 [iv 17,iv 1,.slice a7 aa.length a8],eBox az 24 [iv r3.W,iv r3.H,.slice a4 r3.Bits.length a5]] [] [0,1,2,3,4,5,6,7,8,9,10,11,12,13,14,15,16,17] [] S (wN d) d callee42 d (by decide) d d (fun E1 w1 S1=>c_raddlelaw46_cells E1 w1 (⟨#[107,50]⟩:ByteArray) aJ cS S1) d (lb d) fun i9 a w S=>?_
     obtain ⟨eV,eW,_,rfl,_⟩:=S.mem.know (i:=0) (e:=fRep (rL r_api_Stitch) (i9) aJ) d
     refine leafL ⟨d,_,_,.inl ⟨321,(.slice eV aJ.length eW),[],d,S,hz_of d,?_⟩⟩
     exact nodePerm (nd1 dV dW eV eW) [1,0,2,3,4] [0,1,2,3,4,5,6,7,8,9,10,11,12,13,14,15,16,17] [1,2,0,3,4,5,6,7,8,9,10,11,12,13,14,15,16,17,18,19,20,21,22,23,24,25,26,27,28,29,30,31,32,33,34,35,36,37,38,39,40,41,42,43,44,45,46,47,48,49,50,51,52,53,54,55,56,57,58,59,60] (by decide) (by decide) d d d
    refine node_by (A:=anc_raddlelaw46_CompareNames_2) 8 (by kernel_rfl) (by kernel_rfl) (by kernel_rfl) (by kernel_rfl) (by kernel_rfl) [0,1,2,3] (by kernel_rfl) (by decide) (by decide) (fF ?_ (fF ?_ (fF ?_ (fF ?_ (fN ?_ (fN ?_ (aB 6 1 4 (by decide) (aB 7 0 4 (by decide) (trivial))))))))) [] (fun q hq=>by cases hq) (fun hY=>absurd (hY 4 (by decide)) (by decide))
    ·refine fJ [(39,_)] 0 [none] fun G a w S=>?_
     exact sLoadN (p:=ar) (off:=0) (T:=81) (vs:=[.int .u8 2,.bool false,iv 0,iv 0]) 2 [.int .u8 2,.bool false,iv 0,iv 0] S (wN d) d d d d d d d (lb d) fun a S=>leafL ⟨d,S⟩
    ·refine fJ [(240,_)] 1 [some 0] fun G a w S=>?_
     exact sBuild [(0,.int .u8 3),(1,.agg #[.int .u8 2,.bool false,iv 0,iv 0])] [.int .u8 3,.int .u8 2,.bool false,iv 0,iv 0] S (wN d) d d d d (lb d) fun a S=>leafL ⟨d,S⟩
    ·refine fJ [(39,_)] 2 [none] fun G a w S=>?_
     exact sLoadN (p:=ar) (off:=0) (T:=81) (vs:=[.int .u8 2,.bool false,iv 0,iv 0]) 2 [.int .u8 2,.bool false,iv 0,iv 0] S (wN d) d d d d d d d (lb d) fun a S=>leafL ⟨d,S⟩
    ·refine fJ [(242,_)] 3 [some 2] fun G a w S=>?_
     exact sBuild [(0,.int .u8 2),(1,.agg #[.int .u8 2,.bool false,iv 0,iv 0])] [.int .u8 2,.int .u8 2,.bool false,iv 0,iv 0] S (wN d) d d d d (lb d) fun a S=>leafL ⟨d,S⟩
    ·refine ⟨_,[],d,(srcs_of [] d d d),fun G a w S=>?_⟩
     refine sAlloc (.agg #[.int .u8 0,.int .u8 0,.bool false,iv 0,iv 0]) S (wN d) d d [.int .u8 0,.int .u8 0,.bool false,iv 0,iv 0] d d (lb d) fun a aq w S=>leafL ⟨d,_,_,.inl ⟨42,(.pointer (some ⟨aq,0,none⟩)),[],d,S,hz_of d,?_⟩⟩
     refine node_by (A:=anc_raddlelaw46_CompareNames_2) 8 (by kernel_rfl) (by kernel_rfl) (by kernel_rfl) (by kernel_rfl) (by kernel_rfl) [4,0,1,2,3] (by kernel_rfl) (by decide) (by decide) (fF ?_ (fF ?_ (fF ?_ (fF ?_ (fY (fN ?_ (aB 6 1 5 (by decide) (aB 7 0 5 (by decide) (trivial))))))))) [] (fun q hq=>by cases hq) (fun hY=>absurd (hY 5 (by decide)) (by decide))
     ·refine fJ [(39,_)] 1 [none] fun G a w S=>?_
      exact sLoadN (p:=ar) (off:=0) (T:=81) (vs:=[.int .u8 2,.bool false,iv 0,iv 0]) 3 [.int .u8 2,.bool false,iv 0,iv 0] S (wN d) d d d d d d d (lb d) fun a S=>leafL ⟨d,S⟩
     ·refine fJ [(240,_)] 2 [some 1] fun G a w S=>?_
      exact sBuild [(0,.int .u8 3),(1,.agg #[.int .u8 2,.bool false,iv 0,iv 0])] [.int .u8 3,.int .u8 2,.bool false,iv 0,iv 0] S (wN d) d d d d (lb d) fun a S=>leafL ⟨d,S⟩
     ·refine fJ [(39,_)] 3 [none] fun G a w S=>?_
      exact sLoadN (p:=ar) (off:=0) (T:=81) (vs:=[.int .u8 2,.bool false,iv 0,iv 0]) 3 [.int .u8 2,.bool false,iv 0,iv 0] S (wN d) d d d d d d d (lb d) fun a S=>leafL ⟨d,S⟩
     ·refine fJ [(242,_)] 4 [some 3] fun G a w S=>?_
      exact sBuild [(0,.int .u8 2),(1,.agg #[.int .u8 2,.bool false,iv 0,iv 0])] [.int .u8 2,.int .u8 2,.bool false,iv 0,iv 0] S (wN d) d d d d (lb d) fun a S=>leafL ⟨d,S⟩
     refine ⟨_,[],d,(srcs_of [] d d d),fun G a w S=>?_⟩
     refine sAlloc (.agg #[.int .u8 0,.int .u8 0,.bool false,iv 0,iv 0]) S (wN d) d d [.int .u8 0,.int .u8 0,.bool false,iv 0,iv 0] d d (lb d) fun a ap w S=>leafL ⟨d,_,_,.inl ⟨43,(.pointer (some ⟨ap,0,none⟩)),[],d,S,hz_of d,?_⟩⟩
     exact nd1 ap aq
    refine ⟨_,[],d,(srcs_of [] d d d),fun G a w S=>?_⟩
    refine sAlloc (.agg #[.int .u8 0,.int .u8 0,.bool false,iv 0,iv 0]) S (wN d) d d [.int .u8 0,.int .u8 0,.bool false,iv 0,iv 0] d d (lb d) fun a gv w S=>leafL ⟨d,_,_,.inl ⟨43,(.pointer (some ⟨gv,0,none⟩)),[],d,S,hz_of d,?_⟩⟩
    refine node_by (A:=anc_raddlelaw46_CompareNames_2) 8 (by kernel_rfl) (by kernel_rfl) (by kernel_rfl) (by kernel_rfl) (by kernel_rfl) [5,0,1,2,3] (by kernel_rfl) (by decide) (by decide) (fF ?_ (fF ?_ (fF ?_ (fF ?_ (fN ?_ (fY (aB 6 1 4 (by decide) (aB 7 0 4 (by decide) (trivial))))))))) [] (fun q hq=>by cases hq) (fun hY=>absurd (hY 4 (by decide)) (by decide))
    ·refine fJ [(39,_)] 1 [none] fun G a w S=>?_
     exact sLoadN (p:=ar) (off:=0) (T:=81) (vs:=[.int .u8 2,.bool false,iv 0,iv 0]) 3 [.int .u8 2,.bool false,iv 0,iv 0] S (wN d) d d d d d d d (lb d) fun a S=>leafL ⟨d,S⟩
    ·refine fJ [(240,_)] 2 [some 1] fun G a w S=>?_
     exact sBuild [(0,.int .u8 3),(1,.agg #[.int .u8 2,.bool false,iv 0,iv 0])] [.int .u8 3,.int .u8 2,.bool false,iv 0,iv 0] S (wN d) d d d d (lb d) fun a S=>leafL ⟨d,S⟩
    ·refine fJ [(39,_)] 3 [none] fun G a w S=>?_
     exact sLoadN (p:=ar) (off:=0) (T:=81) (vs:=[.int .u8 2,.bool false,iv 0,iv 0]) 3 [.int .u8 2,.bool false,iv 0,iv 0] S (wN d) d d d d d d d (lb d) fun a S=>leafL ⟨d,S⟩
    ·refine fJ [(242,_)] 4 [some 3] fun G a w S=>?_
     exact sBuild [(0,.int .u8 2),(1,.agg #[.int .u8 2,.bool false,iv 0,iv 0])] [.int .u8 2,.int .u8 2,.bool false,iv 0,iv 0] S (wN d) d d d d (lb d) fun a S=>leafL ⟨d,S⟩
    refine ⟨_,[],d,(srcs_of [] d d d),fun G a w S=>?_⟩
    refine sAlloc (.agg #[.int .u8 0,.int .u8 0,.bool false,iv 0,iv 0]) S (wN d) d d [.int .u8 0,.int .u8 0,.bool false,iv 0,iv 0] d d (lb d) fun a gw w S=>leafL ⟨d,_,_,.inl ⟨42,(.pointer (some ⟨gw,0,none⟩)),[],d,S,hz_of d,?_⟩⟩
    exact nodePerm (nd1 gv gw) [1,0,2,3,4,5] [1,0,2,3,4,5,6,7,8,9,10,11,12,13,14,15,16] [0,1,2,3,4,5,6,7,8,9,10,11,12,13,14,15,16,17,18,19,20,21,22,23,24] (by decide) (by decide) d d d
   refine nodeCut (fun N W L D=>∀ cM au av,N [8,1] ((8,31,.pointer (some ⟨cM,0,none⟩)) :: (1,145,.agg #[iv ak.W,iv ak.H,.slice au ak.Bits.length av]) :: W) ((eBox cM 33 [iv 0,iv 0]) :: L) ((fRep (rL rB) (.slice au ak.Bits.length av) ak.Bits) :: (fRep r_api_Grid (.agg #[iv ak.W,iv ak.H,.slice au ak.Bits.length av]) ak) :: D)) (fun cM au av=>?_) fun nd2=>?_
   ·refine node_by (A:=anc_raddlelaw46_CompareNames_0) 13 (by kernel_rfl) (by kernel_rfl) (by kernel_rfl) (by kernel_rfl) (by kernel_rfl) [8,1,0] (by kernel_rfl) (by decide) (by decide) (fF ?_ (fY (fN ?_ (fE 2 (fE 2 (fE 2 (fE 2 (fE 2 (fY (fE 2 (fE 2 (aB 11 1 2 (by decide) (fE 2 (trivial)))))))))))))) [] (fun q hq=>by cases hq) (fun hY=>absurd (hY 2 (by decide)) (by decide))
    ·refine fJ [(3,_)] 2 [none] fun G a w S=>?_
     exact sLoadN (p:=aP) (off:=0) (T:=24) (vs:=[iv a2.W,iv a2.H,.slice ab a2.Bits.length ac]) 8 [iv a2.W,iv a2.H,.slice ab a2.Bits.length ac] S (wN d) d d d d d d d (lb d) fun a S=>leafL ⟨d,S⟩
    refine ⟨_,[(144,.agg #[iv a2.W,iv a2.H,.slice ab a2.Bits.length ac]),(145,.agg #[iv ak.W,iv ak.H,.slice au ak.Bits.length av])],d,(srcs_of [some 2,some 1] d d d),fun G a w S=>?_⟩
    refine sCall (X:=Value) (f:=16) (vs:=[.agg #[iv a2.W,iv a2.H,.slice ab a2.Bits.length ac],.agg #[iv ak.W,iv ak.H,.slice au ak.Bits.length av],iv 0]) (val:=c_compare_Nearest_val a0) (B':=fun _=>[]) (D':=c_compare_Nearest_D a0) [] [eBox cM 33 [iv 0,iv 0],eBox bw 33 [iv ao.2.2.1.X,iv ao.2.2.1.Y],eBox bk 33 [iv am.2.2.1.X,iv am.2.2.1.Y],eBox bg 33 [iv al.2.2.1.X,iv al.2.2.1.Y],eBox aQ 33 [iv a6.2.2.1.X,iv a6.2.2.1.Y],eBox aX 33 [iv af.2.2.1.X,iv af.2.2.1.Y],eBox aW 33 [iv ae.2.2.1.X,iv ae.2.2.1.Y],eBox aV 24 [iv a9.W,iv a9.H,.slice ag a9.Bits.length ah],eBox aP 24 [iv a2.W,iv a2.H,.slice ab a2.Bits.length ac],eBox aK 24 [iv 17,iv 1,.slice a7 aa.length a8],eBox az 24 [iv r3.W,iv r3.H,.slice a4 r3.Bits.length a5]] [fRep r_api_Grid (.agg #[iv a2.W,iv a2.H,.slice ab a2.Bits.length ac]) a2,fRep r_api_Grid (.agg #[iv ak.W,iv ak.H,.slice au ak.Bits.length av]) ak] [0,1,2,3,4,5,6,7,8,9,10] [19,1] S (wN d) d callee16 d (by decide) d d (fun E1 w1 S1=>c_compare_Nearest E1 w1 a2 (.agg #[iv a2.W,iv a2.H,.slice ab a2.Bits.length ac]) ak (.agg #[iv ak.W,iv ak.H,.slice au ak.Bits.length av]) 0 a0 dn S1) d (lb d) fun gx a w S=>?_
    obtain rfl:gx=.agg #[iv a0.2.2.1.X,iv a0.2.2.1.Y]:=S.mem.know (i:=0) (e:=fRep r_api_Point (gx) a0.2.2.1) d
    refine leafL ⟨d,_,_,.inl ⟨146,(.tuple #[iv a0.1,iv a0.2.1,.agg #[iv a0.2.2.1.X,iv a0.2.2.1.Y],iv a0.2.2.2]),[(3,143,.tuple #[iv a0.1,iv a0.2.1,.agg #[iv a0.2.2.1.X,iv a0.2.2.1.Y],iv a0.2.2.2]),(4,147,iv a0.1),(5,148,iv a0.2.1),(6,149,.agg #[iv a0.2.2.1.X,iv a0.2.2.1.Y]),(7,150,iv a0.2.2.2),(9,29,iv a0.1),(10,30,iv a0.2.1)],d,S,hz_of d,?_⟩⟩
    exact nodePerm (nd1 cM au av) [5,6,8,0,1,2,3,4,7,9,10] [0,1,2,3,4,5,6,7,8,9,10] [0,1,2,3,4,5,6,7,8,9,10,11,12,13,14,15,16,17,18,19,20,21,22] (by decide) (by decide) d d d
   refine node_by (A:=anc_raddlelaw46_CompareNames_0) 13 (by kernel_rfl) (by kernel_rfl) (by kernel_rfl) (by kernel_rfl) (by kernel_rfl) [0] (by kernel_rfl) (by decide) (by decide) (fF ?_ (fN ?_ (aB 2 10 1 (by decide) (fE 1 (fE 1 (fE 1 (fE 1 (fE 1 (fN ?_ (fE 1 (fE 1 (aB 11 1 1 (by decide) (fE 1 (trivial)))))))))))))) [] (fun q hq=>by cases hq) (fun hY=>absurd (hY 1 (by decide)) (by decide))
   ·refine fJ [(3,_)] 0 [none] fun G a w S=>?_
    exact sLoadN (p:=aP) (off:=0) (T:=24) (vs:=[iv a2.W,iv a2.H,.slice ab a2.Bits.length ac]) 7 [iv a2.W,iv a2.H,.slice ab a2.Bits.length ac] S (wN d) d d d d d d d (lb d) fun a S=>leafL ⟨d,S⟩
   ·refine ⟨_,[],d,(srcs_of [] d d d),fun G a w S=>?_⟩
    refine sCall (X:=Value) (f:=41) (vs:=[.string (⟨#[120,46,10]⟩:ByteArray)]) (val:=c_raddlelaw46_cloth_val ak) (B':=fun _=>[]) (D':=c_raddlelaw46_cloth_D ak) [] [eBox bw 33 [iv ao.2.2.1.X,iv ao.2.2.1.Y],eBox bk 33 [iv am.2.2.1.X,iv am.2.2.1.Y],eBox bg 33 [iv al.2.2.1.X,iv al.2.2.1.Y],eBox aQ 33 [iv a6.2.2.1.X,iv a6.2.2.1.Y],eBox aX 33 [iv af.2.2.1.X,iv af.2.2.1.Y],eBox aW 33 [iv ae.2.2.1.X,iv ae.2.2.1.Y],eBox aV 24 [iv a9.W,iv a9.H,.slice ag a9.Bits.length ah],eBox aP 24 [iv a2.W,iv a2.H,.slice ab a2.Bits.length ac],eBox aK 24 [iv 17,iv 1,.slice a7 aa.length a8],eBox az 24 [iv r3.W,iv r3.H,.slice a4 r3.Bits.length a5]] [] [0,1,2,3,4,5,6,7,8,9] [] S (wN d) d callee41 d (by decide) d d (fun E1 w1 S1=>c_raddlelaw46_cloth E1 w1 (⟨#[120,46,10]⟩:ByteArray) ak dl S1) d (lb d) fun ia a w S=>?_
    obtain ⟨ib,rfl,eX⟩:=S.mem.know (i:=0) (e:=fRep r_api_Grid (ia) ak) d
    have S:=S.learn (fRep (rL rB) ib ak.Bits) eX
    obtain ⟨au,av,_,rfl,_⟩:=eX
    refine leafL ⟨d,_,_,.inl ⟨145,(.agg #[iv ak.W,iv ak.H,.slice au ak.Bits.length av]),[],d,S,hz_of d,?_⟩⟩
    refine node_by (A:=anc_raddlelaw46_CompareNames_0) 13 (by kernel_rfl) (by kernel_rfl) (by kernel_rfl) (by kernel_rfl) (by kernel_rfl) [1,0] (by kernel_rfl) (by decide) (by decide) (fF ?_ (fY (fN ?_ (fE 2 (fE 2 (fE 2 (fE 2 (fE 2 (fN ?_ (fE 2 (fE 2 (aB 11 1 2 (by decide) (fE 2 (trivial)))))))))))))) [] (fun q hq=>by cases hq) (fun hY=>absurd (hY 2 (by decide)) (by decide))
    ·refine fJ [(3,_)] 1 [none] fun G a w S=>?_
     exact sLoadN (p:=aP) (off:=0) (T:=24) (vs:=[iv a2.W,iv a2.H,.slice ab a2.Bits.length ac]) 7 [iv a2.W,iv a2.H,.slice ab a2.Bits.length ac] S (wN d) d d d d d d d (lb d) fun a S=>leafL ⟨d,S⟩
    ·refine ⟨_,[(144,.agg #[iv a2.W,iv a2.H,.slice ab a2.Bits.length ac]),(145,.agg #[iv ak.W,iv ak.H,.slice au ak.Bits.length av])],d,(srcs_of [some 1,some 0] d d d),fun G a w S=>?_⟩
     refine sCall (X:=Value) (f:=16) (vs:=[.agg #[iv a2.W,iv a2.H,.slice ab a2.Bits.length ac],.agg #[iv ak.W,iv ak.H,.slice au ak.Bits.length av],iv 0]) (val:=c_compare_Nearest_val a0) (B':=fun _=>[]) (D':=c_compare_Nearest_D a0) [] [eBox bw 33 [iv ao.2.2.1.X,iv ao.2.2.1.Y],eBox bk 33 [iv am.2.2.1.X,iv am.2.2.1.Y],eBox bg 33 [iv al.2.2.1.X,iv al.2.2.1.Y],eBox aQ 33 [iv a6.2.2.1.X,iv a6.2.2.1.Y],eBox aX 33 [iv af.2.2.1.X,iv af.2.2.1.Y],eBox aW 33 [iv ae.2.2.1.X,iv ae.2.2.1.Y],eBox aV 24 [iv a9.W,iv a9.H,.slice ag a9.Bits.length ah],eBox aP 24 [iv a2.W,iv a2.H,.slice ab a2.Bits.length ac],eBox aK 24 [iv 17,iv 1,.slice a7 aa.length a8],eBox az 24 [iv r3.W,iv r3.H,.slice a4 r3.Bits.length a5]] [fRep r_api_Grid (.agg #[iv a2.W,iv a2.H,.slice ab a2.Bits.length ac]) a2,fRep r_api_Grid (.agg #[iv ak.W,iv ak.H,.slice au ak.Bits.length av]) ak] [0,1,2,3,4,5,6,7,8,9] [19,1] S (wN d) d callee16 d (by decide) d d (fun E1 w1 S1=>c_compare_Nearest E1 w1 a2 (.agg #[iv a2.W,iv a2.H,.slice ab a2.Bits.length ac]) ak (.agg #[iv ak.W,iv ak.H,.slice au ak.Bits.length av]) 0 a0 dn S1) d (lb d) fun gy a w S=>?_
     obtain rfl:gy=.agg #[iv a0.2.2.1.X,iv a0.2.2.1.Y]:=S.mem.know (i:=0) (e:=fRep r_api_Point (gy) a0.2.2.1) d
     refine leafL ⟨d,_,_,.inl ⟨146,(.tuple #[iv a0.1,iv a0.2.1,.agg #[iv a0.2.2.1.X,iv a0.2.2.1.Y],iv a0.2.2.2]),[(3,143,.tuple #[iv a0.1,iv a0.2.1,.agg #[iv a0.2.2.1.X,iv a0.2.2.1.Y],iv a0.2.2.2]),(4,147,iv a0.1),(5,148,iv a0.2.1),(6,149,.agg #[iv a0.2.2.1.X,iv a0.2.2.1.Y]),(7,150,iv a0.2.2.2)],d,S,hz_of d,?_⟩⟩
     refine node_by (A:=anc_raddlelaw46_CompareNames_0) 13 (by kernel_rfl) (by kernel_rfl) (by kernel_rfl) (by kernel_rfl) (by kernel_rfl) [3,4,5,6,7,2,1,0] (by kernel_rfl) (by decide) (by decide) (fD 2 (fY (fY (fF ?_ (fF ?_ (fF ?_ (fF ?_ (fF ?_ (fN ?_ (fE 8 (fE 8 (aB 11 1 8 (by decide) (fE 8 (trivial)))))))))))))) [] (fun q hq=>by cases hq) (fun hY=>absurd (hY 8 (by decide)) (by decide))
     ·exact fM 0 (some 5) d d d d (.inl d) d d d
     ·refine fJ [(143,_)] 1 [some 0] fun G a w S=>?_
      exact sExtract (vs:=[iv a0.1,iv a0.2.1,.agg #[iv a0.2.2.1.X,iv a0.2.2.1.Y],iv a0.2.2.2]) (iv a0.1) S (wN d) d d d d (lb d) fun a S=>leafL ⟨d,S⟩
     ·refine fJ [(143,_)] 2 [some 0] fun G a w S=>?_
      exact sExtract (vs:=[iv a0.1,iv a0.2.1,.agg #[iv a0.2.2.1.X,iv a0.2.2.1.Y],iv a0.2.2.2]) (iv a0.2.1) S (wN d) d d d d (lb d) fun a S=>leafL ⟨d,S⟩
     ·refine fJ [(143,_)] 3 [some 0] fun G a w S=>?_
      exact sExtract (vs:=[iv a0.1,iv a0.2.1,.agg #[iv a0.2.2.1.X,iv a0.2.2.1.Y],iv a0.2.2.2]) (.agg #[iv a0.2.2.1.X,iv a0.2.2.1.Y]) S (wN d) d d d d (lb d) fun a S=>leafL ⟨d,S⟩
     ·refine fJ [(143,_)] 4 [some 0] fun G a w S=>?_
      exact sExtract (vs:=[iv a0.1,iv a0.2.1,.agg #[iv a0.2.2.1.X,iv a0.2.2.1.Y],iv a0.2.2.2]) (iv a0.2.2.2) S (wN d) d d d d (lb d) fun a S=>leafL ⟨d,S⟩
     refine ⟨_,[],d,(srcs_of [] d d d),fun G a w S=>?_⟩
     refine sAlloc (.agg #[iv 0,iv 0]) S (wN d) d d [iv 0,iv 0] d d (lb d) fun a ay w S=>leafL ⟨d,_,_,.inl ⟨31,(.pointer (some ⟨ay,0,none⟩)),[(9,29,iv a0.1),(10,30,iv a0.2.1)],d,S,hz_of d,?_⟩⟩
     exact nd1 ay au av
    refine ⟨_,[],d,(srcs_of [] d d d),fun G a w S=>?_⟩
    refine sAlloc (.agg #[iv 0,iv 0]) S (wN d) d d [iv 0,iv 0] d d (lb d) fun a cM w S=>leafL ⟨d,_,_,.inl ⟨31,(.pointer (some ⟨cM,0,none⟩)),[],d,S,hz_of d,?_⟩⟩
    exact nd2 cM au av
   refine ⟨_,[],d,(srcs_of [] d d d),fun G a w S=>?_⟩
   refine sAlloc (.agg #[iv 0,iv 0]) S (wN d) d d [iv 0,iv 0] d d (lb d) fun a fz w S=>leafL ⟨d,_,_,.inl ⟨31,(.pointer (some ⟨fz,0,none⟩)),[],d,S,hz_of d,?_⟩⟩
   refine node_by (A:=anc_raddlelaw46_CompareNames_0) 13 (by kernel_rfl) (by kernel_rfl) (by kernel_rfl) (by kernel_rfl) (by kernel_rfl) [8,0] (by kernel_rfl) (by decide) (by decide) (fF ?_ (fN ?_ (aB 2 10 1 (by decide) (fE 1 (fE 1 (fE 1 (fE 1 (fE 1 (fY (fE 1 (fE 1 (aB 11 1 1 (by decide) (fE 1 (trivial)))))))))))))) [] (fun q hq=>by cases hq) (fun hY=>absurd (hY 1 (by decide)) (by decide))
   ·refine fJ [(3,_)] 1 [none] fun G a w S=>?_
    exact sLoadN (p:=aP) (off:=0) (T:=24) (vs:=[iv a2.W,iv a2.H,.slice ab a2.Bits.length ac]) 8 [iv a2.W,iv a2.H,.slice ab a2.Bits.length ac] S (wN d) d d d d d d d (lb d) fun a S=>leafL ⟨d,S⟩
   refine ⟨_,[],d,(srcs_of [] d d d),fun G a w S=>?_⟩
   refine sCall (X:=Value) (f:=41) (vs:=[.string (⟨#[120,46,10]⟩:ByteArray)]) (val:=c_raddlelaw46_cloth_val ak) (B':=fun _=>[]) (D':=c_raddlelaw46_cloth_D ak) [] [eBox fz 33 [iv 0,iv 0],eBox bw 33 [iv ao.2.2.1.X,iv ao.2.2.1.Y],eBox bk 33 [iv am.2.2.1.X,iv am.2.2.1.Y],eBox bg 33 [iv al.2.2.1.X,iv al.2.2.1.Y],eBox aQ 33 [iv a6.2.2.1.X,iv a6.2.2.1.Y],eBox aX 33 [iv af.2.2.1.X,iv af.2.2.1.Y],eBox aW 33 [iv ae.2.2.1.X,iv ae.2.2.1.Y],eBox aV 24 [iv a9.W,iv a9.H,.slice ag a9.Bits.length ah],eBox aP 24 [iv a2.W,iv a2.H,.slice ab a2.Bits.length ac],eBox aK 24 [iv 17,iv 1,.slice a7 aa.length a8],eBox az 24 [iv r3.W,iv r3.H,.slice a4 r3.Bits.length a5]] [] [0,1,2,3,4,5,6,7,8,9,10] [] S (wN d) d callee41 d (by decide) d d (fun E1 w1 S1=>c_raddlelaw46_cloth E1 w1 (⟨#[120,46,10]⟩:ByteArray) ak dl S1) d (lb d) fun ic a w S=>?_
   obtain ⟨ig,rfl,eY⟩:=S.mem.know (i:=0) (e:=fRep r_api_Grid (ic) ak) d
   have S:=S.learn (fRep (rL rB) ig ak.Bits) eY
   obtain ⟨eZ,f0,_,rfl,_⟩:=eY
   refine leafL ⟨d,_,_,.inl ⟨145,(.agg #[iv ak.W,iv ak.H,.slice eZ ak.Bits.length f0]),[],d,S,hz_of d,?_⟩⟩
   exact nodePerm (nd2 fz eZ f0) [1,0,2] [0,1,2,3,4,5,6,7,8,9,10] [0,1,2,3,4,5,6,7,8,9,10,11,12,13,14,15,16,17,18,19,20,21] (by decide) (by decide) d d d
  refine nodeCut (fun N W L D=>∀ cN aR aS,N [8,1] ((8,15,.pointer (some ⟨cN,0,none⟩)) :: (1,113,.agg #[iv aA.W,iv aA.H,.slice aR aA.Bits.length aS]) :: W) ((eBox cN 33 [iv 0,iv 0]) :: L) ((fRep (rL rB) (.slice aR aA.Bits.length aS) aA.Bits) :: (fRep r_api_Grid (.agg #[iv aA.W,iv aA.H,.slice aR aA.Bits.length aS]) aA) :: D)) (fun cN aR aS=>?_) fun nd2=>?_
  ·refine node_by (A:=anc_raddlelaw46_CompareNames_0) 13 (by kernel_rfl) (by kernel_rfl) (by kernel_rfl) (by kernel_rfl) (by kernel_rfl) [8,1,0] (by kernel_rfl) (by decide) (by decide) (fF ?_ (fY (fN ?_ (fE 2 (fE 2 (fE 2 (fE 2 (fE 2 (fY (fE 2 (fE 2 (aB 11 1 2 (by decide) (fE 2 (trivial)))))))))))))) [] (fun q hq=>by cases hq) (fun hY=>absurd (hY 2 (by decide)) (by decide))
   ·refine fJ [(1,_)] 2 [none] fun G a w S=>?_
    exact sLoadN (p:=az) (off:=0) (T:=24) (vs:=[iv r3.W,iv r3.H,.slice a4 r3.Bits.length a5]) 6 [iv r3.W,iv r3.H,.slice a4 r3.Bits.length a5] S (wN d) d d d d d d d (lb d) fun a S=>leafL ⟨d,S⟩
   refine ⟨_,[(112,.agg #[iv r3.W,iv r3.H,.slice a4 r3.Bits.length a5]),(113,.agg #[iv aA.W,iv aA.H,.slice aR aA.Bits.length aS])],d,(srcs_of [some 2,some 1] d d d),fun G a w S=>?_⟩
   refine sCall (X:=Value) (f:=16) (vs:=[.agg #[iv r3.W,iv r3.H,.slice a4 r3.Bits.length a5],.agg #[iv aA.W,iv aA.H,.slice aR aA.Bits.length aS],iv 3]) (val:=c_compare_Nearest_val a6) (B':=fun _=>[]) (D':=c_compare_Nearest_D a6) [] [eBox cN 33 [iv 0,iv 0],eBox aX 33 [iv af.2.2.1.X,iv af.2.2.1.Y],eBox aW 33 [iv ae.2.2.1.X,iv ae.2.2.1.Y],eBox aV 24 [iv a9.W,iv a9.H,.slice ag a9.Bits.length ah],eBox aP 24 [iv a2.W,iv a2.H,.slice ab a2.Bits.length ac],eBox aK 24 [iv 17,iv 1,.slice a7 aa.length a8],eBox az 24 [iv r3.W,iv r3.H,.slice a4 r3.Bits.length a5],eRow rB 4 (.slice a7 aa.length a8) aa] [fRep r_api_Grid (.agg #[iv r3.W,iv r3.H,.slice a4 r3.Bits.length a5]) r3,fRep r_api_Grid (.agg #[iv aA.W,iv aA.H,.slice aR aA.Bits.length aS]) aA] [0,1,2,3,4,5,6,7] [9,1] S (wN d) d callee16 d (by decide) d d (fun E1 w1 S1=>c_compare_Nearest E1 w1 r3 (.agg #[iv r3.W,iv r3.H,.slice a4 r3.Bits.length a5]) aA (.agg #[iv aA.W,iv aA.H,.slice aR aA.Bits.length aS]) 3 a6 fu S1) d (lb d) fun gz a w S=>?_
   obtain rfl:gz=.agg #[iv a6.2.2.1.X,iv a6.2.2.1.Y]:=S.mem.know (i:=0) (e:=fRep r_api_Point (gz) a6.2.2.1) d
   refine leafL ⟨d,_,_,.inl ⟨114,(.tuple #[iv a6.1,iv a6.2.1,.agg #[iv a6.2.2.1.X,iv a6.2.2.1.Y],iv a6.2.2.2]),[(3,111,.tuple #[iv a6.1,iv a6.2.1,.agg #[iv a6.2.2.1.X,iv a6.2.2.1.Y],iv a6.2.2.2]),(4,115,iv a6.1),(5,116,iv a6.2.1),(6,117,.agg #[iv a6.2.2.1.X,iv a6.2.2.1.Y]),(7,118,iv a6.2.2.2),(9,13,iv a6.1),(10,14,iv a6.2.1)],d,S,hz_of d,?_⟩⟩
   exact nodePerm (nd1 cN aR aS) [5,6,8,0,1,2,3,4,7,9,10] [0,1,2,3,4,5,6,7] [0,1,2,3,4,5,6,7,8,9,10] (by decide) (by decide) d d d
  refine node_by (A:=anc_raddlelaw46_CompareNames_0) 13 (by kernel_rfl) (by kernel_rfl) (by kernel_rfl) (by kernel_rfl) (by kernel_rfl) [0] (by kernel_rfl) (by decide) (by decide) (fF ?_ (fN ?_ (aB 2 10 1 (by decide) (fE 1 (fE 1 (fE 1 (fE 1 (fE 1 (fN ?_ (fE 1 (fE 1 (aB 11 1 1 (by decide) (fE 1 (trivial)))))))))))))) [] (fun q hq=>by cases hq) (fun hY=>absurd (hY 1 (by decide)) (by decide))
  ·refine fJ [(1,_)] 0 [none] fun G a w S=>?_
   exact sLoadN (p:=az) (off:=0) (T:=24) (vs:=[iv r3.W,iv r3.H,.slice a4 r3.Bits.length a5]) 5 [iv r3.W,iv r3.H,.slice a4 r3.Bits.length a5] S (wN d) d d d d d d d (lb d) fun a S=>leafL ⟨d,S⟩
  ·refine ⟨_,[],d,(srcs_of [] d d d),fun G a w S=>?_⟩
   refine sCall (X:=Value) (f:=41) (vs:=[.string (⟨#[120,46,120,120,10,120,120,120,120,10,120,120,120,120,10,120,120,120,120,10]⟩:ByteArray)]) (val:=c_raddlelaw46_cloth_val aA) (B':=fun _=>[]) (D':=c_raddlelaw46_cloth_D aA) [] [eBox aX 33 [iv af.2.2.1.X,iv af.2.2.1.Y],eBox aW 33 [iv ae.2.2.1.X,iv ae.2.2.1.Y],eBox aV 24 [iv a9.W,iv a9.H,.slice ag a9.Bits.length ah],eBox aP 24 [iv a2.W,iv a2.H,.slice ab a2.Bits.length ac],eBox aK 24 [iv 17,iv 1,.slice a7 aa.length a8],eBox az 24 [iv r3.W,iv r3.H,.slice a4 r3.Bits.length a5],eRow rB 4 (.slice a7 aa.length a8) aa] [] [0,1,2,3,4,5,6] [] S (wN d) d callee41 d (by decide) d d (fun E1 w1 S1=>c_raddlelaw46_cloth E1 w1 (⟨#[120,46,120,120,10,120,120,120,120,10,120,120,120,120,10,120,120,120,120,10]⟩:ByteArray) aA ft S1) d (lb d) fun jn a w S=>?_
   obtain ⟨jo,rfl,gA⟩:=S.mem.know (i:=0) (e:=fRep r_api_Grid (jn) aA) d
   have S:=S.learn (fRep (rL rB) jo aA.Bits) gA
   obtain ⟨aR,aS,_,rfl,_⟩:=gA
   refine leafL ⟨d,_,_,.inl ⟨113,(.agg #[iv aA.W,iv aA.H,.slice aR aA.Bits.length aS]),[],d,S,hz_of d,?_⟩⟩
   refine node_by (A:=anc_raddlelaw46_CompareNames_0) 13 (by kernel_rfl) (by kernel_rfl) (by kernel_rfl) (by kernel_rfl) (by kernel_rfl) [1,0] (by kernel_rfl) (by decide) (by decide) (fF ?_ (fY (fN ?_ (fE 2 (fE 2 (fE 2 (fE 2 (fE 2 (fN ?_ (fE 2 (fE 2 (aB 11 1 2 (by decide) (fE 2 (trivial)))))))))))))) [] (fun q hq=>by cases hq) (fun hY=>absurd (hY 2 (by decide)) (by decide))
   ·refine fJ [(1,_)] 1 [none] fun G a w S=>?_
    exact sLoadN (p:=az) (off:=0) (T:=24) (vs:=[iv r3.W,iv r3.H,.slice a4 r3.Bits.length a5]) 5 [iv r3.W,iv r3.H,.slice a4 r3.Bits.length a5] S (wN d) d d d d d d d (lb d) fun a S=>leafL ⟨d,S⟩
   ·refine ⟨_,[(112,.agg #[iv r3.W,iv r3.H,.slice a4 r3.Bits.length a5]),(113,.agg #[iv aA.W,iv aA.H,.slice aR aA.Bits.length aS])],d,(srcs_of [some 1,some 0] d d d),fun G a w S=>?_⟩
    refine sCall (X:=Value) (f:=16) (vs:=[.agg #[iv r3.W,iv r3.H,.slice a4 r3.Bits.length a5],.agg #[iv aA.W,iv aA.H,.slice aR aA.Bits.length aS],iv 3]) (val:=c_compare_Nearest_val a6) (B':=fun _=>[]) (D':=c_compare_Nearest_D a6) [] [eBox aX 33 [iv af.2.2.1.X,iv af.2.2.1.Y],eBox aW 33 [iv ae.2.2.1.X,iv ae.2.2.1.Y],eBox aV 24 [iv a9.W,iv a9.H,.slice ag a9.Bits.length ah],eBox aP 24 [iv a2.W,iv a2.H,.slice ab a2.Bits.length ac],eBox aK 24 [iv 17,iv 1,.slice a7 aa.length a8],eBox az 24 [iv r3.W,iv r3.H,.slice a4 r3.Bits.length a5],eRow rB 4 (.slice a7 aa.length a8) aa] [fRep r_api_Grid (.agg #[iv r3.W,iv r3.H,.slice a4 r3.Bits.length a5]) r3,fRep r_api_Grid (.agg #[iv aA.W,iv aA.H,.slice aR aA.Bits.length aS]) aA] [0,1,2,3,4,5,6] [9,1] S (wN d) d callee16 d (by decide) d d (fun E1 w1 S1=>c_compare_Nearest E1 w1 r3 (.agg #[iv r3.W,iv r3.H,.slice a4 r3.Bits.length a5]) aA (.agg #[iv aA.W,iv aA.H,.slice aR aA.Bits.length aS]) 3 a6 fu S1) d (lb d) fun iI a w S=>?_
    obtain rfl:iI=.agg #[iv a6.2.2.1.X,iv a6.2.2.1.Y]:=S.mem.know (i:=0) (e:=fRep r_api_Point (iI) a6.2.2.1) d
    refine leafL ⟨d,_,_,.inl ⟨114,(.tuple #[iv a6.1,iv a6.2.1,.agg #[iv a6.2.2.1.X,iv a6.2.2.1.Y],iv a6.2.2.2]),[(3,111,.tuple #[iv a6.1,iv a6.2.1,.agg #[iv a6.2.2.1.X,iv a6.2.2.1.Y],iv a6.2.2.2]),(4,115,iv a6.1),(5,116,iv a6.2.1),(6,117,.agg #[iv a6.2.2.1.X,iv a6.2.2.1.Y]),(7,118,iv a6.2.2.2)],d,S,hz_of d,?_⟩⟩
    refine node_by (A:=anc_raddlelaw46_CompareNames_0) 13 (by kernel_rfl) (by kernel_rfl) (by kernel_rfl) (by kernel_rfl) (by kernel_rfl) [3,4,5,6,7,2,1,0] (by kernel_rfl) (by decide) (by decide) (fD 2 (fY (fY (fF ?_ (fF ?_ (fF ?_ (fF ?_ (fF ?_ (fN ?_ (fE 8 (fE 8 (aB 11 1 8 (by decide) (fE 8 (trivial)))))))))))))) [] (fun q hq=>by cases hq) (fun hY=>absurd (hY 8 (by decide)) (by decide))
    ·exact fM 0 (some 5) d d d d (.inl d) d d d
    ·refine fJ [(111,_)] 1 [some 0] fun G a w S=>?_
     exact sExtract (vs:=[iv a6.1,iv a6.2.1,.agg #[iv a6.2.2.1.X,iv a6.2.2.1.Y],iv a6.2.2.2]) (iv a6.1) S (wN d) d d d d (lb d) fun a S=>leafL ⟨d,S⟩
    ·refine fJ [(111,_)] 2 [some 0] fun G a w S=>?_
     exact sExtract (vs:=[iv a6.1,iv a6.2.1,.agg #[iv a6.2.2.1.X,iv a6.2.2.1.Y],iv a6.2.2.2]) (iv a6.2.1) S (wN d) d d d d (lb d) fun a S=>leafL ⟨d,S⟩
    ·refine fJ [(111,_)] 3 [some 0] fun G a w S=>?_
     exact sExtract (vs:=[iv a6.1,iv a6.2.1,.agg #[iv a6.2.2.1.X,iv a6.2.2.1.Y],iv a6.2.2.2]) (.agg #[iv a6.2.2.1.X,iv a6.2.2.1.Y]) S (wN d) d d d d (lb d) fun a S=>leafL ⟨d,S⟩
    ·refine fJ [(111,_)] 4 [some 0] fun G a w S=>?_
     exact sExtract (vs:=[iv a6.1,iv a6.2.1,.agg #[iv a6.2.2.1.X,iv a6.2.2.1.Y],iv a6.2.2.2]) (iv a6.2.2.2) S (wN d) d d d d (lb d) fun a S=>leafL ⟨d,S⟩
    refine ⟨_,[],d,(srcs_of [] d d d),fun G a w S=>?_⟩
    refine sAlloc (.agg #[iv 0,iv 0]) S (wN d) d d [iv 0,iv 0] d d (lb d) fun a aQ w S=>leafL ⟨d,_,_,.inl ⟨15,(.pointer (some ⟨aQ,0,none⟩)),[(9,13,iv a6.1),(10,14,iv a6.2.1)],d,S,hz_of d,?_⟩⟩
    exact nd1 aQ aR aS
   refine ⟨_,[],d,(srcs_of [] d d d),fun G a w S=>?_⟩
   refine sAlloc (.agg #[iv 0,iv 0]) S (wN d) d d [iv 0,iv 0] d d (lb d) fun a cN w S=>leafL ⟨d,_,_,.inl ⟨15,(.pointer (some ⟨cN,0,none⟩)),[],d,S,hz_of d,?_⟩⟩
   exact nd2 cN aR aS
  refine ⟨_,[],d,(srcs_of [] d d d),fun G a w S=>?_⟩
  refine sAlloc (.agg #[iv 0,iv 0]) S (wN d) d d [iv 0,iv 0] d d (lb d) fun a fA w S=>leafL ⟨d,_,_,.inl ⟨15,(.pointer (some ⟨fA,0,none⟩)),[],d,S,hz_of d,?_⟩⟩
  refine node_by (A:=anc_raddlelaw46_CompareNames_0) 13 (by kernel_rfl) (by kernel_rfl) (by kernel_rfl) (by kernel_rfl) (by kernel_rfl) [8,0] (by kernel_rfl) (by decide) (by decide) (fF ?_ (fN ?_ (aB 2 10 1 (by decide) (fE 1 (fE 1 (fE 1 (fE 1 (fE 1 (fY (fE 1 (fE 1 (aB 11 1 1 (by decide) (fE 1 (trivial)))))))))))))) [] (fun q hq=>by cases hq) (fun hY=>absurd (hY 1 (by decide)) (by decide))
  ·refine fJ [(1,_)] 1 [none] fun G a w S=>?_
   exact sLoadN (p:=az) (off:=0) (T:=24) (vs:=[iv r3.W,iv r3.H,.slice a4 r3.Bits.length a5]) 6 [iv r3.W,iv r3.H,.slice a4 r3.Bits.length a5] S (wN d) d d d d d d d (lb d) fun a S=>leafL ⟨d,S⟩
  refine ⟨_,[],d,(srcs_of [] d d d),fun G a w S=>?_⟩
  refine sCall (X:=Value) (f:=41) (vs:=[.string (⟨#[120,46,120,120,10,120,120,120,120,10,120,120,120,120,10,120,120,120,120,10]⟩:ByteArray)]) (val:=c_raddlelaw46_cloth_val aA) (B':=fun _=>[]) (D':=c_raddlelaw46_cloth_D aA) [] [eBox fA 33 [iv 0,iv 0],eBox aX 33 [iv af.2.2.1.X,iv af.2.2.1.Y],eBox aW 33 [iv ae.2.2.1.X,iv ae.2.2.1.Y],eBox aV 24 [iv a9.W,iv a9.H,.slice ag a9.Bits.length ah],eBox aP 24 [iv a2.W,iv a2.H,.slice ab a2.Bits.length ac],eBox aK 24 [iv 17,iv 1,.slice a7 aa.length a8],eBox az 24 [iv r3.W,iv r3.H,.slice a4 r3.Bits.length a5],eRow rB 4 (.slice a7 aa.length a8) aa] [] [0,1,2,3,4,5,6,7] [] S (wN d) d callee41 d (by decide) d d (fun E1 w1 S1=>c_raddlelaw46_cloth E1 w1 (⟨#[120,46,120,120,10,120,120,120,120,10,120,120,120,120,10,120,120,120,120,10]⟩:ByteArray) aA ft S1) d (lb d) fun ii a w S=>?_
  obtain ⟨ij,rfl,f1⟩:=S.mem.know (i:=0) (e:=fRep r_api_Grid (ii) aA) d
  have S:=S.learn (fRep (rL rB) ij aA.Bits) f1
  obtain ⟨f2,f3,_,rfl,_⟩:=f1
  refine leafL ⟨d,_,_,.inl ⟨113,(.agg #[iv aA.W,iv aA.H,.slice f2 aA.Bits.length f3]),[],d,S,hz_of d,?_⟩⟩
  exact nodePerm (nd2 fA f2 f3) [1,0,2] [0,1,2,3,4,5,6,7] [0,1,2,3,4,5,6,7,8,9] (by decide) (by decide) d d d
 refine nodeCut (fun N W L D=>∀ aK az a7 a8 a4 a5,N [4,3,1,0] ((4,2,.pointer (some ⟨aK,0,none⟩)) :: (3,1,.pointer (some ⟨az,0,none⟩)) :: (2,92,.agg #[iv 17,iv 1,.slice a7 aa.length a8]) :: (1,91,.slice a7 aa.length a8) :: (0,90,.agg #[iv r3.W,iv r3.H,.slice a4 r3.Bits.length a5]) :: []) ((eBox aK 24 [iv 0,iv 0,.slice none 0 0]) :: (eBox az 24 [iv 0,iv 0,.slice none 0 0]) :: (eRow rB 4 (.slice a7 aa.length a8) aa) :: []) ((fRep (rL rB) (.slice a4 r3.Bits.length a5) r3.Bits) :: (fRep r_api_Grid (.agg #[iv r3.W,iv r3.H,.slice a4 r3.Bits.length a5]) r3) :: [])) (fun aK az a7 a8 a4 a5=>?_) fun nd3=>?_
 ·refine node_by (A:=[[],[],[1],[],[],[0,3,4],[0,1,2,3,4,5]]) (nf:=[0,1,3,4,5,6]) (Y:=[4,3,1,0]) 7 (by kernel_rfl) (by kernel_rfl) (by kernel_rfl) (by kernel_rfl) (by kernel_rfl) [4,3,2,1,0] (by kernel_rfl) (by decide) (by decide) (fY (fY (fF ?_ (fY (fY (fN ?_ (aB 6 0 5 (by decide) (trivial)))))))) [] (fun q hq=>by cases hq) (fun hY=>absurd (hY 5 (by decide)) (by decide))
  ·refine fJ [(91,_)] 2 [some 3] fun G a w S=>?_
   exact sBuild [(0,iv 17),(1,iv 1),(2,.slice a7 aa.length a8)] [iv 17,iv 1,.slice a7 aa.length a8] S (wN d) d d d d (lb d) fun a S=>leafL ⟨d,S⟩
  refine ⟨_,[(1,.pointer (some ⟨az,0,none⟩)),(90,.agg #[iv r3.W,iv r3.H,.slice a4 r3.Bits.length a5])],d,(srcs_of [some 1,some 4] d d d),fun G a w S=>?_⟩
  refine sStore (p:=az) (off:=0) (T:=24) (vs:=[iv 0,iv 0,.slice none 0 0]) (v:=.agg #[iv r3.W,iv r3.H,.slice a4 r3.Bits.length a5]) 1 [iv r3.W,iv r3.H,.slice a4 r3.Bits.length a5] S (wN d) d d d d d d d (by simp) d fun a w S=>leafL ⟨d,_,_,.inr ⟨[],d,S,hz_of d,?_⟩⟩
  exact nd4 aK az a7 a8 a4 a5
 refine nodeCut (fun N W L D=>∀ az a7 a8 a4 a5,N [3,1,0] ((3,1,.pointer (some ⟨az,0,none⟩)) :: (2,92,.agg #[iv 17,iv 1,.slice a7 aa.length a8]) :: (1,91,.slice a7 aa.length a8) :: (0,90,.agg #[iv r3.W,iv r3.H,.slice a4 r3.Bits.length a5]) :: []) ((eBox az 24 [iv 0,iv 0,.slice none 0 0]) :: (eRow rB 4 (.slice a7 aa.length a8) aa) :: []) ((fRep (rL rB) (.slice a4 r3.Bits.length a5) r3.Bits) :: (fRep r_api_Grid (.agg #[iv r3.W,iv r3.H,.slice a4 r3.Bits.length a5]) r3) :: [])) (fun az a7 a8 a4 a5=>?_) fun nd2=>?_
 ·refine node_by (A:=[[],[],[1],[],[],[0,3,4],[0,1,2,3,4,5]]) (nf:=[0,1,3,4,5,6]) (Y:=[3,1,0]) 7 (by kernel_rfl) (by kernel_rfl) (by kernel_rfl) (by kernel_rfl) (by kernel_rfl) [3,2,1,0] (by kernel_rfl) (by decide) (by decide) (fY (fY (fF ?_ (fY (fN ?_ (aB 5 1 4 (by decide) (aB 6 0 4 (by decide) (trivial)))))))) [] (fun q hq=>by cases hq) (fun hY=>absurd (hY 4 (by decide)) (by decide))
  ·refine fJ [(91,_)] 1 [some 2] fun G a w S=>?_
   exact sBuild [(0,iv 17),(1,iv 1),(2,.slice a7 aa.length a8)] [iv 17,iv 1,.slice a7 aa.length a8] S (wN d) d d d d (lb d) fun a S=>leafL ⟨d,S⟩
  refine ⟨_,[],d,(srcs_of [] d d d),fun G a w S=>?_⟩
  refine sAlloc (.agg #[iv 0,iv 0,.slice none 0 0]) S (wN d) d d [iv 0,iv 0,.slice none 0 0] d d (lb d) fun a aK w S=>leafL ⟨d,_,_,.inl ⟨2,(.pointer (some ⟨aK,0,none⟩)),[],d,S,hz_of d,?_⟩⟩
  exact nd3 aK az a7 a8 a4 a5
 refine nodeCut (fun N W L D=>∀ cR a7 a8 a4 a5,N [4,1,0] ((4,2,.pointer (some ⟨cR,0,none⟩)) :: (2,92,.agg #[iv 17,iv 1,.slice a7 aa.length a8]) :: (1,91,.slice a7 aa.length a8) :: (0,90,.agg #[iv r3.W,iv r3.H,.slice a4 r3.Bits.length a5]) :: []) ((eBox cR 24 [iv 0,iv 0,.slice none 0 0]) :: (eRow rB 4 (.slice a7 aa.length a8) aa) :: []) ((fRep (rL rB) (.slice a4 r3.Bits.length a5) r3.Bits) :: (fRep r_api_Grid (.agg #[iv r3.W,iv r3.H,.slice a4 r3.Bits.length a5]) r3) :: [])) (fun cR a7 a8 a4 a5=>?_) fun nd5=>?_
 ·refine node_by (A:=[[],[],[1],[],[],[0,3,4],[0,1,2,3,4,5]]) (nf:=[0,1,3,4,5,6]) (Y:=[4,1,0]) 7 (by kernel_rfl) (by kernel_rfl) (by kernel_rfl) (by kernel_rfl) (by kernel_rfl) [4,2,1,0] (by kernel_rfl) (by decide) (by decide) (fY (fY (fF ?_ (fN ?_ (fY (aB 5 1 3 (by decide) (aB 6 0 3 (by decide) (trivial)))))))) [] (fun q hq=>by cases hq) (fun hY=>absurd (hY 3 (by decide)) (by decide))
  ·refine fJ [(91,_)] 1 [some 2] fun G a w S=>?_
   exact sBuild [(0,iv 17),(1,iv 1),(2,.slice a7 aa.length a8)] [iv 17,iv 1,.slice a7 aa.length a8] S (wN d) d d d d (lb d) fun a S=>leafL ⟨d,S⟩
  refine ⟨_,[],d,(srcs_of [] d d d),fun G a w S=>?_⟩
  refine sAlloc (.agg #[iv 0,iv 0,.slice none 0 0]) S (wN d) d d [iv 0,iv 0,.slice none 0 0] d d (lb d) fun a gB w S=>leafL ⟨d,_,_,.inl ⟨1,(.pointer (some ⟨gB,0,none⟩)),[],d,S,hz_of d,?_⟩⟩
  exact nodePerm (nd3 cR gB a7 a8 a4 a5) [1,0,2,3,4] [1,0,2] [0,1] (by decide) (by decide) d d d
 refine nodeCut (fun N W L D=>∀ a7 a8 a4 a5,N [1,0] ((2,92,.agg #[iv 17,iv 1,.slice a7 aa.length a8]) :: (1,91,.slice a7 aa.length a8) :: (0,90,.agg #[iv r3.W,iv r3.H,.slice a4 r3.Bits.length a5]) :: []) ((eRow rB 4 (.slice a7 aa.length a8) aa) :: []) ((fRep (rL rB) (.slice a4 r3.Bits.length a5) r3.Bits) :: (fRep r_api_Grid (.agg #[iv r3.W,iv r3.H,.slice a4 r3.Bits.length a5]) r3) :: [])) (fun a7 a8 a4 a5=>?_) fun nd1=>?_
 ·refine node_by (A:=[[],[],[1],[],[],[0,3,4],[0,1,2,3,4,5]]) (nf:=[0,1,3,4,5,6]) (Y:=[1,0]) 7 (by kernel_rfl) (by kernel_rfl) (by kernel_rfl) (by kernel_rfl) (by kernel_rfl) [2,1,0] (by kernel_rfl) (by decide) (by decide) (fY (fY (fF ?_ (fN ?_ (fN ?_ (aB 5 1 3 (by decide) (aB 6 0 3 (by decide) (trivial)))))))) [] (fun q hq=>by cases hq) (fun hY=>absurd (hY 3 (by decide)) (by decide))
  ·refine fJ [(91,_)] 0 [some 1] fun G a w S=>?_
   exact sBuild [(0,iv 17),(1,iv 1),(2,.slice a7 aa.length a8)] [iv 17,iv 1,.slice a7 aa.length a8] S (wN d) d d d d (lb d) fun a S=>leafL ⟨d,S⟩
  ·refine ⟨_,[],d,(srcs_of [] d d d),fun G a w S=>?_⟩
   refine sAlloc (.agg #[iv 0,iv 0,.slice none 0 0]) S (wN d) d d [iv 0,iv 0,.slice none 0 0] d d (lb d) fun a az w S=>leafL ⟨d,_,_,.inl ⟨1,(.pointer (some ⟨az,0,none⟩)),[],d,S,hz_of d,?_⟩⟩
   exact nd2 az a7 a8 a4 a5
  refine ⟨_,[],d,(srcs_of [] d d d),fun G a w S=>?_⟩
  refine sAlloc (.agg #[iv 0,iv 0,.slice none 0 0]) S (wN d) d d [iv 0,iv 0,.slice none 0 0] d d (lb d) fun a cR w S=>leafL ⟨d,_,_,.inl ⟨2,(.pointer (some ⟨cR,0,none⟩)),[],d,S,hz_of d,?_⟩⟩
  exact nd5 cR a7 a8 a4 a5
 refine nodeCut (fun N W L D=>∀ cO bj a4 a5,N [4,3,0] ((4,2,.pointer (some ⟨cO,0,none⟩)) :: (3,1,.pointer (some ⟨bj,0,none⟩)) :: (0,90,.agg #[iv r3.W,iv r3.H,.slice a4 r3.Bits.length a5]) :: []) ((eBox cO 24 [iv 0,iv 0,.slice none 0 0]) :: (eBox bj 24 [iv 0,iv 0,.slice none 0 0]) :: []) ((fRep (rL rB) (.slice a4 r3.Bits.length a5) r3.Bits) :: (fRep r_api_Grid (.agg #[iv r3.W,iv r3.H,.slice a4 r3.Bits.length a5]) r3) :: [])) (fun cO bj a4 a5=>?_) fun nd7=>?_
 ·refine node_by (A:=[[],[],[1],[],[],[0,3,4],[0,1,2,3,4,5]]) (nf:=[0,1,3,4,5,6]) (Y:=[4,3,0]) 7 (by kernel_rfl) (by kernel_rfl) (by kernel_rfl) (by kernel_rfl) (by kernel_rfl) [4,3,0] (by kernel_rfl) (by decide) (by decide) (fY (fN ?_ (fE 1 (fY (fY (fN ?_ (aB 6 0 1 (by decide) (trivial)))))))) [] (fun q hq=>by cases hq) (fun hY=>absurd (hY 1 (by decide)) (by decide))
  ·refine ⟨_,[],d,(srcs_of [] d d d),fun G a w S=>?_⟩
   refine sMake (r:=rB) (m:=17) (xs:=aa) (.bool false) false 1 S (wN d) d Try.underlying22 d d (by decide) (fun _ _=>d) d d bN d (lb d) fun a w dX dY S=>leafL ⟨d,_,_,.inl ⟨91,(.slice dX aa.length dY),[(2,92,.agg #[iv 17,iv 1,.slice dX aa.length dY])],d,S,hz_of d,?_⟩⟩
   exact nodePerm (nd3 cO bj dX dY a4 a5) [2,3,0,1,4] [1,2,0] [0,1] (by decide) (by decide) d d d
  refine ⟨_,[(1,.pointer (some ⟨bj,0,none⟩)),(90,.agg #[iv r3.W,iv r3.H,.slice a4 r3.Bits.length a5])],d,(srcs_of [some 1,some 2] d d d),fun G a w S=>?_⟩
  refine sStore (p:=bj) (off:=0) (T:=24) (vs:=[iv 0,iv 0,.slice none 0 0]) (v:=.agg #[iv r3.W,iv r3.H,.slice a4 r3.Bits.length a5]) 1 [iv r3.W,iv r3.H,.slice a4 r3.Bits.length a5] S (wN d) d d d d d d d (by simp) d fun a w S=>leafL ⟨d,_,_,.inr ⟨[],d,S,hz_of d,?_⟩⟩
  refine node_by (A:=[[],[],[1],[],[],[0,3,4],[0,1,2,3,4,5]]) (nf:=[0,1,3,4,5,6]) (Y:=[5,4,3,0]) 7 (by kernel_rfl) (by kernel_rfl) (by kernel_rfl) (by kernel_rfl) (by kernel_rfl) [4,3,0] (by kernel_rfl) (by decide) (by decide) (fY (fN ?_ (fE 1 (fY (fY (fY (aB 6 0 1 (by decide) (trivial)))))))) [] (fun q hq=>by cases hq) (fun hY=>absurd (hY 1 (by decide)) (by decide))
  refine ⟨_,[],d,(srcs_of [] d d d),fun G a w S=>?_⟩
  refine sMake (r:=rB) (m:=17) (xs:=aa) (.bool false) false 1 S (wN d) d Try.underlying22 d d (by decide) (fun _ _=>d) d d bN d (lb d) fun a w dZ e0 S=>leafL ⟨d,_,_,.inl ⟨91,(.slice dZ aa.length e0),[(2,92,.agg #[iv 17,iv 1,.slice dZ aa.length e0])],d,S,hz_of d,?_⟩⟩
  exact nodePerm (nd4 cO bj dZ e0 a4 a5) [2,3,0,1,4] [1,2,0] [0,1] (by decide) (by decide) d d d
 refine nodeCut (fun N W L D=>∀ bj a4 a5,N [3,0] ((3,1,.pointer (some ⟨bj,0,none⟩)) :: (0,90,.agg #[iv r3.W,iv r3.H,.slice a4 r3.Bits.length a5]) :: []) ((eBox bj 24 [iv 0,iv 0,.slice none 0 0]) :: []) ((fRep (rL rB) (.slice a4 r3.Bits.length a5) r3.Bits) :: (fRep r_api_Grid (.agg #[iv r3.W,iv r3.H,.slice a4 r3.Bits.length a5]) r3) :: [])) (fun bj a4 a5=>?_) fun nd6=>?_
 ·refine node_by (A:=[[],[],[1],[],[],[0,3,4],[0,1,2,3,4,5]]) (nf:=[0,1,3,4,5,6]) (Y:=[3,0]) 7 (by kernel_rfl) (by kernel_rfl) (by kernel_rfl) (by kernel_rfl) (by kernel_rfl) [3,0] (by kernel_rfl) (by decide) (by decide) (fY (fN ?_ (fE 1 (fY (fN ?_ (aB 5 1 4 (by decide) (aB 6 0 1 (by decide) (trivial)))))))) [] (fun q hq=>by cases hq) (fun hY=>absurd (hY 1 (by decide)) (by decide))
  ·refine ⟨_,[],d,(srcs_of [] d d d),fun G a w S=>?_⟩
   refine sMake (r:=rB) (m:=17) (xs:=aa) (.bool false) false 1 S (wN d) d Try.underlying22 d d (by decide) (fun _ _=>d) d d bN d (lb d) fun a w e3 e4 S=>leafL ⟨d,_,_,.inl ⟨91,(.slice e3 aa.length e4),[(2,92,.agg #[iv 17,iv 1,.slice e3 aa.length e4])],d,S,hz_of d,?_⟩⟩
   exact nodePerm (nd2 bj e3 e4 a4 a5) [2,0,1,3] [1,0] [0,1] (by decide) (by decide) d d d
  refine ⟨_,[],d,(srcs_of [] d d d),fun G a w S=>?_⟩
  refine sAlloc (.agg #[iv 0,iv 0,.slice none 0 0]) S (wN d) d d [iv 0,iv 0,.slice none 0 0] d d (lb d) fun a cO w S=>leafL ⟨d,_,_,.inl ⟨2,(.pointer (some ⟨cO,0,none⟩)),[],d,S,hz_of d,?_⟩⟩
  exact nd7 cO bj a4 a5
 refine nodeCut (fun N W L D=>∀ cP a4 a5,N [4,0] ((4,2,.pointer (some ⟨cP,0,none⟩)) :: (0,90,.agg #[iv r3.W,iv r3.H,.slice a4 r3.Bits.length a5]) :: []) ((eBox cP 24 [iv 0,iv 0,.slice none 0 0]) :: []) ((fRep (rL rB) (.slice a4 r3.Bits.length a5) r3.Bits) :: (fRep r_api_Grid (.agg #[iv r3.W,iv r3.H,.slice a4 r3.Bits.length a5]) r3) :: [])) (fun cP a4 a5=>?_) fun nd8=>?_
 ·refine node_by (A:=[[],[],[1],[],[],[0,3,4],[0,1,2,3,4,5]]) (nf:=[0,1,3,4,5,6]) (Y:=[4,0]) 7 (by kernel_rfl) (by kernel_rfl) (by kernel_rfl) (by kernel_rfl) (by kernel_rfl) [4,0] (by kernel_rfl) (by decide) (by decide) (fY (fN ?_ (fE 1 (fN ?_ (fY (aB 5 1 3 (by decide) (aB 6 0 1 (by decide) (trivial)))))))) [] (fun q hq=>by cases hq) (fun hY=>absurd (hY 1 (by decide)) (by decide))
  ·refine ⟨_,[],d,(srcs_of [] d d d),fun G a w S=>?_⟩
   refine sMake (r:=rB) (m:=17) (xs:=aa) (.bool false) false 1 S (wN d) d Try.underlying22 d d (by decide) (fun _ _=>d) d d bN d (lb d) fun a w e5 e6 S=>leafL ⟨d,_,_,.inl ⟨91,(.slice e5 aa.length e6),[(2,92,.agg #[iv 17,iv 1,.slice e5 aa.length e6])],d,S,hz_of d,?_⟩⟩
   exact nodePerm (nd5 cP e5 e6 a4 a5) [2,0,1,3] [1,0] [0,1] (by decide) (by decide) d d d
  refine ⟨_,[],d,(srcs_of [] d d d),fun G a w S=>?_⟩
  refine sAlloc (.agg #[iv 0,iv 0,.slice none 0 0]) S (wN d) d d [iv 0,iv 0,.slice none 0 0] d d (lb d) fun a gC w S=>leafL ⟨d,_,_,.inl ⟨1,(.pointer (some ⟨gC,0,none⟩)),[],d,S,hz_of d,?_⟩⟩
  exact nodePerm (nd7 cP gC a4 a5) [1,0,2] [1,0] [0,1] (by decide) (by decide) d d d
 refine nodeCut (fun N W L D=>∀ cQ bv ai aj,N [4,3,1] ((4,2,.pointer (some ⟨cQ,0,none⟩)) :: (3,1,.pointer (some ⟨bv,0,none⟩)) :: (2,92,.agg #[iv 17,iv 1,.slice ai aa.length aj]) :: (1,91,.slice ai aa.length aj) :: []) ((eBox cQ 24 [iv 0,iv 0,.slice none 0 0]) :: (eBox bv 24 [iv 0,iv 0,.slice none 0 0]) :: (eRow rB 4 (.slice ai aa.length aj) aa) :: []) ([])) (fun cQ bv ai aj=>?_) fun nd10=>?_
 ·refine node_by (A:=[[],[],[1],[],[],[0,3,4],[0,1,2,3,4,5]]) (nf:=[0,1,3,4,5,6]) (Y:=[4,3,1]) 7 (by kernel_rfl) (by kernel_rfl) (by kernel_rfl) (by kernel_rfl) (by kernel_rfl) [4,3,2,1] (by kernel_rfl) (by decide) (by decide) (fN ?_ (fY (fF ?_ (fY (fY (aB 5 1 0 (by decide) (aB 6 0 0 (by decide) (trivial)))))))) [] (fun q hq=>by cases hq) (fun hY=>absurd (hY 0 (by decide)) (by decide))
  ·refine ⟨_,[],d,(srcs_of [] d d d),fun G a w S=>?_⟩
   refine sCall (X:=Value) (f:=41) (vs:=[.string (⟨#[120,46,46,46,10,46,46,46,46,10,46,46,46,46,10,46,46,46,46,10]⟩:ByteArray)]) (val:=c_raddlelaw46_cloth_val r3) (B':=fun _=>[]) (D':=c_raddlelaw46_cloth_D r3) [] [eBox cQ 24 [iv 0,iv 0,.slice none 0 0],eBox bv 24 [iv 0,iv 0,.slice none 0 0],eRow rB 4 (.slice ai aa.length aj) aa] [] [0,1,2] [] S (wN d) d callee41 d (by decide) d d (fun E1 w1 S1=>c_raddlelaw46_cloth E1 w1 (⟨#[120,46,46,46,10,46,46,46,46,10,46,46,46,46,10,46,46,46,46,10]⟩:ByteArray) r3 ee S1) d (lb d) fun ik a w S=>?_
   obtain ⟨il,rfl,f4⟩:=S.mem.know (i:=0) (e:=fRep r_api_Grid (ik) r3) d
   have S:=S.learn (fRep (rL rB) il r3.Bits) f4
   obtain ⟨f5,f6,_,rfl,_⟩:=f4
   refine leafL ⟨d,_,_,.inl ⟨90,(.agg #[iv r3.W,iv r3.H,.slice f5 r3.Bits.length f6]),[],d,S,hz_of d,?_⟩⟩
   exact nodePerm (nd3 cQ bv ai aj f5 f6) [1,2,3,4,0] [0,1,2] [0,1] (by decide) (by decide) d d d
  refine fJ [(91,_)] 2 [some 3] fun G a w S=>?_
  exact sBuild [(0,iv 17),(1,iv 1),(2,.slice ai aa.length aj)] [iv 17,iv 1,.slice ai aa.length aj] S (wN d) d d d d (lb d) fun a S=>leafL ⟨d,S⟩
 refine nodeCut (fun N W L D=>∀ bv ai aj,N [3,1] ((3,1,.pointer (some ⟨bv,0,none⟩)) :: (2,92,.agg #[iv 17,iv 1,.slice ai aa.length aj]) :: (1,91,.slice ai aa.length aj) :: []) ((eBox bv 24 [iv 0,iv 0,.slice none 0 0]) :: (eRow rB 4 (.slice ai aa.length aj) aa) :: []) ([])) (fun bv ai aj=>?_) fun nd9=>?_
 ·refine node_by (A:=[[],[],[1],[],[],[0,3,4],[0,1,2,3,4,5]]) (nf:=[0,1,3,4,5,6]) (Y:=[3,1]) 7 (by kernel_rfl) (by kernel_rfl) (by kernel_rfl) (by kernel_rfl) (by kernel_rfl) [3,2,1] (by kernel_rfl) (by decide) (by decide) (fN ?_ (fY (fF ?_ (fY (fN ?_ (aB 5 1 0 (by decide) (aB 6 0 0 (by decide) (trivial)))))))) [] (fun q hq=>by cases hq) (fun hY=>absurd (hY 0 (by decide)) (by decide))
  ·refine ⟨_,[],d,(srcs_of [] d d d),fun G a w S=>?_⟩
   refine sCall (X:=Value) (f:=41) (vs:=[.string (⟨#[120,46,46,46,10,46,46,46,46,10,46,46,46,46,10,46,46,46,46,10]⟩:ByteArray)]) (val:=c_raddlelaw46_cloth_val r3) (B':=fun _=>[]) (D':=c_raddlelaw46_cloth_D r3) [] [eBox bv 24 [iv 0,iv 0,.slice none 0 0],eRow rB 4 (.slice ai aa.length aj) aa] [] [0,1] [] S (wN d) d callee41 d (by decide) d d (fun E1 w1 S1=>c_raddlelaw46_cloth E1 w1 (⟨#[120,46,46,46,10,46,46,46,46,10,46,46,46,46,10,46,46,46,46,10]⟩:ByteArray) r3 ee S1) d (lb d) fun im a w S=>?_
   obtain ⟨io,rfl,f7⟩:=S.mem.know (i:=0) (e:=fRep r_api_Grid (im) r3) d
   have S:=S.learn (fRep (rL rB) io r3.Bits) f7
   obtain ⟨f8,f9,_,rfl,_⟩:=f7
   refine leafL ⟨d,_,_,.inl ⟨90,(.agg #[iv r3.W,iv r3.H,.slice f8 r3.Bits.length f9]),[],d,S,hz_of d,?_⟩⟩
   exact nodePerm (nd2 bv ai aj f8 f9) [1,2,3,0] [0,1] [0,1] (by decide) (by decide) d d d
  ·refine fJ [(91,_)] 1 [some 2] fun G a w S=>?_
   exact sBuild [(0,iv 17),(1,iv 1),(2,.slice ai aa.length aj)] [iv 17,iv 1,.slice ai aa.length aj] S (wN d) d d d d (lb d) fun a S=>leafL ⟨d,S⟩
  refine ⟨_,[],d,(srcs_of [] d d d),fun G a w S=>?_⟩
  refine sAlloc (.agg #[iv 0,iv 0,.slice none 0 0]) S (wN d) d d [iv 0,iv 0,.slice none 0 0] d d (lb d) fun a cQ w S=>leafL ⟨d,_,_,.inl ⟨2,(.pointer (some ⟨cQ,0,none⟩)),[],d,S,hz_of d,?_⟩⟩
  exact nd10 cQ bv ai aj
 refine nodeCut (fun N W L D=>∀ c2 ai aj,N [4,1] ((4,2,.pointer (some ⟨c2,0,none⟩)) :: (2,92,.agg #[iv 17,iv 1,.slice ai aa.length aj]) :: (1,91,.slice ai aa.length aj) :: []) ((eBox c2 24 [iv 0,iv 0,.slice none 0 0]) :: (eRow rB 4 (.slice ai aa.length aj) aa) :: []) ([])) (fun c2 ai aj=>?_) fun nd11=>?_
 ·refine node_by (A:=[[],[],[1],[],[],[0,3,4],[0,1,2,3,4,5]]) (nf:=[0,1,3,4,5,6]) (Y:=[4,1]) 7 (by kernel_rfl) (by kernel_rfl) (by kernel_rfl) (by kernel_rfl) (by kernel_rfl) [4,2,1] (by kernel_rfl) (by decide) (by decide) (fN ?_ (fY (fF ?_ (fN ?_ (fY (aB 5 1 0 (by decide) (aB 6 0 0 (by decide) (trivial)))))))) [] (fun q hq=>by cases hq) (fun hY=>absurd (hY 0 (by decide)) (by decide))
  ·refine ⟨_,[],d,(srcs_of [] d d d),fun G a w S=>?_⟩
   refine sCall (X:=Value) (f:=41) (vs:=[.string (⟨#[120,46,46,46,10,46,46,46,46,10,46,46,46,46,10,46,46,46,46,10]⟩:ByteArray)]) (val:=c_raddlelaw46_cloth_val r3) (B':=fun _=>[]) (D':=c_raddlelaw46_cloth_D r3) [] [eBox c2 24 [iv 0,iv 0,.slice none 0 0],eRow rB 4 (.slice ai aa.length aj) aa] [] [0,1] [] S (wN d) d callee41 d (by decide) d d (fun E1 w1 S1=>c_raddlelaw46_cloth E1 w1 (⟨#[120,46,46,46,10,46,46,46,46,10,46,46,46,46,10,46,46,46,46,10]⟩:ByteArray) r3 ee S1) d (lb d) fun ip a w S=>?_
   obtain ⟨iq,rfl,fa⟩:=S.mem.know (i:=0) (e:=fRep r_api_Grid (ip) r3) d
   have S:=S.learn (fRep (rL rB) iq r3.Bits) fa
   obtain ⟨fb,fc,_,rfl,_⟩:=fa
   refine leafL ⟨d,_,_,.inl ⟨90,(.agg #[iv r3.W,iv r3.H,.slice fb r3.Bits.length fc]),[],d,S,hz_of d,?_⟩⟩
   exact nodePerm (nd5 c2 ai aj fb fc) [1,2,3,0] [0,1] [0,1] (by decide) (by decide) d d d
  ·refine fJ [(91,_)] 1 [some 2] fun G a w S=>?_
   exact sBuild [(0,iv 17),(1,iv 1),(2,.slice ai aa.length aj)] [iv 17,iv 1,.slice ai aa.length aj] S (wN d) d d d d (lb d) fun a S=>leafL ⟨d,S⟩
  refine ⟨_,[],d,(srcs_of [] d d d),fun G a w S=>?_⟩
  refine sAlloc (.agg #[iv 0,iv 0,.slice none 0 0]) S (wN d) d d [iv 0,iv 0,.slice none 0 0] d d (lb d) fun a gD w S=>leafL ⟨d,_,_,.inl ⟨1,(.pointer (some ⟨gD,0,none⟩)),[],d,S,hz_of d,?_⟩⟩
  exact nodePerm (nd10 c2 gD ai aj) [1,0,2,3] [1,0,2] [] (by decide) (by decide) d d d
 refine nodeCut (fun N W L D=>∀ c3 bI,N [4,3] ((4,2,.pointer (some ⟨c3,0,none⟩)) :: (3,1,.pointer (some ⟨bI,0,none⟩)) :: []) ((eBox c3 24 [iv 0,iv 0,.slice none 0 0]) :: (eBox bI 24 [iv 0,iv 0,.slice none 0 0]) :: []) ([])) (fun c3 bI=>?_) fun nd12=>?_
 ·refine node_by (A:=[[],[],[1],[],[],[0,3,4],[0,1,2,3,4,5]]) (nf:=[0,1,3,4,5,6]) (Y:=[4,3]) 7 (by kernel_rfl) (by kernel_rfl) (by kernel_rfl) (by kernel_rfl) (by kernel_rfl) [4,3] (by kernel_rfl) (by decide) (by decide) (fN ?_ (fN ?_ (fE 1 (fY (fY (aB 5 1 0 (by decide) (aB 6 0 0 (by decide) (trivial)))))))) [] (fun q hq=>by cases hq) (fun hY=>absurd (hY 0 (by decide)) (by decide))
  ·refine ⟨_,[],d,(srcs_of [] d d d),fun G a w S=>?_⟩
   refine sCall (X:=Value) (f:=41) (vs:=[.string (⟨#[120,46,46,46,10,46,46,46,46,10,46,46,46,46,10,46,46,46,46,10]⟩:ByteArray)]) (val:=c_raddlelaw46_cloth_val r3) (B':=fun _=>[]) (D':=c_raddlelaw46_cloth_D r3) [] [eBox c3 24 [iv 0,iv 0,.slice none 0 0],eBox bI 24 [iv 0,iv 0,.slice none 0 0]] [] [0,1] [] S (wN d) d callee41 d (by decide) d d (fun E1 w1 S1=>c_raddlelaw46_cloth E1 w1 (⟨#[120,46,46,46,10,46,46,46,46,10,46,46,46,46,10,46,46,46,46,10]⟩:ByteArray) r3 ee S1) d (lb d) fun ir a w S=>?_
   obtain ⟨iu,rfl,fd⟩:=S.mem.know (i:=0) (e:=fRep r_api_Grid (ir) r3) d
   have S:=S.learn (fRep (rL rB) iu r3.Bits) fd
   obtain ⟨fe,ff,_,rfl,_⟩:=fd
   refine leafL ⟨d,_,_,.inl ⟨90,(.agg #[iv r3.W,iv r3.H,.slice fe r3.Bits.length ff]),[],d,S,hz_of d,?_⟩⟩
   exact nodePerm (nd7 c3 bI fe ff) [1,2,0] [0,1] [0,1] (by decide) (by decide) d d d
  refine ⟨_,[],d,(srcs_of [] d d d),fun G a w S=>?_⟩
  refine sMake (r:=rB) (m:=17) (xs:=aa) (.bool false) false 1 S (wN d) d Try.underlying22 d d (by decide) (fun _ _=>d) d d bN d (lb d) fun a w e7 e8 S=>leafL ⟨d,_,_,.inl ⟨91,(.slice e7 aa.length e8),[(2,92,.agg #[iv 17,iv 1,.slice e7 aa.length e8])],d,S,hz_of d,?_⟩⟩
  exact nodePerm (nd10 c3 bI e7 e8) [2,3,0,1] [1,2,0] [] (by decide) (by decide) d d d
 refine node_by (A:=[[],[],[1],[],[],[0,3,4],[0,1,2,3,4,5]]) (nf:=[0,1,3,4,5,6]) (Y:=[]) (W:=[]) 7 (by kernel_rfl) (by kernel_rfl) (by kernel_rfl) (by kernel_rfl) (by kernel_rfl) [] (by kernel_rfl) (by decide) (by decide) (fN ?_ (fN ?_ (fE 1 (fN ?_ (fN ?_ (aB 5 1 0 (by decide) (aB 6 0 0 (by decide) (trivial)))))))) [] (fun q hq=>by cases hq) (fun hY=>absurd (hY 0 (by decide)) (by decide))
 ·refine ⟨_,[],d,(srcs_of [] d d d),fun G a w S=>?_⟩
  refine sCall (X:=Value) (f:=41) (vs:=[.string (⟨#[120,46,46,46,10,46,46,46,46,10,46,46,46,46,10,46,46,46,46,10]⟩:ByteArray)]) (val:=c_raddlelaw46_cloth_val r3) (B':=fun _=>[]) (D':=c_raddlelaw46_cloth_D r3) [] [] [] [] [] S (wN d) d callee41 d (by decide) d d (fun E1 w1 S1=>c_raddlelaw46_cloth E1 w1 (⟨#[120,46,46,46,10,46,46,46,46,10,46,46,46,46,10,46,46,46,46,10]⟩:ByteArray) r3 ee S1) d (lb d) fun jp a w S=>?_
  obtain ⟨jq,rfl,gE⟩:=S.mem.know (i:=0) (e:=fRep r_api_Grid (jp) r3) d
  have S:=S.learn (fRep (rL rB) jq r3.Bits) gE
  obtain ⟨a4,a5,_,rfl,_⟩:=gE
  refine leafL ⟨d,_,_,.inl ⟨90,(.agg #[iv r3.W,iv r3.H,.slice a4 r3.Bits.length a5]),[],d,S,hz_of d,?_⟩⟩
  refine node_by (A:=[[],[],[1],[],[],[0,3,4],[0,1,2,3,4,5]]) (nf:=[0,1,3,4,5,6]) (Y:=[0]) 7 (by kernel_rfl) (by kernel_rfl) (by kernel_rfl) (by kernel_rfl) (by kernel_rfl) [0] (by kernel_rfl) (by decide) (by decide) (fY (fN ?_ (fE 1 (fN ?_ (fN ?_ (aB 5 1 3 (by decide) (aB 6 0 1 (by decide) (trivial)))))))) [] (fun q hq=>by cases hq) (fun hY=>absurd (hY 1 (by decide)) (by decide))
  ·refine ⟨_,[],d,(srcs_of [] d d d),fun G a w S=>?_⟩
   refine sMake (r:=rB) (m:=17) (xs:=aa) (.bool false) false 1 S (wN d) d Try.underlying22 d d (by decide) (fun _ _=>d) d d bN d (lb d) fun a w a7 a8 S=>leafL ⟨d,_,_,.inl ⟨91,(.slice a7 aa.length a8),[(2,92,.agg #[iv 17,iv 1,.slice a7 aa.length a8])],d,S,hz_of d,?_⟩⟩
   exact nd1 a7 a8 a4 a5
  ·refine ⟨_,[],d,(srcs_of [] d d d),fun G a w S=>?_⟩
   refine sAlloc (.agg #[iv 0,iv 0,.slice none 0 0]) S (wN d) d d [iv 0,iv 0,.slice none 0 0] d d (lb d) fun a bj w S=>leafL ⟨d,_,_,.inl ⟨1,(.pointer (some ⟨bj,0,none⟩)),[],d,S,hz_of d,?_⟩⟩
   exact nd6 bj a4 a5
  refine ⟨_,[],d,(srcs_of [] d d d),fun G a w S=>?_⟩
  refine sAlloc (.agg #[iv 0,iv 0,.slice none 0 0]) S (wN d) d d [iv 0,iv 0,.slice none 0 0] d d (lb d) fun a cP w S=>leafL ⟨d,_,_,.inl ⟨2,(.pointer (some ⟨cP,0,none⟩)),[],d,S,hz_of d,?_⟩⟩
  exact nd8 cP a4 a5
 ·refine ⟨_,[],d,(srcs_of [] d d d),fun G a w S=>?_⟩
  refine sMake (r:=rB) (m:=17) (xs:=aa) (.bool false) false 1 S (wN d) d Try.underlying22 d d (by decide) (fun _ _=>d) d d bN d (lb d) fun a w ai aj S=>leafL ⟨d,_,_,.inl ⟨91,(.slice ai aa.length aj),[(2,92,.agg #[iv 17,iv 1,.slice ai aa.length aj])],d,S,hz_of d,?_⟩⟩
  refine node_by (A:=[[],[],[1],[],[],[0,3,4],[0,1,2,3,4,5]]) (nf:=[0,1,3,4,5,6]) (Y:=[1]) 7 (by kernel_rfl) (by kernel_rfl) (by kernel_rfl) (by kernel_rfl) (by kernel_rfl) [2,1] (by kernel_rfl) (by decide) (by decide) (fN ?_ (fY (fF ?_ (fN ?_ (fN ?_ (aB 5 1 0 (by decide) (aB 6 0 0 (by decide) (trivial)))))))) [] (fun q hq=>by cases hq) (fun hY=>absurd (hY 0 (by decide)) (by decide))
  ·refine ⟨_,[],d,(srcs_of [] d d d),fun G a w S=>?_⟩
   refine sCall (X:=Value) (f:=41) (vs:=[.string (⟨#[120,46,46,46,10,46,46,46,46,10,46,46,46,46,10,46,46,46,46,10]⟩:ByteArray)]) (val:=c_raddlelaw46_cloth_val r3) (B':=fun _=>[]) (D':=c_raddlelaw46_cloth_D r3) [] [eRow rB 4 (.slice ai aa.length aj) aa] [] [0] [] S (wN d) d callee41 d (by decide) d d (fun E1 w1 S1=>c_raddlelaw46_cloth E1 w1 (⟨#[120,46,46,46,10,46,46,46,46,10,46,46,46,46,10,46,46,46,46,10]⟩:ByteArray) r3 ee S1) d (lb d) fun iw a w S=>?_
   obtain ⟨iy,rfl,fg⟩:=S.mem.know (i:=0) (e:=fRep r_api_Grid (iw) r3) d
   have S:=S.learn (fRep (rL rB) iy r3.Bits) fg
   obtain ⟨fh,fi,_,rfl,_⟩:=fg
   refine leafL ⟨d,_,_,.inl ⟨90,(.agg #[iv r3.W,iv r3.H,.slice fh r3.Bits.length fi]),[],d,S,hz_of d,?_⟩⟩
   exact nodePerm (nd1 ai aj fh fi) [1,2,0] [0] [0,1] (by decide) (by decide) d d d
  ·refine fJ [(91,_)] 0 [some 1] fun G a w S=>?_
   exact sBuild [(0,iv 17),(1,iv 1),(2,.slice ai aa.length aj)] [iv 17,iv 1,.slice ai aa.length aj] S (wN d) d d d d (lb d) fun a S=>leafL ⟨d,S⟩
  ·refine ⟨_,[],d,(srcs_of [] d d d),fun G a w S=>?_⟩
   refine sAlloc (.agg #[iv 0,iv 0,.slice none 0 0]) S (wN d) d d [iv 0,iv 0,.slice none 0 0] d d (lb d) fun a bv w S=>leafL ⟨d,_,_,.inl ⟨1,(.pointer (some ⟨bv,0,none⟩)),[],d,S,hz_of d,?_⟩⟩
   exact nd9 bv ai aj
  refine ⟨_,[],d,(srcs_of [] d d d),fun G a w S=>?_⟩
  refine sAlloc (.agg #[iv 0,iv 0,.slice none 0 0]) S (wN d) d d [iv 0,iv 0,.slice none 0 0] d d (lb d) fun a c2 w S=>leafL ⟨d,_,_,.inl ⟨2,(.pointer (some ⟨c2,0,none⟩)),[],d,S,hz_of d,?_⟩⟩
  exact nd11 c2 ai aj
 ·refine ⟨_,[],d,(srcs_of [] d d d),fun G a w S=>?_⟩
  refine sAlloc (.agg #[iv 0,iv 0,.slice none 0 0]) S (wN d) d d [iv 0,iv 0,.slice none 0 0] d d (lb d) fun a bI w S=>leafL ⟨d,_,_,.inl ⟨1,(.pointer (some ⟨bI,0,none⟩)),[],d,S,hz_of d,?_⟩⟩
  refine node_by (A:=[[],[],[1],[],[],[0,3,4],[0,1,2,3,4,5]]) (nf:=[0,1,3,4,5,6]) (Y:=[3]) 7 (by kernel_rfl) (by kernel_rfl) (by kernel_rfl) (by kernel_rfl) (by kernel_rfl) [3] (by kernel_rfl) (by decide) (by decide) (fN ?_ (fN ?_ (fE 1 (fY (fN ?_ (aB 5 1 0 (by decide) (aB 6 0 0 (by decide) (trivial)))))))) [] (fun q hq=>by cases hq) (fun hY=>absurd (hY 0 (by decide)) (by decide))
  ·refine ⟨_,[],d,(srcs_of [] d d d),fun G a w S=>?_⟩
   refine sCall (X:=Value) (f:=41) (vs:=[.string (⟨#[120,46,46,46,10,46,46,46,46,10,46,46,46,46,10,46,46,46,46,10]⟩:ByteArray)]) (val:=c_raddlelaw46_cloth_val r3) (B':=fun _=>[]) (D':=c_raddlelaw46_cloth_D r3) [] [eBox bI 24 [iv 0,iv 0,.slice none 0 0]] [] [0] [] S (wN d) d callee41 d (by decide) d d (fun E1 w1 S1=>c_raddlelaw46_cloth E1 w1 (⟨#[120,46,46,46,10,46,46,46,46,10,46,46,46,46,10,46,46,46,46,10]⟩:ByteArray) r3 ee S1) d (lb d) fun iz a w S=>?_
   obtain ⟨iA,rfl,fj⟩:=S.mem.know (i:=0) (e:=fRep r_api_Grid (iz) r3) d
   have S:=S.learn (fRep (rL rB) iA r3.Bits) fj
   obtain ⟨fk,fm,_,rfl,_⟩:=fj
   refine leafL ⟨d,_,_,.inl ⟨90,(.agg #[iv r3.W,iv r3.H,.slice fk r3.Bits.length fm]),[],d,S,hz_of d,?_⟩⟩
   exact nodePerm (nd6 bI fk fm) [1,0] [0] [0,1] (by decide) (by decide) d d d
  ·refine ⟨_,[],d,(srcs_of [] d d d),fun G a w S=>?_⟩
   refine sMake (r:=rB) (m:=17) (xs:=aa) (.bool false) false 1 S (wN d) d Try.underlying22 d d (by decide) (fun _ _=>d) d d bN d (lb d) fun a w e9 ea S=>leafL ⟨d,_,_,.inl ⟨91,(.slice e9 aa.length ea),[(2,92,.agg #[iv 17,iv 1,.slice e9 aa.length ea])],d,S,hz_of d,?_⟩⟩
   exact nodePerm (nd9 bI e9 ea) [2,0,1] [1,0] [] (by decide) (by decide) d d d
  refine ⟨_,[],d,(srcs_of [] d d d),fun G a w S=>?_⟩
  refine sAlloc (.agg #[iv 0,iv 0,.slice none 0 0]) S (wN d) d d [iv 0,iv 0,.slice none 0 0] d d (lb d) fun a c3 w S=>leafL ⟨d,_,_,.inl ⟨2,(.pointer (some ⟨c3,0,none⟩)),[],d,S,hz_of d,?_⟩⟩
  exact nd12 c3 bI
 refine ⟨_,[],d,(srcs_of [] d d d),fun G a w S=>?_⟩
 refine sAlloc (.agg #[iv 0,iv 0,.slice none 0 0]) S (wN d) d d [iv 0,iv 0,.slice none 0 0] d d (lb d) fun a eb w S=>leafL ⟨d,_,_,.inl ⟨2,(.pointer (some ⟨eb,0,none⟩)),[],d,S,hz_of d,?_⟩⟩
 refine node_by (A:=[[],[],[1],[],[],[0,3,4],[0,1,2,3,4,5]]) (nf:=[0,1,3,4,5,6]) (Y:=[4]) 7 (by kernel_rfl) (by kernel_rfl) (by kernel_rfl) (by kernel_rfl) (by kernel_rfl) [4] (by kernel_rfl) (by decide) (by decide) (fN ?_ (fN ?_ (fE 1 (fN ?_ (fY (aB 5 1 0 (by decide) (aB 6 0 0 (by decide) (trivial)))))))) [] (fun q hq=>by cases hq) (fun hY=>absurd (hY 0 (by decide)) (by decide))
 ·refine ⟨_,[],d,(srcs_of [] d d d),fun G a w S=>?_⟩
  refine sCall (X:=Value) (f:=41) (vs:=[.string (⟨#[120,46,46,46,10,46,46,46,46,10,46,46,46,46,10,46,46,46,46,10]⟩:ByteArray)]) (val:=c_raddlelaw46_cloth_val r3) (B':=fun _=>[]) (D':=c_raddlelaw46_cloth_D r3) [] [eBox eb 24 [iv 0,iv 0,.slice none 0 0]] [] [0] [] S (wN d) d callee41 d (by decide) d d (fun E1 w1 S1=>c_raddlelaw46_cloth E1 w1 (⟨#[120,46,46,46,10,46,46,46,46,10,46,46,46,46,10,46,46,46,46,10]⟩:ByteArray) r3 ee S1) d (lb d) fun iB a w S=>?_
  obtain ⟨iC,rfl,fp⟩:=S.mem.know (i:=0) (e:=fRep r_api_Grid (iB) r3) d
  have S:=S.learn (fRep (rL rB) iC r3.Bits) fp
  obtain ⟨fq,fr,_,rfl,_⟩:=fp
  refine leafL ⟨d,_,_,.inl ⟨90,(.agg #[iv r3.W,iv r3.H,.slice fq r3.Bits.length fr]),[],d,S,hz_of d,?_⟩⟩
  exact nodePerm (nd8 eb fq fr) [1,0] [0] [0,1] (by decide) (by decide) d d d
 ·refine ⟨_,[],d,(srcs_of [] d d d),fun G a w S=>?_⟩
  refine sMake (r:=rB) (m:=17) (xs:=aa) (.bool false) false 1 S (wN d) d Try.underlying22 d d (by decide) (fun _ _=>d) d d bN d (lb d) fun a w ec ed S=>leafL ⟨d,_,_,.inl ⟨91,(.slice ec aa.length ed),[(2,92,.agg #[iv 17,iv 1,.slice ec aa.length ed])],d,S,hz_of d,?_⟩⟩
  exact nodePerm (nd11 eb ec ed) [2,0,1] [1,0] [] (by decide) (by decide) d d d
 refine ⟨_,[],d,(srcs_of [] d d d),fun G a w S=>?_⟩
 refine sAlloc (.agg #[iv 0,iv 0,.slice none 0 0]) S (wN d) d d [iv 0,iv 0,.slice none 0 0] d d (lb d) fun a gF w S=>leafL ⟨d,_,_,.inl ⟨1,(.pointer (some ⟨gF,0,none⟩)),[],d,S,hz_of d,?_⟩⟩
 exact nodePerm (nd12 eb gF) [1,0] [1,0] [] (by decide) (by decide) d d d
end Go.Proofs.Ytffikfajljbmnaa
