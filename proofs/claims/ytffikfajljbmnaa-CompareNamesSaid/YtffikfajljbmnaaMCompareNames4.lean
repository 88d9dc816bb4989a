/- CompareNames: walks, tables, laws. -/
import Derived.Test.YtffikfajljbmnaaProg
import Derived.Test.YtffikfajljbmnaaRows
import Derived.Test.YtffikfajljbmnaaMCompareNames3
set_option linter.unusedVariables false
set_option linter.unusedSimpArgs false
set_option maxHeartbeats 4000000
set_option maxRecDepth 100000
namespace Go.Proofs.Ytffikfajljbmnaa
open Go.RowKit
def anc_compare_Edits_0:List (List Nat):=[[],[],[1],[0,1,2],[0,1,2,3],[0,1,2,3,4],[0,1,2,3,4],[0,1,2,3,4,6],[0,1,2,3,4,5,6,7],[0,1,2,3,4,5,6,7,8],[0,1,2,3,4,5,6,7,8,9],[0,1,2,3,4,5,6,7,8,9,10],[0,1,2,3,4,5,6,7,8,9,10],[0,1,2,3,4,5,6,7,8,9,10,11,12],[0,1,2,3,4,5,6,7,8,9,10,11,12,13],[0,1,2,3,4,5,6,7,8,9,10],[0,1,2,3,4,5,6,7,8,9,10],[0,1,2,3,4,5,6,7,8,9,10,15,16],[0,1,2,3,4,5,6,7,8,9,10,15,16,17],[0,1,2,3,4,5,6,7,8,9,10,11,12,13,14,15,16,17,18],[0,1,2,3,4,5,6,7,8,9,10,11,12,13,14,15,16,17,18,19],[0,1,2,3,4,5,6,7,8,9,10,11,12,13,14,15,16,17,18,19,20],[0,1,2,3,4,5,6,7,8,9,10,11,12,13,14,15,16,17,18,19,20,21],[0,1,2,3,4,5,6,7,8,9,10,11,12,13,14,15,16,17,18,19,20,21],[0,1,2,3,4,5,6,7,8,9,10,11,12,13,14,15,16,17,18,19,20,21],[0,1,2,3,4,5,6,7,8,9,10,11,12,13,14,15,16,17,18,19,20,21,24],[0,1,2,3,4,5,6,7,8,9,10,11,12,13,14,15,16,17,18,19,20,21,23,24,25],[0,1,2,3,4,5,6,7,8,9,10,11,12,13,14,15,16,17,18,19,20,21,23,24,25,26],[0,1,2,3,4,5,6,7,8,9,10,11,12,13,14,15,16,17,18,19,20,21],[0,1,2,3,4,5,6,7,8,9,10,11,12,13,14,15,16,17,18,19,20,21,28],[0,1,2,3,4,5,6,7,8,9,10,11,12,13,14,15,16,17,18,19,20,21,23,24,25,26,27,28,29],[0,1,2,3,4,5,6,7,8,9,10,11,12,13,14,15,16,17,18,19,20,21,23,24,25,26,27,28,29,30],[0,1,2,3,4,5,6,7,8,9,10,11,12,13,14,15,16,17,18,19,20,21,22,23,24,25,26,27,28,29,30,31],[0,1,2,3,4,5,6,7,8,9,10,11,12,13,14,15,16,17,18,19,20,21,22,23,24,25,26,27,28,29,30,31,32],[0,1,2,3,4,5,6,7,8,9,10,11,12,13,14,15,16,17,18,19,20,21,22,23,24,25,26,27,28,29,30,31,32,33]]
def anc_compare_Edits_1:List (List Nat):=[[],[],[1],[0,1,2],[0,1,2,3],[0,1,2,3,4],[0,1,2,3,4],[0,1,2,3,4,6],[0,1,2,3,4,5,6,7],[0,1,2,3,4,5,6,7,8],[0,1,2,3,4,5,6,7,8,9],[0,1,2,3,4,5,6,7,8,9,10],[0,1,2,3,4,5,6,7,8,9,10],[0,1,2,3,4,5,6,7,8,9,10,11,12],[0,1,2,3,4,5,6,7,8,9,10,11,12,13],[0,1,2,3,4,5,6,7,8,9,10],[0,1,2,3,4,5,6,7,8,9,10],[0,1,2,3,4,5,6,7,8,9,10,15,16],[0,1,2,3,4,5,6,7,8,9,10,15,16,17],[0,1,2,3,4,5,6,7,8,9,10,11,12,13,14,15,16,17,18],[0,1,2,3,4,5,6,7,8,9,10,11,12,13,14,15,16,17,18,19],[0,1,2,3,4,5,6,7,8,9,10,11,12,13,14,15,16,17,18,19,20],[0,1,2,3,4,5,6,7,8,9,10,11,12,13,14,15,16,17,18,19,20,21],[0,1,2,3,4,5,6,7,8,9,10,11,12,13,14,15,16,17,18,19,20,21],[0,1,2,3,4,5,6,7,8,9,10,11,12,13,14,15,16,17,18,19,20,21],[0,1,2,3,4,5,6,7,8,9,10,11,12,13,14,15,16,17,18,19,20,21,24],[0,1,2,3,4,5,6,7,8,9,10,11,12,13,14,15,16,17,18,19,20,21,23,24,25],[0,1,2,3,4,5,6,7,8,9,10,11,12,13,14,15,16,17,18,19,20,21,23,24,25,26],[0,1,2,3,4,5,6,7,8,9,10,11,12,13,14,15,16,17,18,19,20,21],[0,1,2,3,4,5,6,7,8,9,10,11,12,13,14,15,16,17,18,19,20,21,28],[0,1,2,3,4,5,6,7,8,9,10,11,12,13,14,15,16,17,18,19,20,21,23,24,25,26,27,28,29],[0,1,2,3,4,5,6,7,8,9,10,11,12,13,14,15,16,17,18,19,20,21,23,24,25,26,27,28,29,30],[0,1,2,3,4,5,6,7,8,9,10,11,12,13,14,15,16,17,18,19,20,21,23,24,25,26,27,28,29,30,31],[0,1,2,3,4,5,6,7,8,9,10,11,12,13,14,15,16,17,18,19,20,21,22,23,24,25,26,27,28,29,30,31,32],[0,1,2,3,4,5,6,7,8,9,10,11,12,13,14,15,16,17,18,19,20,21,22,23,24,25,26,27,28,29,30,31,32,33],[0,1,2,3,4,5,6,7,8,9,10,11,12,13,14,15,16,17,18,19,20,21,22,23,24,25,26,27,28,29,30,31,32,33,34]]
def anc_compare_Edits_2:List (List Nat):=[[],[],[1],[1,2],[1,2,3],[1,2,3,4],[0],[0,1,2,3,4,5,6],[0,1,2,3,4,5,6,7]]
noncomputable def compare_Edits_l1 (p0:(List api_Stitch)) (p1:(List api_Stitch)):Int→Option (Int ⊕ (((List api_CellStep) × Int × Int) ⊕ Unit)):=fun s0=>match s0 with
 | s9=>
  if decide (s9 < 2) then
   (idxO ([p0,p1]:List (List api_Stitch)) s9).bind fun a2=>
   (F_stitch_All a2).bind fun a0=>
   if a0 != 0 then
    some (.inr (.inl (([]:(List api_CellStep)),0,a0)))
   else
    some (.inl (w64 (s9 + 1)))
  else
   some (.inr (.inr ()))
noncomputable def compare_Edits_l2 (p0:(List api_Stitch)) (p1:(List api_Stitch)) (a7:(List (List Int))):(List api_CellStep × Int × Int)→Option ((List api_CellStep × Int × Int) ⊕ List api_CellStep):=fun s0=>match s0 with
 | (a6,a2,a0)=>
  Option.bind (α:=Bool) (
   if decide (a2 < (p0.length:Int)) then
    some true
   else
    some (decide (a0 < (p1.length:Int)))) fun ap=>
  if ap then
   (idxO a7 a2).bind fun aq=>
   (idxO aq a0).bind fun aa=>
   Option.bind (α:=Bool) (
    if decide (a2 < (p0.length:Int)) then
     if decide (a0 < (p1.length:Int)) then
      (idxO p0 a2).bind fun a8=>
      (idxO p1 a0).bind fun a9=>
      if ((a8.Kind == a9.Kind) && ((a8.Purl == a9.Purl) && ((a8.A == a9.A) && ((a8.B == a9.B) && true)))) then
       (idxO a7 (w64 (a2 + 1))).bind fun ar=>
       (idxO ar (w64 (a0 + 1))).bind fun au=>
       some (aa == au)
      else
       some false
     else
      some false
    else
     some false) fun av=>
   if av then
    (appO a6 [(api_CellStep.mk 1 (api_Stitch.mk 0 false 0 0))]).bind fun ab=>
    some (.inl (ab,w64 (a2 + 1),w64 (a0 + 1)))
   else
    Option.bind (α:=Bool) (
     if decide (a2 < (p0.length:Int)) then
      if decide (a0 < (p1.length:Int)) then
       (idxO p0 a2).bind fun a4=>
       (idxO p1 a0).bind fun a5=>
       if !((a4.Kind == a5.Kind) && ((a4.Purl == a5.Purl) && ((a4.A == a5.A) && ((a4.B == a5.B) && true)))) then
        (idxO a7 (w64 (a2 + 1))).bind fun ac=>
        (idxO ac (w64 (a0 + 1))).bind fun ae=>
        some (aa == (w64 (1 + ae)))
       else
        some false
      else
       some false
     else
      some false) fun af=>
    if af then
     (idxO p1 a0).bind fun ag=>
     (appO a6 [(api_CellStep.mk 2 ag)]).bind fun ah=>
     some (.inl (ah,w64 (a2 + 1),w64 (a0 + 1)))
    else
     Option.bind (α:=Bool) (
      if decide (a2 < (p0.length:Int)) then
       (idxO a7 (w64 (a2 + 1))).bind fun ai=>
       (idxO ai a0).bind fun aj=>
       some (aa == (w64 (1 + aj)))
      else
       some false) fun ak=>
     if ak then
      (appO a6 [(api_CellStep.mk 4 (api_Stitch.mk 0 false 0 0))]).bind fun al=>
      some (.inl (al,w64 (a2 + 1),a0))
     else
      (idxO p1 a0).bind fun am=>
      (appO a6 [(api_CellStep.mk 3 am)]).bind fun ao=>
      some (.inl (ao,a2,w64 (a0 + 1)))
  else
   some (.inr a6)
noncomputable def F_compare_Edits (p0:(List api_Stitch)) (p1:(List api_Stitch)):Option ((List api_CellStep) × Int × Int):=
 Option.bind (α:=Unit ⊕ ((List api_CellStep) × Int × Int)) (
  (whileO (compare_Edits_l1 p0 p1) 0).bind fun z0=>match z0 with
   | .inl z=>
    some (.inr z)
   | .inr _=>
    some (.inl ())) fun z0=>match z0 with
  | .inl _=>
   (F_compare_cellTable p0 p1).bind fun a4=>
   Option.bind (α:=List api_CellStep) (
    (whileO (compare_Edits_l2 p0 p1 a4) (([]:List api_CellStep),0,0)).bind fun a5=>
     some a5) fun a6=>
   (idxO a4 0).bind fun a0=>
   (idxO a0 0).bind fun a2=>
   some (a6,a2,0)
  | .inr z=>
   some z
def c_compare_Edits_val (r:((List api_CellStep) × Int × Int)) (x:Value):Value:=.tuple #[x,.int .i64 r.2.1,.int .i64 r.2.2]
def c_compare_Edits_D (r:((List api_CellStep) × Int × Int)) (x:Value):List Fact:=[fRep (rL r_api_CellStep) x r.1]
theorem c_compare_Edits (E:Nat→Prop) (w0:World) (p0:(List api_Stitch)) (v0:Value) (p1:(List api_Stitch)) (v1:Value) (r:((List api_CellStep) × Int × Int)) (h:F_compare_Edits p0 p1=some r) (S:St0 E [] w0 w0 [] [fRep (rL r_api_Stitch) (v0) p0,fRep (rL r_api_Stitch) (v1) p1]) :
 Calls Try.prog 23 #[v0,v1] w0 (Ret (X:=Value) E [] w0 (c_compare_Edits_val r) (fun _=>[]) (c_compare_Edits_D r)):=by
 unfold F_compare_Edits at h
 obtain ⟨aj,ak,_,rfl,_⟩:=S.know (i:=0) (e:=fRep (rL r_api_Stitch) (v0) p0) d
 obtain ⟨ac,ae,_,rfl,_⟩:=S.know (i:=1) (e:=fRep (rL r_api_Stitch) (v1) p1) d
 refine sEnter (args:=[.slice aj p0.length ak,.slice ac p1.length ae]) 178 Try.func23 d d (by simp) S (fun a S=>?_)
 refine sSeq (fun K5 dC=>sRegion (sN S fun a S=>?_))
 refine sN S fun a S=>?_
 refine sN S fun a S=>?_
 refine lT (dC _ _ ?_)
 obtain ⟨t6,h,g7⟩:=bS h
 refine sCut (fun a w=>.inl ()=t6∧St [] E [] w0 178 a w [(0,.slice aj p0.length ak),(1,.slice ac p1.length ae)] [] [fRep (rL r_api_Stitch) (.slice aj p0.length ak) p0,fRep (rL r_api_Stitch) (.slice ac p1.length ae) p1]) ?_ (fun a w hI=>?_)
 ·refine sSeq (fun K8 dD=>sRegion (sM S fun a S=>?_))
  refine sM S fun a S=>?_
  refine sBuild [(0,.slice aj p0.length ak),(1,.slice ac p1.length ae)] [.slice aj p0.length ak,.slice ac p1.length ae] S (wN d) d d d d (lb d) fun a S=>sM S fun a S=>?_
  refine lT (dD _ _ (wp_block ?_))
  obtain ⟨dV,hl,dy⟩:=bS h
  refine sLoop hl (fun s0 a w=>match s0 with | s9=>St [] E [] w0 178 a w [(0,.slice aj p0.length ak),(1,.slice ac p1.length ae),(17,.agg #[.slice aj p0.length ak,.slice ac p1.length ae]),(18,iv s9)] [] [fRep (rL r_api_Stitch) (.slice aj p0.length ak) p0,fRep (rL r_api_Stitch) (.slice ac p1.length ae) p1]) (S.fix [] [0,1] (by decide) d d d) ?_
  clear hl h
  intro s9 a w c0 hI h bv
  unfold compare_Edits_l1 at h
  dsimp only at h hI
  have S:=hI
  refine sSeq (fun dW cT=>sRegion (sBin _ S (wN d) d d d (bLt _ _ _ _ .i64 s9 2) d (lb d) fun a S=>lT (cT _ _ (sSeq (fun dX cU=>?_)))))
  rcases iS h with ⟨bm,h⟩ | ⟨bm,h⟩
  rotate_left
  ·refine sCondF S d bm ?_
   obtain rfl:=tS h
   obtain rfl:=bv _ d
   have h:=dy
   try dsimp only at h
   exact wp_exit (xThen (xThen (xHit (leafT (⟨Option.some.inj h,S.fix [] [0,1] (by decide) d d d⟩)))))
  refine sCondT S d bm (wp_skip (leafT (cU _ _ ?_)))
  refine sSeq (fun dY cV=>wp_block ?_)
  refine sSeq (fun dZ cW=>sRegion ?_)
  obtain ⟨cS,cX,h⟩:=bS h
  refine sIndexAL (r:=(rL r_api_Stitch)) (xs:=([p0,p1]:List (List api_Stitch))) (j:=s9) (k:=.i64) 2 [.slice aj p0.length ak,.slice ac p1.length ae] [0,1] S (wN d) d Try.underlying104 d d d d d cX d d d (lb d) fun a dE S=>?_
  obtain ⟨bw,bx,_,rfl,_⟩:=S.mem.know (i:=0) (e:=fRep (rL r_api_Stitch) (dE) cS) d
  refine sN S fun a S=>?_
  refine lT (cW _ _ (sSeq (fun e0 cY=>sRegion (sM S fun a S=>?_))))
  obtain ⟨bz,cZ,h⟩:=bS h
  have S1:=S.mem
  refine sCq [.slice bw cS.length bx] (iv bz) S callee56 (S1.quiet [0] d) (fun E1 w1 S1=>c_stitch_All E1 w1 cS (.slice bw cS.length bx) bz cZ S1) fun a w S=>?_
  refine sN S fun a S=>?_
  refine lT (cY _ _ (sSeq (fun e3 d0=>sRegion (sM S fun a S=>?_))))
  refine sBin _ S (wN d) d d d (bNe _ _ _ _ .i64 bz 0) d (lb d) fun a S=>lT (d0 _ _ ?_)
  rcases iS h with ⟨bn,h⟩ | ⟨bn,h⟩
  rotate_left
  ·refine sCondF S d bn (wp_skip (leafB (leafT (cV _ _ ?_))))
   refine sRegion (sBin _ S (wN d) d d d (bAdd _ _ _ _ s9 1) d (lb d) fun a S=>sM S fun a S=>?_)
   exact lT (⟨w64 (s9 + 1),(Option.some.inj h).symm,(S.fix [] [1,2] (by decide) d d d)⟩)
  refine sCondT S d bn (sSeq (fun e4 d1=>sRegion (sM S fun a S=>?_)))
  refine sN S fun a S=>?_
  refine sN S fun a S=>?_
  refine sN S fun a S=>?_
  refine lT (d1 _ _ ?_)
  obtain rfl:=tS h
  obtain rfl:=bv _ d
  have h:=dy
  try dsimp only at h
  obtain rfl:=tS h
  have h:=g7
  try dsimp only at h
  obtain rfl:=tS h
  have S:=S.learn (fRep (rL r_api_CellStep) (.slice none 0 0) ([]:(List api_CellStep))) (rL_nil _ _ _)
  exact wp_ret (rBlock (rThen (rThen (rBlock (rThen (sRet (.tuple #[.slice none 0 0,iv 0,iv bz]) S (rsl3 d (rvT (t:=4) (v:=.slice none 0 0) S d) (rvT (t:=5) (v:=iv 0) S d) (rvT (t:=6) (v:=iv bz) S d)) ⟨(.slice none 0 0),d,S.mem.sel [] [0] (by decide) d d⟩))))))
 obtain ⟨rfl,S⟩:=hI
 have h:=g7
 try dsimp only at h
 refine sSeq (fun e5 d3=>sRegion (sM S fun a S=>?_))
 refine sM S fun a S=>?_
 obtain ⟨ap,d4,h⟩:=bS h
 refine sCall (X:=Value) (f:=54) (vs:=[.slice aj p0.length ak,.slice ac p1.length ae]) (val:=c_compare_cellTable_val ap) (B':=fun _=>[]) (D':=c_compare_cellTable_D ap) [] [] [fRep (rL r_api_Stitch) (.slice aj p0.length ak) p0,fRep (rL r_api_Stitch) (.slice ac p1.length ae) p1] [] [0,1] S (wN d) d callee54 d (by decide) d d (fun E1 w1 S1=>c_compare_cellTable E1 w1 p0 (.slice aj p0.length ak) p1 (.slice ac p1.length ae) ap d4 S1) d (lb d) fun dF a w S=>?_
 obtain ⟨af,ag,_,rfl,_⟩:=S.mem.know (i:=0) (e:=fRep (rL (rL (rI .i64))) (dF) ap) d
 refine sN S fun a S=>?_
 refine lT (d3 _ _ (sSeq (fun e6 d5=>sRegion (sN S fun a S=>?_))))
 refine lT (d5 _ _ (sSeq (fun e7 d6=>sRegion (sN S fun a S=>?_))))
 refine sN S fun a S=>?_
 refine lT (d6 _ _ ?_)
 obtain ⟨dG,h,dH⟩:=bS h
 refine sCut (fun a w=>∃ aM,aM=dG∧∃ ax,∃ ay,St [] E [] w0 178 a w [(10,.slice af ap.length ag),(11,.slice ax aM.length ay)] [eRow r_api_CellStep 83 (.slice ax aM.length ay) aM] [fRep (rL (rL (rI .i64))) (.slice af ap.length ag) ap]) ?_ (fun a w hI=>?_)
 rotate_left
 ·obtain ⟨aM,rfl,ax,ay,S⟩:=hI
  have h:=dH
  try dsimp only at h
  refine sSeq (fun dI bA=>?_)
  obtain ⟨aO,bB,h⟩:=bS h
  obtain ⟨az,bC,h⟩:=bS h
  obtain ⟨bo,bD,S⟩:=pIdx (P:=Try.prog) (r:=(rL (rI .i64))) (v:=.slice af ap.length ag) (xs:=ap) (j:=0) 98 101 0 S Try.underlying98 d d bB
  obtain ⟨d7,S⟩:=pLoad (r:=(rL (rI .i64))) (q:=bo) (x:=aO) 0 S d
  obtain ⟨aP,aQ,_,rfl,_⟩:=S.mem.know (i:=1) (e:=fRep (rL (rI .i64)) (d7) aO) d
  obtain ⟨bp,bE,S⟩:=pIdx (P:=Try.prog) (r:=(rI .i64)) (v:=.slice aP aO.length aQ) (xs:=aO) (j:=0) 101 3 1 S Try.underlying101 d d bC
  obtain ⟨bF,S⟩:=pLoad (r:=(rI .i64)) (q:=bp) (x:=az) 0 S d
  obtain rfl:bF=iv az:=S.mem.know (i:=1) (e:=fRep (rI .i64) (bF) az) d
  refine sDraw (nf:=[]) (W:=[(0,172,.slice ax aM.length ay),(1,173,.slice af ap.length ag),(2,174,bo),(3,175,.slice aP aO.length aQ),(4,176,bp),(5,177,iv az),(6,4,.slice ax aM.length ay),(7,5,iv az),(8,6,iv 0)]) d S ?_
  refine node_by (A:=anc_compare_Edits_2) 9 (by kernel_rfl) (by kernel_rfl) (by kernel_rfl) (by kernel_rfl) (by kernel_rfl) [0,1,2,3,4,5,6,7,8] (by kernel_rfl) (by decide) (by decide) (fF ?_ (fF ?_ (fF ?_ (fF ?_ (fF ?_ (fF ?_ (fF ?_ (fF ?_ (fF ?_ (trivial)))))))))) [(4,.slice ax aM.length ay),(5,iv az),(6,iv 0)] (fin_of [some 6,some 7,some 8] d (by kernel_rfl) (by kernel_rfl)) (fun _ a w S=>?_)
  ·exact fM 0 none d d d d (.inl d) d d d
  ·exact fM 1 none d d d d (.inl d) d d d
  ·refine fJ [(173,_)] 2 [some 1] fun G a w S=>?_
   exact sIdxV S (wN d) d d d bD d (lb d) fun a S=>leafL ⟨d,S⟩
  ·refine fJ [(174,_)] 3 [some 2] fun G a w S=>?_
   exact sLoadV1 (vq:=bo) 3 (.slice aP aO.length aQ) S (wN d) d d d d d (lb d) fun a S=>leafL ⟨d,S⟩
  ·refine fJ [(175,_)] 4 [some 3] fun G a w S=>?_
   exact sIdxV S (wN d) d d d bE d (lb d) fun a S=>leafL ⟨d,S⟩
  ·refine fJ [(176,_)] 5 [some 4] fun G a w S=>?_
   exact sLoadV1 (vq:=bp) 0 (iv az) S (wN d) d d d d d (lb d) fun a S=>leafL ⟨d,S⟩
  ·exact fM 6 (some 0) d d d d (.inr d) d d d
  ·exact fM 7 (some 5) d d d d (.inr d) d d d
  ·refine fJ [] 8 [] fun G a w S=>?_
   exact sN S fun a S=>leafL ⟨d,S⟩
  refine leafT (bA _ _ ?_)
  obtain rfl:=tS h
  have S:=S.shutR (r:=r_api_CellStep) (T:=83) (v:=.slice ax aM.length ay) (xs:=aM) 0 d
  exact wp_ret (sRet (.tuple #[.slice ax aM.length ay,iv az,iv 0]) S (rsl3 d (rvT (t:=4) (v:=.slice ax aM.length ay) S d) (rvT (t:=5) (v:=iv az) S d) (rvT (t:=6) (v:=iv 0) S d)) ⟨(.slice ax aM.length ay),d,S.mem.sel [] [0] (by decide) d d⟩)
 refine wp_block ?_
 have S:=S.nilRow r_api_CellStep 83 (α:=api_CellStep)
 obtain ⟨e8,hl,dJ⟩:=bS h
 refine sLoop hl (fun s0 a w=>match s0 with | (aw,a8,a4)=>∃ am,∃ ao,St [] E [] w0 178 a w [(0,.slice aj p0.length ak),(1,.slice ac p1.length ae),(10,.slice af ap.length ag),(11,.slice am aw.length ao),(12,iv a8),(13,iv a4)] [eRow r_api_CellStep 83 (.slice am aw.length ao) aw] [fRep (rL r_api_Stitch) (.slice aj p0.length ak) p0,fRep (rL r_api_Stitch) (.slice ac p1.length ae) p1,fRep (rL (rL (rI .i64))) (.slice af ap.length ag) ap]) ⟨none,0,S.fix [0] [1,2,0] (by decide) d d d⟩ ?_
 clear hl h
 intro s0 a w c0 hI h d8
 obtain ⟨aw,a8,a4⟩:=s0
 unfold compare_Edits_l2 at h
 dsimp only at h hI
 obtain ⟨am,ao,S⟩:=hI
 refine sSeq (fun e9 d9=>?_)
 obtain ⟨dK,h,dL⟩:=bS h
 refine sCut (fun a w=>∃ da,da=dK∧St [] E [] w0 178 a w [(0,.slice aj p0.length ak),(1,.slice ac p1.length ae),(10,.slice af ap.length ag),(11,.slice am aw.length ao),(12,iv a8),(13,iv a4),(39,.bool da)] [eRow r_api_CellStep 83 (.slice am aw.length ao) aw] [fRep (rL r_api_Stitch) (.slice aj p0.length ak) p0,fRep (rL r_api_Stitch) (.slice ac p1.length ae) p1,fRep (rL (rL (rI .i64))) (.slice af ap.length ag) ap]) ?_ (fun a w hI=>?_)
 ·refine sRegion (sM S fun a S=>?_)
  refine sM S fun a S=>?_
  refine sLen S (wN d) d Try.underlying47 d d (lb d) fun a S=>sBin _ S (wN d) d d d (bLt _ _ _ _ .i64 a8 (p0.length:Int)) d (lb d) fun a S=>sM S fun a S=>?_
  rcases iS h with ⟨aA,h⟩ | ⟨aA,h⟩
  ·refine sSkN 4 4 false 34 S d d aA d fun a S=>sPickT (.bool true) S (wN d) d d aA d d (lb d) fun a S=>?_
   exact lT (⟨true,Option.some.inj h,S.fix [0] [0,1,2] (by decide) d d d⟩)
  refine sMove (iv a4) S (wG 4 false 34 d d d aA) (.inl d) d d (lb d) fun a S=>sMove (.slice ac p1.length ae) S (wG 4 false 34 d d d aA) (.inl d) d d (lb d) fun a S=>sLen S (wG 4 false 34 d d d aA) d Try.underlying47 d d (lb d) fun a S=>sBin _ S (wG 4 false 34 d d d aA) d d d (bLt _ _ _ _ .i64 a4 (p1.length:Int)) d (lb d) fun a S=>sPickF (.bool (decide (a4 < (p1.length:Int)))) S (wN d) d d aA d d (lb d) fun a S=>?_
  exact lT (⟨decide (a4 < (p1.length:Int)),Option.some.inj h,S.fix [0] [0,1,2] (by decide) d d d⟩)
 obtain ⟨da,rfl,S⟩:=hI
 have h:=dL
 try dsimp only at h
 rcases iS h with ⟨bq,h⟩ | ⟨bq,h⟩
 rotate_left
 ·refine sCondF S d bq ?_
  obtain rfl:=tS h
  obtain rfl:=d8 _ d
  have h:=dJ
  try dsimp only at h
  exact wp_exit (xThen (xThen (xHit (leafT (⟨aw,Option.some.inj h,am,ao,S.fix [0] [2] (by decide) d d d⟩)))))
 refine sCondT S d bq (wp_skip (leafT (d9 _ _ ?_)))
 refine wp_block ?_
 refine sSeq (fun ea db=>sRegion (sM S fun a S=>?_))
 refine sM S fun a S=>?_
 obtain ⟨bG,dc,h⟩:=bS h
 obtain ⟨dz,de,S⟩:=pIdx (P:=Try.prog) (r:=(rL (rI .i64))) (v:=.slice af ap.length ag) (xs:=ap) (j:=a8) 98 101 2 S Try.underlying98 d d dc
 refine sIdxV S (wN d) d d d de d (lb d) fun a S=>?_
 obtain ⟨dM,S⟩:=pLoad (r:=(rL (rI .i64))) (q:=dz) (x:=bG) 0 S d
 obtain ⟨bH,bI,_,rfl,_⟩:=S.mem.know (i:=1) (e:=fRep (rL (rI .i64)) (dM) bG) d
 refine sLoadV1 (vq:=dz) 0 (.slice bH bG.length bI) S (wN d) d d d d d (lb d) fun a S=>sM S fun a S=>?_
 obtain ⟨au,df,h⟩:=bS h
 obtain ⟨dA,dg,S⟩:=pIdx (P:=Try.prog) (r:=(rI .i64)) (v:=.slice bH bG.length bI) (xs:=bG) (j:=a4) 101 3 1 S Try.underlying101 d d df
 refine sIdxV S (wN d) d d d dg d (lb d) fun a S=>?_
 obtain ⟨dB,S⟩:=pLoad (r:=(rI .i64)) (q:=dA) (x:=au) 0 S d
 obtain rfl:dB=iv au:=S.mem.know (i:=1) (e:=fRep (rI .i64) (dB) au) d
 refine sLoadV1 (vq:=dA) 0 (iv au) S (wN d) d d d d d (lb d) fun a S=>sN S fun a S=>?_
 refine lT (db _ _ (wp_block ?_))
 obtain ⟨dN,h,dO⟩:=bS h
 refine sCut (fun a w=>∃ dh,dh=dN∧St [] E [] w0 178 a w [(0,.slice aj p0.length ak),(1,.slice ac p1.length ae),(10,.slice af ap.length ag),(11,.slice am aw.length ao),(12,iv a8),(13,iv a4),(14,iv au),(57,.bool dh)] [eRow r_api_CellStep 83 (.slice am aw.length ao) aw] [fRep (rL r_api_Stitch) (.slice aj p0.length ak) p0,fRep (rL r_api_Stitch) (.slice ac p1.length ae) p1,fRep (rL (rL (rI .i64))) (.slice af ap.length ag) ap]) ?_ (fun a w hI=>?_)
 ·rcases iS h with ⟨ar,h⟩ | ⟨ar,h⟩
  rotate_left
  ·refine sDraw (nf:=[]) (W:=[(0,58,iv a8),(1,59,.slice aj p0.length ak),(2,60,iv (p0.length:Int)),(3,61,.bool (decide (a8 < (p0.length:Int)))),(4,62,.bool (decide (a8 < (p0.length:Int)))),(5,63,undef),(6,64,undef),(7,65,undef),(8,66,undef),(9,67,.bool false),(10,68,.bool false),(11,69,undef),(12,70,undef),(13,71,undef),(14,72,undef),(15,73,undef),(16,74,undef),(17,75,undef),(18,76,undef),(19,77,undef),(20,78,.bool false),(21,79,.bool false),(22,80,undef),(23,81,undef),(24,82,undef),(25,83,undef),(26,84,undef),(27,85,undef),(28,86,undef),(29,87,undef),(30,88,undef),(31,89,undef),(32,90,undef),(33,91,.bool false),(34,57,.bool false)]) d S ?_
   refine node_by (A:=anc_compare_Edits_0) 35 (by kernel_rfl) (by kernel_rfl) (by kernel_rfl) (by kernel_rfl) (by kernel_rfl) [0,1,2,3,4,5,6,7,8,9,10,11,12,13,14,15,16,17,18,19,20,21,22,23,24,25,26,27,28,29,30,31,32,33,34] (by kernel_rfl) (by decide) (by decide) (fF ?_ (fF ?_ (fF ?_ (fF ?_ (fF ?_ (fF ?_ (fF ?_ (fF ?_ (fF ?_ (fF ?_ (fF ?_ (fF ?_ (fF ?_ (fF ?_ (fF ?_ (fF ?_ (fF ?_ (fF ?_ (fF ?_ (fF ?_ (fF ?_ (fF ?_ (fF ?_ (fF ?_ (fF ?_ (fF ?_ (fF ?_ (fF ?_ (fF ?_ (fF ?_ (fF ?_ (fF ?_ (fF ?_ (fF ?_ (fF ?_ (trivial)))))))))))))))))))))))))))))))))))) [(0,.slice aj p0.length ak),(1,.slice ac p1.length ae),(10,.slice af ap.length ag),(11,.slice am aw.length ao),(12,iv a8),(13,iv a4),(14,iv au),(57,.bool false),(63,undef),(64,undef),(65,undef),(66,undef),(69,undef),(70,undef),(71,undef),(72,undef),(73,undef),(74,undef),(75,undef),(76,undef),(77,undef),(80,undef),(81,undef),(82,undef),(83,undef),(84,undef),(85,undef),(86,undef),(87,undef),(88,undef),(89,undef),(90,undef)] (fin_of [none,none,none,none,none,none,none,some 34,some 5,some 6,some 7,some 8,some 11,some 12,some 13,some 14,some 15,some 16,some 17,some 18,some 19,some 22,some 23,some 24,some 25,some 26,some 27,some 28,some 29,some 30,some 31,some 32] d (by kernel_rfl) (by kernel_rfl)) (fun _ a w S=>?_)
   ·exact fM 0 none d d d d (.inl d) d d d
   ·exact fM 1 none d d d d (.inl d) d d d
   ·refine fJ [(59,_)] 2 [some 1] fun G a w S=>?_
    exact sLen S (wN d) d Try.underlying47 d d (lb d) fun a S=>leafL ⟨d,S⟩
   ·refine fJ [(58,_),(60,_)] 3 [some 0,some 2] fun G a w S=>?_
    exact sBin _ S (wN d) d d d (bLt _ _ _ _ .i64 a8 (p0.length:Int)) d (lb d) fun a S=>leafL ⟨d,S⟩
   ·exact fM 4 (some 3) d d d d (.inl d) d d d
   ·refine fJ [(13,_),(62,_)] 5 [none,some 4] fun G a w S=>?_
    exact sSk S d d d ar d d fun a S=>leafL ⟨d,S⟩
   ·refine fJ [(1,_),(62,_)] 6 [none,some 4] fun G a w S=>?_
    exact sSk S d d d ar d d fun a S=>leafL ⟨d,S⟩
   ·refine fJ [(64,_),(62,_)] 7 [some 6,some 4] fun G a w S=>?_
    exact sSk S d d d ar d d fun a S=>leafL ⟨d,S⟩
   ·refine fJ [(63,_),(65,_),(62,_)] 8 [some 5,some 7,some 4] fun G a w S=>?_
    exact sSk S d d d ar d d fun a S=>leafL ⟨d,S⟩
   ·refine fJ [(62,_),(66,_)] 9 [some 4,some 8] fun G a w S=>?_
    exact sPickF (.bool false) S (wN d) d d ar d d (lb d) fun a S=>leafL ⟨d,S⟩
   ·exact fM 10 (some 9) d d d d (.inl d) d d d
   ·refine fJ [(0,_),(68,_)] 11 [none,some 10] fun G a w S=>?_
    exact sSk S d d d d d d fun a S=>leafL ⟨d,S⟩
   ·refine fJ [(12,_),(68,_)] 12 [none,some 10] fun G a w S=>?_
    exact sSk S d d d d d d fun a S=>leafL ⟨d,S⟩
   ·refine fJ [(69,_),(70,_),(68,_)] 13 [some 11,some 12,some 10] fun G a w S=>?_
    exact sSk S d d d d d d fun a S=>leafL ⟨d,S⟩
   ·refine fJ [(71,_),(68,_)] 14 [some 13,some 10] fun G a w S=>?_
    exact sSk S d d d d d d fun a S=>leafL ⟨d,S⟩
   ·refine fJ [(1,_),(68,_)] 15 [none,some 10] fun G a w S=>?_
    exact sSk S d d d d d d fun a S=>leafL ⟨d,S⟩
   ·refine fJ [(13,_),(68,_)] 16 [none,some 10] fun G a w S=>?_
    exact sSk S d d d d d d fun a S=>leafL ⟨d,S⟩
   ·refine fJ [(73,_),(74,_),(68,_)] 17 [some 15,some 16,some 10] fun G a w S=>?_
    exact sSk S d d d d d d fun a S=>leafL ⟨d,S⟩
   ·refine fJ [(75,_),(68,_)] 18 [some 17,some 10] fun G a w S=>?_
    exact sSk S d d d d d d fun a S=>leafL ⟨d,S⟩
   ·refine fJ [(72,_),(76,_),(68,_)] 19 [some 14,some 18,some 10] fun G a w S=>?_
    exact sSk S d d d d d d fun a S=>leafL ⟨d,S⟩
   ·refine fJ [(68,_),(77,_)] 20 [some 10,some 19] fun G a w S=>?_
    exact sPickF (.bool false) S (wN d) d d d d d (lb d) fun a S=>leafL ⟨d,S⟩
   ·exact fM 21 (some 20) d d d d (.inl d) d d d
   ·refine fJ [(14,_),(79,_)] 22 [none,some 21] fun G a w S=>?_
    exact sSk S d d d d d d fun a S=>leafL ⟨d,S⟩
   ·refine fJ [(10,_),(79,_)] 23 [none,some 21] fun G a w S=>?_
    exact sSk S d d d d d d fun a S=>leafL ⟨d,S⟩
   ·refine fJ [(12,_),(79,_)] 24 [none,some 21] fun G a w S=>?_
    exact sSk S d d d d d d fun a S=>leafL ⟨d,S⟩
   ·refine fJ [(82,_),(79,_)] 25 [some 24,some 21] fun G a w S=>?_
    exact sSk S d d d d d d fun a S=>leafL ⟨d,S⟩
   ·refine fJ [(81,_),(83,_),(79,_)] 26 [some 23,some 25,some 21] fun G a w S=>?_
    exact sSk S d d d d d d fun a S=>leafL ⟨d,S⟩
   ·refine fJ [(84,_),(79,_)] 27 [some 26,some 21] fun G a w S=>?_
    exact sSk S d d d d d d fun a S=>leafL ⟨d,S⟩
   ·refine fJ [(13,_),(79,_)] 28 [none,some 21] fun G a w S=>?_
    exact sSk S d d d d d d fun a S=>leafL ⟨d,S⟩
   ·refine fJ [(86,_),(79,_)] 29 [some 28,some 21] fun G a w S=>?_
    exact sSk S d d d d d d fun a S=>leafL ⟨d,S⟩
   ·refine fJ [(85,_),(87,_),(79,_)] 30 [some 27,some 29,some 21] fun G a w S=>?_
    exact sSk S d d d d d d fun a S=>leafL ⟨d,S⟩
   ·refine fJ [(88,_),(79,_)] 31 [some 30,some 21] fun G a w S=>?_
    exact sSk S d d d d d d fun a S=>leafL ⟨d,S⟩
   ·refine fJ [(80,_),(89,_),(79,_)] 32 [some 22,some 31,some 21] fun G a w S=>?_
    exact sSk S d d d d d d fun a S=>leafL ⟨d,S⟩
   ·refine fJ [(79,_),(90,_)] 33 [some 21,some 32] fun G a w S=>?_
    exact sPickF (.bool false) S (wN d) d d d d d (lb d) fun a S=>leafL ⟨d,S⟩
   ·exact fM 34 (some 33) d d d d (.inr d) d d d
   exact leafT (⟨false,Option.some.inj h,S.fix [0] [6,7,8] (by decide) d d d⟩)
  rcases iS h with ⟨ai,h⟩ | ⟨ai,h⟩
  rotate_left
  ·refine sDraw (nf:=[]) (W:=[(0,58,iv a8),(1,59,.slice aj p0.length ak),(2,60,iv (p0.length:Int)),(3,61,.bool (decide (a8 < (p0.length:Int)))),(4,62,.bool (decide (a8 < (p0.length:Int)))),(5,63,iv a4),(6,64,.slice ac p1.length ae),(7,65,iv (p1.length:Int)),(8,66,.bool (decide (a4 < (p1.length:Int)))),(9,67,.bool (decide (a4 < (p1.length:Int)))),(10,68,.bool (decide (a4 < (p1.length:Int)))),(11,69,undef),(12,70,undef),(13,71,undef),(14,72,undef),(15,73,undef),(16,74,undef),(17,75,undef),(18,76,undef),(19,77,undef),(20,78,.bool false),(21,79,.bool false),(22,80,undef),(23,81,undef),(24,82,undef),(25,83,undef),(26,84,undef),(27,85,undef),(28,86,undef),(29,87,undef),(30,88,undef),(31,89,undef),(32,90,undef),(33,91,.bool false),(34,57,.bool false)]) d S ?_
   refine node_by (A:=anc_compare_Edits_0) 35 (by kernel_rfl) (by kernel_rfl) (by kernel_rfl) (by kernel_rfl) (by kernel_rfl) [0,1,2,3,4,5,6,7,8,9,10,11,12,13,14,15,16,17,18,19,20,21,22,23,24,25,26,27,28,29,30,31,32,33,34] (by kernel_rfl) (by decide) (by decide) (fF ?_ (fF ?_ (fF ?_ (fF ?_ (fF ?_ (fF ?_ (fF ?_ (fF ?_ (fF ?_ (fF ?_ (fF ?_ (fF ?_ (fF ?_ (fF ?_ (fF ?_ (fF ?_ (fF ?_ (fF ?_ (fF ?_ (fF ?_ (fF ?_ (fF ?_ (fF ?_ (fF ?_ (fF ?_ (fF ?_ (fF ?_ (fF ?_ (fF ?_ (fF ?_ (fF ?_ (fF ?_ (fF ?_ (fF ?_ (fF ?_ (trivial)))))))))))))))))))))))))))))))))))) [(0,.slice aj p0.length ak),(1,.slice ac p1.length ae),(10,.slice af ap.length ag),(11,.slice am aw.length ao),(12,iv a8),(13,iv a4),(14,iv au),(57,.bool false),(63,iv a4),(64,.slice ac p1.length ae),(65,iv (p1.length:Int)),(66,.bool (decide (a4 < (p1.length:Int)))),(69,undef),(70,undef),(71,undef),(72,undef),(73,undef),(74,undef),(75,undef),(76,undef),(77,undef),(80,undef),(81,undef),(82,undef),(83,undef),(84,undef),(85,undef),(86,undef),(87,undef),(88,undef),(89,undef),(90,undef)] (fin_of [none,none,none,none,none,none,none,some 34,some 5,some 6,some 7,some 8,some 11,some 12,some 13,some 14,some 15,some 16,some 17,some 18,some 19,some 22,some 23,some 24,some 25,some 26,some 27,some 28,some 29,some 30,some 31,some 32] d (by kernel_rfl) (by kernel_rfl)) (fun _ a w S=>?_)
   ·exact fM 0 none d d d d (.inl d) d d d
   ·exact fM 1 none d d d d (.inl d) d d d
   ·refine fJ [(59,_)] 2 [some 1] fun G a w S=>?_
    exact sLen S (wN d) d Try.underlying47 d d (lb d) fun a S=>leafL ⟨d,S⟩
   ·refine fJ [(58,_),(60,_)] 3 [some 0,some 2] fun G a w S=>?_
    exact sBin _ S (wN d) d d d (bLt _ _ _ _ .i64 a8 (p0.length:Int)) d (lb d) fun a S=>leafL ⟨d,S⟩
   ·exact fM 4 (some 3) d d d d (.inl d) d d d
   ·refine fJ [(13,_),(62,_)] 5 [none,some 4] fun G a w S=>?_
    exact sMove (iv a4) S (wG 4 true 62 d d d ar) (.inl d) d d (lb d) fun a S=>leafL ⟨d,S⟩
   ·refine fJ [(1,_),(62,_)] 6 [none,some 4] fun G a w S=>?_
    exact sMove (.slice ac p1.length ae) S (wG 4 true 62 d d d ar) (.inl d) d d (lb d) fun a S=>leafL ⟨d,S⟩
   ·refine fJ [(64,_),(62,_)] 7 [some 6,some 4] fun G a w S=>?_
    exact sLen S (wG 4 true 62 d d d ar) d Try.underlying47 d d (lb d) fun a S=>leafL ⟨d,S⟩
   ·refine fJ [(63,_),(65,_),(62,_)] 8 [some 5,some 7,some 4] fun G a w S=>?_
    exact sBin _ S (wG 4 true 62 d d d ar) d d d (bLt _ _ _ _ .i64 a4 (p1.length:Int)) d (lb d) fun a S=>leafL ⟨d,S⟩
   ·refine fJ [(62,_),(66,_)] 9 [some 4,some 8] fun G a w S=>?_
    exact sPickT (.bool (decide (a4 < (p1.length:Int)))) S (wN d) d d ar d d (lb d) fun a S=>leafL ⟨d,S⟩
   ·exact fM 10 (some 9) d d d d (.inl d) d d d
   ·refine fJ [(0,_),(68,_)] 11 [none,some 10] fun G a w S=>?_
    exact sSk S d d d ai d d fun a S=>leafL ⟨d,S⟩
   ·refine fJ [(12,_),(68,_)] 12 [none,some 10] fun G a w S=>?_
    exact sSk S d d d ai d d fun a S=>leafL ⟨d,S⟩
   ·refine fJ [(69,_),(70,_),(68,_)] 13 [some 11,some 12,some 10] fun G a w S=>?_
    exact sSk S d d d ai d d fun a S=>leafL ⟨d,S⟩
   ·refine fJ [(71,_),(68,_)] 14 [some 13,some 10] fun G a w S=>?_
    exact sSk S d d d ai d d fun a S=>leafL ⟨d,S⟩
   ·refine fJ [(1,_),(68,_)] 15 [none,some 10] fun G a w S=>?_
    exact sSk S d d d ai d d fun a S=>leafL ⟨d,S⟩
   ·refine fJ [(13,_),(68,_)] 16 [none,some 10] fun G a w S=>?_
    exact sSk S d d d ai d d fun a S=>leafL ⟨d,S⟩
   ·refine fJ [(73,_),(74,_),(68,_)] 17 [some 15,some 16,some 10] fun G a w S=>?_
    exact sSk S d d d ai d d fun a S=>leafL ⟨d,S⟩
   ·refine fJ [(75,_),(68,_)] 18 [some 17,some 10] fun G a w S=>?_
    exact sSk S d d d ai d d fun a S=>leafL ⟨d,S⟩
   ·refine fJ [(72,_),(76,_),(68,_)] 19 [some 14,some 18,some 10] fun G a w S=>?_
    exact sSk S d d d ai d d fun a S=>leafL ⟨d,S⟩
   ·refine fJ [(68,_),(77,_)] 20 [some 10,some 19] fun G a w S=>?_
    exact sPickF (.bool false) S (wN d) d d ai d d (lb d) fun a S=>leafL ⟨d,S⟩
   ·exact fM 21 (some 20) d d d d (.inl d) d d d
   ·refine fJ [(14,_),(79,_)] 22 [none,some 21] fun G a w S=>?_
    exact sSk S d d d d d d fun a S=>leafL ⟨d,S⟩
   ·refine fJ [(10,_),(79,_)] 23 [none,some 21] fun G a w S=>?_
    exact sSk S d d d d d d fun a S=>leafL ⟨d,S⟩
   ·refine fJ [(12,_),(79,_)] 24 [none,some 21] fun G a w S=>?_
    exact sSk S d d d d d d fun a S=>leafL ⟨d,S⟩
   ·refine fJ [(82,_),(79,_)] 25 [some 24,some 21] fun G a w S=>?_
    exact sSk S d d d d d d fun a S=>leafL ⟨d,S⟩
   ·refine fJ [(81,_),(83,_),(79,_)] 26 [some 23,some 25,some 21] fun G a w S=>?_
    exact sSk S d d d d d d fun a S=>leafL ⟨d,S⟩
   ·refine fJ [(84,_),(79,_)] 27 [some 26,some 21] fun G a w S=>?_
    exact sSk S d d d d d d fun a S=>leafL ⟨d,S⟩
   ·refine fJ [(13,_),(79,_)] 28 [none,some 21] fun G a w S=>?_
    exact sSk S d d d d d d fun a S=>leafL ⟨d,S⟩
   ·refine fJ [(86,_),(79,_)] 29 [some 28,some 21] fun G a w S=>?_
    exact sSk S d d d d d d fun a S=>leafL ⟨d,S⟩
   ·refine fJ [(85,_),(87,_),(79,_)] 30 [some 27,some 29,some 21] fun G a w S=>?_
    exact sSk S d d d d d d fun a S=>leafL ⟨d,S⟩
   ·refine fJ [(88,_),(79,_)] 31 [some 30,some 21] fun G a w S=>?_
    exact sSk S d d d d d d fun a S=>leafL ⟨d,S⟩
   ·refine fJ [(80,_),(89,_),(79,_)] 32 [some 22,some 31,some 21] fun G a w S=>?_
    exact sSk S d d d d d d fun a S=>leafL ⟨d,S⟩
   ·refine fJ [(79,_),(90,_)] 33 [some 21,some 32] fun G a w S=>?_
    exact sPickF (.bool false) S (wN d) d d d d d (lb d) fun a S=>leafL ⟨d,S⟩
   ·exact fM 34 (some 33) d d d d (.inr d) d d d
   exact leafT (⟨false,Option.some.inj h,S.fix [0] [6,7,8] (by decide) d d d⟩)
  obtain ⟨a6,bJ,h⟩:=bS h
  obtain ⟨a7,bK,h⟩:=bS h
  rcases iS h with ⟨al,h⟩ | ⟨al,h⟩
  rotate_left
  ·obtain ⟨aV,bL,S⟩:=pIdx (P:=Try.prog) (r:=r_api_Stitch) (v:=.slice aj p0.length ak) (xs:=p0) (j:=a8) 47 81 6 S Try.underlying47 d d bJ
   obtain ⟨bM,S⟩:=pLoad (r:=r_api_Stitch) (q:=aV) (x:=a6) 0 S d
   obtain rfl:bM=.agg #[.int .u8 a6.Kind,.bool a6.Purl,iv a6.A,iv a6.B]:=S.mem.know (i:=1) (e:=fRep r_api_Stitch (bM) a6) d
   obtain ⟨aW,bN,S⟩:=pIdx (P:=Try.prog) (r:=r_api_Stitch) (v:=.slice ac p1.length ae) (xs:=p1) (j:=a4) 47 81 10 S Try.underlying47 d d bK
   obtain ⟨bO,S⟩:=pLoad (r:=r_api_Stitch) (q:=aW) (x:=a7) 0 S d
   obtain rfl:bO=.agg #[.int .u8 a7.Kind,.bool a7.Purl,iv a7.A,iv a7.B]:=S.mem.know (i:=1) (e:=fRep r_api_Stitch (bO) a7) d
   refine sDraw (nf:=[]) (W:=[(0,58,iv a8),(1,59,.slice aj p0.length ak),(2,60,iv (p0.length:Int)),(3,61,.bool (decide (a8 < (p0.length:Int)))),(4,62,.bool (decide (a8 < (p0.length:Int)))),(5,63,iv a4),(6,64,.slice ac p1.length ae),(7,65,iv (p1.length:Int)),(8,66,.bool (decide (a4 < (p1.length:Int)))),(9,67,.bool (decide (a4 < (p1.length:Int)))),(10,68,.bool (decide (a4 < (p1.length:Int)))),(11,69,.slice aj p0.length ak),(12,70,iv a8),(13,71,aV),(14,72,.agg #[.int .u8 a6.Kind,.bool a6.Purl,iv a6.A,iv a6.B]),(15,73,.slice ac p1.length ae),(16,74,iv a4),(17,75,aW),(18,76,.agg #[.int .u8 a7.Kind,.bool a7.Purl,iv a7.A,iv a7.B]),(19,77,.bool ((a6.Kind == a7.Kind) && ((a6.Purl == a7.Purl) && ((a6.A == a7.A) && ((a6.B == a7.B) && true))))),(20,78,.bool ((a6.Kind == a7.Kind) && ((a6.Purl == a7.Purl) && ((a6.A == a7.A) && ((a6.B == a7.B) && true))))),(21,79,.bool ((a6.Kind == a7.Kind) && ((a6.Purl == a7.Purl) && ((a6.A == a7.A) && ((a6.B == a7.B) && true))))),(22,80,undef),(23,81,undef),(24,82,undef),(25,83,undef),(26,84,undef),(27,85,undef),(28,86,undef),(29,87,undef),(30,88,undef),(31,89,undef),(32,90,undef),(33,91,.bool false),(34,57,.bool false)]) d S ?_
   refine node_by (A:=anc_compare_Edits_0) 35 (by kernel_rfl) (by kernel_rfl) (by kernel_rfl) (by kernel_rfl) (by kernel_rfl) [0,1,2,3,4,5,6,7,8,9,10,11,12,13,14,15,16,17,18,19,20,21,22,23,24,25,26,27,28,29,30,31,32,33,34] (by kernel_rfl) (by decide) (by decide) (fF ?_ (fF ?_ (fF ?_ (fF ?_ (fF ?_ (fF ?_ (fF ?_ (fF ?_ (fF ?_ (fF ?_ (fF ?_ (fF ?_ (fF ?_ (fF ?_ (fF ?_ (fF ?_ (fF ?_ (fF ?_ (fF ?_ (fF ?_ (fF ?_ (fF ?_ (fF ?_ (fF ?_ (fF ?_ (fF ?_ (fF ?_ (fF ?_ (fF ?_ (fF ?_ (fF ?_ (fF ?_ (fF ?_ (fF ?_ (fF ?_ (trivial)))))))))))))))))))))))))))))))))))) [(0,.slice aj p0.length ak),(1,.slice ac p1.length ae),(10,.slice af ap.length ag),(11,.slice am aw.length ao),(12,iv a8),(13,iv a4),(14,iv au),(57,.bool false),(63,iv a4),(64,.slice ac p1.length ae),(65,iv (p1.length:Int)),(66,.bool (decide (a4 < (p1.length:Int)))),(69,.slice aj p0.length ak),(70,iv a8),(71,aV),(72,.agg #[.int .u8 a6.Kind,.bool a6.Purl,iv a6.A,iv a6.B]),(73,.slice ac p1.length ae),(74,iv a4),(75,aW),(76,.agg #[.int .u8 a7.Kind,.bool a7.Purl,iv a7.A,iv a7.B]),(77,.bool ((a6.Kind == a7.Kind) && ((a6.Purl == a7.Purl) && ((a6.A == a7.A) && ((a6.B == a7.B) && true))))),(80,undef),(81,undef),(82,undef),(83,undef),(84,undef),(85,undef),(86,undef),(87,undef),(88,undef),(89,undef),(90,undef)] (fin_of [none,none,none,none,none,none,none,some 34,some 5,some 6,some 7,some 8,some 11,some 12,some 13,some 14,some 15,some 16,some 17,some 18,some 19,some 22,some 23,some 24,some 25,some 26,some 27,some 28,some 29,some 30,some 31,some 32] d (by kernel_rfl) (by kernel_rfl)) (fun _ a w S=>?_)
   ·exact fM 0 none d d d d (.inl d) d d d
   ·exact fM 1 none d d d d (.inl d) d d d
   ·refine fJ [(59,_)] 2 [some 1] fun G a w S=>?_
    exact sLen S (wN d) d Try.underlying47 d d (lb d) fun a S=>leafL ⟨d,S⟩
   ·refine fJ [(58,_),(60,_)] 3 [some 0,some 2] fun G a w S=>?_
    exact sBin _ S (wN d) d d d (bLt _ _ _ _ .i64 a8 (p0.length:Int)) d (lb d) fun a S=>leafL ⟨d,S⟩
   ·exact fM 4 (some 3) d d d d (.inl d) d d d
   ·refine fJ [(13,_),(62,_)] 5 [none,some 4] fun G a w S=>?_
    exact sMove (iv a4) S (wG 4 true 62 d d d ar) (.inl d) d d (lb d) fun a S=>leafL ⟨d,S⟩
   ·refine fJ [(1,_),(62,_)] 6 [none,some 4] fun G a w S=>?_
    exact sMove (.slice ac p1.length ae) S (wG 4 true 62 d d d ar) (.inl d) d d (lb d) fun a S=>leafL ⟨d,S⟩
   ·refine fJ [(64,_),(62,_)] 7 [some 6,some 4] fun G a w S=>?_
    exact sLen S (wG 4 true 62 d d d ar) d Try.underlying47 d d (lb d) fun a S=>leafL ⟨d,S⟩
   ·refine fJ [(63,_),(65,_),(62,_)] 8 [some 5,some 7,some 4] fun G a w S=>?_
    exact sBin _ S (wG 4 true 62 d d d ar) d d d (bLt _ _ _ _ .i64 a4 (p1.length:Int)) d (lb d) fun a S=>leafL ⟨d,S⟩
   ·refine fJ [(62,_),(66,_)] 9 [some 4,some 8] fun G a w S=>?_
    exact sPickT (.bool (decide (a4 < (p1.length:Int)))) S (wN d) d d ar d d (lb d) fun a S=>leafL ⟨d,S⟩
   ·exact fM 10 (some 9) d d d d (.inl d) d d d
   ·refine fJ [(0,_),(68,_)] 11 [none,some 10] fun G a w S=>?_
    exact sMove (.slice aj p0.length ak) S (wG 10 true 68 d d d ai) (.inl d) d d (lb d) fun a S=>leafL ⟨d,S⟩
   ·refine fJ [(12,_),(68,_)] 12 [none,some 10] fun G a w S=>?_
    exact sMove (iv a8) S (wG 10 true 68 d d d ai) (.inl d) d d (lb d) fun a S=>leafL ⟨d,S⟩
   ·refine fJ [(69,_),(70,_),(68,_)] 13 [some 11,some 12,some 10] fun G a w S=>?_
    exact sIdxV S (wG 10 true 68 d d d ai) d d d bL d (lb d) fun a S=>leafL ⟨d,S⟩
   ·refine fJ [(71,_),(68,_)] 14 [some 13,some 10] fun G a w S=>?_
    exact sLoadVN (vq:=aV) 3 [.int .u8 a6.Kind,.bool a6.Purl,iv a6.A,iv a6.B] S (wG 10 true 68 d d d ai) d d d d d d (lb d) fun a S=>leafL ⟨d,S⟩
   ·refine fJ [(1,_),(68,_)] 15 [none,some 10] fun G a w S=>?_
    exact sMove (.slice ac p1.length ae) S (wG 10 true 68 d d d ai) (.inl d) d d (lb d) fun a S=>leafL ⟨d,S⟩
   ·refine fJ [(13,_),(68,_)] 16 [none,some 10] fun G a w S=>?_
    exact sMove (iv a4) S (wG 10 true 68 d d d ai) (.inl d) d d (lb d) fun a S=>leafL ⟨d,S⟩
   ·refine fJ [(73,_),(74,_),(68,_)] 17 [some 15,some 16,some 10] fun G a w S=>?_
    exact sIdxV S (wG 10 true 68 d d d ai) d d d bN d (lb d) fun a S=>leafL ⟨d,S⟩
   ·refine fJ [(75,_),(68,_)] 18 [some 17,some 10] fun G a w S=>?_
    exact sLoadVN (vq:=aW) 0 [.int .u8 a7.Kind,.bool a7.Purl,iv a7.A,iv a7.B] S (wG 10 true 68 d d d ai) d d d d d d (lb d) fun a S=>leafL ⟨d,S⟩
   ·refine fJ [(72,_),(76,_),(68,_)] 19 [some 14,some 18,some 10] fun G a w S=>?_
    exact sBin _ S (wG 10 true 68 d d d ai) d d d (bEqV _ _ _ _ #[.int .u8 a6.Kind,.bool a6.Purl,iv a6.A,iv a6.B] #[.int .u8 a7.Kind,.bool a7.Purl,iv a7.A,iv a7.B] ((a6.Kind == a7.Kind) && ((a6.Purl == a7.Purl) && ((a6.A == a7.A) && ((a6.B == a7.B) && true)))) (by kernel_rfl) (eqlV_of (by kernel_rfl))) d (lb d) fun a S=>leafL ⟨d,S⟩
   ·refine fJ [(68,_),(77,_)] 20 [some 10,some 19] fun G a w S=>?_
    exact sPickT (.bool ((a6.Kind == a7.Kind) && ((a6.Purl == a7.Purl) && ((a6.A == a7.A) && ((a6.B == a7.B) && true))))) S (wN d) d d ai d d (lb d) fun a S=>leafL ⟨d,S⟩
   ·exact fM 21 (some 20) d d d d (.inl d) d d d
   ·refine fJ [(14,_),(79,_)] 22 [none,some 21] fun G a w S=>?_
    exact sSk S d d d al d d fun a S=>leafL ⟨d,S⟩
   ·refine fJ [(10,_),(79,_)] 23 [none,some 21] fun G a w S=>?_
    exact sSk S d d d al d d fun a S=>leafL ⟨d,S⟩
   ·refine fJ [(12,_),(79,_)] 24 [none,some 21] fun G a w S=>?_
    exact sSk S d d d al d d fun a S=>leafL ⟨d,S⟩
   ·refine fJ [(82,_),(79,_)] 25 [some 24,some 21] fun G a w S=>?_
    exact sSk S d d d al d d fun a S=>leafL ⟨d,S⟩
   ·refine fJ [(81,_),(83,_),(79,_)] 26 [some 23,some 25,some 21] fun G a w S=>?_
    exact sSk S d d d al d d fun a S=>leafL ⟨d,S⟩
   ·refine fJ [(84,_),(79,_)] 27 [some 26,some 21] fun G a w S=>?_
    exact sSk S d d d al d d fun a S=>leafL ⟨d,S⟩
   ·refine fJ [(13,_),(79,_)] 28 [none,some 21] fun G a w S=>?_
    exact sSk S d d d al d d fun a S=>leafL ⟨d,S⟩
   ·refine fJ [(86,_),(79,_)] 29 [some 28,some 21] fun G a w S=>?_
    exact sSk S d d d al d d fun a S=>leafL ⟨d,S⟩
   ·refine fJ [(85,_),(87,_),(79,_)] 30 [some 27,some 29,some 21] fun G a w S=>?_
    exact sSk S d d d al d d fun a S=>leafL ⟨d,S⟩
   ·refine fJ [(88,_),(79,_)] 31 [some 30,some 21] fun G a w S=>?_
    exact sSk S d d d al d d fun a S=>leafL ⟨d,S⟩
   ·refine fJ [(80,_),(89,_),(79,_)] 32 [some 22,some 31,some 21] fun G a w S=>?_
    exact sSk S d d d al d d fun a S=>leafL ⟨d,S⟩
   ·refine fJ [(79,_),(90,_)] 33 [some 21,some 32] fun G a w S=>?_
    exact sPickF (.bool false) S (wN d) d d al d d (lb d) fun a S=>leafL ⟨d,S⟩
   ·exact fM 34 (some 33) d d d d (.inr d) d d d
   exact leafT (⟨false,Option.some.inj h,S.fix [0] [12,13,14] (by decide) d d d⟩)
  obtain ⟨br,di,h⟩:=bS h
  obtain ⟨aH,dj,h⟩:=bS h
  obtain ⟨aX,bP,S⟩:=pIdx (P:=Try.prog) (r:=r_api_Stitch) (v:=.slice aj p0.length ak) (xs:=p0) (j:=a8) 47 81 6 S Try.underlying47 d d bJ
  obtain ⟨bQ,S⟩:=pLoad (r:=r_api_Stitch) (q:=aX) (x:=a6) 0 S d
  obtain rfl:bQ=.agg #[.int .u8 a6.Kind,.bool a6.Purl,iv a6.A,iv a6.B]:=S.mem.know (i:=1) (e:=fRep r_api_Stitch (bQ) a6) d
  obtain ⟨aZ,bR,S⟩:=pIdx (P:=Try.prog) (r:=r_api_Stitch) (v:=.slice ac p1.length ae) (xs:=p1) (j:=a4) 47 81 10 S Try.underlying47 d d bK
  obtain ⟨bT,S⟩:=pLoad (r:=r_api_Stitch) (q:=aZ) (x:=a7) 0 S d
  obtain rfl:bT=.agg #[.int .u8 a7.Kind,.bool a7.Purl,iv a7.A,iv a7.B]:=S.mem.know (i:=1) (e:=fRep r_api_Stitch (bT) a7) d
  obtain ⟨b0,bU,S⟩:=pIdx (P:=Try.prog) (r:=(rL (rI .i64))) (v:=.slice af ap.length ag) (xs:=ap) (j:=w64 (a8 + 1)) 98 101 14 S Try.underlying98 d d di
  obtain ⟨dk,S⟩:=pLoad (r:=(rL (rI .i64))) (q:=b0) (x:=br) 0 S d
  obtain ⟨aI,aJ,_,rfl,_⟩:=S.mem.know (i:=1) (e:=fRep (rL (rI .i64)) (dk) br) d
  obtain ⟨b1,bV,S⟩:=pIdx (P:=Try.prog) (r:=(rI .i64)) (v:=.slice aI br.length aJ) (xs:=br) (j:=w64 (a4 + 1)) 101 3 1 S Try.underlying101 d d dj
  obtain ⟨bW,S⟩:=pLoad (r:=(rI .i64)) (q:=b1) (x:=aH) 0 S d
  obtain rfl:bW=iv aH:=S.mem.know (i:=1) (e:=fRep (rI .i64) (bW) aH) d
  refine sDraw (nf:=[]) (W:=[(0,58,iv a8),(1,59,.slice aj p0.length ak),(2,60,iv (p0.length:Int)),(3,61,.bool (decide (a8 < (p0.length:Int)))),(4,62,.bool (decide (a8 < (p0.length:Int)))),(5,63,iv a4),(6,64,.slice ac p1.length ae),(7,65,iv (p1.length:Int)),(8,66,.bool (decide (a4 < (p1.length:Int)))),(9,67,.bool (decide (a4 < (p1.length:Int)))),(10,68,.bool (decide (a4 < (p1.length:Int)))),(11,69,.slice aj p0.length ak),(12,70,iv a8),(13,71,aX),(14,72,.agg #[.int .u8 a6.Kind,.bool a6.Purl,iv a6.A,iv a6.B]),(15,73,.slice ac p1.length ae),(16,74,iv a4),(17,75,aZ),(18,76,.agg #[.int .u8 a7.Kind,.bool a7.Purl,iv a7.A,iv a7.B]),(19,77,.bool ((a6.Kind == a7.Kind) && ((a6.Purl == a7.Purl) && ((a6.A == a7.A) && ((a6.B == a7.B) && true))))),(20,78,.bool ((a6.Kind == a7.Kind) && ((a6.Purl == a7.Purl) && ((a6.A == a7.A) && ((a6.B == a7.B) && true))))),(21,79,.bool ((a6.Kind == a7.Kind) && ((a6.Purl == a7.Purl) && ((a6.A == a7.A) && ((a6.B == a7.B) && true))))),(22,80,iv au),(23,81,.slice af ap.length ag),(24,82,iv a8),(25,83,iv (w64 (a8 + 1))),(26,84,b0),(27,85,.slice aI br.length aJ),(28,86,iv a4),(29,87,iv (w64 (a4 + 1))),(30,88,b1),(31,89,iv aH),(32,90,.bool (au == aH)),(33,91,.bool (au == aH)),(34,57,.bool (au == aH))]) d S ?_
  refine node_by (A:=anc_compare_Edits_0) 35 (by kernel_rfl) (by kernel_rfl) (by kernel_rfl) (by kernel_rfl) (by kernel_rfl) [0,1,2,3,4,5,6,7,8,9,10,11,12,13,14,15,16,17,18,19,20,21,22,23,24,25,26,27,28,29,30,31,32,33,34] (by kernel_rfl) (by decide) (by decide) (fF ?_ (fF ?_ (fF ?_ (fF ?_ (fF ?_ (fF ?_ (fF ?_ (fF ?_ (fF ?_ (fF ?_ (fF ?_ (fF ?_ (fF ?_ (fF ?_ (fF ?_ (fF ?_ (fF ?_ (fF ?_ (fF ?_ (fF ?_ (fF ?_ (fF ?_ (fF ?_ (fF ?_ (fF ?_ (fF ?_ (fF ?_ (fF ?_ (fF ?_ (fF ?_ (fF ?_ (fF ?_ (fF ?_ (fF ?_ (fF ?_ (trivial)))))))))))))))))))))))))))))))))))) [(0,.slice aj p0.length ak),(1,.slice ac p1.length ae),(10,.slice af ap.length ag),(11,.slice am aw.length ao),(12,iv a8),(13,iv a4),(14,iv au),(57,.bool (au == aH)),(63,iv a4),(64,.slice ac p1.length ae),(65,iv (p1.length:Int)),(66,.bool (decide (a4 < (p1.length:Int)))),(69,.slice aj p0.length ak),(70,iv a8),(71,aX),(72,.agg #[.int .u8 a6.Kind,.bool a6.Purl,iv a6.A,iv a6.B]),(73,.slice ac p1.length ae),(74,iv a4),(75,aZ),(76,.agg #[.int .u8 a7.Kind,.bool a7.Purl,iv a7.A,iv a7.B]),(77,.bool ((a6.Kind == a7.Kind) && ((a6.Purl == a7.Purl) && ((a6.A == a7.A) && ((a6.B == a7.B) && true))))),(80,iv au),(81,.slice af ap.length ag),(82,iv a8),(83,iv (w64 (a8 + 1))),(84,b0),(85,.slice aI br.length aJ),(86,iv a4),(87,iv (w64 (a4 + 1))),(88,b1),(89,iv aH),(90,.bool (au == aH))] (fin_of [none,none,none,none,none,none,none,some 34,some 5,some 6,some 7,some 8,some 11,some 12,some 13,some 14,some 15,some 16,some 17,some 18,some 19,some 22,some 23,some 24,some 25,some 26,some 27,some 28,some 29,some 30,some 31,some 32] d (by kernel_rfl) (by kernel_rfl)) (fun _ a w S=>?_)
  ·exact fM 0 none d d d d (.inl d) d d d
  ·exact fM 1 none d d d d (.inl d) d d d
  ·refine fJ [(59,_)] 2 [some 1] fun G a w S=>?_
   exact sLen S (wN d) d Try.underlying47 d d (lb d) fun a S=>leafL ⟨d,S⟩
  ·refine fJ [(58,_),(60,_)] 3 [some 0,some 2] fun G a w S=>?_
   exact sBin _ S (wN d) d d d (bLt _ _ _ _ .i64 a8 (p0.length:Int)) d (lb d) fun a S=>leafL ⟨d,S⟩
  ·exact fM 4 (some 3) d d d d (.inl d) d d d
  ·refine fJ [(13,_),(62,_)] 5 [none,some 4] fun G a w S=>?_
   exact sMove (iv a4) S (wG 4 true 62 d d d ar) (.inl d) d d (lb d) fun a S=>leafL ⟨d,S⟩
  ·refine fJ [(1,_),(62,_)] 6 [none,some 4] fun G a w S=>?_
   exact sMove (.slice ac p1.length ae) S (wG 4 true 62 d d d ar) (.inl d) d d (lb d) fun a S=>leafL ⟨d,S⟩
  ·refine fJ [(64,_),(62,_)] 7 [some 6,some 4] fun G a w S=>?_
   exact sLen S (wG 4 true 62 d d d ar) d Try.underlying47 d d (lb d) fun a S=>leafL ⟨d,S⟩
  ·refine fJ [(63,_),(65,_),(62,_)] 8 [some 5,some 7,some 4] fun G a w S=>?_
   exact sBin _ S (wG 4 true 62 d d d ar) d d d (bLt _ _ _ _ .i64 a4 (p1.length:Int)) d (lb d) fun a S=>leafL ⟨d,S⟩
  ·refine fJ [(62,_),(66,_)] 9 [some 4,some 8] fun G a w S=>?_
   exact sPickT (.bool (decide (a4 < (p1.length:Int)))) S (wN d) d d ar d d (lb d) fun a S=>leafL ⟨d,S⟩
  ·exact fM 10 (some 9) d d d d (.inl d) d d d
  ·refine fJ [(0,_),(68,_)] 11 [none,some 10] fun G a w S=>?_
   exact sMove (.slice aj p0.length ak) S (wG 10 true 68 d d d ai) (.inl d) d d (lb d) fun a S=>leafL ⟨d,S⟩
  ·refine fJ [(12,_),(68,_)] 12 [none,some 10] fun G a w S=>?_
   exact sMove (iv a8) S (wG 10 true 68 d d d ai) (.inl d) d d (lb d) fun a S=>leafL ⟨d,S⟩
  ·refine fJ [(69,_),(70,_),(68,_)] 13 [some 11,some 12,some 10] fun G a w S=>?_
   exact sIdxV S (wG 10 true 68 d d d ai) d d d bP d (lb d) fun a S=>leafL ⟨d,S⟩
  ·refine fJ [(71,_),(68,_)] 14 [some 13,some 10] fun G a w S=>?_
   exact sLoadVN (vq:=aX) 9 [.int .u8 a6.Kind,.bool a6.Purl,iv a6.A,iv a6.B] S (wG 10 true 68 d d d ai) d d d d d d (lb d) fun a S=>leafL ⟨d,S⟩
  ·refine fJ [(1,_),(68,_)] 15 [none,some 10] fun G a w S=>?_
   exact sMove (.slice ac p1.length ae) S (wG 10 true 68 d d d ai) (.inl d) d d (lb d) fun a S=>leafL ⟨d,S⟩
  ·refine fJ [(13,_),(68,_)] 16 [none,some 10] fun G a w S=>?_
   exact sMove (iv a4) S (wG 10 true 68 d d d ai) (.inl d) d d (lb d) fun a S=>leafL ⟨d,S⟩
  ·refine fJ [(73,_),(74,_),(68,_)] 17 [some 15,some 16,some 10] fun G a w S=>?_
   exact sIdxV S (wG 10 true 68 d d d ai) d d d bR d (lb d) fun a S=>leafL ⟨d,S⟩
  ·refine fJ [(75,_),(68,_)] 18 [some 17,some 10] fun G a w S=>?_
   exact sLoadVN (vq:=aZ) 6 [.int .u8 a7.Kind,.bool a7.Purl,iv a7.A,iv a7.B] S (wG 10 true 68 d d d ai) d d d d d d (lb d) fun a S=>leafL ⟨d,S⟩
  ·refine fJ [(72,_),(76,_),(68,_)] 19 [some 14,some 18,some 10] fun G a w S=>?_
   exact sBin _ S (wG 10 true 68 d d d ai) d d d (bEqV _ _ _ _ #[.int .u8 a6.Kind,.bool a6.Purl,iv a6.A,iv a6.B] #[.int .u8 a7.Kind,.bool a7.Purl,iv a7.A,iv a7.B] ((a6.Kind == a7.Kind) && ((a6.Purl == a7.Purl) && ((a6.A == a7.A) && ((a6.B == a7.B) && true)))) (by kernel_rfl) (eqlV_of (by kernel_rfl))) d (lb d) fun a S=>leafL ⟨d,S⟩
  ·refine fJ [(68,_),(77,_)] 20 [some 10,some 19] fun G a w S=>?_
   exact sPickT (.bool ((a6.Kind == a7.Kind) && ((a6.Purl == a7.Purl) && ((a6.A == a7.A) && ((a6.B == a7.B) && true))))) S (wN d) d d ai d d (lb d) fun a S=>leafL ⟨d,S⟩
  ·exact fM 21 (some 20) d d d d (.inl d) d d d
  ·refine fJ [(14,_),(79,_)] 22 [none,some 21] fun G a w S=>?_
   exact sMove (iv au) S (wG 21 true 79 d d d al) (.inl d) d d (lb d) fun a S=>leafL ⟨d,S⟩
  ·refine fJ [(10,_),(79,_)] 23 [none,some 21] fun G a w S=>?_
   exact sMove (.slice af ap.length ag) S (wG 21 true 79 d d d al) (.inl d) d d (lb d) fun a S=>leafL ⟨d,S⟩
  ·refine fJ [(12,_),(79,_)] 24 [none,some 21] fun G a w S=>?_
   exact sMove (iv a8) S (wG 21 true 79 d d d al) (.inl d) d d (lb d) fun a S=>leafL ⟨d,S⟩
  ·refine fJ [(82,_),(79,_)] 25 [some 24,some 21] fun G a w S=>?_
   exact sBin _ S (wG 21 true 79 d d d al) d d d (bAdd _ _ _ _ a8 1) d (lb d) fun a S=>leafL ⟨d,S⟩
  ·refine fJ [(81,_),(83,_),(79,_)] 26 [some 23,some 25,some 21] fun G a w S=>?_
   exact sIdxV S (wG 21 true 79 d d d al) d d d bU d (lb d) fun a S=>leafL ⟨d,S⟩
  ·refine fJ [(84,_),(79,_)] 27 [some 26,some 21] fun G a w S=>?_
   exact sLoadV1 (vq:=b0) 3 (.slice aI br.length aJ) S (wG 21 true 79 d d d al) d d d d d (lb d) fun a S=>leafL ⟨d,S⟩
  ·refine fJ [(13,_),(79,_)] 28 [none,some 21] fun G a w S=>?_
   exact sMove (iv a4) S (wG 21 true 79 d d d al) (.inl d) d d (lb d) fun a S=>leafL ⟨d,S⟩
  ·refine fJ [(86,_),(79,_)] 29 [some 28,some 21] fun G a w S=>?_
   exact sBin _ S (wG 21 true 79 d d d al) d d d (bAdd _ _ _ _ a4 1) d (lb d) fun a S=>leafL ⟨d,S⟩
  ·refine fJ [(85,_),(87,_),(79,_)] 30 [some 27,some 29,some 21] fun G a w S=>?_
   exact sIdxV S (wG 21 true 79 d d d al) d d d bV d (lb d) fun a S=>leafL ⟨d,S⟩
  ·refine fJ [(88,_),(79,_)] 31 [some 30,some 21] fun G a w S=>?_
   exact sLoadV1 (vq:=b1) 0 (iv aH) S (wG 21 true 79 d d d al) d d d d d (lb d) fun a S=>leafL ⟨d,S⟩
  ·refine fJ [(80,_),(89,_),(79,_)] 32 [some 22,some 31,some 21] fun G a w S=>?_
   exact sBin _ S (wG 21 true 79 d d d al) d d d (bEq _ _ _ _ .i64 au aH) d (lb d) fun a S=>leafL ⟨d,S⟩
  ·refine fJ [(79,_),(90,_)] 33 [some 21,some 32] fun G a w S=>?_
   exact sPickT (.bool (au == aH)) S (wN d) d d al d d (lb d) fun a S=>leafL ⟨d,S⟩
  ·exact fM 34 (some 33) d d d d (.inr d) d d d
  exact leafT (⟨au == aH,Option.some.inj h,S.fix [0] [18,19,20] (by decide) d d d⟩)
 obtain ⟨dh,rfl,S⟩:=hI
 have h:=dO
 try dsimp only at h
 rcases iS h with ⟨aR,h⟩ | ⟨aR,h⟩
 ·refine sCondT S d aR (sSeq (fun dP bX=>sRegion (sM S fun a S=>?_)))
  refine sBuild [(0,.int .u8 1)] [.int .u8 1,.int .u8 0,.bool false,iv 0,iv 0] S (wN d) d d d d (lb d) fun a S=>?_
  have S:=S.learn (fRep r_api_CellStep (.agg #[.int .u8 1,.int .u8 0,.bool false,iv 0,iv 0]) (api_CellStep.mk 1 (api_Stitch.mk 0 false 0 0))) d
  refine sLit (r:=r_api_CellStep) (T:=83) (xs:=[(api_CellStep.mk 1 (api_Stitch.mk 0 false 0 0))]) [(0,.agg #[.int .u8 1,.int .u8 0,.bool false,iv 0,iv 0])] 1 [.agg #[.int .u8 1,.int .u8 0,.bool false,iv 0,iv 0]] [.int .u8 1,.int .u8 0,.bool false,iv 0,iv 0] (.agg #[.int .u8 0,.int .u8 0,.bool false,iv 0,iv 0]) 32 S (wN d) d d Try.underlying48 d (by decide) (by decide) (by kernel_rfl) d (fun E1 w1 hE=>All.cons (r_api_CellStep.mono hE (S.mem.know (i:=0) (e:=fRep r_api_CellStep (.agg #[.int .u8 1,.int .u8 0,.bool false,iv 0,iv 0]) (api_CellStep.mk 1 (api_Stitch.mk 0 false 0 0))) d)) (All.nil _ _ _)) d d (lb d) fun a w bY bZ S=>?_
  obtain ⟨dl,c1,h⟩:=bS h
  refine sApp (r:=r_api_CellStep) (T:=83) (xs:=aw) (ys:=[(api_CellStep.mk 1 (api_Stitch.mk 0 false 0 0))]) (v:=.slice am aw.length ao) (u:=.slice bY [(api_CellStep.mk 1 (api_Stitch.mk 0 false 0 0))].length bZ) 1 (.agg #[.int .u8 0,.int .u8 0,.bool false,iv 0,iv 0]) 32 S (wN d) d Try.underlying48 d d (by decide) d d d (src_R (T:=83) 0 S.mem d) c1 d (lb d) fun a w c2 c3 S=>sN S fun a S=>?_
  refine lT (bX _ _ (sSeq (fun dQ c4=>sRegion (sM S fun a S=>?_))))
  refine sBin _ S (wN d) d d d (bAdd _ _ _ _ a8 1) d (lb d) fun a S=>sN S fun a S=>?_
  refine lT (c4 _ _ (sRegion (sM S fun a S=>?_)))
  refine sBin _ S (wN d) d d d (bAdd _ _ _ _ a4 1) d (lb d) fun a S=>sN S fun a S=>?_
  exact leafL (leafB (leafB (leafT (⟨(dl,w64 (a8 + 1),w64 (a4 + 1)),(Option.some.inj h).symm,⟨c2,c3,S.fix [0] [1,2,3] (by decide) d d d⟩⟩))))
 refine sCondF S d aR ?_
 obtain ⟨dm,h,dn⟩:=bS h
 refine sCut (fun a w=>∃ bt,bt=dm∧St [] E [] w0 178 a w [(0,.slice aj p0.length ak),(1,.slice ac p1.length ae),(10,.slice af ap.length ag),(11,.slice am aw.length ao),(12,iv a8),(13,iv a4),(14,iv au),(100,.bool bt)] [eRow r_api_CellStep 83 (.slice am aw.length ao) aw] [fRep (rL r_api_Stitch) (.slice aj p0.length ak) p0,fRep (rL r_api_Stitch) (.slice ac p1.length ae) p1,fRep (rL (rL (rI .i64))) (.slice af ap.length ag) ap]) ?_ (fun a w hI=>?_)
 rotate_left
 ·obtain ⟨bt,rfl,S⟩:=hI
  have h:=dn
  try dsimp only at h
  rcases iS h with ⟨aS,h⟩ | ⟨aS,h⟩
  ·refine sCondT S d aS (sSeq (fun dR c5=>sRegion (sM S fun a S=>?_)))
   refine sM S fun a S=>?_
   refine sM S fun a S=>?_
   obtain ⟨a9,c6,h⟩:=bS h
   obtain ⟨c7,c8,S⟩:=pIdx (P:=Try.prog) (r:=r_api_Stitch) (v:=.slice ac p1.length ae) (xs:=p1) (j:=a4) 47 81 1 S Try.underlying47 d d c6
   refine sIdxV S (wN d) d d d c8 d (lb d) fun a S=>?_
   obtain ⟨c9,S⟩:=pLoad (r:=r_api_Stitch) (q:=c7) (x:=a9) 0 S d
   obtain rfl:c9=.agg #[.int .u8 a9.Kind,.bool a9.Purl,iv a9.A,iv a9.B]:=S.mem.know (i:=1) (e:=fRep r_api_Stitch (c9) a9) d
   refine sLoadVN (vq:=c7) 0 [.int .u8 a9.Kind,.bool a9.Purl,iv a9.A,iv a9.B] S (wN d) d d d d d d (lb d) fun a S=>sBuild [(0,.int .u8 2),(1,.agg #[.int .u8 a9.Kind,.bool a9.Purl,iv a9.A,iv a9.B])] [.int .u8 2,.int .u8 a9.Kind,.bool a9.Purl,iv a9.A,iv a9.B] S (wN d) d d d d (lb d) fun a S=>?_
   have S:=S.learn (fRep r_api_CellStep (.agg #[.int .u8 2,.int .u8 a9.Kind,.bool a9.Purl,iv a9.A,iv a9.B]) (api_CellStep.mk 2 a9)) d
   refine sLit (r:=r_api_CellStep) (T:=83) (xs:=[(api_CellStep.mk 2 a9)]) [(0,.agg #[.int .u8 2,.int .u8 a9.Kind,.bool a9.Purl,iv a9.A,iv a9.B])] 1 [.agg #[.int .u8 2,.int .u8 a9.Kind,.bool a9.Purl,iv a9.A,iv a9.B]] [.int .u8 2,.int .u8 a9.Kind,.bool a9.Purl,iv a9.A,iv a9.B] (.agg #[.int .u8 0,.int .u8 0,.bool false,iv 0,iv 0]) 32 S (wN d) d d Try.underlying48 d (by decide) (by decide) (by kernel_rfl) d (fun E1 w1 hE=>All.cons (r_api_CellStep.mono hE (S.mem.know (i:=0) (e:=fRep r_api_CellStep (.agg #[.int .u8 2,.int .u8 a9.Kind,.bool a9.Purl,iv a9.A,iv a9.B]) (api_CellStep.mk 2 a9)) d)) (All.nil _ _ _)) d d (lb d) fun a w ca cb S=>?_
   obtain ⟨dp,cc,h⟩:=bS h
   refine sApp (r:=r_api_CellStep) (T:=83) (xs:=aw) (ys:=[(api_CellStep.mk 2 a9)]) (v:=.slice am aw.length ao) (u:=.slice ca [(api_CellStep.mk 2 a9)].length cb) 1 (.agg #[.int .u8 0,.int .u8 0,.bool false,iv 0,iv 0]) 32 S (wN d) d Try.underlying48 d d (by decide) d d d (src_R (T:=83) 0 S.mem d) cc d (lb d) fun a w cd ce S=>sN S fun a S=>?_
   refine lT (c5 _ _ (sSeq (fun dS cf=>sRegion (sM S fun a S=>?_))))
   refine sBin _ S (wN d) d d d (bAdd _ _ _ _ a8 1) d (lb d) fun a S=>sN S fun a S=>?_
   refine lT (cf _ _ (sRegion (sM S fun a S=>?_)))
   refine sBin _ S (wN d) d d d (bAdd _ _ _ _ a4 1) d (lb d) fun a S=>sN S fun a S=>?_
   exact leafL (leafB (leafB (leafT (⟨(dp,w64 (a8 + 1),w64 (a4 + 1)),(Option.some.inj h).symm,⟨cd,ce,S.fix [0] [4,5,6] (by decide) d d d⟩⟩))))
  refine sCondF S d aS ?_
  obtain ⟨dr,h,dt⟩:=bS h
  refine sCut (fun a w=>∃ bu,bu=dr∧St [] E [] w0 178 a w [(0,.slice aj p0.length ak),(1,.slice ac p1.length ae),(10,.slice af ap.length ag),(11,.slice am aw.length ao),(12,iv a8),(13,iv a4),(148,.bool bu)] [eRow r_api_CellStep 83 (.slice am aw.length ao) aw] [fRep (rL r_api_Stitch) (.slice aj p0.length ak) p0,fRep (rL r_api_Stitch) (.slice ac p1.length ae) p1,fRep (rL (rL (rI .i64))) (.slice af ap.length ag) ap]) ?_ (fun a w hI=>?_)
  ·refine sRegion (sM S fun a S=>?_)
   refine sM S fun a S=>?_
   refine sLen S (wN d) d Try.underlying47 d d (lb d) fun a S=>sBin _ S (wN d) d d d (bLt _ _ _ _ .i64 a8 (p0.length:Int)) d (lb d) fun a S=>sM S fun a S=>?_
   rcases iS h with ⟨aq,h⟩ | ⟨aq,h⟩
   rotate_left
   ·refine sSkN 11 4 true 153 S d d aq d fun a S=>sPickF (.bool false) S (wN d) d d aq d d (lb d) fun a S=>sN S fun a S=>?_
    exact lT (⟨false,Option.some.inj h,S.fix [0] [0,1,2] (by decide) d d d⟩)
   refine sMove (iv au) S (wG 4 true 153 d d d aq) (.inl d) d d (lb d) fun a S=>sMove (.slice af ap.length ag) S (wG 4 true 153 d d d aq) (.inl d) d d (lb d) fun a S=>sMove (iv a8) S (wG 4 true 153 d d d aq) (.inl d) d d (lb d) fun a S=>sBin _ S (wG 4 true 153 d d d aq) d d d (bAdd _ _ _ _ a8 1) d (lb d) fun a S=>?_
   obtain ⟨aT,cg,h⟩:=bS h
   obtain ⟨ci,cj,S⟩:=pIdx (P:=Try.prog) (r:=(rL (rI .i64))) (v:=.slice af ap.length ag) (xs:=ap) (j:=w64 (a8 + 1)) 98 101 2 S Try.underlying98 d d cg
   refine sIdxV S (wG 4 true 153 d d d aq) d d d cj d (lb d) fun a S=>?_
   obtain ⟨du,S⟩:=pLoad (r:=(rL (rI .i64))) (q:=ci) (x:=aT) 0 S d
   obtain ⟨bi,bj,_,rfl,_⟩:=S.mem.know (i:=1) (e:=fRep (rL (rI .i64)) (du) aT) d
   refine sLoadV1 (vq:=ci) 0 (.slice bi aT.length bj) S (wG 4 true 153 d d d aq) d d d d d (lb d) fun a S=>sMove (iv a4) S (wG 4 true 153 d d d aq) (.inl d) d d (lb d) fun a S=>?_
   obtain ⟨aC,ck,h⟩:=bS h
   obtain ⟨cl,cm,S⟩:=pIdx (P:=Try.prog) (r:=(rI .i64)) (v:=.slice bi aT.length bj) (xs:=aT) (j:=a4) 101 3 1 S Try.underlying101 d d ck
   refine sIdxV S (wG 4 true 153 d d d aq) d d d cm d (lb d) fun a S=>?_
   obtain ⟨cn,S⟩:=pLoad (r:=(rI .i64)) (q:=cl) (x:=aC) 0 S d
   obtain rfl:cn=iv aC:=S.mem.know (i:=1) (e:=fRep (rI .i64) (cn) aC) d
   refine sLoadV1 (vq:=cl) 0 (iv aC) S (wG 4 true 153 d d d aq) d d d d d (lb d) fun a S=>sBin _ S (wG 4 true 153 d d d aq) d d d (bAdd _ _ _ _ 1 aC) d (lb d) fun a S=>sBin _ S (wG 4 true 153 d d d aq) d d d (bEq _ _ _ _ .i64 au (w64 (1 + aC))) d (lb d) fun a S=>sPickT (.bool (au == (w64 (1 + aC)))) S (wN d) d d aq d d (lb d) fun a S=>sN S fun a S=>?_
   exact lT (⟨au == (w64 (1 + aC)),Option.some.inj h,S.fix [0] [6,7,8] (by decide) d d d⟩)
  obtain ⟨bu,rfl,S⟩:=hI
  have h:=dt
  try dsimp only at h
  rcases iS h with ⟨aU,h⟩ | ⟨aU,h⟩
  ·refine sCondT S d aU (sSeq (fun dT co=>sRegion (sM S fun a S=>?_)))
   refine sBuild [(0,.int .u8 4)] [.int .u8 4,.int .u8 0,.bool false,iv 0,iv 0] S (wN d) d d d d (lb d) fun a S=>?_
   have S:=S.learn (fRep r_api_CellStep (.agg #[.int .u8 4,.int .u8 0,.bool false,iv 0,iv 0]) (api_CellStep.mk 4 (api_Stitch.mk 0 false 0 0))) d
   refine sLit (r:=r_api_CellStep) (T:=83) (xs:=[(api_CellStep.mk 4 (api_Stitch.mk 0 false 0 0))]) [(0,.agg #[.int .u8 4,.int .u8 0,.bool false,iv 0,iv 0])] 1 [.agg #[.int .u8 4,.int .u8 0,.bool false,iv 0,iv 0]] [.int .u8 4,.int .u8 0,.bool false,iv 0,iv 0] (.agg #[.int .u8 0,.int .u8 0,.bool false,iv 0,iv 0]) 32 S (wN d) d d Try.underlying48 d (by decide) (by decide) (by kernel_rfl) d (fun E1 w1 hE=>All.cons (r_api_CellStep.mono hE (S.mem.know (i:=0) (e:=fRep r_api_CellStep (.agg #[.int .u8 4,.int .u8 0,.bool false,iv 0,iv 0]) (api_CellStep.mk 4 (api_Stitch.mk 0 false 0 0))) d)) (All.nil _ _ _)) d d (lb d) fun a w cp cq S=>?_
   obtain ⟨dv,cr,h⟩:=bS h
   refine sApp (r:=r_api_CellStep) (T:=83) (xs:=aw) (ys:=[(api_CellStep.mk 4 (api_Stitch.mk 0 false 0 0))]) (v:=.slice am aw.length ao) (u:=.slice cp [(api_CellStep.mk 4 (api_Stitch.mk 0 false 0 0))].length cq) 1 (.agg #[.int .u8 0,.int .u8 0,.bool false,iv 0,iv 0]) 32 S (wN d) d Try.underlying48 d d (by decide) d d d (src_R (T:=83) 0 S.mem d) cr d (lb d) fun a w ct cu S=>sN S fun a S=>?_
   refine lT (co _ _ (sRegion (sM S fun a S=>?_)))
   refine sBin _ S (wN d) d d d (bAdd _ _ _ _ a8 1) d (lb d) fun a S=>sN S fun a S=>?_
   exact leafL (leafB (leafB (leafT (⟨(dv,w64 (a8 + 1),a4),(Option.some.inj h).symm,⟨ct,cu,S.fix [0] [1,2,3] (by decide) d d d⟩⟩))))
  refine sCondF S d aU (sSeq (fun dU cv=>sRegion (sM S fun a S=>?_)))
  refine sM S fun a S=>?_
  refine sM S fun a S=>?_
  obtain ⟨aa,cw,h⟩:=bS h
  obtain ⟨cx,cy,S⟩:=pIdx (P:=Try.prog) (r:=r_api_Stitch) (v:=.slice ac p1.length ae) (xs:=p1) (j:=a4) 47 81 1 S Try.underlying47 d d cw
  refine sIdxV S (wN d) d d d cy d (lb d) fun a S=>?_
  obtain ⟨cz,S⟩:=pLoad (r:=r_api_Stitch) (q:=cx) (x:=aa) 0 S d
  obtain rfl:cz=.agg #[.int .u8 aa.Kind,.bool aa.Purl,iv aa.A,iv aa.B]:=S.mem.know (i:=1) (e:=fRep r_api_Stitch (cz) aa) d
  refine sLoadVN (vq:=cx) 0 [.int .u8 aa.Kind,.bool aa.Purl,iv aa.A,iv aa.B] S (wN d) d d d d d d (lb d) fun a S=>sBuild [(0,.int .u8 3),(1,.agg #[.int .u8 aa.Kind,.bool aa.Purl,iv aa.A,iv aa.B])] [.int .u8 3,.int .u8 aa.Kind,.bool aa.Purl,iv aa.A,iv aa.B] S (wN d) d d d d (lb d) fun a S=>?_
  have S:=S.learn (fRep r_api_CellStep (.agg #[.int .u8 3,.int .u8 aa.Kind,.bool aa.Purl,iv aa.A,iv aa.B]) (api_CellStep.mk 3 aa)) d
  refine sLit (r:=r_api_CellStep) (T:=83) (xs:=[(api_CellStep.mk 3 aa)]) [(0,.agg #[.int .u8 3,.int .u8 aa.Kind,.bool aa.Purl,iv aa.A,iv aa.B])] 1 [.agg #[.int .u8 3,.int .u8 aa.Kind,.bool aa.Purl,iv aa.A,iv aa.B]] [.int .u8 3,.int .u8 aa.Kind,.bool aa.Purl,iv aa.A,iv aa.B] (.agg #[.int .u8 0,.int .u8 0,.bool false,iv 0,iv 0]) 32 S (wN d) d d Try.underlying48 d (by decide) (by decide) (by kernel_rfl) d (fun E1 w1 hE=>All.cons (r_api_CellStep.mono hE (S.mem.know (i:=0) (e:=fRep r_api_CellStep (.agg #[.int .u8 3,.int .u8 aa.Kind,.bool aa.Purl,iv aa.A,iv aa.B]) (api_CellStep.mk 3 aa)) d)) (All.nil _ _ _)) d d (lb d) fun a w cA cB S=>?_
  obtain ⟨dw,cC,h⟩:=bS h
  refine sApp (r:=r_api_CellStep) (T:=83) (xs:=aw) (ys:=[(api_CellStep.mk 3 aa)]) (v:=.slice am aw.length ao) (u:=.slice cA [(api_CellStep.mk 3 aa)].length cB) 1 (.agg #[.int .u8 0,.int .u8 0,.bool false,iv 0,iv 0]) 32 S (wN d) d Try.underlying48 d d (by decide) d d d (src_R (T:=83) 0 S.mem d) cC d (lb d) fun a w cD cE S=>sN S fun a S=>?_
  refine lT (cv _ _ (sRegion (sM S fun a S=>?_)))
  refine sBin _ S (wN d) d d d (bAdd _ _ _ _ a4 1) d (lb d) fun a S=>sN S fun a S=>?_
  exact leafL (leafB (leafB (leafT (⟨(dw,a8,w64 (a4 + 1)),(Option.some.inj h).symm,⟨cD,cE,S.fix [0] [4,5,6] (by decide) d d d⟩⟩))))
 rcases iS h with ⟨ah,h⟩ | ⟨ah,h⟩
 rotate_left
 ·refine sDraw (nf:=[]) (W:=[(0,101,iv a8),(1,102,.slice aj p0.length ak),(2,103,iv (p0.length:Int)),(3,104,.bool (decide (a8 < (p0.length:Int)))),(4,105,.bool (decide (a8 < (p0.length:Int)))),(5,106,undef),(6,107,undef),(7,108,undef),(8,109,undef),(9,110,.bool false),(10,111,.bool false),(11,112,undef),(12,113,undef),(13,114,undef),(14,115,undef),(15,116,undef),(16,117,undef),(17,118,undef),(18,119,undef),(19,120,undef),(20,121,.bool false),(21,122,.bool false),(22,123,undef),(23,124,undef),(24,125,undef),(25,126,undef),(26,127,undef),(27,128,undef),(28,129,undef),(29,130,undef),(30,131,undef),(31,132,undef),(32,133,undef),(33,134,undef),(34,135,.bool false),(35,100,.bool false)]) d S ?_
  refine node_by (A:=anc_compare_Edits_1) 36 (by kernel_rfl) (by kernel_rfl) (by kernel_rfl) (by kernel_rfl) (by kernel_rfl) [0,1,2,3,4,5,6,7,8,9,10,11,12,13,14,15,16,17,18,19,20,21,22,23,24,25,26,27,28,29,30,31,32,33,34,35] (by kernel_rfl) (by decide) (by decide) (fF ?_ (fF ?_ (fF ?_ (fF ?_ (fF ?_ (fF ?_ (fF ?_ (fF ?_ (fF ?_ (fF ?_ (fF ?_ (fF ?_ (fF ?_ (fF ?_ (fF ?_ (fF ?_ (fF ?_ (fF ?_ (fF ?_ (fF ?_ (fF ?_ (fF ?_ (fF ?_ (fF ?_ (fF ?_ (fF ?_ (fF ?_ (fF ?_ (fF ?_ (fF ?_ (fF ?_ (fF ?_ (fF ?_ (fF ?_ (fF ?_ (fF ?_ (trivial))))))))))))))))))))))))))))))))))))) [(0,.slice aj p0.length ak),(1,.slice ac p1.length ae),(10,.slice af ap.length ag),(11,.slice am aw.length ao),(12,iv a8),(13,iv a4),(14,iv au),(100,.bool false),(106,undef),(107,undef),(108,undef),(109,undef),(112,undef),(113,undef),(114,undef),(115,undef),(116,undef),(117,undef),(118,undef),(119,undef),(120,undef),(123,undef),(124,undef),(125,undef),(126,undef),(127,undef),(128,undef),(129,undef),(130,undef),(131,undef),(132,undef),(133,undef),(134,undef)] (fin_of [none,none,none,none,none,none,none,some 35,some 5,some 6,some 7,some 8,some 11,some 12,some 13,some 14,some 15,some 16,some 17,some 18,some 19,some 22,some 23,some 24,some 25,some 26,some 27,some 28,some 29,some 30,some 31,some 32,some 33] d (by kernel_rfl) (by kernel_rfl)) (fun _ a w S=>?_)
  ·exact fM 0 none d d d d (.inl d) d d d
  ·exact fM 1 none d d d d (.inl d) d d d
  ·refine fJ [(102,_)] 2 [some 1] fun G a w S=>?_
   exact sLen S (wN d) d Try.underlying47 d d (lb d) fun a S=>leafL ⟨d,S⟩
  ·refine fJ [(101,_),(103,_)] 3 [some 0,some 2] fun G a w S=>?_
   exact sBin _ S (wN d) d d d (bLt _ _ _ _ .i64 a8 (p0.length:Int)) d (lb d) fun a S=>leafL ⟨d,S⟩
  ·exact fM 4 (some 3) d d d d (.inl d) d d d
  ·refine fJ [(13,_),(105,_)] 5 [none,some 4] fun G a w S=>?_
   exact sSk S d d d ah d d fun a S=>leafL ⟨d,S⟩
  ·refine fJ [(1,_),(105,_)] 6 [none,some 4] fun G a w S=>?_
   exact sSk S d d d ah d d fun a S=>leafL ⟨d,S⟩
  ·refine fJ [(107,_),(105,_)] 7 [some 6,some 4] fun G a w S=>?_
   exact sSk S d d d ah d d fun a S=>leafL ⟨d,S⟩
  ·refine fJ [(106,_),(108,_),(105,_)] 8 [some 5,some 7,some 4] fun G a w S=>?_
   exact sSk S d d d ah d d fun a S=>leafL ⟨d,S⟩
  ·refine fJ [(105,_),(109,_)] 9 [some 4,some 8] fun G a w S=>?_
   exact sPickF (.bool false) S (wN d) d d ah d d (lb d) fun a S=>leafL ⟨d,S⟩
  ·exact fM 10 (some 9) d d d d (.inl d) d d d
  ·refine fJ [(0,_),(111,_)] 11 [none,some 10] fun G a w S=>?_
   exact sSk S d d d d d d fun a S=>leafL ⟨d,S⟩
  ·refine fJ [(12,_),(111,_)] 12 [none,some 10] fun G a w S=>?_
   exact sSk S d d d d d d fun a S=>leafL ⟨d,S⟩
  ·refine fJ [(112,_),(113,_),(111,_)] 13 [some 11,some 12,some 10] fun G a w S=>?_
   exact sSk S d d d d d d fun a S=>leafL ⟨d,S⟩
  ·refine fJ [(114,_),(111,_)] 14 [some 13,some 10] fun G a w S=>?_
   exact sSk S d d d d d d fun a S=>leafL ⟨d,S⟩
  ·refine fJ [(1,_),(111,_)] 15 [none,some 10] fun G a w S=>?_
   exact sSk S d d d d d d fun a S=>leafL ⟨d,S⟩
  ·refine fJ [(13,_),(111,_)] 16 [none,some 10] fun G a w S=>?_
   exact sSk S d d d d d d fun a S=>leafL ⟨d,S⟩
  ·refine fJ [(116,_),(117,_),(111,_)] 17 [some 15,some 16,some 10] fun G a w S=>?_
   exact sSk S d d d d d d fun a S=>leafL ⟨d,S⟩
  ·refine fJ [(118,_),(111,_)] 18 [some 17,some 10] fun G a w S=>?_
   exact sSk S d d d d d d fun a S=>leafL ⟨d,S⟩
  ·refine fJ [(115,_),(119,_),(111,_)] 19 [some 14,some 18,some 10] fun G a w S=>?_
   exact sSk S d d d d d d fun a S=>leafL ⟨d,S⟩
  ·refine fJ [(111,_),(120,_)] 20 [some 10,some 19] fun G a w S=>?_
   exact sPickF (.bool false) S (wN d) d d d d d (lb d) fun a S=>leafL ⟨d,S⟩
  ·exact fM 21 (some 20) d d d d (.inl d) d d d
  ·refine fJ [(14,_),(122,_)] 22 [none,some 21] fun G a w S=>?_
   exact sSk S d d d d d d fun a S=>leafL ⟨d,S⟩
  ·refine fJ [(10,_),(122,_)] 23 [none,some 21] fun G a w S=>?_
   exact sSk S d d d d d d fun a S=>leafL ⟨d,S⟩
  ·refine fJ [(12,_),(122,_)] 24 [none,some 21] fun G a w S=>?_
   exact sSk S d d d d d d fun a S=>leafL ⟨d,S⟩
  ·refine fJ [(125,_),(122,_)] 25 [some 24,some 21] fun G a w S=>?_
   exact sSk S d d d d d d fun a S=>leafL ⟨d,S⟩
  ·refine fJ [(124,_),(126,_),(122,_)] 26 [some 23,some 25,some 21] fun G a w S=>?_
   exact sSk S d d d d d d fun a S=>leafL ⟨d,S⟩
  ·refine fJ [(127,_),(122,_)] 27 [some 26,some 21] fun G a w S=>?_
   exact sSk S d d d d d d fun a S=>leafL ⟨d,S⟩
  ·refine fJ [(13,_),(122,_)] 28 [none,some 21] fun G a w S=>?_
   exact sSk S d d d d d d fun a S=>leafL ⟨d,S⟩
  ·refine fJ [(129,_),(122,_)] 29 [some 28,some 21] fun G a w S=>?_
   exact sSk S d d d d d d fun a S=>leafL ⟨d,S⟩
  ·refine fJ [(128,_),(130,_),(122,_)] 30 [some 27,some 29,some 21] fun G a w S=>?_
   exact sSk S d d d d d d fun a S=>leafL ⟨d,S⟩
  ·refine fJ [(131,_),(122,_)] 31 [some 30,some 21] fun G a w S=>?_
   exact sSk S d d d d d d fun a S=>leafL ⟨d,S⟩
  ·refine fJ [(132,_),(122,_)] 32 [some 31,some 21] fun G a w S=>?_
   exact sSk S d d d d d d fun a S=>leafL ⟨d,S⟩
  ·refine fJ [(123,_),(133,_),(122,_)] 33 [some 22,some 32,some 21] fun G a w S=>?_
   exact sSk S d d d d d d fun a S=>leafL ⟨d,S⟩
  ·refine fJ [(122,_),(134,_)] 34 [some 21,some 33] fun G a w S=>?_
   exact sPickF (.bool false) S (wN d) d d d d d (lb d) fun a S=>leafL ⟨d,S⟩
  ·exact fM 35 (some 34) d d d d (.inr d) d d d
  exact leafT (⟨false,Option.some.inj h,S.fix [0] [0,1,2] (by decide) d d d⟩)
 rcases iS h with ⟨a5,h⟩ | ⟨a5,h⟩
 rotate_left
 ·refine sDraw (nf:=[]) (W:=[(0,101,iv a8),(1,102,.slice aj p0.length ak),(2,103,iv (p0.length:Int)),(3,104,.bool (decide (a8 < (p0.length:Int)))),(4,105,.bool (decide (a8 < (p0.length:Int)))),(5,106,iv a4),(6,107,.slice ac p1.length ae),(7,108,iv (p1.length:Int)),(8,109,.bool (decide (a4 < (p1.length:Int)))),(9,110,.bool (decide (a4 < (p1.length:Int)))),(10,111,.bool (decide (a4 < (p1.length:Int)))),(11,112,undef),(12,113,undef),(13,114,undef),(14,115,undef),(15,116,undef),(16,117,undef),(17,118,undef),(18,119,undef),(19,120,undef),(20,121,.bool false),(21,122,.bool false),(22,123,undef),(23,124,undef),(24,125,undef),(25,126,undef),(26,127,undef),(27,128,undef),(28,129,undef),(29,130,undef),(30,131,undef),(31,132,undef),(32,133,undef),(33,134,undef),(34,135,.bool false),(35,100,.bool false)]) d S ?_
  refine node_by (A:=anc_compare_Edits_1) 36 (by kernel_rfl) (by kernel_rfl) (by kernel_rfl) (by kernel_rfl) (by kernel_rfl) [0,1,2,3,4,5,6,7,8,9,10,11,12,13,14,15,16,17,18,19,20,21,22,23,24,25,26,27,28,29,30,31,32,33,34,35] (by kernel_rfl) (by decide) (by decide) (fF ?_ (fF ?_ (fF ?_ (fF ?_ (fF ?_ (fF ?_ (fF ?_ (fF ?_ (fF ?_ (fF ?_ (fF ?_ (fF ?_ (fF ?_ (fF ?_ (fF ?_ (fF ?_ (fF ?_ (fF ?_ (fF ?_ (fF ?_ (fF ?_ (fF ?_ (fF ?_ (fF ?_ (fF ?_ (fF ?_ (fF ?_ (fF ?_ (fF ?_ (fF ?_ (fF ?_ (fF ?_ (fF ?_ (fF ?_ (fF ?_ (fF ?_ (trivial))))))))))))))))))))))))))))))))))))) [(0,.slice aj p0.length ak),(1,.slice ac p1.length ae),(10,.slice af ap.length ag),(11,.slice am aw.length ao),(12,iv a8),(13,iv a4),(14,iv au),(100,.bool false),(106,iv a4),(107,.slice ac p1.length ae),(108,iv (p1.length:Int)),(109,.bool (decide (a4 < (p1.length:Int)))),(112,undef),(113,undef),(114,undef),(115,undef),(116,undef),(117,undef),(118,undef),(119,undef),(120,undef),(123,undef),(124,undef),(125,undef),(126,undef),(127,undef),(128,undef),(129,undef),(130,undef),(131,undef),(132,undef),(133,undef),(134,undef)] (fin_of [none,none,none,none,none,none,none,some 35,some 5,some 6,some 7,some 8,some 11,some 12,some 13,some 14,some 15,some 16,some 17,some 18,some 19,some 22,some 23,some 24,some 25,some 26,some 27,some 28,some 29,some 30,some 31,some 32,some 33] d (by kernel_rfl) (by kernel_rfl)) (fun _ a w S=>?_)
  ·exact fM 0 none d d d d (.inl d) d d d
  ·exact fM 1 none d d d d (.inl d) d d d
  ·refine fJ [(102,_)] 2 [some 1] fun G a w S=>?_
   exact sLen S (wN d) d Try.underlying47 d d (lb d) fun a S=>leafL ⟨d,S⟩
  ·refine fJ [(101,_),(103,_)] 3 [some 0,some 2] fun G a w S=>?_
   exact sBin _ S (wN d) d d d (bLt _ _ _ _ .i64 a8 (p0.length:Int)) d (lb d) fun a S=>leafL ⟨d,S⟩
  ·exact fM 4 (some 3) d d d d (.inl d) d d d
  ·refine fJ [(13,_),(105,_)] 5 [none,some 4] fun G a w S=>?_
   exact sMove (iv a4) S (wG 4 true 105 d d d ah) (.inl d) d d (lb d) fun a S=>leafL ⟨d,S⟩
  ·refine fJ [(1,_),(105,_)] 6 [none,some 4] fun G a w S=>?_
   exact sMove (.slice ac p1.length ae) S (wG 4 true 105 d d d ah) (.inl d) d d (lb d) fun a S=>leafL ⟨d,S⟩
  ·refine fJ [(107,_),(105,_)] 7 [some 6,some 4] fun G a w S=>?_
   exact sLen S (wG 4 true 105 d d d ah) d Try.underlying47 d d (lb d) fun a S=>leafL ⟨d,S⟩
  ·refine fJ [(106,_),(108,_),(105,_)] 8 [some 5,some 7,some 4] fun G a w S=>?_
   exact sBin _ S (wG 4 true 105 d d d ah) d d d (bLt _ _ _ _ .i64 a4 (p1.length:Int)) d (lb d) fun a S=>leafL ⟨d,S⟩
  ·refine fJ [(105,_),(109,_)] 9 [some 4,some 8] fun G a w S=>?_
   exact sPickT (.bool (decide (a4 < (p1.length:Int)))) S (wN d) d d ah d d (lb d) fun a S=>leafL ⟨d,S⟩
  ·exact fM 10 (some 9) d d d d (.inl d) d d d
  ·refine fJ [(0,_),(111,_)] 11 [none,some 10] fun G a w S=>?_
   exact sSk S d d d a5 d d fun a S=>leafL ⟨d,S⟩
  ·refine fJ [(12,_),(111,_)] 12 [none,some 10] fun G a w S=>?_
   exact sSk S d d d a5 d d fun a S=>leafL ⟨d,S⟩
  ·refine fJ [(112,_),(113,_),(111,_)] 13 [some 11,some 12,some 10] fun G a w S=>?_
   exact sSk S d d d a5 d d fun a S=>leafL ⟨d,S⟩
  ·refine fJ [(114,_),(111,_)] 14 [some 13,some 10] fun G a w S=>?_
   exact sSk S d d d a5 d d fun a S=>leafL ⟨d,S⟩
  ·refine fJ [(1,_),(111,_)] 15 [none,some 10] fun G a w S=>?_
   exact sSk S d d d a5 d d fun a S=>leafL ⟨d,S⟩
  ·refine fJ [(13,_),(111,_)] 16 [none,some 10] fun G a w S=>?_
   exact sSk S d d d a5 d d fun a S=>leafL ⟨d,S⟩
  ·refine fJ [(116,_),(117,_),(111,_)] 17 [some 15,some 16,some 10] fun G a w S=>?_
   exact sSk S d d d a5 d d fun a S=>leafL ⟨d,S⟩
  ·refine fJ [(118,_),(111,_)] 18 [some 17,some 10] fun G a w S=>?_
   exact sSk S d d d a5 d d fun a S=>leafL ⟨d,S⟩
  ·refine fJ [(115,_),(119,_),(111,_)] 19 [some 14,some 18,some 10] fun G a w S=>?_
   exact sSk S d d d a5 d d fun a S=>leafL ⟨d,S⟩
  ·refine fJ [(111,_),(120,_)] 20 [some 10,some 19] fun G a w S=>?_
   exact sPickF (.bool false) S (wN d) d d a5 d d (lb d) fun a S=>leafL ⟨d,S⟩
  ·exact fM 21 (some 20) d d d d (.inl d) d d d
  ·refine fJ [(14,_),(122,_)] 22 [none,some 21] fun G a w S=>?_
   exact sSk S d d d d d d fun a S=>leafL ⟨d,S⟩
  ·refine fJ [(10,_),(122,_)] 23 [none,some 21] fun G a w S=>?_
   exact sSk S d d d d d d fun a S=>leafL ⟨d,S⟩
  ·refine fJ [(12,_),(122,_)] 24 [none,some 21] fun G a w S=>?_
   exact sSk S d d d d d d fun a S=>leafL ⟨d,S⟩
  ·refine fJ [(125,_),(122,_)] 25 [some 24,some 21] fun G a w S=>?_
   exact sSk S d d d d d d fun a S=>leafL ⟨d,S⟩
  ·refine fJ [(124,_),(126,_),(122,_)] 26 [some 23,some 25,some 21] fun G a w S=>?_
   exact sSk S d d d d d d fun a S=>leafL ⟨d,S⟩
  ·refine fJ [(127,_),(122,_)] 27 [some 26,some 21] fun G a w S=>?_
   exact sSk S d d d d d d fun a S=>leafL ⟨d,S⟩
  ·refine fJ [(13,_),(122,_)] 28 [none,some 21] fun G a w S=>?_
   exact sSk S d d d d d d fun a S=>leafL ⟨d,S⟩
  ·refine fJ [(129,_),(122,_)] 29 [some 28,some 21] fun G a w S=>?_
   exact sSk S d d d d d d fun a S=>leafL ⟨d,S⟩
  ·refine fJ [(128,_),(130,_),(122,_)] 30 [some 27,some 29,some 21] fun G a w S=>?_
   exact sSk S d d d d d d fun a S=>leafL ⟨d,S⟩
  ·refine fJ [(131,_),(122,_)] 31 [some 30,some 21] fun G a w S=>?_
   exact sSk S d d d d d d fun a S=>leafL ⟨d,S⟩
  ·refine fJ [(132,_),(122,_)] 32 [some 31,some 21] fun G a w S=>?_
   exact sSk S d d d d d d fun a S=>leafL ⟨d,S⟩
  ·refine fJ [(123,_),(133,_),(122,_)] 33 [some 22,some 32,some 21] fun G a w S=>?_
   exact sSk S d d d d d d fun a S=>leafL ⟨d,S⟩
  ·refine fJ [(122,_),(134,_)] 34 [some 21,some 33] fun G a w S=>?_
   exact sPickF (.bool false) S (wN d) d d d d d (lb d) fun a S=>leafL ⟨d,S⟩
  ·exact fM 35 (some 34) d d d d (.inr d) d d d
  exact leafT (⟨false,Option.some.inj h,S.fix [0] [0,1,2] (by decide) d d d⟩)
 obtain ⟨a0,bk,h⟩:=bS h
 obtain ⟨a2,bl,h⟩:=bS h
 rcases iS h with ⟨ab,h⟩ | ⟨ab,h⟩
 rotate_left
 ·obtain ⟨ba,cF,S⟩:=pIdx (P:=Try.prog) (r:=r_api_Stitch) (v:=.slice aj p0.length ak) (xs:=p0) (j:=a8) 47 81 0 S Try.underlying47 d d bk
  obtain ⟨cG,S⟩:=pLoad (r:=r_api_Stitch) (q:=ba) (x:=a0) 0 S d
  obtain rfl:cG=.agg #[.int .u8 a0.Kind,.bool a0.Purl,iv a0.A,iv a0.B]:=S.mem.know (i:=1) (e:=fRep r_api_Stitch (cG) a0) d
  obtain ⟨bb,cH,S⟩:=pIdx (P:=Try.prog) (r:=r_api_Stitch) (v:=.slice ac p1.length ae) (xs:=p1) (j:=a4) 47 81 4 S Try.underlying47 d d bl
  obtain ⟨cI,S⟩:=pLoad (r:=r_api_Stitch) (q:=bb) (x:=a2) 0 S d
  obtain rfl:cI=.agg #[.int .u8 a2.Kind,.bool a2.Purl,iv a2.A,iv a2.B]:=S.mem.know (i:=1) (e:=fRep r_api_Stitch (cI) a2) d
  refine sDraw (nf:=[]) (W:=[(0,101,iv a8),(1,102,.slice aj p0.length ak),(2,103,iv (p0.length:Int)),(3,104,.bool (decide (a8 < (p0.length:Int)))),(4,105,.bool (decide (a8 < (p0.length:Int)))),(5,106,iv a4),(6,107,.slice ac p1.length ae),(7,108,iv (p1.length:Int)),(8,109,.bool (decide (a4 < (p1.length:Int)))),(9,110,.bool (decide (a4 < (p1.length:Int)))),(10,111,.bool (decide (a4 < (p1.length:Int)))),(11,112,.slice aj p0.length ak),(12,113,iv a8),(13,114,ba),(14,115,.agg #[.int .u8 a0.Kind,.bool a0.Purl,iv a0.A,iv a0.B]),(15,116,.slice ac p1.length ae),(16,117,iv a4),(17,118,bb),(18,119,.agg #[.int .u8 a2.Kind,.bool a2.Purl,iv a2.A,iv a2.B]),(19,120,.bool (!((a0.Kind == a2.Kind) && ((a0.Purl == a2.Purl) && ((a0.A == a2.A) && ((a0.B == a2.B) && true)))))),(20,121,.bool (!((a0.Kind == a2.Kind) && ((a0.Purl == a2.Purl) && ((a0.A == a2.A) && ((a0.B == a2.B) && true)))))),(21,122,.bool (!((a0.Kind == a2.Kind) && ((a0.Purl == a2.Purl) && ((a0.A == a2.A) && ((a0.B == a2.B) && true)))))),(22,123,undef),(23,124,undef),(24,125,undef),(25,126,undef),(26,127,undef),(27,128,undef),(28,129,undef),(29,130,undef),(30,131,undef),(31,132,undef),(32,133,undef),(33,134,undef),(34,135,.bool false),(35,100,.bool false)]) d S ?_
  refine node_by (A:=anc_compare_Edits_1) 36 (by kernel_rfl) (by kernel_rfl) (by kernel_rfl) (by kernel_rfl) (by kernel_rfl) [0,1,2,3,4,5,6,7,8,9,10,11,12,13,14,15,16,17,18,19,20,21,22,23,24,25,26,27,28,29,30,31,32,33,34,35] (by kernel_rfl) (by decide) (by decide) (fF ?_ (fF ?_ (fF ?_ (fF ?_ (fF ?_ (fF ?_ (fF ?_ (fF ?_ (fF ?_ (fF ?_ (fF ?_ (fF ?_ (fF ?_ (fF ?_ (fF ?_ (fF ?_ (fF ?_ (fF ?_ (fF ?_ (fF ?_ (fF ?_ (fF ?_ (fF ?_ (fF ?_ (fF ?_ (fF ?_ (fF ?_ (fF ?_ (fF ?_ (fF ?_ (fF ?_ (fF ?_ (fF ?_ (fF ?_ (fF ?_ (fF ?_ (trivial))))))))))))))))))))))))))))))))))))) [(0,.slice aj p0.length ak),(1,.slice ac p1.length ae),(10,.slice af ap.length ag),(11,.slice am aw.length ao),(12,iv a8),(13,iv a4),(14,iv au),(100,.bool false),(106,iv a4),(107,.slice ac p1.length ae),(108,iv (p1.length:Int)),(109,.bool (decide (a4 < (p1.length:Int)))),(112,.slice aj p0.length ak),(113,iv a8),(114,ba),(115,.agg #[.int .u8 a0.Kind,.bool a0.Purl,iv a0.A,iv a0.B]),(116,.slice ac p1.length ae),(117,iv a4),(118,bb),(119,.agg #[.int .u8 a2.Kind,.bool a2.Purl,iv a2.A,iv a2.B]),(120,.bool (!((a0.Kind == a2.Kind) && ((a0.Purl == a2.Purl) && ((a0.A == a2.A) && ((a0.B == a2.B) && true)))))),(123,undef),(124,undef),(125,undef),(126,undef),(127,undef),(128,undef),(129,undef),(130,undef),(131,undef),(132,undef),(133,undef),(134,undef)] (fin_of [none,none,none,none,none,none,none,some 35,some 5,some 6,some 7,some 8,some 11,some 12,some 13,some 14,some 15,some 16,some 17,some 18,some 19,some 22,some 23,some 24,some 25,some 26,some 27,some 28,some 29,some 30,some 31,some 32,some 33] d (by kernel_rfl) (by kernel_rfl)) (fun _ a w S=>?_)
  ·exact fM 0 none d d d d (.inl d) d d d
  ·exact fM 1 none d d d d (.inl d) d d d
  ·refine fJ [(102,_)] 2 [some 1] fun G a w S=>?_
   exact sLen S (wN d) d Try.underlying47 d d (lb d) fun a S=>leafL ⟨d,S⟩
  ·refine fJ [(101,_),(103,_)] 3 [some 0,some 2] fun G a w S=>?_
   exact sBin _ S (wN d) d d d (bLt _ _ _ _ .i64 a8 (p0.length:Int)) d (lb d) fun a S=>leafL ⟨d,S⟩
  ·exact fM 4 (some 3) d d d d (.inl d) d d d
  ·refine fJ [(13,_),(105,_)] 5 [none,some 4] fun G a w S=>?_
   exact sMove (iv a4) S (wG 4 true 105 d d d ah) (.inl d) d d (lb d) fun a S=>leafL ⟨d,S⟩
  ·refine fJ [(1,_),(105,_)] 6 [none,some 4] fun G a w S=>?_
   exact sMove (.slice ac p1.length ae) S (wG 4 true 105 d d d ah) (.inl d) d d (lb d) fun a S=>leafL ⟨d,S⟩
  ·refine fJ [(107,_),(105,_)] 7 [some 6,some 4] fun G a w S=>?_
   exact sLen S (wG 4 true 105 d d d ah) d Try.underlying47 d d (lb d) fun a S=>leafL ⟨d,S⟩
  ·refine fJ [(106,_),(108,_),(105,_)] 8 [some 5,some 7,some 4] fun G a w S=>?_
   exact sBin _ S (wG 4 true 105 d d d ah) d d d (bLt _ _ _ _ .i64 a4 (p1.length:Int)) d (lb d) fun a S=>leafL ⟨d,S⟩
  ·refine fJ [(105,_),(109,_)] 9 [some 4,some 8] fun G a w S=>?_
   exact sPickT (.bool (decide (a4 < (p1.length:Int)))) S (wN d) d d ah d d (lb d) fun a S=>leafL ⟨d,S⟩
  ·exact fM 10 (some 9) d d d d (.inl d) d d d
  ·refine fJ [(0,_),(111,_)] 11 [none,some 10] fun G a w S=>?_
   exact sMove (.slice aj p0.length ak) S (wG 10 true 111 d d d a5) (.inl d) d d (lb d) fun a S=>leafL ⟨d,S⟩
  ·refine fJ [(12,_),(111,_)] 12 [none,some 10] fun G a w S=>?_
   exact sMove (iv a8) S (wG 10 true 111 d d d a5) (.inl d) d d (lb d) fun a S=>leafL ⟨d,S⟩
  ·refine fJ [(112,_),(113,_),(111,_)] 13 [some 11,some 12,some 10] fun G a w S=>?_
   exact sIdxV S (wG 10 true 111 d d d a5) d d d cF d (lb d) fun a S=>leafL ⟨d,S⟩
  ·refine fJ [(114,_),(111,_)] 14 [some 13,some 10] fun G a w S=>?_
   exact sLoadVN (vq:=ba) 3 [.int .u8 a0.Kind,.bool a0.Purl,iv a0.A,iv a0.B] S (wG 10 true 111 d d d a5) d d d d d d (lb d) fun a S=>leafL ⟨d,S⟩
  ·refine fJ [(1,_),(111,_)] 15 [none,some 10] fun G a w S=>?_
   exact sMove (.slice ac p1.length ae) S (wG 10 true 111 d d d a5) (.inl d) d d (lb d) fun a S=>leafL ⟨d,S⟩
  ·refine fJ [(13,_),(111,_)] 16 [none,some 10] fun G a w S=>?_
   exact sMove (iv a4) S (wG 10 true 111 d d d a5) (.inl d) d d (lb d) fun a S=>leafL ⟨d,S⟩
  ·refine fJ [(116,_),(117,_),(111,_)] 17 [some 15,some 16,some 10] fun G a w S=>?_
   exact sIdxV S (wG 10 true 111 d d d a5) d d d cH d (lb d) fun a S=>leafL ⟨d,S⟩
  ·refine fJ [(118,_),(111,_)] 18 [some 17,some 10] fun G a w S=>?_
   exact sLoadVN (vq:=bb) 0 [.int .u8 a2.Kind,.bool a2.Purl,iv a2.A,iv a2.B] S (wG 10 true 111 d d d a5) d d d d d d (lb d) fun a S=>leafL ⟨d,S⟩
  ·refine fJ [(115,_),(119,_),(111,_)] 19 [some 14,some 18,some 10] fun G a w S=>?_
   exact sBin _ S (wG 10 true 111 d d d a5) d d d (bNeV _ _ _ _ #[.int .u8 a0.Kind,.bool a0.Purl,iv a0.A,iv a0.B] #[.int .u8 a2.Kind,.bool a2.Purl,iv a2.A,iv a2.B] ((a0.Kind == a2.Kind) && ((a0.Purl == a2.Purl) && ((a0.A == a2.A) && ((a0.B == a2.B) && true)))) (by kernel_rfl) (eqlV_of (by kernel_rfl))) d (lb d) fun a S=>leafL ⟨d,S⟩
  ·refine fJ [(111,_),(120,_)] 20 [some 10,some 19] fun G a w S=>?_
   exact sPickT (.bool (!((a0.Kind == a2.Kind) && ((a0.Purl == a2.Purl) && ((a0.A == a2.A) && ((a0.B == a2.B) && true)))))) S (wN d) d d a5 d d (lb d) fun a S=>leafL ⟨d,S⟩
  ·exact fM 21 (some 20) d d d d (.inl d) d d d
  ·refine fJ [(14,_),(122,_)] 22 [none,some 21] fun G a w S=>?_
   exact sSk S d d d ab d d fun a S=>leafL ⟨d,S⟩
  ·refine fJ [(10,_),(122,_)] 23 [none,some 21] fun G a w S=>?_
   exact sSk S d d d ab d d fun a S=>leafL ⟨d,S⟩
  ·refine fJ [(12,_),(122,_)] 24 [none,some 21] fun G a w S=>?_
   exact sSk S d d d ab d d fun a S=>leafL ⟨d,S⟩
  ·refine fJ [(125,_),(122,_)] 25 [some 24,some 21] fun G a w S=>?_
   exact sSk S d d d ab d d fun a S=>leafL ⟨d,S⟩
  ·refine fJ [(124,_),(126,_),(122,_)] 26 [some 23,some 25,some 21] fun G a w S=>?_
   exact sSk S d d d ab d d fun a S=>leafL ⟨d,S⟩
  ·refine fJ [(127,_),(122,_)] 27 [some 26,some 21] fun G a w S=>?_
   exact sSk S d d d ab d d fun a S=>leafL ⟨d,S⟩
  ·refine fJ [(13,_),(122,_)] 28 [none,some 21] fun G a w S=>?_
   exact sSk S d d d ab d d fun a S=>leafL ⟨d,S⟩
  ·refine fJ [(129,_),(122,_)] 29 [some 28,some 21] fun G a w S=>?_
   exact sSk S d d d ab d d fun a S=>leafL ⟨d,S⟩
  ·refine fJ [(128,_),(130,_),(122,_)] 30 [some 27,some 29,some 21] fun G a w S=>?_
   exact sSk S d d d ab d d fun a S=>leafL ⟨d,S⟩
  ·refine fJ [(131,_),(122,_)] 31 [some 30,some 21] fun G a w S=>?_
   exact sSk S d d d ab d d fun a S=>leafL ⟨d,S⟩
  ·refine fJ [(132,_),(122,_)] 32 [some 31,some 21] fun G a w S=>?_
   exact sSk S d d d ab d d fun a S=>leafL ⟨d,S⟩
  ·refine fJ [(123,_),(133,_),(122,_)] 33 [some 22,some 32,some 21] fun G a w S=>?_
   exact sSk S d d d ab d d fun a S=>leafL ⟨d,S⟩
  ·refine fJ [(122,_),(134,_)] 34 [some 21,some 33] fun G a w S=>?_
   exact sPickF (.bool false) S (wN d) d d ab d d (lb d) fun a S=>leafL ⟨d,S⟩
  ·exact fM 35 (some 34) d d d d (.inr d) d d d
  exact leafT (⟨false,Option.some.inj h,S.fix [0] [6,7,8] (by decide) d d d⟩)
 obtain ⟨aG,cJ,h⟩:=bS h
 obtain ⟨av,cK,h⟩:=bS h
 obtain ⟨bc,cL,S⟩:=pIdx (P:=Try.prog) (r:=r_api_Stitch) (v:=.slice aj p0.length ak) (xs:=p0) (j:=a8) 47 81 0 S Try.underlying47 d d bk
 obtain ⟨cM,S⟩:=pLoad (r:=r_api_Stitch) (q:=bc) (x:=a0) 0 S d
 obtain rfl:cM=.agg #[.int .u8 a0.Kind,.bool a0.Purl,iv a0.A,iv a0.B]:=S.mem.know (i:=1) (e:=fRep r_api_Stitch (cM) a0) d
 obtain ⟨bf,cN,S⟩:=pIdx (P:=Try.prog) (r:=r_api_Stitch) (v:=.slice ac p1.length ae) (xs:=p1) (j:=a4) 47 81 4 S Try.underlying47 d d bl
 obtain ⟨cO,S⟩:=pLoad (r:=r_api_Stitch) (q:=bf) (x:=a2) 0 S d
 obtain rfl:cO=.agg #[.int .u8 a2.Kind,.bool a2.Purl,iv a2.A,iv a2.B]:=S.mem.know (i:=1) (e:=fRep r_api_Stitch (cO) a2) d
 obtain ⟨bg,cP,S⟩:=pIdx (P:=Try.prog) (r:=(rL (rI .i64))) (v:=.slice af ap.length ag) (xs:=ap) (j:=w64 (a8 + 1)) 98 101 8 S Try.underlying98 d d cJ
 obtain ⟨dx,S⟩:=pLoad (r:=(rL (rI .i64))) (q:=bg) (x:=aG) 0 S d
 obtain ⟨aK,aL,_,rfl,_⟩:=S.mem.know (i:=1) (e:=fRep (rL (rI .i64)) (dx) aG) d
 obtain ⟨bh,cQ,S⟩:=pIdx (P:=Try.prog) (r:=(rI .i64)) (v:=.slice aK aG.length aL) (xs:=aG) (j:=w64 (a4 + 1)) 101 3 1 S Try.underlying101 d d cK
 obtain ⟨cR,S⟩:=pLoad (r:=(rI .i64)) (q:=bh) (x:=av) 0 S d
 obtain rfl:cR=iv av:=S.mem.know (i:=1) (e:=fRep (rI .i64) (cR) av) d
 refine sDraw (nf:=[]) (W:=[(0,101,iv a8),(1,102,.slice aj p0.length ak),(2,103,iv (p0.length:Int)),(3,104,.bool (decide (a8 < (p0.length:Int)))),(4,105,.bool (decide (a8 < (p0.length:Int)))),(5,106,iv a4),(6,107,.slice ac p1.length ae),(7,108,iv (p1.length:Int)),(8,109,.bool (decide (a4 < (p1.length:Int)))),(9,110,.bool (decide (a4 < (p1.length:Int)))),(10,111,.bool (decide (a4 < (p1.length:Int)))),(11,112,.slice aj p0.length ak),(12,113,iv a8),(13,114,bc),(14,115,.agg #[.int .u8 a0.Kind,.bool a0.Purl,iv a0.A,iv a0.B]),(15,116,.slice ac p1.length ae),(16,117,iv a4),(17,118,bf),(18,119,.agg #[.int .u8 a2.Kind,.bool a2.Purl,iv a2.A,iv a2.B]),(19,120,.bool (!((a0.Kind == a2.Kind) && ((a0.Purl == a2.Purl) && ((a0.A == a2.A) && ((a0.B == a2.B) && true)))))),(20,121,.bool (!((a0.Kind == a2.Kind) && ((a0.Purl == a2.Purl) && ((a0.A == a2.A) && ((a0.B == a2.B) && true)))))),(21,122,.bool (!((a0.Kind == a2.Kind) && ((a0.Purl == a2.Purl) && ((a0.A == a2.A) && ((a0.B == a2.B) && true)))))),(22,123,iv au),(23,124,.slice af ap.length ag),(24,125,iv a8),(25,126,iv (w64 (a8 + 1))),(26,127,bg),(27,128,.slice aK aG.length aL),(28,129,iv a4),(29,130,iv (w64 (a4 + 1))),(30,131,bh),(31,132,iv av),(32,133,iv (w64 (1 + av))),(33,134,.bool (au == (w64 (1 + av)))),(34,135,.bool (au == (w64 (1 + av)))),(35,100,.bool (au == (w64 (1 + av))))]) d S ?_
 refine node_by (A:=anc_compare_Edits_1) 36 (by kernel_rfl) (by kernel_rfl) (by kernel_rfl) (by kernel_rfl) (by kernel_rfl) [0,1,2,3,4,5,6,7,8,9,10,11,12,13,14,15,16,17,18,19,20,21,22,23,24,25,26,27,28,29,30,31,32,33,34,35] (by kernel_rfl) (by decide) (by decide) (fF ?_ (fF ?_ (fF ?_ (fF ?_ (fF ?_ (fF ?_ (fF ?_ (fF ?_ (fF ?_ (fF ?_ (fF ?_ (fF ?_ (fF ?_ (fF ?_ (fF ?_ (fF ?_ (fF ?_ (fF ?_ (fF ?_ (fF ?_ (fF ?_ (fF ?_ (fF ?_ (fF ?_ (fF ?_ (fF ?_ (fF ?_ (fF ?_ (fF ?_ (fF ?_ (fF ?_ (fF ?_ (fF ?_ (fF ?_ (fF ?_ (fF ?_ (trivial))))))))))))))))))))))))))))))))))))) [(0,.slice aj p0.length ak),(1,.slice ac p1.length ae),(10,.slice af ap.length ag),(11,.slice am aw.length ao),(12,iv a8),(13,iv a4),(14,iv au),(100,.bool (au == (w64 (1 + av)))),(106,iv a4),(107,.slice ac p1.length ae),(108,iv (p1.length:Int)),(109,.bool (decide (a4 < (p1.length:Int)))),(112,.slice aj p0.length ak),(113,iv a8),(114,bc),(115,.agg #[.int .u8 a0.Kind,.bool a0.Purl,iv a0.A,iv a0.B]),(116,.slice ac p1.length ae),(117,iv a4),(118,bf),(119,.agg #[.int .u8 a2.Kind,.bool a2.Purl,iv a2.A,iv a2.B]),(120,.bool (!((a0.Kind == a2.Kind) && ((a0.Purl == a2.Purl) && ((a0.A == a2.A) && ((a0.B == a2.B) && true)))))),(123,iv au),(124,.slice af ap.length ag),(125,iv a8),(126,iv (w64 (a8 + 1))),(127,bg),(128,.slice aK aG.length aL),(129,iv a4),(130,iv (w64 (a4 + 1))),(131,bh),(132,iv av),(133,iv (w64 (1 + av))),(134,.bool (au == (w64 (1 + av))))] (fin_of [none,none,none,none,none,none,none,some 35,some 5,some 6,some 7,some 8,some 11,some 12,some 13,some 14,some 15,some 16,some 17,some 18,some 19,some 22,some 23,some 24,some 25,some 26,some 27,some 28,some 29,some 30,some 31,some 32,some 33] d (by kernel_rfl) (by kernel_rfl)) (fun _ a w S=>?_)
 ·exact fM 0 none d d d d (.inl d) d d d
 ·exact fM 1 none d d d d (.inl d) d d d
 ·refine fJ [(102,_)] 2 [some 1] fun G a w S=>?_
  exact sLen S (wN d) d Try.underlying47 d d (lb d) fun a S=>leafL ⟨d,S⟩
 ·refine fJ [(101,_),(103,_)] 3 [some 0,some 2] fun G a w S=>?_
  exact sBin _ S (wN d) d d d (bLt _ _ _ _ .i64 a8 (p0.length:Int)) d (lb d) fun a S=>leafL ⟨d,S⟩
 ·exact fM 4 (some 3) d d d d (.inl d) d d d
 ·refine fJ [(13,_),(105,_)] 5 [none,some 4] fun G a w S=>?_
  exact sMove (iv a4) S (wG 4 true 105 d d d ah) (.inl d) d d (lb d) fun a S=>leafL ⟨d,S⟩
 ·refine fJ [(1,_),(105,_)] 6 [none,some 4] fun G a w S=>?_
  exact sMove (.slice ac p1.length ae) S (wG 4 true 105 d d d ah) (.inl d) d d (lb d) fun a S=>leafL ⟨d,S⟩
 ·refine fJ [(107,_),(105,_)] 7 [some 6,some 4] fun G a w S=>?_
  exact sLen S (wG 4 true 105 d d d ah) d Try.underlying47 d d (lb d) fun a S=>leafL ⟨d,S⟩
 ·refine fJ [(106,_),(108,_),(105,_)] 8 [some 5,some 7,some 4] fun G a w S=>?_
  exact sBin _ S (wG 4 true 105 d d d ah) d d d (bLt _ _ _ _ .i64 a4 (p1.length:Int)) d (lb d) fun a S=>leafL ⟨d,S⟩
 ·refine fJ [(105,_),(109,_)] 9 [some 4,some 8] fun G a w S=>?_
  exact sPickT (.bool (decide (a4 < (p1.length:Int)))) S (wN d) d d ah d d (lb d) fun a S=>leafL ⟨d,S⟩
 ·exact fM 10 (some 9) d d d d (.inl d) d d d
 ·refine fJ [(0,_),(111,_)] 11 [none,some 10] fun G a w S=>?_
  exact sMove (.slice aj p0.length ak) S (wG 10 true 111 d d d a5) (.inl d) d d (lb d) fun a S=>leafL ⟨d,S⟩
 ·refine fJ [(12,_),(111,_)] 12 [none,some 10] fun G a w S=>?_
  exact sMove (iv a8) S (wG 10 true 111 d d d a5) (.inl d) d d (lb d) fun a S=>leafL ⟨d,S⟩
 ·refine fJ [(112,_),(113,_),(111,_)] 13 [some 11,some 12,some 10] fun G a w S=>?_
  exact sIdxV S (wG 10 true 111 d d d a5) d d d cL d (lb d) fun a S=>leafL ⟨d,S⟩
 ·refine fJ [(114,_),(111,_)] 14 [some 13,some 10] fun G a w S=>?_
  exact sLoadVN (vq:=bc) 9 [.int .u8 a0.Kind,.bool a0.Purl,iv a0.A,iv a0.B] S (wG 10 true 111 d d d a5) d d d d d d (lb d) fun a S=>leafL ⟨d,S⟩
 ·refine fJ [(1,_),(111,_)] 15 [none,some 10] fun G a w S=>?_
  exact sMove (.slice ac p1.length ae) S (wG 10 true 111 d d d a5) (.inl d) d d (lb d) fun a S=>leafL ⟨d,S⟩
 ·refine fJ [(13,_),(111,_)] 16 [none,some 10] fun G a w S=>?_
  exact sMove (iv a4) S (wG 10 true 111 d d d a5) (.inl d) d d (lb d) fun a S=>leafL ⟨d,S⟩
 ·refine fJ [(116,_),(117,_),(111,_)] 17 [some 15,some 16,some 10] fun G a w S=>?_
  exact sIdxV S (wG 10 true 111 d d d a5) d d d cN d (lb d) fun a S=>leafL ⟨d,S⟩
 ·refine fJ [(118,_),(111,_)] 18 [some 17,some 10] fun G a w S=>?_
  exact sLoadVN (vq:=bf) 6 [.int .u8 a2.Kind,.bool a2.Purl,iv a2.A,iv a2.B] S (wG 10 true 111 d d d a5) d d d d d d (lb d) fun a S=>leafL ⟨d,S⟩
 ·refine fJ [(115,_),(119,_),(111,_)] 19 [some 14,some 18,some 10] fun G a w S=>?_
  exact sBin _ S (wG 10 true 111 d d d a5) d d d (bNeV _ _ _ _ #[.int .u8 a0.Kind,.bool a0.Purl,iv a0.A,iv a0.B] #[.int .u8 a2.Kind,.bool a2.Purl,iv a2.A,iv a2.B] ((a0.Kind == a2.Kind) && ((a0.Purl == a2.Purl) && ((a0.A == a2.A) && ((a0.B == a2.B) && true)))) (by kernel_rfl) (eqlV_of (by kernel_rfl))) d (lb d) fun a S=>leafL ⟨d,S⟩
 ·refine fJ [(111,_),(120,_)] 20 [some 10,some 19] fun G a w S=>?_
  exact sPickT (.bool (!((a0.Kind == a2.Kind) && ((a0.Purl == a2.Purl) && ((a0.A == a2.A) && ((a0.B == a2.B) && true)))))) S (wN d) d d a5 d d (lb d) fun a S=>leafL ⟨d,S⟩
 ·exact fM 21 (some 20) d d d d (.inl d) d d d
 ·refine fJ [(14,_),(122,_)] 22 [none,some 21] fun G a w S=>?_
  exact sMove (iv au) S (wG 21 true 122 d d d ab) (.inl d) d d (lb d) fun a S=>leafL ⟨d,S⟩
 ·refine fJ [(10,_),(122,_)] 23 [none,some 21] fun G a w S=>?_
  exact sMove (.slice af ap.length ag) S (wG 21 true 122 d d d ab) (.inl d) d d (lb d) fun a S=>leafL ⟨d,S⟩
 ·refine fJ [(12,_),(122,_)] 24 [none,some 21] fun G a w S=>?_
  exact sMove (iv a8) S (wG 21 true 122 d d d ab) (.inl d) d d (lb d) fun a S=>leafL ⟨d,S⟩
 ·refine fJ [(125,_),(122,_)] 25 [some 24,some 21] fun G a w S=>?_
  exact sBin _ S (wG 21 true 122 d d d ab) d d d (bAdd _ _ _ _ a8 1) d (lb d) fun a S=>leafL ⟨d,S⟩
 ·refine fJ [(124,_),(126,_),(122,_)] 26 [some 23,some 25,some 21] fun G a w S=>?_
  exact sIdxV S (wG 21 true 122 d d d ab) d d d cP d (lb d) fun a S=>leafL ⟨d,S⟩
 ·refine fJ [(127,_),(122,_)] 27 [some 26,some 21] fun G a w S=>?_
  exact sLoadV1 (vq:=bg) 3 (.slice aK aG.length aL) S (wG 21 true 122 d d d ab) d d d d d (lb d) fun a S=>leafL ⟨d,S⟩
 ·refine fJ [(13,_),(122,_)] 28 [none,some 21] fun G a w S=>?_
  exact sMove (iv a4) S (wG 21 true 122 d d d ab) (.inl d) d d (lb d) fun a S=>leafL ⟨d,S⟩
 ·refine fJ [(129,_),(122,_)] 29 [some 28,some 21] fun G a w S=>?_
  exact sBin _ S (wG 21 true 122 d d d ab) d d d (bAdd _ _ _ _ a4 1) d (lb d) fun a S=>leafL ⟨d,S⟩
 ·refine fJ [(128,_),(130,_),(122,_)] 30 [some 27,some 29,some 21] fun G a w S=>?_
  exact sIdxV S (wG 21 true 122 d d d ab) d d d cQ d (lb d) fun a S=>leafL ⟨d,S⟩
 ·refine fJ [(131,_),(122,_)] 31 [some 30,some 21] fun G a w S=>?_
  exact sLoadV1 (vq:=bh) 0 (iv av) S (wG 21 true 122 d d d ab) d d d d d (lb d) fun a S=>leafL ⟨d,S⟩
 ·refine fJ [(132,_),(122,_)] 32 [some 31,some 21] fun G a w S=>?_
  exact sBin _ S (wG 21 true 122 d d d ab) d d d (bAdd _ _ _ _ 1 av) d (lb d) fun a S=>leafL ⟨d,S⟩
 ·refine fJ [(123,_),(133,_),(122,_)] 33 [some 22,some 32,some 21] fun G a w S=>?_
  exact sBin _ S (wG 21 true 122 d d d ab) d d d (bEq _ _ _ _ .i64 au (w64 (1 + av))) d (lb d) fun a S=>leafL ⟨d,S⟩
 ·refine fJ [(122,_),(134,_)] 34 [some 21,some 33] fun G a w S=>?_
  exact sPickT (.bool (au == (w64 (1 + av)))) S (wN d) d d ab d d (lb d) fun a S=>leafL ⟨d,S⟩
 ·exact fM 35 (some 34) d d d d (.inr d) d d d
 exact leafT (⟨au == (w64 (1 + av)),Option.some.inj h,S.fix [0] [12,13,14] (by decide) d d d⟩)
noncomputable def F_compare_fine (p0:api_CellStep):Option Bool:=
 Option.bind (α:=Bool) (
  if p0.Kind == 1 then
   some (p0.Kind == 1)
  else
   some (p0.Kind == 4)) fun o5=>
 if o5 then
  some ((p0.S.Kind == 0) && ((p0.S.Purl == false) && ((p0.S.A == 0) && ((p0.S.B == 0) && true))))
 else
  Option.bind (α:=Bool) (
   if p0.Kind == 2 then
    some (p0.Kind == 2)
   else
    some (p0.Kind == 3)) fun a0=>
  if a0 then
   (F_stitch_Check p0.S).bind fun a2=>
   some (a2 == 0)
  else
   some false
theorem c_compare_fine (E:Nat→Prop) (w0:World) (p0:api_CellStep) (v0:Value) (r:Bool) (h:F_compare_fine p0=some r) (S:St0 E [] w0 w0 [] [fRep r_api_CellStep (v0) p0]) :
 Calls Try.prog 90 #[v0] w0 (Ret (X:=Unit) E [] w0 (fun _=>.bool r) (fun _=>[]) (fun _=>[])):=by
 unfold F_compare_fine at h
 obtain rfl:v0=.agg #[.int .u8 p0.Kind,.int .u8 p0.S.Kind,.bool p0.S.Purl,iv p0.S.A,iv p0.S.B]:=S.know (i:=0) (e:=fRep r_api_CellStep (v0) p0) d
 refine sEnter (args:=[.agg #[.int .u8 p0.Kind,.int .u8 p0.S.Kind,.bool p0.S.Purl,iv p0.S.A,iv p0.S.B]]) 19 Try.func90 d d (by simp) S (fun a S=>?_)
 refine sSeq (fun K1 ae=>sRegion (sBox (v:=.agg #[.int .u8 p0.Kind,.int .u8 p0.S.Kind,.bool p0.S.Purl,iv p0.S.A,iv p0.S.B]) S (wN d) d d [.int .u8 p0.Kind,.int .u8 p0.S.Kind,.bool p0.S.Purl,iv p0.S.A,iv p0.S.B] d d (lb d) fun a b2 w S=>sN S fun a S=>?_))
 refine lT (ae _ _ (sSeq (fun K3 af=>sSeq (fun K4 ag=>sRegion (sField (b:=b2) (off:=0) 0 0 S (wN d) d d d d d (lb d) fun a S=>sLoad1 0 (.int .u8 p0.Kind) S (wN d) d d d d d d (lb d) fun a S=>lT (ag _ _ (wp_block ?_)))))))
 obtain ⟨t6,h,g7⟩:=bS h
 refine sCut (fun a w=>∃ o5,o5=t6∧St [] E [] w0 19 a w [(1,.pointer (some ⟨b2,0,none⟩)),(4,.int .u8 p0.Kind),(5,.bool o5)] [eBox b2 83 [.int .u8 p0.Kind,.int .u8 p0.S.Kind,.bool p0.S.Purl,iv p0.S.A,iv p0.S.B]] []) ?_ (fun a w hI=>?_)
 ·refine sSeq (fun K8 ah=>sRegion (sBin _ S (wN d) d d d (bEq _ _ _ _ .u8 p0.Kind 1) d (lb d) fun a S=>sN S fun a S=>?_))
  refine lT (ah _ _ ?_)
  rcases iS h with ⟨a6,h⟩ | ⟨a6,h⟩
  ·refine sCondT S d a6 ?_
   exact wp_skip (leafT (⟨p0.Kind == 1,Option.some.inj h,S.fix [0] [] (by decide) d d d⟩))
  refine sCondF S d a6 (sRegion (sBin _ S (wN d) d d d (bEq _ _ _ _ .u8 p0.Kind 4) d (lb d) fun a S=>sN S fun a S=>?_))
  exact lT (⟨p0.Kind == 4,Option.some.inj h,S.fix [0] [] (by decide) d d d⟩)
 obtain ⟨o5,rfl,S⟩:=hI
 have h:=g7
 try dsimp only at h
 rcases iS h with ⟨a0,h⟩ | ⟨a0,h⟩
 ·refine sCondT S d a0 (sSeq (fun ak a7=>sRegion (sField (b:=b2) (off:=0) 1 1 S (wN d) d d d d d (lb d) fun a S=>sLoadN (p:=b2) (off:=1) (T:=83) (vs:=[.int .u8 p0.Kind,.int .u8 p0.S.Kind,.bool p0.S.Purl,iv p0.S.A,iv p0.S.B]) 0 [.int .u8 p0.S.Kind,.bool p0.S.Purl,iv p0.S.A,iv p0.S.B] S (wN d) d d d d d d d (lb d) fun a S=>sBuild [] [.int .u8 0,.bool false,iv 0,iv 0] S (wN d) d d d d (lb d) fun a S=>sBin _ S (wN d) d d d (bEqV _ _ _ _ #[.int .u8 p0.S.Kind,.bool p0.S.Purl,iv p0.S.A,iv p0.S.B] #[.int .u8 0,.bool false,iv 0,iv 0] ((p0.S.Kind == 0) && ((p0.S.Purl == false) && ((p0.S.A == 0) && ((p0.S.B == 0) && true)))) (by kernel_rfl) (eqlV_of (by kernel_rfl))) d (lb d) fun a S=>sN S fun a S=>?_)))
  refine lT (a7 _ _ ?_)
  obtain rfl:=tS h
  exact wp_ret (rBlock (rThen (sRet (.bool ((p0.S.Kind == 0) && ((p0.S.Purl == false) && ((p0.S.A == 0) && ((p0.S.B == 0) && true))))) S (rsl1 d (rvT (t:=2) (v:=.bool ((p0.S.Kind == 0) && ((p0.S.Purl == false) && ((p0.S.A == 0) && ((p0.S.B == 0) && true))))) S d)) ⟨(),d,S.mem.sel [] [] (by decide) d d⟩)))
 refine sCondF S d a0 ?_
 obtain ⟨ai,h,aj⟩:=bS h
 refine sCut (fun a w=>∃ a8,a8=ai∧St [] E [] w0 19 a w [(1,.pointer (some ⟨b2,0,none⟩)),(12,.bool a8)] [eBox b2 83 [.int .u8 p0.Kind,.int .u8 p0.S.Kind,.bool p0.S.Purl,iv p0.S.A,iv p0.S.B]] []) ?_ (fun a w hI=>?_)
 ·refine sSeq (fun al a9=>sRegion (sBin _ S (wN d) d d d (bEq _ _ _ _ .u8 p0.Kind 2) d (lb d) fun a S=>sN S fun a S=>?_))
  refine lT (a9 _ _ ?_)
  rcases iS h with ⟨a2,h⟩ | ⟨a2,h⟩
  ·refine sCondT S d a2 ?_
   exact wp_skip (leafT (⟨p0.Kind == 2,Option.some.inj h,S.fix [0] [] (by decide) d d d⟩))
  refine sCondF S d a2 (sRegion (sBin _ S (wN d) d d d (bEq _ _ _ _ .u8 p0.Kind 3) d (lb d) fun a S=>sN S fun a S=>?_))
  exact lT (⟨p0.Kind == 3,Option.some.inj h,S.fix [0] [] (by decide) d d d⟩)
 obtain ⟨a8,rfl,S⟩:=hI
 have h:=aj
 try dsimp only at h
 rcases iS h with ⟨a4,h⟩ | ⟨a4,h⟩
 rotate_left
 ·refine sCondF S d a4 (wp_skip (leafB (leafT (af _ _ ?_))))
  refine sSeq (fun am aa=>sRegion (sN S fun a S=>?_))
  refine lT (aa _ _ ?_)
  obtain rfl:=tS h
  exact wp_ret (sRet (.bool false) S (rsl1 d (rvT (t:=2) (v:=.bool false) S d)) ⟨(),d,S.mem.sel [] [] (by decide) d d⟩)
 refine sCondT S d a4 (sSeq (fun ao ab=>sRegion (sField (b:=b2) (off:=0) 1 1 S (wN d) d d d d d (lb d) fun a S=>sLoadN (p:=b2) (off:=1) (T:=83) (vs:=[.int .u8 p0.Kind,.int .u8 p0.S.Kind,.bool p0.S.Purl,iv p0.S.A,iv p0.S.B]) 0 [.int .u8 p0.S.Kind,.bool p0.S.Purl,iv p0.S.A,iv p0.S.B] S (wN d) d d d d d d d (lb d) fun a S=>?_)))
 obtain ⟨a5,ac,h⟩:=bS h
 have S1:=S.mem
 have S1:=S1.learn (fRep r_api_Stitch (.agg #[.int .u8 p0.S.Kind,.bool p0.S.Purl,iv p0.S.A,iv p0.S.B]) p0.S) d
 refine sCq [.agg #[.int .u8 p0.S.Kind,.bool p0.S.Purl,iv p0.S.A,iv p0.S.B]] (iv a5) S callee88 (S1.quiet [0] d) (fun E1 w1 S1=>c_stitch_Check E1 w1 p0.S (.agg #[.int .u8 p0.S.Kind,.bool p0.S.Purl,iv p0.S.A,iv p0.S.B]) a5 ac S1) fun a w S=>?_
 refine sBin _ S (wN d) d d d (bEq _ _ _ _ .i64 a5 0) d (lb d) fun a S=>sN S fun a S=>?_
 refine lT (ab _ _ ?_)
 obtain rfl:=tS h
 exact wp_ret (rBlock (rThen (sRet (.bool (a5 == 0)) S (rsl1 d (rvT (t:=2) (v:=.bool (a5 == 0)) S d)) ⟨(),d,S.mem.sel [] [] (by decide) d d⟩)))
noncomputable def compare_walk_l1 (p1:(List api_CellStep)):Int→Option (Int ⊕ (((List api_Stitch) × (List api_CellStep) × Int) ⊕ Unit)):=fun s0=>match s0 with
 | a0=>
  if decide (a0 < (p1.length:Int)) then
   (idxO p1 a0).bind fun a2=>
   (F_compare_fine a2).bind fun a4=>
   if !a4 then
    some (.inr (.inl (([]:(List api_Stitch)),([]:(List api_CellStep)),8)))
   else
    some (.inl (w64 (a0 + 1)))
  else
   some (.inr (.inr ()))
noncomputable def compare_walk_l2 (p1:(List api_CellStep)):(List api_Stitch × List api_CellStep × List api_Stitch × Int)→Option ((List api_Stitch × List api_CellStep × List api_Stitch × Int) ⊕ (((List api_Stitch) × (List api_CellStep) × Int) ⊕ (List api_Stitch × List api_CellStep × List api_Stitch))):=fun s0=>match s0 with
 | (a5,a6,a7,a8)=>
  if decide (a8 < (p1.length:Int)) then
   Option.bind (α:=(List api_Stitch × List api_CellStep × List api_Stitch) ⊕ ((List api_Stitch) × (List api_CellStep) × Int)) (
    (idxO p1 a8).bind fun a2=>
    if a2.Kind == 3 then
     (appO a5 [a2.S]).bind fun a9=>
     (appO a6 [(api_CellStep.mk 4 (api_Stitch.mk 0 false 0 0))]).bind fun aa=>
     some (.inl (a9,aa,a7))
    else
     if (a7.length:Int) == 0 then
      some (.inr (([]:(List api_Stitch)),([]:(List api_CellStep)),30))
     else
      (idxO a7 0).bind fun a0=>
      (sliceO a7 1 (a7.length:Int)).bind fun a4=>
      if a2.Kind == 1 then
       (appO a5 [a0]).bind fun ab=>
       (appO a6 [a2]).bind fun ac=>
       some (.inl (ab,ac,a4))
      else
       if a2.Kind == 2 then
        if ((a2.S.Kind == a0.Kind) && ((a2.S.Purl == a0.Purl) && ((a2.S.A == a0.A) && ((a2.S.B == a0.B) && true)))) then
         some (.inr (([]:(List api_Stitch)),([]:(List api_CellStep)),30))
        else
         (appO a5 [a2.S]).bind fun ae=>
         (appO a6 [(api_CellStep.mk 2 a0)]).bind fun af=>
         some (.inl (ae,af,a4))
       else
        if a2.Kind == 4 then
         (appO a6 [(api_CellStep.mk 3 a0)]).bind fun ag=>
         some (.inl (a5,ag,a4))
        else
         some (.inl (a5,a6,a4))) fun z0=>match z0 with
    | .inl (ah,ai,aj)=>
     some (.inl (ah,ai,aj,w64 (a8 + 1)))
    | .inr z=>
     some (.inr (.inl z))
  else
   some (.inr (.inr (a5,a6,a7)))
noncomputable def F_compare_walk (p0:(List api_Stitch)) (p1:(List api_CellStep)):Option ((List api_Stitch) × (List api_CellStep) × Int):=
 (F_stitch_All p0).bind fun r8=>
 if r8 != 0 then
  some (([]:(List api_Stitch)),([]:(List api_CellStep)),r8)
 else
  if decide (400 < (p1.length:Int)) then
   some (([]:(List api_Stitch)),([]:(List api_CellStep)),4)
  else
   Option.bind (α:=Unit ⊕ ((List api_Stitch) × (List api_CellStep) × Int)) (
    (whileO (compare_walk_l1 p1) 0).bind fun z0=>match z0 with
     | .inl z=>
      some (.inr z)
     | .inr _=>
      some (.inl ())) fun z0=>match z0 with
    | .inl _=>
     Option.bind (α:=(List api_Stitch × List api_CellStep × List api_Stitch) ⊕ ((List api_Stitch) × (List api_CellStep) × Int)) (
      (whileO (compare_walk_l2 p1) (([]:List api_Stitch),([]:List api_CellStep),p0,0)).bind fun z0=>match z0 with
       | .inl z=>
        some (.inr z)
       | .inr (a4,a5,a6)=>
        some (.inl (a4,a5,a6))) fun z0=>match z0 with
      | .inl (a2,a7,a8)=>
       if decide (0 < (a8.length:Int)) then
        some (([]:(List api_Stitch)),([]:(List api_CellStep)),30)
       else
        (F_stitch_All a2).bind fun a0=>
        if a0 != 0 then
         some (([]:(List api_Stitch)),([]:(List api_CellStep)),a0)
        else
         some (a2,a7,0)
      | .inr z=>
       some z
    | .inr z=>
     some z
def c_compare_walk_val (r:((List api_Stitch) × (List api_CellStep) × Int)) (x:Value × Value):Value:=.tuple #[x.1,x.2,.int .i64 r.2.2]
def c_compare_walk_D (r:((List api_Stitch) × (List api_CellStep) × Int)) (x:Value × Value):List Fact:=[fRep (rL r_api_Stitch) x.1 r.1,fRep (rL r_api_CellStep) x.2 r.2.1]
theorem c_compare_walk (E:Nat→Prop) (w0:World) (p0:(List api_Stitch)) (v0:Value) (p1:(List api_CellStep)) (v1:Value) (r:((List api_Stitch) × (List api_CellStep) × Int)) (h:F_compare_walk p0 p1=some r) (S:St0 E [] w0 w0 [] [fRep (rL r_api_Stitch) (v0) p0,fRep (rL r_api_CellStep) (v1) p1]) :
 Calls Try.prog 58 #[v0,v1] w0 (Ret (X:=Value × Value) E [] w0 (c_compare_walk_val r) (fun _=>[]) (c_compare_walk_D r)):=by
 unfold F_compare_walk at h
 obtain ⟨aO,aP,_,rfl,_⟩:=S.know (i:=0) (e:=fRep (rL r_api_Stitch) (v0) p0) d
 obtain ⟨al,am,_,rfl,_⟩:=S.know (i:=1) (e:=fRep (rL r_api_CellStep) (v1) p1) d
 refine sEnter (args:=[.slice aO p0.length aP,.slice al p1.length am]) 106 Try.func58 d d (by simp) S (fun a S=>?_)
 refine sSeq (fun K5 d7=>sRegion (sN S fun a S=>?_))
 refine sN S fun a S=>?_
 refine sN S fun a S=>?_
 refine lT (d7 _ _ (sSeq (fun K6 d8=>sSeq (fun K7 d9=>sRegion (sM S fun a S=>?_)))))
 obtain ⟨r8,da,h⟩:=bS h
 have S1:=S.mem
 refine sCq [.slice aO p0.length aP] (iv r8) S callee56 (S1.quiet [0] d) (fun E1 w1 S1=>c_stitch_All E1 w1 p0 (.slice aO p0.length aP) r8 da S1) fun a w S=>?_
 refine sN S fun a S=>?_
 refine lT (d9 _ _ (sSeq (fun dF co=>sRegion (sM S fun a S=>?_))))
 refine sBin _ S (wN d) d d d (bNe _ _ _ _ .i64 r8 0) d (lb d) fun a S=>lT (co _ _ ?_)
 rcases iS h with ⟨aQ,h⟩ | ⟨aQ,h⟩
 ·refine sCondT S d aQ (sSeq (fun dG cp=>sRegion (sM S fun a S=>?_)))
  refine sN S fun a S=>?_
  refine sN S fun a S=>?_
  refine sN S fun a S=>?_
  refine lT (cp _ _ ?_)
  obtain rfl:=tS h
  have S:=S.learn (fRep (rL r_api_Stitch) (.slice none 0 0) ([]:(List api_Stitch))) (rL_nil _ _ _)
  have S:=S.learn (fRep (rL r_api_CellStep) (.slice none 0 0) ([]:(List api_CellStep))) (rL_nil _ _ _)
  exact wp_ret (rThen (sRet (.tuple #[.slice none 0 0,.slice none 0 0,iv r8]) S (rsl3 d (rvT (t:=4) (v:=.slice none 0 0) S d) (rvT (t:=5) (v:=.slice none 0 0) S d) (rvT (t:=6) (v:=iv r8) S d)) ⟨((.slice none 0 0),(.slice none 0 0)),d,S.mem.sel [] [1,0] (by decide) d d⟩))
 refine sCondF S d aQ (wp_skip (leafT (d8 _ _ ?_)))
 refine sSeq (fun dH cq=>sSeq (fun dI cr=>sRegion (sM S fun a S=>?_)))
 refine sLen S (wN d) d Try.underlying48 d d (lb d) fun a S=>sBin _ S (wN d) d d d (bGt _ _ _ _ .i64 (p1.length:Int) 400) d (lb d) fun a S=>lT (cr _ _ ?_)
 rcases iS h with ⟨aR,h⟩ | ⟨aR,h⟩
 ·refine sCondT S d aR (sSeq (fun dJ ct=>sRegion (sN S fun a S=>?_)))
  refine sN S fun a S=>?_
  refine sN S fun a S=>?_
  refine lT (ct _ _ ?_)
  obtain rfl:=tS h
  have S:=S.learn (fRep (rL r_api_Stitch) (.slice none 0 0) ([]:(List api_Stitch))) (rL_nil _ _ _)
  have S:=S.learn (fRep (rL r_api_CellStep) (.slice none 0 0) ([]:(List api_CellStep))) (rL_nil _ _ _)
  exact wp_ret (rThen (sRet (.tuple #[.slice none 0 0,.slice none 0 0,iv 4]) S (rsl3 d (rvT (t:=4) (v:=.slice none 0 0) S d) (rvT (t:=5) (v:=.slice none 0 0) S d) (rvT (t:=6) (v:=iv 4) S d)) ⟨((.slice none 0 0),(.slice none 0 0)),d,S.mem.sel [] [1,0] (by decide) d d⟩))
 refine sCondF S d aR (wp_skip (leafT (cq _ _ ?_)))
 obtain ⟨db,h,cZ⟩:=bS h
 refine sCut (fun a w=>.inl ()=db∧St [] E [] w0 106 a w [(0,.slice aO p0.length aP),(1,.slice al p1.length am),(4,.slice none 0 0),(5,.slice none 0 0)] [] [fRep (rL r_api_Stitch) (.slice aO p0.length aP) p0,fRep (rL r_api_CellStep) (.slice al p1.length am) p1]) ?_ (fun a w hI=>?_)
 ·refine sSeq (fun dK cu=>sRegion (sM S fun a S=>?_))
  refine sLen S (wN d) d Try.underlying48 d d (lb d) fun a S=>sM S fun a S=>?_
  refine lT (cu _ _ (wp_block ?_))
  obtain ⟨dL,hl,d0⟩:=bS h
  refine sLoop hl (fun s0 a w=>match s0 with | b1=>St [] E [] w0 106 a w [(0,.slice aO p0.length aP),(1,.slice al p1.length am),(4,.slice none 0 0),(5,.slice none 0 0),(23,.slice al p1.length am),(24,iv (p1.length:Int)),(25,iv b1)] [] [fRep (rL r_api_Stitch) (.slice aO p0.length aP) p0,fRep (rL r_api_CellStep) (.slice al p1.length am) p1]) (S.fix [] [0,1] (by decide) d d d) ?_
  clear hl h
  intro b1 a w c0 hI h bg
  unfold compare_walk_l1 at h
  dsimp only at h hI
  have S:=hI
  refine sSeq (fun dM cv=>sRegion (sBin _ S (wN d) d d d (bLt _ _ _ _ .i64 b1 (p1.length:Int)) d (lb d) fun a S=>lT (cv _ _ (sSeq (fun dN cw=>?_)))))
  rcases iS h with ⟨aS,h⟩ | ⟨aS,h⟩
  rotate_left
  ·refine sCondF S d aS ?_
   obtain rfl:=tS h
   obtain rfl:=bg _ d
   have h:=d0
   try dsimp only at h
   exact wp_exit (xThen (xThen (xHit (leafT (⟨Option.some.inj h,S.fix [] [0,1] (by decide) d d d⟩)))))
  refine sCondT S d aS (wp_skip (leafT (cw _ _ ?_)))
  refine sSeq (fun dO cx=>wp_block ?_)
  refine sSeq (fun dP cy=>sRegion ?_)
  obtain ⟨a4,cz,h⟩:=bS h
  obtain ⟨d1,cA,S⟩:=pIdx (P:=Try.prog) (r:=r_api_CellStep) (v:=.slice al p1.length am) (xs:=p1) (j:=b1) 48 83 1 S Try.underlying48 d d cz
  refine sIdxV S (wN d) d d d cA d (lb d) fun a S=>?_
  obtain ⟨d3,S⟩:=pLoad (r:=r_api_CellStep) (q:=d1) (x:=a4) 0 S d
  obtain rfl:d3=.agg #[.int .u8 a4.Kind,.int .u8 a4.S.Kind,.bool a4.S.Purl,iv a4.S.A,iv a4.S.B]:=S.mem.know (i:=1) (e:=fRep r_api_CellStep (d3) a4) d
  refine sLoadVN (vq:=d1) 0 [.int .u8 a4.Kind,.int .u8 a4.S.Kind,.bool a4.S.Purl,iv a4.S.A,iv a4.S.B] S (wN d) d d d d d d (lb d) fun a S=>sAlloc (.agg #[.int .u8 0,.int .u8 0,.bool false,iv 0,iv 0]) S (wN d) d d [.int .u8 0,.int .u8 0,.bool false,iv 0,iv 0] d d (lb d) fun a d4 w S=>sStore (p:=d4) (off:=0) (T:=83) (vs:=[.int .u8 0,.int .u8 0,.bool false,iv 0,iv 0]) (v:=.agg #[.int .u8 a4.Kind,.int .u8 a4.S.Kind,.bool a4.S.Purl,iv a4.S.A,iv a4.S.B]) 0 [.int .u8 a4.Kind,.int .u8 a4.S.Kind,.bool a4.S.Purl,iv a4.S.A,iv a4.S.B] S (wN d) d d d d d d d (by simp) d fun a w S=>lT (cy _ _ (sSeq (fun dQ cB=>sRegion (sLoadN (p:=d4) (off:=0) (T:=83) (vs:=[.int .u8 a4.Kind,.int .u8 a4.S.Kind,.bool a4.S.Purl,iv a4.S.A,iv a4.S.B]) 0 [.int .u8 a4.Kind,.int .u8 a4.S.Kind,.bool a4.S.Purl,iv a4.S.A,iv a4.S.B] S (wN d) d d d d d d d (lb d) fun a S=>?_))))
  obtain ⟨cC,cD,h⟩:=bS h
  have S1:=S.mem
  refine sCq [.agg #[.int .u8 a4.Kind,.int .u8 a4.S.Kind,.bool a4.S.Purl,iv a4.S.A,iv a4.S.B]] (.bool cC) S callee90 (S1.quiet [1] d) (fun E1 w1 S1=>c_compare_fine E1 w1 a4 (.agg #[.int .u8 a4.Kind,.int .u8 a4.S.Kind,.bool a4.S.Purl,iv a4.S.A,iv a4.S.B]) cC cD S1) fun a w S=>?_
  refine sNot (b:=cC) S (wN d) d d d (lb d) fun a S=>lT (cB _ _ ?_)
  rcases iS h with ⟨aT,h⟩ | ⟨aT,h⟩
  rotate_left
  ·refine sCondF S d aT (wp_skip (leafB (leafT (cx _ _ ?_))))
   refine sRegion (sBin _ S (wN d) d d d (bAdd _ _ _ _ b1 1) d (lb d) fun a S=>sM S fun a S=>?_)
   exact lT (⟨w64 (b1 + 1),(Option.some.inj h).symm,(S.fix [] [3,4] (by decide) d d d)⟩)
  refine sCondT S d aT (sSeq (fun dR cE=>sRegion (sN S fun a S=>?_)))
  refine sN S fun a S=>?_
  refine sN S fun a S=>?_
  refine lT (cE _ _ ?_)
  obtain rfl:=tS h
  obtain rfl:=bg _ d
  have h:=d0
  try dsimp only at h
  obtain rfl:=tS h
  have h:=cZ
  try dsimp only at h
  obtain rfl:=tS h
  have S:=S.learn (fRep (rL r_api_Stitch) (.slice none 0 0) ([]:(List api_Stitch))) (rL_nil _ _ _)
  have S:=S.learn (fRep (rL r_api_CellStep) (.slice none 0 0) ([]:(List api_CellStep))) (rL_nil _ _ _)
  exact wp_ret (rBlock (rThen (rThen (rBlock (rThen (sRet (.tuple #[.slice none 0 0,.slice none 0 0,iv 8]) S (rsl3 d (rvT (t:=4) (v:=.slice none 0 0) S d) (rvT (t:=5) (v:=.slice none 0 0) S d) (rvT (t:=6) (v:=iv 8) S d)) ⟨((.slice none 0 0),(.slice none 0 0)),d,S.mem.sel [] [1,0] (by decide) d d⟩))))))
 obtain ⟨rfl,S⟩:=hI
 have h:=cZ
 try dsimp only at h
 refine sSeq (fun dS cF=>sRegion (sM S fun a S=>?_))
 refine sN S fun a S=>?_
 refine lT (cF _ _ ?_)
 obtain ⟨dc,h,cG⟩:=bS h
 refine sCut (fun a w=>∃ ab,∃ aA,∃ ba,.inl (ab,aA,ba)=dc∧∃ a5,∃ a6,∃ ac,∃ ae,∃ aU,∃ aV,St [] E [] w0 106 a w [(4,.slice a5 ab.length a6),(5,.slice ac aA.length ae),(10,.slice aU ba.length aV)] [eRow r_api_Stitch 81 (.slice a5 ab.length a6) ab,eRow r_api_CellStep 83 (.slice ac aA.length ae) aA] [fRep (rL r_api_Stitch) (.slice aU ba.length aV) ba]) ?_ (fun a w hI=>?_)
 rotate_left
 ·obtain ⟨ab,aA,ba,rfl,a5,a6,ac,ae,aU,aV,S⟩:=hI
  have h:=cG
  try dsimp only at h
  refine sSeq (fun de bh=>sSeq (fun df bi=>sRegion (sM S fun a S=>?_)))
  refine sLen S (wN d) d Try.underlying47 d d (lb d) fun a S=>sBin _ S (wN d) d d d (bGt _ _ _ _ .i64 (ba.length:Int) 0) d (lb d) fun a S=>lT (bi _ _ ?_)
  rcases iS h with ⟨ap,h⟩ | ⟨ap,h⟩
  ·refine sCondT S d ap (sSeq (fun dg bj=>sRegion (sN S fun a S=>?_)))
   refine sN S fun a S=>?_
   refine sN S fun a S=>?_
   refine lT (bj _ _ ?_)
   obtain rfl:=tS h
   have S:=S.learn (fRep (rL r_api_Stitch) (.slice none 0 0) ([]:(List api_Stitch))) (rL_nil _ _ _)
   have S:=S.learn (fRep (rL r_api_CellStep) (.slice none 0 0) ([]:(List api_CellStep))) (rL_nil _ _ _)
   exact wp_ret (rThen (sRet (.tuple #[.slice none 0 0,.slice none 0 0,iv 30]) S (rsl3 d (rvT (t:=4) (v:=.slice none 0 0) S d) (rvT (t:=5) (v:=.slice none 0 0) S d) (rvT (t:=6) (v:=iv 30) S d)) ⟨((.slice none 0 0),(.slice none 0 0)),d,S.mem.sel [] [1,0] (by decide) d d⟩))
  refine sCondF S d ap (wp_skip (leafT (bh _ _ ?_)))
  refine sSeq (fun dh bk=>sSeq (fun di bl=>sRegion (sM S fun a S=>?_)))
  obtain ⟨aq,bm,h⟩:=bS h
  have S1:=S.mem
  have S1:=S1.shutR (r:=r_api_Stitch) (T:=81) (v:=.slice a5 ab.length a6) (xs:=ab) 0 d
  refine sCq [.slice a5 ab.length a6] (iv aq) S callee56 (S1.quiet [0] d) (fun E1 w1 S1=>c_stitch_All E1 w1 ab (.slice a5 ab.length a6) aq bm S1) fun a w S=>?_
  refine sN S fun a S=>?_
  refine lT (bl _ _ (sSeq (fun dj bn=>sRegion (sM S fun a S=>?_))))
  refine sBin _ S (wN d) d d d (bNe _ _ _ _ .i64 aq 0) d (lb d) fun a S=>lT (bn _ _ ?_)
  rcases iS h with ⟨ar,h⟩ | ⟨ar,h⟩
  ·refine sCondT S d ar (sSeq (fun dk bo=>sRegion (sM S fun a S=>?_)))
   refine sN S fun a S=>?_
   refine sN S fun a S=>?_
   refine sN S fun a S=>?_
   refine lT (bo _ _ ?_)
   obtain rfl:=tS h
   have S:=S.learn (fRep (rL r_api_Stitch) (.slice none 0 0) ([]:(List api_Stitch))) (rL_nil _ _ _)
   have S:=S.learn (fRep (rL r_api_CellStep) (.slice none 0 0) ([]:(List api_CellStep))) (rL_nil _ _ _)
   exact wp_ret (rThen (sRet (.tuple #[.slice none 0 0,.slice none 0 0,iv aq]) S (rsl3 d (rvT (t:=4) (v:=.slice none 0 0) S d) (rvT (t:=5) (v:=.slice none 0 0) S d) (rvT (t:=6) (v:=iv aq) S d)) ⟨((.slice none 0 0),(.slice none 0 0)),d,S.mem.sel [] [1,0] (by decide) d d⟩))
  refine sCondF S d ar (wp_skip (leafT (bk _ _ ?_)))
  refine sSeq (fun dl bp=>sRegion (sM S fun a S=>?_))
  refine sM S fun a S=>?_
  refine sN S fun a S=>?_
  refine sN S fun a S=>?_
  refine sN S fun a S=>?_
  refine lT (bp _ _ ?_)
  obtain rfl:=tS h
  have S:=S.shutR (r:=r_api_Stitch) (T:=81) (v:=.slice a5 ab.length a6) (xs:=ab) 0 d
  have S:=S.shutR (r:=r_api_CellStep) (T:=83) (v:=.slice ac aA.length ae) (xs:=aA) 0 d
  exact wp_ret (sRet (.tuple #[.slice a5 ab.length a6,.slice ac aA.length ae,iv 0]) S (rsl3 d (rvT (t:=4) (v:=.slice a5 ab.length a6) S d) (rvT (t:=5) (v:=.slice ac aA.length ae) S d) (rvT (t:=6) (v:=iv 0) S d)) ⟨((.slice a5 ab.length a6),(.slice ac aA.length ae)),d,S.mem.sel [] [1,0] (by decide) d d⟩)
 refine sSeq (fun dT cH=>sRegion (sM S fun a S=>?_))
 refine sLen S (wN d) d Try.underlying48 d d (lb d) fun a S=>sM S fun a S=>?_
 refine lT (cH _ _ (wp_block ?_))
 have S:=S.nilRow r_api_Stitch 81 (α:=api_Stitch)
 have S:=S.nilRow r_api_CellStep 83 (α:=api_CellStep)
 obtain ⟨dU,hl,cI⟩:=bS h
 refine sLoop hl (fun s0 a w=>match s0 with | (ak,ah,ao,aW)=>∃ a7,∃ a8,∃ a9,∃ aa,∃ af,∃ ag,St [] E [] w0 106 a w [(4,.slice a7 ak.length a8),(5,.slice a9 ah.length aa),(10,.slice af ao.length ag),(34,.slice al p1.length am),(35,iv (p1.length:Int)),(36,iv aW)] [eRow r_api_Stitch 81 (.slice a7 ak.length a8) ak,eRow r_api_CellStep 83 (.slice a9 ah.length aa) ah] [fRep (rL r_api_Stitch) (.slice af ao.length ag) ao,fRep (rL r_api_CellStep) (.slice al p1.length am) p1]) ⟨none,0,none,0,aO,aP,S.fix [1,0] [0,1] (by decide) d d d⟩ ?_
 clear hl h
 intro s0 a w c0 hI h aX
 obtain ⟨ak,ah,ao,aW⟩:=s0
 unfold compare_walk_l2 at h
 dsimp only at h hI
 obtain ⟨a7,a8,a9,aa,af,ag,S⟩:=hI
 refine sSeq (fun dV cJ=>sRegion (sBin _ S (wN d) d d d (bLt _ _ _ _ .i64 aW (p1.length:Int)) d (lb d) fun a S=>lT (cJ _ _ (sSeq (fun dW cK=>?_)))))
 rcases iS h with ⟨aZ,h⟩ | ⟨aZ,h⟩
 rotate_left
 ·refine sCondF S d aZ ?_
  obtain rfl:=tS h
  obtain rfl:=aX _ d
  have h:=cI
  try dsimp only at h
  exact wp_exit (xThen (xThen (xHit (leafT (⟨ak,ah,ao,Option.some.inj h,a7,a8,a9,aa,af,ag,S.fix [0,1] [0] (by decide) d d d⟩)))))
 refine sCondT S d aZ (wp_skip (leafT (cK _ _ ?_)))
 obtain ⟨dm,h,cL⟩:=bS h
 refine sCut (fun a w=>∃ bb,∃ bc,∃ bf,.inl (bb,bc,bf)=dm∧∃ aG,∃ aH,∃ aI,∃ aJ,∃ aK,∃ aL,St [] E [] w0 106 a w [(4,.slice aG bb.length aH),(5,.slice aI bc.length aJ),(10,.slice aK bf.length aL),(34,.slice al p1.length am),(35,iv (p1.length:Int)),(36,iv aW)] [eRow r_api_Stitch 81 (.slice aG bb.length aH) bb,eRow r_api_CellStep 83 (.slice aI bc.length aJ) bc] [fRep (rL r_api_Stitch) (.slice aK bf.length aL) bf,fRep (rL r_api_CellStep) (.slice al p1.length am) p1]) ?_ (fun a w hI=>?_)
 rotate_left
 ·obtain ⟨bb,bc,bf,rfl,aG,aH,aI,aJ,aK,aL,S⟩:=hI
  have h:=cL
  try dsimp only at h
  refine sRegion (sBin _ S (wN d) d d d (bAdd _ _ _ _ aW 1) d (lb d) fun a S=>sM S fun a S=>?_)
  exact lT (⟨(bb,bc,bf,w64 (aW + 1)),(Option.some.inj h).symm,⟨aG,aH,aI,aJ,aK,aL,S.fix [0,1] [0,1] (by decide) d d d⟩⟩)
 refine wp_block ?_
 refine sSeq (fun dX cM=>sRegion ?_)
 obtain ⟨a2,cN,h⟩:=bS h
 obtain ⟨d5,cO,S⟩:=pIdx (P:=Try.prog) (r:=r_api_CellStep) (v:=.slice al p1.length am) (xs:=p1) (j:=aW) 48 83 1 S Try.underlying48 d d cN
 refine sIdxV S (wN d) d d d cO d (lb d) fun a S=>?_
 obtain ⟨d6,S⟩:=pLoad (r:=r_api_CellStep) (q:=d5) (x:=a2) 0 S d
 obtain rfl:d6=.agg #[.int .u8 a2.Kind,.int .u8 a2.S.Kind,.bool a2.S.Purl,iv a2.S.A,iv a2.S.B]:=S.mem.know (i:=1) (e:=fRep r_api_CellStep (d6) a2) d
 refine sLoadVN (vq:=d5) 0 [.int .u8 a2.Kind,.int .u8 a2.S.Kind,.bool a2.S.Purl,iv a2.S.A,iv a2.S.B] S (wN d) d d d d d d (lb d) fun a S=>sAlloc (.agg #[.int .u8 0,.int .u8 0,.bool false,iv 0,iv 0]) S (wN d) d d [.int .u8 0,.int .u8 0,.bool false,iv 0,iv 0] d d (lb d) fun a aC w S=>sStore (p:=aC) (off:=0) (T:=83) (vs:=[.int .u8 0,.int .u8 0,.bool false,iv 0,iv 0]) (v:=.agg #[.int .u8 a2.Kind,.int .u8 a2.S.Kind,.bool a2.S.Purl,iv a2.S.A,iv a2.S.B]) 0 [.int .u8 a2.Kind,.int .u8 a2.S.Kind,.bool a2.S.Purl,iv a2.S.A,iv a2.S.B] S (wN d) d d d d d d d (by simp) d fun a w S=>lT (cM _ _ (sSeq (fun dY cP=>sSeq (fun dZ cQ=>sRegion (sField (b:=aC) (off:=0) 0 0 S (wN d) d d d d d (lb d) fun a S=>sLoad1 0 (.int .u8 a2.Kind) S (wN d) d d d d d d (lb d) fun a S=>sBin _ S (wN d) d d d (bEq _ _ _ _ .u8 a2.Kind 3) d (lb d) fun a S=>lT (cQ _ _ ?_))))))
 rcases iS h with ⟨b0,h⟩ | ⟨b0,h⟩
 ·refine sCondT S d b0 (sSeq (fun e0 cR=>sRegion (sM S fun a S=>?_)))
  refine sField (b:=aC) (off:=0) 1 1 S (wN d) d d d d d (lb d) fun a S=>sLoadN (p:=aC) (off:=1) (T:=83) (vs:=[.int .u8 a2.Kind,.int .u8 a2.S.Kind,.bool a2.S.Purl,iv a2.S.A,iv a2.S.B]) 0 [.int .u8 a2.S.Kind,.bool a2.S.Purl,iv a2.S.A,iv a2.S.B] S (wN d) d d d d d d d (lb d) fun a S=>?_
  have S:=S.learn (fRep r_api_Stitch (.agg #[.int .u8 a2.S.Kind,.bool a2.S.Purl,iv a2.S.A,iv a2.S.B]) a2.S) d
  refine sLit (r:=r_api_Stitch) (T:=81) (xs:=[a2.S]) [(0,.agg #[.int .u8 a2.S.Kind,.bool a2.S.Purl,iv a2.S.A,iv a2.S.B])] 1 [.agg #[.int .u8 a2.S.Kind,.bool a2.S.Purl,iv a2.S.A,iv a2.S.B]] [.int .u8 a2.S.Kind,.bool a2.S.Purl,iv a2.S.A,iv a2.S.B] (.agg #[.int .u8 0,.bool false,iv 0,iv 0]) 24 S (wN d) d d Try.underlying47 d (by decide) (by decide) (by kernel_rfl) d (fun E1 w1 hE=>All.cons (r_api_Stitch.mono hE (S.mem.know (i:=0) (e:=fRep r_api_Stitch (.agg #[.int .u8 a2.S.Kind,.bool a2.S.Purl,iv a2.S.A,iv a2.S.B]) a2.S) d)) (All.nil _ _ _)) d d (lb d) fun a w bq br S=>?_
  obtain ⟨cS,bt,h⟩:=bS h
  refine sApp (r:=r_api_Stitch) (T:=81) (xs:=ak) (ys:=[a2.S]) (v:=.slice a7 ak.length a8) (u:=.slice bq [a2.S].length br) 2 (.agg #[.int .u8 0,.bool false,iv 0,iv 0]) 24 S (wN d) d Try.underlying47 d d (by decide) d d d (src_R (T:=81) 0 S.mem d) bt d (lb d) fun a w bu bv S=>sN S fun a S=>?_
  refine lT (cR _ _ (sSeq (fun dn bw=>sRegion (sM S fun a S=>?_))))
  refine sBuild [(0,.int .u8 4)] [.int .u8 4,.int .u8 0,.bool false,iv 0,iv 0] S (wN d) d d d d (lb d) fun a S=>?_
  have S:=S.learn (fRep r_api_CellStep (.agg #[.int .u8 4,.int .u8 0,.bool false,iv 0,iv 0]) (api_CellStep.mk 4 (api_Stitch.mk 0 false 0 0))) d
  refine sLit (r:=r_api_CellStep) (T:=83) (xs:=[(api_CellStep.mk 4 (api_Stitch.mk 0 false 0 0))]) [(0,.agg #[.int .u8 4,.int .u8 0,.bool false,iv 0,iv 0])] 1 [.agg #[.int .u8 4,.int .u8 0,.bool false,iv 0,iv 0]] [.int .u8 4,.int .u8 0,.bool false,iv 0,iv 0] (.agg #[.int .u8 0,.int .u8 0,.bool false,iv 0,iv 0]) 32 S (wN d) d d Try.underlying48 d (by decide) (by decide) (by kernel_rfl) d (fun E1 w1 hE=>All.cons (r_api_CellStep.mono hE (S.mem.know (i:=0) (e:=fRep r_api_CellStep (.agg #[.int .u8 4,.int .u8 0,.bool false,iv 0,iv 0]) (api_CellStep.mk 4 (api_Stitch.mk 0 false 0 0))) d)) (All.nil _ _ _)) d d (lb d) fun a w bx bz S=>?_
  obtain ⟨cT,bA,h⟩:=bS h
  refine sApp (r:=r_api_CellStep) (T:=83) (xs:=ah) (ys:=[(api_CellStep.mk 4 (api_Stitch.mk 0 false 0 0))]) (v:=.slice a9 ah.length aa) (u:=.slice bx [(api_CellStep.mk 4 (api_Stitch.mk 0 false 0 0))].length bz) 4 (.agg #[.int .u8 0,.int .u8 0,.bool false,iv 0,iv 0]) 32 S (wN d) d Try.underlying48 d d (by decide) d d d (src_R (T:=83) 0 S.mem d) bA d (lb d) fun a w bB bC S=>sN S fun a S=>?_
  refine lT (bw _ _ ?_)
  exact wp_exit (xThen (xHit (leafT (⟨cS,cT,ao,Option.some.inj h,bu,bv,bB,bC,af,ag,S.fix [2,0] [5,6] (by decide) d d d⟩))))
 refine sCondF S d b0 (wp_skip (leafT (cP _ _ ?_)))
 refine sSeq (fun dp bD=>sSeq (fun dr bE=>sRegion (sM S fun a S=>?_)))
 refine sLen S (wN d) d Try.underlying47 d d (lb d) fun a S=>sBin _ S (wN d) d d d (bEq _ _ _ _ .i64 (ao.length:Int) 0) d (lb d) fun a S=>lT (bE _ _ ?_)
 rcases iS h with ⟨au,h⟩ | ⟨au,h⟩
 ·refine sCondT S d au (sSeq (fun dt bF=>sRegion (sN S fun a S=>?_)))
  refine sN S fun a S=>?_
  refine sN S fun a S=>?_
  refine lT (bF _ _ ?_)
  obtain rfl:=tS h
  have h:=cL
  try dsimp only at h
  obtain rfl:=tS h
  obtain rfl:=aX _ d
  have h:=cI
  try dsimp only at h
  obtain rfl:=tS h
  have h:=cG
  try dsimp only at h
  obtain rfl:=tS h
  have S:=S.learn (fRep (rL r_api_Stitch) (.slice none 0 0) ([]:(List api_Stitch))) (rL_nil _ _ _)
  have S:=S.learn (fRep (rL r_api_CellStep) (.slice none 0 0) ([]:(List api_CellStep))) (rL_nil _ _ _)
  exact wp_ret (rThen (rBlock (rThen (rThen (rBlock (rThen (sRet (.tuple #[.slice none 0 0,.slice none 0 0,iv 30]) S (rsl3 d (rvT (t:=4) (v:=.slice none 0 0) S d) (rvT (t:=5) (v:=.slice none 0 0) S d) (rvT (t:=6) (v:=iv 30) S d)) ⟨((.slice none 0 0),(.slice none 0 0)),d,S.mem.sel [] [1,0] (by decide) d d⟩)))))))
 refine sCondF S d au (wp_skip (leafT (bD _ _ ?_)))
 refine sSeq (fun du bG=>sRegion (sM S fun a S=>?_))
 obtain ⟨a0,bH,h⟩:=bS h
 obtain ⟨bI,bJ,S⟩:=pIdx (P:=Try.prog) (r:=r_api_Stitch) (v:=.slice af ao.length ag) (xs:=ao) (j:=0) 47 81 3 S Try.underlying47 d d bH
 refine sIdxV S (wN d) d d d bJ d (lb d) fun a S=>?_
 obtain ⟨bK,S⟩:=pLoad (r:=r_api_Stitch) (q:=bI) (x:=a0) 0 S d
 obtain rfl:bK=.agg #[.int .u8 a0.Kind,.bool a0.Purl,iv a0.A,iv a0.B]:=S.mem.know (i:=1) (e:=fRep r_api_Stitch (bK) a0) d
 refine sLoadVN (vq:=bI) 0 [.int .u8 a0.Kind,.bool a0.Purl,iv a0.A,iv a0.B] S (wN d) d d d d d d (lb d) fun a S=>sAlloc (.agg #[.int .u8 0,.bool false,iv 0,iv 0]) S (wN d) d d [.int .u8 0,.bool false,iv 0,iv 0] d d (lb d) fun a av w S=>sStore (p:=av) (off:=0) (T:=81) (vs:=[.int .u8 0,.bool false,iv 0,iv 0]) (v:=.agg #[.int .u8 a0.Kind,.bool a0.Purl,iv a0.A,iv a0.B]) 0 [.int .u8 a0.Kind,.bool a0.Purl,iv a0.A,iv a0.B] S (wN d) d d d d d d d (by simp) d fun a w S=>lT (bG _ _ (sSeq (fun dv bL=>sRegion (sM S fun a S=>?_))))
 obtain ⟨aM,bM,h⟩:=bS h
 refine sSlice (r:=r_api_Stitch) (v:=.slice af ao.length ag) (xs:=ao) (vlo:=(some (.int .i64 1))) (vhi:=none) (lo':=1) (hi':=(ao.length:Int)) 6 S (wN d) d Try.underlying47 d d d d d (.inl d) (.inr ⟨d,d⟩) bM d (lb d) fun a ai aj S=>?_
 refine sN S fun a S=>?_
 refine lT (bL _ _ (sSeq (fun dw bN=>sRegion (sField (b:=aC) (off:=0) 0 0 S (wN d) d d d d d (lb d) fun a S=>sLoad1 1 (.int .u8 a2.Kind) S (wN d) d d d d d d (lb d) fun a S=>lT (bN _ _ (wp_block ?_))))))
 refine sSeq (fun dx bO=>sRegion (sBin _ S (wN d) d d d (bEq _ _ _ _ .u8 a2.Kind 1) d (lb d) fun a S=>sN S fun a S=>?_))
 refine lT (bO _ _ ?_)
 rcases iS h with ⟨aw,h⟩ | ⟨aw,h⟩
 ·refine sCondT S d aw (sSeq (fun dy bP=>sRegion (sM S fun a S=>?_)))
  refine sLoadN (p:=av) (off:=0) (T:=81) (vs:=[.int .u8 a0.Kind,.bool a0.Purl,iv a0.A,iv a0.B]) 0 [.int .u8 a0.Kind,.bool a0.Purl,iv a0.A,iv a0.B] S (wN d) d d d d d d d (lb d) fun a S=>sLit (r:=r_api_Stitch) (T:=81) (xs:=[a0]) [(0,.agg #[.int .u8 a0.Kind,.bool a0.Purl,iv a0.A,iv a0.B])] 1 [.agg #[.int .u8 a0.Kind,.bool a0.Purl,iv a0.A,iv a0.B]] [.int .u8 a0.Kind,.bool a0.Purl,iv a0.A,iv a0.B] (.agg #[.int .u8 0,.bool false,iv 0,iv 0]) 24 S (wN d) d d Try.underlying47 d (by decide) (by decide) (by kernel_rfl) d (fun E1 w1 hE=>All.cons (r_api_Stitch.mono hE (S.mem.know (i:=2) (e:=fRep r_api_Stitch (.agg #[.int .u8 a0.Kind,.bool a0.Purl,iv a0.A,iv a0.B]) a0) d)) (All.nil _ _ _)) d d (lb d) fun a w bQ bR S=>?_
  obtain ⟨cU,bT,h⟩:=bS h
  refine sApp (r:=r_api_Stitch) (T:=81) (xs:=ak) (ys:=[a0]) (v:=.slice a7 ak.length a8) (u:=.slice bQ [a0].length bR) 3 (.agg #[.int .u8 0,.bool false,iv 0,iv 0]) 24 S (wN d) d Try.underlying47 d d (by decide) d d d (src_R (T:=81) 0 S.mem d) bT d (lb d) fun a w bU bV S=>sN S fun a S=>?_
  refine lT (bP _ _ (sRegion (sM S fun a S=>?_)))
  refine sLoadN (p:=aC) (off:=0) (T:=83) (vs:=[.int .u8 a2.Kind,.int .u8 a2.S.Kind,.bool a2.S.Purl,iv a2.S.A,iv a2.S.B]) 3 [.int .u8 a2.Kind,.int .u8 a2.S.Kind,.bool a2.S.Purl,iv a2.S.A,iv a2.S.B] S (wN d) d d d d d d d (lb d) fun a S=>sLit (r:=r_api_CellStep) (T:=83) (xs:=[a2]) [(0,.agg #[.int .u8 a2.Kind,.int .u8 a2.S.Kind,.bool a2.S.Purl,iv a2.S.A,iv a2.S.B])] 1 [.agg #[.int .u8 a2.Kind,.int .u8 a2.S.Kind,.bool a2.S.Purl,iv a2.S.A,iv a2.S.B]] [.int .u8 a2.Kind,.int .u8 a2.S.Kind,.bool a2.S.Purl,iv a2.S.A,iv a2.S.B] (.agg #[.int .u8 0,.int .u8 0,.bool false,iv 0,iv 0]) 32 S (wN d) d d Try.underlying48 d (by decide) (by decide) (by kernel_rfl) d (fun E1 w1 hE=>All.cons (r_api_CellStep.mono hE (S.mem.know (i:=5) (e:=fRep r_api_CellStep (.agg #[.int .u8 a2.Kind,.int .u8 a2.S.Kind,.bool a2.S.Purl,iv a2.S.A,iv a2.S.B]) a2) d)) (All.nil _ _ _)) d d (lb d) fun a w bW bX S=>?_
  obtain ⟨cV,bY,h⟩:=bS h
  refine sApp (r:=r_api_CellStep) (T:=83) (xs:=ah) (ys:=[a2]) (v:=.slice a9 ah.length aa) (u:=.slice bW [a2].length bX) 5 (.agg #[.int .u8 0,.int .u8 0,.bool false,iv 0,iv 0]) 32 S (wN d) d Try.underlying48 d d (by decide) d d d (src_R (T:=83) 0 S.mem d) bY d (lb d) fun a w bZ c1 S=>sN S fun a S=>?_
  exact leafL (leafB (leafB (leafT (⟨cU,cV,aM,Option.some.inj h,bU,bV,bZ,c1,ai,aj,S.fix [2,0] [0,8] (by decide) d d d⟩))))
 refine sCondF S d aw (sSeq (fun dz c2=>sRegion (sBin _ S (wN d) d d d (bEq _ _ _ _ .u8 a2.Kind 2) d (lb d) fun a S=>sN S fun a S=>?_)))
 refine lT (c2 _ _ ?_)
 rcases iS h with ⟨ax,h⟩ | ⟨ax,h⟩
 rotate_left
 ·refine sCondF S d ax (sSeq (fun dA c3=>sRegion (sBin _ S (wN d) d d d (bEq _ _ _ _ .u8 a2.Kind 4) d (lb d) fun a S=>sN S fun a S=>?_)))
  refine lT (c3 _ _ ?_)
  rcases iS h with ⟨ay,h⟩ | ⟨ay,h⟩
  rotate_left
  ·refine sCondF S d ay ?_
   exact wp_skip (leafB (leafB (leafT (⟨ak,ah,aM,Option.some.inj h,a7,a8,a9,aa,ai,aj,S.fix [2,3] [0,8] (by decide) d d d⟩))))
  refine sCondT S d ay (sRegion (sM S fun a S=>?_))
  refine sLoadN (p:=av) (off:=0) (T:=81) (vs:=[.int .u8 a0.Kind,.bool a0.Purl,iv a0.A,iv a0.B]) 0 [.int .u8 a0.Kind,.bool a0.Purl,iv a0.A,iv a0.B] S (wN d) d d d d d d d (lb d) fun a S=>sBuild [(0,.int .u8 3),(1,.agg #[.int .u8 a0.Kind,.bool a0.Purl,iv a0.A,iv a0.B])] [.int .u8 3,.int .u8 a0.Kind,.bool a0.Purl,iv a0.A,iv a0.B] S (wN d) d d d d (lb d) fun a S=>?_
  have S:=S.learn (fRep r_api_CellStep (.agg #[.int .u8 3,.int .u8 a0.Kind,.bool a0.Purl,iv a0.A,iv a0.B]) (api_CellStep.mk 3 a0)) d
  refine sLit (r:=r_api_CellStep) (T:=83) (xs:=[(api_CellStep.mk 3 a0)]) [(0,.agg #[.int .u8 3,.int .u8 a0.Kind,.bool a0.Purl,iv a0.A,iv a0.B])] 1 [.agg #[.int .u8 3,.int .u8 a0.Kind,.bool a0.Purl,iv a0.A,iv a0.B]] [.int .u8 3,.int .u8 a0.Kind,.bool a0.Purl,iv a0.A,iv a0.B] (.agg #[.int .u8 0,.int .u8 0,.bool false,iv 0,iv 0]) 32 S (wN d) d d Try.underlying48 d (by decide) (by decide) (by kernel_rfl) d (fun E1 w1 hE=>All.cons (r_api_CellStep.mono hE (S.mem.know (i:=0) (e:=fRep r_api_CellStep (.agg #[.int .u8 3,.int .u8 a0.Kind,.bool a0.Purl,iv a0.A,iv a0.B]) (api_CellStep.mk 3 a0)) d)) (All.nil _ _ _)) d d (lb d) fun a w c4 c5 S=>?_
  obtain ⟨cW,c6,h⟩:=bS h
  refine sApp (r:=r_api_CellStep) (T:=83) (xs:=ah) (ys:=[(api_CellStep.mk 3 a0)]) (v:=.slice a9 ah.length aa) (u:=.slice c4 [(api_CellStep.mk 3 a0)].length c5) 4 (.agg #[.int .u8 0,.int .u8 0,.bool false,iv 0,iv 0]) 32 S (wN d) d Try.underlying48 d d (by decide) d d d (src_R (T:=83) 0 S.mem d) c6 d (lb d) fun a w c7 c8 S=>sN S fun a S=>?_
  exact leafL (leafB (leafB (leafT (⟨ak,cW,aM,Option.some.inj h,a7,a8,c7,c8,ai,aj,S.fix [4,0] [1,9] (by decide) d d d⟩))))
 refine sCondT S d ax (sSeq (fun dB c9=>sSeq (fun dC ca=>sRegion (sField (b:=aC) (off:=0) 1 1 S (wN d) d d d d d (lb d) fun a S=>sLoadN (p:=aC) (off:=1) (T:=83) (vs:=[.int .u8 a2.Kind,.int .u8 a2.S.Kind,.bool a2.S.Purl,iv a2.S.A,iv a2.S.B]) 1 [.int .u8 a2.S.Kind,.bool a2.S.Purl,iv a2.S.A,iv a2.S.B] S (wN d) d d d d d d d (lb d) fun a S=>sLoadN (p:=av) (off:=0) (T:=81) (vs:=[.int .u8 a0.Kind,.bool a0.Purl,iv a0.A,iv a0.B]) 0 [.int .u8 a0.Kind,.bool a0.Purl,iv a0.A,iv a0.B] S (wN d) d d d d d d d (lb d) fun a S=>sBin _ S (wN d) d d d (bEqV _ _ _ _ #[.int .u8 a2.S.Kind,.bool a2.S.Purl,iv a2.S.A,iv a2.S.B] #[.int .u8 a0.Kind,.bool a0.Purl,iv a0.A,iv a0.B] ((a2.S.Kind == a0.Kind) && ((a2.S.Purl == a0.Purl) && ((a2.S.A == a0.A) && ((a2.S.B == a0.B) && true)))) (by kernel_rfl) (eqlV_of (by kernel_rfl))) d (lb d) fun a S=>lT (ca _ _ ?_)))))
 rcases iS h with ⟨az,h⟩ | ⟨az,h⟩
 ·refine sCondT S d az (sSeq (fun dD cb=>sRegion (sN S fun a S=>?_)))
  refine sN S fun a S=>?_
  refine sN S fun a S=>?_
  refine lT (cb _ _ ?_)
  obtain rfl:=tS h
  have h:=cL
  try dsimp only at h
  obtain rfl:=tS h
  obtain rfl:=aX _ d
  have h:=cI
  try dsimp only at h
  obtain rfl:=tS h
  have h:=cG
  try dsimp only at h
  obtain rfl:=tS h
  have S:=S.learn (fRep (rL r_api_Stitch) (.slice none 0 0) ([]:(List api_Stitch))) (rL_nil _ _ _)
  have S:=S.learn (fRep (rL r_api_CellStep) (.slice none 0 0) ([]:(List api_CellStep))) (rL_nil _ _ _)
  exact wp_ret (rThen (rBlock (rBlock (rThen (rThen (rBlock (rThen (sRet (.tuple #[.slice none 0 0,.slice none 0 0,iv 30]) S (rsl3 d (rvT (t:=4) (v:=.slice none 0 0) S d) (rvT (t:=5) (v:=.slice none 0 0) S d) (rvT (t:=6) (v:=iv 30) S d)) ⟨((.slice none 0 0),(.slice none 0 0)),d,S.mem.sel [] [1,0] (by decide) d d⟩))))))))
 refine sCondF S d az (wp_skip (leafT (c9 _ _ ?_)))
 refine sSeq (fun dE cc=>sRegion (sM S fun a S=>?_))
 refine sField (b:=aC) (off:=0) 1 1 S (wN d) d d d d d (lb d) fun a S=>sLoadN (p:=aC) (off:=1) (T:=83) (vs:=[.int .u8 a2.Kind,.int .u8 a2.S.Kind,.bool a2.S.Purl,iv a2.S.A,iv a2.S.B]) 1 [.int .u8 a2.S.Kind,.bool a2.S.Purl,iv a2.S.A,iv a2.S.B] S (wN d) d d d d d d d (lb d) fun a S=>?_
 have S:=S.learn (fRep r_api_Stitch (.agg #[.int .u8 a2.S.Kind,.bool a2.S.Purl,iv a2.S.A,iv a2.S.B]) a2.S) d
 refine sLit (r:=r_api_Stitch) (T:=81) (xs:=[a2.S]) [(0,.agg #[.int .u8 a2.S.Kind,.bool a2.S.Purl,iv a2.S.A,iv a2.S.B])] 1 [.agg #[.int .u8 a2.S.Kind,.bool a2.S.Purl,iv a2.S.A,iv a2.S.B]] [.int .u8 a2.S.Kind,.bool a2.S.Purl,iv a2.S.A,iv a2.S.B] (.agg #[.int .u8 0,.bool false,iv 0,iv 0]) 24 S (wN d) d d Try.underlying47 d (by decide) (by decide) (by kernel_rfl) d (fun E1 w1 hE=>All.cons (r_api_Stitch.mono hE (S.mem.know (i:=0) (e:=fRep r_api_Stitch (.agg #[.int .u8 a2.S.Kind,.bool a2.S.Purl,iv a2.S.A,iv a2.S.B]) a2.S) d)) (All.nil _ _ _)) d d (lb d) fun a w cd ce S=>?_
 obtain ⟨cX,cf,h⟩:=bS h
 refine sApp (r:=r_api_Stitch) (T:=81) (xs:=ak) (ys:=[a2.S]) (v:=.slice a7 ak.length a8) (u:=.slice cd [a2.S].length ce) 3 (.agg #[.int .u8 0,.bool false,iv 0,iv 0]) 24 S (wN d) d Try.underlying47 d d (by decide) d d d (src_R (T:=81) 0 S.mem d) cf d (lb d) fun a w cg ci S=>sN S fun a S=>?_
 refine lT (cc _ _ (sRegion (sM S fun a S=>?_)))
 refine sLoadN (p:=av) (off:=0) (T:=81) (vs:=[.int .u8 a0.Kind,.bool a0.Purl,iv a0.A,iv a0.B]) 2 [.int .u8 a0.Kind,.bool a0.Purl,iv a0.A,iv a0.B] S (wN d) d d d d d d d (lb d) fun a S=>sBuild [(0,.int .u8 2),(1,.agg #[.int .u8 a0.Kind,.bool a0.Purl,iv a0.A,iv a0.B])] [.int .u8 2,.int .u8 a0.Kind,.bool a0.Purl,iv a0.A,iv a0.B] S (wN d) d d d d (lb d) fun a S=>?_
 have S:=S.learn (fRep r_api_CellStep (.agg #[.int .u8 2,.int .u8 a0.Kind,.bool a0.Purl,iv a0.A,iv a0.B]) (api_CellStep.mk 2 a0)) d
 refine sLit (r:=r_api_CellStep) (T:=83) (xs:=[(api_CellStep.mk 2 a0)]) [(0,.agg #[.int .u8 2,.int .u8 a0.Kind,.bool a0.Purl,iv a0.A,iv a0.B])] 1 [.agg #[.int .u8 2,.int .u8 a0.Kind,.bool a0.Purl,iv a0.A,iv a0.B]] [.int .u8 2,.int .u8 a0.Kind,.bool a0.Purl,iv a0.A,iv a0.B] (.agg #[.int .u8 0,.int .u8 0,.bool false,iv 0,iv 0]) 32 S (wN d) d d Try.underlying48 d (by decide) (by decide) (by kernel_rfl) d (fun E1 w1 hE=>All.cons (r_api_CellStep.mono hE (S.mem.know (i:=0) (e:=fRep r_api_CellStep (.agg #[.int .u8 2,.int .u8 a0.Kind,.bool a0.Purl,iv a0.A,iv a0.B]) (api_CellStep.mk 2 a0)) d)) (All.nil _ _ _)) d d (lb d) fun a w cj ck S=>?_
 obtain ⟨cY,cl,h⟩:=bS h
 refine sApp (r:=r_api_CellStep) (T:=83) (xs:=ah) (ys:=[(api_CellStep.mk 2 a0)]) (v:=.slice a9 ah.length aa) (u:=.slice cj [(api_CellStep.mk 2 a0)].length ck) 5 (.agg #[.int .u8 0,.int .u8 0,.bool false,iv 0,iv 0]) 32 S (wN d) d Try.underlying48 d d (by decide) d d d (src_R (T:=83) 0 S.mem d) cl d (lb d) fun a w cm cn S=>sN S fun a S=>?_
 exact leafL (leafB (leafB (leafT (⟨cX,cY,aM,Option.some.inj h,cg,ci,cm,cn,ai,aj,S.fix [2,0] [2,10] (by decide) d d d⟩))))
noncomputable def F_compare_Patch (p0:(List api_Stitch)) (p1:(List api_CellStep)):Option ((List api_Stitch) × Int):=
 (F_compare_walk p0 p1).bind fun r7=>
 some (r7.1,r7.2.2)
def c_compare_Patch_val (r:((List api_Stitch) × Int)) (x:Value):Value:=.tuple #[x,.int .i64 r.2]
def c_compare_Patch_D (r:((List api_Stitch) × Int)) (x:Value):List Fact:=[fRep (rL r_api_Stitch) x r.1]
theorem c_compare_Patch (E:Nat→Prop) (w0:World) (p0:(List api_Stitch)) (v0:Value) (p1:(List api_CellStep)) (v1:Value) (r:((List api_Stitch) × Int)) (h:F_compare_Patch p0 p1=some r) (S:St0 E [] w0 w0 [] [fRep (rL r_api_Stitch) (v0) p0,fRep (rL r_api_CellStep) (v1) p1]) :
 Calls Try.prog 25 #[v0,v1] w0 (Ret (X:=Value) E [] w0 (c_compare_Patch_val r) (fun _=>[]) (c_compare_Patch_D r)):=by
 unfold F_compare_Patch at h
 obtain ⟨a6,a7,_,rfl,_⟩:=S.know (i:=0) (e:=fRep (rL r_api_Stitch) (v0) p0) d
 obtain ⟨a8,a9,_,rfl,_⟩:=S.know (i:=1) (e:=fRep (rL r_api_CellStep) (v1) p1) d
 refine sEnter (args:=[.slice a6 p0.length a7,.slice a8 p1.length a9]) 18 Try.func25 d d (by simp) S (fun a S=>?_)
 refine sSeq (fun K5 ab=>sRegion (sN S fun a S=>?_))
 refine sN S fun a S=>?_
 refine lT (ab _ _ (sSeq (fun K6 ac=>sRegion (sM S fun a S=>?_))))
 refine sM S fun a S=>?_
 obtain ⟨r7,ae,h⟩:=bS h
 refine sCall (X:=Value × Value) (f:=58) (vs:=[.slice a6 p0.length a7,.slice a8 p1.length a9]) (val:=c_compare_walk_val r7) (B':=fun _=>[]) (D':=c_compare_walk_D r7) [] [] [fRep (rL r_api_Stitch) (.slice a6 p0.length a7) p0,fRep (rL r_api_CellStep) (.slice a8 p1.length a9) p1] [] [0,1] S (wN d) d callee58 d (by decide) d d (fun E1 w1 S1=>c_compare_walk E1 w1 p0 (.slice a6 p0.length a7) p1 (.slice a8 p1.length a9) r7 ae S1) d (lb d) fun xx a w S=>?_
 obtain ⟨u9,af⟩:=xx
 obtain ⟨a0,a2,_,rfl,_⟩:=S.mem.know (i:=0) (e:=fRep (rL r_api_Stitch) (u9) r7.1) d
 obtain ⟨a4,a5,_,rfl,_⟩:=S.mem.know (i:=1) (e:=fRep (rL r_api_CellStep) (af) r7.2.1) d
 refine sM S fun a S=>?_
 refine sExtract (vs:=[.slice a0 r7.1.length a2,.slice a4 r7.2.1.length a5,iv r7.2.2]) (.slice a0 r7.1.length a2) S (wN d) d d d d (lb d) fun a S=>sExtract (vs:=[.slice a0 r7.1.length a2,.slice a4 r7.2.1.length a5,iv r7.2.2]) (.slice a4 r7.2.1.length a5) S (wN d) d d d d (lb d) fun a S=>sExtract (vs:=[.slice a0 r7.1.length a2,.slice a4 r7.2.1.length a5,iv r7.2.2]) (iv r7.2.2) S (wN d) d d d d (lb d) fun a S=>sN S fun a S=>?_
 refine sN S fun a S=>?_
 refine sN S fun a S=>?_
 refine lT (ac _ _ (sSeq (fun ag aa=>sRegion (sM S fun a S=>?_))))
 refine sM S fun a S=>?_
 refine sN S fun a S=>?_
 refine sN S fun a S=>?_
 refine lT (aa _ _ ?_)
 obtain rfl:=tS h
 exact wp_ret (sRet (.tuple #[.slice a0 r7.1.length a2,iv r7.2.2]) S (rsl2 d (rvT (t:=4) (v:=.slice a0 r7.1.length a2) S d) (rvT (t:=5) (v:=iv r7.2.2) S d)) ⟨(.slice a0 r7.1.length a2),d,S.mem.sel [] [0] (by decide) d d⟩)
noncomputable def F_compare_Back (p0:(List api_Stitch)) (p1:(List api_CellStep)):Option ((List api_CellStep) × Int):=
 (F_compare_walk p0 p1).bind fun r7=>
 some (r7.2.1,r7.2.2)
def c_compare_Back_val (r:((List api_CellStep) × Int)) (x:Value):Value:=.tuple #[x,.int .i64 r.2]
def c_compare_Back_D (r:((List api_CellStep) × Int)) (x:Value):List Fact:=[fRep (rL r_api_CellStep) x r.1]
theorem c_compare_Back (E:Nat→Prop) (w0:World) (p0:(List api_Stitch)) (v0:Value) (p1:(List api_CellStep)) (v1:Value) (r:((List api_CellStep) × Int)) (h:F_compare_Back p0 p1=some r) (S:St0 E [] w0 w0 [] [fRep (rL r_api_Stitch) (v0) p0,fRep (rL r_api_CellStep) (v1) p1]) :
 Calls Try.prog 27 #[v0,v1] w0 (Ret (X:=Value) E [] w0 (c_compare_Back_val r) (fun _=>[]) (c_compare_Back_D r)):=by
 unfold F_compare_Back at h
 obtain ⟨a6,a7,_,rfl,_⟩:=S.know (i:=0) (e:=fRep (rL r_api_Stitch) (v0) p0) d
 obtain ⟨a8,a9,_,rfl,_⟩:=S.know (i:=1) (e:=fRep (rL r_api_CellStep) (v1) p1) d
 refine sEnter (args:=[.slice a6 p0.length a7,.slice a8 p1.length a9]) 18 Try.func27 d d (by simp) S (fun a S=>?_)
 refine sSeq (fun K5 ab=>sRegion (sN S fun a S=>?_))
 refine sN S fun a S=>?_
 refine lT (ab _ _ (sSeq (fun K6 ac=>sRegion (sM S fun a S=>?_))))
 refine sM S fun a S=>?_
 obtain ⟨r7,ae,h⟩:=bS h
 refine sCall (X:=Value × Value) (f:=58) (vs:=[.slice a6 p0.length a7,.slice a8 p1.length a9]) (val:=c_compare_walk_val r7) (B':=fun _=>[]) (D':=c_compare_walk_D r7) [] [] [fRep (rL r_api_Stitch) (.slice a6 p0.length a7) p0,fRep (rL r_api_CellStep) (.slice a8 p1.length a9) p1] [] [0,1] S (wN d) d callee58 d (by decide) d d (fun E1 w1 S1=>c_compare_walk E1 w1 p0 (.slice a6 p0.length a7) p1 (.slice a8 p1.length a9) r7 ae S1) d (lb d) fun xx a w S=>?_
 obtain ⟨u9,af⟩:=xx
 obtain ⟨a4,a5,_,rfl,_⟩:=S.mem.know (i:=0) (e:=fRep (rL r_api_Stitch) (u9) r7.1) d
 obtain ⟨a0,a2,_,rfl,_⟩:=S.mem.know (i:=1) (e:=fRep (rL r_api_CellStep) (af) r7.2.1) d
 refine sM S fun a S=>?_
 refine sExtract (vs:=[.slice a4 r7.1.length a5,.slice a0 r7.2.1.length a2,iv r7.2.2]) (.slice a4 r7.1.length a5) S (wN d) d d d d (lb d) fun a S=>sExtract (vs:=[.slice a4 r7.1.length a5,.slice a0 r7.2.1.length a2,iv r7.2.2]) (.slice a0 r7.2.1.length a2) S (wN d) d d d d (lb d) fun a S=>sExtract (vs:=[.slice a4 r7.1.length a5,.slice a0 r7.2.1.length a2,iv r7.2.2]) (iv r7.2.2) S (wN d) d d d d (lb d) fun a S=>sN S fun a S=>?_
 refine sN S fun a S=>?_
 refine sN S fun a S=>?_
 refine lT (ac _ _ (sSeq (fun ag aa=>sRegion (sM S fun a S=>?_))))
 refine sM S fun a S=>?_
 refine sN S fun a S=>?_
 refine sN S fun a S=>?_
 refine lT (aa _ _ ?_)
 obtain rfl:=tS h
 exact wp_ret (sRet (.tuple #[.slice a0 r7.2.1.length a2,iv r7.2.2]) S (rsl2 d (rvT (t:=4) (v:=.slice a0 r7.2.1.length a2) S d) (rvT (t:=5) (v:=iv r7.2.2) S d)) ⟨(.slice a0 r7.2.1.length a2),d,S.mem.sel [] [1] (by decide) d d⟩)
def anc_raddleref46_Same_0:List (List Nat):=[[],[],[0,1],[0,1,2],[],[],[4,5],[4,5,6],[0,1,2,3,4,5,6,7]]
noncomputable def raddleref46_Same_l1 (p0:(List api_CellStep)) (p1:(List api_CellStep)):Int→Option (Int ⊕ (Bool ⊕ Unit)):=fun s0=>match s0 with
 | a4=>
  if decide (a4 < (p0.length:Int)) then
   (idxO p0 a4).bind fun a0=>
   (idxO p1 a4).bind fun a2=>
   if !((a0.Kind == a2.Kind) && (((a0.S.Kind == a2.S.Kind) && ((a0.S.Purl == a2.S.Purl) && ((a0.S.A == a2.S.A) && ((a0.S.B == a2.S.B) && true)))) && true)) then
    some (.inr (.inl false))
   else
    some (.inl (w64 (a4 + 1)))
  else
   some (.inr (.inr ()))
noncomputable def F_raddleref46_Same (p0:(List api_CellStep)) (p1:(List api_CellStep)):Option Bool:=
 if (p0.length:Int) != (p1.length:Int) then
  some false
 else
  Option.bind (α:=Unit ⊕ Bool) (
   (whileO (raddleref46_Same_l1 p0 p1) 0).bind fun z0=>match z0 with
    | .inl z=>
     some (.inr z)
    | .inr _=>
     some (.inl ())) fun z0=>match z0 with
   | .inl _=>
    some true
   | .inr z=>
    some z
theorem c_raddleref46_Same (E:Nat→Prop) (w0:World) (p0:(List api_CellStep)) (v0:Value) (p1:(List api_CellStep)) (v1:Value) (r:Bool) (h:F_raddleref46_Same p0 p1=some r) (S:St0 E [] w0 w0 [] [fRep (rL r_api_CellStep) (v0) p0,fRep (rL r_api_CellStep) (v1) p1]) :
 Calls Try.prog 29 #[v0,v1] w0 (Ret (X:=Unit) E [] w0 (fun _=>.bool r) (fun _=>[]) (fun _=>[])):=by
 unfold F_raddleref46_Same at h
 obtain ⟨a7,a8,_,rfl,_⟩:=S.know (i:=0) (e:=fRep (rL r_api_CellStep) (v0) p0) d
 obtain ⟨a9,aa,_,rfl,_⟩:=S.know (i:=1) (e:=fRep (rL r_api_CellStep) (v1) p1) d
 refine sEnter (args:=[.slice a7 p0.length a8,.slice a9 p1.length aa]) 26 Try.func29 d d (by simp) S (fun a S=>?_)
 refine sSeq (fun K5 ay=>sRegion (sN S fun a S=>?_))
 refine lT (ay _ _ (sSeq (fun K6 az=>sSeq (fun K7 aA=>sRegion (sM S fun a S=>?_)))))
 refine sLen S (wN d) d Try.underlying48 d d (lb d) fun a S=>sM S fun a S=>?_
 refine sLen S (wN d) d Try.underlying48 d d (lb d) fun a S=>sBin _ S (wN d) d d d (bNe _ _ _ _ .i64 (p0.length:Int) (p1.length:Int)) d (lb d) fun a S=>lT (aA _ _ ?_)
 rcases iS h with ⟨ac,h⟩ | ⟨ac,h⟩
 ·refine sCondT S d ac (sSeq (fun K9 aC=>sRegion (sN S fun a S=>?_)))
  refine lT (aC _ _ ?_)
  obtain rfl:=tS h
  exact wp_ret (rThen (sRet (.bool false) S (rsl1 d (rvT (t:=4) (v:=.bool false) S d)) ⟨(),d,S.mem.sel [] [] (by decide) d d⟩))
 refine sCondF S d ac (wp_skip (leafT (az _ _ ?_)))
 obtain ⟨aG,h,au⟩:=bS h
 refine sCut (fun a w=>.inl ()=aG∧St [] E [] w0 26 a w [] [] []) ?_ (fun a w hI=>?_)
 rotate_left
 ·obtain ⟨rfl,S⟩:=hI
  have h:=au
  try dsimp only at h
  refine sSeq (fun aH ae=>sRegion (sN S fun a S=>?_))
  refine lT (ae _ _ ?_)
  obtain rfl:=tS h
  exact wp_ret (sRet (.bool true) S (rsl1 d (rvT (t:=4) (v:=.bool true) S d)) ⟨(),d,S.mem.sel [] [] (by decide) d d⟩)
 refine sSeq (fun aI af=>sRegion (sN S fun a S=>?_))
 refine lT (af _ _ (wp_block ?_))
 obtain ⟨aJ,hl,av⟩:=bS h
 refine sLoop hl (fun s0 a w=>match s0 with | a4=>St [] E [] w0 26 a w [(0,.slice a7 p0.length a8),(1,.slice a9 p1.length aa),(5,iv a4)] [] [fRep (rL r_api_CellStep) (.slice a7 p0.length a8) p0,fRep (rL r_api_CellStep) (.slice a9 p1.length aa) p1]) (S.fix [] [0,1] (by decide) d d d) ?_
 clear hl h
 intro a4 a w c0 hI h ab
 unfold raddleref46_Same_l1 at h
 dsimp only at h hI
 have S:=hI
 refine sSeq (fun aK ag=>sSeq (fun aL ah=>sRegion (sM S fun a S=>?_)))
 refine sM S fun a S=>?_
 refine sLen S (wN d) d Try.underlying48 d d (lb d) fun a S=>sBin _ S (wN d) d d d (bLt _ _ _ _ .i64 a4 (p0.length:Int)) d (lb d) fun a S=>lT (ah _ _ ?_)
 rcases iS h with ⟨a5,h⟩ | ⟨a5,h⟩
 rotate_left
 ·refine sCondF S d a5 ?_
  obtain rfl:=tS h
  obtain rfl:=ab _ d
  have h:=av
  try dsimp only at h
  exact wp_exit (xThen (xThen (xHit (leafT (⟨Option.some.inj h,S.fix [] [] (by decide) d d d⟩)))))
 refine sCondT S d a5 (wp_skip (leafT (ag _ _ ?_)))
 refine sSeq (fun aM ai=>wp_block ?_)
 refine sSeq (fun aO aj=>?_)
 obtain ⟨a0,ak,h⟩:=bS h
 obtain ⟨a2,al,h⟩:=bS h
 obtain ⟨am,ao,S⟩:=pIdx (P:=Try.prog) (r:=r_api_CellStep) (v:=.slice a7 p0.length a8) (xs:=p0) (j:=a4) 48 83 0 S Try.underlying48 d d ak
 obtain ⟨aw,S⟩:=pLoad (r:=r_api_CellStep) (q:=am) (x:=a0) 0 S d
 obtain rfl:aw=.agg #[.int .u8 a0.Kind,.int .u8 a0.S.Kind,.bool a0.S.Purl,iv a0.S.A,iv a0.S.B]:=S.mem.know (i:=1) (e:=fRep r_api_CellStep (aw) a0) d
 obtain ⟨ap,aq,S⟩:=pIdx (P:=Try.prog) (r:=r_api_CellStep) (v:=.slice a9 p1.length aa) (xs:=p1) (j:=a4) 48 83 4 S Try.underlying48 d d al
 obtain ⟨ax,S⟩:=pLoad (r:=r_api_CellStep) (q:=ap) (x:=a2) 0 S d
 obtain rfl:ax=.agg #[.int .u8 a2.Kind,.int .u8 a2.S.Kind,.bool a2.S.Purl,iv a2.S.A,iv a2.S.B]:=S.mem.know (i:=1) (e:=fRep r_api_CellStep (ax) a2) d
 refine sDraw (nf:=[]) (W:=[(0,17,.slice a7 p0.length a8),(1,18,iv a4),(2,19,am),(3,20,.agg #[.int .u8 a0.Kind,.int .u8 a0.S.Kind,.bool a0.S.Purl,iv a0.S.A,iv a0.S.B]),(4,21,.slice a9 p1.length aa),(5,22,iv a4),(6,23,ap),(7,24,.agg #[.int .u8 a2.Kind,.int .u8 a2.S.Kind,.bool a2.S.Purl,iv a2.S.A,iv a2.S.B]),(8,25,.bool (!((a0.Kind == a2.Kind) && (((a0.S.Kind == a2.S.Kind) && ((a0.S.Purl == a2.S.Purl) && ((a0.S.A == a2.S.A) && ((a0.S.B == a2.S.B) && true)))) && true))))]) d S ?_
 refine node_by (A:=anc_raddleref46_Same_0) 9 (by kernel_rfl) (by kernel_rfl) (by kernel_rfl) (by kernel_rfl) (by kernel_rfl) [0,1,2,3,4,5,6,7,8] (by kernel_rfl) (by decide) (by decide) (fF ?_ (fF ?_ (fF ?_ (fF ?_ (fF ?_ (fF ?_ (fF ?_ (fF ?_ (fF ?_ (trivial)))))))))) [(0,.slice a7 p0.length a8),(1,.slice a9 p1.length aa),(5,iv a4),(25,.bool (!((a0.Kind == a2.Kind) && (((a0.S.Kind == a2.S.Kind) && ((a0.S.Purl == a2.S.Purl) && ((a0.S.A == a2.S.A) && ((a0.S.B == a2.S.B) && true)))) && true))))] (fin_of [none,none,none,some 8] d (by kernel_rfl) (by kernel_rfl)) (fun _ a w S=>?_)
 ·exact fM 0 none d d d d (.inl d) d d d
 ·exact fM 1 none d d d d (.inl d) d d d
 ·refine fJ [(17,_),(18,_)] 2 [some 0,some 1] fun G a w S=>?_
  exact sIdxV S (wN d) d d d ao d (lb d) fun a S=>leafL ⟨d,S⟩
 ·refine fJ [(19,_)] 3 [some 2] fun G a w S=>?_
  exact sLoadVN (vq:=am) 3 [.int .u8 a0.Kind,.int .u8 a0.S.Kind,.bool a0.S.Purl,iv a0.S.A,iv a0.S.B] S (wN d) d d d d d d (lb d) fun a S=>leafL ⟨d,S⟩
 ·exact fM 4 none d d d d (.inl d) d d d
 ·exact fM 5 none d d d d (.inl d) d d d
 ·refine fJ [(21,_),(22,_)] 6 [some 4,some 5] fun G a w S=>?_
  exact sIdxV S (wN d) d d d aq d (lb d) fun a S=>leafL ⟨d,S⟩
 ·refine fJ [(23,_)] 7 [some 6] fun G a w S=>?_
  exact sLoadVN (vq:=ap) 0 [.int .u8 a2.Kind,.int .u8 a2.S.Kind,.bool a2.S.Purl,iv a2.S.A,iv a2.S.B] S (wN d) d d d d d d (lb d) fun a S=>leafL ⟨d,S⟩
 ·refine fJ [(20,_),(24,_)] 8 [some 3,some 7] fun G a w S=>?_
  exact sBin _ S (wN d) d d d (bNeV _ _ _ _ #[.int .u8 a0.Kind,.int .u8 a0.S.Kind,.bool a0.S.Purl,iv a0.S.A,iv a0.S.B] #[.int .u8 a2.Kind,.int .u8 a2.S.Kind,.bool a2.S.Purl,iv a2.S.A,iv a2.S.B] ((a0.Kind == a2.Kind) && (((a0.S.Kind == a2.S.Kind) && ((a0.S.Purl == a2.S.Purl) && ((a0.S.A == a2.S.A) && ((a0.S.B == a2.S.B) && true)))) && true)) (by kernel_rfl) (eqlV_of (by kernel_rfl))) d (lb d) fun a S=>leafL ⟨d,S⟩
 refine leafT (aj _ _ ?_)
 rcases iS h with ⟨a6,h⟩ | ⟨a6,h⟩
 rotate_left
 ·refine sCondF S d a6 (wp_skip (leafB (leafT (ai _ _ ?_))))
  refine sRegion (sM S fun a S=>?_)
  refine sBin _ S (wN d) d d d (bAdd _ _ _ _ a4 1) d (lb d) fun a S=>sN S fun a S=>?_
  exact lT (⟨w64 (a4 + 1),(Option.some.inj h).symm,(S.fix [] [6,7] (by decide) d d d)⟩)
 refine sCondT S d a6 (sSeq (fun aP ar=>sRegion (sN S fun a S=>?_)))
 refine lT (ar _ _ ?_)
 obtain rfl:=tS h
 obtain rfl:=ab _ d
 have h:=av
 try dsimp only at h
 obtain rfl:=tS h
 have h:=au
 try dsimp only at h
 obtain rfl:=tS h
 exact wp_ret (rBlock (rThen (rThen (rBlock (rThen (sRet (.bool false) S (rsl1 d (rvT (t:=4) (v:=.bool false) S d)) ⟨(),d,S.mem.sel [] [] (by decide) d d⟩))))))
noncomputable def F_raddleref01_Zero_s0 (p0:Int) (p1:Int):Option api_Grid:=
 (makeO (w64 (p0 * p1)) false).bind fun m6=>
 some (api_Grid.mk p0 p1 m6)
theorem c_raddleref01_Zero_s0 (E:Nat→Prop) (w0:World) (p0:Int) (p1:Int) (r:api_Grid) (h:F_raddleref01_Zero_s0 p0 p1=some r) (S:St0 E [] w0 w0 [] []) :
 Calls Try.prog 66 #[iv p0,iv p1] w0 (Ret (X:=Option Addr × Nat) E [] w0 (fun x=>.agg #[iv r.W,iv r.H,.slice x.1 r.Bits.length x.2]) (fun x=>[eRow rB 4 (.slice x.1 r.Bits.length x.2) r.Bits]) (fun _=>[])):=by
 unfold F_raddleref01_Zero_s0 at h
 refine sEnter (args:=[iv p0,iv p1]) 12 Try.func66 d d (by simp) S (fun a S=>?_)
 refine sSeq (fun K1 a4=>sRegion (sAlloc (.agg #[iv 0,iv 0,.slice none 0 0]) S (wN d) d d [iv 0,iv 0,.slice none 0 0] d d (lb d) fun a b2 w S=>lT (a4 _ _ (sSeq (fun K3 a5=>sRegion (sM S fun a S=>?_))))))
 refine sM S fun a S=>?_
 refine sM S fun a S=>?_
 refine sM S fun a S=>?_
 refine sBin _ S (wN d) d d d (bMul _ _ _ _ p0 p1) d (lb d) fun a S=>?_
 obtain ⟨m6,a6,h⟩:=bS h
 refine sMake (r:=rB) (m:=w64 (p0 * p1)) (xs:=m6) (.bool false) false 1 S (wN d) d Try.underlying22 d d (by decide) (fun _ _=>d) d d a6 d (lb d) fun a w a0 a2 S=>sBuild [(0,iv p0),(1,iv p1),(2,.slice a0 m6.length a2)] [iv p0,iv p1,.slice a0 m6.length a2] S (wN d) d d d d (lb d) fun a S=>sStore (p:=b2) (off:=0) (T:=24) (vs:=[iv 0,iv 0,.slice none 0 0]) (v:=.agg #[iv p0,iv p1,.slice a0 m6.length a2]) 1 [iv p0,iv p1,.slice a0 m6.length a2] S (wN d) d d d d d d d (by simp) d fun a w S=>lT (a5 _ _ ?_)
 obtain rfl:=tS h
 exact wp_ret (sRet (.agg #[iv p0,iv p1,.slice a0 m6.length a2]) S (rsl1 d (rvN (c:=4) (t:=24) (T:=24) (p:=b2) 0 [iv p0,iv p1,.slice a0 m6.length a2] S d d d d)) ⟨(a0,a2),d,S.mem.sel [1] [] (by decide) d d⟩)
noncomputable def F_raddleref01_Set_s0 (p0:Int) (p1:Int) (p2:(List Bool)) (p3:Int) (p4:Int) (p5:Bool):Option (List Bool):=
 (idxO p2 (w64 ((w64 (p4 * p0)) + p3))).bind fun x3=>
 (setO p2 (w64 ((w64 (p4 * p0)) + p3)) p5).bind fun l8=>
 (keepO p2 l8).bind fun _=>
 some l8
theorem c_raddleref01_Set_s0 (E:Nat→Prop) (w0:World) (p0:Int) (p1:Int) (p2:(List Bool)) (ad_2:Option Addr) (cp_2:Nat) (p3:Int) (p4:Int) (p5:Bool) (r:(List Bool)) (h:F_raddleref01_Set_s0 p0 p1 p2 p3 p4 p5=some r) (S:St0 E (keysL [eRow rB 4 (.slice ad_2 p2.length cp_2) p2]) w0 w0 [eRow rB 4 (.slice ad_2 p2.length cp_2) p2] []) :
 Calls Try.prog 67 #[.agg #[iv p0,iv p1,.slice ad_2 p2.length cp_2],iv p3,iv p4,.bool p5] w0 (Ret (X:=Unit) E (keysL [eRow rB 4 (.slice ad_2 p2.length cp_2) p2]) w0 (fun _=>.tuple #[]) (fun _=>[eRow rB 4 (.slice ad_2 p2.length cp_2) r]) (fun _=>[])):=by
 unfold F_raddleref01_Set_s0 at h
 refine sEnter (args:=[.agg #[iv p0,iv p1,.slice ad_2 p2.length cp_2],iv p3,iv p4,.bool p5]) 18 Try.func67 d d (by simp) S (fun a S=>?_)
 refine sSeq (fun K1 a4=>sRegion (sBox (v:=.agg #[iv p0,iv p1,.slice ad_2 p2.length cp_2]) S (wN d) d d [iv p0,iv p1,.slice ad_2 p2.length cp_2] d d (lb d) fun a b2 w S=>lT (a4 _ _ (sRegion (sField (b:=b2) (off:=0) 2 2 S (wN d) d d d d d (lb d) fun a S=>sLoad1 0 (.slice ad_2 p2.length cp_2) S (wN d) d d d d d d (lb d) fun a S=>sM S fun a S=>?_)))))
 refine sField (b:=b2) (off:=0) 0 0 S (wN d) d d d d d (lb d) fun a S=>sLoad1 0 (iv p0) S (wN d) d d d d d d (lb d) fun a S=>sBin _ S (wN d) d d d (bMul _ _ _ _ p4 p0) d (lb d) fun a S=>sM S fun a S=>?_
 refine sBin _ S (wN d) d d d (bAdd _ _ _ _ (w64 (p4 * p0)) p3) d (lb d) fun a S=>sM S fun a S=>?_
 obtain ⟨x3,a5,h⟩:=bS h
 obtain ⟨q5,a6,a7⟩:=pIdxR (P:=Try.prog) (r:=rB) (T:=4) (v:=.slice ad_2 p2.length cp_2) (xs:=p2) (j:=w64 ((w64 (p4 * p0)) + p3)) 22 4 1 S Try.underlying22 d d a5
 refine sIdxV S (wN d) d d d a6 d (lb d) fun a S=>?_
 obtain ⟨l8,a2,h⟩:=bS h
 refine sStoreR (r:=rB) (T:=4) (xs:=p2) (ys:=l8) (y:=p5) (v:=.slice ad_2 p2.length cp_2) (vq:=q5) (u:=.bool p5) (j:=w64 ((w64 (p4 * p0)) + p3)) 1 S a7 (wN d) d d d d d a2 d d fun a w S=>?_
 rw [setO_v a2 ad_2 cp_2] at S
 obtain ⟨_,a0,h⟩:=bS h
 rw [keepO_v a0 ad_2 cp_2] at S
 obtain rfl:=tS h
 exact leafL (sEnd (.tuple #[]) S (rsl0 d ) ⟨(),d,S.mem.sel [0] [] (by decide) d d⟩)
def anc_raddleref01_Parse_0:List (List Nat):=[[],[],[1],[0,1,2],[],[4],[4,5],[],[],[8],[7,8,9],[4,5,6,7,8,9,10],[0,1,2,3],[0,1,2,3,4,5,6,7,8,9,10,11,12]]
noncomputable def raddleref01_Parse_l1 (p0:ByteArray):Int→Option (Int ⊕ Int):=fun s0=>match s0 with
 | s7=>
  Option.bind (α:=Bool) (
   if decide (s7 < (p0.size:Int)) then
    (idxS p0 s7).bind fun a0=>
    some (a0 != 10)
   else
    some false) fun a2=>
  if a2 then
   some (.inl (w64 (s7 + 1)))
  else
   some (.inr s7)
noncomputable def raddleref01_Parse_l2 (p0:ByteArray) (o4:Int) (a4:api_Grid):(Int × List Bool)→Option ((Int × List Bool) ⊕ ((api_Grid × Int) ⊕ (List Bool))):=fun s0=>match s0 with
 | (a0,a5)=>
  if decide (a0 < (p0.size:Int)) then
   Option.bind (α:=List Bool ⊕ (api_Grid × Int)) (
    (remI a0 (w64 (o4 + 1))).bind fun a6=>
    (quoI a0 (w64 (o4 + 1))).bind fun a7=>
    Option.bind (α:=Bool) (
     (idxS p0 a0).bind fun a2=>
     if (a2 == 10) != (a6 == o4) then
      some true
     else
      if a2 != 10 then
       if a2 != 120 then
        some (a2 != 46)
       else
        some false
      else
       some false) fun a8=>
    if a8 then
     some (.inr ((api_Grid.mk 0 0 ([]:(List Bool))),12))
    else
     (idxS p0 a0).bind fun a9=>
     if a9 == 120 then
      (F_raddleref01_Set_s0 a4.W a4.H a5 a6 (w64 ((w64 (a4.H - 1)) - a7)) true).bind fun aa=>
      some (.inl aa)
     else
      some (.inl a5)) fun z0=>match z0 with
    | .inl ab=>
     some (.inl (w64 (a0 + 1),ab))
    | .inr z=>
     some (.inr (.inl z))
  else
   some (.inr (.inr a5))
noncomputable def F_raddleref01_Parse (p0:ByteArray):Option (api_Grid × Int):=
 Option.bind (α:=Int) (
  (whileO (raddleref01_Parse_l1 p0) 0).bind fun a2=>
   some a2) fun o4=>
 Option.bind (α:=Bool) (
  if decide (o4 < 1) then
   some true
  else
   if decide (64 < o4) then
    some true
   else
    (remI (p0.size:Int) (w64 (o4 + 1))).bind fun a4=>
    if a4 != 0 then
     some true
    else
     (quoI (p0.size:Int) (w64 (o4 + 1))).bind fun a5=>
     some (decide (64 < a5))) fun a6=>
 if a6 then
  some ((api_Grid.mk 0 0 ([]:(List Bool))),12)
 else
  (quoI (p0.size:Int) (w64 (o4 + 1))).bind fun a7=>
  (F_raddleref01_Zero_s0 o4 a7).bind fun a0=>
  Option.bind (α:=List Bool ⊕ (api_Grid × Int)) (
   (whileO (raddleref01_Parse_l2 p0 o4 a0) (0,a0.Bits)).bind fun z0=>match z0 with
    | .inl z=>
     some (.inr z)
    | .inr a8=>
     some (.inl a8)) fun z0=>match z0 with
   | .inl a9=>
    some ((api_Grid.mk a0.W a0.H a9),0)
   | .inr z=>
    some z
def c_raddleref01_Parse_val (r:(api_Grid × Int)) (x:Value):Value:=.tuple #[x,.int .i64 r.2]
def c_raddleref01_Parse_D (r:(api_Grid × Int)) (x:Value):List Fact:=[fRep r_api_Grid x r.1]
theorem c_raddleref01_Parse (E:Nat→Prop) (w0:World) (p0:ByteArray) (r:(api_Grid × Int)) (h:F_raddleref01_Parse p0=some r) (S:St0 E [] w0 w0 [] []) :
 Calls Try.prog 77 #[.string p0] w0 (Ret (X:=Value) E [] w0 (c_raddleref01_Parse_val r) (fun _=>[]) (c_raddleref01_Parse_D r)):=by
 unfold F_raddleref01_Parse at h
 refine sEnter (args:=[.string p0]) 105 Try.func77 d d (by simp) S (fun a S=>?_)
 refine sSeq (fun K1 bi=>sRegion (sAlloc (.agg #[iv 0,iv 0,.slice none 0 0]) S (wN d) d d [iv 0,iv 0,.slice none 0 0] d d (lb d) fun a b2 w S=>sN S fun a S=>?_))
 refine lT (bi _ _ (sSeq (fun K3 bj=>sRegion (sN S fun a S=>?_))))
 refine lT (bj _ _ ?_)
 obtain ⟨t5,h,g6⟩:=bS h
 refine sCut (fun a w=>∃ o4,o4=t5∧St [] E [] w0 105 a w [(0,.string p0),(2,.pointer (some ⟨b2,0,none⟩)),(4,iv o4)] [eBox b2 24 [iv 0,iv 0,.slice none 0 0]] []) ?_ (fun a w hI=>?_)
 ·refine wp_block ?_
  obtain ⟨bv,hl,g9⟩:=bS h
  refine sLoop hl (fun s0 a w=>match s0 with | s7=>St [] E [] w0 105 a w [(0,.string p0),(2,.pointer (some ⟨b2,0,none⟩)),(4,iv s7)] [eBox b2 24 [iv 0,iv 0,.slice none 0 0]] []) (S.fix [0] [] (by decide) d d d) ?_
  clear hl h
  intro s7 a w c0 hI h bk
  unfold raddleref01_Parse_l1 at h
  dsimp only at h hI
  have S:=hI
  refine sSeq (fun bw aw=>?_)
  obtain ⟨bl,h,bm⟩:=bS h
  refine sCut (fun a w=>∃ ax,ax=bl∧St [] E [] w0 105 a w [(0,.string p0),(2,.pointer (some ⟨b2,0,none⟩)),(4,iv s7),(18,.bool ax)] [eBox b2 24 [iv 0,iv 0,.slice none 0 0]] []) ?_ (fun a w hI=>?_)
  rotate_left
  ·obtain ⟨ax,rfl,S⟩:=hI
   have h:=bm
   try dsimp only at h
   rcases iS h with ⟨al,h⟩ | ⟨al,h⟩
   rotate_left
   ·refine sCondF S d al ?_
    obtain rfl:=tS h
    obtain rfl:=bk _ d
    have h:=g9
    try dsimp only at h
    exact wp_exit (xThen (xThen (xHit (leafT (⟨s7,Option.some.inj h,S.fix [0] [] (by decide) d d d⟩)))))
   refine sCondT S d al (wp_skip (leafT (aw _ _ ?_)))
   refine wp_block ?_
   refine sRegion (sM S fun a S=>?_)
   refine sBin _ S (wN d) d d d (bAdd _ _ _ _ s7 1) d (lb d) fun a S=>sN S fun a S=>?_
   exact leafL (leafB (leafT (⟨w64 (s7 + 1),(Option.some.inj h).symm,(S.fix [0] [] (by decide) d d d)⟩)))
  refine sRegion (sM S fun a S=>?_)
  refine sM S fun a S=>?_
  refine sLenS (v:=p0) S (wN d) d Try.underlying9 d d (lb d) fun a S=>sBin _ S (wN d) d d d (bLt _ _ _ _ .i64 s7 (p0.size:Int)) d (lb d) fun a S=>sM S fun a S=>?_
  rcases iS h with ⟨ab,h⟩ | ⟨ab,h⟩
  rotate_left
  ·refine sSkN 4 4 true 13 S d d ab d fun a S=>sPickF (.bool false) S (wN d) d d ab d d (lb d) fun a S=>?_
   exact lT (⟨false,Option.some.inj h,S.fix [0] [] (by decide) d d d⟩)
  refine sMove (.string p0) S (wG 4 true 13 d d d ab) (.inl d) d d (lb d) fun a S=>sMove (iv s7) S (wG 4 true 13 d d d ab) (.inl d) d d (lb d) fun a S=>?_
  obtain ⟨ay,az,h⟩:=bS h
  refine sIndexS (v:=p0) (j:=s7) (k:=.i64) S (wG 4 true 13 d d d ab) d Try.underlying9 d d az d (lb d) fun a S=>sBin _ S (wG 4 true 13 d d d ab) d d d (bNe _ _ _ _ .u8 ay 10) d (lb d) fun a S=>sPickT (.bool (ay != 10)) S (wN d) d d ab d d (lb d) fun a S=>?_
  exact lT (⟨ay != 10,Option.some.inj h,S.fix [0] [] (by decide) d d d⟩)
 obtain ⟨o4,rfl,S⟩:=hI
 have h:=g6
 try dsimp only at h
 refine sSeq (fun bx aA=>?_)
 obtain ⟨bn,h,bo⟩:=bS h
 refine sCut (fun a w=>∃ aC,aC=bn∧St [] E [] w0 105 a w [(0,.string p0),(2,.pointer (some ⟨b2,0,none⟩)),(4,iv o4),(42,.bool aC)] [eBox b2 24 [iv 0,iv 0,.slice none 0 0]] []) ?_ (fun a w hI=>?_)
 ·refine sRegion (sM S fun a S=>?_)
  refine sBin _ S (wN d) d d d (bLt _ _ _ _ .i64 o4 1) d (lb d) fun a S=>sM S fun a S=>?_
  rcases iS h with ⟨ag,h⟩ | ⟨ag,h⟩
  ·refine sSkN 2 2 false 23 S d d ag d fun a S=>sPickT (.bool true) S (wN d) d d ag d d (lb d) fun a S=>sM S fun a S=>?_
   refine sSkN 6 6 false 27 S d d d d fun a S=>sPickT (.bool true) S (wN d) d d d d d (lb d) fun a S=>sM S fun a S=>?_
   refine sSkN 6 14 false 35 S d d d d fun a S=>sPickT (.bool true) S (wN d) d d d d d (lb d) fun a S=>?_
   exact lT (⟨true,Option.some.inj h,S.fix [0] [] (by decide) d d d⟩)
  refine sMove (iv o4) S (wG 2 false 23 d d d ag) (.inl d) d d (lb d) fun a S=>sBin _ S (wG 2 false 23 d d d ag) d d d (bGt _ _ _ _ .i64 o4 64) d (lb d) fun a S=>sPickF (.bool (decide (64 < o4))) S (wN d) d d ag d d (lb d) fun a S=>sM S fun a S=>?_
  rcases iS h with ⟨a6,h⟩ | ⟨a6,h⟩
  ·refine sSkN 6 6 false 27 S d d a6 d fun a S=>sPickT (.bool true) S (wN d) d d a6 d d (lb d) fun a S=>sM S fun a S=>?_
   refine sSkN 6 14 false 35 S d d d d fun a S=>sPickT (.bool true) S (wN d) d d d d d (lb d) fun a S=>?_
   exact lT (⟨true,Option.some.inj h,S.fix [0] [] (by decide) d d d⟩)
  refine sMove (.string p0) S (wG 6 false 27 d d d a6) (.inl d) d d (lb d) fun a S=>sLenS (v:=p0) S (wG 6 false 27 d d d a6) d Try.underlying9 d d (lb d) fun a S=>sMove (iv o4) S (wG 6 false 27 d d d a6) (.inl d) d d (lb d) fun a S=>sBin _ S (wG 6 false 27 d d d a6) d d d (bAdd _ _ _ _ o4 1) d (lb d) fun a S=>?_
  obtain ⟨bb,aG,h⟩:=bS h
  refine sBin _ S (wG 6 false 27 d d d a6) d d d (bRem _ _ _ _ (x:=(p0.size:Int)) (y:=w64 (o4 + 1)) aG) d (lb d) fun a S=>sBin _ S (wG 6 false 27 d d d a6) d d d (bNe _ _ _ _ .i64 bb 0) d (lb d) fun a S=>sPickF (.bool (bb != 0)) S (wN d) d d a6 d d (lb d) fun a S=>sM S fun a S=>?_
  rcases iS h with ⟨a7,h⟩ | ⟨a7,h⟩
  ·refine sSkN 6 14 false 35 S d d a7 d fun a S=>sPickT (.bool true) S (wN d) d d a7 d d (lb d) fun a S=>?_
   exact lT (⟨true,Option.some.inj h,S.fix [0] [] (by decide) d d d⟩)
  refine sMove (.string p0) S (wG 14 false 35 d d d a7) (.inl d) d d (lb d) fun a S=>sLenS (v:=p0) S (wG 14 false 35 d d d a7) d Try.underlying9 d d (lb d) fun a S=>sMove (iv o4) S (wG 14 false 35 d d d a7) (.inl d) d d (lb d) fun a S=>sBin _ S (wG 14 false 35 d d d a7) d d d (bAdd _ _ _ _ o4 1) d (lb d) fun a S=>?_
  obtain ⟨aH,aI,h⟩:=bS h
  refine sBin _ S (wG 14 false 35 d d d a7) d d d (bQuo _ _ _ _ (x:=(p0.size:Int)) (y:=w64 (o4 + 1)) aI) d (lb d) fun a S=>sBin _ S (wG 14 false 35 d d d a7) d d d (bGt _ _ _ _ .i64 aH 64) d (lb d) fun a S=>sPickF (.bool (decide (64 < aH))) S (wN d) d d a7 d d (lb d) fun a S=>?_
  exact lT (⟨decide (64 < aH),Option.some.inj h,S.fix [0] [] (by decide) d d d⟩)
 obtain ⟨aC,rfl,S⟩:=hI
 have h:=bo
 try dsimp only at h
 rcases iS h with ⟨am,h⟩ | ⟨am,h⟩
 ·refine sCondT S d am (sSeq (fun bz aJ=>sRegion (sBuild [] [iv 0,iv 0,.slice none 0 0] S (wN d) d d d d (lb d) fun a S=>sStore (p:=b2) (off:=0) (T:=24) (vs:=[iv 0,iv 0,.slice none 0 0]) (v:=.agg #[iv 0,iv 0,.slice none 0 0]) 0 [iv 0,iv 0,.slice none 0 0] S (wN d) d d d d d d d (by simp) d fun a w S=>sN S fun a S=>?_)))
  refine lT (aJ _ _ ?_)
  obtain rfl:=tS h
  have S:=S.learn (fRep (rL rB) (.slice none 0 0) ([]:(List Bool))) (rL_nil _ _ _)
  have S:=S.learn (fRep r_api_Grid (.agg #[iv 0,iv 0,.slice none 0 0]) (api_Grid.mk 0 0 ([]:(List Bool)))) ⟨_,d,S.mem.know (i:=0) (e:=fRep (rL rB) (.slice none 0 0) ([]:(List Bool))) d⟩
  exact wp_ret (rThen (sRet (.tuple #[.agg #[iv 0,iv 0,.slice none 0 0],iv 12]) S (rsl2 d (rvN (c:=2) (t:=24) (T:=24) (p:=b2) 0 [iv 0,iv 0,.slice none 0 0] S d d d d) (rvT (t:=3) (v:=iv 12) S d)) ⟨(.agg #[iv 0,iv 0,.slice none 0 0]),d,S.mem.sel [] [0] (by decide) d d⟩))
 refine sCondF S d am (wp_skip (leafT (aA _ _ ?_)))
 refine sSeq (fun bA aK=>sRegion (sM S fun a S=>?_))
 refine sM S fun a S=>?_
 refine sLenS (v:=p0) S (wN d) d Try.underlying9 d d (lb d) fun a S=>sM S fun a S=>?_
 refine sBin _ S (wN d) d d d (bAdd _ _ _ _ o4 1) d (lb d) fun a S=>?_
 obtain ⟨bc,aL,h⟩:=bS h
 refine sBin _ S (wN d) d d d (bQuo _ _ _ _ (x:=(p0.size:Int)) (y:=w64 (o4 + 1)) aL) d (lb d) fun a S=>?_
 obtain ⟨a0,aM,h⟩:=bS h
 refine sCall (X:=Option Addr × Nat) (f:=66) (vs:=[iv o4,iv bc]) (val:=fun x=>.agg #[iv a0.W,iv a0.H,.slice x.1 a0.Bits.length x.2]) (B':=fun x=>[eRow rB 4 (.slice x.1 a0.Bits.length x.2) a0.Bits]) (D':=fun _=>[]) [] [eBox b2 24 [iv 0,iv 0,.slice none 0 0]] [] [0] [] S (wN d) d callee66 d (by decide) d d (fun E1 w1 S1=>c_raddleref01_Zero_s0 E1 w1 o4 bc a0 aM S1) d (lb d) fun xx a w S=>?_
 obtain ⟨a2,a4⟩:=xx
 dsimp only at S
 refine sAlloc (.agg #[iv 0,iv 0,.slice none 0 0]) S (wN d) d d [iv 0,iv 0,.slice none 0 0] d d (lb d) fun a af w S=>sStore (p:=af) (off:=0) (T:=24) (vs:=[iv 0,iv 0,.slice none 0 0]) (v:=.agg #[iv a0.W,iv a0.H,.slice a2 a0.Bits.length a4]) 0 [iv a0.W,iv a0.H,.slice a2 a0.Bits.length a4] S (wN d) d d d d d d d (by simp) d fun a w S=>lT (aK _ _ ?_)
 obtain ⟨bp,h,bf⟩:=bS h
 refine sCut (fun a w=>∃ a9,.inl a9=bp∧St [] E [] w0 105 a w [(2,.pointer (some ⟨b2,0,none⟩)),(5,.pointer (some ⟨af,0,none⟩))] [eBox b2 24 [iv 0,iv 0,.slice none 0 0],eBox af 24 [iv a0.W,iv a0.H,.slice a2 a9.length a4],eRow rB 4 (.slice a2 a9.length a4) a9] []) ?_ (fun a w hI=>?_)
 rotate_left
 ·obtain ⟨a9,rfl,S⟩:=hI
  have h:=bf
  try dsimp only at h
  refine sSeq (fun bB aO=>sRegion (sLoadN (p:=af) (off:=0) (T:=24) (vs:=[iv a0.W,iv a0.H,.slice a2 a9.length a4]) 1 [iv a0.W,iv a0.H,.slice a2 a9.length a4] S (wN d) d d d d d d d (lb d) fun a S=>sStore (p:=b2) (off:=0) (T:=24) (vs:=[iv 0,iv 0,.slice none 0 0]) (v:=.agg #[iv a0.W,iv a0.H,.slice a2 a9.length a4]) 0 [iv a0.W,iv a0.H,.slice a2 a9.length a4] S (wN d) d d d d d d d (by simp) d fun a w S=>sN S fun a S=>?_))
  refine lT (aO _ _ ?_)
  obtain rfl:=tS h
  have S:=S.shutR (r:=rB) (T:=4) (v:=.slice a2 a9.length a4) (xs:=a9) 2 d
  have S:=S.learn (fRep r_api_Grid (.agg #[iv a0.W,iv a0.H,.slice a2 a9.length a4]) (api_Grid.mk a0.W a0.H a9)) ⟨_,d,S.mem.know (i:=0) (e:=fRep (rL rB) (.slice a2 a9.length a4) a9) d⟩
  exact wp_ret (sRet (.tuple #[.agg #[iv a0.W,iv a0.H,.slice a2 a9.length a4],iv 0]) S (rsl2 d (rvN (c:=2) (t:=24) (T:=24) (p:=b2) 0 [iv a0.W,iv a0.H,.slice a2 a9.length a4] S d d d d) (rvT (t:=3) (v:=iv 0) S d)) ⟨(.agg #[iv a0.W,iv a0.H,.slice a2 a9.length a4]),d,S.mem.sel [] [0] (by decide) d d⟩)
 refine sSeq (fun bC aP=>sRegion (sN S fun a S=>?_))
 refine lT (aP _ _ (wp_block ?_))
 obtain ⟨bD,hl,bg⟩:=bS h
 refine sLoop hl (fun s0 a w=>match s0 with | (a8,aa)=>St [] E [] w0 105 a w [(0,.string p0),(2,.pointer (some ⟨b2,0,none⟩)),(4,iv o4),(5,.pointer (some ⟨af,0,none⟩)),(6,iv a8)] [eBox b2 24 [iv 0,iv 0,.slice none 0 0],eBox af 24 [iv a0.W,iv a0.H,.slice a2 aa.length a4],eRow rB 4 (.slice a2 aa.length a4) aa] []) (S.fix [2,0,1] [] (by decide) d d d) ?_
 clear hl h
 intro s0 a w c0 hI h au
 obtain ⟨a8,aa⟩:=s0
 unfold raddleref01_Parse_l2 at h
 dsimp only at h hI
 have S:=hI
 refine sSeq (fun bE aQ=>sSeq (fun bF aR=>sRegion (sM S fun a S=>?_)))
 refine sM S fun a S=>?_
 refine sLenS (v:=p0) S (wN d) d Try.underlying9 d d (lb d) fun a S=>sBin _ S (wN d) d d d (bLt _ _ _ _ .i64 a8 (p0.size:Int)) d (lb d) fun a S=>lT (aR _ _ ?_)
 rcases iS h with ⟨ao,h⟩ | ⟨ao,h⟩
 rotate_left
 ·refine sCondF S d ao ?_
  obtain rfl:=tS h
  obtain rfl:=au _ d
  have h:=bg
  try dsimp only at h
  exact wp_exit (xThen (xThen (xHit (leafT (⟨aa,Option.some.inj h,S.fix [0,1,2] [] (by decide) d d d⟩)))))
 refine sCondT S d ao (wp_skip (leafT (aQ _ _ ?_)))
 obtain ⟨bq,h,bh⟩:=bS h
 refine sCut (fun a w=>∃ ar,.inl ar=bq∧St [] E [] w0 105 a w [(0,.string p0),(2,.pointer (some ⟨b2,0,none⟩)),(4,iv o4),(5,.pointer (some ⟨af,0,none⟩)),(6,iv a8)] [eBox b2 24 [iv 0,iv 0,.slice none 0 0],eBox af 24 [iv a0.W,iv a0.H,.slice a2 ar.length a4],eRow rB 4 (.slice a2 ar.length a4) ar] []) ?_ (fun a w hI=>?_)
 rotate_left
 ·obtain ⟨ar,rfl,S⟩:=hI
  have h:=bh
  try dsimp only at h
  refine sRegion (sM S fun a S=>?_)
  refine sBin _ S (wN d) d d d (bAdd _ _ _ _ a8 1) d (lb d) fun a S=>sN S fun a S=>?_
  exact lT (⟨(w64 (a8 + 1),ar),(Option.some.inj h).symm,(S.fix [0,1,2] [] (by decide) d d d)⟩)
 refine wp_block ?_
 refine sSeq (fun bG aS=>?_)
 obtain ⟨aj,aT,h⟩:=bS h
 obtain ⟨ak,aU,h⟩:=bS h
 refine sDraw (nf:=[]) (W:=[(0,57,iv a8),(1,58,iv o4),(2,59,iv (w64 (o4 + 1))),(3,60,iv aj),(4,61,.pointer (some ⟨af,1,none⟩)),(5,62,iv a0.H),(6,63,iv (w64 (a0.H - 1))),(7,64,iv a8),(8,65,iv o4),(9,66,iv (w64 (o4 + 1))),(10,67,iv ak),(11,68,iv (w64 ((w64 (a0.H - 1)) - ak))),(12,7,iv aj),(13,8,iv (w64 ((w64 (a0.H - 1)) - ak)))]) d S ?_
 refine node_by (A:=anc_raddleref01_Parse_0) 14 (by kernel_rfl) (by kernel_rfl) (by kernel_rfl) (by kernel_rfl) (by kernel_rfl) [0,1,2,3,4,5,6,7,8,9,10,11,12,13] (by kernel_rfl) (by decide) (by decide) (fF ?_ (fF ?_ (fF ?_ (fF ?_ (fF ?_ (fF ?_ (fF ?_ (fF ?_ (fF ?_ (fF ?_ (fF ?_ (fF ?_ (fF ?_ (fF ?_ (trivial))))))))))))))) [(0,.string p0),(2,.pointer (some ⟨b2,0,none⟩)),(4,iv o4),(5,.pointer (some ⟨af,0,none⟩)),(6,iv a8),(7,iv aj),(8,iv (w64 ((w64 (a0.H - 1)) - ak)))] (fin_of [none,none,none,none,none,some 12,some 13] d (by kernel_rfl) (by kernel_rfl)) (fun _ a w S=>?_)
 ·exact fM 0 none d d d d (.inl d) d d d
 ·exact fM 1 none d d d d (.inl d) d d d
 ·refine fJ [(58,_)] 2 [some 1] fun G a w S=>?_
  exact sBin _ S (wN d) d d d (bAdd _ _ _ _ o4 1) d (lb d) fun a S=>leafL ⟨d,S⟩
 ·refine fJ [(57,_),(59,_)] 3 [some 0,some 2] fun G a w S=>?_
  exact sBin _ S (wN d) d d d (bRem _ _ _ _ (x:=a8) (y:=w64 (o4 + 1)) aT) d (lb d) fun a S=>leafL ⟨d,S⟩
 ·refine fJ [(5,_)] 4 [none] fun G a w S=>?_
  exact sField (b:=af) (off:=0) 1 1 S (wN d) d d d d d (lb d) fun a S=>leafL ⟨d,S⟩
 ·refine fJ [(61,_)] 5 [some 4] fun G a w S=>?_
  exact sLoad1 1 (iv a0.H) S (wN d) d d d d d d (lb d) fun a S=>leafL ⟨d,S⟩
 ·refine fJ [(62,_)] 6 [some 5] fun G a w S=>?_
  exact sBin _ S (wN d) d d d (bSub _ _ _ _ a0.H 1) d (lb d) fun a S=>leafL ⟨d,S⟩
 ·exact fM 7 none d d d d (.inl d) d d d
 ·exact fM 8 none d d d d (.inl d) d d d
 ·refine fJ [(65,_)] 9 [some 8] fun G a w S=>?_
  exact sBin _ S (wN d) d d d (bAdd _ _ _ _ o4 1) d (lb d) fun a S=>leafL ⟨d,S⟩
 ·refine fJ [(64,_),(66,_)] 10 [some 7,some 9] fun G a w S=>?_
  exact sBin _ S (wN d) d d d (bQuo _ _ _ _ (x:=a8) (y:=w64 (o4 + 1)) aU) d (lb d) fun a S=>leafL ⟨d,S⟩
 ·refine fJ [(63,_),(67,_)] 11 [some 6,some 10] fun G a w S=>?_
  exact sBin _ S (wN d) d d d (bSub _ _ _ _ (w64 (a0.H - 1)) ak) d (lb d) fun a S=>leafL ⟨d,S⟩
 ·exact fM 12 (some 3) d d d d (.inr d) d d d
 ·exact fM 13 (some 11) d d d d (.inr d) d d d
 refine leafT (aS _ _ ?_)
 refine sSeq (fun bH aV=>?_)
 obtain ⟨br,h,bt⟩:=bS h
 refine sCut (fun a w=>∃ aW,aW=br∧St [] E [] w0 105 a w [(0,.string p0),(2,.pointer (some ⟨b2,0,none⟩)),(4,iv o4),(5,.pointer (some ⟨af,0,none⟩)),(6,iv a8),(7,iv aj),(8,iv (w64 ((w64 (a0.H - 1)) - ak))),(94,.bool aW)] [eBox b2 24 [iv 0,iv 0,.slice none 0 0],eBox af 24 [iv a0.W,iv a0.H,.slice a2 aa.length a4],eRow rB 4 (.slice a2 aa.length a4) aa] []) ?_ (fun a w hI=>?_)
 rotate_left
 ·obtain ⟨aW,rfl,S⟩:=hI
  have h:=bt
  try dsimp only at h
  rcases iS h with ⟨ap,h⟩ | ⟨ap,h⟩
  ·refine sCondT S d ap (sSeq (fun bI aX=>sRegion (sBuild [] [iv 0,iv 0,.slice none 0 0] S (wN d) d d d d (lb d) fun a S=>sStore (p:=b2) (off:=0) (T:=24) (vs:=[iv 0,iv 0,.slice none 0 0]) (v:=.agg #[iv 0,iv 0,.slice none 0 0]) 0 [iv 0,iv 0,.slice none 0 0] S (wN d) d d d d d d d (by simp) d fun a w S=>sN S fun a S=>?_)))
   refine lT (aX _ _ ?_)
   obtain rfl:=tS h
   have h:=bh
   try dsimp only at h
   obtain rfl:=tS h
   obtain rfl:=au _ d
   have h:=bg
   try dsimp only at h
   obtain rfl:=tS h
   have h:=bf
   try dsimp only at h
   obtain rfl:=tS h
   have S:=S.learn (fRep (rL rB) (.slice none 0 0) ([]:(List Bool))) (rL_nil _ _ _)
   have S:=S.learn (fRep r_api_Grid (.agg #[iv 0,iv 0,.slice none 0 0]) (api_Grid.mk 0 0 ([]:(List Bool)))) ⟨_,d,S.mem.know (i:=0) (e:=fRep (rL rB) (.slice none 0 0) ([]:(List Bool))) d⟩
   exact wp_ret (rThen (rBlock (rThen (rThen (rBlock (rThen (sRet (.tuple #[.agg #[iv 0,iv 0,.slice none 0 0],iv 12]) S (rsl2 d (rvN (c:=2) (t:=24) (T:=24) (p:=b2) 0 [iv 0,iv 0,.slice none 0 0] S d d d d) (rvT (t:=3) (v:=iv 12) S d)) ⟨(.agg #[iv 0,iv 0,.slice none 0 0]),d,S.mem.sel [] [0] (by decide) d d⟩)))))))
  refine sCondF S d ap (wp_skip (leafT (aV _ _ ?_)))
  refine sSeq (fun bJ aZ=>sRegion (sM S fun a S=>?_))
  refine sM S fun a S=>?_
  obtain ⟨bu,b0,h⟩:=bS h
  refine sIndexS (v:=p0) (j:=a8) (k:=.i64) S (wN d) d Try.underlying9 d d b0 d (lb d) fun a S=>sBin _ S (wN d) d d d (bEq _ _ _ _ .u8 bu 120) d (lb d) fun a S=>lT (aZ _ _ ?_)
  rcases iS h with ⟨aq,h⟩ | ⟨aq,h⟩
  rotate_left
  ·refine sCondF S d aq ?_
   exact wp_skip (leafB (leafT (⟨aa,Option.some.inj h,S.fix [0,1,2] [] (by decide) d d d⟩)))
  refine sCondT S d aq (sRegion (sLoadN (p:=af) (off:=0) (T:=24) (vs:=[iv a0.W,iv a0.H,.slice a2 aa.length a4]) 1 [iv a0.W,iv a0.H,.slice a2 aa.length a4] S (wN d) d d d d d d d (lb d) fun a S=>sM S fun a S=>?_))
  refine sM S fun a S=>?_
  obtain ⟨av,b1,h⟩:=bS h
  refine sCall (X:=Unit) (f:=67) (vs:=[.agg #[iv a0.W,iv a0.H,.slice a2 aa.length a4],iv aj,iv (w64 ((w64 (a0.H - 1)) - ak)),.bool true]) (val:=fun _=>.tuple #[]) (B':=fun _=>[eRow rB 4 (.slice a2 aa.length a4) av]) (D':=fun _=>[]) [eRow rB 4 (.slice a2 aa.length a4) aa] [eBox b2 24 [iv 0,iv 0,.slice none 0 0],eBox af 24 [iv a0.W,iv a0.H,.slice a2 aa.length a4]] [] [2,0,1] [] S (wN d) d callee67 d (by decide) d d (fun E1 w1 S1=>c_raddleref01_Set_s0 E1 w1 a0.W a0.H aa a2 a4 aj (w64 ((w64 (a0.H - 1)) - ak)) true av b1 S1) d (lb d) fun _ a w S=>?_
  have ba:=row_v (S.mem.hold (i:=0) (e:=eRow rB 4 (.slice a2 aa.length a4) av) d)
  rw [ba] at S
  exact leafL (leafB (leafT (⟨av,Option.some.inj h,S.fix [1,2,0] [] (by decide) d d d⟩)))
 refine sRegion (sM S fun a S=>?_)
 refine sM S fun a S=>?_
 obtain ⟨ah,ai,h⟩:=bS h
 refine sIndexS (v:=p0) (j:=a8) (k:=.i64) S (wN d) d Try.underlying9 d d ai d (lb d) fun a S=>sBin _ S (wN d) d d d (bEq _ _ _ _ .u8 ah 10) d (lb d) fun a S=>sM S fun a S=>?_
 refine sM S fun a S=>?_
 refine sBin _ S (wN d) d d d (bEq _ _ _ _ .i64 aj o4) d (lb d) fun a S=>sBin _ S (wN d) d d d (bNeB _ _ _ _ Try.underlying4 (ah == 10) (aj == o4)) d (lb d) fun a S=>sM S fun a S=>?_
 rcases iS h with ⟨a5,h⟩ | ⟨a5,h⟩
 ·refine sSkN 5 8 false 77 S d d a5 d fun a S=>sSkipU 13 true 82 83 S d d d d (lb d) fun a S=>?_
  refine sSkipU 13 true 82 84 S d d d d (lb d) fun a S=>?_
  refine sSkipU 13 true 82 85 S d d d d (lb d) fun a S=>?_
  refine sSkipU 13 true 82 86 S d d d d (lb d) fun a S=>?_
  refine sSkN 2 8 false 77 S d d a5 d fun a S=>sSkipU 19 true 88 89 S d d d d (lb d) fun a S=>?_
  refine sSkipU 19 true 88 90 S d d d d (lb d) fun a S=>?_
  refine sSkipU 19 true 88 91 S d d d d (lb d) fun a S=>?_
  refine sSkipU 19 true 88 92 S d d d d (lb d) fun a S=>?_
  refine sSk S d d d a5 d d fun a S=>sPickT (.bool true) S (wN d) d d a5 d d (lb d) fun a S=>?_
  exact lT (⟨true,Option.some.inj h,S.fix [0,1,2] [] (by decide) d d d⟩)
 refine sMove (.string p0) S (wG 8 false 77 d d d a5) (.inl d) d d (lb d) fun a S=>sMove (iv a8) S (wG 8 false 77 d d d a5) (.inl d) d d (lb d) fun a S=>sIndexS (v:=p0) (j:=a8) (k:=.i64) S (wG 8 false 77 d d d a5) d Try.underlying9 d d ai d (lb d) fun a S=>sBin _ S (wG 8 false 77 d d d a5) d d d (bNe _ _ _ _ .u8 ah 10) d (lb d) fun a S=>sMove (.bool (ah != 10)) S (wG 8 false 77 d d d a5) (.inl d) d d (lb d) fun a S=>?_
 rcases iS h with ⟨ac,h⟩ | ⟨ac,h⟩
 rotate_left
 ·refine sSkN 4 13 true 82 S d d ac d fun a S=>sPickF (.bool false) S (wG 8 false 77 d d d a5) d d ac d d (lb d) fun a S=>sMove (.bool false) S (wG 8 false 77 d d d a5) (.inl d) d d (lb d) fun a S=>sSkN 4 19 true 88 S d d d d fun a S=>sPickF (.bool false) S (wG 8 false 77 d d d a5) d d d d d (lb d) fun a S=>sPickF (.bool false) S (wN d) d d a5 d d (lb d) fun a S=>?_
  exact lT (⟨false,Option.some.inj h,S.fix [0,1,2] [] (by decide) d d d⟩)
 refine sMove (.string p0) S (wG 13 true 82 d d d ac) (.inl d) d d (lb d) fun a S=>sMove (iv a8) S (wG 13 true 82 d d d ac) (.inl d) d d (lb d) fun a S=>sIndexS (v:=p0) (j:=a8) (k:=.i64) S (wG 13 true 82 d d d ac) d Try.underlying9 d d ai d (lb d) fun a S=>sBin _ S (wG 13 true 82 d d d ac) d d d (bNe _ _ _ _ .u8 ah 120) d (lb d) fun a S=>sPickT (.bool (ah != 120)) S (wG 8 false 77 d d d a5) d d ac d d (lb d) fun a S=>sMove (.bool (ah != 120)) S (wG 8 false 77 d d d a5) (.inl d) d d (lb d) fun a S=>?_
 rcases iS h with ⟨ae,h⟩ | ⟨ae,h⟩
 rotate_left
 ·refine sSkN 4 19 true 88 S d d ae d fun a S=>sPickF (.bool false) S (wG 8 false 77 d d d a5) d d ae d d (lb d) fun a S=>sPickF (.bool false) S (wN d) d d a5 d d (lb d) fun a S=>?_
  exact lT (⟨false,Option.some.inj h,S.fix [0,1,2] [] (by decide) d d d⟩)
 refine sMove (.string p0) S (wG 19 true 88 d d d ae) (.inl d) d d (lb d) fun a S=>sMove (iv a8) S (wG 19 true 88 d d d ae) (.inl d) d d (lb d) fun a S=>sIndexS (v:=p0) (j:=a8) (k:=.i64) S (wG 19 true 88 d d d ae) d Try.underlying9 d d ai d (lb d) fun a S=>sBin _ S (wG 19 true 88 d d d ae) d d d (bNe _ _ _ _ .u8 ah 46) d (lb d) fun a S=>sPickT (.bool (ah != 46)) S (wG 8 false 77 d d d a5) d d ae d d (lb d) fun a S=>sPickF (.bool (ah != 46)) S (wN d) d d a5 d d (lb d) fun a S=>?_
 exact lT (⟨ah != 46,Option.some.inj h,S.fix [0,1,2] [] (by decide) d d d⟩)
noncomputable def F_raddlelaw46_cloth (p0:ByteArray):Option api_Grid:=
 (F_raddleref01_Parse p0).bind fun r4=>
 some r4.1
def c_raddlelaw46_cloth_val (r:api_Grid) (x:Value):Value:=x
def c_raddlelaw46_cloth_D (r:api_Grid) (x:Value):List Fact:=[fRep r_api_Grid x r]
theorem c_raddlelaw46_cloth (E:Nat→Prop) (w0:World) (p0:ByteArray) (r:api_Grid) (h:F_raddlelaw46_cloth p0=some r) (S:St0 E [] w0 w0 [] []) :
 Calls Try.prog 41 #[.string p0] w0 (Ret (X:=Value) E [] w0 (c_raddlelaw46_cloth_val r) (fun _=>[]) (c_raddlelaw46_cloth_D r)):=by
 unfold F_raddlelaw46_cloth at h
 refine sEnter (args:=[.string p0]) 11 Try.func41 d d (by simp) S (fun a S=>?_)
 refine sSeq (fun K1 a7=>sRegion (sAlloc (.agg #[iv 0,iv 0,.slice none 0 0]) S (wN d) d d [iv 0,iv 0,.slice none 0 0] d d (lb d) fun a b2 w S=>lT (a7 _ _ (sSeq (fun K3 a8=>sRegion (sM S fun a S=>?_))))))
 obtain ⟨r4,a9,h⟩:=bS h
 refine sCall (X:=Value) (f:=77) (vs:=[.string p0]) (val:=c_raddleref01_Parse_val r4) (B':=fun _=>[]) (D':=c_raddleref01_Parse_D r4) [] [eBox b2 24 [iv 0,iv 0,.slice none 0 0]] [] [0] [] S (wN d) d callee77 d (by decide) d d (fun E1 w1 S1=>c_raddleref01_Parse E1 w1 p0 r4 a9 S1) d (lb d) fun u6 a w S=>?_
 obtain ⟨u7,rfl,a5⟩:=S.mem.know (i:=0) (e:=fRep r_api_Grid (u6) r4.1) d
 have S:=S.learn (fRep (rL rB) u7 r4.1.Bits) a5
 obtain ⟨a2,a0,_,rfl,_⟩:=a5
 refine sM S fun a S=>?_
 refine sExtract (vs:=[.agg #[iv r4.1.W,iv r4.1.H,.slice a2 r4.1.Bits.length a0],iv r4.2]) (.agg #[iv r4.1.W,iv r4.1.H,.slice a2 r4.1.Bits.length a0]) S (wN d) d d d d (lb d) fun a S=>sExtract (vs:=[.agg #[iv r4.1.W,iv r4.1.H,.slice a2 r4.1.Bits.length a0],iv r4.2]) (iv r4.2) S (wN d) d d d d (lb d) fun a S=>sAlloc (.agg #[iv 0,iv 0,.slice none 0 0]) S (wN d) d d [iv 0,iv 0,.slice none 0 0] d d (lb d) fun a a6 w S=>sStore (p:=a6) (off:=0) (T:=24) (vs:=[iv 0,iv 0,.slice none 0 0]) (v:=.agg #[iv r4.1.W,iv r4.1.H,.slice a2 r4.1.Bits.length a0]) 0 [iv r4.1.W,iv r4.1.H,.slice a2 r4.1.Bits.length a0] S (wN d) d d d d d d d (by simp) d fun a w S=>sN S fun a S=>?_
 refine lT (a8 _ _ (sSeq (fun aa a4=>sRegion (sLoadN (p:=a6) (off:=0) (T:=24) (vs:=[iv r4.1.W,iv r4.1.H,.slice a2 r4.1.Bits.length a0]) 0 [iv r4.1.W,iv r4.1.H,.slice a2 r4.1.Bits.length a0] S (wN d) d d d d d d d (lb d) fun a S=>sStore (p:=b2) (off:=0) (T:=24) (vs:=[iv 0,iv 0,.slice none 0 0]) (v:=.agg #[iv r4.1.W,iv r4.1.H,.slice a2 r4.1.Bits.length a0]) 1 [iv r4.1.W,iv r4.1.H,.slice a2 r4.1.Bits.length a0] S (wN d) d d d d d d d (by simp) d fun a w S=>lT (a4 _ _ ?_)))))
 obtain rfl:=tS h
 exact wp_ret (sRet (.agg #[iv r4.1.W,iv r4.1.H,.slice a2 r4.1.Bits.length a0]) S (rsl1 d (rvN (c:=2) (t:=24) (T:=24) (p:=b2) 0 [iv r4.1.W,iv r4.1.H,.slice a2 r4.1.Bits.length a0] S d d d d)) ⟨(.agg #[iv r4.1.W,iv r4.1.H,.slice a2 r4.1.Bits.length a0]),d,S.mem.sel [] [1] (by decide) d d⟩)
noncomputable def F_raddleref25_Check (p0:api_Stitch):Option Int:=
 Option.bind (α:=Bool) (
  if p0.A == 0 then
   some (p0.B == 0)
  else
   some false) fun o3=>
 Option.bind (α:=Bool) (
  Option.bind (α:=Bool) (
   if p0.Kind == 1 then
    some (p0.Kind == 1)
   else
    some (p0.Kind == 8)) fun a0=>
  if a0 then
   some o3
  else
   if p0.Kind == 2 then
    if o3 then
     some (!p0.Purl)
    else
     some false
   else
    Option.bind (α:=Bool) (
     if p0.Kind == 3 then
      some (p0.Kind == 3)
     else
      if p0.Kind == 4 then
       some (p0.Kind == 4)
      else
       some (p0.Kind == 5)) fun a2=>
    if a2 then
     if p0.B == 0 then
      if decide (2 ≤ p0.A) then
       some (decide (p0.A ≤ 4))
      else
       some false
     else
      some false
    else
     Option.bind (α:=Bool) (
      if p0.Kind == 6 then
       some (p0.Kind == 6)
      else
       some (p0.Kind == 7)) fun a4=>
     if a4 then
      if decide (1 ≤ p0.A) then
       if decide (p0.A ≤ 6) then
        if decide (1 ≤ p0.B) then
         some (decide (p0.B ≤ 6))
        else
         some false
       else
        some false
      else
       some false
     else
      if p0.Kind == 9 then
       if p0.B == 0 then
        if !p0.Purl then
         if decide (1 ≤ p0.A) then
          some (decide (p0.A ≤ 200))
         else
          some false
        else
         some false
       else
        some false
      else
       if p0.Kind == 10 then
        if p0.B == 0 then
         if decide (1 ≤ p0.A) then
          some (decide (p0.A ≤ 200))
         else
          some false
        else
         some false
       else
        some false) fun o8=>
 if !o8 then
  some 8
 else
  some 0
theorem c_raddleref25_Check (E:Nat→Prop) (w0:World) (p0:api_Stitch) (v0:Value) (r:Int) (h:F_raddleref25_Check p0=some r) (S:St0 E [] w0 w0 [] [fRep r_api_Stitch (v0) p0]) :
 Calls Try.prog 73 #[v0] w0 (Ret (X:=Unit) E [] w0 (fun _=>.int .i64 r) (fun _=>[]) (fun _=>[])):=by
 unfold F_raddleref25_Check at h
 obtain rfl:v0=.agg #[.int .u8 p0.Kind,.bool p0.Purl,iv p0.A,iv p0.B]:=S.know (i:=0) (e:=fRep r_api_Stitch (v0) p0) d
 refine sEnter (args:=[.agg #[.int .u8 p0.Kind,.bool p0.Purl,iv p0.A,iv p0.B]]) 102 Try.func73 d d (by simp) S (fun a S=>?_)
 refine sSeq (fun K1 aM=>sRegion (sBox (v:=.agg #[.int .u8 p0.Kind,.bool p0.Purl,iv p0.A,iv p0.B]) S (wN d) d d [.int .u8 p0.Kind,.bool p0.Purl,iv p0.A,iv p0.B] d d (lb d) fun a b2 w S=>sN S fun a S=>?_))
 refine lT (aM _ _ ?_)
 obtain ⟨t4,h,g5⟩:=bS h
 refine sCut (fun a w=>∃ o3,o3=t4∧St [] E [] w0 102 a w [(1,.pointer (some ⟨b2,0,none⟩)),(3,.bool o3)] [eBox b2 81 [.int .u8 p0.Kind,.bool p0.Purl,iv p0.A,iv p0.B]] []) ?_ (fun a w hI=>?_)
 ·refine sRegion (sField (b:=b2) (off:=0) 2 2 S (wN d) d d d d d (lb d) fun a S=>sLoad1 0 (iv p0.A) S (wN d) d d d d d d (lb d) fun a S=>sBin _ S (wN d) d d d (bEq _ _ _ _ .i64 p0.A 0) d (lb d) fun a S=>sM S fun a S=>?_)
  rcases iS h with ⟨ae,h⟩ | ⟨ae,h⟩
  rotate_left
  ·refine sSkN 3 3 true 8 S d d ae d fun a S=>sPickF (.bool false) S (wN d) d d ae d d (lb d) fun a S=>sN S fun a S=>?_
   exact lT (⟨false,Option.some.inj h,S.fix [0] [] (by decide) d d d⟩)
  refine sField (b:=b2) (off:=0) 3 3 S (wG 3 true 8 d d d ae) d d d d d (lb d) fun a S=>sLoad1 0 (iv p0.B) S (wG 3 true 8 d d d ae) d d d d d d (lb d) fun a S=>sBin _ S (wG 3 true 8 d d d ae) d d d (bEq _ _ _ _ .i64 p0.B 0) d (lb d) fun a S=>sPickT (.bool (p0.B == 0)) S (wN d) d d ae d d (lb d) fun a S=>sN S fun a S=>?_
  exact lT (⟨p0.B == 0,Option.some.inj h,S.fix [0] [] (by decide) d d d⟩)
 obtain ⟨o3,rfl,S⟩:=hI
 have h:=g5
 try dsimp only at h
 refine sSeq (fun K7 aO=>sRegion (sN S fun a S=>?_))
 refine lT (aO _ _ ?_)
 obtain ⟨t9,h,aP⟩:=bS h
 refine sCut (fun a w=>∃ o8,o8=t9∧St [] E [] w0 102 a w [(4,.bool o8)] [] []) ?_ (fun a w hI=>?_)
 rotate_left
 ·obtain ⟨o8,rfl,S⟩:=hI
  have h:=aP
  try dsimp only at h
  refine sSeq (fun aW ar=>sSeq (fun aX au=>sRegion (sM S fun a S=>?_)))
  refine sNot (b:=o8) S (wN d) d d d (lb d) fun a S=>lT (au _ _ ?_)
  rcases iS h with ⟨af,h⟩ | ⟨af,h⟩
  ·refine sCondT S d af (sSeq (fun aZ av=>sRegion (sN S fun a S=>?_)))
   refine lT (av _ _ ?_)
   obtain rfl:=tS h
   exact wp_ret (rThen (sRet (iv 8) S (rsl1 d (rvT (t:=2) (v:=iv 8) S d)) ⟨(),d,S.mem.sel [] [] (by decide) d d⟩))
  refine sCondF S d af (wp_skip (leafT (ar _ _ ?_)))
  refine sSeq (fun b0 aw=>sRegion (sN S fun a S=>?_))
  refine lT (aw _ _ ?_)
  obtain rfl:=tS h
  exact wp_ret (sRet (iv 0) S (rsl1 d (rvT (t:=2) (v:=iv 0) S d)) ⟨(),d,S.mem.sel [] [] (by decide) d d⟩)
 refine sSeq (fun b1 ax=>sRegion (sField (b:=b2) (off:=0) 0 0 S (wN d) d d d d d (lb d) fun a S=>sLoad1 0 (.int .u8 p0.Kind) S (wN d) d d d d d d (lb d) fun a S=>lT (ax _ _ (wp_block ?_))))
 obtain ⟨aQ,h,aR⟩:=bS h
 refine sCut (fun a w=>∃ ay,ay=aQ∧St [] E [] w0 102 a w [(1,.pointer (some ⟨b2,0,none⟩)),(3,.bool o3),(4,.bool false),(14,.int .u8 p0.Kind),(15,.bool ay)] [eBox b2 81 [.int .u8 p0.Kind,.bool p0.Purl,iv p0.A,iv p0.B]] []) ?_ (fun a w hI=>?_)
 ·refine sSeq (fun ba az=>sRegion (sBin _ S (wN d) d d d (bEq _ _ _ _ .u8 p0.Kind 1) d (lb d) fun a S=>sN S fun a S=>?_))
  refine lT (az _ _ ?_)
  rcases iS h with ⟨ag,h⟩ | ⟨ag,h⟩
  ·refine sCondT S d ag ?_
   exact wp_skip (leafT (⟨p0.Kind == 1,Option.some.inj h,S.fix [0] [] (by decide) d d d⟩))
  refine sCondF S d ag (sRegion (sBin _ S (wN d) d d d (bEq _ _ _ _ .u8 p0.Kind 8) d (lb d) fun a S=>sN S fun a S=>?_))
  exact lT (⟨p0.Kind == 8,Option.some.inj h,S.fix [0] [] (by decide) d d d⟩)
 obtain ⟨ay,rfl,S⟩:=hI
 have h:=aR
 try dsimp only at h
 rcases iS h with ⟨ah,h⟩ | ⟨ah,h⟩
 ·refine sCondT S d ah (sRegion (sM S fun a S=>?_))
  refine sN S fun a S=>?_
  exact leafL (leafB (leafT (⟨o3,Option.some.inj h,S.fix [] [] (by decide) d d d⟩)))
 refine sCondF S d ah (sSeq (fun bb aA=>sRegion (sBin _ S (wN d) d d d (bEq _ _ _ _ .u8 p0.Kind 2) d (lb d) fun a S=>sN S fun a S=>?_)))
 refine lT (aA _ _ ?_)
 rcases iS h with ⟨ai,h⟩ | ⟨ai,h⟩
 ·refine sCondT S d ai (sRegion (sM S fun a S=>?_))
  refine sM S fun a S=>?_
  rcases iS h with ⟨a0,h⟩ | ⟨a0,h⟩
  rotate_left
  ·refine sSkN 3 1 true 22 S d d a0 d fun a S=>sPickF (.bool false) S (wN d) d d a0 d d (lb d) fun a S=>sN S fun a S=>?_
   exact leafL (leafB (leafT (⟨false,Option.some.inj h,S.fix [] [] (by decide) d d d⟩)))
  refine sField (b:=b2) (off:=0) 1 1 S (wG 1 true 22 d d d a0) d d d d d (lb d) fun a S=>sLoad1 0 (.bool p0.Purl) S (wG 1 true 22 d d d a0) d d d d d d (lb d) fun a S=>sNot (b:=p0.Purl) S (wG 1 true 22 d d d a0) d d d (lb d) fun a S=>sPickT (.bool (!p0.Purl)) S (wN d) d d a0 d d (lb d) fun a S=>sN S fun a S=>?_
  exact leafL (leafB (leafT (⟨!p0.Purl,Option.some.inj h,S.fix [] [] (by decide) d d d⟩)))
 refine sCondF S d ai ?_
 obtain ⟨aS,h,aT⟩:=bS h
 refine sCut (fun a w=>∃ aC,aC=aS∧St [] E [] w0 102 a w [(1,.pointer (some ⟨b2,0,none⟩)),(4,.bool false),(14,.int .u8 p0.Kind),(27,.bool aC)] [eBox b2 81 [.int .u8 p0.Kind,.bool p0.Purl,iv p0.A,iv p0.B]] []) ?_ (fun a w hI=>?_)
 ·refine sSeq (fun bc aG=>sRegion (sBin _ S (wN d) d d d (bEq _ _ _ _ .u8 p0.Kind 3) d (lb d) fun a S=>sN S fun a S=>?_))
  refine lT (aG _ _ ?_)
  rcases iS h with ⟨aj,h⟩ | ⟨aj,h⟩
  ·refine sCondT S d aj ?_
   exact wp_skip (leafT (⟨p0.Kind == 3,Option.some.inj h,S.fix [0] [] (by decide) d d d⟩))
  refine sCondF S d aj (sSeq (fun bf aH=>sRegion (sBin _ S (wN d) d d d (bEq _ _ _ _ .u8 p0.Kind 4) d (lb d) fun a S=>sN S fun a S=>?_)))
  refine lT (aH _ _ ?_)
  rcases iS h with ⟨ak,h⟩ | ⟨ak,h⟩
  ·refine sCondT S d ak ?_
   exact wp_skip (leafT (⟨p0.Kind == 4,Option.some.inj h,S.fix [0] [] (by decide) d d d⟩))
  refine sCondF S d ak (sRegion (sBin _ S (wN d) d d d (bEq _ _ _ _ .u8 p0.Kind 5) d (lb d) fun a S=>sN S fun a S=>?_))
  exact lT (⟨p0.Kind == 5,Option.some.inj h,S.fix [0] [] (by decide) d d d⟩)
 obtain ⟨aC,rfl,S⟩:=hI
 have h:=aT
 try dsimp only at h
 rcases iS h with ⟨al,h⟩ | ⟨al,h⟩
 ·refine sCondT S d al (sRegion (sField (b:=b2) (off:=0) 3 3 S (wN d) d d d d d (lb d) fun a S=>sLoad1 0 (iv p0.B) S (wN d) d d d d d d (lb d) fun a S=>sBin _ S (wN d) d d d (bEq _ _ _ _ .i64 p0.B 0) d (lb d) fun a S=>sM S fun a S=>?_))
  rcases iS h with ⟨a2,h⟩ | ⟨a2,h⟩
  rotate_left
  ·refine sSkN 3 3 true 34 S d d a2 d fun a S=>sPickF (.bool false) S (wN d) d d a2 d d (lb d) fun a S=>sM S fun a S=>?_
   refine sSkN 3 8 true 39 S d d d d fun a S=>sPickF (.bool false) S (wN d) d d d d d (lb d) fun a S=>sN S fun a S=>?_
   exact leafL (leafB (leafT (⟨false,Option.some.inj h,S.fix [] [] (by decide) d d d⟩)))
  refine sField (b:=b2) (off:=0) 2 2 S (wG 3 true 34 d d d a2) d d d d d (lb d) fun a S=>sLoad1 0 (iv p0.A) S (wG 3 true 34 d d d a2) d d d d d d (lb d) fun a S=>sBin _ S (wG 3 true 34 d d d a2) d d d (bGe _ _ _ _ .i64 p0.A 2) d (lb d) fun a S=>sPickT (.bool (decide (2 ≤ p0.A))) S (wN d) d d a2 d d (lb d) fun a S=>sM S fun a S=>?_
  rcases iS h with ⟨a4,h⟩ | ⟨a4,h⟩
  rotate_left
  ·refine sSkN 3 8 true 39 S d d a4 d fun a S=>sPickF (.bool false) S (wN d) d d a4 d d (lb d) fun a S=>sN S fun a S=>?_
   exact leafL (leafB (leafT (⟨false,Option.some.inj h,S.fix [] [] (by decide) d d d⟩)))
  refine sField (b:=b2) (off:=0) 2 2 S (wG 8 true 39 d d d a4) d d d d d (lb d) fun a S=>sLoad1 0 (iv p0.A) S (wG 8 true 39 d d d a4) d d d d d d (lb d) fun a S=>sBin _ S (wG 8 true 39 d d d a4) d d d (bLe _ _ _ _ .i64 p0.A 4) d (lb d) fun a S=>sPickT (.bool (decide (p0.A ≤ 4))) S (wN d) d d a4 d d (lb d) fun a S=>sN S fun a S=>?_
  exact leafL (leafB (leafT (⟨decide (p0.A ≤ 4),Option.some.inj h,S.fix [] [] (by decide) d d d⟩)))
 refine sCondF S d al ?_
 obtain ⟨aU,h,aV⟩:=bS h
 refine sCut (fun a w=>∃ aI,aI=aU∧St [] E [] w0 102 a w [(1,.pointer (some ⟨b2,0,none⟩)),(4,.bool false),(14,.int .u8 p0.Kind),(44,.bool aI)] [eBox b2 81 [.int .u8 p0.Kind,.bool p0.Purl,iv p0.A,iv p0.B]] []) ?_ (fun a w hI=>?_)
 ·refine sSeq (fun bg aJ=>sRegion (sBin _ S (wN d) d d d (bEq _ _ _ _ .u8 p0.Kind 6) d (lb d) fun a S=>sN S fun a S=>?_))
  refine lT (aJ _ _ ?_)
  rcases iS h with ⟨am,h⟩ | ⟨am,h⟩
  ·refine sCondT S d am ?_
   exact wp_skip (leafT (⟨p0.Kind == 6,Option.some.inj h,S.fix [0] [] (by decide) d d d⟩))
  refine sCondF S d am (sRegion (sBin _ S (wN d) d d d (bEq _ _ _ _ .u8 p0.Kind 7) d (lb d) fun a S=>sN S fun a S=>?_))
  exact lT (⟨p0.Kind == 7,Option.some.inj h,S.fix [0] [] (by decide) d d d⟩)
 obtain ⟨aI,rfl,S⟩:=hI
 have h:=aV
 try dsimp only at h
 rcases iS h with ⟨ao,h⟩ | ⟨ao,h⟩
 ·refine sCondT S d ao (sRegion (sField (b:=b2) (off:=0) 2 2 S (wN d) d d d d d (lb d) fun a S=>sLoad1 0 (iv p0.A) S (wN d) d d d d d d (lb d) fun a S=>sBin _ S (wN d) d d d (bGe _ _ _ _ .i64 p0.A 1) d (lb d) fun a S=>sM S fun a S=>?_))
  rcases iS h with ⟨a5,h⟩ | ⟨a5,h⟩
  rotate_left
  ·refine sSkN 3 3 true 50 S d d a5 d fun a S=>sPickF (.bool false) S (wN d) d d a5 d d (lb d) fun a S=>sM S fun a S=>?_
   refine sSkN 3 8 true 55 S d d d d fun a S=>sPickF (.bool false) S (wN d) d d d d d (lb d) fun a S=>sM S fun a S=>?_
   refine sSkN 3 13 true 60 S d d d d fun a S=>sPickF (.bool false) S (wN d) d d d d d (lb d) fun a S=>sN S fun a S=>?_
   exact leafL (leafB (leafT (⟨false,Option.some.inj h,S.fix [] [] (by decide) d d d⟩)))
  refine sField (b:=b2) (off:=0) 2 2 S (wG 3 true 50 d d d a5) d d d d d (lb d) fun a S=>sLoad1 0 (iv p0.A) S (wG 3 true 50 d d d a5) d d d d d d (lb d) fun a S=>sBin _ S (wG 3 true 50 d d d a5) d d d (bLe _ _ _ _ .i64 p0.A 6) d (lb d) fun a S=>sPickT (.bool (decide (p0.A ≤ 6))) S (wN d) d d a5 d d (lb d) fun a S=>sM S fun a S=>?_
  rcases iS h with ⟨a6,h⟩ | ⟨a6,h⟩
  rotate_left
  ·refine sSkN 3 8 true 55 S d d a6 d fun a S=>sPickF (.bool false) S (wN d) d d a6 d d (lb d) fun a S=>sM S fun a S=>?_
   refine sSkN 3 13 true 60 S d d d d fun a S=>sPickF (.bool false) S (wN d) d d d d d (lb d) fun a S=>sN S fun a S=>?_
   exact leafL (leafB (leafT (⟨false,Option.some.inj h,S.fix [] [] (by decide) d d d⟩)))
  refine sField (b:=b2) (off:=0) 3 3 S (wG 8 true 55 d d d a6) d d d d d (lb d) fun a S=>sLoad1 0 (iv p0.B) S (wG 8 true 55 d d d a6) d d d d d d (lb d) fun a S=>sBin _ S (wG 8 true 55 d d d a6) d d d (bGe _ _ _ _ .i64 p0.B 1) d (lb d) fun a S=>sPickT (.bool (decide (1 ≤ p0.B))) S (wN d) d d a6 d d (lb d) fun a S=>sM S fun a S=>?_
  rcases iS h with ⟨a7,h⟩ | ⟨a7,h⟩
  rotate_left
  ·refine sSkN 3 13 true 60 S d d a7 d fun a S=>sPickF (.bool false) S (wN d) d d a7 d d (lb d) fun a S=>sN S fun a S=>?_
   exact leafL (leafB (leafT (⟨false,Option.some.inj h,S.fix [] [] (by decide) d d d⟩)))
  refine sField (b:=b2) (off:=0) 3 3 S (wG 13 true 60 d d d a7) d d d d d (lb d) fun a S=>sLoad1 0 (iv p0.B) S (wG 13 true 60 d d d a7) d d d d d d (lb d) fun a S=>sBin _ S (wG 13 true 60 d d d a7) d d d (bLe _ _ _ _ .i64 p0.B 6) d (lb d) fun a S=>sPickT (.bool (decide (p0.B ≤ 6))) S (wN d) d d a7 d d (lb d) fun a S=>sN S fun a S=>?_
  exact leafL (leafB (leafT (⟨decide (p0.B ≤ 6),Option.some.inj h,S.fix [] [] (by decide) d d d⟩)))
 refine sCondF S d ao (sSeq (fun bh aK=>sRegion (sBin _ S (wN d) d d d (bEq _ _ _ _ .u8 p0.Kind 9) d (lb d) fun a S=>sN S fun a S=>?_)))
 refine lT (aK _ _ ?_)
 rcases iS h with ⟨ap,h⟩ | ⟨ap,h⟩
 rotate_left
 ·refine sCondF S d ap (sSeq (fun bi aL=>sRegion (sBin _ S (wN d) d d d (bEq _ _ _ _ .u8 p0.Kind 10) d (lb d) fun a S=>sN S fun a S=>?_)))
  refine lT (aL _ _ ?_)
  rcases iS h with ⟨aq,h⟩ | ⟨aq,h⟩
  rotate_left
  ·refine sCondF S d aq ?_
   exact wp_skip (leafB (leafT (⟨false,Option.some.inj h,S.fix [] [] (by decide) d d d⟩)))
  refine sCondT S d aq (sRegion (sField (b:=b2) (off:=0) 3 3 S (wN d) d d d d d (lb d) fun a S=>sLoad1 0 (iv p0.B) S (wN d) d d d d d d (lb d) fun a S=>sBin _ S (wN d) d d d (bEq _ _ _ _ .i64 p0.B 0) d (lb d) fun a S=>sM S fun a S=>?_))
  rcases iS h with ⟨a8,h⟩ | ⟨a8,h⟩
  rotate_left
  ·refine sSkN 3 3 true 90 S d d a8 d fun a S=>sPickF (.bool false) S (wN d) d d a8 d d (lb d) fun a S=>sM S fun a S=>?_
   refine sSkN 3 8 true 95 S d d d d fun a S=>sPickF (.bool false) S (wN d) d d d d d (lb d) fun a S=>sN S fun a S=>?_
   exact leafL (leafB (leafT (⟨false,Option.some.inj h,S.fix [] [] (by decide) d d d⟩)))
  refine sField (b:=b2) (off:=0) 2 2 S (wG 3 true 90 d d d a8) d d d d d (lb d) fun a S=>sLoad1 0 (iv p0.A) S (wG 3 true 90 d d d a8) d d d d d d (lb d) fun a S=>sBin _ S (wG 3 true 90 d d d a8) d d d (bGe _ _ _ _ .i64 p0.A 1) d (lb d) fun a S=>sPickT (.bool (decide (1 ≤ p0.A))) S (wN d) d d a8 d d (lb d) fun a S=>sM S fun a S=>?_
  rcases iS h with ⟨a9,h⟩ | ⟨a9,h⟩
  rotate_left
  ·refine sSkN 3 8 true 95 S d d a9 d fun a S=>sPickF (.bool false) S (wN d) d d a9 d d (lb d) fun a S=>sN S fun a S=>?_
   exact leafL (leafB (leafT (⟨false,Option.some.inj h,S.fix [] [] (by decide) d d d⟩)))
  refine sField (b:=b2) (off:=0) 2 2 S (wG 8 true 95 d d d a9) d d d d d (lb d) fun a S=>sLoad1 0 (iv p0.A) S (wG 8 true 95 d d d a9) d d d d d d (lb d) fun a S=>sBin _ S (wG 8 true 95 d d d a9) d d d (bLe _ _ _ _ .i64 p0.A 200) d (lb d) fun a S=>sPickT (.bool (decide (p0.A ≤ 200))) S (wN d) d d a9 d d (lb d) fun a S=>sN S fun a S=>?_
  exact leafL (leafB (leafT (⟨decide (p0.A ≤ 200),Option.some.inj h,S.fix [] [] (by decide) d d d⟩)))
 refine sCondT S d ap (sRegion (sField (b:=b2) (off:=0) 3 3 S (wN d) d d d d d (lb d) fun a S=>sLoad1 0 (iv p0.B) S (wN d) d d d d d d (lb d) fun a S=>sBin _ S (wN d) d d d (bEq _ _ _ _ .i64 p0.B 0) d (lb d) fun a S=>sM S fun a S=>?_))
 rcases iS h with ⟨aa,h⟩ | ⟨aa,h⟩
 rotate_left
 ·refine sSkN 3 3 true 70 S d d aa d fun a S=>sPickF (.bool false) S (wN d) d d aa d d (lb d) fun a S=>sM S fun a S=>?_
  refine sSkN 3 8 true 75 S d d d d fun a S=>sPickF (.bool false) S (wN d) d d d d d (lb d) fun a S=>sM S fun a S=>?_
  refine sSkN 3 13 true 80 S d d d d fun a S=>sPickF (.bool false) S (wN d) d d d d d (lb d) fun a S=>sN S fun a S=>?_
  exact leafL (leafB (leafT (⟨false,Option.some.inj h,S.fix [] [] (by decide) d d d⟩)))
 refine sField (b:=b2) (off:=0) 1 1 S (wG 3 true 70 d d d aa) d d d d d (lb d) fun a S=>sLoad1 0 (.bool p0.Purl) S (wG 3 true 70 d d d aa) d d d d d d (lb d) fun a S=>sNot (b:=p0.Purl) S (wG 3 true 70 d d d aa) d d d (lb d) fun a S=>sPickT (.bool (!p0.Purl)) S (wN d) d d aa d d (lb d) fun a S=>sM S fun a S=>?_
 rcases iS h with ⟨ab,h⟩ | ⟨ab,h⟩
 rotate_left
 ·refine sSkN 3 8 true 75 S d d ab d fun a S=>sPickF (.bool false) S (wN d) d d ab d d (lb d) fun a S=>sM S fun a S=>?_
  refine sSkN 3 13 true 80 S d d d d fun a S=>sPickF (.bool false) S (wN d) d d d d d (lb d) fun a S=>sN S fun a S=>?_
  exact leafL (leafB (leafT (⟨false,Option.some.inj h,S.fix [] [] (by decide) d d d⟩)))
 refine sField (b:=b2) (off:=0) 2 2 S (wG 8 true 75 d d d ab) d d d d d (lb d) fun a S=>sLoad1 0 (iv p0.A) S (wG 8 true 75 d d d ab) d d d d d d (lb d) fun a S=>sBin _ S (wG 8 true 75 d d d ab) d d d (bGe _ _ _ _ .i64 p0.A 1) d (lb d) fun a S=>sPickT (.bool (decide (1 ≤ p0.A))) S (wN d) d d ab d d (lb d) fun a S=>sM S fun a S=>?_
 rcases iS h with ⟨ac,h⟩ | ⟨ac,h⟩
 rotate_left
 ·refine sSkN 3 13 true 80 S d d ac d fun a S=>sPickF (.bool false) S (wN d) d d ac d d (lb d) fun a S=>sN S fun a S=>?_
  exact leafL (leafB (leafT (⟨false,Option.some.inj h,S.fix [] [] (by decide) d d d⟩)))
 refine sField (b:=b2) (off:=0) 2 2 S (wG 13 true 80 d d d ac) d d d d d (lb d) fun a S=>sLoad1 0 (iv p0.A) S (wG 13 true 80 d d d ac) d d d d d d (lb d) fun a S=>sBin _ S (wG 13 true 80 d d d ac) d d d (bLe _ _ _ _ .i64 p0.A 200) d (lb d) fun a S=>sPickT (.bool (decide (p0.A ≤ 200))) S (wN d) d d ac d d (lb d) fun a S=>sN S fun a S=>?_
 exact leafL (leafB (leafT (⟨decide (p0.A ≤ 200),Option.some.inj h,S.fix [] [] (by decide) d d d⟩)))
noncomputable def F_raddleref25_Used (p0:api_Stitch):Option Int:=
 Option.bind (α:=Bool) (
  if p0.Kind == 2 then
   some (p0.Kind == 2)
  else
   some (p0.Kind == 9)) fun o5=>
 if o5 then
  some 0
 else
  Option.bind (α:=Bool) (
   if p0.Kind == 3 then
    some (p0.Kind == 3)
   else
    if p0.Kind == 4 then
     some (p0.Kind == 4)
    else
     some (p0.Kind == 10)) fun a0=>
  if a0 then
   some p0.A
  else
   Option.bind (α:=Bool) (
    if p0.Kind == 6 then
     some (p0.Kind == 6)
    else
     some (p0.Kind == 7)) fun a2=>
   if a2 then
    some (w64 (p0.A + p0.B))
   else
    some 1
theorem c_raddleref25_Used (E:Nat→Prop) (w0:World) (p0:api_Stitch) (v0:Value) (r:Int) (h:F_raddleref25_Used p0=some r) (S:St0 E [] w0 w0 [] [fRep r_api_Stitch (v0) p0]) :
 Calls Try.prog 92 #[v0] w0 (Ret (X:=Unit) E [] w0 (fun _=>.int .i64 r) (fun _=>[]) (fun _=>[])):=by
 unfold F_raddleref25_Used at h
 obtain rfl:v0=.agg #[.int .u8 p0.Kind,.bool p0.Purl,iv p0.A,iv p0.B]:=S.know (i:=0) (e:=fRep r_api_Stitch (v0) p0) d
 refine sEnter (args:=[.agg #[.int .u8 p0.Kind,.bool p0.Purl,iv p0.A,iv p0.B]]) 22 Try.func92 d d (by simp) S (fun a S=>?_)
 refine sSeq (fun K1 aj=>sRegion (sBox (v:=.agg #[.int .u8 p0.Kind,.bool p0.Purl,iv p0.A,iv p0.B]) S (wN d) d d [.int .u8 p0.Kind,.bool p0.Purl,iv p0.A,iv p0.B] d d (lb d) fun a b2 w S=>sN S fun a S=>?_))
 refine lT (aj _ _ (sSeq (fun K3 ak=>sSeq (fun K4 al=>sRegion (sField (b:=b2) (off:=0) 0 0 S (wN d) d d d d d (lb d) fun a S=>sLoad1 0 (.int .u8 p0.Kind) S (wN d) d d d d d d (lb d) fun a S=>lT (al _ _ (wp_block ?_)))))))
 obtain ⟨t6,h,g7⟩:=bS h
 refine sCut (fun a w=>∃ o5,o5=t6∧St [] E [] w0 22 a w [(1,.pointer (some ⟨b2,0,none⟩)),(4,.int .u8 p0.Kind),(5,.bool o5)] [eBox b2 81 [.int .u8 p0.Kind,.bool p0.Purl,iv p0.A,iv p0.B]] []) ?_ (fun a w hI=>?_)
 ·refine sSeq (fun K8 am=>sRegion (sBin _ S (wN d) d d d (bEq _ _ _ _ .u8 p0.Kind 2) d (lb d) fun a S=>sN S fun a S=>?_))
  refine lT (am _ _ ?_)
  rcases iS h with ⟨a8,h⟩ | ⟨a8,h⟩
  ·refine sCondT S d a8 ?_
   exact wp_skip (leafT (⟨p0.Kind == 2,Option.some.inj h,S.fix [0] [] (by decide) d d d⟩))
  refine sCondF S d a8 (sRegion (sBin _ S (wN d) d d d (bEq _ _ _ _ .u8 p0.Kind 9) d (lb d) fun a S=>sN S fun a S=>?_))
  exact lT (⟨p0.Kind == 9,Option.some.inj h,S.fix [0] [] (by decide) d d d⟩)
 obtain ⟨o5,rfl,S⟩:=hI
 have h:=g7
 try dsimp only at h
 rcases iS h with ⟨a0,h⟩ | ⟨a0,h⟩
 ·refine sCondT S d a0 (sSeq (fun au a9=>sRegion (sN S fun a S=>?_)))
  refine lT (a9 _ _ ?_)
  obtain rfl:=tS h
  exact wp_ret (rBlock (rThen (sRet (iv 0) S (rsl1 d (rvT (t:=2) (v:=iv 0) S d)) ⟨(),d,S.mem.sel [] [] (by decide) d d⟩)))
 refine sCondF S d a0 ?_
 obtain ⟨ao,h,ap⟩:=bS h
 refine sCut (fun a w=>∃ aa,aa=ao∧St [] E [] w0 22 a w [(1,.pointer (some ⟨b2,0,none⟩)),(4,.int .u8 p0.Kind),(8,.bool aa)] [eBox b2 81 [.int .u8 p0.Kind,.bool p0.Purl,iv p0.A,iv p0.B]] []) ?_ (fun a w hI=>?_)
 ·refine sSeq (fun av ab=>sRegion (sBin _ S (wN d) d d d (bEq _ _ _ _ .u8 p0.Kind 3) d (lb d) fun a S=>sN S fun a S=>?_))
  refine lT (ab _ _ ?_)
  rcases iS h with ⟨a2,h⟩ | ⟨a2,h⟩
  ·refine sCondT S d a2 ?_
   exact wp_skip (leafT (⟨p0.Kind == 3,Option.some.inj h,S.fix [0] [] (by decide) d d d⟩))
  refine sCondF S d a2 (sSeq (fun aw ac=>sRegion (sBin _ S (wN d) d d d (bEq _ _ _ _ .u8 p0.Kind 4) d (lb d) fun a S=>sN S fun a S=>?_)))
  refine lT (ac _ _ ?_)
  rcases iS h with ⟨a4,h⟩ | ⟨a4,h⟩
  ·refine sCondT S d a4 ?_
   exact wp_skip (leafT (⟨p0.Kind == 4,Option.some.inj h,S.fix [0] [] (by decide) d d d⟩))
  refine sCondF S d a4 (sRegion (sBin _ S (wN d) d d d (bEq _ _ _ _ .u8 p0.Kind 10) d (lb d) fun a S=>sN S fun a S=>?_))
  exact lT (⟨p0.Kind == 10,Option.some.inj h,S.fix [0] [] (by decide) d d d⟩)
 obtain ⟨aa,rfl,S⟩:=hI
 have h:=ap
 try dsimp only at h
 rcases iS h with ⟨a5,h⟩ | ⟨a5,h⟩
 ·refine sCondT S d a5 (sSeq (fun ax ae=>sRegion (sField (b:=b2) (off:=0) 2 2 S (wN d) d d d d d (lb d) fun a S=>sLoad1 0 (iv p0.A) S (wN d) d d d d d d (lb d) fun a S=>sN S fun a S=>?_)))
  refine lT (ae _ _ ?_)
  obtain rfl:=tS h
  exact wp_ret (rBlock (rThen (sRet (iv p0.A) S (rsl1 d (rvT (t:=2) (v:=iv p0.A) S d)) ⟨(),d,S.mem.sel [] [] (by decide) d d⟩)))
 refine sCondF S d a5 ?_
 obtain ⟨aq,h,ar⟩:=bS h
 refine sCut (fun a w=>∃ af,af=aq∧St [] E [] w0 22 a w [(1,.pointer (some ⟨b2,0,none⟩)),(14,.bool af)] [eBox b2 81 [.int .u8 p0.Kind,.bool p0.Purl,iv p0.A,iv p0.B]] []) ?_ (fun a w hI=>?_)
 ·refine sSeq (fun ay ag=>sRegion (sBin _ S (wN d) d d d (bEq _ _ _ _ .u8 p0.Kind 6) d (lb d) fun a S=>sN S fun a S=>?_))
  refine lT (ag _ _ ?_)
  rcases iS h with ⟨a6,h⟩ | ⟨a6,h⟩
  ·refine sCondT S d a6 ?_
   exact wp_skip (leafT (⟨p0.Kind == 6,Option.some.inj h,S.fix [0] [] (by decide) d d d⟩))
  refine sCondF S d a6 (sRegion (sBin _ S (wN d) d d d (bEq _ _ _ _ .u8 p0.Kind 7) d (lb d) fun a S=>sN S fun a S=>?_))
  exact lT (⟨p0.Kind == 7,Option.some.inj h,S.fix [0] [] (by decide) d d d⟩)
 obtain ⟨af,rfl,S⟩:=hI
 have h:=ar
 try dsimp only at h
 rcases iS h with ⟨a7,h⟩ | ⟨a7,h⟩
 rotate_left
 ·refine sCondF S d a7 (wp_skip (leafB (leafT (ak _ _ ?_))))
  refine sSeq (fun az ah=>sRegion (sN S fun a S=>?_))
  refine lT (ah _ _ ?_)
  obtain rfl:=tS h
  exact wp_ret (sRet (iv 1) S (rsl1 d (rvT (t:=2) (v:=iv 1) S d)) ⟨(),d,S.mem.sel [] [] (by decide) d d⟩)
 refine sCondT S d a7 (sSeq (fun aA ai=>sRegion (sField (b:=b2) (off:=0) 2 2 S (wN d) d d d d d (lb d) fun a S=>sLoad1 0 (iv p0.A) S (wN d) d d d d d d (lb d) fun a S=>sField (b:=b2) (off:=0) 3 3 S (wN d) d d d d d (lb d) fun a S=>sLoad1 0 (iv p0.B) S (wN d) d d d d d d (lb d) fun a S=>sBin _ S (wN d) d d d (bAdd _ _ _ _ p0.A p0.B) d (lb d) fun a S=>sN S fun a S=>?_)))
 refine lT (ai _ _ ?_)
 obtain rfl:=tS h
 exact wp_ret (rBlock (rThen (sRet (iv (w64 (p0.A + p0.B))) S (rsl1 d (rvT (t:=2) (v:=iv (w64 (p0.A + p0.B))) S d)) ⟨(),d,S.mem.sel [] [] (by decide) d d⟩)))
noncomputable def F_raddleref25_Gives (p0:api_Stitch):Option Int:=
 if p0.Kind == 10 then
  some 0
 else
  Option.bind (α:=Bool) (
   if p0.Kind == 5 then
    some (p0.Kind == 5)
   else
    some (p0.Kind == 9)) fun o8=>
  if o8 then
   some p0.A
  else
   Option.bind (α:=Bool) (
    if p0.Kind == 6 then
     some (p0.Kind == 6)
    else
     some (p0.Kind == 7)) fun a0=>
   if a0 then
    some (w64 (p0.A + p0.B))
   else
    some 1
theorem c_raddleref25_Gives (E:Nat→Prop) (w0:World) (p0:api_Stitch) (v0:Value) (r:Int) (h:F_raddleref25_Gives p0=some r) (S:St0 E [] w0 w0 [] [fRep r_api_Stitch (v0) p0]) :
 Calls Try.prog 93 #[v0] w0 (Ret (X:=Unit) E [] w0 (fun _=>.int .i64 r) (fun _=>[]) (fun _=>[])):=by
 unfold F_raddleref25_Gives at h
 obtain rfl:v0=.agg #[.int .u8 p0.Kind,.bool p0.Purl,iv p0.A,iv p0.B]:=S.know (i:=0) (e:=fRep r_api_Stitch (v0) p0) d
 refine sEnter (args:=[.agg #[.int .u8 p0.Kind,.bool p0.Purl,iv p0.A,iv p0.B]]) 20 Try.func93 d d (by simp) S (fun a S=>?_)
 refine sSeq (fun K1 ae=>sRegion (sBox (v:=.agg #[.int .u8 p0.Kind,.bool p0.Purl,iv p0.A,iv p0.B]) S (wN d) d d [.int .u8 p0.Kind,.bool p0.Purl,iv p0.A,iv p0.B] d d (lb d) fun a b2 w S=>sN S fun a S=>?_))
 refine lT (ae _ _ (sSeq (fun K3 af=>sSeq (fun K4 ag=>sRegion (sField (b:=b2) (off:=0) 0 0 S (wN d) d d d d d (lb d) fun a S=>sLoad1 0 (.int .u8 p0.Kind) S (wN d) d d d d d d (lb d) fun a S=>lT (ag _ _ (wp_block ?_)))))))
 refine sSeq (fun K5 ah=>sRegion (sBin _ S (wN d) d d d (bEq _ _ _ _ .u8 p0.Kind 10) d (lb d) fun a S=>sN S fun a S=>?_))
 refine lT (ah _ _ ?_)
 rcases iS h with ⟨a6,h⟩ | ⟨a6,h⟩
 ·refine sCondT S d a6 (sSeq (fun K7 ai=>sRegion (sN S fun a S=>?_)))
  refine lT (ai _ _ ?_)
  obtain rfl:=tS h
  exact wp_ret (rBlock (rThen (sRet (iv 0) S (rsl1 d (rvT (t:=2) (v:=iv 0) S d)) ⟨(),d,S.mem.sel [] [] (by decide) d d⟩)))
 refine sCondF S d a6 ?_
 obtain ⟨t9,h,aj⟩:=bS h
 refine sCut (fun a w=>∃ o8,o8=t9∧St [] E [] w0 20 a w [(1,.pointer (some ⟨b2,0,none⟩)),(4,.int .u8 p0.Kind),(7,.bool o8)] [eBox b2 81 [.int .u8 p0.Kind,.bool p0.Purl,iv p0.A,iv p0.B]] []) ?_ (fun a w hI=>?_)
 ·refine sSeq (fun am a7=>sRegion (sBin _ S (wN d) d d d (bEq _ _ _ _ .u8 p0.Kind 5) d (lb d) fun a S=>sN S fun a S=>?_))
  refine lT (a7 _ _ ?_)
  rcases iS h with ⟨a0,h⟩ | ⟨a0,h⟩
  ·refine sCondT S d a0 ?_
   exact wp_skip (leafT (⟨p0.Kind == 5,Option.some.inj h,S.fix [0] [] (by decide) d d d⟩))
  refine sCondF S d a0 (sRegion (sBin _ S (wN d) d d d (bEq _ _ _ _ .u8 p0.Kind 9) d (lb d) fun a S=>sN S fun a S=>?_))
  exact lT (⟨p0.Kind == 9,Option.some.inj h,S.fix [0] [] (by decide) d d d⟩)
 obtain ⟨o8,rfl,S⟩:=hI
 have h:=aj
 try dsimp only at h
 rcases iS h with ⟨a2,h⟩ | ⟨a2,h⟩
 ·refine sCondT S d a2 (sSeq (fun ao a8=>sRegion (sField (b:=b2) (off:=0) 2 2 S (wN d) d d d d d (lb d) fun a S=>sLoad1 0 (iv p0.A) S (wN d) d d d d d d (lb d) fun a S=>sN S fun a S=>?_)))
  refine lT (a8 _ _ ?_)
  obtain rfl:=tS h
  exact wp_ret (rBlock (rThen (sRet (iv p0.A) S (rsl1 d (rvT (t:=2) (v:=iv p0.A) S d)) ⟨(),d,S.mem.sel [] [] (by decide) d d⟩)))
 refine sCondF S d a2 ?_
 obtain ⟨ak,h,al⟩:=bS h
 refine sCut (fun a w=>∃ a9,a9=ak∧St [] E [] w0 20 a w [(1,.pointer (some ⟨b2,0,none⟩)),(12,.bool a9)] [eBox b2 81 [.int .u8 p0.Kind,.bool p0.Purl,iv p0.A,iv p0.B]] []) ?_ (fun a w hI=>?_)
 ·refine sSeq (fun ap aa=>sRegion (sBin _ S (wN d) d d d (bEq _ _ _ _ .u8 p0.Kind 6) d (lb d) fun a S=>sN S fun a S=>?_))
  refine lT (aa _ _ ?_)
  rcases iS h with ⟨a4,h⟩ | ⟨a4,h⟩
  ·refine sCondT S d a4 ?_
   exact wp_skip (leafT (⟨p0.Kind == 6,Option.some.inj h,S.fix [0] [] (by decide) d d d⟩))
  refine sCondF S d a4 (sRegion (sBin _ S (wN d) d d d (bEq _ _ _ _ .u8 p0.Kind 7) d (lb d) fun a S=>sN S fun a S=>?_))
  exact lT (⟨p0.Kind == 7,Option.some.inj h,S.fix [0] [] (by decide) d d d⟩)
 obtain ⟨a9,rfl,S⟩:=hI
 have h:=al
 try dsimp only at h
 rcases iS h with ⟨a5,h⟩ | ⟨a5,h⟩
 rotate_left
 ·refine sCondF S d a5 (wp_skip (leafB (leafT (af _ _ ?_))))
  refine sSeq (fun aq ab=>sRegion (sN S fun a S=>?_))
  refine lT (ab _ _ ?_)
  obtain rfl:=tS h
  exact wp_ret (sRet (iv 1) S (rsl1 d (rvT (t:=2) (v:=iv 1) S d)) ⟨(),d,S.mem.sel [] [] (by decide) d d⟩)
 refine sCondT S d a5 (sSeq (fun ar ac=>sRegion (sField (b:=b2) (off:=0) 2 2 S (wN d) d d d d d (lb d) fun a S=>sLoad1 0 (iv p0.A) S (wN d) d d d d d d (lb d) fun a S=>sField (b:=b2) (off:=0) 3 3 S (wN d) d d d d d (lb d) fun a S=>sLoad1 0 (iv p0.B) S (wN d) d d d d d d (lb d) fun a S=>sBin _ S (wN d) d d d (bAdd _ _ _ _ p0.A p0.B) d (lb d) fun a S=>sN S fun a S=>?_)))
 refine lT (ac _ _ ?_)
 obtain rfl:=tS h
 exact wp_ret (rBlock (rThen (sRet (iv (w64 (p0.A + p0.B))) S (rsl1 d (rvT (t:=2) (v:=iv (w64 (p0.A + p0.B))) S d)) ⟨(),d,S.mem.sel [] [] (by decide) d d⟩)))
noncomputable def raddleref25_sums_l1 (p0:(List api_Stitch)):(Int × Int × Int)→Option ((Int × Int × Int) ⊕ (Int × Int)):=fun s0=>match s0 with
 | (a2,a4,a0)=>
  if decide (a0 < (p0.length:Int)) then
   (idxO p0 a0).bind fun a5=>
   (F_raddleref25_Used a5).bind fun a6=>
   (F_raddleref25_Gives a5).bind fun a7=>
   some (.inl (w64 (a2 + a6),w64 (a4 + a7),w64 (a0 + 1)))
  else
   some (.inr (a2,a4))
noncomputable def F_raddleref25_sums (p0:(List api_Stitch)):Option (Int × Int):=
 Option.bind (α:=(Int × Int)) (
  (whileO (raddleref25_sums_l1 p0) (0,0,0)).bind fun (a0,a2)=>
   some (a0,a2)) fun (o5,o6)=>
 some (o5,o6)
theorem c_raddleref25_sums (E:Nat→Prop) (w0:World) (p0:(List api_Stitch)) (v0:Value) (r:(Int × Int)) (h:F_raddleref25_sums p0=some r) (S:St0 E [] w0 w0 [] [fRep (rL r_api_Stitch) (v0) p0]) :
 Calls Try.prog 74 #[v0] w0 (Ret (X:=Unit) E [] w0 (fun _=>.tuple #[.int .i64 r.1,.int .i64 r.2]) (fun _=>[]) (fun _=>[])):=by
 unfold F_raddleref25_sums at h
 obtain ⟨a5,a6,_,rfl,_⟩:=S.know (i:=0) (e:=fRep (rL r_api_Stitch) (v0) p0) d
 refine sEnter (args:=[.slice a5 p0.length a6]) 29 Try.func74 d d (by simp) S (fun a S=>?_)
 refine sSeq (fun K3 au=>sRegion (sN S fun a S=>?_))
 refine sN S fun a S=>?_
 refine lT (au _ _ (sSeq (fun K4 av=>sRegion (sN S fun a S=>?_))))
 refine sN S fun a S=>?_
 refine lT (av _ _ ?_)
 obtain ⟨t7,h,g8⟩:=bS h
 refine sCut (fun a w=>∃ o5,∃ o6,(o5,o6)=t7∧St [] E [] w0 29 a w [(4,iv o5),(5,iv o6)] [] []) ?_ (fun a w hI=>?_)
 rotate_left
 ·obtain ⟨o5,o6,rfl,S⟩:=hI
  have h:=g8
  try dsimp only at h
  refine sSeq (fun ay ac=>sRegion (sM S fun a S=>?_))
  refine sM S fun a S=>?_
  refine sN S fun a S=>?_
  refine sN S fun a S=>?_
  refine lT (ac _ _ ?_)
  obtain rfl:=tS h
  exact wp_ret (sRet (.tuple #[iv o5,iv o6]) S (rsl2 d (rvT (t:=2) (v:=iv o5) S d) (rvT (t:=3) (v:=iv o6) S d)) ⟨(),d,S.mem.sel [] [] (by decide) d d⟩)
 refine sSeq (fun K9 aw=>sRegion (sN S fun a S=>?_))
 refine lT (aw _ _ (wp_block ?_))
 obtain ⟨az,hl,ax⟩:=bS h
 refine sLoop hl (fun s0 a w=>match s0 with | (a7,a8,a2)=>St [] E [] w0 29 a w [(0,.slice a5 p0.length a6),(4,iv a7),(5,iv a8),(6,iv a2)] [] [fRep (rL r_api_Stitch) (.slice a5 p0.length a6) p0]) (S.fix [] [0] (by decide) d d d) ?_
 clear hl h
 intro s0 a w c0 hI h ae
 obtain ⟨a7,a8,a2⟩:=s0
 unfold raddleref25_sums_l1 at h
 dsimp only at h hI
 have S:=hI
 refine sSeq (fun aA af=>sSeq (fun aC ag=>sRegion (sM S fun a S=>?_)))
 refine sM S fun a S=>?_
 refine sLen S (wN d) d Try.underlying47 d d (lb d) fun a S=>sBin _ S (wN d) d d d (bLt _ _ _ _ .i64 a2 (p0.length:Int)) d (lb d) fun a S=>lT (ag _ _ ?_)
 rcases iS h with ⟨a4,h⟩ | ⟨a4,h⟩
 rotate_left
 ·refine sCondF S d a4 ?_
  obtain rfl:=tS h
  obtain rfl:=ae _ d
  have h:=ax
  try dsimp only at h
  exact wp_exit (xThen (xThen (xHit (leafT (⟨a7,a8,Option.some.inj h,S.fix [] [] (by decide) d d d⟩)))))
 refine sCondT S d a4 (wp_skip (leafT (af _ _ ?_)))
 refine sSeq (fun aG ah=>wp_block ?_)
 refine sSeq (fun aH ai=>sRegion (sM S fun a S=>?_))
 refine sM S fun a S=>?_
 refine sM S fun a S=>?_
 obtain ⟨a0,a9,h⟩:=bS h
 obtain ⟨ao,aj,S⟩:=pIdx (P:=Try.prog) (r:=r_api_Stitch) (v:=.slice a5 p0.length a6) (xs:=p0) (j:=a2) 47 81 0 S Try.underlying47 d d a9
 refine sIdxV S (wN d) d d d aj d (lb d) fun a S=>?_
 obtain ⟨ap,S⟩:=pLoad (r:=r_api_Stitch) (q:=ao) (x:=a0) 0 S d
 obtain rfl:ap=.agg #[.int .u8 a0.Kind,.bool a0.Purl,iv a0.A,iv a0.B]:=S.mem.know (i:=1) (e:=fRep r_api_Stitch (ap) a0) d
 refine sLoadVN (vq:=ao) 0 [.int .u8 a0.Kind,.bool a0.Purl,iv a0.A,iv a0.B] S (wN d) d d d d d d (lb d) fun a S=>?_
 obtain ⟨aa,ak,h⟩:=bS h
 have S1:=S.mem
 refine sCq [.agg #[.int .u8 a0.Kind,.bool a0.Purl,iv a0.A,iv a0.B]] (iv aa) S callee92 (S1.quiet [1] d) (fun E1 w1 S1=>c_raddleref25_Used E1 w1 a0 (.agg #[.int .u8 a0.Kind,.bool a0.Purl,iv a0.A,iv a0.B]) aa ak S1) fun a w S=>?_
 refine sBin _ S (wN d) d d d (bAdd _ _ _ _ a7 aa) d (lb d) fun a S=>sN S fun a S=>?_
 refine lT (ai _ _ (sRegion (sM S fun a S=>?_)))
 refine sM S fun a S=>?_
 refine sM S fun a S=>?_
 obtain ⟨aq,al,S⟩:=pIdx (P:=Try.prog) (r:=r_api_Stitch) (v:=.slice a5 p0.length a6) (xs:=p0) (j:=a2) 47 81 3 S Try.underlying47 d d a9
 refine sIdxV S (wN d) d d d al d (lb d) fun a S=>?_
 obtain ⟨ar,S⟩:=pLoad (r:=r_api_Stitch) (q:=aq) (x:=a0) 0 S d
 obtain rfl:ar=.agg #[.int .u8 a0.Kind,.bool a0.Purl,iv a0.A,iv a0.B]:=S.mem.know (i:=1) (e:=fRep r_api_Stitch (ar) a0) d
 refine sLoadVN (vq:=aq) 0 [.int .u8 a0.Kind,.bool a0.Purl,iv a0.A,iv a0.B] S (wN d) d d d d d d (lb d) fun a S=>?_
 obtain ⟨ab,am,h⟩:=bS h
 have S1:=S.mem
 refine sCq [.agg #[.int .u8 a0.Kind,.bool a0.Purl,iv a0.A,iv a0.B]] (iv ab) S callee93 (S1.quiet [1] d) (fun E1 w1 S1=>c_raddleref25_Gives E1 w1 a0 (.agg #[.int .u8 a0.Kind,.bool a0.Purl,iv a0.A,iv a0.B]) ab am S1) fun a w S=>?_
 refine sBin _ S (wN d) d d d (bAdd _ _ _ _ a8 ab) d (lb d) fun a S=>sN S fun a S=>?_
 refine leafL (leafB (leafT (ah _ _ ?_)))
 refine sRegion (sM S fun a S=>?_)
 refine sBin _ S (wN d) d d d (bAdd _ _ _ _ a2 1) d (lb d) fun a S=>sN S fun a S=>?_
 exact lT (⟨(w64 (a7 + aa),w64 (a8 + ab),w64 (a2 + 1)),(Option.some.inj h).symm,(S.fix [] [6] (by decide) d d d)⟩)
noncomputable def raddleref25_All_l1 (p0:(List api_Stitch)):Int→Option (Int ⊕ (Int ⊕ Unit)):=fun s0=>match s0 with
 | a0=>
  if decide (a0 < (p0.length:Int)) then
   (idxO p0 a0).bind fun a2=>
   (F_raddleref25_Check a2).bind fun a4=>
   if a4 != 0 then
    some (.inr (.inl 8))
   else
    some (.inl (w64 (a0 + 1)))
  else
   some (.inr (.inr ()))
noncomputable def F_raddleref25_All (p0:(List api_Stitch)):Option Int:=
 if decide (200 < (p0.length:Int)) then
  some 4
 else
  Option.bind (α:=Unit ⊕ Int) (
   (whileO (raddleref25_All_l1 p0) 0).bind fun z0=>match z0 with
    | .inl z=>
     some (.inr z)
    | .inr _=>
     some (.inl ())) fun z0=>match z0 with
   | .inl _=>
    (F_raddleref25_sums p0).bind fun a0=>
    Option.bind (α:=Bool) (
     if decide (200 < a0.1) then
      some true
     else
      some (decide (200 < a0.2))) fun a2=>
    if a2 then
     some 4
    else
     some 0
   | .inr z=>
    some z
theorem c_raddleref25_All (E:Nat→Prop) (w0:World) (p0:(List api_Stitch)) (v0:Value) (r:Int) (h:F_raddleref25_All p0=some r) (S:St0 E [] w0 w0 [] [fRep (rL r_api_Stitch) (v0) p0]) :
 Calls Try.prog 38 #[v0] w0 (Ret (X:=Unit) E [] w0 (fun _=>.int .i64 r) (fun _=>[]) (fun _=>[])):=by
 unfold F_raddleref25_All at h
 obtain ⟨a5,a6,_,rfl,_⟩:=S.know (i:=0) (e:=fRep (rL r_api_Stitch) (v0) p0) d
 refine sEnter (args:=[.slice a5 p0.length a6]) 32 Try.func38 d d (by simp) S (fun a S=>?_)
 refine sSeq (fun K3 aA=>sRegion (sN S fun a S=>?_))
 refine lT (aA _ _ (sSeq (fun K4 aC=>sSeq (fun K5 aG=>sRegion (sM S fun a S=>?_)))))
 refine sLen S (wN d) d Try.underlying47 d d (lb d) fun a S=>sBin _ S (wN d) d d d (bGt _ _ _ _ .i64 (p0.length:Int) 200) d (lb d) fun a S=>lT (aG _ _ ?_)
 rcases iS h with ⟨ac,h⟩ | ⟨ac,h⟩
 ·refine sCondT S d ac (sSeq (fun K7 aH=>sRegion (sN S fun a S=>?_)))
  refine lT (aH _ _ ?_)
  obtain rfl:=tS h
  exact wp_ret (rThen (sRet (iv 4) S (rsl1 d (rvT (t:=2) (v:=iv 4) S d)) ⟨(),d,S.mem.sel [] [] (by decide) d d⟩))
 refine sCondF S d ac (wp_skip (leafT (aC _ _ ?_)))
 obtain ⟨t8,h,g9⟩:=bS h
 refine sCut (fun a w=>.inl ()=t8∧St [] E [] w0 32 a w [(0,.slice a5 p0.length a6)] [] [fRep (rL r_api_Stitch) (.slice a5 p0.length a6) p0]) ?_ (fun a w hI=>?_)
 rotate_left
 ·obtain ⟨rfl,S⟩:=hI
  have h:=g9
  try dsimp only at h
  refine sSeq (fun aK ae=>sRegion (sM S fun a S=>?_))
  obtain ⟨a2,af,h⟩:=bS h
  have S1:=S.mem
  refine sCq [.slice a5 p0.length a6] (.tuple #[iv a2.1,iv a2.2]) S callee74 (S1.quiet [0] d) (fun E1 w1 S1=>c_raddleref25_sums E1 w1 p0 (.slice a5 p0.length a6) a2 af S1) fun a w S=>?_
  refine sM S fun a S=>?_
  refine sExtract (vs:=[iv a2.1,iv a2.2]) (iv a2.1) S (wN d) d d d d (lb d) fun a S=>sExtract (vs:=[iv a2.1,iv a2.2]) (iv a2.2) S (wN d) d d d d (lb d) fun a S=>sN S fun a S=>?_
  refine sN S fun a S=>?_
  refine lT (ae _ _ (sSeq (fun aL ag=>?_)))
  obtain ⟨aI,h,aJ⟩:=bS h
  refine sCut (fun a w=>∃ ah,ah=aI∧St [] E [] w0 32 a w [(31,.bool ah)] [] []) ?_ (fun a w hI=>?_)
  rotate_left
  ·obtain ⟨ah,rfl,S⟩:=hI
   have h:=aJ
   try dsimp only at h
   rcases iS h with ⟨a7,h⟩ | ⟨a7,h⟩
   ·refine sCondT S d a7 (sSeq (fun aM ai=>sRegion (sN S fun a S=>?_)))
    refine lT (ai _ _ ?_)
    obtain rfl:=tS h
    exact wp_ret (rThen (sRet (iv 4) S (rsl1 d (rvT (t:=2) (v:=iv 4) S d)) ⟨(),d,S.mem.sel [] [] (by decide) d d⟩))
   refine sCondF S d a7 (wp_skip (leafT (ag _ _ ?_)))
   refine sSeq (fun aO aj=>sRegion (sN S fun a S=>?_))
   refine lT (aj _ _ ?_)
   obtain rfl:=tS h
   exact wp_ret (sRet (iv 0) S (rsl1 d (rvT (t:=2) (v:=iv 0) S d)) ⟨(),d,S.mem.sel [] [] (by decide) d d⟩)
  refine sRegion (sM S fun a S=>?_)
  refine sBin _ S (wN d) d d d (bGt _ _ _ _ .i64 a2.1 200) d (lb d) fun a S=>sM S fun a S=>?_
  rcases iS h with ⟨a4,h⟩ | ⟨a4,h⟩
  ·refine sSkN 2 2 false 28 S d d a4 d fun a S=>sPickT (.bool true) S (wN d) d d a4 d d (lb d) fun a S=>?_
   exact lT (⟨true,Option.some.inj h,S.fix [] [] (by decide) d d d⟩)
  refine sMove (iv a2.2) S (wG 2 false 28 d d d a4) (.inl d) d d (lb d) fun a S=>sBin _ S (wG 2 false 28 d d d a4) d d d (bGt _ _ _ _ .i64 a2.2 200) d (lb d) fun a S=>sPickF (.bool (decide (200 < a2.2))) S (wN d) d d a4 d d (lb d) fun a S=>?_
  exact lT (⟨decide (200 < a2.2),Option.some.inj h,S.fix [] [] (by decide) d d d⟩)
 refine sSeq (fun aP ak=>sRegion (sN S fun a S=>?_))
 refine lT (ak _ _ (wp_block ?_))
 obtain ⟨aQ,hl,ax⟩:=bS h
 refine sLoop hl (fun s0 a w=>match s0 with | aa=>St [] E [] w0 32 a w [(0,.slice a5 p0.length a6),(3,iv aa)] [] [fRep (rL r_api_Stitch) (.slice a5 p0.length a6) p0]) (S.fix [] [0] (by decide) d d d) ?_
 clear hl h
 intro aa a w c0 hI h ab
 unfold raddleref25_All_l1 at h
 dsimp only at h hI
 have S:=hI
 refine sSeq (fun aR al=>sSeq (fun aS am=>sRegion (sM S fun a S=>?_)))
 refine sM S fun a S=>?_
 refine sLen S (wN d) d Try.underlying47 d d (lb d) fun a S=>sBin _ S (wN d) d d d (bLt _ _ _ _ .i64 aa (p0.length:Int)) d (lb d) fun a S=>lT (am _ _ ?_)
 rcases iS h with ⟨a8,h⟩ | ⟨a8,h⟩
 rotate_left
 ·refine sCondF S d a8 ?_
  obtain rfl:=tS h
  obtain rfl:=ab _ d
  have h:=ax
  try dsimp only at h
  exact wp_exit (xThen (xThen (xHit (leafT (⟨Option.some.inj h,S.fix [] [0] (by decide) d d d⟩)))))
 refine sCondT S d a8 (wp_skip (leafT (al _ _ ?_)))
 refine sSeq (fun aT ao=>wp_block ?_)
 refine sSeq (fun aU ap=>sRegion (sM S fun a S=>?_))
 refine sM S fun a S=>?_
 obtain ⟨a0,aq,h⟩:=bS h
 obtain ⟨ay,ar,S⟩:=pIdx (P:=Try.prog) (r:=r_api_Stitch) (v:=.slice a5 p0.length a6) (xs:=p0) (j:=aa) 47 81 0 S Try.underlying47 d d aq
 refine sIdxV S (wN d) d d d ar d (lb d) fun a S=>?_
 obtain ⟨az,S⟩:=pLoad (r:=r_api_Stitch) (q:=ay) (x:=a0) 0 S d
 obtain rfl:az=.agg #[.int .u8 a0.Kind,.bool a0.Purl,iv a0.A,iv a0.B]:=S.mem.know (i:=1) (e:=fRep r_api_Stitch (az) a0) d
 refine sLoadVN (vq:=ay) 0 [.int .u8 a0.Kind,.bool a0.Purl,iv a0.A,iv a0.B] S (wN d) d d d d d d (lb d) fun a S=>?_
 obtain ⟨au,av,h⟩:=bS h
 have S1:=S.mem
 refine sCq [.agg #[.int .u8 a0.Kind,.bool a0.Purl,iv a0.A,iv a0.B]] (iv au) S callee73 (S1.quiet [1] d) (fun E1 w1 S1=>c_raddleref25_Check E1 w1 a0 (.agg #[.int .u8 a0.Kind,.bool a0.Purl,iv a0.A,iv a0.B]) au av S1) fun a w S=>?_
 refine sBin _ S (wN d) d d d (bNe _ _ _ _ .i64 au 0) d (lb d) fun a S=>lT (ap _ _ ?_)
 rcases iS h with ⟨a9,h⟩ | ⟨a9,h⟩
 rotate_left
 ·refine sCondF S d a9 (wp_skip (leafB (leafT (ao _ _ ?_))))
  refine sRegion (sM S fun a S=>?_)
  refine sBin _ S (wN d) d d d (bAdd _ _ _ _ aa 1) d (lb d) fun a S=>sN S fun a S=>?_
  exact lT (⟨w64 (aa + 1),(Option.some.inj h).symm,(S.fix [] [3] (by decide) d d d)⟩)
 refine sCondT S d a9 (sSeq (fun aV aw=>sRegion (sN S fun a S=>?_)))
 refine lT (aw _ _ ?_)
 obtain rfl:=tS h
 obtain rfl:=ab _ d
 have h:=ax
 try dsimp only at h
 obtain rfl:=tS h
 have h:=g9
 try dsimp only at h
 obtain rfl:=tS h
 exact wp_ret (rBlock (rThen (rThen (rBlock (rThen (sRet (iv 8) S (rsl1 d (rvT (t:=2) (v:=iv 8) S d)) ⟨(),d,S.mem.sel [] [] (by decide) d d⟩))))))
noncomputable def raddleref25_Cut_l1 (p0:ByteArray) (p1:Int):(List ByteArray × Int × Int)→Option ((List ByteArray × Int × Int) ⊕ List ByteArray):=fun s0=>match s0 with
 | (a2,a4,a0)=>
  if decide (a0 ≤ (p0.size:Int)) then
   Option.bind (α:=(List ByteArray × Int)) (
    Option.bind (α:=Bool) (
     if a0 == (p0.size:Int) then
      some true
     else
      (idxS p0 a0).bind fun a5=>
      some (a5 == p1)) fun a6=>
    if a6 then
     (sliceS p0 a4 a0).bind fun a7=>
     (appO a2 [a7]).bind fun a8=>
     some (a8,w64 (a0 + 1))
    else
     some (a2,a4)) fun (a9,aa)=>
   some (.inl (a9,aa,w64 (a0 + 1)))
  else
   some (.inr a2)
noncomputable def F_raddleref25_Cut (p0:ByteArray) (p1:Int):Option (List ByteArray):=
 Option.bind (α:=List ByteArray) (
  (whileO (raddleref25_Cut_l1 p0 p1) (([]:List ByteArray),0,0)).bind fun a0=>
   some a0) fun o4=>
 some o4
def c_raddleref25_Cut_val (r:(List ByteArray)) (x:Value):Value:=x
def c_raddleref25_Cut_D (r:(List ByteArray)) (x:Value):List Fact:=[fRep (rL rS) x r]
theorem c_raddleref25_Cut (E:Nat→Prop) (w0:World) (p0:ByteArray) (p1:Int) (r:(List ByteArray)) (h:F_raddleref25_Cut p0 p1=some r) (S:St0 E [] w0 w0 [] []) :
 Calls Try.prog 94 #[.string p0,.int .u8 p1] w0 (Ret (X:=Value) E [] w0 (c_raddleref25_Cut_val r) (fun _=>[]) (c_raddleref25_Cut_D r)):=by
 unfold F_raddleref25_Cut at h
 refine sEnter (args:=[.string p0,.int .u8 p1]) 35 Try.func94 d d (by simp) S (fun a S=>?_)
 refine sSeq (fun K1 az=>sRegion (sN S fun a S=>?_))
 refine lT (az _ _ (sSeq (fun K2 aA=>sRegion (sN S fun a S=>?_))))
 refine lT (aA _ _ (sSeq (fun K3 aC=>sRegion (sN S fun a S=>?_))))
 refine lT (aC _ _ ?_)
 obtain ⟨t7,h,g8⟩:=bS h
 refine sCut (fun a w=>∃ o4,o4=t7∧∃ a9,∃ aa,St [] E [] w0 35 a w [(5,.slice a9 o4.length aa)] [eRow rS 9 (.slice a9 o4.length aa) o4] []) ?_ (fun a w hI=>?_)
 rotate_left
 ·obtain ⟨o4,rfl,a9,aa,S⟩:=hI
  have h:=g8
  try dsimp only at h
  refine sSeq (fun aO ai=>sRegion (sM S fun a S=>?_))
  refine sN S fun a S=>?_
  refine lT (ai _ _ ?_)
  obtain rfl:=tS h
  have S:=S.shutR (r:=rS) (T:=9) (v:=.slice a9 o4.length aa) (xs:=o4) 0 d
  exact wp_ret (sRet (.slice a9 o4.length aa) S (rsl1 d (rvT (t:=4) (v:=.slice a9 o4.length aa) S d)) ⟨(.slice a9 o4.length aa),d,S.mem.sel [] [0] (by decide) d d⟩)
 refine sSeq (fun K9 aG=>sRegion (sN S fun a S=>?_))
 refine lT (aG _ _ (wp_block ?_))
 have S:=S.nilRow rS 9 (α:=ByteArray)
 obtain ⟨aP,hl,aH⟩:=bS h
 refine sLoop hl (fun s0 a w=>match s0 with | (a6,af,a5)=>∃ a2,∃ a4,St [] E [] w0 35 a w [(0,.string p0),(1,.int .u8 p1),(5,.slice a2 a6.length a4),(6,iv af),(7,iv a5)] [eRow rS 9 (.slice a2 a6.length a4) a6] []) ⟨none,0,S.fix [0] [] (by decide) d d d⟩ ?_
 clear hl h
 intro s0 a w c0 hI h aj
 obtain ⟨a6,af,a5⟩:=s0
 unfold raddleref25_Cut_l1 at h
 dsimp only at h hI
 obtain ⟨a2,a4,S⟩:=hI
 refine sSeq (fun aQ ak=>sSeq (fun aR al=>sRegion (sM S fun a S=>?_)))
 refine sM S fun a S=>?_
 refine sLenS (v:=p0) S (wN d) d Try.underlying9 d d (lb d) fun a S=>sBin _ S (wN d) d d d (bLe _ _ _ _ .i64 a5 (p0.size:Int)) d (lb d) fun a S=>lT (al _ _ ?_)
 rcases iS h with ⟨ab,h⟩ | ⟨ab,h⟩
 rotate_left
 ·refine sCondF S d ab ?_
  obtain rfl:=tS h
  obtain rfl:=aj _ d
  have h:=aH
  try dsimp only at h
  exact wp_exit (xThen (xThen (xHit (leafT (⟨a6,Option.some.inj h,a2,a4,S.fix [0] [] (by decide) d d d⟩)))))
 refine sCondT S d ab (wp_skip (leafT (ak _ _ ?_)))
 obtain ⟨aI,h,aJ⟩:=bS h
 refine sCut (fun a w=>∃ ag,∃ ah,(ag,ah)=aI∧∃ a7,∃ a8,St [] E [] w0 35 a w [(0,.string p0),(1,.int .u8 p1),(5,.slice a7 ag.length a8),(6,iv ah),(7,iv a5)] [eRow rS 9 (.slice a7 ag.length a8) ag] []) ?_ (fun a w hI=>?_)
 rotate_left
 ·obtain ⟨ag,ah,rfl,a7,a8,S⟩:=hI
  have h:=aJ
  try dsimp only at h
  refine sRegion (sM S fun a S=>?_)
  refine sBin _ S (wN d) d d d (bAdd _ _ _ _ a5 1) d (lb d) fun a S=>sN S fun a S=>?_
  exact lT (⟨(ag,ah,w64 (a5 + 1)),(Option.some.inj h).symm,⟨a7,a8,S.fix [0] [] (by decide) d d d⟩⟩)
 refine wp_block ?_
 obtain ⟨aK,h,aL⟩:=bS h
 refine sCut (fun a w=>∃ am,am=aK∧St [] E [] w0 35 a w [(0,.string p0),(1,.int .u8 p1),(5,.slice a2 a6.length a4),(6,iv af),(7,iv a5),(24,.bool am)] [eRow rS 9 (.slice a2 a6.length a4) a6] []) ?_ (fun a w hI=>?_)
 ·refine sRegion (sM S fun a S=>?_)
  refine sM S fun a S=>?_
  refine sLenS (v:=p0) S (wN d) d Try.underlying9 d d (lb d) fun a S=>sBin _ S (wN d) d d d (bEq _ _ _ _ .i64 a5 (p0.size:Int)) d (lb d) fun a S=>sM S fun a S=>?_
  rcases iS h with ⟨a0,h⟩ | ⟨a0,h⟩
  ·refine sSkN 5 4 false 18 S d d a0 d fun a S=>sPickT (.bool true) S (wN d) d d a0 d d (lb d) fun a S=>?_
   exact lT (⟨true,Option.some.inj h,S.fix [0] [] (by decide) d d d⟩)
  refine sMove (.string p0) S (wG 4 false 18 d d d a0) (.inl d) d d (lb d) fun a S=>sMove (iv a5) S (wG 4 false 18 d d d a0) (.inl d) d d (lb d) fun a S=>?_
  obtain ⟨ao,ap,h⟩:=bS h
  refine sIndexS (v:=p0) (j:=a5) (k:=.i64) S (wG 4 false 18 d d d a0) d Try.underlying9 d d ap d (lb d) fun a S=>sMove (.int .u8 p1) S (wG 4 false 18 d d d a0) (.inl d) d d (lb d) fun a S=>sBin _ S (wG 4 false 18 d d d a0) d d d (bEq _ _ _ _ .u8 ao p1) d (lb d) fun a S=>sPickF (.bool (ao == p1)) S (wN d) d d a0 d d (lb d) fun a S=>?_
  exact lT (⟨ao == p1,Option.some.inj h,S.fix [0] [] (by decide) d d d⟩)
 obtain ⟨am,rfl,S⟩:=hI
 have h:=aL
 try dsimp only at h
 rcases iS h with ⟨ac,h⟩ | ⟨ac,h⟩
 rotate_left
 ·refine sCondF S d ac ?_
  exact wp_skip (leafB (leafT (⟨a6,af,Option.some.inj h,a2,a4,S.fix [0] [] (by decide) d d d⟩)))
 refine sCondT S d ac (sSeq (fun aS aq=>sRegion (sM S fun a S=>?_)))
 refine sM S fun a S=>?_
 refine sM S fun a S=>?_
 refine sM S fun a S=>?_
 obtain ⟨ae,ar,h⟩:=bS h
 refine sSliceS (v:=p0) (u:=ae) (vlo:=(some (.int .i64 af))) (vhi:=(some (.int .i64 a5))) (lo':=af) (hi':=a5) S (wN d) d Try.underlying9 d d d (.inl d) (.inl d) ar d (lb d) fun a S=>sLit (r:=rS) (T:=9) (xs:=[ae]) [(0,.string ae)] 1 [.string ae] [.string ae] (.string (⟨#[]⟩:ByteArray)) 16 S (wN d) d d Try.underlying142 d (by decide) (by decide) (by kernel_rfl) d (fun E1 w1 hE=>All.cons d (All.nil _ _ _)) d d (lb d) fun a w au av S=>?_
 obtain ⟨aM,aw,h⟩:=bS h
 refine sApp (r:=rS) (T:=9) (xs:=a6) (ys:=[ae]) (v:=.slice a2 a6.length a4) (u:=.slice au [ae].length av) 1 (.string (⟨#[]⟩:ByteArray)) 16 S (wN d) d Try.underlying142 d d (by decide) d d d (src_R (T:=9) 0 S.mem d) aw d (lb d) fun a w ax ay S=>sN S fun a S=>?_
 refine lT (aq _ _ (sRegion (sM S fun a S=>?_)))
 refine sBin _ S (wN d) d d d (bAdd _ _ _ _ a5 1) d (lb d) fun a S=>sN S fun a S=>?_
 exact leafL (leafB (leafT (⟨aM,w64 (a5 + 1),Option.some.inj h,ax,ay,S.fix [0] [] (by decide) d d d⟩)))
end Go.Proofs.Ytffikfajljbmnaa
