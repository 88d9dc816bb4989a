/- CompareGroup: walks, tables, laws. -/
import Derived.Test.YtffikfajljbmnaaProg
import Derived.Test.YtffikfajljbmnaaRows
import Derived.Test.YtffikfajljbmnaaMCompareGroup3
set_option linter.unusedVariables false
set_option linter.unusedSimpArgs false
set_option maxHeartbeats 4000000
set_option maxRecDepth 100000
namespace Go.Proofs.Ytffikfajljbmnaa
open Go.RowKit
def anc_compare_Edits_0:List (List Nat):=[[],[],[1],[0,1,2],[0,1,2,3],[0,1,2,3,4],[0,1,2,3,4],[0,1,2,3,4,6],[0,1,2,3,4,5,6,7],[0,1,2,3,4,5,6,7,8],[0,1,2,3,4,5,6,7,8,9],[0,1,2,3,4,5,6,7,8,9,10],[0,1,2,3,4,5,6,7,8,9,10],[0,1,2,3,4,5,6,7,8,9,10,11,12],[0,1,2,3,4,5,6,7,8,9,10,11,12,13],[0,1,2,3,4,5,6,7,8,9,10],[0,1,2,3,4,5,6,7,8,9,10],[0,1,2,3,4,5,6,7,8,9,10,15,16],[0,1,2,3,4,5,6,7,8,9,10,15,16,17],[0,1,2,3,4,5,6,7,8,9,10,11,12,13,14,15,16,17,18],[0,1,2,3,4,5,6,7,8,9,10,11,12,13,14,15,16,17,18,19],[0,1,2,3,4,5,6,7,8,9,10,11,12,13,14,15,16,17,18,19,20],[0,1,2,3,4,5,6,7,8,9,10,11,12,13,14,15,16,17,18,19,20,21],[0,1,2,3,4,5,6,7,8,9,10,11,12,13,14,15,16,17,18,19,20,21],[0,1,2,3,4,5,6,7,8,9,10,11,12,13,14,15,16,17,18,19,20,21],[0,1,2,3,4,5,6,7,8,9,10,11,12,13,14,15,16,17,18,19,20,21,24],[0,1,2,3,4,5,6,7,8,9,10,11,12,13,14,15,16,17,18,19,20,21,23,24,25],[0,1,2,3,4,5,6,7,8,9,10,11,12,13,14,15,16,17,18,19,20,21,23,24,25,26],[0,1,2,3,4,5,6,7,8,9,10,11,12,13,14,15,16,17,18,19,20,21],[0,1,2,3,4,5,6,7,8,9,10,11,12,13,14,15,16,17,18,19,20,21,28],[0,1,2,3,4,5,6,7,8,9,10,11,12,13,14,15,16,17,18,19,20,21,23,24,25,26,27,28,29],[0,1,2,3,4,5,6,7,8,9,10,11,12,13,14,15,16,17,18,19,20,21,23,24,25,26,27,28,29,30],[0,1,2,3,4,5,6,7,8,9,10,11,12,13,14,15,16,17,18,19,20,21,22,23,24,25,26,27,28,29,30,31],[0,1,2,3,4,5,6,7,8,9,10,11,12,13,14,15,16,17,18,19,20,21,22,23,24,25,26,27,28,29,30,31,32],[0,1,2,3,4,5,6,7,8,9,10,11,12,13,14,15,16,17,18,19,20,21,22,23,24,25,26,27,28,29,30,31,32,33]]
def anc_compare_Edits_1:List (List Nat):=[[],[],[1],[0,1,2],[0,1,2,3],[0,1,2,3,4],[0,1,2,3,4],[0,1,2,3,4,6],[0,1,2,3,4,5,6,7],[0,1,2,3,4,5,6,7,8],[0,1,2,3,4,5,6,7,8,9],[0,1,2,3,4,5,6,7,8,9,10],[0,1,2,3,4,5,6,7,8,9,10],[0,1,2,3,4,5,6,7,8,9,10,11,12],[0,1,2,3,4,5,6,7,8,9,10,11,12,13],[0,1,2,3,4,5,6,7,8,9,10],[0,1,2,3,4,5,6,7,8,9,10],[0,1,2,3,4,5,6,7,8,9,10,15,16],[0,1,2,3,4,5,6,7,8,9,10,15,16,17],[0,1,2,3,4,5,6,7,8,9,10,11,12,13,14,15,16,17,18],[0,1,2,3,4,5,6,7,8,9,10,11,12,13,14,15,16,17,18,19],[0,1,2,3,4,5,6,7,8,9,10,11,12,13,14,15,16,17,18,19,20],[0,1,2,3,4,5,6,7,8,9,10,11,12,13,14,15,16,17,18,19,20,21],[0,1,2,3,4,5,6,7,8,9,10,11,12,13,14,15,16,17,18,19,20,21],[0,1,2,3,4,5,6,7,8,9,10,11,12,13,14,15,16,17,18,19,20,21],[0,1,2,3,4,5,6,7,8,9,10,11,12,13,14,15,16,17,18,19,20,21,24],[0,1,2,3,4,5,6,7,8,9,10,11,12,13,14,15,16,17,18,19,20,21,23,24,25],[0,1,2,3,4,5,6,7,8,9,10,11,12,13,14,15,16,17,18,19,20,21,23,24,25,26],[0,1,2,3,4,5,6,7,8,9,10,11,12,13,14,15,16,17,18,19,20,21],[0,1,2,3,4,5,6,7,8,9,10,11,12,13,14,15,16,17,18,19,20,21,28],[0,1,2,3,4,5,6,7,8,9,10,11,12,13,14,15,16,17,18,19,20,21,23,24,25,26,27,28,29],[0,1,2,3,4,5,6,7,8,9,10,11,12,13,14,15,16,17,18,19,20,21,23,24,25,26,27,28,29,30],[0,1,2,3,4,5,6,7,8,9,10,11,12,13,14,15,16,17,18,19,20,21,23,24,25,26,27,28,29,30,31],[0,1,2,3,4,5,6,7,8,9,10,11,12,13,14,15,16,17,18,19,20,21,22,23,24,25,26,27,28,29,30,31,32],[0,1,2,3,4,5,6,7,8,9,10,11,12,13,14,15,16,17,18,19,20,21,22,23,24,25,26,27,28,29,30,31,32,33],[0,1,2,3,4,5,6,7,8,9,10,11,12,13,14,15,16,17,18,19,20,21,22,23,24,25,26,27,28,29,30,31,32,33,34]]
def anc_compare_Edits_2:List (List Nat):=[[],[],[1],[1,2],[1,2,3],[1,2,3,4],[0],[0,1,2,3,4,5,6],[0,1,2,3,4,5,6,7]]
noncomputable def compare_Edits_l1 (p0:(List api_Stitch)) (p1:(List api_Stitch)):Int→Option (Int ⊕ (((List api_CellStep) × Int × Int) ⊕ Unit)):=fun s0=>match s0 with
 | s9=>
  if decide (s9 < 2) then
   (idxO ([p0,p1]:List (List api_Stitch)) s9).bind fun a5=>
   (F_stitch_All a5).bind fun a0=>
   if a0 != 0 then
    some (.inr (.inl (([]:(List api_CellStep)),0,a0)))
   else
    some (.inl (w64 (s9 + 1)))
  else
   some (.inr (.inr ()))
noncomputable def compare_Edits_l2 (p0:(List api_Stitch)) (p1:(List api_Stitch)) (a9:(List (List Int))):(List api_CellStep × Int × Int)→Option ((List api_CellStep × Int × Int) ⊕ List api_CellStep):=fun s0=>match s0 with
 | (a8,a5,a0)=>
  Option.bind (α:=Bool) (
   if decide (a5 < (p0.length:Int)) then
    some true
   else
    some (decide (a0 < (p1.length:Int)))) fun ar=>
  if ar then
   (idxO a9 a5).bind fun au=>
   (idxO au a0).bind fun ac=>
   Option.bind (α:=Bool) (
    if decide (a5 < (p0.length:Int)) then
     if decide (a0 < (p1.length:Int)) then
      (idxO p0 a5).bind fun aa=>
      (idxO p1 a0).bind fun ab=>
      if ((aa.Kind == ab.Kind) && ((aa.Purl == ab.Purl) && ((aa.A == ab.A) && ((aa.B == ab.B) && true)))) then
       (idxO a9 (w64 (a5 + 1))).bind fun av=>
       (idxO av (w64 (a0 + 1))).bind fun aw=>
       some (ac == aw)
      else
       some false
     else
      some false
    else
     some false) fun ax=>
   if ax then
    (appO a8 [(api_CellStep.mk 1 (api_Stitch.mk 0 false 0 0))]).bind fun ae=>
    some (.inl (ae,w64 (a5 + 1),w64 (a0 + 1)))
   else
    Option.bind (α:=Bool) (
     if decide (a5 < (p0.length:Int)) then
      if decide (a0 < (p1.length:Int)) then
       (idxO p0 a5).bind fun a6=>
       (idxO p1 a0).bind fun a7=>
       if !((a6.Kind == a7.Kind) && ((a6.Purl == a7.Purl) && ((a6.A == a7.A) && ((a6.B == a7.B) && true)))) then
        (idxO a9 (w64 (a5 + 1))).bind fun af=>
        (idxO af (w64 (a0 + 1))).bind fun ag=>
        some (ac == (w64 (1 + ag)))
       else
        some false
      else
       some false
     else
      some false) fun ah=>
    if ah then
     (idxO p1 a0).bind fun ai=>
     (appO a8 [(api_CellStep.mk 2 ai)]).bind fun aj=>
     some (.inl (aj,w64 (a5 + 1),w64 (a0 + 1)))
    else
     Option.bind (α:=Bool) (
      if decide (a5 < (p0.length:Int)) then
       (idxO a9 (w64 (a5 + 1))).bind fun ak=>
       (idxO ak a0).bind fun al=>
       some (ac == (w64 (1 + al)))
      else
       some false) fun am=>
     if am then
      (appO a8 [(api_CellStep.mk 4 (api_Stitch.mk 0 false 0 0))]).bind fun ao=>
      some (.inl (ao,w64 (a5 + 1),a0))
     else
      (idxO p1 a0).bind fun ap=>
      (appO a8 [(api_CellStep.mk 3 ap)]).bind fun aq=>
      some (.inl (aq,a5,w64 (a0 + 1)))
  else
   some (.inr a8)
noncomputable def F_compare_Edits (p0:(List api_Stitch)) (p1:(List api_Stitch)):Option ((List api_CellStep) × Int × Int):=
 Option.bind (α:=Unit ⊕ ((List api_CellStep) × Int × Int)) (
  (whileO (compare_Edits_l1 p0 p1) 0).bind fun z0=>match z0 with
   | .inl z=>
    some (.inr z)
   | .inr _=>
    some (.inl ())) fun z0=>match z0 with
  | .inl _=>
   (F_compare_cellTable p0 p1).bind fun a6=>
   Option.bind (α:=List api_CellStep) (
    (whileO (compare_Edits_l2 p0 p1 a6) (([]:List api_CellStep),0,0)).bind fun a7=>
     some a7) fun a8=>
   (idxO a6 0).bind fun a0=>
   (idxO a0 0).bind fun a5=>
   some (a8,a5,0)
  | .inr z=>
   some z
def c_compare_Edits_val (r:((List api_CellStep) × Int × Int)) (x:Value):Value:=.tuple #[x,.int .i64 r.2.1,.int .i64 r.2.2]
def c_compare_Edits_D (r:((List api_CellStep) × Int × Int)) (x:Value):List Fact:=[fRep (rL r_api_CellStep) x r.1]
theorem c_compare_Edits (E:Nat→Prop) (w0:World) (p0:(List api_Stitch)) (v0:Value) (p1:(List api_Stitch)) (v1:Value) (r:((List api_CellStep) × Int × Int)) (h:F_compare_Edits p0 p1=some r) (S:St0 E [] w0 w0 [] [fRep (rL r_api_Stitch) (v0) p0,fRep (rL r_api_Stitch) (v1) p1]) :
 Calls Try.prog 23 #[v0,v1] w0 (Ret (X:=Value) E [] w0 (c_compare_Edits_val r) (fun _=>[]) (c_compare_Edits_D r)):=by
 unfold F_compare_Edits at h
 obtain ⟨al,am,_,rfl,_⟩:=S.know (i:=0) (e:=fRep (rL r_api_Stitch) (v0) p0) d
 obtain ⟨af,ag,_,rfl,_⟩:=S.know (i:=1) (e:=fRep (rL r_api_Stitch) (v1) p1) d
 refine sEnter (args:=[.slice al p0.length am,.slice af p1.length ag]) 178 Try.func23 d d (by simp) S (fun a S=>?_)
 refine sSeq (fun K5 e5=>sRegion (sN S fun a S=>?_))
 refine sN S fun a S=>?_
 refine sN S fun a S=>?_
 refine lT (e5 _ _ ?_)
 obtain ⟨t6,h,g7⟩:=bS h
 refine sCut (fun a w=>.inl ()=t6∧St [] E [] w0 178 a w [(0,.slice al p0.length am),(1,.slice af p1.length ag)] [] [fRep (rL r_api_Stitch) (.slice al p0.length am) p0,fRep (rL r_api_Stitch) (.slice af p1.length ag) p1]) ?_ (fun a w hI=>?_)
 ·refine sSeq (fun K8 e6=>sRegion (sM S fun a S=>?_))
  refine sM S fun a S=>?_
  refine sBuild [(0,.slice al p0.length am),(1,.slice af p1.length ag)] [.slice al p0.length am,.slice af p1.length ag] S (wN d) d d d d (lb d) fun a S=>sM S fun a S=>?_
  refine lT (e6 _ _ (wp_block ?_))
  obtain ⟨es,hl,dW⟩:=bS h
  refine sLoop hl (fun s0 a w=>match s0 with | s9=>St [] E [] w0 178 a w [(0,.slice al p0.length am),(1,.slice af p1.length ag),(17,.agg #[.slice al p0.length am,.slice af p1.length ag]),(18,iv s9)] [] [fRep (rL r_api_Stitch) (.slice al p0.length am) p0,fRep (rL r_api_Stitch) (.slice af p1.length ag) p1]) (S.fix [] [0,1] (by decide) d d d) ?_
  clear hl h
  intro s9 a w c0 hI h bC
  unfold compare_Edits_l1 at h
  dsimp only at h hI
  have S:=hI
  refine sSeq (fun et de=>sRegion (sBin _ S (wN d) d d d (bLt _ _ _ _ .i64 s9 2) d (lb d) fun a S=>lT (de _ _ (sSeq (fun ew df=>?_)))))
  rcases iS h with ⟨br,h⟩ | ⟨br,h⟩
  rotate_left
  ·refine sCondF S d br ?_
   obtain rfl:=tS h
   obtain rfl:=bC _ d
   have h:=dW
   try dsimp only at h
   exact wp_exit (xThen (xThen (xHit (leafT (⟨Option.some.inj h,S.fix [] [0,1] (by decide) d d d⟩)))))
  refine sCondT S d br (wp_skip (leafT (df _ _ ?_)))
  refine sSeq (fun ex dg=>wp_block ?_)
  refine sSeq (fun ey dh=>sRegion ?_)
  obtain ⟨dc,di,h⟩:=bS h
  refine sIndexAL (r:=(rL r_api_Stitch)) (xs:=([p0,p1]:List (List api_Stitch))) (j:=s9) (k:=.i64) 2 [.slice al p0.length am,.slice af p1.length ag] [0,1] S (wN d) d Try.underlying104 d d d d d di d d d (lb d) fun a e7 S=>?_
  obtain ⟨bD,bE,_,rfl,_⟩:=S.mem.know (i:=0) (e:=fRep (rL r_api_Stitch) (e7) dc) d
  refine sN S fun a S=>?_
  refine lT (dh _ _ (sSeq (fun ez dj=>sRegion (sM S fun a S=>?_))))
  obtain ⟨bG,dk,h⟩:=bS h
  have S1:=S.mem
  refine sCq [.slice bD dc.length bE] (iv bG) S callee56 (S1.quiet [0] d) (fun E1 w1 S1=>c_stitch_All E1 w1 dc (.slice bD dc.length bE) bG dk S1) fun a w S=>?_
  refine sN S fun a S=>?_
  refine lT (dj _ _ (sSeq (fun eC dm=>sRegion (sM S fun a S=>?_))))
  refine sBin _ S (wN d) d d d (bNe _ _ _ _ .i64 bG 0) d (lb d) fun a S=>lT (dm _ _ ?_)
  rcases iS h with ⟨bu,h⟩ | ⟨bu,h⟩
  rotate_left
  ·refine sCondF S d bu (wp_skip (leafB (leafT (dg _ _ ?_))))
   refine sRegion (sBin _ S (wN d) d d d (bAdd _ _ _ _ s9 1) d (lb d) fun a S=>sM S fun a S=>?_)
   exact lT (⟨w64 (s9 + 1),(Option.some.inj h).symm,(S.fix [] [1,2] (by decide) d d d)⟩)
  refine sCondT S d bu (sSeq (fun eD dn=>sRegion (sM S fun a S=>?_)))
  refine sN S fun a S=>?_
  refine sN S fun a S=>?_
  refine sN S fun a S=>?_
  refine lT (dn _ _ ?_)
  obtain rfl:=tS h
  obtain rfl:=bC _ d
  have h:=dW
  try dsimp only at h
  obtain rfl:=tS h
  have h:=g7
  try dsimp only at h
  obtain rfl:=tS h
  have S:=S.learn (fRep (rL r_api_CellStep) (.slice none 0 0) ([]:(List api_CellStep))) (rL_nil _ _ _)
  exact wp_ret (rBlock (rThen (rThen (rBlock (rThen (sRet (.tuple #[.slice none 0 0,iv 0,iv bG]) S (rsl3 d (rvT (t:=4) (v:=.slice none 0 0) S d) (rvT (t:=5) (v:=iv 0) S d) (rvT (t:=6) (v:=iv bG) S d)) ⟨(.slice none 0 0),d,S.mem.sel [] [0] (by decide) d d⟩))))))
 obtain ⟨rfl,S⟩:=hI
 have h:=g7
 try dsimp only at h
 refine sSeq (fun eE dp=>sRegion (sM S fun a S=>?_))
 refine sM S fun a S=>?_
 obtain ⟨ar,dr,h⟩:=bS h
 refine sCall (X:=Value) (f:=54) (vs:=[.slice al p0.length am,.slice af p1.length ag]) (val:=c_compare_cellTable_val ar) (B':=fun _=>[]) (D':=c_compare_cellTable_D ar) [] [] [fRep (rL r_api_Stitch) (.slice al p0.length am) p0,fRep (rL r_api_Stitch) (.slice af p1.length ag) p1] [] [0,1] S (wN d) d callee54 d (by decide) d d (fun E1 w1 S1=>c_compare_cellTable E1 w1 p0 (.slice al p0.length am) p1 (.slice af p1.length ag) ar dr S1) d (lb d) fun e8 a w S=>?_
 obtain ⟨ah,ai,_,rfl,_⟩:=S.mem.know (i:=0) (e:=fRep (rL (rL (rI .i64))) (e8) ar) d
 refine sN S fun a S=>?_
 refine lT (dp _ _ (sSeq (fun eF dt=>sRegion (sN S fun a S=>?_))))
 refine lT (dt _ _ (sSeq (fun eG du=>sRegion (sN S fun a S=>?_))))
 refine sN S fun a S=>?_
 refine lT (du _ _ ?_)
 obtain ⟨e9,h,ec⟩:=bS h
 refine sCut (fun a w=>∃ aP,aP=e9∧∃ az,∃ aA,St [] E [] w0 178 a w [(10,.slice ah ar.length ai),(11,.slice az aP.length aA)] [eRow r_api_CellStep 83 (.slice az aP.length aA) aP] [fRep (rL (rL (rI .i64))) (.slice ah ar.length ai) ar]) ?_ (fun a w hI=>?_)
 rotate_left
 ·obtain ⟨aP,rfl,az,aA,S⟩:=hI
  have h:=ec
  try dsimp only at h
  refine sSeq (fun ed bH=>?_)
  obtain ⟨aQ,bI,h⟩:=bS h
  obtain ⟨aC,bJ,h⟩:=bS h
  obtain ⟨bv,bK,S⟩:=pIdx (P:=Try.prog) (r:=(rL (rI .i64))) (v:=.slice ah ar.length ai) (xs:=ar) (j:=0) 98 101 0 S Try.underlying98 d d bI
  obtain ⟨dv,S⟩:=pLoad (r:=(rL (rI .i64))) (q:=bv) (x:=aQ) 0 S d
  obtain ⟨aR,aS,_,rfl,_⟩:=S.mem.know (i:=1) (e:=fRep (rL (rI .i64)) (dv) aQ) d
  obtain ⟨bw,bL,S⟩:=pIdx (P:=Try.prog) (r:=(rI .i64)) (v:=.slice aR aQ.length aS) (xs:=aQ) (j:=0) 101 3 1 S Try.underlying101 d d bJ
  obtain ⟨bM,S⟩:=pLoad (r:=(rI .i64)) (q:=bw) (x:=aC) 0 S d
  obtain rfl:bM=iv aC:=S.mem.know (i:=1) (e:=fRep (rI .i64) (bM) aC) d
  refine sDraw (nf:=[]) (W:=[(0,172,.slice az aP.length aA),(1,173,.slice ah ar.length ai),(2,174,bv),(3,175,.slice aR aQ.length aS),(4,176,bw),(5,177,iv aC),(6,4,.slice az aP.length aA),(7,5,iv aC),(8,6,iv 0)]) d S ?_
  refine node_by (A:=anc_compare_Edits_2) 9 (by kernel_rfl) (by kernel_rfl) (by kernel_rfl) (by kernel_rfl) (by kernel_rfl) [0,1,2,3,4,5,6,7,8] (by kernel_rfl) (by decide) (by decide) (fF ?_ (fF ?_ (fF ?_ (fF ?_ (fF ?_ (fF ?_ (fF ?_ (fF ?_ (fF ?_ (trivial)))))))))) [(4,.slice az aP.length aA),(5,iv aC),(6,iv 0)] (fin_of [some 6,some 7,some 8] d (by kernel_rfl) (by kernel_rfl)) (fun _ a w S=>?_)
  ·exact fM 0 none d d d d (.inl d) d d d
  ·exact fM 1 none d d d d (.inl d) d d d
  ·refine fJ [(173,_)] 2 [some 1] fun G a w S=>?_
   exact sIdxV S (wN d) d d d bK d (lb d) fun a S=>leafL ⟨d,S⟩
  ·refine fJ [(174,_)] 3 [some 2] fun G a w S=>?_
   exact sLoadV1 (vq:=bv) 3 (.slice aR aQ.length aS) S (wN d) d d d d d (lb d) fun a S=>leafL ⟨d,S⟩
  ·refine fJ [(175,_)] 4 [some 3] fun G a w S=>?_
   exact sIdxV S (wN d) d d d bL d (lb d) fun a S=>leafL ⟨d,S⟩
  ·refine fJ [(176,_)] 5 [some 4] fun G a w S=>?_
   exact sLoadV1 (vq:=bw) 0 (iv aC) S (wN d) d d d d d (lb d) fun a S=>leafL ⟨d,S⟩
  ·exact fM 6 (some 0) d d d d (.inr d) d d d
  ·exact fM 7 (some 5) d d d d (.inr d) d d d
  ·refine fJ [] 8 [] fun G a w S=>?_
   exact sN S fun a S=>leafL ⟨d,S⟩
  refine leafT (bH _ _ ?_)
  obtain rfl:=tS h
  have S:=S.shutR (r:=r_api_CellStep) (T:=83) (v:=.slice az aP.length aA) (xs:=aP) 0 d
  exact wp_ret (sRet (.tuple #[.slice az aP.length aA,iv aC,iv 0]) S (rsl3 d (rvT (t:=4) (v:=.slice az aP.length aA) S d) (rvT (t:=5) (v:=iv aC) S d) (rvT (t:=6) (v:=iv 0) S d)) ⟨(.slice az aP.length aA),d,S.mem.sel [] [0] (by decide) d d⟩)
 refine wp_block ?_
 have S:=S.nilRow r_api_CellStep 83 (α:=api_CellStep)
 obtain ⟨eH,hl,ee⟩:=bS h
 refine sLoop hl (fun s0 a w=>match s0 with | (ay,aa,a6)=>∃ ap,∃ aq,St [] E [] w0 178 a w [(0,.slice al p0.length am),(1,.slice af p1.length ag),(10,.slice ah ar.length ai),(11,.slice ap ay.length aq),(12,iv aa),(13,iv a6)] [eRow r_api_CellStep 83 (.slice ap ay.length aq) ay] [fRep (rL r_api_Stitch) (.slice al p0.length am) p0,fRep (rL r_api_Stitch) (.slice af p1.length ag) p1,fRep (rL (rL (rI .i64))) (.slice ah ar.length ai) ar]) ⟨none,0,S.fix [0] [1,2,0] (by decide) d d d⟩ ?_
 clear hl h
 intro s0 a w c0 hI h dw
 obtain ⟨ay,aa,a6⟩:=s0
 unfold compare_Edits_l2 at h
 dsimp only at h hI
 obtain ⟨ap,aq,S⟩:=hI
 refine sSeq (fun eI dz=>?_)
 obtain ⟨ef,h,eh⟩:=bS h
 refine sCut (fun a w=>∃ dA,dA=ef∧St [] E [] w0 178 a w [(0,.slice al p0.length am),(1,.slice af p1.length ag),(10,.slice ah ar.length ai),(11,.slice ap ay.length aq),(12,iv aa),(13,iv a6),(39,.bool dA)] [eRow r_api_CellStep 83 (.slice ap ay.length aq) ay] [fRep (rL r_api_Stitch) (.slice al p0.length am) p0,fRep (rL r_api_Stitch) (.slice af p1.length ag) p1,fRep (rL (rL (rI .i64))) (.slice ah ar.length ai) ar]) ?_ (fun a w hI=>?_)
 ·refine sRegion (sM S fun a S=>?_)
  refine sM S fun a S=>?_
  refine sLen S (wN d) d Try.underlying47 d d (lb d) fun a S=>sBin _ S (wN d) d d d (bLt _ _ _ _ .i64 aa (p0.length:Int)) d (lb d) fun a S=>sM S fun a S=>?_
  rcases iS h with ⟨aG,h⟩ | ⟨aG,h⟩
  ·refine sSkN 4 4 false 34 S d d aG d fun a S=>sPickT (.bool true) S (wN d) d d aG d d (lb d) fun a S=>?_
   exact lT (⟨true,Option.some.inj h,S.fix [0] [0,1,2] (by decide) d d d⟩)
  refine sMove (iv a6) S (wG 4 false 34 d d d aG) (.inl d) d d (lb d) fun a S=>sMove (.slice af p1.length ag) S (wG 4 false 34 d d d aG) (.inl d) d d (lb d) fun a S=>sLen S (wG 4 false 34 d d d aG) d Try.underlying47 d d (lb d) fun a S=>sBin _ S (wG 4 false 34 d d d aG) d d d (bLt _ _ _ _ .i64 a6 (p1.length:Int)) d (lb d) fun a S=>sPickF (.bool (decide (a6 < (p1.length:Int)))) S (wN d) d d aG d d (lb d) fun a S=>?_
  exact lT (⟨decide (a6 < (p1.length:Int)),Option.some.inj h,S.fix [0] [0,1,2] (by decide) d d d⟩)
 obtain ⟨dA,rfl,S⟩:=hI
 have h:=eh
 try dsimp only at h
 rcases iS h with ⟨bx,h⟩ | ⟨bx,h⟩
 rotate_left
 ·refine sCondF S d bx ?_
  obtain rfl:=tS h
  obtain rfl:=dw _ d
  have h:=ee
  try dsimp only at h
  exact wp_exit (xThen (xThen (xHit (leafT (⟨ay,Option.some.inj h,ap,aq,S.fix [0] [2] (by decide) d d d⟩)))))
 refine sCondT S d bx (wp_skip (leafT (dz _ _ ?_)))
 refine wp_block ?_
 refine sSeq (fun eJ dB=>sRegion (sM S fun a S=>?_))
 refine sM S fun a S=>?_
 obtain ⟨bN,dC,h⟩:=bS h
 obtain ⟨dX,dD,S⟩:=pIdx (P:=Try.prog) (r:=(rL (rI .i64))) (v:=.slice ah ar.length ai) (xs:=ar) (j:=aa) 98 101 2 S Try.underlying98 d d dC
 refine sIdxV S (wN d) d d d dD d (lb d) fun a S=>?_
 obtain ⟨ei,S⟩:=pLoad (r:=(rL (rI .i64))) (q:=dX) (x:=bN) 0 S d
 obtain ⟨bO,bP,_,rfl,_⟩:=S.mem.know (i:=1) (e:=fRep (rL (rI .i64)) (ei) bN) d
 refine sLoadV1 (vq:=dX) 0 (.slice bO bN.length bP) S (wN d) d d d d d (lb d) fun a S=>sM S fun a S=>?_
 obtain ⟨aw,dE,h⟩:=bS h
 obtain ⟨dY,dG,S⟩:=pIdx (P:=Try.prog) (r:=(rI .i64)) (v:=.slice bO bN.length bP) (xs:=bN) (j:=a6) 101 3 1 S Try.underlying101 d d dE
 refine sIdxV S (wN d) d d d dG d (lb d) fun a S=>?_
 obtain ⟨dZ,S⟩:=pLoad (r:=(rI .i64)) (q:=dY) (x:=aw) 0 S d
 obtain rfl:dZ=iv aw:=S.mem.know (i:=1) (e:=fRep (rI .i64) (dZ) aw) d
 refine sLoadV1 (vq:=dY) 0 (iv aw) S (wN d) d d d d d (lb d) fun a S=>sN S fun a S=>?_
 refine lT (dB _ _ (wp_block ?_))
 obtain ⟨ej,h,ek⟩:=bS h
 refine sCut (fun a w=>∃ dH,dH=ej∧St [] E [] w0 178 a w [(0,.slice al p0.length am),(1,.slice af p1.length ag),(10,.slice ah ar.length ai),(11,.slice ap ay.length aq),(12,iv aa),(13,iv a6),(14,iv aw),(57,.bool dH)] [eRow r_api_CellStep 83 (.slice ap ay.length aq) ay] [fRep (rL r_api_Stitch) (.slice al p0.length am) p0,fRep (rL r_api_Stitch) (.slice af p1.length ag) p1,fRep (rL (rL (rI .i64))) (.slice ah ar.length ai) ar]) ?_ (fun a w hI=>?_)
 ·rcases iS h with ⟨av,h⟩ | ⟨av,h⟩
  rotate_left
  ·refine sDraw (nf:=[]) (W:=[(0,58,iv aa),(1,59,.slice al p0.length am),(2,60,iv (p0.length:Int)),(3,61,.bool (decide (aa < (p0.length:Int)))),(4,62,.bool (decide (aa < (p0.length:Int)))),(5,63,undef),(6,64,undef),(7,65,undef),(8,66,undef),(9,67,.bool false),(10,68,.bool false),(11,69,undef),(12,70,undef),(13,71,undef),(14,72,undef),(15,73,undef),(16,74,undef),(17,75,undef),(18,76,undef),(19,77,undef),(20,78,.bool false),(21,79,.bool false),(22,80,undef),(23,81,undef),(24,82,undef),(25,83,undef),(26,84,undef),(27,85,undef),(28,86,undef),(29,87,undef),(30,88,undef),(31,89,undef),(32,90,undef),(33,91,.bool false),(34,57,.bool false)]) d S ?_
   refine node_by (A:=anc_compare_Edits_0) 35 (by kernel_rfl) (by kernel_rfl) (by kernel_rfl) (by kernel_rfl) (by kernel_rfl) [0,1,2,3,4,5,6,7,8,9,10,11,12,13,14,15,16,17,18,19,20,21,22,23,24,25,26,27,28,29,30,31,32,33,34] (by kernel_rfl) (by decide) (by decide) (fF ?_ (fF ?_ (fF ?_ (fF ?_ (fF ?_ (fF ?_ (fF ?_ (fF ?_ (fF ?_ (fF ?_ (fF ?_ (fF ?_ (fF ?_ (fF ?_ (fF ?_ (fF ?_ (fF ?_ (fF ?_ (fF ?_ (fF ?_ (fF ?_ (fF ?_ (fF ?_ (fF ?_ (fF ?_ (fF ?_ (fF ?_ (fF ?_ (fF ?_ (fF ?_ (fF ?_ (fF ?_ (fF ?_ (fF ?_ (fF ?_ (trivial)))))))))))))))))))))))))))))))))))) [(0,.slice al p0.length am),(1,.slice af p1.length ag),(10,.slice ah ar.length ai),(11,.slice ap ay.length aq),(12,iv aa),(13,iv a6),(14,iv aw),(57,.bool false),(63,undef),(64,undef),(65,undef),(66,undef),(69,undef),(70,undef),(71,undef),(72,undef),(73,undef),(74,undef),(75,undef),(76,undef),(77,undef),(80,undef),(81,undef),(82,undef),(83,undef),(84,undef),(85,undef),(86,undef),(87,undef),(88,undef),(89,undef),(90,undef)] (fin_of [none,none,none,none,none,none,none,some 34,some 5,some 6,some 7,some 8,some 11,some 12,some 13,some 14,some 15,some 16,some 17,some 18,some 19,some 22,some 23,some 24,some 25,some 26,some 27,some 28,some 29,some 30,some 31,some 32] d (by kernel_rfl) (by kernel_rfl)) (fun _ a w S=>?_)
   ·exact fM 0 none d d d d (.inl d) d d d
   ·exact fM 1 none d d d d (.inl d) d d d
   ·refine fJ [(59,_)] 2 [some 1] fun G a w S=>?_
    exact sLen S (wN d) d Try.underlying47 d d (lb d) fun a S=>leafL ⟨d,S⟩
   ·refine fJ [(58,_),(60,_)] 3 [some 0,some 2] fun G a w S=>?_
    exact sBin _ S (wN d) d d d (bLt _ _ _ _ .i64 aa (p0.length:Int)) d (lb d) fun a S=>leafL ⟨d,S⟩
   ·exact fM 4 (some 3) d d d d (.inl d) d d d
   ·refine fJ [(13,_),(62,_)] 5 [none,some 4] fun G a w S=>?_
    exact sSk S d d d av d d fun a S=>leafL ⟨d,S⟩
   ·refine fJ [(1,_),(62,_)] 6 [none,some 4] fun G a w S=>?_
    exact sSk S d d d av d d fun a S=>leafL ⟨d,S⟩
   ·refine fJ [(64,_),(62,_)] 7 [some 6,some 4] fun G a w S=>?_
    exact sSk S d d d av d d fun a S=>leafL ⟨d,S⟩
   ·refine fJ [(63,_),(65,_),(62,_)] 8 [some 5,some 7,some 4] fun G a w S=>?_
    exact sSk S d d d av d d fun a S=>leafL ⟨d,S⟩
   ·refine fJ [(62,_),(66,_)] 9 [some 4,some 8] fun G a w S=>?_
    exact sPickF (.bool false) S (wN d) d d av d d (lb d) fun a S=>leafL ⟨d,S⟩
   ·exact fM 10 (some 9) d d d d (.inl d) d d d
   ·refine fJ [(0,_),(68,_)] 11 [none,some 10] fun G a w S=>?_
    exact sSk S d d d d d d fun a S=>leafL ⟨d,S⟩
   ·refine fJ [(12,_),(68,_)] 12 [none,some 10] fun G a w S=>?_
    exact sSk S d d d d d d fun a S=>leafL ⟨d,S⟩
   ·refine fJ [(69,_),(70,_),(68,_)] 13 [some 11,some 12,some 10] fun G a w S=>?_
    exact sSk S d d d d d d fun a S=>leafL ⟨d,S⟩
   ·refine fJ [(71,_),(68,_)] 14 [some 13,some 10] fun G a w S=>?_
    exact sSk S d d d d d d fun a S=>leafL ⟨d,S⟩
   ·refine fJ [(1,_),(68,_)] 15 [none,some 10] fun G a w S=>?_
    exact sSk S d d d d d d fun a S=>leafL ⟨d,S⟩
   ·refine fJ [(13,_),(68,_)] 16 [none,some 10] fun G a w S=>?_
    exact sSk S d d d d d d fun a S=>leafL ⟨d,S⟩
   ·refine fJ [(73,_),(74,_),(68,_)] 17 [some 15,some 16,some 10] fun G a w S=>?_
    exact sSk S d d d d d d fun a S=>leafL ⟨d,S⟩
   ·refine fJ [(75,_),(68,_)] 18 [some 17,some 10] fun G a w S=>?_
    exact sSk S d d d d d d fun a S=>leafL ⟨d,S⟩
   ·refine fJ [(72,_),(76,_),(68,_)] 19 [some 14,some 18,some 10] fun G a w S=>?_
    exact sSk S d d d d d d fun a S=>leafL ⟨d,S⟩
   ·refine fJ [(68,_),(77,_)] 20 [some 10,some 19] fun G a w S=>?_
    exact sPickF (.bool false) S (wN d) d d d d d (lb d) fun a S=>leafL ⟨d,S⟩
   ·exact fM 21 (some 20) d d d d (.inl d) d d d
   ·refine fJ [(14,_),(79,_)] 22 [none,some 21] fun G a w S=>?_
    exact sSk S d d d d d d fun a S=>leafL ⟨d,S⟩
   ·refine fJ [(10,_),(79,_)] 23 [none,some 21] fun G a w S=>?_
    exact sSk S d d d d d d fun a S=>leafL ⟨d,S⟩
   ·refine fJ [(12,_),(79,_)] 24 [none,some 21] fun G a w S=>?_
    exact sSk S d d d d d d fun a S=>leafL ⟨d,S⟩
   ·refine fJ [(82,_),(79,_)] 25 [some 24,some 21] fun G a w S=>?_
    exact sSk S d d d d d d fun a S=>leafL ⟨d,S⟩
   ·refine fJ [(81,_),(83,_),(79,_)] 26 [some 23,some 25,some 21] fun G a w S=>?_
    exact sSk S d d d d d d fun a S=>leafL ⟨d,S⟩
   ·refine fJ [(84,_),(79,_)] 27 [some 26,some 21] fun G a w S=>?_
    exact sSk S d d d d d d fun a S=>leafL ⟨d,S⟩
   ·refine fJ [(13,_),(79,_)] 28 [none,some 21] fun G a w S=>?_
    exact sSk S d d d d d d fun a S=>leafL ⟨d,S⟩
   ·refine fJ [(86,_),(79,_)] 29 [some 28,some 21] fun G a w S=>?_
    exact sSk S d d d d d d fun a S=>leafL ⟨d,S⟩
   ·refine fJ [(85,_),(87,_),(79,_)] 30 [some 27,some 29,some 21] fun G a w S=>?_
    exact sSk S d d d d d d fun a S=>leafL ⟨d,S⟩
   ·refine fJ [(88,_),(79,_)] 31 [some 30,some 21] fun G a w S=>?_
    exact sSk S d d d d d d fun a S=>leafL ⟨d,S⟩
   ·refine fJ [(80,_),(89,_),(79,_)] 32 [some 22,some 31,some 21] fun G a w S=>?_
    exact sSk S d d d d d d fun a S=>leafL ⟨d,S⟩
   ·refine fJ [(79,_),(90,_)] 33 [some 21,some 32] fun G a w S=>?_
    exact sPickF (.bool false) S (wN d) d d d d d (lb d) fun a S=>leafL ⟨d,S⟩
   ·exact fM 34 (some 33) d d d d (.inr d) d d d
   exact leafT (⟨false,Option.some.inj h,S.fix [0] [6,7,8] (by decide) d d d⟩)
  rcases iS h with ⟨ak,h⟩ | ⟨ak,h⟩
  rotate_left
  ·refine sDraw (nf:=[]) (W:=[(0,58,iv aa),(1,59,.slice al p0.length am),(2,60,iv (p0.length:Int)),(3,61,.bool (decide (aa < (p0.length:Int)))),(4,62,.bool (decide (aa < (p0.length:Int)))),(5,63,iv a6),(6,64,.slice af p1.length ag),(7,65,iv (p1.length:Int)),(8,66,.bool (decide (a6 < (p1.length:Int)))),(9,67,.bool (decide (a6 < (p1.length:Int)))),(10,68,.bool (decide (a6 < (p1.length:Int)))),(11,69,undef),(12,70,undef),(13,71,undef),(14,72,undef),(15,73,undef),(16,74,undef),(17,75,undef),(18,76,undef),(19,77,undef),(20,78,.bool false),(21,79,.bool false),(22,80,undef),(23,81,undef),(24,82,undef),(25,83,undef),(26,84,undef),(27,85,undef),(28,86,undef),(29,87,undef),(30,88,undef),(31,89,undef),(32,90,undef),(33,91,.bool false),(34,57,.bool false)]) d S ?_
   refine node_by (A:=anc_compare_Edits_0) 35 (by kernel_rfl) (by kernel_rfl) (by kernel_rfl) (by kernel_rfl) (by kernel_rfl) [0,1,2,3,4,5,6,7,8,9,10,11,12,13,14,15,16,17,18,19,20,21,22,23,24,25,26,27,28,29,30,31,32,33,34] (by kernel_rfl) (by decide) (by decide) (fF ?_ (fF ?_ (fF ?_ (fF ?_ (fF ?_ (fF ?_ (fF ?_ (fF ?_ (fF ?_ (fF ?_ (fF ?_ (fF ?_ (fF ?_ (fF ?_ (fF ?_ (fF ?_ (fF ?_ (fF ?_ (fF ?_ (fF ?_ (fF ?_ (fF ?_ (fF ?_ (fF ?_ (fF ?_ (fF ?_ (fF ?_ (fF ?_ (fF ?_ (fF ?_ (fF ?_ (fF ?_ (fF ?_ (fF ?_ (fF ?_ (trivial)))))))))))))))))))))))))))))))))))) [(0,.slice al p0.length am),(1,.slice af p1.length ag),(10,.slice ah ar.length ai),(11,.slice ap ay.length aq),(12,iv aa),(13,iv a6),(14,iv aw),(57,.bool false),(63,iv a6),(64,.slice af p1.length ag),(65,iv (p1.length:Int)),(66,.bool (decide (a6 < (p1.length:Int)))),(69,undef),(70,undef),(71,undef),(72,undef),(73,undef),(74,undef),(75,undef),(76,undef),(77,undef),(80,undef),(81,undef),(82,undef),(83,undef),(84,undef),(85,undef),(86,undef),(87,undef),(88,undef),(89,undef),(90,undef)] (fin_of [none,none,none,none,none,none,none,some 34,some 5,some 6,some 7,some 8,some 11,some 12,some 13,some 14,some 15,some 16,some 17,some 18,some 19,some 22,some 23,some 24,some 25,some 26,some 27,some 28,some 29,some 30,some 31,some 32] d (by kernel_rfl) (by kernel_rfl)) (fun _ a w S=>?_)
   ·exact fM 0 none d d d d (.inl d) d d d
   ·exact fM 1 none d d d d (.inl d) d d d
   ·refine fJ [(59,_)] 2 [some 1] fun G a w S=>?_
    exact sLen S (wN d) d Try.underlying47 d d (lb d) fun a S=>leafL ⟨d,S⟩
   ·refine fJ [(58,_),(60,_)] 3 [some 0,some 2] fun G a w S=>?_
    exact sBin _ S (wN d) d d d (bLt _ _ _ _ .i64 aa (p0.length:Int)) d (lb d) fun a S=>leafL ⟨d,S⟩
   ·exact fM 4 (some 3) d d d d (.inl d) d d d
   ·refine fJ [(13,_),(62,_)] 5 [none,some 4] fun G a w S=>?_
    exact sMove (iv a6) S (wG 4 true 62 d d d av) (.inl d) d d (lb d) fun a S=>leafL ⟨d,S⟩
   ·refine fJ [(1,_),(62,_)] 6 [none,some 4] fun G a w S=>?_
    exact sMove (.slice af p1.length ag) S (wG 4 true 62 d d d av) (.inl d) d d (lb d) fun a S=>leafL ⟨d,S⟩
   ·refine fJ [(64,_),(62,_)] 7 [some 6,some 4] fun G a w S=>?_
    exact sLen S (wG 4 true 62 d d d av) d Try.underlying47 d d (lb d) fun a S=>leafL ⟨d,S⟩
   ·refine fJ [(63,_),(65,_),(62,_)] 8 [some 5,some 7,some 4] fun G a w S=>?_
    exact sBin _ S (wG 4 true 62 d d d av) d d d (bLt _ _ _ _ .i64 a6 (p1.length:Int)) d (lb d) fun a S=>leafL ⟨d,S⟩
   ·refine fJ [(62,_),(66,_)] 9 [some 4,some 8] fun G a w S=>?_
    exact sPickT (.bool (decide (a6 < (p1.length:Int)))) S (wN d) d d av d d (lb d) fun a S=>leafL ⟨d,S⟩
   ·exact fM 10 (some 9) d d d d (.inl d) d d d
   ·refine fJ [(0,_),(68,_)] 11 [none,some 10] fun G a w S=>?_
    exact sSk S d d d ak d d fun a S=>leafL ⟨d,S⟩
   ·refine fJ [(12,_),(68,_)] 12 [none,some 10] fun G a w S=>?_
    exact sSk S d d d ak d d fun a S=>leafL ⟨d,S⟩
   ·refine fJ [(69,_),(70,_),(68,_)] 13 [some 11,some 12,some 10] fun G a w S=>?_
    exact sSk S d d d ak d d fun a S=>leafL ⟨d,S⟩
   ·refine fJ [(71,_),(68,_)] 14 [some 13,some 10] fun G a w S=>?_
    exact sSk S d d d ak d d fun a S=>leafL ⟨d,S⟩
   ·refine fJ [(1,_),(68,_)] 15 [none,some 10] fun G a w S=>?_
    exact sSk S d d d ak d d fun a S=>leafL ⟨d,S⟩
   ·refine fJ [(13,_),(68,_)] 16 [none,some 10] fun G a w S=>?_
    exact sSk S d d d ak d d fun a S=>leafL ⟨d,S⟩
   ·refine fJ [(73,_),(74,_),(68,_)] 17 [some 15,some 16,some 10] fun G a w S=>?_
    exact sSk S d d d ak d d fun a S=>leafL ⟨d,S⟩
   ·refine fJ [(75,_),(68,_)] 18 [some 17,some 10] fun G a w S=>?_
    exact sSk S d d d ak d d fun a S=>leafL ⟨d,S⟩
   ·refine fJ [(72,_),(76,_),(68,_)] 19 [some 14,some 18,some 10] fun G a w S=>?_
    exact sSk S d d d ak d d fun a S=>leafL ⟨d,S⟩
   ·refine fJ [(68,_),(77,_)] 20 [some 10,some 19] fun G a w S=>?_
    exact sPickF (.bool false) S (wN d) d d ak d d (lb d) fun a S=>leafL ⟨d,S⟩
   ·exact fM 21 (some 20) d d d d (.inl d) d d d
   ·refine fJ [(14,_),(79,_)] 22 [none,some 21] fun G a w S=>?_
    exact sSk S d d d d d d fun a S=>leafL ⟨d,S⟩
   ·refine fJ [(10,_),(79,_)] 23 [none,some 21] fun G a w S=>?_
    exact sSk S d d d d d d fun a S=>leafL ⟨d,S⟩
   ·refine fJ [(12,_),(79,_)] 24 [none,some 21] fun G a w S=>?_
    exact sSk S d d d d d d fun a S=>leafL ⟨d,S⟩
   ·refine fJ [(82,_),(79,_)] 25 [some 24,some 21] fun G a w S=>?_
    exact sSk S d d d d d d fun a S=>leafL ⟨d,S⟩
   ·refine fJ [(81,_),(83,_),(79,_)] 26 [some 23,some 25,some 21] fun G a w S=>?_
    exact sSk S d d d d d d fun a S=>leafL ⟨d,S⟩
   ·refine fJ [(84,_),(79,_)] 27 [some 26,some 21] fun G a w S=>?_
    exact sSk S d d d d d d fun a S=>leafL ⟨d,S⟩
   ·refine fJ [(13,_),(79,_)] 28 [none,some 21] fun G a w S=>?_
    exact sSk S d d d d d d fun a S=>leafL ⟨d,S⟩
   ·refine fJ [(86,_),(79,_)] 29 [some 28,some 21] fun G a w S=>?_
    exact sSk S d d d d d d fun a S=>leafL ⟨d,S⟩
   ·refine fJ [(85,_),(87,_),(79,_)] 30 [some 27,some 29,some 21] fun G a w S=>?_
    exact sSk S d d d d d d fun a S=>leafL ⟨d,S⟩
   ·refine fJ [(88,_),(79,_)] 31 [some 30,some 21] fun G a w S=>?_
    exact sSk S d d d d d d fun a S=>leafL ⟨d,S⟩
   ·refine fJ [(80,_),(89,_),(79,_)] 32 [some 22,some 31,some 21] fun G a w S=>?_
    exact sSk S d d d d d d fun a S=>leafL ⟨d,S⟩
   ·refine fJ [(79,_),(90,_)] 33 [some 21,some 32] fun G a w S=>?_
    exact sPickF (.bool false) S (wN d) d d d d d (lb d) fun a S=>leafL ⟨d,S⟩
   ·exact fM 34 (some 33) d d d d (.inr d) d d d
   exact leafT (⟨false,Option.some.inj h,S.fix [0] [6,7,8] (by decide) d d d⟩)
  obtain ⟨a8,bQ,h⟩:=bS h
  obtain ⟨a9,bR,h⟩:=bS h
  rcases iS h with ⟨ao,h⟩ | ⟨ao,h⟩
  rotate_left
  ·obtain ⟨aX,bU,S⟩:=pIdx (P:=Try.prog) (r:=r_api_Stitch) (v:=.slice al p0.length am) (xs:=p0) (j:=aa) 47 81 6 S Try.underlying47 d d bQ
   obtain ⟨bV,S⟩:=pLoad (r:=r_api_Stitch) (q:=aX) (x:=a8) 0 S d
   obtain rfl:bV=.agg #[.int .u8 a8.Kind,.bool a8.Purl,iv a8.A,iv a8.B]:=S.mem.know (i:=1) (e:=fRep r_api_Stitch (bV) a8) d
   obtain ⟨aZ,bW,S⟩:=pIdx (P:=Try.prog) (r:=r_api_Stitch) (v:=.slice af p1.length ag) (xs:=p1) (j:=a6) 47 81 10 S Try.underlying47 d d bR
   obtain ⟨bX,S⟩:=pLoad (r:=r_api_Stitch) (q:=aZ) (x:=a9) 0 S d
   obtain rfl:bX=.agg #[.int .u8 a9.Kind,.bool a9.Purl,iv a9.A,iv a9.B]:=S.mem.know (i:=1) (e:=fRep r_api_Stitch (bX) a9) d
   refine sDraw (nf:=[]) (W:=[(0,58,iv aa),(1,59,.slice al p0.length am),(2,60,iv (p0.length:Int)),(3,61,.bool (decide (aa < (p0.length:Int)))),(4,62,.bool (decide (aa < (p0.length:Int)))),(5,63,iv a6),(6,64,.slice af p1.length ag),(7,65,iv (p1.length:Int)),(8,66,.bool (decide (a6 < (p1.length:Int)))),(9,67,.bool (decide (a6 < (p1.length:Int)))),(10,68,.bool (decide (a6 < (p1.length:Int)))),(11,69,.slice al p0.length am),(12,70,iv aa),(13,71,aX),(14,72,.agg #[.int .u8 a8.Kind,.bool a8.Purl,iv a8.A,iv a8.B]),(15,73,.slice af p1.length ag),(16,74,iv a6),(17,75,aZ),(18,76,.agg #[.int .u8 a9.Kind,.bool a9.Purl,iv a9.A,iv a9.B]),(19,77,.bool ((a8.Kind == a9.Kind) && ((a8.Purl == a9.Purl) && ((a8.A == a9.A) && ((a8.B == a9.B) && true))))),(20,78,.bool ((a8.Kind == a9.Kind) && ((a8.Purl == a9.Purl) && ((a8.A == a9.A) && ((a8.B == a9.B) && true))))),(21,79,.bool ((a8.Kind == a9.Kind) && ((a8.Purl == a9.Purl) && ((a8.A == a9.A) && ((a8.B == a9.B) && true))))),(22,80,undef),(23,81,undef),(24,82,undef),(25,83,undef),(26,84,undef),(27,85,undef),(28,86,undef),(29,87,undef),(30,88,undef),(31,89,undef),(32,90,undef),(33,91,.bool false),(34,57,.bool false)]) d S ?_
   refine node_by (A:=anc_compare_Edits_0) 35 (by kernel_rfl) (by kernel_rfl) (by kernel_rfl) (by kernel_rfl) (by kernel_rfl) [0,1,2,3,4,5,6,7,8,9,10,11,12,13,14,15,16,17,18,19,20,21,22,23,24,25,26,27,28,29,30,31,32,33,34] (by kernel_rfl) (by decide) (by decide) (fF ?_ (fF ?_ (fF ?_ (fF ?_ (fF ?_ (fF ?_ (fF ?_ (fF ?_ (fF ?_ (fF ?_ (fF ?_ (fF ?_ (fF ?_ (fF ?_ (fF ?_ (fF ?_ (fF ?_ (fF ?_ (fF ?_ (fF ?_ (fF ?_ (fF ?_ (fF ?_ (fF ?_ (fF ?_ (fF ?_ (fF ?_ (fF ?_ (fF ?_ (fF ?_ (fF ?_ (fF ?_ (fF ?_ (fF ?_ (fF ?_ (trivial)))))))))))))))))))))))))))))))))))) [(0,.slice al p0.length am),(1,.slice af p1.length ag),(10,.slice ah ar.length ai),(11,.slice ap ay.length aq),(12,iv aa),(13,iv a6),(14,iv aw),(57,.bool false),(63,iv a6),(64,.slice af p1.length ag),(65,iv (p1.length:Int)),(66,.bool (decide (a6 < (p1.length:Int)))),(69,.slice al p0.length am),(70,iv aa),(71,aX),(72,.agg #[.int .u8 a8.Kind,.bool a8.Purl,iv a8.A,iv a8.B]),(73,.slice af p1.length ag),(74,iv a6),(75,aZ),(76,.agg #[.int .u8 a9.Kind,.bool a9.Purl,iv a9.A,iv a9.B]),(77,.bool ((a8.Kind == a9.Kind) && ((a8.Purl == a9.Purl) && ((a8.A == a9.A) && ((a8.B == a9.B) && true))))),(80,undef),(81,undef),(82,undef),(83,undef),(84,undef),(85,undef),(86,undef),(87,undef),(88,undef),(89,undef),(90,undef)] (fin_of [none,none,none,none,none,none,none,some 34,some 5,some 6,some 7,some 8,some 11,some 12,some 13,some 14,some 15,some 16,some 17,some 18,some 19,some 22,some 23,some 24,some 25,some 26,some 27,some 28,some 29,some 30,some 31,some 32] d (by kernel_rfl) (by kernel_rfl)) (fun _ a w S=>?_)
   ·exact fM 0 none d d d d (.inl d) d d d
   ·exact fM 1 none d d d d (.inl d) d d d
   ·refine fJ [(59,_)] 2 [some 1] fun G a w S=>?_
    exact sLen S (wN d) d Try.underlying47 d d (lb d) fun a S=>leafL ⟨d,S⟩
   ·refine fJ [(58,_),(60,_)] 3 [some 0,some 2] fun G a w S=>?_
    exact sBin _ S (wN d) d d d (bLt _ _ _ _ .i64 aa (p0.length:Int)) d (lb d) fun a S=>leafL ⟨d,S⟩
   ·exact fM 4 (some 3) d d d d (.inl d) d d d
   ·refine fJ [(13,_),(62,_)] 5 [none,some 4] fun G a w S=>?_
    exact sMove (iv a6) S (wG 4 true 62 d d d av) (.inl d) d d (lb d) fun a S=>leafL ⟨d,S⟩
   ·refine fJ [(1,_),(62,_)] 6 [none,some 4] fun G a w S=>?_
    exact sMove (.slice af p1.length ag) S (wG 4 true 62 d d d av) (.inl d) d d (lb d) fun a S=>leafL ⟨d,S⟩
   ·refine fJ [(64,_),(62,_)] 7 [some 6,some 4] fun G a w S=>?_
    exact sLen S (wG 4 true 62 d d d av) d Try.underlying47 d d (lb d) fun a S=>leafL ⟨d,S⟩
   ·refine fJ [(63,_),(65,_),(62,_)] 8 [some 5,some 7,some 4] fun G a w S=>?_
    exact sBin _ S (wG 4 true 62 d d d av) d d d (bLt _ _ _ _ .i64 a6 (p1.length:Int)) d (lb d) fun a S=>leafL ⟨d,S⟩
   ·refine fJ [(62,_),(66,_)] 9 [some 4,some 8] fun G a w S=>?_
    exact sPickT (.bool (decide (a6 < (p1.length:Int)))) S (wN d) d d av d d (lb d) fun a S=>leafL ⟨d,S⟩
   ·exact fM 10 (some 9) d d d d (.inl d) d d d
   ·refine fJ [(0,_),(68,_)] 11 [none,some 10] fun G a w S=>?_
    exact sMove (.slice al p0.length am) S (wG 10 true 68 d d d ak) (.inl d) d d (lb d) fun a S=>leafL ⟨d,S⟩
   ·refine fJ [(12,_),(68,_)] 12 [none,some 10] fun G a w S=>?_
    exact sMove (iv aa) S (wG 10 true 68 d d d ak) (.inl d) d d (lb d) fun a S=>leafL ⟨d,S⟩
   ·refine fJ [(69,_),(70,_),(68,_)] 13 [some 11,some 12,some 10] fun G a w S=>?_
    exact sIdxV S (wG 10 true 68 d d d ak) d d d bU d (lb d) fun a S=>leafL ⟨d,S⟩
   ·refine fJ [(71,_),(68,_)] 14 [some 13,some 10] fun G a w S=>?_
    exact sLoadVN (vq:=aX) 3 [.int .u8 a8.Kind,.bool a8.Purl,iv a8.A,iv a8.B] S (wG 10 true 68 d d d ak) d d d d d d (lb d) fun a S=>leafL ⟨d,S⟩
   ·refine fJ [(1,_),(68,_)] 15 [none,some 10] fun G a w S=>?_
    exact sMove (.slice af p1.length ag) S (wG 10 true 68 d d d ak) (.inl d) d d (lb d) fun a S=>leafL ⟨d,S⟩
   ·refine fJ [(13,_),(68,_)] 16 [none,some 10] fun G a w S=>?_
    exact sMove (iv a6) S (wG 10 true 68 d d d ak) (.inl d) d d (lb d) fun a S=>leafL ⟨d,S⟩
   ·refine fJ [(73,_),(74,_),(68,_)] 17 [some 15,some 16,some 10] fun G a w S=>?_
    exact sIdxV S (wG 10 true 68 d d d ak) d d d bW d (lb d) fun a S=>leafL ⟨d,S⟩
   ·refine fJ [(75,_),(68,_)] 18 [some 17,some 10] fun G a w S=>?_
    exact sLoadVN (vq:=aZ) 0 [.int .u8 a9.Kind,.bool a9.Purl,iv a9.A,iv a9.B] S (wG 10 true 68 d d d ak) d d d d d d (lb d) fun a S=>leafL ⟨d,S⟩
   ·refine fJ [(72,_),(76,_),(68,_)] 19 [some 14,some 18,some 10] fun G a w S=>?_
    exact sBin _ S (wG 10 true 68 d d d ak) d d d (bEqV _ _ _ _ #[.int .u8 a8.Kind,.bool a8.Purl,iv a8.A,iv a8.B] #[.int .u8 a9.Kind,.bool a9.Purl,iv a9.A,iv a9.B] ((a8.Kind == a9.Kind) && ((a8.Purl == a9.Purl) && ((a8.A == a9.A) && ((a8.B == a9.B) && true)))) (by kernel_rfl) (eqlV_of (by kernel_rfl))) d (lb d) fun a S=>leafL ⟨d,S⟩
   ·refine fJ [(68,_),(77,_)] 20 [some 10,some 19] fun G a w S=>?_
    exact sPickT (.bool ((a8.Kind == a9.Kind) && ((a8.Purl == a9.Purl) && ((a8.A == a9.A) && ((a8.B == a9.B) && true))))) S (wN d) d d ak d d (lb d) fun a S=>leafL ⟨d,S⟩
   ·exact fM 21 (some 20) d d d d (.inl d) d d d
   ·refine fJ [(14,_),(79,_)] 22 [none,some 21] fun G a w S=>?_
    exact sSk S d d d ao d d fun a S=>leafL ⟨d,S⟩
   ·refine fJ [(10,_),(79,_)] 23 [none,some 21] fun G a w S=>?_
    exact sSk S d d d ao d d fun a S=>leafL ⟨d,S⟩
   ·refine fJ [(12,_),(79,_)] 24 [none,some 21] fun G a w S=>?_
    exact sSk S d d d ao d d fun a S=>leafL ⟨d,S⟩
   ·refine fJ [(82,_),(79,_)] 25 [some 24,some 21] fun G a w S=>?_
    exact sSk S d d d ao d d fun a S=>leafL ⟨d,S⟩
   ·refine fJ [(81,_),(83,_),(79,_)] 26 [some 23,some 25,some 21] fun G a w S=>?_
    exact sSk S d d d ao d d fun a S=>leafL ⟨d,S⟩
   ·refine fJ [(84,_),(79,_)] 27 [some 26,some 21] fun G a w S=>?_
    exact sSk S d d d ao d d fun a S=>leafL ⟨d,S⟩
   ·refine fJ [(13,_),(79,_)] 28 [none,some 21] fun G a w S=>?_
    exact sSk S d d d ao d d fun a S=>leafL ⟨d,S⟩
   ·refine fJ [(86,_),(79,_)] 29 [some 28,some 21] fun G a w S=>?_
    exact sSk S d d d ao d d fun a S=>leafL ⟨d,S⟩
   ·refine fJ [(85,_),(87,_),(79,_)] 30 [some 27,some 29,some 21] fun G a w S=>?_
    exact sSk S d d d ao d d fun a S=>leafL ⟨d,S⟩
   ·refine fJ [(88,_),(79,_)] 31 [some 30,some 21] fun G a w S=>?_
    exact sSk S d d d ao d d fun a S=>leafL ⟨d,S⟩
   ·refine fJ [(80,_),(89,_),(79,_)] 32 [some 22,some 31,some 21] fun G a w S=>?_
    exact sSk S d d d ao d d fun a S=>leafL ⟨d,S⟩
   ·refine fJ [(79,_),(90,_)] 33 [some 21,some 32] fun G a w S=>?_
    exact sPickF (.bool false) S (wN d) d d ao d d (lb d) fun a S=>leafL ⟨d,S⟩
   ·exact fM 34 (some 33) d d d d (.inr d) d d d
   exact leafT (⟨false,Option.some.inj h,S.fix [0] [12,13,14] (by decide) d d d⟩)
  obtain ⟨bz,dI,h⟩:=bS h
  obtain ⟨aJ,dJ,h⟩:=bS h
  obtain ⟨ba,bY,S⟩:=pIdx (P:=Try.prog) (r:=r_api_Stitch) (v:=.slice al p0.length am) (xs:=p0) (j:=aa) 47 81 6 S Try.underlying47 d d bQ
  obtain ⟨bZ,S⟩:=pLoad (r:=r_api_Stitch) (q:=ba) (x:=a8) 0 S d
  obtain rfl:bZ=.agg #[.int .u8 a8.Kind,.bool a8.Purl,iv a8.A,iv a8.B]:=S.mem.know (i:=1) (e:=fRep r_api_Stitch (bZ) a8) d
  obtain ⟨bb,c7,S⟩:=pIdx (P:=Try.prog) (r:=r_api_Stitch) (v:=.slice af p1.length ag) (xs:=p1) (j:=a6) 47 81 10 S Try.underlying47 d d bR
  obtain ⟨c8,S⟩:=pLoad (r:=r_api_Stitch) (q:=bb) (x:=a9) 0 S d
  obtain rfl:c8=.agg #[.int .u8 a9.Kind,.bool a9.Purl,iv a9.A,iv a9.B]:=S.mem.know (i:=1) (e:=fRep r_api_Stitch (c8) a9) d
  obtain ⟨bc,c9,S⟩:=pIdx (P:=Try.prog) (r:=(rL (rI .i64))) (v:=.slice ah ar.length ai) (xs:=ar) (j:=w64 (aa + 1)) 98 101 14 S Try.underlying98 d d dI
  obtain ⟨dK,S⟩:=pLoad (r:=(rL (rI .i64))) (q:=bc) (x:=bz) 0 S d
  obtain ⟨aK,aL,_,rfl,_⟩:=S.mem.know (i:=1) (e:=fRep (rL (rI .i64)) (dK) bz) d
  obtain ⟨bf,ca,S⟩:=pIdx (P:=Try.prog) (r:=(rI .i64)) (v:=.slice aK bz.length aL) (xs:=bz) (j:=w64 (a6 + 1)) 101 3 1 S Try.underlying101 d d dJ
  obtain ⟨cb,S⟩:=pLoad (r:=(rI .i64)) (q:=bf) (x:=aJ) 0 S d
  obtain rfl:cb=iv aJ:=S.mem.know (i:=1) (e:=fRep (rI .i64) (cb) aJ) d
  refine sDraw (nf:=[]) (W:=[(0,58,iv aa),(1,59,.slice al p0.length am),(2,60,iv (p0.length:Int)),(3,61,.bool (decide (aa < (p0.length:Int)))),(4,62,.bool (decide (aa < (p0.length:Int)))),(5,63,iv a6),(6,64,.slice af p1.length ag),(7,65,iv (p1.length:Int)),(8,66,.bool (decide (a6 < (p1.length:Int)))),(9,67,.bool (decide (a6 < (p1.length:Int)))),(10,68,.bool (decide (a6 < (p1.length:Int)))),(11,69,.slice al p0.length am),(12,70,iv aa),(13,71,ba),(14,72,.agg #[.int .u8 a8.Kind,.bool a8.Purl,iv a8.A,iv a8.B]),(15,73,.slice af p1.length ag),(16,74,iv a6),(17,75,bb),(18,76,.agg #[.int .u8 a9.Kind,.bool a9.Purl,iv a9.A,iv a9.B]),(19,77,.bool ((a8.Kind == a9.Kind) && ((a8.Purl == a9.Purl) && ((a8.A == a9.A) && ((a8.B == a9.B) && true))))),(20,78,.bool ((a8.Kind == a9.Kind) && ((a8.Purl == a9.Purl) && ((a8.A == a9.A) && ((a8.B == a9.B) && true))))),(21,79,.bool ((a8.Kind == a9.Kind) && ((a8.Purl == a9.Purl) && ((a8.A == a9.A) && ((a8.B == a9.B) && true))))),(22,80,iv aw),(23,81,.slice ah ar.length ai),(24,82,iv aa),(25,83,iv (w64 (aa + 1))),(26,84,bc),(27,85,.slice aK bz.length aL),(28,86,iv a6),(29,87,iv (w64 (a6 + 1))),(30,88,bf),(31,89,iv aJ),(32,90,.bool (aw == aJ)),(33,91,.bool (aw == aJ)),(34,57,.bool (aw == aJ))]) d S ?_
  refine node_by (A:=anc_compare_Edits_0) 35 (by kernel_rfl) (by kernel_rfl) (by kernel_rfl) (by kernel_rfl) (by kernel_rfl) [0,1,2,3,4,5,6,7,8,9,10,11,12,13,14,15,16,17,18,19,20,21,22,23,24,25,26,27,28,29,30,31,32,33,34] (by kernel_rfl) (by decide) (by decide) (fF ?_ (fF ?_ (fF ?_ (fF ?_ (fF ?_ (fF ?_ (fF ?_ (fF ?_ (fF ?_ (fF ?_ (fF ?_ (fF ?_ (fF ?_ (fF ?_ (fF ?_ (fF ?_ (fF ?_ (fF ?_ (fF ?_ (fF ?_ (fF ?_ (fF ?_ (fF ?_ (fF ?_ (fF ?_ (fF ?_ (fF ?_ (fF ?_ (fF ?_ (fF ?_ (fF ?_ (fF ?_ (fF ?_ (fF ?_ (fF ?_ (trivial)))))))))))))))))))))))))))))))))))) [(0,.slice al p0.length am),(1,.slice af p1.length ag),(10,.slice ah ar.length ai),(11,.slice ap ay.length aq),(12,iv aa),(13,iv a6),(14,iv aw),(57,.bool (aw == aJ)),(63,iv a6),(64,.slice af p1.length ag),(65,iv (p1.length:Int)),(66,.bool (decide (a6 < (p1.length:Int)))),(69,.slice al p0.length am),(70,iv aa),(71,ba),(72,.agg #[.int .u8 a8.Kind,.bool a8.Purl,iv a8.A,iv a8.B]),(73,.slice af p1.length ag),(74,iv a6),(75,bb),(76,.agg #[.int .u8 a9.Kind,.bool a9.Purl,iv a9.A,iv a9.B]),(77,.bool ((a8.Kind == a9.Kind) && ((a8.Purl == a9.Purl) && ((a8.A == a9.A) && ((a8.B == a9.B) && true))))),(80,iv aw),(81,.slice ah ar.length ai),(82,iv aa),(83,iv (w64 (aa + 1))),(84,bc),(85,.slice aK bz.length aL),(86,iv a6),(87,iv (w64 (a6 + 1))),(88,bf),(89,iv aJ),(90,.bool (aw == aJ))] (fin_of [none,none,none,none,none,none,none,some 34,some 5,some 6,some 7,some 8,some 11,some 12,some 13,some 14,some 15,some 16,some 17,some 18,some 19,some 22,some 23,some 24,some 25,some 26,some 27,some 28,some 29,some 30,some 31,some 32] d (by kernel_rfl) (by kernel_rfl)) (fun _ a w S=>?_)
  ·exact fM 0 none d d d d (.inl d) d d d
  ·exact fM 1 none d d d d (.inl d) d d d
  ·refine fJ [(59,_)] 2 [some 1] fun G a w S=>?_
   exact sLen S (wN d) d Try.underlying47 d d (lb d) fun a S=>leafL ⟨d,S⟩
  ·refine fJ [(58,_),(60,_)] 3 [some 0,some 2] fun G a w S=>?_
   exact sBin _ S (wN d) d d d (bLt _ _ _ _ .i64 aa (p0.length:Int)) d (lb d) fun a S=>leafL ⟨d,S⟩
  ·exact fM 4 (some 3) d d d d (.inl d) d d d
  ·refine fJ [(13,_),(62,_)] 5 [none,some 4] fun G a w S=>?_
   exact sMove (iv a6) S (wG 4 true 62 d d d av) (.inl d) d d (lb d) fun a S=>leafL ⟨d,S⟩
  ·refine fJ [(1,_),(62,_)] 6 [none,some 4] fun G a w S=>?_
   exact sMove (.slice af p1.length ag) S (wG 4 true 62 d d d av) (.inl d) d d (lb d) fun a S=>leafL ⟨d,S⟩
  ·refine fJ [(64,_),(62,_)] 7 [some 6,some 4] fun G a w S=>?_
   exact sLen S (wG 4 true 62 d d d av) d Try.underlying47 d d (lb d) fun a S=>leafL ⟨d,S⟩
  ·refine fJ [(63,_),(65,_),(62,_)] 8 [some 5,some 7,some 4] fun G a w S=>?_
   exact sBin _ S (wG 4 true 62 d d d av) d d d (bLt _ _ _ _ .i64 a6 (p1.length:Int)) d (lb d) fun a S=>leafL ⟨d,S⟩
  ·refine fJ [(62,_),(66,_)] 9 [some 4,some 8] fun G a w S=>?_
   exact sPickT (.bool (decide (a6 < (p1.length:Int)))) S (wN d) d d av d d (lb d) fun a S=>leafL ⟨d,S⟩
  ·exact fM 10 (some 9) d d d d (.inl d) d d d
  ·refine fJ [(0,_),(68,_)] 11 [none,some 10] fun G a w S=>?_
   exact sMove (.slice al p0.length am) S (wG 10 true 68 d d d ak) (.inl d) d d (lb d) fun a S=>leafL ⟨d,S⟩
  ·refine fJ [(12,_),(68,_)] 12 [none,some 10] fun G a w S=>?_
   exact sMove (iv aa) S (wG 10 true 68 d d d ak) (.inl d) d d (lb d) fun a S=>leafL ⟨d,S⟩
  ·refine fJ [(69,_),(70,_),(68,_)] 13 [some 11,some 12,some 10] fun G a w S=>?_
   exact sIdxV S (wG 10 true 68 d d d ak) d d d bY d (lb d) fun a S=>leafL ⟨d,S⟩
  ·refine fJ [(71,_),(68,_)] 14 [some 13,some 10] fun G a w S=>?_
   exact sLoadVN (vq:=ba) 9 [.int .u8 a8.Kind,.bool a8.Purl,iv a8.A,iv a8.B] S (wG 10 true 68 d d d ak) d d d d d d (lb d) fun a S=>leafL ⟨d,S⟩
  ·refine fJ [(1,_),(68,_)] 15 [none,some 10] fun G a w S=>?_
   exact sMove (.slice af p1.length ag) S (wG 10 true 68 d d d ak) (.inl d) d d (lb d) fun a S=>leafL ⟨d,S⟩
  ·refine fJ [(13,_),(68,_)] 16 [none,some 10] fun G a w S=>?_
   exact sMove (iv a6) S (wG 10 true 68 d d d ak) (.inl d) d d (lb d) fun a S=>leafL ⟨d,S⟩
  ·refine fJ [(73,_),(74,_),(68,_)] 17 [some 15,some 16,some 10] fun G a w S=>?_
   exact sIdxV S (wG 10 true 68 d d d ak) d d d c7 d (lb d) fun a S=>leafL ⟨d,S⟩
  ·refine fJ [(75,_),(68,_)] 18 [some 17,some 10] fun G a w S=>?_
   exact sLoadVN (vq:=bb) 6 [.int .u8 a9.Kind,.bool a9.Purl,iv a9.A,iv a9.B] S (wG 10 true 68 d d d ak) d d d d d d (lb d) fun a S=>leafL ⟨d,S⟩
  ·refine fJ [(72,_),(76,_),(68,_)] 19 [some 14,some 18,some 10] fun G a w S=>?_
   exact sBin _ S (wG 10 true 68 d d d ak) d d d (bEqV _ _ _ _ #[.int .u8 a8.Kind,.bool a8.Purl,iv a8.A,iv a8.B] #[.int .u8 a9.Kind,.bool a9.Purl,iv a9.A,iv a9.B] ((a8.Kind == a9.Kind) && ((a8.Purl == a9.Purl) && ((a8.A == a9.A) && ((a8.B == a9.B) && true)))) (by kernel_rfl) (eqlV_of (by kernel_rfl))) d (lb d) fun a S=>leafL ⟨d,S⟩
  ·refine fJ [(68,_),(77,_)] 20 [some 10,some 19] fun G a w S=>?_
   exact sPickT (.bool ((a8.Kind == a9.Kind) && ((a8.Purl == a9.Purl) && ((a8.A == a9.A) && ((a8.B == a9.B) && true))))) S (wN d) d d ak d d (lb d) fun a S=>leafL ⟨d,S⟩
  ·exact fM 21 (some 20) d d d d (.inl d) d d d
  ·refine fJ [(14,_),(79,_)] 22 [none,some 21] fun G a w S=>?_
   exact sMove (iv aw) S (wG 21 true 79 d d d ao) (.inl d) d d (lb d) fun a S=>leafL ⟨d,S⟩
  ·refine fJ [(10,_),(79,_)] 23 [none,some 21] fun G a w S=>?_
   exact sMove (.slice ah ar.length ai) S (wG 21 true 79 d d d ao) (.inl d) d d (lb d) fun a S=>leafL ⟨d,S⟩
  ·refine fJ [(12,_),(79,_)] 24 [none,some 21] fun G a w S=>?_
   exact sMove (iv aa) S (wG 21 true 79 d d d ao) (.inl d) d d (lb d) fun a S=>leafL ⟨d,S⟩
  ·refine fJ [(82,_),(79,_)] 25 [some 24,some 21] fun G a w S=>?_
   exact sBin _ S (wG 21 true 79 d d d ao) d d d (bAdd _ _ _ _ aa 1) d (lb d) fun a S=>leafL ⟨d,S⟩
  ·refine fJ [(81,_),(83,_),(79,_)] 26 [some 23,some 25,some 21] fun G a w S=>?_
   exact sIdxV S (wG 21 true 79 d d d ao) d d d c9 d (lb d) fun a S=>leafL ⟨d,S⟩
  ·refine fJ [(84,_),(79,_)] 27 [some 26,some 21] fun G a w S=>?_
   exact sLoadV1 (vq:=bc) 3 (.slice aK bz.length aL) S (wG 21 true 79 d d d ao) d d d d d (lb d) fun a S=>leafL ⟨d,S⟩
  ·refine fJ [(13,_),(79,_)] 28 [none,some 21] fun G a w S=>?_
   exact sMove (iv a6) S (wG 21 true 79 d d d ao) (.inl d) d d (lb d) fun a S=>leafL ⟨d,S⟩
  ·refine fJ [(86,_),(79,_)] 29 [some 28,some 21] fun G a w S=>?_
   exact sBin _ S (wG 21 true 79 d d d ao) d d d (bAdd _ _ _ _ a6 1) d (lb d) fun a S=>leafL ⟨d,S⟩
  ·refine fJ [(85,_),(87,_),(79,_)] 30 [some 27,some 29,some 21] fun G a w S=>?_
   exact sIdxV S (wG 21 true 79 d d d ao) d d d ca d (lb d) fun a S=>leafL ⟨d,S⟩
  ·refine fJ [(88,_),(79,_)] 31 [some 30,some 21] fun G a w S=>?_
   exact sLoadV1 (vq:=bf) 0 (iv aJ) S (wG 21 true 79 d d d ao) d d d d d (lb d) fun a S=>leafL ⟨d,S⟩
  ·refine fJ [(80,_),(89,_),(79,_)] 32 [some 22,some 31,some 21] fun G a w S=>?_
   exact sBin _ S (wG 21 true 79 d d d ao) d d d (bEq _ _ _ _ .i64 aw aJ) d (lb d) fun a S=>leafL ⟨d,S⟩
  ·refine fJ [(79,_),(90,_)] 33 [some 21,some 32] fun G a w S=>?_
   exact sPickT (.bool (aw == aJ)) S (wN d) d d ao d d (lb d) fun a S=>leafL ⟨d,S⟩
  ·exact fM 34 (some 33) d d d d (.inr d) d d d
  exact leafT (⟨aw == aJ,Option.some.inj h,S.fix [0] [18,19,20] (by decide) d d d⟩)
 obtain ⟨dH,rfl,S⟩:=hI
 have h:=ek
 try dsimp only at h
 rcases iS h with ⟨aT,h⟩ | ⟨aT,h⟩
 ·refine sCondT S d aT (sSeq (fun el cc=>sRegion (sM S fun a S=>?_)))
  refine sBuild [(0,.int .u8 1)] [.int .u8 1,.int .u8 0,.bool false,iv 0,iv 0] S (wN d) d d d d (lb d) fun a S=>?_
  have S:=S.learn (fRep r_api_CellStep (.agg #[.int .u8 1,.int .u8 0,.bool false,iv 0,iv 0]) (api_CellStep.mk 1 (api_Stitch.mk 0 false 0 0))) d
  refine sLit (r:=r_api_CellStep) (T:=83) (xs:=[(api_CellStep.mk 1 (api_Stitch.mk 0 false 0 0))]) [(0,.agg #[.int .u8 1,.int .u8 0,.bool false,iv 0,iv 0])] 1 [.agg #[.int .u8 1,.int .u8 0,.bool false,iv 0,iv 0]] [.int .u8 1,.int .u8 0,.bool false,iv 0,iv 0] (.agg #[.int .u8 0,.int .u8 0,.bool false,iv 0,iv 0]) 32 S (wN d) d d Try.underlying48 d (by decide) (by decide) (by kernel_rfl) d (fun E1 w1 hE=>All.cons (r_api_CellStep.mono hE (S.mem.know (i:=0) (e:=fRep r_api_CellStep (.agg #[.int .u8 1,.int .u8 0,.bool false,iv 0,iv 0]) (api_CellStep.mk 1 (api_Stitch.mk 0 false 0 0))) d)) (All.nil _ _ _)) d d (lb d) fun a w cd ce S=>?_
  obtain ⟨dL,cf,h⟩:=bS h
  refine sApp (r:=r_api_CellStep) (T:=83) (xs:=ay) (ys:=[(api_CellStep.mk 1 (api_Stitch.mk 0 false 0 0))]) (v:=.slice ap ay.length aq) (u:=.slice cd [(api_CellStep.mk 1 (api_Stitch.mk 0 false 0 0))].length ce) 1 (.agg #[.int .u8 0,.int .u8 0,.bool false,iv 0,iv 0]) 32 S (wN d) d Try.underlying48 d d (by decide) d d d (src_R (T:=83) 0 S.mem d) cf d (lb d) fun a w cg ci S=>sN S fun a S=>?_
  refine lT (cc _ _ (sSeq (fun em cj=>sRegion (sM S fun a S=>?_))))
  refine sBin _ S (wN d) d d d (bAdd _ _ _ _ aa 1) d (lb d) fun a S=>sN S fun a S=>?_
  refine lT (cj _ _ (sRegion (sM S fun a S=>?_)))
  refine sBin _ S (wN d) d d d (bAdd _ _ _ _ a6 1) d (lb d) fun a S=>sN S fun a S=>?_
  exact leafL (leafB (leafB (leafT (⟨(dL,w64 (aa + 1),w64 (a6 + 1)),(Option.some.inj h).symm,⟨cg,ci,S.fix [0] [1,2,3] (by decide) d d d⟩⟩))))
 refine sCondF S d aT ?_
 obtain ⟨dM,h,dN⟩:=bS h
 refine sCut (fun a w=>∃ bA,bA=dM∧St [] E [] w0 178 a w [(0,.slice al p0.length am),(1,.slice af p1.length ag),(10,.slice ah ar.length ai),(11,.slice ap ay.length aq),(12,iv aa),(13,iv a6),(14,iv aw),(100,.bool bA)] [eRow r_api_CellStep 83 (.slice ap ay.length aq) ay] [fRep (rL r_api_Stitch) (.slice al p0.length am) p0,fRep (rL r_api_Stitch) (.slice af p1.length ag) p1,fRep (rL (rL (rI .i64))) (.slice ah ar.length ai) ar]) ?_ (fun a w hI=>?_)
 rotate_left
 ·obtain ⟨bA,rfl,S⟩:=hI
  have h:=dN
  try dsimp only at h
  rcases iS h with ⟨aU,h⟩ | ⟨aU,h⟩
  ·refine sCondT S d aU (sSeq (fun en ck=>sRegion (sM S fun a S=>?_)))
   refine sM S fun a S=>?_
   refine sM S fun a S=>?_
   obtain ⟨ab,cl,h⟩:=bS h
   obtain ⟨cm,cn,S⟩:=pIdx (P:=Try.prog) (r:=r_api_Stitch) (v:=.slice af p1.length ag) (xs:=p1) (j:=a6) 47 81 1 S Try.underlying47 d d cl
   refine sIdxV S (wN d) d d d cn d (lb d) fun a S=>?_
   obtain ⟨co,S⟩:=pLoad (r:=r_api_Stitch) (q:=cm) (x:=ab) 0 S d
   obtain rfl:co=.agg #[.int .u8 ab.Kind,.bool ab.Purl,iv ab.A,iv ab.B]:=S.mem.know (i:=1) (e:=fRep r_api_Stitch (co) ab) d
   refine sLoadVN (vq:=cm) 0 [.int .u8 ab.Kind,.bool ab.Purl,iv ab.A,iv ab.B] S (wN d) d d d d d d (lb d) fun a S=>sBuild [(0,.int .u8 2),(1,.agg #[.int .u8 ab.Kind,.bool ab.Purl,iv ab.A,iv ab.B])] [.int .u8 2,.int .u8 ab.Kind,.bool ab.Purl,iv ab.A,iv ab.B] S (wN d) d d d d (lb d) fun a S=>?_
   have S:=S.learn (fRep r_api_CellStep (.agg #[.int .u8 2,.int .u8 ab.Kind,.bool ab.Purl,iv ab.A,iv ab.B]) (api_CellStep.mk 2 ab)) d
   refine sLit (r:=r_api_CellStep) (T:=83) (xs:=[(api_CellStep.mk 2 ab)]) [(0,.agg #[.int .u8 2,.int .u8 ab.Kind,.bool ab.Purl,iv ab.A,iv ab.B])] 1 [.agg #[.int .u8 2,.int .u8 ab.Kind,.bool ab.Purl,iv ab.A,iv ab.B]] [.int .u8 2,.int .u8 ab.Kind,.bool ab.Purl,iv ab.A,iv ab.B] (.agg #[.int .u8 0,.int .u8 0,.bool false,iv 0,iv 0]) 32 S (wN d) d d Try.underlying48 d (by decide) (by decide) (by kernel_rfl) d (fun E1 w1 hE=>All.cons (r_api_CellStep.mono hE (S.mem.know (i:=0) (e:=fRep r_api_CellStep (.agg #[.int .u8 2,.int .u8 ab.Kind,.bool ab.Purl,iv ab.A,iv ab.B]) (api_CellStep.mk 2 ab)) d)) (All.nil _ _ _)) d d (lb d) fun a w cp cq S=>?_
   obtain ⟨dO,cr,h⟩:=bS h
   refine sApp (r:=r_api_CellStep) (T:=83) (xs:=ay) (ys:=[(api_CellStep.mk 2 ab)]) (v:=.slice ap ay.length aq) (u:=.slice cp [(api_CellStep.mk 2 ab)].length cq) 1 (.agg #[.int .u8 0,.int .u8 0,.bool false,iv 0,iv 0]) 32 S (wN d) d Try.underlying48 d d (by decide) d d d (src_R (T:=83) 0 S.mem d) cr d (lb d) fun a w ct cu S=>sN S fun a S=>?_
   refine lT (ck _ _ (sSeq (fun eo cv=>sRegion (sM S fun a S=>?_))))
   refine sBin _ S (wN d) d d d (bAdd _ _ _ _ aa 1) d (lb d) fun a S=>sN S fun a S=>?_
   refine lT (cv _ _ (sRegion (sM S fun a S=>?_)))
   refine sBin _ S (wN d) d d d (bAdd _ _ _ _ a6 1) d (lb d) fun a S=>sN S fun a S=>?_
   exact leafL (leafB (leafB (leafT (⟨(dO,w64 (aa + 1),w64 (a6 + 1)),(Option.some.inj h).symm,⟨ct,cu,S.fix [0] [4,5,6] (by decide) d d d⟩⟩))))
  refine sCondF S d aU ?_
  obtain ⟨dP,h,dQ⟩:=bS h
  refine sCut (fun a w=>∃ bB,bB=dP∧St [] E [] w0 178 a w [(0,.slice al p0.length am),(1,.slice af p1.length ag),(10,.slice ah ar.length ai),(11,.slice ap ay.length aq),(12,iv aa),(13,iv a6),(148,.bool bB)] [eRow r_api_CellStep 83 (.slice ap ay.length aq) ay] [fRep (rL r_api_Stitch) (.slice al p0.length am) p0,fRep (rL r_api_Stitch) (.slice af p1.length ag) p1,fRep (rL (rL (rI .i64))) (.slice ah ar.length ai) ar]) ?_ (fun a w hI=>?_)
  ·refine sRegion (sM S fun a S=>?_)
   refine sM S fun a S=>?_
   refine sLen S (wN d) d Try.underlying47 d d (lb d) fun a S=>sBin _ S (wN d) d d d (bLt _ _ _ _ .i64 aa (p0.length:Int)) d (lb d) fun a S=>sM S fun a S=>?_
   rcases iS h with ⟨au,h⟩ | ⟨au,h⟩
   rotate_left
   ·refine sSkN 11 4 true 153 S d d au d fun a S=>sPickF (.bool false) S (wN d) d d au d d (lb d) fun a S=>sN S fun a S=>?_
    exact lT (⟨false,Option.some.inj h,S.fix [0] [0,1,2] (by decide) d d d⟩)
   refine sMove (iv aw) S (wG 4 true 153 d d d au) (.inl d) d d (lb d) fun a S=>sMove (.slice ah ar.length ai) S (wG 4 true 153 d d d au) (.inl d) d d (lb d) fun a S=>sMove (iv aa) S (wG 4 true 153 d d d au) (.inl d) d d (lb d) fun a S=>sBin _ S (wG 4 true 153 d d d au) d d d (bAdd _ _ _ _ aa 1) d (lb d) fun a S=>?_
   obtain ⟨aV,cw,h⟩:=bS h
   obtain ⟨cx,cy,S⟩:=pIdx (P:=Try.prog) (r:=(rL (rI .i64))) (v:=.slice ah ar.length ai) (xs:=ar) (j:=w64 (aa + 1)) 98 101 2 S Try.underlying98 d d cw
   refine sIdxV S (wG 4 true 153 d d d au) d d d cy d (lb d) fun a S=>?_
   obtain ⟨dR,S⟩:=pLoad (r:=(rL (rI .i64))) (q:=cx) (x:=aV) 0 S d
   obtain ⟨bm,bo,_,rfl,_⟩:=S.mem.know (i:=1) (e:=fRep (rL (rI .i64)) (dR) aV) d
   refine sLoadV1 (vq:=cx) 0 (.slice bm aV.length bo) S (wG 4 true 153 d d d au) d d d d d (lb d) fun a S=>sMove (iv a6) S (wG 4 true 153 d d d au) (.inl d) d d (lb d) fun a S=>?_
   obtain ⟨aH,cz,h⟩:=bS h
   obtain ⟨cA,cB,S⟩:=pIdx (P:=Try.prog) (r:=(rI .i64)) (v:=.slice bm aV.length bo) (xs:=aV) (j:=a6) 101 3 1 S Try.underlying101 d d cz
   refine sIdxV S (wG 4 true 153 d d d au) d d d cB d (lb d) fun a S=>?_
   obtain ⟨cC,S⟩:=pLoad (r:=(rI .i64)) (q:=cA) (x:=aH) 0 S d
   obtain rfl:cC=iv aH:=S.mem.know (i:=1) (e:=fRep (rI .i64) (cC) aH) d
   refine sLoadV1 (vq:=cA) 0 (iv aH) S (wG 4 true 153 d d d au) d d d d d (lb d) fun a S=>sBin _ S (wG 4 true 153 d d d au) d d d (bAdd _ _ _ _ 1 aH) d (lb d) fun a S=>sBin _ S (wG 4 true 153 d d d au) d d d (bEq _ _ _ _ .i64 aw (w64 (1 + aH))) d (lb d) fun a S=>sPickT (.bool (aw == (w64 (1 + aH)))) S (wN d) d d au d d (lb d) fun a S=>sN S fun a S=>?_
   exact lT (⟨aw == (w64 (1 + aH)),Option.some.inj h,S.fix [0] [6,7,8] (by decide) d d d⟩)
  obtain ⟨bB,rfl,S⟩:=hI
  have h:=dQ
  try dsimp only at h
  rcases iS h with ⟨aW,h⟩ | ⟨aW,h⟩
  ·refine sCondT S d aW (sSeq (fun ep cD=>sRegion (sM S fun a S=>?_)))
   refine sBuild [(0,.int .u8 4)] [.int .u8 4,.int .u8 0,.bool false,iv 0,iv 0] S (wN d) d d d d (lb d) fun a S=>?_
   have S:=S.learn (fRep r_api_CellStep (.agg #[.int .u8 4,.int .u8 0,.bool false,iv 0,iv 0]) (api_CellStep.mk 4 (api_Stitch.mk 0 false 0 0))) d
   refine sLit (r:=r_api_CellStep) (T:=83) (xs:=[(api_CellStep.mk 4 (api_Stitch.mk 0 false 0 0))]) [(0,.agg #[.int .u8 4,.int .u8 0,.bool false,iv 0,iv 0])] 1 [.agg #[.int .u8 4,.int .u8 0,.bool false,iv 0,iv 0]] [.int .u8 4,.int .u8 0,.bool false,iv 0,iv 0] (.agg #[.int .u8 0,.int .u8 0,.bool false,iv 0,iv 0]) 32 S (wN d) d d Try.underlying48 d (by decide) (by decide) (by kernel_rfl) d (fun E1 w1 hE=>All.cons (r_api_CellStep.mono hE (S.mem.know (i:=0) (e:=fRep r_api_CellStep (.agg #[.int .u8 4,.int .u8 0,.bool false,iv 0,iv 0]) (api_CellStep.mk 4 (api_Stitch.mk 0 false 0 0))) d)) (All.nil _ _ _)) d d (lb d) fun a w cE cF S=>?_
   obtain ⟨dS,cG,h⟩:=bS h
   refine sApp (r:=r_api_CellStep) (T:=83) (xs:=ay) (ys:=[(api_CellStep.mk 4 (api_Stitch.mk 0 false 0 0))]) (v:=.slice ap ay.length aq) (u:=.slice cE [(api_CellStep.mk 4 (api_Stitch.mk 0 false 0 0))].length cF) 1 (.agg #[.int .u8 0,.int .u8 0,.bool false,iv 0,iv 0]) 32 S (wN d) d Try.underlying48 d d (by decide) d d d (src_R (T:=83) 0 S.mem d) cG d (lb d) fun a w cH cI S=>sN S fun a S=>?_
   refine lT (cD _ _ (sRegion (sM S fun a S=>?_)))
   refine sBin _ S (wN d) d d d (bAdd _ _ _ _ aa 1) d (lb d) fun a S=>sN S fun a S=>?_
   exact leafL (leafB (leafB (leafT (⟨(dS,w64 (aa + 1),a6),(Option.some.inj h).symm,⟨cH,cI,S.fix [0] [1,2,3] (by decide) d d d⟩⟩))))
  refine sCondF S d aW (sSeq (fun er cJ=>sRegion (sM S fun a S=>?_)))
  refine sM S fun a S=>?_
  refine sM S fun a S=>?_
  obtain ⟨ac,cK,h⟩:=bS h
  obtain ⟨cL,cM,S⟩:=pIdx (P:=Try.prog) (r:=r_api_Stitch) (v:=.slice af p1.length ag) (xs:=p1) (j:=a6) 47 81 1 S Try.underlying47 d d cK
  refine sIdxV S (wN d) d d d cM d (lb d) fun a S=>?_
  obtain ⟨cN,S⟩:=pLoad (r:=r_api_Stitch) (q:=cL) (x:=ac) 0 S d
  obtain rfl:cN=.agg #[.int .u8 ac.Kind,.bool ac.Purl,iv ac.A,iv ac.B]:=S.mem.know (i:=1) (e:=fRep r_api_Stitch (cN) ac) d
  refine sLoadVN (vq:=cL) 0 [.int .u8 ac.Kind,.bool ac.Purl,iv ac.A,iv ac.B] S (wN d) d d d d d d (lb d) fun a S=>sBuild [(0,.int .u8 3),(1,.agg #[.int .u8 ac.Kind,.bool ac.Purl,iv ac.A,iv ac.B])] [.int .u8 3,.int .u8 ac.Kind,.bool ac.Purl,iv ac.A,iv ac.B] S (wN d) d d d d (lb d) fun a S=>?_
  have S:=S.learn (fRep r_api_CellStep (.agg #[.int .u8 3,.int .u8 ac.Kind,.bool ac.Purl,iv ac.A,iv ac.B]) (api_CellStep.mk 3 ac)) d
  refine sLit (r:=r_api_CellStep) (T:=83) (xs:=[(api_CellStep.mk 3 ac)]) [(0,.agg #[.int .u8 3,.int .u8 ac.Kind,.bool ac.Purl,iv ac.A,iv ac.B])] 1 [.agg #[.int .u8 3,.int .u8 ac.Kind,.bool ac.Purl,iv ac.A,iv ac.B]] [.int .u8 3,.int .u8 ac.Kind,.bool ac.Purl,iv ac.A,iv ac.B] (.agg #[.int .u8 0,.int .u8 0,.bool false,iv 0,iv 0]) 32 S (wN d) d d Try.underlying48 d (by decide) (by decide) (by kernel_rfl) d (fun E1 w1 hE=>All.cons (r_api_CellStep.mono hE (S.mem.know (i:=0) (e:=fRep r_api_CellStep (.agg #[.int .u8 3,.int .u8 ac.Kind,.bool ac.Purl,iv ac.A,iv ac.B]) (api_CellStep.mk 3 ac)) d)) (All.nil _ _ _)) d d (lb d) fun a w cO cP S=>?_
  obtain ⟨dU,cQ,h⟩:=bS h
  refine sApp (r:=r_api_CellStep) (T:=83) (xs:=ay) (ys:=[(api_CellStep.mk 3 ac)]) (v:=.slice ap ay.length aq) (u:=.slice cO [(api_CellStep.mk 3 ac)].length cP) 1 (.agg #[.int .u8 0,.int .u8 0,.bool false,iv 0,iv 0]) 32 S (wN d) d Try.underlying48 d d (by decide) d d d (src_R (T:=83) 0 S.mem d) cQ d (lb d) fun a w cR cS S=>sN S fun a S=>?_
  refine lT (cJ _ _ (sRegion (sM S fun a S=>?_)))
  refine sBin _ S (wN d) d d d (bAdd _ _ _ _ a6 1) d (lb d) fun a S=>sN S fun a S=>?_
  exact leafL (leafB (leafB (leafT (⟨(dU,aa,w64 (a6 + 1)),(Option.some.inj h).symm,⟨cR,cS,S.fix [0] [4,5,6] (by decide) d d d⟩⟩))))
 rcases iS h with ⟨aj,h⟩ | ⟨aj,h⟩
 rotate_left
 ·refine sDraw (nf:=[]) (W:=[(0,101,iv aa),(1,102,.slice al p0.length am),(2,103,iv (p0.length:Int)),(3,104,.bool (decide (aa < (p0.length:Int)))),(4,105,.bool (decide (aa < (p0.length:Int)))),(5,106,undef),(6,107,undef),(7,108,undef),(8,109,undef),(9,110,.bool false),(10,111,.bool false),(11,112,undef),(12,113,undef),(13,114,undef),(14,115,undef),(15,116,undef),(16,117,undef),(17,118,undef),(18,119,undef),(19,120,undef),(20,121,.bool false),(21,122,.bool false),(22,123,undef),(23,124,undef),(24,125,undef),(25,126,undef),(26,127,undef),(27,128,undef),(28,129,undef),(29,130,undef),(30,131,undef),(31,132,undef),(32,133,undef),(33,134,undef),(34,135,.bool false),(35,100,.bool false)]) d S ?_
  refine node_by (A:=anc_compare_Edits_1) 36 (by kernel_rfl) (by kernel_rfl) (by kernel_rfl) (by kernel_rfl) (by kernel_rfl) [0,1,2,3,4,5,6,7,8,9,10,11,12,13,14,15,16,17,18,19,20,21,22,23,24,25,26,27,28,29,30,31,32,33,34,35] (by kernel_rfl) (by decide) (by decide) (fF ?_ (fF ?_ (fF ?_ (fF ?_ (fF ?_ (fF ?_ (fF ?_ (fF ?_ (fF ?_ (fF ?_ (fF ?_ (fF ?_ (fF ?_ (fF ?_ (fF ?_ (fF ?_ (fF ?_ (fF ?_ (fF ?_ (fF ?_ (fF ?_ (fF ?_ (fF ?_ (fF ?_ (fF ?_ (fF ?_ (fF ?_ (fF ?_ (fF ?_ (fF ?_ (fF ?_ (fF ?_ (fF ?_ (fF ?_ (fF ?_ (fF ?_ (trivial))))))))))))))))))))))))))))))))))))) [(0,.slice al p0.length am),(1,.slice af p1.length ag),(10,.slice ah ar.length ai),(11,.slice ap ay.length aq),(12,iv aa),(13,iv a6),(14,iv aw),(100,.bool false),(106,undef),(107,undef),(108,undef),(109,undef),(112,undef),(113,undef),(114,undef),(115,undef),(116,undef),(117,undef),(118,undef),(119,undef),(120,undef),(123,undef),(124,undef),(125,undef),(126,undef),(127,undef),(128,undef),(129,undef),(130,undef),(131,undef),(132,undef),(133,undef),(134,undef)] (fin_of [none,none,none,none,none,none,none,some 35,some 5,some 6,some 7,some 8,some 11,some 12,some 13,some 14,some 15,some 16,some 17,some 18,some 19,some 22,some 23,some 24,some 25,some 26,some 27,some 28,some 29,some 30,some 31,some 32,some 33] d (by kernel_rfl) (by kernel_rfl)) (fun _ a w S=>?_)
  ·exact fM 0 none d d d d (.inl d) d d d
  ·exact fM 1 none d d d d (.inl d) d d d
  ·refine fJ [(102,_)] 2 [some 1] fun G a w S=>?_
   exact sLen S (wN d) d Try.underlying47 d d (lb d) fun a S=>leafL ⟨d,S⟩
  ·refine fJ [(101,_),(103,_)] 3 [some 0,some 2] fun G a w S=>?_
   exact sBin _ S (wN d) d d d (bLt _ _ _ _ .i64 aa (p0.length:Int)) d (lb d) fun a S=>leafL ⟨d,S⟩
  ·exact fM 4 (some 3) d d d d (.inl d) d d d
  ·refine fJ [(13,_),(105,_)] 5 [none,some 4] fun G a w S=>?_
   exact sSk S d d d aj d d fun a S=>leafL ⟨d,S⟩
  ·refine fJ [(1,_),(105,_)] 6 [none,some 4] fun G a w S=>?_
   exact sSk S d d d aj d d fun a S=>leafL ⟨d,S⟩
  ·refine fJ [(107,_),(105,_)] 7 [some 6,some 4] fun G a w S=>?_
   exact sSk S d d d aj d d fun a S=>leafL ⟨d,S⟩
  ·refine fJ [(106,_),(108,_),(105,_)] 8 [some 5,some 7,some 4] fun G a w S=>?_
   exact sSk S d d d aj d d fun a S=>leafL ⟨d,S⟩
  ·refine fJ [(105,_),(109,_)] 9 [some 4,some 8] fun G a w S=>?_
   exact sPickF (.bool false) S (wN d) d d aj d d (lb d) fun a S=>leafL ⟨d,S⟩
  ·exact fM 10 (some 9) d d d d (.inl d) d d d
  ·refine fJ [(0,_),(111,_)] 11 [none,some 10] fun G a w S=>?_
   exact sSk S d d d d d d fun a S=>leafL ⟨d,S⟩
  ·refine fJ [(12,_),(111,_)] 12 [none,some 10] fun G a w S=>?_
   exact sSk S d d d d d d fun a S=>leafL ⟨d,S⟩
  ·refine fJ [(112,_),(113,_),(111,_)] 13 [some 11,some 12,some 10] fun G a w S=>?_
   exact sSk S d d d d d d fun a S=>leafL ⟨d,S⟩
  ·refine fJ [(114,_),(111,_)] 14 [some 13,some 10] fun G a w S=>?_
   exact sSk S d d d d d d fun a S=>leafL ⟨d,S⟩
  ·refine fJ [(1,_),(111,_)] 15 [none,some 10] fun G a w S=>?_
   exact sSk S d d d d d d fun a S=>leafL ⟨d,S⟩
  ·refine fJ [(13,_),(111,_)] 16 [none,some 10] fun G a w S=>?_
   exact sSk S d d d d d d fun a S=>leafL ⟨d,S⟩
  ·refine fJ [(116,_),(117,_),(111,_)] 17 [some 15,some 16,some 10] fun G a w S=>?_
   exact sSk S d d d d d d fun a S=>leafL ⟨d,S⟩
  ·refine fJ [(118,_),(111,_)] 18 [some 17,some 10] fun G a w S=>?_
   exact sSk S d d d d d d fun a S=>leafL ⟨d,S⟩
  ·refine fJ [(115,_),(119,_),(111,_)] 19 [some 14,some 18,some 10] fun G a w S=>?_
   exact sSk S d d d d d d fun a S=>leafL ⟨d,S⟩
  ·refine fJ [(111,_),(120,_)] 20 [some 10,some 19] fun G a w S=>?_
   exact sPickF (.bool false) S (wN d) d d d d d (lb d) fun a S=>leafL ⟨d,S⟩
  ·exact fM 21 (some 20) d d d d (.inl d) d d d
  ·refine fJ [(14,_),(122,_)] 22 [none,some 21] fun G a w S=>?_
   exact sSk S d d d d d d fun a S=>leafL ⟨d,S⟩
  ·refine fJ [(10,_),(122,_)] 23 [none,some 21] fun G a w S=>?_
   exact sSk S d d d d d d fun a S=>leafL ⟨d,S⟩
  ·refine fJ [(12,_),(122,_)] 24 [none,some 21] fun G a w S=>?_
   exact sSk S d d d d d d fun a S=>leafL ⟨d,S⟩
  ·refine fJ [(125,_),(122,_)] 25 [some 24,some 21] fun G a w S=>?_
   exact sSk S d d d d d d fun a S=>leafL ⟨d,S⟩
  ·refine fJ [(124,_),(126,_),(122,_)] 26 [some 23,some 25,some 21] fun G a w S=>?_
   exact sSk S d d d d d d fun a S=>leafL ⟨d,S⟩
  ·refine fJ [(127,_),(122,_)] 27 [some 26,some 21] fun G a w S=>?_
   exact sSk S d d d d d d fun a S=>leafL ⟨d,S⟩
  ·refine fJ [(13,_),(122,_)] 28 [none,some 21] fun G a w S=>?_
   exact sSk S d d d d d d fun a S=>leafL ⟨d,S⟩
  ·refine fJ [(129,_),(122,_)] 29 [some 28,some 21] fun G a w S=>?_
   exact sSk S d d d d d d fun a S=>leafL ⟨d,S⟩
  ·refine fJ [(128,_),(130,_),(122,_)] 30 [some 27,some 29,some 21] fun G a w S=>?_
   exact sSk S d d d d d d fun a S=>leafL ⟨d,S⟩
  ·refine fJ [(131,_),(122,_)] 31 [some 30,some 21] fun G a w S=>?_
   exact sSk S d d d d d d fun a S=>leafL ⟨d,S⟩
  ·refine fJ [(132,_),(122,_)] 32 [some 31,some 21] fun G a w S=>?_
   exact sSk S d d d d d d fun a S=>leafL ⟨d,S⟩
  ·refine fJ [(123,_),(133,_),(122,_)] 33 [some 22,some 32,some 21] fun G a w S=>?_
   exact sSk S d d d d d d fun a S=>leafL ⟨d,S⟩
  ·refine fJ [(122,_),(134,_)] 34 [some 21,some 33] fun G a w S=>?_
   exact sPickF (.bool false) S (wN d) d d d d d (lb d) fun a S=>leafL ⟨d,S⟩
  ·exact fM 35 (some 34) d d d d (.inr d) d d d
  exact leafT (⟨false,Option.some.inj h,S.fix [0] [0,1,2] (by decide) d d d⟩)
 rcases iS h with ⟨a7,h⟩ | ⟨a7,h⟩
 rotate_left
 ·refine sDraw (nf:=[]) (W:=[(0,101,iv aa),(1,102,.slice al p0.length am),(2,103,iv (p0.length:Int)),(3,104,.bool (decide (aa < (p0.length:Int)))),(4,105,.bool (decide (aa < (p0.length:Int)))),(5,106,iv a6),(6,107,.slice af p1.length ag),(7,108,iv (p1.length:Int)),(8,109,.bool (decide (a6 < (p1.length:Int)))),(9,110,.bool (decide (a6 < (p1.length:Int)))),(10,111,.bool (decide (a6 < (p1.length:Int)))),(11,112,undef),(12,113,undef),(13,114,undef),(14,115,undef),(15,116,undef),(16,117,undef),(17,118,undef),(18,119,undef),(19,120,undef),(20,121,.bool false),(21,122,.bool false),(22,123,undef),(23,124,undef),(24,125,undef),(25,126,undef),(26,127,undef),(27,128,undef),(28,129,undef),(29,130,undef),(30,131,undef),(31,132,undef),(32,133,undef),(33,134,undef),(34,135,.bool false),(35,100,.bool false)]) d S ?_
  refine node_by (A:=anc_compare_Edits_1) 36 (by kernel_rfl) (by kernel_rfl) (by kernel_rfl) (by kernel_rfl) (by kernel_rfl) [0,1,2,3,4,5,6,7,8,9,10,11,12,13,14,15,16,17,18,19,20,21,22,23,24,25,26,27,28,29,30,31,32,33,34,35] (by kernel_rfl) (by decide) (by decide) (fF ?_ (fF ?_ (fF ?_ (fF ?_ (fF ?_ (fF ?_ (fF ?_ (fF ?_ (fF ?_ (fF ?_ (fF ?_ (fF ?_ (fF ?_ (fF ?_ (fF ?_ (fF ?_ (fF ?_ (fF ?_ (fF ?_ (fF ?_ (fF ?_ (fF ?_ (fF ?_ (fF ?_ (fF ?_ (fF ?_ (fF ?_ (fF ?_ (fF ?_ (fF ?_ (fF ?_ (fF ?_ (fF ?_ (fF ?_ (fF ?_ (fF ?_ (trivial))))))))))))))))))))))))))))))))))))) [(0,.slice al p0.length am),(1,.slice af p1.length ag),(10,.slice ah ar.length ai),(11,.slice ap ay.length aq),(12,iv aa),(13,iv a6),(14,iv aw),(100,.bool false),(106,iv a6),(107,.slice af p1.length ag),(108,iv (p1.length:Int)),(109,.bool (decide (a6 < (p1.length:Int)))),(112,undef),(113,undef),(114,undef),(115,undef),(116,undef),(117,undef),(118,undef),(119,undef),(120,undef),(123,undef),(124,undef),(125,undef),(126,undef),(127,undef),(128,undef),(129,undef),(130,undef),(131,undef),(132,undef),(133,undef),(134,undef)] (fin_of [none,none,none,none,none,none,none,some 35,some 5,some 6,some 7,some 8,some 11,some 12,some 13,some 14,some 15,some 16,some 17,some 18,some 19,some 22,some 23,some 24,some 25,some 26,some 27,some 28,some 29,some 30,some 31,some 32,some 33] d (by kernel_rfl) (by kernel_rfl)) (fun _ a w S=>?_)
  ·exact fM 0 none d d d d (.inl d) d d d
  ·exact fM 1 none d d d d (.inl d) d d d
  ·refine fJ [(102,_)] 2 [some 1] fun G a w S=>?_
   exact sLen S (wN d) d Try.underlying47 d d (lb d) fun a S=>leafL ⟨d,S⟩
  ·refine fJ [(101,_),(103,_)] 3 [some 0,some 2] fun G a w S=>?_
   exact sBin _ S (wN d) d d d (bLt _ _ _ _ .i64 aa (p0.length:Int)) d (lb d) fun a S=>leafL ⟨d,S⟩
  ·exact fM 4 (some 3) d d d d (.inl d) d d d
  ·refine fJ [(13,_),(105,_)] 5 [none,some 4] fun G a w S=>?_
   exact sMove (iv a6) S (wG 4 true 105 d d d aj) (.inl d) d d (lb d) fun a S=>leafL ⟨d,S⟩
  ·refine fJ [(1,_),(105,_)] 6 [none,some 4] fun G a w S=>?_
   exact sMove (.slice af p1.length ag) S (wG 4 true 105 d d d aj) (.inl d) d d (lb d) fun a S=>leafL ⟨d,S⟩
  ·refine fJ [(107,_),(105,_)] 7 [some 6,some 4] fun G a w S=>?_
   exact sLen S (wG 4 true 105 d d d aj) d Try.underlying47 d d (lb d) fun a S=>leafL ⟨d,S⟩
  ·refine fJ [(106,_),(108,_),(105,_)] 8 [some 5,some 7,some 4] fun G a w S=>?_
   exact sBin _ S (wG 4 true 105 d d d aj) d d d (bLt _ _ _ _ .i64 a6 (p1.length:Int)) d (lb d) fun a S=>leafL ⟨d,S⟩
  ·refine fJ [(105,_),(109,_)] 9 [some 4,some 8] fun G a w S=>?_
   exact sPickT (.bool (decide (a6 < (p1.length:Int)))) S (wN d) d d aj d d (lb d) fun a S=>leafL ⟨d,S⟩
  ·exact fM 10 (some 9) d d d d (.inl d) d d d
  ·refine fJ [(0,_),(111,_)] 11 [none,some 10] fun G a w S=>?_
   exact sSk S d d d a7 d d fun a S=>leafL ⟨d,S⟩
  ·refine fJ [(12,_),(111,_)] 12 [none,some 10] fun G a w S=>?_
   exact sSk S d d d a7 d d fun a S=>leafL ⟨d,S⟩
  ·refine fJ [(112,_),(113,_),(111,_)] 13 [some 11,some 12,some 10] fun G a w S=>?_
   exact sSk S d d d a7 d d fun a S=>leafL ⟨d,S⟩
  ·refine fJ [(114,_),(111,_)] 14 [some 13,some 10] fun G a w S=>?_
   exact sSk S d d d a7 d d fun a S=>leafL ⟨d,S⟩
  ·refine fJ [(1,_),(111,_)] 15 [none,some 10] fun G a w S=>?_
   exact sSk S d d d a7 d d fun a S=>leafL ⟨d,S⟩
  ·refine fJ [(13,_),(111,_)] 16 [none,some 10] fun G a w S=>?_
   exact sSk S d d d a7 d d fun a S=>leafL ⟨d,S⟩
  ·refine fJ [(116,_),(117,_),(111,_)] 17 [some 15,some 16,some 10] fun G a w S=>?_
   exact sSk S d d d a7 d d fun a S=>leafL ⟨d,S⟩
  ·refine fJ [(118,_),(111,_)] 18 [some 17,some 10] fun G a w S=>?_
   exact sSk S d d d a7 d d fun a S=>leafL ⟨d,S⟩
  ·refine fJ [(115,_),(119,_),(111,_)] 19 [some 14,some 18,some 10] fun G a w S=>?_
   exact sSk S d d d a7 d d fun a S=>leafL ⟨d,S⟩
  ·refine fJ [(111,_),(120,_)] 20 [some 10,some 19] fun G a w S=>?_
   exact sPickF (.bool false) S (wN d) d d a7 d d (lb d) fun a S=>leafL ⟨d,S⟩
  ·exact fM 21 (some 20) d d d d (.inl d) d d d
  ·refine fJ [(14,_),(122,_)] 22 [none,some 21] fun G a w S=>?_
   exact sSk S d d d d d d fun a S=>leafL ⟨d,S⟩
  ·refine fJ [(10,_),(122,_)] 23 [none,some 21] fun G a w S=>?_
   exact sSk S d d d d d d fun a S=>leafL ⟨d,S⟩
  ·refine fJ [(12,_),(122,_)] 24 [none,some 21] fun G a w S=>?_
   exact sSk S d d d d d d fun a S=>leafL ⟨d,S⟩
  ·refine fJ [(125,_),(122,_)] 25 [some 24,some 21] fun G a w S=>?_
   exact sSk S d d d d d d fun a S=>leafL ⟨d,S⟩
  ·refine fJ [(124,_),(126,_),(122,_)] 26 [some 23,some 25,some 21] fun G a w S=>?_
   exact sSk S d d d d d d fun a S=>leafL ⟨d,S⟩
  ·refine fJ [(127,_),(122,_)] 27 [some 26,some 21] fun G a w S=>?_
   exact sSk S d d d d d d fun a S=>leafL ⟨d,S⟩
  ·refine fJ [(13,_),(122,_)] 28 [none,some 21] fun G a w S=>?_
   exact sSk S d d d d d d fun a S=>leafL ⟨d,S⟩
  ·refine fJ [(129,_),(122,_)] 29 [some 28,some 21] fun G a w S=>?_
   exact sSk S d d d d d d fun a S=>leafL ⟨d,S⟩
  ·refine fJ [(128,_),(130,_),(122,_)] 30 [some 27,some 29,some 21] fun G a w S=>?_
   exact sSk S d d d d d d fun a S=>leafL ⟨d,S⟩
  ·refine fJ [(131,_),(122,_)] 31 [some 30,some 21] fun G a w S=>?_
   exact sSk S d d d d d d fun a S=>leafL ⟨d,S⟩
  ·refine fJ [(132,_),(122,_)] 32 [some 31,some 21] fun G a w S=>?_
   exact sSk S d d d d d d fun a S=>leafL ⟨d,S⟩
  ·refine fJ [(123,_),(133,_),(122,_)] 33 [some 22,some 32,some 21] fun G a w S=>?_
   exact sSk S d d d d d d fun a S=>leafL ⟨d,S⟩
  ·refine fJ [(122,_),(134,_)] 34 [some 21,some 33] fun G a w S=>?_
   exact sPickF (.bool false) S (wN d) d d d d d (lb d) fun a S=>leafL ⟨d,S⟩
  ·exact fM 35 (some 34) d d d d (.inr d) d d d
  exact leafT (⟨false,Option.some.inj h,S.fix [0] [0,1,2] (by decide) d d d⟩)
 obtain ⟨a0,bp,h⟩:=bS h
 obtain ⟨a5,bq,h⟩:=bS h
 rcases iS h with ⟨ae,h⟩ | ⟨ae,h⟩
 rotate_left
 ·obtain ⟨bg,cT,S⟩:=pIdx (P:=Try.prog) (r:=r_api_Stitch) (v:=.slice al p0.length am) (xs:=p0) (j:=aa) 47 81 0 S Try.underlying47 d d bp
  obtain ⟨cU,S⟩:=pLoad (r:=r_api_Stitch) (q:=bg) (x:=a0) 0 S d
  obtain rfl:cU=.agg #[.int .u8 a0.Kind,.bool a0.Purl,iv a0.A,iv a0.B]:=S.mem.know (i:=1) (e:=fRep r_api_Stitch (cU) a0) d
  obtain ⟨bh,cV,S⟩:=pIdx (P:=Try.prog) (r:=r_api_Stitch) (v:=.slice af p1.length ag) (xs:=p1) (j:=a6) 47 81 4 S Try.underlying47 d d bq
  obtain ⟨cW,S⟩:=pLoad (r:=r_api_Stitch) (q:=bh) (x:=a5) 0 S d
  obtain rfl:cW=.agg #[.int .u8 a5.Kind,.bool a5.Purl,iv a5.A,iv a5.B]:=S.mem.know (i:=1) (e:=fRep r_api_Stitch (cW) a5) d
  refine sDraw (nf:=[]) (W:=[(0,101,iv aa),(1,102,.slice al p0.length am),(2,103,iv (p0.length:Int)),(3,104,.bool (decide (aa < (p0.length:Int)))),(4,105,.bool (decide (aa < (p0.length:Int)))),(5,106,iv a6),(6,107,.slice af p1.length ag),(7,108,iv (p1.length:Int)),(8,109,.bool (decide (a6 < (p1.length:Int)))),(9,110,.bool (decide (a6 < (p1.length:Int)))),(10,111,.bool (decide (a6 < (p1.length:Int)))),(11,112,.slice al p0.length am),(12,113,iv aa),(13,114,bg),(14,115,.agg #[.int .u8 a0.Kind,.bool a0.Purl,iv a0.A,iv a0.B]),(15,116,.slice af p1.length ag),(16,117,iv a6),(17,118,bh),(18,119,.agg #[.int .u8 a5.Kind,.bool a5.Purl,iv a5.A,iv a5.B]),(19,120,.bool (!((a0.Kind == a5.Kind) && ((a0.Purl == a5.Purl) && ((a0.A == a5.A) && ((a0.B == a5.B) && true)))))),(20,121,.bool (!((a0.Kind == a5.Kind) && ((a0.Purl == a5.Purl) && ((a0.A == a5.A) && ((a0.B == a5.B) && true)))))),(21,122,.bool (!((a0.Kind == a5.Kind) && ((a0.Purl == a5.Purl) && ((a0.A == a5.A) && ((a0.B == a5.B) && true)))))),(22,123,undef),(23,124,undef),(24,125,undef),(25,126,undef),(26,127,undef),(27,128,undef),(28,129,undef),(29,130,undef),(30,131,undef),(31,132,undef),(32,133,undef),(33,134,undef),(34,135,.bool false),(35,100,.bool false)]) d S ?_
  refine node_by (A:=anc_compare_Edits_1) 36 (by kernel_rfl) (by kernel_rfl) (by kernel_rfl) (by kernel_rfl) (by kernel_rfl) [0,1,2,3,4,5,6,7,8,9,10,11,12,13,14,15,16,17,18,19,20,21,22,23,24,25,26,27,28,29,30,31,32,33,34,35] (by kernel_rfl) (by decide) (by decide) (fF ?_ (fF ?_ (fF ?_ (fF ?_ (fF ?_ (fF ?_ (fF ?_ (fF ?_ (fF ?_ (fF ?_ (fF ?_ (fF ?_ (fF ?_ (fF ?_ (fF ?_ (fF ?_ (fF ?_ (fF ?_ (fF ?_ (fF ?_ (fF ?_ (fF ?_ (fF ?_ (fF ?_ (fF ?_ (fF ?_ (fF ?_ (fF ?_ (fF ?_ (fF ?_ (fF ?_ (fF ?_ (fF ?_ (fF ?_ (fF ?_ (fF ?_ (trivial))))))))))))))))))))))))))))))))))))) [(0,.slice al p0.length am),(1,.slice af p1.length ag),(10,.slice ah ar.length ai),(11,.slice ap ay.length aq),(12,iv aa),(13,iv a6),(14,iv aw),(100,.bool false),(106,iv a6),(107,.slice af p1.length ag),(108,iv (p1.length:Int)),(109,.bool (decide (a6 < (p1.length:Int)))),(112,.slice al p0.length am),(113,iv aa),(114,bg),(115,.agg #[.int .u8 a0.Kind,.bool a0.Purl,iv a0.A,iv a0.B]),(116,.slice af p1.length ag),(117,iv a6),(118,bh),(119,.agg #[.int .u8 a5.Kind,.bool a5.Purl,iv a5.A,iv a5.B]),(120,.bool (!((a0.Kind == a5.Kind) && ((a0.Purl == a5.Purl) && ((a0.A == a5.A) && ((a0.B == a5.B) && true)))))),(123,undef),(124,undef),(125,undef),(126,undef),(127,undef),(128,undef),(129,undef),(130,undef),(131,undef),(132,undef),(133,undef),(134,undef)] (fin_of [none,none,none,none,none,none,none,some 35,some 5,some 6,some 7,some 8,some 11,some 12,some 13,some 14,some 15,some 16,some 17,some 18,some 19,some 22,some 23,some 24,some 25,some 26,some 27,some 28,some 29,some 30,some 31,some 32,some 33] d (by kernel_rfl) (by kernel_rfl)) (fun _ a w S=>?_)
  ·exact fM 0 none d d d d (.inl d) d d d
  ·exact fM 1 none d d d d (.inl d) d d d
  ·refine fJ [(102,_)] 2 [some 1] fun G a w S=>?_
   exact sLen S (wN d) d Try.underlying47 d d (lb d) fun a S=>leafL ⟨d,S⟩
  ·refine fJ [(101,_),(103,_)] 3 [some 0,some 2] fun G a w S=>?_
   exact sBin _ S (wN d) d d d (bLt _ _ _ _ .i64 aa (p0.length:Int)) d (lb d) fun a S=>leafL ⟨d,S⟩
  ·exact fM 4 (some 3) d d d d (.inl d) d d d
  ·refine fJ [(13,_),(105,_)] 5 [none,some 4] fun G a w S=>?_
   exact sMove (iv a6) S (wG 4 true 105 d d d aj) (.inl d) d d (lb d) fun a S=>leafL ⟨d,S⟩
  ·refine fJ [(1,_),(105,_)] 6 [none,some 4] fun G a w S=>?_
   exact sMove (.slice af p1.length ag) S (wG 4 true 105 d d d aj) (.inl d) d d (lb d) fun a S=>leafL ⟨d,S⟩
  ·refine fJ [(107,_),(105,_)] 7 [some 6,some 4] fun G a w S=>?_
   exact sLen S (wG 4 true 105 d d d aj) d Try.underlying47 d d (lb d) fun a S=>leafL ⟨d,S⟩
  ·refine fJ [(106,_),(108,_),(105,_)] 8 [some 5,some 7,some 4] fun G a w S=>?_
   exact sBin _ S (wG 4 true 105 d d d aj) d d d (bLt _ _ _ _ .i64 a6 (p1.length:Int)) d (lb d) fun a S=>leafL ⟨d,S⟩
  ·refine fJ [(105,_),(109,_)] 9 [some 4,some 8] fun G a w S=>?_
   exact sPickT (.bool (decide (a6 < (p1.length:Int)))) S (wN d) d d aj d d (lb d) fun a S=>leafL ⟨d,S⟩
  ·exact fM 10 (some 9) d d d d (.inl d) d d d
  ·refine fJ [(0,_),(111,_)] 11 [none,some 10] fun G a w S=>?_
   exact sMove (.slice al p0.length am) S (wG 10 true 111 d d d a7) (.inl d) d d (lb d) fun a S=>leafL ⟨d,S⟩
  ·refine fJ [(12,_),(111,_)] 12 [none,some 10] fun G a w S=>?_
   exact sMove (iv aa) S (wG 10 true 111 d d d a7) (.inl d) d d (lb d) fun a S=>leafL ⟨d,S⟩
  ·refine fJ [(112,_),(113,_),(111,_)] 13 [some 11,some 12,some 10] fun G a w S=>?_
   exact sIdxV S (wG 10 true 111 d d d a7) d d d cT d (lb d) fun a S=>leafL ⟨d,S⟩
  ·refine fJ [(114,_),(111,_)] 14 [some 13,some 10] fun G a w S=>?_
   exact sLoadVN (vq:=bg) 3 [.int .u8 a0.Kind,.bool a0.Purl,iv a0.A,iv a0.B] S (wG 10 true 111 d d d a7) d d d d d d (lb d) fun a S=>leafL ⟨d,S⟩
  ·refine fJ [(1,_),(111,_)] 15 [none,some 10] fun G a w S=>?_
   exact sMove (.slice af p1.length ag) S (wG 10 true 111 d d d a7) (.inl d) d d (lb d) fun a S=>leafL ⟨d,S⟩
  ·refine fJ [(13,_),(111,_)] 16 [none,some 10] fun G a w S=>?_
   exact sMove (iv a6) S (wG 10 true 111 d d d a7) (.inl d) d d (lb d) fun a S=>leafL ⟨d,S⟩
  ·refine fJ [(116,_),(117,_),(111,_)] 17 [some 15,some 16,some 10] fun G a w S=>?_
   exact sIdxV S (wG 10 true 111 d d d a7) d d d cV d (lb d) fun a S=>leafL ⟨d,S⟩
  ·refine fJ [(118,_),(111,_)] 18 [some 17,some 10] fun G a w S=>?_
   exact sLoadVN (vq:=bh) 0 [.int .u8 a5.Kind,.bool a5.Purl,iv a5.A,iv a5.B] S (wG 10 true 111 d d d a7) d d d d d d (lb d) fun a S=>leafL ⟨d,S⟩
  ·refine fJ [(115,_),(119,_),(111,_)] 19 [some 14,some 18,some 10] fun G a w S=>?_
   exact sBin _ S (wG 10 true 111 d d d a7) d d d (bNeV _ _ _ _ #[.int .u8 a0.Kind,.bool a0.Purl,iv a0.A,iv a0.B] #[.int .u8 a5.Kind,.bool a5.Purl,iv a5.A,iv a5.B] ((a0.Kind == a5.Kind) && ((a0.Purl == a5.Purl) && ((a0.A == a5.A) && ((a0.B == a5.B) && true)))) (by kernel_rfl) (eqlV_of (by kernel_rfl))) d (lb d) fun a S=>leafL ⟨d,S⟩
  ·refine fJ [(111,_),(120,_)] 20 [some 10,some 19] fun G a w S=>?_
   exact sPickT (.bool (!((a0.Kind == a5.Kind) && ((a0.Purl == a5.Purl) && ((a0.A == a5.A) && ((a0.B == a5.B) && true)))))) S (wN d) d d a7 d d (lb d) fun a S=>leafL ⟨d,S⟩
  ·exact fM 21 (some 20) d d d d (.inl d) d d d
  ·refine fJ [(14,_),(122,_)] 22 [none,some 21] fun G a w S=>?_
   exact sSk S d d d ae d d fun a S=>leafL ⟨d,S⟩
  ·refine fJ [(10,_),(122,_)] 23 [none,some 21] fun G a w S=>?_
   exact sSk S d d d ae d d fun a S=>leafL ⟨d,S⟩
  ·refine fJ [(12,_),(122,_)] 24 [none,some 21] fun G a w S=>?_
   exact sSk S d d d ae d d fun a S=>leafL ⟨d,S⟩
  ·refine fJ [(125,_),(122,_)] 25 [some 24,some 21] fun G a w S=>?_
   exact sSk S d d d ae d d fun a S=>leafL ⟨d,S⟩
  ·refine fJ [(124,_),(126,_),(122,_)] 26 [some 23,some 25,some 21] fun G a w S=>?_
   exact sSk S d d d ae d d fun a S=>leafL ⟨d,S⟩
  ·refine fJ [(127,_),(122,_)] 27 [some 26,some 21] fun G a w S=>?_
   exact sSk S d d d ae d d fun a S=>leafL ⟨d,S⟩
  ·refine fJ [(13,_),(122,_)] 28 [none,some 21] fun G a w S=>?_
   exact sSk S d d d ae d d fun a S=>leafL ⟨d,S⟩
  ·refine fJ [(129,_),(122,_)] 29 [some 28,some 21] fun G a w S=>?_
   exact sSk S d d d ae d d fun a S=>leafL ⟨d,S⟩
  ·refine fJ [(128,_),(130,_),(122,_)] 30 [some 27,some 29,some 21] fun G a w S=>?_
   exact sSk S d d d ae d d fun a S=>leafL ⟨d,S⟩
  ·refine fJ [(131,_),(122,_)] 31 [some 30,some 21] fun G a w S=>?_
   exact sSk S d d d ae d d fun a S=>leafL ⟨d,S⟩
  ·refine fJ [(132,_),(122,_)] 32 [some 31,some 21] fun G a w S=>?_
   exact sSk S d d d ae d d fun a S=>leafL ⟨d,S⟩
  ·refine fJ [(123,_),(133,_),(122,_)] 33 [some 22,some 32,some 21] fun G a w S=>?_
   exact sSk S d d d ae d d fun a S=>leafL ⟨d,S⟩
  ·refine fJ [(122,_),(134,_)] 34 [some 21,some 33] fun G a w S=>?_
   exact sPickF (.bool false) S (wN d) d d ae d d (lb d) fun a S=>leafL ⟨d,S⟩
  ·exact fM 35 (some 34) d d d d (.inr d) d d d
  exact leafT (⟨false,Option.some.inj h,S.fix [0] [6,7,8] (by decide) d d d⟩)
 obtain ⟨aI,cX,h⟩:=bS h
 obtain ⟨ax,cY,h⟩:=bS h
 obtain ⟨bi,cZ,S⟩:=pIdx (P:=Try.prog) (r:=r_api_Stitch) (v:=.slice al p0.length am) (xs:=p0) (j:=aa) 47 81 0 S Try.underlying47 d d bp
 obtain ⟨d6,S⟩:=pLoad (r:=r_api_Stitch) (q:=bi) (x:=a0) 0 S d
 obtain rfl:d6=.agg #[.int .u8 a0.Kind,.bool a0.Purl,iv a0.A,iv a0.B]:=S.mem.know (i:=1) (e:=fRep r_api_Stitch (d6) a0) d
 obtain ⟨bj,d7,S⟩:=pIdx (P:=Try.prog) (r:=r_api_Stitch) (v:=.slice af p1.length ag) (xs:=p1) (j:=a6) 47 81 4 S Try.underlying47 d d bq
 obtain ⟨d8,S⟩:=pLoad (r:=r_api_Stitch) (q:=bj) (x:=a5) 0 S d
 obtain rfl:d8=.agg #[.int .u8 a5.Kind,.bool a5.Purl,iv a5.A,iv a5.B]:=S.mem.know (i:=1) (e:=fRep r_api_Stitch (d8) a5) d
 obtain ⟨bk,d9,S⟩:=pIdx (P:=Try.prog) (r:=(rL (rI .i64))) (v:=.slice ah ar.length ai) (xs:=ar) (j:=w64 (aa + 1)) 98 101 8 S Try.underlying98 d d cX
 obtain ⟨dV,S⟩:=pLoad (r:=(rL (rI .i64))) (q:=bk) (x:=aI) 0 S d
 obtain ⟨aM,aO,_,rfl,_⟩:=S.mem.know (i:=1) (e:=fRep (rL (rI .i64)) (dV) aI) d
 obtain ⟨bl,da,S⟩:=pIdx (P:=Try.prog) (r:=(rI .i64)) (v:=.slice aM aI.length aO) (xs:=aI) (j:=w64 (a6 + 1)) 101 3 1 S Try.underlying101 d d cY
 obtain ⟨db,S⟩:=pLoad (r:=(rI .i64)) (q:=bl) (x:=ax) 0 S d
 obtain rfl:db=iv ax:=S.mem.know (i:=1) (e:=fRep (rI .i64) (db) ax) d
 refine sDraw (nf:=[]) (W:=[(0,101,iv aa),(1,102,.slice al p0.length am),(2,103,iv (p0.length:Int)),(3,104,.bool (decide (aa < (p0.length:Int)))),(4,105,.bool (decide (aa < (p0.length:Int)))),(5,106,iv a6),(6,107,.slice af p1.length ag),(7,108,iv (p1.length:Int)),(8,109,.bool (decide (a6 < (p1.length:Int)))),(9,110,.bool (decide (a6 < (p1.length:Int)))),(10,111,.bool (decide (a6 < (p1.length:Int)))),(11,112,.slice al p0.length am),(12,113,iv aa),(13,114,bi),(14,115,.agg #[.int .u8 a0.Kind,.bool a0.Purl,iv a0.A,iv a0.B]),(15,116,.slice af p1.length ag),(16,117,iv a6),(17,118,bj),(18,119,.agg #[.int .u8 a5.Kind,.bool a5.Purl,iv a5.A,iv a5.B]),(19,120,.bool (!((a0.Kind == a5.Kind) && ((a0.Purl == a5.Purl) && ((a0.A == a5.A) && ((a0.B == a5.B) && true)))))),(20,121,.bool (!((a0.Kind == a5.Kind) && ((a0.Purl == a5.Purl) && ((a0.A == a5.A) && ((a0.B == a5.B) && true)))))),(21,122,.bool (!((a0.Kind == a5.Kind) && ((a0.Purl == a5.Purl) && ((a0.A == a5.A) && ((a0.B == a5.B) && true)))))),(22,123,iv aw),(23,124,.slice ah ar.length ai),(24,125,iv aa),(25,126,iv (w64 (aa + 1))),(26,127,bk),(27,128,.slice aM aI.length aO),(28,129,iv a6),(29,130,iv (w64 (a6 + 1))),(30,131,bl),(31,132,iv ax),(32,133,iv (w64 (1 + ax))),(33,134,.bool (aw == (w64 (1 + ax)))),(34,135,.bool (aw == (w64 (1 + ax)))),(35,100,.bool (aw == (w64 (1 + ax))))]) d S ?_
 refine node_by (A:=anc_compare_Edits_1) 36 (by kernel_rfl) (by kernel_rfl) (by kernel_rfl) (by kernel_rfl) (by kernel_rfl) [0,1,2,3,4,5,6,7,8,9,10,11,12,13,14,15,16,17,18,19,20,21,22,23,24,25,26,27,28,29,30,31,32,33,34,35] (by kernel_rfl) (by decide) (by decide) (fF ?_ (fF ?_ (fF ?_ (fF ?_ (fF ?_ (fF ?_ (fF ?_ (fF ?_ (fF ?_ (fF ?_ (fF ?_ (fF ?_ (fF ?_ (fF ?_ (fF ?_ (fF ?_ (fF ?_ (fF ?_ (fF ?_ (fF ?_ (fF ?_ (fF ?_ (fF ?_ (fF ?_ (fF ?_ (fF ?_ (fF ?_ (fF ?_ (fF ?_ (fF ?_ (fF ?_ (fF ?_ (fF ?_ (fF ?_ (fF ?_ (fF ?_ (trivial))))))))))))))))))))))))))))))))))))) [(0,.slice al p0.length am),(1,.slice af p1.length ag),(10,.slice ah ar.length ai),(11,.slice ap ay.length aq),(12,iv aa),(13,iv a6),(14,iv aw),(100,.bool (aw == (w64 (1 + ax)))),(106,iv a6),(107,.slice af p1.length ag),(108,iv (p1.length:Int)),(109,.bool (decide (a6 < (p1.length:Int)))),(112,.slice al p0.length am),(113,iv aa),(114,bi),(115,.agg #[.int .u8 a0.Kind,.bool a0.Purl,iv a0.A,iv a0.B]),(116,.slice af p1.length ag),(117,iv a6),(118,bj),(119,.agg #[.int .u8 a5.Kind,.bool a5.Purl,iv a5.A,iv a5.B]),(120,.bool (!((a0.Kind == a5.Kind) && ((a0.Purl == a5.Purl) && ((a0.A == a5.A) && ((a0.B == a5.B) && true)))))),(123,iv aw),(124,.slice ah ar.length ai),(125,iv aa),(126,iv (w64 (aa + 1))),(127,bk),(128,.slice aM aI.length aO),(129,iv a6),(130,iv (w64 (a6 + 1))),(131,bl),(132,iv ax),(133,iv (w64 (1 + ax))),(134,.bool (aw == (w64 (1 + ax))))] (fin_of [none,none,none,none,none,none,none,some 35,some 5,some 6,some 7,some 8,some 11,some 12,some 13,some 14,some 15,some 16,some 17,some 18,some 19,some 22,some 23,some 24,some 25,some 26,some 27,some 28,some 29,some 30,some 31,some 32,some 33] d (by kernel_rfl) (by kernel_rfl)) (fun _ a w S=>?_)
 ·exact fM 0 none d d d d (.inl d) d d d
 ·exact fM 1 none d d d d (.inl d) d d d
 ·refine fJ [(102,_)] 2 [some 1] fun G a w S=>?_
  exact sLen S (wN d) d Try.underlying47 d d (lb d) fun a S=>leafL ⟨d,S⟩
 ·refine fJ [(101,_),(103,_)] 3 [some 0,some 2] fun G a w S=>?_
  exact sBin _ S (wN d) d d d (bLt _ _ _ _ .i64 aa (p0.length:Int)) d (lb d) fun a S=>leafL ⟨d,S⟩
 ·exact fM 4 (some 3) d d d d (.inl d) d d d
 ·refine fJ [(13,_),(105,_)] 5 [none,some 4] fun G a w S=>?_
  exact sMove (iv a6) S (wG 4 true 105 d d d aj) (.inl d) d d (lb d) fun a S=>leafL ⟨d,S⟩
 ·refine fJ [(1,_),(105,_)] 6 [none,some 4] fun G a w S=>?_
  exact sMove (.slice af p1.length ag) S (wG 4 true 105 d d d aj) (.inl d) d d (lb d) fun a S=>leafL ⟨d,S⟩
 ·refine fJ [(107,_),(105,_)] 7 [some 6,some 4] fun G a w S=>?_
  exact sLen S (wG 4 true 105 d d d aj) d Try.underlying47 d d (lb d) fun a S=>leafL ⟨d,S⟩
 ·refine fJ [(106,_),(108,_),(105,_)] 8 [some 5,some 7,some 4] fun G a w S=>?_
  exact sBin _ S (wG 4 true 105 d d d aj) d d d (bLt _ _ _ _ .i64 a6 (p1.length:Int)) d (lb d) fun a S=>leafL ⟨d,S⟩
 ·refine fJ [(105,_),(109,_)] 9 [some 4,some 8] fun G a w S=>?_
  exact sPickT (.bool (decide (a6 < (p1.length:Int)))) S (wN d) d d aj d d (lb d) fun a S=>leafL ⟨d,S⟩
 ·exact fM 10 (some 9) d d d d (.inl d) d d d
 ·refine fJ [(0,_),(111,_)] 11 [none,some 10] fun G a w S=>?_
  exact sMove (.slice al p0.length am) S (wG 10 true 111 d d d a7) (.inl d) d d (lb d) fun a S=>leafL ⟨d,S⟩
 ·refine fJ [(12,_),(111,_)] 12 [none,some 10] fun G a w S=>?_
  exact sMove (iv aa) S (wG 10 true 111 d d d a7) (.inl d) d d (lb d) fun a S=>leafL ⟨d,S⟩
 ·refine fJ [(112,_),(113,_),(111,_)] 13 [some 11,some 12,some 10] fun G a w S=>?_
  exact sIdxV S (wG 10 true 111 d d d a7) d d d cZ d (lb d) fun a S=>leafL ⟨d,S⟩
 ·refine fJ [(114,_),(111,_)] 14 [some 13,some 10] fun G a w S=>?_
  exact sLoadVN (vq:=bi) 9 [.int .u8 a0.Kind,.bool a0.Purl,iv a0.A,iv a0.B] S (wG 10 true 111 d d d a7) d d d d d d (lb d) fun a S=>leafL ⟨d,S⟩
 ·refine fJ [(1,_),(111,_)] 15 [none,some 10] fun G a w S=>?_
  exact sMove (.slice af p1.length ag) S (wG 10 true 111 d d d a7) (.inl d) d d (lb d) fun a S=>leafL ⟨d,S⟩
 ·refine fJ [(13,_),(111,_)] 16 [none,some 10] fun G a w S=>?_
  exact sMove (iv a6) S (wG 10 true 111 d d d a7) (.inl d) d d (lb d) fun a S=>leafL ⟨d,S⟩
 ·refine fJ [(116,_),(117,_),(111,_)] 17 [some 15,some 16,some 10] fun G a w S=>?_
  exact sIdxV S (wG 10 true 111 d d d a7) d d d d7 d (lb d) fun a S=>leafL ⟨d,S⟩
 ·refine fJ [(118,_),(111,_)] 18 [some 17,some 10] fun G a w S=>?_
  exact sLoadVN (vq:=bj) 6 [.int .u8 a5.Kind,.bool a5.Purl,iv a5.A,iv a5.B] S (wG 10 true 111 d d d a7) d d d d d d (lb d) fun a S=>leafL ⟨d,S⟩
 ·refine fJ [(115,_),(119,_),(111,_)] 19 [some 14,some 18,some 10] fun G a w S=>?_
  exact sBin _ S (wG 10 true 111 d d d a7) d d d (bNeV _ _ _ _ #[.int .u8 a0.Kind,.bool a0.Purl,iv a0.A,iv a0.B] #[.int .u8 a5.Kind,.bool a5.Purl,iv a5.A,iv a5.B] ((a0.Kind == a5.Kind) && ((a0.Purl == a5.Purl) && ((a0.A == a5.A) && ((a0.B == a5.B) && true)))) (by kernel_rfl) (eqlV_of (by kernel_rfl))) d (lb d) fun a S=>leafL ⟨d,S⟩
 ·refine fJ [(111,_),(120,_)] 20 [some 10,some 19] fun G a w S=>?_
  exact sPickT (.bool (!((a0.Kind == a5.Kind) && ((a0.Purl == a5.Purl) && ((a0.A == a5.A) && ((a0.B == a5.B) && true)))))) S (wN d) d d a7 d d (lb d) fun a S=>leafL ⟨d,S⟩
 ·exact fM 21 (some 20) d d d d (.inl d) d d d
 ·refine fJ [(14,_),(122,_)] 22 [none,some 21] fun G a w S=>?_
  exact sMove (iv aw) S (wG 21 true 122 d d d ae) (.inl d) d d (lb d) fun a S=>leafL ⟨d,S⟩
 ·refine fJ [(10,_),(122,_)] 23 [none,some 21] fun G a w S=>?_
  exact sMove (.slice ah ar.length ai) S (wG 21 true 122 d d d ae) (.inl d) d d (lb d) fun a S=>leafL ⟨d,S⟩
 ·refine fJ [(12,_),(122,_)] 24 [none,some 21] fun G a w S=>?_
  exact sMove (iv aa) S (wG 21 true 122 d d d ae) (.inl d) d d (lb d) fun a S=>leafL ⟨d,S⟩
 ·refine fJ [(125,_),(122,_)] 25 [some 24,some 21] fun G a w S=>?_
  exact sBin _ S (wG 21 true 122 d d d ae) d d d (bAdd _ _ _ _ aa 1) d (lb d) fun a S=>leafL ⟨d,S⟩
 ·refine fJ [(124,_),(126,_),(122,_)] 26 [some 23,some 25,some 21] fun G a w S=>?_
  exact sIdxV S (wG 21 true 122 d d d ae) d d d d9 d (lb d) fun a S=>leafL ⟨d,S⟩
 ·refine fJ [(127,_),(122,_)] 27 [some 26,some 21] fun G a w S=>?_
  exact sLoadV1 (vq:=bk) 3 (.slice aM aI.length aO) S (wG 21 true 122 d d d ae) d d d d d (lb d) fun a S=>leafL ⟨d,S⟩
 ·refine fJ [(13,_),(122,_)] 28 [none,some 21] fun G a w S=>?_
  exact sMove (iv a6) S (wG 21 true 122 d d d ae) (.inl d) d d (lb d) fun a S=>leafL ⟨d,S⟩
 ·refine fJ [(129,_),(122,_)] 29 [some 28,some 21] fun G a w S=>?_
  exact sBin _ S (wG 21 true 122 d d d ae) d d d (bAdd _ _ _ _ a6 1) d (lb d) fun a S=>leafL ⟨d,S⟩
 ·refine fJ [(128,_),(130,_),(122,_)] 30 [some 27,some 29,some 21] fun G a w S=>?_
  exact sIdxV S (wG 21 true 122 d d d ae) d d d da d (lb d) fun a S=>leafL ⟨d,S⟩
 ·refine fJ [(131,_),(122,_)] 31 [some 30,some 21] fun G a w S=>?_
  exact sLoadV1 (vq:=bl) 0 (iv ax) S (wG 21 true 122 d d d ae) d d d d d (lb d) fun a S=>leafL ⟨d,S⟩
 ·refine fJ [(132,_),(122,_)] 32 [some 31,some 21] fun G a w S=>?_
  exact sBin _ S (wG 21 true 122 d d d ae) d d d (bAdd _ _ _ _ 1 ax) d (lb d) fun a S=>leafL ⟨d,S⟩
 ·refine fJ [(123,_),(133,_),(122,_)] 33 [some 22,some 32,some 21] fun G a w S=>?_
  exact sBin _ S (wG 21 true 122 d d d ae) d d d (bEq _ _ _ _ .i64 aw (w64 (1 + ax))) d (lb d) fun a S=>leafL ⟨d,S⟩
 ·refine fJ [(122,_),(134,_)] 34 [some 21,some 33] fun G a w S=>?_
  exact sPickT (.bool (aw == (w64 (1 + ax)))) S (wN d) d d ae d d (lb d) fun a S=>leafL ⟨d,S⟩
 ·exact fM 35 (some 34) d d d d (.inr d) d d d
 exact leafT (⟨aw == (w64 (1 + ax)),Option.some.inj h,S.fix [0] [12,13,14] (by decide) d d d⟩)
def anc_raddleref46_Same_0:List (List Nat):=[[],[],[0,1],[0,1,2],[],[],[4,5],[4,5,6],[0,1,2,3,4,5,6,7]]
noncomputable def raddleref46_Same_l1 (p0:(List api_CellStep)) (p1:(List api_CellStep)):Int→Option (Int ⊕ (Bool ⊕ Unit)):=fun s0=>match s0 with
 | a6=>
  if decide (a6 < (p0.length:Int)) then
   (idxO p0 a6).bind fun a0=>
   (idxO p1 a6).bind fun a5=>
   if !((a0.Kind == a5.Kind) && (((a0.S.Kind == a5.S.Kind) && ((a0.S.Purl == a5.S.Purl) && ((a0.S.A == a5.S.A) && ((a0.S.B == a5.S.B) && true)))) && true)) then
    some (.inr (.inl false))
   else
    some (.inl (w64 (a6 + 1)))
  else
   some (.inr (.inr ()))
noncomputable def F_raddleref46_Same (p0:(List api_CellStep)) (p1:(List api_CellStep)):Option Bool:=
 if (p0.length:Int) != (p1.length:Int) then
  some false
 else
  Option.bind (α:=Unit ⊕ Bool) (
   (whileO (raddleref46_Same_l1 p0 p1) 0).bind fun z0=>match z0 with
    | .inl z=>
     some (.inr z)
    | .inr _=>
     some (.inl ())) fun z0=>match z0 with
   | .inl _=>
    some true
   | .inr z=>
    some z
theorem c_raddleref46_Same (E:Nat→Prop) (w0:World) (p0:(List api_CellStep)) (v0:Value) (p1:(List api_CellStep)) (v1:Value) (r:Bool) (h:F_raddleref46_Same p0 p1=some r) (S:St0 E [] w0 w0 [] [fRep (rL r_api_CellStep) (v0) p0,fRep (rL r_api_CellStep) (v1) p1]) :
 Calls Try.prog 29 #[v0,v1] w0 (Ret (X:=Unit) E [] w0 (fun _=>.bool r) (fun _=>[]) (fun _=>[])):=by
 unfold F_raddleref46_Same at h
 obtain ⟨a9,aa,_,rfl,_⟩:=S.know (i:=0) (e:=fRep (rL r_api_CellStep) (v0) p0) d
 obtain ⟨ab,ac,_,rfl,_⟩:=S.know (i:=1) (e:=fRep (rL r_api_CellStep) (v1) p1) d
 refine sEnter (args:=[.slice a9 p0.length aa,.slice ab p1.length ac]) 26 Try.func29 d d (by simp) S (fun a S=>?_)
 refine sSeq (fun K5 aA=>sRegion (sN S fun a S=>?_))
 refine lT (aA _ _ (sSeq (fun K6 aC=>sSeq (fun K7 aG=>sRegion (sM S fun a S=>?_)))))
 refine sLen S (wN d) d Try.underlying48 d d (lb d) fun a S=>sM S fun a S=>?_
 refine sLen S (wN d) d Try.underlying48 d d (lb d) fun a S=>sBin _ S (wN d) d d d (bNe _ _ _ _ .i64 (p0.length:Int) (p1.length:Int)) d (lb d) fun a S=>lT (aG _ _ ?_)
 rcases iS h with ⟨af,h⟩ | ⟨af,h⟩
 ·refine sCondT S d af (sSeq (fun K9 aH=>sRegion (sN S fun a S=>?_)))
  refine lT (aH _ _ ?_)
  obtain rfl:=tS h
  exact wp_ret (rThen (sRet (.bool false) S (rsl1 d (rvT (t:=4) (v:=.bool false) S d)) ⟨(),d,S.mem.sel [] [] (by decide) d d⟩))
 refine sCondF S d af (wp_skip (leafT (aC _ _ ?_)))
 obtain ⟨aI,h,aw⟩:=bS h
 refine sCut (fun a w=>.inl ()=aI∧St [] E [] w0 26 a w [] [] []) ?_ (fun a w hI=>?_)
 rotate_left
 ·obtain ⟨rfl,S⟩:=hI
  have h:=aw
  try dsimp only at h
  refine sSeq (fun aJ ag=>sRegion (sN S fun a S=>?_))
  refine lT (ag _ _ ?_)
  obtain rfl:=tS h
  exact wp_ret (sRet (.bool true) S (rsl1 d (rvT (t:=4) (v:=.bool true) S d)) ⟨(),d,S.mem.sel [] [] (by decide) d d⟩)
 refine sSeq (fun aK ah=>sRegion (sN S fun a S=>?_))
 refine lT (ah _ _ (wp_block ?_))
 obtain ⟨aL,hl,ax⟩:=bS h
 refine sLoop hl (fun s0 a w=>match s0 with | a6=>St [] E [] w0 26 a w [(0,.slice a9 p0.length aa),(1,.slice ab p1.length ac),(5,iv a6)] [] [fRep (rL r_api_CellStep) (.slice a9 p0.length aa) p0,fRep (rL r_api_CellStep) (.slice ab p1.length ac) p1]) (S.fix [] [0,1] (by decide) d d d) ?_
 clear hl h
 intro a6 a w c0 hI h ae
 unfold raddleref46_Same_l1 at h
 dsimp only at h hI
 have S:=hI
 refine sSeq (fun aM ai=>sSeq (fun aO aj=>sRegion (sM S fun a S=>?_)))
 refine sM S fun a S=>?_
 refine sLen S (wN d) d Try.underlying48 d d (lb d) fun a S=>sBin _ S (wN d) d d d (bLt _ _ _ _ .i64 a6 (p0.length:Int)) d (lb d) fun a S=>lT (aj _ _ ?_)
 rcases iS h with ⟨a7,h⟩ | ⟨a7,h⟩
 rotate_left
 ·refine sCondF S d a7 ?_
  obtain rfl:=tS h
  obtain rfl:=ae _ d
  have h:=ax
  try dsimp only at h
  exact wp_exit (xThen (xThen (xHit (leafT (⟨Option.some.inj h,S.fix [] [] (by decide) d d d⟩)))))
 refine sCondT S d a7 (wp_skip (leafT (ai _ _ ?_)))
 refine sSeq (fun aP ak=>wp_block ?_)
 refine sSeq (fun aQ al=>?_)
 obtain ⟨a0,am,h⟩:=bS h
 obtain ⟨a5,ao,h⟩:=bS h
 obtain ⟨ap,aq,S⟩:=pIdx (P:=Try.prog) (r:=r_api_CellStep) (v:=.slice a9 p0.length aa) (xs:=p0) (j:=a6) 48 83 0 S Try.underlying48 d d am
 obtain ⟨ay,S⟩:=pLoad (r:=r_api_CellStep) (q:=ap) (x:=a0) 0 S d
 obtain rfl:ay=.agg #[.int .u8 a0.Kind,.int .u8 a0.S.Kind,.bool a0.S.Purl,iv a0.S.A,iv a0.S.B]:=S.mem.know (i:=1) (e:=fRep r_api_CellStep (ay) a0) d
 obtain ⟨ar,au,S⟩:=pIdx (P:=Try.prog) (r:=r_api_CellStep) (v:=.slice ab p1.length ac) (xs:=p1) (j:=a6) 48 83 4 S Try.underlying48 d d ao
 obtain ⟨az,S⟩:=pLoad (r:=r_api_CellStep) (q:=ar) (x:=a5) 0 S d
 obtain rfl:az=.agg #[.int .u8 a5.Kind,.int .u8 a5.S.Kind,.bool a5.S.Purl,iv a5.S.A,iv a5.S.B]:=S.mem.know (i:=1) (e:=fRep r_api_CellStep (az) a5) d
 refine sDraw (nf:=[]) (W:=[(0,17,.slice a9 p0.length aa),(1,18,iv a6),(2,19,ap),(3,20,.agg #[.int .u8 a0.Kind,.int .u8 a0.S.Kind,.bool a0.S.Purl,iv a0.S.A,iv a0.S.B]),(4,21,.slice ab p1.length ac),(5,22,iv a6),(6,23,ar),(7,24,.agg #[.int .u8 a5.Kind,.int .u8 a5.S.Kind,.bool a5.S.Purl,iv a5.S.A,iv a5.S.B]),(8,25,.bool (!((a0.Kind == a5.Kind) && (((a0.S.Kind == a5.S.Kind) && ((a0.S.Purl == a5.S.Purl) && ((a0.S.A == a5.S.A) && ((a0.S.B == a5.S.B) && true)))) && true))))]) d S ?_
 refine node_by (A:=anc_raddleref46_Same_0) 9 (by kernel_rfl) (by kernel_rfl) (by kernel_rfl) (by kernel_rfl) (by kernel_rfl) [0,1,2,3,4,5,6,7,8] (by kernel_rfl) (by decide) (by decide) (fF ?_ (fF ?_ (fF ?_ (fF ?_ (fF ?_ (fF ?_ (fF ?_ (fF ?_ (fF ?_ (trivial)))))))))) [(0,.slice a9 p0.length aa),(1,.slice ab p1.length ac),(5,iv a6),(25,.bool (!((a0.Kind == a5.Kind) && (((a0.S.Kind == a5.S.Kind) && ((a0.S.Purl == a5.S.Purl) && ((a0.S.A == a5.S.A) && ((a0.S.B == a5.S.B) && true)))) && true))))] (fin_of [none,none,none,some 8] d (by kernel_rfl) (by kernel_rfl)) (fun _ a w S=>?_)
 ·exact fM 0 none d d d d (.inl d) d d d
 ·exact fM 1 none d d d d (.inl d) d d d
 ·refine fJ [(17,_),(18,_)] 2 [some 0,some 1] fun G a w S=>?_
  exact sIdxV S (wN d) d d d aq d (lb d) fun a S=>leafL ⟨d,S⟩
 ·refine fJ [(19,_)] 3 [some 2] fun G a w S=>?_
  exact sLoadVN (vq:=ap) 3 [.int .u8 a0.Kind,.int .u8 a0.S.Kind,.bool a0.S.Purl,iv a0.S.A,iv a0.S.B] S (wN d) d d d d d d (lb d) fun a S=>leafL ⟨d,S⟩
 ·exact fM 4 none d d d d (.inl d) d d d
 ·exact fM 5 none d d d d (.inl d) d d d
 ·refine fJ [(21,_),(22,_)] 6 [some 4,some 5] fun G a w S=>?_
  exact sIdxV S (wN d) d d d au d (lb d) fun a S=>leafL ⟨d,S⟩
 ·refine fJ [(23,_)] 7 [some 6] fun G a w S=>?_
  exact sLoadVN (vq:=ar) 0 [.int .u8 a5.Kind,.int .u8 a5.S.Kind,.bool a5.S.Purl,iv a5.S.A,iv a5.S.B] S (wN d) d d d d d d (lb d) fun a S=>leafL ⟨d,S⟩
 ·refine fJ [(20,_),(24,_)] 8 [some 3,some 7] fun G a w S=>?_
  exact sBin _ S (wN d) d d d (bNeV _ _ _ _ #[.int .u8 a0.Kind,.int .u8 a0.S.Kind,.bool a0.S.Purl,iv a0.S.A,iv a0.S.B] #[.int .u8 a5.Kind,.int .u8 a5.S.Kind,.bool a5.S.Purl,iv a5.S.A,iv a5.S.B] ((a0.Kind == a5.Kind) && (((a0.S.Kind == a5.S.Kind) && ((a0.S.Purl == a5.S.Purl) && ((a0.S.A == a5.S.A) && ((a0.S.B == a5.S.B) && true)))) && true)) (by kernel_rfl) (eqlV_of (by kernel_rfl))) d (lb d) fun a S=>leafL ⟨d,S⟩
 refine leafT (al _ _ ?_)
 rcases iS h with ⟨a8,h⟩ | ⟨a8,h⟩
 rotate_left
 ·refine sCondF S d a8 (wp_skip (leafB (leafT (ak _ _ ?_))))
  refine sRegion (sM S fun a S=>?_)
  refine sBin _ S (wN d) d d d (bAdd _ _ _ _ a6 1) d (lb d) fun a S=>sN S fun a S=>?_
  exact lT (⟨w64 (a6 + 1),(Option.some.inj h).symm,(S.fix [] [6,7] (by decide) d d d)⟩)
 refine sCondT S d a8 (sSeq (fun aR av=>sRegion (sN S fun a S=>?_)))
 refine lT (av _ _ ?_)
 obtain rfl:=tS h
 obtain rfl:=ae _ d
 have h:=ax
 try dsimp only at h
 obtain rfl:=tS h
 have h:=aw
 try dsimp only at h
 obtain rfl:=tS h
 exact wp_ret (rBlock (rThen (rThen (rBlock (rThen (sRet (.bool false) S (rsl1 d (rvT (t:=4) (v:=.bool false) S d)) ⟨(),d,S.mem.sel [] [] (by decide) d d⟩))))))
noncomputable def F_raddleref25_Check (p0:api_Stitch):Option Int:=
 Option.bind (α:=Bool) (
  if p0.A == 0 then
   some (p0.B == 0)
  else
   some false) fun o3=>
 Option.bind (α:=Bool) (
  Option.bind (α:=Bool) (
   if p0.Kind == 1 then
    some (p0.Kind == 1)
   else
    some (p0.Kind == 8)) fun a0=>
  if a0 then
   some o3
  else
   if p0.Kind == 2 then
    if o3 then
     some (!p0.Purl)
    else
     some false
   else
    Option.bind (α:=Bool) (
     if p0.Kind == 3 then
      some (p0.Kind == 3)
     else
      if p0.Kind == 4 then
       some (p0.Kind == 4)
      else
       some (p0.Kind == 5)) fun a5=>
    if a5 then
     if p0.B == 0 then
      if decide (2 ≤ p0.A) then
       some (decide (p0.A ≤ 4))
      else
       some false
     else
      some false
    else
     Option.bind (α:=Bool) (
      if p0.Kind == 6 then
       some (p0.Kind == 6)
      else
       some (p0.Kind == 7)) fun a6=>
     if a6 then
      if decide (1 ≤ p0.A) then
       if decide (p0.A ≤ 6) then
        if decide (1 ≤ p0.B) then
         some (decide (p0.B ≤ 6))
        else
         some false
       else
        some false
      else
       some false
     else
      if p0.Kind == 9 then
       if p0.B == 0 then
        if !p0.Purl then
         if decide (1 ≤ p0.A) then
          some (decide (p0.A ≤ 200))
         else
          some false
        else
         some false
       else
        some false
      else
       if p0.Kind == 10 then
        if p0.B == 0 then
         if decide (1 ≤ p0.A) then
          some (decide (p0.A ≤ 200))
         else
          some false
        else
         some false
       else
        some false) fun o8=>
 if !o8 then
  some 8
 else
  some 0
theorem c_raddleref25_Check (E:Nat→Prop) (w0:World) (p0:api_Stitch) (v0:Value) (r:Int) (h:F_raddleref25_Check p0=some r) (S:St0 E [] w0 w0 [] [fRep r_api_Stitch (v0) p0]) :
 Calls Try.prog 73 #[v0] w0 (Ret (X:=Unit) E [] w0 (fun _=>.int .i64 r) (fun _=>[]) (fun _=>[])):=by
 unfold F_raddleref25_Check at h
 obtain rfl:v0=.agg #[.int .u8 p0.Kind,.bool p0.Purl,iv p0.A,iv p0.B]:=S.know (i:=0) (e:=fRep r_api_Stitch (v0) p0) d
 refine sEnter (args:=[.agg #[.int .u8 p0.Kind,.bool p0.Purl,iv p0.A,iv p0.B]]) 102 Try.func73 d d (by simp) S (fun a S=>?_)
 refine sSeq (fun K1 aP=>sRegion (sBox (v:=.agg #[.int .u8 p0.Kind,.bool p0.Purl,iv p0.A,iv p0.B]) S (wN d) d d [.int .u8 p0.Kind,.bool p0.Purl,iv p0.A,iv p0.B] d d (lb d) fun a b2 w S=>sN S fun a S=>?_))
 refine lT (aP _ _ ?_)
 obtain ⟨t4,h,g5⟩:=bS h
 refine sCut (fun a w=>∃ o3,o3=t4∧St [] E [] w0 102 a w [(1,.pointer (some ⟨b2,0,none⟩)),(3,.bool o3)] [eBox b2 81 [.int .u8 p0.Kind,.bool p0.Purl,iv p0.A,iv p0.B]] []) ?_ (fun a w hI=>?_)
 ·refine sRegion (sField (b:=b2) (off:=0) 2 2 S (wN d) d d d d d (lb d) fun a S=>sLoad1 0 (iv p0.A) S (wN d) d d d d d d (lb d) fun a S=>sBin _ S (wN d) d d d (bEq _ _ _ _ .i64 p0.A 0) d (lb d) fun a S=>sM S fun a S=>?_)
  rcases iS h with ⟨ag,h⟩ | ⟨ag,h⟩
  rotate_left
  ·refine sSkN 3 3 true 8 S d d ag d fun a S=>sPickF (.bool false) S (wN d) d d ag d d (lb d) fun a S=>sN S fun a S=>?_
   exact lT (⟨false,Option.some.inj h,S.fix [0] [] (by decide) d d d⟩)
  refine sField (b:=b2) (off:=0) 3 3 S (wG 3 true 8 d d d ag) d d d d d (lb d) fun a S=>sLoad1 0 (iv p0.B) S (wG 3 true 8 d d d ag) d d d d d d (lb d) fun a S=>sBin _ S (wG 3 true 8 d d d ag) d d d (bEq _ _ _ _ .i64 p0.B 0) d (lb d) fun a S=>sPickT (.bool (p0.B == 0)) S (wN d) d d ag d d (lb d) fun a S=>sN S fun a S=>?_
  exact lT (⟨p0.B == 0,Option.some.inj h,S.fix [0] [] (by decide) d d d⟩)
 obtain ⟨o3,rfl,S⟩:=hI
 have h:=g5
 try dsimp only at h
 refine sSeq (fun K7 aQ=>sRegion (sN S fun a S=>?_))
 refine lT (aQ _ _ ?_)
 obtain ⟨t9,h,aR⟩:=bS h
 refine sCut (fun a w=>∃ o8,o8=t9∧St [] E [] w0 102 a w [(4,.bool o8)] [] []) ?_ (fun a w hI=>?_)
 rotate_left
 ·obtain ⟨o8,rfl,S⟩:=hI
  have h:=aR
  try dsimp only at h
  refine sSeq (fun aZ av=>sSeq (fun ba aw=>sRegion (sM S fun a S=>?_)))
  refine sNot (b:=o8) S (wN d) d d d (lb d) fun a S=>lT (aw _ _ ?_)
  rcases iS h with ⟨ah,h⟩ | ⟨ah,h⟩
  ·refine sCondT S d ah (sSeq (fun bb ax=>sRegion (sN S fun a S=>?_)))
   refine lT (ax _ _ ?_)
   obtain rfl:=tS h
   exact wp_ret (rThen (sRet (iv 8) S (rsl1 d (rvT (t:=2) (v:=iv 8) S d)) ⟨(),d,S.mem.sel [] [] (by decide) d d⟩))
  refine sCondF S d ah (wp_skip (leafT (av _ _ ?_)))
  refine sSeq (fun bc ay=>sRegion (sN S fun a S=>?_))
  refine lT (ay _ _ ?_)
  obtain rfl:=tS h
  exact wp_ret (sRet (iv 0) S (rsl1 d (rvT (t:=2) (v:=iv 0) S d)) ⟨(),d,S.mem.sel [] [] (by decide) d d⟩)
 refine sSeq (fun bf az=>sRegion (sField (b:=b2) (off:=0) 0 0 S (wN d) d d d d d (lb d) fun a S=>sLoad1 0 (.int .u8 p0.Kind) S (wN d) d d d d d d (lb d) fun a S=>lT (az _ _ (wp_block ?_))))
 obtain ⟨aS,h,aT⟩:=bS h
 refine sCut (fun a w=>∃ aA,aA=aS∧St [] E [] w0 102 a w [(1,.pointer (some ⟨b2,0,none⟩)),(3,.bool o3),(4,.bool false),(14,.int .u8 p0.Kind),(15,.bool aA)] [eBox b2 81 [.int .u8 p0.Kind,.bool p0.Purl,iv p0.A,iv p0.B]] []) ?_ (fun a w hI=>?_)
 ·refine sSeq (fun bg aC=>sRegion (sBin _ S (wN d) d d d (bEq _ _ _ _ .u8 p0.Kind 1) d (lb d) fun a S=>sN S fun a S=>?_))
  refine lT (aC _ _ ?_)
  rcases iS h with ⟨ai,h⟩ | ⟨ai,h⟩
  ·refine sCondT S d ai ?_
   exact wp_skip (leafT (⟨p0.Kind == 1,Option.some.inj h,S.fix [0] [] (by decide) d d d⟩))
  refine sCondF S d ai (sRegion (sBin _ S (wN d) d d d (bEq _ _ _ _ .u8 p0.Kind 8) d (lb d) fun a S=>sN S fun a S=>?_))
  exact lT (⟨p0.Kind == 8,Option.some.inj h,S.fix [0] [] (by decide) d d d⟩)
 obtain ⟨aA,rfl,S⟩:=hI
 have h:=aT
 try dsimp only at h
 rcases iS h with ⟨aj,h⟩ | ⟨aj,h⟩
 ·refine sCondT S d aj (sRegion (sM S fun a S=>?_))
  refine sN S fun a S=>?_
  exact leafL (leafB (leafT (⟨o3,Option.some.inj h,S.fix [] [] (by decide) d d d⟩)))
 refine sCondF S d aj (sSeq (fun bh aG=>sRegion (sBin _ S (wN d) d d d (bEq _ _ _ _ .u8 p0.Kind 2) d (lb d) fun a S=>sN S fun a S=>?_)))
 refine lT (aG _ _ ?_)
 rcases iS h with ⟨ak,h⟩ | ⟨ak,h⟩
 ·refine sCondT S d ak (sRegion (sM S fun a S=>?_))
  refine sM S fun a S=>?_
  rcases iS h with ⟨a0,h⟩ | ⟨a0,h⟩
  rotate_left
  ·refine sSkN 3 1 true 22 S d d a0 d fun a S=>sPickF (.bool false) S (wN d) d d a0 d d (lb d) fun a S=>sN S fun a S=>?_
   exact leafL (leafB (leafT (⟨false,Option.some.inj h,S.fix [] [] (by decide) d d d⟩)))
  refine sField (b:=b2) (off:=0) 1 1 S (wG 1 true 22 d d d a0) d d d d d (lb d) fun a S=>sLoad1 0 (.bool p0.Purl) S (wG 1 true 22 d d d a0) d d d d d d (lb d) fun a S=>sNot (b:=p0.Purl) S (wG 1 true 22 d d d a0) d d d (lb d) fun a S=>sPickT (.bool (!p0.Purl)) S (wN d) d d a0 d d (lb d) fun a S=>sN S fun a S=>?_
  exact leafL (leafB (leafT (⟨!p0.Purl,Option.some.inj h,S.fix [] [] (by decide) d d d⟩)))
 refine sCondF S d ak ?_
 obtain ⟨aU,h,aV⟩:=bS h
 refine sCut (fun a w=>∃ aH,aH=aU∧St [] E [] w0 102 a w [(1,.pointer (some ⟨b2,0,none⟩)),(4,.bool false),(14,.int .u8 p0.Kind),(27,.bool aH)] [eBox b2 81 [.int .u8 p0.Kind,.bool p0.Purl,iv p0.A,iv p0.B]] []) ?_ (fun a w hI=>?_)
 ·refine sSeq (fun bi aI=>sRegion (sBin _ S (wN d) d d d (bEq _ _ _ _ .u8 p0.Kind 3) d (lb d) fun a S=>sN S fun a S=>?_))
  refine lT (aI _ _ ?_)
  rcases iS h with ⟨al,h⟩ | ⟨al,h⟩
  ·refine sCondT S d al ?_
   exact wp_skip (leafT (⟨p0.Kind == 3,Option.some.inj h,S.fix [0] [] (by decide) d d d⟩))
  refine sCondF S d al (sSeq (fun bj aJ=>sRegion (sBin _ S (wN d) d d d (bEq _ _ _ _ .u8 p0.Kind 4) d (lb d) fun a S=>sN S fun a S=>?_)))
  refine lT (aJ _ _ ?_)
  rcases iS h with ⟨am,h⟩ | ⟨am,h⟩
  ·refine sCondT S d am ?_
   exact wp_skip (leafT (⟨p0.Kind == 4,Option.some.inj h,S.fix [0] [] (by decide) d d d⟩))
  refine sCondF S d am (sRegion (sBin _ S (wN d) d d d (bEq _ _ _ _ .u8 p0.Kind 5) d (lb d) fun a S=>sN S fun a S=>?_))
  exact lT (⟨p0.Kind == 5,Option.some.inj h,S.fix [0] [] (by decide) d d d⟩)
 obtain ⟨aH,rfl,S⟩:=hI
 have h:=aV
 try dsimp only at h
 rcases iS h with ⟨ao,h⟩ | ⟨ao,h⟩
 ·refine sCondT S d ao (sRegion (sField (b:=b2) (off:=0) 3 3 S (wN d) d d d d d (lb d) fun a S=>sLoad1 0 (iv p0.B) S (wN d) d d d d d d (lb d) fun a S=>sBin _ S (wN d) d d d (bEq _ _ _ _ .i64 p0.B 0) d (lb d) fun a S=>sM S fun a S=>?_))
  rcases iS h with ⟨a5,h⟩ | ⟨a5,h⟩
  rotate_left
  ·refine sSkN 3 3 true 34 S d d a5 d fun a S=>sPickF (.bool false) S (wN d) d d a5 d d (lb d) fun a S=>sM S fun a S=>?_
   refine sSkN 3 8 true 39 S d d d d fun a S=>sPickF (.bool false) S (wN d) d d d d d (lb d) fun a S=>sN S fun a S=>?_
   exact leafL (leafB (leafT (⟨false,Option.some.inj h,S.fix [] [] (by decide) d d d⟩)))
  refine sField (b:=b2) (off:=0) 2 2 S (wG 3 true 34 d d d a5) d d d d d (lb d) fun a S=>sLoad1 0 (iv p0.A) S (wG 3 true 34 d d d a5) d d d d d d (lb d) fun a S=>sBin _ S (wG 3 true 34 d d d a5) d d d (bGe _ _ _ _ .i64 p0.A 2) d (lb d) fun a S=>sPickT (.bool (decide (2 ≤ p0.A))) S (wN d) d d a5 d d (lb d) fun a S=>sM S fun a S=>?_
  rcases iS h with ⟨a6,h⟩ | ⟨a6,h⟩
  rotate_left
  ·refine sSkN 3 8 true 39 S d d a6 d fun a S=>sPickF (.bool false) S (wN d) d d a6 d d (lb d) fun a S=>sN S fun a S=>?_
   exact leafL (leafB (leafT (⟨false,Option.some.inj h,S.fix [] [] (by decide) d d d⟩)))
  refine sField (b:=b2) (off:=0) 2 2 S (wG 8 true 39 d d d a6) d d d d d (lb d) fun a S=>sLoad1 0 (iv p0.A) S (wG 8 true 39 d d d a6) d d d d d d (lb d) fun a S=>sBin _ S (wG 8 true 39 d d d a6) d d d (bLe _ _ _ _ .i64 p0.A 4) d (lb d) fun a S=>sPickT (.bool (decide (p0.A ≤ 4))) S (wN d) d d a6 d d (lb d) fun a S=>sN S fun a S=>?_
  exact leafL (leafB (leafT (⟨decide (p0.A ≤ 4),Option.some.inj h,S.fix [] [] (by decide) d d d⟩)))
 refine sCondF S d ao ?_
 obtain ⟨aW,h,aX⟩:=bS h
 refine sCut (fun a w=>∃ aK,aK=aW∧St [] E [] w0 102 a w [(1,.pointer (some ⟨b2,0,none⟩)),(4,.bool false),(14,.int .u8 p0.Kind),(44,.bool aK)] [eBox b2 81 [.int .u8 p0.Kind,.bool p0.Purl,iv p0.A,iv p0.B]] []) ?_ (fun a w hI=>?_)
 ·refine sSeq (fun bk aL=>sRegion (sBin _ S (wN d) d d d (bEq _ _ _ _ .u8 p0.Kind 6) d (lb d) fun a S=>sN S fun a S=>?_))
  refine lT (aL _ _ ?_)
  rcases iS h with ⟨ap,h⟩ | ⟨ap,h⟩
  ·refine sCondT S d ap ?_
   exact wp_skip (leafT (⟨p0.Kind == 6,Option.some.inj h,S.fix [0] [] (by decide) d d d⟩))
  refine sCondF S d ap (sRegion (sBin _ S (wN d) d d d (bEq _ _ _ _ .u8 p0.Kind 7) d (lb d) fun a S=>sN S fun a S=>?_))
  exact lT (⟨p0.Kind == 7,Option.some.inj h,S.fix [0] [] (by decide) d d d⟩)
 obtain ⟨aK,rfl,S⟩:=hI
 have h:=aX
 try dsimp only at h
 rcases iS h with ⟨aq,h⟩ | ⟨aq,h⟩
 ·refine sCondT S d aq (sRegion (sField (b:=b2) (off:=0) 2 2 S (wN d) d d d d d (lb d) fun a S=>sLoad1 0 (iv p0.A) S (wN d) d d d d d d (lb d) fun a S=>sBin _ S (wN d) d d d (bGe _ _ _ _ .i64 p0.A 1) d (lb d) fun a S=>sM S fun a S=>?_))
  rcases iS h with ⟨a7,h⟩ | ⟨a7,h⟩
  rotate_left
  ·refine sSkN 3 3 true 50 S d d a7 d fun a S=>sPickF (.bool false) S (wN d) d d a7 d d (lb d) fun a S=>sM S fun a S=>?_
   refine sSkN 3 8 true 55 S d d d d fun a S=>sPickF (.bool false) S (wN d) d d d d d (lb d) fun a S=>sM S fun a S=>?_
   refine sSkN 3 13 true 60 S d d d d fun a S=>sPickF (.bool false) S (wN d) d d d d d (lb d) fun a S=>sN S fun a S=>?_
   exact leafL (leafB (leafT (⟨false,Option.some.inj h,S.fix [] [] (by decide) d d d⟩)))
  refine sField (b:=b2) (off:=0) 2 2 S (wG 3 true 50 d d d a7) d d d d d (lb d) fun a S=>sLoad1 0 (iv p0.A) S (wG 3 true 50 d d d a7) d d d d d d (lb d) fun a S=>sBin _ S (wG 3 true 50 d d d a7) d d d (bLe _ _ _ _ .i64 p0.A 6) d (lb d) fun a S=>sPickT (.bool (decide (p0.A ≤ 6))) S (wN d) d d a7 d d (lb d) fun a S=>sM S fun a S=>?_
  rcases iS h with ⟨a8,h⟩ | ⟨a8,h⟩
  rotate_left
  ·refine sSkN 3 8 true 55 S d d a8 d fun a S=>sPickF (.bool false) S (wN d) d d a8 d d (lb d) fun a S=>sM S fun a S=>?_
   refine sSkN 3 13 true 60 S d d d d fun a S=>sPickF (.bool false) S (wN d) d d d d d (lb d) fun a S=>sN S fun a S=>?_
   exact leafL (leafB (leafT (⟨false,Option.some.inj h,S.fix [] [] (by decide) d d d⟩)))
  refine sField (b:=b2) (off:=0) 3 3 S (wG 8 true 55 d d d a8) d d d d d (lb d) fun a S=>sLoad1 0 (iv p0.B) S (wG 8 true 55 d d d a8) d d d d d d (lb d) fun a S=>sBin _ S (wG 8 true 55 d d d a8) d d d (bGe _ _ _ _ .i64 p0.B 1) d (lb d) fun a S=>sPickT (.bool (decide (1 ≤ p0.B))) S (wN d) d d a8 d d (lb d) fun a S=>sM S fun a S=>?_
  rcases iS h with ⟨a9,h⟩ | ⟨a9,h⟩
  rotate_left
  ·refine sSkN 3 13 true 60 S d d a9 d fun a S=>sPickF (.bool false) S (wN d) d d a9 d d (lb d) fun a S=>sN S fun a S=>?_
   exact leafL (leafB (leafT (⟨false,Option.some.inj h,S.fix [] [] (by decide) d d d⟩)))
  refine sField (b:=b2) (off:=0) 3 3 S (wG 13 true 60 d d d a9) d d d d d (lb d) fun a S=>sLoad1 0 (iv p0.B) S (wG 13 true 60 d d d a9) d d d d d d (lb d) fun a S=>sBin _ S (wG 13 true 60 d d d a9) d d d (bLe _ _ _ _ .i64 p0.B 6) d (lb d) fun a S=>sPickT (.bool (decide (p0.B ≤ 6))) S (wN d) d d a9 d d (lb d) fun a S=>sN S fun a S=>?_
  exact leafL (leafB (leafT (⟨decide (p0.B ≤ 6),Option.some.inj h,S.fix [] [] (by decide) d d d⟩)))
 refine sCondF S d aq (sSeq (fun bl aM=>sRegion (sBin _ S (wN d) d d d (bEq _ _ _ _ .u8 p0.Kind 9) d (lb d) fun a S=>sN S fun a S=>?_)))
 refine lT (aM _ _ ?_)
 rcases iS h with ⟨ar,h⟩ | ⟨ar,h⟩
 rotate_left
 ·refine sCondF S d ar (sSeq (fun bm aO=>sRegion (sBin _ S (wN d) d d d (bEq _ _ _ _ .u8 p0.Kind 10) d (lb d) fun a S=>sN S fun a S=>?_)))
  refine lT (aO _ _ ?_)
  rcases iS h with ⟨au,h⟩ | ⟨au,h⟩
  rotate_left
  ·refine sCondF S d au ?_
   exact wp_skip (leafB (leafT (⟨false,Option.some.inj h,S.fix [] [] (by decide) d d d⟩)))
  refine sCondT S d au (sRegion (sField (b:=b2) (off:=0) 3 3 S (wN d) d d d d d (lb d) fun a S=>sLoad1 0 (iv p0.B) S (wN d) d d d d d d (lb d) fun a S=>sBin _ S (wN d) d d d (bEq _ _ _ _ .i64 p0.B 0) d (lb d) fun a S=>sM S fun a S=>?_))
  rcases iS h with ⟨aa,h⟩ | ⟨aa,h⟩
  rotate_left
  ·refine sSkN 3 3 true 90 S d d aa d fun a S=>sPickF (.bool false) S (wN d) d d aa d d (lb d) fun a S=>sM S fun a S=>?_
   refine sSkN 3 8 true 95 S d d d d fun a S=>sPickF (.bool false) S (wN d) d d d d d (lb d) fun a S=>sN S fun a S=>?_
   exact leafL (leafB (leafT (⟨false,Option.some.inj h,S.fix [] [] (by decide) d d d⟩)))
  refine sField (b:=b2) (off:=0) 2 2 S (wG 3 true 90 d d d aa) d d d d d (lb d) fun a S=>sLoad1 0 (iv p0.A) S (wG 3 true 90 d d d aa) d d d d d d (lb d) fun a S=>sBin _ S (wG 3 true 90 d d d aa) d d d (bGe _ _ _ _ .i64 p0.A 1) d (lb d) fun a S=>sPickT (.bool (decide (1 ≤ p0.A))) S (wN d) d d aa d d (lb d) fun a S=>sM S fun a S=>?_
  rcases iS h with ⟨ab,h⟩ | ⟨ab,h⟩
  rotate_left
  ·refine sSkN 3 8 true 95 S d d ab d fun a S=>sPickF (.bool false) S (wN d) d d ab d d (lb d) fun a S=>sN S fun a S=>?_
   exact leafL (leafB (leafT (⟨false,Option.some.inj h,S.fix [] [] (by decide) d d d⟩)))
  refine sField (b:=b2) (off:=0) 2 2 S (wG 8 true 95 d d d ab) d d d d d (lb d) fun a S=>sLoad1 0 (iv p0.A) S (wG 8 true 95 d d d ab) d d d d d d (lb d) fun a S=>sBin _ S (wG 8 true 95 d d d ab) d d d (bLe _ _ _ _ .i64 p0.A 200) d (lb d) fun a S=>sPickT (.bool (decide (p0.A ≤ 200))) S (wN d) d d ab d d (lb d) fun a S=>sN S fun a S=>?_
  exact leafL (leafB (leafT (⟨decide (p0.A ≤ 200),Option.some.inj h,S.fix [] [] (by decide) d d d⟩)))
 refine sCondT S d ar (sRegion (sField (b:=b2) (off:=0) 3 3 S (wN d) d d d d d (lb d) fun a S=>sLoad1 0 (iv p0.B) S (wN d) d d d d d d (lb d) fun a S=>sBin _ S (wN d) d d d (bEq _ _ _ _ .i64 p0.B 0) d (lb d) fun a S=>sM S fun a S=>?_))
 rcases iS h with ⟨ac,h⟩ | ⟨ac,h⟩
 rotate_left
 ·refine sSkN 3 3 true 70 S d d ac d fun a S=>sPickF (.bool false) S (wN d) d d ac d d (lb d) fun a S=>sM S fun a S=>?_
  refine sSkN 3 8 true 75 S d d d d fun a S=>sPickF (.bool false) S (wN d) d d d d d (lb d) fun a S=>sM S fun a S=>?_
  refine sSkN 3 13 true 80 S d d d d fun a S=>sPickF (.bool false) S (wN d) d d d d d (lb d) fun a S=>sN S fun a S=>?_
  exact leafL (leafB (leafT (⟨false,Option.some.inj h,S.fix [] [] (by decide) d d d⟩)))
 refine sField (b:=b2) (off:=0) 1 1 S (wG 3 true 70 d d d ac) d d d d d (lb d) fun a S=>sLoad1 0 (.bool p0.Purl) S (wG 3 true 70 d d d ac) d d d d d d (lb d) fun a S=>sNot (b:=p0.Purl) S (wG 3 true 70 d d d ac) d d d (lb d) fun a S=>sPickT (.bool (!p0.Purl)) S (wN d) d d ac d d (lb d) fun a S=>sM S fun a S=>?_
 rcases iS h with ⟨ae,h⟩ | ⟨ae,h⟩
 rotate_left
 ·refine sSkN 3 8 true 75 S d d ae d fun a S=>sPickF (.bool false) S (wN d) d d ae d d (lb d) fun a S=>sM S fun a S=>?_
  refine sSkN 3 13 true 80 S d d d d fun a S=>sPickF (.bool false) S (wN d) d d d d d (lb d) fun a S=>sN S fun a S=>?_
  exact leafL (leafB (leafT (⟨false,Option.some.inj h,S.fix [] [] (by decide) d d d⟩)))
 refine sField (b:=b2) (off:=0) 2 2 S (wG 8 true 75 d d d ae) d d d d d (lb d) fun a S=>sLoad1 0 (iv p0.A) S (wG 8 true 75 d d d ae) d d d d d d (lb d) fun a S=>sBin _ S (wG 8 true 75 d d d ae) d d d (bGe _ _ _ _ .i64 p0.A 1) d (lb d) fun a S=>sPickT (.bool (decide (1 ≤ p0.A))) S (wN d) d d ae d d (lb d) fun a S=>sM S fun a S=>?_
 rcases iS h with ⟨af,h⟩ | ⟨af,h⟩
 rotate_left
 ·refine sSkN 3 13 true 80 S d d af d fun a S=>sPickF (.bool false) S (wN d) d d af d d (lb d) fun a S=>sN S fun a S=>?_
  exact leafL (leafB (leafT (⟨false,Option.some.inj h,S.fix [] [] (by decide) d d d⟩)))
 refine sField (b:=b2) (off:=0) 2 2 S (wG 13 true 80 d d d af) d d d d d (lb d) fun a S=>sLoad1 0 (iv p0.A) S (wG 13 true 80 d d d af) d d d d d d (lb d) fun a S=>sBin _ S (wG 13 true 80 d d d af) d d d (bLe _ _ _ _ .i64 p0.A 200) d (lb d) fun a S=>sPickT (.bool (decide (p0.A ≤ 200))) S (wN d) d d af d d (lb d) fun a S=>sN S fun a S=>?_
 exact leafL (leafB (leafT (⟨decide (p0.A ≤ 200),Option.some.inj h,S.fix [] [] (by decide) d d d⟩)))
noncomputable def F_raddleref25_Used (p0:api_Stitch):Option Int:=
 Option.bind (α:=Bool) (
  if p0.Kind == 2 then
   some (p0.Kind == 2)
  else
   some (p0.Kind == 9)) fun o5=>
 if o5 then
  some 0
 else
  Option.bind (α:=Bool) (
   if p0.Kind == 3 then
    some (p0.Kind == 3)
   else
    if p0.Kind == 4 then
     some (p0.Kind == 4)
    else
     some (p0.Kind == 10)) fun a0=>
  if a0 then
   some p0.A
  else
   Option.bind (α:=Bool) (
    if p0.Kind == 6 then
     some (p0.Kind == 6)
    else
     some (p0.Kind == 7)) fun a5=>
   if a5 then
    some (w64 (p0.A + p0.B))
   else
    some 1
theorem c_raddleref25_Used (E:Nat→Prop) (w0:World) (p0:api_Stitch) (v0:Value) (r:Int) (h:F_raddleref25_Used p0=some r) (S:St0 E [] w0 w0 [] [fRep r_api_Stitch (v0) p0]) :
 Calls Try.prog 92 #[v0] w0 (Ret (X:=Unit) E [] w0 (fun _=>.int .i64 r) (fun _=>[]) (fun _=>[])):=by
 unfold F_raddleref25_Used at h
 obtain rfl:v0=.agg #[.int .u8 p0.Kind,.bool p0.Purl,iv p0.A,iv p0.B]:=S.know (i:=0) (e:=fRep r_api_Stitch (v0) p0) d
 refine sEnter (args:=[.agg #[.int .u8 p0.Kind,.bool p0.Purl,iv p0.A,iv p0.B]]) 22 Try.func92 d d (by simp) S (fun a S=>?_)
 refine sSeq (fun K1 al=>sRegion (sBox (v:=.agg #[.int .u8 p0.Kind,.bool p0.Purl,iv p0.A,iv p0.B]) S (wN d) d d [.int .u8 p0.Kind,.bool p0.Purl,iv p0.A,iv p0.B] d d (lb d) fun a b2 w S=>sN S fun a S=>?_))
 refine lT (al _ _ (sSeq (fun K3 am=>sSeq (fun K4 ao=>sRegion (sField (b:=b2) (off:=0) 0 0 S (wN d) d d d d d (lb d) fun a S=>sLoad1 0 (.int .u8 p0.Kind) S (wN d) d d d d d d (lb d) fun a S=>lT (ao _ _ (wp_block ?_)))))))
 obtain ⟨t6,h,g7⟩:=bS h
 refine sCut (fun a w=>∃ o5,o5=t6∧St [] E [] w0 22 a w [(1,.pointer (some ⟨b2,0,none⟩)),(4,.int .u8 p0.Kind),(5,.bool o5)] [eBox b2 81 [.int .u8 p0.Kind,.bool p0.Purl,iv p0.A,iv p0.B]] []) ?_ (fun a w hI=>?_)
 ·refine sSeq (fun K8 ap=>sRegion (sBin _ S (wN d) d d d (bEq _ _ _ _ .u8 p0.Kind 2) d (lb d) fun a S=>sN S fun a S=>?_))
  refine lT (ap _ _ ?_)
  rcases iS h with ⟨aa,h⟩ | ⟨aa,h⟩
  ·refine sCondT S d aa ?_
   exact wp_skip (leafT (⟨p0.Kind == 2,Option.some.inj h,S.fix [0] [] (by decide) d d d⟩))
  refine sCondF S d aa (sRegion (sBin _ S (wN d) d d d (bEq _ _ _ _ .u8 p0.Kind 9) d (lb d) fun a S=>sN S fun a S=>?_))
  exact lT (⟨p0.Kind == 9,Option.some.inj h,S.fix [0] [] (by decide) d d d⟩)
 obtain ⟨o5,rfl,S⟩:=hI
 have h:=g7
 try dsimp only at h
 rcases iS h with ⟨a0,h⟩ | ⟨a0,h⟩
 ·refine sCondT S d a0 (sSeq (fun aw ab=>sRegion (sN S fun a S=>?_)))
  refine lT (ab _ _ ?_)
  obtain rfl:=tS h
  exact wp_ret (rBlock (rThen (sRet (iv 0) S (rsl1 d (rvT (t:=2) (v:=iv 0) S d)) ⟨(),d,S.mem.sel [] [] (by decide) d d⟩)))
 refine sCondF S d a0 ?_
 obtain ⟨aq,h,ar⟩:=bS h
 refine sCut (fun a w=>∃ ac,ac=aq∧St [] E [] w0 22 a w [(1,.pointer (some ⟨b2,0,none⟩)),(4,.int .u8 p0.Kind),(8,.bool ac)] [eBox b2 81 [.int .u8 p0.Kind,.bool p0.Purl,iv p0.A,iv p0.B]] []) ?_ (fun a w hI=>?_)
 ·refine sSeq (fun ax ae=>sRegion (sBin _ S (wN d) d d d (bEq _ _ _ _ .u8 p0.Kind 3) d (lb d) fun a S=>sN S fun a S=>?_))
  refine lT (ae _ _ ?_)
  rcases iS h with ⟨a5,h⟩ | ⟨a5,h⟩
  ·refine sCondT S d a5 ?_
   exact wp_skip (leafT (⟨p0.Kind == 3,Option.some.inj h,S.fix [0] [] (by decide) d d d⟩))
  refine sCondF S d a5 (sSeq (fun ay af=>sRegion (sBin _ S (wN d) d d d (bEq _ _ _ _ .u8 p0.Kind 4) d (lb d) fun a S=>sN S fun a S=>?_)))
  refine lT (af _ _ ?_)
  rcases iS h with ⟨a6,h⟩ | ⟨a6,h⟩
  ·refine sCondT S d a6 ?_
   exact wp_skip (leafT (⟨p0.Kind == 4,Option.some.inj h,S.fix [0] [] (by decide) d d d⟩))
  refine sCondF S d a6 (sRegion (sBin _ S (wN d) d d d (bEq _ _ _ _ .u8 p0.Kind 10) d (lb d) fun a S=>sN S fun a S=>?_))
  exact lT (⟨p0.Kind == 10,Option.some.inj h,S.fix [0] [] (by decide) d d d⟩)
 obtain ⟨ac,rfl,S⟩:=hI
 have h:=ar
 try dsimp only at h
 rcases iS h with ⟨a7,h⟩ | ⟨a7,h⟩
 ·refine sCondT S d a7 (sSeq (fun az ag=>sRegion (sField (b:=b2) (off:=0) 2 2 S (wN d) d d d d d (lb d) fun a S=>sLoad1 0 (iv p0.A) S (wN d) d d d d d d (lb d) fun a S=>sN S fun a S=>?_)))
  refine lT (ag _ _ ?_)
  obtain rfl:=tS h
  exact wp_ret (rBlock (rThen (sRet (iv p0.A) S (rsl1 d (rvT (t:=2) (v:=iv p0.A) S d)) ⟨(),d,S.mem.sel [] [] (by decide) d d⟩)))
 refine sCondF S d a7 ?_
 obtain ⟨au,h,av⟩:=bS h
 refine sCut (fun a w=>∃ ah,ah=au∧St [] E [] w0 22 a w [(1,.pointer (some ⟨b2,0,none⟩)),(14,.bool ah)] [eBox b2 81 [.int .u8 p0.Kind,.bool p0.Purl,iv p0.A,iv p0.B]] []) ?_ (fun a w hI=>?_)
 ·refine sSeq (fun aA ai=>sRegion (sBin _ S (wN d) d d d (bEq _ _ _ _ .u8 p0.Kind 6) d (lb d) fun a S=>sN S fun a S=>?_))
  refine lT (ai _ _ ?_)
  rcases iS h with ⟨a8,h⟩ | ⟨a8,h⟩
  ·refine sCondT S d a8 ?_
   exact wp_skip (leafT (⟨p0.Kind == 6,Option.some.inj h,S.fix [0] [] (by decide) d d d⟩))
  refine sCondF S d a8 (sRegion (sBin _ S (wN d) d d d (bEq _ _ _ _ .u8 p0.Kind 7) d (lb d) fun a S=>sN S fun a S=>?_))
  exact lT (⟨p0.Kind == 7,Option.some.inj h,S.fix [0] [] (by decide) d d d⟩)
 obtain ⟨ah,rfl,S⟩:=hI
 have h:=av
 try dsimp only at h
 rcases iS h with ⟨a9,h⟩ | ⟨a9,h⟩
 rotate_left
 ·refine sCondF S d a9 (wp_skip (leafB (leafT (am _ _ ?_))))
  refine sSeq (fun aC aj=>sRegion (sN S fun a S=>?_))
  refine lT (aj _ _ ?_)
  obtain rfl:=tS h
  exact wp_ret (sRet (iv 1) S (rsl1 d (rvT (t:=2) (v:=iv 1) S d)) ⟨(),d,S.mem.sel [] [] (by decide) d d⟩)
 refine sCondT S d a9 (sSeq (fun aG ak=>sRegion (sField (b:=b2) (off:=0) 2 2 S (wN d) d d d d d (lb d) fun a S=>sLoad1 0 (iv p0.A) S (wN d) d d d d d d (lb d) fun a S=>sField (b:=b2) (off:=0) 3 3 S (wN d) d d d d d (lb d) fun a S=>sLoad1 0 (iv p0.B) S (wN d) d d d d d d (lb d) fun a S=>sBin _ S (wN d) d d d (bAdd _ _ _ _ p0.A p0.B) d (lb d) fun a S=>sN S fun a S=>?_)))
 refine lT (ak _ _ ?_)
 obtain rfl:=tS h
 exact wp_ret (rBlock (rThen (sRet (iv (w64 (p0.A + p0.B))) S (rsl1 d (rvT (t:=2) (v:=iv (w64 (p0.A + p0.B))) S d)) ⟨(),d,S.mem.sel [] [] (by decide) d d⟩)))
noncomputable def F_raddleref25_Gives (p0:api_Stitch):Option Int:=
 if p0.Kind == 10 then
  some 0
 else
  Option.bind (α:=Bool) (
   if p0.Kind == 5 then
    some (p0.Kind == 5)
   else
    some (p0.Kind == 9)) fun o8=>
  if o8 then
   some p0.A
  else
   Option.bind (α:=Bool) (
    if p0.Kind == 6 then
     some (p0.Kind == 6)
    else
     some (p0.Kind == 7)) fun a0=>
   if a0 then
    some (w64 (p0.A + p0.B))
   else
    some 1
theorem c_raddleref25_Gives (E:Nat→Prop) (w0:World) (p0:api_Stitch) (v0:Value) (r:Int) (h:F_raddleref25_Gives p0=some r) (S:St0 E [] w0 w0 [] [fRep r_api_Stitch (v0) p0]) :
 Calls Try.prog 93 #[v0] w0 (Ret (X:=Unit) E [] w0 (fun _=>.int .i64 r) (fun _=>[]) (fun _=>[])):=by
 unfold F_raddleref25_Gives at h
 obtain rfl:v0=.agg #[.int .u8 p0.Kind,.bool p0.Purl,iv p0.A,iv p0.B]:=S.know (i:=0) (e:=fRep r_api_Stitch (v0) p0) d
 refine sEnter (args:=[.agg #[.int .u8 p0.Kind,.bool p0.Purl,iv p0.A,iv p0.B]]) 20 Try.func93 d d (by simp) S (fun a S=>?_)
 refine sSeq (fun K1 ag=>sRegion (sBox (v:=.agg #[.int .u8 p0.Kind,.bool p0.Purl,iv p0.A,iv p0.B]) S (wN d) d d [.int .u8 p0.Kind,.bool p0.Purl,iv p0.A,iv p0.B] d d (lb d) fun a b2 w S=>sN S fun a S=>?_))
 refine lT (ag _ _ (sSeq (fun K3 ah=>sSeq (fun K4 ai=>sRegion (sField (b:=b2) (off:=0) 0 0 S (wN d) d d d d d (lb d) fun a S=>sLoad1 0 (.int .u8 p0.Kind) S (wN d) d d d d d d (lb d) fun a S=>lT (ai _ _ (wp_block ?_)))))))
 refine sSeq (fun K5 aj=>sRegion (sBin _ S (wN d) d d d (bEq _ _ _ _ .u8 p0.Kind 10) d (lb d) fun a S=>sN S fun a S=>?_))
 refine lT (aj _ _ ?_)
 rcases iS h with ⟨a8,h⟩ | ⟨a8,h⟩
 ·refine sCondT S d a8 (sSeq (fun K7 ak=>sRegion (sN S fun a S=>?_)))
  refine lT (ak _ _ ?_)
  obtain rfl:=tS h
  exact wp_ret (rBlock (rThen (sRet (iv 0) S (rsl1 d (rvT (t:=2) (v:=iv 0) S d)) ⟨(),d,S.mem.sel [] [] (by decide) d d⟩)))
 refine sCondF S d a8 ?_
 obtain ⟨t9,h,al⟩:=bS h
 refine sCut (fun a w=>∃ o8,o8=t9∧St [] E [] w0 20 a w [(1,.pointer (some ⟨b2,0,none⟩)),(4,.int .u8 p0.Kind),(7,.bool o8)] [eBox b2 81 [.int .u8 p0.Kind,.bool p0.Purl,iv p0.A,iv p0.B]] []) ?_ (fun a w hI=>?_)
 ·refine sSeq (fun ap a9=>sRegion (sBin _ S (wN d) d d d (bEq _ _ _ _ .u8 p0.Kind 5) d (lb d) fun a S=>sN S fun a S=>?_))
  refine lT (a9 _ _ ?_)
  rcases iS h with ⟨a0,h⟩ | ⟨a0,h⟩
  ·refine sCondT S d a0 ?_
   exact wp_skip (leafT (⟨p0.Kind == 5,Option.some.inj h,S.fix [0] [] (by decide) d d d⟩))
  refine sCondF S d a0 (sRegion (sBin _ S (wN d) d d d (bEq _ _ _ _ .u8 p0.Kind 9) d (lb d) fun a S=>sN S fun a S=>?_))
  exact lT (⟨p0.Kind == 9,Option.some.inj h,S.fix [0] [] (by decide) d d d⟩)
 obtain ⟨o8,rfl,S⟩:=hI
 have h:=al
 try dsimp only at h
 rcases iS h with ⟨a5,h⟩ | ⟨a5,h⟩
 ·refine sCondT S d a5 (sSeq (fun aq aa=>sRegion (sField (b:=b2) (off:=0) 2 2 S (wN d) d d d d d (lb d) fun a S=>sLoad1 0 (iv p0.A) S (wN d) d d d d d d (lb d) fun a S=>sN S fun a S=>?_)))
  refine lT (aa _ _ ?_)
  obtain rfl:=tS h
  exact wp_ret (rBlock (rThen (sRet (iv p0.A) S (rsl1 d (rvT (t:=2) (v:=iv p0.A) S d)) ⟨(),d,S.mem.sel [] [] (by decide) d d⟩)))
 refine sCondF S d a5 ?_
 obtain ⟨am,h,ao⟩:=bS h
 refine sCut (fun a w=>∃ ab,ab=am∧St [] E [] w0 20 a w [(1,.pointer (some ⟨b2,0,none⟩)),(12,.bool ab)] [eBox b2 81 [.int .u8 p0.Kind,.bool p0.Purl,iv p0.A,iv p0.B]] []) ?_ (fun a w hI=>?_)
 ·refine sSeq (fun ar ac=>sRegion (sBin _ S (wN d) d d d (bEq _ _ _ _ .u8 p0.Kind 6) d (lb d) fun a S=>sN S fun a S=>?_))
  refine lT (ac _ _ ?_)
  rcases iS h with ⟨a6,h⟩ | ⟨a6,h⟩
  ·refine sCondT S d a6 ?_
   exact wp_skip (leafT (⟨p0.Kind == 6,Option.some.inj h,S.fix [0] [] (by decide) d d d⟩))
  refine sCondF S d a6 (sRegion (sBin _ S (wN d) d d d (bEq _ _ _ _ .u8 p0.Kind 7) d (lb d) fun a S=>sN S fun a S=>?_))
  exact lT (⟨p0.Kind == 7,Option.some.inj h,S.fix [0] [] (by decide) d d d⟩)
 obtain ⟨ab,rfl,S⟩:=hI
 have h:=ao
 try dsimp only at h
 rcases iS h with ⟨a7,h⟩ | ⟨a7,h⟩
 rotate_left
 ·refine sCondF S d a7 (wp_skip (leafB (leafT (ah _ _ ?_))))
  refine sSeq (fun au ae=>sRegion (sN S fun a S=>?_))
  refine lT (ae _ _ ?_)
  obtain rfl:=tS h
  exact wp_ret (sRet (iv 1) S (rsl1 d (rvT (t:=2) (v:=iv 1) S d)) ⟨(),d,S.mem.sel [] [] (by decide) d d⟩)
 refine sCondT S d a7 (sSeq (fun av af=>sRegion (sField (b:=b2) (off:=0) 2 2 S (wN d) d d d d d (lb d) fun a S=>sLoad1 0 (iv p0.A) S (wN d) d d d d d d (lb d) fun a S=>sField (b:=b2) (off:=0) 3 3 S (wN d) d d d d d (lb d) fun a S=>sLoad1 0 (iv p0.B) S (wN d) d d d d d d (lb d) fun a S=>sBin _ S (wN d) d d d (bAdd _ _ _ _ p0.A p0.B) d (lb d) fun a S=>sN S fun a S=>?_)))
 refine lT (af _ _ ?_)
 obtain rfl:=tS h
 exact wp_ret (rBlock (rThen (sRet (iv (w64 (p0.A + p0.B))) S (rsl1 d (rvT (t:=2) (v:=iv (w64 (p0.A + p0.B))) S d)) ⟨(),d,S.mem.sel [] [] (by decide) d d⟩)))
noncomputable def raddleref25_sums_l1 (p0:(List api_Stitch)):(Int × Int × Int)→Option ((Int × Int × Int) ⊕ (Int × Int)):=fun s0=>match s0 with
 | (a5,a6,a0)=>
  if decide (a0 < (p0.length:Int)) then
   (idxO p0 a0).bind fun a7=>
   (F_raddleref25_Used a7).bind fun a8=>
   (F_raddleref25_Gives a7).bind fun a9=>
   some (.inl (w64 (a5 + a8),w64 (a6 + a9),w64 (a0 + 1)))
  else
   some (.inr (a5,a6))
noncomputable def F_raddleref25_sums (p0:(List api_Stitch)):Option (Int × Int):=
 Option.bind (α:=(Int × Int)) (
  (whileO (raddleref25_sums_l1 p0) (0,0,0)).bind fun (a0,a5)=>
   some (a0,a5)) fun (o5,o6)=>
 some (o5,o6)
theorem c_raddleref25_sums (E:Nat→Prop) (w0:World) (p0:(List api_Stitch)) (v0:Value) (r:(Int × Int)) (h:F_raddleref25_sums p0=some r) (S:St0 E [] w0 w0 [] [fRep (rL r_api_Stitch) (v0) p0]) :
 Calls Try.prog 74 #[v0] w0 (Ret (X:=Unit) E [] w0 (fun _=>.tuple #[.int .i64 r.1,.int .i64 r.2]) (fun _=>[]) (fun _=>[])):=by
 unfold F_raddleref25_sums at h
 obtain ⟨a7,a8,_,rfl,_⟩:=S.know (i:=0) (e:=fRep (rL r_api_Stitch) (v0) p0) d
 refine sEnter (args:=[.slice a7 p0.length a8]) 29 Try.func74 d d (by simp) S (fun a S=>?_)
 refine sSeq (fun K3 aw=>sRegion (sN S fun a S=>?_))
 refine sN S fun a S=>?_
 refine lT (aw _ _ (sSeq (fun K4 ax=>sRegion (sN S fun a S=>?_))))
 refine sN S fun a S=>?_
 refine lT (ax _ _ ?_)
 obtain ⟨t7,h,g8⟩:=bS h
 refine sCut (fun a w=>∃ o5,∃ o6,(o5,o6)=t7∧St [] E [] w0 29 a w [(4,iv o5),(5,iv o6)] [] []) ?_ (fun a w hI=>?_)
 rotate_left
 ·obtain ⟨o5,o6,rfl,S⟩:=hI
  have h:=g8
  try dsimp only at h
  refine sSeq (fun aA af=>sRegion (sM S fun a S=>?_))
  refine sM S fun a S=>?_
  refine sN S fun a S=>?_
  refine sN S fun a S=>?_
  refine lT (af _ _ ?_)
  obtain rfl:=tS h
  exact wp_ret (sRet (.tuple #[iv o5,iv o6]) S (rsl2 d (rvT (t:=2) (v:=iv o5) S d) (rvT (t:=3) (v:=iv o6) S d)) ⟨(),d,S.mem.sel [] [] (by decide) d d⟩)
 refine sSeq (fun K9 ay=>sRegion (sN S fun a S=>?_))
 refine lT (ay _ _ (wp_block ?_))
 obtain ⟨aC,hl,az⟩:=bS h
 refine sLoop hl (fun s0 a w=>match s0 with | (a9,aa,a5)=>St [] E [] w0 29 a w [(0,.slice a7 p0.length a8),(4,iv a9),(5,iv aa),(6,iv a5)] [] [fRep (rL r_api_Stitch) (.slice a7 p0.length a8) p0]) (S.fix [] [0] (by decide) d d d) ?_
 clear hl h
 intro s0 a w c0 hI h ag
 obtain ⟨a9,aa,a5⟩:=s0
 unfold raddleref25_sums_l1 at h
 dsimp only at h hI
 have S:=hI
 refine sSeq (fun aG ah=>sSeq (fun aH ai=>sRegion (sM S fun a S=>?_)))
 refine sM S fun a S=>?_
 refine sLen S (wN d) d Try.underlying47 d d (lb d) fun a S=>sBin _ S (wN d) d d d (bLt _ _ _ _ .i64 a5 (p0.length:Int)) d (lb d) fun a S=>lT (ai _ _ ?_)
 rcases iS h with ⟨a6,h⟩ | ⟨a6,h⟩
 rotate_left
 ·refine sCondF S d a6 ?_
  obtain rfl:=tS h
  obtain rfl:=ag _ d
  have h:=az
  try dsimp only at h
  exact wp_exit (xThen (xThen (xHit (leafT (⟨a9,aa,Option.some.inj h,S.fix [] [] (by decide) d d d⟩)))))
 refine sCondT S d a6 (wp_skip (leafT (ah _ _ ?_)))
 refine sSeq (fun aI aj=>wp_block ?_)
 refine sSeq (fun aJ ak=>sRegion (sM S fun a S=>?_))
 refine sM S fun a S=>?_
 refine sM S fun a S=>?_
 obtain ⟨a0,ab,h⟩:=bS h
 obtain ⟨aq,al,S⟩:=pIdx (P:=Try.prog) (r:=r_api_Stitch) (v:=.slice a7 p0.length a8) (xs:=p0) (j:=a5) 47 81 0 S Try.underlying47 d d ab
 refine sIdxV S (wN d) d d d al d (lb d) fun a S=>?_
 obtain ⟨ar,S⟩:=pLoad (r:=r_api_Stitch) (q:=aq) (x:=a0) 0 S d
 obtain rfl:ar=.agg #[.int .u8 a0.Kind,.bool a0.Purl,iv a0.A,iv a0.B]:=S.mem.know (i:=1) (e:=fRep r_api_Stitch (ar) a0) d
 refine sLoadVN (vq:=aq) 0 [.int .u8 a0.Kind,.bool a0.Purl,iv a0.A,iv a0.B] S (wN d) d d d d d d (lb d) fun a S=>?_
 obtain ⟨ac,am,h⟩:=bS h
 have S1:=S.mem
 refine sCq [.agg #[.int .u8 a0.Kind,.bool a0.Purl,iv a0.A,iv a0.B]] (iv ac) S callee92 (S1.quiet [1] d) (fun E1 w1 S1=>c_raddleref25_Used E1 w1 a0 (.agg #[.int .u8 a0.Kind,.bool a0.Purl,iv a0.A,iv a0.B]) ac am S1) fun a w S=>?_
 refine sBin _ S (wN d) d d d (bAdd _ _ _ _ a9 ac) d (lb d) fun a S=>sN S fun a S=>?_
 refine lT (ak _ _ (sRegion (sM S fun a S=>?_)))
 refine sM S fun a S=>?_
 refine sM S fun a S=>?_
 obtain ⟨au,ao,S⟩:=pIdx (P:=Try.prog) (r:=r_api_Stitch) (v:=.slice a7 p0.length a8) (xs:=p0) (j:=a5) 47 81 3 S Try.underlying47 d d ab
 refine sIdxV S (wN d) d d d ao d (lb d) fun a S=>?_
 obtain ⟨av,S⟩:=pLoad (r:=r_api_Stitch) (q:=au) (x:=a0) 0 S d
 obtain rfl:av=.agg #[.int .u8 a0.Kind,.bool a0.Purl,iv a0.A,iv a0.B]:=S.mem.know (i:=1) (e:=fRep r_api_Stitch (av) a0) d
 refine sLoadVN (vq:=au) 0 [.int .u8 a0.Kind,.bool a0.Purl,iv a0.A,iv a0.B] S (wN d) d d d d d d (lb d) fun a S=>?_
 obtain ⟨ae,ap,h⟩:=bS h
 have S1:=S.mem
 refine sCq [.agg #[.int .u8 a0.Kind,.bool a0.Purl,iv a0.A,iv a0.B]] (iv ae) S callee93 (S1.quiet [1] d) (fun E1 w1 S1=>c_raddleref25_Gives E1 w1 a0 (.agg #[.int .u8 a0.Kind,.bool a0.Purl,iv a0.A,iv a0.B]) ae ap S1) fun a w S=>?_
 refine sBin _ S (wN d) d d d (bAdd _ _ _ _ aa ae) d (lb d) fun a S=>sN S fun a S=>?_
 refine leafL (leafB (leafT (aj _ _ ?_)))
 refine sRegion (sM S fun a S=>?_)
 refine sBin _ S (wN d) d d d (bAdd _ _ _ _ a5 1) d (lb d) fun a S=>sN S fun a S=>?_
 exact lT (⟨(w64 (a9 + ac),w64 (aa + ae),w64 (a5 + 1)),(Option.some.inj h).symm,(S.fix [] [6] (by decide) d d d)⟩)
noncomputable def raddleref25_All_l1 (p0:(List api_Stitch)):Int→Option (Int ⊕ (Int ⊕ Unit)):=fun s0=>match s0 with
 | a0=>
  if decide (a0 < (p0.length:Int)) then
   (idxO p0 a0).bind fun a5=>
   (F_raddleref25_Check a5).bind fun a6=>
   if a6 != 0 then
    some (.inr (.inl 8))
   else
    some (.inl (w64 (a0 + 1)))
  else
   some (.inr (.inr ()))
noncomputable def F_raddleref25_All (p0:(List api_Stitch)):Option Int:=
 if decide (200 < (p0.length:Int)) then
  some 4
 else
  Option.bind (α:=Unit ⊕ Int) (
   (whileO (raddleref25_All_l1 p0) 0).bind fun z0=>match z0 with
    | .inl z=>
     some (.inr z)
    | .inr _=>
     some (.inl ())) fun z0=>match z0 with
   | .inl _=>
    (F_raddleref25_sums p0).bind fun a0=>
    Option.bind (α:=Bool) (
     if decide (200 < a0.1) then
      some true
     else
      some (decide (200 < a0.2))) fun a5=>
    if a5 then
     some 4
    else
     some 0
   | .inr z=>
    some z
theorem c_raddleref25_All (E:Nat→Prop) (w0:World) (p0:(List api_Stitch)) (v0:Value) (r:Int) (h:F_raddleref25_All p0=some r) (S:St0 E [] w0 w0 [] [fRep (rL r_api_Stitch) (v0) p0]) :
 Calls Try.prog 38 #[v0] w0 (Ret (X:=Unit) E [] w0 (fun _=>.int .i64 r) (fun _=>[]) (fun _=>[])):=by
 unfold F_raddleref25_All at h
 obtain ⟨a7,a8,_,rfl,_⟩:=S.know (i:=0) (e:=fRep (rL r_api_Stitch) (v0) p0) d
 refine sEnter (args:=[.slice a7 p0.length a8]) 32 Try.func38 d d (by simp) S (fun a S=>?_)
 refine sSeq (fun K3 aG=>sRegion (sN S fun a S=>?_))
 refine lT (aG _ _ (sSeq (fun K4 aH=>sSeq (fun K5 aI=>sRegion (sM S fun a S=>?_)))))
 refine sLen S (wN d) d Try.underlying47 d d (lb d) fun a S=>sBin _ S (wN d) d d d (bGt _ _ _ _ .i64 (p0.length:Int) 200) d (lb d) fun a S=>lT (aI _ _ ?_)
 rcases iS h with ⟨af,h⟩ | ⟨af,h⟩
 ·refine sCondT S d af (sSeq (fun K7 aJ=>sRegion (sN S fun a S=>?_)))
  refine lT (aJ _ _ ?_)
  obtain rfl:=tS h
  exact wp_ret (rThen (sRet (iv 4) S (rsl1 d (rvT (t:=2) (v:=iv 4) S d)) ⟨(),d,S.mem.sel [] [] (by decide) d d⟩))
 refine sCondF S d af (wp_skip (leafT (aH _ _ ?_)))
 obtain ⟨t8,h,g9⟩:=bS h
 refine sCut (fun a w=>.inl ()=t8∧St [] E [] w0 32 a w [(0,.slice a7 p0.length a8)] [] [fRep (rL r_api_Stitch) (.slice a7 p0.length a8) p0]) ?_ (fun a w hI=>?_)
 rotate_left
 ·obtain ⟨rfl,S⟩:=hI
  have h:=g9
  try dsimp only at h
  refine sSeq (fun aM ag=>sRegion (sM S fun a S=>?_))
  obtain ⟨a5,ah,h⟩:=bS h
  have S1:=S.mem
  refine sCq [.slice a7 p0.length a8] (.tuple #[iv a5.1,iv a5.2]) S callee74 (S1.quiet [0] d) (fun E1 w1 S1=>c_raddleref25_sums E1 w1 p0 (.slice a7 p0.length a8) a5 ah S1) fun a w S=>?_
  refine sM S fun a S=>?_
  refine sExtract (vs:=[iv a5.1,iv a5.2]) (iv a5.1) S (wN d) d d d d (lb d) fun a S=>sExtract (vs:=[iv a5.1,iv a5.2]) (iv a5.2) S (wN d) d d d d (lb d) fun a S=>sN S fun a S=>?_
  refine sN S fun a S=>?_
  refine lT (ag _ _ (sSeq (fun aO ai=>?_)))
  obtain ⟨aK,h,aL⟩:=bS h
  refine sCut (fun a w=>∃ aj,aj=aK∧St [] E [] w0 32 a w [(31,.bool aj)] [] []) ?_ (fun a w hI=>?_)
  rotate_left
  ·obtain ⟨aj,rfl,S⟩:=hI
   have h:=aL
   try dsimp only at h
   rcases iS h with ⟨a9,h⟩ | ⟨a9,h⟩
   ·refine sCondT S d a9 (sSeq (fun aP ak=>sRegion (sN S fun a S=>?_)))
    refine lT (ak _ _ ?_)
    obtain rfl:=tS h
    exact wp_ret (rThen (sRet (iv 4) S (rsl1 d (rvT (t:=2) (v:=iv 4) S d)) ⟨(),d,S.mem.sel [] [] (by decide) d d⟩))
   refine sCondF S d a9 (wp_skip (leafT (ai _ _ ?_)))
   refine sSeq (fun aQ al=>sRegion (sN S fun a S=>?_))
   refine lT (al _ _ ?_)
   obtain rfl:=tS h
   exact wp_ret (sRet (iv 0) S (rsl1 d (rvT (t:=2) (v:=iv 0) S d)) ⟨(),d,S.mem.sel [] [] (by decide) d d⟩)
  refine sRegion (sM S fun a S=>?_)
  refine sBin _ S (wN d) d d d (bGt _ _ _ _ .i64 a5.1 200) d (lb d) fun a S=>sM S fun a S=>?_
  rcases iS h with ⟨a6,h⟩ | ⟨a6,h⟩
  ·refine sSkN 2 2 false 28 S d d a6 d fun a S=>sPickT (.bool true) S (wN d) d d a6 d d (lb d) fun a S=>?_
   exact lT (⟨true,Option.some.inj h,S.fix [] [] (by decide) d d d⟩)
  refine sMove (iv a5.2) S (wG 2 false 28 d d d a6) (.inl d) d d (lb d) fun a S=>sBin _ S (wG 2 false 28 d d d a6) d d d (bGt _ _ _ _ .i64 a5.2 200) d (lb d) fun a S=>sPickF (.bool (decide (200 < a5.2))) S (wN d) d d a6 d d (lb d) fun a S=>?_
  exact lT (⟨decide (200 < a5.2),Option.some.inj h,S.fix [] [] (by decide) d d d⟩)
 refine sSeq (fun aR am=>sRegion (sN S fun a S=>?_))
 refine lT (am _ _ (wp_block ?_))
 obtain ⟨aS,hl,az⟩:=bS h
 refine sLoop hl (fun s0 a w=>match s0 with | ac=>St [] E [] w0 32 a w [(0,.slice a7 p0.length a8),(3,iv ac)] [] [fRep (rL r_api_Stitch) (.slice a7 p0.length a8) p0]) (S.fix [] [0] (by decide) d d d) ?_
 clear hl h
 intro ac a w c0 hI h ae
 unfold raddleref25_All_l1 at h
 dsimp only at h hI
 have S:=hI
 refine sSeq (fun aT ao=>sSeq (fun aU ap=>sRegion (sM S fun a S=>?_)))
 refine sM S fun a S=>?_
 refine sLen S (wN d) d Try.underlying47 d d (lb d) fun a S=>sBin _ S (wN d) d d d (bLt _ _ _ _ .i64 ac (p0.length:Int)) d (lb d) fun a S=>lT (ap _ _ ?_)
 rcases iS h with ⟨aa,h⟩ | ⟨aa,h⟩
 rotate_left
 ·refine sCondF S d aa ?_
  obtain rfl:=tS h
  obtain rfl:=ae _ d
  have h:=az
  try dsimp only at h
  exact wp_exit (xThen (xThen (xHit (leafT (⟨Option.some.inj h,S.fix [] [0] (by decide) d d d⟩)))))
 refine sCondT S d aa (wp_skip (leafT (ao _ _ ?_)))
 refine sSeq (fun aV aq=>wp_block ?_)
 refine sSeq (fun aW ar=>sRegion (sM S fun a S=>?_))
 refine sM S fun a S=>?_
 obtain ⟨a0,au,h⟩:=bS h
 obtain ⟨aA,av,S⟩:=pIdx (P:=Try.prog) (r:=r_api_Stitch) (v:=.slice a7 p0.length a8) (xs:=p0) (j:=ac) 47 81 0 S Try.underlying47 d d au
 refine sIdxV S (wN d) d d d av d (lb d) fun a S=>?_
 obtain ⟨aC,S⟩:=pLoad (r:=r_api_Stitch) (q:=aA) (x:=a0) 0 S d
 obtain rfl:aC=.agg #[.int .u8 a0.Kind,.bool a0.Purl,iv a0.A,iv a0.B]:=S.mem.know (i:=1) (e:=fRep r_api_Stitch (aC) a0) d
 refine sLoadVN (vq:=aA) 0 [.int .u8 a0.Kind,.bool a0.Purl,iv a0.A,iv a0.B] S (wN d) d d d d d d (lb d) fun a S=>?_
 obtain ⟨aw,ax,h⟩:=bS h
 have S1:=S.mem
 refine sCq [.agg #[.int .u8 a0.Kind,.bool a0.Purl,iv a0.A,iv a0.B]] (iv aw) S callee73 (S1.quiet [1] d) (fun E1 w1 S1=>c_raddleref25_Check E1 w1 a0 (.agg #[.int .u8 a0.Kind,.bool a0.Purl,iv a0.A,iv a0.B]) aw ax S1) fun a w S=>?_
 refine sBin _ S (wN d) d d d (bNe _ _ _ _ .i64 aw 0) d (lb d) fun a S=>lT (ar _ _ ?_)
 rcases iS h with ⟨ab,h⟩ | ⟨ab,h⟩
 rotate_left
 ·refine sCondF S d ab (wp_skip (leafB (leafT (aq _ _ ?_))))
  refine sRegion (sM S fun a S=>?_)
  refine sBin _ S (wN d) d d d (bAdd _ _ _ _ ac 1) d (lb d) fun a S=>sN S fun a S=>?_
  exact lT (⟨w64 (ac + 1),(Option.some.inj h).symm,(S.fix [] [3] (by decide) d d d)⟩)
 refine sCondT S d ab (sSeq (fun aX ay=>sRegion (sN S fun a S=>?_)))
 refine lT (ay _ _ ?_)
 obtain rfl:=tS h
 obtain rfl:=ae _ d
 have h:=az
 try dsimp only at h
 obtain rfl:=tS h
 have h:=g9
 try dsimp only at h
 obtain rfl:=tS h
 exact wp_ret (rBlock (rThen (rThen (rBlock (rThen (sRet (iv 8) S (rsl1 d (rvT (t:=2) (v:=iv 8) S d)) ⟨(),d,S.mem.sel [] [] (by decide) d d⟩))))))
noncomputable def F_raddleref25_Uses (p0:(List api_Stitch)):Option (Int × Int):=
 (F_raddleref25_All p0).bind fun r6=>
 if r6 != 0 then
  some (0,r6)
 else
  (F_raddleref25_sums p0).bind fun a0=>
  some (a0.1,0)
theorem c_raddleref25_Uses (E:Nat→Prop) (w0:World) (p0:(List api_Stitch)) (v0:Value) (r:(Int × Int)) (h:F_raddleref25_Uses p0=some r) (S:St0 E [] w0 w0 [] [fRep (rL r_api_Stitch) (v0) p0]) :
 Calls Try.prog 75 #[v0] w0 (Ret (X:=Unit) E [] w0 (fun _=>.tuple #[.int .i64 r.1,.int .i64 r.2]) (fun _=>[]) (fun _=>[])):=by
 unfold F_raddleref25_Uses at h
 obtain ⟨a5,a6,_,rfl,_⟩:=S.know (i:=0) (e:=fRep (rL r_api_Stitch) (v0) p0) d
 refine sEnter (args:=[.slice a5 p0.length a6]) 17 Try.func75 d d (by simp) S (fun a S=>?_)
 refine sSeq (fun K3 ac=>sRegion (sN S fun a S=>?_))
 refine sN S fun a S=>?_
 refine lT (ac _ _ (sSeq (fun K4 ae=>sSeq (fun K5 af=>sRegion (sM S fun a S=>?_)))))
 obtain ⟨r6,ab,h⟩:=bS h
 have S1:=S.mem
 refine sCq [.slice a5 p0.length a6] (iv r6) S callee38 (S1.quiet [0] d) (fun E1 w1 S1=>c_raddleref25_All E1 w1 p0 (.slice a5 p0.length a6) r6 ab S1) fun a w S=>?_
 refine sBin _ S (wN d) d d d (bNe _ _ _ _ .i64 r6 0) d (lb d) fun a S=>lT (af _ _ ?_)
 rcases iS h with ⟨a7,h⟩ | ⟨a7,h⟩
 ·refine sCondT S d a7 (sSeq (fun K9 ag=>sRegion (sM S fun a S=>?_)))
  have S1:=S.mem
  refine sCq [.slice a5 p0.length a6] (iv r6) S callee38 (S1.quiet [0] d) (fun E1 w1 S1=>c_raddleref25_All E1 w1 p0 (.slice a5 p0.length a6) r6 ab S1) fun a w S=>?_
  refine sN S fun a S=>?_
  refine sN S fun a S=>?_
  refine lT (ag _ _ ?_)
  obtain rfl:=tS h
  exact wp_ret (rThen (sRet (.tuple #[iv 0,iv r6]) S (rsl2 d (rvT (t:=2) (v:=iv 0) S d) (rvT (t:=3) (v:=iv r6) S d)) ⟨(),d,S.mem.sel [] [] (by decide) d d⟩))
 refine sCondF S d a7 (wp_skip (leafT (ae _ _ ?_)))
 refine sSeq (fun ah a8=>sRegion (sM S fun a S=>?_))
 obtain ⟨a0,a9,h⟩:=bS h
 have S1:=S.mem
 refine sCq [.slice a5 p0.length a6] (.tuple #[iv a0.1,iv a0.2]) S callee74 (S1.quiet [0] d) (fun E1 w1 S1=>c_raddleref25_sums E1 w1 p0 (.slice a5 p0.length a6) a0 a9 S1) fun a w S=>?_
 refine sM S fun a S=>?_
 refine sExtract (vs:=[iv a0.1,iv a0.2]) (iv a0.1) S (wN d) d d d d (lb d) fun a S=>sExtract (vs:=[iv a0.1,iv a0.2]) (iv a0.2) S (wN d) d d d d (lb d) fun a S=>sN S fun a S=>?_
 refine sN S fun a S=>?_
 refine lT (a8 _ _ (sSeq (fun ai aa=>sRegion (sM S fun a S=>?_))))
 refine sN S fun a S=>?_
 refine sN S fun a S=>?_
 refine lT (aa _ _ ?_)
 obtain rfl:=tS h
 exact wp_ret (sRet (.tuple #[iv a0.1,iv 0]) S (rsl2 d (rvT (t:=2) (v:=iv a0.1) S d) (rvT (t:=3) (v:=iv 0) S d)) ⟨(),d,S.mem.sel [] [] (by decide) d d⟩)
noncomputable def F_raddleref25_Makes (p0:(List api_Stitch)):Option (Int × Int):=
 (F_raddleref25_All p0).bind fun r6=>
 if r6 != 0 then
  some (0,r6)
 else
  (F_raddleref25_sums p0).bind fun a0=>
  some (a0.2,0)
theorem c_raddleref25_Makes (E:Nat→Prop) (w0:World) (p0:(List api_Stitch)) (v0:Value) (r:(Int × Int)) (h:F_raddleref25_Makes p0=some r) (S:St0 E [] w0 w0 [] [fRep (rL r_api_Stitch) (v0) p0]) :
 Calls Try.prog 76 #[v0] w0 (Ret (X:=Unit) E [] w0 (fun _=>.tuple #[.int .i64 r.1,.int .i64 r.2]) (fun _=>[]) (fun _=>[])):=by
 unfold F_raddleref25_Makes at h
 obtain ⟨a5,a6,_,rfl,_⟩:=S.know (i:=0) (e:=fRep (rL r_api_Stitch) (v0) p0) d
 refine sEnter (args:=[.slice a5 p0.length a6]) 17 Try.func76 d d (by simp) S (fun a S=>?_)
 refine sSeq (fun K3 ac=>sRegion (sN S fun a S=>?_))
 refine sN S fun a S=>?_
 refine lT (ac _ _ (sSeq (fun K4 ae=>sSeq (fun K5 af=>sRegion (sM S fun a S=>?_)))))
 obtain ⟨r6,ab,h⟩:=bS h
 have S1:=S.mem
 refine sCq [.slice a5 p0.length a6] (iv r6) S callee38 (S1.quiet [0] d) (fun E1 w1 S1=>c_raddleref25_All E1 w1 p0 (.slice a5 p0.length a6) r6 ab S1) fun a w S=>?_
 refine sBin _ S (wN d) d d d (bNe _ _ _ _ .i64 r6 0) d (lb d) fun a S=>lT (af _ _ ?_)
 rcases iS h with ⟨a7,h⟩ | ⟨a7,h⟩
 ·refine sCondT S d a7 (sSeq (fun K9 ag=>sRegion (sM S fun a S=>?_)))
  have S1:=S.mem
  refine sCq [.slice a5 p0.length a6] (iv r6) S callee38 (S1.quiet [0] d) (fun E1 w1 S1=>c_raddleref25_All E1 w1 p0 (.slice a5 p0.length a6) r6 ab S1) fun a w S=>?_
  refine sN S fun a S=>?_
  refine sN S fun a S=>?_
  refine lT (ag _ _ ?_)
  obtain rfl:=tS h
  exact wp_ret (rThen (sRet (.tuple #[iv 0,iv r6]) S (rsl2 d (rvT (t:=2) (v:=iv 0) S d) (rvT (t:=3) (v:=iv r6) S d)) ⟨(),d,S.mem.sel [] [] (by decide) d d⟩))
 refine sCondF S d a7 (wp_skip (leafT (ae _ _ ?_)))
 refine sSeq (fun ah a8=>sRegion (sM S fun a S=>?_))
 obtain ⟨a0,a9,h⟩:=bS h
 have S1:=S.mem
 refine sCq [.slice a5 p0.length a6] (.tuple #[iv a0.1,iv a0.2]) S callee74 (S1.quiet [0] d) (fun E1 w1 S1=>c_raddleref25_sums E1 w1 p0 (.slice a5 p0.length a6) a0 a9 S1) fun a w S=>?_
 refine sM S fun a S=>?_
 refine sExtract (vs:=[iv a0.1,iv a0.2]) (iv a0.1) S (wN d) d d d d (lb d) fun a S=>sExtract (vs:=[iv a0.1,iv a0.2]) (iv a0.2) S (wN d) d d d d (lb d) fun a S=>sN S fun a S=>?_
 refine sN S fun a S=>?_
 refine lT (a8 _ _ (sSeq (fun ai aa=>sRegion (sM S fun a S=>?_))))
 refine sN S fun a S=>?_
 refine sN S fun a S=>?_
 refine lT (aa _ _ ?_)
 obtain rfl:=tS h
 exact wp_ret (sRet (.tuple #[iv a0.2,iv 0]) S (rsl2 d (rvT (t:=2) (v:=iv a0.2) S d) (rvT (t:=3) (v:=iv 0) S d)) ⟨(),d,S.mem.sel [] [] (by decide) d d⟩)
noncomputable def raddleref26_Check_l1 (p0:api_Chart):(Int × Int)→Option ((Int × Int) ⊕ (Int ⊕ Unit)):=fun s0=>match s0 with
 | (a7,a0)=>
  if decide (a0 < (p0.Rows.length:Int)) then
   (idxO p0.Rows a0).bind fun a6=>
   (F_raddleref25_Uses a6.Cells).bind fun a5=>
   if a5.2 != 0 then
    some (.inr (.inl a5.2))
   else
    if a5.1 != a7 then
     some (.inr (.inl 26))
    else
     (F_raddleref25_Makes a6.Cells).bind fun a8=>
     some (.inl (a8.1,w64 (a0 + 1)))
  else
   some (.inr (.inr ()))
noncomputable def F_raddleref26_Check (p0:api_Chart):Option Int:=
 if decide (100 < (p0.Rows.length:Int)) then
  some 4
 else
  Option.bind (α:=Bool) (
   if decide (p0.Start < 0) then
    some true
   else
    some (decide (200 < p0.Start))) fun a0=>
  if a0 then
   some 8
  else
   Option.bind (α:=Unit ⊕ Int) (
    (whileO (raddleref26_Check_l1 p0) (p0.Start,0)).bind fun z0=>match z0 with
     | .inl z=>
      some (.inr z)
     | .inr _=>
      some (.inl ())) fun z0=>match z0 with
    | .inl _=>
     some 0
    | .inr z=>
     some z
theorem c_raddleref26_Check (E:Nat→Prop) (w0:World) (p0:api_Chart) (v0:Value) (r:Int) (h:F_raddleref26_Check p0=some r) (S:St0 E [] w0 w0 [] [fRep r_api_Chart (v0) p0]) :
 Calls Try.prog 39 #[v0] w0 (Ret (X:=Unit) E [] w0 (fun _=>.int .i64 r) (fun _=>[]) (fun _=>[])):=by
 unfold F_raddleref26_Check at h
 obtain ⟨u1,rfl,aV⟩:=S.know (i:=0) (e:=fRep r_api_Chart (v0) p0) d
 have S:=S.learn (fRep (rL r_api_Row) u1 p0.Rows) aV
 obtain ⟨a6,a7,_,rfl,_⟩:=aV
 refine sEnter (args:=[.agg #[iv p0.Start,.slice a6 p0.Rows.length a7]]) 54 Try.func39 d d (by simp) S (fun a S=>?_)
 refine sSeq (fun K5 bb=>sRegion (sBox (v:=.agg #[iv p0.Start,.slice a6 p0.Rows.length a7]) S (wN d) d d [iv p0.Start,.slice a6 p0.Rows.length a7] d d (lb d) fun a b6 w S=>sN S fun a S=>?_))
 refine lT (bb _ _ (sSeq (fun K7 bc=>sSeq (fun K8 bf=>sRegion (sField (b:=b6) (off:=0) 1 1 S (wN d) d d d d d (lb d) fun a S=>sLoad1 0 (.slice a6 p0.Rows.length a7) S (wN d) d d d d d d (lb d) fun a S=>sLen S (wN d) d Try.underlying40 d d (lb d) fun a S=>sBin _ S (wN d) d d d (bGt _ _ _ _ .i64 (p0.Rows.length:Int) 100) d (lb d) fun a S=>lT (bf _ _ ?_))))))
 rcases iS h with ⟨am,h⟩ | ⟨am,h⟩
 ·refine sCondT S d am (sSeq (fun bl ao=>sRegion (sN S fun a S=>?_)))
  refine lT (ao _ _ ?_)
  obtain rfl:=tS h
  exact wp_ret (rThen (sRet (iv 4) S (rsl1 d (rvT (t:=2) (v:=iv 4) S d)) ⟨(),d,S.mem.sel [] [] (by decide) d d⟩))
 refine sCondF S d am (wp_skip (leafT (bc _ _ ?_)))
 refine sSeq (fun bm ap=>?_)
 obtain ⟨bg,h,bh⟩:=bS h
 refine sCut (fun a w=>∃ aq,aq=bg∧St [] E [] w0 54 a w [(1,.pointer (some ⟨b6,0,none⟩)),(18,.bool aq)] [eBox b6 42 [iv p0.Start,.slice a6 p0.Rows.length a7]] [fRep (rL r_api_Row) (.slice a6 p0.Rows.length a7) p0.Rows]) ?_ (fun a w hI=>?_)
 ·refine sRegion (sField (b:=b6) (off:=0) 0 0 S (wN d) d d d d d (lb d) fun a S=>sLoad1 0 (iv p0.Start) S (wN d) d d d d d d (lb d) fun a S=>sBin _ S (wN d) d d d (bLt _ _ _ _ .i64 p0.Start 0) d (lb d) fun a S=>sM S fun a S=>?_)
  rcases iS h with ⟨a0,h⟩ | ⟨a0,h⟩
  ·refine sSkN 3 3 false 14 S d d a0 d fun a S=>sPickT (.bool true) S (wN d) d d a0 d d (lb d) fun a S=>?_
   exact lT (⟨true,Option.some.inj h,S.fix [0] [0] (by decide) d d d⟩)
  refine sField (b:=b6) (off:=0) 0 0 S (wG 3 false 14 d d d a0) d d d d d (lb d) fun a S=>sLoad1 0 (iv p0.Start) S (wG 3 false 14 d d d a0) d d d d d d (lb d) fun a S=>sBin _ S (wG 3 false 14 d d d a0) d d d (bGt _ _ _ _ .i64 p0.Start 200) d (lb d) fun a S=>sPickF (.bool (decide (200 < p0.Start))) S (wN d) d d a0 d d (lb d) fun a S=>?_
  exact lT (⟨decide (200 < p0.Start),Option.some.inj h,S.fix [0] [0] (by decide) d d d⟩)
 obtain ⟨aq,rfl,S⟩:=hI
 have h:=bh
 try dsimp only at h
 rcases iS h with ⟨aa,h⟩ | ⟨aa,h⟩
 ·refine sCondT S d aa (sSeq (fun bo ar=>sRegion (sN S fun a S=>?_)))
  refine lT (ar _ _ ?_)
  obtain rfl:=tS h
  exact wp_ret (rThen (sRet (iv 8) S (rsl1 d (rvT (t:=2) (v:=iv 8) S d)) ⟨(),d,S.mem.sel [] [] (by decide) d d⟩))
 refine sCondF S d aa (wp_skip (leafT (ap _ _ ?_)))
 refine sSeq (fun bp au=>sRegion (sField (b:=b6) (off:=0) 0 0 S (wN d) d d d d d (lb d) fun a S=>sLoad1 0 (iv p0.Start) S (wN d) d d d d d d (lb d) fun a S=>sN S fun a S=>?_))
 refine lT (au _ _ ?_)
 obtain ⟨bi,h,av⟩:=bS h
 refine sCut (fun a w=>.inl ()=bi∧St [] E [] w0 54 a w [] [] []) ?_ (fun a w hI=>?_)
 rotate_left
 ·obtain ⟨rfl,S⟩:=hI
  have h:=av
  try dsimp only at h
  refine sSeq (fun bq aw=>sRegion (sN S fun a S=>?_))
  refine lT (aw _ _ ?_)
  obtain rfl:=tS h
  exact wp_ret (sRet (iv 0) S (rsl1 d (rvT (t:=2) (v:=iv 0) S d)) ⟨(),d,S.mem.sel [] [] (by decide) d d⟩)
 refine sSeq (fun br ax=>sRegion (sN S fun a S=>?_))
 refine lT (ax _ _ (wp_block ?_))
 obtain ⟨bu,hl,ay⟩:=bS h
 refine sLoop hl (fun s0 a w=>match s0 with | (az,ab)=>St [] E [] w0 54 a w [(1,.pointer (some ⟨b6,0,none⟩)),(3,iv az),(4,iv ab)] [eBox b6 42 [iv p0.Start,.slice a6 p0.Rows.length a7]] [fRep (rL r_api_Row) (.slice a6 p0.Rows.length a7) p0.Rows]) (S.fix [0] [0] (by decide) d d d) ?_
 clear hl h
 intro s0 a w c0 hI h ac
 obtain ⟨az,ab⟩:=s0
 unfold raddleref26_Check_l1 at h
 dsimp only at h hI
 have S:=hI
 refine sSeq (fun bv aA=>sSeq (fun bw aC=>sRegion (sM S fun a S=>?_)))
 refine sField (b:=b6) (off:=0) 1 1 S (wN d) d d d d d (lb d) fun a S=>sLoad1 0 (.slice a6 p0.Rows.length a7) S (wN d) d d d d d d (lb d) fun a S=>sLen S (wN d) d Try.underlying40 d d (lb d) fun a S=>sBin _ S (wN d) d d d (bLt _ _ _ _ .i64 ab (p0.Rows.length:Int)) d (lb d) fun a S=>lT (aC _ _ ?_)
 rcases iS h with ⟨ae,h⟩ | ⟨ae,h⟩
 rotate_left
 ·refine sCondF S d ae ?_
  obtain rfl:=tS h
  obtain rfl:=ac _ d
  have h:=ay
  try dsimp only at h
  exact wp_exit (xThen (xThen (xHit (leafT (⟨Option.some.inj h,S.fix [] [] (by decide) d d d⟩)))))
 refine sCondT S d ae (wp_skip (leafT (aA _ _ ?_)))
 refine sSeq (fun bx aG=>wp_block ?_)
 refine sSeq (fun bz aH=>sRegion (sField (b:=b6) (off:=0) 1 1 S (wN d) d d d d d (lb d) fun a S=>sLoad1 0 (.slice a6 p0.Rows.length a7) S (wN d) d d d d d d (lb d) fun a S=>sM S fun a S=>?_))
 obtain ⟨a5,al,h⟩:=bS h
 obtain ⟨aW,aI,S⟩:=pIdx (P:=Try.prog) (r:=r_api_Row) (v:=.slice a6 p0.Rows.length a7) (xs:=p0.Rows) (j:=ab) 40 87 0 S Try.underlying40 d d al
 refine sIdxV S (wN d) d d d aI d (lb d) fun a S=>?_
 obtain ⟨aX,aJ,S⟩:=pFld (P:=Try.prog) (r:=r_api_Row) (s2:=(rL r_api_Stitch)) (g:=(·.Cells)) (q:=aW) (z:=a5) 87 1 0 1 S d d comp_api_Row_Cells
 refine sFldV (q:=aW) S (wN d) d d aJ d (lb d) fun a S=>?_
 obtain ⟨bj,S⟩:=pLoad (r:=(rL r_api_Stitch)) (q:=aX) (x:=a5.Cells) 0 S d
 obtain ⟨af,ag,_,rfl,_⟩:=S.mem.know (i:=1) (e:=fRep (rL r_api_Stitch) (bj) a5.Cells) d
 refine sLoadV1 (vq:=aX) 0 (.slice af a5.Cells.length ag) S (wN d) d d d d d (lb d) fun a S=>?_
 obtain ⟨a8,aK,h⟩:=bS h
 have S1:=S.mem
 refine sCq [.slice af a5.Cells.length ag] (.tuple #[iv a8.1,iv a8.2]) S callee75 (S1.quiet [1] d) (fun E1 w1 S1=>c_raddleref25_Uses E1 w1 a5.Cells (.slice af a5.Cells.length ag) a8 aK S1) fun a w S=>?_
 refine sM S fun a S=>?_
 refine sExtract (vs:=[iv a8.1,iv a8.2]) (iv a8.1) S (wN d) d d d d (lb d) fun a S=>sExtract (vs:=[iv a8.1,iv a8.2]) (iv a8.2) S (wN d) d d d d (lb d) fun a S=>sN S fun a S=>?_
 refine sN S fun a S=>?_
 refine lT (aH _ _ (sSeq (fun bA aL=>sSeq (fun bB aM=>sRegion (sM S fun a S=>?_)))))
 refine sBin _ S (wN d) d d d (bNe _ _ _ _ .i64 a8.2 0) d (lb d) fun a S=>lT (aM _ _ ?_)
 rcases iS h with ⟨ah,h⟩ | ⟨ah,h⟩
 ·refine sCondT S d ah (sSeq (fun bC aO=>sRegion (sM S fun a S=>?_)))
  refine sN S fun a S=>?_
  refine lT (aO _ _ ?_)
  obtain rfl:=tS h
  obtain rfl:=ac _ d
  have h:=ay
  try dsimp only at h
  obtain rfl:=tS h
  have h:=av
  try dsimp only at h
  obtain rfl:=tS h
  exact wp_ret (rThen (rBlock (rThen (rThen (rBlock (rThen (sRet (iv a8.2) S (rsl1 d (rvT (t:=2) (v:=iv a8.2) S d)) ⟨(),d,S.mem.sel [] [] (by decide) d d⟩)))))))
 refine sCondF S d ah (wp_skip (leafT (aL _ _ ?_)))
 refine sSeq (fun bD aP=>sSeq (fun bE aQ=>sRegion (sM S fun a S=>?_)))
 refine sM S fun a S=>?_
 refine sBin _ S (wN d) d d d (bNe _ _ _ _ .i64 a8.1 az) d (lb d) fun a S=>lT (aQ _ _ ?_)
 rcases iS h with ⟨ai,h⟩ | ⟨ai,h⟩
 ·refine sCondT S d ai (sSeq (fun bG aR=>sRegion (sN S fun a S=>?_)))
  refine lT (aR _ _ ?_)
  obtain rfl:=tS h
  obtain rfl:=ac _ d
  have h:=ay
  try dsimp only at h
  obtain rfl:=tS h
  have h:=av
  try dsimp only at h
  obtain rfl:=tS h
  exact wp_ret (rThen (rBlock (rThen (rThen (rBlock (rThen (sRet (iv 26) S (rsl1 d (rvT (t:=2) (v:=iv 26) S d)) ⟨(),d,S.mem.sel [] [] (by decide) d d⟩)))))))
 refine sCondF S d ai (wp_skip (leafT (aP _ _ ?_)))
 refine sRegion (sField (b:=b6) (off:=0) 1 1 S (wN d) d d d d d (lb d) fun a S=>sLoad1 0 (.slice a6 p0.Rows.length a7) S (wN d) d d d d d d (lb d) fun a S=>sM S fun a S=>?_)
 obtain ⟨aZ,aS,S⟩:=pIdx (P:=Try.prog) (r:=r_api_Row) (v:=.slice a6 p0.Rows.length a7) (xs:=p0.Rows) (j:=ab) 40 87 4 S Try.underlying40 d d al
 refine sIdxV S (wN d) d d d aS d (lb d) fun a S=>?_
 obtain ⟨ba,aT,S⟩:=pFld (P:=Try.prog) (r:=r_api_Row) (s2:=(rL r_api_Stitch)) (g:=(·.Cells)) (q:=aZ) (z:=a5) 87 1 0 1 S d d comp_api_Row_Cells
 refine sFldV (q:=aZ) S (wN d) d d aT d (lb d) fun a S=>?_
 obtain ⟨bk,S⟩:=pLoad (r:=(rL r_api_Stitch)) (q:=ba) (x:=a5.Cells) 0 S d
 obtain ⟨aj,ak,_,rfl,_⟩:=S.mem.know (i:=1) (e:=fRep (rL r_api_Stitch) (bk) a5.Cells) d
 refine sLoadV1 (vq:=ba) 0 (.slice aj a5.Cells.length ak) S (wN d) d d d d d (lb d) fun a S=>?_
 obtain ⟨a9,aU,h⟩:=bS h
 have S1:=S.mem
 refine sCq [.slice aj a5.Cells.length ak] (.tuple #[iv a9.1,iv a9.2]) S callee76 (S1.quiet [1] d) (fun E1 w1 S1=>c_raddleref25_Makes E1 w1 a5.Cells (.slice aj a5.Cells.length ak) a9 aU S1) fun a w S=>?_
 refine sM S fun a S=>?_
 refine sExtract (vs:=[iv a9.1,iv a9.2]) (iv a9.1) S (wN d) d d d d (lb d) fun a S=>sExtract (vs:=[iv a9.1,iv a9.2]) (iv a9.2) S (wN d) d d d d (lb d) fun a S=>sN S fun a S=>?_
 refine leafL (leafB (leafT (aG _ _ ?_)))
 refine sRegion (sM S fun a S=>?_)
 refine sBin _ S (wN d) d d d (bAdd _ _ _ _ ab 1) d (lb d) fun a S=>sN S fun a S=>?_
 exact lT (⟨(a9.1,w64 (ab + 1)),(Option.some.inj h).symm,(S.fix [0] [8] (by decide) d d d)⟩)
noncomputable def F_raddleref01_Zero_s0 (p0:Int) (p1:Int):Option api_Grid:=
 (makeO (w64 (p0 * p1)) false).bind fun m6=>
 some (api_Grid.mk p0 p1 m6)
theorem c_raddleref01_Zero_s0 (E:Nat→Prop) (w0:World) (p0:Int) (p1:Int) (r:api_Grid) (h:F_raddleref01_Zero_s0 p0 p1=some r) (S:St0 E [] w0 w0 [] []) :
 Calls Try.prog 66 #[iv p0,iv p1] w0 (Ret (X:=Option Addr × Nat) E [] w0 (fun x=>.agg #[iv r.W,iv r.H,.slice x.1 r.Bits.length x.2]) (fun x=>[eRow rB 4 (.slice x.1 r.Bits.length x.2) r.Bits]) (fun _=>[])):=by
 unfold F_raddleref01_Zero_s0 at h
 refine sEnter (args:=[iv p0,iv p1]) 12 Try.func66 d d (by simp) S (fun a S=>?_)
 refine sSeq (fun K1 a6=>sRegion (sAlloc (.agg #[iv 0,iv 0,.slice none 0 0]) S (wN d) d d [iv 0,iv 0,.slice none 0 0] d d (lb d) fun a b2 w S=>lT (a6 _ _ (sSeq (fun K3 a7=>sRegion (sM S fun a S=>?_))))))
 refine sM S fun a S=>?_
 refine sM S fun a S=>?_
 refine sM S fun a S=>?_
 refine sBin _ S (wN d) d d d (bMul _ _ _ _ p0 p1) d (lb d) fun a S=>?_
 obtain ⟨m6,a8,h⟩:=bS h
 refine sMake (r:=rB) (m:=w64 (p0 * p1)) (xs:=m6) (.bool false) false 1 S (wN d) d Try.underlying22 d d (by decide) (fun _ _=>d) d d a8 d (lb d) fun a w a0 a5 S=>sBuild [(0,iv p0),(1,iv p1),(2,.slice a0 m6.length a5)] [iv p0,iv p1,.slice a0 m6.length a5] S (wN d) d d d d (lb d) fun a S=>sStore (p:=b2) (off:=0) (T:=24) (vs:=[iv 0,iv 0,.slice none 0 0]) (v:=.agg #[iv p0,iv p1,.slice a0 m6.length a5]) 1 [iv p0,iv p1,.slice a0 m6.length a5] S (wN d) d d d d d d d (by simp) d fun a w S=>lT (a7 _ _ ?_)
 obtain rfl:=tS h
 exact wp_ret (sRet (.agg #[iv p0,iv p1,.slice a0 m6.length a5]) S (rsl1 d (rvN (c:=4) (t:=24) (T:=24) (p:=b2) 0 [iv p0,iv p1,.slice a0 m6.length a5] S d d d d)) ⟨(a0,a5),d,S.mem.sel [1] [] (by decide) d d⟩)
noncomputable def F_raddleref01_Set_s0 (p0:Int) (p1:Int) (p2:(List Bool)) (p3:Int) (p4:Int) (p5:Bool):Option (List Bool):=
 (idxO p2 (w64 ((w64 (p4 * p0)) + p3))).bind fun x3=>
 (setO p2 (w64 ((w64 (p4 * p0)) + p3)) p5).bind fun l8=>
 (keepO p2 l8).bind fun _=>
 some l8
theorem c_raddleref01_Set_s0 (E:Nat→Prop) (w0:World) (p0:Int) (p1:Int) (p2:(List Bool)) (ad_2:Option Addr) (cp_2:Nat) (p3:Int) (p4:Int) (p5:Bool) (r:(List Bool)) (h:F_raddleref01_Set_s0 p0 p1 p2 p3 p4 p5=some r) (S:St0 E (keysL [eRow rB 4 (.slice ad_2 p2.length cp_2) p2]) w0 w0 [eRow rB 4 (.slice ad_2 p2.length cp_2) p2] []) :
 Calls Try.prog 67 #[.agg #[iv p0,iv p1,.slice ad_2 p2.length cp_2],iv p3,iv p4,.bool p5] w0 (Ret (X:=Unit) E (keysL [eRow rB 4 (.slice ad_2 p2.length cp_2) p2]) w0 (fun _=>.tuple #[]) (fun _=>[eRow rB 4 (.slice ad_2 p2.length cp_2) r]) (fun _=>[])):=by
 unfold F_raddleref01_Set_s0 at h
 refine sEnter (args:=[.agg #[iv p0,iv p1,.slice ad_2 p2.length cp_2],iv p3,iv p4,.bool p5]) 18 Try.func67 d d (by simp) S (fun a S=>?_)
 refine sSeq (fun K1 a6=>sRegion (sBox (v:=.agg #[iv p0,iv p1,.slice ad_2 p2.length cp_2]) S (wN d) d d [iv p0,iv p1,.slice ad_2 p2.length cp_2] d d (lb d) fun a b2 w S=>lT (a6 _ _ (sRegion (sField (b:=b2) (off:=0) 2 2 S (wN d) d d d d d (lb d) fun a S=>sLoad1 0 (.slice ad_2 p2.length cp_2) S (wN d) d d d d d d (lb d) fun a S=>sM S fun a S=>?_)))))
 refine sField (b:=b2) (off:=0) 0 0 S (wN d) d d d d d (lb d) fun a S=>sLoad1 0 (iv p0) S (wN d) d d d d d d (lb d) fun a S=>sBin _ S (wN d) d d d (bMul _ _ _ _ p4 p0) d (lb d) fun a S=>sM S fun a S=>?_
 refine sBin _ S (wN d) d d d (bAdd _ _ _ _ (w64 (p4 * p0)) p3) d (lb d) fun a S=>sM S fun a S=>?_
 obtain ⟨x3,a7,h⟩:=bS h
 obtain ⟨q5,a8,a9⟩:=pIdxR (P:=Try.prog) (r:=rB) (T:=4) (v:=.slice ad_2 p2.length cp_2) (xs:=p2) (j:=w64 ((w64 (p4 * p0)) + p3)) 22 4 1 S Try.underlying22 d d a7
 refine sIdxV S (wN d) d d d a8 d (lb d) fun a S=>?_
 obtain ⟨l8,a5,h⟩:=bS h
 refine sStoreR (r:=rB) (T:=4) (xs:=p2) (ys:=l8) (y:=p5) (v:=.slice ad_2 p2.length cp_2) (vq:=q5) (u:=.bool p5) (j:=w64 ((w64 (p4 * p0)) + p3)) 1 S a9 (wN d) d d d d d a5 d d fun a w S=>?_
 rw [setO_v a5 ad_2 cp_2] at S
 obtain ⟨_,a0,h⟩:=bS h
 rw [keepO_v a0 ad_2 cp_2] at S
 obtain rfl:=tS h
 exact leafL (sEnd (.tuple #[]) S (rsl0 d ) ⟨(),d,S.mem.sel [0] [] (by decide) d d⟩)
def anc_raddleref01_Parse_0:List (List Nat):=[[],[],[1],[0,1,2],[],[4],[4,5],[],[],[8],[7,8,9],[4,5,6,7,8,9,10],[0,1,2,3],[0,1,2,3,4,5,6,7,8,9,10,11,12]]
noncomputable def raddleref01_Parse_l1 (p0:ByteArray):Int→Option (Int ⊕ Int):=fun s0=>match s0 with
 | s7=>
  Option.bind (α:=Bool) (
   if decide (s7 < (p0.size:Int)) then
    (idxS p0 s7).bind fun a0=>
    some (a0 != 10)
   else
    some false) fun a5=>
  if a5 then
   some (.inl (w64 (s7 + 1)))
  else
   some (.inr s7)
noncomputable def raddleref01_Parse_l2 (p0:ByteArray) (o4:Int) (a6:api_Grid):(Int × List Bool)→Option ((Int × List Bool) ⊕ ((api_Grid × Int) ⊕ (List Bool))):=fun s0=>match s0 with
 | (a0,a7)=>
  if decide (a0 < (p0.size:Int)) then
   Option.bind (α:=List Bool ⊕ (api_Grid × Int)) (
    (remI a0 (w64 (o4 + 1))).bind fun a8=>
    (quoI a0 (w64 (o4 + 1))).bind fun a9=>
    Option.bind (α:=Bool) (
     (idxS p0 a0).bind fun a5=>
     if (a5 == 10) != (a8 == o4) then
      some true
     else
      if a5 != 10 then
       if a5 != 120 then
        some (a5 != 46)
       else
        some false
      else
       some false) fun aa=>
    if aa then
     some (.inr ((api_Grid.mk 0 0 ([]:(List Bool))),12))
    else
     (idxS p0 a0).bind fun ab=>
     if ab == 120 then
      (F_raddleref01_Set_s0 a6.W a6.H a7 a8 (w64 ((w64 (a6.H - 1)) - a9)) true).bind fun ac=>
      some (.inl ac)
     else
      some (.inl a7)) fun z0=>match z0 with
    | .inl ae=>
     some (.inl (w64 (a0 + 1),ae))
    | .inr z=>
     some (.inr (.inl z))
  else
   some (.inr (.inr a7))
noncomputable def F_raddleref01_Parse (p0:ByteArray):Option (api_Grid × Int):=
 Option.bind (α:=Int) (
  (whileO (raddleref01_Parse_l1 p0) 0).bind fun a5=>
   some a5) fun o4=>
 Option.bind (α:=Bool) (
  if decide (o4 < 1) then
   some true
  else
   if decide (64 < o4) then
    some true
   else
    (remI (p0.size:Int) (w64 (o4 + 1))).bind fun a6=>
    if a6 != 0 then
     some true
    else
     (quoI (p0.size:Int) (w64 (o4 + 1))).bind fun a7=>
     some (decide (64 < a7))) fun a8=>
 if a8 then
  some ((api_Grid.mk 0 0 ([]:(List Bool))),12)
 else
  (quoI (p0.size:Int) (w64 (o4 + 1))).bind fun a9=>
  (F_raddleref01_Zero_s0 o4 a9).bind fun a0=>
  Option.bind (α:=List Bool ⊕ (api_Grid × Int)) (
   (whileO (raddleref01_Parse_l2 p0 o4 a0) (0,a0.Bits)).bind fun z0=>match z0 with
    | .inl z=>
     some (.inr z)
    | .inr aa=>
     some (.inl aa)) fun z0=>match z0 with
   | .inl ab=>
    some ((api_Grid.mk a0.W a0.H ab),0)
   | .inr z=>
    some z
def c_raddleref01_Parse_val (r:(api_Grid × Int)) (x:Value):Value:=.tuple #[x,.int .i64 r.2]
def c_raddleref01_Parse_D (r:(api_Grid × Int)) (x:Value):List Fact:=[fRep r_api_Grid x r.1]
theorem c_raddleref01_Parse (E:Nat→Prop) (w0:World) (p0:ByteArray) (r:(api_Grid × Int)) (h:F_raddleref01_Parse p0=some r) (S:St0 E [] w0 w0 [] []) :
 Calls Try.prog 77 #[.string p0] w0 (Ret (X:=Value) E [] w0 (c_raddleref01_Parse_val r) (fun _=>[]) (c_raddleref01_Parse_D r)):=by
 unfold F_raddleref01_Parse at h
 refine sEnter (args:=[.string p0]) 105 Try.func77 d d (by simp) S (fun a S=>?_)
 refine sSeq (fun K1 bm=>sRegion (sAlloc (.agg #[iv 0,iv 0,.slice none 0 0]) S (wN d) d d [iv 0,iv 0,.slice none 0 0] d d (lb d) fun a b2 w S=>sN S fun a S=>?_))
 refine lT (bm _ _ (sSeq (fun K3 bo=>sRegion (sN S fun a S=>?_))))
 refine lT (bo _ _ ?_)
 obtain ⟨t5,h,g6⟩:=bS h
 refine sCut (fun a w=>∃ o4,o4=t5∧St [] E [] w0 105 a w [(0,.string p0),(2,.pointer (some ⟨b2,0,none⟩)),(4,iv o4)] [eBox b2 24 [iv 0,iv 0,.slice none 0 0]] []) ?_ (fun a w hI=>?_)
 ·refine wp_block ?_
  obtain ⟨bC,hl,g9⟩:=bS h
  refine sLoop hl (fun s0 a w=>match s0 with | s7=>St [] E [] w0 105 a w [(0,.string p0),(2,.pointer (some ⟨b2,0,none⟩)),(4,iv s7)] [eBox b2 24 [iv 0,iv 0,.slice none 0 0]] []) (S.fix [0] [] (by decide) d d d) ?_
  clear hl h
  intro s7 a w c0 hI h bp
  unfold raddleref01_Parse_l1 at h
  dsimp only at h hI
  have S:=hI
  refine sSeq (fun bD ay=>?_)
  obtain ⟨bq,h,br⟩:=bS h
  refine sCut (fun a w=>∃ az,az=bq∧St [] E [] w0 105 a w [(0,.string p0),(2,.pointer (some ⟨b2,0,none⟩)),(4,iv s7),(18,.bool az)] [eBox b2 24 [iv 0,iv 0,.slice none 0 0]] []) ?_ (fun a w hI=>?_)
  rotate_left
  ·obtain ⟨az,rfl,S⟩:=hI
   have h:=br
   try dsimp only at h
   rcases iS h with ⟨ao,h⟩ | ⟨ao,h⟩
   rotate_left
   ·refine sCondF S d ao ?_
    obtain rfl:=tS h
    obtain rfl:=bp _ d
    have h:=g9
    try dsimp only at h
    exact wp_exit (xThen (xThen (xHit (leafT (⟨s7,Option.some.inj h,S.fix [0] [] (by decide) d d d⟩)))))
   refine sCondT S d ao (wp_skip (leafT (ay _ _ ?_)))
   refine wp_block ?_
   refine sRegion (sM S fun a S=>?_)
   refine sBin _ S (wN d) d d d (bAdd _ _ _ _ s7 1) d (lb d) fun a S=>sN S fun a S=>?_
   exact leafL (leafB (leafT (⟨w64 (s7 + 1),(Option.some.inj h).symm,(S.fix [0] [] (by decide) d d d)⟩)))
  refine sRegion (sM S fun a S=>?_)
  refine sM S fun a S=>?_
  refine sLenS (v:=p0) S (wN d) d Try.underlying9 d d (lb d) fun a S=>sBin _ S (wN d) d d d (bLt _ _ _ _ .i64 s7 (p0.size:Int)) d (lb d) fun a S=>sM S fun a S=>?_
  rcases iS h with ⟨ae,h⟩ | ⟨ae,h⟩
  rotate_left
  ·refine sSkN 4 4 true 13 S d d ae d fun a S=>sPickF (.bool false) S (wN d) d d ae d d (lb d) fun a S=>?_
   exact lT (⟨false,Option.some.inj h,S.fix [0] [] (by decide) d d d⟩)
  refine sMove (.string p0) S (wG 4 true 13 d d d ae) (.inl d) d d (lb d) fun a S=>sMove (iv s7) S (wG 4 true 13 d d d ae) (.inl d) d d (lb d) fun a S=>?_
  obtain ⟨aA,aC,h⟩:=bS h
  refine sIndexS (v:=p0) (j:=s7) (k:=.i64) S (wG 4 true 13 d d d ae) d Try.underlying9 d d aC d (lb d) fun a S=>sBin _ S (wG 4 true 13 d d d ae) d d d (bNe _ _ _ _ .u8 aA 10) d (lb d) fun a S=>sPickT (.bool (aA != 10)) S (wN d) d d ae d d (lb d) fun a S=>?_
  exact lT (⟨aA != 10,Option.some.inj h,S.fix [0] [] (by decide) d d d⟩)
 obtain ⟨o4,rfl,S⟩:=hI
 have h:=g6
 try dsimp only at h
 refine sSeq (fun bE aG=>?_)
 obtain ⟨bu,h,bv⟩:=bS h
 refine sCut (fun a w=>∃ aH,aH=bu∧St [] E [] w0 105 a w [(0,.string p0),(2,.pointer (some ⟨b2,0,none⟩)),(4,iv o4),(42,.bool aH)] [eBox b2 24 [iv 0,iv 0,.slice none 0 0]] []) ?_ (fun a w hI=>?_)
 ·refine sRegion (sM S fun a S=>?_)
  refine sBin _ S (wN d) d d d (bLt _ _ _ _ .i64 o4 1) d (lb d) fun a S=>sM S fun a S=>?_
  rcases iS h with ⟨ai,h⟩ | ⟨ai,h⟩
  ·refine sSkN 2 2 false 23 S d d ai d fun a S=>sPickT (.bool true) S (wN d) d d ai d d (lb d) fun a S=>sM S fun a S=>?_
   refine sSkN 6 6 false 27 S d d d d fun a S=>sPickT (.bool true) S (wN d) d d d d d (lb d) fun a S=>sM S fun a S=>?_
   refine sSkN 6 14 false 35 S d d d d fun a S=>sPickT (.bool true) S (wN d) d d d d d (lb d) fun a S=>?_
   exact lT (⟨true,Option.some.inj h,S.fix [0] [] (by decide) d d d⟩)
  refine sMove (iv o4) S (wG 2 false 23 d d d ai) (.inl d) d d (lb d) fun a S=>sBin _ S (wG 2 false 23 d d d ai) d d d (bGt _ _ _ _ .i64 o4 64) d (lb d) fun a S=>sPickF (.bool (decide (64 < o4))) S (wN d) d d ai d d (lb d) fun a S=>sM S fun a S=>?_
  rcases iS h with ⟨a8,h⟩ | ⟨a8,h⟩
  ·refine sSkN 6 6 false 27 S d d a8 d fun a S=>sPickT (.bool true) S (wN d) d d a8 d d (lb d) fun a S=>sM S fun a S=>?_
   refine sSkN 6 14 false 35 S d d d d fun a S=>sPickT (.bool true) S (wN d) d d d d d (lb d) fun a S=>?_
   exact lT (⟨true,Option.some.inj h,S.fix [0] [] (by decide) d d d⟩)
  refine sMove (.string p0) S (wG 6 false 27 d d d a8) (.inl d) d d (lb d) fun a S=>sLenS (v:=p0) S (wG 6 false 27 d d d a8) d Try.underlying9 d d (lb d) fun a S=>sMove (iv o4) S (wG 6 false 27 d d d a8) (.inl d) d d (lb d) fun a S=>sBin _ S (wG 6 false 27 d d d a8) d d d (bAdd _ _ _ _ o4 1) d (lb d) fun a S=>?_
  obtain ⟨bh,aI,h⟩:=bS h
  refine sBin _ S (wG 6 false 27 d d d a8) d d d (bRem _ _ _ _ (x:=(p0.size:Int)) (y:=w64 (o4 + 1)) aI) d (lb d) fun a S=>sBin _ S (wG 6 false 27 d d d a8) d d d (bNe _ _ _ _ .i64 bh 0) d (lb d) fun a S=>sPickF (.bool (bh != 0)) S (wN d) d d a8 d d (lb d) fun a S=>sM S fun a S=>?_
  rcases iS h with ⟨a9,h⟩ | ⟨a9,h⟩
  ·refine sSkN 6 14 false 35 S d d a9 d fun a S=>sPickT (.bool true) S (wN d) d d a9 d d (lb d) fun a S=>?_
   exact lT (⟨true,Option.some.inj h,S.fix [0] [] (by decide) d d d⟩)
  refine sMove (.string p0) S (wG 14 false 35 d d d a9) (.inl d) d d (lb d) fun a S=>sLenS (v:=p0) S (wG 14 false 35 d d d a9) d Try.underlying9 d d (lb d) fun a S=>sMove (iv o4) S (wG 14 false 35 d d d a9) (.inl d) d d (lb d) fun a S=>sBin _ S (wG 14 false 35 d d d a9) d d d (bAdd _ _ _ _ o4 1) d (lb d) fun a S=>?_
  obtain ⟨aJ,aK,h⟩:=bS h
  refine sBin _ S (wG 14 false 35 d d d a9) d d d (bQuo _ _ _ _ (x:=(p0.size:Int)) (y:=w64 (o4 + 1)) aK) d (lb d) fun a S=>sBin _ S (wG 14 false 35 d d d a9) d d d (bGt _ _ _ _ .i64 aJ 64) d (lb d) fun a S=>sPickF (.bool (decide (64 < aJ))) S (wN d) d d a9 d d (lb d) fun a S=>?_
  exact lT (⟨decide (64 < aJ),Option.some.inj h,S.fix [0] [] (by decide) d d d⟩)
 obtain ⟨aH,rfl,S⟩:=hI
 have h:=bv
 try dsimp only at h
 rcases iS h with ⟨ap,h⟩ | ⟨ap,h⟩
 ·refine sCondT S d ap (sSeq (fun bG aL=>sRegion (sBuild [] [iv 0,iv 0,.slice none 0 0] S (wN d) d d d d (lb d) fun a S=>sStore (p:=b2) (off:=0) (T:=24) (vs:=[iv 0,iv 0,.slice none 0 0]) (v:=.agg #[iv 0,iv 0,.slice none 0 0]) 0 [iv 0,iv 0,.slice none 0 0] S (wN d) d d d d d d d (by simp) d fun a w S=>sN S fun a S=>?_)))
  refine lT (aL _ _ ?_)
  obtain rfl:=tS h
  have S:=S.learn (fRep (rL rB) (.slice none 0 0) ([]:(List Bool))) (rL_nil _ _ _)
  have S:=S.learn (fRep r_api_Grid (.agg #[iv 0,iv 0,.slice none 0 0]) (api_Grid.mk 0 0 ([]:(List Bool)))) ⟨_,d,S.mem.know (i:=0) (e:=fRep (rL rB) (.slice none 0 0) ([]:(List Bool))) d⟩
  exact wp_ret (rThen (sRet (.tuple #[.agg #[iv 0,iv 0,.slice none 0 0],iv 12]) S (rsl2 d (rvN (c:=2) (t:=24) (T:=24) (p:=b2) 0 [iv 0,iv 0,.slice none 0 0] S d d d d) (rvT (t:=3) (v:=iv 12) S d)) ⟨(.agg #[iv 0,iv 0,.slice none 0 0]),d,S.mem.sel [] [0] (by decide) d d⟩))
 refine sCondF S d ap (wp_skip (leafT (aG _ _ ?_)))
 refine sSeq (fun bH aM=>sRegion (sM S fun a S=>?_))
 refine sM S fun a S=>?_
 refine sLenS (v:=p0) S (wN d) d Try.underlying9 d d (lb d) fun a S=>sM S fun a S=>?_
 refine sBin _ S (wN d) d d d (bAdd _ _ _ _ o4 1) d (lb d) fun a S=>?_
 obtain ⟨bi,aO,h⟩:=bS h
 refine sBin _ S (wN d) d d d (bQuo _ _ _ _ (x:=(p0.size:Int)) (y:=w64 (o4 + 1)) aO) d (lb d) fun a S=>?_
 obtain ⟨a0,aP,h⟩:=bS h
 refine sCall (X:=Option Addr × Nat) (f:=66) (vs:=[iv o4,iv bi]) (val:=fun x=>.agg #[iv a0.W,iv a0.H,.slice x.1 a0.Bits.length x.2]) (B':=fun x=>[eRow rB 4 (.slice x.1 a0.Bits.length x.2) a0.Bits]) (D':=fun _=>[]) [] [eBox b2 24 [iv 0,iv 0,.slice none 0 0]] [] [0] [] S (wN d) d callee66 d (by decide) d d (fun E1 w1 S1=>c_raddleref01_Zero_s0 E1 w1 o4 bi a0 aP S1) d (lb d) fun xx a w S=>?_
 obtain ⟨a5,a6⟩:=xx
 dsimp only at S
 refine sAlloc (.agg #[iv 0,iv 0,.slice none 0 0]) S (wN d) d d [iv 0,iv 0,.slice none 0 0] d d (lb d) fun a ah w S=>sStore (p:=ah) (off:=0) (T:=24) (vs:=[iv 0,iv 0,.slice none 0 0]) (v:=.agg #[iv a0.W,iv a0.H,.slice a5 a0.Bits.length a6]) 0 [iv a0.W,iv a0.H,.slice a5 a0.Bits.length a6] S (wN d) d d d d d d d (by simp) d fun a w S=>lT (aM _ _ ?_)
 obtain ⟨bw,h,bj⟩:=bS h
 refine sCut (fun a w=>∃ ab,.inl ab=bw∧St [] E [] w0 105 a w [(2,.pointer (some ⟨b2,0,none⟩)),(5,.pointer (some ⟨ah,0,none⟩))] [eBox b2 24 [iv 0,iv 0,.slice none 0 0],eBox ah 24 [iv a0.W,iv a0.H,.slice a5 ab.length a6],eRow rB 4 (.slice a5 ab.length a6) ab] []) ?_ (fun a w hI=>?_)
 rotate_left
 ·obtain ⟨ab,rfl,S⟩:=hI
  have h:=bj
  try dsimp only at h
  refine sSeq (fun bI aQ=>sRegion (sLoadN (p:=ah) (off:=0) (T:=24) (vs:=[iv a0.W,iv a0.H,.slice a5 ab.length a6]) 1 [iv a0.W,iv a0.H,.slice a5 ab.length a6] S (wN d) d d d d d d d (lb d) fun a S=>sStore (p:=b2) (off:=0) (T:=24) (vs:=[iv 0,iv 0,.slice none 0 0]) (v:=.agg #[iv a0.W,iv a0.H,.slice a5 ab.length a6]) 0 [iv a0.W,iv a0.H,.slice a5 ab.length a6] S (wN d) d d d d d d d (by simp) d fun a w S=>sN S fun a S=>?_))
  refine lT (aQ _ _ ?_)
  obtain rfl:=tS h
  have S:=S.shutR (r:=rB) (T:=4) (v:=.slice a5 ab.length a6) (xs:=ab) 2 d
  have S:=S.learn (fRep r_api_Grid (.agg #[iv a0.W,iv a0.H,.slice a5 ab.length a6]) (api_Grid.mk a0.W a0.H ab)) ⟨_,d,S.mem.know (i:=0) (e:=fRep (rL rB) (.slice a5 ab.length a6) ab) d⟩
  exact wp_ret (sRet (.tuple #[.agg #[iv a0.W,iv a0.H,.slice a5 ab.length a6],iv 0]) S (rsl2 d (rvN (c:=2) (t:=24) (T:=24) (p:=b2) 0 [iv a0.W,iv a0.H,.slice a5 ab.length a6] S d d d d) (rvT (t:=3) (v:=iv 0) S d)) ⟨(.agg #[iv a0.W,iv a0.H,.slice a5 ab.length a6]),d,S.mem.sel [] [0] (by decide) d d⟩)
 refine sSeq (fun bJ aR=>sRegion (sN S fun a S=>?_))
 refine lT (aR _ _ (wp_block ?_))
 obtain ⟨bK,hl,bk⟩:=bS h
 refine sLoop hl (fun s0 a w=>match s0 with | (aa,ac)=>St [] E [] w0 105 a w [(0,.string p0),(2,.pointer (some ⟨b2,0,none⟩)),(4,iv o4),(5,.pointer (some ⟨ah,0,none⟩)),(6,iv aa)] [eBox b2 24 [iv 0,iv 0,.slice none 0 0],eBox ah 24 [iv a0.W,iv a0.H,.slice a5 ac.length a6],eRow rB 4 (.slice a5 ac.length a6) ac] []) (S.fix [2,0,1] [] (by decide) d d d) ?_
 clear hl h
 intro s0 a w c0 hI h aw
 obtain ⟨aa,ac⟩:=s0
 unfold raddleref01_Parse_l2 at h
 dsimp only at h hI
 have S:=hI
 refine sSeq (fun bL aS=>sSeq (fun bM aT=>sRegion (sM S fun a S=>?_)))
 refine sM S fun a S=>?_
 refine sLenS (v:=p0) S (wN d) d Try.underlying9 d d (lb d) fun a S=>sBin _ S (wN d) d d d (bLt _ _ _ _ .i64 aa (p0.size:Int)) d (lb d) fun a S=>lT (aT _ _ ?_)
 rcases iS h with ⟨aq,h⟩ | ⟨aq,h⟩
 rotate_left
 ·refine sCondF S d aq ?_
  obtain rfl:=tS h
  obtain rfl:=aw _ d
  have h:=bk
  try dsimp only at h
  exact wp_exit (xThen (xThen (xHit (leafT (⟨ac,Option.some.inj h,S.fix [0,1,2] [] (by decide) d d d⟩)))))
 refine sCondT S d aq (wp_skip (leafT (aS _ _ ?_)))
 obtain ⟨bx,h,bl⟩:=bS h
 refine sCut (fun a w=>∃ av,.inl av=bx∧St [] E [] w0 105 a w [(0,.string p0),(2,.pointer (some ⟨b2,0,none⟩)),(4,iv o4),(5,.pointer (some ⟨ah,0,none⟩)),(6,iv aa)] [eBox b2 24 [iv 0,iv 0,.slice none 0 0],eBox ah 24 [iv a0.W,iv a0.H,.slice a5 av.length a6],eRow rB 4 (.slice a5 av.length a6) av] []) ?_ (fun a w hI=>?_)
 rotate_left
 ·obtain ⟨av,rfl,S⟩:=hI
  have h:=bl
  try dsimp only at h
  refine sRegion (sM S fun a S=>?_)
  refine sBin _ S (wN d) d d d (bAdd _ _ _ _ aa 1) d (lb d) fun a S=>sN S fun a S=>?_
  exact lT (⟨(w64 (aa + 1),av),(Option.some.inj h).symm,(S.fix [0,1,2] [] (by decide) d d d)⟩)
 refine wp_block ?_
 refine sSeq (fun bN aU=>?_)
 obtain ⟨al,aV,h⟩:=bS h
 obtain ⟨am,aW,h⟩:=bS h
 refine sDraw (nf:=[]) (W:=[(0,57,iv aa),(1,58,iv o4),(2,59,iv (w64 (o4 + 1))),(3,60,iv al),(4,61,.pointer (some ⟨ah,1,none⟩)),(5,62,iv a0.H),(6,63,iv (w64 (a0.H - 1))),(7,64,iv aa),(8,65,iv o4),(9,66,iv (w64 (o4 + 1))),(10,67,iv am),(11,68,iv (w64 ((w64 (a0.H - 1)) - am))),(12,7,iv al),(13,8,iv (w64 ((w64 (a0.H - 1)) - am)))]) d S ?_
 refine node_by (A:=anc_raddleref01_Parse_0) 14 (by kernel_rfl) (by kernel_rfl) (by kernel_rfl) (by kernel_rfl) (by kernel_rfl) [0,1,2,3,4,5,6,7,8,9,10,11,12,13] (by kernel_rfl) (by decide) (by decide) (fF ?_ (fF ?_ (fF ?_ (fF ?_ (fF ?_ (fF ?_ (fF ?_ (fF ?_ (fF ?_ (fF ?_ (fF ?_ (fF ?_ (fF ?_ (fF ?_ (trivial))))))))))))))) [(0,.string p0),(2,.pointer (some ⟨b2,0,none⟩)),(4,iv o4),(5,.pointer (some ⟨ah,0,none⟩)),(6,iv aa),(7,iv al),(8,iv (w64 ((w64 (a0.H - 1)) - am)))] (fin_of [none,none,none,none,none,some 12,some 13] d (by kernel_rfl) (by kernel_rfl)) (fun _ a w S=>?_)
 ·exact fM 0 none d d d d (.inl d) d d d
 ·exact fM 1 none d d d d (.inl d) d d d
 ·refine fJ [(58,_)] 2 [some 1] fun G a w S=>?_
  exact sBin _ S (wN d) d d d (bAdd _ _ _ _ o4 1) d (lb d) fun a S=>leafL ⟨d,S⟩
 ·refine fJ [(57,_),(59,_)] 3 [some 0,some 2] fun G a w S=>?_
  exact sBin _ S (wN d) d d d (bRem _ _ _ _ (x:=aa) (y:=w64 (o4 + 1)) aV) d (lb d) fun a S=>leafL ⟨d,S⟩
 ·refine fJ [(5,_)] 4 [none] fun G a w S=>?_
  exact sField (b:=ah) (off:=0) 1 1 S (wN d) d d d d d (lb d) fun a S=>leafL ⟨d,S⟩
 ·refine fJ [(61,_)] 5 [some 4] fun G a w S=>?_
  exact sLoad1 1 (iv a0.H) S (wN d) d d d d d d (lb d) fun a S=>leafL ⟨d,S⟩
 ·refine fJ [(62,_)] 6 [some 5] fun G a w S=>?_
  exact sBin _ S (wN d) d d d (bSub _ _ _ _ a0.H 1) d (lb d) fun a S=>leafL ⟨d,S⟩
 ·exact fM 7 none d d d d (.inl d) d d d
 ·exact fM 8 none d d d d (.inl d) d d d
 ·refine fJ [(65,_)] 9 [some 8] fun G a w S=>?_
  exact sBin _ S (wN d) d d d (bAdd _ _ _ _ o4 1) d (lb d) fun a S=>leafL ⟨d,S⟩
 ·refine fJ [(64,_),(66,_)] 10 [some 7,some 9] fun G a w S=>?_
  exact sBin _ S (wN d) d d d (bQuo _ _ _ _ (x:=aa) (y:=w64 (o4 + 1)) aW) d (lb d) fun a S=>leafL ⟨d,S⟩
 ·refine fJ [(63,_),(67,_)] 11 [some 6,some 10] fun G a w S=>?_
  exact sBin _ S (wN d) d d d (bSub _ _ _ _ (w64 (a0.H - 1)) am) d (lb d) fun a S=>leafL ⟨d,S⟩
 ·exact fM 12 (some 3) d d d d (.inr d) d d d
 ·exact fM 13 (some 11) d d d d (.inr d) d d d
 refine leafT (aU _ _ ?_)
 refine sSeq (fun bO aX=>?_)
 obtain ⟨bz,h,bA⟩:=bS h
 refine sCut (fun a w=>∃ aZ,aZ=bz∧St [] E [] w0 105 a w [(0,.string p0),(2,.pointer (some ⟨b2,0,none⟩)),(4,iv o4),(5,.pointer (some ⟨ah,0,none⟩)),(6,iv aa),(7,iv al),(8,iv (w64 ((w64 (a0.H - 1)) - am))),(94,.bool aZ)] [eBox b2 24 [iv 0,iv 0,.slice none 0 0],eBox ah 24 [iv a0.W,iv a0.H,.slice a5 ac.length a6],eRow rB 4 (.slice a5 ac.length a6) ac] []) ?_ (fun a w hI=>?_)
 rotate_left
 ·obtain ⟨aZ,rfl,S⟩:=hI
  have h:=bA
  try dsimp only at h
  rcases iS h with ⟨ar,h⟩ | ⟨ar,h⟩
  ·refine sCondT S d ar (sSeq (fun bP ba=>sRegion (sBuild [] [iv 0,iv 0,.slice none 0 0] S (wN d) d d d d (lb d) fun a S=>sStore (p:=b2) (off:=0) (T:=24) (vs:=[iv 0,iv 0,.slice none 0 0]) (v:=.agg #[iv 0,iv 0,.slice none 0 0]) 0 [iv 0,iv 0,.slice none 0 0] S (wN d) d d d d d d d (by simp) d fun a w S=>sN S fun a S=>?_)))
   refine lT (ba _ _ ?_)
   obtain rfl:=tS h
   have h:=bl
   try dsimp only at h
   obtain rfl:=tS h
   obtain rfl:=aw _ d
   have h:=bk
   try dsimp only at h
   obtain rfl:=tS h
   have h:=bj
   try dsimp only at h
   obtain rfl:=tS h
   have S:=S.learn (fRep (rL rB) (.slice none 0 0) ([]:(List Bool))) (rL_nil _ _ _)
   have S:=S.learn (fRep r_api_Grid (.agg #[iv 0,iv 0,.slice none 0 0]) (api_Grid.mk 0 0 ([]:(List Bool)))) ⟨_,d,S.mem.know (i:=0) (e:=fRep (rL rB) (.slice none 0 0) ([]:(List Bool))) d⟩
   exact wp_ret (rThen (rBlock (rThen (rThen (rBlock (rThen (sRet (.tuple #[.agg #[iv 0,iv 0,.slice none 0 0],iv 12]) S (rsl2 d (rvN (c:=2) (t:=24) (T:=24) (p:=b2) 0 [iv 0,iv 0,.slice none 0 0] S d d d d) (rvT (t:=3) (v:=iv 12) S d)) ⟨(.agg #[iv 0,iv 0,.slice none 0 0]),d,S.mem.sel [] [0] (by decide) d d⟩)))))))
  refine sCondF S d ar (wp_skip (leafT (aX _ _ ?_)))
  refine sSeq (fun bQ bb=>sRegion (sM S fun a S=>?_))
  refine sM S fun a S=>?_
  obtain ⟨bB,bc,h⟩:=bS h
  refine sIndexS (v:=p0) (j:=aa) (k:=.i64) S (wN d) d Try.underlying9 d d bc d (lb d) fun a S=>sBin _ S (wN d) d d d (bEq _ _ _ _ .u8 bB 120) d (lb d) fun a S=>lT (bb _ _ ?_)
  rcases iS h with ⟨au,h⟩ | ⟨au,h⟩
  rotate_left
  ·refine sCondF S d au ?_
   exact wp_skip (leafB (leafT (⟨ac,Option.some.inj h,S.fix [0,1,2] [] (by decide) d d d⟩)))
  refine sCondT S d au (sRegion (sLoadN (p:=ah) (off:=0) (T:=24) (vs:=[iv a0.W,iv a0.H,.slice a5 ac.length a6]) 1 [iv a0.W,iv a0.H,.slice a5 ac.length a6] S (wN d) d d d d d d d (lb d) fun a S=>sM S fun a S=>?_))
  refine sM S fun a S=>?_
  obtain ⟨ax,bf,h⟩:=bS h
  refine sCall (X:=Unit) (f:=67) (vs:=[.agg #[iv a0.W,iv a0.H,.slice a5 ac.length a6],iv al,iv (w64 ((w64 (a0.H - 1)) - am)),.bool true]) (val:=fun _=>.tuple #[]) (B':=fun _=>[eRow rB 4 (.slice a5 ac.length a6) ax]) (D':=fun _=>[]) [eRow rB 4 (.slice a5 ac.length a6) ac] [eBox b2 24 [iv 0,iv 0,.slice none 0 0],eBox ah 24 [iv a0.W,iv a0.H,.slice a5 ac.length a6]] [] [2,0,1] [] S (wN d) d callee67 d (by decide) d d (fun E1 w1 S1=>c_raddleref01_Set_s0 E1 w1 a0.W a0.H ac a5 a6 al (w64 ((w64 (a0.H - 1)) - am)) true ax bf S1) d (lb d) fun _ a w S=>?_
  have bg:=row_v (S.mem.hold (i:=0) (e:=eRow rB 4 (.slice a5 ac.length a6) ax) d)
  rw [bg] at S
  exact leafL (leafB (leafT (⟨ax,Option.some.inj h,S.fix [1,2,0] [] (by decide) d d d⟩)))
 refine sRegion (sM S fun a S=>?_)
 refine sM S fun a S=>?_
 obtain ⟨aj,ak,h⟩:=bS h
 refine sIndexS (v:=p0) (j:=aa) (k:=.i64) S (wN d) d Try.underlying9 d d ak d (lb d) fun a S=>sBin _ S (wN d) d d d (bEq _ _ _ _ .u8 aj 10) d (lb d) fun a S=>sM S fun a S=>?_
 refine sM S fun a S=>?_
 refine sBin _ S (wN d) d d d (bEq _ _ _ _ .i64 al o4) d (lb d) fun a S=>sBin _ S (wN d) d d d (bNeB _ _ _ _ Try.underlying4 (aj == 10) (al == o4)) d (lb d) fun a S=>sM S fun a S=>?_
 rcases iS h with ⟨a7,h⟩ | ⟨a7,h⟩
 ·refine sSkN 5 8 false 77 S d d a7 d fun a S=>sSkipU 13 true 82 83 S d d d d (lb d) fun a S=>?_
  refine sSkipU 13 true 82 84 S d d d d (lb d) fun a S=>?_
  refine sSkipU 13 true 82 85 S d d d d (lb d) fun a S=>?_
  refine sSkipU 13 true 82 86 S d d d d (lb d) fun a S=>?_
  refine sSkN 2 8 false 77 S d d a7 d fun a S=>sSkipU 19 true 88 89 S d d d d (lb d) fun a S=>?_
  refine sSkipU 19 true 88 90 S d d d d (lb d) fun a S=>?_
  refine sSkipU 19 true 88 91 S d d d d (lb d) fun a S=>?_
  refine sSkipU 19 true 88 92 S d d d d (lb d) fun a S=>?_
  refine sSk S d d d a7 d d fun a S=>sPickT (.bool true) S (wN d) d d a7 d d (lb d) fun a S=>?_
  exact lT (⟨true,Option.some.inj h,S.fix [0,1,2] [] (by decide) d d d⟩)
 refine sMove (.string p0) S (wG 8 false 77 d d d a7) (.inl d) d d (lb d) fun a S=>sMove (iv aa) S (wG 8 false 77 d d d a7) (.inl d) d d (lb d) fun a S=>sIndexS (v:=p0) (j:=aa) (k:=.i64) S (wG 8 false 77 d d d a7) d Try.underlying9 d d ak d (lb d) fun a S=>sBin _ S (wG 8 false 77 d d d a7) d d d (bNe _ _ _ _ .u8 aj 10) d (lb d) fun a S=>sMove (.bool (aj != 10)) S (wG 8 false 77 d d d a7) (.inl d) d d (lb d) fun a S=>?_
 rcases iS h with ⟨af,h⟩ | ⟨af,h⟩
 rotate_left
 ·refine sSkN 4 13 true 82 S d d af d fun a S=>sPickF (.bool false) S (wG 8 false 77 d d d a7) d d af d d (lb d) fun a S=>sMove (.bool false) S (wG 8 false 77 d d d a7) (.inl d) d d (lb d) fun a S=>sSkN 4 19 true 88 S d d d d fun a S=>sPickF (.bool false) S (wG 8 false 77 d d d a7) d d d d d (lb d) fun a S=>sPickF (.bool false) S (wN d) d d a7 d d (lb d) fun a S=>?_
  exact lT (⟨false,Option.some.inj h,S.fix [0,1,2] [] (by decide) d d d⟩)
 refine sMove (.string p0) S (wG 13 true 82 d d d af) (.inl d) d d (lb d) fun a S=>sMove (iv aa) S (wG 13 true 82 d d d af) (.inl d) d d (lb d) fun a S=>sIndexS (v:=p0) (j:=aa) (k:=.i64) S (wG 13 true 82 d d d af) d Try.underlying9 d d ak d (lb d) fun a S=>sBin _ S (wG 13 true 82 d d d af) d d d (bNe _ _ _ _ .u8 aj 120) d (lb d) fun a S=>sPickT (.bool (aj != 120)) S (wG 8 false 77 d d d a7) d d af d d (lb d) fun a S=>sMove (.bool (aj != 120)) S (wG 8 false 77 d d d a7) (.inl d) d d (lb d) fun a S=>?_
 rcases iS h with ⟨ag,h⟩ | ⟨ag,h⟩
 rotate_left
 ·refine sSkN 4 19 true 88 S d d ag d fun a S=>sPickF (.bool false) S (wG 8 false 77 d d d a7) d d ag d d (lb d) fun a S=>sPickF (.bool false) S (wN d) d d a7 d d (lb d) fun a S=>?_
  exact lT (⟨false,Option.some.inj h,S.fix [0,1,2] [] (by decide) d d d⟩)
 refine sMove (.string p0) S (wG 19 true 88 d d d ag) (.inl d) d d (lb d) fun a S=>sMove (iv aa) S (wG 19 true 88 d d d ag) (.inl d) d d (lb d) fun a S=>sIndexS (v:=p0) (j:=aa) (k:=.i64) S (wG 19 true 88 d d d ag) d Try.underlying9 d d ak d (lb d) fun a S=>sBin _ S (wG 19 true 88 d d d ag) d d d (bNe _ _ _ _ .u8 aj 46) d (lb d) fun a S=>sPickT (.bool (aj != 46)) S (wG 8 false 77 d d d a7) d d ag d d (lb d) fun a S=>sPickF (.bool (aj != 46)) S (wN d) d d a7 d d (lb d) fun a S=>?_
 exact lT (⟨aj != 46,Option.some.inj h,S.fix [0,1,2] [] (by decide) d d d⟩)
noncomputable def F_raddlelaw46_cloth (p0:ByteArray):Option api_Grid:=
 (F_raddleref01_Parse p0).bind fun r4=>
 some r4.1
def c_raddlelaw46_cloth_val (r:api_Grid) (x:Value):Value:=x
def c_raddlelaw46_cloth_D (r:api_Grid) (x:Value):List Fact:=[fRep r_api_Grid x r]
theorem c_raddlelaw46_cloth (E:Nat→Prop) (w0:World) (p0:ByteArray) (r:api_Grid) (h:F_raddlelaw46_cloth p0=some r) (S:St0 E [] w0 w0 [] []) :
 Calls Try.prog 41 #[.string p0] w0 (Ret (X:=Value) E [] w0 (c_raddlelaw46_cloth_val r) (fun _=>[]) (c_raddlelaw46_cloth_D r)):=by
 unfold F_raddlelaw46_cloth at h
 refine sEnter (args:=[.string p0]) 11 Try.func41 d d (by simp) S (fun a S=>?_)
 refine sSeq (fun K1 a9=>sRegion (sAlloc (.agg #[iv 0,iv 0,.slice none 0 0]) S (wN d) d d [iv 0,iv 0,.slice none 0 0] d d (lb d) fun a b2 w S=>lT (a9 _ _ (sSeq (fun K3 aa=>sRegion (sM S fun a S=>?_))))))
 obtain ⟨r4,ab,h⟩:=bS h
 refine sCall (X:=Value) (f:=77) (vs:=[.string p0]) (val:=c_raddleref01_Parse_val r4) (B':=fun _=>[]) (D':=c_raddleref01_Parse_D r4) [] [eBox b2 24 [iv 0,iv 0,.slice none 0 0]] [] [0] [] S (wN d) d callee77 d (by decide) d d (fun E1 w1 S1=>c_raddleref01_Parse E1 w1 p0 r4 ab S1) d (lb d) fun u6 a w S=>?_
 obtain ⟨u7,rfl,a7⟩:=S.mem.know (i:=0) (e:=fRep r_api_Grid (u6) r4.1) d
 have S:=S.learn (fRep (rL rB) u7 r4.1.Bits) a7
 obtain ⟨a5,a0,_,rfl,_⟩:=a7
 refine sM S fun a S=>?_
 refine sExtract (vs:=[.agg #[iv r4.1.W,iv r4.1.H,.slice a5 r4.1.Bits.length a0],iv r4.2]) (.agg #[iv r4.1.W,iv r4.1.H,.slice a5 r4.1.Bits.length a0]) S (wN d) d d d d (lb d) fun a S=>sExtract (vs:=[.agg #[iv r4.1.W,iv r4.1.H,.slice a5 r4.1.Bits.length a0],iv r4.2]) (iv r4.2) S (wN d) d d d d (lb d) fun a S=>sAlloc (.agg #[iv 0,iv 0,.slice none 0 0]) S (wN d) d d [iv 0,iv 0,.slice none 0 0] d d (lb d) fun a a8 w S=>sStore (p:=a8) (off:=0) (T:=24) (vs:=[iv 0,iv 0,.slice none 0 0]) (v:=.agg #[iv r4.1.W,iv r4.1.H,.slice a5 r4.1.Bits.length a0]) 0 [iv r4.1.W,iv r4.1.H,.slice a5 r4.1.Bits.length a0] S (wN d) d d d d d d d (by simp) d fun a w S=>sN S fun a S=>?_
 refine lT (aa _ _ (sSeq (fun ac a6=>sRegion (sLoadN (p:=a8) (off:=0) (T:=24) (vs:=[iv r4.1.W,iv r4.1.H,.slice a5 r4.1.Bits.length a0]) 0 [iv r4.1.W,iv r4.1.H,.slice a5 r4.1.Bits.length a0] S (wN d) d d d d d d d (lb d) fun a S=>sStore (p:=b2) (off:=0) (T:=24) (vs:=[iv 0,iv 0,.slice none 0 0]) (v:=.agg #[iv r4.1.W,iv r4.1.H,.slice a5 r4.1.Bits.length a0]) 1 [iv r4.1.W,iv r4.1.H,.slice a5 r4.1.Bits.length a0] S (wN d) d d d d d d d (by simp) d fun a w S=>lT (a6 _ _ ?_)))))
 obtain rfl:=tS h
 exact wp_ret (sRet (.agg #[iv r4.1.W,iv r4.1.H,.slice a5 r4.1.Bits.length a0]) S (rsl1 d (rvN (c:=2) (t:=24) (T:=24) (p:=b2) 0 [iv r4.1.W,iv r4.1.H,.slice a5 r4.1.Bits.length a0] S d d d d)) ⟨(.agg #[iv r4.1.W,iv r4.1.H,.slice a5 r4.1.Bits.length a0]),d,S.mem.sel [] [1] (by decide) d d⟩)
noncomputable def raddleref25_Cut_l1 (p0:ByteArray) (p1:Int):(List ByteArray × Int × Int)→Option ((List ByteArray × Int × Int) ⊕ List ByteArray):=fun s0=>match s0 with
 | (a5,a6,a0)=>
  if decide (a0 ≤ (p0.size:Int)) then
   Option.bind (α:=(List ByteArray × Int)) (
    Option.bind (α:=Bool) (
     if a0 == (p0.size:Int) then
      some true
     else
      (idxS p0 a0).bind fun a7=>
      some (a7 == p1)) fun a8=>
    if a8 then
     (sliceS p0 a6 a0).bind fun a9=>
     (appO a5 [a9]).bind fun aa=>
     some (aa,w64 (a0 + 1))
    else
     some (a5,a6)) fun (ab,ac)=>
   some (.inl (ab,ac,w64 (a0 + 1)))
  else
   some (.inr a5)
noncomputable def F_raddleref25_Cut (p0:ByteArray) (p1:Int):Option (List ByteArray):=
 Option.bind (α:=List ByteArray) (
  (whileO (raddleref25_Cut_l1 p0 p1) (([]:List ByteArray),0,0)).bind fun a0=>
   some a0) fun o4=>
 some o4
def c_raddleref25_Cut_val (r:(List ByteArray)) (x:Value):Value:=x
def c_raddleref25_Cut_D (r:(List ByteArray)) (x:Value):List Fact:=[fRep (rL rS) x r]
theorem c_raddleref25_Cut (E:Nat→Prop) (w0:World) (p0:ByteArray) (p1:Int) (r:(List ByteArray)) (h:F_raddleref25_Cut p0 p1=some r) (S:St0 E [] w0 w0 [] []) :
 Calls Try.prog 94 #[.string p0,.int .u8 p1] w0 (Ret (X:=Value) E [] w0 (c_raddleref25_Cut_val r) (fun _=>[]) (c_raddleref25_Cut_D r)):=by
 unfold F_raddleref25_Cut at h
 refine sEnter (args:=[.string p0,.int .u8 p1]) 35 Try.func94 d d (by simp) S (fun a S=>?_)
 refine sSeq (fun K1 aC=>sRegion (sN S fun a S=>?_))
 refine lT (aC _ _ (sSeq (fun K2 aG=>sRegion (sN S fun a S=>?_))))
 refine lT (aG _ _ (sSeq (fun K3 aH=>sRegion (sN S fun a S=>?_))))
 refine lT (aH _ _ ?_)
 obtain ⟨t7,h,g8⟩:=bS h
 refine sCut (fun a w=>∃ o4,o4=t7∧∃ ab,∃ ac,St [] E [] w0 35 a w [(5,.slice ab o4.length ac)] [eRow rS 9 (.slice ab o4.length ac) o4] []) ?_ (fun a w hI=>?_)
 rotate_left
 ·obtain ⟨o4,rfl,ab,ac,S⟩:=hI
  have h:=g8
  try dsimp only at h
  refine sSeq (fun aQ ak=>sRegion (sM S fun a S=>?_))
  refine sN S fun a S=>?_
  refine lT (ak _ _ ?_)
  obtain rfl:=tS h
  have S:=S.shutR (r:=rS) (T:=9) (v:=.slice ab o4.length ac) (xs:=o4) 0 d
  exact wp_ret (sRet (.slice ab o4.length ac) S (rsl1 d (rvT (t:=4) (v:=.slice ab o4.length ac) S d)) ⟨(.slice ab o4.length ac),d,S.mem.sel [] [0] (by decide) d d⟩)
 refine sSeq (fun K9 aI=>sRegion (sN S fun a S=>?_))
 refine lT (aI _ _ (wp_block ?_))
 have S:=S.nilRow rS 9 (α:=ByteArray)
 obtain ⟨aR,hl,aJ⟩:=bS h
 refine sLoop hl (fun s0 a w=>match s0 with | (a8,ah,a7)=>∃ a5,∃ a6,St [] E [] w0 35 a w [(0,.string p0),(1,.int .u8 p1),(5,.slice a5 a8.length a6),(6,iv ah),(7,iv a7)] [eRow rS 9 (.slice a5 a8.length a6) a8] []) ⟨none,0,S.fix [0] [] (by decide) d d d⟩ ?_
 clear hl h
 intro s0 a w c0 hI h al
 obtain ⟨a8,ah,a7⟩:=s0
 unfold raddleref25_Cut_l1 at h
 dsimp only at h hI
 obtain ⟨a5,a6,S⟩:=hI
 refine sSeq (fun aS am=>sSeq (fun aT ao=>sRegion (sM S fun a S=>?_)))
 refine sM S fun a S=>?_
 refine sLenS (v:=p0) S (wN d) d Try.underlying9 d d (lb d) fun a S=>sBin _ S (wN d) d d d (bLe _ _ _ _ .i64 a7 (p0.size:Int)) d (lb d) fun a S=>lT (ao _ _ ?_)
 rcases iS h with ⟨ae,h⟩ | ⟨ae,h⟩
 rotate_left
 ·refine sCondF S d ae ?_
  obtain rfl:=tS h
  obtain rfl:=al _ d
  have h:=aJ
  try dsimp only at h
  exact wp_exit (xThen (xThen (xHit (leafT (⟨a8,Option.some.inj h,a5,a6,S.fix [0] [] (by decide) d d d⟩)))))
 refine sCondT S d ae (wp_skip (leafT (am _ _ ?_)))
 obtain ⟨aK,h,aL⟩:=bS h
 refine sCut (fun a w=>∃ ai,∃ aj,(ai,aj)=aK∧∃ a9,∃ aa,St [] E [] w0 35 a w [(0,.string p0),(1,.int .u8 p1),(5,.slice a9 ai.length aa),(6,iv aj),(7,iv a7)] [eRow rS 9 (.slice a9 ai.length aa) ai] []) ?_ (fun a w hI=>?_)
 rotate_left
 ·obtain ⟨ai,aj,rfl,a9,aa,S⟩:=hI
  have h:=aL
  try dsimp only at h
  refine sRegion (sM S fun a S=>?_)
  refine sBin _ S (wN d) d d d (bAdd _ _ _ _ a7 1) d (lb d) fun a S=>sN S fun a S=>?_
  exact lT (⟨(ai,aj,w64 (a7 + 1)),(Option.some.inj h).symm,⟨a9,aa,S.fix [0] [] (by decide) d d d⟩⟩)
 refine wp_block ?_
 obtain ⟨aM,h,aO⟩:=bS h
 refine sCut (fun a w=>∃ ap,ap=aM∧St [] E [] w0 35 a w [(0,.string p0),(1,.int .u8 p1),(5,.slice a5 a8.length a6),(6,iv ah),(7,iv a7),(24,.bool ap)] [eRow rS 9 (.slice a5 a8.length a6) a8] []) ?_ (fun a w hI=>?_)
 ·refine sRegion (sM S fun a S=>?_)
  refine sM S fun a S=>?_
  refine sLenS (v:=p0) S (wN d) d Try.underlying9 d d (lb d) fun a S=>sBin _ S (wN d) d d d (bEq _ _ _ _ .i64 a7 (p0.size:Int)) d (lb d) fun a S=>sM S fun a S=>?_
  rcases iS h with ⟨a0,h⟩ | ⟨a0,h⟩
  ·refine sSkN 5 4 false 18 S d d a0 d fun a S=>sPickT (.bool true) S (wN d) d d a0 d d (lb d) fun a S=>?_
   exact lT (⟨true,Option.some.inj h,S.fix [0] [] (by decide) d d d⟩)
  refine sMove (.string p0) S (wG 4 false 18 d d d a0) (.inl d) d d (lb d) fun a S=>sMove (iv a7) S (wG 4 false 18 d d d a0) (.inl d) d d (lb d) fun a S=>?_
  obtain ⟨aq,ar,h⟩:=bS h
  refine sIndexS (v:=p0) (j:=a7) (k:=.i64) S (wG 4 false 18 d d d a0) d Try.underlying9 d d ar d (lb d) fun a S=>sMove (.int .u8 p1) S (wG 4 false 18 d d d a0) (.inl d) d d (lb d) fun a S=>sBin _ S (wG 4 false 18 d d d a0) d d d (bEq _ _ _ _ .u8 aq p1) d (lb d) fun a S=>sPickF (.bool (aq == p1)) S (wN d) d d a0 d d (lb d) fun a S=>?_
  exact lT (⟨aq == p1,Option.some.inj h,S.fix [0] [] (by decide) d d d⟩)
 obtain ⟨ap,rfl,S⟩:=hI
 have h:=aO
 try dsimp only at h
 rcases iS h with ⟨af,h⟩ | ⟨af,h⟩
 rotate_left
 ·refine sCondF S d af ?_
  exact wp_skip (leafB (leafT (⟨a8,ah,Option.some.inj h,a5,a6,S.fix [0] [] (by decide) d d d⟩)))
 refine sCondT S d af (sSeq (fun aU au=>sRegion (sM S fun a S=>?_)))
 refine sM S fun a S=>?_
 refine sM S fun a S=>?_
 refine sM S fun a S=>?_
 obtain ⟨ag,av,h⟩:=bS h
 refine sSliceS (v:=p0) (u:=ag) (vlo:=(some (.int .i64 ah))) (vhi:=(some (.int .i64 a7))) (lo':=ah) (hi':=a7) S (wN d) d Try.underlying9 d d d (.inl d) (.inl d) av d (lb d) fun a S=>sLit (r:=rS) (T:=9) (xs:=[ag]) [(0,.string ag)] 1 [.string ag] [.string ag] (.string (⟨#[]⟩:ByteArray)) 16 S (wN d) d d Try.underlying142 d (by decide) (by decide) (by kernel_rfl) d (fun E1 w1 hE=>All.cons d (All.nil _ _ _)) d d (lb d) fun a w aw ax S=>?_
 obtain ⟨aP,ay,h⟩:=bS h
 refine sApp (r:=rS) (T:=9) (xs:=a8) (ys:=[ag]) (v:=.slice a5 a8.length a6) (u:=.slice aw [ag].length ax) 1 (.string (⟨#[]⟩:ByteArray)) 16 S (wN d) d Try.underlying142 d d (by decide) d d d (src_R (T:=9) 0 S.mem d) ay d (lb d) fun a w az aA S=>sN S fun a S=>?_
 refine lT (au _ _ (sRegion (sM S fun a S=>?_)))
 refine sBin _ S (wN d) d d d (bAdd _ _ _ _ a7 1) d (lb d) fun a S=>sN S fun a S=>?_
 exact leafL (leafB (leafT (⟨aP,w64 (a7 + 1),Option.some.inj h,az,aA,S.fix [0] [] (by decide) d d d⟩)))
noncomputable def raddleref25_Number_l1 (p0:ByteArray):(Int × Int)→Option ((Int × Int) ⊕ ((Int × Bool) ⊕ Int)):=fun s0=>match s0 with
 | (a5,a0)=>
  if decide (a0 < (p0.size:Int)) then
   Option.bind (α:=Bool) (
    (idxS p0 a0).bind fun a6=>
    if decide (a6 < 48) then
     some true
    else
     some (decide (57 < a6))) fun a7=>
   if a7 then
    some (.inr (.inl (0,false)))
   else
    (idxS p0 a0).bind fun a8=>
    some (.inl (w64 ((w64 (10 * a5)) + (IntKind.i64.wrap (IntKind.u8.wrap (a8 - 48)))),w64 (a0 + 1)))
  else
   some (.inr (.inr a5))
noncomputable def F_raddleref25_Number (p0:ByteArray):Option (Int × Bool):=
 Option.bind (α:=Bool) (
  if (p0.size:Int) == 0 then
   some true
  else
   if decide (4 < (p0.size:Int)) then
    some true
   else
    if decide (1 < (p0.size:Int)) then
     (idxS p0 0).bind fun x9=>
     some (x9 == 48)
    else
     some false) fun o3=>
 if o3 then
  some (0,false)
 else
  Option.bind (α:=Int ⊕ (Int × Bool)) (
   (whileO (raddleref25_Number_l1 p0) (0,0)).bind fun z0=>match z0 with
    | .inl z=>
     some (.inr z)
    | .inr a0=>
     some (.inl a0)) fun z0=>match z0 with
   | .inl a5=>
    some (a5,true)
   | .inr z=>
    some z
theorem c_raddleref25_Number (E:Nat→Prop) (w0:World) (p0:ByteArray) (r:(Int × Bool)) (h:F_raddleref25_Number p0=some r) (S:St0 E [] w0 w0 [] []) :
 Calls Try.prog 97 #[.string p0] w0 (Ret (X:=Unit) E [] w0 (fun _=>.tuple #[.int .i64 r.1,.bool r.2]) (fun _=>[]) (fun _=>[])):=by
 unfold F_raddleref25_Number at h
 refine sEnter (args:=[.string p0]) 49 Try.func97 d d (by simp) S (fun a S=>?_)
 refine sSeq (fun K1 aA=>sRegion (sN S fun a S=>?_))
 refine sN S fun a S=>?_
 refine lT (aA _ _ (sSeq (fun K2 aC=>?_)))
 obtain ⟨t4,h,g5⟩:=bS h
 refine sCut (fun a w=>∃ o3,o3=t4∧St [] E [] w0 49 a w [(0,.string p0),(23,.bool o3)] [] []) ?_ (fun a w hI=>?_)
 ·refine sRegion (sM S fun a S=>?_)
  refine sLenS (v:=p0) S (wN d) d Try.underlying9 d d (lb d) fun a S=>sBin _ S (wN d) d d d (bEq _ _ _ _ .i64 (p0.size:Int) 0) d (lb d) fun a S=>sM S fun a S=>?_
  rcases iS h with ⟨a7,h⟩ | ⟨a7,h⟩
  ·refine sSkN 3 3 false 9 S d d a7 d fun a S=>sPickT (.bool true) S (wN d) d d a7 d d (lb d) fun a S=>sM S fun a S=>?_
   refine sSkN 4 8 false 14 S d d d d fun a S=>sSkipU 12 true 18 19 S d d d d (lb d) fun a S=>?_
   refine sSkipU 12 true 18 20 S d d d d (lb d) fun a S=>?_
   refine sSkipU 12 true 18 21 S d d d d (lb d) fun a S=>?_
   refine sSk S d d d d d d fun a S=>sPickT (.bool true) S (wN d) d d d d d (lb d) fun a S=>?_
   exact lT (⟨true,Option.some.inj h,S.fix [] [] (by decide) d d d⟩)
  refine sMove (.string p0) S (wG 3 false 9 d d d a7) (.inl d) d d (lb d) fun a S=>sLenS (v:=p0) S (wG 3 false 9 d d d a7) d Try.underlying9 d d (lb d) fun a S=>sBin _ S (wG 3 false 9 d d d a7) d d d (bGt _ _ _ _ .i64 (p0.size:Int) 4) d (lb d) fun a S=>sPickF (.bool (decide (4 < (p0.size:Int)))) S (wN d) d d a7 d d (lb d) fun a S=>sM S fun a S=>?_
  rcases iS h with ⟨a5,h⟩ | ⟨a5,h⟩
  ·refine sSkN 4 8 false 14 S d d a5 d fun a S=>sSkipU 12 true 18 19 S d d d d (lb d) fun a S=>?_
   refine sSkipU 12 true 18 20 S d d d d (lb d) fun a S=>?_
   refine sSkipU 12 true 18 21 S d d d d (lb d) fun a S=>?_
   refine sSk S d d d a5 d d fun a S=>sPickT (.bool true) S (wN d) d d a5 d d (lb d) fun a S=>?_
   exact lT (⟨true,Option.some.inj h,S.fix [] [] (by decide) d d d⟩)
  refine sMove (.string p0) S (wG 8 false 14 d d d a5) (.inl d) d d (lb d) fun a S=>sLenS (v:=p0) S (wG 8 false 14 d d d a5) d Try.underlying9 d d (lb d) fun a S=>sBin _ S (wG 8 false 14 d d d a5) d d d (bGt _ _ _ _ .i64 (p0.size:Int) 1) d (lb d) fun a S=>sMove (.bool (decide (1 < (p0.size:Int)))) S (wG 8 false 14 d d d a5) (.inl d) d d (lb d) fun a S=>?_
  rcases iS h with ⟨a8,h⟩ | ⟨a8,h⟩
  rotate_left
  ·refine sSkN 3 12 true 18 S d d a8 d fun a S=>sPickF (.bool false) S (wG 8 false 14 d d d a5) d d a8 d d (lb d) fun a S=>sPickF (.bool false) S (wN d) d d a5 d d (lb d) fun a S=>?_
   exact lT (⟨false,Option.some.inj h,S.fix [] [] (by decide) d d d⟩)
  refine sMove (.string p0) S (wG 12 true 18 d d d a8) (.inl d) d d (lb d) fun a S=>?_
  obtain ⟨x9,aj,h⟩:=bS h
  refine sIndexS (v:=p0) (j:=0) (k:=.i64) S (wG 12 true 18 d d d a8) d Try.underlying9 d d aj d (lb d) fun a S=>sBin _ S (wG 12 true 18 d d d a8) d d d (bEq _ _ _ _ .u8 x9 48) d (lb d) fun a S=>sPickT (.bool (x9 == 48)) S (wG 8 false 14 d d d a5) d d a8 d d (lb d) fun a S=>sPickF (.bool (x9 == 48)) S (wN d) d d a5 d d (lb d) fun a S=>?_
  exact lT (⟨x9 == 48,Option.some.inj h,S.fix [] [] (by decide) d d d⟩)
 obtain ⟨o3,rfl,S⟩:=hI
 have h:=g5
 try dsimp only at h
 rcases iS h with ⟨a9,h⟩ | ⟨a9,h⟩
 ·refine sCondT S d a9 (sSeq (fun aJ ak=>sRegion (sN S fun a S=>?_)))
  refine sN S fun a S=>?_
  refine lT (ak _ _ ?_)
  obtain rfl:=tS h
  exact wp_ret (rThen (sRet (.tuple #[iv 0,.bool false]) S (rsl2 d (rvT (t:=2) (v:=iv 0) S d) (rvT (t:=3) (v:=.bool false) S d)) ⟨(),d,S.mem.sel [] [] (by decide) d d⟩))
 refine sCondF S d a9 (wp_skip (leafT (aC _ _ ?_)))
 refine sSeq (fun aK al=>sRegion (sN S fun a S=>?_))
 refine lT (al _ _ ?_)
 obtain ⟨aG,h,ay⟩:=bS h
 refine sCut (fun a w=>∃ ae,.inl ae=aG∧St [] E [] w0 49 a w [(4,iv ae)] [] []) ?_ (fun a w hI=>?_)
 rotate_left
 ·obtain ⟨ae,rfl,S⟩:=hI
  have h:=ay
  try dsimp only at h
  refine sSeq (fun aL am=>sRegion (sM S fun a S=>?_))
  refine sN S fun a S=>?_
  refine sN S fun a S=>?_
  refine lT (am _ _ ?_)
  obtain rfl:=tS h
  exact wp_ret (sRet (.tuple #[iv ae,.bool true]) S (rsl2 d (rvT (t:=2) (v:=iv ae) S d) (rvT (t:=3) (v:=.bool true) S d)) ⟨(),d,S.mem.sel [] [] (by decide) d d⟩)
 refine sSeq (fun aM ao=>sRegion (sN S fun a S=>?_))
 refine lT (ao _ _ (wp_block ?_))
 obtain ⟨aO,hl,az⟩:=bS h
 refine sLoop hl (fun s0 a w=>match s0 with | (aa,a6)=>St [] E [] w0 49 a w [(0,.string p0),(4,iv aa),(5,iv a6)] [] []) (S.fix [] [] (by decide) d d d) ?_
 clear hl h
 intro s0 a w c0 hI h af
 obtain ⟨aa,a6⟩:=s0
 unfold raddleref25_Number_l1 at h
 dsimp only at h hI
 have S:=hI
 refine sSeq (fun aP ap=>sSeq (fun aQ aq=>sRegion (sM S fun a S=>?_)))
 refine sM S fun a S=>?_
 refine sLenS (v:=p0) S (wN d) d Try.underlying9 d d (lb d) fun a S=>sBin _ S (wN d) d d d (bLt _ _ _ _ .i64 a6 (p0.size:Int)) d (lb d) fun a S=>lT (aq _ _ ?_)
 rcases iS h with ⟨ab,h⟩ | ⟨ab,h⟩
 rotate_left
 ·refine sCondF S d ab ?_
  obtain rfl:=tS h
  obtain rfl:=af _ d
  have h:=az
  try dsimp only at h
  exact wp_exit (xThen (xThen (xHit (leafT (⟨aa,Option.some.inj h,S.fix [] [] (by decide) d d d⟩)))))
 refine sCondT S d ab (wp_skip (leafT (ap _ _ ?_)))
 refine sSeq (fun aR ar=>wp_block ?_)
 refine sSeq (fun aS au=>?_)
 obtain ⟨aH,h,aI⟩:=bS h
 refine sCut (fun a w=>∃ av,av=aH∧St [] E [] w0 49 a w [(0,.string p0),(4,iv aa),(5,iv a6),(39,.bool av)] [] []) ?_ (fun a w hI=>?_)
 ·refine sRegion (sM S fun a S=>?_)
  refine sM S fun a S=>?_
  obtain ⟨ah,ag,h⟩:=bS h
  refine sIndexS (v:=p0) (j:=a6) (k:=.i64) S (wN d) d Try.underlying9 d d ag d (lb d) fun a S=>sBin _ S (wN d) d d d (bLt _ _ _ _ .u8 ah 48) d (lb d) fun a S=>sM S fun a S=>?_
  rcases iS h with ⟨a0,h⟩ | ⟨a0,h⟩
  ·refine sSkN 4 4 false 34 S d d a0 d fun a S=>sPickT (.bool true) S (wN d) d d a0 d d (lb d) fun a S=>?_
   exact lT (⟨true,Option.some.inj h,S.fix [] [] (by decide) d d d⟩)
  refine sMove (.string p0) S (wG 4 false 34 d d d a0) (.inl d) d d (lb d) fun a S=>sMove (iv a6) S (wG 4 false 34 d d d a0) (.inl d) d d (lb d) fun a S=>sIndexS (v:=p0) (j:=a6) (k:=.i64) S (wG 4 false 34 d d d a0) d Try.underlying9 d d ag d (lb d) fun a S=>sBin _ S (wG 4 false 34 d d d a0) d d d (bGt _ _ _ _ .u8 ah 57) d (lb d) fun a S=>sPickF (.bool (decide (57 < ah))) S (wN d) d d a0 d d (lb d) fun a S=>?_
  exact lT (⟨decide (57 < ah),Option.some.inj h,S.fix [] [] (by decide) d d d⟩)
 obtain ⟨av,rfl,S⟩:=hI
 have h:=aI
 try dsimp only at h
 rcases iS h with ⟨ac,h⟩ | ⟨ac,h⟩
 ·refine sCondT S d ac (sSeq (fun aT aw=>sRegion (sN S fun a S=>?_)))
  refine sN S fun a S=>?_
  refine lT (aw _ _ ?_)
  obtain rfl:=tS h
  obtain rfl:=af _ d
  have h:=az
  try dsimp only at h
  obtain rfl:=tS h
  have h:=ay
  try dsimp only at h
  obtain rfl:=tS h
  exact wp_ret (rThen (rBlock (rThen (rThen (rBlock (rThen (sRet (.tuple #[iv 0,.bool false]) S (rsl2 d (rvT (t:=2) (v:=iv 0) S d) (rvT (t:=3) (v:=.bool false) S d)) ⟨(),d,S.mem.sel [] [] (by decide) d d⟩)))))))
 refine sCondF S d ac (wp_skip (leafT (au _ _ ?_)))
 refine sRegion (sM S fun a S=>?_)
 refine sBin _ S (wN d) d d d (bMul _ _ _ _ 10 aa) d (lb d) fun a S=>sM S fun a S=>?_
 refine sM S fun a S=>?_
 obtain ⟨ai,ax,h⟩:=bS h
 refine sIndexS (v:=p0) (j:=a6) (k:=.i64) S (wN d) d Try.underlying9 d d ax d (lb d) fun a S=>sBin _ S (wN d) d d d (bSubK _ _ _ _ .u8 ai 48) d (lb d) fun a S=>sConv (k:=.u8) (k2:=.i64) (b:=IntKind.u8.wrap (ai - 48)) S (wN d) d Try.underlying5 Try.underlying3 d d (lb d) fun a S=>sBin _ S (wN d) d d d (bAdd _ _ _ _ (w64 (10 * aa)) (IntKind.i64.wrap (IntKind.u8.wrap (ai - 48)))) d (lb d) fun a S=>sN S fun a S=>?_
 refine leafL (leafB (leafT (ar _ _ ?_)))
 refine sRegion (sM S fun a S=>?_)
 refine sBin _ S (wN d) d d d (bAdd _ _ _ _ a6 1) d (lb d) fun a S=>sN S fun a S=>?_
 exact lT (⟨(w64 ((w64 (10 * aa)) + (IntKind.i64.wrap (IntKind.u8.wrap (ai - 48)))),w64 (a6 + 1)),(Option.some.inj h).symm,(S.fix [] [] (by decide) d d d)⟩)
end Go.Proofs.Ytffikfajljbmnaa
