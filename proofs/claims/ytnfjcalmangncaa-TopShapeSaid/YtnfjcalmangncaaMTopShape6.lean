/- TopShape: walks, tables, laws. -/
import Derived.Test.YtnfjcalmangncaaProg
import Derived.Test.YtnfjcalmangncaaRows
import Derived.Test.YtnfjcalmangncaaMTopShape5
set_option linter.unusedVariables false
set_option linter.unusedSimpArgs false
set_option maxHeartbeats 4000000
set_option maxRecDepth 100000
namespace Go.Proofs.Ytnfjcalmangncaa
open Go.RowKit
def anc_raddleref37_side_0:List (List Nat):=[[],[],[0,1],[0,1,2],[0,1,2,3],[0,1,2,3,4],[0,1,2,3,4,5],[0,1,2,3,4,5,6],[0,1,2,3,4,5,6,7],[0,1,2,3,4,5,6,7],[0,1,2,3,4,5,6,7,8,9],[0,1,2,3,4,5,6,7,8,9,10],[0,1,2,3,4,5,6,7,8,9,10,11],[0,1,2,3,4,5,6,7,8,9,10,11,12],[0,1,2,3,4,5,6,7,8,9,10,11,12,13],[0,1,2,3,4,5,6,7,8,9,10,11,12,13,14],[0,1,2,3,4,5,6,7,8,9,10,11,12,13,14,15],[0,1,2,3,4,5,6,7,8,9,10,11,12,13,14,15],[0,1,2,3,4,5,6,7,8,9,10,11,12,13,14,15,16,17],[0,1,2,3,4,5,6,7,8,9,10,11,12,13,14,15,16,17,18],[0,1,2,3,4,5,6,7,8,9,10,11,12,13,14,15,16,17,18,19],[0,1,2,3,4,5,6,7,8,9,10,11,12,13,14,15,16,17,18,19,20],[0,1,2,3,4,5,6,7,8,9,10,11,12,13,14,15,16,17,18,19,20,21],[0,1,2,3,4,5,6,7,8,9,10,11,12,13,14,15,16,17,18,19,20,21,22],[0,1,2,3,4,5,6,7,8,9,10,11,12,13,14,15,16,17,18,19,20,21,22,23],[0,1,2,3,4,5,6,7,8,9,10,11,12,13,14,15,16,17,18,19,20,21,22,23,24],[0,1,2,3,4,5,6,7,8,9,10,11,12,13,14,15,16,17,18,19,20,21,22,23,24,25],[0,1,2,3,4,5,6,7,8,9,10,11,12,13,14,15,16,17,18,19,20,21,22,23,24,25,26],[0,1,2,3,4,5,6,7,8,9,10,11,12,13,14,15,16,17,18,19,20,21,22,23,24,25,26],[0,1,2,3,4,5,6,7,8,9,10,11,12,13,14,15,16,17,18,19,20,21,22,23,24,25,26,27,28],[0,1,2,3,4,5,6,7,8,9,10,11,12,13,14,15,16,17,18,19,20,21,22,23,24,25,26,27,28,29],[0,1,2,3,4,5,6,7,8,9,10,11,12,13,14,15,16,17,18,19,20,21,22,23,24,25,26,27,28,29,30],[0,1,2,3,4,5,6,7,8,9,10,11,12,13,14,15,16,17,18,19,20,21,22,23,24,25,26],[0,1,2,3,4,5,6,7,8,9,10,11,12,13,14,15,16,17,18,19,20,21,22,23,24,25,26],[0,1,2,3,4,5,6,7,8,9,10,11,12,13,14,15,16,17,18,19,20,21,22,23,24,25,26,33],[0,1,2,3,4,5,6,7,8,9,10,11,12,13,14,15,16,17,18,19,20,21,22,23,24,25,26,32,33,34],[0,1,2,3,4,5,6,7,8,9,10,11,12,13,14,15,16,17,18,19,20,21,22,23,24,25,26,32,33,34,35],[0,1,2,3,4,5,6,7,8,9,10,11,12,13,14,15,16,17,18,19,20,21,22,23,24,25,26,32,33,34,35,36],[0,1,2,3,4,5,6,7,8,9,10,11,12,13,14,15,16,17,18,19,20,21,22,23,24,25,26,27,28,29,30,31,32,33,34,35,36,37],[0,1,2,3,4,5,6,7,8,9,10,11,12,13,14,15,16,17,18,19,20,21,22,23,24,25,26,27,28,29,30,31,32,33,34,35,36,37,38],[0,1,2,3,4,5,6,7,8,9,10,11,12,13,14,15,16,17,18,19,20,21,22,23,24,25,26,27,28,29,30,31,32,33,34,35,36,37,38,39]]
noncomputable def raddleref37_side_l1 (p0:(List api_Point)):Int→Option (Int ⊕ (Bool ⊕ Unit)):=fun s0=>match s0 with
 | a9=>
  if decide (a9 < (p0.length:Int)) then
   Option.bind (α:=Bool) (
    (idxO p0 a9).bind fun aa=>
    (F_raddleref37_in aa.X).bind fun ab=>
    if !ab then
     some true
    else
     if decide (aa.Y < 0) then
      some true
     else
      if decide (99 < aa.Y) then
       some true
      else
       if decide (0 < a9) then
        (idxO p0 (w64 (a9 - 1))).bind fun ac=>
        some (decide (aa.Y ≤ ac.Y))
       else
        some false) fun ae=>
   if ae then
    some (.inr (.inl false))
   else
    some (.inl (w64 (a9 + 1)))
  else
   some (.inr (.inr ()))
noncomputable def F_raddleref37_side (p0:(List api_Point)):Option Bool:=
 Option.bind (α:=Bool) (
  if decide ((p0.length:Int) < 1) then
   some true
  else
   if decide (50 < (p0.length:Int)) then
    some true
   else
    (idxO p0 0).bind fun a9=>
    some (a9.Y != 0)) fun o5=>
 if o5 then
  some false
 else
  Option.bind (α:=Unit ⊕ Bool) (
   (whileO (raddleref37_side_l1 p0) 0).bind fun z0=>match z0 with
    | .inl z=>
     some (.inr z)
    | .inr _=>
     some (.inl ())) fun z0=>match z0 with
   | .inl _=>
    some true
   | .inr z=>
    some z
theorem c_raddleref37_side (E:Nat→Prop) (w0:World) (p0:(List api_Point)) (v0:Value) (r:Bool) (h:F_raddleref37_side p0=some r) (S:St0 E [] w0 w0 [] [fRep (rL r_api_Point) (v0) p0]) :
 Calls Try.prog 22 #[v0] w0 (Ret (X:=Unit) E [] w0 (fun _=>.bool r) (fun _=>[]) (fun _=>[])):=by
 unfold F_raddleref37_side at h
 obtain ⟨ac,ae,_,rfl,_⟩:=S.know (i:=0) (e:=fRep (rL r_api_Point) (v0) p0) d
 refine sEnter (args:=[.slice ac p0.length ae]) 66 Try.func22 d d (by simp) S (fun a S=>?_)
 refine sSeq (fun K3 cq=>sRegion (sN S fun a S=>?_))
 refine lT (cq _ _ (sSeq (fun K4 cr=>?_)))
 obtain ⟨t6,h,g7⟩:=bS h
 refine sCut (fun a w=>∃ o5,o5=t6∧St [] E [] w0 66 a w [(0,.slice ac p0.length ae),(18,.bool o5)] [] [fRep (rL r_api_Point) (.slice ac p0.length ae) p0]) ?_ (fun a w hI=>?_)
 ·refine sRegion (sM S fun a S=>?_)
  refine sLen S (wN d) d Try.underlying26 d d (lb d) fun a S=>sBin _ S (wN d) d d d (bLt _ _ _ _ .i64 (p0.length:Int) 1) d (lb d) fun a S=>sM S fun a S=>?_
  rcases iS h with ⟨aI,h⟩ | ⟨aI,h⟩
  ·refine sSkN 3 3 false 7 S d d aI d fun a S=>sPickT (.bool true) S (wN d) d d aI d d (lb d) fun a S=>sM S fun a S=>?_
   refine sSkN 5 8 false 12 S d d d d fun a S=>sPickT (.bool true) S (wN d) d d d d d (lb d) fun a S=>?_
   exact lT (⟨true,Option.some.inj h,S.fix [] [0] (by decide) d d d⟩)
  refine sMove (.slice ac p0.length ae) S (wG 3 false 7 d d d aI) (.inl d) d d (lb d) fun a S=>sLen S (wG 3 false 7 d d d aI) d Try.underlying26 d d (lb d) fun a S=>sBin _ S (wG 3 false 7 d d d aI) d d d (bGt _ _ _ _ .i64 (p0.length:Int) 50) d (lb d) fun a S=>sPickF (.bool (decide (50 < (p0.length:Int)))) S (wN d) d d aI d d (lb d) fun a S=>sM S fun a S=>?_
  rcases iS h with ⟨ao,h⟩ | ⟨ao,h⟩
  ·refine sSkN 5 8 false 12 S d d ao d fun a S=>sPickT (.bool true) S (wN d) d d ao d d (lb d) fun a S=>?_
   exact lT (⟨true,Option.some.inj h,S.fix [] [0] (by decide) d d d⟩)
  refine sMove (.slice ac p0.length ae) S (wG 8 false 12 d d d ao) (.inl d) d d (lb d) fun a S=>?_
  obtain ⟨aH,bA,h⟩:=bS h
  obtain ⟨ce,bB,S⟩:=pIdx (P:=Try.prog) (r:=r_api_Point) (v:=.slice ac p0.length ae) (xs:=p0) (j:=0) 26 33 0 S Try.underlying26 d d bA
  refine sIdxV S (wG 8 false 12 d d d ao) d d d bB d (lb d) fun a S=>?_
  obtain ⟨cf,bC,S⟩:=pFld (P:=Try.prog) (r:=r_api_Point) (s2:=(rI .i64)) (g:=(·.Y)) (q:=ce) (z:=aH) 33 1 0 1 S d d comp_api_Point_Y
  refine sFldV (q:=ce) S (wG 8 false 12 d d d ao) d d bC d (lb d) fun a S=>?_
  obtain ⟨cg,S⟩:=pLoad (r:=(rI .i64)) (q:=cf) (x:=aH.Y) 0 S d
  obtain rfl:cg=iv aH.Y:=S.mem.know (i:=1) (e:=fRep (rI .i64) (cg) aH.Y) d
  refine sLoadV1 (vq:=cf) 0 (iv aH.Y) S (wG 8 false 12 d d d ao) d d d d d (lb d) fun a S=>sBin _ S (wG 8 false 12 d d d ao) d d d (bNe _ _ _ _ .i64 aH.Y 0) d (lb d) fun a S=>sPickF (.bool (aH.Y != 0)) S (wN d) d d ao d d (lb d) fun a S=>?_
  exact lT (⟨aH.Y != 0,Option.some.inj h,S.fix [] [4] (by decide) d d d⟩)
 obtain ⟨o5,rfl,S⟩:=hI
 have h:=g7
 try dsimp only at h
 rcases iS h with ⟨aJ,h⟩ | ⟨aJ,h⟩
 ·refine sCondT S d aJ (sSeq (fun cy bD=>sRegion (sN S fun a S=>?_)))
  refine lT (bD _ _ ?_)
  obtain rfl:=tS h
  exact wp_ret (rThen (sRet (.bool false) S (rsl1 d (rvT (t:=2) (v:=.bool false) S d)) ⟨(),d,S.mem.sel [] [] (by decide) d d⟩))
 refine sCondF S d aJ (wp_skip (leafT (cr _ _ ?_)))
 obtain ⟨ct,h,ci⟩:=bS h
 refine sCut (fun a w=>.inl ()=ct∧St [] E [] w0 66 a w [] [] []) ?_ (fun a w hI=>?_)
 rotate_left
 ·obtain ⟨rfl,S⟩:=hI
  have h:=ci
  try dsimp only at h
  refine sSeq (fun cu aP=>sRegion (sN S fun a S=>?_))
  refine lT (aP _ _ ?_)
  obtain rfl:=tS h
  exact wp_ret (sRet (.bool true) S (rsl1 d (rvT (t:=2) (v:=.bool true) S d)) ⟨(),d,S.mem.sel [] [] (by decide) d d⟩)
 refine sSeq (fun cz bE=>sRegion (sN S fun a S=>?_))
 refine lT (bE _ _ (wp_block ?_))
 obtain ⟨cA,hl,cj⟩:=bS h
 refine sLoop hl (fun s0 a w=>match s0 with | aa=>St [] E [] w0 66 a w [(0,.slice ac p0.length ae),(3,iv aa)] [] [fRep (rL r_api_Point) (.slice ac p0.length ae) p0]) (S.fix [] [0] (by decide) d d d) ?_
 clear hl h
 intro aa a w c0 hI h aQ
 unfold raddleref37_side_l1 at h
 dsimp only at h hI
 have S:=hI
 refine sSeq (fun cB bG=>sSeq (fun cC bH=>sRegion (sM S fun a S=>?_)))
 refine sM S fun a S=>?_
 refine sLen S (wN d) d Try.underlying26 d d (lb d) fun a S=>sBin _ S (wN d) d d d (bLt _ _ _ _ .i64 aa (p0.length:Int)) d (lb d) fun a S=>lT (bH _ _ ?_)
 rcases iS h with ⟨aK,h⟩ | ⟨aK,h⟩
 rotate_left
 ·refine sCondF S d aK ?_
  obtain rfl:=tS h
  obtain rfl:=aQ _ d
  have h:=cj
  try dsimp only at h
  exact wp_exit (xThen (xThen (xHit (leafT (⟨Option.some.inj h,S.fix [] [] (by decide) d d d⟩)))))
 refine sCondT S d aK (wp_skip (leafT (bG _ _ ?_)))
 refine sSeq (fun cD bI=>wp_block ?_)
 obtain ⟨cv,h,cw⟩:=bS h
 refine sCut (fun a w=>∃ bJ,bJ=cv∧St [] E [] w0 66 a w [(0,.slice ac p0.length ae),(3,iv aa),(65,.bool bJ)] [] [fRep (rL r_api_Point) (.slice ac p0.length ae) p0]) ?_ (fun a w hI=>?_)
 rotate_left
 ·obtain ⟨bJ,rfl,S⟩:=hI
  have h:=cw
  try dsimp only at h
  rcases iS h with ⟨al,h⟩ | ⟨al,h⟩
  rotate_left
  ·refine sCondF S d al (wp_skip (leafB (leafT (bI _ _ ?_))))
   refine sRegion (sM S fun a S=>?_)
   refine sBin _ S (wN d) d d d (bAdd _ _ _ _ aa 1) d (lb d) fun a S=>sN S fun a S=>?_
   exact lT (⟨w64 (aa + 1),(Option.some.inj h).symm,(S.fix [] [0] (by decide) d d d)⟩)
  refine sCondT S d al (sSeq (fun cx aR=>sRegion (sN S fun a S=>?_)))
  refine lT (aR _ _ ?_)
  obtain rfl:=tS h
  obtain rfl:=aQ _ d
  have h:=cj
  try dsimp only at h
  obtain rfl:=tS h
  have h:=ci
  try dsimp only at h
  obtain rfl:=tS h
  exact wp_ret (rBlock (rThen (rThen (rBlock (rThen (sRet (.bool false) S (rsl1 d (rvT (t:=2) (v:=.bool false) S d)) ⟨(),d,S.mem.sel [] [] (by decide) d d⟩))))))
 obtain ⟨a9,aj,h⟩:=bS h
 obtain ⟨ai,am,h⟩:=bS h
 rcases iS h with ⟨ab,h⟩ | ⟨ab,h⟩
 ·obtain ⟨bK,bL,S⟩:=pIdx (P:=Try.prog) (r:=r_api_Point) (v:=.slice ac p0.length ae) (xs:=p0) (j:=aa) 26 33 0 S Try.underlying26 d d aj
  obtain ⟨bM,bN,S⟩:=pFld (P:=Try.prog) (r:=r_api_Point) (s2:=(rI .i64)) (g:=(·.X)) (q:=bK) (z:=a9) 33 0 0 0 S d d comp_api_Point_X
  obtain ⟨ck,S⟩:=pLoad (r:=(rI .i64)) (q:=bM) (x:=a9.X) 0 S d
  obtain rfl:ck=iv a9.X:=S.mem.know (i:=1) (e:=fRep (rI .i64) (ck) a9.X) d
  refine sDraw (nf:=[]) (W:=[(0,25,.slice ac p0.length ae),(1,26,iv aa),(2,27,bK),(3,28,bM),(4,29,iv a9.X),(5,30,.bool ai),(6,31,.bool (!ai)),(7,32,.bool (!ai)),(8,33,undef),(9,34,undef),(10,35,undef),(11,36,undef),(12,37,undef),(13,38,undef),(14,39,.bool true),(15,40,.bool true),(16,41,undef),(17,42,undef),(18,43,undef),(19,44,undef),(20,45,undef),(21,46,undef),(22,47,.bool true),(23,48,.bool true),(24,49,undef),(25,50,undef),(26,51,undef),(27,52,undef),(28,53,undef),(29,54,undef),(30,55,undef),(31,56,undef),(32,57,undef),(33,58,undef),(34,59,undef),(35,60,undef),(36,61,undef),(37,62,undef),(38,63,undef),(39,64,undef),(40,65,.bool true)]) d S ?_
  refine node_by (A:=anc_raddleref37_side_0) 41 (by kernel_rfl) (by kernel_rfl) (by kernel_rfl) (by kernel_rfl) (by kernel_rfl) [0,1,2,3,4,5,6,7,8,9,10,11,12,13,14,15,16,17,18,19,20,21,22,23,24,25,26,27,28,29,30,31,32,33,34,35,36,37,38,39,40] (by kernel_rfl) (by decide) (by decide) (fF ?_ (fF ?_ (fF ?_ (fF ?_ (fF ?_ (fF ?_ (fF ?_ (fF ?_ (fF ?_ (fF ?_ (fF ?_ (fF ?_ (fF ?_ (fF ?_ (fF ?_ (fF ?_ (fF ?_ (fF ?_ (fF ?_ (fF ?_ (fF ?_ (fF ?_ (fF ?_ (fF ?_ (fF ?_ (fF ?_ (fF ?_ (fF ?_ (fF ?_ (fF ?_ (fF ?_ (fF ?_ (fF ?_ (fF ?_ (fF ?_ (fF ?_ (fF ?_ (fF ?_ (fF ?_ (fF ?_ (fF ?_ (trivial)))))))))))))))))))))))))))))))))))))))))) [(0,.slice ac p0.length ae),(3,iv aa),(33,undef),(34,undef),(35,undef),(36,undef),(37,undef),(38,undef),(41,undef),(42,undef),(43,undef),(44,undef),(45,undef),(46,undef),(49,undef),(50,undef),(51,undef),(52,undef),(53,undef),(54,undef),(55,undef),(56,undef),(57,undef),(58,undef),(59,undef),(60,undef),(61,undef),(62,undef),(63,undef),(64,undef),(65,.bool true)] (fin_of [none,none,some 8,some 9,some 10,some 11,some 12,some 13,some 16,some 17,some 18,some 19,some 20,some 21,some 24,some 25,some 26,some 27,some 28,some 29,some 30,some 31,some 32,some 33,some 34,some 35,some 36,some 37,some 38,some 39,some 40] d (by kernel_rfl) (by kernel_rfl)) (fun _ a w S=>?_)
  ·exact fM 0 none d d d d (.inl d) d d d
  ·exact fM 1 none d d d d (.inl d) d d d
  ·refine fJ [(25,_),(26,_)] 2 [some 0,some 1] fun G a w S=>?_
   exact sIdxV S (wN d) d d d bL d (lb d) fun a S=>leafL ⟨d,S⟩
  ·refine fJ [(27,_)] 3 [some 2] fun G a w S=>?_
   exact sFldV (q:=bK) S (wN d) d d bN d (lb d) fun a S=>leafL ⟨d,S⟩
  ·refine fJ [(28,_)] 4 [some 3] fun G a w S=>?_
   exact sLoadV1 (vq:=bM) 0 (iv a9.X) S (wN d) d d d d d (lb d) fun a S=>leafL ⟨d,S⟩
  ·refine fJ [(29,_)] 5 [some 4] fun G a w S=>?_
   have S1:=S.mem
   refine sCq [iv a9.X] (.bool ai) S callee23 (S1.quiet [] d) (fun E1 w1 S1=>c_raddleref37_in E1 w1 a9.X ai am S1) fun a w S=>?_
   exact leafL ⟨d,S⟩
  ·refine fJ [(30,_)] 6 [some 5] fun G a w S=>?_
   exact sNot (b:=ai) S (wN d) d d d (lb d) fun a S=>leafL ⟨d,S⟩
  ·exact fM 7 (some 6) d d d d (.inl d) d d d
  ·refine fJ [(0,_),(32,_)] 8 [none,some 7] fun G a w S=>?_
   exact sSk S d d d ab d d fun a S=>leafL ⟨d,S⟩
  ·refine fJ [(3,_),(32,_)] 9 [none,some 7] fun G a w S=>?_
   exact sSk S d d d ab d d fun a S=>leafL ⟨d,S⟩
  ·refine fJ [(33,_),(34,_),(32,_)] 10 [some 8,some 9,some 7] fun G a w S=>?_
   exact sSk S d d d ab d d fun a S=>leafL ⟨d,S⟩
  ·refine fJ [(35,_),(32,_)] 11 [some 10,some 7] fun G a w S=>?_
   exact sSk S d d d ab d d fun a S=>leafL ⟨d,S⟩
  ·refine fJ [(36,_),(32,_)] 12 [some 11,some 7] fun G a w S=>?_
   exact sSk S d d d ab d d fun a S=>leafL ⟨d,S⟩
  ·refine fJ [(37,_),(32,_)] 13 [some 12,some 7] fun G a w S=>?_
   exact sSk S d d d ab d d fun a S=>leafL ⟨d,S⟩
  ·refine fJ [(32,_),(38,_)] 14 [some 7,some 13] fun G a w S=>?_
   exact sPickT (.bool true) S (wN d) d d ab d d (lb d) fun a S=>leafL ⟨d,S⟩
  ·exact fM 15 (some 14) d d d d (.inl d) d d d
  ·refine fJ [(0,_),(40,_)] 16 [none,some 15] fun G a w S=>?_
   exact sSk S d d d d d d fun a S=>leafL ⟨d,S⟩
  ·refine fJ [(3,_),(40,_)] 17 [none,some 15] fun G a w S=>?_
   exact sSk S d d d d d d fun a S=>leafL ⟨d,S⟩
  ·refine fJ [(41,_),(42,_),(40,_)] 18 [some 16,some 17,some 15] fun G a w S=>?_
   exact sSk S d d d d d d fun a S=>leafL ⟨d,S⟩
  ·refine fJ [(43,_),(40,_)] 19 [some 18,some 15] fun G a w S=>?_
   exact sSk S d d d d d d fun a S=>leafL ⟨d,S⟩
  ·refine fJ [(44,_),(40,_)] 20 [some 19,some 15] fun G a w S=>?_
   exact sSk S d d d d d d fun a S=>leafL ⟨d,S⟩
  ·refine fJ [(45,_),(40,_)] 21 [some 20,some 15] fun G a w S=>?_
   exact sSk S d d d d d d fun a S=>leafL ⟨d,S⟩
  ·refine fJ [(40,_),(46,_)] 22 [some 15,some 21] fun G a w S=>?_
   exact sPickT (.bool true) S (wN d) d d d d d (lb d) fun a S=>leafL ⟨d,S⟩
  ·exact fM 23 (some 22) d d d d (.inl d) d d d
  ·refine fJ [(3,_),(48,_)] 24 [none,some 23] fun G a w S=>?_
   exact sSk S d d d d d d fun a S=>leafL ⟨d,S⟩
  ·refine fJ [(49,_),(48,_)] 25 [some 24,some 23] fun G a w S=>?_
   exact sSk S d d d d d d fun a S=>leafL ⟨d,S⟩
  ·refine fJ [(50,_),(48,_)] 26 [some 25,some 23] fun G a w S=>?_
   exact sSk S d d d d d d fun a S=>leafL ⟨d,S⟩
  ·refine fJ [(0,_),(51,_)] 27 [none,some 26] fun G a w S=>?_
   exact sSkipU 26 true 51 52 S d d d d (lb d) fun a S=>leafL ⟨d,S⟩
  ·refine fJ [(3,_),(51,_)] 28 [none,some 26] fun G a w S=>?_
   exact sSkipU 26 true 51 53 S d d d d (lb d) fun a S=>leafL ⟨d,S⟩
  ·refine fJ [(52,_),(53,_),(51,_)] 29 [some 27,some 28,some 26] fun G a w S=>?_
   exact sSkipU 26 true 51 54 S d d d d (lb d) fun a S=>leafL ⟨d,S⟩
  ·refine fJ [(54,_),(51,_)] 30 [some 29,some 26] fun G a w S=>?_
   exact sSkipU 26 true 51 55 S d d d d (lb d) fun a S=>leafL ⟨d,S⟩
  ·refine fJ [(55,_),(51,_)] 31 [some 30,some 26] fun G a w S=>?_
   exact sSkipU 26 true 51 56 S d d d d (lb d) fun a S=>leafL ⟨d,S⟩
  ·refine fJ [(0,_),(51,_)] 32 [none,some 26] fun G a w S=>?_
   exact sSkipU 26 true 51 57 S d d d d (lb d) fun a S=>leafL ⟨d,S⟩
  ·refine fJ [(3,_),(51,_)] 33 [none,some 26] fun G a w S=>?_
   exact sSkipU 26 true 51 58 S d d d d (lb d) fun a S=>leafL ⟨d,S⟩
  ·refine fJ [(58,_),(51,_)] 34 [some 33,some 26] fun G a w S=>?_
   exact sSkipU 26 true 51 59 S d d d d (lb d) fun a S=>leafL ⟨d,S⟩
  ·refine fJ [(57,_),(59,_),(51,_)] 35 [some 32,some 34,some 26] fun G a w S=>?_
   exact sSkipU 26 true 51 60 S d d d d (lb d) fun a S=>leafL ⟨d,S⟩
  ·refine fJ [(60,_),(51,_)] 36 [some 35,some 26] fun G a w S=>?_
   exact sSkipU 26 true 51 61 S d d d d (lb d) fun a S=>leafL ⟨d,S⟩
  ·refine fJ [(61,_),(51,_)] 37 [some 36,some 26] fun G a w S=>?_
   exact sSkipU 26 true 51 62 S d d d d (lb d) fun a S=>leafL ⟨d,S⟩
  ·refine fJ [(56,_),(62,_),(51,_)] 38 [some 31,some 37,some 26] fun G a w S=>?_
   exact sSkipU 26 true 51 63 S d d d d (lb d) fun a S=>leafL ⟨d,S⟩
  ·refine fJ [(51,_),(63,_),(48,_)] 39 [some 26,some 38,some 23] fun G a w S=>?_
   exact sSk S d d d d d d fun a S=>leafL ⟨d,S⟩
  ·refine fJ [(48,_),(64,_)] 40 [some 23,some 39] fun G a w S=>?_
   exact sPickT (.bool true) S (wN d) d d d d d (lb d) fun a S=>leafL ⟨d,S⟩
  exact leafT (⟨true,Option.some.inj h,S.fix [] [4] (by decide) d d d⟩)
 rcases iS h with ⟨af,h⟩ | ⟨af,h⟩
 ·obtain ⟨bO,bP,S⟩:=pIdx (P:=Try.prog) (r:=r_api_Point) (v:=.slice ac p0.length ae) (xs:=p0) (j:=aa) 26 33 0 S Try.underlying26 d d aj
  obtain ⟨bQ,bR,S⟩:=pFld (P:=Try.prog) (r:=r_api_Point) (s2:=(rI .i64)) (g:=(·.X)) (q:=bO) (z:=a9) 33 0 0 0 S d d comp_api_Point_X
  obtain ⟨cl,S⟩:=pLoad (r:=(rI .i64)) (q:=bQ) (x:=a9.X) 0 S d
  obtain rfl:cl=iv a9.X:=S.mem.know (i:=1) (e:=fRep (rI .i64) (cl) a9.X) d
  obtain ⟨bt,bV,S⟩:=pIdx (P:=Try.prog) (r:=r_api_Point) (v:=.slice ac p0.length ae) (xs:=p0) (j:=aa) 26 33 4 S Try.underlying26 d d aj
  obtain ⟨bu,bW,S⟩:=pFld (P:=Try.prog) (r:=r_api_Point) (s2:=(rI .i64)) (g:=(·.Y)) (q:=bt) (z:=a9) 33 1 0 1 S d d comp_api_Point_Y
  obtain ⟨cm,S⟩:=pLoad (r:=(rI .i64)) (q:=bu) (x:=a9.Y) 0 S d
  obtain rfl:cm=iv a9.Y:=S.mem.know (i:=1) (e:=fRep (rI .i64) (cm) a9.Y) d
  refine sDraw (nf:=[]) (W:=[(0,25,.slice ac p0.length ae),(1,26,iv aa),(2,27,bO),(3,28,bQ),(4,29,iv a9.X),(5,30,.bool ai),(6,31,.bool (!ai)),(7,32,.bool (!ai)),(8,33,.slice ac p0.length ae),(9,34,iv aa),(10,35,bt),(11,36,bu),(12,37,iv a9.Y),(13,38,.bool (decide (a9.Y < 0))),(14,39,.bool (decide (a9.Y < 0))),(15,40,.bool (decide (a9.Y < 0))),(16,41,undef),(17,42,undef),(18,43,undef),(19,44,undef),(20,45,undef),(21,46,undef),(22,47,.bool true),(23,48,.bool true),(24,49,undef),(25,50,undef),(26,51,undef),(27,52,undef),(28,53,undef),(29,54,undef),(30,55,undef),(31,56,undef),(32,57,undef),(33,58,undef),(34,59,undef),(35,60,undef),(36,61,undef),(37,62,undef),(38,63,undef),(39,64,undef),(40,65,.bool true)]) d S ?_
  refine node_by (A:=anc_raddleref37_side_0) 41 (by kernel_rfl) (by kernel_rfl) (by kernel_rfl) (by kernel_rfl) (by kernel_rfl) [0,1,2,3,4,5,6,7,8,9,10,11,12,13,14,15,16,17,18,19,20,21,22,23,24,25,26,27,28,29,30,31,32,33,34,35,36,37,38,39,40] (by kernel_rfl) (by decide) (by decide) (fF ?_ (fF ?_ (fF ?_ (fF ?_ (fF ?_ (fF ?_ (fF ?_ (fF ?_ (fF ?_ (fF ?_ (fF ?_ (fF ?_ (fF ?_ (fF ?_ (fF ?_ (fF ?_ (fF ?_ (fF ?_ (fF ?_ (fF ?_ (fF ?_ (fF ?_ (fF ?_ (fF ?_ (fF ?_ (fF ?_ (fF ?_ (fF ?_ (fF ?_ (fF ?_ (fF ?_ (fF ?_ (fF ?_ (fF ?_ (fF ?_ (fF ?_ (fF ?_ (fF ?_ (fF ?_ (fF ?_ (fF ?_ (trivial)))))))))))))))))))))))))))))))))))))))))) [(0,.slice ac p0.length ae),(3,iv aa),(33,.slice ac p0.length ae),(34,iv aa),(35,bt),(36,bu),(37,iv a9.Y),(38,.bool (decide (a9.Y < 0))),(41,undef),(42,undef),(43,undef),(44,undef),(45,undef),(46,undef),(49,undef),(50,undef),(51,undef),(52,undef),(53,undef),(54,undef),(55,undef),(56,undef),(57,undef),(58,undef),(59,undef),(60,undef),(61,undef),(62,undef),(63,undef),(64,undef),(65,.bool true)] (fin_of [none,none,some 8,some 9,some 10,some 11,some 12,some 13,some 16,some 17,some 18,some 19,some 20,some 21,some 24,some 25,some 26,some 27,some 28,some 29,some 30,some 31,some 32,some 33,some 34,some 35,some 36,some 37,some 38,some 39,some 40] d (by kernel_rfl) (by kernel_rfl)) (fun _ a w S=>?_)
  ·exact fM 0 none d d d d (.inl d) d d d
  ·exact fM 1 none d d d d (.inl d) d d d
  ·refine fJ [(25,_),(26,_)] 2 [some 0,some 1] fun G a w S=>?_
   exact sIdxV S (wN d) d d d bP d (lb d) fun a S=>leafL ⟨d,S⟩
  ·refine fJ [(27,_)] 3 [some 2] fun G a w S=>?_
   exact sFldV (q:=bO) S (wN d) d d bR d (lb d) fun a S=>leafL ⟨d,S⟩
  ·refine fJ [(28,_)] 4 [some 3] fun G a w S=>?_
   exact sLoadV1 (vq:=bQ) 4 (iv a9.X) S (wN d) d d d d d (lb d) fun a S=>leafL ⟨d,S⟩
  ·refine fJ [(29,_)] 5 [some 4] fun G a w S=>?_
   have S1:=S.mem
   refine sCq [iv a9.X] (.bool ai) S callee23 (S1.quiet [] d) (fun E1 w1 S1=>c_raddleref37_in E1 w1 a9.X ai am S1) fun a w S=>?_
   exact leafL ⟨d,S⟩
  ·refine fJ [(30,_)] 6 [some 5] fun G a w S=>?_
   exact sNot (b:=ai) S (wN d) d d d (lb d) fun a S=>leafL ⟨d,S⟩
  ·exact fM 7 (some 6) d d d d (.inl d) d d d
  ·refine fJ [(0,_),(32,_)] 8 [none,some 7] fun G a w S=>?_
   exact sMove (.slice ac p0.length ae) S (wG 7 false 32 d d d ab) (.inl d) d d (lb d) fun a S=>leafL ⟨d,S⟩
  ·refine fJ [(3,_),(32,_)] 9 [none,some 7] fun G a w S=>?_
   exact sMove (iv aa) S (wG 7 false 32 d d d ab) (.inl d) d d (lb d) fun a S=>leafL ⟨d,S⟩
  ·refine fJ [(33,_),(34,_),(32,_)] 10 [some 8,some 9,some 7] fun G a w S=>?_
   exact sIdxV S (wG 7 false 32 d d d ab) d d d bV d (lb d) fun a S=>leafL ⟨d,S⟩
  ·refine fJ [(35,_),(32,_)] 11 [some 10,some 7] fun G a w S=>?_
   exact sFldV (q:=bt) S (wG 7 false 32 d d d ab) d d bW d (lb d) fun a S=>leafL ⟨d,S⟩
  ·refine fJ [(36,_),(32,_)] 12 [some 11,some 7] fun G a w S=>?_
   exact sLoadV1 (vq:=bu) 0 (iv a9.Y) S (wG 7 false 32 d d d ab) d d d d d (lb d) fun a S=>leafL ⟨d,S⟩
  ·refine fJ [(37,_),(32,_)] 13 [some 12,some 7] fun G a w S=>?_
   exact sBin _ S (wG 7 false 32 d d d ab) d d d (bLt _ _ _ _ .i64 a9.Y 0) d (lb d) fun a S=>leafL ⟨d,S⟩
  ·refine fJ [(32,_),(38,_)] 14 [some 7,some 13] fun G a w S=>?_
   exact sPickF (.bool (decide (a9.Y < 0))) S (wN d) d d ab d d (lb d) fun a S=>leafL ⟨d,S⟩
  ·exact fM 15 (some 14) d d d d (.inl d) d d d
  ·refine fJ [(0,_),(40,_)] 16 [none,some 15] fun G a w S=>?_
   exact sSk S d d d af d d fun a S=>leafL ⟨d,S⟩
  ·refine fJ [(3,_),(40,_)] 17 [none,some 15] fun G a w S=>?_
   exact sSk S d d d af d d fun a S=>leafL ⟨d,S⟩
  ·refine fJ [(41,_),(42,_),(40,_)] 18 [some 16,some 17,some 15] fun G a w S=>?_
   exact sSk S d d d af d d fun a S=>leafL ⟨d,S⟩
  ·refine fJ [(43,_),(40,_)] 19 [some 18,some 15] fun G a w S=>?_
   exact sSk S d d d af d d fun a S=>leafL ⟨d,S⟩
  ·refine fJ [(44,_),(40,_)] 20 [some 19,some 15] fun G a w S=>?_
   exact sSk S d d d af d d fun a S=>leafL ⟨d,S⟩
  ·refine fJ [(45,_),(40,_)] 21 [some 20,some 15] fun G a w S=>?_
   exact sSk S d d d af d d fun a S=>leafL ⟨d,S⟩
  ·refine fJ [(40,_),(46,_)] 22 [some 15,some 21] fun G a w S=>?_
   exact sPickT (.bool true) S (wN d) d d af d d (lb d) fun a S=>leafL ⟨d,S⟩
  ·exact fM 23 (some 22) d d d d (.inl d) d d d
  ·refine fJ [(3,_),(48,_)] 24 [none,some 23] fun G a w S=>?_
   exact sSk S d d d d d d fun a S=>leafL ⟨d,S⟩
  ·refine fJ [(49,_),(48,_)] 25 [some 24,some 23] fun G a w S=>?_
   exact sSk S d d d d d d fun a S=>leafL ⟨d,S⟩
  ·refine fJ [(50,_),(48,_)] 26 [some 25,some 23] fun G a w S=>?_
   exact sSk S d d d d d d fun a S=>leafL ⟨d,S⟩
  ·refine fJ [(0,_),(51,_)] 27 [none,some 26] fun G a w S=>?_
   exact sSkipU 26 true 51 52 S d d d d (lb d) fun a S=>leafL ⟨d,S⟩
  ·refine fJ [(3,_),(51,_)] 28 [none,some 26] fun G a w S=>?_
   exact sSkipU 26 true 51 53 S d d d d (lb d) fun a S=>leafL ⟨d,S⟩
  ·refine fJ [(52,_),(53,_),(51,_)] 29 [some 27,some 28,some 26] fun G a w S=>?_
   exact sSkipU 26 true 51 54 S d d d d (lb d) fun a S=>leafL ⟨d,S⟩
  ·refine fJ [(54,_),(51,_)] 30 [some 29,some 26] fun G a w S=>?_
   exact sSkipU 26 true 51 55 S d d d d (lb d) fun a S=>leafL ⟨d,S⟩
  ·refine fJ [(55,_),(51,_)] 31 [some 30,some 26] fun G a w S=>?_
   exact sSkipU 26 true 51 56 S d d d d (lb d) fun a S=>leafL ⟨d,S⟩
  ·refine fJ [(0,_),(51,_)] 32 [none,some 26] fun G a w S=>?_
   exact sSkipU 26 true 51 57 S d d d d (lb d) fun a S=>leafL ⟨d,S⟩
  ·refine fJ [(3,_),(51,_)] 33 [none,some 26] fun G a w S=>?_
   exact sSkipU 26 true 51 58 S d d d d (lb d) fun a S=>leafL ⟨d,S⟩
  ·refine fJ [(58,_),(51,_)] 34 [some 33,some 26] fun G a w S=>?_
   exact sSkipU 26 true 51 59 S d d d d (lb d) fun a S=>leafL ⟨d,S⟩
  ·refine fJ [(57,_),(59,_),(51,_)] 35 [some 32,some 34,some 26] fun G a w S=>?_
   exact sSkipU 26 true 51 60 S d d d d (lb d) fun a S=>leafL ⟨d,S⟩
  ·refine fJ [(60,_),(51,_)] 36 [some 35,some 26] fun G a w S=>?_
   exact sSkipU 26 true 51 61 S d d d d (lb d) fun a S=>leafL ⟨d,S⟩
  ·refine fJ [(61,_),(51,_)] 37 [some 36,some 26] fun G a w S=>?_
   exact sSkipU 26 true 51 62 S d d d d (lb d) fun a S=>leafL ⟨d,S⟩
  ·refine fJ [(56,_),(62,_),(51,_)] 38 [some 31,some 37,some 26] fun G a w S=>?_
   exact sSkipU 26 true 51 63 S d d d d (lb d) fun a S=>leafL ⟨d,S⟩
  ·refine fJ [(51,_),(63,_),(48,_)] 39 [some 26,some 38,some 23] fun G a w S=>?_
   exact sSk S d d d d d d fun a S=>leafL ⟨d,S⟩
  ·refine fJ [(48,_),(64,_)] 40 [some 23,some 39] fun G a w S=>?_
   exact sPickT (.bool true) S (wN d) d d d d d (lb d) fun a S=>leafL ⟨d,S⟩
  exact leafT (⟨true,Option.some.inj h,S.fix [] [8] (by decide) d d d⟩)
 rcases iS h with ⟨ah,h⟩ | ⟨ah,h⟩
 ·obtain ⟨bX,bY,S⟩:=pIdx (P:=Try.prog) (r:=r_api_Point) (v:=.slice ac p0.length ae) (xs:=p0) (j:=aa) 26 33 0 S Try.underlying26 d d aj
  obtain ⟨bZ,c6,S⟩:=pFld (P:=Try.prog) (r:=r_api_Point) (s2:=(rI .i64)) (g:=(·.X)) (q:=bX) (z:=a9) 33 0 0 0 S d d comp_api_Point_X
  obtain ⟨cn,S⟩:=pLoad (r:=(rI .i64)) (q:=bZ) (x:=a9.X) 0 S d
  obtain rfl:cn=iv a9.X:=S.mem.know (i:=1) (e:=fRep (rI .i64) (cn) a9.X) d
  obtain ⟨bv,c7,S⟩:=pIdx (P:=Try.prog) (r:=r_api_Point) (v:=.slice ac p0.length ae) (xs:=p0) (j:=aa) 26 33 4 S Try.underlying26 d d aj
  obtain ⟨bw,c8,S⟩:=pFld (P:=Try.prog) (r:=r_api_Point) (s2:=(rI .i64)) (g:=(·.Y)) (q:=bv) (z:=a9) 33 1 0 1 S d d comp_api_Point_Y
  obtain ⟨co,S⟩:=pLoad (r:=(rI .i64)) (q:=bw) (x:=a9.Y) 0 S d
  obtain rfl:co=iv a9.Y:=S.mem.know (i:=1) (e:=fRep (rI .i64) (co) a9.Y) d
  obtain ⟨bx,c9,S⟩:=pIdx (P:=Try.prog) (r:=r_api_Point) (v:=.slice ac p0.length ae) (xs:=p0) (j:=aa) 26 33 8 S Try.underlying26 d d aj
  obtain ⟨bz,ca,S⟩:=pFld (P:=Try.prog) (r:=r_api_Point) (s2:=(rI .i64)) (g:=(·.Y)) (q:=bx) (z:=a9) 33 1 0 1 S d d comp_api_Point_Y
  obtain ⟨cp,S⟩:=pLoad (r:=(rI .i64)) (q:=bz) (x:=a9.Y) 0 S d
  obtain rfl:cp=iv a9.Y:=S.mem.know (i:=1) (e:=fRep (rI .i64) (cp) a9.Y) d
  refine sDraw (nf:=[]) (W:=[(0,25,.slice ac p0.length ae),(1,26,iv aa),(2,27,bX),(3,28,bZ),(4,29,iv a9.X),(5,30,.bool ai),(6,31,.bool (!ai)),(7,32,.bool (!ai)),(8,33,.slice ac p0.length ae),(9,34,iv aa),(10,35,bv),(11,36,bw),(12,37,iv a9.Y),(13,38,.bool (decide (a9.Y < 0))),(14,39,.bool (decide (a9.Y < 0))),(15,40,.bool (decide (a9.Y < 0))),(16,41,.slice ac p0.length ae),(17,42,iv aa),(18,43,bx),(19,44,bz),(20,45,iv a9.Y),(21,46,.bool (decide (99 < a9.Y))),(22,47,.bool (decide (99 < a9.Y))),(23,48,.bool (decide (99 < a9.Y))),(24,49,undef),(25,50,undef),(26,51,undef),(27,52,undef),(28,53,undef),(29,54,undef),(30,55,undef),(31,56,undef),(32,57,undef),(33,58,undef),(34,59,undef),(35,60,undef),(36,61,undef),(37,62,undef),(38,63,undef),(39,64,undef),(40,65,.bool true)]) d S ?_
  refine node_by (A:=anc_raddleref37_side_0) 41 (by kernel_rfl) (by kernel_rfl) (by kernel_rfl) (by kernel_rfl) (by kernel_rfl) [0,1,2,3,4,5,6,7,8,9,10,11,12,13,14,15,16,17,18,19,20,21,22,23,24,25,26,27,28,29,30,31,32,33,34,35,36,37,38,39,40] (by kernel_rfl) (by decide) (by decide) (fF ?_ (fF ?_ (fF ?_ (fF ?_ (fF ?_ (fF ?_ (fF ?_ (fF ?_ (fF ?_ (fF ?_ (fF ?_ (fF ?_ (fF ?_ (fF ?_ (fF ?_ (fF ?_ (fF ?_ (fF ?_ (fF ?_ (fF ?_ (fF ?_ (fF ?_ (fF ?_ (fF ?_ (fF ?_ (fF ?_ (fF ?_ (fF ?_ (fF ?_ (fF ?_ (fF ?_ (fF ?_ (fF ?_ (fF ?_ (fF ?_ (fF ?_ (fF ?_ (fF ?_ (fF ?_ (fF ?_ (fF ?_ (trivial)))))))))))))))))))))))))))))))))))))))))) [(0,.slice ac p0.length ae),(3,iv aa),(33,.slice ac p0.length ae),(34,iv aa),(35,bv),(36,bw),(37,iv a9.Y),(38,.bool (decide (a9.Y < 0))),(41,.slice ac p0.length ae),(42,iv aa),(43,bx),(44,bz),(45,iv a9.Y),(46,.bool (decide (99 < a9.Y))),(49,undef),(50,undef),(51,undef),(52,undef),(53,undef),(54,undef),(55,undef),(56,undef),(57,undef),(58,undef),(59,undef),(60,undef),(61,undef),(62,undef),(63,undef),(64,undef),(65,.bool true)] (fin_of [none,none,some 8,some 9,some 10,some 11,some 12,some 13,some 16,some 17,some 18,some 19,some 20,some 21,some 24,some 25,some 26,some 27,some 28,some 29,some 30,some 31,some 32,some 33,some 34,some 35,some 36,some 37,some 38,some 39,some 40] d (by kernel_rfl) (by kernel_rfl)) (fun _ a w S=>?_)
  ·exact fM 0 none d d d d (.inl d) d d d
  ·exact fM 1 none d d d d (.inl d) d d d
  ·refine fJ [(25,_),(26,_)] 2 [some 0,some 1] fun G a w S=>?_
   exact sIdxV S (wN d) d d d bY d (lb d) fun a S=>leafL ⟨d,S⟩
  ·refine fJ [(27,_)] 3 [some 2] fun G a w S=>?_
   exact sFldV (q:=bX) S (wN d) d d c6 d (lb d) fun a S=>leafL ⟨d,S⟩
  ·refine fJ [(28,_)] 4 [some 3] fun G a w S=>?_
   exact sLoadV1 (vq:=bZ) 8 (iv a9.X) S (wN d) d d d d d (lb d) fun a S=>leafL ⟨d,S⟩
  ·refine fJ [(29,_)] 5 [some 4] fun G a w S=>?_
   have S1:=S.mem
   refine sCq [iv a9.X] (.bool ai) S callee23 (S1.quiet [] d) (fun E1 w1 S1=>c_raddleref37_in E1 w1 a9.X ai am S1) fun a w S=>?_
   exact leafL ⟨d,S⟩
  ·refine fJ [(30,_)] 6 [some 5] fun G a w S=>?_
   exact sNot (b:=ai) S (wN d) d d d (lb d) fun a S=>leafL ⟨d,S⟩
  ·exact fM 7 (some 6) d d d d (.inl d) d d d
  ·refine fJ [(0,_),(32,_)] 8 [none,some 7] fun G a w S=>?_
   exact sMove (.slice ac p0.length ae) S (wG 7 false 32 d d d ab) (.inl d) d d (lb d) fun a S=>leafL ⟨d,S⟩
  ·refine fJ [(3,_),(32,_)] 9 [none,some 7] fun G a w S=>?_
   exact sMove (iv aa) S (wG 7 false 32 d d d ab) (.inl d) d d (lb d) fun a S=>leafL ⟨d,S⟩
  ·refine fJ [(33,_),(34,_),(32,_)] 10 [some 8,some 9,some 7] fun G a w S=>?_
   exact sIdxV S (wG 7 false 32 d d d ab) d d d c7 d (lb d) fun a S=>leafL ⟨d,S⟩
  ·refine fJ [(35,_),(32,_)] 11 [some 10,some 7] fun G a w S=>?_
   exact sFldV (q:=bv) S (wG 7 false 32 d d d ab) d d c8 d (lb d) fun a S=>leafL ⟨d,S⟩
  ·refine fJ [(36,_),(32,_)] 12 [some 11,some 7] fun G a w S=>?_
   exact sLoadV1 (vq:=bw) 4 (iv a9.Y) S (wG 7 false 32 d d d ab) d d d d d (lb d) fun a S=>leafL ⟨d,S⟩
  ·refine fJ [(37,_),(32,_)] 13 [some 12,some 7] fun G a w S=>?_
   exact sBin _ S (wG 7 false 32 d d d ab) d d d (bLt _ _ _ _ .i64 a9.Y 0) d (lb d) fun a S=>leafL ⟨d,S⟩
  ·refine fJ [(32,_),(38,_)] 14 [some 7,some 13] fun G a w S=>?_
   exact sPickF (.bool (decide (a9.Y < 0))) S (wN d) d d ab d d (lb d) fun a S=>leafL ⟨d,S⟩
  ·exact fM 15 (some 14) d d d d (.inl d) d d d
  ·refine fJ [(0,_),(40,_)] 16 [none,some 15] fun G a w S=>?_
   exact sMove (.slice ac p0.length ae) S (wG 15 false 40 d d d af) (.inl d) d d (lb d) fun a S=>leafL ⟨d,S⟩
  ·refine fJ [(3,_),(40,_)] 17 [none,some 15] fun G a w S=>?_
   exact sMove (iv aa) S (wG 15 false 40 d d d af) (.inl d) d d (lb d) fun a S=>leafL ⟨d,S⟩
  ·refine fJ [(41,_),(42,_),(40,_)] 18 [some 16,some 17,some 15] fun G a w S=>?_
   exact sIdxV S (wG 15 false 40 d d d af) d d d c9 d (lb d) fun a S=>leafL ⟨d,S⟩
  ·refine fJ [(43,_),(40,_)] 19 [some 18,some 15] fun G a w S=>?_
   exact sFldV (q:=bx) S (wG 15 false 40 d d d af) d d ca d (lb d) fun a S=>leafL ⟨d,S⟩
  ·refine fJ [(44,_),(40,_)] 20 [some 19,some 15] fun G a w S=>?_
   exact sLoadV1 (vq:=bz) 0 (iv a9.Y) S (wG 15 false 40 d d d af) d d d d d (lb d) fun a S=>leafL ⟨d,S⟩
  ·refine fJ [(45,_),(40,_)] 21 [some 20,some 15] fun G a w S=>?_
   exact sBin _ S (wG 15 false 40 d d d af) d d d (bGt _ _ _ _ .i64 a9.Y 99) d (lb d) fun a S=>leafL ⟨d,S⟩
  ·refine fJ [(40,_),(46,_)] 22 [some 15,some 21] fun G a w S=>?_
   exact sPickF (.bool (decide (99 < a9.Y))) S (wN d) d d af d d (lb d) fun a S=>leafL ⟨d,S⟩
  ·exact fM 23 (some 22) d d d d (.inl d) d d d
  ·refine fJ [(3,_),(48,_)] 24 [none,some 23] fun G a w S=>?_
   exact sSk S d d d ah d d fun a S=>leafL ⟨d,S⟩
  ·refine fJ [(49,_),(48,_)] 25 [some 24,some 23] fun G a w S=>?_
   exact sSk S d d d ah d d fun a S=>leafL ⟨d,S⟩
  ·refine fJ [(50,_),(48,_)] 26 [some 25,some 23] fun G a w S=>?_
   exact sSk S d d d ah d d fun a S=>leafL ⟨d,S⟩
  ·refine fJ [(0,_),(51,_)] 27 [none,some 26] fun G a w S=>?_
   exact sSkipU 26 true 51 52 S d d d d (lb d) fun a S=>leafL ⟨d,S⟩
  ·refine fJ [(3,_),(51,_)] 28 [none,some 26] fun G a w S=>?_
   exact sSkipU 26 true 51 53 S d d d d (lb d) fun a S=>leafL ⟨d,S⟩
  ·refine fJ [(52,_),(53,_),(51,_)] 29 [some 27,some 28,some 26] fun G a w S=>?_
   exact sSkipU 26 true 51 54 S d d d d (lb d) fun a S=>leafL ⟨d,S⟩
  ·refine fJ [(54,_),(51,_)] 30 [some 29,some 26] fun G a w S=>?_
   exact sSkipU 26 true 51 55 S d d d d (lb d) fun a S=>leafL ⟨d,S⟩
  ·refine fJ [(55,_),(51,_)] 31 [some 30,some 26] fun G a w S=>?_
   exact sSkipU 26 true 51 56 S d d d d (lb d) fun a S=>leafL ⟨d,S⟩
  ·refine fJ [(0,_),(51,_)] 32 [none,some 26] fun G a w S=>?_
   exact sSkipU 26 true 51 57 S d d d d (lb d) fun a S=>leafL ⟨d,S⟩
  ·refine fJ [(3,_),(51,_)] 33 [none,some 26] fun G a w S=>?_
   exact sSkipU 26 true 51 58 S d d d d (lb d) fun a S=>leafL ⟨d,S⟩
  ·refine fJ [(58,_),(51,_)] 34 [some 33,some 26] fun G a w S=>?_
   exact sSkipU 26 true 51 59 S d d d d (lb d) fun a S=>leafL ⟨d,S⟩
  ·refine fJ [(57,_),(59,_),(51,_)] 35 [some 32,some 34,some 26] fun G a w S=>?_
   exact sSkipU 26 true 51 60 S d d d d (lb d) fun a S=>leafL ⟨d,S⟩
  ·refine fJ [(60,_),(51,_)] 36 [some 35,some 26] fun G a w S=>?_
   exact sSkipU 26 true 51 61 S d d d d (lb d) fun a S=>leafL ⟨d,S⟩
  ·refine fJ [(61,_),(51,_)] 37 [some 36,some 26] fun G a w S=>?_
   exact sSkipU 26 true 51 62 S d d d d (lb d) fun a S=>leafL ⟨d,S⟩
  ·refine fJ [(56,_),(62,_),(51,_)] 38 [some 31,some 37,some 26] fun G a w S=>?_
   exact sSkipU 26 true 51 63 S d d d d (lb d) fun a S=>leafL ⟨d,S⟩
  ·refine fJ [(51,_),(63,_),(48,_)] 39 [some 26,some 38,some 23] fun G a w S=>?_
   exact sSk S d d d ah d d fun a S=>leafL ⟨d,S⟩
  ·refine fJ [(48,_),(64,_)] 40 [some 23,some 39] fun G a w S=>?_
   exact sPickT (.bool true) S (wN d) d d ah d d (lb d) fun a S=>leafL ⟨d,S⟩
  exact leafT (⟨true,Option.some.inj h,S.fix [] [12] (by decide) d d d⟩)
 rcases iS h with ⟨ag,h⟩ | ⟨ag,h⟩
 rotate_left
 ·obtain ⟨aL,aS,S⟩:=pIdx (P:=Try.prog) (r:=r_api_Point) (v:=.slice ac p0.length ae) (xs:=p0) (j:=aa) 26 33 0 S Try.underlying26 d d aj
  obtain ⟨aM,aT,S⟩:=pFld (P:=Try.prog) (r:=r_api_Point) (s2:=(rI .i64)) (g:=(·.X)) (q:=aL) (z:=a9) 33 0 0 0 S d d comp_api_Point_X
  obtain ⟨aU,S⟩:=pLoad (r:=(rI .i64)) (q:=aM) (x:=a9.X) 0 S d
  obtain rfl:aU=iv a9.X:=S.mem.know (i:=1) (e:=fRep (rI .i64) (aU) a9.X) d
  obtain ⟨ap,aV,S⟩:=pIdx (P:=Try.prog) (r:=r_api_Point) (v:=.slice ac p0.length ae) (xs:=p0) (j:=aa) 26 33 4 S Try.underlying26 d d aj
  obtain ⟨aq,aW,S⟩:=pFld (P:=Try.prog) (r:=r_api_Point) (s2:=(rI .i64)) (g:=(·.Y)) (q:=ap) (z:=a9) 33 1 0 1 S d d comp_api_Point_Y
  obtain ⟨aX,S⟩:=pLoad (r:=(rI .i64)) (q:=aq) (x:=a9.Y) 0 S d
  obtain rfl:aX=iv a9.Y:=S.mem.know (i:=1) (e:=fRep (rI .i64) (aX) a9.Y) d
  obtain ⟨ar,aZ,S⟩:=pIdx (P:=Try.prog) (r:=r_api_Point) (v:=.slice ac p0.length ae) (xs:=p0) (j:=aa) 26 33 8 S Try.underlying26 d d aj
  obtain ⟨au,b8,S⟩:=pFld (P:=Try.prog) (r:=r_api_Point) (s2:=(rI .i64)) (g:=(·.Y)) (q:=ar) (z:=a9) 33 1 0 1 S d d comp_api_Point_Y
  obtain ⟨ba,S⟩:=pLoad (r:=(rI .i64)) (q:=au) (x:=a9.Y) 0 S d
  obtain rfl:ba=iv a9.Y:=S.mem.know (i:=1) (e:=fRep (rI .i64) (ba) a9.Y) d
  refine sDraw (nf:=[]) (W:=[(0,25,.slice ac p0.length ae),(1,26,iv aa),(2,27,aL),(3,28,aM),(4,29,iv a9.X),(5,30,.bool ai),(6,31,.bool (!ai)),(7,32,.bool (!ai)),(8,33,.slice ac p0.length ae),(9,34,iv aa),(10,35,ap),(11,36,aq),(12,37,iv a9.Y),(13,38,.bool (decide (a9.Y < 0))),(14,39,.bool (decide (a9.Y < 0))),(15,40,.bool (decide (a9.Y < 0))),(16,41,.slice ac p0.length ae),(17,42,iv aa),(18,43,ar),(19,44,au),(20,45,iv a9.Y),(21,46,.bool (decide (99 < a9.Y))),(22,47,.bool (decide (99 < a9.Y))),(23,48,.bool (decide (99 < a9.Y))),(24,49,iv aa),(25,50,.bool (decide (0 < aa))),(26,51,.bool (decide (0 < aa))),(27,52,undef),(28,53,undef),(29,54,undef),(30,55,undef),(31,56,undef),(32,57,undef),(33,58,undef),(34,59,undef),(35,60,undef),(36,61,undef),(37,62,undef),(38,63,undef),(39,64,.bool false),(40,65,.bool false)]) d S ?_
  refine node_by (A:=anc_raddleref37_side_0) 41 (by kernel_rfl) (by kernel_rfl) (by kernel_rfl) (by kernel_rfl) (by kernel_rfl) [0,1,2,3,4,5,6,7,8,9,10,11,12,13,14,15,16,17,18,19,20,21,22,23,24,25,26,27,28,29,30,31,32,33,34,35,36,37,38,39,40] (by kernel_rfl) (by decide) (by decide) (fF ?_ (fF ?_ (fF ?_ (fF ?_ (fF ?_ (fF ?_ (fF ?_ (fF ?_ (fF ?_ (fF ?_ (fF ?_ (fF ?_ (fF ?_ (fF ?_ (fF ?_ (fF ?_ (fF ?_ (fF ?_ (fF ?_ (fF ?_ (fF ?_ (fF ?_ (fF ?_ (fF ?_ (fF ?_ (fF ?_ (fF ?_ (fF ?_ (fF ?_ (fF ?_ (fF ?_ (fF ?_ (fF ?_ (fF ?_ (fF ?_ (fF ?_ (fF ?_ (fF ?_ (fF ?_ (fF ?_ (fF ?_ (trivial)))))))))))))))))))))))))))))))))))))))))) [(0,.slice ac p0.length ae),(3,iv aa),(33,.slice ac p0.length ae),(34,iv aa),(35,ap),(36,aq),(37,iv a9.Y),(38,.bool (decide (a9.Y < 0))),(41,.slice ac p0.length ae),(42,iv aa),(43,ar),(44,au),(45,iv a9.Y),(46,.bool (decide (99 < a9.Y))),(49,iv aa),(50,.bool (decide (0 < aa))),(51,.bool (decide (0 < aa))),(52,undef),(53,undef),(54,undef),(55,undef),(56,undef),(57,undef),(58,undef),(59,undef),(60,undef),(61,undef),(62,undef),(63,undef),(64,.bool false),(65,.bool false)] (fin_of [none,none,some 8,some 9,some 10,some 11,some 12,some 13,some 16,some 17,some 18,some 19,some 20,some 21,some 24,some 25,some 26,some 27,some 28,some 29,some 30,some 31,some 32,some 33,some 34,some 35,some 36,some 37,some 38,some 39,some 40] d (by kernel_rfl) (by kernel_rfl)) (fun _ a w S=>?_)
  ·exact fM 0 none d d d d (.inl d) d d d
  ·exact fM 1 none d d d d (.inl d) d d d
  ·refine fJ [(25,_),(26,_)] 2 [some 0,some 1] fun G a w S=>?_
   exact sIdxV S (wN d) d d d aS d (lb d) fun a S=>leafL ⟨d,S⟩
  ·refine fJ [(27,_)] 3 [some 2] fun G a w S=>?_
   exact sFldV (q:=aL) S (wN d) d d aT d (lb d) fun a S=>leafL ⟨d,S⟩
  ·refine fJ [(28,_)] 4 [some 3] fun G a w S=>?_
   exact sLoadV1 (vq:=aM) 8 (iv a9.X) S (wN d) d d d d d (lb d) fun a S=>leafL ⟨d,S⟩
  ·refine fJ [(29,_)] 5 [some 4] fun G a w S=>?_
   have S1:=S.mem
   refine sCq [iv a9.X] (.bool ai) S callee23 (S1.quiet [] d) (fun E1 w1 S1=>c_raddleref37_in E1 w1 a9.X ai am S1) fun a w S=>?_
   exact leafL ⟨d,S⟩
  ·refine fJ [(30,_)] 6 [some 5] fun G a w S=>?_
   exact sNot (b:=ai) S (wN d) d d d (lb d) fun a S=>leafL ⟨d,S⟩
  ·exact fM 7 (some 6) d d d d (.inl d) d d d
  ·refine fJ [(0,_),(32,_)] 8 [none,some 7] fun G a w S=>?_
   exact sMove (.slice ac p0.length ae) S (wG 7 false 32 d d d ab) (.inl d) d d (lb d) fun a S=>leafL ⟨d,S⟩
  ·refine fJ [(3,_),(32,_)] 9 [none,some 7] fun G a w S=>?_
   exact sMove (iv aa) S (wG 7 false 32 d d d ab) (.inl d) d d (lb d) fun a S=>leafL ⟨d,S⟩
  ·refine fJ [(33,_),(34,_),(32,_)] 10 [some 8,some 9,some 7] fun G a w S=>?_
   exact sIdxV S (wG 7 false 32 d d d ab) d d d aV d (lb d) fun a S=>leafL ⟨d,S⟩
  ·refine fJ [(35,_),(32,_)] 11 [some 10,some 7] fun G a w S=>?_
   exact sFldV (q:=ap) S (wG 7 false 32 d d d ab) d d aW d (lb d) fun a S=>leafL ⟨d,S⟩
  ·refine fJ [(36,_),(32,_)] 12 [some 11,some 7] fun G a w S=>?_
   exact sLoadV1 (vq:=aq) 4 (iv a9.Y) S (wG 7 false 32 d d d ab) d d d d d (lb d) fun a S=>leafL ⟨d,S⟩
  ·refine fJ [(37,_),(32,_)] 13 [some 12,some 7] fun G a w S=>?_
   exact sBin _ S (wG 7 false 32 d d d ab) d d d (bLt _ _ _ _ .i64 a9.Y 0) d (lb d) fun a S=>leafL ⟨d,S⟩
  ·refine fJ [(32,_),(38,_)] 14 [some 7,some 13] fun G a w S=>?_
   exact sPickF (.bool (decide (a9.Y < 0))) S (wN d) d d ab d d (lb d) fun a S=>leafL ⟨d,S⟩
  ·exact fM 15 (some 14) d d d d (.inl d) d d d
  ·refine fJ [(0,_),(40,_)] 16 [none,some 15] fun G a w S=>?_
   exact sMove (.slice ac p0.length ae) S (wG 15 false 40 d d d af) (.inl d) d d (lb d) fun a S=>leafL ⟨d,S⟩
  ·refine fJ [(3,_),(40,_)] 17 [none,some 15] fun G a w S=>?_
   exact sMove (iv aa) S (wG 15 false 40 d d d af) (.inl d) d d (lb d) fun a S=>leafL ⟨d,S⟩
  ·refine fJ [(41,_),(42,_),(40,_)] 18 [some 16,some 17,some 15] fun G a w S=>?_
   exact sIdxV S (wG 15 false 40 d d d af) d d d aZ d (lb d) fun a S=>leafL ⟨d,S⟩
  ·refine fJ [(43,_),(40,_)] 19 [some 18,some 15] fun G a w S=>?_
   exact sFldV (q:=ar) S (wG 15 false 40 d d d af) d d b8 d (lb d) fun a S=>leafL ⟨d,S⟩
  ·refine fJ [(44,_),(40,_)] 20 [some 19,some 15] fun G a w S=>?_
   exact sLoadV1 (vq:=au) 0 (iv a9.Y) S (wG 15 false 40 d d d af) d d d d d (lb d) fun a S=>leafL ⟨d,S⟩
  ·refine fJ [(45,_),(40,_)] 21 [some 20,some 15] fun G a w S=>?_
   exact sBin _ S (wG 15 false 40 d d d af) d d d (bGt _ _ _ _ .i64 a9.Y 99) d (lb d) fun a S=>leafL ⟨d,S⟩
  ·refine fJ [(40,_),(46,_)] 22 [some 15,some 21] fun G a w S=>?_
   exact sPickF (.bool (decide (99 < a9.Y))) S (wN d) d d af d d (lb d) fun a S=>leafL ⟨d,S⟩
  ·exact fM 23 (some 22) d d d d (.inl d) d d d
  ·refine fJ [(3,_),(48,_)] 24 [none,some 23] fun G a w S=>?_
   exact sMove (iv aa) S (wG 23 false 48 d d d ah) (.inl d) d d (lb d) fun a S=>leafL ⟨d,S⟩
  ·refine fJ [(49,_),(48,_)] 25 [some 24,some 23] fun G a w S=>?_
   exact sBin _ S (wG 23 false 48 d d d ah) d d d (bGt _ _ _ _ .i64 aa 0) d (lb d) fun a S=>leafL ⟨d,S⟩
  ·refine fJ [(50,_),(48,_)] 26 [some 25,some 23] fun G a w S=>?_
   exact sMove (.bool (decide (0 < aa))) S (wG 23 false 48 d d d ah) (.inl d) d d (lb d) fun a S=>leafL ⟨d,S⟩
  ·refine fJ [(0,_),(51,_)] 27 [none,some 26] fun G a w S=>?_
   exact sSk S d d d ag d d fun a S=>leafL ⟨d,S⟩
  ·refine fJ [(3,_),(51,_)] 28 [none,some 26] fun G a w S=>?_
   exact sSk S d d d ag d d fun a S=>leafL ⟨d,S⟩
  ·refine fJ [(52,_),(53,_),(51,_)] 29 [some 27,some 28,some 26] fun G a w S=>?_
   exact sSk S d d d ag d d fun a S=>leafL ⟨d,S⟩
  ·refine fJ [(54,_),(51,_)] 30 [some 29,some 26] fun G a w S=>?_
   exact sSk S d d d ag d d fun a S=>leafL ⟨d,S⟩
  ·refine fJ [(55,_),(51,_)] 31 [some 30,some 26] fun G a w S=>?_
   exact sSk S d d d ag d d fun a S=>leafL ⟨d,S⟩
  ·refine fJ [(0,_),(51,_)] 32 [none,some 26] fun G a w S=>?_
   exact sSk S d d d ag d d fun a S=>leafL ⟨d,S⟩
  ·refine fJ [(3,_),(51,_)] 33 [none,some 26] fun G a w S=>?_
   exact sSk S d d d ag d d fun a S=>leafL ⟨d,S⟩
  ·refine fJ [(58,_),(51,_)] 34 [some 33,some 26] fun G a w S=>?_
   exact sSk S d d d ag d d fun a S=>leafL ⟨d,S⟩
  ·refine fJ [(57,_),(59,_),(51,_)] 35 [some 32,some 34,some 26] fun G a w S=>?_
   exact sSk S d d d ag d d fun a S=>leafL ⟨d,S⟩
  ·refine fJ [(60,_),(51,_)] 36 [some 35,some 26] fun G a w S=>?_
   exact sSk S d d d ag d d fun a S=>leafL ⟨d,S⟩
  ·refine fJ [(61,_),(51,_)] 37 [some 36,some 26] fun G a w S=>?_
   exact sSk S d d d ag d d fun a S=>leafL ⟨d,S⟩
  ·refine fJ [(56,_),(62,_),(51,_)] 38 [some 31,some 37,some 26] fun G a w S=>?_
   exact sSk S d d d ag d d fun a S=>leafL ⟨d,S⟩
  ·refine fJ [(51,_),(63,_),(48,_)] 39 [some 26,some 38,some 23] fun G a w S=>?_
   exact sPickF (.bool false) S (wG 23 false 48 d d d ah) d d ag d d (lb d) fun a S=>leafL ⟨d,S⟩
  ·refine fJ [(48,_),(64,_)] 40 [some 23,some 39] fun G a w S=>?_
   exact sPickF (.bool false) S (wN d) d d ah d d (lb d) fun a S=>leafL ⟨d,S⟩
  exact leafT (⟨false,Option.some.inj h,S.fix [] [12] (by decide) d d d⟩)
 obtain ⟨ak,cb,h⟩:=bS h
 obtain ⟨cc,cd,S⟩:=pIdx (P:=Try.prog) (r:=r_api_Point) (v:=.slice ac p0.length ae) (xs:=p0) (j:=aa) 26 33 0 S Try.underlying26 d d aj
 obtain ⟨aO,bb,S⟩:=pFld (P:=Try.prog) (r:=r_api_Point) (s2:=(rI .i64)) (g:=(·.X)) (q:=cc) (z:=a9) 33 0 0 0 S d d comp_api_Point_X
 obtain ⟨bc,S⟩:=pLoad (r:=(rI .i64)) (q:=aO) (x:=a9.X) 0 S d
 obtain rfl:bc=iv a9.X:=S.mem.know (i:=1) (e:=fRep (rI .i64) (bc) a9.X) d
 obtain ⟨av,bf,S⟩:=pIdx (P:=Try.prog) (r:=r_api_Point) (v:=.slice ac p0.length ae) (xs:=p0) (j:=aa) 26 33 4 S Try.underlying26 d d aj
 obtain ⟨aw,bg,S⟩:=pFld (P:=Try.prog) (r:=r_api_Point) (s2:=(rI .i64)) (g:=(·.Y)) (q:=av) (z:=a9) 33 1 0 1 S d d comp_api_Point_Y
 obtain ⟨bh,S⟩:=pLoad (r:=(rI .i64)) (q:=aw) (x:=a9.Y) 0 S d
 obtain rfl:bh=iv a9.Y:=S.mem.know (i:=1) (e:=fRep (rI .i64) (bh) a9.Y) d
 obtain ⟨ax,bi,S⟩:=pIdx (P:=Try.prog) (r:=r_api_Point) (v:=.slice ac p0.length ae) (xs:=p0) (j:=aa) 26 33 8 S Try.underlying26 d d aj
 obtain ⟨ay,bj,S⟩:=pFld (P:=Try.prog) (r:=r_api_Point) (s2:=(rI .i64)) (g:=(·.Y)) (q:=ax) (z:=a9) 33 1 0 1 S d d comp_api_Point_Y
 obtain ⟨bl,S⟩:=pLoad (r:=(rI .i64)) (q:=ay) (x:=a9.Y) 0 S d
 obtain rfl:bl=iv a9.Y:=S.mem.know (i:=1) (e:=fRep (rI .i64) (bl) a9.Y) d
 obtain ⟨az,bm,S⟩:=pIdx (P:=Try.prog) (r:=r_api_Point) (v:=.slice ac p0.length ae) (xs:=p0) (j:=aa) 26 33 12 S Try.underlying26 d d aj
 obtain ⟨aA,bn,S⟩:=pFld (P:=Try.prog) (r:=r_api_Point) (s2:=(rI .i64)) (g:=(·.Y)) (q:=az) (z:=a9) 33 1 0 1 S d d comp_api_Point_Y
 obtain ⟨bo,S⟩:=pLoad (r:=(rI .i64)) (q:=aA) (x:=a9.Y) 0 S d
 obtain rfl:bo=iv a9.Y:=S.mem.know (i:=1) (e:=fRep (rI .i64) (bo) a9.Y) d
 obtain ⟨aC,bp,S⟩:=pIdx (P:=Try.prog) (r:=r_api_Point) (v:=.slice ac p0.length ae) (xs:=p0) (j:=w64 (aa - 1)) 26 33 16 S Try.underlying26 d d cb
 obtain ⟨aG,bq,S⟩:=pFld (P:=Try.prog) (r:=r_api_Point) (s2:=(rI .i64)) (g:=(·.Y)) (q:=aC) (z:=ak) 33 1 0 1 S d d comp_api_Point_Y
 obtain ⟨br,S⟩:=pLoad (r:=(rI .i64)) (q:=aG) (x:=ak.Y) 0 S d
 obtain rfl:br=iv ak.Y:=S.mem.know (i:=1) (e:=fRep (rI .i64) (br) ak.Y) d
 refine sDraw (nf:=[]) (W:=[(0,25,.slice ac p0.length ae),(1,26,iv aa),(2,27,cc),(3,28,aO),(4,29,iv a9.X),(5,30,.bool ai),(6,31,.bool (!ai)),(7,32,.bool (!ai)),(8,33,.slice ac p0.length ae),(9,34,iv aa),(10,35,av),(11,36,aw),(12,37,iv a9.Y),(13,38,.bool (decide (a9.Y < 0))),(14,39,.bool (decide (a9.Y < 0))),(15,40,.bool (decide (a9.Y < 0))),(16,41,.slice ac p0.length ae),(17,42,iv aa),(18,43,ax),(19,44,ay),(20,45,iv a9.Y),(21,46,.bool (decide (99 < a9.Y))),(22,47,.bool (decide (99 < a9.Y))),(23,48,.bool (decide (99 < a9.Y))),(24,49,iv aa),(25,50,.bool (decide (0 < aa))),(26,51,.bool (decide (0 < aa))),(27,52,.slice ac p0.length ae),(28,53,iv aa),(29,54,az),(30,55,aA),(31,56,iv a9.Y),(32,57,.slice ac p0.length ae),(33,58,iv aa),(34,59,iv (w64 (aa - 1))),(35,60,aC),(36,61,aG),(37,62,iv ak.Y),(38,63,.bool (decide (a9.Y ≤ ak.Y))),(39,64,.bool (decide (a9.Y ≤ ak.Y))),(40,65,.bool (decide (a9.Y ≤ ak.Y)))]) d S ?_
 refine node_by (A:=anc_raddleref37_side_0) 41 (by kernel_rfl) (by kernel_rfl) (by kernel_rfl) (by kernel_rfl) (by kernel_rfl) [0,1,2,3,4,5,6,7,8,9,10,11,12,13,14,15,16,17,18,19,20,21,22,23,24,25,26,27,28,29,30,31,32,33,34,35,36,37,38,39,40] (by kernel_rfl) (by decide) (by decide) (fF ?_ (fF ?_ (fF ?_ (fF ?_ (fF ?_ (fF ?_ (fF ?_ (fF ?_ (fF ?_ (fF ?_ (fF ?_ (fF ?_ (fF ?_ (fF ?_ (fF ?_ (fF ?_ (fF ?_ (fF ?_ (fF ?_ (fF ?_ (fF ?_ (fF ?_ (fF ?_ (fF ?_ (fF ?_ (fF ?_ (fF ?_ (fF ?_ (fF ?_ (fF ?_ (fF ?_ (fF ?_ (fF ?_ (fF ?_ (fF ?_ (fF ?_ (fF ?_ (fF ?_ (fF ?_ (fF ?_ (fF ?_ (trivial)))))))))))))))))))))))))))))))))))))))))) [(0,.slice ac p0.length ae),(3,iv aa),(33,.slice ac p0.length ae),(34,iv aa),(35,av),(36,aw),(37,iv a9.Y),(38,.bool (decide (a9.Y < 0))),(41,.slice ac p0.length ae),(42,iv aa),(43,ax),(44,ay),(45,iv a9.Y),(46,.bool (decide (99 < a9.Y))),(49,iv aa),(50,.bool (decide (0 < aa))),(51,.bool (decide (0 < aa))),(52,.slice ac p0.length ae),(53,iv aa),(54,az),(55,aA),(56,iv a9.Y),(57,.slice ac p0.length ae),(58,iv aa),(59,iv (w64 (aa - 1))),(60,aC),(61,aG),(62,iv ak.Y),(63,.bool (decide (a9.Y ≤ ak.Y))),(64,.bool (decide (a9.Y ≤ ak.Y))),(65,.bool (decide (a9.Y ≤ ak.Y)))] (fin_of [none,none,some 8,some 9,some 10,some 11,some 12,some 13,some 16,some 17,some 18,some 19,some 20,some 21,some 24,some 25,some 26,some 27,some 28,some 29,some 30,some 31,some 32,some 33,some 34,some 35,some 36,some 37,some 38,some 39,some 40] d (by kernel_rfl) (by kernel_rfl)) (fun _ a w S=>?_)
 ·exact fM 0 none d d d d (.inl d) d d d
 ·exact fM 1 none d d d d (.inl d) d d d
 ·refine fJ [(25,_),(26,_)] 2 [some 0,some 1] fun G a w S=>?_
  exact sIdxV S (wN d) d d d cd d (lb d) fun a S=>leafL ⟨d,S⟩
 ·refine fJ [(27,_)] 3 [some 2] fun G a w S=>?_
  exact sFldV (q:=cc) S (wN d) d d bb d (lb d) fun a S=>leafL ⟨d,S⟩
 ·refine fJ [(28,_)] 4 [some 3] fun G a w S=>?_
  exact sLoadV1 (vq:=aO) 16 (iv a9.X) S (wN d) d d d d d (lb d) fun a S=>leafL ⟨d,S⟩
 ·refine fJ [(29,_)] 5 [some 4] fun G a w S=>?_
  have S1:=S.mem
  refine sCq [iv a9.X] (.bool ai) S callee23 (S1.quiet [] d) (fun E1 w1 S1=>c_raddleref37_in E1 w1 a9.X ai am S1) fun a w S=>?_
  exact leafL ⟨d,S⟩
 ·refine fJ [(30,_)] 6 [some 5] fun G a w S=>?_
  exact sNot (b:=ai) S (wN d) d d d (lb d) fun a S=>leafL ⟨d,S⟩
 ·exact fM 7 (some 6) d d d d (.inl d) d d d
 ·refine fJ [(0,_),(32,_)] 8 [none,some 7] fun G a w S=>?_
  exact sMove (.slice ac p0.length ae) S (wG 7 false 32 d d d ab) (.inl d) d d (lb d) fun a S=>leafL ⟨d,S⟩
 ·refine fJ [(3,_),(32,_)] 9 [none,some 7] fun G a w S=>?_
  exact sMove (iv aa) S (wG 7 false 32 d d d ab) (.inl d) d d (lb d) fun a S=>leafL ⟨d,S⟩
 ·refine fJ [(33,_),(34,_),(32,_)] 10 [some 8,some 9,some 7] fun G a w S=>?_
  exact sIdxV S (wG 7 false 32 d d d ab) d d d bf d (lb d) fun a S=>leafL ⟨d,S⟩
 ·refine fJ [(35,_),(32,_)] 11 [some 10,some 7] fun G a w S=>?_
  exact sFldV (q:=av) S (wG 7 false 32 d d d ab) d d bg d (lb d) fun a S=>leafL ⟨d,S⟩
 ·refine fJ [(36,_),(32,_)] 12 [some 11,some 7] fun G a w S=>?_
  exact sLoadV1 (vq:=aw) 12 (iv a9.Y) S (wG 7 false 32 d d d ab) d d d d d (lb d) fun a S=>leafL ⟨d,S⟩
 ·refine fJ [(37,_),(32,_)] 13 [some 12,some 7] fun G a w S=>?_
  exact sBin _ S (wG 7 false 32 d d d ab) d d d (bLt _ _ _ _ .i64 a9.Y 0) d (lb d) fun a S=>leafL ⟨d,S⟩
 ·refine fJ [(32,_),(38,_)] 14 [some 7,some 13] fun G a w S=>?_
  exact sPickF (.bool (decide (a9.Y < 0))) S (wN d) d d ab d d (lb d) fun a S=>leafL ⟨d,S⟩
 ·exact fM 15 (some 14) d d d d (.inl d) d d d
 ·refine fJ [(0,_),(40,_)] 16 [none,some 15] fun G a w S=>?_
  exact sMove (.slice ac p0.length ae) S (wG 15 false 40 d d d af) (.inl d) d d (lb d) fun a S=>leafL ⟨d,S⟩
 ·refine fJ [(3,_),(40,_)] 17 [none,some 15] fun G a w S=>?_
  exact sMove (iv aa) S (wG 15 false 40 d d d af) (.inl d) d d (lb d) fun a S=>leafL ⟨d,S⟩
 ·refine fJ [(41,_),(42,_),(40,_)] 18 [some 16,some 17,some 15] fun G a w S=>?_
  exact sIdxV S (wG 15 false 40 d d d af) d d d bi d (lb d) fun a S=>leafL ⟨d,S⟩
 ·refine fJ [(43,_),(40,_)] 19 [some 18,some 15] fun G a w S=>?_
  exact sFldV (q:=ax) S (wG 15 false 40 d d d af) d d bj d (lb d) fun a S=>leafL ⟨d,S⟩
 ·refine fJ [(44,_),(40,_)] 20 [some 19,some 15] fun G a w S=>?_
  exact sLoadV1 (vq:=ay) 8 (iv a9.Y) S (wG 15 false 40 d d d af) d d d d d (lb d) fun a S=>leafL ⟨d,S⟩
 ·refine fJ [(45,_),(40,_)] 21 [some 20,some 15] fun G a w S=>?_
  exact sBin _ S (wG 15 false 40 d d d af) d d d (bGt _ _ _ _ .i64 a9.Y 99) d (lb d) fun a S=>leafL ⟨d,S⟩
 ·refine fJ [(40,_),(46,_)] 22 [some 15,some 21] fun G a w S=>?_
  exact sPickF (.bool (decide (99 < a9.Y))) S (wN d) d d af d d (lb d) fun a S=>leafL ⟨d,S⟩
 ·exact fM 23 (some 22) d d d d (.inl d) d d d
 ·refine fJ [(3,_),(48,_)] 24 [none,some 23] fun G a w S=>?_
  exact sMove (iv aa) S (wG 23 false 48 d d d ah) (.inl d) d d (lb d) fun a S=>leafL ⟨d,S⟩
 ·refine fJ [(49,_),(48,_)] 25 [some 24,some 23] fun G a w S=>?_
  exact sBin _ S (wG 23 false 48 d d d ah) d d d (bGt _ _ _ _ .i64 aa 0) d (lb d) fun a S=>leafL ⟨d,S⟩
 ·refine fJ [(50,_),(48,_)] 26 [some 25,some 23] fun G a w S=>?_
  exact sMove (.bool (decide (0 < aa))) S (wG 23 false 48 d d d ah) (.inl d) d d (lb d) fun a S=>leafL ⟨d,S⟩
 ·refine fJ [(0,_),(51,_)] 27 [none,some 26] fun G a w S=>?_
  exact sMove (.slice ac p0.length ae) S (wG 26 true 51 d d d ag) (.inl d) d d (lb d) fun a S=>leafL ⟨d,S⟩
 ·refine fJ [(3,_),(51,_)] 28 [none,some 26] fun G a w S=>?_
  exact sMove (iv aa) S (wG 26 true 51 d d d ag) (.inl d) d d (lb d) fun a S=>leafL ⟨d,S⟩
 ·refine fJ [(52,_),(53,_),(51,_)] 29 [some 27,some 28,some 26] fun G a w S=>?_
  exact sIdxV S (wG 26 true 51 d d d ag) d d d bm d (lb d) fun a S=>leafL ⟨d,S⟩
 ·refine fJ [(54,_),(51,_)] 30 [some 29,some 26] fun G a w S=>?_
  exact sFldV (q:=az) S (wG 26 true 51 d d d ag) d d bn d (lb d) fun a S=>leafL ⟨d,S⟩
 ·refine fJ [(55,_),(51,_)] 31 [some 30,some 26] fun G a w S=>?_
  exact sLoadV1 (vq:=aA) 4 (iv a9.Y) S (wG 26 true 51 d d d ag) d d d d d (lb d) fun a S=>leafL ⟨d,S⟩
 ·refine fJ [(0,_),(51,_)] 32 [none,some 26] fun G a w S=>?_
  exact sMove (.slice ac p0.length ae) S (wG 26 true 51 d d d ag) (.inl d) d d (lb d) fun a S=>leafL ⟨d,S⟩
 ·refine fJ [(3,_),(51,_)] 33 [none,some 26] fun G a w S=>?_
  exact sMove (iv aa) S (wG 26 true 51 d d d ag) (.inl d) d d (lb d) fun a S=>leafL ⟨d,S⟩
 ·refine fJ [(58,_),(51,_)] 34 [some 33,some 26] fun G a w S=>?_
  exact sBin _ S (wG 26 true 51 d d d ag) d d d (bSub _ _ _ _ aa 1) d (lb d) fun a S=>leafL ⟨d,S⟩
 ·refine fJ [(57,_),(59,_),(51,_)] 35 [some 32,some 34,some 26] fun G a w S=>?_
  exact sIdxV S (wG 26 true 51 d d d ag) d d d bp d (lb d) fun a S=>leafL ⟨d,S⟩
 ·refine fJ [(60,_),(51,_)] 36 [some 35,some 26] fun G a w S=>?_
  exact sFldV (q:=aC) S (wG 26 true 51 d d d ag) d d bq d (lb d) fun a S=>leafL ⟨d,S⟩
 ·refine fJ [(61,_),(51,_)] 37 [some 36,some 26] fun G a w S=>?_
  exact sLoadV1 (vq:=aG) 0 (iv ak.Y) S (wG 26 true 51 d d d ag) d d d d d (lb d) fun a S=>leafL ⟨d,S⟩
 ·refine fJ [(56,_),(62,_),(51,_)] 38 [some 31,some 37,some 26] fun G a w S=>?_
  exact sBin _ S (wG 26 true 51 d d d ag) d d d (bLe _ _ _ _ .i64 a9.Y ak.Y) d (lb d) fun a S=>leafL ⟨d,S⟩
 ·refine fJ [(51,_),(63,_),(48,_)] 39 [some 26,some 38,some 23] fun G a w S=>?_
  exact sPickT (.bool (decide (a9.Y ≤ ak.Y))) S (wG 23 false 48 d d d ah) d d ag d d (lb d) fun a S=>leafL ⟨d,S⟩
 ·refine fJ [(48,_),(64,_)] 40 [some 23,some 39] fun G a w S=>?_
  exact sPickF (.bool (decide (a9.Y ≤ ak.Y))) S (wN d) d d ah d d (lb d) fun a S=>leafL ⟨d,S⟩
 exact leafT (⟨decide (a9.Y ≤ ak.Y),Option.some.inj h,S.fix [] [20] (by decide) d d d⟩)
def anc_raddleref37_Shape_0:List (List Nat):=[[],[0],[0,1],[0,1,2],[0,1,2,3],[0,1,2,3,4],[0,1,2,3,4,5],[0,1,2,3,4,5,6],[0,1,2,3,4,5,6,7],[0,1,2,3,4,5,6,7,8],[0,1,2,3,4,5,6,7,8,9],[0,1,2,3,4,5,6,7,8,9,10],[0,1,2,3,4,5,6,7,8,9,10,11],[0,1,2,3,4,5,6,7,8,9,10],[0,1,2,3,4,5,6,7,8,9,10,13],[0,1,2,3,4,5,6,7,8,9,10,13,14],[0,1,2,3,4,5,6,7,8,9,10,13,14,15],[0,1,2,3,4,5,6,7,8,9,10,11,12,13,14,15,16],[0,1,2,3,4,5,6,7,8,9,10,11,12,13,14,15,16,17],[0,1,2,3,4,5,6,7,8,9,10,11,12,13,14,15,16,17,18],[0,1,2,3,4,5,6,7,8,9,10],[0,1,2,3,4,5,6,7,8,9,10,20],[0,1,2,3,4,5,6,7,8,9,10],[0,1,2,3,4,5,6,7,8,9,10,22],[0,1,2,3,4,5,6,7,8,9,10,22,23],[0,1,2,3,4,5,6,7,8,9,10,22,23,24],[0,1,2,3,4,5,6,7,8,9,10,20,21,22,23,24,25],[0,1,2,3,4,5,6,7,8,9,10,20,21,22,23,24,25,26],[0,1,2,3,4,5,6,7,8,9,10,20,21,22,23,24,25,26,27],[0,1,2,3,4,5,6,7,8,9,10,11,12,13,14,15,16,17,18,19,20,21,22,23,24,25,26,27,28],[0,1,2,3,4,5,6,7,8,9,10,11,12,13,14,15,16,17,18,19,20,21,22,23,24,25,26,27,28,29]]
noncomputable def F_raddleref37_Shape (p0:api_Shape):Option Int:=
 Option.bind (α:=Bool) (
  (F_raddleref37_side p0.Left).bind fun a9=>
  if !a9 then
   some true
  else
   (F_raddleref37_side p0.Right).bind fun aa=>
   if !aa then
    some true
   else
    (idxO p0.Left (w64 ((p0.Left.length:Int) - 1))).bind fun ab=>
    (idxO p0.Right (w64 ((p0.Right.length:Int) - 1))).bind fun ac=>
    some (ab.Y != ac.Y)) fun ae=>
 if ae then
  some 8
 else
  some 0
theorem c_raddleref37_Shape (E:Nat→Prop) (w0:World) (p0:api_Shape) (v0:Value) (r:Int) (h:F_raddleref37_Shape p0=some r) (S:St0 E [] w0 w0 [] [fRep r_api_Shape (v0) p0]) :
 Calls Try.prog 10 #[v0] w0 (Ret (X:=Unit) E [] w0 (fun _=>.int .i64 r) (fun _=>[]) (fun _=>[])):=by
 unfold F_raddleref37_Shape at h
 obtain ⟨u1,u2,rfl,aJ,aK⟩:=S.know (i:=0) (e:=fRep r_api_Shape (v0) p0) d
 have S:=S.learn (fRep (rL r_api_Point) u1 p0.Left) aJ
 obtain ⟨ab,ac,_,rfl,_⟩:=aJ
 have S:=S.learn (fRep (rL r_api_Point) u2 p0.Right) aK
 obtain ⟨ag,ah,_,rfl,_⟩:=aK
 refine sEnter (args:=[.agg #[.slice ab p0.Left.length ac,.slice ag p0.Right.length ah]]) 34 Try.func10 d d (by simp) S (fun a S=>?_)
 refine sSeq (fun K9 aO=>sRegion (sBox (v:=.agg #[.slice ab p0.Left.length ac,.slice ag p0.Right.length ah]) S (wN d) d d [.slice ab p0.Left.length ac,.slice ag p0.Right.length ah] d d (lb d) fun a ae w S=>sN S fun a S=>?_))
 refine lT (aO _ _ (sSeq (fun aR ap=>?_)))
 obtain ⟨aP,h,aQ⟩:=bS h
 refine sCut (fun a w=>∃ aq,aq=aP∧St [] E [] w0 34 a w [(33,.bool aq)] [] []) ?_ (fun a w hI=>?_)
 rotate_left
 ·obtain ⟨aq,rfl,S⟩:=hI
  have h:=aQ
  try dsimp only at h
  rcases iS h with ⟨al,h⟩ | ⟨al,h⟩
  ·refine sCondT S d al (sSeq (fun aS ar=>sRegion (sN S fun a S=>?_)))
   refine lT (ar _ _ ?_)
   obtain rfl:=tS h
   exact wp_ret (rThen (sRet (iv 8) S (rsl1 d (rvT (t:=2) (v:=iv 8) S d)) ⟨(),d,S.mem.sel [] [] (by decide) d d⟩))
  refine sCondF S d al (wp_skip (leafT (ap _ _ ?_)))
  refine sSeq (fun aT au=>sRegion (sN S fun a S=>?_))
  refine lT (au _ _ ?_)
  obtain rfl:=tS h
  exact wp_ret (sRet (iv 0) S (rsl1 d (rvT (t:=2) (v:=iv 0) S d)) ⟨(),d,S.mem.sel [] [] (by decide) d d⟩)
 obtain ⟨af,am,h⟩:=bS h
 rcases iS h with ⟨aa,h⟩ | ⟨aa,h⟩
 ·refine sDraw (nf:=[]) (W:=[(0,3,.pointer (some ⟨ae,0,none⟩)),(1,4,.slice ab p0.Left.length ac),(2,5,.bool af),(3,6,.bool (!af)),(4,7,.bool (!af)),(5,8,undef),(6,9,undef),(7,10,undef),(8,11,undef),(9,12,.bool true),(10,13,.bool true),(11,14,undef),(12,15,undef),(13,16,undef),(14,17,undef),(15,18,undef),(16,19,undef),(17,20,undef),(18,21,undef),(19,22,undef),(20,23,undef),(21,24,undef),(22,25,undef),(23,26,undef),(24,27,undef),(25,28,undef),(26,29,undef),(27,30,undef),(28,31,undef),(29,32,undef),(30,33,.bool true)]) d S ?_
  refine node_by (A:=anc_raddleref37_Shape_0) 31 (by kernel_rfl) (by kernel_rfl) (by kernel_rfl) (by kernel_rfl) (by kernel_rfl) [0,1,2,3,4,5,6,7,8,9,10,11,12,13,14,15,16,17,18,19,20,21,22,23,24,25,26,27,28,29,30] (by kernel_rfl) (by decide) (by decide) (fF ?_ (fF ?_ (fF ?_ (fF ?_ (fF ?_ (fF ?_ (fF ?_ (fF ?_ (fF ?_ (fF ?_ (fF ?_ (fF ?_ (fF ?_ (fF ?_ (fF ?_ (fF ?_ (fF ?_ (fF ?_ (fF ?_ (fF ?_ (fF ?_ (fF ?_ (fF ?_ (fF ?_ (fF ?_ (fF ?_ (fF ?_ (fF ?_ (fF ?_ (fF ?_ (fF ?_ (trivial)))))))))))))))))))))))))))))))) [(33,.bool true)] (fin_of [some 30] d (by kernel_rfl) (by kernel_rfl)) (fun _ a w S=>?_)
  ·refine fJ [(1,_)] 0 [none] fun G a w S=>?_
   exact sField (b:=ae) (off:=0) 0 0 S (wN d) d d d d d (lb d) fun a S=>leafL ⟨d,S⟩
  ·refine fJ [(3,_)] 1 [some 0] fun G a w S=>?_
   exact sLoad1 0 (.slice ab p0.Left.length ac) S (wN d) d d d d d d (lb d) fun a S=>leafL ⟨d,S⟩
  ·refine fJ [(4,_)] 2 [some 1] fun G a w S=>?_
   have S1:=S.mem
   refine sCq [.slice ab p0.Left.length ac] (.bool af) S callee22 (S1.quiet [1] d) (fun E1 w1 S1=>c_raddleref37_side E1 w1 p0.Left (.slice ab p0.Left.length ac) af am S1) fun a w S=>?_
   exact leafL ⟨d,S⟩
  ·refine fJ [(5,_)] 3 [some 2] fun G a w S=>?_
   exact sNot (b:=af) S (wN d) d d d (lb d) fun a S=>leafL ⟨d,S⟩
  ·exact fM 4 (some 3) d d d d (.inl d) d d d
  ·refine fJ [(1,_),(7,_)] 5 [none,some 4] fun G a w S=>?_
   exact sSk S d d d aa d d fun a S=>leafL ⟨d,S⟩
  ·refine fJ [(8,_),(7,_)] 6 [some 5,some 4] fun G a w S=>?_
   exact sSk S d d d aa d d fun a S=>leafL ⟨d,S⟩
  ·refine fJ [(9,_),(7,_)] 7 [some 6,some 4] fun G a w S=>?_
   exact sSk S d d d aa d d fun a S=>leafL ⟨d,S⟩
  ·refine fJ [(10,_),(7,_)] 8 [some 7,some 4] fun G a w S=>?_
   exact sSk S d d d aa d d fun a S=>leafL ⟨d,S⟩
  ·refine fJ [(7,_),(11,_)] 9 [some 4,some 8] fun G a w S=>?_
   exact sPickT (.bool true) S (wN d) d d aa d d (lb d) fun a S=>leafL ⟨d,S⟩
  ·exact fM 10 (some 9) d d d d (.inl d) d d d
  ·refine fJ [(1,_),(13,_)] 11 [none,some 10] fun G a w S=>?_
   exact sSk S d d d d d d fun a S=>leafL ⟨d,S⟩
  ·refine fJ [(14,_),(13,_)] 12 [some 11,some 10] fun G a w S=>?_
   exact sSk S d d d d d d fun a S=>leafL ⟨d,S⟩
  ·refine fJ [(1,_),(13,_)] 13 [none,some 10] fun G a w S=>?_
   exact sSk S d d d d d d fun a S=>leafL ⟨d,S⟩
  ·refine fJ [(16,_),(13,_)] 14 [some 13,some 10] fun G a w S=>?_
   exact sSk S d d d d d d fun a S=>leafL ⟨d,S⟩
  ·refine fJ [(17,_),(13,_)] 15 [some 14,some 10] fun G a w S=>?_
   exact sSk S d d d d d d fun a S=>leafL ⟨d,S⟩
  ·refine fJ [(18,_),(13,_)] 16 [some 15,some 10] fun G a w S=>?_
   exact sSk S d d d d d d fun a S=>leafL ⟨d,S⟩
  ·refine fJ [(15,_),(19,_),(13,_)] 17 [some 12,some 16,some 10] fun G a w S=>?_
   exact sSk S d d d d d d fun a S=>leafL ⟨d,S⟩
  ·refine fJ [(20,_),(13,_)] 18 [some 17,some 10] fun G a w S=>?_
   exact sSk S d d d d d d fun a S=>leafL ⟨d,S⟩
  ·refine fJ [(21,_),(13,_)] 19 [some 18,some 10] fun G a w S=>?_
   exact sSk S d d d d d d fun a S=>leafL ⟨d,S⟩
  ·refine fJ [(1,_),(13,_)] 20 [none,some 10] fun G a w S=>?_
   exact sSk S d d d d d d fun a S=>leafL ⟨d,S⟩
  ·refine fJ [(23,_),(13,_)] 21 [some 20,some 10] fun G a w S=>?_
   exact sSk S d d d d d d fun a S=>leafL ⟨d,S⟩
  ·refine fJ [(1,_),(13,_)] 22 [none,some 10] fun G a w S=>?_
   exact sSk S d d d d d d fun a S=>leafL ⟨d,S⟩
  ·refine fJ [(25,_),(13,_)] 23 [some 22,some 10] fun G a w S=>?_
   exact sSk S d d d d d d fun a S=>leafL ⟨d,S⟩
  ·refine fJ [(26,_),(13,_)] 24 [some 23,some 10] fun G a w S=>?_
   exact sSk S d d d d d d fun a S=>leafL ⟨d,S⟩
  ·refine fJ [(27,_),(13,_)] 25 [some 24,some 10] fun G a w S=>?_
   exact sSk S d d d d d d fun a S=>leafL ⟨d,S⟩
  ·refine fJ [(24,_),(28,_),(13,_)] 26 [some 21,some 25,some 10] fun G a w S=>?_
   exact sSk S d d d d d d fun a S=>leafL ⟨d,S⟩
  ·refine fJ [(29,_),(13,_)] 27 [some 26,some 10] fun G a w S=>?_
   exact sSk S d d d d d d fun a S=>leafL ⟨d,S⟩
  ·refine fJ [(30,_),(13,_)] 28 [some 27,some 10] fun G a w S=>?_
   exact sSk S d d d d d d fun a S=>leafL ⟨d,S⟩
  ·refine fJ [(22,_),(31,_),(13,_)] 29 [some 19,some 28,some 10] fun G a w S=>?_
   exact sSk S d d d d d d fun a S=>leafL ⟨d,S⟩
  ·refine fJ [(13,_),(32,_)] 30 [some 10,some 29] fun G a w S=>?_
   exact sPickT (.bool true) S (wN d) d d d d d (lb d) fun a S=>leafL ⟨d,S⟩
  exact leafT (⟨true,Option.some.inj h,S.fix [] [] (by decide) d d d⟩)
 obtain ⟨ai,ao,h⟩:=bS h
 rcases iS h with ⟨a9,h⟩ | ⟨a9,h⟩
 ·refine sDraw (nf:=[]) (W:=[(0,3,.pointer (some ⟨ae,0,none⟩)),(1,4,.slice ab p0.Left.length ac),(2,5,.bool af),(3,6,.bool (!af)),(4,7,.bool (!af)),(5,8,.pointer (some ⟨ae,1,none⟩)),(6,9,.slice ag p0.Right.length ah),(7,10,.bool ai),(8,11,.bool (!ai)),(9,12,.bool (!ai)),(10,13,.bool (!ai)),(11,14,undef),(12,15,undef),(13,16,undef),(14,17,undef),(15,18,undef),(16,19,undef),(17,20,undef),(18,21,undef),(19,22,undef),(20,23,undef),(21,24,undef),(22,25,undef),(23,26,undef),(24,27,undef),(25,28,undef),(26,29,undef),(27,30,undef),(28,31,undef),(29,32,undef),(30,33,.bool true)]) d S ?_
  refine node_by (A:=anc_raddleref37_Shape_0) 31 (by kernel_rfl) (by kernel_rfl) (by kernel_rfl) (by kernel_rfl) (by kernel_rfl) [0,1,2,3,4,5,6,7,8,9,10,11,12,13,14,15,16,17,18,19,20,21,22,23,24,25,26,27,28,29,30] (by kernel_rfl) (by decide) (by decide) (fF ?_ (fF ?_ (fF ?_ (fF ?_ (fF ?_ (fF ?_ (fF ?_ (fF ?_ (fF ?_ (fF ?_ (fF ?_ (fF ?_ (fF ?_ (fF ?_ (fF ?_ (fF ?_ (fF ?_ (fF ?_ (fF ?_ (fF ?_ (fF ?_ (fF ?_ (fF ?_ (fF ?_ (fF ?_ (fF ?_ (fF ?_ (fF ?_ (fF ?_ (fF ?_ (fF ?_ (trivial)))))))))))))))))))))))))))))))) [(33,.bool true)] (fin_of [some 30] d (by kernel_rfl) (by kernel_rfl)) (fun _ a w S=>?_)
  ·refine fJ [(1,_)] 0 [none] fun G a w S=>?_
   exact sField (b:=ae) (off:=0) 0 0 S (wN d) d d d d d (lb d) fun a S=>leafL ⟨d,S⟩
  ·refine fJ [(3,_)] 1 [some 0] fun G a w S=>?_
   exact sLoad1 0 (.slice ab p0.Left.length ac) S (wN d) d d d d d d (lb d) fun a S=>leafL ⟨d,S⟩
  ·refine fJ [(4,_)] 2 [some 1] fun G a w S=>?_
   have S1:=S.mem
   refine sCq [.slice ab p0.Left.length ac] (.bool af) S callee22 (S1.quiet [1] d) (fun E1 w1 S1=>c_raddleref37_side E1 w1 p0.Left (.slice ab p0.Left.length ac) af am S1) fun a w S=>?_
   exact leafL ⟨d,S⟩
  ·refine fJ [(5,_)] 3 [some 2] fun G a w S=>?_
   exact sNot (b:=af) S (wN d) d d d (lb d) fun a S=>leafL ⟨d,S⟩
  ·exact fM 4 (some 3) d d d d (.inl d) d d d
  ·refine fJ [(1,_),(7,_)] 5 [none,some 4] fun G a w S=>?_
   exact sField (b:=ae) (off:=0) 1 1 S (wG 4 false 7 d d d aa) d d d d d (lb d) fun a S=>leafL ⟨d,S⟩
  ·refine fJ [(8,_),(7,_)] 6 [some 5,some 4] fun G a w S=>?_
   exact sLoad1 0 (.slice ag p0.Right.length ah) S (wG 4 false 7 d d d aa) d d d d d d (lb d) fun a S=>leafL ⟨d,S⟩
  ·refine fJ [(9,_),(7,_)] 7 [some 6,some 4] fun G a w S=>?_
   have S1:=S.mem
   refine sCallQ (X:=Unit) (f:=22) (vs:=[.slice ag p0.Right.length ah]) (val:=fun _=>.bool ai) S (wG 4 false 7 d d d aa) d callee22 d (S1.quiet [0] d) (fun E1 w1 S1=>c_raddleref37_side E1 w1 p0.Right (.slice ag p0.Right.length ah) ai ao S1) d (lb d) fun _ a w S=>?_
   exact leafL ⟨d,S⟩
  ·refine fJ [(10,_),(7,_)] 8 [some 7,some 4] fun G a w S=>?_
   exact sNot (b:=ai) S (wG 4 false 7 d d d aa) d d d (lb d) fun a S=>leafL ⟨d,S⟩
  ·refine fJ [(7,_),(11,_)] 9 [some 4,some 8] fun G a w S=>?_
   exact sPickF (.bool (!ai)) S (wN d) d d aa d d (lb d) fun a S=>leafL ⟨d,S⟩
  ·exact fM 10 (some 9) d d d d (.inl d) d d d
  ·refine fJ [(1,_),(13,_)] 11 [none,some 10] fun G a w S=>?_
   exact sSk S d d d a9 d d fun a S=>leafL ⟨d,S⟩
  ·refine fJ [(14,_),(13,_)] 12 [some 11,some 10] fun G a w S=>?_
   exact sSk S d d d a9 d d fun a S=>leafL ⟨d,S⟩
  ·refine fJ [(1,_),(13,_)] 13 [none,some 10] fun G a w S=>?_
   exact sSk S d d d a9 d d fun a S=>leafL ⟨d,S⟩
  ·refine fJ [(16,_),(13,_)] 14 [some 13,some 10] fun G a w S=>?_
   exact sSk S d d d a9 d d fun a S=>leafL ⟨d,S⟩
  ·refine fJ [(17,_),(13,_)] 15 [some 14,some 10] fun G a w S=>?_
   exact sSk S d d d a9 d d fun a S=>leafL ⟨d,S⟩
  ·refine fJ [(18,_),(13,_)] 16 [some 15,some 10] fun G a w S=>?_
   exact sSk S d d d a9 d d fun a S=>leafL ⟨d,S⟩
  ·refine fJ [(15,_),(19,_),(13,_)] 17 [some 12,some 16,some 10] fun G a w S=>?_
   exact sSk S d d d a9 d d fun a S=>leafL ⟨d,S⟩
  ·refine fJ [(20,_),(13,_)] 18 [some 17,some 10] fun G a w S=>?_
   exact sSk S d d d a9 d d fun a S=>leafL ⟨d,S⟩
  ·refine fJ [(21,_),(13,_)] 19 [some 18,some 10] fun G a w S=>?_
   exact sSk S d d d a9 d d fun a S=>leafL ⟨d,S⟩
  ·refine fJ [(1,_),(13,_)] 20 [none,some 10] fun G a w S=>?_
   exact sSk S d d d a9 d d fun a S=>leafL ⟨d,S⟩
  ·refine fJ [(23,_),(13,_)] 21 [some 20,some 10] fun G a w S=>?_
   exact sSk S d d d a9 d d fun a S=>leafL ⟨d,S⟩
  ·refine fJ [(1,_),(13,_)] 22 [none,some 10] fun G a w S=>?_
   exact sSk S d d d a9 d d fun a S=>leafL ⟨d,S⟩
  ·refine fJ [(25,_),(13,_)] 23 [some 22,some 10] fun G a w S=>?_
   exact sSk S d d d a9 d d fun a S=>leafL ⟨d,S⟩
  ·refine fJ [(26,_),(13,_)] 24 [some 23,some 10] fun G a w S=>?_
   exact sSk S d d d a9 d d fun a S=>leafL ⟨d,S⟩
  ·refine fJ [(27,_),(13,_)] 25 [some 24,some 10] fun G a w S=>?_
   exact sSk S d d d a9 d d fun a S=>leafL ⟨d,S⟩
  ·refine fJ [(24,_),(28,_),(13,_)] 26 [some 21,some 25,some 10] fun G a w S=>?_
   exact sSk S d d d a9 d d fun a S=>leafL ⟨d,S⟩
  ·refine fJ [(29,_),(13,_)] 27 [some 26,some 10] fun G a w S=>?_
   exact sSk S d d d a9 d d fun a S=>leafL ⟨d,S⟩
  ·refine fJ [(30,_),(13,_)] 28 [some 27,some 10] fun G a w S=>?_
   exact sSk S d d d a9 d d fun a S=>leafL ⟨d,S⟩
  ·refine fJ [(22,_),(31,_),(13,_)] 29 [some 19,some 28,some 10] fun G a w S=>?_
   exact sSk S d d d a9 d d fun a S=>leafL ⟨d,S⟩
  ·refine fJ [(13,_),(32,_)] 30 [some 10,some 29] fun G a w S=>?_
   exact sPickT (.bool true) S (wN d) d d a9 d d (lb d) fun a S=>leafL ⟨d,S⟩
  exact leafT (⟨true,Option.some.inj h,S.fix [] [] (by decide) d d d⟩)
 obtain ⟨aj,av,h⟩:=bS h
 obtain ⟨ak,aw,h⟩:=bS h
 obtain ⟨ax,ay,S⟩:=pIdx (P:=Try.prog) (r:=r_api_Point) (v:=.slice ab p0.Left.length ac) (xs:=p0.Left) (j:=w64 ((p0.Left.length:Int) - 1)) 26 33 1 S Try.underlying26 d d av
 obtain ⟨az,aA,S⟩:=pFld (P:=Try.prog) (r:=r_api_Point) (s2:=(rI .i64)) (g:=(·.Y)) (q:=ax) (z:=aj) 33 1 0 1 S d d comp_api_Point_Y
 obtain ⟨aL,S⟩:=pLoad (r:=(rI .i64)) (q:=az) (x:=aj.Y) 0 S d
 obtain rfl:aL=iv aj.Y:=S.mem.know (i:=1) (e:=fRep (rI .i64) (aL) aj.Y) d
 obtain ⟨aC,aG,S⟩:=pIdx (P:=Try.prog) (r:=r_api_Point) (v:=.slice ag p0.Right.length ah) (xs:=p0.Right) (j:=w64 ((p0.Right.length:Int) - 1)) 26 33 4 S Try.underlying26 d d aw
 obtain ⟨aH,aI,S⟩:=pFld (P:=Try.prog) (r:=r_api_Point) (s2:=(rI .i64)) (g:=(·.Y)) (q:=aC) (z:=ak) 33 1 0 1 S d d comp_api_Point_Y
 obtain ⟨aM,S⟩:=pLoad (r:=(rI .i64)) (q:=aH) (x:=ak.Y) 0 S d
 obtain rfl:aM=iv ak.Y:=S.mem.know (i:=1) (e:=fRep (rI .i64) (aM) ak.Y) d
 refine sDraw (nf:=[]) (W:=[(0,3,.pointer (some ⟨ae,0,none⟩)),(1,4,.slice ab p0.Left.length ac),(2,5,.bool af),(3,6,.bool (!af)),(4,7,.bool (!af)),(5,8,.pointer (some ⟨ae,1,none⟩)),(6,9,.slice ag p0.Right.length ah),(7,10,.bool ai),(8,11,.bool (!ai)),(9,12,.bool (!ai)),(10,13,.bool (!ai)),(11,14,.pointer (some ⟨ae,0,none⟩)),(12,15,.slice ab p0.Left.length ac),(13,16,.pointer (some ⟨ae,0,none⟩)),(14,17,.slice ab p0.Left.length ac),(15,18,iv (p0.Left.length:Int)),(16,19,iv (w64 ((p0.Left.length:Int) - 1))),(17,20,ax),(18,21,az),(19,22,iv aj.Y),(20,23,.pointer (some ⟨ae,1,none⟩)),(21,24,.slice ag p0.Right.length ah),(22,25,.pointer (some ⟨ae,1,none⟩)),(23,26,.slice ag p0.Right.length ah),(24,27,iv (p0.Right.length:Int)),(25,28,iv (w64 ((p0.Right.length:Int) - 1))),(26,29,aC),(27,30,aH),(28,31,iv ak.Y),(29,32,.bool (aj.Y != ak.Y)),(30,33,.bool (aj.Y != ak.Y))]) d S ?_
 refine node_by (A:=anc_raddleref37_Shape_0) 31 (by kernel_rfl) (by kernel_rfl) (by kernel_rfl) (by kernel_rfl) (by kernel_rfl) [0,1,2,3,4,5,6,7,8,9,10,11,12,13,14,15,16,17,18,19,20,21,22,23,24,25,26,27,28,29,30] (by kernel_rfl) (by decide) (by decide) (fF ?_ (fF ?_ (fF ?_ (fF ?_ (fF ?_ (fF ?_ (fF ?_ (fF ?_ (fF ?_ (fF ?_ (fF ?_ (fF ?_ (fF ?_ (fF ?_ (fF ?_ (fF ?_ (fF ?_ (fF ?_ (fF ?_ (fF ?_ (fF ?_ (fF ?_ (fF ?_ (fF ?_ (fF ?_ (fF ?_ (fF ?_ (fF ?_ (fF ?_ (fF ?_ (fF ?_ (trivial)))))))))))))))))))))))))))))))) [(33,.bool (aj.Y != ak.Y))] (fin_of [some 30] d (by kernel_rfl) (by kernel_rfl)) (fun _ a w S=>?_)
 ·refine fJ [(1,_)] 0 [none] fun G a w S=>?_
  exact sField (b:=ae) (off:=0) 0 0 S (wN d) d d d d d (lb d) fun a S=>leafL ⟨d,S⟩
 ·refine fJ [(3,_)] 1 [some 0] fun G a w S=>?_
  exact sLoad1 0 (.slice ab p0.Left.length ac) S (wN d) d d d d d d (lb d) fun a S=>leafL ⟨d,S⟩
 ·refine fJ [(4,_)] 2 [some 1] fun G a w S=>?_
  have S1:=S.mem
  refine sCq [.slice ab p0.Left.length ac] (.bool af) S callee22 (S1.quiet [9] d) (fun E1 w1 S1=>c_raddleref37_side E1 w1 p0.Left (.slice ab p0.Left.length ac) af am S1) fun a w S=>?_
  exact leafL ⟨d,S⟩
 ·refine fJ [(5,_)] 3 [some 2] fun G a w S=>?_
  exact sNot (b:=af) S (wN d) d d d (lb d) fun a S=>leafL ⟨d,S⟩
 ·exact fM 4 (some 3) d d d d (.inl d) d d d
 ·refine fJ [(1,_),(7,_)] 5 [none,some 4] fun G a w S=>?_
  exact sField (b:=ae) (off:=0) 1 1 S (wG 4 false 7 d d d aa) d d d d d (lb d) fun a S=>leafL ⟨d,S⟩
 ·refine fJ [(8,_),(7,_)] 6 [some 5,some 4] fun G a w S=>?_
  exact sLoad1 0 (.slice ag p0.Right.length ah) S (wG 4 false 7 d d d aa) d d d d d d (lb d) fun a S=>leafL ⟨d,S⟩
 ·refine fJ [(9,_),(7,_)] 7 [some 6,some 4] fun G a w S=>?_
  have S1:=S.mem
  refine sCallQ (X:=Unit) (f:=22) (vs:=[.slice ag p0.Right.length ah]) (val:=fun _=>.bool ai) S (wG 4 false 7 d d d aa) d callee22 d (S1.quiet [8] d) (fun E1 w1 S1=>c_raddleref37_side E1 w1 p0.Right (.slice ag p0.Right.length ah) ai ao S1) d (lb d) fun _ a w S=>?_
  exact leafL ⟨d,S⟩
 ·refine fJ [(10,_),(7,_)] 8 [some 7,some 4] fun G a w S=>?_
  exact sNot (b:=ai) S (wG 4 false 7 d d d aa) d d d (lb d) fun a S=>leafL ⟨d,S⟩
 ·refine fJ [(7,_),(11,_)] 9 [some 4,some 8] fun G a w S=>?_
  exact sPickF (.bool (!ai)) S (wN d) d d aa d d (lb d) fun a S=>leafL ⟨d,S⟩
 ·exact fM 10 (some 9) d d d d (.inl d) d d d
 ·refine fJ [(1,_),(13,_)] 11 [none,some 10] fun G a w S=>?_
  exact sField (b:=ae) (off:=0) 0 0 S (wG 10 false 13 d d d a9) d d d d d (lb d) fun a S=>leafL ⟨d,S⟩
 ·refine fJ [(14,_),(13,_)] 12 [some 11,some 10] fun G a w S=>?_
  exact sLoad1 0 (.slice ab p0.Left.length ac) S (wG 10 false 13 d d d a9) d d d d d d (lb d) fun a S=>leafL ⟨d,S⟩
 ·refine fJ [(1,_),(13,_)] 13 [none,some 10] fun G a w S=>?_
  exact sField (b:=ae) (off:=0) 0 0 S (wG 10 false 13 d d d a9) d d d d d (lb d) fun a S=>leafL ⟨d,S⟩
 ·refine fJ [(16,_),(13,_)] 14 [some 13,some 10] fun G a w S=>?_
  exact sLoad1 0 (.slice ab p0.Left.length ac) S (wG 10 false 13 d d d a9) d d d d d d (lb d) fun a S=>leafL ⟨d,S⟩
 ·refine fJ [(17,_),(13,_)] 15 [some 14,some 10] fun G a w S=>?_
  exact sLen S (wG 10 false 13 d d d a9) d Try.underlying26 d d (lb d) fun a S=>leafL ⟨d,S⟩
 ·refine fJ [(18,_),(13,_)] 16 [some 15,some 10] fun G a w S=>?_
  exact sBin _ S (wG 10 false 13 d d d a9) d d d (bSub _ _ _ _ (p0.Left.length:Int) 1) d (lb d) fun a S=>leafL ⟨d,S⟩
 ·refine fJ [(15,_),(19,_),(13,_)] 17 [some 12,some 16,some 10] fun G a w S=>?_
  exact sIdxV S (wG 10 false 13 d d d a9) d d d ay d (lb d) fun a S=>leafL ⟨d,S⟩
 ·refine fJ [(20,_),(13,_)] 18 [some 17,some 10] fun G a w S=>?_
  exact sFldV (q:=ax) S (wG 10 false 13 d d d a9) d d aA d (lb d) fun a S=>leafL ⟨d,S⟩
 ·refine fJ [(21,_),(13,_)] 19 [some 18,some 10] fun G a w S=>?_
  exact sLoadV1 (vq:=az) 4 (iv aj.Y) S (wG 10 false 13 d d d a9) d d d d d (lb d) fun a S=>leafL ⟨d,S⟩
 ·refine fJ [(1,_),(13,_)] 20 [none,some 10] fun G a w S=>?_
  exact sField (b:=ae) (off:=0) 1 1 S (wG 10 false 13 d d d a9) d d d d d (lb d) fun a S=>leafL ⟨d,S⟩
 ·refine fJ [(23,_),(13,_)] 21 [some 20,some 10] fun G a w S=>?_
  exact sLoad1 0 (.slice ag p0.Right.length ah) S (wG 10 false 13 d d d a9) d d d d d d (lb d) fun a S=>leafL ⟨d,S⟩
 ·refine fJ [(1,_),(13,_)] 22 [none,some 10] fun G a w S=>?_
  exact sField (b:=ae) (off:=0) 1 1 S (wG 10 false 13 d d d a9) d d d d d (lb d) fun a S=>leafL ⟨d,S⟩
 ·refine fJ [(25,_),(13,_)] 23 [some 22,some 10] fun G a w S=>?_
  exact sLoad1 0 (.slice ag p0.Right.length ah) S (wG 10 false 13 d d d a9) d d d d d d (lb d) fun a S=>leafL ⟨d,S⟩
 ·refine fJ [(26,_),(13,_)] 24 [some 23,some 10] fun G a w S=>?_
  exact sLen S (wG 10 false 13 d d d a9) d Try.underlying26 d d (lb d) fun a S=>leafL ⟨d,S⟩
 ·refine fJ [(27,_),(13,_)] 25 [some 24,some 10] fun G a w S=>?_
  exact sBin _ S (wG 10 false 13 d d d a9) d d d (bSub _ _ _ _ (p0.Right.length:Int) 1) d (lb d) fun a S=>leafL ⟨d,S⟩
 ·refine fJ [(24,_),(28,_),(13,_)] 26 [some 21,some 25,some 10] fun G a w S=>?_
  exact sIdxV S (wG 10 false 13 d d d a9) d d d aG d (lb d) fun a S=>leafL ⟨d,S⟩
 ·refine fJ [(29,_),(13,_)] 27 [some 26,some 10] fun G a w S=>?_
  exact sFldV (q:=aC) S (wG 10 false 13 d d d a9) d d aI d (lb d) fun a S=>leafL ⟨d,S⟩
 ·refine fJ [(30,_),(13,_)] 28 [some 27,some 10] fun G a w S=>?_
  exact sLoadV1 (vq:=aH) 0 (iv ak.Y) S (wG 10 false 13 d d d a9) d d d d d (lb d) fun a S=>leafL ⟨d,S⟩
 ·refine fJ [(22,_),(31,_),(13,_)] 29 [some 19,some 28,some 10] fun G a w S=>?_
  exact sBin _ S (wG 10 false 13 d d d a9) d d d (bNe _ _ _ _ .i64 aj.Y ak.Y) d (lb d) fun a S=>leafL ⟨d,S⟩
 ·refine fJ [(13,_),(32,_)] 30 [some 10,some 29] fun G a w S=>?_
  exact sPickF (.bool (aj.Y != ak.Y)) S (wN d) d d a9 d d (lb d) fun a S=>leafL ⟨d,S⟩
 exact leafT (⟨aj.Y != ak.Y,Option.some.inj h,S.fix [] [] (by decide) d d d⟩)
noncomputable def F_raddletop_alive39 :Option Bool:=
 (F_piece_Measure (api_Gauge.mk 20 1000 30 1000) [(api_Point.mk (-1000) 0),(api_Point.mk (-800) 1000)] [(api_Point.mk 1000 0),(api_Point.mk 800 1000)]).bind fun r9=>
 (F_piece_Make r9.1).bind fun aa=>
 (F_piece_Chart aa.1).bind fun ab=>
 (F_chart_Counts ab.1).bind fun a9=>
 Option.bind (α:=Bool) (
  if r9.2 == 0 then
   if aa.2 == 0 then
    if ab.2 == 0 then
     if a9.2 == 0 then
      if (a9.1.length:Int) == 31 then
       (idxO a9.1 0).bind fun ac=>
       if ac == 40 then
        (idxO a9.1 30).bind fun ae=>
        some (ae == 32)
       else
        some false
      else
       some false
     else
      some false
    else
     some false
   else
    some false
  else
   some false) fun af=>
 some af
theorem c_raddletop_alive39 (E:Nat→Prop) (w0:World)  (r:Bool) (h:F_raddletop_alive39 =some r) (S:St0 E [] w0 w0 [] []) :
 Calls Try.prog 4 #[] w0 (Ret (X:=Unit) E [] w0 (fun _=>.bool r) (fun _=>[]) (fun _=>[])):=by
 unfold F_raddletop_alive39 at h
 refine sEnter (args:=[]) 68 Try.func4 d d (by simp) S (fun a S=>?_)
 refine sSeq (fun K1 bj=>sRegion (sN S fun a S=>?_))
 refine lT (bj _ _ (sSeq (fun K2 bl=>sRegion (sBuild [(0,iv 20),(1,iv 1000),(2,iv 30),(3,iv 1000)] [iv 20,iv 1000,iv 30,iv 1000] S (wN d) d d d d (lb d) fun a S=>sAlloc (.agg #[iv 0,iv 0,iv 0,iv 0]) S (wN d) d d [iv 0,iv 0,iv 0,iv 0] d d (lb d) fun a b3 w S=>sStore (p:=b3) (off:=0) (T:=23) (vs:=[iv 0,iv 0,iv 0,iv 0]) (v:=.agg #[iv 20,iv 1000,iv 30,iv 1000]) 0 [iv 20,iv 1000,iv 30,iv 1000] S (wN d) d d d d d d d (by simp) d fun a w S=>lT (bl _ _ (sSeq (fun K4 bm=>sRegion (sLoadN (p:=b3) (off:=0) (T:=23) (vs:=[iv 20,iv 1000,iv 30,iv 1000]) 0 [iv 20,iv 1000,iv 30,iv 1000] S (wN d) d d d d d d d (lb d) fun a S=>sBuild [(0,iv (-1000))] [iv (-1000),iv 0] S (wN d) d d d d (lb d) fun a S=>sBuild [(0,iv (-800)),(1,iv 1000)] [iv (-800),iv 1000] S (wN d) d d d d (lb d) fun a S=>?_))))))))
 have S:=S.learn (fRep r_api_Point (.agg #[iv (-1000),iv 0]) (api_Point.mk (-1000) 0)) d
 have S:=S.learn (fRep r_api_Point (.agg #[iv (-800),iv 1000]) (api_Point.mk (-800) 1000)) d
 refine sLit (r:=r_api_Point) (T:=33) (xs:=[(api_Point.mk (-1000) 0),(api_Point.mk (-800) 1000)]) [(0,.agg #[iv (-1000),iv 0]),(1,.agg #[iv (-800),iv 1000])] 2 [.agg #[iv (-1000),iv 0],.agg #[iv (-800),iv 1000]] [iv (-1000),iv 0,iv (-800),iv 1000] (.agg #[iv 0,iv 0]) 16 S (wN d) d d Try.underlying26 d (by decide) (by decide) (by kernel_rfl) d (fun E1 w1 hE=>All.cons (r_api_Point.mono hE (S.mem.know (i:=1) (e:=fRep r_api_Point (.agg #[iv (-1000),iv 0]) (api_Point.mk (-1000) 0)) d)) (All.cons (r_api_Point.mono hE (S.mem.know (i:=0) (e:=fRep r_api_Point (.agg #[iv (-800),iv 1000]) (api_Point.mk (-800) 1000)) d)) (All.nil _ _ _))) d d (lb d) fun a w aL aM S=>?_
 refine sBuild [(0,iv 1000)] [iv 1000,iv 0] S (wN d) d d d d (lb d) fun a S=>sBuild [(0,iv 800),(1,iv 1000)] [iv 800,iv 1000] S (wN d) d d d d (lb d) fun a S=>?_
 have S:=S.learn (fRep r_api_Point (.agg #[iv 1000,iv 0]) (api_Point.mk 1000 0)) d
 have S:=S.learn (fRep r_api_Point (.agg #[iv 800,iv 1000]) (api_Point.mk 800 1000)) d
 refine sLit (r:=r_api_Point) (T:=33) (xs:=[(api_Point.mk 1000 0),(api_Point.mk 800 1000)]) [(0,.agg #[iv 1000,iv 0]),(1,.agg #[iv 800,iv 1000])] 2 [.agg #[iv 1000,iv 0],.agg #[iv 800,iv 1000]] [iv 1000,iv 0,iv 800,iv 1000] (.agg #[iv 0,iv 0]) 16 S (wN d) d d Try.underlying26 d (by decide) (by decide) (by kernel_rfl) d (fun E1 w1 hE=>All.cons (r_api_Point.mono hE (S.mem.know (i:=1) (e:=fRep r_api_Point (.agg #[iv 1000,iv 0]) (api_Point.mk 1000 0)) d)) (All.cons (r_api_Point.mono hE (S.mem.know (i:=0) (e:=fRep r_api_Point (.agg #[iv 800,iv 1000]) (api_Point.mk 800 1000)) d)) (All.nil _ _ _))) d d (lb d) fun a w aO aP S=>?_
 obtain ⟨r9,aR,h⟩:=bS h
 have S:=S.learn (fRep r_api_Gauge (.agg #[iv 20,iv 1000,iv 30,iv 1000]) (api_Gauge.mk 20 1000 30 1000)) d
 have S:=S.shutR (r:=r_api_Point) (T:=33) (v:=.slice aL [(api_Point.mk (-1000) 0),(api_Point.mk (-800) 1000)].length aM) (xs:=[(api_Point.mk (-1000) 0),(api_Point.mk (-800) 1000)]) 1 d
 have S:=S.shutR (r:=r_api_Point) (T:=33) (v:=.slice aO [(api_Point.mk 1000 0),(api_Point.mk 800 1000)].length aP) (xs:=[(api_Point.mk 1000 0),(api_Point.mk 800 1000)]) 0 d
 refine sCall (X:=Value) (f:=6) (vs:=[.agg #[iv 20,iv 1000,iv 30,iv 1000],.slice aL [(api_Point.mk (-1000) 0),(api_Point.mk (-800) 1000)].length aM,.slice aO [(api_Point.mk 1000 0),(api_Point.mk 800 1000)].length aP]) (val:=c_piece_Measure_val r9) (B':=fun _=>[]) (D':=c_piece_Measure_D r9) [] [eBox b3 23 [iv 20,iv 1000,iv 30,iv 1000]] [fRep r_api_Gauge (.agg #[iv 20,iv 1000,iv 30,iv 1000]) (api_Gauge.mk 20 1000 30 1000),fRep (rL r_api_Point) (.slice aL [(api_Point.mk (-1000) 0),(api_Point.mk (-800) 1000)].length aM) [(api_Point.mk (-1000) 0),(api_Point.mk (-800) 1000)],fRep (rL r_api_Point) (.slice aO [(api_Point.mk 1000 0),(api_Point.mk 800 1000)].length aP) [(api_Point.mk 1000 0),(api_Point.mk 800 1000)]] [0] [2,1,0] S (wN d) d callee6 d (by decide) d d (fun E1 w1 S1=>c_piece_Measure E1 w1 (api_Gauge.mk 20 1000 30 1000) (.agg #[iv 20,iv 1000,iv 30,iv 1000]) [(api_Point.mk (-1000) 0),(api_Point.mk (-800) 1000)] (.slice aL [(api_Point.mk (-1000) 0),(api_Point.mk (-800) 1000)].length aM) [(api_Point.mk 1000 0),(api_Point.mk 800 1000)] (.slice aO [(api_Point.mk 1000 0),(api_Point.mk 800 1000)].length aP) r9 aR S1) d (lb d) fun bn a w S=>?_
 obtain ⟨bo,bp,rfl,aA,aC⟩:=S.mem.know (i:=0) (e:=fRep r_api_Shape (bn) r9.1) d
 have S:=S.learn (fRep (rL r_api_Point) bo r9.1.Left) aA
 obtain ⟨ab,ac,_,rfl,_⟩:=aA
 have S:=S.learn (fRep (rL r_api_Point) bp r9.1.Right) aC
 obtain ⟨ae,af,_,rfl,_⟩:=aC
 refine sM S fun a S=>?_
 refine sExtract (vs:=[.agg #[.slice ab r9.1.Left.length ac,.slice ae r9.1.Right.length af],iv r9.2]) (.agg #[.slice ab r9.1.Left.length ac,.slice ae r9.1.Right.length af]) S (wN d) d d d d (lb d) fun a S=>sExtract (vs:=[.agg #[.slice ab r9.1.Left.length ac,.slice ae r9.1.Right.length af],iv r9.2]) (iv r9.2) S (wN d) d d d d (lb d) fun a S=>sAlloc (.agg #[.slice none 0 0,.slice none 0 0]) S (wN d) d d [.slice none 0 0,.slice none 0 0] d d (lb d) fun a aG w S=>sStore (p:=aG) (off:=0) (T:=28) (vs:=[.slice none 0 0,.slice none 0 0]) (v:=.agg #[.slice ab r9.1.Left.length ac,.slice ae r9.1.Right.length af]) 0 [.slice ab r9.1.Left.length ac,.slice ae r9.1.Right.length af] S (wN d) d d d d d d d (by simp) d fun a w S=>sN S fun a S=>?_
 refine lT (bm _ _ (sSeq (fun bA aS=>sRegion (sLoadN (p:=aG) (off:=0) (T:=28) (vs:=[.slice ab r9.1.Left.length ac,.slice ae r9.1.Right.length af]) 0 [.slice ab r9.1.Left.length ac,.slice ae r9.1.Right.length af] S (wN d) d d d d d d d (lb d) fun a S=>?_))))
 obtain ⟨a9,aT,h⟩:=bS h
 refine sCall (X:=Value) (f:=7) (vs:=[.agg #[.slice ab r9.1.Left.length ac,.slice ae r9.1.Right.length af]]) (val:=c_piece_Make_val a9) (B':=fun _=>[]) (D':=c_piece_Make_D a9) [] [eBox aG 28 [.slice ab r9.1.Left.length ac,.slice ae r9.1.Right.length af],eBox b3 23 [iv 20,iv 1000,iv 30,iv 1000]] [fRep r_api_Shape (.agg #[.slice ab r9.1.Left.length ac,.slice ae r9.1.Right.length af]) r9.1] [0,1] [2] S (wN d) d callee7 d (by decide) d d (fun E1 w1 S1=>c_piece_Make E1 w1 r9.1 (.agg #[.slice ab r9.1.Left.length ac,.slice ae r9.1.Right.length af]) a9 aT S1) d (lb d) fun bq a w S=>?_
 obtain ⟨br,bt,rfl,aH,aI⟩:=S.mem.know (i:=0) (e:=fRep r_api_Piece (bq) a9.1) d
 have S:=S.learn (fRep (rL (rI .i64)) br a9.1.Left) aH
 obtain ⟨ag,ah,_,rfl,_⟩:=aH
 have S:=S.learn (fRep (rL (rI .i64)) bt a9.1.Right) aI
 obtain ⟨ai,aj,_,rfl,_⟩:=aI
 refine sM S fun a S=>?_
 refine sExtract (vs:=[.agg #[.slice ag a9.1.Left.length ah,.slice ai a9.1.Right.length aj],iv a9.2]) (.agg #[.slice ag a9.1.Left.length ah,.slice ai a9.1.Right.length aj]) S (wN d) d d d d (lb d) fun a S=>sExtract (vs:=[.agg #[.slice ag a9.1.Left.length ah,.slice ai a9.1.Right.length aj],iv a9.2]) (iv a9.2) S (wN d) d d d d (lb d) fun a S=>sAlloc (.agg #[.slice none 0 0,.slice none 0 0]) S (wN d) d d [.slice none 0 0,.slice none 0 0] d d (lb d) fun a aQ w S=>sStore (p:=aQ) (off:=0) (T:=36) (vs:=[.slice none 0 0,.slice none 0 0]) (v:=.agg #[.slice ag a9.1.Left.length ah,.slice ai a9.1.Right.length aj]) 0 [.slice ag a9.1.Left.length ah,.slice ai a9.1.Right.length aj] S (wN d) d d d d d d d (by simp) d fun a w S=>sN S fun a S=>?_
 refine lT (aS _ _ (sSeq (fun bB aU=>sRegion (sLoadN (p:=aQ) (off:=0) (T:=36) (vs:=[.slice ag a9.1.Left.length ah,.slice ai a9.1.Right.length aj]) 0 [.slice ag a9.1.Left.length ah,.slice ai a9.1.Right.length aj] S (wN d) d d d d d d d (lb d) fun a S=>?_))))
 obtain ⟨aa,aV,h⟩:=bS h
 refine sCall (X:=Value) (f:=15) (vs:=[.agg #[.slice ag a9.1.Left.length ah,.slice ai a9.1.Right.length aj]]) (val:=c_piece_Chart_val aa) (B':=fun _=>[]) (D':=c_piece_Chart_D aa) [] [eBox aQ 36 [.slice ag a9.1.Left.length ah,.slice ai a9.1.Right.length aj],eBox aG 28 [.slice ab r9.1.Left.length ac,.slice ae r9.1.Right.length af],eBox b3 23 [iv 20,iv 1000,iv 30,iv 1000]] [fRep r_api_Piece (.agg #[.slice ag a9.1.Left.length ah,.slice ai a9.1.Right.length aj]) a9.1] [0,1,2] [2] S (wN d) d callee15 d (by decide) d d (fun E1 w1 S1=>c_piece_Chart E1 w1 a9.1 (.agg #[.slice ag a9.1.Left.length ah,.slice ai a9.1.Right.length aj]) aa aV S1) d (lb d) fun bu a w S=>?_
 obtain ⟨bv,rfl,aJ⟩:=S.mem.know (i:=0) (e:=fRep r_api_Chart (bu) aa.1) d
 have S:=S.learn (fRep (rL r_api_Row) bv aa.1.Rows) aJ
 obtain ⟨ak,al,_,rfl,_⟩:=aJ
 refine sM S fun a S=>?_
 refine sExtract (vs:=[.agg #[iv aa.1.Start,.slice ak aa.1.Rows.length al],iv aa.2]) (.agg #[iv aa.1.Start,.slice ak aa.1.Rows.length al]) S (wN d) d d d d (lb d) fun a S=>sExtract (vs:=[.agg #[iv aa.1.Start,.slice ak aa.1.Rows.length al],iv aa.2]) (iv aa.2) S (wN d) d d d d (lb d) fun a S=>sAlloc (.agg #[iv 0,.slice none 0 0]) S (wN d) d d [iv 0,.slice none 0 0] d d (lb d) fun a aW w S=>sStore (p:=aW) (off:=0) (T:=49) (vs:=[iv 0,.slice none 0 0]) (v:=.agg #[iv aa.1.Start,.slice ak aa.1.Rows.length al]) 0 [iv aa.1.Start,.slice ak aa.1.Rows.length al] S (wN d) d d d d d d d (by simp) d fun a w S=>sN S fun a S=>?_
 refine lT (aU _ _ (sSeq (fun bC aX=>sRegion (sLoadN (p:=aW) (off:=0) (T:=49) (vs:=[iv aa.1.Start,.slice ak aa.1.Rows.length al]) 0 [iv aa.1.Start,.slice ak aa.1.Rows.length al] S (wN d) d d d d d d d (lb d) fun a S=>?_))))
 obtain ⟨am,aZ,h⟩:=bS h
 refine sCall (X:=Value) (f:=16) (vs:=[.agg #[iv aa.1.Start,.slice ak aa.1.Rows.length al]]) (val:=c_chart_Counts_val am) (B':=fun _=>[]) (D':=c_chart_Counts_D am) [] [eBox aW 49 [iv aa.1.Start,.slice ak aa.1.Rows.length al],eBox aQ 36 [.slice ag a9.1.Left.length ah,.slice ai a9.1.Right.length aj],eBox aG 28 [.slice ab r9.1.Left.length ac,.slice ae r9.1.Right.length af],eBox b3 23 [iv 20,iv 1000,iv 30,iv 1000]] [fRep r_api_Chart (.agg #[iv aa.1.Start,.slice ak aa.1.Rows.length al]) aa.1] [0,1,2,3] [1] S (wN d) d callee16 d (by decide) d d (fun E1 w1 S1=>c_chart_Counts E1 w1 aa.1 (.agg #[iv aa.1.Start,.slice ak aa.1.Rows.length al]) am aZ S1) d (lb d) fun bw a w S=>?_
 obtain ⟨ao,ap,_,rfl,_⟩:=S.mem.know (i:=0) (e:=fRep (rL (rI .i64)) (bw) am.1) d
 refine sM S fun a S=>?_
 refine sExtract (vs:=[.slice ao am.1.length ap,iv am.2]) (.slice ao am.1.length ap) S (wN d) d d d d (lb d) fun a S=>sExtract (vs:=[.slice ao am.1.length ap,iv am.2]) (iv am.2) S (wN d) d d d d (lb d) fun a S=>sN S fun a S=>?_
 refine sN S fun a S=>?_
 refine lT (aX _ _ ?_)
 obtain ⟨bx,h,bz⟩:=bS h
 refine sCut (fun a w=>∃ aK,aK=bx∧St [] E [] w0 68 a w [(0,.bool aK)] [] []) ?_ (fun a w hI=>?_)
 rotate_left
 ·obtain ⟨aK,rfl,S⟩:=hI
  have h:=bz
  try dsimp only at h
  obtain rfl:=tS h
  exact wp_ret (sRet (.bool aK) S (rsl1 d (rvT (t:=0) (v:=.bool aK) S d)) ⟨(),d,S.mem.sel [] [] (by decide) d d⟩)
 refine sRegion (sM S fun a S=>?_)
 refine sBin _ S (wN d) d d d (bEq _ _ _ _ .i64 r9.2 0) d (lb d) fun a S=>sM S fun a S=>?_
 rcases iS h with ⟨av,h⟩ | ⟨av,h⟩
 rotate_left
 ·refine sSkN 2 2 true 39 S d d av d fun a S=>sPickF (.bool false) S (wN d) d d av d d (lb d) fun a S=>sM S fun a S=>?_
  refine sSkN 2 6 true 43 S d d d d fun a S=>sPickF (.bool false) S (wN d) d d d d d (lb d) fun a S=>sM S fun a S=>?_
  refine sSkN 2 10 true 47 S d d d d fun a S=>sPickF (.bool false) S (wN d) d d d d d (lb d) fun a S=>sM S fun a S=>?_
  refine sSkN 3 14 true 51 S d d d d fun a S=>sPickF (.bool false) S (wN d) d d d d d (lb d) fun a S=>sM S fun a S=>?_
  refine sSkN 4 19 true 56 S d d d d fun a S=>sPickF (.bool false) S (wN d) d d d d d (lb d) fun a S=>sM S fun a S=>?_
  refine sSkN 4 25 true 62 S d d d d fun a S=>sPickF (.bool false) S (wN d) d d d d d (lb d) fun a S=>sN S fun a S=>?_
  exact lT (⟨false,Option.some.inj h,S.fix [] [] (by decide) d d d⟩)
 refine sMove (iv a9.2) S (wG 2 true 39 d d d av) (.inl d) d d (lb d) fun a S=>sBin _ S (wG 2 true 39 d d d av) d d d (bEq _ _ _ _ .i64 a9.2 0) d (lb d) fun a S=>sPickT (.bool (a9.2 == 0)) S (wN d) d d av d d (lb d) fun a S=>sM S fun a S=>?_
 rcases iS h with ⟨aw,h⟩ | ⟨aw,h⟩
 rotate_left
 ·refine sSkN 2 6 true 43 S d d aw d fun a S=>sPickF (.bool false) S (wN d) d d aw d d (lb d) fun a S=>sM S fun a S=>?_
  refine sSkN 2 10 true 47 S d d d d fun a S=>sPickF (.bool false) S (wN d) d d d d d (lb d) fun a S=>sM S fun a S=>?_
  refine sSkN 3 14 true 51 S d d d d fun a S=>sPickF (.bool false) S (wN d) d d d d d (lb d) fun a S=>sM S fun a S=>?_
  refine sSkN 4 19 true 56 S d d d d fun a S=>sPickF (.bool false) S (wN d) d d d d d (lb d) fun a S=>sM S fun a S=>?_
  refine sSkN 4 25 true 62 S d d d d fun a S=>sPickF (.bool false) S (wN d) d d d d d (lb d) fun a S=>sN S fun a S=>?_
  exact lT (⟨false,Option.some.inj h,S.fix [] [] (by decide) d d d⟩)
 refine sMove (iv aa.2) S (wG 6 true 43 d d d aw) (.inl d) d d (lb d) fun a S=>sBin _ S (wG 6 true 43 d d d aw) d d d (bEq _ _ _ _ .i64 aa.2 0) d (lb d) fun a S=>sPickT (.bool (aa.2 == 0)) S (wN d) d d aw d d (lb d) fun a S=>sM S fun a S=>?_
 rcases iS h with ⟨ax,h⟩ | ⟨ax,h⟩
 rotate_left
 ·refine sSkN 2 10 true 47 S d d ax d fun a S=>sPickF (.bool false) S (wN d) d d ax d d (lb d) fun a S=>sM S fun a S=>?_
  refine sSkN 3 14 true 51 S d d d d fun a S=>sPickF (.bool false) S (wN d) d d d d d (lb d) fun a S=>sM S fun a S=>?_
  refine sSkN 4 19 true 56 S d d d d fun a S=>sPickF (.bool false) S (wN d) d d d d d (lb d) fun a S=>sM S fun a S=>?_
  refine sSkN 4 25 true 62 S d d d d fun a S=>sPickF (.bool false) S (wN d) d d d d d (lb d) fun a S=>sN S fun a S=>?_
  exact lT (⟨false,Option.some.inj h,S.fix [] [] (by decide) d d d⟩)
 refine sMove (iv am.2) S (wG 10 true 47 d d d ax) (.inl d) d d (lb d) fun a S=>sBin _ S (wG 10 true 47 d d d ax) d d d (bEq _ _ _ _ .i64 am.2 0) d (lb d) fun a S=>sPickT (.bool (am.2 == 0)) S (wN d) d d ax d d (lb d) fun a S=>sM S fun a S=>?_
 rcases iS h with ⟨au,h⟩ | ⟨au,h⟩
 rotate_left
 ·refine sSkN 3 14 true 51 S d d au d fun a S=>sPickF (.bool false) S (wN d) d d au d d (lb d) fun a S=>sM S fun a S=>?_
  refine sSkN 4 19 true 56 S d d d d fun a S=>sPickF (.bool false) S (wN d) d d d d d (lb d) fun a S=>sM S fun a S=>?_
  refine sSkN 4 25 true 62 S d d d d fun a S=>sPickF (.bool false) S (wN d) d d d d d (lb d) fun a S=>sN S fun a S=>?_
  exact lT (⟨false,Option.some.inj h,S.fix [] [] (by decide) d d d⟩)
 refine sMove (.slice ao am.1.length ap) S (wG 14 true 51 d d d au) (.inl d) d d (lb d) fun a S=>sLen S (wG 14 true 51 d d d au) d Try.underlying34 d d (lb d) fun a S=>sBin _ S (wG 14 true 51 d d d au) d d d (bEq _ _ _ _ .i64 (am.1.length:Int) 31) d (lb d) fun a S=>sPickT (.bool ((am.1.length:Int) == 31)) S (wN d) d d au d d (lb d) fun a S=>sM S fun a S=>?_
 rcases iS h with ⟨aq,h⟩ | ⟨aq,h⟩
 rotate_left
 ·refine sSkN 4 19 true 56 S d d aq d fun a S=>sPickF (.bool false) S (wN d) d d aq d d (lb d) fun a S=>sM S fun a S=>?_
  refine sSkN 4 25 true 62 S d d d d fun a S=>sPickF (.bool false) S (wN d) d d d d d (lb d) fun a S=>sN S fun a S=>?_
  exact lT (⟨false,Option.some.inj h,S.fix [] [] (by decide) d d d⟩)
 refine sMove (.slice ao am.1.length ap) S (wG 19 true 56 d d d aq) (.inl d) d d (lb d) fun a S=>?_
 obtain ⟨az,b8,h⟩:=bS h
 obtain ⟨bf,ba,S⟩:=pIdx (P:=Try.prog) (r:=(rI .i64)) (v:=.slice ao am.1.length ap) (xs:=am.1) (j:=0) 34 3 0 S Try.underlying34 d d b8
 refine sIdxV S (wG 19 true 56 d d d aq) d d d ba d (lb d) fun a S=>?_
 obtain ⟨bg,S⟩:=pLoad (r:=(rI .i64)) (q:=bf) (x:=az) 0 S d
 obtain rfl:bg=iv az:=S.mem.know (i:=1) (e:=fRep (rI .i64) (bg) az) d
 refine sLoadV1 (vq:=bf) 0 (iv az) S (wG 19 true 56 d d d aq) d d d d d (lb d) fun a S=>sBin _ S (wG 19 true 56 d d d aq) d d d (bEq _ _ _ _ .i64 az 40) d (lb d) fun a S=>sPickT (.bool (az == 40)) S (wN d) d d aq d d (lb d) fun a S=>sM S fun a S=>?_
 rcases iS h with ⟨ar,h⟩ | ⟨ar,h⟩
 rotate_left
 ·refine sSkN 4 25 true 62 S d d ar d fun a S=>sPickF (.bool false) S (wN d) d d ar d d (lb d) fun a S=>sN S fun a S=>?_
  exact lT (⟨false,Option.some.inj h,S.fix [] [] (by decide) d d d⟩)
 refine sMove (.slice ao am.1.length ap) S (wG 25 true 62 d d d ar) (.inl d) d d (lb d) fun a S=>?_
 obtain ⟨ay,bb,h⟩:=bS h
 obtain ⟨bh,bc,S⟩:=pIdx (P:=Try.prog) (r:=(rI .i64)) (v:=.slice ao am.1.length ap) (xs:=am.1) (j:=30) 34 3 3 S Try.underlying34 d d bb
 refine sIdxV S (wG 25 true 62 d d d ar) d d d bc d (lb d) fun a S=>?_
 obtain ⟨bi,S⟩:=pLoad (r:=(rI .i64)) (q:=bh) (x:=ay) 0 S d
 obtain rfl:bi=iv ay:=S.mem.know (i:=1) (e:=fRep (rI .i64) (bi) ay) d
 refine sLoadV1 (vq:=bh) 0 (iv ay) S (wG 25 true 62 d d d ar) d d d d d (lb d) fun a S=>sBin _ S (wG 25 true 62 d d d ar) d d d (bEq _ _ _ _ .i64 ay 32) d (lb d) fun a S=>sPickT (.bool (ay == 32)) S (wN d) d d ar d d (lb d) fun a S=>sN S fun a S=>?_
 exact lT (⟨ay == 32,Option.some.inj h,S.fix [] [] (by decide) d d d⟩)
theorem len_two {α:Type} (a b:α):(([a,b]:List α).length:Int)=2:=rfl
theorem ix_zero {α:Type} (a b:α):idxO [a,b] 0=some a:=rfl
theorem ix_one {α:Type} (a b:α):idxO [a,b] 1=some b:=rfl
theorem sign_of {s x l:Int} (hs:s=1 ∨ s=-1) (hx:x=s * l) (l0:1 ≤ l) (l1:l ≤ 10000):(Option.bind (α:=Bool) (if decide (x < 0)=true then some (decide ((-1000000) ≤ x)) else some false) fun o41=>if o41=true then some (-1) else some 1)=some s∧w64 (s * x)=l:=by
 rcases hs with rfl | rfl
 ·obtain rfl:x=l:=by omega
  rw [dF (show ¬ x < 0 by omega)]
  exact ⟨rfl,by rw [w64_of (by omega) (by omega)]; omega⟩
 ·obtain rfl:x=-l:=by omega
  rw [dT (show -l < 0 by omega),dT (show (-1000000:Int) ≤ -l by omega)]
  exact ⟨rfl,by rw [w64_of (by omega) (by omega)]; omega⟩
theorem sgn_bd {s a:Int} (hs:s=1 ∨ s=-1) (a0:0 ≤ a) (a1:a ≤ 1000000):w64 (s * a)=s * a:=by
 rcases hs with rfl | rfl
 ·exact w64_of (by omega) (by omega)
 ·exact w64_of (by omega) (by omega)
theorem place_two {g:api_Gauge} (hg:gok g=true) {s low high tall x0 x1:Int} (hs:s=1 ∨ s=-1) (h0:x0=s * low) (h1:x1=s * high) (l0:1 ≤ low) (l1:low ≤ 10000) (i0:1 ≤ high) (i1:high ≤ 10000) (t0:1 ≤ tall) (t1:tall ≤ 10000) :
 F_piece_place g [⟨x0,0⟩,⟨x1,tall⟩]=some (if (sc true g.Stitches g.Width low).2=0∧(sc true g.Stitches g.Width high).2=0∧(sc true g.Rows g.Height tall).2=0 then ([⟨s * (sc true g.Stitches g.Width low).1,0⟩,⟨s * (sc true g.Stitches g.Width high).1,(sc true g.Rows g.Height tall).1⟩],0) else ([],16)):=by
 have hk:=gok_spec hg
 have hc:capO (([⟨x0,0⟩,⟨x1,tall⟩]:List api_Point).length:Int)=some ():=capO_of (k:=2) rfl (by omega)
 have z0:sc true g.Rows g.Height 0=(0,0):=by
  rcases sc_cases (num:=g.Rows) (den:=g.Height) (v:=0) (by omega) (by omega) with ⟨_,h⟩ | h
  ·rw [h,near_zero (by omega)]
  ·unfold sc at h
   rw [near_zero (by omega)] at h
   simp at h
 obtain ⟨g0,g1⟩:=sign_of hs h0 l0 l1
 obtain ⟨g2,g3⟩:=sign_of hs h1 i0 i1
 unfold F_piece_place
 rw [hc]
 simp only [Option.bind_some]
 have b1:w64 (0 + 1)=1:=rfl
 have b2:w64 (1 + 1)=2:=rfl
 have step0:piece_place_l1 [⟨x0,0⟩,⟨x1,tall⟩] g ([],0)=if (sc true g.Stitches g.Width low).2=0 then some (.inl ([⟨s * (sc true g.Stitches g.Width low).1,0⟩],1)) else some (.inr (.inl ([],16))):=by
  unfold piece_place_l1
  dsimp only
  rw [len_two,ix_zero]
  simp only [show decide ((0:Int) < 2)=true from rfl,if_true,Option.bind_some,g0,g1,stitches_eq,rows_eq,hg,z0,bne_self_eq_false,Bool.false_eq_true,if_false,b1]
  rcases sc_cases (num:=g.Stitches) (den:=g.Width) (v:=low) (by omega) (by omega) with ⟨b,h⟩ | h
  ·have n0:=near_bd (v:=low) (num:=g.Stitches) (den:=g.Width) (by omega) (by omega) (by omega)
   rw [h]
   simp only [bne_self_eq_false,Bool.false_eq_true,if_false,if_true,sgn_bd hs n0 b]
   rfl
  ·rw [h]
   rfl
 have step1:∀ P:api_Point,piece_place_l1 [⟨x0,0⟩,⟨x1,tall⟩] g ([P],1)=if (sc true g.Stitches g.Width high).2=0 then (if (sc true g.Rows g.Height tall).2=0 then some (.inl ([P,⟨s * (sc true g.Stitches g.Width high).1,(sc true g.Rows g.Height tall).1⟩],2)) else some (.inr (.inl ([],16)))) else some (.inr (.inl ([],16))):=by
  intro P
  unfold piece_place_l1
  dsimp only
  rw [len_two,ix_one]
  simp only [show decide ((1:Int) < 2)=true from rfl,if_true,Option.bind_some,g2,g3,stitches_eq,rows_eq,hg,b2]
  rcases sc_cases (num:=g.Stitches) (den:=g.Width) (v:=high) (by omega) (by omega) with ⟨b,h⟩ | h
  ·have n0:=near_bd (v:=high) (num:=g.Stitches) (den:=g.Width) (by omega) (by omega) (by omega)
   rw [h]
   simp only [bne_self_eq_false,Bool.false_eq_true,if_false,if_true,sgn_bd hs n0 b]
   rcases sc_cases (num:=g.Rows) (den:=g.Height) (v:=tall) (by omega) (by omega) with ⟨c,h2⟩ | h2
   ·rw [h2]
    rfl
   ·rw [h2]
    rfl
  ·rw [h]
   rfl
 have step2:∀ P Q:api_Point,piece_place_l1 [⟨x0,0⟩,⟨x1,tall⟩] g ([P,Q],2)=some (.inr (.inr [P,Q])):=fun P Q=>rfl
 by_cases e0:(sc true g.Stitches g.Width low).2=0
 ·rw [if_pos e0] at step0
  rw [whileO_step step0]
  have step1:=step1 ⟨s * (sc true g.Stitches g.Width low).1,0⟩
  by_cases e1:(sc true g.Stitches g.Width high).2=0
  ·rw [if_pos e1] at step1
   by_cases e2:(sc true g.Rows g.Height tall).2=0
   ·rw [if_pos e2] at step1
    rw [whileO_step step1,whileO_done (step2 _ _),if_pos ⟨e0,e1,e2⟩]
    rfl
   ·rw [if_neg e2] at step1
    rw [whileO_done step1,if_neg (fun h=>e2 h.2.2)]
    rfl
  ·rw [if_neg e1] at step1
   rw [whileO_done step1,if_neg (fun h=>e1 h.2.1)]
   rfl
 ·rw [if_neg e0] at step0
  rw [whileO_done step0,if_neg (fun h=>e0 h.1)]
  rfl
def sOk (x y t:Int):Prop:=(1 ≤ t∧t ≤ 99)∧(-500 ≤ x∧x ≤ 500)∧-500 ≤ y∧y ≤ 500
instance (x y t:Int):Decidable (sOk x y t):=by unfold sOk; infer_instance
theorem pcol_eq (x:Int):F_piece_column x=some (decide (-500 ≤ x∧x ≤ 500)):=by
 rw [(col_eq x).1]
 congr 1
 simp
theorem rin_eq (x:Int):F_raddleref37_in x=some (decide (-500 ≤ x∧x ≤ 500)):=by
 rw [(col_eq x).2]
 congr 1
 simp
theorem side_two (x y t:Int):F_piece_side [⟨x,0⟩,⟨y,t⟩]=some (decide (sOk x y t)):=by
 have b1:w64 (2 - 1)=1:=rfl
 have b2:w64 (1 - 1)=0:=rfl
 have b3:w64 (0 + 1)=1:=rfl
 have b4:w64 (1 + 1)=2:=rfl
 have step0:piece_side_l1 [⟨x,0⟩,⟨y,t⟩] 0=if -500 ≤ x∧x ≤ 500 then some (.inl 1) else some (.inr (.inl false)):=by
  unfold piece_side_l1
  dsimp only
  rw [len_two,ix_zero]
  simp only [show decide ((0:Int) < 2)=true from rfl,if_true,Option.bind_some,pcol_eq,b3,show decide ((0:Int) < 0)=false from rfl,Bool.false_eq_true,if_false]
  by_cases h:-500 ≤ x∧x ≤ 500
  ·rw [if_pos h,dT h]
   rfl
  ·rw [if_neg h,dF h]
   rfl
 have step1:piece_side_l1 [⟨x,0⟩,⟨y,t⟩] 1=if (-500 ≤ y∧y ≤ 500)∧0 < t then some (.inl 2) else some (.inr (.inl false)):=by
  unfold piece_side_l1
  dsimp only
  rw [len_two,ix_one]
  simp only [show decide ((1:Int) < 2)=true from rfl,if_true,Option.bind_some,pcol_eq,b4,b2,ix_zero,show decide ((0:Int) < 1)=true from rfl]
  by_cases h:-500 ≤ y∧y ≤ 500
  ·rw [dT h]
   by_cases h2:0 < t
   ·rw [if_pos (show (-500 ≤ y∧y ≤ 500)∧0 < t from ⟨h,h2⟩),dF (show ¬ t ≤ 0 by omega)]
    rfl
   ·rw [if_neg (show ¬ ((-500 ≤ y∧y ≤ 500)∧0 < t) from fun k=>h2 k.2),dT (show t ≤ 0 by omega)]
    rfl
  ·rw [if_neg (show ¬ ((-500 ≤ y∧y ≤ 500)∧0 < t) from fun k=>h k.1),dF h]
   rfl
 have step2:piece_side_l1 [⟨x,0⟩,⟨y,t⟩] 2=some (.inr (.inr ())):=rfl
 unfold F_piece_side
 rw [len_two,ix_zero,b1,ix_one]
 simp only [show ((2:Int) == 0)=false from rfl,show decide ((50:Int) < 2)=false from rfl,Bool.false_eq_true,if_false,Option.bind_some,bne_self_eq_false]
 by_cases h:100 ≤ t
 ·have hn:¬ sOk x y t:=fun k=>by have:=k.1; omega
  rw [dT h,dF hn]
  rfl
 rw [dF h]
 simp only [Bool.false_eq_true,if_false]
 by_cases h0:-500 ≤ x∧x ≤ 500
 ·rw [if_pos h0] at step0
  rw [whileO_step step0]
  by_cases h1:(-500 ≤ y∧y ≤ 500)∧0 < t
  ·rw [if_pos h1] at step1
   have ho:sOk x y t:=⟨⟨by omega,by omega⟩,h0,h1.1.1,h1.1.2⟩
   rw [whileO_step step1,whileO_done step2,dT ho]
   rfl
  ·rw [if_neg h1] at step1
   have hn:¬ sOk x y t:=fun k=>h1 ⟨k.2.2,by have:=k.1; omega⟩
   rw [whileO_done step1,dF hn]
   rfl
 ·rw [if_neg h0] at step0
  have hn:¬ sOk x y t:=fun k=>h0 k.2.1
  rw [whileO_done step0,dF hn]
  rfl
theorem rside_two {x y t:Int} (h:sOk x y t):F_raddleref37_side [⟨x,0⟩,⟨y,t⟩]=some true:=by
 obtain ⟨h1,h2,h3⟩:=h
 have b2:w64 (1 - 1)=0:=rfl
 have b3:w64 (0 + 1)=1:=rfl
 have b4:w64 (1 + 1)=2:=rfl
 have step0:raddleref37_side_l1 [⟨x,0⟩,⟨y,t⟩] 0=some (.inl 1):=by
  unfold raddleref37_side_l1
  dsimp only
  rw [len_two,ix_zero]
  simp only [show decide ((0:Int) < 2)=true from rfl,if_true,Option.bind_some,rin_eq,b3,show decide ((0:Int) < 0)=false from rfl,show decide ((99:Int) < 0)=false from rfl,Bool.false_eq_true,if_false,dT h2,Bool.not_true]
 have step1:raddleref37_side_l1 [⟨x,0⟩,⟨y,t⟩] 1=some (.inl 2):=by
  unfold raddleref37_side_l1
  dsimp only
  rw [len_two,ix_one]
  simp only [show decide ((1:Int) < 2)=true from rfl,if_true,Option.bind_some,rin_eq,b4,b2,ix_zero,show decide ((0:Int) < 1)=true from rfl,dT h3,Bool.not_true,dF (show ¬ t < 0 by omega),dF (show ¬ 99 < t by omega),dF (show ¬ t ≤ 0 by omega),Bool.false_eq_true,if_false]
 have step2:raddleref37_side_l1 [⟨x,0⟩,⟨y,t⟩] 2=some (.inr (.inr ())):=rfl
 unfold F_raddleref37_side
 rw [len_two,ix_zero,whileO_step step0,whileO_step step1,whileO_done step2]
 rfl
def shp (a b t:Int):api_Shape:=⟨[⟨-a,0⟩,⟨-b,t⟩],[⟨a,0⟩,⟨b,t⟩]⟩
theorem sOk_neg {a b t:Int}:sOk (-a) (-b) t ↔ sOk a b t:=by
 unfold sOk
 constructor <;> intro h <;> omega
theorem shape_two (a b t:Int):F_piece_shape (shp a b t)=some (if sOk a b t then 0 else 8):=by
 have b1:w64 (2 - 1)=1:=rfl
 unfold F_piece_shape shp
 dsimp only
 rw [side_two,side_two,len_two,len_two,b1,ix_one,ix_one]
 by_cases h:sOk a b t
 ·rw [dT h,dT (sOk_neg.2 h),if_pos h]
  simp
 ·rw [dF h,dF (fun k=>h (sOk_neg.1 k)),if_neg h]
  rfl
theorem rshape_two {a b t:Int} (h:sOk a b t):F_raddleref37_Shape (shp a b t)=some 0:=by
 have b1:w64 (2 - 1)=1:=rfl
 unfold F_raddleref37_Shape shp
 dsimp only
 rw [rside_two h,rside_two (sOk_neg.2 h),len_two,len_two,b1,ix_one,ix_one]
 simp
theorem measure_two {g:api_Gauge} (hg:gok g=true) {low high tall x0 x1:Int} (h0:x0=-low) (h1:x1=-high) (l0:1 ≤ low) (l1:low ≤ 10000) (i0:1 ≤ high) (i1:high ≤ 10000) (t0:1 ≤ tall) (t1:tall ≤ 10000) :
 F_piece_Measure g [⟨x0,0⟩,⟨x1,tall⟩] [⟨low,0⟩,⟨high,tall⟩]=some (if (sc true g.Stitches g.Width low).2=0∧(sc true g.Stitches g.Width high).2=0∧(sc true g.Rows g.Height tall).2=0 then (if sOk (sc true g.Stitches g.Width low).1 (sc true g.Stitches g.Width high).1 (sc true g.Rows g.Height tall).1 then (shp (sc true g.Stitches g.Width low).1 (sc true g.Stitches g.Width high).1 (sc true g.Rows g.Height tall).1,0) else (⟨[],[]⟩,8)) else (⟨[],[]⟩,16)):=by
 unfold F_piece_Measure
 rw [place_two hg (s:=-1) (.inr rfl) (low:=low) (high:=high) (by omega) (by omega) l0 l1 i0 i1 t0 t1,place_two hg (s:=1) (.inl rfl) (low:=low) (high:=high) (by omega) (by omega) l0 l1 i0 i1 t0 t1]
 by_cases h:(sc true g.Stitches g.Width low).2=0∧(sc true g.Stitches g.Width high).2=0∧(sc true g.Rows g.Height tall).2=0
 ·rw [if_pos h,if_pos h,if_pos h]
  generalize (sc true g.Stitches g.Width low).1=a
  generalize (sc true g.Stitches g.Width high).1=b
  generalize (sc true g.Rows g.Height tall).1=t
  have e:(api_Shape.mk [⟨-1 * a,0⟩,⟨-1 * b,t⟩] [⟨1 * a,0⟩,⟨1 * b,t⟩])=shp a b t:=by
   unfold shp
   rw [Int.one_mul,Int.one_mul,Int.neg_mul,Int.one_mul,Int.neg_mul,Int.one_mul]
  simp only [Option.bind_some,bne_self_eq_false,Bool.false_eq_true,if_false]
  rw [e,shape_two]
  by_cases ho:sOk a b t
  ·rw [if_pos ho,if_pos ho]
   rfl
  ·rw [if_neg ho,if_neg ho]
   rfl
 ·rw [if_neg h,if_neg h,if_neg h]
  rfl
theorem columns_two {x y t:Int} (h:sOk x y t):F_piece_columns [⟨x,0⟩,⟨y,t⟩]=some (lnL x y t):=by
 obtain ⟨⟨t0,t1⟩,⟨x0,x1⟩,y0,y1⟩:=h
 have hs:sliceO ([⟨x,0⟩,⟨y,t⟩]:List api_Point) 1 2=some [⟨y,t⟩]:=rfl
 have hl:sliceO (lnL x y t) 1 ((lnL x y t).length:Int)=some ((lnL x y t).drop 1):=sliceO_all (k:=1) (by rw [lnL_len]; omega)
 have he:[x] ++ (lnL x y t).drop 1=lnL x y t:=by
  have hx:lnL x y t=lin x y t ((0:Nat):Int) :: (lnL x y t).drop 1:=by
   unfold lnL
   rw [List.range_succ_eq_map,List.map_cons]
   rfl
  have h0:lin x y t ((0:Nat):Int)=x:=lin_zero t0
  rw [h0] at hx
  exact hx.symm
 have hle:=lnL_len x y t
 have b3:w64 (0 + 1)=1:=rfl
 have e0:w64 (t - 0)=t:=by rw [w64_of (by omega) (by omega)]; omega
 have step0:piece_columns_l1 [⟨y,t⟩] [⟨x,0⟩,⟨y,t⟩] ([x],0)=some (.inl (lnL x y t,1)):=by
  unfold piece_columns_l1
  dsimp only
  have l1:(([⟨y,t⟩]:List api_Point).length:Int)=1:=rfl
  have i1:idxO ([⟨y,t⟩]:List api_Point) 0=some ⟨y,t⟩:=rfl
  have ha:appO [x] ((lnL x y t).drop 1)=some ([x] ++ (lnL x y t).drop 1):=appO_of (by simp; omega)
  rw [l1,i1,ix_zero]
  simp only [show decide ((0:Int) < 1)=true from rfl,if_true,Option.bind_some,e0,line_of x0 x1 y0 y1 t0 (by omega),hl,ha,he,b3]
 have step1:piece_columns_l1 [⟨y,t⟩] [⟨x,0⟩,⟨y,t⟩] (lnL x y t,1)=some (.inr (lnL x y t)):=rfl
 unfold F_piece_columns
 rw [len_two,ix_zero,hs]
 simp only [Option.bind_some]
 rw [whileO_step step0,whileO_done step1]
 rfl
def pcs (a b t:Int):api_Piece:=⟨lnL (-a) (-b) t,lnL a b t⟩
theorem make_two {a b t:Int} (h:sOk a b t):F_piece_Make (shp a b t)=some (if pok (pcs a b t)=true then (pcs a b t,0) else (⟨[],[]⟩,16)):=by
 have ht:=h.1
 unfold F_piece_Make
 rw [shape_two,if_pos h]
 have h1:F_piece_columns (shp a b t).Left=some (lnL (-a) (-b) t):=columns_two (sOk_neg.2 h)
 have h2:F_piece_columns (shp a b t).Right=some (lnL a b t):=columns_two h
 have h3:=(pcheck_eq (pcs a b t) (by show (lnL (-a) (-b) t).length ≤ _; rw [lnL_len]; omega) (by show (lnL a b t).length ≤ _; rw [lnL_len]; omega)).1
 simp only [Option.bind_some,bne_self_eq_false,Bool.false_eq_true,if_false,h1,h2]
 rw [show (api_Piece.mk (lnL (-a) (-b) t) (lnL a b t))=pcs a b t from rfl,h3]
 cases hp:pok (pcs a b t)
 ·rfl
 ·rfl
theorem alive_of:F_raddletop_alive39=some true:=by
 have hg:gok ⟨20,1000,30,1000⟩=true:=by decide
 have hm:=measure_two hg (low:=1000) (high:=800) (tall:=1000) (x0:=-1000) (x1:=-800) rfl rfl (by omega) (by omega) (by omega) (by omega) (by omega) (by omega)
 have e1:sc true 20 1000 1000=(20,0):=by decide
 have e2:sc true 20 1000 800=(16,0):=by decide
 have e3:sc true 30 1000 1000=(30,0):=by decide
 dsimp only at hm
 rw [e1,e2,e3] at hm
 have ho:sOk 20 16 30:=by decide
 rw [if_pos ⟨rfl,rfl,rfl⟩,if_pos ho] at hm
 have hp:pok (pcs 20 16 30)=true:=by decide +kernel
 have hc:chOk (pcs 20 16 30):=by decide +kernel
 have hk:=make_two ho
 rw [if_pos hp] at hk
 have hlen:(pcs 20 16 30).Left.length=31:=lnL_len _ _ _
 have hlen2:(pcs 20 16 30).Right.length=31:=lnL_len _ _ _
 have hch:=chart_eq (pcs 20 16 30) (by omega) (by omega)
 rw [if_pos hp,if_pos hc] at hch
 obtain ⟨k1,k2,k3⟩:=rws_ok hp hc 30 0 (by omega)
 have w0:wd (pcs 20 16 30) 0=40:=by decide +kernel
 have w30:wd (pcs 20 16 30) 30=32:=by decide +kernel
 have hca:chk ⟨wd (pcs 20 16 30) 0,rws (pcs 20 16 30) 0 30⟩=0:=chk_of (by omega) (by omega) (by rw [rws_len]; omega) k1
 have hcc:chart (pcs 20 16 30)=⟨wd (pcs 20 16 30) 0,rws (pcs 20 16 30) 0 30⟩:=by rw [chart_rws,hlen]
 have hcn:F_chart_Counts (chart (pcs 20 16 30))=some ((List.range' 0 31).map (wd (pcs 20 16 30)),0):=by
  rw [hcc,counts_of hca,k3]
 have i0:idxO ((List.range' 0 31).map (wd (pcs 20 16 30))) 0=some 40:=by
  have:=idxO_nat (xs:=(List.range' 0 31).map (wd (pcs 20 16 30))) (k:=0) (by simp)
  rw [show (((0:Nat):Int))=0 from rfl] at this
  rw [this]
  simp [w0]
 have i1:idxO ((List.range' 0 31).map (wd (pcs 20 16 30))) 30=some 32:=by
  have:=idxO_nat (xs:=(List.range' 0 31).map (wd (pcs 20 16 30))) (k:=30) (by simp)
  rw [show (((30:Nat):Int))=30 from rfl] at this
  rw [this]
  simp [w30]
 have hl:(((List.range' 0 31).map (wd (pcs 20 16 30))).length:Int)=31:=by simp
 unfold F_raddletop_alive39
 rw [hm]
 simp only [Option.bind_some]
 rw [hk]
 simp only [Option.bind_some]
 rw [hch]
 simp only [Option.bind_some]
 rw [hcn]
 simp only [Option.bind_some,beq_self_eq_true,if_true,hl,i0,i1]
noncomputable def seam_edges_l1 (p0:(List Int)):Int→Option (Int ⊕ (Int ⊕ Unit)):=fun s0=>match s0 with
 | s7=>
  if decide (s7 < (p0.length:Int)) then
   (idxO p0 s7).bind fun a9=>
   Option.bind (α:=Bool) (
    if decide (a9 < 1) then
     some true
    else
     some (decide (1000 < a9))) fun aa=>
   if aa then
    some (.inr (.inl 2))
   else
    some (.inl (w64 (s7 + 1)))
  else
   some (.inr (.inr ()))
noncomputable def F_seam_edges (p0:(List Int)):Option Int:=
 Option.bind (α:=Unit ⊕ Int) (
  (whileO (seam_edges_l1 p0) 0).bind fun z0=>match z0 with
   | .inl z=>
    some (.inr z)
   | .inr _=>
    some (.inl ())) fun z0=>match z0 with
  | .inl _=>
   some 0
  | .inr z=>
   some z
theorem c_seam_edges (E:Nat→Prop) (w0:World) (p0:(List Int)) (v0:Value) (r:Int) (h:F_seam_edges p0=some r) (S:St0 E [] w0 w0 [] [fRep (rL (rI .i64)) (v0) p0]) :
 Calls Try.prog 65 #[v0] w0 (Ret (X:=Unit) E [] w0 (fun _=>.int .i64 r) (fun _=>[]) (fun _=>[])):=by
 unfold F_seam_edges at h
 obtain ⟨ae,af,_,rfl,_⟩:=S.know (i:=0) (e:=fRep (rL (rI .i64)) (v0) p0) d
 refine sEnter (args:=[.slice ae p0.length af]) 18 Try.func65 d d (by simp) S (fun a S=>?_)
 refine sSeq (fun K3 av=>sRegion (sN S fun a S=>?_))
 refine lT (av _ _ ?_)
 obtain ⟨t4,h,g5⟩:=bS h
 refine sCut (fun a w=>.inl ()=t4∧St [] E [] w0 18 a w [] [] []) ?_ (fun a w hI=>?_)
 rotate_left
 ·obtain ⟨rfl,S⟩:=hI
  have h:=g5
  try dsimp only at h
  refine sSeq (fun az ag=>sRegion (sN S fun a S=>?_))
  refine lT (ag _ _ ?_)
  obtain rfl:=tS h
  exact wp_ret (sRet (iv 0) S (rsl1 d (rvT (t:=2) (v:=iv 0) S d)) ⟨(),d,S.mem.sel [] [] (by decide) d d⟩)
 refine sSeq (fun K6 aw=>sRegion (sM S fun a S=>?_))
 refine sLen S (wN d) d Try.underlying34 d d (lb d) fun a S=>sM S fun a S=>?_
 refine lT (aw _ _ (wp_block ?_))
 obtain ⟨aA,hl,g9⟩:=bS h
 refine sLoop hl (fun s0 a w=>match s0 with | s7=>St [] E [] w0 18 a w [(5,.slice ae p0.length af),(6,iv (p0.length:Int)),(7,iv s7)] [] [fRep (rL (rI .i64)) (.slice ae p0.length af) p0]) (S.fix [] [0] (by decide) d d d) ?_
 clear hl h
 intro s7 a w c0 hI h aq
 unfold seam_edges_l1 at h
 dsimp only at h hI
 have S:=hI
 refine sSeq (fun aC ah=>sRegion (sBin _ S (wN d) d d d (bLt _ _ _ _ .i64 s7 (p0.length:Int)) d (lb d) fun a S=>lT (ah _ _ (sSeq (fun aG ai=>?_)))))
 rcases iS h with ⟨ab,h⟩ | ⟨ab,h⟩
 rotate_left
 ·refine sCondF S d ab ?_
  obtain rfl:=tS h
  obtain rfl:=aq _ d
  have h:=g9
  try dsimp only at h
  exact wp_exit (xThen (xThen (xHit (leafT (⟨Option.some.inj h,S.fix [] [] (by decide) d d d⟩)))))
 refine sCondT S d ab (wp_skip (leafT (ai _ _ ?_)))
 refine sSeq (fun aH aj=>wp_block ?_)
 refine sSeq (fun aI ak=>sRegion ?_)
 obtain ⟨aa,al,h⟩:=bS h
 obtain ⟨ar,am,S⟩:=pIdx (P:=Try.prog) (r:=(rI .i64)) (v:=.slice ae p0.length af) (xs:=p0) (j:=s7) 34 3 0 S Try.underlying34 d d al
 refine sIdxV S (wN d) d d d am d (lb d) fun a S=>?_
 obtain ⟨au,S⟩:=pLoad (r:=(rI .i64)) (q:=ar) (x:=aa) 0 S d
 obtain rfl:au=iv aa:=S.mem.know (i:=1) (e:=fRep (rI .i64) (au) aa) d
 refine sLoadV1 (vq:=ar) 0 (iv aa) S (wN d) d d d d d (lb d) fun a S=>sN S fun a S=>?_
 refine lT (ak _ _ ?_)
 obtain ⟨ax,h,ay⟩:=bS h
 refine sCut (fun a w=>∃ ao,ao=ax∧St [] E [] w0 18 a w [(5,.slice ae p0.length af),(6,iv (p0.length:Int)),(7,iv s7),(16,.bool ao)] [] [fRep (rL (rI .i64)) (.slice ae p0.length af) p0]) ?_ (fun a w hI=>?_)
 rotate_left
 ·obtain ⟨ao,rfl,S⟩:=hI
  have h:=ay
  try dsimp only at h
  rcases iS h with ⟨ac,h⟩ | ⟨ac,h⟩
  rotate_left
  ·refine sCondF S d ac (wp_skip (leafB (leafT (aj _ _ ?_))))
   refine sRegion (sBin _ S (wN d) d d d (bAdd _ _ _ _ s7 1) d (lb d) fun a S=>sM S fun a S=>?_)
   exact lT (⟨w64 (s7 + 1),(Option.some.inj h).symm,(S.fix [] [0] (by decide) d d d)⟩)
  refine sCondT S d ac (sSeq (fun aJ ap=>sRegion (sN S fun a S=>?_)))
  refine lT (ap _ _ ?_)
  obtain rfl:=tS h
  obtain rfl:=aq _ d
  have h:=g9
  try dsimp only at h
  obtain rfl:=tS h
  have h:=g5
  try dsimp only at h
  obtain rfl:=tS h
  exact wp_ret (rBlock (rThen (rThen (rBlock (rThen (sRet (iv 2) S (rsl1 d (rvT (t:=2) (v:=iv 2) S d)) ⟨(),d,S.mem.sel [] [] (by decide) d d⟩))))))
 refine sRegion (sM S fun a S=>?_)
 refine sBin _ S (wN d) d d d (bLt _ _ _ _ .i64 aa 1) d (lb d) fun a S=>sM S fun a S=>?_
 rcases iS h with ⟨a9,h⟩ | ⟨a9,h⟩
 ·refine sSkN 2 2 false 13 S d d a9 d fun a S=>sPickT (.bool true) S (wN d) d d a9 d d (lb d) fun a S=>?_
  exact lT (⟨true,Option.some.inj h,S.fix [] [3] (by decide) d d d⟩)
 refine sMove (iv aa) S (wG 2 false 13 d d d a9) (.inl d) d d (lb d) fun a S=>sBin _ S (wG 2 false 13 d d d a9) d d d (bGt _ _ _ _ .i64 aa 1000) d (lb d) fun a S=>sPickF (.bool (decide (1000 < aa))) S (wN d) d d a9 d d (lb d) fun a S=>?_
 exact lT (⟨decide (1000 < aa),Option.some.inj h,S.fix [] [3] (by decide) d d d⟩)
noncomputable def seam_marks_l1 (p0:(List Int)) (p1:Int):(Int × Int)→Option ((Int × Int) ⊕ (Bool ⊕ Unit)):=fun s0=>match s0 with
 | (s8,s9)=>
  if decide (s9 < (p0.length:Int)) then
   (idxO p0 s9).bind fun a9=>
   Option.bind (α:=Bool) (
    if decide (a9 ≤ s8) then
     some true
    else
     some (decide (p1 ≤ a9))) fun aa=>
   if aa then
    some (.inr (.inl false))
   else
    some (.inl (a9,w64 (s9 + 1)))
  else
   some (.inr (.inr ()))
noncomputable def F_seam_marks (p0:(List Int)) (p1:Int):Option Bool:=
 Option.bind (α:=Unit ⊕ Bool) (
  (whileO (seam_marks_l1 p0 p1) (0,0)).bind fun z0=>match z0 with
   | .inl z=>
    some (.inr z)
   | .inr _=>
    some (.inl ())) fun z0=>match z0 with
  | .inl _=>
   some true
  | .inr z=>
   some z
theorem c_seam_marks (E:Nat→Prop) (w0:World) (p0:(List Int)) (v0:Value) (p1:Int) (r:Bool) (h:F_seam_marks p0 p1=some r) (S:St0 E [] w0 w0 [] [fRep (rL (rI .i64)) (v0) p0]) :
 Calls Try.prog 76 #[v0,iv p1] w0 (Ret (X:=Unit) E [] w0 (fun _=>.bool r) (fun _=>[]) (fun _=>[])):=by
 unfold F_seam_marks at h
 obtain ⟨ae,af,_,rfl,_⟩:=S.know (i:=0) (e:=fRep (rL (rI .i64)) (v0) p0) d
 refine sEnter (args:=[.slice ae p0.length af,iv p1]) 24 Try.func76 d d (by simp) S (fun a S=>?_)
 refine sSeq (fun K3 ax=>sRegion (sN S fun a S=>?_))
 refine lT (ax _ _ (sSeq (fun K4 ay=>sRegion (sN S fun a S=>?_))))
 refine lT (ay _ _ ?_)
 obtain ⟨t5,h,g6⟩:=bS h
 refine sCut (fun a w=>.inl ()=t5∧St [] E [] w0 24 a w [] [] []) ?_ (fun a w hI=>?_)
 rotate_left
 ·obtain ⟨rfl,S⟩:=hI
  have h:=g6
  try dsimp only at h
  refine sSeq (fun aG ah=>sRegion (sN S fun a S=>?_))
  refine lT (ah _ _ ?_)
  obtain rfl:=tS h
  exact wp_ret (sRet (.bool true) S (rsl1 d (rvT (t:=4) (v:=.bool true) S d)) ⟨(),d,S.mem.sel [] [] (by decide) d d⟩)
 refine sSeq (fun K7 az=>sRegion (sM S fun a S=>?_))
 refine sLen S (wN d) d Try.underlying34 d d (lb d) fun a S=>sM S fun a S=>?_
 refine lT (az _ _ (wp_block ?_))
 obtain ⟨aH,hl,au⟩:=bS h
 refine sLoop hl (fun s0 a w=>match s0 with | (s8,s9)=>St [] E [] w0 24 a w [(1,iv p1),(5,iv s8),(8,.slice ae p0.length af),(9,iv (p0.length:Int)),(10,iv s9)] [] [fRep (rL (rI .i64)) (.slice ae p0.length af) p0]) (S.fix [] [0] (by decide) d d d) ?_
 clear hl h
 intro s0 a w c0 hI h ag
 obtain ⟨s8,s9⟩:=s0
 unfold seam_marks_l1 at h
 dsimp only at h hI
 have S:=hI
 refine sSeq (fun aI ai=>sRegion (sBin _ S (wN d) d d d (bLt _ _ _ _ .i64 s9 (p0.length:Int)) d (lb d) fun a S=>lT (ai _ _ (sSeq (fun aJ aj=>?_)))))
 rcases iS h with ⟨ab,h⟩ | ⟨ab,h⟩
 rotate_left
 ·refine sCondF S d ab ?_
  obtain rfl:=tS h
  obtain rfl:=ag _ d
  have h:=au
  try dsimp only at h
  exact wp_exit (xThen (xThen (xHit (leafT (⟨Option.some.inj h,S.fix [] [] (by decide) d d d⟩)))))
 refine sCondT S d ab (wp_skip (leafT (aj _ _ ?_)))
 refine sSeq (fun aK ak=>wp_block ?_)
 refine sSeq (fun aL al=>sRegion ?_)
 obtain ⟨aa,am,h⟩:=bS h
 obtain ⟨av,ao,S⟩:=pIdx (P:=Try.prog) (r:=(rI .i64)) (v:=.slice ae p0.length af) (xs:=p0) (j:=s9) 34 3 0 S Try.underlying34 d d am
 refine sIdxV S (wN d) d d d ao d (lb d) fun a S=>?_
 obtain ⟨aw,S⟩:=pLoad (r:=(rI .i64)) (q:=av) (x:=aa) 0 S d
 obtain rfl:aw=iv aa:=S.mem.know (i:=1) (e:=fRep (rI .i64) (aw) aa) d
 refine sLoadV1 (vq:=av) 0 (iv aa) S (wN d) d d d d d (lb d) fun a S=>sN S fun a S=>?_
 refine lT (al _ _ (sSeq (fun aM ap=>?_)))
 obtain ⟨aA,h,aC⟩:=bS h
 refine sCut (fun a w=>∃ aq,aq=aA∧St [] E [] w0 24 a w [(1,iv p1),(7,iv aa),(8,.slice ae p0.length af),(9,iv (p0.length:Int)),(10,iv s9),(21,.bool aq)] [] [fRep (rL (rI .i64)) (.slice ae p0.length af) p0]) ?_ (fun a w hI=>?_)
 rotate_left
 ·obtain ⟨aq,rfl,S⟩:=hI
  have h:=aC
  try dsimp only at h
  rcases iS h with ⟨ac,h⟩ | ⟨ac,h⟩
  ·refine sCondT S d ac (sSeq (fun aO ar=>sRegion (sN S fun a S=>?_)))
   refine lT (ar _ _ ?_)
   obtain rfl:=tS h
   obtain rfl:=ag _ d
   have h:=au
   try dsimp only at h
   obtain rfl:=tS h
   have h:=g6
   try dsimp only at h
   obtain rfl:=tS h
   exact wp_ret (rThen (rBlock (rThen (rThen (rBlock (rThen (sRet (.bool false) S (rsl1 d (rvT (t:=4) (v:=.bool false) S d)) ⟨(),d,S.mem.sel [] [] (by decide) d d⟩)))))))
  refine sCondF S d ac (wp_skip (leafT (ap _ _ ?_)))
  refine sRegion (sM S fun a S=>?_)
  refine sN S fun a S=>?_
  refine leafL (leafB (leafT (ak _ _ ?_)))
  refine sRegion (sBin _ S (wN d) d d d (bAdd _ _ _ _ s9 1) d (lb d) fun a S=>sM S fun a S=>?_)
  exact lT (⟨(aa,w64 (s9 + 1)),(Option.some.inj h).symm,(S.fix [] [0] (by decide) d d d)⟩)
 refine sRegion (sM S fun a S=>?_)
 refine sM S fun a S=>?_
 refine sBin _ S (wN d) d d d (bLe _ _ _ _ .i64 aa s8) d (lb d) fun a S=>sM S fun a S=>?_
 rcases iS h with ⟨a9,h⟩ | ⟨a9,h⟩
 ·refine sSkN 3 3 false 17 S d d a9 d fun a S=>sPickT (.bool true) S (wN d) d d a9 d d (lb d) fun a S=>?_
  exact lT (⟨true,Option.some.inj h,S.fix [] [3] (by decide) d d d⟩)
 refine sMove (iv aa) S (wG 3 false 17 d d d a9) (.inl d) d d (lb d) fun a S=>sMove (iv p1) S (wG 3 false 17 d d d a9) (.inl d) d d (lb d) fun a S=>sBin _ S (wG 3 false 17 d d d a9) d d d (bGe _ _ _ _ .i64 aa p1) d (lb d) fun a S=>sPickF (.bool (decide (p1 ≤ aa))) S (wN d) d d a9 d d (lb d) fun a S=>?_
 exact lT (⟨decide (p1 ≤ aa),Option.some.inj h,S.fix [] [3] (by decide) d d d⟩)
def anc_seam_section_s0_0:List (List Nat):=[[],[],[],[],[2,3],[],[2,3,4,5],[1,2,3,4,5,6],[],[],[],[9,10],[],[9,10,11,12],[8,9,10,11,12,13],[1,2,3,4,5,6,7,8,9,10,11,12,13,14],[1,2,3,4,5,6,7,8,9,10,11,12,13,14,15],[0,1,2,3,4,5,6,7,8,9,10,11,12,13,14,15,16],[0,1,2,3,4,5,6,7,8,9,10,11,12,13,14,15,16,17]]
noncomputable def seam_section_s0_l1 (p2:Int) (p4:Int) (p1:Int) (p3:Int):(List (Int × Int) × Int)→Option ((List (Int × Int) × Int) ⊕ List (Int × Int)):=fun s0=>match s0 with
 | (s9,a9)=>
  if decide (a9 < (if p2 < p4 then p4 else p2)) then
   (quoI (w64 (a9 * p2)) (if p2 < p4 then p4 else p2)).bind fun aa=>
   (quoI (w64 (a9 * p4)) (if p2 < p4 then p4 else p2)).bind fun ab=>
   (appO s9 [(w64 (p1 + aa),w64 (p3 + ab))]).bind fun ac=>
   some (.inl (ac,w64 (a9 + 1)))
  else
   some (.inr s9)
noncomputable def F_seam_section_s0 (p0:(List (Int × Int))) (p1:Int) (p2:Int) (p3:Int) (p4:Int):Option (List (Int × Int)):=
 Option.bind (α:=List (Int × Int)) (
  (whileO (seam_section_s0_l1 p2 p4 p1 p3) (p0,0)).bind fun a9=>
   some a9) fun o3=>
 some o3
theorem c_seam_section_s0 (E:Nat→Prop) (w0:World) (p0:(List (Int × Int))) (ad_0:Option Addr) (cp_0:Nat) (p1:Int) (p2:Int) (p3:Int) (p4:Int) (r:(List (Int × Int))) (h:F_seam_section_s0 p0 p1 p2 p3 p4=some r) (S:St0 E (keysL [eRow r_A2_Int 80 (.slice ad_0 p0.length cp_0) p0]) w0 w0 [eRow r_A2_Int 80 (.slice ad_0 p0.length cp_0) p0] []) :
 Calls Try.prog 77 #[.slice ad_0 p0.length cp_0,iv p1,iv p2,iv p3,iv p4] w0 (Ret (X:=Option Addr × Nat) E (keysL [eRow r_A2_Int 80 (.slice ad_0 p0.length cp_0) p0]) w0 (fun x=>.slice x.1 r.length x.2) (fun x=>[eRow r_A2_Int 80 (.slice x.1 r.length x.2) r]) (fun _=>[])):=by
 unfold F_seam_section_s0 at h
 refine sEnter (args:=[.slice ad_0 p0.length cp_0,iv p1,iv p2,iv p3,iv p4]) 40 Try.func77 d d (by simp) S (fun a S=>?_)
 refine sSeq (fun K1 az=>sRegion (sN S fun a S=>?_))
 refine lT (az _ _ (sSeq (fun K2 aA=>sRegion (sM S fun a S=>?_))))
 refine sM S fun a S=>?_
 refine sMax2 (p:=p2) (q:=p4) S (wN d) d d d d (lb d) fun a S=>sN S fun a S=>?_
 refine lT (aA _ _ ?_)
 obtain ⟨t6,h,g7⟩:=bS h
 refine sCut (fun a w=>∃ o3,o3=t6∧∃ ak,∃ al,St [] E (keysL [eRow r_A2_Int 80 (.slice ad_0 p0.length cp_0) p0]) w0 40 a w [(0,.slice ak o3.length al)] [eRow r_A2_Int 80 (.slice ak o3.length al) o3] []) ?_ (fun a w hI=>?_)
 rotate_left
 ·obtain ⟨o3,rfl,ak,al,S⟩:=hI
  have h:=g7
  try dsimp only at h
  refine sSeq (fun aH ao=>sRegion (sM S fun a S=>?_))
  refine sN S fun a S=>?_
  refine lT (ao _ _ ?_)
  obtain rfl:=tS h
  exact wp_ret (sRet (.slice ak o3.length al) S (rsl1 d (rvT (t:=10) (v:=.slice ak o3.length al) S d)) ⟨(ak,al),d,S.mem.sel [0] [] (by decide) d d⟩)
 refine sSeq (fun K8 aC=>sRegion (sM S fun a S=>?_))
 refine sM S fun a S=>?_
 refine lT (aC _ _ (wp_block ?_))
 obtain ⟨aI,hl,aG⟩:=bS h
 refine sLoop hl (fun s0 a w=>match s0 with | (s9,ae)=>∃ ab,∃ ac,St [] E (keysL [eRow r_A2_Int 80 (.slice ad_0 p0.length cp_0) p0]) w0 40 a w [(0,.slice ab s9.length ac),(1,iv p1),(2,iv p2),(3,iv p3),(4,iv p4),(11,iv (if p2 < p4 then p4 else p2)),(16,iv (if p2 < p4 then p4 else p2)),(17,iv ae)] [eRow r_A2_Int 80 (.slice ab s9.length ac) s9] []) ⟨ad_0,cp_0,S.fix [0] [] (by decide) d d d⟩ ?_
 clear hl h
 intro s0 a w c0 hI h ap
 obtain ⟨s9,ae⟩:=s0
 unfold seam_section_s0_l1 at h
 dsimp only at h hI
 obtain ⟨ab,ac,S⟩:=hI
 refine sSeq (fun aJ aq=>sRegion (sBin _ S (wN d) d d d (bLt _ _ _ _ .i64 ae (if p2 < p4 then p4 else p2)) d (lb d) fun a S=>lT (aq _ _ (sSeq (fun aK ar=>?_)))))
 rcases iS h with ⟨ah,h⟩ | ⟨ah,h⟩
 rotate_left
 ·refine sCondF S d ah ?_
  obtain rfl:=tS h
  obtain rfl:=ap _ d
  have h:=aG
  try dsimp only at h
  exact wp_exit (xThen (xThen (xHit (leafT (⟨s9,Option.some.inj h,ab,ac,S.fix [0] [] (by decide) d d d⟩)))))
 refine sCondT S d ah (wp_skip (leafT (ar _ _ ?_)))
 refine sSeq (fun aL au=>wp_block ?_)
 refine sSeq (fun aM av=>sRegion (sM S fun a S=>?_))
 refine sN S fun a S=>?_
 refine lT (av _ _ ?_)
 obtain ⟨a9,aw,h⟩:=bS h
 obtain ⟨aa,ax,h⟩:=bS h
 obtain ⟨am,ay,h⟩:=bS h
 refine sDraw (nf:=[16,17]) (W:=[(0,20,.slice ab s9.length ac),(1,21,iv p1),(2,22,iv ae),(3,23,iv p2),(4,24,iv (w64 (ae * p2))),(5,25,iv (if p2 < p4 then p4 else p2)),(6,26,iv a9),(7,27,iv (w64 (p1 + a9))),(8,28,iv p3),(9,29,iv ae),(10,30,iv p4),(11,31,iv (w64 (ae * p4))),(12,32,iv (if p2 < p4 then p4 else p2)),(13,33,iv aa),(14,34,iv (w64 (p3 + aa))),(15,35,.agg #[iv (w64 (p1 + a9)),iv (w64 (p3 + aa))])]) d S ?_
 refine node_by (A:=anc_seam_section_s0_0) 19 (by kernel_rfl) (by kernel_rfl) (by kernel_rfl) (by kernel_rfl) (by kernel_rfl) [0,1,2,3,4,5,6,7,8,9,10,11,12,13,14,15] (by kernel_rfl) (by decide) (by decide) (fF ?_ (fF ?_ (fF ?_ (fF ?_ (fF ?_ (fF ?_ (fF ?_ (fF ?_ (fF ?_ (fF ?_ (fF ?_ (fF ?_ (fF ?_ (fF ?_ (fF ?_ (fF ?_ (fN ?_ (aB 17 1 16 (by decide) (fE 16 (trivial)))))))))))))))))))) [] (fun q hq=>by cases hq) (fun hY=>absurd (hY 16 (by decide)) (by decide))
 ·exact fM 0 none d d d d (.inl d) d d d
 ·exact fM 1 none d d d d (.inl d) d d d
 ·exact fM 2 none d d d d (.inl d) d d d
 ·exact fM 3 none d d d d (.inl d) d d d
 ·refine fJ [(22,_),(23,_)] 4 [some 2,some 3] fun G a w S=>?_
  exact sBin _ S (wN d) d d d (bMul _ _ _ _ ae p2) d (lb d) fun a S=>leafL ⟨d,S⟩
 ·exact fM 5 none d d d d (.inl d) d d d
 ·refine fJ [(24,_),(25,_)] 6 [some 4,some 5] fun G a w S=>?_
  exact sBin _ S (wN d) d d d (bQuo _ _ _ _ (x:=w64 (ae * p2)) (y:=if p2 < p4 then p4 else p2) aw) d (lb d) fun a S=>leafL ⟨d,S⟩
 ·refine fJ [(21,_),(26,_)] 7 [some 1,some 6] fun G a w S=>?_
  exact sBin _ S (wN d) d d d (bAdd _ _ _ _ p1 a9) d (lb d) fun a S=>leafL ⟨d,S⟩
 ·exact fM 8 none d d d d (.inl d) d d d
 ·exact fM 9 none d d d d (.inl d) d d d
 ·exact fM 10 none d d d d (.inl d) d d d
 ·refine fJ [(29,_),(30,_)] 11 [some 9,some 10] fun G a w S=>?_
  exact sBin _ S (wN d) d d d (bMul _ _ _ _ ae p4) d (lb d) fun a S=>leafL ⟨d,S⟩
 ·exact fM 12 none d d d d (.inl d) d d d
 ·refine fJ [(31,_),(32,_)] 13 [some 11,some 12] fun G a w S=>?_
  exact sBin _ S (wN d) d d d (bQuo _ _ _ _ (x:=w64 (ae * p4)) (y:=if p2 < p4 then p4 else p2) ax) d (lb d) fun a S=>leafL ⟨d,S⟩
 ·refine fJ [(28,_),(33,_)] 14 [some 8,some 13] fun G a w S=>?_
  exact sBin _ S (wN d) d d d (bAdd _ _ _ _ p3 aa) d (lb d) fun a S=>leafL ⟨d,S⟩
 ·refine fJ [(27,_),(34,_)] 15 [some 7,some 14] fun G a w S=>?_
  exact sBuild [(0,iv (w64 (p1 + a9))),(1,iv (w64 (p3 + aa)))] [iv (w64 (p1 + a9)),iv (w64 (p3 + aa))] S (wN d) d d d d (lb d) fun a S=>leafL ⟨d,S⟩
 refine ⟨_,[(35,.agg #[iv (w64 (p1 + a9)),iv (w64 (p3 + aa))])],d,(srcs_of [some 15] d d d),fun G a w S=>?_⟩
 have S:=S.learn (fRep r_A2_Int (.agg #[iv (w64 (p1 + a9)),iv (w64 (p3 + aa))]) (w64 (p1 + a9),w64 (p3 + aa))) d
 refine sLit (r:=r_A2_Int) (T:=80) (xs:=[(w64 (p1 + a9),w64 (p3 + aa))]) [(0,.agg #[iv (w64 (p1 + a9)),iv (w64 (p3 + aa))])] 1 [.agg #[iv (w64 (p1 + a9)),iv (w64 (p3 + aa))]] [iv (w64 (p1 + a9)),iv (w64 (p3 + aa))] (.agg #[iv 0,iv 0]) 16 S (wN d) d d Try.underlying77 d (by decide) (by decide) (by kernel_rfl) d (fun E1 w1 hE=>All.cons (r_A2_Int.mono hE (S.mem.know (i:=0) (e:=fRep r_A2_Int (.agg #[iv (w64 (p1 + a9)),iv (w64 (p3 + aa))]) (w64 (p1 + a9),w64 (p3 + aa))) d)) (All.nil _ _ _)) d d (lb d) fun a w ai aj S=>?_
 refine leafL ⟨d,_,_,.inl ⟨36,(.slice ai [(w64 (p1 + a9),w64 (p3 + aa))].length aj),[],d,S,hz_of d,?_⟩⟩
 refine node_by (A:=anc_seam_section_s0_0) 19 (by kernel_rfl) (by kernel_rfl) (by kernel_rfl) (by kernel_rfl) (by kernel_rfl) [16,0,1,2,3,4,5,6,7,8,9,10,11,12,13,14,15] (by kernel_rfl) (by decide) (by decide) (fF ?_ (fD 16 (fD 16 (fD 16 (fD 16 (fD 16 (fD 16 (fD 16 (fD 16 (fD 16 (fD 16 (fD 16 (fD 16 (fD 16 (fD 16 (fD 16 (fY (fN ?_ (fE 17 (trivial)))))))))))))))))))) [] (fun q hq=>by cases hq) (fun hY=>absurd (hY 17 (by decide)) (by decide))
 ·exact fM 1 none d d d d (.inl d) d d d
 refine ⟨_,[(20,.slice ab s9.length ac),(36,.slice ai [(w64 (p1 + a9),w64 (p3 + aa))].length aj)],d,(srcs_of [some 1,some 0] d d d),fun G a w S=>?_⟩
 refine sApp (r:=r_A2_Int) (T:=80) (xs:=s9) (ys:=[(w64 (p1 + a9),w64 (p3 + aa))]) (v:=.slice ab s9.length ac) (u:=.slice ai [(w64 (p1 + a9),w64 (p3 + aa))].length aj) 1 (.agg #[iv 0,iv 0]) 16 S (wN d) d Try.underlying77 d d (by decide) d d d (src_R (T:=80) 0 S.mem d) ay d (lb d) fun a w af ag S=>leafL ⟨d,_,_,.inl ⟨37,(.slice af am.length ag),[(18,0,.slice af am.length ag)],d,S,hz_of d,?_⟩⟩
 refine node_by (A:=anc_seam_section_s0_0) 19 (by kernel_rfl) (by kernel_rfl) (by kernel_rfl) (by kernel_rfl) (by kernel_rfl) [18,17,16,0,1,2,3,4,5,6,7,8,9,10,11,12,13,14,15] (by kernel_rfl) (by decide) (by decide) (fD 17 (fD 17 (fD 17 (fD 17 (fD 17 (fD 17 (fD 17 (fD 17 (fD 17 (fD 17 (fD 17 (fD 17 (fD 17 (fD 17 (fD 17 (fD 17 (fY (fY (fF ?_ (trivial)))))))))))))))))))) [(0,.slice af am.length ag),(1,iv p1),(2,iv p2),(3,iv p3),(4,iv p4),(11,iv (if p2 < p4 then p4 else p2)),(16,iv (if p2 < p4 then p4 else p2)),(17,iv ae)] (fin_of [some 0,none,none,none,none,none,none,none] d (by kernel_rfl) (by kernel_rfl)) (fun _ a w S=>?_)
 ·exact fM 0 (some 1) d d d d (.inr d) d d d
 refine leafB (leafT (au _ _ ?_))
 refine sRegion (sBin _ S (wN d) d d d (bAdd _ _ _ _ ae 1) d (lb d) fun a S=>sM S fun a S=>?_)
 exact lT (⟨(am,w64 (ae + 1)),(Option.some.inj h).symm,⟨af,ag,S.fix [0] [] (by decide) d d d⟩⟩)
noncomputable def seam_Marked_l1 (p2:(List Int)) (p3:(List Int)):(List (Int × Int) × Int × Int × Int)→Option ((List (Int × Int) × Int × Int × Int) ⊕ (List (Int × Int) × Int × Int)):=fun s0=>match s0 with
 | (ac,aa,ab,a9)=>
  if decide (a9 < (p2.length:Int)) then
   (idxO p2 a9).bind fun ae=>
   (idxO p3 a9).bind fun af=>
   (F_seam_section_s0 ac aa (w64 (ae - aa)) ab (w64 (af - ab))).bind fun ag=>
   some (.inl (ag,ae,af,w64 (a9 + 1)))
  else
   some (.inr (ac,aa,ab))
noncomputable def F_seam_Marked (p0:Int) (p1:Int) (p2:(List Int)) (p3:(List Int)):Option ((List (Int × Int)) × Int):=
 (F_seam_edges ([p0,p1]:List Int)).bind fun a9=>
 if a9 != 0 then
  some (([]:(List (Int × Int))),a9)
 else
  Option.bind (α:=Bool) (
   if decide (50 < (p2.length:Int)) then
    some true
   else
    some (decide (50 < (p3.length:Int)))) fun ac=>
  if ac then
   some (([]:(List (Int × Int))),4)
  else
   Option.bind (α:=Bool) (
    (F_seam_marks p2 p0).bind fun ae=>
    if !ae then
     some true
    else
     (F_seam_marks p3 p1).bind fun af=>
     some (!af)) fun ag=>
   if ag then
    some (([]:(List (Int × Int))),8)
   else
    if (p2.length:Int) != (p3.length:Int) then
     some (([]:(List (Int × Int))),26)
    else
     Option.bind (α:=(List (Int × Int) × Int × Int)) (
      (whileO (seam_Marked_l1 p2 p3) (([]:List (Int × Int)),0,0,0)).bind fun (ah,ai,aj)=>
       some (ah,ai,aj)) fun (ak,aa,ab)=>
     (F_seam_section_s0 ak aa (w64 (p0 - aa)) ab (w64 (p1 - ab))).bind fun al=>
     some (al,0)
def c_seam_Marked_val (r:((List (Int × Int)) × Int)) (x:Value):Value:=.tuple #[x,.int .i64 r.2]
def c_seam_Marked_D (r:((List (Int × Int)) × Int)) (x:Value):List Fact:=[fRep (rL r_A2_Int) x r.1]
theorem c_seam_Marked (E:Nat→Prop) (w0:World) (p0:Int) (p1:Int) (p2:(List Int)) (v2:Value) (p3:(List Int)) (v3:Value) (r:((List (Int × Int)) × Int)) (h:F_seam_Marked p0 p1 p2 p3=some r) (S:St0 E [] w0 w0 [] [fRep (rL (rI .i64)) (v2) p2,fRep (rL (rI .i64)) (v3) p3]) :
 Calls Try.prog 64 #[iv p0,iv p1,v2,v3] w0 (Ret (X:=Value) E [] w0 (c_seam_Marked_val r) (fun _=>[]) (c_seam_Marked_D r)):=by
 unfold F_seam_Marked at h
 obtain ⟨ak,al,_,rfl,_⟩:=S.know (i:=0) (e:=fRep (rL (rI .i64)) (v2) p2) d
 obtain ⟨ab,ac,_,rfl,_⟩:=S.know (i:=1) (e:=fRep (rL (rI .i64)) (v3) p3) d
 refine sEnter (args:=[iv p0,iv p1,.slice ak p2.length al,.slice ab p3.length ac]) 82 Try.func64 d d (by simp) S (fun a S=>?_)
 refine sSeq (fun K5 bI=>sRegion (sN S fun a S=>?_))
 refine sN S fun a S=>?_
 refine lT (bI _ _ (sSeq (fun K6 bJ=>sSeq (fun K7 bK=>sRegion (sM S fun a S=>?_)))))
 refine sM S fun a S=>?_
 refine sLit (r:=(rI .i64)) (T:=3) (xs:=([p0,p1]:List Int)) [(0,iv p0),(1,iv p1)] 2 [iv p0,iv p1] [iv p0,iv p1] (iv 0) 8 S (wN d) d d Try.underlying34 d (by decide) (by decide) (by kernel_rfl) d (fun E1 w1 hE=>All.cons d (All.cons d (All.nil _ _ _))) d d (lb d) fun a w aQ aR S=>?_
 obtain ⟨aJ,aS,h⟩:=bS h
 have S1:=S.mem
 have S1:=S1.shutR (r:=(rI .i64)) (T:=3) (v:=.slice aQ ([p0,p1]:List Int).length aR) (xs:=([p0,p1]:List Int)) 0 d
 refine sCq [.slice aQ ([p0,p1]:List Int).length aR] (iv aJ) S callee65 (S1.quiet [0] d) (fun E1 w1 S1=>c_seam_edges E1 w1 ([p0,p1]:List Int) (.slice aQ ([p0,p1]:List Int).length aR) aJ aS S1) fun a w S=>?_
 refine sN S fun a S=>?_
 refine lT (bK _ _ (sSeq (fun bV aT=>sRegion (sM S fun a S=>?_))))
 refine sBin _ S (wN d) d d d (bNe _ _ _ _ .i64 aJ 0) d (lb d) fun a S=>lT (aT _ _ ?_)
 rcases iS h with ⟨az,h⟩ | ⟨az,h⟩
 ·refine sCondT S d az (sSeq (fun bW aU=>sRegion (sM S fun a S=>?_)))
  refine sN S fun a S=>?_
  refine sN S fun a S=>?_
  refine lT (aU _ _ ?_)
  obtain rfl:=tS h
  have S:=S.learn (fRep (rL r_A2_Int) (.slice none 0 0) ([]:(List (Int × Int)))) (rL_nil _ _ _)
  exact wp_ret (rThen (sRet (.tuple #[.slice none 0 0,iv aJ]) S (rsl2 d (rvT (t:=8) (v:=.slice none 0 0) S d) (rvT (t:=9) (v:=iv aJ) S d)) ⟨(.slice none 0 0),d,S.mem.sel [] [0] (by decide) d d⟩))
 refine sCondF S d az (wp_skip (leafT (bJ _ _ ?_)))
 refine sSeq (fun bX aV=>?_)
 obtain ⟨bL,h,bM⟩:=bS h
 refine sCut (fun a w=>∃ aW,aW=bL∧St [] E [] w0 82 a w [(0,iv p0),(1,iv p1),(2,.slice ak p2.length al),(3,.slice ab p3.length ac),(30,.bool aW)] [] [fRep (rL (rI .i64)) (.slice ak p2.length al) p2,fRep (rL (rI .i64)) (.slice ab p3.length ac) p3]) ?_ (fun a w hI=>?_)
 ·refine sRegion (sM S fun a S=>?_)
  refine sLen S (wN d) d Try.underlying34 d d (lb d) fun a S=>sBin _ S (wN d) d d d (bGt _ _ _ _ .i64 (p2.length:Int) 50) d (lb d) fun a S=>sM S fun a S=>?_
  rcases iS h with ⟨ae,h⟩ | ⟨ae,h⟩
  ·refine sSkN 3 3 false 26 S d d ae d fun a S=>sPickT (.bool true) S (wN d) d d ae d d (lb d) fun a S=>?_
   exact lT (⟨true,Option.some.inj h,S.fix [] [0,1] (by decide) d d d⟩)
  refine sMove (.slice ab p3.length ac) S (wG 3 false 26 d d d ae) (.inl d) d d (lb d) fun a S=>sLen S (wG 3 false 26 d d d ae) d Try.underlying34 d d (lb d) fun a S=>sBin _ S (wG 3 false 26 d d d ae) d d d (bGt _ _ _ _ .i64 (p3.length:Int) 50) d (lb d) fun a S=>sPickF (.bool (decide (50 < (p3.length:Int)))) S (wN d) d d ae d d (lb d) fun a S=>?_
  exact lT (⟨decide (50 < (p3.length:Int)),Option.some.inj h,S.fix [] [0,1] (by decide) d d d⟩)
 obtain ⟨aW,rfl,S⟩:=hI
 have h:=bM
 try dsimp only at h
 rcases iS h with ⟨aA,h⟩ | ⟨aA,h⟩
 ·refine sCondT S d aA (sSeq (fun bY aX=>sRegion (sN S fun a S=>?_)))
  refine sN S fun a S=>?_
  refine lT (aX _ _ ?_)
  obtain rfl:=tS h
  have S:=S.learn (fRep (rL r_A2_Int) (.slice none 0 0) ([]:(List (Int × Int)))) (rL_nil _ _ _)
  exact wp_ret (rThen (sRet (.tuple #[.slice none 0 0,iv 4]) S (rsl2 d (rvT (t:=8) (v:=.slice none 0 0) S d) (rvT (t:=9) (v:=iv 4) S d)) ⟨(.slice none 0 0),d,S.mem.sel [] [0] (by decide) d d⟩))
 refine sCondF S d aA (wp_skip (leafT (aV _ _ ?_)))
 refine sSeq (fun bZ aZ=>?_)
 obtain ⟨bN,h,bO⟩:=bS h
 refine sCut (fun a w=>∃ b8,b8=bN∧St [] E [] w0 82 a w [(0,iv p0),(1,iv p1),(2,.slice ak p2.length al),(3,.slice ab p3.length ac),(40,.bool b8)] [] [fRep (rL (rI .i64)) (.slice ak p2.length al) p2,fRep (rL (rI .i64)) (.slice ab p3.length ac) p3]) ?_ (fun a w hI=>?_)
 ·refine sRegion (sM S fun a S=>?_)
  refine sM S fun a S=>?_
  obtain ⟨ba,bb,h⟩:=bS h
  have S1:=S.mem
  refine sCq [.slice ak p2.length al,iv p0] (.bool ba) S callee76 (S1.quiet [0] d) (fun E1 w1 S1=>c_seam_marks E1 w1 p2 (.slice ak p2.length al) p0 ba bb S1) fun a w S=>?_
  refine sNot (b:=ba) S (wN d) d d d (lb d) fun a S=>sM S fun a S=>?_
  rcases iS h with ⟨a9,h⟩ | ⟨a9,h⟩
  ·refine sSkN 4 4 false 35 S d d a9 d fun a S=>sPickT (.bool true) S (wN d) d d a9 d d (lb d) fun a S=>?_
   exact lT (⟨true,Option.some.inj h,S.fix [] [0,1] (by decide) d d d⟩)
  refine sMove (.slice ab p3.length ac) S (wG 4 false 35 d d d a9) (.inl d) d d (lb d) fun a S=>sMove (iv p1) S (wG 4 false 35 d d d a9) (.inl d) d d (lb d) fun a S=>?_
  obtain ⟨aK,bc,h⟩:=bS h
  have S1:=S.mem
  refine sCallQ (X:=Unit) (f:=76) (vs:=[.slice ab p3.length ac,iv p1]) (val:=fun _=>.bool aK) S (wG 4 false 35 d d d a9) d callee76 d (S1.quiet [1] d) (fun E1 w1 S1=>c_seam_marks E1 w1 p3 (.slice ab p3.length ac) p1 aK bc S1) d (lb d) fun _ a w S=>?_
  refine sNot (b:=aK) S (wG 4 false 35 d d d a9) d d d (lb d) fun a S=>sPickF (.bool (!aK)) S (wN d) d d a9 d d (lb d) fun a S=>?_
  exact lT (⟨!aK,Option.some.inj h,S.fix [] [0,1] (by decide) d d d⟩)
 obtain ⟨b8,rfl,S⟩:=hI
 have h:=bO
 try dsimp only at h
 rcases iS h with ⟨aC,h⟩ | ⟨aC,h⟩
 ·refine sCondT S d aC (sSeq (fun c6 bf=>sRegion (sN S fun a S=>?_)))
  refine sN S fun a S=>?_
  refine lT (bf _ _ ?_)
  obtain rfl:=tS h
  have S:=S.learn (fRep (rL r_A2_Int) (.slice none 0 0) ([]:(List (Int × Int)))) (rL_nil _ _ _)
  exact wp_ret (rThen (sRet (.tuple #[.slice none 0 0,iv 8]) S (rsl2 d (rvT (t:=8) (v:=.slice none 0 0) S d) (rvT (t:=9) (v:=iv 8) S d)) ⟨(.slice none 0 0),d,S.mem.sel [] [0] (by decide) d d⟩))
 refine sCondF S d aC (wp_skip (leafT (aZ _ _ ?_)))
 refine sSeq (fun c7 bg=>sSeq (fun c8 bh=>sRegion (sM S fun a S=>?_)))
 refine sLen S (wN d) d Try.underlying34 d d (lb d) fun a S=>sM S fun a S=>?_
 refine sLen S (wN d) d Try.underlying34 d d (lb d) fun a S=>sBin _ S (wN d) d d d (bNe _ _ _ _ .i64 (p2.length:Int) (p3.length:Int)) d (lb d) fun a S=>lT (bh _ _ ?_)
 rcases iS h with ⟨aG,h⟩ | ⟨aG,h⟩
 ·refine sCondT S d aG (sSeq (fun c9 bi=>sRegion (sN S fun a S=>?_)))
  refine sN S fun a S=>?_
  refine lT (bi _ _ ?_)
  obtain rfl:=tS h
  have S:=S.learn (fRep (rL r_A2_Int) (.slice none 0 0) ([]:(List (Int × Int)))) (rL_nil _ _ _)
  exact wp_ret (rThen (sRet (.tuple #[.slice none 0 0,iv 26]) S (rsl2 d (rvT (t:=8) (v:=.slice none 0 0) S d) (rvT (t:=9) (v:=iv 26) S d)) ⟨(.slice none 0 0),d,S.mem.sel [] [0] (by decide) d d⟩))
 refine sCondF S d aG (wp_skip (leafT (bg _ _ ?_)))
 refine sSeq (fun ca bj=>sRegion (sN S fun a S=>?_))
 refine lT (bj _ _ (sSeq (fun cb bl=>sRegion (sN S fun a S=>?_))))
 refine sN S fun a S=>?_
 refine lT (bl _ _ ?_)
 obtain ⟨bP,h,bQ⟩:=bS h
 refine sCut (fun a w=>∃ ao,∃ av,∃ aw,(ao,av,aw)=bP∧∃ ah,∃ ai,St [] E [] w0 82 a w [(0,iv p0),(1,iv p1),(11,.slice ah ao.length ai),(12,iv av),(13,iv aw)] [eRow r_A2_Int 80 (.slice ah ao.length ai) ao] []) ?_ (fun a w hI=>?_)
 rotate_left
 ·obtain ⟨ao,av,aw,rfl,ah,ai,S⟩:=hI
  have h:=bQ
  try dsimp only at h
  refine sSeq (fun cc bm=>sRegion (sM S fun a S=>?_))
  refine sM S fun a S=>?_
  refine sM S fun a S=>?_
  refine sM S fun a S=>?_
  refine sBin _ S (wN d) d d d (bSub _ _ _ _ p0 av) d (lb d) fun a S=>sM S fun a S=>?_
  refine sM S fun a S=>?_
  refine sM S fun a S=>?_
  refine sBin _ S (wN d) d d d (bSub _ _ _ _ p1 aw) d (lb d) fun a S=>?_
  obtain ⟨ap,bn,h⟩:=bS h
  refine sCall (X:=Option Addr × Nat) (f:=77) (vs:=[.slice ah ao.length ai,iv av,iv (w64 (p0 - av)),iv aw,iv (w64 (p1 - aw))]) (val:=fun x=>.slice x.1 ap.length x.2) (B':=fun x=>[eRow r_A2_Int 80 (.slice x.1 ap.length x.2) ap]) (D':=fun _=>[]) [eRow r_A2_Int 80 (.slice ah ao.length ai) ao] [] [] [0] [] S (wN d) d callee77 d (by decide) d d (fun E1 w1 S1=>c_seam_section_s0 E1 w1 ao ah ai av (w64 (p0 - av)) aw (w64 (p1 - aw)) ap bn S1) d (lb d) fun xx a w S=>?_
  obtain ⟨aq,ar⟩:=xx
  dsimp only at S
  refine sN S fun a S=>?_
  refine sN S fun a S=>?_
  refine lT (bm _ _ ?_)
  obtain rfl:=tS h
  have S:=S.shutR (r:=r_A2_Int) (T:=80) (v:=.slice aq ap.length ar) (xs:=ap) 0 d
  exact wp_ret (sRet (.tuple #[.slice aq ap.length ar,iv 0]) S (rsl2 d (rvT (t:=8) (v:=.slice aq ap.length ar) S d) (rvT (t:=9) (v:=iv 0) S d)) ⟨(.slice aq ap.length ar),d,S.mem.sel [] [0] (by decide) d d⟩)
 refine sSeq (fun cd bo=>sRegion (sM S fun a S=>?_))
 refine sLen S (wN d) d Try.underlying34 d d (lb d) fun a S=>sM S fun a S=>?_
 refine lT (bo _ _ (wp_block ?_))
 have S:=S.nilRow r_A2_Int 80 (α:=(Int × Int))
 obtain ⟨ce,hl,bR⟩:=bS h
 refine sLoop hl (fun s0 a w=>match s0 with | (au,ax,ay,am)=>∃ af,∃ ag,St [] E [] w0 82 a w [(0,iv p0),(1,iv p1),(3,.slice ab p3.length ac),(11,.slice af au.length ag),(12,iv ax),(13,iv ay),(46,.slice ak p2.length al),(47,iv (p2.length:Int)),(48,iv am)] [eRow r_A2_Int 80 (.slice af au.length ag) au] [fRep (rL (rI .i64)) (.slice ab p3.length ac) p3,fRep (rL (rI .i64)) (.slice ak p2.length al) p2]) ⟨none,0,S.fix [0] [1,0] (by decide) d d d⟩ ?_
 clear hl h
 intro s0 a w c0 hI h bp
 obtain ⟨au,ax,ay,am⟩:=s0
 unfold seam_Marked_l1 at h
 dsimp only at h hI
 obtain ⟨af,ag,S⟩:=hI
 refine sSeq (fun cf bq=>sRegion (sBin _ S (wN d) d d d (bLt _ _ _ _ .i64 am (p2.length:Int)) d (lb d) fun a S=>lT (bq _ _ (sSeq (fun cg br=>?_)))))
 rcases iS h with ⟨aH,h⟩ | ⟨aH,h⟩
 rotate_left
 ·refine sCondF S d aH ?_
  obtain rfl:=tS h
  obtain rfl:=bp _ d
  have h:=bR
  try dsimp only at h
  exact wp_exit (xThen (xThen (xHit (leafT (⟨au,ax,ay,Option.some.inj h,af,ag,S.fix [0] [] (by decide) d d d⟩)))))
 refine sCondT S d aH (wp_skip (leafT (br _ _ ?_)))
 refine sSeq (fun ci bt=>wp_block ?_)
 refine sSeq (fun cj bu=>sRegion (sM S fun a S=>?_))
 obtain ⟨aj,bv,h⟩:=bS h
 obtain ⟨bC,bw,S⟩:=pIdx (P:=Try.prog) (r:=(rI .i64)) (v:=.slice ak p2.length al) (xs:=p2) (j:=am) 34 3 1 S Try.underlying34 d d bv
 refine sIdxV S (wN d) d d d bw d (lb d) fun a S=>?_
 obtain ⟨bD,S⟩:=pLoad (r:=(rI .i64)) (q:=bC) (x:=aj) 0 S d
 obtain rfl:bD=iv aj:=S.mem.know (i:=1) (e:=fRep (rI .i64) (bD) aj) d
 refine sLoadV1 (vq:=bC) 0 (iv aj) S (wN d) d d d d d (lb d) fun a S=>sN S fun a S=>?_
 refine sN S fun a S=>?_
 refine lT (bu _ _ (sSeq (fun ck bx=>sRegion (sM S fun a S=>?_))))
 refine sM S fun a S=>?_
 refine sM S fun a S=>?_
 refine sM S fun a S=>?_
 refine sBin _ S (wN d) d d d (bSub _ _ _ _ aj ax) d (lb d) fun a S=>sM S fun a S=>?_
 refine sM S fun a S=>?_
 refine sM S fun a S=>?_
 obtain ⟨aa,aL,h⟩:=bS h
 obtain ⟨bE,bz,S⟩:=pIdx (P:=Try.prog) (r:=(rI .i64)) (v:=.slice ab p3.length ac) (xs:=p3) (j:=am) 34 3 3 S Try.underlying34 d d aL
 refine sIdxV S (wN d) d d d bz d (lb d) fun a S=>?_
 obtain ⟨bG,S⟩:=pLoad (r:=(rI .i64)) (q:=bE) (x:=aa) 0 S d
 obtain rfl:bG=iv aa:=S.mem.know (i:=1) (e:=fRep (rI .i64) (bG) aa) d
 refine sLoadV1 (vq:=bE) 0 (iv aa) S (wN d) d d d d d (lb d) fun a S=>sM S fun a S=>?_
 refine sBin _ S (wN d) d d d (bSub _ _ _ _ aa ay) d (lb d) fun a S=>?_
 obtain ⟨aI,bA,h⟩:=bS h
 refine sCall (X:=Option Addr × Nat) (f:=77) (vs:=[.slice af au.length ag,iv ax,iv (w64 (aj - ax)),iv ay,iv (w64 (aa - ay))]) (val:=fun x=>.slice x.1 aI.length x.2) (B':=fun x=>[eRow r_A2_Int 80 (.slice x.1 aI.length x.2) aI]) (D':=fun _=>[]) [eRow r_A2_Int 80 (.slice af au.length ag) au] [] [] [0] [] S (wN d) d callee77 d (by decide) d d (fun E1 w1 S1=>c_seam_section_s0 E1 w1 au af ag ax (w64 (aj - ax)) ay (w64 (aa - ay)) aI bA S1) d (lb d) fun xx a w S=>?_
 obtain ⟨aM,aO⟩:=xx
 dsimp only at S
 refine sN S fun a S=>?_
 refine lT (bx _ _ ?_)
 obtain ⟨aP,bB,S⟩:=pIdx (P:=Try.prog) (r:=(rI .i64)) (v:=.slice ab p3.length ac) (xs:=p3) (j:=am) 34 3 6 S Try.underlying34 d d aL
 obtain ⟨bH,S⟩:=pLoad (r:=(rI .i64)) (q:=aP) (x:=aa) 0 S d
 obtain rfl:bH=iv aa:=S.mem.know (i:=1) (e:=fRep (rI .i64) (bH) aa) d
 refine sDraw (nf:=[]) (W:=[(0,66,iv aj),(1,67,.slice ab p3.length ac),(2,68,iv am),(3,69,aP),(4,70,iv aa),(5,12,iv aj),(6,13,iv aa)]) d S ?_
 refine node_by (A:=[[],[],[],[1,2],[1,2,3],[0],[0,1,2,3,4,5]]) (nf:=[]) (Y:=[]) (W:=[(0,66,iv aj),(1,67,.slice ab p3.length ac),(2,68,iv am),(3,69,aP),(4,70,iv aa),(5,12,iv aj),(6,13,iv aa)]) 7 (by kernel_rfl) (by kernel_rfl) (by kernel_rfl) (by kernel_rfl) (by kernel_rfl) [0,1,2,3,4,5,6] (by kernel_rfl) (by decide) (by decide) (fF ?_ (fF ?_ (fF ?_ (fF ?_ (fF ?_ (fF ?_ (fF ?_ (trivial)))))))) [(0,iv p0),(1,iv p1),(3,.slice ab p3.length ac),(11,.slice aM aI.length aO),(12,iv aj),(13,iv aa),(46,.slice ak p2.length al),(47,iv (p2.length:Int)),(48,iv am)] (fin_of [none,none,none,none,some 5,some 6,none,none,none] d (by kernel_rfl) (by kernel_rfl)) (fun _ a w S=>?_)
 ·exact fM 0 none d d d d (.inl d) d d d
 ·exact fM 1 none d d d d (.inl d) d d d
 ·exact fM 2 none d d d d (.inl d) d d d
 ·refine fJ [(67,_),(68,_)] 3 [some 1,some 2] fun G a w S=>?_
  exact sIdxV S (wN d) d d d bB d (lb d) fun a S=>leafL ⟨d,S⟩
 ·refine fJ [(69,_)] 4 [some 3] fun G a w S=>?_
  exact sLoadV1 (vq:=aP) 0 (iv aa) S (wN d) d d d d d (lb d) fun a S=>leafL ⟨d,S⟩
 ·exact fM 5 (some 0) d d d d (.inr d) d d d
 ·exact fM 6 (some 4) d d d d (.inr d) d d d
 refine leafB (leafT (bt _ _ ?_))
 refine sRegion (sBin _ S (wN d) d d d (bAdd _ _ _ _ am 1) d (lb d) fun a S=>sM S fun a S=>?_)
 exact lT (⟨(aI,aj,aa,w64 (am + 1)),(Option.some.inj h).symm,⟨aM,aO,S.fix [0] [9,10] (by decide) d d d⟩⟩)
noncomputable def F_seam_Join (p0:Int) (p1:Int):Option ((List (Int × Int)) × Int):=
 (F_seam_Marked p0 p1 ([]:(List Int)) ([]:(List Int))).bind fun r3=>
 some (r3.1,r3.2)
def c_seam_Join_val (r:((List (Int × Int)) × Int)) (x:Value):Value:=.tuple #[x,.int .i64 r.2]
def c_seam_Join_D (r:((List (Int × Int)) × Int)) (x:Value):List Fact:=[fRep (rL r_A2_Int) x r.1]
theorem c_seam_Join (E:Nat→Prop) (w0:World) (p0:Int) (p1:Int) (r:((List (Int × Int)) × Int)) (h:F_seam_Join p0 p1=some r) (S:St0 E [] w0 w0 [] []) :
 Calls Try.prog 36 #[iv p0,iv p1] w0 (Ret (X:=Value) E [] w0 (c_seam_Join_val r) (fun _=>[]) (c_seam_Join_D r)):=by
 unfold F_seam_Join at h
 refine sEnter (args:=[iv p0,iv p1]) 11 Try.func36 d d (by simp) S (fun a S=>?_)
 refine sSeq (fun K1 ab=>sRegion (sN S fun a S=>?_))
 refine sN S fun a S=>?_
 refine lT (ab _ _ (sSeq (fun K2 ac=>sRegion (sM S fun a S=>?_))))
 refine sM S fun a S=>?_
 obtain ⟨r3,ae,h⟩:=bS h
 have S:=S.learn (fRep (rL (rI .i64)) (.slice none 0 0) ([]:(List Int))) (rL_nil _ _ _)
 refine sCall (X:=Value) (f:=64) (vs:=[iv p0,iv p1,.slice none 0 0,.slice none 0 0]) (val:=c_seam_Marked_val r3) (B':=fun _=>[]) (D':=c_seam_Marked_D r3) [] [] [fRep (rL (rI .i64)) (.slice none 0 0) ([]:(List Int)),fRep (rL (rI .i64)) (.slice none 0 0) ([]:(List Int))] [] [0,0] S (wN d) d callee64 d (by decide) d d (fun E1 w1 S1=>c_seam_Marked E1 w1 p0 p1 ([]:(List Int)) (.slice none 0 0) ([]:(List Int)) (.slice none 0 0) r3 ae S1) d (lb d) fun u5 a w S=>?_
 obtain ⟨a9,aa,_,rfl,_⟩:=S.mem.know (i:=0) (e:=fRep (rL r_A2_Int) (u5) r3.1) d
 refine sExtract (vs:=[.slice a9 r3.1.length aa,iv r3.2]) (.slice a9 r3.1.length aa) S (wN d) d d d d (lb d) fun a S=>sExtract (vs:=[.slice a9 r3.1.length aa,iv r3.2]) (iv r3.2) S (wN d) d d d d (lb d) fun a S=>sN S fun a S=>?_
 refine sN S fun a S=>?_
 refine lT (ac _ _ ?_)
 obtain rfl:=tS h
 exact wp_ret (sRet (.tuple #[.slice a9 r3.1.length aa,iv r3.2]) S (rsl2 d (rvT (t:=4) (v:=.slice a9 r3.1.length aa) S d) (rvT (t:=5) (v:=iv r3.2) S d)) ⟨(.slice a9 r3.1.length aa),d,S.mem.sel [] [0] (by decide) d d⟩)
def anc_seam_Need_0:List (List Nat):=[[],[],[1],[0,1,2],[],[4],[0,1,2,3,4,5],[],[7],[],[9],[7,8,9,10],[0,1,2,3,4,5,6],[0,1,2,3,4,5,6,7,8,9,10,11,12]]
noncomputable def F_seam_Need (p0:api_Gauge) (p1:Int):Option (Int × Int):=
 (F_gauge_Check p0).bind fun r5=>
 if r5 != 0 then
  some (0,r5)
 else
  (F_seam_edges ([p1]:List Int)).bind fun a9=>
  if a9 != 0 then
   some (0,a9)
  else
   (quoI (w64 ((w64 (2 * (w64 ((w64 (p1 * p0.Height)) * p0.Stitches)))) + (w64 (p0.Rows * p0.Width)))) (w64 (2 * (w64 (p0.Rows * p0.Width))))).bind fun aa=>
   if decide (1000000 < aa) then
    some (0,16)
   else
    some (aa,0)
theorem c_seam_Need (E:Nat→Prop) (w0:World) (p0:api_Gauge) (v0:Value) (p1:Int) (r:(Int × Int)) (h:F_seam_Need p0 p1=some r) (S:St0 E [] w0 w0 [] [fRep r_api_Gauge (v0) p0]) :
 Calls Try.prog 37 #[v0,iv p1] w0 (Ret (X:=Unit) E [] w0 (fun _=>.tuple #[.int .i64 r.1,.int .i64 r.2]) (fun _=>[]) (fun _=>[])):=by
 unfold F_seam_Need at h
 obtain rfl:v0=.agg #[iv p0.Stitches,iv p0.Width,iv p0.Rows,iv p0.Height]:=S.know (i:=0) (e:=fRep r_api_Gauge (v0) p0) d
 refine sEnter (args:=[.agg #[iv p0.Stitches,iv p0.Width,iv p0.Rows,iv p0.Height],iv p1]) 44 Try.func37 d d (by simp) S (fun a S=>?_)
 refine sSeq (fun K1 aw=>sRegion (sBox (v:=.agg #[iv p0.Stitches,iv p0.Width,iv p0.Rows,iv p0.Height]) S (wN d) d d [iv p0.Stitches,iv p0.Width,iv p0.Rows,iv p0.Height] d d (lb d) fun a b2 w S=>sN S fun a S=>?_))
 refine sN S fun a S=>?_
 refine lT (aw _ _ (sSeq (fun K3 ax=>sSeq (fun K4 ay=>sRegion (sLoadN (p:=b2) (off:=0) (T:=23) (vs:=[iv p0.Stitches,iv p0.Width,iv p0.Rows,iv p0.Height]) 0 [iv p0.Stitches,iv p0.Width,iv p0.Rows,iv p0.Height] S (wN d) d d d d d d d (lb d) fun a S=>?_)))))
 obtain ⟨r5,az,h⟩:=bS h
 have S1:=S.mem
 refine sCq [.agg #[iv p0.Stitches,iv p0.Width,iv p0.Rows,iv p0.Height]] (iv r5) S callee46 (S1.quiet [0] d) (fun E1 w1 S1=>c_gauge_Check E1 w1 p0 (.agg #[iv p0.Stitches,iv p0.Width,iv p0.Rows,iv p0.Height]) r5 az S1) fun a w S=>?_
 refine sN S fun a S=>?_
 refine lT (ay _ _ (sSeq (fun K7 aA=>sRegion (sM S fun a S=>?_))))
 refine sBin _ S (wN d) d d d (bNe _ _ _ _ .i64 r5 0) d (lb d) fun a S=>lT (aA _ _ ?_)
 rcases iS h with ⟨af,h⟩ | ⟨af,h⟩
 ·refine sCondT S d af (sSeq (fun K9 aC=>sRegion (sM S fun a S=>?_)))
  refine sN S fun a S=>?_
  refine sN S fun a S=>?_
  refine lT (aC _ _ ?_)
  obtain rfl:=tS h
  exact wp_ret (rThen (sRet (.tuple #[iv 0,iv r5]) S (rsl2 d (rvT (t:=4) (v:=iv 0) S d) (rvT (t:=5) (v:=iv r5) S d)) ⟨(),d,S.mem.sel [] [] (by decide) d d⟩))
 refine sCondF S d af (wp_skip (leafT (ax _ _ ?_)))
 refine sSeq (fun aG ag=>sSeq (fun aH ah=>sRegion (sM S fun a S=>?_)))
 refine sLit (r:=(rI .i64)) (T:=3) (xs:=([p1]:List Int)) [(0,iv p1)] 1 [iv p1] [iv p1] (iv 0) 8 S (wN d) d d Try.underlying34 d (by decide) (by decide) (by kernel_rfl) d (fun E1 w1 hE=>All.cons d (All.nil _ _ _)) d d (lb d) fun a w a9 aa S=>?_
 obtain ⟨ae,ai,h⟩:=bS h
 have S1:=S.mem
 have S1:=S1.shutR (r:=(rI .i64)) (T:=3) (v:=.slice a9 ([p1]:List Int).length aa) (xs:=([p1]:List Int)) 0 d
 refine sCq [.slice a9 ([p1]:List Int).length aa] (iv ae) S callee65 (S1.quiet [0] d) (fun E1 w1 S1=>c_seam_edges E1 w1 ([p1]:List Int) (.slice a9 ([p1]:List Int).length aa) ae ai S1) fun a w S=>?_
 refine sN S fun a S=>?_
 refine lT (ah _ _ (sSeq (fun aI aj=>sRegion (sM S fun a S=>?_))))
 refine sBin _ S (wN d) d d d (bNe _ _ _ _ .i64 ae 0) d (lb d) fun a S=>lT (aj _ _ ?_)
 rcases iS h with ⟨ab,h⟩ | ⟨ab,h⟩
 ·refine sCondT S d ab (sSeq (fun aJ ak=>sRegion (sM S fun a S=>?_)))
  refine sN S fun a S=>?_
  refine sN S fun a S=>?_
  refine lT (ak _ _ ?_)
  obtain rfl:=tS h
  exact wp_ret (rThen (sRet (.tuple #[iv 0,iv ae]) S (rsl2 d (rvT (t:=4) (v:=iv 0) S d) (rvT (t:=5) (v:=iv ae) S d)) ⟨(),d,S.mem.sel [] [] (by decide) d d⟩))
 refine sCondF S d ab (wp_skip (leafT (ag _ _ ?_)))
 refine sSeq (fun aK al=>sDraw (nf:=[]) (W:=[(0,22,iv p1),(1,23,.pointer (some ⟨b2,3,none⟩)),(2,24,iv p0.Height),(3,25,iv (w64 (p1 * p0.Height))),(4,26,.pointer (some ⟨b2,0,none⟩)),(5,27,iv p0.Stitches),(6,28,iv (w64 ((w64 (p1 * p0.Height)) * p0.Stitches))),(7,29,.pointer (some ⟨b2,2,none⟩)),(8,30,iv p0.Rows),(9,31,.pointer (some ⟨b2,1,none⟩)),(10,32,iv p0.Width),(11,33,iv (w64 (p0.Rows * p0.Width))),(12,8,iv (w64 ((w64 (p1 * p0.Height)) * p0.Stitches))),(13,9,iv (w64 (p0.Rows * p0.Width)))]) d S ?_)
 refine node_by (A:=anc_seam_Need_0) 14 (by kernel_rfl) (by kernel_rfl) (by kernel_rfl) (by kernel_rfl) (by kernel_rfl) [0,1,2,3,4,5,6,7,8,9,10,11,12,13] (by kernel_rfl) (by decide) (by decide) (fF ?_ (fF ?_ (fF ?_ (fF ?_ (fF ?_ (fF ?_ (fF ?_ (fF ?_ (fF ?_ (fF ?_ (fF ?_ (fF ?_ (fF ?_ (fF ?_ (trivial))))))))))))))) [(8,iv (w64 ((w64 (p1 * p0.Height)) * p0.Stitches))),(9,iv (w64 (p0.Rows * p0.Width)))] (fin_of [some 12,some 13] d (by kernel_rfl) (by kernel_rfl)) (fun _ a w S=>?_)
 ·exact fM 0 none d d d d (.inl d) d d d
 ·refine fJ [(2,_)] 1 [none] fun G a w S=>?_
  exact sField (b:=b2) (off:=0) 3 3 S (wN d) d d d d d (lb d) fun a S=>leafL ⟨d,S⟩
 ·refine fJ [(23,_)] 2 [some 1] fun G a w S=>?_
  exact sLoad1 1 (iv p0.Height) S (wN d) d d d d d d (lb d) fun a S=>leafL ⟨d,S⟩
 ·refine fJ [(22,_),(24,_)] 3 [some 0,some 2] fun G a w S=>?_
  exact sBin _ S (wN d) d d d (bMul _ _ _ _ p1 p0.Height) d (lb d) fun a S=>leafL ⟨d,S⟩
 ·refine fJ [(2,_)] 4 [none] fun G a w S=>?_
  exact sField (b:=b2) (off:=0) 0 0 S (wN d) d d d d d (lb d) fun a S=>leafL ⟨d,S⟩
 ·refine fJ [(26,_)] 5 [some 4] fun G a w S=>?_
  exact sLoad1 1 (iv p0.Stitches) S (wN d) d d d d d d (lb d) fun a S=>leafL ⟨d,S⟩
 ·refine fJ [(25,_),(27,_)] 6 [some 3,some 5] fun G a w S=>?_
  exact sBin _ S (wN d) d d d (bMul _ _ _ _ (w64 (p1 * p0.Height)) p0.Stitches) d (lb d) fun a S=>leafL ⟨d,S⟩
 ·refine fJ [(2,_)] 7 [none] fun G a w S=>?_
  exact sField (b:=b2) (off:=0) 2 2 S (wN d) d d d d d (lb d) fun a S=>leafL ⟨d,S⟩
 ·refine fJ [(29,_)] 8 [some 7] fun G a w S=>?_
  exact sLoad1 1 (iv p0.Rows) S (wN d) d d d d d d (lb d) fun a S=>leafL ⟨d,S⟩
 ·refine fJ [(2,_)] 9 [none] fun G a w S=>?_
  exact sField (b:=b2) (off:=0) 1 1 S (wN d) d d d d d (lb d) fun a S=>leafL ⟨d,S⟩
 ·refine fJ [(31,_)] 10 [some 9] fun G a w S=>?_
  exact sLoad1 1 (iv p0.Width) S (wN d) d d d d d d (lb d) fun a S=>leafL ⟨d,S⟩
 ·refine fJ [(30,_),(32,_)] 11 [some 8,some 10] fun G a w S=>?_
  exact sBin _ S (wN d) d d d (bMul _ _ _ _ p0.Rows p0.Width) d (lb d) fun a S=>leafL ⟨d,S⟩
 ·exact fM 12 (some 6) d d d d (.inr d) d d d
 ·exact fM 13 (some 11) d d d d (.inr d) d d d
 refine leafT (al _ _ ?_)
 refine sSeq (fun aL am=>sRegion (sM S fun a S=>?_))
 refine sBin _ S (wN d) d d d (bMul _ _ _ _ 2 (w64 ((w64 (p1 * p0.Height)) * p0.Stitches))) d (lb d) fun a S=>sM S fun a S=>?_
 refine sBin _ S (wN d) d d d (bAdd _ _ _ _ (w64 (2 * (w64 ((w64 (p1 * p0.Height)) * p0.Stitches)))) (w64 (p0.Rows * p0.Width))) d (lb d) fun a S=>sM S fun a S=>?_
 refine sBin _ S (wN d) d d d (bMul _ _ _ _ 2 (w64 (p0.Rows * p0.Width))) d (lb d) fun a S=>?_
 obtain ⟨ao,ap,h⟩:=bS h
 refine sBin _ S (wN d) d d d (bQuo _ _ _ _ (x:=w64 ((w64 (2 * (w64 ((w64 (p1 * p0.Height)) * p0.Stitches)))) + (w64 (p0.Rows * p0.Width)))) (y:=w64 (2 * (w64 (p0.Rows * p0.Width)))) ap) d (lb d) fun a S=>sN S fun a S=>?_
 refine lT (am _ _ (sSeq (fun aM aq=>sSeq (fun aO ar=>sRegion (sM S fun a S=>?_)))))
 refine sBin _ S (wN d) d d d (bGt _ _ _ _ .i64 ao 1000000) d (lb d) fun a S=>lT (ar _ _ ?_)
 rcases iS h with ⟨ac,h⟩ | ⟨ac,h⟩
 ·refine sCondT S d ac (sSeq (fun aP au=>sRegion (sN S fun a S=>?_)))
  refine sN S fun a S=>?_
  refine lT (au _ _ ?_)
  obtain rfl:=tS h
  exact wp_ret (rThen (sRet (.tuple #[iv 0,iv 16]) S (rsl2 d (rvT (t:=4) (v:=iv 0) S d) (rvT (t:=5) (v:=iv 16) S d)) ⟨(),d,S.mem.sel [] [] (by decide) d d⟩))
 refine sCondF S d ac (wp_skip (leafT (aq _ _ ?_)))
 refine sSeq (fun aQ av=>sRegion (sM S fun a S=>?_))
 refine sN S fun a S=>?_
 refine sN S fun a S=>?_
 refine lT (av _ _ ?_)
 obtain rfl:=tS h
 exact wp_ret (sRet (.tuple #[iv ao,iv 0]) S (rsl2 d (rvT (t:=4) (v:=iv ao) S d) (rvT (t:=5) (v:=iv 0) S d)) ⟨(),d,S.mem.sel [] [] (by decide) d d⟩)
noncomputable def seam_Pick_l1 (ab:List Int) (p0:Int) (p1:Int):(List Int × Int)→Option ((List Int × Int) ⊕ List Int):=fun s0=>match s0 with
 | (aa,a9)=>
  if decide (a9 < (ab.length:Int)) then
   (quoI (w64 ((w64 ((w64 (2 * a9)) + 1)) * p0)) (w64 (2 * p1))).bind fun ac=>
   (idxO aa a9).bind fun af=>
   (setO aa a9 ac).bind fun ae=>
   some (.inl (ae,w64 (a9 + 1)))
  else
   some (.inr aa)
noncomputable def F_seam_Pick (p0:Int) (p1:Int):Option ((List Int) × Int):=
 (F_seam_edges ([p0,p1]:List Int)).bind fun r6=>
 if r6 != 0 then
  some (([]:(List Int)),r6)
 else
  (makeO p1 (0:Int)).bind fun a9=>
  Option.bind (α:=List Int) (
   (whileO (seam_Pick_l1 a9 p0 p1) (a9,0)).bind fun aa=>
    some aa) fun ab=>
  some (ab,0)
def c_seam_Pick_val (r:((List Int) × Int)) (x:Value):Value:=.tuple #[x,.int .i64 r.2]
def c_seam_Pick_D (r:((List Int) × Int)) (x:Value):List Fact:=[fRep (rL (rI .i64)) x r.1]
theorem c_seam_Pick (E:Nat→Prop) (w0:World) (p0:Int) (p1:Int) (r:((List Int) × Int)) (h:F_seam_Pick p0 p1=some r) (S:St0 E [] w0 w0 [] []) :
 Calls Try.prog 39 #[iv p0,iv p1] w0 (Ret (X:=Value) E [] w0 (c_seam_Pick_val r) (fun _=>[]) (c_seam_Pick_D r)):=by
 unfold F_seam_Pick at h
 refine sEnter (args:=[iv p0,iv p1]) 36 Try.func39 d d (by simp) S (fun a S=>?_)
 refine sSeq (fun K1 aI=>sRegion (sN S fun a S=>?_))
 refine sN S fun a S=>?_
 refine lT (aI _ _ (sSeq (fun K2 aJ=>sSeq (fun K3 aK=>sRegion (sM S fun a S=>?_)))))
 refine sM S fun a S=>?_
 refine sLit (r:=(rI .i64)) (T:=3) (xs:=([p0,p1]:List Int)) [(0,iv p0),(1,iv p1)] 2 [iv p0,iv p1] [iv p0,iv p1] (iv 0) 8 S (wN d) d d Try.underlying34 d (by decide) (by decide) (by kernel_rfl) d (fun E1 w1 hE=>All.cons d (All.cons d (All.nil _ _ _))) d d (lb d) fun a w ah ai S=>?_
 obtain ⟨r6,aL,h⟩:=bS h
 have S1:=S.mem
 have S1:=S1.shutR (r:=(rI .i64)) (T:=3) (v:=.slice ah ([p0,p1]:List Int).length ai) (xs:=([p0,p1]:List Int)) 0 d
 refine sCq [.slice ah ([p0,p1]:List Int).length ai] (iv r6) S callee65 (S1.quiet [0] d) (fun E1 w1 S1=>c_seam_edges E1 w1 ([p0,p1]:List Int) (.slice ah ([p0,p1]:List Int).length ai) r6 aL S1) fun a w S=>?_
 refine sN S fun a S=>?_
 refine lT (aK _ _ (sSeq (fun K8 aM=>sRegion (sM S fun a S=>?_))))
 refine sBin _ S (wN d) d d d (bNe _ _ _ _ .i64 r6 0) d (lb d) fun a S=>lT (aM _ _ ?_)
 rcases iS h with ⟨aj,h⟩ | ⟨aj,h⟩
 ·refine sCondT S d aj (sSeq (fun aS ak=>sRegion (sM S fun a S=>?_)))
  refine sN S fun a S=>?_
  refine sN S fun a S=>?_
  refine lT (ak _ _ ?_)
  obtain rfl:=tS h
  have S:=S.learn (fRep (rL (rI .i64)) (.slice none 0 0) ([]:(List Int))) (rL_nil _ _ _)
  exact wp_ret (rThen (sRet (.tuple #[.slice none 0 0,iv r6]) S (rsl2 d (rvT (t:=4) (v:=.slice none 0 0) S d) (rvT (t:=5) (v:=iv r6) S d)) ⟨(.slice none 0 0),d,S.mem.sel [] [0] (by decide) d d⟩))
 refine sCondF S d aj (wp_skip (leafT (aJ _ _ ?_)))
 refine sSeq (fun aT al=>sRegion (sM S fun a S=>?_))
 obtain ⟨am,ao,h⟩:=bS h
 refine sMake (r:=(rI .i64)) (m:=p1) (xs:=am) (iv 0) (0:Int) 8 S (wN d) d Try.underlying34 d d (by decide) (fun _ _=>d) d d ao d (lb d) fun a w a9 aa S=>sN S fun a S=>?_
 refine lT (al _ _ ?_)
 obtain ⟨aO,h,aP⟩:=bS h
 refine sCut (fun a w=>∃ ac,ac=aO∧St [] E [] w0 36 a w [(7,.slice a9 ac.length aa)] [eRow (rI .i64) 3 (.slice a9 ac.length aa) ac] []) ?_ (fun a w hI=>?_)
 rotate_left
 ·obtain ⟨ac,rfl,S⟩:=hI
  have h:=aP
  try dsimp only at h
  refine sSeq (fun aU ap=>sRegion (sM S fun a S=>?_))
  refine sN S fun a S=>?_
  refine sN S fun a S=>?_
  refine lT (ap _ _ ?_)
  obtain rfl:=tS h
  have S:=S.shutR (r:=(rI .i64)) (T:=3) (v:=.slice a9 ac.length aa) (xs:=ac) 0 d
  exact wp_ret (sRet (.tuple #[.slice a9 ac.length aa,iv 0]) S (rsl2 d (rvT (t:=4) (v:=.slice a9 ac.length aa) S d) (rvT (t:=5) (v:=iv 0) S d)) ⟨(.slice a9 ac.length aa),d,S.mem.sel [] [0] (by decide) d d⟩)
 refine sSeq (fun aV aq=>sRegion (sM S fun a S=>?_))
 refine sLen S (wN d) d Try.underlying34 d d (lb d) fun a S=>sM S fun a S=>?_
 refine lT (aq _ _ (wp_block ?_))
 obtain ⟨aW,hl,aQ⟩:=bS h
 refine sLoop hl (fun s0 a w=>match s0 with | (ae,ab)=>St [] E [] w0 36 a w [(0,iv p0),(1,iv p1),(7,.slice a9 ae.length aa),(19,iv (am.length:Int)),(20,iv ab)] [eRow (rI .i64) 3 (.slice a9 ae.length aa) ae] []) (S.fix [0] [] (by decide) d d d) ?_
 clear hl h
 intro s0 a w c0 hI h ar
 obtain ⟨ae,ab⟩:=s0
 unfold seam_Pick_l1 at h
 dsimp only at h hI
 have S:=hI
 refine sSeq (fun aX au=>sRegion (sBin _ S (wN d) d d d (bLt _ _ _ _ .i64 ab (am.length:Int)) d (lb d) fun a S=>lT (au _ _ (sSeq (fun aZ av=>?_)))))
 rcases iS h with ⟨af,h⟩ | ⟨af,h⟩
 rotate_left
 ·refine sCondF S d af ?_
  obtain rfl:=tS h
  obtain rfl:=ar _ d
  have h:=aQ
  try dsimp only at h
  exact wp_exit (xThen (xThen (xHit (leafT (⟨ae,Option.some.inj h,S.fix [0] [] (by decide) d d d⟩)))))
 refine sCondT S d af (wp_skip (leafT (av _ _ ?_)))
 refine sSeq (fun b8 aw=>wp_block ?_)
 refine sSeq (fun ba ax=>sRegion (sM S fun a S=>?_))
 refine sN S fun a S=>?_
 refine lT (ax _ _ (sRegion (sM S fun a S=>?_)))
 refine sM S fun a S=>?_
 refine sM S fun a S=>?_
 refine sBin _ S (wN d) d d d (bMul _ _ _ _ 2 ab) d (lb d) fun a S=>sBin _ S (wN d) d d d (bAdd _ _ _ _ (w64 (2 * ab)) 1) d (lb d) fun a S=>sM S fun a S=>?_
 refine sBin _ S (wN d) d d d (bMul _ _ _ _ (w64 ((w64 (2 * ab)) + 1)) p0) d (lb d) fun a S=>sM S fun a S=>?_
 refine sBin _ S (wN d) d d d (bMul _ _ _ _ 2 p1) d (lb d) fun a S=>?_
 obtain ⟨aG,ay,h⟩:=bS h
 refine sBin _ S (wN d) d d d (bQuo _ _ _ _ (x:=w64 ((w64 ((w64 (2 * ab)) + 1)) * p0)) (y:=w64 (2 * p1)) ay) d (lb d) fun a S=>?_
 obtain ⟨bb,az,h⟩:=bS h
 obtain ⟨aR,aA,aC⟩:=pIdxR (P:=Try.prog) (r:=(rI .i64)) (T:=3) (v:=.slice a9 ae.length aa) (xs:=ae) (j:=ab) 34 3 0 S Try.underlying34 d d az
 refine sIdxV S (wN d) d d d aA d (lb d) fun a S=>?_
 obtain ⟨aH,ag,h⟩:=bS h
 refine sStoreR (r:=(rI .i64)) (T:=3) (xs:=ae) (ys:=aH) (y:=aG) (v:=.slice a9 ae.length aa) (vq:=aR) (u:=iv aG) (j:=ab) 0 S aC (wN d) d d d d d ag d d fun a w S=>?_
 rw [setO_v ag a9 aa] at S
 refine leafL (leafB (leafT (aw _ _ ?_)))
 refine sRegion (sBin _ S (wN d) d d d (bAdd _ _ _ _ ab 1) d (lb d) fun a S=>sM S fun a S=>?_)
 exact lT (⟨(aH,w64 (ab + 1)),(Option.some.inj h).symm,(S.fix [0] [] (by decide) d d d)⟩)
noncomputable def raddletop_sewn39_l1 (p1:Int) (r4:((List (Int × Int)) × Int)):Int→Option (Int ⊕ (Bool ⊕ Unit)):=fun s0=>match s0 with
 | a9=>
  if decide (a9 < p1) then
   (idxO r4.1 a9).bind fun aa=>
   if !((aa.1 == a9) && ((aa.2 == a9) && true)) then
    some (.inr (.inl false))
   else
    some (.inl (w64 (a9 + 1)))
  else
   some (.inr (.inr ()))
noncomputable def F_raddletop_sewn39 (p0:api_Gauge) (p1:Int):Option Bool:=
 (F_seam_Join p1 p1).bind fun r4=>
 Option.bind (α:=Bool) (
  if r4.2 != 0 then
   some true
  else
   some ((r4.1.length:Int) != p1)) fun ae=>
 if ae then
  some false
 else
  Option.bind (α:=Unit ⊕ Bool) (
   (whileO (raddletop_sewn39_l1 p1 r4) 0).bind fun z0=>match z0 with
    | .inl z=>
     some (.inr z)
    | .inr _=>
     some (.inl ())) fun z0=>match z0 with
   | .inl _=>
    (F_seam_Need p0 p1).bind fun a9=>
    (F_gauge_Height p0 p1).bind fun ac=>
    (F_gauge_Stitches p0 ac.1).bind fun ab=>
    Option.bind (α:=Bool) (
     if a9.2 != 0 then
      some true
     else
      if ac.2 != 0 then
       some true
      else
       some (ab.2 != 0)) fun af=>
    if af then
     Option.bind (α:=Bool) (
      if a9.2 == 0 then
       some true
      else
       some (a9.2 == 16)) fun ag=>
     some ag
    else
     Option.bind (α:=Bool) (
      if decide (p0.Stitches ≤ p0.Width) then
       if decide (1 < (w64 (a9.1 - ab.1))) then
        some true
       else
        some (decide (1 < (w64 (ab.1 - a9.1))))
      else
       some false) fun ah=>
     if ah then
      some false
     else
      Option.bind (α:=Bool) (
       if decide (a9.1 < 1) then
        some true
       else
        some (decide (1000 < a9.1))) fun ai=>
      if ai then
       some true
      else
       (F_seam_Pick p1 a9.1).bind fun aa=>
       Option.bind (α:=Bool) (
        if aa.2 == 0 then
         if (aa.1.length:Int) == a9.1 then
          (idxO aa.1 0).bind fun aj=>
          if decide (0 ≤ aj) then
           (idxO aa.1 (w64 (a9.1 - 1))).bind fun ak=>
           some (decide (ak < p1))
          else
           some false
         else
          some false
        else
         some false) fun al=>
       some al
   | .inr z=>
    some z
theorem c_raddletop_sewn39 (E:Nat→Prop) (w0:World) (p0:api_Gauge) (v0:Value) (p1:Int) (r:Bool) (h:F_raddletop_sewn39 p0 p1=some r) (S:St0 E [] w0 w0 [] [fRep r_api_Gauge (v0) p0]) :
 Calls Try.prog 14 #[v0,iv p1] w0 (Ret (X:=Unit) E [] w0 (fun _=>.bool r) (fun _=>[]) (fun _=>[])):=by
 unfold F_raddletop_sewn39 at h
 obtain rfl:v0=.agg #[iv p0.Stitches,iv p0.Width,iv p0.Rows,iv p0.Height]:=S.know (i:=0) (e:=fRep r_api_Gauge (v0) p0) d
 refine sEnter (args:=[.agg #[iv p0.Stitches,iv p0.Width,iv p0.Rows,iv p0.Height],iv p1]) 129 Try.func14 d d (by simp) S (fun a S=>?_)
 refine sSeq (fun K1 bE=>sRegion (sBox (v:=.agg #[iv p0.Stitches,iv p0.Width,iv p0.Rows,iv p0.Height]) S (wN d) d d [iv p0.Stitches,iv p0.Width,iv p0.Rows,iv p0.Height] d d (lb d) fun a b2 w S=>sN S fun a S=>?_))
 refine lT (bE _ _ (sSeq (fun K3 bG=>sRegion (sM S fun a S=>?_))))
 refine sM S fun a S=>?_
 obtain ⟨r4,bH,h⟩:=bS h
 refine sCall (X:=Value) (f:=36) (vs:=[iv p1,iv p1]) (val:=c_seam_Join_val r4) (B':=fun _=>[]) (D':=c_seam_Join_D r4) [] [eBox b2 23 [iv p0.Stitches,iv p0.Width,iv p0.Rows,iv p0.Height]] [] [0] [] S (wN d) d callee36 d (by decide) d d (fun E1 w1 S1=>c_seam_Join E1 w1 p1 p1 r4 bH S1) d (lb d) fun u6 a w S=>?_
 obtain ⟨av,aw,_,rfl,_⟩:=S.mem.know (i:=0) (e:=fRep (rL r_A2_Int) (u6) r4.1) d
 refine sM S fun a S=>?_
 refine sExtract (vs:=[.slice av r4.1.length aw,iv r4.2]) (.slice av r4.1.length aw) S (wN d) d d d d (lb d) fun a S=>sExtract (vs:=[.slice av r4.1.length aw,iv r4.2]) (iv r4.2) S (wN d) d d d d (lb d) fun a S=>sN S fun a S=>?_
 refine sN S fun a S=>?_
 refine lT (bG _ _ (sSeq (fun K9 bI=>?_)))
 obtain ⟨bJ,h,bK⟩:=bS h
 refine sCut (fun a w=>∃ aM,aM=bJ∧St [] E [] w0 129 a w [(1,iv p1),(2,.pointer (some ⟨b2,0,none⟩)),(5,.slice av r4.1.length aw),(29,.bool aM)] [eBox b2 23 [iv p0.Stitches,iv p0.Width,iv p0.Rows,iv p0.Height]] [fRep (rL r_A2_Int) (.slice av r4.1.length aw) r4.1]) ?_ (fun a w hI=>?_)
 ·refine sRegion (sM S fun a S=>?_)
  refine sBin _ S (wN d) d d d (bNe _ _ _ _ .i64 r4.2 0) d (lb d) fun a S=>sM S fun a S=>?_
  rcases iS h with ⟨af,h⟩ | ⟨af,h⟩
  ·refine sSkN 4 2 false 24 S d d af d fun a S=>sPickT (.bool true) S (wN d) d d af d d (lb d) fun a S=>?_
   exact lT (⟨true,Option.some.inj h,S.fix [0] [0] (by decide) d d d⟩)
  refine sMove (.slice av r4.1.length aw) S (wG 2 false 24 d d d af) (.inl d) d d (lb d) fun a S=>sLen S (wG 2 false 24 d d d af) d Try.underlying77 d d (lb d) fun a S=>sMove (iv p1) S (wG 2 false 24 d d d af) (.inl d) d d (lb d) fun a S=>sBin _ S (wG 2 false 24 d d d af) d d d (bNe _ _ _ _ .i64 (r4.1.length:Int) p1) d (lb d) fun a S=>sPickF (.bool ((r4.1.length:Int) != p1)) S (wN d) d d af d d (lb d) fun a S=>?_
  exact lT (⟨(r4.1.length:Int) != p1,Option.some.inj h,S.fix [0] [0] (by decide) d d d⟩)
 obtain ⟨aM,rfl,S⟩:=hI
 have h:=bK
 try dsimp only at h
 rcases iS h with ⟨ax,h⟩ | ⟨ax,h⟩
 ·refine sCondT S d ax (sSeq (fun c6 aO=>sRegion (sN S fun a S=>?_)))
  refine lT (aO _ _ ?_)
  obtain rfl:=tS h
  exact wp_ret (rThen (sRet (.bool false) S (rsl1 d (rvT (t:=4) (v:=.bool false) S d)) ⟨(),d,S.mem.sel [] [] (by decide) d d⟩))
 refine sCondF S d ax (wp_skip (leafT (bI _ _ ?_)))
 obtain ⟨bL,h,bv⟩:=bS h
 refine sCut (fun a w=>.inl ()=bL∧St [] E [] w0 129 a w [(1,iv p1),(2,.pointer (some ⟨b2,0,none⟩))] [eBox b2 23 [iv p0.Stitches,iv p0.Width,iv p0.Rows,iv p0.Height]] []) ?_ (fun a w hI=>?_)
 ·refine sSeq (fun c7 aP=>sRegion (sN S fun a S=>?_))
  refine lT (aP _ _ (wp_block ?_))
  obtain ⟨c8,hl,bw⟩:=bS h
  refine sLoop hl (fun s0 a w=>match s0 with | al=>St [] E [] w0 129 a w [(1,iv p1),(2,.pointer (some ⟨b2,0,none⟩)),(5,.slice av r4.1.length aw),(7,iv al)] [eBox b2 23 [iv p0.Stitches,iv p0.Width,iv p0.Rows,iv p0.Height]] [fRep (rL r_A2_Int) (.slice av r4.1.length aw) r4.1]) (S.fix [0] [0] (by decide) d d d) ?_
  clear hl h
  intro al a w c0 hI h aJ
  unfold raddletop_sewn39_l1 at h
  dsimp only at h hI
  have S:=hI
  refine sSeq (fun c9 aQ=>sSeq (fun ca aR=>sRegion (sM S fun a S=>?_)))
  refine sM S fun a S=>?_
  refine sBin _ S (wN d) d d d (bLt _ _ _ _ .i64 al p1) d (lb d) fun a S=>lT (aR _ _ ?_)
  rcases iS h with ⟨ay,h⟩ | ⟨ay,h⟩
  rotate_left
  ·refine sCondF S d ay ?_
   obtain rfl:=tS h
   obtain rfl:=aJ _ d
   have h:=bw
   try dsimp only at h
   exact wp_exit (xThen (xThen (xHit (leafT (⟨Option.some.inj h,S.fix [0] [] (by decide) d d d⟩)))))
  refine sCondT S d ay (wp_skip (leafT (aQ _ _ ?_)))
  refine sSeq (fun cb aS=>wp_block ?_)
  refine sSeq (fun cc aT=>sRegion (sM S fun a S=>?_))
  refine sM S fun a S=>?_
  obtain ⟨au,aU,h⟩:=bS h
  obtain ⟨bx,aV,S⟩:=pIdx (P:=Try.prog) (r:=r_A2_Int) (v:=.slice av r4.1.length aw) (xs:=r4.1) (j:=al) 77 80 0 S Try.underlying77 d d aU
  refine sIdxV S (wN d) d d d aV d (lb d) fun a S=>?_
  obtain ⟨bz,S⟩:=pLoad (r:=r_A2_Int) (q:=bx) (x:=au) 0 S d
  obtain rfl:bz=.agg #[iv au.1,iv au.2]:=S.mem.know (i:=1) (e:=fRep r_A2_Int (bz) au) d
  refine sLoadVN (vq:=bx) 0 [iv au.1,iv au.2] S (wN d) d d d d d d (lb d) fun a S=>sM S fun a S=>?_
  refine sM S fun a S=>?_
  refine sBuild [(0,iv al),(1,iv al)] [iv al,iv al] S (wN d) d d d d (lb d) fun a S=>sBin _ S (wN d) d d d (bNeV _ _ _ _ #[iv au.1,iv au.2] #[iv al,iv al] ((au.1 == al) && ((au.2 == al) && true)) (by kernel_rfl) (eqlV_of (by kernel_rfl))) d (lb d) fun a S=>lT (aT _ _ ?_)
  rcases iS h with ⟨az,h⟩ | ⟨az,h⟩
  rotate_left
  ·refine sCondF S d az (wp_skip (leafB (leafT (aS _ _ ?_))))
   refine sRegion (sM S fun a S=>?_)
   refine sBin _ S (wN d) d d d (bAdd _ _ _ _ al 1) d (lb d) fun a S=>sN S fun a S=>?_
   exact lT (⟨w64 (al + 1),(Option.some.inj h).symm,(S.fix [0] [3] (by decide) d d d)⟩)
  refine sCondT S d az (sSeq (fun cd aW=>sRegion (sN S fun a S=>?_)))
  refine lT (aW _ _ ?_)
  obtain rfl:=tS h
  obtain rfl:=aJ _ d
  have h:=bw
  try dsimp only at h
  obtain rfl:=tS h
  have h:=bv
  try dsimp only at h
  obtain rfl:=tS h
  exact wp_ret (rBlock (rThen (rThen (rBlock (rThen (sRet (.bool false) S (rsl1 d (rvT (t:=4) (v:=.bool false) S d)) ⟨(),d,S.mem.sel [] [] (by decide) d d⟩))))))
 obtain ⟨rfl,S⟩:=hI
 have h:=bv
 try dsimp only at h
 refine sSeq (fun ce aX=>sRegion (sLoadN (p:=b2) (off:=0) (T:=23) (vs:=[iv p0.Stitches,iv p0.Width,iv p0.Rows,iv p0.Height]) 0 [iv p0.Stitches,iv p0.Width,iv p0.Rows,iv p0.Height] S (wN d) d d d d d d d (lb d) fun a S=>sM S fun a S=>?_))
 obtain ⟨a9,aZ,h⟩:=bS h
 have S1:=S.mem
 have S1:=S1.learn (fRep r_api_Gauge (.agg #[iv p0.Stitches,iv p0.Width,iv p0.Rows,iv p0.Height]) p0) d
 refine sCq [.agg #[iv p0.Stitches,iv p0.Width,iv p0.Rows,iv p0.Height],iv p1] (.tuple #[iv a9.1,iv a9.2]) S callee37 (S1.quiet [0] d) (fun E1 w1 S1=>c_seam_Need E1 w1 p0 (.agg #[iv p0.Stitches,iv p0.Width,iv p0.Rows,iv p0.Height]) p1 a9 aZ S1) fun a w S=>?_
 refine sM S fun a S=>?_
 refine sExtract (vs:=[iv a9.1,iv a9.2]) (iv a9.1) S (wN d) d d d d (lb d) fun a S=>sExtract (vs:=[iv a9.1,iv a9.2]) (iv a9.2) S (wN d) d d d d (lb d) fun a S=>sN S fun a S=>?_
 refine sN S fun a S=>?_
 refine lT (aX _ _ (sSeq (fun cf b8=>sRegion (sLoadN (p:=b2) (off:=0) (T:=23) (vs:=[iv p0.Stitches,iv p0.Width,iv p0.Rows,iv p0.Height]) 0 [iv p0.Stitches,iv p0.Width,iv p0.Rows,iv p0.Height] S (wN d) d d d d d d d (lb d) fun a S=>sM S fun a S=>?_))))
 obtain ⟨am,ba,h⟩:=bS h
 have S1:=S.mem
 have S1:=S1.learn (fRep r_api_Gauge (.agg #[iv p0.Stitches,iv p0.Width,iv p0.Rows,iv p0.Height]) p0) d
 refine sCq [.agg #[iv p0.Stitches,iv p0.Width,iv p0.Rows,iv p0.Height],iv p1] (.tuple #[iv am.1,iv am.2]) S callee38 (S1.quiet [0] d) (fun E1 w1 S1=>c_gauge_Height E1 w1 p0 (.agg #[iv p0.Stitches,iv p0.Width,iv p0.Rows,iv p0.Height]) p1 am ba S1) fun a w S=>?_
 refine sM S fun a S=>?_
 refine sExtract (vs:=[iv am.1,iv am.2]) (iv am.1) S (wN d) d d d d (lb d) fun a S=>sExtract (vs:=[iv am.1,iv am.2]) (iv am.2) S (wN d) d d d d (lb d) fun a S=>sN S fun a S=>?_
 refine sN S fun a S=>?_
 refine lT (b8 _ _ (sSeq (fun cg bb=>sRegion (sLoadN (p:=b2) (off:=0) (T:=23) (vs:=[iv p0.Stitches,iv p0.Width,iv p0.Rows,iv p0.Height]) 0 [iv p0.Stitches,iv p0.Width,iv p0.Rows,iv p0.Height] S (wN d) d d d d d d d (lb d) fun a S=>sM S fun a S=>?_))))
 obtain ⟨ab,bc,h⟩:=bS h
 have S1:=S.mem
 have S1:=S1.learn (fRep r_api_Gauge (.agg #[iv p0.Stitches,iv p0.Width,iv p0.Rows,iv p0.Height]) p0) d
 refine sCq [.agg #[iv p0.Stitches,iv p0.Width,iv p0.Rows,iv p0.Height],iv am.1] (.tuple #[iv ab.1,iv ab.2]) S callee8 (S1.quiet [0] d) (fun E1 w1 S1=>c_gauge_Stitches E1 w1 p0 (.agg #[iv p0.Stitches,iv p0.Width,iv p0.Rows,iv p0.Height]) am.1 ab bc S1) fun a w S=>?_
 refine sM S fun a S=>?_
 refine sExtract (vs:=[iv ab.1,iv ab.2]) (iv ab.1) S (wN d) d d d d (lb d) fun a S=>sExtract (vs:=[iv ab.1,iv ab.2]) (iv ab.2) S (wN d) d d d d (lb d) fun a S=>sN S fun a S=>?_
 refine sN S fun a S=>?_
 refine lT (bb _ _ (sSeq (fun ci bf=>?_)))
 obtain ⟨bM,h,bN⟩:=bS h
 refine sCut (fun a w=>∃ bg,bg=bM∧St [] E [] w0 129 a w [(1,iv p1),(2,.pointer (some ⟨b2,0,none⟩)),(8,iv a9.1),(9,iv a9.2),(12,iv ab.1),(70,.bool bg)] [eBox b2 23 [iv p0.Stitches,iv p0.Width,iv p0.Rows,iv p0.Height]] []) ?_ (fun a w hI=>?_)
 ·refine sRegion (sM S fun a S=>?_)
  refine sBin _ S (wN d) d d d (bNe _ _ _ _ .i64 a9.2 0) d (lb d) fun a S=>sM S fun a S=>?_
  rcases iS h with ⟨ao,h⟩ | ⟨ao,h⟩
  ·refine sSkN 2 2 false 63 S d d ao d fun a S=>sPickT (.bool true) S (wN d) d d ao d d (lb d) fun a S=>sM S fun a S=>?_
   refine sSkN 2 6 false 67 S d d d d fun a S=>sPickT (.bool true) S (wN d) d d d d d (lb d) fun a S=>?_
   exact lT (⟨true,Option.some.inj h,S.fix [0] [] (by decide) d d d⟩)
  refine sMove (iv am.2) S (wG 2 false 63 d d d ao) (.inl d) d d (lb d) fun a S=>sBin _ S (wG 2 false 63 d d d ao) d d d (bNe _ _ _ _ .i64 am.2 0) d (lb d) fun a S=>sPickF (.bool (am.2 != 0)) S (wN d) d d ao d d (lb d) fun a S=>sM S fun a S=>?_
  rcases iS h with ⟨ap,h⟩ | ⟨ap,h⟩
  ·refine sSkN 2 6 false 67 S d d ap d fun a S=>sPickT (.bool true) S (wN d) d d ap d d (lb d) fun a S=>?_
   exact lT (⟨true,Option.some.inj h,S.fix [0] [] (by decide) d d d⟩)
  refine sMove (iv ab.2) S (wG 6 false 67 d d d ap) (.inl d) d d (lb d) fun a S=>sBin _ S (wG 6 false 67 d d d ap) d d d (bNe _ _ _ _ .i64 ab.2 0) d (lb d) fun a S=>sPickF (.bool (ab.2 != 0)) S (wN d) d d ap d d (lb d) fun a S=>?_
  exact lT (⟨ab.2 != 0,Option.some.inj h,S.fix [0] [] (by decide) d d d⟩)
 obtain ⟨bg,rfl,S⟩:=hI
 have h:=bN
 try dsimp only at h
 rcases iS h with ⟨aA,h⟩ | ⟨aA,h⟩
 ·refine sCondT S d aA ?_
  obtain ⟨bO,h,bP⟩:=bS h
  refine sCut (fun a w=>∃ aK,aK=bO∧St [] E [] w0 129 a w [(4,.bool aK)] [] []) ?_ (fun a w hI=>?_)
  rotate_left
  ·obtain ⟨aK,rfl,S⟩:=hI
   have h:=bP
   try dsimp only at h
   obtain rfl:=tS h
   exact wp_ret (rThen (sRet (.bool aK) S (rsl1 d (rvT (t:=4) (v:=.bool aK) S d)) ⟨(),d,S.mem.sel [] [] (by decide) d d⟩))
  refine sRegion (sM S fun a S=>?_)
  refine sBin _ S (wN d) d d d (bEq _ _ _ _ .i64 a9.2 0) d (lb d) fun a S=>sM S fun a S=>?_
  rcases iS h with ⟨aq,h⟩ | ⟨aq,h⟩
  ·refine sSkN 2 2 false 73 S d d aq d fun a S=>sPickT (.bool true) S (wN d) d d aq d d (lb d) fun a S=>sN S fun a S=>?_
   exact lT (⟨true,Option.some.inj h,S.fix [] [] (by decide) d d d⟩)
  refine sMove (iv a9.2) S (wG 2 false 73 d d d aq) (.inl d) d d (lb d) fun a S=>sBin _ S (wG 2 false 73 d d d aq) d d d (bEq _ _ _ _ .i64 a9.2 16) d (lb d) fun a S=>sPickF (.bool (a9.2 == 16)) S (wN d) d d aq d d (lb d) fun a S=>sN S fun a S=>?_
  exact lT (⟨a9.2 == 16,Option.some.inj h,S.fix [] [] (by decide) d d d⟩)
 refine sCondF S d aA (wp_skip (leafT (bf _ _ ?_)))
 refine sSeq (fun cj bh=>?_)
 obtain ⟨bQ,h,bR⟩:=bS h
 refine sCut (fun a w=>∃ bi,bi=bQ∧St [] E [] w0 129 a w [(1,iv p1),(8,iv a9.1),(93,.bool bi)] [] []) ?_ (fun a w hI=>?_)
 ·refine sRegion (sField (b:=b2) (off:=0) 0 0 S (wN d) d d d d d (lb d) fun a S=>sLoad1 0 (iv p0.Stitches) S (wN d) d d d d d d (lb d) fun a S=>sField (b:=b2) (off:=0) 1 1 S (wN d) d d d d d (lb d) fun a S=>sLoad1 0 (iv p0.Width) S (wN d) d d d d d d (lb d) fun a S=>sBin _ S (wN d) d d d (bLe _ _ _ _ .i64 p0.Stitches p0.Width) d (lb d) fun a S=>sM S fun a S=>?_)
  rcases iS h with ⟨aa,h⟩ | ⟨aa,h⟩
  rotate_left
  ·refine sSkN 5 5 true 82 S d d aa d fun a S=>sSkipU 10 false 87 88 S d d d d (lb d) fun a S=>?_
   refine sSkipU 10 false 87 89 S d d d d (lb d) fun a S=>?_
   refine sSkipU 10 false 87 90 S d d d d (lb d) fun a S=>?_
   refine sSkipU 10 false 87 91 S d d d d (lb d) fun a S=>?_
   refine sSk S d d d aa d d fun a S=>sPickF (.bool false) S (wN d) d d aa d d (lb d) fun a S=>?_
   exact lT (⟨false,Option.some.inj h,S.fix [] [] (by decide) d d d⟩)
  refine sMove (iv a9.1) S (wG 5 true 82 d d d aa) (.inl d) d d (lb d) fun a S=>sMove (iv ab.1) S (wG 5 true 82 d d d aa) (.inl d) d d (lb d) fun a S=>sBin _ S (wG 5 true 82 d d d aa) d d d (bSub _ _ _ _ a9.1 ab.1) d (lb d) fun a S=>sBin _ S (wG 5 true 82 d d d aa) d d d (bGt _ _ _ _ .i64 (w64 (a9.1 - ab.1)) 1) d (lb d) fun a S=>sMove (.bool (decide (1 < (w64 (a9.1 - ab.1))))) S (wG 5 true 82 d d d aa) (.inl d) d d (lb d) fun a S=>?_
  rcases iS h with ⟨ag,h⟩ | ⟨ag,h⟩
  ·refine sSkN 4 10 false 87 S d d ag d fun a S=>sPickT (.bool true) S (wG 5 true 82 d d d aa) d d ag d d (lb d) fun a S=>sPickT (.bool true) S (wN d) d d aa d d (lb d) fun a S=>?_
   exact lT (⟨true,Option.some.inj h,S.fix [] [] (by decide) d d d⟩)
  refine sMove (iv ab.1) S (wG 10 false 87 d d d ag) (.inl d) d d (lb d) fun a S=>sMove (iv a9.1) S (wG 10 false 87 d d d ag) (.inl d) d d (lb d) fun a S=>sBin _ S (wG 10 false 87 d d d ag) d d d (bSub _ _ _ _ ab.1 a9.1) d (lb d) fun a S=>sBin _ S (wG 10 false 87 d d d ag) d d d (bGt _ _ _ _ .i64 (w64 (ab.1 - a9.1)) 1) d (lb d) fun a S=>sPickF (.bool (decide (1 < (w64 (ab.1 - a9.1))))) S (wG 5 true 82 d d d aa) d d ag d d (lb d) fun a S=>sPickT (.bool (decide (1 < (w64 (ab.1 - a9.1))))) S (wN d) d d aa d d (lb d) fun a S=>?_
  exact lT (⟨decide (1 < (w64 (ab.1 - a9.1))),Option.some.inj h,S.fix [] [] (by decide) d d d⟩)
 obtain ⟨bi,rfl,S⟩:=hI
 have h:=bR
 try dsimp only at h
 rcases iS h with ⟨aC,h⟩ | ⟨aC,h⟩
 ·refine sCondT S d aC (sSeq (fun ck bj=>sRegion (sN S fun a S=>?_)))
  refine lT (bj _ _ ?_)
  obtain rfl:=tS h
  exact wp_ret (rThen (sRet (.bool false) S (rsl1 d (rvT (t:=4) (v:=.bool false) S d)) ⟨(),d,S.mem.sel [] [] (by decide) d d⟩))
 refine sCondF S d aC (wp_skip (leafT (bh _ _ ?_)))
 refine sSeq (fun cl bl=>?_)
 obtain ⟨bV,h,bW⟩:=bS h
 refine sCut (fun a w=>∃ bm,bm=bV∧St [] E [] w0 129 a w [(1,iv p1),(8,iv a9.1),(99,.bool bm)] [] []) ?_ (fun a w hI=>?_)
 ·refine sRegion (sM S fun a S=>?_)
  refine sBin _ S (wN d) d d d (bLt _ _ _ _ .i64 a9.1 1) d (lb d) fun a S=>sM S fun a S=>?_
  rcases iS h with ⟨ar,h⟩ | ⟨ar,h⟩
  ·refine sSkN 2 2 false 96 S d d ar d fun a S=>sPickT (.bool true) S (wN d) d d ar d d (lb d) fun a S=>?_
   exact lT (⟨true,Option.some.inj h,S.fix [] [] (by decide) d d d⟩)
  refine sMove (iv a9.1) S (wG 2 false 96 d d d ar) (.inl d) d d (lb d) fun a S=>sBin _ S (wG 2 false 96 d d d ar) d d d (bGt _ _ _ _ .i64 a9.1 1000) d (lb d) fun a S=>sPickF (.bool (decide (1000 < a9.1))) S (wN d) d d ar d d (lb d) fun a S=>?_
  exact lT (⟨decide (1000 < a9.1),Option.some.inj h,S.fix [] [] (by decide) d d d⟩)
 obtain ⟨bm,rfl,S⟩:=hI
 have h:=bW
 try dsimp only at h
 rcases iS h with ⟨aG,h⟩ | ⟨aG,h⟩
 ·refine sCondT S d aG (sSeq (fun cm bn=>sRegion (sN S fun a S=>?_)))
  refine lT (bn _ _ ?_)
  obtain rfl:=tS h
  exact wp_ret (rThen (sRet (.bool true) S (rsl1 d (rvT (t:=4) (v:=.bool true) S d)) ⟨(),d,S.mem.sel [] [] (by decide) d d⟩))
 refine sCondF S d aG (wp_skip (leafT (bl _ _ ?_)))
 refine sSeq (fun cn bo=>sRegion (sM S fun a S=>?_))
 refine sM S fun a S=>?_
 obtain ⟨ae,bp,h⟩:=bS h
 refine sCall (X:=Value) (f:=39) (vs:=[iv p1,iv a9.1]) (val:=c_seam_Pick_val ae) (B':=fun _=>[]) (D':=c_seam_Pick_D ae) [] [] [] [] [] S (wN d) d callee39 d (by decide) d d (fun E1 w1 S1=>c_seam_Pick E1 w1 p1 a9.1 ae bp S1) d (lb d) fun bX a w S=>?_
 obtain ⟨ah,ai,_,rfl,_⟩:=S.mem.know (i:=0) (e:=fRep (rL (rI .i64)) (bX) ae.1) d
 refine sM S fun a S=>?_
 refine sExtract (vs:=[.slice ah ae.1.length ai,iv ae.2]) (.slice ah ae.1.length ai) S (wN d) d d d d (lb d) fun a S=>sExtract (vs:=[.slice ah ae.1.length ai,iv ae.2]) (iv ae.2) S (wN d) d d d d (lb d) fun a S=>sN S fun a S=>?_
 refine sN S fun a S=>?_
 refine lT (bo _ _ ?_)
 obtain ⟨bY,h,bZ⟩:=bS h
 refine sCut (fun a w=>∃ aL,aL=bY∧St [] E [] w0 129 a w [(4,.bool aL)] [] []) ?_ (fun a w hI=>?_)
 rotate_left
 ·obtain ⟨aL,rfl,S⟩:=hI
  have h:=bZ
  try dsimp only at h
  obtain rfl:=tS h
  exact wp_ret (sRet (.bool aL) S (rsl1 d (rvT (t:=4) (v:=.bool aL) S d)) ⟨(),d,S.mem.sel [] [] (by decide) d d⟩)
 refine sRegion (sM S fun a S=>?_)
 refine sBin _ S (wN d) d d d (bEq _ _ _ _ .i64 ae.2 0) d (lb d) fun a S=>sM S fun a S=>?_
 rcases iS h with ⟨aj,h⟩ | ⟨aj,h⟩
 rotate_left
 ·refine sSkN 4 2 true 108 S d d aj d fun a S=>sPickF (.bool false) S (wN d) d d aj d d (lb d) fun a S=>sM S fun a S=>?_
  refine sSkN 4 8 true 114 S d d d d fun a S=>sPickF (.bool false) S (wN d) d d d d d (lb d) fun a S=>sM S fun a S=>?_
  refine sSkN 7 14 true 120 S d d d d fun a S=>sPickF (.bool false) S (wN d) d d d d d (lb d) fun a S=>sN S fun a S=>?_
  exact lT (⟨false,Option.some.inj h,S.fix [] [] (by decide) d d d⟩)
 refine sMove (.slice ah ae.1.length ai) S (wG 2 true 108 d d d aj) (.inl d) d d (lb d) fun a S=>sLen S (wG 2 true 108 d d d aj) d Try.underlying34 d d (lb d) fun a S=>sMove (iv a9.1) S (wG 2 true 108 d d d aj) (.inl d) d d (lb d) fun a S=>sBin _ S (wG 2 true 108 d d d aj) d d d (bEq _ _ _ _ .i64 (ae.1.length:Int) a9.1) d (lb d) fun a S=>sPickT (.bool ((ae.1.length:Int) == a9.1)) S (wN d) d d aj d d (lb d) fun a S=>sM S fun a S=>?_
 rcases iS h with ⟨ak,h⟩ | ⟨ak,h⟩
 rotate_left
 ·refine sSkN 4 8 true 114 S d d ak d fun a S=>sPickF (.bool false) S (wN d) d d ak d d (lb d) fun a S=>sM S fun a S=>?_
  refine sSkN 7 14 true 120 S d d d d fun a S=>sPickF (.bool false) S (wN d) d d d d d (lb d) fun a S=>sN S fun a S=>?_
  exact lT (⟨false,Option.some.inj h,S.fix [] [] (by decide) d d d⟩)
 refine sMove (.slice ah ae.1.length ai) S (wG 8 true 114 d d d ak) (.inl d) d d (lb d) fun a S=>?_
 obtain ⟨aI,bq,h⟩:=bS h
 obtain ⟨bA,br,S⟩:=pIdx (P:=Try.prog) (r:=(rI .i64)) (v:=.slice ah ae.1.length ai) (xs:=ae.1) (j:=0) 34 3 0 S Try.underlying34 d d bq
 refine sIdxV S (wG 8 true 114 d d d ak) d d d br d (lb d) fun a S=>?_
 obtain ⟨bB,S⟩:=pLoad (r:=(rI .i64)) (q:=bA) (x:=aI) 0 S d
 obtain rfl:bB=iv aI:=S.mem.know (i:=1) (e:=fRep (rI .i64) (bB) aI) d
 refine sLoadV1 (vq:=bA) 0 (iv aI) S (wG 8 true 114 d d d ak) d d d d d (lb d) fun a S=>sBin _ S (wG 8 true 114 d d d ak) d d d (bGe _ _ _ _ .i64 aI 0) d (lb d) fun a S=>sPickT (.bool (decide (0 ≤ aI))) S (wN d) d d ak d d (lb d) fun a S=>sM S fun a S=>?_
 rcases iS h with ⟨ac,h⟩ | ⟨ac,h⟩
 rotate_left
 ·refine sSkN 7 14 true 120 S d d ac d fun a S=>sPickF (.bool false) S (wN d) d d ac d d (lb d) fun a S=>sN S fun a S=>?_
  exact lT (⟨false,Option.some.inj h,S.fix [] [] (by decide) d d d⟩)
 refine sMove (.slice ah ae.1.length ai) S (wG 14 true 120 d d d ac) (.inl d) d d (lb d) fun a S=>sMove (iv a9.1) S (wG 14 true 120 d d d ac) (.inl d) d d (lb d) fun a S=>sBin _ S (wG 14 true 120 d d d ac) d d d (bSub _ _ _ _ a9.1 1) d (lb d) fun a S=>?_
 obtain ⟨aH,bt,h⟩:=bS h
 obtain ⟨bC,bu,S⟩:=pIdx (P:=Try.prog) (r:=(rI .i64)) (v:=.slice ah ae.1.length ai) (xs:=ae.1) (j:=w64 (a9.1 - 1)) 34 3 3 S Try.underlying34 d d bt
 refine sIdxV S (wG 14 true 120 d d d ac) d d d bu d (lb d) fun a S=>?_
 obtain ⟨bD,S⟩:=pLoad (r:=(rI .i64)) (q:=bC) (x:=aH) 0 S d
 obtain rfl:bD=iv aH:=S.mem.know (i:=1) (e:=fRep (rI .i64) (bD) aH) d
 refine sLoadV1 (vq:=bC) 0 (iv aH) S (wG 14 true 120 d d d ac) d d d d d (lb d) fun a S=>sMove (iv p1) S (wG 14 true 120 d d d ac) (.inl d) d d (lb d) fun a S=>sBin _ S (wG 14 true 120 d d d ac) d d d (bLt _ _ _ _ .i64 aH p1) d (lb d) fun a S=>sPickT (.bool (decide (aH < p1))) S (wN d) d d ac d d (lb d) fun a S=>sN S fun a S=>?_
 exact lT (⟨decide (aH < p1),Option.some.inj h,S.fix [] [] (by decide) d d d⟩)
theorem edges_of (l:List Int) (hl:l.length ≤ 100) (h:∀ (k:Nat) (hk:k < l.length),1 ≤ l[k]∧l[k] ≤ 1000):F_seam_edges l=some 0:=by
 have key:∃ t,whileO (seam_edges_l1 l) 0=some t∧t=.inr ():=by
  refine loop_ix l.length (fun _=>True) _ trivial ?_ ?_
  ·intro k hk _
   refine .inl ⟨?_,trivial⟩
   have:=h k hk
   unfold seam_edges_l1
   simp only [dT (show (k:Int) < (l.length:Int) by omega),if_true,idxO_nat hk,Option.bind_some,dF (show ¬ l[k] < 1 by omega),dF (show ¬ 1000 < l[k] by omega),Bool.false_eq_true,if_false,w64_succ (show k < 9223372036854775807 by omega)]
  ·intro _
   refine ⟨_,?_,rfl⟩
   unfold seam_edges_l1
   simp only [dF (show ¬ (l.length:Int) < (l.length:Int) by omega),Bool.false_eq_true,if_false]
 obtain ⟨t,t1,rfl⟩:=key
 unfold F_seam_edges
 rw [t1]
 rfl
theorem edges_one {n:Int} (h0:1 ≤ n) (h1:n ≤ 1000):F_seam_edges [n]=some 0:=
 edges_of [n] (by simp) (fun k hk=>by
  match k,hk with
  | 0,_=>exact ⟨h0,h1⟩)
theorem edges_two {n m:Int} (h0:1 ≤ n) (h1:n ≤ 1000) (h2:1 ≤ m) (h3:m ≤ 1000):F_seam_edges [n,m]=some 0:=
 edges_of [n,m] (by simp) (fun k hk=>by
  match k,hk with
  | 0,_=>exact ⟨h0,h1⟩
  | 1,_=>exact ⟨h2,h3⟩)
theorem marks_nil (n:Int):F_seam_marks [] n=some true:=by
 have:whileO (seam_marks_l1 [] n) (0,0)=some (.inr ()):=whileO_done rfl
 unfold F_seam_marks
 rw [this]
 rfl
def diag (n:Nat):List (Int × Int):=(List.range n).map fun k:Nat=>((k:Int),(k:Int))
theorem section_of (n:Nat) (h0:1 ≤ n) (h1:n ≤ 1000):F_seam_section_s0 [] 0 (n:Int) 0 (n:Int)=some (diag n):=by
 have hw:whileO (seam_section_s0_l1 (n:Int) (n:Int) 0 0) (([]:List (Int × Int)),0)=some (diag n):=by
  refine loop_map n (fun k:Nat=>((k:Int),(k:Int))) (fun k s hk hs=>?_) ?_
  ·have hs':s.length=k:=by rw [hs]; simp
   have hm:(k:Int) * (n:Int) ≤ 1000000:=by
    have e:=Nat.mul_le_mul (show k ≤ 1000 by omega) h1
    have h2:((k * n:Nat):Int) ≤ 1000000:=by omega
    rwa [Int.natCast_mul] at h2
   have hm0:0 ≤ (k:Int) * (n:Int):=Int.mul_nonneg (by omega) (by omega)
   have e1:w64 ((k:Int) * (n:Int))=(k:Int) * (n:Int):=w64_of (by omega) (by omega)
   have e2:quoI ((k:Int) * (n:Int)) (n:Int)=some (k:Int):=by
    unfold quoI
    rw [if_neg (by omega),Int.mul_tdiv_cancel _ (by omega),w64_of (by omega) (by omega)]
   have e3:w64 (0 + (k:Int))=(k:Int):=by rw [w64_of (by omega) (by omega)]; omega
   unfold seam_section_s0_l1
   simp only [Int.lt_irrefl,if_false,dT (show (k:Int) < (n:Int) by omega),if_true,e1,e2,Option.bind_some,e3,appO_of (show s.length + [((k:Int),(k:Int))].length ≤ 68719476736 by simp; omega),w64_succ (show k < 9223372036854775807 by omega)]
  ·unfold seam_section_s0_l1 diag
   simp only [Int.lt_irrefl,if_false,decide_false,Bool.false_eq_true]
 unfold F_seam_section_s0
 rw [hw]
 rfl
theorem join_of (n:Nat) (h0:1 ≤ n) (h1:n ≤ 1000):F_seam_Join (n:Int) (n:Int)=some (diag n,0):=by
 have hl:whileO (seam_Marked_l1 [] []) (([]:List (Int × Int)),0,0,0)=some (([]:List (Int × Int)),0,0):=whileO_done rfl
 have e:w64 ((n:Int) - 0)=(n:Int):=by rw [w64_of (by omega) (by omega)]; omega
 unfold F_seam_Join F_seam_Marked
 rw [edges_two (by omega) (by omega) (by omega) (by omega)]
 simp only [Option.bind_some,bne_self_eq_false,Bool.false_eq_true,if_false,List.length_nil,Int.ofNat_zero,show decide ((50:Int) < ((0:Nat):Int))=false from rfl,marks_nil,Bool.not_true,hl,e,section_of n h0 h1]
 rfl
theorem need_of {g:api_Gauge} (hg:gok g=true) {r:Int} (r0:1 ≤ r) (r1:r ≤ 100):∃ nd,nd=(2 * (r * g.Height * g.Stitches) + g.Rows * g.Width) / (2 * (g.Rows * g.Width))∧0 ≤ nd∧F_seam_Need g r=some (if 1000000 < nd then (0,16) else (nd,0)):=by
 have hs:=gok_spec hg
 refine ⟨_,rfl,?_,?_⟩
 ·refine Int.ediv_nonneg ?_ ?_
  ·have h1:=Int.mul_nonneg (Int.mul_nonneg (show 0 ≤ r by omega) (show 0 ≤ g.Height by omega)) (show 0 ≤ g.Stitches by omega)
   have h2:=Int.mul_nonneg (show 0 ≤ g.Rows by omega) (show 0 ≤ g.Width by omega)
   omega
  ·have h2:=Int.mul_nonneg (show 0 ≤ g.Rows by omega) (show 0 ≤ g.Width by omega)
   omega
 have a0:0 ≤ r * g.Height:=Int.mul_nonneg (by omega) (by omega)
 have a1:r * g.Height ≤ 1000000:=by
  have:=Int.mul_le_mul r1 (show g.Height ≤ 10000 by omega) (by omega) (by omega:(0:Int) ≤ 100)
  omega
 have b0:0 ≤ r * g.Height * g.Stitches:=Int.mul_nonneg a0 (by omega)
 have b1:r * g.Height * g.Stitches ≤ 10000000000:=by
  have:=Int.mul_le_mul a1 (show g.Stitches ≤ 10000 by omega) (by omega) (by omega:(0:Int) ≤ 1000000)
  omega
 have c0:1 ≤ g.Rows * g.Width:=by
  have:=Int.mul_le_mul (show 1 ≤ g.Rows by omega) (show 1 ≤ g.Width by omega) (by omega) (by omega)
  omega
 have c1:g.Rows * g.Width ≤ 100000000:=by
  have:=Int.mul_le_mul (show g.Rows ≤ 10000 by omega) (show g.Width ≤ 10000 by omega) (by omega) (by omega:(0:Int) ≤ 10000)
  omega
 unfold F_seam_Need
 rw [gcheck_eq,hg,edges_one r0 (by omega)]
 have e1:w64 (r * g.Height)=r * g.Height:=w64_of (by omega) (by omega)
 simp only [e1]
 generalize r * g.Height * g.Stitches=P at *
 generalize g.Rows * g.Width=D at *
 have e2:w64 P=P:=w64_of (by omega) (by omega)
 have e3:w64 (2 * P)=2 * P:=w64_of (by omega) (by omega)
 have e4:w64 D=D:=w64_of (by omega) (by omega)
 have e5:w64 (2 * P + D)=2 * P + D:=w64_of (by omega) (by omega)
 have e6:w64 (2 * D)=2 * D:=w64_of (by omega) (by omega)
 have q0:0 ≤ (2 * P + D) / (2 * D):=Int.ediv_nonneg (by omega) (by omega)
 have q1:(2 * P + D) / (2 * D) ≤ 2 * P + D:=Int.ediv_le_self _ (by omega)
 have e7:quoI (2 * P + D) (2 * D)=some ((2 * P + D) / (2 * D)):=by
  unfold quoI
  rw [if_neg (by omega),Int.tdiv_eq_ediv_of_nonneg (by omega),w64_of (by omega) (by omega)]
 simp only [if_true,Option.bind_some,bne_self_eq_false,Bool.false_eq_true,if_false,e2,e3,e4,e5,e6,e7]
 by_cases h:1000000 < (2 * P + D) / (2 * D)
 ·rw [if_pos (dT h),if_pos h]
 ·rw [if_neg (by rw [dF h]; decide),if_neg h]
theorem near_two {R H S W r:Int} (hR:1 ≤ R) (hS:1 ≤ S) (hW:S ≤ W) {h n d:Int} (h1:h=near r H R) (h2:n=near h S W) (h3:d=(2 * (r * H * S) + R * W) / (2 * (R * W))):d - n ≤ 1∧n - d ≤ 1:=by
 have hD:0 < R * W:=Int.mul_pos (by omega) (by omega)
 have u1:=Int.ediv_mul_le (2 * r * H + R) (show 2 * R ≠ 0 by omega)
 have u2:=Int.lt_ediv_add_one_mul_self (2 * r * H + R) (show 0 < 2 * R by omega)
 have v1:=Int.ediv_mul_le (2 * h * S + W) (show 2 * W ≠ 0 by omega)
 have v2:=Int.lt_ediv_add_one_mul_self (2 * h * S + W) (show 0 < 2 * W by omega)
 have w1:=Int.ediv_mul_le (2 * (r * H * S) + R * W) (show 2 * (R * W) ≠ 0 by omega)
 have w2:=Int.lt_ediv_add_one_mul_self (2 * (r * H * S) + R * W) (show 0 < 2 * (R * W) by omega)
 rw [← h3] at w1 w2
 rw [show (2 * h * S + W) / (2 * W)=n from h2.symm] at v1 v2
 rw [show (2 * r * H + R) / (2 * R)=h from h1.symm] at u1 u2
 -- products
 have x1:h * (2 * R)=2 * (h * R):=Int.mul_left_comm _ _ _
 have x2:2 * r * H=2 * (r * H):=Int.mul_assoc _ _ _
 have x3:(h + 1) * (2 * R)=2 * (h * R) + 2 * R:=by rw [Int.add_mul,x1,Int.one_mul]
 have y1:n * (2 * W)=2 * (n * W):=Int.mul_left_comm _ _ _
 have y2:2 * h * S=2 * (h * S):=Int.mul_assoc _ _ _
 have y3:(n + 1) * (2 * W)=2 * (n * W) + 2 * W:=by rw [Int.add_mul,y1,Int.one_mul]
 have z1:d * (2 * (R * W))=2 * (d * (R * W)):=Int.mul_left_comm _ _ _
 have z3:(d + 1) * (2 * (R * W))=2 * (d * (R * W)) + 2 * (R * W):=by rw [Int.add_mul,z1,Int.one_mul]
 rw [x1,x2] at u1
 rw [x3,x2] at u2
 rw [y1,y2] at v1
 rw [y3,y2] at v2
 rw [z1] at w1
 rw [z3] at w2
 -- times S,times R
 have p1:=Int.mul_le_mul_of_nonneg_right u1 (show 0 ≤ S by omega)
 have p2:=Int.mul_le_mul_of_nonneg_right (show 2 * (r * H) + R + 1 ≤ 2 * (h * R) + 2 * R by omega) (show 0 ≤ S by omega)
 have p3:=Int.mul_le_mul_of_nonneg_right v1 (show 0 ≤ R by omega)
 have p4:=Int.mul_le_mul_of_nonneg_right (show 2 * (h * S) + W + 1 ≤ 2 * (n * W) + 2 * W by omega) (show 0 ≤ R by omega)
 have p5:=Int.mul_le_mul_of_nonneg_left hW (show 0 ≤ R by omega)
 have a1:(2 * (h * R)) * S=2 * (h * S * R):=by rw [Int.mul_assoc 2,Int.mul_assoc h,Int.mul_comm R S,← Int.mul_assoc h]
 have a2:(2 * (r * H) + R) * S=2 * (r * H * S) + R * S:=by rw [Int.add_mul,Int.mul_assoc 2]
 have a3:(2 * (r * H) + R + 1) * S=2 * (r * H * S) + R * S + S:=by rw [Int.add_mul,a2,Int.one_mul]
 have a4:(2 * (h * R) + 2 * R) * S=2 * (h * S * R) + 2 * (R * S):=by rw [Int.add_mul,a1,Int.mul_assoc 2]
 have a5:(2 * (n * W)) * R=2 * (n * (R * W)):=by rw [Int.mul_assoc 2,Int.mul_assoc n,Int.mul_comm W R]
 have a6:(2 * (h * S) + W) * R=2 * (h * S * R) + R * W:=by rw [Int.add_mul,Int.mul_assoc 2,Int.mul_comm W R]
 have a7:(2 * (h * S) + W + 1) * R=2 * (h * S * R) + R * W + R:=by rw [Int.add_mul,a6,Int.one_mul]
 have a8:(2 * (n * W) + 2 * W) * R=2 * (n * (R * W)) + 2 * (R * W):=by rw [Int.add_mul,a5,Int.mul_assoc 2,Int.mul_comm W R]
 rw [a1,a2] at p1
 rw [a3,a4] at p2
 rw [a5,a6] at p3
 rw [a7,a8] at p4
 generalize r * H * S=P at *
 generalize h * S * R=X at *
 generalize R * S=T at *
 generalize hDD:R * W=D at *
 constructor
 ·refine Int.not_lt.1 fun hc=>?_
  have:(n + 2) * D ≤ d * D:=Int.mul_le_mul_of_nonneg_right (by omega) (by omega)
  rw [Int.add_mul] at this
  omega
 ·refine Int.not_lt.1 fun hc=>?_
  have:(d + 2) * D ≤ n * D:=Int.mul_le_mul_of_nonneg_right (by omega) (by omega)
  rw [Int.add_mul] at this
  omega
def pk (r n:Int) (k:Nat):Int:=(2 * (k:Int) + 1) * r / (2 * n)
theorem pick_of {r n:Int} (r0:1 ≤ r) (r1:r ≤ 1000) (n0:1 ≤ n) (n1:n ≤ 1000):F_seam_Pick r n=some ((List.range n.toNat).map (pk r n),0):=by
 obtain ⟨N,rfl⟩:∃ N:Nat,n=N:=⟨n.toNat,by omega⟩
 have hN:((N:Int)).toNat=N:=by omega
 have hm:makeO (N:Int) (0:Int)=some (List.replicate N 0):=makeO_of rfl (by omega)
 have hl:whileO (seam_Pick_l1 (List.replicate N 0) r (N:Int)) (List.replicate N 0,0)=some ((List.range N).map (pk r N)):=by
  refine loop_set N (pk r N) (0:Int) (fun k s hk hs=>?_) ?_
  ·have m:=mul_bd (u:=2 * (k:Int) + 1) (v:=r) (a:=2001) (b:=1000) (by omega) (by omega) (by omega) (by omega)
   have e1:w64 (2 * (k:Int))=2 * (k:Int):=w64_of (by omega) (by omega)
   have e2:w64 (2 * (k:Int) + 1)=2 * (k:Int) + 1:=w64_of (by omega) (by omega)
   have e3:w64 ((2 * (k:Int) + 1) * r)=(2 * (k:Int) + 1) * r:=w64_of (by omega) (by omega)
   have e4:w64 (2 * (N:Int))=2 * (N:Int):=w64_of (by omega) (by omega)
   have q0:0 ≤ (2 * (k:Int) + 1) * r / (2 * (N:Int)):=Int.ediv_nonneg (by omega) (by omega)
   have q1:(2 * (k:Int) + 1) * r / (2 * (N:Int)) ≤ (2 * (k:Int) + 1) * r:=Int.ediv_le_self _ (by omega)
   have e5:quoI ((2 * (k:Int) + 1) * r) (2 * (N:Int))=some (pk r N k):=by
    unfold quoI pk
    rw [if_neg (by omega),Int.tdiv_eq_ediv_of_nonneg (by omega),w64_of (by omega) (by omega)]
   unfold seam_Pick_l1
   simp only [List.length_replicate,dT (show (k:Int) < ((N:Nat):Int) by omega),if_true,e1,e2,e3,e4,e5,Option.bind_some,idxO_nat (show k < s.length by omega),setO_nat (show k < s.length by omega),w64_succ (show k < 9223372036854775807 by omega)]
  ·unfold seam_Pick_l1
   simp only [List.length_replicate,dF (show ¬ ((N:Nat):Int) < ((N:Nat):Int) by omega),Bool.false_eq_true,if_false]
 unfold F_seam_Pick
 rw [edges_two r0 r1 (by omega) n1]
 simp only [Option.bind_some,bne_self_eq_false,Bool.false_eq_true,if_false,hm,hl,hN]
theorem sewn_of {g:api_Gauge} (hg:gok g=true) (r:Nat) (r0:1 ≤ r) (r1:r ≤ 100):F_raddletop_sewn39 g (r:Int)=some true:=by
 have hs:=gok_spec hg
 have hd:(diag r).length=r:=by simp [diag]
 have hw:whileO (raddletop_sewn39_l1 (r:Int) (diag r,0)) 0=some (.inr ()):=by
  have key:∃ t,whileO (raddletop_sewn39_l1 (r:Int) (diag r,0)) 0=some t∧t=.inr ():=by
   refine loop_ix r (fun _=>True) _ trivial ?_ ?_
   ·intro k hk _
    refine .inl ⟨?_,trivial⟩
    have hi:idxO (diag r) (k:Int)=some ((k:Int),(k:Int)):=by
     rw [idxO_nat (by omega)]
     simp [diag]
    unfold raddletop_sewn39_l1
    simp only [dT (show (k:Int) < (r:Int) by omega),if_true,hi,Option.bind_some,beq_self_eq_true,Bool.and_self,Bool.not_true,Bool.false_eq_true,if_false,w64_succ (show k < 9223372036854775807 by omega)]
   ·intro _
    refine ⟨_,?_,rfl⟩
    unfold raddletop_sewn39_l1
    simp only [dF (show ¬ (r:Int) < (r:Int) by omega),Bool.false_eq_true,if_false]
  obtain ⟨t,t1,rfl⟩:=key
  exact t1
 obtain ⟨nd,n1,n0,n2⟩:=need_of hg (r:=(r:Int)) (by omega) (by omega)
 unfold F_raddletop_sewn39
 rw [join_of r r0 (by omega)]
 simp only [Option.bind_some,bne_self_eq_false,Bool.false_eq_true,if_false,hd,hw]
 rw [n2,height_eq,hg]
 simp only [Option.bind_some]
 rw [stitches_eq,hg]
 simp only [Option.bind_some]
 by_cases c1:1000000 < nd
 ·simp [if_pos c1]
 rw [if_neg c1]
 rcases sc_cases (num:=g.Height) (den:=g.Rows) (v:=(r:Int)) (by omega) (by omega) with ⟨b1,h1⟩ | h1
 case inr=>rw [h1]; simp
 rw [h1]
 dsimp only
 have hb0:0 ≤ near (r:Int) g.Height g.Rows:=near_bd (by omega) (by omega) (by omega)
 rcases sc_cases (num:=g.Stitches) (den:=g.Width) (v:=near (r:Int) g.Height g.Rows) hb0 b1 with ⟨b2,h2⟩ | h2
 case inr=>rw [h2]; simp
 rw [h2]
 have hn0:0 ≤ near (near (r:Int) g.Height g.Rows) g.Stitches g.Width:=near_bd hb0 (by omega) (by omega)
 have o56:(if decide (g.Stitches ≤ g.Width)=true then (if decide (1 < w64 (nd - near (near (r:Int) g.Height g.Rows) g.Stitches g.Width))=true then some true else some (decide (1 < w64 (near (near (r:Int) g.Height g.Rows) g.Stitches g.Width - nd)))) else some false)=some false:=by
  by_cases hw:g.Stitches ≤ g.Width
  ·have k:=near_two (R:=g.Rows) (H:=g.Height) (S:=g.Stitches) (W:=g.Width) (r:=(r:Int)) (by omega) (by omega) hw rfl rfl n1
   have e1:w64 (nd - near (near (r:Int) g.Height g.Rows) g.Stitches g.Width)=nd - near (near (r:Int) g.Height g.Rows) g.Stitches g.Width:=w64_of (by omega) (by omega)
   have e2:w64 (near (near (r:Int) g.Height g.Rows) g.Stitches g.Width - nd)=near (near (r:Int) g.Height g.Rows) g.Stitches g.Width - nd:=w64_of (by omega) (by omega)
   rw [e1,e2,dT hw,dF (show ¬ 1 < nd - near (near (r:Int) g.Height g.Rows) g.Stitches g.Width by omega),dF (show ¬ 1 < near (near (r:Int) g.Height g.Rows) g.Stitches g.Width - nd by omega)]
   rfl
  ·rw [dF hw]
   rfl
 simp only [bne_self_eq_false,Bool.false_eq_true,if_false,Option.bind_some,o56]
 by_cases c2:nd < 1
 ·simp only [dT c2,if_true,Option.bind_some]
 by_cases c3:1000 < nd
 ·simp only [dF c2,dT c3,Bool.false_eq_true,if_false,if_true,Option.bind_some]
 simp only [dF c2,dF c3,Bool.false_eq_true,if_false,Option.bind_some]
 rw [pick_of (by omega) (by omega) (by omega) (by omega)]
 have hl:((List.range nd.toNat).map (pk (r:Int) nd)).length=nd.toNat:=by simp
 have i0:idxO ((List.range nd.toNat).map (pk (r:Int) nd)) 0=some (pk (r:Int) nd 0):=by
  have:=idxO_nat (xs:=(List.range nd.toNat).map (pk (r:Int) nd)) (k:=0) (by omega)
  rw [show (((0:Nat):Int))=0 from rfl] at this
  rw [this]
  simp
 have i1:idxO ((List.range nd.toNat).map (pk (r:Int) nd)) (w64 (nd - 1))=some (pk (r:Int) nd (nd.toNat - 1)):=by
  rw [w64_of (by omega) (by omega),show nd - 1=((nd.toNat - 1:Nat):Int) by omega,idxO_nat (by omega)]
  simp
 have p0:0 ≤ pk (r:Int) nd 0:=Int.ediv_nonneg (by have:=Int.mul_nonneg (show (0:Int) ≤ 2 * ((0:Nat):Int) + 1 by omega) (show (0:Int) ≤ (r:Int) by omega); omega) (by omega)
 have p1:pk (r:Int) nd (nd.toNat - 1) < (r:Int):=by
  unfold pk
  rw [Int.ediv_lt_iff_lt_mul (by omega)]
  have e:2 * ((nd.toNat - 1:Nat):Int) + 1=2 * nd - 1:=by omega
  rw [e,Int.sub_mul,Int.one_mul,Int.mul_comm (2 * nd)]
  omega
 simp only [Option.bind_some,beq_self_eq_true,if_true,hl,bT (show ((nd.toNat:Nat):Int)=nd by omega),i0,dT p0,i1,dT p1]
end Go.Proofs.Ytnfjcalmangncaa
