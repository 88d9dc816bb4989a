/- ReduceGroups: walks, tables, laws. -/
import Derived.Test.YtapohhkdpkapoaaProg
import Derived.Test.YtapohhkdpkapoaaRows
import Derived.Test.YtapohhkdpkapoaaMReduceGroups1
set_option linter.unusedVariables false
set_option linter.unusedSimpArgs false
set_option maxHeartbeats 4000000
set_option maxRecDepth 100000
namespace Go.Proofs.Ytapohhkdpkapoaa
open Go.RowKit
def anc_raddleref01_Same_0:List (List Nat):=[[],[0],[],[0,1,2],[0,1,2,3],[],[5],[],[5,6,7],[5,6,7,8],[0,1,2,3,4,5,6,7,8,9]]
noncomputable def raddleref01_Same_l1 (p0:api_Grid) (p1:api_Grid):Int→Option (Int ⊕ (Bool ⊕ Unit)):=fun s0=>match s0 with
 | a0=>
  if decide (a0 < (p0.Bits.length:Int)) then
   (idxO p0.Bits a0).bind fun a2=>
   (idxO p1.Bits a0).bind fun a3=>
   if a2 != a3 then
    some (.inr (.inl false))
   else
    some (.inl (w64 (a0 + 1)))
  else
   some (.inr (.inr ()))
noncomputable def F_raddleref01_Same (p0:api_Grid) (p1:api_Grid):Option Bool:=
 Option.bind (α:=Bool) (
  if p0.W != p1.W then
   some true
  else
   if p0.H != p1.H then
    some true
   else
    some ((p0.Bits.length:Int) != (p1.Bits.length:Int))) fun a0=>
 if a0 then
  some false
 else
  Option.bind (α:=Unit ⊕ Bool) (
   (whileO (raddleref01_Same_l1 p0 p1) 0).bind fun z0=>match z0 with
    | .inl z=>
     some (.inr z)
    | .inr _=>
     some (.inl ())) fun z0=>match z0 with
   | .inl _=>
    some true
   | .inr z=>
    some z
theorem c_raddleref01_Same (E:Nat→Prop) (w0:World) (p0:api_Grid) (v0:Value) (p1:api_Grid) (v1:Value) (r:Bool) (h:F_raddleref01_Same p0 p1=some r) (S:St0 E [] w0 w0 [] [fRep r_api_Grid (v0) p0,fRep r_api_Grid (v1) p1]) :
 Calls Try.prog 16 #[v0,v1] w0 (Ret (X:=Unit) E [] w0 (fun _=>.bool r) (fun _=>[]) (fun _=>[])):=by
 unfold F_raddleref01_Same at h
 obtain ⟨u1,rfl,aA⟩:=S.know (i:=0) (e:=fRep r_api_Grid (v0) p0) y
 have S:=S.learn (fRep (rL rB) u1 p0.Bits) aA
 obtain ⟨a3,a4,_,rfl,_⟩:=aA
 obtain ⟨u5,rfl,aC⟩:=S.know (i:=2) (e:=fRep r_api_Grid (v1) p1) y
 have S:=S.learn (fRep (rL rB) u5 p1.Bits) aC
 obtain ⟨a5,a6,_,rfl,_⟩:=aC
 refine sEnter (args:=[.agg #[iv p0.W,iv p0.H,.slice a3 p0.Bits.length a4],.agg #[iv p1.W,iv p1.H,.slice a5 p1.Bits.length a6]]) 45 Try.func16 y y (by simp) S (fun a S=>?_)
 refine sSeq (fun K9 aK=>sRegion (sBox (v:=.agg #[iv p0.W,iv p0.H,.slice a3 p0.Bits.length a4]) S (wN y) y y [iv p0.W,iv p0.H,.slice a3 p0.Bits.length a4] y y (lb y) fun a a7 w S=>sBox (v:=.agg #[iv p1.W,iv p1.H,.slice a5 p1.Bits.length a6]) S (wN y) y y [iv p1.W,iv p1.H,.slice a5 p1.Bits.length a6] y y (lb y) fun a a8 w S=>sN S fun a S=>?_))
 refine lT (aK _ _ (sSeq (fun aP ah=>?_)))
 obtain ⟨aL,h,aM⟩:=bS h
 refine sCut (fun a w=>∃ ai,ai=aL∧St [] E [] w0 45 a w [(2,.pointer (some ⟨a7,0,none⟩)),(3,.pointer (some ⟨a8,0,none⟩)),(26,.bool ai)] [eBox a7 24 [iv p0.W,iv p0.H,.slice a3 p0.Bits.length a4],eBox a8 24 [iv p1.W,iv p1.H,.slice a5 p1.Bits.length a6]] [fRep (rL rB) (.slice a3 p0.Bits.length a4) p0.Bits,fRep (rL rB) (.slice a5 p1.Bits.length a6) p1.Bits]) ?_ (fun a w hI=>?_)
 ·refine sRegion (sField (b:=a7) (off:=0) 0 0 S (wN y) y y y y y (lb y) fun a S=>sLoad1 1 (iv p0.W) S (wN y) y y y y y y (lb y) fun a S=>sField (b:=a8) (off:=0) 0 0 S (wN y) y y y y y (lb y) fun a S=>sLoad1 0 (iv p1.W) S (wN y) y y y y y y (lb y) fun a S=>sBin _ S (wN y) y y y (bNe _ _ _ _ .i64 p0.W p1.W) y (lb y) fun a S=>sM S fun a S=>?_)
  rcases iS h with ⟨a2,h⟩ | ⟨a2,h⟩
  ·refine sSkN 5 5 false 11 S y y a2 y fun a S=>sPickT (.bool true) S (wN y) y y a2 y y (lb y) fun a S=>sM S fun a S=>?_
   refine sSkN 7 12 false 18 S y y y y fun a S=>sPickT (.bool true) S (wN y) y y y y y (lb y) fun a S=>?_
   exact lT (⟨true,Option.some.inj h,S.fix [1,0] [1,0] (by decide) y y y⟩)
  refine sField (b:=a7) (off:=0) 1 1 S (wG 5 false 11 y y y a2) y y y y y (lb y) fun a S=>sLoad1 1 (iv p0.H) S (wG 5 false 11 y y y a2) y y y y y y (lb y) fun a S=>sField (b:=a8) (off:=0) 1 1 S (wG 5 false 11 y y y a2) y y y y y (lb y) fun a S=>sLoad1 0 (iv p1.H) S (wG 5 false 11 y y y a2) y y y y y y (lb y) fun a S=>sBin _ S (wG 5 false 11 y y y a2) y y y (bNe _ _ _ _ .i64 p0.H p1.H) y (lb y) fun a S=>sPickF (.bool (p0.H != p1.H)) S (wN y) y y a2 y y (lb y) fun a S=>sM S fun a S=>?_
  rcases iS h with ⟨a0,h⟩ | ⟨a0,h⟩
  ·refine sSkN 7 12 false 18 S y y a0 y fun a S=>sPickT (.bool true) S (wN y) y y a0 y y (lb y) fun a S=>?_
   exact lT (⟨true,Option.some.inj h,S.fix [1,0] [1,0] (by decide) y y y⟩)
  refine sField (b:=a7) (off:=0) 2 2 S (wG 12 false 18 y y y a0) y y y y y (lb y) fun a S=>sLoad1 1 (.slice a3 p0.Bits.length a4) S (wG 12 false 18 y y y a0) y y y y y y (lb y) fun a S=>sLen S (wG 12 false 18 y y y a0) y Try.underlying22 y y (lb y) fun a S=>sField (b:=a8) (off:=0) 2 2 S (wG 12 false 18 y y y a0) y y y y y (lb y) fun a S=>sLoad1 0 (.slice a5 p1.Bits.length a6) S (wG 12 false 18 y y y a0) y y y y y y (lb y) fun a S=>sLen S (wG 12 false 18 y y y a0) y Try.underlying22 y y (lb y) fun a S=>sBin _ S (wG 12 false 18 y y y a0) y y y (bNe _ _ _ _ .i64 (p0.Bits.length:Int) (p1.Bits.length:Int)) y (lb y) fun a S=>sPickF (.bool ((p0.Bits.length:Int) != (p1.Bits.length:Int))) S (wN y) y y a0 y y (lb y) fun a S=>?_
  exact lT (⟨(p0.Bits.length:Int) != (p1.Bits.length:Int),Option.some.inj h,S.fix [1,0] [1,0] (by decide) y y y⟩)
 obtain ⟨ai,rfl,S⟩:=hI
 have h:=aM
 try dsimp only at h
 rcases iS h with ⟨ac,h⟩ | ⟨ac,h⟩
 ·refine sCondT S y ac (sSeq (fun aQ aj=>sRegion (sN S fun a S=>?_)))
  refine lT (aj _ _ ?_)
  obtain rfl:=tS h
  exact wp_ret (rThen (sRet (.bool false) S (rsl1 y (rvT (t:=4) (v:=.bool false) S y)) ⟨(),y,S.mem.sel [] [] (by decide) y y⟩))
 refine sCondF S y ac (wp_skip (leafT (ah _ _ ?_)))
 obtain ⟨aO,h,aG⟩:=bS h
 refine sCut (fun a w=>.inl ()=aO∧St [] E [] w0 45 a w [] [] []) ?_ (fun a w hI=>?_)
 rotate_left
 ·obtain ⟨rfl,S⟩:=hI
  have h:=aG
  try dsimp only at h
  refine sSeq (fun aR ak=>sRegion (sN S fun a S=>?_))
  refine lT (ak _ _ ?_)
  obtain rfl:=tS h
  exact wp_ret (sRet (.bool true) S (rsl1 y (rvT (t:=4) (v:=.bool true) S y)) ⟨(),y,S.mem.sel [] [] (by decide) y y⟩)
 refine sSeq (fun aS al=>sRegion (sN S fun a S=>?_))
 refine lT (al _ _ (wp_block ?_))
 obtain ⟨aT,hl,aH⟩:=bS h
 refine sLoop hl (fun s0 a w=>match s0 with | a9=>St [] E [] w0 45 a w [(2,.pointer (some ⟨a7,0,none⟩)),(3,.pointer (some ⟨a8,0,none⟩)),(5,iv a9)] [eBox a7 24 [iv p0.W,iv p0.H,.slice a3 p0.Bits.length a4],eBox a8 24 [iv p1.W,iv p1.H,.slice a5 p1.Bits.length a6]] [fRep (rL rB) (.slice a3 p0.Bits.length a4) p0.Bits,fRep (rL rB) (.slice a5 p1.Bits.length a6) p1.Bits]) (S.fix [0,1] [0,1] (by decide) y y y) ?_
 clear hl h
 intro a9 a w c0 hI h ag
 unfold raddleref01_Same_l1 at h
 dsimp only at h hI
 have S:=hI
 refine sSeq (fun aU am=>sSeq (fun aV ao=>sRegion (sM S fun a S=>?_)))
 refine sField (b:=a7) (off:=0) 2 2 S (wN y) y y y y y (lb y) fun a S=>sLoad1 0 (.slice a3 p0.Bits.length a4) S (wN y) y y y y y y (lb y) fun a S=>sLen S (wN y) y Try.underlying22 y y (lb y) fun a S=>sBin _ S (wN y) y y y (bLt _ _ _ _ .i64 a9 (p0.Bits.length:Int)) y (lb y) fun a S=>lT (ao _ _ ?_)
 rcases iS h with ⟨ae,h⟩ | ⟨ae,h⟩
 rotate_left
 ·refine sCondF S y ae ?_
  obtain rfl:=tS h
  obtain rfl:=ag _ y
  have h:=aH
  try dsimp only at h
  exact wp_exit (xThen (xThen (xHit (leafT (⟨Option.some.inj h,S.fix [] [] (by decide) y y y⟩)))))
 refine sCondT S y ae (wp_skip (leafT (am _ _ ?_)))
 refine sSeq (fun aW ap=>wp_block ?_)
 refine sSeq (fun aX aq=>?_)
 obtain ⟨aa,ar,h⟩:=bS h
 obtain ⟨ab,au,h⟩:=bS h
 obtain ⟨av,aw,S⟩:=pIdx (P:=Try.prog) (r:=rB) (v:=.slice a3 p0.Bits.length a4) (xs:=p0.Bits) (j:=a9) 22 4 0 S Try.underlying22 y y ar
 obtain ⟨aI,S⟩:=pLoad (r:=rB) (q:=av) (x:=aa) 0 S y
 obtain rfl:aI=.bool aa:=S.mem.know (i:=1) (e:=fRep rB (aI) aa) y
 obtain ⟨ax,ay,S⟩:=pIdx (P:=Try.prog) (r:=rB) (v:=.slice a5 p1.Bits.length a6) (xs:=p1.Bits) (j:=a9) 22 4 4 S Try.underlying22 y y au
 obtain ⟨aJ,S⟩:=pLoad (r:=rB) (q:=ax) (x:=ab) 0 S y
 obtain rfl:aJ=.bool ab:=S.mem.know (i:=1) (e:=fRep rB (aJ) ab) y
 refine sDraw (nf:=[]) (W:=[(0,34,.pointer (some ⟨a7,2,none⟩)),(1,35,.slice a3 p0.Bits.length a4),(2,36,iv a9),(3,37,av),(4,38,.bool aa),(5,39,.pointer (some ⟨a8,2,none⟩)),(6,40,.slice a5 p1.Bits.length a6),(7,41,iv a9),(8,42,ax),(9,43,.bool ab),(10,44,.bool (aa != ab))]) y S ?_
 refine node_by (A:=anc_raddleref01_Same_0) 11 (by kernel_rfl) (by kernel_rfl) (by kernel_rfl) (by kernel_rfl) (by kernel_rfl) [0,1,2,3,4,5,6,7,8,9,10] (by kernel_rfl) (by decide) (by decide) (fF ?_ (fF ?_ (fF ?_ (fF ?_ (fF ?_ (fF ?_ (fF ?_ (fF ?_ (fF ?_ (fF ?_ (fF ?_ (trivial)))))))))))) [(2,.pointer (some ⟨a7,0,none⟩)),(3,.pointer (some ⟨a8,0,none⟩)),(5,iv a9),(44,.bool (aa != ab))] (fin_of [none,none,none,some 10] y (by kernel_rfl) (by kernel_rfl)) (fun _ a w S=>?_)
 ·refine fJ [(2,_)] 0 [none] fun G a w S=>?_
  exact sField (b:=a7) (off:=0) 2 2 S (wN y) y y y y y (lb y) fun a S=>leafL ⟨y,S⟩
 ·refine fJ [(34,_)] 1 [some 0] fun G a w S=>?_
  exact sLoad1 0 (.slice a3 p0.Bits.length a4) S (wN y) y y y y y y (lb y) fun a S=>leafL ⟨y,S⟩
 ·exact fM 2 none y y y y (.inl y) y y y
 ·refine fJ [(35,_),(36,_)] 3 [some 1,some 2] fun G a w S=>?_
  exact sIdxV S (wN y) y y y aw y (lb y) fun a S=>leafL ⟨y,S⟩
 ·refine fJ [(37,_)] 4 [some 3] fun G a w S=>?_
  exact sLoadV1 (vq:=av) 3 (.bool aa) S (wN y) y y y y y (lb y) fun a S=>leafL ⟨y,S⟩
 ·refine fJ [(3,_)] 5 [none] fun G a w S=>?_
  exact sField (b:=a8) (off:=0) 2 2 S (wN y) y y y y y (lb y) fun a S=>leafL ⟨y,S⟩
 ·refine fJ [(39,_)] 6 [some 5] fun G a w S=>?_
  exact sLoad1 1 (.slice a5 p1.Bits.length a6) S (wN y) y y y y y y (lb y) fun a S=>leafL ⟨y,S⟩
 ·exact fM 7 none y y y y (.inl y) y y y
 ·refine fJ [(40,_),(41,_)] 8 [some 6,some 7] fun G a w S=>?_
  exact sIdxV S (wN y) y y y ay y (lb y) fun a S=>leafL ⟨y,S⟩
 ·refine fJ [(42,_)] 9 [some 8] fun G a w S=>?_
  exact sLoadV1 (vq:=ax) 0 (.bool ab) S (wN y) y y y y y (lb y) fun a S=>leafL ⟨y,S⟩
 ·refine fJ [(38,_),(43,_)] 10 [some 4,some 9] fun G a w S=>?_
  exact sBin _ S (wN y) y y y (bNeB _ _ _ _ Try.underlying4 aa ab) y (lb y) fun a S=>leafL ⟨y,S⟩
 refine leafT (aq _ _ ?_)
 rcases iS h with ⟨af,h⟩ | ⟨af,h⟩
 rotate_left
 ·refine sCondF S y af (wp_skip (leafB (leafT (ap _ _ ?_))))
  refine sRegion (sM S fun a S=>?_)
  refine sBin _ S (wN y) y y y (bAdd _ _ _ _ a9 1) y (lb y) fun a S=>sN S fun a S=>?_
  exact lT (⟨w64 (a9 + 1),(Option.some.inj h).symm,(S.fix [0,1] [6,7] (by decide) y y y)⟩)
 refine sCondT S y af (sSeq (fun aZ az=>sRegion (sN S fun a S=>?_)))
 refine lT (az _ _ ?_)
 obtain rfl:=tS h
 obtain rfl:=ag _ y
 have h:=aH
 try dsimp only at h
 obtain rfl:=tS h
 have h:=aG
 try dsimp only at h
 obtain rfl:=tS h
 exact wp_ret (rBlock (rThen (rThen (rBlock (rThen (sRet (.bool false) S (rsl1 y (rvT (t:=4) (v:=.bool false) S y)) ⟨(),y,S.mem.sel [] [] (by decide) y y⟩))))))
def anc_raddleref02_Same_0:List (List Nat):=[[],[],[0,1],[0,1,2],[],[],[4,5],[4,5,6],[0,1,2,3,4,5,6,7]]
noncomputable def raddleref02_Same_l1 (p0:(List Int)) (p1:(List Int)):Int→Option (Int ⊕ (Bool ⊕ Unit)):=fun s0=>match s0 with
 | a0=>
  if decide (a0 < (p0.length:Int)) then
   (idxO p0 a0).bind fun a2=>
   (idxO p1 a0).bind fun a3=>
   if a2 != a3 then
    some (.inr (.inl false))
   else
    some (.inl (w64 (a0 + 1)))
  else
   some (.inr (.inr ()))
noncomputable def F_raddleref02_Same (p0:(List Int)) (p1:(List Int)):Option Bool:=
 if (p0.length:Int) != (p1.length:Int) then
  some false
 else
  Option.bind (α:=Unit ⊕ Bool) (
   (whileO (raddleref02_Same_l1 p0 p1) 0).bind fun z0=>match z0 with
    | .inl z=>
     some (.inr z)
    | .inr _=>
     some (.inl ())) fun z0=>match z0 with
   | .inl _=>
    some true
   | .inr z=>
    some z
theorem c_raddleref02_Same (E:Nat→Prop) (w0:World) (p0:(List Int)) (v0:Value) (p1:(List Int)) (v1:Value) (r:Bool) (h:F_raddleref02_Same p0 p1=some r) (S:St0 E [] w0 w0 [] [fRep (rL (rI .i64)) (v0) p0,fRep (rL (rI .i64)) (v1) p1]) :
 Calls Try.prog 17 #[v0,v1] w0 (Ret (X:=Unit) E [] w0 (fun _=>.bool r) (fun _=>[]) (fun _=>[])):=by
 unfold F_raddleref02_Same at h
 obtain ⟨a6,a7,_,rfl,_⟩:=S.know (i:=0) (e:=fRep (rL (rI .i64)) (v0) p0) y
 obtain ⟨a8,a9,_,rfl,_⟩:=S.know (i:=1) (e:=fRep (rL (rI .i64)) (v1) p1) y
 refine sEnter (args:=[.slice a6 p0.length a7,.slice a8 p1.length a9]) 26 Try.func17 y y (by simp) S (fun a S=>?_)
 refine sSeq (fun K5 ax=>sRegion (sN S fun a S=>?_))
 refine lT (ax _ _ (sSeq (fun K6 ay=>sSeq (fun K7 az=>sRegion (sM S fun a S=>?_)))))
 refine sLen S (wN y) y Try.underlying25 y y (lb y) fun a S=>sM S fun a S=>?_
 refine sLen S (wN y) y Try.underlying25 y y (lb y) fun a S=>sBin _ S (wN y) y y y (bNe _ _ _ _ .i64 (p0.length:Int) (p1.length:Int)) y (lb y) fun a S=>lT (az _ _ ?_)
 rcases iS h with ⟨ab,h⟩ | ⟨ab,h⟩
 ·refine sCondT S y ab (sSeq (fun K9 aA=>sRegion (sN S fun a S=>?_)))
  refine lT (aA _ _ ?_)
  obtain rfl:=tS h
  exact wp_ret (rThen (sRet (.bool false) S (rsl1 y (rvT (t:=4) (v:=.bool false) S y)) ⟨(),y,S.mem.sel [] [] (by decide) y y⟩))
 refine sCondF S y ab (wp_skip (leafT (ay _ _ ?_)))
 obtain ⟨aC,h,ar⟩:=bS h
 refine sCut (fun a w=>.inl ()=aC∧St [] E [] w0 26 a w [] [] []) ?_ (fun a w hI=>?_)
 rotate_left
 ·obtain ⟨rfl,S⟩:=hI
  have h:=ar
  try dsimp only at h
  refine sSeq (fun aG ac=>sRegion (sN S fun a S=>?_))
  refine lT (ac _ _ ?_)
  obtain rfl:=tS h
  exact wp_ret (sRet (.bool true) S (rsl1 y (rvT (t:=4) (v:=.bool true) S y)) ⟨(),y,S.mem.sel [] [] (by decide) y y⟩)
 refine sSeq (fun aH ae=>sRegion (sN S fun a S=>?_))
 refine lT (ae _ _ (wp_block ?_))
 obtain ⟨aI,hl,au⟩:=bS h
 refine sLoop hl (fun s0 a w=>match s0 with | a0=>St [] E [] w0 26 a w [(0,.slice a6 p0.length a7),(1,.slice a8 p1.length a9),(5,iv a0)] [] [fRep (rL (rI .i64)) (.slice a6 p0.length a7) p0,fRep (rL (rI .i64)) (.slice a8 p1.length a9) p1]) (S.fix [] [0,1] (by decide) y y y) ?_
 clear hl h
 intro a0 a w c0 hI h aa
 unfold raddleref02_Same_l1 at h
 dsimp only at h hI
 have S:=hI
 refine sSeq (fun aJ af=>sSeq (fun aK ag=>sRegion (sM S fun a S=>?_)))
 refine sM S fun a S=>?_
 refine sLen S (wN y) y Try.underlying25 y y (lb y) fun a S=>sBin _ S (wN y) y y y (bLt _ _ _ _ .i64 a0 (p0.length:Int)) y (lb y) fun a S=>lT (ag _ _ ?_)
 rcases iS h with ⟨a4,h⟩ | ⟨a4,h⟩
 rotate_left
 ·refine sCondF S y a4 ?_
  obtain rfl:=tS h
  obtain rfl:=aa _ y
  have h:=au
  try dsimp only at h
  exact wp_exit (xThen (xThen (xHit (leafT (⟨Option.some.inj h,S.fix [] [] (by decide) y y y⟩)))))
 refine sCondT S y a4 (wp_skip (leafT (af _ _ ?_)))
 refine sSeq (fun aL ah=>wp_block ?_)
 refine sSeq (fun aM ai=>?_)
 obtain ⟨a2,aj,h⟩:=bS h
 obtain ⟨a3,ak,h⟩:=bS h
 obtain ⟨al,am,S⟩:=pIdx (P:=Try.prog) (r:=(rI .i64)) (v:=.slice a6 p0.length a7) (xs:=p0) (j:=a0) 25 3 0 S Try.underlying25 y y aj
 obtain ⟨av,S⟩:=pLoad (r:=(rI .i64)) (q:=al) (x:=a2) 0 S y
 obtain rfl:av=iv a2:=S.mem.know (i:=1) (e:=fRep (rI .i64) (av) a2) y
 obtain ⟨ao,ap,S⟩:=pIdx (P:=Try.prog) (r:=(rI .i64)) (v:=.slice a8 p1.length a9) (xs:=p1) (j:=a0) 25 3 4 S Try.underlying25 y y ak
 obtain ⟨aw,S⟩:=pLoad (r:=(rI .i64)) (q:=ao) (x:=a3) 0 S y
 obtain rfl:aw=iv a3:=S.mem.know (i:=1) (e:=fRep (rI .i64) (aw) a3) y
 refine sDraw (nf:=[]) (W:=[(0,17,.slice a6 p0.length a7),(1,18,iv a0),(2,19,al),(3,20,iv a2),(4,21,.slice a8 p1.length a9),(5,22,iv a0),(6,23,ao),(7,24,iv a3),(8,25,.bool (a2 != a3))]) y S ?_
 refine node_by (A:=anc_raddleref02_Same_0) 9 (by kernel_rfl) (by kernel_rfl) (by kernel_rfl) (by kernel_rfl) (by kernel_rfl) [0,1,2,3,4,5,6,7,8] (by kernel_rfl) (by decide) (by decide) (fF ?_ (fF ?_ (fF ?_ (fF ?_ (fF ?_ (fF ?_ (fF ?_ (fF ?_ (fF ?_ (trivial)))))))))) [(0,.slice a6 p0.length a7),(1,.slice a8 p1.length a9),(5,iv a0),(25,.bool (a2 != a3))] (fin_of [none,none,none,some 8] y (by kernel_rfl) (by kernel_rfl)) (fun _ a w S=>?_)
 ·exact fM 0 none y y y y (.inl y) y y y
 ·exact fM 1 none y y y y (.inl y) y y y
 ·refine fJ [(17,_),(18,_)] 2 [some 0,some 1] fun G a w S=>?_
  exact sIdxV S (wN y) y y y am y (lb y) fun a S=>leafL ⟨y,S⟩
 ·refine fJ [(19,_)] 3 [some 2] fun G a w S=>?_
  exact sLoadV1 (vq:=al) 3 (iv a2) S (wN y) y y y y y (lb y) fun a S=>leafL ⟨y,S⟩
 ·exact fM 4 none y y y y (.inl y) y y y
 ·exact fM 5 none y y y y (.inl y) y y y
 ·refine fJ [(21,_),(22,_)] 6 [some 4,some 5] fun G a w S=>?_
  exact sIdxV S (wN y) y y y ap y (lb y) fun a S=>leafL ⟨y,S⟩
 ·refine fJ [(23,_)] 7 [some 6] fun G a w S=>?_
  exact sLoadV1 (vq:=ao) 0 (iv a3) S (wN y) y y y y y (lb y) fun a S=>leafL ⟨y,S⟩
 ·refine fJ [(20,_),(24,_)] 8 [some 3,some 7] fun G a w S=>?_
  exact sBin _ S (wN y) y y y (bNe _ _ _ _ .i64 a2 a3) y (lb y) fun a S=>leafL ⟨y,S⟩
 refine leafT (ai _ _ ?_)
 rcases iS h with ⟨a5,h⟩ | ⟨a5,h⟩
 rotate_left
 ·refine sCondF S y a5 (wp_skip (leafB (leafT (ah _ _ ?_))))
  refine sRegion (sM S fun a S=>?_)
  refine sBin _ S (wN y) y y y (bAdd _ _ _ _ a0 1) y (lb y) fun a S=>sN S fun a S=>?_
  exact lT (⟨w64 (a0 + 1),(Option.some.inj h).symm,(S.fix [] [6,7] (by decide) y y y)⟩)
 refine sCondT S y a5 (sSeq (fun aO aq=>sRegion (sN S fun a S=>?_)))
 refine lT (aq _ _ ?_)
 obtain rfl:=tS h
 obtain rfl:=aa _ y
 have h:=au
 try dsimp only at h
 obtain rfl:=tS h
 have h:=ar
 try dsimp only at h
 obtain rfl:=tS h
 exact wp_ret (rBlock (rThen (rThen (rBlock (rThen (sRet (.bool false) S (rsl1 y (rvT (t:=4) (v:=.bool false) S y)) ⟨(),y,S.mem.sel [] [] (by decide) y y⟩))))))
noncomputable def F_reduce_few (p0:api_Grid):Option Int:=
 (F_grid_Check p0).bind fun r9=>
 if r9 != 0 then
  some r9
 else
  if decide (8 < p0.W) then
   some 4
  else
   some 0
theorem c_reduce_few (E:Nat→Prop) (w0:World) (p0:api_Grid) (v0:Value) (r:Int) (h:F_reduce_few p0=some r) (S:St0 E [] w0 w0 [] [fRep r_api_Grid (v0) p0]) :
 Calls Try.prog 40 #[v0] w0 (Ret (X:=Unit) E [] w0 (fun _=>.int .i64 r) (fun _=>[]) (fun _=>[])):=by
 unfold F_reduce_few at h
 obtain ⟨u1,rfl,ac⟩:=S.know (i:=0) (e:=fRep r_api_Grid (v0) p0) y
 have S:=S.learn (fRep (rL rB) u1 p0.Bits) ac
 obtain ⟨a0,a2,_,rfl,_⟩:=ac
 refine sEnter (args:=[.agg #[iv p0.W,iv p0.H,.slice a0 p0.Bits.length a2]]) 12 Try.func40 y y (by simp) S (fun a S=>?_)
 refine sSeq (fun K5 ae=>sRegion (sBox (v:=.agg #[iv p0.W,iv p0.H,.slice a0 p0.Bits.length a2]) S (wN y) y y [iv p0.W,iv p0.H,.slice a0 p0.Bits.length a2] y y (lb y) fun a b6 w S=>sN S fun a S=>?_))
 refine lT (ae _ _ (sSeq (fun K7 af=>sSeq (fun K8 ag=>sRegion (sLoadN (p:=b6) (off:=0) (T:=24) (vs:=[iv p0.W,iv p0.H,.slice a0 p0.Bits.length a2]) 0 [iv p0.W,iv p0.H,.slice a0 p0.Bits.length a2] S (wN y) y y y y y y y (lb y) fun a S=>?_)))))
 obtain ⟨r9,a5,h⟩:=bS h
 have S1:=S.mem
 refine sCq [.agg #[iv p0.W,iv p0.H,.slice a0 p0.Bits.length a2]] (iv r9) S callee35 (S1.quiet [1] y) (fun E1 w1 S1=>c_grid_Check E1 w1 p0 (.agg #[iv p0.W,iv p0.H,.slice a0 p0.Bits.length a2]) r9 a5 S1) fun a w S=>?_
 refine sN S fun a S=>?_
 refine lT (ag _ _ (sSeq (fun ah a6=>sRegion (sM S fun a S=>?_))))
 refine sBin _ S (wN y) y y y (bNe _ _ _ _ .i64 r9 0) y (lb y) fun a S=>lT (a6 _ _ ?_)
 rcases iS h with ⟨a3,h⟩ | ⟨a3,h⟩
 ·refine sCondT S y a3 (sSeq (fun ai a7=>sRegion (sM S fun a S=>?_)))
  refine sN S fun a S=>?_
  refine lT (a7 _ _ ?_)
  obtain rfl:=tS h
  exact wp_ret (rThen (sRet (iv r9) S (rsl1 y (rvT (t:=2) (v:=iv r9) S y)) ⟨(),y,S.mem.sel [] [] (by decide) y y⟩))
 refine sCondF S y a3 (wp_skip (leafT (af _ _ ?_)))
 refine sSeq (fun aj a8=>sSeq (fun ak a9=>sRegion (sField (b:=b6) (off:=0) 0 0 S (wN y) y y y y y (lb y) fun a S=>sLoad1 0 (iv p0.W) S (wN y) y y y y y y (lb y) fun a S=>sBin _ S (wN y) y y y (bGt _ _ _ _ .i64 p0.W 8) y (lb y) fun a S=>lT (a9 _ _ ?_))))
 rcases iS h with ⟨a4,h⟩ | ⟨a4,h⟩
 ·refine sCondT S y a4 (sSeq (fun al aa=>sRegion (sN S fun a S=>?_)))
  refine lT (aa _ _ ?_)
  obtain rfl:=tS h
  exact wp_ret (rThen (sRet (iv 4) S (rsl1 y (rvT (t:=2) (v:=iv 4) S y)) ⟨(),y,S.mem.sel [] [] (by decide) y y⟩))
 refine sCondF S y a4 (wp_skip (leafT (a8 _ _ ?_)))
 refine sSeq (fun am ab=>sRegion (sN S fun a S=>?_))
 refine lT (ab _ _ ?_)
 obtain rfl:=tS h
 exact wp_ret (sRet (iv 0) S (rsl1 y (rvT (t:=2) (v:=iv 0) S y)) ⟨(),y,S.mem.sel [] [] (by decide) y y⟩)
noncomputable def reduce_Change_s1_l1 (a5:List Bool) (p1:(List Int)):(Int × List (Int × Int))→Option ((Int × List (Int × Int)) ⊕ List (Int × Int)):=fun s0=>match s0 with
 | (a0,a2)=>
  if decide (a0 < (a5.length:Int)) then
   Option.bind (α:=List (Int × Int)) (
    (idxO a5 a0).bind fun a8=>
    if a8 then
     (idxO p1 a0).bind fun a6=>
     (lkO a2 a6).bind fun a9=>
     (updM a2 a6 (w64 (a9 + 1))).bind fun aa=>
     some aa
    else
     (idxO p1 a0).bind fun a7=>
     (lkO a2 a7).bind fun a3=>
     (updM a2 a7 (w64 (a3 - 1))).bind fun a4=>
     some a4) fun ab=>
   some (.inl (w64 (a0 + 1),ab))
  else
   some (.inr a2)
noncomputable def reduce_Change_s1_l2 (aa:List Bool) (p1:(List Int)) (ab:List (Int × Int)):(Int × Int × List Bool)→Option ((Int × Int × List Bool) ⊕ (Int × List Bool)):=fun s0=>match s0 with
 | (a2,a0,a3)=>
  if decide (a0 < (aa.length:Int)) then
   Option.bind (α:=(Int × List Bool)) (
    (idxO aa a0).bind fun a6=>
    (idxO p1 a0).bind fun a7=>
    (lkO ab a7).bind fun a4=>
    (appO a3 [decide (0 < a4)]).bind fun a5=>
    if (decide (0 < a4)) != a6 then
     some (w64 (a2 + 1),a5)
    else
     some (a2,a5)) fun (a8,a9)=>
   some (.inl (a8,w64 (a0 + 1),a9))
  else
   some (.inr (a2,a3))
noncomputable def reduce_Change_s1_l3 (p0:api_Grid) (p1:(List Int)):(Int × Int × List Bool)→Option ((Int × Int × List Bool) ⊕ (Int × List Bool)):=fun s0=>match s0 with
 | (a4,a0,a5)=>
  if decide (a0 < p0.H) then
   Option.bind (α:=(Int × List Bool)) (
    (sliceO p0.Bits (w64 (a0 * p0.W)) (w64 ((w64 (a0 + 1)) * p0.W))).bind fun a6=>
    Option.bind (α:=List (Int × Int)) (
     (whileO (reduce_Change_s1_l1 a6 p1) (0,([]:List (Int × Int)))).bind fun a7=>
      some a7) fun a8=>
    (whileO (reduce_Change_s1_l2 a6 p1 a8) (a4,0,a5)).bind fun (a2,a3)=>
     some (a2,a3)) fun (a9,aa)=>
   some (.inl (a9,w64 (a0 + 1),aa))
  else
   some (.inr (a4,a5))
noncomputable def F_reduce_Change_s1 (p0:api_Grid) (p1:(List Int)):Option (api_Grid × Int × Int × (List Int)):=
 (F_grid_Check p0).bind fun a0=>
 if a0 != 0 then
  some ((api_Grid.mk 0 0 ([]:(List Bool))),0,a0,p1)
 else
  (F_thread_Check p1).bind fun a2=>
  if a2 != 0 then
   some ((api_Grid.mk 0 0 ([]:(List Bool))),0,a2,p1)
  else
   if (p1.length:Int) != p0.W then
    some ((api_Grid.mk 0 0 ([]:(List Bool))),0,26,p1)
   else
    Option.bind (α:=(Int × List Bool)) (
     (whileO (reduce_Change_s1_l3 p0 p1) (0,0,([]:List Bool))).bind fun (a3,a4)=>
      some (a3,a4)) fun (a5,a6)=>
    some ((api_Grid.mk p0.W p0.H a6),a5,0,p1)
theorem c_reduce_Change_s1 (E:Nat→Prop) (w0:World) (p0:api_Grid) (v0:Value) (p1:(List Int)) (ad_1:Option Addr) (cp_1:Nat) (r:(api_Grid × Int × Int × (List Int))) (h:F_reduce_Change_s1 p0 p1=some r) (S:St0 E (keysL [eRow (rI .i64) 3 (.slice ad_1 p1.length cp_1) p1]) w0 w0 [eRow (rI .i64) 3 (.slice ad_1 p1.length cp_1) p1] [fRep r_api_Grid (v0) p0]) :
 Calls Try.prog 12 #[v0,.slice ad_1 p1.length cp_1] w0 (Ret (X:=Option Addr × Nat) E (keysL [eRow (rI .i64) 3 (.slice ad_1 p1.length cp_1) p1]) w0 (fun x=>.tuple #[.agg #[iv r.1.W,iv r.1.H,.slice x.1 r.1.Bits.length x.2],iv r.2.1,iv r.2.2.1]) (fun x=>[eRow rB 4 (.slice x.1 r.1.Bits.length x.2) r.1.Bits,eRow (rI .i64) 3 (.slice ad_1 p1.length cp_1) r.2.2.2]) (fun _=>[])):=by
 unfold F_reduce_Change_s1 at h
 obtain ⟨u1,rfl,cq⟩:=S.know (i:=0) (e:=fRep r_api_Grid (v0) p0) y
 have S:=S.learn (fRep (rL rB) u1 p0.Bits) cq
 obtain ⟨a4,a5,_,rfl,_⟩:=cq
 refine sEnter (args:=[.agg #[iv p0.W,iv p0.H,.slice a4 p0.Bits.length a5],.slice ad_1 p1.length cp_1]) 111 Try.func12 y y (by simp) S (fun a S=>?_)
 refine sSeq (fun K5 cw=>sRegion (sBox (v:=.agg #[iv p0.W,iv p0.H,.slice a4 p0.Bits.length a5]) S (wN y) y y [iv p0.W,iv p0.H,.slice a4 p0.Bits.length a5] y y (lb y) fun a b6 w S=>sAlloc (.agg #[iv 0,iv 0,.slice none 0 0]) S (wN y) y y [iv 0,iv 0,.slice none 0 0] y y (lb y) fun a b7 w S=>sN S fun a S=>?_))
 refine sN S fun a S=>?_
 refine lT (cw _ _ (sSeq (fun K8 cx=>sSeq (fun K9 cy=>sRegion (sLoadN (p:=b6) (off:=0) (T:=24) (vs:=[iv p0.W,iv p0.H,.slice a4 p0.Bits.length a5]) 1 [iv p0.W,iv p0.H,.slice a4 p0.Bits.length a5] S (wN y) y y y y y y y (lb y) fun a S=>?_)))))
 obtain ⟨aT,bD,h⟩:=bS h
 have S1:=S.mem
 refine sCq [.agg #[iv p0.W,iv p0.H,.slice a4 p0.Bits.length a5]] (iv aT) S callee35 (S1.quiet [1] y) (fun E1 w1 S1=>c_grid_Check E1 w1 p0 (.agg #[iv p0.W,iv p0.H,.slice a4 p0.Bits.length a5]) aT bD S1) fun a w S=>?_
 refine sN S fun a S=>?_
 refine lT (cy _ _ (sSeq (fun cU bE=>sRegion (sM S fun a S=>?_))))
 refine sBin _ S (wN y) y y y (bNe _ _ _ _ .i64 aT 0) y (lb y) fun a S=>lT (bE _ _ ?_)
 rcases iS h with ⟨aH,h⟩ | ⟨aH,h⟩
 ·refine sCondT S y aH (sSeq (fun cV bG=>sRegion (sBuild [] [iv 0,iv 0,.slice none 0 0] S (wN y) y y y y (lb y) fun a S=>sM S fun a S=>?_)))
  refine sStore (p:=b7) (off:=0) (T:=24) (vs:=[iv 0,iv 0,.slice none 0 0]) (v:=.agg #[iv 0,iv 0,.slice none 0 0]) 0 [iv 0,iv 0,.slice none 0 0] S (wN y) y y y y y y y (by simp) y fun a w S=>sN S fun a S=>?_
  refine sN S fun a S=>?_
  refine lT (bG _ _ ?_)
  obtain rfl:=tS h
  have S:=S.nilRow rB 4 (α:=Bool)
  exact wp_ret (rThen (sRet (.tuple #[.agg #[iv 0,iv 0,.slice none 0 0],iv 0,iv aT]) S (rsl3 y (rvN (c:=4) (t:=24) (T:=24) (p:=b7) 1 [iv 0,iv 0,.slice none 0 0] S y y y y) (rvT (t:=5) (v:=iv 0) S y) (rvT (t:=6) (v:=iv aT) S y)) ⟨(none,0),y,S.mem.sel [0,3] [] (by decide) y y⟩))
 refine sCondF S y aH (wp_skip (leafT (cx _ _ ?_)))
 refine sSeq (fun cW bH=>sSeq (fun cX bI=>sRegion (sM S fun a S=>?_)))
 obtain ⟨aU,bJ,h⟩:=bS h
 have S1:=S.mem
 have S1:=S1.shutR (r:=(rI .i64)) (T:=3) (v:=.slice ad_1 p1.length cp_1) (xs:=p1) 2 y
 refine sCq [.slice ad_1 p1.length cp_1] (iv aU) S callee36 (S1.quiet [0] y) (fun E1 w1 S1=>c_thread_Check E1 w1 p1 (.slice ad_1 p1.length cp_1) aU bJ S1) fun a w S=>?_
 refine sN S fun a S=>?_
 refine lT (bI _ _ (sSeq (fun cY bK=>sRegion (sM S fun a S=>?_))))
 refine sBin _ S (wN y) y y y (bNe _ _ _ _ .i64 aU 0) y (lb y) fun a S=>lT (bK _ _ ?_)
 rcases iS h with ⟨aI,h⟩ | ⟨aI,h⟩
 ·refine sCondT S y aI (sSeq (fun cZ bL=>sRegion (sBuild [] [iv 0,iv 0,.slice none 0 0] S (wN y) y y y y (lb y) fun a S=>sM S fun a S=>?_)))
  refine sStore (p:=b7) (off:=0) (T:=24) (vs:=[iv 0,iv 0,.slice none 0 0]) (v:=.agg #[iv 0,iv 0,.slice none 0 0]) 0 [iv 0,iv 0,.slice none 0 0] S (wN y) y y y y y y y (by simp) y fun a w S=>sN S fun a S=>?_
  refine sN S fun a S=>?_
  refine lT (bL _ _ ?_)
  obtain rfl:=tS h
  have S:=S.nilRow rB 4 (α:=Bool)
  exact wp_ret (rThen (sRet (.tuple #[.agg #[iv 0,iv 0,.slice none 0 0],iv 0,iv aU]) S (rsl3 y (rvN (c:=4) (t:=24) (T:=24) (p:=b7) 1 [iv 0,iv 0,.slice none 0 0] S y y y y) (rvT (t:=5) (v:=iv 0) S y) (rvT (t:=6) (v:=iv aU) S y)) ⟨(none,0),y,S.mem.sel [0,3] [] (by decide) y y⟩))
 refine sCondF S y aI (wp_skip (leafT (bH _ _ ?_)))
 refine sSeq (fun d3 bM=>sSeq (fun d4 bN=>sRegion (sM S fun a S=>?_)))
 refine sLen S (wN y) y Try.underlying25 y y (lb y) fun a S=>sField (b:=b6) (off:=0) 0 0 S (wN y) y y y y y (lb y) fun a S=>sLoad1 1 (iv p0.W) S (wN y) y y y y y y (lb y) fun a S=>sBin _ S (wN y) y y y (bNe _ _ _ _ .i64 (p1.length:Int) p0.W) y (lb y) fun a S=>lT (bN _ _ ?_)
 rcases iS h with ⟨aJ,h⟩ | ⟨aJ,h⟩
 ·refine sCondT S y aJ (sSeq (fun d5 bO=>sRegion (sBuild [] [iv 0,iv 0,.slice none 0 0] S (wN y) y y y y (lb y) fun a S=>sStore (p:=b7) (off:=0) (T:=24) (vs:=[iv 0,iv 0,.slice none 0 0]) (v:=.agg #[iv 0,iv 0,.slice none 0 0]) 0 [iv 0,iv 0,.slice none 0 0] S (wN y) y y y y y y y (by simp) y fun a w S=>sN S fun a S=>?_)))
  refine sN S fun a S=>?_
  refine lT (bO _ _ ?_)
  obtain rfl:=tS h
  have S:=S.nilRow rB 4 (α:=Bool)
  exact wp_ret (rThen (sRet (.tuple #[.agg #[iv 0,iv 0,.slice none 0 0],iv 0,iv 26]) S (rsl3 y (rvN (c:=4) (t:=24) (T:=24) (p:=b7) 1 [iv 0,iv 0,.slice none 0 0] S y y y y) (rvT (t:=5) (v:=iv 0) S y) (rvT (t:=6) (v:=iv 26) S y)) ⟨(none,0),y,S.mem.sel [0,3] [] (by decide) y y⟩))
 refine sCondF S y aJ (wp_skip (leafT (bM _ _ ?_)))
 refine sSeq (fun d6 bP=>sRegion (sField (b:=b6) (off:=0) 0 0 S (wN y) y y y y y (lb y) fun a S=>sLoad1 1 (iv p0.W) S (wN y) y y y y y y (lb y) fun a S=>sField (b:=b6) (off:=0) 1 1 S (wN y) y y y y y (lb y) fun a S=>sLoad1 1 (iv p0.H) S (wN y) y y y y y y (lb y) fun a S=>sBuild [(0,iv p0.W),(1,iv p0.H)] [iv p0.W,iv p0.H,.slice none 0 0] S (wN y) y y y y (lb y) fun a S=>sAlloc (.agg #[iv 0,iv 0,.slice none 0 0]) S (wN y) y y [iv 0,iv 0,.slice none 0 0] y y (lb y) fun a aa w S=>sStore (p:=aa) (off:=0) (T:=24) (vs:=[iv 0,iv 0,.slice none 0 0]) (v:=.agg #[iv p0.W,iv p0.H,.slice none 0 0]) 0 [iv p0.W,iv p0.H,.slice none 0 0] S (wN y) y y y y y y y (by simp) y fun a w S=>lT (bP _ _ ?_)))
 obtain ⟨cz,h,cA⟩:=bS h
 refine sCut (fun a w=>∃ aV,∃ ar,(aV,ar)=cz∧∃ ab,∃ ac,St [] E (keysL [eRow (rI .i64) 3 (.slice ad_1 p1.length cp_1) p1]) w0 111 a w [(4,.pointer (some ⟨b7,0,none⟩)),(5,iv aV),(9,.pointer (some ⟨aa,0,none⟩))] [eBox b7 24 [iv 0,iv 0,.slice none 0 0],eBox aa 24 [iv p0.W,iv p0.H,.slice ab ar.length ac],eRow rB 4 (.slice ab ar.length ac) ar,eRow (rI .i64) 3 (.slice ad_1 p1.length cp_1) p1] []) ?_ (fun a w hI=>?_)
 rotate_left
 ·obtain ⟨aV,ar,rfl,ab,ac,S⟩:=hI
  have h:=cA
  try dsimp only at h
  refine sSeq (fun cB aW=>sRegion (sLoadN (p:=aa) (off:=0) (T:=24) (vs:=[iv p0.W,iv p0.H,.slice ab ar.length ac]) 1 [iv p0.W,iv p0.H,.slice ab ar.length ac] S (wN y) y y y y y y y (lb y) fun a S=>sM S fun a S=>?_))
  refine sStore (p:=b7) (off:=0) (T:=24) (vs:=[iv 0,iv 0,.slice none 0 0]) (v:=.agg #[iv p0.W,iv p0.H,.slice ab ar.length ac]) 0 [iv p0.W,iv p0.H,.slice ab ar.length ac] S (wN y) y y y y y y y (by simp) y fun a w S=>sN S fun a S=>?_
  refine sN S fun a S=>?_
  refine lT (aW _ _ ?_)
  obtain rfl:=tS h
  exact wp_ret (sRet (.tuple #[.agg #[iv p0.W,iv p0.H,.slice ab ar.length ac],iv aV,iv 0]) S (rsl3 y (rvN (c:=4) (t:=24) (T:=24) (p:=b7) 0 [iv p0.W,iv p0.H,.slice ab ar.length ac] S y y y y) (rvT (t:=5) (v:=iv aV) S y) (rvT (t:=6) (v:=iv 0) S y)) ⟨(ab,ac),y,S.mem.sel [2,3] [] (by decide) y y⟩)
 refine sSeq (fun d7 bQ=>sRegion (sField (b:=b6) (off:=0) 1 1 S (wN y) y y y y y (lb y) fun a S=>sLoad1 2 (iv p0.H) S (wN y) y y y y y y (lb y) fun a S=>sM S fun a S=>?_))
 refine lT (bQ _ _ (wp_block ?_))
 have S:=S.nilRow rB 4 (α:=Bool)
 obtain ⟨d8,hl,cC⟩:=bS h
 refine sLoop hl (fun s0 a w=>match s0 with | (aQ,ag,aj)=>∃ a6,∃ a7,St [] E (keysL [eRow (rI .i64) 3 (.slice ad_1 p1.length cp_1) p1]) w0 111 a w [(1,.slice ad_1 p1.length cp_1),(2,.pointer (some ⟨b6,0,none⟩)),(4,.pointer (some ⟨b7,0,none⟩)),(5,iv aQ),(9,.pointer (some ⟨aa,0,none⟩)),(42,iv p0.H),(43,iv ag)] [eBox b6 24 [iv p0.W,iv p0.H,.slice a4 p0.Bits.length a5],eBox b7 24 [iv 0,iv 0,.slice none 0 0],eBox aa 24 [iv p0.W,iv p0.H,.slice a6 aj.length a7],eRow (rI .i64) 3 (.slice ad_1 p1.length cp_1) p1,eRow rB 4 (.slice a6 aj.length a7) aj] [fRep (rL rB) (.slice a4 p0.Bits.length a5) p0.Bits]) ⟨none,0,S.fix [3,2,1,4,0] [0] (by decide) y y y⟩ ?_
 clear hl h
 intro s0 a w c0 hI h bR
 obtain ⟨aQ,ag,aj⟩:=s0
 unfold reduce_Change_s1_l3 at h
 dsimp only at h hI
 obtain ⟨a6,a7,S⟩:=hI
 refine sSeq (fun d9 bU=>sRegion (sBin _ S (wN y) y y y (bLt _ _ _ _ .i64 ag p0.H) y (lb y) fun a S=>lT (bU _ _ (sSeq (fun da bV=>?_)))))
 rcases iS h with ⟨aK,h⟩ | ⟨aK,h⟩
 rotate_left
 ·refine sCondF S y aK ?_
  obtain rfl:=tS h
  obtain rfl:=bR _ y
  have h:=cC
  try dsimp only at h
  exact wp_exit (xThen (xThen (xHit (leafT (⟨aQ,aj,Option.some.inj h,a6,a7,S.fix [1,2,4,3] [] (by decide) y y y⟩)))))
 refine sCondT S y aK (wp_skip (leafT (bV _ _ ?_)))
 obtain ⟨cD,h,cE⟩:=bS h
 refine sCut (fun a w=>∃ bx,∃ aR,(bx,aR)=cD∧∃ ay,∃ az,St [] E (keysL [eRow (rI .i64) 3 (.slice ad_1 p1.length cp_1) p1]) w0 111 a w [(1,.slice ad_1 p1.length cp_1),(2,.pointer (some ⟨b6,0,none⟩)),(4,.pointer (some ⟨b7,0,none⟩)),(5,iv bx),(9,.pointer (some ⟨aa,0,none⟩)),(42,iv p0.H),(43,iv ag)] [eBox b6 24 [iv p0.W,iv p0.H,.slice a4 p0.Bits.length a5],eBox b7 24 [iv 0,iv 0,.slice none 0 0],eBox aa 24 [iv p0.W,iv p0.H,.slice ay aR.length az],eRow (rI .i64) 3 (.slice ad_1 p1.length cp_1) p1,eRow rB 4 (.slice ay aR.length az) aR] [fRep (rL rB) (.slice a4 p0.Bits.length a5) p0.Bits]) ?_ (fun a w hI=>?_)
 rotate_left
 ·obtain ⟨bx,aR,rfl,ay,az,S⟩:=hI
  have h:=cE
  try dsimp only at h
  refine sRegion (sBin _ S (wN y) y y y (bAdd _ _ _ _ ag 1) y (lb y) fun a S=>sM S fun a S=>?_)
  exact lT (⟨(bx,w64 (ag + 1),aR),(Option.some.inj h).symm,⟨ay,az,S.fix [0,1,2,3,4] [0] (by decide) y y y⟩⟩)
 refine wp_block ?_
 refine sSeq (fun db bW=>sRegion (sM S fun a S=>?_))
 refine sN S fun a S=>?_
 refine lT (bW _ _ (sSeq (fun dc bX=>sRegion (sField (b:=b6) (off:=0) 2 2 S (wN y) y y y y y (lb y) fun a S=>sLoad1 0 (.slice a4 p0.Bits.length a5) S (wN y) y y y y y y (lb y) fun a S=>sM S fun a S=>?_))))
 refine sField (b:=b6) (off:=0) 0 0 S (wN y) y y y y y (lb y) fun a S=>sLoad1 0 (iv p0.W) S (wN y) y y y y y y (lb y) fun a S=>sBin _ S (wN y) y y y (bMul _ _ _ _ ag p0.W) y (lb y) fun a S=>sM S fun a S=>?_
 refine sBin _ S (wN y) y y y (bAdd _ _ _ _ ag 1) y (lb y) fun a S=>sField (b:=b6) (off:=0) 0 0 S (wN y) y y y y y (lb y) fun a S=>sLoad1 0 (iv p0.W) S (wN y) y y y y y y (lb y) fun a S=>sBin _ S (wN y) y y y (bMul _ _ _ _ (w64 (ag + 1)) p0.W) y (lb y) fun a S=>?_
 obtain ⟨a3,bY,h⟩:=bS h
 refine sSlice (r:=rB) (v:=.slice a4 p0.Bits.length a5) (xs:=p0.Bits) (vlo:=(some (.int .i64 (w64 (ag * p0.W))))) (vhi:=(some (.int .i64 (w64 ((w64 (ag + 1)) * p0.W))))) (lo':=w64 (ag * p0.W)) (hi':=w64 ((w64 (ag + 1)) * p0.W)) 0 S (wN y) y Try.underlying22 y y y y y (.inl y) (.inl y) bY y (lb y) fun a a0 a2 S=>?_
 refine sN S fun a S=>?_
 refine lT (bX _ _ (sSeq (fun de bZ=>sRegion (sMakeMap 3 S (wN y) y y (lb y) fun a ai w S=>?_))))
 refine sN S fun a S=>?_
 refine lT (bZ _ _ ?_)
 obtain ⟨cF,h,cG⟩:=bS h
 refine sCut (fun a w=>∃ aS,aS=cF∧St [] E (keysL [eRow (rI .i64) 3 (.slice ad_1 p1.length cp_1) p1]) w0 111 a w [(1,.slice ad_1 p1.length cp_1),(2,.pointer (some ⟨b6,0,none⟩)),(4,.pointer (some ⟨b7,0,none⟩)),(5,iv aQ),(9,.pointer (some ⟨aa,0,none⟩)),(11,.slice a0 a3.length a2),(12,.map (some ai)),(42,iv p0.H),(43,iv ag)] [eBox b6 24 [iv p0.W,iv p0.H,.slice a4 p0.Bits.length a5],eBox b7 24 [iv 0,iv 0,.slice none 0 0],eBox aa 24 [iv p0.W,iv p0.H,.slice a6 aj.length a7],eMap Try.prog 3 ai aS,eRow (rI .i64) 3 (.slice ad_1 p1.length cp_1) p1,eRow rB 4 (.slice a6 aj.length a7) aj] [fRep (rL rB) (.slice a0 a3.length a2) a3,fRep (rL rB) (.slice a4 p0.Bits.length a5) p0.Bits]) ?_ (fun a w hI=>?_)
 ·refine sSeq (fun df c7=>sRegion (sM S fun a S=>?_))
  refine sLen S (wN y) y Try.underlying22 y y (lb y) fun a S=>sM S fun a S=>?_
  refine lT (c7 _ _ (wp_block ?_))
  obtain ⟨dg,hl,cH⟩:=bS h
  refine sLoop hl (fun s0 a w=>match s0 with | (au,aL)=>St [] E (keysL [eRow (rI .i64) 3 (.slice ad_1 p1.length cp_1) p1]) w0 111 a w [(1,.slice ad_1 p1.length cp_1),(2,.pointer (some ⟨b6,0,none⟩)),(4,.pointer (some ⟨b7,0,none⟩)),(5,iv aQ),(9,.pointer (some ⟨aa,0,none⟩)),(11,.slice a0 a3.length a2),(12,.map (some ai)),(42,iv p0.H),(43,iv ag),(59,.slice a0 a3.length a2),(60,iv (a3.length:Int)),(61,iv au)] [eBox b6 24 [iv p0.W,iv p0.H,.slice a4 p0.Bits.length a5],eBox b7 24 [iv 0,iv 0,.slice none 0 0],eBox aa 24 [iv p0.W,iv p0.H,.slice a6 aj.length a7],eMap Try.prog 3 ai aL,eRow (rI .i64) 3 (.slice ad_1 p1.length cp_1) p1,eRow rB 4 (.slice a6 aj.length a7) aj] [fRep (rL rB) (.slice a0 a3.length a2) a3,fRep (rL rB) (.slice a4 p0.Bits.length a5) p0.Bits]) (S.fix [1,2,3,0,4,5] [0,1] (by decide) y y y) ?_
  clear hl h
  intro s0 a w c0 hI h c8
  obtain ⟨au,aL⟩:=s0
  unfold reduce_Change_s1_l1 at h
  dsimp only at h hI
  have S:=hI
  refine sSeq (fun dh c9=>sRegion (sBin _ S (wN y) y y y (bLt _ _ _ _ .i64 au (a3.length:Int)) y (lb y) fun a S=>lT (c9 _ _ (sSeq (fun di ca=>?_)))))
  rcases iS h with ⟨aM,h⟩ | ⟨aM,h⟩
  rotate_left
  ·refine sCondF S y aM ?_
   obtain rfl:=tS h
   obtain rfl:=c8 _ y
   have h:=cH
   try dsimp only at h
   exact wp_exit (xThen (xThen (xHit (leafT (⟨aL,Option.some.inj h,S.fix [0,1,2,3,4,5] [0,1] (by decide) y y y⟩)))))
  refine sCondT S y aM (wp_skip (leafT (ca _ _ ?_)))
  obtain ⟨cI,h,cJ⟩:=bS h
  refine sCut (fun a w=>∃ bz,bz=cI∧St [] E (keysL [eRow (rI .i64) 3 (.slice ad_1 p1.length cp_1) p1]) w0 111 a w [(1,.slice ad_1 p1.length cp_1),(2,.pointer (some ⟨b6,0,none⟩)),(4,.pointer (some ⟨b7,0,none⟩)),(5,iv aQ),(9,.pointer (some ⟨aa,0,none⟩)),(11,.slice a0 a3.length a2),(12,.map (some ai)),(42,iv p0.H),(43,iv ag),(59,.slice a0 a3.length a2),(60,iv (a3.length:Int)),(61,iv au)] [eBox b6 24 [iv p0.W,iv p0.H,.slice a4 p0.Bits.length a5],eBox b7 24 [iv 0,iv 0,.slice none 0 0],eBox aa 24 [iv p0.W,iv p0.H,.slice a6 aj.length a7],eMap Try.prog 3 ai bz,eRow (rI .i64) 3 (.slice ad_1 p1.length cp_1) p1,eRow rB 4 (.slice a6 aj.length a7) aj] [fRep (rL rB) (.slice a0 a3.length a2) a3,fRep (rL rB) (.slice a4 p0.Bits.length a5) p0.Bits]) ?_ (fun a w hI=>?_)
  rotate_left
  ·obtain ⟨bz,rfl,S⟩:=hI
   have h:=cJ
   try dsimp only at h
   refine sRegion (sBin _ S (wN y) y y y (bAdd _ _ _ _ au 1) y (lb y) fun a S=>sM S fun a S=>?_)
   exact lT (⟨(w64 (au + 1),bz),(Option.some.inj h).symm,(S.fix [0,1,2,3,4,5] [0,1] (by decide) y y y)⟩)
  refine wp_block ?_
  refine sSeq (fun dj cc=>sRegion (sM S fun a S=>?_))
  obtain ⟨bA,cd,h⟩:=bS h
  obtain ⟨cr,ce,S⟩:=pIdx (P:=Try.prog) (r:=rB) (v:=.slice a0 a3.length a2) (xs:=a3) (j:=au) 22 4 0 S Try.underlying22 y y cd
  refine sIdxV S (wN y) y y y ce y (lb y) fun a S=>?_
  obtain ⟨ct,S⟩:=pLoad (r:=rB) (q:=cr) (x:=bA) 0 S y
  obtain rfl:ct=.bool bA:=S.mem.know (i:=1) (e:=fRep rB (ct) bA) y
  refine sLoadV1 (vq:=cr) 0 (.bool bA) S (wN y) y y y y y (lb y) fun a S=>sN S fun a S=>?_
  refine sN S fun a S=>?_
  refine lT (cc _ _ (sSeq (fun dk cg=>sRegion (sM S fun a S=>?_))))
  refine lT (cg _ _ ?_)
  rcases iS h with ⟨aO,h⟩ | ⟨aO,h⟩
  ·refine sCondT S y aO (sRegion (sM S fun a S=>?_))
   refine sM S fun a S=>?_
   refine sM S fun a S=>?_
   obtain ⟨bB,aX,h⟩:=bS h
   obtain ⟨cK,ci,cj⟩:=pIdxR (P:=Try.prog) (r:=(rI .i64)) (T:=3) (v:=.slice ad_1 p1.length cp_1) (xs:=p1) (j:=au) 25 3 4 S Try.underlying25 y y aX
   refine sIdxV S (wN y) y y y ci y (lb y) fun a S=>sLoadR (r:=(rI .i64)) (T:=3) (xs:=p1) (x:=bB) (v:=.slice ad_1 p1.length cp_1) (vq:=cK) (j:=au) 4 (iv bB) S cj (wN y) y y y aX (fun _ _ _ h=>h) (scal_I _) y y (lb y) fun a S=>?_
   obtain ⟨cu,ck,h⟩:=bS h
   refine sLookup (K:=3) (b:=ai) (M:=aL) (key:=bB) 3 S y y Try.underlying65 Try.underlying3 y y y y ck y (lb y) fun a S=>?_
   refine sBin _ S (wN y) y y y (bAdd _ _ _ _ cu 1) y (lb y) fun a S=>?_
   obtain ⟨cv,cl,h⟩:=bS h
   refine sMapUpd (K:=3) (b:=ai) (M:=aL) (M':=cv) (key:=bB) (val:=w64 (cu + 1)) 3 S y y Try.underlying65 Try.underlying3 y y y y cl y fun a w S=>?_
   exact leafL (leafB (leafT (⟨cv,Option.some.inj h,S.fix [1,2,3,0,4,5] [3,4] (by decide) y y y⟩)))
  refine sCondF S y aO (sRegion (sM S fun a S=>?_))
  refine sM S fun a S=>?_
  refine sM S fun a S=>?_
  obtain ⟨bC,aZ,h⟩:=bS h
  obtain ⟨cL,b1,b3⟩:=pIdxR (P:=Try.prog) (r:=(rI .i64)) (T:=3) (v:=.slice ad_1 p1.length cp_1) (xs:=p1) (j:=au) 25 3 4 S Try.underlying25 y y aZ
  refine sIdxV S (wN y) y y y b1 y (lb y) fun a S=>sLoadR (r:=(rI .i64)) (T:=3) (xs:=p1) (x:=bC) (v:=.slice ad_1 p1.length cp_1) (vq:=cL) (j:=au) 4 (iv bC) S b3 (wN y) y y y aZ (fun _ _ _ h=>h) (scal_I _) y y (lb y) fun a S=>?_
  obtain ⟨b4,b5,h⟩:=bS h
  refine sLookup (K:=3) (b:=ai) (M:=aL) (key:=bC) 3 S y y Try.underlying65 Try.underlying3 y y y y b5 y (lb y) fun a S=>?_
  refine sBin _ S (wN y) y y y (bSub _ _ _ _ b4 1) y (lb y) fun a S=>?_
  obtain ⟨ba,bb,h⟩:=bS h
  refine sMapUpd (K:=3) (b:=ai) (M:=aL) (M':=ba) (key:=bC) (val:=w64 (b4 - 1)) 3 S y y Try.underlying65 Try.underlying3 y y y y bb y fun a w S=>?_
  exact leafL (leafB (leafT (⟨ba,Option.some.inj h,S.fix [1,2,3,0,4,5] [3,4] (by decide) y y y⟩)))
 obtain ⟨aS,rfl,S⟩:=hI
 have h:=cG
 try dsimp only at h
 refine sSeq (fun cM bc=>sRegion (sM S fun a S=>?_))
 refine sLen S (wN y) y Try.underlying22 y y (lb y) fun a S=>sM S fun a S=>?_
 refine lT (bc _ _ (wp_block ?_))
 obtain ⟨cN,hl,cm⟩:=bS h
 refine sLoop hl (fun s0 a w=>match s0 with | (ap,ae,af)=>∃ a8,∃ a9,St [] E (keysL [eRow (rI .i64) 3 (.slice ad_1 p1.length cp_1) p1]) w0 111 a w [(1,.slice ad_1 p1.length cp_1),(2,.pointer (some ⟨b6,0,none⟩)),(4,.pointer (some ⟨b7,0,none⟩)),(5,iv ap),(9,.pointer (some ⟨aa,0,none⟩)),(12,.map (some ai)),(42,iv p0.H),(43,iv ag),(82,.slice a0 a3.length a2),(83,iv (a3.length:Int)),(84,iv ae)] [eBox b6 24 [iv p0.W,iv p0.H,.slice a4 p0.Bits.length a5],eBox b7 24 [iv 0,iv 0,.slice none 0 0],eBox aa 24 [iv p0.W,iv p0.H,.slice a8 af.length a9],eMap Try.prog 3 ai aS,eRow (rI .i64) 3 (.slice ad_1 p1.length cp_1) p1,eRow rB 4 (.slice a8 af.length a9) af] [fRep (rL rB) (.slice a0 a3.length a2) a3,fRep (rL rB) (.slice a4 p0.Bits.length a5) p0.Bits]) ⟨a6,a7,S.fix [0,1,2,3,4,5] [0,1] (by decide) y y y⟩ ?_
 clear hl h
 intro s0 a w c0 hI h bf
 obtain ⟨ap,ae,af⟩:=s0
 unfold reduce_Change_s1_l2 at h
 dsimp only at h hI
 obtain ⟨a8,a9,S⟩:=hI
 refine sSeq (fun cO bg=>sRegion (sBin _ S (wN y) y y y (bLt _ _ _ _ .i64 ae (a3.length:Int)) y (lb y) fun a S=>lT (bg _ _ (sSeq (fun cP bh=>?_)))))
 rcases iS h with ⟨av,h⟩ | ⟨av,h⟩
 rotate_left
 ·refine sCondF S y av ?_
  obtain rfl:=tS h
  obtain rfl:=bf _ y
  have h:=cm
  try dsimp only at h
  exact wp_exit (xThen (xThen (xHit (leafB (leafT (⟨ap,af,Option.some.inj h,a8,a9,S.fix [0,1,2,4,5] [1] (by decide) y y y⟩))))))
 refine sCondT S y av (wp_skip (leafT (bh _ _ ?_)))
 obtain ⟨cn,h,co⟩:=bS h
 refine sCut (fun a w=>∃ aA,∃ aq,(aA,aq)=cn∧∃ ak,∃ al,St [] E (keysL [eRow (rI .i64) 3 (.slice ad_1 p1.length cp_1) p1]) w0 111 a w [(1,.slice ad_1 p1.length cp_1),(2,.pointer (some ⟨b6,0,none⟩)),(4,.pointer (some ⟨b7,0,none⟩)),(5,iv aA),(9,.pointer (some ⟨aa,0,none⟩)),(12,.map (some ai)),(42,iv p0.H),(43,iv ag),(82,.slice a0 a3.length a2),(83,iv (a3.length:Int)),(84,iv ae)] [eBox b6 24 [iv p0.W,iv p0.H,.slice a4 p0.Bits.length a5],eBox b7 24 [iv 0,iv 0,.slice none 0 0],eBox aa 24 [iv p0.W,iv p0.H,.slice ak aq.length al],eMap Try.prog 3 ai aS,eRow (rI .i64) 3 (.slice ad_1 p1.length cp_1) p1,eRow rB 4 (.slice ak aq.length al) aq] [fRep (rL rB) (.slice a0 a3.length a2) a3,fRep (rL rB) (.slice a4 p0.Bits.length a5) p0.Bits]) ?_ (fun a w hI=>?_)
 rotate_left
 ·obtain ⟨aA,aq,rfl,ak,al,S⟩:=hI
  have h:=co
  try dsimp only at h
  refine sRegion (sBin _ S (wN y) y y y (bAdd _ _ _ _ ae 1) y (lb y) fun a S=>sM S fun a S=>?_)
  exact lT (⟨(aA,w64 (ae + 1),aq),(Option.some.inj h).symm,⟨ak,al,S.fix [0,1,2,3,4,5] [0,1] (by decide) y y y⟩⟩)
 refine wp_block ?_
 refine sSeq (fun cQ bi=>sRegion (sM S fun a S=>?_))
 obtain ⟨aw,bj,h⟩:=bS h
 obtain ⟨bk,bl,S⟩:=pIdx (P:=Try.prog) (r:=rB) (v:=.slice a0 a3.length a2) (xs:=a3) (j:=ae) 22 4 0 S Try.underlying22 y y bj
 refine sIdxV S (wN y) y y y bl y (lb y) fun a S=>?_
 obtain ⟨bm,S⟩:=pLoad (r:=rB) (q:=bk) (x:=aw) 0 S y
 obtain rfl:bm=.bool aw:=S.mem.know (i:=1) (e:=fRep rB (bm) aw) y
 refine sLoadV1 (vq:=bk) 0 (.bool aw) S (wN y) y y y y y (lb y) fun a S=>sN S fun a S=>?_
 refine sN S fun a S=>?_
 refine lT (bi _ _ (sSeq (fun cR bn=>sRegion (sM S fun a S=>?_))))
 refine sM S fun a S=>?_
 refine sM S fun a S=>?_
 obtain ⟨aP,aG,h⟩:=bS h
 obtain ⟨cp,bo,bp⟩:=pIdxR (P:=Try.prog) (r:=(rI .i64)) (T:=3) (v:=.slice ad_1 p1.length cp_1) (xs:=p1) (j:=ae) 25 3 4 S Try.underlying25 y y aG
 refine sIdxV S (wN y) y y y bo y (lb y) fun a S=>sLoadR (r:=(rI .i64)) (T:=3) (xs:=p1) (x:=aP) (v:=.slice ad_1 p1.length cp_1) (vq:=cp) (j:=ae) 4 (iv aP) S bp (wN y) y y y aG (fun _ _ _ h=>h) (scal_I _) y y (lb y) fun a S=>?_
 obtain ⟨ah,bq,h⟩:=bS h
 refine sLookup (K:=3) (b:=ai) (M:=aS) (key:=aP) 3 S y y Try.underlying65 Try.underlying3 y y y y bq y (lb y) fun a S=>?_
 refine sBin _ S (wN y) y y y (bGt _ _ _ _ .i64 ah 0) y (lb y) fun a S=>sN S fun a S=>?_
 refine lT (bn _ _ (sSeq (fun cS br=>sRegion (sField (b:=aa) (off:=0) 2 2 S (wN y) y y y y y (lb y) fun a S=>sLoad1 2 (.slice a8 af.length a9) S (wN y) y y y y y y (lb y) fun a S=>sM S fun a S=>?_))))
 refine sLit (r:=rB) (T:=4) (xs:=[decide (0 < ah)]) [(0,.bool (decide (0 < ah)))] 1 [.bool (decide (0 < ah))] [.bool (decide (0 < ah))] (.bool false) 1 S (wN y) y y Try.underlying22 y (by decide) (by decide) (by kernel_rfl) y (fun E1 w1 hE=>All.cons y (All.nil _ _ _)) y y (lb y) fun a w bt bu S=>?_
 obtain ⟨aC,bv,h⟩:=bS h
 refine sApp (r:=rB) (T:=4) (xs:=af) (ys:=[decide (0 < ah)]) (v:=.slice a8 af.length a9) (u:=.slice bt [decide (0 < ah)].length bu) 6 (.bool false) 1 S (wN y) y Try.underlying22 y y (by decide) y y y (src_R (T:=4) 0 S.mem y) bv y (lb y) fun a w am ao S=>sField (b:=aa) (off:=0) 2 2 S (wN y) y y y y y (lb y) fun a S=>sStore (p:=aa) (off:=2) (T:=24) (vs:=[iv p0.W,iv p0.H,.slice a8 af.length a9]) (v:=.slice am aC.length ao) 4 [.slice am aC.length ao] S (wN y) y y y y y y y (by simp) y fun a w S=>lT (br _ _ (sSeq (fun cT bw=>sRegion (sM S fun a S=>?_))))
 refine sM S fun a S=>?_
 refine sBin _ S (wN y) y y y (bNeB _ _ _ _ Try.underlying4 (decide (0 < ah)) aw) y (lb y) fun a S=>lT (bw _ _ ?_)
 rcases iS h with ⟨ax,h⟩ | ⟨ax,h⟩
 rotate_left
 ·refine sCondF S y ax ?_
  exact wp_skip (leafB (leafT (⟨ap,aC,Option.some.inj h,am,ao,S.fix [3,4,0,5,6,1] [3,4] (by decide) y y y⟩)))
 refine sCondT S y ax (sRegion (sM S fun a S=>?_))
 refine sBin _ S (wN y) y y y (bAdd _ _ _ _ ap 1) y (lb y) fun a S=>sN S fun a S=>?_
 exact leafL (leafB (leafT (⟨w64 (ap + 1),aC,Option.some.inj h,am,ao,S.fix [3,4,0,5,6,1] [3,4] (by decide) y y y⟩)))
noncomputable def F_slices_Clone___int_int__s1 (p0:(List Int)):Option ((List Int) × (List Int)):=
 (appO ([]:List Int) p0).bind fun a0=>
 some (a0,p0)
theorem c_slices_Clone___int_int__s1 (E:Nat→Prop) (w0:World) (p0:(List Int)) (ad_0:Option Addr) (cp_0:Nat) (r:((List Int) × (List Int))) (h:F_slices_Clone___int_int__s1 p0=some r) (S:St0 E (keysL [eRow (rI .i64) 3 (.slice ad_0 p0.length cp_0) p0]) w0 w0 [eRow (rI .i64) 3 (.slice ad_0 p0.length cp_0) p0] []) :
 Calls Try.prog 49 #[.slice ad_0 p0.length cp_0] w0 (Ret (X:=Option Addr × Nat) E (keysL [eRow (rI .i64) 3 (.slice ad_0 p0.length cp_0) p0]) w0 (fun x=>.slice x.1 r.1.length x.2) (fun x=>[eRow (rI .i64) 3 (.slice x.1 r.1.length x.2) r.1,eRow (rI .i64) 3 (.slice ad_0 p0.length cp_0) r.2]) (fun _=>[])):=by
 unfold F_slices_Clone___int_int__s1 at h
 refine sEnter (args:=[.slice ad_0 p0.length cp_0]) 8 Try.func49 y y (by simp) S (fun a S=>?_)
 refine sSeq (fun K1 a6=>sRegion (sN S fun a S=>?_))
 refine lT (a6 _ _ (sSeq (fun K2 a7=>sSeq (fun K3 a8=>sRegion (sM S fun a S=>?_)))))
 refine sBin _ S (wN y) y y y (bEqNil _ _ _ _ Try.underlying25 ad_0 (p0.length) (cp_0)) y (lb y) fun a S=>lT (a8 _ _ ?_)
 rcases nil_cases ad_0 with a3 | a3
 ·have a9:=eRow_isNil (S.mem.at (i:=0) (e:=eRow (rI .i64) 3 (.slice ad_0 p0.length cp_0) p0) y) a3
  have h:some (([]:(List Int)),p0)=some r:=by rw [a9] at h ⊢; exact h
  refine sCondT S y a3 (sSeq (fun K6 aa=>sRegion (sN S fun a S=>?_)))
  refine lT (aa _ _ ?_)
  obtain rfl:=tS h
  have S:=S.nilRow (rI .i64) 3 (α:=Int)
  exact wp_ret (rThen (sRet (.slice none 0 0) S (rsl1 y (rvT (t:=2) (v:=.slice none 0 0) S y)) ⟨(none,0),y,S.mem.sel [0,1] [] (by decide) y y⟩))
 refine sCondF S y a3 (wp_skip (leafT (a7 _ _ ?_)))
 refine sSeq (fun K7 ab=>sRegion (sLit0 (α:=Int) (rI .i64) (T:=3) S (wN y) y Try.underlying25 y y (lb y) fun a w ac ae S=>sM S fun a S=>?_))
 obtain ⟨a5,a4,h⟩:=bS h
 refine sApp (r:=(rI .i64)) (T:=3) (xs:=([]:List Int)) (ys:=p0) (v:=.slice ac ([]:List Int).length ae) (u:=.slice ad_0 p0.length cp_0) 0 (iv 0) 8 S (wN y) y Try.underlying25 y y (by decide) y y y (src_R (T:=3) 1 S.mem y) a4 y (lb y) fun a w a0 a2 S=>sN S fun a S=>?_
 refine lT (ab _ _ ?_)
 obtain rfl:=tS h
 exact wp_ret (sRet (.slice a0 a5.length a2) S (rsl1 y (rvT (t:=2) (v:=.slice a0 a5.length a2) S y)) ⟨(a0,a2),y,S.mem.sel [0,1] [] (by decide) y y⟩)
def anc_reduce_search_from_s10_0:List (List Nat):=[[],[0],[0,1],[0,1,2],[0,1,2,3],[],[5],[5,6],[5,6,7],[5,6,7,8],[0,1,2,3,4,5,6,7,8,9]]
def anc_reduce_search_from_s10_1:List (List Nat):=[[],[0],[0,1],[0,1,2],[],[4],[4,5],[4,5,6],[0,1,2,3,4,5,6,7],[0,1,2,3,4,5,6,7,8],[0,1,2,3,4,5,6,7,8,9],[0,1,2,3,4,5,6,7,8,9],[0,1,2,3,4,5,6,7,8,9],[],[0,1,2,3,4,5,6,7,8,9,10,13],[0,1,2,3,4,5,6,7,8,9,10,11,13,14],[0,1,2,3,4,5,6,7,8,9,10,11,12,13,14,15]]
noncomputable def reduce_search_from_s10_l1 (p0:reduce_search) (p1:Int):Unit→Option (Unit ⊕ Unit):=fun s0=>match s0 with
 | _=>
  if decide (0 < (if p0.k < (w64 (p1 + 1)) then p0.k else w64 (p1 + 1))) then
   (appO p0.l ([0]:List Int)).bind fun a0=>
   none
  else
   some (.inr ())
noncomputable def F_reduce_search_from_s10 (p0:reduce_search) (p1:Int):Option reduce_search:=
 if (p0.l.length:Int) == p0.g.W then
  Option.bind (α:=(List Int × List Int × Int)) (
   Option.bind (α:=(Int × List Int)) (
    (F_reduce_Change_s1 p0.g p0.l).bind fun a2=>
    some (a2.2.1,a2.2.2.2)) fun (a3,a4)=>
   Option.bind (α:=Bool) (
    if p0.best.isEmpty then
     some true
    else
     some (decide (a3 < p0.least))) fun a5=>
   if a5 then
    (F_slices_Clone___int_int__s1 a4).bind fun a0=>
    (neO a0.1).bind fun a8=>
    some (a0.2,a0.1,a3)
   else
    some (a4,p0.best,p0.least)) fun (o8,a6,a7)=>
  some (reduce_search.mk p0.g p0.k o8 a6 a7)
 else
  (whileO (reduce_search_from_s10_l1 p0 p1) ()).bind fun _=>
   some p0
theorem c_reduce_search_from_s10 (E:Nat→Prop) (w0:World) (p0:reduce_search) (bb0:Nat) (u_0_0:Value) (ad_0_1:Option Addr) (cp_0_1:Nat) (u_0_2:Value) (p1:Int) (r:reduce_search) (h:F_reduce_search_from_s10 p0 p1=some r) (S:St0 E (keysL [eBox bb0 68 [iv p0.g.W,iv p0.g.H,u_0_0,iv p0.k,.slice ad_0_1 p0.l.length cp_0_1,u_0_2,iv p0.least],eRow (rI .i64) 3 (.slice ad_0_1 p0.l.length cp_0_1) p0.l]) w0 w0 [eBox bb0 68 [iv p0.g.W,iv p0.g.H,u_0_0,iv p0.k,.slice ad_0_1 p0.l.length cp_0_1,u_0_2,iv p0.least],eRow (rI .i64) 3 (.slice ad_0_1 p0.l.length cp_0_1) p0.l] [fRep (rL rB) (u_0_0) p0.g.Bits,fRep (rLz (rI .i64)) (u_0_2) p0.best]) :
 Calls Try.prog 41 #[.pointer (some ⟨bb0,0,none⟩),iv p1] w0 (Ret (X:=Option Addr × Nat × Value) E (keysL [eBox bb0 68 [iv p0.g.W,iv p0.g.H,u_0_0,iv p0.k,.slice ad_0_1 p0.l.length cp_0_1,u_0_2,iv p0.least],eRow (rI .i64) 3 (.slice ad_0_1 p0.l.length cp_0_1) p0.l]) w0 (fun _=>.tuple #[]) (fun x=>[eBox bb0 68 [iv r.g.W,iv r.g.H,u_0_0,iv r.k,.slice x.1 r.l.length x.2.1,x.2.2,iv r.least],eRow (rI .i64) 3 (.slice x.1 r.l.length x.2.1) r.l]) (fun x=>[fRep (rLz (rI .i64)) x.2.2 r.best])):=by
 unfold F_reduce_search_from_s10 at h
 obtain ⟨a6,a7,_,rfl,_⟩:=S.know (i:=0) (e:=fRep (rL rB) (u_0_0) p0.g.Bits) y
 obtain ⟨⟨ab,ac,_,rfl,_⟩,_⟩:=S.know (i:=1) (e:=fRep (rLz (rI .i64)) (u_0_2) p0.best) y
 generalize (keysL [eBox bb0 68 [iv p0.g.W,iv p0.g.H,.slice a6 p0.g.Bits.length a7,iv p0.k,.slice ad_0_1 p0.l.length cp_0_1,.slice ab p0.best.length ac,iv p0.least],eRow (rI .i64) 3 (.slice ad_0_1 p0.l.length cp_0_1) p0.l])=M9 at S ⊢
 refine sEnter (args:=[.pointer (some ⟨bb0,0,none⟩),iv p1]) 98 Try.func41 y y (by simp) S (fun a S=>?_)
 refine sSeq (fun K5 aX=>sSeq (fun K6 aZ=>sDraw (nf:=[]) (W:=[(0,8,.pointer (some ⟨bb0,0,none⟩)),(1,9,.pointer (some ⟨bb0,0,none⟩)),(2,10,.pointer (some ⟨bb0,4,none⟩)),(3,11,.slice ad_0_1 p0.l.length cp_0_1),(4,12,iv (p0.l.length:Int)),(5,13,.pointer (some ⟨bb0,0,none⟩)),(6,14,.pointer (some ⟨bb0,0,none⟩)),(7,15,.pointer (some ⟨bb0,0,none⟩)),(8,16,.pointer (some ⟨bb0,0,none⟩)),(9,17,iv p0.g.W),(10,18,.bool ((p0.l.length:Int) == p0.g.W))]) y S ?_))
 refine node_by (A:=anc_reduce_search_from_s10_0) 11 (by kernel_rfl) (by kernel_rfl) (by kernel_rfl) (by kernel_rfl) (by kernel_rfl) [0,1,2,3,4,5,6,7,8,9,10] (by kernel_rfl) (by decide) (by decide) (fF ?_ (fF ?_ (fF ?_ (fF ?_ (fF ?_ (fF ?_ (fF ?_ (fF ?_ (fF ?_ (fF ?_ (fF ?_ (trivial)))))))))))) [(0,.pointer (some ⟨bb0,0,none⟩)),(1,iv p1),(18,.bool ((p0.l.length:Int) == p0.g.W))] (fin_of [none,none,some 10] y (by kernel_rfl) (by kernel_rfl)) (fun _ a w S=>?_)
 ·exact fM 0 none y y y y (.inl y) y y y
 ·refine fJ [(8,_)] 1 [some 0] fun G a w S=>?_
  exact nilCheck_ok (q:=⟨bb0,0,none⟩) S (wN y) y y y (lb y) fun a S=>leafL ⟨y,S⟩
 ·refine fJ [(9,_)] 2 [some 1] fun G a w S=>?_
  exact sField (b:=bb0) (off:=0) 4 4 S (wN y) y y y y y (lb y) fun a S=>leafL ⟨y,S⟩
 ·refine fJ [(10,_)] 3 [some 2] fun G a w S=>?_
  exact sLoad1 0 (.slice ad_0_1 p0.l.length cp_0_1) S (wN y) y y y y y y (lb y) fun a S=>leafL ⟨y,S⟩
 ·refine fJ [(11,_)] 4 [some 3] fun G a w S=>?_
  exact sLen S (wN y) y Try.underlying25 y y (lb y) fun a S=>leafL ⟨y,S⟩
 ·exact fM 5 none y y y y (.inl y) y y y
 ·refine fJ [(13,_)] 6 [some 5] fun G a w S=>?_
  exact nilCheck_ok (q:=⟨bb0,0,none⟩) S (wN y) y y y (lb y) fun a S=>leafL ⟨y,S⟩
 ·refine fJ [(14,_)] 7 [some 6] fun G a w S=>?_
  exact sField (b:=bb0) (off:=0) 0 0 S (wN y) y y y y y (lb y) fun a S=>leafL ⟨y,S⟩
 ·refine fJ [(15,_)] 8 [some 7] fun G a w S=>?_
  exact sField (b:=bb0) (off:=0) 0 0 S (wN y) y y y y y (lb y) fun a S=>leafL ⟨y,S⟩
 ·refine fJ [(16,_)] 9 [some 8] fun G a w S=>?_
  exact sLoad1 0 (iv p0.g.W) S (wN y) y y y y y y (lb y) fun a S=>leafL ⟨y,S⟩
 ·refine fJ [(12,_),(17,_)] 10 [some 4,some 9] fun G a w S=>?_
  exact sBin _ S (wN y) y y y (bEq _ _ _ _ .i64 (p0.l.length:Int) p0.g.W) y (lb y) fun a S=>leafL ⟨y,S⟩
 refine leafT (aZ _ _ ?_)
 rcases iS h with ⟨az,h⟩ | ⟨az,h⟩
 rotate_left
 ·refine sCondF S y az (wp_skip (leafT (aX _ _ ?_)))
  refine sSeq (fun bh aA=>sRegion (sM S fun a S=>?_))
  refine sBin _ S (wN y) y y y (bAdd _ _ _ _ p1 1) y (lb y) fun a S=>sM S fun a S=>?_
  refine nilCheck_ok (q:=⟨bb0,0,none⟩) S (wN y) y y y (lb y) fun a S=>sField (b:=bb0) (off:=0) 3 3 S (wN y) y y y y y (lb y) fun a S=>sLoad1 0 (iv p0.k) S (wN y) y y y y y y (lb y) fun a S=>sMin2 (p:=w64 (p1 + 1)) (q:=p0.k) S (wN y) y y y y (lb y) fun a S=>sM S fun a S=>?_
  refine lT (aA _ _ (wp_block ?_))
  obtain ⟨bi,hl,b1⟩:=bS h
  refine sLoop hl (fun s0 a w=>match s0 with | _=>∃ ag,∃ ah,St [] E M9 w0 98 a w [(0,.pointer (some ⟨bb0,0,none⟩)),(1,iv p1),(63,iv (if p0.k < (w64 (p1 + 1)) then p0.k else w64 (p1 + 1))),(64,iv 0)] [eBox bb0 68 [iv p0.g.W,iv p0.g.H,.slice a6 p0.g.Bits.length a7,iv p0.k,.slice ag p0.l.length ah,.slice ab p0.best.length ac,iv p0.least],eRow (rI .i64) 3 (.slice ag p0.l.length ah) p0.l] [fRep (rL rB) (.slice a6 p0.g.Bits.length a7) p0.g.Bits,fRep (rLz (rI .i64)) (.slice ab p0.best.length ac) p0.best]) ⟨ad_0_1,cp_0_1,S.fix [0,1] [0,1] (by decide) y y y⟩ ?_
  clear hl h
  intro s0 a w c0 hI h aC
  unfold reduce_search_from_s10_l1 at h
  dsimp only at h hI
  obtain ⟨ag,ah,S⟩:=hI
  refine sSeq (fun bj aG=>sRegion (sBin _ S (wN y) y y y (bLt _ _ _ _ .i64 0 (if p0.k < (w64 (p1 + 1)) then p0.k else w64 (p1 + 1))) y (lb y) fun a S=>lT (aG _ _ (sSeq (fun bk aH=>?_)))))
  rcases iS h with ⟨ap,h⟩ | ⟨ap,h⟩
  rotate_left
  ·refine sCondF S y ap ?_
   obtain rfl:=tS h
   obtain rfl:=aC _ y
   have h:=b1
   try dsimp only at h
   obtain rfl:=tS h
   exact wp_exit (xThen (xThen (xHit (sEnd (.tuple #[]) S (rsl0 y ) ⟨(ag,ah,(.slice ab p0.best.length ac)),y,S.mem.sel [0,1] [1] (by decide) y y⟩))))
  refine sCondT S y ap (wp_skip (leafT (aH _ _ ?_)))
  refine sSeq (fun bl b3=>wp_block ?_)
  refine sSeq (fun bm aI=>sRegion (sM S fun a S=>?_))
  refine sN S fun a S=>?_
  refine lT (aI _ _ (sSeq (fun bn aJ=>sRegion (sM S fun a S=>?_))))
  refine sM S fun a S=>?_
  refine nilCheck_ok (q:=⟨bb0,0,none⟩) S (wN y) y y y (lb y) fun a S=>sField (b:=bb0) (off:=0) 4 4 S (wN y) y y y y y (lb y) fun a S=>sLoad1 0 (.slice ag p0.l.length ah) S (wN y) y y y y y y (lb y) fun a S=>sM S fun a S=>?_
  refine sLit (r:=(rI .i64)) (T:=3) (xs:=([0]:List Int)) [(0,iv 0)] 1 [iv 0] [iv 0] (iv 0) 8 S (wN y) y y Try.underlying25 y (by decide) (by decide) (by kernel_rfl) y (fun E1 w1 hE=>All.cons y (All.nil _ _ _)) y y (lb y) fun a w aK aL S=>?_
  obtain ⟨aW,aM,h⟩:=bS h
  refine sApp (r:=(rI .i64)) (T:=3) (xs:=p0.l) (ys:=([0]:List Int)) (v:=.slice ag p0.l.length ah) (u:=.slice aK ([0]:List Int).length aL) 2 (iv 0) 8 S (wN y) y Try.underlying25 y y (by decide) y y y (src_R (T:=3) 0 S.mem y) aM y (lb y) fun a w au av S=>nilCheck_ok (q:=⟨bb0,0,none⟩) S (wN y) y y y (lb y) fun a S=>sField (b:=bb0) (off:=0) 4 4 S (wN y) y y y y y (lb y) fun a S=>sStore (p:=bb0) (off:=4) (T:=68) (vs:=[iv p0.g.W,iv p0.g.H,.slice a6 p0.g.Bits.length a7,iv p0.k,.slice ag p0.l.length ah,.slice ab p0.best.length ac,iv p0.least]) (v:=.slice au aW.length av) 2 [.slice au aW.length av] S (wN y) y y y y y y y (by simp) y fun a w S=>lT (aJ _ _ (sSeq (fun bo b4=>sRegion (sM S fun a S=>?_))))
  refine sM S fun a S=>?_
  refine sM S fun a S=>?_
  refine sBin _ S (wN y) y y y (bAdd _ _ _ _ 0 1) y (lb y) fun a S=>sMax2 (p:=p1) (q:=w64 ((0:Int) + 1)) S (wN y) y y y y (lb y) fun a S=>?_
  cases h
 refine sCondT S y az ?_
 obtain ⟨b5,h,ba⟩:=bS h
 refine sCut (fun a w=>∃ o8,∃ ar,∃ aO,(o8,ar,aO)=b5∧∃ ax,∃ al,∃ am,∃ ao,St [] E M9 w0 98 a w [] [eBox bb0 68 [iv p0.g.W,iv p0.g.H,.slice a6 p0.g.Bits.length a7,iv p0.k,.slice ax o8.length al,.slice am ar.length ao,iv aO],eRow (rI .i64) 3 (.slice ax o8.length al) o8] [fRep (rL rB) (.slice a6 p0.g.Bits.length a7) p0.g.Bits,fRep (rLz (rI .i64)) (.slice am ar.length ao) ar]) ?_ (fun a w hI=>?_)
 rotate_left
 ·obtain ⟨o8,ar,aO,rfl,ax,al,am,ao,S⟩:=hI
  have h:=ba
  try dsimp only at h
  obtain rfl:=tS h
  exact wp_ret (rThen (sRet (.tuple #[]) S (rsl0 y ) ⟨(ax,al,(.slice am ar.length ao)),y,S.mem.sel [0,1] [1] (by decide) y y⟩))
 obtain ⟨bb,h,bc⟩:=bS h
 refine sCut (fun a w=>∃ ak,∃ af,(ak,af)=bb∧∃ a2,∃ a3,St [] E M9 w0 98 a w [(0,.pointer (some ⟨bb0,0,none⟩)),(5,iv ak)] [eBox bb0 68 [iv p0.g.W,iv p0.g.H,.slice a6 p0.g.Bits.length a7,iv p0.k,.slice a2 af.length a3,.slice ab p0.best.length ac,iv p0.least],eRow (rI .i64) 3 (.slice a2 af.length a3) af] [fRep (rL rB) (.slice a6 p0.g.Bits.length a7) p0.g.Bits,fRep (rLz (rI .i64)) (.slice ab p0.best.length ac) p0.best]) ?_ (fun a w hI=>?_)
 rotate_left
 ·obtain ⟨ak,af,rfl,a2,a3,S⟩:=hI
  have h:=bc
  try dsimp only at h
  obtain ⟨bf,h,bg⟩:=bS h
  refine sCut (fun a w=>∃ aP,aP=bf∧St [] E M9 w0 98 a w [(0,.pointer (some ⟨bb0,0,none⟩)),(5,iv ak),(44,.bool aP)] [eBox bb0 68 [iv p0.g.W,iv p0.g.H,.slice a6 p0.g.Bits.length a7,iv p0.k,.slice a2 af.length a3,.slice ab p0.best.length ac,iv p0.least],eRow (rI .i64) 3 (.slice a2 af.length a3) af] [fRep (rL rB) (.slice a6 p0.g.Bits.length a7) p0.g.Bits,fRep (rLz (rI .i64)) (.slice ab p0.best.length ac) p0.best]) ?_ (fun a w hI=>?_)
  ·refine sRegion (sM S fun a S=>?_)
   refine nilCheck_ok (q:=⟨bb0,0,none⟩) S (wN y) y y y (lb y) fun a S=>sField (b:=bb0) (off:=0) 5 5 S (wN y) y y y y y (lb y) fun a S=>sLoad1 0 (.slice ab p0.best.length ac) S (wN y) y y y y y y (lb y) fun a S=>sBin _ S (wN y) y y y (bEqNilZ _ _ _ _ Try.underlying25 ab (p0.best.length) (ac) (rLz_is (S.mem.know (i:=1) (e:=fRep (rLz (rI .i64)) (.slice ab p0.best.length ac) p0.best) y))) y (lb y) fun a S=>sM S fun a S=>?_
   rcases iS h with ⟨aa,h⟩ | ⟨aa,h⟩
   ·refine sSkN 6 5 false 37 S y y aa y fun a S=>sPickT (.bool true) S (wN y) y y aa y y (lb y) fun a S=>?_
    exact lT (⟨true,Option.some.inj h,S.fix [0,1] [0,1] (by decide) y y y⟩)
   refine sMove (iv ak) S (wG 5 false 37 y y y aa) (.inl y) y y (lb y) fun a S=>sMove (.pointer (some ⟨bb0,0,none⟩)) S (wG 5 false 37 y y y aa) (.inl y) y y (lb y) fun a S=>nilCheck_ok (q:=⟨bb0,0,none⟩) S (wG 5 false 37 y y y aa) y y y (lb y) fun a S=>sField (b:=bb0) (off:=0) 6 6 S (wG 5 false 37 y y y aa) y y y y y (lb y) fun a S=>sLoad1 0 (iv p0.least) S (wG 5 false 37 y y y aa) y y y y y y (lb y) fun a S=>sBin _ S (wG 5 false 37 y y y aa) y y y (bLt _ _ _ _ .i64 ak p0.least) y (lb y) fun a S=>sPickF (.bool (decide (ak < p0.least))) S (wN y) y y aa y y (lb y) fun a S=>?_
   exact lT (⟨decide (ak < p0.least),Option.some.inj h,S.fix [0,1] [0,1] (by decide) y y y⟩)
  obtain ⟨aP,rfl,S⟩:=hI
  have h:=bg
  try dsimp only at h
  rcases iS h with ⟨aq,h⟩ | ⟨aq,h⟩
  rotate_left
  ·refine sCondF S y aq ?_
   exact wp_skip (leafT (⟨af,p0.best,p0.least,Option.some.inj h,a2,a3,ab,ac,S.fix [0,1] [0,1] (by decide) y y y⟩))
  refine sCondT S y aq (sRegion (sM S fun a S=>?_))
  refine sM S fun a S=>?_
  refine sM S fun a S=>?_
  refine nilCheck_ok (q:=⟨bb0,0,none⟩) S (wN y) y y y (lb y) fun a S=>sField (b:=bb0) (off:=0) 4 4 S (wN y) y y y y y (lb y) fun a S=>sLoad1 0 (.slice a2 af.length a3) S (wN y) y y y y y y (lb y) fun a S=>?_
  obtain ⟨ae,aQ,h⟩:=bS h
  refine sCall (X:=Option Addr × Nat) (f:=49) (vs:=[.slice a2 af.length a3]) (val:=fun x=>.slice x.1 ae.1.length x.2) (B':=fun x=>[eRow (rI .i64) 3 (.slice x.1 ae.1.length x.2) ae.1,eRow (rI .i64) 3 (.slice a2 af.length a3) ae.2]) (D':=fun _=>[]) [eRow (rI .i64) 3 (.slice a2 af.length a3) af] [eBox bb0 68 [iv p0.g.W,iv p0.g.H,.slice a6 p0.g.Bits.length a7,iv p0.k,.slice a2 af.length a3,.slice ab p0.best.length ac,iv p0.least]] [] [1,0] [] S (wN y) y callee49 y (by decide) y y (fun E1 w1 S1=>c_slices_Clone___int_int__s1 E1 w1 af a2 a3 ae aQ S1) y (lb y) fun xx a w S=>?_
  obtain ⟨ai,aj⟩:=xx
  dsimp only at S
  have aR:=row_v (S.mem.hold (i:=1) (e:=eRow (rI .i64) 3 (.slice a2 af.length a3) ae.2) y)
  rw [aR] at S
  refine sM S fun a S=>?_
  refine nilCheck_ok (q:=⟨bb0,0,none⟩) S (wN y) y y y (lb y) fun a S=>sField (b:=bb0) (off:=0) 5 5 S (wN y) y y y y y (lb y) fun a S=>?_
  have S:=S.shutR (r:=(rI .i64)) (T:=3) (v:=.slice ai ae.1.length aj) (xs:=ae.1) 0 y
  obtain ⟨bp,aS,h⟩:=bS h
  have S:=S.learn (fRep (rLz (rI .i64)) (.slice ai ae.1.length aj) ae.1) (rLz_of (S.mem.know (i:=0) (e:=fRep (rL (rI .i64)) (.slice ai ae.1.length aj) ae.1) y) aS)
  refine sStore (p:=bb0) (off:=5) (T:=68) (vs:=[iv p0.g.W,iv p0.g.H,.slice a6 p0.g.Bits.length a7,iv p0.k,.slice a2 ae.2.length a3,.slice ab p0.best.length ac,iv p0.least]) (v:=.slice ai ae.1.length aj) 1 [.slice ai ae.1.length aj] S (wN y) y y y y y y y (by simp) y fun a w S=>nilCheck_ok (q:=⟨bb0,0,none⟩) S (wN y) y y y (lb y) fun a S=>sField (b:=bb0) (off:=0) 6 6 S (wN y) y y y y y (lb y) fun a S=>sStore (p:=bb0) (off:=6) (T:=68) (vs:=[iv p0.g.W,iv p0.g.H,.slice a6 p0.g.Bits.length a7,iv p0.k,.slice a2 ae.2.length a3,.slice ai ae.1.length aj,iv p0.least]) (v:=iv ak) 0 [iv ak] S (wN y) y y y y y y y (by simp) y fun a w S=>?_
  exact lT (⟨ae.2,ae.1,ak,Option.some.inj h,a2,a3,ai,aj,S.fix [0,1] [2,0] (by decide) y y y⟩)
 obtain ⟨a0,aw,h⟩:=bS h
 refine sDraw (nf:=[8,13,14]) (W:=[(0,20,.pointer (some ⟨bb0,0,none⟩)),(1,21,.pointer (some ⟨bb0,0,none⟩)),(2,22,.pointer (some ⟨bb0,0,none⟩)),(3,23,.agg #[iv p0.g.W,iv p0.g.H,.slice a6 p0.g.Bits.length a7]),(4,24,.pointer (some ⟨bb0,0,none⟩)),(5,25,.pointer (some ⟨bb0,0,none⟩)),(6,26,.pointer (some ⟨bb0,4,none⟩)),(7,27,.slice ad_0_1 p0.l.length cp_0_1)]) y S ?_
 refine node_by (A:=anc_reduce_search_from_s10_1) 17 (by kernel_rfl) (by kernel_rfl) (by kernel_rfl) (by kernel_rfl) (by kernel_rfl) [0,1,2,3,4,5,6,7] (by kernel_rfl) (by decide) (by decide) (fF ?_ (fF ?_ (fF ?_ (fF ?_ (fF ?_ (fF ?_ (fF ?_ (fF ?_ (fN ?_ (fE 8 (fE 8 (fE 8 (fE 8 (fN ?_ (aB 14 2 8 (by decide) (fE 8 (fE 8 (trivial)))))))))))))))))) [] (fun q hq=>by cases hq) (fun hY=>absurd (hY 8 (by decide)) (by decide))
 ·exact fM 0 none y y y y (.inl y) y y y
 ·refine fJ [(20,_)] 1 [some 0] fun G a w S=>?_
  exact nilCheck_ok (q:=⟨bb0,0,none⟩) S (wN y) y y y (lb y) fun a S=>leafL ⟨y,S⟩
 ·refine fJ [(21,_)] 2 [some 1] fun G a w S=>?_
  exact sField (b:=bb0) (off:=0) 0 0 S (wN y) y y y y y (lb y) fun a S=>leafL ⟨y,S⟩
 ·refine fJ [(22,_)] 3 [some 2] fun G a w S=>?_
  exact sLoadN (p:=bb0) (off:=0) (T:=68) (vs:=[iv p0.g.W,iv p0.g.H,.slice a6 p0.g.Bits.length a7,iv p0.k,.slice ad_0_1 p0.l.length cp_0_1,.slice ab p0.best.length ac,iv p0.least]) 0 [iv p0.g.W,iv p0.g.H,.slice a6 p0.g.Bits.length a7] S (wN y) y y y y y y y (lb y) fun a S=>leafL ⟨y,S⟩
 ·exact fM 4 none y y y y (.inl y) y y y
 ·refine fJ [(24,_)] 5 [some 4] fun G a w S=>?_
  exact nilCheck_ok (q:=⟨bb0,0,none⟩) S (wN y) y y y (lb y) fun a S=>leafL ⟨y,S⟩
 ·refine fJ [(25,_)] 6 [some 5] fun G a w S=>?_
  exact sField (b:=bb0) (off:=0) 4 4 S (wN y) y y y y y (lb y) fun a S=>leafL ⟨y,S⟩
 ·refine fJ [(26,_)] 7 [some 6] fun G a w S=>?_
  exact sLoad1 0 (.slice ad_0_1 p0.l.length cp_0_1) S (wN y) y y y y y y (lb y) fun a S=>leafL ⟨y,S⟩
 ·refine ⟨_,[(23,.agg #[iv p0.g.W,iv p0.g.H,.slice a6 p0.g.Bits.length a7]),(27,.slice ad_0_1 p0.l.length cp_0_1)],y,(srcs_of [some 3,some 7] y y y),fun G a w S=>?_⟩
  have S:=S.learn (fRep r_api_Grid (.agg #[iv p0.g.W,iv p0.g.H,.slice a6 p0.g.Bits.length a7]) p0.g) ⟨_,y,S.mem.know (i:=0) (e:=fRep (rL rB) (.slice a6 p0.g.Bits.length a7) p0.g.Bits) y⟩
  refine sCall (X:=Option Addr × Nat) (f:=12) (vs:=[.agg #[iv p0.g.W,iv p0.g.H,.slice a6 p0.g.Bits.length a7],.slice ad_0_1 p0.l.length cp_0_1]) (val:=fun x=>.tuple #[.agg #[iv a0.1.W,iv a0.1.H,.slice x.1 a0.1.Bits.length x.2],iv a0.2.1,iv a0.2.2.1]) (B':=fun x=>[eRow rB 4 (.slice x.1 a0.1.Bits.length x.2) a0.1.Bits,eRow (rI .i64) 3 (.slice ad_0_1 p0.l.length cp_0_1) a0.2.2.2]) (D':=fun _=>[]) [eRow (rI .i64) 3 (.slice ad_0_1 p0.l.length cp_0_1) p0.l] [eBox bb0 68 [iv p0.g.W,iv p0.g.H,.slice a6 p0.g.Bits.length a7,iv p0.k,.slice ad_0_1 p0.l.length cp_0_1,.slice ab p0.best.length ac,iv p0.least]] [fRep r_api_Grid (.agg #[iv p0.g.W,iv p0.g.H,.slice a6 p0.g.Bits.length a7]) p0.g] [1,0] [0] S (wN y) y callee12 y (by decide) y y (fun E1 w1 S1=>c_reduce_Change_s1 E1 w1 p0.g (.agg #[iv p0.g.W,iv p0.g.H,.slice a6 p0.g.Bits.length a7]) p0.l ad_0_1 cp_0_1 a0 aw S1) y (lb y) fun xx a w S=>?_
  obtain ⟨a4,a5⟩:=xx
  dsimp only at S
  refine leafL ⟨y,_,_,.inl ⟨28,(.tuple #[.agg #[iv a0.1.W,iv a0.1.H,.slice a4 a0.1.Bits.length a5],iv a0.2.1,iv a0.2.2.1]),[(9,19,.tuple #[.agg #[iv a0.1.W,iv a0.1.H,.slice a4 a0.1.Bits.length a5],iv a0.2.1,iv a0.2.2.1]),(10,29,.agg #[iv a0.1.W,iv a0.1.H,.slice a4 a0.1.Bits.length a5]),(11,30,iv a0.2.1),(12,31,iv a0.2.2.1)],y,S,hz_of y,?_⟩⟩
  refine node_by (A:=anc_reduce_search_from_s10_1) 17 (by kernel_rfl) (by kernel_rfl) (by kernel_rfl) (by kernel_rfl) (by kernel_rfl) [9,10,11,12,8,0,1,2,3,4,5,6,7] (by kernel_rfl) (by decide) (by decide) (fD 8 (fD 8 (fD 8 (fD 8 (fD 8 (fD 8 (fD 8 (fD 8 (fY (fF ?_ (fF ?_ (fF ?_ (fF ?_ (fN ?_ (aB 14 2 13 (by decide) (fE 13 (fE 13 (trivial)))))))))))))))))) [] (fun q hq=>by cases hq) (fun hY=>absurd (hY 13 (by decide)) (by decide))
  ·exact fM 0 (some 4) y y y y (.inl y) y y y
  ·refine fJ [(19,_)] 1 [some 0] fun G a w S=>?_
   exact sExtract (vs:=[.agg #[iv a0.1.W,iv a0.1.H,.slice a4 a0.1.Bits.length a5],iv a0.2.1,iv a0.2.2.1]) (.agg #[iv a0.1.W,iv a0.1.H,.slice a4 a0.1.Bits.length a5]) S (wN y) y y y y (lb y) fun a S=>leafL ⟨y,S⟩
  ·refine fJ [(19,_)] 2 [some 0] fun G a w S=>?_
   exact sExtract (vs:=[.agg #[iv a0.1.W,iv a0.1.H,.slice a4 a0.1.Bits.length a5],iv a0.2.1,iv a0.2.2.1]) (iv a0.2.1) S (wN y) y y y y (lb y) fun a S=>leafL ⟨y,S⟩
  ·refine fJ [(19,_)] 3 [some 0] fun G a w S=>?_
   exact sExtract (vs:=[.agg #[iv a0.1.W,iv a0.1.H,.slice a4 a0.1.Bits.length a5],iv a0.2.1,iv a0.2.2.1]) (iv a0.2.2.1) S (wN y) y y y y (lb y) fun a S=>leafL ⟨y,S⟩
  refine ⟨_,[],y,(srcs_of [] y y y),fun G a w S=>?_⟩
  refine sAlloc (.agg #[iv 0,iv 0,.slice none 0 0]) S (wN y) y y [iv 0,iv 0,.slice none 0 0] y y (lb y) fun a aT w S=>leafL ⟨y,_,_,.inl ⟨4,(.pointer (some ⟨aT,0,none⟩)),[],y,S,hz_of y,?_⟩⟩
  refine node_by (A:=anc_reduce_search_from_s10_1) 17 (by kernel_rfl) (by kernel_rfl) (by kernel_rfl) (by kernel_rfl) (by kernel_rfl) [13,9,10,11,12,8,0,1,2,3,4,5,6,7] (by kernel_rfl) (by decide) (by decide) (fD 8 (fD 8 (fD 8 (fD 8 (fD 8 (fD 8 (fD 8 (fD 8 (fY (fF ?_ (fF ?_ (fF ?_ (fF ?_ (fY (fN ?_ (fE 14 (fE 14 (trivial)))))))))))))))))) [] (fun q hq=>by cases hq) (fun hY=>absurd (hY 14 (by decide)) (by decide))
  ·exact fM 1 (some 5) y y y y (.inl y) y y y
  ·refine fJ [(19,_)] 2 [some 1] fun G a w S=>?_
   exact sExtract (vs:=[.agg #[iv a0.1.W,iv a0.1.H,.slice a4 a0.1.Bits.length a5],iv a0.2.1,iv a0.2.2.1]) (.agg #[iv a0.1.W,iv a0.1.H,.slice a4 a0.1.Bits.length a5]) S (wN y) y y y y (lb y) fun a S=>leafL ⟨y,S⟩
  ·refine fJ [(19,_)] 3 [some 1] fun G a w S=>?_
   exact sExtract (vs:=[.agg #[iv a0.1.W,iv a0.1.H,.slice a4 a0.1.Bits.length a5],iv a0.2.1,iv a0.2.2.1]) (iv a0.2.1) S (wN y) y y y y (lb y) fun a S=>leafL ⟨y,S⟩
  ·refine fJ [(19,_)] 4 [some 1] fun G a w S=>?_
   exact sExtract (vs:=[.agg #[iv a0.1.W,iv a0.1.H,.slice a4 a0.1.Bits.length a5],iv a0.2.1,iv a0.2.2.1]) (iv a0.2.2.1) S (wN y) y y y y (lb y) fun a S=>leafL ⟨y,S⟩
  refine ⟨_,[(4,.pointer (some ⟨aT,0,none⟩)),(29,.agg #[iv a0.1.W,iv a0.1.H,.slice a4 a0.1.Bits.length a5])],y,(srcs_of [some 0,some 2] y y y),fun G a w S=>?_⟩
  refine sStore (p:=aT) (off:=0) (T:=24) (vs:=[iv 0,iv 0,.slice none 0 0]) (v:=.agg #[iv a0.1.W,iv a0.1.H,.slice a4 a0.1.Bits.length a5]) 0 [iv a0.1.W,iv a0.1.H,.slice a4 a0.1.Bits.length a5] S (wN y) y y y y y y y (by simp) y fun a w S=>leafL ⟨y,_,_,.inr ⟨[(15,5,iv a0.2.1),(16,6,iv a0.2.2.1)],y,S,hz_of y,?_⟩⟩
  refine node_by (A:=anc_reduce_search_from_s10_1) 17 (by kernel_rfl) (by kernel_rfl) (by kernel_rfl) (by kernel_rfl) (by kernel_rfl) [15,16,13,9,10,11,12,8,0,1,2,3,4,5,6,7] (by kernel_rfl) (by decide) (by decide) (fD 14 (fD 14 (fD 14 (fD 14 (fD 14 (fD 14 (fD 14 (fD 14 (fY (fD 14 (fD 14 (fF ?_ (fF ?_ (fY (fY (fF ?_ (fF ?_ (trivial)))))))))))))))))) [(0,.pointer (some ⟨bb0,0,none⟩)),(5,iv a0.2.1)] (fin_of [none,some 0] y (by kernel_rfl) (by kernel_rfl)) (fun _ a w S=>?_)
  ·refine fJ [(19,_)] 5 [some 3] fun G a w S=>?_
   exact sExtract (vs:=[.agg #[iv a0.1.W,iv a0.1.H,.slice a4 a0.1.Bits.length a5],iv a0.2.1,iv a0.2.2.1]) (iv a0.2.1) S (wN y) y y y y (lb y) fun a S=>leafL ⟨y,S⟩
  ·refine fJ [(19,_)] 6 [some 3] fun G a w S=>?_
   exact sExtract (vs:=[.agg #[iv a0.1.W,iv a0.1.H,.slice a4 a0.1.Bits.length a5],iv a0.2.1,iv a0.2.2.1]) (iv a0.2.2.1) S (wN y) y y y y (lb y) fun a S=>leafL ⟨y,S⟩
  ·exact fM 0 (some 5) y y y y (.inr y) y y y
  ·exact fM 1 (some 6) y y y y (.inr y) y y y
  have aU:=row_v (S.mem.hold (i:=2) (e:=eRow (rI .i64) 3 (.slice ad_0_1 p0.l.length cp_0_1) a0.2.2.2) y)
  rw [aU] at S
  exact leafT (⟨a0.2.1,a0.2.2.2,Option.some.inj h,ad_0_1,cp_0_1,S.fix [3,2] [1,2] (by decide) y y y⟩)
 refine ⟨_,[],y,(srcs_of [] y y y),fun G a w S=>?_⟩
 refine sAlloc (.agg #[iv 0,iv 0,.slice none 0 0]) S (wN y) y y [iv 0,iv 0,.slice none 0 0] y y (lb y) fun a ay w S=>leafL ⟨y,_,_,.inl ⟨4,(.pointer (some ⟨ay,0,none⟩)),[],y,S,hz_of y,?_⟩⟩
 refine node_by (A:=anc_reduce_search_from_s10_1) 17 (by kernel_rfl) (by kernel_rfl) (by kernel_rfl) (by kernel_rfl) (by kernel_rfl) [13,0,1,2,3,4,5,6,7] (by kernel_rfl) (by decide) (by decide) (fF ?_ (fF ?_ (fF ?_ (fF ?_ (fF ?_ (fF ?_ (fF ?_ (fF ?_ (fN ?_ (fE 8 (fE 8 (fE 8 (fE 8 (fY (aB 14 2 8 (by decide) (fE 8 (fE 8 (trivial)))))))))))))))))) [] (fun q hq=>by cases hq) (fun hY=>absurd (hY 8 (by decide)) (by decide))
 ·exact fM 1 none y y y y (.inl y) y y y
 ·refine fJ [(20,_)] 2 [some 1] fun G a w S=>?_
  exact nilCheck_ok (q:=⟨bb0,0,none⟩) S (wN y) y y y (lb y) fun a S=>leafL ⟨y,S⟩
 ·refine fJ [(21,_)] 3 [some 2] fun G a w S=>?_
  exact sField (b:=bb0) (off:=0) 0 0 S (wN y) y y y y y (lb y) fun a S=>leafL ⟨y,S⟩
 ·refine fJ [(22,_)] 4 [some 3] fun G a w S=>?_
  exact sLoadN (p:=bb0) (off:=0) (T:=68) (vs:=[iv p0.g.W,iv p0.g.H,.slice a6 p0.g.Bits.length a7,iv p0.k,.slice ad_0_1 p0.l.length cp_0_1,.slice ab p0.best.length ac,iv p0.least]) 1 [iv p0.g.W,iv p0.g.H,.slice a6 p0.g.Bits.length a7] S (wN y) y y y y y y y (lb y) fun a S=>leafL ⟨y,S⟩
 ·exact fM 5 none y y y y (.inl y) y y y
 ·refine fJ [(24,_)] 6 [some 5] fun G a w S=>?_
  exact nilCheck_ok (q:=⟨bb0,0,none⟩) S (wN y) y y y (lb y) fun a S=>leafL ⟨y,S⟩
 ·refine fJ [(25,_)] 7 [some 6] fun G a w S=>?_
  exact sField (b:=bb0) (off:=0) 4 4 S (wN y) y y y y y (lb y) fun a S=>leafL ⟨y,S⟩
 ·refine fJ [(26,_)] 8 [some 7] fun G a w S=>?_
  exact sLoad1 1 (.slice ad_0_1 p0.l.length cp_0_1) S (wN y) y y y y y y (lb y) fun a S=>leafL ⟨y,S⟩
 refine ⟨_,[(23,.agg #[iv p0.g.W,iv p0.g.H,.slice a6 p0.g.Bits.length a7]),(27,.slice ad_0_1 p0.l.length cp_0_1)],y,(srcs_of [some 4,some 8] y y y),fun G a w S=>?_⟩
 have S:=S.learn (fRep r_api_Grid (.agg #[iv p0.g.W,iv p0.g.H,.slice a6 p0.g.Bits.length a7]) p0.g) ⟨_,y,S.mem.know (i:=0) (e:=fRep (rL rB) (.slice a6 p0.g.Bits.length a7) p0.g.Bits) y⟩
 refine sCall (X:=Option Addr × Nat) (f:=12) (vs:=[.agg #[iv p0.g.W,iv p0.g.H,.slice a6 p0.g.Bits.length a7],.slice ad_0_1 p0.l.length cp_0_1]) (val:=fun x=>.tuple #[.agg #[iv a0.1.W,iv a0.1.H,.slice x.1 a0.1.Bits.length x.2],iv a0.2.1,iv a0.2.2.1]) (B':=fun x=>[eRow rB 4 (.slice x.1 a0.1.Bits.length x.2) a0.1.Bits,eRow (rI .i64) 3 (.slice ad_0_1 p0.l.length cp_0_1) a0.2.2.2]) (D':=fun _=>[]) [eRow (rI .i64) 3 (.slice ad_0_1 p0.l.length cp_0_1) p0.l] [eBox ay 24 [iv 0,iv 0,.slice none 0 0],eBox bb0 68 [iv p0.g.W,iv p0.g.H,.slice a6 p0.g.Bits.length a7,iv p0.k,.slice ad_0_1 p0.l.length cp_0_1,.slice ab p0.best.length ac,iv p0.least]] [fRep r_api_Grid (.agg #[iv p0.g.W,iv p0.g.H,.slice a6 p0.g.Bits.length a7]) p0.g] [2,0,1] [0] S (wN y) y callee12 y (by decide) y y (fun E1 w1 S1=>c_reduce_Change_s1 E1 w1 p0.g (.agg #[iv p0.g.W,iv p0.g.H,.slice a6 p0.g.Bits.length a7]) p0.l ad_0_1 cp_0_1 a0 aw S1) y (lb y) fun xx a w S=>?_
 obtain ⟨a8,a9⟩:=xx
 dsimp only at S
 refine leafL ⟨y,_,_,.inl ⟨28,(.tuple #[.agg #[iv a0.1.W,iv a0.1.H,.slice a8 a0.1.Bits.length a9],iv a0.2.1,iv a0.2.2.1]),[(9,19,.tuple #[.agg #[iv a0.1.W,iv a0.1.H,.slice a8 a0.1.Bits.length a9],iv a0.2.1,iv a0.2.2.1]),(10,29,.agg #[iv a0.1.W,iv a0.1.H,.slice a8 a0.1.Bits.length a9]),(11,30,iv a0.2.1),(12,31,iv a0.2.2.1)],y,S,hz_of y,?_⟩⟩
 refine node_by (A:=anc_reduce_search_from_s10_1) 17 (by kernel_rfl) (by kernel_rfl) (by kernel_rfl) (by kernel_rfl) (by kernel_rfl) [9,10,11,12,8,13,0,1,2,3,4,5,6,7] (by kernel_rfl) (by decide) (by decide) (fD 8 (fD 8 (fD 8 (fD 8 (fD 8 (fD 8 (fD 8 (fD 8 (fY (fF ?_ (fF ?_ (fF ?_ (fF ?_ (fY (fN ?_ (fE 14 (fE 14 (trivial)))))))))))))))))) [] (fun q hq=>by cases hq) (fun hY=>absurd (hY 14 (by decide)) (by decide))
 ·exact fM 0 (some 4) y y y y (.inl y) y y y
 ·refine fJ [(19,_)] 1 [some 0] fun G a w S=>?_
  exact sExtract (vs:=[.agg #[iv a0.1.W,iv a0.1.H,.slice a8 a0.1.Bits.length a9],iv a0.2.1,iv a0.2.2.1]) (.agg #[iv a0.1.W,iv a0.1.H,.slice a8 a0.1.Bits.length a9]) S (wN y) y y y y (lb y) fun a S=>leafL ⟨y,S⟩
 ·refine fJ [(19,_)] 2 [some 0] fun G a w S=>?_
  exact sExtract (vs:=[.agg #[iv a0.1.W,iv a0.1.H,.slice a8 a0.1.Bits.length a9],iv a0.2.1,iv a0.2.2.1]) (iv a0.2.1) S (wN y) y y y y (lb y) fun a S=>leafL ⟨y,S⟩
 ·refine fJ [(19,_)] 3 [some 0] fun G a w S=>?_
  exact sExtract (vs:=[.agg #[iv a0.1.W,iv a0.1.H,.slice a8 a0.1.Bits.length a9],iv a0.2.1,iv a0.2.2.1]) (iv a0.2.2.1) S (wN y) y y y y (lb y) fun a S=>leafL ⟨y,S⟩
 refine ⟨_,[(4,.pointer (some ⟨ay,0,none⟩)),(29,.agg #[iv a0.1.W,iv a0.1.H,.slice a8 a0.1.Bits.length a9])],y,(srcs_of [some 5,some 1] y y y),fun G a w S=>?_⟩
 refine sStore (p:=ay) (off:=0) (T:=24) (vs:=[iv 0,iv 0,.slice none 0 0]) (v:=.agg #[iv a0.1.W,iv a0.1.H,.slice a8 a0.1.Bits.length a9]) 2 [iv a0.1.W,iv a0.1.H,.slice a8 a0.1.Bits.length a9] S (wN y) y y y y y y y (by simp) y fun a w S=>leafL ⟨y,_,_,.inr ⟨[(15,5,iv a0.2.1),(16,6,iv a0.2.2.1)],y,S,hz_of y,?_⟩⟩
 refine node_by (A:=anc_reduce_search_from_s10_1) 17 (by kernel_rfl) (by kernel_rfl) (by kernel_rfl) (by kernel_rfl) (by kernel_rfl) [15,16,9,10,11,12,8,13,0,1,2,3,4,5,6,7] (by kernel_rfl) (by decide) (by decide) (fD 14 (fD 14 (fD 14 (fD 14 (fD 14 (fD 14 (fD 14 (fD 14 (fY (fD 14 (fD 14 (fF ?_ (fF ?_ (fY (fY (fF ?_ (fF ?_ (trivial)))))))))))))))))) [(0,.pointer (some ⟨bb0,0,none⟩)),(5,iv a0.2.1)] (fin_of [none,some 0] y (by kernel_rfl) (by kernel_rfl)) (fun _ a w S=>?_)
 ·refine fJ [(19,_)] 4 [some 2] fun G a w S=>?_
  exact sExtract (vs:=[.agg #[iv a0.1.W,iv a0.1.H,.slice a8 a0.1.Bits.length a9],iv a0.2.1,iv a0.2.2.1]) (iv a0.2.1) S (wN y) y y y y (lb y) fun a S=>leafL ⟨y,S⟩
 ·refine fJ [(19,_)] 5 [some 2] fun G a w S=>?_
  exact sExtract (vs:=[.agg #[iv a0.1.W,iv a0.1.H,.slice a8 a0.1.Bits.length a9],iv a0.2.1,iv a0.2.2.1]) (iv a0.2.2.1) S (wN y) y y y y (lb y) fun a S=>leafL ⟨y,S⟩
 ·exact fM 0 (some 4) y y y y (.inr y) y y y
 ·exact fM 1 (some 5) y y y y (.inr y) y y y
 have aV:=row_v (S.mem.hold (i:=2) (e:=eRow (rI .i64) 3 (.slice ad_0_1 p0.l.length cp_0_1) a0.2.2.2) y)
 rw [aV] at S
 exact leafT (⟨a0.2.1,a0.2.2.2,Option.some.inj h,ad_0_1,cp_0_1,S.fix [3,2] [1,2] (by decide) y y y⟩)
def anc_reduce_search_from_s9_0:List (List Nat):=[[],[0],[0,1],[0,1,2],[0,1,2,3],[],[5],[5,6],[5,6,7],[5,6,7,8],[0,1,2,3,4,5,6,7,8,9]]
def anc_reduce_search_from_s9_1:List (List Nat):=[[],[0],[0,1],[0,1,2],[],[4],[4,5],[4,5,6],[0,1,2,3,4,5,6,7],[0,1,2,3,4,5,6,7,8],[0,1,2,3,4,5,6,7,8,9],[0,1,2,3,4,5,6,7,8,9],[0,1,2,3,4,5,6,7,8,9],[],[0,1,2,3,4,5,6,7,8,9,10,13],[0,1,2,3,4,5,6,7,8,9,10,11,13,14],[0,1,2,3,4,5,6,7,8,9,10,11,12,13,14,15]]
def anc_reduce_search_from_s9_2:List (List Nat):=[[],[],[1],[1,2],[1,2,3],[],[5],[5,6],[5,6,7],[5,6,7,8],[5,6,7,8,9],[1,2,3,4,5,6,7,8,9,10],[0,1,2,3,4,5,6,7,8,9,10,11],[0,1,2,3,4,5,6,7,8,9,10,11,12],[0,1,2,3,4,5,6,7,8,9,10,11,12,13]]
noncomputable def reduce_search_from_s9_l1 (p0:reduce_search) (p1:Int):(Int × Int × Int × Int × List Int × List Int × Int)→Option ((Int × Int × Int × Int × List Int × List Int × Int) ⊕ (Int × Int × Int × List Int × List Int × Int)):=fun s0=>match s0 with
 | (a2,a3,a4,a5,a6,a7,a8)=>
  if decide (a2 < (if p0.k < (w64 (p1 + 1)) then p0.k else w64 (p1 + 1))) then
   (appO a6 ([a2]:List Int)).bind fun a9=>
   (F_reduce_search_from_s10 (reduce_search.mk (api_Grid.mk a3 a4 p0.g.Bits) a5 a9 a7 a8) (if p1 < (w64 (a2 + 1)) then w64 (a2 + 1) else p1)).bind fun a0=>
   (sliceO a0.l 0 (w64 ((a0.l.length:Int) - 1))).bind fun aa=>
   some (.inl (w64 (a2 + 1),a0.g.W,a0.g.H,a0.k,aa,a0.best,a0.least))
  else
   some (.inr (a3,a4,a5,a6,a7,a8))
noncomputable def F_reduce_search_from_s9 (p0:reduce_search) (p1:Int):Option reduce_search:=
 if (p0.l.length:Int) == p0.g.W then
  Option.bind (α:=(List Int × List Int × Int)) (
   Option.bind (α:=(Int × List Int)) (
    (F_reduce_Change_s1 p0.g p0.l).bind fun a2=>
    some (a2.2.1,a2.2.2.2)) fun (a3,a4)=>
   Option.bind (α:=Bool) (
    if p0.best.isEmpty then
     some true
    else
     some (decide (a3 < p0.least))) fun a5=>
   if a5 then
    (F_slices_Clone___int_int__s1 a4).bind fun a0=>
    (neO a0.1).bind fun af=>
    some (a0.2,a0.1,a3)
   else
    some (a4,p0.best,p0.least)) fun (o8,a6,a7)=>
  some (reduce_search.mk p0.g p0.k o8 a6 a7)
 else
  (whileO (reduce_search_from_s9_l1 p0 p1) (0,p0.g.W,p0.g.H,p0.k,p0.l,p0.best,p0.least)).bind fun (a8,a9,aa,ab,ac,ae)=>
   some (reduce_search.mk (api_Grid.mk a8 a9 p0.g.Bits) aa ab ac ae)
theorem c_reduce_search_from_s9 (E:Nat→Prop) (w0:World) (p0:reduce_search) (bb0:Nat) (u_0_0:Value) (ad_0_1:Option Addr) (cp_0_1:Nat) (u_0_2:Value) (p1:Int) (r:reduce_search) (h:F_reduce_search_from_s9 p0 p1=some r) (S:St0 E (keysL [eBox bb0 68 [iv p0.g.W,iv p0.g.H,u_0_0,iv p0.k,.slice ad_0_1 p0.l.length cp_0_1,u_0_2,iv p0.least],eRow (rI .i64) 3 (.slice ad_0_1 p0.l.length cp_0_1) p0.l]) w0 w0 [eBox bb0 68 [iv p0.g.W,iv p0.g.H,u_0_0,iv p0.k,.slice ad_0_1 p0.l.length cp_0_1,u_0_2,iv p0.least],eRow (rI .i64) 3 (.slice ad_0_1 p0.l.length cp_0_1) p0.l] [fRep (rL rB) (u_0_0) p0.g.Bits,fRep (rLz (rI .i64)) (u_0_2) p0.best]) :
 Calls Try.prog 41 #[.pointer (some ⟨bb0,0,none⟩),iv p1] w0 (Ret (X:=Option Addr × Nat × Value) E (keysL [eBox bb0 68 [iv p0.g.W,iv p0.g.H,u_0_0,iv p0.k,.slice ad_0_1 p0.l.length cp_0_1,u_0_2,iv p0.least],eRow (rI .i64) 3 (.slice ad_0_1 p0.l.length cp_0_1) p0.l]) w0 (fun _=>.tuple #[]) (fun x=>[eBox bb0 68 [iv r.g.W,iv r.g.H,u_0_0,iv r.k,.slice x.1 r.l.length x.2.1,x.2.2,iv r.least],eRow (rI .i64) 3 (.slice x.1 r.l.length x.2.1) r.l]) (fun x=>[fRep (rLz (rI .i64)) x.2.2 r.best])):=by
 unfold F_reduce_search_from_s9 at h
 obtain ⟨a2,a3,_,rfl,_⟩:=S.know (i:=0) (e:=fRep (rL rB) (u_0_0) p0.g.Bits) y
 obtain ⟨⟨ak,al,_,rfl,_⟩,_⟩:=S.know (i:=1) (e:=fRep (rLz (rI .i64)) (u_0_2) p0.best) y
 generalize (keysL [eBox bb0 68 [iv p0.g.W,iv p0.g.H,.slice a2 p0.g.Bits.length a3,iv p0.k,.slice ad_0_1 p0.l.length cp_0_1,.slice ak p0.best.length al,iv p0.least],eRow (rI .i64) 3 (.slice ad_0_1 p0.l.length cp_0_1) p0.l])=M9 at S ⊢
 refine sEnter (args:=[.pointer (some ⟨bb0,0,none⟩),iv p1]) 98 Try.func41 y y (by simp) S (fun a S=>?_)
 refine sSeq (fun K5 bp=>sSeq (fun K6 bq=>sDraw (nf:=[]) (W:=[(0,8,.pointer (some ⟨bb0,0,none⟩)),(1,9,.pointer (some ⟨bb0,0,none⟩)),(2,10,.pointer (some ⟨bb0,4,none⟩)),(3,11,.slice ad_0_1 p0.l.length cp_0_1),(4,12,iv (p0.l.length:Int)),(5,13,.pointer (some ⟨bb0,0,none⟩)),(6,14,.pointer (some ⟨bb0,0,none⟩)),(7,15,.pointer (some ⟨bb0,0,none⟩)),(8,16,.pointer (some ⟨bb0,0,none⟩)),(9,17,iv p0.g.W),(10,18,.bool ((p0.l.length:Int) == p0.g.W))]) y S ?_))
 refine node_by (A:=anc_reduce_search_from_s9_0) 11 (by kernel_rfl) (by kernel_rfl) (by kernel_rfl) (by kernel_rfl) (by kernel_rfl) [0,1,2,3,4,5,6,7,8,9,10] (by kernel_rfl) (by decide) (by decide) (fF ?_ (fF ?_ (fF ?_ (fF ?_ (fF ?_ (fF ?_ (fF ?_ (fF ?_ (fF ?_ (fF ?_ (fF ?_ (trivial)))))))))))) [(0,.pointer (some ⟨bb0,0,none⟩)),(1,iv p1),(18,.bool ((p0.l.length:Int) == p0.g.W))] (fin_of [none,none,some 10] y (by kernel_rfl) (by kernel_rfl)) (fun _ a w S=>?_)
 ·exact fM 0 none y y y y (.inl y) y y y
 ·refine fJ [(8,_)] 1 [some 0] fun G a w S=>?_
  exact nilCheck_ok (q:=⟨bb0,0,none⟩) S (wN y) y y y (lb y) fun a S=>leafL ⟨y,S⟩
 ·refine fJ [(9,_)] 2 [some 1] fun G a w S=>?_
  exact sField (b:=bb0) (off:=0) 4 4 S (wN y) y y y y y (lb y) fun a S=>leafL ⟨y,S⟩
 ·refine fJ [(10,_)] 3 [some 2] fun G a w S=>?_
  exact sLoad1 0 (.slice ad_0_1 p0.l.length cp_0_1) S (wN y) y y y y y y (lb y) fun a S=>leafL ⟨y,S⟩
 ·refine fJ [(11,_)] 4 [some 3] fun G a w S=>?_
  exact sLen S (wN y) y Try.underlying25 y y (lb y) fun a S=>leafL ⟨y,S⟩
 ·exact fM 5 none y y y y (.inl y) y y y
 ·refine fJ [(13,_)] 6 [some 5] fun G a w S=>?_
  exact nilCheck_ok (q:=⟨bb0,0,none⟩) S (wN y) y y y (lb y) fun a S=>leafL ⟨y,S⟩
 ·refine fJ [(14,_)] 7 [some 6] fun G a w S=>?_
  exact sField (b:=bb0) (off:=0) 0 0 S (wN y) y y y y y (lb y) fun a S=>leafL ⟨y,S⟩
 ·refine fJ [(15,_)] 8 [some 7] fun G a w S=>?_
  exact sField (b:=bb0) (off:=0) 0 0 S (wN y) y y y y y (lb y) fun a S=>leafL ⟨y,S⟩
 ·refine fJ [(16,_)] 9 [some 8] fun G a w S=>?_
  exact sLoad1 0 (iv p0.g.W) S (wN y) y y y y y y (lb y) fun a S=>leafL ⟨y,S⟩
 ·refine fJ [(12,_),(17,_)] 10 [some 4,some 9] fun G a w S=>?_
  exact sBin _ S (wN y) y y y (bEq _ _ _ _ .i64 (p0.l.length:Int) p0.g.W) y (lb y) fun a S=>leafL ⟨y,S⟩
 refine leafT (bq _ _ ?_)
 rcases iS h with ⟨aW,h⟩ | ⟨aW,h⟩
 rotate_left
 ·refine sCondF S y aW (wp_skip (leafT (bp _ _ ?_)))
  refine sSeq (fun bB aX=>sRegion (sM S fun a S=>?_))
  refine sBin _ S (wN y) y y y (bAdd _ _ _ _ p1 1) y (lb y) fun a S=>sM S fun a S=>?_
  refine nilCheck_ok (q:=⟨bb0,0,none⟩) S (wN y) y y y (lb y) fun a S=>sField (b:=bb0) (off:=0) 3 3 S (wN y) y y y y y (lb y) fun a S=>sLoad1 0 (iv p0.k) S (wN y) y y y y y y (lb y) fun a S=>sMin2 (p:=w64 (p1 + 1)) (q:=p0.k) S (wN y) y y y y (lb y) fun a S=>sM S fun a S=>?_
  refine lT (aX _ _ (wp_block ?_))
  obtain ⟨bC,hl,br⟩:=bS h
  refine sLoop hl (fun s0 a w=>match s0 with | (af,aJ,aK,aL,aA,ar,aM)=>∃ am,∃ ao,∃ ah,∃ ai,St [] E M9 w0 98 a w [(0,.pointer (some ⟨bb0,0,none⟩)),(1,iv p1),(63,iv (if p0.k < (w64 (p1 + 1)) then p0.k else w64 (p1 + 1))),(64,iv af)] [eBox bb0 68 [iv aJ,iv aK,.slice a2 p0.g.Bits.length a3,iv aL,.slice am aA.length ao,.slice ah ar.length ai,iv aM],eRow (rI .i64) 3 (.slice am aA.length ao) aA] [fRep (rL rB) (.slice a2 p0.g.Bits.length a3) p0.g.Bits,fRep (rLz (rI .i64)) (.slice ah ar.length ai) ar]) ⟨ad_0_1,cp_0_1,ak,al,S.fix [0,1] [0,1] (by decide) y y y⟩ ?_
  clear hl h
  intro s0 a w c0 hI h aZ
  obtain ⟨af,aJ,aK,aL,aA,ar,aM⟩:=s0
  unfold reduce_search_from_s9_l1 at h
  dsimp only at h hI
  obtain ⟨am,ao,ah,ai,S⟩:=hI
  refine sSeq (fun bD b1=>sRegion (sBin _ S (wN y) y y y (bLt _ _ _ _ .i64 af (if p0.k < (w64 (p1 + 1)) then p0.k else w64 (p1 + 1))) y (lb y) fun a S=>lT (b1 _ _ (sSeq (fun bE b3=>?_)))))
  rcases iS h with ⟨aC,h⟩ | ⟨aC,h⟩
  rotate_left
  ·refine sCondF S y aC ?_
   obtain rfl:=tS h
   obtain rfl:=aZ _ y
   have h:=br
   try dsimp only at h
   obtain rfl:=tS h
   exact wp_exit (xThen (xThen (xHit (sEnd (.tuple #[]) S (rsl0 y ) ⟨(am,ao,(.slice ah ar.length ai)),y,S.mem.sel [0,1] [1] (by decide) y y⟩))))
  refine sCondT S y aC (wp_skip (leafT (b3 _ _ ?_)))
  refine sSeq (fun bG b4=>wp_block ?_)
  refine sSeq (fun bH b5=>sRegion (sM S fun a S=>?_))
  refine sN S fun a S=>?_
  refine lT (b5 _ _ (sSeq (fun bI ba=>sRegion (sM S fun a S=>?_))))
  refine sM S fun a S=>?_
  refine nilCheck_ok (q:=⟨bb0,0,none⟩) S (wN y) y y y (lb y) fun a S=>sField (b:=bb0) (off:=0) 4 4 S (wN y) y y y y y (lb y) fun a S=>sLoad1 0 (.slice am aA.length ao) S (wN y) y y y y y y (lb y) fun a S=>sM S fun a S=>?_
  refine sLit (r:=(rI .i64)) (T:=3) (xs:=([af]:List Int)) [(0,iv af)] 1 [iv af] [iv af] (iv 0) 8 S (wN y) y y Try.underlying25 y (by decide) (by decide) (by kernel_rfl) y (fun E1 w1 hE=>All.cons y (All.nil _ _ _)) y y (lb y) fun a w aO aP S=>?_
  obtain ⟨aH,bb,h⟩:=bS h
  refine sApp (r:=(rI .i64)) (T:=3) (xs:=aA) (ys:=([af]:List Int)) (v:=.slice am aA.length ao) (u:=.slice aO ([af]:List Int).length aP) 2 (iv 0) 8 S (wN y) y Try.underlying25 y y (by decide) y y y (src_R (T:=3) 0 S.mem y) bb y (lb y) fun a w au av S=>nilCheck_ok (q:=⟨bb0,0,none⟩) S (wN y) y y y (lb y) fun a S=>sField (b:=bb0) (off:=0) 4 4 S (wN y) y y y y y (lb y) fun a S=>sStore (p:=bb0) (off:=4) (T:=68) (vs:=[iv aJ,iv aK,.slice a2 p0.g.Bits.length a3,iv aL,.slice am aA.length ao,.slice ah ar.length ai,iv aM]) (v:=.slice au aH.length av) 2 [.slice au aH.length av] S (wN y) y y y y y y y (by simp) y fun a w S=>lT (ba _ _ (sSeq (fun bJ bc=>sRegion (sM S fun a S=>?_))))
  refine sM S fun a S=>?_
  refine sM S fun a S=>?_
  refine sBin _ S (wN y) y y y (bAdd _ _ _ _ af 1) y (lb y) fun a S=>sMax2 (p:=p1) (q:=w64 (af + 1)) S (wN y) y y y y (lb y) fun a S=>?_
  obtain ⟨a4,bf,h⟩:=bS h
  refine sCall (X:=Option Addr × Nat × Value) (f:=41) (vs:=[.pointer (some ⟨bb0,0,none⟩),iv (if p1 < (w64 (af + 1)) then w64 (af + 1) else p1)]) (val:=fun _=>.tuple #[]) (B':=fun x=>[eBox bb0 68 [iv a4.g.W,iv a4.g.H,.slice a2 p0.g.Bits.length a3,iv a4.k,.slice x.1 a4.l.length x.2.1,x.2.2,iv a4.least],eRow (rI .i64) 3 (.slice x.1 a4.l.length x.2.1) a4.l]) (D':=fun x=>[fRep (rLz (rI .i64)) x.2.2 a4.best]) [eBox bb0 68 [iv aJ,iv aK,.slice a2 p0.g.Bits.length a3,iv aL,.slice au aH.length av,.slice ah ar.length ai,iv aM],eRow (rI .i64) 3 (.slice au aH.length av) aH] [eRow (rI .i64) 3 (.slice aO ([af]:List Int).length aP) ([af]:List Int)] [fRep (rL rB) (.slice a2 p0.g.Bits.length a3) p0.g.Bits,fRep (rLz (rI .i64)) (.slice ah ar.length ai) ar] [0,1,2] [0,1] S (wN y) y callee41 y (by decide) y y (fun E1 w1 S1=>c_reduce_search_from_s10 E1 w1 (reduce_search.mk (api_Grid.mk aJ aK p0.g.Bits) aL aH ar aM) bb0 (.slice a2 p0.g.Bits.length a3) au av (.slice ah ar.length ai) (if p1 < (w64 (af + 1)) then w64 (af + 1) else p1) a4 bf S1) y (lb y) fun xx a w S=>?_
  obtain ⟨a9,aa,bt⟩:=xx
  dsimp only at S
  obtain ⟨⟨aQ,aR,_,rfl,_⟩,_⟩:=S.mem.know (i:=0) (e:=fRep (rLz (rI .i64)) (bt) a4.best) y
  refine lT (bc _ _ ?_)
  obtain ⟨aS,bg,h⟩:=bS h
  refine sDraw (nf:=[11,14]) (W:=[(0,83,.pointer (some ⟨bb0,0,none⟩)),(1,84,.pointer (some ⟨bb0,0,none⟩)),(2,85,.pointer (some ⟨bb0,0,none⟩)),(3,86,.pointer (some ⟨bb0,4,none⟩)),(4,87,.slice a9 a4.l.length aa),(5,88,.pointer (some ⟨bb0,0,none⟩)),(6,89,.pointer (some ⟨bb0,0,none⟩)),(7,90,.pointer (some ⟨bb0,4,none⟩)),(8,91,.slice a9 a4.l.length aa),(9,92,iv (a4.l.length:Int)),(10,93,iv (w64 ((a4.l.length:Int) - 1)))]) y S ?_
  refine node_by (A:=anc_reduce_search_from_s9_2) 15 (by kernel_rfl) (by kernel_rfl) (by kernel_rfl) (by kernel_rfl) (by kernel_rfl) [0,1,2,3,4,5,6,7,8,9,10] (by kernel_rfl) (by decide) (by decide) (fF ?_ (fF ?_ (fF ?_ (fF ?_ (fF ?_ (fF ?_ (fF ?_ (fF ?_ (fF ?_ (fF ?_ (fF ?_ (fN ?_ (fE 11 (fE 11 (aB 14 0 11 (by decide) (trivial)))))))))))))))) [] (fun q hq=>by cases hq) (fun hY=>absurd (hY 11 (by decide)) (by decide))
  ·exact fM 0 none y y y y (.inl y) y y y
  ·exact fM 1 none y y y y (.inl y) y y y
  ·refine fJ [(84,_)] 2 [some 1] fun G a w S=>?_
   exact nilCheck_ok (q:=⟨bb0,0,none⟩) S (wN y) y y y (lb y) fun a S=>leafL ⟨y,S⟩
  ·refine fJ [(85,_)] 3 [some 2] fun G a w S=>?_
   exact sField (b:=bb0) (off:=0) 4 4 S (wN y) y y y y y (lb y) fun a S=>leafL ⟨y,S⟩
  ·refine fJ [(86,_)] 4 [some 3] fun G a w S=>?_
   exact sLoad1 0 (.slice a9 a4.l.length aa) S (wN y) y y y y y y (lb y) fun a S=>leafL ⟨y,S⟩
  ·exact fM 5 none y y y y (.inl y) y y y
  ·refine fJ [(88,_)] 6 [some 5] fun G a w S=>?_
   exact nilCheck_ok (q:=⟨bb0,0,none⟩) S (wN y) y y y (lb y) fun a S=>leafL ⟨y,S⟩
  ·refine fJ [(89,_)] 7 [some 6] fun G a w S=>?_
   exact sField (b:=bb0) (off:=0) 4 4 S (wN y) y y y y y (lb y) fun a S=>leafL ⟨y,S⟩
  ·refine fJ [(90,_)] 8 [some 7] fun G a w S=>?_
   exact sLoad1 0 (.slice a9 a4.l.length aa) S (wN y) y y y y y y (lb y) fun a S=>leafL ⟨y,S⟩
  ·refine fJ [(91,_)] 9 [some 8] fun G a w S=>?_
   exact sLen S (wN y) y Try.underlying25 y y (lb y) fun a S=>leafL ⟨y,S⟩
  ·refine fJ [(92,_)] 10 [some 9] fun G a w S=>?_
   exact sBin _ S (wN y) y y y (bSub _ _ _ _ (a4.l.length:Int) 1) y (lb y) fun a S=>leafL ⟨y,S⟩
  refine ⟨_,[(87,.slice a9 a4.l.length aa),(93,iv (w64 ((a4.l.length:Int) - 1)))],y,(srcs_of [some 4,some 10] y y y),fun G a w S=>?_⟩
  refine sSliceT (r:=(rI .i64)) (T:=3) (ad:=a9) (c:=aa) (xs:=a4.l) (vlo:=none) (vhi:=(some (.int .i64 (w64 ((a4.l.length:Int) - 1))))) (hi':=w64 ((a4.l.length:Int) - 1)) 1 S (wN y) y Try.underlying25 y y y y y (.inr y) (.inl y) bg y (lb y) fun a S=>?_
  refine leafL ⟨y,_,_,.inl ⟨94,(.slice a9 aS.length aa),[(12,95,.pointer (some ⟨bb0,0,none⟩)),(13,96,.pointer (some ⟨bb0,4,none⟩))],y,S,hz_of y,?_⟩⟩
  refine node_by (A:=anc_reduce_search_from_s9_2) 15 (by kernel_rfl) (by kernel_rfl) (by kernel_rfl) (by kernel_rfl) (by kernel_rfl) [12,13,11,0,1,2,3,4,5,6,7,8,9,10] (by kernel_rfl) (by decide) (by decide) (fF ?_ (fD 11 (fD 11 (fD 11 (fD 11 (fD 11 (fD 11 (fD 11 (fD 11 (fD 11 (fD 11 (fY (fF ?_ (fF ?_ (fN ?_ (trivial)))))))))))))))) [] (fun q hq=>by cases hq) (fun hY=>absurd (hY 14 (by decide)) (by decide))
  ·exact fM 3 none y y y y (.inl y) y y y
  ·refine fJ [(83,_)] 0 [some 3] fun G a w S=>?_
   exact nilCheck_ok (q:=⟨bb0,0,none⟩) S (wN y) y y y (lb y) fun a S=>leafL ⟨y,S⟩
  ·refine fJ [(95,_)] 1 [some 0] fun G a w S=>?_
   exact sField (b:=bb0) (off:=0) 4 4 S (wN y) y y y y y (lb y) fun a S=>leafL ⟨y,S⟩
  refine ⟨_,[(94,.slice a9 aS.length aa),(96,.pointer (some ⟨bb0,4,none⟩))],y,(srcs_of [some 2,some 1] y y y),fun G a w S=>?_⟩
  refine sStore (p:=bb0) (off:=4) (T:=68) (vs:=[iv a4.g.W,iv a4.g.H,.slice a2 p0.g.Bits.length a3,iv a4.k,.slice a9 a4.l.length aa,.slice aQ a4.best.length aR,iv a4.least]) (v:=.slice a9 aS.length aa) 1 [.slice a9 aS.length aa] S (wN y) y y y y y y y (by simp) y fun a w S=>leafL ⟨y,_,_,.inr ⟨[],y,S,hz_of y,?_⟩⟩
  refine node_by (A:=anc_reduce_search_from_s9_2) 15 (by kernel_rfl) (by kernel_rfl) (by kernel_rfl) (by kernel_rfl) (by kernel_rfl) [12,13,11,0,1,2,3,4,5,6,7,8,9,10] (by kernel_rfl) (by decide) (by decide) (fD 14 (fD 14 (fD 14 (fD 14 (fD 14 (fD 14 (fD 14 (fD 14 (fD 14 (fD 14 (fD 14 (fY (fD 14 (fD 14 (fY (trivial)))))))))))))))) [(0,.pointer (some ⟨bb0,0,none⟩)),(1,iv p1),(63,iv (if p0.k < (w64 (p1 + 1)) then p0.k else w64 (p1 + 1))),(64,iv af)] (fin_of [none,none,none,none] y (by kernel_rfl) (by kernel_rfl)) (fun _ a w S=>?_)
  refine leafB (leafT (b4 _ _ ?_))
  refine sRegion (sBin _ S (wN y) y y y (bAdd _ _ _ _ af 1) y (lb y) fun a S=>sM S fun a S=>?_)
  exact lT (⟨(w64 (af + 1),a4.g.W,a4.g.H,a4.k,aS,a4.best,a4.least),(Option.some.inj h).symm,⟨a9,aa,aQ,aR,S.fix [0,1] [1,0] (by decide) y y y⟩⟩)
 refine sCondT S y aW ?_
 obtain ⟨bu,h,bv⟩:=bS h
 refine sCut (fun a w=>∃ o8,∃ aI,∃ bh,(o8,aI,bh)=bu∧∃ aU,∃ ax,∃ ay,∃ az,St [] E M9 w0 98 a w [] [eBox bb0 68 [iv p0.g.W,iv p0.g.H,.slice a2 p0.g.Bits.length a3,iv p0.k,.slice aU o8.length ax,.slice ay aI.length az,iv bh],eRow (rI .i64) 3 (.slice aU o8.length ax) o8] [fRep (rL rB) (.slice a2 p0.g.Bits.length a3) p0.g.Bits,fRep (rLz (rI .i64)) (.slice ay aI.length az) aI]) ?_ (fun a w hI=>?_)
 rotate_left
 ·obtain ⟨o8,aI,bh,rfl,aU,ax,ay,az,S⟩:=hI
  have h:=bv
  try dsimp only at h
  obtain rfl:=tS h
  exact wp_ret (rThen (sRet (.tuple #[]) S (rsl0 y ) ⟨(aU,ax,(.slice ay aI.length az)),y,S.mem.sel [0,1] [1] (by decide) y y⟩))
 obtain ⟨bw,h,bx⟩:=bS h
 refine sCut (fun a w=>∃ aw,∃ aj,(aw,aj)=bw∧∃ a5,∃ a6,St [] E M9 w0 98 a w [(0,.pointer (some ⟨bb0,0,none⟩)),(5,iv aw)] [eBox bb0 68 [iv p0.g.W,iv p0.g.H,.slice a2 p0.g.Bits.length a3,iv p0.k,.slice a5 aj.length a6,.slice ak p0.best.length al,iv p0.least],eRow (rI .i64) 3 (.slice a5 aj.length a6) aj] [fRep (rL rB) (.slice a2 p0.g.Bits.length a3) p0.g.Bits,fRep (rLz (rI .i64)) (.slice ak p0.best.length al) p0.best]) ?_ (fun a w hI=>?_)
 rotate_left
 ·obtain ⟨aw,aj,rfl,a5,a6,S⟩:=hI
  have h:=bx
  try dsimp only at h
  obtain ⟨bz,h,bA⟩:=bS h
  refine sCut (fun a w=>∃ bi,bi=bz∧St [] E M9 w0 98 a w [(0,.pointer (some ⟨bb0,0,none⟩)),(5,iv aw),(44,.bool bi)] [eBox bb0 68 [iv p0.g.W,iv p0.g.H,.slice a2 p0.g.Bits.length a3,iv p0.k,.slice a5 aj.length a6,.slice ak p0.best.length al,iv p0.least],eRow (rI .i64) 3 (.slice a5 aj.length a6) aj] [fRep (rL rB) (.slice a2 p0.g.Bits.length a3) p0.g.Bits,fRep (rLz (rI .i64)) (.slice ak p0.best.length al) p0.best]) ?_ (fun a w hI=>?_)
  ·refine sRegion (sM S fun a S=>?_)
   refine nilCheck_ok (q:=⟨bb0,0,none⟩) S (wN y) y y y (lb y) fun a S=>sField (b:=bb0) (off:=0) 5 5 S (wN y) y y y y y (lb y) fun a S=>sLoad1 0 (.slice ak p0.best.length al) S (wN y) y y y y y y (lb y) fun a S=>sBin _ S (wN y) y y y (bEqNilZ _ _ _ _ Try.underlying25 ak (p0.best.length) (al) (rLz_is (S.mem.know (i:=1) (e:=fRep (rLz (rI .i64)) (.slice ak p0.best.length al) p0.best) y))) y (lb y) fun a S=>sM S fun a S=>?_
   rcases iS h with ⟨ae,h⟩ | ⟨ae,h⟩
   ·refine sSkN 6 5 false 37 S y y ae y fun a S=>sPickT (.bool true) S (wN y) y y ae y y (lb y) fun a S=>?_
    exact lT (⟨true,Option.some.inj h,S.fix [0,1] [0,1] (by decide) y y y⟩)
   refine sMove (iv aw) S (wG 5 false 37 y y y ae) (.inl y) y y (lb y) fun a S=>sMove (.pointer (some ⟨bb0,0,none⟩)) S (wG 5 false 37 y y y ae) (.inl y) y y (lb y) fun a S=>nilCheck_ok (q:=⟨bb0,0,none⟩) S (wG 5 false 37 y y y ae) y y y (lb y) fun a S=>sField (b:=bb0) (off:=0) 6 6 S (wG 5 false 37 y y y ae) y y y y y (lb y) fun a S=>sLoad1 0 (iv p0.least) S (wG 5 false 37 y y y ae) y y y y y y (lb y) fun a S=>sBin _ S (wG 5 false 37 y y y ae) y y y (bLt _ _ _ _ .i64 aw p0.least) y (lb y) fun a S=>sPickF (.bool (decide (aw < p0.least))) S (wN y) y y ae y y (lb y) fun a S=>?_
   exact lT (⟨decide (aw < p0.least),Option.some.inj h,S.fix [0,1] [0,1] (by decide) y y y⟩)
  obtain ⟨bi,rfl,S⟩:=hI
  have h:=bA
  try dsimp only at h
  rcases iS h with ⟨aG,h⟩ | ⟨aG,h⟩
  rotate_left
  ·refine sCondF S y aG ?_
   exact wp_skip (leafT (⟨aj,p0.best,p0.least,Option.some.inj h,a5,a6,ak,al,S.fix [0,1] [0,1] (by decide) y y y⟩))
  refine sCondT S y aG (sRegion (sM S fun a S=>?_))
  refine sM S fun a S=>?_
  refine sM S fun a S=>?_
  refine nilCheck_ok (q:=⟨bb0,0,none⟩) S (wN y) y y y (lb y) fun a S=>sField (b:=bb0) (off:=0) 4 4 S (wN y) y y y y y (lb y) fun a S=>sLoad1 0 (.slice a5 aj.length a6) S (wN y) y y y y y y (lb y) fun a S=>?_
  obtain ⟨ag,bj,h⟩:=bS h
  refine sCall (X:=Option Addr × Nat) (f:=49) (vs:=[.slice a5 aj.length a6]) (val:=fun x=>.slice x.1 ag.1.length x.2) (B':=fun x=>[eRow (rI .i64) 3 (.slice x.1 ag.1.length x.2) ag.1,eRow (rI .i64) 3 (.slice a5 aj.length a6) ag.2]) (D':=fun _=>[]) [eRow (rI .i64) 3 (.slice a5 aj.length a6) aj] [eBox bb0 68 [iv p0.g.W,iv p0.g.H,.slice a2 p0.g.Bits.length a3,iv p0.k,.slice a5 aj.length a6,.slice ak p0.best.length al,iv p0.least]] [] [1,0] [] S (wN y) y callee49 y (by decide) y y (fun E1 w1 S1=>c_slices_Clone___int_int__s1 E1 w1 aj a5 a6 ag bj S1) y (lb y) fun xx a w S=>?_
  obtain ⟨ap,aq⟩:=xx
  dsimp only at S
  have bk:=row_v (S.mem.hold (i:=1) (e:=eRow (rI .i64) 3 (.slice a5 aj.length a6) ag.2) y)
  rw [bk] at S
  refine sM S fun a S=>?_
  refine nilCheck_ok (q:=⟨bb0,0,none⟩) S (wN y) y y y (lb y) fun a S=>sField (b:=bb0) (off:=0) 5 5 S (wN y) y y y y y (lb y) fun a S=>?_
  have S:=S.shutR (r:=(rI .i64)) (T:=3) (v:=.slice ap ag.1.length aq) (xs:=ag.1) 0 y
  obtain ⟨bK,bl,h⟩:=bS h
  have S:=S.learn (fRep (rLz (rI .i64)) (.slice ap ag.1.length aq) ag.1) (rLz_of (S.mem.know (i:=0) (e:=fRep (rL (rI .i64)) (.slice ap ag.1.length aq) ag.1) y) bl)
  refine sStore (p:=bb0) (off:=5) (T:=68) (vs:=[iv p0.g.W,iv p0.g.H,.slice a2 p0.g.Bits.length a3,iv p0.k,.slice a5 ag.2.length a6,.slice ak p0.best.length al,iv p0.least]) (v:=.slice ap ag.1.length aq) 1 [.slice ap ag.1.length aq] S (wN y) y y y y y y y (by simp) y fun a w S=>nilCheck_ok (q:=⟨bb0,0,none⟩) S (wN y) y y y (lb y) fun a S=>sField (b:=bb0) (off:=0) 6 6 S (wN y) y y y y y (lb y) fun a S=>sStore (p:=bb0) (off:=6) (T:=68) (vs:=[iv p0.g.W,iv p0.g.H,.slice a2 p0.g.Bits.length a3,iv p0.k,.slice a5 ag.2.length a6,.slice ap ag.1.length aq,iv p0.least]) (v:=iv aw) 0 [iv aw] S (wN y) y y y y y y y (by simp) y fun a w S=>?_
  exact lT (⟨ag.2,ag.1,aw,Option.some.inj h,a5,a6,ap,aq,S.fix [0,1] [2,0] (by decide) y y y⟩)
 obtain ⟨a0,aT,h⟩:=bS h
 refine sDraw (nf:=[8,13,14]) (W:=[(0,20,.pointer (some ⟨bb0,0,none⟩)),(1,21,.pointer (some ⟨bb0,0,none⟩)),(2,22,.pointer (some ⟨bb0,0,none⟩)),(3,23,.agg #[iv p0.g.W,iv p0.g.H,.slice a2 p0.g.Bits.length a3]),(4,24,.pointer (some ⟨bb0,0,none⟩)),(5,25,.pointer (some ⟨bb0,0,none⟩)),(6,26,.pointer (some ⟨bb0,4,none⟩)),(7,27,.slice ad_0_1 p0.l.length cp_0_1)]) y S ?_
 refine node_by (A:=anc_reduce_search_from_s9_1) 17 (by kernel_rfl) (by kernel_rfl) (by kernel_rfl) (by kernel_rfl) (by kernel_rfl) [0,1,2,3,4,5,6,7] (by kernel_rfl) (by decide) (by decide) (fF ?_ (fF ?_ (fF ?_ (fF ?_ (fF ?_ (fF ?_ (fF ?_ (fF ?_ (fN ?_ (fE 8 (fE 8 (fE 8 (fE 8 (fN ?_ (aB 14 2 8 (by decide) (fE 8 (fE 8 (trivial)))))))))))))))))) [] (fun q hq=>by cases hq) (fun hY=>absurd (hY 8 (by decide)) (by decide))
 ·exact fM 0 none y y y y (.inl y) y y y
 ·refine fJ [(20,_)] 1 [some 0] fun G a w S=>?_
  exact nilCheck_ok (q:=⟨bb0,0,none⟩) S (wN y) y y y (lb y) fun a S=>leafL ⟨y,S⟩
 ·refine fJ [(21,_)] 2 [some 1] fun G a w S=>?_
  exact sField (b:=bb0) (off:=0) 0 0 S (wN y) y y y y y (lb y) fun a S=>leafL ⟨y,S⟩
 ·refine fJ [(22,_)] 3 [some 2] fun G a w S=>?_
  exact sLoadN (p:=bb0) (off:=0) (T:=68) (vs:=[iv p0.g.W,iv p0.g.H,.slice a2 p0.g.Bits.length a3,iv p0.k,.slice ad_0_1 p0.l.length cp_0_1,.slice ak p0.best.length al,iv p0.least]) 0 [iv p0.g.W,iv p0.g.H,.slice a2 p0.g.Bits.length a3] S (wN y) y y y y y y y (lb y) fun a S=>leafL ⟨y,S⟩
 ·exact fM 4 none y y y y (.inl y) y y y
 ·refine fJ [(24,_)] 5 [some 4] fun G a w S=>?_
  exact nilCheck_ok (q:=⟨bb0,0,none⟩) S (wN y) y y y (lb y) fun a S=>leafL ⟨y,S⟩
 ·refine fJ [(25,_)] 6 [some 5] fun G a w S=>?_
  exact sField (b:=bb0) (off:=0) 4 4 S (wN y) y y y y y (lb y) fun a S=>leafL ⟨y,S⟩
 ·refine fJ [(26,_)] 7 [some 6] fun G a w S=>?_
  exact sLoad1 0 (.slice ad_0_1 p0.l.length cp_0_1) S (wN y) y y y y y y (lb y) fun a S=>leafL ⟨y,S⟩
 ·refine ⟨_,[(23,.agg #[iv p0.g.W,iv p0.g.H,.slice a2 p0.g.Bits.length a3]),(27,.slice ad_0_1 p0.l.length cp_0_1)],y,(srcs_of [some 3,some 7] y y y),fun G a w S=>?_⟩
  have S:=S.learn (fRep r_api_Grid (.agg #[iv p0.g.W,iv p0.g.H,.slice a2 p0.g.Bits.length a3]) p0.g) ⟨_,y,S.mem.know (i:=0) (e:=fRep (rL rB) (.slice a2 p0.g.Bits.length a3) p0.g.Bits) y⟩
  refine sCall (X:=Option Addr × Nat) (f:=12) (vs:=[.agg #[iv p0.g.W,iv p0.g.H,.slice a2 p0.g.Bits.length a3],.slice ad_0_1 p0.l.length cp_0_1]) (val:=fun x=>.tuple #[.agg #[iv a0.1.W,iv a0.1.H,.slice x.1 a0.1.Bits.length x.2],iv a0.2.1,iv a0.2.2.1]) (B':=fun x=>[eRow rB 4 (.slice x.1 a0.1.Bits.length x.2) a0.1.Bits,eRow (rI .i64) 3 (.slice ad_0_1 p0.l.length cp_0_1) a0.2.2.2]) (D':=fun _=>[]) [eRow (rI .i64) 3 (.slice ad_0_1 p0.l.length cp_0_1) p0.l] [eBox bb0 68 [iv p0.g.W,iv p0.g.H,.slice a2 p0.g.Bits.length a3,iv p0.k,.slice ad_0_1 p0.l.length cp_0_1,.slice ak p0.best.length al,iv p0.least]] [fRep r_api_Grid (.agg #[iv p0.g.W,iv p0.g.H,.slice a2 p0.g.Bits.length a3]) p0.g] [1,0] [0] S (wN y) y callee12 y (by decide) y y (fun E1 w1 S1=>c_reduce_Change_s1 E1 w1 p0.g (.agg #[iv p0.g.W,iv p0.g.H,.slice a2 p0.g.Bits.length a3]) p0.l ad_0_1 cp_0_1 a0 aT S1) y (lb y) fun xx a w S=>?_
  obtain ⟨a7,a8⟩:=xx
  dsimp only at S
  refine leafL ⟨y,_,_,.inl ⟨28,(.tuple #[.agg #[iv a0.1.W,iv a0.1.H,.slice a7 a0.1.Bits.length a8],iv a0.2.1,iv a0.2.2.1]),[(9,19,.tuple #[.agg #[iv a0.1.W,iv a0.1.H,.slice a7 a0.1.Bits.length a8],iv a0.2.1,iv a0.2.2.1]),(10,29,.agg #[iv a0.1.W,iv a0.1.H,.slice a7 a0.1.Bits.length a8]),(11,30,iv a0.2.1),(12,31,iv a0.2.2.1)],y,S,hz_of y,?_⟩⟩
  refine node_by (A:=anc_reduce_search_from_s9_1) 17 (by kernel_rfl) (by kernel_rfl) (by kernel_rfl) (by kernel_rfl) (by kernel_rfl) [9,10,11,12,8,0,1,2,3,4,5,6,7] (by kernel_rfl) (by decide) (by decide) (fD 8 (fD 8 (fD 8 (fD 8 (fD 8 (fD 8 (fD 8 (fD 8 (fY (fF ?_ (fF ?_ (fF ?_ (fF ?_ (fN ?_ (aB 14 2 13 (by decide) (fE 13 (fE 13 (trivial)))))))))))))))))) [] (fun q hq=>by cases hq) (fun hY=>absurd (hY 13 (by decide)) (by decide))
  ·exact fM 0 (some 4) y y y y (.inl y) y y y
  ·refine fJ [(19,_)] 1 [some 0] fun G a w S=>?_
   exact sExtract (vs:=[.agg #[iv a0.1.W,iv a0.1.H,.slice a7 a0.1.Bits.length a8],iv a0.2.1,iv a0.2.2.1]) (.agg #[iv a0.1.W,iv a0.1.H,.slice a7 a0.1.Bits.length a8]) S (wN y) y y y y (lb y) fun a S=>leafL ⟨y,S⟩
  ·refine fJ [(19,_)] 2 [some 0] fun G a w S=>?_
   exact sExtract (vs:=[.agg #[iv a0.1.W,iv a0.1.H,.slice a7 a0.1.Bits.length a8],iv a0.2.1,iv a0.2.2.1]) (iv a0.2.1) S (wN y) y y y y (lb y) fun a S=>leafL ⟨y,S⟩
  ·refine fJ [(19,_)] 3 [some 0] fun G a w S=>?_
   exact sExtract (vs:=[.agg #[iv a0.1.W,iv a0.1.H,.slice a7 a0.1.Bits.length a8],iv a0.2.1,iv a0.2.2.1]) (iv a0.2.2.1) S (wN y) y y y y (lb y) fun a S=>leafL ⟨y,S⟩
  refine ⟨_,[],y,(srcs_of [] y y y),fun G a w S=>?_⟩
  refine sAlloc (.agg #[iv 0,iv 0,.slice none 0 0]) S (wN y) y y [iv 0,iv 0,.slice none 0 0] y y (lb y) fun a bm w S=>leafL ⟨y,_,_,.inl ⟨4,(.pointer (some ⟨bm,0,none⟩)),[],y,S,hz_of y,?_⟩⟩
  refine node_by (A:=anc_reduce_search_from_s9_1) 17 (by kernel_rfl) (by kernel_rfl) (by kernel_rfl) (by kernel_rfl) (by kernel_rfl) [13,9,10,11,12,8,0,1,2,3,4,5,6,7] (by kernel_rfl) (by decide) (by decide) (fD 8 (fD 8 (fD 8 (fD 8 (fD 8 (fD 8 (fD 8 (fD 8 (fY (fF ?_ (fF ?_ (fF ?_ (fF ?_ (fY (fN ?_ (fE 14 (fE 14 (trivial)))))))))))))))))) [] (fun q hq=>by cases hq) (fun hY=>absurd (hY 14 (by decide)) (by decide))
  ·exact fM 1 (some 5) y y y y (.inl y) y y y
  ·refine fJ [(19,_)] 2 [some 1] fun G a w S=>?_
   exact sExtract (vs:=[.agg #[iv a0.1.W,iv a0.1.H,.slice a7 a0.1.Bits.length a8],iv a0.2.1,iv a0.2.2.1]) (.agg #[iv a0.1.W,iv a0.1.H,.slice a7 a0.1.Bits.length a8]) S (wN y) y y y y (lb y) fun a S=>leafL ⟨y,S⟩
  ·refine fJ [(19,_)] 3 [some 1] fun G a w S=>?_
   exact sExtract (vs:=[.agg #[iv a0.1.W,iv a0.1.H,.slice a7 a0.1.Bits.length a8],iv a0.2.1,iv a0.2.2.1]) (iv a0.2.1) S (wN y) y y y y (lb y) fun a S=>leafL ⟨y,S⟩
  ·refine fJ [(19,_)] 4 [some 1] fun G a w S=>?_
   exact sExtract (vs:=[.agg #[iv a0.1.W,iv a0.1.H,.slice a7 a0.1.Bits.length a8],iv a0.2.1,iv a0.2.2.1]) (iv a0.2.2.1) S (wN y) y y y y (lb y) fun a S=>leafL ⟨y,S⟩
  refine ⟨_,[(4,.pointer (some ⟨bm,0,none⟩)),(29,.agg #[iv a0.1.W,iv a0.1.H,.slice a7 a0.1.Bits.length a8])],y,(srcs_of [some 0,some 2] y y y),fun G a w S=>?_⟩
  refine sStore (p:=bm) (off:=0) (T:=24) (vs:=[iv 0,iv 0,.slice none 0 0]) (v:=.agg #[iv a0.1.W,iv a0.1.H,.slice a7 a0.1.Bits.length a8]) 0 [iv a0.1.W,iv a0.1.H,.slice a7 a0.1.Bits.length a8] S (wN y) y y y y y y y (by simp) y fun a w S=>leafL ⟨y,_,_,.inr ⟨[(15,5,iv a0.2.1),(16,6,iv a0.2.2.1)],y,S,hz_of y,?_⟩⟩
  refine node_by (A:=anc_reduce_search_from_s9_1) 17 (by kernel_rfl) (by kernel_rfl) (by kernel_rfl) (by kernel_rfl) (by kernel_rfl) [15,16,13,9,10,11,12,8,0,1,2,3,4,5,6,7] (by kernel_rfl) (by decide) (by decide) (fD 14 (fD 14 (fD 14 (fD 14 (fD 14 (fD 14 (fD 14 (fD 14 (fY (fD 14 (fD 14 (fF ?_ (fF ?_ (fY (fY (fF ?_ (fF ?_ (trivial)))))))))))))))))) [(0,.pointer (some ⟨bb0,0,none⟩)),(5,iv a0.2.1)] (fin_of [none,some 0] y (by kernel_rfl) (by kernel_rfl)) (fun _ a w S=>?_)
  ·refine fJ [(19,_)] 5 [some 3] fun G a w S=>?_
   exact sExtract (vs:=[.agg #[iv a0.1.W,iv a0.1.H,.slice a7 a0.1.Bits.length a8],iv a0.2.1,iv a0.2.2.1]) (iv a0.2.1) S (wN y) y y y y (lb y) fun a S=>leafL ⟨y,S⟩
  ·refine fJ [(19,_)] 6 [some 3] fun G a w S=>?_
   exact sExtract (vs:=[.agg #[iv a0.1.W,iv a0.1.H,.slice a7 a0.1.Bits.length a8],iv a0.2.1,iv a0.2.2.1]) (iv a0.2.2.1) S (wN y) y y y y (lb y) fun a S=>leafL ⟨y,S⟩
  ·exact fM 0 (some 5) y y y y (.inr y) y y y
  ·exact fM 1 (some 6) y y y y (.inr y) y y y
  have bn:=row_v (S.mem.hold (i:=2) (e:=eRow (rI .i64) 3 (.slice ad_0_1 p0.l.length cp_0_1) a0.2.2.2) y)
  rw [bn] at S
  exact leafT (⟨a0.2.1,a0.2.2.2,Option.some.inj h,ad_0_1,cp_0_1,S.fix [3,2] [1,2] (by decide) y y y⟩)
 refine ⟨_,[],y,(srcs_of [] y y y),fun G a w S=>?_⟩
 refine sAlloc (.agg #[iv 0,iv 0,.slice none 0 0]) S (wN y) y y [iv 0,iv 0,.slice none 0 0] y y (lb y) fun a aV w S=>leafL ⟨y,_,_,.inl ⟨4,(.pointer (some ⟨aV,0,none⟩)),[],y,S,hz_of y,?_⟩⟩
 refine node_by (A:=anc_reduce_search_from_s9_1) 17 (by kernel_rfl) (by kernel_rfl) (by kernel_rfl) (by kernel_rfl) (by kernel_rfl) [13,0,1,2,3,4,5,6,7] (by kernel_rfl) (by decide) (by decide) (fF ?_ (fF ?_ (fF ?_ (fF ?_ (fF ?_ (fF ?_ (fF ?_ (fF ?_ (fN ?_ (fE 8 (fE 8 (fE 8 (fE 8 (fY (aB 14 2 8 (by decide) (fE 8 (fE 8 (trivial)))))))))))))))))) [] (fun q hq=>by cases hq) (fun hY=>absurd (hY 8 (by decide)) (by decide))
 ·exact fM 1 none y y y y (.inl y) y y y
 ·refine fJ [(20,_)] 2 [some 1] fun G a w S=>?_
  exact nilCheck_ok (q:=⟨bb0,0,none⟩) S (wN y) y y y (lb y) fun a S=>leafL ⟨y,S⟩
 ·refine fJ [(21,_)] 3 [some 2] fun G a w S=>?_
  exact sField (b:=bb0) (off:=0) 0 0 S (wN y) y y y y y (lb y) fun a S=>leafL ⟨y,S⟩
 ·refine fJ [(22,_)] 4 [some 3] fun G a w S=>?_
  exact sLoadN (p:=bb0) (off:=0) (T:=68) (vs:=[iv p0.g.W,iv p0.g.H,.slice a2 p0.g.Bits.length a3,iv p0.k,.slice ad_0_1 p0.l.length cp_0_1,.slice ak p0.best.length al,iv p0.least]) 1 [iv p0.g.W,iv p0.g.H,.slice a2 p0.g.Bits.length a3] S (wN y) y y y y y y y (lb y) fun a S=>leafL ⟨y,S⟩
 ·exact fM 5 none y y y y (.inl y) y y y
 ·refine fJ [(24,_)] 6 [some 5] fun G a w S=>?_
  exact nilCheck_ok (q:=⟨bb0,0,none⟩) S (wN y) y y y (lb y) fun a S=>leafL ⟨y,S⟩
 ·refine fJ [(25,_)] 7 [some 6] fun G a w S=>?_
  exact sField (b:=bb0) (off:=0) 4 4 S (wN y) y y y y y (lb y) fun a S=>leafL ⟨y,S⟩
 ·refine fJ [(26,_)] 8 [some 7] fun G a w S=>?_
  exact sLoad1 1 (.slice ad_0_1 p0.l.length cp_0_1) S (wN y) y y y y y y (lb y) fun a S=>leafL ⟨y,S⟩
 refine ⟨_,[(23,.agg #[iv p0.g.W,iv p0.g.H,.slice a2 p0.g.Bits.length a3]),(27,.slice ad_0_1 p0.l.length cp_0_1)],y,(srcs_of [some 4,some 8] y y y),fun G a w S=>?_⟩
 have S:=S.learn (fRep r_api_Grid (.agg #[iv p0.g.W,iv p0.g.H,.slice a2 p0.g.Bits.length a3]) p0.g) ⟨_,y,S.mem.know (i:=0) (e:=fRep (rL rB) (.slice a2 p0.g.Bits.length a3) p0.g.Bits) y⟩
 refine sCall (X:=Option Addr × Nat) (f:=12) (vs:=[.agg #[iv p0.g.W,iv p0.g.H,.slice a2 p0.g.Bits.length a3],.slice ad_0_1 p0.l.length cp_0_1]) (val:=fun x=>.tuple #[.agg #[iv a0.1.W,iv a0.1.H,.slice x.1 a0.1.Bits.length x.2],iv a0.2.1,iv a0.2.2.1]) (B':=fun x=>[eRow rB 4 (.slice x.1 a0.1.Bits.length x.2) a0.1.Bits,eRow (rI .i64) 3 (.slice ad_0_1 p0.l.length cp_0_1) a0.2.2.2]) (D':=fun _=>[]) [eRow (rI .i64) 3 (.slice ad_0_1 p0.l.length cp_0_1) p0.l] [eBox aV 24 [iv 0,iv 0,.slice none 0 0],eBox bb0 68 [iv p0.g.W,iv p0.g.H,.slice a2 p0.g.Bits.length a3,iv p0.k,.slice ad_0_1 p0.l.length cp_0_1,.slice ak p0.best.length al,iv p0.least]] [fRep r_api_Grid (.agg #[iv p0.g.W,iv p0.g.H,.slice a2 p0.g.Bits.length a3]) p0.g] [2,0,1] [0] S (wN y) y callee12 y (by decide) y y (fun E1 w1 S1=>c_reduce_Change_s1 E1 w1 p0.g (.agg #[iv p0.g.W,iv p0.g.H,.slice a2 p0.g.Bits.length a3]) p0.l ad_0_1 cp_0_1 a0 aT S1) y (lb y) fun xx a w S=>?_
 obtain ⟨ab,ac⟩:=xx
 dsimp only at S
 refine leafL ⟨y,_,_,.inl ⟨28,(.tuple #[.agg #[iv a0.1.W,iv a0.1.H,.slice ab a0.1.Bits.length ac],iv a0.2.1,iv a0.2.2.1]),[(9,19,.tuple #[.agg #[iv a0.1.W,iv a0.1.H,.slice ab a0.1.Bits.length ac],iv a0.2.1,iv a0.2.2.1]),(10,29,.agg #[iv a0.1.W,iv a0.1.H,.slice ab a0.1.Bits.length ac]),(11,30,iv a0.2.1),(12,31,iv a0.2.2.1)],y,S,hz_of y,?_⟩⟩
 refine node_by (A:=anc_reduce_search_from_s9_1) 17 (by kernel_rfl) (by kernel_rfl) (by kernel_rfl) (by kernel_rfl) (by kernel_rfl) [9,10,11,12,8,13,0,1,2,3,4,5,6,7] (by kernel_rfl) (by decide) (by decide) (fD 8 (fD 8 (fD 8 (fD 8 (fD 8 (fD 8 (fD 8 (fD 8 (fY (fF ?_ (fF ?_ (fF ?_ (fF ?_ (fY (fN ?_ (fE 14 (fE 14 (trivial)))))))))))))))))) [] (fun q hq=>by cases hq) (fun hY=>absurd (hY 14 (by decide)) (by decide))
 ·exact fM 0 (some 4) y y y y (.inl y) y y y
 ·refine fJ [(19,_)] 1 [some 0] fun G a w S=>?_
  exact sExtract (vs:=[.agg #[iv a0.1.W,iv a0.1.H,.slice ab a0.1.Bits.length ac],iv a0.2.1,iv a0.2.2.1]) (.agg #[iv a0.1.W,iv a0.1.H,.slice ab a0.1.Bits.length ac]) S (wN y) y y y y (lb y) fun a S=>leafL ⟨y,S⟩
 ·refine fJ [(19,_)] 2 [some 0] fun G a w S=>?_
  exact sExtract (vs:=[.agg #[iv a0.1.W,iv a0.1.H,.slice ab a0.1.Bits.length ac],iv a0.2.1,iv a0.2.2.1]) (iv a0.2.1) S (wN y) y y y y (lb y) fun a S=>leafL ⟨y,S⟩
 ·refine fJ [(19,_)] 3 [some 0] fun G a w S=>?_
  exact sExtract (vs:=[.agg #[iv a0.1.W,iv a0.1.H,.slice ab a0.1.Bits.length ac],iv a0.2.1,iv a0.2.2.1]) (iv a0.2.2.1) S (wN y) y y y y (lb y) fun a S=>leafL ⟨y,S⟩
 refine ⟨_,[(4,.pointer (some ⟨aV,0,none⟩)),(29,.agg #[iv a0.1.W,iv a0.1.H,.slice ab a0.1.Bits.length ac])],y,(srcs_of [some 5,some 1] y y y),fun G a w S=>?_⟩
 refine sStore (p:=aV) (off:=0) (T:=24) (vs:=[iv 0,iv 0,.slice none 0 0]) (v:=.agg #[iv a0.1.W,iv a0.1.H,.slice ab a0.1.Bits.length ac]) 2 [iv a0.1.W,iv a0.1.H,.slice ab a0.1.Bits.length ac] S (wN y) y y y y y y y (by simp) y fun a w S=>leafL ⟨y,_,_,.inr ⟨[(15,5,iv a0.2.1),(16,6,iv a0.2.2.1)],y,S,hz_of y,?_⟩⟩
 refine node_by (A:=anc_reduce_search_from_s9_1) 17 (by kernel_rfl) (by kernel_rfl) (by kernel_rfl) (by kernel_rfl) (by kernel_rfl) [15,16,9,10,11,12,8,13,0,1,2,3,4,5,6,7] (by kernel_rfl) (by decide) (by decide) (fD 14 (fD 14 (fD 14 (fD 14 (fD 14 (fD 14 (fD 14 (fD 14 (fY (fD 14 (fD 14 (fF ?_ (fF ?_ (fY (fY (fF ?_ (fF ?_ (trivial)))))))))))))))))) [(0,.pointer (some ⟨bb0,0,none⟩)),(5,iv a0.2.1)] (fin_of [none,some 0] y (by kernel_rfl) (by kernel_rfl)) (fun _ a w S=>?_)
 ·refine fJ [(19,_)] 4 [some 2] fun G a w S=>?_
  exact sExtract (vs:=[.agg #[iv a0.1.W,iv a0.1.H,.slice ab a0.1.Bits.length ac],iv a0.2.1,iv a0.2.2.1]) (iv a0.2.1) S (wN y) y y y y (lb y) fun a S=>leafL ⟨y,S⟩
 ·refine fJ [(19,_)] 5 [some 2] fun G a w S=>?_
  exact sExtract (vs:=[.agg #[iv a0.1.W,iv a0.1.H,.slice ab a0.1.Bits.length ac],iv a0.2.1,iv a0.2.2.1]) (iv a0.2.2.1) S (wN y) y y y y (lb y) fun a S=>leafL ⟨y,S⟩
 ·exact fM 0 (some 4) y y y y (.inr y) y y y
 ·exact fM 1 (some 5) y y y y (.inr y) y y y
 have bo:=row_v (S.mem.hold (i:=2) (e:=eRow (rI .i64) 3 (.slice ad_0_1 p0.l.length cp_0_1) a0.2.2.2) y)
 rw [bo] at S
 exact leafT (⟨a0.2.1,a0.2.2.2,Option.some.inj h,ad_0_1,cp_0_1,S.fix [3,2] [1,2] (by decide) y y y⟩)
def anc_reduce_search_from_s8_0:List (List Nat):=[[],[0],[0,1],[0,1,2],[0,1,2,3],[],[5],[5,6],[5,6,7],[5,6,7,8],[0,1,2,3,4,5,6,7,8,9]]
def anc_reduce_search_from_s8_1:List (List Nat):=[[],[0],[0,1],[0,1,2],[],[4],[4,5],[4,5,6],[0,1,2,3,4,5,6,7],[0,1,2,3,4,5,6,7,8],[0,1,2,3,4,5,6,7,8,9],[0,1,2,3,4,5,6,7,8,9],[0,1,2,3,4,5,6,7,8,9],[],[0,1,2,3,4,5,6,7,8,9,10,13],[0,1,2,3,4,5,6,7,8,9,10,11,13,14],[0,1,2,3,4,5,6,7,8,9,10,11,12,13,14,15]]
def anc_reduce_search_from_s8_2:List (List Nat):=[[],[],[1],[1,2],[1,2,3],[],[5],[5,6],[5,6,7],[5,6,7,8],[5,6,7,8,9],[1,2,3,4,5,6,7,8,9,10],[0,1,2,3,4,5,6,7,8,9,10,11],[0,1,2,3,4,5,6,7,8,9,10,11,12],[0,1,2,3,4,5,6,7,8,9,10,11,12,13]]
noncomputable def reduce_search_from_s8_l1 (p0:reduce_search) (p1:Int):(Int × Int × Int × Int × List Int × List Int × Int)→Option ((Int × Int × Int × Int × List Int × List Int × Int) ⊕ (Int × Int × Int × List Int × List Int × Int)):=fun s0=>match s0 with
 | (a2,a3,a4,a5,a6,a7,a8)=>
  if decide (a2 < (if p0.k < (w64 (p1 + 1)) then p0.k else w64 (p1 + 1))) then
   (appO a6 ([a2]:List Int)).bind fun a9=>
   (F_reduce_search_from_s9 (reduce_search.mk (api_Grid.mk a3 a4 p0.g.Bits) a5 a9 a7 a8) (if p1 < (w64 (a2 + 1)) then w64 (a2 + 1) else p1)).bind fun a0=>
   (sliceO a0.l 0 (w64 ((a0.l.length:Int) - 1))).bind fun aa=>
   some (.inl (w64 (a2 + 1),a0.g.W,a0.g.H,a0.k,aa,a0.best,a0.least))
  else
   some (.inr (a3,a4,a5,a6,a7,a8))
noncomputable def F_reduce_search_from_s8 (p0:reduce_search) (p1:Int):Option reduce_search:=
 if (p0.l.length:Int) == p0.g.W then
  Option.bind (α:=(List Int × List Int × Int)) (
   Option.bind (α:=(Int × List Int)) (
    (F_reduce_Change_s1 p0.g p0.l).bind fun a2=>
    some (a2.2.1,a2.2.2.2)) fun (a3,a4)=>
   Option.bind (α:=Bool) (
    if p0.best.isEmpty then
     some true
    else
     some (decide (a3 < p0.least))) fun a5=>
   if a5 then
    (F_slices_Clone___int_int__s1 a4).bind fun a0=>
    (neO a0.1).bind fun af=>
    some (a0.2,a0.1,a3)
   else
    some (a4,p0.best,p0.least)) fun (o8,a6,a7)=>
  some (reduce_search.mk p0.g p0.k o8 a6 a7)
 else
  (whileO (reduce_search_from_s8_l1 p0 p1) (0,p0.g.W,p0.g.H,p0.k,p0.l,p0.best,p0.least)).bind fun (a8,a9,aa,ab,ac,ae)=>
   some (reduce_search.mk (api_Grid.mk a8 a9 p0.g.Bits) aa ab ac ae)
theorem c_reduce_search_from_s8 (E:Nat→Prop) (w0:World) (p0:reduce_search) (bb0:Nat) (u_0_0:Value) (ad_0_1:Option Addr) (cp_0_1:Nat) (u_0_2:Value) (p1:Int) (r:reduce_search) (h:F_reduce_search_from_s8 p0 p1=some r) (S:St0 E (keysL [eBox bb0 68 [iv p0.g.W,iv p0.g.H,u_0_0,iv p0.k,.slice ad_0_1 p0.l.length cp_0_1,u_0_2,iv p0.least],eRow (rI .i64) 3 (.slice ad_0_1 p0.l.length cp_0_1) p0.l]) w0 w0 [eBox bb0 68 [iv p0.g.W,iv p0.g.H,u_0_0,iv p0.k,.slice ad_0_1 p0.l.length cp_0_1,u_0_2,iv p0.least],eRow (rI .i64) 3 (.slice ad_0_1 p0.l.length cp_0_1) p0.l] [fRep (rL rB) (u_0_0) p0.g.Bits,fRep (rLz (rI .i64)) (u_0_2) p0.best]) :
 Calls Try.prog 41 #[.pointer (some ⟨bb0,0,none⟩),iv p1] w0 (Ret (X:=Option Addr × Nat × Value) E (keysL [eBox bb0 68 [iv p0.g.W,iv p0.g.H,u_0_0,iv p0.k,.slice ad_0_1 p0.l.length cp_0_1,u_0_2,iv p0.least],eRow (rI .i64) 3 (.slice ad_0_1 p0.l.length cp_0_1) p0.l]) w0 (fun _=>.tuple #[]) (fun x=>[eBox bb0 68 [iv r.g.W,iv r.g.H,u_0_0,iv r.k,.slice x.1 r.l.length x.2.1,x.2.2,iv r.least],eRow (rI .i64) 3 (.slice x.1 r.l.length x.2.1) r.l]) (fun x=>[fRep (rLz (rI .i64)) x.2.2 r.best])):=by
 unfold F_reduce_search_from_s8 at h
 obtain ⟨a2,a3,_,rfl,_⟩:=S.know (i:=0) (e:=fRep (rL rB) (u_0_0) p0.g.Bits) y
 obtain ⟨⟨ak,al,_,rfl,_⟩,_⟩:=S.know (i:=1) (e:=fRep (rLz (rI .i64)) (u_0_2) p0.best) y
 generalize (keysL [eBox bb0 68 [iv p0.g.W,iv p0.g.H,.slice a2 p0.g.Bits.length a3,iv p0.k,.slice ad_0_1 p0.l.length cp_0_1,.slice ak p0.best.length al,iv p0.least],eRow (rI .i64) 3 (.slice ad_0_1 p0.l.length cp_0_1) p0.l])=M9 at S ⊢
 refine sEnter (args:=[.pointer (some ⟨bb0,0,none⟩),iv p1]) 98 Try.func41 y y (by simp) S (fun a S=>?_)
 refine sSeq (fun K5 bp=>sSeq (fun K6 bq=>sDraw (nf:=[]) (W:=[(0,8,.pointer (some ⟨bb0,0,none⟩)),(1,9,.pointer (some ⟨bb0,0,none⟩)),(2,10,.pointer (some ⟨bb0,4,none⟩)),(3,11,.slice ad_0_1 p0.l.length cp_0_1),(4,12,iv (p0.l.length:Int)),(5,13,.pointer (some ⟨bb0,0,none⟩)),(6,14,.pointer (some ⟨bb0,0,none⟩)),(7,15,.pointer (some ⟨bb0,0,none⟩)),(8,16,.pointer (some ⟨bb0,0,none⟩)),(9,17,iv p0.g.W),(10,18,.bool ((p0.l.length:Int) == p0.g.W))]) y S ?_))
 refine node_by (A:=anc_reduce_search_from_s8_0) 11 (by kernel_rfl) (by kernel_rfl) (by kernel_rfl) (by kernel_rfl) (by kernel_rfl) [0,1,2,3,4,5,6,7,8,9,10] (by kernel_rfl) (by decide) (by decide) (fF ?_ (fF ?_ (fF ?_ (fF ?_ (fF ?_ (fF ?_ (fF ?_ (fF ?_ (fF ?_ (fF ?_ (fF ?_ (trivial)))))))))))) [(0,.pointer (some ⟨bb0,0,none⟩)),(1,iv p1),(18,.bool ((p0.l.length:Int) == p0.g.W))] (fin_of [none,none,some 10] y (by kernel_rfl) (by kernel_rfl)) (fun _ a w S=>?_)
 ·exact fM 0 none y y y y (.inl y) y y y
 ·refine fJ [(8,_)] 1 [some 0] fun G a w S=>?_
  exact nilCheck_ok (q:=⟨bb0,0,none⟩) S (wN y) y y y (lb y) fun a S=>leafL ⟨y,S⟩
 ·refine fJ [(9,_)] 2 [some 1] fun G a w S=>?_
  exact sField (b:=bb0) (off:=0) 4 4 S (wN y) y y y y y (lb y) fun a S=>leafL ⟨y,S⟩
 ·refine fJ [(10,_)] 3 [some 2] fun G a w S=>?_
  exact sLoad1 0 (.slice ad_0_1 p0.l.length cp_0_1) S (wN y) y y y y y y (lb y) fun a S=>leafL ⟨y,S⟩
 ·refine fJ [(11,_)] 4 [some 3] fun G a w S=>?_
  exact sLen S (wN y) y Try.underlying25 y y (lb y) fun a S=>leafL ⟨y,S⟩
 ·exact fM 5 none y y y y (.inl y) y y y
 ·refine fJ [(13,_)] 6 [some 5] fun G a w S=>?_
  exact nilCheck_ok (q:=⟨bb0,0,none⟩) S (wN y) y y y (lb y) fun a S=>leafL ⟨y,S⟩
 ·refine fJ [(14,_)] 7 [some 6] fun G a w S=>?_
  exact sField (b:=bb0) (off:=0) 0 0 S (wN y) y y y y y (lb y) fun a S=>leafL ⟨y,S⟩
 ·refine fJ [(15,_)] 8 [some 7] fun G a w S=>?_
  exact sField (b:=bb0) (off:=0) 0 0 S (wN y) y y y y y (lb y) fun a S=>leafL ⟨y,S⟩
 ·refine fJ [(16,_)] 9 [some 8] fun G a w S=>?_
  exact sLoad1 0 (iv p0.g.W) S (wN y) y y y y y y (lb y) fun a S=>leafL ⟨y,S⟩
 ·refine fJ [(12,_),(17,_)] 10 [some 4,some 9] fun G a w S=>?_
  exact sBin _ S (wN y) y y y (bEq _ _ _ _ .i64 (p0.l.length:Int) p0.g.W) y (lb y) fun a S=>leafL ⟨y,S⟩
 refine leafT (bq _ _ ?_)
 rcases iS h with ⟨aW,h⟩ | ⟨aW,h⟩
 rotate_left
 ·refine sCondF S y aW (wp_skip (leafT (bp _ _ ?_)))
  refine sSeq (fun bB aX=>sRegion (sM S fun a S=>?_))
  refine sBin _ S (wN y) y y y (bAdd _ _ _ _ p1 1) y (lb y) fun a S=>sM S fun a S=>?_
  refine nilCheck_ok (q:=⟨bb0,0,none⟩) S (wN y) y y y (lb y) fun a S=>sField (b:=bb0) (off:=0) 3 3 S (wN y) y y y y y (lb y) fun a S=>sLoad1 0 (iv p0.k) S (wN y) y y y y y y (lb y) fun a S=>sMin2 (p:=w64 (p1 + 1)) (q:=p0.k) S (wN y) y y y y (lb y) fun a S=>sM S fun a S=>?_
  refine lT (aX _ _ (wp_block ?_))
  obtain ⟨bC,hl,br⟩:=bS h
  refine sLoop hl (fun s0 a w=>match s0 with | (af,aJ,aK,aL,aA,ar,aM)=>∃ am,∃ ao,∃ ah,∃ ai,St [] E M9 w0 98 a w [(0,.pointer (some ⟨bb0,0,none⟩)),(1,iv p1),(63,iv (if p0.k < (w64 (p1 + 1)) then p0.k else w64 (p1 + 1))),(64,iv af)] [eBox bb0 68 [iv aJ,iv aK,.slice a2 p0.g.Bits.length a3,iv aL,.slice am aA.length ao,.slice ah ar.length ai,iv aM],eRow (rI .i64) 3 (.slice am aA.length ao) aA] [fRep (rL rB) (.slice a2 p0.g.Bits.length a3) p0.g.Bits,fRep (rLz (rI .i64)) (.slice ah ar.length ai) ar]) ⟨ad_0_1,cp_0_1,ak,al,S.fix [0,1] [0,1] (by decide) y y y⟩ ?_
  clear hl h
  intro s0 a w c0 hI h aZ
  obtain ⟨af,aJ,aK,aL,aA,ar,aM⟩:=s0
  unfold reduce_search_from_s8_l1 at h
  dsimp only at h hI
  obtain ⟨am,ao,ah,ai,S⟩:=hI
  refine sSeq (fun bD b1=>sRegion (sBin _ S (wN y) y y y (bLt _ _ _ _ .i64 af (if p0.k < (w64 (p1 + 1)) then p0.k else w64 (p1 + 1))) y (lb y) fun a S=>lT (b1 _ _ (sSeq (fun bE b3=>?_)))))
  rcases iS h with ⟨aC,h⟩ | ⟨aC,h⟩
  rotate_left
  ·refine sCondF S y aC ?_
   obtain rfl:=tS h
   obtain rfl:=aZ _ y
   have h:=br
   try dsimp only at h
   obtain rfl:=tS h
   exact wp_exit (xThen (xThen (xHit (sEnd (.tuple #[]) S (rsl0 y ) ⟨(am,ao,(.slice ah ar.length ai)),y,S.mem.sel [0,1] [1] (by decide) y y⟩))))
  refine sCondT S y aC (wp_skip (leafT (b3 _ _ ?_)))
  refine sSeq (fun bG b4=>wp_block ?_)
  refine sSeq (fun bH b5=>sRegion (sM S fun a S=>?_))
  refine sN S fun a S=>?_
  refine lT (b5 _ _ (sSeq (fun bI ba=>sRegion (sM S fun a S=>?_))))
  refine sM S fun a S=>?_
  refine nilCheck_ok (q:=⟨bb0,0,none⟩) S (wN y) y y y (lb y) fun a S=>sField (b:=bb0) (off:=0) 4 4 S (wN y) y y y y y (lb y) fun a S=>sLoad1 0 (.slice am aA.length ao) S (wN y) y y y y y y (lb y) fun a S=>sM S fun a S=>?_
  refine sLit (r:=(rI .i64)) (T:=3) (xs:=([af]:List Int)) [(0,iv af)] 1 [iv af] [iv af] (iv 0) 8 S (wN y) y y Try.underlying25 y (by decide) (by decide) (by kernel_rfl) y (fun E1 w1 hE=>All.cons y (All.nil _ _ _)) y y (lb y) fun a w aO aP S=>?_
  obtain ⟨aH,bb,h⟩:=bS h
  refine sApp (r:=(rI .i64)) (T:=3) (xs:=aA) (ys:=([af]:List Int)) (v:=.slice am aA.length ao) (u:=.slice aO ([af]:List Int).length aP) 2 (iv 0) 8 S (wN y) y Try.underlying25 y y (by decide) y y y (src_R (T:=3) 0 S.mem y) bb y (lb y) fun a w au av S=>nilCheck_ok (q:=⟨bb0,0,none⟩) S (wN y) y y y (lb y) fun a S=>sField (b:=bb0) (off:=0) 4 4 S (wN y) y y y y y (lb y) fun a S=>sStore (p:=bb0) (off:=4) (T:=68) (vs:=[iv aJ,iv aK,.slice a2 p0.g.Bits.length a3,iv aL,.slice am aA.length ao,.slice ah ar.length ai,iv aM]) (v:=.slice au aH.length av) 2 [.slice au aH.length av] S (wN y) y y y y y y y (by simp) y fun a w S=>lT (ba _ _ (sSeq (fun bJ bc=>sRegion (sM S fun a S=>?_))))
  refine sM S fun a S=>?_
  refine sM S fun a S=>?_
  refine sBin _ S (wN y) y y y (bAdd _ _ _ _ af 1) y (lb y) fun a S=>sMax2 (p:=p1) (q:=w64 (af + 1)) S (wN y) y y y y (lb y) fun a S=>?_
  obtain ⟨a4,bf,h⟩:=bS h
  refine sCall (X:=Option Addr × Nat × Value) (f:=41) (vs:=[.pointer (some ⟨bb0,0,none⟩),iv (if p1 < (w64 (af + 1)) then w64 (af + 1) else p1)]) (val:=fun _=>.tuple #[]) (B':=fun x=>[eBox bb0 68 [iv a4.g.W,iv a4.g.H,.slice a2 p0.g.Bits.length a3,iv a4.k,.slice x.1 a4.l.length x.2.1,x.2.2,iv a4.least],eRow (rI .i64) 3 (.slice x.1 a4.l.length x.2.1) a4.l]) (D':=fun x=>[fRep (rLz (rI .i64)) x.2.2 a4.best]) [eBox bb0 68 [iv aJ,iv aK,.slice a2 p0.g.Bits.length a3,iv aL,.slice au aH.length av,.slice ah ar.length ai,iv aM],eRow (rI .i64) 3 (.slice au aH.length av) aH] [eRow (rI .i64) 3 (.slice aO ([af]:List Int).length aP) ([af]:List Int)] [fRep (rL rB) (.slice a2 p0.g.Bits.length a3) p0.g.Bits,fRep (rLz (rI .i64)) (.slice ah ar.length ai) ar] [0,1,2] [0,1] S (wN y) y callee41 y (by decide) y y (fun E1 w1 S1=>c_reduce_search_from_s9 E1 w1 (reduce_search.mk (api_Grid.mk aJ aK p0.g.Bits) aL aH ar aM) bb0 (.slice a2 p0.g.Bits.length a3) au av (.slice ah ar.length ai) (if p1 < (w64 (af + 1)) then w64 (af + 1) else p1) a4 bf S1) y (lb y) fun xx a w S=>?_
  obtain ⟨a9,aa,bt⟩:=xx
  dsimp only at S
  obtain ⟨⟨aQ,aR,_,rfl,_⟩,_⟩:=S.mem.know (i:=0) (e:=fRep (rLz (rI .i64)) (bt) a4.best) y
  refine lT (bc _ _ ?_)
  obtain ⟨aS,bg,h⟩:=bS h
  refine sDraw (nf:=[11,14]) (W:=[(0,83,.pointer (some ⟨bb0,0,none⟩)),(1,84,.pointer (some ⟨bb0,0,none⟩)),(2,85,.pointer (some ⟨bb0,0,none⟩)),(3,86,.pointer (some ⟨bb0,4,none⟩)),(4,87,.slice a9 a4.l.length aa),(5,88,.pointer (some ⟨bb0,0,none⟩)),(6,89,.pointer (some ⟨bb0,0,none⟩)),(7,90,.pointer (some ⟨bb0,4,none⟩)),(8,91,.slice a9 a4.l.length aa),(9,92,iv (a4.l.length:Int)),(10,93,iv (w64 ((a4.l.length:Int) - 1)))]) y S ?_
  refine node_by (A:=anc_reduce_search_from_s8_2) 15 (by kernel_rfl) (by kernel_rfl) (by kernel_rfl) (by kernel_rfl) (by kernel_rfl) [0,1,2,3,4,5,6,7,8,9,10] (by kernel_rfl) (by decide) (by decide) (fF ?_ (fF ?_ (fF ?_ (fF ?_ (fF ?_ (fF ?_ (fF ?_ (fF ?_ (fF ?_ (fF ?_ (fF ?_ (fN ?_ (fE 11 (fE 11 (aB 14 0 11 (by decide) (trivial)))))))))))))))) [] (fun q hq=>by cases hq) (fun hY=>absurd (hY 11 (by decide)) (by decide))
  ·exact fM 0 none y y y y (.inl y) y y y
  ·exact fM 1 none y y y y (.inl y) y y y
  ·refine fJ [(84,_)] 2 [some 1] fun G a w S=>?_
   exact nilCheck_ok (q:=⟨bb0,0,none⟩) S (wN y) y y y (lb y) fun a S=>leafL ⟨y,S⟩
  ·refine fJ [(85,_)] 3 [some 2] fun G a w S=>?_
   exact sField (b:=bb0) (off:=0) 4 4 S (wN y) y y y y y (lb y) fun a S=>leafL ⟨y,S⟩
  ·refine fJ [(86,_)] 4 [some 3] fun G a w S=>?_
   exact sLoad1 0 (.slice a9 a4.l.length aa) S (wN y) y y y y y y (lb y) fun a S=>leafL ⟨y,S⟩
  ·exact fM 5 none y y y y (.inl y) y y y
  ·refine fJ [(88,_)] 6 [some 5] fun G a w S=>?_
   exact nilCheck_ok (q:=⟨bb0,0,none⟩) S (wN y) y y y (lb y) fun a S=>leafL ⟨y,S⟩
  ·refine fJ [(89,_)] 7 [some 6] fun G a w S=>?_
   exact sField (b:=bb0) (off:=0) 4 4 S (wN y) y y y y y (lb y) fun a S=>leafL ⟨y,S⟩
  ·refine fJ [(90,_)] 8 [some 7] fun G a w S=>?_
   exact sLoad1 0 (.slice a9 a4.l.length aa) S (wN y) y y y y y y (lb y) fun a S=>leafL ⟨y,S⟩
  ·refine fJ [(91,_)] 9 [some 8] fun G a w S=>?_
   exact sLen S (wN y) y Try.underlying25 y y (lb y) fun a S=>leafL ⟨y,S⟩
  ·refine fJ [(92,_)] 10 [some 9] fun G a w S=>?_
   exact sBin _ S (wN y) y y y (bSub _ _ _ _ (a4.l.length:Int) 1) y (lb y) fun a S=>leafL ⟨y,S⟩
  refine ⟨_,[(87,.slice a9 a4.l.length aa),(93,iv (w64 ((a4.l.length:Int) - 1)))],y,(srcs_of [some 4,some 10] y y y),fun G a w S=>?_⟩
  refine sSliceT (r:=(rI .i64)) (T:=3) (ad:=a9) (c:=aa) (xs:=a4.l) (vlo:=none) (vhi:=(some (.int .i64 (w64 ((a4.l.length:Int) - 1))))) (hi':=w64 ((a4.l.length:Int) - 1)) 1 S (wN y) y Try.underlying25 y y y y y (.inr y) (.inl y) bg y (lb y) fun a S=>?_
  refine leafL ⟨y,_,_,.inl ⟨94,(.slice a9 aS.length aa),[(12,95,.pointer (some ⟨bb0,0,none⟩)),(13,96,.pointer (some ⟨bb0,4,none⟩))],y,S,hz_of y,?_⟩⟩
  refine node_by (A:=anc_reduce_search_from_s8_2) 15 (by kernel_rfl) (by kernel_rfl) (by kernel_rfl) (by kernel_rfl) (by kernel_rfl) [12,13,11,0,1,2,3,4,5,6,7,8,9,10] (by kernel_rfl) (by decide) (by decide) (fF ?_ (fD 11 (fD 11 (fD 11 (fD 11 (fD 11 (fD 11 (fD 11 (fD 11 (fD 11 (fD 11 (fY (fF ?_ (fF ?_ (fN ?_ (trivial)))))))))))))))) [] (fun q hq=>by cases hq) (fun hY=>absurd (hY 14 (by decide)) (by decide))
  ·exact fM 3 none y y y y (.inl y) y y y
  ·refine fJ [(83,_)] 0 [some 3] fun G a w S=>?_
   exact nilCheck_ok (q:=⟨bb0,0,none⟩) S (wN y) y y y (lb y) fun a S=>leafL ⟨y,S⟩
  ·refine fJ [(95,_)] 1 [some 0] fun G a w S=>?_
   exact sField (b:=bb0) (off:=0) 4 4 S (wN y) y y y y y (lb y) fun a S=>leafL ⟨y,S⟩
  refine ⟨_,[(94,.slice a9 aS.length aa),(96,.pointer (some ⟨bb0,4,none⟩))],y,(srcs_of [some 2,some 1] y y y),fun G a w S=>?_⟩
  refine sStore (p:=bb0) (off:=4) (T:=68) (vs:=[iv a4.g.W,iv a4.g.H,.slice a2 p0.g.Bits.length a3,iv a4.k,.slice a9 a4.l.length aa,.slice aQ a4.best.length aR,iv a4.least]) (v:=.slice a9 aS.length aa) 1 [.slice a9 aS.length aa] S (wN y) y y y y y y y (by simp) y fun a w S=>leafL ⟨y,_,_,.inr ⟨[],y,S,hz_of y,?_⟩⟩
  refine node_by (A:=anc_reduce_search_from_s8_2) 15 (by kernel_rfl) (by kernel_rfl) (by kernel_rfl) (by kernel_rfl) (by kernel_rfl) [12,13,11,0,1,2,3,4,5,6,7,8,9,10] (by kernel_rfl) (by decide) (by decide) (fD 14 (fD 14 (fD 14 (fD 14 (fD 14 (fD 14 (fD 14 (fD 14 (fD 14 (fD 14 (fD 14 (fY (fD 14 (fD 14 (fY (trivial)))))))))))))))) [(0,.pointer (some ⟨bb0,0,none⟩)),(1,iv p1),(63,iv (if p0.k < (w64 (p1 + 1)) then p0.k else w64 (p1 + 1))),(64,iv af)] (fin_of [none,none,none,none] y (by kernel_rfl) (by kernel_rfl)) (fun _ a w S=>?_)
  refine leafB (leafT (b4 _ _ ?_))
  refine sRegion (sBin _ S (wN y) y y y (bAdd _ _ _ _ af 1) y (lb y) fun a S=>sM S fun a S=>?_)
  exact lT (⟨(w64 (af + 1),a4.g.W,a4.g.H,a4.k,aS,a4.best,a4.least),(Option.some.inj h).symm,⟨a9,aa,aQ,aR,S.fix [0,1] [1,0] (by decide) y y y⟩⟩)
 refine sCondT S y aW ?_
 obtain ⟨bu,h,bv⟩:=bS h
 refine sCut (fun a w=>∃ o8,∃ aI,∃ bh,(o8,aI,bh)=bu∧∃ aU,∃ ax,∃ ay,∃ az,St [] E M9 w0 98 a w [] [eBox bb0 68 [iv p0.g.W,iv p0.g.H,.slice a2 p0.g.Bits.length a3,iv p0.k,.slice aU o8.length ax,.slice ay aI.length az,iv bh],eRow (rI .i64) 3 (.slice aU o8.length ax) o8] [fRep (rL rB) (.slice a2 p0.g.Bits.length a3) p0.g.Bits,fRep (rLz (rI .i64)) (.slice ay aI.length az) aI]) ?_ (fun a w hI=>?_)
 rotate_left
 ·obtain ⟨o8,aI,bh,rfl,aU,ax,ay,az,S⟩:=hI
  have h:=bv
  try dsimp only at h
  obtain rfl:=tS h
  exact wp_ret (rThen (sRet (.tuple #[]) S (rsl0 y ) ⟨(aU,ax,(.slice ay aI.length az)),y,S.mem.sel [0,1] [1] (by decide) y y⟩))
 obtain ⟨bw,h,bx⟩:=bS h
 refine sCut (fun a w=>∃ aw,∃ aj,(aw,aj)=bw∧∃ a5,∃ a6,St [] E M9 w0 98 a w [(0,.pointer (some ⟨bb0,0,none⟩)),(5,iv aw)] [eBox bb0 68 [iv p0.g.W,iv p0.g.H,.slice a2 p0.g.Bits.length a3,iv p0.k,.slice a5 aj.length a6,.slice ak p0.best.length al,iv p0.least],eRow (rI .i64) 3 (.slice a5 aj.length a6) aj] [fRep (rL rB) (.slice a2 p0.g.Bits.length a3) p0.g.Bits,fRep (rLz (rI .i64)) (.slice ak p0.best.length al) p0.best]) ?_ (fun a w hI=>?_)
 rotate_left
 ·obtain ⟨aw,aj,rfl,a5,a6,S⟩:=hI
  have h:=bx
  try dsimp only at h
  obtain ⟨bz,h,bA⟩:=bS h
  refine sCut (fun a w=>∃ bi,bi=bz∧St [] E M9 w0 98 a w [(0,.pointer (some ⟨bb0,0,none⟩)),(5,iv aw),(44,.bool bi)] [eBox bb0 68 [iv p0.g.W,iv p0.g.H,.slice a2 p0.g.Bits.length a3,iv p0.k,.slice a5 aj.length a6,.slice ak p0.best.length al,iv p0.least],eRow (rI .i64) 3 (.slice a5 aj.length a6) aj] [fRep (rL rB) (.slice a2 p0.g.Bits.length a3) p0.g.Bits,fRep (rLz (rI .i64)) (.slice ak p0.best.length al) p0.best]) ?_ (fun a w hI=>?_)
  ·refine sRegion (sM S fun a S=>?_)
   refine nilCheck_ok (q:=⟨bb0,0,none⟩) S (wN y) y y y (lb y) fun a S=>sField (b:=bb0) (off:=0) 5 5 S (wN y) y y y y y (lb y) fun a S=>sLoad1 0 (.slice ak p0.best.length al) S (wN y) y y y y y y (lb y) fun a S=>sBin _ S (wN y) y y y (bEqNilZ _ _ _ _ Try.underlying25 ak (p0.best.length) (al) (rLz_is (S.mem.know (i:=1) (e:=fRep (rLz (rI .i64)) (.slice ak p0.best.length al) p0.best) y))) y (lb y) fun a S=>sM S fun a S=>?_
   rcases iS h with ⟨ae,h⟩ | ⟨ae,h⟩
   ·refine sSkN 6 5 false 37 S y y ae y fun a S=>sPickT (.bool true) S (wN y) y y ae y y (lb y) fun a S=>?_
    exact lT (⟨true,Option.some.inj h,S.fix [0,1] [0,1] (by decide) y y y⟩)
   refine sMove (iv aw) S (wG 5 false 37 y y y ae) (.inl y) y y (lb y) fun a S=>sMove (.pointer (some ⟨bb0,0,none⟩)) S (wG 5 false 37 y y y ae) (.inl y) y y (lb y) fun a S=>nilCheck_ok (q:=⟨bb0,0,none⟩) S (wG 5 false 37 y y y ae) y y y (lb y) fun a S=>sField (b:=bb0) (off:=0) 6 6 S (wG 5 false 37 y y y ae) y y y y y (lb y) fun a S=>sLoad1 0 (iv p0.least) S (wG 5 false 37 y y y ae) y y y y y y (lb y) fun a S=>sBin _ S (wG 5 false 37 y y y ae) y y y (bLt _ _ _ _ .i64 aw p0.least) y (lb y) fun a S=>sPickF (.bool (decide (aw < p0.least))) S (wN y) y y ae y y (lb y) fun a S=>?_
   exact lT (⟨decide (aw < p0.least),Option.some.inj h,S.fix [0,1] [0,1] (by decide) y y y⟩)
  obtain ⟨bi,rfl,S⟩:=hI
  have h:=bA
  try dsimp only at h
  rcases iS h with ⟨aG,h⟩ | ⟨aG,h⟩
  rotate_left
  ·refine sCondF S y aG ?_
   exact wp_skip (leafT (⟨aj,p0.best,p0.least,Option.some.inj h,a5,a6,ak,al,S.fix [0,1] [0,1] (by decide) y y y⟩))
  refine sCondT S y aG (sRegion (sM S fun a S=>?_))
  refine sM S fun a S=>?_
  refine sM S fun a S=>?_
  refine nilCheck_ok (q:=⟨bb0,0,none⟩) S (wN y) y y y (lb y) fun a S=>sField (b:=bb0) (off:=0) 4 4 S (wN y) y y y y y (lb y) fun a S=>sLoad1 0 (.slice a5 aj.length a6) S (wN y) y y y y y y (lb y) fun a S=>?_
  obtain ⟨ag,bj,h⟩:=bS h
  refine sCall (X:=Option Addr × Nat) (f:=49) (vs:=[.slice a5 aj.length a6]) (val:=fun x=>.slice x.1 ag.1.length x.2) (B':=fun x=>[eRow (rI .i64) 3 (.slice x.1 ag.1.length x.2) ag.1,eRow (rI .i64) 3 (.slice a5 aj.length a6) ag.2]) (D':=fun _=>[]) [eRow (rI .i64) 3 (.slice a5 aj.length a6) aj] [eBox bb0 68 [iv p0.g.W,iv p0.g.H,.slice a2 p0.g.Bits.length a3,iv p0.k,.slice a5 aj.length a6,.slice ak p0.best.length al,iv p0.least]] [] [1,0] [] S (wN y) y callee49 y (by decide) y y (fun E1 w1 S1=>c_slices_Clone___int_int__s1 E1 w1 aj a5 a6 ag bj S1) y (lb y) fun xx a w S=>?_
  obtain ⟨ap,aq⟩:=xx
  dsimp only at S
  have bk:=row_v (S.mem.hold (i:=1) (e:=eRow (rI .i64) 3 (.slice a5 aj.length a6) ag.2) y)
  rw [bk] at S
  refine sM S fun a S=>?_
  refine nilCheck_ok (q:=⟨bb0,0,none⟩) S (wN y) y y y (lb y) fun a S=>sField (b:=bb0) (off:=0) 5 5 S (wN y) y y y y y (lb y) fun a S=>?_
  have S:=S.shutR (r:=(rI .i64)) (T:=3) (v:=.slice ap ag.1.length aq) (xs:=ag.1) 0 y
  obtain ⟨bK,bl,h⟩:=bS h
  have S:=S.learn (fRep (rLz (rI .i64)) (.slice ap ag.1.length aq) ag.1) (rLz_of (S.mem.know (i:=0) (e:=fRep (rL (rI .i64)) (.slice ap ag.1.length aq) ag.1) y) bl)
  refine sStore (p:=bb0) (off:=5) (T:=68) (vs:=[iv p0.g.W,iv p0.g.H,.slice a2 p0.g.Bits.length a3,iv p0.k,.slice a5 ag.2.length a6,.slice ak p0.best.length al,iv p0.least]) (v:=.slice ap ag.1.length aq) 1 [.slice ap ag.1.length aq] S (wN y) y y y y y y y (by simp) y fun a w S=>nilCheck_ok (q:=⟨bb0,0,none⟩) S (wN y) y y y (lb y) fun a S=>sField (b:=bb0) (off:=0) 6 6 S (wN y) y y y y y (lb y) fun a S=>sStore (p:=bb0) (off:=6) (T:=68) (vs:=[iv p0.g.W,iv p0.g.H,.slice a2 p0.g.Bits.length a3,iv p0.k,.slice a5 ag.2.length a6,.slice ap ag.1.length aq,iv p0.least]) (v:=iv aw) 0 [iv aw] S (wN y) y y y y y y y (by simp) y fun a w S=>?_
  exact lT (⟨ag.2,ag.1,aw,Option.some.inj h,a5,a6,ap,aq,S.fix [0,1] [2,0] (by decide) y y y⟩)
 obtain ⟨a0,aT,h⟩:=bS h
 refine sDraw (nf:=[8,13,14]) (W:=[(0,20,.pointer (some ⟨bb0,0,none⟩)),(1,21,.pointer (some ⟨bb0,0,none⟩)),(2,22,.pointer (some ⟨bb0,0,none⟩)),(3,23,.agg #[iv p0.g.W,iv p0.g.H,.slice a2 p0.g.Bits.length a3]),(4,24,.pointer (some ⟨bb0,0,none⟩)),(5,25,.pointer (some ⟨bb0,0,none⟩)),(6,26,.pointer (some ⟨bb0,4,none⟩)),(7,27,.slice ad_0_1 p0.l.length cp_0_1)]) y S ?_
 refine node_by (A:=anc_reduce_search_from_s8_1) 17 (by kernel_rfl) (by kernel_rfl) (by kernel_rfl) (by kernel_rfl) (by kernel_rfl) [0,1,2,3,4,5,6,7] (by kernel_rfl) (by decide) (by decide) (fF ?_ (fF ?_ (fF ?_ (fF ?_ (fF ?_ (fF ?_ (fF ?_ (fF ?_ (fN ?_ (fE 8 (fE 8 (fE 8 (fE 8 (fN ?_ (aB 14 2 8 (by decide) (fE 8 (fE 8 (trivial)))))))))))))))))) [] (fun q hq=>by cases hq) (fun hY=>absurd (hY 8 (by decide)) (by decide))
 ·exact fM 0 none y y y y (.inl y) y y y
 ·refine fJ [(20,_)] 1 [some 0] fun G a w S=>?_
  exact nilCheck_ok (q:=⟨bb0,0,none⟩) S (wN y) y y y (lb y) fun a S=>leafL ⟨y,S⟩
 ·refine fJ [(21,_)] 2 [some 1] fun G a w S=>?_
  exact sField (b:=bb0) (off:=0) 0 0 S (wN y) y y y y y (lb y) fun a S=>leafL ⟨y,S⟩
 ·refine fJ [(22,_)] 3 [some 2] fun G a w S=>?_
  exact sLoadN (p:=bb0) (off:=0) (T:=68) (vs:=[iv p0.g.W,iv p0.g.H,.slice a2 p0.g.Bits.length a3,iv p0.k,.slice ad_0_1 p0.l.length cp_0_1,.slice ak p0.best.length al,iv p0.least]) 0 [iv p0.g.W,iv p0.g.H,.slice a2 p0.g.Bits.length a3] S (wN y) y y y y y y y (lb y) fun a S=>leafL ⟨y,S⟩
 ·exact fM 4 none y y y y (.inl y) y y y
 ·refine fJ [(24,_)] 5 [some 4] fun G a w S=>?_
  exact nilCheck_ok (q:=⟨bb0,0,none⟩) S (wN y) y y y (lb y) fun a S=>leafL ⟨y,S⟩
 ·refine fJ [(25,_)] 6 [some 5] fun G a w S=>?_
  exact sField (b:=bb0) (off:=0) 4 4 S (wN y) y y y y y (lb y) fun a S=>leafL ⟨y,S⟩
 ·refine fJ [(26,_)] 7 [some 6] fun G a w S=>?_
  exact sLoad1 0 (.slice ad_0_1 p0.l.length cp_0_1) S (wN y) y y y y y y (lb y) fun a S=>leafL ⟨y,S⟩
 ·refine ⟨_,[(23,.agg #[iv p0.g.W,iv p0.g.H,.slice a2 p0.g.Bits.length a3]),(27,.slice ad_0_1 p0.l.length cp_0_1)],y,(srcs_of [some 3,some 7] y y y),fun G a w S=>?_⟩
  have S:=S.learn (fRep r_api_Grid (.agg #[iv p0.g.W,iv p0.g.H,.slice a2 p0.g.Bits.length a3]) p0.g) ⟨_,y,S.mem.know (i:=0) (e:=fRep (rL rB) (.slice a2 p0.g.Bits.length a3) p0.g.Bits) y⟩
  refine sCall (X:=Option Addr × Nat) (f:=12) (vs:=[.agg #[iv p0.g.W,iv p0.g.H,.slice a2 p0.g.Bits.length a3],.slice ad_0_1 p0.l.length cp_0_1]) (val:=fun x=>.tuple #[.agg #[iv a0.1.W,iv a0.1.H,.slice x.1 a0.1.Bits.length x.2],iv a0.2.1,iv a0.2.2.1]) (B':=fun x=>[eRow rB 4 (.slice x.1 a0.1.Bits.length x.2) a0.1.Bits,eRow (rI .i64) 3 (.slice ad_0_1 p0.l.length cp_0_1) a0.2.2.2]) (D':=fun _=>[]) [eRow (rI .i64) 3 (.slice ad_0_1 p0.l.length cp_0_1) p0.l] [eBox bb0 68 [iv p0.g.W,iv p0.g.H,.slice a2 p0.g.Bits.length a3,iv p0.k,.slice ad_0_1 p0.l.length cp_0_1,.slice ak p0.best.length al,iv p0.least]] [fRep r_api_Grid (.agg #[iv p0.g.W,iv p0.g.H,.slice a2 p0.g.Bits.length a3]) p0.g] [1,0] [0] S (wN y) y callee12 y (by decide) y y (fun E1 w1 S1=>c_reduce_Change_s1 E1 w1 p0.g (.agg #[iv p0.g.W,iv p0.g.H,.slice a2 p0.g.Bits.length a3]) p0.l ad_0_1 cp_0_1 a0 aT S1) y (lb y) fun xx a w S=>?_
  obtain ⟨a7,a8⟩:=xx
  dsimp only at S
  refine leafL ⟨y,_,_,.inl ⟨28,(.tuple #[.agg #[iv a0.1.W,iv a0.1.H,.slice a7 a0.1.Bits.length a8],iv a0.2.1,iv a0.2.2.1]),[(9,19,.tuple #[.agg #[iv a0.1.W,iv a0.1.H,.slice a7 a0.1.Bits.length a8],iv a0.2.1,iv a0.2.2.1]),(10,29,.agg #[iv a0.1.W,iv a0.1.H,.slice a7 a0.1.Bits.length a8]),(11,30,iv a0.2.1),(12,31,iv a0.2.2.1)],y,S,hz_of y,?_⟩⟩
  refine node_by (A:=anc_reduce_search_from_s8_1) 17 (by kernel_rfl) (by kernel_rfl) (by kernel_rfl) (by kernel_rfl) (by kernel_rfl) [9,10,11,12,8,0,1,2,3,4,5,6,7] (by kernel_rfl) (by decide) (by decide) (fD 8 (fD 8 (fD 8 (fD 8 (fD 8 (fD 8 (fD 8 (fD 8 (fY (fF ?_ (fF ?_ (fF ?_ (fF ?_ (fN ?_ (aB 14 2 13 (by decide) (fE 13 (fE 13 (trivial)))))))))))))))))) [] (fun q hq=>by cases hq) (fun hY=>absurd (hY 13 (by decide)) (by decide))
  ·exact fM 0 (some 4) y y y y (.inl y) y y y
  ·refine fJ [(19,_)] 1 [some 0] fun G a w S=>?_
   exact sExtract (vs:=[.agg #[iv a0.1.W,iv a0.1.H,.slice a7 a0.1.Bits.length a8],iv a0.2.1,iv a0.2.2.1]) (.agg #[iv a0.1.W,iv a0.1.H,.slice a7 a0.1.Bits.length a8]) S (wN y) y y y y (lb y) fun a S=>leafL ⟨y,S⟩
  ·refine fJ [(19,_)] 2 [some 0] fun G a w S=>?_
   exact sExtract (vs:=[.agg #[iv a0.1.W,iv a0.1.H,.slice a7 a0.1.Bits.length a8],iv a0.2.1,iv a0.2.2.1]) (iv a0.2.1) S (wN y) y y y y (lb y) fun a S=>leafL ⟨y,S⟩
  ·refine fJ [(19,_)] 3 [some 0] fun G a w S=>?_
   exact sExtract (vs:=[.agg #[iv a0.1.W,iv a0.1.H,.slice a7 a0.1.Bits.length a8],iv a0.2.1,iv a0.2.2.1]) (iv a0.2.2.1) S (wN y) y y y y (lb y) fun a S=>leafL ⟨y,S⟩
  refine ⟨_,[],y,(srcs_of [] y y y),fun G a w S=>?_⟩
  refine sAlloc (.agg #[iv 0,iv 0,.slice none 0 0]) S (wN y) y y [iv 0,iv 0,.slice none 0 0] y y (lb y) fun a bm w S=>leafL ⟨y,_,_,.inl ⟨4,(.pointer (some ⟨bm,0,none⟩)),[],y,S,hz_of y,?_⟩⟩
  refine node_by (A:=anc_reduce_search_from_s8_1) 17 (by kernel_rfl) (by kernel_rfl) (by kernel_rfl) (by kernel_rfl) (by kernel_rfl) [13,9,10,11,12,8,0,1,2,3,4,5,6,7] (by kernel_rfl) (by decide) (by decide) (fD 8 (fD 8 (fD 8 (fD 8 (fD 8 (fD 8 (fD 8 (fD 8 (fY (fF ?_ (fF ?_ (fF ?_ (fF ?_ (fY (fN ?_ (fE 14 (fE 14 (trivial)))))))))))))))))) [] (fun q hq=>by cases hq) (fun hY=>absurd (hY 14 (by decide)) (by decide))
  ·exact fM 1 (some 5) y y y y (.inl y) y y y
  ·refine fJ [(19,_)] 2 [some 1] fun G a w S=>?_
   exact sExtract (vs:=[.agg #[iv a0.1.W,iv a0.1.H,.slice a7 a0.1.Bits.length a8],iv a0.2.1,iv a0.2.2.1]) (.agg #[iv a0.1.W,iv a0.1.H,.slice a7 a0.1.Bits.length a8]) S (wN y) y y y y (lb y) fun a S=>leafL ⟨y,S⟩
  ·refine fJ [(19,_)] 3 [some 1] fun G a w S=>?_
   exact sExtract (vs:=[.agg #[iv a0.1.W,iv a0.1.H,.slice a7 a0.1.Bits.length a8],iv a0.2.1,iv a0.2.2.1]) (iv a0.2.1) S (wN y) y y y y (lb y) fun a S=>leafL ⟨y,S⟩
  ·refine fJ [(19,_)] 4 [some 1] fun G a w S=>?_
   exact sExtract (vs:=[.agg #[iv a0.1.W,iv a0.1.H,.slice a7 a0.1.Bits.length a8],iv a0.2.1,iv a0.2.2.1]) (iv a0.2.2.1) S (wN y) y y y y (lb y) fun a S=>leafL ⟨y,S⟩
  refine ⟨_,[(4,.pointer (some ⟨bm,0,none⟩)),(29,.agg #[iv a0.1.W,iv a0.1.H,.slice a7 a0.1.Bits.length a8])],y,(srcs_of [some 0,some 2] y y y),fun G a w S=>?_⟩
  refine sStore (p:=bm) (off:=0) (T:=24) (vs:=[iv 0,iv 0,.slice none 0 0]) (v:=.agg #[iv a0.1.W,iv a0.1.H,.slice a7 a0.1.Bits.length a8]) 0 [iv a0.1.W,iv a0.1.H,.slice a7 a0.1.Bits.length a8] S (wN y) y y y y y y y (by simp) y fun a w S=>leafL ⟨y,_,_,.inr ⟨[(15,5,iv a0.2.1),(16,6,iv a0.2.2.1)],y,S,hz_of y,?_⟩⟩
  refine node_by (A:=anc_reduce_search_from_s8_1) 17 (by kernel_rfl) (by kernel_rfl) (by kernel_rfl) (by kernel_rfl) (by kernel_rfl) [15,16,13,9,10,11,12,8,0,1,2,3,4,5,6,7] (by kernel_rfl) (by decide) (by decide) (fD 14 (fD 14 (fD 14 (fD 14 (fD 14 (fD 14 (fD 14 (fD 14 (fY (fD 14 (fD 14 (fF ?_ (fF ?_ (fY (fY (fF ?_ (fF ?_ (trivial)))))))))))))))))) [(0,.pointer (some ⟨bb0,0,none⟩)),(5,iv a0.2.1)] (fin_of [none,some 0] y (by kernel_rfl) (by kernel_rfl)) (fun _ a w S=>?_)
  ·refine fJ [(19,_)] 5 [some 3] fun G a w S=>?_
   exact sExtract (vs:=[.agg #[iv a0.1.W,iv a0.1.H,.slice a7 a0.1.Bits.length a8],iv a0.2.1,iv a0.2.2.1]) (iv a0.2.1) S (wN y) y y y y (lb y) fun a S=>leafL ⟨y,S⟩
  ·refine fJ [(19,_)] 6 [some 3] fun G a w S=>?_
   exact sExtract (vs:=[.agg #[iv a0.1.W,iv a0.1.H,.slice a7 a0.1.Bits.length a8],iv a0.2.1,iv a0.2.2.1]) (iv a0.2.2.1) S (wN y) y y y y (lb y) fun a S=>leafL ⟨y,S⟩
  ·exact fM 0 (some 5) y y y y (.inr y) y y y
  ·exact fM 1 (some 6) y y y y (.inr y) y y y
  have bn:=row_v (S.mem.hold (i:=2) (e:=eRow (rI .i64) 3 (.slice ad_0_1 p0.l.length cp_0_1) a0.2.2.2) y)
  rw [bn] at S
  exact leafT (⟨a0.2.1,a0.2.2.2,Option.some.inj h,ad_0_1,cp_0_1,S.fix [3,2] [1,2] (by decide) y y y⟩)
 refine ⟨_,[],y,(srcs_of [] y y y),fun G a w S=>?_⟩
 refine sAlloc (.agg #[iv 0,iv 0,.slice none 0 0]) S (wN y) y y [iv 0,iv 0,.slice none 0 0] y y (lb y) fun a aV w S=>leafL ⟨y,_,_,.inl ⟨4,(.pointer (some ⟨aV,0,none⟩)),[],y,S,hz_of y,?_⟩⟩
 refine node_by (A:=anc_reduce_search_from_s8_1) 17 (by kernel_rfl) (by kernel_rfl) (by kernel_rfl) (by kernel_rfl) (by kernel_rfl) [13,0,1,2,3,4,5,6,7] (by kernel_rfl) (by decide) (by decide) (fF ?_ (fF ?_ (fF ?_ (fF ?_ (fF ?_ (fF ?_ (fF ?_ (fF ?_ (fN ?_ (fE 8 (fE 8 (fE 8 (fE 8 (fY (aB 14 2 8 (by decide) (fE 8 (fE 8 (trivial)))))))))))))))))) [] (fun q hq=>by cases hq) (fun hY=>absurd (hY 8 (by decide)) (by decide))
 ·exact fM 1 none y y y y (.inl y) y y y
 ·refine fJ [(20,_)] 2 [some 1] fun G a w S=>?_
  exact nilCheck_ok (q:=⟨bb0,0,none⟩) S (wN y) y y y (lb y) fun a S=>leafL ⟨y,S⟩
 ·refine fJ [(21,_)] 3 [some 2] fun G a w S=>?_
  exact sField (b:=bb0) (off:=0) 0 0 S (wN y) y y y y y (lb y) fun a S=>leafL ⟨y,S⟩
 ·refine fJ [(22,_)] 4 [some 3] fun G a w S=>?_
  exact sLoadN (p:=bb0) (off:=0) (T:=68) (vs:=[iv p0.g.W,iv p0.g.H,.slice a2 p0.g.Bits.length a3,iv p0.k,.slice ad_0_1 p0.l.length cp_0_1,.slice ak p0.best.length al,iv p0.least]) 1 [iv p0.g.W,iv p0.g.H,.slice a2 p0.g.Bits.length a3] S (wN y) y y y y y y y (lb y) fun a S=>leafL ⟨y,S⟩
 ·exact fM 5 none y y y y (.inl y) y y y
 ·refine fJ [(24,_)] 6 [some 5] fun G a w S=>?_
  exact nilCheck_ok (q:=⟨bb0,0,none⟩) S (wN y) y y y (lb y) fun a S=>leafL ⟨y,S⟩
 ·refine fJ [(25,_)] 7 [some 6] fun G a w S=>?_
  exact sField (b:=bb0) (off:=0) 4 4 S (wN y) y y y y y (lb y) fun a S=>leafL ⟨y,S⟩
 ·refine fJ [(26,_)] 8 [some 7] fun G a w S=>?_
  exact sLoad1 1 (.slice ad_0_1 p0.l.length cp_0_1) S (wN y) y y y y y y (lb y) fun a S=>leafL ⟨y,S⟩
 refine ⟨_,[(23,.agg #[iv p0.g.W,iv p0.g.H,.slice a2 p0.g.Bits.length a3]),(27,.slice ad_0_1 p0.l.length cp_0_1)],y,(srcs_of [some 4,some 8] y y y),fun G a w S=>?_⟩
 have S:=S.learn (fRep r_api_Grid (.agg #[iv p0.g.W,iv p0.g.H,.slice a2 p0.g.Bits.length a3]) p0.g) ⟨_,y,S.mem.know (i:=0) (e:=fRep (rL rB) (.slice a2 p0.g.Bits.length a3) p0.g.Bits) y⟩
 refine sCall (X:=Option Addr × Nat) (f:=12) (vs:=[.agg #[iv p0.g.W,iv p0.g.H,.slice a2 p0.g.Bits.length a3],.slice ad_0_1 p0.l.length cp_0_1]) (val:=fun x=>.tuple #[.agg #[iv a0.1.W,iv a0.1.H,.slice x.1 a0.1.Bits.length x.2],iv a0.2.1,iv a0.2.2.1]) (B':=fun x=>[eRow rB 4 (.slice x.1 a0.1.Bits.length x.2) a0.1.Bits,eRow (rI .i64) 3 (.slice ad_0_1 p0.l.length cp_0_1) a0.2.2.2]) (D':=fun _=>[]) [eRow (rI .i64) 3 (.slice ad_0_1 p0.l.length cp_0_1) p0.l] [eBox aV 24 [iv 0,iv 0,.slice none 0 0],eBox bb0 68 [iv p0.g.W,iv p0.g.H,.slice a2 p0.g.Bits.length a3,iv p0.k,.slice ad_0_1 p0.l.length cp_0_1,.slice ak p0.best.length al,iv p0.least]] [fRep r_api_Grid (.agg #[iv p0.g.W,iv p0.g.H,.slice a2 p0.g.Bits.length a3]) p0.g] [2,0,1] [0] S (wN y) y callee12 y (by decide) y y (fun E1 w1 S1=>c_reduce_Change_s1 E1 w1 p0.g (.agg #[iv p0.g.W,iv p0.g.H,.slice a2 p0.g.Bits.length a3]) p0.l ad_0_1 cp_0_1 a0 aT S1) y (lb y) fun xx a w S=>?_
 obtain ⟨ab,ac⟩:=xx
 dsimp only at S
 refine leafL ⟨y,_,_,.inl ⟨28,(.tuple #[.agg #[iv a0.1.W,iv a0.1.H,.slice ab a0.1.Bits.length ac],iv a0.2.1,iv a0.2.2.1]),[(9,19,.tuple #[.agg #[iv a0.1.W,iv a0.1.H,.slice ab a0.1.Bits.length ac],iv a0.2.1,iv a0.2.2.1]),(10,29,.agg #[iv a0.1.W,iv a0.1.H,.slice ab a0.1.Bits.length ac]),(11,30,iv a0.2.1),(12,31,iv a0.2.2.1)],y,S,hz_of y,?_⟩⟩
 refine node_by (A:=anc_reduce_search_from_s8_1) 17 (by kernel_rfl) (by kernel_rfl) (by kernel_rfl) (by kernel_rfl) (by kernel_rfl) [9,10,11,12,8,13,0,1,2,3,4,5,6,7] (by kernel_rfl) (by decide) (by decide) (fD 8 (fD 8 (fD 8 (fD 8 (fD 8 (fD 8 (fD 8 (fD 8 (fY (fF ?_ (fF ?_ (fF ?_ (fF ?_ (fY (fN ?_ (fE 14 (fE 14 (trivial)))))))))))))))))) [] (fun q hq=>by cases hq) (fun hY=>absurd (hY 14 (by decide)) (by decide))
 ·exact fM 0 (some 4) y y y y (.inl y) y y y
 ·refine fJ [(19,_)] 1 [some 0] fun G a w S=>?_
  exact sExtract (vs:=[.agg #[iv a0.1.W,iv a0.1.H,.slice ab a0.1.Bits.length ac],iv a0.2.1,iv a0.2.2.1]) (.agg #[iv a0.1.W,iv a0.1.H,.slice ab a0.1.Bits.length ac]) S (wN y) y y y y (lb y) fun a S=>leafL ⟨y,S⟩
 ·refine fJ [(19,_)] 2 [some 0] fun G a w S=>?_
  exact sExtract (vs:=[.agg #[iv a0.1.W,iv a0.1.H,.slice ab a0.1.Bits.length ac],iv a0.2.1,iv a0.2.2.1]) (iv a0.2.1) S (wN y) y y y y (lb y) fun a S=>leafL ⟨y,S⟩
 ·refine fJ [(19,_)] 3 [some 0] fun G a w S=>?_
  exact sExtract (vs:=[.agg #[iv a0.1.W,iv a0.1.H,.slice ab a0.1.Bits.length ac],iv a0.2.1,iv a0.2.2.1]) (iv a0.2.2.1) S (wN y) y y y y (lb y) fun a S=>leafL ⟨y,S⟩
 refine ⟨_,[(4,.pointer (some ⟨aV,0,none⟩)),(29,.agg #[iv a0.1.W,iv a0.1.H,.slice ab a0.1.Bits.length ac])],y,(srcs_of [some 5,some 1] y y y),fun G a w S=>?_⟩
 refine sStore (p:=aV) (off:=0) (T:=24) (vs:=[iv 0,iv 0,.slice none 0 0]) (v:=.agg #[iv a0.1.W,iv a0.1.H,.slice ab a0.1.Bits.length ac]) 2 [iv a0.1.W,iv a0.1.H,.slice ab a0.1.Bits.length ac] S (wN y) y y y y y y y (by simp) y fun a w S=>leafL ⟨y,_,_,.inr ⟨[(15,5,iv a0.2.1),(16,6,iv a0.2.2.1)],y,S,hz_of y,?_⟩⟩
 refine node_by (A:=anc_reduce_search_from_s8_1) 17 (by kernel_rfl) (by kernel_rfl) (by kernel_rfl) (by kernel_rfl) (by kernel_rfl) [15,16,9,10,11,12,8,13,0,1,2,3,4,5,6,7] (by kernel_rfl) (by decide) (by decide) (fD 14 (fD 14 (fD 14 (fD 14 (fD 14 (fD 14 (fD 14 (fD 14 (fY (fD 14 (fD 14 (fF ?_ (fF ?_ (fY (fY (fF ?_ (fF ?_ (trivial)))))))))))))))))) [(0,.pointer (some ⟨bb0,0,none⟩)),(5,iv a0.2.1)] (fin_of [none,some 0] y (by kernel_rfl) (by kernel_rfl)) (fun _ a w S=>?_)
 ·refine fJ [(19,_)] 4 [some 2] fun G a w S=>?_
  exact sExtract (vs:=[.agg #[iv a0.1.W,iv a0.1.H,.slice ab a0.1.Bits.length ac],iv a0.2.1,iv a0.2.2.1]) (iv a0.2.1) S (wN y) y y y y (lb y) fun a S=>leafL ⟨y,S⟩
 ·refine fJ [(19,_)] 5 [some 2] fun G a w S=>?_
  exact sExtract (vs:=[.agg #[iv a0.1.W,iv a0.1.H,.slice ab a0.1.Bits.length ac],iv a0.2.1,iv a0.2.2.1]) (iv a0.2.2.1) S (wN y) y y y y (lb y) fun a S=>leafL ⟨y,S⟩
 ·exact fM 0 (some 4) y y y y (.inr y) y y y
 ·exact fM 1 (some 5) y y y y (.inr y) y y y
 have bo:=row_v (S.mem.hold (i:=2) (e:=eRow (rI .i64) 3 (.slice ad_0_1 p0.l.length cp_0_1) a0.2.2.2) y)
 rw [bo] at S
 exact leafT (⟨a0.2.1,a0.2.2.2,Option.some.inj h,ad_0_1,cp_0_1,S.fix [3,2] [1,2] (by decide) y y y⟩)
def anc_reduce_search_from_s7_0:List (List Nat):=[[],[0],[0,1],[0,1,2],[0,1,2,3],[],[5],[5,6],[5,6,7],[5,6,7,8],[0,1,2,3,4,5,6,7,8,9]]
def anc_reduce_search_from_s7_1:List (List Nat):=[[],[0],[0,1],[0,1,2],[],[4],[4,5],[4,5,6],[0,1,2,3,4,5,6,7],[0,1,2,3,4,5,6,7,8],[0,1,2,3,4,5,6,7,8,9],[0,1,2,3,4,5,6,7,8,9],[0,1,2,3,4,5,6,7,8,9],[],[0,1,2,3,4,5,6,7,8,9,10,13],[0,1,2,3,4,5,6,7,8,9,10,11,13,14],[0,1,2,3,4,5,6,7,8,9,10,11,12,13,14,15]]
def anc_reduce_search_from_s7_2:List (List Nat):=[[],[],[1],[1,2],[1,2,3],[],[5],[5,6],[5,6,7],[5,6,7,8],[5,6,7,8,9],[1,2,3,4,5,6,7,8,9,10],[0,1,2,3,4,5,6,7,8,9,10,11],[0,1,2,3,4,5,6,7,8,9,10,11,12],[0,1,2,3,4,5,6,7,8,9,10,11,12,13]]
noncomputable def reduce_search_from_s7_l1 (p0:reduce_search) (p1:Int):(Int × Int × Int × Int × List Int × List Int × Int)→Option ((Int × Int × Int × Int × List Int × List Int × Int) ⊕ (Int × Int × Int × List Int × List Int × Int)):=fun s0=>match s0 with
 | (a2,a3,a4,a5,a6,a7,a8)=>
  if decide (a2 < (if p0.k < (w64 (p1 + 1)) then p0.k else w64 (p1 + 1))) then
   (appO a6 ([a2]:List Int)).bind fun a9=>
   (F_reduce_search_from_s8 (reduce_search.mk (api_Grid.mk a3 a4 p0.g.Bits) a5 a9 a7 a8) (if p1 < (w64 (a2 + 1)) then w64 (a2 + 1) else p1)).bind fun a0=>
   (sliceO a0.l 0 (w64 ((a0.l.length:Int) - 1))).bind fun aa=>
   some (.inl (w64 (a2 + 1),a0.g.W,a0.g.H,a0.k,aa,a0.best,a0.least))
  else
   some (.inr (a3,a4,a5,a6,a7,a8))
noncomputable def F_reduce_search_from_s7 (p0:reduce_search) (p1:Int):Option reduce_search:=
 if (p0.l.length:Int) == p0.g.W then
  Option.bind (α:=(List Int × List Int × Int)) (
   Option.bind (α:=(Int × List Int)) (
    (F_reduce_Change_s1 p0.g p0.l).bind fun a2=>
    some (a2.2.1,a2.2.2.2)) fun (a3,a4)=>
   Option.bind (α:=Bool) (
    if p0.best.isEmpty then
     some true
    else
     some (decide (a3 < p0.least))) fun a5=>
   if a5 then
    (F_slices_Clone___int_int__s1 a4).bind fun a0=>
    (neO a0.1).bind fun af=>
    some (a0.2,a0.1,a3)
   else
    some (a4,p0.best,p0.least)) fun (o8,a6,a7)=>
  some (reduce_search.mk p0.g p0.k o8 a6 a7)
 else
  (whileO (reduce_search_from_s7_l1 p0 p1) (0,p0.g.W,p0.g.H,p0.k,p0.l,p0.best,p0.least)).bind fun (a8,a9,aa,ab,ac,ae)=>
   some (reduce_search.mk (api_Grid.mk a8 a9 p0.g.Bits) aa ab ac ae)
theorem c_reduce_search_from_s7 (E:Nat→Prop) (w0:World) (p0:reduce_search) (bb0:Nat) (u_0_0:Value) (ad_0_1:Option Addr) (cp_0_1:Nat) (u_0_2:Value) (p1:Int) (r:reduce_search) (h:F_reduce_search_from_s7 p0 p1=some r) (S:St0 E (keysL [eBox bb0 68 [iv p0.g.W,iv p0.g.H,u_0_0,iv p0.k,.slice ad_0_1 p0.l.length cp_0_1,u_0_2,iv p0.least],eRow (rI .i64) 3 (.slice ad_0_1 p0.l.length cp_0_1) p0.l]) w0 w0 [eBox bb0 68 [iv p0.g.W,iv p0.g.H,u_0_0,iv p0.k,.slice ad_0_1 p0.l.length cp_0_1,u_0_2,iv p0.least],eRow (rI .i64) 3 (.slice ad_0_1 p0.l.length cp_0_1) p0.l] [fRep (rL rB) (u_0_0) p0.g.Bits,fRep (rLz (rI .i64)) (u_0_2) p0.best]) :
 Calls Try.prog 41 #[.pointer (some ⟨bb0,0,none⟩),iv p1] w0 (Ret (X:=Option Addr × Nat × Value) E (keysL [eBox bb0 68 [iv p0.g.W,iv p0.g.H,u_0_0,iv p0.k,.slice ad_0_1 p0.l.length cp_0_1,u_0_2,iv p0.least],eRow (rI .i64) 3 (.slice ad_0_1 p0.l.length cp_0_1) p0.l]) w0 (fun _=>.tuple #[]) (fun x=>[eBox bb0 68 [iv r.g.W,iv r.g.H,u_0_0,iv r.k,.slice x.1 r.l.length x.2.1,x.2.2,iv r.least],eRow (rI .i64) 3 (.slice x.1 r.l.length x.2.1) r.l]) (fun x=>[fRep (rLz (rI .i64)) x.2.2 r.best])):=by
 unfold F_reduce_search_from_s7 at h
 obtain ⟨a2,a3,_,rfl,_⟩:=S.know (i:=0) (e:=fRep (rL rB) (u_0_0) p0.g.Bits) y
 obtain ⟨⟨ak,al,_,rfl,_⟩,_⟩:=S.know (i:=1) (e:=fRep (rLz (rI .i64)) (u_0_2) p0.best) y
 generalize (keysL [eBox bb0 68 [iv p0.g.W,iv p0.g.H,.slice a2 p0.g.Bits.length a3,iv p0.k,.slice ad_0_1 p0.l.length cp_0_1,.slice ak p0.best.length al,iv p0.least],eRow (rI .i64) 3 (.slice ad_0_1 p0.l.length cp_0_1) p0.l])=M9 at S ⊢
 refine sEnter (args:=[.pointer (some ⟨bb0,0,none⟩),iv p1]) 98 Try.func41 y y (by simp) S (fun a S=>?_)
 refine sSeq (fun K5 bp=>sSeq (fun K6 bq=>sDraw (nf:=[]) (W:=[(0,8,.pointer (some ⟨bb0,0,none⟩)),(1,9,.pointer (some ⟨bb0,0,none⟩)),(2,10,.pointer (some ⟨bb0,4,none⟩)),(3,11,.slice ad_0_1 p0.l.length cp_0_1),(4,12,iv (p0.l.length:Int)),(5,13,.pointer (some ⟨bb0,0,none⟩)),(6,14,.pointer (some ⟨bb0,0,none⟩)),(7,15,.pointer (some ⟨bb0,0,none⟩)),(8,16,.pointer (some ⟨bb0,0,none⟩)),(9,17,iv p0.g.W),(10,18,.bool ((p0.l.length:Int) == p0.g.W))]) y S ?_))
 refine node_by (A:=anc_reduce_search_from_s7_0) 11 (by kernel_rfl) (by kernel_rfl) (by kernel_rfl) (by kernel_rfl) (by kernel_rfl) [0,1,2,3,4,5,6,7,8,9,10] (by kernel_rfl) (by decide) (by decide) (fF ?_ (fF ?_ (fF ?_ (fF ?_ (fF ?_ (fF ?_ (fF ?_ (fF ?_ (fF ?_ (fF ?_ (fF ?_ (trivial)))))))))))) [(0,.pointer (some ⟨bb0,0,none⟩)),(1,iv p1),(18,.bool ((p0.l.length:Int) == p0.g.W))] (fin_of [none,none,some 10] y (by kernel_rfl) (by kernel_rfl)) (fun _ a w S=>?_)
 ·exact fM 0 none y y y y (.inl y) y y y
 ·refine fJ [(8,_)] 1 [some 0] fun G a w S=>?_
  exact nilCheck_ok (q:=⟨bb0,0,none⟩) S (wN y) y y y (lb y) fun a S=>leafL ⟨y,S⟩
 ·refine fJ [(9,_)] 2 [some 1] fun G a w S=>?_
  exact sField (b:=bb0) (off:=0) 4 4 S (wN y) y y y y y (lb y) fun a S=>leafL ⟨y,S⟩
 ·refine fJ [(10,_)] 3 [some 2] fun G a w S=>?_
  exact sLoad1 0 (.slice ad_0_1 p0.l.length cp_0_1) S (wN y) y y y y y y (lb y) fun a S=>leafL ⟨y,S⟩
 ·refine fJ [(11,_)] 4 [some 3] fun G a w S=>?_
  exact sLen S (wN y) y Try.underlying25 y y (lb y) fun a S=>leafL ⟨y,S⟩
 ·exact fM 5 none y y y y (.inl y) y y y
 ·refine fJ [(13,_)] 6 [some 5] fun G a w S=>?_
  exact nilCheck_ok (q:=⟨bb0,0,none⟩) S (wN y) y y y (lb y) fun a S=>leafL ⟨y,S⟩
 ·refine fJ [(14,_)] 7 [some 6] fun G a w S=>?_
  exact sField (b:=bb0) (off:=0) 0 0 S (wN y) y y y y y (lb y) fun a S=>leafL ⟨y,S⟩
 ·refine fJ [(15,_)] 8 [some 7] fun G a w S=>?_
  exact sField (b:=bb0) (off:=0) 0 0 S (wN y) y y y y y (lb y) fun a S=>leafL ⟨y,S⟩
 ·refine fJ [(16,_)] 9 [some 8] fun G a w S=>?_
  exact sLoad1 0 (iv p0.g.W) S (wN y) y y y y y y (lb y) fun a S=>leafL ⟨y,S⟩
 ·refine fJ [(12,_),(17,_)] 10 [some 4,some 9] fun G a w S=>?_
  exact sBin _ S (wN y) y y y (bEq _ _ _ _ .i64 (p0.l.length:Int) p0.g.W) y (lb y) fun a S=>leafL ⟨y,S⟩
 refine leafT (bq _ _ ?_)
 rcases iS h with ⟨aW,h⟩ | ⟨aW,h⟩
 rotate_left
 ·refine sCondF S y aW (wp_skip (leafT (bp _ _ ?_)))
  refine sSeq (fun bB aX=>sRegion (sM S fun a S=>?_))
  refine sBin _ S (wN y) y y y (bAdd _ _ _ _ p1 1) y (lb y) fun a S=>sM S fun a S=>?_
  refine nilCheck_ok (q:=⟨bb0,0,none⟩) S (wN y) y y y (lb y) fun a S=>sField (b:=bb0) (off:=0) 3 3 S (wN y) y y y y y (lb y) fun a S=>sLoad1 0 (iv p0.k) S (wN y) y y y y y y (lb y) fun a S=>sMin2 (p:=w64 (p1 + 1)) (q:=p0.k) S (wN y) y y y y (lb y) fun a S=>sM S fun a S=>?_
  refine lT (aX _ _ (wp_block ?_))
  obtain ⟨bC,hl,br⟩:=bS h
  refine sLoop hl (fun s0 a w=>match s0 with | (af,aJ,aK,aL,aA,ar,aM)=>∃ am,∃ ao,∃ ah,∃ ai,St [] E M9 w0 98 a w [(0,.pointer (some ⟨bb0,0,none⟩)),(1,iv p1),(63,iv (if p0.k < (w64 (p1 + 1)) then p0.k else w64 (p1 + 1))),(64,iv af)] [eBox bb0 68 [iv aJ,iv aK,.slice a2 p0.g.Bits.length a3,iv aL,.slice am aA.length ao,.slice ah ar.length ai,iv aM],eRow (rI .i64) 3 (.slice am aA.length ao) aA] [fRep (rL rB) (.slice a2 p0.g.Bits.length a3) p0.g.Bits,fRep (rLz (rI .i64)) (.slice ah ar.length ai) ar]) ⟨ad_0_1,cp_0_1,ak,al,S.fix [0,1] [0,1] (by decide) y y y⟩ ?_
  clear hl h
  intro s0 a w c0 hI h aZ
  obtain ⟨af,aJ,aK,aL,aA,ar,aM⟩:=s0
  unfold reduce_search_from_s7_l1 at h
  dsimp only at h hI
  obtain ⟨am,ao,ah,ai,S⟩:=hI
  refine sSeq (fun bD b1=>sRegion (sBin _ S (wN y) y y y (bLt _ _ _ _ .i64 af (if p0.k < (w64 (p1 + 1)) then p0.k else w64 (p1 + 1))) y (lb y) fun a S=>lT (b1 _ _ (sSeq (fun bE b3=>?_)))))
  rcases iS h with ⟨aC,h⟩ | ⟨aC,h⟩
  rotate_left
  ·refine sCondF S y aC ?_
   obtain rfl:=tS h
   obtain rfl:=aZ _ y
   have h:=br
   try dsimp only at h
   obtain rfl:=tS h
   exact wp_exit (xThen (xThen (xHit (sEnd (.tuple #[]) S (rsl0 y ) ⟨(am,ao,(.slice ah ar.length ai)),y,S.mem.sel [0,1] [1] (by decide) y y⟩))))
  refine sCondT S y aC (wp_skip (leafT (b3 _ _ ?_)))
  refine sSeq (fun bG b4=>wp_block ?_)
  refine sSeq (fun bH b5=>sRegion (sM S fun a S=>?_))
  refine sN S fun a S=>?_
  refine lT (b5 _ _ (sSeq (fun bI ba=>sRegion (sM S fun a S=>?_))))
  refine sM S fun a S=>?_
  refine nilCheck_ok (q:=⟨bb0,0,none⟩) S (wN y) y y y (lb y) fun a S=>sField (b:=bb0) (off:=0) 4 4 S (wN y) y y y y y (lb y) fun a S=>sLoad1 0 (.slice am aA.length ao) S (wN y) y y y y y y (lb y) fun a S=>sM S fun a S=>?_
  refine sLit (r:=(rI .i64)) (T:=3) (xs:=([af]:List Int)) [(0,iv af)] 1 [iv af] [iv af] (iv 0) 8 S (wN y) y y Try.underlying25 y (by decide) (by decide) (by kernel_rfl) y (fun E1 w1 hE=>All.cons y (All.nil _ _ _)) y y (lb y) fun a w aO aP S=>?_
  obtain ⟨aH,bb,h⟩:=bS h
  refine sApp (r:=(rI .i64)) (T:=3) (xs:=aA) (ys:=([af]:List Int)) (v:=.slice am aA.length ao) (u:=.slice aO ([af]:List Int).length aP) 2 (iv 0) 8 S (wN y) y Try.underlying25 y y (by decide) y y y (src_R (T:=3) 0 S.mem y) bb y (lb y) fun a w au av S=>nilCheck_ok (q:=⟨bb0,0,none⟩) S (wN y) y y y (lb y) fun a S=>sField (b:=bb0) (off:=0) 4 4 S (wN y) y y y y y (lb y) fun a S=>sStore (p:=bb0) (off:=4) (T:=68) (vs:=[iv aJ,iv aK,.slice a2 p0.g.Bits.length a3,iv aL,.slice am aA.length ao,.slice ah ar.length ai,iv aM]) (v:=.slice au aH.length av) 2 [.slice au aH.length av] S (wN y) y y y y y y y (by simp) y fun a w S=>lT (ba _ _ (sSeq (fun bJ bc=>sRegion (sM S fun a S=>?_))))
  refine sM S fun a S=>?_
  refine sM S fun a S=>?_
  refine sBin _ S (wN y) y y y (bAdd _ _ _ _ af 1) y (lb y) fun a S=>sMax2 (p:=p1) (q:=w64 (af + 1)) S (wN y) y y y y (lb y) fun a S=>?_
  obtain ⟨a4,bf,h⟩:=bS h
  refine sCall (X:=Option Addr × Nat × Value) (f:=41) (vs:=[.pointer (some ⟨bb0,0,none⟩),iv (if p1 < (w64 (af + 1)) then w64 (af + 1) else p1)]) (val:=fun _=>.tuple #[]) (B':=fun x=>[eBox bb0 68 [iv a4.g.W,iv a4.g.H,.slice a2 p0.g.Bits.length a3,iv a4.k,.slice x.1 a4.l.length x.2.1,x.2.2,iv a4.least],eRow (rI .i64) 3 (.slice x.1 a4.l.length x.2.1) a4.l]) (D':=fun x=>[fRep (rLz (rI .i64)) x.2.2 a4.best]) [eBox bb0 68 [iv aJ,iv aK,.slice a2 p0.g.Bits.length a3,iv aL,.slice au aH.length av,.slice ah ar.length ai,iv aM],eRow (rI .i64) 3 (.slice au aH.length av) aH] [eRow (rI .i64) 3 (.slice aO ([af]:List Int).length aP) ([af]:List Int)] [fRep (rL rB) (.slice a2 p0.g.Bits.length a3) p0.g.Bits,fRep (rLz (rI .i64)) (.slice ah ar.length ai) ar] [0,1,2] [0,1] S (wN y) y callee41 y (by decide) y y (fun E1 w1 S1=>c_reduce_search_from_s8 E1 w1 (reduce_search.mk (api_Grid.mk aJ aK p0.g.Bits) aL aH ar aM) bb0 (.slice a2 p0.g.Bits.length a3) au av (.slice ah ar.length ai) (if p1 < (w64 (af + 1)) then w64 (af + 1) else p1) a4 bf S1) y (lb y) fun xx a w S=>?_
  obtain ⟨a9,aa,bt⟩:=xx
  dsimp only at S
  obtain ⟨⟨aQ,aR,_,rfl,_⟩,_⟩:=S.mem.know (i:=0) (e:=fRep (rLz (rI .i64)) (bt) a4.best) y
  refine lT (bc _ _ ?_)
  obtain ⟨aS,bg,h⟩:=bS h
  refine sDraw (nf:=[11,14]) (W:=[(0,83,.pointer (some ⟨bb0,0,none⟩)),(1,84,.pointer (some ⟨bb0,0,none⟩)),(2,85,.pointer (some ⟨bb0,0,none⟩)),(3,86,.pointer (some ⟨bb0,4,none⟩)),(4,87,.slice a9 a4.l.length aa),(5,88,.pointer (some ⟨bb0,0,none⟩)),(6,89,.pointer (some ⟨bb0,0,none⟩)),(7,90,.pointer (some ⟨bb0,4,none⟩)),(8,91,.slice a9 a4.l.length aa),(9,92,iv (a4.l.length:Int)),(10,93,iv (w64 ((a4.l.length:Int) - 1)))]) y S ?_
  refine node_by (A:=anc_reduce_search_from_s7_2) 15 (by kernel_rfl) (by kernel_rfl) (by kernel_rfl) (by kernel_rfl) (by kernel_rfl) [0,1,2,3,4,5,6,7,8,9,10] (by kernel_rfl) (by decide) (by decide) (fF ?_ (fF ?_ (fF ?_ (fF ?_ (fF ?_ (fF ?_ (fF ?_ (fF ?_ (fF ?_ (fF ?_ (fF ?_ (fN ?_ (fE 11 (fE 11 (aB 14 0 11 (by decide) (trivial)))))))))))))))) [] (fun q hq=>by cases hq) (fun hY=>absurd (hY 11 (by decide)) (by decide))
  ·exact fM 0 none y y y y (.inl y) y y y
  ·exact fM 1 none y y y y (.inl y) y y y
  ·refine fJ [(84,_)] 2 [some 1] fun G a w S=>?_
   exact nilCheck_ok (q:=⟨bb0,0,none⟩) S (wN y) y y y (lb y) fun a S=>leafL ⟨y,S⟩
  ·refine fJ [(85,_)] 3 [some 2] fun G a w S=>?_
   exact sField (b:=bb0) (off:=0) 4 4 S (wN y) y y y y y (lb y) fun a S=>leafL ⟨y,S⟩
  ·refine fJ [(86,_)] 4 [some 3] fun G a w S=>?_
   exact sLoad1 0 (.slice a9 a4.l.length aa) S (wN y) y y y y y y (lb y) fun a S=>leafL ⟨y,S⟩
  ·exact fM 5 none y y y y (.inl y) y y y
  ·refine fJ [(88,_)] 6 [some 5] fun G a w S=>?_
   exact nilCheck_ok (q:=⟨bb0,0,none⟩) S (wN y) y y y (lb y) fun a S=>leafL ⟨y,S⟩
  ·refine fJ [(89,_)] 7 [some 6] fun G a w S=>?_
   exact sField (b:=bb0) (off:=0) 4 4 S (wN y) y y y y y (lb y) fun a S=>leafL ⟨y,S⟩
  ·refine fJ [(90,_)] 8 [some 7] fun G a w S=>?_
   exact sLoad1 0 (.slice a9 a4.l.length aa) S (wN y) y y y y y y (lb y) fun a S=>leafL ⟨y,S⟩
  ·refine fJ [(91,_)] 9 [some 8] fun G a w S=>?_
   exact sLen S (wN y) y Try.underlying25 y y (lb y) fun a S=>leafL ⟨y,S⟩
  ·refine fJ [(92,_)] 10 [some 9] fun G a w S=>?_
   exact sBin _ S (wN y) y y y (bSub _ _ _ _ (a4.l.length:Int) 1) y (lb y) fun a S=>leafL ⟨y,S⟩
  refine ⟨_,[(87,.slice a9 a4.l.length aa),(93,iv (w64 ((a4.l.length:Int) - 1)))],y,(srcs_of [some 4,some 10] y y y),fun G a w S=>?_⟩
  refine sSliceT (r:=(rI .i64)) (T:=3) (ad:=a9) (c:=aa) (xs:=a4.l) (vlo:=none) (vhi:=(some (.int .i64 (w64 ((a4.l.length:Int) - 1))))) (hi':=w64 ((a4.l.length:Int) - 1)) 1 S (wN y) y Try.underlying25 y y y y y (.inr y) (.inl y) bg y (lb y) fun a S=>?_
  refine leafL ⟨y,_,_,.inl ⟨94,(.slice a9 aS.length aa),[(12,95,.pointer (some ⟨bb0,0,none⟩)),(13,96,.pointer (some ⟨bb0,4,none⟩))],y,S,hz_of y,?_⟩⟩
  refine node_by (A:=anc_reduce_search_from_s7_2) 15 (by kernel_rfl) (by kernel_rfl) (by kernel_rfl) (by kernel_rfl) (by kernel_rfl) [12,13,11,0,1,2,3,4,5,6,7,8,9,10] (by kernel_rfl) (by decide) (by decide) (fF ?_ (fD 11 (fD 11 (fD 11 (fD 11 (fD 11 (fD 11 (fD 11 (fD 11 (fD 11 (fD 11 (fY (fF ?_ (fF ?_ (fN ?_ (trivial)))))))))))))))) [] (fun q hq=>by cases hq) (fun hY=>absurd (hY 14 (by decide)) (by decide))
  ·exact fM 3 none y y y y (.inl y) y y y
  ·refine fJ [(83,_)] 0 [some 3] fun G a w S=>?_
   exact nilCheck_ok (q:=⟨bb0,0,none⟩) S (wN y) y y y (lb y) fun a S=>leafL ⟨y,S⟩
  ·refine fJ [(95,_)] 1 [some 0] fun G a w S=>?_
   exact sField (b:=bb0) (off:=0) 4 4 S (wN y) y y y y y (lb y) fun a S=>leafL ⟨y,S⟩
  refine ⟨_,[(94,.slice a9 aS.length aa),(96,.pointer (some ⟨bb0,4,none⟩))],y,(srcs_of [some 2,some 1] y y y),fun G a w S=>?_⟩
  refine sStore (p:=bb0) (off:=4) (T:=68) (vs:=[iv a4.g.W,iv a4.g.H,.slice a2 p0.g.Bits.length a3,iv a4.k,.slice a9 a4.l.length aa,.slice aQ a4.best.length aR,iv a4.least]) (v:=.slice a9 aS.length aa) 1 [.slice a9 aS.length aa] S (wN y) y y y y y y y (by simp) y fun a w S=>leafL ⟨y,_,_,.inr ⟨[],y,S,hz_of y,?_⟩⟩
  refine node_by (A:=anc_reduce_search_from_s7_2) 15 (by kernel_rfl) (by kernel_rfl) (by kernel_rfl) (by kernel_rfl) (by kernel_rfl) [12,13,11,0,1,2,3,4,5,6,7,8,9,10] (by kernel_rfl) (by decide) (by decide) (fD 14 (fD 14 (fD 14 (fD 14 (fD 14 (fD 14 (fD 14 (fD 14 (fD 14 (fD 14 (fD 14 (fY (fD 14 (fD 14 (fY (trivial)))))))))))))))) [(0,.pointer (some ⟨bb0,0,none⟩)),(1,iv p1),(63,iv (if p0.k < (w64 (p1 + 1)) then p0.k else w64 (p1 + 1))),(64,iv af)] (fin_of [none,none,none,none] y (by kernel_rfl) (by kernel_rfl)) (fun _ a w S=>?_)
  refine leafB (leafT (b4 _ _ ?_))
  refine sRegion (sBin _ S (wN y) y y y (bAdd _ _ _ _ af 1) y (lb y) fun a S=>sM S fun a S=>?_)
  exact lT (⟨(w64 (af + 1),a4.g.W,a4.g.H,a4.k,aS,a4.best,a4.least),(Option.some.inj h).symm,⟨a9,aa,aQ,aR,S.fix [0,1] [1,0] (by decide) y y y⟩⟩)
 refine sCondT S y aW ?_
 obtain ⟨bu,h,bv⟩:=bS h
 refine sCut (fun a w=>∃ o8,∃ aI,∃ bh,(o8,aI,bh)=bu∧∃ aU,∃ ax,∃ ay,∃ az,St [] E M9 w0 98 a w [] [eBox bb0 68 [iv p0.g.W,iv p0.g.H,.slice a2 p0.g.Bits.length a3,iv p0.k,.slice aU o8.length ax,.slice ay aI.length az,iv bh],eRow (rI .i64) 3 (.slice aU o8.length ax) o8] [fRep (rL rB) (.slice a2 p0.g.Bits.length a3) p0.g.Bits,fRep (rLz (rI .i64)) (.slice ay aI.length az) aI]) ?_ (fun a w hI=>?_)
 rotate_left
 ·obtain ⟨o8,aI,bh,rfl,aU,ax,ay,az,S⟩:=hI
  have h:=bv
  try dsimp only at h
  obtain rfl:=tS h
  exact wp_ret (rThen (sRet (.tuple #[]) S (rsl0 y ) ⟨(aU,ax,(.slice ay aI.length az)),y,S.mem.sel [0,1] [1] (by decide) y y⟩))
 obtain ⟨bw,h,bx⟩:=bS h
 refine sCut (fun a w=>∃ aw,∃ aj,(aw,aj)=bw∧∃ a5,∃ a6,St [] E M9 w0 98 a w [(0,.pointer (some ⟨bb0,0,none⟩)),(5,iv aw)] [eBox bb0 68 [iv p0.g.W,iv p0.g.H,.slice a2 p0.g.Bits.length a3,iv p0.k,.slice a5 aj.length a6,.slice ak p0.best.length al,iv p0.least],eRow (rI .i64) 3 (.slice a5 aj.length a6) aj] [fRep (rL rB) (.slice a2 p0.g.Bits.length a3) p0.g.Bits,fRep (rLz (rI .i64)) (.slice ak p0.best.length al) p0.best]) ?_ (fun a w hI=>?_)
 rotate_left
 ·obtain ⟨aw,aj,rfl,a5,a6,S⟩:=hI
  have h:=bx
  try dsimp only at h
  obtain ⟨bz,h,bA⟩:=bS h
  refine sCut (fun a w=>∃ bi,bi=bz∧St [] E M9 w0 98 a w [(0,.pointer (some ⟨bb0,0,none⟩)),(5,iv aw),(44,.bool bi)] [eBox bb0 68 [iv p0.g.W,iv p0.g.H,.slice a2 p0.g.Bits.length a3,iv p0.k,.slice a5 aj.length a6,.slice ak p0.best.length al,iv p0.least],eRow (rI .i64) 3 (.slice a5 aj.length a6) aj] [fRep (rL rB) (.slice a2 p0.g.Bits.length a3) p0.g.Bits,fRep (rLz (rI .i64)) (.slice ak p0.best.length al) p0.best]) ?_ (fun a w hI=>?_)
  ·refine sRegion (sM S fun a S=>?_)
   refine nilCheck_ok (q:=⟨bb0,0,none⟩) S (wN y) y y y (lb y) fun a S=>sField (b:=bb0) (off:=0) 5 5 S (wN y) y y y y y (lb y) fun a S=>sLoad1 0 (.slice ak p0.best.length al) S (wN y) y y y y y y (lb y) fun a S=>sBin _ S (wN y) y y y (bEqNilZ _ _ _ _ Try.underlying25 ak (p0.best.length) (al) (rLz_is (S.mem.know (i:=1) (e:=fRep (rLz (rI .i64)) (.slice ak p0.best.length al) p0.best) y))) y (lb y) fun a S=>sM S fun a S=>?_
   rcases iS h with ⟨ae,h⟩ | ⟨ae,h⟩
   ·refine sSkN 6 5 false 37 S y y ae y fun a S=>sPickT (.bool true) S (wN y) y y ae y y (lb y) fun a S=>?_
    exact lT (⟨true,Option.some.inj h,S.fix [0,1] [0,1] (by decide) y y y⟩)
   refine sMove (iv aw) S (wG 5 false 37 y y y ae) (.inl y) y y (lb y) fun a S=>sMove (.pointer (some ⟨bb0,0,none⟩)) S (wG 5 false 37 y y y ae) (.inl y) y y (lb y) fun a S=>nilCheck_ok (q:=⟨bb0,0,none⟩) S (wG 5 false 37 y y y ae) y y y (lb y) fun a S=>sField (b:=bb0) (off:=0) 6 6 S (wG 5 false 37 y y y ae) y y y y y (lb y) fun a S=>sLoad1 0 (iv p0.least) S (wG 5 false 37 y y y ae) y y y y y y (lb y) fun a S=>sBin _ S (wG 5 false 37 y y y ae) y y y (bLt _ _ _ _ .i64 aw p0.least) y (lb y) fun a S=>sPickF (.bool (decide (aw < p0.least))) S (wN y) y y ae y y (lb y) fun a S=>?_
   exact lT (⟨decide (aw < p0.least),Option.some.inj h,S.fix [0,1] [0,1] (by decide) y y y⟩)
  obtain ⟨bi,rfl,S⟩:=hI
  have h:=bA
  try dsimp only at h
  rcases iS h with ⟨aG,h⟩ | ⟨aG,h⟩
  rotate_left
  ·refine sCondF S y aG ?_
   exact wp_skip (leafT (⟨aj,p0.best,p0.least,Option.some.inj h,a5,a6,ak,al,S.fix [0,1] [0,1] (by decide) y y y⟩))
  refine sCondT S y aG (sRegion (sM S fun a S=>?_))
  refine sM S fun a S=>?_
  refine sM S fun a S=>?_
  refine nilCheck_ok (q:=⟨bb0,0,none⟩) S (wN y) y y y (lb y) fun a S=>sField (b:=bb0) (off:=0) 4 4 S (wN y) y y y y y (lb y) fun a S=>sLoad1 0 (.slice a5 aj.length a6) S (wN y) y y y y y y (lb y) fun a S=>?_
  obtain ⟨ag,bj,h⟩:=bS h
  refine sCall (X:=Option Addr × Nat) (f:=49) (vs:=[.slice a5 aj.length a6]) (val:=fun x=>.slice x.1 ag.1.length x.2) (B':=fun x=>[eRow (rI .i64) 3 (.slice x.1 ag.1.length x.2) ag.1,eRow (rI .i64) 3 (.slice a5 aj.length a6) ag.2]) (D':=fun _=>[]) [eRow (rI .i64) 3 (.slice a5 aj.length a6) aj] [eBox bb0 68 [iv p0.g.W,iv p0.g.H,.slice a2 p0.g.Bits.length a3,iv p0.k,.slice a5 aj.length a6,.slice ak p0.best.length al,iv p0.least]] [] [1,0] [] S (wN y) y callee49 y (by decide) y y (fun E1 w1 S1=>c_slices_Clone___int_int__s1 E1 w1 aj a5 a6 ag bj S1) y (lb y) fun xx a w S=>?_
  obtain ⟨ap,aq⟩:=xx
  dsimp only at S
  have bk:=row_v (S.mem.hold (i:=1) (e:=eRow (rI .i64) 3 (.slice a5 aj.length a6) ag.2) y)
  rw [bk] at S
  refine sM S fun a S=>?_
  refine nilCheck_ok (q:=⟨bb0,0,none⟩) S (wN y) y y y (lb y) fun a S=>sField (b:=bb0) (off:=0) 5 5 S (wN y) y y y y y (lb y) fun a S=>?_
  have S:=S.shutR (r:=(rI .i64)) (T:=3) (v:=.slice ap ag.1.length aq) (xs:=ag.1) 0 y
  obtain ⟨bK,bl,h⟩:=bS h
  have S:=S.learn (fRep (rLz (rI .i64)) (.slice ap ag.1.length aq) ag.1) (rLz_of (S.mem.know (i:=0) (e:=fRep (rL (rI .i64)) (.slice ap ag.1.length aq) ag.1) y) bl)
  refine sStore (p:=bb0) (off:=5) (T:=68) (vs:=[iv p0.g.W,iv p0.g.H,.slice a2 p0.g.Bits.length a3,iv p0.k,.slice a5 ag.2.length a6,.slice ak p0.best.length al,iv p0.least]) (v:=.slice ap ag.1.length aq) 1 [.slice ap ag.1.length aq] S (wN y) y y y y y y y (by simp) y fun a w S=>nilCheck_ok (q:=⟨bb0,0,none⟩) S (wN y) y y y (lb y) fun a S=>sField (b:=bb0) (off:=0) 6 6 S (wN y) y y y y y (lb y) fun a S=>sStore (p:=bb0) (off:=6) (T:=68) (vs:=[iv p0.g.W,iv p0.g.H,.slice a2 p0.g.Bits.length a3,iv p0.k,.slice a5 ag.2.length a6,.slice ap ag.1.length aq,iv p0.least]) (v:=iv aw) 0 [iv aw] S (wN y) y y y y y y y (by simp) y fun a w S=>?_
  exact lT (⟨ag.2,ag.1,aw,Option.some.inj h,a5,a6,ap,aq,S.fix [0,1] [2,0] (by decide) y y y⟩)
 obtain ⟨a0,aT,h⟩:=bS h
 refine sDraw (nf:=[8,13,14]) (W:=[(0,20,.pointer (some ⟨bb0,0,none⟩)),(1,21,.pointer (some ⟨bb0,0,none⟩)),(2,22,.pointer (some ⟨bb0,0,none⟩)),(3,23,.agg #[iv p0.g.W,iv p0.g.H,.slice a2 p0.g.Bits.length a3]),(4,24,.pointer (some ⟨bb0,0,none⟩)),(5,25,.pointer (some ⟨bb0,0,none⟩)),(6,26,.pointer (some ⟨bb0,4,none⟩)),(7,27,.slice ad_0_1 p0.l.length cp_0_1)]) y S ?_
 refine node_by (A:=anc_reduce_search_from_s7_1) 17 (by kernel_rfl) (by kernel_rfl) (by kernel_rfl) (by kernel_rfl) (by kernel_rfl) [0,1,2,3,4,5,6,7] (by kernel_rfl) (by decide) (by decide) (fF ?_ (fF ?_ (fF ?_ (fF ?_ (fF ?_ (fF ?_ (fF ?_ (fF ?_ (fN ?_ (fE 8 (fE 8 (fE 8 (fE 8 (fN ?_ (aB 14 2 8 (by decide) (fE 8 (fE 8 (trivial)))))))))))))))))) [] (fun q hq=>by cases hq) (fun hY=>absurd (hY 8 (by decide)) (by decide))
 ·exact fM 0 none y y y y (.inl y) y y y
 ·refine fJ [(20,_)] 1 [some 0] fun G a w S=>?_
  exact nilCheck_ok (q:=⟨bb0,0,none⟩) S (wN y) y y y (lb y) fun a S=>leafL ⟨y,S⟩
 ·refine fJ [(21,_)] 2 [some 1] fun G a w S=>?_
  exact sField (b:=bb0) (off:=0) 0 0 S (wN y) y y y y y (lb y) fun a S=>leafL ⟨y,S⟩
 ·refine fJ [(22,_)] 3 [some 2] fun G a w S=>?_
  exact sLoadN (p:=bb0) (off:=0) (T:=68) (vs:=[iv p0.g.W,iv p0.g.H,.slice a2 p0.g.Bits.length a3,iv p0.k,.slice ad_0_1 p0.l.length cp_0_1,.slice ak p0.best.length al,iv p0.least]) 0 [iv p0.g.W,iv p0.g.H,.slice a2 p0.g.Bits.length a3] S (wN y) y y y y y y y (lb y) fun a S=>leafL ⟨y,S⟩
 ·exact fM 4 none y y y y (.inl y) y y y
 ·refine fJ [(24,_)] 5 [some 4] fun G a w S=>?_
  exact nilCheck_ok (q:=⟨bb0,0,none⟩) S (wN y) y y y (lb y) fun a S=>leafL ⟨y,S⟩
 ·refine fJ [(25,_)] 6 [some 5] fun G a w S=>?_
  exact sField (b:=bb0) (off:=0) 4 4 S (wN y) y y y y y (lb y) fun a S=>leafL ⟨y,S⟩
 ·refine fJ [(26,_)] 7 [some 6] fun G a w S=>?_
  exact sLoad1 0 (.slice ad_0_1 p0.l.length cp_0_1) S (wN y) y y y y y y (lb y) fun a S=>leafL ⟨y,S⟩
 ·refine ⟨_,[(23,.agg #[iv p0.g.W,iv p0.g.H,.slice a2 p0.g.Bits.length a3]),(27,.slice ad_0_1 p0.l.length cp_0_1)],y,(srcs_of [some 3,some 7] y y y),fun G a w S=>?_⟩
  have S:=S.learn (fRep r_api_Grid (.agg #[iv p0.g.W,iv p0.g.H,.slice a2 p0.g.Bits.length a3]) p0.g) ⟨_,y,S.mem.know (i:=0) (e:=fRep (rL rB) (.slice a2 p0.g.Bits.length a3) p0.g.Bits) y⟩
  refine sCall (X:=Option Addr × Nat) (f:=12) (vs:=[.agg #[iv p0.g.W,iv p0.g.H,.slice a2 p0.g.Bits.length a3],.slice ad_0_1 p0.l.length cp_0_1]) (val:=fun x=>.tuple #[.agg #[iv a0.1.W,iv a0.1.H,.slice x.1 a0.1.Bits.length x.2],iv a0.2.1,iv a0.2.2.1]) (B':=fun x=>[eRow rB 4 (.slice x.1 a0.1.Bits.length x.2) a0.1.Bits,eRow (rI .i64) 3 (.slice ad_0_1 p0.l.length cp_0_1) a0.2.2.2]) (D':=fun _=>[]) [eRow (rI .i64) 3 (.slice ad_0_1 p0.l.length cp_0_1) p0.l] [eBox bb0 68 [iv p0.g.W,iv p0.g.H,.slice a2 p0.g.Bits.length a3,iv p0.k,.slice ad_0_1 p0.l.length cp_0_1,.slice ak p0.best.length al,iv p0.least]] [fRep r_api_Grid (.agg #[iv p0.g.W,iv p0.g.H,.slice a2 p0.g.Bits.length a3]) p0.g] [1,0] [0] S (wN y) y callee12 y (by decide) y y (fun E1 w1 S1=>c_reduce_Change_s1 E1 w1 p0.g (.agg #[iv p0.g.W,iv p0.g.H,.slice a2 p0.g.Bits.length a3]) p0.l ad_0_1 cp_0_1 a0 aT S1) y (lb y) fun xx a w S=>?_
  obtain ⟨a7,a8⟩:=xx
  dsimp only at S
  refine leafL ⟨y,_,_,.inl ⟨28,(.tuple #[.agg #[iv a0.1.W,iv a0.1.H,.slice a7 a0.1.Bits.length a8],iv a0.2.1,iv a0.2.2.1]),[(9,19,.tuple #[.agg #[iv a0.1.W,iv a0.1.H,.slice a7 a0.1.Bits.length a8],iv a0.2.1,iv a0.2.2.1]),(10,29,.agg #[iv a0.1.W,iv a0.1.H,.slice a7 a0.1.Bits.length a8]),(11,30,iv a0.2.1),(12,31,iv a0.2.2.1)],y,S,hz_of y,?_⟩⟩
  refine node_by (A:=anc_reduce_search_from_s7_1) 17 (by kernel_rfl) (by kernel_rfl) (by kernel_rfl) (by kernel_rfl) (by kernel_rfl) [9,10,11,12,8,0,1,2,3,4,5,6,7] (by kernel_rfl) (by decide) (by decide) (fD 8 (fD 8 (fD 8 (fD 8 (fD 8 (fD 8 (fD 8 (fD 8 (fY (fF ?_ (fF ?_ (fF ?_ (fF ?_ (fN ?_ (aB 14 2 13 (by decide) (fE 13 (fE 13 (trivial)))))))))))))))))) [] (fun q hq=>by cases hq) (fun hY=>absurd (hY 13 (by decide)) (by decide))
  ·exact fM 0 (some 4) y y y y (.inl y) y y y
  ·refine fJ [(19,_)] 1 [some 0] fun G a w S=>?_
   exact sExtract (vs:=[.agg #[iv a0.1.W,iv a0.1.H,.slice a7 a0.1.Bits.length a8],iv a0.2.1,iv a0.2.2.1]) (.agg #[iv a0.1.W,iv a0.1.H,.slice a7 a0.1.Bits.length a8]) S (wN y) y y y y (lb y) fun a S=>leafL ⟨y,S⟩
  ·refine fJ [(19,_)] 2 [some 0] fun G a w S=>?_
   exact sExtract (vs:=[.agg #[iv a0.1.W,iv a0.1.H,.slice a7 a0.1.Bits.length a8],iv a0.2.1,iv a0.2.2.1]) (iv a0.2.1) S (wN y) y y y y (lb y) fun a S=>leafL ⟨y,S⟩
  ·refine fJ [(19,_)] 3 [some 0] fun G a w S=>?_
   exact sExtract (vs:=[.agg #[iv a0.1.W,iv a0.1.H,.slice a7 a0.1.Bits.length a8],iv a0.2.1,iv a0.2.2.1]) (iv a0.2.2.1) S (wN y) y y y y (lb y) fun a S=>leafL ⟨y,S⟩
  refine ⟨_,[],y,(srcs_of [] y y y),fun G a w S=>?_⟩
  refine sAlloc (.agg #[iv 0,iv 0,.slice none 0 0]) S (wN y) y y [iv 0,iv 0,.slice none 0 0] y y (lb y) fun a bm w S=>leafL ⟨y,_,_,.inl ⟨4,(.pointer (some ⟨bm,0,none⟩)),[],y,S,hz_of y,?_⟩⟩
  refine node_by (A:=anc_reduce_search_from_s7_1) 17 (by kernel_rfl) (by kernel_rfl) (by kernel_rfl) (by kernel_rfl) (by kernel_rfl) [13,9,10,11,12,8,0,1,2,3,4,5,6,7] (by kernel_rfl) (by decide) (by decide) (fD 8 (fD 8 (fD 8 (fD 8 (fD 8 (fD 8 (fD 8 (fD 8 (fY (fF ?_ (fF ?_ (fF ?_ (fF ?_ (fY (fN ?_ (fE 14 (fE 14 (trivial)))))))))))))))))) [] (fun q hq=>by cases hq) (fun hY=>absurd (hY 14 (by decide)) (by decide))
  ·exact fM 1 (some 5) y y y y (.inl y) y y y
  ·refine fJ [(19,_)] 2 [some 1] fun G a w S=>?_
   exact sExtract (vs:=[.agg #[iv a0.1.W,iv a0.1.H,.slice a7 a0.1.Bits.length a8],iv a0.2.1,iv a0.2.2.1]) (.agg #[iv a0.1.W,iv a0.1.H,.slice a7 a0.1.Bits.length a8]) S (wN y) y y y y (lb y) fun a S=>leafL ⟨y,S⟩
  ·refine fJ [(19,_)] 3 [some 1] fun G a w S=>?_
   exact sExtract (vs:=[.agg #[iv a0.1.W,iv a0.1.H,.slice a7 a0.1.Bits.length a8],iv a0.2.1,iv a0.2.2.1]) (iv a0.2.1) S (wN y) y y y y (lb y) fun a S=>leafL ⟨y,S⟩
  ·refine fJ [(19,_)] 4 [some 1] fun G a w S=>?_
   exact sExtract (vs:=[.agg #[iv a0.1.W,iv a0.1.H,.slice a7 a0.1.Bits.length a8],iv a0.2.1,iv a0.2.2.1]) (iv a0.2.2.1) S (wN y) y y y y (lb y) fun a S=>leafL ⟨y,S⟩
  refine ⟨_,[(4,.pointer (some ⟨bm,0,none⟩)),(29,.agg #[iv a0.1.W,iv a0.1.H,.slice a7 a0.1.Bits.length a8])],y,(srcs_of [some 0,some 2] y y y),fun G a w S=>?_⟩
  refine sStore (p:=bm) (off:=0) (T:=24) (vs:=[iv 0,iv 0,.slice none 0 0]) (v:=.agg #[iv a0.1.W,iv a0.1.H,.slice a7 a0.1.Bits.length a8]) 0 [iv a0.1.W,iv a0.1.H,.slice a7 a0.1.Bits.length a8] S (wN y) y y y y y y y (by simp) y fun a w S=>leafL ⟨y,_,_,.inr ⟨[(15,5,iv a0.2.1),(16,6,iv a0.2.2.1)],y,S,hz_of y,?_⟩⟩
  refine node_by (A:=anc_reduce_search_from_s7_1) 17 (by kernel_rfl) (by kernel_rfl) (by kernel_rfl) (by kernel_rfl) (by kernel_rfl) [15,16,13,9,10,11,12,8,0,1,2,3,4,5,6,7] (by kernel_rfl) (by decide) (by decide) (fD 14 (fD 14 (fD 14 (fD 14 (fD 14 (fD 14 (fD 14 (fD 14 (fY (fD 14 (fD 14 (fF ?_ (fF ?_ (fY (fY (fF ?_ (fF ?_ (trivial)))))))))))))))))) [(0,.pointer (some ⟨bb0,0,none⟩)),(5,iv a0.2.1)] (fin_of [none,some 0] y (by kernel_rfl) (by kernel_rfl)) (fun _ a w S=>?_)
  ·refine fJ [(19,_)] 5 [some 3] fun G a w S=>?_
   exact sExtract (vs:=[.agg #[iv a0.1.W,iv a0.1.H,.slice a7 a0.1.Bits.length a8],iv a0.2.1,iv a0.2.2.1]) (iv a0.2.1) S (wN y) y y y y (lb y) fun a S=>leafL ⟨y,S⟩
  ·refine fJ [(19,_)] 6 [some 3] fun G a w S=>?_
   exact sExtract (vs:=[.agg #[iv a0.1.W,iv a0.1.H,.slice a7 a0.1.Bits.length a8],iv a0.2.1,iv a0.2.2.1]) (iv a0.2.2.1) S (wN y) y y y y (lb y) fun a S=>leafL ⟨y,S⟩
  ·exact fM 0 (some 5) y y y y (.inr y) y y y
  ·exact fM 1 (some 6) y y y y (.inr y) y y y
  have bn:=row_v (S.mem.hold (i:=2) (e:=eRow (rI .i64) 3 (.slice ad_0_1 p0.l.length cp_0_1) a0.2.2.2) y)
  rw [bn] at S
  exact leafT (⟨a0.2.1,a0.2.2.2,Option.some.inj h,ad_0_1,cp_0_1,S.fix [3,2] [1,2] (by decide) y y y⟩)
 refine ⟨_,[],y,(srcs_of [] y y y),fun G a w S=>?_⟩
 refine sAlloc (.agg #[iv 0,iv 0,.slice none 0 0]) S (wN y) y y [iv 0,iv 0,.slice none 0 0] y y (lb y) fun a aV w S=>leafL ⟨y,_,_,.inl ⟨4,(.pointer (some ⟨aV,0,none⟩)),[],y,S,hz_of y,?_⟩⟩
 refine node_by (A:=anc_reduce_search_from_s7_1) 17 (by kernel_rfl) (by kernel_rfl) (by kernel_rfl) (by kernel_rfl) (by kernel_rfl) [13,0,1,2,3,4,5,6,7] (by kernel_rfl) (by decide) (by decide) (fF ?_ (fF ?_ (fF ?_ (fF ?_ (fF ?_ (fF ?_ (fF ?_ (fF ?_ (fN ?_ (fE 8 (fE 8 (fE 8 (fE 8 (fY (aB 14 2 8 (by decide) (fE 8 (fE 8 (trivial)))))))))))))))))) [] (fun q hq=>by cases hq) (fun hY=>absurd (hY 8 (by decide)) (by decide))
 ·exact fM 1 none y y y y (.inl y) y y y
 ·refine fJ [(20,_)] 2 [some 1] fun G a w S=>?_
  exact nilCheck_ok (q:=⟨bb0,0,none⟩) S (wN y) y y y (lb y) fun a S=>leafL ⟨y,S⟩
 ·refine fJ [(21,_)] 3 [some 2] fun G a w S=>?_
  exact sField (b:=bb0) (off:=0) 0 0 S (wN y) y y y y y (lb y) fun a S=>leafL ⟨y,S⟩
 ·refine fJ [(22,_)] 4 [some 3] fun G a w S=>?_
  exact sLoadN (p:=bb0) (off:=0) (T:=68) (vs:=[iv p0.g.W,iv p0.g.H,.slice a2 p0.g.Bits.length a3,iv p0.k,.slice ad_0_1 p0.l.length cp_0_1,.slice ak p0.best.length al,iv p0.least]) 1 [iv p0.g.W,iv p0.g.H,.slice a2 p0.g.Bits.length a3] S (wN y) y y y y y y y (lb y) fun a S=>leafL ⟨y,S⟩
 ·exact fM 5 none y y y y (.inl y) y y y
 ·refine fJ [(24,_)] 6 [some 5] fun G a w S=>?_
  exact nilCheck_ok (q:=⟨bb0,0,none⟩) S (wN y) y y y (lb y) fun a S=>leafL ⟨y,S⟩
 ·refine fJ [(25,_)] 7 [some 6] fun G a w S=>?_
  exact sField (b:=bb0) (off:=0) 4 4 S (wN y) y y y y y (lb y) fun a S=>leafL ⟨y,S⟩
 ·refine fJ [(26,_)] 8 [some 7] fun G a w S=>?_
  exact sLoad1 1 (.slice ad_0_1 p0.l.length cp_0_1) S (wN y) y y y y y y (lb y) fun a S=>leafL ⟨y,S⟩
 refine ⟨_,[(23,.agg #[iv p0.g.W,iv p0.g.H,.slice a2 p0.g.Bits.length a3]),(27,.slice ad_0_1 p0.l.length cp_0_1)],y,(srcs_of [some 4,some 8] y y y),fun G a w S=>?_⟩
 have S:=S.learn (fRep r_api_Grid (.agg #[iv p0.g.W,iv p0.g.H,.slice a2 p0.g.Bits.length a3]) p0.g) ⟨_,y,S.mem.know (i:=0) (e:=fRep (rL rB) (.slice a2 p0.g.Bits.length a3) p0.g.Bits) y⟩
 refine sCall (X:=Option Addr × Nat) (f:=12) (vs:=[.agg #[iv p0.g.W,iv p0.g.H,.slice a2 p0.g.Bits.length a3],.slice ad_0_1 p0.l.length cp_0_1]) (val:=fun x=>.tuple #[.agg #[iv a0.1.W,iv a0.1.H,.slice x.1 a0.1.Bits.length x.2],iv a0.2.1,iv a0.2.2.1]) (B':=fun x=>[eRow rB 4 (.slice x.1 a0.1.Bits.length x.2) a0.1.Bits,eRow (rI .i64) 3 (.slice ad_0_1 p0.l.length cp_0_1) a0.2.2.2]) (D':=fun _=>[]) [eRow (rI .i64) 3 (.slice ad_0_1 p0.l.length cp_0_1) p0.l] [eBox aV 24 [iv 0,iv 0,.slice none 0 0],eBox bb0 68 [iv p0.g.W,iv p0.g.H,.slice a2 p0.g.Bits.length a3,iv p0.k,.slice ad_0_1 p0.l.length cp_0_1,.slice ak p0.best.length al,iv p0.least]] [fRep r_api_Grid (.agg #[iv p0.g.W,iv p0.g.H,.slice a2 p0.g.Bits.length a3]) p0.g] [2,0,1] [0] S (wN y) y callee12 y (by decide) y y (fun E1 w1 S1=>c_reduce_Change_s1 E1 w1 p0.g (.agg #[iv p0.g.W,iv p0.g.H,.slice a2 p0.g.Bits.length a3]) p0.l ad_0_1 cp_0_1 a0 aT S1) y (lb y) fun xx a w S=>?_
 obtain ⟨ab,ac⟩:=xx
 dsimp only at S
 refine leafL ⟨y,_,_,.inl ⟨28,(.tuple #[.agg #[iv a0.1.W,iv a0.1.H,.slice ab a0.1.Bits.length ac],iv a0.2.1,iv a0.2.2.1]),[(9,19,.tuple #[.agg #[iv a0.1.W,iv a0.1.H,.slice ab a0.1.Bits.length ac],iv a0.2.1,iv a0.2.2.1]),(10,29,.agg #[iv a0.1.W,iv a0.1.H,.slice ab a0.1.Bits.length ac]),(11,30,iv a0.2.1),(12,31,iv a0.2.2.1)],y,S,hz_of y,?_⟩⟩
 refine node_by (A:=anc_reduce_search_from_s7_1) 17 (by kernel_rfl) (by kernel_rfl) (by kernel_rfl) (by kernel_rfl) (by kernel_rfl) [9,10,11,12,8,13,0,1,2,3,4,5,6,7] (by kernel_rfl) (by decide) (by decide) (fD 8 (fD 8 (fD 8 (fD 8 (fD 8 (fD 8 (fD 8 (fD 8 (fY (fF ?_ (fF ?_ (fF ?_ (fF ?_ (fY (fN ?_ (fE 14 (fE 14 (trivial)))))))))))))))))) [] (fun q hq=>by cases hq) (fun hY=>absurd (hY 14 (by decide)) (by decide))
 ·exact fM 0 (some 4) y y y y (.inl y) y y y
 ·refine fJ [(19,_)] 1 [some 0] fun G a w S=>?_
  exact sExtract (vs:=[.agg #[iv a0.1.W,iv a0.1.H,.slice ab a0.1.Bits.length ac],iv a0.2.1,iv a0.2.2.1]) (.agg #[iv a0.1.W,iv a0.1.H,.slice ab a0.1.Bits.length ac]) S (wN y) y y y y (lb y) fun a S=>leafL ⟨y,S⟩
 ·refine fJ [(19,_)] 2 [some 0] fun G a w S=>?_
  exact sExtract (vs:=[.agg #[iv a0.1.W,iv a0.1.H,.slice ab a0.1.Bits.length ac],iv a0.2.1,iv a0.2.2.1]) (iv a0.2.1) S (wN y) y y y y (lb y) fun a S=>leafL ⟨y,S⟩
 ·refine fJ [(19,_)] 3 [some 0] fun G a w S=>?_
  exact sExtract (vs:=[.agg #[iv a0.1.W,iv a0.1.H,.slice ab a0.1.Bits.length ac],iv a0.2.1,iv a0.2.2.1]) (iv a0.2.2.1) S (wN y) y y y y (lb y) fun a S=>leafL ⟨y,S⟩
 refine ⟨_,[(4,.pointer (some ⟨aV,0,none⟩)),(29,.agg #[iv a0.1.W,iv a0.1.H,.slice ab a0.1.Bits.length ac])],y,(srcs_of [some 5,some 1] y y y),fun G a w S=>?_⟩
 refine sStore (p:=aV) (off:=0) (T:=24) (vs:=[iv 0,iv 0,.slice none 0 0]) (v:=.agg #[iv a0.1.W,iv a0.1.H,.slice ab a0.1.Bits.length ac]) 2 [iv a0.1.W,iv a0.1.H,.slice ab a0.1.Bits.length ac] S (wN y) y y y y y y y (by simp) y fun a w S=>leafL ⟨y,_,_,.inr ⟨[(15,5,iv a0.2.1),(16,6,iv a0.2.2.1)],y,S,hz_of y,?_⟩⟩
 refine node_by (A:=anc_reduce_search_from_s7_1) 17 (by kernel_rfl) (by kernel_rfl) (by kernel_rfl) (by kernel_rfl) (by kernel_rfl) [15,16,9,10,11,12,8,13,0,1,2,3,4,5,6,7] (by kernel_rfl) (by decide) (by decide) (fD 14 (fD 14 (fD 14 (fD 14 (fD 14 (fD 14 (fD 14 (fD 14 (fY (fD 14 (fD 14 (fF ?_ (fF ?_ (fY (fY (fF ?_ (fF ?_ (trivial)))))))))))))))))) [(0,.pointer (some ⟨bb0,0,none⟩)),(5,iv a0.2.1)] (fin_of [none,some 0] y (by kernel_rfl) (by kernel_rfl)) (fun _ a w S=>?_)
 ·refine fJ [(19,_)] 4 [some 2] fun G a w S=>?_
  exact sExtract (vs:=[.agg #[iv a0.1.W,iv a0.1.H,.slice ab a0.1.Bits.length ac],iv a0.2.1,iv a0.2.2.1]) (iv a0.2.1) S (wN y) y y y y (lb y) fun a S=>leafL ⟨y,S⟩
 ·refine fJ [(19,_)] 5 [some 2] fun G a w S=>?_
  exact sExtract (vs:=[.agg #[iv a0.1.W,iv a0.1.H,.slice ab a0.1.Bits.length ac],iv a0.2.1,iv a0.2.2.1]) (iv a0.2.2.1) S (wN y) y y y y (lb y) fun a S=>leafL ⟨y,S⟩
 ·exact fM 0 (some 4) y y y y (.inr y) y y y
 ·exact fM 1 (some 5) y y y y (.inr y) y y y
 have bo:=row_v (S.mem.hold (i:=2) (e:=eRow (rI .i64) 3 (.slice ad_0_1 p0.l.length cp_0_1) a0.2.2.2) y)
 rw [bo] at S
 exact leafT (⟨a0.2.1,a0.2.2.2,Option.some.inj h,ad_0_1,cp_0_1,S.fix [3,2] [1,2] (by decide) y y y⟩)
def anc_reduce_search_from_s6_0:List (List Nat):=[[],[0],[0,1],[0,1,2],[0,1,2,3],[],[5],[5,6],[5,6,7],[5,6,7,8],[0,1,2,3,4,5,6,7,8,9]]
def anc_reduce_search_from_s6_1:List (List Nat):=[[],[0],[0,1],[0,1,2],[],[4],[4,5],[4,5,6],[0,1,2,3,4,5,6,7],[0,1,2,3,4,5,6,7,8],[0,1,2,3,4,5,6,7,8,9],[0,1,2,3,4,5,6,7,8,9],[0,1,2,3,4,5,6,7,8,9],[],[0,1,2,3,4,5,6,7,8,9,10,13],[0,1,2,3,4,5,6,7,8,9,10,11,13,14],[0,1,2,3,4,5,6,7,8,9,10,11,12,13,14,15]]
def anc_reduce_search_from_s6_2:List (List Nat):=[[],[],[1],[1,2],[1,2,3],[],[5],[5,6],[5,6,7],[5,6,7,8],[5,6,7,8,9],[1,2,3,4,5,6,7,8,9,10],[0,1,2,3,4,5,6,7,8,9,10,11],[0,1,2,3,4,5,6,7,8,9,10,11,12],[0,1,2,3,4,5,6,7,8,9,10,11,12,13]]
noncomputable def reduce_search_from_s6_l1 (p0:reduce_search) (p1:Int):(Int × Int × Int × Int × List Int × List Int × Int)→Option ((Int × Int × Int × Int × List Int × List Int × Int) ⊕ (Int × Int × Int × List Int × List Int × Int)):=fun s0=>match s0 with
 | (a2,a3,a4,a5,a6,a7,a8)=>
  if decide (a2 < (if p0.k < (w64 (p1 + 1)) then p0.k else w64 (p1 + 1))) then
   (appO a6 ([a2]:List Int)).bind fun a9=>
   (F_reduce_search_from_s7 (reduce_search.mk (api_Grid.mk a3 a4 p0.g.Bits) a5 a9 a7 a8) (if p1 < (w64 (a2 + 1)) then w64 (a2 + 1) else p1)).bind fun a0=>
   (sliceO a0.l 0 (w64 ((a0.l.length:Int) - 1))).bind fun aa=>
   some (.inl (w64 (a2 + 1),a0.g.W,a0.g.H,a0.k,aa,a0.best,a0.least))
  else
   some (.inr (a3,a4,a5,a6,a7,a8))
noncomputable def F_reduce_search_from_s6 (p0:reduce_search) (p1:Int):Option reduce_search:=
 if (p0.l.length:Int) == p0.g.W then
  Option.bind (α:=(List Int × List Int × Int)) (
   Option.bind (α:=(Int × List Int)) (
    (F_reduce_Change_s1 p0.g p0.l).bind fun a2=>
    some (a2.2.1,a2.2.2.2)) fun (a3,a4)=>
   Option.bind (α:=Bool) (
    if p0.best.isEmpty then
     some true
    else
     some (decide (a3 < p0.least))) fun a5=>
   if a5 then
    (F_slices_Clone___int_int__s1 a4).bind fun a0=>
    (neO a0.1).bind fun af=>
    some (a0.2,a0.1,a3)
   else
    some (a4,p0.best,p0.least)) fun (o8,a6,a7)=>
  some (reduce_search.mk p0.g p0.k o8 a6 a7)
 else
  (whileO (reduce_search_from_s6_l1 p0 p1) (0,p0.g.W,p0.g.H,p0.k,p0.l,p0.best,p0.least)).bind fun (a8,a9,aa,ab,ac,ae)=>
   some (reduce_search.mk (api_Grid.mk a8 a9 p0.g.Bits) aa ab ac ae)
theorem c_reduce_search_from_s6 (E:Nat→Prop) (w0:World) (p0:reduce_search) (bb0:Nat) (u_0_0:Value) (ad_0_1:Option Addr) (cp_0_1:Nat) (u_0_2:Value) (p1:Int) (r:reduce_search) (h:F_reduce_search_from_s6 p0 p1=some r) (S:St0 E (keysL [eBox bb0 68 [iv p0.g.W,iv p0.g.H,u_0_0,iv p0.k,.slice ad_0_1 p0.l.length cp_0_1,u_0_2,iv p0.least],eRow (rI .i64) 3 (.slice ad_0_1 p0.l.length cp_0_1) p0.l]) w0 w0 [eBox bb0 68 [iv p0.g.W,iv p0.g.H,u_0_0,iv p0.k,.slice ad_0_1 p0.l.length cp_0_1,u_0_2,iv p0.least],eRow (rI .i64) 3 (.slice ad_0_1 p0.l.length cp_0_1) p0.l] [fRep (rL rB) (u_0_0) p0.g.Bits,fRep (rLz (rI .i64)) (u_0_2) p0.best]) :
 Calls Try.prog 41 #[.pointer (some ⟨bb0,0,none⟩),iv p1] w0 (Ret (X:=Option Addr × Nat × Value) E (keysL [eBox bb0 68 [iv p0.g.W,iv p0.g.H,u_0_0,iv p0.k,.slice ad_0_1 p0.l.length cp_0_1,u_0_2,iv p0.least],eRow (rI .i64) 3 (.slice ad_0_1 p0.l.length cp_0_1) p0.l]) w0 (fun _=>.tuple #[]) (fun x=>[eBox bb0 68 [iv r.g.W,iv r.g.H,u_0_0,iv r.k,.slice x.1 r.l.length x.2.1,x.2.2,iv r.least],eRow (rI .i64) 3 (.slice x.1 r.l.length x.2.1) r.l]) (fun x=>[fRep (rLz (rI .i64)) x.2.2 r.best])):=by
 unfold F_reduce_search_from_s6 at h
 obtain ⟨a2,a3,_,rfl,_⟩:=S.know (i:=0) (e:=fRep (rL rB) (u_0_0) p0.g.Bits) y
 obtain ⟨⟨ak,al,_,rfl,_⟩,_⟩:=S.know (i:=1) (e:=fRep (rLz (rI .i64)) (u_0_2) p0.best) y
 generalize (keysL [eBox bb0 68 [iv p0.g.W,iv p0.g.H,.slice a2 p0.g.Bits.length a3,iv p0.k,.slice ad_0_1 p0.l.length cp_0_1,.slice ak p0.best.length al,iv p0.least],eRow (rI .i64) 3 (.slice ad_0_1 p0.l.length cp_0_1) p0.l])=M9 at S ⊢
 refine sEnter (args:=[.pointer (some ⟨bb0,0,none⟩),iv p1]) 98 Try.func41 y y (by simp) S (fun a S=>?_)
 refine sSeq (fun K5 bp=>sSeq (fun K6 bq=>sDraw (nf:=[]) (W:=[(0,8,.pointer (some ⟨bb0,0,none⟩)),(1,9,.pointer (some ⟨bb0,0,none⟩)),(2,10,.pointer (some ⟨bb0,4,none⟩)),(3,11,.slice ad_0_1 p0.l.length cp_0_1),(4,12,iv (p0.l.length:Int)),(5,13,.pointer (some ⟨bb0,0,none⟩)),(6,14,.pointer (some ⟨bb0,0,none⟩)),(7,15,.pointer (some ⟨bb0,0,none⟩)),(8,16,.pointer (some ⟨bb0,0,none⟩)),(9,17,iv p0.g.W),(10,18,.bool ((p0.l.length:Int) == p0.g.W))]) y S ?_))
 refine node_by (A:=anc_reduce_search_from_s6_0) 11 (by kernel_rfl) (by kernel_rfl) (by kernel_rfl) (by kernel_rfl) (by kernel_rfl) [0,1,2,3,4,5,6,7,8,9,10] (by kernel_rfl) (by decide) (by decide) (fF ?_ (fF ?_ (fF ?_ (fF ?_ (fF ?_ (fF ?_ (fF ?_ (fF ?_ (fF ?_ (fF ?_ (fF ?_ (trivial)))))))))))) [(0,.pointer (some ⟨bb0,0,none⟩)),(1,iv p1),(18,.bool ((p0.l.length:Int) == p0.g.W))] (fin_of [none,none,some 10] y (by kernel_rfl) (by kernel_rfl)) (fun _ a w S=>?_)
 ·exact fM 0 none y y y y (.inl y) y y y
 ·refine fJ [(8,_)] 1 [some 0] fun G a w S=>?_
  exact nilCheck_ok (q:=⟨bb0,0,none⟩) S (wN y) y y y (lb y) fun a S=>leafL ⟨y,S⟩
 ·refine fJ [(9,_)] 2 [some 1] fun G a w S=>?_
  exact sField (b:=bb0) (off:=0) 4 4 S (wN y) y y y y y (lb y) fun a S=>leafL ⟨y,S⟩
 ·refine fJ [(10,_)] 3 [some 2] fun G a w S=>?_
  exact sLoad1 0 (.slice ad_0_1 p0.l.length cp_0_1) S (wN y) y y y y y y (lb y) fun a S=>leafL ⟨y,S⟩
 ·refine fJ [(11,_)] 4 [some 3] fun G a w S=>?_
  exact sLen S (wN y) y Try.underlying25 y y (lb y) fun a S=>leafL ⟨y,S⟩
 ·exact fM 5 none y y y y (.inl y) y y y
 ·refine fJ [(13,_)] 6 [some 5] fun G a w S=>?_
  exact nilCheck_ok (q:=⟨bb0,0,none⟩) S (wN y) y y y (lb y) fun a S=>leafL ⟨y,S⟩
 ·refine fJ [(14,_)] 7 [some 6] fun G a w S=>?_
  exact sField (b:=bb0) (off:=0) 0 0 S (wN y) y y y y y (lb y) fun a S=>leafL ⟨y,S⟩
 ·refine fJ [(15,_)] 8 [some 7] fun G a w S=>?_
  exact sField (b:=bb0) (off:=0) 0 0 S (wN y) y y y y y (lb y) fun a S=>leafL ⟨y,S⟩
 ·refine fJ [(16,_)] 9 [some 8] fun G a w S=>?_
  exact sLoad1 0 (iv p0.g.W) S (wN y) y y y y y y (lb y) fun a S=>leafL ⟨y,S⟩
 ·refine fJ [(12,_),(17,_)] 10 [some 4,some 9] fun G a w S=>?_
  exact sBin _ S (wN y) y y y (bEq _ _ _ _ .i64 (p0.l.length:Int) p0.g.W) y (lb y) fun a S=>leafL ⟨y,S⟩
 refine leafT (bq _ _ ?_)
 rcases iS h with ⟨aW,h⟩ | ⟨aW,h⟩
 rotate_left
 ·refine sCondF S y aW (wp_skip (leafT (bp _ _ ?_)))
  refine sSeq (fun bB aX=>sRegion (sM S fun a S=>?_))
  refine sBin _ S (wN y) y y y (bAdd _ _ _ _ p1 1) y (lb y) fun a S=>sM S fun a S=>?_
  refine nilCheck_ok (q:=⟨bb0,0,none⟩) S (wN y) y y y (lb y) fun a S=>sField (b:=bb0) (off:=0) 3 3 S (wN y) y y y y y (lb y) fun a S=>sLoad1 0 (iv p0.k) S (wN y) y y y y y y (lb y) fun a S=>sMin2 (p:=w64 (p1 + 1)) (q:=p0.k) S (wN y) y y y y (lb y) fun a S=>sM S fun a S=>?_
  refine lT (aX _ _ (wp_block ?_))
  obtain ⟨bC,hl,br⟩:=bS h
  refine sLoop hl (fun s0 a w=>match s0 with | (af,aJ,aK,aL,aA,ar,aM)=>∃ am,∃ ao,∃ ah,∃ ai,St [] E M9 w0 98 a w [(0,.pointer (some ⟨bb0,0,none⟩)),(1,iv p1),(63,iv (if p0.k < (w64 (p1 + 1)) then p0.k else w64 (p1 + 1))),(64,iv af)] [eBox bb0 68 [iv aJ,iv aK,.slice a2 p0.g.Bits.length a3,iv aL,.slice am aA.length ao,.slice ah ar.length ai,iv aM],eRow (rI .i64) 3 (.slice am aA.length ao) aA] [fRep (rL rB) (.slice a2 p0.g.Bits.length a3) p0.g.Bits,fRep (rLz (rI .i64)) (.slice ah ar.length ai) ar]) ⟨ad_0_1,cp_0_1,ak,al,S.fix [0,1] [0,1] (by decide) y y y⟩ ?_
  clear hl h
  intro s0 a w c0 hI h aZ
  obtain ⟨af,aJ,aK,aL,aA,ar,aM⟩:=s0
  unfold reduce_search_from_s6_l1 at h
  dsimp only at h hI
  obtain ⟨am,ao,ah,ai,S⟩:=hI
  refine sSeq (fun bD b1=>sRegion (sBin _ S (wN y) y y y (bLt _ _ _ _ .i64 af (if p0.k < (w64 (p1 + 1)) then p0.k else w64 (p1 + 1))) y (lb y) fun a S=>lT (b1 _ _ (sSeq (fun bE b3=>?_)))))
  rcases iS h with ⟨aC,h⟩ | ⟨aC,h⟩
  rotate_left
  ·refine sCondF S y aC ?_
   obtain rfl:=tS h
   obtain rfl:=aZ _ y
   have h:=br
   try dsimp only at h
   obtain rfl:=tS h
   exact wp_exit (xThen (xThen (xHit (sEnd (.tuple #[]) S (rsl0 y ) ⟨(am,ao,(.slice ah ar.length ai)),y,S.mem.sel [0,1] [1] (by decide) y y⟩))))
  refine sCondT S y aC (wp_skip (leafT (b3 _ _ ?_)))
  refine sSeq (fun bG b4=>wp_block ?_)
  refine sSeq (fun bH b5=>sRegion (sM S fun a S=>?_))
  refine sN S fun a S=>?_
  refine lT (b5 _ _ (sSeq (fun bI ba=>sRegion (sM S fun a S=>?_))))
  refine sM S fun a S=>?_
  refine nilCheck_ok (q:=⟨bb0,0,none⟩) S (wN y) y y y (lb y) fun a S=>sField (b:=bb0) (off:=0) 4 4 S (wN y) y y y y y (lb y) fun a S=>sLoad1 0 (.slice am aA.length ao) S (wN y) y y y y y y (lb y) fun a S=>sM S fun a S=>?_
  refine sLit (r:=(rI .i64)) (T:=3) (xs:=([af]:List Int)) [(0,iv af)] 1 [iv af] [iv af] (iv 0) 8 S (wN y) y y Try.underlying25 y (by decide) (by decide) (by kernel_rfl) y (fun E1 w1 hE=>All.cons y (All.nil _ _ _)) y y (lb y) fun a w aO aP S=>?_
  obtain ⟨aH,bb,h⟩:=bS h
  refine sApp (r:=(rI .i64)) (T:=3) (xs:=aA) (ys:=([af]:List Int)) (v:=.slice am aA.length ao) (u:=.slice aO ([af]:List Int).length aP) 2 (iv 0) 8 S (wN y) y Try.underlying25 y y (by decide) y y y (src_R (T:=3) 0 S.mem y) bb y (lb y) fun a w au av S=>nilCheck_ok (q:=⟨bb0,0,none⟩) S (wN y) y y y (lb y) fun a S=>sField (b:=bb0) (off:=0) 4 4 S (wN y) y y y y y (lb y) fun a S=>sStore (p:=bb0) (off:=4) (T:=68) (vs:=[iv aJ,iv aK,.slice a2 p0.g.Bits.length a3,iv aL,.slice am aA.length ao,.slice ah ar.length ai,iv aM]) (v:=.slice au aH.length av) 2 [.slice au aH.length av] S (wN y) y y y y y y y (by simp) y fun a w S=>lT (ba _ _ (sSeq (fun bJ bc=>sRegion (sM S fun a S=>?_))))
  refine sM S fun a S=>?_
  refine sM S fun a S=>?_
  refine sBin _ S (wN y) y y y (bAdd _ _ _ _ af 1) y (lb y) fun a S=>sMax2 (p:=p1) (q:=w64 (af + 1)) S (wN y) y y y y (lb y) fun a S=>?_
  obtain ⟨a4,bf,h⟩:=bS h
  refine sCall (X:=Option Addr × Nat × Value) (f:=41) (vs:=[.pointer (some ⟨bb0,0,none⟩),iv (if p1 < (w64 (af + 1)) then w64 (af + 1) else p1)]) (val:=fun _=>.tuple #[]) (B':=fun x=>[eBox bb0 68 [iv a4.g.W,iv a4.g.H,.slice a2 p0.g.Bits.length a3,iv a4.k,.slice x.1 a4.l.length x.2.1,x.2.2,iv a4.least],eRow (rI .i64) 3 (.slice x.1 a4.l.length x.2.1) a4.l]) (D':=fun x=>[fRep (rLz (rI .i64)) x.2.2 a4.best]) [eBox bb0 68 [iv aJ,iv aK,.slice a2 p0.g.Bits.length a3,iv aL,.slice au aH.length av,.slice ah ar.length ai,iv aM],eRow (rI .i64) 3 (.slice au aH.length av) aH] [eRow (rI .i64) 3 (.slice aO ([af]:List Int).length aP) ([af]:List Int)] [fRep (rL rB) (.slice a2 p0.g.Bits.length a3) p0.g.Bits,fRep (rLz (rI .i64)) (.slice ah ar.length ai) ar] [0,1,2] [0,1] S (wN y) y callee41 y (by decide) y y (fun E1 w1 S1=>c_reduce_search_from_s7 E1 w1 (reduce_search.mk (api_Grid.mk aJ aK p0.g.Bits) aL aH ar aM) bb0 (.slice a2 p0.g.Bits.length a3) au av (.slice ah ar.length ai) (if p1 < (w64 (af + 1)) then w64 (af + 1) else p1) a4 bf S1) y (lb y) fun xx a w S=>?_
  obtain ⟨a9,aa,bt⟩:=xx
  dsimp only at S
  obtain ⟨⟨aQ,aR,_,rfl,_⟩,_⟩:=S.mem.know (i:=0) (e:=fRep (rLz (rI .i64)) (bt) a4.best) y
  refine lT (bc _ _ ?_)
  obtain ⟨aS,bg,h⟩:=bS h
  refine sDraw (nf:=[11,14]) (W:=[(0,83,.pointer (some ⟨bb0,0,none⟩)),(1,84,.pointer (some ⟨bb0,0,none⟩)),(2,85,.pointer (some ⟨bb0,0,none⟩)),(3,86,.pointer (some ⟨bb0,4,none⟩)),(4,87,.slice a9 a4.l.length aa),(5,88,.pointer (some ⟨bb0,0,none⟩)),(6,89,.pointer (some ⟨bb0,0,none⟩)),(7,90,.pointer (some ⟨bb0,4,none⟩)),(8,91,.slice a9 a4.l.length aa),(9,92,iv (a4.l.length:Int)),(10,93,iv (w64 ((a4.l.length:Int) - 1)))]) y S ?_
  refine node_by (A:=anc_reduce_search_from_s6_2) 15 (by kernel_rfl) (by kernel_rfl) (by kernel_rfl) (by kernel_rfl) (by kernel_rfl) [0,1,2,3,4,5,6,7,8,9,10] (by kernel_rfl) (by decide) (by decide) (fF ?_ (fF ?_ (fF ?_ (fF ?_ (fF ?_ (fF ?_ (fF ?_ (fF ?_ (fF ?_ (fF ?_ (fF ?_ (fN ?_ (fE 11 (fE 11 (aB 14 0 11 (by decide) (trivial)))))))))))))))) [] (fun q hq=>by cases hq) (fun hY=>absurd (hY 11 (by decide)) (by decide))
  ·exact fM 0 none y y y y (.inl y) y y y
  ·exact fM 1 none y y y y (.inl y) y y y
  ·refine fJ [(84,_)] 2 [some 1] fun G a w S=>?_
   exact nilCheck_ok (q:=⟨bb0,0,none⟩) S (wN y) y y y (lb y) fun a S=>leafL ⟨y,S⟩
  ·refine fJ [(85,_)] 3 [some 2] fun G a w S=>?_
   exact sField (b:=bb0) (off:=0) 4 4 S (wN y) y y y y y (lb y) fun a S=>leafL ⟨y,S⟩
  ·refine fJ [(86,_)] 4 [some 3] fun G a w S=>?_
   exact sLoad1 0 (.slice a9 a4.l.length aa) S (wN y) y y y y y y (lb y) fun a S=>leafL ⟨y,S⟩
  ·exact fM 5 none y y y y (.inl y) y y y
  ·refine fJ [(88,_)] 6 [some 5] fun G a w S=>?_
   exact nilCheck_ok (q:=⟨bb0,0,none⟩) S (wN y) y y y (lb y) fun a S=>leafL ⟨y,S⟩
  ·refine fJ [(89,_)] 7 [some 6] fun G a w S=>?_
   exact sField (b:=bb0) (off:=0) 4 4 S (wN y) y y y y y (lb y) fun a S=>leafL ⟨y,S⟩
  ·refine fJ [(90,_)] 8 [some 7] fun G a w S=>?_
   exact sLoad1 0 (.slice a9 a4.l.length aa) S (wN y) y y y y y y (lb y) fun a S=>leafL ⟨y,S⟩
  ·refine fJ [(91,_)] 9 [some 8] fun G a w S=>?_
   exact sLen S (wN y) y Try.underlying25 y y (lb y) fun a S=>leafL ⟨y,S⟩
  ·refine fJ [(92,_)] 10 [some 9] fun G a w S=>?_
   exact sBin _ S (wN y) y y y (bSub _ _ _ _ (a4.l.length:Int) 1) y (lb y) fun a S=>leafL ⟨y,S⟩
  refine ⟨_,[(87,.slice a9 a4.l.length aa),(93,iv (w64 ((a4.l.length:Int) - 1)))],y,(srcs_of [some 4,some 10] y y y),fun G a w S=>?_⟩
  refine sSliceT (r:=(rI .i64)) (T:=3) (ad:=a9) (c:=aa) (xs:=a4.l) (vlo:=none) (vhi:=(some (.int .i64 (w64 ((a4.l.length:Int) - 1))))) (hi':=w64 ((a4.l.length:Int) - 1)) 1 S (wN y) y Try.underlying25 y y y y y (.inr y) (.inl y) bg y (lb y) fun a S=>?_
  refine leafL ⟨y,_,_,.inl ⟨94,(.slice a9 aS.length aa),[(12,95,.pointer (some ⟨bb0,0,none⟩)),(13,96,.pointer (some ⟨bb0,4,none⟩))],y,S,hz_of y,?_⟩⟩
  refine node_by (A:=anc_reduce_search_from_s6_2) 15 (by kernel_rfl) (by kernel_rfl) (by kernel_rfl) (by kernel_rfl) (by kernel_rfl) [12,13,11,0,1,2,3,4,5,6,7,8,9,10] (by kernel_rfl) (by decide) (by decide) (fF ?_ (fD 11 (fD 11 (fD 11 (fD 11 (fD 11 (fD 11 (fD 11 (fD 11 (fD 11 (fD 11 (fY (fF ?_ (fF ?_ (fN ?_ (trivial)))))))))))))))) [] (fun q hq=>by cases hq) (fun hY=>absurd (hY 14 (by decide)) (by decide))
  ·exact fM 3 none y y y y (.inl y) y y y
  ·refine fJ [(83,_)] 0 [some 3] fun G a w S=>?_
   exact nilCheck_ok (q:=⟨bb0,0,none⟩) S (wN y) y y y (lb y) fun a S=>leafL ⟨y,S⟩
  ·refine fJ [(95,_)] 1 [some 0] fun G a w S=>?_
   exact sField (b:=bb0) (off:=0) 4 4 S (wN y) y y y y y (lb y) fun a S=>leafL ⟨y,S⟩
  refine ⟨_,[(94,.slice a9 aS.length aa),(96,.pointer (some ⟨bb0,4,none⟩))],y,(srcs_of [some 2,some 1] y y y),fun G a w S=>?_⟩
  refine sStore (p:=bb0) (off:=4) (T:=68) (vs:=[iv a4.g.W,iv a4.g.H,.slice a2 p0.g.Bits.length a3,iv a4.k,.slice a9 a4.l.length aa,.slice aQ a4.best.length aR,iv a4.least]) (v:=.slice a9 aS.length aa) 1 [.slice a9 aS.length aa] S (wN y) y y y y y y y (by simp) y fun a w S=>leafL ⟨y,_,_,.inr ⟨[],y,S,hz_of y,?_⟩⟩
  refine node_by (A:=anc_reduce_search_from_s6_2) 15 (by kernel_rfl) (by kernel_rfl) (by kernel_rfl) (by kernel_rfl) (by kernel_rfl) [12,13,11,0,1,2,3,4,5,6,7,8,9,10] (by kernel_rfl) (by decide) (by decide) (fD 14 (fD 14 (fD 14 (fD 14 (fD 14 (fD 14 (fD 14 (fD 14 (fD 14 (fD 14 (fD 14 (fY (fD 14 (fD 14 (fY (trivial)))))))))))))))) [(0,.pointer (some ⟨bb0,0,none⟩)),(1,iv p1),(63,iv (if p0.k < (w64 (p1 + 1)) then p0.k else w64 (p1 + 1))),(64,iv af)] (fin_of [none,none,none,none] y (by kernel_rfl) (by kernel_rfl)) (fun _ a w S=>?_)
  refine leafB (leafT (b4 _ _ ?_))
  refine sRegion (sBin _ S (wN y) y y y (bAdd _ _ _ _ af 1) y (lb y) fun a S=>sM S fun a S=>?_)
  exact lT (⟨(w64 (af + 1),a4.g.W,a4.g.H,a4.k,aS,a4.best,a4.least),(Option.some.inj h).symm,⟨a9,aa,aQ,aR,S.fix [0,1] [1,0] (by decide) y y y⟩⟩)
 refine sCondT S y aW ?_
 obtain ⟨bu,h,bv⟩:=bS h
 refine sCut (fun a w=>∃ o8,∃ aI,∃ bh,(o8,aI,bh)=bu∧∃ aU,∃ ax,∃ ay,∃ az,St [] E M9 w0 98 a w [] [eBox bb0 68 [iv p0.g.W,iv p0.g.H,.slice a2 p0.g.Bits.length a3,iv p0.k,.slice aU o8.length ax,.slice ay aI.length az,iv bh],eRow (rI .i64) 3 (.slice aU o8.length ax) o8] [fRep (rL rB) (.slice a2 p0.g.Bits.length a3) p0.g.Bits,fRep (rLz (rI .i64)) (.slice ay aI.length az) aI]) ?_ (fun a w hI=>?_)
 rotate_left
 ·obtain ⟨o8,aI,bh,rfl,aU,ax,ay,az,S⟩:=hI
  have h:=bv
  try dsimp only at h
  obtain rfl:=tS h
  exact wp_ret (rThen (sRet (.tuple #[]) S (rsl0 y ) ⟨(aU,ax,(.slice ay aI.length az)),y,S.mem.sel [0,1] [1] (by decide) y y⟩))
 obtain ⟨bw,h,bx⟩:=bS h
 refine sCut (fun a w=>∃ aw,∃ aj,(aw,aj)=bw∧∃ a5,∃ a6,St [] E M9 w0 98 a w [(0,.pointer (some ⟨bb0,0,none⟩)),(5,iv aw)] [eBox bb0 68 [iv p0.g.W,iv p0.g.H,.slice a2 p0.g.Bits.length a3,iv p0.k,.slice a5 aj.length a6,.slice ak p0.best.length al,iv p0.least],eRow (rI .i64) 3 (.slice a5 aj.length a6) aj] [fRep (rL rB) (.slice a2 p0.g.Bits.length a3) p0.g.Bits,fRep (rLz (rI .i64)) (.slice ak p0.best.length al) p0.best]) ?_ (fun a w hI=>?_)
 rotate_left
 ·obtain ⟨aw,aj,rfl,a5,a6,S⟩:=hI
  have h:=bx
  try dsimp only at h
  obtain ⟨bz,h,bA⟩:=bS h
  refine sCut (fun a w=>∃ bi,bi=bz∧St [] E M9 w0 98 a w [(0,.pointer (some ⟨bb0,0,none⟩)),(5,iv aw),(44,.bool bi)] [eBox bb0 68 [iv p0.g.W,iv p0.g.H,.slice a2 p0.g.Bits.length a3,iv p0.k,.slice a5 aj.length a6,.slice ak p0.best.length al,iv p0.least],eRow (rI .i64) 3 (.slice a5 aj.length a6) aj] [fRep (rL rB) (.slice a2 p0.g.Bits.length a3) p0.g.Bits,fRep (rLz (rI .i64)) (.slice ak p0.best.length al) p0.best]) ?_ (fun a w hI=>?_)
  ·refine sRegion (sM S fun a S=>?_)
   refine nilCheck_ok (q:=⟨bb0,0,none⟩) S (wN y) y y y (lb y) fun a S=>sField (b:=bb0) (off:=0) 5 5 S (wN y) y y y y y (lb y) fun a S=>sLoad1 0 (.slice ak p0.best.length al) S (wN y) y y y y y y (lb y) fun a S=>sBin _ S (wN y) y y y (bEqNilZ _ _ _ _ Try.underlying25 ak (p0.best.length) (al) (rLz_is (S.mem.know (i:=1) (e:=fRep (rLz (rI .i64)) (.slice ak p0.best.length al) p0.best) y))) y (lb y) fun a S=>sM S fun a S=>?_
   rcases iS h with ⟨ae,h⟩ | ⟨ae,h⟩
   ·refine sSkN 6 5 false 37 S y y ae y fun a S=>sPickT (.bool true) S (wN y) y y ae y y (lb y) fun a S=>?_
    exact lT (⟨true,Option.some.inj h,S.fix [0,1] [0,1] (by decide) y y y⟩)
   refine sMove (iv aw) S (wG 5 false 37 y y y ae) (.inl y) y y (lb y) fun a S=>sMove (.pointer (some ⟨bb0,0,none⟩)) S (wG 5 false 37 y y y ae) (.inl y) y y (lb y) fun a S=>nilCheck_ok (q:=⟨bb0,0,none⟩) S (wG 5 false 37 y y y ae) y y y (lb y) fun a S=>sField (b:=bb0) (off:=0) 6 6 S (wG 5 false 37 y y y ae) y y y y y (lb y) fun a S=>sLoad1 0 (iv p0.least) S (wG 5 false 37 y y y ae) y y y y y y (lb y) fun a S=>sBin _ S (wG 5 false 37 y y y ae) y y y (bLt _ _ _ _ .i64 aw p0.least) y (lb y) fun a S=>sPickF (.bool (decide (aw < p0.least))) S (wN y) y y ae y y (lb y) fun a S=>?_
   exact lT (⟨decide (aw < p0.least),Option.some.inj h,S.fix [0,1] [0,1] (by decide) y y y⟩)
  obtain ⟨bi,rfl,S⟩:=hI
  have h:=bA
  try dsimp only at h
  rcases iS h with ⟨aG,h⟩ | ⟨aG,h⟩
  rotate_left
  ·refine sCondF S y aG ?_
   exact wp_skip (leafT (⟨aj,p0.best,p0.least,Option.some.inj h,a5,a6,ak,al,S.fix [0,1] [0,1] (by decide) y y y⟩))
  refine sCondT S y aG (sRegion (sM S fun a S=>?_))
  refine sM S fun a S=>?_
  refine sM S fun a S=>?_
  refine nilCheck_ok (q:=⟨bb0,0,none⟩) S (wN y) y y y (lb y) fun a S=>sField (b:=bb0) (off:=0) 4 4 S (wN y) y y y y y (lb y) fun a S=>sLoad1 0 (.slice a5 aj.length a6) S (wN y) y y y y y y (lb y) fun a S=>?_
  obtain ⟨ag,bj,h⟩:=bS h
  refine sCall (X:=Option Addr × Nat) (f:=49) (vs:=[.slice a5 aj.length a6]) (val:=fun x=>.slice x.1 ag.1.length x.2) (B':=fun x=>[eRow (rI .i64) 3 (.slice x.1 ag.1.length x.2) ag.1,eRow (rI .i64) 3 (.slice a5 aj.length a6) ag.2]) (D':=fun _=>[]) [eRow (rI .i64) 3 (.slice a5 aj.length a6) aj] [eBox bb0 68 [iv p0.g.W,iv p0.g.H,.slice a2 p0.g.Bits.length a3,iv p0.k,.slice a5 aj.length a6,.slice ak p0.best.length al,iv p0.least]] [] [1,0] [] S (wN y) y callee49 y (by decide) y y (fun E1 w1 S1=>c_slices_Clone___int_int__s1 E1 w1 aj a5 a6 ag bj S1) y (lb y) fun xx a w S=>?_
  obtain ⟨ap,aq⟩:=xx
  dsimp only at S
  have bk:=row_v (S.mem.hold (i:=1) (e:=eRow (rI .i64) 3 (.slice a5 aj.length a6) ag.2) y)
  rw [bk] at S
  refine sM S fun a S=>?_
  refine nilCheck_ok (q:=⟨bb0,0,none⟩) S (wN y) y y y (lb y) fun a S=>sField (b:=bb0) (off:=0) 5 5 S (wN y) y y y y y (lb y) fun a S=>?_
  have S:=S.shutR (r:=(rI .i64)) (T:=3) (v:=.slice ap ag.1.length aq) (xs:=ag.1) 0 y
  obtain ⟨bK,bl,h⟩:=bS h
  have S:=S.learn (fRep (rLz (rI .i64)) (.slice ap ag.1.length aq) ag.1) (rLz_of (S.mem.know (i:=0) (e:=fRep (rL (rI .i64)) (.slice ap ag.1.length aq) ag.1) y) bl)
  refine sStore (p:=bb0) (off:=5) (T:=68) (vs:=[iv p0.g.W,iv p0.g.H,.slice a2 p0.g.Bits.length a3,iv p0.k,.slice a5 ag.2.length a6,.slice ak p0.best.length al,iv p0.least]) (v:=.slice ap ag.1.length aq) 1 [.slice ap ag.1.length aq] S (wN y) y y y y y y y (by simp) y fun a w S=>nilCheck_ok (q:=⟨bb0,0,none⟩) S (wN y) y y y (lb y) fun a S=>sField (b:=bb0) (off:=0) 6 6 S (wN y) y y y y y (lb y) fun a S=>sStore (p:=bb0) (off:=6) (T:=68) (vs:=[iv p0.g.W,iv p0.g.H,.slice a2 p0.g.Bits.length a3,iv p0.k,.slice a5 ag.2.length a6,.slice ap ag.1.length aq,iv p0.least]) (v:=iv aw) 0 [iv aw] S (wN y) y y y y y y y (by simp) y fun a w S=>?_
  exact lT (⟨ag.2,ag.1,aw,Option.some.inj h,a5,a6,ap,aq,S.fix [0,1] [2,0] (by decide) y y y⟩)
 obtain ⟨a0,aT,h⟩:=bS h
 refine sDraw (nf:=[8,13,14]) (W:=[(0,20,.pointer (some ⟨bb0,0,none⟩)),(1,21,.pointer (some ⟨bb0,0,none⟩)),(2,22,.pointer (some ⟨bb0,0,none⟩)),(3,23,.agg #[iv p0.g.W,iv p0.g.H,.slice a2 p0.g.Bits.length a3]),(4,24,.pointer (some ⟨bb0,0,none⟩)),(5,25,.pointer (some ⟨bb0,0,none⟩)),(6,26,.pointer (some ⟨bb0,4,none⟩)),(7,27,.slice ad_0_1 p0.l.length cp_0_1)]) y S ?_
 refine node_by (A:=anc_reduce_search_from_s6_1) 17 (by kernel_rfl) (by kernel_rfl) (by kernel_rfl) (by kernel_rfl) (by kernel_rfl) [0,1,2,3,4,5,6,7] (by kernel_rfl) (by decide) (by decide) (fF ?_ (fF ?_ (fF ?_ (fF ?_ (fF ?_ (fF ?_ (fF ?_ (fF ?_ (fN ?_ (fE 8 (fE 8 (fE 8 (fE 8 (fN ?_ (aB 14 2 8 (by decide) (fE 8 (fE 8 (trivial)))))))))))))))))) [] (fun q hq=>by cases hq) (fun hY=>absurd (hY 8 (by decide)) (by decide))
 ·exact fM 0 none y y y y (.inl y) y y y
 ·refine fJ [(20,_)] 1 [some 0] fun G a w S=>?_
  exact nilCheck_ok (q:=⟨bb0,0,none⟩) S (wN y) y y y (lb y) fun a S=>leafL ⟨y,S⟩
 ·refine fJ [(21,_)] 2 [some 1] fun G a w S=>?_
  exact sField (b:=bb0) (off:=0) 0 0 S (wN y) y y y y y (lb y) fun a S=>leafL ⟨y,S⟩
 ·refine fJ [(22,_)] 3 [some 2] fun G a w S=>?_
  exact sLoadN (p:=bb0) (off:=0) (T:=68) (vs:=[iv p0.g.W,iv p0.g.H,.slice a2 p0.g.Bits.length a3,iv p0.k,.slice ad_0_1 p0.l.length cp_0_1,.slice ak p0.best.length al,iv p0.least]) 0 [iv p0.g.W,iv p0.g.H,.slice a2 p0.g.Bits.length a3] S (wN y) y y y y y y y (lb y) fun a S=>leafL ⟨y,S⟩
 ·exact fM 4 none y y y y (.inl y) y y y
 ·refine fJ [(24,_)] 5 [some 4] fun G a w S=>?_
  exact nilCheck_ok (q:=⟨bb0,0,none⟩) S (wN y) y y y (lb y) fun a S=>leafL ⟨y,S⟩
 ·refine fJ [(25,_)] 6 [some 5] fun G a w S=>?_
  exact sField (b:=bb0) (off:=0) 4 4 S (wN y) y y y y y (lb y) fun a S=>leafL ⟨y,S⟩
 ·refine fJ [(26,_)] 7 [some 6] fun G a w S=>?_
  exact sLoad1 0 (.slice ad_0_1 p0.l.length cp_0_1) S (wN y) y y y y y y (lb y) fun a S=>leafL ⟨y,S⟩
 ·refine ⟨_,[(23,.agg #[iv p0.g.W,iv p0.g.H,.slice a2 p0.g.Bits.length a3]),(27,.slice ad_0_1 p0.l.length cp_0_1)],y,(srcs_of [some 3,some 7] y y y),fun G a w S=>?_⟩
  have S:=S.learn (fRep r_api_Grid (.agg #[iv p0.g.W,iv p0.g.H,.slice a2 p0.g.Bits.length a3]) p0.g) ⟨_,y,S.mem.know (i:=0) (e:=fRep (rL rB) (.slice a2 p0.g.Bits.length a3) p0.g.Bits) y⟩
  refine sCall (X:=Option Addr × Nat) (f:=12) (vs:=[.agg #[iv p0.g.W,iv p0.g.H,.slice a2 p0.g.Bits.length a3],.slice ad_0_1 p0.l.length cp_0_1]) (val:=fun x=>.tuple #[.agg #[iv a0.1.W,iv a0.1.H,.slice x.1 a0.1.Bits.length x.2],iv a0.2.1,iv a0.2.2.1]) (B':=fun x=>[eRow rB 4 (.slice x.1 a0.1.Bits.length x.2) a0.1.Bits,eRow (rI .i64) 3 (.slice ad_0_1 p0.l.length cp_0_1) a0.2.2.2]) (D':=fun _=>[]) [eRow (rI .i64) 3 (.slice ad_0_1 p0.l.length cp_0_1) p0.l] [eBox bb0 68 [iv p0.g.W,iv p0.g.H,.slice a2 p0.g.Bits.length a3,iv p0.k,.slice ad_0_1 p0.l.length cp_0_1,.slice ak p0.best.length al,iv p0.least]] [fRep r_api_Grid (.agg #[iv p0.g.W,iv p0.g.H,.slice a2 p0.g.Bits.length a3]) p0.g] [1,0] [0] S (wN y) y callee12 y (by decide) y y (fun E1 w1 S1=>c_reduce_Change_s1 E1 w1 p0.g (.agg #[iv p0.g.W,iv p0.g.H,.slice a2 p0.g.Bits.length a3]) p0.l ad_0_1 cp_0_1 a0 aT S1) y (lb y) fun xx a w S=>?_
  obtain ⟨a7,a8⟩:=xx
  dsimp only at S
  refine leafL ⟨y,_,_,.inl ⟨28,(.tuple #[.agg #[iv a0.1.W,iv a0.1.H,.slice a7 a0.1.Bits.length a8],iv a0.2.1,iv a0.2.2.1]),[(9,19,.tuple #[.agg #[iv a0.1.W,iv a0.1.H,.slice a7 a0.1.Bits.length a8],iv a0.2.1,iv a0.2.2.1]),(10,29,.agg #[iv a0.1.W,iv a0.1.H,.slice a7 a0.1.Bits.length a8]),(11,30,iv a0.2.1),(12,31,iv a0.2.2.1)],y,S,hz_of y,?_⟩⟩
  refine node_by (A:=anc_reduce_search_from_s6_1) 17 (by kernel_rfl) (by kernel_rfl) (by kernel_rfl) (by kernel_rfl) (by kernel_rfl) [9,10,11,12,8,0,1,2,3,4,5,6,7] (by kernel_rfl) (by decide) (by decide) (fD 8 (fD 8 (fD 8 (fD 8 (fD 8 (fD 8 (fD 8 (fD 8 (fY (fF ?_ (fF ?_ (fF ?_ (fF ?_ (fN ?_ (aB 14 2 13 (by decide) (fE 13 (fE 13 (trivial)))))))))))))))))) [] (fun q hq=>by cases hq) (fun hY=>absurd (hY 13 (by decide)) (by decide))
  ·exact fM 0 (some 4) y y y y (.inl y) y y y
  ·refine fJ [(19,_)] 1 [some 0] fun G a w S=>?_
   exact sExtract (vs:=[.agg #[iv a0.1.W,iv a0.1.H,.slice a7 a0.1.Bits.length a8],iv a0.2.1,iv a0.2.2.1]) (.agg #[iv a0.1.W,iv a0.1.H,.slice a7 a0.1.Bits.length a8]) S (wN y) y y y y (lb y) fun a S=>leafL ⟨y,S⟩
  ·refine fJ [(19,_)] 2 [some 0] fun G a w S=>?_
   exact sExtract (vs:=[.agg #[iv a0.1.W,iv a0.1.H,.slice a7 a0.1.Bits.length a8],iv a0.2.1,iv a0.2.2.1]) (iv a0.2.1) S (wN y) y y y y (lb y) fun a S=>leafL ⟨y,S⟩
  ·refine fJ [(19,_)] 3 [some 0] fun G a w S=>?_
   exact sExtract (vs:=[.agg #[iv a0.1.W,iv a0.1.H,.slice a7 a0.1.Bits.length a8],iv a0.2.1,iv a0.2.2.1]) (iv a0.2.2.1) S (wN y) y y y y (lb y) fun a S=>leafL ⟨y,S⟩
  refine ⟨_,[],y,(srcs_of [] y y y),fun G a w S=>?_⟩
  refine sAlloc (.agg #[iv 0,iv 0,.slice none 0 0]) S (wN y) y y [iv 0,iv 0,.slice none 0 0] y y (lb y) fun a bm w S=>leafL ⟨y,_,_,.inl ⟨4,(.pointer (some ⟨bm,0,none⟩)),[],y,S,hz_of y,?_⟩⟩
  refine node_by (A:=anc_reduce_search_from_s6_1) 17 (by kernel_rfl) (by kernel_rfl) (by kernel_rfl) (by kernel_rfl) (by kernel_rfl) [13,9,10,11,12,8,0,1,2,3,4,5,6,7] (by kernel_rfl) (by decide) (by decide) (fD 8 (fD 8 (fD 8 (fD 8 (fD 8 (fD 8 (fD 8 (fD 8 (fY (fF ?_ (fF ?_ (fF ?_ (fF ?_ (fY (fN ?_ (fE 14 (fE 14 (trivial)))))))))))))))))) [] (fun q hq=>by cases hq) (fun hY=>absurd (hY 14 (by decide)) (by decide))
  ·exact fM 1 (some 5) y y y y (.inl y) y y y
  ·refine fJ [(19,_)] 2 [some 1] fun G a w S=>?_
   exact sExtract (vs:=[.agg #[iv a0.1.W,iv a0.1.H,.slice a7 a0.1.Bits.length a8],iv a0.2.1,iv a0.2.2.1]) (.agg #[iv a0.1.W,iv a0.1.H,.slice a7 a0.1.Bits.length a8]) S (wN y) y y y y (lb y) fun a S=>leafL ⟨y,S⟩
  ·refine fJ [(19,_)] 3 [some 1] fun G a w S=>?_
   exact sExtract (vs:=[.agg #[iv a0.1.W,iv a0.1.H,.slice a7 a0.1.Bits.length a8],iv a0.2.1,iv a0.2.2.1]) (iv a0.2.1) S (wN y) y y y y (lb y) fun a S=>leafL ⟨y,S⟩
  ·refine fJ [(19,_)] 4 [some 1] fun G a w S=>?_
   exact sExtract (vs:=[.agg #[iv a0.1.W,iv a0.1.H,.slice a7 a0.1.Bits.length a8],iv a0.2.1,iv a0.2.2.1]) (iv a0.2.2.1) S (wN y) y y y y (lb y) fun a S=>leafL ⟨y,S⟩
  refine ⟨_,[(4,.pointer (some ⟨bm,0,none⟩)),(29,.agg #[iv a0.1.W,iv a0.1.H,.slice a7 a0.1.Bits.length a8])],y,(srcs_of [some 0,some 2] y y y),fun G a w S=>?_⟩
  refine sStore (p:=bm) (off:=0) (T:=24) (vs:=[iv 0,iv 0,.slice none 0 0]) (v:=.agg #[iv a0.1.W,iv a0.1.H,.slice a7 a0.1.Bits.length a8]) 0 [iv a0.1.W,iv a0.1.H,.slice a7 a0.1.Bits.length a8] S (wN y) y y y y y y y (by simp) y fun a w S=>leafL ⟨y,_,_,.inr ⟨[(15,5,iv a0.2.1),(16,6,iv a0.2.2.1)],y,S,hz_of y,?_⟩⟩
  refine node_by (A:=anc_reduce_search_from_s6_1) 17 (by kernel_rfl) (by kernel_rfl) (by kernel_rfl) (by kernel_rfl) (by kernel_rfl) [15,16,13,9,10,11,12,8,0,1,2,3,4,5,6,7] (by kernel_rfl) (by decide) (by decide) (fD 14 (fD 14 (fD 14 (fD 14 (fD 14 (fD 14 (fD 14 (fD 14 (fY (fD 14 (fD 14 (fF ?_ (fF ?_ (fY (fY (fF ?_ (fF ?_ (trivial)))))))))))))))))) [(0,.pointer (some ⟨bb0,0,none⟩)),(5,iv a0.2.1)] (fin_of [none,some 0] y (by kernel_rfl) (by kernel_rfl)) (fun _ a w S=>?_)
  ·refine fJ [(19,_)] 5 [some 3] fun G a w S=>?_
   exact sExtract (vs:=[.agg #[iv a0.1.W,iv a0.1.H,.slice a7 a0.1.Bits.length a8],iv a0.2.1,iv a0.2.2.1]) (iv a0.2.1) S (wN y) y y y y (lb y) fun a S=>leafL ⟨y,S⟩
  ·refine fJ [(19,_)] 6 [some 3] fun G a w S=>?_
   exact sExtract (vs:=[.agg #[iv a0.1.W,iv a0.1.H,.slice a7 a0.1.Bits.length a8],iv a0.2.1,iv a0.2.2.1]) (iv a0.2.2.1) S (wN y) y y y y (lb y) fun a S=>leafL ⟨y,S⟩
  ·exact fM 0 (some 5) y y y y (.inr y) y y y
  ·exact fM 1 (some 6) y y y y (.inr y) y y y
  have bn:=row_v (S.mem.hold (i:=2) (e:=eRow (rI .i64) 3 (.slice ad_0_1 p0.l.length cp_0_1) a0.2.2.2) y)
  rw [bn] at S
  exact leafT (⟨a0.2.1,a0.2.2.2,Option.some.inj h,ad_0_1,cp_0_1,S.fix [3,2] [1,2] (by decide) y y y⟩)
 refine ⟨_,[],y,(srcs_of [] y y y),fun G a w S=>?_⟩
 refine sAlloc (.agg #[iv 0,iv 0,.slice none 0 0]) S (wN y) y y [iv 0,iv 0,.slice none 0 0] y y (lb y) fun a aV w S=>leafL ⟨y,_,_,.inl ⟨4,(.pointer (some ⟨aV,0,none⟩)),[],y,S,hz_of y,?_⟩⟩
 refine node_by (A:=anc_reduce_search_from_s6_1) 17 (by kernel_rfl) (by kernel_rfl) (by kernel_rfl) (by kernel_rfl) (by kernel_rfl) [13,0,1,2,3,4,5,6,7] (by kernel_rfl) (by decide) (by decide) (fF ?_ (fF ?_ (fF ?_ (fF ?_ (fF ?_ (fF ?_ (fF ?_ (fF ?_ (fN ?_ (fE 8 (fE 8 (fE 8 (fE 8 (fY (aB 14 2 8 (by decide) (fE 8 (fE 8 (trivial)))))))))))))))))) [] (fun q hq=>by cases hq) (fun hY=>absurd (hY 8 (by decide)) (by decide))
 ·exact fM 1 none y y y y (.inl y) y y y
 ·refine fJ [(20,_)] 2 [some 1] fun G a w S=>?_
  exact nilCheck_ok (q:=⟨bb0,0,none⟩) S (wN y) y y y (lb y) fun a S=>leafL ⟨y,S⟩
 ·refine fJ [(21,_)] 3 [some 2] fun G a w S=>?_
  exact sField (b:=bb0) (off:=0) 0 0 S (wN y) y y y y y (lb y) fun a S=>leafL ⟨y,S⟩
 ·refine fJ [(22,_)] 4 [some 3] fun G a w S=>?_
  exact sLoadN (p:=bb0) (off:=0) (T:=68) (vs:=[iv p0.g.W,iv p0.g.H,.slice a2 p0.g.Bits.length a3,iv p0.k,.slice ad_0_1 p0.l.length cp_0_1,.slice ak p0.best.length al,iv p0.least]) 1 [iv p0.g.W,iv p0.g.H,.slice a2 p0.g.Bits.length a3] S (wN y) y y y y y y y (lb y) fun a S=>leafL ⟨y,S⟩
 ·exact fM 5 none y y y y (.inl y) y y y
 ·refine fJ [(24,_)] 6 [some 5] fun G a w S=>?_
  exact nilCheck_ok (q:=⟨bb0,0,none⟩) S (wN y) y y y (lb y) fun a S=>leafL ⟨y,S⟩
 ·refine fJ [(25,_)] 7 [some 6] fun G a w S=>?_
  exact sField (b:=bb0) (off:=0) 4 4 S (wN y) y y y y y (lb y) fun a S=>leafL ⟨y,S⟩
 ·refine fJ [(26,_)] 8 [some 7] fun G a w S=>?_
  exact sLoad1 1 (.slice ad_0_1 p0.l.length cp_0_1) S (wN y) y y y y y y (lb y) fun a S=>leafL ⟨y,S⟩
 refine ⟨_,[(23,.agg #[iv p0.g.W,iv p0.g.H,.slice a2 p0.g.Bits.length a3]),(27,.slice ad_0_1 p0.l.length cp_0_1)],y,(srcs_of [some 4,some 8] y y y),fun G a w S=>?_⟩
 have S:=S.learn (fRep r_api_Grid (.agg #[iv p0.g.W,iv p0.g.H,.slice a2 p0.g.Bits.length a3]) p0.g) ⟨_,y,S.mem.know (i:=0) (e:=fRep (rL rB) (.slice a2 p0.g.Bits.length a3) p0.g.Bits) y⟩
 refine sCall (X:=Option Addr × Nat) (f:=12) (vs:=[.agg #[iv p0.g.W,iv p0.g.H,.slice a2 p0.g.Bits.length a3],.slice ad_0_1 p0.l.length cp_0_1]) (val:=fun x=>.tuple #[.agg #[iv a0.1.W,iv a0.1.H,.slice x.1 a0.1.Bits.length x.2],iv a0.2.1,iv a0.2.2.1]) (B':=fun x=>[eRow rB 4 (.slice x.1 a0.1.Bits.length x.2) a0.1.Bits,eRow (rI .i64) 3 (.slice ad_0_1 p0.l.length cp_0_1) a0.2.2.2]) (D':=fun _=>[]) [eRow (rI .i64) 3 (.slice ad_0_1 p0.l.length cp_0_1) p0.l] [eBox aV 24 [iv 0,iv 0,.slice none 0 0],eBox bb0 68 [iv p0.g.W,iv p0.g.H,.slice a2 p0.g.Bits.length a3,iv p0.k,.slice ad_0_1 p0.l.length cp_0_1,.slice ak p0.best.length al,iv p0.least]] [fRep r_api_Grid (.agg #[iv p0.g.W,iv p0.g.H,.slice a2 p0.g.Bits.length a3]) p0.g] [2,0,1] [0] S (wN y) y callee12 y (by decide) y y (fun E1 w1 S1=>c_reduce_Change_s1 E1 w1 p0.g (.agg #[iv p0.g.W,iv p0.g.H,.slice a2 p0.g.Bits.length a3]) p0.l ad_0_1 cp_0_1 a0 aT S1) y (lb y) fun xx a w S=>?_
 obtain ⟨ab,ac⟩:=xx
 dsimp only at S
 refine leafL ⟨y,_,_,.inl ⟨28,(.tuple #[.agg #[iv a0.1.W,iv a0.1.H,.slice ab a0.1.Bits.length ac],iv a0.2.1,iv a0.2.2.1]),[(9,19,.tuple #[.agg #[iv a0.1.W,iv a0.1.H,.slice ab a0.1.Bits.length ac],iv a0.2.1,iv a0.2.2.1]),(10,29,.agg #[iv a0.1.W,iv a0.1.H,.slice ab a0.1.Bits.length ac]),(11,30,iv a0.2.1),(12,31,iv a0.2.2.1)],y,S,hz_of y,?_⟩⟩
 refine node_by (A:=anc_reduce_search_from_s6_1) 17 (by kernel_rfl) (by kernel_rfl) (by kernel_rfl) (by kernel_rfl) (by kernel_rfl) [9,10,11,12,8,13,0,1,2,3,4,5,6,7] (by kernel_rfl) (by decide) (by decide) (fD 8 (fD 8 (fD 8 (fD 8 (fD 8 (fD 8 (fD 8 (fD 8 (fY (fF ?_ (fF ?_ (fF ?_ (fF ?_ (fY (fN ?_ (fE 14 (fE 14 (trivial)))))))))))))))))) [] (fun q hq=>by cases hq) (fun hY=>absurd (hY 14 (by decide)) (by decide))
 ·exact fM 0 (some 4) y y y y (.inl y) y y y
 ·refine fJ [(19,_)] 1 [some 0] fun G a w S=>?_
  exact sExtract (vs:=[.agg #[iv a0.1.W,iv a0.1.H,.slice ab a0.1.Bits.length ac],iv a0.2.1,iv a0.2.2.1]) (.agg #[iv a0.1.W,iv a0.1.H,.slice ab a0.1.Bits.length ac]) S (wN y) y y y y (lb y) fun a S=>leafL ⟨y,S⟩
 ·refine fJ [(19,_)] 2 [some 0] fun G a w S=>?_
  exact sExtract (vs:=[.agg #[iv a0.1.W,iv a0.1.H,.slice ab a0.1.Bits.length ac],iv a0.2.1,iv a0.2.2.1]) (iv a0.2.1) S (wN y) y y y y (lb y) fun a S=>leafL ⟨y,S⟩
 ·refine fJ [(19,_)] 3 [some 0] fun G a w S=>?_
  exact sExtract (vs:=[.agg #[iv a0.1.W,iv a0.1.H,.slice ab a0.1.Bits.length ac],iv a0.2.1,iv a0.2.2.1]) (iv a0.2.2.1) S (wN y) y y y y (lb y) fun a S=>leafL ⟨y,S⟩
 refine ⟨_,[(4,.pointer (some ⟨aV,0,none⟩)),(29,.agg #[iv a0.1.W,iv a0.1.H,.slice ab a0.1.Bits.length ac])],y,(srcs_of [some 5,some 1] y y y),fun G a w S=>?_⟩
 refine sStore (p:=aV) (off:=0) (T:=24) (vs:=[iv 0,iv 0,.slice none 0 0]) (v:=.agg #[iv a0.1.W,iv a0.1.H,.slice ab a0.1.Bits.length ac]) 2 [iv a0.1.W,iv a0.1.H,.slice ab a0.1.Bits.length ac] S (wN y) y y y y y y y (by simp) y fun a w S=>leafL ⟨y,_,_,.inr ⟨[(15,5,iv a0.2.1),(16,6,iv a0.2.2.1)],y,S,hz_of y,?_⟩⟩
 refine node_by (A:=anc_reduce_search_from_s6_1) 17 (by kernel_rfl) (by kernel_rfl) (by kernel_rfl) (by kernel_rfl) (by kernel_rfl) [15,16,9,10,11,12,8,13,0,1,2,3,4,5,6,7] (by kernel_rfl) (by decide) (by decide) (fD 14 (fD 14 (fD 14 (fD 14 (fD 14 (fD 14 (fD 14 (fD 14 (fY (fD 14 (fD 14 (fF ?_ (fF ?_ (fY (fY (fF ?_ (fF ?_ (trivial)))))))))))))))))) [(0,.pointer (some ⟨bb0,0,none⟩)),(5,iv a0.2.1)] (fin_of [none,some 0] y (by kernel_rfl) (by kernel_rfl)) (fun _ a w S=>?_)
 ·refine fJ [(19,_)] 4 [some 2] fun G a w S=>?_
  exact sExtract (vs:=[.agg #[iv a0.1.W,iv a0.1.H,.slice ab a0.1.Bits.length ac],iv a0.2.1,iv a0.2.2.1]) (iv a0.2.1) S (wN y) y y y y (lb y) fun a S=>leafL ⟨y,S⟩
 ·refine fJ [(19,_)] 5 [some 2] fun G a w S=>?_
  exact sExtract (vs:=[.agg #[iv a0.1.W,iv a0.1.H,.slice ab a0.1.Bits.length ac],iv a0.2.1,iv a0.2.2.1]) (iv a0.2.2.1) S (wN y) y y y y (lb y) fun a S=>leafL ⟨y,S⟩
 ·exact fM 0 (some 4) y y y y (.inr y) y y y
 ·exact fM 1 (some 5) y y y y (.inr y) y y y
 have bo:=row_v (S.mem.hold (i:=2) (e:=eRow (rI .i64) 3 (.slice ad_0_1 p0.l.length cp_0_1) a0.2.2.2) y)
 rw [bo] at S
 exact leafT (⟨a0.2.1,a0.2.2.2,Option.some.inj h,ad_0_1,cp_0_1,S.fix [3,2] [1,2] (by decide) y y y⟩)
end Go.Proofs.Ytapohhkdpkapoaa
