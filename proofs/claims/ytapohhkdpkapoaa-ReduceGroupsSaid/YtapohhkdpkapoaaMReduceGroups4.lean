/- ReduceGroups: walks, tables, laws. -/
import Derived.Test.YtapohhkdpkapoaaProg
import Derived.Test.YtapohhkdpkapoaaRows
import Derived.Test.YtapohhkdpkapoaaMReduceGroups3
set_option linter.unusedVariables false
set_option linter.unusedSimpArgs false
set_option maxHeartbeats 4000000
set_option maxRecDepth 100000
namespace Go.Proofs.Ytapohhkdpkapoaa
open Go.RowKit
def anc_raddlelaw17_alive_0:List (List Nat):=[[],[0],[0,1],[0,1],[0,1,2,3],[0,1,2,3,4],[0,1,2,3,4,5],[0,1,2,3,4,5,6],[0,1,2,3,4,5,6,7],[0,1,2,3,4,5,6,7,8],[0,1,2,3,4,5,6,7,8,9],[0,1,2,3,4,5,6,7,8,9,10],[0,1,2,3,4,5,6,7,8,9,10,11],[0,1,2,3,4,5,6,7,8,9,10,11,12],[0,1,2,3,4,5,6,7,8,9,10,11,12,13],[0,1,2,3,4,5,6,7,8,9,10,11,12,13,14],[0,1,2,3,4,5,6,7,8,9,10,11,12,13,14],[0,1,2,3,4,5,6,7,8,9,10,11,12,13,14,16],[0,1,2,3,4,5,6,7,8,9,10,11,12,13,14,15,16,17],[0,1,2,3,4,5,6,7,8,9,10,11,12,13,14,15,16,17,18],[0,1,2,3,4,5,6,7,8,9,10,11,12,13,14,15,16,17,18,19],[0,1,2,3,4,5,6,7,8,9,10,11,12,13,14,15,16,17,18,19,20],[0,1,2,3,4,5,6,7,8,9,10,11,12,13,14,15,16,17,18,19,20],[0,1,2,3,4,5,6,7,8,9,10,11,12,13,14,15,16,17,18,19,20,21,22],[0,1,2,3,4,5,6,7,8,9,10,11,12,13,14,15,16,17,18,19,20,21,22,23],[0,1,2,3,4,5,6,7,8,9,10,11,12,13,14,15,16,17,18,19,20,21,22,23,24],[0,1,2,3,4,5,6,7,8,9,10,11,12,13,14,15,16,17,18,19,20,21,22,23,24,25],[0,1,2,3,4,5,6,7,8,9,10,11,12,13,14,15,16,17,18,19,20,21,22,23,24,25,26],[0,1,2,3,4,5,6,7,8,9,10,11,12,13,14,15,16,17,18,19,20,21,22,23,24,25,26,27],[0,1,2,3,4,5,6,7,8,9,10,11,12,13,14,15,16,17,18,19,20,21,22,23,24,25,26,27,28],[0,1,2,3,4,5,6,7,8,9,10,11,12,13,14,15,16,17,18,19,20,21,22,23,24,25,26,27,28,29],[0,1,2,3,4,5,6,7,8,9,10,11,12,13,14,15,16,17,18,19,20,21,22,23,24,25,26,27,28,29,30],[0,1,2,3,4,5,6,7,8,9,10,11,12,13,14,15,16,17,18,19,20,21,22,23,24,25,26,27,28,29,30,31],[0,1,2,3,4,5,6,7,8,9,10,11,12,13,14,15,16,17,18,19,20,21,22,23,24,25,26,27,28,29,30,31,32],[0,1,2,3,4,5,6,7,8,9,10,11,12,13,14,15,16,17,18,19,20,21,22,23,24,25,26,27,28,29,30,31,32,33],[0,1,2,3,4,5,6,7,8,9,10,11,12,13,14,15,16,17,18,19,20,21,22,23,24,25,26,27,28,29,30,31,32,33],[0,1,2,3,4,5,6,7,8,9,10,11,12,13,14,15,16,17,18,19,20,21,22,23,24,25,26,27,28,29,30,31,32,33,34,35],[0,1,2,3,4,5,6,7,8,9,10,11,12,13,14,15,16,17,18,19,20,21,22,23,24,25,26,27,28,29,30,31,32,33,34,35,36],[0,1,2,3,4,5,6,7,8,9,10,11,12,13,14,15,16,17,18,19,20,21,22,23,24,25,26,27,28,29,30,31,32,33,34,35,36,37]]
noncomputable def F_raddlelaw17_alive :Option Bool:=
 (F_raddlelaw17_three).bind fun r3=>
 (F_reduce_Best r3 1).bind fun a0=>
 (F_reduce_Change r3 ([0,0,0]:List Int)).bind fun a2=>
 (F_reduce_Best r3 2).bind fun a3=>
 (F_raddlelaw17_two).bind fun a5=>
 (F_reduce_Change a5 ([0,0]:List Int)).bind fun a4=>
 Option.bind (α:=Bool) (
  if a0.2.2 == 0 then
   if a2.2.2 == 0 then
    if a3.2.2 == 0 then
     some (a4.2.2 == 0)
    else
     some false
   else
    some false
  else
   some false) fun a6=>
 Option.bind (α:=Bool) (
  if a6 then
   (F_raddleref02_Same a0.1 ([0,0,0]:List Int)).bind fun a7=>
   if a7 then
    if a0.2.1 == 1 then
     if a2.2.1 == 1 then
      (F_raddleref01_Same a2.1 (api_Grid.mk 3 2 [true,true,true,true,true,true])).bind fun a8=>
      if a8 then
       (F_raddleref02_Same a3.1 ([0,0,1]:List Int)).bind fun a9=>
       if a9 then
        if a3.2.1 == 0 then
         if a4.2.1 == 1 then
          (F_raddleref01_Zero 2 1).bind fun aa=>
          (F_raddleref01_Same a4.1 aa).bind fun ab=>
          some ab
         else
          some false
        else
         some false
       else
        some false
      else
       some false
     else
      some false
    else
     some false
   else
    some false
  else
   some false) fun ac=>
 some ac
theorem c_raddlelaw17_alive (E:Nat→Prop) (w0:World)  (r:Bool) (h:F_raddlelaw17_alive =some r) (S:St0 E [] w0 w0 [] []) :
 Calls Try.prog 18 #[] w0 (Ret (X:=Unit) E [] w0 (fun _=>.bool r) (fun _=>[]) (fun _=>[])):=by
 unfold F_raddlelaw17_alive at h
 refine sEnter (args:=[]) 92 Try.func18 y y (by simp) S (fun a S=>?_)
 refine sSeq (fun K1 cc=>sRegion (sN S fun a S=>?_))
 refine lT (cc _ _ (sSeq (fun K2 cd=>sRegion ?_)))
 obtain ⟨r3,bM,h⟩:=bS h
 refine sCall (X:=Value) (f:=34) (vs:=[]) (val:=c_raddlelaw17_three_val r3) (B':=fun _=>[]) (D':=c_raddlelaw17_three_D r3) [] [] [] [] [] S (wN y) y callee34 y (by decide) y y (fun E1 w1 S1=>c_raddlelaw17_three E1 w1  r3 bM S1) y (lb y) fun u5 a w S=>?_
 obtain ⟨u6,rfl,ca⟩:=S.mem.know (i:=0) (e:=fRep r_api_Grid (u5) r3) y
 have S:=S.learn (fRep (rL rB) u6 r3.Bits) ca
 obtain ⟨bN,bO,_,rfl,_⟩:=ca
 obtain ⟨a2,bP,h⟩:=bS h
 refine sCall (X:=Value) (f:=21) (vs:=[.agg #[iv r3.W,iv r3.H,.slice bN r3.Bits.length bO],iv 1]) (val:=c_reduce_Best_val a2) (B':=fun _=>[]) (D':=c_reduce_Best_D a2) [] [] [fRep r_api_Grid (.agg #[iv r3.W,iv r3.H,.slice bN r3.Bits.length bO]) r3] [] [1] S (wN y) y callee21 y (by decide) y y (fun E1 w1 S1=>c_reduce_Best E1 w1 r3 (.agg #[iv r3.W,iv r3.H,.slice bN r3.Bits.length bO]) 1 a2 bP S1) y (lb y) fun ce a w S=>?_
 obtain ⟨a5,a6,_,rfl,_⟩:=S.mem.know (i:=0) (e:=fRep (rL (rI .i64)) (ce) a2.1) y
 refine sM S fun a S=>?_
 refine sExtract (vs:=[.slice a5 a2.1.length a6,iv a2.2.1,iv a2.2.2]) (.slice a5 a2.1.length a6) S (wN y) y y y y (lb y) fun a S=>sExtract (vs:=[.slice a5 a2.1.length a6,iv a2.2.1,iv a2.2.2]) (iv a2.2.1) S (wN y) y y y y (lb y) fun a S=>sExtract (vs:=[.slice a5 a2.1.length a6,iv a2.2.1,iv a2.2.2]) (iv a2.2.2) S (wN y) y y y y (lb y) fun a S=>sN S fun a S=>?_
 refine sN S fun a S=>?_
 refine sN S fun a S=>?_
 refine lT (cd _ _ (sSeq (fun cx bQ=>sRegion (sCall (X:=Value) (f:=34) (vs:=[]) (val:=c_raddlelaw17_three_val r3) (B':=fun _=>[]) (D':=c_raddlelaw17_three_D r3) [] [] [] [] [] S (wN y) y callee34 y (by decide) y y (fun E1 w1 S1=>c_raddlelaw17_three E1 w1  r3 bM S1) y (lb y) fun cg a w S=>?_))))
 obtain ⟨ci,rfl,bG⟩:=S.mem.know (i:=0) (e:=fRep r_api_Grid (cg) r3) y
 have S:=S.learn (fRep (rL rB) ci r3.Bits) bG
 obtain ⟨bx,bz,_,rfl,_⟩:=bG
 refine sLit (r:=(rI .i64)) (T:=3) (xs:=([0,0,0]:List Int)) [(0,iv 0),(1,iv 0),(2,iv 0)] 3 [iv 0,iv 0,iv 0] [iv 0,iv 0,iv 0] (iv 0) 8 S (wN y) y y Try.underlying25 y (by decide) (by decide) (by kernel_rfl) y (fun E1 w1 hE=>All.cons y (All.cons y (All.cons y (All.nil _ _ _)))) y y (lb y) fun a w bp bq S=>?_
 obtain ⟨a0,bR,h⟩:=bS h
 have S:=S.shutR (r:=(rI .i64)) (T:=3) (v:=.slice bp ([0,0,0]:List Int).length bq) (xs:=([0,0,0]:List Int)) 0 y
 refine sCall (X:=Value) (f:=12) (vs:=[.agg #[iv r3.W,iv r3.H,.slice bx r3.Bits.length bz],.slice bp ([0,0,0]:List Int).length bq]) (val:=c_reduce_Change_val a0) (B':=fun _=>[]) (D':=c_reduce_Change_D a0) [] [] [fRep r_api_Grid (.agg #[iv r3.W,iv r3.H,.slice bx r3.Bits.length bz]) r3,fRep (rL (rI .i64)) (.slice bp ([0,0,0]:List Int).length bq) ([0,0,0]:List Int)] [] [2,0] S (wN y) y callee12 y (by decide) y y (fun E1 w1 S1=>c_reduce_Change E1 w1 r3 (.agg #[iv r3.W,iv r3.H,.slice bx r3.Bits.length bz]) ([0,0,0]:List Int) (.slice bp ([0,0,0]:List Int).length bq) a0 bR S1) y (lb y) fun cj a w S=>?_
 obtain ⟨ck,rfl,bH⟩:=S.mem.know (i:=0) (e:=fRep r_api_Grid (cj) a0.1) y
 have S:=S.learn (fRep (rL rB) ck a0.1.Bits) bH
 obtain ⟨a3,a4,_,rfl,_⟩:=bH
 refine sM S fun a S=>?_
 refine sExtract (vs:=[.agg #[iv a0.1.W,iv a0.1.H,.slice a3 a0.1.Bits.length a4],iv a0.2.1,iv a0.2.2]) (.agg #[iv a0.1.W,iv a0.1.H,.slice a3 a0.1.Bits.length a4]) S (wN y) y y y y (lb y) fun a S=>sExtract (vs:=[.agg #[iv a0.1.W,iv a0.1.H,.slice a3 a0.1.Bits.length a4],iv a0.2.1,iv a0.2.2]) (iv a0.2.1) S (wN y) y y y y (lb y) fun a S=>sExtract (vs:=[.agg #[iv a0.1.W,iv a0.1.H,.slice a3 a0.1.Bits.length a4],iv a0.2.1,iv a0.2.2]) (iv a0.2.2) S (wN y) y y y y (lb y) fun a S=>sAlloc (.agg #[iv 0,iv 0,.slice none 0 0]) S (wN y) y y [iv 0,iv 0,.slice none 0 0] y y (lb y) fun a aH w S=>sStore (p:=aH) (off:=0) (T:=24) (vs:=[iv 0,iv 0,.slice none 0 0]) (v:=.agg #[iv a0.1.W,iv a0.1.H,.slice a3 a0.1.Bits.length a4]) 0 [iv a0.1.W,iv a0.1.H,.slice a3 a0.1.Bits.length a4] S (wN y) y y y y y y y (by simp) y fun a w S=>sN S fun a S=>?_
 refine sN S fun a S=>?_
 refine lT (bQ _ _ (sSeq (fun cy bU=>sRegion (sCall (X:=Value) (f:=34) (vs:=[]) (val:=c_raddlelaw17_three_val r3) (B':=fun _=>[]) (D':=c_raddlelaw17_three_D r3) [] [eBox aH 24 [iv a0.1.W,iv a0.1.H,.slice a3 a0.1.Bits.length a4]] [] [0] [] S (wN y) y callee34 y (by decide) y y (fun E1 w1 S1=>c_raddlelaw17_three E1 w1  r3 bM S1) y (lb y) fun cl a w S=>?_))))
 obtain ⟨cm,rfl,bI⟩:=S.mem.know (i:=0) (e:=fRep r_api_Grid (cl) r3) y
 have S:=S.learn (fRep (rL rB) cm r3.Bits) bI
 obtain ⟨bA,bB,_,rfl,_⟩:=bI
 obtain ⟨aa,bV,h⟩:=bS h
 refine sCall (X:=Value) (f:=21) (vs:=[.agg #[iv r3.W,iv r3.H,.slice bA r3.Bits.length bB],iv 2]) (val:=c_reduce_Best_val aa) (B':=fun _=>[]) (D':=c_reduce_Best_D aa) [] [eBox aH 24 [iv a0.1.W,iv a0.1.H,.slice a3 a0.1.Bits.length a4]] [fRep r_api_Grid (.agg #[iv r3.W,iv r3.H,.slice bA r3.Bits.length bB]) r3] [0] [1] S (wN y) y callee21 y (by decide) y y (fun E1 w1 S1=>c_reduce_Best E1 w1 r3 (.agg #[iv r3.W,iv r3.H,.slice bA r3.Bits.length bB]) 2 aa bV S1) y (lb y) fun cn a w S=>?_
 obtain ⟨ab,ac,_,rfl,_⟩:=S.mem.know (i:=0) (e:=fRep (rL (rI .i64)) (cn) aa.1) y
 refine sM S fun a S=>?_
 refine sExtract (vs:=[.slice ab aa.1.length ac,iv aa.2.1,iv aa.2.2]) (.slice ab aa.1.length ac) S (wN y) y y y y (lb y) fun a S=>sExtract (vs:=[.slice ab aa.1.length ac,iv aa.2.1,iv aa.2.2]) (iv aa.2.1) S (wN y) y y y y (lb y) fun a S=>sExtract (vs:=[.slice ab aa.1.length ac,iv aa.2.1,iv aa.2.2]) (iv aa.2.2) S (wN y) y y y y (lb y) fun a S=>sN S fun a S=>?_
 refine sN S fun a S=>?_
 refine sN S fun a S=>?_
 refine lT (bU _ _ (sSeq (fun cz bW=>sRegion ?_)))
 obtain ⟨aL,bX,h⟩:=bS h
 refine sCall (X:=Value) (f:=33) (vs:=[]) (val:=c_raddlelaw17_two_val aL) (B':=fun _=>[]) (D':=c_raddlelaw17_two_D aL) [] [eBox aH 24 [iv a0.1.W,iv a0.1.H,.slice a3 a0.1.Bits.length a4]] [] [0] [] S (wN y) y callee33 y (by decide) y y (fun E1 w1 S1=>c_raddlelaw17_two E1 w1  aL bX S1) y (lb y) fun co a w S=>?_
 obtain ⟨cp,rfl,bJ⟩:=S.mem.know (i:=0) (e:=fRep r_api_Grid (co) aL) y
 have S:=S.learn (fRep (rL rB) cp aL.Bits) bJ
 obtain ⟨bC,bD,_,rfl,_⟩:=bJ
 refine sLit (r:=(rI .i64)) (T:=3) (xs:=([0,0]:List Int)) [(0,iv 0),(1,iv 0)] 2 [iv 0,iv 0] [iv 0,iv 0] (iv 0) 8 S (wN y) y y Try.underlying25 y (by decide) (by decide) (by kernel_rfl) y (fun E1 w1 hE=>All.cons y (All.cons y (All.nil _ _ _))) y y (lb y) fun a w br bt S=>?_
 obtain ⟨a8,bY,h⟩:=bS h
 have S:=S.shutR (r:=(rI .i64)) (T:=3) (v:=.slice br ([0,0]:List Int).length bt) (xs:=([0,0]:List Int)) 0 y
 refine sCall (X:=Value) (f:=12) (vs:=[.agg #[iv aL.W,iv aL.H,.slice bC aL.Bits.length bD],.slice br ([0,0]:List Int).length bt]) (val:=c_reduce_Change_val a8) (B':=fun _=>[]) (D':=c_reduce_Change_D a8) [] [eBox aH 24 [iv a0.1.W,iv a0.1.H,.slice a3 a0.1.Bits.length a4]] [fRep r_api_Grid (.agg #[iv aL.W,iv aL.H,.slice bC aL.Bits.length bD]) aL,fRep (rL (rI .i64)) (.slice br ([0,0]:List Int).length bt) ([0,0]:List Int)] [0] [2,0] S (wN y) y callee12 y (by decide) y y (fun E1 w1 S1=>c_reduce_Change E1 w1 aL (.agg #[iv aL.W,iv aL.H,.slice bC aL.Bits.length bD]) ([0,0]:List Int) (.slice br ([0,0]:List Int).length bt) a8 bY S1) y (lb y) fun cq a w S=>?_
 obtain ⟨cr,rfl,bK⟩:=S.mem.know (i:=0) (e:=fRep r_api_Grid (cq) a8.1) y
 have S:=S.learn (fRep (rL rB) cr a8.1.Bits) bK
 obtain ⟨ai,aj,_,rfl,_⟩:=bK
 refine sM S fun a S=>?_
 refine sExtract (vs:=[.agg #[iv a8.1.W,iv a8.1.H,.slice ai a8.1.Bits.length aj],iv a8.2.1,iv a8.2.2]) (.agg #[iv a8.1.W,iv a8.1.H,.slice ai a8.1.Bits.length aj]) S (wN y) y y y y (lb y) fun a S=>sExtract (vs:=[.agg #[iv a8.1.W,iv a8.1.H,.slice ai a8.1.Bits.length aj],iv a8.2.1,iv a8.2.2]) (iv a8.2.1) S (wN y) y y y y (lb y) fun a S=>sExtract (vs:=[.agg #[iv a8.1.W,iv a8.1.H,.slice ai a8.1.Bits.length aj],iv a8.2.1,iv a8.2.2]) (iv a8.2.2) S (wN y) y y y y (lb y) fun a S=>sAlloc (.agg #[iv 0,iv 0,.slice none 0 0]) S (wN y) y y [iv 0,iv 0,.slice none 0 0] y y (lb y) fun a bE w S=>sStore (p:=bE) (off:=0) (T:=24) (vs:=[iv 0,iv 0,.slice none 0 0]) (v:=.agg #[iv a8.1.W,iv a8.1.H,.slice ai a8.1.Bits.length aj]) 0 [iv a8.1.W,iv a8.1.H,.slice ai a8.1.Bits.length aj] S (wN y) y y y y y y y (by simp) y fun a w S=>sN S fun a S=>?_
 refine sN S fun a S=>?_
 refine lT (bW _ _ ?_)
 obtain ⟨ct,h,cu⟩:=bS h
 refine sCut (fun a w=>∃ ao,ao=ct∧St [] E [] w0 92 a w [(1,.slice a5 a2.1.length a6),(2,iv a2.2.1),(4,.pointer (some ⟨aH,0,none⟩)),(5,iv a0.2.1),(7,.slice ab aa.1.length ac),(8,iv aa.2.1),(10,.pointer (some ⟨bE,0,none⟩)),(11,iv a8.2.1),(13,.bool ao)] [eBox aH 24 [iv a0.1.W,iv a0.1.H,.slice a3 a0.1.Bits.length a4],eBox bE 24 [iv a8.1.W,iv a8.1.H,.slice ai a8.1.Bits.length aj]] [fRep (rL (rI .i64)) (.slice a5 a2.1.length a6) a2.1,fRep (rL (rI .i64)) (.slice ab aa.1.length ac) aa.1,fRep (rL rB) (.slice a3 a0.1.Bits.length a4) a0.1.Bits,fRep (rL rB) (.slice ai a8.1.Bits.length aj) a8.1.Bits]) ?_ (fun a w hI=>?_)
 ·refine sRegion (sM S fun a S=>?_)
  refine sBin _ S (wN y) y y y (bEq _ _ _ _ .i64 a2.2.2 0) y (lb y) fun a S=>sM S fun a S=>?_
  rcases iS h with ⟨bh,h⟩ | ⟨bh,h⟩
  rotate_left
  ·refine sSkN 2 2 true 42 S y y bh y fun a S=>sPickF (.bool false) S (wN y) y y bh y y (lb y) fun a S=>sM S fun a S=>?_
   refine sSkN 2 6 true 46 S y y y y fun a S=>sPickF (.bool false) S (wN y) y y y y y (lb y) fun a S=>sM S fun a S=>?_
   refine sSkN 2 10 true 50 S y y y y fun a S=>sPickF (.bool false) S (wN y) y y y y y (lb y) fun a S=>sN S fun a S=>?_
   exact lT (⟨false,Option.some.inj h,S.fix [1,0] [13,5,8,0] (by decide) y y y⟩)
  refine sMove (iv a0.2.2) S (wG 2 true 42 y y y bh) (.inl y) y y (lb y) fun a S=>sBin _ S (wG 2 true 42 y y y bh) y y y (bEq _ _ _ _ .i64 a0.2.2 0) y (lb y) fun a S=>sPickT (.bool (a0.2.2 == 0)) S (wN y) y y bh y y (lb y) fun a S=>sM S fun a S=>?_
  rcases iS h with ⟨bi,h⟩ | ⟨bi,h⟩
  rotate_left
  ·refine sSkN 2 6 true 46 S y y bi y fun a S=>sPickF (.bool false) S (wN y) y y bi y y (lb y) fun a S=>sM S fun a S=>?_
   refine sSkN 2 10 true 50 S y y y y fun a S=>sPickF (.bool false) S (wN y) y y y y y (lb y) fun a S=>sN S fun a S=>?_
   exact lT (⟨false,Option.some.inj h,S.fix [1,0] [13,5,8,0] (by decide) y y y⟩)
  refine sMove (iv aa.2.2) S (wG 6 true 46 y y y bi) (.inl y) y y (lb y) fun a S=>sBin _ S (wG 6 true 46 y y y bi) y y y (bEq _ _ _ _ .i64 aa.2.2 0) y (lb y) fun a S=>sPickT (.bool (aa.2.2 == 0)) S (wN y) y y bi y y (lb y) fun a S=>sM S fun a S=>?_
  rcases iS h with ⟨bj,h⟩ | ⟨bj,h⟩
  rotate_left
  ·refine sSkN 2 10 true 50 S y y bj y fun a S=>sPickF (.bool false) S (wN y) y y bj y y (lb y) fun a S=>sN S fun a S=>?_
   exact lT (⟨false,Option.some.inj h,S.fix [1,0] [13,5,8,0] (by decide) y y y⟩)
  refine sMove (iv a8.2.2) S (wG 10 true 50 y y y bj) (.inl y) y y (lb y) fun a S=>sBin _ S (wG 10 true 50 y y y bj) y y y (bEq _ _ _ _ .i64 a8.2.2 0) y (lb y) fun a S=>sPickT (.bool (a8.2.2 == 0)) S (wN y) y y bj y y (lb y) fun a S=>sN S fun a S=>?_
  exact lT (⟨a8.2.2 == 0,Option.some.inj h,S.fix [1,0] [13,5,8,0] (by decide) y y y⟩)
 obtain ⟨ao,rfl,S⟩:=hI
 have h:=cu
 try dsimp only at h
 obtain ⟨cv,h,cw⟩:=bS h
 refine sCut (fun a w=>∃ bL,bL=cv∧St [] E [] w0 92 a w [(0,.bool bL)] [] []) ?_ (fun a w hI=>?_)
 rotate_left
 ·obtain ⟨bL,rfl,S⟩:=hI
  have h:=cw
  try dsimp only at h
  obtain rfl:=tS h
  exact wp_ret (sRet (.bool bL) S (rsl1 y (rvT (t:=0) (v:=.bool bL) S y)) ⟨(),y,S.mem.sel [] [] (by decide) y y⟩)
 rcases iS h with ⟨a7,h⟩ | ⟨a7,h⟩
 rotate_left
 ·refine sDraw (nf:=[]) (W:=[(0,54,.bool ao),(1,55,.bool ao),(2,56,undef),(3,57,undef),(4,58,undef),(5,59,.bool false),(6,60,.bool false),(7,61,undef),(8,62,undef),(9,63,.bool false),(10,64,.bool false),(11,65,undef),(12,66,undef),(13,67,.bool false),(14,68,.bool false),(15,69,undef),(16,70,undef),(17,71,undef),(18,72,undef),(19,73,.bool false),(20,74,.bool false),(21,75,undef),(22,76,undef),(23,77,undef),(24,78,.bool false),(25,79,.bool false),(26,80,undef),(27,81,undef),(28,82,.bool false),(29,83,.bool false),(30,84,undef),(31,85,undef),(32,86,.bool false),(33,87,.bool false),(34,88,undef),(35,89,undef),(36,90,undef),(37,91,.bool false),(38,0,.bool false)]) y S ?_
  refine node_by (A:=anc_raddlelaw17_alive_0) 39 (by kernel_rfl) (by kernel_rfl) (by kernel_rfl) (by kernel_rfl) (by kernel_rfl) [0,1,2,3,4,5,6,7,8,9,10,11,12,13,14,15,16,17,18,19,20,21,22,23,24,25,26,27,28,29,30,31,32,33,34,35,36,37,38] (by kernel_rfl) (by decide) (by decide) (fF ?_ (fF ?_ (fF ?_ (fF ?_ (fF ?_ (fF ?_ (fF ?_ (fF ?_ (fF ?_ (fF ?_ (fF ?_ (fF ?_ (fF ?_ (fF ?_ (fF ?_ (fF ?_ (fF ?_ (fF ?_ (fF ?_ (fF ?_ (fF ?_ (fF ?_ (fF ?_ (fF ?_ (fF ?_ (fF ?_ (fF ?_ (fF ?_ (fF ?_ (fF ?_ (fF ?_ (fF ?_ (fF ?_ (fF ?_ (fF ?_ (fF ?_ (fF ?_ (fF ?_ (fF ?_ (trivial)))))))))))))))))))))))))))))))))))))))) [(0,.bool false)] (fin_of [some 38] y (by kernel_rfl) (by kernel_rfl)) (fun _ a w S=>?_)
  ·exact fM 0 none y y y y (.inl y) y y y
  ·exact fM 1 (some 0) y y y y (.inl y) y y y
  ·refine fJ [(1,_),(55,_)] 2 [none,some 1] fun G a w S=>?_
   exact sSk S y y y a7 y y fun a S=>leafL ⟨y,S⟩
  ·refine fJ [(55,_)] 3 [some 1] fun G a w S=>?_
   exact sSk S y y y a7 y y fun a S=>leafL ⟨y,S⟩
  ·refine fJ [(56,_),(57,_),(55,_)] 4 [some 2,some 3,some 1] fun G a w S=>?_
   exact sSk S y y y a7 y y fun a S=>leafL ⟨y,S⟩
  ·refine fJ [(55,_),(58,_)] 5 [some 1,some 4] fun G a w S=>?_
   exact sPickF (.bool false) S (wN y) y y a7 y y (lb y) fun a S=>leafL ⟨y,S⟩
  ·exact fM 6 (some 5) y y y y (.inl y) y y y
  ·refine fJ [(2,_),(60,_)] 7 [none,some 6] fun G a w S=>?_
   exact sSk S y y y y y y fun a S=>leafL ⟨y,S⟩
  ·refine fJ [(61,_),(60,_)] 8 [some 7,some 6] fun G a w S=>?_
   exact sSk S y y y y y y fun a S=>leafL ⟨y,S⟩
  ·refine fJ [(60,_),(62,_)] 9 [some 6,some 8] fun G a w S=>?_
   exact sPickF (.bool false) S (wN y) y y y y y (lb y) fun a S=>leafL ⟨y,S⟩
  ·exact fM 10 (some 9) y y y y (.inl y) y y y
  ·refine fJ [(5,_),(64,_)] 11 [none,some 10] fun G a w S=>?_
   exact sSk S y y y y y y fun a S=>leafL ⟨y,S⟩
  ·refine fJ [(65,_),(64,_)] 12 [some 11,some 10] fun G a w S=>?_
   exact sSk S y y y y y y fun a S=>leafL ⟨y,S⟩
  ·refine fJ [(64,_),(66,_)] 13 [some 10,some 12] fun G a w S=>?_
   exact sPickF (.bool false) S (wN y) y y y y y (lb y) fun a S=>leafL ⟨y,S⟩
  ·exact fM 14 (some 13) y y y y (.inl y) y y y
  ·refine fJ [(4,_),(68,_)] 15 [none,some 14] fun G a w S=>?_
   exact sSk S y y y y y y fun a S=>leafL ⟨y,S⟩
  ·refine fJ [(68,_)] 16 [some 14] fun G a w S=>?_
   exact sSk S y y y y y y fun a S=>leafL ⟨y,S⟩
  ·refine fJ [(70,_),(68,_)] 17 [some 16,some 14] fun G a w S=>?_
   exact sSk S y y y y y y fun a S=>leafL ⟨y,S⟩
  ·refine fJ [(69,_),(71,_),(68,_)] 18 [some 15,some 17,some 14] fun G a w S=>?_
   exact sSk S y y y y y y fun a S=>leafL ⟨y,S⟩
  ·refine fJ [(68,_),(72,_)] 19 [some 14,some 18] fun G a w S=>?_
   exact sPickF (.bool false) S (wN y) y y y y y (lb y) fun a S=>leafL ⟨y,S⟩
  ·exact fM 20 (some 19) y y y y (.inl y) y y y
  ·refine fJ [(7,_),(74,_)] 21 [none,some 20] fun G a w S=>?_
   exact sSk S y y y y y y fun a S=>leafL ⟨y,S⟩
  ·refine fJ [(74,_)] 22 [some 20] fun G a w S=>?_
   exact sSk S y y y y y y fun a S=>leafL ⟨y,S⟩
  ·refine fJ [(75,_),(76,_),(74,_)] 23 [some 21,some 22,some 20] fun G a w S=>?_
   exact sSk S y y y y y y fun a S=>leafL ⟨y,S⟩
  ·refine fJ [(74,_),(77,_)] 24 [some 20,some 23] fun G a w S=>?_
   exact sPickF (.bool false) S (wN y) y y y y y (lb y) fun a S=>leafL ⟨y,S⟩
  ·exact fM 25 (some 24) y y y y (.inl y) y y y
  ·refine fJ [(8,_),(79,_)] 26 [none,some 25] fun G a w S=>?_
   exact sSk S y y y y y y fun a S=>leafL ⟨y,S⟩
  ·refine fJ [(80,_),(79,_)] 27 [some 26,some 25] fun G a w S=>?_
   exact sSk S y y y y y y fun a S=>leafL ⟨y,S⟩
  ·refine fJ [(79,_),(81,_)] 28 [some 25,some 27] fun G a w S=>?_
   exact sPickF (.bool false) S (wN y) y y y y y (lb y) fun a S=>leafL ⟨y,S⟩
  ·exact fM 29 (some 28) y y y y (.inl y) y y y
  ·refine fJ [(11,_),(83,_)] 30 [none,some 29] fun G a w S=>?_
   exact sSk S y y y y y y fun a S=>leafL ⟨y,S⟩
  ·refine fJ [(84,_),(83,_)] 31 [some 30,some 29] fun G a w S=>?_
   exact sSk S y y y y y y fun a S=>leafL ⟨y,S⟩
  ·refine fJ [(83,_),(85,_)] 32 [some 29,some 31] fun G a w S=>?_
   exact sPickF (.bool false) S (wN y) y y y y y (lb y) fun a S=>leafL ⟨y,S⟩
  ·exact fM 33 (some 32) y y y y (.inl y) y y y
  ·refine fJ [(10,_),(87,_)] 34 [none,some 33] fun G a w S=>?_
   exact sSk S y y y y y y fun a S=>leafL ⟨y,S⟩
  ·refine fJ [(87,_)] 35 [some 33] fun G a w S=>?_
   exact sSk S y y y y y y fun a S=>leafL ⟨y,S⟩
  ·refine fJ [(88,_),(89,_),(87,_)] 36 [some 34,some 35,some 33] fun G a w S=>?_
   exact sSk S y y y y y y fun a S=>leafL ⟨y,S⟩
  ·refine fJ [(87,_),(90,_)] 37 [some 33,some 36] fun G a w S=>?_
   exact sPickF (.bool false) S (wN y) y y y y y (lb y) fun a S=>leafL ⟨y,S⟩
  ·exact fM 38 (some 37) y y y y (.inr y) y y y
  exact leafT (⟨false,Option.some.inj h,S.fix [] [] (by decide) y y y⟩)
 obtain ⟨ag,aI,h⟩:=bS h
 rcases iS h with ⟨ae,h⟩ | ⟨ae,h⟩
 rotate_left
 ·refine sDraw (nf:=[3]) (W:=[(0,54,.bool ao),(1,55,.bool ao),(2,56,.slice a5 a2.1.length a6)]) y S ?_
  refine node_by (A:=anc_raddlelaw17_alive_0) 39 (by kernel_rfl) (by kernel_rfl) (by kernel_rfl) (by kernel_rfl) (by kernel_rfl) [0,1,2] (by kernel_rfl) (by decide) (by decide) (fF ?_ (fF ?_ (fF ?_ (fN ?_ (fE 3 (fE 3 (fE 3 (fE 3 (fE 3 (fE 3 (fE 3 (fE 3 (fE 3 (fE 3 (fE 3 (fE 3 (fE 3 (fE 3 (fE 3 (fE 3 (fE 3 (fE 3 (fE 3 (fE 3 (fE 3 (fE 3 (fE 3 (fE 3 (fE 3 (fE 3 (fE 3 (fE 3 (fE 3 (fE 3 (fE 3 (fE 3 (fE 3 (fE 3 (fE 3 (trivial)))))))))))))))))))))))))))))))))))))))) [] (fun q hq=>by cases hq) (fun hY=>absurd (hY 3 (by decide)) (by decide))
  ·exact fM 0 none y y y y (.inl y) y y y
  ·exact fM 1 (some 0) y y y y (.inl y) y y y
  ·refine fJ [(1,_),(55,_)] 2 [none,some 1] fun G a w S=>?_
   exact sMove (.slice a5 a2.1.length a6) S (wG 1 true 55 y y y a7) (.inl y) y y (lb y) fun a S=>leafL ⟨y,S⟩
  refine ⟨_,[(55,.bool ao)],y,(srcs_of [some 1] y y y),fun G a w S=>?_⟩
  refine sLit (r:=(rI .i64)) (T:=3) (xs:=([0,0,0]:List Int)) [(0,iv 0),(1,iv 0),(2,iv 0)] 3 [iv 0,iv 0,iv 0] [iv 0,iv 0,iv 0] (iv 0) 8 S (wG 1 true 55 y y y a7) y y Try.underlying25 y (by decide) (by decide) (by kernel_rfl) y (fun E1 w1 hE=>All.cons y (All.cons y (All.cons y (All.nil _ _ _)))) y y (lb y) fun a w aO aP S=>?_
  refine leafL ⟨y,_,_,.inl ⟨57,(.slice aO ([0,0,0]:List Int).length aP),[(4,58,.bool ag),(5,59,.bool ag),(6,60,.bool ag),(7,61,undef),(8,62,undef),(9,63,.bool false),(10,64,.bool false),(11,65,undef),(12,66,undef),(13,67,.bool false),(14,68,.bool false),(15,69,undef),(16,70,undef),(17,71,undef),(18,72,undef),(19,73,.bool false),(20,74,.bool false),(21,75,undef),(22,76,undef),(23,77,undef),(24,78,.bool false),(25,79,.bool false),(26,80,undef),(27,81,undef),(28,82,.bool false),(29,83,.bool false),(30,84,undef),(31,85,undef),(32,86,.bool false),(33,87,.bool false),(34,88,undef),(35,89,undef),(36,90,undef),(37,91,.bool false),(38,0,.bool false)],y,S,hz_of y,?_⟩⟩
  refine node_by (A:=anc_raddlelaw17_alive_0) 39 (by kernel_rfl) (by kernel_rfl) (by kernel_rfl) (by kernel_rfl) (by kernel_rfl) [4,5,6,7,8,9,10,11,12,13,14,15,16,17,18,19,20,21,22,23,24,25,26,27,28,29,30,31,32,33,34,35,36,37,38,3,0,1,2] (by kernel_rfl) (by decide) (by decide) (fD 3 (fD 3 (fF ?_ (fY (fF ?_ (fF ?_ (fF ?_ (fF ?_ (fF ?_ (fF ?_ (fF ?_ (fF ?_ (fF ?_ (fF ?_ (fF ?_ (fF ?_ (fF ?_ (fF ?_ (fF ?_ (fF ?_ (fF ?_ (fF ?_ (fF ?_ (fF ?_ (fF ?_ (fF ?_ (fF ?_ (fF ?_ (fF ?_ (fF ?_ (fF ?_ (fF ?_ (fF ?_ (fF ?_ (fF ?_ (fF ?_ (fF ?_ (fF ?_ (fF ?_ (trivial)))))))))))))))))))))))))))))))))))))))) [(0,.bool false)] (fin_of [some 34] y (by kernel_rfl) (by kernel_rfl)) (fun _ a w S=>?_)
  ·refine fJ [(1,_),(55,_)] 38 [none,some 37] fun G a w S=>?_
   exact sMove (.slice a5 a2.1.length a6) S (wG 1 true 55 y y y a7) (.inl y) y y (lb y) fun a S=>leafL ⟨y,S⟩
  ·refine fJ [(56,_),(57,_),(55,_)] 0 [some 38,some 35,some 37] fun G a w S=>?_
   have S1:=S.mem
   have S1:=S1.shutR (r:=(rI .i64)) (T:=3) (v:=.slice aO ([0,0,0]:List Int).length aP) (xs:=([0,0,0]:List Int)) 0 y
   refine sCallQ (X:=Unit) (f:=17) (vs:=[.slice a5 a2.1.length a6,.slice aO ([0,0,0]:List Int).length aP]) (val:=fun _=>.bool ag) S (wG 1 true 55 y y y a7) y callee17 y (S1.quiet [1,0] y) (fun E1 w1 S1=>c_raddleref02_Same E1 w1 a2.1 (.slice a5 a2.1.length a6) ([0,0,0]:List Int) (.slice aO ([0,0,0]:List Int).length aP) ag aI S1) y (lb y) fun _ a w S=>?_
   exact leafL ⟨y,S⟩
  ·refine fJ [(55,_),(58,_)] 1 [some 37,some 0] fun G a w S=>?_
   exact sPickT (.bool ag) S (wN y) y y a7 y y (lb y) fun a S=>leafL ⟨y,S⟩
  ·exact fM 2 (some 1) y y y y (.inl y) y y y
  ·refine fJ [(2,_),(60,_)] 3 [none,some 2] fun G a w S=>?_
   exact sSk S y y y ae y y fun a S=>leafL ⟨y,S⟩
  ·refine fJ [(61,_),(60,_)] 4 [some 3,some 2] fun G a w S=>?_
   exact sSk S y y y ae y y fun a S=>leafL ⟨y,S⟩
  ·refine fJ [(60,_),(62,_)] 5 [some 2,some 4] fun G a w S=>?_
   exact sPickF (.bool false) S (wN y) y y ae y y (lb y) fun a S=>leafL ⟨y,S⟩
  ·exact fM 6 (some 5) y y y y (.inl y) y y y
  ·refine fJ [(5,_),(64,_)] 7 [none,some 6] fun G a w S=>?_
   exact sSk S y y y y y y fun a S=>leafL ⟨y,S⟩
  ·refine fJ [(65,_),(64,_)] 8 [some 7,some 6] fun G a w S=>?_
   exact sSk S y y y y y y fun a S=>leafL ⟨y,S⟩
  ·refine fJ [(64,_),(66,_)] 9 [some 6,some 8] fun G a w S=>?_
   exact sPickF (.bool false) S (wN y) y y y y y (lb y) fun a S=>leafL ⟨y,S⟩
  ·exact fM 10 (some 9) y y y y (.inl y) y y y
  ·refine fJ [(4,_),(68,_)] 11 [none,some 10] fun G a w S=>?_
   exact sSk S y y y y y y fun a S=>leafL ⟨y,S⟩
  ·refine fJ [(68,_)] 12 [some 10] fun G a w S=>?_
   exact sSk S y y y y y y fun a S=>leafL ⟨y,S⟩
  ·refine fJ [(70,_),(68,_)] 13 [some 12,some 10] fun G a w S=>?_
   exact sSk S y y y y y y fun a S=>leafL ⟨y,S⟩
  ·refine fJ [(69,_),(71,_),(68,_)] 14 [some 11,some 13,some 10] fun G a w S=>?_
   exact sSk S y y y y y y fun a S=>leafL ⟨y,S⟩
  ·refine fJ [(68,_),(72,_)] 15 [some 10,some 14] fun G a w S=>?_
   exact sPickF (.bool false) S (wN y) y y y y y (lb y) fun a S=>leafL ⟨y,S⟩
  ·exact fM 16 (some 15) y y y y (.inl y) y y y
  ·refine fJ [(7,_),(74,_)] 17 [none,some 16] fun G a w S=>?_
   exact sSk S y y y y y y fun a S=>leafL ⟨y,S⟩
  ·refine fJ [(74,_)] 18 [some 16] fun G a w S=>?_
   exact sSk S y y y y y y fun a S=>leafL ⟨y,S⟩
  ·refine fJ [(75,_),(76,_),(74,_)] 19 [some 17,some 18,some 16] fun G a w S=>?_
   exact sSk S y y y y y y fun a S=>leafL ⟨y,S⟩
  ·refine fJ [(74,_),(77,_)] 20 [some 16,some 19] fun G a w S=>?_
   exact sPickF (.bool false) S (wN y) y y y y y (lb y) fun a S=>leafL ⟨y,S⟩
  ·exact fM 21 (some 20) y y y y (.inl y) y y y
  ·refine fJ [(8,_),(79,_)] 22 [none,some 21] fun G a w S=>?_
   exact sSk S y y y y y y fun a S=>leafL ⟨y,S⟩
  ·refine fJ [(80,_),(79,_)] 23 [some 22,some 21] fun G a w S=>?_
   exact sSk S y y y y y y fun a S=>leafL ⟨y,S⟩
  ·refine fJ [(79,_),(81,_)] 24 [some 21,some 23] fun G a w S=>?_
   exact sPickF (.bool false) S (wN y) y y y y y (lb y) fun a S=>leafL ⟨y,S⟩
  ·exact fM 25 (some 24) y y y y (.inl y) y y y
  ·refine fJ [(11,_),(83,_)] 26 [none,some 25] fun G a w S=>?_
   exact sSk S y y y y y y fun a S=>leafL ⟨y,S⟩
  ·refine fJ [(84,_),(83,_)] 27 [some 26,some 25] fun G a w S=>?_
   exact sSk S y y y y y y fun a S=>leafL ⟨y,S⟩
  ·refine fJ [(83,_),(85,_)] 28 [some 25,some 27] fun G a w S=>?_
   exact sPickF (.bool false) S (wN y) y y y y y (lb y) fun a S=>leafL ⟨y,S⟩
  ·exact fM 29 (some 28) y y y y (.inl y) y y y
  ·refine fJ [(10,_),(87,_)] 30 [none,some 29] fun G a w S=>?_
   exact sSk S y y y y y y fun a S=>leafL ⟨y,S⟩
  ·refine fJ [(87,_)] 31 [some 29] fun G a w S=>?_
   exact sSk S y y y y y y fun a S=>leafL ⟨y,S⟩
  ·refine fJ [(88,_),(89,_),(87,_)] 32 [some 30,some 31,some 29] fun G a w S=>?_
   exact sSk S y y y y y y fun a S=>leafL ⟨y,S⟩
  ·refine fJ [(87,_),(90,_)] 33 [some 29,some 32] fun G a w S=>?_
   exact sPickF (.bool false) S (wN y) y y y y y (lb y) fun a S=>leafL ⟨y,S⟩
  ·exact fM 34 (some 33) y y y y (.inr y) y y y
  exact leafT (⟨false,Option.some.inj h,S.fix [] [] (by decide) y y y⟩)
 rcases iS h with ⟨ah,h⟩ | ⟨ah,h⟩
 rotate_left
 ·refine sDraw (nf:=[3]) (W:=[(0,54,.bool ao),(1,55,.bool ao),(2,56,.slice a5 a2.1.length a6)]) y S ?_
  refine node_by (A:=anc_raddlelaw17_alive_0) 39 (by kernel_rfl) (by kernel_rfl) (by kernel_rfl) (by kernel_rfl) (by kernel_rfl) [0,1,2] (by kernel_rfl) (by decide) (by decide) (fF ?_ (fF ?_ (fF ?_ (fN ?_ (fE 3 (fE 3 (fE 3 (fE 3 (fE 3 (fE 3 (fE 3 (fE 3 (fE 3 (fE 3 (fE 3 (fE 3 (fE 3 (fE 3 (fE 3 (fE 3 (fE 3 (fE 3 (fE 3 (fE 3 (fE 3 (fE 3 (fE 3 (fE 3 (fE 3 (fE 3 (fE 3 (fE 3 (fE 3 (fE 3 (fE 3 (fE 3 (fE 3 (fE 3 (fE 3 (trivial)))))))))))))))))))))))))))))))))))))))) [] (fun q hq=>by cases hq) (fun hY=>absurd (hY 3 (by decide)) (by decide))
  ·exact fM 0 none y y y y (.inl y) y y y
  ·exact fM 1 (some 0) y y y y (.inl y) y y y
  ·refine fJ [(1,_),(55,_)] 2 [none,some 1] fun G a w S=>?_
   exact sMove (.slice a5 a2.1.length a6) S (wG 1 true 55 y y y a7) (.inl y) y y (lb y) fun a S=>leafL ⟨y,S⟩
  refine ⟨_,[(55,.bool ao)],y,(srcs_of [some 1] y y y),fun G a w S=>?_⟩
  refine sLit (r:=(rI .i64)) (T:=3) (xs:=([0,0,0]:List Int)) [(0,iv 0),(1,iv 0),(2,iv 0)] 3 [iv 0,iv 0,iv 0] [iv 0,iv 0,iv 0] (iv 0) 8 S (wG 1 true 55 y y y a7) y y Try.underlying25 y (by decide) (by decide) (by kernel_rfl) y (fun E1 w1 hE=>All.cons y (All.cons y (All.cons y (All.nil _ _ _)))) y y (lb y) fun a w aQ aR S=>?_
  refine leafL ⟨y,_,_,.inl ⟨57,(.slice aQ ([0,0,0]:List Int).length aR),[(4,58,.bool ag),(5,59,.bool ag),(6,60,.bool ag),(7,61,iv a2.2.1),(8,62,.bool (a2.2.1 == 1)),(9,63,.bool (a2.2.1 == 1)),(10,64,.bool (a2.2.1 == 1)),(11,65,undef),(12,66,undef),(13,67,.bool false),(14,68,.bool false),(15,69,undef),(16,70,undef),(17,71,undef),(18,72,undef),(19,73,.bool false),(20,74,.bool false),(21,75,undef),(22,76,undef),(23,77,undef),(24,78,.bool false),(25,79,.bool false),(26,80,undef),(27,81,undef),(28,82,.bool false),(29,83,.bool false),(30,84,undef),(31,85,undef),(32,86,.bool false),(33,87,.bool false),(34,88,undef),(35,89,undef),(36,90,undef),(37,91,.bool false),(38,0,.bool false)],y,S,hz_of y,?_⟩⟩
  refine node_by (A:=anc_raddlelaw17_alive_0) 39 (by kernel_rfl) (by kernel_rfl) (by kernel_rfl) (by kernel_rfl) (by kernel_rfl) [4,5,6,7,8,9,10,11,12,13,14,15,16,17,18,19,20,21,22,23,24,25,26,27,28,29,30,31,32,33,34,35,36,37,38,3,0,1,2] (by kernel_rfl) (by decide) (by decide) (fD 3 (fD 3 (fF ?_ (fY (fF ?_ (fF ?_ (fF ?_ (fF ?_ (fF ?_ (fF ?_ (fF ?_ (fF ?_ (fF ?_ (fF ?_ (fF ?_ (fF ?_ (fF ?_ (fF ?_ (fF ?_ (fF ?_ (fF ?_ (fF ?_ (fF ?_ (fF ?_ (fF ?_ (fF ?_ (fF ?_ (fF ?_ (fF ?_ (fF ?_ (fF ?_ (fF ?_ (fF ?_ (fF ?_ (fF ?_ (fF ?_ (fF ?_ (fF ?_ (fF ?_ (trivial)))))))))))))))))))))))))))))))))))))))) [(0,.bool false)] (fin_of [some 34] y (by kernel_rfl) (by kernel_rfl)) (fun _ a w S=>?_)
  ·refine fJ [(1,_),(55,_)] 38 [none,some 37] fun G a w S=>?_
   exact sMove (.slice a5 a2.1.length a6) S (wG 1 true 55 y y y a7) (.inl y) y y (lb y) fun a S=>leafL ⟨y,S⟩
  ·refine fJ [(56,_),(57,_),(55,_)] 0 [some 38,some 35,some 37] fun G a w S=>?_
   have S1:=S.mem
   have S1:=S1.shutR (r:=(rI .i64)) (T:=3) (v:=.slice aQ ([0,0,0]:List Int).length aR) (xs:=([0,0,0]:List Int)) 0 y
   refine sCallQ (X:=Unit) (f:=17) (vs:=[.slice a5 a2.1.length a6,.slice aQ ([0,0,0]:List Int).length aR]) (val:=fun _=>.bool ag) S (wG 1 true 55 y y y a7) y callee17 y (S1.quiet [1,0] y) (fun E1 w1 S1=>c_raddleref02_Same E1 w1 a2.1 (.slice a5 a2.1.length a6) ([0,0,0]:List Int) (.slice aQ ([0,0,0]:List Int).length aR) ag aI S1) y (lb y) fun _ a w S=>?_
   exact leafL ⟨y,S⟩
  ·refine fJ [(55,_),(58,_)] 1 [some 37,some 0] fun G a w S=>?_
   exact sPickT (.bool ag) S (wN y) y y a7 y y (lb y) fun a S=>leafL ⟨y,S⟩
  ·exact fM 2 (some 1) y y y y (.inl y) y y y
  ·refine fJ [(2,_),(60,_)] 3 [none,some 2] fun G a w S=>?_
   exact sMove (iv a2.2.1) S (wG 6 true 60 y y y ae) (.inl y) y y (lb y) fun a S=>leafL ⟨y,S⟩
  ·refine fJ [(61,_),(60,_)] 4 [some 3,some 2] fun G a w S=>?_
   exact sBin _ S (wG 6 true 60 y y y ae) y y y (bEq _ _ _ _ .i64 a2.2.1 1) y (lb y) fun a S=>leafL ⟨y,S⟩
  ·refine fJ [(60,_),(62,_)] 5 [some 2,some 4] fun G a w S=>?_
   exact sPickT (.bool (a2.2.1 == 1)) S (wN y) y y ae y y (lb y) fun a S=>leafL ⟨y,S⟩
  ·exact fM 6 (some 5) y y y y (.inl y) y y y
  ·refine fJ [(5,_),(64,_)] 7 [none,some 6] fun G a w S=>?_
   exact sSk S y y y ah y y fun a S=>leafL ⟨y,S⟩
  ·refine fJ [(65,_),(64,_)] 8 [some 7,some 6] fun G a w S=>?_
   exact sSk S y y y ah y y fun a S=>leafL ⟨y,S⟩
  ·refine fJ [(64,_),(66,_)] 9 [some 6,some 8] fun G a w S=>?_
   exact sPickF (.bool false) S (wN y) y y ah y y (lb y) fun a S=>leafL ⟨y,S⟩
  ·exact fM 10 (some 9) y y y y (.inl y) y y y
  ·refine fJ [(4,_),(68,_)] 11 [none,some 10] fun G a w S=>?_
   exact sSk S y y y y y y fun a S=>leafL ⟨y,S⟩
  ·refine fJ [(68,_)] 12 [some 10] fun G a w S=>?_
   exact sSk S y y y y y y fun a S=>leafL ⟨y,S⟩
  ·refine fJ [(70,_),(68,_)] 13 [some 12,some 10] fun G a w S=>?_
   exact sSk S y y y y y y fun a S=>leafL ⟨y,S⟩
  ·refine fJ [(69,_),(71,_),(68,_)] 14 [some 11,some 13,some 10] fun G a w S=>?_
   exact sSk S y y y y y y fun a S=>leafL ⟨y,S⟩
  ·refine fJ [(68,_),(72,_)] 15 [some 10,some 14] fun G a w S=>?_
   exact sPickF (.bool false) S (wN y) y y y y y (lb y) fun a S=>leafL ⟨y,S⟩
  ·exact fM 16 (some 15) y y y y (.inl y) y y y
  ·refine fJ [(7,_),(74,_)] 17 [none,some 16] fun G a w S=>?_
   exact sSk S y y y y y y fun a S=>leafL ⟨y,S⟩
  ·refine fJ [(74,_)] 18 [some 16] fun G a w S=>?_
   exact sSk S y y y y y y fun a S=>leafL ⟨y,S⟩
  ·refine fJ [(75,_),(76,_),(74,_)] 19 [some 17,some 18,some 16] fun G a w S=>?_
   exact sSk S y y y y y y fun a S=>leafL ⟨y,S⟩
  ·refine fJ [(74,_),(77,_)] 20 [some 16,some 19] fun G a w S=>?_
   exact sPickF (.bool false) S (wN y) y y y y y (lb y) fun a S=>leafL ⟨y,S⟩
  ·exact fM 21 (some 20) y y y y (.inl y) y y y
  ·refine fJ [(8,_),(79,_)] 22 [none,some 21] fun G a w S=>?_
   exact sSk S y y y y y y fun a S=>leafL ⟨y,S⟩
  ·refine fJ [(80,_),(79,_)] 23 [some 22,some 21] fun G a w S=>?_
   exact sSk S y y y y y y fun a S=>leafL ⟨y,S⟩
  ·refine fJ [(79,_),(81,_)] 24 [some 21,some 23] fun G a w S=>?_
   exact sPickF (.bool false) S (wN y) y y y y y (lb y) fun a S=>leafL ⟨y,S⟩
  ·exact fM 25 (some 24) y y y y (.inl y) y y y
  ·refine fJ [(11,_),(83,_)] 26 [none,some 25] fun G a w S=>?_
   exact sSk S y y y y y y fun a S=>leafL ⟨y,S⟩
  ·refine fJ [(84,_),(83,_)] 27 [some 26,some 25] fun G a w S=>?_
   exact sSk S y y y y y y fun a S=>leafL ⟨y,S⟩
  ·refine fJ [(83,_),(85,_)] 28 [some 25,some 27] fun G a w S=>?_
   exact sPickF (.bool false) S (wN y) y y y y y (lb y) fun a S=>leafL ⟨y,S⟩
  ·exact fM 29 (some 28) y y y y (.inl y) y y y
  ·refine fJ [(10,_),(87,_)] 30 [none,some 29] fun G a w S=>?_
   exact sSk S y y y y y y fun a S=>leafL ⟨y,S⟩
  ·refine fJ [(87,_)] 31 [some 29] fun G a w S=>?_
   exact sSk S y y y y y y fun a S=>leafL ⟨y,S⟩
  ·refine fJ [(88,_),(89,_),(87,_)] 32 [some 30,some 31,some 29] fun G a w S=>?_
   exact sSk S y y y y y y fun a S=>leafL ⟨y,S⟩
  ·refine fJ [(87,_),(90,_)] 33 [some 29,some 32] fun G a w S=>?_
   exact sPickF (.bool false) S (wN y) y y y y y (lb y) fun a S=>leafL ⟨y,S⟩
  ·exact fM 34 (some 33) y y y y (.inr y) y y y
  exact leafT (⟨false,Option.some.inj h,S.fix [] [] (by decide) y y y⟩)
 rcases iS h with ⟨a9,h⟩ | ⟨a9,h⟩
 rotate_left
 ·refine sDraw (nf:=[3]) (W:=[(0,54,.bool ao),(1,55,.bool ao),(2,56,.slice a5 a2.1.length a6)]) y S ?_
  refine node_by (A:=anc_raddlelaw17_alive_0) 39 (by kernel_rfl) (by kernel_rfl) (by kernel_rfl) (by kernel_rfl) (by kernel_rfl) [0,1,2] (by kernel_rfl) (by decide) (by decide) (fF ?_ (fF ?_ (fF ?_ (fN ?_ (fE 3 (fE 3 (fE 3 (fE 3 (fE 3 (fE 3 (fE 3 (fE 3 (fE 3 (fE 3 (fE 3 (fE 3 (fE 3 (fE 3 (fE 3 (fE 3 (fE 3 (fE 3 (fE 3 (fE 3 (fE 3 (fE 3 (fE 3 (fE 3 (fE 3 (fE 3 (fE 3 (fE 3 (fE 3 (fE 3 (fE 3 (fE 3 (fE 3 (fE 3 (fE 3 (trivial)))))))))))))))))))))))))))))))))))))))) [] (fun q hq=>by cases hq) (fun hY=>absurd (hY 3 (by decide)) (by decide))
  ·exact fM 0 none y y y y (.inl y) y y y
  ·exact fM 1 (some 0) y y y y (.inl y) y y y
  ·refine fJ [(1,_),(55,_)] 2 [none,some 1] fun G a w S=>?_
   exact sMove (.slice a5 a2.1.length a6) S (wG 1 true 55 y y y a7) (.inl y) y y (lb y) fun a S=>leafL ⟨y,S⟩
  refine ⟨_,[(55,.bool ao)],y,(srcs_of [some 1] y y y),fun G a w S=>?_⟩
  refine sLit (r:=(rI .i64)) (T:=3) (xs:=([0,0,0]:List Int)) [(0,iv 0),(1,iv 0),(2,iv 0)] 3 [iv 0,iv 0,iv 0] [iv 0,iv 0,iv 0] (iv 0) 8 S (wG 1 true 55 y y y a7) y y Try.underlying25 y (by decide) (by decide) (by kernel_rfl) y (fun E1 w1 hE=>All.cons y (All.cons y (All.cons y (All.nil _ _ _)))) y y (lb y) fun a w aS aT S=>?_
  refine leafL ⟨y,_,_,.inl ⟨57,(.slice aS ([0,0,0]:List Int).length aT),[(4,58,.bool ag),(5,59,.bool ag),(6,60,.bool ag),(7,61,iv a2.2.1),(8,62,.bool (a2.2.1 == 1)),(9,63,.bool (a2.2.1 == 1)),(10,64,.bool (a2.2.1 == 1)),(11,65,iv a0.2.1),(12,66,.bool (a0.2.1 == 1)),(13,67,.bool (a0.2.1 == 1)),(14,68,.bool (a0.2.1 == 1)),(15,69,undef),(16,70,undef),(17,71,undef),(18,72,undef),(19,73,.bool false),(20,74,.bool false),(21,75,undef),(22,76,undef),(23,77,undef),(24,78,.bool false),(25,79,.bool false),(26,80,undef),(27,81,undef),(28,82,.bool false),(29,83,.bool false),(30,84,undef),(31,85,undef),(32,86,.bool false),(33,87,.bool false),(34,88,undef),(35,89,undef),(36,90,undef),(37,91,.bool false),(38,0,.bool false)],y,S,hz_of y,?_⟩⟩
  refine node_by (A:=anc_raddlelaw17_alive_0) 39 (by kernel_rfl) (by kernel_rfl) (by kernel_rfl) (by kernel_rfl) (by kernel_rfl) [4,5,6,7,8,9,10,11,12,13,14,15,16,17,18,19,20,21,22,23,24,25,26,27,28,29,30,31,32,33,34,35,36,37,38,3,0,1,2] (by kernel_rfl) (by decide) (by decide) (fD 3 (fD 3 (fF ?_ (fY (fF ?_ (fF ?_ (fF ?_ (fF ?_ (fF ?_ (fF ?_ (fF ?_ (fF ?_ (fF ?_ (fF ?_ (fF ?_ (fF ?_ (fF ?_ (fF ?_ (fF ?_ (fF ?_ (fF ?_ (fF ?_ (fF ?_ (fF ?_ (fF ?_ (fF ?_ (fF ?_ (fF ?_ (fF ?_ (fF ?_ (fF ?_ (fF ?_ (fF ?_ (fF ?_ (fF ?_ (fF ?_ (fF ?_ (fF ?_ (fF ?_ (trivial)))))))))))))))))))))))))))))))))))))))) [(0,.bool false)] (fin_of [some 34] y (by kernel_rfl) (by kernel_rfl)) (fun _ a w S=>?_)
  ·refine fJ [(1,_),(55,_)] 38 [none,some 37] fun G a w S=>?_
   exact sMove (.slice a5 a2.1.length a6) S (wG 1 true 55 y y y a7) (.inl y) y y (lb y) fun a S=>leafL ⟨y,S⟩
  ·refine fJ [(56,_),(57,_),(55,_)] 0 [some 38,some 35,some 37] fun G a w S=>?_
   have S1:=S.mem
   have S1:=S1.shutR (r:=(rI .i64)) (T:=3) (v:=.slice aS ([0,0,0]:List Int).length aT) (xs:=([0,0,0]:List Int)) 0 y
   refine sCallQ (X:=Unit) (f:=17) (vs:=[.slice a5 a2.1.length a6,.slice aS ([0,0,0]:List Int).length aT]) (val:=fun _=>.bool ag) S (wG 1 true 55 y y y a7) y callee17 y (S1.quiet [1,0] y) (fun E1 w1 S1=>c_raddleref02_Same E1 w1 a2.1 (.slice a5 a2.1.length a6) ([0,0,0]:List Int) (.slice aS ([0,0,0]:List Int).length aT) ag aI S1) y (lb y) fun _ a w S=>?_
   exact leafL ⟨y,S⟩
  ·refine fJ [(55,_),(58,_)] 1 [some 37,some 0] fun G a w S=>?_
   exact sPickT (.bool ag) S (wN y) y y a7 y y (lb y) fun a S=>leafL ⟨y,S⟩
  ·exact fM 2 (some 1) y y y y (.inl y) y y y
  ·refine fJ [(2,_),(60,_)] 3 [none,some 2] fun G a w S=>?_
   exact sMove (iv a2.2.1) S (wG 6 true 60 y y y ae) (.inl y) y y (lb y) fun a S=>leafL ⟨y,S⟩
  ·refine fJ [(61,_),(60,_)] 4 [some 3,some 2] fun G a w S=>?_
   exact sBin _ S (wG 6 true 60 y y y ae) y y y (bEq _ _ _ _ .i64 a2.2.1 1) y (lb y) fun a S=>leafL ⟨y,S⟩
  ·refine fJ [(60,_),(62,_)] 5 [some 2,some 4] fun G a w S=>?_
   exact sPickT (.bool (a2.2.1 == 1)) S (wN y) y y ae y y (lb y) fun a S=>leafL ⟨y,S⟩
  ·exact fM 6 (some 5) y y y y (.inl y) y y y
  ·refine fJ [(5,_),(64,_)] 7 [none,some 6] fun G a w S=>?_
   exact sMove (iv a0.2.1) S (wG 10 true 64 y y y ah) (.inl y) y y (lb y) fun a S=>leafL ⟨y,S⟩
  ·refine fJ [(65,_),(64,_)] 8 [some 7,some 6] fun G a w S=>?_
   exact sBin _ S (wG 10 true 64 y y y ah) y y y (bEq _ _ _ _ .i64 a0.2.1 1) y (lb y) fun a S=>leafL ⟨y,S⟩
  ·refine fJ [(64,_),(66,_)] 9 [some 6,some 8] fun G a w S=>?_
   exact sPickT (.bool (a0.2.1 == 1)) S (wN y) y y ah y y (lb y) fun a S=>leafL ⟨y,S⟩
  ·exact fM 10 (some 9) y y y y (.inl y) y y y
  ·refine fJ [(4,_),(68,_)] 11 [none,some 10] fun G a w S=>?_
   exact sSk S y y y a9 y y fun a S=>leafL ⟨y,S⟩
  ·refine fJ [(68,_)] 12 [some 10] fun G a w S=>?_
   exact sSk S y y y a9 y y fun a S=>leafL ⟨y,S⟩
  ·refine fJ [(70,_),(68,_)] 13 [some 12,some 10] fun G a w S=>?_
   exact sSk S y y y a9 y y fun a S=>leafL ⟨y,S⟩
  ·refine fJ [(69,_),(71,_),(68,_)] 14 [some 11,some 13,some 10] fun G a w S=>?_
   exact sSk S y y y a9 y y fun a S=>leafL ⟨y,S⟩
  ·refine fJ [(68,_),(72,_)] 15 [some 10,some 14] fun G a w S=>?_
   exact sPickF (.bool false) S (wN y) y y a9 y y (lb y) fun a S=>leafL ⟨y,S⟩
  ·exact fM 16 (some 15) y y y y (.inl y) y y y
  ·refine fJ [(7,_),(74,_)] 17 [none,some 16] fun G a w S=>?_
   exact sSk S y y y y y y fun a S=>leafL ⟨y,S⟩
  ·refine fJ [(74,_)] 18 [some 16] fun G a w S=>?_
   exact sSk S y y y y y y fun a S=>leafL ⟨y,S⟩
  ·refine fJ [(75,_),(76,_),(74,_)] 19 [some 17,some 18,some 16] fun G a w S=>?_
   exact sSk S y y y y y y fun a S=>leafL ⟨y,S⟩
  ·refine fJ [(74,_),(77,_)] 20 [some 16,some 19] fun G a w S=>?_
   exact sPickF (.bool false) S (wN y) y y y y y (lb y) fun a S=>leafL ⟨y,S⟩
  ·exact fM 21 (some 20) y y y y (.inl y) y y y
  ·refine fJ [(8,_),(79,_)] 22 [none,some 21] fun G a w S=>?_
   exact sSk S y y y y y y fun a S=>leafL ⟨y,S⟩
  ·refine fJ [(80,_),(79,_)] 23 [some 22,some 21] fun G a w S=>?_
   exact sSk S y y y y y y fun a S=>leafL ⟨y,S⟩
  ·refine fJ [(79,_),(81,_)] 24 [some 21,some 23] fun G a w S=>?_
   exact sPickF (.bool false) S (wN y) y y y y y (lb y) fun a S=>leafL ⟨y,S⟩
  ·exact fM 25 (some 24) y y y y (.inl y) y y y
  ·refine fJ [(11,_),(83,_)] 26 [none,some 25] fun G a w S=>?_
   exact sSk S y y y y y y fun a S=>leafL ⟨y,S⟩
  ·refine fJ [(84,_),(83,_)] 27 [some 26,some 25] fun G a w S=>?_
   exact sSk S y y y y y y fun a S=>leafL ⟨y,S⟩
  ·refine fJ [(83,_),(85,_)] 28 [some 25,some 27] fun G a w S=>?_
   exact sPickF (.bool false) S (wN y) y y y y y (lb y) fun a S=>leafL ⟨y,S⟩
  ·exact fM 29 (some 28) y y y y (.inl y) y y y
  ·refine fJ [(10,_),(87,_)] 30 [none,some 29] fun G a w S=>?_
   exact sSk S y y y y y y fun a S=>leafL ⟨y,S⟩
  ·refine fJ [(87,_)] 31 [some 29] fun G a w S=>?_
   exact sSk S y y y y y y fun a S=>leafL ⟨y,S⟩
  ·refine fJ [(88,_),(89,_),(87,_)] 32 [some 30,some 31,some 29] fun G a w S=>?_
   exact sSk S y y y y y y fun a S=>leafL ⟨y,S⟩
  ·refine fJ [(87,_),(90,_)] 33 [some 29,some 32] fun G a w S=>?_
   exact sPickF (.bool false) S (wN y) y y y y y (lb y) fun a S=>leafL ⟨y,S⟩
  ·exact fM 34 (some 33) y y y y (.inr y) y y y
  exact leafT (⟨false,Option.some.inj h,S.fix [] [] (by decide) y y y⟩)
 obtain ⟨ak,bk,h⟩:=bS h
 rcases iS h with ⟨af,h⟩ | ⟨af,h⟩
 rotate_left
 ·refine sDraw (nf:=[3,16]) (W:=[(0,54,.bool ao),(1,55,.bool ao),(2,56,.slice a5 a2.1.length a6)]) y S ?_
  refine node_by (A:=anc_raddlelaw17_alive_0) 39 (by kernel_rfl) (by kernel_rfl) (by kernel_rfl) (by kernel_rfl) (by kernel_rfl) [0,1,2] (by kernel_rfl) (by decide) (by decide) (fF ?_ (fF ?_ (fF ?_ (fN ?_ (fE 3 (fE 3 (fE 3 (fE 3 (fE 3 (fE 3 (fE 3 (fE 3 (fE 3 (fE 3 (fE 3 (fE 3 (aB 16 22 3 (by decide) (fE 3 (fE 3 (fE 3 (fE 3 (fE 3 (fE 3 (fE 3 (fE 3 (fE 3 (fE 3 (fE 3 (fE 3 (fE 3 (fE 3 (fE 3 (fE 3 (fE 3 (fE 3 (fE 3 (fE 3 (fE 3 (fE 3 (trivial)))))))))))))))))))))))))))))))))))))))) [] (fun q hq=>by cases hq) (fun hY=>absurd (hY 3 (by decide)) (by decide))
  ·exact fM 0 none y y y y (.inl y) y y y
  ·exact fM 1 (some 0) y y y y (.inl y) y y y
  ·refine fJ [(1,_),(55,_)] 2 [none,some 1] fun G a w S=>?_
   exact sMove (.slice a5 a2.1.length a6) S (wG 1 true 55 y y y a7) (.inl y) y y (lb y) fun a S=>leafL ⟨y,S⟩
  refine ⟨_,[(55,.bool ao)],y,(srcs_of [some 1] y y y),fun G a w S=>?_⟩
  refine sLit (r:=(rI .i64)) (T:=3) (xs:=([0,0,0]:List Int)) [(0,iv 0),(1,iv 0),(2,iv 0)] 3 [iv 0,iv 0,iv 0] [iv 0,iv 0,iv 0] (iv 0) 8 S (wG 1 true 55 y y y a7) y y Try.underlying25 y (by decide) (by decide) (by kernel_rfl) y (fun E1 w1 hE=>All.cons y (All.cons y (All.cons y (All.nil _ _ _)))) y y (lb y) fun a w aU aV S=>?_
  refine leafL ⟨y,_,_,.inl ⟨57,(.slice aU ([0,0,0]:List Int).length aV),[(4,58,.bool ag),(5,59,.bool ag),(6,60,.bool ag),(7,61,iv a2.2.1),(8,62,.bool (a2.2.1 == 1)),(9,63,.bool (a2.2.1 == 1)),(10,64,.bool (a2.2.1 == 1)),(11,65,iv a0.2.1),(12,66,.bool (a0.2.1 == 1)),(13,67,.bool (a0.2.1 == 1)),(14,68,.bool (a0.2.1 == 1)),(15,69,.agg #[iv a0.1.W,iv a0.1.H,.slice a3 a0.1.Bits.length a4])],y,S,hz_of y,?_⟩⟩
  refine node_by (A:=anc_raddlelaw17_alive_0) 39 (by kernel_rfl) (by kernel_rfl) (by kernel_rfl) (by kernel_rfl) (by kernel_rfl) [4,5,6,7,8,9,10,11,12,13,14,15,3,0,1,2] (by kernel_rfl) (by decide) (by decide) (fD 3 (fD 3 (fF ?_ (fY (fF ?_ (fF ?_ (fF ?_ (fF ?_ (fF ?_ (fF ?_ (fF ?_ (fF ?_ (fF ?_ (fF ?_ (fF ?_ (fF ?_ (fN ?_ (fE 16 (fE 16 (fE 16 (fE 16 (fE 16 (fE 16 (fE 16 (fE 16 (fE 16 (fE 16 (fE 16 (fE 16 (fE 16 (fE 16 (fE 16 (fE 16 (fE 16 (fE 16 (fE 16 (fE 16 (fE 16 (fE 16 (trivial)))))))))))))))))))))))))))))))))))))))) [] (fun q hq=>by cases hq) (fun hY=>absurd (hY 16 (by decide)) (by decide))
  ·refine fJ [(1,_),(55,_)] 15 [none,some 14] fun G a w S=>?_
   exact sMove (.slice a5 a2.1.length a6) S (wG 1 true 55 y y y a7) (.inl y) y y (lb y) fun a S=>leafL ⟨y,S⟩
  ·refine fJ [(56,_),(57,_),(55,_)] 0 [some 15,some 12,some 14] fun G a w S=>?_
   have S1:=S.mem
   have S1:=S1.shutR (r:=(rI .i64)) (T:=3) (v:=.slice aU ([0,0,0]:List Int).length aV) (xs:=([0,0,0]:List Int)) 0 y
   refine sCallQ (X:=Unit) (f:=17) (vs:=[.slice a5 a2.1.length a6,.slice aU ([0,0,0]:List Int).length aV]) (val:=fun _=>.bool ag) S (wG 1 true 55 y y y a7) y callee17 y (S1.quiet [1,0] y) (fun E1 w1 S1=>c_raddleref02_Same E1 w1 a2.1 (.slice a5 a2.1.length a6) ([0,0,0]:List Int) (.slice aU ([0,0,0]:List Int).length aV) ag aI S1) y (lb y) fun _ a w S=>?_
   exact leafL ⟨y,S⟩
  ·refine fJ [(55,_),(58,_)] 1 [some 14,some 0] fun G a w S=>?_
   exact sPickT (.bool ag) S (wN y) y y a7 y y (lb y) fun a S=>leafL ⟨y,S⟩
  ·exact fM 2 (some 1) y y y y (.inl y) y y y
  ·refine fJ [(2,_),(60,_)] 3 [none,some 2] fun G a w S=>?_
   exact sMove (iv a2.2.1) S (wG 6 true 60 y y y ae) (.inl y) y y (lb y) fun a S=>leafL ⟨y,S⟩
  ·refine fJ [(61,_),(60,_)] 4 [some 3,some 2] fun G a w S=>?_
   exact sBin _ S (wG 6 true 60 y y y ae) y y y (bEq _ _ _ _ .i64 a2.2.1 1) y (lb y) fun a S=>leafL ⟨y,S⟩
  ·refine fJ [(60,_),(62,_)] 5 [some 2,some 4] fun G a w S=>?_
   exact sPickT (.bool (a2.2.1 == 1)) S (wN y) y y ae y y (lb y) fun a S=>leafL ⟨y,S⟩
  ·exact fM 6 (some 5) y y y y (.inl y) y y y
  ·refine fJ [(5,_),(64,_)] 7 [none,some 6] fun G a w S=>?_
   exact sMove (iv a0.2.1) S (wG 10 true 64 y y y ah) (.inl y) y y (lb y) fun a S=>leafL ⟨y,S⟩
  ·refine fJ [(65,_),(64,_)] 8 [some 7,some 6] fun G a w S=>?_
   exact sBin _ S (wG 10 true 64 y y y ah) y y y (bEq _ _ _ _ .i64 a0.2.1 1) y (lb y) fun a S=>leafL ⟨y,S⟩
  ·refine fJ [(64,_),(66,_)] 9 [some 6,some 8] fun G a w S=>?_
   exact sPickT (.bool (a0.2.1 == 1)) S (wN y) y y ah y y (lb y) fun a S=>leafL ⟨y,S⟩
  ·exact fM 10 (some 9) y y y y (.inl y) y y y
  ·refine fJ [(4,_),(68,_)] 11 [none,some 10] fun G a w S=>?_
   exact sLoadN (p:=aH) (off:=0) (T:=24) (vs:=[iv a0.1.W,iv a0.1.H,.slice a3 a0.1.Bits.length a4]) 1 [iv a0.1.W,iv a0.1.H,.slice a3 a0.1.Bits.length a4] S (wG 14 true 68 y y y a9) y y y y y y y (lb y) fun a S=>leafL ⟨y,S⟩
  refine ⟨_,[(68,.bool (a0.2.1 == 1))],y,(srcs_of [some 10] y y y),fun G a w S=>?_⟩
  refine sLit (r:=rB) (T:=4) (xs:=[true,true,true,true,true,true]) [(0,.bool true),(1,.bool true),(2,.bool true),(3,.bool true),(4,.bool true),(5,.bool true)] 6 [.bool true,.bool true,.bool true,.bool true,.bool true,.bool true] [.bool true,.bool true,.bool true,.bool true,.bool true,.bool true] (.bool false) 1 S (wG 14 true 68 y y y a9) y y Try.underlying22 y (by decide) (by decide) (by kernel_rfl) y (fun E1 w1 hE=>All.cons y (All.cons y (All.cons y (All.cons y (All.cons y (All.cons y (All.nil _ _ _))))))) y y (lb y) fun a w ap aq S=>?_
  refine leafL ⟨y,_,_,.inl ⟨70,(.slice ap [true,true,true,true,true,true].length aq),[(17,71,.agg #[iv 3,iv 2,.slice ap [true,true,true,true,true,true].length aq]),(18,72,.bool ak),(19,73,.bool ak),(20,74,.bool ak),(21,75,undef),(22,76,undef),(23,77,undef),(24,78,.bool false),(25,79,.bool false),(26,80,undef),(27,81,undef),(28,82,.bool false),(29,83,.bool false),(30,84,undef),(31,85,undef),(32,86,.bool false),(33,87,.bool false),(34,88,undef),(35,89,undef),(36,90,undef),(37,91,.bool false),(38,0,.bool false)],y,S,hz_of y,?_⟩⟩
  refine node_by (A:=anc_raddlelaw17_alive_0) 39 (by kernel_rfl) (by kernel_rfl) (by kernel_rfl) (by kernel_rfl) (by kernel_rfl) [17,18,19,20,21,22,23,24,25,26,27,28,29,30,31,32,33,34,35,36,37,38,16,4,5,6,7,8,9,10,11,12,13,14,15,3,0,1,2] (by kernel_rfl) (by decide) (by decide) (fD 16 (fD 16 (fD 16 (fY (fD 16 (fD 16 (fD 16 (fD 16 (fD 16 (fD 16 (fD 16 (fD 16 (fD 16 (fD 16 (fD 16 (fF ?_ (fY (fF ?_ (fF ?_ (fF ?_ (fF ?_ (fF ?_ (fF ?_ (fF ?_ (fF ?_ (fF ?_ (fF ?_ (fF ?_ (fF ?_ (fF ?_ (fF ?_ (fF ?_ (fF ?_ (fF ?_ (fF ?_ (fF ?_ (fF ?_ (fF ?_ (fF ?_ (trivial)))))))))))))))))))))))))))))))))))))))) [(0,.bool false)] (fin_of [some 21] y (by kernel_rfl) (by kernel_rfl)) (fun _ a w S=>?_)
  ·refine fJ [(4,_),(68,_)] 34 [none,some 33] fun G a w S=>?_
   exact sLoadN (p:=aH) (off:=0) (T:=24) (vs:=[iv a0.1.W,iv a0.1.H,.slice a3 a0.1.Bits.length a4]) 2 [iv a0.1.W,iv a0.1.H,.slice a3 a0.1.Bits.length a4] S (wG 14 true 68 y y y a9) y y y y y y y (lb y) fun a S=>leafL ⟨y,S⟩
  ·refine fJ [(70,_),(68,_)] 0 [some 22,some 33] fun G a w S=>?_
   exact sBuild [(0,iv 3),(1,iv 2),(2,.slice ap [true,true,true,true,true,true].length aq)] [iv 3,iv 2,.slice ap [true,true,true,true,true,true].length aq] S (wG 14 true 68 y y y a9) y y y y (lb y) fun a S=>leafL ⟨y,S⟩
  ·refine fJ [(69,_),(71,_),(68,_)] 1 [some 34,some 0,some 33] fun G a w S=>?_
   have S1:=S.mem
   have S1:=S1.learn (fRep r_api_Grid (.agg #[iv a0.1.W,iv a0.1.H,.slice a3 a0.1.Bits.length a4]) a0.1) ⟨_,y,S1.know (i:=2) (e:=fRep (rL rB) (.slice a3 a0.1.Bits.length a4) a0.1.Bits) y⟩
   have S1:=S1.shutR (r:=rB) (T:=4) (v:=.slice ap [true,true,true,true,true,true].length aq) (xs:=[true,true,true,true,true,true]) 0 y
   have S1:=S1.learn (fRep r_api_Grid (.agg #[iv 3,iv 2,.slice ap [true,true,true,true,true,true].length aq]) (api_Grid.mk 3 2 [true,true,true,true,true,true])) ⟨_,y,S1.know (i:=0) (e:=fRep (rL rB) (.slice ap [true,true,true,true,true,true].length aq) [true,true,true,true,true,true]) y⟩
   refine sCallQ (X:=Unit) (f:=16) (vs:=[.agg #[iv a0.1.W,iv a0.1.H,.slice a3 a0.1.Bits.length a4],.agg #[iv 3,iv 2,.slice ap [true,true,true,true,true,true].length aq]]) (val:=fun _=>.bool ak) S (wG 14 true 68 y y y a9) y callee16 y (S1.quiet [2,0] y) (fun E1 w1 S1=>c_raddleref01_Same E1 w1 a0.1 (.agg #[iv a0.1.W,iv a0.1.H,.slice a3 a0.1.Bits.length a4]) (api_Grid.mk 3 2 [true,true,true,true,true,true]) (.agg #[iv 3,iv 2,.slice ap [true,true,true,true,true,true].length aq]) ak bk S1) y (lb y) fun _ a w S=>?_
   exact leafL ⟨y,S⟩
  ·refine fJ [(68,_),(72,_)] 2 [some 33,some 1] fun G a w S=>?_
   exact sPickT (.bool ak) S (wN y) y y a9 y y (lb y) fun a S=>leafL ⟨y,S⟩
  ·exact fM 3 (some 2) y y y y (.inl y) y y y
  ·refine fJ [(7,_),(74,_)] 4 [none,some 3] fun G a w S=>?_
   exact sSk S y y y af y y fun a S=>leafL ⟨y,S⟩
  ·refine fJ [(74,_)] 5 [some 3] fun G a w S=>?_
   exact sSk S y y y af y y fun a S=>leafL ⟨y,S⟩
  ·refine fJ [(75,_),(76,_),(74,_)] 6 [some 4,some 5,some 3] fun G a w S=>?_
   exact sSk S y y y af y y fun a S=>leafL ⟨y,S⟩
  ·refine fJ [(74,_),(77,_)] 7 [some 3,some 6] fun G a w S=>?_
   exact sPickF (.bool false) S (wN y) y y af y y (lb y) fun a S=>leafL ⟨y,S⟩
  ·exact fM 8 (some 7) y y y y (.inl y) y y y
  ·refine fJ [(8,_),(79,_)] 9 [none,some 8] fun G a w S=>?_
   exact sSk S y y y y y y fun a S=>leafL ⟨y,S⟩
  ·refine fJ [(80,_),(79,_)] 10 [some 9,some 8] fun G a w S=>?_
   exact sSk S y y y y y y fun a S=>leafL ⟨y,S⟩
  ·refine fJ [(79,_),(81,_)] 11 [some 8,some 10] fun G a w S=>?_
   exact sPickF (.bool false) S (wN y) y y y y y (lb y) fun a S=>leafL ⟨y,S⟩
  ·exact fM 12 (some 11) y y y y (.inl y) y y y
  ·refine fJ [(11,_),(83,_)] 13 [none,some 12] fun G a w S=>?_
   exact sSk S y y y y y y fun a S=>leafL ⟨y,S⟩
  ·refine fJ [(84,_),(83,_)] 14 [some 13,some 12] fun G a w S=>?_
   exact sSk S y y y y y y fun a S=>leafL ⟨y,S⟩
  ·refine fJ [(83,_),(85,_)] 15 [some 12,some 14] fun G a w S=>?_
   exact sPickF (.bool false) S (wN y) y y y y y (lb y) fun a S=>leafL ⟨y,S⟩
  ·exact fM 16 (some 15) y y y y (.inl y) y y y
  ·refine fJ [(10,_),(87,_)] 17 [none,some 16] fun G a w S=>?_
   exact sSk S y y y y y y fun a S=>leafL ⟨y,S⟩
  ·refine fJ [(87,_)] 18 [some 16] fun G a w S=>?_
   exact sSk S y y y y y y fun a S=>leafL ⟨y,S⟩
  ·refine fJ [(88,_),(89,_),(87,_)] 19 [some 17,some 18,some 16] fun G a w S=>?_
   exact sSk S y y y y y y fun a S=>leafL ⟨y,S⟩
  ·refine fJ [(87,_),(90,_)] 20 [some 16,some 19] fun G a w S=>?_
   exact sPickF (.bool false) S (wN y) y y y y y (lb y) fun a S=>leafL ⟨y,S⟩
  ·exact fM 21 (some 20) y y y y (.inr y) y y y
  exact leafT (⟨false,Option.some.inj h,S.fix [] [] (by decide) y y y⟩)
 obtain ⟨aA,bu,h⟩:=bS h
 rcases iS h with ⟨az,h⟩ | ⟨az,h⟩
 rotate_left
 ·refine sDraw (nf:=[3,16,22]) (W:=[(0,54,.bool ao),(1,55,.bool ao),(2,56,.slice a5 a2.1.length a6)]) y S ?_
  refine node_by (A:=anc_raddlelaw17_alive_0) 39 (by kernel_rfl) (by kernel_rfl) (by kernel_rfl) (by kernel_rfl) (by kernel_rfl) [0,1,2] (by kernel_rfl) (by decide) (by decide) (fF ?_ (fF ?_ (fF ?_ (fN ?_ (fE 3 (fE 3 (fE 3 (fE 3 (fE 3 (fE 3 (fE 3 (fE 3 (fE 3 (fE 3 (fE 3 (fE 3 (aB 16 22 3 (by decide) (fE 3 (fE 3 (fE 3 (fE 3 (fE 3 (aB 22 16 3 (by decide) (fE 3 (fE 3 (fE 3 (fE 3 (fE 3 (fE 3 (fE 3 (fE 3 (fE 3 (fE 3 (fE 3 (fE 3 (fE 3 (fE 3 (fE 3 (fE 3 (trivial)))))))))))))))))))))))))))))))))))))))) [] (fun q hq=>by cases hq) (fun hY=>absurd (hY 3 (by decide)) (by decide))
  ·exact fM 0 none y y y y (.inl y) y y y
  ·exact fM 1 (some 0) y y y y (.inl y) y y y
  ·refine fJ [(1,_),(55,_)] 2 [none,some 1] fun G a w S=>?_
   exact sMove (.slice a5 a2.1.length a6) S (wG 1 true 55 y y y a7) (.inl y) y y (lb y) fun a S=>leafL ⟨y,S⟩
  refine ⟨_,[(55,.bool ao)],y,(srcs_of [some 1] y y y),fun G a w S=>?_⟩
  refine sLit (r:=(rI .i64)) (T:=3) (xs:=([0,0,0]:List Int)) [(0,iv 0),(1,iv 0),(2,iv 0)] 3 [iv 0,iv 0,iv 0] [iv 0,iv 0,iv 0] (iv 0) 8 S (wG 1 true 55 y y y a7) y y Try.underlying25 y (by decide) (by decide) (by kernel_rfl) y (fun E1 w1 hE=>All.cons y (All.cons y (All.cons y (All.nil _ _ _)))) y y (lb y) fun a w aW aX S=>?_
  refine leafL ⟨y,_,_,.inl ⟨57,(.slice aW ([0,0,0]:List Int).length aX),[(4,58,.bool ag),(5,59,.bool ag),(6,60,.bool ag),(7,61,iv a2.2.1),(8,62,.bool (a2.2.1 == 1)),(9,63,.bool (a2.2.1 == 1)),(10,64,.bool (a2.2.1 == 1)),(11,65,iv a0.2.1),(12,66,.bool (a0.2.1 == 1)),(13,67,.bool (a0.2.1 == 1)),(14,68,.bool (a0.2.1 == 1)),(15,69,.agg #[iv a0.1.W,iv a0.1.H,.slice a3 a0.1.Bits.length a4])],y,S,hz_of y,?_⟩⟩
  refine node_by (A:=anc_raddlelaw17_alive_0) 39 (by kernel_rfl) (by kernel_rfl) (by kernel_rfl) (by kernel_rfl) (by kernel_rfl) [4,5,6,7,8,9,10,11,12,13,14,15,3,0,1,2] (by kernel_rfl) (by decide) (by decide) (fD 3 (fD 3 (fF ?_ (fY (fF ?_ (fF ?_ (fF ?_ (fF ?_ (fF ?_ (fF ?_ (fF ?_ (fF ?_ (fF ?_ (fF ?_ (fF ?_ (fF ?_ (fN ?_ (fE 16 (fE 16 (fE 16 (fE 16 (fE 16 (aB 22 16 16 (by decide) (fE 16 (fE 16 (fE 16 (fE 16 (fE 16 (fE 16 (fE 16 (fE 16 (fE 16 (fE 16 (fE 16 (fE 16 (fE 16 (fE 16 (fE 16 (fE 16 (trivial)))))))))))))))))))))))))))))))))))))))) [] (fun q hq=>by cases hq) (fun hY=>absurd (hY 16 (by decide)) (by decide))
  ·refine fJ [(1,_),(55,_)] 15 [none,some 14] fun G a w S=>?_
   exact sMove (.slice a5 a2.1.length a6) S (wG 1 true 55 y y y a7) (.inl y) y y (lb y) fun a S=>leafL ⟨y,S⟩
  ·refine fJ [(56,_),(57,_),(55,_)] 0 [some 15,some 12,some 14] fun G a w S=>?_
   have S1:=S.mem
   have S1:=S1.shutR (r:=(rI .i64)) (T:=3) (v:=.slice aW ([0,0,0]:List Int).length aX) (xs:=([0,0,0]:List Int)) 0 y
   refine sCallQ (X:=Unit) (f:=17) (vs:=[.slice a5 a2.1.length a6,.slice aW ([0,0,0]:List Int).length aX]) (val:=fun _=>.bool ag) S (wG 1 true 55 y y y a7) y callee17 y (S1.quiet [1,0] y) (fun E1 w1 S1=>c_raddleref02_Same E1 w1 a2.1 (.slice a5 a2.1.length a6) ([0,0,0]:List Int) (.slice aW ([0,0,0]:List Int).length aX) ag aI S1) y (lb y) fun _ a w S=>?_
   exact leafL ⟨y,S⟩
  ·refine fJ [(55,_),(58,_)] 1 [some 14,some 0] fun G a w S=>?_
   exact sPickT (.bool ag) S (wN y) y y a7 y y (lb y) fun a S=>leafL ⟨y,S⟩
  ·exact fM 2 (some 1) y y y y (.inl y) y y y
  ·refine fJ [(2,_),(60,_)] 3 [none,some 2] fun G a w S=>?_
   exact sMove (iv a2.2.1) S (wG 6 true 60 y y y ae) (.inl y) y y (lb y) fun a S=>leafL ⟨y,S⟩
  ·refine fJ [(61,_),(60,_)] 4 [some 3,some 2] fun G a w S=>?_
   exact sBin _ S (wG 6 true 60 y y y ae) y y y (bEq _ _ _ _ .i64 a2.2.1 1) y (lb y) fun a S=>leafL ⟨y,S⟩
  ·refine fJ [(60,_),(62,_)] 5 [some 2,some 4] fun G a w S=>?_
   exact sPickT (.bool (a2.2.1 == 1)) S (wN y) y y ae y y (lb y) fun a S=>leafL ⟨y,S⟩
  ·exact fM 6 (some 5) y y y y (.inl y) y y y
  ·refine fJ [(5,_),(64,_)] 7 [none,some 6] fun G a w S=>?_
   exact sMove (iv a0.2.1) S (wG 10 true 64 y y y ah) (.inl y) y y (lb y) fun a S=>leafL ⟨y,S⟩
  ·refine fJ [(65,_),(64,_)] 8 [some 7,some 6] fun G a w S=>?_
   exact sBin _ S (wG 10 true 64 y y y ah) y y y (bEq _ _ _ _ .i64 a0.2.1 1) y (lb y) fun a S=>leafL ⟨y,S⟩
  ·refine fJ [(64,_),(66,_)] 9 [some 6,some 8] fun G a w S=>?_
   exact sPickT (.bool (a0.2.1 == 1)) S (wN y) y y ah y y (lb y) fun a S=>leafL ⟨y,S⟩
  ·exact fM 10 (some 9) y y y y (.inl y) y y y
  ·refine fJ [(4,_),(68,_)] 11 [none,some 10] fun G a w S=>?_
   exact sLoadN (p:=aH) (off:=0) (T:=24) (vs:=[iv a0.1.W,iv a0.1.H,.slice a3 a0.1.Bits.length a4]) 1 [iv a0.1.W,iv a0.1.H,.slice a3 a0.1.Bits.length a4] S (wG 14 true 68 y y y a9) y y y y y y y (lb y) fun a S=>leafL ⟨y,S⟩
  refine ⟨_,[(68,.bool (a0.2.1 == 1))],y,(srcs_of [some 10] y y y),fun G a w S=>?_⟩
  refine sLit (r:=rB) (T:=4) (xs:=[true,true,true,true,true,true]) [(0,.bool true),(1,.bool true),(2,.bool true),(3,.bool true),(4,.bool true),(5,.bool true)] 6 [.bool true,.bool true,.bool true,.bool true,.bool true,.bool true] [.bool true,.bool true,.bool true,.bool true,.bool true,.bool true] (.bool false) 1 S (wG 14 true 68 y y y a9) y y Try.underlying22 y (by decide) (by decide) (by kernel_rfl) y (fun E1 w1 hE=>All.cons y (All.cons y (All.cons y (All.cons y (All.cons y (All.cons y (All.nil _ _ _))))))) y y (lb y) fun a w ar au S=>?_
  refine leafL ⟨y,_,_,.inl ⟨70,(.slice ar [true,true,true,true,true,true].length au),[(17,71,.agg #[iv 3,iv 2,.slice ar [true,true,true,true,true,true].length au]),(18,72,.bool ak),(19,73,.bool ak),(20,74,.bool ak),(21,75,.slice ab aa.1.length ac)],y,S,hz_of y,?_⟩⟩
  refine node_by (A:=anc_raddlelaw17_alive_0) 39 (by kernel_rfl) (by kernel_rfl) (by kernel_rfl) (by kernel_rfl) (by kernel_rfl) [17,18,19,20,21,16,4,5,6,7,8,9,10,11,12,13,14,15,3,0,1,2] (by kernel_rfl) (by decide) (by decide) (fD 16 (fD 16 (fD 16 (fY (fD 16 (fD 16 (fD 16 (fD 16 (fD 16 (fD 16 (fD 16 (fD 16 (fD 16 (fD 16 (fD 16 (fF ?_ (fY (fF ?_ (fF ?_ (fF ?_ (fF ?_ (fF ?_ (fN ?_ (fE 22 (fE 22 (fE 22 (fE 22 (fE 22 (fE 22 (fE 22 (fE 22 (fE 22 (fE 22 (fE 22 (fE 22 (fE 22 (fE 22 (fE 22 (fE 22 (trivial)))))))))))))))))))))))))))))))))))))))) [] (fun q hq=>by cases hq) (fun hY=>absurd (hY 22 (by decide)) (by decide))
  ·refine fJ [(4,_),(68,_)] 17 [none,some 16] fun G a w S=>?_
   exact sLoadN (p:=aH) (off:=0) (T:=24) (vs:=[iv a0.1.W,iv a0.1.H,.slice a3 a0.1.Bits.length a4]) 2 [iv a0.1.W,iv a0.1.H,.slice a3 a0.1.Bits.length a4] S (wG 14 true 68 y y y a9) y y y y y y y (lb y) fun a S=>leafL ⟨y,S⟩
  ·refine fJ [(70,_),(68,_)] 0 [some 5,some 16] fun G a w S=>?_
   exact sBuild [(0,iv 3),(1,iv 2),(2,.slice ar [true,true,true,true,true,true].length au)] [iv 3,iv 2,.slice ar [true,true,true,true,true,true].length au] S (wG 14 true 68 y y y a9) y y y y (lb y) fun a S=>leafL ⟨y,S⟩
  ·refine fJ [(69,_),(71,_),(68,_)] 1 [some 17,some 0,some 16] fun G a w S=>?_
   have S1:=S.mem
   have S1:=S1.learn (fRep r_api_Grid (.agg #[iv a0.1.W,iv a0.1.H,.slice a3 a0.1.Bits.length a4]) a0.1) ⟨_,y,S1.know (i:=2) (e:=fRep (rL rB) (.slice a3 a0.1.Bits.length a4) a0.1.Bits) y⟩
   have S1:=S1.shutR (r:=rB) (T:=4) (v:=.slice ar [true,true,true,true,true,true].length au) (xs:=[true,true,true,true,true,true]) 0 y
   have S1:=S1.learn (fRep r_api_Grid (.agg #[iv 3,iv 2,.slice ar [true,true,true,true,true,true].length au]) (api_Grid.mk 3 2 [true,true,true,true,true,true])) ⟨_,y,S1.know (i:=0) (e:=fRep (rL rB) (.slice ar [true,true,true,true,true,true].length au) [true,true,true,true,true,true]) y⟩
   refine sCallQ (X:=Unit) (f:=16) (vs:=[.agg #[iv a0.1.W,iv a0.1.H,.slice a3 a0.1.Bits.length a4],.agg #[iv 3,iv 2,.slice ar [true,true,true,true,true,true].length au]]) (val:=fun _=>.bool ak) S (wG 14 true 68 y y y a9) y callee16 y (S1.quiet [2,0] y) (fun E1 w1 S1=>c_raddleref01_Same E1 w1 a0.1 (.agg #[iv a0.1.W,iv a0.1.H,.slice a3 a0.1.Bits.length a4]) (api_Grid.mk 3 2 [true,true,true,true,true,true]) (.agg #[iv 3,iv 2,.slice ar [true,true,true,true,true,true].length au]) ak bk S1) y (lb y) fun _ a w S=>?_
   exact leafL ⟨y,S⟩
  ·refine fJ [(68,_),(72,_)] 2 [some 16,some 1] fun G a w S=>?_
   exact sPickT (.bool ak) S (wN y) y y a9 y y (lb y) fun a S=>leafL ⟨y,S⟩
  ·exact fM 3 (some 2) y y y y (.inl y) y y y
  ·refine fJ [(7,_),(74,_)] 4 [none,some 3] fun G a w S=>?_
   exact sMove (.slice ab aa.1.length ac) S (wG 20 true 74 y y y af) (.inl y) y y (lb y) fun a S=>leafL ⟨y,S⟩
  refine ⟨_,[(74,.bool ak)],y,(srcs_of [some 3] y y y),fun G a w S=>?_⟩
  refine sLit (r:=(rI .i64)) (T:=3) (xs:=([0,0,1]:List Int)) [(0,iv 0),(1,iv 0),(2,iv 1)] 3 [iv 0,iv 0,iv 1] [iv 0,iv 0,iv 1] (iv 0) 8 S (wG 20 true 74 y y y af) y y Try.underlying25 y (by decide) (by decide) (by kernel_rfl) y (fun E1 w1 hE=>All.cons y (All.cons y (All.cons y (All.nil _ _ _)))) y y (lb y) fun a w aZ b1 S=>?_
  refine leafL ⟨y,_,_,.inl ⟨76,(.slice aZ ([0,0,1]:List Int).length b1),[(23,77,.bool aA),(24,78,.bool aA),(25,79,.bool aA),(26,80,undef),(27,81,undef),(28,82,.bool false),(29,83,.bool false),(30,84,undef),(31,85,undef),(32,86,.bool false),(33,87,.bool false),(34,88,undef),(35,89,undef),(36,90,undef),(37,91,.bool false),(38,0,.bool false)],y,S,hz_of y,?_⟩⟩
  refine node_by (A:=anc_raddlelaw17_alive_0) 39 (by kernel_rfl) (by kernel_rfl) (by kernel_rfl) (by kernel_rfl) (by kernel_rfl) [23,24,25,26,27,28,29,30,31,32,33,34,35,36,37,38,22,17,18,19,20,21,16,4,5,6,7,8,9,10,11,12,13,14,15,3,0,1,2] (by kernel_rfl) (by decide) (by decide) (fD 22 (fD 22 (fD 22 (fY (fD 22 (fD 22 (fD 22 (fD 22 (fD 22 (fD 22 (fD 22 (fD 22 (fD 22 (fD 22 (fD 22 (fD 22 (fY (fD 22 (fD 22 (fD 22 (fD 22 (fF ?_ (fY (fF ?_ (fF ?_ (fF ?_ (fF ?_ (fF ?_ (fF ?_ (fF ?_ (fF ?_ (fF ?_ (fF ?_ (fF ?_ (fF ?_ (fF ?_ (fF ?_ (fF ?_ (fF ?_ (trivial)))))))))))))))))))))))))))))))))))))))) [(0,.bool false)] (fin_of [some 15] y (by kernel_rfl) (by kernel_rfl)) (fun _ a w S=>?_)
  ·refine fJ [(7,_),(74,_)] 21 [none,some 20] fun G a w S=>?_
   exact sMove (.slice ab aa.1.length ac) S (wG 20 true 74 y y y af) (.inl y) y y (lb y) fun a S=>leafL ⟨y,S⟩
  ·refine fJ [(75,_),(76,_),(74,_)] 0 [some 21,some 16,some 20] fun G a w S=>?_
   have S1:=S.mem
   have S1:=S1.shutR (r:=(rI .i64)) (T:=3) (v:=.slice aZ ([0,0,1]:List Int).length b1) (xs:=([0,0,1]:List Int)) 0 y
   refine sCallQ (X:=Unit) (f:=17) (vs:=[.slice ab aa.1.length ac,.slice aZ ([0,0,1]:List Int).length b1]) (val:=fun _=>.bool aA) S (wG 20 true 74 y y y af) y callee17 y (S1.quiet [2,0] y) (fun E1 w1 S1=>c_raddleref02_Same E1 w1 aa.1 (.slice ab aa.1.length ac) ([0,0,1]:List Int) (.slice aZ ([0,0,1]:List Int).length b1) aA bu S1) y (lb y) fun _ a w S=>?_
   exact leafL ⟨y,S⟩
  ·refine fJ [(74,_),(77,_)] 1 [some 20,some 0] fun G a w S=>?_
   exact sPickT (.bool aA) S (wN y) y y af y y (lb y) fun a S=>leafL ⟨y,S⟩
  ·exact fM 2 (some 1) y y y y (.inl y) y y y
  ·refine fJ [(8,_),(79,_)] 3 [none,some 2] fun G a w S=>?_
   exact sSk S y y y az y y fun a S=>leafL ⟨y,S⟩
  ·refine fJ [(80,_),(79,_)] 4 [some 3,some 2] fun G a w S=>?_
   exact sSk S y y y az y y fun a S=>leafL ⟨y,S⟩
  ·refine fJ [(79,_),(81,_)] 5 [some 2,some 4] fun G a w S=>?_
   exact sPickF (.bool false) S (wN y) y y az y y (lb y) fun a S=>leafL ⟨y,S⟩
  ·exact fM 6 (some 5) y y y y (.inl y) y y y
  ·refine fJ [(11,_),(83,_)] 7 [none,some 6] fun G a w S=>?_
   exact sSk S y y y y y y fun a S=>leafL ⟨y,S⟩
  ·refine fJ [(84,_),(83,_)] 8 [some 7,some 6] fun G a w S=>?_
   exact sSk S y y y y y y fun a S=>leafL ⟨y,S⟩
  ·refine fJ [(83,_),(85,_)] 9 [some 6,some 8] fun G a w S=>?_
   exact sPickF (.bool false) S (wN y) y y y y y (lb y) fun a S=>leafL ⟨y,S⟩
  ·exact fM 10 (some 9) y y y y (.inl y) y y y
  ·refine fJ [(10,_),(87,_)] 11 [none,some 10] fun G a w S=>?_
   exact sSk S y y y y y y fun a S=>leafL ⟨y,S⟩
  ·refine fJ [(87,_)] 12 [some 10] fun G a w S=>?_
   exact sSk S y y y y y y fun a S=>leafL ⟨y,S⟩
  ·refine fJ [(88,_),(89,_),(87,_)] 13 [some 11,some 12,some 10] fun G a w S=>?_
   exact sSk S y y y y y y fun a S=>leafL ⟨y,S⟩
  ·refine fJ [(87,_),(90,_)] 14 [some 10,some 13] fun G a w S=>?_
   exact sPickF (.bool false) S (wN y) y y y y y (lb y) fun a S=>leafL ⟨y,S⟩
  ·exact fM 15 (some 14) y y y y (.inr y) y y y
  exact leafT (⟨false,Option.some.inj h,S.fix [] [] (by decide) y y y⟩)
 rcases iS h with ⟨aC,h⟩ | ⟨aC,h⟩
 rotate_left
 ·refine sDraw (nf:=[3,16,22]) (W:=[(0,54,.bool ao),(1,55,.bool ao),(2,56,.slice a5 a2.1.length a6)]) y S ?_
  refine node_by (A:=anc_raddlelaw17_alive_0) 39 (by kernel_rfl) (by kernel_rfl) (by kernel_rfl) (by kernel_rfl) (by kernel_rfl) [0,1,2] (by kernel_rfl) (by decide) (by decide) (fF ?_ (fF ?_ (fF ?_ (fN ?_ (fE 3 (fE 3 (fE 3 (fE 3 (fE 3 (fE 3 (fE 3 (fE 3 (fE 3 (fE 3 (fE 3 (fE 3 (aB 16 22 3 (by decide) (fE 3 (fE 3 (fE 3 (fE 3 (fE 3 (aB 22 16 3 (by decide) (fE 3 (fE 3 (fE 3 (fE 3 (fE 3 (fE 3 (fE 3 (fE 3 (fE 3 (fE 3 (fE 3 (fE 3 (fE 3 (fE 3 (fE 3 (fE 3 (trivial)))))))))))))))))))))))))))))))))))))))) [] (fun q hq=>by cases hq) (fun hY=>absurd (hY 3 (by decide)) (by decide))
  ·exact fM 0 none y y y y (.inl y) y y y
  ·exact fM 1 (some 0) y y y y (.inl y) y y y
  ·refine fJ [(1,_),(55,_)] 2 [none,some 1] fun G a w S=>?_
   exact sMove (.slice a5 a2.1.length a6) S (wG 1 true 55 y y y a7) (.inl y) y y (lb y) fun a S=>leafL ⟨y,S⟩
  refine ⟨_,[(55,.bool ao)],y,(srcs_of [some 1] y y y),fun G a w S=>?_⟩
  refine sLit (r:=(rI .i64)) (T:=3) (xs:=([0,0,0]:List Int)) [(0,iv 0),(1,iv 0),(2,iv 0)] 3 [iv 0,iv 0,iv 0] [iv 0,iv 0,iv 0] (iv 0) 8 S (wG 1 true 55 y y y a7) y y Try.underlying25 y (by decide) (by decide) (by kernel_rfl) y (fun E1 w1 hE=>All.cons y (All.cons y (All.cons y (All.nil _ _ _)))) y y (lb y) fun a w b3 b4 S=>?_
  refine leafL ⟨y,_,_,.inl ⟨57,(.slice b3 ([0,0,0]:List Int).length b4),[(4,58,.bool ag),(5,59,.bool ag),(6,60,.bool ag),(7,61,iv a2.2.1),(8,62,.bool (a2.2.1 == 1)),(9,63,.bool (a2.2.1 == 1)),(10,64,.bool (a2.2.1 == 1)),(11,65,iv a0.2.1),(12,66,.bool (a0.2.1 == 1)),(13,67,.bool (a0.2.1 == 1)),(14,68,.bool (a0.2.1 == 1)),(15,69,.agg #[iv a0.1.W,iv a0.1.H,.slice a3 a0.1.Bits.length a4])],y,S,hz_of y,?_⟩⟩
  refine node_by (A:=anc_raddlelaw17_alive_0) 39 (by kernel_rfl) (by kernel_rfl) (by kernel_rfl) (by kernel_rfl) (by kernel_rfl) [4,5,6,7,8,9,10,11,12,13,14,15,3,0,1,2] (by kernel_rfl) (by decide) (by decide) (fD 3 (fD 3 (fF ?_ (fY (fF ?_ (fF ?_ (fF ?_ (fF ?_ (fF ?_ (fF ?_ (fF ?_ (fF ?_ (fF ?_ (fF ?_ (fF ?_ (fF ?_ (fN ?_ (fE 16 (fE 16 (fE 16 (fE 16 (fE 16 (aB 22 16 16 (by decide) (fE 16 (fE 16 (fE 16 (fE 16 (fE 16 (fE 16 (fE 16 (fE 16 (fE 16 (fE 16 (fE 16 (fE 16 (fE 16 (fE 16 (fE 16 (fE 16 (trivial)))))))))))))))))))))))))))))))))))))))) [] (fun q hq=>by cases hq) (fun hY=>absurd (hY 16 (by decide)) (by decide))
  ·refine fJ [(1,_),(55,_)] 15 [none,some 14] fun G a w S=>?_
   exact sMove (.slice a5 a2.1.length a6) S (wG 1 true 55 y y y a7) (.inl y) y y (lb y) fun a S=>leafL ⟨y,S⟩
  ·refine fJ [(56,_),(57,_),(55,_)] 0 [some 15,some 12,some 14] fun G a w S=>?_
   have S1:=S.mem
   have S1:=S1.shutR (r:=(rI .i64)) (T:=3) (v:=.slice b3 ([0,0,0]:List Int).length b4) (xs:=([0,0,0]:List Int)) 0 y
   refine sCallQ (X:=Unit) (f:=17) (vs:=[.slice a5 a2.1.length a6,.slice b3 ([0,0,0]:List Int).length b4]) (val:=fun _=>.bool ag) S (wG 1 true 55 y y y a7) y callee17 y (S1.quiet [1,0] y) (fun E1 w1 S1=>c_raddleref02_Same E1 w1 a2.1 (.slice a5 a2.1.length a6) ([0,0,0]:List Int) (.slice b3 ([0,0,0]:List Int).length b4) ag aI S1) y (lb y) fun _ a w S=>?_
   exact leafL ⟨y,S⟩
  ·refine fJ [(55,_),(58,_)] 1 [some 14,some 0] fun G a w S=>?_
   exact sPickT (.bool ag) S (wN y) y y a7 y y (lb y) fun a S=>leafL ⟨y,S⟩
  ·exact fM 2 (some 1) y y y y (.inl y) y y y
  ·refine fJ [(2,_),(60,_)] 3 [none,some 2] fun G a w S=>?_
   exact sMove (iv a2.2.1) S (wG 6 true 60 y y y ae) (.inl y) y y (lb y) fun a S=>leafL ⟨y,S⟩
  ·refine fJ [(61,_),(60,_)] 4 [some 3,some 2] fun G a w S=>?_
   exact sBin _ S (wG 6 true 60 y y y ae) y y y (bEq _ _ _ _ .i64 a2.2.1 1) y (lb y) fun a S=>leafL ⟨y,S⟩
  ·refine fJ [(60,_),(62,_)] 5 [some 2,some 4] fun G a w S=>?_
   exact sPickT (.bool (a2.2.1 == 1)) S (wN y) y y ae y y (lb y) fun a S=>leafL ⟨y,S⟩
  ·exact fM 6 (some 5) y y y y (.inl y) y y y
  ·refine fJ [(5,_),(64,_)] 7 [none,some 6] fun G a w S=>?_
   exact sMove (iv a0.2.1) S (wG 10 true 64 y y y ah) (.inl y) y y (lb y) fun a S=>leafL ⟨y,S⟩
  ·refine fJ [(65,_),(64,_)] 8 [some 7,some 6] fun G a w S=>?_
   exact sBin _ S (wG 10 true 64 y y y ah) y y y (bEq _ _ _ _ .i64 a0.2.1 1) y (lb y) fun a S=>leafL ⟨y,S⟩
  ·refine fJ [(64,_),(66,_)] 9 [some 6,some 8] fun G a w S=>?_
   exact sPickT (.bool (a0.2.1 == 1)) S (wN y) y y ah y y (lb y) fun a S=>leafL ⟨y,S⟩
  ·exact fM 10 (some 9) y y y y (.inl y) y y y
  ·refine fJ [(4,_),(68,_)] 11 [none,some 10] fun G a w S=>?_
   exact sLoadN (p:=aH) (off:=0) (T:=24) (vs:=[iv a0.1.W,iv a0.1.H,.slice a3 a0.1.Bits.length a4]) 1 [iv a0.1.W,iv a0.1.H,.slice a3 a0.1.Bits.length a4] S (wG 14 true 68 y y y a9) y y y y y y y (lb y) fun a S=>leafL ⟨y,S⟩
  refine ⟨_,[(68,.bool (a0.2.1 == 1))],y,(srcs_of [some 10] y y y),fun G a w S=>?_⟩
  refine sLit (r:=rB) (T:=4) (xs:=[true,true,true,true,true,true]) [(0,.bool true),(1,.bool true),(2,.bool true),(3,.bool true),(4,.bool true),(5,.bool true)] 6 [.bool true,.bool true,.bool true,.bool true,.bool true,.bool true] [.bool true,.bool true,.bool true,.bool true,.bool true,.bool true] (.bool false) 1 S (wG 14 true 68 y y y a9) y y Try.underlying22 y (by decide) (by decide) (by kernel_rfl) y (fun E1 w1 hE=>All.cons y (All.cons y (All.cons y (All.cons y (All.cons y (All.cons y (All.nil _ _ _))))))) y y (lb y) fun a w av aw S=>?_
  refine leafL ⟨y,_,_,.inl ⟨70,(.slice av [true,true,true,true,true,true].length aw),[(17,71,.agg #[iv 3,iv 2,.slice av [true,true,true,true,true,true].length aw]),(18,72,.bool ak),(19,73,.bool ak),(20,74,.bool ak),(21,75,.slice ab aa.1.length ac)],y,S,hz_of y,?_⟩⟩
  refine node_by (A:=anc_raddlelaw17_alive_0) 39 (by kernel_rfl) (by kernel_rfl) (by kernel_rfl) (by kernel_rfl) (by kernel_rfl) [17,18,19,20,21,16,4,5,6,7,8,9,10,11,12,13,14,15,3,0,1,2] (by kernel_rfl) (by decide) (by decide) (fD 16 (fD 16 (fD 16 (fY (fD 16 (fD 16 (fD 16 (fD 16 (fD 16 (fD 16 (fD 16 (fD 16 (fD 16 (fD 16 (fD 16 (fF ?_ (fY (fF ?_ (fF ?_ (fF ?_ (fF ?_ (fF ?_ (fN ?_ (fE 22 (fE 22 (fE 22 (fE 22 (fE 22 (fE 22 (fE 22 (fE 22 (fE 22 (fE 22 (fE 22 (fE 22 (fE 22 (fE 22 (fE 22 (fE 22 (trivial)))))))))))))))))))))))))))))))))))))))) [] (fun q hq=>by cases hq) (fun hY=>absurd (hY 22 (by decide)) (by decide))
  ·refine fJ [(4,_),(68,_)] 17 [none,some 16] fun G a w S=>?_
   exact sLoadN (p:=aH) (off:=0) (T:=24) (vs:=[iv a0.1.W,iv a0.1.H,.slice a3 a0.1.Bits.length a4]) 2 [iv a0.1.W,iv a0.1.H,.slice a3 a0.1.Bits.length a4] S (wG 14 true 68 y y y a9) y y y y y y y (lb y) fun a S=>leafL ⟨y,S⟩
  ·refine fJ [(70,_),(68,_)] 0 [some 5,some 16] fun G a w S=>?_
   exact sBuild [(0,iv 3),(1,iv 2),(2,.slice av [true,true,true,true,true,true].length aw)] [iv 3,iv 2,.slice av [true,true,true,true,true,true].length aw] S (wG 14 true 68 y y y a9) y y y y (lb y) fun a S=>leafL ⟨y,S⟩
  ·refine fJ [(69,_),(71,_),(68,_)] 1 [some 17,some 0,some 16] fun G a w S=>?_
   have S1:=S.mem
   have S1:=S1.learn (fRep r_api_Grid (.agg #[iv a0.1.W,iv a0.1.H,.slice a3 a0.1.Bits.length a4]) a0.1) ⟨_,y,S1.know (i:=2) (e:=fRep (rL rB) (.slice a3 a0.1.Bits.length a4) a0.1.Bits) y⟩
   have S1:=S1.shutR (r:=rB) (T:=4) (v:=.slice av [true,true,true,true,true,true].length aw) (xs:=[true,true,true,true,true,true]) 0 y
   have S1:=S1.learn (fRep r_api_Grid (.agg #[iv 3,iv 2,.slice av [true,true,true,true,true,true].length aw]) (api_Grid.mk 3 2 [true,true,true,true,true,true])) ⟨_,y,S1.know (i:=0) (e:=fRep (rL rB) (.slice av [true,true,true,true,true,true].length aw) [true,true,true,true,true,true]) y⟩
   refine sCallQ (X:=Unit) (f:=16) (vs:=[.agg #[iv a0.1.W,iv a0.1.H,.slice a3 a0.1.Bits.length a4],.agg #[iv 3,iv 2,.slice av [true,true,true,true,true,true].length aw]]) (val:=fun _=>.bool ak) S (wG 14 true 68 y y y a9) y callee16 y (S1.quiet [2,0] y) (fun E1 w1 S1=>c_raddleref01_Same E1 w1 a0.1 (.agg #[iv a0.1.W,iv a0.1.H,.slice a3 a0.1.Bits.length a4]) (api_Grid.mk 3 2 [true,true,true,true,true,true]) (.agg #[iv 3,iv 2,.slice av [true,true,true,true,true,true].length aw]) ak bk S1) y (lb y) fun _ a w S=>?_
   exact leafL ⟨y,S⟩
  ·refine fJ [(68,_),(72,_)] 2 [some 16,some 1] fun G a w S=>?_
   exact sPickT (.bool ak) S (wN y) y y a9 y y (lb y) fun a S=>leafL ⟨y,S⟩
  ·exact fM 3 (some 2) y y y y (.inl y) y y y
  ·refine fJ [(7,_),(74,_)] 4 [none,some 3] fun G a w S=>?_
   exact sMove (.slice ab aa.1.length ac) S (wG 20 true 74 y y y af) (.inl y) y y (lb y) fun a S=>leafL ⟨y,S⟩
  refine ⟨_,[(74,.bool ak)],y,(srcs_of [some 3] y y y),fun G a w S=>?_⟩
  refine sLit (r:=(rI .i64)) (T:=3) (xs:=([0,0,1]:List Int)) [(0,iv 0),(1,iv 0),(2,iv 1)] 3 [iv 0,iv 0,iv 1] [iv 0,iv 0,iv 1] (iv 0) 8 S (wG 20 true 74 y y y af) y y Try.underlying25 y (by decide) (by decide) (by kernel_rfl) y (fun E1 w1 hE=>All.cons y (All.cons y (All.cons y (All.nil _ _ _)))) y y (lb y) fun a w b5 ba S=>?_
  refine leafL ⟨y,_,_,.inl ⟨76,(.slice b5 ([0,0,1]:List Int).length ba),[(23,77,.bool aA),(24,78,.bool aA),(25,79,.bool aA),(26,80,iv aa.2.1),(27,81,.bool (aa.2.1 == 0)),(28,82,.bool (aa.2.1 == 0)),(29,83,.bool (aa.2.1 == 0)),(30,84,undef),(31,85,undef),(32,86,.bool false),(33,87,.bool false),(34,88,undef),(35,89,undef),(36,90,undef),(37,91,.bool false),(38,0,.bool false)],y,S,hz_of y,?_⟩⟩
  refine node_by (A:=anc_raddlelaw17_alive_0) 39 (by kernel_rfl) (by kernel_rfl) (by kernel_rfl) (by kernel_rfl) (by kernel_rfl) [23,24,25,26,27,28,29,30,31,32,33,34,35,36,37,38,22,17,18,19,20,21,16,4,5,6,7,8,9,10,11,12,13,14,15,3,0,1,2] (by kernel_rfl) (by decide) (by decide) (fD 22 (fD 22 (fD 22 (fY (fD 22 (fD 22 (fD 22 (fD 22 (fD 22 (fD 22 (fD 22 (fD 22 (fD 22 (fD 22 (fD 22 (fD 22 (fY (fD 22 (fD 22 (fD 22 (fD 22 (fF ?_ (fY (fF ?_ (fF ?_ (fF ?_ (fF ?_ (fF ?_ (fF ?_ (fF ?_ (fF ?_ (fF ?_ (fF ?_ (fF ?_ (fF ?_ (fF ?_ (fF ?_ (fF ?_ (fF ?_ (trivial)))))))))))))))))))))))))))))))))))))))) [(0,.bool false)] (fin_of [some 15] y (by kernel_rfl) (by kernel_rfl)) (fun _ a w S=>?_)
  ·refine fJ [(7,_),(74,_)] 21 [none,some 20] fun G a w S=>?_
   exact sMove (.slice ab aa.1.length ac) S (wG 20 true 74 y y y af) (.inl y) y y (lb y) fun a S=>leafL ⟨y,S⟩
  ·refine fJ [(75,_),(76,_),(74,_)] 0 [some 21,some 16,some 20] fun G a w S=>?_
   have S1:=S.mem
   have S1:=S1.shutR (r:=(rI .i64)) (T:=3) (v:=.slice b5 ([0,0,1]:List Int).length ba) (xs:=([0,0,1]:List Int)) 0 y
   refine sCallQ (X:=Unit) (f:=17) (vs:=[.slice ab aa.1.length ac,.slice b5 ([0,0,1]:List Int).length ba]) (val:=fun _=>.bool aA) S (wG 20 true 74 y y y af) y callee17 y (S1.quiet [2,0] y) (fun E1 w1 S1=>c_raddleref02_Same E1 w1 aa.1 (.slice ab aa.1.length ac) ([0,0,1]:List Int) (.slice b5 ([0,0,1]:List Int).length ba) aA bu S1) y (lb y) fun _ a w S=>?_
   exact leafL ⟨y,S⟩
  ·refine fJ [(74,_),(77,_)] 1 [some 20,some 0] fun G a w S=>?_
   exact sPickT (.bool aA) S (wN y) y y af y y (lb y) fun a S=>leafL ⟨y,S⟩
  ·exact fM 2 (some 1) y y y y (.inl y) y y y
  ·refine fJ [(8,_),(79,_)] 3 [none,some 2] fun G a w S=>?_
   exact sMove (iv aa.2.1) S (wG 25 true 79 y y y az) (.inl y) y y (lb y) fun a S=>leafL ⟨y,S⟩
  ·refine fJ [(80,_),(79,_)] 4 [some 3,some 2] fun G a w S=>?_
   exact sBin _ S (wG 25 true 79 y y y az) y y y (bEq _ _ _ _ .i64 aa.2.1 0) y (lb y) fun a S=>leafL ⟨y,S⟩
  ·refine fJ [(79,_),(81,_)] 5 [some 2,some 4] fun G a w S=>?_
   exact sPickT (.bool (aa.2.1 == 0)) S (wN y) y y az y y (lb y) fun a S=>leafL ⟨y,S⟩
  ·exact fM 6 (some 5) y y y y (.inl y) y y y
  ·refine fJ [(11,_),(83,_)] 7 [none,some 6] fun G a w S=>?_
   exact sSk S y y y aC y y fun a S=>leafL ⟨y,S⟩
  ·refine fJ [(84,_),(83,_)] 8 [some 7,some 6] fun G a w S=>?_
   exact sSk S y y y aC y y fun a S=>leafL ⟨y,S⟩
  ·refine fJ [(83,_),(85,_)] 9 [some 6,some 8] fun G a w S=>?_
   exact sPickF (.bool false) S (wN y) y y aC y y (lb y) fun a S=>leafL ⟨y,S⟩
  ·exact fM 10 (some 9) y y y y (.inl y) y y y
  ·refine fJ [(10,_),(87,_)] 11 [none,some 10] fun G a w S=>?_
   exact sSk S y y y y y y fun a S=>leafL ⟨y,S⟩
  ·refine fJ [(87,_)] 12 [some 10] fun G a w S=>?_
   exact sSk S y y y y y y fun a S=>leafL ⟨y,S⟩
  ·refine fJ [(88,_),(89,_),(87,_)] 13 [some 11,some 12,some 10] fun G a w S=>?_
   exact sSk S y y y y y y fun a S=>leafL ⟨y,S⟩
  ·refine fJ [(87,_),(90,_)] 14 [some 10,some 13] fun G a w S=>?_
   exact sPickF (.bool false) S (wN y) y y y y y (lb y) fun a S=>leafL ⟨y,S⟩
  ·exact fM 15 (some 14) y y y y (.inr y) y y y
  exact leafT (⟨false,Option.some.inj h,S.fix [] [] (by decide) y y y⟩)
 rcases iS h with ⟨aG,h⟩ | ⟨aG,h⟩
 rotate_left
 ·refine sDraw (nf:=[3,16,22]) (W:=[(0,54,.bool ao),(1,55,.bool ao),(2,56,.slice a5 a2.1.length a6)]) y S ?_
  refine node_by (A:=anc_raddlelaw17_alive_0) 39 (by kernel_rfl) (by kernel_rfl) (by kernel_rfl) (by kernel_rfl) (by kernel_rfl) [0,1,2] (by kernel_rfl) (by decide) (by decide) (fF ?_ (fF ?_ (fF ?_ (fN ?_ (fE 3 (fE 3 (fE 3 (fE 3 (fE 3 (fE 3 (fE 3 (fE 3 (fE 3 (fE 3 (fE 3 (fE 3 (aB 16 22 3 (by decide) (fE 3 (fE 3 (fE 3 (fE 3 (fE 3 (aB 22 16 3 (by decide) (fE 3 (fE 3 (fE 3 (fE 3 (fE 3 (fE 3 (fE 3 (fE 3 (fE 3 (fE 3 (fE 3 (fE 3 (fE 3 (fE 3 (fE 3 (fE 3 (trivial)))))))))))))))))))))))))))))))))))))))) [] (fun q hq=>by cases hq) (fun hY=>absurd (hY 3 (by decide)) (by decide))
  ·exact fM 0 none y y y y (.inl y) y y y
  ·exact fM 1 (some 0) y y y y (.inl y) y y y
  ·refine fJ [(1,_),(55,_)] 2 [none,some 1] fun G a w S=>?_
   exact sMove (.slice a5 a2.1.length a6) S (wG 1 true 55 y y y a7) (.inl y) y y (lb y) fun a S=>leafL ⟨y,S⟩
  refine ⟨_,[(55,.bool ao)],y,(srcs_of [some 1] y y y),fun G a w S=>?_⟩
  refine sLit (r:=(rI .i64)) (T:=3) (xs:=([0,0,0]:List Int)) [(0,iv 0),(1,iv 0),(2,iv 0)] 3 [iv 0,iv 0,iv 0] [iv 0,iv 0,iv 0] (iv 0) 8 S (wG 1 true 55 y y y a7) y y Try.underlying25 y (by decide) (by decide) (by kernel_rfl) y (fun E1 w1 hE=>All.cons y (All.cons y (All.cons y (All.nil _ _ _)))) y y (lb y) fun a w bb bc S=>?_
  refine leafL ⟨y,_,_,.inl ⟨57,(.slice bb ([0,0,0]:List Int).length bc),[(4,58,.bool ag),(5,59,.bool ag),(6,60,.bool ag),(7,61,iv a2.2.1),(8,62,.bool (a2.2.1 == 1)),(9,63,.bool (a2.2.1 == 1)),(10,64,.bool (a2.2.1 == 1)),(11,65,iv a0.2.1),(12,66,.bool (a0.2.1 == 1)),(13,67,.bool (a0.2.1 == 1)),(14,68,.bool (a0.2.1 == 1)),(15,69,.agg #[iv a0.1.W,iv a0.1.H,.slice a3 a0.1.Bits.length a4])],y,S,hz_of y,?_⟩⟩
  refine node_by (A:=anc_raddlelaw17_alive_0) 39 (by kernel_rfl) (by kernel_rfl) (by kernel_rfl) (by kernel_rfl) (by kernel_rfl) [4,5,6,7,8,9,10,11,12,13,14,15,3,0,1,2] (by kernel_rfl) (by decide) (by decide) (fD 3 (fD 3 (fF ?_ (fY (fF ?_ (fF ?_ (fF ?_ (fF ?_ (fF ?_ (fF ?_ (fF ?_ (fF ?_ (fF ?_ (fF ?_ (fF ?_ (fF ?_ (fN ?_ (fE 16 (fE 16 (fE 16 (fE 16 (fE 16 (aB 22 16 16 (by decide) (fE 16 (fE 16 (fE 16 (fE 16 (fE 16 (fE 16 (fE 16 (fE 16 (fE 16 (fE 16 (fE 16 (fE 16 (fE 16 (fE 16 (fE 16 (fE 16 (trivial)))))))))))))))))))))))))))))))))))))))) [] (fun q hq=>by cases hq) (fun hY=>absurd (hY 16 (by decide)) (by decide))
  ·refine fJ [(1,_),(55,_)] 15 [none,some 14] fun G a w S=>?_
   exact sMove (.slice a5 a2.1.length a6) S (wG 1 true 55 y y y a7) (.inl y) y y (lb y) fun a S=>leafL ⟨y,S⟩
  ·refine fJ [(56,_),(57,_),(55,_)] 0 [some 15,some 12,some 14] fun G a w S=>?_
   have S1:=S.mem
   have S1:=S1.shutR (r:=(rI .i64)) (T:=3) (v:=.slice bb ([0,0,0]:List Int).length bc) (xs:=([0,0,0]:List Int)) 0 y
   refine sCallQ (X:=Unit) (f:=17) (vs:=[.slice a5 a2.1.length a6,.slice bb ([0,0,0]:List Int).length bc]) (val:=fun _=>.bool ag) S (wG 1 true 55 y y y a7) y callee17 y (S1.quiet [1,0] y) (fun E1 w1 S1=>c_raddleref02_Same E1 w1 a2.1 (.slice a5 a2.1.length a6) ([0,0,0]:List Int) (.slice bb ([0,0,0]:List Int).length bc) ag aI S1) y (lb y) fun _ a w S=>?_
   exact leafL ⟨y,S⟩
  ·refine fJ [(55,_),(58,_)] 1 [some 14,some 0] fun G a w S=>?_
   exact sPickT (.bool ag) S (wN y) y y a7 y y (lb y) fun a S=>leafL ⟨y,S⟩
  ·exact fM 2 (some 1) y y y y (.inl y) y y y
  ·refine fJ [(2,_),(60,_)] 3 [none,some 2] fun G a w S=>?_
   exact sMove (iv a2.2.1) S (wG 6 true 60 y y y ae) (.inl y) y y (lb y) fun a S=>leafL ⟨y,S⟩
  ·refine fJ [(61,_),(60,_)] 4 [some 3,some 2] fun G a w S=>?_
   exact sBin _ S (wG 6 true 60 y y y ae) y y y (bEq _ _ _ _ .i64 a2.2.1 1) y (lb y) fun a S=>leafL ⟨y,S⟩
  ·refine fJ [(60,_),(62,_)] 5 [some 2,some 4] fun G a w S=>?_
   exact sPickT (.bool (a2.2.1 == 1)) S (wN y) y y ae y y (lb y) fun a S=>leafL ⟨y,S⟩
  ·exact fM 6 (some 5) y y y y (.inl y) y y y
  ·refine fJ [(5,_),(64,_)] 7 [none,some 6] fun G a w S=>?_
   exact sMove (iv a0.2.1) S (wG 10 true 64 y y y ah) (.inl y) y y (lb y) fun a S=>leafL ⟨y,S⟩
  ·refine fJ [(65,_),(64,_)] 8 [some 7,some 6] fun G a w S=>?_
   exact sBin _ S (wG 10 true 64 y y y ah) y y y (bEq _ _ _ _ .i64 a0.2.1 1) y (lb y) fun a S=>leafL ⟨y,S⟩
  ·refine fJ [(64,_),(66,_)] 9 [some 6,some 8] fun G a w S=>?_
   exact sPickT (.bool (a0.2.1 == 1)) S (wN y) y y ah y y (lb y) fun a S=>leafL ⟨y,S⟩
  ·exact fM 10 (some 9) y y y y (.inl y) y y y
  ·refine fJ [(4,_),(68,_)] 11 [none,some 10] fun G a w S=>?_
   exact sLoadN (p:=aH) (off:=0) (T:=24) (vs:=[iv a0.1.W,iv a0.1.H,.slice a3 a0.1.Bits.length a4]) 1 [iv a0.1.W,iv a0.1.H,.slice a3 a0.1.Bits.length a4] S (wG 14 true 68 y y y a9) y y y y y y y (lb y) fun a S=>leafL ⟨y,S⟩
  refine ⟨_,[(68,.bool (a0.2.1 == 1))],y,(srcs_of [some 10] y y y),fun G a w S=>?_⟩
  refine sLit (r:=rB) (T:=4) (xs:=[true,true,true,true,true,true]) [(0,.bool true),(1,.bool true),(2,.bool true),(3,.bool true),(4,.bool true),(5,.bool true)] 6 [.bool true,.bool true,.bool true,.bool true,.bool true,.bool true] [.bool true,.bool true,.bool true,.bool true,.bool true,.bool true] (.bool false) 1 S (wG 14 true 68 y y y a9) y y Try.underlying22 y (by decide) (by decide) (by kernel_rfl) y (fun E1 w1 hE=>All.cons y (All.cons y (All.cons y (All.cons y (All.cons y (All.cons y (All.nil _ _ _))))))) y y (lb y) fun a w ax ay S=>?_
  refine leafL ⟨y,_,_,.inl ⟨70,(.slice ax [true,true,true,true,true,true].length ay),[(17,71,.agg #[iv 3,iv 2,.slice ax [true,true,true,true,true,true].length ay]),(18,72,.bool ak),(19,73,.bool ak),(20,74,.bool ak),(21,75,.slice ab aa.1.length ac)],y,S,hz_of y,?_⟩⟩
  refine node_by (A:=anc_raddlelaw17_alive_0) 39 (by kernel_rfl) (by kernel_rfl) (by kernel_rfl) (by kernel_rfl) (by kernel_rfl) [17,18,19,20,21,16,4,5,6,7,8,9,10,11,12,13,14,15,3,0,1,2] (by kernel_rfl) (by decide) (by decide) (fD 16 (fD 16 (fD 16 (fY (fD 16 (fD 16 (fD 16 (fD 16 (fD 16 (fD 16 (fD 16 (fD 16 (fD 16 (fD 16 (fD 16 (fF ?_ (fY (fF ?_ (fF ?_ (fF ?_ (fF ?_ (fF ?_ (fN ?_ (fE 22 (fE 22 (fE 22 (fE 22 (fE 22 (fE 22 (fE 22 (fE 22 (fE 22 (fE 22 (fE 22 (fE 22 (fE 22 (fE 22 (fE 22 (fE 22 (trivial)))))))))))))))))))))))))))))))))))))))) [] (fun q hq=>by cases hq) (fun hY=>absurd (hY 22 (by decide)) (by decide))
  ·refine fJ [(4,_),(68,_)] 17 [none,some 16] fun G a w S=>?_
   exact sLoadN (p:=aH) (off:=0) (T:=24) (vs:=[iv a0.1.W,iv a0.1.H,.slice a3 a0.1.Bits.length a4]) 2 [iv a0.1.W,iv a0.1.H,.slice a3 a0.1.Bits.length a4] S (wG 14 true 68 y y y a9) y y y y y y y (lb y) fun a S=>leafL ⟨y,S⟩
  ·refine fJ [(70,_),(68,_)] 0 [some 5,some 16] fun G a w S=>?_
   exact sBuild [(0,iv 3),(1,iv 2),(2,.slice ax [true,true,true,true,true,true].length ay)] [iv 3,iv 2,.slice ax [true,true,true,true,true,true].length ay] S (wG 14 true 68 y y y a9) y y y y (lb y) fun a S=>leafL ⟨y,S⟩
  ·refine fJ [(69,_),(71,_),(68,_)] 1 [some 17,some 0,some 16] fun G a w S=>?_
   have S1:=S.mem
   have S1:=S1.learn (fRep r_api_Grid (.agg #[iv a0.1.W,iv a0.1.H,.slice a3 a0.1.Bits.length a4]) a0.1) ⟨_,y,S1.know (i:=2) (e:=fRep (rL rB) (.slice a3 a0.1.Bits.length a4) a0.1.Bits) y⟩
   have S1:=S1.shutR (r:=rB) (T:=4) (v:=.slice ax [true,true,true,true,true,true].length ay) (xs:=[true,true,true,true,true,true]) 0 y
   have S1:=S1.learn (fRep r_api_Grid (.agg #[iv 3,iv 2,.slice ax [true,true,true,true,true,true].length ay]) (api_Grid.mk 3 2 [true,true,true,true,true,true])) ⟨_,y,S1.know (i:=0) (e:=fRep (rL rB) (.slice ax [true,true,true,true,true,true].length ay) [true,true,true,true,true,true]) y⟩
   refine sCallQ (X:=Unit) (f:=16) (vs:=[.agg #[iv a0.1.W,iv a0.1.H,.slice a3 a0.1.Bits.length a4],.agg #[iv 3,iv 2,.slice ax [true,true,true,true,true,true].length ay]]) (val:=fun _=>.bool ak) S (wG 14 true 68 y y y a9) y callee16 y (S1.quiet [2,0] y) (fun E1 w1 S1=>c_raddleref01_Same E1 w1 a0.1 (.agg #[iv a0.1.W,iv a0.1.H,.slice a3 a0.1.Bits.length a4]) (api_Grid.mk 3 2 [true,true,true,true,true,true]) (.agg #[iv 3,iv 2,.slice ax [true,true,true,true,true,true].length ay]) ak bk S1) y (lb y) fun _ a w S=>?_
   exact leafL ⟨y,S⟩
  ·refine fJ [(68,_),(72,_)] 2 [some 16,some 1] fun G a w S=>?_
   exact sPickT (.bool ak) S (wN y) y y a9 y y (lb y) fun a S=>leafL ⟨y,S⟩
  ·exact fM 3 (some 2) y y y y (.inl y) y y y
  ·refine fJ [(7,_),(74,_)] 4 [none,some 3] fun G a w S=>?_
   exact sMove (.slice ab aa.1.length ac) S (wG 20 true 74 y y y af) (.inl y) y y (lb y) fun a S=>leafL ⟨y,S⟩
  refine ⟨_,[(74,.bool ak)],y,(srcs_of [some 3] y y y),fun G a w S=>?_⟩
  refine sLit (r:=(rI .i64)) (T:=3) (xs:=([0,0,1]:List Int)) [(0,iv 0),(1,iv 0),(2,iv 1)] 3 [iv 0,iv 0,iv 1] [iv 0,iv 0,iv 1] (iv 0) 8 S (wG 20 true 74 y y y af) y y Try.underlying25 y (by decide) (by decide) (by kernel_rfl) y (fun E1 w1 hE=>All.cons y (All.cons y (All.cons y (All.nil _ _ _)))) y y (lb y) fun a w bf bg S=>?_
  refine leafL ⟨y,_,_,.inl ⟨76,(.slice bf ([0,0,1]:List Int).length bg),[(23,77,.bool aA),(24,78,.bool aA),(25,79,.bool aA),(26,80,iv aa.2.1),(27,81,.bool (aa.2.1 == 0)),(28,82,.bool (aa.2.1 == 0)),(29,83,.bool (aa.2.1 == 0)),(30,84,iv a8.2.1),(31,85,.bool (a8.2.1 == 1)),(32,86,.bool (a8.2.1 == 1)),(33,87,.bool (a8.2.1 == 1)),(34,88,undef),(35,89,undef),(36,90,undef),(37,91,.bool false),(38,0,.bool false)],y,S,hz_of y,?_⟩⟩
  refine node_by (A:=anc_raddlelaw17_alive_0) 39 (by kernel_rfl) (by kernel_rfl) (by kernel_rfl) (by kernel_rfl) (by kernel_rfl) [23,24,25,26,27,28,29,30,31,32,33,34,35,36,37,38,22,17,18,19,20,21,16,4,5,6,7,8,9,10,11,12,13,14,15,3,0,1,2] (by kernel_rfl) (by decide) (by decide) (fD 22 (fD 22 (fD 22 (fY (fD 22 (fD 22 (fD 22 (fD 22 (fD 22 (fD 22 (fD 22 (fD 22 (fD 22 (fD 22 (fD 22 (fD 22 (fY (fD 22 (fD 22 (fD 22 (fD 22 (fF ?_ (fY (fF ?_ (fF ?_ (fF ?_ (fF ?_ (fF ?_ (fF ?_ (fF ?_ (fF ?_ (fF ?_ (fF ?_ (fF ?_ (fF ?_ (fF ?_ (fF ?_ (fF ?_ (fF ?_ (trivial)))))))))))))))))))))))))))))))))))))))) [(0,.bool false)] (fin_of [some 15] y (by kernel_rfl) (by kernel_rfl)) (fun _ a w S=>?_)
  ·refine fJ [(7,_),(74,_)] 21 [none,some 20] fun G a w S=>?_
   exact sMove (.slice ab aa.1.length ac) S (wG 20 true 74 y y y af) (.inl y) y y (lb y) fun a S=>leafL ⟨y,S⟩
  ·refine fJ [(75,_),(76,_),(74,_)] 0 [some 21,some 16,some 20] fun G a w S=>?_
   have S1:=S.mem
   have S1:=S1.shutR (r:=(rI .i64)) (T:=3) (v:=.slice bf ([0,0,1]:List Int).length bg) (xs:=([0,0,1]:List Int)) 0 y
   refine sCallQ (X:=Unit) (f:=17) (vs:=[.slice ab aa.1.length ac,.slice bf ([0,0,1]:List Int).length bg]) (val:=fun _=>.bool aA) S (wG 20 true 74 y y y af) y callee17 y (S1.quiet [2,0] y) (fun E1 w1 S1=>c_raddleref02_Same E1 w1 aa.1 (.slice ab aa.1.length ac) ([0,0,1]:List Int) (.slice bf ([0,0,1]:List Int).length bg) aA bu S1) y (lb y) fun _ a w S=>?_
   exact leafL ⟨y,S⟩
  ·refine fJ [(74,_),(77,_)] 1 [some 20,some 0] fun G a w S=>?_
   exact sPickT (.bool aA) S (wN y) y y af y y (lb y) fun a S=>leafL ⟨y,S⟩
  ·exact fM 2 (some 1) y y y y (.inl y) y y y
  ·refine fJ [(8,_),(79,_)] 3 [none,some 2] fun G a w S=>?_
   exact sMove (iv aa.2.1) S (wG 25 true 79 y y y az) (.inl y) y y (lb y) fun a S=>leafL ⟨y,S⟩
  ·refine fJ [(80,_),(79,_)] 4 [some 3,some 2] fun G a w S=>?_
   exact sBin _ S (wG 25 true 79 y y y az) y y y (bEq _ _ _ _ .i64 aa.2.1 0) y (lb y) fun a S=>leafL ⟨y,S⟩
  ·refine fJ [(79,_),(81,_)] 5 [some 2,some 4] fun G a w S=>?_
   exact sPickT (.bool (aa.2.1 == 0)) S (wN y) y y az y y (lb y) fun a S=>leafL ⟨y,S⟩
  ·exact fM 6 (some 5) y y y y (.inl y) y y y
  ·refine fJ [(11,_),(83,_)] 7 [none,some 6] fun G a w S=>?_
   exact sMove (iv a8.2.1) S (wG 29 true 83 y y y aC) (.inl y) y y (lb y) fun a S=>leafL ⟨y,S⟩
  ·refine fJ [(84,_),(83,_)] 8 [some 7,some 6] fun G a w S=>?_
   exact sBin _ S (wG 29 true 83 y y y aC) y y y (bEq _ _ _ _ .i64 a8.2.1 1) y (lb y) fun a S=>leafL ⟨y,S⟩
  ·refine fJ [(83,_),(85,_)] 9 [some 6,some 8] fun G a w S=>?_
   exact sPickT (.bool (a8.2.1 == 1)) S (wN y) y y aC y y (lb y) fun a S=>leafL ⟨y,S⟩
  ·exact fM 10 (some 9) y y y y (.inl y) y y y
  ·refine fJ [(10,_),(87,_)] 11 [none,some 10] fun G a w S=>?_
   exact sSk S y y y aG y y fun a S=>leafL ⟨y,S⟩
  ·refine fJ [(87,_)] 12 [some 10] fun G a w S=>?_
   exact sSk S y y y aG y y fun a S=>leafL ⟨y,S⟩
  ·refine fJ [(88,_),(89,_),(87,_)] 13 [some 11,some 12,some 10] fun G a w S=>?_
   exact sSk S y y y aG y y fun a S=>leafL ⟨y,S⟩
  ·refine fJ [(87,_),(90,_)] 14 [some 10,some 13] fun G a w S=>?_
   exact sPickF (.bool false) S (wN y) y y aG y y (lb y) fun a S=>leafL ⟨y,S⟩
  ·exact fM 15 (some 14) y y y y (.inr y) y y y
  exact leafT (⟨false,Option.some.inj h,S.fix [] [] (by decide) y y y⟩)
 obtain ⟨aM,bZ,h⟩:=bS h
 obtain ⟨bv,c7,h⟩:=bS h
 refine sDraw (nf:=[3,16,22,35]) (W:=[(0,54,.bool ao),(1,55,.bool ao),(2,56,.slice a5 a2.1.length a6)]) y S ?_
 refine node_by (A:=anc_raddlelaw17_alive_0) 39 (by kernel_rfl) (by kernel_rfl) (by kernel_rfl) (by kernel_rfl) (by kernel_rfl) [0,1,2] (by kernel_rfl) (by decide) (by decide) (fF ?_ (fF ?_ (fF ?_ (fN ?_ (fE 3 (fE 3 (fE 3 (fE 3 (fE 3 (fE 3 (fE 3 (fE 3 (fE 3 (fE 3 (fE 3 (fE 3 (aB 16 22 3 (by decide) (fE 3 (fE 3 (fE 3 (fE 3 (fE 3 (aB 22 16 3 (by decide) (fE 3 (fE 3 (fE 3 (fE 3 (fE 3 (fE 3 (fE 3 (fE 3 (fE 3 (fE 3 (fE 3 (fE 3 (aB 35 3 3 (by decide) (fE 3 (fE 3 (fE 3 (trivial)))))))))))))))))))))))))))))))))))))))) [] (fun q hq=>by cases hq) (fun hY=>absurd (hY 3 (by decide)) (by decide))
 ·exact fM 0 none y y y y (.inl y) y y y
 ·exact fM 1 (some 0) y y y y (.inl y) y y y
 ·refine fJ [(1,_),(55,_)] 2 [none,some 1] fun G a w S=>?_
  exact sMove (.slice a5 a2.1.length a6) S (wG 1 true 55 y y y a7) (.inl y) y y (lb y) fun a S=>leafL ⟨y,S⟩
 refine ⟨_,[(55,.bool ao)],y,(srcs_of [some 1] y y y),fun G a w S=>?_⟩
 refine sLit (r:=(rI .i64)) (T:=3) (xs:=([0,0,0]:List Int)) [(0,iv 0),(1,iv 0),(2,iv 0)] 3 [iv 0,iv 0,iv 0] [iv 0,iv 0,iv 0] (iv 0) 8 S (wG 1 true 55 y y y a7) y y Try.underlying25 y (by decide) (by decide) (by kernel_rfl) y (fun E1 w1 hE=>All.cons y (All.cons y (All.cons y (All.nil _ _ _)))) y y (lb y) fun a w bl bm S=>?_
 refine leafL ⟨y,_,_,.inl ⟨57,(.slice bl ([0,0,0]:List Int).length bm),[(4,58,.bool ag),(5,59,.bool ag),(6,60,.bool ag),(7,61,iv a2.2.1),(8,62,.bool (a2.2.1 == 1)),(9,63,.bool (a2.2.1 == 1)),(10,64,.bool (a2.2.1 == 1)),(11,65,iv a0.2.1),(12,66,.bool (a0.2.1 == 1)),(13,67,.bool (a0.2.1 == 1)),(14,68,.bool (a0.2.1 == 1)),(15,69,.agg #[iv a0.1.W,iv a0.1.H,.slice a3 a0.1.Bits.length a4])],y,S,hz_of y,?_⟩⟩
 refine node_by (A:=anc_raddlelaw17_alive_0) 39 (by kernel_rfl) (by kernel_rfl) (by kernel_rfl) (by kernel_rfl) (by kernel_rfl) [4,5,6,7,8,9,10,11,12,13,14,15,3,0,1,2] (by kernel_rfl) (by decide) (by decide) (fD 3 (fD 3 (fF ?_ (fY (fF ?_ (fF ?_ (fF ?_ (fF ?_ (fF ?_ (fF ?_ (fF ?_ (fF ?_ (fF ?_ (fF ?_ (fF ?_ (fF ?_ (fN ?_ (fE 16 (fE 16 (fE 16 (fE 16 (fE 16 (aB 22 16 16 (by decide) (fE 16 (fE 16 (fE 16 (fE 16 (fE 16 (fE 16 (fE 16 (fE 16 (fE 16 (fE 16 (fE 16 (fE 16 (aB 35 3 16 (by decide) (fE 16 (fE 16 (fE 16 (trivial)))))))))))))))))))))))))))))))))))))))) [] (fun q hq=>by cases hq) (fun hY=>absurd (hY 16 (by decide)) (by decide))
 ·refine fJ [(1,_),(55,_)] 15 [none,some 14] fun G a w S=>?_
  exact sMove (.slice a5 a2.1.length a6) S (wG 1 true 55 y y y a7) (.inl y) y y (lb y) fun a S=>leafL ⟨y,S⟩
 ·refine fJ [(56,_),(57,_),(55,_)] 0 [some 15,some 12,some 14] fun G a w S=>?_
  have S1:=S.mem
  have S1:=S1.shutR (r:=(rI .i64)) (T:=3) (v:=.slice bl ([0,0,0]:List Int).length bm) (xs:=([0,0,0]:List Int)) 0 y
  refine sCallQ (X:=Unit) (f:=17) (vs:=[.slice a5 a2.1.length a6,.slice bl ([0,0,0]:List Int).length bm]) (val:=fun _=>.bool ag) S (wG 1 true 55 y y y a7) y callee17 y (S1.quiet [1,0] y) (fun E1 w1 S1=>c_raddleref02_Same E1 w1 a2.1 (.slice a5 a2.1.length a6) ([0,0,0]:List Int) (.slice bl ([0,0,0]:List Int).length bm) ag aI S1) y (lb y) fun _ a w S=>?_
  exact leafL ⟨y,S⟩
 ·refine fJ [(55,_),(58,_)] 1 [some 14,some 0] fun G a w S=>?_
  exact sPickT (.bool ag) S (wN y) y y a7 y y (lb y) fun a S=>leafL ⟨y,S⟩
 ·exact fM 2 (some 1) y y y y (.inl y) y y y
 ·refine fJ [(2,_),(60,_)] 3 [none,some 2] fun G a w S=>?_
  exact sMove (iv a2.2.1) S (wG 6 true 60 y y y ae) (.inl y) y y (lb y) fun a S=>leafL ⟨y,S⟩
 ·refine fJ [(61,_),(60,_)] 4 [some 3,some 2] fun G a w S=>?_
  exact sBin _ S (wG 6 true 60 y y y ae) y y y (bEq _ _ _ _ .i64 a2.2.1 1) y (lb y) fun a S=>leafL ⟨y,S⟩
 ·refine fJ [(60,_),(62,_)] 5 [some 2,some 4] fun G a w S=>?_
  exact sPickT (.bool (a2.2.1 == 1)) S (wN y) y y ae y y (lb y) fun a S=>leafL ⟨y,S⟩
 ·exact fM 6 (some 5) y y y y (.inl y) y y y
 ·refine fJ [(5,_),(64,_)] 7 [none,some 6] fun G a w S=>?_
  exact sMove (iv a0.2.1) S (wG 10 true 64 y y y ah) (.inl y) y y (lb y) fun a S=>leafL ⟨y,S⟩
 ·refine fJ [(65,_),(64,_)] 8 [some 7,some 6] fun G a w S=>?_
  exact sBin _ S (wG 10 true 64 y y y ah) y y y (bEq _ _ _ _ .i64 a0.2.1 1) y (lb y) fun a S=>leafL ⟨y,S⟩
 ·refine fJ [(64,_),(66,_)] 9 [some 6,some 8] fun G a w S=>?_
  exact sPickT (.bool (a0.2.1 == 1)) S (wN y) y y ah y y (lb y) fun a S=>leafL ⟨y,S⟩
 ·exact fM 10 (some 9) y y y y (.inl y) y y y
 ·refine fJ [(4,_),(68,_)] 11 [none,some 10] fun G a w S=>?_
  exact sLoadN (p:=aH) (off:=0) (T:=24) (vs:=[iv a0.1.W,iv a0.1.H,.slice a3 a0.1.Bits.length a4]) 1 [iv a0.1.W,iv a0.1.H,.slice a3 a0.1.Bits.length a4] S (wG 14 true 68 y y y a9) y y y y y y y (lb y) fun a S=>leafL ⟨y,S⟩
 refine ⟨_,[(68,.bool (a0.2.1 == 1))],y,(srcs_of [some 10] y y y),fun G a w S=>?_⟩
 refine sLit (r:=rB) (T:=4) (xs:=[true,true,true,true,true,true]) [(0,.bool true),(1,.bool true),(2,.bool true),(3,.bool true),(4,.bool true),(5,.bool true)] 6 [.bool true,.bool true,.bool true,.bool true,.bool true,.bool true] [.bool true,.bool true,.bool true,.bool true,.bool true,.bool true] (.bool false) 1 S (wG 14 true 68 y y y a9) y y Try.underlying22 y (by decide) (by decide) (by kernel_rfl) y (fun E1 w1 hE=>All.cons y (All.cons y (All.cons y (All.cons y (All.cons y (All.cons y (All.nil _ _ _))))))) y y (lb y) fun a w al am S=>?_
 refine leafL ⟨y,_,_,.inl ⟨70,(.slice al [true,true,true,true,true,true].length am),[(17,71,.agg #[iv 3,iv 2,.slice al [true,true,true,true,true,true].length am]),(18,72,.bool ak),(19,73,.bool ak),(20,74,.bool ak),(21,75,.slice ab aa.1.length ac)],y,S,hz_of y,?_⟩⟩
 refine node_by (A:=anc_raddlelaw17_alive_0) 39 (by kernel_rfl) (by kernel_rfl) (by kernel_rfl) (by kernel_rfl) (by kernel_rfl) [17,18,19,20,21,16,4,5,6,7,8,9,10,11,12,13,14,15,3,0,1,2] (by kernel_rfl) (by decide) (by decide) (fD 16 (fD 16 (fD 16 (fY (fD 16 (fD 16 (fD 16 (fD 16 (fD 16 (fD 16 (fD 16 (fD 16 (fD 16 (fD 16 (fD 16 (fF ?_ (fY (fF ?_ (fF ?_ (fF ?_ (fF ?_ (fF ?_ (fN ?_ (fE 22 (fE 22 (fE 22 (fE 22 (fE 22 (fE 22 (fE 22 (fE 22 (fE 22 (fE 22 (fE 22 (fE 22 (aB 35 3 22 (by decide) (fE 22 (fE 22 (fE 22 (trivial)))))))))))))))))))))))))))))))))))))))) [] (fun q hq=>by cases hq) (fun hY=>absurd (hY 22 (by decide)) (by decide))
 ·refine fJ [(4,_),(68,_)] 17 [none,some 16] fun G a w S=>?_
  exact sLoadN (p:=aH) (off:=0) (T:=24) (vs:=[iv a0.1.W,iv a0.1.H,.slice a3 a0.1.Bits.length a4]) 2 [iv a0.1.W,iv a0.1.H,.slice a3 a0.1.Bits.length a4] S (wG 14 true 68 y y y a9) y y y y y y y (lb y) fun a S=>leafL ⟨y,S⟩
 ·refine fJ [(70,_),(68,_)] 0 [some 5,some 16] fun G a w S=>?_
  exact sBuild [(0,iv 3),(1,iv 2),(2,.slice al [true,true,true,true,true,true].length am)] [iv 3,iv 2,.slice al [true,true,true,true,true,true].length am] S (wG 14 true 68 y y y a9) y y y y (lb y) fun a S=>leafL ⟨y,S⟩
 ·refine fJ [(69,_),(71,_),(68,_)] 1 [some 17,some 0,some 16] fun G a w S=>?_
  have S1:=S.mem
  have S1:=S1.learn (fRep r_api_Grid (.agg #[iv a0.1.W,iv a0.1.H,.slice a3 a0.1.Bits.length a4]) a0.1) ⟨_,y,S1.know (i:=2) (e:=fRep (rL rB) (.slice a3 a0.1.Bits.length a4) a0.1.Bits) y⟩
  have S1:=S1.shutR (r:=rB) (T:=4) (v:=.slice al [true,true,true,true,true,true].length am) (xs:=[true,true,true,true,true,true]) 0 y
  have S1:=S1.learn (fRep r_api_Grid (.agg #[iv 3,iv 2,.slice al [true,true,true,true,true,true].length am]) (api_Grid.mk 3 2 [true,true,true,true,true,true])) ⟨_,y,S1.know (i:=0) (e:=fRep (rL rB) (.slice al [true,true,true,true,true,true].length am) [true,true,true,true,true,true]) y⟩
  refine sCallQ (X:=Unit) (f:=16) (vs:=[.agg #[iv a0.1.W,iv a0.1.H,.slice a3 a0.1.Bits.length a4],.agg #[iv 3,iv 2,.slice al [true,true,true,true,true,true].length am]]) (val:=fun _=>.bool ak) S (wG 14 true 68 y y y a9) y callee16 y (S1.quiet [2,0] y) (fun E1 w1 S1=>c_raddleref01_Same E1 w1 a0.1 (.agg #[iv a0.1.W,iv a0.1.H,.slice a3 a0.1.Bits.length a4]) (api_Grid.mk 3 2 [true,true,true,true,true,true]) (.agg #[iv 3,iv 2,.slice al [true,true,true,true,true,true].length am]) ak bk S1) y (lb y) fun _ a w S=>?_
  exact leafL ⟨y,S⟩
 ·refine fJ [(68,_),(72,_)] 2 [some 16,some 1] fun G a w S=>?_
  exact sPickT (.bool ak) S (wN y) y y a9 y y (lb y) fun a S=>leafL ⟨y,S⟩
 ·exact fM 3 (some 2) y y y y (.inl y) y y y
 ·refine fJ [(7,_),(74,_)] 4 [none,some 3] fun G a w S=>?_
  exact sMove (.slice ab aa.1.length ac) S (wG 20 true 74 y y y af) (.inl y) y y (lb y) fun a S=>leafL ⟨y,S⟩
 refine ⟨_,[(74,.bool ak)],y,(srcs_of [some 3] y y y),fun G a w S=>?_⟩
 refine sLit (r:=(rI .i64)) (T:=3) (xs:=([0,0,1]:List Int)) [(0,iv 0),(1,iv 0),(2,iv 1)] 3 [iv 0,iv 0,iv 1] [iv 0,iv 0,iv 1] (iv 0) 8 S (wG 20 true 74 y y y af) y y Try.underlying25 y (by decide) (by decide) (by kernel_rfl) y (fun E1 w1 hE=>All.cons y (All.cons y (All.cons y (All.nil _ _ _)))) y y (lb y) fun a w aJ aK S=>?_
 refine leafL ⟨y,_,_,.inl ⟨76,(.slice aJ ([0,0,1]:List Int).length aK),[(23,77,.bool aA),(24,78,.bool aA),(25,79,.bool aA),(26,80,iv aa.2.1),(27,81,.bool (aa.2.1 == 0)),(28,82,.bool (aa.2.1 == 0)),(29,83,.bool (aa.2.1 == 0)),(30,84,iv a8.2.1),(31,85,.bool (a8.2.1 == 1)),(32,86,.bool (a8.2.1 == 1)),(33,87,.bool (a8.2.1 == 1)),(34,88,.agg #[iv a8.1.W,iv a8.1.H,.slice ai a8.1.Bits.length aj])],y,S,hz_of y,?_⟩⟩
 refine node_by (A:=anc_raddlelaw17_alive_0) 39 (by kernel_rfl) (by kernel_rfl) (by kernel_rfl) (by kernel_rfl) (by kernel_rfl) [23,24,25,26,27,28,29,30,31,32,33,34,22,17,18,19,20,21,16,4,5,6,7,8,9,10,11,12,13,14,15,3,0,1,2] (by kernel_rfl) (by decide) (by decide) (fD 22 (fD 22 (fD 22 (fY (fD 22 (fD 22 (fD 22 (fD 22 (fD 22 (fD 22 (fD 22 (fD 22 (fD 22 (fD 22 (fD 22 (fD 22 (fY (fD 22 (fD 22 (fD 22 (fD 22 (fF ?_ (fY (fF ?_ (fF ?_ (fF ?_ (fF ?_ (fF ?_ (fF ?_ (fF ?_ (fF ?_ (fF ?_ (fF ?_ (fF ?_ (fF ?_ (fN ?_ (fE 35 (fE 35 (fE 35 (trivial)))))))))))))))))))))))))))))))))))))))) [] (fun q hq=>by cases hq) (fun hY=>absurd (hY 35 (by decide)) (by decide))
 ·refine fJ [(7,_),(74,_)] 17 [none,some 16] fun G a w S=>?_
  exact sMove (.slice ab aa.1.length ac) S (wG 20 true 74 y y y af) (.inl y) y y (lb y) fun a S=>leafL ⟨y,S⟩
 ·refine fJ [(75,_),(76,_),(74,_)] 0 [some 17,some 12,some 16] fun G a w S=>?_
  have S1:=S.mem
  have S1:=S1.shutR (r:=(rI .i64)) (T:=3) (v:=.slice aJ ([0,0,1]:List Int).length aK) (xs:=([0,0,1]:List Int)) 0 y
  refine sCallQ (X:=Unit) (f:=17) (vs:=[.slice ab aa.1.length ac,.slice aJ ([0,0,1]:List Int).length aK]) (val:=fun _=>.bool aA) S (wG 20 true 74 y y y af) y callee17 y (S1.quiet [2,0] y) (fun E1 w1 S1=>c_raddleref02_Same E1 w1 aa.1 (.slice ab aa.1.length ac) ([0,0,1]:List Int) (.slice aJ ([0,0,1]:List Int).length aK) aA bu S1) y (lb y) fun _ a w S=>?_
  exact leafL ⟨y,S⟩
 ·refine fJ [(74,_),(77,_)] 1 [some 16,some 0] fun G a w S=>?_
  exact sPickT (.bool aA) S (wN y) y y af y y (lb y) fun a S=>leafL ⟨y,S⟩
 ·exact fM 2 (some 1) y y y y (.inl y) y y y
 ·refine fJ [(8,_),(79,_)] 3 [none,some 2] fun G a w S=>?_
  exact sMove (iv aa.2.1) S (wG 25 true 79 y y y az) (.inl y) y y (lb y) fun a S=>leafL ⟨y,S⟩
 ·refine fJ [(80,_),(79,_)] 4 [some 3,some 2] fun G a w S=>?_
  exact sBin _ S (wG 25 true 79 y y y az) y y y (bEq _ _ _ _ .i64 aa.2.1 0) y (lb y) fun a S=>leafL ⟨y,S⟩
 ·refine fJ [(79,_),(81,_)] 5 [some 2,some 4] fun G a w S=>?_
  exact sPickT (.bool (aa.2.1 == 0)) S (wN y) y y az y y (lb y) fun a S=>leafL ⟨y,S⟩
 ·exact fM 6 (some 5) y y y y (.inl y) y y y
 ·refine fJ [(11,_),(83,_)] 7 [none,some 6] fun G a w S=>?_
  exact sMove (iv a8.2.1) S (wG 29 true 83 y y y aC) (.inl y) y y (lb y) fun a S=>leafL ⟨y,S⟩
 ·refine fJ [(84,_),(83,_)] 8 [some 7,some 6] fun G a w S=>?_
  exact sBin _ S (wG 29 true 83 y y y aC) y y y (bEq _ _ _ _ .i64 a8.2.1 1) y (lb y) fun a S=>leafL ⟨y,S⟩
 ·refine fJ [(83,_),(85,_)] 9 [some 6,some 8] fun G a w S=>?_
  exact sPickT (.bool (a8.2.1 == 1)) S (wN y) y y aC y y (lb y) fun a S=>leafL ⟨y,S⟩
 ·exact fM 10 (some 9) y y y y (.inl y) y y y
 ·refine fJ [(10,_),(87,_)] 11 [none,some 10] fun G a w S=>?_
  exact sLoadN (p:=bE) (off:=0) (T:=24) (vs:=[iv a8.1.W,iv a8.1.H,.slice ai a8.1.Bits.length aj]) 4 [iv a8.1.W,iv a8.1.H,.slice ai a8.1.Bits.length aj] S (wG 33 true 87 y y y aG) y y y y y y y (lb y) fun a S=>leafL ⟨y,S⟩
 refine ⟨_,[(87,.bool (a8.2.1 == 1))],y,(srcs_of [some 10] y y y),fun G a w S=>?_⟩
 refine sCall (X:=Value) (f:=32) (vs:=[iv 2,iv 1]) (val:=c_raddleref01_Zero_val aM) (B':=fun _=>[]) (D':=c_raddleref01_Zero_D aM) [] [eRow (rI .i64) 3 (.slice aJ ([0,0,1]:List Int).length aK) ([0,0,1]:List Int),eRow rB 4 (.slice al [true,true,true,true,true,true].length am) [true,true,true,true,true,true],eRow (rI .i64) 3 (.slice bl ([0,0,0]:List Int).length bm) ([0,0,0]:List Int),eBox aH 24 [iv a0.1.W,iv a0.1.H,.slice a3 a0.1.Bits.length a4],eBox bE 24 [iv a8.1.W,iv a8.1.H,.slice ai a8.1.Bits.length aj]] [] [0,1,2,3,4] [] S (wG 33 true 87 y y y aG) y callee32 y (by decide) y y (fun E1 w1 S1=>c_raddleref01_Zero E1 w1 2 1 aM bZ S1) y (lb y) fun c8 a w S=>?_
 obtain ⟨c9,rfl,bw⟩:=S.mem.know (i:=0) (e:=fRep r_api_Grid (c8) aM) y
 have S:=S.learn (fRep (rL rB) c9 aM.Bits) bw
 obtain ⟨bn,bo,_,rfl,_⟩:=bw
 refine leafL ⟨y,_,_,.inl ⟨89,(.agg #[iv aM.W,iv aM.H,.slice bn aM.Bits.length bo]),[(36,90,.bool bv),(37,91,.bool bv),(38,0,.bool bv)],y,S,hz_of y,?_⟩⟩
 refine node_by (A:=anc_raddlelaw17_alive_0) 39 (by kernel_rfl) (by kernel_rfl) (by kernel_rfl) (by kernel_rfl) (by kernel_rfl) [36,37,38,35,23,24,25,26,27,28,29,30,31,32,33,34,22,17,18,19,20,21,16,4,5,6,7,8,9,10,11,12,13,14,15,3,0,1,2] (by kernel_rfl) (by decide) (by decide) (fD 35 (fD 35 (fD 35 (fY (fD 35 (fD 35 (fD 35 (fD 35 (fD 35 (fD 35 (fD 35 (fD 35 (fD 35 (fD 35 (fD 35 (fD 35 (fY (fD 35 (fD 35 (fD 35 (fD 35 (fD 35 (fY (fD 35 (fD 35 (fD 35 (fD 35 (fD 35 (fD 35 (fD 35 (fD 35 (fD 35 (fD 35 (fD 35 (fF ?_ (fY (fF ?_ (fF ?_ (fF ?_ (trivial)))))))))))))))))))))))))))))))))))))))) [(0,.bool bv)] (fin_of [some 2] y (by kernel_rfl) (by kernel_rfl)) (fun _ a w S=>?_)
 ·refine fJ [(10,_),(87,_)] 15 [none,some 14] fun G a w S=>?_
  exact sLoadN (p:=bE) (off:=0) (T:=24) (vs:=[iv a8.1.W,iv a8.1.H,.slice ai a8.1.Bits.length aj]) 4 [iv a8.1.W,iv a8.1.H,.slice ai a8.1.Bits.length aj] S (wG 33 true 87 y y y aG) y y y y y y y (lb y) fun a S=>leafL ⟨y,S⟩
 ·refine fJ [(88,_),(89,_),(87,_)] 0 [some 15,some 3,some 14] fun G a w S=>?_
  have S1:=S.mem
  have S1:=S1.learn (fRep r_api_Grid (.agg #[iv a8.1.W,iv a8.1.H,.slice ai a8.1.Bits.length aj]) a8.1) ⟨_,y,S1.know (i:=5) (e:=fRep (rL rB) (.slice ai a8.1.Bits.length aj) a8.1.Bits) y⟩
  refine sCallQ (X:=Unit) (f:=16) (vs:=[.agg #[iv a8.1.W,iv a8.1.H,.slice ai a8.1.Bits.length aj],.agg #[iv aM.W,iv aM.H,.slice bn aM.Bits.length bo]]) (val:=fun _=>.bool bv) S (wG 33 true 87 y y y aG) y callee16 y (S1.quiet [0,2] y) (fun E1 w1 S1=>c_raddleref01_Same E1 w1 a8.1 (.agg #[iv a8.1.W,iv a8.1.H,.slice ai a8.1.Bits.length aj]) aM (.agg #[iv aM.W,iv aM.H,.slice bn aM.Bits.length bo]) bv c7 S1) y (lb y) fun _ a w S=>?_
  exact leafL ⟨y,S⟩
 ·refine fJ [(87,_),(90,_)] 1 [some 14,some 0] fun G a w S=>?_
  exact sPickT (.bool bv) S (wN y) y y aG y y (lb y) fun a S=>leafL ⟨y,S⟩
 ·exact fM 2 (some 1) y y y y (.inr y) y y y
 exact leafT (⟨bv,Option.some.inj h,S.fix [] [] (by decide) y y y⟩)
noncomputable def F_raddleref01_Check (p0:api_Grid):Option Int:=
 Option.bind (α:=Bool) (
  if decide (64 < p0.W) then
   some true
  else
   some (decide (64 < p0.H))) fun o8=>
 if o8 then
  some 4
 else
  Option.bind (α:=Bool) (
   if decide (p0.W < 1) then
    some true
   else
    if decide (p0.H < 1) then
     some true
    else
     some ((p0.Bits.length:Int) != (w64 (p0.W * p0.H)))) fun a0=>
  if a0 then
   some 8
  else
   some 0
theorem c_raddleref01_Check (E:Nat→Prop) (w0:World) (p0:api_Grid) (v0:Value) (r:Int) (h:F_raddleref01_Check p0=some r) (S:St0 E [] w0 w0 [] [fRep r_api_Grid (v0) p0]) :
 Calls Try.prog 37 #[v0] w0 (Ret (X:=Unit) E [] w0 (fun _=>.int .i64 r) (fun _=>[]) (fun _=>[])):=by
 unfold F_raddleref01_Check at h
 obtain ⟨u1,rfl,ae⟩:=S.know (i:=0) (e:=fRep r_api_Grid (v0) p0) y
 have S:=S.learn (fRep (rL rB) u1 p0.Bits) ae
 obtain ⟨a6,a7,_,rfl,_⟩:=ae
 refine sEnter (args:=[.agg #[iv p0.W,iv p0.H,.slice a6 p0.Bits.length a7]]) 30 Try.func37 y y (by simp) S (fun a S=>?_)
 refine sSeq (fun K5 af=>sRegion (sBox (v:=.agg #[iv p0.W,iv p0.H,.slice a6 p0.Bits.length a7]) S (wN y) y y [iv p0.W,iv p0.H,.slice a6 p0.Bits.length a7] y y (lb y) fun a b6 w S=>sN S fun a S=>?_))
 refine lT (af _ _ (sSeq (fun K7 ag=>?_)))
 obtain ⟨t9,h,ah⟩:=bS h
 refine sCut (fun a w=>∃ o8,o8=t9∧St [] E [] w0 30 a w [(1,.pointer (some ⟨b6,0,none⟩)),(10,.bool o8)] [eBox b6 24 [iv p0.W,iv p0.H,.slice a6 p0.Bits.length a7]] [fRep (rL rB) (.slice a6 p0.Bits.length a7) p0.Bits]) ?_ (fun a w hI=>?_)
 ·refine sRegion (sField (b:=b6) (off:=0) 0 0 S (wN y) y y y y y (lb y) fun a S=>sLoad1 0 (iv p0.W) S (wN y) y y y y y y (lb y) fun a S=>sBin _ S (wN y) y y y (bGt _ _ _ _ .i64 p0.W 64) y (lb y) fun a S=>sM S fun a S=>?_)
  rcases iS h with ⟨a2,h⟩ | ⟨a2,h⟩
  ·refine sSkN 3 3 false 6 S y y a2 y fun a S=>sPickT (.bool true) S (wN y) y y a2 y y (lb y) fun a S=>?_
   exact lT (⟨true,Option.some.inj h,S.fix [0] [0] (by decide) y y y⟩)
  refine sField (b:=b6) (off:=0) 1 1 S (wG 3 false 6 y y y a2) y y y y y (lb y) fun a S=>sLoad1 0 (iv p0.H) S (wG 3 false 6 y y y a2) y y y y y y (lb y) fun a S=>sBin _ S (wG 3 false 6 y y y a2) y y y (bGt _ _ _ _ .i64 p0.H 64) y (lb y) fun a S=>sPickF (.bool (decide (64 < p0.H))) S (wN y) y y a2 y y (lb y) fun a S=>?_
  exact lT (⟨decide (64 < p0.H),Option.some.inj h,S.fix [0] [0] (by decide) y y y⟩)
 obtain ⟨o8,rfl,S⟩:=hI
 have h:=ah
 try dsimp only at h
 rcases iS h with ⟨a4,h⟩ | ⟨a4,h⟩
 ·refine sCondT S y a4 (sSeq (fun ak a8=>sRegion (sN S fun a S=>?_)))
  refine lT (a8 _ _ ?_)
  obtain rfl:=tS h
  exact wp_ret (rThen (sRet (iv 4) S (rsl1 y (rvT (t:=2) (v:=iv 4) S y)) ⟨(),y,S.mem.sel [] [] (by decide) y y⟩))
 refine sCondF S y a4 (wp_skip (leafT (ag _ _ ?_)))
 refine sSeq (fun al a9=>?_)
 obtain ⟨ai,h,aj⟩:=bS h
 refine sCut (fun a w=>∃ aa,aa=ai∧St [] E [] w0 30 a w [(29,.bool aa)] [] []) ?_ (fun a w hI=>?_)
 rotate_left
 ·obtain ⟨aa,rfl,S⟩:=hI
  have h:=aj
  try dsimp only at h
  rcases iS h with ⟨a5,h⟩ | ⟨a5,h⟩
  ·refine sCondT S y a5 (sSeq (fun am ab=>sRegion (sN S fun a S=>?_)))
   refine lT (ab _ _ ?_)
   obtain rfl:=tS h
   exact wp_ret (rThen (sRet (iv 8) S (rsl1 y (rvT (t:=2) (v:=iv 8) S y)) ⟨(),y,S.mem.sel [] [] (by decide) y y⟩))
  refine sCondF S y a5 (wp_skip (leafT (a9 _ _ ?_)))
  refine sSeq (fun ao ac=>sRegion (sN S fun a S=>?_))
  refine lT (ac _ _ ?_)
  obtain rfl:=tS h
  exact wp_ret (sRet (iv 0) S (rsl1 y (rvT (t:=2) (v:=iv 0) S y)) ⟨(),y,S.mem.sel [] [] (by decide) y y⟩)
 refine sRegion (sField (b:=b6) (off:=0) 0 0 S (wN y) y y y y y (lb y) fun a S=>sLoad1 0 (iv p0.W) S (wN y) y y y y y y (lb y) fun a S=>sBin _ S (wN y) y y y (bLt _ _ _ _ .i64 p0.W 1) y (lb y) fun a S=>sM S fun a S=>?_)
 rcases iS h with ⟨a3,h⟩ | ⟨a3,h⟩
 ·refine sSkN 3 3 false 14 S y y a3 y fun a S=>sPickT (.bool true) S (wN y) y y a3 y y (lb y) fun a S=>sM S fun a S=>?_
  refine sSkN 9 8 false 19 S y y y y fun a S=>sPickT (.bool true) S (wN y) y y y y y (lb y) fun a S=>?_
  exact lT (⟨true,Option.some.inj h,S.fix [] [] (by decide) y y y⟩)
 refine sField (b:=b6) (off:=0) 1 1 S (wG 3 false 14 y y y a3) y y y y y (lb y) fun a S=>sLoad1 0 (iv p0.H) S (wG 3 false 14 y y y a3) y y y y y y (lb y) fun a S=>sBin _ S (wG 3 false 14 y y y a3) y y y (bLt _ _ _ _ .i64 p0.H 1) y (lb y) fun a S=>sPickF (.bool (decide (p0.H < 1))) S (wN y) y y a3 y y (lb y) fun a S=>sM S fun a S=>?_
 rcases iS h with ⟨a0,h⟩ | ⟨a0,h⟩
 ·refine sSkN 9 8 false 19 S y y a0 y fun a S=>sPickT (.bool true) S (wN y) y y a0 y y (lb y) fun a S=>?_
  exact lT (⟨true,Option.some.inj h,S.fix [] [] (by decide) y y y⟩)
 refine sField (b:=b6) (off:=0) 2 2 S (wG 8 false 19 y y y a0) y y y y y (lb y) fun a S=>sLoad1 0 (.slice a6 p0.Bits.length a7) S (wG 8 false 19 y y y a0) y y y y y y (lb y) fun a S=>sLen S (wG 8 false 19 y y y a0) y Try.underlying22 y y (lb y) fun a S=>sField (b:=b6) (off:=0) 0 0 S (wG 8 false 19 y y y a0) y y y y y (lb y) fun a S=>sLoad1 0 (iv p0.W) S (wG 8 false 19 y y y a0) y y y y y y (lb y) fun a S=>sField (b:=b6) (off:=0) 1 1 S (wG 8 false 19 y y y a0) y y y y y (lb y) fun a S=>sLoad1 0 (iv p0.H) S (wG 8 false 19 y y y a0) y y y y y y (lb y) fun a S=>sBin _ S (wG 8 false 19 y y y a0) y y y (bMul _ _ _ _ p0.W p0.H) y (lb y) fun a S=>sBin _ S (wG 8 false 19 y y y a0) y y y (bNe _ _ _ _ .i64 (p0.Bits.length:Int) (w64 (p0.W * p0.H))) y (lb y) fun a S=>sPickF (.bool ((p0.Bits.length:Int) != (w64 (p0.W * p0.H)))) S (wN y) y y a0 y y (lb y) fun a S=>?_
 exact lT (⟨(p0.Bits.length:Int) != (w64 (p0.W * p0.H)),Option.some.inj h,S.fix [] [] (by decide) y y y⟩)
noncomputable def F_raddleref01_Great (p0:api_Grid):Option Bool:=
 some (decide (4200 < (p0.Bits.length:Int)))
theorem c_raddleref01_Great (E:Nat→Prop) (w0:World) (p0:api_Grid) (v0:Value) (r:Bool) (h:F_raddleref01_Great p0=some r) (S:St0 E [] w0 w0 [] [fRep r_api_Grid (v0) p0]) :
 Calls Try.prog 9 #[v0] w0 (Ret (X:=Unit) E [] w0 (fun _=>.bool r) (fun _=>[]) (fun _=>[])):=by
 unfold F_raddleref01_Great at h
 obtain ⟨u1,rfl,a3⟩:=S.know (i:=0) (e:=fRep r_api_Grid (v0) p0) y
 have S:=S.learn (fRep (rL rB) u1 p0.Bits) a3
 obtain ⟨a0,a2,_,rfl,_⟩:=a3
 refine sEnter (args:=[.agg #[iv p0.W,iv p0.H,.slice a0 p0.Bits.length a2]]) 7 Try.func9 y y (by simp) S (fun a S=>?_)
 refine sSeq (fun K5 a4=>sRegion (sBox (v:=.agg #[iv p0.W,iv p0.H,.slice a0 p0.Bits.length a2]) S (wN y) y y [iv p0.W,iv p0.H,.slice a0 p0.Bits.length a2] y y (lb y) fun a b6 w S=>sN S fun a S=>?_))
 refine lT (a4 _ _ (sSeq (fun K7 a5=>sRegion (sField (b:=b6) (off:=0) 2 2 S (wN y) y y y y y (lb y) fun a S=>sLoad1 0 (.slice a0 p0.Bits.length a2) S (wN y) y y y y y y (lb y) fun a S=>sLen S (wN y) y Try.underlying22 y y (lb y) fun a S=>sBin _ S (wN y) y y y (bGt _ _ _ _ .i64 (p0.Bits.length:Int) 4200) y (lb y) fun a S=>sN S fun a S=>?_))))
 refine lT (a5 _ _ ?_)
 obtain rfl:=tS h
 exact wp_ret (sRet (.bool (decide (4200 < (p0.Bits.length:Int)))) S (rsl1 y (rvT (t:=2) (v:=.bool (decide (4200 < (p0.Bits.length:Int)))) S y)) ⟨(),y,S.mem.sel [] [] (by decide) y y⟩)
noncomputable def F_raddlelaw17_fit (p0:api_Grid):Option Bool:=
 Option.bind (α:=Bool) (
  (F_raddleref01_Great p0).bind fun a0=>
  if !a0 then
   (F_raddleref01_Check p0).bind fun a2=>
   if a2 == 0 then
    if decide (p0.W ≤ 6) then
     some (decide (p0.H ≤ 20))
    else
     some false
   else
    some false
  else
   some false) fun o7=>
 some o7
theorem c_raddlelaw17_fit (E:Nat→Prop) (w0:World) (p0:api_Grid) (v0:Value) (r:Bool) (h:F_raddlelaw17_fit p0=some r) (S:St0 E [] w0 w0 [] [fRep r_api_Grid (v0) p0]) :
 Calls Try.prog 19 #[v0] w0 (Ret (X:=Unit) E [] w0 (fun _=>.bool r) (fun _=>[]) (fun _=>[])):=by
 unfold F_raddlelaw17_fit at h
 obtain ⟨u1,rfl,aa⟩:=S.know (i:=0) (e:=fRep r_api_Grid (v0) p0) y
 have S:=S.learn (fRep (rL rB) u1 p0.Bits) aa
 obtain ⟨a4,a5,_,rfl,_⟩:=aa
 refine sEnter (args:=[.agg #[iv p0.W,iv p0.H,.slice a4 p0.Bits.length a5]]) 21 Try.func19 y y (by simp) S (fun a S=>?_)
 refine sSeq (fun K5 ab=>sRegion (sBox (v:=.agg #[iv p0.W,iv p0.H,.slice a4 p0.Bits.length a5]) S (wN y) y y [iv p0.W,iv p0.H,.slice a4 p0.Bits.length a5] y y (lb y) fun a b6 w S=>sN S fun a S=>?_))
 refine lT (ab _ _ ?_)
 obtain ⟨t8,h,g9⟩:=bS h
 refine sCut (fun a w=>∃ o7,o7=t8∧St [] E [] w0 21 a w [(2,.bool o7)] [] []) ?_ (fun a w hI=>?_)
 rotate_left
 ·obtain ⟨o7,rfl,S⟩:=hI
  have h:=g9
  try dsimp only at h
  obtain rfl:=tS h
  exact wp_ret (sRet (.bool o7) S (rsl1 y (rvT (t:=2) (v:=.bool o7) S y)) ⟨(),y,S.mem.sel [] [] (by decide) y y⟩)
 refine sRegion (sLoadN (p:=b6) (off:=0) (T:=24) (vs:=[iv p0.W,iv p0.H,.slice a4 p0.Bits.length a5]) 0 [iv p0.W,iv p0.H,.slice a4 p0.Bits.length a5] S (wN y) y y y y y y y (lb y) fun a S=>?_)
 obtain ⟨a7,a8,h⟩:=bS h
 have S1:=S.mem
 refine sCq [.agg #[iv p0.W,iv p0.H,.slice a4 p0.Bits.length a5]] (.bool a7) S callee9 (S1.quiet [1] y) (fun E1 w1 S1=>c_raddleref01_Great E1 w1 p0 (.agg #[iv p0.W,iv p0.H,.slice a4 p0.Bits.length a5]) a7 a8 S1) fun a w S=>?_
 refine sNot (b:=a7) S (wN y) y y y (lb y) fun a S=>sM S fun a S=>?_
 rcases iS h with ⟨a0,h⟩ | ⟨a0,h⟩
 rotate_left
 ·refine sSkN 3 3 true 6 S y y a0 y fun a S=>sPickF (.bool false) S (wN y) y y a0 y y (lb y) fun a S=>sM S fun a S=>?_
  refine sSkN 3 8 true 11 S y y y y fun a S=>sPickF (.bool false) S (wN y) y y y y y (lb y) fun a S=>sM S fun a S=>?_
  refine sSkN 3 13 true 16 S y y y y fun a S=>sPickF (.bool false) S (wN y) y y y y y (lb y) fun a S=>sN S fun a S=>?_
  exact lT (⟨false,Option.some.inj h,S.fix [] [] (by decide) y y y⟩)
 refine sLoadN (p:=b6) (off:=0) (T:=24) (vs:=[iv p0.W,iv p0.H,.slice a4 p0.Bits.length a5]) 0 [iv p0.W,iv p0.H,.slice a4 p0.Bits.length a5] S (wG 3 true 6 y y y a0) y y y y y y y (lb y) fun a S=>?_
 obtain ⟨a6,a9,h⟩:=bS h
 have S1:=S.mem
 refine sCallQ (X:=Unit) (f:=37) (vs:=[.agg #[iv p0.W,iv p0.H,.slice a4 p0.Bits.length a5]]) (val:=fun _=>iv a6) S (wG 3 true 6 y y y a0) y callee37 y (S1.quiet [1] y) (fun E1 w1 S1=>c_raddleref01_Check E1 w1 p0 (.agg #[iv p0.W,iv p0.H,.slice a4 p0.Bits.length a5]) a6 a9 S1) y (lb y) fun _ a w S=>?_
 refine sBin _ S (wG 3 true 6 y y y a0) y y y (bEq _ _ _ _ .i64 a6 0) y (lb y) fun a S=>sPickT (.bool (a6 == 0)) S (wN y) y y a0 y y (lb y) fun a S=>sM S fun a S=>?_
 rcases iS h with ⟨a2,h⟩ | ⟨a2,h⟩
 rotate_left
 ·refine sSkN 3 8 true 11 S y y a2 y fun a S=>sPickF (.bool false) S (wN y) y y a2 y y (lb y) fun a S=>sM S fun a S=>?_
  refine sSkN 3 13 true 16 S y y y y fun a S=>sPickF (.bool false) S (wN y) y y y y y (lb y) fun a S=>sN S fun a S=>?_
  exact lT (⟨false,Option.some.inj h,S.fix [] [] (by decide) y y y⟩)
 refine sField (b:=b6) (off:=0) 0 0 S (wG 8 true 11 y y y a2) y y y y y (lb y) fun a S=>sLoad1 0 (iv p0.W) S (wG 8 true 11 y y y a2) y y y y y y (lb y) fun a S=>sBin _ S (wG 8 true 11 y y y a2) y y y (bLe _ _ _ _ .i64 p0.W 6) y (lb y) fun a S=>sPickT (.bool (decide (p0.W ≤ 6))) S (wN y) y y a2 y y (lb y) fun a S=>sM S fun a S=>?_
 rcases iS h with ⟨a3,h⟩ | ⟨a3,h⟩
 rotate_left
 ·refine sSkN 3 13 true 16 S y y a3 y fun a S=>sPickF (.bool false) S (wN y) y y a3 y y (lb y) fun a S=>sN S fun a S=>?_
  exact lT (⟨false,Option.some.inj h,S.fix [] [] (by decide) y y y⟩)
 refine sField (b:=b6) (off:=0) 1 1 S (wG 13 true 16 y y y a3) y y y y y (lb y) fun a S=>sLoad1 0 (iv p0.H) S (wG 13 true 16 y y y a3) y y y y y y (lb y) fun a S=>sBin _ S (wG 13 true 16 y y y a3) y y y (bLe _ _ _ _ .i64 p0.H 20) y (lb y) fun a S=>sPickT (.bool (decide (p0.H ≤ 20))) S (wN y) y y a3 y y (lb y) fun a S=>sN S fun a S=>?_
 exact lT (⟨decide (p0.H ≤ 20),Option.some.inj h,S.fix [] [] (by decide) y y y⟩)
def anc_raddleref17_Apart_0:List (List Nat):=[[],[0],[],[0,1,2],[0,1,2,3],[],[5],[],[5,6,7],[5,6,7,8],[0,1,2,3,4,5,6,7,8,9]]
noncomputable def raddleref17_Apart_l1 (p0:api_Grid) (p1:api_Grid):(Int × Int)→Option ((Int × Int) ⊕ Int):=fun s0=>match s0 with
 | (a2,a0)=>
  if decide (a0 < (p0.Bits.length:Int)) then
   Option.bind (α:=Int) (
    (idxO p0.Bits a0).bind fun a3=>
    (idxO p1.Bits a0).bind fun a4=>
    if a3 != a4 then
     some (w64 (a2 + 1))
    else
     some a2) fun a5=>
   some (.inl (a5,w64 (a0 + 1)))
  else
   some (.inr a2)
noncomputable def F_raddleref17_Apart (p0:api_Grid) (p1:api_Grid):Option Int:=
 Option.bind (α:=Int) (
  (whileO (raddleref17_Apart_l1 p0 p1) (0,0)).bind fun a0=>
   some a0) fun a2=>
 some a2
theorem c_raddleref17_Apart (E:Nat→Prop) (w0:World) (p0:api_Grid) (v0:Value) (p1:api_Grid) (v1:Value) (r:Int) (h:F_raddleref17_Apart p0 p1=some r) (S:St0 E [] w0 w0 [] [fRep r_api_Grid (v0) p0,fRep r_api_Grid (v1) p1]) :
 Calls Try.prog 25 #[v0,v1] w0 (Ret (X:=Unit) E [] w0 (fun _=>.int .i64 r) (fun _=>[]) (fun _=>[])):=by
 unfold F_raddleref17_Apart at h
 obtain ⟨u1,rfl,aw⟩:=S.know (i:=0) (e:=fRep r_api_Grid (v0) p0) y
 have S:=S.learn (fRep (rL rB) u1 p0.Bits) aw
 obtain ⟨a0,a2,_,rfl,_⟩:=aw
 obtain ⟨u5,rfl,ax⟩:=S.know (i:=2) (e:=fRep r_api_Grid (v1) p1) y
 have S:=S.learn (fRep (rL rB) u5 p1.Bits) ax
 obtain ⟨a4,a5,_,rfl,_⟩:=ax
 refine sEnter (args:=[.agg #[iv p0.W,iv p0.H,.slice a0 p0.Bits.length a2],.agg #[iv p1.W,iv p1.H,.slice a4 p1.Bits.length a5]]) 28 Try.func25 y y (by simp) S (fun a S=>?_)
 refine sSeq (fun K9 aA=>sRegion (sBox (v:=.agg #[iv p0.W,iv p0.H,.slice a0 p0.Bits.length a2]) S (wN y) y y [iv p0.W,iv p0.H,.slice a0 p0.Bits.length a2] y y (lb y) fun a a6 w S=>sBox (v:=.agg #[iv p1.W,iv p1.H,.slice a4 p1.Bits.length a5]) S (wN y) y y [iv p1.W,iv p1.H,.slice a4 p1.Bits.length a5] y y (lb y) fun a a9 w S=>sN S fun a S=>?_))
 refine lT (aA _ _ (sSeq (fun aK ag=>sRegion (sN S fun a S=>?_))))
 refine lT (ag _ _ ?_)
 obtain ⟨aC,h,aG⟩:=bS h
 refine sCut (fun a w=>∃ ae,ae=aC∧St [] E [] w0 28 a w [(5,iv ae)] [] []) ?_ (fun a w hI=>?_)
 rotate_left
 ·obtain ⟨ae,rfl,S⟩:=hI
  have h:=aG
  try dsimp only at h
  refine sSeq (fun aL ah=>sRegion (sM S fun a S=>?_))
  refine sN S fun a S=>?_
  refine lT (ah _ _ ?_)
  obtain rfl:=tS h
  exact wp_ret (sRet (iv ae) S (rsl1 y (rvT (t:=4) (v:=iv ae) S y)) ⟨(),y,S.mem.sel [] [] (by decide) y y⟩)
 refine sSeq (fun aM ai=>sRegion (sN S fun a S=>?_))
 refine lT (ai _ _ (wp_block ?_))
 obtain ⟨aO,hl,aH⟩:=bS h
 refine sLoop hl (fun s0 a w=>match s0 with | (aa,a3)=>St [] E [] w0 28 a w [(2,.pointer (some ⟨a6,0,none⟩)),(3,.pointer (some ⟨a9,0,none⟩)),(5,iv aa),(6,iv a3)] [eBox a6 24 [iv p0.W,iv p0.H,.slice a0 p0.Bits.length a2],eBox a9 24 [iv p1.W,iv p1.H,.slice a4 p1.Bits.length a5]] [fRep (rL rB) (.slice a0 p0.Bits.length a2) p0.Bits,fRep (rL rB) (.slice a4 p1.Bits.length a5) p1.Bits]) (S.fix [1,0] [1,0] (by decide) y y y) ?_
 clear hl h
 intro s0 a w c0 hI h aj
 obtain ⟨aa,a3⟩:=s0
 unfold raddleref17_Apart_l1 at h
 dsimp only at h hI
 have S:=hI
 refine sSeq (fun aP ak=>sSeq (fun aQ al=>sRegion (sM S fun a S=>?_)))
 refine sField (b:=a6) (off:=0) 2 2 S (wN y) y y y y y (lb y) fun a S=>sLoad1 0 (.slice a0 p0.Bits.length a2) S (wN y) y y y y y y (lb y) fun a S=>sLen S (wN y) y Try.underlying22 y y (lb y) fun a S=>sBin _ S (wN y) y y y (bLt _ _ _ _ .i64 a3 (p0.Bits.length:Int)) y (lb y) fun a S=>lT (al _ _ ?_)
 rcases iS h with ⟨ab,h⟩ | ⟨ab,h⟩
 rotate_left
 ·refine sCondF S y ab ?_
  obtain rfl:=tS h
  obtain rfl:=aj _ y
  have h:=aH
  try dsimp only at h
  exact wp_exit (xThen (xThen (xHit (leafT (⟨aa,Option.some.inj h,S.fix [] [] (by decide) y y y⟩)))))
 refine sCondT S y ab (wp_skip (leafT (ak _ _ ?_)))
 obtain ⟨aI,h,aJ⟩:=bS h
 refine sCut (fun a w=>∃ af,af=aI∧St [] E [] w0 28 a w [(2,.pointer (some ⟨a6,0,none⟩)),(3,.pointer (some ⟨a9,0,none⟩)),(5,iv af),(6,iv a3)] [eBox a6 24 [iv p0.W,iv p0.H,.slice a0 p0.Bits.length a2],eBox a9 24 [iv p1.W,iv p1.H,.slice a4 p1.Bits.length a5]] [fRep (rL rB) (.slice a0 p0.Bits.length a2) p0.Bits,fRep (rL rB) (.slice a4 p1.Bits.length a5) p1.Bits]) ?_ (fun a w hI=>?_)
 rotate_left
 ·obtain ⟨af,rfl,S⟩:=hI
  have h:=aJ
  try dsimp only at h
  refine sRegion (sM S fun a S=>?_)
  refine sBin _ S (wN y) y y y (bAdd _ _ _ _ a3 1) y (lb y) fun a S=>sN S fun a S=>?_
  exact lT (⟨(af,w64 (a3 + 1)),(Option.some.inj h).symm,(S.fix [0,1] [0,1] (by decide) y y y)⟩)
 refine wp_block ?_
 refine sSeq (fun aR am=>?_)
 obtain ⟨a7,ao,h⟩:=bS h
 obtain ⟨a8,ap,h⟩:=bS h
 obtain ⟨aq,ar,S⟩:=pIdx (P:=Try.prog) (r:=rB) (v:=.slice a0 p0.Bits.length a2) (xs:=p0.Bits) (j:=a3) 22 4 0 S Try.underlying22 y y ao
 obtain ⟨ay,S⟩:=pLoad (r:=rB) (q:=aq) (x:=a7) 0 S y
 obtain rfl:ay=.bool a7:=S.mem.know (i:=1) (e:=fRep rB (ay) a7) y
 obtain ⟨au,av,S⟩:=pIdx (P:=Try.prog) (r:=rB) (v:=.slice a4 p1.Bits.length a5) (xs:=p1.Bits) (j:=a3) 22 4 4 S Try.underlying22 y y ap
 obtain ⟨az,S⟩:=pLoad (r:=rB) (q:=au) (x:=a8) 0 S y
 obtain rfl:az=.bool a8:=S.mem.know (i:=1) (e:=fRep rB (az) a8) y
 refine sDraw (nf:=[]) (W:=[(0,14,.pointer (some ⟨a6,2,none⟩)),(1,15,.slice a0 p0.Bits.length a2),(2,16,iv a3),(3,17,aq),(4,18,.bool a7),(5,19,.pointer (some ⟨a9,2,none⟩)),(6,20,.slice a4 p1.Bits.length a5),(7,21,iv a3),(8,22,au),(9,23,.bool a8),(10,24,.bool (a7 != a8))]) y S ?_
 refine node_by (A:=anc_raddleref17_Apart_0) 11 (by kernel_rfl) (by kernel_rfl) (by kernel_rfl) (by kernel_rfl) (by kernel_rfl) [0,1,2,3,4,5,6,7,8,9,10] (by kernel_rfl) (by decide) (by decide) (fF ?_ (fF ?_ (fF ?_ (fF ?_ (fF ?_ (fF ?_ (fF ?_ (fF ?_ (fF ?_ (fF ?_ (fF ?_ (trivial)))))))))))) [(2,.pointer (some ⟨a6,0,none⟩)),(3,.pointer (some ⟨a9,0,none⟩)),(5,iv aa),(6,iv a3),(24,.bool (a7 != a8))] (fin_of [none,none,none,none,some 10] y (by kernel_rfl) (by kernel_rfl)) (fun _ a w S=>?_)
 ·refine fJ [(2,_)] 0 [none] fun G a w S=>?_
  exact sField (b:=a6) (off:=0) 2 2 S (wN y) y y y y y (lb y) fun a S=>leafL ⟨y,S⟩
 ·refine fJ [(14,_)] 1 [some 0] fun G a w S=>?_
  exact sLoad1 0 (.slice a0 p0.Bits.length a2) S (wN y) y y y y y y (lb y) fun a S=>leafL ⟨y,S⟩
 ·exact fM 2 none y y y y (.inl y) y y y
 ·refine fJ [(15,_),(16,_)] 3 [some 1,some 2] fun G a w S=>?_
  exact sIdxV S (wN y) y y y ar y (lb y) fun a S=>leafL ⟨y,S⟩
 ·refine fJ [(17,_)] 4 [some 3] fun G a w S=>?_
  exact sLoadV1 (vq:=aq) 3 (.bool a7) S (wN y) y y y y y (lb y) fun a S=>leafL ⟨y,S⟩
 ·refine fJ [(3,_)] 5 [none] fun G a w S=>?_
  exact sField (b:=a9) (off:=0) 2 2 S (wN y) y y y y y (lb y) fun a S=>leafL ⟨y,S⟩
 ·refine fJ [(19,_)] 6 [some 5] fun G a w S=>?_
  exact sLoad1 1 (.slice a4 p1.Bits.length a5) S (wN y) y y y y y y (lb y) fun a S=>leafL ⟨y,S⟩
 ·exact fM 7 none y y y y (.inl y) y y y
 ·refine fJ [(20,_),(21,_)] 8 [some 6,some 7] fun G a w S=>?_
  exact sIdxV S (wN y) y y y av y (lb y) fun a S=>leafL ⟨y,S⟩
 ·refine fJ [(22,_)] 9 [some 8] fun G a w S=>?_
  exact sLoadV1 (vq:=au) 0 (.bool a8) S (wN y) y y y y y (lb y) fun a S=>leafL ⟨y,S⟩
 ·refine fJ [(18,_),(23,_)] 10 [some 4,some 9] fun G a w S=>?_
  exact sBin _ S (wN y) y y y (bNeB _ _ _ _ Try.underlying4 a7 a8) y (lb y) fun a S=>leafL ⟨y,S⟩
 refine leafT (am _ _ ?_)
 rcases iS h with ⟨ac,h⟩ | ⟨ac,h⟩
 rotate_left
 ·refine sCondF S y ac ?_
  exact wp_skip (leafB (leafT (⟨aa,Option.some.inj h,S.fix [0,1] [6,7] (by decide) y y y⟩)))
 refine sCondT S y ac (sRegion (sM S fun a S=>?_))
 refine sBin _ S (wN y) y y y (bAdd _ _ _ _ aa 1) y (lb y) fun a S=>sN S fun a S=>?_
 exact leafL (leafB (leafT (⟨w64 (aa + 1),Option.some.inj h,S.fix [0,1] [6,7] (by decide) y y y⟩)))
noncomputable def F_raddleref01_At (p0:api_Grid) (p1:Int) (p2:Int):Option Bool:=
 (idxO p0.Bits (w64 ((w64 (p2 * p0.W)) + p1))).bind fun x8=>
 some x8
theorem c_raddleref01_At (E:Nat→Prop) (w0:World) (p0:api_Grid) (v0:Value) (p1:Int) (p2:Int) (r:Bool) (h:F_raddleref01_At p0 p1 p2=some r) (S:St0 E [] w0 w0 [] [fRep r_api_Grid (v0) p0]) :
 Calls Try.prog 22 #[v0,iv p1,iv p2] w0 (Ret (X:=Unit) E [] w0 (fun _=>.bool r) (fun _=>[]) (fun _=>[])):=by
 unfold F_raddleref01_At at h
 obtain ⟨u1,rfl,a4⟩:=S.know (i:=0) (e:=fRep r_api_Grid (v0) p0) y
 have S:=S.learn (fRep (rL rB) u1 p0.Bits) a4
 obtain ⟨a0,a2,_,rfl,_⟩:=a4
 refine sEnter (args:=[.agg #[iv p0.W,iv p0.H,.slice a0 p0.Bits.length a2],iv p1,iv p2]) 17 Try.func22 y y (by simp) S (fun a S=>?_)
 refine sSeq (fun K5 a7=>sRegion (sBox (v:=.agg #[iv p0.W,iv p0.H,.slice a0 p0.Bits.length a2]) S (wN y) y y [iv p0.W,iv p0.H,.slice a0 p0.Bits.length a2] y y (lb y) fun a b6 w S=>sN S fun a S=>?_))
 refine lT (a7 _ _ (sSeq (fun K7 a8=>sRegion (sField (b:=b6) (off:=0) 2 2 S (wN y) y y y y y (lb y) fun a S=>sLoad1 0 (.slice a0 p0.Bits.length a2) S (wN y) y y y y y y (lb y) fun a S=>sM S fun a S=>?_))))
 refine sField (b:=b6) (off:=0) 0 0 S (wN y) y y y y y (lb y) fun a S=>sLoad1 0 (iv p0.W) S (wN y) y y y y y y (lb y) fun a S=>sBin _ S (wN y) y y y (bMul _ _ _ _ p2 p0.W) y (lb y) fun a S=>sM S fun a S=>?_
 refine sBin _ S (wN y) y y y (bAdd _ _ _ _ (w64 (p2 * p0.W)) p1) y (lb y) fun a S=>?_
 obtain ⟨x8,a9,h⟩:=bS h
 obtain ⟨a5,a3,S⟩:=pIdx (P:=Try.prog) (r:=rB) (v:=.slice a0 p0.Bits.length a2) (xs:=p0.Bits) (j:=w64 ((w64 (p2 * p0.W)) + p1)) 22 4 0 S Try.underlying22 y y a9
 refine sIdxV S (wN y) y y y a3 y (lb y) fun a S=>?_
 obtain ⟨a6,S⟩:=pLoad (r:=rB) (q:=a5) (x:=x8) 0 S y
 obtain rfl:a6=.bool x8:=S.mem.know (i:=1) (e:=fRep rB (a6) x8) y
 refine sLoadV1 (vq:=a5) 0 (.bool x8) S (wN y) y y y y y (lb y) fun a S=>sN S fun a S=>?_
 refine lT (a8 _ _ ?_)
 obtain rfl:=tS h
 exact wp_ret (sRet (.bool x8) S (rsl1 y (rvT (t:=6) (v:=.bool x8) S y)) ⟨(),y,S.mem.sel [] [] (by decide) y y⟩)
noncomputable def F_raddleref17_Few (p0:api_Grid):Option Int:=
 (F_raddleref01_Check p0).bind fun r9=>
 if r9 != 0 then
  some r9
 else
  if decide (8 < p0.W) then
   some 4
  else
   some 0
noncomputable def F_raddleref01_Zero_s0 (p0:Int) (p1:Int):Option api_Grid:=
 (makeO (w64 (p0 * p1)) false).bind fun m6=>
 some (api_Grid.mk p0 p1 m6)
noncomputable def F_raddleref01_Set_s0 (p0:Int) (p1:Int) (p2:(List Bool)) (p3:Int) (p4:Int) (p5:Bool):Option (List Bool):=
 (idxO p2 (w64 ((w64 (p4 * p0)) + p3))).bind fun x3=>
 (setO p2 (w64 ((w64 (p4 * p0)) + p3)) p5).bind fun l8=>
 (keepO p2 l8).bind fun _=>
 some l8
noncomputable def raddleref17_changed_s1_l1 (p0:api_Grid) (p1:(List Int)) (a4:Int) (a5:Int):(Int × Int × Int)→Option ((Int × Int × Int) ⊕ (Int × Int)):=fun s0=>match s0 with
 | (a2,a3,a0)=>
  if decide (a0 < p0.W) then
   Option.bind (α:=(Int × Int)) (
    Option.bind (α:=Bool) (
     (idxO p1 a0).bind fun a6=>
     (idxO p1 a4).bind fun a7=>
     if a6 == a7 then
      (F_raddleref01_At p0 a0 a5).bind fun a8=>
      some a8
     else
      some false) fun a9=>
    if a9 then
     some (w64 (a2 + 1),a3)
    else
     (idxO p1 a0).bind fun aa=>
     (idxO p1 a4).bind fun ab=>
     if aa == ab then
      some (a2,w64 (a3 + 1))
     else
      some (a2,a3)) fun (ac,ae)=>
   some (.inl (ac,ae,w64 (a0 + 1)))
  else
   some (.inr (a2,a3))
noncomputable def raddleref17_changed_s1_l2 (p0:api_Grid) (p1:(List Int)) (a3:Int) (r9:api_Grid):(Int × List Bool)→Option ((Int × List Bool) ⊕ List Bool):=fun s0=>match s0 with
 | (a0,a4)=>
  if decide (a0 < p0.H) then
   Option.bind (α:=List Bool) (
    Option.bind (α:=(Int × Int)) (
     (whileO (raddleref17_changed_s1_l1 p0 p1 a3 a0) (0,0,0)).bind fun (a5,a6)=>
      some (a5,a6)) fun (a7,a8)=>
    (F_raddleref01_Set_s0 r9.W r9.H a4 a3 a0 (decide (a8 < a7))).bind fun a2=>
    some a2) fun a9=>
   some (.inl (w64 (a0 + 1),a9))
  else
   some (.inr a4)
noncomputable def raddleref17_changed_s1_l3 (p0:api_Grid) (p1:(List Int)) (r9:api_Grid):(Int × List Bool)→Option ((Int × List Bool) ⊕ List Bool):=fun s0=>match s0 with
 | (a0,a2)=>
  if decide (a0 < p0.W) then
   Option.bind (α:=List Bool) (
    (whileO (raddleref17_changed_s1_l2 p0 p1 a0 r9) (0,a2)).bind fun a3=>
     some a3) fun a4=>
   some (.inl (w64 (a0 + 1),a4))
  else
   some (.inr a2)
noncomputable def F_raddleref17_changed_s1 (p0:api_Grid) (p1:(List Int)):Option (api_Grid × (List Int)):=
 (F_raddleref01_Zero_s0 p0.W p0.H).bind fun r9=>
 Option.bind (α:=List Bool) (
  (whileO (raddleref17_changed_s1_l3 p0 p1 r9) (0,r9.Bits)).bind fun a0=>
   some a0) fun a2=>
 some ((api_Grid.mk r9.W r9.H a2),p1)
noncomputable def raddleref17_numbered_l1 (p0:(List Int)):(Int × Int)→Option ((Int × Int) ⊕ (Bool ⊕ Int)):=fun s0=>match s0 with
 | (s9,a0)=>
  if decide (a0 < (p0.length:Int)) then
   Option.bind (α:=Int ⊕ Bool) (
    (idxO p0 a0).bind fun a2=>
    if decide (s9 < a2) then
     some (.inr false)
    else
     if a2 == s9 then
      some (.inl (w64 (s9 + 1)))
     else
      some (.inl s9)) fun z0=>match z0 with
    | .inl a3=>
     some (.inl (a3,w64 (a0 + 1)))
    | .inr z=>
     some (.inr (.inl z))
  else
   some (.inr (.inr s9))
noncomputable def F_raddleref17_numbered (p0:(List Int)) (p1:Int):Option Bool:=
 Option.bind (α:=Int ⊕ Bool) (
  (whileO (raddleref17_numbered_l1 p0) (0,0)).bind fun z0=>match z0 with
   | .inl z=>
    some (.inr z)
   | .inr a0=>
    some (.inl a0)) fun z0=>match z0 with
  | .inl o5=>
   some (decide (o5 ≤ p1))
  | .inr z=>
   some z
noncomputable def raddleref17_next_s0_l1 (p1:Int):(List Int × Int)→Option ((List Int × Int) ⊕ ((Bool × (List Int)) ⊕ (List Int))):=fun s0=>match s0 with
 | (s6,s7)=>
  if decide (0 ≤ s7) then
   (idxO s6 s7).bind fun a2=>
   (setO s6 s7 (w64 (a2 + 1))).bind fun a0=>
   (idxO a0 s7).bind fun a3=>
   if decide (a3 < p1) then
    some (.inr (.inl (true,a0)))
   else
    (setO a0 s7 0).bind fun a4=>
    some (.inl (a4,w64 (s7 - 1)))
  else
   some (.inr (.inr s6))
noncomputable def F_raddleref17_next_s0 (p0:(List Int)) (p1:Int):Option (Bool × (List Int)):=
 Option.bind (α:=List Int ⊕ (Bool × (List Int))) (
  (whileO (raddleref17_next_s0_l1 p1) (p0,w64 ((p0.length:Int) - 1))).bind fun z0=>match z0 with
   | .inl z=>
    some (.inr z)
   | .inr a0=>
    some (.inl a0)) fun z0=>match z0 with
  | .inl o2=>
   (keepO p0 o2).bind fun _=>
   some (false,o2)
  | .inr z=>
   (keepO p0 z.2).bind fun _=>
   some z
noncomputable def raddleref17_best_l1 (p1:Int) (p0:api_Grid):(List Int × List Int × Int)→Option ((List Int × List Int × Int) ⊕ ((List Int) × Int)):=fun s0=>match s0 with
 | (a2,a3,a4)=>
  Option.bind (α:=(List Int × List Int × Int)) (
   (F_raddleref17_numbered a2 p1).bind fun a9=>
   if a9 then
    (F_raddleref17_changed_s1 p0 a2).bind fun a0=>
    (F_raddleref17_Apart a0.1 p0).bind fun a5=>
    Option.bind (α:=Bool) (
     if (a3.length:Int) == 0 then
      some true
     else
      some (decide (a5 < a4))) fun aa=>
    if aa then
     (appO ([]:List Int) a0.2).bind fun ab=>
     some (a0.2,ab,a5)
    else
     some (a0.2,a3,a4)
   else
    some (a2,a3,a4)) fun (ac,a6,a7)=>
  (F_raddleref17_next_s0 ac (if p0.W < p1 then p0.W else p1)).bind fun a8=>
  if !a8.1 then
   some (.inr (a6,a7))
  else
   some (.inl (a8.2,a6,a7))
noncomputable def F_raddleref17_best (p0:api_Grid) (p1:Int):Option ((List Int) × Int):=
 (makeO p0.W (0:Int)).bind fun a0=>
 (whileO (raddleref17_best_l1 p1 p0) (a0,([]:List Int),0)).bind fun z=>
  some z
noncomputable def F_raddleref17_Best (p0:api_Grid) (p1:Int):Option ((List Int) × Int × Int):=
 (F_raddleref17_Few p0).bind fun r9=>
 if r9 != 0 then
  some (([]:(List Int)),0,r9)
 else
  Option.bind (α:=Bool) (
   if decide (p1 < 1) then
    some true
   else
    some (decide (40 < p1))) fun a2=>
  if a2 then
   some (([]:(List Int)),0,2)
  else
   (F_raddleref17_best p0 p1).bind fun a0=>
   some (a0.1,a0.2,0)
noncomputable def raddleref02_Check_l1 (p0:(List Int)):Int→Option (Int ⊕ (Int ⊕ Unit)):=fun s0=>match s0 with
 | a0=>
  if decide (a0 < (p0.length:Int)) then
   Option.bind (α:=Bool) (
    (idxO p0 a0).bind fun a2=>
    if decide (a2 < 0) then
     some true
    else
     some (decide (400 ≤ a2))) fun a3=>
   if a3 then
    some (.inr (.inl 8))
   else
    some (.inl (w64 (a0 + 1)))
  else
   some (.inr (.inr ()))
noncomputable def F_raddleref02_Check (p0:(List Int)):Option Int:=
 if decide (400 < (p0.length:Int)) then
  some 4
 else
  Option.bind (α:=Unit ⊕ Int) (
   (whileO (raddleref02_Check_l1 p0) 0).bind fun z0=>match z0 with
    | .inl z=>
     some (.inr z)
    | .inr _=>
     some (.inl ())) fun z0=>match z0 with
   | .inl _=>
    some 0
   | .inr z=>
    some z
theorem c_raddleref02_Check (E:Nat→Prop) (w0:World) (p0:(List Int)) (v0:Value) (r:Int) (h:F_raddleref02_Check p0=some r) (S:St0 E [] w0 w0 [] [fRep (rL (rI .i64)) (v0) p0]) :
 Calls Try.prog 20 #[v0] w0 (Ret (X:=Unit) E [] w0 (fun _=>.int .i64 r) (fun _=>[]) (fun _=>[])):=by
 unfold F_raddleref02_Check at h
 obtain ⟨a4,a5,_,rfl,_⟩:=S.know (i:=0) (e:=fRep (rL (rI .i64)) (v0) p0) y
 refine sEnter (args:=[.slice a4 p0.length a5]) 25 Try.func20 y y (by simp) S (fun a S=>?_)
 refine sSeq (fun K3 ar=>sRegion (sN S fun a S=>?_))
 refine lT (ar _ _ (sSeq (fun K4 au=>sSeq (fun K5 av=>sRegion (sM S fun a S=>?_)))))
 refine sLen S (wN y) y Try.underlying25 y y (lb y) fun a S=>sBin _ S (wN y) y y y (bGt _ _ _ _ .i64 (p0.length:Int) 400) y (lb y) fun a S=>lT (av _ _ ?_)
 rcases iS h with ⟨aa,h⟩ | ⟨aa,h⟩
 ·refine sCondT S y aa (sSeq (fun K7 aw=>sRegion (sN S fun a S=>?_)))
  refine lT (aw _ _ ?_)
  obtain rfl:=tS h
  exact wp_ret (rThen (sRet (iv 4) S (rsl1 y (rvT (t:=2) (v:=iv 4) S y)) ⟨(),y,S.mem.sel [] [] (by decide) y y⟩))
 refine sCondF S y aa (wp_skip (leafT (au _ _ ?_)))
 obtain ⟨t8,h,g9⟩:=bS h
 refine sCut (fun a w=>.inl ()=t8∧St [] E [] w0 25 a w [] [] []) ?_ (fun a w hI=>?_)
 rotate_left
 ·obtain ⟨rfl,S⟩:=hI
  have h:=g9
  try dsimp only at h
  refine sSeq (fun az ab=>sRegion (sN S fun a S=>?_))
  refine lT (ab _ _ ?_)
  obtain rfl:=tS h
  exact wp_ret (sRet (iv 0) S (rsl1 y (rvT (t:=2) (v:=iv 0) S y)) ⟨(),y,S.mem.sel [] [] (by decide) y y⟩)
 refine sSeq (fun aA ac=>sRegion (sN S fun a S=>?_))
 refine lT (ac _ _ (wp_block ?_))
 obtain ⟨aC,hl,al⟩:=bS h
 refine sLoop hl (fun s0 a w=>match s0 with | a3=>St [] E [] w0 25 a w [(0,.slice a4 p0.length a5),(3,iv a3)] [] [fRep (rL (rI .i64)) (.slice a4 p0.length a5) p0]) (S.fix [] [0] (by decide) y y y) ?_
 clear hl h
 intro a3 a w c0 hI h a8
 unfold raddleref02_Check_l1 at h
 dsimp only at h hI
 have S:=hI
 refine sSeq (fun aG ae=>sSeq (fun aH af=>sRegion (sM S fun a S=>?_)))
 refine sM S fun a S=>?_
 refine sLen S (wN y) y Try.underlying25 y y (lb y) fun a S=>sBin _ S (wN y) y y y (bLt _ _ _ _ .i64 a3 (p0.length:Int)) y (lb y) fun a S=>lT (af _ _ ?_)
 rcases iS h with ⟨a6,h⟩ | ⟨a6,h⟩
 rotate_left
 ·refine sCondF S y a6 ?_
  obtain rfl:=tS h
  obtain rfl:=a8 _ y
  have h:=al
  try dsimp only at h
  exact wp_exit (xThen (xThen (xHit (leafT (⟨Option.some.inj h,S.fix [] [] (by decide) y y y⟩)))))
 refine sCondT S y a6 (wp_skip (leafT (ae _ _ ?_)))
 refine sSeq (fun aI ag=>wp_block ?_)
 obtain ⟨ax,h,ay⟩:=bS h
 refine sCut (fun a w=>∃ ah,ah=ax∧St [] E [] w0 25 a w [(0,.slice a4 p0.length a5),(3,iv a3),(24,.bool ah)] [] [fRep (rL (rI .i64)) (.slice a4 p0.length a5) p0]) ?_ (fun a w hI=>?_)
 rotate_left
 ·obtain ⟨ah,rfl,S⟩:=hI
  have h:=ay
  try dsimp only at h
  rcases iS h with ⟨a7,h⟩ | ⟨a7,h⟩
  rotate_left
  ·refine sCondF S y a7 (wp_skip (leafB (leafT (ag _ _ ?_))))
   refine sRegion (sM S fun a S=>?_)
   refine sBin _ S (wN y) y y y (bAdd _ _ _ _ a3 1) y (lb y) fun a S=>sN S fun a S=>?_
   exact lT (⟨w64 (a3 + 1),(Option.some.inj h).symm,(S.fix [] [0] (by decide) y y y)⟩)
  refine sCondT S y a7 (sSeq (fun aJ ai=>sRegion (sN S fun a S=>?_)))
  refine lT (ai _ _ ?_)
  obtain rfl:=tS h
  obtain rfl:=a8 _ y
  have h:=al
  try dsimp only at h
  obtain rfl:=tS h
  have h:=g9
  try dsimp only at h
  obtain rfl:=tS h
  exact wp_ret (rBlock (rThen (rThen (rBlock (rThen (sRet (iv 8) S (rsl1 y (rvT (t:=2) (v:=iv 8) S y)) ⟨(),y,S.mem.sel [] [] (by decide) y y⟩))))))
 refine sRegion (sM S fun a S=>?_)
 refine sM S fun a S=>?_
 obtain ⟨a2,a9,h⟩:=bS h
 obtain ⟨am,aj,S⟩:=pIdx (P:=Try.prog) (r:=(rI .i64)) (v:=.slice a4 p0.length a5) (xs:=p0) (j:=a3) 25 3 0 S Try.underlying25 y y a9
 refine sIdxV S (wN y) y y y aj y (lb y) fun a S=>?_
 obtain ⟨ao,S⟩:=pLoad (r:=(rI .i64)) (q:=am) (x:=a2) 0 S y
 obtain rfl:ao=iv a2:=S.mem.know (i:=1) (e:=fRep (rI .i64) (ao) a2) y
 refine sLoadV1 (vq:=am) 0 (iv a2) S (wN y) y y y y y (lb y) fun a S=>sBin _ S (wN y) y y y (bLt _ _ _ _ .i64 a2 0) y (lb y) fun a S=>sM S fun a S=>?_
 rcases iS h with ⟨a0,h⟩ | ⟨a0,h⟩
 ·refine sSkN 5 5 false 18 S y y a0 y fun a S=>sPickT (.bool true) S (wN y) y y a0 y y (lb y) fun a S=>?_
  exact lT (⟨true,Option.some.inj h,S.fix [] [3] (by decide) y y y⟩)
 refine sMove (.slice a4 p0.length a5) S (wG 5 false 18 y y y a0) (.inl y) y y (lb y) fun a S=>sMove (iv a3) S (wG 5 false 18 y y y a0) (.inl y) y y (lb y) fun a S=>?_
 obtain ⟨ap,ak,S⟩:=pIdx (P:=Try.prog) (r:=(rI .i64)) (v:=.slice a4 p0.length a5) (xs:=p0) (j:=a3) 25 3 3 S Try.underlying25 y y a9
 refine sIdxV S (wG 5 false 18 y y y a0) y y y ak y (lb y) fun a S=>?_
 obtain ⟨aq,S⟩:=pLoad (r:=(rI .i64)) (q:=ap) (x:=a2) 0 S y
 obtain rfl:aq=iv a2:=S.mem.know (i:=1) (e:=fRep (rI .i64) (aq) a2) y
 refine sLoadV1 (vq:=ap) 0 (iv a2) S (wG 5 false 18 y y y a0) y y y y y (lb y) fun a S=>sBin _ S (wG 5 false 18 y y y a0) y y y (bGe _ _ _ _ .i64 a2 400) y (lb y) fun a S=>sPickF (.bool (decide (400 ≤ a2))) S (wN y) y y a0 y y (lb y) fun a S=>?_
 exact lT (⟨decide (400 ≤ a2),Option.some.inj h,S.fix [] [6] (by decide) y y y⟩)
instance decGrid:DecidableEq api_Grid:=fun a b=>decidable_of_iff (a.W=b.W∧a.H=b.H∧a.Bits=b.Bits) (by cases a; cases b; simp)
structure Gr (g:api_Grid) (w h:Nat):Prop where
 hw:g.W=(w:Int)
 hh:g.H=(h:Int)
 w0:1 ≤ w
 w1:w ≤ 64
 h0:1 ≤ h
 h1:h ≤ 64
 len:g.Bits.length=w * h
def cell (g:api_Grid) (w x y:Nat):Bool:=g.Bits.getD (y * w + x) false
theorem Gr.at {g:api_Grid} {w h:Nat} (G:Gr g w h) {x y:Nat} (hx:x < w) (hy:y < h):idxO g.Bits (w64 ((w64 ((y:Int) * g.W)) + (x:Int)))=some (cell g w x y):=by
 have h1:y * w + x < w * h:=by
  have:=Nat.mul_le_mul_right w (show y + 1 ≤ h by omega)
  rw [Nat.add_mul,Nat.one_mul,Nat.mul_comm h w] at this
  omega
 have h2:w * h ≤ 64 * 64:=Nat.mul_le_mul G.w1 G.h1
 have e:((y:Int) * g.W)=((y * w:Nat):Int):=by rw [G.hw]; simp
 have hz:w64 ((y * w:Nat):Int)=((y * w:Nat):Int):=w64_of (by omega) (by omega)
 rw [e,hz,w64_of (by omega) (by omega)]
 exact idxO_of (k:=y * w + x) (by omega) (by rw [G.len]; exact h1) |>.trans (by unfold cell; simp [G.len,h1])
def gerr (g:api_Grid):Int:=if 64 < g.W ∨ 64 < g.H then 4 else if g.W < 1 ∨ g.H < 1 ∨ ¬ (g.Bits.length:Int)=g.W * g.H then 8 else 0
theorem gprod {g:api_Grid} (h1:¬ (64 < g.W ∨ 64 < g.H)) (h2:¬ (g.W < 1 ∨ g.H < 1)):w64 (g.W * g.H)=g.W * g.H:=by
 have:=mul_bd (u:=g.W) (v:=g.H) (a:=64) (b:=64) (by omega) (by omega) (by omega) (by omega)
 exact w64_of (by omega) (by omega)
theorem gcheck_eq (g:api_Grid):F_grid_Check g=some (gerr g)∧F_raddleref01_Check g=some (gerr g):=by
 unfold F_grid_Check F_raddleref01_Check gerr
 by_cases c1:64 < g.W ∨ 64 < g.H
 ·constructor
  ·have:(64:Int) < (if g.W < g.H then g.H else g.W):=by split <;> omega
   simp only [dT this,if_true,c1]
  ·by_cases c2:64 < g.W
   ·simp only [dT c2,if_true,Option.bind_some,c1]
   ·simp only [dF c2,dT (show 64 < g.H by omega),Bool.false_eq_true,if_true,if_false,Option.bind_some,c1]
 ·have m1:¬ (64:Int) < (if g.W < g.H then g.H else g.W):=by split <;> omega
  by_cases c2:g.W < 1 ∨ g.H < 1
  ·have m2:(if g.H < g.W then g.H else g.W) < (1:Int):=by split <;> omega
   have c3:g.W < 1 ∨ g.H < 1 ∨ ¬ (g.Bits.length:Int)=g.W * g.H:=by omega
   simp only [dF m1,dT m2,dF (show ¬ 64 < g.W by omega),dF (show ¬ 64 < g.H by omega),Bool.false_eq_true,if_true,if_false,Option.bind_some,c1,c3,true_and]
   by_cases c4:g.W < 1
   ·simp only [dT c4,if_true,Option.bind_some]
   ·simp only [dF c4,dT (show g.H < 1 by omega),Bool.false_eq_true,if_true,if_false,Option.bind_some]
  ·have m2:¬ (if g.H < g.W then g.H else g.W) < (1:Int):=by split <;> omega
   have c4:¬ g.W < 1:=by omega
   have c5:¬ g.H < 1:=by omega
   have hb:(if 64 < g.W ∨ 64 < g.H then (4:Int) else if g.W < 1 ∨ g.H < 1 ∨ ¬ (g.Bits.length:Int)=g.W * g.H then 8 else 0)=if (g.Bits.length:Int)=g.W * g.H then 0 else 8:=by
    rw [if_neg c1]
    by_cases c6:(g.Bits.length:Int)=g.W * g.H
    ·rw [if_neg (by omega),if_pos c6]
    ·rw [if_pos (by omega),if_neg c6]
   rw [hb]
   by_cases c6:(g.Bits.length:Int)=g.W * g.H
   ·rw [if_pos c6]
    simp only [dF m1,dF m2,dF (show ¬ 64 < g.W by omega),dF (show ¬ 64 < g.H by omega),dF c4,dF c5,gprod c1 c2,nF c6,Bool.false_eq_true,if_false,Option.bind_some,and_self]
   ·rw [if_neg c6]
    simp only [dF m1,dF m2,dF (show ¬ 64 < g.W by omega),dF (show ¬ 64 < g.H by omega),dF c4,dF c5,gprod c1 c2,nT c6,Bool.false_eq_true,if_true,if_false,Option.bind_some,and_self]
theorem gerr_zero {g:api_Grid} (h:gerr g=0):∃ w h,Gr g w h:=by
 unfold gerr at h
 by_cases c1:64 < g.W ∨ 64 < g.H
 ·rw [if_pos c1] at h; cases h
 rw [if_neg c1] at h
 by_cases c2:g.W < 1 ∨ g.H < 1 ∨ ¬ (g.Bits.length:Int)=g.W * g.H
 ·rw [if_pos c2] at h; cases h
 have c3:(g.Bits.length:Int)=g.W * g.H:=by omega
 refine ⟨g.W.toNat,g.H.toNat,by omega,by omega,by omega,by omega,by omega,by omega,?_⟩
 have e1:g.W=(g.W.toNat:Int):=by omega
 have e2:g.H=(g.H.toNat:Int):=by omega
 rw [e1,e2,← Int.natCast_mul] at c3
 exact Int.ofNat.inj c3
theorem gr_err {g:api_Grid} {w h:Nat} (G:Gr g w h):gerr g=0:=by
 have:=G.w0
 have:=G.w1
 have:=G.h0
 have:=G.h1
 unfold gerr
 rw [G.hw,G.hh,G.len,if_neg (by omega),if_neg]
 rw [Int.natCast_mul]
 omega
def gm (f:Nat→Nat→Bool) (w h:Nat):api_Grid:=api_Grid.mk (w:Int) (h:Int) (gl f w h)
theorem gm_gr (f:Nat→Nat→Bool) {w h:Nat} (w0:1 ≤ w) (w1:w ≤ 64) (h0:1 ≤ h) (h1:h ≤ 64):Gr (gm f w h) w h:=
 ⟨rfl,rfl,w0,w1,h0,h1,gl_len f w h⟩
theorem gm_cell (f:Nat→Nat→Bool) {w h x y:Nat} (hx:x < w) (hy:y < h):cell (gm f w h) w x y=f x y:=gl_get f w h false x y hx hy
theorem rat_eq {g:api_Grid} {w h:Nat} (G:Gr g w h) {x y:Nat} (hx:x < w) (hy:y < h):F_raddleref01_At g (x:Int) (y:Int)=some (cell g w x y):=by
 unfold F_raddleref01_At
 rw [G.at hx hy]
 rfl
theorem rset_eq {w h:Nat} (hw:w ≤ 64) (hh:h ≤ 64) {s:List Bool} (hs:s.length=w * h) {x y:Nat} (hx:x < w) (hy:y < h) (H:Int) (b:Bool):F_raddleref01_Set_s0 (w:Int) H s (x:Int) (y:Int) b=some (s.set (y * w + x) b):=by
 have hp:w * h ≤ 64 * 64:=Nat.mul_le_mul hw hh
 have hl:=pl_lt hx hy
 have hy2:y * w ≤ y * w + x:=Nat.le_add_right _ _
 have e1:w64 ((y:Int) * (w:Int))=((y * w:Nat):Int):=wmul (by omega)
 have e2:w64 (((y * w:Nat):Int) + (x:Int))=((y * w + x:Nat):Int):=wadd (by omega)
 unfold F_raddleref01_Set_s0
 rw [e1,e2,idxO_nat (by omega),setO_nat (by omega)]
 simp [keepO]
theorem rzero_eq {w h:Nat} (hw:w ≤ 64) (hh:h ≤ 64):F_raddleref01_Zero_s0 (w:Int) (h:Int)=some ⟨(w:Int),(h:Int),List.replicate (w * h) false⟩:=by
 have hp:w * h ≤ 64 * 64:=Nat.mul_le_mul hw hh
 unfold F_raddleref01_Zero_s0
 rw [wmul (by omega),makeO_of (k:=w * h) rfl (by omega)]
 rfl
theorem rsame_grid (a b:api_Grid) (hl:a.Bits.length ≤ 9223372036854775807):F_raddleref01_Same a b=some (decide (a=b)):=by
 by_cases h1:a.W=b.W
 case neg=>unfold F_raddleref01_Same; simp only [nT h1,if_true,Option.bind_some]; rw [decide_eq_false]; rintro rfl; exact h1 rfl
 by_cases h2:a.H=b.H
 case neg=>unfold F_raddleref01_Same; simp only [nF h1,nT h2,Bool.false_eq_true,if_false,if_true,Option.bind_some]; rw [decide_eq_false]; rintro rfl; exact h2 rfl
 by_cases h3:(a.Bits.length:Int)=(b.Bits.length:Int)
 case neg=>unfold F_raddleref01_Same; simp only [nF h1,nF h2,nT h3,Bool.false_eq_true,if_false,if_true,Option.bind_some]; rw [decide_eq_false]; rintro rfl; exact h3 rfl
 have hw:whileO (raddleref01_Same_l1 a b) 0=some (if a.Bits=b.Bits then .inr () else .inl false):=by
  refine loop_eql a.Bits b.Bits (by omega) _ _ (fun k hk=>?_) ?_
  ·unfold raddleref01_Same_l1
   simp only [dT (show (k:Int) < (a.Bits.length:Int) by omega),if_true,idxO_nat hk,idxO_nat (xs:=b.Bits) (k:=k) (by omega),Option.bind_some,w64_succ (show k < 9223372036854775807 by omega)]
   by_cases e:a.Bits[k]=b.Bits[k]'(by omega)
   ·rw [if_pos e,e]; simp
   ·rw [if_neg e,if_pos (by simpa using e)]
  ·unfold raddleref01_Same_l1; simp
 unfold F_raddleref01_Same
 simp only [nF h1,nF h2,nF h3,Bool.false_eq_true,if_false,Option.bind_some,hw]
 by_cases e:a.Bits=b.Bits
 ·rw [if_pos e]
  have:a=b:=by cases a; cases b; simp_all
  simp [this]
 ·rw [if_neg e]
  have:¬ a=b:=fun h=>e (by rw [h])
  simp [this]
theorem rgreat_eq (g:api_Grid):F_raddleref01_Great g=some (decide (4200 < g.Bits.length)):=by
 unfold F_raddleref01_Great
 congr 1
 exact decide_eq_decide.2 (by omega)
noncomputable def raddleref02_Place_l1 (p1:Int) (p0:(List Int)) (p2:Int):Int→Option (Int ⊕ (Int ⊕ Unit)):=fun s0=>match s0 with
 | s7=>
  if decide (s7 < p1) then
   (idxO p0 s7).bind fun a0=>
   if a0 == p2 then
    some (.inr (.inl s7))
   else
    some (.inl (w64 (s7 + 1)))
  else
   some (.inr (.inr ()))
noncomputable def F_raddleref02_Place (p0:(List Int)) (p1:Int) (p2:Int):Option Int:=
 Option.bind (α:=Unit ⊕ Int) (
  (whileO (raddleref02_Place_l1 p1 p0 p2) 0).bind fun z0=>match z0 with
   | .inl z=>
    some (.inr z)
   | .inr _=>
    some (.inl ())) fun z0=>match z0 with
  | .inl _=>
   some (-1)
  | .inr z=>
   some z
theorem c_raddleref02_Place (E:Nat→Prop) (w0:World) (p0:(List Int)) (v0:Value) (p1:Int) (p2:Int) (r:Int) (h:F_raddleref02_Place p0 p1 p2=some r) (S:St0 E [] w0 w0 [] [fRep (rL (rI .i64)) (v0) p0]) :
 Calls Try.prog 50 #[v0,iv p1,iv p2] w0 (Ret (X:=Unit) E [] w0 (fun _=>.int .i64 r) (fun _=>[]) (fun _=>[])):=by
 unfold F_raddleref02_Place at h
 obtain ⟨a4,a5,_,rfl,_⟩:=S.know (i:=0) (e:=fRep (rL (rI .i64)) (v0) p0) y
 refine sEnter (args:=[.slice a4 p0.length a5,iv p1,iv p2]) 20 Try.func50 y y (by simp) S (fun a S=>?_)
 refine sSeq (fun K3 ai=>sRegion (sN S fun a S=>?_))
 refine lT (ai _ _ ?_)
 obtain ⟨t4,h,g5⟩:=bS h
 refine sCut (fun a w=>.inl ()=t4∧St [] E [] w0 20 a w [] [] []) ?_ (fun a w hI=>?_)
 rotate_left
 ·obtain ⟨rfl,S⟩:=hI
  have h:=g5
  try dsimp only at h
  refine sSeq (fun ak a6=>sRegion (sN S fun a S=>?_))
  refine lT (a6 _ _ ?_)
  obtain rfl:=tS h
  exact wp_ret (sRet (iv (-1)) S (rsl1 y (rvT (t:=6) (v:=iv (-1)) S y)) ⟨(),y,S.mem.sel [] [] (by decide) y y⟩)
 refine sSeq (fun K6 aj=>sRegion (sN S fun a S=>?_))
 refine lT (aj _ _ (wp_block ?_))
 obtain ⟨al,hl,g9⟩:=bS h
 refine sLoop hl (fun s0 a w=>match s0 with | s7=>St [] E [] w0 20 a w [(0,.slice a4 p0.length a5),(1,iv p1),(2,iv p2),(7,iv s7)] [] [fRep (rL (rI .i64)) (.slice a4 p0.length a5) p0]) (S.fix [] [0] (by decide) y y y) ?_
 clear hl h
 intro s7 a w c0 hI h af
 unfold raddleref02_Place_l1 at h
 dsimp only at h hI
 have S:=hI
 refine sSeq (fun am a7=>sSeq (fun ao a8=>sRegion (sM S fun a S=>?_)))
 refine sM S fun a S=>?_
 refine sBin _ S (wN y) y y y (bLt _ _ _ _ .i64 s7 p1) y (lb y) fun a S=>lT (a8 _ _ ?_)
 rcases iS h with ⟨a0,h⟩ | ⟨a0,h⟩
 rotate_left
 ·refine sCondF S y a0 ?_
  obtain rfl:=tS h
  obtain rfl:=af _ y
  have h:=g9
  try dsimp only at h
  exact wp_exit (xThen (xThen (xHit (leafT (⟨Option.some.inj h,S.fix [] [] (by decide) y y y⟩)))))
 refine sCondT S y a0 (wp_skip (leafT (a7 _ _ ?_)))
 refine sSeq (fun ap a9=>wp_block ?_)
 refine sSeq (fun aq aa=>sRegion (sM S fun a S=>?_))
 refine sM S fun a S=>?_
 obtain ⟨a3,ab,h⟩:=bS h
 obtain ⟨ag,ac,S⟩:=pIdx (P:=Try.prog) (r:=(rI .i64)) (v:=.slice a4 p0.length a5) (xs:=p0) (j:=s7) 25 3 0 S Try.underlying25 y y ab
 refine sIdxV S (wN y) y y y ac y (lb y) fun a S=>?_
 obtain ⟨ah,S⟩:=pLoad (r:=(rI .i64)) (q:=ag) (x:=a3) 0 S y
 obtain rfl:ah=iv a3:=S.mem.know (i:=1) (e:=fRep (rI .i64) (ah) a3) y
 refine sLoadV1 (vq:=ag) 0 (iv a3) S (wN y) y y y y y (lb y) fun a S=>sM S fun a S=>?_
 refine sBin _ S (wN y) y y y (bEq _ _ _ _ .i64 a3 p2) y (lb y) fun a S=>lT (aa _ _ ?_)
 rcases iS h with ⟨a2,h⟩ | ⟨a2,h⟩
 rotate_left
 ·refine sCondF S y a2 (wp_skip (leafB (leafT (a9 _ _ ?_))))
  refine sRegion (sM S fun a S=>?_)
  refine sBin _ S (wN y) y y y (bAdd _ _ _ _ s7 1) y (lb y) fun a S=>sN S fun a S=>?_
  exact lT (⟨w64 (s7 + 1),(Option.some.inj h).symm,(S.fix [] [3] (by decide) y y y)⟩)
 refine sCondT S y a2 (sSeq (fun ar ae=>sRegion (sM S fun a S=>?_)))
 refine sN S fun a S=>?_
 refine lT (ae _ _ ?_)
 obtain rfl:=tS h
 obtain rfl:=af _ y
 have h:=g9
 try dsimp only at h
 obtain rfl:=tS h
 have h:=g5
 try dsimp only at h
 obtain rfl:=tS h
 exact wp_ret (rBlock (rThen (rThen (rBlock (rThen (sRet (iv s7) S (rsl1 y (rvT (t:=6) (v:=iv s7) S y)) ⟨(),y,S.mem.sel [] [] (by decide) y y⟩))))))
noncomputable def raddleref02_Numbered_l1 (p0:(List Int)):(List Int × Int × Int)→Option ((List Int × Int × Int) ⊕ (List Int × Int)):=fun s0=>match s0 with
 | (a0,a2,a3)=>
  if decide (a3 < (p0.length:Int)) then
   Option.bind (α:=(List Int × Int)) (
    (idxO p0 a3).bind fun a5=>
    (F_raddleref02_Place p0 a3 a5).bind fun a4=>
    if decide (0 ≤ a4) then
     (idxO a0 a4).bind fun a6=>
     (appO a0 ([a6]:List Int)).bind fun a7=>
     some (a7,a2)
    else
     (appO a0 ([a2]:List Int)).bind fun a8=>
     some (a8,w64 (a2 + 1))) fun (a9,aa)=>
   some (.inl (a9,aa,w64 (a3 + 1)))
  else
   some (.inr (a0,a2))
noncomputable def F_raddleref02_Numbered (p0:(List Int)):Option ((List Int) × Int):=
 Option.bind (α:=(List Int × Int)) (
  (whileO (raddleref02_Numbered_l1 p0) (([]:List Int),0,0)).bind fun (a0,a2)=>
   some (a0,a2)) fun (o6,o9)=>
 some (o6,o9)
def c_raddleref02_Numbered_val (r:((List Int) × Int)) (x:Value):Value:=.tuple #[x,.int .i64 r.2]
def c_raddleref02_Numbered_D (r:((List Int) × Int)) (x:Value):List Fact:=[fRep (rL (rI .i64)) x r.1]
theorem c_raddleref02_Numbered (E:Nat→Prop) (w0:World) (p0:(List Int)) (v0:Value) (r:((List Int) × Int)) (h:F_raddleref02_Numbered p0=some r) (S:St0 E [] w0 w0 [] [fRep (rL (rI .i64)) (v0) p0]) :
 Calls Try.prog 42 #[v0] w0 (Ret (X:=Value) E [] w0 (c_raddleref02_Numbered_val r) (fun _=>[]) (c_raddleref02_Numbered_D r)):=by
 unfold F_raddleref02_Numbered at h
 obtain ⟨a8,a9,_,rfl,_⟩:=S.know (i:=0) (e:=fRep (rL (rI .i64)) (v0) p0) y
 refine sEnter (args:=[.slice a8 p0.length a9]) 38 Try.func42 y y (by simp) S (fun a S=>?_)
 refine sSeq (fun K3 aU=>sRegion (sN S fun a S=>?_))
 refine sN S fun a S=>?_
 refine lT (aU _ _ (sSeq (fun K4 aV=>sRegion (sN S fun a S=>?_))))
 refine lT (aV _ _ (sSeq (fun K5 aW=>sRegion (sN S fun a S=>?_))))
 refine lT (aW _ _ ?_)
 obtain ⟨aX,h,aZ⟩:=bS h
 refine sCut (fun a w=>∃ o6,∃ o9,(o6,o9)=aX∧∃ ab,∃ ac,St [] E [] w0 38 a w [(4,.slice ab o6.length ac),(5,iv o9)] [eRow (rI .i64) 3 (.slice ab o6.length ac) o6] []) ?_ (fun a w hI=>?_)
 rotate_left
 ·obtain ⟨o6,o9,rfl,ab,ac,S⟩:=hI
  have h:=aZ
  try dsimp only at h
  refine sSeq (fun bc al=>sRegion (sM S fun a S=>?_))
  refine sM S fun a S=>?_
  refine sN S fun a S=>?_
  refine sN S fun a S=>?_
  refine lT (al _ _ ?_)
  obtain rfl:=tS h
  have S:=S.shutR (r:=(rI .i64)) (T:=3) (v:=.slice ab o6.length ac) (xs:=o6) 0 y
  exact wp_ret (sRet (.tuple #[.slice ab o6.length ac,iv o9]) S (rsl2 y (rvT (t:=2) (v:=.slice ab o6.length ac) S y) (rvT (t:=3) (v:=iv o9) S y)) ⟨(.slice ab o6.length ac),y,S.mem.sel [] [0] (by decide) y y⟩)
 refine sSeq (fun bf am=>sRegion (sN S fun a S=>?_))
 refine lT (am _ _ (wp_block ?_))
 have S:=S.nilRow (rI .i64) 3 (α:=Int)
 obtain ⟨bg,hl,b1⟩:=bS h
 refine sLoop hl (fun s0 a w=>match s0 with | (a3,a4,a5)=>∃ a0,∃ a2,St [] E [] w0 38 a w [(0,.slice a8 p0.length a9),(4,.slice a0 a3.length a2),(5,iv a4),(6,iv a5)] [eRow (rI .i64) 3 (.slice a0 a3.length a2) a3] [fRep (rL (rI .i64)) (.slice a8 p0.length a9) p0]) ⟨none,0,S.fix [0] [0] (by decide) y y y⟩ ?_
 clear hl h
 intro s0 a w c0 hI h ao
 obtain ⟨a3,a4,a5⟩:=s0
 unfold raddleref02_Numbered_l1 at h
 dsimp only at h hI
 obtain ⟨a0,a2,S⟩:=hI
 refine sSeq (fun bh ap=>sSeq (fun bi aq=>sRegion (sM S fun a S=>?_)))
 refine sM S fun a S=>?_
 refine sLen S (wN y) y Try.underlying25 y y (lb y) fun a S=>sBin _ S (wN y) y y y (bLt _ _ _ _ .i64 a5 (p0.length:Int)) y (lb y) fun a S=>lT (aq _ _ ?_)
 rcases iS h with ⟨ae,h⟩ | ⟨ae,h⟩
 rotate_left
 ·refine sCondF S y ae ?_
  obtain rfl:=tS h
  obtain rfl:=ao _ y
  have h:=b1
  try dsimp only at h
  exact wp_exit (xThen (xThen (xHit (leafT (⟨a3,a4,Option.some.inj h,a0,a2,S.fix [0] [] (by decide) y y y⟩)))))
 refine sCondT S y ae (wp_skip (leafT (ap _ _ ?_)))
 obtain ⟨b3,h,b4⟩:=bS h
 refine sCut (fun a w=>∃ ag,∃ ak,(ag,ak)=b3∧∃ a6,∃ a7,St [] E [] w0 38 a w [(0,.slice a8 p0.length a9),(4,.slice a6 ag.length a7),(5,iv ak),(6,iv a5)] [eRow (rI .i64) 3 (.slice a6 ag.length a7) ag] [fRep (rL (rI .i64)) (.slice a8 p0.length a9) p0]) ?_ (fun a w hI=>?_)
 rotate_left
 ·obtain ⟨ag,ak,rfl,a6,a7,S⟩:=hI
  have h:=b4
  try dsimp only at h
  refine sRegion (sM S fun a S=>?_)
  refine sBin _ S (wN y) y y y (bAdd _ _ _ _ a5 1) y (lb y) fun a S=>sN S fun a S=>?_
  exact lT (⟨(ag,ak,w64 (a5 + 1)),(Option.some.inj h).symm,⟨a6,a7,S.fix [0] [0] (by decide) y y y⟩⟩)
 refine wp_block ?_
 refine sSeq (fun bj ar=>sRegion (sM S fun a S=>?_))
 refine sM S fun a S=>?_
 refine sM S fun a S=>?_
 refine sM S fun a S=>?_
 obtain ⟨ah,au,h⟩:=bS h
 obtain ⟨aS,av,S⟩:=pIdx (P:=Try.prog) (r:=(rI .i64)) (v:=.slice a8 p0.length a9) (xs:=p0) (j:=a5) 25 3 0 S Try.underlying25 y y au
 refine sIdxV S (wN y) y y y av y (lb y) fun a S=>?_
 obtain ⟨aT,S⟩:=pLoad (r:=(rI .i64)) (q:=aS) (x:=ah) 0 S y
 obtain rfl:aT=iv ah:=S.mem.know (i:=1) (e:=fRep (rI .i64) (aT) ah) y
 refine sLoadV1 (vq:=aS) 0 (iv ah) S (wN y) y y y y y (lb y) fun a S=>?_
 obtain ⟨ai,aw,h⟩:=bS h
 have S1:=S.mem
 refine sCq [.slice a8 p0.length a9,iv a5,iv ah] (iv ai) S callee50 (S1.quiet [3] y) (fun E1 w1 S1=>c_raddleref02_Place E1 w1 p0 (.slice a8 p0.length a9) a5 ah ai aw S1) fun a w S=>?_
 refine sN S fun a S=>?_
 refine lT (ar _ _ (sSeq (fun bk ax=>sSeq (fun bl ay=>sRegion (sM S fun a S=>?_)))))
 refine sBin _ S (wN y) y y y (bGe _ _ _ _ .i64 ai 0) y (lb y) fun a S=>lT (ay _ _ ?_)
 rcases iS h with ⟨af,h⟩ | ⟨af,h⟩
 rotate_left
 ·refine sCondF S y af (wp_skip (leafT (ax _ _ ?_)))
  refine sSeq (fun bm az=>sRegion (sM S fun a S=>?_))
  refine sM S fun a S=>?_
  refine sLit (r:=(rI .i64)) (T:=3) (xs:=([a4]:List Int)) [(0,iv a4)] 1 [iv a4] [iv a4] (iv 0) 8 S (wN y) y y Try.underlying25 y (by decide) (by decide) (by kernel_rfl) y (fun E1 w1 hE=>All.cons y (All.nil _ _ _)) y y (lb y) fun a w aA aC S=>?_
  obtain ⟨b5,aG,h⟩:=bS h
  refine sApp (r:=(rI .i64)) (T:=3) (xs:=a3) (ys:=([a4]:List Int)) (v:=.slice a0 a3.length a2) (u:=.slice aA ([a4]:List Int).length aC) 1 (iv 0) 8 S (wN y) y Try.underlying25 y y (by decide) y y y (src_R (T:=3) 0 S.mem y) aG y (lb y) fun a w aH aI S=>sN S fun a S=>?_
  refine lT (az _ _ (sRegion (sM S fun a S=>?_)))
  refine sBin _ S (wN y) y y y (bAdd _ _ _ _ a4 1) y (lb y) fun a S=>sN S fun a S=>?_
  exact leafL (leafB (leafT (⟨b5,w64 (a4 + 1),Option.some.inj h,aH,aI,S.fix [0] [3] (by decide) y y y⟩)))
 refine sCondT S y af (sSeq (fun bn aJ=>sRegion (sM S fun a S=>?_)))
 refine sM S fun a S=>?_
 refine sM S fun a S=>?_
 obtain ⟨aa,aj,h⟩:=bS h
 obtain ⟨ba,aK,aL⟩:=pIdxR (P:=Try.prog) (r:=(rI .i64)) (T:=3) (v:=.slice a0 a3.length a2) (xs:=a3) (j:=ai) 25 3 0 S Try.underlying25 y y aj
 refine sIdxV S (wN y) y y y aK y (lb y) fun a S=>sLoadR (r:=(rI .i64)) (T:=3) (xs:=a3) (x:=aa) (v:=.slice a0 a3.length a2) (vq:=ba) (j:=ai) 0 (iv aa) S aL (wN y) y y y aj (fun _ _ _ h=>h) (scal_I _) y y (lb y) fun a S=>sLit (r:=(rI .i64)) (T:=3) (xs:=([aa]:List Int)) [(0,iv aa)] 1 [iv aa] [iv aa] (iv 0) 8 S (wN y) y y Try.underlying25 y (by decide) (by decide) (by kernel_rfl) y (fun E1 w1 hE=>All.cons y (All.nil _ _ _)) y y (lb y) fun a w aM aO S=>?_
 obtain ⟨bb,aP,h⟩:=bS h
 refine sApp (r:=(rI .i64)) (T:=3) (xs:=a3) (ys:=([aa]:List Int)) (v:=.slice a0 a3.length a2) (u:=.slice aM ([aa]:List Int).length aO) 1 (iv 0) 8 S (wN y) y Try.underlying25 y y (by decide) y y y (src_R (T:=3) 0 S.mem y) aP y (lb y) fun a w aQ aR S=>sN S fun a S=>?_
 refine lT (aJ _ _ ?_)
 exact wp_exit (xThen (xHit (leafT (⟨bb,a4,Option.some.inj h,aQ,aR,S.fix [0] [3] (by decide) y y y⟩))))
noncomputable def F_raddleref02_Renumber (p0:(List Int)):Option ((List Int) × Int):=
 (F_raddleref02_Check p0).bind fun r6=>
 if r6 != 0 then
  some (([]:(List Int)),r6)
 else
  (F_raddleref02_Numbered p0).bind fun a0=>
  some (a0.1,0)
def c_raddleref02_Renumber_val (r:((List Int) × Int)) (x:Value):Value:=.tuple #[x,.int .i64 r.2]
def c_raddleref02_Renumber_D (r:((List Int) × Int)) (x:Value):List Fact:=[fRep (rL (rI .i64)) x r.1]
theorem c_raddleref02_Renumber (E:Nat→Prop) (w0:World) (p0:(List Int)) (v0:Value) (r:((List Int) × Int)) (h:F_raddleref02_Renumber p0=some r) (S:St0 E [] w0 w0 [] [fRep (rL (rI .i64)) (v0) p0]) :
 Calls Try.prog 23 #[v0] w0 (Ret (X:=Value) E [] w0 (c_raddleref02_Renumber_val r) (fun _=>[]) (c_raddleref02_Renumber_D r)):=by
 unfold F_raddleref02_Renumber at h
 obtain ⟨a4,a5,_,rfl,_⟩:=S.know (i:=0) (e:=fRep (rL (rI .i64)) (v0) p0) y
 refine sEnter (args:=[.slice a4 p0.length a5]) 17 Try.func23 y y (by simp) S (fun a S=>?_)
 refine sSeq (fun K3 ab=>sRegion (sN S fun a S=>?_))
 refine sN S fun a S=>?_
 refine lT (ab _ _ (sSeq (fun K4 ac=>sSeq (fun K5 ae=>sRegion (sM S fun a S=>?_)))))
 obtain ⟨r6,aa,h⟩:=bS h
 have S1:=S.mem
 refine sCq [.slice a4 p0.length a5] (iv r6) S callee20 (S1.quiet [0] y) (fun E1 w1 S1=>c_raddleref02_Check E1 w1 p0 (.slice a4 p0.length a5) r6 aa S1) fun a w S=>?_
 refine sBin _ S (wN y) y y y (bNe _ _ _ _ .i64 r6 0) y (lb y) fun a S=>lT (ae _ _ ?_)
 rcases iS h with ⟨a6,h⟩ | ⟨a6,h⟩
 ·refine sCondT S y a6 (sSeq (fun K9 af=>sRegion (sM S fun a S=>?_)))
  have S1:=S.mem
  refine sCq [.slice a4 p0.length a5] (iv r6) S callee20 (S1.quiet [0] y) (fun E1 w1 S1=>c_raddleref02_Check E1 w1 p0 (.slice a4 p0.length a5) r6 aa S1) fun a w S=>?_
  refine sN S fun a S=>?_
  refine sN S fun a S=>?_
  refine lT (af _ _ ?_)
  obtain rfl:=tS h
  have S:=S.learn (fRep (rL (rI .i64)) (.slice none 0 0) ([]:(List Int))) (rL_nil _ _ _)
  exact wp_ret (rThen (sRet (.tuple #[.slice none 0 0,iv r6]) S (rsl2 y (rvT (t:=2) (v:=.slice none 0 0) S y) (rvT (t:=3) (v:=iv r6) S y)) ⟨(.slice none 0 0),y,S.mem.sel [] [0] (by decide) y y⟩))
 refine sCondF S y a6 (wp_skip (leafT (ac _ _ ?_)))
 refine sSeq (fun ah a7=>sRegion (sM S fun a S=>?_))
 obtain ⟨a0,a8,h⟩:=bS h
 refine sCall (X:=Value) (f:=42) (vs:=[.slice a4 p0.length a5]) (val:=c_raddleref02_Numbered_val a0) (B':=fun _=>[]) (D':=c_raddleref02_Numbered_D a0) [] [] [fRep (rL (rI .i64)) (.slice a4 p0.length a5) p0] [] [0] S (wN y) y callee42 y (by decide) y y (fun E1 w1 S1=>c_raddleref02_Numbered E1 w1 p0 (.slice a4 p0.length a5) a0 a8 S1) y (lb y) fun ag a w S=>?_
 obtain ⟨a2,a3,_,rfl,_⟩:=S.mem.know (i:=0) (e:=fRep (rL (rI .i64)) (ag) a0.1) y
 refine sM S fun a S=>?_
 refine sExtract (vs:=[.slice a2 a0.1.length a3,iv a0.2]) (.slice a2 a0.1.length a3) S (wN y) y y y y (lb y) fun a S=>sExtract (vs:=[.slice a2 a0.1.length a3,iv a0.2]) (iv a0.2) S (wN y) y y y y (lb y) fun a S=>sN S fun a S=>?_
 refine sN S fun a S=>?_
 refine lT (a7 _ _ (sSeq (fun ai a9=>sRegion (sM S fun a S=>?_))))
 refine sN S fun a S=>?_
 refine sN S fun a S=>?_
 refine lT (a9 _ _ ?_)
 obtain rfl:=tS h
 exact wp_ret (sRet (.tuple #[.slice a2 a0.1.length a3,iv 0]) S (rsl2 y (rvT (t:=2) (v:=.slice a2 a0.1.length a3) S y) (rvT (t:=3) (v:=iv 0) S y)) ⟨(.slice a2 a0.1.length a3),y,S.mem.sel [] [0] (by decide) y y⟩)
noncomputable def F_raddleref02_Used (p0:(List Int)):Option (Int × Int):=
 (F_raddleref02_Check p0).bind fun r6=>
 if r6 != 0 then
  some (0,r6)
 else
  (F_raddleref02_Numbered p0).bind fun a0=>
  some (a0.2,0)
theorem c_raddleref02_Used (E:Nat→Prop) (w0:World) (p0:(List Int)) (v0:Value) (r:(Int × Int)) (h:F_raddleref02_Used p0=some r) (S:St0 E [] w0 w0 [] [fRep (rL (rI .i64)) (v0) p0]) :
 Calls Try.prog 24 #[v0] w0 (Ret (X:=Unit) E [] w0 (fun _=>.tuple #[.int .i64 r.1,.int .i64 r.2]) (fun _=>[]) (fun _=>[])):=by
 unfold F_raddleref02_Used at h
 obtain ⟨a2,a3,_,rfl,_⟩:=S.know (i:=0) (e:=fRep (rL (rI .i64)) (v0) p0) y
 refine sEnter (args:=[.slice a2 p0.length a3]) 17 Try.func24 y y (by simp) S (fun a S=>?_)
 refine sSeq (fun K3 ab=>sRegion (sN S fun a S=>?_))
 refine sN S fun a S=>?_
 refine lT (ab _ _ (sSeq (fun K4 ac=>sSeq (fun K5 ae=>sRegion (sM S fun a S=>?_)))))
 obtain ⟨r6,aa,h⟩:=bS h
 have S1:=S.mem
 refine sCq [.slice a2 p0.length a3] (iv r6) S callee20 (S1.quiet [0] y) (fun E1 w1 S1=>c_raddleref02_Check E1 w1 p0 (.slice a2 p0.length a3) r6 aa S1) fun a w S=>?_
 refine sBin _ S (wN y) y y y (bNe _ _ _ _ .i64 r6 0) y (lb y) fun a S=>lT (ae _ _ ?_)
 rcases iS h with ⟨a6,h⟩ | ⟨a6,h⟩
 ·refine sCondT S y a6 (sSeq (fun K9 af=>sRegion (sM S fun a S=>?_)))
  have S1:=S.mem
  refine sCq [.slice a2 p0.length a3] (iv r6) S callee20 (S1.quiet [0] y) (fun E1 w1 S1=>c_raddleref02_Check E1 w1 p0 (.slice a2 p0.length a3) r6 aa S1) fun a w S=>?_
  refine sN S fun a S=>?_
  refine sN S fun a S=>?_
  refine lT (af _ _ ?_)
  obtain rfl:=tS h
  exact wp_ret (rThen (sRet (.tuple #[iv 0,iv r6]) S (rsl2 y (rvT (t:=2) (v:=iv 0) S y) (rvT (t:=3) (v:=iv r6) S y)) ⟨(),y,S.mem.sel [] [] (by decide) y y⟩))
 refine sCondF S y a6 (wp_skip (leafT (ac _ _ ?_)))
 refine sSeq (fun ah a7=>sRegion (sM S fun a S=>?_))
 obtain ⟨a0,a8,h⟩:=bS h
 refine sCall (X:=Value) (f:=42) (vs:=[.slice a2 p0.length a3]) (val:=c_raddleref02_Numbered_val a0) (B':=fun _=>[]) (D':=c_raddleref02_Numbered_D a0) [] [] [fRep (rL (rI .i64)) (.slice a2 p0.length a3) p0] [] [0] S (wN y) y callee42 y (by decide) y y (fun E1 w1 S1=>c_raddleref02_Numbered E1 w1 p0 (.slice a2 p0.length a3) a0 a8 S1) y (lb y) fun ag a w S=>?_
 obtain ⟨a4,a5,_,rfl,_⟩:=S.mem.know (i:=0) (e:=fRep (rL (rI .i64)) (ag) a0.1) y
 refine sM S fun a S=>?_
 refine sExtract (vs:=[.slice a4 a0.1.length a5,iv a0.2]) (.slice a4 a0.1.length a5) S (wN y) y y y y (lb y) fun a S=>sExtract (vs:=[.slice a4 a0.1.length a5,iv a0.2]) (iv a0.2) S (wN y) y y y y (lb y) fun a S=>sN S fun a S=>?_
 refine sN S fun a S=>?_
 refine lT (a7 _ _ (sSeq (fun ai a9=>sRegion (sM S fun a S=>?_))))
 refine sN S fun a S=>?_
 refine sN S fun a S=>?_
 refine lT (a9 _ _ ?_)
 obtain rfl:=tS h
 exact wp_ret (sRet (.tuple #[iv a0.2,iv 0]) S (rsl2 y (rvT (t:=2) (v:=iv a0.2) S y) (rvT (t:=3) (v:=iv 0) S y)) ⟨(),y,S.mem.sel [] [] (by decide) y y⟩)
def anc_raddlelaw17_ReduceGroups_0:List (List Nat):=[[],[],[0,1],[0,1,2],[],[],[4,5],[4,5,6],[0,1,2,3,4,5,6,7],[0,1,2,3,4,5,6,7,8],[0,1,2,3,4,5,6,7,8,9],[0,1,2,3,4,5,6,7,8,9],[0,1,2,3,4,5,6,7,8,9,11],[0,1,2,3,4,5,6,7,8,9,10,11,12],[0,1,2,3,4,5,6,7,8,9,10,11,12,13]]
def anc_raddlelaw17_ReduceGroups_1:List (List Nat):=[[],[],[],[0,1,2],[],[],[],[0,1,2,3,4,5,6],[0,1,2,3,4,5,6,7]]
noncomputable def raddlelaw17_ReduceGroups_l1 (p1:(List Int)) (a4:Int) (a5:Int) (p0:api_Grid) (a6:(api_Grid × Int × Int)):Int→Option (Int ⊕ (Bool ⊕ Unit)):=fun s0=>match s0 with
 | a0=>
  Option.bind (α:=Bool) (
   (idxO p1 a4).bind fun a7=>
   (idxO p1 a5).bind fun a8=>
   if a7 == a8 then
    some (decide (a0 < p0.H))
   else
    some false) fun a9=>
  if a9 then
   (F_raddleref01_At a6.1 a4 a0).bind fun a2=>
   (F_raddleref01_At a6.1 a5 a0).bind fun a3=>
   if a2 != a3 then
    some (.inr (.inl false))
   else
    some (.inl (w64 (a0 + 1)))
  else
   some (.inr (.inr ()))
noncomputable def raddlelaw17_ReduceGroups_l2 (a2:Int) (p1:(List Int)) (p0:api_Grid) (a3:(api_Grid × Int × Int)):Int→Option (Int ⊕ (Bool ⊕ Unit)):=fun s0=>match s0 with
 | a0=>
  if decide (a0 < a2) then
   Option.bind (α:=Unit ⊕ Bool) (
    (whileO (raddlelaw17_ReduceGroups_l1 p1 a2 a0 p0 a3) 0).bind fun z0=>match z0 with
     | .inl z=>
      some (.inr z)
     | .inr _=>
      some (.inl ())) fun z0=>match z0 with
    | .inl _=>
     some (.inl (w64 (a0 + 1)))
    | .inr z=>
     some (.inr (.inl z))
  else
   some (.inr (.inr ()))
noncomputable def raddlelaw17_ReduceGroups_l3 (p0:api_Grid) (p1:(List Int)) (a2:(api_Grid × Int × Int)):Int→Option (Int ⊕ (Bool ⊕ Unit)):=fun s0=>match s0 with
 | a0=>
  if decide (a0 < p0.W) then
   Option.bind (α:=Unit ⊕ Bool) (
    (whileO (raddlelaw17_ReduceGroups_l2 a0 p1 p0 a2) 0).bind fun z0=>match z0 with
     | .inl z=>
      some (.inr z)
     | .inr _=>
      some (.inl ())) fun z0=>match z0 with
    | .inl _=>
     some (.inl (w64 (a0 + 1)))
    | .inr z=>
     some (.inr (.inl z))
  else
   some (.inr (.inr ()))
noncomputable def F_raddlelaw17_ReduceGroups (p0:api_Grid) (p1:(List Int)) (p2:Int):Option Bool:=
 (F_raddlelaw17_alive).bind fun a3=>
 Option.bind (α:=Bool) (
  (F_raddlelaw17_fit p0).bind fun ac=>
  if !ac then
   some true
  else
   if (p1.length:Int) != p0.W then
    some true
   else
    (F_raddleref02_Check p1).bind fun ae=>
    if ae != 0 then
     some true
    else
     if decide (p2 < 1) then
      some true
     else
      if decide (40 < p2) then
       some true
      else
       some (!a3)) fun af=>
 if af then
  some a3
 else
  (F_reduce_Change p0 p1).bind fun a0=>
  (F_reduce_Best p0 p2).bind fun a2=>
  Option.bind (α:=Bool) (
   if a0.2.2 != 0 then
    some true
   else
    if a2.2.2 != 0 then
     some true
    else
     (F_raddlelaw17_fit a0.1).bind fun ag=>
     if !ag then
      some true
     else
      if a0.1.W != p0.W then
       some true
      else
       if a0.1.H != p0.H then
        some true
       else
        some ((a2.1.length:Int) != p0.W)) fun ah=>
  if ah then
   some false
  else
   Option.bind (α:=Unit ⊕ Bool) (
    (whileO (raddlelaw17_ReduceGroups_l3 p0 p1 a0) 0).bind fun z0=>match z0 with
     | .inl z=>
      some (.inr z)
     | .inr _=>
      some (.inl ())) fun z0=>match z0 with
    | .inl _=>
     (F_raddleref02_Renumber a2.1).bind fun a4=>
     (F_raddleref02_Used p1).bind fun a5=>
     (F_raddleref02_Used a2.1).bind fun a6=>
     Option.bind (α:=Bool) (
      (F_raddleref02_Same a4.1 a2.1).bind fun a7=>
      if !a7 then
       some true
      else
       some (decide (p2 < a6.1))) fun a8=>
     if a8 then
      some false
     else
      Option.bind (α:=Bool) (
       if a3 then
        if decide (p2 < a5.1) then
         (F_raddleref17_Apart a0.1 p0).bind fun a9=>
         some (a0.2.1 == a9)
        else
         if decide (a2.2.1 ≤ a0.2.1) then
          (F_raddleref17_Apart a0.1 p0).bind fun aa=>
          some (a0.2.1 == aa)
         else
          some false
       else
        some false) fun ab=>
      some ab
    | .inr z=>
     some z
theorem c_raddlelaw17_ReduceGroups (E:Nat→Prop) (w0:World) (p0:api_Grid) (v0:Value) (p1:(List Int)) (v1:Value) (p2:Int) (r:Bool) (h:F_raddlelaw17_ReduceGroups p0 p1 p2=some r) (S:St0 E [] w0 w0 [] [fRep r_api_Grid (v0) p0,fRep (rL (rI .i64)) (v1) p1]) :
 Calls Try.prog 4 #[v0,v1,iv p2] w0 (Ret (X:=Unit) E [] w0 (fun _=>.bool r) (fun _=>[]) (fun _=>[])):=by
 unfold F_raddlelaw17_ReduceGroups at h
 obtain ⟨u1,rfl,cp⟩:=S.know (i:=0) (e:=fRep r_api_Grid (v0) p0) y
 have S:=S.learn (fRep (rL rB) u1 p0.Bits) cp
 obtain ⟨a7,a8,_,rfl,_⟩:=cp
 obtain ⟨a9,aa,_,rfl,_⟩:=S.know (i:=2) (e:=fRep (rL (rI .i64)) (v1) p1) y
 refine sEnter (args:=[.agg #[iv p0.W,iv p0.H,.slice a7 p0.Bits.length a8],.slice a9 p1.length aa,iv p2]) 177 Try.func4 y y (by simp) S (fun a S=>?_)
 refine sSeq (fun K7 cy=>sRegion (sBox (v:=.agg #[iv p0.W,iv p0.H,.slice a7 p0.Bits.length a8]) S (wN y) y y [iv p0.W,iv p0.H,.slice a7 p0.Bits.length a8] y y (lb y) fun a b8 w S=>sN S fun a S=>?_))
 refine lT (cy _ _ (sSeq (fun K9 cz=>sRegion ?_)))
 obtain ⟨am,bI,h⟩:=bS h
 have S1:=S.mem
 refine sCq [] (.bool am) S callee18 (S1.quiet [] y) (fun E1 w1 S1=>c_raddlelaw17_alive E1 w1  am bI S1) fun a w S=>?_
 refine sN S fun a S=>?_
 refine lT (cz _ _ (sSeq (fun cU bJ=>?_)))
 obtain ⟨cA,h,cB⟩:=bS h
 refine sCut (fun a w=>∃ bK,bK=cA∧St [] E [] w0 177 a w [(1,.slice a9 p1.length aa),(2,iv p2),(3,.pointer (some ⟨b8,0,none⟩)),(7,.bool am),(50,.bool bK)] [eBox b8 24 [iv p0.W,iv p0.H,.slice a7 p0.Bits.length a8]] [fRep (rL (rI .i64)) (.slice a9 p1.length aa) p1,fRep (rL rB) (.slice a7 p0.Bits.length a8) p0.Bits]) ?_ (fun a w hI=>?_)
 ·refine sRegion (sLoadN (p:=b8) (off:=0) (T:=24) (vs:=[iv p0.W,iv p0.H,.slice a7 p0.Bits.length a8]) 0 [iv p0.W,iv p0.H,.slice a7 p0.Bits.length a8] S (wN y) y y y y y y y (lb y) fun a S=>?_)
  obtain ⟨bL,bM,h⟩:=bS h
  have S1:=S.mem
  refine sCq [.agg #[iv p0.W,iv p0.H,.slice a7 p0.Bits.length a8]] (.bool bL) S callee19 (S1.quiet [1] y) (fun E1 w1 S1=>c_raddlelaw17_fit E1 w1 p0 (.agg #[iv p0.W,iv p0.H,.slice a7 p0.Bits.length a8]) bL bM S1) fun a w S=>?_
  refine sNot (b:=bL) S (wN y) y y y (lb y) fun a S=>sM S fun a S=>?_
  rcases iS h with ⟨ap,h⟩ | ⟨ap,h⟩
  ·refine sSkN 5 3 false 27 S y y ap y fun a S=>sPickT (.bool true) S (wN y) y y ap y y (lb y) fun a S=>sM S fun a S=>?_
   refine sSkN 3 10 false 34 S y y y y fun a S=>sPickT (.bool true) S (wN y) y y y y y (lb y) fun a S=>sM S fun a S=>?_
   refine sSkN 2 15 false 39 S y y y y fun a S=>sPickT (.bool true) S (wN y) y y y y y (lb y) fun a S=>sM S fun a S=>?_
   refine sSkN 2 19 false 43 S y y y y fun a S=>sPickT (.bool true) S (wN y) y y y y y (lb y) fun a S=>sM S fun a S=>?_
   refine sSkN 2 23 false 47 S y y y y fun a S=>sPickT (.bool true) S (wN y) y y y y y (lb y) fun a S=>?_
   exact lT (⟨true,Option.some.inj h,S.fix [0] [2,0] (by decide) y y y⟩)
  refine sMove (.slice a9 p1.length aa) S (wG 3 false 27 y y y ap) (.inl y) y y (lb y) fun a S=>sLen S (wG 3 false 27 y y y ap) y Try.underlying25 y y (lb y) fun a S=>sField (b:=b8) (off:=0) 0 0 S (wG 3 false 27 y y y ap) y y y y y (lb y) fun a S=>sLoad1 0 (iv p0.W) S (wG 3 false 27 y y y ap) y y y y y y (lb y) fun a S=>sBin _ S (wG 3 false 27 y y y ap) y y y (bNe _ _ _ _ .i64 (p1.length:Int) p0.W) y (lb y) fun a S=>sPickF (.bool ((p1.length:Int) != p0.W)) S (wN y) y y ap y y (lb y) fun a S=>sM S fun a S=>?_
  rcases iS h with ⟨aA,h⟩ | ⟨aA,h⟩
  ·refine sSkN 3 10 false 34 S y y aA y fun a S=>sPickT (.bool true) S (wN y) y y aA y y (lb y) fun a S=>sM S fun a S=>?_
   refine sSkN 2 15 false 39 S y y y y fun a S=>sPickT (.bool true) S (wN y) y y y y y (lb y) fun a S=>sM S fun a S=>?_
   refine sSkN 2 19 false 43 S y y y y fun a S=>sPickT (.bool true) S (wN y) y y y y y (lb y) fun a S=>sM S fun a S=>?_
   refine sSkN 2 23 false 47 S y y y y fun a S=>sPickT (.bool true) S (wN y) y y y y y (lb y) fun a S=>?_
   exact lT (⟨true,Option.some.inj h,S.fix [0] [2,0] (by decide) y y y⟩)
  refine sMove (.slice a9 p1.length aa) S (wG 10 false 34 y y y aA) (.inl y) y y (lb y) fun a S=>?_
  obtain ⟨bG,bN,h⟩:=bS h
  have S1:=S.mem
  refine sCallQ (X:=Unit) (f:=20) (vs:=[.slice a9 p1.length aa]) (val:=fun _=>iv bG) S (wG 10 false 34 y y y aA) y callee20 y (S1.quiet [2] y) (fun E1 w1 S1=>c_raddleref02_Check E1 w1 p1 (.slice a9 p1.length aa) bG bN S1) y (lb y) fun _ a w S=>?_
  refine sBin _ S (wG 10 false 34 y y y aA) y y y (bNe _ _ _ _ .i64 bG 0) y (lb y) fun a S=>sPickF (.bool (bG != 0)) S (wN y) y y aA y y (lb y) fun a S=>sM S fun a S=>?_
  rcases iS h with ⟨aG,h⟩ | ⟨aG,h⟩
  ·refine sSkN 2 15 false 39 S y y aG y fun a S=>sPickT (.bool true) S (wN y) y y aG y y (lb y) fun a S=>sM S fun a S=>?_
   refine sSkN 2 19 false 43 S y y y y fun a S=>sPickT (.bool true) S (wN y) y y y y y (lb y) fun a S=>sM S fun a S=>?_
   refine sSkN 2 23 false 47 S y y y y fun a S=>sPickT (.bool true) S (wN y) y y y y y (lb y) fun a S=>?_
   exact lT (⟨true,Option.some.inj h,S.fix [0] [2,0] (by decide) y y y⟩)
  refine sMove (iv p2) S (wG 15 false 39 y y y aG) (.inl y) y y (lb y) fun a S=>sBin _ S (wG 15 false 39 y y y aG) y y y (bLt _ _ _ _ .i64 p2 1) y (lb y) fun a S=>sPickF (.bool (decide (p2 < 1))) S (wN y) y y aG y y (lb y) fun a S=>sM S fun a S=>?_
  rcases iS h with ⟨aH,h⟩ | ⟨aH,h⟩
  ·refine sSkN 2 19 false 43 S y y aH y fun a S=>sPickT (.bool true) S (wN y) y y aH y y (lb y) fun a S=>sM S fun a S=>?_
   refine sSkN 2 23 false 47 S y y y y fun a S=>sPickT (.bool true) S (wN y) y y y y y (lb y) fun a S=>?_
   exact lT (⟨true,Option.some.inj h,S.fix [0] [2,0] (by decide) y y y⟩)
  refine sMove (iv p2) S (wG 19 false 43 y y y aH) (.inl y) y y (lb y) fun a S=>sBin _ S (wG 19 false 43 y y y aH) y y y (bGt _ _ _ _ .i64 p2 40) y (lb y) fun a S=>sPickF (.bool (decide (40 < p2))) S (wN y) y y aH y y (lb y) fun a S=>sM S fun a S=>?_
  rcases iS h with ⟨aI,h⟩ | ⟨aI,h⟩
  ·refine sSkN 2 23 false 47 S y y aI y fun a S=>sPickT (.bool true) S (wN y) y y aI y y (lb y) fun a S=>?_
   exact lT (⟨true,Option.some.inj h,S.fix [0] [2,0] (by decide) y y y⟩)
  refine sMove (.bool am) S (wG 23 false 47 y y y aI) (.inl y) y y (lb y) fun a S=>sNot (b:=am) S (wG 23 false 47 y y y aI) y y y (lb y) fun a S=>sPickF (.bool (!am)) S (wN y) y y aI y y (lb y) fun a S=>?_
  exact lT (⟨!am,Option.some.inj h,S.fix [0] [2,0] (by decide) y y y⟩)
 obtain ⟨bK,rfl,S⟩:=hI
 have h:=cB
 try dsimp only at h
 rcases iS h with ⟨aT,h⟩ | ⟨aT,h⟩
 ·refine sCondT S y aT (sSeq (fun cV bO=>sRegion (sM S fun a S=>?_)))
  refine sN S fun a S=>?_
  refine lT (bO _ _ ?_)
  obtain rfl:=tS h
  exact wp_ret (rThen (sRet (.bool am) S (rsl1 y (rvT (t:=6) (v:=.bool am) S y)) ⟨(),y,S.mem.sel [] [] (by decide) y y⟩))
 refine sCondF S y aT (wp_skip (leafT (bJ _ _ ?_)))
 refine sSeq (fun cW bP=>sRegion (sLoadN (p:=b8) (off:=0) (T:=24) (vs:=[iv p0.W,iv p0.H,.slice a7 p0.Bits.length a8]) 0 [iv p0.W,iv p0.H,.slice a7 p0.Bits.length a8] S (wN y) y y y y y y y (lb y) fun a S=>sM S fun a S=>?_))
 obtain ⟨a0,bQ,h⟩:=bS h
 have S:=S.learn (fRep r_api_Grid (.agg #[iv p0.W,iv p0.H,.slice a7 p0.Bits.length a8]) p0) ⟨_,y,S.mem.know (i:=1) (e:=fRep (rL rB) (.slice a7 p0.Bits.length a8) p0.Bits) y⟩
 refine sCall (X:=Value) (f:=12) (vs:=[.agg #[iv p0.W,iv p0.H,.slice a7 p0.Bits.length a8],.slice a9 p1.length aa]) (val:=c_reduce_Change_val a0) (B':=fun _=>[]) (D':=c_reduce_Change_D a0) [] [eBox b8 24 [iv p0.W,iv p0.H,.slice a7 p0.Bits.length a8]] [fRep r_api_Grid (.agg #[iv p0.W,iv p0.H,.slice a7 p0.Bits.length a8]) p0,fRep (rL (rI .i64)) (.slice a9 p1.length aa) p1] [0] [0,1] S (wN y) y callee12 y (by decide) y y (fun E1 w1 S1=>c_reduce_Change E1 w1 p0 (.agg #[iv p0.W,iv p0.H,.slice a7 p0.Bits.length a8]) p1 (.slice a9 p1.length aa) a0 bQ S1) y (lb y) fun cC a w S=>?_
 obtain ⟨cD,rfl,b5⟩:=S.mem.know (i:=0) (e:=fRep r_api_Grid (cC) a0.1) y
 have S:=S.learn (fRep (rL rB) cD a0.1.Bits) b5
 obtain ⟨a2,a3,_,rfl,_⟩:=b5
 refine sM S fun a S=>?_
 refine sExtract (vs:=[.agg #[iv a0.1.W,iv a0.1.H,.slice a2 a0.1.Bits.length a3],iv a0.2.1,iv a0.2.2]) (.agg #[iv a0.1.W,iv a0.1.H,.slice a2 a0.1.Bits.length a3]) S (wN y) y y y y (lb y) fun a S=>sExtract (vs:=[.agg #[iv a0.1.W,iv a0.1.H,.slice a2 a0.1.Bits.length a3],iv a0.2.1,iv a0.2.2]) (iv a0.2.1) S (wN y) y y y y (lb y) fun a S=>sExtract (vs:=[.agg #[iv a0.1.W,iv a0.1.H,.slice a2 a0.1.Bits.length a3],iv a0.2.1,iv a0.2.2]) (iv a0.2.2) S (wN y) y y y y (lb y) fun a S=>sAlloc (.agg #[iv 0,iv 0,.slice none 0 0]) S (wN y) y y [iv 0,iv 0,.slice none 0 0] y y (lb y) fun a ac w S=>sStore (p:=ac) (off:=0) (T:=24) (vs:=[iv 0,iv 0,.slice none 0 0]) (v:=.agg #[iv a0.1.W,iv a0.1.H,.slice a2 a0.1.Bits.length a3]) 0 [iv a0.1.W,iv a0.1.H,.slice a2 a0.1.Bits.length a3] S (wN y) y y y y y y y (by simp) y fun a w S=>sN S fun a S=>?_
 refine sN S fun a S=>?_
 refine lT (bP _ _ (sSeq (fun cX bR=>sRegion (sLoadN (p:=b8) (off:=0) (T:=24) (vs:=[iv p0.W,iv p0.H,.slice a7 p0.Bits.length a8]) 1 [iv p0.W,iv p0.H,.slice a7 p0.Bits.length a8] S (wN y) y y y y y y y (lb y) fun a S=>sM S fun a S=>?_))))
 obtain ⟨a4,bU,h⟩:=bS h
 refine sCall (X:=Value) (f:=21) (vs:=[.agg #[iv p0.W,iv p0.H,.slice a7 p0.Bits.length a8],iv p2]) (val:=c_reduce_Best_val a4) (B':=fun _=>[]) (D':=c_reduce_Best_D a4) [] [eBox ac 24 [iv a0.1.W,iv a0.1.H,.slice a2 a0.1.Bits.length a3],eBox b8 24 [iv p0.W,iv p0.H,.slice a7 p0.Bits.length a8]] [fRep r_api_Grid (.agg #[iv p0.W,iv p0.H,.slice a7 p0.Bits.length a8]) p0] [0,1] [2] S (wN y) y callee21 y (by decide) y y (fun E1 w1 S1=>c_reduce_Best E1 w1 p0 (.agg #[iv p0.W,iv p0.H,.slice a7 p0.Bits.length a8]) p2 a4 bU S1) y (lb y) fun cE a w S=>?_
 obtain ⟨a5,a6,_,rfl,_⟩:=S.mem.know (i:=0) (e:=fRep (rL (rI .i64)) (cE) a4.1) y
 refine sM S fun a S=>?_
 refine sExtract (vs:=[.slice a5 a4.1.length a6,iv a4.2.1,iv a4.2.2]) (.slice a5 a4.1.length a6) S (wN y) y y y y (lb y) fun a S=>sExtract (vs:=[.slice a5 a4.1.length a6,iv a4.2.1,iv a4.2.2]) (iv a4.2.1) S (wN y) y y y y (lb y) fun a S=>sExtract (vs:=[.slice a5 a4.1.length a6,iv a4.2.1,iv a4.2.2]) (iv a4.2.2) S (wN y) y y y y (lb y) fun a S=>sN S fun a S=>?_
 refine sN S fun a S=>?_
 refine sN S fun a S=>?_
 refine lT (bR _ _ (sSeq (fun cY bV=>?_)))
 obtain ⟨cF,h,cG⟩:=bS h
 refine sCut (fun a w=>∃ bW,bW=cF∧St [] E [] w0 177 a w [(1,.slice a9 p1.length aa),(2,iv p2),(3,.pointer (some ⟨b8,0,none⟩)),(7,.bool am),(8,.pointer (some ⟨ac,0,none⟩)),(9,iv a0.2.1),(11,.slice a5 a4.1.length a6),(12,iv a4.2.1),(97,.bool bW)] [eBox b8 24 [iv p0.W,iv p0.H,.slice a7 p0.Bits.length a8],eBox ac 24 [iv a0.1.W,iv a0.1.H,.slice a2 a0.1.Bits.length a3]] [fRep (rL (rI .i64)) (.slice a9 p1.length aa) p1,fRep (rL (rI .i64)) (.slice a5 a4.1.length a6) a4.1,fRep (rL rB) (.slice a7 p0.Bits.length a8) p0.Bits,fRep (rL rB) (.slice a2 a0.1.Bits.length a3) a0.1.Bits]) ?_ (fun a w hI=>?_)
 ·refine sRegion (sM S fun a S=>?_)
  refine sBin _ S (wN y) y y y (bNe _ _ _ _ .i64 a0.2.2 0) y (lb y) fun a S=>sM S fun a S=>?_
  rcases iS h with ⟨aJ,h⟩ | ⟨aJ,h⟩
  ·refine sSkN 2 2 false 68 S y y aJ y fun a S=>sPickT (.bool true) S (wN y) y y aJ y y (lb y) fun a S=>sM S fun a S=>?_
   refine sSkN 3 6 false 72 S y y y y fun a S=>sPickT (.bool true) S (wN y) y y y y y (lb y) fun a S=>sM S fun a S=>?_
   refine sSkN 5 11 false 77 S y y y y fun a S=>sPickT (.bool true) S (wN y) y y y y y (lb y) fun a S=>sM S fun a S=>?_
   refine sSkN 5 18 false 84 S y y y y fun a S=>sPickT (.bool true) S (wN y) y y y y y (lb y) fun a S=>sM S fun a S=>?_
   refine sSkN 5 25 false 91 S y y y y fun a S=>sPickT (.bool true) S (wN y) y y y y y (lb y) fun a S=>?_
   exact lT (⟨true,Option.some.inj h,S.fix [1,0] [4,0,5,1] (by decide) y y y⟩)
  refine sMove (iv a4.2.2) S (wG 2 false 68 y y y aJ) (.inl y) y y (lb y) fun a S=>sBin _ S (wG 2 false 68 y y y aJ) y y y (bNe _ _ _ _ .i64 a4.2.2 0) y (lb y) fun a S=>sPickF (.bool (a4.2.2 != 0)) S (wN y) y y aJ y y (lb y) fun a S=>sM S fun a S=>?_
  rcases iS h with ⟨aC,h⟩ | ⟨aC,h⟩
  ·refine sSkN 3 6 false 72 S y y aC y fun a S=>sPickT (.bool true) S (wN y) y y aC y y (lb y) fun a S=>sM S fun a S=>?_
   refine sSkN 5 11 false 77 S y y y y fun a S=>sPickT (.bool true) S (wN y) y y y y y (lb y) fun a S=>sM S fun a S=>?_
   refine sSkN 5 18 false 84 S y y y y fun a S=>sPickT (.bool true) S (wN y) y y y y y (lb y) fun a S=>sM S fun a S=>?_
   refine sSkN 5 25 false 91 S y y y y fun a S=>sPickT (.bool true) S (wN y) y y y y y (lb y) fun a S=>?_
   exact lT (⟨true,Option.some.inj h,S.fix [1,0] [4,0,5,1] (by decide) y y y⟩)
  refine sLoadN (p:=ac) (off:=0) (T:=24) (vs:=[iv a0.1.W,iv a0.1.H,.slice a2 a0.1.Bits.length a3]) 0 [iv a0.1.W,iv a0.1.H,.slice a2 a0.1.Bits.length a3] S (wG 6 false 72 y y y aC) y y y y y y y (lb y) fun a S=>?_
  obtain ⟨bH,bX,h⟩:=bS h
  have S1:=S.mem
  refine sCallQ (X:=Unit) (f:=19) (vs:=[.agg #[iv a0.1.W,iv a0.1.H,.slice a2 a0.1.Bits.length a3]]) (val:=fun _=>.bool bH) S (wG 6 false 72 y y y aC) y callee19 y (S1.quiet [2] y) (fun E1 w1 S1=>c_raddlelaw17_fit E1 w1 a0.1 (.agg #[iv a0.1.W,iv a0.1.H,.slice a2 a0.1.Bits.length a3]) bH bX S1) y (lb y) fun _ a w S=>?_
  refine sNot (b:=bH) S (wG 6 false 72 y y y aC) y y y (lb y) fun a S=>sPickF (.bool (!bH)) S (wN y) y y aC y y (lb y) fun a S=>sM S fun a S=>?_
  rcases iS h with ⟨aq,h⟩ | ⟨aq,h⟩
  ·refine sSkN 5 11 false 77 S y y aq y fun a S=>sPickT (.bool true) S (wN y) y y aq y y (lb y) fun a S=>sM S fun a S=>?_
   refine sSkN 5 18 false 84 S y y y y fun a S=>sPickT (.bool true) S (wN y) y y y y y (lb y) fun a S=>sM S fun a S=>?_
   refine sSkN 5 25 false 91 S y y y y fun a S=>sPickT (.bool true) S (wN y) y y y y y (lb y) fun a S=>?_
   exact lT (⟨true,Option.some.inj h,S.fix [1,0] [4,0,5,1] (by decide) y y y⟩)
  refine sField (b:=ac) (off:=0) 0 0 S (wG 11 false 77 y y y aq) y y y y y (lb y) fun a S=>sLoad1 0 (iv a0.1.W) S (wG 11 false 77 y y y aq) y y y y y y (lb y) fun a S=>sField (b:=b8) (off:=0) 0 0 S (wG 11 false 77 y y y aq) y y y y y (lb y) fun a S=>sLoad1 1 (iv p0.W) S (wG 11 false 77 y y y aq) y y y y y y (lb y) fun a S=>sBin _ S (wG 11 false 77 y y y aq) y y y (bNe _ _ _ _ .i64 a0.1.W p0.W) y (lb y) fun a S=>sPickF (.bool (a0.1.W != p0.W)) S (wN y) y y aq y y (lb y) fun a S=>sM S fun a S=>?_
  rcases iS h with ⟨ar,h⟩ | ⟨ar,h⟩
  ·refine sSkN 5 18 false 84 S y y ar y fun a S=>sPickT (.bool true) S (wN y) y y ar y y (lb y) fun a S=>sM S fun a S=>?_
   refine sSkN 5 25 false 91 S y y y y fun a S=>sPickT (.bool true) S (wN y) y y y y y (lb y) fun a S=>?_
   exact lT (⟨true,Option.some.inj h,S.fix [1,0] [4,0,5,1] (by decide) y y y⟩)
  refine sField (b:=ac) (off:=0) 1 1 S (wG 18 false 84 y y y ar) y y y y y (lb y) fun a S=>sLoad1 0 (iv a0.1.H) S (wG 18 false 84 y y y ar) y y y y y y (lb y) fun a S=>sField (b:=b8) (off:=0) 1 1 S (wG 18 false 84 y y y ar) y y y y y (lb y) fun a S=>sLoad1 1 (iv p0.H) S (wG 18 false 84 y y y ar) y y y y y y (lb y) fun a S=>sBin _ S (wG 18 false 84 y y y ar) y y y (bNe _ _ _ _ .i64 a0.1.H p0.H) y (lb y) fun a S=>sPickF (.bool (a0.1.H != p0.H)) S (wN y) y y ar y y (lb y) fun a S=>sM S fun a S=>?_
  rcases iS h with ⟨au,h⟩ | ⟨au,h⟩
  ·refine sSkN 5 25 false 91 S y y au y fun a S=>sPickT (.bool true) S (wN y) y y au y y (lb y) fun a S=>?_
   exact lT (⟨true,Option.some.inj h,S.fix [1,0] [4,0,5,1] (by decide) y y y⟩)
  refine sMove (.slice a5 a4.1.length a6) S (wG 25 false 91 y y y au) (.inl y) y y (lb y) fun a S=>sLen S (wG 25 false 91 y y y au) y Try.underlying25 y y (lb y) fun a S=>sField (b:=b8) (off:=0) 0 0 S (wG 25 false 91 y y y au) y y y y y (lb y) fun a S=>sLoad1 1 (iv p0.W) S (wG 25 false 91 y y y au) y y y y y y (lb y) fun a S=>sBin _ S (wG 25 false 91 y y y au) y y y (bNe _ _ _ _ .i64 (a4.1.length:Int) p0.W) y (lb y) fun a S=>sPickF (.bool ((a4.1.length:Int) != p0.W)) S (wN y) y y au y y (lb y) fun a S=>?_
  exact lT (⟨(a4.1.length:Int) != p0.W,Option.some.inj h,S.fix [1,0] [4,0,5,1] (by decide) y y y⟩)
 obtain ⟨bW,rfl,S⟩:=hI
 have h:=cG
 try dsimp only at h
 rcases iS h with ⟨aU,h⟩ | ⟨aU,h⟩
 ·refine sCondT S y aU (sSeq (fun cZ bY=>sRegion (sN S fun a S=>?_)))
  refine lT (bY _ _ ?_)
  obtain rfl:=tS h
  exact wp_ret (rThen (sRet (.bool false) S (rsl1 y (rvT (t:=6) (v:=.bool false) S y)) ⟨(),y,S.mem.sel [] [] (by decide) y y⟩))
 refine sCondF S y aU (wp_skip (leafT (bV _ _ ?_)))
 obtain ⟨cH,h,cq⟩:=bS h
 refine sCut (fun a w=>.inl ()=cH∧St [] E [] w0 177 a w [(1,.slice a9 p1.length aa),(2,iv p2),(3,.pointer (some ⟨b8,0,none⟩)),(7,.bool am),(8,.pointer (some ⟨ac,0,none⟩)),(9,iv a0.2.1),(11,.slice a5 a4.1.length a6),(12,iv a4.2.1)] [eBox b8 24 [iv p0.W,iv p0.H,.slice a7 p0.Bits.length a8],eBox ac 24 [iv a0.1.W,iv a0.1.H,.slice a2 a0.1.Bits.length a3]] [fRep (rL (rI .i64)) (.slice a9 p1.length aa) p1,fRep (rL (rI .i64)) (.slice a5 a4.1.length a6) a4.1,fRep (rL rB) (.slice a7 p0.Bits.length a8) p0.Bits,fRep (rL rB) (.slice a2 a0.1.Bits.length a3) a0.1.Bits]) ?_ (fun a w hI=>?_)
 rotate_left
 ·obtain ⟨rfl,S⟩:=hI
  have h:=cq
  try dsimp only at h
  refine sSeq (fun cI ba=>sRegion (sM S fun a S=>?_))
  obtain ⟨af,bb,h⟩:=bS h
  refine sCall (X:=Value) (f:=23) (vs:=[.slice a5 a4.1.length a6]) (val:=c_raddleref02_Renumber_val af) (B':=fun _=>[]) (D':=c_raddleref02_Renumber_D af) [] [eBox b8 24 [iv p0.W,iv p0.H,.slice a7 p0.Bits.length a8],eBox ac 24 [iv a0.1.W,iv a0.1.H,.slice a2 a0.1.Bits.length a3]] [fRep (rL (rI .i64)) (.slice a5 a4.1.length a6) a4.1] [0,1] [1] S (wN y) y callee23 y (by decide) y y (fun E1 w1 S1=>c_raddleref02_Renumber E1 w1 a4.1 (.slice a5 a4.1.length a6) af bb S1) y (lb y) fun bZ a w S=>?_
  obtain ⟨aw,ax,_,rfl,_⟩:=S.mem.know (i:=0) (e:=fRep (rL (rI .i64)) (bZ) af.1) y
  refine sM S fun a S=>?_
  refine sExtract (vs:=[.slice aw af.1.length ax,iv af.2]) (.slice aw af.1.length ax) S (wN y) y y y y (lb y) fun a S=>sExtract (vs:=[.slice aw af.1.length ax,iv af.2]) (iv af.2) S (wN y) y y y y (lb y) fun a S=>sN S fun a S=>?_
  refine sN S fun a S=>?_
  refine lT (ba _ _ (sSeq (fun cJ bc=>sRegion (sM S fun a S=>?_))))
  obtain ⟨ag,bf,h⟩:=bS h
  have S1:=S.mem
  refine sCq [.slice a9 p1.length aa] (.tuple #[iv ag.1,iv ag.2]) S callee24 (S1.quiet [1] y) (fun E1 w1 S1=>c_raddleref02_Used E1 w1 p1 (.slice a9 p1.length aa) ag bf S1) fun a w S=>?_
  refine sM S fun a S=>?_
  refine sExtract (vs:=[iv ag.1,iv ag.2]) (iv ag.1) S (wN y) y y y y (lb y) fun a S=>sExtract (vs:=[iv ag.1,iv ag.2]) (iv ag.2) S (wN y) y y y y (lb y) fun a S=>sN S fun a S=>?_
  refine sN S fun a S=>?_
  refine lT (bc _ _ (sSeq (fun cK bg=>sRegion (sM S fun a S=>?_))))
  obtain ⟨ah,bh,h⟩:=bS h
  have S1:=S.mem
  refine sCq [.slice a5 a4.1.length a6] (.tuple #[iv ah.1,iv ah.2]) S callee24 (S1.quiet [2] y) (fun E1 w1 S1=>c_raddleref02_Used E1 w1 a4.1 (.slice a5 a4.1.length a6) ah bh S1) fun a w S=>?_
  refine sM S fun a S=>?_
  refine sExtract (vs:=[iv ah.1,iv ah.2]) (iv ah.1) S (wN y) y y y y (lb y) fun a S=>sExtract (vs:=[iv ah.1,iv ah.2]) (iv ah.2) S (wN y) y y y y (lb y) fun a S=>sN S fun a S=>?_
  refine sN S fun a S=>?_
  refine lT (bg _ _ (sSeq (fun cL bi=>?_)))
  obtain ⟨c7,h,c8⟩:=bS h
  refine sCut (fun a w=>∃ aV,aV=c7∧St [] E [] w0 177 a w [(2,iv p2),(3,.pointer (some ⟨b8,0,none⟩)),(7,.bool am),(8,.pointer (some ⟨ac,0,none⟩)),(9,iv a0.2.1),(12,iv a4.2.1),(19,iv ag.1),(158,.bool aV)] [eBox b8 24 [iv p0.W,iv p0.H,.slice a7 p0.Bits.length a8],eBox ac 24 [iv a0.1.W,iv a0.1.H,.slice a2 a0.1.Bits.length a3]] [fRep (rL rB) (.slice a7 p0.Bits.length a8) p0.Bits,fRep (rL rB) (.slice a2 a0.1.Bits.length a3) a0.1.Bits]) ?_ (fun a w hI=>?_)
  ·refine sRegion (sM S fun a S=>?_)
   refine sM S fun a S=>?_
   obtain ⟨aW,bj,h⟩:=bS h
   have S1:=S.mem
   refine sCq [.slice aw af.1.length ax,.slice a5 a4.1.length a6] (.bool aW) S callee17 (S1.quiet [0,2] y) (fun E1 w1 S1=>c_raddleref02_Same E1 w1 af.1 (.slice aw af.1.length ax) a4.1 (.slice a5 a4.1.length a6) aW bj S1) fun a w S=>?_
   refine sNot (b:=aW) S (wN y) y y y (lb y) fun a S=>sM S fun a S=>?_
   rcases iS h with ⟨aj,h⟩ | ⟨aj,h⟩
   ·refine sSkN 3 4 false 154 S y y aj y fun a S=>sPickT (.bool true) S (wN y) y y aj y y (lb y) fun a S=>?_
    exact lT (⟨true,Option.some.inj h,S.fix [0,1] [3,4] (by decide) y y y⟩)
   refine sMove (iv ah.1) S (wG 4 false 154 y y y aj) (.inl y) y y (lb y) fun a S=>sMove (iv p2) S (wG 4 false 154 y y y aj) (.inl y) y y (lb y) fun a S=>sBin _ S (wG 4 false 154 y y y aj) y y y (bGt _ _ _ _ .i64 ah.1 p2) y (lb y) fun a S=>sPickF (.bool (decide (p2 < ah.1))) S (wN y) y y aj y y (lb y) fun a S=>?_
   exact lT (⟨decide (p2 < ah.1),Option.some.inj h,S.fix [0,1] [3,4] (by decide) y y y⟩)
  obtain ⟨aV,rfl,S⟩:=hI
  have h:=c8
  try dsimp only at h
  rcases iS h with ⟨aM,h⟩ | ⟨aM,h⟩
  ·refine sCondT S y aM (sSeq (fun cM bk=>sRegion (sN S fun a S=>?_)))
   refine lT (bk _ _ ?_)
   obtain rfl:=tS h
   exact wp_ret (rThen (sRet (.bool false) S (rsl1 y (rvT (t:=6) (v:=.bool false) S y)) ⟨(),y,S.mem.sel [] [] (by decide) y y⟩))
  refine sCondF S y aM (wp_skip (leafT (bi _ _ ?_)))
  obtain ⟨c9,h,ca⟩:=bS h
  refine sCut (fun a w=>∃ aO,aO=c9∧St [] E [] w0 177 a w [(6,.bool aO)] [] []) ?_ (fun a w hI=>?_)
  rotate_left
  ·obtain ⟨aO,rfl,S⟩:=hI
   have h:=ca
   try dsimp only at h
   obtain rfl:=tS h
   exact wp_ret (sRet (.bool aO) S (rsl1 y (rvT (t:=6) (v:=.bool aO) S y)) ⟨(),y,S.mem.sel [] [] (by decide) y y⟩)
  refine sRegion (sM S fun a S=>?_)
  refine sM S fun a S=>?_
  rcases iS h with ⟨ab,h⟩ | ⟨ab,h⟩
  rotate_left
  ·refine sSkN 4 1 true 160 S y y ab y fun a S=>sSkipU 5 false 164 165 S y y y y (lb y) fun a S=>?_
   refine sSkipU 5 false 164 166 S y y y y (lb y) fun a S=>?_
   refine sSkipU 5 false 164 167 S y y y y (lb y) fun a S=>?_
   refine sSk S y y y ab y y fun a S=>sPickF (.bool false) S (wN y) y y ab y y (lb y) fun a S=>sM S fun a S=>?_
   refine sSkN 5 11 true 170 S y y y y fun a S=>sPickF (.bool false) S (wN y) y y y y y (lb y) fun a S=>sN S fun a S=>?_
   exact lT (⟨false,Option.some.inj h,S.fix [] [] (by decide) y y y⟩)
  refine sMove (iv ag.1) S (wG 1 true 160 y y y ab) (.inl y) y y (lb y) fun a S=>sMove (iv p2) S (wG 1 true 160 y y y ab) (.inl y) y y (lb y) fun a S=>sBin _ S (wG 1 true 160 y y y ab) y y y (bGt _ _ _ _ .i64 ag.1 p2) y (lb y) fun a S=>sMove (.bool (decide (p2 < ag.1))) S (wG 1 true 160 y y y ab) (.inl y) y y (lb y) fun a S=>?_
  rcases iS h with ⟨ak,h⟩ | ⟨ak,h⟩
  ·refine sSkN 3 5 false 164 S y y ak y fun a S=>sPickT (.bool true) S (wG 1 true 160 y y y ab) y y ak y y (lb y) fun a S=>sPickT (.bool true) S (wN y) y y ab y y (lb y) fun a S=>sM S fun a S=>?_
   refine sMove (iv a0.2.1) S (wG 11 true 170 y y y y) (.inl y) y y (lb y) fun a S=>sLoadN (p:=ac) (off:=0) (T:=24) (vs:=[iv a0.1.W,iv a0.1.H,.slice a2 a0.1.Bits.length a3]) 1 [iv a0.1.W,iv a0.1.H,.slice a2 a0.1.Bits.length a3] S (wG 11 true 170 y y y y) y y y y y y y (lb y) fun a S=>sLoadN (p:=b8) (off:=0) (T:=24) (vs:=[iv p0.W,iv p0.H,.slice a7 p0.Bits.length a8]) 0 [iv p0.W,iv p0.H,.slice a7 p0.Bits.length a8] S (wG 11 true 170 y y y y) y y y y y y y (lb y) fun a S=>?_
   obtain ⟨aP,bl,h⟩:=bS h
   have S1:=S.mem
   have S1:=S1.learn (fRep r_api_Grid (.agg #[iv a0.1.W,iv a0.1.H,.slice a2 a0.1.Bits.length a3]) a0.1) ⟨_,y,S1.know (i:=1) (e:=fRep (rL rB) (.slice a2 a0.1.Bits.length a3) a0.1.Bits) y⟩
   have S1:=S1.learn (fRep r_api_Grid (.agg #[iv p0.W,iv p0.H,.slice a7 p0.Bits.length a8]) p0) ⟨_,y,S1.know (i:=1) (e:=fRep (rL rB) (.slice a7 p0.Bits.length a8) p0.Bits) y⟩
   refine sCallQ (X:=Unit) (f:=25) (vs:=[.agg #[iv a0.1.W,iv a0.1.H,.slice a2 a0.1.Bits.length a3],.agg #[iv p0.W,iv p0.H,.slice a7 p0.Bits.length a8]]) (val:=fun _=>iv aP) S (wG 11 true 170 y y y y) y callee25 y (S1.quiet [1,0] y) (fun E1 w1 S1=>c_raddleref17_Apart E1 w1 a0.1 (.agg #[iv a0.1.W,iv a0.1.H,.slice a2 a0.1.Bits.length a3]) p0 (.agg #[iv p0.W,iv p0.H,.slice a7 p0.Bits.length a8]) aP bl S1) y (lb y) fun _ a w S=>?_
   refine sBin _ S (wG 11 true 170 y y y y) y y y (bEq _ _ _ _ .i64 a0.2.1 aP) y (lb y) fun a S=>sPickT (.bool (a0.2.1 == aP)) S (wN y) y y y y y (lb y) fun a S=>sN S fun a S=>?_
   exact lT (⟨a0.2.1 == aP,Option.some.inj h,S.fix [] [] (by decide) y y y⟩)
  refine sMove (iv a0.2.1) S (wG 5 false 164 y y y ak) (.inl y) y y (lb y) fun a S=>sMove (iv a4.2.1) S (wG 5 false 164 y y y ak) (.inl y) y y (lb y) fun a S=>sBin _ S (wG 5 false 164 y y y ak) y y y (bGe _ _ _ _ .i64 a0.2.1 a4.2.1) y (lb y) fun a S=>sPickF (.bool (decide (a4.2.1 ≤ a0.2.1))) S (wG 1 true 160 y y y ab) y y ak y y (lb y) fun a S=>sPickT (.bool (decide (a4.2.1 ≤ a0.2.1))) S (wN y) y y ab y y (lb y) fun a S=>sM S fun a S=>?_
  rcases iS h with ⟨ae,h⟩ | ⟨ae,h⟩
  rotate_left
  ·refine sSkN 5 11 true 170 S y y ae y fun a S=>sPickF (.bool false) S (wN y) y y ae y y (lb y) fun a S=>sN S fun a S=>?_
   exact lT (⟨false,Option.some.inj h,S.fix [] [] (by decide) y y y⟩)
  refine sMove (iv a0.2.1) S (wG 11 true 170 y y y ae) (.inl y) y y (lb y) fun a S=>sLoadN (p:=ac) (off:=0) (T:=24) (vs:=[iv a0.1.W,iv a0.1.H,.slice a2 a0.1.Bits.length a3]) 1 [iv a0.1.W,iv a0.1.H,.slice a2 a0.1.Bits.length a3] S (wG 11 true 170 y y y ae) y y y y y y y (lb y) fun a S=>sLoadN (p:=b8) (off:=0) (T:=24) (vs:=[iv p0.W,iv p0.H,.slice a7 p0.Bits.length a8]) 0 [iv p0.W,iv p0.H,.slice a7 p0.Bits.length a8] S (wG 11 true 170 y y y ae) y y y y y y y (lb y) fun a S=>?_
  obtain ⟨aQ,bm,h⟩:=bS h
  have S1:=S.mem
  have S1:=S1.learn (fRep r_api_Grid (.agg #[iv a0.1.W,iv a0.1.H,.slice a2 a0.1.Bits.length a3]) a0.1) ⟨_,y,S1.know (i:=1) (e:=fRep (rL rB) (.slice a2 a0.1.Bits.length a3) a0.1.Bits) y⟩
  have S1:=S1.learn (fRep r_api_Grid (.agg #[iv p0.W,iv p0.H,.slice a7 p0.Bits.length a8]) p0) ⟨_,y,S1.know (i:=1) (e:=fRep (rL rB) (.slice a7 p0.Bits.length a8) p0.Bits) y⟩
  refine sCallQ (X:=Unit) (f:=25) (vs:=[.agg #[iv a0.1.W,iv a0.1.H,.slice a2 a0.1.Bits.length a3],.agg #[iv p0.W,iv p0.H,.slice a7 p0.Bits.length a8]]) (val:=fun _=>iv aQ) S (wG 11 true 170 y y y ae) y callee25 y (S1.quiet [1,0] y) (fun E1 w1 S1=>c_raddleref17_Apart E1 w1 a0.1 (.agg #[iv a0.1.W,iv a0.1.H,.slice a2 a0.1.Bits.length a3]) p0 (.agg #[iv p0.W,iv p0.H,.slice a7 p0.Bits.length a8]) aQ bm S1) y (lb y) fun _ a w S=>?_
  refine sBin _ S (wG 11 true 170 y y y ae) y y y (bEq _ _ _ _ .i64 a0.2.1 aQ) y (lb y) fun a S=>sPickT (.bool (a0.2.1 == aQ)) S (wN y) y y ae y y (lb y) fun a S=>sN S fun a S=>?_
  exact lT (⟨a0.2.1 == aQ,Option.some.inj h,S.fix [] [] (by decide) y y y⟩)
 refine sSeq (fun d3 cc=>sRegion (sN S fun a S=>?_))
 refine lT (cc _ _ (wp_block ?_))
 obtain ⟨d4,hl,cr⟩:=bS h
 refine sLoop hl (fun s0 a w=>match s0 with | ao=>St [] E [] w0 177 a w [(1,.slice a9 p1.length aa),(2,iv p2),(3,.pointer (some ⟨b8,0,none⟩)),(7,.bool am),(8,.pointer (some ⟨ac,0,none⟩)),(9,iv a0.2.1),(11,.slice a5 a4.1.length a6),(12,iv a4.2.1),(14,iv ao)] [eBox b8 24 [iv p0.W,iv p0.H,.slice a7 p0.Bits.length a8],eBox ac 24 [iv a0.1.W,iv a0.1.H,.slice a2 a0.1.Bits.length a3]] [fRep (rL (rI .i64)) (.slice a9 p1.length aa) p1,fRep (rL (rI .i64)) (.slice a5 a4.1.length a6) a4.1,fRep (rL rB) (.slice a7 p0.Bits.length a8) p0.Bits,fRep (rL rB) (.slice a2 a0.1.Bits.length a3) a0.1.Bits]) (S.fix [0,1] [0,1,2,3] (by decide) y y y) ?_
 clear hl h
 intro ao a w c0 hI h bn
 unfold raddlelaw17_ReduceGroups_l3 at h
 dsimp only at h hI
 have S:=hI
 refine sSeq (fun d5 cd=>sSeq (fun d6 ce=>sRegion (sM S fun a S=>?_)))
 refine sField (b:=b8) (off:=0) 0 0 S (wN y) y y y y y (lb y) fun a S=>sLoad1 0 (iv p0.W) S (wN y) y y y y y y (lb y) fun a S=>sBin _ S (wN y) y y y (bLt _ _ _ _ .i64 ao p0.W) y (lb y) fun a S=>lT (ce _ _ ?_)
 rcases iS h with ⟨aX,h⟩ | ⟨aX,h⟩
 rotate_left
 ·refine sCondF S y aX ?_
  obtain rfl:=tS h
  obtain rfl:=bn _ y
  have h:=cr
  try dsimp only at h
  exact wp_exit (xThen (xThen (xHit (leafT (⟨Option.some.inj h,S.fix [0,1] [0,1,2,3] (by decide) y y y⟩)))))
 refine sCondT S y aX (wp_skip (leafT (cd _ _ ?_)))
 obtain ⟨cN,h,ct⟩:=bS h
 refine sCut (fun a w=>.inl ()=cN∧St [] E [] w0 177 a w [(1,.slice a9 p1.length aa),(2,iv p2),(3,.pointer (some ⟨b8,0,none⟩)),(7,.bool am),(8,.pointer (some ⟨ac,0,none⟩)),(9,iv a0.2.1),(11,.slice a5 a4.1.length a6),(12,iv a4.2.1),(14,iv ao)] [eBox b8 24 [iv p0.W,iv p0.H,.slice a7 p0.Bits.length a8],eBox ac 24 [iv a0.1.W,iv a0.1.H,.slice a2 a0.1.Bits.length a3]] [fRep (rL (rI .i64)) (.slice a9 p1.length aa) p1,fRep (rL (rI .i64)) (.slice a5 a4.1.length a6) a4.1,fRep (rL rB) (.slice a7 p0.Bits.length a8) p0.Bits,fRep (rL rB) (.slice a2 a0.1.Bits.length a3) a0.1.Bits]) ?_ (fun a w hI=>?_)
 rotate_left
 ·obtain ⟨rfl,S⟩:=hI
  have h:=ct
  try dsimp only at h
  refine sRegion (sM S fun a S=>?_)
  refine sBin _ S (wN y) y y y (bAdd _ _ _ _ ao 1) y (lb y) fun a S=>sN S fun a S=>?_
  exact lT (⟨w64 (ao + 1),(Option.some.inj h).symm,(S.fix [0,1] [0,1,2,3] (by decide) y y y)⟩)
 refine wp_block ?_
 refine sSeq (fun d7 cg=>sRegion (sN S fun a S=>?_))
 refine lT (cg _ _ (wp_block ?_))
 obtain ⟨d8,hl,cu⟩:=bS h
 refine sLoop hl (fun s0 a w=>match s0 with | av=>St [] E [] w0 177 a w [(1,.slice a9 p1.length aa),(2,iv p2),(3,.pointer (some ⟨b8,0,none⟩)),(7,.bool am),(8,.pointer (some ⟨ac,0,none⟩)),(9,iv a0.2.1),(11,.slice a5 a4.1.length a6),(12,iv a4.2.1),(14,iv ao),(15,iv av)] [eBox b8 24 [iv p0.W,iv p0.H,.slice a7 p0.Bits.length a8],eBox ac 24 [iv a0.1.W,iv a0.1.H,.slice a2 a0.1.Bits.length a3]] [fRep (rL (rI .i64)) (.slice a9 p1.length aa) p1,fRep (rL (rI .i64)) (.slice a5 a4.1.length a6) a4.1,fRep (rL rB) (.slice a7 p0.Bits.length a8) p0.Bits,fRep (rL rB) (.slice a2 a0.1.Bits.length a3) a0.1.Bits]) (S.fix [0,1] [0,1,2,3] (by decide) y y y) ?_
 clear hl h
 intro av a w c0 hI h bo
 unfold raddlelaw17_ReduceGroups_l2 at h
 dsimp only at h hI
 have S:=hI
 refine sSeq (fun d9 ci=>sSeq (fun da cj=>sRegion (sM S fun a S=>?_)))
 refine sM S fun a S=>?_
 refine sBin _ S (wN y) y y y (bLt _ _ _ _ .i64 av ao) y (lb y) fun a S=>lT (cj _ _ ?_)
 rcases iS h with ⟨aZ,h⟩ | ⟨aZ,h⟩
 rotate_left
 ·refine sCondF S y aZ ?_
  obtain rfl:=tS h
  obtain rfl:=bo _ y
  have h:=cu
  try dsimp only at h
  exact wp_exit (xThen (xThen (xHit (leafB (leafT (⟨Option.some.inj h,S.fix [0,1] [0,1,2,3] (by decide) y y y⟩))))))
 refine sCondT S y aZ (wp_skip (leafT (ci _ _ ?_)))
 obtain ⟨cO,h,cv⟩:=bS h
 refine sCut (fun a w=>.inl ()=cO∧St [] E [] w0 177 a w [(1,.slice a9 p1.length aa),(2,iv p2),(3,.pointer (some ⟨b8,0,none⟩)),(7,.bool am),(8,.pointer (some ⟨ac,0,none⟩)),(9,iv a0.2.1),(11,.slice a5 a4.1.length a6),(12,iv a4.2.1),(14,iv ao),(15,iv av)] [eBox b8 24 [iv p0.W,iv p0.H,.slice a7 p0.Bits.length a8],eBox ac 24 [iv a0.1.W,iv a0.1.H,.slice a2 a0.1.Bits.length a3]] [fRep (rL (rI .i64)) (.slice a9 p1.length aa) p1,fRep (rL (rI .i64)) (.slice a5 a4.1.length a6) a4.1,fRep (rL rB) (.slice a7 p0.Bits.length a8) p0.Bits,fRep (rL rB) (.slice a2 a0.1.Bits.length a3) a0.1.Bits]) ?_ (fun a w hI=>?_)
 rotate_left
 ·obtain ⟨rfl,S⟩:=hI
  have h:=cv
  try dsimp only at h
  refine sRegion (sM S fun a S=>?_)
  refine sBin _ S (wN y) y y y (bAdd _ _ _ _ av 1) y (lb y) fun a S=>sN S fun a S=>?_
  exact lT (⟨w64 (av + 1),(Option.some.inj h).symm,(S.fix [0,1] [0,1,2,3] (by decide) y y y)⟩)
 refine wp_block ?_
 refine sSeq (fun db ck=>sRegion (sN S fun a S=>?_))
 refine lT (ck _ _ (wp_block ?_))
 obtain ⟨dc,hl,cw⟩:=bS h
 refine sLoop hl (fun s0 a w=>match s0 with | ai=>St [] E [] w0 177 a w [(1,.slice a9 p1.length aa),(2,iv p2),(3,.pointer (some ⟨b8,0,none⟩)),(7,.bool am),(8,.pointer (some ⟨ac,0,none⟩)),(9,iv a0.2.1),(11,.slice a5 a4.1.length a6),(12,iv a4.2.1),(14,iv ao),(15,iv av),(16,iv ai)] [eBox b8 24 [iv p0.W,iv p0.H,.slice a7 p0.Bits.length a8],eBox ac 24 [iv a0.1.W,iv a0.1.H,.slice a2 a0.1.Bits.length a3]] [fRep (rL (rI .i64)) (.slice a9 p1.length aa) p1,fRep (rL (rI .i64)) (.slice a5 a4.1.length a6) a4.1,fRep (rL rB) (.slice a7 p0.Bits.length a8) p0.Bits,fRep (rL rB) (.slice a2 a0.1.Bits.length a3) a0.1.Bits]) (S.fix [0,1] [0,1,2,3] (by decide) y y y) ?_
 clear hl h
 intro ai a w c0 hI h bp
 unfold raddlelaw17_ReduceGroups_l1 at h
 dsimp only at h hI
 have S:=hI
 refine sSeq (fun de cl=>?_)
 obtain ⟨cP,h,cQ⟩:=bS h
 refine sCut (fun a w=>∃ cm,cm=cP∧St [] E [] w0 177 a w [(1,.slice a9 p1.length aa),(2,iv p2),(3,.pointer (some ⟨b8,0,none⟩)),(7,.bool am),(8,.pointer (some ⟨ac,0,none⟩)),(9,iv a0.2.1),(11,.slice a5 a4.1.length a6),(12,iv a4.2.1),(14,iv ao),(15,iv av),(16,iv ai),(123,.bool cm)] [eBox b8 24 [iv p0.W,iv p0.H,.slice a7 p0.Bits.length a8],eBox ac 24 [iv a0.1.W,iv a0.1.H,.slice a2 a0.1.Bits.length a3]] [fRep (rL (rI .i64)) (.slice a9 p1.length aa) p1,fRep (rL (rI .i64)) (.slice a5 a4.1.length a6) a4.1,fRep (rL rB) (.slice a7 p0.Bits.length a8) p0.Bits,fRep (rL rB) (.slice a2 a0.1.Bits.length a3) a0.1.Bits]) ?_ (fun a w hI=>?_)
 rotate_left
 ·obtain ⟨cm,rfl,S⟩:=hI
  have h:=cQ
  try dsimp only at h
  rcases iS h with ⟨aR,h⟩ | ⟨aR,h⟩
  rotate_left
  ·refine sCondF S y aR ?_
   obtain rfl:=tS h
   obtain rfl:=bp _ y
   have h:=cw
   try dsimp only at h
   exact wp_exit (xThen (xThen (xHit (leafB (leafT (⟨Option.some.inj h,S.fix [0,1] [0,1,2,3] (by decide) y y y⟩))))))
  refine sCondT S y aR (wp_skip (leafT (cl _ _ ?_)))
  refine sSeq (fun cR bq=>wp_block ?_)
  refine sSeq (fun cS br=>?_)
  obtain ⟨aK,bt,h⟩:=bS h
  obtain ⟨aL,bu,h⟩:=bS h
  refine sDraw (nf:=[]) (W:=[(0,126,.agg #[iv a0.1.W,iv a0.1.H,.slice a2 a0.1.Bits.length a3]),(1,127,iv ao),(2,128,iv ai),(3,129,.bool aK),(4,130,.agg #[iv a0.1.W,iv a0.1.H,.slice a2 a0.1.Bits.length a3]),(5,131,iv av),(6,132,iv ai),(7,133,.bool aL),(8,134,.bool (aK != aL))]) y S ?_
  refine node_by (A:=anc_raddlelaw17_ReduceGroups_1) 9 (by kernel_rfl) (by kernel_rfl) (by kernel_rfl) (by kernel_rfl) (by kernel_rfl) [0,1,2,3,4,5,6,7,8] (by kernel_rfl) (by decide) (by decide) (fF ?_ (fF ?_ (fF ?_ (fF ?_ (fF ?_ (fF ?_ (fF ?_ (fF ?_ (fF ?_ (trivial)))))))))) [(1,.slice a9 p1.length aa),(2,iv p2),(3,.pointer (some ⟨b8,0,none⟩)),(7,.bool am),(8,.pointer (some ⟨ac,0,none⟩)),(9,iv a0.2.1),(11,.slice a5 a4.1.length a6),(12,iv a4.2.1),(14,iv ao),(15,iv av),(16,iv ai),(134,.bool (aK != aL))] (fin_of [none,none,none,none,none,none,none,none,none,none,none,some 8] y (by kernel_rfl) (by kernel_rfl)) (fun _ a w S=>?_)
  ·refine fJ [(8,_)] 0 [none] fun G a w S=>?_
   exact sLoadN (p:=ac) (off:=0) (T:=24) (vs:=[iv a0.1.W,iv a0.1.H,.slice a2 a0.1.Bits.length a3]) 1 [iv a0.1.W,iv a0.1.H,.slice a2 a0.1.Bits.length a3] S (wN y) y y y y y y y (lb y) fun a S=>leafL ⟨y,S⟩
  ·exact fM 1 none y y y y (.inl y) y y y
  ·exact fM 2 none y y y y (.inl y) y y y
  ·refine fJ [(126,_),(127,_),(128,_)] 3 [some 0,some 1,some 2] fun G a w S=>?_
   have S1:=S.mem
   have S1:=S1.learn (fRep r_api_Grid (.agg #[iv a0.1.W,iv a0.1.H,.slice a2 a0.1.Bits.length a3]) a0.1) ⟨_,y,S1.know (i:=3) (e:=fRep (rL rB) (.slice a2 a0.1.Bits.length a3) a0.1.Bits) y⟩
   refine sCq [.agg #[iv a0.1.W,iv a0.1.H,.slice a2 a0.1.Bits.length a3],iv ao,iv ai] (.bool aK) S callee22 (S1.quiet [0] y) (fun E1 w1 S1=>c_raddleref01_At E1 w1 a0.1 (.agg #[iv a0.1.W,iv a0.1.H,.slice a2 a0.1.Bits.length a3]) ao ai aK bt S1) fun a w S=>?_
   exact leafL ⟨y,S⟩
  ·refine fJ [(8,_)] 4 [none] fun G a w S=>?_
   exact sLoadN (p:=ac) (off:=0) (T:=24) (vs:=[iv a0.1.W,iv a0.1.H,.slice a2 a0.1.Bits.length a3]) 1 [iv a0.1.W,iv a0.1.H,.slice a2 a0.1.Bits.length a3] S (wN y) y y y y y y y (lb y) fun a S=>leafL ⟨y,S⟩
  ·exact fM 5 none y y y y (.inl y) y y y
  ·exact fM 6 none y y y y (.inl y) y y y
  ·refine fJ [(130,_),(131,_),(132,_)] 7 [some 4,some 5,some 6] fun G a w S=>?_
   have S1:=S.mem
   have S1:=S1.learn (fRep r_api_Grid (.agg #[iv a0.1.W,iv a0.1.H,.slice a2 a0.1.Bits.length a3]) a0.1) ⟨_,y,S1.know (i:=3) (e:=fRep (rL rB) (.slice a2 a0.1.Bits.length a3) a0.1.Bits) y⟩
   refine sCq [.agg #[iv a0.1.W,iv a0.1.H,.slice a2 a0.1.Bits.length a3],iv av,iv ai] (.bool aL) S callee22 (S1.quiet [0] y) (fun E1 w1 S1=>c_raddleref01_At E1 w1 a0.1 (.agg #[iv a0.1.W,iv a0.1.H,.slice a2 a0.1.Bits.length a3]) av ai aL bu S1) fun a w S=>?_
   exact leafL ⟨y,S⟩
  ·refine fJ [(129,_),(133,_)] 8 [some 3,some 7] fun G a w S=>?_
   exact sBin _ S (wN y) y y y (bNeB _ _ _ _ Try.underlying4 aK aL) y (lb y) fun a S=>leafL ⟨y,S⟩
  refine leafT (br _ _ ?_)
  rcases iS h with ⟨aS,h⟩ | ⟨aS,h⟩
  rotate_left
  ·refine sCondF S y aS (wp_skip (leafB (leafT (bq _ _ ?_))))
   refine sRegion (sM S fun a S=>?_)
   refine sBin _ S (wN y) y y y (bAdd _ _ _ _ ai 1) y (lb y) fun a S=>sN S fun a S=>?_
   exact lT (⟨w64 (ai + 1),(Option.some.inj h).symm,(S.fix [0,1] [0,1,2,3] (by decide) y y y)⟩)
  refine sCondT S y aS (sSeq (fun cT bv=>sRegion (sN S fun a S=>?_)))
  refine lT (bv _ _ ?_)
  obtain rfl:=tS h
  obtain rfl:=bp _ y
  have h:=cw
  try dsimp only at h
  obtain rfl:=tS h
  have h:=cv
  try dsimp only at h
  obtain rfl:=tS h
  obtain rfl:=bo _ y
  have h:=cu
  try dsimp only at h
  obtain rfl:=tS h
  have h:=ct
  try dsimp only at h
  obtain rfl:=tS h
  obtain rfl:=bn _ y
  have h:=cr
  try dsimp only at h
  obtain rfl:=tS h
  have h:=cq
  try dsimp only at h
  obtain rfl:=tS h
  exact wp_ret (rBlock (rThen (rThen (rBlock (rBlock (rThen (rThen (rBlock (rBlock (rThen (rThen (rBlock (rThen (sRet (.bool false) S (rsl1 y (rvT (t:=6) (v:=.bool false) S y)) ⟨(),y,S.mem.sel [] [] (by decide) y y⟩))))))))))))))
 obtain ⟨ay,bw,h⟩:=bS h
 obtain ⟨az,bx,h⟩:=bS h
 rcases iS h with ⟨al,h⟩ | ⟨al,h⟩
 rotate_left
 ·obtain ⟨b1,bz,S⟩:=pIdx (P:=Try.prog) (r:=(rI .i64)) (v:=.slice a9 p1.length aa) (xs:=p1) (j:=ao) 25 3 0 S Try.underlying25 y y bw
  obtain ⟨bA,S⟩:=pLoad (r:=(rI .i64)) (q:=b1) (x:=ay) 0 S y
  obtain rfl:bA=iv ay:=S.mem.know (i:=1) (e:=fRep (rI .i64) (bA) ay) y
  obtain ⟨b3,bB,S⟩:=pIdx (P:=Try.prog) (r:=(rI .i64)) (v:=.slice a9 p1.length aa) (xs:=p1) (j:=av) 25 3 3 S Try.underlying25 y y bx
  obtain ⟨bC,S⟩:=pLoad (r:=(rI .i64)) (q:=b3) (x:=az) 0 S y
  obtain rfl:bC=iv az:=S.mem.know (i:=1) (e:=fRep (rI .i64) (bC) az) y
  refine sDraw (nf:=[]) (W:=[(0,109,.slice a9 p1.length aa),(1,110,iv ao),(2,111,b1),(3,112,iv ay),(4,113,.slice a9 p1.length aa),(5,114,iv av),(6,115,b3),(7,116,iv az),(8,117,.bool (ay == az)),(9,118,.bool (ay == az)),(10,119,undef),(11,120,undef),(12,121,undef),(13,122,undef),(14,123,.bool false)]) y S ?_
  refine node_by (A:=anc_raddlelaw17_ReduceGroups_0) 15 (by kernel_rfl) (by kernel_rfl) (by kernel_rfl) (by kernel_rfl) (by kernel_rfl) [0,1,2,3,4,5,6,7,8,9,10,11,12,13,14] (by kernel_rfl) (by decide) (by decide) (fF ?_ (fF ?_ (fF ?_ (fF ?_ (fF ?_ (fF ?_ (fF ?_ (fF ?_ (fF ?_ (fF ?_ (fF ?_ (fF ?_ (fF ?_ (fF ?_ (fF ?_ (trivial)))))))))))))))) [(1,.slice a9 p1.length aa),(2,iv p2),(3,.pointer (some ⟨b8,0,none⟩)),(7,.bool am),(8,.pointer (some ⟨ac,0,none⟩)),(9,iv a0.2.1),(11,.slice a5 a4.1.length a6),(12,iv a4.2.1),(14,iv ao),(15,iv av),(16,iv ai),(119,undef),(120,undef),(121,undef),(122,undef),(123,.bool false)] (fin_of [none,none,none,none,none,none,none,none,none,none,none,some 10,some 11,some 12,some 13,some 14] y (by kernel_rfl) (by kernel_rfl)) (fun _ a w S=>?_)
  ·exact fM 0 none y y y y (.inl y) y y y
  ·exact fM 1 none y y y y (.inl y) y y y
  ·refine fJ [(109,_),(110,_)] 2 [some 0,some 1] fun G a w S=>?_
   exact sIdxV S (wN y) y y y bz y (lb y) fun a S=>leafL ⟨y,S⟩
  ·refine fJ [(111,_)] 3 [some 2] fun G a w S=>?_
   exact sLoadV1 (vq:=b1) 3 (iv ay) S (wN y) y y y y y (lb y) fun a S=>leafL ⟨y,S⟩
  ·exact fM 4 none y y y y (.inl y) y y y
  ·exact fM 5 none y y y y (.inl y) y y y
  ·refine fJ [(113,_),(114,_)] 6 [some 4,some 5] fun G a w S=>?_
   exact sIdxV S (wN y) y y y bB y (lb y) fun a S=>leafL ⟨y,S⟩
  ·refine fJ [(115,_)] 7 [some 6] fun G a w S=>?_
   exact sLoadV1 (vq:=b3) 0 (iv az) S (wN y) y y y y y (lb y) fun a S=>leafL ⟨y,S⟩
  ·refine fJ [(112,_),(116,_)] 8 [some 3,some 7] fun G a w S=>?_
   exact sBin _ S (wN y) y y y (bEq _ _ _ _ .i64 ay az) y (lb y) fun a S=>leafL ⟨y,S⟩
  ·exact fM 9 (some 8) y y y y (.inl y) y y y
  ·refine fJ [(16,_),(118,_)] 10 [none,some 9] fun G a w S=>?_
   exact sSk S y y y al y y fun a S=>leafL ⟨y,S⟩
  ·refine fJ [(3,_),(118,_)] 11 [none,some 9] fun G a w S=>?_
   exact sSk S y y y al y y fun a S=>leafL ⟨y,S⟩
  ·refine fJ [(120,_),(118,_)] 12 [some 11,some 9] fun G a w S=>?_
   exact sSk S y y y al y y fun a S=>leafL ⟨y,S⟩
  ·refine fJ [(119,_),(121,_),(118,_)] 13 [some 10,some 12,some 9] fun G a w S=>?_
   exact sSk S y y y al y y fun a S=>leafL ⟨y,S⟩
  ·refine fJ [(118,_),(122,_)] 14 [some 9,some 13] fun G a w S=>?_
   exact sPickF (.bool false) S (wN y) y y al y y (lb y) fun a S=>leafL ⟨y,S⟩
  exact leafT (⟨false,Option.some.inj h,S.fix [0,1] [6,7,8,9] (by decide) y y y⟩)
 obtain ⟨cn,co,S⟩:=pIdx (P:=Try.prog) (r:=(rI .i64)) (v:=.slice a9 p1.length aa) (xs:=p1) (j:=ao) 25 3 0 S Try.underlying25 y y bw
 obtain ⟨cx,S⟩:=pLoad (r:=(rI .i64)) (q:=cn) (x:=ay) 0 S y
 obtain rfl:cx=iv ay:=S.mem.know (i:=1) (e:=fRep (rI .i64) (cx) ay) y
 obtain ⟨b4,bD,S⟩:=pIdx (P:=Try.prog) (r:=(rI .i64)) (v:=.slice a9 p1.length aa) (xs:=p1) (j:=av) 25 3 3 S Try.underlying25 y y bx
 obtain ⟨bE,S⟩:=pLoad (r:=(rI .i64)) (q:=b4) (x:=az) 0 S y
 obtain rfl:bE=iv az:=S.mem.know (i:=1) (e:=fRep (rI .i64) (bE) az) y
 refine sDraw (nf:=[]) (W:=[(0,109,.slice a9 p1.length aa),(1,110,iv ao),(2,111,cn),(3,112,iv ay),(4,113,.slice a9 p1.length aa),(5,114,iv av),(6,115,b4),(7,116,iv az),(8,117,.bool (ay == az)),(9,118,.bool (ay == az)),(10,119,iv ai),(11,120,.pointer (some ⟨b8,1,none⟩)),(12,121,iv p0.H),(13,122,.bool (decide (ai < p0.H))),(14,123,.bool (decide (ai < p0.H)))]) y S ?_
 refine node_by (A:=anc_raddlelaw17_ReduceGroups_0) 15 (by kernel_rfl) (by kernel_rfl) (by kernel_rfl) (by kernel_rfl) (by kernel_rfl) [0,1,2,3,4,5,6,7,8,9,10,11,12,13,14] (by kernel_rfl) (by decide) (by decide) (fF ?_ (fF ?_ (fF ?_ (fF ?_ (fF ?_ (fF ?_ (fF ?_ (fF ?_ (fF ?_ (fF ?_ (fF ?_ (fF ?_ (fF ?_ (fF ?_ (fF ?_ (trivial)))))))))))))))) [(1,.slice a9 p1.length aa),(2,iv p2),(3,.pointer (some ⟨b8,0,none⟩)),(7,.bool am),(8,.pointer (some ⟨ac,0,none⟩)),(9,iv a0.2.1),(11,.slice a5 a4.1.length a6),(12,iv a4.2.1),(14,iv ao),(15,iv av),(16,iv ai),(119,iv ai),(120,.pointer (some ⟨b8,1,none⟩)),(121,iv p0.H),(122,.bool (decide (ai < p0.H))),(123,.bool (decide (ai < p0.H)))] (fin_of [none,none,none,none,none,none,none,none,none,none,none,some 10,some 11,some 12,some 13,some 14] y (by kernel_rfl) (by kernel_rfl)) (fun _ a w S=>?_)
 ·exact fM 0 none y y y y (.inl y) y y y
 ·exact fM 1 none y y y y (.inl y) y y y
 ·refine fJ [(109,_),(110,_)] 2 [some 0,some 1] fun G a w S=>?_
  exact sIdxV S (wN y) y y y co y (lb y) fun a S=>leafL ⟨y,S⟩
 ·refine fJ [(111,_)] 3 [some 2] fun G a w S=>?_
  exact sLoadV1 (vq:=cn) 3 (iv ay) S (wN y) y y y y y (lb y) fun a S=>leafL ⟨y,S⟩
 ·exact fM 4 none y y y y (.inl y) y y y
 ·exact fM 5 none y y y y (.inl y) y y y
 ·refine fJ [(113,_),(114,_)] 6 [some 4,some 5] fun G a w S=>?_
  exact sIdxV S (wN y) y y y bD y (lb y) fun a S=>leafL ⟨y,S⟩
 ·refine fJ [(115,_)] 7 [some 6] fun G a w S=>?_
  exact sLoadV1 (vq:=b4) 0 (iv az) S (wN y) y y y y y (lb y) fun a S=>leafL ⟨y,S⟩
 ·refine fJ [(112,_),(116,_)] 8 [some 3,some 7] fun G a w S=>?_
  exact sBin _ S (wN y) y y y (bEq _ _ _ _ .i64 ay az) y (lb y) fun a S=>leafL ⟨y,S⟩
 ·exact fM 9 (some 8) y y y y (.inl y) y y y
 ·refine fJ [(16,_),(118,_)] 10 [none,some 9] fun G a w S=>?_
  exact sMove (iv ai) S (wG 9 true 118 y y y al) (.inl y) y y (lb y) fun a S=>leafL ⟨y,S⟩
 ·refine fJ [(3,_),(118,_)] 11 [none,some 9] fun G a w S=>?_
  exact sField (b:=b8) (off:=0) 1 1 S (wG 9 true 118 y y y al) y y y y y (lb y) fun a S=>leafL ⟨y,S⟩
 ·refine fJ [(120,_),(118,_)] 12 [some 11,some 9] fun G a w S=>?_
  exact sLoad1 0 (iv p0.H) S (wG 9 true 118 y y y al) y y y y y y (lb y) fun a S=>leafL ⟨y,S⟩
 ·refine fJ [(119,_),(121,_),(118,_)] 13 [some 10,some 12,some 9] fun G a w S=>?_
  exact sBin _ S (wG 9 true 118 y y y al) y y y (bLt _ _ _ _ .i64 ai p0.H) y (lb y) fun a S=>leafL ⟨y,S⟩
 ·refine fJ [(118,_),(122,_)] 14 [some 9,some 13] fun G a w S=>?_
  exact sPickT (.bool (decide (ai < p0.H))) S (wN y) y y al y y (lb y) fun a S=>leafL ⟨y,S⟩
 exact leafT (⟨decide (ai < p0.H),Option.some.inj h,S.fix [0,1] [6,7,8,9] (by decide) y y y⟩)
def lerr (l:List Int):Int:=if 400 < l.length then 4 else if l.all (fun y=>decide (0 ≤ y∧y < 400))=true then 0 else 8
theorem lerr_zero {l:List Int} (h:lerr l=0):l.length ≤ 400∧∀ y,y ∈ l→0 ≤ y∧y < 400:=by
 unfold lerr at h
 by_cases h1:400 < l.length
 ·rw [if_pos h1] at h; cases h
 rw [if_neg h1] at h
 by_cases h2:l.all (fun y=>decide (0 ≤ y∧y < 400))=true
 ·exact ⟨by omega,fun y hy=>of_decide_eq_true (List.all_eq_true.1 h2 y hy)⟩
 ·rw [if_neg h2] at h; cases h
theorem tcheckL (ls:List (List Int)) (hl:ls.length ≤ 9223372036854775806):whileO (thread_check_l2 ls) 0=some ((ls.findSome? fun l=>if lerr l=0 then none else some (Sum.inl (β:=Unit) (lerr l))).getD (.inr ())):=by
 refine loop_list ls (fun l=>if lerr l=0 then none else some (Sum.inl (lerr l))) (.inr ()) (fun k hk=>?_) ?_
 ·unfold thread_check_l2
  simp only [dT (show (k:Int) < (ls.length:Int) by omega),if_true,idxO_nat hk,Option.bind_some]
  generalize ls[k]=x
  by_cases h:400 < x.length
  ·have e:lerr x=4:=by unfold lerr; rw [if_pos h]
   simp only [dT (show (400:Int) < (x.length:Int) by omega),if_true,Option.bind_some,e]
   rfl
  ·have hw:whileO (thread_check_l1 x) 0=some (if x.all (fun y=>decide (0 ≤ y∧y < 400))=true then .inr () else .inl 8):=by
    refine loop_allL x _ _ _ (fun j hj=>?_) ?_
    ·unfold thread_check_l1
     simp only [dT (show (j:Int) < (x.length:Int) by omega),if_true,idxO_nat hj,Option.bind_some,w64_succ (show j < 9223372036854775807 by omega)]
     by_cases c1:x[j] < 0
     ·simp only [dT c1,if_true,Option.bind_some,dF (show ¬ (0 ≤ x[j]∧x[j] < 400) by omega),Bool.false_eq_true,if_false]
     ·by_cases c2:400 ≤ x[j]
      ·simp only [dF c1,dT c2,Bool.false_eq_true,if_false,if_true,Option.bind_some,dF (show ¬ (0 ≤ x[j]∧x[j] < 400) by omega)]
      ·simp only [dF c1,dF c2,Bool.false_eq_true,if_false,Option.bind_some,dT (show 0 ≤ x[j]∧x[j] < 400 by omega),if_true]
    ·unfold thread_check_l1
     simp only [dF (show ¬ (x.length:Int) < (x.length:Int) by omega),Bool.false_eq_true,if_false]
   simp only [dF (show ¬ (400:Int) < (x.length:Int) by omega),Bool.false_eq_true,if_false,hw,Option.bind_some]
   by_cases hc:x.all (fun y=>decide (0 ≤ y∧y < 400))=true
   ·have e:lerr x=0:=by unfold lerr; rw [if_neg h,if_pos hc]
    rw [if_pos hc,if_pos e]
    simp only [Option.bind_some,w64_succ (show k < 9223372036854775807 by omega)]
   ·have e:lerr x=8:=by unfold lerr; rw [if_neg h,if_neg hc]
    rw [if_neg hc,e]
    rfl
 ·unfold thread_check_l2
  simp only [dF (show ¬ (ls.length:Int) < (ls.length:Int) by omega),Bool.false_eq_true,if_false]
theorem tcheck_eq (l:List Int):F_thread_Check l=some (lerr l):=by
 unfold F_thread_Check F_thread_check
 rw [tcheckL _ (by simp)]
 by_cases h:lerr l=0
 ·simp [h]
 ·simp [h]
theorem rcheck2_eq (x:List Int):F_raddleref02_Check x=some (lerr x):=by
 unfold F_raddleref02_Check
 by_cases h:400 < x.length
 ·have e:lerr x=4:=by unfold lerr; rw [if_pos h]
  simp only [dT (show (400:Int) < (x.length:Int) by omega),if_true,e]
 have hw:whileO (raddleref02_Check_l1 x) 0=some (if x.all (fun y=>decide (0 ≤ y∧y < 400))=true then .inr () else .inl 8):=by
  refine loop_allL x _ _ _ (fun j hj=>?_) ?_
  ·unfold raddleref02_Check_l1
   simp only [dT (show (j:Int) < (x.length:Int) by omega),if_true,idxO_nat hj,Option.bind_some,w64_succ (show j < 9223372036854775807 by omega)]
   by_cases c1:x[j] < 0
   ·simp only [dT c1,if_true,Option.bind_some,dF (show ¬ (0 ≤ x[j]∧x[j] < 400) by omega),Bool.false_eq_true,if_false]
   ·by_cases c2:400 ≤ x[j]
    ·simp only [dF c1,dT c2,Bool.false_eq_true,if_false,if_true,Option.bind_some,dF (show ¬ (0 ≤ x[j]∧x[j] < 400) by omega)]
    ·simp only [dF c1,dF c2,Bool.false_eq_true,if_false,Option.bind_some,dT (show 0 ≤ x[j]∧x[j] < 400 by omega),if_true]
  ·unfold raddleref02_Check_l1
   simp only [dF (show ¬ (x.length:Int) < (x.length:Int) by omega),Bool.false_eq_true,if_false]
 simp only [dF (show ¬ (400:Int) < (x.length:Int) by omega),Bool.false_eq_true,if_false,hw]
 by_cases hc:x.all (fun y=>decide (0 ≤ y∧y < 400))=true
 ·have e:lerr x=0:=by unfold lerr; rw [if_neg h,if_pos hc]
  rw [if_pos hc,e]
  rfl
 ·have e:lerr x=8:=by unfold lerr; rw [if_neg h,if_neg hc]
  rw [if_neg hc,e]
  rfl
theorem rsame_il (a b:List Int) (hl:a.length ≤ 9223372036854775807):F_raddleref02_Same a b=some (decide (a=b)):=by
 by_cases h3:(a.length:Int)=(b.length:Int)
 case neg=>unfold F_raddleref02_Same; simp only [nT h3,if_true]; rw [decide_eq_false]; rintro rfl; exact h3 rfl
 have hw:whileO (raddleref02_Same_l1 a b) 0=some (if a=b then .inr () else .inl false):=by
  refine loop_eql a b (by omega) _ _ (fun k hk=>?_) ?_
  ·unfold raddleref02_Same_l1
   simp only [dT (show (k:Int) < (a.length:Int) by omega),if_true,idxO_nat hk,idxO_nat (xs:=b) (k:=k) (by omega),Option.bind_some,w64_succ (show k < 9223372036854775807 by omega)]
   by_cases e:a[k]=b[k]'(by omega)
   ·rw [if_pos e,e]; simp
   ·rw [if_neg e,if_pos (by simpa using e)]
  ·unfold raddleref02_Same_l1; simp
 unfold F_raddleref02_Same
 simp only [nF h3,Bool.false_eq_true,if_false,Option.bind_some,hw]
 by_cases e:a=b
 ·rw [if_pos e]; simp [e]
 ·rw [if_neg e]; simp [e]
end Go.Proofs.Ytapohhkdpkapoaa
