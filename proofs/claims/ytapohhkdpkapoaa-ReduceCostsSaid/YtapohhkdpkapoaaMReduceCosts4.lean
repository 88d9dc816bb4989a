/- ReduceCosts: walks, tables, laws. -/
import Derived.Test.YtapohhkdpkapoaaProg
import Derived.Test.YtapohhkdpkapoaaRows
import Derived.Test.YtapohhkdpkapoaaMReduceCosts3
set_option linter.unusedVariables false
set_option linter.unusedSimpArgs false
set_option maxHeartbeats 4000000
set_option maxRecDepth 100000
namespace Go.Proofs.Ytapohhkdpkapoaa
open Go.RowKit
noncomputable def F_raddlelaw17_three :Option api_Grid:=
 some (api_Grid.mk 3 2 [true,true,true,true,true,false])
def c_raddlelaw17_three_val (r:api_Grid) (x:Value):Value:=x
def c_raddlelaw17_three_D (r:api_Grid) (x:Value):List Fact:=[fRep r_api_Grid x r]
theorem c_raddlelaw17_three (E:Nat→Prop) (w0:World)  (r:api_Grid) (h:F_raddlelaw17_three =some r) (S:St0 E [] w0 w0 [] []) :
 Calls Try.prog 34 #[] w0 (Ret (X:=Value) E [] w0 (c_raddlelaw17_three_val r) (fun _=>[]) (c_raddlelaw17_three_D r)):=by
 unfold F_raddlelaw17_three at h
 refine sEnter (args:=[]) 3 Try.func34 y y (by simp) S (fun a S=>?_)
 refine sSeq (fun K1 a3=>sRegion (sAlloc (.agg #[iv 0,iv 0,.slice none 0 0]) S (wN y) y y [iv 0,iv 0,.slice none 0 0] y y (lb y) fun a b2 w S=>lT (a3 _ _ (sSeq (fun K3 a4=>sRegion (sLit (r:=rB) (T:=4) (xs:=[true,true,true,true,true,false]) [(0,.bool true),(1,.bool true),(2,.bool true),(3,.bool true),(4,.bool true),(5,.bool false)] 6 [.bool true,.bool true,.bool true,.bool true,.bool true,.bool false] [.bool true,.bool true,.bool true,.bool true,.bool true,.bool false] (.bool false) 1 S (wN y) y y Try.underlying22 y (by decide) (by decide) (by kernel_rfl) y (fun E1 w1 hE=>All.cons y (All.cons y (All.cons y (All.cons y (All.cons y (All.cons y (All.nil _ _ _))))))) y y (lb y) fun a w a0 a2 S=>?_))))))
 refine sBuild [(0,iv 3),(1,iv 2),(2,.slice a0 [true,true,true,true,true,false].length a2)] [iv 3,iv 2,.slice a0 [true,true,true,true,true,false].length a2] S (wN y) y y y y (lb y) fun a S=>sStore (p:=b2) (off:=0) (T:=24) (vs:=[iv 0,iv 0,.slice none 0 0]) (v:=.agg #[iv 3,iv 2,.slice a0 [true,true,true,true,true,false].length a2]) 1 [iv 3,iv 2,.slice a0 [true,true,true,true,true,false].length a2] S (wN y) y y y y y y y (by simp) y fun a w S=>lT (a4 _ _ ?_)
 obtain rfl:=tS h
 have S:=S.shutR (r:=rB) (T:=4) (v:=.slice a0 [true,true,true,true,true,false].length a2) (xs:=[true,true,true,true,true,false]) 1 y
 have S:=S.learn (fRep r_api_Grid (.agg #[iv 3,iv 2,.slice a0 [true,true,true,true,true,false].length a2]) (api_Grid.mk 3 2 [true,true,true,true,true,false])) ⟨_,y,S.mem.know (i:=0) (e:=fRep (rL rB) (.slice a0 [true,true,true,true,true,false].length a2) [true,true,true,true,true,false]) y⟩
 exact wp_ret (sRet (.agg #[iv 3,iv 2,.slice a0 [true,true,true,true,true,false].length a2]) S (rsl1 y (rvN (c:=0) (t:=24) (T:=24) (p:=b2) 0 [iv 3,iv 2,.slice a0 [true,true,true,true,true,false].length a2] S y y y y)) ⟨(.agg #[iv 3,iv 2,.slice a0 [true,true,true,true,true,false].length a2]),y,S.mem.sel [] [0] (by decide) y y⟩)
def anc_raddlelaw17_alive_0:List (List Nat):=[[],[0],[0,1],[0,1],[0,1,2,3],[0,1,2,3,4],[0,1,2,3,4,5],[0,1,2,3,4,5,6],[0,1,2,3,4,5,6,7],[0,1,2,3,4,5,6,7,8],[0,1,2,3,4,5,6,7,8,9],[0,1,2,3,4,5,6,7,8,9,10],[0,1,2,3,4,5,6,7,8,9,10,11],[0,1,2,3,4,5,6,7,8,9,10,11,12],[0,1,2,3,4,5,6,7,8,9,10,11,12,13],[0,1,2,3,4,5,6,7,8,9,10,11,12,13,14],[0,1,2,3,4,5,6,7,8,9,10,11,12,13,14],[0,1,2,3,4,5,6,7,8,9,10,11,12,13,14,16],[0,1,2,3,4,5,6,7,8,9,10,11,12,13,14,15,16,17],[0,1,2,3,4,5,6,7,8,9,10,11,12,13,14,15,16,17,18],[0,1,2,3,4,5,6,7,8,9,10,11,12,13,14,15,16,17,18,19],[0,1,2,3,4,5,6,7,8,9,10,11,12,13,14,15,16,17,18,19,20],[0,1,2,3,4,5,6,7,8,9,10,11,12,13,14,15,16,17,18,19,20],[0,1,2,3,4,5,6,7,8,9,10,11,12,13,14,15,16,17,18,19,20,21,22],[0,1,2,3,4,5,6,7,8,9,10,11,12,13,14,15,16,17,18,19,20,21,22,23],[0,1,2,3,4,5,6,7,8,9,10,11,12,13,14,15,16,17,18,19,20,21,22,23,24],[0,1,2,3,4,5,6,7,8,9,10,11,12,13,14,15,16,17,18,19,20,21,22,23,24,25],[0,1,2,3,4,5,6,7,8,9,10,11,12,13,14,15,16,17,18,19,20,21,22,23,24,25,26],[0,1,2,3,4,5,6,7,8,9,10,11,12,13,14,15,16,17,18,19,20,21,22,23,24,25,26,27],[0,1,2,3,4,5,6,7,8,9,10,11,12,13,14,15,16,17,18,19,20,21,22,23,24,25,26,27,28],[0,1,2,3,4,5,6,7,8,9,10,11,12,13,14,15,16,17,18,19,20,21,22,23,24,25,26,27,28,29],[0,1,2,3,4,5,6,7,8,9,10,11,12,13,14,15,16,17,18,19,20,21,22,23,24,25,26,27,28,29,30],[0,1,2,3,4,5,6,7,8,9,10,11,12,13,14,15,16,17,18,19,20,21,22,23,24,25,26,27,28,29,30,31],[0,1,2,3,4,5,6,7,8,9,10,11,12,13,14,15,16,17,18,19,20,21,22,23,24,25,26,27,28,29,30,31,32],[0,1,2,3,4,5,6,7,8,9,10,11,12,13,14,15,16,17,18,19,20,21,22,23,24,25,26,27,28,29,30,31,32,33],[0,1,2,3,4,5,6,7,8,9,10,11,12,13,14,15,16,17,18,19,20,21,22,23,24,25,26,27,28,29,30,31,32,33],[0,1,2,3,4,5,6,7,8,9,10,11,12,13,14,15,16,17,18,19,20,21,22,23,24,25,26,27,28,29,30,31,32,33,34,35],[0,1,2,3,4,5,6,7,8,9,10,11,12,13,14,15,16,17,18,19,20,21,22,23,24,25,26,27,28,29,30,31,32,33,34,35,36],[0,1,2,3,4,5,6,7,8,9,10,11,12,13,14,15,16,17,18,19,20,21,22,23,24,25,26,27,28,29,30,31,32,33,34,35,36,37]]
noncomputable def F_raddlelaw17_alive :Option Bool:=
 (F_raddlelaw17_three).bind fun r3=>
 (F_reduce_Best r3 1).bind fun a0=>
 (F_reduce_Change r3 ([0,0,0]:List Int)).bind fun a2=>
 (F_reduce_Best r3 2).bind fun a3=>
 (F_raddlelaw17_two).bind fun a5=>
 (F_reduce_Change a5 ([0,0]:List Int)).bind fun a4=>
 Option.bind (α:=Bool) (
  if a0.2.2 == 0 then
   if a2.2.2 == 0 then
    if a3.2.2 == 0 then
     some (a4.2.2 == 0)
    else
     some false
   else
    some false
  else
   some false) fun a6=>
 Option.bind (α:=Bool) (
  if a6 then
   (F_raddleref02_Same a0.1 ([0,0,0]:List Int)).bind fun a7=>
   if a7 then
    if a0.2.1 == 1 then
     if a2.2.1 == 1 then
      (F_raddleref01_Same a2.1 (api_Grid.mk 3 2 [true,true,true,true,true,true])).bind fun a8=>
      if a8 then
       (F_raddleref02_Same a3.1 ([0,0,1]:List Int)).bind fun a9=>
       if a9 then
        if a3.2.1 == 0 then
         if a4.2.1 == 1 then
          (F_raddleref01_Zero 2 1).bind fun aa=>
          (F_raddleref01_Same a4.1 aa).bind fun ab=>
          some ab
         else
          some false
        else
         some false
       else
        some false
      else
       some false
     else
      some false
    else
     some false
   else
    some false
  else
   some false) fun ac=>
 some ac
theorem c_raddlelaw17_alive (E:Nat→Prop) (w0:World)  (r:Bool) (h:F_raddlelaw17_alive =some r) (S:St0 E [] w0 w0 [] []) :
 Calls Try.prog 18 #[] w0 (Ret (X:=Unit) E [] w0 (fun _=>.bool r) (fun _=>[]) (fun _=>[])):=by
 unfold F_raddlelaw17_alive at h
 refine sEnter (args:=[]) 92 Try.func18 y y (by simp) S (fun a S=>?_)
 refine sSeq (fun K1 cc=>sRegion (sN S fun a S=>?_))
 refine lT (cc _ _ (sSeq (fun K2 cd=>sRegion ?_)))
 obtain ⟨r3,bM,h⟩:=bS h
 refine sCall (X:=Value) (f:=34) (vs:=[]) (val:=c_raddlelaw17_three_val r3) (B':=fun _=>[]) (D':=c_raddlelaw17_three_D r3) [] [] [] [] [] S (wN y) y callee34 y (by decide) y y (fun E1 w1 S1=>c_raddlelaw17_three E1 w1  r3 bM S1) y (lb y) fun u5 a w S=>?_
 obtain ⟨u6,rfl,ca⟩:=S.mem.know (i:=0) (e:=fRep r_api_Grid (u5) r3) y
 have S:=S.learn (fRep (rL rB) u6 r3.Bits) ca
 obtain ⟨bN,bO,_,rfl,_⟩:=ca
 obtain ⟨a2,bP,h⟩:=bS h
 refine sCall (X:=Value) (f:=21) (vs:=[.agg #[iv r3.W,iv r3.H,.slice bN r3.Bits.length bO],iv 1]) (val:=c_reduce_Best_val a2) (B':=fun _=>[]) (D':=c_reduce_Best_D a2) [] [] [fRep r_api_Grid (.agg #[iv r3.W,iv r3.H,.slice bN r3.Bits.length bO]) r3] [] [1] S (wN y) y callee21 y (by decide) y y (fun E1 w1 S1=>c_reduce_Best E1 w1 r3 (.agg #[iv r3.W,iv r3.H,.slice bN r3.Bits.length bO]) 1 a2 bP S1) y (lb y) fun ce a w S=>?_
 obtain ⟨a5,a6,_,rfl,_⟩:=S.mem.know (i:=0) (e:=fRep (rL (rI .i64)) (ce) a2.1) y
 refine sM S fun a S=>?_
 refine sExtract (vs:=[.slice a5 a2.1.length a6,iv a2.2.1,iv a2.2.2]) (.slice a5 a2.1.length a6) S (wN y) y y y y (lb y) fun a S=>sExtract (vs:=[.slice a5 a2.1.length a6,iv a2.2.1,iv a2.2.2]) (iv a2.2.1) S (wN y) y y y y (lb y) fun a S=>sExtract (vs:=[.slice a5 a2.1.length a6,iv a2.2.1,iv a2.2.2]) (iv a2.2.2) S (wN y) y y y y (lb y) fun a S=>sN S fun a S=>?_
 refine sN S fun a S=>?_
 refine sN S fun a S=>?_
 refine lT (cd _ _ (sSeq (fun cx bQ=>sRegion (sCall (X:=Value) (f:=34) (vs:=[]) (val:=c_raddlelaw17_three_val r3) (B':=fun _=>[]) (D':=c_raddlelaw17_three_D r3) [] [] [] [] [] S (wN y) y callee34 y (by decide) y y (fun E1 w1 S1=>c_raddlelaw17_three E1 w1  r3 bM S1) y (lb y) fun cg a w S=>?_))))
 obtain ⟨ci,rfl,bG⟩:=S.mem.know (i:=0) (e:=fRep r_api_Grid (cg) r3) y
 have S:=S.learn (fRep (rL rB) ci r3.Bits) bG
 obtain ⟨bx,bz,_,rfl,_⟩:=bG
 refine sLit (r:=(rI .i64)) (T:=3) (xs:=([0,0,0]:List Int)) [(0,iv 0),(1,iv 0),(2,iv 0)] 3 [iv 0,iv 0,iv 0] [iv 0,iv 0,iv 0] (iv 0) 8 S (wN y) y y Try.underlying25 y (by decide) (by decide) (by kernel_rfl) y (fun E1 w1 hE=>All.cons y (All.cons y (All.cons y (All.nil _ _ _)))) y y (lb y) fun a w bp bq S=>?_
 obtain ⟨a0,bR,h⟩:=bS h
 have S:=S.shutR (r:=(rI .i64)) (T:=3) (v:=.slice bp ([0,0,0]:List Int).length bq) (xs:=([0,0,0]:List Int)) 0 y
 refine sCall (X:=Value) (f:=12) (vs:=[.agg #[iv r3.W,iv r3.H,.slice bx r3.Bits.length bz],.slice bp ([0,0,0]:List Int).length bq]) (val:=c_reduce_Change_val a0) (B':=fun _=>[]) (D':=c_reduce_Change_D a0) [] [] [fRep r_api_Grid (.agg #[iv r3.W,iv r3.H,.slice bx r3.Bits.length bz]) r3,fRep (rL (rI .i64)) (.slice bp ([0,0,0]:List Int).length bq) ([0,0,0]:List Int)] [] [2,0] S (wN y) y callee12 y (by decide) y y (fun E1 w1 S1=>c_reduce_Change E1 w1 r3 (.agg #[iv r3.W,iv r3.H,.slice bx r3.Bits.length bz]) ([0,0,0]:List Int) (.slice bp ([0,0,0]:List Int).length bq) a0 bR S1) y (lb y) fun cj a w S=>?_
 obtain ⟨ck,rfl,bH⟩:=S.mem.know (i:=0) (e:=fRep r_api_Grid (cj) a0.1) y
 have S:=S.learn (fRep (rL rB) ck a0.1.Bits) bH
 obtain ⟨a3,a4,_,rfl,_⟩:=bH
 refine sM S fun a S=>?_
 refine sExtract (vs:=[.agg #[iv a0.1.W,iv a0.1.H,.slice a3 a0.1.Bits.length a4],iv a0.2.1,iv a0.2.2]) (.agg #[iv a0.1.W,iv a0.1.H,.slice a3 a0.1.Bits.length a4]) S (wN y) y y y y (lb y) fun a S=>sExtract (vs:=[.agg #[iv a0.1.W,iv a0.1.H,.slice a3 a0.1.Bits.length a4],iv a0.2.1,iv a0.2.2]) (iv a0.2.1) S (wN y) y y y y (lb y) fun a S=>sExtract (vs:=[.agg #[iv a0.1.W,iv a0.1.H,.slice a3 a0.1.Bits.length a4],iv a0.2.1,iv a0.2.2]) (iv a0.2.2) S (wN y) y y y y (lb y) fun a S=>sAlloc (.agg #[iv 0,iv 0,.slice none 0 0]) S (wN y) y y [iv 0,iv 0,.slice none 0 0] y y (lb y) fun a aH w S=>sStore (p:=aH) (off:=0) (T:=24) (vs:=[iv 0,iv 0,.slice none 0 0]) (v:=.agg #[iv a0.1.W,iv a0.1.H,.slice a3 a0.1.Bits.length a4]) 0 [iv a0.1.W,iv a0.1.H,.slice a3 a0.1.Bits.length a4] S (wN y) y y y y y y y (by simp) y fun a w S=>sN S fun a S=>?_
 refine sN S fun a S=>?_
 refine lT (bQ _ _ (sSeq (fun cy bU=>sRegion (sCall (X:=Value) (f:=34) (vs:=[]) (val:=c_raddlelaw17_three_val r3) (B':=fun _=>[]) (D':=c_raddlelaw17_three_D r3) [] [eBox aH 24 [iv a0.1.W,iv a0.1.H,.slice a3 a0.1.Bits.length a4]] [] [0] [] S (wN y) y callee34 y (by decide) y y (fun E1 w1 S1=>c_raddlelaw17_three E1 w1  r3 bM S1) y (lb y) fun cl a w S=>?_))))
 obtain ⟨cm,rfl,bI⟩:=S.mem.know (i:=0) (e:=fRep r_api_Grid (cl) r3) y
 have S:=S.learn (fRep (rL rB) cm r3.Bits) bI
 obtain ⟨bA,bB,_,rfl,_⟩:=bI
 obtain ⟨aa,bV,h⟩:=bS h
 refine sCall (X:=Value) (f:=21) (vs:=[.agg #[iv r3.W,iv r3.H,.slice bA r3.Bits.length bB],iv 2]) (val:=c_reduce_Best_val aa) (B':=fun _=>[]) (D':=c_reduce_Best_D aa) [] [eBox aH 24 [iv a0.1.W,iv a0.1.H,.slice a3 a0.1.Bits.length a4]] [fRep r_api_Grid (.agg #[iv r3.W,iv r3.H,.slice bA r3.Bits.length bB]) r3] [0] [1] S (wN y) y callee21 y (by decide) y y (fun E1 w1 S1=>c_reduce_Best E1 w1 r3 (.agg #[iv r3.W,iv r3.H,.slice bA r3.Bits.length bB]) 2 aa bV S1) y (lb y) fun cn a w S=>?_
 obtain ⟨ab,ac,_,rfl,_⟩:=S.mem.know (i:=0) (e:=fRep (rL (rI .i64)) (cn) aa.1) y
 refine sM S fun a S=>?_
 refine sExtract (vs:=[.slice ab aa.1.length ac,iv aa.2.1,iv aa.2.2]) (.slice ab aa.1.length ac) S (wN y) y y y y (lb y) fun a S=>sExtract (vs:=[.slice ab aa.1.length ac,iv aa.2.1,iv aa.2.2]) (iv aa.2.1) S (wN y) y y y y (lb y) fun a S=>sExtract (vs:=[.slice ab aa.1.length ac,iv aa.2.1,iv aa.2.2]) (iv aa.2.2) S (wN y) y y y y (lb y) fun a S=>sN S fun a S=>?_
 refine sN S fun a S=>?_
 refine sN S fun a S=>?_
 refine lT (bU _ _ (sSeq (fun cz bW=>sRegion ?_)))
 obtain ⟨aL,bX,h⟩:=bS h
 refine sCall (X:=Value) (f:=33) (vs:=[]) (val:=c_raddlelaw17_two_val aL) (B':=fun _=>[]) (D':=c_raddlelaw17_two_D aL) [] [eBox aH 24 [iv a0.1.W,iv a0.1.H,.slice a3 a0.1.Bits.length a4]] [] [0] [] S (wN y) y callee33 y (by decide) y y (fun E1 w1 S1=>c_raddlelaw17_two E1 w1  aL bX S1) y (lb y) fun co a w S=>?_
 obtain ⟨cp,rfl,bJ⟩:=S.mem.know (i:=0) (e:=fRep r_api_Grid (co) aL) y
 have S:=S.learn (fRep (rL rB) cp aL.Bits) bJ
 obtain ⟨bC,bD,_,rfl,_⟩:=bJ
 refine sLit (r:=(rI .i64)) (T:=3) (xs:=([0,0]:List Int)) [(0,iv 0),(1,iv 0)] 2 [iv 0,iv 0] [iv 0,iv 0] (iv 0) 8 S (wN y) y y Try.underlying25 y (by decide) (by decide) (by kernel_rfl) y (fun E1 w1 hE=>All.cons y (All.cons y (All.nil _ _ _))) y y (lb y) fun a w br bt S=>?_
 obtain ⟨a8,bY,h⟩:=bS h
 have S:=S.shutR (r:=(rI .i64)) (T:=3) (v:=.slice br ([0,0]:List Int).length bt) (xs:=([0,0]:List Int)) 0 y
 refine sCall (X:=Value) (f:=12) (vs:=[.agg #[iv aL.W,iv aL.H,.slice bC aL.Bits.length bD],.slice br ([0,0]:List Int).length bt]) (val:=c_reduce_Change_val a8) (B':=fun _=>[]) (D':=c_reduce_Change_D a8) [] [eBox aH 24 [iv a0.1.W,iv a0.1.H,.slice a3 a0.1.Bits.length a4]] [fRep r_api_Grid (.agg #[iv aL.W,iv aL.H,.slice bC aL.Bits.length bD]) aL,fRep (rL (rI .i64)) (.slice br ([0,0]:List Int).length bt) ([0,0]:List Int)] [0] [2,0] S (wN y) y callee12 y (by decide) y y (fun E1 w1 S1=>c_reduce_Change E1 w1 aL (.agg #[iv aL.W,iv aL.H,.slice bC aL.Bits.length bD]) ([0,0]:List Int) (.slice br ([0,0]:List Int).length bt) a8 bY S1) y (lb y) fun cq a w S=>?_
 obtain ⟨cr,rfl,bK⟩:=S.mem.know (i:=0) (e:=fRep r_api_Grid (cq) a8.1) y
 have S:=S.learn (fRep (rL rB) cr a8.1.Bits) bK
 obtain ⟨ai,aj,_,rfl,_⟩:=bK
 refine sM S fun a S=>?_
 refine sExtract (vs:=[.agg #[iv a8.1.W,iv a8.1.H,.slice ai a8.1.Bits.length aj],iv a8.2.1,iv a8.2.2]) (.agg #[iv a8.1.W,iv a8.1.H,.slice ai a8.1.Bits.length aj]) S (wN y) y y y y (lb y) fun a S=>sExtract (vs:=[.agg #[iv a8.1.W,iv a8.1.H,.slice ai a8.1.Bits.length aj],iv a8.2.1,iv a8.2.2]) (iv a8.2.1) S (wN y) y y y y (lb y) fun a S=>sExtract (vs:=[.agg #[iv a8.1.W,iv a8.1.H,.slice ai a8.1.Bits.length aj],iv a8.2.1,iv a8.2.2]) (iv a8.2.2) S (wN y) y y y y (lb y) fun a S=>sAlloc (.agg #[iv 0,iv 0,.slice none 0 0]) S (wN y) y y [iv 0,iv 0,.slice none 0 0] y y (lb y) fun a bE w S=>sStore (p:=bE) (off:=0) (T:=24) (vs:=[iv 0,iv 0,.slice none 0 0]) (v:=.agg #[iv a8.1.W,iv a8.1.H,.slice ai a8.1.Bits.length aj]) 0 [iv a8.1.W,iv a8.1.H,.slice ai a8.1.Bits.length aj] S (wN y) y y y y y y y (by simp) y fun a w S=>sN S fun a S=>?_
 refine sN S fun a S=>?_
 refine lT (bW _ _ ?_)
 obtain ⟨ct,h,cu⟩:=bS h
 refine sCut (fun a w=>∃ ao,ao=ct∧St [] E [] w0 92 a w [(1,.slice a5 a2.1.length a6),(2,iv a2.2.1),(4,.pointer (some ⟨aH,0,none⟩)),(5,iv a0.2.1),(7,.slice ab aa.1.length ac),(8,iv aa.2.1),(10,.pointer (some ⟨bE,0,none⟩)),(11,iv a8.2.1),(13,.bool ao)] [eBox aH 24 [iv a0.1.W,iv a0.1.H,.slice a3 a0.1.Bits.length a4],eBox bE 24 [iv a8.1.W,iv a8.1.H,.slice ai a8.1.Bits.length aj]] [fRep (rL (rI .i64)) (.slice a5 a2.1.length a6) a2.1,fRep (rL (rI .i64)) (.slice ab aa.1.length ac) aa.1,fRep (rL rB) (.slice a3 a0.1.Bits.length a4) a0.1.Bits,fRep (rL rB) (.slice ai a8.1.Bits.length aj) a8.1.Bits]) ?_ (fun a w hI=>?_)
 ·refine sRegion (sM S fun a S=>?_)
  refine sBin _ S (wN y) y y y (bEq _ _ _ _ .i64 a2.2.2 0) y (lb y) fun a S=>sM S fun a S=>?_
  rcases iS h with ⟨bh,h⟩ | ⟨bh,h⟩
  rotate_left
  ·refine sSkN 2 2 true 42 S y y bh y fun a S=>sPickF (.bool false) S (wN y) y y bh y y (lb y) fun a S=>sM S fun a S=>?_
   refine sSkN 2 6 true 46 S y y y y fun a S=>sPickF (.bool false) S (wN y) y y y y y (lb y) fun a S=>sM S fun a S=>?_
   refine sSkN 2 10 true 50 S y y y y fun a S=>sPickF (.bool false) S (wN y) y y y y y (lb y) fun a S=>sN S fun a S=>?_
   exact lT (⟨false,Option.some.inj h,S.fix [1,0] [13,5,8,0] (by decide) y y y⟩)
  refine sMove (iv a0.2.2) S (wG 2 true 42 y y y bh) (.inl y) y y (lb y) fun a S=>sBin _ S (wG 2 true 42 y y y bh) y y y (bEq _ _ _ _ .i64 a0.2.2 0) y (lb y) fun a S=>sPickT (.bool (a0.2.2 == 0)) S (wN y) y y bh y y (lb y) fun a S=>sM S fun a S=>?_
  rcases iS h with ⟨bi,h⟩ | ⟨bi,h⟩
  rotate_left
  ·refine sSkN 2 6 true 46 S y y bi y fun a S=>sPickF (.bool false) S (wN y) y y bi y y (lb y) fun a S=>sM S fun a S=>?_
   refine sSkN 2 10 true 50 S y y y y fun a S=>sPickF (.bool false) S (wN y) y y y y y (lb y) fun a S=>sN S fun a S=>?_
   exact lT (⟨false,Option.some.inj h,S.fix [1,0] [13,5,8,0] (by decide) y y y⟩)
  refine sMove (iv aa.2.2) S (wG 6 true 46 y y y bi) (.inl y) y y (lb y) fun a S=>sBin _ S (wG 6 true 46 y y y bi) y y y (bEq _ _ _ _ .i64 aa.2.2 0) y (lb y) fun a S=>sPickT (.bool (aa.2.2 == 0)) S (wN y) y y bi y y (lb y) fun a S=>sM S fun a S=>?_
  rcases iS h with ⟨bj,h⟩ | ⟨bj,h⟩
  rotate_left
  ·refine sSkN 2 10 true 50 S y y bj y fun a S=>sPickF (.bool false) S (wN y) y y bj y y (lb y) fun a S=>sN S fun a S=>?_
   exact lT (⟨false,Option.some.inj h,S.fix [1,0] [13,5,8,0] (by decide) y y y⟩)
  refine sMove (iv a8.2.2) S (wG 10 true 50 y y y bj) (.inl y) y y (lb y) fun a S=>sBin _ S (wG 10 true 50 y y y bj) y y y (bEq _ _ _ _ .i64 a8.2.2 0) y (lb y) fun a S=>sPickT (.bool (a8.2.2 == 0)) S (wN y) y y bj y y (lb y) fun a S=>sN S fun a S=>?_
  exact lT (⟨a8.2.2 == 0,Option.some.inj h,S.fix [1,0] [13,5,8,0] (by decide) y y y⟩)
 obtain ⟨ao,rfl,S⟩:=hI
 have h:=cu
 try dsimp only at h
 obtain ⟨cv,h,cw⟩:=bS h
 refine sCut (fun a w=>∃ bL,bL=cv∧St [] E [] w0 92 a w [(0,.bool bL)] [] []) ?_ (fun a w hI=>?_)
 rotate_left
 ·obtain ⟨bL,rfl,S⟩:=hI
  have h:=cw
  try dsimp only at h
  obtain rfl:=tS h
  exact wp_ret (sRet (.bool bL) S (rsl1 y (rvT (t:=0) (v:=.bool bL) S y)) ⟨(),y,S.mem.sel [] [] (by decide) y y⟩)
 rcases iS h with ⟨a7,h⟩ | ⟨a7,h⟩
 rotate_left
 ·refine sDraw (nf:=[]) (W:=[(0,54,.bool ao),(1,55,.bool ao),(2,56,undef),(3,57,undef),(4,58,undef),(5,59,.bool false),(6,60,.bool false),(7,61,undef),(8,62,undef),(9,63,.bool false),(10,64,.bool false),(11,65,undef),(12,66,undef),(13,67,.bool false),(14,68,.bool false),(15,69,undef),(16,70,undef),(17,71,undef),(18,72,undef),(19,73,.bool false),(20,74,.bool false),(21,75,undef),(22,76,undef),(23,77,undef),(24,78,.bool false),(25,79,.bool false),(26,80,undef),(27,81,undef),(28,82,.bool false),(29,83,.bool false),(30,84,undef),(31,85,undef),(32,86,.bool false),(33,87,.bool false),(34,88,undef),(35,89,undef),(36,90,undef),(37,91,.bool false),(38,0,.bool false)]) y S ?_
  refine node_by (A:=anc_raddlelaw17_alive_0) 39 (by kernel_rfl) (by kernel_rfl) (by kernel_rfl) (by kernel_rfl) (by kernel_rfl) [0,1,2,3,4,5,6,7,8,9,10,11,12,13,14,15,16,17,18,19,20,21,22,23,24,25,26,27,28,29,30,31,32,33,34,35,36,37,38] (by kernel_rfl) (by decide) (by decide) (fF ?_ (fF ?_ (fF ?_ (fF ?_ (fF ?_ (fF ?_ (fF ?_ (fF ?_ (fF ?_ (fF ?_ (fF ?_ (fF ?_ (fF ?_ (fF ?_ (fF ?_ (fF ?_ (fF ?_ (fF ?_ (fF ?_ (fF ?_ (fF ?_ (fF ?_ (fF ?_ (fF ?_ (fF ?_ (fF ?_ (fF ?_ (fF ?_ (fF ?_ (fF ?_ (fF ?_ (fF ?_ (fF ?_ (fF ?_ (fF ?_ (fF ?_ (fF ?_ (fF ?_ (fF ?_ (trivial)))))))))))))))))))))))))))))))))))))))) [(0,.bool false)] (fin_of [some 38] y (by kernel_rfl) (by kernel_rfl)) (fun _ a w S=>?_)
  ·exact fM 0 none y y y y (.inl y) y y y
  ·exact fM 1 (some 0) y y y y (.inl y) y y y
  ·refine fJ [(1,_),(55,_)] 2 [none,some 1] fun G a w S=>?_
   exact sSk S y y y a7 y y fun a S=>leafL ⟨y,S⟩
  ·refine fJ [(55,_)] 3 [some 1] fun G a w S=>?_
   exact sSk S y y y a7 y y fun a S=>leafL ⟨y,S⟩
  ·refine fJ [(56,_),(57,_),(55,_)] 4 [some 2,some 3,some 1] fun G a w S=>?_
   exact sSk S y y y a7 y y fun a S=>leafL ⟨y,S⟩
  ·refine fJ [(55,_),(58,_)] 5 [some 1,some 4] fun G a w S=>?_
   exact sPickF (.bool false) S (wN y) y y a7 y y (lb y) fun a S=>leafL ⟨y,S⟩
  ·exact fM 6 (some 5) y y y y (.inl y) y y y
  ·refine fJ [(2,_),(60,_)] 7 [none,some 6] fun G a w S=>?_
   exact sSk S y y y y y y fun a S=>leafL ⟨y,S⟩
  ·refine fJ [(61,_),(60,_)] 8 [some 7,some 6] fun G a w S=>?_
   exact sSk S y y y y y y fun a S=>leafL ⟨y,S⟩
  ·refine fJ [(60,_),(62,_)] 9 [some 6,some 8] fun G a w S=>?_
   exact sPickF (.bool false) S (wN y) y y y y y (lb y) fun a S=>leafL ⟨y,S⟩
  ·exact fM 10 (some 9) y y y y (.inl y) y y y
  ·refine fJ [(5,_),(64,_)] 11 [none,some 10] fun G a w S=>?_
   exact sSk S y y y y y y fun a S=>leafL ⟨y,S⟩
  ·refine fJ [(65,_),(64,_)] 12 [some 11,some 10] fun G a w S=>?_
   exact sSk S y y y y y y fun a S=>leafL ⟨y,S⟩
  ·refine fJ [(64,_),(66,_)] 13 [some 10,some 12] fun G a w S=>?_
   exact sPickF (.bool false) S (wN y) y y y y y (lb y) fun a S=>leafL ⟨y,S⟩
  ·exact fM 14 (some 13) y y y y (.inl y) y y y
  ·refine fJ [(4,_),(68,_)] 15 [none,some 14] fun G a w S=>?_
   exact sSk S y y y y y y fun a S=>leafL ⟨y,S⟩
  ·refine fJ [(68,_)] 16 [some 14] fun G a w S=>?_
   exact sSk S y y y y y y fun a S=>leafL ⟨y,S⟩
  ·refine fJ [(70,_),(68,_)] 17 [some 16,some 14] fun G a w S=>?_
   exact sSk S y y y y y y fun a S=>leafL ⟨y,S⟩
  ·refine fJ [(69,_),(71,_),(68,_)] 18 [some 15,some 17,some 14] fun G a w S=>?_
   exact sSk S y y y y y y fun a S=>leafL ⟨y,S⟩
  ·refine fJ [(68,_),(72,_)] 19 [some 14,some 18] fun G a w S=>?_
   exact sPickF (.bool false) S (wN y) y y y y y (lb y) fun a S=>leafL ⟨y,S⟩
  ·exact fM 20 (some 19) y y y y (.inl y) y y y
  ·refine fJ [(7,_),(74,_)] 21 [none,some 20] fun G a w S=>?_
   exact sSk S y y y y y y fun a S=>leafL ⟨y,S⟩
  ·refine fJ [(74,_)] 22 [some 20] fun G a w S=>?_
   exact sSk S y y y y y y fun a S=>leafL ⟨y,S⟩
  ·refine fJ [(75,_),(76,_),(74,_)] 23 [some 21,some 22,some 20] fun G a w S=>?_
   exact sSk S y y y y y y fun a S=>leafL ⟨y,S⟩
  ·refine fJ [(74,_),(77,_)] 24 [some 20,some 23] fun G a w S=>?_
   exact sPickF (.bool false) S (wN y) y y y y y (lb y) fun a S=>leafL ⟨y,S⟩
  ·exact fM 25 (some 24) y y y y (.inl y) y y y
  ·refine fJ [(8,_),(79,_)] 26 [none,some 25] fun G a w S=>?_
   exact sSk S y y y y y y fun a S=>leafL ⟨y,S⟩
  ·refine fJ [(80,_),(79,_)] 27 [some 26,some 25] fun G a w S=>?_
   exact sSk S y y y y y y fun a S=>leafL ⟨y,S⟩
  ·refine fJ [(79,_),(81,_)] 28 [some 25,some 27] fun G a w S=>?_
   exact sPickF (.bool false) S (wN y) y y y y y (lb y) fun a S=>leafL ⟨y,S⟩
  ·exact fM 29 (some 28) y y y y (.inl y) y y y
  ·refine fJ [(11,_),(83,_)] 30 [none,some 29] fun G a w S=>?_
   exact sSk S y y y y y y fun a S=>leafL ⟨y,S⟩
  ·refine fJ [(84,_),(83,_)] 31 [some 30,some 29] fun G a w S=>?_
   exact sSk S y y y y y y fun a S=>leafL ⟨y,S⟩
  ·refine fJ [(83,_),(85,_)] 32 [some 29,some 31] fun G a w S=>?_
   exact sPickF (.bool false) S (wN y) y y y y y (lb y) fun a S=>leafL ⟨y,S⟩
  ·exact fM 33 (some 32) y y y y (.inl y) y y y
  ·refine fJ [(10,_),(87,_)] 34 [none,some 33] fun G a w S=>?_
   exact sSk S y y y y y y fun a S=>leafL ⟨y,S⟩
  ·refine fJ [(87,_)] 35 [some 33] fun G a w S=>?_
   exact sSk S y y y y y y fun a S=>leafL ⟨y,S⟩
  ·refine fJ [(88,_),(89,_),(87,_)] 36 [some 34,some 35,some 33] fun G a w S=>?_
   exact sSk S y y y y y y fun a S=>leafL ⟨y,S⟩
  ·refine fJ [(87,_),(90,_)] 37 [some 33,some 36] fun G a w S=>?_
   exact sPickF (.bool false) S (wN y) y y y y y (lb y) fun a S=>leafL ⟨y,S⟩
  ·exact fM 38 (some 37) y y y y (.inr y) y y y
  exact leafT (⟨false,Option.some.inj h,S.fix [] [] (by decide) y y y⟩)
 obtain ⟨ag,aI,h⟩:=bS h
 rcases iS h with ⟨ae,h⟩ | ⟨ae,h⟩
 rotate_left
 ·refine sDraw (nf:=[3]) (W:=[(0,54,.bool ao),(1,55,.bool ao),(2,56,.slice a5 a2.1.length a6)]) y S ?_
  refine node_by (A:=anc_raddlelaw17_alive_0) 39 (by kernel_rfl) (by kernel_rfl) (by kernel_rfl) (by kernel_rfl) (by kernel_rfl) [0,1,2] (by kernel_rfl) (by decide) (by decide) (fF ?_ (fF ?_ (fF ?_ (fN ?_ (fE 3 (fE 3 (fE 3 (fE 3 (fE 3 (fE 3 (fE 3 (fE 3 (fE 3 (fE 3 (fE 3 (fE 3 (fE 3 (fE 3 (fE 3 (fE 3 (fE 3 (fE 3 (fE 3 (fE 3 (fE 3 (fE 3 (fE 3 (fE 3 (fE 3 (fE 3 (fE 3 (fE 3 (fE 3 (fE 3 (fE 3 (fE 3 (fE 3 (fE 3 (fE 3 (trivial)))))))))))))))))))))))))))))))))))))))) [] (fun q hq=>by cases hq) (fun hY=>absurd (hY 3 (by decide)) (by decide))
  ·exact fM 0 none y y y y (.inl y) y y y
  ·exact fM 1 (some 0) y y y y (.inl y) y y y
  ·refine fJ [(1,_),(55,_)] 2 [none,some 1] fun G a w S=>?_
   exact sMove (.slice a5 a2.1.length a6) S (wG 1 true 55 y y y a7) (.inl y) y y (lb y) fun a S=>leafL ⟨y,S⟩
  refine ⟨_,[(55,.bool ao)],y,(srcs_of [some 1] y y y),fun G a w S=>?_⟩
  refine sLit (r:=(rI .i64)) (T:=3) (xs:=([0,0,0]:List Int)) [(0,iv 0),(1,iv 0),(2,iv 0)] 3 [iv 0,iv 0,iv 0] [iv 0,iv 0,iv 0] (iv 0) 8 S (wG 1 true 55 y y y a7) y y Try.underlying25 y (by decide) (by decide) (by kernel_rfl) y (fun E1 w1 hE=>All.cons y (All.cons y (All.cons y (All.nil _ _ _)))) y y (lb y) fun a w aO aP S=>?_
  refine leafL ⟨y,_,_,.inl ⟨57,(.slice aO ([0,0,0]:List Int).length aP),[(4,58,.bool ag),(5,59,.bool ag),(6,60,.bool ag),(7,61,undef),(8,62,undef),(9,63,.bool false),(10,64,.bool false),(11,65,undef),(12,66,undef),(13,67,.bool false),(14,68,.bool false),(15,69,undef),(16,70,undef),(17,71,undef),(18,72,undef),(19,73,.bool false),(20,74,.bool false),(21,75,undef),(22,76,undef),(23,77,undef),(24,78,.bool false),(25,79,.bool false),(26,80,undef),(27,81,undef),(28,82,.bool false),(29,83,.bool false),(30,84,undef),(31,85,undef),(32,86,.bool false),(33,87,.bool false),(34,88,undef),(35,89,undef),(36,90,undef),(37,91,.bool false),(38,0,.bool false)],y,S,hz_of y,?_⟩⟩
  refine node_by (A:=anc_raddlelaw17_alive_0) 39 (by kernel_rfl) (by kernel_rfl) (by kernel_rfl) (by kernel_rfl) (by kernel_rfl) [4,5,6,7,8,9,10,11,12,13,14,15,16,17,18,19,20,21,22,23,24,25,26,27,28,29,30,31,32,33,34,35,36,37,38,3,0,1,2] (by kernel_rfl) (by decide) (by decide) (fD 3 (fD 3 (fF ?_ (fY (fF ?_ (fF ?_ (fF ?_ (fF ?_ (fF ?_ (fF ?_ (fF ?_ (fF ?_ (fF ?_ (fF ?_ (fF ?_ (fF ?_ (fF ?_ (fF ?_ (fF ?_ (fF ?_ (fF ?_ (fF ?_ (fF ?_ (fF ?_ (fF ?_ (fF ?_ (fF ?_ (fF ?_ (fF ?_ (fF ?_ (fF ?_ (fF ?_ (fF ?_ (fF ?_ (fF ?_ (fF ?_ (fF ?_ (fF ?_ (fF ?_ (trivial)))))))))))))))))))))))))))))))))))))))) [(0,.bool false)] (fin_of [some 34] y (by kernel_rfl) (by kernel_rfl)) (fun _ a w S=>?_)
  ·refine fJ [(1,_),(55,_)] 38 [none,some 37] fun G a w S=>?_
   exact sMove (.slice a5 a2.1.length a6) S (wG 1 true 55 y y y a7) (.inl y) y y (lb y) fun a S=>leafL ⟨y,S⟩
  ·refine fJ [(56,_),(57,_),(55,_)] 0 [some 38,some 35,some 37] fun G a w S=>?_
   have S1:=S.mem
   have S1:=S1.shutR (r:=(rI .i64)) (T:=3) (v:=.slice aO ([0,0,0]:List Int).length aP) (xs:=([0,0,0]:List Int)) 0 y
   refine sCallQ (X:=Unit) (f:=17) (vs:=[.slice a5 a2.1.length a6,.slice aO ([0,0,0]:List Int).length aP]) (val:=fun _=>.bool ag) S (wG 1 true 55 y y y a7) y callee17 y (S1.quiet [1,0] y) (fun E1 w1 S1=>c_raddleref02_Same E1 w1 a2.1 (.slice a5 a2.1.length a6) ([0,0,0]:List Int) (.slice aO ([0,0,0]:List Int).length aP) ag aI S1) y (lb y) fun _ a w S=>?_
   exact leafL ⟨y,S⟩
  ·refine fJ [(55,_),(58,_)] 1 [some 37,some 0] fun G a w S=>?_
   exact sPickT (.bool ag) S (wN y) y y a7 y y (lb y) fun a S=>leafL ⟨y,S⟩
  ·exact fM 2 (some 1) y y y y (.inl y) y y y
  ·refine fJ [(2,_),(60,_)] 3 [none,some 2] fun G a w S=>?_
   exact sSk S y y y ae y y fun a S=>leafL ⟨y,S⟩
  ·refine fJ [(61,_),(60,_)] 4 [some 3,some 2] fun G a w S=>?_
   exact sSk S y y y ae y y fun a S=>leafL ⟨y,S⟩
  ·refine fJ [(60,_),(62,_)] 5 [some 2,some 4] fun G a w S=>?_
   exact sPickF (.bool false) S (wN y) y y ae y y (lb y) fun a S=>leafL ⟨y,S⟩
  ·exact fM 6 (some 5) y y y y (.inl y) y y y
  ·refine fJ [(5,_),(64,_)] 7 [none,some 6] fun G a w S=>?_
   exact sSk S y y y y y y fun a S=>leafL ⟨y,S⟩
  ·refine fJ [(65,_),(64,_)] 8 [some 7,some 6] fun G a w S=>?_
   exact sSk S y y y y y y fun a S=>leafL ⟨y,S⟩
  ·refine fJ [(64,_),(66,_)] 9 [some 6,some 8] fun G a w S=>?_
   exact sPickF (.bool false) S (wN y) y y y y y (lb y) fun a S=>leafL ⟨y,S⟩
  ·exact fM 10 (some 9) y y y y (.inl y) y y y
  ·refine fJ [(4,_),(68,_)] 11 [none,some 10] fun G a w S=>?_
   exact sSk S y y y y y y fun a S=>leafL ⟨y,S⟩
  ·refine fJ [(68,_)] 12 [some 10] fun G a w S=>?_
   exact sSk S y y y y y y fun a S=>leafL ⟨y,S⟩
  ·refine fJ [(70,_),(68,_)] 13 [some 12,some 10] fun G a w S=>?_
   exact sSk S y y y y y y fun a S=>leafL ⟨y,S⟩
  ·refine fJ [(69,_),(71,_),(68,_)] 14 [some 11,some 13,some 10] fun G a w S=>?_
   exact sSk S y y y y y y fun a S=>leafL ⟨y,S⟩
  ·refine fJ [(68,_),(72,_)] 15 [some 10,some 14] fun G a w S=>?_
   exact sPickF (.bool false) S (wN y) y y y y y (lb y) fun a S=>leafL ⟨y,S⟩
  ·exact fM 16 (some 15) y y y y (.inl y) y y y
  ·refine fJ [(7,_),(74,_)] 17 [none,some 16] fun G a w S=>?_
   exact sSk S y y y y y y fun a S=>leafL ⟨y,S⟩
  ·refine fJ [(74,_)] 18 [some 16] fun G a w S=>?_
   exact sSk S y y y y y y fun a S=>leafL ⟨y,S⟩
  ·refine fJ [(75,_),(76,_),(74,_)] 19 [some 17,some 18,some 16] fun G a w S=>?_
   exact sSk S y y y y y y fun a S=>leafL ⟨y,S⟩
  ·refine fJ [(74,_),(77,_)] 20 [some 16,some 19] fun G a w S=>?_
   exact sPickF (.bool false) S (wN y) y y y y y (lb y) fun a S=>leafL ⟨y,S⟩
  ·exact fM 21 (some 20) y y y y (.inl y) y y y
  ·refine fJ [(8,_),(79,_)] 22 [none,some 21] fun G a w S=>?_
   exact sSk S y y y y y y fun a S=>leafL ⟨y,S⟩
  ·refine fJ [(80,_),(79,_)] 23 [some 22,some 21] fun G a w S=>?_
   exact sSk S y y y y y y fun a S=>leafL ⟨y,S⟩
  ·refine fJ [(79,_),(81,_)] 24 [some 21,some 23] fun G a w S=>?_
   exact sPickF (.bool false) S (wN y) y y y y y (lb y) fun a S=>leafL ⟨y,S⟩
  ·exact fM 25 (some 24) y y y y (.inl y) y y y
  ·refine fJ [(11,_),(83,_)] 26 [none,some 25] fun G a w S=>?_
   exact sSk S y y y y y y fun a S=>leafL ⟨y,S⟩
  ·refine fJ [(84,_),(83,_)] 27 [some 26,some 25] fun G a w S=>?_
   exact sSk S y y y y y y fun a S=>leafL ⟨y,S⟩
  ·refine fJ [(83,_),(85,_)] 28 [some 25,some 27] fun G a w S=>?_
   exact sPickF (.bool false) S (wN y) y y y y y (lb y) fun a S=>leafL ⟨y,S⟩
  ·exact fM 29 (some 28) y y y y (.inl y) y y y
  ·refine fJ [(10,_),(87,_)] 30 [none,some 29] fun G a w S=>?_
   exact sSk S y y y y y y fun a S=>leafL ⟨y,S⟩
  ·refine fJ [(87,_)] 31 [some 29] fun G a w S=>?_
   exact sSk S y y y y y y fun a S=>leafL ⟨y,S⟩
  ·refine fJ [(88,_),(89,_),(87,_)] 32 [some 30,some 31,some 29] fun G a w S=>?_
   exact sSk S y y y y y y fun a S=>leafL ⟨y,S⟩
  ·refine fJ [(87,_),(90,_)] 33 [some 29,some 32] fun G a w S=>?_
   exact sPickF (.bool false) S (wN y) y y y y y (lb y) fun a S=>leafL ⟨y,S⟩
  ·exact fM 34 (some 33) y y y y (.inr y) y y y
  exact leafT (⟨false,Option.some.inj h,S.fix [] [] (by decide) y y y⟩)
 rcases iS h with ⟨ah,h⟩ | ⟨ah,h⟩
 rotate_left
 ·refine sDraw (nf:=[3]) (W:=[(0,54,.bool ao),(1,55,.bool ao),(2,56,.slice a5 a2.1.length a6)]) y S ?_
  refine node_by (A:=anc_raddlelaw17_alive_0) 39 (by kernel_rfl) (by kernel_rfl) (by kernel_rfl) (by kernel_rfl) (by kernel_rfl) [0,1,2] (by kernel_rfl) (by decide) (by decide) (fF ?_ (fF ?_ (fF ?_ (fN ?_ (fE 3 (fE 3 (fE 3 (fE 3 (fE 3 (fE 3 (fE 3 (fE 3 (fE 3 (fE 3 (fE 3 (fE 3 (fE 3 (fE 3 (fE 3 (fE 3 (fE 3 (fE 3 (fE 3 (fE 3 (fE 3 (fE 3 (fE 3 (fE 3 (fE 3 (fE 3 (fE 3 (fE 3 (fE 3 (fE 3 (fE 3 (fE 3 (fE 3 (fE 3 (fE 3 (trivial)))))))))))))))))))))))))))))))))))))))) [] (fun q hq=>by cases hq) (fun hY=>absurd (hY 3 (by decide)) (by decide))
  ·exact fM 0 none y y y y (.inl y) y y y
  ·exact fM 1 (some 0) y y y y (.inl y) y y y
  ·refine fJ [(1,_),(55,_)] 2 [none,some 1] fun G a w S=>?_
   exact sMove (.slice a5 a2.1.length a6) S (wG 1 true 55 y y y a7) (.inl y) y y (lb y) fun a S=>leafL ⟨y,S⟩
  refine ⟨_,[(55,.bool ao)],y,(srcs_of [some 1] y y y),fun G a w S=>?_⟩
  refine sLit (r:=(rI .i64)) (T:=3) (xs:=([0,0,0]:List Int)) [(0,iv 0),(1,iv 0),(2,iv 0)] 3 [iv 0,iv 0,iv 0] [iv 0,iv 0,iv 0] (iv 0) 8 S (wG 1 true 55 y y y a7) y y Try.underlying25 y (by decide) (by decide) (by kernel_rfl) y (fun E1 w1 hE=>All.cons y (All.cons y (All.cons y (All.nil _ _ _)))) y y (lb y) fun a w aQ aR S=>?_
  refine leafL ⟨y,_,_,.inl ⟨57,(.slice aQ ([0,0,0]:List Int).length aR),[(4,58,.bool ag),(5,59,.bool ag),(6,60,.bool ag),(7,61,iv a2.2.1),(8,62,.bool (a2.2.1 == 1)),(9,63,.bool (a2.2.1 == 1)),(10,64,.bool (a2.2.1 == 1)),(11,65,undef),(12,66,undef),(13,67,.bool false),(14,68,.bool false),(15,69,undef),(16,70,undef),(17,71,undef),(18,72,undef),(19,73,.bool false),(20,74,.bool false),(21,75,undef),(22,76,undef),(23,77,undef),(24,78,.bool false),(25,79,.bool false),(26,80,undef),(27,81,undef),(28,82,.bool false),(29,83,.bool false),(30,84,undef),(31,85,undef),(32,86,.bool false),(33,87,.bool false),(34,88,undef),(35,89,undef),(36,90,undef),(37,91,.bool false),(38,0,.bool false)],y,S,hz_of y,?_⟩⟩
  refine node_by (A:=anc_raddlelaw17_alive_0) 39 (by kernel_rfl) (by kernel_rfl) (by kernel_rfl) (by kernel_rfl) (by kernel_rfl) [4,5,6,7,8,9,10,11,12,13,14,15,16,17,18,19,20,21,22,23,24,25,26,27,28,29,30,31,32,33,34,35,36,37,38,3,0,1,2] (by kernel_rfl) (by decide) (by decide) (fD 3 (fD 3 (fF ?_ (fY (fF ?_ (fF ?_ (fF ?_ (fF ?_ (fF ?_ (fF ?_ (fF ?_ (fF ?_ (fF ?_ (fF ?_ (fF ?_ (fF ?_ (fF ?_ (fF ?_ (fF ?_ (fF ?_ (fF ?_ (fF ?_ (fF ?_ (fF ?_ (fF ?_ (fF ?_ (fF ?_ (fF ?_ (fF ?_ (fF ?_ (fF ?_ (fF ?_ (fF ?_ (fF ?_ (fF ?_ (fF ?_ (fF ?_ (fF ?_ (fF ?_ (trivial)))))))))))))))))))))))))))))))))))))))) [(0,.bool false)] (fin_of [some 34] y (by kernel_rfl) (by kernel_rfl)) (fun _ a w S=>?_)
  ·refine fJ [(1,_),(55,_)] 38 [none,some 37] fun G a w S=>?_
   exact sMove (.slice a5 a2.1.length a6) S (wG 1 true 55 y y y a7) (.inl y) y y (lb y) fun a S=>leafL ⟨y,S⟩
  ·refine fJ [(56,_),(57,_),(55,_)] 0 [some 38,some 35,some 37] fun G a w S=>?_
   have S1:=S.mem
   have S1:=S1.shutR (r:=(rI .i64)) (T:=3) (v:=.slice aQ ([0,0,0]:List Int).length aR) (xs:=([0,0,0]:List Int)) 0 y
   refine sCallQ (X:=Unit) (f:=17) (vs:=[.slice a5 a2.1.length a6,.slice aQ ([0,0,0]:List Int).length aR]) (val:=fun _=>.bool ag) S (wG 1 true 55 y y y a7) y callee17 y (S1.quiet [1,0] y) (fun E1 w1 S1=>c_raddleref02_Same E1 w1 a2.1 (.slice a5 a2.1.length a6) ([0,0,0]:List Int) (.slice aQ ([0,0,0]:List Int).length aR) ag aI S1) y (lb y) fun _ a w S=>?_
   exact leafL ⟨y,S⟩
  ·refine fJ [(55,_),(58,_)] 1 [some 37,some 0] fun G a w S=>?_
   exact sPickT (.bool ag) S (wN y) y y a7 y y (lb y) fun a S=>leafL ⟨y,S⟩
  ·exact fM 2 (some 1) y y y y (.inl y) y y y
  ·refine fJ [(2,_),(60,_)] 3 [none,some 2] fun G a w S=>?_
   exact sMove (iv a2.2.1) S (wG 6 true 60 y y y ae) (.inl y) y y (lb y) fun a S=>leafL ⟨y,S⟩
  ·refine fJ [(61,_),(60,_)] 4 [some 3,some 2] fun G a w S=>?_
   exact sBin _ S (wG 6 true 60 y y y ae) y y y (bEq _ _ _ _ .i64 a2.2.1 1) y (lb y) fun a S=>leafL ⟨y,S⟩
  ·refine fJ [(60,_),(62,_)] 5 [some 2,some 4] fun G a w S=>?_
   exact sPickT (.bool (a2.2.1 == 1)) S (wN y) y y ae y y (lb y) fun a S=>leafL ⟨y,S⟩
  ·exact fM 6 (some 5) y y y y (.inl y) y y y
  ·refine fJ [(5,_),(64,_)] 7 [none,some 6] fun G a w S=>?_
   exact sSk S y y y ah y y fun a S=>leafL ⟨y,S⟩
  ·refine fJ [(65,_),(64,_)] 8 [some 7,some 6] fun G a w S=>?_
   exact sSk S y y y ah y y fun a S=>leafL ⟨y,S⟩
  ·refine fJ [(64,_),(66,_)] 9 [some 6,some 8] fun G a w S=>?_
   exact sPickF (.bool false) S (wN y) y y ah y y (lb y) fun a S=>leafL ⟨y,S⟩
  ·exact fM 10 (some 9) y y y y (.inl y) y y y
  ·refine fJ [(4,_),(68,_)] 11 [none,some 10] fun G a w S=>?_
   exact sSk S y y y y y y fun a S=>leafL ⟨y,S⟩
  ·refine fJ [(68,_)] 12 [some 10] fun G a w S=>?_
   exact sSk S y y y y y y fun a S=>leafL ⟨y,S⟩
  ·refine fJ [(70,_),(68,_)] 13 [some 12,some 10] fun G a w S=>?_
   exact sSk S y y y y y y fun a S=>leafL ⟨y,S⟩
  ·refine fJ [(69,_),(71,_),(68,_)] 14 [some 11,some 13,some 10] fun G a w S=>?_
   exact sSk S y y y y y y fun a S=>leafL ⟨y,S⟩
  ·refine fJ [(68,_),(72,_)] 15 [some 10,some 14] fun G a w S=>?_
   exact sPickF (.bool false) S (wN y) y y y y y (lb y) fun a S=>leafL ⟨y,S⟩
  ·exact fM 16 (some 15) y y y y (.inl y) y y y
  ·refine fJ [(7,_),(74,_)] 17 [none,some 16] fun G a w S=>?_
   exact sSk S y y y y y y fun a S=>leafL ⟨y,S⟩
  ·refine fJ [(74,_)] 18 [some 16] fun G a w S=>?_
   exact sSk S y y y y y y fun a S=>leafL ⟨y,S⟩
  ·refine fJ [(75,_),(76,_),(74,_)] 19 [some 17,some 18,some 16] fun G a w S=>?_
   exact sSk S y y y y y y fun a S=>leafL ⟨y,S⟩
  ·refine fJ [(74,_),(77,_)] 20 [some 16,some 19] fun G a w S=>?_
   exact sPickF (.bool false) S (wN y) y y y y y (lb y) fun a S=>leafL ⟨y,S⟩
  ·exact fM 21 (some 20) y y y y (.inl y) y y y
  ·refine fJ [(8,_),(79,_)] 22 [none,some 21] fun G a w S=>?_
   exact sSk S y y y y y y fun a S=>leafL ⟨y,S⟩
  ·refine fJ [(80,_),(79,_)] 23 [some 22,some 21] fun G a w S=>?_
   exact sSk S y y y y y y fun a S=>leafL ⟨y,S⟩
  ·refine fJ [(79,_),(81,_)] 24 [some 21,some 23] fun G a w S=>?_
   exact sPickF (.bool false) S (wN y) y y y y y (lb y) fun a S=>leafL ⟨y,S⟩
  ·exact fM 25 (some 24) y y y y (.inl y) y y y
  ·refine fJ [(11,_),(83,_)] 26 [none,some 25] fun G a w S=>?_
   exact sSk S y y y y y y fun a S=>leafL ⟨y,S⟩
  ·refine fJ [(84,_),(83,_)] 27 [some 26,some 25] fun G a w S=>?_
   exact sSk S y y y y y y fun a S=>leafL ⟨y,S⟩
  ·refine fJ [(83,_),(85,_)] 28 [some 25,some 27] fun G a w S=>?_
   exact sPickF (.bool false) S (wN y) y y y y y (lb y) fun a S=>leafL ⟨y,S⟩
  ·exact fM 29 (some 28) y y y y (.inl y) y y y
  ·refine fJ [(10,_),(87,_)] 30 [none,some 29] fun G a w S=>?_
   exact sSk S y y y y y y fun a S=>leafL ⟨y,S⟩
  ·refine fJ [(87,_)] 31 [some 29] fun G a w S=>?_
   exact sSk S y y y y y y fun a S=>leafL ⟨y,S⟩
  ·refine fJ [(88,_),(89,_),(87,_)] 32 [some 30,some 31,some 29] fun G a w S=>?_
   exact sSk S y y y y y y fun a S=>leafL ⟨y,S⟩
  ·refine fJ [(87,_),(90,_)] 33 [some 29,some 32] fun G a w S=>?_
   exact sPickF (.bool false) S (wN y) y y y y y (lb y) fun a S=>leafL ⟨y,S⟩
  ·exact fM 34 (some 33) y y y y (.inr y) y y y
  exact leafT (⟨false,Option.some.inj h,S.fix [] [] (by decide) y y y⟩)
 rcases iS h with ⟨a9,h⟩ | ⟨a9,h⟩
 rotate_left
 ·refine sDraw (nf:=[3]) (W:=[(0,54,.bool ao),(1,55,.bool ao),(2,56,.slice a5 a2.1.length a6)]) y S ?_
  refine node_by (A:=anc_raddlelaw17_alive_0) 39 (by kernel_rfl) (by kernel_rfl) (by kernel_rfl) (by kernel_rfl) (by kernel_rfl) [0,1,2] (by kernel_rfl) (by decide) (by decide) (fF ?_ (fF ?_ (fF ?_ (fN ?_ (fE 3 (fE 3 (fE 3 (fE 3 (fE 3 (fE 3 (fE 3 (fE 3 (fE 3 (fE 3 (fE 3 (fE 3 (fE 3 (fE 3 (fE 3 (fE 3 (fE 3 (fE 3 (fE 3 (fE 3 (fE 3 (fE 3 (fE 3 (fE 3 (fE 3 (fE 3 (fE 3 (fE 3 (fE 3 (fE 3 (fE 3 (fE 3 (fE 3 (fE 3 (fE 3 (trivial)))))))))))))))))))))))))))))))))))))))) [] (fun q hq=>by cases hq) (fun hY=>absurd (hY 3 (by decide)) (by decide))
  ·exact fM 0 none y y y y (.inl y) y y y
  ·exact fM 1 (some 0) y y y y (.inl y) y y y
  ·refine fJ [(1,_),(55,_)] 2 [none,some 1] fun G a w S=>?_
   exact sMove (.slice a5 a2.1.length a6) S (wG 1 true 55 y y y a7) (.inl y) y y (lb y) fun a S=>leafL ⟨y,S⟩
  refine ⟨_,[(55,.bool ao)],y,(srcs_of [some 1] y y y),fun G a w S=>?_⟩
  refine sLit (r:=(rI .i64)) (T:=3) (xs:=([0,0,0]:List Int)) [(0,iv 0),(1,iv 0),(2,iv 0)] 3 [iv 0,iv 0,iv 0] [iv 0,iv 0,iv 0] (iv 0) 8 S (wG 1 true 55 y y y a7) y y Try.underlying25 y (by decide) (by decide) (by kernel_rfl) y (fun E1 w1 hE=>All.cons y (All.cons y (All.cons y (All.nil _ _ _)))) y y (lb y) fun a w aS aT S=>?_
  refine leafL ⟨y,_,_,.inl ⟨57,(.slice aS ([0,0,0]:List Int).length aT),[(4,58,.bool ag),(5,59,.bool ag),(6,60,.bool ag),(7,61,iv a2.2.1),(8,62,.bool (a2.2.1 == 1)),(9,63,.bool (a2.2.1 == 1)),(10,64,.bool (a2.2.1 == 1)),(11,65,iv a0.2.1),(12,66,.bool (a0.2.1 == 1)),(13,67,.bool (a0.2.1 == 1)),(14,68,.bool (a0.2.1 == 1)),(15,69,undef),(16,70,undef),(17,71,undef),(18,72,undef),(19,73,.bool false),(20,74,.bool false),(21,75,undef),(22,76,undef),(23,77,undef),(24,78,.bool false),(25,79,.bool false),(26,80,undef),(27,81,undef),(28,82,.bool false),(29,83,.bool false),(30,84,undef),(31,85,undef),(32,86,.bool false),(33,87,.bool false),(34,88,undef),(35,89,undef),(36,90,undef),(37,91,.bool false),(38,0,.bool false)],y,S,hz_of y,?_⟩⟩
  refine node_by (A:=anc_raddlelaw17_alive_0) 39 (by kernel_rfl) (by kernel_rfl) (by kernel_rfl) (by kernel_rfl) (by kernel_rfl) [4,5,6,7,8,9,10,11,12,13,14,15,16,17,18,19,20,21,22,23,24,25,26,27,28,29,30,31,32,33,34,35,36,37,38,3,0,1,2] (by kernel_rfl) (by decide) (by decide) (fD 3 (fD 3 (fF ?_ (fY (fF ?_ (fF ?_ (fF ?_ (fF ?_ (fF ?_ (fF ?_ (fF ?_ (fF ?_ (fF ?_ (fF ?_ (fF ?_ (fF ?_ (fF ?_ (fF ?_ (fF ?_ (fF ?_ (fF ?_ (fF ?_ (fF ?_ (fF ?_ (fF ?_ (fF ?_ (fF ?_ (fF ?_ (fF ?_ (fF ?_ (fF ?_ (fF ?_ (fF ?_ (fF ?_ (fF ?_ (fF ?_ (fF ?_ (fF ?_ (fF ?_ (trivial)))))))))))))))))))))))))))))))))))))))) [(0,.bool false)] (fin_of [some 34] y (by kernel_rfl) (by kernel_rfl)) (fun _ a w S=>?_)
  ·refine fJ [(1,_),(55,_)] 38 [none,some 37] fun G a w S=>?_
   exact sMove (.slice a5 a2.1.length a6) S (wG 1 true 55 y y y a7) (.inl y) y y (lb y) fun a S=>leafL ⟨y,S⟩
  ·refine fJ [(56,_),(57,_),(55,_)] 0 [some 38,some 35,some 37] fun G a w S=>?_
   have S1:=S.mem
   have S1:=S1.shutR (r:=(rI .i64)) (T:=3) (v:=.slice aS ([0,0,0]:List Int).length aT) (xs:=([0,0,0]:List Int)) 0 y
   refine sCallQ (X:=Unit) (f:=17) (vs:=[.slice a5 a2.1.length a6,.slice aS ([0,0,0]:List Int).length aT]) (val:=fun _=>.bool ag) S (wG 1 true 55 y y y a7) y callee17 y (S1.quiet [1,0] y) (fun E1 w1 S1=>c_raddleref02_Same E1 w1 a2.1 (.slice a5 a2.1.length a6) ([0,0,0]:List Int) (.slice aS ([0,0,0]:List Int).length aT) ag aI S1) y (lb y) fun _ a w S=>?_
   exact leafL ⟨y,S⟩
  ·refine fJ [(55,_),(58,_)] 1 [some 37,some 0] fun G a w S=>?_
   exact sPickT (.bool ag) S (wN y) y y a7 y y (lb y) fun a S=>leafL ⟨y,S⟩
  ·exact fM 2 (some 1) y y y y (.inl y) y y y
  ·refine fJ [(2,_),(60,_)] 3 [none,some 2] fun G a w S=>?_
   exact sMove (iv a2.2.1) S (wG 6 true 60 y y y ae) (.inl y) y y (lb y) fun a S=>leafL ⟨y,S⟩
  ·refine fJ [(61,_),(60,_)] 4 [some 3,some 2] fun G a w S=>?_
   exact sBin _ S (wG 6 true 60 y y y ae) y y y (bEq _ _ _ _ .i64 a2.2.1 1) y (lb y) fun a S=>leafL ⟨y,S⟩
  ·refine fJ [(60,_),(62,_)] 5 [some 2,some 4] fun G a w S=>?_
   exact sPickT (.bool (a2.2.1 == 1)) S (wN y) y y ae y y (lb y) fun a S=>leafL ⟨y,S⟩
  ·exact fM 6 (some 5) y y y y (.inl y) y y y
  ·refine fJ [(5,_),(64,_)] 7 [none,some 6] fun G a w S=>?_
   exact sMove (iv a0.2.1) S (wG 10 true 64 y y y ah) (.inl y) y y (lb y) fun a S=>leafL ⟨y,S⟩
  ·refine fJ [(65,_),(64,_)] 8 [some 7,some 6] fun G a w S=>?_
   exact sBin _ S (wG 10 true 64 y y y ah) y y y (bEq _ _ _ _ .i64 a0.2.1 1) y (lb y) fun a S=>leafL ⟨y,S⟩
  ·refine fJ [(64,_),(66,_)] 9 [some 6,some 8] fun G a w S=>?_
   exact sPickT (.bool (a0.2.1 == 1)) S (wN y) y y ah y y (lb y) fun a S=>leafL ⟨y,S⟩
  ·exact fM 10 (some 9) y y y y (.inl y) y y y
  ·refine fJ [(4,_),(68,_)] 11 [none,some 10] fun G a w S=>?_
   exact sSk S y y y a9 y y fun a S=>leafL ⟨y,S⟩
  ·refine fJ [(68,_)] 12 [some 10] fun G a w S=>?_
   exact sSk S y y y a9 y y fun a S=>leafL ⟨y,S⟩
  ·refine fJ [(70,_),(68,_)] 13 [some 12,some 10] fun G a w S=>?_
   exact sSk S y y y a9 y y fun a S=>leafL ⟨y,S⟩
  ·refine fJ [(69,_),(71,_),(68,_)] 14 [some 11,some 13,some 10] fun G a w S=>?_
   exact sSk S y y y a9 y y fun a S=>leafL ⟨y,S⟩
  ·refine fJ [(68,_),(72,_)] 15 [some 10,some 14] fun G a w S=>?_
   exact sPickF (.bool false) S (wN y) y y a9 y y (lb y) fun a S=>leafL ⟨y,S⟩
  ·exact fM 16 (some 15) y y y y (.inl y) y y y
  ·refine fJ [(7,_),(74,_)] 17 [none,some 16] fun G a w S=>?_
   exact sSk S y y y y y y fun a S=>leafL ⟨y,S⟩
  ·refine fJ [(74,_)] 18 [some 16] fun G a w S=>?_
   exact sSk S y y y y y y fun a S=>leafL ⟨y,S⟩
  ·refine fJ [(75,_),(76,_),(74,_)] 19 [some 17,some 18,some 16] fun G a w S=>?_
   exact sSk S y y y y y y fun a S=>leafL ⟨y,S⟩
  ·refine fJ [(74,_),(77,_)] 20 [some 16,some 19] fun G a w S=>?_
   exact sPickF (.bool false) S (wN y) y y y y y (lb y) fun a S=>leafL ⟨y,S⟩
  ·exact fM 21 (some 20) y y y y (.inl y) y y y
  ·refine fJ [(8,_),(79,_)] 22 [none,some 21] fun G a w S=>?_
   exact sSk S y y y y y y fun a S=>leafL ⟨y,S⟩
  ·refine fJ [(80,_),(79,_)] 23 [some 22,some 21] fun G a w S=>?_
   exact sSk S y y y y y y fun a S=>leafL ⟨y,S⟩
  ·refine fJ [(79,_),(81,_)] 24 [some 21,some 23] fun G a w S=>?_
   exact sPickF (.bool false) S (wN y) y y y y y (lb y) fun a S=>leafL ⟨y,S⟩
  ·exact fM 25 (some 24) y y y y (.inl y) y y y
  ·refine fJ [(11,_),(83,_)] 26 [none,some 25] fun G a w S=>?_
   exact sSk S y y y y y y fun a S=>leafL ⟨y,S⟩
  ·refine fJ [(84,_),(83,_)] 27 [some 26,some 25] fun G a w S=>?_
   exact sSk S y y y y y y fun a S=>leafL ⟨y,S⟩
  ·refine fJ [(83,_),(85,_)] 28 [some 25,some 27] fun G a w S=>?_
   exact sPickF (.bool false) S (wN y) y y y y y (lb y) fun a S=>leafL ⟨y,S⟩
  ·exact fM 29 (some 28) y y y y (.inl y) y y y
  ·refine fJ [(10,_),(87,_)] 30 [none,some 29] fun G a w S=>?_
   exact sSk S y y y y y y fun a S=>leafL ⟨y,S⟩
  ·refine fJ [(87,_)] 31 [some 29] fun G a w S=>?_
   exact sSk S y y y y y y fun a S=>leafL ⟨y,S⟩
  ·refine fJ [(88,_),(89,_),(87,_)] 32 [some 30,some 31,some 29] fun G a w S=>?_
   exact sSk S y y y y y y fun a S=>leafL ⟨y,S⟩
  ·refine fJ [(87,_),(90,_)] 33 [some 29,some 32] fun G a w S=>?_
   exact sPickF (.bool false) S (wN y) y y y y y (lb y) fun a S=>leafL ⟨y,S⟩
  ·exact fM 34 (some 33) y y y y (.inr y) y y y
  exact leafT (⟨false,Option.some.inj h,S.fix [] [] (by decide) y y y⟩)
 obtain ⟨ak,bk,h⟩:=bS h
 rcases iS h with ⟨af,h⟩ | ⟨af,h⟩
 rotate_left
 ·refine sDraw (nf:=[3,16]) (W:=[(0,54,.bool ao),(1,55,.bool ao),(2,56,.slice a5 a2.1.length a6)]) y S ?_
  refine node_by (A:=anc_raddlelaw17_alive_0) 39 (by kernel_rfl) (by kernel_rfl) (by kernel_rfl) (by kernel_rfl) (by kernel_rfl) [0,1,2] (by kernel_rfl) (by decide) (by decide) (fF ?_ (fF ?_ (fF ?_ (fN ?_ (fE 3 (fE 3 (fE 3 (fE 3 (fE 3 (fE 3 (fE 3 (fE 3 (fE 3 (fE 3 (fE 3 (fE 3 (aB 16 22 3 (by decide) (fE 3 (fE 3 (fE 3 (fE 3 (fE 3 (fE 3 (fE 3 (fE 3 (fE 3 (fE 3 (fE 3 (fE 3 (fE 3 (fE 3 (fE 3 (fE 3 (fE 3 (fE 3 (fE 3 (fE 3 (fE 3 (fE 3 (trivial)))))))))))))))))))))))))))))))))))))))) [] (fun q hq=>by cases hq) (fun hY=>absurd (hY 3 (by decide)) (by decide))
  ·exact fM 0 none y y y y (.inl y) y y y
  ·exact fM 1 (some 0) y y y y (.inl y) y y y
  ·refine fJ [(1,_),(55,_)] 2 [none,some 1] fun G a w S=>?_
   exact sMove (.slice a5 a2.1.length a6) S (wG 1 true 55 y y y a7) (.inl y) y y (lb y) fun a S=>leafL ⟨y,S⟩
  refine ⟨_,[(55,.bool ao)],y,(srcs_of [some 1] y y y),fun G a w S=>?_⟩
  refine sLit (r:=(rI .i64)) (T:=3) (xs:=([0,0,0]:List Int)) [(0,iv 0),(1,iv 0),(2,iv 0)] 3 [iv 0,iv 0,iv 0] [iv 0,iv 0,iv 0] (iv 0) 8 S (wG 1 true 55 y y y a7) y y Try.underlying25 y (by decide) (by decide) (by kernel_rfl) y (fun E1 w1 hE=>All.cons y (All.cons y (All.cons y (All.nil _ _ _)))) y y (lb y) fun a w aU aV S=>?_
  refine leafL ⟨y,_,_,.inl ⟨57,(.slice aU ([0,0,0]:List Int).length aV),[(4,58,.bool ag),(5,59,.bool ag),(6,60,.bool ag),(7,61,iv a2.2.1),(8,62,.bool (a2.2.1 == 1)),(9,63,.bool (a2.2.1 == 1)),(10,64,.bool (a2.2.1 == 1)),(11,65,iv a0.2.1),(12,66,.bool (a0.2.1 == 1)),(13,67,.bool (a0.2.1 == 1)),(14,68,.bool (a0.2.1 == 1)),(15,69,.agg #[iv a0.1.W,iv a0.1.H,.slice a3 a0.1.Bits.length a4])],y,S,hz_of y,?_⟩⟩
  refine node_by (A:=anc_raddlelaw17_alive_0) 39 (by kernel_rfl) (by kernel_rfl) (by kernel_rfl) (by kernel_rfl) (by kernel_rfl) [4,5,6,7,8,9,10,11,12,13,14,15,3,0,1,2] (by kernel_rfl) (by decide) (by decide) (fD 3 (fD 3 (fF ?_ (fY (fF ?_ (fF ?_ (fF ?_ (fF ?_ (fF ?_ (fF ?_ (fF ?_ (fF ?_ (fF ?_ (fF ?_ (fF ?_ (fF ?_ (fN ?_ (fE 16 (fE 16 (fE 16 (fE 16 (fE 16 (fE 16 (fE 16 (fE 16 (fE 16 (fE 16 (fE 16 (fE 16 (fE 16 (fE 16 (fE 16 (fE 16 (fE 16 (fE 16 (fE 16 (fE 16 (fE 16 (fE 16 (trivial)))))))))))))))))))))))))))))))))))))))) [] (fun q hq=>by cases hq) (fun hY=>absurd (hY 16 (by decide)) (by decide))
  ·refine fJ [(1,_),(55,_)] 15 [none,some 14] fun G a w S=>?_
   exact sMove (.slice a5 a2.1.length a6) S (wG 1 true 55 y y y a7) (.inl y) y y (lb y) fun a S=>leafL ⟨y,S⟩
  ·refine fJ [(56,_),(57,_),(55,_)] 0 [some 15,some 12,some 14] fun G a w S=>?_
   have S1:=S.mem
   have S1:=S1.shutR (r:=(rI .i64)) (T:=3) (v:=.slice aU ([0,0,0]:List Int).length aV) (xs:=([0,0,0]:List Int)) 0 y
   refine sCallQ (X:=Unit) (f:=17) (vs:=[.slice a5 a2.1.length a6,.slice aU ([0,0,0]:List Int).length aV]) (val:=fun _=>.bool ag) S (wG 1 true 55 y y y a7) y callee17 y (S1.quiet [1,0] y) (fun E1 w1 S1=>c_raddleref02_Same E1 w1 a2.1 (.slice a5 a2.1.length a6) ([0,0,0]:List Int) (.slice aU ([0,0,0]:List Int).length aV) ag aI S1) y (lb y) fun _ a w S=>?_
   exact leafL ⟨y,S⟩
  ·refine fJ [(55,_),(58,_)] 1 [some 14,some 0] fun G a w S=>?_
   exact sPickT (.bool ag) S (wN y) y y a7 y y (lb y) fun a S=>leafL ⟨y,S⟩
  ·exact fM 2 (some 1) y y y y (.inl y) y y y
  ·refine fJ [(2,_),(60,_)] 3 [none,some 2] fun G a w S=>?_
   exact sMove (iv a2.2.1) S (wG 6 true 60 y y y ae) (.inl y) y y (lb y) fun a S=>leafL ⟨y,S⟩
  ·refine fJ [(61,_),(60,_)] 4 [some 3,some 2] fun G a w S=>?_
   exact sBin _ S (wG 6 true 60 y y y ae) y y y (bEq _ _ _ _ .i64 a2.2.1 1) y (lb y) fun a S=>leafL ⟨y,S⟩
  ·refine fJ [(60,_),(62,_)] 5 [some 2,some 4] fun G a w S=>?_
   exact sPickT (.bool (a2.2.1 == 1)) S (wN y) y y ae y y (lb y) fun a S=>leafL ⟨y,S⟩
  ·exact fM 6 (some 5) y y y y (.inl y) y y y
  ·refine fJ [(5,_),(64,_)] 7 [none,some 6] fun G a w S=>?_
   exact sMove (iv a0.2.1) S (wG 10 true 64 y y y ah) (.inl y) y y (lb y) fun a S=>leafL ⟨y,S⟩
  ·refine fJ [(65,_),(64,_)] 8 [some 7,some 6] fun G a w S=>?_
   exact sBin _ S (wG 10 true 64 y y y ah) y y y (bEq _ _ _ _ .i64 a0.2.1 1) y (lb y) fun a S=>leafL ⟨y,S⟩
  ·refine fJ [(64,_),(66,_)] 9 [some 6,some 8] fun G a w S=>?_
   exact sPickT (.bool (a0.2.1 == 1)) S (wN y) y y ah y y (lb y) fun a S=>leafL ⟨y,S⟩
  ·exact fM 10 (some 9) y y y y (.inl y) y y y
  ·refine fJ [(4,_),(68,_)] 11 [none,some 10] fun G a w S=>?_
   exact sLoadN (p:=aH) (off:=0) (T:=24) (vs:=[iv a0.1.W,iv a0.1.H,.slice a3 a0.1.Bits.length a4]) 1 [iv a0.1.W,iv a0.1.H,.slice a3 a0.1.Bits.length a4] S (wG 14 true 68 y y y a9) y y y y y y y (lb y) fun a S=>leafL ⟨y,S⟩
  refine ⟨_,[(68,.bool (a0.2.1 == 1))],y,(srcs_of [some 10] y y y),fun G a w S=>?_⟩
  refine sLit (r:=rB) (T:=4) (xs:=[true,true,true,true,true,true]) [(0,.bool true),(1,.bool true),(2,.bool true),(3,.bool true),(4,.bool true),(5,.bool true)] 6 [.bool true,.bool true,.bool true,.bool true,.bool true,.bool true] [.bool true,.bool true,.bool true,.bool true,.bool true,.bool true] (.bool false) 1 S (wG 14 true 68 y y y a9) y y Try.underlying22 y (by decide) (by decide) (by kernel_rfl) y (fun E1 w1 hE=>All.cons y (All.cons y (All.cons y (All.cons y (All.cons y (All.cons y (All.nil _ _ _))))))) y y (lb y) fun a w ap aq S=>?_
  refine leafL ⟨y,_,_,.inl ⟨70,(.slice ap [true,true,true,true,true,true].length aq),[(17,71,.agg #[iv 3,iv 2,.slice ap [true,true,true,true,true,true].length aq]),(18,72,.bool ak),(19,73,.bool ak),(20,74,.bool ak),(21,75,undef),(22,76,undef),(23,77,undef),(24,78,.bool false),(25,79,.bool false),(26,80,undef),(27,81,undef),(28,82,.bool false),(29,83,.bool false),(30,84,undef),(31,85,undef),(32,86,.bool false),(33,87,.bool false),(34,88,undef),(35,89,undef),(36,90,undef),(37,91,.bool false),(38,0,.bool false)],y,S,hz_of y,?_⟩⟩
  refine node_by (A:=anc_raddlelaw17_alive_0) 39 (by kernel_rfl) (by kernel_rfl) (by kernel_rfl) (by kernel_rfl) (by kernel_rfl) [17,18,19,20,21,22,23,24,25,26,27,28,29,30,31,32,33,34,35,36,37,38,16,4,5,6,7,8,9,10,11,12,13,14,15,3,0,1,2] (by kernel_rfl) (by decide) (by decide) (fD 16 (fD 16 (fD 16 (fY (fD 16 (fD 16 (fD 16 (fD 16 (fD 16 (fD 16 (fD 16 (fD 16 (fD 16 (fD 16 (fD 16 (fF ?_ (fY (fF ?_ (fF ?_ (fF ?_ (fF ?_ (fF ?_ (fF ?_ (fF ?_ (fF ?_ (fF ?_ (fF ?_ (fF ?_ (fF ?_ (fF ?_ (fF ?_ (fF ?_ (fF ?_ (fF ?_ (fF ?_ (fF ?_ (fF ?_ (fF ?_ (fF ?_ (trivial)))))))))))))))))))))))))))))))))))))))) [(0,.bool false)] (fin_of [some 21] y (by kernel_rfl) (by kernel_rfl)) (fun _ a w S=>?_)
  ·refine fJ [(4,_),(68,_)] 34 [none,some 33] fun G a w S=>?_
   exact sLoadN (p:=aH) (off:=0) (T:=24) (vs:=[iv a0.1.W,iv a0.1.H,.slice a3 a0.1.Bits.length a4]) 2 [iv a0.1.W,iv a0.1.H,.slice a3 a0.1.Bits.length a4] S (wG 14 true 68 y y y a9) y y y y y y y (lb y) fun a S=>leafL ⟨y,S⟩
  ·refine fJ [(70,_),(68,_)] 0 [some 22,some 33] fun G a w S=>?_
   exact sBuild [(0,iv 3),(1,iv 2),(2,.slice ap [true,true,true,true,true,true].length aq)] [iv 3,iv 2,.slice ap [true,true,true,true,true,true].length aq] S (wG 14 true 68 y y y a9) y y y y (lb y) fun a S=>leafL ⟨y,S⟩
  ·refine fJ [(69,_),(71,_),(68,_)] 1 [some 34,some 0,some 33] fun G a w S=>?_
   have S1:=S.mem
   have S1:=S1.learn (fRep r_api_Grid (.agg #[iv a0.1.W,iv a0.1.H,.slice a3 a0.1.Bits.length a4]) a0.1) ⟨_,y,S1.know (i:=2) (e:=fRep (rL rB) (.slice a3 a0.1.Bits.length a4) a0.1.Bits) y⟩
   have S1:=S1.shutR (r:=rB) (T:=4) (v:=.slice ap [true,true,true,true,true,true].length aq) (xs:=[true,true,true,true,true,true]) 0 y
   have S1:=S1.learn (fRep r_api_Grid (.agg #[iv 3,iv 2,.slice ap [true,true,true,true,true,true].length aq]) (api_Grid.mk 3 2 [true,true,true,true,true,true])) ⟨_,y,S1.know (i:=0) (e:=fRep (rL rB) (.slice ap [true,true,true,true,true,true].length aq) [true,true,true,true,true,true]) y⟩
   refine sCallQ (X:=Unit) (f:=16) (vs:=[.agg #[iv a0.1.W,iv a0.1.H,.slice a3 a0.1.Bits.length a4],.agg #[iv 3,iv 2,.slice ap [true,true,true,true,true,true].length aq]]) (val:=fun _=>.bool ak) S (wG 14 true 68 y y y a9) y callee16 y (S1.quiet [2,0] y) (fun E1 w1 S1=>c_raddleref01_Same E1 w1 a0.1 (.agg #[iv a0.1.W,iv a0.1.H,.slice a3 a0.1.Bits.length a4]) (api_Grid.mk 3 2 [true,true,true,true,true,true]) (.agg #[iv 3,iv 2,.slice ap [true,true,true,true,true,true].length aq]) ak bk S1) y (lb y) fun _ a w S=>?_
   exact leafL ⟨y,S⟩
  ·refine fJ [(68,_),(72,_)] 2 [some 33,some 1] fun G a w S=>?_
   exact sPickT (.bool ak) S (wN y) y y a9 y y (lb y) fun a S=>leafL ⟨y,S⟩
  ·exact fM 3 (some 2) y y y y (.inl y) y y y
  ·refine fJ [(7,_),(74,_)] 4 [none,some 3] fun G a w S=>?_
   exact sSk S y y y af y y fun a S=>leafL ⟨y,S⟩
  ·refine fJ [(74,_)] 5 [some 3] fun G a w S=>?_
   exact sSk S y y y af y y fun a S=>leafL ⟨y,S⟩
  ·refine fJ [(75,_),(76,_),(74,_)] 6 [some 4,some 5,some 3] fun G a w S=>?_
   exact sSk S y y y af y y fun a S=>leafL ⟨y,S⟩
  ·refine fJ [(74,_),(77,_)] 7 [some 3,some 6] fun G a w S=>?_
   exact sPickF (.bool false) S (wN y) y y af y y (lb y) fun a S=>leafL ⟨y,S⟩
  ·exact fM 8 (some 7) y y y y (.inl y) y y y
  ·refine fJ [(8,_),(79,_)] 9 [none,some 8] fun G a w S=>?_
   exact sSk S y y y y y y fun a S=>leafL ⟨y,S⟩
  ·refine fJ [(80,_),(79,_)] 10 [some 9,some 8] fun G a w S=>?_
   exact sSk S y y y y y y fun a S=>leafL ⟨y,S⟩
  ·refine fJ [(79,_),(81,_)] 11 [some 8,some 10] fun G a w S=>?_
   exact sPickF (.bool false) S (wN y) y y y y y (lb y) fun a S=>leafL ⟨y,S⟩
  ·exact fM 12 (some 11) y y y y (.inl y) y y y
  ·refine fJ [(11,_),(83,_)] 13 [none,some 12] fun G a w S=>?_
   exact sSk S y y y y y y fun a S=>leafL ⟨y,S⟩
  ·refine fJ [(84,_),(83,_)] 14 [some 13,some 12] fun G a w S=>?_
   exact sSk S y y y y y y fun a S=>leafL ⟨y,S⟩
  ·refine fJ [(83,_),(85,_)] 15 [some 12,some 14] fun G a w S=>?_
   exact sPickF (.bool false) S (wN y) y y y y y (lb y) fun a S=>leafL ⟨y,S⟩
  ·exact fM 16 (some 15) y y y y (.inl y) y y y
  ·refine fJ [(10,_),(87,_)] 17 [none,some 16] fun G a w S=>?_
   exact sSk S y y y y y y fun a S=>leafL ⟨y,S⟩
  ·refine fJ [(87,_)] 18 [some 16] fun G a w S=>?_
   exact sSk S y y y y y y fun a S=>leafL ⟨y,S⟩
  ·refine fJ [(88,_),(89,_),(87,_)] 19 [some 17,some 18,some 16] fun G a w S=>?_
   exact sSk S y y y y y y fun a S=>leafL ⟨y,S⟩
  ·refine fJ [(87,_),(90,_)] 20 [some 16,some 19] fun G a w S=>?_
   exact sPickF (.bool false) S (wN y) y y y y y (lb y) fun a S=>leafL ⟨y,S⟩
  ·exact fM 21 (some 20) y y y y (.inr y) y y y
  exact leafT (⟨false,Option.some.inj h,S.fix [] [] (by decide) y y y⟩)
 obtain ⟨aA,bu,h⟩:=bS h
 rcases iS h with ⟨az,h⟩ | ⟨az,h⟩
 rotate_left
 ·refine sDraw (nf:=[3,16,22]) (W:=[(0,54,.bool ao),(1,55,.bool ao),(2,56,.slice a5 a2.1.length a6)]) y S ?_
  refine node_by (A:=anc_raddlelaw17_alive_0) 39 (by kernel_rfl) (by kernel_rfl) (by kernel_rfl) (by kernel_rfl) (by kernel_rfl) [0,1,2] (by kernel_rfl) (by decide) (by decide) (fF ?_ (fF ?_ (fF ?_ (fN ?_ (fE 3 (fE 3 (fE 3 (fE 3 (fE 3 (fE 3 (fE 3 (fE 3 (fE 3 (fE 3 (fE 3 (fE 3 (aB 16 22 3 (by decide) (fE 3 (fE 3 (fE 3 (fE 3 (fE 3 (aB 22 16 3 (by decide) (fE 3 (fE 3 (fE 3 (fE 3 (fE 3 (fE 3 (fE 3 (fE 3 (fE 3 (fE 3 (fE 3 (fE 3 (fE 3 (fE 3 (fE 3 (fE 3 (trivial)))))))))))))))))))))))))))))))))))))))) [] (fun q hq=>by cases hq) (fun hY=>absurd (hY 3 (by decide)) (by decide))
  ·exact fM 0 none y y y y (.inl y) y y y
  ·exact fM 1 (some 0) y y y y (.inl y) y y y
  ·refine fJ [(1,_),(55,_)] 2 [none,some 1] fun G a w S=>?_
   exact sMove (.slice a5 a2.1.length a6) S (wG 1 true 55 y y y a7) (.inl y) y y (lb y) fun a S=>leafL ⟨y,S⟩
  refine ⟨_,[(55,.bool ao)],y,(srcs_of [some 1] y y y),fun G a w S=>?_⟩
  refine sLit (r:=(rI .i64)) (T:=3) (xs:=([0,0,0]:List Int)) [(0,iv 0),(1,iv 0),(2,iv 0)] 3 [iv 0,iv 0,iv 0] [iv 0,iv 0,iv 0] (iv 0) 8 S (wG 1 true 55 y y y a7) y y Try.underlying25 y (by decide) (by decide) (by kernel_rfl) y (fun E1 w1 hE=>All.cons y (All.cons y (All.cons y (All.nil _ _ _)))) y y (lb y) fun a w aW aX S=>?_
  refine leafL ⟨y,_,_,.inl ⟨57,(.slice aW ([0,0,0]:List Int).length aX),[(4,58,.bool ag),(5,59,.bool ag),(6,60,.bool ag),(7,61,iv a2.2.1),(8,62,.bool (a2.2.1 == 1)),(9,63,.bool (a2.2.1 == 1)),(10,64,.bool (a2.2.1 == 1)),(11,65,iv a0.2.1),(12,66,.bool (a0.2.1 == 1)),(13,67,.bool (a0.2.1 == 1)),(14,68,.bool (a0.2.1 == 1)),(15,69,.agg #[iv a0.1.W,iv a0.1.H,.slice a3 a0.1.Bits.length a4])],y,S,hz_of y,?_⟩⟩
  refine node_by (A:=anc_raddlelaw17_alive_0) 39 (by kernel_rfl) (by kernel_rfl) (by kernel_rfl) (by kernel_rfl) (by kernel_rfl) [4,5,6,7,8,9,10,11,12,13,14,15,3,0,1,2] (by kernel_rfl) (by decide) (by decide) (fD 3 (fD 3 (fF ?_ (fY (fF ?_ (fF ?_ (fF ?_ (fF ?_ (fF ?_ (fF ?_ (fF ?_ (fF ?_ (fF ?_ (fF ?_ (fF ?_ (fF ?_ (fN ?_ (fE 16 (fE 16 (fE 16 (fE 16 (fE 16 (aB 22 16 16 (by decide) (fE 16 (fE 16 (fE 16 (fE 16 (fE 16 (fE 16 (fE 16 (fE 16 (fE 16 (fE 16 (fE 16 (fE 16 (fE 16 (fE 16 (fE 16 (fE 16 (trivial)))))))))))))))))))))))))))))))))))))))) [] (fun q hq=>by cases hq) (fun hY=>absurd (hY 16 (by decide)) (by decide))
  ·refine fJ [(1,_),(55,_)] 15 [none,some 14] fun G a w S=>?_
   exact sMove (.slice a5 a2.1.length a6) S (wG 1 true 55 y y y a7) (.inl y) y y (lb y) fun a S=>leafL ⟨y,S⟩
  ·refine fJ [(56,_),(57,_),(55,_)] 0 [some 15,some 12,some 14] fun G a w S=>?_
   have S1:=S.mem
   have S1:=S1.shutR (r:=(rI .i64)) (T:=3) (v:=.slice aW ([0,0,0]:List Int).length aX) (xs:=([0,0,0]:List Int)) 0 y
   refine sCallQ (X:=Unit) (f:=17) (vs:=[.slice a5 a2.1.length a6,.slice aW ([0,0,0]:List Int).length aX]) (val:=fun _=>.bool ag) S (wG 1 true 55 y y y a7) y callee17 y (S1.quiet [1,0] y) (fun E1 w1 S1=>c_raddleref02_Same E1 w1 a2.1 (.slice a5 a2.1.length a6) ([0,0,0]:List Int) (.slice aW ([0,0,0]:List Int).length aX) ag aI S1) y (lb y) fun _ a w S=>?_
   exact leafL ⟨y,S⟩
  ·refine fJ [(55,_),(58,_)] 1 [some 14,some 0] fun G a w S=>?_
   exact sPickT (.bool ag) S (wN y) y y a7 y y (lb y) fun a S=>leafL ⟨y,S⟩
  ·exact fM 2 (some 1) y y y y (.inl y) y y y
  ·refine fJ [(2,_),(60,_)] 3 [none,some 2] fun G a w S=>?_
   exact sMove (iv a2.2.1) S (wG 6 true 60 y y y ae) (.inl y) y y (lb y) fun a S=>leafL ⟨y,S⟩
  ·refine fJ [(61,_),(60,_)] 4 [some 3,some 2] fun G a w S=>?_
   exact sBin _ S (wG 6 true 60 y y y ae) y y y (bEq _ _ _ _ .i64 a2.2.1 1) y (lb y) fun a S=>leafL ⟨y,S⟩
  ·refine fJ [(60,_),(62,_)] 5 [some 2,some 4] fun G a w S=>?_
   exact sPickT (.bool (a2.2.1 == 1)) S (wN y) y y ae y y (lb y) fun a S=>leafL ⟨y,S⟩
  ·exact fM 6 (some 5) y y y y (.inl y) y y y
  ·refine fJ [(5,_),(64,_)] 7 [none,some 6] fun G a w S=>?_
   exact sMove (iv a0.2.1) S (wG 10 true 64 y y y ah) (.inl y) y y (lb y) fun a S=>leafL ⟨y,S⟩
  ·refine fJ [(65,_),(64,_)] 8 [some 7,some 6] fun G a w S=>?_
   exact sBin _ S (wG 10 true 64 y y y ah) y y y (bEq _ _ _ _ .i64 a0.2.1 1) y (lb y) fun a S=>leafL ⟨y,S⟩
  ·refine fJ [(64,_),(66,_)] 9 [some 6,some 8] fun G a w S=>?_
   exact sPickT (.bool (a0.2.1 == 1)) S (wN y) y y ah y y (lb y) fun a S=>leafL ⟨y,S⟩
  ·exact fM 10 (some 9) y y y y (.inl y) y y y
  ·refine fJ [(4,_),(68,_)] 11 [none,some 10] fun G a w S=>?_
   exact sLoadN (p:=aH) (off:=0) (T:=24) (vs:=[iv a0.1.W,iv a0.1.H,.slice a3 a0.1.Bits.length a4]) 1 [iv a0.1.W,iv a0.1.H,.slice a3 a0.1.Bits.length a4] S (wG 14 true 68 y y y a9) y y y y y y y (lb y) fun a S=>leafL ⟨y,S⟩
  refine ⟨_,[(68,.bool (a0.2.1 == 1))],y,(srcs_of [some 10] y y y),fun G a w S=>?_⟩
  refine sLit (r:=rB) (T:=4) (xs:=[true,true,true,true,true,true]) [(0,.bool true),(1,.bool true),(2,.bool true),(3,.bool true),(4,.bool true),(5,.bool true)] 6 [.bool true,.bool true,.bool true,.bool true,.bool true,.bool true] [.bool true,.bool true,.bool true,.bool true,.bool true,.bool true] (.bool false) 1 S (wG 14 true 68 y y y a9) y y Try.underlying22 y (by decide) (by decide) (by kernel_rfl) y (fun E1 w1 hE=>All.cons y (All.cons y (All.cons y (All.cons y (All.cons y (All.cons y (All.nil _ _ _))))))) y y (lb y) fun a w ar au S=>?_
  refine leafL ⟨y,_,_,.inl ⟨70,(.slice ar [true,true,true,true,true,true].length au),[(17,71,.agg #[iv 3,iv 2,.slice ar [true,true,true,true,true,true].length au]),(18,72,.bool ak),(19,73,.bool ak),(20,74,.bool ak),(21,75,.slice ab aa.1.length ac)],y,S,hz_of y,?_⟩⟩
  refine node_by (A:=anc_raddlelaw17_alive_0) 39 (by kernel_rfl) (by kernel_rfl) (by kernel_rfl) (by kernel_rfl) (by kernel_rfl) [17,18,19,20,21,16,4,5,6,7,8,9,10,11,12,13,14,15,3,0,1,2] (by kernel_rfl) (by decide) (by decide) (fD 16 (fD 16 (fD 16 (fY (fD 16 (fD 16 (fD 16 (fD 16 (fD 16 (fD 16 (fD 16 (fD 16 (fD 16 (fD 16 (fD 16 (fF ?_ (fY (fF ?_ (fF ?_ (fF ?_ (fF ?_ (fF ?_ (fN ?_ (fE 22 (fE 22 (fE 22 (fE 22 (fE 22 (fE 22 (fE 22 (fE 22 (fE 22 (fE 22 (fE 22 (fE 22 (fE 22 (fE 22 (fE 22 (fE 22 (trivial)))))))))))))))))))))))))))))))))))))))) [] (fun q hq=>by cases hq) (fun hY=>absurd (hY 22 (by decide)) (by decide))
  ·refine fJ [(4,_),(68,_)] 17 [none,some 16] fun G a w S=>?_
   exact sLoadN (p:=aH) (off:=0) (T:=24) (vs:=[iv a0.1.W,iv a0.1.H,.slice a3 a0.1.Bits.length a4]) 2 [iv a0.1.W,iv a0.1.H,.slice a3 a0.1.Bits.length a4] S (wG 14 true 68 y y y a9) y y y y y y y (lb y) fun a S=>leafL ⟨y,S⟩
  ·refine fJ [(70,_),(68,_)] 0 [some 5,some 16] fun G a w S=>?_
   exact sBuild [(0,iv 3),(1,iv 2),(2,.slice ar [true,true,true,true,true,true].length au)] [iv 3,iv 2,.slice ar [true,true,true,true,true,true].length au] S (wG 14 true 68 y y y a9) y y y y (lb y) fun a S=>leafL ⟨y,S⟩
  ·refine fJ [(69,_),(71,_),(68,_)] 1 [some 17,some 0,some 16] fun G a w S=>?_
   have S1:=S.mem
   have S1:=S1.learn (fRep r_api_Grid (.agg #[iv a0.1.W,iv a0.1.H,.slice a3 a0.1.Bits.length a4]) a0.1) ⟨_,y,S1.know (i:=2) (e:=fRep (rL rB) (.slice a3 a0.1.Bits.length a4) a0.1.Bits) y⟩
   have S1:=S1.shutR (r:=rB) (T:=4) (v:=.slice ar [true,true,true,true,true,true].length au) (xs:=[true,true,true,true,true,true]) 0 y
   have S1:=S1.learn (fRep r_api_Grid (.agg #[iv 3,iv 2,.slice ar [true,true,true,true,true,true].length au]) (api_Grid.mk 3 2 [true,true,true,true,true,true])) ⟨_,y,S1.know (i:=0) (e:=fRep (rL rB) (.slice ar [true,true,true,true,true,true].length au) [true,true,true,true,true,true]) y⟩
   refine sCallQ (X:=Unit) (f:=16) (vs:=[.agg #[iv a0.1.W,iv a0.1.H,.slice a3 a0.1.Bits.length a4],.agg #[iv 3,iv 2,.slice ar [true,true,true,true,true,true].length au]]) (val:=fun _=>.bool ak) S (wG 14 true 68 y y y a9) y callee16 y (S1.quiet [2,0] y) (fun E1 w1 S1=>c_raddleref01_Same E1 w1 a0.1 (.agg #[iv a0.1.W,iv a0.1.H,.slice a3 a0.1.Bits.length a4]) (api_Grid.mk 3 2 [true,true,true,true,true,true]) (.agg #[iv 3,iv 2,.slice ar [true,true,true,true,true,true].length au]) ak bk S1) y (lb y) fun _ a w S=>?_
   exact leafL ⟨y,S⟩
  ·refine fJ [(68,_),(72,_)] 2 [some 16,some 1] fun G a w S=>?_
   exact sPickT (.bool ak) S (wN y) y y a9 y y (lb y) fun a S=>leafL ⟨y,S⟩
  ·exact fM 3 (some 2) y y y y (.inl y) y y y
  ·refine fJ [(7,_),(74,_)] 4 [none,some 3] fun G a w S=>?_
   exact sMove (.slice ab aa.1.length ac) S (wG 20 true 74 y y y af) (.inl y) y y (lb y) fun a S=>leafL ⟨y,S⟩
  refine ⟨_,[(74,.bool ak)],y,(srcs_of [some 3] y y y),fun G a w S=>?_⟩
  refine sLit (r:=(rI .i64)) (T:=3) (xs:=([0,0,1]:List Int)) [(0,iv 0),(1,iv 0),(2,iv 1)] 3 [iv 0,iv 0,iv 1] [iv 0,iv 0,iv 1] (iv 0) 8 S (wG 20 true 74 y y y af) y y Try.underlying25 y (by decide) (by decide) (by kernel_rfl) y (fun E1 w1 hE=>All.cons y (All.cons y (All.cons y (All.nil _ _ _)))) y y (lb y) fun a w aZ b1 S=>?_
  refine leafL ⟨y,_,_,.inl ⟨76,(.slice aZ ([0,0,1]:List Int).length b1),[(23,77,.bool aA),(24,78,.bool aA),(25,79,.bool aA),(26,80,undef),(27,81,undef),(28,82,.bool false),(29,83,.bool false),(30,84,undef),(31,85,undef),(32,86,.bool false),(33,87,.bool false),(34,88,undef),(35,89,undef),(36,90,undef),(37,91,.bool false),(38,0,.bool false)],y,S,hz_of y,?_⟩⟩
  refine node_by (A:=anc_raddlelaw17_alive_0) 39 (by kernel_rfl) (by kernel_rfl) (by kernel_rfl) (by kernel_rfl) (by kernel_rfl) [23,24,25,26,27,28,29,30,31,32,33,34,35,36,37,38,22,17,18,19,20,21,16,4,5,6,7,8,9,10,11,12,13,14,15,3,0,1,2] (by kernel_rfl) (by decide) (by decide) (fD 22 (fD 22 (fD 22 (fY (fD 22 (fD 22 (fD 22 (fD 22 (fD 22 (fD 22 (fD 22 (fD 22 (fD 22 (fD 22 (fD 22 (fD 22 (fY (fD 22 (fD 22 (fD 22 (fD 22 (fF ?_ (fY (fF ?_ (fF ?_ (fF ?_ (fF ?_ (fF ?_ (fF ?_ (fF ?_ (fF ?_ (fF ?_ (fF ?_ (fF ?_ (fF ?_ (fF ?_ (fF ?_ (fF ?_ (fF ?_ (trivial)))))))))))))))))))))))))))))))))))))))) [(0,.bool false)] (fin_of [some 15] y (by kernel_rfl) (by kernel_rfl)) (fun _ a w S=>?_)
  ·refine fJ [(7,_),(74,_)] 21 [none,some 20] fun G a w S=>?_
   exact sMove (.slice ab aa.1.length ac) S (wG 20 true 74 y y y af) (.inl y) y y (lb y) fun a S=>leafL ⟨y,S⟩
  ·refine fJ [(75,_),(76,_),(74,_)] 0 [some 21,some 16,some 20] fun G a w S=>?_
   have S1:=S.mem
   have S1:=S1.shutR (r:=(rI .i64)) (T:=3) (v:=.slice aZ ([0,0,1]:List Int).length b1) (xs:=([0,0,1]:List Int)) 0 y
   refine sCallQ (X:=Unit) (f:=17) (vs:=[.slice ab aa.1.length ac,.slice aZ ([0,0,1]:List Int).length b1]) (val:=fun _=>.bool aA) S (wG 20 true 74 y y y af) y callee17 y (S1.quiet [2,0] y) (fun E1 w1 S1=>c_raddleref02_Same E1 w1 aa.1 (.slice ab aa.1.length ac) ([0,0,1]:List Int) (.slice aZ ([0,0,1]:List Int).length b1) aA bu S1) y (lb y) fun _ a w S=>?_
   exact leafL ⟨y,S⟩
  ·refine fJ [(74,_),(77,_)] 1 [some 20,some 0] fun G a w S=>?_
   exact sPickT (.bool aA) S (wN y) y y af y y (lb y) fun a S=>leafL ⟨y,S⟩
  ·exact fM 2 (some 1) y y y y (.inl y) y y y
  ·refine fJ [(8,_),(79,_)] 3 [none,some 2] fun G a w S=>?_
   exact sSk S y y y az y y fun a S=>leafL ⟨y,S⟩
  ·refine fJ [(80,_),(79,_)] 4 [some 3,some 2] fun G a w S=>?_
   exact sSk S y y y az y y fun a S=>leafL ⟨y,S⟩
  ·refine fJ [(79,_),(81,_)] 5 [some 2,some 4] fun G a w S=>?_
   exact sPickF (.bool false) S (wN y) y y az y y (lb y) fun a S=>leafL ⟨y,S⟩
  ·exact fM 6 (some 5) y y y y (.inl y) y y y
  ·refine fJ [(11,_),(83,_)] 7 [none,some 6] fun G a w S=>?_
   exact sSk S y y y y y y fun a S=>leafL ⟨y,S⟩
  ·refine fJ [(84,_),(83,_)] 8 [some 7,some 6] fun G a w S=>?_
   exact sSk S y y y y y y fun a S=>leafL ⟨y,S⟩
  ·refine fJ [(83,_),(85,_)] 9 [some 6,some 8] fun G a w S=>?_
   exact sPickF (.bool false) S (wN y) y y y y y (lb y) fun a S=>leafL ⟨y,S⟩
  ·exact fM 10 (some 9) y y y y (.inl y) y y y
  ·refine fJ [(10,_),(87,_)] 11 [none,some 10] fun G a w S=>?_
   exact sSk S y y y y y y fun a S=>leafL ⟨y,S⟩
  ·refine fJ [(87,_)] 12 [some 10] fun G a w S=>?_
   exact sSk S y y y y y y fun a S=>leafL ⟨y,S⟩
  ·refine fJ [(88,_),(89,_),(87,_)] 13 [some 11,some 12,some 10] fun G a w S=>?_
   exact sSk S y y y y y y fun a S=>leafL ⟨y,S⟩
  ·refine fJ [(87,_),(90,_)] 14 [some 10,some 13] fun G a w S=>?_
   exact sPickF (.bool false) S (wN y) y y y y y (lb y) fun a S=>leafL ⟨y,S⟩
  ·exact fM 15 (some 14) y y y y (.inr y) y y y
  exact leafT (⟨false,Option.some.inj h,S.fix [] [] (by decide) y y y⟩)
 rcases iS h with ⟨aC,h⟩ | ⟨aC,h⟩
 rotate_left
 ·refine sDraw (nf:=[3,16,22]) (W:=[(0,54,.bool ao),(1,55,.bool ao),(2,56,.slice a5 a2.1.length a6)]) y S ?_
  refine node_by (A:=anc_raddlelaw17_alive_0) 39 (by kernel_rfl) (by kernel_rfl) (by kernel_rfl) (by kernel_rfl) (by kernel_rfl) [0,1,2] (by kernel_rfl) (by decide) (by decide) (fF ?_ (fF ?_ (fF ?_ (fN ?_ (fE 3 (fE 3 (fE 3 (fE 3 (fE 3 (fE 3 (fE 3 (fE 3 (fE 3 (fE 3 (fE 3 (fE 3 (aB 16 22 3 (by decide) (fE 3 (fE 3 (fE 3 (fE 3 (fE 3 (aB 22 16 3 (by decide) (fE 3 (fE 3 (fE 3 (fE 3 (fE 3 (fE 3 (fE 3 (fE 3 (fE 3 (fE 3 (fE 3 (fE 3 (fE 3 (fE 3 (fE 3 (fE 3 (trivial)))))))))))))))))))))))))))))))))))))))) [] (fun q hq=>by cases hq) (fun hY=>absurd (hY 3 (by decide)) (by decide))
  ·exact fM 0 none y y y y (.inl y) y y y
  ·exact fM 1 (some 0) y y y y (.inl y) y y y
  ·refine fJ [(1,_),(55,_)] 2 [none,some 1] fun G a w S=>?_
   exact sMove (.slice a5 a2.1.length a6) S (wG 1 true 55 y y y a7) (.inl y) y y (lb y) fun a S=>leafL ⟨y,S⟩
  refine ⟨_,[(55,.bool ao)],y,(srcs_of [some 1] y y y),fun G a w S=>?_⟩
  refine sLit (r:=(rI .i64)) (T:=3) (xs:=([0,0,0]:List Int)) [(0,iv 0),(1,iv 0),(2,iv 0)] 3 [iv 0,iv 0,iv 0] [iv 0,iv 0,iv 0] (iv 0) 8 S (wG 1 true 55 y y y a7) y y Try.underlying25 y (by decide) (by decide) (by kernel_rfl) y (fun E1 w1 hE=>All.cons y (All.cons y (All.cons y (All.nil _ _ _)))) y y (lb y) fun a w b3 b4 S=>?_
  refine leafL ⟨y,_,_,.inl ⟨57,(.slice b3 ([0,0,0]:List Int).length b4),[(4,58,.bool ag),(5,59,.bool ag),(6,60,.bool ag),(7,61,iv a2.2.1),(8,62,.bool (a2.2.1 == 1)),(9,63,.bool (a2.2.1 == 1)),(10,64,.bool (a2.2.1 == 1)),(11,65,iv a0.2.1),(12,66,.bool (a0.2.1 == 1)),(13,67,.bool (a0.2.1 == 1)),(14,68,.bool (a0.2.1 == 1)),(15,69,.agg #[iv a0.1.W,iv a0.1.H,.slice a3 a0.1.Bits.length a4])],y,S,hz_of y,?_⟩⟩
  refine node_by (A:=anc_raddlelaw17_alive_0) 39 (by kernel_rfl) (by kernel_rfl) (by kernel_rfl) (by kernel_rfl) (by kernel_rfl) [4,5,6,7,8,9,10,11,12,13,14,15,3,0,1,2] (by kernel_rfl) (by decide) (by decide) (fD 3 (fD 3 (fF ?_ (fY (fF ?_ (fF ?_ (fF ?_ (fF ?_ (fF ?_ (fF ?_ (fF ?_ (fF ?_ (fF ?_ (fF ?_ (fF ?_ (fF ?_ (fN ?_ (fE 16 (fE 16 (fE 16 (fE 16 (fE 16 (aB 22 16 16 (by decide) (fE 16 (fE 16 (fE 16 (fE 16 (fE 16 (fE 16 (fE 16 (fE 16 (fE 16 (fE 16 (fE 16 (fE 16 (fE 16 (fE 16 (fE 16 (fE 16 (trivial)))))))))))))))))))))))))))))))))))))))) [] (fun q hq=>by cases hq) (fun hY=>absurd (hY 16 (by decide)) (by decide))
  ·refine fJ [(1,_),(55,_)] 15 [none,some 14] fun G a w S=>?_
   exact sMove (.slice a5 a2.1.length a6) S (wG 1 true 55 y y y a7) (.inl y) y y (lb y) fun a S=>leafL ⟨y,S⟩
  ·refine fJ [(56,_),(57,_),(55,_)] 0 [some 15,some 12,some 14] fun G a w S=>?_
   have S1:=S.mem
   have S1:=S1.shutR (r:=(rI .i64)) (T:=3) (v:=.slice b3 ([0,0,0]:List Int).length b4) (xs:=([0,0,0]:List Int)) 0 y
   refine sCallQ (X:=Unit) (f:=17) (vs:=[.slice a5 a2.1.length a6,.slice b3 ([0,0,0]:List Int).length b4]) (val:=fun _=>.bool ag) S (wG 1 true 55 y y y a7) y callee17 y (S1.quiet [1,0] y) (fun E1 w1 S1=>c_raddleref02_Same E1 w1 a2.1 (.slice a5 a2.1.length a6) ([0,0,0]:List Int) (.slice b3 ([0,0,0]:List Int).length b4) ag aI S1) y (lb y) fun _ a w S=>?_
   exact leafL ⟨y,S⟩
  ·refine fJ [(55,_),(58,_)] 1 [some 14,some 0] fun G a w S=>?_
   exact sPickT (.bool ag) S (wN y) y y a7 y y (lb y) fun a S=>leafL ⟨y,S⟩
  ·exact fM 2 (some 1) y y y y (.inl y) y y y
  ·refine fJ [(2,_),(60,_)] 3 [none,some 2] fun G a w S=>?_
   exact sMove (iv a2.2.1) S (wG 6 true 60 y y y ae) (.inl y) y y (lb y) fun a S=>leafL ⟨y,S⟩
  ·refine fJ [(61,_),(60,_)] 4 [some 3,some 2] fun G a w S=>?_
   exact sBin _ S (wG 6 true 60 y y y ae) y y y (bEq _ _ _ _ .i64 a2.2.1 1) y (lb y) fun a S=>leafL ⟨y,S⟩
  ·refine fJ [(60,_),(62,_)] 5 [some 2,some 4] fun G a w S=>?_
   exact sPickT (.bool (a2.2.1 == 1)) S (wN y) y y ae y y (lb y) fun a S=>leafL ⟨y,S⟩
  ·exact fM 6 (some 5) y y y y (.inl y) y y y
  ·refine fJ [(5,_),(64,_)] 7 [none,some 6] fun G a w S=>?_
   exact sMove (iv a0.2.1) S (wG 10 true 64 y y y ah) (.inl y) y y (lb y) fun a S=>leafL ⟨y,S⟩
  ·refine fJ [(65,_),(64,_)] 8 [some 7,some 6] fun G a w S=>?_
   exact sBin _ S (wG 10 true 64 y y y ah) y y y (bEq _ _ _ _ .i64 a0.2.1 1) y (lb y) fun a S=>leafL ⟨y,S⟩
  ·refine fJ [(64,_),(66,_)] 9 [some 6,some 8] fun G a w S=>?_
   exact sPickT (.bool (a0.2.1 == 1)) S (wN y) y y ah y y (lb y) fun a S=>leafL ⟨y,S⟩
  ·exact fM 10 (some 9) y y y y (.inl y) y y y
  ·refine fJ [(4,_),(68,_)] 11 [none,some 10] fun G a w S=>?_
   exact sLoadN (p:=aH) (off:=0) (T:=24) (vs:=[iv a0.1.W,iv a0.1.H,.slice a3 a0.1.Bits.length a4]) 1 [iv a0.1.W,iv a0.1.H,.slice a3 a0.1.Bits.length a4] S (wG 14 true 68 y y y a9) y y y y y y y (lb y) fun a S=>leafL ⟨y,S⟩
  refine ⟨_,[(68,.bool (a0.2.1 == 1))],y,(srcs_of [some 10] y y y),fun G a w S=>?_⟩
  refine sLit (r:=rB) (T:=4) (xs:=[true,true,true,true,true,true]) [(0,.bool true),(1,.bool true),(2,.bool true),(3,.bool true),(4,.bool true),(5,.bool true)] 6 [.bool true,.bool true,.bool true,.bool true,.bool true,.bool true] [.bool true,.bool true,.bool true,.bool true,.bool true,.bool true] (.bool false) 1 S (wG 14 true 68 y y y a9) y y Try.underlying22 y (by decide) (by decide) (by kernel_rfl) y (fun E1 w1 hE=>All.cons y (All.cons y (All.cons y (All.cons y (All.cons y (All.cons y (All.nil _ _ _))))))) y y (lb y) fun a w av aw S=>?_
  refine leafL ⟨y,_,_,.inl ⟨70,(.slice av [true,true,true,true,true,true].length aw),[(17,71,.agg #[iv 3,iv 2,.slice av [true,true,true,true,true,true].length aw]),(18,72,.bool ak),(19,73,.bool ak),(20,74,.bool ak),(21,75,.slice ab aa.1.length ac)],y,S,hz_of y,?_⟩⟩
  refine node_by (A:=anc_raddlelaw17_alive_0) 39 (by kernel_rfl) (by kernel_rfl) (by kernel_rfl) (by kernel_rfl) (by kernel_rfl) [17,18,19,20,21,16,4,5,6,7,8,9,10,11,12,13,14,15,3,0,1,2] (by kernel_rfl) (by decide) (by decide) (fD 16 (fD 16 (fD 16 (fY (fD 16 (fD 16 (fD 16 (fD 16 (fD 16 (fD 16 (fD 16 (fD 16 (fD 16 (fD 16 (fD 16 (fF ?_ (fY (fF ?_ (fF ?_ (fF ?_ (fF ?_ (fF ?_ (fN ?_ (fE 22 (fE 22 (fE 22 (fE 22 (fE 22 (fE 22 (fE 22 (fE 22 (fE 22 (fE 22 (fE 22 (fE 22 (fE 22 (fE 22 (fE 22 (fE 22 (trivial)))))))))))))))))))))))))))))))))))))))) [] (fun q hq=>by cases hq) (fun hY=>absurd (hY 22 (by decide)) (by decide))
  ·refine fJ [(4,_),(68,_)] 17 [none,some 16] fun G a w S=>?_
   exact sLoadN (p:=aH) (off:=0) (T:=24) (vs:=[iv a0.1.W,iv a0.1.H,.slice a3 a0.1.Bits.length a4]) 2 [iv a0.1.W,iv a0.1.H,.slice a3 a0.1.Bits.length a4] S (wG 14 true 68 y y y a9) y y y y y y y (lb y) fun a S=>leafL ⟨y,S⟩
  ·refine fJ [(70,_),(68,_)] 0 [some 5,some 16] fun G a w S=>?_
   exact sBuild [(0,iv 3),(1,iv 2),(2,.slice av [true,true,true,true,true,true].length aw)] [iv 3,iv 2,.slice av [true,true,true,true,true,true].length aw] S (wG 14 true 68 y y y a9) y y y y (lb y) fun a S=>leafL ⟨y,S⟩
  ·refine fJ [(69,_),(71,_),(68,_)] 1 [some 17,some 0,some 16] fun G a w S=>?_
   have S1:=S.mem
   have S1:=S1.learn (fRep r_api_Grid (.agg #[iv a0.1.W,iv a0.1.H,.slice a3 a0.1.Bits.length a4]) a0.1) ⟨_,y,S1.know (i:=2) (e:=fRep (rL rB) (.slice a3 a0.1.Bits.length a4) a0.1.Bits) y⟩
   have S1:=S1.shutR (r:=rB) (T:=4) (v:=.slice av [true,true,true,true,true,true].length aw) (xs:=[true,true,true,true,true,true]) 0 y
   have S1:=S1.learn (fRep r_api_Grid (.agg #[iv 3,iv 2,.slice av [true,true,true,true,true,true].length aw]) (api_Grid.mk 3 2 [true,true,true,true,true,true])) ⟨_,y,S1.know (i:=0) (e:=fRep (rL rB) (.slice av [true,true,true,true,true,true].length aw) [true,true,true,true,true,true]) y⟩
   refine sCallQ (X:=Unit) (f:=16) (vs:=[.agg #[iv a0.1.W,iv a0.1.H,.slice a3 a0.1.Bits.length a4],.agg #[iv 3,iv 2,.slice av [true,true,true,true,true,true].length aw]]) (val:=fun _=>.bool ak) S (wG 14 true 68 y y y a9) y callee16 y (S1.quiet [2,0] y) (fun E1 w1 S1=>c_raddleref01_Same E1 w1 a0.1 (.agg #[iv a0.1.W,iv a0.1.H,.slice a3 a0.1.Bits.length a4]) (api_Grid.mk 3 2 [true,true,true,true,true,true]) (.agg #[iv 3,iv 2,.slice av [true,true,true,true,true,true].length aw]) ak bk S1) y (lb y) fun _ a w S=>?_
   exact leafL ⟨y,S⟩
  ·refine fJ [(68,_),(72,_)] 2 [some 16,some 1] fun G a w S=>?_
   exact sPickT (.bool ak) S (wN y) y y a9 y y (lb y) fun a S=>leafL ⟨y,S⟩
  ·exact fM 3 (some 2) y y y y (.inl y) y y y
  ·refine fJ [(7,_),(74,_)] 4 [none,some 3] fun G a w S=>?_
   exact sMove (.slice ab aa.1.length ac) S (wG 20 true 74 y y y af) (.inl y) y y (lb y) fun a S=>leafL ⟨y,S⟩
  refine ⟨_,[(74,.bool ak)],y,(srcs_of [some 3] y y y),fun G a w S=>?_⟩
  refine sLit (r:=(rI .i64)) (T:=3) (xs:=([0,0,1]:List Int)) [(0,iv 0),(1,iv 0),(2,iv 1)] 3 [iv 0,iv 0,iv 1] [iv 0,iv 0,iv 1] (iv 0) 8 S (wG 20 true 74 y y y af) y y Try.underlying25 y (by decide) (by decide) (by kernel_rfl) y (fun E1 w1 hE=>All.cons y (All.cons y (All.cons y (All.nil _ _ _)))) y y (lb y) fun a w b5 ba S=>?_
  refine leafL ⟨y,_,_,.inl ⟨76,(.slice b5 ([0,0,1]:List Int).length ba),[(23,77,.bool aA),(24,78,.bool aA),(25,79,.bool aA),(26,80,iv aa.2.1),(27,81,.bool (aa.2.1 == 0)),(28,82,.bool (aa.2.1 == 0)),(29,83,.bool (aa.2.1 == 0)),(30,84,undef),(31,85,undef),(32,86,.bool false),(33,87,.bool false),(34,88,undef),(35,89,undef),(36,90,undef),(37,91,.bool false),(38,0,.bool false)],y,S,hz_of y,?_⟩⟩
  refine node_by (A:=anc_raddlelaw17_alive_0) 39 (by kernel_rfl) (by kernel_rfl) (by kernel_rfl) (by kernel_rfl) (by kernel_rfl) [23,24,25,26,27,28,29,30,31,32,33,34,35,36,37,38,22,17,18,19,20,21,16,4,5,6,7,8,9,10,11,12,13,14,15,3,0,1,2] (by kernel_rfl) (by decide) (by decide) (fD 22 (fD 22 (fD 22 (fY (fD 22 (fD 22 (fD 22 (fD 22 (fD 22 (fD 22 (fD 22 (fD 22 (fD 22 (fD 22 (fD 22 (fD 22 (fY (fD 22 (fD 22 (fD 22 (fD 22 (fF ?_ (fY (fF ?_ (fF ?_ (fF ?_ (fF ?_ (fF ?_ (fF ?_ (fF ?_ (fF ?_ (fF ?_ (fF ?_ (fF ?_ (fF ?_ (fF ?_ (fF ?_ (fF ?_ (fF ?_ (trivial)))))))))))))))))))))))))))))))))))))))) [(0,.bool false)] (fin_of [some 15] y (by kernel_rfl) (by kernel_rfl)) (fun _ a w S=>?_)
  ·refine fJ [(7,_),(74,_)] 21 [none,some 20] fun G a w S=>?_
   exact sMove (.slice ab aa.1.length ac) S (wG 20 true 74 y y y af) (.inl y) y y (lb y) fun a S=>leafL ⟨y,S⟩
  ·refine fJ [(75,_),(76,_),(74,_)] 0 [some 21,some 16,some 20] fun G a w S=>?_
   have S1:=S.mem
   have S1:=S1.shutR (r:=(rI .i64)) (T:=3) (v:=.slice b5 ([0,0,1]:List Int).length ba) (xs:=([0,0,1]:List Int)) 0 y
   refine sCallQ (X:=Unit) (f:=17) (vs:=[.slice ab aa.1.length ac,.slice b5 ([0,0,1]:List Int).length ba]) (val:=fun _=>.bool aA) S (wG 20 true 74 y y y af) y callee17 y (S1.quiet [2,0] y) (fun E1 w1 S1=>c_raddleref02_Same E1 w1 aa.1 (.slice ab aa.1.length ac) ([0,0,1]:List Int) (.slice b5 ([0,0,1]:List Int).length ba) aA bu S1) y (lb y) fun _ a w S=>?_
   exact leafL ⟨y,S⟩
  ·refine fJ [(74,_),(77,_)] 1 [some 20,some 0] fun G a w S=>?_
   exact sPickT (.bool aA) S (wN y) y y af y y (lb y) fun a S=>leafL ⟨y,S⟩
  ·exact fM 2 (some 1) y y y y (.inl y) y y y
  ·refine fJ [(8,_),(79,_)] 3 [none,some 2] fun G a w S=>?_
   exact sMove (iv aa.2.1) S (wG 25 true 79 y y y az) (.inl y) y y (lb y) fun a S=>leafL ⟨y,S⟩
  ·refine fJ [(80,_),(79,_)] 4 [some 3,some 2] fun G a w S=>?_
   exact sBin _ S (wG 25 true 79 y y y az) y y y (bEq _ _ _ _ .i64 aa.2.1 0) y (lb y) fun a S=>leafL ⟨y,S⟩
  ·refine fJ [(79,_),(81,_)] 5 [some 2,some 4] fun G a w S=>?_
   exact sPickT (.bool (aa.2.1 == 0)) S (wN y) y y az y y (lb y) fun a S=>leafL ⟨y,S⟩
  ·exact fM 6 (some 5) y y y y (.inl y) y y y
  ·refine fJ [(11,_),(83,_)] 7 [none,some 6] fun G a w S=>?_
   exact sSk S y y y aC y y fun a S=>leafL ⟨y,S⟩
  ·refine fJ [(84,_),(83,_)] 8 [some 7,some 6] fun G a w S=>?_
   exact sSk S y y y aC y y fun a S=>leafL ⟨y,S⟩
  ·refine fJ [(83,_),(85,_)] 9 [some 6,some 8] fun G a w S=>?_
   exact sPickF (.bool false) S (wN y) y y aC y y (lb y) fun a S=>leafL ⟨y,S⟩
  ·exact fM 10 (some 9) y y y y (.inl y) y y y
  ·refine fJ [(10,_),(87,_)] 11 [none,some 10] fun G a w S=>?_
   exact sSk S y y y y y y fun a S=>leafL ⟨y,S⟩
  ·refine fJ [(87,_)] 12 [some 10] fun G a w S=>?_
   exact sSk S y y y y y y fun a S=>leafL ⟨y,S⟩
  ·refine fJ [(88,_),(89,_),(87,_)] 13 [some 11,some 12,some 10] fun G a w S=>?_
   exact sSk S y y y y y y fun a S=>leafL ⟨y,S⟩
  ·refine fJ [(87,_),(90,_)] 14 [some 10,some 13] fun G a w S=>?_
   exact sPickF (.bool false) S (wN y) y y y y y (lb y) fun a S=>leafL ⟨y,S⟩
  ·exact fM 15 (some 14) y y y y (.inr y) y y y
  exact leafT (⟨false,Option.some.inj h,S.fix [] [] (by decide) y y y⟩)
 rcases iS h with ⟨aG,h⟩ | ⟨aG,h⟩
 rotate_left
 ·refine sDraw (nf:=[3,16,22]) (W:=[(0,54,.bool ao),(1,55,.bool ao),(2,56,.slice a5 a2.1.length a6)]) y S ?_
  refine node_by (A:=anc_raddlelaw17_alive_0) 39 (by kernel_rfl) (by kernel_rfl) (by kernel_rfl) (by kernel_rfl) (by kernel_rfl) [0,1,2] (by kernel_rfl) (by decide) (by decide) (fF ?_ (fF ?_ (fF ?_ (fN ?_ (fE 3 (fE 3 (fE 3 (fE 3 (fE 3 (fE 3 (fE 3 (fE 3 (fE 3 (fE 3 (fE 3 (fE 3 (aB 16 22 3 (by decide) (fE 3 (fE 3 (fE 3 (fE 3 (fE 3 (aB 22 16 3 (by decide) (fE 3 (fE 3 (fE 3 (fE 3 (fE 3 (fE 3 (fE 3 (fE 3 (fE 3 (fE 3 (fE 3 (fE 3 (fE 3 (fE 3 (fE 3 (fE 3 (trivial)))))))))))))))))))))))))))))))))))))))) [] (fun q hq=>by cases hq) (fun hY=>absurd (hY 3 (by decide)) (by decide))
  ·exact fM 0 none y y y y (.inl y) y y y
  ·exact fM 1 (some 0) y y y y (.inl y) y y y
  ·refine fJ [(1,_),(55,_)] 2 [none,some 1] fun G a w S=>?_
   exact sMove (.slice a5 a2.1.length a6) S (wG 1 true 55 y y y a7) (.inl y) y y (lb y) fun a S=>leafL ⟨y,S⟩
  refine ⟨_,[(55,.bool ao)],y,(srcs_of [some 1] y y y),fun G a w S=>?_⟩
  refine sLit (r:=(rI .i64)) (T:=3) (xs:=([0,0,0]:List Int)) [(0,iv 0),(1,iv 0),(2,iv 0)] 3 [iv 0,iv 0,iv 0] [iv 0,iv 0,iv 0] (iv 0) 8 S (wG 1 true 55 y y y a7) y y Try.underlying25 y (by decide) (by decide) (by kernel_rfl) y (fun E1 w1 hE=>All.cons y (All.cons y (All.cons y (All.nil _ _ _)))) y y (lb y) fun a w bb bc S=>?_
  refine leafL ⟨y,_,_,.inl ⟨57,(.slice bb ([0,0,0]:List Int).length bc),[(4,58,.bool ag),(5,59,.bool ag),(6,60,.bool ag),(7,61,iv a2.2.1),(8,62,.bool (a2.2.1 == 1)),(9,63,.bool (a2.2.1 == 1)),(10,64,.bool (a2.2.1 == 1)),(11,65,iv a0.2.1),(12,66,.bool (a0.2.1 == 1)),(13,67,.bool (a0.2.1 == 1)),(14,68,.bool (a0.2.1 == 1)),(15,69,.agg #[iv a0.1.W,iv a0.1.H,.slice a3 a0.1.Bits.length a4])],y,S,hz_of y,?_⟩⟩
  refine node_by (A:=anc_raddlelaw17_alive_0) 39 (by kernel_rfl) (by kernel_rfl) (by kernel_rfl) (by kernel_rfl) (by kernel_rfl) [4,5,6,7,8,9,10,11,12,13,14,15,3,0,1,2] (by kernel_rfl) (by decide) (by decide) (fD 3 (fD 3 (fF ?_ (fY (fF ?_ (fF ?_ (fF ?_ (fF ?_ (fF ?_ (fF ?_ (fF ?_ (fF ?_ (fF ?_ (fF ?_ (fF ?_ (fF ?_ (fN ?_ (fE 16 (fE 16 (fE 16 (fE 16 (fE 16 (aB 22 16 16 (by decide) (fE 16 (fE 16 (fE 16 (fE 16 (fE 16 (fE 16 (fE 16 (fE 16 (fE 16 (fE 16 (fE 16 (fE 16 (fE 16 (fE 16 (fE 16 (fE 16 (trivial)))))))))))))))))))))))))))))))))))))))) [] (fun q hq=>by cases hq) (fun hY=>absurd (hY 16 (by decide)) (by decide))
  ·refine fJ [(1,_),(55,_)] 15 [none,some 14] fun G a w S=>?_
   exact sMove (.slice a5 a2.1.length a6) S (wG 1 true 55 y y y a7) (.inl y) y y (lb y) fun a S=>leafL ⟨y,S⟩
  ·refine fJ [(56,_),(57,_),(55,_)] 0 [some 15,some 12,some 14] fun G a w S=>?_
   have S1:=S.mem
   have S1:=S1.shutR (r:=(rI .i64)) (T:=3) (v:=.slice bb ([0,0,0]:List Int).length bc) (xs:=([0,0,0]:List Int)) 0 y
   refine sCallQ (X:=Unit) (f:=17) (vs:=[.slice a5 a2.1.length a6,.slice bb ([0,0,0]:List Int).length bc]) (val:=fun _=>.bool ag) S (wG 1 true 55 y y y a7) y callee17 y (S1.quiet [1,0] y) (fun E1 w1 S1=>c_raddleref02_Same E1 w1 a2.1 (.slice a5 a2.1.length a6) ([0,0,0]:List Int) (.slice bb ([0,0,0]:List Int).length bc) ag aI S1) y (lb y) fun _ a w S=>?_
   exact leafL ⟨y,S⟩
  ·refine fJ [(55,_),(58,_)] 1 [some 14,some 0] fun G a w S=>?_
   exact sPickT (.bool ag) S (wN y) y y a7 y y (lb y) fun a S=>leafL ⟨y,S⟩
  ·exact fM 2 (some 1) y y y y (.inl y) y y y
  ·refine fJ [(2,_),(60,_)] 3 [none,some 2] fun G a w S=>?_
   exact sMove (iv a2.2.1) S (wG 6 true 60 y y y ae) (.inl y) y y (lb y) fun a S=>leafL ⟨y,S⟩
  ·refine fJ [(61,_),(60,_)] 4 [some 3,some 2] fun G a w S=>?_
   exact sBin _ S (wG 6 true 60 y y y ae) y y y (bEq _ _ _ _ .i64 a2.2.1 1) y (lb y) fun a S=>leafL ⟨y,S⟩
  ·refine fJ [(60,_),(62,_)] 5 [some 2,some 4] fun G a w S=>?_
   exact sPickT (.bool (a2.2.1 == 1)) S (wN y) y y ae y y (lb y) fun a S=>leafL ⟨y,S⟩
  ·exact fM 6 (some 5) y y y y (.inl y) y y y
  ·refine fJ [(5,_),(64,_)] 7 [none,some 6] fun G a w S=>?_
   exact sMove (iv a0.2.1) S (wG 10 true 64 y y y ah) (.inl y) y y (lb y) fun a S=>leafL ⟨y,S⟩
  ·refine fJ [(65,_),(64,_)] 8 [some 7,some 6] fun G a w S=>?_
   exact sBin _ S (wG 10 true 64 y y y ah) y y y (bEq _ _ _ _ .i64 a0.2.1 1) y (lb y) fun a S=>leafL ⟨y,S⟩
  ·refine fJ [(64,_),(66,_)] 9 [some 6,some 8] fun G a w S=>?_
   exact sPickT (.bool (a0.2.1 == 1)) S (wN y) y y ah y y (lb y) fun a S=>leafL ⟨y,S⟩
  ·exact fM 10 (some 9) y y y y (.inl y) y y y
  ·refine fJ [(4,_),(68,_)] 11 [none,some 10] fun G a w S=>?_
   exact sLoadN (p:=aH) (off:=0) (T:=24) (vs:=[iv a0.1.W,iv a0.1.H,.slice a3 a0.1.Bits.length a4]) 1 [iv a0.1.W,iv a0.1.H,.slice a3 a0.1.Bits.length a4] S (wG 14 true 68 y y y a9) y y y y y y y (lb y) fun a S=>leafL ⟨y,S⟩
  refine ⟨_,[(68,.bool (a0.2.1 == 1))],y,(srcs_of [some 10] y y y),fun G a w S=>?_⟩
  refine sLit (r:=rB) (T:=4) (xs:=[true,true,true,true,true,true]) [(0,.bool true),(1,.bool true),(2,.bool true),(3,.bool true),(4,.bool true),(5,.bool true)] 6 [.bool true,.bool true,.bool true,.bool true,.bool true,.bool true] [.bool true,.bool true,.bool true,.bool true,.bool true,.bool true] (.bool false) 1 S (wG 14 true 68 y y y a9) y y Try.underlying22 y (by decide) (by decide) (by kernel_rfl) y (fun E1 w1 hE=>All.cons y (All.cons y (All.cons y (All.cons y (All.cons y (All.cons y (All.nil _ _ _))))))) y y (lb y) fun a w ax ay S=>?_
  refine leafL ⟨y,_,_,.inl ⟨70,(.slice ax [true,true,true,true,true,true].length ay),[(17,71,.agg #[iv 3,iv 2,.slice ax [true,true,true,true,true,true].length ay]),(18,72,.bool ak),(19,73,.bool ak),(20,74,.bool ak),(21,75,.slice ab aa.1.length ac)],y,S,hz_of y,?_⟩⟩
  refine node_by (A:=anc_raddlelaw17_alive_0) 39 (by kernel_rfl) (by kernel_rfl) (by kernel_rfl) (by kernel_rfl) (by kernel_rfl) [17,18,19,20,21,16,4,5,6,7,8,9,10,11,12,13,14,15,3,0,1,2] (by kernel_rfl) (by decide) (by decide) (fD 16 (fD 16 (fD 16 (fY (fD 16 (fD 16 (fD 16 (fD 16 (fD 16 (fD 16 (fD 16 (fD 16 (fD 16 (fD 16 (fD 16 (fF ?_ (fY (fF ?_ (fF ?_ (fF ?_ (fF ?_ (fF ?_ (fN ?_ (fE 22 (fE 22 (fE 22 (fE 22 (fE 22 (fE 22 (fE 22 (fE 22 (fE 22 (fE 22 (fE 22 (fE 22 (fE 22 (fE 22 (fE 22 (fE 22 (trivial)))))))))))))))))))))))))))))))))))))))) [] (fun q hq=>by cases hq) (fun hY=>absurd (hY 22 (by decide)) (by decide))
  ·refine fJ [(4,_),(68,_)] 17 [none,some 16] fun G a w S=>?_
   exact sLoadN (p:=aH) (off:=0) (T:=24) (vs:=[iv a0.1.W,iv a0.1.H,.slice a3 a0.1.Bits.length a4]) 2 [iv a0.1.W,iv a0.1.H,.slice a3 a0.1.Bits.length a4] S (wG 14 true 68 y y y a9) y y y y y y y (lb y) fun a S=>leafL ⟨y,S⟩
  ·refine fJ [(70,_),(68,_)] 0 [some 5,some 16] fun G a w S=>?_
   exact sBuild [(0,iv 3),(1,iv 2),(2,.slice ax [true,true,true,true,true,true].length ay)] [iv 3,iv 2,.slice ax [true,true,true,true,true,true].length ay] S (wG 14 true 68 y y y a9) y y y y (lb y) fun a S=>leafL ⟨y,S⟩
  ·refine fJ [(69,_),(71,_),(68,_)] 1 [some 17,some 0,some 16] fun G a w S=>?_
   have S1:=S.mem
   have S1:=S1.learn (fRep r_api_Grid (.agg #[iv a0.1.W,iv a0.1.H,.slice a3 a0.1.Bits.length a4]) a0.1) ⟨_,y,S1.know (i:=2) (e:=fRep (rL rB) (.slice a3 a0.1.Bits.length a4) a0.1.Bits) y⟩
   have S1:=S1.shutR (r:=rB) (T:=4) (v:=.slice ax [true,true,true,true,true,true].length ay) (xs:=[true,true,true,true,true,true]) 0 y
   have S1:=S1.learn (fRep r_api_Grid (.agg #[iv 3,iv 2,.slice ax [true,true,true,true,true,true].length ay]) (api_Grid.mk 3 2 [true,true,true,true,true,true])) ⟨_,y,S1.know (i:=0) (e:=fRep (rL rB) (.slice ax [true,true,true,true,true,true].length ay) [true,true,true,true,true,true]) y⟩
   refine sCallQ (X:=Unit) (f:=16) (vs:=[.agg #[iv a0.1.W,iv a0.1.H,.slice a3 a0.1.Bits.length a4],.agg #[iv 3,iv 2,.slice ax [true,true,true,true,true,true].length ay]]) (val:=fun _=>.bool ak) S (wG 14 true 68 y y y a9) y callee16 y (S1.quiet [2,0] y) (fun E1 w1 S1=>c_raddleref01_Same E1 w1 a0.1 (.agg #[iv a0.1.W,iv a0.1.H,.slice a3 a0.1.Bits.length a4]) (api_Grid.mk 3 2 [true,true,true,true,true,true]) (.agg #[iv 3,iv 2,.slice ax [true,true,true,true,true,true].length ay]) ak bk S1) y (lb y) fun _ a w S=>?_
   exact leafL ⟨y,S⟩
  ·refine fJ [(68,_),(72,_)] 2 [some 16,some 1] fun G a w S=>?_
   exact sPickT (.bool ak) S (wN y) y y a9 y y (lb y) fun a S=>leafL ⟨y,S⟩
  ·exact fM 3 (some 2) y y y y (.inl y) y y y
  ·refine fJ [(7,_),(74,_)] 4 [none,some 3] fun G a w S=>?_
   exact sMove (.slice ab aa.1.length ac) S (wG 20 true 74 y y y af) (.inl y) y y (lb y) fun a S=>leafL ⟨y,S⟩
  refine ⟨_,[(74,.bool ak)],y,(srcs_of [some 3] y y y),fun G a w S=>?_⟩
  refine sLit (r:=(rI .i64)) (T:=3) (xs:=([0,0,1]:List Int)) [(0,iv 0),(1,iv 0),(2,iv 1)] 3 [iv 0,iv 0,iv 1] [iv 0,iv 0,iv 1] (iv 0) 8 S (wG 20 true 74 y y y af) y y Try.underlying25 y (by decide) (by decide) (by kernel_rfl) y (fun E1 w1 hE=>All.cons y (All.cons y (All.cons y (All.nil _ _ _)))) y y (lb y) fun a w bf bg S=>?_
  refine leafL ⟨y,_,_,.inl ⟨76,(.slice bf ([0,0,1]:List Int).length bg),[(23,77,.bool aA),(24,78,.bool aA),(25,79,.bool aA),(26,80,iv aa.2.1),(27,81,.bool (aa.2.1 == 0)),(28,82,.bool (aa.2.1 == 0)),(29,83,.bool (aa.2.1 == 0)),(30,84,iv a8.2.1),(31,85,.bool (a8.2.1 == 1)),(32,86,.bool (a8.2.1 == 1)),(33,87,.bool (a8.2.1 == 1)),(34,88,undef),(35,89,undef),(36,90,undef),(37,91,.bool false),(38,0,.bool false)],y,S,hz_of y,?_⟩⟩
  refine node_by (A:=anc_raddlelaw17_alive_0) 39 (by kernel_rfl) (by kernel_rfl) (by kernel_rfl) (by kernel_rfl) (by kernel_rfl) [23,24,25,26,27,28,29,30,31,32,33,34,35,36,37,38,22,17,18,19,20,21,16,4,5,6,7,8,9,10,11,12,13,14,15,3,0,1,2] (by kernel_rfl) (by decide) (by decide) (fD 22 (fD 22 (fD 22 (fY (fD 22 (fD 22 (fD 22 (fD 22 (fD 22 (fD 22 (fD 22 (fD 22 (fD 22 (fD 22 (fD 22 (fD 22 (fY (fD 22 (fD 22 (fD 22 (fD 22 (fF ?_ (fY (fF ?_ (fF ?_ (fF ?_ (fF ?_ (fF ?_ (fF ?_ (fF ?_ (fF ?_ (fF ?_ (fF ?_ (fF ?_ (fF ?_ (fF ?_ (fF ?_ (fF ?_ (fF ?_ (trivial)))))))))))))))))))))))))))))))))))))))) [(0,.bool false)] (fin_of [some 15] y (by kernel_rfl) (by kernel_rfl)) (fun _ a w S=>?_)
  ·refine fJ [(7,_),(74,_)] 21 [none,some 20] fun G a w S=>?_
   exact sMove (.slice ab aa.1.length ac) S (wG 20 true 74 y y y af) (.inl y) y y (lb y) fun a S=>leafL ⟨y,S⟩
  ·refine fJ [(75,_),(76,_),(74,_)] 0 [some 21,some 16,some 20] fun G a w S=>?_
   have S1:=S.mem
   have S1:=S1.shutR (r:=(rI .i64)) (T:=3) (v:=.slice bf ([0,0,1]:List Int).length bg) (xs:=([0,0,1]:List Int)) 0 y
   refine sCallQ (X:=Unit) (f:=17) (vs:=[.slice ab aa.1.length ac,.slice bf ([0,0,1]:List Int).length bg]) (val:=fun _=>.bool aA) S (wG 20 true 74 y y y af) y callee17 y (S1.quiet [2,0] y) (fun E1 w1 S1=>c_raddleref02_Same E1 w1 aa.1 (.slice ab aa.1.length ac) ([0,0,1]:List Int) (.slice bf ([0,0,1]:List Int).length bg) aA bu S1) y (lb y) fun _ a w S=>?_
   exact leafL ⟨y,S⟩
  ·refine fJ [(74,_),(77,_)] 1 [some 20,some 0] fun G a w S=>?_
   exact sPickT (.bool aA) S (wN y) y y af y y (lb y) fun a S=>leafL ⟨y,S⟩
  ·exact fM 2 (some 1) y y y y (.inl y) y y y
  ·refine fJ [(8,_),(79,_)] 3 [none,some 2] fun G a w S=>?_
   exact sMove (iv aa.2.1) S (wG 25 true 79 y y y az) (.inl y) y y (lb y) fun a S=>leafL ⟨y,S⟩
  ·refine fJ [(80,_),(79,_)] 4 [some 3,some 2] fun G a w S=>?_
   exact sBin _ S (wG 25 true 79 y y y az) y y y (bEq _ _ _ _ .i64 aa.2.1 0) y (lb y) fun a S=>leafL ⟨y,S⟩
  ·refine fJ [(79,_),(81,_)] 5 [some 2,some 4] fun G a w S=>?_
   exact sPickT (.bool (aa.2.1 == 0)) S (wN y) y y az y y (lb y) fun a S=>leafL ⟨y,S⟩
  ·exact fM 6 (some 5) y y y y (.inl y) y y y
  ·refine fJ [(11,_),(83,_)] 7 [none,some 6] fun G a w S=>?_
   exact sMove (iv a8.2.1) S (wG 29 true 83 y y y aC) (.inl y) y y (lb y) fun a S=>leafL ⟨y,S⟩
  ·refine fJ [(84,_),(83,_)] 8 [some 7,some 6] fun G a w S=>?_
   exact sBin _ S (wG 29 true 83 y y y aC) y y y (bEq _ _ _ _ .i64 a8.2.1 1) y (lb y) fun a S=>leafL ⟨y,S⟩
  ·refine fJ [(83,_),(85,_)] 9 [some 6,some 8] fun G a w S=>?_
   exact sPickT (.bool (a8.2.1 == 1)) S (wN y) y y aC y y (lb y) fun a S=>leafL ⟨y,S⟩
  ·exact fM 10 (some 9) y y y y (.inl y) y y y
  ·refine fJ [(10,_),(87,_)] 11 [none,some 10] fun G a w S=>?_
   exact sSk S y y y aG y y fun a S=>leafL ⟨y,S⟩
  ·refine fJ [(87,_)] 12 [some 10] fun G a w S=>?_
   exact sSk S y y y aG y y fun a S=>leafL ⟨y,S⟩
  ·refine fJ [(88,_),(89,_),(87,_)] 13 [some 11,some 12,some 10] fun G a w S=>?_
   exact sSk S y y y aG y y fun a S=>leafL ⟨y,S⟩
  ·refine fJ [(87,_),(90,_)] 14 [some 10,some 13] fun G a w S=>?_
   exact sPickF (.bool false) S (wN y) y y aG y y (lb y) fun a S=>leafL ⟨y,S⟩
  ·exact fM 15 (some 14) y y y y (.inr y) y y y
  exact leafT (⟨false,Option.some.inj h,S.fix [] [] (by decide) y y y⟩)
 obtain ⟨aM,bZ,h⟩:=bS h
 obtain ⟨bv,c7,h⟩:=bS h
 refine sDraw (nf:=[3,16,22,35]) (W:=[(0,54,.bool ao),(1,55,.bool ao),(2,56,.slice a5 a2.1.length a6)]) y S ?_
 refine node_by (A:=anc_raddlelaw17_alive_0) 39 (by kernel_rfl) (by kernel_rfl) (by kernel_rfl) (by kernel_rfl) (by kernel_rfl) [0,1,2] (by kernel_rfl) (by decide) (by decide) (fF ?_ (fF ?_ (fF ?_ (fN ?_ (fE 3 (fE 3 (fE 3 (fE 3 (fE 3 (fE 3 (fE 3 (fE 3 (fE 3 (fE 3 (fE 3 (fE 3 (aB 16 22 3 (by decide) (fE 3 (fE 3 (fE 3 (fE 3 (fE 3 (aB 22 16 3 (by decide) (fE 3 (fE 3 (fE 3 (fE 3 (fE 3 (fE 3 (fE 3 (fE 3 (fE 3 (fE 3 (fE 3 (fE 3 (aB 35 3 3 (by decide) (fE 3 (fE 3 (fE 3 (trivial)))))))))))))))))))))))))))))))))))))))) [] (fun q hq=>by cases hq) (fun hY=>absurd (hY 3 (by decide)) (by decide))
 ·exact fM 0 none y y y y (.inl y) y y y
 ·exact fM 1 (some 0) y y y y (.inl y) y y y
 ·refine fJ [(1,_),(55,_)] 2 [none,some 1] fun G a w S=>?_
  exact sMove (.slice a5 a2.1.length a6) S (wG 1 true 55 y y y a7) (.inl y) y y (lb y) fun a S=>leafL ⟨y,S⟩
 refine ⟨_,[(55,.bool ao)],y,(srcs_of [some 1] y y y),fun G a w S=>?_⟩
 refine sLit (r:=(rI .i64)) (T:=3) (xs:=([0,0,0]:List Int)) [(0,iv 0),(1,iv 0),(2,iv 0)] 3 [iv 0,iv 0,iv 0] [iv 0,iv 0,iv 0] (iv 0) 8 S (wG 1 true 55 y y y a7) y y Try.underlying25 y (by decide) (by decide) (by kernel_rfl) y (fun E1 w1 hE=>All.cons y (All.cons y (All.cons y (All.nil _ _ _)))) y y (lb y) fun a w bl bm S=>?_
 refine leafL ⟨y,_,_,.inl ⟨57,(.slice bl ([0,0,0]:List Int).length bm),[(4,58,.bool ag),(5,59,.bool ag),(6,60,.bool ag),(7,61,iv a2.2.1),(8,62,.bool (a2.2.1 == 1)),(9,63,.bool (a2.2.1 == 1)),(10,64,.bool (a2.2.1 == 1)),(11,65,iv a0.2.1),(12,66,.bool (a0.2.1 == 1)),(13,67,.bool (a0.2.1 == 1)),(14,68,.bool (a0.2.1 == 1)),(15,69,.agg #[iv a0.1.W,iv a0.1.H,.slice a3 a0.1.Bits.length a4])],y,S,hz_of y,?_⟩⟩
 refine node_by (A:=anc_raddlelaw17_alive_0) 39 (by kernel_rfl) (by kernel_rfl) (by kernel_rfl) (by kernel_rfl) (by kernel_rfl) [4,5,6,7,8,9,10,11,12,13,14,15,3,0,1,2] (by kernel_rfl) (by decide) (by decide) (fD 3 (fD 3 (fF ?_ (fY (fF ?_ (fF ?_ (fF ?_ (fF ?_ (fF ?_ (fF ?_ (fF ?_ (fF ?_ (fF ?_ (fF ?_ (fF ?_ (fF ?_ (fN ?_ (fE 16 (fE 16 (fE 16 (fE 16 (fE 16 (aB 22 16 16 (by decide) (fE 16 (fE 16 (fE 16 (fE 16 (fE 16 (fE 16 (fE 16 (fE 16 (fE 16 (fE 16 (fE 16 (fE 16 (aB 35 3 16 (by decide) (fE 16 (fE 16 (fE 16 (trivial)))))))))))))))))))))))))))))))))))))))) [] (fun q hq=>by cases hq) (fun hY=>absurd (hY 16 (by decide)) (by decide))
 ·refine fJ [(1,_),(55,_)] 15 [none,some 14] fun G a w S=>?_
  exact sMove (.slice a5 a2.1.length a6) S (wG 1 true 55 y y y a7) (.inl y) y y (lb y) fun a S=>leafL ⟨y,S⟩
 ·refine fJ [(56,_),(57,_),(55,_)] 0 [some 15,some 12,some 14] fun G a w S=>?_
  have S1:=S.mem
  have S1:=S1.shutR (r:=(rI .i64)) (T:=3) (v:=.slice bl ([0,0,0]:List Int).length bm) (xs:=([0,0,0]:List Int)) 0 y
  refine sCallQ (X:=Unit) (f:=17) (vs:=[.slice a5 a2.1.length a6,.slice bl ([0,0,0]:List Int).length bm]) (val:=fun _=>.bool ag) S (wG 1 true 55 y y y a7) y callee17 y (S1.quiet [1,0] y) (fun E1 w1 S1=>c_raddleref02_Same E1 w1 a2.1 (.slice a5 a2.1.length a6) ([0,0,0]:List Int) (.slice bl ([0,0,0]:List Int).length bm) ag aI S1) y (lb y) fun _ a w S=>?_
  exact leafL ⟨y,S⟩
 ·refine fJ [(55,_),(58,_)] 1 [some 14,some 0] fun G a w S=>?_
  exact sPickT (.bool ag) S (wN y) y y a7 y y (lb y) fun a S=>leafL ⟨y,S⟩
 ·exact fM 2 (some 1) y y y y (.inl y) y y y
 ·refine fJ [(2,_),(60,_)] 3 [none,some 2] fun G a w S=>?_
  exact sMove (iv a2.2.1) S (wG 6 true 60 y y y ae) (.inl y) y y (lb y) fun a S=>leafL ⟨y,S⟩
 ·refine fJ [(61,_),(60,_)] 4 [some 3,some 2] fun G a w S=>?_
  exact sBin _ S (wG 6 true 60 y y y ae) y y y (bEq _ _ _ _ .i64 a2.2.1 1) y (lb y) fun a S=>leafL ⟨y,S⟩
 ·refine fJ [(60,_),(62,_)] 5 [some 2,some 4] fun G a w S=>?_
  exact sPickT (.bool (a2.2.1 == 1)) S (wN y) y y ae y y (lb y) fun a S=>leafL ⟨y,S⟩
 ·exact fM 6 (some 5) y y y y (.inl y) y y y
 ·refine fJ [(5,_),(64,_)] 7 [none,some 6] fun G a w S=>?_
  exact sMove (iv a0.2.1) S (wG 10 true 64 y y y ah) (.inl y) y y (lb y) fun a S=>leafL ⟨y,S⟩
 ·refine fJ [(65,_),(64,_)] 8 [some 7,some 6] fun G a w S=>?_
  exact sBin _ S (wG 10 true 64 y y y ah) y y y (bEq _ _ _ _ .i64 a0.2.1 1) y (lb y) fun a S=>leafL ⟨y,S⟩
 ·refine fJ [(64,_),(66,_)] 9 [some 6,some 8] fun G a w S=>?_
  exact sPickT (.bool (a0.2.1 == 1)) S (wN y) y y ah y y (lb y) fun a S=>leafL ⟨y,S⟩
 ·exact fM 10 (some 9) y y y y (.inl y) y y y
 ·refine fJ [(4,_),(68,_)] 11 [none,some 10] fun G a w S=>?_
  exact sLoadN (p:=aH) (off:=0) (T:=24) (vs:=[iv a0.1.W,iv a0.1.H,.slice a3 a0.1.Bits.length a4]) 1 [iv a0.1.W,iv a0.1.H,.slice a3 a0.1.Bits.length a4] S (wG 14 true 68 y y y a9) y y y y y y y (lb y) fun a S=>leafL ⟨y,S⟩
 refine ⟨_,[(68,.bool (a0.2.1 == 1))],y,(srcs_of [some 10] y y y),fun G a w S=>?_⟩
 refine sLit (r:=rB) (T:=4) (xs:=[true,true,true,true,true,true]) [(0,.bool true),(1,.bool true),(2,.bool true),(3,.bool true),(4,.bool true),(5,.bool true)] 6 [.bool true,.bool true,.bool true,.bool true,.bool true,.bool true] [.bool true,.bool true,.bool true,.bool true,.bool true,.bool true] (.bool false) 1 S (wG 14 true 68 y y y a9) y y Try.underlying22 y (by decide) (by decide) (by kernel_rfl) y (fun E1 w1 hE=>All.cons y (All.cons y (All.cons y (All.cons y (All.cons y (All.cons y (All.nil _ _ _))))))) y y (lb y) fun a w al am S=>?_
 refine leafL ⟨y,_,_,.inl ⟨70,(.slice al [true,true,true,true,true,true].length am),[(17,71,.agg #[iv 3,iv 2,.slice al [true,true,true,true,true,true].length am]),(18,72,.bool ak),(19,73,.bool ak),(20,74,.bool ak),(21,75,.slice ab aa.1.length ac)],y,S,hz_of y,?_⟩⟩
 refine node_by (A:=anc_raddlelaw17_alive_0) 39 (by kernel_rfl) (by kernel_rfl) (by kernel_rfl) (by kernel_rfl) (by kernel_rfl) [17,18,19,20,21,16,4,5,6,7,8,9,10,11,12,13,14,15,3,0,1,2] (by kernel_rfl) (by decide) (by decide) (fD 16 (fD 16 (fD 16 (fY (fD 16 (fD 16 (fD 16 (fD 16 (fD 16 (fD 16 (fD 16 (fD 16 (fD 16 (fD 16 (fD 16 (fF ?_ (fY (fF ?_ (fF ?_ (fF ?_ (fF ?_ (fF ?_ (fN ?_ (fE 22 (fE 22 (fE 22 (fE 22 (fE 22 (fE 22 (fE 22 (fE 22 (fE 22 (fE 22 (fE 22 (fE 22 (aB 35 3 22 (by decide) (fE 22 (fE 22 (fE 22 (trivial)))))))))))))))))))))))))))))))))))))))) [] (fun q hq=>by cases hq) (fun hY=>absurd (hY 22 (by decide)) (by decide))
 ·refine fJ [(4,_),(68,_)] 17 [none,some 16] fun G a w S=>?_
  exact sLoadN (p:=aH) (off:=0) (T:=24) (vs:=[iv a0.1.W,iv a0.1.H,.slice a3 a0.1.Bits.length a4]) 2 [iv a0.1.W,iv a0.1.H,.slice a3 a0.1.Bits.length a4] S (wG 14 true 68 y y y a9) y y y y y y y (lb y) fun a S=>leafL ⟨y,S⟩
 ·refine fJ [(70,_),(68,_)] 0 [some 5,some 16] fun G a w S=>?_
  exact sBuild [(0,iv 3),(1,iv 2),(2,.slice al [true,true,true,true,true,true].length am)] [iv 3,iv 2,.slice al [true,true,true,true,true,true].length am] S (wG 14 true 68 y y y a9) y y y y (lb y) fun a S=>leafL ⟨y,S⟩
 ·refine fJ [(69,_),(71,_),(68,_)] 1 [some 17,some 0,some 16] fun G a w S=>?_
  have S1:=S.mem
  have S1:=S1.learn (fRep r_api_Grid (.agg #[iv a0.1.W,iv a0.1.H,.slice a3 a0.1.Bits.length a4]) a0.1) ⟨_,y,S1.know (i:=2) (e:=fRep (rL rB) (.slice a3 a0.1.Bits.length a4) a0.1.Bits) y⟩
  have S1:=S1.shutR (r:=rB) (T:=4) (v:=.slice al [true,true,true,true,true,true].length am) (xs:=[true,true,true,true,true,true]) 0 y
  have S1:=S1.learn (fRep r_api_Grid (.agg #[iv 3,iv 2,.slice al [true,true,true,true,true,true].length am]) (api_Grid.mk 3 2 [true,true,true,true,true,true])) ⟨_,y,S1.know (i:=0) (e:=fRep (rL rB) (.slice al [true,true,true,true,true,true].length am) [true,true,true,true,true,true]) y⟩
  refine sCallQ (X:=Unit) (f:=16) (vs:=[.agg #[iv a0.1.W,iv a0.1.H,.slice a3 a0.1.Bits.length a4],.agg #[iv 3,iv 2,.slice al [true,true,true,true,true,true].length am]]) (val:=fun _=>.bool ak) S (wG 14 true 68 y y y a9) y callee16 y (S1.quiet [2,0] y) (fun E1 w1 S1=>c_raddleref01_Same E1 w1 a0.1 (.agg #[iv a0.1.W,iv a0.1.H,.slice a3 a0.1.Bits.length a4]) (api_Grid.mk 3 2 [true,true,true,true,true,true]) (.agg #[iv 3,iv 2,.slice al [true,true,true,true,true,true].length am]) ak bk S1) y (lb y) fun _ a w S=>?_
  exact leafL ⟨y,S⟩
 ·refine fJ [(68,_),(72,_)] 2 [some 16,some 1] fun G a w S=>?_
  exact sPickT (.bool ak) S (wN y) y y a9 y y (lb y) fun a S=>leafL ⟨y,S⟩
 ·exact fM 3 (some 2) y y y y (.inl y) y y y
 ·refine fJ [(7,_),(74,_)] 4 [none,some 3] fun G a w S=>?_
  exact sMove (.slice ab aa.1.length ac) S (wG 20 true 74 y y y af) (.inl y) y y (lb y) fun a S=>leafL ⟨y,S⟩
 refine ⟨_,[(74,.bool ak)],y,(srcs_of [some 3] y y y),fun G a w S=>?_⟩
 refine sLit (r:=(rI .i64)) (T:=3) (xs:=([0,0,1]:List Int)) [(0,iv 0),(1,iv 0),(2,iv 1)] 3 [iv 0,iv 0,iv 1] [iv 0,iv 0,iv 1] (iv 0) 8 S (wG 20 true 74 y y y af) y y Try.underlying25 y (by decide) (by decide) (by kernel_rfl) y (fun E1 w1 hE=>All.cons y (All.cons y (All.cons y (All.nil _ _ _)))) y y (lb y) fun a w aJ aK S=>?_
 refine leafL ⟨y,_,_,.inl ⟨76,(.slice aJ ([0,0,1]:List Int).length aK),[(23,77,.bool aA),(24,78,.bool aA),(25,79,.bool aA),(26,80,iv aa.2.1),(27,81,.bool (aa.2.1 == 0)),(28,82,.bool (aa.2.1 == 0)),(29,83,.bool (aa.2.1 == 0)),(30,84,iv a8.2.1),(31,85,.bool (a8.2.1 == 1)),(32,86,.bool (a8.2.1 == 1)),(33,87,.bool (a8.2.1 == 1)),(34,88,.agg #[iv a8.1.W,iv a8.1.H,.slice ai a8.1.Bits.length aj])],y,S,hz_of y,?_⟩⟩
 refine node_by (A:=anc_raddlelaw17_alive_0) 39 (by kernel_rfl) (by kernel_rfl) (by kernel_rfl) (by kernel_rfl) (by kernel_rfl) [23,24,25,26,27,28,29,30,31,32,33,34,22,17,18,19,20,21,16,4,5,6,7,8,9,10,11,12,13,14,15,3,0,1,2] (by kernel_rfl) (by decide) (by decide) (fD 22 (fD 22 (fD 22 (fY (fD 22 (fD 22 (fD 22 (fD 22 (fD 22 (fD 22 (fD 22 (fD 22 (fD 22 (fD 22 (fD 22 (fD 22 (fY (fD 22 (fD 22 (fD 22 (fD 22 (fF ?_ (fY (fF ?_ (fF ?_ (fF ?_ (fF ?_ (fF ?_ (fF ?_ (fF ?_ (fF ?_ (fF ?_ (fF ?_ (fF ?_ (fF ?_ (fN ?_ (fE 35 (fE 35 (fE 35 (trivial)))))))))))))))))))))))))))))))))))))))) [] (fun q hq=>by cases hq) (fun hY=>absurd (hY 35 (by decide)) (by decide))
 ·refine fJ [(7,_),(74,_)] 17 [none,some 16] fun G a w S=>?_
  exact sMove (.slice ab aa.1.length ac) S (wG 20 true 74 y y y af) (.inl y) y y (lb y) fun a S=>leafL ⟨y,S⟩
 ·refine fJ [(75,_),(76,_),(74,_)] 0 [some 17,some 12,some 16] fun G a w S=>?_
  have S1:=S.mem
  have S1:=S1.shutR (r:=(rI .i64)) (T:=3) (v:=.slice aJ ([0,0,1]:List Int).length aK) (xs:=([0,0,1]:List Int)) 0 y
  refine sCallQ (X:=Unit) (f:=17) (vs:=[.slice ab aa.1.length ac,.slice aJ ([0,0,1]:List Int).length aK]) (val:=fun _=>.bool aA) S (wG 20 true 74 y y y af) y callee17 y (S1.quiet [2,0] y) (fun E1 w1 S1=>c_raddleref02_Same E1 w1 aa.1 (.slice ab aa.1.length ac) ([0,0,1]:List Int) (.slice aJ ([0,0,1]:List Int).length aK) aA bu S1) y (lb y) fun _ a w S=>?_
  exact leafL ⟨y,S⟩
 ·refine fJ [(74,_),(77,_)] 1 [some 16,some 0] fun G a w S=>?_
  exact sPickT (.bool aA) S (wN y) y y af y y (lb y) fun a S=>leafL ⟨y,S⟩
 ·exact fM 2 (some 1) y y y y (.inl y) y y y
 ·refine fJ [(8,_),(79,_)] 3 [none,some 2] fun G a w S=>?_
  exact sMove (iv aa.2.1) S (wG 25 true 79 y y y az) (.inl y) y y (lb y) fun a S=>leafL ⟨y,S⟩
 ·refine fJ [(80,_),(79,_)] 4 [some 3,some 2] fun G a w S=>?_
  exact sBin _ S (wG 25 true 79 y y y az) y y y (bEq _ _ _ _ .i64 aa.2.1 0) y (lb y) fun a S=>leafL ⟨y,S⟩
 ·refine fJ [(79,_),(81,_)] 5 [some 2,some 4] fun G a w S=>?_
  exact sPickT (.bool (aa.2.1 == 0)) S (wN y) y y az y y (lb y) fun a S=>leafL ⟨y,S⟩
 ·exact fM 6 (some 5) y y y y (.inl y) y y y
 ·refine fJ [(11,_),(83,_)] 7 [none,some 6] fun G a w S=>?_
  exact sMove (iv a8.2.1) S (wG 29 true 83 y y y aC) (.inl y) y y (lb y) fun a S=>leafL ⟨y,S⟩
 ·refine fJ [(84,_),(83,_)] 8 [some 7,some 6] fun G a w S=>?_
  exact sBin _ S (wG 29 true 83 y y y aC) y y y (bEq _ _ _ _ .i64 a8.2.1 1) y (lb y) fun a S=>leafL ⟨y,S⟩
 ·refine fJ [(83,_),(85,_)] 9 [some 6,some 8] fun G a w S=>?_
  exact sPickT (.bool (a8.2.1 == 1)) S (wN y) y y aC y y (lb y) fun a S=>leafL ⟨y,S⟩
 ·exact fM 10 (some 9) y y y y (.inl y) y y y
 ·refine fJ [(10,_),(87,_)] 11 [none,some 10] fun G a w S=>?_
  exact sLoadN (p:=bE) (off:=0) (T:=24) (vs:=[iv a8.1.W,iv a8.1.H,.slice ai a8.1.Bits.length aj]) 4 [iv a8.1.W,iv a8.1.H,.slice ai a8.1.Bits.length aj] S (wG 33 true 87 y y y aG) y y y y y y y (lb y) fun a S=>leafL ⟨y,S⟩
 refine ⟨_,[(87,.bool (a8.2.1 == 1))],y,(srcs_of [some 10] y y y),fun G a w S=>?_⟩
 refine sCall (X:=Value) (f:=32) (vs:=[iv 2,iv 1]) (val:=c_raddleref01_Zero_val aM) (B':=fun _=>[]) (D':=c_raddleref01_Zero_D aM) [] [eRow (rI .i64) 3 (.slice aJ ([0,0,1]:List Int).length aK) ([0,0,1]:List Int),eRow rB 4 (.slice al [true,true,true,true,true,true].length am) [true,true,true,true,true,true],eRow (rI .i64) 3 (.slice bl ([0,0,0]:List Int).length bm) ([0,0,0]:List Int),eBox aH 24 [iv a0.1.W,iv a0.1.H,.slice a3 a0.1.Bits.length a4],eBox bE 24 [iv a8.1.W,iv a8.1.H,.slice ai a8.1.Bits.length aj]] [] [0,1,2,3,4] [] S (wG 33 true 87 y y y aG) y callee32 y (by decide) y y (fun E1 w1 S1=>c_raddleref01_Zero E1 w1 2 1 aM bZ S1) y (lb y) fun c8 a w S=>?_
 obtain ⟨c9,rfl,bw⟩:=S.mem.know (i:=0) (e:=fRep r_api_Grid (c8) aM) y
 have S:=S.learn (fRep (rL rB) c9 aM.Bits) bw
 obtain ⟨bn,bo,_,rfl,_⟩:=bw
 refine leafL ⟨y,_,_,.inl ⟨89,(.agg #[iv aM.W,iv aM.H,.slice bn aM.Bits.length bo]),[(36,90,.bool bv),(37,91,.bool bv),(38,0,.bool bv)],y,S,hz_of y,?_⟩⟩
 refine node_by (A:=anc_raddlelaw17_alive_0) 39 (by kernel_rfl) (by kernel_rfl) (by kernel_rfl) (by kernel_rfl) (by kernel_rfl) [36,37,38,35,23,24,25,26,27,28,29,30,31,32,33,34,22,17,18,19,20,21,16,4,5,6,7,8,9,10,11,12,13,14,15,3,0,1,2] (by kernel_rfl) (by decide) (by decide) (fD 35 (fD 35 (fD 35 (fY (fD 35 (fD 35 (fD 35 (fD 35 (fD 35 (fD 35 (fD 35 (fD 35 (fD 35 (fD 35 (fD 35 (fD 35 (fY (fD 35 (fD 35 (fD 35 (fD 35 (fD 35 (fY (fD 35 (fD 35 (fD 35 (fD 35 (fD 35 (fD 35 (fD 35 (fD 35 (fD 35 (fD 35 (fD 35 (fF ?_ (fY (fF ?_ (fF ?_ (fF ?_ (trivial)))))))))))))))))))))))))))))))))))))))) [(0,.bool bv)] (fin_of [some 2] y (by kernel_rfl) (by kernel_rfl)) (fun _ a w S=>?_)
 ·refine fJ [(10,_),(87,_)] 15 [none,some 14] fun G a w S=>?_
  exact sLoadN (p:=bE) (off:=0) (T:=24) (vs:=[iv a8.1.W,iv a8.1.H,.slice ai a8.1.Bits.length aj]) 4 [iv a8.1.W,iv a8.1.H,.slice ai a8.1.Bits.length aj] S (wG 33 true 87 y y y aG) y y y y y y y (lb y) fun a S=>leafL ⟨y,S⟩
 ·refine fJ [(88,_),(89,_),(87,_)] 0 [some 15,some 3,some 14] fun G a w S=>?_
  have S1:=S.mem
  have S1:=S1.learn (fRep r_api_Grid (.agg #[iv a8.1.W,iv a8.1.H,.slice ai a8.1.Bits.length aj]) a8.1) ⟨_,y,S1.know (i:=5) (e:=fRep (rL rB) (.slice ai a8.1.Bits.length aj) a8.1.Bits) y⟩
  refine sCallQ (X:=Unit) (f:=16) (vs:=[.agg #[iv a8.1.W,iv a8.1.H,.slice ai a8.1.Bits.length aj],.agg #[iv aM.W,iv aM.H,.slice bn aM.Bits.length bo]]) (val:=fun _=>.bool bv) S (wG 33 true 87 y y y aG) y callee16 y (S1.quiet [0,2] y) (fun E1 w1 S1=>c_raddleref01_Same E1 w1 a8.1 (.agg #[iv a8.1.W,iv a8.1.H,.slice ai a8.1.Bits.length aj]) aM (.agg #[iv aM.W,iv aM.H,.slice bn aM.Bits.length bo]) bv c7 S1) y (lb y) fun _ a w S=>?_
  exact leafL ⟨y,S⟩
 ·refine fJ [(87,_),(90,_)] 1 [some 14,some 0] fun G a w S=>?_
  exact sPickT (.bool bv) S (wN y) y y aG y y (lb y) fun a S=>leafL ⟨y,S⟩
 ·exact fM 2 (some 1) y y y y (.inr y) y y y
 exact leafT (⟨bv,Option.some.inj h,S.fix [] [] (by decide) y y y⟩)
noncomputable def F_raddleref01_Check (p0:api_Grid):Option Int:=
 Option.bind (α:=Bool) (
  if decide (64 < p0.W) then
   some true
  else
   some (decide (64 < p0.H))) fun o8=>
 if o8 then
  some 4
 else
  Option.bind (α:=Bool) (
   if decide (p0.W < 1) then
    some true
   else
    if decide (p0.H < 1) then
     some true
    else
     some ((p0.Bits.length:Int) != (w64 (p0.W * p0.H)))) fun a0=>
  if a0 then
   some 8
  else
   some 0
theorem c_raddleref01_Check (E:Nat→Prop) (w0:World) (p0:api_Grid) (v0:Value) (r:Int) (h:F_raddleref01_Check p0=some r) (S:St0 E [] w0 w0 [] [fRep r_api_Grid (v0) p0]) :
 Calls Try.prog 37 #[v0] w0 (Ret (X:=Unit) E [] w0 (fun _=>.int .i64 r) (fun _=>[]) (fun _=>[])):=by
 unfold F_raddleref01_Check at h
 obtain ⟨u1,rfl,ae⟩:=S.know (i:=0) (e:=fRep r_api_Grid (v0) p0) y
 have S:=S.learn (fRep (rL rB) u1 p0.Bits) ae
 obtain ⟨a6,a7,_,rfl,_⟩:=ae
 refine sEnter (args:=[.agg #[iv p0.W,iv p0.H,.slice a6 p0.Bits.length a7]]) 30 Try.func37 y y (by simp) S (fun a S=>?_)
 refine sSeq (fun K5 af=>sRegion (sBox (v:=.agg #[iv p0.W,iv p0.H,.slice a6 p0.Bits.length a7]) S (wN y) y y [iv p0.W,iv p0.H,.slice a6 p0.Bits.length a7] y y (lb y) fun a b6 w S=>sN S fun a S=>?_))
 refine lT (af _ _ (sSeq (fun K7 ag=>?_)))
 obtain ⟨t9,h,ah⟩:=bS h
 refine sCut (fun a w=>∃ o8,o8=t9∧St [] E [] w0 30 a w [(1,.pointer (some ⟨b6,0,none⟩)),(10,.bool o8)] [eBox b6 24 [iv p0.W,iv p0.H,.slice a6 p0.Bits.length a7]] [fRep (rL rB) (.slice a6 p0.Bits.length a7) p0.Bits]) ?_ (fun a w hI=>?_)
 ·refine sRegion (sField (b:=b6) (off:=0) 0 0 S (wN y) y y y y y (lb y) fun a S=>sLoad1 0 (iv p0.W) S (wN y) y y y y y y (lb y) fun a S=>sBin _ S (wN y) y y y (bGt _ _ _ _ .i64 p0.W 64) y (lb y) fun a S=>sM S fun a S=>?_)
  rcases iS h with ⟨a2,h⟩ | ⟨a2,h⟩
  ·refine sSkN 3 3 false 6 S y y a2 y fun a S=>sPickT (.bool true) S (wN y) y y a2 y y (lb y) fun a S=>?_
   exact lT (⟨true,Option.some.inj h,S.fix [0] [0] (by decide) y y y⟩)
  refine sField (b:=b6) (off:=0) 1 1 S (wG 3 false 6 y y y a2) y y y y y (lb y) fun a S=>sLoad1 0 (iv p0.H) S (wG 3 false 6 y y y a2) y y y y y y (lb y) fun a S=>sBin _ S (wG 3 false 6 y y y a2) y y y (bGt _ _ _ _ .i64 p0.H 64) y (lb y) fun a S=>sPickF (.bool (decide (64 < p0.H))) S (wN y) y y a2 y y (lb y) fun a S=>?_
  exact lT (⟨decide (64 < p0.H),Option.some.inj h,S.fix [0] [0] (by decide) y y y⟩)
 obtain ⟨o8,rfl,S⟩:=hI
 have h:=ah
 try dsimp only at h
 rcases iS h with ⟨a4,h⟩ | ⟨a4,h⟩
 ·refine sCondT S y a4 (sSeq (fun ak a8=>sRegion (sN S fun a S=>?_)))
  refine lT (a8 _ _ ?_)
  obtain rfl:=tS h
  exact wp_ret (rThen (sRet (iv 4) S (rsl1 y (rvT (t:=2) (v:=iv 4) S y)) ⟨(),y,S.mem.sel [] [] (by decide) y y⟩))
 refine sCondF S y a4 (wp_skip (leafT (ag _ _ ?_)))
 refine sSeq (fun al a9=>?_)
 obtain ⟨ai,h,aj⟩:=bS h
 refine sCut (fun a w=>∃ aa,aa=ai∧St [] E [] w0 30 a w [(29,.bool aa)] [] []) ?_ (fun a w hI=>?_)
 rotate_left
 ·obtain ⟨aa,rfl,S⟩:=hI
  have h:=aj
  try dsimp only at h
  rcases iS h with ⟨a5,h⟩ | ⟨a5,h⟩
  ·refine sCondT S y a5 (sSeq (fun am ab=>sRegion (sN S fun a S=>?_)))
   refine lT (ab _ _ ?_)
   obtain rfl:=tS h
   exact wp_ret (rThen (sRet (iv 8) S (rsl1 y (rvT (t:=2) (v:=iv 8) S y)) ⟨(),y,S.mem.sel [] [] (by decide) y y⟩))
  refine sCondF S y a5 (wp_skip (leafT (a9 _ _ ?_)))
  refine sSeq (fun ao ac=>sRegion (sN S fun a S=>?_))
  refine lT (ac _ _ ?_)
  obtain rfl:=tS h
  exact wp_ret (sRet (iv 0) S (rsl1 y (rvT (t:=2) (v:=iv 0) S y)) ⟨(),y,S.mem.sel [] [] (by decide) y y⟩)
 refine sRegion (sField (b:=b6) (off:=0) 0 0 S (wN y) y y y y y (lb y) fun a S=>sLoad1 0 (iv p0.W) S (wN y) y y y y y y (lb y) fun a S=>sBin _ S (wN y) y y y (bLt _ _ _ _ .i64 p0.W 1) y (lb y) fun a S=>sM S fun a S=>?_)
 rcases iS h with ⟨a3,h⟩ | ⟨a3,h⟩
 ·refine sSkN 3 3 false 14 S y y a3 y fun a S=>sPickT (.bool true) S (wN y) y y a3 y y (lb y) fun a S=>sM S fun a S=>?_
  refine sSkN 9 8 false 19 S y y y y fun a S=>sPickT (.bool true) S (wN y) y y y y y (lb y) fun a S=>?_
  exact lT (⟨true,Option.some.inj h,S.fix [] [] (by decide) y y y⟩)
 refine sField (b:=b6) (off:=0) 1 1 S (wG 3 false 14 y y y a3) y y y y y (lb y) fun a S=>sLoad1 0 (iv p0.H) S (wG 3 false 14 y y y a3) y y y y y y (lb y) fun a S=>sBin _ S (wG 3 false 14 y y y a3) y y y (bLt _ _ _ _ .i64 p0.H 1) y (lb y) fun a S=>sPickF (.bool (decide (p0.H < 1))) S (wN y) y y a3 y y (lb y) fun a S=>sM S fun a S=>?_
 rcases iS h with ⟨a0,h⟩ | ⟨a0,h⟩
 ·refine sSkN 9 8 false 19 S y y a0 y fun a S=>sPickT (.bool true) S (wN y) y y a0 y y (lb y) fun a S=>?_
  exact lT (⟨true,Option.some.inj h,S.fix [] [] (by decide) y y y⟩)
 refine sField (b:=b6) (off:=0) 2 2 S (wG 8 false 19 y y y a0) y y y y y (lb y) fun a S=>sLoad1 0 (.slice a6 p0.Bits.length a7) S (wG 8 false 19 y y y a0) y y y y y y (lb y) fun a S=>sLen S (wG 8 false 19 y y y a0) y Try.underlying22 y y (lb y) fun a S=>sField (b:=b6) (off:=0) 0 0 S (wG 8 false 19 y y y a0) y y y y y (lb y) fun a S=>sLoad1 0 (iv p0.W) S (wG 8 false 19 y y y a0) y y y y y y (lb y) fun a S=>sField (b:=b6) (off:=0) 1 1 S (wG 8 false 19 y y y a0) y y y y y (lb y) fun a S=>sLoad1 0 (iv p0.H) S (wG 8 false 19 y y y a0) y y y y y y (lb y) fun a S=>sBin _ S (wG 8 false 19 y y y a0) y y y (bMul _ _ _ _ p0.W p0.H) y (lb y) fun a S=>sBin _ S (wG 8 false 19 y y y a0) y y y (bNe _ _ _ _ .i64 (p0.Bits.length:Int) (w64 (p0.W * p0.H))) y (lb y) fun a S=>sPickF (.bool ((p0.Bits.length:Int) != (w64 (p0.W * p0.H)))) S (wN y) y y a0 y y (lb y) fun a S=>?_
 exact lT (⟨(p0.Bits.length:Int) != (w64 (p0.W * p0.H)),Option.some.inj h,S.fix [] [] (by decide) y y y⟩)
noncomputable def F_raddleref01_Great (p0:api_Grid):Option Bool:=
 some (decide (4200 < (p0.Bits.length:Int)))
theorem c_raddleref01_Great (E:Nat→Prop) (w0:World) (p0:api_Grid) (v0:Value) (r:Bool) (h:F_raddleref01_Great p0=some r) (S:St0 E [] w0 w0 [] [fRep r_api_Grid (v0) p0]) :
 Calls Try.prog 9 #[v0] w0 (Ret (X:=Unit) E [] w0 (fun _=>.bool r) (fun _=>[]) (fun _=>[])):=by
 unfold F_raddleref01_Great at h
 obtain ⟨u1,rfl,a3⟩:=S.know (i:=0) (e:=fRep r_api_Grid (v0) p0) y
 have S:=S.learn (fRep (rL rB) u1 p0.Bits) a3
 obtain ⟨a0,a2,_,rfl,_⟩:=a3
 refine sEnter (args:=[.agg #[iv p0.W,iv p0.H,.slice a0 p0.Bits.length a2]]) 7 Try.func9 y y (by simp) S (fun a S=>?_)
 refine sSeq (fun K5 a4=>sRegion (sBox (v:=.agg #[iv p0.W,iv p0.H,.slice a0 p0.Bits.length a2]) S (wN y) y y [iv p0.W,iv p0.H,.slice a0 p0.Bits.length a2] y y (lb y) fun a b6 w S=>sN S fun a S=>?_))
 refine lT (a4 _ _ (sSeq (fun K7 a5=>sRegion (sField (b:=b6) (off:=0) 2 2 S (wN y) y y y y y (lb y) fun a S=>sLoad1 0 (.slice a0 p0.Bits.length a2) S (wN y) y y y y y y (lb y) fun a S=>sLen S (wN y) y Try.underlying22 y y (lb y) fun a S=>sBin _ S (wN y) y y y (bGt _ _ _ _ .i64 (p0.Bits.length:Int) 4200) y (lb y) fun a S=>sN S fun a S=>?_))))
 refine lT (a5 _ _ ?_)
 obtain rfl:=tS h
 exact wp_ret (sRet (.bool (decide (4200 < (p0.Bits.length:Int)))) S (rsl1 y (rvT (t:=2) (v:=.bool (decide (4200 < (p0.Bits.length:Int)))) S y)) ⟨(),y,S.mem.sel [] [] (by decide) y y⟩)
noncomputable def F_raddlelaw17_fit (p0:api_Grid):Option Bool:=
 Option.bind (α:=Bool) (
  (F_raddleref01_Great p0).bind fun a0=>
  if !a0 then
   (F_raddleref01_Check p0).bind fun a2=>
   if a2 == 0 then
    if decide (p0.W ≤ 6) then
     some (decide (p0.H ≤ 20))
    else
     some false
   else
    some false
  else
   some false) fun o7=>
 some o7
theorem c_raddlelaw17_fit (E:Nat→Prop) (w0:World) (p0:api_Grid) (v0:Value) (r:Bool) (h:F_raddlelaw17_fit p0=some r) (S:St0 E [] w0 w0 [] [fRep r_api_Grid (v0) p0]) :
 Calls Try.prog 19 #[v0] w0 (Ret (X:=Unit) E [] w0 (fun _=>.bool r) (fun _=>[]) (fun _=>[])):=by
 unfold F_raddlelaw17_fit at h
 obtain ⟨u1,rfl,aa⟩:=S.know (i:=0) (e:=fRep r_api_Grid (v0) p0) y
 have S:=S.learn (fRep (rL rB) u1 p0.Bits) aa
 obtain ⟨a4,a5,_,rfl,_⟩:=aa
 refine sEnter (args:=[.agg #[iv p0.W,iv p0.H,.slice a4 p0.Bits.length a5]]) 21 Try.func19 y y (by simp) S (fun a S=>?_)
 refine sSeq (fun K5 ab=>sRegion (sBox (v:=.agg #[iv p0.W,iv p0.H,.slice a4 p0.Bits.length a5]) S (wN y) y y [iv p0.W,iv p0.H,.slice a4 p0.Bits.length a5] y y (lb y) fun a b6 w S=>sN S fun a S=>?_))
 refine lT (ab _ _ ?_)
 obtain ⟨t8,h,g9⟩:=bS h
 refine sCut (fun a w=>∃ o7,o7=t8∧St [] E [] w0 21 a w [(2,.bool o7)] [] []) ?_ (fun a w hI=>?_)
 rotate_left
 ·obtain ⟨o7,rfl,S⟩:=hI
  have h:=g9
  try dsimp only at h
  obtain rfl:=tS h
  exact wp_ret (sRet (.bool o7) S (rsl1 y (rvT (t:=2) (v:=.bool o7) S y)) ⟨(),y,S.mem.sel [] [] (by decide) y y⟩)
 refine sRegion (sLoadN (p:=b6) (off:=0) (T:=24) (vs:=[iv p0.W,iv p0.H,.slice a4 p0.Bits.length a5]) 0 [iv p0.W,iv p0.H,.slice a4 p0.Bits.length a5] S (wN y) y y y y y y y (lb y) fun a S=>?_)
 obtain ⟨a7,a8,h⟩:=bS h
 have S1:=S.mem
 refine sCq [.agg #[iv p0.W,iv p0.H,.slice a4 p0.Bits.length a5]] (.bool a7) S callee9 (S1.quiet [1] y) (fun E1 w1 S1=>c_raddleref01_Great E1 w1 p0 (.agg #[iv p0.W,iv p0.H,.slice a4 p0.Bits.length a5]) a7 a8 S1) fun a w S=>?_
 refine sNot (b:=a7) S (wN y) y y y (lb y) fun a S=>sM S fun a S=>?_
 rcases iS h with ⟨a0,h⟩ | ⟨a0,h⟩
 rotate_left
 ·refine sSkN 3 3 true 6 S y y a0 y fun a S=>sPickF (.bool false) S (wN y) y y a0 y y (lb y) fun a S=>sM S fun a S=>?_
  refine sSkN 3 8 true 11 S y y y y fun a S=>sPickF (.bool false) S (wN y) y y y y y (lb y) fun a S=>sM S fun a S=>?_
  refine sSkN 3 13 true 16 S y y y y fun a S=>sPickF (.bool false) S (wN y) y y y y y (lb y) fun a S=>sN S fun a S=>?_
  exact lT (⟨false,Option.some.inj h,S.fix [] [] (by decide) y y y⟩)
 refine sLoadN (p:=b6) (off:=0) (T:=24) (vs:=[iv p0.W,iv p0.H,.slice a4 p0.Bits.length a5]) 0 [iv p0.W,iv p0.H,.slice a4 p0.Bits.length a5] S (wG 3 true 6 y y y a0) y y y y y y y (lb y) fun a S=>?_
 obtain ⟨a6,a9,h⟩:=bS h
 have S1:=S.mem
 refine sCallQ (X:=Unit) (f:=37) (vs:=[.agg #[iv p0.W,iv p0.H,.slice a4 p0.Bits.length a5]]) (val:=fun _=>iv a6) S (wG 3 true 6 y y y a0) y callee37 y (S1.quiet [1] y) (fun E1 w1 S1=>c_raddleref01_Check E1 w1 p0 (.agg #[iv p0.W,iv p0.H,.slice a4 p0.Bits.length a5]) a6 a9 S1) y (lb y) fun _ a w S=>?_
 refine sBin _ S (wG 3 true 6 y y y a0) y y y (bEq _ _ _ _ .i64 a6 0) y (lb y) fun a S=>sPickT (.bool (a6 == 0)) S (wN y) y y a0 y y (lb y) fun a S=>sM S fun a S=>?_
 rcases iS h with ⟨a2,h⟩ | ⟨a2,h⟩
 rotate_left
 ·refine sSkN 3 8 true 11 S y y a2 y fun a S=>sPickF (.bool false) S (wN y) y y a2 y y (lb y) fun a S=>sM S fun a S=>?_
  refine sSkN 3 13 true 16 S y y y y fun a S=>sPickF (.bool false) S (wN y) y y y y y (lb y) fun a S=>sN S fun a S=>?_
  exact lT (⟨false,Option.some.inj h,S.fix [] [] (by decide) y y y⟩)
 refine sField (b:=b6) (off:=0) 0 0 S (wG 8 true 11 y y y a2) y y y y y (lb y) fun a S=>sLoad1 0 (iv p0.W) S (wG 8 true 11 y y y a2) y y y y y y (lb y) fun a S=>sBin _ S (wG 8 true 11 y y y a2) y y y (bLe _ _ _ _ .i64 p0.W 6) y (lb y) fun a S=>sPickT (.bool (decide (p0.W ≤ 6))) S (wN y) y y a2 y y (lb y) fun a S=>sM S fun a S=>?_
 rcases iS h with ⟨a3,h⟩ | ⟨a3,h⟩
 rotate_left
 ·refine sSkN 3 13 true 16 S y y a3 y fun a S=>sPickF (.bool false) S (wN y) y y a3 y y (lb y) fun a S=>sN S fun a S=>?_
  exact lT (⟨false,Option.some.inj h,S.fix [] [] (by decide) y y y⟩)
 refine sField (b:=b6) (off:=0) 1 1 S (wG 13 true 16 y y y a3) y y y y y (lb y) fun a S=>sLoad1 0 (iv p0.H) S (wG 13 true 16 y y y a3) y y y y y y (lb y) fun a S=>sBin _ S (wG 13 true 16 y y y a3) y y y (bLe _ _ _ _ .i64 p0.H 20) y (lb y) fun a S=>sPickT (.bool (decide (p0.H ≤ 20))) S (wN y) y y a3 y y (lb y) fun a S=>sN S fun a S=>?_
 exact lT (⟨decide (p0.H ≤ 20),Option.some.inj h,S.fix [] [] (by decide) y y y⟩)
noncomputable def raddleref17_Apart_l1 (p0:api_Grid) (p1:api_Grid):(Int × Int)→Option ((Int × Int) ⊕ Int):=fun s0=>match s0 with
 | (a2,a0)=>
  if decide (a0 < (p0.Bits.length:Int)) then
   Option.bind (α:=Int) (
    (idxO p0.Bits a0).bind fun a3=>
    (idxO p1.Bits a0).bind fun a4=>
    if a3 != a4 then
     some (w64 (a2 + 1))
    else
     some a2) fun a5=>
   some (.inl (a5,w64 (a0 + 1)))
  else
   some (.inr a2)
noncomputable def F_raddleref17_Apart (p0:api_Grid) (p1:api_Grid):Option Int:=
 Option.bind (α:=Int) (
  (whileO (raddleref17_Apart_l1 p0 p1) (0,0)).bind fun a0=>
   some a0) fun a2=>
 some a2
noncomputable def F_raddleref01_At (p0:api_Grid) (p1:Int) (p2:Int):Option Bool:=
 (idxO p0.Bits (w64 ((w64 (p2 * p0.W)) + p1))).bind fun x8=>
 some x8
theorem c_raddleref01_At (E:Nat→Prop) (w0:World) (p0:api_Grid) (v0:Value) (p1:Int) (p2:Int) (r:Bool) (h:F_raddleref01_At p0 p1 p2=some r) (S:St0 E [] w0 w0 [] [fRep r_api_Grid (v0) p0]) :
 Calls Try.prog 22 #[v0,iv p1,iv p2] w0 (Ret (X:=Unit) E [] w0 (fun _=>.bool r) (fun _=>[]) (fun _=>[])):=by
 unfold F_raddleref01_At at h
 obtain ⟨u1,rfl,a4⟩:=S.know (i:=0) (e:=fRep r_api_Grid (v0) p0) y
 have S:=S.learn (fRep (rL rB) u1 p0.Bits) a4
 obtain ⟨a0,a2,_,rfl,_⟩:=a4
 refine sEnter (args:=[.agg #[iv p0.W,iv p0.H,.slice a0 p0.Bits.length a2],iv p1,iv p2]) 17 Try.func22 y y (by simp) S (fun a S=>?_)
 refine sSeq (fun K5 a7=>sRegion (sBox (v:=.agg #[iv p0.W,iv p0.H,.slice a0 p0.Bits.length a2]) S (wN y) y y [iv p0.W,iv p0.H,.slice a0 p0.Bits.length a2] y y (lb y) fun a b6 w S=>sN S fun a S=>?_))
 refine lT (a7 _ _ (sSeq (fun K7 a8=>sRegion (sField (b:=b6) (off:=0) 2 2 S (wN y) y y y y y (lb y) fun a S=>sLoad1 0 (.slice a0 p0.Bits.length a2) S (wN y) y y y y y y (lb y) fun a S=>sM S fun a S=>?_))))
 refine sField (b:=b6) (off:=0) 0 0 S (wN y) y y y y y (lb y) fun a S=>sLoad1 0 (iv p0.W) S (wN y) y y y y y y (lb y) fun a S=>sBin _ S (wN y) y y y (bMul _ _ _ _ p2 p0.W) y (lb y) fun a S=>sM S fun a S=>?_
 refine sBin _ S (wN y) y y y (bAdd _ _ _ _ (w64 (p2 * p0.W)) p1) y (lb y) fun a S=>?_
 obtain ⟨x8,a9,h⟩:=bS h
 obtain ⟨a5,a3,S⟩:=pIdx (P:=Try.prog) (r:=rB) (v:=.slice a0 p0.Bits.length a2) (xs:=p0.Bits) (j:=w64 ((w64 (p2 * p0.W)) + p1)) 22 4 0 S Try.underlying22 y y a9
 refine sIdxV S (wN y) y y y a3 y (lb y) fun a S=>?_
 obtain ⟨a6,S⟩:=pLoad (r:=rB) (q:=a5) (x:=x8) 0 S y
 obtain rfl:a6=.bool x8:=S.mem.know (i:=1) (e:=fRep rB (a6) x8) y
 refine sLoadV1 (vq:=a5) 0 (.bool x8) S (wN y) y y y y y (lb y) fun a S=>sN S fun a S=>?_
 refine lT (a8 _ _ ?_)
 obtain rfl:=tS h
 exact wp_ret (sRet (.bool x8) S (rsl1 y (rvT (t:=6) (v:=.bool x8) S y)) ⟨(),y,S.mem.sel [] [] (by decide) y y⟩)
def anc_raddleref17_Kinds_0:List (List Nat):=[[],[0],[0,1],[0,1],[0,1],[0,1,2,3,4],[0,1],[0,1],[0,1],[0,1,2,3,4,5,6,7,8],[0,1,2,3,4,5,6,7,8,9],[0,1,2,3,4,5,6,7,8,9,10],[0,1,2,3,4,5,6,7,8,9,10,11]]
noncomputable def raddleref17_Kinds_l1 (p0:api_Grid) (a3:Int) (a4:Int):(Bool × Int)→Option ((Bool × Int) ⊕ Bool):=fun s0=>match s0 with
 | (a2,a0)=>
  if decide (a0 < p0.H) then
   Option.bind (α:=Bool) (
    if a2 then
     (F_raddleref01_At p0 a3 a0).bind fun a5=>
     (F_raddleref01_At p0 a4 a0).bind fun a6=>
     some (a5 == a6)
    else
     some false) fun a7=>
   some (.inl (a7,w64 (a0 + 1)))
  else
   some (.inr a2)
noncomputable def raddleref17_Kinds_l2 (a2:Int) (p0:api_Grid):(Bool × Int)→Option ((Bool × Int) ⊕ Bool):=fun s0=>match s0 with
 | (a3,a0)=>
  if decide (a0 < a2) then
   Option.bind (α:=Bool) (
    Option.bind (α:=Bool) (
     (whileO (raddleref17_Kinds_l1 p0 a2 a0) (true,0)).bind fun a4=>
      some a4) fun a5=>
    if a3 then
     some true
    else
     some a5) fun a6=>
   some (.inl (a6,w64 (a0 + 1)))
  else
   some (.inr a3)
noncomputable def raddleref17_Kinds_l3 (p0:api_Grid):(Int × Int)→Option ((Int × Int) ⊕ Int):=fun s0=>match s0 with
 | (a0,a2)=>
  if decide (a2 < p0.W) then
   Option.bind (α:=Int) (
    Option.bind (α:=Bool) (
     (whileO (raddleref17_Kinds_l2 a2 p0) (false,0)).bind fun a3=>
      some a3) fun a4=>
    if !a4 then
     some (w64 (a0 + 1))
    else
     some a0) fun a5=>
   some (.inl (a5,w64 (a2 + 1)))
  else
   some (.inr a0)
noncomputable def F_raddleref17_Kinds (p0:api_Grid):Option Int:=
 Option.bind (α:=Int) (
  (whileO (raddleref17_Kinds_l3 p0) (0,0)).bind fun a0=>
   some a0) fun o8=>
 some o8
theorem c_raddleref17_Kinds (E:Nat→Prop) (w0:World) (p0:api_Grid) (v0:Value) (r:Int) (h:F_raddleref17_Kinds p0=some r) (S:St0 E [] w0 w0 [] [fRep r_api_Grid (v0) p0]) :
 Calls Try.prog 30 #[v0] w0 (Ret (X:=Unit) E [] w0 (fun _=>.int .i64 r) (fun _=>[]) (fun _=>[])):=by
 unfold F_raddleref17_Kinds at h
 obtain ⟨u1,rfl,aM⟩:=S.know (i:=0) (e:=fRep r_api_Grid (v0) p0) y
 have S:=S.learn (fRep (rL rB) u1 p0.Bits) aM
 obtain ⟨a2,a3,_,rfl,_⟩:=aM
 refine sEnter (args:=[.agg #[iv p0.W,iv p0.H,.slice a2 p0.Bits.length a3]]) 47 Try.func30 y y (by simp) S (fun a S=>?_)
 refine sSeq (fun K5 aO=>sRegion (sBox (v:=.agg #[iv p0.W,iv p0.H,.slice a2 p0.Bits.length a3]) S (wN y) y y [iv p0.W,iv p0.H,.slice a2 p0.Bits.length a3] y y (lb y) fun a b6 w S=>sN S fun a S=>?_))
 refine lT (aO _ _ (sSeq (fun K7 aP=>sRegion (sN S fun a S=>?_))))
 refine lT (aP _ _ ?_)
 obtain ⟨t9,h,aQ⟩:=bS h
 refine sCut (fun a w=>∃ o8,o8=t9∧St [] E [] w0 47 a w [(3,iv o8)] [] []) ?_ (fun a w hI=>?_)
 rotate_left
 ·obtain ⟨o8,rfl,S⟩:=hI
  have h:=aQ
  try dsimp only at h
  refine sSeq (fun bb ao=>sRegion (sM S fun a S=>?_))
  refine sN S fun a S=>?_
  refine lT (ao _ _ ?_)
  obtain rfl:=tS h
  exact wp_ret (sRet (iv o8) S (rsl1 y (rvT (t:=2) (v:=iv o8) S y)) ⟨(),y,S.mem.sel [] [] (by decide) y y⟩)
 refine sSeq (fun bc ap=>sRegion (sN S fun a S=>?_))
 refine lT (ap _ _ (wp_block ?_))
 obtain ⟨bf,hl,aR⟩:=bS h
 refine sLoop hl (fun s0 a w=>match s0 with | (a7,a4)=>St [] E [] w0 47 a w [(1,.pointer (some ⟨b6,0,none⟩)),(3,iv a7),(4,iv a4)] [eBox b6 24 [iv p0.W,iv p0.H,.slice a2 p0.Bits.length a3]] [fRep (rL rB) (.slice a2 p0.Bits.length a3) p0.Bits]) (S.fix [0] [0] (by decide) y y y) ?_
 clear hl h
 intro s0 a w c0 hI h aq
 obtain ⟨a7,a4⟩:=s0
 unfold raddleref17_Kinds_l3 at h
 dsimp only at h hI
 have S:=hI
 refine sSeq (fun bg ar=>sSeq (fun bh au=>sRegion (sM S fun a S=>?_)))
 refine sField (b:=b6) (off:=0) 0 0 S (wN y) y y y y y (lb y) fun a S=>sLoad1 0 (iv p0.W) S (wN y) y y y y y y (lb y) fun a S=>sBin _ S (wN y) y y y (bLt _ _ _ _ .i64 a4 p0.W) y (lb y) fun a S=>lT (au _ _ ?_)
 rcases iS h with ⟨ac,h⟩ | ⟨ac,h⟩
 rotate_left
 ·refine sCondF S y ac ?_
  obtain rfl:=tS h
  obtain rfl:=aq _ y
  have h:=aR
  try dsimp only at h
  exact wp_exit (xThen (xThen (xHit (leafT (⟨a7,Option.some.inj h,S.fix [] [] (by decide) y y y⟩)))))
 refine sCondT S y ac (wp_skip (leafT (ar _ _ ?_)))
 obtain ⟨aS,h,aT⟩:=bS h
 refine sCut (fun a w=>∃ aj,aj=aS∧St [] E [] w0 47 a w [(1,.pointer (some ⟨b6,0,none⟩)),(3,iv aj),(4,iv a4)] [eBox b6 24 [iv p0.W,iv p0.H,.slice a2 p0.Bits.length a3]] [fRep (rL rB) (.slice a2 p0.Bits.length a3) p0.Bits]) ?_ (fun a w hI=>?_)
 rotate_left
 ·obtain ⟨aj,rfl,S⟩:=hI
  have h:=aT
  try dsimp only at h
  refine sRegion (sM S fun a S=>?_)
  refine sBin _ S (wN y) y y y (bAdd _ _ _ _ a4 1) y (lb y) fun a S=>sN S fun a S=>?_
  exact lT (⟨(aj,w64 (a4 + 1)),(Option.some.inj h).symm,(S.fix [0] [0] (by decide) y y y)⟩)
 refine wp_block ?_
 refine sSeq (fun bi av=>sRegion (sN S fun a S=>?_))
 refine lT (av _ _ ?_)
 obtain ⟨aU,h,aV⟩:=bS h
 refine sCut (fun a w=>∃ ak,ak=aU∧St [] E [] w0 47 a w [(1,.pointer (some ⟨b6,0,none⟩)),(3,iv a7),(4,iv a4),(5,.bool ak)] [eBox b6 24 [iv p0.W,iv p0.H,.slice a2 p0.Bits.length a3]] [fRep (rL rB) (.slice a2 p0.Bits.length a3) p0.Bits]) ?_ (fun a w hI=>?_)
 rotate_left
 ·obtain ⟨ak,rfl,S⟩:=hI
  have h:=aV
  try dsimp only at h
  refine sSeq (fun bj aw=>sRegion (sM S fun a S=>?_))
  refine sNot (b:=ak) S (wN y) y y y (lb y) fun a S=>lT (aw _ _ ?_)
  rcases iS h with ⟨ae,h⟩ | ⟨ae,h⟩
  rotate_left
  ·refine sCondF S y ae ?_
   exact wp_skip (leafB (leafT (⟨a7,Option.some.inj h,S.fix [0] [0] (by decide) y y y⟩)))
  refine sCondT S y ae (sRegion (sM S fun a S=>?_))
  refine sBin _ S (wN y) y y y (bAdd _ _ _ _ a7 1) y (lb y) fun a S=>sN S fun a S=>?_
  exact leafL (leafB (leafT (⟨w64 (a7 + 1),Option.some.inj h,S.fix [0] [0] (by decide) y y y⟩)))
 refine sSeq (fun bk ax=>sRegion (sN S fun a S=>?_))
 refine lT (ax _ _ (wp_block ?_))
 obtain ⟨bl,hl,aW⟩:=bS h
 refine sLoop hl (fun s0 a w=>match s0 with | (ab,a6)=>St [] E [] w0 47 a w [(1,.pointer (some ⟨b6,0,none⟩)),(3,iv a7),(4,iv a4),(5,.bool ab),(6,iv a6)] [eBox b6 24 [iv p0.W,iv p0.H,.slice a2 p0.Bits.length a3]] [fRep (rL rB) (.slice a2 p0.Bits.length a3) p0.Bits]) (S.fix [0] [0] (by decide) y y y) ?_
 clear hl h
 intro s0 a w c0 hI h ay
 obtain ⟨ab,a6⟩:=s0
 unfold raddleref17_Kinds_l2 at h
 dsimp only at h hI
 have S:=hI
 refine sSeq (fun bm az=>sSeq (fun bn aA=>sRegion (sM S fun a S=>?_)))
 refine sM S fun a S=>?_
 refine sBin _ S (wN y) y y y (bLt _ _ _ _ .i64 a6 a4) y (lb y) fun a S=>lT (aA _ _ ?_)
 rcases iS h with ⟨af,h⟩ | ⟨af,h⟩
 rotate_left
 ·refine sCondF S y af ?_
  obtain rfl:=tS h
  obtain rfl:=ay _ y
  have h:=aW
  try dsimp only at h
  exact wp_exit (xThen (xThen (xHit (leafT (⟨ab,Option.some.inj h,S.fix [0] [0] (by decide) y y y⟩)))))
 refine sCondT S y af (wp_skip (leafT (az _ _ ?_)))
 obtain ⟨aX,h,aZ⟩:=bS h
 refine sCut (fun a w=>∃ al,al=aX∧St [] E [] w0 47 a w [(1,.pointer (some ⟨b6,0,none⟩)),(3,iv a7),(4,iv a4),(5,.bool al),(6,iv a6)] [eBox b6 24 [iv p0.W,iv p0.H,.slice a2 p0.Bits.length a3]] [fRep (rL rB) (.slice a2 p0.Bits.length a3) p0.Bits]) ?_ (fun a w hI=>?_)
 rotate_left
 ·obtain ⟨al,rfl,S⟩:=hI
  have h:=aZ
  try dsimp only at h
  refine sRegion (sM S fun a S=>?_)
  refine sBin _ S (wN y) y y y (bAdd _ _ _ _ a6 1) y (lb y) fun a S=>sN S fun a S=>?_
  exact lT (⟨(al,w64 (a6 + 1)),(Option.some.inj h).symm,(S.fix [0] [0] (by decide) y y y)⟩)
 refine wp_block ?_
 refine sSeq (fun bo aC=>sRegion (sN S fun a S=>?_))
 refine lT (aC _ _ ?_)
 obtain ⟨b1,h,b3⟩:=bS h
 refine sCut (fun a w=>∃ ai,ai=b1∧St [] E [] w0 47 a w [(1,.pointer (some ⟨b6,0,none⟩)),(3,iv a7),(4,iv a4),(5,.bool ab),(6,iv a6),(7,.bool ai)] [eBox b6 24 [iv p0.W,iv p0.H,.slice a2 p0.Bits.length a3]] [fRep (rL rB) (.slice a2 p0.Bits.length a3) p0.Bits]) ?_ (fun a w hI=>?_)
 rotate_left
 ·obtain ⟨ai,rfl,S⟩:=hI
  have h:=b3
  try dsimp only at h
  refine sRegion (sM S fun a S=>?_)
  refine sM S fun a S=>?_
  rcases iS h with ⟨aa,h⟩ | ⟨aa,h⟩
  ·refine sSk S y y y aa y y fun a S=>sPickT (.bool true) S (wN y) y y aa y y (lb y) fun a S=>sN S fun a S=>?_
   exact leafL (leafB (leafT (⟨true,Option.some.inj h,S.fix [0] [0] (by decide) y y y⟩)))
  refine sMove (.bool ai) S (wG 1 false 39 y y y aa) (.inl y) y y (lb y) fun a S=>sPickF (.bool ai) S (wN y) y y aa y y (lb y) fun a S=>sN S fun a S=>?_
  exact leafL (leafB (leafT (⟨ai,Option.some.inj h,S.fix [0] [0] (by decide) y y y⟩)))
 refine sSeq (fun bp aG=>sRegion (sN S fun a S=>?_))
 refine lT (aG _ _ (wp_block ?_))
 obtain ⟨bq,hl,b4⟩:=bS h
 refine sLoop hl (fun s0 a w=>match s0 with | (ag,a5)=>St [] E [] w0 47 a w [(1,.pointer (some ⟨b6,0,none⟩)),(3,iv a7),(4,iv a4),(5,.bool ab),(6,iv a6),(7,.bool ag),(8,iv a5)] [eBox b6 24 [iv p0.W,iv p0.H,.slice a2 p0.Bits.length a3]] [fRep (rL rB) (.slice a2 p0.Bits.length a3) p0.Bits]) (S.fix [0] [0] (by decide) y y y) ?_
 clear hl h
 intro s0 a w c0 hI h aH
 obtain ⟨ag,a5⟩:=s0
 unfold raddleref17_Kinds_l1 at h
 dsimp only at h hI
 have S:=hI
 refine sSeq (fun br aI=>sSeq (fun bt aJ=>sRegion (sM S fun a S=>?_)))
 refine sField (b:=b6) (off:=0) 1 1 S (wN y) y y y y y (lb y) fun a S=>sLoad1 0 (iv p0.H) S (wN y) y y y y y y (lb y) fun a S=>sBin _ S (wN y) y y y (bLt _ _ _ _ .i64 a5 p0.H) y (lb y) fun a S=>lT (aJ _ _ ?_)
 rcases iS h with ⟨ah,h⟩ | ⟨ah,h⟩
 rotate_left
 ·refine sCondF S y ah ?_
  obtain rfl:=tS h
  obtain rfl:=aH _ y
  have h:=b4
  try dsimp only at h
  exact wp_exit (xThen (xThen (xHit (leafT (⟨ag,Option.some.inj h,S.fix [0] [0] (by decide) y y y⟩)))))
 refine sCondT S y ah (wp_skip (leafT (aI _ _ ?_)))
 obtain ⟨b5,h,ba⟩:=bS h
 refine sCut (fun a w=>∃ am,am=b5∧St [] E [] w0 47 a w [(1,.pointer (some ⟨b6,0,none⟩)),(3,iv a7),(4,iv a4),(5,.bool ab),(6,iv a6),(7,.bool am),(8,iv a5)] [eBox b6 24 [iv p0.W,iv p0.H,.slice a2 p0.Bits.length a3]] [fRep (rL rB) (.slice a2 p0.Bits.length a3) p0.Bits]) ?_ (fun a w hI=>?_)
 rotate_left
 ·obtain ⟨am,rfl,S⟩:=hI
  have h:=ba
  try dsimp only at h
  refine sRegion (sM S fun a S=>?_)
  refine sBin _ S (wN y) y y y (bAdd _ _ _ _ a5 1) y (lb y) fun a S=>sN S fun a S=>?_
  exact lT (⟨(am,w64 (a5 + 1)),(Option.some.inj h).symm,(S.fix [0] [0] (by decide) y y y)⟩)
 refine wp_block ?_
 rcases iS h with ⟨a0,h⟩ | ⟨a0,h⟩
 rotate_left
 ·refine sDraw (nf:=[]) (W:=[(0,26,.bool ag),(1,27,.bool ag),(2,28,undef),(3,29,undef),(4,30,undef),(5,31,undef),(6,32,undef),(7,33,undef),(8,34,undef),(9,35,undef),(10,36,undef),(11,37,.bool false),(12,7,.bool false)]) y S ?_
  refine node_by (A:=anc_raddleref17_Kinds_0) 13 (by kernel_rfl) (by kernel_rfl) (by kernel_rfl) (by kernel_rfl) (by kernel_rfl) [0,1,2,3,4,5,6,7,8,9,10,11,12] (by kernel_rfl) (by decide) (by decide) (fF ?_ (fF ?_ (fF ?_ (fF ?_ (fF ?_ (fF ?_ (fF ?_ (fF ?_ (fF ?_ (fF ?_ (fF ?_ (fF ?_ (fF ?_ (trivial)))))))))))))) [(1,.pointer (some ⟨b6,0,none⟩)),(3,iv a7),(4,iv a4),(5,.bool ab),(6,iv a6),(7,.bool false),(8,iv a5),(28,undef),(29,undef),(30,undef),(31,undef),(32,undef),(33,undef),(34,undef),(35,undef),(36,undef)] (fin_of [none,none,none,none,none,some 12,none,some 2,some 3,some 4,some 5,some 6,some 7,some 8,some 9,some 10] y (by kernel_rfl) (by kernel_rfl)) (fun _ a w S=>?_)
  ·exact fM 0 none y y y y (.inl y) y y y
  ·exact fM 1 (some 0) y y y y (.inl y) y y y
  ·refine fJ [(1,_),(27,_)] 2 [none,some 1] fun G a w S=>?_
   exact sSk S y y y a0 y y fun a S=>leafL ⟨y,S⟩
  ·refine fJ [(4,_),(27,_)] 3 [none,some 1] fun G a w S=>?_
   exact sSk S y y y a0 y y fun a S=>leafL ⟨y,S⟩
  ·refine fJ [(8,_),(27,_)] 4 [none,some 1] fun G a w S=>?_
   exact sSk S y y y a0 y y fun a S=>leafL ⟨y,S⟩
  ·refine fJ [(28,_),(29,_),(30,_),(27,_)] 5 [some 2,some 3,some 4,some 1] fun G a w S=>?_
   exact sSk S y y y a0 y y fun a S=>leafL ⟨y,S⟩
  ·refine fJ [(1,_),(27,_)] 6 [none,some 1] fun G a w S=>?_
   exact sSk S y y y a0 y y fun a S=>leafL ⟨y,S⟩
  ·refine fJ [(6,_),(27,_)] 7 [none,some 1] fun G a w S=>?_
   exact sSk S y y y a0 y y fun a S=>leafL ⟨y,S⟩
  ·refine fJ [(8,_),(27,_)] 8 [none,some 1] fun G a w S=>?_
   exact sSk S y y y a0 y y fun a S=>leafL ⟨y,S⟩
  ·refine fJ [(32,_),(33,_),(34,_),(27,_)] 9 [some 6,some 7,some 8,some 1] fun G a w S=>?_
   exact sSk S y y y a0 y y fun a S=>leafL ⟨y,S⟩
  ·refine fJ [(31,_),(35,_),(27,_)] 10 [some 5,some 9,some 1] fun G a w S=>?_
   exact sSk S y y y a0 y y fun a S=>leafL ⟨y,S⟩
  ·refine fJ [(27,_),(36,_)] 11 [some 1,some 10] fun G a w S=>?_
   exact sPickF (.bool false) S (wN y) y y a0 y y (lb y) fun a S=>leafL ⟨y,S⟩
  ·exact fM 12 (some 11) y y y y (.inr y) y y y
  exact leafB (leafT (⟨false,Option.some.inj h,S.fix [0] [0] (by decide) y y y⟩))
 obtain ⟨a8,aK,h⟩:=bS h
 obtain ⟨a9,aL,h⟩:=bS h
 refine sDraw (nf:=[]) (W:=[(0,26,.bool ag),(1,27,.bool ag),(2,28,.agg #[iv p0.W,iv p0.H,.slice a2 p0.Bits.length a3]),(3,29,iv a4),(4,30,iv a5),(5,31,.bool a8),(6,32,.agg #[iv p0.W,iv p0.H,.slice a2 p0.Bits.length a3]),(7,33,iv a6),(8,34,iv a5),(9,35,.bool a9),(10,36,.bool (a8 == a9)),(11,37,.bool (a8 == a9)),(12,7,.bool (a8 == a9))]) y S ?_
 refine node_by (A:=anc_raddleref17_Kinds_0) 13 (by kernel_rfl) (by kernel_rfl) (by kernel_rfl) (by kernel_rfl) (by kernel_rfl) [0,1,2,3,4,5,6,7,8,9,10,11,12] (by kernel_rfl) (by decide) (by decide) (fF ?_ (fF ?_ (fF ?_ (fF ?_ (fF ?_ (fF ?_ (fF ?_ (fF ?_ (fF ?_ (fF ?_ (fF ?_ (fF ?_ (fF ?_ (trivial)))))))))))))) [(1,.pointer (some ⟨b6,0,none⟩)),(3,iv a7),(4,iv a4),(5,.bool ab),(6,iv a6),(7,.bool (a8 == a9)),(8,iv a5),(28,.agg #[iv p0.W,iv p0.H,.slice a2 p0.Bits.length a3]),(29,iv a4),(30,iv a5),(31,.bool a8),(32,.agg #[iv p0.W,iv p0.H,.slice a2 p0.Bits.length a3]),(33,iv a6),(34,iv a5),(35,.bool a9),(36,.bool (a8 == a9))] (fin_of [none,none,none,none,none,some 12,none,some 2,some 3,some 4,some 5,some 6,some 7,some 8,some 9,some 10] y (by kernel_rfl) (by kernel_rfl)) (fun _ a w S=>?_)
 ·exact fM 0 none y y y y (.inl y) y y y
 ·exact fM 1 (some 0) y y y y (.inl y) y y y
 ·refine fJ [(1,_),(27,_)] 2 [none,some 1] fun G a w S=>?_
  exact sLoadN (p:=b6) (off:=0) (T:=24) (vs:=[iv p0.W,iv p0.H,.slice a2 p0.Bits.length a3]) 0 [iv p0.W,iv p0.H,.slice a2 p0.Bits.length a3] S (wG 1 true 27 y y y a0) y y y y y y y (lb y) fun a S=>leafL ⟨y,S⟩
 ·refine fJ [(4,_),(27,_)] 3 [none,some 1] fun G a w S=>?_
  exact sMove (iv a4) S (wG 1 true 27 y y y a0) (.inl y) y y (lb y) fun a S=>leafL ⟨y,S⟩
 ·refine fJ [(8,_),(27,_)] 4 [none,some 1] fun G a w S=>?_
  exact sMove (iv a5) S (wG 1 true 27 y y y a0) (.inl y) y y (lb y) fun a S=>leafL ⟨y,S⟩
 ·refine fJ [(28,_),(29,_),(30,_),(27,_)] 5 [some 2,some 3,some 4,some 1] fun G a w S=>?_
  have S1:=S.mem
  have S1:=S1.learn (fRep r_api_Grid (.agg #[iv p0.W,iv p0.H,.slice a2 p0.Bits.length a3]) p0) ⟨_,y,S1.know (i:=0) (e:=fRep (rL rB) (.slice a2 p0.Bits.length a3) p0.Bits) y⟩
  refine sCallQ (X:=Unit) (f:=22) (vs:=[.agg #[iv p0.W,iv p0.H,.slice a2 p0.Bits.length a3],iv a4,iv a5]) (val:=fun _=>.bool a8) S (wG 1 true 27 y y y a0) y callee22 y (S1.quiet [0] y) (fun E1 w1 S1=>c_raddleref01_At E1 w1 p0 (.agg #[iv p0.W,iv p0.H,.slice a2 p0.Bits.length a3]) a4 a5 a8 aK S1) y (lb y) fun _ a w S=>?_
  exact leafL ⟨y,S⟩
 ·refine fJ [(1,_),(27,_)] 6 [none,some 1] fun G a w S=>?_
  exact sLoadN (p:=b6) (off:=0) (T:=24) (vs:=[iv p0.W,iv p0.H,.slice a2 p0.Bits.length a3]) 0 [iv p0.W,iv p0.H,.slice a2 p0.Bits.length a3] S (wG 1 true 27 y y y a0) y y y y y y y (lb y) fun a S=>leafL ⟨y,S⟩
 ·refine fJ [(6,_),(27,_)] 7 [none,some 1] fun G a w S=>?_
  exact sMove (iv a6) S (wG 1 true 27 y y y a0) (.inl y) y y (lb y) fun a S=>leafL ⟨y,S⟩
 ·refine fJ [(8,_),(27,_)] 8 [none,some 1] fun G a w S=>?_
  exact sMove (iv a5) S (wG 1 true 27 y y y a0) (.inl y) y y (lb y) fun a S=>leafL ⟨y,S⟩
 ·refine fJ [(32,_),(33,_),(34,_),(27,_)] 9 [some 6,some 7,some 8,some 1] fun G a w S=>?_
  have S1:=S.mem
  have S1:=S1.learn (fRep r_api_Grid (.agg #[iv p0.W,iv p0.H,.slice a2 p0.Bits.length a3]) p0) ⟨_,y,S1.know (i:=0) (e:=fRep (rL rB) (.slice a2 p0.Bits.length a3) p0.Bits) y⟩
  refine sCallQ (X:=Unit) (f:=22) (vs:=[.agg #[iv p0.W,iv p0.H,.slice a2 p0.Bits.length a3],iv a6,iv a5]) (val:=fun _=>.bool a9) S (wG 1 true 27 y y y a0) y callee22 y (S1.quiet [0] y) (fun E1 w1 S1=>c_raddleref01_At E1 w1 p0 (.agg #[iv p0.W,iv p0.H,.slice a2 p0.Bits.length a3]) a6 a5 a9 aL S1) y (lb y) fun _ a w S=>?_
  exact leafL ⟨y,S⟩
 ·refine fJ [(31,_),(35,_),(27,_)] 10 [some 5,some 9,some 1] fun G a w S=>?_
  exact sBin _ S (wG 1 true 27 y y y a0) y y y (bEqB _ _ _ _ Try.underlying4 a8 a9) y (lb y) fun a S=>leafL ⟨y,S⟩
 ·refine fJ [(27,_),(36,_)] 11 [some 1,some 10] fun G a w S=>?_
  exact sPickT (.bool (a8 == a9)) S (wN y) y y a0 y y (lb y) fun a S=>leafL ⟨y,S⟩
 ·exact fM 12 (some 11) y y y y (.inr y) y y y
 exact leafB (leafT (⟨a8 == a9,Option.some.inj h,S.fix [0] [0] (by decide) y y y⟩))
noncomputable def F_raddleref17_Few (p0:api_Grid):Option Int:=
 (F_raddleref01_Check p0).bind fun r9=>
 if r9 != 0 then
  some r9
 else
  if decide (8 < p0.W) then
   some 4
  else
   some 0
noncomputable def F_raddleref01_Zero_s0 (p0:Int) (p1:Int):Option api_Grid:=
 (makeO (w64 (p0 * p1)) false).bind fun m6=>
 some (api_Grid.mk p0 p1 m6)
noncomputable def F_raddleref01_Set_s0 (p0:Int) (p1:Int) (p2:(List Bool)) (p3:Int) (p4:Int) (p5:Bool):Option (List Bool):=
 (idxO p2 (w64 ((w64 (p4 * p0)) + p3))).bind fun x3=>
 (setO p2 (w64 ((w64 (p4 * p0)) + p3)) p5).bind fun l8=>
 (keepO p2 l8).bind fun _=>
 some l8
noncomputable def raddleref17_changed_s1_l1 (p0:api_Grid) (p1:(List Int)) (a4:Int) (a5:Int):(Int × Int × Int)→Option ((Int × Int × Int) ⊕ (Int × Int)):=fun s0=>match s0 with
 | (a2,a3,a0)=>
  if decide (a0 < p0.W) then
   Option.bind (α:=(Int × Int)) (
    Option.bind (α:=Bool) (
     (idxO p1 a0).bind fun a6=>
     (idxO p1 a4).bind fun a7=>
     if a6 == a7 then
      (F_raddleref01_At p0 a0 a5).bind fun a8=>
      some a8
     else
      some false) fun a9=>
    if a9 then
     some (w64 (a2 + 1),a3)
    else
     (idxO p1 a0).bind fun aa=>
     (idxO p1 a4).bind fun ab=>
     if aa == ab then
      some (a2,w64 (a3 + 1))
     else
      some (a2,a3)) fun (ac,ae)=>
   some (.inl (ac,ae,w64 (a0 + 1)))
  else
   some (.inr (a2,a3))
noncomputable def raddleref17_changed_s1_l2 (p0:api_Grid) (p1:(List Int)) (a3:Int) (r9:api_Grid):(Int × List Bool)→Option ((Int × List Bool) ⊕ List Bool):=fun s0=>match s0 with
 | (a0,a4)=>
  if decide (a0 < p0.H) then
   Option.bind (α:=List Bool) (
    Option.bind (α:=(Int × Int)) (
     (whileO (raddleref17_changed_s1_l1 p0 p1 a3 a0) (0,0,0)).bind fun (a5,a6)=>
      some (a5,a6)) fun (a7,a8)=>
    (F_raddleref01_Set_s0 r9.W r9.H a4 a3 a0 (decide (a8 < a7))).bind fun a2=>
    some a2) fun a9=>
   some (.inl (w64 (a0 + 1),a9))
  else
   some (.inr a4)
noncomputable def raddleref17_changed_s1_l3 (p0:api_Grid) (p1:(List Int)) (r9:api_Grid):(Int × List Bool)→Option ((Int × List Bool) ⊕ List Bool):=fun s0=>match s0 with
 | (a0,a2)=>
  if decide (a0 < p0.W) then
   Option.bind (α:=List Bool) (
    (whileO (raddleref17_changed_s1_l2 p0 p1 a0 r9) (0,a2)).bind fun a3=>
     some a3) fun a4=>
   some (.inl (w64 (a0 + 1),a4))
  else
   some (.inr a2)
noncomputable def F_raddleref17_changed_s1 (p0:api_Grid) (p1:(List Int)):Option (api_Grid × (List Int)):=
 (F_raddleref01_Zero_s0 p0.W p0.H).bind fun r9=>
 Option.bind (α:=List Bool) (
  (whileO (raddleref17_changed_s1_l3 p0 p1 r9) (0,r9.Bits)).bind fun a0=>
   some a0) fun a2=>
 some ((api_Grid.mk r9.W r9.H a2),p1)
noncomputable def raddleref17_numbered_l1 (p0:(List Int)):(Int × Int)→Option ((Int × Int) ⊕ (Bool ⊕ Int)):=fun s0=>match s0 with
 | (s9,a0)=>
  if decide (a0 < (p0.length:Int)) then
   Option.bind (α:=Int ⊕ Bool) (
    (idxO p0 a0).bind fun a2=>
    if decide (s9 < a2) then
     some (.inr false)
    else
     if a2 == s9 then
      some (.inl (w64 (s9 + 1)))
     else
      some (.inl s9)) fun z0=>match z0 with
    | .inl a3=>
     some (.inl (a3,w64 (a0 + 1)))
    | .inr z=>
     some (.inr (.inl z))
  else
   some (.inr (.inr s9))
noncomputable def F_raddleref17_numbered (p0:(List Int)) (p1:Int):Option Bool:=
 Option.bind (α:=Int ⊕ Bool) (
  (whileO (raddleref17_numbered_l1 p0) (0,0)).bind fun z0=>match z0 with
   | .inl z=>
    some (.inr z)
   | .inr a0=>
    some (.inl a0)) fun z0=>match z0 with
  | .inl o5=>
   some (decide (o5 ≤ p1))
  | .inr z=>
   some z
noncomputable def raddleref17_next_s0_l1 (p1:Int):(List Int × Int)→Option ((List Int × Int) ⊕ ((Bool × (List Int)) ⊕ (List Int))):=fun s0=>match s0 with
 | (s6,s7)=>
  if decide (0 ≤ s7) then
   (idxO s6 s7).bind fun a2=>
   (setO s6 s7 (w64 (a2 + 1))).bind fun a0=>
   (idxO a0 s7).bind fun a3=>
   if decide (a3 < p1) then
    some (.inr (.inl (true,a0)))
   else
    (setO a0 s7 0).bind fun a4=>
    some (.inl (a4,w64 (s7 - 1)))
  else
   some (.inr (.inr s6))
noncomputable def F_raddleref17_next_s0 (p0:(List Int)) (p1:Int):Option (Bool × (List Int)):=
 Option.bind (α:=List Int ⊕ (Bool × (List Int))) (
  (whileO (raddleref17_next_s0_l1 p1) (p0,w64 ((p0.length:Int) - 1))).bind fun z0=>match z0 with
   | .inl z=>
    some (.inr z)
   | .inr a0=>
    some (.inl a0)) fun z0=>match z0 with
  | .inl o2=>
   (keepO p0 o2).bind fun _=>
   some (false,o2)
  | .inr z=>
   (keepO p0 z.2).bind fun _=>
   some z
noncomputable def raddleref17_best_l1 (p1:Int) (p0:api_Grid):(List Int × List Int × Int)→Option ((List Int × List Int × Int) ⊕ ((List Int) × Int)):=fun s0=>match s0 with
 | (a2,a3,a4)=>
  Option.bind (α:=(List Int × List Int × Int)) (
   (F_raddleref17_numbered a2 p1).bind fun a9=>
   if a9 then
    (F_raddleref17_changed_s1 p0 a2).bind fun a0=>
    (F_raddleref17_Apart a0.1 p0).bind fun a5=>
    Option.bind (α:=Bool) (
     if (a3.length:Int) == 0 then
      some true
     else
      some (decide (a5 < a4))) fun aa=>
    if aa then
     (appO ([]:List Int) a0.2).bind fun ab=>
     some (a0.2,ab,a5)
    else
     some (a0.2,a3,a4)
   else
    some (a2,a3,a4)) fun (ac,a6,a7)=>
  (F_raddleref17_next_s0 ac (if p0.W < p1 then p0.W else p1)).bind fun a8=>
  if !a8.1 then
   some (.inr (a6,a7))
  else
   some (.inl (a8.2,a6,a7))
noncomputable def F_raddleref17_best (p0:api_Grid) (p1:Int):Option ((List Int) × Int):=
 (makeO p0.W (0:Int)).bind fun a0=>
 (whileO (raddleref17_best_l1 p1 p0) (a0,([]:List Int),0)).bind fun z=>
  some z
noncomputable def F_raddleref17_Best (p0:api_Grid) (p1:Int):Option ((List Int) × Int × Int):=
 (F_raddleref17_Few p0).bind fun r9=>
 if r9 != 0 then
  some (([]:(List Int)),0,r9)
 else
  Option.bind (α:=Bool) (
   if decide (p1 < 1) then
    some true
   else
    some (decide (40 < p1))) fun a2=>
  if a2 then
   some (([]:(List Int)),0,2)
  else
   (F_raddleref17_best p0 p1).bind fun a0=>
   some (a0.1,a0.2,0)
noncomputable def reduce_Costs_l1 (p0:api_Grid):(List Int × Int)→Option ((List Int × Int) ⊕ List Int):=fun s0=>match s0 with
 | (a2,a0)=>
  if decide (a0 < p0.W) then
   (F_reduce_Best p0 (w64 (a0 + 1))).bind fun a3=>
   (appO a2 ([a3.2.1]:List Int)).bind fun a4=>
   some (.inl (a4,w64 (a0 + 1)))
  else
   some (.inr a2)
noncomputable def F_reduce_Costs (p0:api_Grid):Option ((List Int) × Int):=
 (F_reduce_few p0).bind fun r9=>
 if r9 != 0 then
  some (([]:(List Int)),r9)
 else
  Option.bind (α:=List Int) (
   (whileO (reduce_Costs_l1 p0) (([]:List Int),0)).bind fun a0=>
    some a0) fun a2=>
  some (a2,0)
def c_reduce_Costs_val (r:((List Int) × Int)) (x:Value):Value:=.tuple #[x,.int .i64 r.2]
def c_reduce_Costs_D (r:((List Int) × Int)) (x:Value):List Fact:=[fRep (rL (rI .i64)) x r.1]
theorem c_reduce_Costs (E:Nat→Prop) (w0:World) (p0:api_Grid) (v0:Value) (r:((List Int) × Int)) (h:F_reduce_Costs p0=some r) (S:St0 E [] w0 w0 [] [fRep r_api_Grid (v0) p0]) :
 Calls Try.prog 28 #[v0] w0 (Ret (X:=Value) E [] w0 (c_reduce_Costs_val r) (fun _=>[]) (c_reduce_Costs_D r)):=by
 unfold F_reduce_Costs at h
 obtain ⟨u1,rfl,aC⟩:=S.know (i:=0) (e:=fRep r_api_Grid (v0) p0) y
 have S:=S.learn (fRep (rL rB) u1 p0.Bits) aC
 obtain ⟨a2,a3,_,rfl,_⟩:=aC
 refine sEnter (args:=[.agg #[iv p0.W,iv p0.H,.slice a2 p0.Bits.length a3]]) 34 Try.func28 y y (by simp) S (fun a S=>?_)
 refine sSeq (fun K5 aG=>sRegion (sBox (v:=.agg #[iv p0.W,iv p0.H,.slice a2 p0.Bits.length a3]) S (wN y) y y [iv p0.W,iv p0.H,.slice a2 p0.Bits.length a3] y y (lb y) fun a b6 w S=>sN S fun a S=>?_))
 refine sN S fun a S=>?_
 refine lT (aG _ _ (sSeq (fun K7 aH=>sSeq (fun K8 aI=>sRegion (sLoadN (p:=b6) (off:=0) (T:=24) (vs:=[iv p0.W,iv p0.H,.slice a2 p0.Bits.length a3]) 0 [iv p0.W,iv p0.H,.slice a2 p0.Bits.length a3] S (wN y) y y y y y y y (lb y) fun a S=>?_)))))
 obtain ⟨r9,ag,h⟩:=bS h
 have S1:=S.mem
 refine sCq [.agg #[iv p0.W,iv p0.H,.slice a2 p0.Bits.length a3]] (iv r9) S callee40 (S1.quiet [1] y) (fun E1 w1 S1=>c_reduce_few E1 w1 p0 (.agg #[iv p0.W,iv p0.H,.slice a2 p0.Bits.length a3]) r9 ag S1) fun a w S=>?_
 refine sN S fun a S=>?_
 refine lT (aI _ _ (sSeq (fun aP ah=>sRegion (sM S fun a S=>?_))))
 refine sBin _ S (wN y) y y y (bNe _ _ _ _ .i64 r9 0) y (lb y) fun a S=>lT (ah _ _ ?_)
 rcases iS h with ⟨ae,h⟩ | ⟨ae,h⟩
 ·refine sCondT S y ae (sSeq (fun aQ ai=>sRegion (sM S fun a S=>?_)))
  refine sN S fun a S=>?_
  refine sN S fun a S=>?_
  refine lT (ai _ _ ?_)
  obtain rfl:=tS h
  have S:=S.learn (fRep (rL (rI .i64)) (.slice none 0 0) ([]:(List Int))) (rL_nil _ _ _)
  exact wp_ret (rThen (sRet (.tuple #[.slice none 0 0,iv r9]) S (rsl2 y (rvT (t:=2) (v:=.slice none 0 0) S y) (rvT (t:=3) (v:=iv r9) S y)) ⟨(.slice none 0 0),y,S.mem.sel [] [0] (by decide) y y⟩))
 refine sCondF S y ae (wp_skip (leafT (aH _ _ ?_)))
 refine sSeq (fun aR aj=>sRegion (sN S fun a S=>?_))
 refine lT (aj _ _ ?_)
 obtain ⟨aJ,h,aK⟩:=bS h
 refine sCut (fun a w=>∃ a8,a8=aJ∧∃ a4,∃ a5,St [] E [] w0 34 a w [(5,.slice a4 a8.length a5)] [eRow (rI .i64) 3 (.slice a4 a8.length a5) a8] []) ?_ (fun a w hI=>?_)
 rotate_left
 ·obtain ⟨a8,rfl,a4,a5,S⟩:=hI
  have h:=aK
  try dsimp only at h
  refine sSeq (fun aS ak=>sRegion (sM S fun a S=>?_))
  refine sN S fun a S=>?_
  refine sN S fun a S=>?_
  refine lT (ak _ _ ?_)
  obtain rfl:=tS h
  have S:=S.shutR (r:=(rI .i64)) (T:=3) (v:=.slice a4 a8.length a5) (xs:=a8) 0 y
  exact wp_ret (sRet (.tuple #[.slice a4 a8.length a5,iv 0]) S (rsl2 y (rvT (t:=2) (v:=.slice a4 a8.length a5) S y) (rvT (t:=3) (v:=iv 0) S y)) ⟨(.slice a4 a8.length a5),y,S.mem.sel [] [0] (by decide) y y⟩)
 refine sSeq (fun aT al=>sRegion (sField (b:=b6) (off:=0) 0 0 S (wN y) y y y y y (lb y) fun a S=>sLoad1 0 (iv p0.W) S (wN y) y y y y y y (lb y) fun a S=>sM S fun a S=>?_))
 refine lT (al _ _ (wp_block ?_))
 have S:=S.nilRow (rI .i64) 3 (α:=Int)
 obtain ⟨aU,hl,aL⟩:=bS h
 refine sLoop hl (fun s0 a w=>match s0 with | (a9,ac)=>∃ a6,∃ a7,St [] E [] w0 34 a w [(1,.pointer (some ⟨b6,0,none⟩)),(5,.slice a6 a9.length a7),(16,iv p0.W),(17,iv ac)] [eBox b6 24 [iv p0.W,iv p0.H,.slice a2 p0.Bits.length a3],eRow (rI .i64) 3 (.slice a6 a9.length a7) a9] [fRep (rL rB) (.slice a2 p0.Bits.length a3) p0.Bits]) ⟨none,0,S.fix [1,0] [0] (by decide) y y y⟩ ?_
 clear hl h
 intro s0 a w c0 hI h am
 obtain ⟨a9,ac⟩:=s0
 unfold reduce_Costs_l1 at h
 dsimp only at h hI
 obtain ⟨a6,a7,S⟩:=hI
 refine sSeq (fun aV ao=>sRegion (sBin _ S (wN y) y y y (bLt _ _ _ _ .i64 ac p0.W) y (lb y) fun a S=>lT (ao _ _ (sSeq (fun aW ap=>?_)))))
 rcases iS h with ⟨af,h⟩ | ⟨af,h⟩
 rotate_left
 ·refine sCondF S y af ?_
  obtain rfl:=tS h
  obtain rfl:=am _ y
  have h:=aL
  try dsimp only at h
  exact wp_exit (xThen (xThen (xHit (leafT (⟨a9,Option.some.inj h,a6,a7,S.fix [1] [] (by decide) y y y⟩)))))
 refine sCondT S y af (wp_skip (leafT (ap _ _ ?_)))
 refine sSeq (fun aX aq=>wp_block ?_)
 refine sSeq (fun aZ ar=>sRegion (sM S fun a S=>?_))
 refine sN S fun a S=>?_
 refine lT (ar _ _ (sSeq (fun b1 au=>sRegion (sLoadN (p:=b6) (off:=0) (T:=24) (vs:=[iv p0.W,iv p0.H,.slice a2 p0.Bits.length a3]) 0 [iv p0.W,iv p0.H,.slice a2 p0.Bits.length a3] S (wN y) y y y y y y y (lb y) fun a S=>sM S fun a S=>?_))))
 refine sBin _ S (wN y) y y y (bAdd _ _ _ _ ac 1) y (lb y) fun a S=>?_
 obtain ⟨a0,av,h⟩:=bS h
 have S:=S.learn (fRep r_api_Grid (.agg #[iv p0.W,iv p0.H,.slice a2 p0.Bits.length a3]) p0) ⟨_,y,S.mem.know (i:=0) (e:=fRep (rL rB) (.slice a2 p0.Bits.length a3) p0.Bits) y⟩
 refine sCall (X:=Value) (f:=21) (vs:=[.agg #[iv p0.W,iv p0.H,.slice a2 p0.Bits.length a3],iv (w64 (ac + 1))]) (val:=c_reduce_Best_val a0) (B':=fun _=>[]) (D':=c_reduce_Best_D a0) [] [eBox b6 24 [iv p0.W,iv p0.H,.slice a2 p0.Bits.length a3],eRow (rI .i64) 3 (.slice a6 a9.length a7) a9] [fRep r_api_Grid (.agg #[iv p0.W,iv p0.H,.slice a2 p0.Bits.length a3]) p0] [0,1] [0] S (wN y) y callee21 y (by decide) y y (fun E1 w1 S1=>c_reduce_Best E1 w1 p0 (.agg #[iv p0.W,iv p0.H,.slice a2 p0.Bits.length a3]) (w64 (ac + 1)) a0 av S1) y (lb y) fun aM a w S=>?_
 obtain ⟨aa,ab,_,rfl,_⟩:=S.mem.know (i:=0) (e:=fRep (rL (rI .i64)) (aM) a0.1) y
 refine sM S fun a S=>?_
 refine sExtract (vs:=[.slice aa a0.1.length ab,iv a0.2.1,iv a0.2.2]) (.slice aa a0.1.length ab) S (wN y) y y y y (lb y) fun a S=>sExtract (vs:=[.slice aa a0.1.length ab,iv a0.2.1,iv a0.2.2]) (iv a0.2.1) S (wN y) y y y y (lb y) fun a S=>sExtract (vs:=[.slice aa a0.1.length ab,iv a0.2.1,iv a0.2.2]) (iv a0.2.2) S (wN y) y y y y (lb y) fun a S=>sN S fun a S=>?_
 refine sN S fun a S=>?_
 refine sN S fun a S=>?_
 refine lT (au _ _ (sRegion (sM S fun a S=>?_)))
 refine sM S fun a S=>?_
 refine sLit (r:=(rI .i64)) (T:=3) (xs:=([a0.2.1]:List Int)) [(0,iv a0.2.1)] 1 [iv a0.2.1] [iv a0.2.1] (iv 0) 8 S (wN y) y y Try.underlying25 y (by decide) (by decide) (by kernel_rfl) y (fun E1 w1 hE=>All.cons y (All.nil _ _ _)) y y (lb y) fun a w aw ax S=>?_
 obtain ⟨aO,ay,h⟩:=bS h
 refine sApp (r:=(rI .i64)) (T:=3) (xs:=a9) (ys:=([a0.2.1]:List Int)) (v:=.slice a6 a9.length a7) (u:=.slice aw ([a0.2.1]:List Int).length ax) 2 (iv 0) 8 S (wN y) y Try.underlying25 y y (by decide) y y y (src_R (T:=3) 0 S.mem y) ay y (lb y) fun a w az aA S=>sN S fun a S=>?_
 refine leafL (leafB (leafT (aq _ _ ?_)))
 refine sRegion (sBin _ S (wN y) y y y (bAdd _ _ _ _ ac 1) y (lb y) fun a S=>sM S fun a S=>?_)
 exact lT (⟨(aO,w64 (ac + 1)),(Option.some.inj h).symm,⟨az,aA,S.fix [2,0] [2] (by decide) y y y⟩⟩)
noncomputable def raddleref17_Costs_l1 (p0:api_Grid):(List Int × Int)→Option ((List Int × Int) ⊕ List Int):=fun s0=>match s0 with
 | (a2,a0)=>
  if decide (a0 ≤ p0.W) then
   (F_raddleref17_best p0 a0).bind fun a3=>
   (appO a2 ([a3.2]:List Int)).bind fun a4=>
   some (.inl (a4,w64 (a0 + 1)))
  else
   some (.inr a2)
noncomputable def F_raddleref17_Costs (p0:api_Grid):Option ((List Int) × Int):=
 (F_raddleref17_Few p0).bind fun r9=>
 if r9 != 0 then
  some (([]:(List Int)),r9)
 else
  Option.bind (α:=List Int) (
   (whileO (raddleref17_Costs_l1 p0) (([]:List Int),1)).bind fun a0=>
    some a0) fun a2=>
  some (a2,0)
instance decGrid:DecidableEq api_Grid:=fun a b=>decidable_of_iff (a.W=b.W∧a.H=b.H∧a.Bits=b.Bits) (by cases a; cases b; simp)
structure Gr (g:api_Grid) (w h:Nat):Prop where
 hw:g.W=(w:Int)
 hh:g.H=(h:Int)
 w0:1 ≤ w
 w1:w ≤ 64
 h0:1 ≤ h
 h1:h ≤ 64
 len:g.Bits.length=w * h
def cell (g:api_Grid) (w x y:Nat):Bool:=g.Bits.getD (y * w + x) false
theorem Gr.at {g:api_Grid} {w h:Nat} (G:Gr g w h) {x y:Nat} (hx:x < w) (hy:y < h):idxO g.Bits (w64 ((w64 ((y:Int) * g.W)) + (x:Int)))=some (cell g w x y):=by
 have h1:y * w + x < w * h:=by
  have:=Nat.mul_le_mul_right w (show y + 1 ≤ h by omega)
  rw [Nat.add_mul,Nat.one_mul,Nat.mul_comm h w] at this
  omega
 have h2:w * h ≤ 64 * 64:=Nat.mul_le_mul G.w1 G.h1
 have e:((y:Int) * g.W)=((y * w:Nat):Int):=by rw [G.hw]; simp
 have hz:w64 ((y * w:Nat):Int)=((y * w:Nat):Int):=w64_of (by omega) (by omega)
 rw [e,hz,w64_of (by omega) (by omega)]
 exact idxO_of (k:=y * w + x) (by omega) (by rw [G.len]; exact h1) |>.trans (by unfold cell; simp [G.len,h1])
def gerr (g:api_Grid):Int:=if 64 < g.W ∨ 64 < g.H then 4 else if g.W < 1 ∨ g.H < 1 ∨ ¬ (g.Bits.length:Int)=g.W * g.H then 8 else 0
theorem gprod {g:api_Grid} (h1:¬ (64 < g.W ∨ 64 < g.H)) (h2:¬ (g.W < 1 ∨ g.H < 1)):w64 (g.W * g.H)=g.W * g.H:=by
 have:=mul_bd (u:=g.W) (v:=g.H) (a:=64) (b:=64) (by omega) (by omega) (by omega) (by omega)
 exact w64_of (by omega) (by omega)
theorem gcheck_eq (g:api_Grid):F_grid_Check g=some (gerr g)∧F_raddleref01_Check g=some (gerr g):=by
 unfold F_grid_Check F_raddleref01_Check gerr
 by_cases c1:64 < g.W ∨ 64 < g.H
 ·constructor
  ·have:(64:Int) < (if g.W < g.H then g.H else g.W):=by split <;> omega
   simp only [dT this,if_true,c1]
  ·by_cases c2:64 < g.W
   ·simp only [dT c2,if_true,Option.bind_some,c1]
   ·simp only [dF c2,dT (show 64 < g.H by omega),Bool.false_eq_true,if_true,if_false,Option.bind_some,c1]
 ·have m1:¬ (64:Int) < (if g.W < g.H then g.H else g.W):=by split <;> omega
  by_cases c2:g.W < 1 ∨ g.H < 1
  ·have m2:(if g.H < g.W then g.H else g.W) < (1:Int):=by split <;> omega
   have c3:g.W < 1 ∨ g.H < 1 ∨ ¬ (g.Bits.length:Int)=g.W * g.H:=by omega
   simp only [dF m1,dT m2,dF (show ¬ 64 < g.W by omega),dF (show ¬ 64 < g.H by omega),Bool.false_eq_true,if_true,if_false,Option.bind_some,c1,c3,true_and]
   by_cases c4:g.W < 1
   ·simp only [dT c4,if_true,Option.bind_some]
   ·simp only [dF c4,dT (show g.H < 1 by omega),Bool.false_eq_true,if_true,if_false,Option.bind_some]
  ·have m2:¬ (if g.H < g.W then g.H else g.W) < (1:Int):=by split <;> omega
   have c4:¬ g.W < 1:=by omega
   have c5:¬ g.H < 1:=by omega
   have hb:(if 64 < g.W ∨ 64 < g.H then (4:Int) else if g.W < 1 ∨ g.H < 1 ∨ ¬ (g.Bits.length:Int)=g.W * g.H then 8 else 0)=if (g.Bits.length:Int)=g.W * g.H then 0 else 8:=by
    rw [if_neg c1]
    by_cases c6:(g.Bits.length:Int)=g.W * g.H
    ·rw [if_neg (by omega),if_pos c6]
    ·rw [if_pos (by omega),if_neg c6]
   rw [hb]
   by_cases c6:(g.Bits.length:Int)=g.W * g.H
   ·rw [if_pos c6]
    simp only [dF m1,dF m2,dF (show ¬ 64 < g.W by omega),dF (show ¬ 64 < g.H by omega),dF c4,dF c5,gprod c1 c2,nF c6,Bool.false_eq_true,if_false,Option.bind_some,and_self]
   ·rw [if_neg c6]
    simp only [dF m1,dF m2,dF (show ¬ 64 < g.W by omega),dF (show ¬ 64 < g.H by omega),dF c4,dF c5,gprod c1 c2,nT c6,Bool.false_eq_true,if_true,if_false,Option.bind_some,and_self]
theorem gerr_zero {g:api_Grid} (h:gerr g=0):∃ w h,Gr g w h:=by
 unfold gerr at h
 by_cases c1:64 < g.W ∨ 64 < g.H
 ·rw [if_pos c1] at h; cases h
 rw [if_neg c1] at h
 by_cases c2:g.W < 1 ∨ g.H < 1 ∨ ¬ (g.Bits.length:Int)=g.W * g.H
 ·rw [if_pos c2] at h; cases h
 have c3:(g.Bits.length:Int)=g.W * g.H:=by omega
 refine ⟨g.W.toNat,g.H.toNat,by omega,by omega,by omega,by omega,by omega,by omega,?_⟩
 have e1:g.W=(g.W.toNat:Int):=by omega
 have e2:g.H=(g.H.toNat:Int):=by omega
 rw [e1,e2,← Int.natCast_mul] at c3
 exact Int.ofNat.inj c3
theorem gr_err {g:api_Grid} {w h:Nat} (G:Gr g w h):gerr g=0:=by
 have:=G.w0
 have:=G.w1
 have:=G.h0
 have:=G.h1
 unfold gerr
 rw [G.hw,G.hh,G.len,if_neg (by omega),if_neg]
 rw [Int.natCast_mul]
 omega
def gm (f:Nat→Nat→Bool) (w h:Nat):api_Grid:=api_Grid.mk (w:Int) (h:Int) (gl f w h)
theorem gm_gr (f:Nat→Nat→Bool) {w h:Nat} (w0:1 ≤ w) (w1:w ≤ 64) (h0:1 ≤ h) (h1:h ≤ 64):Gr (gm f w h) w h:=
 ⟨rfl,rfl,w0,w1,h0,h1,gl_len f w h⟩
theorem gm_cell (f:Nat→Nat→Bool) {w h x y:Nat} (hx:x < w) (hy:y < h):cell (gm f w h) w x y=f x y:=gl_get f w h false x y hx hy
theorem rat_eq {g:api_Grid} {w h:Nat} (G:Gr g w h) {x y:Nat} (hx:x < w) (hy:y < h):F_raddleref01_At g (x:Int) (y:Int)=some (cell g w x y):=by
 unfold F_raddleref01_At
 rw [G.at hx hy]
 rfl
theorem rset_eq {w h:Nat} (hw:w ≤ 64) (hh:h ≤ 64) {s:List Bool} (hs:s.length=w * h) {x y:Nat} (hx:x < w) (hy:y < h) (H:Int) (b:Bool):F_raddleref01_Set_s0 (w:Int) H s (x:Int) (y:Int) b=some (s.set (y * w + x) b):=by
 have hp:w * h ≤ 64 * 64:=Nat.mul_le_mul hw hh
 have hl:=pl_lt hx hy
 have hy2:y * w ≤ y * w + x:=Nat.le_add_right _ _
 have e1:w64 ((y:Int) * (w:Int))=((y * w:Nat):Int):=wmul (by omega)
 have e2:w64 (((y * w:Nat):Int) + (x:Int))=((y * w + x:Nat):Int):=wadd (by omega)
 unfold F_raddleref01_Set_s0
 rw [e1,e2,idxO_nat (by omega),setO_nat (by omega)]
 simp [keepO]
theorem rzero_eq {w h:Nat} (hw:w ≤ 64) (hh:h ≤ 64):F_raddleref01_Zero_s0 (w:Int) (h:Int)=some ⟨(w:Int),(h:Int),List.replicate (w * h) false⟩:=by
 have hp:w * h ≤ 64 * 64:=Nat.mul_le_mul hw hh
 unfold F_raddleref01_Zero_s0
 rw [wmul (by omega),makeO_of (k:=w * h) rfl (by omega)]
 rfl
theorem rsame_grid (a b:api_Grid) (hl:a.Bits.length ≤ 9223372036854775807):F_raddleref01_Same a b=some (decide (a=b)):=by
 by_cases h1:a.W=b.W
 case neg=>unfold F_raddleref01_Same; simp only [nT h1,if_true,Option.bind_some]; rw [decide_eq_false]; rintro rfl; exact h1 rfl
 by_cases h2:a.H=b.H
 case neg=>unfold F_raddleref01_Same; simp only [nF h1,nT h2,Bool.false_eq_true,if_false,if_true,Option.bind_some]; rw [decide_eq_false]; rintro rfl; exact h2 rfl
 by_cases h3:(a.Bits.length:Int)=(b.Bits.length:Int)
 case neg=>unfold F_raddleref01_Same; simp only [nF h1,nF h2,nT h3,Bool.false_eq_true,if_false,if_true,Option.bind_some]; rw [decide_eq_false]; rintro rfl; exact h3 rfl
 have hw:whileO (raddleref01_Same_l1 a b) 0=some (if a.Bits=b.Bits then .inr () else .inl false):=by
  refine loop_eql a.Bits b.Bits (by omega) _ _ (fun k hk=>?_) ?_
  ·unfold raddleref01_Same_l1
   simp only [dT (show (k:Int) < (a.Bits.length:Int) by omega),if_true,idxO_nat hk,idxO_nat (xs:=b.Bits) (k:=k) (by omega),Option.bind_some,w64_succ (show k < 9223372036854775807 by omega)]
   by_cases e:a.Bits[k]=b.Bits[k]'(by omega)
   ·rw [if_pos e,e]; simp
   ·rw [if_neg e,if_pos (by simpa using e)]
  ·unfold raddleref01_Same_l1; simp
 unfold F_raddleref01_Same
 simp only [nF h1,nF h2,nF h3,Bool.false_eq_true,if_false,Option.bind_some,hw]
 by_cases e:a.Bits=b.Bits
 ·rw [if_pos e]
  have:a=b:=by cases a; cases b; simp_all
  simp [this]
 ·rw [if_neg e]
  have:¬ a=b:=fun h=>e (by rw [h])
  simp [this]
theorem rgreat_eq (g:api_Grid):F_raddleref01_Great g=some (decide (4200 < g.Bits.length)):=by
 unfold F_raddleref01_Great
 congr 1
 exact decide_eq_decide.2 (by omega)
def lerr (l:List Int):Int:=if 400 < l.length then 4 else if l.all (fun y=>decide (0 ≤ y∧y < 400))=true then 0 else 8
theorem tcheckL (ls:List (List Int)) (hl:ls.length ≤ 9223372036854775806):whileO (thread_check_l2 ls) 0=some ((ls.findSome? fun l=>if lerr l=0 then none else some (Sum.inl (β:=Unit) (lerr l))).getD (.inr ())):=by
 refine loop_list ls (fun l=>if lerr l=0 then none else some (Sum.inl (lerr l))) (.inr ()) (fun k hk=>?_) ?_
 ·unfold thread_check_l2
  simp only [dT (show (k:Int) < (ls.length:Int) by omega),if_true,idxO_nat hk,Option.bind_some]
  generalize ls[k]=x
  by_cases h:400 < x.length
  ·have e:lerr x=4:=by unfold lerr; rw [if_pos h]
   simp only [dT (show (400:Int) < (x.length:Int) by omega),if_true,Option.bind_some,e]
   rfl
  ·have hw:whileO (thread_check_l1 x) 0=some (if x.all (fun y=>decide (0 ≤ y∧y < 400))=true then .inr () else .inl 8):=by
    refine loop_allL x _ _ _ (fun j hj=>?_) ?_
    ·unfold thread_check_l1
     simp only [dT (show (j:Int) < (x.length:Int) by omega),if_true,idxO_nat hj,Option.bind_some,w64_succ (show j < 9223372036854775807 by omega)]
     by_cases c1:x[j] < 0
     ·simp only [dT c1,if_true,Option.bind_some,dF (show ¬ (0 ≤ x[j]∧x[j] < 400) by omega),Bool.false_eq_true,if_false]
     ·by_cases c2:400 ≤ x[j]
      ·simp only [dF c1,dT c2,Bool.false_eq_true,if_false,if_true,Option.bind_some,dF (show ¬ (0 ≤ x[j]∧x[j] < 400) by omega)]
      ·simp only [dF c1,dF c2,Bool.false_eq_true,if_false,Option.bind_some,dT (show 0 ≤ x[j]∧x[j] < 400 by omega),if_true]
    ·unfold thread_check_l1
     simp only [dF (show ¬ (x.length:Int) < (x.length:Int) by omega),Bool.false_eq_true,if_false]
   simp only [dF (show ¬ (400:Int) < (x.length:Int) by omega),Bool.false_eq_true,if_false,hw,Option.bind_some]
   by_cases hc:x.all (fun y=>decide (0 ≤ y∧y < 400))=true
   ·have e:lerr x=0:=by unfold lerr; rw [if_neg h,if_pos hc]
    rw [if_pos hc,if_pos e]
    simp only [Option.bind_some,w64_succ (show k < 9223372036854775807 by omega)]
   ·have e:lerr x=8:=by unfold lerr; rw [if_neg h,if_neg hc]
    rw [if_neg hc,e]
    rfl
 ·unfold thread_check_l2
  simp only [dF (show ¬ (ls.length:Int) < (ls.length:Int) by omega),Bool.false_eq_true,if_false]
theorem tcheck_eq (l:List Int):F_thread_Check l=some (lerr l):=by
 unfold F_thread_Check F_thread_check
 rw [tcheckL _ (by simp)]
 by_cases h:lerr l=0
 ·simp [h]
 ·simp [h]
theorem rsame_il (a b:List Int) (hl:a.length ≤ 9223372036854775807):F_raddleref02_Same a b=some (decide (a=b)):=by
 by_cases h3:(a.length:Int)=(b.length:Int)
 case neg=>unfold F_raddleref02_Same; simp only [nT h3,if_true]; rw [decide_eq_false]; rintro rfl; exact h3 rfl
 have hw:whileO (raddleref02_Same_l1 a b) 0=some (if a=b then .inr () else .inl false):=by
  refine loop_eql a b (by omega) _ _ (fun k hk=>?_) ?_
  ·unfold raddleref02_Same_l1
   simp only [dT (show (k:Int) < (a.length:Int) by omega),if_true,idxO_nat hk,idxO_nat (xs:=b) (k:=k) (by omega),Option.bind_some,w64_succ (show k < 9223372036854775807 by omega)]
   by_cases e:a[k]=b[k]'(by omega)
   ·rw [if_pos e,e]; simp
   ·rw [if_neg e,if_pos (by simpa using e)]
  ·unfold raddleref02_Same_l1; simp
 unfold F_raddleref02_Same
 simp only [nF h3,Bool.false_eq_true,if_false,Option.bind_some,hw]
 by_cases e:a=b
 ·rw [if_pos e]; simp [e]
 ·rw [if_neg e]; simp [e]
def netk (s:Nat→Int) (b:Nat→Bool) (v:Int):Nat→Int
 | 0=>0
 | n + 1=>netk s b v n + (if s n=v then (if b n=true then 1 else -1) else 0)
theorem netk_bd (s:Nat→Int) (b:Nat→Bool) (v:Int) (n:Nat):-(n:Int) ≤ netk s b v n∧netk s b v n ≤ (n:Int):=by
 induction n with
 | zero=>exact ⟨Int.le_refl _,Int.le_refl _⟩
 | succ n ih=>
  simp only [netk]
  split
  ·split <;> omega
  ·omega
def mkM (s:Nat→Int) (b:Nat→Bool):Nat→List (Int × Int)
 | 0=>[]
 | n + 1=>(s n,if b n=true then lkM (mkM s b n) (s n) + 1 else lkM (mkM s b n) (s n) - 1) :: mkM s b n
theorem mkM_len (s:Nat→Int) (b:Nat→Bool) (n:Nat):(mkM s b n).length=n:=by
 induction n with
 | zero=>rfl
 | succ n ih=>simp [mkM,ih]
theorem mkM_lk (s:Nat→Int) (b:Nat→Bool) (v:Int) (n:Nat):lkM (mkM s b n) v=netk s b v n:=by
 induction n generalizing v with
 | zero=>rfl
 | succ n ih=>
  simp only [mkM,netk]
  rw [lkM_cons,ih v,ih (s n)]
  by_cases h:v=s n
  ·subst h
   rw [if_pos rfl,if_pos rfl]
   split <;> omega
  ·rw [if_neg h,if_neg (Ne.symm h),Int.add_zero]
theorem inI_t {k:Int} (h0:-9223372036854775808 ≤ k) (h1:k ≤ 9223372036854775807):inI k=true:=by
 unfold inI
 rw [decide_eq_true h0,decide_eq_true h1]
 rfl
theorem lkO_of {M:List (Int × Int)} {k:Int} (h0:-9223372036854775808 ≤ k) (h1:k ≤ 9223372036854775807):lkO M k=some (lkM M k):=by unfold lkO; rw [if_pos (inI_t h0 h1)]
theorem updM_of {M:List (Int × Int)} {k v:Int} (h0:-9223372036854775808 ≤ k) (h1:k ≤ 9223372036854775807) (h2:-9223372036854775808 ≤ v) (h3:v ≤ 9223372036854775807) (h4:M.length ≤ 68719476736):updM M k v=some ((k,v) :: M):=by
 unfold updM
 rw [if_pos ⟨inI_t h0 h1,inI_t h2 h3,by simpa [lim] using h4⟩]
def sl (l:List Int):Nat→Int:=fun j=>l.getD j 0
def cb (g:api_Grid) (w y:Nat):Nat→Bool:=fun x=>cell g w x y
def outc (g:api_Grid) (w:Nat) (l:List Int) (x y:Nat):Bool:=decide (0 < netk (sl l) (cb g w y) (sl l x) w)
def dcnt (f b:Nat→Bool):Nat→Nat
 | 0=>0
 | n + 1=>dcnt f b n + (if f n != b n then 1 else 0)
theorem dcnt_le (f b:Nat→Bool) (n:Nat):dcnt f b n ≤ n:=by
 induction n with
 | zero=>exact Nat.le_refl _
 | succ n ih=>
  simp only [dcnt]
  split <;> omega
theorem dcnt_cong {f f' b b':Nat→Bool} {n:Nat} (h:∀ t,t < n→f t=f' t∧b t=b' t):dcnt f b n=dcnt f' b' n:=by
 induction n with
 | zero=>rfl
 | succ n ih=>
  simp only [dcnt]
  rw [ih fun t ht=>h t (by omega),(h n (by omega)).1,(h n (by omega)).2]
def apd (a b:api_Grid) (n:Nat):Nat:=dcnt (fun t=>a.Bits.getD t false) (fun t=>b.Bits.getD t false) n
theorem getD_of {α:Type} {l:List α} {k:Nat} (h:k < l.length) (d:α):l[k]=l.getD k d:=by simp [h]
theorem chg_l1 (row:List Bool) (l:List Int) (hl:l.length=row.length) (hn:row.length ≤ 64) (hb:∀ y,y ∈ l→0 ≤ y∧y < 400) :
 whileO (reduce_Change_s1_l1 row l) (0,[])=some (mkM (sl l) (fun j=>row.getD j false) row.length):=by
 refine loop_seq (fun k=>((k:Int),mkM (sl l) (fun j=>row.getD j false) k)) row.length (fun k hk=>?_) ?_
 ·unfold reduce_Change_s1_l1
  have hx:=hb _ (List.getElem_mem (l:=l) (n:=k) (by omega))
  have h1:=netk_bd (sl l) (fun j=>row.getD j false) (l[k]'(by omega)) k
  rw [← mkM_lk] at h1
  have e1:sl l k=l[k]'(by omega):=(getD_of (by omega) 0).symm
  have e2:row.getD k false=row[k]:=(getD_of hk false).symm
  have hm:=mkM_len (sl l) (fun j=>row.getD j false) k
  simp only [dT (show (k:Int) < (row.length:Int) by omega),if_true,idxO_nat hk,idxO_nat (xs:=l) (k:=k) (by omega),Option.bind_some,w64_succ (show k < 9223372036854775807 by omega),lkO_of (M:=mkM (sl l) (fun j=>row.getD j false) k) (show -9223372036854775808 ≤ l[k]'(by omega) by omega) (show l[k]'(by omega) ≤ 9223372036854775807 by omega)]
  simp only [mkM,e1,e2]
  generalize row[k]=q
  generalize lkM (mkM (sl l) (fun j=>row.getD j false) k) (l[k]'(by omega))=z at h1
  rw [w64_of (x:=z + 1) (by omega) (by omega),w64_of (x:=z - 1) (by omega) (by omega)]
  rw [updM_of (v:=z + 1) (by omega) (by omega) (by omega) (by omega) (by omega),updM_of (v:=z - 1) (by omega) (by omega) (by omega) (by omega) (by omega)]
  cases q <;> rfl
 ·unfold reduce_Change_s1_l1
  simp only [dF (show ¬ (row.length:Int) < (row.length:Int) by omega),Bool.false_eq_true,if_false]
theorem netk_cong {s:Nat→Int} {b b':Nat→Bool} {v:Int} {n:Nat} (h:∀ j,j < n→b j=b' j):netk s b v n=netk s b' v n:=by
 induction n with
 | zero=>rfl
 | succ n ih=>
  have e:=h n (by omega)
  unfold netk
  rw [ih fun j hj=>h j (by omega),e]
theorem outc_row {g:api_Grid} {w:Nat} {l:List Int} {row:List Bool} {y:Nat} (hr:∀ j,j < w→row.getD j false=cell g w j y) (v:Int):netk (sl l) (fun j=>row.getD j false) v w=netk (sl l) (cb g w y) v w:=
 netk_cong fun j hj=>hr j hj
def oF (g:api_Grid) (w:Nat) (l:List Int):Nat→Bool:=fun t=>outc g w l (t % w) (t / w)
def oB (g:api_Grid):Nat→Bool:=fun t=>g.Bits.getD t false
theorem chg_l2 {g:api_Grid} {w h:Nat} (G:Gr g w h) (row:List Bool) (l:List Int) (hl:l.length=row.length) (hw:row.length=w) {y:Nat} (hy:y < h) (hr:∀ j,j < w→row.getD j false=cell g w j y) (hb:∀ y,y ∈ l→0 ≤ y∧y < 400) :
 whileO (reduce_Change_s1_l2 row l (mkM (sl l) (fun j=>row.getD j false) row.length)) (((dcnt (oF g w l) (oB g) (y * w):Nat):Int),0,glf (outc g w l) w (y * w))=some (((dcnt (oF g w l) (oB g) (y * w + w):Nat):Int),glf (outc g w l) w (y * w + w)):=by
 have w1:=G.w1
 have hp:w * h ≤ 64 * 64:=Nat.mul_le_mul G.w1 G.h1
 refine loop_seq (fun k=>(((dcnt (oF g w l) (oB g) (y * w + k):Nat):Int),(k:Int),glf (outc g w l) w (y * w + k))) w (fun k hk=>?_) ?_
 ·unfold reduce_Change_s1_l2
  have hx:=hb _ (List.getElem_mem (l:=l) (n:=k) (by omega))
  have e1:sl l k=l[k]'(by omega):=(getD_of (by omega) 0).symm
  have e2:row[k]'(by omega)=cell g w k y:=by rw [← hr k hk]; exact getD_of (by omega) false
  have hlt:=pl_lt hk hy
  have hd:=dcnt_le (oF g w l) (oB g) (y * w + k)
  have e3:oF g w l (y * w + k)=decide (0 < netk (sl l) (cb g w y) (l[k]'(by omega)) w):=by
   unfold oF
   rw [pl_mod hk,pl_div hk]
   unfold outc
   rw [e1]
  have e4:oB g (y * w + k)=cell g w k y:=rfl
  have e5:(glf (outc g w l) w (y * w + k)).length=y * w + k:=by simp [glf]
  have e6:outc g w l ((y * w + k) % w) ((y * w + k) / w)=oF g w l (y * w + k):=rfl
  simp only [dT (show (k:Int) < (row.length:Int) by omega),if_true,idxO_nat (xs:=row) (k:=k) (by omega),idxO_nat (xs:=l) (k:=k) (by omega),Option.bind_some,w64_succ (show k < 9223372036854775807 by omega),lkO_of (M:=mkM (sl l) (fun j=>row.getD j false) row.length) (show -9223372036854775808 ≤ l[k]'(by omega) by omega) (show l[k]'(by omega) ≤ 9223372036854775807 by omega),mkM_lk]
  generalize l[k]'(by omega)=q at hx e1 e3 ⊢
  generalize row[k]'(by omega)=q2 at e2 ⊢
  subst e2
  rw [hw,outc_row hr,← e3,appO_of (by rw [e5]; simp; omega)]
  rw [← Nat.add_assoc,glf_succ,e6]
  simp only [dcnt]
  rw [e4]
  simp only [Option.bind_some]
  by_cases hc:(oF g w l (y * w + k) != cell g w k y)=true
  ·rw [if_pos hc,if_pos hc]
   simp only [Option.bind_some]
   rw [w64_of (by omega) (by omega)]
   rfl
  ·rw [if_neg hc,if_neg hc]
   rfl
 ·unfold reduce_Change_s1_l2
  simp only [dF (show ¬ (w:Int) < (row.length:Int) by omega),Bool.false_eq_true,if_false]
def cost (g:api_Grid) (w h:Nat) (l:List Int):Nat:=dcnt (oF g w l) (oB g) (w * h)
theorem chg_l3 {g:api_Grid} {w h:Nat} (G:Gr g w h) (l:List Int) (hl:l.length=w) (hb:∀ y,y ∈ l→0 ≤ y∧y < 400) :
 whileO (reduce_Change_s1_l3 g l) (0,0,[])=some (((cost g w h l:Nat):Int),gl (outc g w l) w h):=by
 have w1:=G.w1
 have hp:w * h ≤ 64 * 64:=Nat.mul_le_mul G.w1 G.h1
 have:=loop_seq (B:=reduce_Change_s1_l3 g l) (t:=(((cost g w h l:Nat):Int),gl (outc g w l) w h)) (fun y=>(((dcnt (oF g w l) (oB g) (y * w):Nat):Int),(y:Int),glf (outc g w l) w (y * w))) h (fun y hy=>?_) ?_
 ·simpa [dcnt,glf] using this
 ·have hm1:(y + 1) * w ≤ h * w:=Nat.mul_le_mul_right w (show y + 1 ≤ h by omega)
  rw [Nat.mul_comm h w] at hm1
  have hm0:(y + 1) * w=y * w + w:=by rw [Nat.add_mul,Nat.one_mul]
  have hlen:=G.len
  unfold reduce_Change_s1_l3
  have s1:sliceO g.Bits (w64 ((y:Int) * g.W)) (w64 (((y + 1:Nat):Int) * g.W))=some ((g.Bits.take ((y + 1) * w)).drop (y * w)):=by
   rw [G.hw,wmul (by omega),wmul (by omega)]
   exact sliceO_of rfl rfl (by omega) (by omega)
  have r1:((g.Bits.take ((y + 1) * w)).drop (y * w)).length=w:=by simp; omega
  have r2:∀ j,j < w→((g.Bits.take ((y + 1) * w)).drop (y * w)).getD j false=cell g w j y:=by
   intro j hj
   unfold cell
   simp only [List.getD_eq_getElem?_getD,List.getElem?_drop,List.getElem?_take]
   rw [if_pos (by omega)]
  have h1:=chg_l1 _ l (by rw [r1]; exact hl) (by rw [r1]; exact w1) hb
  have h2:=chg_l2 G _ l (by rw [r1]; exact hl) r1 hy r2 hb
  rw [G.hh]
  simp only [dT (show (y:Int) < (h:Int) by omega),if_true,s1,Option.bind_some,h1,h2,w64_succ (show y < 9223372036854775807 by have:=G.h1; omega)]
  rw [hm0]
 ·unfold reduce_Change_s1_l3
  rw [G.hh]
  simp only [dF (show ¬ (h:Int) < (h:Int) by omega),Bool.false_eq_true,if_false]
  unfold gl cost
  rw [Nat.mul_comm h w]
theorem chg_eq {g:api_Grid} {w h:Nat} (G:Gr g w h) (l:List Int) (hl:l.length=w) (hb:∀ y,y ∈ l→0 ≤ y∧y < 400) :
 F_reduce_Change_s1 g l=some (gm (outc g w l) w h,((cost g w h l:Nat):Int),0,l):=by
 have w1:=G.w1
 have he:lerr l=0:=by
  unfold lerr
  rw [if_neg (by omega),if_pos (List.all_eq_true.2 fun y hy=>decide_eq_true (hb y hy))]
 have hlen:(l.length:Int)=g.W:=by rw [hl,G.hw]
 unfold F_reduce_Change_s1
 simp only [(gcheck_eq g).1,gr_err G,tcheck_eq,he,Option.bind_some,nF (show (0:Int)=0 from rfl),nF hlen,Bool.false_eq_true,if_false,chg_l3 G l hl hb]
 rw [G.hw,G.hh]
 rfl
theorem chg_plain (g:api_Grid) (l:List Int):F_reduce_Change g l=(F_reduce_Change_s1 g l).map fun r=>(r.1,r.2.1,r.2.2.1):=by
 unfold F_reduce_Change F_reduce_Change_s1
 simp only [(gcheck_eq g).1,tcheck_eq,Option.bind_some]
 by_cases h1:(gerr g != 0)=true
 ·rw [if_pos h1,if_pos h1]; rfl
 rw [if_neg h1,if_neg h1]
 by_cases h2:(lerr l != 0)=true
 ·rw [if_pos h2,if_pos h2]; rfl
 rw [if_neg h2,if_neg h2]
 by_cases h3:((l.length:Int) != g.W)=true
 ·rw [if_pos h3,if_pos h3]; rfl
 rw [if_neg h3,if_neg h3]
 have:whileO (reduce_Change_l3 g l) (0,0,([]:List Bool))=whileO (reduce_Change_s1_l3 g l) (0,0,([]:List Bool)):=rfl
 rw [this]
 cases whileO (reduce_Change_s1_l3 g l) (0,0,([]:List Bool)) <;> rfl
def upk (s:Nat→Int) (b:Nat→Bool) (v:Int) (c:Bool):Nat→Nat
 | 0=>0
 | n + 1=>upk s b v c n + (if s n=v∧b n=c then 1 else 0)
theorem upk_le (s:Nat→Int) (b:Nat→Bool) (v:Int) (c:Bool) (n:Nat):upk s b v c n ≤ n:=by
 induction n with
 | zero=>exact Nat.le_refl _
 | succ n ih=>
  simp only [upk]
  split <;> omega
theorem upk_net (s:Nat→Int) (b:Nat→Bool) (v:Int) (n:Nat):netk s b v n=(upk s b v true n:Int) - (upk s b v false n:Int):=by
 induction n with
 | zero=>rfl
 | succ n ih=>
  simp only [upk,netk]
  rw [ih]
  by_cases h:s n=v
  ·cases hb:b n <;> simp [h] <;> omega
  ·simp [h]
def gsc (f:Nat→Nat→Bool) (w h x y:Nat):List Bool:=(List.range (w * h)).map fun t=>if t % w < x ∨ (t % w=x∧t / w < y) then f (t % w) (t / w) else false
theorem gsc_len (f:Nat→Nat→Bool) (w h x y:Nat):(gsc f w h x y).length=w * h:=by simp [gsc]
theorem gsc_zero (f:Nat→Nat→Bool) (w h:Nat):gsc f w h 0 0=List.replicate (w * h) false:=by
 unfold gsc
 rw [show (fun t=>if t % w < 0 ∨ (t % w=0∧t / w < 0) then f (t % w) (t / w) else false)=fun _=>false from funext fun t=>if_neg (by
  rintro (h1 | ⟨_,h1⟩)
  ·exact Nat.not_lt_zero _ h1
  ·exact Nat.not_lt_zero _ h1)]
 simp [List.map_const']
theorem gsc_set (f:Nat→Nat→Bool) {w h x y:Nat} (hx:x < w):(gsc f w h x y).set (y * w + x) (f x y)=gsc f w h x (y + 1):=by
 apply List.ext_getElem?
 intro t
 by_cases ht:t < w * h
 ·rw [List.getElem?_set]
  simp only [gsc,List.getElem?_map,List.getElem?_range ht,Option.map_some,List.length_map,List.length_range]
  by_cases e:y * w + x=t
  ·subst e; rw [if_pos rfl,if_pos ht,pl_mod hx,pl_div hx,if_pos (by omega)]
  ·rw [if_neg e]
   have hne:¬ (t % w=x∧t / w=y):=by
    rintro ⟨h1,h2⟩
    apply e
    rw [← h1,← h2]
    exact pl_of t w
   by_cases e2:t % w < x ∨ (t % w=x∧t / w < y)
   ·rw [if_pos e2,if_pos (by omega)]
   ·rw [if_neg e2,if_neg (by omega)]
 ·rw [List.getElem?_eq_none (by simp [gsc]; omega),List.getElem?_eq_none (by simp [gsc]; omega)]
theorem gsc_next (f:Nat→Nat→Bool) (w h x:Nat):gsc f w h x h=gsc f w h (x + 1) 0:=by
 unfold gsc
 refine map_cong fun t ht=>?_
 have:=pl_divlt ht
 generalize t % w=a at this ⊢
 generalize t / w=c at this ⊢
 by_cases e:a < x + 1
 ·rw [if_pos (by omega),if_pos (by omega)]
 ·rw [if_neg (by omega),if_neg (by omega)]
theorem gsc_full (f:Nat→Nat→Bool) (w h:Nat):gsc f w h w 0=gl f w h:=by
 unfold gsc gl glf
 refine map_cong fun t ht=>?_
 have hw:0 < w:=by rcases Nat.eq_zero_or_pos w with h0 | h0; rw [h0,Nat.zero_mul] at ht; omega; exact h0
 exact if_pos (.inl (pl_modlt hw))
theorem rch_l1 {g:api_Grid} {w h:Nat} (G:Gr g w h) (l:List Int) (hl:l.length=w) {x y:Nat} (hx:x < w) (hy:y < h) :
 whileO (raddleref17_changed_s1_l1 g l (x:Int) (y:Int)) (0,0,0)=some ((upk (sl l) (cb g w y) (sl l x) true w:Int),(upk (sl l) (cb g w y) (sl l x) false w:Int)):=by
 have w1:=G.w1
 refine loop_seq (fun k=>((upk (sl l) (cb g w y) (sl l x) true k:Int),(upk (sl l) (cb g w y) (sl l x) false k:Int),(k:Int))) w (fun k hk=>?_) ?_
 ·unfold raddleref17_changed_s1_l1
  have e1:l[k]'(by omega)=sl l k:=getD_of (by omega) 0
  have e2:l[x]'(by omega)=sl l x:=getD_of (by omega) 0
  have e3:cell g w k y=cb g w y k:=rfl
  have u1:=upk_le (sl l) (cb g w y) (sl l x) true k
  have u2:=upk_le (sl l) (cb g w y) (sl l x) false k
  rw [G.hw]
  simp only [dT (show (k:Int) < (w:Int) by omega),if_true,idxO_nat (xs:=l) (k:=k) (by omega),idxO_nat (xs:=l) (k:=x) (by omega),Option.bind_some,w64_succ (show k < 9223372036854775807 by omega),rat_eq G hk hy,e1,e2,e3]
  rw [w64_of (x:=(upk (sl l) (cb g w y) (sl l x) true k:Int) + 1) (by omega) (by omega),w64_of (x:=(upk (sl l) (cb g w y) (sl l x) false k:Int) + 1) (by omega) (by omega)]
  simp only [upk]
  by_cases h:sl l k=sl l x
  ·cases hb:cb g w y k <;> simp [h]
  ·simp [h]
 ·unfold raddleref17_changed_s1_l1
  rw [G.hw]
  simp only [dF (show ¬ (w:Int) < (w:Int) by omega),Bool.false_eq_true,if_false]
theorem rch_eq {g:api_Grid} {w h:Nat} (G:Gr g w h) (l:List Int) (hl:l.length=w) :
 F_raddleref17_changed_s1 g l=some (gm (outc g w l) w h,l):=by
 have w1:=G.w1
 have h1:=G.h1
 have hz:F_raddleref01_Zero_s0 g.W g.H=some ⟨(w:Int),(h:Int),List.replicate (w * h) false⟩:=by rw [G.hw,G.hh]; exact rzero_eq w1 h1
 have hl2:∀ x,x < w→whileO (raddleref17_changed_s1_l2 g l (x:Int) ⟨(w:Int),(h:Int),List.replicate (w * h) false⟩) (0,gsc (outc g w l) w h x 0)=some (gsc (outc g w l) w h x h):=by
  intro x hx
  refine loop_seq (fun y=>((y:Int),gsc (outc g w l) w h x y)) h (fun y hy=>?_) ?_
  ·unfold raddleref17_changed_s1_l2
   have e1:decide ((upk (sl l) (cb g w y) (sl l x) false w:Int) < (upk (sl l) (cb g w y) (sl l x) true w:Int))=outc g w l x y:=by
    unfold outc
    rw [upk_net]
    exact decide_eq_decide.2 (by omega)
   rw [G.hh]
   simp only [dT (show (y:Int) < (h:Int) by omega),if_true,rch_l1 G l hl hx hy,Option.bind_some,e1,rset_eq w1 h1 (gsc_len (outc g w l) w h x y) hx hy,gsc_set (outc g w l) hx,w64_succ (show y < 9223372036854775807 by omega)]
  ·unfold raddleref17_changed_s1_l2
   rw [G.hh]
   simp only [dF (show ¬ (h:Int) < (h:Int) by omega),Bool.false_eq_true,if_false]
 have hl3:whileO (raddleref17_changed_s1_l3 g l ⟨(w:Int),(h:Int),List.replicate (w * h) false⟩) (0,gsc (outc g w l) w h 0 0)=some (gsc (outc g w l) w h w 0):=by
  refine loop_seq (fun x=>((x:Int),gsc (outc g w l) w h x 0)) w (fun x hx=>?_) ?_
  ·unfold raddleref17_changed_s1_l3
   rw [G.hw]
   simp only [dT (show (x:Int) < (w:Int) by omega),if_true,hl2 x hx,Option.bind_some,gsc_next,w64_succ (show x < 9223372036854775807 by omega)]
  ·unfold raddleref17_changed_s1_l3
   rw [G.hw]
   simp only [dF (show ¬ (w:Int) < (w:Int) by omega),Bool.false_eq_true,if_false]
 unfold F_raddleref17_changed_s1
 rw [gsc_zero] at hl3
 simp only [hz,Option.bind_some,hl3,gsc_full]
 rfl
theorem apart_loop {a b:api_Grid} {w h:Nat} (A:Gr a w h) (B:Gr b w h):whileO (raddleref17_Apart_l1 a b) (0,0)=some ((apd a b (w * h):Nat):Int):=by
 have hp:w * h ≤ 64 * 64:=Nat.mul_le_mul A.w1 A.h1
 have la:=A.len
 have lb:=B.len
 refine loop_seq (fun t=>(((apd a b t:Nat):Int),(t:Int))) (w * h) (fun t ht=>?_) ?_
 ·unfold raddleref17_Apart_l1
  have e1:a.Bits[t]'(by omega)=a.Bits.getD t false:=getD_of (by omega) false
  have e2:b.Bits[t]'(by omega)=b.Bits.getD t false:=getD_of (by omega) false
  have hd:=dcnt_le (fun t=>a.Bits.getD t false) (fun t=>b.Bits.getD t false) t
  simp only [dT (show (t:Int) < (a.Bits.length:Int) by omega),if_true,idxO_nat (xs:=a.Bits) (k:=t) (by omega),idxO_nat (xs:=b.Bits) (k:=t) (by omega),Option.bind_some,w64_succ (show t < 9223372036854775807 by omega),e1,e2,apd,dcnt]
  by_cases hc:(a.Bits.getD t false != b.Bits.getD t false)=true
  ·rw [if_pos hc,if_pos hc]
   simp only [Option.bind_some]
   rw [w64_of (by omega) (by omega)]
   rfl
  ·rw [if_neg hc,if_neg hc]
   rfl
 ·unfold raddleref17_Apart_l1
  simp only [dF (show ¬ ((w * h:Nat):Int) < (a.Bits.length:Int) by omega),Bool.false_eq_true,if_false]
theorem apart_eq {a b:api_Grid} {w h:Nat} (A:Gr a w h) (B:Gr b w h):F_raddleref17_Apart a b=some ((apd a b (w * h):Nat):Int):=by
 unfold F_raddleref17_Apart
 simp only [apart_loop A B,Option.bind_some]
theorem cost_apd {g:api_Grid} {w h:Nat} (G:Gr g w h) (l:List Int):apd (gm (outc g w l) w h) g (w * h)=cost g w h l:=by
 unfold apd cost
 refine dcnt_cong fun t ht=>⟨?_,rfl⟩
 have hw:0 < w:=G.w0
 have:=gl_get (outc g w l) w h false (t % w) (t / w) (pl_modlt hw) (pl_divlt ht)
 rw [pl_of] at this
 exact this
def rg (k:Nat):Nat→Nat→List (List Int)
 | 0,_=>[[]]
 | m + 1,n=>(List.range (min k (n + 1))).flatMap fun v=>(rg k m (max n (v + 1))).map fun r=>(v:Int) :: r
def stp (f:List Int→Nat) (S:List Int × Int) (l:List Int):List Int × Int:=
 if S.1=[] ∨ (f l:Int) < S.2 then (l,(f l:Int)) else S
noncomputable def fbod (Fr:reduce_search→Int→Option reduce_search) (p0:reduce_search) (p1:Int):(Int × Int × Int × Int × List Int × List Int × Int)→Option ((Int × Int × Int × Int × List Int × List Int × Int) ⊕ (Int × Int × Int × List Int × List Int × Int)):=fun s0=>match s0 with
 | (s49,s50,s51,s52,s53,s56,s59)=>
  if decide (s49 < (if p0.k < (w64 (p1 + 1)) then p0.k else w64 (p1 + 1))) then
   Option.bind (appO s53 ([s49]:List Int)) fun l81=>
   Option.bind (Fr (reduce_search.mk (api_Grid.mk s50 s51 p0.g.Bits) s52 l81 s56 s59) (if p1 < (w64 (s49 + 1)) then w64 (s49 + 1) else p1)) fun r86=>
   Option.bind (sliceO r86.l 0 (w64 ((r86.l.length:Int) - 1))) fun y93=>
   some (.inl (w64 (s49 + 1),r86.g.W,r86.g.H,r86.k,y93,r86.best,r86.least))
  else
   some (.inr (s50,s51,s52,s53,s56,s59))
noncomputable def FRs (Fr:reduce_search→Int→Option reduce_search) (p0:reduce_search) (p1:Int):Option reduce_search:=
 if (p0.l.length:Int) == p0.g.W then
  Option.bind (α:=(List Int × List Int × Int)) (
   Option.bind (α:=(Int × List Int)) (
    Option.bind (F_reduce_Change_s1 p0.g p0.l) fun r23=>
    some (r23.2.1,r23.2.2.2)) fun (o17,o18)=>
   Option.bind (α:=Bool) (
    if p0.best.isEmpty then
     some true
    else
     some (decide (o17 < p0.least))) fun o36=>
   if o36 then
    Option.bind (F_slices_Clone___int_int__s1 o18) fun r41=>
    Option.bind (neO r41.1) fun z46=>
    some (r41.2,r41.1,o17)
   else
    some (o18,p0.best,p0.least)) fun (o8,o11,o14)=>
  some (reduce_search.mk p0.g p0.k o8 o11 o14)
 else
  Option.bind (whileO (fbod Fr p0 p1) (0,p0.g.W,p0.g.H,p0.k,p0.l,p0.best,p0.least)) fun (e63,e64,e65,e66,e69,e72)=>
   some (reduce_search.mk (api_Grid.mk e63 e64 p0.g.Bits) e65 e66 e69 e72)
theorem FR_1:F_reduce_search_from_s1=FRs F_reduce_search_from_s2:=rfl
theorem FR_2:F_reduce_search_from_s2=FRs F_reduce_search_from_s3:=rfl
theorem FR_3:F_reduce_search_from_s3=FRs F_reduce_search_from_s4:=rfl
theorem FR_4:F_reduce_search_from_s4=FRs F_reduce_search_from_s5:=rfl
theorem FR_5:F_reduce_search_from_s5=FRs F_reduce_search_from_s6:=rfl
theorem FR_6:F_reduce_search_from_s6=FRs F_reduce_search_from_s7:=rfl
theorem FR_7:F_reduce_search_from_s7=FRs F_reduce_search_from_s8:=rfl
theorem FR_8:F_reduce_search_from_s8=FRs F_reduce_search_from_s9:=rfl
theorem FR_9:F_reduce_search_from_s9=FRs F_reduce_search_from_s10:=rfl
def Spec (g:api_Grid) (k w h:Nat) (Fr:reduce_search→Int→Option reduce_search) (m:Nat):Prop:=
 ∀ (l best:List Int) (least:Int) (n:Nat),l.length + m=w→(∀ y,y ∈ l→0 ≤ y∧y < 400)→n ≤ 1000 →
  Fr ⟨g,(k:Int),l,best,least⟩ (n:Int)=some ⟨g,(k:Int),l,(((rg k m n).map (l ++ ·)).foldl (stp (cost g w h)) (best,least)).1,(((rg k m n).map (l ++ ·)).foldl (stp (cost g w h)) (best,least)).2⟩
theorem spec0 {g:api_Grid} {w h:Nat} (G:Gr g w h) (k:Nat) (Fr:reduce_search→Int→Option reduce_search):Spec g k w h (FRs Fr) 0:=by
 intro l best least n hl hb hn
 have w0:=G.w0
 have w1:=G.w1
 have hlen:((l.length:Int) == g.W)=true:=bT (by rw [G.hw]; omega)
 have hne:l ≠ []:=by intro e; rw [e,List.length_nil] at hl; omega
 have hcl:F_slices_Clone___int_int__s1 l=some (l,l):=by
  unfold F_slices_Clone___int_int__s1
  rw [appO_of (by simp; omega)]
  rfl
 have hno:neO l=some ():=by
  cases l with
  | nil=>exact absurd rfl hne
  | cons=>rfl
 have hrg:((rg k 0 n).map (l ++ ·)).foldl (stp (cost g w h)) (best,least)=stp (cost g w h) (best,least) l:=by simp [rg]
 rw [hrg]
 unfold FRs stp
 simp only [hlen,if_true,chg_eq G l (by omega) hb,Option.bind_some]
 by_cases c:best=[]
 ·subst c
  simp only [List.isEmpty_nil,if_true,Option.bind_some,hcl,hno,true_or]
 ·have c1:best.isEmpty=false:=by
   cases best with
   | nil=>exact absurd rfl c
   | cons=>rfl
  by_cases c2:(cost g w h l:Int) < least
  ·simp only [c1,Bool.false_eq_true,if_false,dT c2,Option.bind_some,if_true,hcl,hno]
   rw [if_pos (show best=[] ∨ (cost g w h l:Int) < least from .inr c2)]
  ·simp only [c1,Bool.false_eq_true,if_false,dF c2,Option.bind_some]
   rw [if_neg (show ¬ (best=[] ∨ (cost g w h l:Int) < least) from fun hc=>hc.elim c c2)]
theorem specS {g:api_Grid} {w h:Nat} (G:Gr g w h) {k:Nat} (hk:k ≤ 40) (Fr:reduce_search→Int→Option reduce_search) {m:Nat} (H:Spec g k w h Fr m):Spec g k w h (FRs Fr) (m + 1):=by
 intro l best least n hl hb hn
 have w1:=G.w1
 have hlen:((l.length:Int) == g.W)=false:=bF (by rw [G.hw]; omega)
 have hg:api_Grid.mk g.W g.H g.Bits=g:=by cases g; rfl
 have hS:∃ A:Nat→List (List Int),A=(fun v=>(List.range v).flatMap fun u=>(rg k m (max n (u + 1))).map fun r=>(u:Int) :: r):=⟨_,rfl⟩
 obtain ⟨A,hA⟩:=hS
 have hT:∃ S:Nat→List Int × Int,S=(fun v=>((A v).map (l ++ ·)).foldl (stp (cost g w h)) (best,least)):=⟨_,rfl⟩
 obtain ⟨S,hS⟩:=hT
 have hS0:S 0=(best,least):=by rw [hS,hA]; rfl
 have hSs:∀ v,S (v + 1)=((rg k m (max n (v + 1))).map ((l ++ [(v:Int)]) ++ ·)).foldl (stp (cost g w h)) (S v):=by
  intro v
  rw [hS,hA]
  simp only [List.range_succ,List.flatMap_append,List.map_append,List.foldl_append,List.flatMap_cons,List.flatMap_nil,List.append_nil,List.map_map]
  congr 1
  refine List.map_congr_left fun r hr=>?_
  simp
 have hc:(if (k:Int) < w64 ((n:Int) + 1) then (k:Int) else w64 ((n:Int) + 1))=((min k (n + 1):Nat):Int):=by
  rw [w64_succ (by omega)]
  split <;> omega
 have hloop:whileO (fbod Fr ⟨g,(k:Int),l,best,least⟩ (n:Int)) (0,g.W,g.H,(k:Int),l,best,least)=some (g.W,g.H,(k:Int),l,(S (min k (n + 1))).1,(S (min k (n + 1))).2):=by
  have:=loop_seq (B:=fbod Fr ⟨g,(k:Int),l,best,least⟩ (n:Int)) (t:=(g.W,g.H,(k:Int),l,(S (min k (n + 1))).1,(S (min k (n + 1))).2)) (fun v=>((v:Int),g.W,g.H,(k:Int),l,(S v).1,(S v).2)) (min k (n + 1)) (fun v hv=>?_) ?_
  ·rw [hS0] at this
   exact this
  ·have hn2:(if (n:Int) < ((v + 1:Nat):Int) then ((v + 1:Nat):Int) else (n:Int))=((max n (v + 1):Nat):Int):=by
    split <;> omega
   have hh:=H (l ++ [(v:Int)]) (S v).1 (S v).2 (max n (v + 1)) (by simp; omega) (by
    intro y hy
    rcases List.mem_append.1 hy with h1 | h1
    ·exact hb y h1
    ·rw [List.mem_singleton.1 h1]; omega) (by omega)
   have hsl:sliceO (l ++ [(v:Int)]) 0 (w64 (((l ++ [(v:Int)]).length:Int) - 1))=some l:=by
    have e1:w64 (((l ++ [(v:Int)]).length:Int) - 1)=(l.length:Int):=by
     rw [w64_of (by simp only [List.length_append,List.length_singleton]; omega) (by simp only [List.length_append,List.length_singleton]; omega)]
     simp
    have e2:=sliceO_of (xs:=l ++ [(v:Int)]) (lo:=0) (hi:=(l.length:Int)) (l:=0) (k:=l.length) rfl rfl (by omega) (by simp)
    rw [e1,e2]
    simp
   unfold fbod
   simp only [hc,dT (show (v:Int) < ((min k (n + 1):Nat):Int) by omega),if_true,appO_of (xs:=l) (ys:=[(v:Int)]) (by simp; omega),Option.bind_some,hn2,hg,hh,hsl,w64_succ (show v < 9223372036854775807 by omega)]
   rw [hSs v]
  ·unfold fbod
   simp only [hc,dF (show ¬ ((min k (n + 1):Nat):Int) < ((min k (n + 1):Nat):Int) by omega),Bool.false_eq_true,if_false]
 have hend:((rg k (m + 1) n).map (l ++ ·)).foldl (stp (cost g w h)) (best,least)=S (min k (n + 1)):=by
  rw [hS,hA]
  rfl
 rw [hend]
 unfold FRs
 simp only [hlen,Bool.false_eq_true,if_false,hloop,Option.bind_some,hg]
theorem lev {g:api_Grid} {w h:Nat} (G:Gr g w h) {k:Nat} (hk:k ≤ 40) {Fr Fq:reduce_search→Int→Option reduce_search} (hF:Fr=FRs Fq) {a:Nat} (H:∀ j,j ≤ a→Spec g k w h Fq j):∀ j,j ≤ a + 1→Spec g k w h Fr j:=by
 intro j hj
 subst hF
 cases j with
 | zero=>exact spec0 G k Fq
 | succ j=>exact specS G hk Fq (H j (by omega))
theorem from_eq {g:api_Grid} {w h:Nat} (G:Gr g w h) {k:Nat} (hk:k ≤ 40):∀ j,j ≤ 8→Spec g k w h F_reduce_search_from_s1 j:=
 lev G hk FR_1 (lev G hk FR_2 (lev G hk FR_3 (lev G hk FR_4 (lev G hk FR_5 (lev G hk FR_6 (lev G hk FR_7 (lev G hk FR_8 (a:=0) fun j hj=>by
  obtain rfl:j=0:=by omega
  rw [FR_9]
  exact spec0 G k _)))))))
def bst (g:api_Grid) (w h k:Nat):List Int × Int:=(rg k w 0).foldl (stp (cost g w h)) ([],0)
theorem search_eq {g:api_Grid} {w h:Nat} (G:Gr g w h) {k:Nat} (hk:k ≤ 40) (hw:w ≤ 8):F_reduce_search_from_s1 ⟨g,(k:Int),[],[],0⟩ 0=some ⟨g,(k:Int),[],(bst g w h k).1,(bst g w h k).2⟩:=by
 have:=from_eq G hk w hw [] [] 0 0 (by simp) (fun y hy=>absurd hy List.not_mem_nil) (by omega)
 have e:(rg k w 0).map (([]:List Int) ++ ·)=rg k w 0:=by simp
 rw [e] at this
 exact this
def nr (b:Nat):List Int→Option (List Int)
 | []=>none
 | v :: r=>if v + 1 < (b:Int) then some ((v + 1) :: r) else (nr b r).map (0 :: ·)
def nxt (b:Nat) (l:List Int):Option (List Int):=(nr b l.reverse).map List.reverse
theorem nr_len {b:Nat} {q r:List Int} (h:nr b q=some r):r.length=q.length:=by
 induction q generalizing r with
 | nil=>cases h
 | cons v q ih=>
  simp only [nr] at h
  by_cases c:v + 1 < (b:Int)
  ·rw [if_pos c] at h
   cases h
   rfl
  ·rw [if_neg c] at h
   cases e:nr b q with
   | none=>rw [e] at h; cases h
   | some s=>
    rw [e] at h
    cases h
    simp [ih e]
theorem nr_snoc (b:Nat) (a:List Int) (v:Int):nr b (a ++ [v])=match nr b a with | some a'=>some (a' ++ [v]) | none=>if v + 1 < (b:Int) then some (List.replicate a.length 0 ++ [v + 1]) else none:=by
 induction a with
 | nil=>
  simp only [List.nil_append,nr,List.length_nil,List.replicate_zero]
  rfl
 | cons u a ih=>
  simp only [List.cons_append,nr]
  by_cases c:u + 1 < (b:Int)
  ·rw [if_pos c,if_pos c]
   rfl
  ·rw [if_neg c,if_neg c,ih]
   cases e:nr b a with
   | some s=>rfl
   | none=>
    simp only [Option.map_none]
    by_cases c2:v + 1 < (b:Int)
    ·rw [if_pos c2,if_pos c2]
     simp [List.replicate_succ]
    ·rw [if_neg c2,if_neg c2]
     rfl
theorem nxt_cons (b:Nat) (v:Int) (r:List Int):nxt b (v :: r)=match nxt b r with | some r'=>some (v :: r') | none=>if v + 1 < (b:Int) then some ((v + 1) :: List.replicate r.length 0) else none:=by
 unfold nxt
 rw [List.reverse_cons,nr_snoc]
 cases e:nr b r.reverse with
 | some s=>simp
 | none=>
  simp only [Option.map_none]
  by_cases c2:v + 1 < (b:Int)
  ·rw [if_pos c2,if_pos c2]
   simp
  ·rw [if_neg c2,if_neg c2]
   rfl
theorem idx_mid (a c:List Int) (v:Int):idxO (a ++ v :: c) (a.length:Int)=some v:=by
 rw [idxO_nat (by simp)]
 simp
theorem set_mid (a c:List Int) (v y:Int):setO (a ++ v :: c) (a.length:Int) y=some (a ++ y :: c):=by
 rw [setO_nat (by simp)]
 simp
theorem nx_loop {b:Nat} (hb:b ≤ 1000) (q:List Int) (z:Nat) (hq:∀ y,y ∈ q→0 ≤ y∧y < (b:Int)) (hl:q.length ≤ 1000) :
 whileO (raddleref17_next_s0_l1 (b:Int)) (q.reverse ++ List.replicate z 0,(q.length:Int) - 1)=some (match nr b q with | some r=>.inl (true,r.reverse ++ List.replicate z 0) | none=>.inr (List.replicate (q.length + z) 0)):=by
 induction q generalizing z with
 | nil=>
  refine whileO_done ?_
  unfold raddleref17_next_s0_l1
  simp [nr]
 | cons v q ih=>
  have hv:=hq v List.mem_cons_self
  have hll:q.length + 1 ≤ 1000:=by simpa using hl
  have e0:(v :: q).reverse ++ List.replicate z 0=q.reverse ++ v :: List.replicate z 0:=by simp
  have e1:(((v :: q).length:Nat):Int) - 1=(q.reverse.length:Int):=by simp
  rw [e0,e1]
  have hi:=idx_mid q.reverse (List.replicate z 0) v
  have hs:=set_mid q.reverse (List.replicate z 0) v (v + 1)
  have hi2:=idx_mid q.reverse (List.replicate z 0) (v + 1)
  have hs2:=set_mid q.reverse (List.replicate z 0) (v + 1) 0
  have hbody:raddleref17_next_s0_l1 (b:Int) (q.reverse ++ v :: List.replicate z 0,(q.reverse.length:Int))=some (if v + 1 < (b:Int) then .inr (.inl (true,q.reverse ++ (v + 1) :: List.replicate z 0)) else .inl (q.reverse ++ List.replicate (z + 1) 0,(q.length:Int) - 1)):=by
   unfold raddleref17_next_s0_l1
   simp only [dT (show (0:Int) ≤ (q.reverse.length:Int) by omega),if_true,hi,Option.bind_some,w64_of (x:=v + 1) (by omega) (by omega),hs,hi2]
   by_cases c:v + 1 < (b:Int)
   ·rw [if_pos c,dT c,if_pos rfl]
   ·rw [if_neg c,dF c,if_neg (by decide),hs2]
    simp only [Option.bind_some]
    rw [w64_of (by simp; omega) (by simp; omega),List.length_reverse,List.replicate_succ]
  by_cases c:v + 1 < (b:Int)
  ·rw [if_pos c] at hbody
   rw [whileO_done hbody]
   simp only [nr]
   rw [if_pos c]
   simp
  ·rw [if_neg c] at hbody
   rw [whileO_step hbody,ih (z + 1) (fun y hy=>hq y (List.mem_cons_of_mem _ hy)) (by omega)]
   simp only [nr]
   rw [if_neg c]
   cases nr b q with
   | some r=>simp [List.replicate_succ]
   | none=>
    simp only [Option.map_none,List.length_cons]
    rw [show q.length + (z + 1)=q.length + 1 + z by omega]
theorem next_eq {b:Nat} (hb:b ≤ 1000) (l:List Int) (hq:∀ y,y ∈ l→0 ≤ y∧y < (b:Int)) (hl:l.length ≤ 1000) :
 F_raddleref17_next_s0 l (b:Int)=some (match nxt b l with | some r=>(true,r) | none=>(false,List.replicate l.length 0)):=by
 have h1:=nx_loop hb l.reverse 0 (fun y hy=>hq y (List.mem_reverse.1 hy)) (by simpa using hl)
 simp only [List.reverse_reverse,List.replicate_zero,List.append_nil,List.length_reverse,Nat.add_zero] at h1
 unfold F_raddleref17_next_s0
 rw [w64_of (by omega) (by omega),h1]
 unfold nxt
 cases e:nr b l.reverse with
 | some r=>
  have:=nr_len e
  simp only [Option.bind_some,Option.map_some]
  have hk:keepO l r.reverse=some r.reverse:=by
   unfold keepO
   rw [List.length_reverse] at this ⊢
   rw [if_pos (by omega)]
  rw [hk]
  rfl
 | none=>
  simp only [Option.bind_some,Option.map_none]
  simp [keepO]
def od (b:Nat):Nat→List (List Int)
 | 0=>[[]]
 | m + 1=>(List.range b).flatMap fun (v:Nat)=>(od b m).map fun r=>(v:Int) :: r
theorem od_mem {b m:Nat} {l:List Int} (h:l ∈ od b m):l.length=m∧∀ y,y ∈ l→0 ≤ y∧y < (b:Int):=by
 induction m generalizing l with
 | zero=>
  rw [List.mem_singleton.1 h]
  exact ⟨rfl,fun y hy=>absurd hy List.not_mem_nil⟩
 | succ m ih=>
  obtain ⟨v,hv,h2⟩:=List.mem_flatMap.1 h
  obtain ⟨r,hr,rfl⟩:=List.mem_map.1 h2
  have hv2:=List.mem_range.1 hv
  refine ⟨by rw [List.length_cons,(ih hr).1],fun y hy=>?_⟩
  rcases List.mem_cons.1 hy with h3 | h3
  ·rw [h3]; omega
  ·exact (ih hr).2 y h3
inductive Tr (f:List Int→Option (List Int)):List Int→List (List Int)→Option (List Int)→Prop
 | one {x:List Int} {o:Option (List Int)} (h:f x=o):Tr f x [x] o
 | cons {x y:List Int} {L:List (List Int)} {o:Option (List Int)} (h:f x=some y) (t:Tr f y L o):Tr f x (x :: L) o
theorem Tr.app {f:List Int→Option (List Int)} {x y:List Int} {L1 L2:List (List Int)} {o o1:Option (List Int)} (h1:Tr f x L1 o1) (e:o1=some y) (h2:Tr f y L2 o):Tr f x (L1 ++ L2) o:=by
 induction h1 with
 | one h=>exact .cons (h.trans e) h2
 | cons h t ih=>exact .cons h (ih e)
theorem Tr.lift {b m:Nat} {v:Int} {x:List Int} {L:List (List Int)} {o:Option (List Int)} (h:Tr (nxt b) x L o) (ho:o=none) (hm:∀ l,l ∈ L→l.length=m) :
 Tr (nxt b) (v :: x) (L.map fun r=>v :: r) (if v + 1 < (b:Int) then some ((v + 1) :: List.replicate m 0) else none):=by
 induction h with
 | one h=>
  refine .one ?_
  rw [nxt_cons,h,ho]
  simp only
  rw [hm _ List.mem_cons_self]
 | cons h t ih=>
  refine .cons ?_ (ih ho fun l hl=>hm l (List.mem_cons_of_mem _ hl))
  rw [nxt_cons,h]
theorem od_tr {b:Nat} (hb:1 ≤ b) (m:Nat):Tr (nxt b) (List.replicate m 0) (od b m) none:=by
 induction m with
 | zero=>exact .one rfl
 | succ m ih=>
  have hm:∀ l,l ∈ od b m→l.length=m:=fun l hl=>(od_mem hl).1
  have key:∀ c v,v + c + 1=b→Tr (nxt b) ((v:Int) :: List.replicate m 0) ((List.range' v (c + 1)).flatMap fun (u:Nat)=>(od b m).map fun r=>(u:Int) :: r) none:=by
   intro c
   induction c with
   | zero=>
    intro v hv
    have:=Tr.lift (v:=(v:Int)) ih rfl hm
    rw [if_neg (by omega)] at this
    simpa using this
   | succ c ihc=>
    intro v hv
    have h1:=Tr.lift (v:=(v:Int)) ih rfl hm
    rw [if_pos (by omega)] at h1
    have h2:=ihc (v + 1) (by omega)
    rw [List.range'_succ,List.flatMap_cons]
    refine Tr.app h1 ?_ h2
    rw [Int.natCast_add,Int.natCast_one]
  have:=key (b - 1) 0 (by omega)
  rw [show b - 1 + 1=b by omega,← List.range_eq_range'] at this
  exact this
def nbt:Nat→List Int→Option Nat
 | n,[]=>some n
 | n,v :: r=>if (n:Int) < v then none else nbt (if v=(n:Int) then n + 1 else n) r
def good (k n:Nat) (l:List Int):Bool:=match nbt n l with | some t=>decide (t ≤ k) | none=>false
theorem numb_eq (l:List Int) (hl:l.length ≤ 1000) (k:Nat):F_raddleref17_numbered l (k:Int)=some (good k 0 l):=by
 have key:∀ j i n,j + i=l.length→n ≤ i→whileO (raddleref17_numbered_l1 l) ((n:Int),(i:Int))=some (match nbt n (l.drop i) with | some t=>.inr (t:Int) | none=>.inl false):=by
  intro j
  induction j with
  | zero=>
   intro i n hi hn
   obtain rfl:i=l.length:=by omega
   refine whileO_done ?_
   unfold raddleref17_numbered_l1
   simp [nbt]
  | succ j ih=>
   intro i n hi hn
   have hi2:i < l.length:=by omega
   have hd:l.drop i=l[i] :: l.drop (i + 1):=List.drop_eq_getElem_cons hi2
   rw [hd]
   have hbody:raddleref17_numbered_l1 l ((n:Int),(i:Int))=some (if (n:Int) < l[i] then .inr (.inl false) else .inl (((if l[i]=(n:Int) then n + 1 else n:Nat):Int),((i + 1:Nat):Int))):=by
    unfold raddleref17_numbered_l1
    simp only [dT (show (i:Int) < (l.length:Int) by omega),if_true,idxO_nat hi2,Option.bind_some,w64_succ (show i < 9223372036854775807 by omega),w64_succ (show n < 9223372036854775807 by omega)]
    by_cases c:(n:Int) < l[i]
    ·rw [if_pos c,dT c,if_pos rfl]
     rfl
    ·rw [if_neg c,dF c,if_neg (by decide)]
     by_cases c2:l[i]=(n:Int)
     ·rw [if_pos c2,bT c2,if_pos rfl]
      rfl
     ·rw [if_neg c2,bF c2,if_neg (by decide)]
      rfl
   simp only [nbt]
   by_cases c:(n:Int) < l[i]
   ·rw [if_pos c] at hbody
    rw [if_pos c,whileO_done hbody]
   ·rw [if_neg c] at hbody
    rw [if_neg c,whileO_step hbody]
    exact ih (i + 1) _ (by omega) (by split <;> omega)
 have h0:=key l.length 0 0 (by omega) (by omega)
 rw [List.drop_zero] at h0
 unfold F_raddleref17_numbered good
 have z:(((0:Nat):Int))=0:=rfl
 rw [z] at h0
 rw [h0]
 cases nbt 0 l with
 | some t=>
  simp only [Option.bind_some]
  congr 1
  exact decide_eq_decide.2 (by omega)
 | none=>rfl
theorem flat_cut {β:Type} {f f':Nat→List β} {c b:Nat} (hc:c ≤ b) (h1:∀ v,v < c→f v=f' v) (h2:∀ v,c ≤ v→v < b→f v=[]):(List.range b).flatMap f=(List.range c).flatMap f':=by
 obtain ⟨d,rfl⟩:∃ d,b=c + d:=⟨b - c,by omega⟩
 clear hc
 induction d with
 | zero=>
  simp only [Nat.add_zero] at h2 ⊢
  clear h2
  induction c with
  | zero=>rfl
  | succ c ih=>rw [List.range_succ,List.flatMap_append,List.flatMap_append,ih fun v hv=>h1 v (by omega)]; simp [h1 c (by omega)]
 | succ d ih=>
  rw [show c + (d + 1)=(c + d) + 1 by omega,List.range_succ,List.flatMap_append,ih fun v hv hv2=>h2 v hv (by omega)]
  simp [h2 (c + d) (by omega) (by omega)]
theorem filter_flat {α β:Type} (p:β→Bool) (f:α→List β) (l:List α):(l.flatMap f).filter p=l.flatMap fun a=>(f a).filter p:=by
 induction l with
 | nil=>rfl
 | cons a l ih=>rw [List.flatMap_cons,List.filter_append,ih,List.flatMap_cons]
theorem od_rg {w k m n:Nat} (hn:n ≤ k) (hw:n + m ≤ w):(od (min w k) m).filter (good k n)=rg k m n:=by
 induction m generalizing n with
 | zero=>
  have:good k n []=true:=by unfold good; simp [nbt,hn]
  simp [od,rg,this]
 | succ m ih=>
  simp only [od,rg]
  rw [filter_flat]
  refine flat_cut (by omega) (fun v hv=>?_) (fun v hv hv2=>?_)
  ·rw [List.filter_map]
   congr 1
   have e:(good k n) ∘ (fun r=>(v:Int) :: r)=good k (max n (v + 1)):=by
    funext r
    show good k n ((v:Int) :: r)=_
    unfold good
    simp only [nbt]
    rw [if_neg (by omega)]
    have:(if (v:Int)=(n:Int) then n + 1 else n)=max n (v + 1):=by split <;> omega
    rw [this]
   rw [e]
   exact ih (by omega) (by omega)
  ·rw [List.filter_map]
   have e:(good k n) ∘ (fun r=>(v:Int) :: r)=fun _=>false:=by
    funext r
    show good k n ((v:Int) :: r)=_
    unfold good
    simp only [nbt]
    rw [if_pos (by omega)]
   rw [e]
   simp
theorem best_round {g:api_Grid} {w h:Nat} (G:Gr g w h) {k:Nat} (x:List Int) (S:List Int × Int) (hx:x.length=w) (hb:∀ y,y ∈ x→0 ≤ y∧y < ((min w k:Nat):Int)) :
 raddleref17_best_l1 (k:Int) g (x,S.1,S.2)=some (match nxt (min w k) x with | some y=>.inl (y,(if good k 0 x=true then stp (cost g w h) S x else S).1,(if good k 0 x=true then stp (cost g w h) S x else S).2) | none=>.inr ((if good k 0 x=true then stp (cost g w h) S x else S).1,(if good k 0 x=true then stp (cost g w h) S x else S).2)):=by
 have w1:=G.w1
 have hn:=next_eq (b:=min w k) (by omega) x hb (by omega)
 have hm:(if g.W < (k:Int) then g.W else (k:Int))=((min w k:Nat):Int):=by rw [G.hw]; split <;> omega
 have ga:Gr (gm (outc g w x) w h) w h:=gm_gr _ G.w0 G.w1 G.h0 G.h1
 have hap:=apart_eq ga G
 rw [cost_apd G] at hap
 have hcl:appO ([]:List Int) x=some x:=by rw [appO_of (by simp; omega)]; rfl
 have hlen:((S.1.length:Int) == 0)=decide (S.1=[]):=by
  cases S.1 with
  | nil=>rfl
  | cons a t=>simp; omega
 unfold raddleref17_best_l1
 simp only [numb_eq x (by omega) k,Option.bind_some,hm]
 cases hg:good k 0 x with
 | false=>
  simp only [Bool.false_eq_true,if_false,Option.bind_some,hn]
  cases nxt (min w k) x with
  | some y=>rfl
  | none=>rfl
 | true=>
  simp only [if_true,rch_eq G x hx,Option.bind_some,hap,hlen]
  unfold stp
  by_cases c:S.1=[]
  ·rw [if_pos (show S.1=[] ∨ (cost g w h x:Int) < S.2 from .inl c)]
   simp only [dT c,if_true,Option.bind_some,hcl,hn]
   cases nxt (min w k) x with
   | some y=>rfl
   | none=>rfl
  ·by_cases c2:(cost g w h x:Int) < S.2
   ·rw [if_pos (show S.1=[] ∨ (cost g w h x:Int) < S.2 from .inr c2)]
    simp only [dF c,Bool.false_eq_true,if_false,dT c2,if_true,Option.bind_some,hcl,hn]
    cases nxt (min w k) x with
    | some y=>rfl
    | none=>rfl
   ·rw [if_neg (show ¬ (S.1=[] ∨ (cost g w h x:Int) < S.2) from fun hc=>hc.elim c c2)]
    simp only [dF c,Bool.false_eq_true,if_false,dF c2,Option.bind_some,hn]
    cases nxt (min w k) x with
    | some y=>rfl
    | none=>rfl
theorem best_loop {g:api_Grid} {w h:Nat} (G:Gr g w h) {k:Nat} {x:List Int} {L:List (List Int)} {o:Option (List Int)} (t:Tr (nxt (min w k)) x L o) (ho:o=none) (hL:∀ l,l ∈ L→l.length=w∧∀ y,y ∈ l→0 ≤ y∧y < ((min w k:Nat):Int)) (S:List Int × Int) :
 whileO (raddleref17_best_l1 (k:Int) g) (x,S.1,S.2)=some (L.foldl (fun S l=>if good k 0 l=true then stp (cost g w h) S l else S) S):=by
 induction t generalizing S with
 | @one x o hx=>
  have h1:=hL x List.mem_cons_self
  have hr:=best_round G (k:=k) x S h1.1 h1.2
  rw [hx,ho] at hr
  rw [whileO_done hr]
  rfl
 | @cons x y L o hx t ih=>
  have h1:=hL x List.mem_cons_self
  have hr:=best_round G (k:=k) x S h1.1 h1.2
  rw [hx] at hr
  rw [whileO_step hr,ih ho (fun l hl=>hL l (List.mem_cons_of_mem _ hl))]
  rfl
theorem rbest_eq {g:api_Grid} {w h:Nat} (G:Gr g w h) {k:Nat} (hk:1 ≤ k):F_raddleref17_best g (k:Int)=some (bst g w h k):=by
 have w0:=G.w0
 have w1:=G.w1
 have h1:=best_loop G (od_tr (b:=min w k) (by omega) w) rfl (fun l hl=>od_mem hl) ([],0)
 unfold F_raddleref17_best
 rw [makeO_of (k:=w) G.hw (by omega)]
 simp only [Option.bind_some]
 have e:(od (min w k) w).foldl (fun S l=>if good k 0 l=true then stp (cost g w h) S l else S) ([],0)=bst g w h k:=by
  unfold bst
  rw [← od_rg (w:=w) (k:=k) (m:=w) (n:=0) (by omega) (by omega),List.foldl_filter]
 rw [e] at h1
 rw [h1]
 rfl
def ferr (g:api_Grid):Int:=if gerr g=0 then (if 8 < g.W then 4 else 0) else gerr g
theorem few_eq (g:api_Grid):F_reduce_few g=some (ferr g)∧F_raddleref17_Few g=some (ferr g):=by
 unfold F_reduce_few F_raddleref17_Few ferr
 simp only [(gcheck_eq g).1,(gcheck_eq g).2,Option.bind_some]
 by_cases h:gerr g=0
 ·rw [nF h,if_pos h]
  by_cases h2:8 < g.W
  ·simp [h2]
  ·simp [h2]
 ·rw [nT h,if_neg h]
  exact ⟨rfl,rfl⟩
theorem gr_ferr {g:api_Grid} {w h:Nat} (G:Gr g w h) (hw:w ≤ 8):ferr g=0:=by
 unfold ferr
 rw [if_pos (gr_err G),if_neg (by rw [G.hw]; omega)]
theorem best_eq {g:api_Grid} {w h:Nat} (G:Gr g w h) (hw:w ≤ 8) {k:Nat} (h1:1 ≤ k) (h2:k ≤ 40) :
 F_reduce_Best g (k:Int)=some ((bst g w h k).1,(bst g w h k).2,0)∧F_raddleref17_Best g (k:Int)=some ((bst g w h k).1,(bst g w h k).2,0):=by
 unfold F_reduce_Best F_raddleref17_Best
 simp only [(few_eq g).1,(few_eq g).2,gr_ferr G hw,Option.bind_some,nF (show (0:Int)=0 from rfl),Bool.false_eq_true,if_false,dF (show ¬ (k:Int) < 1 by omega),dF (show ¬ (40:Int) < (k:Int) by omega),search_eq G h2 hw,rbest_eq G h1,and_self]
def csts (g:api_Grid) (w h n:Nat):List Int:=(List.range n).map fun i=>(bst g w h (i + 1)).2
theorem csts_succ (g:api_Grid) (w h n:Nat):csts g w h (n + 1)=csts g w h n ++ [(bst g w h (n + 1)).2]:=by simp [csts,List.range_succ]
theorem csts_len (g:api_Grid) (w h n:Nat):(csts g w h n).length=n:=by simp [csts]
theorem costs_eq {g:api_Grid} {w h:Nat} (G:Gr g w h) (hw:w ≤ 8):F_reduce_Costs g=some (csts g w h w,0)∧F_raddleref17_Costs g=some (csts g w h w,0):=by
 have l1:whileO (reduce_Costs_l1 g) (([]:List Int),0)=some (csts g w h w):=by
  refine loop_seq (fun i=>(csts g w h i,(i:Int))) w (fun i hi=>?_) ?_
  ·unfold reduce_Costs_l1
   rw [G.hw]
   simp only [dT (show (i:Int) < (w:Int) by omega),if_true,w64_succ (show i < 9223372036854775807 by omega),(best_eq G hw (k:=i + 1) (by omega) (by omega)).1,Option.bind_some,appO_of (xs:=csts g w h i) (ys:=[(bst g w h (i + 1)).2]) (by rw [csts_len]; simp; omega),csts_succ]
  ·unfold reduce_Costs_l1
   rw [G.hw]
   simp only [dF (show ¬ (w:Int) < (w:Int) by omega),Bool.false_eq_true,if_false]
 have l2:whileO (raddleref17_Costs_l1 g) (([]:List Int),1)=some (csts g w h w):=by
  refine loop_seq (fun i=>(csts g w h i,((i + 1:Nat):Int))) w (fun i hi=>?_) ?_
  ·unfold raddleref17_Costs_l1
   rw [G.hw]
   simp only [dT (show ((i + 1:Nat):Int) ≤ (w:Int) by omega),if_true,w64_succ (show i + 1 < 9223372036854775807 by omega),rbest_eq G (k:=i + 1) (by omega),Option.bind_some,appO_of (xs:=csts g w h i) (ys:=[(bst g w h (i + 1)).2]) (by rw [csts_len]; simp; omega),csts_succ]
  ·unfold raddleref17_Costs_l1
   rw [G.hw]
   simp only [dF (show ¬ ((w + 1:Nat):Int) ≤ (w:Int) by omega),Bool.false_eq_true,if_false]
 unfold F_reduce_Costs F_raddleref17_Costs
 simp only [(few_eq g).1,(few_eq g).2,gr_ferr G hw,Option.bind_some,nF (show (0:Int)=0 from rfl),Bool.false_eq_true,if_false,l1,l2,and_self]
def g3:api_Grid:=⟨3,2,[true,true,true,true,true,false]⟩
def g2:api_Grid:=⟨2,1,[true,false]⟩
theorem three_eq:F_raddlelaw17_three=some g3:=rfl
theorem two_eq:F_raddlelaw17_two=some g2:=rfl
theorem G3:Gr g3 3 2:=⟨rfl,rfl,by decide,by decide,by decide,by decide,rfl⟩
theorem G2:Gr g2 2 1:=⟨rfl,rfl,by decide,by decide,by decide,by decide,rfl⟩
theorem al1:F_reduce_Best g3 1=some ([0,0,0],1,0):=by
 have:=(best_eq G3 (by decide) (k:=1) (by decide) (by decide)).1
 rw [show bst g3 3 2 1=([0,0,0],1) by decide] at this
 exact this
theorem al2:F_reduce_Change g3 [0,0,0]=some (⟨3,2,[true,true,true,true,true,true]⟩,1,0):=by
 rw [chg_plain,chg_eq G3 [0,0,0] rfl (by decide),show cost g3 3 2 [0,0,0]=1 by decide]
 rfl
theorem al3:F_reduce_Best g3 2=some ([0,0,1],0,0):=by
 have:=(best_eq G3 (by decide) (k:=2) (by decide) (by decide)).1
 rw [show bst g3 3 2 2=([0,0,1],0) by decide] at this
 exact this
theorem al4:F_reduce_Change g2 [0,0]=some (⟨2,1,[false,false]⟩,1,0):=by
 rw [chg_plain,chg_eq G2 [0,0] rfl (by decide),show cost g2 2 1 [0,0]=1 by decide]
 rfl
theorem zero21:F_raddleref01_Zero 2 1=some ⟨2,1,[false,false]⟩:=by
 unfold F_raddleref01_Zero
 rw [makeO_of (k:=2) (by decide) (by decide)]
 rfl
theorem alive17:F_raddlelaw17_alive=some true:=by
 have s1:F_raddleref02_Same [0,0,0] [0,0,0]=some true:=by rw [rsame_il _ _ (by decide)]; rfl
 have s2:F_raddleref02_Same [0,0,1] [0,0,1]=some true:=by rw [rsame_il _ _ (by decide)]; rfl
 have s3:F_raddleref01_Same ⟨3,2,[true,true,true,true,true,true]⟩ ⟨3,2,[true,true,true,true,true,true]⟩=some true:=by rw [rsame_grid _ _ (by decide)]; simp
 have s4:F_raddleref01_Same ⟨2,1,[false,false]⟩ ⟨2,1,[false,false]⟩=some true:=by rw [rsame_grid _ _ (by decide)]; simp
 unfold F_raddlelaw17_alive
 simp only [three_eq,two_eq,al1,al2,al3,al4,Option.bind_some,zero21,s1,s2,s3,s4]
 rfl
theorem rg_head {k:Nat} (hk:1 ≤ k) (m n:Nat):∃ t,rg k m n=List.replicate m 0 :: t:=by
 induction m generalizing n with
 | zero=>exact ⟨[],rfl⟩
 | succ m ih=>
  obtain ⟨c,hc⟩:∃ c,min k (n + 1)=c + 1:=⟨min k (n + 1) - 1,by omega⟩
  obtain ⟨t,ht⟩:=ih (max n (0 + 1))
  simp only [rg]
  rw [hc,List.range_succ_eq_map,List.flatMap_cons,ht]
  exact ⟨_,by rw [List.map_cons,List.cons_append,List.replicate_succ]; rfl⟩
noncomputable def F_grid_Not_1_s0 (p0:Int) (p1:Int) (p2:api_Grid):Option Bool:=
 (idxO p2.Bits (w64 ((w64 (p1 * p2.W)) + p0))).bind fun a0=>
 some (!a0)
theorem c_grid_Not_1_s0 (E:Nat→Prop) (w0:World) (p0:Int) (p1:Int) (p2:api_Grid) (v2:Value) (r:Bool) (h:F_grid_Not_1_s0 p0 p1 p2=some r) (S:St0 E [] w0 w0 [] [fPtr r_api_Grid (v2) p2]) :
 Calls Try.prog 46 #[iv p0,iv p1,v2] w0 (Ret (X:=Unit) E [] w0 (fun _=>.bool r) (fun _=>[]) (fun _=>[])):=by
 unfold F_grid_Not_1_s0 at h
 refine sEnter (args:=[iv p0,iv p1,v2]) 17 Try.func46 y y (by simp) S (fun a S=>?_)
 refine sSeq (fun K1 a9=>sRegion (sN S fun a S=>?_))
 refine lT (a9 _ _ (sSeq (fun K2 aa=>sRegion ?_)))
 obtain ⟨q3,ab,S⟩:=pFld (P:=Try.prog) (r:=r_api_Grid) (s2:=(rL rB)) (g:=(·.Bits)) (q:=v2) (z:=p2) 24 2 0 2 S y y comp_api_Grid_Bits
 refine sFldV (q:=v2) S (wN y) y y ab y (lb y) fun a S=>?_
 obtain ⟨u5,S⟩:=pLoad (r:=(rL rB)) (q:=q3) (x:=p2.Bits) 0 S y
 obtain ⟨a4,a5,_,rfl,_⟩:=S.mem.know (i:=1) (e:=fRep (rL rB) (u5) p2.Bits) y
 refine sLoadV1 (vq:=q3) 0 (.slice a4 p2.Bits.length a5) S (wN y) y y y y y (lb y) fun a S=>sM S fun a S=>?_
 obtain ⟨q8,ac,S⟩:=pFld (P:=Try.prog) (r:=r_api_Grid) (s2:=(rI .i64)) (g:=(·.W)) (q:=v2) (z:=p2) 24 0 3 0 S y y comp_api_Grid_W
 refine sFldV (q:=v2) S (wN y) y y ac y (lb y) fun a S=>?_
 obtain ⟨a6,S⟩:=pLoad (r:=(rI .i64)) (q:=q8) (x:=p2.W) 0 S y
 obtain rfl:a6=iv p2.W:=S.mem.know (i:=1) (e:=fRep (rI .i64) (a6) p2.W) y
 refine sLoadV1 (vq:=q8) 0 (iv p2.W) S (wN y) y y y y y (lb y) fun a S=>sBin _ S (wN y) y y y (bMul _ _ _ _ p1 p2.W) y (lb y) fun a S=>sM S fun a S=>?_
 refine sBin _ S (wN y) y y y (bAdd _ _ _ _ (w64 (p1 * p2.W)) p0) y (lb y) fun a S=>?_
 obtain ⟨a0,a2,h⟩:=bS h
 obtain ⟨a7,a3,S⟩:=pIdx (P:=Try.prog) (r:=rB) (v:=.slice a4 p2.Bits.length a5) (xs:=p2.Bits) (j:=w64 ((w64 (p1 * p2.W)) + p0)) 22 4 4 S Try.underlying22 y y a2
 refine sIdxV S (wN y) y y y a3 y (lb y) fun a S=>?_
 obtain ⟨a8,S⟩:=pLoad (r:=rB) (q:=a7) (x:=a0) 0 S y
 obtain rfl:a8=.bool a0:=S.mem.know (i:=1) (e:=fRep rB (a8) a0) y
 refine sLoadV1 (vq:=a7) 0 (.bool a0) S (wN y) y y y y y (lb y) fun a S=>sNot (b:=a0) S (wN y) y y y (lb y) fun a S=>sN S fun a S=>?_
 refine lT (aa _ _ ?_)
 obtain rfl:=tS h
 exact wp_ret (sRet (.bool (!a0)) S (rsl1 y (rvT (t:=5) (v:=.bool (!a0)) S y)) ⟨(),y,S.mem.sel [] [] (by decide) y y⟩)
def anc_grid_build_s0_0:List (List Nat):=[[],[0],[],[],[],[2,3,4],[2,3,4,5],[0,1,2,3,4,5,6],[0,1,2,3,4,5,6,7],[0,1,2,3,4,5,6,7,8]]
noncomputable def grid_build_s0_l1 (p0:Int) (a3:Int) (p2:api_Grid):(Int × List Bool)→Option ((Int × List Bool) ⊕ List Bool):=fun s0=>match s0 with
 | (a0,a2)=>
  if decide (a0 < p0) then
   (F_grid_Not_1_s0 a0 a3 p2).bind fun a4=>
   (appO a2 [a4]).bind fun a5=>
   some (.inl (w64 (a0 + 1),a5))
  else
   some (.inr a2)
noncomputable def grid_build_s0_l2 (p1:Int) (p0:Int) (p2:api_Grid):(Int × List Bool)→Option ((Int × List Bool) ⊕ List Bool):=fun s0=>match s0 with
 | (a0,a2)=>
  if decide (a0 < p1) then
   Option.bind (α:=List Bool) (
    (whileO (grid_build_s0_l1 p0 a0 p2) (0,a2)).bind fun a3=>
     some a3) fun a4=>
   some (.inl (w64 (a0 + 1),a4))
  else
   some (.inr a2)
noncomputable def F_grid_build_s0 (p0:Int) (p1:Int) (p2:api_Grid):Option api_Grid:=
 (capO (w64 (p0 * p1))).bind fun z6=>
 Option.bind (α:=List Bool) (
  (whileO (grid_build_s0_l2 p1 p0 p2) (0,([]:List Bool))).bind fun a0=>
   some a0) fun o9=>
 some (api_Grid.mk p0 p1 o9)
def c_grid_build_s0_val (r:api_Grid) (x:Value):Value:=x
def c_grid_build_s0_D (r:api_Grid) (x:Value):List Fact:=[fRep r_api_Grid x r]
theorem c_grid_build_s0 (E:Nat→Prop) (w0:World) (p0:Int) (p1:Int) (p2:api_Grid) (v2:Value) (r:api_Grid) (h:F_grid_build_s0 p0 p1 p2=some r) (S:St0 E [] w0 w0 [] [fPtr r_api_Grid (v2) p2]) :
 Calls Try.prog 45 #[iv p0,iv p1,.func (.func 46) #[] #[v2]] w0 (Ret (X:=Value) E [] w0 (c_grid_build_s0_val r) (fun _=>[]) (c_grid_build_s0_D r)):=by
 unfold F_grid_build_s0 at h
 refine sEnter (args:=[iv p0,iv p1,.func (.func 46) #[] #[v2]]) 37 Try.func45 y y (by simp) S (fun a S=>?_)
 refine sSeq (fun K1 aK=>sRegion (sAlloc (.agg #[iv 0,iv 0,.slice none 0 0]) S (wN y) y y [iv 0,iv 0,.slice none 0 0] y y (lb y) fun a b2 w S=>lT (aK _ _ (sSeq (fun K3 aL=>sRegion (sM S fun a S=>?_))))))
 refine sM S fun a S=>?_
 refine sM S fun a S=>?_
 refine sM S fun a S=>?_
 refine sBin _ S (wN y) y y y (bMul _ _ _ _ p0 p1) y (lb y) fun a S=>?_
 obtain ⟨z6,aM,h⟩:=bS h
 refine sMake0 rB (m:=w64 (p0 * p1)) (u:=z6) (.bool false) 1 S (wN y) y Try.underlying22 y (by decide) y y aM y (lb y) fun a w al am S=>?_
 refine sBuild [(0,iv p0),(1,iv p1),(2,.slice al ([]:List Bool).length am)] [iv p0,iv p1,.slice al ([]:List Bool).length am] S (wN y) y y y y (lb y) fun a S=>sAlloc (.agg #[iv 0,iv 0,.slice none 0 0]) S (wN y) y y [iv 0,iv 0,.slice none 0 0] y y (lb y) fun a b8 w S=>sStore (p:=b8) (off:=0) (T:=24) (vs:=[iv 0,iv 0,.slice none 0 0]) (v:=.agg #[iv p0,iv p1,.slice al ([]:List Bool).length am]) 0 [iv p0,iv p1,.slice al ([]:List Bool).length am] S (wN y) y y y y y y y (by simp) y fun a w S=>lT (aL _ _ ?_)
 obtain ⟨aO,h,aP⟩:=bS h
 refine sCut (fun a w=>∃ o9,o9=aO∧∃ a0,∃ a2,St [] E [] w0 37 a w [(6,.pointer (some ⟨b2,0,none⟩)),(7,.pointer (some ⟨b8,0,none⟩))] [eBox b2 24 [iv 0,iv 0,.slice none 0 0],eBox b8 24 [iv p0,iv p1,.slice a0 o9.length a2],eRow rB 4 (.slice a0 o9.length a2) o9] []) ?_ (fun a w hI=>?_)
 rotate_left
 ·obtain ⟨o9,rfl,a0,a2,S⟩:=hI
  have h:=aP
  try dsimp only at h
  refine sSeq (fun aU aq=>sRegion (sLoadN (p:=b8) (off:=0) (T:=24) (vs:=[iv p0,iv p1,.slice a0 o9.length a2]) 1 [iv p0,iv p1,.slice a0 o9.length a2] S (wN y) y y y y y y y (lb y) fun a S=>sStore (p:=b2) (off:=0) (T:=24) (vs:=[iv 0,iv 0,.slice none 0 0]) (v:=.agg #[iv p0,iv p1,.slice a0 o9.length a2]) 0 [iv p0,iv p1,.slice a0 o9.length a2] S (wN y) y y y y y y y (by simp) y fun a w S=>lT (aq _ _ ?_)))
  obtain rfl:=tS h
  have S:=S.shutR (r:=rB) (T:=4) (v:=.slice a0 o9.length a2) (xs:=o9) 2 y
  have S:=S.learn (fRep r_api_Grid (.agg #[iv p0,iv p1,.slice a0 o9.length a2]) (api_Grid.mk p0 p1 o9)) ⟨_,y,S.mem.know (i:=0) (e:=fRep (rL rB) (.slice a0 o9.length a2) o9) y⟩
  exact wp_ret (sRet (.agg #[iv p0,iv p1,.slice a0 o9.length a2]) S (rsl1 y (rvN (c:=6) (t:=24) (T:=24) (p:=b2) 0 [iv p0,iv p1,.slice a0 o9.length a2] S y y y y)) ⟨(.agg #[iv p0,iv p1,.slice a0 o9.length a2]),y,S.mem.sel [] [0] (by decide) y y⟩)
 refine sSeq (fun aV ar=>sRegion (sM S fun a S=>?_))
 refine sM S fun a S=>?_
 refine lT (ar _ _ (wp_block ?_))
 obtain ⟨aW,hl,aQ⟩:=bS h
 refine sLoop hl (fun s0 a w=>match s0 with | (a5,ao)=>∃ a8,∃ a9,St [] E [] w0 37 a w [(0,iv p0),(2,.func (.func 46) #[] #[v2]),(6,.pointer (some ⟨b2,0,none⟩)),(7,.pointer (some ⟨b8,0,none⟩)),(17,iv p1),(18,iv a5)] [eBox b2 24 [iv 0,iv 0,.slice none 0 0],eBox b8 24 [iv p0,iv p1,.slice a8 ao.length a9],eRow rB 4 (.slice a8 ao.length a9) ao] [fPtr r_api_Grid (v2) p2]) ⟨al,am,S.fix [2,0,1] [0] (by decide) y y y⟩ ?_
 clear hl h
 intro s0 a w c0 hI h au
 obtain ⟨a5,ao⟩:=s0
 unfold grid_build_s0_l2 at h
 dsimp only at h hI
 obtain ⟨a8,a9,S⟩:=hI
 refine sSeq (fun aX av=>sRegion (sBin _ S (wN y) y y y (bLt _ _ _ _ .i64 a5 p1) y (lb y) fun a S=>lT (av _ _ (sSeq (fun aZ aw=>?_)))))
 rcases iS h with ⟨ag,h⟩ | ⟨ag,h⟩
 rotate_left
 ·refine sCondF S y ag ?_
  obtain rfl:=tS h
  obtain rfl:=au _ y
  have h:=aQ
  try dsimp only at h
  exact wp_exit (xThen (xThen (xHit (leafT (⟨ao,Option.some.inj h,a8,a9,S.fix [0,1,2] [] (by decide) y y y⟩)))))
 refine sCondT S y ag (wp_skip (leafT (aw _ _ ?_)))
 obtain ⟨aR,h,aS⟩:=bS h
 refine sCut (fun a w=>∃ ak,ak=aR∧∃ ac,∃ ae,St [] E [] w0 37 a w [(0,iv p0),(2,.func (.func 46) #[] #[v2]),(6,.pointer (some ⟨b2,0,none⟩)),(7,.pointer (some ⟨b8,0,none⟩)),(17,iv p1),(18,iv a5)] [eBox b2 24 [iv 0,iv 0,.slice none 0 0],eBox b8 24 [iv p0,iv p1,.slice ac ak.length ae],eRow rB 4 (.slice ac ak.length ae) ak] [fPtr r_api_Grid (v2) p2]) ?_ (fun a w hI=>?_)
 rotate_left
 ·obtain ⟨ak,rfl,ac,ae,S⟩:=hI
  have h:=aS
  try dsimp only at h
  refine sRegion (sBin _ S (wN y) y y y (bAdd _ _ _ _ a5 1) y (lb y) fun a S=>sM S fun a S=>?_)
  exact lT (⟨(w64 (a5 + 1),ak),(Option.some.inj h).symm,⟨ac,ae,S.fix [0,1,2] [0] (by decide) y y y⟩⟩)
 refine wp_block ?_
 refine sSeq (fun b1 ax=>sRegion (sM S fun a S=>?_))
 refine sN S fun a S=>?_
 refine lT (ax _ _ (sSeq (fun b3 ay=>sRegion (sM S fun a S=>?_))))
 refine sM S fun a S=>?_
 refine lT (ay _ _ (wp_block ?_))
 obtain ⟨b4,hl,aT⟩:=bS h
 refine sLoop hl (fun s0 a w=>match s0 with | (af,a6)=>∃ a3,∃ a4,St [] E [] w0 37 a w [(0,iv p0),(2,.func (.func 46) #[] #[v2]),(6,.pointer (some ⟨b2,0,none⟩)),(7,.pointer (some ⟨b8,0,none⟩)),(8,iv a5),(17,iv p1),(18,iv a5),(21,iv p0),(22,iv af)] [eBox b2 24 [iv 0,iv 0,.slice none 0 0],eBox b8 24 [iv p0,iv p1,.slice a3 a6.length a4],eRow rB 4 (.slice a3 a6.length a4) a6] [fPtr r_api_Grid (v2) p2]) ⟨a8,a9,S.fix [0,1,2] [0] (by decide) y y y⟩ ?_
 clear hl h
 intro s0 a w c0 hI h az
 obtain ⟨af,a6⟩:=s0
 unfold grid_build_s0_l1 at h
 dsimp only at h hI
 obtain ⟨a3,a4,S⟩:=hI
 refine sSeq (fun b5 aA=>sRegion (sBin _ S (wN y) y y y (bLt _ _ _ _ .i64 af p0) y (lb y) fun a S=>lT (aA _ _ (sSeq (fun ba aC=>?_)))))
 rcases iS h with ⟨ah,h⟩ | ⟨ah,h⟩
 rotate_left
 ·refine sCondF S y ah ?_
  obtain rfl:=tS h
  obtain rfl:=az _ y
  have h:=aT
  try dsimp only at h
  exact wp_exit (xThen (xThen (xHit (leafB (leafT (⟨a6,Option.some.inj h,a3,a4,S.fix [0,1,2] [0] (by decide) y y y⟩))))))
 refine sCondT S y ah (wp_skip (leafT (aC _ _ ?_)))
 refine sSeq (fun bb aG=>wp_block ?_)
 refine sSeq (fun bc aH=>sRegion (sM S fun a S=>?_))
 refine sN S fun a S=>?_
 refine lT (aH _ _ ?_)
 obtain ⟨a7,aI,h⟩:=bS h
 obtain ⟨ap,aJ,h⟩:=bS h
 refine sDraw (nf:=[6,7,9]) (W:=[(0,25,.pointer (some ⟨b8,2,none⟩)),(1,26,.slice a3 a6.length a4),(2,27,.func (.func 46) #[] #[v2]),(3,28,iv af),(4,29,iv a5),(5,30,.bool a7)]) y S ?_
 refine node_by (A:=anc_grid_build_s0_0) 10 (by kernel_rfl) (by kernel_rfl) (by kernel_rfl) (by kernel_rfl) (by kernel_rfl) [0,1,2,3,4,5] (by kernel_rfl) (by decide) (by decide) (fF ?_ (fF ?_ (fF ?_ (fF ?_ (fF ?_ (fF ?_ (fN ?_ (aB 7 2 6 (by decide) (fE 6 (aB 9 0 6 (by decide) (trivial))))))))))) [] (fun q hq=>by cases hq) (fun hY=>absurd (hY 6 (by decide)) (by decide))
 ·refine fJ [(7,_)] 0 [none] fun G a w S=>?_
  exact sField (b:=b8) (off:=0) 2 2 S (wN y) y y y y y (lb y) fun a S=>leafL ⟨y,S⟩
 ·refine fJ [(25,_)] 1 [some 0] fun G a w S=>?_
  exact sLoad1 1 (.slice a3 a6.length a4) S (wN y) y y y y y y (lb y) fun a S=>leafL ⟨y,S⟩
 ·exact fM 2 none y y y y (.inl y) y y y
 ·exact fM 3 none y y y y (.inl y) y y y
 ·exact fM 4 none y y y y (.inl y) y y y
 ·refine fJ [(27,_),(28,_),(29,_)] 5 [some 2,some 3,some 4] fun G a w S=>?_
  have S1:=S.mem
  refine sCallVQ (X:=Unit) (g:=46) (vs:=[iv af,iv a5]) (caps:=[v2]) (val:=fun _=>.bool a7) S (wN y) y y callee46 y (S1.quiet [0] y) (fun E1 w1 S1=>c_grid_Not_1_s0 E1 w1 af a5 p2 v2 a7 aI S1) y (lb y) fun _ a w S=>?_
  exact leafL ⟨y,S⟩
 refine ⟨_,[(30,.bool a7)],y,(srcs_of [some 5] y y y),fun G a w S=>?_⟩
 refine sLit (r:=rB) (T:=4) (xs:=[a7]) [(0,.bool a7)] 1 [.bool a7] [.bool a7] (.bool false) 1 S (wN y) y y Try.underlying22 y (by decide) (by decide) (by kernel_rfl) y (fun E1 w1 hE=>All.cons y (All.nil _ _ _)) y y (lb y) fun a w ai aj S=>?_
 refine leafL ⟨y,_,_,.inl ⟨31,(.slice ai [a7].length aj),[],y,S,hz_of y,?_⟩⟩
 refine node_by (A:=anc_grid_build_s0_0) 10 (by kernel_rfl) (by kernel_rfl) (by kernel_rfl) (by kernel_rfl) (by kernel_rfl) [6,0,1,2,3,4,5] (by kernel_rfl) (by decide) (by decide) (fF ?_ (fF ?_ (fD 6 (fD 6 (fD 6 (fD 6 (fY (fN ?_ (fE 7 (aB 9 0 7 (by decide) (trivial))))))))))) [] (fun q hq=>by cases hq) (fun hY=>absurd (hY 7 (by decide)) (by decide))
 ·refine fJ [(7,_)] 1 [none] fun G a w S=>?_
  exact sField (b:=b8) (off:=0) 2 2 S (wN y) y y y y y (lb y) fun a S=>leafL ⟨y,S⟩
 ·refine fJ [(25,_)] 2 [some 1] fun G a w S=>?_
  exact sLoad1 2 (.slice a3 a6.length a4) S (wN y) y y y y y y (lb y) fun a S=>leafL ⟨y,S⟩
 refine ⟨_,[(26,.slice a3 a6.length a4),(31,.slice ai [a7].length aj)],y,(srcs_of [some 2,some 0] y y y),fun G a w S=>?_⟩
 refine sApp (r:=rB) (T:=4) (xs:=a6) (ys:=[a7]) (v:=.slice a3 a6.length a4) (u:=.slice ai [a7].length aj) 3 (.bool false) 1 S (wN y) y Try.underlying22 y y (by decide) y y y (src_R (T:=4) 0 S.mem y) aJ y (lb y) fun a w aa ab S=>leafL ⟨y,_,_,.inl ⟨32,(.slice aa ap.length ab),[(8,33,.pointer (some ⟨b8,2,none⟩))],y,S,hz_of y,?_⟩⟩
 refine node_by (A:=anc_grid_build_s0_0) 10 (by kernel_rfl) (by kernel_rfl) (by kernel_rfl) (by kernel_rfl) (by kernel_rfl) [8,7,6,0,1,2,3,4,5] (by kernel_rfl) (by decide) (by decide) (fD 7 (fD 7 (fD 7 (fD 7 (fD 7 (fD 7 (fY (fY (fF ?_ (fN ?_ (trivial))))))))))) [] (fun q hq=>by cases hq) (fun hY=>absurd (hY 9 (by decide)) (by decide))
 ·refine fJ [(7,_)] 0 [none] fun G a w S=>?_
  exact sField (b:=b8) (off:=0) 2 2 S (wN y) y y y y y (lb y) fun a S=>leafL ⟨y,S⟩
 refine ⟨_,[(32,.slice aa ap.length ab),(33,.pointer (some ⟨b8,2,none⟩))],y,(srcs_of [some 1,some 0] y y y),fun G a w S=>?_⟩
 refine sStore (p:=b8) (off:=2) (T:=24) (vs:=[iv p0,iv p1,.slice a3 a6.length a4]) (v:=.slice aa ap.length ab) 3 [.slice aa ap.length ab] S (wN y) y y y y y y y (by simp) y fun a w S=>leafL ⟨y,_,_,.inr ⟨[],y,S,hz_of y,?_⟩⟩
 refine node_by (A:=anc_grid_build_s0_0) 10 (by kernel_rfl) (by kernel_rfl) (by kernel_rfl) (by kernel_rfl) (by kernel_rfl) [8,7,6,0,1,2,3,4,5] (by kernel_rfl) (by decide) (by decide) (fD 9 (fD 9 (fD 9 (fD 9 (fD 9 (fD 9 (fY (fY (fD 9 (fY (trivial))))))))))) [(0,iv p0),(2,.func (.func 46) #[] #[v2]),(6,.pointer (some ⟨b2,0,none⟩)),(7,.pointer (some ⟨b8,0,none⟩)),(8,iv a5),(17,iv p1),(18,iv a5),(21,iv p0),(22,iv af)] (fin_of [none,none,none,none,none,none,none,none,none] y (by kernel_rfl) (by kernel_rfl)) (fun _ a w S=>?_)
 refine leafB (leafT (aG _ _ ?_))
 refine sRegion (sBin _ S (wN y) y y y (bAdd _ _ _ _ af 1) y (lb y) fun a S=>sM S fun a S=>?_)
 exact lT (⟨(w64 (af + 1),ap),(Option.some.inj h).symm,⟨aa,ab,S.fix [3,0,1] [0] (by decide) y y y⟩⟩)
end Go.Proofs.Ytapohhkdpkapoaa
