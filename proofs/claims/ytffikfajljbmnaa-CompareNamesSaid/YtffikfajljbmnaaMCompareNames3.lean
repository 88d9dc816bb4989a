/- CompareNames: walks, tables, laws. -/
import Derived.Test.YtffikfajljbmnaaProg
import Derived.Test.YtffikfajljbmnaaRows
import Derived.Test.YtffikfajljbmnaaMCompareNames2
set_option linter.unusedVariables false
set_option linter.unusedSimpArgs false
set_option maxHeartbeats 4000000
set_option maxRecDepth 100000
namespace Go.Proofs.Ytffikfajljbmnaa
open Go.RowKit
def anc_compare_Nearest_0:List (List Nat):=[[],[],[1],[],[3],[0],[0,1,2,5],[0,1,2,3,4,5,6],[0,1,2,3,4,5,6,7]]
noncomputable def compare_Nearest_l2 (p1:api_Grid):(Int × Int × Int × Int)→(compare_way × api_Grid)→Option ((Int × Int × Int × Int) ⊕ (Int × Int × Int × Int)):=fun s0 x0=>match s0,x0 with
 | (a4,a9,aa,ab),(a0,ac)=>
  Option.bind (α:=(Int × Int × Int × Int)) (
   (F_compare_differ ac.Bits p1.Bits).bind fun a5=>
   if decide (a5 < a4) then
    some (a5,a0.op,a0.at_.X,a0.at_.Y)
   else
    some (a4,a9,aa,ab)) fun (a2,a6,a7,a8)=>
  if a2 == 0 then
   some (.inr (a2,a6,a7,a8))
  else
   some (.inl (a2,a6,a7,a8))
noncomputable def F_compare_Nearest (p0:api_Grid) (p1:api_Grid) (p2:Int):Option (Int × Int × api_Point × Int):=
 (F_grid_Check p0).bind fun a0=>
 if a0 != 0 then
  some (0,0,(api_Point.mk 0 0),a0)
 else
  (F_grid_Check p1).bind fun a2=>
  if a2 != 0 then
   some (0,0,(api_Point.mk 0 0),a2)
  else
   if decide (16 < (max4 p0.W p0.H p1.W p1.H)) then
    some (0,0,(api_Point.mk 0 0),4)
   else
    Option.bind (α:=Bool) (
     if decide (p2 < 0) then
      some true
     else
      if decide (3 < p2) then
       some true
      else
       if p0.W != p1.W then
        some true
       else
        if p0.H != p1.H then
         some true
        else
         if decide (1 < p2) then
          some (p0.W != p0.H)
         else
          some false) fun a5=>
    if a5 then
     some (0,0,(api_Point.mk 0 0),2)
    else
     Option.bind (α:=(Int × Int × Int × Int)) (
      (F_compare_ways p0 p2).bind fun a4=>
      (I_compare_ways_1 a4.1 a4.2 _ _ (compare_Nearest_l2 p1) (w64 ((p0.Bits.length:Int) + 1),0,0,0)).bind fun z0=>match z0 with
       | .inl (a6,a7,a8,a9)=>
        some (a6,a7,a8,a9)
       | .inr (aa,ab,ac,ae)=>
        some (aa,ab,ac,ae)) fun (af,ag,ah,ai)=>
     some (af,ag,(api_Point.mk ah ai),0)
def c_compare_Nearest_val (r:(Int × Int × api_Point × Int)) (x:Value):Value:=.tuple #[.int .i64 r.1,.int .i64 r.2.1,x,.int .i64 r.2.2.2]
def c_compare_Nearest_D (r:(Int × Int × api_Point × Int)) (x:Value):List Fact:=[fRep r_api_Point x r.2.2.1]
theorem c_compare_Nearest (E:Nat→Prop) (w0:World) (p0:api_Grid) (v0:Value) (p1:api_Grid) (v1:Value) (p2:Int) (r:(Int × Int × api_Point × Int)) (h:F_compare_Nearest p0 p1 p2=some r) (S:St0 E [] w0 w0 [] [fRep r_api_Grid (v0) p0,fRep r_api_Grid (v1) p1]) :
 Calls Try.prog 16 #[v0,v1,iv p2] w0 (Ret (X:=Value) E [] w0 (c_compare_Nearest_val r) (fun _=>[]) (c_compare_Nearest_D r)):=by
 unfold F_compare_Nearest at h
 obtain ⟨u1,rfl,bD⟩:=S.know (i:=0) (e:=fRep r_api_Grid (v0) p0) d
 have S:=S.learn (fRep (rL rB) u1 p0.Bits) bD
 obtain ⟨ac,ae,_,rfl,_⟩:=bD
 obtain ⟨u5,rfl,bE⟩:=S.know (i:=2) (e:=fRep r_api_Grid (v1) p1) d
 have S:=S.learn (fRep (rL rB) u5 p1.Bits) bE
 obtain ⟨a6,a7,_,rfl,_⟩:=bE
 refine sEnterM (args:=[.agg #[iv p0.W,iv p0.H,.slice ac p0.Bits.length ae],.agg #[iv p1.W,iv p1.H,.slice a6 p1.Bits.length a7],iv p2]) 99 Try.func16 d d (by simp) S (fun a S=>?_)
 refine sSeq (fun K9 bH=>sRegion (sBox (v:=.agg #[iv p0.W,iv p0.H,.slice ac p0.Bits.length ae]) S (wN d) d d [iv p0.W,iv p0.H,.slice ac p0.Bits.length ae] d d (lb d) fun a ap w S=>sBox (v:=.agg #[iv p1.W,iv p1.H,.slice a6 p1.Bits.length a7]) S (wN d) d d [iv p1.W,iv p1.H,.slice a6 p1.Bits.length a7] d d (lb d) fun a af w S=>sN S fun a S=>?_))
 refine sN S fun a S=>?_
 refine sAlloc (.agg #[iv 0,iv 0]) S (wN d) d d [iv 0,iv 0] d d (lb d) fun a a2 w S=>sN S fun a S=>?_
 refine lT (bH _ _ (sSeq (fun bQ b1=>sSeq (fun bR ba=>sRegion (sLoadN (p:=ap) (off:=0) (T:=24) (vs:=[iv p0.W,iv p0.H,.slice ac p0.Bits.length ae]) 2 [iv p0.W,iv p0.H,.slice ac p0.Bits.length ae] S (wN d) d d d d d d d (lb d) fun a S=>?_)))))
 obtain ⟨aQ,bb,h⟩:=bS h
 have S1:=S.mem
 refine sCq [.agg #[iv p0.W,iv p0.H,.slice ac p0.Bits.length ae]] (iv aQ) S callee45 (S1.quiet [2] d) (fun E1 w1 S1=>c_grid_Check E1 w1 p0 (.agg #[iv p0.W,iv p0.H,.slice ac p0.Bits.length ae]) aQ bb S1) fun a w S=>?_
 refine sN S fun a S=>?_
 refine lT (ba _ _ (sSeq (fun bT bc=>sRegion (sM S fun a S=>?_))))
 refine sBin _ S (wN d) d d d (bNe _ _ _ _ .i64 aQ 0) d (lb d) fun a S=>lT (bc _ _ ?_)
 rcases iS h with ⟨az,h⟩ | ⟨az,h⟩
 ·refine sCondT S d az (sSeq (fun bU bf=>sRegion (sBuild [] [iv 0,iv 0] S (wN d) d d d d (lb d) fun a S=>sM S fun a S=>?_)))
  refine sN S fun a S=>?_
  refine sN S fun a S=>?_
  refine sStore (p:=a2) (off:=0) (T:=33) (vs:=[iv 0,iv 0]) (v:=.agg #[iv 0,iv 0]) 0 [iv 0,iv 0] S (wN d) d d d d d d d (by simp) d fun a w S=>sN S fun a S=>?_
  refine lT (bf _ _ ?_)
  obtain rfl:=tS h
  have S:=S.learn (fRep r_api_Point (.agg #[iv 0,iv 0]) (api_Point.mk 0 0)) d
  exact wp_ret (rThen (sRetM0 (.tuple #[iv 0,iv 0,.agg #[iv 0,iv 0],iv aQ]) S (rsl4 d (rvT (t:=6) (v:=iv 0) S d) (rvT (t:=7) (v:=iv 0) S d) (rvN (c:=8) (t:=33) (T:=33) (p:=a2) 0 [iv 0,iv 0] S d d d d) (rvT (t:=9) (v:=iv aQ) S d)) ⟨(.agg #[iv 0,iv 0]),d,S.mem.sel [] [0] (by decide) d d⟩))
 refine sCondF S d az (wp_skip (leafT (b1 _ _ ?_)))
 refine sSeq (fun bV bg=>sSeq (fun bW bh=>sRegion (sLoadN (p:=af) (off:=0) (T:=24) (vs:=[iv p1.W,iv p1.H,.slice a6 p1.Bits.length a7]) 1 [iv p1.W,iv p1.H,.slice a6 p1.Bits.length a7] S (wN d) d d d d d d d (lb d) fun a S=>?_)))
 obtain ⟨aR,bi,h⟩:=bS h
 have S1:=S.mem
 refine sCq [.agg #[iv p1.W,iv p1.H,.slice a6 p1.Bits.length a7]] (iv aR) S callee45 (S1.quiet [3] d) (fun E1 w1 S1=>c_grid_Check E1 w1 p1 (.agg #[iv p1.W,iv p1.H,.slice a6 p1.Bits.length a7]) aR bi S1) fun a w S=>?_
 refine sN S fun a S=>?_
 refine lT (bh _ _ (sSeq (fun bX bj=>sRegion (sM S fun a S=>?_))))
 refine sBin _ S (wN d) d d d (bNe _ _ _ _ .i64 aR 0) d (lb d) fun a S=>lT (bj _ _ ?_)
 rcases iS h with ⟨aA,h⟩ | ⟨aA,h⟩
 ·refine sCondT S d aA (sSeq (fun bY bk=>sRegion (sBuild [] [iv 0,iv 0] S (wN d) d d d d (lb d) fun a S=>sM S fun a S=>?_)))
  refine sN S fun a S=>?_
  refine sN S fun a S=>?_
  refine sStore (p:=a2) (off:=0) (T:=33) (vs:=[iv 0,iv 0]) (v:=.agg #[iv 0,iv 0]) 0 [iv 0,iv 0] S (wN d) d d d d d d d (by simp) d fun a w S=>sN S fun a S=>?_
  refine lT (bk _ _ ?_)
  obtain rfl:=tS h
  have S:=S.learn (fRep r_api_Point (.agg #[iv 0,iv 0]) (api_Point.mk 0 0)) d
  exact wp_ret (rThen (sRetM0 (.tuple #[iv 0,iv 0,.agg #[iv 0,iv 0],iv aR]) S (rsl4 d (rvT (t:=6) (v:=iv 0) S d) (rvT (t:=7) (v:=iv 0) S d) (rvN (c:=8) (t:=33) (T:=33) (p:=a2) 0 [iv 0,iv 0] S d d d d) (rvT (t:=9) (v:=iv aR) S d)) ⟨(.agg #[iv 0,iv 0]),d,S.mem.sel [] [0] (by decide) d d⟩))
 refine sCondF S d aA (wp_skip (leafT (bg _ _ ?_)))
 refine sSeq (fun bZ bl=>sSeq (fun c1 bm=>sRegion (sField (b:=ap) (off:=0) 0 0 S (wN d) d d d d d (lb d) fun a S=>sLoad1 2 (iv p0.W) S (wN d) d d d d d d (lb d) fun a S=>sField (b:=ap) (off:=0) 1 1 S (wN d) d d d d d (lb d) fun a S=>sLoad1 2 (iv p0.H) S (wN d) d d d d d d (lb d) fun a S=>sField (b:=af) (off:=0) 0 0 S (wN d) d d d d d (lb d) fun a S=>sLoad1 1 (iv p1.W) S (wN d) d d d d d d (lb d) fun a S=>sField (b:=af) (off:=0) 1 1 S (wN d) d d d d d (lb d) fun a S=>sLoad1 1 (iv p1.H) S (wN d) d d d d d d (lb d) fun a S=>sMax4 (p:=p0.W) (q:=p0.H) (r:=p1.W) (s:=p1.H) S (wN d) d d d d d d (lb d) fun a S=>?_)))
 refine sBin _ S (wN d) d d d (bGt _ _ _ _ .i64 (max4 p0.W p0.H p1.W p1.H) 16) d (lb d) fun a S=>lT (bm _ _ ?_)
 rcases iS h with ⟨aC,h⟩ | ⟨aC,h⟩
 ·refine sCondT S d aC (sSeq (fun c2 bn=>sRegion (sBuild [] [iv 0,iv 0] S (wN d) d d d d (lb d) fun a S=>sN S fun a S=>?_)))
  refine sN S fun a S=>?_
  refine sStore (p:=a2) (off:=0) (T:=33) (vs:=[iv 0,iv 0]) (v:=.agg #[iv 0,iv 0]) 0 [iv 0,iv 0] S (wN d) d d d d d d d (by simp) d fun a w S=>sN S fun a S=>?_
  refine lT (bn _ _ ?_)
  obtain rfl:=tS h
  have S:=S.learn (fRep r_api_Point (.agg #[iv 0,iv 0]) (api_Point.mk 0 0)) d
  exact wp_ret (rThen (sRetM0 (.tuple #[iv 0,iv 0,.agg #[iv 0,iv 0],iv 4]) S (rsl4 d (rvT (t:=6) (v:=iv 0) S d) (rvT (t:=7) (v:=iv 0) S d) (rvN (c:=8) (t:=33) (T:=33) (p:=a2) 0 [iv 0,iv 0] S d d d d) (rvT (t:=9) (v:=iv 4) S d)) ⟨(.agg #[iv 0,iv 0]),d,S.mem.sel [] [0] (by decide) d d⟩))
 refine sCondF S d aC (wp_skip (leafT (bl _ _ ?_)))
 refine sSeq (fun c3 bo=>?_)
 obtain ⟨bI,h,bJ⟩:=bS h
 refine sCut (fun a w=>∃ bp,bp=bI∧St [] E [] w0 99 a w [(2,iv p2),(3,.pointer (some ⟨ap,0,none⟩)),(4,.pointer (some ⟨af,0,none⟩)),(8,.pointer (some ⟨a2,0,none⟩)),(70,.bool bp)] [eBox ap 24 [iv p0.W,iv p0.H,.slice ac p0.Bits.length ae],eBox af 24 [iv p1.W,iv p1.H,.slice a6 p1.Bits.length a7],eBox a2 33 [iv 0,iv 0]] [fRep (rL rB) (.slice ac p0.Bits.length ae) p0.Bits,fRep (rL rB) (.slice a6 p1.Bits.length a7) p1.Bits]) ?_ (fun a w hI=>?_)
 ·refine sRegion (sM S fun a S=>?_)
  refine sBin _ S (wN d) d d d (bLt _ _ _ _ .i64 p2 0) d (lb d) fun a S=>sM S fun a S=>?_
  rcases iS h with ⟨am,h⟩ | ⟨am,h⟩
  ·refine sSkN 2 2 false 42 S d d am d fun a S=>sPickT (.bool true) S (wN d) d d am d d (lb d) fun a S=>sM S fun a S=>?_
   refine sSkN 5 6 false 46 S d d d d fun a S=>sPickT (.bool true) S (wN d) d d d d d (lb d) fun a S=>sM S fun a S=>?_
   refine sSkN 5 13 false 53 S d d d d fun a S=>sPickT (.bool true) S (wN d) d d d d d (lb d) fun a S=>sM S fun a S=>?_
   refine sSkN 3 20 false 60 S d d d d fun a S=>sSkipU 23 true 63 64 S d d d d (lb d) fun a S=>?_
   refine sSkipU 23 true 63 65 S d d d d (lb d) fun a S=>?_
   refine sSkipU 23 true 63 66 S d d d d (lb d) fun a S=>?_
   refine sSkipU 23 true 63 67 S d d d d (lb d) fun a S=>?_
   refine sSkipU 23 true 63 68 S d d d d (lb d) fun a S=>?_
   refine sSk S d d d d d d fun a S=>sPickT (.bool true) S (wN d) d d d d d (lb d) fun a S=>?_
   exact lT (⟨true,Option.some.inj h,S.fix [2,1,0] [1,0] (by decide) d d d⟩)
  refine sMove (iv p2) S (wG 2 false 42 d d d am) (.inl d) d d (lb d) fun a S=>sBin _ S (wG 2 false 42 d d d am) d d d (bGt _ _ _ _ .i64 p2 3) d (lb d) fun a S=>sPickF (.bool (decide (3 < p2))) S (wN d) d d am d d (lb d) fun a S=>sM S fun a S=>?_
  rcases iS h with ⟨a9,h⟩ | ⟨a9,h⟩
  ·refine sSkN 5 6 false 46 S d d a9 d fun a S=>sPickT (.bool true) S (wN d) d d a9 d d (lb d) fun a S=>sM S fun a S=>?_
   refine sSkN 5 13 false 53 S d d d d fun a S=>sPickT (.bool true) S (wN d) d d d d d (lb d) fun a S=>sM S fun a S=>?_
   refine sSkN 3 20 false 60 S d d d d fun a S=>sSkipU 23 true 63 64 S d d d d (lb d) fun a S=>?_
   refine sSkipU 23 true 63 65 S d d d d (lb d) fun a S=>?_
   refine sSkipU 23 true 63 66 S d d d d (lb d) fun a S=>?_
   refine sSkipU 23 true 63 67 S d d d d (lb d) fun a S=>?_
   refine sSkipU 23 true 63 68 S d d d d (lb d) fun a S=>?_
   refine sSk S d d d d d d fun a S=>sPickT (.bool true) S (wN d) d d d d d (lb d) fun a S=>?_
   exact lT (⟨true,Option.some.inj h,S.fix [2,1,0] [1,0] (by decide) d d d⟩)
  refine sField (b:=ap) (off:=0) 0 0 S (wG 6 false 46 d d d a9) d d d d d (lb d) fun a S=>sLoad1 2 (iv p0.W) S (wG 6 false 46 d d d a9) d d d d d d (lb d) fun a S=>sField (b:=af) (off:=0) 0 0 S (wG 6 false 46 d d d a9) d d d d d (lb d) fun a S=>sLoad1 1 (iv p1.W) S (wG 6 false 46 d d d a9) d d d d d d (lb d) fun a S=>sBin _ S (wG 6 false 46 d d d a9) d d d (bNe _ _ _ _ .i64 p0.W p1.W) d (lb d) fun a S=>sPickF (.bool (p0.W != p1.W)) S (wN d) d d a9 d d (lb d) fun a S=>sM S fun a S=>?_
  rcases iS h with ⟨aa,h⟩ | ⟨aa,h⟩
  ·refine sSkN 5 13 false 53 S d d aa d fun a S=>sPickT (.bool true) S (wN d) d d aa d d (lb d) fun a S=>sM S fun a S=>?_
   refine sSkN 3 20 false 60 S d d d d fun a S=>sSkipU 23 true 63 64 S d d d d (lb d) fun a S=>?_
   refine sSkipU 23 true 63 65 S d d d d (lb d) fun a S=>?_
   refine sSkipU 23 true 63 66 S d d d d (lb d) fun a S=>?_
   refine sSkipU 23 true 63 67 S d d d d (lb d) fun a S=>?_
   refine sSkipU 23 true 63 68 S d d d d (lb d) fun a S=>?_
   refine sSk S d d d d d d fun a S=>sPickT (.bool true) S (wN d) d d d d d (lb d) fun a S=>?_
   exact lT (⟨true,Option.some.inj h,S.fix [2,1,0] [1,0] (by decide) d d d⟩)
  refine sField (b:=ap) (off:=0) 1 1 S (wG 13 false 53 d d d aa) d d d d d (lb d) fun a S=>sLoad1 2 (iv p0.H) S (wG 13 false 53 d d d aa) d d d d d d (lb d) fun a S=>sField (b:=af) (off:=0) 1 1 S (wG 13 false 53 d d d aa) d d d d d (lb d) fun a S=>sLoad1 1 (iv p1.H) S (wG 13 false 53 d d d aa) d d d d d d (lb d) fun a S=>sBin _ S (wG 13 false 53 d d d aa) d d d (bNe _ _ _ _ .i64 p0.H p1.H) d (lb d) fun a S=>sPickF (.bool (p0.H != p1.H)) S (wN d) d d aa d d (lb d) fun a S=>sM S fun a S=>?_
  rcases iS h with ⟨a4,h⟩ | ⟨a4,h⟩
  ·refine sSkN 3 20 false 60 S d d a4 d fun a S=>sSkipU 23 true 63 64 S d d d d (lb d) fun a S=>?_
   refine sSkipU 23 true 63 65 S d d d d (lb d) fun a S=>?_
   refine sSkipU 23 true 63 66 S d d d d (lb d) fun a S=>?_
   refine sSkipU 23 true 63 67 S d d d d (lb d) fun a S=>?_
   refine sSkipU 23 true 63 68 S d d d d (lb d) fun a S=>?_
   refine sSk S d d d a4 d d fun a S=>sPickT (.bool true) S (wN d) d d a4 d d (lb d) fun a S=>?_
   exact lT (⟨true,Option.some.inj h,S.fix [2,1,0] [1,0] (by decide) d d d⟩)
  refine sMove (iv p2) S (wG 20 false 60 d d d a4) (.inl d) d d (lb d) fun a S=>sBin _ S (wG 20 false 60 d d d a4) d d d (bGt _ _ _ _ .i64 p2 1) d (lb d) fun a S=>sMove (.bool (decide (1 < p2))) S (wG 20 false 60 d d d a4) (.inl d) d d (lb d) fun a S=>?_
  rcases iS h with ⟨ab,h⟩ | ⟨ab,h⟩
  rotate_left
  ·refine sSkN 5 23 true 63 S d d ab d fun a S=>sPickF (.bool false) S (wG 20 false 60 d d d a4) d d ab d d (lb d) fun a S=>sPickF (.bool false) S (wN d) d d a4 d d (lb d) fun a S=>?_
   exact lT (⟨false,Option.some.inj h,S.fix [2,1,0] [1,0] (by decide) d d d⟩)
  refine sField (b:=ap) (off:=0) 0 0 S (wG 23 true 63 d d d ab) d d d d d (lb d) fun a S=>sLoad1 2 (iv p0.W) S (wG 23 true 63 d d d ab) d d d d d d (lb d) fun a S=>sField (b:=ap) (off:=0) 1 1 S (wG 23 true 63 d d d ab) d d d d d (lb d) fun a S=>sLoad1 2 (iv p0.H) S (wG 23 true 63 d d d ab) d d d d d d (lb d) fun a S=>sBin _ S (wG 23 true 63 d d d ab) d d d (bNe _ _ _ _ .i64 p0.W p0.H) d (lb d) fun a S=>sPickT (.bool (p0.W != p0.H)) S (wG 20 false 60 d d d a4) d d ab d d (lb d) fun a S=>sPickF (.bool (p0.W != p0.H)) S (wN d) d d a4 d d (lb d) fun a S=>?_
  exact lT (⟨p0.W != p0.H,Option.some.inj h,S.fix [2,1,0] [1,0] (by decide) d d d⟩)
 obtain ⟨bp,rfl,S⟩:=hI
 have h:=bJ
 try dsimp only at h
 rcases iS h with ⟨aG,h⟩ | ⟨aG,h⟩
 ·refine sCondT S d aG (sSeq (fun c4 bq=>sRegion (sBuild [] [iv 0,iv 0] S (wN d) d d d d (lb d) fun a S=>sN S fun a S=>?_)))
  refine sN S fun a S=>?_
  refine sStore (p:=a2) (off:=0) (T:=33) (vs:=[iv 0,iv 0]) (v:=.agg #[iv 0,iv 0]) 2 [iv 0,iv 0] S (wN d) d d d d d d d (by simp) d fun a w S=>sN S fun a S=>?_
  refine lT (bq _ _ ?_)
  obtain rfl:=tS h
  have S:=S.learn (fRep r_api_Point (.agg #[iv 0,iv 0]) (api_Point.mk 0 0)) d
  exact wp_ret (rThen (sRetM0 (.tuple #[iv 0,iv 0,.agg #[iv 0,iv 0],iv 2]) S (rsl4 d (rvT (t:=6) (v:=iv 0) S d) (rvT (t:=7) (v:=iv 0) S d) (rvN (c:=8) (t:=33) (T:=33) (p:=a2) 0 [iv 0,iv 0] S d d d d) (rvT (t:=9) (v:=iv 2) S d)) ⟨(.agg #[iv 0,iv 0]),d,S.mem.sel [] [0] (by decide) d d⟩))
 refine sCondF S d aG (wp_skip (leafT (bo _ _ ?_)))
 refine sSeq (fun c5 br=>sRegion (sField (b:=ap) (off:=0) 2 2 S (wN d) d d d d d (lb d) fun a S=>sLoad1 0 (.slice ac p0.Bits.length ae) S (wN d) d d d d d d (lb d) fun a S=>sLen S (wN d) d Try.underlying22 d d (lb d) fun a S=>sBin _ S (wN d) d d d (bAdd _ _ _ _ (p0.Bits.length:Int) 1) d (lb d) fun a S=>sBuild [] [iv 0,iv 0,iv 0] S (wN d) d d d d (lb d) fun a S=>sAlloc (iv 0) S (wN d) d d [iv 0] d d (lb d) fun a ag w S=>sAlloc (.agg #[iv 0,iv 0,iv 0]) S (wN d) d d [iv 0,iv 0,iv 0] d d (lb d) fun a a5 w S=>sStore (p:=ag) (off:=0) (T:=3) (vs:=[iv 0]) (v:=iv (w64 ((p0.Bits.length:Int) + 1))) 1 [iv (w64 ((p0.Bits.length:Int) + 1))] S (wN d) d d d d d d d (by simp) d fun a w S=>sStore (p:=a5) (off:=0) (T:=93) (vs:=[iv 0,iv 0,iv 0]) (v:=.agg #[iv 0,iv 0,iv 0]) 1 [iv 0,iv 0,iv 0] S (wN d) d d d d d d d (by simp) d fun a w S=>lT (br _ _ ?_)))
 obtain ⟨bK,h,bL⟩:=bS h
 refine sCut (fun a w=>∃ av,∃ aq,∃ ak,∃ al,(av,aq,ak,al)=bK∧∃ aH,St [mark aH] E [] w0 99 a w [(8,.pointer (some ⟨a2,0,none⟩)),(12,.pointer (some ⟨ag,0,none⟩)),(13,.pointer (some ⟨a5,0,none⟩))] [eBox a2 33 [iv 0,iv 0],eBox ag 3 [iv av],eBox a5 93 [iv aq,iv ak,iv al],eDef aH] []) ?_ (fun a w hI=>?_)
 rotate_left
 ·obtain ⟨av,aq,ak,al,rfl,aH,S⟩:=hI
  have h:=bL
  try dsimp only at h
  refine sSeq (fun c6 bt=>sDraw (nf:=[7]) (W:=[(0,94,iv av),(1,95,.pointer (some ⟨a5,0,none⟩)),(2,96,iv aq),(3,97,.pointer (some ⟨a5,1,none⟩)),(4,98,.agg #[iv ak,iv al]),(5,6,iv av),(6,7,iv aq)]) d S ?_)
  refine node_by (A:=anc_compare_Nearest_0) 9 (by kernel_rfl) (by kernel_rfl) (by kernel_rfl) (by kernel_rfl) (by kernel_rfl) [0,1,2,3,4,5,6] (by kernel_rfl) (by decide) (by decide) (fF ?_ (fF ?_ (fF ?_ (fF ?_ (fF ?_ (fF ?_ (fF ?_ (fN ?_ (fE 7 (trivial)))))))))) [] (fun q hq=>by cases hq) (fun hY=>absurd (hY 7 (by decide)) (by decide))
  ·refine fJ [(12,_)] 0 [none] fun G a w S=>?_
   exact sLoad1 1 (iv av) S (wN d) d d d d d d (lb d) fun a S=>leafL ⟨d,S⟩
  ·refine fJ [(13,_)] 1 [none] fun G a w S=>?_
   exact sField (b:=a5) (off:=0) 0 0 S (wN d) d d d d d (lb d) fun a S=>leafL ⟨d,S⟩
  ·refine fJ [(95,_)] 2 [some 1] fun G a w S=>?_
   exact sLoad1 2 (iv aq) S (wN d) d d d d d d (lb d) fun a S=>leafL ⟨d,S⟩
  ·refine fJ [(13,_)] 3 [none] fun G a w S=>?_
   exact sField (b:=a5) (off:=0) 1 1 S (wN d) d d d d d (lb d) fun a S=>leafL ⟨d,S⟩
  ·refine fJ [(97,_)] 4 [some 3] fun G a w S=>?_
   exact sLoadN (p:=a5) (off:=1) (T:=93) (vs:=[iv aq,iv ak,iv al]) 2 [iv ak,iv al] S (wN d) d d d d d d d (lb d) fun a S=>leafL ⟨d,S⟩
  ·exact fM 5 (some 0) d d d d (.inr d) d d d
  ·exact fM 6 (some 2) d d d d (.inr d) d d d
  refine ⟨_,[(8,.pointer (some ⟨a2,0,none⟩)),(98,.agg #[iv ak,iv al])],d,(srcs_of [none,some 4] d d d),fun G a w S=>?_⟩
  refine sStore (p:=a2) (off:=0) (T:=33) (vs:=[iv 0,iv 0]) (v:=.agg #[iv ak,iv al]) 0 [iv ak,iv al] S (wN d) d d d d d d d (by simp) d fun a w S=>leafL ⟨d,_,_,.inr ⟨[(8,9,iv 0)],d,S,hz_of d,?_⟩⟩
  refine node_by (A:=anc_compare_Nearest_0) 9 (by kernel_rfl) (by kernel_rfl) (by kernel_rfl) (by kernel_rfl) (by kernel_rfl) [8,0,1,2,3,4,5,6] (by kernel_rfl) (by decide) (by decide) (fD 7 (fD 7 (fD 7 (fD 7 (fD 7 (fD 7 (fD 7 (fY (fF ?_ (trivial)))))))))) [(6,iv av),(7,iv aq),(8,.pointer (some ⟨a2,0,none⟩)),(9,iv 0)] (fin_of [some 6,some 7,none,some 0] d (by kernel_rfl) (by kernel_rfl)) (fun _ a w S=>?_)
  ·refine fJ [] 0 [] fun G a w S=>?_
   exact sN S fun a S=>leafL ⟨d,S⟩
  refine leafT (bt _ _ ?_)
  refine wp_ret (sRetM1 3 S d (fun a w S=>?_))
  obtain rfl:=tS h
  have S:=S.learn (fRep r_api_Point (.agg #[iv ak,iv al]) (api_Point.mk ak al)) d
  exact sFin (.tuple #[iv av,iv aq,.agg #[iv ak,iv al],iv 0]) S (rsl4 d (rvT (t:=6) (v:=iv av) S d) (rvT (t:=7) (v:=iv aq) S d) (rvN (c:=8) (t:=33) (T:=33) (p:=a2) 0 [iv ak,iv al] S d d d d) (rvT (t:=9) (v:=iv 0) S d)) ⟨(.agg #[iv ak,iv al]),d,S.mem.sel [] [0] (by decide) d d⟩
 refine sSeq (fun c7 bu=>sRegion (sLoadN (p:=ap) (off:=0) (T:=24) (vs:=[iv p0.W,iv p0.H,.slice ac p0.Bits.length ae]) 2 [iv p0.W,iv p0.H,.slice ac p0.Bits.length ae] S (wN d) d d d d d d d (lb d) fun a S=>sM S fun a S=>?_))
 obtain ⟨ao,bv,h⟩:=bS h
 have S:=S.learn (fRep r_api_Grid (.agg #[iv p0.W,iv p0.H,.slice ac p0.Bits.length ae]) p0) ⟨_,d,S.mem.know (i:=0) (e:=fRep (rL rB) (.slice ac p0.Bits.length ae) p0.Bits) d⟩
 refine sCall (X:=Value × Value) (f:=49) (vs:=[.agg #[iv p0.W,iv p0.H,.slice ac p0.Bits.length ae],iv p2]) (val:=c_compare_ways_val ao) (B':=fun _=>[]) (D':=c_compare_ways_D ao) [] [eBox a5 93 [iv 0,iv 0,iv 0],eBox ag 3 [iv (w64 ((p0.Bits.length:Int) + 1))],eBox ap 24 [iv p0.W,iv p0.H,.slice ac p0.Bits.length ae],eBox af 24 [iv p1.W,iv p1.H,.slice a6 p1.Bits.length a7],eBox a2 33 [iv 0,iv 0]] [fRep r_api_Grid (.agg #[iv p0.W,iv p0.H,.slice ac p0.Bits.length ae]) p0] [0,1,2,3,4] [0] S (wN d) d callee49 d (by decide) d d (fun E1 w1 S1=>c_compare_ways E1 w1 p0 (.agg #[iv p0.W,iv p0.H,.slice ac p0.Bits.length ae]) p2 ao bv S1) d (lb d) fun xx a w S=>?_
 obtain ⟨ar,au⟩:=xx
 refine lT (bu _ _ (wp_block ?_))
 obtain ⟨c8,aw,aI⟩:=bS h
 replace S:St [] E [] w0 99 a w [(4,.pointer (some ⟨af,0,none⟩)),(8,.pointer (some ⟨a2,0,none⟩)),(12,.pointer (some ⟨ag,0,none⟩)),(13,.pointer (some ⟨a5,0,none⟩)),(79,.func (.func 81) #[] #[ar,au])] [eBox af 24 [iv p1.W,iv p1.H,.slice a6 p1.Bits.length a7],eBox a2 33 [iv 0,iv 0],eBox ag 3 [iv (w64 ((p0.Bits.length:Int) + 1))],eBox a5 93 [iv 0,iv 0,iv 0]] [fPtr (rI .i64) (ar) ao.1,fPtr r_api_Grid (au) ao.2,fRep (rL rB) (.slice a6 p1.Bits.length a7) p1.Bits]:=S.fix [3,4,1,0] [0,1,4] (by decide) rfl rfl rfl
 refine sRange2 (B:=compare_Nearest_l2 p1) (fun s0 L D=>match s0 with | (ax,aJ,aK,aL)=>L=[eBox af 24 [iv p1.W,iv p1.H,.slice a6 p1.Bits.length a7],eBox a2 33 [iv 0,iv 0],eBox ag 3 [iv ax],eBox a5 93 [iv aJ,iv aK,iv aL]]∧D=[fPtr (rI .i64) (ar) ao.1,fPtr r_api_Grid (au) ao.2,fRep (rL rB) (.slice a6 p1.Bits.length a7) p1.Bits]) (fun t0 c L D=>match t0 with | (aW,aX,aZ,b0)=>c=.exit 0∧L=[eBox a2 33 [iv 0,iv 0],eBox ag 3 [iv aW],eBox a5 93 [iv aX,iv aZ,iv b0]]∧D=[]) [0,1] S aw d callee81 (it_compare_ways_1 ao.1 ar ao.2 au) d (by decide) (by decide) ⟨d,d⟩ ?_ ?_ ?_
 ·intro E l0 s0 a0 a8 bF bM b L D K a w0 hK hIL hB S
  clear aw aI h hK
  obtain ⟨ax,aJ,aK,aL⟩:=s0
  unfold compare_Nearest_l2 at hB
  dsimp only at hB hIL
  obtain ⟨rfl,rfl⟩:=hIL
  have h:=hB
  clear hB
  obtain rfl:bF=.agg #[iv a0.op,iv a0.at_.X,iv a0.at_.Y]:=S.mem.know (i:=0) (e:=fRep r_compare_way (bF) a0) d
  obtain ⟨bN,rfl,aS⟩:=S.mem.know (i:=1) (e:=fRep r_api_Grid (bM) a8) d
  have S:=S.learn (fRep (rL rB) bN a8.Bits) aS
  obtain ⟨ah,ai,_,rfl,_⟩:=aS
  refine sSeqR (fun c9 bw=>sRegionR (by repeat (first | exact roundU_out | exact it_out | exact lo_false | refine lo_then ?_ | refine lo_block ?_)) d ?_)
  refine sAlloc (.agg #[iv 0,iv 0,iv 0]) S (wN d) d d [iv 0,iv 0,iv 0] d d (lb d) fun a bx w S=>sStore (p:=bx) (off:=0) (T:=93) (vs:=[iv 0,iv 0,iv 0]) (v:=.agg #[iv a0.op,iv a0.at_.X,iv a0.at_.Y]) 0 [iv a0.op,iv a0.at_.X,iv a0.at_.Y] S (wN d) d d d d d d d (by simp) d fun a w S=>lT (bw _ _ (sRegionR (by repeat (first | exact roundU_out | exact it_out | exact lo_false | refine lo_then ?_ | refine lo_block ?_)) d ?_))
  refine sAlloc (.agg #[iv 0,iv 0,.slice none 0 0]) S (wN d) d d [iv 0,iv 0,.slice none 0 0] d d (lb d) fun a bG w S=>sStore (p:=bG) (off:=0) (T:=24) (vs:=[iv 0,iv 0,.slice none 0 0]) (v:=.agg #[iv a8.W,iv a8.H,.slice ah a8.Bits.length ai]) 0 [iv a8.W,iv a8.H,.slice ah a8.Bits.length ai] S (wN d) d d d d d d d (by simp) d fun a w S=>lT (⟨_,_,_,S,fun K a w0 hK S=>?_⟩)
  refine wpIn_block ?_
  obtain ⟨bO,h,bP⟩:=bS h
  refine sCutR (fun a w=>∃ aM,∃ aT,∃ aU,∃ aV,(aM,aT,aU,aV)=bO∧St [] E K w0 99 a w [(4,.pointer (some ⟨af,0,none⟩)),(8,.pointer (some ⟨a2,0,none⟩)),(12,.pointer (some ⟨ag,0,none⟩)),(13,.pointer (some ⟨a5,0,none⟩)),(79,.func (.func 81) #[] #[ar,au]),(80,.agg #[iv a0.op,iv a0.at_.X,iv a0.at_.Y]),(81,.agg #[iv a8.W,iv a8.H,.slice ah a8.Bits.length ai])] [eBox af 24 [iv p1.W,iv p1.H,.slice a6 p1.Bits.length a7],eBox a2 33 [iv 0,iv 0],eBox ag 3 [iv aM],eBox a5 93 [iv aT,iv aU,iv aV]] [fPtr (rI .i64) (ar) ao.1,fPtr r_api_Grid (au) ao.2,fRep (rL rB) (.slice ah a8.Bits.length ai) a8.Bits,fRep (rL rB) (.slice a6 p1.Bits.length a7) p1.Bits]) ?_ (fun a w hI=>?_)
  rotate_left
  ·obtain ⟨aM,aT,aU,aV,rfl,S⟩:=hI
   have h:=bP
   try dsimp only at h
   refine sSeqR (fun ca bz=>sRegionR (by repeat (first | exact roundU_out | exact it_out | exact lo_false | refine lo_then ?_ | refine lo_block ?_)) d ?_)
   refine sLoad1 2 (iv aM) S (wN d) d d d d d d (lb d) fun a S=>sBin _ S (wN d) d d d (bEq _ _ _ _ .i64 aM 0) d (lb d) fun a S=>lT (bz _ _ ?_)
   rcases iS h with ⟨aO,h⟩ | ⟨aO,h⟩
   ·refine sCondTR S d aO ?_
    exact wpIn_exit (xMiss d (rnX (aM,aT,aU,aV) _ _ [] (Option.some.inj h) ⟨d,d,d⟩ (S.fix [1,2,3] [] (by decide) d d d)))
   refine sCondFR S d aO ?_
   exact wpIn_skip (leafB (rnN (aM,aT,aU,aV) _ _ [] (Option.some.inj h) ⟨d,d⟩ (S.fix [0,1,2,3] [0,1,3] (by decide) d d d)))
  refine sSeqR (fun cb bA=>sRegionR (by repeat (first | exact roundU_out | exact it_out | exact lo_false | refine lo_then ?_ | refine lo_block ?_)) d ?_)
  refine sField (b:=bG) (off:=0) 2 2 S (wN d) d d d d d (lb d) fun a S=>sLoad1 0 (.slice ah a8.Bits.length ai) S (wN d) d d d d d d (lb d) fun a S=>sField (b:=af) (off:=0) 2 2 S (wN d) d d d d d (lb d) fun a S=>sLoad1 2 (.slice a6 p1.Bits.length a7) S (wN d) d d d d d d (lb d) fun a S=>?_
  obtain ⟨ay,bB,h⟩:=bS h
  have S1:=S.mem
  refine sCq [.slice ah a8.Bits.length ai,.slice a6 p1.Bits.length a7] (iv ay) S callee46 (S1.quiet [0,5] d) (fun E1 w1 S1=>c_compare_differ E1 w1 a8.Bits (.slice ah a8.Bits.length ai) p1.Bits (.slice a6 p1.Bits.length a7) ay bB S1) fun a w S=>?_
  refine sN S fun a S=>?_
  refine lT (bA _ _ (sSeqR (fun cc bC=>sRegionR (by repeat (first | exact roundU_out | exact it_out | exact lo_false | refine lo_then ?_ | refine lo_block ?_)) d ?_)))
  refine sM S fun a S=>?_
  refine sLoad1 4 (iv ax) S (wN d) d d d d d d (lb d) fun a S=>sBin _ S (wN d) d d d (bLt _ _ _ _ .i64 ay ax) d (lb d) fun a S=>lT (bC _ _ ?_)
  rcases iS h with ⟨aP,h⟩ | ⟨aP,h⟩
  rotate_left
  ·refine sCondFR S d aP ?_
   exact wpIn_skip (leafT (⟨ax,aJ,aK,aL,Option.some.inj h,S.fix [2,3,4,5] [3,4,0,5] (by decide) d d d⟩))
  refine sCondTR S d aP ?_
  refine sDrawR (A:=[]) (nf:=[2,3]) (W:=[(0,90,iv ay),(1,91,.agg #[iv a0.op,iv a0.at_.X,iv a0.at_.Y])]) (by repeat (first | exact roundU_out | exact it_out | exact lo_false | refine lo_then ?_ | refine lo_block ?_)) d d S ?_
  refine node_by (A:=[[],[],[0],[0,1,2]]) (nf:=[2,3]) (Y:=[]) (W:=[(0,90,iv ay),(1,91,.agg #[iv a0.op,iv a0.at_.X,iv a0.at_.Y])]) 4 (by kernel_rfl) (by kernel_rfl) (by kernel_rfl) (by kernel_rfl) (by kernel_rfl) [0,1] (by kernel_rfl) (by decide) (by decide) (fF ?_ (fF ?_ (fN ?_ (aB 3 0 2 (by decide) (trivial))))) [] (fun q hq=>by cases hq) (fun hY=>absurd (hY 2 (by decide)) (by decide))
  ·exact fM 0 none d d d d (.inl d) d d d
  ·refine fJ [(14,_)] 1 [none] fun G a w S=>?_
   exact sLoadN (p:=bx) (off:=0) (T:=93) (vs:=[iv a0.op,iv a0.at_.X,iv a0.at_.Y]) 1 [iv a0.op,iv a0.at_.X,iv a0.at_.Y] S (wN d) d d d d d d d (lb d) fun a S=>leafL ⟨d,S⟩
  refine ⟨_,[(12,.pointer (some ⟨ag,0,none⟩)),(90,iv ay)],d,(srcs_of [none,some 0] d d d),fun G a w S=>?_⟩
  refine sStore (p:=ag) (off:=0) (T:=3) (vs:=[iv ax]) (v:=iv ay) 4 [iv ay] S (wN d) d d d d d d d (by simp) d fun a w S=>leafL ⟨d,_,_,.inr ⟨[],d,S,hz_of d,?_⟩⟩
  refine node_by (A:=[[],[],[0],[0,1,2]]) (nf:=[2,3]) (Y:=[2]) 4 (by kernel_rfl) (by kernel_rfl) (by kernel_rfl) (by kernel_rfl) (by kernel_rfl) [0,1] (by kernel_rfl) (by decide) (by decide) (fD 2 (fF ?_ (fY (fN ?_ (trivial))))) [] (fun q hq=>by cases hq) (fun hY=>absurd (hY 3 (by decide)) (by decide))
  ·refine fJ [(14,_)] 1 [none] fun G a w S=>?_
   exact sLoadN (p:=bx) (off:=0) (T:=93) (vs:=[iv a0.op,iv a0.at_.X,iv a0.at_.Y]) 2 [iv a0.op,iv a0.at_.X,iv a0.at_.Y] S (wN d) d d d d d d d (lb d) fun a S=>leafL ⟨d,S⟩
  refine ⟨_,[(13,.pointer (some ⟨a5,0,none⟩)),(91,.agg #[iv a0.op,iv a0.at_.X,iv a0.at_.Y])],d,(srcs_of [none,some 1] d d d),fun G a w S=>?_⟩
  refine sStore (p:=a5) (off:=0) (T:=93) (vs:=[iv aJ,iv aK,iv aL]) (v:=.agg #[iv a0.op,iv a0.at_.X,iv a0.at_.Y]) 5 [iv a0.op,iv a0.at_.X,iv a0.at_.Y] S (wN d) d d d d d d d (by simp) d fun a w S=>leafL ⟨d,_,_,.inr ⟨[],d,S,hz_of d,?_⟩⟩
  refine node_by (A:=[[],[],[0],[0,1,2]]) (nf:=[2,3]) (Y:=[3,2]) 4 (by kernel_rfl) (by kernel_rfl) (by kernel_rfl) (by kernel_rfl) (by kernel_rfl) [0,1] (by kernel_rfl) (by decide) (by decide) (fD 3 (fD 3 (fY (fY (trivial))))) [(4,.pointer (some ⟨af,0,none⟩)),(8,.pointer (some ⟨a2,0,none⟩)),(12,.pointer (some ⟨ag,0,none⟩)),(13,.pointer (some ⟨a5,0,none⟩)),(79,.func (.func 81) #[] #[ar,au]),(80,.agg #[iv a0.op,iv a0.at_.X,iv a0.at_.Y]),(81,.agg #[iv a8.W,iv a8.H,.slice ah a8.Bits.length ai])] (fin_of [none,none,none,none,none,none,none] d (by kernel_rfl) (by kernel_rfl)) (fun _ a w S=>?_)
  exact leafT (⟨ay,a0.op,a0.at_.X,a0.at_.Y,Option.some.inj h,S.fix [4,5,1,0] [3,4,0,5] (by decide) d d d⟩)
 ·intro aj s0 L D a w hr hIL S
  clear h
  obtain ⟨ax,aJ,aK,aL⟩:=s0
  obtain rfl:=hr
  dsimp only at aI hIL
  obtain ⟨rfl,rfl⟩:=hIL
  have h:=aI
  clear aI aw
  replace S:St [mark aj] E [] w0 99 a w [(4,.pointer (some ⟨af,0,none⟩)),(8,.pointer (some ⟨a2,0,none⟩)),(12,.pointer (some ⟨ag,0,none⟩)),(13,.pointer (some ⟨a5,0,none⟩)),(79,.func (.func 81) #[] #[ar,au])] [eBox af 24 [iv p1.W,iv p1.H,.slice a6 p1.Bits.length a7],eBox a2 33 [iv 0,iv 0],eBox ag 3 [iv ax],eBox a5 93 [iv aJ,iv aK,iv aL],eDef aj] [fPtr (rI .i64) (ar) ao.1,fPtr r_api_Grid (au) ao.2,fRep (rL rB) (.slice a6 p1.Bits.length a7) p1.Bits]:=S
  exact leafB (leafT (⟨ax,aJ,aK,aL,Option.some.inj h,aj,S.fix [1,2,3,4] [] (by decide) d d d⟩))
 ·intro aj c0 t0 L D a w hr hIX S
  clear h
  obtain rfl:=hr
  obtain ⟨aW,aX,aZ,b0⟩:=t0
  dsimp only at aI hIX
  obtain ⟨rfl,rfl,rfl⟩:=hIX
  have h:=aI
  clear aI aw
  replace S:St [mark aj] E [] w0 99 a w [(4,.pointer (some ⟨af,0,none⟩)),(8,.pointer (some ⟨a2,0,none⟩)),(12,.pointer (some ⟨ag,0,none⟩)),(13,.pointer (some ⟨a5,0,none⟩)),(79,.func (.func 81) #[] #[ar,au])] [eBox a2 33 [iv 0,iv 0],eBox ag 3 [iv aW],eBox a5 93 [iv aX,iv aZ,iv b0],eDef aj] []:=S
  exact wp_exit (xHit (leafT (⟨aW,aX,aZ,b0,Option.some.inj h,aj,S.fix [0,1,2,3] [] (by decide) d d d⟩)))
noncomputable def F_chart_counted (p0:api_Chart):Option api_Chart:=
 some p0
def c_chart_counted_val (r:api_Chart) (x:Value):Value:=.func (.func 99) #[] #[x]
def c_chart_counted_D (r:api_Chart) (x:Value):List Fact:=[fPtr r_api_Chart x r]
theorem c_chart_counted (E:Nat→Prop) (w0:World) (p0:api_Chart) (v0:Value) (r:api_Chart) (h:F_chart_counted p0=some r) (S:St0 E [] w0 w0 [] [fRep r_api_Chart (v0) p0]) :
 Calls Try.prog 82 #[v0] w0 (Ret (X:=Value) E [] w0 (c_chart_counted_val r) (fun _=>[]) (c_chart_counted_D r)):=by
 unfold F_chart_counted at h
 obtain ⟨u1,rfl,a4⟩:=S.know (i:=0) (e:=fRep r_api_Chart (v0) p0) d
 have S:=S.learn (fRep (rL r_api_Row) u1 p0.Rows) a4
 obtain ⟨a0,a2,_,rfl,_⟩:=a4
 refine sEnter (args:=[.agg #[iv p0.Start,.slice a0 p0.Rows.length a2]]) 4 Try.func82 d d (by simp) S (fun a S=>?_)
 refine sSeq (fun K5 a5=>sRegion (sBox (v:=.agg #[iv p0.Start,.slice a0 p0.Rows.length a2]) S (wN d) d d [iv p0.Start,.slice a0 p0.Rows.length a2] d d (lb d) fun a b6 w S=>sN S fun a S=>?_))
 refine lT (a5 _ _ (sSeq (fun K7 a6=>sRegion (sFunc (g:=99) (vs:=[.pointer (some ⟨b6,0,none⟩)]) S (wN d) d d d (lb d) fun a S=>?_))))
 refine sN S fun a S=>?_
 refine lT (a6 _ _ ?_)
 have S:=S.shutB (r:=r_api_Chart) (T:=42) (b:=b6) (cs:=[iv p0.Start,.slice a0 p0.Rows.length a2]) 0 (.agg #[iv p0.Start,.slice a0 p0.Rows.length a2]) p0 d d (S.mem.know (i:=1) (e:=fRep r_api_Chart (.agg #[iv p0.Start,.slice a0 p0.Rows.length a2]) p0) d)
 obtain rfl:=tS h
 exact wp_ret (sRet (.func (.func 99) #[] #[.pointer (some ⟨b6,0,none⟩)]) S (rsl1 d (rvT (t:=2) (v:=.func (.func 99) #[] #[.pointer (some ⟨b6,0,none⟩)]) S d)) ⟨(.pointer (some ⟨b6,0,none⟩)),d,S.mem.sel [] [0] (by decide) d d⟩)
noncomputable def chart_counted_1_l1 {σ τ:Type} (p0:api_Chart) (B:σ→(Int × chart_count)→Option (σ ⊕ τ)):(Int × Int × σ)→Option ((Int × Int × σ) ⊕ ((σ ⊕ τ) ⊕ (σ))):=fun s0=>match s0 with
 | (a0,a2,gz13)=>
  if decide (a2 < (p0.Rows.length:Int)) then
   (idxO p0.Rows a2).bind fun a7=>
   (F_stitch_Uses a7.Cells).bind fun a4=>
   Option.bind (α:=(Int × Int)) (
    if a4.2 != 0 then
     some (0,a4.2)
    else
     if a4.1 != a0 then
      some (0,26)
     else
      (F_stitch_Makes a7.Cells).bind fun a8=>
      some (a8.1,0)) fun (a5,a6)=>
   (B gz13 (a2,(chart_count.mk a0 a5 a6))).bind fun a9=>
   match a9 with
   | .inl gz53=>
    if ((chart_count.mk a0 a5 a6).e) != 0 then
     some (.inr (.inl (.inl gz53)))
    else
     some (.inl ((chart_count.mk a0 a5 a6).after,w64 (a2 + 1),gz53))
   | .inr tz54=>
    some (.inr (.inl (.inr tz54)))
  else
   some (.inr (.inr gz13))
noncomputable def I_chart_counted_1 (p0:api_Chart) (σ τ:Type) (B:σ→(Int × chart_count)→Option (σ ⊕ τ)) (gz0:σ):Option (σ ⊕ τ):=
 (whileO (chart_counted_1_l1 p0 B) (p0.Start,0,gz0)).bind fun z0=>match z0 with
  | .inl z=>
   some z
  | .inr gz17=>
   some (.inl gz17)
theorem it_chart_counted_1 (p0:api_Chart) (v0:Value):SeqF Try.prog 99 #[v0] (fA2 (rI .i64) r_chart_count) (I_chart_counted_1 p0) [fPtr r_api_Chart (v0) p0]:=by
 refine seqF_of (lb:=[v0]) (fun σ τ B gz0 r h l J Jx E w0 hC S hJ=>?_)
 unfold I_chart_counted_1 at h
 refine sEnterI (args:=[.func (.yield l) #[] #[],v0]) 57 Try.func99 d d (by simp) S (fun a S=>?_)
 refine sSeq (fun K1 aR=>sRegion ?_)
 obtain ⟨q2,aS,S⟩:=pFld (P:=Try.prog) (r:=r_api_Chart) (s2:=(rI .i64)) (g:=(·.Start)) (q:=v0) (z:=p0) 42 0 0 0 S d d comp_api_Chart_Start
 refine sFldV (q:=v0) S (wN d) d d aS d (lb d) fun a S=>?_
 obtain ⟨u4,S⟩:=pLoad (r:=(rI .i64)) (q:=q2) (x:=p0.Start) 0 S d
 obtain rfl:u4=iv p0.Start:=S.mem.know (i:=1) (e:=fRep (rI .i64) (u4) p0.Start) d
 refine sLoadV1 (vq:=q2) 0 (iv p0.Start) S (wN d) d d d d d (lb d) fun a S=>sN S fun a S=>?_
 refine lT (aR _ _ (sSeq (fun K5 aT=>sRegion ?_)))
 obtain ⟨q6,aU,S⟩:=pFld (P:=Try.prog) (r:=r_api_Chart) (s2:=(rL r_api_Row)) (g:=(·.Rows)) (q:=v0) (z:=p0) 42 1 3 1 S d d comp_api_Chart_Rows
 refine sFldV (q:=v0) S (wN d) d d aU d (lb d) fun a S=>?_
 obtain ⟨u8,S⟩:=pLoad (r:=(rL r_api_Row)) (q:=q6) (x:=p0.Rows) 0 S d
 obtain ⟨aj,aa,_,rfl,_⟩:=S.mem.know (i:=1) (e:=fRep (rL r_api_Row) (u8) p0.Rows) d
 refine sLoadV1 (vq:=q6) 0 (.slice aj p0.Rows.length aa) S (wN d) d d d d d (lb d) fun a S=>sLen S (wN d) d Try.underlying40 d d (lb d) fun a S=>sM S fun a S=>?_
 refine lT (aT _ _ (wp_block ?_))
 obtain ⟨b0,hl,am⟩:=bS h
 refine sLoop hl (fun s0 a w=>match s0 with | (a0,ac,gz13)=>∃ E w0,J gz13 E w0∧St [] E [] w0 57 a w [(0,.func (.yield l) #[] #[]),(3,iv a0),(12,.slice aj p0.Rows.length aa),(13,iv (p0.Rows.length:Int)),(14,iv ac)] [] [fRep (rL r_api_Row) (.slice aj p0.Rows.length aa) p0.Rows]) ⟨_,_,hJ,S.fix [] [1] (by decide) d d d⟩ ?_
 clear hl h
 intro s0 a w c0 hI h ae
 obtain ⟨a0,ac,gz13⟩:=s0
 unfold chart_counted_1_l1 at h
 dsimp only at h hI
 obtain ⟨E,w0,hJ,S⟩:=hI
 refine sSeq (fun b1 ao=>sRegion (sBin _ S (wN d) d d d (bLt _ _ _ _ .i64 ac (p0.Rows.length:Int)) d (lb d) fun a S=>lT (ao _ _ (sSeq (fun ba ap=>?_)))))
 rcases iS h with ⟨af,h⟩ | ⟨af,h⟩
 rotate_left
 ·refine sCondF S d af ?_
  obtain rfl:=tS h
  obtain rfl:=ae _ d
  have h:=am
  try dsimp only at h
  exact wp_exit (xThen (xThen (xHit (sEnd (.tuple #[]) S (res0 d) (sGoI S hC hJ (Option.some.inj h) _)))))
 refine sCondT S d af (wp_skip (leafT (ap _ _ ?_)))
 refine sSeq (fun bb aq=>wp_block ?_)
 refine sSeq (fun bc ar=>sRegion (sM S fun a S=>?_))
 obtain ⟨a7,au,h⟩:=bS h
 obtain ⟨aL,av,S⟩:=pIdx (P:=Try.prog) (r:=r_api_Row) (v:=.slice aj p0.Rows.length aa) (xs:=p0.Rows) (j:=ac) 40 87 0 S Try.underlying40 d d au
 refine sIdxV S (wN d) d d d av d (lb d) fun a S=>?_
 obtain ⟨aV,S⟩:=pLoad (r:=r_api_Row) (q:=aL) (x:=a7) 0 S d
 obtain ⟨aW,rfl,ak⟩:=S.mem.know (i:=1) (e:=fRep r_api_Row (aV) a7) d
 have S:=S.learn (fRep (rL r_api_Stitch) aW a7.Cells) ak
 obtain ⟨a5,a6,_,rfl,_⟩:=ak
 refine sLoadVN (vq:=aL) 1 [.bool a7.Back,.slice a5 a7.Cells.length a6] S (wN d) d d d d d d (lb d) fun a S=>sAlloc (.agg #[.bool false,.slice none 0 0]) S (wN d) d d [.bool false,.slice none 0 0] d d (lb d) fun a aw w S=>sN S fun a S=>?_
 refine sStore (p:=aw) (off:=0) (T:=87) (vs:=[.bool false,.slice none 0 0]) (v:=.agg #[.bool a7.Back,.slice a5 a7.Cells.length a6]) 0 [.bool a7.Back,.slice a5 a7.Cells.length a6] S (wN d) d d d d d d d (by simp) d fun a w S=>lT (ar _ _ (sSeq (fun bf ax=>sRegion (sM S fun a S=>?_))))
 refine sBuild [(0,iv a0)] [iv a0,iv 0,iv 0] S (wN d) d d d d (lb d) fun a S=>sAlloc (.agg #[iv 0,iv 0,iv 0]) S (wN d) d d [iv 0,iv 0,iv 0] d d (lb d) fun a a8 w S=>sStore (p:=a8) (off:=0) (T:=134) (vs:=[iv 0,iv 0,iv 0]) (v:=.agg #[iv a0,iv 0,iv 0]) 0 [iv a0,iv 0,iv 0] S (wN d) d d d d d d d (by simp) d fun a w S=>lT (ax _ _ (sSeq (fun bg ay=>sRegion (sField (b:=aw) (off:=0) 1 1 S (wN d) d d d d d (lb d) fun a S=>sLoad1 1 (.slice a5 a7.Cells.length a6) S (wN d) d d d d d d (lb d) fun a S=>?_))))
 obtain ⟨a9,az,h⟩:=bS h
 have S1:=S.mem
 refine sCq [.slice a5 a7.Cells.length a6] (.tuple #[iv a9.1,iv a9.2]) S callee100 (S1.quiet [0] d) (fun E1 w1 S1=>c_stitch_Uses E1 w1 a7.Cells (.slice a5 a7.Cells.length a6) a9 az S1) fun a w S=>?_
 refine sM S fun a S=>?_
 refine sExtract (vs:=[iv a9.1,iv a9.2]) (iv a9.1) S (wN d) d d d d (lb d) fun a S=>sExtract (vs:=[iv a9.1,iv a9.2]) (iv a9.2) S (wN d) d d d d (lb d) fun a S=>sN S fun a S=>?_
 refine sN S fun a S=>?_
 refine lT (ay _ _ ?_)
 obtain ⟨aX,h,aZ⟩:=bS h
 refine sCut (fun a w=>∃ a2,∃ a4,(a2,a4)=aX∧∃ E w0,J gz13 E w0∧St [] E [] w0 57 a w [(0,.func (.yield l) #[] #[]),(4,iv ac),(6,.pointer (some ⟨a8,0,none⟩)),(12,.slice aj p0.Rows.length aa),(13,iv (p0.Rows.length:Int)),(14,iv ac)] [eBox a8 134 [iv a0,iv a2,iv a4]] [fRep (rL r_api_Row) (.slice aj p0.Rows.length aa) p0.Rows]) ?_ (fun a w hI=>?_)
 ·refine wp_block ?_
  refine sSeq (fun bh aA=>sRegion (sM S fun a S=>?_))
  refine sBin _ S (wN d) d d d (bNe _ _ _ _ .i64 a9.2 0) d (lb d) fun a S=>sN S fun a S=>?_
  refine lT (aA _ _ ?_)
  rcases iS h with ⟨ag,h⟩ | ⟨ag,h⟩
  ·refine sCondT S d ag (sRegion (sM S fun a S=>?_))
   refine sField (b:=a8) (off:=0) 2 2 S (wN d) d d d d d (lb d) fun a S=>sStore (p:=a8) (off:=2) (T:=134) (vs:=[iv a0,iv 0,iv 0]) (v:=iv a9.2) 0 [iv a9.2] S (wN d) d d d d d d d (by simp) d fun a w S=>?_
   exact leafL (leafB (leafT (⟨0,a9.2,Option.some.inj h,_,_,hJ,S.fix [0] [4] (by decide) d d d⟩)))
  refine sCondF S d ag (sSeq (fun bi aC=>sRegion (sM S fun a S=>?_)))
  refine sM S fun a S=>?_
  refine sBin _ S (wN d) d d d (bNe _ _ _ _ .i64 a9.1 a0) d (lb d) fun a S=>sN S fun a S=>?_
  refine lT (aC _ _ ?_)
  rcases iS h with ⟨ah,h⟩ | ⟨ah,h⟩
  ·refine sCondT S d ah (sRegion (sField (b:=a8) (off:=0) 2 2 S (wN d) d d d d d (lb d) fun a S=>sStore (p:=a8) (off:=2) (T:=134) (vs:=[iv a0,iv 0,iv 0]) (v:=iv 26) 0 [iv 26] S (wN d) d d d d d d d (by simp) d fun a w S=>?_))
   exact leafL (leafB (leafT (⟨0,26,Option.some.inj h,_,_,hJ,S.fix [0] [4] (by decide) d d d⟩)))
  refine sCondF S d ah (sRegion (sField (b:=aw) (off:=0) 1 1 S (wN d) d d d d d (lb d) fun a S=>sLoad1 1 (.slice a5 a7.Cells.length a6) S (wN d) d d d d d d (lb d) fun a S=>?_))
  obtain ⟨ab,aG,h⟩:=bS h
  have S1:=S.mem
  refine sCq [.slice a5 a7.Cells.length a6] (.tuple #[iv ab.1,iv ab.2]) S callee101 (S1.quiet [0] d) (fun E1 w1 S1=>c_stitch_Makes E1 w1 a7.Cells (.slice a5 a7.Cells.length a6) ab aG S1) fun a w S=>?_
  refine sM S fun a S=>?_
  refine sExtract (vs:=[iv ab.1,iv ab.2]) (iv ab.1) S (wN d) d d d d (lb d) fun a S=>sExtract (vs:=[iv ab.1,iv ab.2]) (iv ab.2) S (wN d) d d d d (lb d) fun a S=>sField (b:=a8) (off:=0) 1 1 S (wN d) d d d d d (lb d) fun a S=>sStore (p:=a8) (off:=1) (T:=134) (vs:=[iv a0,iv 0,iv 0]) (v:=iv ab.1) 0 [iv ab.1] S (wN d) d d d d d d d (by simp) d fun a w S=>?_
  exact leafL (leafB (leafT (⟨ab.1,0,Option.some.inj h,_,_,hJ,S.fix [0] [4] (by decide) d d d⟩)))
 obtain ⟨a2,a4,rfl,E,w0,hJ,S⟩:=hI
 have h:=aZ
 try dsimp only at h
 refine sSeq (fun bj aH=>sSeq (fun bk al=>sRegionY ?_))
 refine sSplitR (by repeat (first | exact roundU_out | exact it_out | exact lo_false | refine lo_then ?_ | refine lo_block ?_)) 3 d (fun bl aI=>?_)
 refine sM S fun a S=>?_
 refine sM S fun a S=>?_
 refine sLoadN (p:=a8) (off:=0) (T:=134) (vs:=[iv a0,iv a2,iv a4]) 0 [iv a0,iv a2,iv a4] S (wN d) d d d d d d d (lb d) fun a S=>leafL ⟨d,aI _ _ ?_⟩
 have S:=S.learn (fRep r_chart_count (.agg #[iv a0,iv a2,iv a4]) (chart_count.mk a0 a2 a4)) d
 have S:=S.shutB (r:=r_chart_count) (T:=134) (b:=a8) (cs:=[iv a0,iv a2,iv a4]) 0 (.agg #[iv a0,iv a2,iv a4]) (chart_count.mk a0 a2 a4) d d (S.mem.know (i:=0) (e:=fRep r_chart_count (.agg #[iv a0,iv a2,iv a4]) (chart_count.mk a0 a2 a4)) d)
 obtain ⟨bm,hy52,h⟩:=bS h
 refine sYieldI (ac,(chart_count.mk a0 a2 a4)) [iv ac,.agg #[iv a0,iv a2,iv a4]] S hC hJ hy52 (fA2_mk (d) (S.mem.know (i:=1) (e:=fRep r_chart_count (.agg #[iv a0,iv a2,iv a4]) (chart_count.mk a0 a2 a4)) d)) (wN d) d d d d (by decide) (fun gz53 E a w hb hJ S=>?_) (fun tz54 a w hb hJ S=>?_)
 ·obtain rfl:=hb
  dsimp only at h
  refine list_inR (by repeat (first | exact roundU_out | exact it_out | exact lo_false | refine lo_then ?_ | refine lo_block ?_)) _ d _ _ ?_
  refine sNot (b:=true) S (wN d) d d d (lb d) fun a S=>sM S fun a S=>?_
  obtain ⟨aM,aJ,S⟩:=pFld (P:=Try.prog) (r:=r_chart_count) (s2:=(rI .i64)) (g:=(·.e)) (q:=.pointer (some ⟨a8,0,none⟩)) (z:=(chart_count.mk a0 a2 a4)) 134 2 0 2 S d d comp_chart_count_e
  refine sFldV (q:=.pointer (some ⟨a8,0,none⟩)) S (wG 5 false 49 d d d d) d d aJ d (lb d) fun a S=>?_
  obtain ⟨aO,S⟩:=pLoad (r:=(rI .i64)) (q:=aM) (x:=(chart_count.mk a0 a2 a4).e) 0 S d
  obtain rfl:aO=iv ((chart_count.mk a0 a2 a4).e):=S.mem.know (i:=1) (e:=fRep (rI .i64) (aO) ((chart_count.mk a0 a2 a4).e)) d
  refine sLoadV1 (vq:=aM) 0 (iv ((chart_count.mk a0 a2 a4).e)) S (wG 5 false 49 d d d d) d d d d d (lb d) fun a S=>sBin _ S (wG 5 false 49 d d d d) d d d (bNe _ _ _ _ .i64 ((chart_count.mk a0 a2 a4).e) 0) d (lb d) fun a S=>sPickF (.bool (((chart_count.mk a0 a2 a4).e) != 0)) S (wN d) d d d d d (lb d) fun a S=>lT (al _ _ ?_)
  rcases iS h with ⟨ai,h⟩ | ⟨ai,h⟩
  ·refine sCondT S d ai ?_
   obtain rfl:=tS h
   obtain rfl:=ae _ d
   have h:=am
   try dsimp only at h
   exact wp_ret (rThen (rBlock (rThen (rThen (rBlock (sRet (.tuple #[]) S (res0 d) (sGoI S hC hJ (Option.some.inj h) _)))))))
  refine sCondF S d ai (wp_skip (leafT (aH _ _ ?_)))
  refine sRegion ?_
  obtain ⟨aP,aK,S⟩:=pFld (P:=Try.prog) (r:=r_chart_count) (s2:=(rI .i64)) (g:=(·.after)) (q:=.pointer (some ⟨a8,0,none⟩)) (z:=(chart_count.mk a0 a2 a4)) 134 1 3 1 S d d comp_chart_count_after
  refine sFldV (q:=.pointer (some ⟨a8,0,none⟩)) S (wN d) d d aK d (lb d) fun a S=>?_
  obtain ⟨aQ,S⟩:=pLoad (r:=(rI .i64)) (q:=aP) (x:=(chart_count.mk a0 a2 a4).after) 0 S d
  obtain rfl:aQ=iv ((chart_count.mk a0 a2 a4).after):=S.mem.know (i:=1) (e:=fRep (rI .i64) (aQ) ((chart_count.mk a0 a2 a4).after)) d
  refine sLoadV1 (vq:=aP) 0 (iv ((chart_count.mk a0 a2 a4).after)) S (wN d) d d d d d (lb d) fun a S=>sN S fun a S=>?_
  refine leafL (leafB (leafT (aq _ _ ?_)))
  refine sRegion (sBin _ S (wN d) d d d (bAdd _ _ _ _ ac 1) d (lb d) fun a S=>sM S fun a S=>?_)
  exact lT (⟨((chart_count.mk a0 a2 a4).after,w64 (ac + 1),gz53),(Option.some.inj h).symm,⟨_,_,hJ,S.fix [] [8] (by decide) d d d⟩⟩)
 ·obtain rfl:=hb
  dsimp only at h
  refine list_inR (by repeat (first | exact roundU_out | exact it_out | exact lo_false | refine lo_then ?_ | refine lo_block ?_)) _ d _ _ ?_
  refine sNot (b:=false) S (wN d) d d d (lb d) fun a S=>sM S fun a S=>?_
  refine sSkN 3 5 false 49 S d d d d fun a S=>sPickT (.bool true) S (wN d) d d d d d (lb d) fun a S=>lT (al _ _ (sCondT S d d ?_))
  obtain rfl:=tS h
  obtain rfl:=ae _ d
  have h:=am
  try dsimp only at h
  exact wp_ret (rThen (rBlock (rThen (rThen (rBlock (sRet (.tuple #[]) S (res0 d) (sStopI S hC hJ (Option.some.inj h) _)))))))
noncomputable def chart_Check_l2 :Unit→(Int × chart_count)→Option (Unit ⊕ Int):=fun s0 x0=>match s0,x0 with
 | _,(a2,a0)=>
  if a0.e != 0 then
   some (.inr a0.e)
  else
   some (.inl ())
noncomputable def F_chart_Check (p0:api_Chart):Option Int:=
 if decide (100 < (p0.Rows.length:Int)) then
  some 4
 else
  Option.bind (α:=Bool) (
   if decide (p0.Start < 0) then
    some true
   else
    some (decide (200 < p0.Start))) fun a0=>
  if a0 then
   some 8
  else
   (F_chart_counted p0).bind fun a2=>
   (I_chart_counted_1 a2 _ _ (chart_Check_l2) ()).bind fun z0=>match z0 with
    | .inl _=>
     some 0
    | .inr a4=>
     some a4
theorem c_chart_Check (E:Nat→Prop) (w0:World) (p0:api_Chart) (v0:Value) (r:Int) (h:F_chart_Check p0=some r) (S:St0 E [] w0 w0 [] [fRep r_api_Chart (v0) p0]) :
 Calls Try.prog 50 #[v0] w0 (Ret (X:=Unit) E [] w0 (fun _=>.int .i64 r) (fun _=>[]) (fun _=>[])):=by
 unfold F_chart_Check at h
 obtain ⟨u1,rfl,au⟩:=S.know (i:=0) (e:=fRep r_api_Chart (v0) p0) d
 have S:=S.learn (fRep (rL r_api_Row) u1 p0.Rows) au
 obtain ⟨a4,a5,_,rfl,_⟩:=au
 refine sEnterM (args:=[.agg #[iv p0.Start,.slice a4 p0.Rows.length a5]]) 26 Try.func50 d d (by simp) S (fun a S=>?_)
 refine sSeq (fun K5 ay=>sRegion (sBox (v:=.agg #[iv p0.Start,.slice a4 p0.Rows.length a5]) S (wN d) d d [iv p0.Start,.slice a4 p0.Rows.length a5] d d (lb d) fun a b6 w S=>sAlloc (iv 0) S (wN d) d d [iv 0] d d (lb d) fun a b7 w S=>lT (ay _ _ (sSeq (fun K8 az=>sSeq (fun K9 aA=>sRegion (sField (b:=b6) (off:=0) 1 1 S (wN d) d d d d d (lb d) fun a S=>sLoad1 1 (.slice a4 p0.Rows.length a5) S (wN d) d d d d d d (lb d) fun a S=>sLen S (wN d) d Try.underlying40 d d (lb d) fun a S=>sBin _ S (wN d) d d d (bGt _ _ _ _ .i64 (p0.Rows.length:Int) 100) d (lb d) fun a S=>lT (aA _ _ ?_))))))))
 rcases iS h with ⟨a8,h⟩ | ⟨a8,h⟩
 ·refine sCondT S d a8 (sSeq (fun aH ag=>sRegion (sStore (p:=b7) (off:=0) (T:=27) (vs:=[iv 0]) (v:=iv 4) 0 [iv 4] S (wN d) d d d d d d d (by simp) d fun a w S=>lT (ag _ _ ?_))))
  obtain rfl:=tS h
  exact wp_ret (rThen (sRetM0 (iv 4) S (rsl1 d (rv1 (c:=2) (t:=27) (T:=27) (p:=b7) 0 (iv 4) S d d d)) ⟨(),d,S.mem.sel [] [] (by decide) d d⟩))
 refine sCondF S d a8 (wp_skip (leafT (az _ _ ?_)))
 refine sSeq (fun aI ah=>?_)
 obtain ⟨aC,h,aG⟩:=bS h
 refine sCut (fun a w=>∃ ai,ai=aC∧St [] E [] w0 26 a w [(1,.pointer (some ⟨b6,0,none⟩)),(2,.pointer (some ⟨b7,0,none⟩)),(16,.bool ai)] [eBox b6 42 [iv p0.Start,.slice a4 p0.Rows.length a5],eBox b7 27 [iv 0]] [fRep (rL r_api_Row) (.slice a4 p0.Rows.length a5) p0.Rows]) ?_ (fun a w hI=>?_)
 ·refine sRegion (sField (b:=b6) (off:=0) 0 0 S (wN d) d d d d d (lb d) fun a S=>sLoad1 1 (iv p0.Start) S (wN d) d d d d d d (lb d) fun a S=>sBin _ S (wN d) d d d (bLt _ _ _ _ .i64 p0.Start 0) d (lb d) fun a S=>sM S fun a S=>?_)
  rcases iS h with ⟨a2,h⟩ | ⟨a2,h⟩
  ·refine sSkN 3 3 false 12 S d d a2 d fun a S=>sPickT (.bool true) S (wN d) d d a2 d d (lb d) fun a S=>?_
   exact lT (⟨true,Option.some.inj h,S.fix [1,0] [0] (by decide) d d d⟩)
  refine sField (b:=b6) (off:=0) 0 0 S (wG 3 false 12 d d d a2) d d d d d (lb d) fun a S=>sLoad1 1 (iv p0.Start) S (wG 3 false 12 d d d a2) d d d d d d (lb d) fun a S=>sBin _ S (wG 3 false 12 d d d a2) d d d (bGt _ _ _ _ .i64 p0.Start 200) d (lb d) fun a S=>sPickF (.bool (decide (200 < p0.Start))) S (wN d) d d a2 d d (lb d) fun a S=>?_
  exact lT (⟨decide (200 < p0.Start),Option.some.inj h,S.fix [1,0] [0] (by decide) d d d⟩)
 obtain ⟨ai,rfl,S⟩:=hI
 have h:=aG
 try dsimp only at h
 rcases iS h with ⟨a9,h⟩ | ⟨a9,h⟩
 ·refine sCondT S d a9 (sSeq (fun aJ aj=>sRegion (sStore (p:=b7) (off:=0) (T:=27) (vs:=[iv 0]) (v:=iv 8) 1 [iv 8] S (wN d) d d d d d d d (by simp) d fun a w S=>lT (aj _ _ ?_))))
  obtain rfl:=tS h
  exact wp_ret (rThen (sRetM0 (iv 8) S (rsl1 d (rv1 (c:=2) (t:=27) (T:=27) (p:=b7) 0 (iv 8) S d d d)) ⟨(),d,S.mem.sel [] [] (by decide) d d⟩))
 refine sCondF S d a9 (wp_skip (leafT (ah _ _ ?_)))
 refine sSeq (fun aK ak=>sSeq (fun aL al=>sRegion (sLoadN (p:=b6) (off:=0) (T:=42) (vs:=[iv p0.Start,.slice a4 p0.Rows.length a5]) 0 [iv p0.Start,.slice a4 p0.Rows.length a5] S (wN d) d d d d d d d (lb d) fun a S=>?_)))
 obtain ⟨aa,am,h⟩:=bS h
 have S:=S.learn (fRep r_api_Chart (.agg #[iv p0.Start,.slice a4 p0.Rows.length a5]) p0) ⟨_,d,S.mem.know (i:=0) (e:=fRep (rL r_api_Row) (.slice a4 p0.Rows.length a5) p0.Rows) d⟩
 refine sCall (X:=Value) (f:=82) (vs:=[.agg #[iv p0.Start,.slice a4 p0.Rows.length a5]]) (val:=c_chart_counted_val aa) (B':=fun _=>[]) (D':=c_chart_counted_D aa) [] [eBox b6 42 [iv p0.Start,.slice a4 p0.Rows.length a5],eBox b7 27 [iv 0]] [fRep r_api_Chart (.agg #[iv p0.Start,.slice a4 p0.Rows.length a5]) p0] [0,1] [0] S (wN d) d callee82 d (by decide) d d (fun E1 w1 S1=>c_chart_counted E1 w1 p0 (.agg #[iv p0.Start,.slice a4 p0.Rows.length a5]) aa am S1) d (lb d) fun ab a w S=>?_
 refine lT (al _ _ (wp_block ?_))
 obtain ⟨aM,a7,ac⟩:=bS h
 replace S:St [] E [] w0 26 a w [(2,.pointer (some ⟨b7,0,none⟩)),(18,.func (.func 99) #[] #[ab])] [eBox b7 27 [iv 0]] [fPtr r_api_Chart (ab) aa]:=S.fix [1] [0] (by decide) rfl rfl rfl
 refine sRange2 (B:=chart_Check_l2) (fun s0 L D=>match s0 with | _=>L=[eBox b7 27 [iv 0]]∧D=[fPtr r_api_Chart (ab) aa]) (fun t0 c L D=>match t0 with | af=>c=.ret∧L=[eBox b7 27 [iv af]]∧D=[]) [0] S a7 d callee99 (it_chart_counted_1 aa ab) d (by decide) (by decide) ⟨d,d⟩ ?_ ?_ ?_
 ·intro E l0 s0 av a0 aw ax b L D K a w0 hK hIL hB S
  clear a7 ac h hK
  unfold chart_Check_l2 at hB
  dsimp only at hB hIL
  obtain ⟨rfl,rfl⟩:=hIL
  have h:=hB
  clear hB
  obtain rfl:aw=iv av:=S.mem.know (i:=0) (e:=fRep (rI .i64) (aw) av) d
  obtain rfl:ax=.agg #[iv a0.before,iv a0.after,iv a0.e]:=S.mem.know (i:=1) (e:=fRep r_chart_count (ax) a0) d
  refine sRegionR (by repeat (first | exact roundU_out | exact it_out | exact lo_false | refine lo_then ?_ | refine lo_block ?_)) d ?_
  refine sAlloc (.agg #[iv 0,iv 0,iv 0]) S (wN d) d d [iv 0,iv 0,iv 0] d d (lb d) fun a ao w S=>sStore (p:=ao) (off:=0) (T:=134) (vs:=[iv 0,iv 0,iv 0]) (v:=.agg #[iv a0.before,iv a0.after,iv a0.e]) 0 [iv a0.before,iv a0.after,iv a0.e] S (wN d) d d d d d d d (by simp) d fun a w S=>lT (⟨_,_,_,S,fun K a w0 hK S=>?_⟩)
  refine wpIn_block ?_
  refine sSeqR (fun aO ap=>sRegionR (by repeat (first | exact roundU_out | exact it_out | exact lo_false | refine lo_then ?_ | refine lo_block ?_)) d ?_)
  refine sField (b:=ao) (off:=0) 2 2 S (wN d) d d d d d (lb d) fun a S=>sLoad1 0 (iv a0.e) S (wN d) d d d d d d (lb d) fun a S=>sBin _ S (wN d) d d d (bNe _ _ _ _ .i64 a0.e 0) d (lb d) fun a S=>lT (ap _ _ ?_)
  rcases iS h with ⟨ae,h⟩ | ⟨ae,h⟩
  rotate_left
  ·refine sCondFR S d ae ?_
   exact wpIn_skip (leafB (rnN () _ _ [] (Option.some.inj h) ⟨d,d⟩ (S.fix [1] [2] (by decide) d d d)))
  refine sCondTR S d ae ?_
  refine sSeqR (fun aP aq=>sRegionR (by repeat (first | exact roundU_out | exact it_out | exact lo_false | refine lo_then ?_ | refine lo_block ?_)) d ?_)
  refine sField (b:=ao) (off:=0) 2 2 S (wN d) d d d d d (lb d) fun a S=>sLoad1 0 (iv a0.e) S (wN d) d d d d d d (lb d) fun a S=>sStore (p:=b7) (off:=0) (T:=27) (vs:=[iv 0]) (v:=iv a0.e) 1 [iv a0.e] S (wN d) d d d d d d d (by simp) d fun a w S=>lT (aq _ _ ?_)
  exact wpIn_ret (rBlock (rnR a0.e _ _ [] (Option.some.inj h) ⟨d,d,d⟩ (S.fix [0] [] (by decide) d d d)))
 ·intro a6 s0 L D a w hr hIL S
  clear h
  obtain rfl:=hr
  dsimp only at ac hIL
  obtain ⟨rfl,rfl⟩:=hIL
  have h:=ac
  clear ac a7
  replace S:St [mark a6] E [] w0 26 a w [(2,.pointer (some ⟨b7,0,none⟩)),(18,.func (.func 99) #[] #[ab])] [eBox b7 27 [iv 0],eDef a6] [fPtr r_api_Chart (ab) aa]:=S
  refine leafB (leafT (ak _ _ ?_))
  refine sSeq (fun aQ ar=>sRegion (sStore (p:=b7) (off:=0) (T:=27) (vs:=[iv 0]) (v:=iv 0) 0 [iv 0] S (wN d) d d d d d d d (by simp) d fun a w S=>lT (ar _ _ (wp_ret (sRetM1 1 S d (fun a w S=>?_))))))
  obtain rfl:=tS h
  exact sFin (iv 0) S (rsl1 d (rv1 (c:=2) (t:=27) (T:=27) (p:=b7) 0 (iv 0) S d d d)) ⟨(),d,S.mem.sel [] [] (by decide) d d⟩
 ·intro a6 c0 af L D a w hr hIX S
  clear h
  obtain rfl:=hr
  dsimp only at ac hIX
  obtain ⟨rfl,rfl,rfl⟩:=hIX
  have h:=ac
  clear ac a7
  replace S:St [mark a6] E [] w0 26 a w [(2,.pointer (some ⟨b7,0,none⟩)),(18,.func (.func 99) #[] #[ab])] [eBox b7 27 [iv af],eDef a6] []:=S
  refine wp_ret (rBlock (rThen (sRetM1 1 S d (fun a w S=>?_))))
  obtain rfl:=tS h
  exact sFin (iv af) S (rsl1 d (rv1 (c:=2) (t:=27) (T:=27) (p:=b7) 0 (iv af) S d d d)) ⟨(),d,S.mem.sel [] [] (by decide) d d⟩
theorem set_v {α:Type} (xs:List α) (i:Nat) (y:α) (ad:Option Addr) (c:Nat):Value.slice ad xs.length c=Value.slice ad (xs.set i y).length c:=by rw [List.length_set]
theorem St.closeHN {dq:List Deferred} {E:Nat→Prop} {M:List Nat} {w0:World} {n:Nat} {a:Act} {w:World} {F:List (Nat × Value)} {L:List Ent} {D:List Fact} {α:Type} {r:R α} {T:TypeId} {xs:List α} {y:α} {v u:Value} {j:Int} (i:Nat) (S:St dq E M w0 n a w F L D) (hL:L[i]?=some (eHole r T v xs (j.toNat * r.sz + 0) u)) (hu0:(fRep r u y).p (tot E L) w) (hc:u.cells.toList=[u]) (hr:Scal r) :
 St dq E M w0 n a w F (eRow r T v (xs.set j.toNat y) :: L.eraseIdx i) D:=by
 have hlt:j.toNat < xs.length:=by
  obtain ⟨vs,ha,hm,hp,hl⟩:=S.mem.at hL
  exact Nat.lt_of_mul_lt_mul_right (a:=r.sz) (by simpa using hp)
 have h1:∀ k:Nat,∀ hk:k < xs.length,idxO xs (k:Int)=some xs[k]:=fun k hk=>by simp [idxO,hk]
 have h2:∀ k:Nat,k < xs.length→setO xs (k:Int) y=some (xs.set k y):=fun k hk=>by simp [setO,hk]
 exact S.closeHE (j:=(j.toNat:Int)) (x:=xs[j.toNat]) i hL hu0 hc hr (h1 _ hlt) (h2 _ hlt)
noncomputable def F_compare_Charts_1 (p0:api_Row):Option Int:=
 some (w64 (1 + (p0.Cells.length:Int)))
theorem c_compare_Charts_1 (E:Nat→Prop) (w0:World) (p0:api_Row) (v0:Value) (r:Int) (h:F_compare_Charts_1 p0=some r) (S:St0 E [] w0 w0 [] [fRep r_api_Row (v0) p0]) :
 Calls Try.prog 52 #[v0] w0 (Ret (X:=Unit) E [] w0 (fun _=>.int .i64 r) (fun _=>[]) (fun _=>[])):=by
 unfold F_compare_Charts_1 at h
 obtain ⟨u1,rfl,a4⟩:=S.know (i:=0) (e:=fRep r_api_Row (v0) p0) d
 have S:=S.learn (fRep (rL r_api_Stitch) u1 p0.Cells) a4
 obtain ⟨a0,a2,_,rfl,_⟩:=a4
 refine sEnter (args:=[.agg #[.bool p0.Back,.slice a0 p0.Cells.length a2]]) 7 Try.func52 d d (by simp) S (fun a S=>?_)
 refine sSeq (fun K5 a5=>sRegion (sBox (v:=.agg #[.bool p0.Back,.slice a0 p0.Cells.length a2]) S (wN d) d d [.bool p0.Back,.slice a0 p0.Cells.length a2] d d (lb d) fun a b6 w S=>sN S fun a S=>?_))
 refine lT (a5 _ _ (sSeq (fun K7 a6=>sRegion (sField (b:=b6) (off:=0) 1 1 S (wN d) d d d d d (lb d) fun a S=>sLoad1 0 (.slice a0 p0.Cells.length a2) S (wN d) d d d d d d (lb d) fun a S=>sLen S (wN d) d Try.underlying47 d d (lb d) fun a S=>sBin _ S (wN d) d d d (bAdd _ _ _ _ 1 (p0.Cells.length:Int)) d (lb d) fun a S=>sN S fun a S=>?_))))
 refine lT (a6 _ _ ?_)
 obtain rfl:=tS h
 exact wp_ret (sRet (iv (w64 (1 + (p0.Cells.length:Int)))) S (rsl1 d (rvT (t:=2) (v:=iv (w64 (1 + (p0.Cells.length:Int)))) S d)) ⟨(),d,S.mem.sel [] [] (by decide) d d⟩)
noncomputable def F_compare_cellTable_1 (p0:api_Stitch):Option Int:=
 some 1
theorem c_compare_cellTable_1 (E:Nat→Prop) (w0:World) (p0:api_Stitch) (v0:Value) (r:Int) (h:F_compare_cellTable_1 p0=some r) (S:St0 E [] w0 w0 [] [fRep r_api_Stitch (v0) p0]) :
 Calls Try.prog 84 #[v0] w0 (Ret (X:=Unit) E [] w0 (fun _=>.int .i64 r) (fun _=>[]) (fun _=>[])):=by
 unfold F_compare_cellTable_1 at h
 obtain rfl:v0=.agg #[.int .u8 p0.Kind,.bool p0.Purl,iv p0.A,iv p0.B]:=S.know (i:=0) (e:=fRep r_api_Stitch (v0) p0) d
 refine sEnter (args:=[.agg #[.int .u8 p0.Kind,.bool p0.Purl,iv p0.A,iv p0.B]]) 3 Try.func84 d d (by simp) S (fun a S=>?_)
 refine sSeq (fun K1 a0=>sRegion (sBox (v:=.agg #[.int .u8 p0.Kind,.bool p0.Purl,iv p0.A,iv p0.B]) S (wN d) d d [.int .u8 p0.Kind,.bool p0.Purl,iv p0.A,iv p0.B] d d (lb d) fun a b2 w S=>sN S fun a S=>?_))
 refine lT (a0 _ _ (sSeq (fun K3 a2=>sRegion (sN S fun a S=>?_))))
 refine lT (a2 _ _ ?_)
 obtain rfl:=tS h
 exact wp_ret (sRet (iv 1) S (rsl1 d (rvT (t:=2) (v:=iv 1) S d)) ⟨(),d,S.mem.sel [] [] (by decide) d d⟩)
noncomputable def F_compare_cellTable_2 (p0:api_Stitch) (p1:api_Stitch):Option Int:=
 if ((p0.Kind == p1.Kind) && ((p0.Purl == p1.Purl) && ((p0.A == p1.A) && ((p0.B == p1.B) && true)))) then
  some 0
 else
  some 1
theorem c_compare_cellTable_2 (E:Nat→Prop) (w0:World) (p0:api_Stitch) (v0:Value) (p1:api_Stitch) (v1:Value) (r:Int) (h:F_compare_cellTable_2 p0 p1=some r) (S:St0 E [] w0 w0 [] [fRep r_api_Stitch (v0) p0,fRep r_api_Stitch (v1) p1]) :
 Calls Try.prog 85 #[v0,v1] w0 (Ret (X:=Unit) E [] w0 (fun _=>.int .i64 r) (fun _=>[]) (fun _=>[])):=by
 unfold F_compare_cellTable_2 at h
 obtain rfl:v0=.agg #[.int .u8 p0.Kind,.bool p0.Purl,iv p0.A,iv p0.B]:=S.know (i:=0) (e:=fRep r_api_Stitch (v0) p0) d
 obtain rfl:v1=.agg #[.int .u8 p1.Kind,.bool p1.Purl,iv p1.A,iv p1.B]:=S.know (i:=1) (e:=fRep r_api_Stitch (v1) p1) d
 refine sEnter (args:=[.agg #[.int .u8 p0.Kind,.bool p0.Purl,iv p0.A,iv p0.B],.agg #[.int .u8 p1.Kind,.bool p1.Purl,iv p1.A,iv p1.B]]) 8 Try.func85 d d (by simp) S (fun a S=>?_)
 refine sSeq (fun K1 a2=>sRegion (sBox (v:=.agg #[.int .u8 p0.Kind,.bool p0.Purl,iv p0.A,iv p0.B]) S (wN d) d d [.int .u8 p0.Kind,.bool p0.Purl,iv p0.A,iv p0.B] d d (lb d) fun a b2 w S=>sBox (v:=.agg #[.int .u8 p1.Kind,.bool p1.Purl,iv p1.A,iv p1.B]) S (wN d) d d [.int .u8 p1.Kind,.bool p1.Purl,iv p1.A,iv p1.B] d d (lb d) fun a b3 w S=>sN S fun a S=>?_))
 refine lT (a2 _ _ (sSeq (fun K4 a4=>sSeq (fun K5 a5=>sRegion (sLoadN (p:=b2) (off:=0) (T:=81) (vs:=[.int .u8 p0.Kind,.bool p0.Purl,iv p0.A,iv p0.B]) 1 [.int .u8 p0.Kind,.bool p0.Purl,iv p0.A,iv p0.B] S (wN d) d d d d d d d (lb d) fun a S=>sLoadN (p:=b3) (off:=0) (T:=81) (vs:=[.int .u8 p1.Kind,.bool p1.Purl,iv p1.A,iv p1.B]) 0 [.int .u8 p1.Kind,.bool p1.Purl,iv p1.A,iv p1.B] S (wN d) d d d d d d d (lb d) fun a S=>sBin _ S (wN d) d d d (bEqV _ _ _ _ #[.int .u8 p0.Kind,.bool p0.Purl,iv p0.A,iv p0.B] #[.int .u8 p1.Kind,.bool p1.Purl,iv p1.A,iv p1.B] ((p0.Kind == p1.Kind) && ((p0.Purl == p1.Purl) && ((p0.A == p1.A) && ((p0.B == p1.B) && true)))) (by kernel_rfl) (eqlV_of (by kernel_rfl))) d (lb d) fun a S=>lT (a5 _ _ ?_))))))
 rcases iS h with ⟨a0,h⟩ | ⟨a0,h⟩
 ·refine sCondT S d a0 (sSeq (fun K7 a6=>sRegion (sN S fun a S=>?_)))
  refine lT (a6 _ _ ?_)
  obtain rfl:=tS h
  exact wp_ret (rThen (sRet (iv 0) S (rsl1 d (rvT (t:=4) (v:=iv 0) S d)) ⟨(),d,S.mem.sel [] [] (by decide) d d⟩))
 refine sCondF S d a0 (wp_skip (leafT (a4 _ _ ?_)))
 refine sSeq (fun K8 a7=>sRegion (sN S fun a S=>?_))
 refine lT (a7 _ _ ?_)
 obtain rfl:=tS h
 exact wp_ret (sRet (iv 1) S (rsl1 d (rvT (t:=4) (v:=iv 1) S d)) ⟨(),d,S.mem.sel [] [] (by decide) d d⟩)
def anc_compare_table_api_Stitch__s0_0:List (List Nat):=[[],[],[0,1],[0,1,2],[],[],[],[5,6],[5,6,7],[],[9],[5,6,7,8,9,10],[5,6,7,8,9,10,11],[],[],[],[14,15],[14,15,16],[13,14,15,16,17],[5,6,7,8,9,10,11,12,13,14,15,16,17,18],[0,1,2,3,4,5,6,7,8,9,10,11,12,13,14,15,16,17,18,19],[0,1,2,3,4,5,6,7,8,9,10,11,12,13,14,15,16,17,18,19,20]]
def anc_compare_table_api_Stitch__s0_1:List (List Nat):=[[],[],[0,1],[0,1,2],[],[],[],[6],[5,6,7],[5,6,7,8],[],[5,6,7,8,9,10],[5,6,7,8,9,10,11],[],[],[],[14,15],[14,15,16],[13,14,15,16,17],[5,6,7,8,9,10,11,12,13,14,15,16,17,18],[0,1,2,3,4,5,6,7,8,9,10,11,12,13,14,15,16,17,18,19],[0,1,2,3,4,5,6,7,8,9,10,11,12,13,14,15,16,17,18,19,20]]
def anc_compare_table_api_Stitch__s0_2:List (List Nat):=[[],[],[0,1],[0,1,2],[],[],[],[6],[5,6,7],[5,6,7,8],[],[5,6,7,8,9,10],[5,6,7,8,9,10,11],[],[],[],[14,15],[14,15,16],[13,14,15,16,17],[5,6,7,8,9,10,11,12,13,14,15,16,17,18],[],[],[20,21],[20,21,22],[],[24],[20,21,22,23,24,25],[20,21,22,23,24,25,26],[],[],[],[29,30],[29,30,31],[13,14,15,16,17,18,28,29,30,31,32],[13,14,15,16,17,18,20,21,22,23,24,25,26,27,28,29,30,31,32,33],[],[],[36],[35,36,37],[35,36,37,38],[],[40],[35,36,37,38,39,40,41],[35,36,37,38,39,40,41,42],[],[],[],[45,46],[45,46,47],[],[],[49,50],[49,50,51],[13,14,15,16,17,18,28,29,30,31,32,33,44,45,46,47,48,49,50,51,52],[13,14,15,16,17,18,28,29,30,31,32,33,35,36,37,38,39,40,41,42,43,44,45,46,47,48,49,50,51,52,53],[5,6,7,8,9,10,11,12,13,14,15,16,17,18,19,20,21,22,23,24,25,26,27,28,29,30,31,32,33,34,35,36,37,38,39,40,41,42,43,44,45,46,47,48,49,50,51,52,53,54],[0,1,2,3,4,5,6,7,8,9,10,11,12,13,14,15,16,17,18,19,20,21,22,23,24,25,26,27,28,29,30,31,32,33,34,35,36,37,38,39,40,41,42,43,44,45,46,47,48,49,50,51,52,53,54,55],[0,1,2,3,4,5,6,7,8,9,10,11,12,13,14,15,16,17,18,19,20,21,22,23,24,25,26,27,28,29,30,31,32,33,34,35,36,37,38,39,40,41,42,43,44,45,46,47,48,49,50,51,52,53,54,55,56]]
noncomputable def compare_table_api_Stitch__s0_l1 (a4:Int) (p0:(List api_Stitch)) (p1:(List api_Stitch)) (al:List (List Int)):(Int × List Int)→Option ((Int × List Int) ⊕ List Int):=fun s0=>match s0 with
 | (a0,a2)=>
  if decide (0 ≤ a0) then
   Option.bind (α:=List Int) (
    Option.bind (α:=Bool) (
     if a4 == (p0.length:Int) then
      some (a0 == (p1.length:Int))
     else
      some false) fun am=>
    if am then
     some a2
    else
     if a4 == (p0.length:Int) then
      (idxO a2 (w64 (a0 + 1))).bind fun ao=>
      (idxO p1 a0).bind fun ap=>
      (F_compare_cellTable_1 ap).bind fun aq=>
      (idxO a2 a0).bind fun ax=>
      (setO a2 a0 (w64 (ao + aq))).bind fun ar=>
      some ar
     else
      if a0 == (p1.length:Int) then
       (idxO al (w64 (a4 + 1))).bind fun a8=>
       (idxO a8 a0).bind fun a9=>
       (idxO p0 a4).bind fun aa=>
       (F_compare_cellTable_1 aa).bind fun ab=>
       (idxO a2 a0).bind fun au=>
       (setO a2 a0 (w64 (a9 + ab))).bind fun ac=>
       some ac
      else
       (idxO al (w64 (a4 + 1))).bind fun a5=>
       (idxO a5 a0).bind fun ae=>
       (idxO p0 a4).bind fun a6=>
       (F_compare_cellTable_1 a6).bind fun af=>
       (idxO a2 (w64 (a0 + 1))).bind fun ag=>
       (idxO p1 a0).bind fun a7=>
       (F_compare_cellTable_1 a7).bind fun ah=>
       (idxO a5 (w64 (a0 + 1))).bind fun ai=>
       (F_compare_cellTable_2 a6 a7).bind fun aj=>
       (idxO a2 a0).bind fun av=>
       (setO a2 a0 (min3 (w64 (ae + af)) (w64 (ag + ah)) (w64 (ai + aj)))).bind fun ak=>
       some ak) fun aw=>
   some (.inl (w64 (a0 - 1),aw))
  else
   some (.inr a2)
noncomputable def compare_table_api_Stitch__s0_l2 (p1:(List api_Stitch)) (p0:(List api_Stitch)):(List (List Int) × Int)→Option ((List (List Int) × Int) ⊕ List (List Int)):=fun s0=>match s0 with
 | (a2,a0)=>
  if decide (0 ≤ a0) then
   Option.bind (α:=List Int) (
    (makeO (w64 ((p1.length:Int) + 1)) (0:Int)).bind fun a4=>
    (idxO a2 a0).bind fun a7=>
    (whileO (compare_table_api_Stitch__s0_l1 a0 p0 p1 a2) ((p1.length:Int),a4)).bind fun a5=>
     some a5) fun a6=>
   some (.inl ((a2.set (a0).toNat a6),w64 (a0 - 1)))
  else
   some (.inr a2)
noncomputable def F_compare_table_api_Stitch__s0 (p0:(List api_Stitch)) (p1:(List api_Stitch)):Option (List (List Int)):=
 (makeO (w64 ((p0.length:Int) + 1)) ([]:(List Int))).bind fun m9=>
 Option.bind (α:=List (List Int)) (
  (whileO (compare_table_api_Stitch__s0_l2 p1 p0) (m9,(p0.length:Int))).bind fun a0=>
   some a0) fun a2=>
 some a2
def c_compare_table_api_Stitch__s0_val (r:(List (List Int))) (x:Value):Value:=x
def c_compare_table_api_Stitch__s0_D (r:(List (List Int))) (x:Value):List Fact:=[fRep (rL (rL (rI .i64))) x r]
theorem c_compare_table_api_Stitch__s0 (E:Nat→Prop) (w0:World) (p0:(List api_Stitch)) (v0:Value) (p1:(List api_Stitch)) (v1:Value) (r:(List (List Int))) (h:F_compare_table_api_Stitch__s0 p0 p1=some r) (S:St0 E [] w0 w0 [] [fRep (rL r_api_Stitch) (v0) p0,fRep (rL r_api_Stitch) (v1) p1]) :
 Calls Try.prog 83 #[v0,v1,.func (.func 84) #[] #[],.func (.func 85) #[] #[]] w0 (Ret (X:=Value) E [] w0 (c_compare_table_api_Stitch__s0_val r) (fun _=>[]) (c_compare_table_api_Stitch__s0_D r)):=by
 unfold F_compare_table_api_Stitch__s0 at h
 obtain ⟨ar,au,_,rfl,_⟩:=S.know (i:=0) (e:=fRep (rL r_api_Stitch) (v0) p0) d
 obtain ⟨ap,aq,_,rfl,_⟩:=S.know (i:=1) (e:=fRep (rL r_api_Stitch) (v1) p1) d
 refine sEnter (args:=[.slice ar p0.length au,.slice ap p1.length aq,.func (.func 84) #[] #[],.func (.func 85) #[] #[]]) 156 Try.func83 d d (by simp) S (fun a S=>?_)
 refine sSeq (fun K5 dh=>sRegion (sN S fun a S=>?_))
 refine lT (dh _ _ (sSeq (fun K6 di=>sRegion (sM S fun a S=>?_))))
 refine sLen S (wN d) d Try.underlying47 d d (lb d) fun a S=>sBin _ S (wN d) d d d (bAdd _ _ _ _ (p0.length:Int) 1) d (lb d) fun a S=>?_
 obtain ⟨m9,cA,h⟩:=bS h
 refine sMake (r:=(rL (rI .i64))) (m:=w64 ((p0.length:Int) + 1)) (xs:=m9) (.slice none 0 0) ([]:(List Int)) 24 S (wN d) d Try.underlying98 d d (by decide) (fun E w=>rL_nil _ E w) d d cA d (lb d) fun a w ab ac S=>sN S fun a S=>?_
 refine lT (di _ _ ?_)
 obtain ⟨dj,h,dk⟩:=bS h
 refine sCut (fun a w=>∃ bi,bi=dj∧St [] E [] w0 156 a w [(9,.slice ab bi.length ac)] [eRow (rL (rI .i64)) 101 (.slice ab bi.length ac) bi] []) ?_ (fun a w hI=>?_)
 rotate_left
 ·obtain ⟨bi,rfl,S⟩:=hI
  have h:=dk
  try dsimp only at h
  refine sSeq (fun dl c6=>sRegion (sM S fun a S=>?_))
  refine sN S fun a S=>?_
  refine lT (c6 _ _ ?_)
  obtain rfl:=tS h
  have S:=S.shutR (r:=(rL (rI .i64))) (T:=101) (v:=.slice ab bi.length ac) (xs:=bi) 0 d
  exact wp_ret (sRet (.slice ab bi.length ac) S (rsl1 d (rvT (t:=8) (v:=.slice ab bi.length ac) S d)) ⟨(.slice ab bi.length ac),d,S.mem.sel [] [0] (by decide) d d⟩)
 refine sSeq (fun dB cB=>sRegion (sM S fun a S=>?_))
 refine sLen S (wN d) d Try.underlying47 d d (lb d) fun a S=>sN S fun a S=>?_
 refine lT (cB _ _ (wp_block ?_))
 obtain ⟨dC,hl,dm⟩:=bS h
 refine sLoop hl (fun s0 a w=>match s0 with | (a6,a7)=>St [] E [] w0 156 a w [(0,.slice ar p0.length au),(1,.slice ap p1.length aq),(2,.func (.func 84) #[] #[]),(3,.func (.func 85) #[] #[]),(9,.slice ab a6.length ac),(10,iv a7)] [eRow (rL (rI .i64)) 101 (.slice ab a6.length ac) a6] [fRep (rL r_api_Stitch) (.slice ar p0.length au) p0,fRep (rL r_api_Stitch) (.slice ap p1.length aq) p1]) (S.fix [0] [0,1] (by decide) d d d) ?_
 clear hl h
 intro s0 a w c0 hI h cC
 obtain ⟨a6,a7⟩:=s0
 unfold compare_table_api_Stitch__s0_l2 at h
 dsimp only at h hI
 have S:=hI
 refine sSeq (fun dD cD=>sSeq (fun dE cE=>sRegion (sM S fun a S=>?_)))
 refine sBin _ S (wN d) d d d (bGe _ _ _ _ .i64 a7 0) d (lb d) fun a S=>lT (cE _ _ ?_)
 rcases iS h with ⟨bR,h⟩ | ⟨bR,h⟩
 rotate_left
 ·refine sCondF S d bR ?_
  obtain rfl:=tS h
  obtain rfl:=cC _ d
  have h:=dm
  try dsimp only at h
  exact wp_exit (xThen (xThen (xHit (leafT (⟨a6,Option.some.inj h,S.fix [0] [] (by decide) d d d⟩)))))
 refine sCondT S d bR (wp_skip (leafT (cD _ _ ?_)))
 obtain ⟨dn,h,dp⟩:=bS h
 refine sCut (fun a w=>∃ aW,aW=dn∧∃ aX,∃ aZ,St [] E [] w0 156 a w [(0,.slice ar p0.length au),(1,.slice ap p1.length aq),(2,.func (.func 84) #[] #[]),(3,.func (.func 85) #[] #[]),(9,.slice ab a6.length ac),(10,iv a7)] [eHole (rL (rI .i64)) 101 (.slice ab a6.length ac) a6 ((a7).toNat * (rL (rI .i64)).sz + 0) (.slice aX aW.length aZ),eRow (rI .i64) 3 (.slice aX aW.length aZ) aW] [fRep (rL r_api_Stitch) (.slice ar p0.length au) p0,fRep (rL r_api_Stitch) (.slice ap p1.length aq) p1]) ?_ (fun a w hI=>?_)
 rotate_left
 ·obtain ⟨aW,rfl,aX,aZ,S⟩:=hI
  have h:=dp
  try dsimp only at h
  refine sRegion (sM S fun a S=>?_)
  refine sBin _ S (wN d) d d d (bSub _ _ _ _ a7 1) d (lb d) fun a S=>sN S fun a S=>?_
  have S:=S.shutR (r:=(rI .i64)) (T:=3) (v:=.slice aX aW.length aZ) (xs:=aW) 1 d
  have S:=S.closeHN (r:=(rL (rI .i64))) (T:=101) (xs:=a6) (y:=aW) (v:=.slice ab a6.length ac) (u:=.slice aX aW.length aZ) (j:=a7) 0 d (S.mem.know (i:=0) (e:=fRep (rL (rI .i64)) (.slice aX aW.length aZ) aW) d) d (scal_L _)
  rw [set_v a6 (a7).toNat aW ab ac] at S
  exact lT (⟨((a6.set (a7).toNat aW),w64 (a7 - 1)),(Option.some.inj h).symm,(S.fix [0] [1,2] (by decide) d d d)⟩)
 refine wp_block ?_
 refine sSeq (fun dF cF=>sRegion (sM S fun a S=>?_))
 refine sM S fun a S=>?_
 refine sM S fun a S=>?_
 refine sLen S (wN d) d Try.underlying47 d d (lb d) fun a S=>sBin _ S (wN d) d d d (bAdd _ _ _ _ (p1.length:Int) 1) d (lb d) fun a S=>?_
 obtain ⟨da,cG,h⟩:=bS h
 refine sMake (r:=(rI .i64)) (m:=w64 ((p1.length:Int) + 1)) (xs:=da) (iv 0) (0:Int) 8 S (wN d) d Try.underlying101 d d (by decide) (fun _ _=>d) d d cG d (lb d) fun a w a4 a5 S=>?_
 obtain ⟨dr,am,h⟩:=bS h
 obtain ⟨dt,cH,cI⟩:=pIdxR (P:=Try.prog) (r:=(rL (rI .i64))) (T:=101) (v:=.slice ab a6.length ac) (xs:=a6) (j:=a7) 98 101 1 S Try.underlying98 d d am
 refine sIdxV S (wN d) d d d cH d (lb d) fun a S=>sStoreHE (r:=(rL (rI .i64))) (T:=101) (xs:=a6) (x:=dr) (v:=.slice ab a6.length ac) (vq:=dt) (u:=.slice a4 da.length a5) (j:=a7) 1 S cI (wN d) d d d d am d d d d fun a w S=>?_
 refine lT (cF _ _ (sSeq (fun dG cJ=>sRegion (sM S fun a S=>?_))))
 refine sLen S (wN d) d Try.underlying47 d d (lb d) fun a S=>sN S fun a S=>?_
 refine lT (cJ _ _ (wp_block ?_))
 obtain ⟨dH,hl,du⟩:=bS h
 refine sLoop hl (fun s0 a w=>match s0 with | (a9,aa)=>St [] E [] w0 156 a w [(0,.slice ar p0.length au),(1,.slice ap p1.length aq),(2,.func (.func 84) #[] #[]),(3,.func (.func 85) #[] #[]),(9,.slice ab a6.length ac),(10,iv a7),(11,iv a9)] [eHole (rL (rI .i64)) 101 (.slice ab a6.length ac) a6 ((a7).toNat * (rL (rI .i64)).sz + 0) (.slice a4 aa.length a5),eRow (rI .i64) 3 (.slice a4 aa.length a5) aa] [fRep (rL r_api_Stitch) (.slice ar p0.length au) p0,fRep (rL r_api_Stitch) (.slice ap p1.length aq) p1]) (S.fix [0,1] [0,1] (by decide) d d d) ?_
 clear hl h
 intro s0 a w c0 hI h cK
 obtain ⟨a9,aa⟩:=s0
 unfold compare_table_api_Stitch__s0_l1 at h
 dsimp only at h hI
 have S:=hI
 refine sSeq (fun dI cL=>sSeq (fun dJ cM=>sRegion (sM S fun a S=>?_)))
 refine sBin _ S (wN d) d d d (bGe _ _ _ _ .i64 a9 0) d (lb d) fun a S=>lT (cM _ _ ?_)
 rcases iS h with ⟨bT,h⟩ | ⟨bT,h⟩
 rotate_left
 ·refine sCondF S d bT ?_
  obtain rfl:=tS h
  obtain rfl:=cK _ d
  have h:=du
  try dsimp only at h
  exact wp_exit (xThen (xThen (xHit (leafB (leafT (⟨aa,Option.some.inj h,a4,a5,S.fix [0,1] [0,1] (by decide) d d d⟩))))))
 refine sCondT S d bT (wp_skip (leafT (cL _ _ ?_)))
 obtain ⟨dv,h,dw⟩:=bS h
 refine sCut (fun a w=>∃ c5,c5=dv∧St [] E [] w0 156 a w [(0,.slice ar p0.length au),(1,.slice ap p1.length aq),(2,.func (.func 84) #[] #[]),(3,.func (.func 85) #[] #[]),(9,.slice ab a6.length ac),(10,iv a7),(11,iv a9)] [eHole (rL (rI .i64)) 101 (.slice ab a6.length ac) a6 ((a7).toNat * (rL (rI .i64)).sz + 0) (.slice a4 c5.length a5),eRow (rI .i64) 3 (.slice a4 c5.length a5) c5] [fRep (rL r_api_Stitch) (.slice ar p0.length au) p0,fRep (rL r_api_Stitch) (.slice ap p1.length aq) p1]) ?_ (fun a w hI=>?_)
 rotate_left
 ·obtain ⟨c5,rfl,S⟩:=hI
  have h:=dw
  try dsimp only at h
  refine sRegion (sM S fun a S=>?_)
  refine sBin _ S (wN d) d d d (bSub _ _ _ _ a9 1) d (lb d) fun a S=>sN S fun a S=>?_
  exact lT (⟨(w64 (a9 - 1),c5),(Option.some.inj h).symm,(S.fix [0,1] [0,1] (by decide) d d d)⟩)
 refine wp_block ?_
 refine wp_block ?_
 obtain ⟨dx,h,dy⟩:=bS h
 refine sCut (fun a w=>∃ cN,cN=dx∧St [] E [] w0 156 a w [(0,.slice ar p0.length au),(1,.slice ap p1.length aq),(2,.func (.func 84) #[] #[]),(3,.func (.func 85) #[] #[]),(9,.slice ab a6.length ac),(10,iv a7),(11,iv a9),(92,.bool cN)] [eHole (rL (rI .i64)) 101 (.slice ab a6.length ac) a6 ((a7).toNat * (rL (rI .i64)).sz + 0) (.slice a4 aa.length a5),eRow (rI .i64) 3 (.slice a4 aa.length a5) aa] [fRep (rL r_api_Stitch) (.slice ar p0.length au) p0,fRep (rL r_api_Stitch) (.slice ap p1.length aq) p1]) ?_ (fun a w hI=>?_)
 ·refine sRegion (sM S fun a S=>?_)
  refine sM S fun a S=>?_
  refine sLen S (wN d) d Try.underlying47 d d (lb d) fun a S=>sBin _ S (wN d) d d d (bEq _ _ _ _ .i64 a7 (p0.length:Int)) d (lb d) fun a S=>sM S fun a S=>?_
  rcases iS h with ⟨ay,h⟩ | ⟨ay,h⟩
  rotate_left
  ·refine sSkN 4 4 true 97 S d d ay d fun a S=>sPickF (.bool false) S (wN d) d d ay d d (lb d) fun a S=>sN S fun a S=>?_
   exact lT (⟨false,Option.some.inj h,S.fix [0,1] [0,1] (by decide) d d d⟩)
  refine sMove (iv a9) S (wG 4 true 97 d d d ay) (.inl d) d d (lb d) fun a S=>sMove (.slice ap p1.length aq) S (wG 4 true 97 d d d ay) (.inl d) d d (lb d) fun a S=>sLen S (wG 4 true 97 d d d ay) d Try.underlying47 d d (lb d) fun a S=>sBin _ S (wG 4 true 97 d d d ay) d d d (bEq _ _ _ _ .i64 a9 (p1.length:Int)) d (lb d) fun a S=>sPickT (.bool (a9 == (p1.length:Int))) S (wN d) d d ay d d (lb d) fun a S=>sN S fun a S=>?_
  exact lT (⟨a9 == (p1.length:Int),Option.some.inj h,S.fix [0,1] [0,1] (by decide) d d d⟩)
 obtain ⟨cN,rfl,S⟩:=hI
 have h:=dy
 try dsimp only at h
 rcases iS h with ⟨bU,h⟩ | ⟨bU,h⟩
 ·refine sCondT S d bU ?_
  exact wp_skip (leafB (leafB (leafT (⟨aa,Option.some.inj h,S.fix [0,1] [0,1] (by decide) d d d⟩))))
 refine sCondF S d bU (sSeq (fun dK cO=>sRegion (sM S fun a S=>?_)))
 refine sM S fun a S=>?_
 refine sLen S (wN d) d Try.underlying47 d d (lb d) fun a S=>sBin _ S (wN d) d d d (bEq _ _ _ _ .i64 a7 (p0.length:Int)) d (lb d) fun a S=>sN S fun a S=>?_
 refine lT (cO _ _ ?_)
 rcases iS h with ⟨bV,h⟩ | ⟨bV,h⟩
 ·refine sCondT S d bV ?_
  obtain ⟨bn,c7,h⟩:=bS h
  obtain ⟨ao,cP,h⟩:=bS h
  obtain ⟨bo,cQ,h⟩:=bS h
  obtain ⟨dL,cR,h⟩:=bS h
  obtain ⟨db,c8,h⟩:=bS h
  obtain ⟨dc,cS,cT⟩:=pIdxH (P:=Try.prog) (r:=(rL (rI .i64))) (T:=101) (v:=.slice ab a6.length ac) (xs:=a6) (j:=a7) 98 101 0 S Try.underlying98 d d am
  obtain ⟨de,cU,cV⟩:=pIdxH (P:=Try.prog) (r:=(rL (rI .i64))) (T:=101) (v:=.slice ab a6.length ac) (xs:=a6) (j:=a7) 98 101 0 S Try.underlying98 d d am
  obtain ⟨df,cW,cX⟩:=pIdxR (P:=Try.prog) (r:=(rI .i64)) (T:=3) (v:=.slice a4 aa.length a5) (xs:=aa) (j:=w64 (a9 + 1)) 101 3 1 S Try.underlying101 d d c7
  obtain ⟨cY,cZ,S⟩:=pIdx (P:=Try.prog) (r:=r_api_Stitch) (v:=.slice ap p1.length aq) (xs:=p1) (j:=a9) 47 81 1 S Try.underlying47 d d cP
  obtain ⟨dg,S⟩:=pLoad (r:=r_api_Stitch) (q:=cY) (x:=ao) 0 S d
  obtain rfl:dg=.agg #[.int .u8 ao.Kind,.bool ao.Purl,iv ao.A,iv ao.B]:=S.mem.know (i:=1) (e:=fRep r_api_Stitch (dg) ao) d
  obtain ⟨d0,d1,d3⟩:=pIdxR (P:=Try.prog) (r:=(rI .i64)) (T:=3) (v:=.slice a4 aa.length a5) (xs:=aa) (j:=a9) 101 3 1 S Try.underlying101 d d cR
  refine sDraw (nf:=[21]) (W:=[(0,108,.slice ab a6.length ac),(1,109,iv a7),(2,110,dc),(3,111,.slice a4 aa.length a5),(4,112,iv a9),(5,113,.slice ab a6.length ac),(6,114,iv a7),(7,115,de),(8,116,.slice a4 aa.length a5),(9,117,iv a9),(10,118,iv (w64 (a9 + 1))),(11,119,df),(12,120,iv bn),(13,121,.func (.func 84) #[] #[]),(14,122,.slice ap p1.length aq),(15,123,iv a9),(16,124,cY),(17,125,.agg #[.int .u8 ao.Kind,.bool ao.Purl,iv ao.A,iv ao.B]),(18,126,iv bo),(19,127,iv (w64 (bn + bo))),(20,128,d0)]) d S ?_
  refine node_by (A:=anc_compare_table_api_Stitch__s0_0) 22 (by kernel_rfl) (by kernel_rfl) (by kernel_rfl) (by kernel_rfl) (by kernel_rfl) [0,1,2,3,4,5,6,7,8,9,10,11,12,13,14,15,16,17,18,19,20] (by kernel_rfl) (by decide) (by decide) (fF ?_ (fF ?_ (fF ?_ (fF ?_ (fF ?_ (fF ?_ (fF ?_ (fF ?_ (fF ?_ (fF ?_ (fF ?_ (fF ?_ (fF ?_ (fF ?_ (fF ?_ (fF ?_ (fF ?_ (fF ?_ (fF ?_ (fF ?_ (fF ?_ (fN ?_ (trivial))))))))))))))))))))))) [] (fun q hq=>by cases hq) (fun hY=>absurd (hY 21 (by decide)) (by decide))
  ·exact fM 0 none d d d d (.inl d) d d d
  ·exact fM 1 none d d d d (.inl d) d d d
  ·refine fJ [(108,_),(109,_)] 2 [some 0,some 1] fun G a w S=>?_
   exact sIdxV S (wN d) d d d cS d (lb d) fun a S=>leafL ⟨d,S⟩
  ·refine fJ [(110,_)] 3 [some 2] fun G a w S=>?_
   exact sLoadHE (r:=(rL (rI .i64))) (T:=101) (xs:=a6) (u:=.slice a4 aa.length a5) (v:=.slice ab a6.length ac) (vq:=dc) (j:=a7) 0 S cT (wN d) d d d d d (lb d) fun a S=>leafL ⟨d,S⟩
  ·exact fM 4 none d d d d (.inl d) d d d
  ·exact fM 5 none d d d d (.inl d) d d d
  ·exact fM 6 none d d d d (.inl d) d d d
  ·refine fJ [(113,_),(114,_)] 7 [some 5,some 6] fun G a w S=>?_
   exact sIdxV S (wN d) d d d cU d (lb d) fun a S=>leafL ⟨d,S⟩
  ·refine fJ [(115,_)] 8 [some 7] fun G a w S=>?_
   exact sLoadHE (r:=(rL (rI .i64))) (T:=101) (xs:=a6) (u:=.slice a4 aa.length a5) (v:=.slice ab a6.length ac) (vq:=de) (j:=a7) 0 S cV (wN d) d d d d d (lb d) fun a S=>leafL ⟨d,S⟩
  ·exact fM 9 none d d d d (.inl d) d d d
  ·refine fJ [(117,_)] 10 [some 9] fun G a w S=>?_
   exact sBin _ S (wN d) d d d (bAdd _ _ _ _ a9 1) d (lb d) fun a S=>leafL ⟨d,S⟩
  ·refine fJ [(116,_),(118,_)] 11 [some 8,some 10] fun G a w S=>?_
   exact sIdxV S (wN d) d d d cW d (lb d) fun a S=>leafL ⟨d,S⟩
  ·refine fJ [(119,_)] 12 [some 11] fun G a w S=>?_
   exact sLoadR (r:=(rI .i64)) (T:=3) (xs:=aa) (x:=bn) (v:=.slice a4 aa.length a5) (vq:=df) (j:=w64 (a9 + 1)) 1 (iv bn) S cX (wN d) d d d c7 (fun _ _ _ h=>h) (scal_I _) d d (lb d) fun a S=>leafL ⟨d,S⟩
  ·exact fM 13 none d d d d (.inl d) d d d
  ·exact fM 14 none d d d d (.inl d) d d d
  ·exact fM 15 none d d d d (.inl d) d d d
  ·refine fJ [(122,_),(123,_)] 16 [some 14,some 15] fun G a w S=>?_
   exact sIdxV S (wN d) d d d cZ d (lb d) fun a S=>leafL ⟨d,S⟩
  ·refine fJ [(124,_)] 17 [some 16] fun G a w S=>?_
   exact sLoadVN (vq:=cY) 0 [.int .u8 ao.Kind,.bool ao.Purl,iv ao.A,iv ao.B] S (wN d) d d d d d d (lb d) fun a S=>leafL ⟨d,S⟩
  ·refine fJ [(121,_),(125,_)] 18 [some 13,some 17] fun G a w S=>?_
   have S1:=S.mem
   refine sCallVQ (X:=Unit) (g:=84) (vs:=[.agg #[.int .u8 ao.Kind,.bool ao.Purl,iv ao.A,iv ao.B]]) (caps:=[]) (val:=fun _=>iv bo) S (wN d) d d callee84 d (S1.quiet [1] d) (fun E1 w1 S1=>c_compare_cellTable_1 E1 w1 ao (.agg #[.int .u8 ao.Kind,.bool ao.Purl,iv ao.A,iv ao.B]) bo cQ S1) d (lb d) fun _ a w S=>?_
   exact leafL ⟨d,S⟩
  ·refine fJ [(120,_),(126,_)] 19 [some 12,some 18] fun G a w S=>?_
   exact sBin _ S (wN d) d d d (bAdd _ _ _ _ bn bo) d (lb d) fun a S=>leafL ⟨d,S⟩
  ·refine fJ [(111,_),(112,_)] 20 [some 3,some 4] fun G a w S=>?_
   exact sIdxV S (wN d) d d d d1 d (lb d) fun a S=>leafL ⟨d,S⟩
  refine ⟨_,[(127,iv (w64 (bn + bo))),(128,d0)],d,(srcs_of [some 19,some 20] d d d),fun G a w S=>?_⟩
  refine sStoreR (r:=(rI .i64)) (T:=3) (xs:=aa) (ys:=db) (y:=(w64 (bn + bo))) (v:=.slice a4 aa.length a5) (vq:=d0) (u:=iv (w64 (bn + bo))) (j:=a9) 1 S d3 (wN d) d d d d d c8 d d fun a w S=>leafL ⟨d,_,_,.inr ⟨[],d,S,hz_of d,?_⟩⟩
  refine node_by (A:=anc_compare_table_api_Stitch__s0_0) 22 (by kernel_rfl) (by kernel_rfl) (by kernel_rfl) (by kernel_rfl) (by kernel_rfl) [0,1,2,3,4,5,6,7,8,9,10,11,12,13,14,15,16,17,18,19,20] (by kernel_rfl) (by decide) (by decide) (fD 21 (fD 21 (fD 21 (fD 21 (fD 21 (fD 21 (fD 21 (fD 21 (fD 21 (fD 21 (fD 21 (fD 21 (fD 21 (fD 21 (fD 21 (fD 21 (fD 21 (fD 21 (fD 21 (fD 21 (fD 21 (fY (trivial))))))))))))))))))))))) [(0,.slice ar p0.length au),(1,.slice ap p1.length aq),(2,.func (.func 84) #[] #[]),(3,.func (.func 85) #[] #[]),(9,.slice ab a6.length ac),(10,iv a7),(11,iv a9)] (fin_of [none,none,none,none,none,none,none] d (by kernel_rfl) (by kernel_rfl)) (fun _ a w S=>?_)
  rw [setO_v c8 a4 a5] at S
  exact leafB (leafB (leafT (⟨db,Option.some.inj h,S.fix [1,0] [3,4] (by decide) d d d⟩)))
 refine sCondF S d bV (sSeq (fun dM d4=>sRegion (sM S fun a S=>?_)))
 refine sM S fun a S=>?_
 refine sLen S (wN d) d Try.underlying47 d d (lb d) fun a S=>sBin _ S (wN d) d d d (bEq _ _ _ _ .i64 a9 (p1.length:Int)) d (lb d) fun a S=>sN S fun a S=>?_
 refine lT (d4 _ _ ?_)
 rcases iS h with ⟨bb,h⟩ | ⟨bb,h⟩
 ·refine sCondT S d bb ?_
  obtain ⟨bc,bf,h⟩:=bS h
  obtain ⟨av,c9,h⟩:=bS h
  obtain ⟨a8,ca,h⟩:=bS h
  obtain ⟨aw,bp,h⟩:=bS h
  obtain ⟨dz,cb,h⟩:=bS h
  obtain ⟨cc,bq,h⟩:=bS h
  obtain ⟨bW,br,bt⟩:=pIdxH (P:=Try.prog) (r:=(rL (rI .i64))) (T:=101) (v:=.slice ab a6.length ac) (xs:=a6) (j:=a7) 98 101 0 S Try.underlying98 d d am
  obtain ⟨bX,cd,ce⟩:=pIdxH (P:=Try.prog) (r:=(rL (rI .i64))) (T:=101) (v:=.slice ab a6.length ac) (xs:=a6) (j:=w64 (a7 + 1)) 98 101 0 S Try.underlying98 d d bf
  obtain ⟨bj,bu,S⟩:=pIdx (P:=Try.prog) (r:=r_api_Stitch) (v:=.slice ar p0.length au) (xs:=p0) (j:=a7) 47 81 0 S Try.underlying47 d d ca
  obtain ⟨cf,S⟩:=pLoad (r:=r_api_Stitch) (q:=bj) (x:=a8) 0 S d
  obtain rfl:cf=.agg #[.int .u8 a8.Kind,.bool a8.Purl,iv a8.A,iv a8.B]:=S.mem.know (i:=1) (e:=fRep r_api_Stitch (cf) a8) d
  refine sDraw (nf:=[9,21]) (W:=[(0,134,.slice ab a6.length ac),(1,135,iv a7),(2,136,bW),(3,137,.slice a4 aa.length a5),(4,138,iv a9),(5,139,.slice ab a6.length ac),(6,140,iv a7),(7,141,iv (w64 (a7 + 1))),(8,142,bX),(10,144,iv a9),(13,147,.func (.func 84) #[] #[]),(14,148,.slice ar p0.length au),(15,149,iv a7),(16,150,bj),(17,151,.agg #[.int .u8 a8.Kind,.bool a8.Purl,iv a8.A,iv a8.B]),(18,152,iv aw)]) d S ?_
  refine node_by (A:=anc_compare_table_api_Stitch__s0_1) 22 (by kernel_rfl) (by kernel_rfl) (by kernel_rfl) (by kernel_rfl) (by kernel_rfl) [0,1,2,3,4,5,6,7,8,10,13,14,15,16,17,18] (by kernel_rfl) (by decide) (by decide) (fF ?_ (fF ?_ (fF ?_ (fF ?_ (fF ?_ (fF ?_ (fF ?_ (fF ?_ (fF ?_ (fN ?_ (fF ?_ (fE 9 (fE 9 (fF ?_ (fF ?_ (fF ?_ (fF ?_ (fF ?_ (fF ?_ (fE 9 (fE 9 (aB 21 0 9 (by decide) (trivial))))))))))))))))))))))) [] (fun q hq=>by cases hq) (fun hY=>absurd (hY 9 (by decide)) (by decide))
  ·exact fM 0 none d d d d (.inl d) d d d
  ·exact fM 1 none d d d d (.inl d) d d d
  ·refine fJ [(134,_),(135,_)] 2 [some 0,some 1] fun G a w S=>?_
   exact sIdxV S (wN d) d d d br d (lb d) fun a S=>leafL ⟨d,S⟩
  ·refine fJ [(136,_)] 3 [some 2] fun G a w S=>?_
   exact sLoadHE (r:=(rL (rI .i64))) (T:=101) (xs:=a6) (u:=.slice a4 aa.length a5) (v:=.slice ab a6.length ac) (vq:=bW) (j:=a7) 0 S bt (wN d) d d d d d (lb d) fun a S=>leafL ⟨d,S⟩
  ·exact fM 4 none d d d d (.inl d) d d d
  ·exact fM 5 none d d d d (.inl d) d d d
  ·exact fM 6 none d d d d (.inl d) d d d
  ·refine fJ [(140,_)] 7 [some 6] fun G a w S=>?_
   exact sBin _ S (wN d) d d d (bAdd _ _ _ _ a7 1) d (lb d) fun a S=>leafL ⟨d,S⟩
  ·refine fJ [(139,_),(141,_)] 8 [some 5,some 7] fun G a w S=>?_
   exact sIdxV S (wN d) d d d cd d (lb d) fun a S=>leafL ⟨d,S⟩
  ·refine ⟨_,[(142,bX)],d,(srcs_of [some 8] d d d),fun G a w S=>?_⟩
   refine sLoadHo (r:=(rL (rI .i64))) (T:=101) (xs:=a6) (x:=bc) (p:=(a7).toNat * (rL (rI .i64)).sz + 0) (u:=.slice a4 aa.length a5) (v:=.slice ab a6.length ac) (vq:=bX) (j:=w64 (a7 + 1)) 0 S ce (wN d) d d d bf (idx_next (by decide) (hole_lim 0 S.mem d) am bf) (scal_L _) d d (lb d) fun a d5 S=>?_
   obtain ⟨bv,bw,_,rfl,_⟩:=S.mem.know (i:=0) (e:=fRep (rL (rI .i64)) (d5) bc) d
   obtain ⟨bY,cg,S⟩:=pIdx (P:=Try.prog) (r:=(rI .i64)) (v:=.slice bv bc.length bw) (xs:=bc) (j:=a9) 101 3 0 S Try.underlying101 d d c9
   obtain ⟨ci,S⟩:=pLoad (r:=(rI .i64)) (q:=bY) (x:=av) 0 S d
   obtain rfl:ci=iv av:=S.mem.know (i:=1) (e:=fRep (rI .i64) (ci) av) d
   obtain ⟨bZ,cj,ck⟩:=pIdxR (P:=Try.prog) (r:=(rI .i64)) (T:=3) (v:=.slice a4 aa.length a5) (xs:=aa) (j:=a9) 101 3 1 S Try.underlying101 d d cb
   refine leafL ⟨d,_,_,.inl ⟨143,(.slice bv bc.length bw),[(11,145,bY),(12,146,iv av),(19,153,iv (w64 (av + aw))),(20,154,bZ)],d,S,hz_of d,?_⟩⟩
   refine node_by (A:=anc_compare_table_api_Stitch__s0_1) 22 (by kernel_rfl) (by kernel_rfl) (by kernel_rfl) (by kernel_rfl) (by kernel_rfl) [11,12,19,20,9,0,1,2,3,4,5,6,7,8,10,13,14,15,16,17,18] (by kernel_rfl) (by decide) (by decide) (fF ?_ (fF ?_ (fF ?_ (fF ?_ (fF ?_ (fD 9 (fD 9 (fD 9 (fD 9 (fY (fF ?_ (fF ?_ (fF ?_ (fF ?_ (fF ?_ (fF ?_ (fF ?_ (fF ?_ (fF ?_ (fF ?_ (fF ?_ (fN ?_ (trivial))))))))))))))))))))))) [] (fun q hq=>by cases hq) (fun hY=>absurd (hY 21 (by decide)) (by decide))
   ·exact fM 5 none d d d d (.inl d) d d d
   ·exact fM 6 none d d d d (.inl d) d d d
   ·refine fJ [(134,_),(135,_)] 7 [some 5,some 6] fun G a w S=>?_
    exact sIdxV S (wN d) d d d br d (lb d) fun a S=>leafL ⟨d,S⟩
   ·refine fJ [(136,_)] 8 [some 7] fun G a w S=>?_
    exact sLoadHE (r:=(rL (rI .i64))) (T:=101) (xs:=a6) (u:=.slice a4 aa.length a5) (v:=.slice ab a6.length ac) (vq:=bW) (j:=a7) 0 S bt (wN d) d d d d d (lb d) fun a S=>leafL ⟨d,S⟩
   ·exact fM 9 none d d d d (.inl d) d d d
   ·exact fM 14 none d d d d (.inl d) d d d
   ·refine fJ [(143,_),(144,_)] 0 [some 4,some 14] fun G a w S=>?_
    exact sIdxV S (wN d) d d d cg d (lb d) fun a S=>leafL ⟨d,S⟩
   ·refine fJ [(145,_)] 1 [some 0] fun G a w S=>?_
    exact sLoadV1 (vq:=bY) 0 (iv av) S (wN d) d d d d d (lb d) fun a S=>leafL ⟨d,S⟩
   ·exact fM 15 none d d d d (.inl d) d d d
   ·exact fM 16 none d d d d (.inl d) d d d
   ·exact fM 17 none d d d d (.inl d) d d d
   ·refine fJ [(148,_),(149,_)] 18 [some 16,some 17] fun G a w S=>?_
    exact sIdxV S (wN d) d d d bu d (lb d) fun a S=>leafL ⟨d,S⟩
   ·refine fJ [(150,_)] 19 [some 18] fun G a w S=>?_
    exact sLoadVN (vq:=bj) 4 [.int .u8 a8.Kind,.bool a8.Purl,iv a8.A,iv a8.B] S (wN d) d d d d d d (lb d) fun a S=>leafL ⟨d,S⟩
   ·refine fJ [(147,_),(151,_)] 20 [some 15,some 19] fun G a w S=>?_
    have S1:=S.mem
    refine sCallVQ (X:=Unit) (g:=84) (vs:=[.agg #[.int .u8 a8.Kind,.bool a8.Purl,iv a8.A,iv a8.B]]) (caps:=[]) (val:=fun _=>iv aw) S (wN d) d d callee84 d (S1.quiet [5] d) (fun E1 w1 S1=>c_compare_cellTable_1 E1 w1 a8 (.agg #[.int .u8 a8.Kind,.bool a8.Purl,iv a8.A,iv a8.B]) aw bp S1) d (lb d) fun _ a w S=>?_
    exact leafL ⟨d,S⟩
   ·refine fJ [(146,_),(152,_)] 2 [some 1,some 20] fun G a w S=>?_
    exact sBin _ S (wN d) d d d (bAdd _ _ _ _ av aw) d (lb d) fun a S=>leafL ⟨d,S⟩
   ·refine fJ [(137,_),(138,_)] 3 [some 8,some 9] fun G a w S=>?_
    exact sIdxV S (wN d) d d d cj d (lb d) fun a S=>leafL ⟨d,S⟩
   refine ⟨_,[(153,iv (w64 (av + aw))),(154,bZ)],d,(srcs_of [some 2,some 3] d d d),fun G a w S=>?_⟩
   refine sStoreR (r:=(rI .i64)) (T:=3) (xs:=aa) (ys:=cc) (y:=(w64 (av + aw))) (v:=.slice a4 aa.length a5) (vq:=bZ) (u:=iv (w64 (av + aw))) (j:=a9) 1 S ck (wN d) d d d d d bq d d fun a w S=>leafL ⟨d,_,_,.inr ⟨[],d,S,hz_of d,?_⟩⟩
   refine node_by (A:=anc_compare_table_api_Stitch__s0_1) 22 (by kernel_rfl) (by kernel_rfl) (by kernel_rfl) (by kernel_rfl) (by kernel_rfl) [11,12,19,20,9,0,1,2,3,4,5,6,7,8,10,13,14,15,16,17,18] (by kernel_rfl) (by decide) (by decide) (fD 21 (fD 21 (fD 21 (fD 21 (fD 21 (fD 21 (fD 21 (fD 21 (fD 21 (fY (fD 21 (fD 21 (fD 21 (fD 21 (fD 21 (fD 21 (fD 21 (fD 21 (fD 21 (fD 21 (fD 21 (fY (trivial))))))))))))))))))))))) [(0,.slice ar p0.length au),(1,.slice ap p1.length aq),(2,.func (.func 84) #[] #[]),(3,.func (.func 85) #[] #[]),(9,.slice ab a6.length ac),(10,iv a7),(11,iv a9)] (fin_of [none,none,none,none,none,none,none] d (by kernel_rfl) (by kernel_rfl)) (fun _ a w S=>?_)
   rw [setO_v bq a4 a5] at S
   exact leafB (leafB (leafT (⟨cc,Option.some.inj h,S.fix [1,0] [7,8] (by decide) d d d⟩)))
  ·exact fM 9 none d d d d (.inl d) d d d
  ·exact fM 10 none d d d d (.inl d) d d d
  ·exact fM 11 none d d d d (.inl d) d d d
  ·exact fM 12 none d d d d (.inl d) d d d
  ·refine fJ [(148,_),(149,_)] 13 [some 11,some 12] fun G a w S=>?_
   exact sIdxV S (wN d) d d d bu d (lb d) fun a S=>leafL ⟨d,S⟩
  ·refine fJ [(150,_)] 14 [some 13] fun G a w S=>?_
   exact sLoadVN (vq:=bj) 0 [.int .u8 a8.Kind,.bool a8.Purl,iv a8.A,iv a8.B] S (wN d) d d d d d d (lb d) fun a S=>leafL ⟨d,S⟩
  refine fJ [(147,_),(151,_)] 15 [some 10,some 14] fun G a w S=>?_
  have S1:=S.mem
  refine sCallVQ (X:=Unit) (g:=84) (vs:=[.agg #[.int .u8 a8.Kind,.bool a8.Purl,iv a8.A,iv a8.B]]) (caps:=[]) (val:=fun _=>iv aw) S (wN d) d d callee84 d (S1.quiet [1] d) (fun E1 w1 S1=>c_compare_cellTable_1 E1 w1 a8 (.agg #[.int .u8 a8.Kind,.bool a8.Purl,iv a8.A,iv a8.B]) aw bp S1) d (lb d) fun _ a w S=>?_
  exact leafL ⟨d,S⟩
 refine sCondF S d bb ?_
 obtain ⟨ak,al,h⟩:=bS h
 obtain ⟨ag,bx,h⟩:=bS h
 obtain ⟨a0,bz,h⟩:=bS h
 obtain ⟨ah,az,h⟩:=bS h
 obtain ⟨ae,ax,h⟩:=bS h
 obtain ⟨a2,bA,h⟩:=bS h
 obtain ⟨af,aA,h⟩:=bS h
 obtain ⟨ai,bB,h⟩:=bS h
 obtain ⟨aj,aC,h⟩:=bS h
 obtain ⟨dA,bC,h⟩:=bS h
 obtain ⟨bk,aV,h⟩:=bS h
 obtain ⟨b0,aG,aH⟩:=pIdxH (P:=Try.prog) (r:=(rL (rI .i64))) (T:=101) (v:=.slice ab a6.length ac) (xs:=a6) (j:=a7) 98 101 0 S Try.underlying98 d d am
 obtain ⟨bg,bD,bE⟩:=pIdxH (P:=Try.prog) (r:=(rL (rI .i64))) (T:=101) (v:=.slice ab a6.length ac) (xs:=a6) (j:=w64 (a7 + 1)) 98 101 0 S Try.underlying98 d d al
 obtain ⟨aR,aI,S⟩:=pIdx (P:=Try.prog) (r:=r_api_Stitch) (v:=.slice ar p0.length au) (xs:=p0) (j:=a7) 47 81 0 S Try.underlying47 d d bz
 obtain ⟨cl,S⟩:=pLoad (r:=r_api_Stitch) (q:=aR) (x:=a0) 0 S d
 obtain rfl:cl=.agg #[.int .u8 a0.Kind,.bool a0.Purl,iv a0.A,iv a0.B]:=S.mem.know (i:=1) (e:=fRep r_api_Stitch (cl) a0) d
 obtain ⟨b1,aJ,aK⟩:=pIdxH (P:=Try.prog) (r:=(rL (rI .i64))) (T:=101) (v:=.slice ab a6.length ac) (xs:=a6) (j:=a7) 98 101 0 S Try.underlying98 d d am
 obtain ⟨ba,aL,aM⟩:=pIdxR (P:=Try.prog) (r:=(rI .i64)) (T:=3) (v:=.slice a4 aa.length a5) (xs:=aa) (j:=w64 (a9 + 1)) 101 3 1 S Try.underlying101 d d ax
 obtain ⟨aS,aO,S⟩:=pIdx (P:=Try.prog) (r:=r_api_Stitch) (v:=.slice ap p1.length aq) (xs:=p1) (j:=a9) 47 81 4 S Try.underlying47 d d bA
 obtain ⟨cm,S⟩:=pLoad (r:=r_api_Stitch) (q:=aS) (x:=a2) 0 S d
 obtain rfl:cm=.agg #[.int .u8 a2.Kind,.bool a2.Purl,iv a2.A,iv a2.B]:=S.mem.know (i:=1) (e:=fRep r_api_Stitch (cm) a2) d
 obtain ⟨bh,bF,bG⟩:=pIdxH (P:=Try.prog) (r:=(rL (rI .i64))) (T:=101) (v:=.slice ab a6.length ac) (xs:=a6) (j:=w64 (a7 + 1)) 98 101 0 S Try.underlying98 d d al
 obtain ⟨aT,aP,S⟩:=pIdx (P:=Try.prog) (r:=r_api_Stitch) (v:=.slice ar p0.length au) (xs:=p0) (j:=a7) 47 81 6 S Try.underlying47 d d bz
 obtain ⟨cn,S⟩:=pLoad (r:=r_api_Stitch) (q:=aT) (x:=a0) 0 S d
 obtain rfl:cn=.agg #[.int .u8 a0.Kind,.bool a0.Purl,iv a0.A,iv a0.B]:=S.mem.know (i:=1) (e:=fRep r_api_Stitch (cn) a0) d
 obtain ⟨aU,aQ,S⟩:=pIdx (P:=Try.prog) (r:=r_api_Stitch) (v:=.slice ap p1.length aq) (xs:=p1) (j:=a9) 47 81 10 S Try.underlying47 d d bA
 obtain ⟨co,S⟩:=pLoad (r:=r_api_Stitch) (q:=aU) (x:=a2) 0 S d
 obtain rfl:co=.agg #[.int .u8 a2.Kind,.bool a2.Purl,iv a2.A,iv a2.B]:=S.mem.know (i:=1) (e:=fRep r_api_Stitch (co) a2) d
 refine sDraw (nf:=[9,39,57]) (W:=[(0,35,.slice ab a6.length ac),(1,36,iv a7),(2,37,b0),(3,38,.slice a4 aa.length a5),(4,39,iv a9),(5,40,.slice ab a6.length ac),(6,41,iv a7),(7,42,iv (w64 (a7 + 1))),(8,43,bg),(10,45,iv a9),(13,48,.func (.func 84) #[] #[]),(14,49,.slice ar p0.length au),(15,50,iv a7),(16,51,aR),(17,52,.agg #[.int .u8 a0.Kind,.bool a0.Purl,iv a0.A,iv a0.B]),(18,53,iv ah),(20,55,.slice ab a6.length ac),(21,56,iv a7),(22,57,b1),(23,58,.slice a4 aa.length a5),(24,59,iv a9),(25,60,iv (w64 (a9 + 1))),(26,61,ba),(27,62,iv ae),(28,63,.func (.func 84) #[] #[]),(29,64,.slice ap p1.length aq),(30,65,iv a9),(31,66,aS),(32,67,.agg #[.int .u8 a2.Kind,.bool a2.Purl,iv a2.A,iv a2.B]),(33,68,iv af),(34,69,iv (w64 (ae + af))),(35,70,.slice ab a6.length ac),(36,71,iv a7),(37,72,iv (w64 (a7 + 1))),(38,73,bh),(40,75,iv a9),(41,76,iv (w64 (a9 + 1))),(44,79,.func (.func 85) #[] #[]),(45,80,.slice ar p0.length au),(46,81,iv a7),(47,82,aT),(48,83,.agg #[.int .u8 a0.Kind,.bool a0.Purl,iv a0.A,iv a0.B]),(49,84,.slice ap p1.length aq),(50,85,iv a9),(51,86,aU),(52,87,.agg #[.int .u8 a2.Kind,.bool a2.Purl,iv a2.A,iv a2.B]),(53,88,iv aj)]) d S ?_
 refine node_by (A:=anc_compare_table_api_Stitch__s0_2) 58 (by kernel_rfl) (by kernel_rfl) (by kernel_rfl) (by kernel_rfl) (by kernel_rfl) [0,1,2,3,4,5,6,7,8,10,13,14,15,16,17,18,20,21,22,23,24,25,26,27,28,29,30,31,32,33,34,35,36,37,38,40,41,44,45,46,47,48,49,50,51,52,53] (by kernel_rfl) (by decide) (by decide) (fF ?_ (fF ?_ (fF ?_ (fF ?_ (fF ?_ (fF ?_ (fF ?_ (fF ?_ (fF ?_ (fN ?_ (fF ?_ (fE 9 (fE 9 (fF ?_ (fF ?_ (fF ?_ (fF ?_ (fF ?_ (fF ?_ (fE 9 (fF ?_ (fF ?_ (fF ?_ (fF ?_ (fF ?_ (fF ?_ (fF ?_ (fF ?_ (fF ?_ (fF ?_ (fF ?_ (fF ?_ (fF ?_ (fF ?_ (fF ?_ (fF ?_ (fF ?_ (fF ?_ (fF ?_ (fN ?_ (fF ?_ (fF ?_ (fE 39 (fE 39 (fF ?_ (fF ?_ (fF ?_ (fF ?_ (fF ?_ (fF ?_ (fF ?_ (fF ?_ (fF ?_ (fF ?_ (fE 39 (fE 9 (fE 9 (aB 57 0 9 (by decide) (trivial))))))))))))))))))))))))))))))))))))))))))))))))))))))))))) [] (fun q hq=>by cases hq) (fun hY=>absurd (hY 9 (by decide)) (by decide))
 ·exact fM 0 none d d d d (.inl d) d d d
 ·exact fM 1 none d d d d (.inl d) d d d
 ·refine fJ [(35,_),(36,_)] 2 [some 0,some 1] fun G a w S=>?_
  exact sIdxV S (wN d) d d d aG d (lb d) fun a S=>leafL ⟨d,S⟩
 ·refine fJ [(37,_)] 3 [some 2] fun G a w S=>?_
  exact sLoadHE (r:=(rL (rI .i64))) (T:=101) (xs:=a6) (u:=.slice a4 aa.length a5) (v:=.slice ab a6.length ac) (vq:=b0) (j:=a7) 0 S aH (wN d) d d d d d (lb d) fun a S=>leafL ⟨d,S⟩
 ·exact fM 4 none d d d d (.inl d) d d d
 ·exact fM 5 none d d d d (.inl d) d d d
 ·exact fM 6 none d d d d (.inl d) d d d
 ·refine fJ [(41,_)] 7 [some 6] fun G a w S=>?_
  exact sBin _ S (wN d) d d d (bAdd _ _ _ _ a7 1) d (lb d) fun a S=>leafL ⟨d,S⟩
 ·refine fJ [(40,_),(42,_)] 8 [some 5,some 7] fun G a w S=>?_
  exact sIdxV S (wN d) d d d bD d (lb d) fun a S=>leafL ⟨d,S⟩
 ·refine ⟨_,[(43,bg)],d,(srcs_of [some 8] d d d),fun G a w S=>?_⟩
  refine sLoadHo (r:=(rL (rI .i64))) (T:=101) (xs:=a6) (x:=ak) (p:=(a7).toNat * (rL (rI .i64)).sz + 0) (u:=.slice a4 aa.length a5) (v:=.slice ab a6.length ac) (vq:=bg) (j:=w64 (a7 + 1)) 0 S bE (wN d) d d d al (idx_next (by decide) (hole_lim 0 S.mem d) am al) (scal_L _) d d (lb d) fun a d6 S=>?_
  obtain ⟨bH,bI,_,rfl,_⟩:=S.mem.know (i:=0) (e:=fRep (rL (rI .i64)) (d6) ak) d
  obtain ⟨bl,bJ,S⟩:=pIdx (P:=Try.prog) (r:=(rI .i64)) (v:=.slice bH ak.length bI) (xs:=ak) (j:=a9) 101 3 0 S Try.underlying101 d d bx
  obtain ⟨cp,S⟩:=pLoad (r:=(rI .i64)) (q:=bl) (x:=ag) 0 S d
  obtain rfl:cp=iv ag:=S.mem.know (i:=1) (e:=fRep (rI .i64) (cp) ag) d
  refine leafL ⟨d,_,_,.inl ⟨44,(.slice bH ak.length bI),[(11,46,bl),(12,47,iv ag),(19,54,iv (w64 (ag + ah)))],d,S,hz_of d,?_⟩⟩
  refine node_by (A:=anc_compare_table_api_Stitch__s0_2) 58 (by kernel_rfl) (by kernel_rfl) (by kernel_rfl) (by kernel_rfl) (by kernel_rfl) [11,12,19,9,0,1,2,3,4,5,6,7,8,10,13,14,15,16,17,18,20,21,22,23,24,25,26,27,28,29,30,31,32,33,34,35,36,37,38,40,41,44,45,46,47,48,49,50,51,52,53] (by kernel_rfl) (by decide) (by decide) (fF ?_ (fF ?_ (fF ?_ (fF ?_ (fF ?_ (fD 9 (fD 9 (fD 9 (fD 9 (fY (fF ?_ (fF ?_ (fF ?_ (fF ?_ (fF ?_ (fF ?_ (fF ?_ (fF ?_ (fF ?_ (fF ?_ (fF ?_ (fF ?_ (fF ?_ (fF ?_ (fF ?_ (fF ?_ (fF ?_ (fF ?_ (fF ?_ (fF ?_ (fF ?_ (fF ?_ (fF ?_ (fF ?_ (fF ?_ (fF ?_ (fF ?_ (fF ?_ (fF ?_ (fN ?_ (fF ?_ (fF ?_ (fE 39 (fE 39 (fF ?_ (fF ?_ (fF ?_ (fF ?_ (fF ?_ (fF ?_ (fF ?_ (fF ?_ (fF ?_ (fF ?_ (fE 39 (fE 39 (fE 39 (aB 57 0 39 (by decide) (trivial))))))))))))))))))))))))))))))))))))))))))))))))))))))))))) [] (fun q hq=>by cases hq) (fun hY=>absurd (hY 39 (by decide)) (by decide))
  ·exact fM 4 none d d d d (.inl d) d d d
  ·exact fM 5 none d d d d (.inl d) d d d
  ·refine fJ [(35,_),(36,_)] 6 [some 4,some 5] fun G a w S=>?_
   exact sIdxV S (wN d) d d d aG d (lb d) fun a S=>leafL ⟨d,S⟩
  ·refine fJ [(37,_)] 7 [some 6] fun G a w S=>?_
   exact sLoadHE (r:=(rL (rI .i64))) (T:=101) (xs:=a6) (u:=.slice a4 aa.length a5) (v:=.slice ab a6.length ac) (vq:=b0) (j:=a7) 0 S aH (wN d) d d d d d (lb d) fun a S=>leafL ⟨d,S⟩
  ·exact fM 8 none d d d d (.inl d) d d d
  ·exact fM 13 none d d d d (.inl d) d d d
  ·refine fJ [(44,_),(45,_)] 0 [some 3,some 13] fun G a w S=>?_
   exact sIdxV S (wN d) d d d bJ d (lb d) fun a S=>leafL ⟨d,S⟩
  ·refine fJ [(46,_)] 1 [some 0] fun G a w S=>?_
   exact sLoadV1 (vq:=bl) 0 (iv ag) S (wN d) d d d d d (lb d) fun a S=>leafL ⟨d,S⟩
  ·exact fM 14 none d d d d (.inl d) d d d
  ·exact fM 15 none d d d d (.inl d) d d d
  ·exact fM 16 none d d d d (.inl d) d d d
  ·refine fJ [(49,_),(50,_)] 17 [some 15,some 16] fun G a w S=>?_
   exact sIdxV S (wN d) d d d aI d (lb d) fun a S=>leafL ⟨d,S⟩
  ·refine fJ [(51,_)] 18 [some 17] fun G a w S=>?_
   exact sLoadVN (vq:=aR) 13 [.int .u8 a0.Kind,.bool a0.Purl,iv a0.A,iv a0.B] S (wN d) d d d d d d (lb d) fun a S=>leafL ⟨d,S⟩
  ·refine fJ [(48,_),(52,_)] 19 [some 14,some 18] fun G a w S=>?_
   have S1:=S.mem
   refine sCallVQ (X:=Unit) (g:=84) (vs:=[.agg #[.int .u8 a0.Kind,.bool a0.Purl,iv a0.A,iv a0.B]]) (caps:=[]) (val:=fun _=>iv ah) S (wN d) d d callee84 d (S1.quiet [8] d) (fun E1 w1 S1=>c_compare_cellTable_1 E1 w1 a0 (.agg #[.int .u8 a0.Kind,.bool a0.Purl,iv a0.A,iv a0.B]) ah az S1) d (lb d) fun _ a w S=>?_
   exact leafL ⟨d,S⟩
  ·refine fJ [(47,_),(53,_)] 2 [some 1,some 19] fun G a w S=>?_
   exact sBin _ S (wN d) d d d (bAdd _ _ _ _ ag ah) d (lb d) fun a S=>leafL ⟨d,S⟩
  ·exact fM 20 none d d d d (.inl d) d d d
  ·exact fM 21 none d d d d (.inl d) d d d
  ·refine fJ [(55,_),(56,_)] 22 [some 20,some 21] fun G a w S=>?_
   exact sIdxV S (wN d) d d d aJ d (lb d) fun a S=>leafL ⟨d,S⟩
  ·refine fJ [(57,_)] 23 [some 22] fun G a w S=>?_
   exact sLoadHE (r:=(rL (rI .i64))) (T:=101) (xs:=a6) (u:=.slice a4 aa.length a5) (v:=.slice ab a6.length ac) (vq:=b1) (j:=a7) 0 S aK (wN d) d d d d d (lb d) fun a S=>leafL ⟨d,S⟩
  ·exact fM 24 none d d d d (.inl d) d d d
  ·refine fJ [(59,_)] 25 [some 24] fun G a w S=>?_
   exact sBin _ S (wN d) d d d (bAdd _ _ _ _ a9 1) d (lb d) fun a S=>leafL ⟨d,S⟩
  ·refine fJ [(58,_),(60,_)] 26 [some 23,some 25] fun G a w S=>?_
   exact sIdxV S (wN d) d d d aL d (lb d) fun a S=>leafL ⟨d,S⟩
  ·refine fJ [(61,_)] 27 [some 26] fun G a w S=>?_
   exact sLoadR (r:=(rI .i64)) (T:=3) (xs:=aa) (x:=ae) (v:=.slice a4 aa.length a5) (vq:=ba) (j:=w64 (a9 + 1)) 1 (iv ae) S aM (wN d) d d d ax (fun _ _ _ h=>h) (scal_I _) d d (lb d) fun a S=>leafL ⟨d,S⟩
  ·exact fM 28 none d d d d (.inl d) d d d
  ·exact fM 29 none d d d d (.inl d) d d d
  ·exact fM 30 none d d d d (.inl d) d d d
  ·refine fJ [(64,_),(65,_)] 31 [some 29,some 30] fun G a w S=>?_
   exact sIdxV S (wN d) d d d aO d (lb d) fun a S=>leafL ⟨d,S⟩
  ·refine fJ [(66,_)] 32 [some 31] fun G a w S=>?_
   exact sLoadVN (vq:=aS) 10 [.int .u8 a2.Kind,.bool a2.Purl,iv a2.A,iv a2.B] S (wN d) d d d d d d (lb d) fun a S=>leafL ⟨d,S⟩
  ·refine fJ [(63,_),(67,_)] 33 [some 28,some 32] fun G a w S=>?_
   have S1:=S.mem
   refine sCallVQ (X:=Unit) (g:=84) (vs:=[.agg #[.int .u8 a2.Kind,.bool a2.Purl,iv a2.A,iv a2.B]]) (caps:=[]) (val:=fun _=>iv af) S (wN d) d d callee84 d (S1.quiet [5] d) (fun E1 w1 S1=>c_compare_cellTable_1 E1 w1 a2 (.agg #[.int .u8 a2.Kind,.bool a2.Purl,iv a2.A,iv a2.B]) af aA S1) d (lb d) fun _ a w S=>?_
   exact leafL ⟨d,S⟩
  ·refine fJ [(62,_),(68,_)] 34 [some 27,some 33] fun G a w S=>?_
   exact sBin _ S (wN d) d d d (bAdd _ _ _ _ ae af) d (lb d) fun a S=>leafL ⟨d,S⟩
  ·exact fM 35 none d d d d (.inl d) d d d
  ·exact fM 36 none d d d d (.inl d) d d d
  ·refine fJ [(71,_)] 37 [some 36] fun G a w S=>?_
   exact sBin _ S (wN d) d d d (bAdd _ _ _ _ a7 1) d (lb d) fun a S=>leafL ⟨d,S⟩
  ·refine fJ [(70,_),(72,_)] 38 [some 35,some 37] fun G a w S=>?_
   exact sIdxV S (wN d) d d d bF d (lb d) fun a S=>leafL ⟨d,S⟩
  ·refine ⟨_,[(73,bh)],d,(srcs_of [some 38] d d d),fun G a w S=>?_⟩
   refine sLoadHo (r:=(rL (rI .i64))) (T:=101) (xs:=a6) (x:=ak) (p:=(a7).toNat * (rL (rI .i64)).sz + 0) (u:=.slice a4 aa.length a5) (v:=.slice ab a6.length ac) (vq:=bh) (j:=w64 (a7 + 1)) 0 S bG (wN d) d d d al (idx_next (by decide) (hole_lim 0 S.mem d) am al) (scal_L _) d d (lb d) fun a d7 S=>?_
   obtain ⟨bK,bL,_,rfl,_⟩:=S.mem.know (i:=0) (e:=fRep (rL (rI .i64)) (d7) ak) d
   obtain ⟨c1,cq,S⟩:=pIdx (P:=Try.prog) (r:=(rI .i64)) (v:=.slice bK ak.length bL) (xs:=ak) (j:=w64 (a9 + 1)) 101 3 0 S Try.underlying101 d d bB
   obtain ⟨cr,S⟩:=pLoad (r:=(rI .i64)) (q:=c1) (x:=ai) 0 S d
   obtain rfl:cr=iv ai:=S.mem.know (i:=1) (e:=fRep (rI .i64) (cr) ai) d
   obtain ⟨c2,ct,cu⟩:=pIdxR (P:=Try.prog) (r:=(rI .i64)) (T:=3) (v:=.slice a4 aa.length a5) (xs:=aa) (j:=a9) 101 3 1 S Try.underlying101 d d bC
   refine leafL ⟨d,_,_,.inl ⟨74,(.slice bK ak.length bL),[(42,77,c1),(43,78,iv ai),(54,89,iv (w64 (ai + aj))),(55,90,iv (min3 (w64 (ag + ah)) (w64 (ae + af)) (w64 (ai + aj)))),(56,91,c2)],d,S,hz_of d,?_⟩⟩
   refine node_by (A:=anc_compare_table_api_Stitch__s0_2) 58 (by kernel_rfl) (by kernel_rfl) (by kernel_rfl) (by kernel_rfl) (by kernel_rfl) [42,43,54,55,56,39,11,12,19,9,0,1,2,3,4,5,6,7,8,10,13,14,15,16,17,18,20,21,22,23,24,25,26,27,28,29,30,31,32,33,34,35,36,37,38,40,41,44,45,46,47,48,49,50,51,52,53] (by kernel_rfl) (by decide) (by decide) (fF ?_ (fF ?_ (fF ?_ (fF ?_ (fF ?_ (fD 9 (fD 9 (fD 9 (fD 9 (fY (fF ?_ (fF ?_ (fF ?_ (fF ?_ (fF ?_ (fF ?_ (fF ?_ (fF ?_ (fF ?_ (fF ?_ (fF ?_ (fF ?_ (fF ?_ (fF ?_ (fF ?_ (fF ?_ (fF ?_ (fF ?_ (fF ?_ (fF ?_ (fF ?_ (fF ?_ (fF ?_ (fF ?_ (fF ?_ (fD 39 (fD 39 (fD 39 (fD 39 (fY (fF ?_ (fF ?_ (fF ?_ (fF ?_ (fF ?_ (fF ?_ (fF ?_ (fF ?_ (fF ?_ (fF ?_ (fF ?_ (fF ?_ (fF ?_ (fF ?_ (fF ?_ (fF ?_ (fF ?_ (fN ?_ (trivial))))))))))))))))))))))))))))))))))))))))))))))))))))))))))) [] (fun q hq=>by cases hq) (fun hY=>absurd (hY 57 (by decide)) (by decide))
   ·exact fM 10 none d d d d (.inl d) d d d
   ·exact fM 11 none d d d d (.inl d) d d d
   ·refine fJ [(35,_),(36,_)] 12 [some 10,some 11] fun G a w S=>?_
    exact sIdxV S (wN d) d d d aG d (lb d) fun a S=>leafL ⟨d,S⟩
   ·refine fJ [(37,_)] 13 [some 12] fun G a w S=>?_
    exact sLoadHE (r:=(rL (rI .i64))) (T:=101) (xs:=a6) (u:=.slice a4 aa.length a5) (v:=.slice ab a6.length ac) (vq:=b0) (j:=a7) 0 S aH (wN d) d d d d d (lb d) fun a S=>leafL ⟨d,S⟩
   ·exact fM 14 none d d d d (.inl d) d d d
   ·exact fM 19 none d d d d (.inl d) d d d
   ·refine fJ [(44,_),(45,_)] 6 [some 9,some 19] fun G a w S=>?_
    exact sIdxV S (wN d) d d d bJ d (lb d) fun a S=>leafL ⟨d,S⟩
   ·refine fJ [(46,_)] 7 [some 6] fun G a w S=>?_
    exact sLoadV1 (vq:=bl) 4 (iv ag) S (wN d) d d d d d (lb d) fun a S=>leafL ⟨d,S⟩
   ·exact fM 20 none d d d d (.inl d) d d d
   ·exact fM 21 none d d d d (.inl d) d d d
   ·exact fM 22 none d d d d (.inl d) d d d
   ·refine fJ [(49,_),(50,_)] 23 [some 21,some 22] fun G a w S=>?_
    exact sIdxV S (wN d) d d d aI d (lb d) fun a S=>leafL ⟨d,S⟩
   ·refine fJ [(51,_)] 24 [some 23] fun G a w S=>?_
    exact sLoadVN (vq:=aR) 17 [.int .u8 a0.Kind,.bool a0.Purl,iv a0.A,iv a0.B] S (wN d) d d d d d d (lb d) fun a S=>leafL ⟨d,S⟩
   ·refine fJ [(48,_),(52,_)] 25 [some 20,some 24] fun G a w S=>?_
    have S1:=S.mem
    refine sCallVQ (X:=Unit) (g:=84) (vs:=[.agg #[.int .u8 a0.Kind,.bool a0.Purl,iv a0.A,iv a0.B]]) (caps:=[]) (val:=fun _=>iv ah) S (wN d) d d callee84 d (S1.quiet [12] d) (fun E1 w1 S1=>c_compare_cellTable_1 E1 w1 a0 (.agg #[.int .u8 a0.Kind,.bool a0.Purl,iv a0.A,iv a0.B]) ah az S1) d (lb d) fun _ a w S=>?_
    exact leafL ⟨d,S⟩
   ·refine fJ [(47,_),(53,_)] 8 [some 7,some 25] fun G a w S=>?_
    exact sBin _ S (wN d) d d d (bAdd _ _ _ _ ag ah) d (lb d) fun a S=>leafL ⟨d,S⟩
   ·exact fM 26 none d d d d (.inl d) d d d
   ·exact fM 27 none d d d d (.inl d) d d d
   ·refine fJ [(55,_),(56,_)] 28 [some 26,some 27] fun G a w S=>?_
    exact sIdxV S (wN d) d d d aJ d (lb d) fun a S=>leafL ⟨d,S⟩
   ·refine fJ [(57,_)] 29 [some 28] fun G a w S=>?_
    exact sLoadHE (r:=(rL (rI .i64))) (T:=101) (xs:=a6) (u:=.slice a4 aa.length a5) (v:=.slice ab a6.length ac) (vq:=b1) (j:=a7) 0 S aK (wN d) d d d d d (lb d) fun a S=>leafL ⟨d,S⟩
   ·exact fM 30 none d d d d (.inl d) d d d
   ·refine fJ [(59,_)] 31 [some 30] fun G a w S=>?_
    exact sBin _ S (wN d) d d d (bAdd _ _ _ _ a9 1) d (lb d) fun a S=>leafL ⟨d,S⟩
   ·refine fJ [(58,_),(60,_)] 32 [some 29,some 31] fun G a w S=>?_
    exact sIdxV S (wN d) d d d aL d (lb d) fun a S=>leafL ⟨d,S⟩
   ·refine fJ [(61,_)] 33 [some 32] fun G a w S=>?_
    exact sLoadR (r:=(rI .i64)) (T:=3) (xs:=aa) (x:=ae) (v:=.slice a4 aa.length a5) (vq:=ba) (j:=w64 (a9 + 1)) 1 (iv ae) S aM (wN d) d d d ax (fun _ _ _ h=>h) (scal_I _) d d (lb d) fun a S=>leafL ⟨d,S⟩
   ·exact fM 34 none d d d d (.inl d) d d d
   ·exact fM 35 none d d d d (.inl d) d d d
   ·exact fM 36 none d d d d (.inl d) d d d
   ·refine fJ [(64,_),(65,_)] 37 [some 35,some 36] fun G a w S=>?_
    exact sIdxV S (wN d) d d d aO d (lb d) fun a S=>leafL ⟨d,S⟩
   ·refine fJ [(66,_)] 38 [some 37] fun G a w S=>?_
    exact sLoadVN (vq:=aS) 14 [.int .u8 a2.Kind,.bool a2.Purl,iv a2.A,iv a2.B] S (wN d) d d d d d d (lb d) fun a S=>leafL ⟨d,S⟩
   ·refine fJ [(63,_),(67,_)] 39 [some 34,some 38] fun G a w S=>?_
    have S1:=S.mem
    refine sCallVQ (X:=Unit) (g:=84) (vs:=[.agg #[.int .u8 a2.Kind,.bool a2.Purl,iv a2.A,iv a2.B]]) (caps:=[]) (val:=fun _=>iv af) S (wN d) d d callee84 d (S1.quiet [9] d) (fun E1 w1 S1=>c_compare_cellTable_1 E1 w1 a2 (.agg #[.int .u8 a2.Kind,.bool a2.Purl,iv a2.A,iv a2.B]) af aA S1) d (lb d) fun _ a w S=>?_
    exact leafL ⟨d,S⟩
   ·refine fJ [(62,_),(68,_)] 40 [some 33,some 39] fun G a w S=>?_
    exact sBin _ S (wN d) d d d (bAdd _ _ _ _ ae af) d (lb d) fun a S=>leafL ⟨d,S⟩
   ·exact fM 45 none d d d d (.inl d) d d d
   ·refine fJ [(75,_)] 46 [some 45] fun G a w S=>?_
    exact sBin _ S (wN d) d d d (bAdd _ _ _ _ a9 1) d (lb d) fun a S=>leafL ⟨d,S⟩
   ·refine fJ [(74,_),(76,_)] 0 [some 5,some 46] fun G a w S=>?_
    exact sIdxV S (wN d) d d d cq d (lb d) fun a S=>leafL ⟨d,S⟩
   ·refine fJ [(77,_)] 1 [some 0] fun G a w S=>?_
    exact sLoadV1 (vq:=c1) 0 (iv ai) S (wN d) d d d d d (lb d) fun a S=>leafL ⟨d,S⟩
   ·exact fM 47 none d d d d (.inl d) d d d
   ·exact fM 48 none d d d d (.inl d) d d d
   ·exact fM 49 none d d d d (.inl d) d d d
   ·refine fJ [(80,_),(81,_)] 50 [some 48,some 49] fun G a w S=>?_
    exact sIdxV S (wN d) d d d aP d (lb d) fun a S=>leafL ⟨d,S⟩
   ·refine fJ [(82,_)] 51 [some 50] fun G a w S=>?_
    exact sLoadVN (vq:=aT) 11 [.int .u8 a0.Kind,.bool a0.Purl,iv a0.A,iv a0.B] S (wN d) d d d d d d (lb d) fun a S=>leafL ⟨d,S⟩
   ·exact fM 52 none d d d d (.inl d) d d d
   ·exact fM 53 none d d d d (.inl d) d d d
   ·refine fJ [(84,_),(85,_)] 54 [some 52,some 53] fun G a w S=>?_
    exact sIdxV S (wN d) d d d aQ d (lb d) fun a S=>leafL ⟨d,S⟩
   ·refine fJ [(86,_)] 55 [some 54] fun G a w S=>?_
    exact sLoadVN (vq:=aU) 8 [.int .u8 a2.Kind,.bool a2.Purl,iv a2.A,iv a2.B] S (wN d) d d d d d d (lb d) fun a S=>leafL ⟨d,S⟩
   ·refine fJ [(79,_),(83,_),(87,_)] 56 [some 47,some 51,some 55] fun G a w S=>?_
    have S1:=S.mem
    refine sCallVQ (X:=Unit) (g:=85) (vs:=[.agg #[.int .u8 a0.Kind,.bool a0.Purl,iv a0.A,iv a0.B],.agg #[.int .u8 a2.Kind,.bool a2.Purl,iv a2.A,iv a2.B]]) (caps:=[]) (val:=fun _=>iv aj) S (wN d) d d callee85 d (S1.quiet [12,9] d) (fun E1 w1 S1=>c_compare_cellTable_2 E1 w1 a0 (.agg #[.int .u8 a0.Kind,.bool a0.Purl,iv a0.A,iv a0.B]) a2 (.agg #[.int .u8 a2.Kind,.bool a2.Purl,iv a2.A,iv a2.B]) aj aC S1) d (lb d) fun _ a w S=>?_
    exact leafL ⟨d,S⟩
   ·refine fJ [(78,_),(88,_)] 2 [some 1,some 56] fun G a w S=>?_
    exact sBin _ S (wN d) d d d (bAdd _ _ _ _ ai aj) d (lb d) fun a S=>leafL ⟨d,S⟩
   ·refine fJ [(54,_),(69,_),(89,_)] 3 [some 8,some 40,some 2] fun G a w S=>?_
    exact sMin3 (p:=w64 (ag + ah)) (q:=w64 (ae + af)) (r:=w64 (ai + aj)) S (wN d) d d d d d (lb d) fun a S=>leafL ⟨d,S⟩
   ·refine fJ [(38,_),(39,_)] 4 [some 13,some 14] fun G a w S=>?_
    exact sIdxV S (wN d) d d d ct d (lb d) fun a S=>leafL ⟨d,S⟩
   refine ⟨_,[(90,iv (min3 (w64 (ag + ah)) (w64 (ae + af)) (w64 (ai + aj)))),(91,c2)],d,(srcs_of [some 3,some 4] d d d),fun G a w S=>?_⟩
   refine sStoreR (r:=(rI .i64)) (T:=3) (xs:=aa) (ys:=bk) (y:=(min3 (w64 (ag + ah)) (w64 (ae + af)) (w64 (ai + aj)))) (v:=.slice a4 aa.length a5) (vq:=c2) (u:=iv (min3 (w64 (ag + ah)) (w64 (ae + af)) (w64 (ai + aj)))) (j:=a9) 1 S cu (wN d) d d d d d aV d d fun a w S=>leafL ⟨d,_,_,.inr ⟨[],d,S,hz_of d,?_⟩⟩
   refine node_by (A:=anc_compare_table_api_Stitch__s0_2) 58 (by kernel_rfl) (by kernel_rfl) (by kernel_rfl) (by kernel_rfl) (by kernel_rfl) [42,43,54,55,56,39,11,12,19,9,0,1,2,3,4,5,6,7,8,10,13,14,15,16,17,18,20,21,22,23,24,25,26,27,28,29,30,31,32,33,34,35,36,37,38,40,41,44,45,46,47,48,49,50,51,52,53] (by kernel_rfl) (by decide) (by decide) (fD 57 (fD 57 (fD 57 (fD 57 (fD 57 (fD 57 (fD 57 (fD 57 (fD 57 (fY (fD 57 (fD 57 (fD 57 (fD 57 (fD 57 (fD 57 (fD 57 (fD 57 (fD 57 (fD 57 (fD 57 (fD 57 (fD 57 (fD 57 (fD 57 (fD 57 (fD 57 (fD 57 (fD 57 (fD 57 (fD 57 (fD 57 (fD 57 (fD 57 (fD 57 (fD 57 (fD 57 (fD 57 (fD 57 (fY (fD 57 (fD 57 (fD 57 (fD 57 (fD 57 (fD 57 (fD 57 (fD 57 (fD 57 (fD 57 (fD 57 (fD 57 (fD 57 (fD 57 (fD 57 (fD 57 (fD 57 (fY (trivial))))))))))))))))))))))))))))))))))))))))))))))))))))))))))) [(0,.slice ar p0.length au),(1,.slice ap p1.length aq),(2,.func (.func 84) #[] #[]),(3,.func (.func 85) #[] #[]),(9,.slice ab a6.length ac),(10,iv a7),(11,iv a9)] (fin_of [none,none,none,none,none,none,none] d (by kernel_rfl) (by kernel_rfl)) (fun _ a w S=>?_)
   rw [setO_v aV a4 a5] at S
   exact leafB (leafB (leafT (⟨bk,Option.some.inj h,S.fix [1,0] [20,21] (by decide) d d d⟩)))
  ·exact fM 39 none d d d d (.inl d) d d d
  ·refine fJ [(75,_)] 40 [some 39] fun G a w S=>?_
   exact sBin _ S (wN d) d d d (bAdd _ _ _ _ a9 1) d (lb d) fun a S=>leafL ⟨d,S⟩
  ·exact fM 41 none d d d d (.inl d) d d d
  ·exact fM 42 none d d d d (.inl d) d d d
  ·exact fM 43 none d d d d (.inl d) d d d
  ·refine fJ [(80,_),(81,_)] 44 [some 42,some 43] fun G a w S=>?_
   exact sIdxV S (wN d) d d d aP d (lb d) fun a S=>leafL ⟨d,S⟩
  ·refine fJ [(82,_)] 45 [some 44] fun G a w S=>?_
   exact sLoadVN (vq:=aT) 7 [.int .u8 a0.Kind,.bool a0.Purl,iv a0.A,iv a0.B] S (wN d) d d d d d d (lb d) fun a S=>leafL ⟨d,S⟩
  ·exact fM 46 none d d d d (.inl d) d d d
  ·exact fM 47 none d d d d (.inl d) d d d
  ·refine fJ [(84,_),(85,_)] 48 [some 46,some 47] fun G a w S=>?_
   exact sIdxV S (wN d) d d d aQ d (lb d) fun a S=>leafL ⟨d,S⟩
  ·refine fJ [(86,_)] 49 [some 48] fun G a w S=>?_
   exact sLoadVN (vq:=aU) 4 [.int .u8 a2.Kind,.bool a2.Purl,iv a2.A,iv a2.B] S (wN d) d d d d d d (lb d) fun a S=>leafL ⟨d,S⟩
  refine fJ [(79,_),(83,_),(87,_)] 50 [some 41,some 45,some 49] fun G a w S=>?_
  have S1:=S.mem
  refine sCallVQ (X:=Unit) (g:=85) (vs:=[.agg #[.int .u8 a0.Kind,.bool a0.Purl,iv a0.A,iv a0.B],.agg #[.int .u8 a2.Kind,.bool a2.Purl,iv a2.A,iv a2.B]]) (caps:=[]) (val:=fun _=>iv aj) S (wN d) d d callee85 d (S1.quiet [8,5] d) (fun E1 w1 S1=>c_compare_cellTable_2 E1 w1 a0 (.agg #[.int .u8 a0.Kind,.bool a0.Purl,iv a0.A,iv a0.B]) a2 (.agg #[.int .u8 a2.Kind,.bool a2.Purl,iv a2.A,iv a2.B]) aj aC S1) d (lb d) fun _ a w S=>?_
  exact leafL ⟨d,S⟩
 ·exact fM 9 none d d d d (.inl d) d d d
 ·exact fM 10 none d d d d (.inl d) d d d
 ·exact fM 11 none d d d d (.inl d) d d d
 ·exact fM 12 none d d d d (.inl d) d d d
 ·refine fJ [(49,_),(50,_)] 13 [some 11,some 12] fun G a w S=>?_
  exact sIdxV S (wN d) d d d aI d (lb d) fun a S=>leafL ⟨d,S⟩
 ·refine fJ [(51,_)] 14 [some 13] fun G a w S=>?_
  exact sLoadVN (vq:=aR) 9 [.int .u8 a0.Kind,.bool a0.Purl,iv a0.A,iv a0.B] S (wN d) d d d d d d (lb d) fun a S=>leafL ⟨d,S⟩
 ·refine fJ [(48,_),(52,_)] 15 [some 10,some 14] fun G a w S=>?_
  have S1:=S.mem
  refine sCallVQ (X:=Unit) (g:=84) (vs:=[.agg #[.int .u8 a0.Kind,.bool a0.Purl,iv a0.A,iv a0.B]]) (caps:=[]) (val:=fun _=>iv ah) S (wN d) d d callee84 d (S1.quiet [4] d) (fun E1 w1 S1=>c_compare_cellTable_1 E1 w1 a0 (.agg #[.int .u8 a0.Kind,.bool a0.Purl,iv a0.A,iv a0.B]) ah az S1) d (lb d) fun _ a w S=>?_
  exact leafL ⟨d,S⟩
 ·exact fM 16 none d d d d (.inl d) d d d
 ·exact fM 17 none d d d d (.inl d) d d d
 ·refine fJ [(55,_),(56,_)] 18 [some 16,some 17] fun G a w S=>?_
  exact sIdxV S (wN d) d d d aJ d (lb d) fun a S=>leafL ⟨d,S⟩
 ·refine fJ [(57,_)] 19 [some 18] fun G a w S=>?_
  exact sLoadHE (r:=(rL (rI .i64))) (T:=101) (xs:=a6) (u:=.slice a4 aa.length a5) (v:=.slice ab a6.length ac) (vq:=b1) (j:=a7) 0 S aK (wN d) d d d d d (lb d) fun a S=>leafL ⟨d,S⟩
 ·exact fM 20 none d d d d (.inl d) d d d
 ·refine fJ [(59,_)] 21 [some 20] fun G a w S=>?_
  exact sBin _ S (wN d) d d d (bAdd _ _ _ _ a9 1) d (lb d) fun a S=>leafL ⟨d,S⟩
 ·refine fJ [(58,_),(60,_)] 22 [some 19,some 21] fun G a w S=>?_
  exact sIdxV S (wN d) d d d aL d (lb d) fun a S=>leafL ⟨d,S⟩
 ·refine fJ [(61,_)] 23 [some 22] fun G a w S=>?_
  exact sLoadR (r:=(rI .i64)) (T:=3) (xs:=aa) (x:=ae) (v:=.slice a4 aa.length a5) (vq:=ba) (j:=w64 (a9 + 1)) 1 (iv ae) S aM (wN d) d d d ax (fun _ _ _ h=>h) (scal_I _) d d (lb d) fun a S=>leafL ⟨d,S⟩
 ·exact fM 24 none d d d d (.inl d) d d d
 ·exact fM 25 none d d d d (.inl d) d d d
 ·exact fM 26 none d d d d (.inl d) d d d
 ·refine fJ [(64,_),(65,_)] 27 [some 25,some 26] fun G a w S=>?_
  exact sIdxV S (wN d) d d d aO d (lb d) fun a S=>leafL ⟨d,S⟩
 ·refine fJ [(66,_)] 28 [some 27] fun G a w S=>?_
  exact sLoadVN (vq:=aS) 6 [.int .u8 a2.Kind,.bool a2.Purl,iv a2.A,iv a2.B] S (wN d) d d d d d d (lb d) fun a S=>leafL ⟨d,S⟩
 ·refine fJ [(63,_),(67,_)] 29 [some 24,some 28] fun G a w S=>?_
  have S1:=S.mem
  refine sCallVQ (X:=Unit) (g:=84) (vs:=[.agg #[.int .u8 a2.Kind,.bool a2.Purl,iv a2.A,iv a2.B]]) (caps:=[]) (val:=fun _=>iv af) S (wN d) d d callee84 d (S1.quiet [1] d) (fun E1 w1 S1=>c_compare_cellTable_1 E1 w1 a2 (.agg #[.int .u8 a2.Kind,.bool a2.Purl,iv a2.A,iv a2.B]) af aA S1) d (lb d) fun _ a w S=>?_
  exact leafL ⟨d,S⟩
 ·refine fJ [(62,_),(68,_)] 30 [some 23,some 29] fun G a w S=>?_
  exact sBin _ S (wN d) d d d (bAdd _ _ _ _ ae af) d (lb d) fun a S=>leafL ⟨d,S⟩
 ·exact fM 31 none d d d d (.inl d) d d d
 ·exact fM 32 none d d d d (.inl d) d d d
 ·refine fJ [(71,_)] 33 [some 32] fun G a w S=>?_
  exact sBin _ S (wN d) d d d (bAdd _ _ _ _ a7 1) d (lb d) fun a S=>leafL ⟨d,S⟩
 ·refine fJ [(70,_),(72,_)] 34 [some 31,some 33] fun G a w S=>?_
  exact sIdxV S (wN d) d d d bF d (lb d) fun a S=>leafL ⟨d,S⟩
 ·refine ⟨_,[(73,bh)],d,(srcs_of [some 34] d d d),fun G a w S=>?_⟩
  refine sLoadHo (r:=(rL (rI .i64))) (T:=101) (xs:=a6) (x:=ak) (p:=(a7).toNat * (rL (rI .i64)).sz + 0) (u:=.slice a4 aa.length a5) (v:=.slice ab a6.length ac) (vq:=bh) (j:=w64 (a7 + 1)) 0 S bG (wN d) d d d al (idx_next (by decide) (hole_lim 0 S.mem d) am al) (scal_L _) d d (lb d) fun a d8 S=>?_
  obtain ⟨bM,bN,_,rfl,_⟩:=S.mem.know (i:=0) (e:=fRep (rL (rI .i64)) (d8) ak) d
  obtain ⟨bm,bO,S⟩:=pIdx (P:=Try.prog) (r:=(rI .i64)) (v:=.slice bM ak.length bN) (xs:=ak) (j:=w64 (a9 + 1)) 101 3 0 S Try.underlying101 d d bB
  obtain ⟨cv,S⟩:=pLoad (r:=(rI .i64)) (q:=bm) (x:=ai) 0 S d
  obtain rfl:cv=iv ai:=S.mem.know (i:=1) (e:=fRep (rI .i64) (cv) ai) d
  refine leafL ⟨d,_,_,.inl ⟨74,(.slice bM ak.length bN),[(42,77,bm),(43,78,iv ai),(54,89,iv (w64 (ai + aj)))],d,S,hz_of d,?_⟩⟩
  refine node_by (A:=anc_compare_table_api_Stitch__s0_2) 58 (by kernel_rfl) (by kernel_rfl) (by kernel_rfl) (by kernel_rfl) (by kernel_rfl) [42,43,54,39,0,1,2,3,4,5,6,7,8,10,13,14,15,16,17,18,20,21,22,23,24,25,26,27,28,29,30,31,32,33,34,35,36,37,38,40,41,44,45,46,47,48,49,50,51,52,53] (by kernel_rfl) (by decide) (by decide) (fF ?_ (fF ?_ (fF ?_ (fF ?_ (fF ?_ (fF ?_ (fF ?_ (fF ?_ (fF ?_ (fN ?_ (fF ?_ (fE 9 (fE 9 (fF ?_ (fF ?_ (fF ?_ (fF ?_ (fF ?_ (fF ?_ (fE 9 (fF ?_ (fF ?_ (fF ?_ (fF ?_ (fF ?_ (fF ?_ (fF ?_ (fF ?_ (fF ?_ (fF ?_ (fF ?_ (fF ?_ (fF ?_ (fF ?_ (fF ?_ (fD 39 (fD 39 (fD 39 (fD 39 (fY (fF ?_ (fF ?_ (fF ?_ (fF ?_ (fF ?_ (fF ?_ (fF ?_ (fF ?_ (fF ?_ (fF ?_ (fF ?_ (fF ?_ (fF ?_ (fF ?_ (fF ?_ (fE 9 (fE 9 (aB 57 0 9 (by decide) (trivial))))))))))))))))))))))))))))))))))))))))))))))))))))))))))) [] (fun q hq=>by cases hq) (fun hY=>absurd (hY 9 (by decide)) (by decide))
  ·exact fM 4 none d d d d (.inl d) d d d
  ·exact fM 5 none d d d d (.inl d) d d d
  ·refine fJ [(35,_),(36,_)] 6 [some 4,some 5] fun G a w S=>?_
   exact sIdxV S (wN d) d d d aG d (lb d) fun a S=>leafL ⟨d,S⟩
  ·refine fJ [(37,_)] 7 [some 6] fun G a w S=>?_
   exact sLoadHE (r:=(rL (rI .i64))) (T:=101) (xs:=a6) (u:=.slice a4 aa.length a5) (v:=.slice ab a6.length ac) (vq:=b0) (j:=a7) 0 S aH (wN d) d d d d d (lb d) fun a S=>leafL ⟨d,S⟩
  ·exact fM 8 none d d d d (.inl d) d d d
  ·exact fM 9 none d d d d (.inl d) d d d
  ·exact fM 10 none d d d d (.inl d) d d d
  ·refine fJ [(41,_)] 11 [some 10] fun G a w S=>?_
   exact sBin _ S (wN d) d d d (bAdd _ _ _ _ a7 1) d (lb d) fun a S=>leafL ⟨d,S⟩
  ·refine fJ [(40,_),(42,_)] 12 [some 9,some 11] fun G a w S=>?_
   exact sIdxV S (wN d) d d d bD d (lb d) fun a S=>leafL ⟨d,S⟩
  ·refine ⟨_,[(43,bg)],d,(srcs_of [some 12] d d d),fun G a w S=>?_⟩
   refine sLoadHo (r:=(rL (rI .i64))) (T:=101) (xs:=a6) (x:=ak) (p:=(a7).toNat * (rL (rI .i64)).sz + 0) (u:=.slice a4 aa.length a5) (v:=.slice ab a6.length ac) (vq:=bg) (j:=w64 (a7 + 1)) 0 S bE (wN d) d d d al (idx_next (by decide) (hole_lim 0 S.mem d) am al) (scal_L _) d d (lb d) fun a d9 S=>?_
   obtain ⟨bP,bQ,_,rfl,_⟩:=S.mem.know (i:=0) (e:=fRep (rL (rI .i64)) (d9) ak) d
   obtain ⟨c3,cw,S⟩:=pIdx (P:=Try.prog) (r:=(rI .i64)) (v:=.slice bP ak.length bQ) (xs:=ak) (j:=a9) 101 3 0 S Try.underlying101 d d bx
   obtain ⟨cx,S⟩:=pLoad (r:=(rI .i64)) (q:=c3) (x:=ag) 0 S d
   obtain rfl:cx=iv ag:=S.mem.know (i:=1) (e:=fRep (rI .i64) (cx) ag) d
   obtain ⟨c4,cy,cz⟩:=pIdxR (P:=Try.prog) (r:=(rI .i64)) (T:=3) (v:=.slice a4 aa.length a5) (xs:=aa) (j:=a9) 101 3 1 S Try.underlying101 d d bC
   refine leafL ⟨d,_,_,.inl ⟨44,(.slice bP ak.length bQ),[(11,46,c3),(12,47,iv ag),(19,54,iv (w64 (ag + ah))),(55,90,iv (min3 (w64 (ag + ah)) (w64 (ae + af)) (w64 (ai + aj)))),(56,91,c4)],d,S,hz_of d,?_⟩⟩
   refine node_by (A:=anc_compare_table_api_Stitch__s0_2) 58 (by kernel_rfl) (by kernel_rfl) (by kernel_rfl) (by kernel_rfl) (by kernel_rfl) [11,12,19,55,56,9,42,43,54,39,0,1,2,3,4,5,6,7,8,10,13,14,15,16,17,18,20,21,22,23,24,25,26,27,28,29,30,31,32,33,34,35,36,37,38,40,41,44,45,46,47,48,49,50,51,52,53] (by kernel_rfl) (by decide) (by decide) (fF ?_ (fF ?_ (fF ?_ (fF ?_ (fF ?_ (fD 9 (fD 9 (fD 9 (fD 9 (fY (fF ?_ (fF ?_ (fF ?_ (fF ?_ (fF ?_ (fF ?_ (fF ?_ (fF ?_ (fF ?_ (fF ?_ (fF ?_ (fF ?_ (fF ?_ (fF ?_ (fF ?_ (fF ?_ (fF ?_ (fF ?_ (fF ?_ (fF ?_ (fF ?_ (fF ?_ (fF ?_ (fF ?_ (fF ?_ (fD 39 (fD 39 (fD 39 (fD 39 (fY (fF ?_ (fF ?_ (fF ?_ (fF ?_ (fF ?_ (fF ?_ (fF ?_ (fF ?_ (fF ?_ (fF ?_ (fF ?_ (fF ?_ (fF ?_ (fF ?_ (fF ?_ (fF ?_ (fF ?_ (fN ?_ (trivial))))))))))))))))))))))))))))))))))))))))))))))))))))))))))) [] (fun q hq=>by cases hq) (fun hY=>absurd (hY 57 (by decide)) (by decide))
   ·exact fM 10 none d d d d (.inl d) d d d
   ·exact fM 11 none d d d d (.inl d) d d d
   ·refine fJ [(35,_),(36,_)] 12 [some 10,some 11] fun G a w S=>?_
    exact sIdxV S (wN d) d d d aG d (lb d) fun a S=>leafL ⟨d,S⟩
   ·refine fJ [(37,_)] 13 [some 12] fun G a w S=>?_
    exact sLoadHE (r:=(rL (rI .i64))) (T:=101) (xs:=a6) (u:=.slice a4 aa.length a5) (v:=.slice ab a6.length ac) (vq:=b0) (j:=a7) 0 S aH (wN d) d d d d d (lb d) fun a S=>leafL ⟨d,S⟩
   ·exact fM 14 none d d d d (.inl d) d d d
   ·exact fM 19 none d d d d (.inl d) d d d
   ·refine fJ [(44,_),(45,_)] 0 [some 5,some 19] fun G a w S=>?_
    exact sIdxV S (wN d) d d d cw d (lb d) fun a S=>leafL ⟨d,S⟩
   ·refine fJ [(46,_)] 1 [some 0] fun G a w S=>?_
    exact sLoadV1 (vq:=c3) 0 (iv ag) S (wN d) d d d d d (lb d) fun a S=>leafL ⟨d,S⟩
   ·exact fM 20 none d d d d (.inl d) d d d
   ·exact fM 21 none d d d d (.inl d) d d d
   ·exact fM 22 none d d d d (.inl d) d d d
   ·refine fJ [(49,_),(50,_)] 23 [some 21,some 22] fun G a w S=>?_
    exact sIdxV S (wN d) d d d aI d (lb d) fun a S=>leafL ⟨d,S⟩
   ·refine fJ [(51,_)] 24 [some 23] fun G a w S=>?_
    exact sLoadVN (vq:=aR) 17 [.int .u8 a0.Kind,.bool a0.Purl,iv a0.A,iv a0.B] S (wN d) d d d d d d (lb d) fun a S=>leafL ⟨d,S⟩
   ·refine fJ [(48,_),(52,_)] 25 [some 20,some 24] fun G a w S=>?_
    have S1:=S.mem
    refine sCallVQ (X:=Unit) (g:=84) (vs:=[.agg #[.int .u8 a0.Kind,.bool a0.Purl,iv a0.A,iv a0.B]]) (caps:=[]) (val:=fun _=>iv ah) S (wN d) d d callee84 d (S1.quiet [12] d) (fun E1 w1 S1=>c_compare_cellTable_1 E1 w1 a0 (.agg #[.int .u8 a0.Kind,.bool a0.Purl,iv a0.A,iv a0.B]) ah az S1) d (lb d) fun _ a w S=>?_
    exact leafL ⟨d,S⟩
   ·refine fJ [(47,_),(53,_)] 2 [some 1,some 25] fun G a w S=>?_
    exact sBin _ S (wN d) d d d (bAdd _ _ _ _ ag ah) d (lb d) fun a S=>leafL ⟨d,S⟩
   ·exact fM 26 none d d d d (.inl d) d d d
   ·exact fM 27 none d d d d (.inl d) d d d
   ·refine fJ [(55,_),(56,_)] 28 [some 26,some 27] fun G a w S=>?_
    exact sIdxV S (wN d) d d d aJ d (lb d) fun a S=>leafL ⟨d,S⟩
   ·refine fJ [(57,_)] 29 [some 28] fun G a w S=>?_
    exact sLoadHE (r:=(rL (rI .i64))) (T:=101) (xs:=a6) (u:=.slice a4 aa.length a5) (v:=.slice ab a6.length ac) (vq:=b1) (j:=a7) 0 S aK (wN d) d d d d d (lb d) fun a S=>leafL ⟨d,S⟩
   ·exact fM 30 none d d d d (.inl d) d d d
   ·refine fJ [(59,_)] 31 [some 30] fun G a w S=>?_
    exact sBin _ S (wN d) d d d (bAdd _ _ _ _ a9 1) d (lb d) fun a S=>leafL ⟨d,S⟩
   ·refine fJ [(58,_),(60,_)] 32 [some 29,some 31] fun G a w S=>?_
    exact sIdxV S (wN d) d d d aL d (lb d) fun a S=>leafL ⟨d,S⟩
   ·refine fJ [(61,_)] 33 [some 32] fun G a w S=>?_
    exact sLoadR (r:=(rI .i64)) (T:=3) (xs:=aa) (x:=ae) (v:=.slice a4 aa.length a5) (vq:=ba) (j:=w64 (a9 + 1)) 1 (iv ae) S aM (wN d) d d d ax (fun _ _ _ h=>h) (scal_I _) d d (lb d) fun a S=>leafL ⟨d,S⟩
   ·exact fM 34 none d d d d (.inl d) d d d
   ·exact fM 35 none d d d d (.inl d) d d d
   ·exact fM 36 none d d d d (.inl d) d d d
   ·refine fJ [(64,_),(65,_)] 37 [some 35,some 36] fun G a w S=>?_
    exact sIdxV S (wN d) d d d aO d (lb d) fun a S=>leafL ⟨d,S⟩
   ·refine fJ [(66,_)] 38 [some 37] fun G a w S=>?_
    exact sLoadVN (vq:=aS) 14 [.int .u8 a2.Kind,.bool a2.Purl,iv a2.A,iv a2.B] S (wN d) d d d d d d (lb d) fun a S=>leafL ⟨d,S⟩
   ·refine fJ [(63,_),(67,_)] 39 [some 34,some 38] fun G a w S=>?_
    have S1:=S.mem
    refine sCallVQ (X:=Unit) (g:=84) (vs:=[.agg #[.int .u8 a2.Kind,.bool a2.Purl,iv a2.A,iv a2.B]]) (caps:=[]) (val:=fun _=>iv af) S (wN d) d d callee84 d (S1.quiet [9] d) (fun E1 w1 S1=>c_compare_cellTable_1 E1 w1 a2 (.agg #[.int .u8 a2.Kind,.bool a2.Purl,iv a2.A,iv a2.B]) af aA S1) d (lb d) fun _ a w S=>?_
    exact leafL ⟨d,S⟩
   ·refine fJ [(62,_),(68,_)] 40 [some 33,some 39] fun G a w S=>?_
    exact sBin _ S (wN d) d d d (bAdd _ _ _ _ ae af) d (lb d) fun a S=>leafL ⟨d,S⟩
   ·exact fM 45 none d d d d (.inl d) d d d
   ·refine fJ [(75,_)] 46 [some 45] fun G a w S=>?_
    exact sBin _ S (wN d) d d d (bAdd _ _ _ _ a9 1) d (lb d) fun a S=>leafL ⟨d,S⟩
   ·refine fJ [(74,_),(76,_)] 6 [some 9,some 46] fun G a w S=>?_
    exact sIdxV S (wN d) d d d bO d (lb d) fun a S=>leafL ⟨d,S⟩
   ·refine fJ [(77,_)] 7 [some 6] fun G a w S=>?_
    exact sLoadV1 (vq:=bm) 4 (iv ai) S (wN d) d d d d d (lb d) fun a S=>leafL ⟨d,S⟩
   ·exact fM 47 none d d d d (.inl d) d d d
   ·exact fM 48 none d d d d (.inl d) d d d
   ·exact fM 49 none d d d d (.inl d) d d d
   ·refine fJ [(80,_),(81,_)] 50 [some 48,some 49] fun G a w S=>?_
    exact sIdxV S (wN d) d d d aP d (lb d) fun a S=>leafL ⟨d,S⟩
   ·refine fJ [(82,_)] 51 [some 50] fun G a w S=>?_
    exact sLoadVN (vq:=aT) 11 [.int .u8 a0.Kind,.bool a0.Purl,iv a0.A,iv a0.B] S (wN d) d d d d d d (lb d) fun a S=>leafL ⟨d,S⟩
   ·exact fM 52 none d d d d (.inl d) d d d
   ·exact fM 53 none d d d d (.inl d) d d d
   ·refine fJ [(84,_),(85,_)] 54 [some 52,some 53] fun G a w S=>?_
    exact sIdxV S (wN d) d d d aQ d (lb d) fun a S=>leafL ⟨d,S⟩
   ·refine fJ [(86,_)] 55 [some 54] fun G a w S=>?_
    exact sLoadVN (vq:=aU) 8 [.int .u8 a2.Kind,.bool a2.Purl,iv a2.A,iv a2.B] S (wN d) d d d d d d (lb d) fun a S=>leafL ⟨d,S⟩
   ·refine fJ [(79,_),(83,_),(87,_)] 56 [some 47,some 51,some 55] fun G a w S=>?_
    have S1:=S.mem
    refine sCallVQ (X:=Unit) (g:=85) (vs:=[.agg #[.int .u8 a0.Kind,.bool a0.Purl,iv a0.A,iv a0.B],.agg #[.int .u8 a2.Kind,.bool a2.Purl,iv a2.A,iv a2.B]]) (caps:=[]) (val:=fun _=>iv aj) S (wN d) d d callee85 d (S1.quiet [12,9] d) (fun E1 w1 S1=>c_compare_cellTable_2 E1 w1 a0 (.agg #[.int .u8 a0.Kind,.bool a0.Purl,iv a0.A,iv a0.B]) a2 (.agg #[.int .u8 a2.Kind,.bool a2.Purl,iv a2.A,iv a2.B]) aj aC S1) d (lb d) fun _ a w S=>?_
    exact leafL ⟨d,S⟩
   ·refine fJ [(78,_),(88,_)] 8 [some 7,some 56] fun G a w S=>?_
    exact sBin _ S (wN d) d d d (bAdd _ _ _ _ ai aj) d (lb d) fun a S=>leafL ⟨d,S⟩
   ·refine fJ [(54,_),(69,_),(89,_)] 3 [some 2,some 40,some 8] fun G a w S=>?_
    exact sMin3 (p:=w64 (ag + ah)) (q:=w64 (ae + af)) (r:=w64 (ai + aj)) S (wN d) d d d d d (lb d) fun a S=>leafL ⟨d,S⟩
   ·refine fJ [(38,_),(39,_)] 4 [some 13,some 14] fun G a w S=>?_
    exact sIdxV S (wN d) d d d cy d (lb d) fun a S=>leafL ⟨d,S⟩
   refine ⟨_,[(90,iv (min3 (w64 (ag + ah)) (w64 (ae + af)) (w64 (ai + aj)))),(91,c4)],d,(srcs_of [some 3,some 4] d d d),fun G a w S=>?_⟩
   refine sStoreR (r:=(rI .i64)) (T:=3) (xs:=aa) (ys:=bk) (y:=(min3 (w64 (ag + ah)) (w64 (ae + af)) (w64 (ai + aj)))) (v:=.slice a4 aa.length a5) (vq:=c4) (u:=iv (min3 (w64 (ag + ah)) (w64 (ae + af)) (w64 (ai + aj)))) (j:=a9) 1 S cz (wN d) d d d d d aV d d fun a w S=>leafL ⟨d,_,_,.inr ⟨[],d,S,hz_of d,?_⟩⟩
   refine node_by (A:=anc_compare_table_api_Stitch__s0_2) 58 (by kernel_rfl) (by kernel_rfl) (by kernel_rfl) (by kernel_rfl) (by kernel_rfl) [11,12,19,55,56,9,42,43,54,39,0,1,2,3,4,5,6,7,8,10,13,14,15,16,17,18,20,21,22,23,24,25,26,27,28,29,30,31,32,33,34,35,36,37,38,40,41,44,45,46,47,48,49,50,51,52,53] (by kernel_rfl) (by decide) (by decide) (fD 57 (fD 57 (fD 57 (fD 57 (fD 57 (fD 57 (fD 57 (fD 57 (fD 57 (fY (fD 57 (fD 57 (fD 57 (fD 57 (fD 57 (fD 57 (fD 57 (fD 57 (fD 57 (fD 57 (fD 57 (fD 57 (fD 57 (fD 57 (fD 57 (fD 57 (fD 57 (fD 57 (fD 57 (fD 57 (fD 57 (fD 57 (fD 57 (fD 57 (fD 57 (fD 57 (fD 57 (fD 57 (fD 57 (fY (fD 57 (fD 57 (fD 57 (fD 57 (fD 57 (fD 57 (fD 57 (fD 57 (fD 57 (fD 57 (fD 57 (fD 57 (fD 57 (fD 57 (fD 57 (fD 57 (fD 57 (fY (trivial))))))))))))))))))))))))))))))))))))))))))))))))))))))))))) [(0,.slice ar p0.length au),(1,.slice ap p1.length aq),(2,.func (.func 84) #[] #[]),(3,.func (.func 85) #[] #[]),(9,.slice ab a6.length ac),(10,iv a7),(11,iv a9)] (fin_of [none,none,none,none,none,none,none] d (by kernel_rfl) (by kernel_rfl)) (fun _ a w S=>?_)
   rw [setO_v aV a4 a5] at S
   exact leafB (leafB (leafT (⟨bk,Option.some.inj h,S.fix [1,0] [20,21] (by decide) d d d⟩)))
  ·exact fM 13 none d d d d (.inl d) d d d
  ·exact fM 14 none d d d d (.inl d) d d d
  ·exact fM 15 none d d d d (.inl d) d d d
  ·exact fM 16 none d d d d (.inl d) d d d
  ·refine fJ [(49,_),(50,_)] 17 [some 15,some 16] fun G a w S=>?_
   exact sIdxV S (wN d) d d d aI d (lb d) fun a S=>leafL ⟨d,S⟩
  ·refine fJ [(51,_)] 18 [some 17] fun G a w S=>?_
   exact sLoadVN (vq:=aR) 13 [.int .u8 a0.Kind,.bool a0.Purl,iv a0.A,iv a0.B] S (wN d) d d d d d d (lb d) fun a S=>leafL ⟨d,S⟩
  ·refine fJ [(48,_),(52,_)] 19 [some 14,some 18] fun G a w S=>?_
   have S1:=S.mem
   refine sCallVQ (X:=Unit) (g:=84) (vs:=[.agg #[.int .u8 a0.Kind,.bool a0.Purl,iv a0.A,iv a0.B]]) (caps:=[]) (val:=fun _=>iv ah) S (wN d) d d callee84 d (S1.quiet [8] d) (fun E1 w1 S1=>c_compare_cellTable_1 E1 w1 a0 (.agg #[.int .u8 a0.Kind,.bool a0.Purl,iv a0.A,iv a0.B]) ah az S1) d (lb d) fun _ a w S=>?_
   exact leafL ⟨d,S⟩
  ·exact fM 20 none d d d d (.inl d) d d d
  ·exact fM 21 none d d d d (.inl d) d d d
  ·refine fJ [(55,_),(56,_)] 22 [some 20,some 21] fun G a w S=>?_
   exact sIdxV S (wN d) d d d aJ d (lb d) fun a S=>leafL ⟨d,S⟩
  ·refine fJ [(57,_)] 23 [some 22] fun G a w S=>?_
   exact sLoadHE (r:=(rL (rI .i64))) (T:=101) (xs:=a6) (u:=.slice a4 aa.length a5) (v:=.slice ab a6.length ac) (vq:=b1) (j:=a7) 0 S aK (wN d) d d d d d (lb d) fun a S=>leafL ⟨d,S⟩
  ·exact fM 24 none d d d d (.inl d) d d d
  ·refine fJ [(59,_)] 25 [some 24] fun G a w S=>?_
   exact sBin _ S (wN d) d d d (bAdd _ _ _ _ a9 1) d (lb d) fun a S=>leafL ⟨d,S⟩
  ·refine fJ [(58,_),(60,_)] 26 [some 23,some 25] fun G a w S=>?_
   exact sIdxV S (wN d) d d d aL d (lb d) fun a S=>leafL ⟨d,S⟩
  ·refine fJ [(61,_)] 27 [some 26] fun G a w S=>?_
   exact sLoadR (r:=(rI .i64)) (T:=3) (xs:=aa) (x:=ae) (v:=.slice a4 aa.length a5) (vq:=ba) (j:=w64 (a9 + 1)) 1 (iv ae) S aM (wN d) d d d ax (fun _ _ _ h=>h) (scal_I _) d d (lb d) fun a S=>leafL ⟨d,S⟩
  ·exact fM 28 none d d d d (.inl d) d d d
  ·exact fM 29 none d d d d (.inl d) d d d
  ·exact fM 30 none d d d d (.inl d) d d d
  ·refine fJ [(64,_),(65,_)] 31 [some 29,some 30] fun G a w S=>?_
   exact sIdxV S (wN d) d d d aO d (lb d) fun a S=>leafL ⟨d,S⟩
  ·refine fJ [(66,_)] 32 [some 31] fun G a w S=>?_
   exact sLoadVN (vq:=aS) 10 [.int .u8 a2.Kind,.bool a2.Purl,iv a2.A,iv a2.B] S (wN d) d d d d d d (lb d) fun a S=>leafL ⟨d,S⟩
  ·refine fJ [(63,_),(67,_)] 33 [some 28,some 32] fun G a w S=>?_
   have S1:=S.mem
   refine sCallVQ (X:=Unit) (g:=84) (vs:=[.agg #[.int .u8 a2.Kind,.bool a2.Purl,iv a2.A,iv a2.B]]) (caps:=[]) (val:=fun _=>iv af) S (wN d) d d callee84 d (S1.quiet [5] d) (fun E1 w1 S1=>c_compare_cellTable_1 E1 w1 a2 (.agg #[.int .u8 a2.Kind,.bool a2.Purl,iv a2.A,iv a2.B]) af aA S1) d (lb d) fun _ a w S=>?_
   exact leafL ⟨d,S⟩
  ·refine fJ [(62,_),(68,_)] 34 [some 27,some 33] fun G a w S=>?_
   exact sBin _ S (wN d) d d d (bAdd _ _ _ _ ae af) d (lb d) fun a S=>leafL ⟨d,S⟩
  ·exact fM 39 none d d d d (.inl d) d d d
  ·refine fJ [(75,_)] 40 [some 39] fun G a w S=>?_
   exact sBin _ S (wN d) d d d (bAdd _ _ _ _ a9 1) d (lb d) fun a S=>leafL ⟨d,S⟩
  ·refine fJ [(74,_),(76,_)] 0 [some 3,some 40] fun G a w S=>?_
   exact sIdxV S (wN d) d d d bO d (lb d) fun a S=>leafL ⟨d,S⟩
  ·refine fJ [(77,_)] 1 [some 0] fun G a w S=>?_
   exact sLoadV1 (vq:=bm) 0 (iv ai) S (wN d) d d d d d (lb d) fun a S=>leafL ⟨d,S⟩
  ·exact fM 41 none d d d d (.inl d) d d d
  ·exact fM 42 none d d d d (.inl d) d d d
  ·exact fM 43 none d d d d (.inl d) d d d
  ·refine fJ [(80,_),(81,_)] 44 [some 42,some 43] fun G a w S=>?_
   exact sIdxV S (wN d) d d d aP d (lb d) fun a S=>leafL ⟨d,S⟩
  ·refine fJ [(82,_)] 45 [some 44] fun G a w S=>?_
   exact sLoadVN (vq:=aT) 7 [.int .u8 a0.Kind,.bool a0.Purl,iv a0.A,iv a0.B] S (wN d) d d d d d d (lb d) fun a S=>leafL ⟨d,S⟩
  ·exact fM 46 none d d d d (.inl d) d d d
  ·exact fM 47 none d d d d (.inl d) d d d
  ·refine fJ [(84,_),(85,_)] 48 [some 46,some 47] fun G a w S=>?_
   exact sIdxV S (wN d) d d d aQ d (lb d) fun a S=>leafL ⟨d,S⟩
  ·refine fJ [(86,_)] 49 [some 48] fun G a w S=>?_
   exact sLoadVN (vq:=aU) 4 [.int .u8 a2.Kind,.bool a2.Purl,iv a2.A,iv a2.B] S (wN d) d d d d d d (lb d) fun a S=>leafL ⟨d,S⟩
  ·refine fJ [(79,_),(83,_),(87,_)] 50 [some 41,some 45,some 49] fun G a w S=>?_
   have S1:=S.mem
   refine sCallVQ (X:=Unit) (g:=85) (vs:=[.agg #[.int .u8 a0.Kind,.bool a0.Purl,iv a0.A,iv a0.B],.agg #[.int .u8 a2.Kind,.bool a2.Purl,iv a2.A,iv a2.B]]) (caps:=[]) (val:=fun _=>iv aj) S (wN d) d d callee85 d (S1.quiet [8,5] d) (fun E1 w1 S1=>c_compare_cellTable_2 E1 w1 a0 (.agg #[.int .u8 a0.Kind,.bool a0.Purl,iv a0.A,iv a0.B]) a2 (.agg #[.int .u8 a2.Kind,.bool a2.Purl,iv a2.A,iv a2.B]) aj aC S1) d (lb d) fun _ a w S=>?_
   exact leafL ⟨d,S⟩
  refine fJ [(78,_),(88,_)] 2 [some 1,some 50] fun G a w S=>?_
  exact sBin _ S (wN d) d d d (bAdd _ _ _ _ ai aj) d (lb d) fun a S=>leafL ⟨d,S⟩
 ·exact fM 35 none d d d d (.inl d) d d d
 ·refine fJ [(75,_)] 36 [some 35] fun G a w S=>?_
  exact sBin _ S (wN d) d d d (bAdd _ _ _ _ a9 1) d (lb d) fun a S=>leafL ⟨d,S⟩
 ·exact fM 37 none d d d d (.inl d) d d d
 ·exact fM 38 none d d d d (.inl d) d d d
 ·exact fM 39 none d d d d (.inl d) d d d
 ·refine fJ [(80,_),(81,_)] 40 [some 38,some 39] fun G a w S=>?_
  exact sIdxV S (wN d) d d d aP d (lb d) fun a S=>leafL ⟨d,S⟩
 ·refine fJ [(82,_)] 41 [some 40] fun G a w S=>?_
  exact sLoadVN (vq:=aT) 3 [.int .u8 a0.Kind,.bool a0.Purl,iv a0.A,iv a0.B] S (wN d) d d d d d d (lb d) fun a S=>leafL ⟨d,S⟩
 ·exact fM 42 none d d d d (.inl d) d d d
 ·exact fM 43 none d d d d (.inl d) d d d
 ·refine fJ [(84,_),(85,_)] 44 [some 42,some 43] fun G a w S=>?_
  exact sIdxV S (wN d) d d d aQ d (lb d) fun a S=>leafL ⟨d,S⟩
 ·refine fJ [(86,_)] 45 [some 44] fun G a w S=>?_
  exact sLoadVN (vq:=aU) 0 [.int .u8 a2.Kind,.bool a2.Purl,iv a2.A,iv a2.B] S (wN d) d d d d d d (lb d) fun a S=>leafL ⟨d,S⟩
 refine fJ [(79,_),(83,_),(87,_)] 46 [some 37,some 41,some 45] fun G a w S=>?_
 have S1:=S.mem
 refine sCallVQ (X:=Unit) (g:=85) (vs:=[.agg #[.int .u8 a0.Kind,.bool a0.Purl,iv a0.A,iv a0.B],.agg #[.int .u8 a2.Kind,.bool a2.Purl,iv a2.A,iv a2.B]]) (caps:=[]) (val:=fun _=>iv aj) S (wN d) d d callee85 d (S1.quiet [4,1] d) (fun E1 w1 S1=>c_compare_cellTable_2 E1 w1 a0 (.agg #[.int .u8 a0.Kind,.bool a0.Purl,iv a0.A,iv a0.B]) a2 (.agg #[.int .u8 a2.Kind,.bool a2.Purl,iv a2.A,iv a2.B]) aj aC S1) d (lb d) fun _ a w S=>?_
 exact leafL ⟨d,S⟩
noncomputable def F_compare_cellTable (p0:(List api_Stitch)) (p1:(List api_Stitch)):Option (List (List Int)):=
 (F_compare_table_api_Stitch__s0 p0 p1).bind fun r7=>
 some r7
def c_compare_cellTable_val (r:(List (List Int))) (x:Value):Value:=x
def c_compare_cellTable_D (r:(List (List Int))) (x:Value):List Fact:=[fRep (rL (rL (rI .i64))) x r]
theorem c_compare_cellTable (E:Nat→Prop) (w0:World) (p0:(List api_Stitch)) (v0:Value) (p1:(List api_Stitch)) (v1:Value) (r:(List (List Int))) (h:F_compare_cellTable p0 p1=some r) (S:St0 E [] w0 w0 [] [fRep (rL r_api_Stitch) (v0) p0,fRep (rL r_api_Stitch) (v1) p1]) :
 Calls Try.prog 54 #[v0,v1] w0 (Ret (X:=Value) E [] w0 (c_compare_cellTable_val r) (fun _=>[]) (c_compare_cellTable_D r)):=by
 unfold F_compare_cellTable at h
 obtain ⟨a4,a5,_,rfl,_⟩:=S.know (i:=0) (e:=fRep (rL r_api_Stitch) (v0) p0) d
 obtain ⟨a6,a7,_,rfl,_⟩:=S.know (i:=1) (e:=fRep (rL r_api_Stitch) (v1) p1) d
 refine sEnter (args:=[.slice a4 p0.length a5,.slice a6 p1.length a7]) 8 Try.func54 d d (by simp) S (fun a S=>?_)
 refine sSeq (fun K5 a8=>sRegion (sN S fun a S=>?_))
 refine lT (a8 _ _ (sSeq (fun K6 a9=>sRegion (sM S fun a S=>?_))))
 refine sM S fun a S=>?_
 obtain ⟨r7,aa,h⟩:=bS h
 refine sCall (X:=Value) (f:=83) (vs:=[.slice a4 p0.length a5,.slice a6 p1.length a7,.func (.func 84) #[] #[],.func (.func 85) #[] #[]]) (val:=c_compare_table_api_Stitch__s0_val r7) (B':=fun _=>[]) (D':=c_compare_table_api_Stitch__s0_D r7) [] [] [fRep (rL r_api_Stitch) (.slice a4 p0.length a5) p0,fRep (rL r_api_Stitch) (.slice a6 p1.length a7) p1] [] [0,1] S (wN d) d callee83 d (by decide) d d (fun E1 w1 S1=>c_compare_table_api_Stitch__s0 E1 w1 p0 (.slice a4 p0.length a5) p1 (.slice a6 p1.length a7) r7 aa S1) d (lb d) fun u9 a w S=>?_
 obtain ⟨a0,a2,_,rfl,_⟩:=S.mem.know (i:=0) (e:=fRep (rL (rL (rI .i64))) (u9) r7) d
 refine sN S fun a S=>?_
 refine lT (a9 _ _ ?_)
 obtain rfl:=tS h
 exact wp_ret (sRet (.slice a0 r7.length a2) S (rsl1 d (rvT (t:=4) (v:=.slice a0 r7.length a2) S d)) ⟨(.slice a0 r7.length a2),d,S.mem.sel [] [0] (by decide) d d⟩)
noncomputable def F_compare_Charts_2 (p0:api_Row) (p1:api_Row):Option Int:=
 (F_compare_cellTable p0.Cells p1.Cells).bind fun a2=>
 (idxO a2 0).bind fun a4=>
 (idxO a4 0).bind fun a0=>
 Option.bind (α:=Int) (
  if p0.Back != p1.Back then
   some (w64 (a0 + 1))
  else
   some a0) fun a5=>
 some a5
theorem c_compare_Charts_2 (E:Nat→Prop) (w0:World) (p0:api_Row) (v0:Value) (p1:api_Row) (v1:Value) (r:Int) (h:F_compare_Charts_2 p0 p1=some r) (S:St0 E [] w0 w0 [] [fRep r_api_Row (v0) p0,fRep r_api_Row (v1) p1]) :
 Calls Try.prog 53 #[v0,v1] w0 (Ret (X:=Unit) E [] w0 (fun _=>.int .i64 r) (fun _=>[]) (fun _=>[])):=by
 unfold F_compare_Charts_2 at h
 obtain ⟨u1,rfl,ar⟩:=S.know (i:=0) (e:=fRep r_api_Row (v0) p0) d
 have S:=S.learn (fRep (rL r_api_Stitch) u1 p0.Cells) ar
 obtain ⟨a0,a2,_,rfl,_⟩:=ar
 obtain ⟨u5,rfl,au⟩:=S.know (i:=2) (e:=fRep r_api_Row (v1) p1) d
 have S:=S.learn (fRep (rL r_api_Stitch) u5 p1.Cells) au
 obtain ⟨a4,a5,_,rfl,_⟩:=au
 refine sEnter (args:=[.agg #[.bool p0.Back,.slice a0 p0.Cells.length a2],.agg #[.bool p1.Back,.slice a4 p1.Cells.length a5]]) 23 Try.func53 d d (by simp) S (fun a S=>?_)
 refine sSeq (fun K9 ay=>sRegion (sBox (v:=.agg #[.bool p0.Back,.slice a0 p0.Cells.length a2]) S (wN d) d d [.bool p0.Back,.slice a0 p0.Cells.length a2] d d (lb d) fun a ae w S=>sBox (v:=.agg #[.bool p1.Back,.slice a4 p1.Cells.length a5]) S (wN d) d d [.bool p1.Back,.slice a4 p1.Cells.length a5] d d (lb d) fun a af w S=>sN S fun a S=>?_))
 refine lT (ay _ _ (sSeq (fun aH ag=>sRegion (sField (b:=ae) (off:=0) 1 1 S (wN d) d d d d d (lb d) fun a S=>sLoad1 1 (.slice a0 p0.Cells.length a2) S (wN d) d d d d d d (lb d) fun a S=>sField (b:=af) (off:=0) 1 1 S (wN d) d d d d d (lb d) fun a S=>sLoad1 0 (.slice a4 p1.Cells.length a5) S (wN d) d d d d d d (lb d) fun a S=>?_))))
 obtain ⟨a8,ah,h⟩:=bS h
 refine sCall (X:=Value) (f:=54) (vs:=[.slice a0 p0.Cells.length a2,.slice a4 p1.Cells.length a5]) (val:=c_compare_cellTable_val a8) (B':=fun _=>[]) (D':=c_compare_cellTable_D a8) [] [eBox af 87 [.bool p1.Back,.slice a4 p1.Cells.length a5],eBox ae 87 [.bool p0.Back,.slice a0 p0.Cells.length a2]] [fRep (rL r_api_Stitch) (.slice a0 p0.Cells.length a2) p0.Cells,fRep (rL r_api_Stitch) (.slice a4 p1.Cells.length a5) p1.Cells] [0,1] [1,0] S (wN d) d callee54 d (by decide) d d (fun E1 w1 S1=>c_compare_cellTable E1 w1 p0.Cells (.slice a0 p0.Cells.length a2) p1.Cells (.slice a4 p1.Cells.length a5) a8 ah S1) d (lb d) fun az a w S=>?_
 obtain ⟨ai,aj,_,rfl,_⟩:=S.mem.know (i:=0) (e:=fRep (rL (rL (rI .i64))) (az) a8) d
 obtain ⟨a9,ak,h⟩:=bS h
 obtain ⟨av,al,S⟩:=pIdx (P:=Try.prog) (r:=(rL (rI .i64))) (v:=.slice ai a8.length aj) (xs:=a8) (j:=0) 98 101 0 S Try.underlying98 d d ak
 refine sIdxV S (wN d) d d d al d (lb d) fun a S=>?_
 obtain ⟨aA,S⟩:=pLoad (r:=(rL (rI .i64))) (q:=av) (x:=a9) 0 S d
 obtain ⟨aa,ab,_,rfl,_⟩:=S.mem.know (i:=1) (e:=fRep (rL (rI .i64)) (aA) a9) d
 refine sLoadV1 (vq:=av) 0 (.slice aa a9.length ab) S (wN d) d d d d d (lb d) fun a S=>?_
 obtain ⟨a6,am,h⟩:=bS h
 obtain ⟨aw,ao,S⟩:=pIdx (P:=Try.prog) (r:=(rI .i64)) (v:=.slice aa a9.length ab) (xs:=a9) (j:=0) 101 3 1 S Try.underlying101 d d am
 refine sIdxV S (wN d) d d d ao d (lb d) fun a S=>?_
 obtain ⟨ax,S⟩:=pLoad (r:=(rI .i64)) (q:=aw) (x:=a6) 0 S d
 obtain rfl:ax=iv a6:=S.mem.know (i:=1) (e:=fRep (rI .i64) (ax) a6) d
 refine sLoadV1 (vq:=aw) 0 (iv a6) S (wN d) d d d d d (lb d) fun a S=>sN S fun a S=>?_
 refine lT (ag _ _ ?_)
 obtain ⟨aC,h,aG⟩:=bS h
 refine sCut (fun a w=>∃ ac,ac=aC∧St [] E [] w0 23 a w [(5,iv ac)] [] []) ?_ (fun a w hI=>?_)
 rotate_left
 ·obtain ⟨ac,rfl,S⟩:=hI
  have h:=aG
  try dsimp only at h
  refine sSeq (fun aI ap=>sRegion (sM S fun a S=>?_))
  refine sN S fun a S=>?_
  refine lT (ap _ _ ?_)
  obtain rfl:=tS h
  exact wp_ret (sRet (iv ac) S (rsl1 d (rvT (t:=4) (v:=iv ac) S d)) ⟨(),d,S.mem.sel [] [] (by decide) d d⟩)
 refine sSeq (fun aJ aq=>sRegion (sField (b:=ae) (off:=0) 0 0 S (wN d) d d d d d (lb d) fun a S=>sLoad1 1 (.bool p0.Back) S (wN d) d d d d d d (lb d) fun a S=>sField (b:=af) (off:=0) 0 0 S (wN d) d d d d d (lb d) fun a S=>sLoad1 0 (.bool p1.Back) S (wN d) d d d d d d (lb d) fun a S=>sBin _ S (wN d) d d d (bNeB _ _ _ _ Try.underlying4 p0.Back p1.Back) d (lb d) fun a S=>lT (aq _ _ ?_)))
 rcases iS h with ⟨a7,h⟩ | ⟨a7,h⟩
 rotate_left
 ·refine sCondF S d a7 ?_
  exact wp_skip (leafT (⟨a6,Option.some.inj h,S.fix [] [] (by decide) d d d⟩))
 refine sCondT S d a7 (sRegion (sM S fun a S=>?_))
 refine sBin _ S (wN d) d d d (bAdd _ _ _ _ a6 1) d (lb d) fun a S=>sN S fun a S=>?_
 exact lT (⟨w64 (a6 + 1),Option.some.inj h,S.fix [] [] (by decide) d d d⟩)
def anc_compare_table_api_Row__s0_0:List (List Nat):=[[],[],[0,1],[0,1,2],[],[],[],[5,6],[5,6,7],[],[9],[5,6,7,8,9,10],[5,6,7,8,9,10,11],[],[],[],[14,15],[14,15,16],[13,14,15,16,17],[5,6,7,8,9,10,11,12,13,14,15,16,17,18],[0,1,2,3,4,5,6,7,8,9,10,11,12,13,14,15,16,17,18,19],[0,1,2,3,4,5,6,7,8,9,10,11,12,13,14,15,16,17,18,19,20]]
def anc_compare_table_api_Row__s0_1:List (List Nat):=[[],[],[0,1],[0,1,2],[],[],[],[6],[5,6,7],[5,6,7,8],[],[5,6,7,8,9,10],[5,6,7,8,9,10,11],[],[],[],[14,15],[14,15,16],[13,14,15,16,17],[5,6,7,8,9,10,11,12,13,14,15,16,17,18],[0,1,2,3,4,5,6,7,8,9,10,11,12,13,14,15,16,17,18,19],[0,1,2,3,4,5,6,7,8,9,10,11,12,13,14,15,16,17,18,19,20]]
def anc_compare_table_api_Row__s0_2:List (List Nat):=[[],[],[0,1],[0,1,2],[],[],[],[6],[5,6,7],[5,6,7,8],[],[5,6,7,8,9,10],[5,6,7,8,9,10,11],[],[],[],[14,15],[14,15,16],[13,14,15,16,17],[5,6,7,8,9,10,11,12,13,14,15,16,17,18],[],[],[20,21],[20,21,22],[],[24],[20,21,22,23,24,25],[20,21,22,23,24,25,26],[],[],[],[29,30],[29,30,31],[13,14,15,16,17,18,28,29,30,31,32],[13,14,15,16,17,18,20,21,22,23,24,25,26,27,28,29,30,31,32,33],[],[],[36],[35,36,37],[35,36,37,38],[],[40],[35,36,37,38,39,40,41],[35,36,37,38,39,40,41,42],[],[],[],[45,46],[45,46,47],[],[],[49,50],[49,50,51],[13,14,15,16,17,18,28,29,30,31,32,33,44,45,46,47,48,49,50,51,52],[13,14,15,16,17,18,28,29,30,31,32,33,35,36,37,38,39,40,41,42,43,44,45,46,47,48,49,50,51,52,53],[5,6,7,8,9,10,11,12,13,14,15,16,17,18,19,20,21,22,23,24,25,26,27,28,29,30,31,32,33,34,35,36,37,38,39,40,41,42,43,44,45,46,47,48,49,50,51,52,53,54],[0,1,2,3,4,5,6,7,8,9,10,11,12,13,14,15,16,17,18,19,20,21,22,23,24,25,26,27,28,29,30,31,32,33,34,35,36,37,38,39,40,41,42,43,44,45,46,47,48,49,50,51,52,53,54,55],[0,1,2,3,4,5,6,7,8,9,10,11,12,13,14,15,16,17,18,19,20,21,22,23,24,25,26,27,28,29,30,31,32,33,34,35,36,37,38,39,40,41,42,43,44,45,46,47,48,49,50,51,52,53,54,55,56]]
noncomputable def compare_table_api_Row__s0_l1 (a4:Int) (p0:(List api_Row)) (p1:(List api_Row)) (al:List (List Int)):(Int × List Int)→Option ((Int × List Int) ⊕ List Int):=fun s0=>match s0 with
 | (a0,a2)=>
  if decide (0 ≤ a0) then
   Option.bind (α:=List Int) (
    Option.bind (α:=Bool) (
     if a4 == (p0.length:Int) then
      some (a0 == (p1.length:Int))
     else
      some false) fun am=>
    if am then
     some a2
    else
     if a4 == (p0.length:Int) then
      (idxO a2 (w64 (a0 + 1))).bind fun ao=>
      (idxO p1 a0).bind fun ap=>
      (F_compare_Charts_1 ap).bind fun aq=>
      (idxO a2 a0).bind fun ax=>
      (setO a2 a0 (w64 (ao + aq))).bind fun ar=>
      some ar
     else
      if a0 == (p1.length:Int) then
       (idxO al (w64 (a4 + 1))).bind fun a8=>
       (idxO a8 a0).bind fun a9=>
       (idxO p0 a4).bind fun aa=>
       (F_compare_Charts_1 aa).bind fun ab=>
       (idxO a2 a0).bind fun au=>
       (setO a2 a0 (w64 (a9 + ab))).bind fun ac=>
       some ac
      else
       (idxO al (w64 (a4 + 1))).bind fun a5=>
       (idxO a5 a0).bind fun ae=>
       (idxO p0 a4).bind fun a6=>
       (F_compare_Charts_1 a6).bind fun af=>
       (idxO a2 (w64 (a0 + 1))).bind fun ag=>
       (idxO p1 a0).bind fun a7=>
       (F_compare_Charts_1 a7).bind fun ah=>
       (idxO a5 (w64 (a0 + 1))).bind fun ai=>
       (F_compare_Charts_2 a6 a7).bind fun aj=>
       (idxO a2 a0).bind fun av=>
       (setO a2 a0 (min3 (w64 (ae + af)) (w64 (ag + ah)) (w64 (ai + aj)))).bind fun ak=>
       some ak) fun aw=>
   some (.inl (w64 (a0 - 1),aw))
  else
   some (.inr a2)
noncomputable def compare_table_api_Row__s0_l2 (p1:(List api_Row)) (p0:(List api_Row)):(List (List Int) × Int)→Option ((List (List Int) × Int) ⊕ List (List Int)):=fun s0=>match s0 with
 | (a2,a0)=>
  if decide (0 ≤ a0) then
   Option.bind (α:=List Int) (
    (makeO (w64 ((p1.length:Int) + 1)) (0:Int)).bind fun a4=>
    (idxO a2 a0).bind fun a7=>
    (whileO (compare_table_api_Row__s0_l1 a0 p0 p1 a2) ((p1.length:Int),a4)).bind fun a5=>
     some a5) fun a6=>
   some (.inl ((a2.set (a0).toNat a6),w64 (a0 - 1)))
  else
   some (.inr a2)
noncomputable def F_compare_table_api_Row__s0 (p0:(List api_Row)) (p1:(List api_Row)):Option (List (List Int)):=
 (makeO (w64 ((p0.length:Int) + 1)) ([]:(List Int))).bind fun m9=>
 Option.bind (α:=List (List Int)) (
  (whileO (compare_table_api_Row__s0_l2 p1 p0) (m9,(p0.length:Int))).bind fun a0=>
   some a0) fun a2=>
 some a2
def c_compare_table_api_Row__s0_val (r:(List (List Int))) (x:Value):Value:=x
def c_compare_table_api_Row__s0_D (r:(List (List Int))) (x:Value):List Fact:=[fRep (rL (rL (rI .i64))) x r]
theorem c_compare_table_api_Row__s0 (E:Nat→Prop) (w0:World) (p0:(List api_Row)) (v0:Value) (p1:(List api_Row)) (v1:Value) (r:(List (List Int))) (h:F_compare_table_api_Row__s0 p0 p1=some r) (S:St0 E [] w0 w0 [] [fRep (rL r_api_Row) (v0) p0,fRep (rL r_api_Row) (v1) p1]) :
 Calls Try.prog 51 #[v0,v1,.func (.func 52) #[] #[],.func (.func 53) #[] #[]] w0 (Ret (X:=Value) E [] w0 (c_compare_table_api_Row__s0_val r) (fun _=>[]) (c_compare_table_api_Row__s0_D r)):=by
 unfold F_compare_table_api_Row__s0 at h
 obtain ⟨aG,aH,_,rfl,_⟩:=S.know (i:=0) (e:=fRep (rL r_api_Row) (v0) p0) d
 obtain ⟨aA,aC,_,rfl,_⟩:=S.know (i:=1) (e:=fRep (rL r_api_Row) (v1) p1) d
 refine sEnter (args:=[.slice aG p0.length aH,.slice aA p1.length aC,.func (.func 52) #[] #[],.func (.func 53) #[] #[]]) 156 Try.func51 d d (by simp) S (fun a S=>?_)
 refine sSeq (fun K5 dH=>sRegion (sN S fun a S=>?_))
 refine lT (dH _ _ (sSeq (fun K6 dI=>sRegion (sM S fun a S=>?_))))
 refine sLen S (wN d) d Try.underlying40 d d (lb d) fun a S=>sBin _ S (wN d) d d d (bAdd _ _ _ _ (p0.length:Int) 1) d (lb d) fun a S=>?_
 obtain ⟨m9,cR,h⟩:=bS h
 refine sMake (r:=(rL (rI .i64))) (m:=w64 ((p0.length:Int) + 1)) (xs:=m9) (.slice none 0 0) ([]:(List Int)) 24 S (wN d) d Try.underlying98 d d (by decide) (fun E w=>rL_nil _ E w) d d cR d (lb d) fun a w aa ab S=>sN S fun a S=>?_
 refine lT (dI _ _ ?_)
 obtain ⟨dJ,h,dK⟩:=bS h
 refine sCut (fun a w=>∃ bv,bv=dJ∧St [] E [] w0 156 a w [(9,.slice aa bv.length ab)] [eRow (rL (rI .i64)) 101 (.slice aa bv.length ab) bv] []) ?_ (fun a w hI=>?_)
 rotate_left
 ·obtain ⟨bv,rfl,S⟩:=hI
  have h:=dK
  try dsimp only at h
  refine sSeq (fun dL cq=>sRegion (sM S fun a S=>?_))
  refine sN S fun a S=>?_
  refine lT (cq _ _ ?_)
  obtain rfl:=tS h
  have S:=S.shutR (r:=(rL (rI .i64))) (T:=101) (v:=.slice aa bv.length ab) (xs:=bv) 0 d
  exact wp_ret (sRet (.slice aa bv.length ab) S (rsl1 d (rvT (t:=8) (v:=.slice aa bv.length ab) S d)) ⟨(.slice aa bv.length ab),d,S.mem.sel [] [0] (by decide) d d⟩)
 refine sSeq (fun e0 cS=>sRegion (sM S fun a S=>?_))
 refine sLen S (wN d) d Try.underlying40 d d (lb d) fun a S=>sN S fun a S=>?_
 refine lT (cS _ _ (wp_block ?_))
 obtain ⟨e3,hl,dM⟩:=bS h
 refine sLoop hl (fun s0 a w=>match s0 with | (a6,a7)=>St [] E [] w0 156 a w [(0,.slice aG p0.length aH),(1,.slice aA p1.length aC),(2,.func (.func 52) #[] #[]),(3,.func (.func 53) #[] #[]),(9,.slice aa a6.length ab),(10,iv a7)] [eRow (rL (rI .i64)) 101 (.slice aa a6.length ab) a6] [fRep (rL r_api_Row) (.slice aG p0.length aH) p0,fRep (rL r_api_Row) (.slice aA p1.length aC) p1]) (S.fix [0] [0,1] (by decide) d d d) ?_
 clear hl h
 intro s0 a w c0 hI h cT
 obtain ⟨a6,a7⟩:=s0
 unfold compare_table_api_Row__s0_l2 at h
 dsimp only at h hI
 have S:=hI
 refine sSeq (fun e4 cU=>sSeq (fun e5 cV=>sRegion (sM S fun a S=>?_)))
 refine sBin _ S (wN d) d d d (bGe _ _ _ _ .i64 a7 0) d (lb d) fun a S=>lT (cV _ _ ?_)
 rcases iS h with ⟨cb,h⟩ | ⟨cb,h⟩
 rotate_left
 ·refine sCondF S d cb ?_
  obtain rfl:=tS h
  obtain rfl:=cT _ d
  have h:=dM
  try dsimp only at h
  exact wp_exit (xThen (xThen (xHit (leafT (⟨a6,Option.some.inj h,S.fix [0] [] (by decide) d d d⟩)))))
 refine sCondT S d cb (wp_skip (leafT (cU _ _ ?_)))
 obtain ⟨dN,h,dO⟩:=bS h
 refine sCut (fun a w=>∃ bi,bi=dN∧∃ bj,∃ bk,St [] E [] w0 156 a w [(0,.slice aG p0.length aH),(1,.slice aA p1.length aC),(2,.func (.func 52) #[] #[]),(3,.func (.func 53) #[] #[]),(9,.slice aa a6.length ab),(10,iv a7)] [eHole (rL (rI .i64)) 101 (.slice aa a6.length ab) a6 ((a7).toNat * (rL (rI .i64)).sz + 0) (.slice bj bi.length bk),eRow (rI .i64) 3 (.slice bj bi.length bk) bi] [fRep (rL r_api_Row) (.slice aG p0.length aH) p0,fRep (rL r_api_Row) (.slice aA p1.length aC) p1]) ?_ (fun a w hI=>?_)
 rotate_left
 ·obtain ⟨bi,rfl,bj,bk,S⟩:=hI
  have h:=dO
  try dsimp only at h
  refine sRegion (sM S fun a S=>?_)
  refine sBin _ S (wN d) d d d (bSub _ _ _ _ a7 1) d (lb d) fun a S=>sN S fun a S=>?_
  have S:=S.shutR (r:=(rI .i64)) (T:=3) (v:=.slice bj bi.length bk) (xs:=bi) 1 d
  have S:=S.closeHN (r:=(rL (rI .i64))) (T:=101) (xs:=a6) (y:=bi) (v:=.slice aa a6.length ab) (u:=.slice bj bi.length bk) (j:=a7) 0 d (S.mem.know (i:=0) (e:=fRep (rL (rI .i64)) (.slice bj bi.length bk) bi) d) d (scal_L _)
  rw [set_v a6 (a7).toNat bi aa ab] at S
  exact lT (⟨((a6.set (a7).toNat bi),w64 (a7 - 1)),(Option.some.inj h).symm,(S.fix [0] [1,2] (by decide) d d d)⟩)
 refine wp_block ?_
 refine sSeq (fun e6 cW=>sRegion (sM S fun a S=>?_))
 refine sM S fun a S=>?_
 refine sM S fun a S=>?_
 refine sLen S (wN d) d Try.underlying40 d d (lb d) fun a S=>sBin _ S (wN d) d d d (bAdd _ _ _ _ (p1.length:Int) 1) d (lb d) fun a S=>?_
 obtain ⟨dC,cX,h⟩:=bS h
 refine sMake (r:=(rI .i64)) (m:=w64 ((p1.length:Int) + 1)) (xs:=dC) (iv 0) (0:Int) 8 S (wN d) d Try.underlying101 d d (by decide) (fun _ _=>d) d d cX d (lb d) fun a w a4 a5 S=>?_
 obtain ⟨dP,ax,h⟩:=bS h
 obtain ⟨dQ,cY,cZ⟩:=pIdxR (P:=Try.prog) (r:=(rL (rI .i64))) (T:=101) (v:=.slice aa a6.length ab) (xs:=a6) (j:=a7) 98 101 1 S Try.underlying98 d d ax
 refine sIdxV S (wN d) d d d cY d (lb d) fun a S=>sStoreHE (r:=(rL (rI .i64))) (T:=101) (xs:=a6) (x:=dP) (v:=.slice aa a6.length ab) (vq:=dQ) (u:=.slice a4 dC.length a5) (j:=a7) 1 S cZ (wN d) d d d d ax d d d d fun a w S=>?_
 refine lT (cW _ _ (sSeq (fun e7 d0=>sRegion (sM S fun a S=>?_))))
 refine sLen S (wN d) d Try.underlying40 d d (lb d) fun a S=>sN S fun a S=>?_
 refine lT (d0 _ _ (wp_block ?_))
 obtain ⟨e8,hl,dR⟩:=bS h
 refine sLoop hl (fun s0 a w=>match s0 with | (a8,a9)=>St [] E [] w0 156 a w [(0,.slice aG p0.length aH),(1,.slice aA p1.length aC),(2,.func (.func 52) #[] #[]),(3,.func (.func 53) #[] #[]),(9,.slice aa a6.length ab),(10,iv a7),(11,iv a8)] [eHole (rL (rI .i64)) 101 (.slice aa a6.length ab) a6 ((a7).toNat * (rL (rI .i64)).sz + 0) (.slice a4 a9.length a5),eRow (rI .i64) 3 (.slice a4 a9.length a5) a9] [fRep (rL r_api_Row) (.slice aG p0.length aH) p0,fRep (rL r_api_Row) (.slice aA p1.length aC) p1]) (S.fix [0,1] [0,1] (by decide) d d d) ?_
 clear hl h
 intro s0 a w c0 hI h d1
 obtain ⟨a8,a9⟩:=s0
 unfold compare_table_api_Row__s0_l1 at h
 dsimp only at h hI
 have S:=hI
 refine sSeq (fun e9 d3=>sSeq (fun ea d4=>sRegion (sM S fun a S=>?_)))
 refine sBin _ S (wN d) d d d (bGe _ _ _ _ .i64 a8 0) d (lb d) fun a S=>lT (d4 _ _ ?_)
 rcases iS h with ⟨cc,h⟩ | ⟨cc,h⟩
 rotate_left
 ·refine sCondF S d cc ?_
  obtain rfl:=tS h
  obtain rfl:=d1 _ d
  have h:=dR
  try dsimp only at h
  exact wp_exit (xThen (xThen (xHit (leafB (leafT (⟨a9,Option.some.inj h,a4,a5,S.fix [0,1] [0,1] (by decide) d d d⟩))))))
 refine sCondT S d cc (wp_skip (leafT (d3 _ _ ?_)))
 obtain ⟨dS,h,dT⟩:=bS h
 refine sCut (fun a w=>∃ cp,cp=dS∧St [] E [] w0 156 a w [(0,.slice aG p0.length aH),(1,.slice aA p1.length aC),(2,.func (.func 52) #[] #[]),(3,.func (.func 53) #[] #[]),(9,.slice aa a6.length ab),(10,iv a7),(11,iv a8)] [eHole (rL (rI .i64)) 101 (.slice aa a6.length ab) a6 ((a7).toNat * (rL (rI .i64)).sz + 0) (.slice a4 cp.length a5),eRow (rI .i64) 3 (.slice a4 cp.length a5) cp] [fRep (rL r_api_Row) (.slice aG p0.length aH) p0,fRep (rL r_api_Row) (.slice aA p1.length aC) p1]) ?_ (fun a w hI=>?_)
 rotate_left
 ·obtain ⟨cp,rfl,S⟩:=hI
  have h:=dT
  try dsimp only at h
  refine sRegion (sM S fun a S=>?_)
  refine sBin _ S (wN d) d d d (bSub _ _ _ _ a8 1) d (lb d) fun a S=>sN S fun a S=>?_
  exact lT (⟨(w64 (a8 - 1),cp),(Option.some.inj h).symm,(S.fix [0,1] [0,1] (by decide) d d d)⟩)
 refine wp_block ?_
 refine wp_block ?_
 obtain ⟨dU,h,dV⟩:=bS h
 refine sCut (fun a w=>∃ d5,d5=dU∧St [] E [] w0 156 a w [(0,.slice aG p0.length aH),(1,.slice aA p1.length aC),(2,.func (.func 52) #[] #[]),(3,.func (.func 53) #[] #[]),(9,.slice aa a6.length ab),(10,iv a7),(11,iv a8),(92,.bool d5)] [eHole (rL (rI .i64)) 101 (.slice aa a6.length ab) a6 ((a7).toNat * (rL (rI .i64)).sz + 0) (.slice a4 a9.length a5),eRow (rI .i64) 3 (.slice a4 a9.length a5) a9] [fRep (rL r_api_Row) (.slice aG p0.length aH) p0,fRep (rL r_api_Row) (.slice aA p1.length aC) p1]) ?_ (fun a w hI=>?_)
 ·refine sRegion (sM S fun a S=>?_)
  refine sM S fun a S=>?_
  refine sLen S (wN d) d Try.underlying40 d d (lb d) fun a S=>sBin _ S (wN d) d d d (bEq _ _ _ _ .i64 a7 (p0.length:Int)) d (lb d) fun a S=>sM S fun a S=>?_
  rcases iS h with ⟨aL,h⟩ | ⟨aL,h⟩
  rotate_left
  ·refine sSkN 4 4 true 97 S d d aL d fun a S=>sPickF (.bool false) S (wN d) d d aL d d (lb d) fun a S=>sN S fun a S=>?_
   exact lT (⟨false,Option.some.inj h,S.fix [0,1] [0,1] (by decide) d d d⟩)
  refine sMove (iv a8) S (wG 4 true 97 d d d aL) (.inl d) d d (lb d) fun a S=>sMove (.slice aA p1.length aC) S (wG 4 true 97 d d d aL) (.inl d) d d (lb d) fun a S=>sLen S (wG 4 true 97 d d d aL) d Try.underlying40 d d (lb d) fun a S=>sBin _ S (wG 4 true 97 d d d aL) d d d (bEq _ _ _ _ .i64 a8 (p1.length:Int)) d (lb d) fun a S=>sPickT (.bool (a8 == (p1.length:Int))) S (wN d) d d aL d d (lb d) fun a S=>sN S fun a S=>?_
  exact lT (⟨a8 == (p1.length:Int),Option.some.inj h,S.fix [0,1] [0,1] (by decide) d d d⟩)
 obtain ⟨d5,rfl,S⟩:=hI
 have h:=dV
 try dsimp only at h
 rcases iS h with ⟨cd,h⟩ | ⟨cd,h⟩
 ·refine sCondT S d cd ?_
  exact wp_skip (leafB (leafB (leafT (⟨a9,Option.some.inj h,S.fix [0,1] [0,1] (by decide) d d d⟩))))
 refine sCondF S d cd (sSeq (fun eb d6=>sRegion (sM S fun a S=>?_)))
 refine sM S fun a S=>?_
 refine sLen S (wN d) d Try.underlying40 d d (lb d) fun a S=>sBin _ S (wN d) d d d (bEq _ _ _ _ .i64 a7 (p0.length:Int)) d (lb d) fun a S=>sN S fun a S=>?_
 refine lT (d6 _ _ ?_)
 rcases iS h with ⟨ce,h⟩ | ⟨ce,h⟩
 ·refine sCondT S d ce ?_
  obtain ⟨bB,cr,h⟩:=bS h
  obtain ⟨bo,d7,h⟩:=bS h
  obtain ⟨bC,d8,h⟩:=bS h
  obtain ⟨ec,d9,h⟩:=bS h
  obtain ⟨dD,ct,h⟩:=bS h
  obtain ⟨dE,da,db⟩:=pIdxH (P:=Try.prog) (r:=(rL (rI .i64))) (T:=101) (v:=.slice aa a6.length ab) (xs:=a6) (j:=a7) 98 101 0 S Try.underlying98 d d ax
  obtain ⟨dF,dc,de⟩:=pIdxH (P:=Try.prog) (r:=(rL (rI .i64))) (T:=101) (v:=.slice aa a6.length ab) (xs:=a6) (j:=a7) 98 101 0 S Try.underlying98 d d ax
  obtain ⟨dG,df,dg⟩:=pIdxR (P:=Try.prog) (r:=(rI .i64)) (T:=3) (v:=.slice a4 a9.length a5) (xs:=a9) (j:=w64 (a8 + 1)) 101 3 1 S Try.underlying101 d d cr
  obtain ⟨dh,di,S⟩:=pIdx (P:=Try.prog) (r:=r_api_Row) (v:=.slice aA p1.length aC) (xs:=p1) (j:=a8) 40 87 1 S Try.underlying40 d d d7
  obtain ⟨dW,S⟩:=pLoad (r:=r_api_Row) (q:=dh) (x:=bo) 0 S d
  obtain ⟨dj,rfl,bD⟩:=S.mem.know (i:=1) (e:=fRep r_api_Row (dW) bo) d
  have S:=S.learn (fRep (rL r_api_Stitch) dj bo.Cells) bD
  obtain ⟨bf,bg,_,rfl,_⟩:=bD
  obtain ⟨cf,cu,cv⟩:=pIdxR (P:=Try.prog) (r:=(rI .i64)) (T:=3) (v:=.slice a4 a9.length a5) (xs:=a9) (j:=a8) 101 3 1 S Try.underlying101 d d d9
  refine sDraw (nf:=[21]) (W:=[(0,108,.slice aa a6.length ab),(1,109,iv a7),(2,110,dE),(3,111,.slice a4 a9.length a5),(4,112,iv a8),(5,113,.slice aa a6.length ab),(6,114,iv a7),(7,115,dF),(8,116,.slice a4 a9.length a5),(9,117,iv a8),(10,118,iv (w64 (a8 + 1))),(11,119,dG),(12,120,iv bB),(13,121,.func (.func 52) #[] #[]),(14,122,.slice aA p1.length aC),(15,123,iv a8),(16,124,dh),(17,125,.agg #[.bool bo.Back,.slice bf bo.Cells.length bg]),(18,126,iv bC),(19,127,iv (w64 (bB + bC))),(20,128,cf)]) d S ?_
  refine node_by (A:=anc_compare_table_api_Row__s0_0) 22 (by kernel_rfl) (by kernel_rfl) (by kernel_rfl) (by kernel_rfl) (by kernel_rfl) [0,1,2,3,4,5,6,7,8,9,10,11,12,13,14,15,16,17,18,19,20] (by kernel_rfl) (by decide) (by decide) (fF ?_ (fF ?_ (fF ?_ (fF ?_ (fF ?_ (fF ?_ (fF ?_ (fF ?_ (fF ?_ (fF ?_ (fF ?_ (fF ?_ (fF ?_ (fF ?_ (fF ?_ (fF ?_ (fF ?_ (fF ?_ (fF ?_ (fF ?_ (fF ?_ (fN ?_ (trivial))))))))))))))))))))))) [] (fun q hq=>by cases hq) (fun hY=>absurd (hY 21 (by decide)) (by decide))
  ·exact fM 0 none d d d d (.inl d) d d d
  ·exact fM 1 none d d d d (.inl d) d d d
  ·refine fJ [(108,_),(109,_)] 2 [some 0,some 1] fun G a w S=>?_
   exact sIdxV S (wN d) d d d da d (lb d) fun a S=>leafL ⟨d,S⟩
  ·refine fJ [(110,_)] 3 [some 2] fun G a w S=>?_
   exact sLoadHE (r:=(rL (rI .i64))) (T:=101) (xs:=a6) (u:=.slice a4 a9.length a5) (v:=.slice aa a6.length ab) (vq:=dE) (j:=a7) 0 S db (wN d) d d d d d (lb d) fun a S=>leafL ⟨d,S⟩
  ·exact fM 4 none d d d d (.inl d) d d d
  ·exact fM 5 none d d d d (.inl d) d d d
  ·exact fM 6 none d d d d (.inl d) d d d
  ·refine fJ [(113,_),(114,_)] 7 [some 5,some 6] fun G a w S=>?_
   exact sIdxV S (wN d) d d d dc d (lb d) fun a S=>leafL ⟨d,S⟩
  ·refine fJ [(115,_)] 8 [some 7] fun G a w S=>?_
   exact sLoadHE (r:=(rL (rI .i64))) (T:=101) (xs:=a6) (u:=.slice a4 a9.length a5) (v:=.slice aa a6.length ab) (vq:=dF) (j:=a7) 0 S de (wN d) d d d d d (lb d) fun a S=>leafL ⟨d,S⟩
  ·exact fM 9 none d d d d (.inl d) d d d
  ·refine fJ [(117,_)] 10 [some 9] fun G a w S=>?_
   exact sBin _ S (wN d) d d d (bAdd _ _ _ _ a8 1) d (lb d) fun a S=>leafL ⟨d,S⟩
  ·refine fJ [(116,_),(118,_)] 11 [some 8,some 10] fun G a w S=>?_
   exact sIdxV S (wN d) d d d df d (lb d) fun a S=>leafL ⟨d,S⟩
  ·refine fJ [(119,_)] 12 [some 11] fun G a w S=>?_
   exact sLoadR (r:=(rI .i64)) (T:=3) (xs:=a9) (x:=bB) (v:=.slice a4 a9.length a5) (vq:=dG) (j:=w64 (a8 + 1)) 1 (iv bB) S dg (wN d) d d d cr (fun _ _ _ h=>h) (scal_I _) d d (lb d) fun a S=>leafL ⟨d,S⟩
  ·exact fM 13 none d d d d (.inl d) d d d
  ·exact fM 14 none d d d d (.inl d) d d d
  ·exact fM 15 none d d d d (.inl d) d d d
  ·refine fJ [(122,_),(123,_)] 16 [some 14,some 15] fun G a w S=>?_
   exact sIdxV S (wN d) d d d di d (lb d) fun a S=>leafL ⟨d,S⟩
  ·refine fJ [(124,_)] 17 [some 16] fun G a w S=>?_
   exact sLoadVN (vq:=dh) 1 [.bool bo.Back,.slice bf bo.Cells.length bg] S (wN d) d d d d d d (lb d) fun a S=>leafL ⟨d,S⟩
  ·refine fJ [(121,_),(125,_)] 18 [some 13,some 17] fun G a w S=>?_
   have S1:=S.mem
   refine sCallVQ (X:=Unit) (g:=52) (vs:=[.agg #[.bool bo.Back,.slice bf bo.Cells.length bg]]) (caps:=[]) (val:=fun _=>iv bC) S (wN d) d d callee52 d (S1.quiet [2] d) (fun E1 w1 S1=>c_compare_Charts_1 E1 w1 bo (.agg #[.bool bo.Back,.slice bf bo.Cells.length bg]) bC d8 S1) d (lb d) fun _ a w S=>?_
   exact leafL ⟨d,S⟩
  ·refine fJ [(120,_),(126,_)] 19 [some 12,some 18] fun G a w S=>?_
   exact sBin _ S (wN d) d d d (bAdd _ _ _ _ bB bC) d (lb d) fun a S=>leafL ⟨d,S⟩
  ·refine fJ [(111,_),(112,_)] 20 [some 3,some 4] fun G a w S=>?_
   exact sIdxV S (wN d) d d d cu d (lb d) fun a S=>leafL ⟨d,S⟩
  refine ⟨_,[(127,iv (w64 (bB + bC))),(128,cf)],d,(srcs_of [some 19,some 20] d d d),fun G a w S=>?_⟩
  refine sStoreR (r:=(rI .i64)) (T:=3) (xs:=a9) (ys:=dD) (y:=(w64 (bB + bC))) (v:=.slice a4 a9.length a5) (vq:=cf) (u:=iv (w64 (bB + bC))) (j:=a8) 1 S cv (wN d) d d d d d ct d d fun a w S=>leafL ⟨d,_,_,.inr ⟨[],d,S,hz_of d,?_⟩⟩
  refine node_by (A:=anc_compare_table_api_Row__s0_0) 22 (by kernel_rfl) (by kernel_rfl) (by kernel_rfl) (by kernel_rfl) (by kernel_rfl) [0,1,2,3,4,5,6,7,8,9,10,11,12,13,14,15,16,17,18,19,20] (by kernel_rfl) (by decide) (by decide) (fD 21 (fD 21 (fD 21 (fD 21 (fD 21 (fD 21 (fD 21 (fD 21 (fD 21 (fD 21 (fD 21 (fD 21 (fD 21 (fD 21 (fD 21 (fD 21 (fD 21 (fD 21 (fD 21 (fD 21 (fD 21 (fY (trivial))))))))))))))))))))))) [(0,.slice aG p0.length aH),(1,.slice aA p1.length aC),(2,.func (.func 52) #[] #[]),(3,.func (.func 53) #[] #[]),(9,.slice aa a6.length ab),(10,iv a7),(11,iv a8)] (fin_of [none,none,none,none,none,none,none] d (by kernel_rfl) (by kernel_rfl)) (fun _ a w S=>?_)
  rw [setO_v ct a4 a5] at S
  exact leafB (leafB (leafT (⟨dD,Option.some.inj h,S.fix [1,0] [4,5] (by decide) d d d⟩)))
 refine sCondF S d ce (sSeq (fun dX cw=>sRegion (sM S fun a S=>?_)))
 refine sM S fun a S=>?_
 refine sLen S (wN d) d Try.underlying40 d d (lb d) fun a S=>sBin _ S (wN d) d d d (bEq _ _ _ _ .i64 a8 (p1.length:Int)) d (lb d) fun a S=>sN S fun a S=>?_
 refine lT (cw _ _ ?_)
 rcases iS h with ⟨bp,h⟩ | ⟨bp,h⟩
 ·refine sCondT S d bp ?_
  obtain ⟨bq,br,h⟩:=bS h
  obtain ⟨aI,cx,h⟩:=bS h
  obtain ⟨av,cy,h⟩:=bS h
  obtain ⟨aJ,bE,h⟩:=bS h
  obtain ⟨dY,cz,h⟩:=bS h
  obtain ⟨cA,bF,h⟩:=bS h
  obtain ⟨cg,bG,bH⟩:=pIdxH (P:=Try.prog) (r:=(rL (rI .i64))) (T:=101) (v:=.slice aa a6.length ab) (xs:=a6) (j:=a7) 98 101 0 S Try.underlying98 d d ax
  obtain ⟨ci,cB,cC⟩:=pIdxH (P:=Try.prog) (r:=(rL (rI .i64))) (T:=101) (v:=.slice aa a6.length ab) (xs:=a6) (j:=w64 (a7 + 1)) 98 101 0 S Try.underlying98 d d br
  obtain ⟨bw,bI,S⟩:=pIdx (P:=Try.prog) (r:=r_api_Row) (v:=.slice aG p0.length aH) (xs:=p0) (j:=a7) 40 87 0 S Try.underlying40 d d cy
  obtain ⟨dk,S⟩:=pLoad (r:=r_api_Row) (q:=bw) (x:=av) 0 S d
  obtain ⟨dl,rfl,bJ⟩:=S.mem.know (i:=1) (e:=fRep r_api_Row (dk) av) d
  have S:=S.learn (fRep (rL r_api_Stitch) dl av.Cells) bJ
  obtain ⟨ay,az,_,rfl,_⟩:=bJ
  refine sDraw (nf:=[9,21]) (W:=[(0,134,.slice aa a6.length ab),(1,135,iv a7),(2,136,cg),(3,137,.slice a4 a9.length a5),(4,138,iv a8),(5,139,.slice aa a6.length ab),(6,140,iv a7),(7,141,iv (w64 (a7 + 1))),(8,142,ci),(10,144,iv a8),(13,147,.func (.func 52) #[] #[]),(14,148,.slice aG p0.length aH),(15,149,iv a7),(16,150,bw),(17,151,.agg #[.bool av.Back,.slice ay av.Cells.length az]),(18,152,iv aJ)]) d S ?_
  refine node_by (A:=anc_compare_table_api_Row__s0_1) 22 (by kernel_rfl) (by kernel_rfl) (by kernel_rfl) (by kernel_rfl) (by kernel_rfl) [0,1,2,3,4,5,6,7,8,10,13,14,15,16,17,18] (by kernel_rfl) (by decide) (by decide) (fF ?_ (fF ?_ (fF ?_ (fF ?_ (fF ?_ (fF ?_ (fF ?_ (fF ?_ (fF ?_ (fN ?_ (fF ?_ (fE 9 (fE 9 (fF ?_ (fF ?_ (fF ?_ (fF ?_ (fF ?_ (fF ?_ (fE 9 (fE 9 (aB 21 0 9 (by decide) (trivial))))))))))))))))))))))) [] (fun q hq=>by cases hq) (fun hY=>absurd (hY 9 (by decide)) (by decide))
  ·exact fM 0 none d d d d (.inl d) d d d
  ·exact fM 1 none d d d d (.inl d) d d d
  ·refine fJ [(134,_),(135,_)] 2 [some 0,some 1] fun G a w S=>?_
   exact sIdxV S (wN d) d d d bG d (lb d) fun a S=>leafL ⟨d,S⟩
  ·refine fJ [(136,_)] 3 [some 2] fun G a w S=>?_
   exact sLoadHE (r:=(rL (rI .i64))) (T:=101) (xs:=a6) (u:=.slice a4 a9.length a5) (v:=.slice aa a6.length ab) (vq:=cg) (j:=a7) 0 S bH (wN d) d d d d d (lb d) fun a S=>leafL ⟨d,S⟩
  ·exact fM 4 none d d d d (.inl d) d d d
  ·exact fM 5 none d d d d (.inl d) d d d
  ·exact fM 6 none d d d d (.inl d) d d d
  ·refine fJ [(140,_)] 7 [some 6] fun G a w S=>?_
   exact sBin _ S (wN d) d d d (bAdd _ _ _ _ a7 1) d (lb d) fun a S=>leafL ⟨d,S⟩
  ·refine fJ [(139,_),(141,_)] 8 [some 5,some 7] fun G a w S=>?_
   exact sIdxV S (wN d) d d d cB d (lb d) fun a S=>leafL ⟨d,S⟩
  ·refine ⟨_,[(142,ci)],d,(srcs_of [some 8] d d d),fun G a w S=>?_⟩
   refine sLoadHo (r:=(rL (rI .i64))) (T:=101) (xs:=a6) (x:=bq) (p:=(a7).toNat * (rL (rI .i64)).sz + 0) (u:=.slice a4 a9.length a5) (v:=.slice aa a6.length ab) (vq:=ci) (j:=w64 (a7 + 1)) 0 S cC (wN d) d d d br (idx_next (by decide) (hole_lim 0 S.mem d) ax br) (scal_L _) d d (lb d) fun a dm S=>?_
   obtain ⟨bK,bL,_,rfl,_⟩:=S.mem.know (i:=0) (e:=fRep (rL (rI .i64)) (dm) bq) d
   obtain ⟨cj,cD,S⟩:=pIdx (P:=Try.prog) (r:=(rI .i64)) (v:=.slice bK bq.length bL) (xs:=bq) (j:=a8) 101 3 0 S Try.underlying101 d d cx
   obtain ⟨cE,S⟩:=pLoad (r:=(rI .i64)) (q:=cj) (x:=aI) 0 S d
   obtain rfl:cE=iv aI:=S.mem.know (i:=1) (e:=fRep (rI .i64) (cE) aI) d
   obtain ⟨ck,cF,cG⟩:=pIdxR (P:=Try.prog) (r:=(rI .i64)) (T:=3) (v:=.slice a4 a9.length a5) (xs:=a9) (j:=a8) 101 3 1 S Try.underlying101 d d cz
   refine leafL ⟨d,_,_,.inl ⟨143,(.slice bK bq.length bL),[(11,145,cj),(12,146,iv aI),(19,153,iv (w64 (aI + aJ))),(20,154,ck)],d,S,hz_of d,?_⟩⟩
   refine node_by (A:=anc_compare_table_api_Row__s0_1) 22 (by kernel_rfl) (by kernel_rfl) (by kernel_rfl) (by kernel_rfl) (by kernel_rfl) [11,12,19,20,9,0,1,2,3,4,5,6,7,8,10,13,14,15,16,17,18] (by kernel_rfl) (by decide) (by decide) (fF ?_ (fF ?_ (fF ?_ (fF ?_ (fF ?_ (fD 9 (fD 9 (fD 9 (fD 9 (fY (fF ?_ (fF ?_ (fF ?_ (fF ?_ (fF ?_ (fF ?_ (fF ?_ (fF ?_ (fF ?_ (fF ?_ (fF ?_ (fN ?_ (trivial))))))))))))))))))))))) [] (fun q hq=>by cases hq) (fun hY=>absurd (hY 21 (by decide)) (by decide))
   ·exact fM 5 none d d d d (.inl d) d d d
   ·exact fM 6 none d d d d (.inl d) d d d
   ·refine fJ [(134,_),(135,_)] 7 [some 5,some 6] fun G a w S=>?_
    exact sIdxV S (wN d) d d d bG d (lb d) fun a S=>leafL ⟨d,S⟩
   ·refine fJ [(136,_)] 8 [some 7] fun G a w S=>?_
    exact sLoadHE (r:=(rL (rI .i64))) (T:=101) (xs:=a6) (u:=.slice a4 a9.length a5) (v:=.slice aa a6.length ab) (vq:=cg) (j:=a7) 0 S bH (wN d) d d d d d (lb d) fun a S=>leafL ⟨d,S⟩
   ·exact fM 9 none d d d d (.inl d) d d d
   ·exact fM 14 none d d d d (.inl d) d d d
   ·refine fJ [(143,_),(144,_)] 0 [some 4,some 14] fun G a w S=>?_
    exact sIdxV S (wN d) d d d cD d (lb d) fun a S=>leafL ⟨d,S⟩
   ·refine fJ [(145,_)] 1 [some 0] fun G a w S=>?_
    exact sLoadV1 (vq:=cj) 0 (iv aI) S (wN d) d d d d d (lb d) fun a S=>leafL ⟨d,S⟩
   ·exact fM 15 none d d d d (.inl d) d d d
   ·exact fM 16 none d d d d (.inl d) d d d
   ·exact fM 17 none d d d d (.inl d) d d d
   ·refine fJ [(148,_),(149,_)] 18 [some 16,some 17] fun G a w S=>?_
    exact sIdxV S (wN d) d d d bI d (lb d) fun a S=>leafL ⟨d,S⟩
   ·refine fJ [(150,_)] 19 [some 18] fun G a w S=>?_
    exact sLoadVN (vq:=bw) 5 [.bool av.Back,.slice ay av.Cells.length az] S (wN d) d d d d d d (lb d) fun a S=>leafL ⟨d,S⟩
   ·refine fJ [(147,_),(151,_)] 20 [some 15,some 19] fun G a w S=>?_
    have S1:=S.mem
    refine sCallVQ (X:=Unit) (g:=52) (vs:=[.agg #[.bool av.Back,.slice ay av.Cells.length az]]) (caps:=[]) (val:=fun _=>iv aJ) S (wN d) d d callee52 d (S1.quiet [6] d) (fun E1 w1 S1=>c_compare_Charts_1 E1 w1 av (.agg #[.bool av.Back,.slice ay av.Cells.length az]) aJ bE S1) d (lb d) fun _ a w S=>?_
    exact leafL ⟨d,S⟩
   ·refine fJ [(146,_),(152,_)] 2 [some 1,some 20] fun G a w S=>?_
    exact sBin _ S (wN d) d d d (bAdd _ _ _ _ aI aJ) d (lb d) fun a S=>leafL ⟨d,S⟩
   ·refine fJ [(137,_),(138,_)] 3 [some 8,some 9] fun G a w S=>?_
    exact sIdxV S (wN d) d d d cF d (lb d) fun a S=>leafL ⟨d,S⟩
   refine ⟨_,[(153,iv (w64 (aI + aJ))),(154,ck)],d,(srcs_of [some 2,some 3] d d d),fun G a w S=>?_⟩
   refine sStoreR (r:=(rI .i64)) (T:=3) (xs:=a9) (ys:=cA) (y:=(w64 (aI + aJ))) (v:=.slice a4 a9.length a5) (vq:=ck) (u:=iv (w64 (aI + aJ))) (j:=a8) 1 S cG (wN d) d d d d d bF d d fun a w S=>leafL ⟨d,_,_,.inr ⟨[],d,S,hz_of d,?_⟩⟩
   refine node_by (A:=anc_compare_table_api_Row__s0_1) 22 (by kernel_rfl) (by kernel_rfl) (by kernel_rfl) (by kernel_rfl) (by kernel_rfl) [11,12,19,20,9,0,1,2,3,4,5,6,7,8,10,13,14,15,16,17,18] (by kernel_rfl) (by decide) (by decide) (fD 21 (fD 21 (fD 21 (fD 21 (fD 21 (fD 21 (fD 21 (fD 21 (fD 21 (fY (fD 21 (fD 21 (fD 21 (fD 21 (fD 21 (fD 21 (fD 21 (fD 21 (fD 21 (fD 21 (fD 21 (fY (trivial))))))))))))))))))))))) [(0,.slice aG p0.length aH),(1,.slice aA p1.length aC),(2,.func (.func 52) #[] #[]),(3,.func (.func 53) #[] #[]),(9,.slice aa a6.length ab),(10,iv a7),(11,iv a8)] (fin_of [none,none,none,none,none,none,none] d (by kernel_rfl) (by kernel_rfl)) (fun _ a w S=>?_)
   rw [setO_v bF a4 a5] at S
   exact leafB (leafB (leafT (⟨cA,Option.some.inj h,S.fix [1,0] [8,9] (by decide) d d d⟩)))
  ·exact fM 9 none d d d d (.inl d) d d d
  ·exact fM 10 none d d d d (.inl d) d d d
  ·exact fM 11 none d d d d (.inl d) d d d
  ·exact fM 12 none d d d d (.inl d) d d d
  ·refine fJ [(148,_),(149,_)] 13 [some 11,some 12] fun G a w S=>?_
   exact sIdxV S (wN d) d d d bI d (lb d) fun a S=>leafL ⟨d,S⟩
  ·refine fJ [(150,_)] 14 [some 13] fun G a w S=>?_
   exact sLoadVN (vq:=bw) 1 [.bool av.Back,.slice ay av.Cells.length az] S (wN d) d d d d d d (lb d) fun a S=>leafL ⟨d,S⟩
  refine fJ [(147,_),(151,_)] 15 [some 10,some 14] fun G a w S=>?_
  have S1:=S.mem
  refine sCallVQ (X:=Unit) (g:=52) (vs:=[.agg #[.bool av.Back,.slice ay av.Cells.length az]]) (caps:=[]) (val:=fun _=>iv aJ) S (wN d) d d callee52 d (S1.quiet [2] d) (fun E1 w1 S1=>c_compare_Charts_1 E1 w1 av (.agg #[.bool av.Back,.slice ay av.Cells.length az]) aJ bE S1) d (lb d) fun _ a w S=>?_
  exact leafL ⟨d,S⟩
 refine sCondF S d bp ?_
 obtain ⟨au,aw,h⟩:=bS h
 obtain ⟨af,bM,h⟩:=bS h
 obtain ⟨a0,bN,h⟩:=bS h
 obtain ⟨ag,aM,h⟩:=bS h
 obtain ⟨ac,aK,h⟩:=bS h
 obtain ⟨a2,bO,h⟩:=bS h
 obtain ⟨ae,aO,h⟩:=bS h
 obtain ⟨ah,bP,h⟩:=bS h
 obtain ⟨ai,aP,h⟩:=bS h
 obtain ⟨dZ,bQ,h⟩:=bS h
 obtain ⟨bx,bh,h⟩:=bS h
 obtain ⟨bl,aQ,aR⟩:=pIdxH (P:=Try.prog) (r:=(rL (rI .i64))) (T:=101) (v:=.slice aa a6.length ab) (xs:=a6) (j:=a7) 98 101 0 S Try.underlying98 d d ax
 obtain ⟨bt,bR,bT⟩:=pIdxH (P:=Try.prog) (r:=(rL (rI .i64))) (T:=101) (v:=.slice aa a6.length ab) (xs:=a6) (j:=w64 (a7 + 1)) 98 101 0 S Try.underlying98 d d aw
 obtain ⟨b1,aS,S⟩:=pIdx (P:=Try.prog) (r:=r_api_Row) (v:=.slice aG p0.length aH) (xs:=p0) (j:=a7) 40 87 0 S Try.underlying40 d d bN
 obtain ⟨dn,S⟩:=pLoad (r:=r_api_Row) (q:=b1) (x:=a0) 0 S d
 obtain ⟨dp,rfl,bU⟩:=S.mem.know (i:=1) (e:=fRep r_api_Row (dn) a0) d
 have S:=S.learn (fRep (rL r_api_Stitch) dp a0.Cells) bU
 obtain ⟨aj,ak,_,rfl,_⟩:=bU
 obtain ⟨bm,aT,aU⟩:=pIdxH (P:=Try.prog) (r:=(rL (rI .i64))) (T:=101) (v:=.slice aa a6.length ab) (xs:=a6) (j:=a7) 98 101 0 S Try.underlying98 d d ax
 obtain ⟨bn,aV,aW⟩:=pIdxR (P:=Try.prog) (r:=(rI .i64)) (T:=3) (v:=.slice a4 a9.length a5) (xs:=a9) (j:=w64 (a8 + 1)) 101 3 1 S Try.underlying101 d d aK
 obtain ⟨ba,aX,S⟩:=pIdx (P:=Try.prog) (r:=r_api_Row) (v:=.slice aA p1.length aC) (xs:=p1) (j:=a8) 40 87 5 S Try.underlying40 d d bO
 obtain ⟨dr,S⟩:=pLoad (r:=r_api_Row) (q:=ba) (x:=a2) 0 S d
 obtain ⟨dt,rfl,bV⟩:=S.mem.know (i:=1) (e:=fRep r_api_Row (dr) a2) d
 have S:=S.learn (fRep (rL r_api_Stitch) dt a2.Cells) bV
 obtain ⟨al,am,_,rfl,_⟩:=bV
 obtain ⟨bu,bW,bX⟩:=pIdxH (P:=Try.prog) (r:=(rL (rI .i64))) (T:=101) (v:=.slice aa a6.length ab) (xs:=a6) (j:=w64 (a7 + 1)) 98 101 0 S Try.underlying98 d d aw
 obtain ⟨bb,aZ,S⟩:=pIdx (P:=Try.prog) (r:=r_api_Row) (v:=.slice aG p0.length aH) (xs:=p0) (j:=a7) 40 87 8 S Try.underlying40 d d bN
 obtain ⟨du,S⟩:=pLoad (r:=r_api_Row) (q:=bb) (x:=a0) 0 S d
 obtain ⟨dv,rfl,bY⟩:=S.mem.know (i:=1) (e:=fRep r_api_Row (du) a0) d
 have S:=S.learn (fRep (rL r_api_Stitch) dv a0.Cells) bY
 obtain ⟨ao,ap,_,rfl,_⟩:=bY
 obtain ⟨bc,b0,S⟩:=pIdx (P:=Try.prog) (r:=r_api_Row) (v:=.slice aA p1.length aC) (xs:=p1) (j:=a8) 40 87 13 S Try.underlying40 d d bO
 obtain ⟨dw,S⟩:=pLoad (r:=r_api_Row) (q:=bc) (x:=a2) 0 S d
 obtain ⟨dx,rfl,bZ⟩:=S.mem.know (i:=1) (e:=fRep r_api_Row (dw) a2) d
 have S:=S.learn (fRep (rL r_api_Stitch) dx a2.Cells) bZ
 obtain ⟨aq,ar,_,rfl,_⟩:=bZ
 refine sDraw (nf:=[9,39,57]) (W:=[(0,35,.slice aa a6.length ab),(1,36,iv a7),(2,37,bl),(3,38,.slice a4 a9.length a5),(4,39,iv a8),(5,40,.slice aa a6.length ab),(6,41,iv a7),(7,42,iv (w64 (a7 + 1))),(8,43,bt),(10,45,iv a8),(13,48,.func (.func 52) #[] #[]),(14,49,.slice aG p0.length aH),(15,50,iv a7),(16,51,b1),(17,52,.agg #[.bool a0.Back,.slice aj a0.Cells.length ak]),(18,53,iv ag),(20,55,.slice aa a6.length ab),(21,56,iv a7),(22,57,bm),(23,58,.slice a4 a9.length a5),(24,59,iv a8),(25,60,iv (w64 (a8 + 1))),(26,61,bn),(27,62,iv ac),(28,63,.func (.func 52) #[] #[]),(29,64,.slice aA p1.length aC),(30,65,iv a8),(31,66,ba),(32,67,.agg #[.bool a2.Back,.slice al a2.Cells.length am]),(33,68,iv ae),(34,69,iv (w64 (ac + ae))),(35,70,.slice aa a6.length ab),(36,71,iv a7),(37,72,iv (w64 (a7 + 1))),(38,73,bu),(40,75,iv a8),(41,76,iv (w64 (a8 + 1))),(44,79,.func (.func 53) #[] #[]),(45,80,.slice aG p0.length aH),(46,81,iv a7),(47,82,bb),(48,83,.agg #[.bool a0.Back,.slice ao a0.Cells.length ap]),(49,84,.slice aA p1.length aC),(50,85,iv a8),(51,86,bc),(52,87,.agg #[.bool a2.Back,.slice aq a2.Cells.length ar]),(53,88,iv ai)]) d S ?_
 refine node_by (A:=anc_compare_table_api_Row__s0_2) 58 (by kernel_rfl) (by kernel_rfl) (by kernel_rfl) (by kernel_rfl) (by kernel_rfl) [0,1,2,3,4,5,6,7,8,10,13,14,15,16,17,18,20,21,22,23,24,25,26,27,28,29,30,31,32,33,34,35,36,37,38,40,41,44,45,46,47,48,49,50,51,52,53] (by kernel_rfl) (by decide) (by decide) (fF ?_ (fF ?_ (fF ?_ (fF ?_ (fF ?_ (fF ?_ (fF ?_ (fF ?_ (fF ?_ (fN ?_ (fF ?_ (fE 9 (fE 9 (fF ?_ (fF ?_ (fF ?_ (fF ?_ (fF ?_ (fF ?_ (fE 9 (fF ?_ (fF ?_ (fF ?_ (fF ?_ (fF ?_ (fF ?_ (fF ?_ (fF ?_ (fF ?_ (fF ?_ (fF ?_ (fF ?_ (fF ?_ (fF ?_ (fF ?_ (fF ?_ (fF ?_ (fF ?_ (fF ?_ (fN ?_ (fF ?_ (fF ?_ (fE 39 (fE 39 (fF ?_ (fF ?_ (fF ?_ (fF ?_ (fF ?_ (fF ?_ (fF ?_ (fF ?_ (fF ?_ (fF ?_ (fE 39 (fE 9 (fE 9 (aB 57 0 9 (by decide) (trivial))))))))))))))))))))))))))))))))))))))))))))))))))))))))))) [] (fun q hq=>by cases hq) (fun hY=>absurd (hY 9 (by decide)) (by decide))
 ·exact fM 0 none d d d d (.inl d) d d d
 ·exact fM 1 none d d d d (.inl d) d d d
 ·refine fJ [(35,_),(36,_)] 2 [some 0,some 1] fun G a w S=>?_
  exact sIdxV S (wN d) d d d aQ d (lb d) fun a S=>leafL ⟨d,S⟩
 ·refine fJ [(37,_)] 3 [some 2] fun G a w S=>?_
  exact sLoadHE (r:=(rL (rI .i64))) (T:=101) (xs:=a6) (u:=.slice a4 a9.length a5) (v:=.slice aa a6.length ab) (vq:=bl) (j:=a7) 0 S aR (wN d) d d d d d (lb d) fun a S=>leafL ⟨d,S⟩
 ·exact fM 4 none d d d d (.inl d) d d d
 ·exact fM 5 none d d d d (.inl d) d d d
 ·exact fM 6 none d d d d (.inl d) d d d
 ·refine fJ [(41,_)] 7 [some 6] fun G a w S=>?_
  exact sBin _ S (wN d) d d d (bAdd _ _ _ _ a7 1) d (lb d) fun a S=>leafL ⟨d,S⟩
 ·refine fJ [(40,_),(42,_)] 8 [some 5,some 7] fun G a w S=>?_
  exact sIdxV S (wN d) d d d bR d (lb d) fun a S=>leafL ⟨d,S⟩
 ·refine ⟨_,[(43,bt)],d,(srcs_of [some 8] d d d),fun G a w S=>?_⟩
  refine sLoadHo (r:=(rL (rI .i64))) (T:=101) (xs:=a6) (x:=au) (p:=(a7).toNat * (rL (rI .i64)).sz + 0) (u:=.slice a4 a9.length a5) (v:=.slice aa a6.length ab) (vq:=bt) (j:=w64 (a7 + 1)) 0 S bT (wN d) d d d aw (idx_next (by decide) (hole_lim 0 S.mem d) ax aw) (scal_L _) d d (lb d) fun a dy S=>?_
  obtain ⟨c1,c2,_,rfl,_⟩:=S.mem.know (i:=0) (e:=fRep (rL (rI .i64)) (dy) au) d
  obtain ⟨bz,c3,S⟩:=pIdx (P:=Try.prog) (r:=(rI .i64)) (v:=.slice c1 au.length c2) (xs:=au) (j:=a8) 101 3 0 S Try.underlying101 d d bM
  obtain ⟨cH,S⟩:=pLoad (r:=(rI .i64)) (q:=bz) (x:=af) 0 S d
  obtain rfl:cH=iv af:=S.mem.know (i:=1) (e:=fRep (rI .i64) (cH) af) d
  refine leafL ⟨d,_,_,.inl ⟨44,(.slice c1 au.length c2),[(11,46,bz),(12,47,iv af),(19,54,iv (w64 (af + ag)))],d,S,hz_of d,?_⟩⟩
  refine node_by (A:=anc_compare_table_api_Row__s0_2) 58 (by kernel_rfl) (by kernel_rfl) (by kernel_rfl) (by kernel_rfl) (by kernel_rfl) [11,12,19,9,0,1,2,3,4,5,6,7,8,10,13,14,15,16,17,18,20,21,22,23,24,25,26,27,28,29,30,31,32,33,34,35,36,37,38,40,41,44,45,46,47,48,49,50,51,52,53] (by kernel_rfl) (by decide) (by decide) (fF ?_ (fF ?_ (fF ?_ (fF ?_ (fF ?_ (fD 9 (fD 9 (fD 9 (fD 9 (fY (fF ?_ (fF ?_ (fF ?_ (fF ?_ (fF ?_ (fF ?_ (fF ?_ (fF ?_ (fF ?_ (fF ?_ (fF ?_ (fF ?_ (fF ?_ (fF ?_ (fF ?_ (fF ?_ (fF ?_ (fF ?_ (fF ?_ (fF ?_ (fF ?_ (fF ?_ (fF ?_ (fF ?_ (fF ?_ (fF ?_ (fF ?_ (fF ?_ (fF ?_ (fN ?_ (fF ?_ (fF ?_ (fE 39 (fE 39 (fF ?_ (fF ?_ (fF ?_ (fF ?_ (fF ?_ (fF ?_ (fF ?_ (fF ?_ (fF ?_ (fF ?_ (fE 39 (fE 39 (fE 39 (aB 57 0 39 (by decide) (trivial))))))))))))))))))))))))))))))))))))))))))))))))))))))))))) [] (fun q hq=>by cases hq) (fun hY=>absurd (hY 39 (by decide)) (by decide))
  ·exact fM 4 none d d d d (.inl d) d d d
  ·exact fM 5 none d d d d (.inl d) d d d
  ·refine fJ [(35,_),(36,_)] 6 [some 4,some 5] fun G a w S=>?_
   exact sIdxV S (wN d) d d d aQ d (lb d) fun a S=>leafL ⟨d,S⟩
  ·refine fJ [(37,_)] 7 [some 6] fun G a w S=>?_
   exact sLoadHE (r:=(rL (rI .i64))) (T:=101) (xs:=a6) (u:=.slice a4 a9.length a5) (v:=.slice aa a6.length ab) (vq:=bl) (j:=a7) 0 S aR (wN d) d d d d d (lb d) fun a S=>leafL ⟨d,S⟩
  ·exact fM 8 none d d d d (.inl d) d d d
  ·exact fM 13 none d d d d (.inl d) d d d
  ·refine fJ [(44,_),(45,_)] 0 [some 3,some 13] fun G a w S=>?_
   exact sIdxV S (wN d) d d d c3 d (lb d) fun a S=>leafL ⟨d,S⟩
  ·refine fJ [(46,_)] 1 [some 0] fun G a w S=>?_
   exact sLoadV1 (vq:=bz) 0 (iv af) S (wN d) d d d d d (lb d) fun a S=>leafL ⟨d,S⟩
  ·exact fM 14 none d d d d (.inl d) d d d
  ·exact fM 15 none d d d d (.inl d) d d d
  ·exact fM 16 none d d d d (.inl d) d d d
  ·refine fJ [(49,_),(50,_)] 17 [some 15,some 16] fun G a w S=>?_
   exact sIdxV S (wN d) d d d aS d (lb d) fun a S=>leafL ⟨d,S⟩
  ·refine fJ [(51,_)] 18 [some 17] fun G a w S=>?_
   exact sLoadVN (vq:=b1) 17 [.bool a0.Back,.slice aj a0.Cells.length ak] S (wN d) d d d d d d (lb d) fun a S=>leafL ⟨d,S⟩
  ·refine fJ [(48,_),(52,_)] 19 [some 14,some 18] fun G a w S=>?_
   have S1:=S.mem
   refine sCallVQ (X:=Unit) (g:=52) (vs:=[.agg #[.bool a0.Back,.slice aj a0.Cells.length ak]]) (caps:=[]) (val:=fun _=>iv ag) S (wN d) d d callee52 d (S1.quiet [18] d) (fun E1 w1 S1=>c_compare_Charts_1 E1 w1 a0 (.agg #[.bool a0.Back,.slice aj a0.Cells.length ak]) ag aM S1) d (lb d) fun _ a w S=>?_
   exact leafL ⟨d,S⟩
  ·refine fJ [(47,_),(53,_)] 2 [some 1,some 19] fun G a w S=>?_
   exact sBin _ S (wN d) d d d (bAdd _ _ _ _ af ag) d (lb d) fun a S=>leafL ⟨d,S⟩
  ·exact fM 20 none d d d d (.inl d) d d d
  ·exact fM 21 none d d d d (.inl d) d d d
  ·refine fJ [(55,_),(56,_)] 22 [some 20,some 21] fun G a w S=>?_
   exact sIdxV S (wN d) d d d aT d (lb d) fun a S=>leafL ⟨d,S⟩
  ·refine fJ [(57,_)] 23 [some 22] fun G a w S=>?_
   exact sLoadHE (r:=(rL (rI .i64))) (T:=101) (xs:=a6) (u:=.slice a4 a9.length a5) (v:=.slice aa a6.length ab) (vq:=bm) (j:=a7) 0 S aU (wN d) d d d d d (lb d) fun a S=>leafL ⟨d,S⟩
  ·exact fM 24 none d d d d (.inl d) d d d
  ·refine fJ [(59,_)] 25 [some 24] fun G a w S=>?_
   exact sBin _ S (wN d) d d d (bAdd _ _ _ _ a8 1) d (lb d) fun a S=>leafL ⟨d,S⟩
  ·refine fJ [(58,_),(60,_)] 26 [some 23,some 25] fun G a w S=>?_
   exact sIdxV S (wN d) d d d aV d (lb d) fun a S=>leafL ⟨d,S⟩
  ·refine fJ [(61,_)] 27 [some 26] fun G a w S=>?_
   exact sLoadR (r:=(rI .i64)) (T:=3) (xs:=a9) (x:=ac) (v:=.slice a4 a9.length a5) (vq:=bn) (j:=w64 (a8 + 1)) 1 (iv ac) S aW (wN d) d d d aK (fun _ _ _ h=>h) (scal_I _) d d (lb d) fun a S=>leafL ⟨d,S⟩
  ·exact fM 28 none d d d d (.inl d) d d d
  ·exact fM 29 none d d d d (.inl d) d d d
  ·exact fM 30 none d d d d (.inl d) d d d
  ·refine fJ [(64,_),(65,_)] 31 [some 29,some 30] fun G a w S=>?_
   exact sIdxV S (wN d) d d d aX d (lb d) fun a S=>leafL ⟨d,S⟩
  ·refine fJ [(66,_)] 32 [some 31] fun G a w S=>?_
   exact sLoadVN (vq:=ba) 13 [.bool a2.Back,.slice al a2.Cells.length am] S (wN d) d d d d d d (lb d) fun a S=>leafL ⟨d,S⟩
  ·refine fJ [(63,_),(67,_)] 33 [some 28,some 32] fun G a w S=>?_
   have S1:=S.mem
   refine sCallVQ (X:=Unit) (g:=52) (vs:=[.agg #[.bool a2.Back,.slice al a2.Cells.length am]]) (caps:=[]) (val:=fun _=>iv ae) S (wN d) d d callee52 d (S1.quiet [14] d) (fun E1 w1 S1=>c_compare_Charts_1 E1 w1 a2 (.agg #[.bool a2.Back,.slice al a2.Cells.length am]) ae aO S1) d (lb d) fun _ a w S=>?_
   exact leafL ⟨d,S⟩
  ·refine fJ [(62,_),(68,_)] 34 [some 27,some 33] fun G a w S=>?_
   exact sBin _ S (wN d) d d d (bAdd _ _ _ _ ac ae) d (lb d) fun a S=>leafL ⟨d,S⟩
  ·exact fM 35 none d d d d (.inl d) d d d
  ·exact fM 36 none d d d d (.inl d) d d d
  ·refine fJ [(71,_)] 37 [some 36] fun G a w S=>?_
   exact sBin _ S (wN d) d d d (bAdd _ _ _ _ a7 1) d (lb d) fun a S=>leafL ⟨d,S⟩
  ·refine fJ [(70,_),(72,_)] 38 [some 35,some 37] fun G a w S=>?_
   exact sIdxV S (wN d) d d d bW d (lb d) fun a S=>leafL ⟨d,S⟩
  ·refine ⟨_,[(73,bu)],d,(srcs_of [some 38] d d d),fun G a w S=>?_⟩
   refine sLoadHo (r:=(rL (rI .i64))) (T:=101) (xs:=a6) (x:=au) (p:=(a7).toNat * (rL (rI .i64)).sz + 0) (u:=.slice a4 a9.length a5) (v:=.slice aa a6.length ab) (vq:=bu) (j:=w64 (a7 + 1)) 0 S bX (wN d) d d d aw (idx_next (by decide) (hole_lim 0 S.mem d) ax aw) (scal_L _) d d (lb d) fun a dz S=>?_
   obtain ⟨c4,c5,_,rfl,_⟩:=S.mem.know (i:=0) (e:=fRep (rL (rI .i64)) (dz) au) d
   obtain ⟨cl,cI,S⟩:=pIdx (P:=Try.prog) (r:=(rI .i64)) (v:=.slice c4 au.length c5) (xs:=au) (j:=w64 (a8 + 1)) 101 3 0 S Try.underlying101 d d bP
   obtain ⟨cJ,S⟩:=pLoad (r:=(rI .i64)) (q:=cl) (x:=ah) 0 S d
   obtain rfl:cJ=iv ah:=S.mem.know (i:=1) (e:=fRep (rI .i64) (cJ) ah) d
   obtain ⟨cm,cK,cL⟩:=pIdxR (P:=Try.prog) (r:=(rI .i64)) (T:=3) (v:=.slice a4 a9.length a5) (xs:=a9) (j:=a8) 101 3 1 S Try.underlying101 d d bQ
   refine leafL ⟨d,_,_,.inl ⟨74,(.slice c4 au.length c5),[(42,77,cl),(43,78,iv ah),(54,89,iv (w64 (ah + ai))),(55,90,iv (min3 (w64 (af + ag)) (w64 (ac + ae)) (w64 (ah + ai)))),(56,91,cm)],d,S,hz_of d,?_⟩⟩
   refine node_by (A:=anc_compare_table_api_Row__s0_2) 58 (by kernel_rfl) (by kernel_rfl) (by kernel_rfl) (by kernel_rfl) (by kernel_rfl) [42,43,54,55,56,39,11,12,19,9,0,1,2,3,4,5,6,7,8,10,13,14,15,16,17,18,20,21,22,23,24,25,26,27,28,29,30,31,32,33,34,35,36,37,38,40,41,44,45,46,47,48,49,50,51,52,53] (by kernel_rfl) (by decide) (by decide) (fF ?_ (fF ?_ (fF ?_ (fF ?_ (fF ?_ (fD 9 (fD 9 (fD 9 (fD 9 (fY (fF ?_ (fF ?_ (fF ?_ (fF ?_ (fF ?_ (fF ?_ (fF ?_ (fF ?_ (fF ?_ (fF ?_ (fF ?_ (fF ?_ (fF ?_ (fF ?_ (fF ?_ (fF ?_ (fF ?_ (fF ?_ (fF ?_ (fF ?_ (fF ?_ (fF ?_ (fF ?_ (fF ?_ (fF ?_ (fD 39 (fD 39 (fD 39 (fD 39 (fY (fF ?_ (fF ?_ (fF ?_ (fF ?_ (fF ?_ (fF ?_ (fF ?_ (fF ?_ (fF ?_ (fF ?_ (fF ?_ (fF ?_ (fF ?_ (fF ?_ (fF ?_ (fF ?_ (fF ?_ (fN ?_ (trivial))))))))))))))))))))))))))))))))))))))))))))))))))))))))))) [] (fun q hq=>by cases hq) (fun hY=>absurd (hY 57 (by decide)) (by decide))
   ·exact fM 10 none d d d d (.inl d) d d d
   ·exact fM 11 none d d d d (.inl d) d d d
   ·refine fJ [(35,_),(36,_)] 12 [some 10,some 11] fun G a w S=>?_
    exact sIdxV S (wN d) d d d aQ d (lb d) fun a S=>leafL ⟨d,S⟩
   ·refine fJ [(37,_)] 13 [some 12] fun G a w S=>?_
    exact sLoadHE (r:=(rL (rI .i64))) (T:=101) (xs:=a6) (u:=.slice a4 a9.length a5) (v:=.slice aa a6.length ab) (vq:=bl) (j:=a7) 0 S aR (wN d) d d d d d (lb d) fun a S=>leafL ⟨d,S⟩
   ·exact fM 14 none d d d d (.inl d) d d d
   ·exact fM 19 none d d d d (.inl d) d d d
   ·refine fJ [(44,_),(45,_)] 6 [some 9,some 19] fun G a w S=>?_
    exact sIdxV S (wN d) d d d c3 d (lb d) fun a S=>leafL ⟨d,S⟩
   ·refine fJ [(46,_)] 7 [some 6] fun G a w S=>?_
    exact sLoadV1 (vq:=bz) 4 (iv af) S (wN d) d d d d d (lb d) fun a S=>leafL ⟨d,S⟩
   ·exact fM 20 none d d d d (.inl d) d d d
   ·exact fM 21 none d d d d (.inl d) d d d
   ·exact fM 22 none d d d d (.inl d) d d d
   ·refine fJ [(49,_),(50,_)] 23 [some 21,some 22] fun G a w S=>?_
    exact sIdxV S (wN d) d d d aS d (lb d) fun a S=>leafL ⟨d,S⟩
   ·refine fJ [(51,_)] 24 [some 23] fun G a w S=>?_
    exact sLoadVN (vq:=b1) 21 [.bool a0.Back,.slice aj a0.Cells.length ak] S (wN d) d d d d d d (lb d) fun a S=>leafL ⟨d,S⟩
   ·refine fJ [(48,_),(52,_)] 25 [some 20,some 24] fun G a w S=>?_
    have S1:=S.mem
    refine sCallVQ (X:=Unit) (g:=52) (vs:=[.agg #[.bool a0.Back,.slice aj a0.Cells.length ak]]) (caps:=[]) (val:=fun _=>iv ag) S (wN d) d d callee52 d (S1.quiet [22] d) (fun E1 w1 S1=>c_compare_Charts_1 E1 w1 a0 (.agg #[.bool a0.Back,.slice aj a0.Cells.length ak]) ag aM S1) d (lb d) fun _ a w S=>?_
    exact leafL ⟨d,S⟩
   ·refine fJ [(47,_),(53,_)] 8 [some 7,some 25] fun G a w S=>?_
    exact sBin _ S (wN d) d d d (bAdd _ _ _ _ af ag) d (lb d) fun a S=>leafL ⟨d,S⟩
   ·exact fM 26 none d d d d (.inl d) d d d
   ·exact fM 27 none d d d d (.inl d) d d d
   ·refine fJ [(55,_),(56,_)] 28 [some 26,some 27] fun G a w S=>?_
    exact sIdxV S (wN d) d d d aT d (lb d) fun a S=>leafL ⟨d,S⟩
   ·refine fJ [(57,_)] 29 [some 28] fun G a w S=>?_
    exact sLoadHE (r:=(rL (rI .i64))) (T:=101) (xs:=a6) (u:=.slice a4 a9.length a5) (v:=.slice aa a6.length ab) (vq:=bm) (j:=a7) 0 S aU (wN d) d d d d d (lb d) fun a S=>leafL ⟨d,S⟩
   ·exact fM 30 none d d d d (.inl d) d d d
   ·refine fJ [(59,_)] 31 [some 30] fun G a w S=>?_
    exact sBin _ S (wN d) d d d (bAdd _ _ _ _ a8 1) d (lb d) fun a S=>leafL ⟨d,S⟩
   ·refine fJ [(58,_),(60,_)] 32 [some 29,some 31] fun G a w S=>?_
    exact sIdxV S (wN d) d d d aV d (lb d) fun a S=>leafL ⟨d,S⟩
   ·refine fJ [(61,_)] 33 [some 32] fun G a w S=>?_
    exact sLoadR (r:=(rI .i64)) (T:=3) (xs:=a9) (x:=ac) (v:=.slice a4 a9.length a5) (vq:=bn) (j:=w64 (a8 + 1)) 1 (iv ac) S aW (wN d) d d d aK (fun _ _ _ h=>h) (scal_I _) d d (lb d) fun a S=>leafL ⟨d,S⟩
   ·exact fM 34 none d d d d (.inl d) d d d
   ·exact fM 35 none d d d d (.inl d) d d d
   ·exact fM 36 none d d d d (.inl d) d d d
   ·refine fJ [(64,_),(65,_)] 37 [some 35,some 36] fun G a w S=>?_
    exact sIdxV S (wN d) d d d aX d (lb d) fun a S=>leafL ⟨d,S⟩
   ·refine fJ [(66,_)] 38 [some 37] fun G a w S=>?_
    exact sLoadVN (vq:=ba) 17 [.bool a2.Back,.slice al a2.Cells.length am] S (wN d) d d d d d d (lb d) fun a S=>leafL ⟨d,S⟩
   ·refine fJ [(63,_),(67,_)] 39 [some 34,some 38] fun G a w S=>?_
    have S1:=S.mem
    refine sCallVQ (X:=Unit) (g:=52) (vs:=[.agg #[.bool a2.Back,.slice al a2.Cells.length am]]) (caps:=[]) (val:=fun _=>iv ae) S (wN d) d d callee52 d (S1.quiet [18] d) (fun E1 w1 S1=>c_compare_Charts_1 E1 w1 a2 (.agg #[.bool a2.Back,.slice al a2.Cells.length am]) ae aO S1) d (lb d) fun _ a w S=>?_
    exact leafL ⟨d,S⟩
   ·refine fJ [(62,_),(68,_)] 40 [some 33,some 39] fun G a w S=>?_
    exact sBin _ S (wN d) d d d (bAdd _ _ _ _ ac ae) d (lb d) fun a S=>leafL ⟨d,S⟩
   ·exact fM 45 none d d d d (.inl d) d d d
   ·refine fJ [(75,_)] 46 [some 45] fun G a w S=>?_
    exact sBin _ S (wN d) d d d (bAdd _ _ _ _ a8 1) d (lb d) fun a S=>leafL ⟨d,S⟩
   ·refine fJ [(74,_),(76,_)] 0 [some 5,some 46] fun G a w S=>?_
    exact sIdxV S (wN d) d d d cI d (lb d) fun a S=>leafL ⟨d,S⟩
   ·refine fJ [(77,_)] 1 [some 0] fun G a w S=>?_
    exact sLoadV1 (vq:=cl) 0 (iv ah) S (wN d) d d d d d (lb d) fun a S=>leafL ⟨d,S⟩
   ·exact fM 47 none d d d d (.inl d) d d d
   ·exact fM 48 none d d d d (.inl d) d d d
   ·exact fM 49 none d d d d (.inl d) d d d
   ·refine fJ [(80,_),(81,_)] 50 [some 48,some 49] fun G a w S=>?_
    exact sIdxV S (wN d) d d d aZ d (lb d) fun a S=>leafL ⟨d,S⟩
   ·refine fJ [(82,_)] 51 [some 50] fun G a w S=>?_
    exact sLoadVN (vq:=bb) 13 [.bool a0.Back,.slice ao a0.Cells.length ap] S (wN d) d d d d d d (lb d) fun a S=>leafL ⟨d,S⟩
   ·exact fM 52 none d d d d (.inl d) d d d
   ·exact fM 53 none d d d d (.inl d) d d d
   ·refine fJ [(84,_),(85,_)] 54 [some 52,some 53] fun G a w S=>?_
    exact sIdxV S (wN d) d d d b0 d (lb d) fun a S=>leafL ⟨d,S⟩
   ·refine fJ [(86,_)] 55 [some 54] fun G a w S=>?_
    exact sLoadVN (vq:=bc) 9 [.bool a2.Back,.slice aq a2.Cells.length ar] S (wN d) d d d d d d (lb d) fun a S=>leafL ⟨d,S⟩
   ·refine fJ [(79,_),(83,_),(87,_)] 56 [some 47,some 51,some 55] fun G a w S=>?_
    have S1:=S.mem
    refine sCallVQ (X:=Unit) (g:=53) (vs:=[.agg #[.bool a0.Back,.slice ao a0.Cells.length ap],.agg #[.bool a2.Back,.slice aq a2.Cells.length ar]]) (caps:=[]) (val:=fun _=>iv ai) S (wN d) d d callee53 d (S1.quiet [14,10] d) (fun E1 w1 S1=>c_compare_Charts_2 E1 w1 a0 (.agg #[.bool a0.Back,.slice ao a0.Cells.length ap]) a2 (.agg #[.bool a2.Back,.slice aq a2.Cells.length ar]) ai aP S1) d (lb d) fun _ a w S=>?_
    exact leafL ⟨d,S⟩
   ·refine fJ [(78,_),(88,_)] 2 [some 1,some 56] fun G a w S=>?_
    exact sBin _ S (wN d) d d d (bAdd _ _ _ _ ah ai) d (lb d) fun a S=>leafL ⟨d,S⟩
   ·refine fJ [(54,_),(69,_),(89,_)] 3 [some 8,some 40,some 2] fun G a w S=>?_
    exact sMin3 (p:=w64 (af + ag)) (q:=w64 (ac + ae)) (r:=w64 (ah + ai)) S (wN d) d d d d d (lb d) fun a S=>leafL ⟨d,S⟩
   ·refine fJ [(38,_),(39,_)] 4 [some 13,some 14] fun G a w S=>?_
    exact sIdxV S (wN d) d d d cK d (lb d) fun a S=>leafL ⟨d,S⟩
   refine ⟨_,[(90,iv (min3 (w64 (af + ag)) (w64 (ac + ae)) (w64 (ah + ai)))),(91,cm)],d,(srcs_of [some 3,some 4] d d d),fun G a w S=>?_⟩
   refine sStoreR (r:=(rI .i64)) (T:=3) (xs:=a9) (ys:=bx) (y:=(min3 (w64 (af + ag)) (w64 (ac + ae)) (w64 (ah + ai)))) (v:=.slice a4 a9.length a5) (vq:=cm) (u:=iv (min3 (w64 (af + ag)) (w64 (ac + ae)) (w64 (ah + ai)))) (j:=a8) 1 S cL (wN d) d d d d d bh d d fun a w S=>leafL ⟨d,_,_,.inr ⟨[],d,S,hz_of d,?_⟩⟩
   refine node_by (A:=anc_compare_table_api_Row__s0_2) 58 (by kernel_rfl) (by kernel_rfl) (by kernel_rfl) (by kernel_rfl) (by kernel_rfl) [42,43,54,55,56,39,11,12,19,9,0,1,2,3,4,5,6,7,8,10,13,14,15,16,17,18,20,21,22,23,24,25,26,27,28,29,30,31,32,33,34,35,36,37,38,40,41,44,45,46,47,48,49,50,51,52,53] (by kernel_rfl) (by decide) (by decide) (fD 57 (fD 57 (fD 57 (fD 57 (fD 57 (fD 57 (fD 57 (fD 57 (fD 57 (fY (fD 57 (fD 57 (fD 57 (fD 57 (fD 57 (fD 57 (fD 57 (fD 57 (fD 57 (fD 57 (fD 57 (fD 57 (fD 57 (fD 57 (fD 57 (fD 57 (fD 57 (fD 57 (fD 57 (fD 57 (fD 57 (fD 57 (fD 57 (fD 57 (fD 57 (fD 57 (fD 57 (fD 57 (fD 57 (fY (fD 57 (fD 57 (fD 57 (fD 57 (fD 57 (fD 57 (fD 57 (fD 57 (fD 57 (fD 57 (fD 57 (fD 57 (fD 57 (fD 57 (fD 57 (fD 57 (fD 57 (fY (trivial))))))))))))))))))))))))))))))))))))))))))))))))))))))))))) [(0,.slice aG p0.length aH),(1,.slice aA p1.length aC),(2,.func (.func 52) #[] #[]),(3,.func (.func 53) #[] #[]),(9,.slice aa a6.length ab),(10,iv a7),(11,iv a8)] (fin_of [none,none,none,none,none,none,none] d (by kernel_rfl) (by kernel_rfl)) (fun _ a w S=>?_)
   rw [setO_v bh a4 a5] at S
   exact leafB (leafB (leafT (⟨bx,Option.some.inj h,S.fix [1,0] [24,25] (by decide) d d d⟩)))
  ·exact fM 39 none d d d d (.inl d) d d d
  ·refine fJ [(75,_)] 40 [some 39] fun G a w S=>?_
   exact sBin _ S (wN d) d d d (bAdd _ _ _ _ a8 1) d (lb d) fun a S=>leafL ⟨d,S⟩
  ·exact fM 41 none d d d d (.inl d) d d d
  ·exact fM 42 none d d d d (.inl d) d d d
  ·exact fM 43 none d d d d (.inl d) d d d
  ·refine fJ [(80,_),(81,_)] 44 [some 42,some 43] fun G a w S=>?_
   exact sIdxV S (wN d) d d d aZ d (lb d) fun a S=>leafL ⟨d,S⟩
  ·refine fJ [(82,_)] 45 [some 44] fun G a w S=>?_
   exact sLoadVN (vq:=bb) 9 [.bool a0.Back,.slice ao a0.Cells.length ap] S (wN d) d d d d d d (lb d) fun a S=>leafL ⟨d,S⟩
  ·exact fM 46 none d d d d (.inl d) d d d
  ·exact fM 47 none d d d d (.inl d) d d d
  ·refine fJ [(84,_),(85,_)] 48 [some 46,some 47] fun G a w S=>?_
   exact sIdxV S (wN d) d d d b0 d (lb d) fun a S=>leafL ⟨d,S⟩
  ·refine fJ [(86,_)] 49 [some 48] fun G a w S=>?_
   exact sLoadVN (vq:=bc) 5 [.bool a2.Back,.slice aq a2.Cells.length ar] S (wN d) d d d d d d (lb d) fun a S=>leafL ⟨d,S⟩
  refine fJ [(79,_),(83,_),(87,_)] 50 [some 41,some 45,some 49] fun G a w S=>?_
  have S1:=S.mem
  refine sCallVQ (X:=Unit) (g:=53) (vs:=[.agg #[.bool a0.Back,.slice ao a0.Cells.length ap],.agg #[.bool a2.Back,.slice aq a2.Cells.length ar]]) (caps:=[]) (val:=fun _=>iv ai) S (wN d) d d callee53 d (S1.quiet [10,6] d) (fun E1 w1 S1=>c_compare_Charts_2 E1 w1 a0 (.agg #[.bool a0.Back,.slice ao a0.Cells.length ap]) a2 (.agg #[.bool a2.Back,.slice aq a2.Cells.length ar]) ai aP S1) d (lb d) fun _ a w S=>?_
  exact leafL ⟨d,S⟩
 ·exact fM 9 none d d d d (.inl d) d d d
 ·exact fM 10 none d d d d (.inl d) d d d
 ·exact fM 11 none d d d d (.inl d) d d d
 ·exact fM 12 none d d d d (.inl d) d d d
 ·refine fJ [(49,_),(50,_)] 13 [some 11,some 12] fun G a w S=>?_
  exact sIdxV S (wN d) d d d aS d (lb d) fun a S=>leafL ⟨d,S⟩
 ·refine fJ [(51,_)] 14 [some 13] fun G a w S=>?_
  exact sLoadVN (vq:=b1) 13 [.bool a0.Back,.slice aj a0.Cells.length ak] S (wN d) d d d d d d (lb d) fun a S=>leafL ⟨d,S⟩
 ·refine fJ [(48,_),(52,_)] 15 [some 10,some 14] fun G a w S=>?_
  have S1:=S.mem
  refine sCallVQ (X:=Unit) (g:=52) (vs:=[.agg #[.bool a0.Back,.slice aj a0.Cells.length ak]]) (caps:=[]) (val:=fun _=>iv ag) S (wN d) d d callee52 d (S1.quiet [14] d) (fun E1 w1 S1=>c_compare_Charts_1 E1 w1 a0 (.agg #[.bool a0.Back,.slice aj a0.Cells.length ak]) ag aM S1) d (lb d) fun _ a w S=>?_
  exact leafL ⟨d,S⟩
 ·exact fM 16 none d d d d (.inl d) d d d
 ·exact fM 17 none d d d d (.inl d) d d d
 ·refine fJ [(55,_),(56,_)] 18 [some 16,some 17] fun G a w S=>?_
  exact sIdxV S (wN d) d d d aT d (lb d) fun a S=>leafL ⟨d,S⟩
 ·refine fJ [(57,_)] 19 [some 18] fun G a w S=>?_
  exact sLoadHE (r:=(rL (rI .i64))) (T:=101) (xs:=a6) (u:=.slice a4 a9.length a5) (v:=.slice aa a6.length ab) (vq:=bm) (j:=a7) 0 S aU (wN d) d d d d d (lb d) fun a S=>leafL ⟨d,S⟩
 ·exact fM 20 none d d d d (.inl d) d d d
 ·refine fJ [(59,_)] 21 [some 20] fun G a w S=>?_
  exact sBin _ S (wN d) d d d (bAdd _ _ _ _ a8 1) d (lb d) fun a S=>leafL ⟨d,S⟩
 ·refine fJ [(58,_),(60,_)] 22 [some 19,some 21] fun G a w S=>?_
  exact sIdxV S (wN d) d d d aV d (lb d) fun a S=>leafL ⟨d,S⟩
 ·refine fJ [(61,_)] 23 [some 22] fun G a w S=>?_
  exact sLoadR (r:=(rI .i64)) (T:=3) (xs:=a9) (x:=ac) (v:=.slice a4 a9.length a5) (vq:=bn) (j:=w64 (a8 + 1)) 1 (iv ac) S aW (wN d) d d d aK (fun _ _ _ h=>h) (scal_I _) d d (lb d) fun a S=>leafL ⟨d,S⟩
 ·exact fM 24 none d d d d (.inl d) d d d
 ·exact fM 25 none d d d d (.inl d) d d d
 ·exact fM 26 none d d d d (.inl d) d d d
 ·refine fJ [(64,_),(65,_)] 27 [some 25,some 26] fun G a w S=>?_
  exact sIdxV S (wN d) d d d aX d (lb d) fun a S=>leafL ⟨d,S⟩
 ·refine fJ [(66,_)] 28 [some 27] fun G a w S=>?_
  exact sLoadVN (vq:=ba) 9 [.bool a2.Back,.slice al a2.Cells.length am] S (wN d) d d d d d d (lb d) fun a S=>leafL ⟨d,S⟩
 ·refine fJ [(63,_),(67,_)] 29 [some 24,some 28] fun G a w S=>?_
  have S1:=S.mem
  refine sCallVQ (X:=Unit) (g:=52) (vs:=[.agg #[.bool a2.Back,.slice al a2.Cells.length am]]) (caps:=[]) (val:=fun _=>iv ae) S (wN d) d d callee52 d (S1.quiet [10] d) (fun E1 w1 S1=>c_compare_Charts_1 E1 w1 a2 (.agg #[.bool a2.Back,.slice al a2.Cells.length am]) ae aO S1) d (lb d) fun _ a w S=>?_
  exact leafL ⟨d,S⟩
 ·refine fJ [(62,_),(68,_)] 30 [some 23,some 29] fun G a w S=>?_
  exact sBin _ S (wN d) d d d (bAdd _ _ _ _ ac ae) d (lb d) fun a S=>leafL ⟨d,S⟩
 ·exact fM 31 none d d d d (.inl d) d d d
 ·exact fM 32 none d d d d (.inl d) d d d
 ·refine fJ [(71,_)] 33 [some 32] fun G a w S=>?_
  exact sBin _ S (wN d) d d d (bAdd _ _ _ _ a7 1) d (lb d) fun a S=>leafL ⟨d,S⟩
 ·refine fJ [(70,_),(72,_)] 34 [some 31,some 33] fun G a w S=>?_
  exact sIdxV S (wN d) d d d bW d (lb d) fun a S=>leafL ⟨d,S⟩
 ·refine ⟨_,[(73,bu)],d,(srcs_of [some 34] d d d),fun G a w S=>?_⟩
  refine sLoadHo (r:=(rL (rI .i64))) (T:=101) (xs:=a6) (x:=au) (p:=(a7).toNat * (rL (rI .i64)).sz + 0) (u:=.slice a4 a9.length a5) (v:=.slice aa a6.length ab) (vq:=bu) (j:=w64 (a7 + 1)) 0 S bX (wN d) d d d aw (idx_next (by decide) (hole_lim 0 S.mem d) ax aw) (scal_L _) d d (lb d) fun a dA S=>?_
  obtain ⟨c6,c7,_,rfl,_⟩:=S.mem.know (i:=0) (e:=fRep (rL (rI .i64)) (dA) au) d
  obtain ⟨bA,c8,S⟩:=pIdx (P:=Try.prog) (r:=(rI .i64)) (v:=.slice c6 au.length c7) (xs:=au) (j:=w64 (a8 + 1)) 101 3 0 S Try.underlying101 d d bP
  obtain ⟨cM,S⟩:=pLoad (r:=(rI .i64)) (q:=bA) (x:=ah) 0 S d
  obtain rfl:cM=iv ah:=S.mem.know (i:=1) (e:=fRep (rI .i64) (cM) ah) d
  refine leafL ⟨d,_,_,.inl ⟨74,(.slice c6 au.length c7),[(42,77,bA),(43,78,iv ah),(54,89,iv (w64 (ah + ai)))],d,S,hz_of d,?_⟩⟩
  refine node_by (A:=anc_compare_table_api_Row__s0_2) 58 (by kernel_rfl) (by kernel_rfl) (by kernel_rfl) (by kernel_rfl) (by kernel_rfl) [42,43,54,39,0,1,2,3,4,5,6,7,8,10,13,14,15,16,17,18,20,21,22,23,24,25,26,27,28,29,30,31,32,33,34,35,36,37,38,40,41,44,45,46,47,48,49,50,51,52,53] (by kernel_rfl) (by decide) (by decide) (fF ?_ (fF ?_ (fF ?_ (fF ?_ (fF ?_ (fF ?_ (fF ?_ (fF ?_ (fF ?_ (fN ?_ (fF ?_ (fE 9 (fE 9 (fF ?_ (fF ?_ (fF ?_ (fF ?_ (fF ?_ (fF ?_ (fE 9 (fF ?_ (fF ?_ (fF ?_ (fF ?_ (fF ?_ (fF ?_ (fF ?_ (fF ?_ (fF ?_ (fF ?_ (fF ?_ (fF ?_ (fF ?_ (fF ?_ (fF ?_ (fD 39 (fD 39 (fD 39 (fD 39 (fY (fF ?_ (fF ?_ (fF ?_ (fF ?_ (fF ?_ (fF ?_ (fF ?_ (fF ?_ (fF ?_ (fF ?_ (fF ?_ (fF ?_ (fF ?_ (fF ?_ (fF ?_ (fE 9 (fE 9 (aB 57 0 9 (by decide) (trivial))))))))))))))))))))))))))))))))))))))))))))))))))))))))))) [] (fun q hq=>by cases hq) (fun hY=>absurd (hY 9 (by decide)) (by decide))
  ·exact fM 4 none d d d d (.inl d) d d d
  ·exact fM 5 none d d d d (.inl d) d d d
  ·refine fJ [(35,_),(36,_)] 6 [some 4,some 5] fun G a w S=>?_
   exact sIdxV S (wN d) d d d aQ d (lb d) fun a S=>leafL ⟨d,S⟩
  ·refine fJ [(37,_)] 7 [some 6] fun G a w S=>?_
   exact sLoadHE (r:=(rL (rI .i64))) (T:=101) (xs:=a6) (u:=.slice a4 a9.length a5) (v:=.slice aa a6.length ab) (vq:=bl) (j:=a7) 0 S aR (wN d) d d d d d (lb d) fun a S=>leafL ⟨d,S⟩
  ·exact fM 8 none d d d d (.inl d) d d d
  ·exact fM 9 none d d d d (.inl d) d d d
  ·exact fM 10 none d d d d (.inl d) d d d
  ·refine fJ [(41,_)] 11 [some 10] fun G a w S=>?_
   exact sBin _ S (wN d) d d d (bAdd _ _ _ _ a7 1) d (lb d) fun a S=>leafL ⟨d,S⟩
  ·refine fJ [(40,_),(42,_)] 12 [some 9,some 11] fun G a w S=>?_
   exact sIdxV S (wN d) d d d bR d (lb d) fun a S=>leafL ⟨d,S⟩
  ·refine ⟨_,[(43,bt)],d,(srcs_of [some 12] d d d),fun G a w S=>?_⟩
   refine sLoadHo (r:=(rL (rI .i64))) (T:=101) (xs:=a6) (x:=au) (p:=(a7).toNat * (rL (rI .i64)).sz + 0) (u:=.slice a4 a9.length a5) (v:=.slice aa a6.length ab) (vq:=bt) (j:=w64 (a7 + 1)) 0 S bT (wN d) d d d aw (idx_next (by decide) (hole_lim 0 S.mem d) ax aw) (scal_L _) d d (lb d) fun a dB S=>?_
   obtain ⟨c9,ca,_,rfl,_⟩:=S.mem.know (i:=0) (e:=fRep (rL (rI .i64)) (dB) au) d
   obtain ⟨cn,cN,S⟩:=pIdx (P:=Try.prog) (r:=(rI .i64)) (v:=.slice c9 au.length ca) (xs:=au) (j:=a8) 101 3 0 S Try.underlying101 d d bM
   obtain ⟨cO,S⟩:=pLoad (r:=(rI .i64)) (q:=cn) (x:=af) 0 S d
   obtain rfl:cO=iv af:=S.mem.know (i:=1) (e:=fRep (rI .i64) (cO) af) d
   obtain ⟨co,cP,cQ⟩:=pIdxR (P:=Try.prog) (r:=(rI .i64)) (T:=3) (v:=.slice a4 a9.length a5) (xs:=a9) (j:=a8) 101 3 1 S Try.underlying101 d d bQ
   refine leafL ⟨d,_,_,.inl ⟨44,(.slice c9 au.length ca),[(11,46,cn),(12,47,iv af),(19,54,iv (w64 (af + ag))),(55,90,iv (min3 (w64 (af + ag)) (w64 (ac + ae)) (w64 (ah + ai)))),(56,91,co)],d,S,hz_of d,?_⟩⟩
   refine node_by (A:=anc_compare_table_api_Row__s0_2) 58 (by kernel_rfl) (by kernel_rfl) (by kernel_rfl) (by kernel_rfl) (by kernel_rfl) [11,12,19,55,56,9,42,43,54,39,0,1,2,3,4,5,6,7,8,10,13,14,15,16,17,18,20,21,22,23,24,25,26,27,28,29,30,31,32,33,34,35,36,37,38,40,41,44,45,46,47,48,49,50,51,52,53] (by kernel_rfl) (by decide) (by decide) (fF ?_ (fF ?_ (fF ?_ (fF ?_ (fF ?_ (fD 9 (fD 9 (fD 9 (fD 9 (fY (fF ?_ (fF ?_ (fF ?_ (fF ?_ (fF ?_ (fF ?_ (fF ?_ (fF ?_ (fF ?_ (fF ?_ (fF ?_ (fF ?_ (fF ?_ (fF ?_ (fF ?_ (fF ?_ (fF ?_ (fF ?_ (fF ?_ (fF ?_ (fF ?_ (fF ?_ (fF ?_ (fF ?_ (fF ?_ (fD 39 (fD 39 (fD 39 (fD 39 (fY (fF ?_ (fF ?_ (fF ?_ (fF ?_ (fF ?_ (fF ?_ (fF ?_ (fF ?_ (fF ?_ (fF ?_ (fF ?_ (fF ?_ (fF ?_ (fF ?_ (fF ?_ (fF ?_ (fF ?_ (fN ?_ (trivial))))))))))))))))))))))))))))))))))))))))))))))))))))))))))) [] (fun q hq=>by cases hq) (fun hY=>absurd (hY 57 (by decide)) (by decide))
   ·exact fM 10 none d d d d (.inl d) d d d
   ·exact fM 11 none d d d d (.inl d) d d d
   ·refine fJ [(35,_),(36,_)] 12 [some 10,some 11] fun G a w S=>?_
    exact sIdxV S (wN d) d d d aQ d (lb d) fun a S=>leafL ⟨d,S⟩
   ·refine fJ [(37,_)] 13 [some 12] fun G a w S=>?_
    exact sLoadHE (r:=(rL (rI .i64))) (T:=101) (xs:=a6) (u:=.slice a4 a9.length a5) (v:=.slice aa a6.length ab) (vq:=bl) (j:=a7) 0 S aR (wN d) d d d d d (lb d) fun a S=>leafL ⟨d,S⟩
   ·exact fM 14 none d d d d (.inl d) d d d
   ·exact fM 19 none d d d d (.inl d) d d d
   ·refine fJ [(44,_),(45,_)] 0 [some 5,some 19] fun G a w S=>?_
    exact sIdxV S (wN d) d d d cN d (lb d) fun a S=>leafL ⟨d,S⟩
   ·refine fJ [(46,_)] 1 [some 0] fun G a w S=>?_
    exact sLoadV1 (vq:=cn) 0 (iv af) S (wN d) d d d d d (lb d) fun a S=>leafL ⟨d,S⟩
   ·exact fM 20 none d d d d (.inl d) d d d
   ·exact fM 21 none d d d d (.inl d) d d d
   ·exact fM 22 none d d d d (.inl d) d d d
   ·refine fJ [(49,_),(50,_)] 23 [some 21,some 22] fun G a w S=>?_
    exact sIdxV S (wN d) d d d aS d (lb d) fun a S=>leafL ⟨d,S⟩
   ·refine fJ [(51,_)] 24 [some 23] fun G a w S=>?_
    exact sLoadVN (vq:=b1) 21 [.bool a0.Back,.slice aj a0.Cells.length ak] S (wN d) d d d d d d (lb d) fun a S=>leafL ⟨d,S⟩
   ·refine fJ [(48,_),(52,_)] 25 [some 20,some 24] fun G a w S=>?_
    have S1:=S.mem
    refine sCallVQ (X:=Unit) (g:=52) (vs:=[.agg #[.bool a0.Back,.slice aj a0.Cells.length ak]]) (caps:=[]) (val:=fun _=>iv ag) S (wN d) d d callee52 d (S1.quiet [22] d) (fun E1 w1 S1=>c_compare_Charts_1 E1 w1 a0 (.agg #[.bool a0.Back,.slice aj a0.Cells.length ak]) ag aM S1) d (lb d) fun _ a w S=>?_
    exact leafL ⟨d,S⟩
   ·refine fJ [(47,_),(53,_)] 2 [some 1,some 25] fun G a w S=>?_
    exact sBin _ S (wN d) d d d (bAdd _ _ _ _ af ag) d (lb d) fun a S=>leafL ⟨d,S⟩
   ·exact fM 26 none d d d d (.inl d) d d d
   ·exact fM 27 none d d d d (.inl d) d d d
   ·refine fJ [(55,_),(56,_)] 28 [some 26,some 27] fun G a w S=>?_
    exact sIdxV S (wN d) d d d aT d (lb d) fun a S=>leafL ⟨d,S⟩
   ·refine fJ [(57,_)] 29 [some 28] fun G a w S=>?_
    exact sLoadHE (r:=(rL (rI .i64))) (T:=101) (xs:=a6) (u:=.slice a4 a9.length a5) (v:=.slice aa a6.length ab) (vq:=bm) (j:=a7) 0 S aU (wN d) d d d d d (lb d) fun a S=>leafL ⟨d,S⟩
   ·exact fM 30 none d d d d (.inl d) d d d
   ·refine fJ [(59,_)] 31 [some 30] fun G a w S=>?_
    exact sBin _ S (wN d) d d d (bAdd _ _ _ _ a8 1) d (lb d) fun a S=>leafL ⟨d,S⟩
   ·refine fJ [(58,_),(60,_)] 32 [some 29,some 31] fun G a w S=>?_
    exact sIdxV S (wN d) d d d aV d (lb d) fun a S=>leafL ⟨d,S⟩
   ·refine fJ [(61,_)] 33 [some 32] fun G a w S=>?_
    exact sLoadR (r:=(rI .i64)) (T:=3) (xs:=a9) (x:=ac) (v:=.slice a4 a9.length a5) (vq:=bn) (j:=w64 (a8 + 1)) 1 (iv ac) S aW (wN d) d d d aK (fun _ _ _ h=>h) (scal_I _) d d (lb d) fun a S=>leafL ⟨d,S⟩
   ·exact fM 34 none d d d d (.inl d) d d d
   ·exact fM 35 none d d d d (.inl d) d d d
   ·exact fM 36 none d d d d (.inl d) d d d
   ·refine fJ [(64,_),(65,_)] 37 [some 35,some 36] fun G a w S=>?_
    exact sIdxV S (wN d) d d d aX d (lb d) fun a S=>leafL ⟨d,S⟩
   ·refine fJ [(66,_)] 38 [some 37] fun G a w S=>?_
    exact sLoadVN (vq:=ba) 17 [.bool a2.Back,.slice al a2.Cells.length am] S (wN d) d d d d d d (lb d) fun a S=>leafL ⟨d,S⟩
   ·refine fJ [(63,_),(67,_)] 39 [some 34,some 38] fun G a w S=>?_
    have S1:=S.mem
    refine sCallVQ (X:=Unit) (g:=52) (vs:=[.agg #[.bool a2.Back,.slice al a2.Cells.length am]]) (caps:=[]) (val:=fun _=>iv ae) S (wN d) d d callee52 d (S1.quiet [18] d) (fun E1 w1 S1=>c_compare_Charts_1 E1 w1 a2 (.agg #[.bool a2.Back,.slice al a2.Cells.length am]) ae aO S1) d (lb d) fun _ a w S=>?_
    exact leafL ⟨d,S⟩
   ·refine fJ [(62,_),(68,_)] 40 [some 33,some 39] fun G a w S=>?_
    exact sBin _ S (wN d) d d d (bAdd _ _ _ _ ac ae) d (lb d) fun a S=>leafL ⟨d,S⟩
   ·exact fM 45 none d d d d (.inl d) d d d
   ·refine fJ [(75,_)] 46 [some 45] fun G a w S=>?_
    exact sBin _ S (wN d) d d d (bAdd _ _ _ _ a8 1) d (lb d) fun a S=>leafL ⟨d,S⟩
   ·refine fJ [(74,_),(76,_)] 6 [some 9,some 46] fun G a w S=>?_
    exact sIdxV S (wN d) d d d c8 d (lb d) fun a S=>leafL ⟨d,S⟩
   ·refine fJ [(77,_)] 7 [some 6] fun G a w S=>?_
    exact sLoadV1 (vq:=bA) 4 (iv ah) S (wN d) d d d d d (lb d) fun a S=>leafL ⟨d,S⟩
   ·exact fM 47 none d d d d (.inl d) d d d
   ·exact fM 48 none d d d d (.inl d) d d d
   ·exact fM 49 none d d d d (.inl d) d d d
   ·refine fJ [(80,_),(81,_)] 50 [some 48,some 49] fun G a w S=>?_
    exact sIdxV S (wN d) d d d aZ d (lb d) fun a S=>leafL ⟨d,S⟩
   ·refine fJ [(82,_)] 51 [some 50] fun G a w S=>?_
    exact sLoadVN (vq:=bb) 13 [.bool a0.Back,.slice ao a0.Cells.length ap] S (wN d) d d d d d d (lb d) fun a S=>leafL ⟨d,S⟩
   ·exact fM 52 none d d d d (.inl d) d d d
   ·exact fM 53 none d d d d (.inl d) d d d
   ·refine fJ [(84,_),(85,_)] 54 [some 52,some 53] fun G a w S=>?_
    exact sIdxV S (wN d) d d d b0 d (lb d) fun a S=>leafL ⟨d,S⟩
   ·refine fJ [(86,_)] 55 [some 54] fun G a w S=>?_
    exact sLoadVN (vq:=bc) 9 [.bool a2.Back,.slice aq a2.Cells.length ar] S (wN d) d d d d d d (lb d) fun a S=>leafL ⟨d,S⟩
   ·refine fJ [(79,_),(83,_),(87,_)] 56 [some 47,some 51,some 55] fun G a w S=>?_
    have S1:=S.mem
    refine sCallVQ (X:=Unit) (g:=53) (vs:=[.agg #[.bool a0.Back,.slice ao a0.Cells.length ap],.agg #[.bool a2.Back,.slice aq a2.Cells.length ar]]) (caps:=[]) (val:=fun _=>iv ai) S (wN d) d d callee53 d (S1.quiet [14,10] d) (fun E1 w1 S1=>c_compare_Charts_2 E1 w1 a0 (.agg #[.bool a0.Back,.slice ao a0.Cells.length ap]) a2 (.agg #[.bool a2.Back,.slice aq a2.Cells.length ar]) ai aP S1) d (lb d) fun _ a w S=>?_
    exact leafL ⟨d,S⟩
   ·refine fJ [(78,_),(88,_)] 8 [some 7,some 56] fun G a w S=>?_
    exact sBin _ S (wN d) d d d (bAdd _ _ _ _ ah ai) d (lb d) fun a S=>leafL ⟨d,S⟩
   ·refine fJ [(54,_),(69,_),(89,_)] 3 [some 2,some 40,some 8] fun G a w S=>?_
    exact sMin3 (p:=w64 (af + ag)) (q:=w64 (ac + ae)) (r:=w64 (ah + ai)) S (wN d) d d d d d (lb d) fun a S=>leafL ⟨d,S⟩
   ·refine fJ [(38,_),(39,_)] 4 [some 13,some 14] fun G a w S=>?_
    exact sIdxV S (wN d) d d d cP d (lb d) fun a S=>leafL ⟨d,S⟩
   refine ⟨_,[(90,iv (min3 (w64 (af + ag)) (w64 (ac + ae)) (w64 (ah + ai)))),(91,co)],d,(srcs_of [some 3,some 4] d d d),fun G a w S=>?_⟩
   refine sStoreR (r:=(rI .i64)) (T:=3) (xs:=a9) (ys:=bx) (y:=(min3 (w64 (af + ag)) (w64 (ac + ae)) (w64 (ah + ai)))) (v:=.slice a4 a9.length a5) (vq:=co) (u:=iv (min3 (w64 (af + ag)) (w64 (ac + ae)) (w64 (ah + ai)))) (j:=a8) 1 S cQ (wN d) d d d d d bh d d fun a w S=>leafL ⟨d,_,_,.inr ⟨[],d,S,hz_of d,?_⟩⟩
   refine node_by (A:=anc_compare_table_api_Row__s0_2) 58 (by kernel_rfl) (by kernel_rfl) (by kernel_rfl) (by kernel_rfl) (by kernel_rfl) [11,12,19,55,56,9,42,43,54,39,0,1,2,3,4,5,6,7,8,10,13,14,15,16,17,18,20,21,22,23,24,25,26,27,28,29,30,31,32,33,34,35,36,37,38,40,41,44,45,46,47,48,49,50,51,52,53] (by kernel_rfl) (by decide) (by decide) (fD 57 (fD 57 (fD 57 (fD 57 (fD 57 (fD 57 (fD 57 (fD 57 (fD 57 (fY (fD 57 (fD 57 (fD 57 (fD 57 (fD 57 (fD 57 (fD 57 (fD 57 (fD 57 (fD 57 (fD 57 (fD 57 (fD 57 (fD 57 (fD 57 (fD 57 (fD 57 (fD 57 (fD 57 (fD 57 (fD 57 (fD 57 (fD 57 (fD 57 (fD 57 (fD 57 (fD 57 (fD 57 (fD 57 (fY (fD 57 (fD 57 (fD 57 (fD 57 (fD 57 (fD 57 (fD 57 (fD 57 (fD 57 (fD 57 (fD 57 (fD 57 (fD 57 (fD 57 (fD 57 (fD 57 (fD 57 (fY (trivial))))))))))))))))))))))))))))))))))))))))))))))))))))))))))) [(0,.slice aG p0.length aH),(1,.slice aA p1.length aC),(2,.func (.func 52) #[] #[]),(3,.func (.func 53) #[] #[]),(9,.slice aa a6.length ab),(10,iv a7),(11,iv a8)] (fin_of [none,none,none,none,none,none,none] d (by kernel_rfl) (by kernel_rfl)) (fun _ a w S=>?_)
   rw [setO_v bh a4 a5] at S
   exact leafB (leafB (leafT (⟨bx,Option.some.inj h,S.fix [1,0] [24,25] (by decide) d d d⟩)))
  ·exact fM 13 none d d d d (.inl d) d d d
  ·exact fM 14 none d d d d (.inl d) d d d
  ·exact fM 15 none d d d d (.inl d) d d d
  ·exact fM 16 none d d d d (.inl d) d d d
  ·refine fJ [(49,_),(50,_)] 17 [some 15,some 16] fun G a w S=>?_
   exact sIdxV S (wN d) d d d aS d (lb d) fun a S=>leafL ⟨d,S⟩
  ·refine fJ [(51,_)] 18 [some 17] fun G a w S=>?_
   exact sLoadVN (vq:=b1) 17 [.bool a0.Back,.slice aj a0.Cells.length ak] S (wN d) d d d d d d (lb d) fun a S=>leafL ⟨d,S⟩
  ·refine fJ [(48,_),(52,_)] 19 [some 14,some 18] fun G a w S=>?_
   have S1:=S.mem
   refine sCallVQ (X:=Unit) (g:=52) (vs:=[.agg #[.bool a0.Back,.slice aj a0.Cells.length ak]]) (caps:=[]) (val:=fun _=>iv ag) S (wN d) d d callee52 d (S1.quiet [18] d) (fun E1 w1 S1=>c_compare_Charts_1 E1 w1 a0 (.agg #[.bool a0.Back,.slice aj a0.Cells.length ak]) ag aM S1) d (lb d) fun _ a w S=>?_
   exact leafL ⟨d,S⟩
  ·exact fM 20 none d d d d (.inl d) d d d
  ·exact fM 21 none d d d d (.inl d) d d d
  ·refine fJ [(55,_),(56,_)] 22 [some 20,some 21] fun G a w S=>?_
   exact sIdxV S (wN d) d d d aT d (lb d) fun a S=>leafL ⟨d,S⟩
  ·refine fJ [(57,_)] 23 [some 22] fun G a w S=>?_
   exact sLoadHE (r:=(rL (rI .i64))) (T:=101) (xs:=a6) (u:=.slice a4 a9.length a5) (v:=.slice aa a6.length ab) (vq:=bm) (j:=a7) 0 S aU (wN d) d d d d d (lb d) fun a S=>leafL ⟨d,S⟩
  ·exact fM 24 none d d d d (.inl d) d d d
  ·refine fJ [(59,_)] 25 [some 24] fun G a w S=>?_
   exact sBin _ S (wN d) d d d (bAdd _ _ _ _ a8 1) d (lb d) fun a S=>leafL ⟨d,S⟩
  ·refine fJ [(58,_),(60,_)] 26 [some 23,some 25] fun G a w S=>?_
   exact sIdxV S (wN d) d d d aV d (lb d) fun a S=>leafL ⟨d,S⟩
  ·refine fJ [(61,_)] 27 [some 26] fun G a w S=>?_
   exact sLoadR (r:=(rI .i64)) (T:=3) (xs:=a9) (x:=ac) (v:=.slice a4 a9.length a5) (vq:=bn) (j:=w64 (a8 + 1)) 1 (iv ac) S aW (wN d) d d d aK (fun _ _ _ h=>h) (scal_I _) d d (lb d) fun a S=>leafL ⟨d,S⟩
  ·exact fM 28 none d d d d (.inl d) d d d
  ·exact fM 29 none d d d d (.inl d) d d d
  ·exact fM 30 none d d d d (.inl d) d d d
  ·refine fJ [(64,_),(65,_)] 31 [some 29,some 30] fun G a w S=>?_
   exact sIdxV S (wN d) d d d aX d (lb d) fun a S=>leafL ⟨d,S⟩
  ·refine fJ [(66,_)] 32 [some 31] fun G a w S=>?_
   exact sLoadVN (vq:=ba) 13 [.bool a2.Back,.slice al a2.Cells.length am] S (wN d) d d d d d d (lb d) fun a S=>leafL ⟨d,S⟩
  ·refine fJ [(63,_),(67,_)] 33 [some 28,some 32] fun G a w S=>?_
   have S1:=S.mem
   refine sCallVQ (X:=Unit) (g:=52) (vs:=[.agg #[.bool a2.Back,.slice al a2.Cells.length am]]) (caps:=[]) (val:=fun _=>iv ae) S (wN d) d d callee52 d (S1.quiet [14] d) (fun E1 w1 S1=>c_compare_Charts_1 E1 w1 a2 (.agg #[.bool a2.Back,.slice al a2.Cells.length am]) ae aO S1) d (lb d) fun _ a w S=>?_
   exact leafL ⟨d,S⟩
  ·refine fJ [(62,_),(68,_)] 34 [some 27,some 33] fun G a w S=>?_
   exact sBin _ S (wN d) d d d (bAdd _ _ _ _ ac ae) d (lb d) fun a S=>leafL ⟨d,S⟩
  ·exact fM 39 none d d d d (.inl d) d d d
  ·refine fJ [(75,_)] 40 [some 39] fun G a w S=>?_
   exact sBin _ S (wN d) d d d (bAdd _ _ _ _ a8 1) d (lb d) fun a S=>leafL ⟨d,S⟩
  ·refine fJ [(74,_),(76,_)] 0 [some 3,some 40] fun G a w S=>?_
   exact sIdxV S (wN d) d d d c8 d (lb d) fun a S=>leafL ⟨d,S⟩
  ·refine fJ [(77,_)] 1 [some 0] fun G a w S=>?_
   exact sLoadV1 (vq:=bA) 0 (iv ah) S (wN d) d d d d d (lb d) fun a S=>leafL ⟨d,S⟩
  ·exact fM 41 none d d d d (.inl d) d d d
  ·exact fM 42 none d d d d (.inl d) d d d
  ·exact fM 43 none d d d d (.inl d) d d d
  ·refine fJ [(80,_),(81,_)] 44 [some 42,some 43] fun G a w S=>?_
   exact sIdxV S (wN d) d d d aZ d (lb d) fun a S=>leafL ⟨d,S⟩
  ·refine fJ [(82,_)] 45 [some 44] fun G a w S=>?_
   exact sLoadVN (vq:=bb) 9 [.bool a0.Back,.slice ao a0.Cells.length ap] S (wN d) d d d d d d (lb d) fun a S=>leafL ⟨d,S⟩
  ·exact fM 46 none d d d d (.inl d) d d d
  ·exact fM 47 none d d d d (.inl d) d d d
  ·refine fJ [(84,_),(85,_)] 48 [some 46,some 47] fun G a w S=>?_
   exact sIdxV S (wN d) d d d b0 d (lb d) fun a S=>leafL ⟨d,S⟩
  ·refine fJ [(86,_)] 49 [some 48] fun G a w S=>?_
   exact sLoadVN (vq:=bc) 5 [.bool a2.Back,.slice aq a2.Cells.length ar] S (wN d) d d d d d d (lb d) fun a S=>leafL ⟨d,S⟩
  ·refine fJ [(79,_),(83,_),(87,_)] 50 [some 41,some 45,some 49] fun G a w S=>?_
   have S1:=S.mem
   refine sCallVQ (X:=Unit) (g:=53) (vs:=[.agg #[.bool a0.Back,.slice ao a0.Cells.length ap],.agg #[.bool a2.Back,.slice aq a2.Cells.length ar]]) (caps:=[]) (val:=fun _=>iv ai) S (wN d) d d callee53 d (S1.quiet [10,6] d) (fun E1 w1 S1=>c_compare_Charts_2 E1 w1 a0 (.agg #[.bool a0.Back,.slice ao a0.Cells.length ap]) a2 (.agg #[.bool a2.Back,.slice aq a2.Cells.length ar]) ai aP S1) d (lb d) fun _ a w S=>?_
   exact leafL ⟨d,S⟩
  refine fJ [(78,_),(88,_)] 2 [some 1,some 50] fun G a w S=>?_
  exact sBin _ S (wN d) d d d (bAdd _ _ _ _ ah ai) d (lb d) fun a S=>leafL ⟨d,S⟩
 ·exact fM 35 none d d d d (.inl d) d d d
 ·refine fJ [(75,_)] 36 [some 35] fun G a w S=>?_
  exact sBin _ S (wN d) d d d (bAdd _ _ _ _ a8 1) d (lb d) fun a S=>leafL ⟨d,S⟩
 ·exact fM 37 none d d d d (.inl d) d d d
 ·exact fM 38 none d d d d (.inl d) d d d
 ·exact fM 39 none d d d d (.inl d) d d d
 ·refine fJ [(80,_),(81,_)] 40 [some 38,some 39] fun G a w S=>?_
  exact sIdxV S (wN d) d d d aZ d (lb d) fun a S=>leafL ⟨d,S⟩
 ·refine fJ [(82,_)] 41 [some 40] fun G a w S=>?_
  exact sLoadVN (vq:=bb) 5 [.bool a0.Back,.slice ao a0.Cells.length ap] S (wN d) d d d d d d (lb d) fun a S=>leafL ⟨d,S⟩
 ·exact fM 42 none d d d d (.inl d) d d d
 ·exact fM 43 none d d d d (.inl d) d d d
 ·refine fJ [(84,_),(85,_)] 44 [some 42,some 43] fun G a w S=>?_
  exact sIdxV S (wN d) d d d b0 d (lb d) fun a S=>leafL ⟨d,S⟩
 ·refine fJ [(86,_)] 45 [some 44] fun G a w S=>?_
  exact sLoadVN (vq:=bc) 1 [.bool a2.Back,.slice aq a2.Cells.length ar] S (wN d) d d d d d d (lb d) fun a S=>leafL ⟨d,S⟩
 refine fJ [(79,_),(83,_),(87,_)] 46 [some 37,some 41,some 45] fun G a w S=>?_
 have S1:=S.mem
 refine sCallVQ (X:=Unit) (g:=53) (vs:=[.agg #[.bool a0.Back,.slice ao a0.Cells.length ap],.agg #[.bool a2.Back,.slice aq a2.Cells.length ar]]) (caps:=[]) (val:=fun _=>iv ai) S (wN d) d d callee53 d (S1.quiet [6,2] d) (fun E1 w1 S1=>c_compare_Charts_2 E1 w1 a0 (.agg #[.bool a0.Back,.slice ao a0.Cells.length ap]) a2 (.agg #[.bool a2.Back,.slice aq a2.Cells.length ar]) ai aP S1) d (lb d) fun _ a w S=>?_
 exact leafL ⟨d,S⟩
noncomputable def F_compare_Charts (p0:api_Chart) (p1:api_Chart):Option (Int × Int):=
 (F_chart_Check p0).bind fun a0=>
 if a0 != 0 then
  some (0,a0)
 else
  (F_chart_Check p1).bind fun a2=>
  if a2 != 0 then
   some (0,a2)
  else
   (F_compare_table_api_Row__s0 p0.Rows p1.Rows).bind fun a5=>
   (idxO a5 0).bind fun a6=>
   (idxO a6 0).bind fun a4=>
   Option.bind (α:=Int) (
    if p0.Start != p1.Start then
     some (w64 (a4 + 1))
    else
     some a4) fun a7=>
   some (a7,0)
theorem c_compare_Charts (E:Nat→Prop) (w0:World) (p0:api_Chart) (v0:Value) (p1:api_Chart) (v1:Value) (r:(Int × Int)) (h:F_compare_Charts p0 p1=some r) (S:St0 E [] w0 w0 [] [fRep r_api_Chart (v0) p0,fRep r_api_Chart (v1) p1]) :
 Calls Try.prog 20 #[v0,v1] w0 (Ret (X:=Unit) E [] w0 (fun _=>.tuple #[.int .i64 r.1,.int .i64 r.2]) (fun _=>[]) (fun _=>[])):=by
 unfold F_compare_Charts at h
 obtain ⟨u1,rfl,aM⟩:=S.know (i:=0) (e:=fRep r_api_Chart (v0) p0) d
 have S:=S.learn (fRep (rL r_api_Row) u1 p0.Rows) aM
 obtain ⟨a0,a2,_,rfl,_⟩:=aM
 obtain ⟨u5,rfl,aO⟩:=S.know (i:=2) (e:=fRep r_api_Chart (v1) p1) d
 have S:=S.learn (fRep (rL r_api_Row) u5 p1.Rows) aO
 obtain ⟨a4,a5,_,rfl,_⟩:=aO
 refine sEnter (args:=[.agg #[iv p0.Start,.slice a0 p0.Rows.length a2],.agg #[iv p1.Start,.slice a4 p1.Rows.length a5]]) 38 Try.func20 d d (by simp) S (fun a S=>?_)
 refine sSeq (fun K9 aS=>sRegion (sBox (v:=.agg #[iv p0.Start,.slice a0 p0.Rows.length a2]) S (wN d) d d [iv p0.Start,.slice a0 p0.Rows.length a2] d d (lb d) fun a ai w S=>sBox (v:=.agg #[iv p1.Start,.slice a4 p1.Rows.length a5]) S (wN d) d d [iv p1.Start,.slice a4 p1.Rows.length a5] d d (lb d) fun a aj w S=>sN S fun a S=>?_))
 refine sN S fun a S=>?_
 refine lT (aS _ _ (sSeq (fun aX ak=>sSeq (fun aZ al=>sRegion (sLoadN (p:=ai) (off:=0) (T:=42) (vs:=[iv p0.Start,.slice a0 p0.Rows.length a2]) 1 [iv p0.Start,.slice a0 p0.Rows.length a2] S (wN d) d d d d d d d (lb d) fun a S=>?_)))))
 obtain ⟨ab,am,h⟩:=bS h
 have S1:=S.mem
 refine sCq [.agg #[iv p0.Start,.slice a0 p0.Rows.length a2]] (iv ab) S callee50 (S1.quiet [2] d) (fun E1 w1 S1=>c_chart_Check E1 w1 p0 (.agg #[iv p0.Start,.slice a0 p0.Rows.length a2]) ab am S1) fun a w S=>?_
 refine sN S fun a S=>?_
 refine lT (al _ _ (sSeq (fun b0 ao=>sRegion (sM S fun a S=>?_))))
 refine sBin _ S (wN d) d d d (bNe _ _ _ _ .i64 ab 0) d (lb d) fun a S=>lT (ao _ _ ?_)
 rcases iS h with ⟨a6,h⟩ | ⟨a6,h⟩
 ·refine sCondT S d a6 (sSeq (fun b1 ap=>sRegion (sM S fun a S=>?_)))
  refine sN S fun a S=>?_
  refine sN S fun a S=>?_
  refine lT (ap _ _ ?_)
  obtain rfl:=tS h
  exact wp_ret (rThen (sRet (.tuple #[iv 0,iv ab]) S (rsl2 d (rvT (t:=4) (v:=iv 0) S d) (rvT (t:=5) (v:=iv ab) S d)) ⟨(),d,S.mem.sel [] [] (by decide) d d⟩))
 refine sCondF S d a6 (wp_skip (leafT (ak _ _ ?_)))
 refine sSeq (fun ba aq=>sSeq (fun bb ar=>sRegion (sLoadN (p:=aj) (off:=0) (T:=42) (vs:=[iv p1.Start,.slice a4 p1.Rows.length a5]) 0 [iv p1.Start,.slice a4 p1.Rows.length a5] S (wN d) d d d d d d d (lb d) fun a S=>?_)))
 obtain ⟨ac,au,h⟩:=bS h
 have S1:=S.mem
 refine sCq [.agg #[iv p1.Start,.slice a4 p1.Rows.length a5]] (iv ac) S callee50 (S1.quiet [3] d) (fun E1 w1 S1=>c_chart_Check E1 w1 p1 (.agg #[iv p1.Start,.slice a4 p1.Rows.length a5]) ac au S1) fun a w S=>?_
 refine sN S fun a S=>?_
 refine lT (ar _ _ (sSeq (fun bc av=>sRegion (sM S fun a S=>?_))))
 refine sBin _ S (wN d) d d d (bNe _ _ _ _ .i64 ac 0) d (lb d) fun a S=>lT (av _ _ ?_)
 rcases iS h with ⟨a7,h⟩ | ⟨a7,h⟩
 ·refine sCondT S d a7 (sSeq (fun bf aw=>sRegion (sM S fun a S=>?_)))
  refine sN S fun a S=>?_
  refine sN S fun a S=>?_
  refine lT (aw _ _ ?_)
  obtain rfl:=tS h
  exact wp_ret (rThen (sRet (.tuple #[iv 0,iv ac]) S (rsl2 d (rvT (t:=4) (v:=iv 0) S d) (rvT (t:=5) (v:=iv ac) S d)) ⟨(),d,S.mem.sel [] [] (by decide) d d⟩))
 refine sCondF S d a7 (wp_skip (leafT (aq _ _ ?_)))
 refine sSeq (fun bg ax=>sRegion (sField (b:=ai) (off:=0) 1 1 S (wN d) d d d d d (lb d) fun a S=>sLoad1 1 (.slice a0 p0.Rows.length a2) S (wN d) d d d d d d (lb d) fun a S=>sField (b:=aj) (off:=0) 1 1 S (wN d) d d d d d (lb d) fun a S=>sLoad1 0 (.slice a4 p1.Rows.length a5) S (wN d) d d d d d d (lb d) fun a S=>?_))
 obtain ⟨aa,ay,h⟩:=bS h
 refine sCall (X:=Value) (f:=51) (vs:=[.slice a0 p0.Rows.length a2,.slice a4 p1.Rows.length a5,.func (.func 52) #[] #[],.func (.func 53) #[] #[]]) (val:=c_compare_table_api_Row__s0_val aa) (B':=fun _=>[]) (D':=c_compare_table_api_Row__s0_D aa) [] [eBox aj 42 [iv p1.Start,.slice a4 p1.Rows.length a5],eBox ai 42 [iv p0.Start,.slice a0 p0.Rows.length a2]] [fRep (rL r_api_Row) (.slice a0 p0.Rows.length a2) p0.Rows,fRep (rL r_api_Row) (.slice a4 p1.Rows.length a5) p1.Rows] [0,1] [1,0] S (wN d) d callee51 d (by decide) d d (fun E1 w1 S1=>c_compare_table_api_Row__s0 E1 w1 p0.Rows (.slice a0 p0.Rows.length a2) p1.Rows (.slice a4 p1.Rows.length a5) aa ay S1) d (lb d) fun aT a w S=>?_
 obtain ⟨az,aA,_,rfl,_⟩:=S.mem.know (i:=0) (e:=fRep (rL (rL (rI .i64))) (aT) aa) d
 refine sN S fun a S=>?_
 refine lT (ax _ _ (sSeq (fun bh aC=>sRegion (sM S fun a S=>?_))))
 obtain ⟨ae,aG,h⟩:=bS h
 obtain ⟨aP,aH,S⟩:=pIdx (P:=Try.prog) (r:=(rL (rI .i64))) (v:=.slice az aa.length aA) (xs:=aa) (j:=0) 98 101 0 S Try.underlying98 d d aG
 refine sIdxV S (wN d) d d d aH d (lb d) fun a S=>?_
 obtain ⟨aU,S⟩:=pLoad (r:=(rL (rI .i64))) (q:=aP) (x:=ae) 0 S d
 obtain ⟨af,ag,_,rfl,_⟩:=S.mem.know (i:=1) (e:=fRep (rL (rI .i64)) (aU) ae) d
 refine sLoadV1 (vq:=aP) 0 (.slice af ae.length ag) S (wN d) d d d d d (lb d) fun a S=>?_
 obtain ⟨a8,aI,h⟩:=bS h
 obtain ⟨aQ,aJ,S⟩:=pIdx (P:=Try.prog) (r:=(rI .i64)) (v:=.slice af ae.length ag) (xs:=ae) (j:=0) 101 3 1 S Try.underlying101 d d aI
 refine sIdxV S (wN d) d d d aJ d (lb d) fun a S=>?_
 obtain ⟨aR,S⟩:=pLoad (r:=(rI .i64)) (q:=aQ) (x:=a8) 0 S d
 obtain rfl:aR=iv a8:=S.mem.know (i:=1) (e:=fRep (rI .i64) (aR) a8) d
 refine sLoadV1 (vq:=aQ) 0 (iv a8) S (wN d) d d d d d (lb d) fun a S=>sN S fun a S=>?_
 refine lT (aC _ _ ?_)
 obtain ⟨aV,h,aW⟩:=bS h
 refine sCut (fun a w=>∃ ah,ah=aV∧St [] E [] w0 38 a w [(9,iv ah)] [] []) ?_ (fun a w hI=>?_)
 rotate_left
 ·obtain ⟨ah,rfl,S⟩:=hI
  have h:=aW
  try dsimp only at h
  refine sSeq (fun bi aK=>sRegion (sM S fun a S=>?_))
  refine sN S fun a S=>?_
  refine sN S fun a S=>?_
  refine lT (aK _ _ ?_)
  obtain rfl:=tS h
  exact wp_ret (sRet (.tuple #[iv ah,iv 0]) S (rsl2 d (rvT (t:=4) (v:=iv ah) S d) (rvT (t:=5) (v:=iv 0) S d)) ⟨(),d,S.mem.sel [] [] (by decide) d d⟩)
 refine sSeq (fun bj aL=>sRegion (sField (b:=ai) (off:=0) 0 0 S (wN d) d d d d d (lb d) fun a S=>sLoad1 1 (iv p0.Start) S (wN d) d d d d d d (lb d) fun a S=>sField (b:=aj) (off:=0) 0 0 S (wN d) d d d d d (lb d) fun a S=>sLoad1 0 (iv p1.Start) S (wN d) d d d d d d (lb d) fun a S=>sBin _ S (wN d) d d d (bNe _ _ _ _ .i64 p0.Start p1.Start) d (lb d) fun a S=>lT (aL _ _ ?_)))
 rcases iS h with ⟨a9,h⟩ | ⟨a9,h⟩
 rotate_left
 ·refine sCondF S d a9 ?_
  exact wp_skip (leafT (⟨a8,Option.some.inj h,S.fix [] [] (by decide) d d d⟩))
 refine sCondT S d a9 (sRegion (sM S fun a S=>?_))
 refine sBin _ S (wN d) d d d (bAdd _ _ _ _ a8 1) d (lb d) fun a S=>sN S fun a S=>?_
 exact lT (⟨w64 (a8 + 1),Option.some.inj h,S.fix [] [] (by decide) d d d⟩)
end Go.Proofs.Ytffikfajljbmnaa
