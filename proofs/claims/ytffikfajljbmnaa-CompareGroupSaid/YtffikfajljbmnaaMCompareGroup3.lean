/- CompareGroup: walks, tables, laws. -/
import Derived.Test.YtffikfajljbmnaaProg
import Derived.Test.YtffikfajljbmnaaRows
import Derived.Test.YtffikfajljbmnaaMCompareGroup2
set_option linter.unusedVariables false
set_option linter.unusedSimpArgs false
set_option maxHeartbeats 4000000
set_option maxRecDepth 100000
namespace Go.Proofs.Ytffikfajljbmnaa
open Go.RowKit
def anc_compare_Nearest_0:List (List Nat):=[[],[],[1],[],[3],[0],[0,1,2,5],[0,1,2,3,4,5,6],[0,1,2,3,4,5,6,7]]
noncomputable def compare_Nearest_l2 (p1:api_Grid):(Int × Int × Int × Int)→(compare_way × api_Grid)→Option ((Int × Int × Int × Int) ⊕ (Int × Int × Int × Int)):=fun s0 x0=>match s0,x0 with
 | (a6,ab,ac,ae),(a0,af)=>
  Option.bind (α:=(Int × Int × Int × Int)) (
   (F_compare_differ af.Bits p1.Bits).bind fun a7=>
   if decide (a7 < a6) then
    some (a7,a0.op,a0.at_.X,a0.at_.Y)
   else
    some (a6,ab,ac,ae)) fun (a5,a8,a9,aa)=>
  if a5 == 0 then
   some (.inr (a5,a8,a9,aa))
  else
   some (.inl (a5,a8,a9,aa))
noncomputable def F_compare_Nearest (p0:api_Grid) (p1:api_Grid) (p2:Int):Option (Int × Int × api_Point × Int):=
 (F_grid_Check p0).bind fun a0=>
 if a0 != 0 then
  some (0,0,(api_Point.mk 0 0),a0)
 else
  (F_grid_Check p1).bind fun a5=>
  if a5 != 0 then
   some (0,0,(api_Point.mk 0 0),a5)
  else
   if decide (16 < (max4 p0.W p0.H p1.W p1.H)) then
    some (0,0,(api_Point.mk 0 0),4)
   else
    Option.bind (α:=Bool) (
     if decide (p2 < 0) then
      some true
     else
      if decide (3 < p2) then
       some true
      else
       if p0.W != p1.W then
        some true
       else
        if p0.H != p1.H then
         some true
        else
         if decide (1 < p2) then
          some (p0.W != p0.H)
         else
          some false) fun a7=>
    if a7 then
     some (0,0,(api_Point.mk 0 0),2)
    else
     Option.bind (α:=(Int × Int × Int × Int)) (
      (F_compare_ways p0 p2).bind fun a6=>
      (I_compare_ways_1 a6.1 a6.2 _ _ (compare_Nearest_l2 p1) (w64 ((p0.Bits.length:Int) + 1),0,0,0)).bind fun z0=>match z0 with
       | .inl (a8,a9,aa,ab)=>
        some (a8,a9,aa,ab)
       | .inr (ac,ae,af,ag)=>
        some (ac,ae,af,ag)) fun (ah,ai,aj,ak)=>
     some (ah,ai,(api_Point.mk aj ak),0)
def c_compare_Nearest_val (r:(Int × Int × api_Point × Int)) (x:Value):Value:=.tuple #[.int .i64 r.1,.int .i64 r.2.1,x,.int .i64 r.2.2.2]
def c_compare_Nearest_D (r:(Int × Int × api_Point × Int)) (x:Value):List Fact:=[fRep r_api_Point x r.2.2.1]
theorem c_compare_Nearest (E:Nat→Prop) (w0:World) (p0:api_Grid) (v0:Value) (p1:api_Grid) (v1:Value) (p2:Int) (r:(Int × Int × api_Point × Int)) (h:F_compare_Nearest p0 p1 p2=some r) (S:St0 E [] w0 w0 [] [fRep r_api_Grid (v0) p0,fRep r_api_Grid (v1) p1]) :
 Calls Try.prog 16 #[v0,v1,iv p2] w0 (Ret (X:=Value) E [] w0 (c_compare_Nearest_val r) (fun _=>[]) (c_compare_Nearest_D r)):=by
 unfold F_compare_Nearest at h
 obtain ⟨u1,rfl,bK⟩:=S.know (i:=0) (e:=fRep r_api_Grid (v0) p0) d
 have S:=S.learn (fRep (rL rB) u1 p0.Bits) bK
 obtain ⟨af,ag,_,rfl,_⟩:=bK
 obtain ⟨u5,rfl,bL⟩:=S.know (i:=2) (e:=fRep r_api_Grid (v1) p1) d
 have S:=S.learn (fRep (rL rB) u5 p1.Bits) bL
 obtain ⟨a8,a9,_,rfl,_⟩:=bL
 refine sEnterM (args:=[.agg #[iv p0.W,iv p0.H,.slice af p0.Bits.length ag],.agg #[iv p1.W,iv p1.H,.slice a8 p1.Bits.length a9],iv p2]) 99 Try.func16 d d (by simp) S (fun a S=>?_)
 refine sSeq (fun K9 bO=>sRegion (sBox (v:=.agg #[iv p0.W,iv p0.H,.slice af p0.Bits.length ag]) S (wN d) d d [iv p0.W,iv p0.H,.slice af p0.Bits.length ag] d d (lb d) fun a ar w S=>sBox (v:=.agg #[iv p1.W,iv p1.H,.slice a8 p1.Bits.length a9]) S (wN d) d d [iv p1.W,iv p1.H,.slice a8 p1.Bits.length a9] d d (lb d) fun a ah w S=>sN S fun a S=>?_))
 refine sN S fun a S=>?_
 refine sAlloc (.agg #[iv 0,iv 0]) S (wN d) d d [iv 0,iv 0] d d (lb d) fun a a5 w S=>sN S fun a S=>?_
 refine lT (bO _ _ (sSeq (fun bZ bf=>sSeq (fun c7 bg=>sRegion (sLoadN (p:=ar) (off:=0) (T:=24) (vs:=[iv p0.W,iv p0.H,.slice af p0.Bits.length ag]) 2 [iv p0.W,iv p0.H,.slice af p0.Bits.length ag] S (wN d) d d d d d d d (lb d) fun a S=>?_)))))
 obtain ⟨aS,bh,h⟩:=bS h
 have S1:=S.mem
 refine sCq [.agg #[iv p0.W,iv p0.H,.slice af p0.Bits.length ag]] (iv aS) S callee45 (S1.quiet [2] d) (fun E1 w1 S1=>c_grid_Check E1 w1 p0 (.agg #[iv p0.W,iv p0.H,.slice af p0.Bits.length ag]) aS bh S1) fun a w S=>?_
 refine sN S fun a S=>?_
 refine lT (bg _ _ (sSeq (fun c8 bi=>sRegion (sM S fun a S=>?_))))
 refine sBin _ S (wN d) d d d (bNe _ _ _ _ .i64 aS 0) d (lb d) fun a S=>lT (bi _ _ ?_)
 rcases iS h with ⟨aC,h⟩ | ⟨aC,h⟩
 ·refine sCondT S d aC (sSeq (fun c9 bj=>sRegion (sBuild [] [iv 0,iv 0] S (wN d) d d d d (lb d) fun a S=>sM S fun a S=>?_)))
  refine sN S fun a S=>?_
  refine sN S fun a S=>?_
  refine sStore (p:=a5) (off:=0) (T:=33) (vs:=[iv 0,iv 0]) (v:=.agg #[iv 0,iv 0]) 0 [iv 0,iv 0] S (wN d) d d d d d d d (by simp) d fun a w S=>sN S fun a S=>?_
  refine lT (bj _ _ ?_)
  obtain rfl:=tS h
  have S:=S.learn (fRep r_api_Point (.agg #[iv 0,iv 0]) (api_Point.mk 0 0)) d
  exact wp_ret (rThen (sRetM0 (.tuple #[iv 0,iv 0,.agg #[iv 0,iv 0],iv aS]) S (rsl4 d (rvT (t:=6) (v:=iv 0) S d) (rvT (t:=7) (v:=iv 0) S d) (rvN (c:=8) (t:=33) (T:=33) (p:=a5) 0 [iv 0,iv 0] S d d d d) (rvT (t:=9) (v:=iv aS) S d)) ⟨(.agg #[iv 0,iv 0]),d,S.mem.sel [] [0] (by decide) d d⟩))
 refine sCondF S d aC (wp_skip (leafT (bf _ _ ?_)))
 refine sSeq (fun ca bk=>sSeq (fun cb bl=>sRegion (sLoadN (p:=ah) (off:=0) (T:=24) (vs:=[iv p1.W,iv p1.H,.slice a8 p1.Bits.length a9]) 1 [iv p1.W,iv p1.H,.slice a8 p1.Bits.length a9] S (wN d) d d d d d d d (lb d) fun a S=>?_)))
 obtain ⟨aT,bm,h⟩:=bS h
 have S1:=S.mem
 refine sCq [.agg #[iv p1.W,iv p1.H,.slice a8 p1.Bits.length a9]] (iv aT) S callee45 (S1.quiet [3] d) (fun E1 w1 S1=>c_grid_Check E1 w1 p1 (.agg #[iv p1.W,iv p1.H,.slice a8 p1.Bits.length a9]) aT bm S1) fun a w S=>?_
 refine sN S fun a S=>?_
 refine lT (bl _ _ (sSeq (fun cc bo=>sRegion (sM S fun a S=>?_))))
 refine sBin _ S (wN d) d d d (bNe _ _ _ _ .i64 aT 0) d (lb d) fun a S=>lT (bo _ _ ?_)
 rcases iS h with ⟨aG,h⟩ | ⟨aG,h⟩
 ·refine sCondT S d aG (sSeq (fun cd bp=>sRegion (sBuild [] [iv 0,iv 0] S (wN d) d d d d (lb d) fun a S=>sM S fun a S=>?_)))
  refine sN S fun a S=>?_
  refine sN S fun a S=>?_
  refine sStore (p:=a5) (off:=0) (T:=33) (vs:=[iv 0,iv 0]) (v:=.agg #[iv 0,iv 0]) 0 [iv 0,iv 0] S (wN d) d d d d d d d (by simp) d fun a w S=>sN S fun a S=>?_
  refine lT (bp _ _ ?_)
  obtain rfl:=tS h
  have S:=S.learn (fRep r_api_Point (.agg #[iv 0,iv 0]) (api_Point.mk 0 0)) d
  exact wp_ret (rThen (sRetM0 (.tuple #[iv 0,iv 0,.agg #[iv 0,iv 0],iv aT]) S (rsl4 d (rvT (t:=6) (v:=iv 0) S d) (rvT (t:=7) (v:=iv 0) S d) (rvN (c:=8) (t:=33) (T:=33) (p:=a5) 0 [iv 0,iv 0] S d d d d) (rvT (t:=9) (v:=iv aT) S d)) ⟨(.agg #[iv 0,iv 0]),d,S.mem.sel [] [0] (by decide) d d⟩))
 refine sCondF S d aG (wp_skip (leafT (bk _ _ ?_)))
 refine sSeq (fun ce bq=>sSeq (fun cf br=>sRegion (sField (b:=ar) (off:=0) 0 0 S (wN d) d d d d d (lb d) fun a S=>sLoad1 2 (iv p0.W) S (wN d) d d d d d d (lb d) fun a S=>sField (b:=ar) (off:=0) 1 1 S (wN d) d d d d d (lb d) fun a S=>sLoad1 2 (iv p0.H) S (wN d) d d d d d d (lb d) fun a S=>sField (b:=ah) (off:=0) 0 0 S (wN d) d d d d d (lb d) fun a S=>sLoad1 1 (iv p1.W) S (wN d) d d d d d d (lb d) fun a S=>sField (b:=ah) (off:=0) 1 1 S (wN d) d d d d d (lb d) fun a S=>sLoad1 1 (iv p1.H) S (wN d) d d d d d d (lb d) fun a S=>sMax4 (p:=p0.W) (q:=p0.H) (r:=p1.W) (s:=p1.H) S (wN d) d d d d d d (lb d) fun a S=>?_)))
 refine sBin _ S (wN d) d d d (bGt _ _ _ _ .i64 (max4 p0.W p0.H p1.W p1.H) 16) d (lb d) fun a S=>lT (br _ _ ?_)
 rcases iS h with ⟨aH,h⟩ | ⟨aH,h⟩
 ·refine sCondT S d aH (sSeq (fun cg bu=>sRegion (sBuild [] [iv 0,iv 0] S (wN d) d d d d (lb d) fun a S=>sN S fun a S=>?_)))
  refine sN S fun a S=>?_
  refine sStore (p:=a5) (off:=0) (T:=33) (vs:=[iv 0,iv 0]) (v:=.agg #[iv 0,iv 0]) 0 [iv 0,iv 0] S (wN d) d d d d d d d (by simp) d fun a w S=>sN S fun a S=>?_
  refine lT (bu _ _ ?_)
  obtain rfl:=tS h
  have S:=S.learn (fRep r_api_Point (.agg #[iv 0,iv 0]) (api_Point.mk 0 0)) d
  exact wp_ret (rThen (sRetM0 (.tuple #[iv 0,iv 0,.agg #[iv 0,iv 0],iv 4]) S (rsl4 d (rvT (t:=6) (v:=iv 0) S d) (rvT (t:=7) (v:=iv 0) S d) (rvN (c:=8) (t:=33) (T:=33) (p:=a5) 0 [iv 0,iv 0] S d d d d) (rvT (t:=9) (v:=iv 4) S d)) ⟨(.agg #[iv 0,iv 0]),d,S.mem.sel [] [0] (by decide) d d⟩))
 refine sCondF S d aH (wp_skip (leafT (bq _ _ ?_)))
 refine sSeq (fun ci bv=>?_)
 obtain ⟨bP,h,bQ⟩:=bS h
 refine sCut (fun a w=>∃ bw,bw=bP∧St [] E [] w0 99 a w [(2,iv p2),(3,.pointer (some ⟨ar,0,none⟩)),(4,.pointer (some ⟨ah,0,none⟩)),(8,.pointer (some ⟨a5,0,none⟩)),(70,.bool bw)] [eBox ar 24 [iv p0.W,iv p0.H,.slice af p0.Bits.length ag],eBox ah 24 [iv p1.W,iv p1.H,.slice a8 p1.Bits.length a9],eBox a5 33 [iv 0,iv 0]] [fRep (rL rB) (.slice af p0.Bits.length ag) p0.Bits,fRep (rL rB) (.slice a8 p1.Bits.length a9) p1.Bits]) ?_ (fun a w hI=>?_)
 ·refine sRegion (sM S fun a S=>?_)
  refine sBin _ S (wN d) d d d (bLt _ _ _ _ .i64 p2 0) d (lb d) fun a S=>sM S fun a S=>?_
  rcases iS h with ⟨ap,h⟩ | ⟨ap,h⟩
  ·refine sSkN 2 2 false 42 S d d ap d fun a S=>sPickT (.bool true) S (wN d) d d ap d d (lb d) fun a S=>sM S fun a S=>?_
   refine sSkN 5 6 false 46 S d d d d fun a S=>sPickT (.bool true) S (wN d) d d d d d (lb d) fun a S=>sM S fun a S=>?_
   refine sSkN 5 13 false 53 S d d d d fun a S=>sPickT (.bool true) S (wN d) d d d d d (lb d) fun a S=>sM S fun a S=>?_
   refine sSkN 3 20 false 60 S d d d d fun a S=>sSkipU 23 true 63 64 S d d d d (lb d) fun a S=>?_
   refine sSkipU 23 true 63 65 S d d d d (lb d) fun a S=>?_
   refine sSkipU 23 true 63 66 S d d d d (lb d) fun a S=>?_
   refine sSkipU 23 true 63 67 S d d d d (lb d) fun a S=>?_
   refine sSkipU 23 true 63 68 S d d d d (lb d) fun a S=>?_
   refine sSk S d d d d d d fun a S=>sPickT (.bool true) S (wN d) d d d d d (lb d) fun a S=>?_
   exact lT (⟨true,Option.some.inj h,S.fix [2,1,0] [1,0] (by decide) d d d⟩)
  refine sMove (iv p2) S (wG 2 false 42 d d d ap) (.inl d) d d (lb d) fun a S=>sBin _ S (wG 2 false 42 d d d ap) d d d (bGt _ _ _ _ .i64 p2 3) d (lb d) fun a S=>sPickF (.bool (decide (3 < p2))) S (wN d) d d ap d d (lb d) fun a S=>sM S fun a S=>?_
  rcases iS h with ⟨ab,h⟩ | ⟨ab,h⟩
  ·refine sSkN 5 6 false 46 S d d ab d fun a S=>sPickT (.bool true) S (wN d) d d ab d d (lb d) fun a S=>sM S fun a S=>?_
   refine sSkN 5 13 false 53 S d d d d fun a S=>sPickT (.bool true) S (wN d) d d d d d (lb d) fun a S=>sM S fun a S=>?_
   refine sSkN 3 20 false 60 S d d d d fun a S=>sSkipU 23 true 63 64 S d d d d (lb d) fun a S=>?_
   refine sSkipU 23 true 63 65 S d d d d (lb d) fun a S=>?_
   refine sSkipU 23 true 63 66 S d d d d (lb d) fun a S=>?_
   refine sSkipU 23 true 63 67 S d d d d (lb d) fun a S=>?_
   refine sSkipU 23 true 63 68 S d d d d (lb d) fun a S=>?_
   refine sSk S d d d d d d fun a S=>sPickT (.bool true) S (wN d) d d d d d (lb d) fun a S=>?_
   exact lT (⟨true,Option.some.inj h,S.fix [2,1,0] [1,0] (by decide) d d d⟩)
  refine sField (b:=ar) (off:=0) 0 0 S (wG 6 false 46 d d d ab) d d d d d (lb d) fun a S=>sLoad1 2 (iv p0.W) S (wG 6 false 46 d d d ab) d d d d d d (lb d) fun a S=>sField (b:=ah) (off:=0) 0 0 S (wG 6 false 46 d d d ab) d d d d d (lb d) fun a S=>sLoad1 1 (iv p1.W) S (wG 6 false 46 d d d ab) d d d d d d (lb d) fun a S=>sBin _ S (wG 6 false 46 d d d ab) d d d (bNe _ _ _ _ .i64 p0.W p1.W) d (lb d) fun a S=>sPickF (.bool (p0.W != p1.W)) S (wN d) d d ab d d (lb d) fun a S=>sM S fun a S=>?_
  rcases iS h with ⟨ac,h⟩ | ⟨ac,h⟩
  ·refine sSkN 5 13 false 53 S d d ac d fun a S=>sPickT (.bool true) S (wN d) d d ac d d (lb d) fun a S=>sM S fun a S=>?_
   refine sSkN 3 20 false 60 S d d d d fun a S=>sSkipU 23 true 63 64 S d d d d (lb d) fun a S=>?_
   refine sSkipU 23 true 63 65 S d d d d (lb d) fun a S=>?_
   refine sSkipU 23 true 63 66 S d d d d (lb d) fun a S=>?_
   refine sSkipU 23 true 63 67 S d d d d (lb d) fun a S=>?_
   refine sSkipU 23 true 63 68 S d d d d (lb d) fun a S=>?_
   refine sSk S d d d d d d fun a S=>sPickT (.bool true) S (wN d) d d d d d (lb d) fun a S=>?_
   exact lT (⟨true,Option.some.inj h,S.fix [2,1,0] [1,0] (by decide) d d d⟩)
  refine sField (b:=ar) (off:=0) 1 1 S (wG 13 false 53 d d d ac) d d d d d (lb d) fun a S=>sLoad1 2 (iv p0.H) S (wG 13 false 53 d d d ac) d d d d d d (lb d) fun a S=>sField (b:=ah) (off:=0) 1 1 S (wG 13 false 53 d d d ac) d d d d d (lb d) fun a S=>sLoad1 1 (iv p1.H) S (wG 13 false 53 d d d ac) d d d d d d (lb d) fun a S=>sBin _ S (wG 13 false 53 d d d ac) d d d (bNe _ _ _ _ .i64 p0.H p1.H) d (lb d) fun a S=>sPickF (.bool (p0.H != p1.H)) S (wN d) d d ac d d (lb d) fun a S=>sM S fun a S=>?_
  rcases iS h with ⟨a6,h⟩ | ⟨a6,h⟩
  ·refine sSkN 3 20 false 60 S d d a6 d fun a S=>sSkipU 23 true 63 64 S d d d d (lb d) fun a S=>?_
   refine sSkipU 23 true 63 65 S d d d d (lb d) fun a S=>?_
   refine sSkipU 23 true 63 66 S d d d d (lb d) fun a S=>?_
   refine sSkipU 23 true 63 67 S d d d d (lb d) fun a S=>?_
   refine sSkipU 23 true 63 68 S d d d d (lb d) fun a S=>?_
   refine sSk S d d d a6 d d fun a S=>sPickT (.bool true) S (wN d) d d a6 d d (lb d) fun a S=>?_
   exact lT (⟨true,Option.some.inj h,S.fix [2,1,0] [1,0] (by decide) d d d⟩)
  refine sMove (iv p2) S (wG 20 false 60 d d d a6) (.inl d) d d (lb d) fun a S=>sBin _ S (wG 20 false 60 d d d a6) d d d (bGt _ _ _ _ .i64 p2 1) d (lb d) fun a S=>sMove (.bool (decide (1 < p2))) S (wG 20 false 60 d d d a6) (.inl d) d d (lb d) fun a S=>?_
  rcases iS h with ⟨ae,h⟩ | ⟨ae,h⟩
  rotate_left
  ·refine sSkN 5 23 true 63 S d d ae d fun a S=>sPickF (.bool false) S (wG 20 false 60 d d d a6) d d ae d d (lb d) fun a S=>sPickF (.bool false) S (wN d) d d a6 d d (lb d) fun a S=>?_
   exact lT (⟨false,Option.some.inj h,S.fix [2,1,0] [1,0] (by decide) d d d⟩)
  refine sField (b:=ar) (off:=0) 0 0 S (wG 23 true 63 d d d ae) d d d d d (lb d) fun a S=>sLoad1 2 (iv p0.W) S (wG 23 true 63 d d d ae) d d d d d d (lb d) fun a S=>sField (b:=ar) (off:=0) 1 1 S (wG 23 true 63 d d d ae) d d d d d (lb d) fun a S=>sLoad1 2 (iv p0.H) S (wG 23 true 63 d d d ae) d d d d d d (lb d) fun a S=>sBin _ S (wG 23 true 63 d d d ae) d d d (bNe _ _ _ _ .i64 p0.W p0.H) d (lb d) fun a S=>sPickT (.bool (p0.W != p0.H)) S (wG 20 false 60 d d d a6) d d ae d d (lb d) fun a S=>sPickF (.bool (p0.W != p0.H)) S (wN d) d d a6 d d (lb d) fun a S=>?_
  exact lT (⟨p0.W != p0.H,Option.some.inj h,S.fix [2,1,0] [1,0] (by decide) d d d⟩)
 obtain ⟨bw,rfl,S⟩:=hI
 have h:=bQ
 try dsimp only at h
 rcases iS h with ⟨aI,h⟩ | ⟨aI,h⟩
 ·refine sCondT S d aI (sSeq (fun cj bx=>sRegion (sBuild [] [iv 0,iv 0] S (wN d) d d d d (lb d) fun a S=>sN S fun a S=>?_)))
  refine sN S fun a S=>?_
  refine sStore (p:=a5) (off:=0) (T:=33) (vs:=[iv 0,iv 0]) (v:=.agg #[iv 0,iv 0]) 2 [iv 0,iv 0] S (wN d) d d d d d d d (by simp) d fun a w S=>sN S fun a S=>?_
  refine lT (bx _ _ ?_)
  obtain rfl:=tS h
  have S:=S.learn (fRep r_api_Point (.agg #[iv 0,iv 0]) (api_Point.mk 0 0)) d
  exact wp_ret (rThen (sRetM0 (.tuple #[iv 0,iv 0,.agg #[iv 0,iv 0],iv 2]) S (rsl4 d (rvT (t:=6) (v:=iv 0) S d) (rvT (t:=7) (v:=iv 0) S d) (rvN (c:=8) (t:=33) (T:=33) (p:=a5) 0 [iv 0,iv 0] S d d d d) (rvT (t:=9) (v:=iv 2) S d)) ⟨(.agg #[iv 0,iv 0]),d,S.mem.sel [] [0] (by decide) d d⟩))
 refine sCondF S d aI (wp_skip (leafT (bv _ _ ?_)))
 refine sSeq (fun ck bz=>sRegion (sField (b:=ar) (off:=0) 2 2 S (wN d) d d d d d (lb d) fun a S=>sLoad1 0 (.slice af p0.Bits.length ag) S (wN d) d d d d d d (lb d) fun a S=>sLen S (wN d) d Try.underlying22 d d (lb d) fun a S=>sBin _ S (wN d) d d d (bAdd _ _ _ _ (p0.Bits.length:Int) 1) d (lb d) fun a S=>sBuild [] [iv 0,iv 0,iv 0] S (wN d) d d d d (lb d) fun a S=>sAlloc (iv 0) S (wN d) d d [iv 0] d d (lb d) fun a ai w S=>sAlloc (.agg #[iv 0,iv 0,iv 0]) S (wN d) d d [iv 0,iv 0,iv 0] d d (lb d) fun a a7 w S=>sStore (p:=ai) (off:=0) (T:=3) (vs:=[iv 0]) (v:=iv (w64 ((p0.Bits.length:Int) + 1))) 1 [iv (w64 ((p0.Bits.length:Int) + 1))] S (wN d) d d d d d d d (by simp) d fun a w S=>sStore (p:=a7) (off:=0) (T:=93) (vs:=[iv 0,iv 0,iv 0]) (v:=.agg #[iv 0,iv 0,iv 0]) 1 [iv 0,iv 0,iv 0] S (wN d) d d d d d d d (by simp) d fun a w S=>lT (bz _ _ ?_)))
 obtain ⟨bR,h,bU⟩:=bS h
 refine sCut (fun a w=>∃ ax,∃ au,∃ am,∃ ao,(ax,au,am,ao)=bR∧∃ aJ,St [mark aJ] E [] w0 99 a w [(8,.pointer (some ⟨a5,0,none⟩)),(12,.pointer (some ⟨ai,0,none⟩)),(13,.pointer (some ⟨a7,0,none⟩))] [eBox a5 33 [iv 0,iv 0],eBox ai 3 [iv ax],eBox a7 93 [iv au,iv am,iv ao],eDef aJ] []) ?_ (fun a w hI=>?_)
 rotate_left
 ·obtain ⟨ax,au,am,ao,rfl,aJ,S⟩:=hI
  have h:=bU
  try dsimp only at h
  refine sSeq (fun cl bA=>sDraw (nf:=[7]) (W:=[(0,94,iv ax),(1,95,.pointer (some ⟨a7,0,none⟩)),(2,96,iv au),(3,97,.pointer (some ⟨a7,1,none⟩)),(4,98,.agg #[iv am,iv ao]),(5,6,iv ax),(6,7,iv au)]) d S ?_)
  refine node_by (A:=anc_compare_Nearest_0) 9 (by kernel_rfl) (by kernel_rfl) (by kernel_rfl) (by kernel_rfl) (by kernel_rfl) [0,1,2,3,4,5,6] (by kernel_rfl) (by decide) (by decide) (fF ?_ (fF ?_ (fF ?_ (fF ?_ (fF ?_ (fF ?_ (fF ?_ (fN ?_ (fE 7 (trivial)))))))))) [] (fun q hq=>by cases hq) (fun hY=>absurd (hY 7 (by decide)) (by decide))
  ·refine fJ [(12,_)] 0 [none] fun G a w S=>?_
   exact sLoad1 1 (iv ax) S (wN d) d d d d d d (lb d) fun a S=>leafL ⟨d,S⟩
  ·refine fJ [(13,_)] 1 [none] fun G a w S=>?_
   exact sField (b:=a7) (off:=0) 0 0 S (wN d) d d d d d (lb d) fun a S=>leafL ⟨d,S⟩
  ·refine fJ [(95,_)] 2 [some 1] fun G a w S=>?_
   exact sLoad1 2 (iv au) S (wN d) d d d d d d (lb d) fun a S=>leafL ⟨d,S⟩
  ·refine fJ [(13,_)] 3 [none] fun G a w S=>?_
   exact sField (b:=a7) (off:=0) 1 1 S (wN d) d d d d d (lb d) fun a S=>leafL ⟨d,S⟩
  ·refine fJ [(97,_)] 4 [some 3] fun G a w S=>?_
   exact sLoadN (p:=a7) (off:=1) (T:=93) (vs:=[iv au,iv am,iv ao]) 2 [iv am,iv ao] S (wN d) d d d d d d d (lb d) fun a S=>leafL ⟨d,S⟩
  ·exact fM 5 (some 0) d d d d (.inr d) d d d
  ·exact fM 6 (some 2) d d d d (.inr d) d d d
  refine ⟨_,[(8,.pointer (some ⟨a5,0,none⟩)),(98,.agg #[iv am,iv ao])],d,(srcs_of [none,some 4] d d d),fun G a w S=>?_⟩
  refine sStore (p:=a5) (off:=0) (T:=33) (vs:=[iv 0,iv 0]) (v:=.agg #[iv am,iv ao]) 0 [iv am,iv ao] S (wN d) d d d d d d d (by simp) d fun a w S=>leafL ⟨d,_,_,.inr ⟨[(8,9,iv 0)],d,S,hz_of d,?_⟩⟩
  refine node_by (A:=anc_compare_Nearest_0) 9 (by kernel_rfl) (by kernel_rfl) (by kernel_rfl) (by kernel_rfl) (by kernel_rfl) [8,0,1,2,3,4,5,6] (by kernel_rfl) (by decide) (by decide) (fD 7 (fD 7 (fD 7 (fD 7 (fD 7 (fD 7 (fD 7 (fY (fF ?_ (trivial)))))))))) [(6,iv ax),(7,iv au),(8,.pointer (some ⟨a5,0,none⟩)),(9,iv 0)] (fin_of [some 6,some 7,none,some 0] d (by kernel_rfl) (by kernel_rfl)) (fun _ a w S=>?_)
  ·refine fJ [] 0 [] fun G a w S=>?_
   exact sN S fun a S=>leafL ⟨d,S⟩
  refine leafT (bA _ _ ?_)
  refine wp_ret (sRetM1 3 S d (fun a w S=>?_))
  obtain rfl:=tS h
  have S:=S.learn (fRep r_api_Point (.agg #[iv am,iv ao]) (api_Point.mk am ao)) d
  exact sFin (.tuple #[iv ax,iv au,.agg #[iv am,iv ao],iv 0]) S (rsl4 d (rvT (t:=6) (v:=iv ax) S d) (rvT (t:=7) (v:=iv au) S d) (rvN (c:=8) (t:=33) (T:=33) (p:=a5) 0 [iv am,iv ao] S d d d d) (rvT (t:=9) (v:=iv 0) S d)) ⟨(.agg #[iv am,iv ao]),d,S.mem.sel [] [0] (by decide) d d⟩
 refine sSeq (fun cm bB=>sRegion (sLoadN (p:=ar) (off:=0) (T:=24) (vs:=[iv p0.W,iv p0.H,.slice af p0.Bits.length ag]) 2 [iv p0.W,iv p0.H,.slice af p0.Bits.length ag] S (wN d) d d d d d d d (lb d) fun a S=>sM S fun a S=>?_))
 obtain ⟨aq,bC,h⟩:=bS h
 have S:=S.learn (fRep r_api_Grid (.agg #[iv p0.W,iv p0.H,.slice af p0.Bits.length ag]) p0) ⟨_,d,S.mem.know (i:=0) (e:=fRep (rL rB) (.slice af p0.Bits.length ag) p0.Bits) d⟩
 refine sCall (X:=Value × Value) (f:=49) (vs:=[.agg #[iv p0.W,iv p0.H,.slice af p0.Bits.length ag],iv p2]) (val:=c_compare_ways_val aq) (B':=fun _=>[]) (D':=c_compare_ways_D aq) [] [eBox a7 93 [iv 0,iv 0,iv 0],eBox ai 3 [iv (w64 ((p0.Bits.length:Int) + 1))],eBox ar 24 [iv p0.W,iv p0.H,.slice af p0.Bits.length ag],eBox ah 24 [iv p1.W,iv p1.H,.slice a8 p1.Bits.length a9],eBox a5 33 [iv 0,iv 0]] [fRep r_api_Grid (.agg #[iv p0.W,iv p0.H,.slice af p0.Bits.length ag]) p0] [0,1,2,3,4] [0] S (wN d) d callee49 d (by decide) d d (fun E1 w1 S1=>c_compare_ways E1 w1 p0 (.agg #[iv p0.W,iv p0.H,.slice af p0.Bits.length ag]) p2 aq bC S1) d (lb d) fun xx a w S=>?_
 obtain ⟨av,aw⟩:=xx
 refine lT (bB _ _ (wp_block ?_))
 obtain ⟨cn,ay,aK⟩:=bS h
 replace S:St [] E [] w0 99 a w [(4,.pointer (some ⟨ah,0,none⟩)),(8,.pointer (some ⟨a5,0,none⟩)),(12,.pointer (some ⟨ai,0,none⟩)),(13,.pointer (some ⟨a7,0,none⟩)),(79,.func (.func 81) #[] #[av,aw])] [eBox ah 24 [iv p1.W,iv p1.H,.slice a8 p1.Bits.length a9],eBox a5 33 [iv 0,iv 0],eBox ai 3 [iv (w64 ((p0.Bits.length:Int) + 1))],eBox a7 93 [iv 0,iv 0,iv 0]] [fPtr (rI .i64) (av) aq.1,fPtr r_api_Grid (aw) aq.2,fRep (rL rB) (.slice a8 p1.Bits.length a9) p1.Bits]:=S.fix [3,4,1,0] [0,1,4] (by decide) rfl rfl rfl
 refine sRange2 (B:=compare_Nearest_l2 p1) (fun s0 L D=>match s0 with | (az,aL,aM,aO)=>L=[eBox ah 24 [iv p1.W,iv p1.H,.slice a8 p1.Bits.length a9],eBox a5 33 [iv 0,iv 0],eBox ai 3 [iv az],eBox a7 93 [iv aL,iv aM,iv aO]]∧D=[fPtr (rI .i64) (av) aq.1,fPtr r_api_Grid (aw) aq.2,fRep (rL rB) (.slice a8 p1.Bits.length a9) p1.Bits]) (fun t0 c L D=>match t0 with | (aZ,ba,bb,bc)=>c=.exit 0∧L=[eBox a5 33 [iv 0,iv 0],eBox ai 3 [iv aZ],eBox a7 93 [iv ba,iv bb,iv bc]]∧D=[]) [0,1] S ay d callee81 (it_compare_ways_1 aq.1 av aq.2 aw) d (by decide) (by decide) ⟨d,d⟩ ?_ ?_ ?_
 ·intro E l0 s0 a0 aa bM bV b L D K a w0 hK hIL hB S
  clear ay aK h hK
  obtain ⟨az,aL,aM,aO⟩:=s0
  unfold compare_Nearest_l2 at hB
  dsimp only at hB hIL
  obtain ⟨rfl,rfl⟩:=hIL
  have h:=hB
  clear hB
  obtain rfl:bM=.agg #[iv a0.op,iv a0.at_.X,iv a0.at_.Y]:=S.mem.know (i:=0) (e:=fRep r_compare_way (bM) a0) d
  obtain ⟨bW,rfl,aU⟩:=S.mem.know (i:=1) (e:=fRep r_api_Grid (bV) aa) d
  have S:=S.learn (fRep (rL rB) bW aa.Bits) aU
  obtain ⟨aj,ak,_,rfl,_⟩:=aU
  refine sSeqR (fun co bD=>sRegionR (by repeat (first | exact roundU_out | exact it_out | exact lo_false | refine lo_then ?_ | refine lo_block ?_)) d ?_)
  refine sAlloc (.agg #[iv 0,iv 0,iv 0]) S (wN d) d d [iv 0,iv 0,iv 0] d d (lb d) fun a bE w S=>sStore (p:=bE) (off:=0) (T:=93) (vs:=[iv 0,iv 0,iv 0]) (v:=.agg #[iv a0.op,iv a0.at_.X,iv a0.at_.Y]) 0 [iv a0.op,iv a0.at_.X,iv a0.at_.Y] S (wN d) d d d d d d d (by simp) d fun a w S=>lT (bD _ _ (sRegionR (by repeat (first | exact roundU_out | exact it_out | exact lo_false | refine lo_then ?_ | refine lo_block ?_)) d ?_))
  refine sAlloc (.agg #[iv 0,iv 0,.slice none 0 0]) S (wN d) d d [iv 0,iv 0,.slice none 0 0] d d (lb d) fun a bN w S=>sStore (p:=bN) (off:=0) (T:=24) (vs:=[iv 0,iv 0,.slice none 0 0]) (v:=.agg #[iv aa.W,iv aa.H,.slice aj aa.Bits.length ak]) 0 [iv aa.W,iv aa.H,.slice aj aa.Bits.length ak] S (wN d) d d d d d d d (by simp) d fun a w S=>lT (⟨_,_,_,S,fun K a w0 hK S=>?_⟩)
  refine wpIn_block ?_
  obtain ⟨bX,h,bY⟩:=bS h
  refine sCutR (fun a w=>∃ aP,∃ aV,∃ aW,∃ aX,(aP,aV,aW,aX)=bX∧St [] E K w0 99 a w [(4,.pointer (some ⟨ah,0,none⟩)),(8,.pointer (some ⟨a5,0,none⟩)),(12,.pointer (some ⟨ai,0,none⟩)),(13,.pointer (some ⟨a7,0,none⟩)),(79,.func (.func 81) #[] #[av,aw]),(80,.agg #[iv a0.op,iv a0.at_.X,iv a0.at_.Y]),(81,.agg #[iv aa.W,iv aa.H,.slice aj aa.Bits.length ak])] [eBox ah 24 [iv p1.W,iv p1.H,.slice a8 p1.Bits.length a9],eBox a5 33 [iv 0,iv 0],eBox ai 3 [iv aP],eBox a7 93 [iv aV,iv aW,iv aX]] [fPtr (rI .i64) (av) aq.1,fPtr r_api_Grid (aw) aq.2,fRep (rL rB) (.slice aj aa.Bits.length ak) aa.Bits,fRep (rL rB) (.slice a8 p1.Bits.length a9) p1.Bits]) ?_ (fun a w hI=>?_)
  rotate_left
  ·obtain ⟨aP,aV,aW,aX,rfl,S⟩:=hI
   have h:=bY
   try dsimp only at h
   refine sSeqR (fun cp bG=>sRegionR (by repeat (first | exact roundU_out | exact it_out | exact lo_false | refine lo_then ?_ | refine lo_block ?_)) d ?_)
   refine sLoad1 2 (iv aP) S (wN d) d d d d d d (lb d) fun a S=>sBin _ S (wN d) d d d (bEq _ _ _ _ .i64 aP 0) d (lb d) fun a S=>lT (bG _ _ ?_)
   rcases iS h with ⟨aQ,h⟩ | ⟨aQ,h⟩
   ·refine sCondTR S d aQ ?_
    exact wpIn_exit (xMiss d (rnX (aP,aV,aW,aX) _ _ [] (Option.some.inj h) ⟨d,d,d⟩ (S.fix [1,2,3] [] (by decide) d d d)))
   refine sCondFR S d aQ ?_
   exact wpIn_skip (leafB (rnN (aP,aV,aW,aX) _ _ [] (Option.some.inj h) ⟨d,d⟩ (S.fix [0,1,2,3] [0,1,3] (by decide) d d d)))
  refine sSeqR (fun cq bH=>sRegionR (by repeat (first | exact roundU_out | exact it_out | exact lo_false | refine lo_then ?_ | refine lo_block ?_)) d ?_)
  refine sField (b:=bN) (off:=0) 2 2 S (wN d) d d d d d (lb d) fun a S=>sLoad1 0 (.slice aj aa.Bits.length ak) S (wN d) d d d d d d (lb d) fun a S=>sField (b:=ah) (off:=0) 2 2 S (wN d) d d d d d (lb d) fun a S=>sLoad1 2 (.slice a8 p1.Bits.length a9) S (wN d) d d d d d d (lb d) fun a S=>?_
  obtain ⟨aA,bI,h⟩:=bS h
  have S1:=S.mem
  refine sCq [.slice aj aa.Bits.length ak,.slice a8 p1.Bits.length a9] (iv aA) S callee46 (S1.quiet [0,5] d) (fun E1 w1 S1=>c_compare_differ E1 w1 aa.Bits (.slice aj aa.Bits.length ak) p1.Bits (.slice a8 p1.Bits.length a9) aA bI S1) fun a w S=>?_
  refine sN S fun a S=>?_
  refine lT (bH _ _ (sSeqR (fun cr bJ=>sRegionR (by repeat (first | exact roundU_out | exact it_out | exact lo_false | refine lo_then ?_ | refine lo_block ?_)) d ?_)))
  refine sM S fun a S=>?_
  refine sLoad1 4 (iv az) S (wN d) d d d d d d (lb d) fun a S=>sBin _ S (wN d) d d d (bLt _ _ _ _ .i64 aA az) d (lb d) fun a S=>lT (bJ _ _ ?_)
  rcases iS h with ⟨aR,h⟩ | ⟨aR,h⟩
  rotate_left
  ·refine sCondFR S d aR ?_
   exact wpIn_skip (leafT (⟨az,aL,aM,aO,Option.some.inj h,S.fix [2,3,4,5] [3,4,0,5] (by decide) d d d⟩))
  refine sCondTR S d aR ?_
  refine sDrawR (A:=[]) (nf:=[2,3]) (W:=[(0,90,iv aA),(1,91,.agg #[iv a0.op,iv a0.at_.X,iv a0.at_.Y])]) (by repeat (first | exact roundU_out | exact it_out | exact lo_false | refine lo_then ?_ | refine lo_block ?_)) d d S ?_
  refine node_by (A:=[[],[],[0],[0,1,2]]) (nf:=[2,3]) (Y:=[]) (W:=[(0,90,iv aA),(1,91,.agg #[iv a0.op,iv a0.at_.X,iv a0.at_.Y])]) 4 (by kernel_rfl) (by kernel_rfl) (by kernel_rfl) (by kernel_rfl) (by kernel_rfl) [0,1] (by kernel_rfl) (by decide) (by decide) (fF ?_ (fF ?_ (fN ?_ (aB 3 0 2 (by decide) (trivial))))) [] (fun q hq=>by cases hq) (fun hY=>absurd (hY 2 (by decide)) (by decide))
  ·exact fM 0 none d d d d (.inl d) d d d
  ·refine fJ [(14,_)] 1 [none] fun G a w S=>?_
   exact sLoadN (p:=bE) (off:=0) (T:=93) (vs:=[iv a0.op,iv a0.at_.X,iv a0.at_.Y]) 1 [iv a0.op,iv a0.at_.X,iv a0.at_.Y] S (wN d) d d d d d d d (lb d) fun a S=>leafL ⟨d,S⟩
  refine ⟨_,[(12,.pointer (some ⟨ai,0,none⟩)),(90,iv aA)],d,(srcs_of [none,some 0] d d d),fun G a w S=>?_⟩
  refine sStore (p:=ai) (off:=0) (T:=3) (vs:=[iv az]) (v:=iv aA) 4 [iv aA] S (wN d) d d d d d d d (by simp) d fun a w S=>leafL ⟨d,_,_,.inr ⟨[],d,S,hz_of d,?_⟩⟩
  refine node_by (A:=[[],[],[0],[0,1,2]]) (nf:=[2,3]) (Y:=[2]) 4 (by kernel_rfl) (by kernel_rfl) (by kernel_rfl) (by kernel_rfl) (by kernel_rfl) [0,1] (by kernel_rfl) (by decide) (by decide) (fD 2 (fF ?_ (fY (fN ?_ (trivial))))) [] (fun q hq=>by cases hq) (fun hY=>absurd (hY 3 (by decide)) (by decide))
  ·refine fJ [(14,_)] 1 [none] fun G a w S=>?_
   exact sLoadN (p:=bE) (off:=0) (T:=93) (vs:=[iv a0.op,iv a0.at_.X,iv a0.at_.Y]) 2 [iv a0.op,iv a0.at_.X,iv a0.at_.Y] S (wN d) d d d d d d d (lb d) fun a S=>leafL ⟨d,S⟩
  refine ⟨_,[(13,.pointer (some ⟨a7,0,none⟩)),(91,.agg #[iv a0.op,iv a0.at_.X,iv a0.at_.Y])],d,(srcs_of [none,some 1] d d d),fun G a w S=>?_⟩
  refine sStore (p:=a7) (off:=0) (T:=93) (vs:=[iv aL,iv aM,iv aO]) (v:=.agg #[iv a0.op,iv a0.at_.X,iv a0.at_.Y]) 5 [iv a0.op,iv a0.at_.X,iv a0.at_.Y] S (wN d) d d d d d d d (by simp) d fun a w S=>leafL ⟨d,_,_,.inr ⟨[],d,S,hz_of d,?_⟩⟩
  refine node_by (A:=[[],[],[0],[0,1,2]]) (nf:=[2,3]) (Y:=[3,2]) 4 (by kernel_rfl) (by kernel_rfl) (by kernel_rfl) (by kernel_rfl) (by kernel_rfl) [0,1] (by kernel_rfl) (by decide) (by decide) (fD 3 (fD 3 (fY (fY (trivial))))) [(4,.pointer (some ⟨ah,0,none⟩)),(8,.pointer (some ⟨a5,0,none⟩)),(12,.pointer (some ⟨ai,0,none⟩)),(13,.pointer (some ⟨a7,0,none⟩)),(79,.func (.func 81) #[] #[av,aw]),(80,.agg #[iv a0.op,iv a0.at_.X,iv a0.at_.Y]),(81,.agg #[iv aa.W,iv aa.H,.slice aj aa.Bits.length ak])] (fin_of [none,none,none,none,none,none,none] d (by kernel_rfl) (by kernel_rfl)) (fun _ a w S=>?_)
  exact leafT (⟨aA,a0.op,a0.at_.X,a0.at_.Y,Option.some.inj h,S.fix [4,5,1,0] [3,4,0,5] (by decide) d d d⟩)
 ·intro al s0 L D a w hr hIL S
  clear h
  obtain ⟨az,aL,aM,aO⟩:=s0
  obtain rfl:=hr
  dsimp only at aK hIL
  obtain ⟨rfl,rfl⟩:=hIL
  have h:=aK
  clear aK ay
  replace S:St [mark al] E [] w0 99 a w [(4,.pointer (some ⟨ah,0,none⟩)),(8,.pointer (some ⟨a5,0,none⟩)),(12,.pointer (some ⟨ai,0,none⟩)),(13,.pointer (some ⟨a7,0,none⟩)),(79,.func (.func 81) #[] #[av,aw])] [eBox ah 24 [iv p1.W,iv p1.H,.slice a8 p1.Bits.length a9],eBox a5 33 [iv 0,iv 0],eBox ai 3 [iv az],eBox a7 93 [iv aL,iv aM,iv aO],eDef al] [fPtr (rI .i64) (av) aq.1,fPtr r_api_Grid (aw) aq.2,fRep (rL rB) (.slice a8 p1.Bits.length a9) p1.Bits]:=S
  exact leafB (leafT (⟨az,aL,aM,aO,Option.some.inj h,al,S.fix [1,2,3,4] [] (by decide) d d d⟩))
 ·intro al c0 t0 L D a w hr hIX S
  clear h
  obtain rfl:=hr
  obtain ⟨aZ,ba,bb,bc⟩:=t0
  dsimp only at aK hIX
  obtain ⟨rfl,rfl,rfl⟩:=hIX
  have h:=aK
  clear aK ay
  replace S:St [mark al] E [] w0 99 a w [(4,.pointer (some ⟨ah,0,none⟩)),(8,.pointer (some ⟨a5,0,none⟩)),(12,.pointer (some ⟨ai,0,none⟩)),(13,.pointer (some ⟨a7,0,none⟩)),(79,.func (.func 81) #[] #[av,aw])] [eBox a5 33 [iv 0,iv 0],eBox ai 3 [iv aZ],eBox a7 93 [iv ba,iv bb,iv bc],eDef al] []:=S
  exact wp_exit (xHit (leafT (⟨aZ,ba,bb,bc,Option.some.inj h,al,S.fix [0,1,2,3] [] (by decide) d d d⟩)))
noncomputable def F_chart_counted (p0:api_Chart):Option api_Chart:=
 some p0
def c_chart_counted_val (r:api_Chart) (x:Value):Value:=.func (.func 99) #[] #[x]
def c_chart_counted_D (r:api_Chart) (x:Value):List Fact:=[fPtr r_api_Chart x r]
theorem c_chart_counted (E:Nat→Prop) (w0:World) (p0:api_Chart) (v0:Value) (r:api_Chart) (h:F_chart_counted p0=some r) (S:St0 E [] w0 w0 [] [fRep r_api_Chart (v0) p0]) :
 Calls Try.prog 82 #[v0] w0 (Ret (X:=Value) E [] w0 (c_chart_counted_val r) (fun _=>[]) (c_chart_counted_D r)):=by
 unfold F_chart_counted at h
 obtain ⟨u1,rfl,a6⟩:=S.know (i:=0) (e:=fRep r_api_Chart (v0) p0) d
 have S:=S.learn (fRep (rL r_api_Row) u1 p0.Rows) a6
 obtain ⟨a0,a5,_,rfl,_⟩:=a6
 refine sEnter (args:=[.agg #[iv p0.Start,.slice a0 p0.Rows.length a5]]) 4 Try.func82 d d (by simp) S (fun a S=>?_)
 refine sSeq (fun K5 a7=>sRegion (sBox (v:=.agg #[iv p0.Start,.slice a0 p0.Rows.length a5]) S (wN d) d d [iv p0.Start,.slice a0 p0.Rows.length a5] d d (lb d) fun a b6 w S=>sN S fun a S=>?_))
 refine lT (a7 _ _ (sSeq (fun K7 a8=>sRegion (sFunc (g:=99) (vs:=[.pointer (some ⟨b6,0,none⟩)]) S (wN d) d d d (lb d) fun a S=>?_))))
 refine sN S fun a S=>?_
 refine lT (a8 _ _ ?_)
 have S:=S.shutB (r:=r_api_Chart) (T:=42) (b:=b6) (cs:=[iv p0.Start,.slice a0 p0.Rows.length a5]) 0 (.agg #[iv p0.Start,.slice a0 p0.Rows.length a5]) p0 d d (S.mem.know (i:=1) (e:=fRep r_api_Chart (.agg #[iv p0.Start,.slice a0 p0.Rows.length a5]) p0) d)
 obtain rfl:=tS h
 exact wp_ret (sRet (.func (.func 99) #[] #[.pointer (some ⟨b6,0,none⟩)]) S (rsl1 d (rvT (t:=2) (v:=.func (.func 99) #[] #[.pointer (some ⟨b6,0,none⟩)]) S d)) ⟨(.pointer (some ⟨b6,0,none⟩)),d,S.mem.sel [] [0] (by decide) d d⟩)
noncomputable def chart_counted_1_l1 {σ τ:Type} (p0:api_Chart) (B:σ→(Int × chart_count)→Option (σ ⊕ τ)):(Int × Int × σ)→Option ((Int × Int × σ) ⊕ ((σ ⊕ τ) ⊕ (σ))):=fun s0=>match s0 with
 | (a0,a5,gz13)=>
  if decide (a5 < (p0.Rows.length:Int)) then
   (idxO p0.Rows a5).bind fun a9=>
   (F_stitch_Uses a9.Cells).bind fun a6=>
   Option.bind (α:=(Int × Int)) (
    if a6.2 != 0 then
     some (0,a6.2)
    else
     if a6.1 != a0 then
      some (0,26)
     else
      (F_stitch_Makes a9.Cells).bind fun aa=>
      some (aa.1,0)) fun (a7,a8)=>
   (B gz13 (a5,(chart_count.mk a0 a7 a8))).bind fun ab=>
   match ab with
   | .inl gz53=>
    if ((chart_count.mk a0 a7 a8).e) != 0 then
     some (.inr (.inl (.inl gz53)))
    else
     some (.inl ((chart_count.mk a0 a7 a8).after,w64 (a5 + 1),gz53))
   | .inr tz54=>
    some (.inr (.inl (.inr tz54)))
  else
   some (.inr (.inr gz13))
noncomputable def I_chart_counted_1 (p0:api_Chart) (σ τ:Type) (B:σ→(Int × chart_count)→Option (σ ⊕ τ)) (gz0:σ):Option (σ ⊕ τ):=
 (whileO (chart_counted_1_l1 p0 B) (p0.Start,0,gz0)).bind fun z0=>match z0 with
  | .inl z=>
   some z
  | .inr gz17=>
   some (.inl gz17)
theorem it_chart_counted_1 (p0:api_Chart) (v0:Value):SeqF Try.prog 99 #[v0] (fA2 (rI .i64) r_chart_count) (I_chart_counted_1 p0) [fPtr r_api_Chart (v0) p0]:=by
 refine seqF_of (lb:=[v0]) (fun σ τ B gz0 r h l J Jx E w0 hC S hJ=>?_)
 unfold I_chart_counted_1 at h
 refine sEnterI (args:=[.func (.yield l) #[] #[],v0]) 57 Try.func99 d d (by simp) S (fun a S=>?_)
 refine sSeq (fun K1 aT=>sRegion ?_)
 obtain ⟨q2,aU,S⟩:=pFld (P:=Try.prog) (r:=r_api_Chart) (s2:=(rI .i64)) (g:=(·.Start)) (q:=v0) (z:=p0) 42 0 0 0 S d d comp_api_Chart_Start
 refine sFldV (q:=v0) S (wN d) d d aU d (lb d) fun a S=>?_
 obtain ⟨u4,S⟩:=pLoad (r:=(rI .i64)) (q:=q2) (x:=p0.Start) 0 S d
 obtain rfl:u4=iv p0.Start:=S.mem.know (i:=1) (e:=fRep (rI .i64) (u4) p0.Start) d
 refine sLoadV1 (vq:=q2) 0 (iv p0.Start) S (wN d) d d d d d (lb d) fun a S=>sN S fun a S=>?_
 refine lT (aT _ _ (sSeq (fun K5 aV=>sRegion ?_)))
 obtain ⟨q6,aW,S⟩:=pFld (P:=Try.prog) (r:=r_api_Chart) (s2:=(rL r_api_Row)) (g:=(·.Rows)) (q:=v0) (z:=p0) 42 1 3 1 S d d comp_api_Chart_Rows
 refine sFldV (q:=v0) S (wN d) d d aW d (lb d) fun a S=>?_
 obtain ⟨u8,S⟩:=pLoad (r:=(rL r_api_Row)) (q:=q6) (x:=p0.Rows) 0 S d
 obtain ⟨al,ac,_,rfl,_⟩:=S.mem.know (i:=1) (e:=fRep (rL r_api_Row) (u8) p0.Rows) d
 refine sLoadV1 (vq:=q6) 0 (.slice al p0.Rows.length ac) S (wN d) d d d d d (lb d) fun a S=>sLen S (wN d) d Try.underlying40 d d (lb d) fun a S=>sM S fun a S=>?_
 refine lT (aV _ _ (wp_block ?_))
 obtain ⟨bc,hl,ap⟩:=bS h
 refine sLoop hl (fun s0 a w=>match s0 with | (a0,af,gz13)=>∃ E w0,J gz13 E w0∧St [] E [] w0 57 a w [(0,.func (.yield l) #[] #[]),(3,iv a0),(12,.slice al p0.Rows.length ac),(13,iv (p0.Rows.length:Int)),(14,iv af)] [] [fRep (rL r_api_Row) (.slice al p0.Rows.length ac) p0.Rows]) ⟨_,_,hJ,S.fix [] [1] (by decide) d d d⟩ ?_
 clear hl h
 intro s0 a w c0 hI h ag
 obtain ⟨a0,af,gz13⟩:=s0
 unfold chart_counted_1_l1 at h
 dsimp only at h hI
 obtain ⟨E,w0,hJ,S⟩:=hI
 refine sSeq (fun bf aq=>sRegion (sBin _ S (wN d) d d d (bLt _ _ _ _ .i64 af (p0.Rows.length:Int)) d (lb d) fun a S=>lT (aq _ _ (sSeq (fun bg ar=>?_)))))
 rcases iS h with ⟨ah,h⟩ | ⟨ah,h⟩
 rotate_left
 ·refine sCondF S d ah ?_
  obtain rfl:=tS h
  obtain rfl:=ag _ d
  have h:=ap
  try dsimp only at h
  exact wp_exit (xThen (xThen (xHit (sEnd (.tuple #[]) S (res0 d) (sGoI S hC hJ (Option.some.inj h) _)))))
 refine sCondT S d ah (wp_skip (leafT (ar _ _ ?_)))
 refine sSeq (fun bh au=>wp_block ?_)
 refine sSeq (fun bi av=>sRegion (sM S fun a S=>?_))
 obtain ⟨a9,aw,h⟩:=bS h
 obtain ⟨aO,ax,S⟩:=pIdx (P:=Try.prog) (r:=r_api_Row) (v:=.slice al p0.Rows.length ac) (xs:=p0.Rows) (j:=af) 40 87 0 S Try.underlying40 d d aw
 refine sIdxV S (wN d) d d d ax d (lb d) fun a S=>?_
 obtain ⟨aX,S⟩:=pLoad (r:=r_api_Row) (q:=aO) (x:=a9) 0 S d
 obtain ⟨aZ,rfl,am⟩:=S.mem.know (i:=1) (e:=fRep r_api_Row (aX) a9) d
 have S:=S.learn (fRep (rL r_api_Stitch) aZ a9.Cells) am
 obtain ⟨a7,a8,_,rfl,_⟩:=am
 refine sLoadVN (vq:=aO) 1 [.bool a9.Back,.slice a7 a9.Cells.length a8] S (wN d) d d d d d d (lb d) fun a S=>sAlloc (.agg #[.bool false,.slice none 0 0]) S (wN d) d d [.bool false,.slice none 0 0] d d (lb d) fun a ay w S=>sN S fun a S=>?_
 refine sStore (p:=ay) (off:=0) (T:=87) (vs:=[.bool false,.slice none 0 0]) (v:=.agg #[.bool a9.Back,.slice a7 a9.Cells.length a8]) 0 [.bool a9.Back,.slice a7 a9.Cells.length a8] S (wN d) d d d d d d d (by simp) d fun a w S=>lT (av _ _ (sSeq (fun bj az=>sRegion (sM S fun a S=>?_))))
 refine sBuild [(0,iv a0)] [iv a0,iv 0,iv 0] S (wN d) d d d d (lb d) fun a S=>sAlloc (.agg #[iv 0,iv 0,iv 0]) S (wN d) d d [iv 0,iv 0,iv 0] d d (lb d) fun a aa w S=>sStore (p:=aa) (off:=0) (T:=134) (vs:=[iv 0,iv 0,iv 0]) (v:=.agg #[iv a0,iv 0,iv 0]) 0 [iv a0,iv 0,iv 0] S (wN d) d d d d d d d (by simp) d fun a w S=>lT (az _ _ (sSeq (fun bk aA=>sRegion (sField (b:=ay) (off:=0) 1 1 S (wN d) d d d d d (lb d) fun a S=>sLoad1 1 (.slice a7 a9.Cells.length a8) S (wN d) d d d d d d (lb d) fun a S=>?_))))
 obtain ⟨ab,aC,h⟩:=bS h
 have S1:=S.mem
 refine sCq [.slice a7 a9.Cells.length a8] (.tuple #[iv ab.1,iv ab.2]) S callee100 (S1.quiet [0] d) (fun E1 w1 S1=>c_stitch_Uses E1 w1 a9.Cells (.slice a7 a9.Cells.length a8) ab aC S1) fun a w S=>?_
 refine sM S fun a S=>?_
 refine sExtract (vs:=[iv ab.1,iv ab.2]) (iv ab.1) S (wN d) d d d d (lb d) fun a S=>sExtract (vs:=[iv ab.1,iv ab.2]) (iv ab.2) S (wN d) d d d d (lb d) fun a S=>sN S fun a S=>?_
 refine sN S fun a S=>?_
 refine lT (aA _ _ ?_)
 obtain ⟨ba,h,bb⟩:=bS h
 refine sCut (fun a w=>∃ a5,∃ a6,(a5,a6)=ba∧∃ E w0,J gz13 E w0∧St [] E [] w0 57 a w [(0,.func (.yield l) #[] #[]),(4,iv af),(6,.pointer (some ⟨aa,0,none⟩)),(12,.slice al p0.Rows.length ac),(13,iv (p0.Rows.length:Int)),(14,iv af)] [eBox aa 134 [iv a0,iv a5,iv a6]] [fRep (rL r_api_Row) (.slice al p0.Rows.length ac) p0.Rows]) ?_ (fun a w hI=>?_)
 ·refine wp_block ?_
  refine sSeq (fun bl aG=>sRegion (sM S fun a S=>?_))
  refine sBin _ S (wN d) d d d (bNe _ _ _ _ .i64 ab.2 0) d (lb d) fun a S=>sN S fun a S=>?_
  refine lT (aG _ _ ?_)
  rcases iS h with ⟨ai,h⟩ | ⟨ai,h⟩
  ·refine sCondT S d ai (sRegion (sM S fun a S=>?_))
   refine sField (b:=aa) (off:=0) 2 2 S (wN d) d d d d d (lb d) fun a S=>sStore (p:=aa) (off:=2) (T:=134) (vs:=[iv a0,iv 0,iv 0]) (v:=iv ab.2) 0 [iv ab.2] S (wN d) d d d d d d d (by simp) d fun a w S=>?_
   exact leafL (leafB (leafT (⟨0,ab.2,Option.some.inj h,_,_,hJ,S.fix [0] [4] (by decide) d d d⟩)))
  refine sCondF S d ai (sSeq (fun bm aH=>sRegion (sM S fun a S=>?_)))
  refine sM S fun a S=>?_
  refine sBin _ S (wN d) d d d (bNe _ _ _ _ .i64 ab.1 a0) d (lb d) fun a S=>sN S fun a S=>?_
  refine lT (aH _ _ ?_)
  rcases iS h with ⟨aj,h⟩ | ⟨aj,h⟩
  ·refine sCondT S d aj (sRegion (sField (b:=aa) (off:=0) 2 2 S (wN d) d d d d d (lb d) fun a S=>sStore (p:=aa) (off:=2) (T:=134) (vs:=[iv a0,iv 0,iv 0]) (v:=iv 26) 0 [iv 26] S (wN d) d d d d d d d (by simp) d fun a w S=>?_))
   exact leafL (leafB (leafT (⟨0,26,Option.some.inj h,_,_,hJ,S.fix [0] [4] (by decide) d d d⟩)))
  refine sCondF S d aj (sRegion (sField (b:=ay) (off:=0) 1 1 S (wN d) d d d d d (lb d) fun a S=>sLoad1 1 (.slice a7 a9.Cells.length a8) S (wN d) d d d d d d (lb d) fun a S=>?_))
  obtain ⟨ae,aI,h⟩:=bS h
  have S1:=S.mem
  refine sCq [.slice a7 a9.Cells.length a8] (.tuple #[iv ae.1,iv ae.2]) S callee101 (S1.quiet [0] d) (fun E1 w1 S1=>c_stitch_Makes E1 w1 a9.Cells (.slice a7 a9.Cells.length a8) ae aI S1) fun a w S=>?_
  refine sM S fun a S=>?_
  refine sExtract (vs:=[iv ae.1,iv ae.2]) (iv ae.1) S (wN d) d d d d (lb d) fun a S=>sExtract (vs:=[iv ae.1,iv ae.2]) (iv ae.2) S (wN d) d d d d (lb d) fun a S=>sField (b:=aa) (off:=0) 1 1 S (wN d) d d d d d (lb d) fun a S=>sStore (p:=aa) (off:=1) (T:=134) (vs:=[iv a0,iv 0,iv 0]) (v:=iv ae.1) 0 [iv ae.1] S (wN d) d d d d d d d (by simp) d fun a w S=>?_
  exact leafL (leafB (leafT (⟨ae.1,0,Option.some.inj h,_,_,hJ,S.fix [0] [4] (by decide) d d d⟩)))
 obtain ⟨a5,a6,rfl,E,w0,hJ,S⟩:=hI
 have h:=bb
 try dsimp only at h
 refine sSeq (fun bo aJ=>sSeq (fun bp ao=>sRegionY ?_))
 refine sSplitR (by repeat (first | exact roundU_out | exact it_out | exact lo_false | refine lo_then ?_ | refine lo_block ?_)) 3 d (fun bq aK=>?_)
 refine sM S fun a S=>?_
 refine sM S fun a S=>?_
 refine sLoadN (p:=aa) (off:=0) (T:=134) (vs:=[iv a0,iv a5,iv a6]) 0 [iv a0,iv a5,iv a6] S (wN d) d d d d d d d (lb d) fun a S=>leafL ⟨d,aK _ _ ?_⟩
 have S:=S.learn (fRep r_chart_count (.agg #[iv a0,iv a5,iv a6]) (chart_count.mk a0 a5 a6)) d
 have S:=S.shutB (r:=r_chart_count) (T:=134) (b:=aa) (cs:=[iv a0,iv a5,iv a6]) 0 (.agg #[iv a0,iv a5,iv a6]) (chart_count.mk a0 a5 a6) d d (S.mem.know (i:=0) (e:=fRep r_chart_count (.agg #[iv a0,iv a5,iv a6]) (chart_count.mk a0 a5 a6)) d)
 obtain ⟨br,hy52,h⟩:=bS h
 refine sYieldI (af,(chart_count.mk a0 a5 a6)) [iv af,.agg #[iv a0,iv a5,iv a6]] S hC hJ hy52 (fA2_mk (d) (S.mem.know (i:=1) (e:=fRep r_chart_count (.agg #[iv a0,iv a5,iv a6]) (chart_count.mk a0 a5 a6)) d)) (wN d) d d d d (by decide) (fun gz53 E a w hb hJ S=>?_) (fun tz54 a w hb hJ S=>?_)
 ·obtain rfl:=hb
  dsimp only at h
  refine list_inR (by repeat (first | exact roundU_out | exact it_out | exact lo_false | refine lo_then ?_ | refine lo_block ?_)) _ d _ _ ?_
  refine sNot (b:=true) S (wN d) d d d (lb d) fun a S=>sM S fun a S=>?_
  obtain ⟨aP,aL,S⟩:=pFld (P:=Try.prog) (r:=r_chart_count) (s2:=(rI .i64)) (g:=(·.e)) (q:=.pointer (some ⟨aa,0,none⟩)) (z:=(chart_count.mk a0 a5 a6)) 134 2 0 2 S d d comp_chart_count_e
  refine sFldV (q:=.pointer (some ⟨aa,0,none⟩)) S (wG 5 false 49 d d d d) d d aL d (lb d) fun a S=>?_
  obtain ⟨aQ,S⟩:=pLoad (r:=(rI .i64)) (q:=aP) (x:=(chart_count.mk a0 a5 a6).e) 0 S d
  obtain rfl:aQ=iv ((chart_count.mk a0 a5 a6).e):=S.mem.know (i:=1) (e:=fRep (rI .i64) (aQ) ((chart_count.mk a0 a5 a6).e)) d
  refine sLoadV1 (vq:=aP) 0 (iv ((chart_count.mk a0 a5 a6).e)) S (wG 5 false 49 d d d d) d d d d d (lb d) fun a S=>sBin _ S (wG 5 false 49 d d d d) d d d (bNe _ _ _ _ .i64 ((chart_count.mk a0 a5 a6).e) 0) d (lb d) fun a S=>sPickF (.bool (((chart_count.mk a0 a5 a6).e) != 0)) S (wN d) d d d d d (lb d) fun a S=>lT (ao _ _ ?_)
  rcases iS h with ⟨ak,h⟩ | ⟨ak,h⟩
  ·refine sCondT S d ak ?_
   obtain rfl:=tS h
   obtain rfl:=ag _ d
   have h:=ap
   try dsimp only at h
   exact wp_ret (rThen (rBlock (rThen (rThen (rBlock (sRet (.tuple #[]) S (res0 d) (sGoI S hC hJ (Option.some.inj h) _)))))))
  refine sCondF S d ak (wp_skip (leafT (aJ _ _ ?_)))
  refine sRegion ?_
  obtain ⟨aR,aM,S⟩:=pFld (P:=Try.prog) (r:=r_chart_count) (s2:=(rI .i64)) (g:=(·.after)) (q:=.pointer (some ⟨aa,0,none⟩)) (z:=(chart_count.mk a0 a5 a6)) 134 1 3 1 S d d comp_chart_count_after
  refine sFldV (q:=.pointer (some ⟨aa,0,none⟩)) S (wN d) d d aM d (lb d) fun a S=>?_
  obtain ⟨aS,S⟩:=pLoad (r:=(rI .i64)) (q:=aR) (x:=(chart_count.mk a0 a5 a6).after) 0 S d
  obtain rfl:aS=iv ((chart_count.mk a0 a5 a6).after):=S.mem.know (i:=1) (e:=fRep (rI .i64) (aS) ((chart_count.mk a0 a5 a6).after)) d
  refine sLoadV1 (vq:=aR) 0 (iv ((chart_count.mk a0 a5 a6).after)) S (wN d) d d d d d (lb d) fun a S=>sN S fun a S=>?_
  refine leafL (leafB (leafT (au _ _ ?_)))
  refine sRegion (sBin _ S (wN d) d d d (bAdd _ _ _ _ af 1) d (lb d) fun a S=>sM S fun a S=>?_)
  exact lT (⟨((chart_count.mk a0 a5 a6).after,w64 (af + 1),gz53),(Option.some.inj h).symm,⟨_,_,hJ,S.fix [] [8] (by decide) d d d⟩⟩)
 ·obtain rfl:=hb
  dsimp only at h
  refine list_inR (by repeat (first | exact roundU_out | exact it_out | exact lo_false | refine lo_then ?_ | refine lo_block ?_)) _ d _ _ ?_
  refine sNot (b:=false) S (wN d) d d d (lb d) fun a S=>sM S fun a S=>?_
  refine sSkN 3 5 false 49 S d d d d fun a S=>sPickT (.bool true) S (wN d) d d d d d (lb d) fun a S=>lT (ao _ _ (sCondT S d d ?_))
  obtain rfl:=tS h
  obtain rfl:=ag _ d
  have h:=ap
  try dsimp only at h
  exact wp_ret (rThen (rBlock (rThen (rThen (rBlock (sRet (.tuple #[]) S (res0 d) (sStopI S hC hJ (Option.some.inj h) _)))))))
noncomputable def chart_Check_l2 :Unit→(Int × chart_count)→Option (Unit ⊕ Int):=fun s0 x0=>match s0,x0 with
 | _,(a5,a0)=>
  if a0.e != 0 then
   some (.inr a0.e)
  else
   some (.inl ())
noncomputable def F_chart_Check (p0:api_Chart):Option Int:=
 if decide (100 < (p0.Rows.length:Int)) then
  some 4
 else
  Option.bind (α:=Bool) (
   if decide (p0.Start < 0) then
    some true
   else
    some (decide (200 < p0.Start))) fun a0=>
  if a0 then
   some 8
  else
   (F_chart_counted p0).bind fun a5=>
   (I_chart_counted_1 a5 _ _ (chart_Check_l2) ()).bind fun z0=>match z0 with
    | .inl _=>
     some 0
    | .inr a6=>
     some a6
theorem c_chart_Check (E:Nat→Prop) (w0:World) (p0:api_Chart) (v0:Value) (r:Int) (h:F_chart_Check p0=some r) (S:St0 E [] w0 w0 [] [fRep r_api_Chart (v0) p0]) :
 Calls Try.prog 50 #[v0] w0 (Ret (X:=Unit) E [] w0 (fun _=>.int .i64 r) (fun _=>[]) (fun _=>[])):=by
 unfold F_chart_Check at h
 obtain ⟨u1,rfl,aw⟩:=S.know (i:=0) (e:=fRep r_api_Chart (v0) p0) d
 have S:=S.learn (fRep (rL r_api_Row) u1 p0.Rows) aw
 obtain ⟨a6,a7,_,rfl,_⟩:=aw
 refine sEnterM (args:=[.agg #[iv p0.Start,.slice a6 p0.Rows.length a7]]) 26 Try.func50 d d (by simp) S (fun a S=>?_)
 refine sSeq (fun K5 aA=>sRegion (sBox (v:=.agg #[iv p0.Start,.slice a6 p0.Rows.length a7]) S (wN d) d d [iv p0.Start,.slice a6 p0.Rows.length a7] d d (lb d) fun a b6 w S=>sAlloc (iv 0) S (wN d) d d [iv 0] d d (lb d) fun a b7 w S=>lT (aA _ _ (sSeq (fun K8 aC=>sSeq (fun K9 aG=>sRegion (sField (b:=b6) (off:=0) 1 1 S (wN d) d d d d d (lb d) fun a S=>sLoad1 1 (.slice a6 p0.Rows.length a7) S (wN d) d d d d d d (lb d) fun a S=>sLen S (wN d) d Try.underlying40 d d (lb d) fun a S=>sBin _ S (wN d) d d d (bGt _ _ _ _ .i64 (p0.Rows.length:Int) 100) d (lb d) fun a S=>lT (aG _ _ ?_))))))))
 rcases iS h with ⟨aa,h⟩ | ⟨aa,h⟩
 ·refine sCondT S d aa (sSeq (fun aJ ai=>sRegion (sStore (p:=b7) (off:=0) (T:=27) (vs:=[iv 0]) (v:=iv 4) 0 [iv 4] S (wN d) d d d d d d d (by simp) d fun a w S=>lT (ai _ _ ?_))))
  obtain rfl:=tS h
  exact wp_ret (rThen (sRetM0 (iv 4) S (rsl1 d (rv1 (c:=2) (t:=27) (T:=27) (p:=b7) 0 (iv 4) S d d d)) ⟨(),d,S.mem.sel [] [] (by decide) d d⟩))
 refine sCondF S d aa (wp_skip (leafT (aC _ _ ?_)))
 refine sSeq (fun aK aj=>?_)
 obtain ⟨aH,h,aI⟩:=bS h
 refine sCut (fun a w=>∃ ak,ak=aH∧St [] E [] w0 26 a w [(1,.pointer (some ⟨b6,0,none⟩)),(2,.pointer (some ⟨b7,0,none⟩)),(16,.bool ak)] [eBox b6 42 [iv p0.Start,.slice a6 p0.Rows.length a7],eBox b7 27 [iv 0]] [fRep (rL r_api_Row) (.slice a6 p0.Rows.length a7) p0.Rows]) ?_ (fun a w hI=>?_)
 ·refine sRegion (sField (b:=b6) (off:=0) 0 0 S (wN d) d d d d d (lb d) fun a S=>sLoad1 1 (iv p0.Start) S (wN d) d d d d d d (lb d) fun a S=>sBin _ S (wN d) d d d (bLt _ _ _ _ .i64 p0.Start 0) d (lb d) fun a S=>sM S fun a S=>?_)
  rcases iS h with ⟨a5,h⟩ | ⟨a5,h⟩
  ·refine sSkN 3 3 false 12 S d d a5 d fun a S=>sPickT (.bool true) S (wN d) d d a5 d d (lb d) fun a S=>?_
   exact lT (⟨true,Option.some.inj h,S.fix [1,0] [0] (by decide) d d d⟩)
  refine sField (b:=b6) (off:=0) 0 0 S (wG 3 false 12 d d d a5) d d d d d (lb d) fun a S=>sLoad1 1 (iv p0.Start) S (wG 3 false 12 d d d a5) d d d d d d (lb d) fun a S=>sBin _ S (wG 3 false 12 d d d a5) d d d (bGt _ _ _ _ .i64 p0.Start 200) d (lb d) fun a S=>sPickF (.bool (decide (200 < p0.Start))) S (wN d) d d a5 d d (lb d) fun a S=>?_
  exact lT (⟨decide (200 < p0.Start),Option.some.inj h,S.fix [1,0] [0] (by decide) d d d⟩)
 obtain ⟨ak,rfl,S⟩:=hI
 have h:=aI
 try dsimp only at h
 rcases iS h with ⟨ab,h⟩ | ⟨ab,h⟩
 ·refine sCondT S d ab (sSeq (fun aL al=>sRegion (sStore (p:=b7) (off:=0) (T:=27) (vs:=[iv 0]) (v:=iv 8) 1 [iv 8] S (wN d) d d d d d d d (by simp) d fun a w S=>lT (al _ _ ?_))))
  obtain rfl:=tS h
  exact wp_ret (rThen (sRetM0 (iv 8) S (rsl1 d (rv1 (c:=2) (t:=27) (T:=27) (p:=b7) 0 (iv 8) S d d d)) ⟨(),d,S.mem.sel [] [] (by decide) d d⟩))
 refine sCondF S d ab (wp_skip (leafT (aj _ _ ?_)))
 refine sSeq (fun aM am=>sSeq (fun aO ao=>sRegion (sLoadN (p:=b6) (off:=0) (T:=42) (vs:=[iv p0.Start,.slice a6 p0.Rows.length a7]) 0 [iv p0.Start,.slice a6 p0.Rows.length a7] S (wN d) d d d d d d d (lb d) fun a S=>?_)))
 obtain ⟨ac,ap,h⟩:=bS h
 have S:=S.learn (fRep r_api_Chart (.agg #[iv p0.Start,.slice a6 p0.Rows.length a7]) p0) ⟨_,d,S.mem.know (i:=0) (e:=fRep (rL r_api_Row) (.slice a6 p0.Rows.length a7) p0.Rows) d⟩
 refine sCall (X:=Value) (f:=82) (vs:=[.agg #[iv p0.Start,.slice a6 p0.Rows.length a7]]) (val:=c_chart_counted_val ac) (B':=fun _=>[]) (D':=c_chart_counted_D ac) [] [eBox b6 42 [iv p0.Start,.slice a6 p0.Rows.length a7],eBox b7 27 [iv 0]] [fRep r_api_Chart (.agg #[iv p0.Start,.slice a6 p0.Rows.length a7]) p0] [0,1] [0] S (wN d) d callee82 d (by decide) d d (fun E1 w1 S1=>c_chart_counted E1 w1 p0 (.agg #[iv p0.Start,.slice a6 p0.Rows.length a7]) ac ap S1) d (lb d) fun ae a w S=>?_
 refine lT (ao _ _ (wp_block ?_))
 obtain ⟨aP,a9,af⟩:=bS h
 replace S:St [] E [] w0 26 a w [(2,.pointer (some ⟨b7,0,none⟩)),(18,.func (.func 99) #[] #[ae])] [eBox b7 27 [iv 0]] [fPtr r_api_Chart (ae) ac]:=S.fix [1] [0] (by decide) rfl rfl rfl
 refine sRange2 (B:=chart_Check_l2) (fun s0 L D=>match s0 with | _=>L=[eBox b7 27 [iv 0]]∧D=[fPtr r_api_Chart (ae) ac]) (fun t0 c L D=>match t0 with | ah=>c=.ret∧L=[eBox b7 27 [iv ah]]∧D=[]) [0] S a9 d callee99 (it_chart_counted_1 ac ae) d (by decide) (by decide) ⟨d,d⟩ ?_ ?_ ?_
 ·intro E l0 s0 ax a0 ay az b L D K a w0 hK hIL hB S
  clear a9 af h hK
  unfold chart_Check_l2 at hB
  dsimp only at hB hIL
  obtain ⟨rfl,rfl⟩:=hIL
  have h:=hB
  clear hB
  obtain rfl:ay=iv ax:=S.mem.know (i:=0) (e:=fRep (rI .i64) (ay) ax) d
  obtain rfl:az=.agg #[iv a0.before,iv a0.after,iv a0.e]:=S.mem.know (i:=1) (e:=fRep r_chart_count (az) a0) d
  refine sRegionR (by repeat (first | exact roundU_out | exact it_out | exact lo_false | refine lo_then ?_ | refine lo_block ?_)) d ?_
  refine sAlloc (.agg #[iv 0,iv 0,iv 0]) S (wN d) d d [iv 0,iv 0,iv 0] d d (lb d) fun a aq w S=>sStore (p:=aq) (off:=0) (T:=134) (vs:=[iv 0,iv 0,iv 0]) (v:=.agg #[iv a0.before,iv a0.after,iv a0.e]) 0 [iv a0.before,iv a0.after,iv a0.e] S (wN d) d d d d d d d (by simp) d fun a w S=>lT (⟨_,_,_,S,fun K a w0 hK S=>?_⟩)
  refine wpIn_block ?_
  refine sSeqR (fun aQ ar=>sRegionR (by repeat (first | exact roundU_out | exact it_out | exact lo_false | refine lo_then ?_ | refine lo_block ?_)) d ?_)
  refine sField (b:=aq) (off:=0) 2 2 S (wN d) d d d d d (lb d) fun a S=>sLoad1 0 (iv a0.e) S (wN d) d d d d d d (lb d) fun a S=>sBin _ S (wN d) d d d (bNe _ _ _ _ .i64 a0.e 0) d (lb d) fun a S=>lT (ar _ _ ?_)
  rcases iS h with ⟨ag,h⟩ | ⟨ag,h⟩
  rotate_left
  ·refine sCondFR S d ag ?_
   exact wpIn_skip (leafB (rnN () _ _ [] (Option.some.inj h) ⟨d,d⟩ (S.fix [1] [2] (by decide) d d d)))
  refine sCondTR S d ag ?_
  refine sSeqR (fun aR au=>sRegionR (by repeat (first | exact roundU_out | exact it_out | exact lo_false | refine lo_then ?_ | refine lo_block ?_)) d ?_)
  refine sField (b:=aq) (off:=0) 2 2 S (wN d) d d d d d (lb d) fun a S=>sLoad1 0 (iv a0.e) S (wN d) d d d d d d (lb d) fun a S=>sStore (p:=b7) (off:=0) (T:=27) (vs:=[iv 0]) (v:=iv a0.e) 1 [iv a0.e] S (wN d) d d d d d d d (by simp) d fun a w S=>lT (au _ _ ?_)
  exact wpIn_ret (rBlock (rnR a0.e _ _ [] (Option.some.inj h) ⟨d,d,d⟩ (S.fix [0] [] (by decide) d d d)))
 ·intro a8 s0 L D a w hr hIL S
  clear h
  obtain rfl:=hr
  dsimp only at af hIL
  obtain ⟨rfl,rfl⟩:=hIL
  have h:=af
  clear af a9
  replace S:St [mark a8] E [] w0 26 a w [(2,.pointer (some ⟨b7,0,none⟩)),(18,.func (.func 99) #[] #[ae])] [eBox b7 27 [iv 0],eDef a8] [fPtr r_api_Chart (ae) ac]:=S
  refine leafB (leafT (am _ _ ?_))
  refine sSeq (fun aS av=>sRegion (sStore (p:=b7) (off:=0) (T:=27) (vs:=[iv 0]) (v:=iv 0) 0 [iv 0] S (wN d) d d d d d d d (by simp) d fun a w S=>lT (av _ _ (wp_ret (sRetM1 1 S d (fun a w S=>?_))))))
  obtain rfl:=tS h
  exact sFin (iv 0) S (rsl1 d (rv1 (c:=2) (t:=27) (T:=27) (p:=b7) 0 (iv 0) S d d d)) ⟨(),d,S.mem.sel [] [] (by decide) d d⟩
 ·intro a8 c0 ah L D a w hr hIX S
  clear h
  obtain rfl:=hr
  dsimp only at af hIX
  obtain ⟨rfl,rfl,rfl⟩:=hIX
  have h:=af
  clear af a9
  replace S:St [mark a8] E [] w0 26 a w [(2,.pointer (some ⟨b7,0,none⟩)),(18,.func (.func 99) #[] #[ae])] [eBox b7 27 [iv ah],eDef a8] []:=S
  refine wp_ret (rBlock (rThen (sRetM1 1 S d (fun a w S=>?_))))
  obtain rfl:=tS h
  exact sFin (iv ah) S (rsl1 d (rv1 (c:=2) (t:=27) (T:=27) (p:=b7) 0 (iv ah) S d d d)) ⟨(),d,S.mem.sel [] [] (by decide) d d⟩
theorem set_v {α:Type} (xs:List α) (i:Nat) (y:α) (ad:Option Addr) (c:Nat):Value.slice ad xs.length c=Value.slice ad (xs.set i y).length c:=by rw [List.length_set]
theorem St.closeHN {dq:List Deferred} {E:Nat→Prop} {M:List Nat} {w0:World} {n:Nat} {a:Act} {w:World} {F:List (Nat × Value)} {L:List Ent} {D:List Fact} {α:Type} {r:R α} {T:TypeId} {xs:List α} {y:α} {v u:Value} {j:Int} (i:Nat) (S:St dq E M w0 n a w F L D) (hL:L[i]?=some (eHole r T v xs (j.toNat * r.sz + 0) u)) (hu0:(fRep r u y).p (tot E L) w) (hc:u.cells.toList=[u]) (hr:Scal r) :
 St dq E M w0 n a w F (eRow r T v (xs.set j.toNat y) :: L.eraseIdx i) D:=by
 have hlt:j.toNat < xs.length:=by
  obtain ⟨vs,ha,hm,hp,hl⟩:=S.mem.at hL
  exact Nat.lt_of_mul_lt_mul_right (a:=r.sz) (by simpa using hp)
 have h1:∀ k:Nat,∀ hk:k < xs.length,idxO xs (k:Int)=some xs[k]:=fun k hk=>by simp [idxO,hk]
 have h2:∀ k:Nat,k < xs.length→setO xs (k:Int) y=some (xs.set k y):=fun k hk=>by simp [setO,hk]
 exact S.closeHE (j:=(j.toNat:Int)) (x:=xs[j.toNat]) i hL hu0 hc hr (h1 _ hlt) (h2 _ hlt)
noncomputable def F_compare_Charts_1 (p0:api_Row):Option Int:=
 some (w64 (1 + (p0.Cells.length:Int)))
theorem c_compare_Charts_1 (E:Nat→Prop) (w0:World) (p0:api_Row) (v0:Value) (r:Int) (h:F_compare_Charts_1 p0=some r) (S:St0 E [] w0 w0 [] [fRep r_api_Row (v0) p0]) :
 Calls Try.prog 52 #[v0] w0 (Ret (X:=Unit) E [] w0 (fun _=>.int .i64 r) (fun _=>[]) (fun _=>[])):=by
 unfold F_compare_Charts_1 at h
 obtain ⟨u1,rfl,a6⟩:=S.know (i:=0) (e:=fRep r_api_Row (v0) p0) d
 have S:=S.learn (fRep (rL r_api_Stitch) u1 p0.Cells) a6
 obtain ⟨a0,a5,_,rfl,_⟩:=a6
 refine sEnter (args:=[.agg #[.bool p0.Back,.slice a0 p0.Cells.length a5]]) 7 Try.func52 d d (by simp) S (fun a S=>?_)
 refine sSeq (fun K5 a7=>sRegion (sBox (v:=.agg #[.bool p0.Back,.slice a0 p0.Cells.length a5]) S (wN d) d d [.bool p0.Back,.slice a0 p0.Cells.length a5] d d (lb d) fun a b6 w S=>sN S fun a S=>?_))
 refine lT (a7 _ _ (sSeq (fun K7 a8=>sRegion (sField (b:=b6) (off:=0) 1 1 S (wN d) d d d d d (lb d) fun a S=>sLoad1 0 (.slice a0 p0.Cells.length a5) S (wN d) d d d d d d (lb d) fun a S=>sLen S (wN d) d Try.underlying47 d d (lb d) fun a S=>sBin _ S (wN d) d d d (bAdd _ _ _ _ 1 (p0.Cells.length:Int)) d (lb d) fun a S=>sN S fun a S=>?_))))
 refine lT (a8 _ _ ?_)
 obtain rfl:=tS h
 exact wp_ret (sRet (iv (w64 (1 + (p0.Cells.length:Int)))) S (rsl1 d (rvT (t:=2) (v:=iv (w64 (1 + (p0.Cells.length:Int)))) S d)) ⟨(),d,S.mem.sel [] [] (by decide) d d⟩)
noncomputable def F_compare_cellTable_1 (p0:api_Stitch):Option Int:=
 some 1
theorem c_compare_cellTable_1 (E:Nat→Prop) (w0:World) (p0:api_Stitch) (v0:Value) (r:Int) (h:F_compare_cellTable_1 p0=some r) (S:St0 E [] w0 w0 [] [fRep r_api_Stitch (v0) p0]) :
 Calls Try.prog 84 #[v0] w0 (Ret (X:=Unit) E [] w0 (fun _=>.int .i64 r) (fun _=>[]) (fun _=>[])):=by
 unfold F_compare_cellTable_1 at h
 obtain rfl:v0=.agg #[.int .u8 p0.Kind,.bool p0.Purl,iv p0.A,iv p0.B]:=S.know (i:=0) (e:=fRep r_api_Stitch (v0) p0) d
 refine sEnter (args:=[.agg #[.int .u8 p0.Kind,.bool p0.Purl,iv p0.A,iv p0.B]]) 3 Try.func84 d d (by simp) S (fun a S=>?_)
 refine sSeq (fun K1 a0=>sRegion (sBox (v:=.agg #[.int .u8 p0.Kind,.bool p0.Purl,iv p0.A,iv p0.B]) S (wN d) d d [.int .u8 p0.Kind,.bool p0.Purl,iv p0.A,iv p0.B] d d (lb d) fun a b2 w S=>sN S fun a S=>?_))
 refine lT (a0 _ _ (sSeq (fun K3 a5=>sRegion (sN S fun a S=>?_))))
 refine lT (a5 _ _ ?_)
 obtain rfl:=tS h
 exact wp_ret (sRet (iv 1) S (rsl1 d (rvT (t:=2) (v:=iv 1) S d)) ⟨(),d,S.mem.sel [] [] (by decide) d d⟩)
noncomputable def F_compare_cellTable_2 (p0:api_Stitch) (p1:api_Stitch):Option Int:=
 if ((p0.Kind == p1.Kind) && ((p0.Purl == p1.Purl) && ((p0.A == p1.A) && ((p0.B == p1.B) && true)))) then
  some 0
 else
  some 1
theorem c_compare_cellTable_2 (E:Nat→Prop) (w0:World) (p0:api_Stitch) (v0:Value) (p1:api_Stitch) (v1:Value) (r:Int) (h:F_compare_cellTable_2 p0 p1=some r) (S:St0 E [] w0 w0 [] [fRep r_api_Stitch (v0) p0,fRep r_api_Stitch (v1) p1]) :
 Calls Try.prog 85 #[v0,v1] w0 (Ret (X:=Unit) E [] w0 (fun _=>.int .i64 r) (fun _=>[]) (fun _=>[])):=by
 unfold F_compare_cellTable_2 at h
 obtain rfl:v0=.agg #[.int .u8 p0.Kind,.bool p0.Purl,iv p0.A,iv p0.B]:=S.know (i:=0) (e:=fRep r_api_Stitch (v0) p0) d
 obtain rfl:v1=.agg #[.int .u8 p1.Kind,.bool p1.Purl,iv p1.A,iv p1.B]:=S.know (i:=1) (e:=fRep r_api_Stitch (v1) p1) d
 refine sEnter (args:=[.agg #[.int .u8 p0.Kind,.bool p0.Purl,iv p0.A,iv p0.B],.agg #[.int .u8 p1.Kind,.bool p1.Purl,iv p1.A,iv p1.B]]) 8 Try.func85 d d (by simp) S (fun a S=>?_)
 refine sSeq (fun K1 a5=>sRegion (sBox (v:=.agg #[.int .u8 p0.Kind,.bool p0.Purl,iv p0.A,iv p0.B]) S (wN d) d d [.int .u8 p0.Kind,.bool p0.Purl,iv p0.A,iv p0.B] d d (lb d) fun a b2 w S=>sBox (v:=.agg #[.int .u8 p1.Kind,.bool p1.Purl,iv p1.A,iv p1.B]) S (wN d) d d [.int .u8 p1.Kind,.bool p1.Purl,iv p1.A,iv p1.B] d d (lb d) fun a b3 w S=>sN S fun a S=>?_))
 refine lT (a5 _ _ (sSeq (fun K4 a6=>sSeq (fun K5 a7=>sRegion (sLoadN (p:=b2) (off:=0) (T:=81) (vs:=[.int .u8 p0.Kind,.bool p0.Purl,iv p0.A,iv p0.B]) 1 [.int .u8 p0.Kind,.bool p0.Purl,iv p0.A,iv p0.B] S (wN d) d d d d d d d (lb d) fun a S=>sLoadN (p:=b3) (off:=0) (T:=81) (vs:=[.int .u8 p1.Kind,.bool p1.Purl,iv p1.A,iv p1.B]) 0 [.int .u8 p1.Kind,.bool p1.Purl,iv p1.A,iv p1.B] S (wN d) d d d d d d d (lb d) fun a S=>sBin _ S (wN d) d d d (bEqV _ _ _ _ #[.int .u8 p0.Kind,.bool p0.Purl,iv p0.A,iv p0.B] #[.int .u8 p1.Kind,.bool p1.Purl,iv p1.A,iv p1.B] ((p0.Kind == p1.Kind) && ((p0.Purl == p1.Purl) && ((p0.A == p1.A) && ((p0.B == p1.B) && true)))) (by kernel_rfl) (eqlV_of (by kernel_rfl))) d (lb d) fun a S=>lT (a7 _ _ ?_))))))
 rcases iS h with ⟨a0,h⟩ | ⟨a0,h⟩
 ·refine sCondT S d a0 (sSeq (fun K7 a8=>sRegion (sN S fun a S=>?_)))
  refine lT (a8 _ _ ?_)
  obtain rfl:=tS h
  exact wp_ret (rThen (sRet (iv 0) S (rsl1 d (rvT (t:=4) (v:=iv 0) S d)) ⟨(),d,S.mem.sel [] [] (by decide) d d⟩))
 refine sCondF S d a0 (wp_skip (leafT (a6 _ _ ?_)))
 refine sSeq (fun K8 a9=>sRegion (sN S fun a S=>?_))
 refine lT (a9 _ _ ?_)
 obtain rfl:=tS h
 exact wp_ret (sRet (iv 1) S (rsl1 d (rvT (t:=4) (v:=iv 1) S d)) ⟨(),d,S.mem.sel [] [] (by decide) d d⟩)
def anc_compare_table_api_Stitch__s0_0:List (List Nat):=[[],[],[0,1],[0,1,2],[],[],[],[5,6],[5,6,7],[],[9],[5,6,7,8,9,10],[5,6,7,8,9,10,11],[],[],[],[14,15],[14,15,16],[13,14,15,16,17],[5,6,7,8,9,10,11,12,13,14,15,16,17,18],[0,1,2,3,4,5,6,7,8,9,10,11,12,13,14,15,16,17,18,19],[0,1,2,3,4,5,6,7,8,9,10,11,12,13,14,15,16,17,18,19,20]]
def anc_compare_table_api_Stitch__s0_1:List (List Nat):=[[],[],[0,1],[0,1,2],[],[],[],[6],[5,6,7],[5,6,7,8],[],[5,6,7,8,9,10],[5,6,7,8,9,10,11],[],[],[],[14,15],[14,15,16],[13,14,15,16,17],[5,6,7,8,9,10,11,12,13,14,15,16,17,18],[0,1,2,3,4,5,6,7,8,9,10,11,12,13,14,15,16,17,18,19],[0,1,2,3,4,5,6,7,8,9,10,11,12,13,14,15,16,17,18,19,20]]
def anc_compare_table_api_Stitch__s0_2:List (List Nat):=[[],[],[0,1],[0,1,2],[],[],[],[6],[5,6,7],[5,6,7,8],[],[5,6,7,8,9,10],[5,6,7,8,9,10,11],[],[],[],[14,15],[14,15,16],[13,14,15,16,17],[5,6,7,8,9,10,11,12,13,14,15,16,17,18],[],[],[20,21],[20,21,22],[],[24],[20,21,22,23,24,25],[20,21,22,23,24,25,26],[],[],[],[29,30],[29,30,31],[13,14,15,16,17,18,28,29,30,31,32],[13,14,15,16,17,18,20,21,22,23,24,25,26,27,28,29,30,31,32,33],[],[],[36],[35,36,37],[35,36,37,38],[],[40],[35,36,37,38,39,40,41],[35,36,37,38,39,40,41,42],[],[],[],[45,46],[45,46,47],[],[],[49,50],[49,50,51],[13,14,15,16,17,18,28,29,30,31,32,33,44,45,46,47,48,49,50,51,52],[13,14,15,16,17,18,28,29,30,31,32,33,35,36,37,38,39,40,41,42,43,44,45,46,47,48,49,50,51,52,53],[5,6,7,8,9,10,11,12,13,14,15,16,17,18,19,20,21,22,23,24,25,26,27,28,29,30,31,32,33,34,35,36,37,38,39,40,41,42,43,44,45,46,47,48,49,50,51,52,53,54],[0,1,2,3,4,5,6,7,8,9,10,11,12,13,14,15,16,17,18,19,20,21,22,23,24,25,26,27,28,29,30,31,32,33,34,35,36,37,38,39,40,41,42,43,44,45,46,47,48,49,50,51,52,53,54,55],[0,1,2,3,4,5,6,7,8,9,10,11,12,13,14,15,16,17,18,19,20,21,22,23,24,25,26,27,28,29,30,31,32,33,34,35,36,37,38,39,40,41,42,43,44,45,46,47,48,49,50,51,52,53,54,55,56]]
noncomputable def compare_table_api_Stitch__s0_l1 (a6:Int) (p0:(List api_Stitch)) (p1:(List api_Stitch)) (ao:List (List Int)):(Int × List Int)→Option ((Int × List Int) ⊕ List Int):=fun s0=>match s0 with
 | (a0,a5)=>
  if decide (0 ≤ a0) then
   Option.bind (α:=List Int) (
    Option.bind (α:=Bool) (
     if a6 == (p0.length:Int) then
      some (a0 == (p1.length:Int))
     else
      some false) fun ap=>
    if ap then
     some a5
    else
     if a6 == (p0.length:Int) then
      (idxO a5 (w64 (a0 + 1))).bind fun aq=>
      (idxO p1 a0).bind fun ar=>
      (F_compare_cellTable_1 ar).bind fun au=>
      (idxO a5 a0).bind fun az=>
      (setO a5 a0 (w64 (aq + au))).bind fun av=>
      some av
     else
      if a0 == (p1.length:Int) then
       (idxO ao (w64 (a6 + 1))).bind fun aa=>
       (idxO aa a0).bind fun ab=>
       (idxO p0 a6).bind fun ac=>
       (F_compare_cellTable_1 ac).bind fun ae=>
       (idxO a5 a0).bind fun aw=>
       (setO a5 a0 (w64 (ab + ae))).bind fun af=>
       some af
      else
       (idxO ao (w64 (a6 + 1))).bind fun a7=>
       (idxO a7 a0).bind fun ag=>
       (idxO p0 a6).bind fun a8=>
       (F_compare_cellTable_1 a8).bind fun ah=>
       (idxO a5 (w64 (a0 + 1))).bind fun ai=>
       (idxO p1 a0).bind fun a9=>
       (F_compare_cellTable_1 a9).bind fun aj=>
       (idxO a7 (w64 (a0 + 1))).bind fun ak=>
       (F_compare_cellTable_2 a8 a9).bind fun al=>
       (idxO a5 a0).bind fun ax=>
       (setO a5 a0 (min3 (w64 (ag + ah)) (w64 (ai + aj)) (w64 (ak + al)))).bind fun am=>
       some am) fun ay=>
   some (.inl (w64 (a0 - 1),ay))
  else
   some (.inr a5)
noncomputable def compare_table_api_Stitch__s0_l2 (p1:(List api_Stitch)) (p0:(List api_Stitch)):(List (List Int) × Int)→Option ((List (List Int) × Int) ⊕ List (List Int)):=fun s0=>match s0 with
 | (a5,a0)=>
  if decide (0 ≤ a0) then
   Option.bind (α:=List Int) (
    (makeO (w64 ((p1.length:Int) + 1)) (0:Int)).bind fun a6=>
    (idxO a5 a0).bind fun a9=>
    (whileO (compare_table_api_Stitch__s0_l1 a0 p0 p1 a5) ((p1.length:Int),a6)).bind fun a7=>
     some a7) fun a8=>
   some (.inl ((a5.set (a0).toNat a8),w64 (a0 - 1)))
  else
   some (.inr a5)
noncomputable def F_compare_table_api_Stitch__s0 (p0:(List api_Stitch)) (p1:(List api_Stitch)):Option (List (List Int)):=
 (makeO (w64 ((p0.length:Int) + 1)) ([]:(List Int))).bind fun m9=>
 Option.bind (α:=List (List Int)) (
  (whileO (compare_table_api_Stitch__s0_l2 p1 p0) (m9,(p0.length:Int))).bind fun a0=>
   some a0) fun a5=>
 some a5
def c_compare_table_api_Stitch__s0_val (r:(List (List Int))) (x:Value):Value:=x
def c_compare_table_api_Stitch__s0_D (r:(List (List Int))) (x:Value):List Fact:=[fRep (rL (rL (rI .i64))) x r]
theorem c_compare_table_api_Stitch__s0 (E:Nat→Prop) (w0:World) (p0:(List api_Stitch)) (v0:Value) (p1:(List api_Stitch)) (v1:Value) (r:(List (List Int))) (h:F_compare_table_api_Stitch__s0 p0 p1=some r) (S:St0 E [] w0 w0 [] [fRep (rL r_api_Stitch) (v0) p0,fRep (rL r_api_Stitch) (v1) p1]) :
 Calls Try.prog 83 #[v0,v1,.func (.func 84) #[] #[],.func (.func 85) #[] #[]] w0 (Ret (X:=Value) E [] w0 (c_compare_table_api_Stitch__s0_val r) (fun _=>[]) (c_compare_table_api_Stitch__s0_D r)):=by
 unfold F_compare_table_api_Stitch__s0 at h
 obtain ⟨av,aw,_,rfl,_⟩:=S.know (i:=0) (e:=fRep (rL r_api_Stitch) (v0) p0) d
 obtain ⟨ar,au,_,rfl,_⟩:=S.know (i:=1) (e:=fRep (rL r_api_Stitch) (v1) p1) d
 refine sEnter (args:=[.slice av p0.length aw,.slice ar p1.length au,.func (.func 84) #[] #[],.func (.func 85) #[] #[]]) 156 Try.func83 d d (by simp) S (fun a S=>?_)
 refine sSeq (fun K5 dH=>sRegion (sN S fun a S=>?_))
 refine lT (dH _ _ (sSeq (fun K6 dI=>sRegion (sM S fun a S=>?_))))
 refine sLen S (wN d) d Try.underlying47 d d (lb d) fun a S=>sBin _ S (wN d) d d d (bAdd _ _ _ _ (p0.length:Int) 1) d (lb d) fun a S=>?_
 obtain ⟨m9,cO,h⟩:=bS h
 refine sMake (r:=(rL (rI .i64))) (m:=w64 ((p0.length:Int) + 1)) (xs:=m9) (.slice none 0 0) ([]:(List Int)) 24 S (wN d) d Try.underlying98 d d (by decide) (fun E w=>rL_nil _ E w) d d cO d (lb d) fun a w ae af S=>sN S fun a S=>?_
 refine lT (dI _ _ ?_)
 obtain ⟨dJ,h,dK⟩:=bS h
 refine sCut (fun a w=>∃ bm,bm=dJ∧St [] E [] w0 156 a w [(9,.slice ae bm.length af)] [eRow (rL (rI .i64)) 101 (.slice ae bm.length af) bm] []) ?_ (fun a w hI=>?_)
 rotate_left
 ·obtain ⟨bm,rfl,S⟩:=hI
  have h:=dK
  try dsimp only at h
  refine sSeq (fun dL cl=>sRegion (sM S fun a S=>?_))
  refine sN S fun a S=>?_
  refine lT (cl _ _ ?_)
  obtain rfl:=tS h
  have S:=S.shutR (r:=(rL (rI .i64))) (T:=101) (v:=.slice ae bm.length af) (xs:=bm) 0 d
  exact wp_ret (sRet (.slice ae bm.length af) S (rsl1 d (rvT (t:=8) (v:=.slice ae bm.length af) S d)) ⟨(.slice ae bm.length af),d,S.mem.sel [] [0] (by decide) d d⟩)
 refine sSeq (fun dZ cP=>sRegion (sM S fun a S=>?_))
 refine sLen S (wN d) d Try.underlying47 d d (lb d) fun a S=>sN S fun a S=>?_
 refine lT (cP _ _ (wp_block ?_))
 obtain ⟨e5,hl,dM⟩:=bS h
 refine sLoop hl (fun s0 a w=>match s0 with | (a8,a9)=>St [] E [] w0 156 a w [(0,.slice av p0.length aw),(1,.slice ar p1.length au),(2,.func (.func 84) #[] #[]),(3,.func (.func 85) #[] #[]),(9,.slice ae a8.length af),(10,iv a9)] [eRow (rL (rI .i64)) 101 (.slice ae a8.length af) a8] [fRep (rL r_api_Stitch) (.slice av p0.length aw) p0,fRep (rL r_api_Stitch) (.slice ar p1.length au) p1]) (S.fix [0] [0,1] (by decide) d d d) ?_
 clear hl h
 intro s0 a w c0 hI h cQ
 obtain ⟨a8,a9⟩:=s0
 unfold compare_table_api_Stitch__s0_l2 at h
 dsimp only at h hI
 have S:=hI
 refine sSeq (fun e6 cR=>sSeq (fun e7 cS=>sRegion (sM S fun a S=>?_)))
 refine sBin _ S (wN d) d d d (bGe _ _ _ _ .i64 a9 0) d (lb d) fun a S=>lT (cS _ _ ?_)
 rcases iS h with ⟨c7,h⟩ | ⟨c7,h⟩
 rotate_left
 ·refine sCondF S d c7 ?_
  obtain rfl:=tS h
  obtain rfl:=cQ _ d
  have h:=dM
  try dsimp only at h
  exact wp_exit (xThen (xThen (xHit (leafT (⟨a8,Option.some.inj h,S.fix [0] [] (by decide) d d d⟩)))))
 refine sCondT S d c7 (wp_skip (leafT (cR _ _ ?_)))
 obtain ⟨dN,h,dO⟩:=bS h
 refine sCut (fun a w=>∃ aZ,aZ=dN∧∃ ba,∃ bb,St [] E [] w0 156 a w [(0,.slice av p0.length aw),(1,.slice ar p1.length au),(2,.func (.func 84) #[] #[]),(3,.func (.func 85) #[] #[]),(9,.slice ae a8.length af),(10,iv a9)] [eHole (rL (rI .i64)) 101 (.slice ae a8.length af) a8 ((a9).toNat * (rL (rI .i64)).sz + 0) (.slice ba aZ.length bb),eRow (rI .i64) 3 (.slice ba aZ.length bb) aZ] [fRep (rL r_api_Stitch) (.slice av p0.length aw) p0,fRep (rL r_api_Stitch) (.slice ar p1.length au) p1]) ?_ (fun a w hI=>?_)
 rotate_left
 ·obtain ⟨aZ,rfl,ba,bb,S⟩:=hI
  have h:=dO
  try dsimp only at h
  refine sRegion (sM S fun a S=>?_)
  refine sBin _ S (wN d) d d d (bSub _ _ _ _ a9 1) d (lb d) fun a S=>sN S fun a S=>?_
  have S:=S.shutR (r:=(rI .i64)) (T:=3) (v:=.slice ba aZ.length bb) (xs:=aZ) 1 d
  have S:=S.closeHN (r:=(rL (rI .i64))) (T:=101) (xs:=a8) (y:=aZ) (v:=.slice ae a8.length af) (u:=.slice ba aZ.length bb) (j:=a9) 0 d (S.mem.know (i:=0) (e:=fRep (rL (rI .i64)) (.slice ba aZ.length bb) aZ) d) d (scal_L _)
  rw [set_v a8 (a9).toNat aZ ae af] at S
  exact lT (⟨((a8.set (a9).toNat aZ),w64 (a9 - 1)),(Option.some.inj h).symm,(S.fix [0] [1,2] (by decide) d d d)⟩)
 refine wp_block ?_
 refine sSeq (fun e8 cT=>sRegion (sM S fun a S=>?_))
 refine sM S fun a S=>?_
 refine sM S fun a S=>?_
 refine sLen S (wN d) d Try.underlying47 d d (lb d) fun a S=>sBin _ S (wN d) d d d (bAdd _ _ _ _ (p1.length:Int) 1) d (lb d) fun a S=>?_
 obtain ⟨dA,cU,h⟩:=bS h
 refine sMake (r:=(rI .i64)) (m:=w64 ((p1.length:Int) + 1)) (xs:=dA) (iv 0) (0:Int) 8 S (wN d) d Try.underlying101 d d (by decide) (fun _ _=>d) d d cU d (lb d) fun a w a6 a7 S=>?_
 obtain ⟨dP,ap,h⟩:=bS h
 obtain ⟨dQ,cV,cW⟩:=pIdxR (P:=Try.prog) (r:=(rL (rI .i64))) (T:=101) (v:=.slice ae a8.length af) (xs:=a8) (j:=a9) 98 101 1 S Try.underlying98 d d ap
 refine sIdxV S (wN d) d d d cV d (lb d) fun a S=>sStoreHE (r:=(rL (rI .i64))) (T:=101) (xs:=a8) (x:=dP) (v:=.slice ae a8.length af) (vq:=dQ) (u:=.slice a6 dA.length a7) (j:=a9) 1 S cW (wN d) d d d d ap d d d d fun a w S=>?_
 refine lT (cT _ _ (sSeq (fun e9 cX=>sRegion (sM S fun a S=>?_))))
 refine sLen S (wN d) d Try.underlying47 d d (lb d) fun a S=>sN S fun a S=>?_
 refine lT (cX _ _ (wp_block ?_))
 obtain ⟨ec,hl,dR⟩:=bS h
 refine sLoop hl (fun s0 a w=>match s0 with | (ab,ac)=>St [] E [] w0 156 a w [(0,.slice av p0.length aw),(1,.slice ar p1.length au),(2,.func (.func 84) #[] #[]),(3,.func (.func 85) #[] #[]),(9,.slice ae a8.length af),(10,iv a9),(11,iv ab)] [eHole (rL (rI .i64)) 101 (.slice ae a8.length af) a8 ((a9).toNat * (rL (rI .i64)).sz + 0) (.slice a6 ac.length a7),eRow (rI .i64) 3 (.slice a6 ac.length a7) ac] [fRep (rL r_api_Stitch) (.slice av p0.length aw) p0,fRep (rL r_api_Stitch) (.slice ar p1.length au) p1]) (S.fix [0,1] [0,1] (by decide) d d d) ?_
 clear hl h
 intro s0 a w c0 hI h cY
 obtain ⟨ab,ac⟩:=s0
 unfold compare_table_api_Stitch__s0_l1 at h
 dsimp only at h hI
 have S:=hI
 refine sSeq (fun ed cZ=>sSeq (fun ee d6=>sRegion (sM S fun a S=>?_)))
 refine sBin _ S (wN d) d d d (bGe _ _ _ _ .i64 ab 0) d (lb d) fun a S=>lT (d6 _ _ ?_)
 rcases iS h with ⟨c8,h⟩ | ⟨c8,h⟩
 rotate_left
 ·refine sCondF S d c8 ?_
  obtain rfl:=tS h
  obtain rfl:=cY _ d
  have h:=dR
  try dsimp only at h
  exact wp_exit (xThen (xThen (xHit (leafB (leafT (⟨ac,Option.some.inj h,a6,a7,S.fix [0,1] [0,1] (by decide) d d d⟩))))))
 refine sCondT S d c8 (wp_skip (leafT (cZ _ _ ?_)))
 obtain ⟨dS,h,dU⟩:=bS h
 refine sCut (fun a w=>∃ ck,ck=dS∧St [] E [] w0 156 a w [(0,.slice av p0.length aw),(1,.slice ar p1.length au),(2,.func (.func 84) #[] #[]),(3,.func (.func 85) #[] #[]),(9,.slice ae a8.length af),(10,iv a9),(11,iv ab)] [eHole (rL (rI .i64)) 101 (.slice ae a8.length af) a8 ((a9).toNat * (rL (rI .i64)).sz + 0) (.slice a6 ck.length a7),eRow (rI .i64) 3 (.slice a6 ck.length a7) ck] [fRep (rL r_api_Stitch) (.slice av p0.length aw) p0,fRep (rL r_api_Stitch) (.slice ar p1.length au) p1]) ?_ (fun a w hI=>?_)
 rotate_left
 ·obtain ⟨ck,rfl,S⟩:=hI
  have h:=dU
  try dsimp only at h
  refine sRegion (sM S fun a S=>?_)
  refine sBin _ S (wN d) d d d (bSub _ _ _ _ ab 1) d (lb d) fun a S=>sN S fun a S=>?_
  exact lT (⟨(w64 (ab - 1),ck),(Option.some.inj h).symm,(S.fix [0,1] [0,1] (by decide) d d d)⟩)
 refine wp_block ?_
 refine wp_block ?_
 obtain ⟨dV,h,dW⟩:=bS h
 refine sCut (fun a w=>∃ d7,d7=dV∧St [] E [] w0 156 a w [(0,.slice av p0.length aw),(1,.slice ar p1.length au),(2,.func (.func 84) #[] #[]),(3,.func (.func 85) #[] #[]),(9,.slice ae a8.length af),(10,iv a9),(11,iv ab),(92,.bool d7)] [eHole (rL (rI .i64)) 101 (.slice ae a8.length af) a8 ((a9).toNat * (rL (rI .i64)).sz + 0) (.slice a6 ac.length a7),eRow (rI .i64) 3 (.slice a6 ac.length a7) ac] [fRep (rL r_api_Stitch) (.slice av p0.length aw) p0,fRep (rL r_api_Stitch) (.slice ar p1.length au) p1]) ?_ (fun a w hI=>?_)
 ·refine sRegion (sM S fun a S=>?_)
  refine sM S fun a S=>?_
  refine sLen S (wN d) d Try.underlying47 d d (lb d) fun a S=>sBin _ S (wN d) d d d (bEq _ _ _ _ .i64 a9 (p0.length:Int)) d (lb d) fun a S=>sM S fun a S=>?_
  rcases iS h with ⟨aA,h⟩ | ⟨aA,h⟩
  rotate_left
  ·refine sSkN 4 4 true 97 S d d aA d fun a S=>sPickF (.bool false) S (wN d) d d aA d d (lb d) fun a S=>sN S fun a S=>?_
   exact lT (⟨false,Option.some.inj h,S.fix [0,1] [0,1] (by decide) d d d⟩)
  refine sMove (iv ab) S (wG 4 true 97 d d d aA) (.inl d) d d (lb d) fun a S=>sMove (.slice ar p1.length au) S (wG 4 true 97 d d d aA) (.inl d) d d (lb d) fun a S=>sLen S (wG 4 true 97 d d d aA) d Try.underlying47 d d (lb d) fun a S=>sBin _ S (wG 4 true 97 d d d aA) d d d (bEq _ _ _ _ .i64 ab (p1.length:Int)) d (lb d) fun a S=>sPickT (.bool (ab == (p1.length:Int))) S (wN d) d d aA d d (lb d) fun a S=>sN S fun a S=>?_
  exact lT (⟨ab == (p1.length:Int),Option.some.inj h,S.fix [0,1] [0,1] (by decide) d d d⟩)
 obtain ⟨d7,rfl,S⟩:=hI
 have h:=dW
 try dsimp only at h
 rcases iS h with ⟨c9,h⟩ | ⟨c9,h⟩
 ·refine sCondT S d c9 ?_
  exact wp_skip (leafB (leafB (leafT (⟨ac,Option.some.inj h,S.fix [0,1] [0,1] (by decide) d d d⟩))))
 refine sCondF S d c9 (sSeq (fun ef d8=>sRegion (sM S fun a S=>?_)))
 refine sM S fun a S=>?_
 refine sLen S (wN d) d Try.underlying47 d d (lb d) fun a S=>sBin _ S (wN d) d d d (bEq _ _ _ _ .i64 a9 (p0.length:Int)) d (lb d) fun a S=>sN S fun a S=>?_
 refine lT (d8 _ _ ?_)
 rcases iS h with ⟨ca,h⟩ | ⟨ca,h⟩
 ·refine sCondT S d ca ?_
  obtain ⟨bu,cm,h⟩:=bS h
  obtain ⟨aq,d9,h⟩:=bS h
  obtain ⟨bv,da,h⟩:=bS h
  obtain ⟨eh,db,h⟩:=bS h
  obtain ⟨dB,cn,h⟩:=bS h
  obtain ⟨dC,dc,de⟩:=pIdxH (P:=Try.prog) (r:=(rL (rI .i64))) (T:=101) (v:=.slice ae a8.length af) (xs:=a8) (j:=a9) 98 101 0 S Try.underlying98 d d ap
  obtain ⟨dD,df,dg⟩:=pIdxH (P:=Try.prog) (r:=(rL (rI .i64))) (T:=101) (v:=.slice ae a8.length af) (xs:=a8) (j:=a9) 98 101 0 S Try.underlying98 d d ap
  obtain ⟨dE,dh,di⟩:=pIdxR (P:=Try.prog) (r:=(rI .i64)) (T:=3) (v:=.slice a6 ac.length a7) (xs:=ac) (j:=w64 (ab + 1)) 101 3 1 S Try.underlying101 d d cm
  obtain ⟨dj,dk,S⟩:=pIdx (P:=Try.prog) (r:=r_api_Stitch) (v:=.slice ar p1.length au) (xs:=p1) (j:=ab) 47 81 1 S Try.underlying47 d d d9
  obtain ⟨dG,S⟩:=pLoad (r:=r_api_Stitch) (q:=dj) (x:=aq) 0 S d
  obtain rfl:dG=.agg #[.int .u8 aq.Kind,.bool aq.Purl,iv aq.A,iv aq.B]:=S.mem.know (i:=1) (e:=fRep r_api_Stitch (dG) aq) d
  obtain ⟨dm,dn,dp⟩:=pIdxR (P:=Try.prog) (r:=(rI .i64)) (T:=3) (v:=.slice a6 ac.length a7) (xs:=ac) (j:=ab) 101 3 1 S Try.underlying101 d d db
  refine sDraw (nf:=[21]) (W:=[(0,108,.slice ae a8.length af),(1,109,iv a9),(2,110,dC),(3,111,.slice a6 ac.length a7),(4,112,iv ab),(5,113,.slice ae a8.length af),(6,114,iv a9),(7,115,dD),(8,116,.slice a6 ac.length a7),(9,117,iv ab),(10,118,iv (w64 (ab + 1))),(11,119,dE),(12,120,iv bu),(13,121,.func (.func 84) #[] #[]),(14,122,.slice ar p1.length au),(15,123,iv ab),(16,124,dj),(17,125,.agg #[.int .u8 aq.Kind,.bool aq.Purl,iv aq.A,iv aq.B]),(18,126,iv bv),(19,127,iv (w64 (bu + bv))),(20,128,dm)]) d S ?_
  refine node_by (A:=anc_compare_table_api_Stitch__s0_0) 22 (by kernel_rfl) (by kernel_rfl) (by kernel_rfl) (by kernel_rfl) (by kernel_rfl) [0,1,2,3,4,5,6,7,8,9,10,11,12,13,14,15,16,17,18,19,20] (by kernel_rfl) (by decide) (by decide) (fF ?_ (fF ?_ (fF ?_ (fF ?_ (fF ?_ (fF ?_ (fF ?_ (fF ?_ (fF ?_ (fF ?_ (fF ?_ (fF ?_ (fF ?_ (fF ?_ (fF ?_ (fF ?_ (fF ?_ (fF ?_ (fF ?_ (fF ?_ (fF ?_ (fN ?_ (trivial))))))))))))))))))))))) [] (fun q hq=>by cases hq) (fun hY=>absurd (hY 21 (by decide)) (by decide))
  ·exact fM 0 none d d d d (.inl d) d d d
  ·exact fM 1 none d d d d (.inl d) d d d
  ·refine fJ [(108,_),(109,_)] 2 [some 0,some 1] fun G a w S=>?_
   exact sIdxV S (wN d) d d d dc d (lb d) fun a S=>leafL ⟨d,S⟩
  ·refine fJ [(110,_)] 3 [some 2] fun G a w S=>?_
   exact sLoadHE (r:=(rL (rI .i64))) (T:=101) (xs:=a8) (u:=.slice a6 ac.length a7) (v:=.slice ae a8.length af) (vq:=dC) (j:=a9) 0 S de (wN d) d d d d d (lb d) fun a S=>leafL ⟨d,S⟩
  ·exact fM 4 none d d d d (.inl d) d d d
  ·exact fM 5 none d d d d (.inl d) d d d
  ·exact fM 6 none d d d d (.inl d) d d d
  ·refine fJ [(113,_),(114,_)] 7 [some 5,some 6] fun G a w S=>?_
   exact sIdxV S (wN d) d d d df d (lb d) fun a S=>leafL ⟨d,S⟩
  ·refine fJ [(115,_)] 8 [some 7] fun G a w S=>?_
   exact sLoadHE (r:=(rL (rI .i64))) (T:=101) (xs:=a8) (u:=.slice a6 ac.length a7) (v:=.slice ae a8.length af) (vq:=dD) (j:=a9) 0 S dg (wN d) d d d d d (lb d) fun a S=>leafL ⟨d,S⟩
  ·exact fM 9 none d d d d (.inl d) d d d
  ·refine fJ [(117,_)] 10 [some 9] fun G a w S=>?_
   exact sBin _ S (wN d) d d d (bAdd _ _ _ _ ab 1) d (lb d) fun a S=>leafL ⟨d,S⟩
  ·refine fJ [(116,_),(118,_)] 11 [some 8,some 10] fun G a w S=>?_
   exact sIdxV S (wN d) d d d dh d (lb d) fun a S=>leafL ⟨d,S⟩
  ·refine fJ [(119,_)] 12 [some 11] fun G a w S=>?_
   exact sLoadR (r:=(rI .i64)) (T:=3) (xs:=ac) (x:=bu) (v:=.slice a6 ac.length a7) (vq:=dE) (j:=w64 (ab + 1)) 1 (iv bu) S di (wN d) d d d cm (fun _ _ _ h=>h) (scal_I _) d d (lb d) fun a S=>leafL ⟨d,S⟩
  ·exact fM 13 none d d d d (.inl d) d d d
  ·exact fM 14 none d d d d (.inl d) d d d
  ·exact fM 15 none d d d d (.inl d) d d d
  ·refine fJ [(122,_),(123,_)] 16 [some 14,some 15] fun G a w S=>?_
   exact sIdxV S (wN d) d d d dk d (lb d) fun a S=>leafL ⟨d,S⟩
  ·refine fJ [(124,_)] 17 [some 16] fun G a w S=>?_
   exact sLoadVN (vq:=dj) 0 [.int .u8 aq.Kind,.bool aq.Purl,iv aq.A,iv aq.B] S (wN d) d d d d d d (lb d) fun a S=>leafL ⟨d,S⟩
  ·refine fJ [(121,_),(125,_)] 18 [some 13,some 17] fun G a w S=>?_
   have S1:=S.mem
   refine sCallVQ (X:=Unit) (g:=84) (vs:=[.agg #[.int .u8 aq.Kind,.bool aq.Purl,iv aq.A,iv aq.B]]) (caps:=[]) (val:=fun _=>iv bv) S (wN d) d d callee84 d (S1.quiet [1] d) (fun E1 w1 S1=>c_compare_cellTable_1 E1 w1 aq (.agg #[.int .u8 aq.Kind,.bool aq.Purl,iv aq.A,iv aq.B]) bv da S1) d (lb d) fun _ a w S=>?_
   exact leafL ⟨d,S⟩
  ·refine fJ [(120,_),(126,_)] 19 [some 12,some 18] fun G a w S=>?_
   exact sBin _ S (wN d) d d d (bAdd _ _ _ _ bu bv) d (lb d) fun a S=>leafL ⟨d,S⟩
  ·refine fJ [(111,_),(112,_)] 20 [some 3,some 4] fun G a w S=>?_
   exact sIdxV S (wN d) d d d dn d (lb d) fun a S=>leafL ⟨d,S⟩
  refine ⟨_,[(127,iv (w64 (bu + bv))),(128,dm)],d,(srcs_of [some 19,some 20] d d d),fun G a w S=>?_⟩
  refine sStoreR (r:=(rI .i64)) (T:=3) (xs:=ac) (ys:=dB) (y:=(w64 (bu + bv))) (v:=.slice a6 ac.length a7) (vq:=dm) (u:=iv (w64 (bu + bv))) (j:=ab) 1 S dp (wN d) d d d d d cn d d fun a w S=>leafL ⟨d,_,_,.inr ⟨[],d,S,hz_of d,?_⟩⟩
  refine node_by (A:=anc_compare_table_api_Stitch__s0_0) 22 (by kernel_rfl) (by kernel_rfl) (by kernel_rfl) (by kernel_rfl) (by kernel_rfl) [0,1,2,3,4,5,6,7,8,9,10,11,12,13,14,15,16,17,18,19,20] (by kernel_rfl) (by decide) (by decide) (fD 21 (fD 21 (fD 21 (fD 21 (fD 21 (fD 21 (fD 21 (fD 21 (fD 21 (fD 21 (fD 21 (fD 21 (fD 21 (fD 21 (fD 21 (fD 21 (fD 21 (fD 21 (fD 21 (fD 21 (fD 21 (fY (trivial))))))))))))))))))))))) [(0,.slice av p0.length aw),(1,.slice ar p1.length au),(2,.func (.func 84) #[] #[]),(3,.func (.func 85) #[] #[]),(9,.slice ae a8.length af),(10,iv a9),(11,iv ab)] (fin_of [none,none,none,none,none,none,none] d (by kernel_rfl) (by kernel_rfl)) (fun _ a w S=>?_)
  rw [setO_v cn a6 a7] at S
  exact leafB (leafB (leafT (⟨dB,Option.some.inj h,S.fix [1,0] [3,4] (by decide) d d d⟩)))
 refine sCondF S d ca (sSeq (fun ei dr=>sRegion (sM S fun a S=>?_)))
 refine sM S fun a S=>?_
 refine sLen S (wN d) d Try.underlying47 d d (lb d) fun a S=>sBin _ S (wN d) d d d (bEq _ _ _ _ .i64 ab (p1.length:Int)) d (lb d) fun a S=>sN S fun a S=>?_
 refine lT (dr _ _ ?_)
 rcases iS h with ⟨bh,h⟩ | ⟨bh,h⟩
 ·refine sCondT S d bh ?_
  obtain ⟨bi,bj,h⟩:=bS h
  obtain ⟨ax,co,h⟩:=bS h
  obtain ⟨aa,cp,h⟩:=bS h
  obtain ⟨ay,bw,h⟩:=bS h
  obtain ⟨dX,cq,h⟩:=bS h
  obtain ⟨cr,bx,h⟩:=bS h
  obtain ⟨cb,bz,bA⟩:=pIdxH (P:=Try.prog) (r:=(rL (rI .i64))) (T:=101) (v:=.slice ae a8.length af) (xs:=a8) (j:=a9) 98 101 0 S Try.underlying98 d d ap
  obtain ⟨cc,ct,cu⟩:=pIdxH (P:=Try.prog) (r:=(rL (rI .i64))) (T:=101) (v:=.slice ae a8.length af) (xs:=a8) (j:=w64 (a9 + 1)) 98 101 0 S Try.underlying98 d d bj
  obtain ⟨bo,bB,S⟩:=pIdx (P:=Try.prog) (r:=r_api_Stitch) (v:=.slice av p0.length aw) (xs:=p0) (j:=a9) 47 81 0 S Try.underlying47 d d cp
  obtain ⟨cv,S⟩:=pLoad (r:=r_api_Stitch) (q:=bo) (x:=aa) 0 S d
  obtain rfl:cv=.agg #[.int .u8 aa.Kind,.bool aa.Purl,iv aa.A,iv aa.B]:=S.mem.know (i:=1) (e:=fRep r_api_Stitch (cv) aa) d
  refine sDraw (nf:=[9,21]) (W:=[(0,134,.slice ae a8.length af),(1,135,iv a9),(2,136,cb),(3,137,.slice a6 ac.length a7),(4,138,iv ab),(5,139,.slice ae a8.length af),(6,140,iv a9),(7,141,iv (w64 (a9 + 1))),(8,142,cc),(10,144,iv ab),(13,147,.func (.func 84) #[] #[]),(14,148,.slice av p0.length aw),(15,149,iv a9),(16,150,bo),(17,151,.agg #[.int .u8 aa.Kind,.bool aa.Purl,iv aa.A,iv aa.B]),(18,152,iv ay)]) d S ?_
  refine node_by (A:=anc_compare_table_api_Stitch__s0_1) 22 (by kernel_rfl) (by kernel_rfl) (by kernel_rfl) (by kernel_rfl) (by kernel_rfl) [0,1,2,3,4,5,6,7,8,10,13,14,15,16,17,18] (by kernel_rfl) (by decide) (by decide) (fF ?_ (fF ?_ (fF ?_ (fF ?_ (fF ?_ (fF ?_ (fF ?_ (fF ?_ (fF ?_ (fN ?_ (fF ?_ (fE 9 (fE 9 (fF ?_ (fF ?_ (fF ?_ (fF ?_ (fF ?_ (fF ?_ (fE 9 (fE 9 (aB 21 0 9 (by decide) (trivial))))))))))))))))))))))) [] (fun q hq=>by cases hq) (fun hY=>absurd (hY 9 (by decide)) (by decide))
  ·exact fM 0 none d d d d (.inl d) d d d
  ·exact fM 1 none d d d d (.inl d) d d d
  ·refine fJ [(134,_),(135,_)] 2 [some 0,some 1] fun G a w S=>?_
   exact sIdxV S (wN d) d d d bz d (lb d) fun a S=>leafL ⟨d,S⟩
  ·refine fJ [(136,_)] 3 [some 2] fun G a w S=>?_
   exact sLoadHE (r:=(rL (rI .i64))) (T:=101) (xs:=a8) (u:=.slice a6 ac.length a7) (v:=.slice ae a8.length af) (vq:=cb) (j:=a9) 0 S bA (wN d) d d d d d (lb d) fun a S=>leafL ⟨d,S⟩
  ·exact fM 4 none d d d d (.inl d) d d d
  ·exact fM 5 none d d d d (.inl d) d d d
  ·exact fM 6 none d d d d (.inl d) d d d
  ·refine fJ [(140,_)] 7 [some 6] fun G a w S=>?_
   exact sBin _ S (wN d) d d d (bAdd _ _ _ _ a9 1) d (lb d) fun a S=>leafL ⟨d,S⟩
  ·refine fJ [(139,_),(141,_)] 8 [some 5,some 7] fun G a w S=>?_
   exact sIdxV S (wN d) d d d ct d (lb d) fun a S=>leafL ⟨d,S⟩
  ·refine ⟨_,[(142,cc)],d,(srcs_of [some 8] d d d),fun G a w S=>?_⟩
   refine sLoadHo (r:=(rL (rI .i64))) (T:=101) (xs:=a8) (x:=bi) (p:=(a9).toNat * (rL (rI .i64)).sz + 0) (u:=.slice a6 ac.length a7) (v:=.slice ae a8.length af) (vq:=cc) (j:=w64 (a9 + 1)) 0 S cu (wN d) d d d bj (idx_next (by decide) (hole_lim 0 S.mem d) ap bj) (scal_L _) d d (lb d) fun a dt S=>?_
   obtain ⟨bC,bD,_,rfl,_⟩:=S.mem.know (i:=0) (e:=fRep (rL (rI .i64)) (dt) bi) d
   obtain ⟨cd,cw,S⟩:=pIdx (P:=Try.prog) (r:=(rI .i64)) (v:=.slice bC bi.length bD) (xs:=bi) (j:=ab) 101 3 0 S Try.underlying101 d d co
   obtain ⟨cx,S⟩:=pLoad (r:=(rI .i64)) (q:=cd) (x:=ax) 0 S d
   obtain rfl:cx=iv ax:=S.mem.know (i:=1) (e:=fRep (rI .i64) (cx) ax) d
   obtain ⟨ce,cy,cz⟩:=pIdxR (P:=Try.prog) (r:=(rI .i64)) (T:=3) (v:=.slice a6 ac.length a7) (xs:=ac) (j:=ab) 101 3 1 S Try.underlying101 d d cq
   refine leafL ⟨d,_,_,.inl ⟨143,(.slice bC bi.length bD),[(11,145,cd),(12,146,iv ax),(19,153,iv (w64 (ax + ay))),(20,154,ce)],d,S,hz_of d,?_⟩⟩
   refine node_by (A:=anc_compare_table_api_Stitch__s0_1) 22 (by kernel_rfl) (by kernel_rfl) (by kernel_rfl) (by kernel_rfl) (by kernel_rfl) [11,12,19,20,9,0,1,2,3,4,5,6,7,8,10,13,14,15,16,17,18] (by kernel_rfl) (by decide) (by decide) (fF ?_ (fF ?_ (fF ?_ (fF ?_ (fF ?_ (fD 9 (fD 9 (fD 9 (fD 9 (fY (fF ?_ (fF ?_ (fF ?_ (fF ?_ (fF ?_ (fF ?_ (fF ?_ (fF ?_ (fF ?_ (fF ?_ (fF ?_ (fN ?_ (trivial))))))))))))))))))))))) [] (fun q hq=>by cases hq) (fun hY=>absurd (hY 21 (by decide)) (by decide))
   ·exact fM 5 none d d d d (.inl d) d d d
   ·exact fM 6 none d d d d (.inl d) d d d
   ·refine fJ [(134,_),(135,_)] 7 [some 5,some 6] fun G a w S=>?_
    exact sIdxV S (wN d) d d d bz d (lb d) fun a S=>leafL ⟨d,S⟩
   ·refine fJ [(136,_)] 8 [some 7] fun G a w S=>?_
    exact sLoadHE (r:=(rL (rI .i64))) (T:=101) (xs:=a8) (u:=.slice a6 ac.length a7) (v:=.slice ae a8.length af) (vq:=cb) (j:=a9) 0 S bA (wN d) d d d d d (lb d) fun a S=>leafL ⟨d,S⟩
   ·exact fM 9 none d d d d (.inl d) d d d
   ·exact fM 14 none d d d d (.inl d) d d d
   ·refine fJ [(143,_),(144,_)] 0 [some 4,some 14] fun G a w S=>?_
    exact sIdxV S (wN d) d d d cw d (lb d) fun a S=>leafL ⟨d,S⟩
   ·refine fJ [(145,_)] 1 [some 0] fun G a w S=>?_
    exact sLoadV1 (vq:=cd) 0 (iv ax) S (wN d) d d d d d (lb d) fun a S=>leafL ⟨d,S⟩
   ·exact fM 15 none d d d d (.inl d) d d d
   ·exact fM 16 none d d d d (.inl d) d d d
   ·exact fM 17 none d d d d (.inl d) d d d
   ·refine fJ [(148,_),(149,_)] 18 [some 16,some 17] fun G a w S=>?_
    exact sIdxV S (wN d) d d d bB d (lb d) fun a S=>leafL ⟨d,S⟩
   ·refine fJ [(150,_)] 19 [some 18] fun G a w S=>?_
    exact sLoadVN (vq:=bo) 4 [.int .u8 aa.Kind,.bool aa.Purl,iv aa.A,iv aa.B] S (wN d) d d d d d d (lb d) fun a S=>leafL ⟨d,S⟩
   ·refine fJ [(147,_),(151,_)] 20 [some 15,some 19] fun G a w S=>?_
    have S1:=S.mem
    refine sCallVQ (X:=Unit) (g:=84) (vs:=[.agg #[.int .u8 aa.Kind,.bool aa.Purl,iv aa.A,iv aa.B]]) (caps:=[]) (val:=fun _=>iv ay) S (wN d) d d callee84 d (S1.quiet [5] d) (fun E1 w1 S1=>c_compare_cellTable_1 E1 w1 aa (.agg #[.int .u8 aa.Kind,.bool aa.Purl,iv aa.A,iv aa.B]) ay bw S1) d (lb d) fun _ a w S=>?_
    exact leafL ⟨d,S⟩
   ·refine fJ [(146,_),(152,_)] 2 [some 1,some 20] fun G a w S=>?_
    exact sBin _ S (wN d) d d d (bAdd _ _ _ _ ax ay) d (lb d) fun a S=>leafL ⟨d,S⟩
   ·refine fJ [(137,_),(138,_)] 3 [some 8,some 9] fun G a w S=>?_
    exact sIdxV S (wN d) d d d cy d (lb d) fun a S=>leafL ⟨d,S⟩
   refine ⟨_,[(153,iv (w64 (ax + ay))),(154,ce)],d,(srcs_of [some 2,some 3] d d d),fun G a w S=>?_⟩
   refine sStoreR (r:=(rI .i64)) (T:=3) (xs:=ac) (ys:=cr) (y:=(w64 (ax + ay))) (v:=.slice a6 ac.length a7) (vq:=ce) (u:=iv (w64 (ax + ay))) (j:=ab) 1 S cz (wN d) d d d d d bx d d fun a w S=>leafL ⟨d,_,_,.inr ⟨[],d,S,hz_of d,?_⟩⟩
   refine node_by (A:=anc_compare_table_api_Stitch__s0_1) 22 (by kernel_rfl) (by kernel_rfl) (by kernel_rfl) (by kernel_rfl) (by kernel_rfl) [11,12,19,20,9,0,1,2,3,4,5,6,7,8,10,13,14,15,16,17,18] (by kernel_rfl) (by decide) (by decide) (fD 21 (fD 21 (fD 21 (fD 21 (fD 21 (fD 21 (fD 21 (fD 21 (fD 21 (fY (fD 21 (fD 21 (fD 21 (fD 21 (fD 21 (fD 21 (fD 21 (fD 21 (fD 21 (fD 21 (fD 21 (fY (trivial))))))))))))))))))))))) [(0,.slice av p0.length aw),(1,.slice ar p1.length au),(2,.func (.func 84) #[] #[]),(3,.func (.func 85) #[] #[]),(9,.slice ae a8.length af),(10,iv a9),(11,iv ab)] (fin_of [none,none,none,none,none,none,none] d (by kernel_rfl) (by kernel_rfl)) (fun _ a w S=>?_)
   rw [setO_v bx a6 a7] at S
   exact leafB (leafB (leafT (⟨cr,Option.some.inj h,S.fix [1,0] [7,8] (by decide) d d d⟩)))
  ·exact fM 9 none d d d d (.inl d) d d d
  ·exact fM 10 none d d d d (.inl d) d d d
  ·exact fM 11 none d d d d (.inl d) d d d
  ·exact fM 12 none d d d d (.inl d) d d d
  ·refine fJ [(148,_),(149,_)] 13 [some 11,some 12] fun G a w S=>?_
   exact sIdxV S (wN d) d d d bB d (lb d) fun a S=>leafL ⟨d,S⟩
  ·refine fJ [(150,_)] 14 [some 13] fun G a w S=>?_
   exact sLoadVN (vq:=bo) 0 [.int .u8 aa.Kind,.bool aa.Purl,iv aa.A,iv aa.B] S (wN d) d d d d d d (lb d) fun a S=>leafL ⟨d,S⟩
  refine fJ [(147,_),(151,_)] 15 [some 10,some 14] fun G a w S=>?_
  have S1:=S.mem
  refine sCallVQ (X:=Unit) (g:=84) (vs:=[.agg #[.int .u8 aa.Kind,.bool aa.Purl,iv aa.A,iv aa.B]]) (caps:=[]) (val:=fun _=>iv ay) S (wN d) d d callee84 d (S1.quiet [1] d) (fun E1 w1 S1=>c_compare_cellTable_1 E1 w1 aa (.agg #[.int .u8 aa.Kind,.bool aa.Purl,iv aa.A,iv aa.B]) ay bw S1) d (lb d) fun _ a w S=>?_
  exact leafL ⟨d,S⟩
 refine sCondF S d bh ?_
 obtain ⟨am,ao,h⟩:=bS h
 obtain ⟨ai,bE,h⟩:=bS h
 obtain ⟨a0,bG,h⟩:=bS h
 obtain ⟨aj,aC,h⟩:=bS h
 obtain ⟨ag,az,h⟩:=bS h
 obtain ⟨a5,bH,h⟩:=bS h
 obtain ⟨ah,aG,h⟩:=bS h
 obtain ⟨ak,bI,h⟩:=bS h
 obtain ⟨al,aH,h⟩:=bS h
 obtain ⟨dY,bJ,h⟩:=bS h
 obtain ⟨bp,aX,h⟩:=bS h
 obtain ⟨bc,aI,aJ⟩:=pIdxH (P:=Try.prog) (r:=(rL (rI .i64))) (T:=101) (v:=.slice ae a8.length af) (xs:=a8) (j:=a9) 98 101 0 S Try.underlying98 d d ap
 obtain ⟨bk,bK,bL⟩:=pIdxH (P:=Try.prog) (r:=(rL (rI .i64))) (T:=101) (v:=.slice ae a8.length af) (xs:=a8) (j:=w64 (a9 + 1)) 98 101 0 S Try.underlying98 d d ao
 obtain ⟨aT,aK,S⟩:=pIdx (P:=Try.prog) (r:=r_api_Stitch) (v:=.slice av p0.length aw) (xs:=p0) (j:=a9) 47 81 0 S Try.underlying47 d d bG
 obtain ⟨cA,S⟩:=pLoad (r:=r_api_Stitch) (q:=aT) (x:=a0) 0 S d
 obtain rfl:cA=.agg #[.int .u8 a0.Kind,.bool a0.Purl,iv a0.A,iv a0.B]:=S.mem.know (i:=1) (e:=fRep r_api_Stitch (cA) a0) d
 obtain ⟨bf,aL,aM⟩:=pIdxH (P:=Try.prog) (r:=(rL (rI .i64))) (T:=101) (v:=.slice ae a8.length af) (xs:=a8) (j:=a9) 98 101 0 S Try.underlying98 d d ap
 obtain ⟨bg,aO,aP⟩:=pIdxR (P:=Try.prog) (r:=(rI .i64)) (T:=3) (v:=.slice a6 ac.length a7) (xs:=ac) (j:=w64 (ab + 1)) 101 3 1 S Try.underlying101 d d az
 obtain ⟨aU,aQ,S⟩:=pIdx (P:=Try.prog) (r:=r_api_Stitch) (v:=.slice ar p1.length au) (xs:=p1) (j:=ab) 47 81 4 S Try.underlying47 d d bH
 obtain ⟨cB,S⟩:=pLoad (r:=r_api_Stitch) (q:=aU) (x:=a5) 0 S d
 obtain rfl:cB=.agg #[.int .u8 a5.Kind,.bool a5.Purl,iv a5.A,iv a5.B]:=S.mem.know (i:=1) (e:=fRep r_api_Stitch (cB) a5) d
 obtain ⟨bl,bM,bN⟩:=pIdxH (P:=Try.prog) (r:=(rL (rI .i64))) (T:=101) (v:=.slice ae a8.length af) (xs:=a8) (j:=w64 (a9 + 1)) 98 101 0 S Try.underlying98 d d ao
 obtain ⟨aV,aR,S⟩:=pIdx (P:=Try.prog) (r:=r_api_Stitch) (v:=.slice av p0.length aw) (xs:=p0) (j:=a9) 47 81 6 S Try.underlying47 d d bG
 obtain ⟨cC,S⟩:=pLoad (r:=r_api_Stitch) (q:=aV) (x:=a0) 0 S d
 obtain rfl:cC=.agg #[.int .u8 a0.Kind,.bool a0.Purl,iv a0.A,iv a0.B]:=S.mem.know (i:=1) (e:=fRep r_api_Stitch (cC) a0) d
 obtain ⟨aW,aS,S⟩:=pIdx (P:=Try.prog) (r:=r_api_Stitch) (v:=.slice ar p1.length au) (xs:=p1) (j:=ab) 47 81 10 S Try.underlying47 d d bH
 obtain ⟨cD,S⟩:=pLoad (r:=r_api_Stitch) (q:=aW) (x:=a5) 0 S d
 obtain rfl:cD=.agg #[.int .u8 a5.Kind,.bool a5.Purl,iv a5.A,iv a5.B]:=S.mem.know (i:=1) (e:=fRep r_api_Stitch (cD) a5) d
 refine sDraw (nf:=[9,39,57]) (W:=[(0,35,.slice ae a8.length af),(1,36,iv a9),(2,37,bc),(3,38,.slice a6 ac.length a7),(4,39,iv ab),(5,40,.slice ae a8.length af),(6,41,iv a9),(7,42,iv (w64 (a9 + 1))),(8,43,bk),(10,45,iv ab),(13,48,.func (.func 84) #[] #[]),(14,49,.slice av p0.length aw),(15,50,iv a9),(16,51,aT),(17,52,.agg #[.int .u8 a0.Kind,.bool a0.Purl,iv a0.A,iv a0.B]),(18,53,iv aj),(20,55,.slice ae a8.length af),(21,56,iv a9),(22,57,bf),(23,58,.slice a6 ac.length a7),(24,59,iv ab),(25,60,iv (w64 (ab + 1))),(26,61,bg),(27,62,iv ag),(28,63,.func (.func 84) #[] #[]),(29,64,.slice ar p1.length au),(30,65,iv ab),(31,66,aU),(32,67,.agg #[.int .u8 a5.Kind,.bool a5.Purl,iv a5.A,iv a5.B]),(33,68,iv ah),(34,69,iv (w64 (ag + ah))),(35,70,.slice ae a8.length af),(36,71,iv a9),(37,72,iv (w64 (a9 + 1))),(38,73,bl),(40,75,iv ab),(41,76,iv (w64 (ab + 1))),(44,79,.func (.func 85) #[] #[]),(45,80,.slice av p0.length aw),(46,81,iv a9),(47,82,aV),(48,83,.agg #[.int .u8 a0.Kind,.bool a0.Purl,iv a0.A,iv a0.B]),(49,84,.slice ar p1.length au),(50,85,iv ab),(51,86,aW),(52,87,.agg #[.int .u8 a5.Kind,.bool a5.Purl,iv a5.A,iv a5.B]),(53,88,iv al)]) d S ?_
 refine node_by (A:=anc_compare_table_api_Stitch__s0_2) 58 (by kernel_rfl) (by kernel_rfl) (by kernel_rfl) (by kernel_rfl) (by kernel_rfl) [0,1,2,3,4,5,6,7,8,10,13,14,15,16,17,18,20,21,22,23,24,25,26,27,28,29,30,31,32,33,34,35,36,37,38,40,41,44,45,46,47,48,49,50,51,52,53] (by kernel_rfl) (by decide) (by decide) (fF ?_ (fF ?_ (fF ?_ (fF ?_ (fF ?_ (fF ?_ (fF ?_ (fF ?_ (fF ?_ (fN ?_ (fF ?_ (fE 9 (fE 9 (fF ?_ (fF ?_ (fF ?_ (fF ?_ (fF ?_ (fF ?_ (fE 9 (fF ?_ (fF ?_ (fF ?_ (fF ?_ (fF ?_ (fF ?_ (fF ?_ (fF ?_ (fF ?_ (fF ?_ (fF ?_ (fF ?_ (fF ?_ (fF ?_ (fF ?_ (fF ?_ (fF ?_ (fF ?_ (fF ?_ (fN ?_ (fF ?_ (fF ?_ (fE 39 (fE 39 (fF ?_ (fF ?_ (fF ?_ (fF ?_ (fF ?_ (fF ?_ (fF ?_ (fF ?_ (fF ?_ (fF ?_ (fE 39 (fE 9 (fE 9 (aB 57 0 9 (by decide) (trivial))))))))))))))))))))))))))))))))))))))))))))))))))))))))))) [] (fun q hq=>by cases hq) (fun hY=>absurd (hY 9 (by decide)) (by decide))
 ·exact fM 0 none d d d d (.inl d) d d d
 ·exact fM 1 none d d d d (.inl d) d d d
 ·refine fJ [(35,_),(36,_)] 2 [some 0,some 1] fun G a w S=>?_
  exact sIdxV S (wN d) d d d aI d (lb d) fun a S=>leafL ⟨d,S⟩
 ·refine fJ [(37,_)] 3 [some 2] fun G a w S=>?_
  exact sLoadHE (r:=(rL (rI .i64))) (T:=101) (xs:=a8) (u:=.slice a6 ac.length a7) (v:=.slice ae a8.length af) (vq:=bc) (j:=a9) 0 S aJ (wN d) d d d d d (lb d) fun a S=>leafL ⟨d,S⟩
 ·exact fM 4 none d d d d (.inl d) d d d
 ·exact fM 5 none d d d d (.inl d) d d d
 ·exact fM 6 none d d d d (.inl d) d d d
 ·refine fJ [(41,_)] 7 [some 6] fun G a w S=>?_
  exact sBin _ S (wN d) d d d (bAdd _ _ _ _ a9 1) d (lb d) fun a S=>leafL ⟨d,S⟩
 ·refine fJ [(40,_),(42,_)] 8 [some 5,some 7] fun G a w S=>?_
  exact sIdxV S (wN d) d d d bK d (lb d) fun a S=>leafL ⟨d,S⟩
 ·refine ⟨_,[(43,bk)],d,(srcs_of [some 8] d d d),fun G a w S=>?_⟩
  refine sLoadHo (r:=(rL (rI .i64))) (T:=101) (xs:=a8) (x:=am) (p:=(a9).toNat * (rL (rI .i64)).sz + 0) (u:=.slice a6 ac.length a7) (v:=.slice ae a8.length af) (vq:=bk) (j:=w64 (a9 + 1)) 0 S bL (wN d) d d d ao (idx_next (by decide) (hole_lim 0 S.mem d) ap ao) (scal_L _) d d (lb d) fun a du S=>?_
  obtain ⟨bO,bP,_,rfl,_⟩:=S.mem.know (i:=0) (e:=fRep (rL (rI .i64)) (du) am) d
  obtain ⟨bq,bQ,S⟩:=pIdx (P:=Try.prog) (r:=(rI .i64)) (v:=.slice bO am.length bP) (xs:=am) (j:=ab) 101 3 0 S Try.underlying101 d d bE
  obtain ⟨cE,S⟩:=pLoad (r:=(rI .i64)) (q:=bq) (x:=ai) 0 S d
  obtain rfl:cE=iv ai:=S.mem.know (i:=1) (e:=fRep (rI .i64) (cE) ai) d
  refine leafL ⟨d,_,_,.inl ⟨44,(.slice bO am.length bP),[(11,46,bq),(12,47,iv ai),(19,54,iv (w64 (ai + aj)))],d,S,hz_of d,?_⟩⟩
  refine node_by (A:=anc_compare_table_api_Stitch__s0_2) 58 (by kernel_rfl) (by kernel_rfl) (by kernel_rfl) (by kernel_rfl) (by kernel_rfl) [11,12,19,9,0,1,2,3,4,5,6,7,8,10,13,14,15,16,17,18,20,21,22,23,24,25,26,27,28,29,30,31,32,33,34,35,36,37,38,40,41,44,45,46,47,48,49,50,51,52,53] (by kernel_rfl) (by decide) (by decide) (fF ?_ (fF ?_ (fF ?_ (fF ?_ (fF ?_ (fD 9 (fD 9 (fD 9 (fD 9 (fY (fF ?_ (fF ?_ (fF ?_ (fF ?_ (fF ?_ (fF ?_ (fF ?_ (fF ?_ (fF ?_ (fF ?_ (fF ?_ (fF ?_ (fF ?_ (fF ?_ (fF ?_ (fF ?_ (fF ?_ (fF ?_ (fF ?_ (fF ?_ (fF ?_ (fF ?_ (fF ?_ (fF ?_ (fF ?_ (fF ?_ (fF ?_ (fF ?_ (fF ?_ (fN ?_ (fF ?_ (fF ?_ (fE 39 (fE 39 (fF ?_ (fF ?_ (fF ?_ (fF ?_ (fF ?_ (fF ?_ (fF ?_ (fF ?_ (fF ?_ (fF ?_ (fE 39 (fE 39 (fE 39 (aB 57 0 39 (by decide) (trivial))))))))))))))))))))))))))))))))))))))))))))))))))))))))))) [] (fun q hq=>by cases hq) (fun hY=>absurd (hY 39 (by decide)) (by decide))
  ·exact fM 4 none d d d d (.inl d) d d d
  ·exact fM 5 none d d d d (.inl d) d d d
  ·refine fJ [(35,_),(36,_)] 6 [some 4,some 5] fun G a w S=>?_
   exact sIdxV S (wN d) d d d aI d (lb d) fun a S=>leafL ⟨d,S⟩
  ·refine fJ [(37,_)] 7 [some 6] fun G a w S=>?_
   exact sLoadHE (r:=(rL (rI .i64))) (T:=101) (xs:=a8) (u:=.slice a6 ac.length a7) (v:=.slice ae a8.length af) (vq:=bc) (j:=a9) 0 S aJ (wN d) d d d d d (lb d) fun a S=>leafL ⟨d,S⟩
  ·exact fM 8 none d d d d (.inl d) d d d
  ·exact fM 13 none d d d d (.inl d) d d d
  ·refine fJ [(44,_),(45,_)] 0 [some 3,some 13] fun G a w S=>?_
   exact sIdxV S (wN d) d d d bQ d (lb d) fun a S=>leafL ⟨d,S⟩
  ·refine fJ [(46,_)] 1 [some 0] fun G a w S=>?_
   exact sLoadV1 (vq:=bq) 0 (iv ai) S (wN d) d d d d d (lb d) fun a S=>leafL ⟨d,S⟩
  ·exact fM 14 none d d d d (.inl d) d d d
  ·exact fM 15 none d d d d (.inl d) d d d
  ·exact fM 16 none d d d d (.inl d) d d d
  ·refine fJ [(49,_),(50,_)] 17 [some 15,some 16] fun G a w S=>?_
   exact sIdxV S (wN d) d d d aK d (lb d) fun a S=>leafL ⟨d,S⟩
  ·refine fJ [(51,_)] 18 [some 17] fun G a w S=>?_
   exact sLoadVN (vq:=aT) 13 [.int .u8 a0.Kind,.bool a0.Purl,iv a0.A,iv a0.B] S (wN d) d d d d d d (lb d) fun a S=>leafL ⟨d,S⟩
  ·refine fJ [(48,_),(52,_)] 19 [some 14,some 18] fun G a w S=>?_
   have S1:=S.mem
   refine sCallVQ (X:=Unit) (g:=84) (vs:=[.agg #[.int .u8 a0.Kind,.bool a0.Purl,iv a0.A,iv a0.B]]) (caps:=[]) (val:=fun _=>iv aj) S (wN d) d d callee84 d (S1.quiet [8] d) (fun E1 w1 S1=>c_compare_cellTable_1 E1 w1 a0 (.agg #[.int .u8 a0.Kind,.bool a0.Purl,iv a0.A,iv a0.B]) aj aC S1) d (lb d) fun _ a w S=>?_
   exact leafL ⟨d,S⟩
  ·refine fJ [(47,_),(53,_)] 2 [some 1,some 19] fun G a w S=>?_
   exact sBin _ S (wN d) d d d (bAdd _ _ _ _ ai aj) d (lb d) fun a S=>leafL ⟨d,S⟩
  ·exact fM 20 none d d d d (.inl d) d d d
  ·exact fM 21 none d d d d (.inl d) d d d
  ·refine fJ [(55,_),(56,_)] 22 [some 20,some 21] fun G a w S=>?_
   exact sIdxV S (wN d) d d d aL d (lb d) fun a S=>leafL ⟨d,S⟩
  ·refine fJ [(57,_)] 23 [some 22] fun G a w S=>?_
   exact sLoadHE (r:=(rL (rI .i64))) (T:=101) (xs:=a8) (u:=.slice a6 ac.length a7) (v:=.slice ae a8.length af) (vq:=bf) (j:=a9) 0 S aM (wN d) d d d d d (lb d) fun a S=>leafL ⟨d,S⟩
  ·exact fM 24 none d d d d (.inl d) d d d
  ·refine fJ [(59,_)] 25 [some 24] fun G a w S=>?_
   exact sBin _ S (wN d) d d d (bAdd _ _ _ _ ab 1) d (lb d) fun a S=>leafL ⟨d,S⟩
  ·refine fJ [(58,_),(60,_)] 26 [some 23,some 25] fun G a w S=>?_
   exact sIdxV S (wN d) d d d aO d (lb d) fun a S=>leafL ⟨d,S⟩
  ·refine fJ [(61,_)] 27 [some 26] fun G a w S=>?_
   exact sLoadR (r:=(rI .i64)) (T:=3) (xs:=ac) (x:=ag) (v:=.slice a6 ac.length a7) (vq:=bg) (j:=w64 (ab + 1)) 1 (iv ag) S aP (wN d) d d d az (fun _ _ _ h=>h) (scal_I _) d d (lb d) fun a S=>leafL ⟨d,S⟩
  ·exact fM 28 none d d d d (.inl d) d d d
  ·exact fM 29 none d d d d (.inl d) d d d
  ·exact fM 30 none d d d d (.inl d) d d d
  ·refine fJ [(64,_),(65,_)] 31 [some 29,some 30] fun G a w S=>?_
   exact sIdxV S (wN d) d d d aQ d (lb d) fun a S=>leafL ⟨d,S⟩
  ·refine fJ [(66,_)] 32 [some 31] fun G a w S=>?_
   exact sLoadVN (vq:=aU) 10 [.int .u8 a5.Kind,.bool a5.Purl,iv a5.A,iv a5.B] S (wN d) d d d d d d (lb d) fun a S=>leafL ⟨d,S⟩
  ·refine fJ [(63,_),(67,_)] 33 [some 28,some 32] fun G a w S=>?_
   have S1:=S.mem
   refine sCallVQ (X:=Unit) (g:=84) (vs:=[.agg #[.int .u8 a5.Kind,.bool a5.Purl,iv a5.A,iv a5.B]]) (caps:=[]) (val:=fun _=>iv ah) S (wN d) d d callee84 d (S1.quiet [5] d) (fun E1 w1 S1=>c_compare_cellTable_1 E1 w1 a5 (.agg #[.int .u8 a5.Kind,.bool a5.Purl,iv a5.A,iv a5.B]) ah aG S1) d (lb d) fun _ a w S=>?_
   exact leafL ⟨d,S⟩
  ·refine fJ [(62,_),(68,_)] 34 [some 27,some 33] fun G a w S=>?_
   exact sBin _ S (wN d) d d d (bAdd _ _ _ _ ag ah) d (lb d) fun a S=>leafL ⟨d,S⟩
  ·exact fM 35 none d d d d (.inl d) d d d
  ·exact fM 36 none d d d d (.inl d) d d d
  ·refine fJ [(71,_)] 37 [some 36] fun G a w S=>?_
   exact sBin _ S (wN d) d d d (bAdd _ _ _ _ a9 1) d (lb d) fun a S=>leafL ⟨d,S⟩
  ·refine fJ [(70,_),(72,_)] 38 [some 35,some 37] fun G a w S=>?_
   exact sIdxV S (wN d) d d d bM d (lb d) fun a S=>leafL ⟨d,S⟩
  ·refine ⟨_,[(73,bl)],d,(srcs_of [some 38] d d d),fun G a w S=>?_⟩
   refine sLoadHo (r:=(rL (rI .i64))) (T:=101) (xs:=a8) (x:=am) (p:=(a9).toNat * (rL (rI .i64)).sz + 0) (u:=.slice a6 ac.length a7) (v:=.slice ae a8.length af) (vq:=bl) (j:=w64 (a9 + 1)) 0 S bN (wN d) d d d ao (idx_next (by decide) (hole_lim 0 S.mem d) ap ao) (scal_L _) d d (lb d) fun a dv S=>?_
   obtain ⟨bR,bU,_,rfl,_⟩:=S.mem.know (i:=0) (e:=fRep (rL (rI .i64)) (dv) am) d
   obtain ⟨cf,cF,S⟩:=pIdx (P:=Try.prog) (r:=(rI .i64)) (v:=.slice bR am.length bU) (xs:=am) (j:=w64 (ab + 1)) 101 3 0 S Try.underlying101 d d bI
   obtain ⟨cG,S⟩:=pLoad (r:=(rI .i64)) (q:=cf) (x:=ak) 0 S d
   obtain rfl:cG=iv ak:=S.mem.know (i:=1) (e:=fRep (rI .i64) (cG) ak) d
   obtain ⟨cg,cH,cI⟩:=pIdxR (P:=Try.prog) (r:=(rI .i64)) (T:=3) (v:=.slice a6 ac.length a7) (xs:=ac) (j:=ab) 101 3 1 S Try.underlying101 d d bJ
   refine leafL ⟨d,_,_,.inl ⟨74,(.slice bR am.length bU),[(42,77,cf),(43,78,iv ak),(54,89,iv (w64 (ak + al))),(55,90,iv (min3 (w64 (ai + aj)) (w64 (ag + ah)) (w64 (ak + al)))),(56,91,cg)],d,S,hz_of d,?_⟩⟩
   refine node_by (A:=anc_compare_table_api_Stitch__s0_2) 58 (by kernel_rfl) (by kernel_rfl) (by kernel_rfl) (by kernel_rfl) (by kernel_rfl) [42,43,54,55,56,39,11,12,19,9,0,1,2,3,4,5,6,7,8,10,13,14,15,16,17,18,20,21,22,23,24,25,26,27,28,29,30,31,32,33,34,35,36,37,38,40,41,44,45,46,47,48,49,50,51,52,53] (by kernel_rfl) (by decide) (by decide) (fF ?_ (fF ?_ (fF ?_ (fF ?_ (fF ?_ (fD 9 (fD 9 (fD 9 (fD 9 (fY (fF ?_ (fF ?_ (fF ?_ (fF ?_ (fF ?_ (fF ?_ (fF ?_ (fF ?_ (fF ?_ (fF ?_ (fF ?_ (fF ?_ (fF ?_ (fF ?_ (fF ?_ (fF ?_ (fF ?_ (fF ?_ (fF ?_ (fF ?_ (fF ?_ (fF ?_ (fF ?_ (fF ?_ (fF ?_ (fD 39 (fD 39 (fD 39 (fD 39 (fY (fF ?_ (fF ?_ (fF ?_ (fF ?_ (fF ?_ (fF ?_ (fF ?_ (fF ?_ (fF ?_ (fF ?_ (fF ?_ (fF ?_ (fF ?_ (fF ?_ (fF ?_ (fF ?_ (fF ?_ (fN ?_ (trivial))))))))))))))))))))))))))))))))))))))))))))))))))))))))))) [] (fun q hq=>by cases hq) (fun hY=>absurd (hY 57 (by decide)) (by decide))
   ·exact fM 10 none d d d d (.inl d) d d d
   ·exact fM 11 none d d d d (.inl d) d d d
   ·refine fJ [(35,_),(36,_)] 12 [some 10,some 11] fun G a w S=>?_
    exact sIdxV S (wN d) d d d aI d (lb d) fun a S=>leafL ⟨d,S⟩
   ·refine fJ [(37,_)] 13 [some 12] fun G a w S=>?_
    exact sLoadHE (r:=(rL (rI .i64))) (T:=101) (xs:=a8) (u:=.slice a6 ac.length a7) (v:=.slice ae a8.length af) (vq:=bc) (j:=a9) 0 S aJ (wN d) d d d d d (lb d) fun a S=>leafL ⟨d,S⟩
   ·exact fM 14 none d d d d (.inl d) d d d
   ·exact fM 19 none d d d d (.inl d) d d d
   ·refine fJ [(44,_),(45,_)] 6 [some 9,some 19] fun G a w S=>?_
    exact sIdxV S (wN d) d d d bQ d (lb d) fun a S=>leafL ⟨d,S⟩
   ·refine fJ [(46,_)] 7 [some 6] fun G a w S=>?_
    exact sLoadV1 (vq:=bq) 4 (iv ai) S (wN d) d d d d d (lb d) fun a S=>leafL ⟨d,S⟩
   ·exact fM 20 none d d d d (.inl d) d d d
   ·exact fM 21 none d d d d (.inl d) d d d
   ·exact fM 22 none d d d d (.inl d) d d d
   ·refine fJ [(49,_),(50,_)] 23 [some 21,some 22] fun G a w S=>?_
    exact sIdxV S (wN d) d d d aK d (lb d) fun a S=>leafL ⟨d,S⟩
   ·refine fJ [(51,_)] 24 [some 23] fun G a w S=>?_
    exact sLoadVN (vq:=aT) 17 [.int .u8 a0.Kind,.bool a0.Purl,iv a0.A,iv a0.B] S (wN d) d d d d d d (lb d) fun a S=>leafL ⟨d,S⟩
   ·refine fJ [(48,_),(52,_)] 25 [some 20,some 24] fun G a w S=>?_
    have S1:=S.mem
    refine sCallVQ (X:=Unit) (g:=84) (vs:=[.agg #[.int .u8 a0.Kind,.bool a0.Purl,iv a0.A,iv a0.B]]) (caps:=[]) (val:=fun _=>iv aj) S (wN d) d d callee84 d (S1.quiet [12] d) (fun E1 w1 S1=>c_compare_cellTable_1 E1 w1 a0 (.agg #[.int .u8 a0.Kind,.bool a0.Purl,iv a0.A,iv a0.B]) aj aC S1) d (lb d) fun _ a w S=>?_
    exact leafL ⟨d,S⟩
   ·refine fJ [(47,_),(53,_)] 8 [some 7,some 25] fun G a w S=>?_
    exact sBin _ S (wN d) d d d (bAdd _ _ _ _ ai aj) d (lb d) fun a S=>leafL ⟨d,S⟩
   ·exact fM 26 none d d d d (.inl d) d d d
   ·exact fM 27 none d d d d (.inl d) d d d
   ·refine fJ [(55,_),(56,_)] 28 [some 26,some 27] fun G a w S=>?_
    exact sIdxV S (wN d) d d d aL d (lb d) fun a S=>leafL ⟨d,S⟩
   ·refine fJ [(57,_)] 29 [some 28] fun G a w S=>?_
    exact sLoadHE (r:=(rL (rI .i64))) (T:=101) (xs:=a8) (u:=.slice a6 ac.length a7) (v:=.slice ae a8.length af) (vq:=bf) (j:=a9) 0 S aM (wN d) d d d d d (lb d) fun a S=>leafL ⟨d,S⟩
   ·exact fM 30 none d d d d (.inl d) d d d
   ·refine fJ [(59,_)] 31 [some 30] fun G a w S=>?_
    exact sBin _ S (wN d) d d d (bAdd _ _ _ _ ab 1) d (lb d) fun a S=>leafL ⟨d,S⟩
   ·refine fJ [(58,_),(60,_)] 32 [some 29,some 31] fun G a w S=>?_
    exact sIdxV S (wN d) d d d aO d (lb d) fun a S=>leafL ⟨d,S⟩
   ·refine fJ [(61,_)] 33 [some 32] fun G a w S=>?_
    exact sLoadR (r:=(rI .i64)) (T:=3) (xs:=ac) (x:=ag) (v:=.slice a6 ac.length a7) (vq:=bg) (j:=w64 (ab + 1)) 1 (iv ag) S aP (wN d) d d d az (fun _ _ _ h=>h) (scal_I _) d d (lb d) fun a S=>leafL ⟨d,S⟩
   ·exact fM 34 none d d d d (.inl d) d d d
   ·exact fM 35 none d d d d (.inl d) d d d
   ·exact fM 36 none d d d d (.inl d) d d d
   ·refine fJ [(64,_),(65,_)] 37 [some 35,some 36] fun G a w S=>?_
    exact sIdxV S (wN d) d d d aQ d (lb d) fun a S=>leafL ⟨d,S⟩
   ·refine fJ [(66,_)] 38 [some 37] fun G a w S=>?_
    exact sLoadVN (vq:=aU) 14 [.int .u8 a5.Kind,.bool a5.Purl,iv a5.A,iv a5.B] S (wN d) d d d d d d (lb d) fun a S=>leafL ⟨d,S⟩
   ·refine fJ [(63,_),(67,_)] 39 [some 34,some 38] fun G a w S=>?_
    have S1:=S.mem
    refine sCallVQ (X:=Unit) (g:=84) (vs:=[.agg #[.int .u8 a5.Kind,.bool a5.Purl,iv a5.A,iv a5.B]]) (caps:=[]) (val:=fun _=>iv ah) S (wN d) d d callee84 d (S1.quiet [9] d) (fun E1 w1 S1=>c_compare_cellTable_1 E1 w1 a5 (.agg #[.int .u8 a5.Kind,.bool a5.Purl,iv a5.A,iv a5.B]) ah aG S1) d (lb d) fun _ a w S=>?_
    exact leafL ⟨d,S⟩
   ·refine fJ [(62,_),(68,_)] 40 [some 33,some 39] fun G a w S=>?_
    exact sBin _ S (wN d) d d d (bAdd _ _ _ _ ag ah) d (lb d) fun a S=>leafL ⟨d,S⟩
   ·exact fM 45 none d d d d (.inl d) d d d
   ·refine fJ [(75,_)] 46 [some 45] fun G a w S=>?_
    exact sBin _ S (wN d) d d d (bAdd _ _ _ _ ab 1) d (lb d) fun a S=>leafL ⟨d,S⟩
   ·refine fJ [(74,_),(76,_)] 0 [some 5,some 46] fun G a w S=>?_
    exact sIdxV S (wN d) d d d cF d (lb d) fun a S=>leafL ⟨d,S⟩
   ·refine fJ [(77,_)] 1 [some 0] fun G a w S=>?_
    exact sLoadV1 (vq:=cf) 0 (iv ak) S (wN d) d d d d d (lb d) fun a S=>leafL ⟨d,S⟩
   ·exact fM 47 none d d d d (.inl d) d d d
   ·exact fM 48 none d d d d (.inl d) d d d
   ·exact fM 49 none d d d d (.inl d) d d d
   ·refine fJ [(80,_),(81,_)] 50 [some 48,some 49] fun G a w S=>?_
    exact sIdxV S (wN d) d d d aR d (lb d) fun a S=>leafL ⟨d,S⟩
   ·refine fJ [(82,_)] 51 [some 50] fun G a w S=>?_
    exact sLoadVN (vq:=aV) 11 [.int .u8 a0.Kind,.bool a0.Purl,iv a0.A,iv a0.B] S (wN d) d d d d d d (lb d) fun a S=>leafL ⟨d,S⟩
   ·exact fM 52 none d d d d (.inl d) d d d
   ·exact fM 53 none d d d d (.inl d) d d d
   ·refine fJ [(84,_),(85,_)] 54 [some 52,some 53] fun G a w S=>?_
    exact sIdxV S (wN d) d d d aS d (lb d) fun a S=>leafL ⟨d,S⟩
   ·refine fJ [(86,_)] 55 [some 54] fun G a w S=>?_
    exact sLoadVN (vq:=aW) 8 [.int .u8 a5.Kind,.bool a5.Purl,iv a5.A,iv a5.B] S (wN d) d d d d d d (lb d) fun a S=>leafL ⟨d,S⟩
   ·refine fJ [(79,_),(83,_),(87,_)] 56 [some 47,some 51,some 55] fun G a w S=>?_
    have S1:=S.mem
    refine sCallVQ (X:=Unit) (g:=85) (vs:=[.agg #[.int .u8 a0.Kind,.bool a0.Purl,iv a0.A,iv a0.B],.agg #[.int .u8 a5.Kind,.bool a5.Purl,iv a5.A,iv a5.B]]) (caps:=[]) (val:=fun _=>iv al) S (wN d) d d callee85 d (S1.quiet [12,9] d) (fun E1 w1 S1=>c_compare_cellTable_2 E1 w1 a0 (.agg #[.int .u8 a0.Kind,.bool a0.Purl,iv a0.A,iv a0.B]) a5 (.agg #[.int .u8 a5.Kind,.bool a5.Purl,iv a5.A,iv a5.B]) al aH S1) d (lb d) fun _ a w S=>?_
    exact leafL ⟨d,S⟩
   ·refine fJ [(78,_),(88,_)] 2 [some 1,some 56] fun G a w S=>?_
    exact sBin _ S (wN d) d d d (bAdd _ _ _ _ ak al) d (lb d) fun a S=>leafL ⟨d,S⟩
   ·refine fJ [(54,_),(69,_),(89,_)] 3 [some 8,some 40,some 2] fun G a w S=>?_
    exact sMin3 (p:=w64 (ai + aj)) (q:=w64 (ag + ah)) (r:=w64 (ak + al)) S (wN d) d d d d d (lb d) fun a S=>leafL ⟨d,S⟩
   ·refine fJ [(38,_),(39,_)] 4 [some 13,some 14] fun G a w S=>?_
    exact sIdxV S (wN d) d d d cH d (lb d) fun a S=>leafL ⟨d,S⟩
   refine ⟨_,[(90,iv (min3 (w64 (ai + aj)) (w64 (ag + ah)) (w64 (ak + al)))),(91,cg)],d,(srcs_of [some 3,some 4] d d d),fun G a w S=>?_⟩
   refine sStoreR (r:=(rI .i64)) (T:=3) (xs:=ac) (ys:=bp) (y:=(min3 (w64 (ai + aj)) (w64 (ag + ah)) (w64 (ak + al)))) (v:=.slice a6 ac.length a7) (vq:=cg) (u:=iv (min3 (w64 (ai + aj)) (w64 (ag + ah)) (w64 (ak + al)))) (j:=ab) 1 S cI (wN d) d d d d d aX d d fun a w S=>leafL ⟨d,_,_,.inr ⟨[],d,S,hz_of d,?_⟩⟩
   refine node_by (A:=anc_compare_table_api_Stitch__s0_2) 58 (by kernel_rfl) (by kernel_rfl) (by kernel_rfl) (by kernel_rfl) (by kernel_rfl) [42,43,54,55,56,39,11,12,19,9,0,1,2,3,4,5,6,7,8,10,13,14,15,16,17,18,20,21,22,23,24,25,26,27,28,29,30,31,32,33,34,35,36,37,38,40,41,44,45,46,47,48,49,50,51,52,53] (by kernel_rfl) (by decide) (by decide) (fD 57 (fD 57 (fD 57 (fD 57 (fD 57 (fD 57 (fD 57 (fD 57 (fD 57 (fY (fD 57 (fD 57 (fD 57 (fD 57 (fD 57 (fD 57 (fD 57 (fD 57 (fD 57 (fD 57 (fD 57 (fD 57 (fD 57 (fD 57 (fD 57 (fD 57 (fD 57 (fD 57 (fD 57 (fD 57 (fD 57 (fD 57 (fD 57 (fD 57 (fD 57 (fD 57 (fD 57 (fD 57 (fD 57 (fY (fD 57 (fD 57 (fD 57 (fD 57 (fD 57 (fD 57 (fD 57 (fD 57 (fD 57 (fD 57 (fD 57 (fD 57 (fD 57 (fD 57 (fD 57 (fD 57 (fD 57 (fY (trivial))))))))))))))))))))))))))))))))))))))))))))))))))))))))))) [(0,.slice av p0.length aw),(1,.slice ar p1.length au),(2,.func (.func 84) #[] #[]),(3,.func (.func 85) #[] #[]),(9,.slice ae a8.length af),(10,iv a9),(11,iv ab)] (fin_of [none,none,none,none,none,none,none] d (by kernel_rfl) (by kernel_rfl)) (fun _ a w S=>?_)
   rw [setO_v aX a6 a7] at S
   exact leafB (leafB (leafT (⟨bp,Option.some.inj h,S.fix [1,0] [20,21] (by decide) d d d⟩)))
  ·exact fM 39 none d d d d (.inl d) d d d
  ·refine fJ [(75,_)] 40 [some 39] fun G a w S=>?_
   exact sBin _ S (wN d) d d d (bAdd _ _ _ _ ab 1) d (lb d) fun a S=>leafL ⟨d,S⟩
  ·exact fM 41 none d d d d (.inl d) d d d
  ·exact fM 42 none d d d d (.inl d) d d d
  ·exact fM 43 none d d d d (.inl d) d d d
  ·refine fJ [(80,_),(81,_)] 44 [some 42,some 43] fun G a w S=>?_
   exact sIdxV S (wN d) d d d aR d (lb d) fun a S=>leafL ⟨d,S⟩
  ·refine fJ [(82,_)] 45 [some 44] fun G a w S=>?_
   exact sLoadVN (vq:=aV) 7 [.int .u8 a0.Kind,.bool a0.Purl,iv a0.A,iv a0.B] S (wN d) d d d d d d (lb d) fun a S=>leafL ⟨d,S⟩
  ·exact fM 46 none d d d d (.inl d) d d d
  ·exact fM 47 none d d d d (.inl d) d d d
  ·refine fJ [(84,_),(85,_)] 48 [some 46,some 47] fun G a w S=>?_
   exact sIdxV S (wN d) d d d aS d (lb d) fun a S=>leafL ⟨d,S⟩
  ·refine fJ [(86,_)] 49 [some 48] fun G a w S=>?_
   exact sLoadVN (vq:=aW) 4 [.int .u8 a5.Kind,.bool a5.Purl,iv a5.A,iv a5.B] S (wN d) d d d d d d (lb d) fun a S=>leafL ⟨d,S⟩
  refine fJ [(79,_),(83,_),(87,_)] 50 [some 41,some 45,some 49] fun G a w S=>?_
  have S1:=S.mem
  refine sCallVQ (X:=Unit) (g:=85) (vs:=[.agg #[.int .u8 a0.Kind,.bool a0.Purl,iv a0.A,iv a0.B],.agg #[.int .u8 a5.Kind,.bool a5.Purl,iv a5.A,iv a5.B]]) (caps:=[]) (val:=fun _=>iv al) S (wN d) d d callee85 d (S1.quiet [8,5] d) (fun E1 w1 S1=>c_compare_cellTable_2 E1 w1 a0 (.agg #[.int .u8 a0.Kind,.bool a0.Purl,iv a0.A,iv a0.B]) a5 (.agg #[.int .u8 a5.Kind,.bool a5.Purl,iv a5.A,iv a5.B]) al aH S1) d (lb d) fun _ a w S=>?_
  exact leafL ⟨d,S⟩
 ·exact fM 9 none d d d d (.inl d) d d d
 ·exact fM 10 none d d d d (.inl d) d d d
 ·exact fM 11 none d d d d (.inl d) d d d
 ·exact fM 12 none d d d d (.inl d) d d d
 ·refine fJ [(49,_),(50,_)] 13 [some 11,some 12] fun G a w S=>?_
  exact sIdxV S (wN d) d d d aK d (lb d) fun a S=>leafL ⟨d,S⟩
 ·refine fJ [(51,_)] 14 [some 13] fun G a w S=>?_
  exact sLoadVN (vq:=aT) 9 [.int .u8 a0.Kind,.bool a0.Purl,iv a0.A,iv a0.B] S (wN d) d d d d d d (lb d) fun a S=>leafL ⟨d,S⟩
 ·refine fJ [(48,_),(52,_)] 15 [some 10,some 14] fun G a w S=>?_
  have S1:=S.mem
  refine sCallVQ (X:=Unit) (g:=84) (vs:=[.agg #[.int .u8 a0.Kind,.bool a0.Purl,iv a0.A,iv a0.B]]) (caps:=[]) (val:=fun _=>iv aj) S (wN d) d d callee84 d (S1.quiet [4] d) (fun E1 w1 S1=>c_compare_cellTable_1 E1 w1 a0 (.agg #[.int .u8 a0.Kind,.bool a0.Purl,iv a0.A,iv a0.B]) aj aC S1) d (lb d) fun _ a w S=>?_
  exact leafL ⟨d,S⟩
 ·exact fM 16 none d d d d (.inl d) d d d
 ·exact fM 17 none d d d d (.inl d) d d d
 ·refine fJ [(55,_),(56,_)] 18 [some 16,some 17] fun G a w S=>?_
  exact sIdxV S (wN d) d d d aL d (lb d) fun a S=>leafL ⟨d,S⟩
 ·refine fJ [(57,_)] 19 [some 18] fun G a w S=>?_
  exact sLoadHE (r:=(rL (rI .i64))) (T:=101) (xs:=a8) (u:=.slice a6 ac.length a7) (v:=.slice ae a8.length af) (vq:=bf) (j:=a9) 0 S aM (wN d) d d d d d (lb d) fun a S=>leafL ⟨d,S⟩
 ·exact fM 20 none d d d d (.inl d) d d d
 ·refine fJ [(59,_)] 21 [some 20] fun G a w S=>?_
  exact sBin _ S (wN d) d d d (bAdd _ _ _ _ ab 1) d (lb d) fun a S=>leafL ⟨d,S⟩
 ·refine fJ [(58,_),(60,_)] 22 [some 19,some 21] fun G a w S=>?_
  exact sIdxV S (wN d) d d d aO d (lb d) fun a S=>leafL ⟨d,S⟩
 ·refine fJ [(61,_)] 23 [some 22] fun G a w S=>?_
  exact sLoadR (r:=(rI .i64)) (T:=3) (xs:=ac) (x:=ag) (v:=.slice a6 ac.length a7) (vq:=bg) (j:=w64 (ab + 1)) 1 (iv ag) S aP (wN d) d d d az (fun _ _ _ h=>h) (scal_I _) d d (lb d) fun a S=>leafL ⟨d,S⟩
 ·exact fM 24 none d d d d (.inl d) d d d
 ·exact fM 25 none d d d d (.inl d) d d d
 ·exact fM 26 none d d d d (.inl d) d d d
 ·refine fJ [(64,_),(65,_)] 27 [some 25,some 26] fun G a w S=>?_
  exact sIdxV S (wN d) d d d aQ d (lb d) fun a S=>leafL ⟨d,S⟩
 ·refine fJ [(66,_)] 28 [some 27] fun G a w S=>?_
  exact sLoadVN (vq:=aU) 6 [.int .u8 a5.Kind,.bool a5.Purl,iv a5.A,iv a5.B] S (wN d) d d d d d d (lb d) fun a S=>leafL ⟨d,S⟩
 ·refine fJ [(63,_),(67,_)] 29 [some 24,some 28] fun G a w S=>?_
  have S1:=S.mem
  refine sCallVQ (X:=Unit) (g:=84) (vs:=[.agg #[.int .u8 a5.Kind,.bool a5.Purl,iv a5.A,iv a5.B]]) (caps:=[]) (val:=fun _=>iv ah) S (wN d) d d callee84 d (S1.quiet [1] d) (fun E1 w1 S1=>c_compare_cellTable_1 E1 w1 a5 (.agg #[.int .u8 a5.Kind,.bool a5.Purl,iv a5.A,iv a5.B]) ah aG S1) d (lb d) fun _ a w S=>?_
  exact leafL ⟨d,S⟩
 ·refine fJ [(62,_),(68,_)] 30 [some 23,some 29] fun G a w S=>?_
  exact sBin _ S (wN d) d d d (bAdd _ _ _ _ ag ah) d (lb d) fun a S=>leafL ⟨d,S⟩
 ·exact fM 31 none d d d d (.inl d) d d d
 ·exact fM 32 none d d d d (.inl d) d d d
 ·refine fJ [(71,_)] 33 [some 32] fun G a w S=>?_
  exact sBin _ S (wN d) d d d (bAdd _ _ _ _ a9 1) d (lb d) fun a S=>leafL ⟨d,S⟩
 ·refine fJ [(70,_),(72,_)] 34 [some 31,some 33] fun G a w S=>?_
  exact sIdxV S (wN d) d d d bM d (lb d) fun a S=>leafL ⟨d,S⟩
 ·refine ⟨_,[(73,bl)],d,(srcs_of [some 34] d d d),fun G a w S=>?_⟩
  refine sLoadHo (r:=(rL (rI .i64))) (T:=101) (xs:=a8) (x:=am) (p:=(a9).toNat * (rL (rI .i64)).sz + 0) (u:=.slice a6 ac.length a7) (v:=.slice ae a8.length af) (vq:=bl) (j:=w64 (a9 + 1)) 0 S bN (wN d) d d d ao (idx_next (by decide) (hole_lim 0 S.mem d) ap ao) (scal_L _) d d (lb d) fun a dw S=>?_
  obtain ⟨bV,bW,_,rfl,_⟩:=S.mem.know (i:=0) (e:=fRep (rL (rI .i64)) (dw) am) d
  obtain ⟨br,bX,S⟩:=pIdx (P:=Try.prog) (r:=(rI .i64)) (v:=.slice bV am.length bW) (xs:=am) (j:=w64 (ab + 1)) 101 3 0 S Try.underlying101 d d bI
  obtain ⟨cJ,S⟩:=pLoad (r:=(rI .i64)) (q:=br) (x:=ak) 0 S d
  obtain rfl:cJ=iv ak:=S.mem.know (i:=1) (e:=fRep (rI .i64) (cJ) ak) d
  refine leafL ⟨d,_,_,.inl ⟨74,(.slice bV am.length bW),[(42,77,br),(43,78,iv ak),(54,89,iv (w64 (ak + al)))],d,S,hz_of d,?_⟩⟩
  refine node_by (A:=anc_compare_table_api_Stitch__s0_2) 58 (by kernel_rfl) (by kernel_rfl) (by kernel_rfl) (by kernel_rfl) (by kernel_rfl) [42,43,54,39,0,1,2,3,4,5,6,7,8,10,13,14,15,16,17,18,20,21,22,23,24,25,26,27,28,29,30,31,32,33,34,35,36,37,38,40,41,44,45,46,47,48,49,50,51,52,53] (by kernel_rfl) (by decide) (by decide) (fF ?_ (fF ?_ (fF ?_ (fF ?_ (fF ?_ (fF ?_ (fF ?_ (fF ?_ (fF ?_ (fN ?_ (fF ?_ (fE 9 (fE 9 (fF ?_ (fF ?_ (fF ?_ (fF ?_ (fF ?_ (fF ?_ (fE 9 (fF ?_ (fF ?_ (fF ?_ (fF ?_ (fF ?_ (fF ?_ (fF ?_ (fF ?_ (fF ?_ (fF ?_ (fF ?_ (fF ?_ (fF ?_ (fF ?_ (fF ?_ (fD 39 (fD 39 (fD 39 (fD 39 (fY (fF ?_ (fF ?_ (fF ?_ (fF ?_ (fF ?_ (fF ?_ (fF ?_ (fF ?_ (fF ?_ (fF ?_ (fF ?_ (fF ?_ (fF ?_ (fF ?_ (fF ?_ (fE 9 (fE 9 (aB 57 0 9 (by decide) (trivial))))))))))))))))))))))))))))))))))))))))))))))))))))))))))) [] (fun q hq=>by cases hq) (fun hY=>absurd (hY 9 (by decide)) (by decide))
  ·exact fM 4 none d d d d (.inl d) d d d
  ·exact fM 5 none d d d d (.inl d) d d d
  ·refine fJ [(35,_),(36,_)] 6 [some 4,some 5] fun G a w S=>?_
   exact sIdxV S (wN d) d d d aI d (lb d) fun a S=>leafL ⟨d,S⟩
  ·refine fJ [(37,_)] 7 [some 6] fun G a w S=>?_
   exact sLoadHE (r:=(rL (rI .i64))) (T:=101) (xs:=a8) (u:=.slice a6 ac.length a7) (v:=.slice ae a8.length af) (vq:=bc) (j:=a9) 0 S aJ (wN d) d d d d d (lb d) fun a S=>leafL ⟨d,S⟩
  ·exact fM 8 none d d d d (.inl d) d d d
  ·exact fM 9 none d d d d (.inl d) d d d
  ·exact fM 10 none d d d d (.inl d) d d d
  ·refine fJ [(41,_)] 11 [some 10] fun G a w S=>?_
   exact sBin _ S (wN d) d d d (bAdd _ _ _ _ a9 1) d (lb d) fun a S=>leafL ⟨d,S⟩
  ·refine fJ [(40,_),(42,_)] 12 [some 9,some 11] fun G a w S=>?_
   exact sIdxV S (wN d) d d d bK d (lb d) fun a S=>leafL ⟨d,S⟩
  ·refine ⟨_,[(43,bk)],d,(srcs_of [some 12] d d d),fun G a w S=>?_⟩
   refine sLoadHo (r:=(rL (rI .i64))) (T:=101) (xs:=a8) (x:=am) (p:=(a9).toNat * (rL (rI .i64)).sz + 0) (u:=.slice a6 ac.length a7) (v:=.slice ae a8.length af) (vq:=bk) (j:=w64 (a9 + 1)) 0 S bL (wN d) d d d ao (idx_next (by decide) (hole_lim 0 S.mem d) ap ao) (scal_L _) d d (lb d) fun a dz S=>?_
   obtain ⟨bY,bZ,_,rfl,_⟩:=S.mem.know (i:=0) (e:=fRep (rL (rI .i64)) (dz) am) d
   obtain ⟨ci,cK,S⟩:=pIdx (P:=Try.prog) (r:=(rI .i64)) (v:=.slice bY am.length bZ) (xs:=am) (j:=ab) 101 3 0 S Try.underlying101 d d bE
   obtain ⟨cL,S⟩:=pLoad (r:=(rI .i64)) (q:=ci) (x:=ai) 0 S d
   obtain rfl:cL=iv ai:=S.mem.know (i:=1) (e:=fRep (rI .i64) (cL) ai) d
   obtain ⟨cj,cM,cN⟩:=pIdxR (P:=Try.prog) (r:=(rI .i64)) (T:=3) (v:=.slice a6 ac.length a7) (xs:=ac) (j:=ab) 101 3 1 S Try.underlying101 d d bJ
   refine leafL ⟨d,_,_,.inl ⟨44,(.slice bY am.length bZ),[(11,46,ci),(12,47,iv ai),(19,54,iv (w64 (ai + aj))),(55,90,iv (min3 (w64 (ai + aj)) (w64 (ag + ah)) (w64 (ak + al)))),(56,91,cj)],d,S,hz_of d,?_⟩⟩
   refine node_by (A:=anc_compare_table_api_Stitch__s0_2) 58 (by kernel_rfl) (by kernel_rfl) (by kernel_rfl) (by kernel_rfl) (by kernel_rfl) [11,12,19,55,56,9,42,43,54,39,0,1,2,3,4,5,6,7,8,10,13,14,15,16,17,18,20,21,22,23,24,25,26,27,28,29,30,31,32,33,34,35,36,37,38,40,41,44,45,46,47,48,49,50,51,52,53] (by kernel_rfl) (by decide) (by decide) (fF ?_ (fF ?_ (fF ?_ (fF ?_ (fF ?_ (fD 9 (fD 9 (fD 9 (fD 9 (fY (fF ?_ (fF ?_ (fF ?_ (fF ?_ (fF ?_ (fF ?_ (fF ?_ (fF ?_ (fF ?_ (fF ?_ (fF ?_ (fF ?_ (fF ?_ (fF ?_ (fF ?_ (fF ?_ (fF ?_ (fF ?_ (fF ?_ (fF ?_ (fF ?_ (fF ?_ (fF ?_ (fF ?_ (fF ?_ (fD 39 (fD 39 (fD 39 (fD 39 (fY (fF ?_ (fF ?_ (fF ?_ (fF ?_ (fF ?_ (fF ?_ (fF ?_ (fF ?_ (fF ?_ (fF ?_ (fF ?_ (fF ?_ (fF ?_ (fF ?_ (fF ?_ (fF ?_ (fF ?_ (fN ?_ (trivial))))))))))))))))))))))))))))))))))))))))))))))))))))))))))) [] (fun q hq=>by cases hq) (fun hY=>absurd (hY 57 (by decide)) (by decide))
   ·exact fM 10 none d d d d (.inl d) d d d
   ·exact fM 11 none d d d d (.inl d) d d d
   ·refine fJ [(35,_),(36,_)] 12 [some 10,some 11] fun G a w S=>?_
    exact sIdxV S (wN d) d d d aI d (lb d) fun a S=>leafL ⟨d,S⟩
   ·refine fJ [(37,_)] 13 [some 12] fun G a w S=>?_
    exact sLoadHE (r:=(rL (rI .i64))) (T:=101) (xs:=a8) (u:=.slice a6 ac.length a7) (v:=.slice ae a8.length af) (vq:=bc) (j:=a9) 0 S aJ (wN d) d d d d d (lb d) fun a S=>leafL ⟨d,S⟩
   ·exact fM 14 none d d d d (.inl d) d d d
   ·exact fM 19 none d d d d (.inl d) d d d
   ·refine fJ [(44,_),(45,_)] 0 [some 5,some 19] fun G a w S=>?_
    exact sIdxV S (wN d) d d d cK d (lb d) fun a S=>leafL ⟨d,S⟩
   ·refine fJ [(46,_)] 1 [some 0] fun G a w S=>?_
    exact sLoadV1 (vq:=ci) 0 (iv ai) S (wN d) d d d d d (lb d) fun a S=>leafL ⟨d,S⟩
   ·exact fM 20 none d d d d (.inl d) d d d
   ·exact fM 21 none d d d d (.inl d) d d d
   ·exact fM 22 none d d d d (.inl d) d d d
   ·refine fJ [(49,_),(50,_)] 23 [some 21,some 22] fun G a w S=>?_
    exact sIdxV S (wN d) d d d aK d (lb d) fun a S=>leafL ⟨d,S⟩
   ·refine fJ [(51,_)] 24 [some 23] fun G a w S=>?_
    exact sLoadVN (vq:=aT) 17 [.int .u8 a0.Kind,.bool a0.Purl,iv a0.A,iv a0.B] S (wN d) d d d d d d (lb d) fun a S=>leafL ⟨d,S⟩
   ·refine fJ [(48,_),(52,_)] 25 [some 20,some 24] fun G a w S=>?_
    have S1:=S.mem
    refine sCallVQ (X:=Unit) (g:=84) (vs:=[.agg #[.int .u8 a0.Kind,.bool a0.Purl,iv a0.A,iv a0.B]]) (caps:=[]) (val:=fun _=>iv aj) S (wN d) d d callee84 d (S1.quiet [12] d) (fun E1 w1 S1=>c_compare_cellTable_1 E1 w1 a0 (.agg #[.int .u8 a0.Kind,.bool a0.Purl,iv a0.A,iv a0.B]) aj aC S1) d (lb d) fun _ a w S=>?_
    exact leafL ⟨d,S⟩
   ·refine fJ [(47,_),(53,_)] 2 [some 1,some 25] fun G a w S=>?_
    exact sBin _ S (wN d) d d d (bAdd _ _ _ _ ai aj) d (lb d) fun a S=>leafL ⟨d,S⟩
   ·exact fM 26 none d d d d (.inl d) d d d
   ·exact fM 27 none d d d d (.inl d) d d d
   ·refine fJ [(55,_),(56,_)] 28 [some 26,some 27] fun G a w S=>?_
    exact sIdxV S (wN d) d d d aL d (lb d) fun a S=>leafL ⟨d,S⟩
   ·refine fJ [(57,_)] 29 [some 28] fun G a w S=>?_
    exact sLoadHE (r:=(rL (rI .i64))) (T:=101) (xs:=a8) (u:=.slice a6 ac.length a7) (v:=.slice ae a8.length af) (vq:=bf) (j:=a9) 0 S aM (wN d) d d d d d (lb d) fun a S=>leafL ⟨d,S⟩
   ·exact fM 30 none d d d d (.inl d) d d d
   ·refine fJ [(59,_)] 31 [some 30] fun G a w S=>?_
    exact sBin _ S (wN d) d d d (bAdd _ _ _ _ ab 1) d (lb d) fun a S=>leafL ⟨d,S⟩
   ·refine fJ [(58,_),(60,_)] 32 [some 29,some 31] fun G a w S=>?_
    exact sIdxV S (wN d) d d d aO d (lb d) fun a S=>leafL ⟨d,S⟩
   ·refine fJ [(61,_)] 33 [some 32] fun G a w S=>?_
    exact sLoadR (r:=(rI .i64)) (T:=3) (xs:=ac) (x:=ag) (v:=.slice a6 ac.length a7) (vq:=bg) (j:=w64 (ab + 1)) 1 (iv ag) S aP (wN d) d d d az (fun _ _ _ h=>h) (scal_I _) d d (lb d) fun a S=>leafL ⟨d,S⟩
   ·exact fM 34 none d d d d (.inl d) d d d
   ·exact fM 35 none d d d d (.inl d) d d d
   ·exact fM 36 none d d d d (.inl d) d d d
   ·refine fJ [(64,_),(65,_)] 37 [some 35,some 36] fun G a w S=>?_
    exact sIdxV S (wN d) d d d aQ d (lb d) fun a S=>leafL ⟨d,S⟩
   ·refine fJ [(66,_)] 38 [some 37] fun G a w S=>?_
    exact sLoadVN (vq:=aU) 14 [.int .u8 a5.Kind,.bool a5.Purl,iv a5.A,iv a5.B] S (wN d) d d d d d d (lb d) fun a S=>leafL ⟨d,S⟩
   ·refine fJ [(63,_),(67,_)] 39 [some 34,some 38] fun G a w S=>?_
    have S1:=S.mem
    refine sCallVQ (X:=Unit) (g:=84) (vs:=[.agg #[.int .u8 a5.Kind,.bool a5.Purl,iv a5.A,iv a5.B]]) (caps:=[]) (val:=fun _=>iv ah) S (wN d) d d callee84 d (S1.quiet [9] d) (fun E1 w1 S1=>c_compare_cellTable_1 E1 w1 a5 (.agg #[.int .u8 a5.Kind,.bool a5.Purl,iv a5.A,iv a5.B]) ah aG S1) d (lb d) fun _ a w S=>?_
    exact leafL ⟨d,S⟩
   ·refine fJ [(62,_),(68,_)] 40 [some 33,some 39] fun G a w S=>?_
    exact sBin _ S (wN d) d d d (bAdd _ _ _ _ ag ah) d (lb d) fun a S=>leafL ⟨d,S⟩
   ·exact fM 45 none d d d d (.inl d) d d d
   ·refine fJ [(75,_)] 46 [some 45] fun G a w S=>?_
    exact sBin _ S (wN d) d d d (bAdd _ _ _ _ ab 1) d (lb d) fun a S=>leafL ⟨d,S⟩
   ·refine fJ [(74,_),(76,_)] 6 [some 9,some 46] fun G a w S=>?_
    exact sIdxV S (wN d) d d d bX d (lb d) fun a S=>leafL ⟨d,S⟩
   ·refine fJ [(77,_)] 7 [some 6] fun G a w S=>?_
    exact sLoadV1 (vq:=br) 4 (iv ak) S (wN d) d d d d d (lb d) fun a S=>leafL ⟨d,S⟩
   ·exact fM 47 none d d d d (.inl d) d d d
   ·exact fM 48 none d d d d (.inl d) d d d
   ·exact fM 49 none d d d d (.inl d) d d d
   ·refine fJ [(80,_),(81,_)] 50 [some 48,some 49] fun G a w S=>?_
    exact sIdxV S (wN d) d d d aR d (lb d) fun a S=>leafL ⟨d,S⟩
   ·refine fJ [(82,_)] 51 [some 50] fun G a w S=>?_
    exact sLoadVN (vq:=aV) 11 [.int .u8 a0.Kind,.bool a0.Purl,iv a0.A,iv a0.B] S (wN d) d d d d d d (lb d) fun a S=>leafL ⟨d,S⟩
   ·exact fM 52 none d d d d (.inl d) d d d
   ·exact fM 53 none d d d d (.inl d) d d d
   ·refine fJ [(84,_),(85,_)] 54 [some 52,some 53] fun G a w S=>?_
    exact sIdxV S (wN d) d d d aS d (lb d) fun a S=>leafL ⟨d,S⟩
   ·refine fJ [(86,_)] 55 [some 54] fun G a w S=>?_
    exact sLoadVN (vq:=aW) 8 [.int .u8 a5.Kind,.bool a5.Purl,iv a5.A,iv a5.B] S (wN d) d d d d d d (lb d) fun a S=>leafL ⟨d,S⟩
   ·refine fJ [(79,_),(83,_),(87,_)] 56 [some 47,some 51,some 55] fun G a w S=>?_
    have S1:=S.mem
    refine sCallVQ (X:=Unit) (g:=85) (vs:=[.agg #[.int .u8 a0.Kind,.bool a0.Purl,iv a0.A,iv a0.B],.agg #[.int .u8 a5.Kind,.bool a5.Purl,iv a5.A,iv a5.B]]) (caps:=[]) (val:=fun _=>iv al) S (wN d) d d callee85 d (S1.quiet [12,9] d) (fun E1 w1 S1=>c_compare_cellTable_2 E1 w1 a0 (.agg #[.int .u8 a0.Kind,.bool a0.Purl,iv a0.A,iv a0.B]) a5 (.agg #[.int .u8 a5.Kind,.bool a5.Purl,iv a5.A,iv a5.B]) al aH S1) d (lb d) fun _ a w S=>?_
    exact leafL ⟨d,S⟩
   ·refine fJ [(78,_),(88,_)] 8 [some 7,some 56] fun G a w S=>?_
    exact sBin _ S (wN d) d d d (bAdd _ _ _ _ ak al) d (lb d) fun a S=>leafL ⟨d,S⟩
   ·refine fJ [(54,_),(69,_),(89,_)] 3 [some 2,some 40,some 8] fun G a w S=>?_
    exact sMin3 (p:=w64 (ai + aj)) (q:=w64 (ag + ah)) (r:=w64 (ak + al)) S (wN d) d d d d d (lb d) fun a S=>leafL ⟨d,S⟩
   ·refine fJ [(38,_),(39,_)] 4 [some 13,some 14] fun G a w S=>?_
    exact sIdxV S (wN d) d d d cM d (lb d) fun a S=>leafL ⟨d,S⟩
   refine ⟨_,[(90,iv (min3 (w64 (ai + aj)) (w64 (ag + ah)) (w64 (ak + al)))),(91,cj)],d,(srcs_of [some 3,some 4] d d d),fun G a w S=>?_⟩
   refine sStoreR (r:=(rI .i64)) (T:=3) (xs:=ac) (ys:=bp) (y:=(min3 (w64 (ai + aj)) (w64 (ag + ah)) (w64 (ak + al)))) (v:=.slice a6 ac.length a7) (vq:=cj) (u:=iv (min3 (w64 (ai + aj)) (w64 (ag + ah)) (w64 (ak + al)))) (j:=ab) 1 S cN (wN d) d d d d d aX d d fun a w S=>leafL ⟨d,_,_,.inr ⟨[],d,S,hz_of d,?_⟩⟩
   refine node_by (A:=anc_compare_table_api_Stitch__s0_2) 58 (by kernel_rfl) (by kernel_rfl) (by kernel_rfl) (by kernel_rfl) (by kernel_rfl) [11,12,19,55,56,9,42,43,54,39,0,1,2,3,4,5,6,7,8,10,13,14,15,16,17,18,20,21,22,23,24,25,26,27,28,29,30,31,32,33,34,35,36,37,38,40,41,44,45,46,47,48,49,50,51,52,53] (by kernel_rfl) (by decide) (by decide) (fD 57 (fD 57 (fD 57 (fD 57 (fD 57 (fD 57 (fD 57 (fD 57 (fD 57 (fY (fD 57 (fD 57 (fD 57 (fD 57 (fD 57 (fD 57 (fD 57 (fD 57 (fD 57 (fD 57 (fD 57 (fD 57 (fD 57 (fD 57 (fD 57 (fD 57 (fD 57 (fD 57 (fD 57 (fD 57 (fD 57 (fD 57 (fD 57 (fD 57 (fD 57 (fD 57 (fD 57 (fD 57 (fD 57 (fY (fD 57 (fD 57 (fD 57 (fD 57 (fD 57 (fD 57 (fD 57 (fD 57 (fD 57 (fD 57 (fD 57 (fD 57 (fD 57 (fD 57 (fD 57 (fD 57 (fD 57 (fY (trivial))))))))))))))))))))))))))))))))))))))))))))))))))))))))))) [(0,.slice av p0.length aw),(1,.slice ar p1.length au),(2,.func (.func 84) #[] #[]),(3,.func (.func 85) #[] #[]),(9,.slice ae a8.length af),(10,iv a9),(11,iv ab)] (fin_of [none,none,none,none,none,none,none] d (by kernel_rfl) (by kernel_rfl)) (fun _ a w S=>?_)
   rw [setO_v aX a6 a7] at S
   exact leafB (leafB (leafT (⟨bp,Option.some.inj h,S.fix [1,0] [20,21] (by decide) d d d⟩)))
  ·exact fM 13 none d d d d (.inl d) d d d
  ·exact fM 14 none d d d d (.inl d) d d d
  ·exact fM 15 none d d d d (.inl d) d d d
  ·exact fM 16 none d d d d (.inl d) d d d
  ·refine fJ [(49,_),(50,_)] 17 [some 15,some 16] fun G a w S=>?_
   exact sIdxV S (wN d) d d d aK d (lb d) fun a S=>leafL ⟨d,S⟩
  ·refine fJ [(51,_)] 18 [some 17] fun G a w S=>?_
   exact sLoadVN (vq:=aT) 13 [.int .u8 a0.Kind,.bool a0.Purl,iv a0.A,iv a0.B] S (wN d) d d d d d d (lb d) fun a S=>leafL ⟨d,S⟩
  ·refine fJ [(48,_),(52,_)] 19 [some 14,some 18] fun G a w S=>?_
   have S1:=S.mem
   refine sCallVQ (X:=Unit) (g:=84) (vs:=[.agg #[.int .u8 a0.Kind,.bool a0.Purl,iv a0.A,iv a0.B]]) (caps:=[]) (val:=fun _=>iv aj) S (wN d) d d callee84 d (S1.quiet [8] d) (fun E1 w1 S1=>c_compare_cellTable_1 E1 w1 a0 (.agg #[.int .u8 a0.Kind,.bool a0.Purl,iv a0.A,iv a0.B]) aj aC S1) d (lb d) fun _ a w S=>?_
   exact leafL ⟨d,S⟩
  ·exact fM 20 none d d d d (.inl d) d d d
  ·exact fM 21 none d d d d (.inl d) d d d
  ·refine fJ [(55,_),(56,_)] 22 [some 20,some 21] fun G a w S=>?_
   exact sIdxV S (wN d) d d d aL d (lb d) fun a S=>leafL ⟨d,S⟩
  ·refine fJ [(57,_)] 23 [some 22] fun G a w S=>?_
   exact sLoadHE (r:=(rL (rI .i64))) (T:=101) (xs:=a8) (u:=.slice a6 ac.length a7) (v:=.slice ae a8.length af) (vq:=bf) (j:=a9) 0 S aM (wN d) d d d d d (lb d) fun a S=>leafL ⟨d,S⟩
  ·exact fM 24 none d d d d (.inl d) d d d
  ·refine fJ [(59,_)] 25 [some 24] fun G a w S=>?_
   exact sBin _ S (wN d) d d d (bAdd _ _ _ _ ab 1) d (lb d) fun a S=>leafL ⟨d,S⟩
  ·refine fJ [(58,_),(60,_)] 26 [some 23,some 25] fun G a w S=>?_
   exact sIdxV S (wN d) d d d aO d (lb d) fun a S=>leafL ⟨d,S⟩
  ·refine fJ [(61,_)] 27 [some 26] fun G a w S=>?_
   exact sLoadR (r:=(rI .i64)) (T:=3) (xs:=ac) (x:=ag) (v:=.slice a6 ac.length a7) (vq:=bg) (j:=w64 (ab + 1)) 1 (iv ag) S aP (wN d) d d d az (fun _ _ _ h=>h) (scal_I _) d d (lb d) fun a S=>leafL ⟨d,S⟩
  ·exact fM 28 none d d d d (.inl d) d d d
  ·exact fM 29 none d d d d (.inl d) d d d
  ·exact fM 30 none d d d d (.inl d) d d d
  ·refine fJ [(64,_),(65,_)] 31 [some 29,some 30] fun G a w S=>?_
   exact sIdxV S (wN d) d d d aQ d (lb d) fun a S=>leafL ⟨d,S⟩
  ·refine fJ [(66,_)] 32 [some 31] fun G a w S=>?_
   exact sLoadVN (vq:=aU) 10 [.int .u8 a5.Kind,.bool a5.Purl,iv a5.A,iv a5.B] S (wN d) d d d d d d (lb d) fun a S=>leafL ⟨d,S⟩
  ·refine fJ [(63,_),(67,_)] 33 [some 28,some 32] fun G a w S=>?_
   have S1:=S.mem
   refine sCallVQ (X:=Unit) (g:=84) (vs:=[.agg #[.int .u8 a5.Kind,.bool a5.Purl,iv a5.A,iv a5.B]]) (caps:=[]) (val:=fun _=>iv ah) S (wN d) d d callee84 d (S1.quiet [5] d) (fun E1 w1 S1=>c_compare_cellTable_1 E1 w1 a5 (.agg #[.int .u8 a5.Kind,.bool a5.Purl,iv a5.A,iv a5.B]) ah aG S1) d (lb d) fun _ a w S=>?_
   exact leafL ⟨d,S⟩
  ·refine fJ [(62,_),(68,_)] 34 [some 27,some 33] fun G a w S=>?_
   exact sBin _ S (wN d) d d d (bAdd _ _ _ _ ag ah) d (lb d) fun a S=>leafL ⟨d,S⟩
  ·exact fM 39 none d d d d (.inl d) d d d
  ·refine fJ [(75,_)] 40 [some 39] fun G a w S=>?_
   exact sBin _ S (wN d) d d d (bAdd _ _ _ _ ab 1) d (lb d) fun a S=>leafL ⟨d,S⟩
  ·refine fJ [(74,_),(76,_)] 0 [some 3,some 40] fun G a w S=>?_
   exact sIdxV S (wN d) d d d bX d (lb d) fun a S=>leafL ⟨d,S⟩
  ·refine fJ [(77,_)] 1 [some 0] fun G a w S=>?_
   exact sLoadV1 (vq:=br) 0 (iv ak) S (wN d) d d d d d (lb d) fun a S=>leafL ⟨d,S⟩
  ·exact fM 41 none d d d d (.inl d) d d d
  ·exact fM 42 none d d d d (.inl d) d d d
  ·exact fM 43 none d d d d (.inl d) d d d
  ·refine fJ [(80,_),(81,_)] 44 [some 42,some 43] fun G a w S=>?_
   exact sIdxV S (wN d) d d d aR d (lb d) fun a S=>leafL ⟨d,S⟩
  ·refine fJ [(82,_)] 45 [some 44] fun G a w S=>?_
   exact sLoadVN (vq:=aV) 7 [.int .u8 a0.Kind,.bool a0.Purl,iv a0.A,iv a0.B] S (wN d) d d d d d d (lb d) fun a S=>leafL ⟨d,S⟩
  ·exact fM 46 none d d d d (.inl d) d d d
  ·exact fM 47 none d d d d (.inl d) d d d
  ·refine fJ [(84,_),(85,_)] 48 [some 46,some 47] fun G a w S=>?_
   exact sIdxV S (wN d) d d d aS d (lb d) fun a S=>leafL ⟨d,S⟩
  ·refine fJ [(86,_)] 49 [some 48] fun G a w S=>?_
   exact sLoadVN (vq:=aW) 4 [.int .u8 a5.Kind,.bool a5.Purl,iv a5.A,iv a5.B] S (wN d) d d d d d d (lb d) fun a S=>leafL ⟨d,S⟩
  ·refine fJ [(79,_),(83,_),(87,_)] 50 [some 41,some 45,some 49] fun G a w S=>?_
   have S1:=S.mem
   refine sCallVQ (X:=Unit) (g:=85) (vs:=[.agg #[.int .u8 a0.Kind,.bool a0.Purl,iv a0.A,iv a0.B],.agg #[.int .u8 a5.Kind,.bool a5.Purl,iv a5.A,iv a5.B]]) (caps:=[]) (val:=fun _=>iv al) S (wN d) d d callee85 d (S1.quiet [8,5] d) (fun E1 w1 S1=>c_compare_cellTable_2 E1 w1 a0 (.agg #[.int .u8 a0.Kind,.bool a0.Purl,iv a0.A,iv a0.B]) a5 (.agg #[.int .u8 a5.Kind,.bool a5.Purl,iv a5.A,iv a5.B]) al aH S1) d (lb d) fun _ a w S=>?_
   exact leafL ⟨d,S⟩
  refine fJ [(78,_),(88,_)] 2 [some 1,some 50] fun G a w S=>?_
  exact sBin _ S (wN d) d d d (bAdd _ _ _ _ ak al) d (lb d) fun a S=>leafL ⟨d,S⟩
 ·exact fM 35 none d d d d (.inl d) d d d
 ·refine fJ [(75,_)] 36 [some 35] fun G a w S=>?_
  exact sBin _ S (wN d) d d d (bAdd _ _ _ _ ab 1) d (lb d) fun a S=>leafL ⟨d,S⟩
 ·exact fM 37 none d d d d (.inl d) d d d
 ·exact fM 38 none d d d d (.inl d) d d d
 ·exact fM 39 none d d d d (.inl d) d d d
 ·refine fJ [(80,_),(81,_)] 40 [some 38,some 39] fun G a w S=>?_
  exact sIdxV S (wN d) d d d aR d (lb d) fun a S=>leafL ⟨d,S⟩
 ·refine fJ [(82,_)] 41 [some 40] fun G a w S=>?_
  exact sLoadVN (vq:=aV) 3 [.int .u8 a0.Kind,.bool a0.Purl,iv a0.A,iv a0.B] S (wN d) d d d d d d (lb d) fun a S=>leafL ⟨d,S⟩
 ·exact fM 42 none d d d d (.inl d) d d d
 ·exact fM 43 none d d d d (.inl d) d d d
 ·refine fJ [(84,_),(85,_)] 44 [some 42,some 43] fun G a w S=>?_
  exact sIdxV S (wN d) d d d aS d (lb d) fun a S=>leafL ⟨d,S⟩
 ·refine fJ [(86,_)] 45 [some 44] fun G a w S=>?_
  exact sLoadVN (vq:=aW) 0 [.int .u8 a5.Kind,.bool a5.Purl,iv a5.A,iv a5.B] S (wN d) d d d d d d (lb d) fun a S=>leafL ⟨d,S⟩
 refine fJ [(79,_),(83,_),(87,_)] 46 [some 37,some 41,some 45] fun G a w S=>?_
 have S1:=S.mem
 refine sCallVQ (X:=Unit) (g:=85) (vs:=[.agg #[.int .u8 a0.Kind,.bool a0.Purl,iv a0.A,iv a0.B],.agg #[.int .u8 a5.Kind,.bool a5.Purl,iv a5.A,iv a5.B]]) (caps:=[]) (val:=fun _=>iv al) S (wN d) d d callee85 d (S1.quiet [4,1] d) (fun E1 w1 S1=>c_compare_cellTable_2 E1 w1 a0 (.agg #[.int .u8 a0.Kind,.bool a0.Purl,iv a0.A,iv a0.B]) a5 (.agg #[.int .u8 a5.Kind,.bool a5.Purl,iv a5.A,iv a5.B]) al aH S1) d (lb d) fun _ a w S=>?_
 exact leafL ⟨d,S⟩
noncomputable def F_compare_cellTable (p0:(List api_Stitch)) (p1:(List api_Stitch)):Option (List (List Int)):=
 (F_compare_table_api_Stitch__s0 p0 p1).bind fun r7=>
 some r7
def c_compare_cellTable_val (r:(List (List Int))) (x:Value):Value:=x
def c_compare_cellTable_D (r:(List (List Int))) (x:Value):List Fact:=[fRep (rL (rL (rI .i64))) x r]
theorem c_compare_cellTable (E:Nat→Prop) (w0:World) (p0:(List api_Stitch)) (v0:Value) (p1:(List api_Stitch)) (v1:Value) (r:(List (List Int))) (h:F_compare_cellTable p0 p1=some r) (S:St0 E [] w0 w0 [] [fRep (rL r_api_Stitch) (v0) p0,fRep (rL r_api_Stitch) (v1) p1]) :
 Calls Try.prog 54 #[v0,v1] w0 (Ret (X:=Value) E [] w0 (c_compare_cellTable_val r) (fun _=>[]) (c_compare_cellTable_D r)):=by
 unfold F_compare_cellTable at h
 obtain ⟨a6,a7,_,rfl,_⟩:=S.know (i:=0) (e:=fRep (rL r_api_Stitch) (v0) p0) d
 obtain ⟨a8,a9,_,rfl,_⟩:=S.know (i:=1) (e:=fRep (rL r_api_Stitch) (v1) p1) d
 refine sEnter (args:=[.slice a6 p0.length a7,.slice a8 p1.length a9]) 8 Try.func54 d d (by simp) S (fun a S=>?_)
 refine sSeq (fun K5 aa=>sRegion (sN S fun a S=>?_))
 refine lT (aa _ _ (sSeq (fun K6 ab=>sRegion (sM S fun a S=>?_))))
 refine sM S fun a S=>?_
 obtain ⟨r7,ac,h⟩:=bS h
 refine sCall (X:=Value) (f:=83) (vs:=[.slice a6 p0.length a7,.slice a8 p1.length a9,.func (.func 84) #[] #[],.func (.func 85) #[] #[]]) (val:=c_compare_table_api_Stitch__s0_val r7) (B':=fun _=>[]) (D':=c_compare_table_api_Stitch__s0_D r7) [] [] [fRep (rL r_api_Stitch) (.slice a6 p0.length a7) p0,fRep (rL r_api_Stitch) (.slice a8 p1.length a9) p1] [] [0,1] S (wN d) d callee83 d (by decide) d d (fun E1 w1 S1=>c_compare_table_api_Stitch__s0 E1 w1 p0 (.slice a6 p0.length a7) p1 (.slice a8 p1.length a9) r7 ac S1) d (lb d) fun u9 a w S=>?_
 obtain ⟨a0,a5,_,rfl,_⟩:=S.mem.know (i:=0) (e:=fRep (rL (rL (rI .i64))) (u9) r7) d
 refine sN S fun a S=>?_
 refine lT (ab _ _ ?_)
 obtain rfl:=tS h
 exact wp_ret (sRet (.slice a0 r7.length a5) S (rsl1 d (rvT (t:=4) (v:=.slice a0 r7.length a5) S d)) ⟨(.slice a0 r7.length a5),d,S.mem.sel [] [0] (by decide) d d⟩)
noncomputable def F_compare_Charts_2 (p0:api_Row) (p1:api_Row):Option Int:=
 (F_compare_cellTable p0.Cells p1.Cells).bind fun a5=>
 (idxO a5 0).bind fun a6=>
 (idxO a6 0).bind fun a0=>
 Option.bind (α:=Int) (
  if p0.Back != p1.Back then
   some (w64 (a0 + 1))
  else
   some a0) fun a7=>
 some a7
theorem c_compare_Charts_2 (E:Nat→Prop) (w0:World) (p0:api_Row) (v0:Value) (p1:api_Row) (v1:Value) (r:Int) (h:F_compare_Charts_2 p0 p1=some r) (S:St0 E [] w0 w0 [] [fRep r_api_Row (v0) p0,fRep r_api_Row (v1) p1]) :
 Calls Try.prog 53 #[v0,v1] w0 (Ret (X:=Unit) E [] w0 (fun _=>.int .i64 r) (fun _=>[]) (fun _=>[])):=by
 unfold F_compare_Charts_2 at h
 obtain ⟨u1,rfl,av⟩:=S.know (i:=0) (e:=fRep r_api_Row (v0) p0) d
 have S:=S.learn (fRep (rL r_api_Stitch) u1 p0.Cells) av
 obtain ⟨a0,a5,_,rfl,_⟩:=av
 obtain ⟨u5,rfl,aw⟩:=S.know (i:=2) (e:=fRep r_api_Row (v1) p1) d
 have S:=S.learn (fRep (rL r_api_Stitch) u5 p1.Cells) aw
 obtain ⟨a6,a7,_,rfl,_⟩:=aw
 refine sEnter (args:=[.agg #[.bool p0.Back,.slice a0 p0.Cells.length a5],.agg #[.bool p1.Back,.slice a6 p1.Cells.length a7]]) 23 Try.func53 d d (by simp) S (fun a S=>?_)
 refine sSeq (fun K9 aA=>sRegion (sBox (v:=.agg #[.bool p0.Back,.slice a0 p0.Cells.length a5]) S (wN d) d d [.bool p0.Back,.slice a0 p0.Cells.length a5] d d (lb d) fun a ag w S=>sBox (v:=.agg #[.bool p1.Back,.slice a6 p1.Cells.length a7]) S (wN d) d d [.bool p1.Back,.slice a6 p1.Cells.length a7] d d (lb d) fun a ah w S=>sN S fun a S=>?_))
 refine lT (aA _ _ (sSeq (fun aJ ai=>sRegion (sField (b:=ag) (off:=0) 1 1 S (wN d) d d d d d (lb d) fun a S=>sLoad1 1 (.slice a0 p0.Cells.length a5) S (wN d) d d d d d d (lb d) fun a S=>sField (b:=ah) (off:=0) 1 1 S (wN d) d d d d d (lb d) fun a S=>sLoad1 0 (.slice a6 p1.Cells.length a7) S (wN d) d d d d d d (lb d) fun a S=>?_))))
 obtain ⟨aa,aj,h⟩:=bS h
 refine sCall (X:=Value) (f:=54) (vs:=[.slice a0 p0.Cells.length a5,.slice a6 p1.Cells.length a7]) (val:=c_compare_cellTable_val aa) (B':=fun _=>[]) (D':=c_compare_cellTable_D aa) [] [eBox ah 87 [.bool p1.Back,.slice a6 p1.Cells.length a7],eBox ag 87 [.bool p0.Back,.slice a0 p0.Cells.length a5]] [fRep (rL r_api_Stitch) (.slice a0 p0.Cells.length a5) p0.Cells,fRep (rL r_api_Stitch) (.slice a6 p1.Cells.length a7) p1.Cells] [0,1] [1,0] S (wN d) d callee54 d (by decide) d d (fun E1 w1 S1=>c_compare_cellTable E1 w1 p0.Cells (.slice a0 p0.Cells.length a5) p1.Cells (.slice a6 p1.Cells.length a7) aa aj S1) d (lb d) fun aC a w S=>?_
 obtain ⟨ak,al,_,rfl,_⟩:=S.mem.know (i:=0) (e:=fRep (rL (rL (rI .i64))) (aC) aa) d
 obtain ⟨ab,am,h⟩:=bS h
 obtain ⟨ax,ao,S⟩:=pIdx (P:=Try.prog) (r:=(rL (rI .i64))) (v:=.slice ak aa.length al) (xs:=aa) (j:=0) 98 101 0 S Try.underlying98 d d am
 refine sIdxV S (wN d) d d d ao d (lb d) fun a S=>?_
 obtain ⟨aG,S⟩:=pLoad (r:=(rL (rI .i64))) (q:=ax) (x:=ab) 0 S d
 obtain ⟨ac,ae,_,rfl,_⟩:=S.mem.know (i:=1) (e:=fRep (rL (rI .i64)) (aG) ab) d
 refine sLoadV1 (vq:=ax) 0 (.slice ac ab.length ae) S (wN d) d d d d d (lb d) fun a S=>?_
 obtain ⟨a8,ap,h⟩:=bS h
 obtain ⟨ay,aq,S⟩:=pIdx (P:=Try.prog) (r:=(rI .i64)) (v:=.slice ac ab.length ae) (xs:=ab) (j:=0) 101 3 1 S Try.underlying101 d d ap
 refine sIdxV S (wN d) d d d aq d (lb d) fun a S=>?_
 obtain ⟨az,S⟩:=pLoad (r:=(rI .i64)) (q:=ay) (x:=a8) 0 S d
 obtain rfl:az=iv a8:=S.mem.know (i:=1) (e:=fRep (rI .i64) (az) a8) d
 refine sLoadV1 (vq:=ay) 0 (iv a8) S (wN d) d d d d d (lb d) fun a S=>sN S fun a S=>?_
 refine lT (ai _ _ ?_)
 obtain ⟨aH,h,aI⟩:=bS h
 refine sCut (fun a w=>∃ af,af=aH∧St [] E [] w0 23 a w [(5,iv af)] [] []) ?_ (fun a w hI=>?_)
 rotate_left
 ·obtain ⟨af,rfl,S⟩:=hI
  have h:=aI
  try dsimp only at h
  refine sSeq (fun aK ar=>sRegion (sM S fun a S=>?_))
  refine sN S fun a S=>?_
  refine lT (ar _ _ ?_)
  obtain rfl:=tS h
  exact wp_ret (sRet (iv af) S (rsl1 d (rvT (t:=4) (v:=iv af) S d)) ⟨(),d,S.mem.sel [] [] (by decide) d d⟩)
 refine sSeq (fun aL au=>sRegion (sField (b:=ag) (off:=0) 0 0 S (wN d) d d d d d (lb d) fun a S=>sLoad1 1 (.bool p0.Back) S (wN d) d d d d d d (lb d) fun a S=>sField (b:=ah) (off:=0) 0 0 S (wN d) d d d d d (lb d) fun a S=>sLoad1 0 (.bool p1.Back) S (wN d) d d d d d d (lb d) fun a S=>sBin _ S (wN d) d d d (bNeB _ _ _ _ Try.underlying4 p0.Back p1.Back) d (lb d) fun a S=>lT (au _ _ ?_)))
 rcases iS h with ⟨a9,h⟩ | ⟨a9,h⟩
 rotate_left
 ·refine sCondF S d a9 ?_
  exact wp_skip (leafT (⟨a8,Option.some.inj h,S.fix [] [] (by decide) d d d⟩))
 refine sCondT S d a9 (sRegion (sM S fun a S=>?_))
 refine sBin _ S (wN d) d d d (bAdd _ _ _ _ a8 1) d (lb d) fun a S=>sN S fun a S=>?_
 exact lT (⟨w64 (a8 + 1),Option.some.inj h,S.fix [] [] (by decide) d d d⟩)
def anc_compare_table_api_Row__s0_0:List (List Nat):=[[],[],[0,1],[0,1,2],[],[],[],[5,6],[5,6,7],[],[9],[5,6,7,8,9,10],[5,6,7,8,9,10,11],[],[],[],[14,15],[14,15,16],[13,14,15,16,17],[5,6,7,8,9,10,11,12,13,14,15,16,17,18],[0,1,2,3,4,5,6,7,8,9,10,11,12,13,14,15,16,17,18,19],[0,1,2,3,4,5,6,7,8,9,10,11,12,13,14,15,16,17,18,19,20]]
def anc_compare_table_api_Row__s0_1:List (List Nat):=[[],[],[0,1],[0,1,2],[],[],[],[6],[5,6,7],[5,6,7,8],[],[5,6,7,8,9,10],[5,6,7,8,9,10,11],[],[],[],[14,15],[14,15,16],[13,14,15,16,17],[5,6,7,8,9,10,11,12,13,14,15,16,17,18],[0,1,2,3,4,5,6,7,8,9,10,11,12,13,14,15,16,17,18,19],[0,1,2,3,4,5,6,7,8,9,10,11,12,13,14,15,16,17,18,19,20]]
def anc_compare_table_api_Row__s0_2:List (List Nat):=[[],[],[0,1],[0,1,2],[],[],[],[6],[5,6,7],[5,6,7,8],[],[5,6,7,8,9,10],[5,6,7,8,9,10,11],[],[],[],[14,15],[14,15,16],[13,14,15,16,17],[5,6,7,8,9,10,11,12,13,14,15,16,17,18],[],[],[20,21],[20,21,22],[],[24],[20,21,22,23,24,25],[20,21,22,23,24,25,26],[],[],[],[29,30],[29,30,31],[13,14,15,16,17,18,28,29,30,31,32],[13,14,15,16,17,18,20,21,22,23,24,25,26,27,28,29,30,31,32,33],[],[],[36],[35,36,37],[35,36,37,38],[],[40],[35,36,37,38,39,40,41],[35,36,37,38,39,40,41,42],[],[],[],[45,46],[45,46,47],[],[],[49,50],[49,50,51],[13,14,15,16,17,18,28,29,30,31,32,33,44,45,46,47,48,49,50,51,52],[13,14,15,16,17,18,28,29,30,31,32,33,35,36,37,38,39,40,41,42,43,44,45,46,47,48,49,50,51,52,53],[5,6,7,8,9,10,11,12,13,14,15,16,17,18,19,20,21,22,23,24,25,26,27,28,29,30,31,32,33,34,35,36,37,38,39,40,41,42,43,44,45,46,47,48,49,50,51,52,53,54],[0,1,2,3,4,5,6,7,8,9,10,11,12,13,14,15,16,17,18,19,20,21,22,23,24,25,26,27,28,29,30,31,32,33,34,35,36,37,38,39,40,41,42,43,44,45,46,47,48,49,50,51,52,53,54,55],[0,1,2,3,4,5,6,7,8,9,10,11,12,13,14,15,16,17,18,19,20,21,22,23,24,25,26,27,28,29,30,31,32,33,34,35,36,37,38,39,40,41,42,43,44,45,46,47,48,49,50,51,52,53,54,55,56]]
noncomputable def compare_table_api_Row__s0_l1 (a6:Int) (p0:(List api_Row)) (p1:(List api_Row)) (ao:List (List Int)):(Int × List Int)→Option ((Int × List Int) ⊕ List Int):=fun s0=>match s0 with
 | (a0,a5)=>
  if decide (0 ≤ a0) then
   Option.bind (α:=List Int) (
    Option.bind (α:=Bool) (
     if a6 == (p0.length:Int) then
      some (a0 == (p1.length:Int))
     else
      some false) fun ap=>
    if ap then
     some a5
    else
     if a6 == (p0.length:Int) then
      (idxO a5 (w64 (a0 + 1))).bind fun aq=>
      (idxO p1 a0).bind fun ar=>
      (F_compare_Charts_1 ar).bind fun au=>
      (idxO a5 a0).bind fun az=>
      (setO a5 a0 (w64 (aq + au))).bind fun av=>
      some av
     else
      if a0 == (p1.length:Int) then
       (idxO ao (w64 (a6 + 1))).bind fun aa=>
       (idxO aa a0).bind fun ab=>
       (idxO p0 a6).bind fun ac=>
       (F_compare_Charts_1 ac).bind fun ae=>
       (idxO a5 a0).bind fun aw=>
       (setO a5 a0 (w64 (ab + ae))).bind fun af=>
       some af
      else
       (idxO ao (w64 (a6 + 1))).bind fun a7=>
       (idxO a7 a0).bind fun ag=>
       (idxO p0 a6).bind fun a8=>
       (F_compare_Charts_1 a8).bind fun ah=>
       (idxO a5 (w64 (a0 + 1))).bind fun ai=>
       (idxO p1 a0).bind fun a9=>
       (F_compare_Charts_1 a9).bind fun aj=>
       (idxO a7 (w64 (a0 + 1))).bind fun ak=>
       (F_compare_Charts_2 a8 a9).bind fun al=>
       (idxO a5 a0).bind fun ax=>
       (setO a5 a0 (min3 (w64 (ag + ah)) (w64 (ai + aj)) (w64 (ak + al)))).bind fun am=>
       some am) fun ay=>
   some (.inl (w64 (a0 - 1),ay))
  else
   some (.inr a5)
noncomputable def compare_table_api_Row__s0_l2 (p1:(List api_Row)) (p0:(List api_Row)):(List (List Int) × Int)→Option ((List (List Int) × Int) ⊕ List (List Int)):=fun s0=>match s0 with
 | (a5,a0)=>
  if decide (0 ≤ a0) then
   Option.bind (α:=List Int) (
    (makeO (w64 ((p1.length:Int) + 1)) (0:Int)).bind fun a6=>
    (idxO a5 a0).bind fun a9=>
    (whileO (compare_table_api_Row__s0_l1 a0 p0 p1 a5) ((p1.length:Int),a6)).bind fun a7=>
     some a7) fun a8=>
   some (.inl ((a5.set (a0).toNat a8),w64 (a0 - 1)))
  else
   some (.inr a5)
noncomputable def F_compare_table_api_Row__s0 (p0:(List api_Row)) (p1:(List api_Row)):Option (List (List Int)):=
 (makeO (w64 ((p0.length:Int) + 1)) ([]:(List Int))).bind fun m9=>
 Option.bind (α:=List (List Int)) (
  (whileO (compare_table_api_Row__s0_l2 p1 p0) (m9,(p0.length:Int))).bind fun a0=>
   some a0) fun a5=>
 some a5
def c_compare_table_api_Row__s0_val (r:(List (List Int))) (x:Value):Value:=x
def c_compare_table_api_Row__s0_D (r:(List (List Int))) (x:Value):List Fact:=[fRep (rL (rL (rI .i64))) x r]
theorem c_compare_table_api_Row__s0 (E:Nat→Prop) (w0:World) (p0:(List api_Row)) (v0:Value) (p1:(List api_Row)) (v1:Value) (r:(List (List Int))) (h:F_compare_table_api_Row__s0 p0 p1=some r) (S:St0 E [] w0 w0 [] [fRep (rL r_api_Row) (v0) p0,fRep (rL r_api_Row) (v1) p1]) :
 Calls Try.prog 51 #[v0,v1,.func (.func 52) #[] #[],.func (.func 53) #[] #[]] w0 (Ret (X:=Value) E [] w0 (c_compare_table_api_Row__s0_val r) (fun _=>[]) (c_compare_table_api_Row__s0_D r)):=by
 unfold F_compare_table_api_Row__s0 at h
 obtain ⟨aI,aJ,_,rfl,_⟩:=S.know (i:=0) (e:=fRep (rL r_api_Row) (v0) p0) d
 obtain ⟨aG,aH,_,rfl,_⟩:=S.know (i:=1) (e:=fRep (rL r_api_Row) (v1) p1) d
 refine sEnter (args:=[.slice aI p0.length aJ,.slice aG p1.length aH,.func (.func 52) #[] #[],.func (.func 53) #[] #[]]) 156 Try.func51 d d (by simp) S (fun a S=>?_)
 refine sSeq (fun K5 ec=>sRegion (sN S fun a S=>?_))
 refine lT (ec _ _ (sSeq (fun K6 ed=>sRegion (sM S fun a S=>?_))))
 refine sLen S (wN d) d Try.underlying40 d d (lb d) fun a S=>sBin _ S (wN d) d d d (bAdd _ _ _ _ (p0.length:Int) 1) d (lb d) fun a S=>?_
 obtain ⟨m9,db,h⟩:=bS h
 refine sMake (r:=(rL (rI .i64))) (m:=w64 ((p0.length:Int) + 1)) (xs:=m9) (.slice none 0 0) ([]:(List Int)) 24 S (wN d) d Try.underlying98 d d (by decide) (fun E w=>rL_nil _ E w) d d db d (lb d) fun a w ac ae S=>sN S fun a S=>?_
 refine lT (ed _ _ ?_)
 obtain ⟨ee,h,ef⟩:=bS h
 refine sCut (fun a w=>∃ bC,bC=ee∧St [] E [] w0 156 a w [(9,.slice ac bC.length ae)] [eRow (rL (rI .i64)) 101 (.slice ac bC.length ae) bC] []) ?_ (fun a w hI=>?_)
 rotate_left
 ·obtain ⟨bC,rfl,S⟩:=hI
  have h:=ef
  try dsimp only at h
  refine sSeq (fun eh cF=>sRegion (sM S fun a S=>?_))
  refine sN S fun a S=>?_
  refine lT (cF _ _ ?_)
  obtain rfl:=tS h
  have S:=S.shutR (r:=(rL (rI .i64))) (T:=101) (v:=.slice ac bC.length ae) (xs:=bC) 0 d
  exact wp_ret (sRet (.slice ac bC.length ae) S (rsl1 d (rvT (t:=8) (v:=.slice ac bC.length ae) S d)) ⟨(.slice ac bC.length ae),d,S.mem.sel [] [0] (by decide) d d⟩)
 refine sSeq (fun ez dc=>sRegion (sM S fun a S=>?_))
 refine sLen S (wN d) d Try.underlying40 d d (lb d) fun a S=>sN S fun a S=>?_
 refine lT (dc _ _ (wp_block ?_))
 obtain ⟨eC,hl,ei⟩:=bS h
 refine sLoop hl (fun s0 a w=>match s0 with | (a8,a9)=>St [] E [] w0 156 a w [(0,.slice aI p0.length aJ),(1,.slice aG p1.length aH),(2,.func (.func 52) #[] #[]),(3,.func (.func 53) #[] #[]),(9,.slice ac a8.length ae),(10,iv a9)] [eRow (rL (rI .i64)) 101 (.slice ac a8.length ae) a8] [fRep (rL r_api_Row) (.slice aI p0.length aJ) p0,fRep (rL r_api_Row) (.slice aG p1.length aH) p1]) (S.fix [0] [0,1] (by decide) d d d) ?_
 clear hl h
 intro s0 a w c0 hI h de
 obtain ⟨a8,a9⟩:=s0
 unfold compare_table_api_Row__s0_l2 at h
 dsimp only at h hI
 have S:=hI
 refine sSeq (fun eD df=>sSeq (fun eE dg=>sRegion (sM S fun a S=>?_)))
 refine sBin _ S (wN d) d d d (bGe _ _ _ _ .i64 a9 0) d (lb d) fun a S=>lT (dg _ _ ?_)
 rcases iS h with ⟨cq,h⟩ | ⟨cq,h⟩
 rotate_left
 ·refine sCondF S d cq ?_
  obtain rfl:=tS h
  obtain rfl:=de _ d
  have h:=ei
  try dsimp only at h
  exact wp_exit (xThen (xThen (xHit (leafT (⟨a8,Option.some.inj h,S.fix [0] [] (by decide) d d d⟩)))))
 refine sCondT S d cq (wp_skip (leafT (df _ _ ?_)))
 obtain ⟨ej,h,ek⟩:=bS h
 refine sCut (fun a w=>∃ bm,bm=ej∧∃ bo,∃ bp,St [] E [] w0 156 a w [(0,.slice aI p0.length aJ),(1,.slice aG p1.length aH),(2,.func (.func 52) #[] #[]),(3,.func (.func 53) #[] #[]),(9,.slice ac a8.length ae),(10,iv a9)] [eHole (rL (rI .i64)) 101 (.slice ac a8.length ae) a8 ((a9).toNat * (rL (rI .i64)).sz + 0) (.slice bo bm.length bp),eRow (rI .i64) 3 (.slice bo bm.length bp) bm] [fRep (rL r_api_Row) (.slice aI p0.length aJ) p0,fRep (rL r_api_Row) (.slice aG p1.length aH) p1]) ?_ (fun a w hI=>?_)
 rotate_left
 ·obtain ⟨bm,rfl,bo,bp,S⟩:=hI
  have h:=ek
  try dsimp only at h
  refine sRegion (sM S fun a S=>?_)
  refine sBin _ S (wN d) d d d (bSub _ _ _ _ a9 1) d (lb d) fun a S=>sN S fun a S=>?_
  have S:=S.shutR (r:=(rI .i64)) (T:=3) (v:=.slice bo bm.length bp) (xs:=bm) 1 d
  have S:=S.closeHN (r:=(rL (rI .i64))) (T:=101) (xs:=a8) (y:=bm) (v:=.slice ac a8.length ae) (u:=.slice bo bm.length bp) (j:=a9) 0 d (S.mem.know (i:=0) (e:=fRep (rL (rI .i64)) (.slice bo bm.length bp) bm) d) d (scal_L _)
  rw [set_v a8 (a9).toNat bm ac ae] at S
  exact lT (⟨((a8.set (a9).toNat bm),w64 (a9 - 1)),(Option.some.inj h).symm,(S.fix [0] [1,2] (by decide) d d d)⟩)
 refine wp_block ?_
 refine sSeq (fun eF dh=>sRegion (sM S fun a S=>?_))
 refine sM S fun a S=>?_
 refine sM S fun a S=>?_
 refine sLen S (wN d) d Try.underlying40 d d (lb d) fun a S=>sBin _ S (wN d) d d d (bAdd _ _ _ _ (p1.length:Int) 1) d (lb d) fun a S=>?_
 obtain ⟨e5,di,h⟩:=bS h
 refine sMake (r:=(rI .i64)) (m:=w64 ((p1.length:Int) + 1)) (xs:=e5) (iv 0) (0:Int) 8 S (wN d) d Try.underlying101 d d (by decide) (fun _ _=>d) d d di d (lb d) fun a w a6 a7 S=>?_
 obtain ⟨el,az,h⟩:=bS h
 obtain ⟨em,dj,dk⟩:=pIdxR (P:=Try.prog) (r:=(rL (rI .i64))) (T:=101) (v:=.slice ac a8.length ae) (xs:=a8) (j:=a9) 98 101 1 S Try.underlying98 d d az
 refine sIdxV S (wN d) d d d dj d (lb d) fun a S=>sStoreHE (r:=(rL (rI .i64))) (T:=101) (xs:=a8) (x:=el) (v:=.slice ac a8.length ae) (vq:=em) (u:=.slice a6 e5.length a7) (j:=a9) 1 S dk (wN d) d d d d az d d d d fun a w S=>?_
 refine lT (dh _ _ (sSeq (fun eG dm=>sRegion (sM S fun a S=>?_))))
 refine sLen S (wN d) d Try.underlying40 d d (lb d) fun a S=>sN S fun a S=>?_
 refine lT (dm _ _ (wp_block ?_))
 obtain ⟨eH,hl,en⟩:=bS h
 refine sLoop hl (fun s0 a w=>match s0 with | (aa,ab)=>St [] E [] w0 156 a w [(0,.slice aI p0.length aJ),(1,.slice aG p1.length aH),(2,.func (.func 52) #[] #[]),(3,.func (.func 53) #[] #[]),(9,.slice ac a8.length ae),(10,iv a9),(11,iv aa)] [eHole (rL (rI .i64)) 101 (.slice ac a8.length ae) a8 ((a9).toNat * (rL (rI .i64)).sz + 0) (.slice a6 ab.length a7),eRow (rI .i64) 3 (.slice a6 ab.length a7) ab] [fRep (rL r_api_Row) (.slice aI p0.length aJ) p0,fRep (rL r_api_Row) (.slice aG p1.length aH) p1]) (S.fix [0,1] [0,1] (by decide) d d d) ?_
 clear hl h
 intro s0 a w c0 hI h dn
 obtain ⟨aa,ab⟩:=s0
 unfold compare_table_api_Row__s0_l1 at h
 dsimp only at h hI
 have S:=hI
 refine sSeq (fun eI dp=>sSeq (fun eJ dr=>sRegion (sM S fun a S=>?_)))
 refine sBin _ S (wN d) d d d (bGe _ _ _ _ .i64 aa 0) d (lb d) fun a S=>lT (dr _ _ ?_)
 rcases iS h with ⟨cr,h⟩ | ⟨cr,h⟩
 rotate_left
 ·refine sCondF S d cr ?_
  obtain rfl:=tS h
  obtain rfl:=dn _ d
  have h:=en
  try dsimp only at h
  exact wp_exit (xThen (xThen (xHit (leafB (leafT (⟨ab,Option.some.inj h,a6,a7,S.fix [0,1] [0,1] (by decide) d d d⟩))))))
 refine sCondT S d cr (wp_skip (leafT (dp _ _ ?_)))
 obtain ⟨eo,h,ep⟩:=bS h
 refine sCut (fun a w=>∃ cE,cE=eo∧St [] E [] w0 156 a w [(0,.slice aI p0.length aJ),(1,.slice aG p1.length aH),(2,.func (.func 52) #[] #[]),(3,.func (.func 53) #[] #[]),(9,.slice ac a8.length ae),(10,iv a9),(11,iv aa)] [eHole (rL (rI .i64)) 101 (.slice ac a8.length ae) a8 ((a9).toNat * (rL (rI .i64)).sz + 0) (.slice a6 cE.length a7),eRow (rI .i64) 3 (.slice a6 cE.length a7) cE] [fRep (rL r_api_Row) (.slice aI p0.length aJ) p0,fRep (rL r_api_Row) (.slice aG p1.length aH) p1]) ?_ (fun a w hI=>?_)
 rotate_left
 ·obtain ⟨cE,rfl,S⟩:=hI
  have h:=ep
  try dsimp only at h
  refine sRegion (sM S fun a S=>?_)
  refine sBin _ S (wN d) d d d (bSub _ _ _ _ aa 1) d (lb d) fun a S=>sN S fun a S=>?_
  exact lT (⟨(w64 (aa - 1),cE),(Option.some.inj h).symm,(S.fix [0,1] [0,1] (by decide) d d d)⟩)
 refine wp_block ?_
 refine wp_block ?_
 obtain ⟨er,h,es⟩:=bS h
 refine sCut (fun a w=>∃ dt,dt=er∧St [] E [] w0 156 a w [(0,.slice aI p0.length aJ),(1,.slice aG p1.length aH),(2,.func (.func 52) #[] #[]),(3,.func (.func 53) #[] #[]),(9,.slice ac a8.length ae),(10,iv a9),(11,iv aa),(92,.bool dt)] [eHole (rL (rI .i64)) 101 (.slice ac a8.length ae) a8 ((a9).toNat * (rL (rI .i64)).sz + 0) (.slice a6 ab.length a7),eRow (rI .i64) 3 (.slice a6 ab.length a7) ab] [fRep (rL r_api_Row) (.slice aI p0.length aJ) p0,fRep (rL r_api_Row) (.slice aG p1.length aH) p1]) ?_ (fun a w hI=>?_)
 ·refine sRegion (sM S fun a S=>?_)
  refine sM S fun a S=>?_
  refine sLen S (wN d) d Try.underlying40 d d (lb d) fun a S=>sBin _ S (wN d) d d d (bEq _ _ _ _ .i64 a9 (p0.length:Int)) d (lb d) fun a S=>sM S fun a S=>?_
  rcases iS h with ⟨aO,h⟩ | ⟨aO,h⟩
  rotate_left
  ·refine sSkN 4 4 true 97 S d d aO d fun a S=>sPickF (.bool false) S (wN d) d d aO d d (lb d) fun a S=>sN S fun a S=>?_
   exact lT (⟨false,Option.some.inj h,S.fix [0,1] [0,1] (by decide) d d d⟩)
  refine sMove (iv aa) S (wG 4 true 97 d d d aO) (.inl d) d d (lb d) fun a S=>sMove (.slice aG p1.length aH) S (wG 4 true 97 d d d aO) (.inl d) d d (lb d) fun a S=>sLen S (wG 4 true 97 d d d aO) d Try.underlying40 d d (lb d) fun a S=>sBin _ S (wG 4 true 97 d d d aO) d d d (bEq _ _ _ _ .i64 aa (p1.length:Int)) d (lb d) fun a S=>sPickT (.bool (aa == (p1.length:Int))) S (wN d) d d aO d d (lb d) fun a S=>sN S fun a S=>?_
  exact lT (⟨aa == (p1.length:Int),Option.some.inj h,S.fix [0,1] [0,1] (by decide) d d d⟩)
 obtain ⟨dt,rfl,S⟩:=hI
 have h:=es
 try dsimp only at h
 rcases iS h with ⟨ct,h⟩ | ⟨ct,h⟩
 ·refine sCondT S d ct ?_
  exact wp_skip (leafB (leafB (leafT (⟨ab,Option.some.inj h,S.fix [0,1] [0,1] (by decide) d d d⟩))))
 refine sCondF S d ct (sSeq (fun eK du=>sRegion (sM S fun a S=>?_)))
 refine sM S fun a S=>?_
 refine sLen S (wN d) d Try.underlying40 d d (lb d) fun a S=>sBin _ S (wN d) d d d (bEq _ _ _ _ .i64 a9 (p0.length:Int)) d (lb d) fun a S=>sN S fun a S=>?_
 refine lT (du _ _ ?_)
 rcases iS h with ⟨cu,h⟩ | ⟨cu,h⟩
 ·refine sCondT S d cu ?_
  obtain ⟨bI,cG,h⟩:=bS h
  obtain ⟨bv,dv,h⟩:=bS h
  obtain ⟨bJ,dw,h⟩:=bS h
  obtain ⟨eL,dz,h⟩:=bS h
  obtain ⟨e6,cH,h⟩:=bS h
  obtain ⟨e7,dA,dB⟩:=pIdxH (P:=Try.prog) (r:=(rL (rI .i64))) (T:=101) (v:=.slice ac a8.length ae) (xs:=a8) (j:=a9) 98 101 0 S Try.underlying98 d d az
  obtain ⟨e8,dC,dD⟩:=pIdxH (P:=Try.prog) (r:=(rL (rI .i64))) (T:=101) (v:=.slice ac a8.length ae) (xs:=a8) (j:=a9) 98 101 0 S Try.underlying98 d d az
  obtain ⟨e9,dE,dG⟩:=pIdxR (P:=Try.prog) (r:=(rI .i64)) (T:=3) (v:=.slice a6 ab.length a7) (xs:=ab) (j:=w64 (aa + 1)) 101 3 1 S Try.underlying101 d d cG
  obtain ⟨dH,dI,S⟩:=pIdx (P:=Try.prog) (r:=r_api_Row) (v:=.slice aG p1.length aH) (xs:=p1) (j:=aa) 40 87 1 S Try.underlying40 d d dv
  obtain ⟨et,S⟩:=pLoad (r:=r_api_Row) (q:=dH) (x:=bv) 0 S d
  obtain ⟨dJ,rfl,bK⟩:=S.mem.know (i:=1) (e:=fRep r_api_Row (et) bv) d
  have S:=S.learn (fRep (rL r_api_Stitch) dJ bv.Cells) bK
  obtain ⟨bj,bk,_,rfl,_⟩:=bK
  obtain ⟨cv,cI,cJ⟩:=pIdxR (P:=Try.prog) (r:=(rI .i64)) (T:=3) (v:=.slice a6 ab.length a7) (xs:=ab) (j:=aa) 101 3 1 S Try.underlying101 d d dz
  refine sDraw (nf:=[21]) (W:=[(0,108,.slice ac a8.length ae),(1,109,iv a9),(2,110,e7),(3,111,.slice a6 ab.length a7),(4,112,iv aa),(5,113,.slice ac a8.length ae),(6,114,iv a9),(7,115,e8),(8,116,.slice a6 ab.length a7),(9,117,iv aa),(10,118,iv (w64 (aa + 1))),(11,119,e9),(12,120,iv bI),(13,121,.func (.func 52) #[] #[]),(14,122,.slice aG p1.length aH),(15,123,iv aa),(16,124,dH),(17,125,.agg #[.bool bv.Back,.slice bj bv.Cells.length bk]),(18,126,iv bJ),(19,127,iv (w64 (bI + bJ))),(20,128,cv)]) d S ?_
  refine node_by (A:=anc_compare_table_api_Row__s0_0) 22 (by kernel_rfl) (by kernel_rfl) (by kernel_rfl) (by kernel_rfl) (by kernel_rfl) [0,1,2,3,4,5,6,7,8,9,10,11,12,13,14,15,16,17,18,19,20] (by kernel_rfl) (by decide) (by decide) (fF ?_ (fF ?_ (fF ?_ (fF ?_ (fF ?_ (fF ?_ (fF ?_ (fF ?_ (fF ?_ (fF ?_ (fF ?_ (fF ?_ (fF ?_ (fF ?_ (fF ?_ (fF ?_ (fF ?_ (fF ?_ (fF ?_ (fF ?_ (fF ?_ (fN ?_ (trivial))))))))))))))))))))))) [] (fun q hq=>by cases hq) (fun hY=>absurd (hY 21 (by decide)) (by decide))
  ·exact fM 0 none d d d d (.inl d) d d d
  ·exact fM 1 none d d d d (.inl d) d d d
  ·refine fJ [(108,_),(109,_)] 2 [some 0,some 1] fun G a w S=>?_
   exact sIdxV S (wN d) d d d dA d (lb d) fun a S=>leafL ⟨d,S⟩
  ·refine fJ [(110,_)] 3 [some 2] fun G a w S=>?_
   exact sLoadHE (r:=(rL (rI .i64))) (T:=101) (xs:=a8) (u:=.slice a6 ab.length a7) (v:=.slice ac a8.length ae) (vq:=e7) (j:=a9) 0 S dB (wN d) d d d d d (lb d) fun a S=>leafL ⟨d,S⟩
  ·exact fM 4 none d d d d (.inl d) d d d
  ·exact fM 5 none d d d d (.inl d) d d d
  ·exact fM 6 none d d d d (.inl d) d d d
  ·refine fJ [(113,_),(114,_)] 7 [some 5,some 6] fun G a w S=>?_
   exact sIdxV S (wN d) d d d dC d (lb d) fun a S=>leafL ⟨d,S⟩
  ·refine fJ [(115,_)] 8 [some 7] fun G a w S=>?_
   exact sLoadHE (r:=(rL (rI .i64))) (T:=101) (xs:=a8) (u:=.slice a6 ab.length a7) (v:=.slice ac a8.length ae) (vq:=e8) (j:=a9) 0 S dD (wN d) d d d d d (lb d) fun a S=>leafL ⟨d,S⟩
  ·exact fM 9 none d d d d (.inl d) d d d
  ·refine fJ [(117,_)] 10 [some 9] fun G a w S=>?_
   exact sBin _ S (wN d) d d d (bAdd _ _ _ _ aa 1) d (lb d) fun a S=>leafL ⟨d,S⟩
  ·refine fJ [(116,_),(118,_)] 11 [some 8,some 10] fun G a w S=>?_
   exact sIdxV S (wN d) d d d dE d (lb d) fun a S=>leafL ⟨d,S⟩
  ·refine fJ [(119,_)] 12 [some 11] fun G a w S=>?_
   exact sLoadR (r:=(rI .i64)) (T:=3) (xs:=ab) (x:=bI) (v:=.slice a6 ab.length a7) (vq:=e9) (j:=w64 (aa + 1)) 1 (iv bI) S dG (wN d) d d d cG (fun _ _ _ h=>h) (scal_I _) d d (lb d) fun a S=>leafL ⟨d,S⟩
  ·exact fM 13 none d d d d (.inl d) d d d
  ·exact fM 14 none d d d d (.inl d) d d d
  ·exact fM 15 none d d d d (.inl d) d d d
  ·refine fJ [(122,_),(123,_)] 16 [some 14,some 15] fun G a w S=>?_
   exact sIdxV S (wN d) d d d dI d (lb d) fun a S=>leafL ⟨d,S⟩
  ·refine fJ [(124,_)] 17 [some 16] fun G a w S=>?_
   exact sLoadVN (vq:=dH) 1 [.bool bv.Back,.slice bj bv.Cells.length bk] S (wN d) d d d d d d (lb d) fun a S=>leafL ⟨d,S⟩
  ·refine fJ [(121,_),(125,_)] 18 [some 13,some 17] fun G a w S=>?_
   have S1:=S.mem
   refine sCallVQ (X:=Unit) (g:=52) (vs:=[.agg #[.bool bv.Back,.slice bj bv.Cells.length bk]]) (caps:=[]) (val:=fun _=>iv bJ) S (wN d) d d callee52 d (S1.quiet [2] d) (fun E1 w1 S1=>c_compare_Charts_1 E1 w1 bv (.agg #[.bool bv.Back,.slice bj bv.Cells.length bk]) bJ dw S1) d (lb d) fun _ a w S=>?_
   exact leafL ⟨d,S⟩
  ·refine fJ [(120,_),(126,_)] 19 [some 12,some 18] fun G a w S=>?_
   exact sBin _ S (wN d) d d d (bAdd _ _ _ _ bI bJ) d (lb d) fun a S=>leafL ⟨d,S⟩
  ·refine fJ [(111,_),(112,_)] 20 [some 3,some 4] fun G a w S=>?_
   exact sIdxV S (wN d) d d d cI d (lb d) fun a S=>leafL ⟨d,S⟩
  refine ⟨_,[(127,iv (w64 (bI + bJ))),(128,cv)],d,(srcs_of [some 19,some 20] d d d),fun G a w S=>?_⟩
  refine sStoreR (r:=(rI .i64)) (T:=3) (xs:=ab) (ys:=e6) (y:=(w64 (bI + bJ))) (v:=.slice a6 ab.length a7) (vq:=cv) (u:=iv (w64 (bI + bJ))) (j:=aa) 1 S cJ (wN d) d d d d d cH d d fun a w S=>leafL ⟨d,_,_,.inr ⟨[],d,S,hz_of d,?_⟩⟩
  refine node_by (A:=anc_compare_table_api_Row__s0_0) 22 (by kernel_rfl) (by kernel_rfl) (by kernel_rfl) (by kernel_rfl) (by kernel_rfl) [0,1,2,3,4,5,6,7,8,9,10,11,12,13,14,15,16,17,18,19,20] (by kernel_rfl) (by decide) (by decide) (fD 21 (fD 21 (fD 21 (fD 21 (fD 21 (fD 21 (fD 21 (fD 21 (fD 21 (fD 21 (fD 21 (fD 21 (fD 21 (fD 21 (fD 21 (fD 21 (fD 21 (fD 21 (fD 21 (fD 21 (fD 21 (fY (trivial))))))))))))))))))))))) [(0,.slice aI p0.length aJ),(1,.slice aG p1.length aH),(2,.func (.func 52) #[] #[]),(3,.func (.func 53) #[] #[]),(9,.slice ac a8.length ae),(10,iv a9),(11,iv aa)] (fin_of [none,none,none,none,none,none,none] d (by kernel_rfl) (by kernel_rfl)) (fun _ a w S=>?_)
  rw [setO_v cH a6 a7] at S
  exact leafB (leafB (leafT (⟨e6,Option.some.inj h,S.fix [1,0] [4,5] (by decide) d d d⟩)))
 refine sCondF S d cu (sSeq (fun ew cK=>sRegion (sM S fun a S=>?_)))
 refine sM S fun a S=>?_
 refine sLen S (wN d) d Try.underlying40 d d (lb d) fun a S=>sBin _ S (wN d) d d d (bEq _ _ _ _ .i64 aa (p1.length:Int)) d (lb d) fun a S=>sN S fun a S=>?_
 refine lT (cK _ _ ?_)
 rcases iS h with ⟨bw,h⟩ | ⟨bw,h⟩
 ·refine sCondT S d bw ?_
  obtain ⟨bx,bz,h⟩:=bS h
  obtain ⟨aK,cL,h⟩:=bS h
  obtain ⟨ax,cM,h⟩:=bS h
  obtain ⟨aL,bL,h⟩:=bS h
  obtain ⟨ex,cN,h⟩:=bS h
  obtain ⟨cO,bM,h⟩:=bS h
  obtain ⟨cw,bN,bO⟩:=pIdxH (P:=Try.prog) (r:=(rL (rI .i64))) (T:=101) (v:=.slice ac a8.length ae) (xs:=a8) (j:=a9) 98 101 0 S Try.underlying98 d d az
  obtain ⟨cx,cP,cQ⟩:=pIdxH (P:=Try.prog) (r:=(rL (rI .i64))) (T:=101) (v:=.slice ac a8.length ae) (xs:=a8) (j:=w64 (a9 + 1)) 98 101 0 S Try.underlying98 d d bz
  obtain ⟨bD,bP,S⟩:=pIdx (P:=Try.prog) (r:=r_api_Row) (v:=.slice aI p0.length aJ) (xs:=p0) (j:=a9) 40 87 0 S Try.underlying40 d d cM
  obtain ⟨dK,S⟩:=pLoad (r:=r_api_Row) (q:=bD) (x:=ax) 0 S d
  obtain ⟨dL,rfl,bQ⟩:=S.mem.know (i:=1) (e:=fRep r_api_Row (dK) ax) d
  have S:=S.learn (fRep (rL r_api_Stitch) dL ax.Cells) bQ
  obtain ⟨aA,aC,_,rfl,_⟩:=bQ
  refine sDraw (nf:=[9,21]) (W:=[(0,134,.slice ac a8.length ae),(1,135,iv a9),(2,136,cw),(3,137,.slice a6 ab.length a7),(4,138,iv aa),(5,139,.slice ac a8.length ae),(6,140,iv a9),(7,141,iv (w64 (a9 + 1))),(8,142,cx),(10,144,iv aa),(13,147,.func (.func 52) #[] #[]),(14,148,.slice aI p0.length aJ),(15,149,iv a9),(16,150,bD),(17,151,.agg #[.bool ax.Back,.slice aA ax.Cells.length aC]),(18,152,iv aL)]) d S ?_
  refine node_by (A:=anc_compare_table_api_Row__s0_1) 22 (by kernel_rfl) (by kernel_rfl) (by kernel_rfl) (by kernel_rfl) (by kernel_rfl) [0,1,2,3,4,5,6,7,8,10,13,14,15,16,17,18] (by kernel_rfl) (by decide) (by decide) (fF ?_ (fF ?_ (fF ?_ (fF ?_ (fF ?_ (fF ?_ (fF ?_ (fF ?_ (fF ?_ (fN ?_ (fF ?_ (fE 9 (fE 9 (fF ?_ (fF ?_ (fF ?_ (fF ?_ (fF ?_ (fF ?_ (fE 9 (fE 9 (aB 21 0 9 (by decide) (trivial))))))))))))))))))))))) [] (fun q hq=>by cases hq) (fun hY=>absurd (hY 9 (by decide)) (by decide))
  ·exact fM 0 none d d d d (.inl d) d d d
  ·exact fM 1 none d d d d (.inl d) d d d
  ·refine fJ [(134,_),(135,_)] 2 [some 0,some 1] fun G a w S=>?_
   exact sIdxV S (wN d) d d d bN d (lb d) fun a S=>leafL ⟨d,S⟩
  ·refine fJ [(136,_)] 3 [some 2] fun G a w S=>?_
   exact sLoadHE (r:=(rL (rI .i64))) (T:=101) (xs:=a8) (u:=.slice a6 ab.length a7) (v:=.slice ac a8.length ae) (vq:=cw) (j:=a9) 0 S bO (wN d) d d d d d (lb d) fun a S=>leafL ⟨d,S⟩
  ·exact fM 4 none d d d d (.inl d) d d d
  ·exact fM 5 none d d d d (.inl d) d d d
  ·exact fM 6 none d d d d (.inl d) d d d
  ·refine fJ [(140,_)] 7 [some 6] fun G a w S=>?_
   exact sBin _ S (wN d) d d d (bAdd _ _ _ _ a9 1) d (lb d) fun a S=>leafL ⟨d,S⟩
  ·refine fJ [(139,_),(141,_)] 8 [some 5,some 7] fun G a w S=>?_
   exact sIdxV S (wN d) d d d cP d (lb d) fun a S=>leafL ⟨d,S⟩
  ·refine ⟨_,[(142,cx)],d,(srcs_of [some 8] d d d),fun G a w S=>?_⟩
   refine sLoadHo (r:=(rL (rI .i64))) (T:=101) (xs:=a8) (x:=bx) (p:=(a9).toNat * (rL (rI .i64)).sz + 0) (u:=.slice a6 ab.length a7) (v:=.slice ac a8.length ae) (vq:=cx) (j:=w64 (a9 + 1)) 0 S cQ (wN d) d d d bz (idx_next (by decide) (hole_lim 0 S.mem d) az bz) (scal_L _) d d (lb d) fun a dM S=>?_
   obtain ⟨bR,bU,_,rfl,_⟩:=S.mem.know (i:=0) (e:=fRep (rL (rI .i64)) (dM) bx) d
   obtain ⟨cy,cR,S⟩:=pIdx (P:=Try.prog) (r:=(rI .i64)) (v:=.slice bR bx.length bU) (xs:=bx) (j:=aa) 101 3 0 S Try.underlying101 d d cL
   obtain ⟨cS,S⟩:=pLoad (r:=(rI .i64)) (q:=cy) (x:=aK) 0 S d
   obtain rfl:cS=iv aK:=S.mem.know (i:=1) (e:=fRep (rI .i64) (cS) aK) d
   obtain ⟨cz,cT,cU⟩:=pIdxR (P:=Try.prog) (r:=(rI .i64)) (T:=3) (v:=.slice a6 ab.length a7) (xs:=ab) (j:=aa) 101 3 1 S Try.underlying101 d d cN
   refine leafL ⟨d,_,_,.inl ⟨143,(.slice bR bx.length bU),[(11,145,cy),(12,146,iv aK),(19,153,iv (w64 (aK + aL))),(20,154,cz)],d,S,hz_of d,?_⟩⟩
   refine node_by (A:=anc_compare_table_api_Row__s0_1) 22 (by kernel_rfl) (by kernel_rfl) (by kernel_rfl) (by kernel_rfl) (by kernel_rfl) [11,12,19,20,9,0,1,2,3,4,5,6,7,8,10,13,14,15,16,17,18] (by kernel_rfl) (by decide) (by decide) (fF ?_ (fF ?_ (fF ?_ (fF ?_ (fF ?_ (fD 9 (fD 9 (fD 9 (fD 9 (fY (fF ?_ (fF ?_ (fF ?_ (fF ?_ (fF ?_ (fF ?_ (fF ?_ (fF ?_ (fF ?_ (fF ?_ (fF ?_ (fN ?_ (trivial))))))))))))))))))))))) [] (fun q hq=>by cases hq) (fun hY=>absurd (hY 21 (by decide)) (by decide))
   ·exact fM 5 none d d d d (.inl d) d d d
   ·exact fM 6 none d d d d (.inl d) d d d
   ·refine fJ [(134,_),(135,_)] 7 [some 5,some 6] fun G a w S=>?_
    exact sIdxV S (wN d) d d d bN d (lb d) fun a S=>leafL ⟨d,S⟩
   ·refine fJ [(136,_)] 8 [some 7] fun G a w S=>?_
    exact sLoadHE (r:=(rL (rI .i64))) (T:=101) (xs:=a8) (u:=.slice a6 ab.length a7) (v:=.slice ac a8.length ae) (vq:=cw) (j:=a9) 0 S bO (wN d) d d d d d (lb d) fun a S=>leafL ⟨d,S⟩
   ·exact fM 9 none d d d d (.inl d) d d d
   ·exact fM 14 none d d d d (.inl d) d d d
   ·refine fJ [(143,_),(144,_)] 0 [some 4,some 14] fun G a w S=>?_
    exact sIdxV S (wN d) d d d cR d (lb d) fun a S=>leafL ⟨d,S⟩
   ·refine fJ [(145,_)] 1 [some 0] fun G a w S=>?_
    exact sLoadV1 (vq:=cy) 0 (iv aK) S (wN d) d d d d d (lb d) fun a S=>leafL ⟨d,S⟩
   ·exact fM 15 none d d d d (.inl d) d d d
   ·exact fM 16 none d d d d (.inl d) d d d
   ·exact fM 17 none d d d d (.inl d) d d d
   ·refine fJ [(148,_),(149,_)] 18 [some 16,some 17] fun G a w S=>?_
    exact sIdxV S (wN d) d d d bP d (lb d) fun a S=>leafL ⟨d,S⟩
   ·refine fJ [(150,_)] 19 [some 18] fun G a w S=>?_
    exact sLoadVN (vq:=bD) 5 [.bool ax.Back,.slice aA ax.Cells.length aC] S (wN d) d d d d d d (lb d) fun a S=>leafL ⟨d,S⟩
   ·refine fJ [(147,_),(151,_)] 20 [some 15,some 19] fun G a w S=>?_
    have S1:=S.mem
    refine sCallVQ (X:=Unit) (g:=52) (vs:=[.agg #[.bool ax.Back,.slice aA ax.Cells.length aC]]) (caps:=[]) (val:=fun _=>iv aL) S (wN d) d d callee52 d (S1.quiet [6] d) (fun E1 w1 S1=>c_compare_Charts_1 E1 w1 ax (.agg #[.bool ax.Back,.slice aA ax.Cells.length aC]) aL bL S1) d (lb d) fun _ a w S=>?_
    exact leafL ⟨d,S⟩
   ·refine fJ [(146,_),(152,_)] 2 [some 1,some 20] fun G a w S=>?_
    exact sBin _ S (wN d) d d d (bAdd _ _ _ _ aK aL) d (lb d) fun a S=>leafL ⟨d,S⟩
   ·refine fJ [(137,_),(138,_)] 3 [some 8,some 9] fun G a w S=>?_
    exact sIdxV S (wN d) d d d cT d (lb d) fun a S=>leafL ⟨d,S⟩
   refine ⟨_,[(153,iv (w64 (aK + aL))),(154,cz)],d,(srcs_of [some 2,some 3] d d d),fun G a w S=>?_⟩
   refine sStoreR (r:=(rI .i64)) (T:=3) (xs:=ab) (ys:=cO) (y:=(w64 (aK + aL))) (v:=.slice a6 ab.length a7) (vq:=cz) (u:=iv (w64 (aK + aL))) (j:=aa) 1 S cU (wN d) d d d d d bM d d fun a w S=>leafL ⟨d,_,_,.inr ⟨[],d,S,hz_of d,?_⟩⟩
   refine node_by (A:=anc_compare_table_api_Row__s0_1) 22 (by kernel_rfl) (by kernel_rfl) (by kernel_rfl) (by kernel_rfl) (by kernel_rfl) [11,12,19,20,9,0,1,2,3,4,5,6,7,8,10,13,14,15,16,17,18] (by kernel_rfl) (by decide) (by decide) (fD 21 (fD 21 (fD 21 (fD 21 (fD 21 (fD 21 (fD 21 (fD 21 (fD 21 (fY (fD 21 (fD 21 (fD 21 (fD 21 (fD 21 (fD 21 (fD 21 (fD 21 (fD 21 (fD 21 (fD 21 (fY (trivial))))))))))))))))))))))) [(0,.slice aI p0.length aJ),(1,.slice aG p1.length aH),(2,.func (.func 52) #[] #[]),(3,.func (.func 53) #[] #[]),(9,.slice ac a8.length ae),(10,iv a9),(11,iv aa)] (fin_of [none,none,none,none,none,none,none] d (by kernel_rfl) (by kernel_rfl)) (fun _ a w S=>?_)
   rw [setO_v bM a6 a7] at S
   exact leafB (leafB (leafT (⟨cO,Option.some.inj h,S.fix [1,0] [8,9] (by decide) d d d⟩)))
  ·exact fM 9 none d d d d (.inl d) d d d
  ·exact fM 10 none d d d d (.inl d) d d d
  ·exact fM 11 none d d d d (.inl d) d d d
  ·exact fM 12 none d d d d (.inl d) d d d
  ·refine fJ [(148,_),(149,_)] 13 [some 11,some 12] fun G a w S=>?_
   exact sIdxV S (wN d) d d d bP d (lb d) fun a S=>leafL ⟨d,S⟩
  ·refine fJ [(150,_)] 14 [some 13] fun G a w S=>?_
   exact sLoadVN (vq:=bD) 1 [.bool ax.Back,.slice aA ax.Cells.length aC] S (wN d) d d d d d d (lb d) fun a S=>leafL ⟨d,S⟩
  refine fJ [(147,_),(151,_)] 15 [some 10,some 14] fun G a w S=>?_
  have S1:=S.mem
  refine sCallVQ (X:=Unit) (g:=52) (vs:=[.agg #[.bool ax.Back,.slice aA ax.Cells.length aC]]) (caps:=[]) (val:=fun _=>iv aL) S (wN d) d d callee52 d (S1.quiet [2] d) (fun E1 w1 S1=>c_compare_Charts_1 E1 w1 ax (.agg #[.bool ax.Back,.slice aA ax.Cells.length aC]) aL bL S1) d (lb d) fun _ a w S=>?_
  exact leafL ⟨d,S⟩
 refine sCondF S d bw ?_
 obtain ⟨aw,ay,h⟩:=bS h
 obtain ⟨ah,bV,h⟩:=bS h
 obtain ⟨a0,bW,h⟩:=bS h
 obtain ⟨ai,aP,h⟩:=bS h
 obtain ⟨af,aM,h⟩:=bS h
 obtain ⟨a5,bX,h⟩:=bS h
 obtain ⟨ag,aQ,h⟩:=bS h
 obtain ⟨aj,bY,h⟩:=bS h
 obtain ⟨ak,aR,h⟩:=bS h
 obtain ⟨ey,bZ,h⟩:=bS h
 obtain ⟨bE,bl,h⟩:=bS h
 obtain ⟨bq,aS,aT⟩:=pIdxH (P:=Try.prog) (r:=(rL (rI .i64))) (T:=101) (v:=.slice ac a8.length ae) (xs:=a8) (j:=a9) 98 101 0 S Try.underlying98 d d az
 obtain ⟨bA,c7,c8⟩:=pIdxH (P:=Try.prog) (r:=(rL (rI .i64))) (T:=101) (v:=.slice ac a8.length ae) (xs:=a8) (j:=w64 (a9 + 1)) 98 101 0 S Try.underlying98 d d ay
 obtain ⟨bf,aU,S⟩:=pIdx (P:=Try.prog) (r:=r_api_Row) (v:=.slice aI p0.length aJ) (xs:=p0) (j:=a9) 40 87 0 S Try.underlying40 d d bW
 obtain ⟨dN,S⟩:=pLoad (r:=r_api_Row) (q:=bf) (x:=a0) 0 S d
 obtain ⟨dO,rfl,c9⟩:=S.mem.know (i:=1) (e:=fRep r_api_Row (dN) a0) d
 have S:=S.learn (fRep (rL r_api_Stitch) dO a0.Cells) c9
 obtain ⟨al,am,_,rfl,_⟩:=c9
 obtain ⟨br,aV,aW⟩:=pIdxH (P:=Try.prog) (r:=(rL (rI .i64))) (T:=101) (v:=.slice ac a8.length ae) (xs:=a8) (j:=a9) 98 101 0 S Try.underlying98 d d az
 obtain ⟨bu,aX,aZ⟩:=pIdxR (P:=Try.prog) (r:=(rI .i64)) (T:=3) (v:=.slice a6 ab.length a7) (xs:=ab) (j:=w64 (aa + 1)) 101 3 1 S Try.underlying101 d d aM
 obtain ⟨bg,ba,S⟩:=pIdx (P:=Try.prog) (r:=r_api_Row) (v:=.slice aG p1.length aH) (xs:=p1) (j:=aa) 40 87 5 S Try.underlying40 d d bX
 obtain ⟨dP,S⟩:=pLoad (r:=r_api_Row) (q:=bg) (x:=a5) 0 S d
 obtain ⟨dQ,rfl,ca⟩:=S.mem.know (i:=1) (e:=fRep r_api_Row (dP) a5) d
 have S:=S.learn (fRep (rL r_api_Stitch) dQ a5.Cells) ca
 obtain ⟨ao,ap,_,rfl,_⟩:=ca
 obtain ⟨bB,cb,cc⟩:=pIdxH (P:=Try.prog) (r:=(rL (rI .i64))) (T:=101) (v:=.slice ac a8.length ae) (xs:=a8) (j:=w64 (a9 + 1)) 98 101 0 S Try.underlying98 d d ay
 obtain ⟨bh,bb,S⟩:=pIdx (P:=Try.prog) (r:=r_api_Row) (v:=.slice aI p0.length aJ) (xs:=p0) (j:=a9) 40 87 8 S Try.underlying40 d d bW
 obtain ⟨dR,S⟩:=pLoad (r:=r_api_Row) (q:=bh) (x:=a0) 0 S d
 obtain ⟨dS,rfl,cd⟩:=S.mem.know (i:=1) (e:=fRep r_api_Row (dR) a0) d
 have S:=S.learn (fRep (rL r_api_Stitch) dS a0.Cells) cd
 obtain ⟨aq,ar,_,rfl,_⟩:=cd
 obtain ⟨bi,bc,S⟩:=pIdx (P:=Try.prog) (r:=r_api_Row) (v:=.slice aG p1.length aH) (xs:=p1) (j:=aa) 40 87 13 S Try.underlying40 d d bX
 obtain ⟨dU,S⟩:=pLoad (r:=r_api_Row) (q:=bi) (x:=a5) 0 S d
 obtain ⟨dV,rfl,ce⟩:=S.mem.know (i:=1) (e:=fRep r_api_Row (dU) a5) d
 have S:=S.learn (fRep (rL r_api_Stitch) dV a5.Cells) ce
 obtain ⟨au,av,_,rfl,_⟩:=ce
 refine sDraw (nf:=[9,39,57]) (W:=[(0,35,.slice ac a8.length ae),(1,36,iv a9),(2,37,bq),(3,38,.slice a6 ab.length a7),(4,39,iv aa),(5,40,.slice ac a8.length ae),(6,41,iv a9),(7,42,iv (w64 (a9 + 1))),(8,43,bA),(10,45,iv aa),(13,48,.func (.func 52) #[] #[]),(14,49,.slice aI p0.length aJ),(15,50,iv a9),(16,51,bf),(17,52,.agg #[.bool a0.Back,.slice al a0.Cells.length am]),(18,53,iv ai),(20,55,.slice ac a8.length ae),(21,56,iv a9),(22,57,br),(23,58,.slice a6 ab.length a7),(24,59,iv aa),(25,60,iv (w64 (aa + 1))),(26,61,bu),(27,62,iv af),(28,63,.func (.func 52) #[] #[]),(29,64,.slice aG p1.length aH),(30,65,iv aa),(31,66,bg),(32,67,.agg #[.bool a5.Back,.slice ao a5.Cells.length ap]),(33,68,iv ag),(34,69,iv (w64 (af + ag))),(35,70,.slice ac a8.length ae),(36,71,iv a9),(37,72,iv (w64 (a9 + 1))),(38,73,bB),(40,75,iv aa),(41,76,iv (w64 (aa + 1))),(44,79,.func (.func 53) #[] #[]),(45,80,.slice aI p0.length aJ),(46,81,iv a9),(47,82,bh),(48,83,.agg #[.bool a0.Back,.slice aq a0.Cells.length ar]),(49,84,.slice aG p1.length aH),(50,85,iv aa),(51,86,bi),(52,87,.agg #[.bool a5.Back,.slice au a5.Cells.length av]),(53,88,iv ak)]) d S ?_
 refine node_by (A:=anc_compare_table_api_Row__s0_2) 58 (by kernel_rfl) (by kernel_rfl) (by kernel_rfl) (by kernel_rfl) (by kernel_rfl) [0,1,2,3,4,5,6,7,8,10,13,14,15,16,17,18,20,21,22,23,24,25,26,27,28,29,30,31,32,33,34,35,36,37,38,40,41,44,45,46,47,48,49,50,51,52,53] (by kernel_rfl) (by decide) (by decide) (fF ?_ (fF ?_ (fF ?_ (fF ?_ (fF ?_ (fF ?_ (fF ?_ (fF ?_ (fF ?_ (fN ?_ (fF ?_ (fE 9 (fE 9 (fF ?_ (fF ?_ (fF ?_ (fF ?_ (fF ?_ (fF ?_ (fE 9 (fF ?_ (fF ?_ (fF ?_ (fF ?_ (fF ?_ (fF ?_ (fF ?_ (fF ?_ (fF ?_ (fF ?_ (fF ?_ (fF ?_ (fF ?_ (fF ?_ (fF ?_ (fF ?_ (fF ?_ (fF ?_ (fF ?_ (fN ?_ (fF ?_ (fF ?_ (fE 39 (fE 39 (fF ?_ (fF ?_ (fF ?_ (fF ?_ (fF ?_ (fF ?_ (fF ?_ (fF ?_ (fF ?_ (fF ?_ (fE 39 (fE 9 (fE 9 (aB 57 0 9 (by decide) (trivial))))))))))))))))))))))))))))))))))))))))))))))))))))))))))) [] (fun q hq=>by cases hq) (fun hY=>absurd (hY 9 (by decide)) (by decide))
 ·exact fM 0 none d d d d (.inl d) d d d
 ·exact fM 1 none d d d d (.inl d) d d d
 ·refine fJ [(35,_),(36,_)] 2 [some 0,some 1] fun G a w S=>?_
  exact sIdxV S (wN d) d d d aS d (lb d) fun a S=>leafL ⟨d,S⟩
 ·refine fJ [(37,_)] 3 [some 2] fun G a w S=>?_
  exact sLoadHE (r:=(rL (rI .i64))) (T:=101) (xs:=a8) (u:=.slice a6 ab.length a7) (v:=.slice ac a8.length ae) (vq:=bq) (j:=a9) 0 S aT (wN d) d d d d d (lb d) fun a S=>leafL ⟨d,S⟩
 ·exact fM 4 none d d d d (.inl d) d d d
 ·exact fM 5 none d d d d (.inl d) d d d
 ·exact fM 6 none d d d d (.inl d) d d d
 ·refine fJ [(41,_)] 7 [some 6] fun G a w S=>?_
  exact sBin _ S (wN d) d d d (bAdd _ _ _ _ a9 1) d (lb d) fun a S=>leafL ⟨d,S⟩
 ·refine fJ [(40,_),(42,_)] 8 [some 5,some 7] fun G a w S=>?_
  exact sIdxV S (wN d) d d d c7 d (lb d) fun a S=>leafL ⟨d,S⟩
 ·refine ⟨_,[(43,bA)],d,(srcs_of [some 8] d d d),fun G a w S=>?_⟩
  refine sLoadHo (r:=(rL (rI .i64))) (T:=101) (xs:=a8) (x:=aw) (p:=(a9).toNat * (rL (rI .i64)).sz + 0) (u:=.slice a6 ab.length a7) (v:=.slice ac a8.length ae) (vq:=bA) (j:=w64 (a9 + 1)) 0 S c8 (wN d) d d d ay (idx_next (by decide) (hole_lim 0 S.mem d) az ay) (scal_L _) d d (lb d) fun a dW S=>?_
  obtain ⟨cf,cg,_,rfl,_⟩:=S.mem.know (i:=0) (e:=fRep (rL (rI .i64)) (dW) aw) d
  obtain ⟨bG,ci,S⟩:=pIdx (P:=Try.prog) (r:=(rI .i64)) (v:=.slice cf aw.length cg) (xs:=aw) (j:=aa) 101 3 0 S Try.underlying101 d d bV
  obtain ⟨cV,S⟩:=pLoad (r:=(rI .i64)) (q:=bG) (x:=ah) 0 S d
  obtain rfl:cV=iv ah:=S.mem.know (i:=1) (e:=fRep (rI .i64) (cV) ah) d
  refine leafL ⟨d,_,_,.inl ⟨44,(.slice cf aw.length cg),[(11,46,bG),(12,47,iv ah),(19,54,iv (w64 (ah + ai)))],d,S,hz_of d,?_⟩⟩
  refine node_by (A:=anc_compare_table_api_Row__s0_2) 58 (by kernel_rfl) (by kernel_rfl) (by kernel_rfl) (by kernel_rfl) (by kernel_rfl) [11,12,19,9,0,1,2,3,4,5,6,7,8,10,13,14,15,16,17,18,20,21,22,23,24,25,26,27,28,29,30,31,32,33,34,35,36,37,38,40,41,44,45,46,47,48,49,50,51,52,53] (by kernel_rfl) (by decide) (by decide) (fF ?_ (fF ?_ (fF ?_ (fF ?_ (fF ?_ (fD 9 (fD 9 (fD 9 (fD 9 (fY (fF ?_ (fF ?_ (fF ?_ (fF ?_ (fF ?_ (fF ?_ (fF ?_ (fF ?_ (fF ?_ (fF ?_ (fF ?_ (fF ?_ (fF ?_ (fF ?_ (fF ?_ (fF ?_ (fF ?_ (fF ?_ (fF ?_ (fF ?_ (fF ?_ (fF ?_ (fF ?_ (fF ?_ (fF ?_ (fF ?_ (fF ?_ (fF ?_ (fF ?_ (fN ?_ (fF ?_ (fF ?_ (fE 39 (fE 39 (fF ?_ (fF ?_ (fF ?_ (fF ?_ (fF ?_ (fF ?_ (fF ?_ (fF ?_ (fF ?_ (fF ?_ (fE 39 (fE 39 (fE 39 (aB 57 0 39 (by decide) (trivial))))))))))))))))))))))))))))))))))))))))))))))))))))))))))) [] (fun q hq=>by cases hq) (fun hY=>absurd (hY 39 (by decide)) (by decide))
  ·exact fM 4 none d d d d (.inl d) d d d
  ·exact fM 5 none d d d d (.inl d) d d d
  ·refine fJ [(35,_),(36,_)] 6 [some 4,some 5] fun G a w S=>?_
   exact sIdxV S (wN d) d d d aS d (lb d) fun a S=>leafL ⟨d,S⟩
  ·refine fJ [(37,_)] 7 [some 6] fun G a w S=>?_
   exact sLoadHE (r:=(rL (rI .i64))) (T:=101) (xs:=a8) (u:=.slice a6 ab.length a7) (v:=.slice ac a8.length ae) (vq:=bq) (j:=a9) 0 S aT (wN d) d d d d d (lb d) fun a S=>leafL ⟨d,S⟩
  ·exact fM 8 none d d d d (.inl d) d d d
  ·exact fM 13 none d d d d (.inl d) d d d
  ·refine fJ [(44,_),(45,_)] 0 [some 3,some 13] fun G a w S=>?_
   exact sIdxV S (wN d) d d d ci d (lb d) fun a S=>leafL ⟨d,S⟩
  ·refine fJ [(46,_)] 1 [some 0] fun G a w S=>?_
   exact sLoadV1 (vq:=bG) 0 (iv ah) S (wN d) d d d d d (lb d) fun a S=>leafL ⟨d,S⟩
  ·exact fM 14 none d d d d (.inl d) d d d
  ·exact fM 15 none d d d d (.inl d) d d d
  ·exact fM 16 none d d d d (.inl d) d d d
  ·refine fJ [(49,_),(50,_)] 17 [some 15,some 16] fun G a w S=>?_
   exact sIdxV S (wN d) d d d aU d (lb d) fun a S=>leafL ⟨d,S⟩
  ·refine fJ [(51,_)] 18 [some 17] fun G a w S=>?_
   exact sLoadVN (vq:=bf) 17 [.bool a0.Back,.slice al a0.Cells.length am] S (wN d) d d d d d d (lb d) fun a S=>leafL ⟨d,S⟩
  ·refine fJ [(48,_),(52,_)] 19 [some 14,some 18] fun G a w S=>?_
   have S1:=S.mem
   refine sCallVQ (X:=Unit) (g:=52) (vs:=[.agg #[.bool a0.Back,.slice al a0.Cells.length am]]) (caps:=[]) (val:=fun _=>iv ai) S (wN d) d d callee52 d (S1.quiet [18] d) (fun E1 w1 S1=>c_compare_Charts_1 E1 w1 a0 (.agg #[.bool a0.Back,.slice al a0.Cells.length am]) ai aP S1) d (lb d) fun _ a w S=>?_
   exact leafL ⟨d,S⟩
  ·refine fJ [(47,_),(53,_)] 2 [some 1,some 19] fun G a w S=>?_
   exact sBin _ S (wN d) d d d (bAdd _ _ _ _ ah ai) d (lb d) fun a S=>leafL ⟨d,S⟩
  ·exact fM 20 none d d d d (.inl d) d d d
  ·exact fM 21 none d d d d (.inl d) d d d
  ·refine fJ [(55,_),(56,_)] 22 [some 20,some 21] fun G a w S=>?_
   exact sIdxV S (wN d) d d d aV d (lb d) fun a S=>leafL ⟨d,S⟩
  ·refine fJ [(57,_)] 23 [some 22] fun G a w S=>?_
   exact sLoadHE (r:=(rL (rI .i64))) (T:=101) (xs:=a8) (u:=.slice a6 ab.length a7) (v:=.slice ac a8.length ae) (vq:=br) (j:=a9) 0 S aW (wN d) d d d d d (lb d) fun a S=>leafL ⟨d,S⟩
  ·exact fM 24 none d d d d (.inl d) d d d
  ·refine fJ [(59,_)] 25 [some 24] fun G a w S=>?_
   exact sBin _ S (wN d) d d d (bAdd _ _ _ _ aa 1) d (lb d) fun a S=>leafL ⟨d,S⟩
  ·refine fJ [(58,_),(60,_)] 26 [some 23,some 25] fun G a w S=>?_
   exact sIdxV S (wN d) d d d aX d (lb d) fun a S=>leafL ⟨d,S⟩
  ·refine fJ [(61,_)] 27 [some 26] fun G a w S=>?_
   exact sLoadR (r:=(rI .i64)) (T:=3) (xs:=ab) (x:=af) (v:=.slice a6 ab.length a7) (vq:=bu) (j:=w64 (aa + 1)) 1 (iv af) S aZ (wN d) d d d aM (fun _ _ _ h=>h) (scal_I _) d d (lb d) fun a S=>leafL ⟨d,S⟩
  ·exact fM 28 none d d d d (.inl d) d d d
  ·exact fM 29 none d d d d (.inl d) d d d
  ·exact fM 30 none d d d d (.inl d) d d d
  ·refine fJ [(64,_),(65,_)] 31 [some 29,some 30] fun G a w S=>?_
   exact sIdxV S (wN d) d d d ba d (lb d) fun a S=>leafL ⟨d,S⟩
  ·refine fJ [(66,_)] 32 [some 31] fun G a w S=>?_
   exact sLoadVN (vq:=bg) 13 [.bool a5.Back,.slice ao a5.Cells.length ap] S (wN d) d d d d d d (lb d) fun a S=>leafL ⟨d,S⟩
  ·refine fJ [(63,_),(67,_)] 33 [some 28,some 32] fun G a w S=>?_
   have S1:=S.mem
   refine sCallVQ (X:=Unit) (g:=52) (vs:=[.agg #[.bool a5.Back,.slice ao a5.Cells.length ap]]) (caps:=[]) (val:=fun _=>iv ag) S (wN d) d d callee52 d (S1.quiet [14] d) (fun E1 w1 S1=>c_compare_Charts_1 E1 w1 a5 (.agg #[.bool a5.Back,.slice ao a5.Cells.length ap]) ag aQ S1) d (lb d) fun _ a w S=>?_
   exact leafL ⟨d,S⟩
  ·refine fJ [(62,_),(68,_)] 34 [some 27,some 33] fun G a w S=>?_
   exact sBin _ S (wN d) d d d (bAdd _ _ _ _ af ag) d (lb d) fun a S=>leafL ⟨d,S⟩
  ·exact fM 35 none d d d d (.inl d) d d d
  ·exact fM 36 none d d d d (.inl d) d d d
  ·refine fJ [(71,_)] 37 [some 36] fun G a w S=>?_
   exact sBin _ S (wN d) d d d (bAdd _ _ _ _ a9 1) d (lb d) fun a S=>leafL ⟨d,S⟩
  ·refine fJ [(70,_),(72,_)] 38 [some 35,some 37] fun G a w S=>?_
   exact sIdxV S (wN d) d d d cb d (lb d) fun a S=>leafL ⟨d,S⟩
  ·refine ⟨_,[(73,bB)],d,(srcs_of [some 38] d d d),fun G a w S=>?_⟩
   refine sLoadHo (r:=(rL (rI .i64))) (T:=101) (xs:=a8) (x:=aw) (p:=(a9).toNat * (rL (rI .i64)).sz + 0) (u:=.slice a6 ab.length a7) (v:=.slice ac a8.length ae) (vq:=bB) (j:=w64 (a9 + 1)) 0 S cc (wN d) d d d ay (idx_next (by decide) (hole_lim 0 S.mem d) az ay) (scal_L _) d d (lb d) fun a dX S=>?_
   obtain ⟨cj,ck,_,rfl,_⟩:=S.mem.know (i:=0) (e:=fRep (rL (rI .i64)) (dX) aw) d
   obtain ⟨cA,cW,S⟩:=pIdx (P:=Try.prog) (r:=(rI .i64)) (v:=.slice cj aw.length ck) (xs:=aw) (j:=w64 (aa + 1)) 101 3 0 S Try.underlying101 d d bY
   obtain ⟨cX,S⟩:=pLoad (r:=(rI .i64)) (q:=cA) (x:=aj) 0 S d
   obtain rfl:cX=iv aj:=S.mem.know (i:=1) (e:=fRep (rI .i64) (cX) aj) d
   obtain ⟨cB,cY,cZ⟩:=pIdxR (P:=Try.prog) (r:=(rI .i64)) (T:=3) (v:=.slice a6 ab.length a7) (xs:=ab) (j:=aa) 101 3 1 S Try.underlying101 d d bZ
   refine leafL ⟨d,_,_,.inl ⟨74,(.slice cj aw.length ck),[(42,77,cA),(43,78,iv aj),(54,89,iv (w64 (aj + ak))),(55,90,iv (min3 (w64 (ah + ai)) (w64 (af + ag)) (w64 (aj + ak)))),(56,91,cB)],d,S,hz_of d,?_⟩⟩
   refine node_by (A:=anc_compare_table_api_Row__s0_2) 58 (by kernel_rfl) (by kernel_rfl) (by kernel_rfl) (by kernel_rfl) (by kernel_rfl) [42,43,54,55,56,39,11,12,19,9,0,1,2,3,4,5,6,7,8,10,13,14,15,16,17,18,20,21,22,23,24,25,26,27,28,29,30,31,32,33,34,35,36,37,38,40,41,44,45,46,47,48,49,50,51,52,53] (by kernel_rfl) (by decide) (by decide) (fF ?_ (fF ?_ (fF ?_ (fF ?_ (fF ?_ (fD 9 (fD 9 (fD 9 (fD 9 (fY (fF ?_ (fF ?_ (fF ?_ (fF ?_ (fF ?_ (fF ?_ (fF ?_ (fF ?_ (fF ?_ (fF ?_ (fF ?_ (fF ?_ (fF ?_ (fF ?_ (fF ?_ (fF ?_ (fF ?_ (fF ?_ (fF ?_ (fF ?_ (fF ?_ (fF ?_ (fF ?_ (fF ?_ (fF ?_ (fD 39 (fD 39 (fD 39 (fD 39 (fY (fF ?_ (fF ?_ (fF ?_ (fF ?_ (fF ?_ (fF ?_ (fF ?_ (fF ?_ (fF ?_ (fF ?_ (fF ?_ (fF ?_ (fF ?_ (fF ?_ (fF ?_ (fF ?_ (fF ?_ (fN ?_ (trivial))))))))))))))))))))))))))))))))))))))))))))))))))))))))))) [] (fun q hq=>by cases hq) (fun hY=>absurd (hY 57 (by decide)) (by decide))
   ·exact fM 10 none d d d d (.inl d) d d d
   ·exact fM 11 none d d d d (.inl d) d d d
   ·refine fJ [(35,_),(36,_)] 12 [some 10,some 11] fun G a w S=>?_
    exact sIdxV S (wN d) d d d aS d (lb d) fun a S=>leafL ⟨d,S⟩
   ·refine fJ [(37,_)] 13 [some 12] fun G a w S=>?_
    exact sLoadHE (r:=(rL (rI .i64))) (T:=101) (xs:=a8) (u:=.slice a6 ab.length a7) (v:=.slice ac a8.length ae) (vq:=bq) (j:=a9) 0 S aT (wN d) d d d d d (lb d) fun a S=>leafL ⟨d,S⟩
   ·exact fM 14 none d d d d (.inl d) d d d
   ·exact fM 19 none d d d d (.inl d) d d d
   ·refine fJ [(44,_),(45,_)] 6 [some 9,some 19] fun G a w S=>?_
    exact sIdxV S (wN d) d d d ci d (lb d) fun a S=>leafL ⟨d,S⟩
   ·refine fJ [(46,_)] 7 [some 6] fun G a w S=>?_
    exact sLoadV1 (vq:=bG) 4 (iv ah) S (wN d) d d d d d (lb d) fun a S=>leafL ⟨d,S⟩
   ·exact fM 20 none d d d d (.inl d) d d d
   ·exact fM 21 none d d d d (.inl d) d d d
   ·exact fM 22 none d d d d (.inl d) d d d
   ·refine fJ [(49,_),(50,_)] 23 [some 21,some 22] fun G a w S=>?_
    exact sIdxV S (wN d) d d d aU d (lb d) fun a S=>leafL ⟨d,S⟩
   ·refine fJ [(51,_)] 24 [some 23] fun G a w S=>?_
    exact sLoadVN (vq:=bf) 21 [.bool a0.Back,.slice al a0.Cells.length am] S (wN d) d d d d d d (lb d) fun a S=>leafL ⟨d,S⟩
   ·refine fJ [(48,_),(52,_)] 25 [some 20,some 24] fun G a w S=>?_
    have S1:=S.mem
    refine sCallVQ (X:=Unit) (g:=52) (vs:=[.agg #[.bool a0.Back,.slice al a0.Cells.length am]]) (caps:=[]) (val:=fun _=>iv ai) S (wN d) d d callee52 d (S1.quiet [22] d) (fun E1 w1 S1=>c_compare_Charts_1 E1 w1 a0 (.agg #[.bool a0.Back,.slice al a0.Cells.length am]) ai aP S1) d (lb d) fun _ a w S=>?_
    exact leafL ⟨d,S⟩
   ·refine fJ [(47,_),(53,_)] 8 [some 7,some 25] fun G a w S=>?_
    exact sBin _ S (wN d) d d d (bAdd _ _ _ _ ah ai) d (lb d) fun a S=>leafL ⟨d,S⟩
   ·exact fM 26 none d d d d (.inl d) d d d
   ·exact fM 27 none d d d d (.inl d) d d d
   ·refine fJ [(55,_),(56,_)] 28 [some 26,some 27] fun G a w S=>?_
    exact sIdxV S (wN d) d d d aV d (lb d) fun a S=>leafL ⟨d,S⟩
   ·refine fJ [(57,_)] 29 [some 28] fun G a w S=>?_
    exact sLoadHE (r:=(rL (rI .i64))) (T:=101) (xs:=a8) (u:=.slice a6 ab.length a7) (v:=.slice ac a8.length ae) (vq:=br) (j:=a9) 0 S aW (wN d) d d d d d (lb d) fun a S=>leafL ⟨d,S⟩
   ·exact fM 30 none d d d d (.inl d) d d d
   ·refine fJ [(59,_)] 31 [some 30] fun G a w S=>?_
    exact sBin _ S (wN d) d d d (bAdd _ _ _ _ aa 1) d (lb d) fun a S=>leafL ⟨d,S⟩
   ·refine fJ [(58,_),(60,_)] 32 [some 29,some 31] fun G a w S=>?_
    exact sIdxV S (wN d) d d d aX d (lb d) fun a S=>leafL ⟨d,S⟩
   ·refine fJ [(61,_)] 33 [some 32] fun G a w S=>?_
    exact sLoadR (r:=(rI .i64)) (T:=3) (xs:=ab) (x:=af) (v:=.slice a6 ab.length a7) (vq:=bu) (j:=w64 (aa + 1)) 1 (iv af) S aZ (wN d) d d d aM (fun _ _ _ h=>h) (scal_I _) d d (lb d) fun a S=>leafL ⟨d,S⟩
   ·exact fM 34 none d d d d (.inl d) d d d
   ·exact fM 35 none d d d d (.inl d) d d d
   ·exact fM 36 none d d d d (.inl d) d d d
   ·refine fJ [(64,_),(65,_)] 37 [some 35,some 36] fun G a w S=>?_
    exact sIdxV S (wN d) d d d ba d (lb d) fun a S=>leafL ⟨d,S⟩
   ·refine fJ [(66,_)] 38 [some 37] fun G a w S=>?_
    exact sLoadVN (vq:=bg) 17 [.bool a5.Back,.slice ao a5.Cells.length ap] S (wN d) d d d d d d (lb d) fun a S=>leafL ⟨d,S⟩
   ·refine fJ [(63,_),(67,_)] 39 [some 34,some 38] fun G a w S=>?_
    have S1:=S.mem
    refine sCallVQ (X:=Unit) (g:=52) (vs:=[.agg #[.bool a5.Back,.slice ao a5.Cells.length ap]]) (caps:=[]) (val:=fun _=>iv ag) S (wN d) d d callee52 d (S1.quiet [18] d) (fun E1 w1 S1=>c_compare_Charts_1 E1 w1 a5 (.agg #[.bool a5.Back,.slice ao a5.Cells.length ap]) ag aQ S1) d (lb d) fun _ a w S=>?_
    exact leafL ⟨d,S⟩
   ·refine fJ [(62,_),(68,_)] 40 [some 33,some 39] fun G a w S=>?_
    exact sBin _ S (wN d) d d d (bAdd _ _ _ _ af ag) d (lb d) fun a S=>leafL ⟨d,S⟩
   ·exact fM 45 none d d d d (.inl d) d d d
   ·refine fJ [(75,_)] 46 [some 45] fun G a w S=>?_
    exact sBin _ S (wN d) d d d (bAdd _ _ _ _ aa 1) d (lb d) fun a S=>leafL ⟨d,S⟩
   ·refine fJ [(74,_),(76,_)] 0 [some 5,some 46] fun G a w S=>?_
    exact sIdxV S (wN d) d d d cW d (lb d) fun a S=>leafL ⟨d,S⟩
   ·refine fJ [(77,_)] 1 [some 0] fun G a w S=>?_
    exact sLoadV1 (vq:=cA) 0 (iv aj) S (wN d) d d d d d (lb d) fun a S=>leafL ⟨d,S⟩
   ·exact fM 47 none d d d d (.inl d) d d d
   ·exact fM 48 none d d d d (.inl d) d d d
   ·exact fM 49 none d d d d (.inl d) d d d
   ·refine fJ [(80,_),(81,_)] 50 [some 48,some 49] fun G a w S=>?_
    exact sIdxV S (wN d) d d d bb d (lb d) fun a S=>leafL ⟨d,S⟩
   ·refine fJ [(82,_)] 51 [some 50] fun G a w S=>?_
    exact sLoadVN (vq:=bh) 13 [.bool a0.Back,.slice aq a0.Cells.length ar] S (wN d) d d d d d d (lb d) fun a S=>leafL ⟨d,S⟩
   ·exact fM 52 none d d d d (.inl d) d d d
   ·exact fM 53 none d d d d (.inl d) d d d
   ·refine fJ [(84,_),(85,_)] 54 [some 52,some 53] fun G a w S=>?_
    exact sIdxV S (wN d) d d d bc d (lb d) fun a S=>leafL ⟨d,S⟩
   ·refine fJ [(86,_)] 55 [some 54] fun G a w S=>?_
    exact sLoadVN (vq:=bi) 9 [.bool a5.Back,.slice au a5.Cells.length av] S (wN d) d d d d d d (lb d) fun a S=>leafL ⟨d,S⟩
   ·refine fJ [(79,_),(83,_),(87,_)] 56 [some 47,some 51,some 55] fun G a w S=>?_
    have S1:=S.mem
    refine sCallVQ (X:=Unit) (g:=53) (vs:=[.agg #[.bool a0.Back,.slice aq a0.Cells.length ar],.agg #[.bool a5.Back,.slice au a5.Cells.length av]]) (caps:=[]) (val:=fun _=>iv ak) S (wN d) d d callee53 d (S1.quiet [14,10] d) (fun E1 w1 S1=>c_compare_Charts_2 E1 w1 a0 (.agg #[.bool a0.Back,.slice aq a0.Cells.length ar]) a5 (.agg #[.bool a5.Back,.slice au a5.Cells.length av]) ak aR S1) d (lb d) fun _ a w S=>?_
    exact leafL ⟨d,S⟩
   ·refine fJ [(78,_),(88,_)] 2 [some 1,some 56] fun G a w S=>?_
    exact sBin _ S (wN d) d d d (bAdd _ _ _ _ aj ak) d (lb d) fun a S=>leafL ⟨d,S⟩
   ·refine fJ [(54,_),(69,_),(89,_)] 3 [some 8,some 40,some 2] fun G a w S=>?_
    exact sMin3 (p:=w64 (ah + ai)) (q:=w64 (af + ag)) (r:=w64 (aj + ak)) S (wN d) d d d d d (lb d) fun a S=>leafL ⟨d,S⟩
   ·refine fJ [(38,_),(39,_)] 4 [some 13,some 14] fun G a w S=>?_
    exact sIdxV S (wN d) d d d cY d (lb d) fun a S=>leafL ⟨d,S⟩
   refine ⟨_,[(90,iv (min3 (w64 (ah + ai)) (w64 (af + ag)) (w64 (aj + ak)))),(91,cB)],d,(srcs_of [some 3,some 4] d d d),fun G a w S=>?_⟩
   refine sStoreR (r:=(rI .i64)) (T:=3) (xs:=ab) (ys:=bE) (y:=(min3 (w64 (ah + ai)) (w64 (af + ag)) (w64 (aj + ak)))) (v:=.slice a6 ab.length a7) (vq:=cB) (u:=iv (min3 (w64 (ah + ai)) (w64 (af + ag)) (w64 (aj + ak)))) (j:=aa) 1 S cZ (wN d) d d d d d bl d d fun a w S=>leafL ⟨d,_,_,.inr ⟨[],d,S,hz_of d,?_⟩⟩
   refine node_by (A:=anc_compare_table_api_Row__s0_2) 58 (by kernel_rfl) (by kernel_rfl) (by kernel_rfl) (by kernel_rfl) (by kernel_rfl) [42,43,54,55,56,39,11,12,19,9,0,1,2,3,4,5,6,7,8,10,13,14,15,16,17,18,20,21,22,23,24,25,26,27,28,29,30,31,32,33,34,35,36,37,38,40,41,44,45,46,47,48,49,50,51,52,53] (by kernel_rfl) (by decide) (by decide) (fD 57 (fD 57 (fD 57 (fD 57 (fD 57 (fD 57 (fD 57 (fD 57 (fD 57 (fY (fD 57 (fD 57 (fD 57 (fD 57 (fD 57 (fD 57 (fD 57 (fD 57 (fD 57 (fD 57 (fD 57 (fD 57 (fD 57 (fD 57 (fD 57 (fD 57 (fD 57 (fD 57 (fD 57 (fD 57 (fD 57 (fD 57 (fD 57 (fD 57 (fD 57 (fD 57 (fD 57 (fD 57 (fD 57 (fY (fD 57 (fD 57 (fD 57 (fD 57 (fD 57 (fD 57 (fD 57 (fD 57 (fD 57 (fD 57 (fD 57 (fD 57 (fD 57 (fD 57 (fD 57 (fD 57 (fD 57 (fY (trivial))))))))))))))))))))))))))))))))))))))))))))))))))))))))))) [(0,.slice aI p0.length aJ),(1,.slice aG p1.length aH),(2,.func (.func 52) #[] #[]),(3,.func (.func 53) #[] #[]),(9,.slice ac a8.length ae),(10,iv a9),(11,iv aa)] (fin_of [none,none,none,none,none,none,none] d (by kernel_rfl) (by kernel_rfl)) (fun _ a w S=>?_)
   rw [setO_v bl a6 a7] at S
   exact leafB (leafB (leafT (⟨bE,Option.some.inj h,S.fix [1,0] [24,25] (by decide) d d d⟩)))
  ·exact fM 39 none d d d d (.inl d) d d d
  ·refine fJ [(75,_)] 40 [some 39] fun G a w S=>?_
   exact sBin _ S (wN d) d d d (bAdd _ _ _ _ aa 1) d (lb d) fun a S=>leafL ⟨d,S⟩
  ·exact fM 41 none d d d d (.inl d) d d d
  ·exact fM 42 none d d d d (.inl d) d d d
  ·exact fM 43 none d d d d (.inl d) d d d
  ·refine fJ [(80,_),(81,_)] 44 [some 42,some 43] fun G a w S=>?_
   exact sIdxV S (wN d) d d d bb d (lb d) fun a S=>leafL ⟨d,S⟩
  ·refine fJ [(82,_)] 45 [some 44] fun G a w S=>?_
   exact sLoadVN (vq:=bh) 9 [.bool a0.Back,.slice aq a0.Cells.length ar] S (wN d) d d d d d d (lb d) fun a S=>leafL ⟨d,S⟩
  ·exact fM 46 none d d d d (.inl d) d d d
  ·exact fM 47 none d d d d (.inl d) d d d
  ·refine fJ [(84,_),(85,_)] 48 [some 46,some 47] fun G a w S=>?_
   exact sIdxV S (wN d) d d d bc d (lb d) fun a S=>leafL ⟨d,S⟩
  ·refine fJ [(86,_)] 49 [some 48] fun G a w S=>?_
   exact sLoadVN (vq:=bi) 5 [.bool a5.Back,.slice au a5.Cells.length av] S (wN d) d d d d d d (lb d) fun a S=>leafL ⟨d,S⟩
  refine fJ [(79,_),(83,_),(87,_)] 50 [some 41,some 45,some 49] fun G a w S=>?_
  have S1:=S.mem
  refine sCallVQ (X:=Unit) (g:=53) (vs:=[.agg #[.bool a0.Back,.slice aq a0.Cells.length ar],.agg #[.bool a5.Back,.slice au a5.Cells.length av]]) (caps:=[]) (val:=fun _=>iv ak) S (wN d) d d callee53 d (S1.quiet [10,6] d) (fun E1 w1 S1=>c_compare_Charts_2 E1 w1 a0 (.agg #[.bool a0.Back,.slice aq a0.Cells.length ar]) a5 (.agg #[.bool a5.Back,.slice au a5.Cells.length av]) ak aR S1) d (lb d) fun _ a w S=>?_
  exact leafL ⟨d,S⟩
 ·exact fM 9 none d d d d (.inl d) d d d
 ·exact fM 10 none d d d d (.inl d) d d d
 ·exact fM 11 none d d d d (.inl d) d d d
 ·exact fM 12 none d d d d (.inl d) d d d
 ·refine fJ [(49,_),(50,_)] 13 [some 11,some 12] fun G a w S=>?_
  exact sIdxV S (wN d) d d d aU d (lb d) fun a S=>leafL ⟨d,S⟩
 ·refine fJ [(51,_)] 14 [some 13] fun G a w S=>?_
  exact sLoadVN (vq:=bf) 13 [.bool a0.Back,.slice al a0.Cells.length am] S (wN d) d d d d d d (lb d) fun a S=>leafL ⟨d,S⟩
 ·refine fJ [(48,_),(52,_)] 15 [some 10,some 14] fun G a w S=>?_
  have S1:=S.mem
  refine sCallVQ (X:=Unit) (g:=52) (vs:=[.agg #[.bool a0.Back,.slice al a0.Cells.length am]]) (caps:=[]) (val:=fun _=>iv ai) S (wN d) d d callee52 d (S1.quiet [14] d) (fun E1 w1 S1=>c_compare_Charts_1 E1 w1 a0 (.agg #[.bool a0.Back,.slice al a0.Cells.length am]) ai aP S1) d (lb d) fun _ a w S=>?_
  exact leafL ⟨d,S⟩
 ·exact fM 16 none d d d d (.inl d) d d d
 ·exact fM 17 none d d d d (.inl d) d d d
 ·refine fJ [(55,_),(56,_)] 18 [some 16,some 17] fun G a w S=>?_
  exact sIdxV S (wN d) d d d aV d (lb d) fun a S=>leafL ⟨d,S⟩
 ·refine fJ [(57,_)] 19 [some 18] fun G a w S=>?_
  exact sLoadHE (r:=(rL (rI .i64))) (T:=101) (xs:=a8) (u:=.slice a6 ab.length a7) (v:=.slice ac a8.length ae) (vq:=br) (j:=a9) 0 S aW (wN d) d d d d d (lb d) fun a S=>leafL ⟨d,S⟩
 ·exact fM 20 none d d d d (.inl d) d d d
 ·refine fJ [(59,_)] 21 [some 20] fun G a w S=>?_
  exact sBin _ S (wN d) d d d (bAdd _ _ _ _ aa 1) d (lb d) fun a S=>leafL ⟨d,S⟩
 ·refine fJ [(58,_),(60,_)] 22 [some 19,some 21] fun G a w S=>?_
  exact sIdxV S (wN d) d d d aX d (lb d) fun a S=>leafL ⟨d,S⟩
 ·refine fJ [(61,_)] 23 [some 22] fun G a w S=>?_
  exact sLoadR (r:=(rI .i64)) (T:=3) (xs:=ab) (x:=af) (v:=.slice a6 ab.length a7) (vq:=bu) (j:=w64 (aa + 1)) 1 (iv af) S aZ (wN d) d d d aM (fun _ _ _ h=>h) (scal_I _) d d (lb d) fun a S=>leafL ⟨d,S⟩
 ·exact fM 24 none d d d d (.inl d) d d d
 ·exact fM 25 none d d d d (.inl d) d d d
 ·exact fM 26 none d d d d (.inl d) d d d
 ·refine fJ [(64,_),(65,_)] 27 [some 25,some 26] fun G a w S=>?_
  exact sIdxV S (wN d) d d d ba d (lb d) fun a S=>leafL ⟨d,S⟩
 ·refine fJ [(66,_)] 28 [some 27] fun G a w S=>?_
  exact sLoadVN (vq:=bg) 9 [.bool a5.Back,.slice ao a5.Cells.length ap] S (wN d) d d d d d d (lb d) fun a S=>leafL ⟨d,S⟩
 ·refine fJ [(63,_),(67,_)] 29 [some 24,some 28] fun G a w S=>?_
  have S1:=S.mem
  refine sCallVQ (X:=Unit) (g:=52) (vs:=[.agg #[.bool a5.Back,.slice ao a5.Cells.length ap]]) (caps:=[]) (val:=fun _=>iv ag) S (wN d) d d callee52 d (S1.quiet [10] d) (fun E1 w1 S1=>c_compare_Charts_1 E1 w1 a5 (.agg #[.bool a5.Back,.slice ao a5.Cells.length ap]) ag aQ S1) d (lb d) fun _ a w S=>?_
  exact leafL ⟨d,S⟩
 ·refine fJ [(62,_),(68,_)] 30 [some 23,some 29] fun G a w S=>?_
  exact sBin _ S (wN d) d d d (bAdd _ _ _ _ af ag) d (lb d) fun a S=>leafL ⟨d,S⟩
 ·exact fM 31 none d d d d (.inl d) d d d
 ·exact fM 32 none d d d d (.inl d) d d d
 ·refine fJ [(71,_)] 33 [some 32] fun G a w S=>?_
  exact sBin _ S (wN d) d d d (bAdd _ _ _ _ a9 1) d (lb d) fun a S=>leafL ⟨d,S⟩
 ·refine fJ [(70,_),(72,_)] 34 [some 31,some 33] fun G a w S=>?_
  exact sIdxV S (wN d) d d d cb d (lb d) fun a S=>leafL ⟨d,S⟩
 ·refine ⟨_,[(73,bB)],d,(srcs_of [some 34] d d d),fun G a w S=>?_⟩
  refine sLoadHo (r:=(rL (rI .i64))) (T:=101) (xs:=a8) (x:=aw) (p:=(a9).toNat * (rL (rI .i64)).sz + 0) (u:=.slice a6 ab.length a7) (v:=.slice ac a8.length ae) (vq:=bB) (j:=w64 (a9 + 1)) 0 S cc (wN d) d d d ay (idx_next (by decide) (hole_lim 0 S.mem d) az ay) (scal_L _) d d (lb d) fun a dY S=>?_
  obtain ⟨cl,cm,_,rfl,_⟩:=S.mem.know (i:=0) (e:=fRep (rL (rI .i64)) (dY) aw) d
  obtain ⟨bH,cn,S⟩:=pIdx (P:=Try.prog) (r:=(rI .i64)) (v:=.slice cl aw.length cm) (xs:=aw) (j:=w64 (aa + 1)) 101 3 0 S Try.underlying101 d d bY
  obtain ⟨d6,S⟩:=pLoad (r:=(rI .i64)) (q:=bH) (x:=aj) 0 S d
  obtain rfl:d6=iv aj:=S.mem.know (i:=1) (e:=fRep (rI .i64) (d6) aj) d
  refine leafL ⟨d,_,_,.inl ⟨74,(.slice cl aw.length cm),[(42,77,bH),(43,78,iv aj),(54,89,iv (w64 (aj + ak)))],d,S,hz_of d,?_⟩⟩
  refine node_by (A:=anc_compare_table_api_Row__s0_2) 58 (by kernel_rfl) (by kernel_rfl) (by kernel_rfl) (by kernel_rfl) (by kernel_rfl) [42,43,54,39,0,1,2,3,4,5,6,7,8,10,13,14,15,16,17,18,20,21,22,23,24,25,26,27,28,29,30,31,32,33,34,35,36,37,38,40,41,44,45,46,47,48,49,50,51,52,53] (by kernel_rfl) (by decide) (by decide) (fF ?_ (fF ?_ (fF ?_ (fF ?_ (fF ?_ (fF ?_ (fF ?_ (fF ?_ (fF ?_ (fN ?_ (fF ?_ (fE 9 (fE 9 (fF ?_ (fF ?_ (fF ?_ (fF ?_ (fF ?_ (fF ?_ (fE 9 (fF ?_ (fF ?_ (fF ?_ (fF ?_ (fF ?_ (fF ?_ (fF ?_ (fF ?_ (fF ?_ (fF ?_ (fF ?_ (fF ?_ (fF ?_ (fF ?_ (fF ?_ (fD 39 (fD 39 (fD 39 (fD 39 (fY (fF ?_ (fF ?_ (fF ?_ (fF ?_ (fF ?_ (fF ?_ (fF ?_ (fF ?_ (fF ?_ (fF ?_ (fF ?_ (fF ?_ (fF ?_ (fF ?_ (fF ?_ (fE 9 (fE 9 (aB 57 0 9 (by decide) (trivial))))))))))))))))))))))))))))))))))))))))))))))))))))))))))) [] (fun q hq=>by cases hq) (fun hY=>absurd (hY 9 (by decide)) (by decide))
  ·exact fM 4 none d d d d (.inl d) d d d
  ·exact fM 5 none d d d d (.inl d) d d d
  ·refine fJ [(35,_),(36,_)] 6 [some 4,some 5] fun G a w S=>?_
   exact sIdxV S (wN d) d d d aS d (lb d) fun a S=>leafL ⟨d,S⟩
  ·refine fJ [(37,_)] 7 [some 6] fun G a w S=>?_
   exact sLoadHE (r:=(rL (rI .i64))) (T:=101) (xs:=a8) (u:=.slice a6 ab.length a7) (v:=.slice ac a8.length ae) (vq:=bq) (j:=a9) 0 S aT (wN d) d d d d d (lb d) fun a S=>leafL ⟨d,S⟩
  ·exact fM 8 none d d d d (.inl d) d d d
  ·exact fM 9 none d d d d (.inl d) d d d
  ·exact fM 10 none d d d d (.inl d) d d d
  ·refine fJ [(41,_)] 11 [some 10] fun G a w S=>?_
   exact sBin _ S (wN d) d d d (bAdd _ _ _ _ a9 1) d (lb d) fun a S=>leafL ⟨d,S⟩
  ·refine fJ [(40,_),(42,_)] 12 [some 9,some 11] fun G a w S=>?_
   exact sIdxV S (wN d) d d d c7 d (lb d) fun a S=>leafL ⟨d,S⟩
  ·refine ⟨_,[(43,bA)],d,(srcs_of [some 12] d d d),fun G a w S=>?_⟩
   refine sLoadHo (r:=(rL (rI .i64))) (T:=101) (xs:=a8) (x:=aw) (p:=(a9).toNat * (rL (rI .i64)).sz + 0) (u:=.slice a6 ab.length a7) (v:=.slice ac a8.length ae) (vq:=bA) (j:=w64 (a9 + 1)) 0 S c8 (wN d) d d d ay (idx_next (by decide) (hole_lim 0 S.mem d) az ay) (scal_L _) d d (lb d) fun a dZ S=>?_
   obtain ⟨co,cp,_,rfl,_⟩:=S.mem.know (i:=0) (e:=fRep (rL (rI .i64)) (dZ) aw) d
   obtain ⟨cC,d7,S⟩:=pIdx (P:=Try.prog) (r:=(rI .i64)) (v:=.slice co aw.length cp) (xs:=aw) (j:=aa) 101 3 0 S Try.underlying101 d d bV
   obtain ⟨d8,S⟩:=pLoad (r:=(rI .i64)) (q:=cC) (x:=ah) 0 S d
   obtain rfl:d8=iv ah:=S.mem.know (i:=1) (e:=fRep (rI .i64) (d8) ah) d
   obtain ⟨cD,d9,da⟩:=pIdxR (P:=Try.prog) (r:=(rI .i64)) (T:=3) (v:=.slice a6 ab.length a7) (xs:=ab) (j:=aa) 101 3 1 S Try.underlying101 d d bZ
   refine leafL ⟨d,_,_,.inl ⟨44,(.slice co aw.length cp),[(11,46,cC),(12,47,iv ah),(19,54,iv (w64 (ah + ai))),(55,90,iv (min3 (w64 (ah + ai)) (w64 (af + ag)) (w64 (aj + ak)))),(56,91,cD)],d,S,hz_of d,?_⟩⟩
   refine node_by (A:=anc_compare_table_api_Row__s0_2) 58 (by kernel_rfl) (by kernel_rfl) (by kernel_rfl) (by kernel_rfl) (by kernel_rfl) [11,12,19,55,56,9,42,43,54,39,0,1,2,3,4,5,6,7,8,10,13,14,15,16,17,18,20,21,22,23,24,25,26,27,28,29,30,31,32,33,34,35,36,37,38,40,41,44,45,46,47,48,49,50,51,52,53] (by kernel_rfl) (by decide) (by decide) (fF ?_ (fF ?_ (fF ?_ (fF ?_ (fF ?_ (fD 9 (fD 9 (fD 9 (fD 9 (fY (fF ?_ (fF ?_ (fF ?_ (fF ?_ (fF ?_ (fF ?_ (fF ?_ (fF ?_ (fF ?_ (fF ?_ (fF ?_ (fF ?_ (fF ?_ (fF ?_ (fF ?_ (fF ?_ (fF ?_ (fF ?_ (fF ?_ (fF ?_ (fF ?_ (fF ?_ (fF ?_ (fF ?_ (fF ?_ (fD 39 (fD 39 (fD 39 (fD 39 (fY (fF ?_ (fF ?_ (fF ?_ (fF ?_ (fF ?_ (fF ?_ (fF ?_ (fF ?_ (fF ?_ (fF ?_ (fF ?_ (fF ?_ (fF ?_ (fF ?_ (fF ?_ (fF ?_ (fF ?_ (fN ?_ (trivial))))))))))))))))))))))))))))))))))))))))))))))))))))))))))) [] (fun q hq=>by cases hq) (fun hY=>absurd (hY 57 (by decide)) (by decide))
   ·exact fM 10 none d d d d (.inl d) d d d
   ·exact fM 11 none d d d d (.inl d) d d d
   ·refine fJ [(35,_),(36,_)] 12 [some 10,some 11] fun G a w S=>?_
    exact sIdxV S (wN d) d d d aS d (lb d) fun a S=>leafL ⟨d,S⟩
   ·refine fJ [(37,_)] 13 [some 12] fun G a w S=>?_
    exact sLoadHE (r:=(rL (rI .i64))) (T:=101) (xs:=a8) (u:=.slice a6 ab.length a7) (v:=.slice ac a8.length ae) (vq:=bq) (j:=a9) 0 S aT (wN d) d d d d d (lb d) fun a S=>leafL ⟨d,S⟩
   ·exact fM 14 none d d d d (.inl d) d d d
   ·exact fM 19 none d d d d (.inl d) d d d
   ·refine fJ [(44,_),(45,_)] 0 [some 5,some 19] fun G a w S=>?_
    exact sIdxV S (wN d) d d d d7 d (lb d) fun a S=>leafL ⟨d,S⟩
   ·refine fJ [(46,_)] 1 [some 0] fun G a w S=>?_
    exact sLoadV1 (vq:=cC) 0 (iv ah) S (wN d) d d d d d (lb d) fun a S=>leafL ⟨d,S⟩
   ·exact fM 20 none d d d d (.inl d) d d d
   ·exact fM 21 none d d d d (.inl d) d d d
   ·exact fM 22 none d d d d (.inl d) d d d
   ·refine fJ [(49,_),(50,_)] 23 [some 21,some 22] fun G a w S=>?_
    exact sIdxV S (wN d) d d d aU d (lb d) fun a S=>leafL ⟨d,S⟩
   ·refine fJ [(51,_)] 24 [some 23] fun G a w S=>?_
    exact sLoadVN (vq:=bf) 21 [.bool a0.Back,.slice al a0.Cells.length am] S (wN d) d d d d d d (lb d) fun a S=>leafL ⟨d,S⟩
   ·refine fJ [(48,_),(52,_)] 25 [some 20,some 24] fun G a w S=>?_
    have S1:=S.mem
    refine sCallVQ (X:=Unit) (g:=52) (vs:=[.agg #[.bool a0.Back,.slice al a0.Cells.length am]]) (caps:=[]) (val:=fun _=>iv ai) S (wN d) d d callee52 d (S1.quiet [22] d) (fun E1 w1 S1=>c_compare_Charts_1 E1 w1 a0 (.agg #[.bool a0.Back,.slice al a0.Cells.length am]) ai aP S1) d (lb d) fun _ a w S=>?_
    exact leafL ⟨d,S⟩
   ·refine fJ [(47,_),(53,_)] 2 [some 1,some 25] fun G a w S=>?_
    exact sBin _ S (wN d) d d d (bAdd _ _ _ _ ah ai) d (lb d) fun a S=>leafL ⟨d,S⟩
   ·exact fM 26 none d d d d (.inl d) d d d
   ·exact fM 27 none d d d d (.inl d) d d d
   ·refine fJ [(55,_),(56,_)] 28 [some 26,some 27] fun G a w S=>?_
    exact sIdxV S (wN d) d d d aV d (lb d) fun a S=>leafL ⟨d,S⟩
   ·refine fJ [(57,_)] 29 [some 28] fun G a w S=>?_
    exact sLoadHE (r:=(rL (rI .i64))) (T:=101) (xs:=a8) (u:=.slice a6 ab.length a7) (v:=.slice ac a8.length ae) (vq:=br) (j:=a9) 0 S aW (wN d) d d d d d (lb d) fun a S=>leafL ⟨d,S⟩
   ·exact fM 30 none d d d d (.inl d) d d d
   ·refine fJ [(59,_)] 31 [some 30] fun G a w S=>?_
    exact sBin _ S (wN d) d d d (bAdd _ _ _ _ aa 1) d (lb d) fun a S=>leafL ⟨d,S⟩
   ·refine fJ [(58,_),(60,_)] 32 [some 29,some 31] fun G a w S=>?_
    exact sIdxV S (wN d) d d d aX d (lb d) fun a S=>leafL ⟨d,S⟩
   ·refine fJ [(61,_)] 33 [some 32] fun G a w S=>?_
    exact sLoadR (r:=(rI .i64)) (T:=3) (xs:=ab) (x:=af) (v:=.slice a6 ab.length a7) (vq:=bu) (j:=w64 (aa + 1)) 1 (iv af) S aZ (wN d) d d d aM (fun _ _ _ h=>h) (scal_I _) d d (lb d) fun a S=>leafL ⟨d,S⟩
   ·exact fM 34 none d d d d (.inl d) d d d
   ·exact fM 35 none d d d d (.inl d) d d d
   ·exact fM 36 none d d d d (.inl d) d d d
   ·refine fJ [(64,_),(65,_)] 37 [some 35,some 36] fun G a w S=>?_
    exact sIdxV S (wN d) d d d ba d (lb d) fun a S=>leafL ⟨d,S⟩
   ·refine fJ [(66,_)] 38 [some 37] fun G a w S=>?_
    exact sLoadVN (vq:=bg) 17 [.bool a5.Back,.slice ao a5.Cells.length ap] S (wN d) d d d d d d (lb d) fun a S=>leafL ⟨d,S⟩
   ·refine fJ [(63,_),(67,_)] 39 [some 34,some 38] fun G a w S=>?_
    have S1:=S.mem
    refine sCallVQ (X:=Unit) (g:=52) (vs:=[.agg #[.bool a5.Back,.slice ao a5.Cells.length ap]]) (caps:=[]) (val:=fun _=>iv ag) S (wN d) d d callee52 d (S1.quiet [18] d) (fun E1 w1 S1=>c_compare_Charts_1 E1 w1 a5 (.agg #[.bool a5.Back,.slice ao a5.Cells.length ap]) ag aQ S1) d (lb d) fun _ a w S=>?_
    exact leafL ⟨d,S⟩
   ·refine fJ [(62,_),(68,_)] 40 [some 33,some 39] fun G a w S=>?_
    exact sBin _ S (wN d) d d d (bAdd _ _ _ _ af ag) d (lb d) fun a S=>leafL ⟨d,S⟩
   ·exact fM 45 none d d d d (.inl d) d d d
   ·refine fJ [(75,_)] 46 [some 45] fun G a w S=>?_
    exact sBin _ S (wN d) d d d (bAdd _ _ _ _ aa 1) d (lb d) fun a S=>leafL ⟨d,S⟩
   ·refine fJ [(74,_),(76,_)] 6 [some 9,some 46] fun G a w S=>?_
    exact sIdxV S (wN d) d d d cn d (lb d) fun a S=>leafL ⟨d,S⟩
   ·refine fJ [(77,_)] 7 [some 6] fun G a w S=>?_
    exact sLoadV1 (vq:=bH) 4 (iv aj) S (wN d) d d d d d (lb d) fun a S=>leafL ⟨d,S⟩
   ·exact fM 47 none d d d d (.inl d) d d d
   ·exact fM 48 none d d d d (.inl d) d d d
   ·exact fM 49 none d d d d (.inl d) d d d
   ·refine fJ [(80,_),(81,_)] 50 [some 48,some 49] fun G a w S=>?_
    exact sIdxV S (wN d) d d d bb d (lb d) fun a S=>leafL ⟨d,S⟩
   ·refine fJ [(82,_)] 51 [some 50] fun G a w S=>?_
    exact sLoadVN (vq:=bh) 13 [.bool a0.Back,.slice aq a0.Cells.length ar] S (wN d) d d d d d d (lb d) fun a S=>leafL ⟨d,S⟩
   ·exact fM 52 none d d d d (.inl d) d d d
   ·exact fM 53 none d d d d (.inl d) d d d
   ·refine fJ [(84,_),(85,_)] 54 [some 52,some 53] fun G a w S=>?_
    exact sIdxV S (wN d) d d d bc d (lb d) fun a S=>leafL ⟨d,S⟩
   ·refine fJ [(86,_)] 55 [some 54] fun G a w S=>?_
    exact sLoadVN (vq:=bi) 9 [.bool a5.Back,.slice au a5.Cells.length av] S (wN d) d d d d d d (lb d) fun a S=>leafL ⟨d,S⟩
   ·refine fJ [(79,_),(83,_),(87,_)] 56 [some 47,some 51,some 55] fun G a w S=>?_
    have S1:=S.mem
    refine sCallVQ (X:=Unit) (g:=53) (vs:=[.agg #[.bool a0.Back,.slice aq a0.Cells.length ar],.agg #[.bool a5.Back,.slice au a5.Cells.length av]]) (caps:=[]) (val:=fun _=>iv ak) S (wN d) d d callee53 d (S1.quiet [14,10] d) (fun E1 w1 S1=>c_compare_Charts_2 E1 w1 a0 (.agg #[.bool a0.Back,.slice aq a0.Cells.length ar]) a5 (.agg #[.bool a5.Back,.slice au a5.Cells.length av]) ak aR S1) d (lb d) fun _ a w S=>?_
    exact leafL ⟨d,S⟩
   ·refine fJ [(78,_),(88,_)] 8 [some 7,some 56] fun G a w S=>?_
    exact sBin _ S (wN d) d d d (bAdd _ _ _ _ aj ak) d (lb d) fun a S=>leafL ⟨d,S⟩
   ·refine fJ [(54,_),(69,_),(89,_)] 3 [some 2,some 40,some 8] fun G a w S=>?_
    exact sMin3 (p:=w64 (ah + ai)) (q:=w64 (af + ag)) (r:=w64 (aj + ak)) S (wN d) d d d d d (lb d) fun a S=>leafL ⟨d,S⟩
   ·refine fJ [(38,_),(39,_)] 4 [some 13,some 14] fun G a w S=>?_
    exact sIdxV S (wN d) d d d d9 d (lb d) fun a S=>leafL ⟨d,S⟩
   refine ⟨_,[(90,iv (min3 (w64 (ah + ai)) (w64 (af + ag)) (w64 (aj + ak)))),(91,cD)],d,(srcs_of [some 3,some 4] d d d),fun G a w S=>?_⟩
   refine sStoreR (r:=(rI .i64)) (T:=3) (xs:=ab) (ys:=bE) (y:=(min3 (w64 (ah + ai)) (w64 (af + ag)) (w64 (aj + ak)))) (v:=.slice a6 ab.length a7) (vq:=cD) (u:=iv (min3 (w64 (ah + ai)) (w64 (af + ag)) (w64 (aj + ak)))) (j:=aa) 1 S da (wN d) d d d d d bl d d fun a w S=>leafL ⟨d,_,_,.inr ⟨[],d,S,hz_of d,?_⟩⟩
   refine node_by (A:=anc_compare_table_api_Row__s0_2) 58 (by kernel_rfl) (by kernel_rfl) (by kernel_rfl) (by kernel_rfl) (by kernel_rfl) [11,12,19,55,56,9,42,43,54,39,0,1,2,3,4,5,6,7,8,10,13,14,15,16,17,18,20,21,22,23,24,25,26,27,28,29,30,31,32,33,34,35,36,37,38,40,41,44,45,46,47,48,49,50,51,52,53] (by kernel_rfl) (by decide) (by decide) (fD 57 (fD 57 (fD 57 (fD 57 (fD 57 (fD 57 (fD 57 (fD 57 (fD 57 (fY (fD 57 (fD 57 (fD 57 (fD 57 (fD 57 (fD 57 (fD 57 (fD 57 (fD 57 (fD 57 (fD 57 (fD 57 (fD 57 (fD 57 (fD 57 (fD 57 (fD 57 (fD 57 (fD 57 (fD 57 (fD 57 (fD 57 (fD 57 (fD 57 (fD 57 (fD 57 (fD 57 (fD 57 (fD 57 (fY (fD 57 (fD 57 (fD 57 (fD 57 (fD 57 (fD 57 (fD 57 (fD 57 (fD 57 (fD 57 (fD 57 (fD 57 (fD 57 (fD 57 (fD 57 (fD 57 (fD 57 (fY (trivial))))))))))))))))))))))))))))))))))))))))))))))))))))))))))) [(0,.slice aI p0.length aJ),(1,.slice aG p1.length aH),(2,.func (.func 52) #[] #[]),(3,.func (.func 53) #[] #[]),(9,.slice ac a8.length ae),(10,iv a9),(11,iv aa)] (fin_of [none,none,none,none,none,none,none] d (by kernel_rfl) (by kernel_rfl)) (fun _ a w S=>?_)
   rw [setO_v bl a6 a7] at S
   exact leafB (leafB (leafT (⟨bE,Option.some.inj h,S.fix [1,0] [24,25] (by decide) d d d⟩)))
  ·exact fM 13 none d d d d (.inl d) d d d
  ·exact fM 14 none d d d d (.inl d) d d d
  ·exact fM 15 none d d d d (.inl d) d d d
  ·exact fM 16 none d d d d (.inl d) d d d
  ·refine fJ [(49,_),(50,_)] 17 [some 15,some 16] fun G a w S=>?_
   exact sIdxV S (wN d) d d d aU d (lb d) fun a S=>leafL ⟨d,S⟩
  ·refine fJ [(51,_)] 18 [some 17] fun G a w S=>?_
   exact sLoadVN (vq:=bf) 17 [.bool a0.Back,.slice al a0.Cells.length am] S (wN d) d d d d d d (lb d) fun a S=>leafL ⟨d,S⟩
  ·refine fJ [(48,_),(52,_)] 19 [some 14,some 18] fun G a w S=>?_
   have S1:=S.mem
   refine sCallVQ (X:=Unit) (g:=52) (vs:=[.agg #[.bool a0.Back,.slice al a0.Cells.length am]]) (caps:=[]) (val:=fun _=>iv ai) S (wN d) d d callee52 d (S1.quiet [18] d) (fun E1 w1 S1=>c_compare_Charts_1 E1 w1 a0 (.agg #[.bool a0.Back,.slice al a0.Cells.length am]) ai aP S1) d (lb d) fun _ a w S=>?_
   exact leafL ⟨d,S⟩
  ·exact fM 20 none d d d d (.inl d) d d d
  ·exact fM 21 none d d d d (.inl d) d d d
  ·refine fJ [(55,_),(56,_)] 22 [some 20,some 21] fun G a w S=>?_
   exact sIdxV S (wN d) d d d aV d (lb d) fun a S=>leafL ⟨d,S⟩
  ·refine fJ [(57,_)] 23 [some 22] fun G a w S=>?_
   exact sLoadHE (r:=(rL (rI .i64))) (T:=101) (xs:=a8) (u:=.slice a6 ab.length a7) (v:=.slice ac a8.length ae) (vq:=br) (j:=a9) 0 S aW (wN d) d d d d d (lb d) fun a S=>leafL ⟨d,S⟩
  ·exact fM 24 none d d d d (.inl d) d d d
  ·refine fJ [(59,_)] 25 [some 24] fun G a w S=>?_
   exact sBin _ S (wN d) d d d (bAdd _ _ _ _ aa 1) d (lb d) fun a S=>leafL ⟨d,S⟩
  ·refine fJ [(58,_),(60,_)] 26 [some 23,some 25] fun G a w S=>?_
   exact sIdxV S (wN d) d d d aX d (lb d) fun a S=>leafL ⟨d,S⟩
  ·refine fJ [(61,_)] 27 [some 26] fun G a w S=>?_
   exact sLoadR (r:=(rI .i64)) (T:=3) (xs:=ab) (x:=af) (v:=.slice a6 ab.length a7) (vq:=bu) (j:=w64 (aa + 1)) 1 (iv af) S aZ (wN d) d d d aM (fun _ _ _ h=>h) (scal_I _) d d (lb d) fun a S=>leafL ⟨d,S⟩
  ·exact fM 28 none d d d d (.inl d) d d d
  ·exact fM 29 none d d d d (.inl d) d d d
  ·exact fM 30 none d d d d (.inl d) d d d
  ·refine fJ [(64,_),(65,_)] 31 [some 29,some 30] fun G a w S=>?_
   exact sIdxV S (wN d) d d d ba d (lb d) fun a S=>leafL ⟨d,S⟩
  ·refine fJ [(66,_)] 32 [some 31] fun G a w S=>?_
   exact sLoadVN (vq:=bg) 13 [.bool a5.Back,.slice ao a5.Cells.length ap] S (wN d) d d d d d d (lb d) fun a S=>leafL ⟨d,S⟩
  ·refine fJ [(63,_),(67,_)] 33 [some 28,some 32] fun G a w S=>?_
   have S1:=S.mem
   refine sCallVQ (X:=Unit) (g:=52) (vs:=[.agg #[.bool a5.Back,.slice ao a5.Cells.length ap]]) (caps:=[]) (val:=fun _=>iv ag) S (wN d) d d callee52 d (S1.quiet [14] d) (fun E1 w1 S1=>c_compare_Charts_1 E1 w1 a5 (.agg #[.bool a5.Back,.slice ao a5.Cells.length ap]) ag aQ S1) d (lb d) fun _ a w S=>?_
   exact leafL ⟨d,S⟩
  ·refine fJ [(62,_),(68,_)] 34 [some 27,some 33] fun G a w S=>?_
   exact sBin _ S (wN d) d d d (bAdd _ _ _ _ af ag) d (lb d) fun a S=>leafL ⟨d,S⟩
  ·exact fM 39 none d d d d (.inl d) d d d
  ·refine fJ [(75,_)] 40 [some 39] fun G a w S=>?_
   exact sBin _ S (wN d) d d d (bAdd _ _ _ _ aa 1) d (lb d) fun a S=>leafL ⟨d,S⟩
  ·refine fJ [(74,_),(76,_)] 0 [some 3,some 40] fun G a w S=>?_
   exact sIdxV S (wN d) d d d cn d (lb d) fun a S=>leafL ⟨d,S⟩
  ·refine fJ [(77,_)] 1 [some 0] fun G a w S=>?_
   exact sLoadV1 (vq:=bH) 0 (iv aj) S (wN d) d d d d d (lb d) fun a S=>leafL ⟨d,S⟩
  ·exact fM 41 none d d d d (.inl d) d d d
  ·exact fM 42 none d d d d (.inl d) d d d
  ·exact fM 43 none d d d d (.inl d) d d d
  ·refine fJ [(80,_),(81,_)] 44 [some 42,some 43] fun G a w S=>?_
   exact sIdxV S (wN d) d d d bb d (lb d) fun a S=>leafL ⟨d,S⟩
  ·refine fJ [(82,_)] 45 [some 44] fun G a w S=>?_
   exact sLoadVN (vq:=bh) 9 [.bool a0.Back,.slice aq a0.Cells.length ar] S (wN d) d d d d d d (lb d) fun a S=>leafL ⟨d,S⟩
  ·exact fM 46 none d d d d (.inl d) d d d
  ·exact fM 47 none d d d d (.inl d) d d d
  ·refine fJ [(84,_),(85,_)] 48 [some 46,some 47] fun G a w S=>?_
   exact sIdxV S (wN d) d d d bc d (lb d) fun a S=>leafL ⟨d,S⟩
  ·refine fJ [(86,_)] 49 [some 48] fun G a w S=>?_
   exact sLoadVN (vq:=bi) 5 [.bool a5.Back,.slice au a5.Cells.length av] S (wN d) d d d d d d (lb d) fun a S=>leafL ⟨d,S⟩
  ·refine fJ [(79,_),(83,_),(87,_)] 50 [some 41,some 45,some 49] fun G a w S=>?_
   have S1:=S.mem
   refine sCallVQ (X:=Unit) (g:=53) (vs:=[.agg #[.bool a0.Back,.slice aq a0.Cells.length ar],.agg #[.bool a5.Back,.slice au a5.Cells.length av]]) (caps:=[]) (val:=fun _=>iv ak) S (wN d) d d callee53 d (S1.quiet [10,6] d) (fun E1 w1 S1=>c_compare_Charts_2 E1 w1 a0 (.agg #[.bool a0.Back,.slice aq a0.Cells.length ar]) a5 (.agg #[.bool a5.Back,.slice au a5.Cells.length av]) ak aR S1) d (lb d) fun _ a w S=>?_
   exact leafL ⟨d,S⟩
  refine fJ [(78,_),(88,_)] 2 [some 1,some 50] fun G a w S=>?_
  exact sBin _ S (wN d) d d d (bAdd _ _ _ _ aj ak) d (lb d) fun a S=>leafL ⟨d,S⟩
 ·exact fM 35 none d d d d (.inl d) d d d
 ·refine fJ [(75,_)] 36 [some 35] fun G a w S=>?_
  exact sBin _ S (wN d) d d d (bAdd _ _ _ _ aa 1) d (lb d) fun a S=>leafL ⟨d,S⟩
 ·exact fM 37 none d d d d (.inl d) d d d
 ·exact fM 38 none d d d d (.inl d) d d d
 ·exact fM 39 none d d d d (.inl d) d d d
 ·refine fJ [(80,_),(81,_)] 40 [some 38,some 39] fun G a w S=>?_
  exact sIdxV S (wN d) d d d bb d (lb d) fun a S=>leafL ⟨d,S⟩
 ·refine fJ [(82,_)] 41 [some 40] fun G a w S=>?_
  exact sLoadVN (vq:=bh) 5 [.bool a0.Back,.slice aq a0.Cells.length ar] S (wN d) d d d d d d (lb d) fun a S=>leafL ⟨d,S⟩
 ·exact fM 42 none d d d d (.inl d) d d d
 ·exact fM 43 none d d d d (.inl d) d d d
 ·refine fJ [(84,_),(85,_)] 44 [some 42,some 43] fun G a w S=>?_
  exact sIdxV S (wN d) d d d bc d (lb d) fun a S=>leafL ⟨d,S⟩
 ·refine fJ [(86,_)] 45 [some 44] fun G a w S=>?_
  exact sLoadVN (vq:=bi) 1 [.bool a5.Back,.slice au a5.Cells.length av] S (wN d) d d d d d d (lb d) fun a S=>leafL ⟨d,S⟩
 refine fJ [(79,_),(83,_),(87,_)] 46 [some 37,some 41,some 45] fun G a w S=>?_
 have S1:=S.mem
 refine sCallVQ (X:=Unit) (g:=53) (vs:=[.agg #[.bool a0.Back,.slice aq a0.Cells.length ar],.agg #[.bool a5.Back,.slice au a5.Cells.length av]]) (caps:=[]) (val:=fun _=>iv ak) S (wN d) d d callee53 d (S1.quiet [6,2] d) (fun E1 w1 S1=>c_compare_Charts_2 E1 w1 a0 (.agg #[.bool a0.Back,.slice aq a0.Cells.length ar]) a5 (.agg #[.bool a5.Back,.slice au a5.Cells.length av]) ak aR S1) d (lb d) fun _ a w S=>?_
 exact leafL ⟨d,S⟩
noncomputable def F_compare_Charts (p0:api_Chart) (p1:api_Chart):Option (Int × Int):=
 (F_chart_Check p0).bind fun a0=>
 if a0 != 0 then
  some (0,a0)
 else
  (F_chart_Check p1).bind fun a5=>
  if a5 != 0 then
   some (0,a5)
  else
   (F_compare_table_api_Row__s0 p0.Rows p1.Rows).bind fun a7=>
   (idxO a7 0).bind fun a8=>
   (idxO a8 0).bind fun a6=>
   Option.bind (α:=Int) (
    if p0.Start != p1.Start then
     some (w64 (a6 + 1))
    else
     some a6) fun a9=>
   some (a9,0)
theorem c_compare_Charts (E:Nat→Prop) (w0:World) (p0:api_Chart) (v0:Value) (p1:api_Chart) (v1:Value) (r:(Int × Int)) (h:F_compare_Charts p0 p1=some r) (S:St0 E [] w0 w0 [] [fRep r_api_Chart (v0) p0,fRep r_api_Chart (v1) p1]) :
 Calls Try.prog 20 #[v0,v1] w0 (Ret (X:=Unit) E [] w0 (fun _=>.tuple #[.int .i64 r.1,.int .i64 r.2]) (fun _=>[]) (fun _=>[])):=by
 unfold F_compare_Charts at h
 obtain ⟨u1,rfl,aP⟩:=S.know (i:=0) (e:=fRep r_api_Chart (v0) p0) d
 have S:=S.learn (fRep (rL r_api_Row) u1 p0.Rows) aP
 obtain ⟨a0,a5,_,rfl,_⟩:=aP
 obtain ⟨u5,rfl,aQ⟩:=S.know (i:=2) (e:=fRep r_api_Chart (v1) p1) d
 have S:=S.learn (fRep (rL r_api_Row) u5 p1.Rows) aQ
 obtain ⟨a6,a7,_,rfl,_⟩:=aQ
 refine sEnter (args:=[.agg #[iv p0.Start,.slice a0 p0.Rows.length a5],.agg #[iv p1.Start,.slice a6 p1.Rows.length a7]]) 38 Try.func20 d d (by simp) S (fun a S=>?_)
 refine sSeq (fun K9 aU=>sRegion (sBox (v:=.agg #[iv p0.Start,.slice a0 p0.Rows.length a5]) S (wN d) d d [iv p0.Start,.slice a0 p0.Rows.length a5] d d (lb d) fun a ak w S=>sBox (v:=.agg #[iv p1.Start,.slice a6 p1.Rows.length a7]) S (wN d) d d [iv p1.Start,.slice a6 p1.Rows.length a7] d d (lb d) fun a al w S=>sN S fun a S=>?_))
 refine sN S fun a S=>?_
 refine lT (aU _ _ (sSeq (fun ba am=>sSeq (fun bb ao=>sRegion (sLoadN (p:=ak) (off:=0) (T:=42) (vs:=[iv p0.Start,.slice a0 p0.Rows.length a5]) 1 [iv p0.Start,.slice a0 p0.Rows.length a5] S (wN d) d d d d d d d (lb d) fun a S=>?_)))))
 obtain ⟨ae,ap,h⟩:=bS h
 have S1:=S.mem
 refine sCq [.agg #[iv p0.Start,.slice a0 p0.Rows.length a5]] (iv ae) S callee50 (S1.quiet [2] d) (fun E1 w1 S1=>c_chart_Check E1 w1 p0 (.agg #[iv p0.Start,.slice a0 p0.Rows.length a5]) ae ap S1) fun a w S=>?_
 refine sN S fun a S=>?_
 refine lT (ao _ _ (sSeq (fun bc aq=>sRegion (sM S fun a S=>?_))))
 refine sBin _ S (wN d) d d d (bNe _ _ _ _ .i64 ae 0) d (lb d) fun a S=>lT (aq _ _ ?_)
 rcases iS h with ⟨a8,h⟩ | ⟨a8,h⟩
 ·refine sCondT S d a8 (sSeq (fun bf ar=>sRegion (sM S fun a S=>?_)))
  refine sN S fun a S=>?_
  refine sN S fun a S=>?_
  refine lT (ar _ _ ?_)
  obtain rfl:=tS h
  exact wp_ret (rThen (sRet (.tuple #[iv 0,iv ae]) S (rsl2 d (rvT (t:=4) (v:=iv 0) S d) (rvT (t:=5) (v:=iv ae) S d)) ⟨(),d,S.mem.sel [] [] (by decide) d d⟩))
 refine sCondF S d a8 (wp_skip (leafT (am _ _ ?_)))
 refine sSeq (fun bg au=>sSeq (fun bh av=>sRegion (sLoadN (p:=al) (off:=0) (T:=42) (vs:=[iv p1.Start,.slice a6 p1.Rows.length a7]) 0 [iv p1.Start,.slice a6 p1.Rows.length a7] S (wN d) d d d d d d d (lb d) fun a S=>?_)))
 obtain ⟨af,aw,h⟩:=bS h
 have S1:=S.mem
 refine sCq [.agg #[iv p1.Start,.slice a6 p1.Rows.length a7]] (iv af) S callee50 (S1.quiet [3] d) (fun E1 w1 S1=>c_chart_Check E1 w1 p1 (.agg #[iv p1.Start,.slice a6 p1.Rows.length a7]) af aw S1) fun a w S=>?_
 refine sN S fun a S=>?_
 refine lT (av _ _ (sSeq (fun bi ax=>sRegion (sM S fun a S=>?_))))
 refine sBin _ S (wN d) d d d (bNe _ _ _ _ .i64 af 0) d (lb d) fun a S=>lT (ax _ _ ?_)
 rcases iS h with ⟨a9,h⟩ | ⟨a9,h⟩
 ·refine sCondT S d a9 (sSeq (fun bj ay=>sRegion (sM S fun a S=>?_)))
  refine sN S fun a S=>?_
  refine sN S fun a S=>?_
  refine lT (ay _ _ ?_)
  obtain rfl:=tS h
  exact wp_ret (rThen (sRet (.tuple #[iv 0,iv af]) S (rsl2 d (rvT (t:=4) (v:=iv 0) S d) (rvT (t:=5) (v:=iv af) S d)) ⟨(),d,S.mem.sel [] [] (by decide) d d⟩))
 refine sCondF S d a9 (wp_skip (leafT (au _ _ ?_)))
 refine sSeq (fun bk az=>sRegion (sField (b:=ak) (off:=0) 1 1 S (wN d) d d d d d (lb d) fun a S=>sLoad1 1 (.slice a0 p0.Rows.length a5) S (wN d) d d d d d d (lb d) fun a S=>sField (b:=al) (off:=0) 1 1 S (wN d) d d d d d (lb d) fun a S=>sLoad1 0 (.slice a6 p1.Rows.length a7) S (wN d) d d d d d d (lb d) fun a S=>?_))
 obtain ⟨ac,aA,h⟩:=bS h
 refine sCall (X:=Value) (f:=51) (vs:=[.slice a0 p0.Rows.length a5,.slice a6 p1.Rows.length a7,.func (.func 52) #[] #[],.func (.func 53) #[] #[]]) (val:=c_compare_table_api_Row__s0_val ac) (B':=fun _=>[]) (D':=c_compare_table_api_Row__s0_D ac) [] [eBox al 42 [iv p1.Start,.slice a6 p1.Rows.length a7],eBox ak 42 [iv p0.Start,.slice a0 p0.Rows.length a5]] [fRep (rL r_api_Row) (.slice a0 p0.Rows.length a5) p0.Rows,fRep (rL r_api_Row) (.slice a6 p1.Rows.length a7) p1.Rows] [0,1] [1,0] S (wN d) d callee51 d (by decide) d d (fun E1 w1 S1=>c_compare_table_api_Row__s0 E1 w1 p0.Rows (.slice a0 p0.Rows.length a5) p1.Rows (.slice a6 p1.Rows.length a7) ac aA S1) d (lb d) fun aV a w S=>?_
 obtain ⟨aC,aG,_,rfl,_⟩:=S.mem.know (i:=0) (e:=fRep (rL (rL (rI .i64))) (aV) ac) d
 refine sN S fun a S=>?_
 refine lT (az _ _ (sSeq (fun bl aH=>sRegion (sM S fun a S=>?_))))
 obtain ⟨ag,aI,h⟩:=bS h
 obtain ⟨aR,aJ,S⟩:=pIdx (P:=Try.prog) (r:=(rL (rI .i64))) (v:=.slice aC ac.length aG) (xs:=ac) (j:=0) 98 101 0 S Try.underlying98 d d aI
 refine sIdxV S (wN d) d d d aJ d (lb d) fun a S=>?_
 obtain ⟨aW,S⟩:=pLoad (r:=(rL (rI .i64))) (q:=aR) (x:=ag) 0 S d
 obtain ⟨ah,ai,_,rfl,_⟩:=S.mem.know (i:=1) (e:=fRep (rL (rI .i64)) (aW) ag) d
 refine sLoadV1 (vq:=aR) 0 (.slice ah ag.length ai) S (wN d) d d d d d (lb d) fun a S=>?_
 obtain ⟨aa,aK,h⟩:=bS h
 obtain ⟨aS,aL,S⟩:=pIdx (P:=Try.prog) (r:=(rI .i64)) (v:=.slice ah ag.length ai) (xs:=ag) (j:=0) 101 3 1 S Try.underlying101 d d aK
 refine sIdxV S (wN d) d d d aL d (lb d) fun a S=>?_
 obtain ⟨aT,S⟩:=pLoad (r:=(rI .i64)) (q:=aS) (x:=aa) 0 S d
 obtain rfl:aT=iv aa:=S.mem.know (i:=1) (e:=fRep (rI .i64) (aT) aa) d
 refine sLoadV1 (vq:=aS) 0 (iv aa) S (wN d) d d d d d (lb d) fun a S=>sN S fun a S=>?_
 refine lT (aH _ _ ?_)
 obtain ⟨aX,h,aZ⟩:=bS h
 refine sCut (fun a w=>∃ aj,aj=aX∧St [] E [] w0 38 a w [(9,iv aj)] [] []) ?_ (fun a w hI=>?_)
 rotate_left
 ·obtain ⟨aj,rfl,S⟩:=hI
  have h:=aZ
  try dsimp only at h
  refine sSeq (fun bm aM=>sRegion (sM S fun a S=>?_))
  refine sN S fun a S=>?_
  refine sN S fun a S=>?_
  refine lT (aM _ _ ?_)
  obtain rfl:=tS h
  exact wp_ret (sRet (.tuple #[iv aj,iv 0]) S (rsl2 d (rvT (t:=4) (v:=iv aj) S d) (rvT (t:=5) (v:=iv 0) S d)) ⟨(),d,S.mem.sel [] [] (by decide) d d⟩)
 refine sSeq (fun bo aO=>sRegion (sField (b:=ak) (off:=0) 0 0 S (wN d) d d d d d (lb d) fun a S=>sLoad1 1 (iv p0.Start) S (wN d) d d d d d d (lb d) fun a S=>sField (b:=al) (off:=0) 0 0 S (wN d) d d d d d (lb d) fun a S=>sLoad1 0 (iv p1.Start) S (wN d) d d d d d d (lb d) fun a S=>sBin _ S (wN d) d d d (bNe _ _ _ _ .i64 p0.Start p1.Start) d (lb d) fun a S=>lT (aO _ _ ?_)))
 rcases iS h with ⟨ab,h⟩ | ⟨ab,h⟩
 rotate_left
 ·refine sCondF S d ab ?_
  exact wp_skip (leafT (⟨aa,Option.some.inj h,S.fix [] [] (by decide) d d d⟩))
 refine sCondT S d ab (sRegion (sM S fun a S=>?_))
 refine sBin _ S (wN d) d d d (bAdd _ _ _ _ aa 1) d (lb d) fun a S=>sN S fun a S=>?_
 exact lT (⟨w64 (aa + 1),Option.some.inj h,S.fix [] [] (by decide) d d d⟩)
end Go.Proofs.Ytffikfajljbmnaa
