/- ReduceSearches: walks, tables, laws. -/
import Derived.Test.YtapohhkdpkapoaaProg
import Derived.Test.YtapohhkdpkapoaaRows
import Derived.Test.YtapohhkdpkapoaaMReduceSearches2
set_option linter.unusedVariables false
set_option linter.unusedSimpArgs false
set_option maxHeartbeats 4000000
set_option maxRecDepth 100000
namespace Go.Proofs.Ytapohhkdpkapoaa
open Go.RowKit
def anc_reduce_search_from_s5_0:List (List Nat):=[[],[0],[0,1],[0,1,2],[0,1,2,3],[],[5],[5,6],[5,6,7],[5,6,7,8],[0,1,2,3,4,5,6,7,8,9]]
def anc_reduce_search_from_s5_1:List (List Nat):=[[],[0],[0,1],[0,1,2],[],[4],[4,5],[4,5,6],[0,1,2,3,4,5,6,7],[0,1,2,3,4,5,6,7,8],[0,1,2,3,4,5,6,7,8,9],[0,1,2,3,4,5,6,7,8,9],[0,1,2,3,4,5,6,7,8,9],[],[0,1,2,3,4,5,6,7,8,9,10,13],[0,1,2,3,4,5,6,7,8,9,10,11,13,14],[0,1,2,3,4,5,6,7,8,9,10,11,12,13,14,15]]
def anc_reduce_search_from_s5_2:List (List Nat):=[[],[],[1],[1,2],[1,2,3],[],[5],[5,6],[5,6,7],[5,6,7,8],[5,6,7,8,9],[1,2,3,4,5,6,7,8,9,10],[0,1,2,3,4,5,6,7,8,9,10,11],[0,1,2,3,4,5,6,7,8,9,10,11,12],[0,1,2,3,4,5,6,7,8,9,10,11,12,13]]
noncomputable def reduce_search_from_s5_l1 (p0:reduce_search) (p1:Int):(Int × Int × Int × Int × List Int × List Int × Int)→Option ((Int × Int × Int × Int × List Int × List Int × Int) ⊕ (Int × Int × Int × List Int × List Int × Int)):=fun s0=>match s0 with
 | (a2,a3,a4,a5,a6,a7,a8)=>
  if decide (a2 < (if p0.k < (w64 (p1 + 1)) then p0.k else w64 (p1 + 1))) then
   (appO a6 ([a2]:List Int)).bind fun a9=>
   (F_reduce_search_from_s6 (reduce_search.mk (api_Grid.mk a3 a4 p0.g.Bits) a5 a9 a7 a8) (if p1 < (w64 (a2 + 1)) then w64 (a2 + 1) else p1)).bind fun a0=>
   (sliceO a0.l 0 (w64 ((a0.l.length:Int) - 1))).bind fun aa=>
   some (.inl (w64 (a2 + 1),a0.g.W,a0.g.H,a0.k,aa,a0.best,a0.least))
  else
   some (.inr (a3,a4,a5,a6,a7,a8))
noncomputable def F_reduce_search_from_s5 (p0:reduce_search) (p1:Int):Option reduce_search:=
 if (p0.l.length:Int) == p0.g.W then
  Option.bind (α:=(List Int × List Int × Int)) (
   Option.bind (α:=(Int × List Int)) (
    (F_reduce_Change_s1 p0.g p0.l).bind fun a2=>
    some (a2.2.1,a2.2.2.2)) fun (a3,a4)=>
   Option.bind (α:=Bool) (
    if p0.best.isEmpty then
     some true
    else
     some (decide (a3 < p0.least))) fun a5=>
   if a5 then
    (F_slices_Clone___int_int__s1 a4).bind fun a0=>
    (neO a0.1).bind fun af=>
    some (a0.2,a0.1,a3)
   else
    some (a4,p0.best,p0.least)) fun (o8,a6,a7)=>
  some (reduce_search.mk p0.g p0.k o8 a6 a7)
 else
  (whileO (reduce_search_from_s5_l1 p0 p1) (0,p0.g.W,p0.g.H,p0.k,p0.l,p0.best,p0.least)).bind fun (a8,a9,aa,ab,ac,ae)=>
   some (reduce_search.mk (api_Grid.mk a8 a9 p0.g.Bits) aa ab ac ae)
theorem c_reduce_search_from_s5 (E:Nat→Prop) (w0:World) (p0:reduce_search) (bb0:Nat) (u_0_0:Value) (ad_0_1:Option Addr) (cp_0_1:Nat) (u_0_2:Value) (p1:Int) (r:reduce_search) (h:F_reduce_search_from_s5 p0 p1=some r) (S:St0 E (keysL [eBox bb0 68 [iv p0.g.W,iv p0.g.H,u_0_0,iv p0.k,.slice ad_0_1 p0.l.length cp_0_1,u_0_2,iv p0.least],eRow (rI .i64) 3 (.slice ad_0_1 p0.l.length cp_0_1) p0.l]) w0 w0 [eBox bb0 68 [iv p0.g.W,iv p0.g.H,u_0_0,iv p0.k,.slice ad_0_1 p0.l.length cp_0_1,u_0_2,iv p0.least],eRow (rI .i64) 3 (.slice ad_0_1 p0.l.length cp_0_1) p0.l] [fRep (rL rB) (u_0_0) p0.g.Bits,fRep (rLz (rI .i64)) (u_0_2) p0.best]) :
 Calls Try.prog 41 #[.pointer (some ⟨bb0,0,none⟩),iv p1] w0 (Ret (X:=Option Addr × Nat × Value) E (keysL [eBox bb0 68 [iv p0.g.W,iv p0.g.H,u_0_0,iv p0.k,.slice ad_0_1 p0.l.length cp_0_1,u_0_2,iv p0.least],eRow (rI .i64) 3 (.slice ad_0_1 p0.l.length cp_0_1) p0.l]) w0 (fun _=>.tuple #[]) (fun x=>[eBox bb0 68 [iv r.g.W,iv r.g.H,u_0_0,iv r.k,.slice x.1 r.l.length x.2.1,x.2.2,iv r.least],eRow (rI .i64) 3 (.slice x.1 r.l.length x.2.1) r.l]) (fun x=>[fRep (rLz (rI .i64)) x.2.2 r.best])):=by
 unfold F_reduce_search_from_s5 at h
 obtain ⟨a2,a3,_,rfl,_⟩:=S.know (i:=0) (e:=fRep (rL rB) (u_0_0) p0.g.Bits) d
 obtain ⟨⟨ak,al,_,rfl,_⟩,_⟩:=S.know (i:=1) (e:=fRep (rLz (rI .i64)) (u_0_2) p0.best) d
 generalize (keysL [eBox bb0 68 [iv p0.g.W,iv p0.g.H,.slice a2 p0.g.Bits.length a3,iv p0.k,.slice ad_0_1 p0.l.length cp_0_1,.slice ak p0.best.length al,iv p0.least],eRow (rI .i64) 3 (.slice ad_0_1 p0.l.length cp_0_1) p0.l])=M9 at S ⊢
 refine sEnter (args:=[.pointer (some ⟨bb0,0,none⟩),iv p1]) 98 Try.func41 d d (by simp) S (fun a S=>?_)
 refine sSeq (fun K5 bn=>sSeq (fun K6 bo=>sDraw (nf:=[]) (W:=[(0,8,.pointer (some ⟨bb0,0,none⟩)),(1,9,.pointer (some ⟨bb0,0,none⟩)),(2,10,.pointer (some ⟨bb0,4,none⟩)),(3,11,.slice ad_0_1 p0.l.length cp_0_1),(4,12,iv (p0.l.length:Int)),(5,13,.pointer (some ⟨bb0,0,none⟩)),(6,14,.pointer (some ⟨bb0,0,none⟩)),(7,15,.pointer (some ⟨bb0,0,none⟩)),(8,16,.pointer (some ⟨bb0,0,none⟩)),(9,17,iv p0.g.W),(10,18,.bool ((p0.l.length:Int) == p0.g.W))]) d S ?_))
 refine node_by (A:=anc_reduce_search_from_s5_0) 11 (by kernel_rfl) (by kernel_rfl) (by kernel_rfl) (by kernel_rfl) (by kernel_rfl) [0,1,2,3,4,5,6,7,8,9,10] (by kernel_rfl) (by decide) (by decide) (fF ?_ (fF ?_ (fF ?_ (fF ?_ (fF ?_ (fF ?_ (fF ?_ (fF ?_ (fF ?_ (fF ?_ (fF ?_ (trivial)))))))))))) [(0,.pointer (some ⟨bb0,0,none⟩)),(1,iv p1),(18,.bool ((p0.l.length:Int) == p0.g.W))] (fin_of [none,none,some 10] d (by kernel_rfl) (by kernel_rfl)) (fun _ a w S=>?_)
 ·exact fM 0 none d d d d (.inl d) d d d
 ·refine fJ [(8,_)] 1 [some 0] fun G a w S=>?_
  exact nilCheck_ok (q:=⟨bb0,0,none⟩) S (wN d) d d d (lb d) fun a S=>leafL ⟨d,S⟩
 ·refine fJ [(9,_)] 2 [some 1] fun G a w S=>?_
  exact sField (b:=bb0) (off:=0) 4 4 S (wN d) d d d d d (lb d) fun a S=>leafL ⟨d,S⟩
 ·refine fJ [(10,_)] 3 [some 2] fun G a w S=>?_
  exact sLoad1 0 (.slice ad_0_1 p0.l.length cp_0_1) S (wN d) d d d d d d (lb d) fun a S=>leafL ⟨d,S⟩
 ·refine fJ [(11,_)] 4 [some 3] fun G a w S=>?_
  exact sLen S (wN d) d Try.underlying25 d d (lb d) fun a S=>leafL ⟨d,S⟩
 ·exact fM 5 none d d d d (.inl d) d d d
 ·refine fJ [(13,_)] 6 [some 5] fun G a w S=>?_
  exact nilCheck_ok (q:=⟨bb0,0,none⟩) S (wN d) d d d (lb d) fun a S=>leafL ⟨d,S⟩
 ·refine fJ [(14,_)] 7 [some 6] fun G a w S=>?_
  exact sField (b:=bb0) (off:=0) 0 0 S (wN d) d d d d d (lb d) fun a S=>leafL ⟨d,S⟩
 ·refine fJ [(15,_)] 8 [some 7] fun G a w S=>?_
  exact sField (b:=bb0) (off:=0) 0 0 S (wN d) d d d d d (lb d) fun a S=>leafL ⟨d,S⟩
 ·refine fJ [(16,_)] 9 [some 8] fun G a w S=>?_
  exact sLoad1 0 (iv p0.g.W) S (wN d) d d d d d d (lb d) fun a S=>leafL ⟨d,S⟩
 ·refine fJ [(12,_),(17,_)] 10 [some 4,some 9] fun G a w S=>?_
  exact sBin _ S (wN d) d d d (bEq _ _ _ _ .i64 (p0.l.length:Int) p0.g.W) d (lb d) fun a S=>leafL ⟨d,S⟩
 refine leafT (bo _ _ ?_)
 rcases iS h with ⟨aW,h⟩ | ⟨aW,h⟩
 rotate_left
 ·refine sCondF S d aW (wp_skip (leafT (bn _ _ ?_)))
  refine sSeq (fun bz aX=>sRegion (sM S fun a S=>?_))
  refine sBin _ S (wN d) d d d (bAdd _ _ _ _ p1 1) d (lb d) fun a S=>sM S fun a S=>?_
  refine nilCheck_ok (q:=⟨bb0,0,none⟩) S (wN d) d d d (lb d) fun a S=>sField (b:=bb0) (off:=0) 3 3 S (wN d) d d d d d (lb d) fun a S=>sLoad1 0 (iv p0.k) S (wN d) d d d d d d (lb d) fun a S=>sMin2 (p:=w64 (p1 + 1)) (q:=p0.k) S (wN d) d d d d (lb d) fun a S=>sM S fun a S=>?_
  refine lT (aX _ _ (wp_block ?_))
  obtain ⟨bA,hl,bp⟩:=bS h
  refine sLoop hl (fun s0 a w=>match s0 with | (af,aJ,aK,aL,aA,ar,aM)=>∃ am,∃ ao,∃ ah,∃ ai,St [] E M9 w0 98 a w [(0,.pointer (some ⟨bb0,0,none⟩)),(1,iv p1),(63,iv (if p0.k < (w64 (p1 + 1)) then p0.k else w64 (p1 + 1))),(64,iv af)] [eBox bb0 68 [iv aJ,iv aK,.slice a2 p0.g.Bits.length a3,iv aL,.slice am aA.length ao,.slice ah ar.length ai,iv aM],eRow (rI .i64) 3 (.slice am aA.length ao) aA] [fRep (rL rB) (.slice a2 p0.g.Bits.length a3) p0.g.Bits,fRep (rLz (rI .i64)) (.slice ah ar.length ai) ar]) ⟨ad_0_1,cp_0_1,ak,al,S.fix [0,1] [0,1] (by decide) d d d⟩ ?_
  clear hl h
  intro s0 a w c0 hI h aZ
  obtain ⟨af,aJ,aK,aL,aA,ar,aM⟩:=s0
  unfold reduce_search_from_s5_l1 at h
  dsimp only at h hI
  obtain ⟨am,ao,ah,ai,S⟩:=hI
  refine sSeq (fun bB b1=>sRegion (sBin _ S (wN d) d d d (bLt _ _ _ _ .i64 af (if p0.k < (w64 (p1 + 1)) then p0.k else w64 (p1 + 1))) d (lb d) fun a S=>lT (b1 _ _ (sSeq (fun bC b3=>?_)))))
  rcases iS h with ⟨aC,h⟩ | ⟨aC,h⟩
  rotate_left
  ·refine sCondF S d aC ?_
   obtain rfl:=tS h
   obtain rfl:=aZ _ d
   have h:=bp
   try dsimp only at h
   obtain rfl:=tS h
   exact wp_exit (xThen (xThen (xHit (sEnd (.tuple #[]) S (rsl0 d ) ⟨(am,ao,(.slice ah ar.length ai)),d,S.mem.sel [0,1] [1] (by decide) d d⟩))))
  refine sCondT S d aC (wp_skip (leafT (b3 _ _ ?_)))
  refine sSeq (fun bD b4=>wp_block ?_)
  refine sSeq (fun bE b5=>sRegion (sM S fun a S=>?_))
  refine sN S fun a S=>?_
  refine lT (b5 _ _ (sSeq (fun bG b8=>sRegion (sM S fun a S=>?_))))
  refine sM S fun a S=>?_
  refine nilCheck_ok (q:=⟨bb0,0,none⟩) S (wN d) d d d (lb d) fun a S=>sField (b:=bb0) (off:=0) 4 4 S (wN d) d d d d d (lb d) fun a S=>sLoad1 0 (.slice am aA.length ao) S (wN d) d d d d d d (lb d) fun a S=>sM S fun a S=>?_
  refine sLit (r:=(rI .i64)) (T:=3) (xs:=([af]:List Int)) [(0,iv af)] 1 [iv af] [iv af] (iv 0) 8 S (wN d) d d Try.underlying25 d (by decide) (by decide) (by kernel_rfl) d (fun E1 w1 hE=>All.cons d (All.nil _ _ _)) d d (lb d) fun a w aO aP S=>?_
  obtain ⟨aH,b9,h⟩:=bS h
  refine sApp (r:=(rI .i64)) (T:=3) (xs:=aA) (ys:=([af]:List Int)) (v:=.slice am aA.length ao) (u:=.slice aO ([af]:List Int).length aP) 2 (iv 0) 8 S (wN d) d Try.underlying25 d d (by decide) d d d (src_R (T:=3) 0 S.mem d) b9 d (lb d) fun a w au av S=>nilCheck_ok (q:=⟨bb0,0,none⟩) S (wN d) d d d (lb d) fun a S=>sField (b:=bb0) (off:=0) 4 4 S (wN d) d d d d d (lb d) fun a S=>sStore (p:=bb0) (off:=4) (T:=68) (vs:=[iv aJ,iv aK,.slice a2 p0.g.Bits.length a3,iv aL,.slice am aA.length ao,.slice ah ar.length ai,iv aM]) (v:=.slice au aH.length av) 2 [.slice au aH.length av] S (wN d) d d d d d d d (by simp) d fun a w S=>lT (b8 _ _ (sSeq (fun bH ba=>sRegion (sM S fun a S=>?_))))
  refine sM S fun a S=>?_
  refine sM S fun a S=>?_
  refine sBin _ S (wN d) d d d (bAdd _ _ _ _ af 1) d (lb d) fun a S=>sMax2 (p:=p1) (q:=w64 (af + 1)) S (wN d) d d d d (lb d) fun a S=>?_
  obtain ⟨a4,bb,h⟩:=bS h
  refine sCall (X:=Option Addr × Nat × Value) (f:=41) (vs:=[.pointer (some ⟨bb0,0,none⟩),iv (if p1 < (w64 (af + 1)) then w64 (af + 1) else p1)]) (val:=fun _=>.tuple #[]) (B':=fun x=>[eBox bb0 68 [iv a4.g.W,iv a4.g.H,.slice a2 p0.g.Bits.length a3,iv a4.k,.slice x.1 a4.l.length x.2.1,x.2.2,iv a4.least],eRow (rI .i64) 3 (.slice x.1 a4.l.length x.2.1) a4.l]) (D':=fun x=>[fRep (rLz (rI .i64)) x.2.2 a4.best]) [eBox bb0 68 [iv aJ,iv aK,.slice a2 p0.g.Bits.length a3,iv aL,.slice au aH.length av,.slice ah ar.length ai,iv aM],eRow (rI .i64) 3 (.slice au aH.length av) aH] [eRow (rI .i64) 3 (.slice aO ([af]:List Int).length aP) ([af]:List Int)] [fRep (rL rB) (.slice a2 p0.g.Bits.length a3) p0.g.Bits,fRep (rLz (rI .i64)) (.slice ah ar.length ai) ar] [0,1,2] [0,1] S (wN d) d callee41 d (by decide) d d (fun E1 w1 S1=>c_reduce_search_from_s6 E1 w1 (reduce_search.mk (api_Grid.mk aJ aK p0.g.Bits) aL aH ar aM) bb0 (.slice a2 p0.g.Bits.length a3) au av (.slice ah ar.length ai) (if p1 < (w64 (af + 1)) then w64 (af + 1) else p1) a4 bb S1) d (lb d) fun xx a w S=>?_
  obtain ⟨a9,aa,bq⟩:=xx
  dsimp only at S
  obtain ⟨⟨aQ,aR,_,rfl,_⟩,_⟩:=S.mem.know (i:=0) (e:=fRep (rLz (rI .i64)) (bq) a4.best) d
  refine lT (ba _ _ ?_)
  obtain ⟨aS,bc,h⟩:=bS h
  refine sDraw (nf:=[11,14]) (W:=[(0,83,.pointer (some ⟨bb0,0,none⟩)),(1,84,.pointer (some ⟨bb0,0,none⟩)),(2,85,.pointer (some ⟨bb0,0,none⟩)),(3,86,.pointer (some ⟨bb0,4,none⟩)),(4,87,.slice a9 a4.l.length aa),(5,88,.pointer (some ⟨bb0,0,none⟩)),(6,89,.pointer (some ⟨bb0,0,none⟩)),(7,90,.pointer (some ⟨bb0,4,none⟩)),(8,91,.slice a9 a4.l.length aa),(9,92,iv (a4.l.length:Int)),(10,93,iv (w64 ((a4.l.length:Int) - 1)))]) d S ?_
  refine node_by (A:=anc_reduce_search_from_s5_2) 15 (by kernel_rfl) (by kernel_rfl) (by kernel_rfl) (by kernel_rfl) (by kernel_rfl) [0,1,2,3,4,5,6,7,8,9,10] (by kernel_rfl) (by decide) (by decide) (fF ?_ (fF ?_ (fF ?_ (fF ?_ (fF ?_ (fF ?_ (fF ?_ (fF ?_ (fF ?_ (fF ?_ (fF ?_ (fN ?_ (fE 11 (fE 11 (aB 14 0 11 (by decide) (trivial)))))))))))))))) [] (fun q hq=>by cases hq) (fun hY=>absurd (hY 11 (by decide)) (by decide))
  ·exact fM 0 none d d d d (.inl d) d d d
  ·exact fM 1 none d d d d (.inl d) d d d
  ·refine fJ [(84,_)] 2 [some 1] fun G a w S=>?_
   exact nilCheck_ok (q:=⟨bb0,0,none⟩) S (wN d) d d d (lb d) fun a S=>leafL ⟨d,S⟩
  ·refine fJ [(85,_)] 3 [some 2] fun G a w S=>?_
   exact sField (b:=bb0) (off:=0) 4 4 S (wN d) d d d d d (lb d) fun a S=>leafL ⟨d,S⟩
  ·refine fJ [(86,_)] 4 [some 3] fun G a w S=>?_
   exact sLoad1 0 (.slice a9 a4.l.length aa) S (wN d) d d d d d d (lb d) fun a S=>leafL ⟨d,S⟩
  ·exact fM 5 none d d d d (.inl d) d d d
  ·refine fJ [(88,_)] 6 [some 5] fun G a w S=>?_
   exact nilCheck_ok (q:=⟨bb0,0,none⟩) S (wN d) d d d (lb d) fun a S=>leafL ⟨d,S⟩
  ·refine fJ [(89,_)] 7 [some 6] fun G a w S=>?_
   exact sField (b:=bb0) (off:=0) 4 4 S (wN d) d d d d d (lb d) fun a S=>leafL ⟨d,S⟩
  ·refine fJ [(90,_)] 8 [some 7] fun G a w S=>?_
   exact sLoad1 0 (.slice a9 a4.l.length aa) S (wN d) d d d d d d (lb d) fun a S=>leafL ⟨d,S⟩
  ·refine fJ [(91,_)] 9 [some 8] fun G a w S=>?_
   exact sLen S (wN d) d Try.underlying25 d d (lb d) fun a S=>leafL ⟨d,S⟩
  ·refine fJ [(92,_)] 10 [some 9] fun G a w S=>?_
   exact sBin _ S (wN d) d d d (bSub _ _ _ _ (a4.l.length:Int) 1) d (lb d) fun a S=>leafL ⟨d,S⟩
  refine ⟨_,[(87,.slice a9 a4.l.length aa),(93,iv (w64 ((a4.l.length:Int) - 1)))],d,(srcs_of [some 4,some 10] d d d),fun G a w S=>?_⟩
  refine sSliceT (r:=(rI .i64)) (T:=3) (ad:=a9) (c:=aa) (xs:=a4.l) (vlo:=none) (vhi:=(some (.int .i64 (w64 ((a4.l.length:Int) - 1))))) (hi':=w64 ((a4.l.length:Int) - 1)) 1 S (wN d) d Try.underlying25 d d d d d (.inr d) (.inl d) bc d (lb d) fun a S=>?_
  refine leafL ⟨d,_,_,.inl ⟨94,(.slice a9 aS.length aa),[(12,95,.pointer (some ⟨bb0,0,none⟩)),(13,96,.pointer (some ⟨bb0,4,none⟩))],d,S,hz_of d,?_⟩⟩
  refine node_by (A:=anc_reduce_search_from_s5_2) 15 (by kernel_rfl) (by kernel_rfl) (by kernel_rfl) (by kernel_rfl) (by kernel_rfl) [12,13,11,0,1,2,3,4,5,6,7,8,9,10] (by kernel_rfl) (by decide) (by decide) (fF ?_ (fD 11 (fD 11 (fD 11 (fD 11 (fD 11 (fD 11 (fD 11 (fD 11 (fD 11 (fD 11 (fY (fF ?_ (fF ?_ (fN ?_ (trivial)))))))))))))))) [] (fun q hq=>by cases hq) (fun hY=>absurd (hY 14 (by decide)) (by decide))
  ·exact fM 3 none d d d d (.inl d) d d d
  ·refine fJ [(83,_)] 0 [some 3] fun G a w S=>?_
   exact nilCheck_ok (q:=⟨bb0,0,none⟩) S (wN d) d d d (lb d) fun a S=>leafL ⟨d,S⟩
  ·refine fJ [(95,_)] 1 [some 0] fun G a w S=>?_
   exact sField (b:=bb0) (off:=0) 4 4 S (wN d) d d d d d (lb d) fun a S=>leafL ⟨d,S⟩
  refine ⟨_,[(94,.slice a9 aS.length aa),(96,.pointer (some ⟨bb0,4,none⟩))],d,(srcs_of [some 2,some 1] d d d),fun G a w S=>?_⟩
  refine sStore (p:=bb0) (off:=4) (T:=68) (vs:=[iv a4.g.W,iv a4.g.H,.slice a2 p0.g.Bits.length a3,iv a4.k,.slice a9 a4.l.length aa,.slice aQ a4.best.length aR,iv a4.least]) (v:=.slice a9 aS.length aa) 1 [.slice a9 aS.length aa] S (wN d) d d d d d d d (by simp) d fun a w S=>leafL ⟨d,_,_,.inr ⟨[],d,S,hz_of d,?_⟩⟩
  refine node_by (A:=anc_reduce_search_from_s5_2) 15 (by kernel_rfl) (by kernel_rfl) (by kernel_rfl) (by kernel_rfl) (by kernel_rfl) [12,13,11,0,1,2,3,4,5,6,7,8,9,10] (by kernel_rfl) (by decide) (by decide) (fD 14 (fD 14 (fD 14 (fD 14 (fD 14 (fD 14 (fD 14 (fD 14 (fD 14 (fD 14 (fD 14 (fY (fD 14 (fD 14 (fY (trivial)))))))))))))))) [(0,.pointer (some ⟨bb0,0,none⟩)),(1,iv p1),(63,iv (if p0.k < (w64 (p1 + 1)) then p0.k else w64 (p1 + 1))),(64,iv af)] (fin_of [none,none,none,none] d (by kernel_rfl) (by kernel_rfl)) (fun _ a w S=>?_)
  refine leafB (leafT (b4 _ _ ?_))
  refine sRegion (sBin _ S (wN d) d d d (bAdd _ _ _ _ af 1) d (lb d) fun a S=>sM S fun a S=>?_)
  exact lT (⟨(w64 (af + 1),a4.g.W,a4.g.H,a4.k,aS,a4.best,a4.least),(Option.some.inj h).symm,⟨a9,aa,aQ,aR,S.fix [0,1] [1,0] (by decide) d d d⟩⟩)
 refine sCondT S d aW ?_
 obtain ⟨br,h,bt⟩:=bS h
 refine sCut (fun a w=>∃ o8,∃ aI,∃ bf,(o8,aI,bf)=br∧∃ aU,∃ ax,∃ ay,∃ az,St [] E M9 w0 98 a w [] [eBox bb0 68 [iv p0.g.W,iv p0.g.H,.slice a2 p0.g.Bits.length a3,iv p0.k,.slice aU o8.length ax,.slice ay aI.length az,iv bf],eRow (rI .i64) 3 (.slice aU o8.length ax) o8] [fRep (rL rB) (.slice a2 p0.g.Bits.length a3) p0.g.Bits,fRep (rLz (rI .i64)) (.slice ay aI.length az) aI]) ?_ (fun a w hI=>?_)
 rotate_left
 ·obtain ⟨o8,aI,bf,rfl,aU,ax,ay,az,S⟩:=hI
  have h:=bt
  try dsimp only at h
  obtain rfl:=tS h
  exact wp_ret (rThen (sRet (.tuple #[]) S (rsl0 d ) ⟨(aU,ax,(.slice ay aI.length az)),d,S.mem.sel [0,1] [1] (by decide) d d⟩))
 obtain ⟨bu,h,bv⟩:=bS h
 refine sCut (fun a w=>∃ aw,∃ aj,(aw,aj)=bu∧∃ a5,∃ a6,St [] E M9 w0 98 a w [(0,.pointer (some ⟨bb0,0,none⟩)),(5,iv aw)] [eBox bb0 68 [iv p0.g.W,iv p0.g.H,.slice a2 p0.g.Bits.length a3,iv p0.k,.slice a5 aj.length a6,.slice ak p0.best.length al,iv p0.least],eRow (rI .i64) 3 (.slice a5 aj.length a6) aj] [fRep (rL rB) (.slice a2 p0.g.Bits.length a3) p0.g.Bits,fRep (rLz (rI .i64)) (.slice ak p0.best.length al) p0.best]) ?_ (fun a w hI=>?_)
 rotate_left
 ·obtain ⟨aw,aj,rfl,a5,a6,S⟩:=hI
  have h:=bv
  try dsimp only at h
  obtain ⟨bw,h,bx⟩:=bS h
  refine sCut (fun a w=>∃ bg,bg=bw∧St [] E M9 w0 98 a w [(0,.pointer (some ⟨bb0,0,none⟩)),(5,iv aw),(44,.bool bg)] [eBox bb0 68 [iv p0.g.W,iv p0.g.H,.slice a2 p0.g.Bits.length a3,iv p0.k,.slice a5 aj.length a6,.slice ak p0.best.length al,iv p0.least],eRow (rI .i64) 3 (.slice a5 aj.length a6) aj] [fRep (rL rB) (.slice a2 p0.g.Bits.length a3) p0.g.Bits,fRep (rLz (rI .i64)) (.slice ak p0.best.length al) p0.best]) ?_ (fun a w hI=>?_)
  ·refine sRegion (sM S fun a S=>?_)
   refine nilCheck_ok (q:=⟨bb0,0,none⟩) S (wN d) d d d (lb d) fun a S=>sField (b:=bb0) (off:=0) 5 5 S (wN d) d d d d d (lb d) fun a S=>sLoad1 0 (.slice ak p0.best.length al) S (wN d) d d d d d d (lb d) fun a S=>sBin _ S (wN d) d d d (bEqNilZ _ _ _ _ Try.underlying25 ak (p0.best.length) (al) (rLz_is (S.mem.know (i:=1) (e:=fRep (rLz (rI .i64)) (.slice ak p0.best.length al) p0.best) d))) d (lb d) fun a S=>sM S fun a S=>?_
   rcases iS h with ⟨ae,h⟩ | ⟨ae,h⟩
   ·refine sSkN 6 5 false 37 S d d ae d fun a S=>sPickT (.bool true) S (wN d) d d ae d d (lb d) fun a S=>?_
    exact lT (⟨true,Option.some.inj h,S.fix [0,1] [0,1] (by decide) d d d⟩)
   refine sMove (iv aw) S (wG 5 false 37 d d d ae) (.inl d) d d (lb d) fun a S=>sMove (.pointer (some ⟨bb0,0,none⟩)) S (wG 5 false 37 d d d ae) (.inl d) d d (lb d) fun a S=>nilCheck_ok (q:=⟨bb0,0,none⟩) S (wG 5 false 37 d d d ae) d d d (lb d) fun a S=>sField (b:=bb0) (off:=0) 6 6 S (wG 5 false 37 d d d ae) d d d d d (lb d) fun a S=>sLoad1 0 (iv p0.least) S (wG 5 false 37 d d d ae) d d d d d d (lb d) fun a S=>sBin _ S (wG 5 false 37 d d d ae) d d d (bLt _ _ _ _ .i64 aw p0.least) d (lb d) fun a S=>sPickF (.bool (decide (aw < p0.least))) S (wN d) d d ae d d (lb d) fun a S=>?_
   exact lT (⟨decide (aw < p0.least),Option.some.inj h,S.fix [0,1] [0,1] (by decide) d d d⟩)
  obtain ⟨bg,rfl,S⟩:=hI
  have h:=bx
  try dsimp only at h
  rcases iS h with ⟨aG,h⟩ | ⟨aG,h⟩
  rotate_left
  ·refine sCondF S d aG ?_
   exact wp_skip (leafT (⟨aj,p0.best,p0.least,Option.some.inj h,a5,a6,ak,al,S.fix [0,1] [0,1] (by decide) d d d⟩))
  refine sCondT S d aG (sRegion (sM S fun a S=>?_))
  refine sM S fun a S=>?_
  refine sM S fun a S=>?_
  refine nilCheck_ok (q:=⟨bb0,0,none⟩) S (wN d) d d d (lb d) fun a S=>sField (b:=bb0) (off:=0) 4 4 S (wN d) d d d d d (lb d) fun a S=>sLoad1 0 (.slice a5 aj.length a6) S (wN d) d d d d d d (lb d) fun a S=>?_
  obtain ⟨ag,bh,h⟩:=bS h
  refine sCall (X:=Option Addr × Nat) (f:=49) (vs:=[.slice a5 aj.length a6]) (val:=fun x=>.slice x.1 ag.1.length x.2) (B':=fun x=>[eRow (rI .i64) 3 (.slice x.1 ag.1.length x.2) ag.1,eRow (rI .i64) 3 (.slice a5 aj.length a6) ag.2]) (D':=fun _=>[]) [eRow (rI .i64) 3 (.slice a5 aj.length a6) aj] [eBox bb0 68 [iv p0.g.W,iv p0.g.H,.slice a2 p0.g.Bits.length a3,iv p0.k,.slice a5 aj.length a6,.slice ak p0.best.length al,iv p0.least]] [] [1,0] [] S (wN d) d callee49 d (by decide) d d (fun E1 w1 S1=>c_slices_Clone___int_int__s1 E1 w1 aj a5 a6 ag bh S1) d (lb d) fun xx a w S=>?_
  obtain ⟨ap,aq⟩:=xx
  dsimp only at S
  have bi:=row_v (S.mem.hold (i:=1) (e:=eRow (rI .i64) 3 (.slice a5 aj.length a6) ag.2) d)
  rw [bi] at S
  refine sM S fun a S=>?_
  refine nilCheck_ok (q:=⟨bb0,0,none⟩) S (wN d) d d d (lb d) fun a S=>sField (b:=bb0) (off:=0) 5 5 S (wN d) d d d d d (lb d) fun a S=>?_
  have S:=S.shutR (r:=(rI .i64)) (T:=3) (v:=.slice ap ag.1.length aq) (xs:=ag.1) 0 d
  obtain ⟨bI,bj,h⟩:=bS h
  have S:=S.learn (fRep (rLz (rI .i64)) (.slice ap ag.1.length aq) ag.1) (rLz_of (S.mem.know (i:=0) (e:=fRep (rL (rI .i64)) (.slice ap ag.1.length aq) ag.1) d) bj)
  refine sStore (p:=bb0) (off:=5) (T:=68) (vs:=[iv p0.g.W,iv p0.g.H,.slice a2 p0.g.Bits.length a3,iv p0.k,.slice a5 ag.2.length a6,.slice ak p0.best.length al,iv p0.least]) (v:=.slice ap ag.1.length aq) 1 [.slice ap ag.1.length aq] S (wN d) d d d d d d d (by simp) d fun a w S=>nilCheck_ok (q:=⟨bb0,0,none⟩) S (wN d) d d d (lb d) fun a S=>sField (b:=bb0) (off:=0) 6 6 S (wN d) d d d d d (lb d) fun a S=>sStore (p:=bb0) (off:=6) (T:=68) (vs:=[iv p0.g.W,iv p0.g.H,.slice a2 p0.g.Bits.length a3,iv p0.k,.slice a5 ag.2.length a6,.slice ap ag.1.length aq,iv p0.least]) (v:=iv aw) 0 [iv aw] S (wN d) d d d d d d d (by simp) d fun a w S=>?_
  exact lT (⟨ag.2,ag.1,aw,Option.some.inj h,a5,a6,ap,aq,S.fix [0,1] [2,0] (by decide) d d d⟩)
 obtain ⟨a0,aT,h⟩:=bS h
 refine sDraw (nf:=[8,13,14]) (W:=[(0,20,.pointer (some ⟨bb0,0,none⟩)),(1,21,.pointer (some ⟨bb0,0,none⟩)),(2,22,.pointer (some ⟨bb0,0,none⟩)),(3,23,.agg #[iv p0.g.W,iv p0.g.H,.slice a2 p0.g.Bits.length a3]),(4,24,.pointer (some ⟨bb0,0,none⟩)),(5,25,.pointer (some ⟨bb0,0,none⟩)),(6,26,.pointer (some ⟨bb0,4,none⟩)),(7,27,.slice ad_0_1 p0.l.length cp_0_1)]) d S ?_
 refine node_by (A:=anc_reduce_search_from_s5_1) 17 (by kernel_rfl) (by kernel_rfl) (by kernel_rfl) (by kernel_rfl) (by kernel_rfl) [0,1,2,3,4,5,6,7] (by kernel_rfl) (by decide) (by decide) (fF ?_ (fF ?_ (fF ?_ (fF ?_ (fF ?_ (fF ?_ (fF ?_ (fF ?_ (fN ?_ (fE 8 (fE 8 (fE 8 (fE 8 (fN ?_ (aB 14 2 8 (by decide) (fE 8 (fE 8 (trivial)))))))))))))))))) [] (fun q hq=>by cases hq) (fun hY=>absurd (hY 8 (by decide)) (by decide))
 ·exact fM 0 none d d d d (.inl d) d d d
 ·refine fJ [(20,_)] 1 [some 0] fun G a w S=>?_
  exact nilCheck_ok (q:=⟨bb0,0,none⟩) S (wN d) d d d (lb d) fun a S=>leafL ⟨d,S⟩
 ·refine fJ [(21,_)] 2 [some 1] fun G a w S=>?_
  exact sField (b:=bb0) (off:=0) 0 0 S (wN d) d d d d d (lb d) fun a S=>leafL ⟨d,S⟩
 ·refine fJ [(22,_)] 3 [some 2] fun G a w S=>?_
  exact sLoadN (p:=bb0) (off:=0) (T:=68) (vs:=[iv p0.g.W,iv p0.g.H,.slice a2 p0.g.Bits.length a3,iv p0.k,.slice ad_0_1 p0.l.length cp_0_1,.slice ak p0.best.length al,iv p0.least]) 0 [iv p0.g.W,iv p0.g.H,.slice a2 p0.g.Bits.length a3] S (wN d) d d d d d d d (lb d) fun a S=>leafL ⟨d,S⟩
 ·exact fM 4 none d d d d (.inl d) d d d
 ·refine fJ [(24,_)] 5 [some 4] fun G a w S=>?_
  exact nilCheck_ok (q:=⟨bb0,0,none⟩) S (wN d) d d d (lb d) fun a S=>leafL ⟨d,S⟩
 ·refine fJ [(25,_)] 6 [some 5] fun G a w S=>?_
  exact sField (b:=bb0) (off:=0) 4 4 S (wN d) d d d d d (lb d) fun a S=>leafL ⟨d,S⟩
 ·refine fJ [(26,_)] 7 [some 6] fun G a w S=>?_
  exact sLoad1 0 (.slice ad_0_1 p0.l.length cp_0_1) S (wN d) d d d d d d (lb d) fun a S=>leafL ⟨d,S⟩
 ·refine ⟨_,[(23,.agg #[iv p0.g.W,iv p0.g.H,.slice a2 p0.g.Bits.length a3]),(27,.slice ad_0_1 p0.l.length cp_0_1)],d,(srcs_of [some 3,some 7] d d d),fun G a w S=>?_⟩
  have S:=S.learn (fRep r_api_Grid (.agg #[iv p0.g.W,iv p0.g.H,.slice a2 p0.g.Bits.length a3]) p0.g) ⟨_,d,S.mem.know (i:=0) (e:=fRep (rL rB) (.slice a2 p0.g.Bits.length a3) p0.g.Bits) d⟩
  refine sCall (X:=Option Addr × Nat) (f:=12) (vs:=[.agg #[iv p0.g.W,iv p0.g.H,.slice a2 p0.g.Bits.length a3],.slice ad_0_1 p0.l.length cp_0_1]) (val:=fun x=>.tuple #[.agg #[iv a0.1.W,iv a0.1.H,.slice x.1 a0.1.Bits.length x.2],iv a0.2.1,iv a0.2.2.1]) (B':=fun x=>[eRow rB 4 (.slice x.1 a0.1.Bits.length x.2) a0.1.Bits,eRow (rI .i64) 3 (.slice ad_0_1 p0.l.length cp_0_1) a0.2.2.2]) (D':=fun _=>[]) [eRow (rI .i64) 3 (.slice ad_0_1 p0.l.length cp_0_1) p0.l] [eBox bb0 68 [iv p0.g.W,iv p0.g.H,.slice a2 p0.g.Bits.length a3,iv p0.k,.slice ad_0_1 p0.l.length cp_0_1,.slice ak p0.best.length al,iv p0.least]] [fRep r_api_Grid (.agg #[iv p0.g.W,iv p0.g.H,.slice a2 p0.g.Bits.length a3]) p0.g] [1,0] [0] S (wN d) d callee12 d (by decide) d d (fun E1 w1 S1=>c_reduce_Change_s1 E1 w1 p0.g (.agg #[iv p0.g.W,iv p0.g.H,.slice a2 p0.g.Bits.length a3]) p0.l ad_0_1 cp_0_1 a0 aT S1) d (lb d) fun xx a w S=>?_
  obtain ⟨a7,a8⟩:=xx
  dsimp only at S
  refine leafL ⟨d,_,_,.inl ⟨28,(.tuple #[.agg #[iv a0.1.W,iv a0.1.H,.slice a7 a0.1.Bits.length a8],iv a0.2.1,iv a0.2.2.1]),[(9,19,.tuple #[.agg #[iv a0.1.W,iv a0.1.H,.slice a7 a0.1.Bits.length a8],iv a0.2.1,iv a0.2.2.1]),(10,29,.agg #[iv a0.1.W,iv a0.1.H,.slice a7 a0.1.Bits.length a8]),(11,30,iv a0.2.1),(12,31,iv a0.2.2.1)],d,S,hz_of d,?_⟩⟩
  refine node_by (A:=anc_reduce_search_from_s5_1) 17 (by kernel_rfl) (by kernel_rfl) (by kernel_rfl) (by kernel_rfl) (by kernel_rfl) [9,10,11,12,8,0,1,2,3,4,5,6,7] (by kernel_rfl) (by decide) (by decide) (fD 8 (fD 8 (fD 8 (fD 8 (fD 8 (fD 8 (fD 8 (fD 8 (fY (fF ?_ (fF ?_ (fF ?_ (fF ?_ (fN ?_ (aB 14 2 13 (by decide) (fE 13 (fE 13 (trivial)))))))))))))))))) [] (fun q hq=>by cases hq) (fun hY=>absurd (hY 13 (by decide)) (by decide))
  ·exact fM 0 (some 4) d d d d (.inl d) d d d
  ·refine fJ [(19,_)] 1 [some 0] fun G a w S=>?_
   exact sExtract (vs:=[.agg #[iv a0.1.W,iv a0.1.H,.slice a7 a0.1.Bits.length a8],iv a0.2.1,iv a0.2.2.1]) (.agg #[iv a0.1.W,iv a0.1.H,.slice a7 a0.1.Bits.length a8]) S (wN d) d d d d (lb d) fun a S=>leafL ⟨d,S⟩
  ·refine fJ [(19,_)] 2 [some 0] fun G a w S=>?_
   exact sExtract (vs:=[.agg #[iv a0.1.W,iv a0.1.H,.slice a7 a0.1.Bits.length a8],iv a0.2.1,iv a0.2.2.1]) (iv a0.2.1) S (wN d) d d d d (lb d) fun a S=>leafL ⟨d,S⟩
  ·refine fJ [(19,_)] 3 [some 0] fun G a w S=>?_
   exact sExtract (vs:=[.agg #[iv a0.1.W,iv a0.1.H,.slice a7 a0.1.Bits.length a8],iv a0.2.1,iv a0.2.2.1]) (iv a0.2.2.1) S (wN d) d d d d (lb d) fun a S=>leafL ⟨d,S⟩
  refine ⟨_,[],d,(srcs_of [] d d d),fun G a w S=>?_⟩
  refine sAlloc (.agg #[iv 0,iv 0,.slice none 0 0]) S (wN d) d d [iv 0,iv 0,.slice none 0 0] d d (lb d) fun a bk w S=>leafL ⟨d,_,_,.inl ⟨4,(.pointer (some ⟨bk,0,none⟩)),[],d,S,hz_of d,?_⟩⟩
  refine node_by (A:=anc_reduce_search_from_s5_1) 17 (by kernel_rfl) (by kernel_rfl) (by kernel_rfl) (by kernel_rfl) (by kernel_rfl) [13,9,10,11,12,8,0,1,2,3,4,5,6,7] (by kernel_rfl) (by decide) (by decide) (fD 8 (fD 8 (fD 8 (fD 8 (fD 8 (fD 8 (fD 8 (fD 8 (fY (fF ?_ (fF ?_ (fF ?_ (fF ?_ (fY (fN ?_ (fE 14 (fE 14 (trivial)))))))))))))))))) [] (fun q hq=>by cases hq) (fun hY=>absurd (hY 14 (by decide)) (by decide))
  ·exact fM 1 (some 5) d d d d (.inl d) d d d
  ·refine fJ [(19,_)] 2 [some 1] fun G a w S=>?_
   exact sExtract (vs:=[.agg #[iv a0.1.W,iv a0.1.H,.slice a7 a0.1.Bits.length a8],iv a0.2.1,iv a0.2.2.1]) (.agg #[iv a0.1.W,iv a0.1.H,.slice a7 a0.1.Bits.length a8]) S (wN d) d d d d (lb d) fun a S=>leafL ⟨d,S⟩
  ·refine fJ [(19,_)] 3 [some 1] fun G a w S=>?_
   exact sExtract (vs:=[.agg #[iv a0.1.W,iv a0.1.H,.slice a7 a0.1.Bits.length a8],iv a0.2.1,iv a0.2.2.1]) (iv a0.2.1) S (wN d) d d d d (lb d) fun a S=>leafL ⟨d,S⟩
  ·refine fJ [(19,_)] 4 [some 1] fun G a w S=>?_
   exact sExtract (vs:=[.agg #[iv a0.1.W,iv a0.1.H,.slice a7 a0.1.Bits.length a8],iv a0.2.1,iv a0.2.2.1]) (iv a0.2.2.1) S (wN d) d d d d (lb d) fun a S=>leafL ⟨d,S⟩
  refine ⟨_,[(4,.pointer (some ⟨bk,0,none⟩)),(29,.agg #[iv a0.1.W,iv a0.1.H,.slice a7 a0.1.Bits.length a8])],d,(srcs_of [some 0,some 2] d d d),fun G a w S=>?_⟩
  refine sStore (p:=bk) (off:=0) (T:=24) (vs:=[iv 0,iv 0,.slice none 0 0]) (v:=.agg #[iv a0.1.W,iv a0.1.H,.slice a7 a0.1.Bits.length a8]) 0 [iv a0.1.W,iv a0.1.H,.slice a7 a0.1.Bits.length a8] S (wN d) d d d d d d d (by simp) d fun a w S=>leafL ⟨d,_,_,.inr ⟨[(15,5,iv a0.2.1),(16,6,iv a0.2.2.1)],d,S,hz_of d,?_⟩⟩
  refine node_by (A:=anc_reduce_search_from_s5_1) 17 (by kernel_rfl) (by kernel_rfl) (by kernel_rfl) (by kernel_rfl) (by kernel_rfl) [15,16,13,9,10,11,12,8,0,1,2,3,4,5,6,7] (by kernel_rfl) (by decide) (by decide) (fD 14 (fD 14 (fD 14 (fD 14 (fD 14 (fD 14 (fD 14 (fD 14 (fY (fD 14 (fD 14 (fF ?_ (fF ?_ (fY (fY (fF ?_ (fF ?_ (trivial)))))))))))))))))) [(0,.pointer (some ⟨bb0,0,none⟩)),(5,iv a0.2.1)] (fin_of [none,some 0] d (by kernel_rfl) (by kernel_rfl)) (fun _ a w S=>?_)
  ·refine fJ [(19,_)] 5 [some 3] fun G a w S=>?_
   exact sExtract (vs:=[.agg #[iv a0.1.W,iv a0.1.H,.slice a7 a0.1.Bits.length a8],iv a0.2.1,iv a0.2.2.1]) (iv a0.2.1) S (wN d) d d d d (lb d) fun a S=>leafL ⟨d,S⟩
  ·refine fJ [(19,_)] 6 [some 3] fun G a w S=>?_
   exact sExtract (vs:=[.agg #[iv a0.1.W,iv a0.1.H,.slice a7 a0.1.Bits.length a8],iv a0.2.1,iv a0.2.2.1]) (iv a0.2.2.1) S (wN d) d d d d (lb d) fun a S=>leafL ⟨d,S⟩
  ·exact fM 0 (some 5) d d d d (.inr d) d d d
  ·exact fM 1 (some 6) d d d d (.inr d) d d d
  have bl:=row_v (S.mem.hold (i:=2) (e:=eRow (rI .i64) 3 (.slice ad_0_1 p0.l.length cp_0_1) a0.2.2.2) d)
  rw [bl] at S
  exact leafT (⟨a0.2.1,a0.2.2.2,Option.some.inj h,ad_0_1,cp_0_1,S.fix [3,2] [1,2] (by decide) d d d⟩)
 refine ⟨_,[],d,(srcs_of [] d d d),fun G a w S=>?_⟩
 refine sAlloc (.agg #[iv 0,iv 0,.slice none 0 0]) S (wN d) d d [iv 0,iv 0,.slice none 0 0] d d (lb d) fun a aV w S=>leafL ⟨d,_,_,.inl ⟨4,(.pointer (some ⟨aV,0,none⟩)),[],d,S,hz_of d,?_⟩⟩
 refine node_by (A:=anc_reduce_search_from_s5_1) 17 (by kernel_rfl) (by kernel_rfl) (by kernel_rfl) (by kernel_rfl) (by kernel_rfl) [13,0,1,2,3,4,5,6,7] (by kernel_rfl) (by decide) (by decide) (fF ?_ (fF ?_ (fF ?_ (fF ?_ (fF ?_ (fF ?_ (fF ?_ (fF ?_ (fN ?_ (fE 8 (fE 8 (fE 8 (fE 8 (fY (aB 14 2 8 (by decide) (fE 8 (fE 8 (trivial)))))))))))))))))) [] (fun q hq=>by cases hq) (fun hY=>absurd (hY 8 (by decide)) (by decide))
 ·exact fM 1 none d d d d (.inl d) d d d
 ·refine fJ [(20,_)] 2 [some 1] fun G a w S=>?_
  exact nilCheck_ok (q:=⟨bb0,0,none⟩) S (wN d) d d d (lb d) fun a S=>leafL ⟨d,S⟩
 ·refine fJ [(21,_)] 3 [some 2] fun G a w S=>?_
  exact sField (b:=bb0) (off:=0) 0 0 S (wN d) d d d d d (lb d) fun a S=>leafL ⟨d,S⟩
 ·refine fJ [(22,_)] 4 [some 3] fun G a w S=>?_
  exact sLoadN (p:=bb0) (off:=0) (T:=68) (vs:=[iv p0.g.W,iv p0.g.H,.slice a2 p0.g.Bits.length a3,iv p0.k,.slice ad_0_1 p0.l.length cp_0_1,.slice ak p0.best.length al,iv p0.least]) 1 [iv p0.g.W,iv p0.g.H,.slice a2 p0.g.Bits.length a3] S (wN d) d d d d d d d (lb d) fun a S=>leafL ⟨d,S⟩
 ·exact fM 5 none d d d d (.inl d) d d d
 ·refine fJ [(24,_)] 6 [some 5] fun G a w S=>?_
  exact nilCheck_ok (q:=⟨bb0,0,none⟩) S (wN d) d d d (lb d) fun a S=>leafL ⟨d,S⟩
 ·refine fJ [(25,_)] 7 [some 6] fun G a w S=>?_
  exact sField (b:=bb0) (off:=0) 4 4 S (wN d) d d d d d (lb d) fun a S=>leafL ⟨d,S⟩
 ·refine fJ [(26,_)] 8 [some 7] fun G a w S=>?_
  exact sLoad1 1 (.slice ad_0_1 p0.l.length cp_0_1) S (wN d) d d d d d d (lb d) fun a S=>leafL ⟨d,S⟩
 refine ⟨_,[(23,.agg #[iv p0.g.W,iv p0.g.H,.slice a2 p0.g.Bits.length a3]),(27,.slice ad_0_1 p0.l.length cp_0_1)],d,(srcs_of [some 4,some 8] d d d),fun G a w S=>?_⟩
 have S:=S.learn (fRep r_api_Grid (.agg #[iv p0.g.W,iv p0.g.H,.slice a2 p0.g.Bits.length a3]) p0.g) ⟨_,d,S.mem.know (i:=0) (e:=fRep (rL rB) (.slice a2 p0.g.Bits.length a3) p0.g.Bits) d⟩
 refine sCall (X:=Option Addr × Nat) (f:=12) (vs:=[.agg #[iv p0.g.W,iv p0.g.H,.slice a2 p0.g.Bits.length a3],.slice ad_0_1 p0.l.length cp_0_1]) (val:=fun x=>.tuple #[.agg #[iv a0.1.W,iv a0.1.H,.slice x.1 a0.1.Bits.length x.2],iv a0.2.1,iv a0.2.2.1]) (B':=fun x=>[eRow rB 4 (.slice x.1 a0.1.Bits.length x.2) a0.1.Bits,eRow (rI .i64) 3 (.slice ad_0_1 p0.l.length cp_0_1) a0.2.2.2]) (D':=fun _=>[]) [eRow (rI .i64) 3 (.slice ad_0_1 p0.l.length cp_0_1) p0.l] [eBox aV 24 [iv 0,iv 0,.slice none 0 0],eBox bb0 68 [iv p0.g.W,iv p0.g.H,.slice a2 p0.g.Bits.length a3,iv p0.k,.slice ad_0_1 p0.l.length cp_0_1,.slice ak p0.best.length al,iv p0.least]] [fRep r_api_Grid (.agg #[iv p0.g.W,iv p0.g.H,.slice a2 p0.g.Bits.length a3]) p0.g] [2,0,1] [0] S (wN d) d callee12 d (by decide) d d (fun E1 w1 S1=>c_reduce_Change_s1 E1 w1 p0.g (.agg #[iv p0.g.W,iv p0.g.H,.slice a2 p0.g.Bits.length a3]) p0.l ad_0_1 cp_0_1 a0 aT S1) d (lb d) fun xx a w S=>?_
 obtain ⟨ab,ac⟩:=xx
 dsimp only at S
 refine leafL ⟨d,_,_,.inl ⟨28,(.tuple #[.agg #[iv a0.1.W,iv a0.1.H,.slice ab a0.1.Bits.length ac],iv a0.2.1,iv a0.2.2.1]),[(9,19,.tuple #[.agg #[iv a0.1.W,iv a0.1.H,.slice ab a0.1.Bits.length ac],iv a0.2.1,iv a0.2.2.1]),(10,29,.agg #[iv a0.1.W,iv a0.1.H,.slice ab a0.1.Bits.length ac]),(11,30,iv a0.2.1),(12,31,iv a0.2.2.1)],d,S,hz_of d,?_⟩⟩
 refine node_by (A:=anc_reduce_search_from_s5_1) 17 (by kernel_rfl) (by kernel_rfl) (by kernel_rfl) (by kernel_rfl) (by kernel_rfl) [9,10,11,12,8,13,0,1,2,3,4,5,6,7] (by kernel_rfl) (by decide) (by decide) (fD 8 (fD 8 (fD 8 (fD 8 (fD 8 (fD 8 (fD 8 (fD 8 (fY (fF ?_ (fF ?_ (fF ?_ (fF ?_ (fY (fN ?_ (fE 14 (fE 14 (trivial)))))))))))))))))) [] (fun q hq=>by cases hq) (fun hY=>absurd (hY 14 (by decide)) (by decide))
 ·exact fM 0 (some 4) d d d d (.inl d) d d d
 ·refine fJ [(19,_)] 1 [some 0] fun G a w S=>?_
  exact sExtract (vs:=[.agg #[iv a0.1.W,iv a0.1.H,.slice ab a0.1.Bits.length ac],iv a0.2.1,iv a0.2.2.1]) (.agg #[iv a0.1.W,iv a0.1.H,.slice ab a0.1.Bits.length ac]) S (wN d) d d d d (lb d) fun a S=>leafL ⟨d,S⟩
 ·refine fJ [(19,_)] 2 [some 0] fun G a w S=>?_
  exact sExtract (vs:=[.agg #[iv a0.1.W,iv a0.1.H,.slice ab a0.1.Bits.length ac],iv a0.2.1,iv a0.2.2.1]) (iv a0.2.1) S (wN d) d d d d (lb d) fun a S=>leafL ⟨d,S⟩
 ·refine fJ [(19,_)] 3 [some 0] fun G a w S=>?_
  exact sExtract (vs:=[.agg #[iv a0.1.W,iv a0.1.H,.slice ab a0.1.Bits.length ac],iv a0.2.1,iv a0.2.2.1]) (iv a0.2.2.1) S (wN d) d d d d (lb d) fun a S=>leafL ⟨d,S⟩
 refine ⟨_,[(4,.pointer (some ⟨aV,0,none⟩)),(29,.agg #[iv a0.1.W,iv a0.1.H,.slice ab a0.1.Bits.length ac])],d,(srcs_of [some 5,some 1] d d d),fun G a w S=>?_⟩
 refine sStore (p:=aV) (off:=0) (T:=24) (vs:=[iv 0,iv 0,.slice none 0 0]) (v:=.agg #[iv a0.1.W,iv a0.1.H,.slice ab a0.1.Bits.length ac]) 2 [iv a0.1.W,iv a0.1.H,.slice ab a0.1.Bits.length ac] S (wN d) d d d d d d d (by simp) d fun a w S=>leafL ⟨d,_,_,.inr ⟨[(15,5,iv a0.2.1),(16,6,iv a0.2.2.1)],d,S,hz_of d,?_⟩⟩
 refine node_by (A:=anc_reduce_search_from_s5_1) 17 (by kernel_rfl) (by kernel_rfl) (by kernel_rfl) (by kernel_rfl) (by kernel_rfl) [15,16,9,10,11,12,8,13,0,1,2,3,4,5,6,7] (by kernel_rfl) (by decide) (by decide) (fD 14 (fD 14 (fD 14 (fD 14 (fD 14 (fD 14 (fD 14 (fD 14 (fY (fD 14 (fD 14 (fF ?_ (fF ?_ (fY (fY (fF ?_ (fF ?_ (trivial)))))))))))))))))) [(0,.pointer (some ⟨bb0,0,none⟩)),(5,iv a0.2.1)] (fin_of [none,some 0] d (by kernel_rfl) (by kernel_rfl)) (fun _ a w S=>?_)
 ·refine fJ [(19,_)] 4 [some 2] fun G a w S=>?_
  exact sExtract (vs:=[.agg #[iv a0.1.W,iv a0.1.H,.slice ab a0.1.Bits.length ac],iv a0.2.1,iv a0.2.2.1]) (iv a0.2.1) S (wN d) d d d d (lb d) fun a S=>leafL ⟨d,S⟩
 ·refine fJ [(19,_)] 5 [some 2] fun G a w S=>?_
  exact sExtract (vs:=[.agg #[iv a0.1.W,iv a0.1.H,.slice ab a0.1.Bits.length ac],iv a0.2.1,iv a0.2.2.1]) (iv a0.2.2.1) S (wN d) d d d d (lb d) fun a S=>leafL ⟨d,S⟩
 ·exact fM 0 (some 4) d d d d (.inr d) d d d
 ·exact fM 1 (some 5) d d d d (.inr d) d d d
 have bm:=row_v (S.mem.hold (i:=2) (e:=eRow (rI .i64) 3 (.slice ad_0_1 p0.l.length cp_0_1) a0.2.2.2) d)
 rw [bm] at S
 exact leafT (⟨a0.2.1,a0.2.2.2,Option.some.inj h,ad_0_1,cp_0_1,S.fix [3,2] [1,2] (by decide) d d d⟩)
def anc_reduce_search_from_s4_0:List (List Nat):=[[],[0],[0,1],[0,1,2],[0,1,2,3],[],[5],[5,6],[5,6,7],[5,6,7,8],[0,1,2,3,4,5,6,7,8,9]]
def anc_reduce_search_from_s4_1:List (List Nat):=[[],[0],[0,1],[0,1,2],[],[4],[4,5],[4,5,6],[0,1,2,3,4,5,6,7],[0,1,2,3,4,5,6,7,8],[0,1,2,3,4,5,6,7,8,9],[0,1,2,3,4,5,6,7,8,9],[0,1,2,3,4,5,6,7,8,9],[],[0,1,2,3,4,5,6,7,8,9,10,13],[0,1,2,3,4,5,6,7,8,9,10,11,13,14],[0,1,2,3,4,5,6,7,8,9,10,11,12,13,14,15]]
def anc_reduce_search_from_s4_2:List (List Nat):=[[],[],[1],[1,2],[1,2,3],[],[5],[5,6],[5,6,7],[5,6,7,8],[5,6,7,8,9],[1,2,3,4,5,6,7,8,9,10],[0,1,2,3,4,5,6,7,8,9,10,11],[0,1,2,3,4,5,6,7,8,9,10,11,12],[0,1,2,3,4,5,6,7,8,9,10,11,12,13]]
noncomputable def reduce_search_from_s4_l1 (p0:reduce_search) (p1:Int):(Int × Int × Int × Int × List Int × List Int × Int)→Option ((Int × Int × Int × Int × List Int × List Int × Int) ⊕ (Int × Int × Int × List Int × List Int × Int)):=fun s0=>match s0 with
 | (a2,a3,a4,a5,a6,a7,a8)=>
  if decide (a2 < (if p0.k < (w64 (p1 + 1)) then p0.k else w64 (p1 + 1))) then
   (appO a6 ([a2]:List Int)).bind fun a9=>
   (F_reduce_search_from_s5 (reduce_search.mk (api_Grid.mk a3 a4 p0.g.Bits) a5 a9 a7 a8) (if p1 < (w64 (a2 + 1)) then w64 (a2 + 1) else p1)).bind fun a0=>
   (sliceO a0.l 0 (w64 ((a0.l.length:Int) - 1))).bind fun aa=>
   some (.inl (w64 (a2 + 1),a0.g.W,a0.g.H,a0.k,aa,a0.best,a0.least))
  else
   some (.inr (a3,a4,a5,a6,a7,a8))
noncomputable def F_reduce_search_from_s4 (p0:reduce_search) (p1:Int):Option reduce_search:=
 if (p0.l.length:Int) == p0.g.W then
  Option.bind (α:=(List Int × List Int × Int)) (
   Option.bind (α:=(Int × List Int)) (
    (F_reduce_Change_s1 p0.g p0.l).bind fun a2=>
    some (a2.2.1,a2.2.2.2)) fun (a3,a4)=>
   Option.bind (α:=Bool) (
    if p0.best.isEmpty then
     some true
    else
     some (decide (a3 < p0.least))) fun a5=>
   if a5 then
    (F_slices_Clone___int_int__s1 a4).bind fun a0=>
    (neO a0.1).bind fun af=>
    some (a0.2,a0.1,a3)
   else
    some (a4,p0.best,p0.least)) fun (o8,a6,a7)=>
  some (reduce_search.mk p0.g p0.k o8 a6 a7)
 else
  (whileO (reduce_search_from_s4_l1 p0 p1) (0,p0.g.W,p0.g.H,p0.k,p0.l,p0.best,p0.least)).bind fun (a8,a9,aa,ab,ac,ae)=>
   some (reduce_search.mk (api_Grid.mk a8 a9 p0.g.Bits) aa ab ac ae)
theorem c_reduce_search_from_s4 (E:Nat→Prop) (w0:World) (p0:reduce_search) (bb0:Nat) (u_0_0:Value) (ad_0_1:Option Addr) (cp_0_1:Nat) (u_0_2:Value) (p1:Int) (r:reduce_search) (h:F_reduce_search_from_s4 p0 p1=some r) (S:St0 E (keysL [eBox bb0 68 [iv p0.g.W,iv p0.g.H,u_0_0,iv p0.k,.slice ad_0_1 p0.l.length cp_0_1,u_0_2,iv p0.least],eRow (rI .i64) 3 (.slice ad_0_1 p0.l.length cp_0_1) p0.l]) w0 w0 [eBox bb0 68 [iv p0.g.W,iv p0.g.H,u_0_0,iv p0.k,.slice ad_0_1 p0.l.length cp_0_1,u_0_2,iv p0.least],eRow (rI .i64) 3 (.slice ad_0_1 p0.l.length cp_0_1) p0.l] [fRep (rL rB) (u_0_0) p0.g.Bits,fRep (rLz (rI .i64)) (u_0_2) p0.best]) :
 Calls Try.prog 41 #[.pointer (some ⟨bb0,0,none⟩),iv p1] w0 (Ret (X:=Option Addr × Nat × Value) E (keysL [eBox bb0 68 [iv p0.g.W,iv p0.g.H,u_0_0,iv p0.k,.slice ad_0_1 p0.l.length cp_0_1,u_0_2,iv p0.least],eRow (rI .i64) 3 (.slice ad_0_1 p0.l.length cp_0_1) p0.l]) w0 (fun _=>.tuple #[]) (fun x=>[eBox bb0 68 [iv r.g.W,iv r.g.H,u_0_0,iv r.k,.slice x.1 r.l.length x.2.1,x.2.2,iv r.least],eRow (rI .i64) 3 (.slice x.1 r.l.length x.2.1) r.l]) (fun x=>[fRep (rLz (rI .i64)) x.2.2 r.best])):=by
 unfold F_reduce_search_from_s4 at h
 obtain ⟨a2,a3,_,rfl,_⟩:=S.know (i:=0) (e:=fRep (rL rB) (u_0_0) p0.g.Bits) d
 obtain ⟨⟨ak,al,_,rfl,_⟩,_⟩:=S.know (i:=1) (e:=fRep (rLz (rI .i64)) (u_0_2) p0.best) d
 generalize (keysL [eBox bb0 68 [iv p0.g.W,iv p0.g.H,.slice a2 p0.g.Bits.length a3,iv p0.k,.slice ad_0_1 p0.l.length cp_0_1,.slice ak p0.best.length al,iv p0.least],eRow (rI .i64) 3 (.slice ad_0_1 p0.l.length cp_0_1) p0.l])=M9 at S ⊢
 refine sEnter (args:=[.pointer (some ⟨bb0,0,none⟩),iv p1]) 98 Try.func41 d d (by simp) S (fun a S=>?_)
 refine sSeq (fun K5 bn=>sSeq (fun K6 bo=>sDraw (nf:=[]) (W:=[(0,8,.pointer (some ⟨bb0,0,none⟩)),(1,9,.pointer (some ⟨bb0,0,none⟩)),(2,10,.pointer (some ⟨bb0,4,none⟩)),(3,11,.slice ad_0_1 p0.l.length cp_0_1),(4,12,iv (p0.l.length:Int)),(5,13,.pointer (some ⟨bb0,0,none⟩)),(6,14,.pointer (some ⟨bb0,0,none⟩)),(7,15,.pointer (some ⟨bb0,0,none⟩)),(8,16,.pointer (some ⟨bb0,0,none⟩)),(9,17,iv p0.g.W),(10,18,.bool ((p0.l.length:Int) == p0.g.W))]) d S ?_))
 refine node_by (A:=anc_reduce_search_from_s4_0) 11 (by kernel_rfl) (by kernel_rfl) (by kernel_rfl) (by kernel_rfl) (by kernel_rfl) [0,1,2,3,4,5,6,7,8,9,10] (by kernel_rfl) (by decide) (by decide) (fF ?_ (fF ?_ (fF ?_ (fF ?_ (fF ?_ (fF ?_ (fF ?_ (fF ?_ (fF ?_ (fF ?_ (fF ?_ (trivial)))))))))))) [(0,.pointer (some ⟨bb0,0,none⟩)),(1,iv p1),(18,.bool ((p0.l.length:Int) == p0.g.W))] (fin_of [none,none,some 10] d (by kernel_rfl) (by kernel_rfl)) (fun _ a w S=>?_)
 ·exact fM 0 none d d d d (.inl d) d d d
 ·refine fJ [(8,_)] 1 [some 0] fun G a w S=>?_
  exact nilCheck_ok (q:=⟨bb0,0,none⟩) S (wN d) d d d (lb d) fun a S=>leafL ⟨d,S⟩
 ·refine fJ [(9,_)] 2 [some 1] fun G a w S=>?_
  exact sField (b:=bb0) (off:=0) 4 4 S (wN d) d d d d d (lb d) fun a S=>leafL ⟨d,S⟩
 ·refine fJ [(10,_)] 3 [some 2] fun G a w S=>?_
  exact sLoad1 0 (.slice ad_0_1 p0.l.length cp_0_1) S (wN d) d d d d d d (lb d) fun a S=>leafL ⟨d,S⟩
 ·refine fJ [(11,_)] 4 [some 3] fun G a w S=>?_
  exact sLen S (wN d) d Try.underlying25 d d (lb d) fun a S=>leafL ⟨d,S⟩
 ·exact fM 5 none d d d d (.inl d) d d d
 ·refine fJ [(13,_)] 6 [some 5] fun G a w S=>?_
  exact nilCheck_ok (q:=⟨bb0,0,none⟩) S (wN d) d d d (lb d) fun a S=>leafL ⟨d,S⟩
 ·refine fJ [(14,_)] 7 [some 6] fun G a w S=>?_
  exact sField (b:=bb0) (off:=0) 0 0 S (wN d) d d d d d (lb d) fun a S=>leafL ⟨d,S⟩
 ·refine fJ [(15,_)] 8 [some 7] fun G a w S=>?_
  exact sField (b:=bb0) (off:=0) 0 0 S (wN d) d d d d d (lb d) fun a S=>leafL ⟨d,S⟩
 ·refine fJ [(16,_)] 9 [some 8] fun G a w S=>?_
  exact sLoad1 0 (iv p0.g.W) S (wN d) d d d d d d (lb d) fun a S=>leafL ⟨d,S⟩
 ·refine fJ [(12,_),(17,_)] 10 [some 4,some 9] fun G a w S=>?_
  exact sBin _ S (wN d) d d d (bEq _ _ _ _ .i64 (p0.l.length:Int) p0.g.W) d (lb d) fun a S=>leafL ⟨d,S⟩
 refine leafT (bo _ _ ?_)
 rcases iS h with ⟨aW,h⟩ | ⟨aW,h⟩
 rotate_left
 ·refine sCondF S d aW (wp_skip (leafT (bn _ _ ?_)))
  refine sSeq (fun bz aX=>sRegion (sM S fun a S=>?_))
  refine sBin _ S (wN d) d d d (bAdd _ _ _ _ p1 1) d (lb d) fun a S=>sM S fun a S=>?_
  refine nilCheck_ok (q:=⟨bb0,0,none⟩) S (wN d) d d d (lb d) fun a S=>sField (b:=bb0) (off:=0) 3 3 S (wN d) d d d d d (lb d) fun a S=>sLoad1 0 (iv p0.k) S (wN d) d d d d d d (lb d) fun a S=>sMin2 (p:=w64 (p1 + 1)) (q:=p0.k) S (wN d) d d d d (lb d) fun a S=>sM S fun a S=>?_
  refine lT (aX _ _ (wp_block ?_))
  obtain ⟨bA,hl,bp⟩:=bS h
  refine sLoop hl (fun s0 a w=>match s0 with | (af,aJ,aK,aL,aA,ar,aM)=>∃ am,∃ ao,∃ ah,∃ ai,St [] E M9 w0 98 a w [(0,.pointer (some ⟨bb0,0,none⟩)),(1,iv p1),(63,iv (if p0.k < (w64 (p1 + 1)) then p0.k else w64 (p1 + 1))),(64,iv af)] [eBox bb0 68 [iv aJ,iv aK,.slice a2 p0.g.Bits.length a3,iv aL,.slice am aA.length ao,.slice ah ar.length ai,iv aM],eRow (rI .i64) 3 (.slice am aA.length ao) aA] [fRep (rL rB) (.slice a2 p0.g.Bits.length a3) p0.g.Bits,fRep (rLz (rI .i64)) (.slice ah ar.length ai) ar]) ⟨ad_0_1,cp_0_1,ak,al,S.fix [0,1] [0,1] (by decide) d d d⟩ ?_
  clear hl h
  intro s0 a w c0 hI h aZ
  obtain ⟨af,aJ,aK,aL,aA,ar,aM⟩:=s0
  unfold reduce_search_from_s4_l1 at h
  dsimp only at h hI
  obtain ⟨am,ao,ah,ai,S⟩:=hI
  refine sSeq (fun bB b1=>sRegion (sBin _ S (wN d) d d d (bLt _ _ _ _ .i64 af (if p0.k < (w64 (p1 + 1)) then p0.k else w64 (p1 + 1))) d (lb d) fun a S=>lT (b1 _ _ (sSeq (fun bC b3=>?_)))))
  rcases iS h with ⟨aC,h⟩ | ⟨aC,h⟩
  rotate_left
  ·refine sCondF S d aC ?_
   obtain rfl:=tS h
   obtain rfl:=aZ _ d
   have h:=bp
   try dsimp only at h
   obtain rfl:=tS h
   exact wp_exit (xThen (xThen (xHit (sEnd (.tuple #[]) S (rsl0 d ) ⟨(am,ao,(.slice ah ar.length ai)),d,S.mem.sel [0,1] [1] (by decide) d d⟩))))
  refine sCondT S d aC (wp_skip (leafT (b3 _ _ ?_)))
  refine sSeq (fun bD b4=>wp_block ?_)
  refine sSeq (fun bE b5=>sRegion (sM S fun a S=>?_))
  refine sN S fun a S=>?_
  refine lT (b5 _ _ (sSeq (fun bG b8=>sRegion (sM S fun a S=>?_))))
  refine sM S fun a S=>?_
  refine nilCheck_ok (q:=⟨bb0,0,none⟩) S (wN d) d d d (lb d) fun a S=>sField (b:=bb0) (off:=0) 4 4 S (wN d) d d d d d (lb d) fun a S=>sLoad1 0 (.slice am aA.length ao) S (wN d) d d d d d d (lb d) fun a S=>sM S fun a S=>?_
  refine sLit (r:=(rI .i64)) (T:=3) (xs:=([af]:List Int)) [(0,iv af)] 1 [iv af] [iv af] (iv 0) 8 S (wN d) d d Try.underlying25 d (by decide) (by decide) (by kernel_rfl) d (fun E1 w1 hE=>All.cons d (All.nil _ _ _)) d d (lb d) fun a w aO aP S=>?_
  obtain ⟨aH,b9,h⟩:=bS h
  refine sApp (r:=(rI .i64)) (T:=3) (xs:=aA) (ys:=([af]:List Int)) (v:=.slice am aA.length ao) (u:=.slice aO ([af]:List Int).length aP) 2 (iv 0) 8 S (wN d) d Try.underlying25 d d (by decide) d d d (src_R (T:=3) 0 S.mem d) b9 d (lb d) fun a w au av S=>nilCheck_ok (q:=⟨bb0,0,none⟩) S (wN d) d d d (lb d) fun a S=>sField (b:=bb0) (off:=0) 4 4 S (wN d) d d d d d (lb d) fun a S=>sStore (p:=bb0) (off:=4) (T:=68) (vs:=[iv aJ,iv aK,.slice a2 p0.g.Bits.length a3,iv aL,.slice am aA.length ao,.slice ah ar.length ai,iv aM]) (v:=.slice au aH.length av) 2 [.slice au aH.length av] S (wN d) d d d d d d d (by simp) d fun a w S=>lT (b8 _ _ (sSeq (fun bH ba=>sRegion (sM S fun a S=>?_))))
  refine sM S fun a S=>?_
  refine sM S fun a S=>?_
  refine sBin _ S (wN d) d d d (bAdd _ _ _ _ af 1) d (lb d) fun a S=>sMax2 (p:=p1) (q:=w64 (af + 1)) S (wN d) d d d d (lb d) fun a S=>?_
  obtain ⟨a4,bb,h⟩:=bS h
  refine sCall (X:=Option Addr × Nat × Value) (f:=41) (vs:=[.pointer (some ⟨bb0,0,none⟩),iv (if p1 < (w64 (af + 1)) then w64 (af + 1) else p1)]) (val:=fun _=>.tuple #[]) (B':=fun x=>[eBox bb0 68 [iv a4.g.W,iv a4.g.H,.slice a2 p0.g.Bits.length a3,iv a4.k,.slice x.1 a4.l.length x.2.1,x.2.2,iv a4.least],eRow (rI .i64) 3 (.slice x.1 a4.l.length x.2.1) a4.l]) (D':=fun x=>[fRep (rLz (rI .i64)) x.2.2 a4.best]) [eBox bb0 68 [iv aJ,iv aK,.slice a2 p0.g.Bits.length a3,iv aL,.slice au aH.length av,.slice ah ar.length ai,iv aM],eRow (rI .i64) 3 (.slice au aH.length av) aH] [eRow (rI .i64) 3 (.slice aO ([af]:List Int).length aP) ([af]:List Int)] [fRep (rL rB) (.slice a2 p0.g.Bits.length a3) p0.g.Bits,fRep (rLz (rI .i64)) (.slice ah ar.length ai) ar] [0,1,2] [0,1] S (wN d) d callee41 d (by decide) d d (fun E1 w1 S1=>c_reduce_search_from_s5 E1 w1 (reduce_search.mk (api_Grid.mk aJ aK p0.g.Bits) aL aH ar aM) bb0 (.slice a2 p0.g.Bits.length a3) au av (.slice ah ar.length ai) (if p1 < (w64 (af + 1)) then w64 (af + 1) else p1) a4 bb S1) d (lb d) fun xx a w S=>?_
  obtain ⟨a9,aa,bq⟩:=xx
  dsimp only at S
  obtain ⟨⟨aQ,aR,_,rfl,_⟩,_⟩:=S.mem.know (i:=0) (e:=fRep (rLz (rI .i64)) (bq) a4.best) d
  refine lT (ba _ _ ?_)
  obtain ⟨aS,bc,h⟩:=bS h
  refine sDraw (nf:=[11,14]) (W:=[(0,83,.pointer (some ⟨bb0,0,none⟩)),(1,84,.pointer (some ⟨bb0,0,none⟩)),(2,85,.pointer (some ⟨bb0,0,none⟩)),(3,86,.pointer (some ⟨bb0,4,none⟩)),(4,87,.slice a9 a4.l.length aa),(5,88,.pointer (some ⟨bb0,0,none⟩)),(6,89,.pointer (some ⟨bb0,0,none⟩)),(7,90,.pointer (some ⟨bb0,4,none⟩)),(8,91,.slice a9 a4.l.length aa),(9,92,iv (a4.l.length:Int)),(10,93,iv (w64 ((a4.l.length:Int) - 1)))]) d S ?_
  refine node_by (A:=anc_reduce_search_from_s4_2) 15 (by kernel_rfl) (by kernel_rfl) (by kernel_rfl) (by kernel_rfl) (by kernel_rfl) [0,1,2,3,4,5,6,7,8,9,10] (by kernel_rfl) (by decide) (by decide) (fF ?_ (fF ?_ (fF ?_ (fF ?_ (fF ?_ (fF ?_ (fF ?_ (fF ?_ (fF ?_ (fF ?_ (fF ?_ (fN ?_ (fE 11 (fE 11 (aB 14 0 11 (by decide) (trivial)))))))))))))))) [] (fun q hq=>by cases hq) (fun hY=>absurd (hY 11 (by decide)) (by decide))
  ·exact fM 0 none d d d d (.inl d) d d d
  ·exact fM 1 none d d d d (.inl d) d d d
  ·refine fJ [(84,_)] 2 [some 1] fun G a w S=>?_
   exact nilCheck_ok (q:=⟨bb0,0,none⟩) S (wN d) d d d (lb d) fun a S=>leafL ⟨d,S⟩
  ·refine fJ [(85,_)] 3 [some 2] fun G a w S=>?_
   exact sField (b:=bb0) (off:=0) 4 4 S (wN d) d d d d d (lb d) fun a S=>leafL ⟨d,S⟩
  ·refine fJ [(86,_)] 4 [some 3] fun G a w S=>?_
   exact sLoad1 0 (.slice a9 a4.l.length aa) S (wN d) d d d d d d (lb d) fun a S=>leafL ⟨d,S⟩
  ·exact fM 5 none d d d d (.inl d) d d d
  ·refine fJ [(88,_)] 6 [some 5] fun G a w S=>?_
   exact nilCheck_ok (q:=⟨bb0,0,none⟩) S (wN d) d d d (lb d) fun a S=>leafL ⟨d,S⟩
  ·refine fJ [(89,_)] 7 [some 6] fun G a w S=>?_
   exact sField (b:=bb0) (off:=0) 4 4 S (wN d) d d d d d (lb d) fun a S=>leafL ⟨d,S⟩
  ·refine fJ [(90,_)] 8 [some 7] fun G a w S=>?_
   exact sLoad1 0 (.slice a9 a4.l.length aa) S (wN d) d d d d d d (lb d) fun a S=>leafL ⟨d,S⟩
  ·refine fJ [(91,_)] 9 [some 8] fun G a w S=>?_
   exact sLen S (wN d) d Try.underlying25 d d (lb d) fun a S=>leafL ⟨d,S⟩
  ·refine fJ [(92,_)] 10 [some 9] fun G a w S=>?_
   exact sBin _ S (wN d) d d d (bSub _ _ _ _ (a4.l.length:Int) 1) d (lb d) fun a S=>leafL ⟨d,S⟩
  refine ⟨_,[(87,.slice a9 a4.l.length aa),(93,iv (w64 ((a4.l.length:Int) - 1)))],d,(srcs_of [some 4,some 10] d d d),fun G a w S=>?_⟩
  refine sSliceT (r:=(rI .i64)) (T:=3) (ad:=a9) (c:=aa) (xs:=a4.l) (vlo:=none) (vhi:=(some (.int .i64 (w64 ((a4.l.length:Int) - 1))))) (hi':=w64 ((a4.l.length:Int) - 1)) 1 S (wN d) d Try.underlying25 d d d d d (.inr d) (.inl d) bc d (lb d) fun a S=>?_
  refine leafL ⟨d,_,_,.inl ⟨94,(.slice a9 aS.length aa),[(12,95,.pointer (some ⟨bb0,0,none⟩)),(13,96,.pointer (some ⟨bb0,4,none⟩))],d,S,hz_of d,?_⟩⟩
  refine node_by (A:=anc_reduce_search_from_s4_2) 15 (by kernel_rfl) (by kernel_rfl) (by kernel_rfl) (by kernel_rfl) (by kernel_rfl) [12,13,11,0,1,2,3,4,5,6,7,8,9,10] (by kernel_rfl) (by decide) (by decide) (fF ?_ (fD 11 (fD 11 (fD 11 (fD 11 (fD 11 (fD 11 (fD 11 (fD 11 (fD 11 (fD 11 (fY (fF ?_ (fF ?_ (fN ?_ (trivial)))))))))))))))) [] (fun q hq=>by cases hq) (fun hY=>absurd (hY 14 (by decide)) (by decide))
  ·exact fM 3 none d d d d (.inl d) d d d
  ·refine fJ [(83,_)] 0 [some 3] fun G a w S=>?_
   exact nilCheck_ok (q:=⟨bb0,0,none⟩) S (wN d) d d d (lb d) fun a S=>leafL ⟨d,S⟩
  ·refine fJ [(95,_)] 1 [some 0] fun G a w S=>?_
   exact sField (b:=bb0) (off:=0) 4 4 S (wN d) d d d d d (lb d) fun a S=>leafL ⟨d,S⟩
  refine ⟨_,[(94,.slice a9 aS.length aa),(96,.pointer (some ⟨bb0,4,none⟩))],d,(srcs_of [some 2,some 1] d d d),fun G a w S=>?_⟩
  refine sStore (p:=bb0) (off:=4) (T:=68) (vs:=[iv a4.g.W,iv a4.g.H,.slice a2 p0.g.Bits.length a3,iv a4.k,.slice a9 a4.l.length aa,.slice aQ a4.best.length aR,iv a4.least]) (v:=.slice a9 aS.length aa) 1 [.slice a9 aS.length aa] S (wN d) d d d d d d d (by simp) d fun a w S=>leafL ⟨d,_,_,.inr ⟨[],d,S,hz_of d,?_⟩⟩
  refine node_by (A:=anc_reduce_search_from_s4_2) 15 (by kernel_rfl) (by kernel_rfl) (by kernel_rfl) (by kernel_rfl) (by kernel_rfl) [12,13,11,0,1,2,3,4,5,6,7,8,9,10] (by kernel_rfl) (by decide) (by decide) (fD 14 (fD 14 (fD 14 (fD 14 (fD 14 (fD 14 (fD 14 (fD 14 (fD 14 (fD 14 (fD 14 (fY (fD 14 (fD 14 (fY (trivial)))))))))))))))) [(0,.pointer (some ⟨bb0,0,none⟩)),(1,iv p1),(63,iv (if p0.k < (w64 (p1 + 1)) then p0.k else w64 (p1 + 1))),(64,iv af)] (fin_of [none,none,none,none] d (by kernel_rfl) (by kernel_rfl)) (fun _ a w S=>?_)
  refine leafB (leafT (b4 _ _ ?_))
  refine sRegion (sBin _ S (wN d) d d d (bAdd _ _ _ _ af 1) d (lb d) fun a S=>sM S fun a S=>?_)
  exact lT (⟨(w64 (af + 1),a4.g.W,a4.g.H,a4.k,aS,a4.best,a4.least),(Option.some.inj h).symm,⟨a9,aa,aQ,aR,S.fix [0,1] [1,0] (by decide) d d d⟩⟩)
 refine sCondT S d aW ?_
 obtain ⟨br,h,bt⟩:=bS h
 refine sCut (fun a w=>∃ o8,∃ aI,∃ bf,(o8,aI,bf)=br∧∃ aU,∃ ax,∃ ay,∃ az,St [] E M9 w0 98 a w [] [eBox bb0 68 [iv p0.g.W,iv p0.g.H,.slice a2 p0.g.Bits.length a3,iv p0.k,.slice aU o8.length ax,.slice ay aI.length az,iv bf],eRow (rI .i64) 3 (.slice aU o8.length ax) o8] [fRep (rL rB) (.slice a2 p0.g.Bits.length a3) p0.g.Bits,fRep (rLz (rI .i64)) (.slice ay aI.length az) aI]) ?_ (fun a w hI=>?_)
 rotate_left
 ·obtain ⟨o8,aI,bf,rfl,aU,ax,ay,az,S⟩:=hI
  have h:=bt
  try dsimp only at h
  obtain rfl:=tS h
  exact wp_ret (rThen (sRet (.tuple #[]) S (rsl0 d ) ⟨(aU,ax,(.slice ay aI.length az)),d,S.mem.sel [0,1] [1] (by decide) d d⟩))
 obtain ⟨bu,h,bv⟩:=bS h
 refine sCut (fun a w=>∃ aw,∃ aj,(aw,aj)=bu∧∃ a5,∃ a6,St [] E M9 w0 98 a w [(0,.pointer (some ⟨bb0,0,none⟩)),(5,iv aw)] [eBox bb0 68 [iv p0.g.W,iv p0.g.H,.slice a2 p0.g.Bits.length a3,iv p0.k,.slice a5 aj.length a6,.slice ak p0.best.length al,iv p0.least],eRow (rI .i64) 3 (.slice a5 aj.length a6) aj] [fRep (rL rB) (.slice a2 p0.g.Bits.length a3) p0.g.Bits,fRep (rLz (rI .i64)) (.slice ak p0.best.length al) p0.best]) ?_ (fun a w hI=>?_)
 rotate_left
 ·obtain ⟨aw,aj,rfl,a5,a6,S⟩:=hI
  have h:=bv
  try dsimp only at h
  obtain ⟨bw,h,bx⟩:=bS h
  refine sCut (fun a w=>∃ bg,bg=bw∧St [] E M9 w0 98 a w [(0,.pointer (some ⟨bb0,0,none⟩)),(5,iv aw),(44,.bool bg)] [eBox bb0 68 [iv p0.g.W,iv p0.g.H,.slice a2 p0.g.Bits.length a3,iv p0.k,.slice a5 aj.length a6,.slice ak p0.best.length al,iv p0.least],eRow (rI .i64) 3 (.slice a5 aj.length a6) aj] [fRep (rL rB) (.slice a2 p0.g.Bits.length a3) p0.g.Bits,fRep (rLz (rI .i64)) (.slice ak p0.best.length al) p0.best]) ?_ (fun a w hI=>?_)
  ·refine sRegion (sM S fun a S=>?_)
   refine nilCheck_ok (q:=⟨bb0,0,none⟩) S (wN d) d d d (lb d) fun a S=>sField (b:=bb0) (off:=0) 5 5 S (wN d) d d d d d (lb d) fun a S=>sLoad1 0 (.slice ak p0.best.length al) S (wN d) d d d d d d (lb d) fun a S=>sBin _ S (wN d) d d d (bEqNilZ _ _ _ _ Try.underlying25 ak (p0.best.length) (al) (rLz_is (S.mem.know (i:=1) (e:=fRep (rLz (rI .i64)) (.slice ak p0.best.length al) p0.best) d))) d (lb d) fun a S=>sM S fun a S=>?_
   rcases iS h with ⟨ae,h⟩ | ⟨ae,h⟩
   ·refine sSkN 6 5 false 37 S d d ae d fun a S=>sPickT (.bool true) S (wN d) d d ae d d (lb d) fun a S=>?_
    exact lT (⟨true,Option.some.inj h,S.fix [0,1] [0,1] (by decide) d d d⟩)
   refine sMove (iv aw) S (wG 5 false 37 d d d ae) (.inl d) d d (lb d) fun a S=>sMove (.pointer (some ⟨bb0,0,none⟩)) S (wG 5 false 37 d d d ae) (.inl d) d d (lb d) fun a S=>nilCheck_ok (q:=⟨bb0,0,none⟩) S (wG 5 false 37 d d d ae) d d d (lb d) fun a S=>sField (b:=bb0) (off:=0) 6 6 S (wG 5 false 37 d d d ae) d d d d d (lb d) fun a S=>sLoad1 0 (iv p0.least) S (wG 5 false 37 d d d ae) d d d d d d (lb d) fun a S=>sBin _ S (wG 5 false 37 d d d ae) d d d (bLt _ _ _ _ .i64 aw p0.least) d (lb d) fun a S=>sPickF (.bool (decide (aw < p0.least))) S (wN d) d d ae d d (lb d) fun a S=>?_
   exact lT (⟨decide (aw < p0.least),Option.some.inj h,S.fix [0,1] [0,1] (by decide) d d d⟩)
  obtain ⟨bg,rfl,S⟩:=hI
  have h:=bx
  try dsimp only at h
  rcases iS h with ⟨aG,h⟩ | ⟨aG,h⟩
  rotate_left
  ·refine sCondF S d aG ?_
   exact wp_skip (leafT (⟨aj,p0.best,p0.least,Option.some.inj h,a5,a6,ak,al,S.fix [0,1] [0,1] (by decide) d d d⟩))
  refine sCondT S d aG (sRegion (sM S fun a S=>?_))
  refine sM S fun a S=>?_
  refine sM S fun a S=>?_
  refine nilCheck_ok (q:=⟨bb0,0,none⟩) S (wN d) d d d (lb d) fun a S=>sField (b:=bb0) (off:=0) 4 4 S (wN d) d d d d d (lb d) fun a S=>sLoad1 0 (.slice a5 aj.length a6) S (wN d) d d d d d d (lb d) fun a S=>?_
  obtain ⟨ag,bh,h⟩:=bS h
  refine sCall (X:=Option Addr × Nat) (f:=49) (vs:=[.slice a5 aj.length a6]) (val:=fun x=>.slice x.1 ag.1.length x.2) (B':=fun x=>[eRow (rI .i64) 3 (.slice x.1 ag.1.length x.2) ag.1,eRow (rI .i64) 3 (.slice a5 aj.length a6) ag.2]) (D':=fun _=>[]) [eRow (rI .i64) 3 (.slice a5 aj.length a6) aj] [eBox bb0 68 [iv p0.g.W,iv p0.g.H,.slice a2 p0.g.Bits.length a3,iv p0.k,.slice a5 aj.length a6,.slice ak p0.best.length al,iv p0.least]] [] [1,0] [] S (wN d) d callee49 d (by decide) d d (fun E1 w1 S1=>c_slices_Clone___int_int__s1 E1 w1 aj a5 a6 ag bh S1) d (lb d) fun xx a w S=>?_
  obtain ⟨ap,aq⟩:=xx
  dsimp only at S
  have bi:=row_v (S.mem.hold (i:=1) (e:=eRow (rI .i64) 3 (.slice a5 aj.length a6) ag.2) d)
  rw [bi] at S
  refine sM S fun a S=>?_
  refine nilCheck_ok (q:=⟨bb0,0,none⟩) S (wN d) d d d (lb d) fun a S=>sField (b:=bb0) (off:=0) 5 5 S (wN d) d d d d d (lb d) fun a S=>?_
  have S:=S.shutR (r:=(rI .i64)) (T:=3) (v:=.slice ap ag.1.length aq) (xs:=ag.1) 0 d
  obtain ⟨bI,bj,h⟩:=bS h
  have S:=S.learn (fRep (rLz (rI .i64)) (.slice ap ag.1.length aq) ag.1) (rLz_of (S.mem.know (i:=0) (e:=fRep (rL (rI .i64)) (.slice ap ag.1.length aq) ag.1) d) bj)
  refine sStore (p:=bb0) (off:=5) (T:=68) (vs:=[iv p0.g.W,iv p0.g.H,.slice a2 p0.g.Bits.length a3,iv p0.k,.slice a5 ag.2.length a6,.slice ak p0.best.length al,iv p0.least]) (v:=.slice ap ag.1.length aq) 1 [.slice ap ag.1.length aq] S (wN d) d d d d d d d (by simp) d fun a w S=>nilCheck_ok (q:=⟨bb0,0,none⟩) S (wN d) d d d (lb d) fun a S=>sField (b:=bb0) (off:=0) 6 6 S (wN d) d d d d d (lb d) fun a S=>sStore (p:=bb0) (off:=6) (T:=68) (vs:=[iv p0.g.W,iv p0.g.H,.slice a2 p0.g.Bits.length a3,iv p0.k,.slice a5 ag.2.length a6,.slice ap ag.1.length aq,iv p0.least]) (v:=iv aw) 0 [iv aw] S (wN d) d d d d d d d (by simp) d fun a w S=>?_
  exact lT (⟨ag.2,ag.1,aw,Option.some.inj h,a5,a6,ap,aq,S.fix [0,1] [2,0] (by decide) d d d⟩)
 obtain ⟨a0,aT,h⟩:=bS h
 refine sDraw (nf:=[8,13,14]) (W:=[(0,20,.pointer (some ⟨bb0,0,none⟩)),(1,21,.pointer (some ⟨bb0,0,none⟩)),(2,22,.pointer (some ⟨bb0,0,none⟩)),(3,23,.agg #[iv p0.g.W,iv p0.g.H,.slice a2 p0.g.Bits.length a3]),(4,24,.pointer (some ⟨bb0,0,none⟩)),(5,25,.pointer (some ⟨bb0,0,none⟩)),(6,26,.pointer (some ⟨bb0,4,none⟩)),(7,27,.slice ad_0_1 p0.l.length cp_0_1)]) d S ?_
 refine node_by (A:=anc_reduce_search_from_s4_1) 17 (by kernel_rfl) (by kernel_rfl) (by kernel_rfl) (by kernel_rfl) (by kernel_rfl) [0,1,2,3,4,5,6,7] (by kernel_rfl) (by decide) (by decide) (fF ?_ (fF ?_ (fF ?_ (fF ?_ (fF ?_ (fF ?_ (fF ?_ (fF ?_ (fN ?_ (fE 8 (fE 8 (fE 8 (fE 8 (fN ?_ (aB 14 2 8 (by decide) (fE 8 (fE 8 (trivial)))))))))))))))))) [] (fun q hq=>by cases hq) (fun hY=>absurd (hY 8 (by decide)) (by decide))
 ·exact fM 0 none d d d d (.inl d) d d d
 ·refine fJ [(20,_)] 1 [some 0] fun G a w S=>?_
  exact nilCheck_ok (q:=⟨bb0,0,none⟩) S (wN d) d d d (lb d) fun a S=>leafL ⟨d,S⟩
 ·refine fJ [(21,_)] 2 [some 1] fun G a w S=>?_
  exact sField (b:=bb0) (off:=0) 0 0 S (wN d) d d d d d (lb d) fun a S=>leafL ⟨d,S⟩
 ·refine fJ [(22,_)] 3 [some 2] fun G a w S=>?_
  exact sLoadN (p:=bb0) (off:=0) (T:=68) (vs:=[iv p0.g.W,iv p0.g.H,.slice a2 p0.g.Bits.length a3,iv p0.k,.slice ad_0_1 p0.l.length cp_0_1,.slice ak p0.best.length al,iv p0.least]) 0 [iv p0.g.W,iv p0.g.H,.slice a2 p0.g.Bits.length a3] S (wN d) d d d d d d d (lb d) fun a S=>leafL ⟨d,S⟩
 ·exact fM 4 none d d d d (.inl d) d d d
 ·refine fJ [(24,_)] 5 [some 4] fun G a w S=>?_
  exact nilCheck_ok (q:=⟨bb0,0,none⟩) S (wN d) d d d (lb d) fun a S=>leafL ⟨d,S⟩
 ·refine fJ [(25,_)] 6 [some 5] fun G a w S=>?_
  exact sField (b:=bb0) (off:=0) 4 4 S (wN d) d d d d d (lb d) fun a S=>leafL ⟨d,S⟩
 ·refine fJ [(26,_)] 7 [some 6] fun G a w S=>?_
  exact sLoad1 0 (.slice ad_0_1 p0.l.length cp_0_1) S (wN d) d d d d d d (lb d) fun a S=>leafL ⟨d,S⟩
 ·refine ⟨_,[(23,.agg #[iv p0.g.W,iv p0.g.H,.slice a2 p0.g.Bits.length a3]),(27,.slice ad_0_1 p0.l.length cp_0_1)],d,(srcs_of [some 3,some 7] d d d),fun G a w S=>?_⟩
  have S:=S.learn (fRep r_api_Grid (.agg #[iv p0.g.W,iv p0.g.H,.slice a2 p0.g.Bits.length a3]) p0.g) ⟨_,d,S.mem.know (i:=0) (e:=fRep (rL rB) (.slice a2 p0.g.Bits.length a3) p0.g.Bits) d⟩
  refine sCall (X:=Option Addr × Nat) (f:=12) (vs:=[.agg #[iv p0.g.W,iv p0.g.H,.slice a2 p0.g.Bits.length a3],.slice ad_0_1 p0.l.length cp_0_1]) (val:=fun x=>.tuple #[.agg #[iv a0.1.W,iv a0.1.H,.slice x.1 a0.1.Bits.length x.2],iv a0.2.1,iv a0.2.2.1]) (B':=fun x=>[eRow rB 4 (.slice x.1 a0.1.Bits.length x.2) a0.1.Bits,eRow (rI .i64) 3 (.slice ad_0_1 p0.l.length cp_0_1) a0.2.2.2]) (D':=fun _=>[]) [eRow (rI .i64) 3 (.slice ad_0_1 p0.l.length cp_0_1) p0.l] [eBox bb0 68 [iv p0.g.W,iv p0.g.H,.slice a2 p0.g.Bits.length a3,iv p0.k,.slice ad_0_1 p0.l.length cp_0_1,.slice ak p0.best.length al,iv p0.least]] [fRep r_api_Grid (.agg #[iv p0.g.W,iv p0.g.H,.slice a2 p0.g.Bits.length a3]) p0.g] [1,0] [0] S (wN d) d callee12 d (by decide) d d (fun E1 w1 S1=>c_reduce_Change_s1 E1 w1 p0.g (.agg #[iv p0.g.W,iv p0.g.H,.slice a2 p0.g.Bits.length a3]) p0.l ad_0_1 cp_0_1 a0 aT S1) d (lb d) fun xx a w S=>?_
  obtain ⟨a7,a8⟩:=xx
  dsimp only at S
  refine leafL ⟨d,_,_,.inl ⟨28,(.tuple #[.agg #[iv a0.1.W,iv a0.1.H,.slice a7 a0.1.Bits.length a8],iv a0.2.1,iv a0.2.2.1]),[(9,19,.tuple #[.agg #[iv a0.1.W,iv a0.1.H,.slice a7 a0.1.Bits.length a8],iv a0.2.1,iv a0.2.2.1]),(10,29,.agg #[iv a0.1.W,iv a0.1.H,.slice a7 a0.1.Bits.length a8]),(11,30,iv a0.2.1),(12,31,iv a0.2.2.1)],d,S,hz_of d,?_⟩⟩
  refine node_by (A:=anc_reduce_search_from_s4_1) 17 (by kernel_rfl) (by kernel_rfl) (by kernel_rfl) (by kernel_rfl) (by kernel_rfl) [9,10,11,12,8,0,1,2,3,4,5,6,7] (by kernel_rfl) (by decide) (by decide) (fD 8 (fD 8 (fD 8 (fD 8 (fD 8 (fD 8 (fD 8 (fD 8 (fY (fF ?_ (fF ?_ (fF ?_ (fF ?_ (fN ?_ (aB 14 2 13 (by decide) (fE 13 (fE 13 (trivial)))))))))))))))))) [] (fun q hq=>by cases hq) (fun hY=>absurd (hY 13 (by decide)) (by decide))
  ·exact fM 0 (some 4) d d d d (.inl d) d d d
  ·refine fJ [(19,_)] 1 [some 0] fun G a w S=>?_
   exact sExtract (vs:=[.agg #[iv a0.1.W,iv a0.1.H,.slice a7 a0.1.Bits.length a8],iv a0.2.1,iv a0.2.2.1]) (.agg #[iv a0.1.W,iv a0.1.H,.slice a7 a0.1.Bits.length a8]) S (wN d) d d d d (lb d) fun a S=>leafL ⟨d,S⟩
  ·refine fJ [(19,_)] 2 [some 0] fun G a w S=>?_
   exact sExtract (vs:=[.agg #[iv a0.1.W,iv a0.1.H,.slice a7 a0.1.Bits.length a8],iv a0.2.1,iv a0.2.2.1]) (iv a0.2.1) S (wN d) d d d d (lb d) fun a S=>leafL ⟨d,S⟩
  ·refine fJ [(19,_)] 3 [some 0] fun G a w S=>?_
   exact sExtract (vs:=[.agg #[iv a0.1.W,iv a0.1.H,.slice a7 a0.1.Bits.length a8],iv a0.2.1,iv a0.2.2.1]) (iv a0.2.2.1) S (wN d) d d d d (lb d) fun a S=>leafL ⟨d,S⟩
  refine ⟨_,[],d,(srcs_of [] d d d),fun G a w S=>?_⟩
  refine sAlloc (.agg #[iv 0,iv 0,.slice none 0 0]) S (wN d) d d [iv 0,iv 0,.slice none 0 0] d d (lb d) fun a bk w S=>leafL ⟨d,_,_,.inl ⟨4,(.pointer (some ⟨bk,0,none⟩)),[],d,S,hz_of d,?_⟩⟩
  refine node_by (A:=anc_reduce_search_from_s4_1) 17 (by kernel_rfl) (by kernel_rfl) (by kernel_rfl) (by kernel_rfl) (by kernel_rfl) [13,9,10,11,12,8,0,1,2,3,4,5,6,7] (by kernel_rfl) (by decide) (by decide) (fD 8 (fD 8 (fD 8 (fD 8 (fD 8 (fD 8 (fD 8 (fD 8 (fY (fF ?_ (fF ?_ (fF ?_ (fF ?_ (fY (fN ?_ (fE 14 (fE 14 (trivial)))))))))))))))))) [] (fun q hq=>by cases hq) (fun hY=>absurd (hY 14 (by decide)) (by decide))
  ·exact fM 1 (some 5) d d d d (.inl d) d d d
  ·refine fJ [(19,_)] 2 [some 1] fun G a w S=>?_
   exact sExtract (vs:=[.agg #[iv a0.1.W,iv a0.1.H,.slice a7 a0.1.Bits.length a8],iv a0.2.1,iv a0.2.2.1]) (.agg #[iv a0.1.W,iv a0.1.H,.slice a7 a0.1.Bits.length a8]) S (wN d) d d d d (lb d) fun a S=>leafL ⟨d,S⟩
  ·refine fJ [(19,_)] 3 [some 1] fun G a w S=>?_
   exact sExtract (vs:=[.agg #[iv a0.1.W,iv a0.1.H,.slice a7 a0.1.Bits.length a8],iv a0.2.1,iv a0.2.2.1]) (iv a0.2.1) S (wN d) d d d d (lb d) fun a S=>leafL ⟨d,S⟩
  ·refine fJ [(19,_)] 4 [some 1] fun G a w S=>?_
   exact sExtract (vs:=[.agg #[iv a0.1.W,iv a0.1.H,.slice a7 a0.1.Bits.length a8],iv a0.2.1,iv a0.2.2.1]) (iv a0.2.2.1) S (wN d) d d d d (lb d) fun a S=>leafL ⟨d,S⟩
  refine ⟨_,[(4,.pointer (some ⟨bk,0,none⟩)),(29,.agg #[iv a0.1.W,iv a0.1.H,.slice a7 a0.1.Bits.length a8])],d,(srcs_of [some 0,some 2] d d d),fun G a w S=>?_⟩
  refine sStore (p:=bk) (off:=0) (T:=24) (vs:=[iv 0,iv 0,.slice none 0 0]) (v:=.agg #[iv a0.1.W,iv a0.1.H,.slice a7 a0.1.Bits.length a8]) 0 [iv a0.1.W,iv a0.1.H,.slice a7 a0.1.Bits.length a8] S (wN d) d d d d d d d (by simp) d fun a w S=>leafL ⟨d,_,_,.inr ⟨[(15,5,iv a0.2.1),(16,6,iv a0.2.2.1)],d,S,hz_of d,?_⟩⟩
  refine node_by (A:=anc_reduce_search_from_s4_1) 17 (by kernel_rfl) (by kernel_rfl) (by kernel_rfl) (by kernel_rfl) (by kernel_rfl) [15,16,13,9,10,11,12,8,0,1,2,3,4,5,6,7] (by kernel_rfl) (by decide) (by decide) (fD 14 (fD 14 (fD 14 (fD 14 (fD 14 (fD 14 (fD 14 (fD 14 (fY (fD 14 (fD 14 (fF ?_ (fF ?_ (fY (fY (fF ?_ (fF ?_ (trivial)))))))))))))))))) [(0,.pointer (some ⟨bb0,0,none⟩)),(5,iv a0.2.1)] (fin_of [none,some 0] d (by kernel_rfl) (by kernel_rfl)) (fun _ a w S=>?_)
  ·refine fJ [(19,_)] 5 [some 3] fun G a w S=>?_
   exact sExtract (vs:=[.agg #[iv a0.1.W,iv a0.1.H,.slice a7 a0.1.Bits.length a8],iv a0.2.1,iv a0.2.2.1]) (iv a0.2.1) S (wN d) d d d d (lb d) fun a S=>leafL ⟨d,S⟩
  ·refine fJ [(19,_)] 6 [some 3] fun G a w S=>?_
   exact sExtract (vs:=[.agg #[iv a0.1.W,iv a0.1.H,.slice a7 a0.1.Bits.length a8],iv a0.2.1,iv a0.2.2.1]) (iv a0.2.2.1) S (wN d) d d d d (lb d) fun a S=>leafL ⟨d,S⟩
  ·exact fM 0 (some 5) d d d d (.inr d) d d d
  ·exact fM 1 (some 6) d d d d (.inr d) d d d
  have bl:=row_v (S.mem.hold (i:=2) (e:=eRow (rI .i64) 3 (.slice ad_0_1 p0.l.length cp_0_1) a0.2.2.2) d)
  rw [bl] at S
  exact leafT (⟨a0.2.1,a0.2.2.2,Option.some.inj h,ad_0_1,cp_0_1,S.fix [3,2] [1,2] (by decide) d d d⟩)
 refine ⟨_,[],d,(srcs_of [] d d d),fun G a w S=>?_⟩
 refine sAlloc (.agg #[iv 0,iv 0,.slice none 0 0]) S (wN d) d d [iv 0,iv 0,.slice none 0 0] d d (lb d) fun a aV w S=>leafL ⟨d,_,_,.inl ⟨4,(.pointer (some ⟨aV,0,none⟩)),[],d,S,hz_of d,?_⟩⟩
 refine node_by (A:=anc_reduce_search_from_s4_1) 17 (by kernel_rfl) (by kernel_rfl) (by kernel_rfl) (by kernel_rfl) (by kernel_rfl) [13,0,1,2,3,4,5,6,7] (by kernel_rfl) (by decide) (by decide) (fF ?_ (fF ?_ (fF ?_ (fF ?_ (fF ?_ (fF ?_ (fF ?_ (fF ?_ (fN ?_ (fE 8 (fE 8 (fE 8 (fE 8 (fY (aB 14 2 8 (by decide) (fE 8 (fE 8 (trivial)))))))))))))))))) [] (fun q hq=>by cases hq) (fun hY=>absurd (hY 8 (by decide)) (by decide))
 ·exact fM 1 none d d d d (.inl d) d d d
 ·refine fJ [(20,_)] 2 [some 1] fun G a w S=>?_
  exact nilCheck_ok (q:=⟨bb0,0,none⟩) S (wN d) d d d (lb d) fun a S=>leafL ⟨d,S⟩
 ·refine fJ [(21,_)] 3 [some 2] fun G a w S=>?_
  exact sField (b:=bb0) (off:=0) 0 0 S (wN d) d d d d d (lb d) fun a S=>leafL ⟨d,S⟩
 ·refine fJ [(22,_)] 4 [some 3] fun G a w S=>?_
  exact sLoadN (p:=bb0) (off:=0) (T:=68) (vs:=[iv p0.g.W,iv p0.g.H,.slice a2 p0.g.Bits.length a3,iv p0.k,.slice ad_0_1 p0.l.length cp_0_1,.slice ak p0.best.length al,iv p0.least]) 1 [iv p0.g.W,iv p0.g.H,.slice a2 p0.g.Bits.length a3] S (wN d) d d d d d d d (lb d) fun a S=>leafL ⟨d,S⟩
 ·exact fM 5 none d d d d (.inl d) d d d
 ·refine fJ [(24,_)] 6 [some 5] fun G a w S=>?_
  exact nilCheck_ok (q:=⟨bb0,0,none⟩) S (wN d) d d d (lb d) fun a S=>leafL ⟨d,S⟩
 ·refine fJ [(25,_)] 7 [some 6] fun G a w S=>?_
  exact sField (b:=bb0) (off:=0) 4 4 S (wN d) d d d d d (lb d) fun a S=>leafL ⟨d,S⟩
 ·refine fJ [(26,_)] 8 [some 7] fun G a w S=>?_
  exact sLoad1 1 (.slice ad_0_1 p0.l.length cp_0_1) S (wN d) d d d d d d (lb d) fun a S=>leafL ⟨d,S⟩
 refine ⟨_,[(23,.agg #[iv p0.g.W,iv p0.g.H,.slice a2 p0.g.Bits.length a3]),(27,.slice ad_0_1 p0.l.length cp_0_1)],d,(srcs_of [some 4,some 8] d d d),fun G a w S=>?_⟩
 have S:=S.learn (fRep r_api_Grid (.agg #[iv p0.g.W,iv p0.g.H,.slice a2 p0.g.Bits.length a3]) p0.g) ⟨_,d,S.mem.know (i:=0) (e:=fRep (rL rB) (.slice a2 p0.g.Bits.length a3) p0.g.Bits) d⟩
 refine sCall (X:=Option Addr × Nat) (f:=12) (vs:=[.agg #[iv p0.g.W,iv p0.g.H,.slice a2 p0.g.Bits.length a3],.slice ad_0_1 p0.l.length cp_0_1]) (val:=fun x=>.tuple #[.agg #[iv a0.1.W,iv a0.1.H,.slice x.1 a0.1.Bits.length x.2],iv a0.2.1,iv a0.2.2.1]) (B':=fun x=>[eRow rB 4 (.slice x.1 a0.1.Bits.length x.2) a0.1.Bits,eRow (rI .i64) 3 (.slice ad_0_1 p0.l.length cp_0_1) a0.2.2.2]) (D':=fun _=>[]) [eRow (rI .i64) 3 (.slice ad_0_1 p0.l.length cp_0_1) p0.l] [eBox aV 24 [iv 0,iv 0,.slice none 0 0],eBox bb0 68 [iv p0.g.W,iv p0.g.H,.slice a2 p0.g.Bits.length a3,iv p0.k,.slice ad_0_1 p0.l.length cp_0_1,.slice ak p0.best.length al,iv p0.least]] [fRep r_api_Grid (.agg #[iv p0.g.W,iv p0.g.H,.slice a2 p0.g.Bits.length a3]) p0.g] [2,0,1] [0] S (wN d) d callee12 d (by decide) d d (fun E1 w1 S1=>c_reduce_Change_s1 E1 w1 p0.g (.agg #[iv p0.g.W,iv p0.g.H,.slice a2 p0.g.Bits.length a3]) p0.l ad_0_1 cp_0_1 a0 aT S1) d (lb d) fun xx a w S=>?_
 obtain ⟨ab,ac⟩:=xx
 dsimp only at S
 refine leafL ⟨d,_,_,.inl ⟨28,(.tuple #[.agg #[iv a0.1.W,iv a0.1.H,.slice ab a0.1.Bits.length ac],iv a0.2.1,iv a0.2.2.1]),[(9,19,.tuple #[.agg #[iv a0.1.W,iv a0.1.H,.slice ab a0.1.Bits.length ac],iv a0.2.1,iv a0.2.2.1]),(10,29,.agg #[iv a0.1.W,iv a0.1.H,.slice ab a0.1.Bits.length ac]),(11,30,iv a0.2.1),(12,31,iv a0.2.2.1)],d,S,hz_of d,?_⟩⟩
 refine node_by (A:=anc_reduce_search_from_s4_1) 17 (by kernel_rfl) (by kernel_rfl) (by kernel_rfl) (by kernel_rfl) (by kernel_rfl) [9,10,11,12,8,13,0,1,2,3,4,5,6,7] (by kernel_rfl) (by decide) (by decide) (fD 8 (fD 8 (fD 8 (fD 8 (fD 8 (fD 8 (fD 8 (fD 8 (fY (fF ?_ (fF ?_ (fF ?_ (fF ?_ (fY (fN ?_ (fE 14 (fE 14 (trivial)))))))))))))))))) [] (fun q hq=>by cases hq) (fun hY=>absurd (hY 14 (by decide)) (by decide))
 ·exact fM 0 (some 4) d d d d (.inl d) d d d
 ·refine fJ [(19,_)] 1 [some 0] fun G a w S=>?_
  exact sExtract (vs:=[.agg #[iv a0.1.W,iv a0.1.H,.slice ab a0.1.Bits.length ac],iv a0.2.1,iv a0.2.2.1]) (.agg #[iv a0.1.W,iv a0.1.H,.slice ab a0.1.Bits.length ac]) S (wN d) d d d d (lb d) fun a S=>leafL ⟨d,S⟩
 ·refine fJ [(19,_)] 2 [some 0] fun G a w S=>?_
  exact sExtract (vs:=[.agg #[iv a0.1.W,iv a0.1.H,.slice ab a0.1.Bits.length ac],iv a0.2.1,iv a0.2.2.1]) (iv a0.2.1) S (wN d) d d d d (lb d) fun a S=>leafL ⟨d,S⟩
 ·refine fJ [(19,_)] 3 [some 0] fun G a w S=>?_
  exact sExtract (vs:=[.agg #[iv a0.1.W,iv a0.1.H,.slice ab a0.1.Bits.length ac],iv a0.2.1,iv a0.2.2.1]) (iv a0.2.2.1) S (wN d) d d d d (lb d) fun a S=>leafL ⟨d,S⟩
 refine ⟨_,[(4,.pointer (some ⟨aV,0,none⟩)),(29,.agg #[iv a0.1.W,iv a0.1.H,.slice ab a0.1.Bits.length ac])],d,(srcs_of [some 5,some 1] d d d),fun G a w S=>?_⟩
 refine sStore (p:=aV) (off:=0) (T:=24) (vs:=[iv 0,iv 0,.slice none 0 0]) (v:=.agg #[iv a0.1.W,iv a0.1.H,.slice ab a0.1.Bits.length ac]) 2 [iv a0.1.W,iv a0.1.H,.slice ab a0.1.Bits.length ac] S (wN d) d d d d d d d (by simp) d fun a w S=>leafL ⟨d,_,_,.inr ⟨[(15,5,iv a0.2.1),(16,6,iv a0.2.2.1)],d,S,hz_of d,?_⟩⟩
 refine node_by (A:=anc_reduce_search_from_s4_1) 17 (by kernel_rfl) (by kernel_rfl) (by kernel_rfl) (by kernel_rfl) (by kernel_rfl) [15,16,9,10,11,12,8,13,0,1,2,3,4,5,6,7] (by kernel_rfl) (by decide) (by decide) (fD 14 (fD 14 (fD 14 (fD 14 (fD 14 (fD 14 (fD 14 (fD 14 (fY (fD 14 (fD 14 (fF ?_ (fF ?_ (fY (fY (fF ?_ (fF ?_ (trivial)))))))))))))))))) [(0,.pointer (some ⟨bb0,0,none⟩)),(5,iv a0.2.1)] (fin_of [none,some 0] d (by kernel_rfl) (by kernel_rfl)) (fun _ a w S=>?_)
 ·refine fJ [(19,_)] 4 [some 2] fun G a w S=>?_
  exact sExtract (vs:=[.agg #[iv a0.1.W,iv a0.1.H,.slice ab a0.1.Bits.length ac],iv a0.2.1,iv a0.2.2.1]) (iv a0.2.1) S (wN d) d d d d (lb d) fun a S=>leafL ⟨d,S⟩
 ·refine fJ [(19,_)] 5 [some 2] fun G a w S=>?_
  exact sExtract (vs:=[.agg #[iv a0.1.W,iv a0.1.H,.slice ab a0.1.Bits.length ac],iv a0.2.1,iv a0.2.2.1]) (iv a0.2.2.1) S (wN d) d d d d (lb d) fun a S=>leafL ⟨d,S⟩
 ·exact fM 0 (some 4) d d d d (.inr d) d d d
 ·exact fM 1 (some 5) d d d d (.inr d) d d d
 have bm:=row_v (S.mem.hold (i:=2) (e:=eRow (rI .i64) 3 (.slice ad_0_1 p0.l.length cp_0_1) a0.2.2.2) d)
 rw [bm] at S
 exact leafT (⟨a0.2.1,a0.2.2.2,Option.some.inj h,ad_0_1,cp_0_1,S.fix [3,2] [1,2] (by decide) d d d⟩)
def anc_reduce_search_from_s3_0:List (List Nat):=[[],[0],[0,1],[0,1,2],[0,1,2,3],[],[5],[5,6],[5,6,7],[5,6,7,8],[0,1,2,3,4,5,6,7,8,9]]
def anc_reduce_search_from_s3_1:List (List Nat):=[[],[0],[0,1],[0,1,2],[],[4],[4,5],[4,5,6],[0,1,2,3,4,5,6,7],[0,1,2,3,4,5,6,7,8],[0,1,2,3,4,5,6,7,8,9],[0,1,2,3,4,5,6,7,8,9],[0,1,2,3,4,5,6,7,8,9],[],[0,1,2,3,4,5,6,7,8,9,10,13],[0,1,2,3,4,5,6,7,8,9,10,11,13,14],[0,1,2,3,4,5,6,7,8,9,10,11,12,13,14,15]]
def anc_reduce_search_from_s3_2:List (List Nat):=[[],[],[1],[1,2],[1,2,3],[],[5],[5,6],[5,6,7],[5,6,7,8],[5,6,7,8,9],[1,2,3,4,5,6,7,8,9,10],[0,1,2,3,4,5,6,7,8,9,10,11],[0,1,2,3,4,5,6,7,8,9,10,11,12],[0,1,2,3,4,5,6,7,8,9,10,11,12,13]]
noncomputable def reduce_search_from_s3_l1 (p0:reduce_search) (p1:Int):(Int × Int × Int × Int × List Int × List Int × Int)→Option ((Int × Int × Int × Int × List Int × List Int × Int) ⊕ (Int × Int × Int × List Int × List Int × Int)):=fun s0=>match s0 with
 | (a2,a3,a4,a5,a6,a7,a8)=>
  if decide (a2 < (if p0.k < (w64 (p1 + 1)) then p0.k else w64 (p1 + 1))) then
   (appO a6 ([a2]:List Int)).bind fun a9=>
   (F_reduce_search_from_s4 (reduce_search.mk (api_Grid.mk a3 a4 p0.g.Bits) a5 a9 a7 a8) (if p1 < (w64 (a2 + 1)) then w64 (a2 + 1) else p1)).bind fun a0=>
   (sliceO a0.l 0 (w64 ((a0.l.length:Int) - 1))).bind fun aa=>
   some (.inl (w64 (a2 + 1),a0.g.W,a0.g.H,a0.k,aa,a0.best,a0.least))
  else
   some (.inr (a3,a4,a5,a6,a7,a8))
noncomputable def F_reduce_search_from_s3 (p0:reduce_search) (p1:Int):Option reduce_search:=
 if (p0.l.length:Int) == p0.g.W then
  Option.bind (α:=(List Int × List Int × Int)) (
   Option.bind (α:=(Int × List Int)) (
    (F_reduce_Change_s1 p0.g p0.l).bind fun a2=>
    some (a2.2.1,a2.2.2.2)) fun (a3,a4)=>
   Option.bind (α:=Bool) (
    if p0.best.isEmpty then
     some true
    else
     some (decide (a3 < p0.least))) fun a5=>
   if a5 then
    (F_slices_Clone___int_int__s1 a4).bind fun a0=>
    (neO a0.1).bind fun af=>
    some (a0.2,a0.1,a3)
   else
    some (a4,p0.best,p0.least)) fun (o8,a6,a7)=>
  some (reduce_search.mk p0.g p0.k o8 a6 a7)
 else
  (whileO (reduce_search_from_s3_l1 p0 p1) (0,p0.g.W,p0.g.H,p0.k,p0.l,p0.best,p0.least)).bind fun (a8,a9,aa,ab,ac,ae)=>
   some (reduce_search.mk (api_Grid.mk a8 a9 p0.g.Bits) aa ab ac ae)
theorem c_reduce_search_from_s3 (E:Nat→Prop) (w0:World) (p0:reduce_search) (bb0:Nat) (u_0_0:Value) (ad_0_1:Option Addr) (cp_0_1:Nat) (u_0_2:Value) (p1:Int) (r:reduce_search) (h:F_reduce_search_from_s3 p0 p1=some r) (S:St0 E (keysL [eBox bb0 68 [iv p0.g.W,iv p0.g.H,u_0_0,iv p0.k,.slice ad_0_1 p0.l.length cp_0_1,u_0_2,iv p0.least],eRow (rI .i64) 3 (.slice ad_0_1 p0.l.length cp_0_1) p0.l]) w0 w0 [eBox bb0 68 [iv p0.g.W,iv p0.g.H,u_0_0,iv p0.k,.slice ad_0_1 p0.l.length cp_0_1,u_0_2,iv p0.least],eRow (rI .i64) 3 (.slice ad_0_1 p0.l.length cp_0_1) p0.l] [fRep (rL rB) (u_0_0) p0.g.Bits,fRep (rLz (rI .i64)) (u_0_2) p0.best]) :
 Calls Try.prog 41 #[.pointer (some ⟨bb0,0,none⟩),iv p1] w0 (Ret (X:=Option Addr × Nat × Value) E (keysL [eBox bb0 68 [iv p0.g.W,iv p0.g.H,u_0_0,iv p0.k,.slice ad_0_1 p0.l.length cp_0_1,u_0_2,iv p0.least],eRow (rI .i64) 3 (.slice ad_0_1 p0.l.length cp_0_1) p0.l]) w0 (fun _=>.tuple #[]) (fun x=>[eBox bb0 68 [iv r.g.W,iv r.g.H,u_0_0,iv r.k,.slice x.1 r.l.length x.2.1,x.2.2,iv r.least],eRow (rI .i64) 3 (.slice x.1 r.l.length x.2.1) r.l]) (fun x=>[fRep (rLz (rI .i64)) x.2.2 r.best])):=by
 unfold F_reduce_search_from_s3 at h
 obtain ⟨a2,a3,_,rfl,_⟩:=S.know (i:=0) (e:=fRep (rL rB) (u_0_0) p0.g.Bits) d
 obtain ⟨⟨ak,al,_,rfl,_⟩,_⟩:=S.know (i:=1) (e:=fRep (rLz (rI .i64)) (u_0_2) p0.best) d
 generalize (keysL [eBox bb0 68 [iv p0.g.W,iv p0.g.H,.slice a2 p0.g.Bits.length a3,iv p0.k,.slice ad_0_1 p0.l.length cp_0_1,.slice ak p0.best.length al,iv p0.least],eRow (rI .i64) 3 (.slice ad_0_1 p0.l.length cp_0_1) p0.l])=M9 at S ⊢
 refine sEnter (args:=[.pointer (some ⟨bb0,0,none⟩),iv p1]) 98 Try.func41 d d (by simp) S (fun a S=>?_)
 refine sSeq (fun K5 bn=>sSeq (fun K6 bo=>sDraw (nf:=[]) (W:=[(0,8,.pointer (some ⟨bb0,0,none⟩)),(1,9,.pointer (some ⟨bb0,0,none⟩)),(2,10,.pointer (some ⟨bb0,4,none⟩)),(3,11,.slice ad_0_1 p0.l.length cp_0_1),(4,12,iv (p0.l.length:Int)),(5,13,.pointer (some ⟨bb0,0,none⟩)),(6,14,.pointer (some ⟨bb0,0,none⟩)),(7,15,.pointer (some ⟨bb0,0,none⟩)),(8,16,.pointer (some ⟨bb0,0,none⟩)),(9,17,iv p0.g.W),(10,18,.bool ((p0.l.length:Int) == p0.g.W))]) d S ?_))
 refine node_by (A:=anc_reduce_search_from_s3_0) 11 (by kernel_rfl) (by kernel_rfl) (by kernel_rfl) (by kernel_rfl) (by kernel_rfl) [0,1,2,3,4,5,6,7,8,9,10] (by kernel_rfl) (by decide) (by decide) (fF ?_ (fF ?_ (fF ?_ (fF ?_ (fF ?_ (fF ?_ (fF ?_ (fF ?_ (fF ?_ (fF ?_ (fF ?_ (trivial)))))))))))) [(0,.pointer (some ⟨bb0,0,none⟩)),(1,iv p1),(18,.bool ((p0.l.length:Int) == p0.g.W))] (fin_of [none,none,some 10] d (by kernel_rfl) (by kernel_rfl)) (fun _ a w S=>?_)
 ·exact fM 0 none d d d d (.inl d) d d d
 ·refine fJ [(8,_)] 1 [some 0] fun G a w S=>?_
  exact nilCheck_ok (q:=⟨bb0,0,none⟩) S (wN d) d d d (lb d) fun a S=>leafL ⟨d,S⟩
 ·refine fJ [(9,_)] 2 [some 1] fun G a w S=>?_
  exact sField (b:=bb0) (off:=0) 4 4 S (wN d) d d d d d (lb d) fun a S=>leafL ⟨d,S⟩
 ·refine fJ [(10,_)] 3 [some 2] fun G a w S=>?_
  exact sLoad1 0 (.slice ad_0_1 p0.l.length cp_0_1) S (wN d) d d d d d d (lb d) fun a S=>leafL ⟨d,S⟩
 ·refine fJ [(11,_)] 4 [some 3] fun G a w S=>?_
  exact sLen S (wN d) d Try.underlying25 d d (lb d) fun a S=>leafL ⟨d,S⟩
 ·exact fM 5 none d d d d (.inl d) d d d
 ·refine fJ [(13,_)] 6 [some 5] fun G a w S=>?_
  exact nilCheck_ok (q:=⟨bb0,0,none⟩) S (wN d) d d d (lb d) fun a S=>leafL ⟨d,S⟩
 ·refine fJ [(14,_)] 7 [some 6] fun G a w S=>?_
  exact sField (b:=bb0) (off:=0) 0 0 S (wN d) d d d d d (lb d) fun a S=>leafL ⟨d,S⟩
 ·refine fJ [(15,_)] 8 [some 7] fun G a w S=>?_
  exact sField (b:=bb0) (off:=0) 0 0 S (wN d) d d d d d (lb d) fun a S=>leafL ⟨d,S⟩
 ·refine fJ [(16,_)] 9 [some 8] fun G a w S=>?_
  exact sLoad1 0 (iv p0.g.W) S (wN d) d d d d d d (lb d) fun a S=>leafL ⟨d,S⟩
 ·refine fJ [(12,_),(17,_)] 10 [some 4,some 9] fun G a w S=>?_
  exact sBin _ S (wN d) d d d (bEq _ _ _ _ .i64 (p0.l.length:Int) p0.g.W) d (lb d) fun a S=>leafL ⟨d,S⟩
 refine leafT (bo _ _ ?_)
 rcases iS h with ⟨aW,h⟩ | ⟨aW,h⟩
 rotate_left
 ·refine sCondF S d aW (wp_skip (leafT (bn _ _ ?_)))
  refine sSeq (fun bz aX=>sRegion (sM S fun a S=>?_))
  refine sBin _ S (wN d) d d d (bAdd _ _ _ _ p1 1) d (lb d) fun a S=>sM S fun a S=>?_
  refine nilCheck_ok (q:=⟨bb0,0,none⟩) S (wN d) d d d (lb d) fun a S=>sField (b:=bb0) (off:=0) 3 3 S (wN d) d d d d d (lb d) fun a S=>sLoad1 0 (iv p0.k) S (wN d) d d d d d d (lb d) fun a S=>sMin2 (p:=w64 (p1 + 1)) (q:=p0.k) S (wN d) d d d d (lb d) fun a S=>sM S fun a S=>?_
  refine lT (aX _ _ (wp_block ?_))
  obtain ⟨bA,hl,bp⟩:=bS h
  refine sLoop hl (fun s0 a w=>match s0 with | (af,aJ,aK,aL,aA,ar,aM)=>∃ am,∃ ao,∃ ah,∃ ai,St [] E M9 w0 98 a w [(0,.pointer (some ⟨bb0,0,none⟩)),(1,iv p1),(63,iv (if p0.k < (w64 (p1 + 1)) then p0.k else w64 (p1 + 1))),(64,iv af)] [eBox bb0 68 [iv aJ,iv aK,.slice a2 p0.g.Bits.length a3,iv aL,.slice am aA.length ao,.slice ah ar.length ai,iv aM],eRow (rI .i64) 3 (.slice am aA.length ao) aA] [fRep (rL rB) (.slice a2 p0.g.Bits.length a3) p0.g.Bits,fRep (rLz (rI .i64)) (.slice ah ar.length ai) ar]) ⟨ad_0_1,cp_0_1,ak,al,S.fix [0,1] [0,1] (by decide) d d d⟩ ?_
  clear hl h
  intro s0 a w c0 hI h aZ
  obtain ⟨af,aJ,aK,aL,aA,ar,aM⟩:=s0
  unfold reduce_search_from_s3_l1 at h
  dsimp only at h hI
  obtain ⟨am,ao,ah,ai,S⟩:=hI
  refine sSeq (fun bB b1=>sRegion (sBin _ S (wN d) d d d (bLt _ _ _ _ .i64 af (if p0.k < (w64 (p1 + 1)) then p0.k else w64 (p1 + 1))) d (lb d) fun a S=>lT (b1 _ _ (sSeq (fun bC b3=>?_)))))
  rcases iS h with ⟨aC,h⟩ | ⟨aC,h⟩
  rotate_left
  ·refine sCondF S d aC ?_
   obtain rfl:=tS h
   obtain rfl:=aZ _ d
   have h:=bp
   try dsimp only at h
   obtain rfl:=tS h
   exact wp_exit (xThen (xThen (xHit (sEnd (.tuple #[]) S (rsl0 d ) ⟨(am,ao,(.slice ah ar.length ai)),d,S.mem.sel [0,1] [1] (by decide) d d⟩))))
  refine sCondT S d aC (wp_skip (leafT (b3 _ _ ?_)))
  refine sSeq (fun bD b4=>wp_block ?_)
  refine sSeq (fun bE b5=>sRegion (sM S fun a S=>?_))
  refine sN S fun a S=>?_
  refine lT (b5 _ _ (sSeq (fun bG b8=>sRegion (sM S fun a S=>?_))))
  refine sM S fun a S=>?_
  refine nilCheck_ok (q:=⟨bb0,0,none⟩) S (wN d) d d d (lb d) fun a S=>sField (b:=bb0) (off:=0) 4 4 S (wN d) d d d d d (lb d) fun a S=>sLoad1 0 (.slice am aA.length ao) S (wN d) d d d d d d (lb d) fun a S=>sM S fun a S=>?_
  refine sLit (r:=(rI .i64)) (T:=3) (xs:=([af]:List Int)) [(0,iv af)] 1 [iv af] [iv af] (iv 0) 8 S (wN d) d d Try.underlying25 d (by decide) (by decide) (by kernel_rfl) d (fun E1 w1 hE=>All.cons d (All.nil _ _ _)) d d (lb d) fun a w aO aP S=>?_
  obtain ⟨aH,b9,h⟩:=bS h
  refine sApp (r:=(rI .i64)) (T:=3) (xs:=aA) (ys:=([af]:List Int)) (v:=.slice am aA.length ao) (u:=.slice aO ([af]:List Int).length aP) 2 (iv 0) 8 S (wN d) d Try.underlying25 d d (by decide) d d d (src_R (T:=3) 0 S.mem d) b9 d (lb d) fun a w au av S=>nilCheck_ok (q:=⟨bb0,0,none⟩) S (wN d) d d d (lb d) fun a S=>sField (b:=bb0) (off:=0) 4 4 S (wN d) d d d d d (lb d) fun a S=>sStore (p:=bb0) (off:=4) (T:=68) (vs:=[iv aJ,iv aK,.slice a2 p0.g.Bits.length a3,iv aL,.slice am aA.length ao,.slice ah ar.length ai,iv aM]) (v:=.slice au aH.length av) 2 [.slice au aH.length av] S (wN d) d d d d d d d (by simp) d fun a w S=>lT (b8 _ _ (sSeq (fun bH ba=>sRegion (sM S fun a S=>?_))))
  refine sM S fun a S=>?_
  refine sM S fun a S=>?_
  refine sBin _ S (wN d) d d d (bAdd _ _ _ _ af 1) d (lb d) fun a S=>sMax2 (p:=p1) (q:=w64 (af + 1)) S (wN d) d d d d (lb d) fun a S=>?_
  obtain ⟨a4,bb,h⟩:=bS h
  refine sCall (X:=Option Addr × Nat × Value) (f:=41) (vs:=[.pointer (some ⟨bb0,0,none⟩),iv (if p1 < (w64 (af + 1)) then w64 (af + 1) else p1)]) (val:=fun _=>.tuple #[]) (B':=fun x=>[eBox bb0 68 [iv a4.g.W,iv a4.g.H,.slice a2 p0.g.Bits.length a3,iv a4.k,.slice x.1 a4.l.length x.2.1,x.2.2,iv a4.least],eRow (rI .i64) 3 (.slice x.1 a4.l.length x.2.1) a4.l]) (D':=fun x=>[fRep (rLz (rI .i64)) x.2.2 a4.best]) [eBox bb0 68 [iv aJ,iv aK,.slice a2 p0.g.Bits.length a3,iv aL,.slice au aH.length av,.slice ah ar.length ai,iv aM],eRow (rI .i64) 3 (.slice au aH.length av) aH] [eRow (rI .i64) 3 (.slice aO ([af]:List Int).length aP) ([af]:List Int)] [fRep (rL rB) (.slice a2 p0.g.Bits.length a3) p0.g.Bits,fRep (rLz (rI .i64)) (.slice ah ar.length ai) ar] [0,1,2] [0,1] S (wN d) d callee41 d (by decide) d d (fun E1 w1 S1=>c_reduce_search_from_s4 E1 w1 (reduce_search.mk (api_Grid.mk aJ aK p0.g.Bits) aL aH ar aM) bb0 (.slice a2 p0.g.Bits.length a3) au av (.slice ah ar.length ai) (if p1 < (w64 (af + 1)) then w64 (af + 1) else p1) a4 bb S1) d (lb d) fun xx a w S=>?_
  obtain ⟨a9,aa,bq⟩:=xx
  dsimp only at S
  obtain ⟨⟨aQ,aR,_,rfl,_⟩,_⟩:=S.mem.know (i:=0) (e:=fRep (rLz (rI .i64)) (bq) a4.best) d
  refine lT (ba _ _ ?_)
  obtain ⟨aS,bc,h⟩:=bS h
  refine sDraw (nf:=[11,14]) (W:=[(0,83,.pointer (some ⟨bb0,0,none⟩)),(1,84,.pointer (some ⟨bb0,0,none⟩)),(2,85,.pointer (some ⟨bb0,0,none⟩)),(3,86,.pointer (some ⟨bb0,4,none⟩)),(4,87,.slice a9 a4.l.length aa),(5,88,.pointer (some ⟨bb0,0,none⟩)),(6,89,.pointer (some ⟨bb0,0,none⟩)),(7,90,.pointer (some ⟨bb0,4,none⟩)),(8,91,.slice a9 a4.l.length aa),(9,92,iv (a4.l.length:Int)),(10,93,iv (w64 ((a4.l.length:Int) - 1)))]) d S ?_
  refine node_by (A:=anc_reduce_search_from_s3_2) 15 (by kernel_rfl) (by kernel_rfl) (by kernel_rfl) (by kernel_rfl) (by kernel_rfl) [0,1,2,3,4,5,6,7,8,9,10] (by kernel_rfl) (by decide) (by decide) (fF ?_ (fF ?_ (fF ?_ (fF ?_ (fF ?_ (fF ?_ (fF ?_ (fF ?_ (fF ?_ (fF ?_ (fF ?_ (fN ?_ (fE 11 (fE 11 (aB 14 0 11 (by decide) (trivial)))))))))))))))) [] (fun q hq=>by cases hq) (fun hY=>absurd (hY 11 (by decide)) (by decide))
  ·exact fM 0 none d d d d (.inl d) d d d
  ·exact fM 1 none d d d d (.inl d) d d d
  ·refine fJ [(84,_)] 2 [some 1] fun G a w S=>?_
   exact nilCheck_ok (q:=⟨bb0,0,none⟩) S (wN d) d d d (lb d) fun a S=>leafL ⟨d,S⟩
  ·refine fJ [(85,_)] 3 [some 2] fun G a w S=>?_
   exact sField (b:=bb0) (off:=0) 4 4 S (wN d) d d d d d (lb d) fun a S=>leafL ⟨d,S⟩
  ·refine fJ [(86,_)] 4 [some 3] fun G a w S=>?_
   exact sLoad1 0 (.slice a9 a4.l.length aa) S (wN d) d d d d d d (lb d) fun a S=>leafL ⟨d,S⟩
  ·exact fM 5 none d d d d (.inl d) d d d
  ·refine fJ [(88,_)] 6 [some 5] fun G a w S=>?_
   exact nilCheck_ok (q:=⟨bb0,0,none⟩) S (wN d) d d d (lb d) fun a S=>leafL ⟨d,S⟩
  ·refine fJ [(89,_)] 7 [some 6] fun G a w S=>?_
   exact sField (b:=bb0) (off:=0) 4 4 S (wN d) d d d d d (lb d) fun a S=>leafL ⟨d,S⟩
  ·refine fJ [(90,_)] 8 [some 7] fun G a w S=>?_
   exact sLoad1 0 (.slice a9 a4.l.length aa) S (wN d) d d d d d d (lb d) fun a S=>leafL ⟨d,S⟩
  ·refine fJ [(91,_)] 9 [some 8] fun G a w S=>?_
   exact sLen S (wN d) d Try.underlying25 d d (lb d) fun a S=>leafL ⟨d,S⟩
  ·refine fJ [(92,_)] 10 [some 9] fun G a w S=>?_
   exact sBin _ S (wN d) d d d (bSub _ _ _ _ (a4.l.length:Int) 1) d (lb d) fun a S=>leafL ⟨d,S⟩
  refine ⟨_,[(87,.slice a9 a4.l.length aa),(93,iv (w64 ((a4.l.length:Int) - 1)))],d,(srcs_of [some 4,some 10] d d d),fun G a w S=>?_⟩
  refine sSliceT (r:=(rI .i64)) (T:=3) (ad:=a9) (c:=aa) (xs:=a4.l) (vlo:=none) (vhi:=(some (.int .i64 (w64 ((a4.l.length:Int) - 1))))) (hi':=w64 ((a4.l.length:Int) - 1)) 1 S (wN d) d Try.underlying25 d d d d d (.inr d) (.inl d) bc d (lb d) fun a S=>?_
  refine leafL ⟨d,_,_,.inl ⟨94,(.slice a9 aS.length aa),[(12,95,.pointer (some ⟨bb0,0,none⟩)),(13,96,.pointer (some ⟨bb0,4,none⟩))],d,S,hz_of d,?_⟩⟩
  refine node_by (A:=anc_reduce_search_from_s3_2) 15 (by kernel_rfl) (by kernel_rfl) (by kernel_rfl) (by kernel_rfl) (by kernel_rfl) [12,13,11,0,1,2,3,4,5,6,7,8,9,10] (by kernel_rfl) (by decide) (by decide) (fF ?_ (fD 11 (fD 11 (fD 11 (fD 11 (fD 11 (fD 11 (fD 11 (fD 11 (fD 11 (fD 11 (fY (fF ?_ (fF ?_ (fN ?_ (trivial)))))))))))))))) [] (fun q hq=>by cases hq) (fun hY=>absurd (hY 14 (by decide)) (by decide))
  ·exact fM 3 none d d d d (.inl d) d d d
  ·refine fJ [(83,_)] 0 [some 3] fun G a w S=>?_
   exact nilCheck_ok (q:=⟨bb0,0,none⟩) S (wN d) d d d (lb d) fun a S=>leafL ⟨d,S⟩
  ·refine fJ [(95,_)] 1 [some 0] fun G a w S=>?_
   exact sField (b:=bb0) (off:=0) 4 4 S (wN d) d d d d d (lb d) fun a S=>leafL ⟨d,S⟩
  refine ⟨_,[(94,.slice a9 aS.length aa),(96,.pointer (some ⟨bb0,4,none⟩))],d,(srcs_of [some 2,some 1] d d d),fun G a w S=>?_⟩
  refine sStore (p:=bb0) (off:=4) (T:=68) (vs:=[iv a4.g.W,iv a4.g.H,.slice a2 p0.g.Bits.length a3,iv a4.k,.slice a9 a4.l.length aa,.slice aQ a4.best.length aR,iv a4.least]) (v:=.slice a9 aS.length aa) 1 [.slice a9 aS.length aa] S (wN d) d d d d d d d (by simp) d fun a w S=>leafL ⟨d,_,_,.inr ⟨[],d,S,hz_of d,?_⟩⟩
  refine node_by (A:=anc_reduce_search_from_s3_2) 15 (by kernel_rfl) (by kernel_rfl) (by kernel_rfl) (by kernel_rfl) (by kernel_rfl) [12,13,11,0,1,2,3,4,5,6,7,8,9,10] (by kernel_rfl) (by decide) (by decide) (fD 14 (fD 14 (fD 14 (fD 14 (fD 14 (fD 14 (fD 14 (fD 14 (fD 14 (fD 14 (fD 14 (fY (fD 14 (fD 14 (fY (trivial)))))))))))))))) [(0,.pointer (some ⟨bb0,0,none⟩)),(1,iv p1),(63,iv (if p0.k < (w64 (p1 + 1)) then p0.k else w64 (p1 + 1))),(64,iv af)] (fin_of [none,none,none,none] d (by kernel_rfl) (by kernel_rfl)) (fun _ a w S=>?_)
  refine leafB (leafT (b4 _ _ ?_))
  refine sRegion (sBin _ S (wN d) d d d (bAdd _ _ _ _ af 1) d (lb d) fun a S=>sM S fun a S=>?_)
  exact lT (⟨(w64 (af + 1),a4.g.W,a4.g.H,a4.k,aS,a4.best,a4.least),(Option.some.inj h).symm,⟨a9,aa,aQ,aR,S.fix [0,1] [1,0] (by decide) d d d⟩⟩)
 refine sCondT S d aW ?_
 obtain ⟨br,h,bt⟩:=bS h
 refine sCut (fun a w=>∃ o8,∃ aI,∃ bf,(o8,aI,bf)=br∧∃ aU,∃ ax,∃ ay,∃ az,St [] E M9 w0 98 a w [] [eBox bb0 68 [iv p0.g.W,iv p0.g.H,.slice a2 p0.g.Bits.length a3,iv p0.k,.slice aU o8.length ax,.slice ay aI.length az,iv bf],eRow (rI .i64) 3 (.slice aU o8.length ax) o8] [fRep (rL rB) (.slice a2 p0.g.Bits.length a3) p0.g.Bits,fRep (rLz (rI .i64)) (.slice ay aI.length az) aI]) ?_ (fun a w hI=>?_)
 rotate_left
 ·obtain ⟨o8,aI,bf,rfl,aU,ax,ay,az,S⟩:=hI
  have h:=bt
  try dsimp only at h
  obtain rfl:=tS h
  exact wp_ret (rThen (sRet (.tuple #[]) S (rsl0 d ) ⟨(aU,ax,(.slice ay aI.length az)),d,S.mem.sel [0,1] [1] (by decide) d d⟩))
 obtain ⟨bu,h,bv⟩:=bS h
 refine sCut (fun a w=>∃ aw,∃ aj,(aw,aj)=bu∧∃ a5,∃ a6,St [] E M9 w0 98 a w [(0,.pointer (some ⟨bb0,0,none⟩)),(5,iv aw)] [eBox bb0 68 [iv p0.g.W,iv p0.g.H,.slice a2 p0.g.Bits.length a3,iv p0.k,.slice a5 aj.length a6,.slice ak p0.best.length al,iv p0.least],eRow (rI .i64) 3 (.slice a5 aj.length a6) aj] [fRep (rL rB) (.slice a2 p0.g.Bits.length a3) p0.g.Bits,fRep (rLz (rI .i64)) (.slice ak p0.best.length al) p0.best]) ?_ (fun a w hI=>?_)
 rotate_left
 ·obtain ⟨aw,aj,rfl,a5,a6,S⟩:=hI
  have h:=bv
  try dsimp only at h
  obtain ⟨bw,h,bx⟩:=bS h
  refine sCut (fun a w=>∃ bg,bg=bw∧St [] E M9 w0 98 a w [(0,.pointer (some ⟨bb0,0,none⟩)),(5,iv aw),(44,.bool bg)] [eBox bb0 68 [iv p0.g.W,iv p0.g.H,.slice a2 p0.g.Bits.length a3,iv p0.k,.slice a5 aj.length a6,.slice ak p0.best.length al,iv p0.least],eRow (rI .i64) 3 (.slice a5 aj.length a6) aj] [fRep (rL rB) (.slice a2 p0.g.Bits.length a3) p0.g.Bits,fRep (rLz (rI .i64)) (.slice ak p0.best.length al) p0.best]) ?_ (fun a w hI=>?_)
  ·refine sRegion (sM S fun a S=>?_)
   refine nilCheck_ok (q:=⟨bb0,0,none⟩) S (wN d) d d d (lb d) fun a S=>sField (b:=bb0) (off:=0) 5 5 S (wN d) d d d d d (lb d) fun a S=>sLoad1 0 (.slice ak p0.best.length al) S (wN d) d d d d d d (lb d) fun a S=>sBin _ S (wN d) d d d (bEqNilZ _ _ _ _ Try.underlying25 ak (p0.best.length) (al) (rLz_is (S.mem.know (i:=1) (e:=fRep (rLz (rI .i64)) (.slice ak p0.best.length al) p0.best) d))) d (lb d) fun a S=>sM S fun a S=>?_
   rcases iS h with ⟨ae,h⟩ | ⟨ae,h⟩
   ·refine sSkN 6 5 false 37 S d d ae d fun a S=>sPickT (.bool true) S (wN d) d d ae d d (lb d) fun a S=>?_
    exact lT (⟨true,Option.some.inj h,S.fix [0,1] [0,1] (by decide) d d d⟩)
   refine sMove (iv aw) S (wG 5 false 37 d d d ae) (.inl d) d d (lb d) fun a S=>sMove (.pointer (some ⟨bb0,0,none⟩)) S (wG 5 false 37 d d d ae) (.inl d) d d (lb d) fun a S=>nilCheck_ok (q:=⟨bb0,0,none⟩) S (wG 5 false 37 d d d ae) d d d (lb d) fun a S=>sField (b:=bb0) (off:=0) 6 6 S (wG 5 false 37 d d d ae) d d d d d (lb d) fun a S=>sLoad1 0 (iv p0.least) S (wG 5 false 37 d d d ae) d d d d d d (lb d) fun a S=>sBin _ S (wG 5 false 37 d d d ae) d d d (bLt _ _ _ _ .i64 aw p0.least) d (lb d) fun a S=>sPickF (.bool (decide (aw < p0.least))) S (wN d) d d ae d d (lb d) fun a S=>?_
   exact lT (⟨decide (aw < p0.least),Option.some.inj h,S.fix [0,1] [0,1] (by decide) d d d⟩)
  obtain ⟨bg,rfl,S⟩:=hI
  have h:=bx
  try dsimp only at h
  rcases iS h with ⟨aG,h⟩ | ⟨aG,h⟩
  rotate_left
  ·refine sCondF S d aG ?_
   exact wp_skip (leafT (⟨aj,p0.best,p0.least,Option.some.inj h,a5,a6,ak,al,S.fix [0,1] [0,1] (by decide) d d d⟩))
  refine sCondT S d aG (sRegion (sM S fun a S=>?_))
  refine sM S fun a S=>?_
  refine sM S fun a S=>?_
  refine nilCheck_ok (q:=⟨bb0,0,none⟩) S (wN d) d d d (lb d) fun a S=>sField (b:=bb0) (off:=0) 4 4 S (wN d) d d d d d (lb d) fun a S=>sLoad1 0 (.slice a5 aj.length a6) S (wN d) d d d d d d (lb d) fun a S=>?_
  obtain ⟨ag,bh,h⟩:=bS h
  refine sCall (X:=Option Addr × Nat) (f:=49) (vs:=[.slice a5 aj.length a6]) (val:=fun x=>.slice x.1 ag.1.length x.2) (B':=fun x=>[eRow (rI .i64) 3 (.slice x.1 ag.1.length x.2) ag.1,eRow (rI .i64) 3 (.slice a5 aj.length a6) ag.2]) (D':=fun _=>[]) [eRow (rI .i64) 3 (.slice a5 aj.length a6) aj] [eBox bb0 68 [iv p0.g.W,iv p0.g.H,.slice a2 p0.g.Bits.length a3,iv p0.k,.slice a5 aj.length a6,.slice ak p0.best.length al,iv p0.least]] [] [1,0] [] S (wN d) d callee49 d (by decide) d d (fun E1 w1 S1=>c_slices_Clone___int_int__s1 E1 w1 aj a5 a6 ag bh S1) d (lb d) fun xx a w S=>?_
  obtain ⟨ap,aq⟩:=xx
  dsimp only at S
  have bi:=row_v (S.mem.hold (i:=1) (e:=eRow (rI .i64) 3 (.slice a5 aj.length a6) ag.2) d)
  rw [bi] at S
  refine sM S fun a S=>?_
  refine nilCheck_ok (q:=⟨bb0,0,none⟩) S (wN d) d d d (lb d) fun a S=>sField (b:=bb0) (off:=0) 5 5 S (wN d) d d d d d (lb d) fun a S=>?_
  have S:=S.shutR (r:=(rI .i64)) (T:=3) (v:=.slice ap ag.1.length aq) (xs:=ag.1) 0 d
  obtain ⟨bI,bj,h⟩:=bS h
  have S:=S.learn (fRep (rLz (rI .i64)) (.slice ap ag.1.length aq) ag.1) (rLz_of (S.mem.know (i:=0) (e:=fRep (rL (rI .i64)) (.slice ap ag.1.length aq) ag.1) d) bj)
  refine sStore (p:=bb0) (off:=5) (T:=68) (vs:=[iv p0.g.W,iv p0.g.H,.slice a2 p0.g.Bits.length a3,iv p0.k,.slice a5 ag.2.length a6,.slice ak p0.best.length al,iv p0.least]) (v:=.slice ap ag.1.length aq) 1 [.slice ap ag.1.length aq] S (wN d) d d d d d d d (by simp) d fun a w S=>nilCheck_ok (q:=⟨bb0,0,none⟩) S (wN d) d d d (lb d) fun a S=>sField (b:=bb0) (off:=0) 6 6 S (wN d) d d d d d (lb d) fun a S=>sStore (p:=bb0) (off:=6) (T:=68) (vs:=[iv p0.g.W,iv p0.g.H,.slice a2 p0.g.Bits.length a3,iv p0.k,.slice a5 ag.2.length a6,.slice ap ag.1.length aq,iv p0.least]) (v:=iv aw) 0 [iv aw] S (wN d) d d d d d d d (by simp) d fun a w S=>?_
  exact lT (⟨ag.2,ag.1,aw,Option.some.inj h,a5,a6,ap,aq,S.fix [0,1] [2,0] (by decide) d d d⟩)
 obtain ⟨a0,aT,h⟩:=bS h
 refine sDraw (nf:=[8,13,14]) (W:=[(0,20,.pointer (some ⟨bb0,0,none⟩)),(1,21,.pointer (some ⟨bb0,0,none⟩)),(2,22,.pointer (some ⟨bb0,0,none⟩)),(3,23,.agg #[iv p0.g.W,iv p0.g.H,.slice a2 p0.g.Bits.length a3]),(4,24,.pointer (some ⟨bb0,0,none⟩)),(5,25,.pointer (some ⟨bb0,0,none⟩)),(6,26,.pointer (some ⟨bb0,4,none⟩)),(7,27,.slice ad_0_1 p0.l.length cp_0_1)]) d S ?_
 refine node_by (A:=anc_reduce_search_from_s3_1) 17 (by kernel_rfl) (by kernel_rfl) (by kernel_rfl) (by kernel_rfl) (by kernel_rfl) [0,1,2,3,4,5,6,7] (by kernel_rfl) (by decide) (by decide) (fF ?_ (fF ?_ (fF ?_ (fF ?_ (fF ?_ (fF ?_ (fF ?_ (fF ?_ (fN ?_ (fE 8 (fE 8 (fE 8 (fE 8 (fN ?_ (aB 14 2 8 (by decide) (fE 8 (fE 8 (trivial)))))))))))))))))) [] (fun q hq=>by cases hq) (fun hY=>absurd (hY 8 (by decide)) (by decide))
 ·exact fM 0 none d d d d (.inl d) d d d
 ·refine fJ [(20,_)] 1 [some 0] fun G a w S=>?_
  exact nilCheck_ok (q:=⟨bb0,0,none⟩) S (wN d) d d d (lb d) fun a S=>leafL ⟨d,S⟩
 ·refine fJ [(21,_)] 2 [some 1] fun G a w S=>?_
  exact sField (b:=bb0) (off:=0) 0 0 S (wN d) d d d d d (lb d) fun a S=>leafL ⟨d,S⟩
 ·refine fJ [(22,_)] 3 [some 2] fun G a w S=>?_
  exact sLoadN (p:=bb0) (off:=0) (T:=68) (vs:=[iv p0.g.W,iv p0.g.H,.slice a2 p0.g.Bits.length a3,iv p0.k,.slice ad_0_1 p0.l.length cp_0_1,.slice ak p0.best.length al,iv p0.least]) 0 [iv p0.g.W,iv p0.g.H,.slice a2 p0.g.Bits.length a3] S (wN d) d d d d d d d (lb d) fun a S=>leafL ⟨d,S⟩
 ·exact fM 4 none d d d d (.inl d) d d d
 ·refine fJ [(24,_)] 5 [some 4] fun G a w S=>?_
  exact nilCheck_ok (q:=⟨bb0,0,none⟩) S (wN d) d d d (lb d) fun a S=>leafL ⟨d,S⟩
 ·refine fJ [(25,_)] 6 [some 5] fun G a w S=>?_
  exact sField (b:=bb0) (off:=0) 4 4 S (wN d) d d d d d (lb d) fun a S=>leafL ⟨d,S⟩
 ·refine fJ [(26,_)] 7 [some 6] fun G a w S=>?_
  exact sLoad1 0 (.slice ad_0_1 p0.l.length cp_0_1) S (wN d) d d d d d d (lb d) fun a S=>leafL ⟨d,S⟩
 ·refine ⟨_,[(23,.agg #[iv p0.g.W,iv p0.g.H,.slice a2 p0.g.Bits.length a3]),(27,.slice ad_0_1 p0.l.length cp_0_1)],d,(srcs_of [some 3,some 7] d d d),fun G a w S=>?_⟩
  have S:=S.learn (fRep r_api_Grid (.agg #[iv p0.g.W,iv p0.g.H,.slice a2 p0.g.Bits.length a3]) p0.g) ⟨_,d,S.mem.know (i:=0) (e:=fRep (rL rB) (.slice a2 p0.g.Bits.length a3) p0.g.Bits) d⟩
  refine sCall (X:=Option Addr × Nat) (f:=12) (vs:=[.agg #[iv p0.g.W,iv p0.g.H,.slice a2 p0.g.Bits.length a3],.slice ad_0_1 p0.l.length cp_0_1]) (val:=fun x=>.tuple #[.agg #[iv a0.1.W,iv a0.1.H,.slice x.1 a0.1.Bits.length x.2],iv a0.2.1,iv a0.2.2.1]) (B':=fun x=>[eRow rB 4 (.slice x.1 a0.1.Bits.length x.2) a0.1.Bits,eRow (rI .i64) 3 (.slice ad_0_1 p0.l.length cp_0_1) a0.2.2.2]) (D':=fun _=>[]) [eRow (rI .i64) 3 (.slice ad_0_1 p0.l.length cp_0_1) p0.l] [eBox bb0 68 [iv p0.g.W,iv p0.g.H,.slice a2 p0.g.Bits.length a3,iv p0.k,.slice ad_0_1 p0.l.length cp_0_1,.slice ak p0.best.length al,iv p0.least]] [fRep r_api_Grid (.agg #[iv p0.g.W,iv p0.g.H,.slice a2 p0.g.Bits.length a3]) p0.g] [1,0] [0] S (wN d) d callee12 d (by decide) d d (fun E1 w1 S1=>c_reduce_Change_s1 E1 w1 p0.g (.agg #[iv p0.g.W,iv p0.g.H,.slice a2 p0.g.Bits.length a3]) p0.l ad_0_1 cp_0_1 a0 aT S1) d (lb d) fun xx a w S=>?_
  obtain ⟨a7,a8⟩:=xx
  dsimp only at S
  refine leafL ⟨d,_,_,.inl ⟨28,(.tuple #[.agg #[iv a0.1.W,iv a0.1.H,.slice a7 a0.1.Bits.length a8],iv a0.2.1,iv a0.2.2.1]),[(9,19,.tuple #[.agg #[iv a0.1.W,iv a0.1.H,.slice a7 a0.1.Bits.length a8],iv a0.2.1,iv a0.2.2.1]),(10,29,.agg #[iv a0.1.W,iv a0.1.H,.slice a7 a0.1.Bits.length a8]),(11,30,iv a0.2.1),(12,31,iv a0.2.2.1)],d,S,hz_of d,?_⟩⟩
  refine node_by (A:=anc_reduce_search_from_s3_1) 17 (by kernel_rfl) (by kernel_rfl) (by kernel_rfl) (by kernel_rfl) (by kernel_rfl) [9,10,11,12,8,0,1,2,3,4,5,6,7] (by kernel_rfl) (by decide) (by decide) (fD 8 (fD 8 (fD 8 (fD 8 (fD 8 (fD 8 (fD 8 (fD 8 (fY (fF ?_ (fF ?_ (fF ?_ (fF ?_ (fN ?_ (aB 14 2 13 (by decide) (fE 13 (fE 13 (trivial)))))))))))))))))) [] (fun q hq=>by cases hq) (fun hY=>absurd (hY 13 (by decide)) (by decide))
  ·exact fM 0 (some 4) d d d d (.inl d) d d d
  ·refine fJ [(19,_)] 1 [some 0] fun G a w S=>?_
   exact sExtract (vs:=[.agg #[iv a0.1.W,iv a0.1.H,.slice a7 a0.1.Bits.length a8],iv a0.2.1,iv a0.2.2.1]) (.agg #[iv a0.1.W,iv a0.1.H,.slice a7 a0.1.Bits.length a8]) S (wN d) d d d d (lb d) fun a S=>leafL ⟨d,S⟩
  ·refine fJ [(19,_)] 2 [some 0] fun G a w S=>?_
   exact sExtract (vs:=[.agg #[iv a0.1.W,iv a0.1.H,.slice a7 a0.1.Bits.length a8],iv a0.2.1,iv a0.2.2.1]) (iv a0.2.1) S (wN d) d d d d (lb d) fun a S=>leafL ⟨d,S⟩
  ·refine fJ [(19,_)] 3 [some 0] fun G a w S=>?_
   exact sExtract (vs:=[.agg #[iv a0.1.W,iv a0.1.H,.slice a7 a0.1.Bits.length a8],iv a0.2.1,iv a0.2.2.1]) (iv a0.2.2.1) S (wN d) d d d d (lb d) fun a S=>leafL ⟨d,S⟩
  refine ⟨_,[],d,(srcs_of [] d d d),fun G a w S=>?_⟩
  refine sAlloc (.agg #[iv 0,iv 0,.slice none 0 0]) S (wN d) d d [iv 0,iv 0,.slice none 0 0] d d (lb d) fun a bk w S=>leafL ⟨d,_,_,.inl ⟨4,(.pointer (some ⟨bk,0,none⟩)),[],d,S,hz_of d,?_⟩⟩
  refine node_by (A:=anc_reduce_search_from_s3_1) 17 (by kernel_rfl) (by kernel_rfl) (by kernel_rfl) (by kernel_rfl) (by kernel_rfl) [13,9,10,11,12,8,0,1,2,3,4,5,6,7] (by kernel_rfl) (by decide) (by decide) (fD 8 (fD 8 (fD 8 (fD 8 (fD 8 (fD 8 (fD 8 (fD 8 (fY (fF ?_ (fF ?_ (fF ?_ (fF ?_ (fY (fN ?_ (fE 14 (fE 14 (trivial)))))))))))))))))) [] (fun q hq=>by cases hq) (fun hY=>absurd (hY 14 (by decide)) (by decide))
  ·exact fM 1 (some 5) d d d d (.inl d) d d d
  ·refine fJ [(19,_)] 2 [some 1] fun G a w S=>?_
   exact sExtract (vs:=[.agg #[iv a0.1.W,iv a0.1.H,.slice a7 a0.1.Bits.length a8],iv a0.2.1,iv a0.2.2.1]) (.agg #[iv a0.1.W,iv a0.1.H,.slice a7 a0.1.Bits.length a8]) S (wN d) d d d d (lb d) fun a S=>leafL ⟨d,S⟩
  ·refine fJ [(19,_)] 3 [some 1] fun G a w S=>?_
   exact sExtract (vs:=[.agg #[iv a0.1.W,iv a0.1.H,.slice a7 a0.1.Bits.length a8],iv a0.2.1,iv a0.2.2.1]) (iv a0.2.1) S (wN d) d d d d (lb d) fun a S=>leafL ⟨d,S⟩
  ·refine fJ [(19,_)] 4 [some 1] fun G a w S=>?_
   exact sExtract (vs:=[.agg #[iv a0.1.W,iv a0.1.H,.slice a7 a0.1.Bits.length a8],iv a0.2.1,iv a0.2.2.1]) (iv a0.2.2.1) S (wN d) d d d d (lb d) fun a S=>leafL ⟨d,S⟩
  refine ⟨_,[(4,.pointer (some ⟨bk,0,none⟩)),(29,.agg #[iv a0.1.W,iv a0.1.H,.slice a7 a0.1.Bits.length a8])],d,(srcs_of [some 0,some 2] d d d),fun G a w S=>?_⟩
  refine sStore (p:=bk) (off:=0) (T:=24) (vs:=[iv 0,iv 0,.slice none 0 0]) (v:=.agg #[iv a0.1.W,iv a0.1.H,.slice a7 a0.1.Bits.length a8]) 0 [iv a0.1.W,iv a0.1.H,.slice a7 a0.1.Bits.length a8] S (wN d) d d d d d d d (by simp) d fun a w S=>leafL ⟨d,_,_,.inr ⟨[(15,5,iv a0.2.1),(16,6,iv a0.2.2.1)],d,S,hz_of d,?_⟩⟩
  refine node_by (A:=anc_reduce_search_from_s3_1) 17 (by kernel_rfl) (by kernel_rfl) (by kernel_rfl) (by kernel_rfl) (by kernel_rfl) [15,16,13,9,10,11,12,8,0,1,2,3,4,5,6,7] (by kernel_rfl) (by decide) (by decide) (fD 14 (fD 14 (fD 14 (fD 14 (fD 14 (fD 14 (fD 14 (fD 14 (fY (fD 14 (fD 14 (fF ?_ (fF ?_ (fY (fY (fF ?_ (fF ?_ (trivial)))))))))))))))))) [(0,.pointer (some ⟨bb0,0,none⟩)),(5,iv a0.2.1)] (fin_of [none,some 0] d (by kernel_rfl) (by kernel_rfl)) (fun _ a w S=>?_)
  ·refine fJ [(19,_)] 5 [some 3] fun G a w S=>?_
   exact sExtract (vs:=[.agg #[iv a0.1.W,iv a0.1.H,.slice a7 a0.1.Bits.length a8],iv a0.2.1,iv a0.2.2.1]) (iv a0.2.1) S (wN d) d d d d (lb d) fun a S=>leafL ⟨d,S⟩
  ·refine fJ [(19,_)] 6 [some 3] fun G a w S=>?_
   exact sExtract (vs:=[.agg #[iv a0.1.W,iv a0.1.H,.slice a7 a0.1.Bits.length a8],iv a0.2.1,iv a0.2.2.1]) (iv a0.2.2.1) S (wN d) d d d d (lb d) fun a S=>leafL ⟨d,S⟩
  ·exact fM 0 (some 5) d d d d (.inr d) d d d
  ·exact fM 1 (some 6) d d d d (.inr d) d d d
  have bl:=row_v (S.mem.hold (i:=2) (e:=eRow (rI .i64) 3 (.slice ad_0_1 p0.l.length cp_0_1) a0.2.2.2) d)
  rw [bl] at S
  exact leafT (⟨a0.2.1,a0.2.2.2,Option.some.inj h,ad_0_1,cp_0_1,S.fix [3,2] [1,2] (by decide) d d d⟩)
 refine ⟨_,[],d,(srcs_of [] d d d),fun G a w S=>?_⟩
 refine sAlloc (.agg #[iv 0,iv 0,.slice none 0 0]) S (wN d) d d [iv 0,iv 0,.slice none 0 0] d d (lb d) fun a aV w S=>leafL ⟨d,_,_,.inl ⟨4,(.pointer (some ⟨aV,0,none⟩)),[],d,S,hz_of d,?_⟩⟩
 refine node_by (A:=anc_reduce_search_from_s3_1) 17 (by kernel_rfl) (by kernel_rfl) (by kernel_rfl) (by kernel_rfl) (by kernel_rfl) [13,0,1,2,3,4,5,6,7] (by kernel_rfl) (by decide) (by decide) (fF ?_ (fF ?_ (fF ?_ (fF ?_ (fF ?_ (fF ?_ (fF ?_ (fF ?_ (fN ?_ (fE 8 (fE 8 (fE 8 (fE 8 (fY (aB 14 2 8 (by decide) (fE 8 (fE 8 (trivial)))))))))))))))))) [] (fun q hq=>by cases hq) (fun hY=>absurd (hY 8 (by decide)) (by decide))
 ·exact fM 1 none d d d d (.inl d) d d d
 ·refine fJ [(20,_)] 2 [some 1] fun G a w S=>?_
  exact nilCheck_ok (q:=⟨bb0,0,none⟩) S (wN d) d d d (lb d) fun a S=>leafL ⟨d,S⟩
 ·refine fJ [(21,_)] 3 [some 2] fun G a w S=>?_
  exact sField (b:=bb0) (off:=0) 0 0 S (wN d) d d d d d (lb d) fun a S=>leafL ⟨d,S⟩
 ·refine fJ [(22,_)] 4 [some 3] fun G a w S=>?_
  exact sLoadN (p:=bb0) (off:=0) (T:=68) (vs:=[iv p0.g.W,iv p0.g.H,.slice a2 p0.g.Bits.length a3,iv p0.k,.slice ad_0_1 p0.l.length cp_0_1,.slice ak p0.best.length al,iv p0.least]) 1 [iv p0.g.W,iv p0.g.H,.slice a2 p0.g.Bits.length a3] S (wN d) d d d d d d d (lb d) fun a S=>leafL ⟨d,S⟩
 ·exact fM 5 none d d d d (.inl d) d d d
 ·refine fJ [(24,_)] 6 [some 5] fun G a w S=>?_
  exact nilCheck_ok (q:=⟨bb0,0,none⟩) S (wN d) d d d (lb d) fun a S=>leafL ⟨d,S⟩
 ·refine fJ [(25,_)] 7 [some 6] fun G a w S=>?_
  exact sField (b:=bb0) (off:=0) 4 4 S (wN d) d d d d d (lb d) fun a S=>leafL ⟨d,S⟩
 ·refine fJ [(26,_)] 8 [some 7] fun G a w S=>?_
  exact sLoad1 1 (.slice ad_0_1 p0.l.length cp_0_1) S (wN d) d d d d d d (lb d) fun a S=>leafL ⟨d,S⟩
 refine ⟨_,[(23,.agg #[iv p0.g.W,iv p0.g.H,.slice a2 p0.g.Bits.length a3]),(27,.slice ad_0_1 p0.l.length cp_0_1)],d,(srcs_of [some 4,some 8] d d d),fun G a w S=>?_⟩
 have S:=S.learn (fRep r_api_Grid (.agg #[iv p0.g.W,iv p0.g.H,.slice a2 p0.g.Bits.length a3]) p0.g) ⟨_,d,S.mem.know (i:=0) (e:=fRep (rL rB) (.slice a2 p0.g.Bits.length a3) p0.g.Bits) d⟩
 refine sCall (X:=Option Addr × Nat) (f:=12) (vs:=[.agg #[iv p0.g.W,iv p0.g.H,.slice a2 p0.g.Bits.length a3],.slice ad_0_1 p0.l.length cp_0_1]) (val:=fun x=>.tuple #[.agg #[iv a0.1.W,iv a0.1.H,.slice x.1 a0.1.Bits.length x.2],iv a0.2.1,iv a0.2.2.1]) (B':=fun x=>[eRow rB 4 (.slice x.1 a0.1.Bits.length x.2) a0.1.Bits,eRow (rI .i64) 3 (.slice ad_0_1 p0.l.length cp_0_1) a0.2.2.2]) (D':=fun _=>[]) [eRow (rI .i64) 3 (.slice ad_0_1 p0.l.length cp_0_1) p0.l] [eBox aV 24 [iv 0,iv 0,.slice none 0 0],eBox bb0 68 [iv p0.g.W,iv p0.g.H,.slice a2 p0.g.Bits.length a3,iv p0.k,.slice ad_0_1 p0.l.length cp_0_1,.slice ak p0.best.length al,iv p0.least]] [fRep r_api_Grid (.agg #[iv p0.g.W,iv p0.g.H,.slice a2 p0.g.Bits.length a3]) p0.g] [2,0,1] [0] S (wN d) d callee12 d (by decide) d d (fun E1 w1 S1=>c_reduce_Change_s1 E1 w1 p0.g (.agg #[iv p0.g.W,iv p0.g.H,.slice a2 p0.g.Bits.length a3]) p0.l ad_0_1 cp_0_1 a0 aT S1) d (lb d) fun xx a w S=>?_
 obtain ⟨ab,ac⟩:=xx
 dsimp only at S
 refine leafL ⟨d,_,_,.inl ⟨28,(.tuple #[.agg #[iv a0.1.W,iv a0.1.H,.slice ab a0.1.Bits.length ac],iv a0.2.1,iv a0.2.2.1]),[(9,19,.tuple #[.agg #[iv a0.1.W,iv a0.1.H,.slice ab a0.1.Bits.length ac],iv a0.2.1,iv a0.2.2.1]),(10,29,.agg #[iv a0.1.W,iv a0.1.H,.slice ab a0.1.Bits.length ac]),(11,30,iv a0.2.1),(12,31,iv a0.2.2.1)],d,S,hz_of d,?_⟩⟩
 refine node_by (A:=anc_reduce_search_from_s3_1) 17 (by kernel_rfl) (by kernel_rfl) (by kernel_rfl) (by kernel_rfl) (by kernel_rfl) [9,10,11,12,8,13,0,1,2,3,4,5,6,7] (by kernel_rfl) (by decide) (by decide) (fD 8 (fD 8 (fD 8 (fD 8 (fD 8 (fD 8 (fD 8 (fD 8 (fY (fF ?_ (fF ?_ (fF ?_ (fF ?_ (fY (fN ?_ (fE 14 (fE 14 (trivial)))))))))))))))))) [] (fun q hq=>by cases hq) (fun hY=>absurd (hY 14 (by decide)) (by decide))
 ·exact fM 0 (some 4) d d d d (.inl d) d d d
 ·refine fJ [(19,_)] 1 [some 0] fun G a w S=>?_
  exact sExtract (vs:=[.agg #[iv a0.1.W,iv a0.1.H,.slice ab a0.1.Bits.length ac],iv a0.2.1,iv a0.2.2.1]) (.agg #[iv a0.1.W,iv a0.1.H,.slice ab a0.1.Bits.length ac]) S (wN d) d d d d (lb d) fun a S=>leafL ⟨d,S⟩
 ·refine fJ [(19,_)] 2 [some 0] fun G a w S=>?_
  exact sExtract (vs:=[.agg #[iv a0.1.W,iv a0.1.H,.slice ab a0.1.Bits.length ac],iv a0.2.1,iv a0.2.2.1]) (iv a0.2.1) S (wN d) d d d d (lb d) fun a S=>leafL ⟨d,S⟩
 ·refine fJ [(19,_)] 3 [some 0] fun G a w S=>?_
  exact sExtract (vs:=[.agg #[iv a0.1.W,iv a0.1.H,.slice ab a0.1.Bits.length ac],iv a0.2.1,iv a0.2.2.1]) (iv a0.2.2.1) S (wN d) d d d d (lb d) fun a S=>leafL ⟨d,S⟩
 refine ⟨_,[(4,.pointer (some ⟨aV,0,none⟩)),(29,.agg #[iv a0.1.W,iv a0.1.H,.slice ab a0.1.Bits.length ac])],d,(srcs_of [some 5,some 1] d d d),fun G a w S=>?_⟩
 refine sStore (p:=aV) (off:=0) (T:=24) (vs:=[iv 0,iv 0,.slice none 0 0]) (v:=.agg #[iv a0.1.W,iv a0.1.H,.slice ab a0.1.Bits.length ac]) 2 [iv a0.1.W,iv a0.1.H,.slice ab a0.1.Bits.length ac] S (wN d) d d d d d d d (by simp) d fun a w S=>leafL ⟨d,_,_,.inr ⟨[(15,5,iv a0.2.1),(16,6,iv a0.2.2.1)],d,S,hz_of d,?_⟩⟩
 refine node_by (A:=anc_reduce_search_from_s3_1) 17 (by kernel_rfl) (by kernel_rfl) (by kernel_rfl) (by kernel_rfl) (by kernel_rfl) [15,16,9,10,11,12,8,13,0,1,2,3,4,5,6,7] (by kernel_rfl) (by decide) (by decide) (fD 14 (fD 14 (fD 14 (fD 14 (fD 14 (fD 14 (fD 14 (fD 14 (fY (fD 14 (fD 14 (fF ?_ (fF ?_ (fY (fY (fF ?_ (fF ?_ (trivial)))))))))))))))))) [(0,.pointer (some ⟨bb0,0,none⟩)),(5,iv a0.2.1)] (fin_of [none,some 0] d (by kernel_rfl) (by kernel_rfl)) (fun _ a w S=>?_)
 ·refine fJ [(19,_)] 4 [some 2] fun G a w S=>?_
  exact sExtract (vs:=[.agg #[iv a0.1.W,iv a0.1.H,.slice ab a0.1.Bits.length ac],iv a0.2.1,iv a0.2.2.1]) (iv a0.2.1) S (wN d) d d d d (lb d) fun a S=>leafL ⟨d,S⟩
 ·refine fJ [(19,_)] 5 [some 2] fun G a w S=>?_
  exact sExtract (vs:=[.agg #[iv a0.1.W,iv a0.1.H,.slice ab a0.1.Bits.length ac],iv a0.2.1,iv a0.2.2.1]) (iv a0.2.2.1) S (wN d) d d d d (lb d) fun a S=>leafL ⟨d,S⟩
 ·exact fM 0 (some 4) d d d d (.inr d) d d d
 ·exact fM 1 (some 5) d d d d (.inr d) d d d
 have bm:=row_v (S.mem.hold (i:=2) (e:=eRow (rI .i64) 3 (.slice ad_0_1 p0.l.length cp_0_1) a0.2.2.2) d)
 rw [bm] at S
 exact leafT (⟨a0.2.1,a0.2.2.2,Option.some.inj h,ad_0_1,cp_0_1,S.fix [3,2] [1,2] (by decide) d d d⟩)
def anc_reduce_search_from_s2_0:List (List Nat):=[[],[0],[0,1],[0,1,2],[0,1,2,3],[],[5],[5,6],[5,6,7],[5,6,7,8],[0,1,2,3,4,5,6,7,8,9]]
def anc_reduce_search_from_s2_1:List (List Nat):=[[],[0],[0,1],[0,1,2],[],[4],[4,5],[4,5,6],[0,1,2,3,4,5,6,7],[0,1,2,3,4,5,6,7,8],[0,1,2,3,4,5,6,7,8,9],[0,1,2,3,4,5,6,7,8,9],[0,1,2,3,4,5,6,7,8,9],[],[0,1,2,3,4,5,6,7,8,9,10,13],[0,1,2,3,4,5,6,7,8,9,10,11,13,14],[0,1,2,3,4,5,6,7,8,9,10,11,12,13,14,15]]
def anc_reduce_search_from_s2_2:List (List Nat):=[[],[],[1],[1,2],[1,2,3],[],[5],[5,6],[5,6,7],[5,6,7,8],[5,6,7,8,9],[1,2,3,4,5,6,7,8,9,10],[0,1,2,3,4,5,6,7,8,9,10,11],[0,1,2,3,4,5,6,7,8,9,10,11,12],[0,1,2,3,4,5,6,7,8,9,10,11,12,13]]
noncomputable def reduce_search_from_s2_l1 (p0:reduce_search) (p1:Int):(Int × Int × Int × Int × List Int × List Int × Int)→Option ((Int × Int × Int × Int × List Int × List Int × Int) ⊕ (Int × Int × Int × List Int × List Int × Int)):=fun s0=>match s0 with
 | (a2,a3,a4,a5,a6,a7,a8)=>
  if decide (a2 < (if p0.k < (w64 (p1 + 1)) then p0.k else w64 (p1 + 1))) then
   (appO a6 ([a2]:List Int)).bind fun a9=>
   (F_reduce_search_from_s3 (reduce_search.mk (api_Grid.mk a3 a4 p0.g.Bits) a5 a9 a7 a8) (if p1 < (w64 (a2 + 1)) then w64 (a2 + 1) else p1)).bind fun a0=>
   (sliceO a0.l 0 (w64 ((a0.l.length:Int) - 1))).bind fun aa=>
   some (.inl (w64 (a2 + 1),a0.g.W,a0.g.H,a0.k,aa,a0.best,a0.least))
  else
   some (.inr (a3,a4,a5,a6,a7,a8))
noncomputable def F_reduce_search_from_s2 (p0:reduce_search) (p1:Int):Option reduce_search:=
 if (p0.l.length:Int) == p0.g.W then
  Option.bind (α:=(List Int × List Int × Int)) (
   Option.bind (α:=(Int × List Int)) (
    (F_reduce_Change_s1 p0.g p0.l).bind fun a2=>
    some (a2.2.1,a2.2.2.2)) fun (a3,a4)=>
   Option.bind (α:=Bool) (
    if p0.best.isEmpty then
     some true
    else
     some (decide (a3 < p0.least))) fun a5=>
   if a5 then
    (F_slices_Clone___int_int__s1 a4).bind fun a0=>
    (neO a0.1).bind fun af=>
    some (a0.2,a0.1,a3)
   else
    some (a4,p0.best,p0.least)) fun (o8,a6,a7)=>
  some (reduce_search.mk p0.g p0.k o8 a6 a7)
 else
  (whileO (reduce_search_from_s2_l1 p0 p1) (0,p0.g.W,p0.g.H,p0.k,p0.l,p0.best,p0.least)).bind fun (a8,a9,aa,ab,ac,ae)=>
   some (reduce_search.mk (api_Grid.mk a8 a9 p0.g.Bits) aa ab ac ae)
theorem c_reduce_search_from_s2 (E:Nat→Prop) (w0:World) (p0:reduce_search) (bb0:Nat) (u_0_0:Value) (ad_0_1:Option Addr) (cp_0_1:Nat) (u_0_2:Value) (p1:Int) (r:reduce_search) (h:F_reduce_search_from_s2 p0 p1=some r) (S:St0 E (keysL [eBox bb0 68 [iv p0.g.W,iv p0.g.H,u_0_0,iv p0.k,.slice ad_0_1 p0.l.length cp_0_1,u_0_2,iv p0.least],eRow (rI .i64) 3 (.slice ad_0_1 p0.l.length cp_0_1) p0.l]) w0 w0 [eBox bb0 68 [iv p0.g.W,iv p0.g.H,u_0_0,iv p0.k,.slice ad_0_1 p0.l.length cp_0_1,u_0_2,iv p0.least],eRow (rI .i64) 3 (.slice ad_0_1 p0.l.length cp_0_1) p0.l] [fRep (rL rB) (u_0_0) p0.g.Bits,fRep (rLz (rI .i64)) (u_0_2) p0.best]) :
 Calls Try.prog 41 #[.pointer (some ⟨bb0,0,none⟩),iv p1] w0 (Ret (X:=Option Addr × Nat × Value) E (keysL [eBox bb0 68 [iv p0.g.W,iv p0.g.H,u_0_0,iv p0.k,.slice ad_0_1 p0.l.length cp_0_1,u_0_2,iv p0.least],eRow (rI .i64) 3 (.slice ad_0_1 p0.l.length cp_0_1) p0.l]) w0 (fun _=>.tuple #[]) (fun x=>[eBox bb0 68 [iv r.g.W,iv r.g.H,u_0_0,iv r.k,.slice x.1 r.l.length x.2.1,x.2.2,iv r.least],eRow (rI .i64) 3 (.slice x.1 r.l.length x.2.1) r.l]) (fun x=>[fRep (rLz (rI .i64)) x.2.2 r.best])):=by
 unfold F_reduce_search_from_s2 at h
 obtain ⟨a2,a3,_,rfl,_⟩:=S.know (i:=0) (e:=fRep (rL rB) (u_0_0) p0.g.Bits) d
 obtain ⟨⟨ak,al,_,rfl,_⟩,_⟩:=S.know (i:=1) (e:=fRep (rLz (rI .i64)) (u_0_2) p0.best) d
 generalize (keysL [eBox bb0 68 [iv p0.g.W,iv p0.g.H,.slice a2 p0.g.Bits.length a3,iv p0.k,.slice ad_0_1 p0.l.length cp_0_1,.slice ak p0.best.length al,iv p0.least],eRow (rI .i64) 3 (.slice ad_0_1 p0.l.length cp_0_1) p0.l])=M9 at S ⊢
 refine sEnter (args:=[.pointer (some ⟨bb0,0,none⟩),iv p1]) 98 Try.func41 d d (by simp) S (fun a S=>?_)
 refine sSeq (fun K5 bn=>sSeq (fun K6 bo=>sDraw (nf:=[]) (W:=[(0,8,.pointer (some ⟨bb0,0,none⟩)),(1,9,.pointer (some ⟨bb0,0,none⟩)),(2,10,.pointer (some ⟨bb0,4,none⟩)),(3,11,.slice ad_0_1 p0.l.length cp_0_1),(4,12,iv (p0.l.length:Int)),(5,13,.pointer (some ⟨bb0,0,none⟩)),(6,14,.pointer (some ⟨bb0,0,none⟩)),(7,15,.pointer (some ⟨bb0,0,none⟩)),(8,16,.pointer (some ⟨bb0,0,none⟩)),(9,17,iv p0.g.W),(10,18,.bool ((p0.l.length:Int) == p0.g.W))]) d S ?_))
 refine node_by (A:=anc_reduce_search_from_s2_0) 11 (by kernel_rfl) (by kernel_rfl) (by kernel_rfl) (by kernel_rfl) (by kernel_rfl) [0,1,2,3,4,5,6,7,8,9,10] (by kernel_rfl) (by decide) (by decide) (fF ?_ (fF ?_ (fF ?_ (fF ?_ (fF ?_ (fF ?_ (fF ?_ (fF ?_ (fF ?_ (fF ?_ (fF ?_ (trivial)))))))))))) [(0,.pointer (some ⟨bb0,0,none⟩)),(1,iv p1),(18,.bool ((p0.l.length:Int) == p0.g.W))] (fin_of [none,none,some 10] d (by kernel_rfl) (by kernel_rfl)) (fun _ a w S=>?_)
 ·exact fM 0 none d d d d (.inl d) d d d
 ·refine fJ [(8,_)] 1 [some 0] fun G a w S=>?_
  exact nilCheck_ok (q:=⟨bb0,0,none⟩) S (wN d) d d d (lb d) fun a S=>leafL ⟨d,S⟩
 ·refine fJ [(9,_)] 2 [some 1] fun G a w S=>?_
  exact sField (b:=bb0) (off:=0) 4 4 S (wN d) d d d d d (lb d) fun a S=>leafL ⟨d,S⟩
 ·refine fJ [(10,_)] 3 [some 2] fun G a w S=>?_
  exact sLoad1 0 (.slice ad_0_1 p0.l.length cp_0_1) S (wN d) d d d d d d (lb d) fun a S=>leafL ⟨d,S⟩
 ·refine fJ [(11,_)] 4 [some 3] fun G a w S=>?_
  exact sLen S (wN d) d Try.underlying25 d d (lb d) fun a S=>leafL ⟨d,S⟩
 ·exact fM 5 none d d d d (.inl d) d d d
 ·refine fJ [(13,_)] 6 [some 5] fun G a w S=>?_
  exact nilCheck_ok (q:=⟨bb0,0,none⟩) S (wN d) d d d (lb d) fun a S=>leafL ⟨d,S⟩
 ·refine fJ [(14,_)] 7 [some 6] fun G a w S=>?_
  exact sField (b:=bb0) (off:=0) 0 0 S (wN d) d d d d d (lb d) fun a S=>leafL ⟨d,S⟩
 ·refine fJ [(15,_)] 8 [some 7] fun G a w S=>?_
  exact sField (b:=bb0) (off:=0) 0 0 S (wN d) d d d d d (lb d) fun a S=>leafL ⟨d,S⟩
 ·refine fJ [(16,_)] 9 [some 8] fun G a w S=>?_
  exact sLoad1 0 (iv p0.g.W) S (wN d) d d d d d d (lb d) fun a S=>leafL ⟨d,S⟩
 ·refine fJ [(12,_),(17,_)] 10 [some 4,some 9] fun G a w S=>?_
  exact sBin _ S (wN d) d d d (bEq _ _ _ _ .i64 (p0.l.length:Int) p0.g.W) d (lb d) fun a S=>leafL ⟨d,S⟩
 refine leafT (bo _ _ ?_)
 rcases iS h with ⟨aW,h⟩ | ⟨aW,h⟩
 rotate_left
 ·refine sCondF S d aW (wp_skip (leafT (bn _ _ ?_)))
  refine sSeq (fun bz aX=>sRegion (sM S fun a S=>?_))
  refine sBin _ S (wN d) d d d (bAdd _ _ _ _ p1 1) d (lb d) fun a S=>sM S fun a S=>?_
  refine nilCheck_ok (q:=⟨bb0,0,none⟩) S (wN d) d d d (lb d) fun a S=>sField (b:=bb0) (off:=0) 3 3 S (wN d) d d d d d (lb d) fun a S=>sLoad1 0 (iv p0.k) S (wN d) d d d d d d (lb d) fun a S=>sMin2 (p:=w64 (p1 + 1)) (q:=p0.k) S (wN d) d d d d (lb d) fun a S=>sM S fun a S=>?_
  refine lT (aX _ _ (wp_block ?_))
  obtain ⟨bA,hl,bp⟩:=bS h
  refine sLoop hl (fun s0 a w=>match s0 with | (af,aJ,aK,aL,aA,ar,aM)=>∃ am,∃ ao,∃ ah,∃ ai,St [] E M9 w0 98 a w [(0,.pointer (some ⟨bb0,0,none⟩)),(1,iv p1),(63,iv (if p0.k < (w64 (p1 + 1)) then p0.k else w64 (p1 + 1))),(64,iv af)] [eBox bb0 68 [iv aJ,iv aK,.slice a2 p0.g.Bits.length a3,iv aL,.slice am aA.length ao,.slice ah ar.length ai,iv aM],eRow (rI .i64) 3 (.slice am aA.length ao) aA] [fRep (rL rB) (.slice a2 p0.g.Bits.length a3) p0.g.Bits,fRep (rLz (rI .i64)) (.slice ah ar.length ai) ar]) ⟨ad_0_1,cp_0_1,ak,al,S.fix [0,1] [0,1] (by decide) d d d⟩ ?_
  clear hl h
  intro s0 a w c0 hI h aZ
  obtain ⟨af,aJ,aK,aL,aA,ar,aM⟩:=s0
  unfold reduce_search_from_s2_l1 at h
  dsimp only at h hI
  obtain ⟨am,ao,ah,ai,S⟩:=hI
  refine sSeq (fun bB b1=>sRegion (sBin _ S (wN d) d d d (bLt _ _ _ _ .i64 af (if p0.k < (w64 (p1 + 1)) then p0.k else w64 (p1 + 1))) d (lb d) fun a S=>lT (b1 _ _ (sSeq (fun bC b3=>?_)))))
  rcases iS h with ⟨aC,h⟩ | ⟨aC,h⟩
  rotate_left
  ·refine sCondF S d aC ?_
   obtain rfl:=tS h
   obtain rfl:=aZ _ d
   have h:=bp
   try dsimp only at h
   obtain rfl:=tS h
   exact wp_exit (xThen (xThen (xHit (sEnd (.tuple #[]) S (rsl0 d ) ⟨(am,ao,(.slice ah ar.length ai)),d,S.mem.sel [0,1] [1] (by decide) d d⟩))))
  refine sCondT S d aC (wp_skip (leafT (b3 _ _ ?_)))
  refine sSeq (fun bD b4=>wp_block ?_)
  refine sSeq (fun bE b5=>sRegion (sM S fun a S=>?_))
  refine sN S fun a S=>?_
  refine lT (b5 _ _ (sSeq (fun bG b8=>sRegion (sM S fun a S=>?_))))
  refine sM S fun a S=>?_
  refine nilCheck_ok (q:=⟨bb0,0,none⟩) S (wN d) d d d (lb d) fun a S=>sField (b:=bb0) (off:=0) 4 4 S (wN d) d d d d d (lb d) fun a S=>sLoad1 0 (.slice am aA.length ao) S (wN d) d d d d d d (lb d) fun a S=>sM S fun a S=>?_
  refine sLit (r:=(rI .i64)) (T:=3) (xs:=([af]:List Int)) [(0,iv af)] 1 [iv af] [iv af] (iv 0) 8 S (wN d) d d Try.underlying25 d (by decide) (by decide) (by kernel_rfl) d (fun E1 w1 hE=>All.cons d (All.nil _ _ _)) d d (lb d) fun a w aO aP S=>?_
  obtain ⟨aH,b9,h⟩:=bS h
  refine sApp (r:=(rI .i64)) (T:=3) (xs:=aA) (ys:=([af]:List Int)) (v:=.slice am aA.length ao) (u:=.slice aO ([af]:List Int).length aP) 2 (iv 0) 8 S (wN d) d Try.underlying25 d d (by decide) d d d (src_R (T:=3) 0 S.mem d) b9 d (lb d) fun a w au av S=>nilCheck_ok (q:=⟨bb0,0,none⟩) S (wN d) d d d (lb d) fun a S=>sField (b:=bb0) (off:=0) 4 4 S (wN d) d d d d d (lb d) fun a S=>sStore (p:=bb0) (off:=4) (T:=68) (vs:=[iv aJ,iv aK,.slice a2 p0.g.Bits.length a3,iv aL,.slice am aA.length ao,.slice ah ar.length ai,iv aM]) (v:=.slice au aH.length av) 2 [.slice au aH.length av] S (wN d) d d d d d d d (by simp) d fun a w S=>lT (b8 _ _ (sSeq (fun bH ba=>sRegion (sM S fun a S=>?_))))
  refine sM S fun a S=>?_
  refine sM S fun a S=>?_
  refine sBin _ S (wN d) d d d (bAdd _ _ _ _ af 1) d (lb d) fun a S=>sMax2 (p:=p1) (q:=w64 (af + 1)) S (wN d) d d d d (lb d) fun a S=>?_
  obtain ⟨a4,bb,h⟩:=bS h
  refine sCall (X:=Option Addr × Nat × Value) (f:=41) (vs:=[.pointer (some ⟨bb0,0,none⟩),iv (if p1 < (w64 (af + 1)) then w64 (af + 1) else p1)]) (val:=fun _=>.tuple #[]) (B':=fun x=>[eBox bb0 68 [iv a4.g.W,iv a4.g.H,.slice a2 p0.g.Bits.length a3,iv a4.k,.slice x.1 a4.l.length x.2.1,x.2.2,iv a4.least],eRow (rI .i64) 3 (.slice x.1 a4.l.length x.2.1) a4.l]) (D':=fun x=>[fRep (rLz (rI .i64)) x.2.2 a4.best]) [eBox bb0 68 [iv aJ,iv aK,.slice a2 p0.g.Bits.length a3,iv aL,.slice au aH.length av,.slice ah ar.length ai,iv aM],eRow (rI .i64) 3 (.slice au aH.length av) aH] [eRow (rI .i64) 3 (.slice aO ([af]:List Int).length aP) ([af]:List Int)] [fRep (rL rB) (.slice a2 p0.g.Bits.length a3) p0.g.Bits,fRep (rLz (rI .i64)) (.slice ah ar.length ai) ar] [0,1,2] [0,1] S (wN d) d callee41 d (by decide) d d (fun E1 w1 S1=>c_reduce_search_from_s3 E1 w1 (reduce_search.mk (api_Grid.mk aJ aK p0.g.Bits) aL aH ar aM) bb0 (.slice a2 p0.g.Bits.length a3) au av (.slice ah ar.length ai) (if p1 < (w64 (af + 1)) then w64 (af + 1) else p1) a4 bb S1) d (lb d) fun xx a w S=>?_
  obtain ⟨a9,aa,bq⟩:=xx
  dsimp only at S
  obtain ⟨⟨aQ,aR,_,rfl,_⟩,_⟩:=S.mem.know (i:=0) (e:=fRep (rLz (rI .i64)) (bq) a4.best) d
  refine lT (ba _ _ ?_)
  obtain ⟨aS,bc,h⟩:=bS h
  refine sDraw (nf:=[11,14]) (W:=[(0,83,.pointer (some ⟨bb0,0,none⟩)),(1,84,.pointer (some ⟨bb0,0,none⟩)),(2,85,.pointer (some ⟨bb0,0,none⟩)),(3,86,.pointer (some ⟨bb0,4,none⟩)),(4,87,.slice a9 a4.l.length aa),(5,88,.pointer (some ⟨bb0,0,none⟩)),(6,89,.pointer (some ⟨bb0,0,none⟩)),(7,90,.pointer (some ⟨bb0,4,none⟩)),(8,91,.slice a9 a4.l.length aa),(9,92,iv (a4.l.length:Int)),(10,93,iv (w64 ((a4.l.length:Int) - 1)))]) d S ?_
  refine node_by (A:=anc_reduce_search_from_s2_2) 15 (by kernel_rfl) (by kernel_rfl) (by kernel_rfl) (by kernel_rfl) (by kernel_rfl) [0,1,2,3,4,5,6,7,8,9,10] (by kernel_rfl) (by decide) (by decide) (fF ?_ (fF ?_ (fF ?_ (fF ?_ (fF ?_ (fF ?_ (fF ?_ (fF ?_ (fF ?_ (fF ?_ (fF ?_ (fN ?_ (fE 11 (fE 11 (aB 14 0 11 (by decide) (trivial)))))))))))))))) [] (fun q hq=>by cases hq) (fun hY=>absurd (hY 11 (by decide)) (by decide))
  ·exact fM 0 none d d d d (.inl d) d d d
  ·exact fM 1 none d d d d (.inl d) d d d
  ·refine fJ [(84,_)] 2 [some 1] fun G a w S=>?_
   exact nilCheck_ok (q:=⟨bb0,0,none⟩) S (wN d) d d d (lb d) fun a S=>leafL ⟨d,S⟩
  ·refine fJ [(85,_)] 3 [some 2] fun G a w S=>?_
   exact sField (b:=bb0) (off:=0) 4 4 S (wN d) d d d d d (lb d) fun a S=>leafL ⟨d,S⟩
  ·refine fJ [(86,_)] 4 [some 3] fun G a w S=>?_
   exact sLoad1 0 (.slice a9 a4.l.length aa) S (wN d) d d d d d d (lb d) fun a S=>leafL ⟨d,S⟩
  ·exact fM 5 none d d d d (.inl d) d d d
  ·refine fJ [(88,_)] 6 [some 5] fun G a w S=>?_
   exact nilCheck_ok (q:=⟨bb0,0,none⟩) S (wN d) d d d (lb d) fun a S=>leafL ⟨d,S⟩
  ·refine fJ [(89,_)] 7 [some 6] fun G a w S=>?_
   exact sField (b:=bb0) (off:=0) 4 4 S (wN d) d d d d d (lb d) fun a S=>leafL ⟨d,S⟩
  ·refine fJ [(90,_)] 8 [some 7] fun G a w S=>?_
   exact sLoad1 0 (.slice a9 a4.l.length aa) S (wN d) d d d d d d (lb d) fun a S=>leafL ⟨d,S⟩
  ·refine fJ [(91,_)] 9 [some 8] fun G a w S=>?_
   exact sLen S (wN d) d Try.underlying25 d d (lb d) fun a S=>leafL ⟨d,S⟩
  ·refine fJ [(92,_)] 10 [some 9] fun G a w S=>?_
   exact sBin _ S (wN d) d d d (bSub _ _ _ _ (a4.l.length:Int) 1) d (lb d) fun a S=>leafL ⟨d,S⟩
  refine ⟨_,[(87,.slice a9 a4.l.length aa),(93,iv (w64 ((a4.l.length:Int) - 1)))],d,(srcs_of [some 4,some 10] d d d),fun G a w S=>?_⟩
  refine sSliceT (r:=(rI .i64)) (T:=3) (ad:=a9) (c:=aa) (xs:=a4.l) (vlo:=none) (vhi:=(some (.int .i64 (w64 ((a4.l.length:Int) - 1))))) (hi':=w64 ((a4.l.length:Int) - 1)) 1 S (wN d) d Try.underlying25 d d d d d (.inr d) (.inl d) bc d (lb d) fun a S=>?_
  refine leafL ⟨d,_,_,.inl ⟨94,(.slice a9 aS.length aa),[(12,95,.pointer (some ⟨bb0,0,none⟩)),(13,96,.pointer (some ⟨bb0,4,none⟩))],d,S,hz_of d,?_⟩⟩
  refine node_by (A:=anc_reduce_search_from_s2_2) 15 (by kernel_rfl) (by kernel_rfl) (by kernel_rfl) (by kernel_rfl) (by kernel_rfl) [12,13,11,0,1,2,3,4,5,6,7,8,9,10] (by kernel_rfl) (by decide) (by decide) (fF ?_ (fD 11 (fD 11 (fD 11 (fD 11 (fD 11 (fD 11 (fD 11 (fD 11 (fD 11 (fD 11 (fY (fF ?_ (fF ?_ (fN ?_ (trivial)))))))))))))))) [] (fun q hq=>by cases hq) (fun hY=>absurd (hY 14 (by decide)) (by decide))
  ·exact fM 3 none d d d d (.inl d) d d d
  ·refine fJ [(83,_)] 0 [some 3] fun G a w S=>?_
   exact nilCheck_ok (q:=⟨bb0,0,none⟩) S (wN d) d d d (lb d) fun a S=>leafL ⟨d,S⟩
  ·refine fJ [(95,_)] 1 [some 0] fun G a w S=>?_
   exact sField (b:=bb0) (off:=0) 4 4 S (wN d) d d d d d (lb d) fun a S=>leafL ⟨d,S⟩
  refine ⟨_,[(94,.slice a9 aS.length aa),(96,.pointer (some ⟨bb0,4,none⟩))],d,(srcs_of [some 2,some 1] d d d),fun G a w S=>?_⟩
  refine sStore (p:=bb0) (off:=4) (T:=68) (vs:=[iv a4.g.W,iv a4.g.H,.slice a2 p0.g.Bits.length a3,iv a4.k,.slice a9 a4.l.length aa,.slice aQ a4.best.length aR,iv a4.least]) (v:=.slice a9 aS.length aa) 1 [.slice a9 aS.length aa] S (wN d) d d d d d d d (by simp) d fun a w S=>leafL ⟨d,_,_,.inr ⟨[],d,S,hz_of d,?_⟩⟩
  refine node_by (A:=anc_reduce_search_from_s2_2) 15 (by kernel_rfl) (by kernel_rfl) (by kernel_rfl) (by kernel_rfl) (by kernel_rfl) [12,13,11,0,1,2,3,4,5,6,7,8,9,10] (by kernel_rfl) (by decide) (by decide) (fD 14 (fD 14 (fD 14 (fD 14 (fD 14 (fD 14 (fD 14 (fD 14 (fD 14 (fD 14 (fD 14 (fY (fD 14 (fD 14 (fY (trivial)))))))))))))))) [(0,.pointer (some ⟨bb0,0,none⟩)),(1,iv p1),(63,iv (if p0.k < (w64 (p1 + 1)) then p0.k else w64 (p1 + 1))),(64,iv af)] (fin_of [none,none,none,none] d (by kernel_rfl) (by kernel_rfl)) (fun _ a w S=>?_)
  refine leafB (leafT (b4 _ _ ?_))
  refine sRegion (sBin _ S (wN d) d d d (bAdd _ _ _ _ af 1) d (lb d) fun a S=>sM S fun a S=>?_)
  exact lT (⟨(w64 (af + 1),a4.g.W,a4.g.H,a4.k,aS,a4.best,a4.least),(Option.some.inj h).symm,⟨a9,aa,aQ,aR,S.fix [0,1] [1,0] (by decide) d d d⟩⟩)
 refine sCondT S d aW ?_
 obtain ⟨br,h,bt⟩:=bS h
 refine sCut (fun a w=>∃ o8,∃ aI,∃ bf,(o8,aI,bf)=br∧∃ aU,∃ ax,∃ ay,∃ az,St [] E M9 w0 98 a w [] [eBox bb0 68 [iv p0.g.W,iv p0.g.H,.slice a2 p0.g.Bits.length a3,iv p0.k,.slice aU o8.length ax,.slice ay aI.length az,iv bf],eRow (rI .i64) 3 (.slice aU o8.length ax) o8] [fRep (rL rB) (.slice a2 p0.g.Bits.length a3) p0.g.Bits,fRep (rLz (rI .i64)) (.slice ay aI.length az) aI]) ?_ (fun a w hI=>?_)
 rotate_left
 ·obtain ⟨o8,aI,bf,rfl,aU,ax,ay,az,S⟩:=hI
  have h:=bt
  try dsimp only at h
  obtain rfl:=tS h
  exact wp_ret (rThen (sRet (.tuple #[]) S (rsl0 d ) ⟨(aU,ax,(.slice ay aI.length az)),d,S.mem.sel [0,1] [1] (by decide) d d⟩))
 obtain ⟨bu,h,bv⟩:=bS h
 refine sCut (fun a w=>∃ aw,∃ aj,(aw,aj)=bu∧∃ a5,∃ a6,St [] E M9 w0 98 a w [(0,.pointer (some ⟨bb0,0,none⟩)),(5,iv aw)] [eBox bb0 68 [iv p0.g.W,iv p0.g.H,.slice a2 p0.g.Bits.length a3,iv p0.k,.slice a5 aj.length a6,.slice ak p0.best.length al,iv p0.least],eRow (rI .i64) 3 (.slice a5 aj.length a6) aj] [fRep (rL rB) (.slice a2 p0.g.Bits.length a3) p0.g.Bits,fRep (rLz (rI .i64)) (.slice ak p0.best.length al) p0.best]) ?_ (fun a w hI=>?_)
 rotate_left
 ·obtain ⟨aw,aj,rfl,a5,a6,S⟩:=hI
  have h:=bv
  try dsimp only at h
  obtain ⟨bw,h,bx⟩:=bS h
  refine sCut (fun a w=>∃ bg,bg=bw∧St [] E M9 w0 98 a w [(0,.pointer (some ⟨bb0,0,none⟩)),(5,iv aw),(44,.bool bg)] [eBox bb0 68 [iv p0.g.W,iv p0.g.H,.slice a2 p0.g.Bits.length a3,iv p0.k,.slice a5 aj.length a6,.slice ak p0.best.length al,iv p0.least],eRow (rI .i64) 3 (.slice a5 aj.length a6) aj] [fRep (rL rB) (.slice a2 p0.g.Bits.length a3) p0.g.Bits,fRep (rLz (rI .i64)) (.slice ak p0.best.length al) p0.best]) ?_ (fun a w hI=>?_)
  ·refine sRegion (sM S fun a S=>?_)
   refine nilCheck_ok (q:=⟨bb0,0,none⟩) S (wN d) d d d (lb d) fun a S=>sField (b:=bb0) (off:=0) 5 5 S (wN d) d d d d d (lb d) fun a S=>sLoad1 0 (.slice ak p0.best.length al) S (wN d) d d d d d d (lb d) fun a S=>sBin _ S (wN d) d d d (bEqNilZ _ _ _ _ Try.underlying25 ak (p0.best.length) (al) (rLz_is (S.mem.know (i:=1) (e:=fRep (rLz (rI .i64)) (.slice ak p0.best.length al) p0.best) d))) d (lb d) fun a S=>sM S fun a S=>?_
   rcases iS h with ⟨ae,h⟩ | ⟨ae,h⟩
   ·refine sSkN 6 5 false 37 S d d ae d fun a S=>sPickT (.bool true) S (wN d) d d ae d d (lb d) fun a S=>?_
    exact lT (⟨true,Option.some.inj h,S.fix [0,1] [0,1] (by decide) d d d⟩)
   refine sMove (iv aw) S (wG 5 false 37 d d d ae) (.inl d) d d (lb d) fun a S=>sMove (.pointer (some ⟨bb0,0,none⟩)) S (wG 5 false 37 d d d ae) (.inl d) d d (lb d) fun a S=>nilCheck_ok (q:=⟨bb0,0,none⟩) S (wG 5 false 37 d d d ae) d d d (lb d) fun a S=>sField (b:=bb0) (off:=0) 6 6 S (wG 5 false 37 d d d ae) d d d d d (lb d) fun a S=>sLoad1 0 (iv p0.least) S (wG 5 false 37 d d d ae) d d d d d d (lb d) fun a S=>sBin _ S (wG 5 false 37 d d d ae) d d d (bLt _ _ _ _ .i64 aw p0.least) d (lb d) fun a S=>sPickF (.bool (decide (aw < p0.least))) S (wN d) d d ae d d (lb d) fun a S=>?_
   exact lT (⟨decide (aw < p0.least),Option.some.inj h,S.fix [0,1] [0,1] (by decide) d d d⟩)
  obtain ⟨bg,rfl,S⟩:=hI
  have h:=bx
  try dsimp only at h
  rcases iS h with ⟨aG,h⟩ | ⟨aG,h⟩
  rotate_left
  ·refine sCondF S d aG ?_
   exact wp_skip (leafT (⟨aj,p0.best,p0.least,Option.some.inj h,a5,a6,ak,al,S.fix [0,1] [0,1] (by decide) d d d⟩))
  refine sCondT S d aG (sRegion (sM S fun a S=>?_))
  refine sM S fun a S=>?_
  refine sM S fun a S=>?_
  refine nilCheck_ok (q:=⟨bb0,0,none⟩) S (wN d) d d d (lb d) fun a S=>sField (b:=bb0) (off:=0) 4 4 S (wN d) d d d d d (lb d) fun a S=>sLoad1 0 (.slice a5 aj.length a6) S (wN d) d d d d d d (lb d) fun a S=>?_
  obtain ⟨ag,bh,h⟩:=bS h
  refine sCall (X:=Option Addr × Nat) (f:=49) (vs:=[.slice a5 aj.length a6]) (val:=fun x=>.slice x.1 ag.1.length x.2) (B':=fun x=>[eRow (rI .i64) 3 (.slice x.1 ag.1.length x.2) ag.1,eRow (rI .i64) 3 (.slice a5 aj.length a6) ag.2]) (D':=fun _=>[]) [eRow (rI .i64) 3 (.slice a5 aj.length a6) aj] [eBox bb0 68 [iv p0.g.W,iv p0.g.H,.slice a2 p0.g.Bits.length a3,iv p0.k,.slice a5 aj.length a6,.slice ak p0.best.length al,iv p0.least]] [] [1,0] [] S (wN d) d callee49 d (by decide) d d (fun E1 w1 S1=>c_slices_Clone___int_int__s1 E1 w1 aj a5 a6 ag bh S1) d (lb d) fun xx a w S=>?_
  obtain ⟨ap,aq⟩:=xx
  dsimp only at S
  have bi:=row_v (S.mem.hold (i:=1) (e:=eRow (rI .i64) 3 (.slice a5 aj.length a6) ag.2) d)
  rw [bi] at S
  refine sM S fun a S=>?_
  refine nilCheck_ok (q:=⟨bb0,0,none⟩) S (wN d) d d d (lb d) fun a S=>sField (b:=bb0) (off:=0) 5 5 S (wN d) d d d d d (lb d) fun a S=>?_
  have S:=S.shutR (r:=(rI .i64)) (T:=3) (v:=.slice ap ag.1.length aq) (xs:=ag.1) 0 d
  obtain ⟨bI,bj,h⟩:=bS h
  have S:=S.learn (fRep (rLz (rI .i64)) (.slice ap ag.1.length aq) ag.1) (rLz_of (S.mem.know (i:=0) (e:=fRep (rL (rI .i64)) (.slice ap ag.1.length aq) ag.1) d) bj)
  refine sStore (p:=bb0) (off:=5) (T:=68) (vs:=[iv p0.g.W,iv p0.g.H,.slice a2 p0.g.Bits.length a3,iv p0.k,.slice a5 ag.2.length a6,.slice ak p0.best.length al,iv p0.least]) (v:=.slice ap ag.1.length aq) 1 [.slice ap ag.1.length aq] S (wN d) d d d d d d d (by simp) d fun a w S=>nilCheck_ok (q:=⟨bb0,0,none⟩) S (wN d) d d d (lb d) fun a S=>sField (b:=bb0) (off:=0) 6 6 S (wN d) d d d d d (lb d) fun a S=>sStore (p:=bb0) (off:=6) (T:=68) (vs:=[iv p0.g.W,iv p0.g.H,.slice a2 p0.g.Bits.length a3,iv p0.k,.slice a5 ag.2.length a6,.slice ap ag.1.length aq,iv p0.least]) (v:=iv aw) 0 [iv aw] S (wN d) d d d d d d d (by simp) d fun a w S=>?_
  exact lT (⟨ag.2,ag.1,aw,Option.some.inj h,a5,a6,ap,aq,S.fix [0,1] [2,0] (by decide) d d d⟩)
 obtain ⟨a0,aT,h⟩:=bS h
 refine sDraw (nf:=[8,13,14]) (W:=[(0,20,.pointer (some ⟨bb0,0,none⟩)),(1,21,.pointer (some ⟨bb0,0,none⟩)),(2,22,.pointer (some ⟨bb0,0,none⟩)),(3,23,.agg #[iv p0.g.W,iv p0.g.H,.slice a2 p0.g.Bits.length a3]),(4,24,.pointer (some ⟨bb0,0,none⟩)),(5,25,.pointer (some ⟨bb0,0,none⟩)),(6,26,.pointer (some ⟨bb0,4,none⟩)),(7,27,.slice ad_0_1 p0.l.length cp_0_1)]) d S ?_
 refine node_by (A:=anc_reduce_search_from_s2_1) 17 (by kernel_rfl) (by kernel_rfl) (by kernel_rfl) (by kernel_rfl) (by kernel_rfl) [0,1,2,3,4,5,6,7] (by kernel_rfl) (by decide) (by decide) (fF ?_ (fF ?_ (fF ?_ (fF ?_ (fF ?_ (fF ?_ (fF ?_ (fF ?_ (fN ?_ (fE 8 (fE 8 (fE 8 (fE 8 (fN ?_ (aB 14 2 8 (by decide) (fE 8 (fE 8 (trivial)))))))))))))))))) [] (fun q hq=>by cases hq) (fun hY=>absurd (hY 8 (by decide)) (by decide))
 ·exact fM 0 none d d d d (.inl d) d d d
 ·refine fJ [(20,_)] 1 [some 0] fun G a w S=>?_
  exact nilCheck_ok (q:=⟨bb0,0,none⟩) S (wN d) d d d (lb d) fun a S=>leafL ⟨d,S⟩
 ·refine fJ [(21,_)] 2 [some 1] fun G a w S=>?_
  exact sField (b:=bb0) (off:=0) 0 0 S (wN d) d d d d d (lb d) fun a S=>leafL ⟨d,S⟩
 ·refine fJ [(22,_)] 3 [some 2] fun G a w S=>?_
  exact sLoadN (p:=bb0) (off:=0) (T:=68) (vs:=[iv p0.g.W,iv p0.g.H,.slice a2 p0.g.Bits.length a3,iv p0.k,.slice ad_0_1 p0.l.length cp_0_1,.slice ak p0.best.length al,iv p0.least]) 0 [iv p0.g.W,iv p0.g.H,.slice a2 p0.g.Bits.length a3] S (wN d) d d d d d d d (lb d) fun a S=>leafL ⟨d,S⟩
 ·exact fM 4 none d d d d (.inl d) d d d
 ·refine fJ [(24,_)] 5 [some 4] fun G a w S=>?_
  exact nilCheck_ok (q:=⟨bb0,0,none⟩) S (wN d) d d d (lb d) fun a S=>leafL ⟨d,S⟩
 ·refine fJ [(25,_)] 6 [some 5] fun G a w S=>?_
  exact sField (b:=bb0) (off:=0) 4 4 S (wN d) d d d d d (lb d) fun a S=>leafL ⟨d,S⟩
 ·refine fJ [(26,_)] 7 [some 6] fun G a w S=>?_
  exact sLoad1 0 (.slice ad_0_1 p0.l.length cp_0_1) S (wN d) d d d d d d (lb d) fun a S=>leafL ⟨d,S⟩
 ·refine ⟨_,[(23,.agg #[iv p0.g.W,iv p0.g.H,.slice a2 p0.g.Bits.length a3]),(27,.slice ad_0_1 p0.l.length cp_0_1)],d,(srcs_of [some 3,some 7] d d d),fun G a w S=>?_⟩
  have S:=S.learn (fRep r_api_Grid (.agg #[iv p0.g.W,iv p0.g.H,.slice a2 p0.g.Bits.length a3]) p0.g) ⟨_,d,S.mem.know (i:=0) (e:=fRep (rL rB) (.slice a2 p0.g.Bits.length a3) p0.g.Bits) d⟩
  refine sCall (X:=Option Addr × Nat) (f:=12) (vs:=[.agg #[iv p0.g.W,iv p0.g.H,.slice a2 p0.g.Bits.length a3],.slice ad_0_1 p0.l.length cp_0_1]) (val:=fun x=>.tuple #[.agg #[iv a0.1.W,iv a0.1.H,.slice x.1 a0.1.Bits.length x.2],iv a0.2.1,iv a0.2.2.1]) (B':=fun x=>[eRow rB 4 (.slice x.1 a0.1.Bits.length x.2) a0.1.Bits,eRow (rI .i64) 3 (.slice ad_0_1 p0.l.length cp_0_1) a0.2.2.2]) (D':=fun _=>[]) [eRow (rI .i64) 3 (.slice ad_0_1 p0.l.length cp_0_1) p0.l] [eBox bb0 68 [iv p0.g.W,iv p0.g.H,.slice a2 p0.g.Bits.length a3,iv p0.k,.slice ad_0_1 p0.l.length cp_0_1,.slice ak p0.best.length al,iv p0.least]] [fRep r_api_Grid (.agg #[iv p0.g.W,iv p0.g.H,.slice a2 p0.g.Bits.length a3]) p0.g] [1,0] [0] S (wN d) d callee12 d (by decide) d d (fun E1 w1 S1=>c_reduce_Change_s1 E1 w1 p0.g (.agg #[iv p0.g.W,iv p0.g.H,.slice a2 p0.g.Bits.length a3]) p0.l ad_0_1 cp_0_1 a0 aT S1) d (lb d) fun xx a w S=>?_
  obtain ⟨a7,a8⟩:=xx
  dsimp only at S
  refine leafL ⟨d,_,_,.inl ⟨28,(.tuple #[.agg #[iv a0.1.W,iv a0.1.H,.slice a7 a0.1.Bits.length a8],iv a0.2.1,iv a0.2.2.1]),[(9,19,.tuple #[.agg #[iv a0.1.W,iv a0.1.H,.slice a7 a0.1.Bits.length a8],iv a0.2.1,iv a0.2.2.1]),(10,29,.agg #[iv a0.1.W,iv a0.1.H,.slice a7 a0.1.Bits.length a8]),(11,30,iv a0.2.1),(12,31,iv a0.2.2.1)],d,S,hz_of d,?_⟩⟩
  refine node_by (A:=anc_reduce_search_from_s2_1) 17 (by kernel_rfl) (by kernel_rfl) (by kernel_rfl) (by kernel_rfl) (by kernel_rfl) [9,10,11,12,8,0,1,2,3,4,5,6,7] (by kernel_rfl) (by decide) (by decide) (fD 8 (fD 8 (fD 8 (fD 8 (fD 8 (fD 8 (fD 8 (fD 8 (fY (fF ?_ (fF ?_ (fF ?_ (fF ?_ (fN ?_ (aB 14 2 13 (by decide) (fE 13 (fE 13 (trivial)))))))))))))))))) [] (fun q hq=>by cases hq) (fun hY=>absurd (hY 13 (by decide)) (by decide))
  ·exact fM 0 (some 4) d d d d (.inl d) d d d
  ·refine fJ [(19,_)] 1 [some 0] fun G a w S=>?_
   exact sExtract (vs:=[.agg #[iv a0.1.W,iv a0.1.H,.slice a7 a0.1.Bits.length a8],iv a0.2.1,iv a0.2.2.1]) (.agg #[iv a0.1.W,iv a0.1.H,.slice a7 a0.1.Bits.length a8]) S (wN d) d d d d (lb d) fun a S=>leafL ⟨d,S⟩
  ·refine fJ [(19,_)] 2 [some 0] fun G a w S=>?_
   exact sExtract (vs:=[.agg #[iv a0.1.W,iv a0.1.H,.slice a7 a0.1.Bits.length a8],iv a0.2.1,iv a0.2.2.1]) (iv a0.2.1) S (wN d) d d d d (lb d) fun a S=>leafL ⟨d,S⟩
  ·refine fJ [(19,_)] 3 [some 0] fun G a w S=>?_
   exact sExtract (vs:=[.agg #[iv a0.1.W,iv a0.1.H,.slice a7 a0.1.Bits.length a8],iv a0.2.1,iv a0.2.2.1]) (iv a0.2.2.1) S (wN d) d d d d (lb d) fun a S=>leafL ⟨d,S⟩
  refine ⟨_,[],d,(srcs_of [] d d d),fun G a w S=>?_⟩
  refine sAlloc (.agg #[iv 0,iv 0,.slice none 0 0]) S (wN d) d d [iv 0,iv 0,.slice none 0 0] d d (lb d) fun a bk w S=>leafL ⟨d,_,_,.inl ⟨4,(.pointer (some ⟨bk,0,none⟩)),[],d,S,hz_of d,?_⟩⟩
  refine node_by (A:=anc_reduce_search_from_s2_1) 17 (by kernel_rfl) (by kernel_rfl) (by kernel_rfl) (by kernel_rfl) (by kernel_rfl) [13,9,10,11,12,8,0,1,2,3,4,5,6,7] (by kernel_rfl) (by decide) (by decide) (fD 8 (fD 8 (fD 8 (fD 8 (fD 8 (fD 8 (fD 8 (fD 8 (fY (fF ?_ (fF ?_ (fF ?_ (fF ?_ (fY (fN ?_ (fE 14 (fE 14 (trivial)))))))))))))))))) [] (fun q hq=>by cases hq) (fun hY=>absurd (hY 14 (by decide)) (by decide))
  ·exact fM 1 (some 5) d d d d (.inl d) d d d
  ·refine fJ [(19,_)] 2 [some 1] fun G a w S=>?_
   exact sExtract (vs:=[.agg #[iv a0.1.W,iv a0.1.H,.slice a7 a0.1.Bits.length a8],iv a0.2.1,iv a0.2.2.1]) (.agg #[iv a0.1.W,iv a0.1.H,.slice a7 a0.1.Bits.length a8]) S (wN d) d d d d (lb d) fun a S=>leafL ⟨d,S⟩
  ·refine fJ [(19,_)] 3 [some 1] fun G a w S=>?_
   exact sExtract (vs:=[.agg #[iv a0.1.W,iv a0.1.H,.slice a7 a0.1.Bits.length a8],iv a0.2.1,iv a0.2.2.1]) (iv a0.2.1) S (wN d) d d d d (lb d) fun a S=>leafL ⟨d,S⟩
  ·refine fJ [(19,_)] 4 [some 1] fun G a w S=>?_
   exact sExtract (vs:=[.agg #[iv a0.1.W,iv a0.1.H,.slice a7 a0.1.Bits.length a8],iv a0.2.1,iv a0.2.2.1]) (iv a0.2.2.1) S (wN d) d d d d (lb d) fun a S=>leafL ⟨d,S⟩
  refine ⟨_,[(4,.pointer (some ⟨bk,0,none⟩)),(29,.agg #[iv a0.1.W,iv a0.1.H,.slice a7 a0.1.Bits.length a8])],d,(srcs_of [some 0,some 2] d d d),fun G a w S=>?_⟩
  refine sStore (p:=bk) (off:=0) (T:=24) (vs:=[iv 0,iv 0,.slice none 0 0]) (v:=.agg #[iv a0.1.W,iv a0.1.H,.slice a7 a0.1.Bits.length a8]) 0 [iv a0.1.W,iv a0.1.H,.slice a7 a0.1.Bits.length a8] S (wN d) d d d d d d d (by simp) d fun a w S=>leafL ⟨d,_,_,.inr ⟨[(15,5,iv a0.2.1),(16,6,iv a0.2.2.1)],d,S,hz_of d,?_⟩⟩
  refine node_by (A:=anc_reduce_search_from_s2_1) 17 (by kernel_rfl) (by kernel_rfl) (by kernel_rfl) (by kernel_rfl) (by kernel_rfl) [15,16,13,9,10,11,12,8,0,1,2,3,4,5,6,7] (by kernel_rfl) (by decide) (by decide) (fD 14 (fD 14 (fD 14 (fD 14 (fD 14 (fD 14 (fD 14 (fD 14 (fY (fD 14 (fD 14 (fF ?_ (fF ?_ (fY (fY (fF ?_ (fF ?_ (trivial)))))))))))))))))) [(0,.pointer (some ⟨bb0,0,none⟩)),(5,iv a0.2.1)] (fin_of [none,some 0] d (by kernel_rfl) (by kernel_rfl)) (fun _ a w S=>?_)
  ·refine fJ [(19,_)] 5 [some 3] fun G a w S=>?_
   exact sExtract (vs:=[.agg #[iv a0.1.W,iv a0.1.H,.slice a7 a0.1.Bits.length a8],iv a0.2.1,iv a0.2.2.1]) (iv a0.2.1) S (wN d) d d d d (lb d) fun a S=>leafL ⟨d,S⟩
  ·refine fJ [(19,_)] 6 [some 3] fun G a w S=>?_
   exact sExtract (vs:=[.agg #[iv a0.1.W,iv a0.1.H,.slice a7 a0.1.Bits.length a8],iv a0.2.1,iv a0.2.2.1]) (iv a0.2.2.1) S (wN d) d d d d (lb d) fun a S=>leafL ⟨d,S⟩
  ·exact fM 0 (some 5) d d d d (.inr d) d d d
  ·exact fM 1 (some 6) d d d d (.inr d) d d d
  have bl:=row_v (S.mem.hold (i:=2) (e:=eRow (rI .i64) 3 (.slice ad_0_1 p0.l.length cp_0_1) a0.2.2.2) d)
  rw [bl] at S
  exact leafT (⟨a0.2.1,a0.2.2.2,Option.some.inj h,ad_0_1,cp_0_1,S.fix [3,2] [1,2] (by decide) d d d⟩)
 refine ⟨_,[],d,(srcs_of [] d d d),fun G a w S=>?_⟩
 refine sAlloc (.agg #[iv 0,iv 0,.slice none 0 0]) S (wN d) d d [iv 0,iv 0,.slice none 0 0] d d (lb d) fun a aV w S=>leafL ⟨d,_,_,.inl ⟨4,(.pointer (some ⟨aV,0,none⟩)),[],d,S,hz_of d,?_⟩⟩
 refine node_by (A:=anc_reduce_search_from_s2_1) 17 (by kernel_rfl) (by kernel_rfl) (by kernel_rfl) (by kernel_rfl) (by kernel_rfl) [13,0,1,2,3,4,5,6,7] (by kernel_rfl) (by decide) (by decide) (fF ?_ (fF ?_ (fF ?_ (fF ?_ (fF ?_ (fF ?_ (fF ?_ (fF ?_ (fN ?_ (fE 8 (fE 8 (fE 8 (fE 8 (fY (aB 14 2 8 (by decide) (fE 8 (fE 8 (trivial)))))))))))))))))) [] (fun q hq=>by cases hq) (fun hY=>absurd (hY 8 (by decide)) (by decide))
 ·exact fM 1 none d d d d (.inl d) d d d
 ·refine fJ [(20,_)] 2 [some 1] fun G a w S=>?_
  exact nilCheck_ok (q:=⟨bb0,0,none⟩) S (wN d) d d d (lb d) fun a S=>leafL ⟨d,S⟩
 ·refine fJ [(21,_)] 3 [some 2] fun G a w S=>?_
  exact sField (b:=bb0) (off:=0) 0 0 S (wN d) d d d d d (lb d) fun a S=>leafL ⟨d,S⟩
 ·refine fJ [(22,_)] 4 [some 3] fun G a w S=>?_
  exact sLoadN (p:=bb0) (off:=0) (T:=68) (vs:=[iv p0.g.W,iv p0.g.H,.slice a2 p0.g.Bits.length a3,iv p0.k,.slice ad_0_1 p0.l.length cp_0_1,.slice ak p0.best.length al,iv p0.least]) 1 [iv p0.g.W,iv p0.g.H,.slice a2 p0.g.Bits.length a3] S (wN d) d d d d d d d (lb d) fun a S=>leafL ⟨d,S⟩
 ·exact fM 5 none d d d d (.inl d) d d d
 ·refine fJ [(24,_)] 6 [some 5] fun G a w S=>?_
  exact nilCheck_ok (q:=⟨bb0,0,none⟩) S (wN d) d d d (lb d) fun a S=>leafL ⟨d,S⟩
 ·refine fJ [(25,_)] 7 [some 6] fun G a w S=>?_
  exact sField (b:=bb0) (off:=0) 4 4 S (wN d) d d d d d (lb d) fun a S=>leafL ⟨d,S⟩
 ·refine fJ [(26,_)] 8 [some 7] fun G a w S=>?_
  exact sLoad1 1 (.slice ad_0_1 p0.l.length cp_0_1) S (wN d) d d d d d d (lb d) fun a S=>leafL ⟨d,S⟩
 refine ⟨_,[(23,.agg #[iv p0.g.W,iv p0.g.H,.slice a2 p0.g.Bits.length a3]),(27,.slice ad_0_1 p0.l.length cp_0_1)],d,(srcs_of [some 4,some 8] d d d),fun G a w S=>?_⟩
 have S:=S.learn (fRep r_api_Grid (.agg #[iv p0.g.W,iv p0.g.H,.slice a2 p0.g.Bits.length a3]) p0.g) ⟨_,d,S.mem.know (i:=0) (e:=fRep (rL rB) (.slice a2 p0.g.Bits.length a3) p0.g.Bits) d⟩
 refine sCall (X:=Option Addr × Nat) (f:=12) (vs:=[.agg #[iv p0.g.W,iv p0.g.H,.slice a2 p0.g.Bits.length a3],.slice ad_0_1 p0.l.length cp_0_1]) (val:=fun x=>.tuple #[.agg #[iv a0.1.W,iv a0.1.H,.slice x.1 a0.1.Bits.length x.2],iv a0.2.1,iv a0.2.2.1]) (B':=fun x=>[eRow rB 4 (.slice x.1 a0.1.Bits.length x.2) a0.1.Bits,eRow (rI .i64) 3 (.slice ad_0_1 p0.l.length cp_0_1) a0.2.2.2]) (D':=fun _=>[]) [eRow (rI .i64) 3 (.slice ad_0_1 p0.l.length cp_0_1) p0.l] [eBox aV 24 [iv 0,iv 0,.slice none 0 0],eBox bb0 68 [iv p0.g.W,iv p0.g.H,.slice a2 p0.g.Bits.length a3,iv p0.k,.slice ad_0_1 p0.l.length cp_0_1,.slice ak p0.best.length al,iv p0.least]] [fRep r_api_Grid (.agg #[iv p0.g.W,iv p0.g.H,.slice a2 p0.g.Bits.length a3]) p0.g] [2,0,1] [0] S (wN d) d callee12 d (by decide) d d (fun E1 w1 S1=>c_reduce_Change_s1 E1 w1 p0.g (.agg #[iv p0.g.W,iv p0.g.H,.slice a2 p0.g.Bits.length a3]) p0.l ad_0_1 cp_0_1 a0 aT S1) d (lb d) fun xx a w S=>?_
 obtain ⟨ab,ac⟩:=xx
 dsimp only at S
 refine leafL ⟨d,_,_,.inl ⟨28,(.tuple #[.agg #[iv a0.1.W,iv a0.1.H,.slice ab a0.1.Bits.length ac],iv a0.2.1,iv a0.2.2.1]),[(9,19,.tuple #[.agg #[iv a0.1.W,iv a0.1.H,.slice ab a0.1.Bits.length ac],iv a0.2.1,iv a0.2.2.1]),(10,29,.agg #[iv a0.1.W,iv a0.1.H,.slice ab a0.1.Bits.length ac]),(11,30,iv a0.2.1),(12,31,iv a0.2.2.1)],d,S,hz_of d,?_⟩⟩
 refine node_by (A:=anc_reduce_search_from_s2_1) 17 (by kernel_rfl) (by kernel_rfl) (by kernel_rfl) (by kernel_rfl) (by kernel_rfl) [9,10,11,12,8,13,0,1,2,3,4,5,6,7] (by kernel_rfl) (by decide) (by decide) (fD 8 (fD 8 (fD 8 (fD 8 (fD 8 (fD 8 (fD 8 (fD 8 (fY (fF ?_ (fF ?_ (fF ?_ (fF ?_ (fY (fN ?_ (fE 14 (fE 14 (trivial)))))))))))))))))) [] (fun q hq=>by cases hq) (fun hY=>absurd (hY 14 (by decide)) (by decide))
 ·exact fM 0 (some 4) d d d d (.inl d) d d d
 ·refine fJ [(19,_)] 1 [some 0] fun G a w S=>?_
  exact sExtract (vs:=[.agg #[iv a0.1.W,iv a0.1.H,.slice ab a0.1.Bits.length ac],iv a0.2.1,iv a0.2.2.1]) (.agg #[iv a0.1.W,iv a0.1.H,.slice ab a0.1.Bits.length ac]) S (wN d) d d d d (lb d) fun a S=>leafL ⟨d,S⟩
 ·refine fJ [(19,_)] 2 [some 0] fun G a w S=>?_
  exact sExtract (vs:=[.agg #[iv a0.1.W,iv a0.1.H,.slice ab a0.1.Bits.length ac],iv a0.2.1,iv a0.2.2.1]) (iv a0.2.1) S (wN d) d d d d (lb d) fun a S=>leafL ⟨d,S⟩
 ·refine fJ [(19,_)] 3 [some 0] fun G a w S=>?_
  exact sExtract (vs:=[.agg #[iv a0.1.W,iv a0.1.H,.slice ab a0.1.Bits.length ac],iv a0.2.1,iv a0.2.2.1]) (iv a0.2.2.1) S (wN d) d d d d (lb d) fun a S=>leafL ⟨d,S⟩
 refine ⟨_,[(4,.pointer (some ⟨aV,0,none⟩)),(29,.agg #[iv a0.1.W,iv a0.1.H,.slice ab a0.1.Bits.length ac])],d,(srcs_of [some 5,some 1] d d d),fun G a w S=>?_⟩
 refine sStore (p:=aV) (off:=0) (T:=24) (vs:=[iv 0,iv 0,.slice none 0 0]) (v:=.agg #[iv a0.1.W,iv a0.1.H,.slice ab a0.1.Bits.length ac]) 2 [iv a0.1.W,iv a0.1.H,.slice ab a0.1.Bits.length ac] S (wN d) d d d d d d d (by simp) d fun a w S=>leafL ⟨d,_,_,.inr ⟨[(15,5,iv a0.2.1),(16,6,iv a0.2.2.1)],d,S,hz_of d,?_⟩⟩
 refine node_by (A:=anc_reduce_search_from_s2_1) 17 (by kernel_rfl) (by kernel_rfl) (by kernel_rfl) (by kernel_rfl) (by kernel_rfl) [15,16,9,10,11,12,8,13,0,1,2,3,4,5,6,7] (by kernel_rfl) (by decide) (by decide) (fD 14 (fD 14 (fD 14 (fD 14 (fD 14 (fD 14 (fD 14 (fD 14 (fY (fD 14 (fD 14 (fF ?_ (fF ?_ (fY (fY (fF ?_ (fF ?_ (trivial)))))))))))))))))) [(0,.pointer (some ⟨bb0,0,none⟩)),(5,iv a0.2.1)] (fin_of [none,some 0] d (by kernel_rfl) (by kernel_rfl)) (fun _ a w S=>?_)
 ·refine fJ [(19,_)] 4 [some 2] fun G a w S=>?_
  exact sExtract (vs:=[.agg #[iv a0.1.W,iv a0.1.H,.slice ab a0.1.Bits.length ac],iv a0.2.1,iv a0.2.2.1]) (iv a0.2.1) S (wN d) d d d d (lb d) fun a S=>leafL ⟨d,S⟩
 ·refine fJ [(19,_)] 5 [some 2] fun G a w S=>?_
  exact sExtract (vs:=[.agg #[iv a0.1.W,iv a0.1.H,.slice ab a0.1.Bits.length ac],iv a0.2.1,iv a0.2.2.1]) (iv a0.2.2.1) S (wN d) d d d d (lb d) fun a S=>leafL ⟨d,S⟩
 ·exact fM 0 (some 4) d d d d (.inr d) d d d
 ·exact fM 1 (some 5) d d d d (.inr d) d d d
 have bm:=row_v (S.mem.hold (i:=2) (e:=eRow (rI .i64) 3 (.slice ad_0_1 p0.l.length cp_0_1) a0.2.2.2) d)
 rw [bm] at S
 exact leafT (⟨a0.2.1,a0.2.2.2,Option.some.inj h,ad_0_1,cp_0_1,S.fix [3,2] [1,2] (by decide) d d d⟩)
def anc_reduce_search_from_s1_0:List (List Nat):=[[],[0],[0,1],[0,1,2],[0,1,2,3],[],[5],[5,6],[5,6,7],[5,6,7,8],[0,1,2,3,4,5,6,7,8,9]]
def anc_reduce_search_from_s1_1:List (List Nat):=[[],[0],[0,1],[0,1,2],[],[4],[4,5],[4,5,6],[0,1,2,3,4,5,6,7],[0,1,2,3,4,5,6,7,8],[0,1,2,3,4,5,6,7,8,9],[0,1,2,3,4,5,6,7,8,9],[0,1,2,3,4,5,6,7,8,9],[],[0,1,2,3,4,5,6,7,8,9,10,13],[0,1,2,3,4,5,6,7,8,9,10,11,13,14],[0,1,2,3,4,5,6,7,8,9,10,11,12,13,14,15]]
def anc_reduce_search_from_s1_2:List (List Nat):=[[],[],[1],[1,2],[1,2,3],[],[5],[5,6],[5,6,7],[5,6,7,8],[5,6,7,8,9],[1,2,3,4,5,6,7,8,9,10],[0,1,2,3,4,5,6,7,8,9,10,11],[0,1,2,3,4,5,6,7,8,9,10,11,12],[0,1,2,3,4,5,6,7,8,9,10,11,12,13]]
noncomputable def reduce_search_from_s1_l1 (p0:reduce_search) (p1:Int):(Int × Int × Int × Int × List Int × List Int × Int)→Option ((Int × Int × Int × Int × List Int × List Int × Int) ⊕ (Int × Int × Int × List Int × List Int × Int)):=fun s0=>match s0 with
 | (a2,a3,a4,a5,a6,a7,a8)=>
  if decide (a2 < (if p0.k < (w64 (p1 + 1)) then p0.k else w64 (p1 + 1))) then
   (appO a6 ([a2]:List Int)).bind fun a9=>
   (F_reduce_search_from_s2 (reduce_search.mk (api_Grid.mk a3 a4 p0.g.Bits) a5 a9 a7 a8) (if p1 < (w64 (a2 + 1)) then w64 (a2 + 1) else p1)).bind fun a0=>
   (sliceO a0.l 0 (w64 ((a0.l.length:Int) - 1))).bind fun aa=>
   some (.inl (w64 (a2 + 1),a0.g.W,a0.g.H,a0.k,aa,a0.best,a0.least))
  else
   some (.inr (a3,a4,a5,a6,a7,a8))
noncomputable def F_reduce_search_from_s1 (p0:reduce_search) (p1:Int):Option reduce_search:=
 if (p0.l.length:Int) == p0.g.W then
  Option.bind (α:=(List Int × List Int × Int)) (
   Option.bind (α:=(Int × List Int)) (
    (F_reduce_Change_s1 p0.g p0.l).bind fun a2=>
    some (a2.2.1,a2.2.2.2)) fun (a3,a4)=>
   Option.bind (α:=Bool) (
    if p0.best.isEmpty then
     some true
    else
     some (decide (a3 < p0.least))) fun a5=>
   if a5 then
    (F_slices_Clone___int_int__s1 a4).bind fun a0=>
    (neO a0.1).bind fun af=>
    some (a0.2,a0.1,a3)
   else
    some (a4,p0.best,p0.least)) fun (o8,a6,a7)=>
  some (reduce_search.mk p0.g p0.k o8 a6 a7)
 else
  (whileO (reduce_search_from_s1_l1 p0 p1) (0,p0.g.W,p0.g.H,p0.k,p0.l,p0.best,p0.least)).bind fun (a8,a9,aa,ab,ac,ae)=>
   some (reduce_search.mk (api_Grid.mk a8 a9 p0.g.Bits) aa ab ac ae)
theorem c_reduce_search_from_s1 (E:Nat→Prop) (w0:World) (p0:reduce_search) (bb0:Nat) (u_0_0:Value) (ad_0_1:Option Addr) (cp_0_1:Nat) (u_0_2:Value) (p1:Int) (r:reduce_search) (h:F_reduce_search_from_s1 p0 p1=some r) (S:St0 E (keysL [eBox bb0 68 [iv p0.g.W,iv p0.g.H,u_0_0,iv p0.k,.slice ad_0_1 p0.l.length cp_0_1,u_0_2,iv p0.least],eRow (rI .i64) 3 (.slice ad_0_1 p0.l.length cp_0_1) p0.l]) w0 w0 [eBox bb0 68 [iv p0.g.W,iv p0.g.H,u_0_0,iv p0.k,.slice ad_0_1 p0.l.length cp_0_1,u_0_2,iv p0.least],eRow (rI .i64) 3 (.slice ad_0_1 p0.l.length cp_0_1) p0.l] [fRep (rL rB) (u_0_0) p0.g.Bits,fRep (rLz (rI .i64)) (u_0_2) p0.best]) :
 Calls Try.prog 41 #[.pointer (some ⟨bb0,0,none⟩),iv p1] w0 (Ret (X:=Option Addr × Nat × Value) E (keysL [eBox bb0 68 [iv p0.g.W,iv p0.g.H,u_0_0,iv p0.k,.slice ad_0_1 p0.l.length cp_0_1,u_0_2,iv p0.least],eRow (rI .i64) 3 (.slice ad_0_1 p0.l.length cp_0_1) p0.l]) w0 (fun _=>.tuple #[]) (fun x=>[eBox bb0 68 [iv r.g.W,iv r.g.H,u_0_0,iv r.k,.slice x.1 r.l.length x.2.1,x.2.2,iv r.least],eRow (rI .i64) 3 (.slice x.1 r.l.length x.2.1) r.l]) (fun x=>[fRep (rLz (rI .i64)) x.2.2 r.best])):=by
 unfold F_reduce_search_from_s1 at h
 obtain ⟨a2,a3,_,rfl,_⟩:=S.know (i:=0) (e:=fRep (rL rB) (u_0_0) p0.g.Bits) d
 obtain ⟨⟨ak,al,_,rfl,_⟩,_⟩:=S.know (i:=1) (e:=fRep (rLz (rI .i64)) (u_0_2) p0.best) d
 generalize (keysL [eBox bb0 68 [iv p0.g.W,iv p0.g.H,.slice a2 p0.g.Bits.length a3,iv p0.k,.slice ad_0_1 p0.l.length cp_0_1,.slice ak p0.best.length al,iv p0.least],eRow (rI .i64) 3 (.slice ad_0_1 p0.l.length cp_0_1) p0.l])=M9 at S ⊢
 refine sEnter (args:=[.pointer (some ⟨bb0,0,none⟩),iv p1]) 98 Try.func41 d d (by simp) S (fun a S=>?_)
 refine sSeq (fun K5 bn=>sSeq (fun K6 bo=>sDraw (nf:=[]) (W:=[(0,8,.pointer (some ⟨bb0,0,none⟩)),(1,9,.pointer (some ⟨bb0,0,none⟩)),(2,10,.pointer (some ⟨bb0,4,none⟩)),(3,11,.slice ad_0_1 p0.l.length cp_0_1),(4,12,iv (p0.l.length:Int)),(5,13,.pointer (some ⟨bb0,0,none⟩)),(6,14,.pointer (some ⟨bb0,0,none⟩)),(7,15,.pointer (some ⟨bb0,0,none⟩)),(8,16,.pointer (some ⟨bb0,0,none⟩)),(9,17,iv p0.g.W),(10,18,.bool ((p0.l.length:Int) == p0.g.W))]) d S ?_))
 refine node_by (A:=anc_reduce_search_from_s1_0) 11 (by kernel_rfl) (by kernel_rfl) (by kernel_rfl) (by kernel_rfl) (by kernel_rfl) [0,1,2,3,4,5,6,7,8,9,10] (by kernel_rfl) (by decide) (by decide) (fF ?_ (fF ?_ (fF ?_ (fF ?_ (fF ?_ (fF ?_ (fF ?_ (fF ?_ (fF ?_ (fF ?_ (fF ?_ (trivial)))))))))))) [(0,.pointer (some ⟨bb0,0,none⟩)),(1,iv p1),(18,.bool ((p0.l.length:Int) == p0.g.W))] (fin_of [none,none,some 10] d (by kernel_rfl) (by kernel_rfl)) (fun _ a w S=>?_)
 ·exact fM 0 none d d d d (.inl d) d d d
 ·refine fJ [(8,_)] 1 [some 0] fun G a w S=>?_
  exact nilCheck_ok (q:=⟨bb0,0,none⟩) S (wN d) d d d (lb d) fun a S=>leafL ⟨d,S⟩
 ·refine fJ [(9,_)] 2 [some 1] fun G a w S=>?_
  exact sField (b:=bb0) (off:=0) 4 4 S (wN d) d d d d d (lb d) fun a S=>leafL ⟨d,S⟩
 ·refine fJ [(10,_)] 3 [some 2] fun G a w S=>?_
  exact sLoad1 0 (.slice ad_0_1 p0.l.length cp_0_1) S (wN d) d d d d d d (lb d) fun a S=>leafL ⟨d,S⟩
 ·refine fJ [(11,_)] 4 [some 3] fun G a w S=>?_
  exact sLen S (wN d) d Try.underlying25 d d (lb d) fun a S=>leafL ⟨d,S⟩
 ·exact fM 5 none d d d d (.inl d) d d d
 ·refine fJ [(13,_)] 6 [some 5] fun G a w S=>?_
  exact nilCheck_ok (q:=⟨bb0,0,none⟩) S (wN d) d d d (lb d) fun a S=>leafL ⟨d,S⟩
 ·refine fJ [(14,_)] 7 [some 6] fun G a w S=>?_
  exact sField (b:=bb0) (off:=0) 0 0 S (wN d) d d d d d (lb d) fun a S=>leafL ⟨d,S⟩
 ·refine fJ [(15,_)] 8 [some 7] fun G a w S=>?_
  exact sField (b:=bb0) (off:=0) 0 0 S (wN d) d d d d d (lb d) fun a S=>leafL ⟨d,S⟩
 ·refine fJ [(16,_)] 9 [some 8] fun G a w S=>?_
  exact sLoad1 0 (iv p0.g.W) S (wN d) d d d d d d (lb d) fun a S=>leafL ⟨d,S⟩
 ·refine fJ [(12,_),(17,_)] 10 [some 4,some 9] fun G a w S=>?_
  exact sBin _ S (wN d) d d d (bEq _ _ _ _ .i64 (p0.l.length:Int) p0.g.W) d (lb d) fun a S=>leafL ⟨d,S⟩
 refine leafT (bo _ _ ?_)
 rcases iS h with ⟨aW,h⟩ | ⟨aW,h⟩
 rotate_left
 ·refine sCondF S d aW (wp_skip (leafT (bn _ _ ?_)))
  refine sSeq (fun bz aX=>sRegion (sM S fun a S=>?_))
  refine sBin _ S (wN d) d d d (bAdd _ _ _ _ p1 1) d (lb d) fun a S=>sM S fun a S=>?_
  refine nilCheck_ok (q:=⟨bb0,0,none⟩) S (wN d) d d d (lb d) fun a S=>sField (b:=bb0) (off:=0) 3 3 S (wN d) d d d d d (lb d) fun a S=>sLoad1 0 (iv p0.k) S (wN d) d d d d d d (lb d) fun a S=>sMin2 (p:=w64 (p1 + 1)) (q:=p0.k) S (wN d) d d d d (lb d) fun a S=>sM S fun a S=>?_
  refine lT (aX _ _ (wp_block ?_))
  obtain ⟨bA,hl,bp⟩:=bS h
  refine sLoop hl (fun s0 a w=>match s0 with | (af,aJ,aK,aL,aA,ar,aM)=>∃ am,∃ ao,∃ ah,∃ ai,St [] E M9 w0 98 a w [(0,.pointer (some ⟨bb0,0,none⟩)),(1,iv p1),(63,iv (if p0.k < (w64 (p1 + 1)) then p0.k else w64 (p1 + 1))),(64,iv af)] [eBox bb0 68 [iv aJ,iv aK,.slice a2 p0.g.Bits.length a3,iv aL,.slice am aA.length ao,.slice ah ar.length ai,iv aM],eRow (rI .i64) 3 (.slice am aA.length ao) aA] [fRep (rL rB) (.slice a2 p0.g.Bits.length a3) p0.g.Bits,fRep (rLz (rI .i64)) (.slice ah ar.length ai) ar]) ⟨ad_0_1,cp_0_1,ak,al,S.fix [0,1] [0,1] (by decide) d d d⟩ ?_
  clear hl h
  intro s0 a w c0 hI h aZ
  obtain ⟨af,aJ,aK,aL,aA,ar,aM⟩:=s0
  unfold reduce_search_from_s1_l1 at h
  dsimp only at h hI
  obtain ⟨am,ao,ah,ai,S⟩:=hI
  refine sSeq (fun bB b1=>sRegion (sBin _ S (wN d) d d d (bLt _ _ _ _ .i64 af (if p0.k < (w64 (p1 + 1)) then p0.k else w64 (p1 + 1))) d (lb d) fun a S=>lT (b1 _ _ (sSeq (fun bC b3=>?_)))))
  rcases iS h with ⟨aC,h⟩ | ⟨aC,h⟩
  rotate_left
  ·refine sCondF S d aC ?_
   obtain rfl:=tS h
   obtain rfl:=aZ _ d
   have h:=bp
   try dsimp only at h
   obtain rfl:=tS h
   exact wp_exit (xThen (xThen (xHit (sEnd (.tuple #[]) S (rsl0 d ) ⟨(am,ao,(.slice ah ar.length ai)),d,S.mem.sel [0,1] [1] (by decide) d d⟩))))
  refine sCondT S d aC (wp_skip (leafT (b3 _ _ ?_)))
  refine sSeq (fun bD b4=>wp_block ?_)
  refine sSeq (fun bE b5=>sRegion (sM S fun a S=>?_))
  refine sN S fun a S=>?_
  refine lT (b5 _ _ (sSeq (fun bG b8=>sRegion (sM S fun a S=>?_))))
  refine sM S fun a S=>?_
  refine nilCheck_ok (q:=⟨bb0,0,none⟩) S (wN d) d d d (lb d) fun a S=>sField (b:=bb0) (off:=0) 4 4 S (wN d) d d d d d (lb d) fun a S=>sLoad1 0 (.slice am aA.length ao) S (wN d) d d d d d d (lb d) fun a S=>sM S fun a S=>?_
  refine sLit (r:=(rI .i64)) (T:=3) (xs:=([af]:List Int)) [(0,iv af)] 1 [iv af] [iv af] (iv 0) 8 S (wN d) d d Try.underlying25 d (by decide) (by decide) (by kernel_rfl) d (fun E1 w1 hE=>All.cons d (All.nil _ _ _)) d d (lb d) fun a w aO aP S=>?_
  obtain ⟨aH,b9,h⟩:=bS h
  refine sApp (r:=(rI .i64)) (T:=3) (xs:=aA) (ys:=([af]:List Int)) (v:=.slice am aA.length ao) (u:=.slice aO ([af]:List Int).length aP) 2 (iv 0) 8 S (wN d) d Try.underlying25 d d (by decide) d d d (src_R (T:=3) 0 S.mem d) b9 d (lb d) fun a w au av S=>nilCheck_ok (q:=⟨bb0,0,none⟩) S (wN d) d d d (lb d) fun a S=>sField (b:=bb0) (off:=0) 4 4 S (wN d) d d d d d (lb d) fun a S=>sStore (p:=bb0) (off:=4) (T:=68) (vs:=[iv aJ,iv aK,.slice a2 p0.g.Bits.length a3,iv aL,.slice am aA.length ao,.slice ah ar.length ai,iv aM]) (v:=.slice au aH.length av) 2 [.slice au aH.length av] S (wN d) d d d d d d d (by simp) d fun a w S=>lT (b8 _ _ (sSeq (fun bH ba=>sRegion (sM S fun a S=>?_))))
  refine sM S fun a S=>?_
  refine sM S fun a S=>?_
  refine sBin _ S (wN d) d d d (bAdd _ _ _ _ af 1) d (lb d) fun a S=>sMax2 (p:=p1) (q:=w64 (af + 1)) S (wN d) d d d d (lb d) fun a S=>?_
  obtain ⟨a4,bb,h⟩:=bS h
  refine sCall (X:=Option Addr × Nat × Value) (f:=41) (vs:=[.pointer (some ⟨bb0,0,none⟩),iv (if p1 < (w64 (af + 1)) then w64 (af + 1) else p1)]) (val:=fun _=>.tuple #[]) (B':=fun x=>[eBox bb0 68 [iv a4.g.W,iv a4.g.H,.slice a2 p0.g.Bits.length a3,iv a4.k,.slice x.1 a4.l.length x.2.1,x.2.2,iv a4.least],eRow (rI .i64) 3 (.slice x.1 a4.l.length x.2.1) a4.l]) (D':=fun x=>[fRep (rLz (rI .i64)) x.2.2 a4.best]) [eBox bb0 68 [iv aJ,iv aK,.slice a2 p0.g.Bits.length a3,iv aL,.slice au aH.length av,.slice ah ar.length ai,iv aM],eRow (rI .i64) 3 (.slice au aH.length av) aH] [eRow (rI .i64) 3 (.slice aO ([af]:List Int).length aP) ([af]:List Int)] [fRep (rL rB) (.slice a2 p0.g.Bits.length a3) p0.g.Bits,fRep (rLz (rI .i64)) (.slice ah ar.length ai) ar] [0,1,2] [0,1] S (wN d) d callee41 d (by decide) d d (fun E1 w1 S1=>c_reduce_search_from_s2 E1 w1 (reduce_search.mk (api_Grid.mk aJ aK p0.g.Bits) aL aH ar aM) bb0 (.slice a2 p0.g.Bits.length a3) au av (.slice ah ar.length ai) (if p1 < (w64 (af + 1)) then w64 (af + 1) else p1) a4 bb S1) d (lb d) fun xx a w S=>?_
  obtain ⟨a9,aa,bq⟩:=xx
  dsimp only at S
  obtain ⟨⟨aQ,aR,_,rfl,_⟩,_⟩:=S.mem.know (i:=0) (e:=fRep (rLz (rI .i64)) (bq) a4.best) d
  refine lT (ba _ _ ?_)
  obtain ⟨aS,bc,h⟩:=bS h
  refine sDraw (nf:=[11,14]) (W:=[(0,83,.pointer (some ⟨bb0,0,none⟩)),(1,84,.pointer (some ⟨bb0,0,none⟩)),(2,85,.pointer (some ⟨bb0,0,none⟩)),(3,86,.pointer (some ⟨bb0,4,none⟩)),(4,87,.slice a9 a4.l.length aa),(5,88,.pointer (some ⟨bb0,0,none⟩)),(6,89,.pointer (some ⟨bb0,0,none⟩)),(7,90,.pointer (some ⟨bb0,4,none⟩)),(8,91,.slice a9 a4.l.length aa),(9,92,iv (a4.l.length:Int)),(10,93,iv (w64 ((a4.l.length:Int) - 1)))]) d S ?_
  refine node_by (A:=anc_reduce_search_from_s1_2) 15 (by kernel_rfl) (by kernel_rfl) (by kernel_rfl) (by kernel_rfl) (by kernel_rfl) [0,1,2,3,4,5,6,7,8,9,10] (by kernel_rfl) (by decide) (by decide) (fF ?_ (fF ?_ (fF ?_ (fF ?_ (fF ?_ (fF ?_ (fF ?_ (fF ?_ (fF ?_ (fF ?_ (fF ?_ (fN ?_ (fE 11 (fE 11 (aB 14 0 11 (by decide) (trivial)))))))))))))))) [] (fun q hq=>by cases hq) (fun hY=>absurd (hY 11 (by decide)) (by decide))
  ·exact fM 0 none d d d d (.inl d) d d d
  ·exact fM 1 none d d d d (.inl d) d d d
  ·refine fJ [(84,_)] 2 [some 1] fun G a w S=>?_
   exact nilCheck_ok (q:=⟨bb0,0,none⟩) S (wN d) d d d (lb d) fun a S=>leafL ⟨d,S⟩
  ·refine fJ [(85,_)] 3 [some 2] fun G a w S=>?_
   exact sField (b:=bb0) (off:=0) 4 4 S (wN d) d d d d d (lb d) fun a S=>leafL ⟨d,S⟩
  ·refine fJ [(86,_)] 4 [some 3] fun G a w S=>?_
   exact sLoad1 0 (.slice a9 a4.l.length aa) S (wN d) d d d d d d (lb d) fun a S=>leafL ⟨d,S⟩
  ·exact fM 5 none d d d d (.inl d) d d d
  ·refine fJ [(88,_)] 6 [some 5] fun G a w S=>?_
   exact nilCheck_ok (q:=⟨bb0,0,none⟩) S (wN d) d d d (lb d) fun a S=>leafL ⟨d,S⟩
  ·refine fJ [(89,_)] 7 [some 6] fun G a w S=>?_
   exact sField (b:=bb0) (off:=0) 4 4 S (wN d) d d d d d (lb d) fun a S=>leafL ⟨d,S⟩
  ·refine fJ [(90,_)] 8 [some 7] fun G a w S=>?_
   exact sLoad1 0 (.slice a9 a4.l.length aa) S (wN d) d d d d d d (lb d) fun a S=>leafL ⟨d,S⟩
  ·refine fJ [(91,_)] 9 [some 8] fun G a w S=>?_
   exact sLen S (wN d) d Try.underlying25 d d (lb d) fun a S=>leafL ⟨d,S⟩
  ·refine fJ [(92,_)] 10 [some 9] fun G a w S=>?_
   exact sBin _ S (wN d) d d d (bSub _ _ _ _ (a4.l.length:Int) 1) d (lb d) fun a S=>leafL ⟨d,S⟩
  refine ⟨_,[(87,.slice a9 a4.l.length aa),(93,iv (w64 ((a4.l.length:Int) - 1)))],d,(srcs_of [some 4,some 10] d d d),fun G a w S=>?_⟩
  refine sSliceT (r:=(rI .i64)) (T:=3) (ad:=a9) (c:=aa) (xs:=a4.l) (vlo:=none) (vhi:=(some (.int .i64 (w64 ((a4.l.length:Int) - 1))))) (hi':=w64 ((a4.l.length:Int) - 1)) 1 S (wN d) d Try.underlying25 d d d d d (.inr d) (.inl d) bc d (lb d) fun a S=>?_
  refine leafL ⟨d,_,_,.inl ⟨94,(.slice a9 aS.length aa),[(12,95,.pointer (some ⟨bb0,0,none⟩)),(13,96,.pointer (some ⟨bb0,4,none⟩))],d,S,hz_of d,?_⟩⟩
  refine node_by (A:=anc_reduce_search_from_s1_2) 15 (by kernel_rfl) (by kernel_rfl) (by kernel_rfl) (by kernel_rfl) (by kernel_rfl) [12,13,11,0,1,2,3,4,5,6,7,8,9,10] (by kernel_rfl) (by decide) (by decide) (fF ?_ (fD 11 (fD 11 (fD 11 (fD 11 (fD 11 (fD 11 (fD 11 (fD 11 (fD 11 (fD 11 (fY (fF ?_ (fF ?_ (fN ?_ (trivial)))))))))))))))) [] (fun q hq=>by cases hq) (fun hY=>absurd (hY 14 (by decide)) (by decide))
  ·exact fM 3 none d d d d (.inl d) d d d
  ·refine fJ [(83,_)] 0 [some 3] fun G a w S=>?_
   exact nilCheck_ok (q:=⟨bb0,0,none⟩) S (wN d) d d d (lb d) fun a S=>leafL ⟨d,S⟩
  ·refine fJ [(95,_)] 1 [some 0] fun G a w S=>?_
   exact sField (b:=bb0) (off:=0) 4 4 S (wN d) d d d d d (lb d) fun a S=>leafL ⟨d,S⟩
  refine ⟨_,[(94,.slice a9 aS.length aa),(96,.pointer (some ⟨bb0,4,none⟩))],d,(srcs_of [some 2,some 1] d d d),fun G a w S=>?_⟩
  refine sStore (p:=bb0) (off:=4) (T:=68) (vs:=[iv a4.g.W,iv a4.g.H,.slice a2 p0.g.Bits.length a3,iv a4.k,.slice a9 a4.l.length aa,.slice aQ a4.best.length aR,iv a4.least]) (v:=.slice a9 aS.length aa) 1 [.slice a9 aS.length aa] S (wN d) d d d d d d d (by simp) d fun a w S=>leafL ⟨d,_,_,.inr ⟨[],d,S,hz_of d,?_⟩⟩
  refine node_by (A:=anc_reduce_search_from_s1_2) 15 (by kernel_rfl) (by kernel_rfl) (by kernel_rfl) (by kernel_rfl) (by kernel_rfl) [12,13,11,0,1,2,3,4,5,6,7,8,9,10] (by kernel_rfl) (by decide) (by decide) (fD 14 (fD 14 (fD 14 (fD 14 (fD 14 (fD 14 (fD 14 (fD 14 (fD 14 (fD 14 (fD 14 (fY (fD 14 (fD 14 (fY (trivial)))))))))))))))) [(0,.pointer (some ⟨bb0,0,none⟩)),(1,iv p1),(63,iv (if p0.k < (w64 (p1 + 1)) then p0.k else w64 (p1 + 1))),(64,iv af)] (fin_of [none,none,none,none] d (by kernel_rfl) (by kernel_rfl)) (fun _ a w S=>?_)
  refine leafB (leafT (b4 _ _ ?_))
  refine sRegion (sBin _ S (wN d) d d d (bAdd _ _ _ _ af 1) d (lb d) fun a S=>sM S fun a S=>?_)
  exact lT (⟨(w64 (af + 1),a4.g.W,a4.g.H,a4.k,aS,a4.best,a4.least),(Option.some.inj h).symm,⟨a9,aa,aQ,aR,S.fix [0,1] [1,0] (by decide) d d d⟩⟩)
 refine sCondT S d aW ?_
 obtain ⟨br,h,bt⟩:=bS h
 refine sCut (fun a w=>∃ o8,∃ aI,∃ bf,(o8,aI,bf)=br∧∃ aU,∃ ax,∃ ay,∃ az,St [] E M9 w0 98 a w [] [eBox bb0 68 [iv p0.g.W,iv p0.g.H,.slice a2 p0.g.Bits.length a3,iv p0.k,.slice aU o8.length ax,.slice ay aI.length az,iv bf],eRow (rI .i64) 3 (.slice aU o8.length ax) o8] [fRep (rL rB) (.slice a2 p0.g.Bits.length a3) p0.g.Bits,fRep (rLz (rI .i64)) (.slice ay aI.length az) aI]) ?_ (fun a w hI=>?_)
 rotate_left
 ·obtain ⟨o8,aI,bf,rfl,aU,ax,ay,az,S⟩:=hI
  have h:=bt
  try dsimp only at h
  obtain rfl:=tS h
  exact wp_ret (rThen (sRet (.tuple #[]) S (rsl0 d ) ⟨(aU,ax,(.slice ay aI.length az)),d,S.mem.sel [0,1] [1] (by decide) d d⟩))
 obtain ⟨bu,h,bv⟩:=bS h
 refine sCut (fun a w=>∃ aw,∃ aj,(aw,aj)=bu∧∃ a5,∃ a6,St [] E M9 w0 98 a w [(0,.pointer (some ⟨bb0,0,none⟩)),(5,iv aw)] [eBox bb0 68 [iv p0.g.W,iv p0.g.H,.slice a2 p0.g.Bits.length a3,iv p0.k,.slice a5 aj.length a6,.slice ak p0.best.length al,iv p0.least],eRow (rI .i64) 3 (.slice a5 aj.length a6) aj] [fRep (rL rB) (.slice a2 p0.g.Bits.length a3) p0.g.Bits,fRep (rLz (rI .i64)) (.slice ak p0.best.length al) p0.best]) ?_ (fun a w hI=>?_)
 rotate_left
 ·obtain ⟨aw,aj,rfl,a5,a6,S⟩:=hI
  have h:=bv
  try dsimp only at h
  obtain ⟨bw,h,bx⟩:=bS h
  refine sCut (fun a w=>∃ bg,bg=bw∧St [] E M9 w0 98 a w [(0,.pointer (some ⟨bb0,0,none⟩)),(5,iv aw),(44,.bool bg)] [eBox bb0 68 [iv p0.g.W,iv p0.g.H,.slice a2 p0.g.Bits.length a3,iv p0.k,.slice a5 aj.length a6,.slice ak p0.best.length al,iv p0.least],eRow (rI .i64) 3 (.slice a5 aj.length a6) aj] [fRep (rL rB) (.slice a2 p0.g.Bits.length a3) p0.g.Bits,fRep (rLz (rI .i64)) (.slice ak p0.best.length al) p0.best]) ?_ (fun a w hI=>?_)
  ·refine sRegion (sM S fun a S=>?_)
   refine nilCheck_ok (q:=⟨bb0,0,none⟩) S (wN d) d d d (lb d) fun a S=>sField (b:=bb0) (off:=0) 5 5 S (wN d) d d d d d (lb d) fun a S=>sLoad1 0 (.slice ak p0.best.length al) S (wN d) d d d d d d (lb d) fun a S=>sBin _ S (wN d) d d d (bEqNilZ _ _ _ _ Try.underlying25 ak (p0.best.length) (al) (rLz_is (S.mem.know (i:=1) (e:=fRep (rLz (rI .i64)) (.slice ak p0.best.length al) p0.best) d))) d (lb d) fun a S=>sM S fun a S=>?_
   rcases iS h with ⟨ae,h⟩ | ⟨ae,h⟩
   ·refine sSkN 6 5 false 37 S d d ae d fun a S=>sPickT (.bool true) S (wN d) d d ae d d (lb d) fun a S=>?_
    exact lT (⟨true,Option.some.inj h,S.fix [0,1] [0,1] (by decide) d d d⟩)
   refine sMove (iv aw) S (wG 5 false 37 d d d ae) (.inl d) d d (lb d) fun a S=>sMove (.pointer (some ⟨bb0,0,none⟩)) S (wG 5 false 37 d d d ae) (.inl d) d d (lb d) fun a S=>nilCheck_ok (q:=⟨bb0,0,none⟩) S (wG 5 false 37 d d d ae) d d d (lb d) fun a S=>sField (b:=bb0) (off:=0) 6 6 S (wG 5 false 37 d d d ae) d d d d d (lb d) fun a S=>sLoad1 0 (iv p0.least) S (wG 5 false 37 d d d ae) d d d d d d (lb d) fun a S=>sBin _ S (wG 5 false 37 d d d ae) d d d (bLt _ _ _ _ .i64 aw p0.least) d (lb d) fun a S=>sPickF (.bool (decide (aw < p0.least))) S (wN d) d d ae d d (lb d) fun a S=>?_
   exact lT (⟨decide (aw < p0.least),Option.some.inj h,S.fix [0,1] [0,1] (by decide) d d d⟩)
  obtain ⟨bg,rfl,S⟩:=hI
  have h:=bx
  try dsimp only at h
  rcases iS h with ⟨aG,h⟩ | ⟨aG,h⟩
  rotate_left
  ·refine sCondF S d aG ?_
   exact wp_skip (leafT (⟨aj,p0.best,p0.least,Option.some.inj h,a5,a6,ak,al,S.fix [0,1] [0,1] (by decide) d d d⟩))
  refine sCondT S d aG (sRegion (sM S fun a S=>?_))
  refine sM S fun a S=>?_
  refine sM S fun a S=>?_
  refine nilCheck_ok (q:=⟨bb0,0,none⟩) S (wN d) d d d (lb d) fun a S=>sField (b:=bb0) (off:=0) 4 4 S (wN d) d d d d d (lb d) fun a S=>sLoad1 0 (.slice a5 aj.length a6) S (wN d) d d d d d d (lb d) fun a S=>?_
  obtain ⟨ag,bh,h⟩:=bS h
  refine sCall (X:=Option Addr × Nat) (f:=49) (vs:=[.slice a5 aj.length a6]) (val:=fun x=>.slice x.1 ag.1.length x.2) (B':=fun x=>[eRow (rI .i64) 3 (.slice x.1 ag.1.length x.2) ag.1,eRow (rI .i64) 3 (.slice a5 aj.length a6) ag.2]) (D':=fun _=>[]) [eRow (rI .i64) 3 (.slice a5 aj.length a6) aj] [eBox bb0 68 [iv p0.g.W,iv p0.g.H,.slice a2 p0.g.Bits.length a3,iv p0.k,.slice a5 aj.length a6,.slice ak p0.best.length al,iv p0.least]] [] [1,0] [] S (wN d) d callee49 d (by decide) d d (fun E1 w1 S1=>c_slices_Clone___int_int__s1 E1 w1 aj a5 a6 ag bh S1) d (lb d) fun xx a w S=>?_
  obtain ⟨ap,aq⟩:=xx
  dsimp only at S
  have bi:=row_v (S.mem.hold (i:=1) (e:=eRow (rI .i64) 3 (.slice a5 aj.length a6) ag.2) d)
  rw [bi] at S
  refine sM S fun a S=>?_
  refine nilCheck_ok (q:=⟨bb0,0,none⟩) S (wN d) d d d (lb d) fun a S=>sField (b:=bb0) (off:=0) 5 5 S (wN d) d d d d d (lb d) fun a S=>?_
  have S:=S.shutR (r:=(rI .i64)) (T:=3) (v:=.slice ap ag.1.length aq) (xs:=ag.1) 0 d
  obtain ⟨bI,bj,h⟩:=bS h
  have S:=S.learn (fRep (rLz (rI .i64)) (.slice ap ag.1.length aq) ag.1) (rLz_of (S.mem.know (i:=0) (e:=fRep (rL (rI .i64)) (.slice ap ag.1.length aq) ag.1) d) bj)
  refine sStore (p:=bb0) (off:=5) (T:=68) (vs:=[iv p0.g.W,iv p0.g.H,.slice a2 p0.g.Bits.length a3,iv p0.k,.slice a5 ag.2.length a6,.slice ak p0.best.length al,iv p0.least]) (v:=.slice ap ag.1.length aq) 1 [.slice ap ag.1.length aq] S (wN d) d d d d d d d (by simp) d fun a w S=>nilCheck_ok (q:=⟨bb0,0,none⟩) S (wN d) d d d (lb d) fun a S=>sField (b:=bb0) (off:=0) 6 6 S (wN d) d d d d d (lb d) fun a S=>sStore (p:=bb0) (off:=6) (T:=68) (vs:=[iv p0.g.W,iv p0.g.H,.slice a2 p0.g.Bits.length a3,iv p0.k,.slice a5 ag.2.length a6,.slice ap ag.1.length aq,iv p0.least]) (v:=iv aw) 0 [iv aw] S (wN d) d d d d d d d (by simp) d fun a w S=>?_
  exact lT (⟨ag.2,ag.1,aw,Option.some.inj h,a5,a6,ap,aq,S.fix [0,1] [2,0] (by decide) d d d⟩)
 obtain ⟨a0,aT,h⟩:=bS h
 refine sDraw (nf:=[8,13,14]) (W:=[(0,20,.pointer (some ⟨bb0,0,none⟩)),(1,21,.pointer (some ⟨bb0,0,none⟩)),(2,22,.pointer (some ⟨bb0,0,none⟩)),(3,23,.agg #[iv p0.g.W,iv p0.g.H,.slice a2 p0.g.Bits.length a3]),(4,24,.pointer (some ⟨bb0,0,none⟩)),(5,25,.pointer (some ⟨bb0,0,none⟩)),(6,26,.pointer (some ⟨bb0,4,none⟩)),(7,27,.slice ad_0_1 p0.l.length cp_0_1)]) d S ?_
 refine node_by (A:=anc_reduce_search_from_s1_1) 17 (by kernel_rfl) (by kernel_rfl) (by kernel_rfl) (by kernel_rfl) (by kernel_rfl) [0,1,2,3,4,5,6,7] (by kernel_rfl) (by decide) (by decide) (fF ?_ (fF ?_ (fF ?_ (fF ?_ (fF ?_ (fF ?_ (fF ?_ (fF ?_ (fN ?_ (fE 8 (fE 8 (fE 8 (fE 8 (fN ?_ (aB 14 2 8 (by decide) (fE 8 (fE 8 (trivial)))))))))))))))))) [] (fun q hq=>by cases hq) (fun hY=>absurd (hY 8 (by decide)) (by decide))
 ·exact fM 0 none d d d d (.inl d) d d d
 ·refine fJ [(20,_)] 1 [some 0] fun G a w S=>?_
  exact nilCheck_ok (q:=⟨bb0,0,none⟩) S (wN d) d d d (lb d) fun a S=>leafL ⟨d,S⟩
 ·refine fJ [(21,_)] 2 [some 1] fun G a w S=>?_
  exact sField (b:=bb0) (off:=0) 0 0 S (wN d) d d d d d (lb d) fun a S=>leafL ⟨d,S⟩
 ·refine fJ [(22,_)] 3 [some 2] fun G a w S=>?_
  exact sLoadN (p:=bb0) (off:=0) (T:=68) (vs:=[iv p0.g.W,iv p0.g.H,.slice a2 p0.g.Bits.length a3,iv p0.k,.slice ad_0_1 p0.l.length cp_0_1,.slice ak p0.best.length al,iv p0.least]) 0 [iv p0.g.W,iv p0.g.H,.slice a2 p0.g.Bits.length a3] S (wN d) d d d d d d d (lb d) fun a S=>leafL ⟨d,S⟩
 ·exact fM 4 none d d d d (.inl d) d d d
 ·refine fJ [(24,_)] 5 [some 4] fun G a w S=>?_
  exact nilCheck_ok (q:=⟨bb0,0,none⟩) S (wN d) d d d (lb d) fun a S=>leafL ⟨d,S⟩
 ·refine fJ [(25,_)] 6 [some 5] fun G a w S=>?_
  exact sField (b:=bb0) (off:=0) 4 4 S (wN d) d d d d d (lb d) fun a S=>leafL ⟨d,S⟩
 ·refine fJ [(26,_)] 7 [some 6] fun G a w S=>?_
  exact sLoad1 0 (.slice ad_0_1 p0.l.length cp_0_1) S (wN d) d d d d d d (lb d) fun a S=>leafL ⟨d,S⟩
 ·refine ⟨_,[(23,.agg #[iv p0.g.W,iv p0.g.H,.slice a2 p0.g.Bits.length a3]),(27,.slice ad_0_1 p0.l.length cp_0_1)],d,(srcs_of [some 3,some 7] d d d),fun G a w S=>?_⟩
  have S:=S.learn (fRep r_api_Grid (.agg #[iv p0.g.W,iv p0.g.H,.slice a2 p0.g.Bits.length a3]) p0.g) ⟨_,d,S.mem.know (i:=0) (e:=fRep (rL rB) (.slice a2 p0.g.Bits.length a3) p0.g.Bits) d⟩
  refine sCall (X:=Option Addr × Nat) (f:=12) (vs:=[.agg #[iv p0.g.W,iv p0.g.H,.slice a2 p0.g.Bits.length a3],.slice ad_0_1 p0.l.length cp_0_1]) (val:=fun x=>.tuple #[.agg #[iv a0.1.W,iv a0.1.H,.slice x.1 a0.1.Bits.length x.2],iv a0.2.1,iv a0.2.2.1]) (B':=fun x=>[eRow rB 4 (.slice x.1 a0.1.Bits.length x.2) a0.1.Bits,eRow (rI .i64) 3 (.slice ad_0_1 p0.l.length cp_0_1) a0.2.2.2]) (D':=fun _=>[]) [eRow (rI .i64) 3 (.slice ad_0_1 p0.l.length cp_0_1) p0.l] [eBox bb0 68 [iv p0.g.W,iv p0.g.H,.slice a2 p0.g.Bits.length a3,iv p0.k,.slice ad_0_1 p0.l.length cp_0_1,.slice ak p0.best.length al,iv p0.least]] [fRep r_api_Grid (.agg #[iv p0.g.W,iv p0.g.H,.slice a2 p0.g.Bits.length a3]) p0.g] [1,0] [0] S (wN d) d callee12 d (by decide) d d (fun E1 w1 S1=>c_reduce_Change_s1 E1 w1 p0.g (.agg #[iv p0.g.W,iv p0.g.H,.slice a2 p0.g.Bits.length a3]) p0.l ad_0_1 cp_0_1 a0 aT S1) d (lb d) fun xx a w S=>?_
  obtain ⟨a7,a8⟩:=xx
  dsimp only at S
  refine leafL ⟨d,_,_,.inl ⟨28,(.tuple #[.agg #[iv a0.1.W,iv a0.1.H,.slice a7 a0.1.Bits.length a8],iv a0.2.1,iv a0.2.2.1]),[(9,19,.tuple #[.agg #[iv a0.1.W,iv a0.1.H,.slice a7 a0.1.Bits.length a8],iv a0.2.1,iv a0.2.2.1]),(10,29,.agg #[iv a0.1.W,iv a0.1.H,.slice a7 a0.1.Bits.length a8]),(11,30,iv a0.2.1),(12,31,iv a0.2.2.1)],d,S,hz_of d,?_⟩⟩
  refine node_by (A:=anc_reduce_search_from_s1_1) 17 (by kernel_rfl) (by kernel_rfl) (by kernel_rfl) (by kernel_rfl) (by kernel_rfl) [9,10,11,12,8,0,1,2,3,4,5,6,7] (by kernel_rfl) (by decide) (by decide) (fD 8 (fD 8 (fD 8 (fD 8 (fD 8 (fD 8 (fD 8 (fD 8 (fY (fF ?_ (fF ?_ (fF ?_ (fF ?_ (fN ?_ (aB 14 2 13 (by decide) (fE 13 (fE 13 (trivial)))))))))))))))))) [] (fun q hq=>by cases hq) (fun hY=>absurd (hY 13 (by decide)) (by decide))
  ·exact fM 0 (some 4) d d d d (.inl d) d d d
  ·refine fJ [(19,_)] 1 [some 0] fun G a w S=>?_
   exact sExtract (vs:=[.agg #[iv a0.1.W,iv a0.1.H,.slice a7 a0.1.Bits.length a8],iv a0.2.1,iv a0.2.2.1]) (.agg #[iv a0.1.W,iv a0.1.H,.slice a7 a0.1.Bits.length a8]) S (wN d) d d d d (lb d) fun a S=>leafL ⟨d,S⟩
  ·refine fJ [(19,_)] 2 [some 0] fun G a w S=>?_
   exact sExtract (vs:=[.agg #[iv a0.1.W,iv a0.1.H,.slice a7 a0.1.Bits.length a8],iv a0.2.1,iv a0.2.2.1]) (iv a0.2.1) S (wN d) d d d d (lb d) fun a S=>leafL ⟨d,S⟩
  ·refine fJ [(19,_)] 3 [some 0] fun G a w S=>?_
   exact sExtract (vs:=[.agg #[iv a0.1.W,iv a0.1.H,.slice a7 a0.1.Bits.length a8],iv a0.2.1,iv a0.2.2.1]) (iv a0.2.2.1) S (wN d) d d d d (lb d) fun a S=>leafL ⟨d,S⟩
  refine ⟨_,[],d,(srcs_of [] d d d),fun G a w S=>?_⟩
  refine sAlloc (.agg #[iv 0,iv 0,.slice none 0 0]) S (wN d) d d [iv 0,iv 0,.slice none 0 0] d d (lb d) fun a bk w S=>leafL ⟨d,_,_,.inl ⟨4,(.pointer (some ⟨bk,0,none⟩)),[],d,S,hz_of d,?_⟩⟩
  refine node_by (A:=anc_reduce_search_from_s1_1) 17 (by kernel_rfl) (by kernel_rfl) (by kernel_rfl) (by kernel_rfl) (by kernel_rfl) [13,9,10,11,12,8,0,1,2,3,4,5,6,7] (by kernel_rfl) (by decide) (by decide) (fD 8 (fD 8 (fD 8 (fD 8 (fD 8 (fD 8 (fD 8 (fD 8 (fY (fF ?_ (fF ?_ (fF ?_ (fF ?_ (fY (fN ?_ (fE 14 (fE 14 (trivial)))))))))))))))))) [] (fun q hq=>by cases hq) (fun hY=>absurd (hY 14 (by decide)) (by decide))
  ·exact fM 1 (some 5) d d d d (.inl d) d d d
  ·refine fJ [(19,_)] 2 [some 1] fun G a w S=>?_
   exact sExtract (vs:=[.agg #[iv a0.1.W,iv a0.1.H,.slice a7 a0.1.Bits.length a8],iv a0.2.1,iv a0.2.2.1]) (.agg #[iv a0.1.W,iv a0.1.H,.slice a7 a0.1.Bits.length a8]) S (wN d) d d d d (lb d) fun a S=>leafL ⟨d,S⟩
  ·refine fJ [(19,_)] 3 [some 1] fun G a w S=>?_
   exact sExtract (vs:=[.agg #[iv a0.1.W,iv a0.1.H,.slice a7 a0.1.Bits.length a8],iv a0.2.1,iv a0.2.2.1]) (iv a0.2.1) S (wN d) d d d d (lb d) fun a S=>leafL ⟨d,S⟩
  ·refine fJ [(19,_)] 4 [some 1] fun G a w S=>?_
   exact sExtract (vs:=[.agg #[iv a0.1.W,iv a0.1.H,.slice a7 a0.1.Bits.length a8],iv a0.2.1,iv a0.2.2.1]) (iv a0.2.2.1) S (wN d) d d d d (lb d) fun a S=>leafL ⟨d,S⟩
  refine ⟨_,[(4,.pointer (some ⟨bk,0,none⟩)),(29,.agg #[iv a0.1.W,iv a0.1.H,.slice a7 a0.1.Bits.length a8])],d,(srcs_of [some 0,some 2] d d d),fun G a w S=>?_⟩
  refine sStore (p:=bk) (off:=0) (T:=24) (vs:=[iv 0,iv 0,.slice none 0 0]) (v:=.agg #[iv a0.1.W,iv a0.1.H,.slice a7 a0.1.Bits.length a8]) 0 [iv a0.1.W,iv a0.1.H,.slice a7 a0.1.Bits.length a8] S (wN d) d d d d d d d (by simp) d fun a w S=>leafL ⟨d,_,_,.inr ⟨[(15,5,iv a0.2.1),(16,6,iv a0.2.2.1)],d,S,hz_of d,?_⟩⟩
  refine node_by (A:=anc_reduce_search_from_s1_1) 17 (by kernel_rfl) (by kernel_rfl) (by kernel_rfl) (by kernel_rfl) (by kernel_rfl) [15,16,13,9,10,11,12,8,0,1,2,3,4,5,6,7] (by kernel_rfl) (by decide) (by decide) (fD 14 (fD 14 (fD 14 (fD 14 (fD 14 (fD 14 (fD 14 (fD 14 (fY (fD 14 (fD 14 (fF ?_ (fF ?_ (fY (fY (fF ?_ (fF ?_ (trivial)))))))))))))))))) [(0,.pointer (some ⟨bb0,0,none⟩)),(5,iv a0.2.1)] (fin_of [none,some 0] d (by kernel_rfl) (by kernel_rfl)) (fun _ a w S=>?_)
  ·refine fJ [(19,_)] 5 [some 3] fun G a w S=>?_
   exact sExtract (vs:=[.agg #[iv a0.1.W,iv a0.1.H,.slice a7 a0.1.Bits.length a8],iv a0.2.1,iv a0.2.2.1]) (iv a0.2.1) S (wN d) d d d d (lb d) fun a S=>leafL ⟨d,S⟩
  ·refine fJ [(19,_)] 6 [some 3] fun G a w S=>?_
   exact sExtract (vs:=[.agg #[iv a0.1.W,iv a0.1.H,.slice a7 a0.1.Bits.length a8],iv a0.2.1,iv a0.2.2.1]) (iv a0.2.2.1) S (wN d) d d d d (lb d) fun a S=>leafL ⟨d,S⟩
  ·exact fM 0 (some 5) d d d d (.inr d) d d d
  ·exact fM 1 (some 6) d d d d (.inr d) d d d
  have bl:=row_v (S.mem.hold (i:=2) (e:=eRow (rI .i64) 3 (.slice ad_0_1 p0.l.length cp_0_1) a0.2.2.2) d)
  rw [bl] at S
  exact leafT (⟨a0.2.1,a0.2.2.2,Option.some.inj h,ad_0_1,cp_0_1,S.fix [3,2] [1,2] (by decide) d d d⟩)
 refine ⟨_,[],d,(srcs_of [] d d d),fun G a w S=>?_⟩
 refine sAlloc (.agg #[iv 0,iv 0,.slice none 0 0]) S (wN d) d d [iv 0,iv 0,.slice none 0 0] d d (lb d) fun a aV w S=>leafL ⟨d,_,_,.inl ⟨4,(.pointer (some ⟨aV,0,none⟩)),[],d,S,hz_of d,?_⟩⟩
 refine node_by (A:=anc_reduce_search_from_s1_1) 17 (by kernel_rfl) (by kernel_rfl) (by kernel_rfl) (by kernel_rfl) (by kernel_rfl) [13,0,1,2,3,4,5,6,7] (by kernel_rfl) (by decide) (by decide) (fF ?_ (fF ?_ (fF ?_ (fF ?_ (fF ?_ (fF ?_ (fF ?_ (fF ?_ (fN ?_ (fE 8 (fE 8 (fE 8 (fE 8 (fY (aB 14 2 8 (by decide) (fE 8 (fE 8 (trivial)))))))))))))))))) [] (fun q hq=>by cases hq) (fun hY=>absurd (hY 8 (by decide)) (by decide))
 ·exact fM 1 none d d d d (.inl d) d d d
 ·refine fJ [(20,_)] 2 [some 1] fun G a w S=>?_
  exact nilCheck_ok (q:=⟨bb0,0,none⟩) S (wN d) d d d (lb d) fun a S=>leafL ⟨d,S⟩
 ·refine fJ [(21,_)] 3 [some 2] fun G a w S=>?_
  exact sField (b:=bb0) (off:=0) 0 0 S (wN d) d d d d d (lb d) fun a S=>leafL ⟨d,S⟩
 ·refine fJ [(22,_)] 4 [some 3] fun G a w S=>?_
  exact sLoadN (p:=bb0) (off:=0) (T:=68) (vs:=[iv p0.g.W,iv p0.g.H,.slice a2 p0.g.Bits.length a3,iv p0.k,.slice ad_0_1 p0.l.length cp_0_1,.slice ak p0.best.length al,iv p0.least]) 1 [iv p0.g.W,iv p0.g.H,.slice a2 p0.g.Bits.length a3] S (wN d) d d d d d d d (lb d) fun a S=>leafL ⟨d,S⟩
 ·exact fM 5 none d d d d (.inl d) d d d
 ·refine fJ [(24,_)] 6 [some 5] fun G a w S=>?_
  exact nilCheck_ok (q:=⟨bb0,0,none⟩) S (wN d) d d d (lb d) fun a S=>leafL ⟨d,S⟩
 ·refine fJ [(25,_)] 7 [some 6] fun G a w S=>?_
  exact sField (b:=bb0) (off:=0) 4 4 S (wN d) d d d d d (lb d) fun a S=>leafL ⟨d,S⟩
 ·refine fJ [(26,_)] 8 [some 7] fun G a w S=>?_
  exact sLoad1 1 (.slice ad_0_1 p0.l.length cp_0_1) S (wN d) d d d d d d (lb d) fun a S=>leafL ⟨d,S⟩
 refine ⟨_,[(23,.agg #[iv p0.g.W,iv p0.g.H,.slice a2 p0.g.Bits.length a3]),(27,.slice ad_0_1 p0.l.length cp_0_1)],d,(srcs_of [some 4,some 8] d d d),fun G a w S=>?_⟩
 have S:=S.learn (fRep r_api_Grid (.agg #[iv p0.g.W,iv p0.g.H,.slice a2 p0.g.Bits.length a3]) p0.g) ⟨_,d,S.mem.know (i:=0) (e:=fRep (rL rB) (.slice a2 p0.g.Bits.length a3) p0.g.Bits) d⟩
 refine sCall (X:=Option Addr × Nat) (f:=12) (vs:=[.agg #[iv p0.g.W,iv p0.g.H,.slice a2 p0.g.Bits.length a3],.slice ad_0_1 p0.l.length cp_0_1]) (val:=fun x=>.tuple #[.agg #[iv a0.1.W,iv a0.1.H,.slice x.1 a0.1.Bits.length x.2],iv a0.2.1,iv a0.2.2.1]) (B':=fun x=>[eRow rB 4 (.slice x.1 a0.1.Bits.length x.2) a0.1.Bits,eRow (rI .i64) 3 (.slice ad_0_1 p0.l.length cp_0_1) a0.2.2.2]) (D':=fun _=>[]) [eRow (rI .i64) 3 (.slice ad_0_1 p0.l.length cp_0_1) p0.l] [eBox aV 24 [iv 0,iv 0,.slice none 0 0],eBox bb0 68 [iv p0.g.W,iv p0.g.H,.slice a2 p0.g.Bits.length a3,iv p0.k,.slice ad_0_1 p0.l.length cp_0_1,.slice ak p0.best.length al,iv p0.least]] [fRep r_api_Grid (.agg #[iv p0.g.W,iv p0.g.H,.slice a2 p0.g.Bits.length a3]) p0.g] [2,0,1] [0] S (wN d) d callee12 d (by decide) d d (fun E1 w1 S1=>c_reduce_Change_s1 E1 w1 p0.g (.agg #[iv p0.g.W,iv p0.g.H,.slice a2 p0.g.Bits.length a3]) p0.l ad_0_1 cp_0_1 a0 aT S1) d (lb d) fun xx a w S=>?_
 obtain ⟨ab,ac⟩:=xx
 dsimp only at S
 refine leafL ⟨d,_,_,.inl ⟨28,(.tuple #[.agg #[iv a0.1.W,iv a0.1.H,.slice ab a0.1.Bits.length ac],iv a0.2.1,iv a0.2.2.1]),[(9,19,.tuple #[.agg #[iv a0.1.W,iv a0.1.H,.slice ab a0.1.Bits.length ac],iv a0.2.1,iv a0.2.2.1]),(10,29,.agg #[iv a0.1.W,iv a0.1.H,.slice ab a0.1.Bits.length ac]),(11,30,iv a0.2.1),(12,31,iv a0.2.2.1)],d,S,hz_of d,?_⟩⟩
 refine node_by (A:=anc_reduce_search_from_s1_1) 17 (by kernel_rfl) (by kernel_rfl) (by kernel_rfl) (by kernel_rfl) (by kernel_rfl) [9,10,11,12,8,13,0,1,2,3,4,5,6,7] (by kernel_rfl) (by decide) (by decide) (fD 8 (fD 8 (fD 8 (fD 8 (fD 8 (fD 8 (fD 8 (fD 8 (fY (fF ?_ (fF ?_ (fF ?_ (fF ?_ (fY (fN ?_ (fE 14 (fE 14 (trivial)))))))))))))))))) [] (fun q hq=>by cases hq) (fun hY=>absurd (hY 14 (by decide)) (by decide))
 ·exact fM 0 (some 4) d d d d (.inl d) d d d
 ·refine fJ [(19,_)] 1 [some 0] fun G a w S=>?_
  exact sExtract (vs:=[.agg #[iv a0.1.W,iv a0.1.H,.slice ab a0.1.Bits.length ac],iv a0.2.1,iv a0.2.2.1]) (.agg #[iv a0.1.W,iv a0.1.H,.slice ab a0.1.Bits.length ac]) S (wN d) d d d d (lb d) fun a S=>leafL ⟨d,S⟩
 ·refine fJ [(19,_)] 2 [some 0] fun G a w S=>?_
  exact sExtract (vs:=[.agg #[iv a0.1.W,iv a0.1.H,.slice ab a0.1.Bits.length ac],iv a0.2.1,iv a0.2.2.1]) (iv a0.2.1) S (wN d) d d d d (lb d) fun a S=>leafL ⟨d,S⟩
 ·refine fJ [(19,_)] 3 [some 0] fun G a w S=>?_
  exact sExtract (vs:=[.agg #[iv a0.1.W,iv a0.1.H,.slice ab a0.1.Bits.length ac],iv a0.2.1,iv a0.2.2.1]) (iv a0.2.2.1) S (wN d) d d d d (lb d) fun a S=>leafL ⟨d,S⟩
 refine ⟨_,[(4,.pointer (some ⟨aV,0,none⟩)),(29,.agg #[iv a0.1.W,iv a0.1.H,.slice ab a0.1.Bits.length ac])],d,(srcs_of [some 5,some 1] d d d),fun G a w S=>?_⟩
 refine sStore (p:=aV) (off:=0) (T:=24) (vs:=[iv 0,iv 0,.slice none 0 0]) (v:=.agg #[iv a0.1.W,iv a0.1.H,.slice ab a0.1.Bits.length ac]) 2 [iv a0.1.W,iv a0.1.H,.slice ab a0.1.Bits.length ac] S (wN d) d d d d d d d (by simp) d fun a w S=>leafL ⟨d,_,_,.inr ⟨[(15,5,iv a0.2.1),(16,6,iv a0.2.2.1)],d,S,hz_of d,?_⟩⟩
 refine node_by (A:=anc_reduce_search_from_s1_1) 17 (by kernel_rfl) (by kernel_rfl) (by kernel_rfl) (by kernel_rfl) (by kernel_rfl) [15,16,9,10,11,12,8,13,0,1,2,3,4,5,6,7] (by kernel_rfl) (by decide) (by decide) (fD 14 (fD 14 (fD 14 (fD 14 (fD 14 (fD 14 (fD 14 (fD 14 (fY (fD 14 (fD 14 (fF ?_ (fF ?_ (fY (fY (fF ?_ (fF ?_ (trivial)))))))))))))))))) [(0,.pointer (some ⟨bb0,0,none⟩)),(5,iv a0.2.1)] (fin_of [none,some 0] d (by kernel_rfl) (by kernel_rfl)) (fun _ a w S=>?_)
 ·refine fJ [(19,_)] 4 [some 2] fun G a w S=>?_
  exact sExtract (vs:=[.agg #[iv a0.1.W,iv a0.1.H,.slice ab a0.1.Bits.length ac],iv a0.2.1,iv a0.2.2.1]) (iv a0.2.1) S (wN d) d d d d (lb d) fun a S=>leafL ⟨d,S⟩
 ·refine fJ [(19,_)] 5 [some 2] fun G a w S=>?_
  exact sExtract (vs:=[.agg #[iv a0.1.W,iv a0.1.H,.slice ab a0.1.Bits.length ac],iv a0.2.1,iv a0.2.2.1]) (iv a0.2.2.1) S (wN d) d d d d (lb d) fun a S=>leafL ⟨d,S⟩
 ·exact fM 0 (some 4) d d d d (.inr d) d d d
 ·exact fM 1 (some 5) d d d d (.inr d) d d d
 have bm:=row_v (S.mem.hold (i:=2) (e:=eRow (rI .i64) 3 (.slice ad_0_1 p0.l.length cp_0_1) a0.2.2.2) d)
 rw [bm] at S
 exact leafT (⟨a0.2.1,a0.2.2.2,Option.some.inj h,ad_0_1,cp_0_1,S.fix [3,2] [1,2] (by decide) d d d⟩)
def anc_reduce_Best_0:List (List Nat):=[[],[0],[],[2],[0,1],[0,1,2,3,4],[0,1,2,3,4,5]]
noncomputable def F_reduce_Best (p0:api_Grid) (p1:Int):Option ((List Int) × Int × Int):=
 (F_reduce_few p0).bind fun r9=>
 if r9 != 0 then
  some (([]:(List Int)),0,r9)
 else
  Option.bind (α:=Bool) (
   if decide (p1 < 1) then
    some true
   else
    some (decide (40 < p1))) fun a2=>
  if a2 then
   some (([]:(List Int)),0,2)
  else
   (F_reduce_search_from_s1 (reduce_search.mk p0 p1 ([]:(List Int)) ([]:(List Int)) 0) 0).bind fun a0=>
   some (a0.best,a0.least,0)
def c_reduce_Best_val (r:((List Int) × Int × Int)) (x:Value):Value:=.tuple #[x,.int .i64 r.2.1,.int .i64 r.2.2]
def c_reduce_Best_D (r:((List Int) × Int × Int)) (x:Value):List Fact:=[fRep (rL (rI .i64)) x r.1]
theorem c_reduce_Best (E:Nat→Prop) (w0:World) (p0:api_Grid) (v0:Value) (p1:Int) (r:((List Int) × Int × Int)) (h:F_reduce_Best p0 p1=some r) (S:St0 E [] w0 w0 [] [fRep r_api_Grid (v0) p0]) :
 Calls Try.prog 21 #[v0,iv p1] w0 (Ret (X:=Value) E [] w0 (c_reduce_Best_val r) (fun _=>[]) (c_reduce_Best_D r)):=by
 unfold F_reduce_Best at h
 obtain ⟨u1,rfl,al⟩:=S.know (i:=0) (e:=fRep r_api_Grid (v0) p0) d
 have S:=S.learn (fRep (rL rB) u1 p0.Bits) al
 obtain ⟨a2,a3,_,rfl,_⟩:=al
 refine sEnter (args:=[.agg #[iv p0.W,iv p0.H,.slice a2 p0.Bits.length a3],iv p1]) 28 Try.func21 d d (by simp) S (fun a S=>?_)
 refine sSeq (fun K5 am=>sRegion (sBox (v:=.agg #[iv p0.W,iv p0.H,.slice a2 p0.Bits.length a3]) S (wN d) d d [iv p0.W,iv p0.H,.slice a2 p0.Bits.length a3] d d (lb d) fun a b6 w S=>sN S fun a S=>?_))
 refine sN S fun a S=>?_
 refine sN S fun a S=>?_
 refine lT (am _ _ (sSeq (fun K7 ao=>sSeq (fun K8 ap=>sRegion (sLoadN (p:=b6) (off:=0) (T:=24) (vs:=[iv p0.W,iv p0.H,.slice a2 p0.Bits.length a3]) 0 [iv p0.W,iv p0.H,.slice a2 p0.Bits.length a3] S (wN d) d d d d d d d (lb d) fun a S=>?_)))))
 obtain ⟨r9,aa,h⟩:=bS h
 have S1:=S.mem
 refine sCq [.agg #[iv p0.W,iv p0.H,.slice a2 p0.Bits.length a3]] (iv r9) S callee40 (S1.quiet [1] d) (fun E1 w1 S1=>c_reduce_few E1 w1 p0 (.agg #[iv p0.W,iv p0.H,.slice a2 p0.Bits.length a3]) r9 aa S1) fun a w S=>?_
 refine sN S fun a S=>?_
 refine lT (ap _ _ (sSeq (fun ax ab=>sRegion (sM S fun a S=>?_))))
 refine sBin _ S (wN d) d d d (bNe _ _ _ _ .i64 r9 0) d (lb d) fun a S=>lT (ab _ _ ?_)
 rcases iS h with ⟨a8,h⟩ | ⟨a8,h⟩
 ·refine sCondT S d a8 (sSeq (fun ay ac=>sRegion (sM S fun a S=>?_)))
  refine sN S fun a S=>?_
  refine sN S fun a S=>?_
  refine sN S fun a S=>?_
  refine lT (ac _ _ ?_)
  obtain rfl:=tS h
  have S:=S.learn (fRep (rL (rI .i64)) (.slice none 0 0) ([]:(List Int))) (rL_nil _ _ _)
  exact wp_ret (rThen (sRet (.tuple #[.slice none 0 0,iv 0,iv r9]) S (rsl3 d (rvT (t:=4) (v:=.slice none 0 0) S d) (rvT (t:=5) (v:=iv 0) S d) (rvT (t:=6) (v:=iv r9) S d)) ⟨(.slice none 0 0),d,S.mem.sel [] [0] (by decide) d d⟩))
 refine sCondF S d a8 (wp_skip (leafT (ao _ _ ?_)))
 refine sSeq (fun az ae=>?_)
 obtain ⟨aq,h,ar⟩:=bS h
 refine sCut (fun a w=>∃ af,af=aq∧St [] E [] w0 28 a w [(1,iv p1),(2,.pointer (some ⟨b6,0,none⟩)),(19,.bool af)] [eBox b6 24 [iv p0.W,iv p0.H,.slice a2 p0.Bits.length a3]] [fRep (rL rB) (.slice a2 p0.Bits.length a3) p0.Bits]) ?_ (fun a w hI=>?_)
 ·refine sRegion (sM S fun a S=>?_)
  refine sBin _ S (wN d) d d d (bLt _ _ _ _ .i64 p1 1) d (lb d) fun a S=>sM S fun a S=>?_
  rcases iS h with ⟨a6,h⟩ | ⟨a6,h⟩
  ·refine sSkN 2 2 false 16 S d d a6 d fun a S=>sPickT (.bool true) S (wN d) d d a6 d d (lb d) fun a S=>?_
   exact lT (⟨true,Option.some.inj h,S.fix [0] [0] (by decide) d d d⟩)
  refine sMove (iv p1) S (wG 2 false 16 d d d a6) (.inl d) d d (lb d) fun a S=>sBin _ S (wG 2 false 16 d d d a6) d d d (bGt _ _ _ _ .i64 p1 40) d (lb d) fun a S=>sPickF (.bool (decide (40 < p1))) S (wN d) d d a6 d d (lb d) fun a S=>?_
  exact lT (⟨decide (40 < p1),Option.some.inj h,S.fix [0] [0] (by decide) d d d⟩)
 obtain ⟨af,rfl,S⟩:=hI
 have h:=ar
 try dsimp only at h
 rcases iS h with ⟨a9,h⟩ | ⟨a9,h⟩
 ·refine sCondT S d a9 (sSeq (fun aA ag=>sRegion (sN S fun a S=>?_)))
  refine sN S fun a S=>?_
  refine sN S fun a S=>?_
  refine lT (ag _ _ ?_)
  obtain rfl:=tS h
  have S:=S.learn (fRep (rL (rI .i64)) (.slice none 0 0) ([]:(List Int))) (rL_nil _ _ _)
  exact wp_ret (rThen (sRet (.tuple #[.slice none 0 0,iv 0,iv 2]) S (rsl3 d (rvT (t:=4) (v:=.slice none 0 0) S d) (rvT (t:=5) (v:=iv 0) S d) (rvT (t:=6) (v:=iv 2) S d)) ⟨(.slice none 0 0),d,S.mem.sel [] [0] (by decide) d d⟩))
 refine sCondF S d a9 (wp_skip (leafT (ae _ _ ?_)))
 refine sSeq (fun aC ah=>sRegion (sLoadN (p:=b6) (off:=0) (T:=24) (vs:=[iv p0.W,iv p0.H,.slice a2 p0.Bits.length a3]) 0 [iv p0.W,iv p0.H,.slice a2 p0.Bits.length a3] S (wN d) d d d d d d d (lb d) fun a S=>sM S fun a S=>?_))
 refine sBuild [(0,.agg #[iv p0.W,iv p0.H,.slice a2 p0.Bits.length a3]),(1,iv p1)] [iv p0.W,iv p0.H,.slice a2 p0.Bits.length a3,iv p1,.slice none 0 0,.slice none 0 0,iv 0] S (wN d) d d d d (lb d) fun a S=>sAlloc (.agg #[iv 0,iv 0,.slice none 0 0,iv 0,.slice none 0 0,.slice none 0 0,iv 0]) S (wN d) d d [iv 0,iv 0,.slice none 0 0,iv 0,.slice none 0 0,.slice none 0 0,iv 0] d d (lb d) fun a a7 w S=>sStore (p:=a7) (off:=0) (T:=68) (vs:=[iv 0,iv 0,.slice none 0 0,iv 0,.slice none 0 0,.slice none 0 0,iv 0]) (v:=.agg #[iv p0.W,iv p0.H,.slice a2 p0.Bits.length a3,iv p1,.slice none 0 0,.slice none 0 0,iv 0]) 0 [iv p0.W,iv p0.H,.slice a2 p0.Bits.length a3,iv p1,.slice none 0 0,.slice none 0 0,iv 0] S (wN d) d d d d d d d (by simp) d fun a w S=>lT (ah _ _ (sSeq (fun aG ai=>sRegion ?_)))
 obtain ⟨a0,aj,h⟩:=bS h
 have S:=S.nilRow (rI .i64) 3 (α:=Int)
 have S:=S.learn (fRep (rLz (rI .i64)) (.slice none 0 0) ([]:List Int)) (rLz_nil _ _ _)
 refine sCall (X:=Option Addr × Nat × Value) (f:=41) (vs:=[.pointer (some ⟨a7,0,none⟩),iv 0]) (val:=fun _=>.tuple #[]) (B':=fun x=>[eBox a7 68 [iv a0.g.W,iv a0.g.H,.slice a2 p0.Bits.length a3,iv a0.k,.slice x.1 a0.l.length x.2.1,x.2.2,iv a0.least],eRow (rI .i64) 3 (.slice x.1 a0.l.length x.2.1) a0.l]) (D':=fun x=>[fRep (rLz (rI .i64)) x.2.2 a0.best]) [eBox a7 68 [iv p0.W,iv p0.H,.slice a2 p0.Bits.length a3,iv p1,.slice none 0 0,.slice none 0 0,iv 0],eRow (rI .i64) 3 (.slice none 0 0) ([]:List Int)] [eBox b6 24 [iv p0.W,iv p0.H,.slice a2 p0.Bits.length a3]] [fRep (rL rB) (.slice a2 p0.Bits.length a3) p0.Bits,fRep (rLz (rI .i64)) (.slice none 0 0) ([]:List Int)] [1,0,2] [1,0] S (wN d) d callee41 d (by decide) d d (fun E1 w1 S1=>c_reduce_search_from_s1 E1 w1 (reduce_search.mk p0 p1 ([]:(List Int)) ([]:(List Int)) 0) a7 (.slice a2 p0.Bits.length a3) none 0 (.slice none 0 0) 0 a0 aj S1) d (lb d) fun xx a w S=>?_
 obtain ⟨au,av,aw⟩:=xx
 dsimp only at S
 obtain ⟨⟨a4,a5,_,rfl,_⟩,_⟩:=S.mem.know (i:=0) (e:=fRep (rLz (rI .i64)) (aw) a0.best) d
 refine lT (ai _ _ (sSeq (fun aH ak=>sDraw (nf:=[]) (W:=[(0,24,.pointer (some ⟨a7,5,none⟩)),(1,25,.slice a4 a0.best.length a5),(2,26,.pointer (some ⟨a7,6,none⟩)),(3,27,iv a0.least),(4,4,.slice a4 a0.best.length a5),(5,5,iv a0.least),(6,6,iv 0)]) d S ?_)))
 refine node_by (A:=anc_reduce_Best_0) 7 (by kernel_rfl) (by kernel_rfl) (by kernel_rfl) (by kernel_rfl) (by kernel_rfl) [0,1,2,3,4,5,6] (by kernel_rfl) (by decide) (by decide) (fF ?_ (fF ?_ (fF ?_ (fF ?_ (fF ?_ (fF ?_ (fF ?_ (trivial)))))))) [(4,.slice a4 a0.best.length a5),(5,iv a0.least),(6,iv 0)] (fin_of [some 4,some 5,some 6] d (by kernel_rfl) (by kernel_rfl)) (fun _ a w S=>?_)
 ·refine fJ [(8,_)] 0 [none] fun G a w S=>?_
  exact sField (b:=a7) (off:=0) 5 5 S (wN d) d d d d d (lb d) fun a S=>leafL ⟨d,S⟩
 ·refine fJ [(24,_)] 1 [some 0] fun G a w S=>?_
  exact sLoad1 0 (.slice a4 a0.best.length a5) S (wN d) d d d d d d (lb d) fun a S=>leafL ⟨d,S⟩
 ·refine fJ [(8,_)] 2 [none] fun G a w S=>?_
  exact sField (b:=a7) (off:=0) 6 6 S (wN d) d d d d d (lb d) fun a S=>leafL ⟨d,S⟩
 ·refine fJ [(26,_)] 3 [some 2] fun G a w S=>?_
  exact sLoad1 0 (iv a0.least) S (wN d) d d d d d d (lb d) fun a S=>leafL ⟨d,S⟩
 ·exact fM 4 (some 1) d d d d (.inr d) d d d
 ·exact fM 5 (some 3) d d d d (.inr d) d d d
 ·refine fJ [] 6 [] fun G a w S=>?_
  exact sN S fun a S=>leafL ⟨d,S⟩
 refine leafT (ak _ _ ?_)
 obtain rfl:=tS h
 have S:=S.learn (fRep (rL (rI .i64)) (.slice a4 a0.best.length a5) a0.best) (S.mem.know (i:=0) (e:=fRep (rLz (rI .i64)) (.slice a4 a0.best.length a5) a0.best) d).1
 exact wp_ret (sRet (.tuple #[.slice a4 a0.best.length a5,iv a0.least,iv 0]) S (rsl3 d (rvT (t:=4) (v:=.slice a4 a0.best.length a5) S d) (rvT (t:=5) (v:=iv a0.least) S d) (rvT (t:=6) (v:=iv 0) S d)) ⟨(.slice a4 a0.best.length a5),d,S.mem.sel [] [0] (by decide) d d⟩)
noncomputable def F_raddleref01_Check (p0:api_Grid):Option Int:=
 Option.bind (α:=Bool) (
  if decide (64 < p0.W) then
   some true
  else
   some (decide (64 < p0.H))) fun o8=>
 if o8 then
  some 4
 else
  Option.bind (α:=Bool) (
   if decide (p0.W < 1) then
    some true
   else
    if decide (p0.H < 1) then
     some true
    else
     some ((p0.Bits.length:Int) != (w64 (p0.W * p0.H)))) fun a0=>
  if a0 then
   some 8
  else
   some 0
theorem c_raddleref01_Check (E:Nat→Prop) (w0:World) (p0:api_Grid) (v0:Value) (r:Int) (h:F_raddleref01_Check p0=some r) (S:St0 E [] w0 w0 [] [fRep r_api_Grid (v0) p0]) :
 Calls Try.prog 37 #[v0] w0 (Ret (X:=Unit) E [] w0 (fun _=>.int .i64 r) (fun _=>[]) (fun _=>[])):=by
 unfold F_raddleref01_Check at h
 obtain ⟨u1,rfl,ae⟩:=S.know (i:=0) (e:=fRep r_api_Grid (v0) p0) d
 have S:=S.learn (fRep (rL rB) u1 p0.Bits) ae
 obtain ⟨a6,a7,_,rfl,_⟩:=ae
 refine sEnter (args:=[.agg #[iv p0.W,iv p0.H,.slice a6 p0.Bits.length a7]]) 30 Try.func37 d d (by simp) S (fun a S=>?_)
 refine sSeq (fun K5 af=>sRegion (sBox (v:=.agg #[iv p0.W,iv p0.H,.slice a6 p0.Bits.length a7]) S (wN d) d d [iv p0.W,iv p0.H,.slice a6 p0.Bits.length a7] d d (lb d) fun a b6 w S=>sN S fun a S=>?_))
 refine lT (af _ _ (sSeq (fun K7 ag=>?_)))
 obtain ⟨t9,h,ah⟩:=bS h
 refine sCut (fun a w=>∃ o8,o8=t9∧St [] E [] w0 30 a w [(1,.pointer (some ⟨b6,0,none⟩)),(10,.bool o8)] [eBox b6 24 [iv p0.W,iv p0.H,.slice a6 p0.Bits.length a7]] [fRep (rL rB) (.slice a6 p0.Bits.length a7) p0.Bits]) ?_ (fun a w hI=>?_)
 ·refine sRegion (sField (b:=b6) (off:=0) 0 0 S (wN d) d d d d d (lb d) fun a S=>sLoad1 0 (iv p0.W) S (wN d) d d d d d d (lb d) fun a S=>sBin _ S (wN d) d d d (bGt _ _ _ _ .i64 p0.W 64) d (lb d) fun a S=>sM S fun a S=>?_)
  rcases iS h with ⟨a2,h⟩ | ⟨a2,h⟩
  ·refine sSkN 3 3 false 6 S d d a2 d fun a S=>sPickT (.bool true) S (wN d) d d a2 d d (lb d) fun a S=>?_
   exact lT (⟨true,Option.some.inj h,S.fix [0] [0] (by decide) d d d⟩)
  refine sField (b:=b6) (off:=0) 1 1 S (wG 3 false 6 d d d a2) d d d d d (lb d) fun a S=>sLoad1 0 (iv p0.H) S (wG 3 false 6 d d d a2) d d d d d d (lb d) fun a S=>sBin _ S (wG 3 false 6 d d d a2) d d d (bGt _ _ _ _ .i64 p0.H 64) d (lb d) fun a S=>sPickF (.bool (decide (64 < p0.H))) S (wN d) d d a2 d d (lb d) fun a S=>?_
  exact lT (⟨decide (64 < p0.H),Option.some.inj h,S.fix [0] [0] (by decide) d d d⟩)
 obtain ⟨o8,rfl,S⟩:=hI
 have h:=ah
 try dsimp only at h
 rcases iS h with ⟨a4,h⟩ | ⟨a4,h⟩
 ·refine sCondT S d a4 (sSeq (fun ak a8=>sRegion (sN S fun a S=>?_)))
  refine lT (a8 _ _ ?_)
  obtain rfl:=tS h
  exact wp_ret (rThen (sRet (iv 4) S (rsl1 d (rvT (t:=2) (v:=iv 4) S d)) ⟨(),d,S.mem.sel [] [] (by decide) d d⟩))
 refine sCondF S d a4 (wp_skip (leafT (ag _ _ ?_)))
 refine sSeq (fun al a9=>?_)
 obtain ⟨ai,h,aj⟩:=bS h
 refine sCut (fun a w=>∃ aa,aa=ai∧St [] E [] w0 30 a w [(29,.bool aa)] [] []) ?_ (fun a w hI=>?_)
 rotate_left
 ·obtain ⟨aa,rfl,S⟩:=hI
  have h:=aj
  try dsimp only at h
  rcases iS h with ⟨a5,h⟩ | ⟨a5,h⟩
  ·refine sCondT S d a5 (sSeq (fun am ab=>sRegion (sN S fun a S=>?_)))
   refine lT (ab _ _ ?_)
   obtain rfl:=tS h
   exact wp_ret (rThen (sRet (iv 8) S (rsl1 d (rvT (t:=2) (v:=iv 8) S d)) ⟨(),d,S.mem.sel [] [] (by decide) d d⟩))
  refine sCondF S d a5 (wp_skip (leafT (a9 _ _ ?_)))
  refine sSeq (fun ao ac=>sRegion (sN S fun a S=>?_))
  refine lT (ac _ _ ?_)
  obtain rfl:=tS h
  exact wp_ret (sRet (iv 0) S (rsl1 d (rvT (t:=2) (v:=iv 0) S d)) ⟨(),d,S.mem.sel [] [] (by decide) d d⟩)
 refine sRegion (sField (b:=b6) (off:=0) 0 0 S (wN d) d d d d d (lb d) fun a S=>sLoad1 0 (iv p0.W) S (wN d) d d d d d d (lb d) fun a S=>sBin _ S (wN d) d d d (bLt _ _ _ _ .i64 p0.W 1) d (lb d) fun a S=>sM S fun a S=>?_)
 rcases iS h with ⟨a3,h⟩ | ⟨a3,h⟩
 ·refine sSkN 3 3 false 14 S d d a3 d fun a S=>sPickT (.bool true) S (wN d) d d a3 d d (lb d) fun a S=>sM S fun a S=>?_
  refine sSkN 9 8 false 19 S d d d d fun a S=>sPickT (.bool true) S (wN d) d d d d d (lb d) fun a S=>?_
  exact lT (⟨true,Option.some.inj h,S.fix [] [] (by decide) d d d⟩)
 refine sField (b:=b6) (off:=0) 1 1 S (wG 3 false 14 d d d a3) d d d d d (lb d) fun a S=>sLoad1 0 (iv p0.H) S (wG 3 false 14 d d d a3) d d d d d d (lb d) fun a S=>sBin _ S (wG 3 false 14 d d d a3) d d d (bLt _ _ _ _ .i64 p0.H 1) d (lb d) fun a S=>sPickF (.bool (decide (p0.H < 1))) S (wN d) d d a3 d d (lb d) fun a S=>sM S fun a S=>?_
 rcases iS h with ⟨a0,h⟩ | ⟨a0,h⟩
 ·refine sSkN 9 8 false 19 S d d a0 d fun a S=>sPickT (.bool true) S (wN d) d d a0 d d (lb d) fun a S=>?_
  exact lT (⟨true,Option.some.inj h,S.fix [] [] (by decide) d d d⟩)
 refine sField (b:=b6) (off:=0) 2 2 S (wG 8 false 19 d d d a0) d d d d d (lb d) fun a S=>sLoad1 0 (.slice a6 p0.Bits.length a7) S (wG 8 false 19 d d d a0) d d d d d d (lb d) fun a S=>sLen S (wG 8 false 19 d d d a0) d Try.underlying22 d d (lb d) fun a S=>sField (b:=b6) (off:=0) 0 0 S (wG 8 false 19 d d d a0) d d d d d (lb d) fun a S=>sLoad1 0 (iv p0.W) S (wG 8 false 19 d d d a0) d d d d d d (lb d) fun a S=>sField (b:=b6) (off:=0) 1 1 S (wG 8 false 19 d d d a0) d d d d d (lb d) fun a S=>sLoad1 0 (iv p0.H) S (wG 8 false 19 d d d a0) d d d d d d (lb d) fun a S=>sBin _ S (wG 8 false 19 d d d a0) d d d (bMul _ _ _ _ p0.W p0.H) d (lb d) fun a S=>sBin _ S (wG 8 false 19 d d d a0) d d d (bNe _ _ _ _ .i64 (p0.Bits.length:Int) (w64 (p0.W * p0.H))) d (lb d) fun a S=>sPickF (.bool ((p0.Bits.length:Int) != (w64 (p0.W * p0.H)))) S (wN d) d d a0 d d (lb d) fun a S=>?_
 exact lT (⟨(p0.Bits.length:Int) != (w64 (p0.W * p0.H)),Option.some.inj h,S.fix [] [] (by decide) d d d⟩)
noncomputable def F_raddleref01_Great (p0:api_Grid):Option Bool:=
 some (decide (4200 < (p0.Bits.length:Int)))
theorem c_raddleref01_Great (E:Nat→Prop) (w0:World) (p0:api_Grid) (v0:Value) (r:Bool) (h:F_raddleref01_Great p0=some r) (S:St0 E [] w0 w0 [] [fRep r_api_Grid (v0) p0]) :
 Calls Try.prog 9 #[v0] w0 (Ret (X:=Unit) E [] w0 (fun _=>.bool r) (fun _=>[]) (fun _=>[])):=by
 unfold F_raddleref01_Great at h
 obtain ⟨u1,rfl,a3⟩:=S.know (i:=0) (e:=fRep r_api_Grid (v0) p0) d
 have S:=S.learn (fRep (rL rB) u1 p0.Bits) a3
 obtain ⟨a0,a2,_,rfl,_⟩:=a3
 refine sEnter (args:=[.agg #[iv p0.W,iv p0.H,.slice a0 p0.Bits.length a2]]) 7 Try.func9 d d (by simp) S (fun a S=>?_)
 refine sSeq (fun K5 a4=>sRegion (sBox (v:=.agg #[iv p0.W,iv p0.H,.slice a0 p0.Bits.length a2]) S (wN d) d d [iv p0.W,iv p0.H,.slice a0 p0.Bits.length a2] d d (lb d) fun a b6 w S=>sN S fun a S=>?_))
 refine lT (a4 _ _ (sSeq (fun K7 a5=>sRegion (sField (b:=b6) (off:=0) 2 2 S (wN d) d d d d d (lb d) fun a S=>sLoad1 0 (.slice a0 p0.Bits.length a2) S (wN d) d d d d d d (lb d) fun a S=>sLen S (wN d) d Try.underlying22 d d (lb d) fun a S=>sBin _ S (wN d) d d d (bGt _ _ _ _ .i64 (p0.Bits.length:Int) 4200) d (lb d) fun a S=>sN S fun a S=>?_))))
 refine lT (a5 _ _ ?_)
 obtain rfl:=tS h
 exact wp_ret (sRet (.bool (decide (4200 < (p0.Bits.length:Int)))) S (rsl1 d (rvT (t:=2) (v:=.bool (decide (4200 < (p0.Bits.length:Int)))) S d)) ⟨(),d,S.mem.sel [] [] (by decide) d d⟩)
def anc_raddleref17_Apart_0:List (List Nat):=[[],[0],[],[0,1,2],[0,1,2,3],[],[5],[],[5,6,7],[5,6,7,8],[0,1,2,3,4,5,6,7,8,9]]
noncomputable def raddleref17_Apart_l1 (p0:api_Grid) (p1:api_Grid):(Int × Int)→Option ((Int × Int) ⊕ Int):=fun s0=>match s0 with
 | (a2,a0)=>
  if decide (a0 < (p0.Bits.length:Int)) then
   Option.bind (α:=Int) (
    (idxO p0.Bits a0).bind fun a3=>
    (idxO p1.Bits a0).bind fun a4=>
    if a3 != a4 then
     some (w64 (a2 + 1))
    else
     some a2) fun a5=>
   some (.inl (a5,w64 (a0 + 1)))
  else
   some (.inr a2)
noncomputable def F_raddleref17_Apart (p0:api_Grid) (p1:api_Grid):Option Int:=
 Option.bind (α:=Int) (
  (whileO (raddleref17_Apart_l1 p0 p1) (0,0)).bind fun a0=>
   some a0) fun a2=>
 some a2
theorem c_raddleref17_Apart (E:Nat→Prop) (w0:World) (p0:api_Grid) (v0:Value) (p1:api_Grid) (v1:Value) (r:Int) (h:F_raddleref17_Apart p0 p1=some r) (S:St0 E [] w0 w0 [] [fRep r_api_Grid (v0) p0,fRep r_api_Grid (v1) p1]) :
 Calls Try.prog 25 #[v0,v1] w0 (Ret (X:=Unit) E [] w0 (fun _=>.int .i64 r) (fun _=>[]) (fun _=>[])):=by
 unfold F_raddleref17_Apart at h
 obtain ⟨u1,rfl,aw⟩:=S.know (i:=0) (e:=fRep r_api_Grid (v0) p0) d
 have S:=S.learn (fRep (rL rB) u1 p0.Bits) aw
 obtain ⟨a0,a2,_,rfl,_⟩:=aw
 obtain ⟨u5,rfl,ax⟩:=S.know (i:=2) (e:=fRep r_api_Grid (v1) p1) d
 have S:=S.learn (fRep (rL rB) u5 p1.Bits) ax
 obtain ⟨a4,a5,_,rfl,_⟩:=ax
 refine sEnter (args:=[.agg #[iv p0.W,iv p0.H,.slice a0 p0.Bits.length a2],.agg #[iv p1.W,iv p1.H,.slice a4 p1.Bits.length a5]]) 28 Try.func25 d d (by simp) S (fun a S=>?_)
 refine sSeq (fun K9 aA=>sRegion (sBox (v:=.agg #[iv p0.W,iv p0.H,.slice a0 p0.Bits.length a2]) S (wN d) d d [iv p0.W,iv p0.H,.slice a0 p0.Bits.length a2] d d (lb d) fun a a6 w S=>sBox (v:=.agg #[iv p1.W,iv p1.H,.slice a4 p1.Bits.length a5]) S (wN d) d d [iv p1.W,iv p1.H,.slice a4 p1.Bits.length a5] d d (lb d) fun a a9 w S=>sN S fun a S=>?_))
 refine lT (aA _ _ (sSeq (fun aK ag=>sRegion (sN S fun a S=>?_))))
 refine lT (ag _ _ ?_)
 obtain ⟨aC,h,aG⟩:=bS h
 refine sCut (fun a w=>∃ ae,ae=aC∧St [] E [] w0 28 a w [(5,iv ae)] [] []) ?_ (fun a w hI=>?_)
 rotate_left
 ·obtain ⟨ae,rfl,S⟩:=hI
  have h:=aG
  try dsimp only at h
  refine sSeq (fun aL ah=>sRegion (sM S fun a S=>?_))
  refine sN S fun a S=>?_
  refine lT (ah _ _ ?_)
  obtain rfl:=tS h
  exact wp_ret (sRet (iv ae) S (rsl1 d (rvT (t:=4) (v:=iv ae) S d)) ⟨(),d,S.mem.sel [] [] (by decide) d d⟩)
 refine sSeq (fun aM ai=>sRegion (sN S fun a S=>?_))
 refine lT (ai _ _ (wp_block ?_))
 obtain ⟨aO,hl,aH⟩:=bS h
 refine sLoop hl (fun s0 a w=>match s0 with | (aa,a3)=>St [] E [] w0 28 a w [(2,.pointer (some ⟨a6,0,none⟩)),(3,.pointer (some ⟨a9,0,none⟩)),(5,iv aa),(6,iv a3)] [eBox a6 24 [iv p0.W,iv p0.H,.slice a0 p0.Bits.length a2],eBox a9 24 [iv p1.W,iv p1.H,.slice a4 p1.Bits.length a5]] [fRep (rL rB) (.slice a0 p0.Bits.length a2) p0.Bits,fRep (rL rB) (.slice a4 p1.Bits.length a5) p1.Bits]) (S.fix [1,0] [1,0] (by decide) d d d) ?_
 clear hl h
 intro s0 a w c0 hI h aj
 obtain ⟨aa,a3⟩:=s0
 unfold raddleref17_Apart_l1 at h
 dsimp only at h hI
 have S:=hI
 refine sSeq (fun aP ak=>sSeq (fun aQ al=>sRegion (sM S fun a S=>?_)))
 refine sField (b:=a6) (off:=0) 2 2 S (wN d) d d d d d (lb d) fun a S=>sLoad1 0 (.slice a0 p0.Bits.length a2) S (wN d) d d d d d d (lb d) fun a S=>sLen S (wN d) d Try.underlying22 d d (lb d) fun a S=>sBin _ S (wN d) d d d (bLt _ _ _ _ .i64 a3 (p0.Bits.length:Int)) d (lb d) fun a S=>lT (al _ _ ?_)
 rcases iS h with ⟨ab,h⟩ | ⟨ab,h⟩
 rotate_left
 ·refine sCondF S d ab ?_
  obtain rfl:=tS h
  obtain rfl:=aj _ d
  have h:=aH
  try dsimp only at h
  exact wp_exit (xThen (xThen (xHit (leafT (⟨aa,Option.some.inj h,S.fix [] [] (by decide) d d d⟩)))))
 refine sCondT S d ab (wp_skip (leafT (ak _ _ ?_)))
 obtain ⟨aI,h,aJ⟩:=bS h
 refine sCut (fun a w=>∃ af,af=aI∧St [] E [] w0 28 a w [(2,.pointer (some ⟨a6,0,none⟩)),(3,.pointer (some ⟨a9,0,none⟩)),(5,iv af),(6,iv a3)] [eBox a6 24 [iv p0.W,iv p0.H,.slice a0 p0.Bits.length a2],eBox a9 24 [iv p1.W,iv p1.H,.slice a4 p1.Bits.length a5]] [fRep (rL rB) (.slice a0 p0.Bits.length a2) p0.Bits,fRep (rL rB) (.slice a4 p1.Bits.length a5) p1.Bits]) ?_ (fun a w hI=>?_)
 rotate_left
 ·obtain ⟨af,rfl,S⟩:=hI
  have h:=aJ
  try dsimp only at h
  refine sRegion (sM S fun a S=>?_)
  refine sBin _ S (wN d) d d d (bAdd _ _ _ _ a3 1) d (lb d) fun a S=>sN S fun a S=>?_
  exact lT (⟨(af,w64 (a3 + 1)),(Option.some.inj h).symm,(S.fix [0,1] [0,1] (by decide) d d d)⟩)
 refine wp_block ?_
 refine sSeq (fun aR am=>?_)
 obtain ⟨a7,ao,h⟩:=bS h
 obtain ⟨a8,ap,h⟩:=bS h
 obtain ⟨aq,ar,S⟩:=pIdx (P:=Try.prog) (r:=rB) (v:=.slice a0 p0.Bits.length a2) (xs:=p0.Bits) (j:=a3) 22 4 0 S Try.underlying22 d d ao
 obtain ⟨ay,S⟩:=pLoad (r:=rB) (q:=aq) (x:=a7) 0 S d
 obtain rfl:ay=.bool a7:=S.mem.know (i:=1) (e:=fRep rB (ay) a7) d
 obtain ⟨au,av,S⟩:=pIdx (P:=Try.prog) (r:=rB) (v:=.slice a4 p1.Bits.length a5) (xs:=p1.Bits) (j:=a3) 22 4 4 S Try.underlying22 d d ap
 obtain ⟨az,S⟩:=pLoad (r:=rB) (q:=au) (x:=a8) 0 S d
 obtain rfl:az=.bool a8:=S.mem.know (i:=1) (e:=fRep rB (az) a8) d
 refine sDraw (nf:=[]) (W:=[(0,14,.pointer (some ⟨a6,2,none⟩)),(1,15,.slice a0 p0.Bits.length a2),(2,16,iv a3),(3,17,aq),(4,18,.bool a7),(5,19,.pointer (some ⟨a9,2,none⟩)),(6,20,.slice a4 p1.Bits.length a5),(7,21,iv a3),(8,22,au),(9,23,.bool a8),(10,24,.bool (a7 != a8))]) d S ?_
 refine node_by (A:=anc_raddleref17_Apart_0) 11 (by kernel_rfl) (by kernel_rfl) (by kernel_rfl) (by kernel_rfl) (by kernel_rfl) [0,1,2,3,4,5,6,7,8,9,10] (by kernel_rfl) (by decide) (by decide) (fF ?_ (fF ?_ (fF ?_ (fF ?_ (fF ?_ (fF ?_ (fF ?_ (fF ?_ (fF ?_ (fF ?_ (fF ?_ (trivial)))))))))))) [(2,.pointer (some ⟨a6,0,none⟩)),(3,.pointer (some ⟨a9,0,none⟩)),(5,iv aa),(6,iv a3),(24,.bool (a7 != a8))] (fin_of [none,none,none,none,some 10] d (by kernel_rfl) (by kernel_rfl)) (fun _ a w S=>?_)
 ·refine fJ [(2,_)] 0 [none] fun G a w S=>?_
  exact sField (b:=a6) (off:=0) 2 2 S (wN d) d d d d d (lb d) fun a S=>leafL ⟨d,S⟩
 ·refine fJ [(14,_)] 1 [some 0] fun G a w S=>?_
  exact sLoad1 0 (.slice a0 p0.Bits.length a2) S (wN d) d d d d d d (lb d) fun a S=>leafL ⟨d,S⟩
 ·exact fM 2 none d d d d (.inl d) d d d
 ·refine fJ [(15,_),(16,_)] 3 [some 1,some 2] fun G a w S=>?_
  exact sIdxV S (wN d) d d d ar d (lb d) fun a S=>leafL ⟨d,S⟩
 ·refine fJ [(17,_)] 4 [some 3] fun G a w S=>?_
  exact sLoadV1 (vq:=aq) 3 (.bool a7) S (wN d) d d d d d (lb d) fun a S=>leafL ⟨d,S⟩
 ·refine fJ [(3,_)] 5 [none] fun G a w S=>?_
  exact sField (b:=a9) (off:=0) 2 2 S (wN d) d d d d d (lb d) fun a S=>leafL ⟨d,S⟩
 ·refine fJ [(19,_)] 6 [some 5] fun G a w S=>?_
  exact sLoad1 1 (.slice a4 p1.Bits.length a5) S (wN d) d d d d d d (lb d) fun a S=>leafL ⟨d,S⟩
 ·exact fM 7 none d d d d (.inl d) d d d
 ·refine fJ [(20,_),(21,_)] 8 [some 6,some 7] fun G a w S=>?_
  exact sIdxV S (wN d) d d d av d (lb d) fun a S=>leafL ⟨d,S⟩
 ·refine fJ [(22,_)] 9 [some 8] fun G a w S=>?_
  exact sLoadV1 (vq:=au) 0 (.bool a8) S (wN d) d d d d d (lb d) fun a S=>leafL ⟨d,S⟩
 ·refine fJ [(18,_),(23,_)] 10 [some 4,some 9] fun G a w S=>?_
  exact sBin _ S (wN d) d d d (bNeB _ _ _ _ Try.underlying4 a7 a8) d (lb d) fun a S=>leafL ⟨d,S⟩
 refine leafT (am _ _ ?_)
 rcases iS h with ⟨ac,h⟩ | ⟨ac,h⟩
 rotate_left
 ·refine sCondF S d ac ?_
  exact wp_skip (leafB (leafT (⟨aa,Option.some.inj h,S.fix [0,1] [6,7] (by decide) d d d⟩)))
 refine sCondT S d ac (sRegion (sM S fun a S=>?_))
 refine sBin _ S (wN d) d d d (bAdd _ _ _ _ aa 1) d (lb d) fun a S=>sN S fun a S=>?_
 exact leafL (leafB (leafT (⟨w64 (aa + 1),Option.some.inj h,S.fix [0,1] [6,7] (by decide) d d d⟩)))
noncomputable def F_raddleref01_At (p0:api_Grid) (p1:Int) (p2:Int):Option Bool:=
 (idxO p0.Bits (w64 ((w64 (p2 * p0.W)) + p1))).bind fun x8=>
 some x8
theorem c_raddleref01_At (E:Nat→Prop) (w0:World) (p0:api_Grid) (v0:Value) (p1:Int) (p2:Int) (r:Bool) (h:F_raddleref01_At p0 p1 p2=some r) (S:St0 E [] w0 w0 [] [fRep r_api_Grid (v0) p0]) :
 Calls Try.prog 22 #[v0,iv p1,iv p2] w0 (Ret (X:=Unit) E [] w0 (fun _=>.bool r) (fun _=>[]) (fun _=>[])):=by
 unfold F_raddleref01_At at h
 obtain ⟨u1,rfl,a4⟩:=S.know (i:=0) (e:=fRep r_api_Grid (v0) p0) d
 have S:=S.learn (fRep (rL rB) u1 p0.Bits) a4
 obtain ⟨a0,a2,_,rfl,_⟩:=a4
 refine sEnter (args:=[.agg #[iv p0.W,iv p0.H,.slice a0 p0.Bits.length a2],iv p1,iv p2]) 17 Try.func22 d d (by simp) S (fun a S=>?_)
 refine sSeq (fun K5 a7=>sRegion (sBox (v:=.agg #[iv p0.W,iv p0.H,.slice a0 p0.Bits.length a2]) S (wN d) d d [iv p0.W,iv p0.H,.slice a0 p0.Bits.length a2] d d (lb d) fun a b6 w S=>sN S fun a S=>?_))
 refine lT (a7 _ _ (sSeq (fun K7 a8=>sRegion (sField (b:=b6) (off:=0) 2 2 S (wN d) d d d d d (lb d) fun a S=>sLoad1 0 (.slice a0 p0.Bits.length a2) S (wN d) d d d d d d (lb d) fun a S=>sM S fun a S=>?_))))
 refine sField (b:=b6) (off:=0) 0 0 S (wN d) d d d d d (lb d) fun a S=>sLoad1 0 (iv p0.W) S (wN d) d d d d d d (lb d) fun a S=>sBin _ S (wN d) d d d (bMul _ _ _ _ p2 p0.W) d (lb d) fun a S=>sM S fun a S=>?_
 refine sBin _ S (wN d) d d d (bAdd _ _ _ _ (w64 (p2 * p0.W)) p1) d (lb d) fun a S=>?_
 obtain ⟨x8,a9,h⟩:=bS h
 obtain ⟨a5,a3,S⟩:=pIdx (P:=Try.prog) (r:=rB) (v:=.slice a0 p0.Bits.length a2) (xs:=p0.Bits) (j:=w64 ((w64 (p2 * p0.W)) + p1)) 22 4 0 S Try.underlying22 d d a9
 refine sIdxV S (wN d) d d d a3 d (lb d) fun a S=>?_
 obtain ⟨a6,S⟩:=pLoad (r:=rB) (q:=a5) (x:=x8) 0 S d
 obtain rfl:a6=.bool x8:=S.mem.know (i:=1) (e:=fRep rB (a6) x8) d
 refine sLoadV1 (vq:=a5) 0 (.bool x8) S (wN d) d d d d d (lb d) fun a S=>sN S fun a S=>?_
 refine lT (a8 _ _ ?_)
 obtain rfl:=tS h
 exact wp_ret (sRet (.bool x8) S (rsl1 d (rvT (t:=6) (v:=.bool x8) S d)) ⟨(),d,S.mem.sel [] [] (by decide) d d⟩)
noncomputable def F_raddleref17_Great (p0:api_Grid):Option Bool:=
 Option.bind (α:=Bool) (
  (F_raddleref01_Great p0).bind fun a0=>
  if a0 then
   some true
  else
   (F_raddleref01_Check p0).bind fun a2=>
   if a2 == 0 then
    if decide (5 < p0.W) then
     if decide (p0.W ≤ 8) then
      some true
     else
      some (decide (20 < p0.H))
    else
     some (decide (20 < p0.H))
   else
    some false) fun o7=>
 some o7
theorem c_raddleref17_Great (E:Nat→Prop) (w0:World) (p0:api_Grid) (v0:Value) (r:Bool) (h:F_raddleref17_Great p0=some r) (S:St0 E [] w0 w0 [] [fRep r_api_Grid (v0) p0]) :
 Calls Try.prog 26 #[v0] w0 (Ret (X:=Unit) E [] w0 (fun _=>.bool r) (fun _=>[]) (fun _=>[])):=by
 unfold F_raddleref17_Great at h
 obtain ⟨u1,rfl,aa⟩:=S.know (i:=0) (e:=fRep r_api_Grid (v0) p0) d
 have S:=S.learn (fRep (rL rB) u1 p0.Bits) aa
 obtain ⟨a5,a6,_,rfl,_⟩:=aa
 refine sEnter (args:=[.agg #[iv p0.W,iv p0.H,.slice a5 p0.Bits.length a6]]) 25 Try.func26 d d (by simp) S (fun a S=>?_)
 refine sSeq (fun K5 ac=>sRegion (sBox (v:=.agg #[iv p0.W,iv p0.H,.slice a5 p0.Bits.length a6]) S (wN d) d d [iv p0.W,iv p0.H,.slice a5 p0.Bits.length a6] d d (lb d) fun a b6 w S=>sN S fun a S=>?_))
 refine lT (ac _ _ ?_)
 obtain ⟨t8,h,g9⟩:=bS h
 refine sCut (fun a w=>∃ o7,o7=t8∧St [] E [] w0 25 a w [(2,.bool o7)] [] []) ?_ (fun a w hI=>?_)
 rotate_left
 ·obtain ⟨o7,rfl,S⟩:=hI
  have h:=g9
  try dsimp only at h
  obtain rfl:=tS h
  exact wp_ret (sRet (.bool o7) S (rsl1 d (rvT (t:=2) (v:=.bool o7) S d)) ⟨(),d,S.mem.sel [] [] (by decide) d d⟩)
 refine sRegion (sLoadN (p:=b6) (off:=0) (T:=24) (vs:=[iv p0.W,iv p0.H,.slice a5 p0.Bits.length a6]) 0 [iv p0.W,iv p0.H,.slice a5 p0.Bits.length a6] S (wN d) d d d d d d d (lb d) fun a S=>?_)
 obtain ⟨ab,a8,h⟩:=bS h
 have S1:=S.mem
 refine sCq [.agg #[iv p0.W,iv p0.H,.slice a5 p0.Bits.length a6]] (.bool ab) S callee9 (S1.quiet [1] d) (fun E1 w1 S1=>c_raddleref01_Great E1 w1 p0 (.agg #[iv p0.W,iv p0.H,.slice a5 p0.Bits.length a6]) ab a8 S1) fun a w S=>?_
 refine sM S fun a S=>?_
 rcases iS h with ⟨a2,h⟩ | ⟨a2,h⟩
 ·refine sSkN 4 2 false 5 S d d a2 d fun a S=>sSkipU 6 true 9 10 S d d d d (lb d) fun a S=>?_
  refine sSkipU 6 true 9 11 S d d d d (lb d) fun a S=>?_
  refine sSkipU 6 true 9 12 S d d d d (lb d) fun a S=>?_
  refine sSkipU 6 true 9 13 S d d d d (lb d) fun a S=>?_
  refine sSkipU 10 true 13 14 S d d d d (lb d) fun a S=>?_
  refine sSkipU 10 true 13 15 S d d d d (lb d) fun a S=>?_
  refine sSkipU 10 true 13 16 S d d d d (lb d) fun a S=>?_
  refine sSkipU 6 true 9 17 S d d d d (lb d) fun a S=>?_
  refine sSkipU 6 true 9 18 S d d d d (lb d) fun a S=>?_
  refine sSkipU 15 false 18 19 S d d d d (lb d) fun a S=>?_
  refine sSkipU 15 false 18 20 S d d d d (lb d) fun a S=>?_
  refine sSkipU 15 false 18 21 S d d d d (lb d) fun a S=>?_
  refine sSkipU 6 true 9 22 S d d d d (lb d) fun a S=>?_
  refine sSk S d d d a2 d d fun a S=>sPickT (.bool true) S (wN d) d d a2 d d (lb d) fun a S=>sN S fun a S=>?_
  exact lT (⟨true,Option.some.inj h,S.fix [] [] (by decide) d d d⟩)
 refine sLoadN (p:=b6) (off:=0) (T:=24) (vs:=[iv p0.W,iv p0.H,.slice a5 p0.Bits.length a6]) 0 [iv p0.W,iv p0.H,.slice a5 p0.Bits.length a6] S (wG 2 false 5 d d d a2) d d d d d d d (lb d) fun a S=>?_
 obtain ⟨a7,a9,h⟩:=bS h
 have S1:=S.mem
 refine sCallQ (X:=Unit) (f:=37) (vs:=[.agg #[iv p0.W,iv p0.H,.slice a5 p0.Bits.length a6]]) (val:=fun _=>iv a7) S (wG 2 false 5 d d d a2) d callee37 d (S1.quiet [1] d) (fun E1 w1 S1=>c_raddleref01_Check E1 w1 p0 (.agg #[iv p0.W,iv p0.H,.slice a5 p0.Bits.length a6]) a7 a9 S1) d (lb d) fun _ a w S=>?_
 refine sBin _ S (wG 2 false 5 d d d a2) d d d (bEq _ _ _ _ .i64 a7 0) d (lb d) fun a S=>sMove (.bool (a7 == 0)) S (wG 2 false 5 d d d a2) (.inl d) d d (lb d) fun a S=>?_
 rcases iS h with ⟨a0,h⟩ | ⟨a0,h⟩
 rotate_left
 ·refine sSkN 4 6 true 9 S d d a0 d fun a S=>sSkipU 10 true 13 14 S d d d d (lb d) fun a S=>?_
  refine sSkipU 10 true 13 15 S d d d d (lb d) fun a S=>?_
  refine sSkipU 10 true 13 16 S d d d d (lb d) fun a S=>?_
  refine sSkN 2 6 true 9 S d d a0 d fun a S=>sSkipU 15 false 18 19 S d d d d (lb d) fun a S=>?_
  refine sSkipU 15 false 18 20 S d d d d (lb d) fun a S=>?_
  refine sSkipU 15 false 18 21 S d d d d (lb d) fun a S=>?_
  refine sSk S d d d a0 d d fun a S=>sPickF (.bool false) S (wG 2 false 5 d d d a2) d d a0 d d (lb d) fun a S=>sPickF (.bool false) S (wN d) d d a2 d d (lb d) fun a S=>sN S fun a S=>?_
  exact lT (⟨false,Option.some.inj h,S.fix [] [] (by decide) d d d⟩)
 refine sField (b:=b6) (off:=0) 0 0 S (wG 6 true 9 d d d a0) d d d d d (lb d) fun a S=>sLoad1 0 (iv p0.W) S (wG 6 true 9 d d d a0) d d d d d d (lb d) fun a S=>sBin _ S (wG 6 true 9 d d d a0) d d d (bGt _ _ _ _ .i64 p0.W 5) d (lb d) fun a S=>sMove (.bool (decide (5 < p0.W))) S (wG 6 true 9 d d d a0) (.inl d) d d (lb d) fun a S=>?_
 rcases iS h with ⟨a3,h⟩ | ⟨a3,h⟩
 rotate_left
 ·refine sSkN 3 10 true 13 S d d a3 d fun a S=>sPickF (.bool false) S (wG 6 true 9 d d d a0) d d a3 d d (lb d) fun a S=>sMove (.bool false) S (wG 6 true 9 d d d a0) (.inl d) d d (lb d) fun a S=>sField (b:=b6) (off:=0) 1 1 S (wG 15 false 18 d d d d) d d d d d (lb d) fun a S=>sLoad1 0 (iv p0.H) S (wG 15 false 18 d d d d) d d d d d d (lb d) fun a S=>sBin _ S (wG 15 false 18 d d d d) d d d (bGt _ _ _ _ .i64 p0.H 20) d (lb d) fun a S=>sPickF (.bool (decide (20 < p0.H))) S (wG 6 true 9 d d d a0) d d d d d (lb d) fun a S=>sPickT (.bool (decide (20 < p0.H))) S (wG 2 false 5 d d d a2) d d a0 d d (lb d) fun a S=>sPickF (.bool (decide (20 < p0.H))) S (wN d) d d a2 d d (lb d) fun a S=>sN S fun a S=>?_
  exact lT (⟨decide (20 < p0.H),Option.some.inj h,S.fix [] [] (by decide) d d d⟩)
 refine sField (b:=b6) (off:=0) 0 0 S (wG 10 true 13 d d d a3) d d d d d (lb d) fun a S=>sLoad1 0 (iv p0.W) S (wG 10 true 13 d d d a3) d d d d d d (lb d) fun a S=>sBin _ S (wG 10 true 13 d d d a3) d d d (bLe _ _ _ _ .i64 p0.W 8) d (lb d) fun a S=>sPickT (.bool (decide (p0.W ≤ 8))) S (wG 6 true 9 d d d a0) d d a3 d d (lb d) fun a S=>sMove (.bool (decide (p0.W ≤ 8))) S (wG 6 true 9 d d d a0) (.inl d) d d (lb d) fun a S=>?_
 rcases iS h with ⟨a4,h⟩ | ⟨a4,h⟩
 ·refine sSkN 3 15 false 18 S d d a4 d fun a S=>sPickT (.bool true) S (wG 6 true 9 d d d a0) d d a4 d d (lb d) fun a S=>sPickT (.bool true) S (wG 2 false 5 d d d a2) d d a0 d d (lb d) fun a S=>sPickF (.bool true) S (wN d) d d a2 d d (lb d) fun a S=>sN S fun a S=>?_
  exact lT (⟨true,Option.some.inj h,S.fix [] [] (by decide) d d d⟩)
 refine sField (b:=b6) (off:=0) 1 1 S (wG 15 false 18 d d d a4) d d d d d (lb d) fun a S=>sLoad1 0 (iv p0.H) S (wG 15 false 18 d d d a4) d d d d d d (lb d) fun a S=>sBin _ S (wG 15 false 18 d d d a4) d d d (bGt _ _ _ _ .i64 p0.H 20) d (lb d) fun a S=>sPickF (.bool (decide (20 < p0.H))) S (wG 6 true 9 d d d a0) d d a4 d d (lb d) fun a S=>sPickT (.bool (decide (20 < p0.H))) S (wG 2 false 5 d d d a2) d d a0 d d (lb d) fun a S=>sPickF (.bool (decide (20 < p0.H))) S (wN d) d d a2 d d (lb d) fun a S=>sN S fun a S=>?_
 exact lT (⟨decide (20 < p0.H),Option.some.inj h,S.fix [] [] (by decide) d d d⟩)
noncomputable def F_raddleref17_Few (p0:api_Grid):Option Int:=
 (F_raddleref01_Check p0).bind fun r9=>
 if r9 != 0 then
  some r9
 else
  if decide (8 < p0.W) then
   some 4
  else
   some 0
theorem c_raddleref17_Few (E:Nat→Prop) (w0:World) (p0:api_Grid) (v0:Value) (r:Int) (h:F_raddleref17_Few p0=some r) (S:St0 E [] w0 w0 [] [fRep r_api_Grid (v0) p0]) :
 Calls Try.prog 43 #[v0] w0 (Ret (X:=Unit) E [] w0 (fun _=>.int .i64 r) (fun _=>[]) (fun _=>[])):=by
 unfold F_raddleref17_Few at h
 obtain ⟨u1,rfl,ab⟩:=S.know (i:=0) (e:=fRep r_api_Grid (v0) p0) d
 have S:=S.learn (fRep (rL rB) u1 p0.Bits) ab
 obtain ⟨a0,a2,_,rfl,_⟩:=ab
 refine sEnter (args:=[.agg #[iv p0.W,iv p0.H,.slice a0 p0.Bits.length a2]]) 11 Try.func43 d d (by simp) S (fun a S=>?_)
 refine sSeq (fun K5 ac=>sRegion (sBox (v:=.agg #[iv p0.W,iv p0.H,.slice a0 p0.Bits.length a2]) S (wN d) d d [iv p0.W,iv p0.H,.slice a0 p0.Bits.length a2] d d (lb d) fun a b6 w S=>sN S fun a S=>?_))
 refine lT (ac _ _ (sSeq (fun K7 ae=>sSeq (fun K8 af=>sRegion (sLoadN (p:=b6) (off:=0) (T:=24) (vs:=[iv p0.W,iv p0.H,.slice a0 p0.Bits.length a2]) 0 [iv p0.W,iv p0.H,.slice a0 p0.Bits.length a2] S (wN d) d d d d d d d (lb d) fun a S=>?_)))))
 obtain ⟨r9,a5,h⟩:=bS h
 have S1:=S.mem
 refine sCq [.agg #[iv p0.W,iv p0.H,.slice a0 p0.Bits.length a2]] (iv r9) S callee37 (S1.quiet [1] d) (fun E1 w1 S1=>c_raddleref01_Check E1 w1 p0 (.agg #[iv p0.W,iv p0.H,.slice a0 p0.Bits.length a2]) r9 a5 S1) fun a w S=>?_
 refine sBin _ S (wN d) d d d (bNe _ _ _ _ .i64 r9 0) d (lb d) fun a S=>lT (af _ _ ?_)
 rcases iS h with ⟨a3,h⟩ | ⟨a3,h⟩
 ·refine sCondT S d a3 (sSeq (fun ag a6=>sRegion (sLoadN (p:=b6) (off:=0) (T:=24) (vs:=[iv p0.W,iv p0.H,.slice a0 p0.Bits.length a2]) 0 [iv p0.W,iv p0.H,.slice a0 p0.Bits.length a2] S (wN d) d d d d d d d (lb d) fun a S=>?_)))
  have S1:=S.mem
  refine sCq [.agg #[iv p0.W,iv p0.H,.slice a0 p0.Bits.length a2]] (iv r9) S callee37 (S1.quiet [1] d) (fun E1 w1 S1=>c_raddleref01_Check E1 w1 p0 (.agg #[iv p0.W,iv p0.H,.slice a0 p0.Bits.length a2]) r9 a5 S1) fun a w S=>?_
  refine sN S fun a S=>?_
  refine lT (a6 _ _ ?_)
  obtain rfl:=tS h
  exact wp_ret (rThen (sRet (iv r9) S (rsl1 d (rvT (t:=2) (v:=iv r9) S d)) ⟨(),d,S.mem.sel [] [] (by decide) d d⟩))
 refine sCondF S d a3 (wp_skip (leafT (ae _ _ ?_)))
 refine sSeq (fun ah a7=>sSeq (fun ai a8=>sRegion (sField (b:=b6) (off:=0) 0 0 S (wN d) d d d d d (lb d) fun a S=>sLoad1 0 (iv p0.W) S (wN d) d d d d d d (lb d) fun a S=>sBin _ S (wN d) d d d (bGt _ _ _ _ .i64 p0.W 8) d (lb d) fun a S=>lT (a8 _ _ ?_))))
 rcases iS h with ⟨a4,h⟩ | ⟨a4,h⟩
 ·refine sCondT S d a4 (sSeq (fun aj a9=>sRegion (sN S fun a S=>?_)))
  refine lT (a9 _ _ ?_)
  obtain rfl:=tS h
  exact wp_ret (rThen (sRet (iv 4) S (rsl1 d (rvT (t:=2) (v:=iv 4) S d)) ⟨(),d,S.mem.sel [] [] (by decide) d d⟩))
 refine sCondF S d a4 (wp_skip (leafT (a7 _ _ ?_)))
 refine sSeq (fun ak aa=>sRegion (sN S fun a S=>?_))
 refine lT (aa _ _ ?_)
 obtain rfl:=tS h
 exact wp_ret (sRet (iv 0) S (rsl1 d (rvT (t:=2) (v:=iv 0) S d)) ⟨(),d,S.mem.sel [] [] (by decide) d d⟩)
noncomputable def F_raddleref01_Zero_s0 (p0:Int) (p1:Int):Option api_Grid:=
 (makeO (w64 (p0 * p1)) false).bind fun m6=>
 some (api_Grid.mk p0 p1 m6)
theorem c_raddleref01_Zero_s0 (E:Nat→Prop) (w0:World) (p0:Int) (p1:Int) (r:api_Grid) (h:F_raddleref01_Zero_s0 p0 p1=some r) (S:St0 E [] w0 w0 [] []) :
 Calls Try.prog 32 #[iv p0,iv p1] w0 (Ret (X:=Option Addr × Nat) E [] w0 (fun x=>.agg #[iv r.W,iv r.H,.slice x.1 r.Bits.length x.2]) (fun x=>[eRow rB 4 (.slice x.1 r.Bits.length x.2) r.Bits]) (fun _=>[])):=by
 unfold F_raddleref01_Zero_s0 at h
 refine sEnter (args:=[iv p0,iv p1]) 12 Try.func32 d d (by simp) S (fun a S=>?_)
 refine sSeq (fun K1 a3=>sRegion (sAlloc (.agg #[iv 0,iv 0,.slice none 0 0]) S (wN d) d d [iv 0,iv 0,.slice none 0 0] d d (lb d) fun a b2 w S=>lT (a3 _ _ (sSeq (fun K3 a4=>sRegion (sM S fun a S=>?_))))))
 refine sM S fun a S=>?_
 refine sM S fun a S=>?_
 refine sM S fun a S=>?_
 refine sBin _ S (wN d) d d d (bMul _ _ _ _ p0 p1) d (lb d) fun a S=>?_
 obtain ⟨m6,a5,h⟩:=bS h
 refine sMake (r:=rB) (m:=w64 (p0 * p1)) (xs:=m6) (.bool false) false 1 S (wN d) d Try.underlying22 d d (by decide) (fun _ _=>d) d d a5 d (lb d) fun a w a0 a2 S=>sBuild [(0,iv p0),(1,iv p1),(2,.slice a0 m6.length a2)] [iv p0,iv p1,.slice a0 m6.length a2] S (wN d) d d d d (lb d) fun a S=>sStore (p:=b2) (off:=0) (T:=24) (vs:=[iv 0,iv 0,.slice none 0 0]) (v:=.agg #[iv p0,iv p1,.slice a0 m6.length a2]) 1 [iv p0,iv p1,.slice a0 m6.length a2] S (wN d) d d d d d d d (by simp) d fun a w S=>lT (a4 _ _ ?_)
 obtain rfl:=tS h
 exact wp_ret (sRet (.agg #[iv p0,iv p1,.slice a0 m6.length a2]) S (rsl1 d (rvN (c:=4) (t:=24) (T:=24) (p:=b2) 0 [iv p0,iv p1,.slice a0 m6.length a2] S d d d d)) ⟨(a0,a2),d,S.mem.sel [1] [] (by decide) d d⟩)
noncomputable def F_raddleref01_Set_s0 (p0:Int) (p1:Int) (p2:(List Bool)) (p3:Int) (p4:Int) (p5:Bool):Option (List Bool):=
 (idxO p2 (w64 ((w64 (p4 * p0)) + p3))).bind fun x3=>
 (setO p2 (w64 ((w64 (p4 * p0)) + p3)) p5).bind fun l8=>
 (keepO p2 l8).bind fun _=>
 some l8
theorem c_raddleref01_Set_s0 (E:Nat→Prop) (w0:World) (p0:Int) (p1:Int) (p2:(List Bool)) (ad_2:Option Addr) (cp_2:Nat) (p3:Int) (p4:Int) (p5:Bool) (r:(List Bool)) (h:F_raddleref01_Set_s0 p0 p1 p2 p3 p4 p5=some r) (S:St0 E (keysL [eRow rB 4 (.slice ad_2 p2.length cp_2) p2]) w0 w0 [eRow rB 4 (.slice ad_2 p2.length cp_2) p2] []) :
 Calls Try.prog 48 #[.agg #[iv p0,iv p1,.slice ad_2 p2.length cp_2],iv p3,iv p4,.bool p5] w0 (Ret (X:=Unit) E (keysL [eRow rB 4 (.slice ad_2 p2.length cp_2) p2]) w0 (fun _=>.tuple #[]) (fun _=>[eRow rB 4 (.slice ad_2 p2.length cp_2) r]) (fun _=>[])):=by
 unfold F_raddleref01_Set_s0 at h
 refine sEnter (args:=[.agg #[iv p0,iv p1,.slice ad_2 p2.length cp_2],iv p3,iv p4,.bool p5]) 18 Try.func48 d d (by simp) S (fun a S=>?_)
 refine sSeq (fun K1 a3=>sRegion (sBox (v:=.agg #[iv p0,iv p1,.slice ad_2 p2.length cp_2]) S (wN d) d d [iv p0,iv p1,.slice ad_2 p2.length cp_2] d d (lb d) fun a b2 w S=>lT (a3 _ _ (sRegion (sField (b:=b2) (off:=0) 2 2 S (wN d) d d d d d (lb d) fun a S=>sLoad1 0 (.slice ad_2 p2.length cp_2) S (wN d) d d d d d d (lb d) fun a S=>sM S fun a S=>?_)))))
 refine sField (b:=b2) (off:=0) 0 0 S (wN d) d d d d d (lb d) fun a S=>sLoad1 0 (iv p0) S (wN d) d d d d d d (lb d) fun a S=>sBin _ S (wN d) d d d (bMul _ _ _ _ p4 p0) d (lb d) fun a S=>sM S fun a S=>?_
 refine sBin _ S (wN d) d d d (bAdd _ _ _ _ (w64 (p4 * p0)) p3) d (lb d) fun a S=>sM S fun a S=>?_
 obtain ⟨x3,a4,h⟩:=bS h
 obtain ⟨q5,a5,a6⟩:=pIdxR (P:=Try.prog) (r:=rB) (T:=4) (v:=.slice ad_2 p2.length cp_2) (xs:=p2) (j:=w64 ((w64 (p4 * p0)) + p3)) 22 4 1 S Try.underlying22 d d a4
 refine sIdxV S (wN d) d d d a5 d (lb d) fun a S=>?_
 obtain ⟨l8,a2,h⟩:=bS h
 refine sStoreR (r:=rB) (T:=4) (xs:=p2) (ys:=l8) (y:=p5) (v:=.slice ad_2 p2.length cp_2) (vq:=q5) (u:=.bool p5) (j:=w64 ((w64 (p4 * p0)) + p3)) 1 S a6 (wN d) d d d d d a2 d d fun a w S=>?_
 rw [setO_v a2 ad_2 cp_2] at S
 obtain ⟨_,a0,h⟩:=bS h
 rw [keepO_v a0 ad_2 cp_2] at S
 obtain rfl:=tS h
 exact leafL (sEnd (.tuple #[]) S (rsl0 d ) ⟨(),d,S.mem.sel [0] [] (by decide) d d⟩)
end Go.Proofs.Ytapohhkdpkapoaa
