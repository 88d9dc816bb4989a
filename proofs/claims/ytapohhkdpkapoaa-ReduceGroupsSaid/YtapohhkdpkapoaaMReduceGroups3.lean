/- ReduceGroups: walks, tables, laws. -/
import Derived.Test.YtapohhkdpkapoaaProg
import Derived.Test.YtapohhkdpkapoaaRows
import Derived.Test.YtapohhkdpkapoaaMReduceGroups2
set_option linter.unusedVariables false
set_option linter.unusedSimpArgs false
set_option maxHeartbeats 4000000
set_option maxRecDepth 100000
namespace Go.Proofs.Ytapohhkdpkapoaa
open Go.RowKit
def anc_reduce_search_from_s5_0:List (List Nat):=[[],[0],[0,1],[0,1,2],[0,1,2,3],[],[5],[5,6],[5,6,7],[5,6,7,8],[0,1,2,3,4,5,6,7,8,9]]
def anc_reduce_search_from_s5_1:List (List Nat):=[[],[0],[0,1],[0,1,2],[],[4],[4,5],[4,5,6],[0,1,2,3,4,5,6,7],[0,1,2,3,4,5,6,7,8],[0,1,2,3,4,5,6,7,8,9],[0,1,2,3,4,5,6,7,8,9],[0,1,2,3,4,5,6,7,8,9],[],[0,1,2,3,4,5,6,7,8,9,10,13],[0,1,2,3,4,5,6,7,8,9,10,11,13,14],[0,1,2,3,4,5,6,7,8,9,10,11,12,13,14,15]]
def anc_reduce_search_from_s5_2:List (List Nat):=[[],[],[1],[1,2],[1,2,3],[],[5],[5,6],[5,6,7],[5,6,7,8],[5,6,7,8,9],[1,2,3,4,5,6,7,8,9,10],[0,1,2,3,4,5,6,7,8,9,10,11],[0,1,2,3,4,5,6,7,8,9,10,11,12],[0,1,2,3,4,5,6,7,8,9,10,11,12,13]]
noncomputable def reduce_search_from_s5_l1 (p0:reduce_search) (p1:Int):(Int × Int × Int × Int × List Int × List Int × Int)→Option ((Int × Int × Int × Int × List Int × List Int × Int) ⊕ (Int × Int × Int × List Int × List Int × Int)):=fun s0=>match s0 with
 | (a2,a3,a4,a5,a6,a7,a8)=>
  if decide (a2 < (if p0.k < (w64 (p1 + 1)) then p0.k else w64 (p1 + 1))) then
   (appO a6 ([a2]:List Int)).bind fun a9=>
   (F_reduce_search_from_s6 (reduce_search.mk (api_Grid.mk a3 a4 p0.g.Bits) a5 a9 a7 a8) (if p1 < (w64 (a2 + 1)) then w64 (a2 + 1) else p1)).bind fun a0=>
   (sliceO a0.l 0 (w64 ((a0.l.length:Int) - 1))).bind fun aa=>
   some (.inl (w64 (a2 + 1),a0.g.W,a0.g.H,a0.k,aa,a0.best,a0.least))
  else
   some (.inr (a3,a4,a5,a6,a7,a8))
noncomputable def F_reduce_search_from_s5 (p0:reduce_search) (p1:Int):Option reduce_search:=
 if (p0.l.length:Int) == p0.g.W then
  Option.bind (α:=(List Int × List Int × Int)) (
   Option.bind (α:=(Int × List Int)) (
    (F_reduce_Change_s1 p0.g p0.l).bind fun a2=>
    some (a2.2.1,a2.2.2.2)) fun (a3,a4)=>
   Option.bind (α:=Bool) (
    if p0.best.isEmpty then
     some true
    else
     some (decide (a3 < p0.least))) fun a5=>
   if a5 then
    (F_slices_Clone___int_int__s1 a4).bind fun a0=>
    (neO a0.1).bind fun af=>
    some (a0.2,a0.1,a3)
   else
    some (a4,p0.best,p0.least)) fun (o8,a6,a7)=>
  some (reduce_search.mk p0.g p0.k o8 a6 a7)
 else
  (whileO (reduce_search_from_s5_l1 p0 p1) (0,p0.g.W,p0.g.H,p0.k,p0.l,p0.best,p0.least)).bind fun (a8,a9,aa,ab,ac,ae)=>
   some (reduce_search.mk (api_Grid.mk a8 a9 p0.g.Bits) aa ab ac ae)
theorem c_reduce_search_from_s5 (E:Nat→Prop) (w0:World) (p0:reduce_search) (bb0:Nat) (u_0_0:Value) (ad_0_1:Option Addr) (cp_0_1:Nat) (u_0_2:Value) (p1:Int) (r:reduce_search) (h:F_reduce_search_from_s5 p0 p1=some r) (S:St0 E (keysL [eBox bb0 68 [iv p0.g.W,iv p0.g.H,u_0_0,iv p0.k,.slice ad_0_1 p0.l.length cp_0_1,u_0_2,iv p0.least],eRow (rI .i64) 3 (.slice ad_0_1 p0.l.length cp_0_1) p0.l]) w0 w0 [eBox bb0 68 [iv p0.g.W,iv p0.g.H,u_0_0,iv p0.k,.slice ad_0_1 p0.l.length cp_0_1,u_0_2,iv p0.least],eRow (rI .i64) 3 (.slice ad_0_1 p0.l.length cp_0_1) p0.l] [fRep (rL rB) (u_0_0) p0.g.Bits,fRep (rLz (rI .i64)) (u_0_2) p0.best]) :
 Calls Try.prog 41 #[.pointer (some ⟨bb0,0,none⟩),iv p1] w0 (Ret (X:=Option Addr × Nat × Value) E (keysL [eBox bb0 68 [iv p0.g.W,iv p0.g.H,u_0_0,iv p0.k,.slice ad_0_1 p0.l.length cp_0_1,u_0_2,iv p0.least],eRow (rI .i64) 3 (.slice ad_0_1 p0.l.length cp_0_1) p0.l]) w0 (fun _=>.tuple #[]) (fun x=>[eBox bb0 68 [iv r.g.W,iv r.g.H,u_0_0,iv r.k,.slice x.1 r.l.length x.2.1,x.2.2,iv r.least],eRow (rI .i64) 3 (.slice x.1 r.l.length x.2.1) r.l]) (fun x=>[fRep (rLz (rI .i64)) x.2.2 r.best])):=by
 unfold F_reduce_search_from_s5 at h
 obtain ⟨a2,a3,_,rfl,_⟩:=S.know (i:=0) (e:=fRep (rL rB) (u_0_0) p0.g.Bits) y
 obtain ⟨⟨ak,al,_,rfl,_⟩,_⟩:=S.know (i:=1) (e:=fRep (rLz (rI .i64)) (u_0_2) p0.best) y
 generalize (keysL [eBox bb0 68 [iv p0.g.W,iv p0.g.H,.slice a2 p0.g.Bits.length a3,iv p0.k,.slice ad_0_1 p0.l.length cp_0_1,.slice ak p0.best.length al,iv p0.least],eRow (rI .i64) 3 (.slice ad_0_1 p0.l.length cp_0_1) p0.l])=M9 at S ⊢
 refine sEnter (args:=[.pointer (some ⟨bb0,0,none⟩),iv p1]) 98 Try.func41 y y (by simp) S (fun a S=>?_)
 refine sSeq (fun K5 bp=>sSeq (fun K6 bq=>sDraw (nf:=[]) (W:=[(0,8,.pointer (some ⟨bb0,0,none⟩)),(1,9,.pointer (some ⟨bb0,0,none⟩)),(2,10,.pointer (some ⟨bb0,4,none⟩)),(3,11,.slice ad_0_1 p0.l.length cp_0_1),(4,12,iv (p0.l.length:Int)),(5,13,.pointer (some ⟨bb0,0,none⟩)),(6,14,.pointer (some ⟨bb0,0,none⟩)),(7,15,.pointer (some ⟨bb0,0,none⟩)),(8,16,.pointer (some ⟨bb0,0,none⟩)),(9,17,iv p0.g.W),(10,18,.bool ((p0.l.length:Int) == p0.g.W))]) y S ?_))
 refine node_by (A:=anc_reduce_search_from_s5_0) 11 (by kernel_rfl) (by kernel_rfl) (by kernel_rfl) (by kernel_rfl) (by kernel_rfl) [0,1,2,3,4,5,6,7,8,9,10] (by kernel_rfl) (by decide) (by decide) (fF ?_ (fF ?_ (fF ?_ (fF ?_ (fF ?_ (fF ?_ (fF ?_ (fF ?_ (fF ?_ (fF ?_ (fF ?_ (trivial)))))))))))) [(0,.pointer (some ⟨bb0,0,none⟩)),(1,iv p1),(18,.bool ((p0.l.length:Int) == p0.g.W))] (fin_of [none,none,some 10] y (by kernel_rfl) (by kernel_rfl)) (fun _ a w S=>?_)
 ·exact fM 0 none y y y y (.inl y) y y y
 ·refine fJ [(8,_)] 1 [some 0] fun G a w S=>?_
  exact nilCheck_ok (q:=⟨bb0,0,none⟩) S (wN y) y y y (lb y) fun a S=>leafL ⟨y,S⟩
 ·refine fJ [(9,_)] 2 [some 1] fun G a w S=>?_
  exact sField (b:=bb0) (off:=0) 4 4 S (wN y) y y y y y (lb y) fun a S=>leafL ⟨y,S⟩
 ·refine fJ [(10,_)] 3 [some 2] fun G a w S=>?_
  exact sLoad1 0 (.slice ad_0_1 p0.l.length cp_0_1) S (wN y) y y y y y y (lb y) fun a S=>leafL ⟨y,S⟩
 ·refine fJ [(11,_)] 4 [some 3] fun G a w S=>?_
  exact sLen S (wN y) y Try.underlying25 y y (lb y) fun a S=>leafL ⟨y,S⟩
 ·exact fM 5 none y y y y (.inl y) y y y
 ·refine fJ [(13,_)] 6 [some 5] fun G a w S=>?_
  exact nilCheck_ok (q:=⟨bb0,0,none⟩) S (wN y) y y y (lb y) fun a S=>leafL ⟨y,S⟩
 ·refine fJ [(14,_)] 7 [some 6] fun G a w S=>?_
  exact sField (b:=bb0) (off:=0) 0 0 S (wN y) y y y y y (lb y) fun a S=>leafL ⟨y,S⟩
 ·refine fJ [(15,_)] 8 [some 7] fun G a w S=>?_
  exact sField (b:=bb0) (off:=0) 0 0 S (wN y) y y y y y (lb y) fun a S=>leafL ⟨y,S⟩
 ·refine fJ [(16,_)] 9 [some 8] fun G a w S=>?_
  exact sLoad1 0 (iv p0.g.W) S (wN y) y y y y y y (lb y) fun a S=>leafL ⟨y,S⟩
 ·refine fJ [(12,_),(17,_)] 10 [some 4,some 9] fun G a w S=>?_
  exact sBin _ S (wN y) y y y (bEq _ _ _ _ .i64 (p0.l.length:Int) p0.g.W) y (lb y) fun a S=>leafL ⟨y,S⟩
 refine leafT (bq _ _ ?_)
 rcases iS h with ⟨aW,h⟩ | ⟨aW,h⟩
 rotate_left
 ·refine sCondF S y aW (wp_skip (leafT (bp _ _ ?_)))
  refine sSeq (fun bB aX=>sRegion (sM S fun a S=>?_))
  refine sBin _ S (wN y) y y y (bAdd _ _ _ _ p1 1) y (lb y) fun a S=>sM S fun a S=>?_
  refine nilCheck_ok (q:=⟨bb0,0,none⟩) S (wN y) y y y (lb y) fun a S=>sField (b:=bb0) (off:=0) 3 3 S (wN y) y y y y y (lb y) fun a S=>sLoad1 0 (iv p0.k) S (wN y) y y y y y y (lb y) fun a S=>sMin2 (p:=w64 (p1 + 1)) (q:=p0.k) S (wN y) y y y y (lb y) fun a S=>sM S fun a S=>?_
  refine lT (aX _ _ (wp_block ?_))
  obtain ⟨bC,hl,br⟩:=bS h
  refine sLoop hl (fun s0 a w=>match s0 with | (af,aJ,aK,aL,aA,ar,aM)=>∃ am,∃ ao,∃ ah,∃ ai,St [] E M9 w0 98 a w [(0,.pointer (some ⟨bb0,0,none⟩)),(1,iv p1),(63,iv (if p0.k < (w64 (p1 + 1)) then p0.k else w64 (p1 + 1))),(64,iv af)] [eBox bb0 68 [iv aJ,iv aK,.slice a2 p0.g.Bits.length a3,iv aL,.slice am aA.length ao,.slice ah ar.length ai,iv aM],eRow (rI .i64) 3 (.slice am aA.length ao) aA] [fRep (rL rB) (.slice a2 p0.g.Bits.length a3) p0.g.Bits,fRep (rLz (rI .i64)) (.slice ah ar.length ai) ar]) ⟨ad_0_1,cp_0_1,ak,al,S.fix [0,1] [0,1] (by decide) y y y⟩ ?_
  clear hl h
  intro s0 a w c0 hI h aZ
  obtain ⟨af,aJ,aK,aL,aA,ar,aM⟩:=s0
  unfold reduce_search_from_s5_l1 at h
  dsimp only at h hI
  obtain ⟨am,ao,ah,ai,S⟩:=hI
  refine sSeq (fun bD b1=>sRegion (sBin _ S (wN y) y y y (bLt _ _ _ _ .i64 af (if p0.k < (w64 (p1 + 1)) then p0.k else w64 (p1 + 1))) y (lb y) fun a S=>lT (b1 _ _ (sSeq (fun bE b3=>?_)))))
  rcases iS h with ⟨aC,h⟩ | ⟨aC,h⟩
  rotate_left
  ·refine sCondF S y aC ?_
   obtain rfl:=tS h
   obtain rfl:=aZ _ y
   have h:=br
   try dsimp only at h
   obtain rfl:=tS h
   exact wp_exit (xThen (xThen (xHit (sEnd (.tuple #[]) S (rsl0 y ) ⟨(am,ao,(.slice ah ar.length ai)),y,S.mem.sel [0,1] [1] (by decide) y y⟩))))
  refine sCondT S y aC (wp_skip (leafT (b3 _ _ ?_)))
  refine sSeq (fun bG b4=>wp_block ?_)
  refine sSeq (fun bH b5=>sRegion (sM S fun a S=>?_))
  refine sN S fun a S=>?_
  refine lT (b5 _ _ (sSeq (fun bI ba=>sRegion (sM S fun a S=>?_))))
  refine sM S fun a S=>?_
  refine nilCheck_ok (q:=⟨bb0,0,none⟩) S (wN y) y y y (lb y) fun a S=>sField (b:=bb0) (off:=0) 4 4 S (wN y) y y y y y (lb y) fun a S=>sLoad1 0 (.slice am aA.length ao) S (wN y) y y y y y y (lb y) fun a S=>sM S fun a S=>?_
  refine sLit (r:=(rI .i64)) (T:=3) (xs:=([af]:List Int)) [(0,iv af)] 1 [iv af] [iv af] (iv 0) 8 S (wN y) y y Try.underlying25 y (by decide) (by decide) (by kernel_rfl) y (fun E1 w1 hE=>All.cons y (All.nil _ _ _)) y y (lb y) fun a w aO aP S=>?_
  obtain ⟨aH,bb,h⟩:=bS h
  refine sApp (r:=(rI .i64)) (T:=3) (xs:=aA) (ys:=([af]:List Int)) (v:=.slice am aA.length ao) (u:=.slice aO ([af]:List Int).length aP) 2 (iv 0) 8 S (wN y) y Try.underlying25 y y (by decide) y y y (src_R (T:=3) 0 S.mem y) bb y (lb y) fun a w au av S=>nilCheck_ok (q:=⟨bb0,0,none⟩) S (wN y) y y y (lb y) fun a S=>sField (b:=bb0) (off:=0) 4 4 S (wN y) y y y y y (lb y) fun a S=>sStore (p:=bb0) (off:=4) (T:=68) (vs:=[iv aJ,iv aK,.slice a2 p0.g.Bits.length a3,iv aL,.slice am aA.length ao,.slice ah ar.length ai,iv aM]) (v:=.slice au aH.length av) 2 [.slice au aH.length av] S (wN y) y y y y y y y (by simp) y fun a w S=>lT (ba _ _ (sSeq (fun bJ bc=>sRegion (sM S fun a S=>?_))))
  refine sM S fun a S=>?_
  refine sM S fun a S=>?_
  refine sBin _ S (wN y) y y y (bAdd _ _ _ _ af 1) y (lb y) fun a S=>sMax2 (p:=p1) (q:=w64 (af + 1)) S (wN y) y y y y (lb y) fun a S=>?_
  obtain ⟨a4,bf,h⟩:=bS h
  refine sCall (X:=Option Addr × Nat × Value) (f:=41) (vs:=[.pointer (some ⟨bb0,0,none⟩),iv (if p1 < (w64 (af + 1)) then w64 (af + 1) else p1)]) (val:=fun _=>.tuple #[]) (B':=fun x=>[eBox bb0 68 [iv a4.g.W,iv a4.g.H,.slice a2 p0.g.Bits.length a3,iv a4.k,.slice x.1 a4.l.length x.2.1,x.2.2,iv a4.least],eRow (rI .i64) 3 (.slice x.1 a4.l.length x.2.1) a4.l]) (D':=fun x=>[fRep (rLz (rI .i64)) x.2.2 a4.best]) [eBox bb0 68 [iv aJ,iv aK,.slice a2 p0.g.Bits.length a3,iv aL,.slice au aH.length av,.slice ah ar.length ai,iv aM],eRow (rI .i64) 3 (.slice au aH.length av) aH] [eRow (rI .i64) 3 (.slice aO ([af]:List Int).length aP) ([af]:List Int)] [fRep (rL rB) (.slice a2 p0.g.Bits.length a3) p0.g.Bits,fRep (rLz (rI .i64)) (.slice ah ar.length ai) ar] [0,1,2] [0,1] S (wN y) y callee41 y (by decide) y y (fun E1 w1 S1=>c_reduce_search_from_s6 E1 w1 (reduce_search.mk (api_Grid.mk aJ aK p0.g.Bits) aL aH ar aM) bb0 (.slice a2 p0.g.Bits.length a3) au av (.slice ah ar.length ai) (if p1 < (w64 (af + 1)) then w64 (af + 1) else p1) a4 bf S1) y (lb y) fun xx a w S=>?_
  obtain ⟨a9,aa,bt⟩:=xx
  dsimp only at S
  obtain ⟨⟨aQ,aR,_,rfl,_⟩,_⟩:=S.mem.know (i:=0) (e:=fRep (rLz (rI .i64)) (bt) a4.best) y
  refine lT (bc _ _ ?_)
  obtain ⟨aS,bg,h⟩:=bS h
  refine sDraw (nf:=[11,14]) (W:=[(0,83,.pointer (some ⟨bb0,0,none⟩)),(1,84,.pointer (some ⟨bb0,0,none⟩)),(2,85,.pointer (some ⟨bb0,0,none⟩)),(3,86,.pointer (some ⟨bb0,4,none⟩)),(4,87,.slice a9 a4.l.length aa),(5,88,.pointer (some ⟨bb0,0,none⟩)),(6,89,.pointer (some ⟨bb0,0,none⟩)),(7,90,.pointer (some ⟨bb0,4,none⟩)),(8,91,.slice a9 a4.l.length aa),(9,92,iv (a4.l.length:Int)),(10,93,iv (w64 ((a4.l.length:Int) - 1)))]) y S ?_
  refine node_by (A:=anc_reduce_search_from_s5_2) 15 (by kernel_rfl) (by kernel_rfl) (by kernel_rfl) (by kernel_rfl) (by kernel_rfl) [0,1,2,3,4,5,6,7,8,9,10] (by kernel_rfl) (by decide) (by decide) (fF ?_ (fF ?_ (fF ?_ (fF ?_ (fF ?_ (fF ?_ (fF ?_ (fF ?_ (fF ?_ (fF ?_ (fF ?_ (fN ?_ (fE 11 (fE 11 (aB 14 0 11 (by decide) (trivial)))))))))))))))) [] (fun q hq=>by cases hq) (fun hY=>absurd (hY 11 (by decide)) (by decide))
  ·exact fM 0 none y y y y (.inl y) y y y
  ·exact fM 1 none y y y y (.inl y) y y y
  ·refine fJ [(84,_)] 2 [some 1] fun G a w S=>?_
   exact nilCheck_ok (q:=⟨bb0,0,none⟩) S (wN y) y y y (lb y) fun a S=>leafL ⟨y,S⟩
  ·refine fJ [(85,_)] 3 [some 2] fun G a w S=>?_
   exact sField (b:=bb0) (off:=0) 4 4 S (wN y) y y y y y (lb y) fun a S=>leafL ⟨y,S⟩
  ·refine fJ [(86,_)] 4 [some 3] fun G a w S=>?_
   exact sLoad1 0 (.slice a9 a4.l.length aa) S (wN y) y y y y y y (lb y) fun a S=>leafL ⟨y,S⟩
  ·exact fM 5 none y y y y (.inl y) y y y
  ·refine fJ [(88,_)] 6 [some 5] fun G a w S=>?_
   exact nilCheck_ok (q:=⟨bb0,0,none⟩) S (wN y) y y y (lb y) fun a S=>leafL ⟨y,S⟩
  ·refine fJ [(89,_)] 7 [some 6] fun G a w S=>?_
   exact sField (b:=bb0) (off:=0) 4 4 S (wN y) y y y y y (lb y) fun a S=>leafL ⟨y,S⟩
  ·refine fJ [(90,_)] 8 [some 7] fun G a w S=>?_
   exact sLoad1 0 (.slice a9 a4.l.length aa) S (wN y) y y y y y y (lb y) fun a S=>leafL ⟨y,S⟩
  ·refine fJ [(91,_)] 9 [some 8] fun G a w S=>?_
   exact sLen S (wN y) y Try.underlying25 y y (lb y) fun a S=>leafL ⟨y,S⟩
  ·refine fJ [(92,_)] 10 [some 9] fun G a w S=>?_
   exact sBin _ S (wN y) y y y (bSub _ _ _ _ (a4.l.length:Int) 1) y (lb y) fun a S=>leafL ⟨y,S⟩
  refine ⟨_,[(87,.slice a9 a4.l.length aa),(93,iv (w64 ((a4.l.length:Int) - 1)))],y,(srcs_of [some 4,some 10] y y y),fun G a w S=>?_⟩
  refine sSliceT (r:=(rI .i64)) (T:=3) (ad:=a9) (c:=aa) (xs:=a4.l) (vlo:=none) (vhi:=(some (.int .i64 (w64 ((a4.l.length:Int) - 1))))) (hi':=w64 ((a4.l.length:Int) - 1)) 1 S (wN y) y Try.underlying25 y y y y y (.inr y) (.inl y) bg y (lb y) fun a S=>?_
  refine leafL ⟨y,_,_,.inl ⟨94,(.slice a9 aS.length aa),[(12,95,.pointer (some ⟨bb0,0,none⟩)),(13,96,.pointer (some ⟨bb0,4,none⟩))],y,S,hz_of y,?_⟩⟩
  refine node_by (A:=anc_reduce_search_from_s5_2) 15 (by kernel_rfl) (by kernel_rfl) (by kernel_rfl) (by kernel_rfl) (by kernel_rfl) [12,13,11,0,1,2,3,4,5,6,7,8,9,10] (by kernel_rfl) (by decide) (by decide) (fF ?_ (fD 11 (fD 11 (fD 11 (fD 11 (fD 11 (fD 11 (fD 11 (fD 11 (fD 11 (fD 11 (fY (fF ?_ (fF ?_ (fN ?_ (trivial)))))))))))))))) [] (fun q hq=>by cases hq) (fun hY=>absurd (hY 14 (by decide)) (by decide))
  ·exact fM 3 none y y y y (.inl y) y y y
  ·refine fJ [(83,_)] 0 [some 3] fun G a w S=>?_
   exact nilCheck_ok (q:=⟨bb0,0,none⟩) S (wN y) y y y (lb y) fun a S=>leafL ⟨y,S⟩
  ·refine fJ [(95,_)] 1 [some 0] fun G a w S=>?_
   exact sField (b:=bb0) (off:=0) 4 4 S (wN y) y y y y y (lb y) fun a S=>leafL ⟨y,S⟩
  refine ⟨_,[(94,.slice a9 aS.length aa),(96,.pointer (some ⟨bb0,4,none⟩))],y,(srcs_of [some 2,some 1] y y y),fun G a w S=>?_⟩
  refine sStore (p:=bb0) (off:=4) (T:=68) (vs:=[iv a4.g.W,iv a4.g.H,.slice a2 p0.g.Bits.length a3,iv a4.k,.slice a9 a4.l.length aa,.slice aQ a4.best.length aR,iv a4.least]) (v:=.slice a9 aS.length aa) 1 [.slice a9 aS.length aa] S (wN y) y y y y y y y (by simp) y fun a w S=>leafL ⟨y,_,_,.inr ⟨[],y,S,hz_of y,?_⟩⟩
  refine node_by (A:=anc_reduce_search_from_s5_2) 15 (by kernel_rfl) (by kernel_rfl) (by kernel_rfl) (by kernel_rfl) (by kernel_rfl) [12,13,11,0,1,2,3,4,5,6,7,8,9,10] (by kernel_rfl) (by decide) (by decide) (fD 14 (fD 14 (fD 14 (fD 14 (fD 14 (fD 14 (fD 14 (fD 14 (fD 14 (fD 14 (fD 14 (fY (fD 14 (fD 14 (fY (trivial)))))))))))))))) [(0,.pointer (some ⟨bb0,0,none⟩)),(1,iv p1),(63,iv (if p0.k < (w64 (p1 + 1)) then p0.k else w64 (p1 + 1))),(64,iv af)] (fin_of [none,none,none,none] y (by kernel_rfl) (by kernel_rfl)) (fun _ a w S=>?_)
  refine leafB (leafT (b4 _ _ ?_))
  refine sRegion (sBin _ S (wN y) y y y (bAdd _ _ _ _ af 1) y (lb y) fun a S=>sM S fun a S=>?_)
  exact lT (⟨(w64 (af + 1),a4.g.W,a4.g.H,a4.k,aS,a4.best,a4.least),(Option.some.inj h).symm,⟨a9,aa,aQ,aR,S.fix [0,1] [1,0] (by decide) y y y⟩⟩)
 refine sCondT S y aW ?_
 obtain ⟨bu,h,bv⟩:=bS h
 refine sCut (fun a w=>∃ o8,∃ aI,∃ bh,(o8,aI,bh)=bu∧∃ aU,∃ ax,∃ ay,∃ az,St [] E M9 w0 98 a w [] [eBox bb0 68 [iv p0.g.W,iv p0.g.H,.slice a2 p0.g.Bits.length a3,iv p0.k,.slice aU o8.length ax,.slice ay aI.length az,iv bh],eRow (rI .i64) 3 (.slice aU o8.length ax) o8] [fRep (rL rB) (.slice a2 p0.g.Bits.length a3) p0.g.Bits,fRep (rLz (rI .i64)) (.slice ay aI.length az) aI]) ?_ (fun a w hI=>?_)
 rotate_left
 ·obtain ⟨o8,aI,bh,rfl,aU,ax,ay,az,S⟩:=hI
  have h:=bv
  try dsimp only at h
  obtain rfl:=tS h
  exact wp_ret (rThen (sRet (.tuple #[]) S (rsl0 y ) ⟨(aU,ax,(.slice ay aI.length az)),y,S.mem.sel [0,1] [1] (by decide) y y⟩))
 obtain ⟨bw,h,bx⟩:=bS h
 refine sCut (fun a w=>∃ aw,∃ aj,(aw,aj)=bw∧∃ a5,∃ a6,St [] E M9 w0 98 a w [(0,.pointer (some ⟨bb0,0,none⟩)),(5,iv aw)] [eBox bb0 68 [iv p0.g.W,iv p0.g.H,.slice a2 p0.g.Bits.length a3,iv p0.k,.slice a5 aj.length a6,.slice ak p0.best.length al,iv p0.least],eRow (rI .i64) 3 (.slice a5 aj.length a6) aj] [fRep (rL rB) (.slice a2 p0.g.Bits.length a3) p0.g.Bits,fRep (rLz (rI .i64)) (.slice ak p0.best.length al) p0.best]) ?_ (fun a w hI=>?_)
 rotate_left
 ·obtain ⟨aw,aj,rfl,a5,a6,S⟩:=hI
  have h:=bx
  try dsimp only at h
  obtain ⟨bz,h,bA⟩:=bS h
  refine sCut (fun a w=>∃ bi,bi=bz∧St [] E M9 w0 98 a w [(0,.pointer (some ⟨bb0,0,none⟩)),(5,iv aw),(44,.bool bi)] [eBox bb0 68 [iv p0.g.W,iv p0.g.H,.slice a2 p0.g.Bits.length a3,iv p0.k,.slice a5 aj.length a6,.slice ak p0.best.length al,iv p0.least],eRow (rI .i64) 3 (.slice a5 aj.length a6) aj] [fRep (rL rB) (.slice a2 p0.g.Bits.length a3) p0.g.Bits,fRep (rLz (rI .i64)) (.slice ak p0.best.length al) p0.best]) ?_ (fun a w hI=>?_)
  ·refine sRegion (sM S fun a S=>?_)
   refine nilCheck_ok (q:=⟨bb0,0,none⟩) S (wN y) y y y (lb y) fun a S=>sField (b:=bb0) (off:=0) 5 5 S (wN y) y y y y y (lb y) fun a S=>sLoad1 0 (.slice ak p0.best.length al) S (wN y) y y y y y y (lb y) fun a S=>sBin _ S (wN y) y y y (bEqNilZ _ _ _ _ Try.underlying25 ak (p0.best.length) (al) (rLz_is (S.mem.know (i:=1) (e:=fRep (rLz (rI .i64)) (.slice ak p0.best.length al) p0.best) y))) y (lb y) fun a S=>sM S fun a S=>?_
   rcases iS h with ⟨ae,h⟩ | ⟨ae,h⟩
   ·refine sSkN 6 5 false 37 S y y ae y fun a S=>sPickT (.bool true) S (wN y) y y ae y y (lb y) fun a S=>?_
    exact lT (⟨true,Option.some.inj h,S.fix [0,1] [0,1] (by decide) y y y⟩)
   refine sMove (iv aw) S (wG 5 false 37 y y y ae) (.inl y) y y (lb y) fun a S=>sMove (.pointer (some ⟨bb0,0,none⟩)) S (wG 5 false 37 y y y ae) (.inl y) y y (lb y) fun a S=>nilCheck_ok (q:=⟨bb0,0,none⟩) S (wG 5 false 37 y y y ae) y y y (lb y) fun a S=>sField (b:=bb0) (off:=0) 6 6 S (wG 5 false 37 y y y ae) y y y y y (lb y) fun a S=>sLoad1 0 (iv p0.least) S (wG 5 false 37 y y y ae) y y y y y y (lb y) fun a S=>sBin _ S (wG 5 false 37 y y y ae) y y y (bLt _ _ _ _ .i64 aw p0.least) y (lb y) fun a S=>sPickF (.bool (decide (aw < p0.least))) S (wN y) y y ae y y (lb y) fun a S=>?_
   exact lT (⟨decide (aw < p0.least),Option.some.inj h,S.fix [0,1] [0,1] (by decide) y y y⟩)
  obtain ⟨bi,rfl,S⟩:=hI
  have h:=bA
  try dsimp only at h
  rcases iS h with ⟨aG,h⟩ | ⟨aG,h⟩
  rotate_left
  ·refine sCondF S y aG ?_
   exact wp_skip (leafT (⟨aj,p0.best,p0.least,Option.some.inj h,a5,a6,ak,al,S.fix [0,1] [0,1] (by decide) y y y⟩))
  refine sCondT S y aG (sRegion (sM S fun a S=>?_))
  refine sM S fun a S=>?_
  refine sM S fun a S=>?_
  refine nilCheck_ok (q:=⟨bb0,0,none⟩) S (wN y) y y y (lb y) fun a S=>sField (b:=bb0) (off:=0) 4 4 S (wN y) y y y y y (lb y) fun a S=>sLoad1 0 (.slice a5 aj.length a6) S (wN y) y y y y y y (lb y) fun a S=>?_
  obtain ⟨ag,bj,h⟩:=bS h
  refine sCall (X:=Option Addr × Nat) (f:=49) (vs:=[.slice a5 aj.length a6]) (val:=fun x=>.slice x.1 ag.1.length x.2) (B':=fun x=>[eRow (rI .i64) 3 (.slice x.1 ag.1.length x.2) ag.1,eRow (rI .i64) 3 (.slice a5 aj.length a6) ag.2]) (D':=fun _=>[]) [eRow (rI .i64) 3 (.slice a5 aj.length a6) aj] [eBox bb0 68 [iv p0.g.W,iv p0.g.H,.slice a2 p0.g.Bits.length a3,iv p0.k,.slice a5 aj.length a6,.slice ak p0.best.length al,iv p0.least]] [] [1,0] [] S (wN y) y callee49 y (by decide) y y (fun E1 w1 S1=>c_slices_Clone___int_int__s1 E1 w1 aj a5 a6 ag bj S1) y (lb y) fun xx a w S=>?_
  obtain ⟨ap,aq⟩:=xx
  dsimp only at S
  have bk:=row_v (S.mem.hold (i:=1) (e:=eRow (rI .i64) 3 (.slice a5 aj.length a6) ag.2) y)
  rw [bk] at S
  refine sM S fun a S=>?_
  refine nilCheck_ok (q:=⟨bb0,0,none⟩) S (wN y) y y y (lb y) fun a S=>sField (b:=bb0) (off:=0) 5 5 S (wN y) y y y y y (lb y) fun a S=>?_
  have S:=S.shutR (r:=(rI .i64)) (T:=3) (v:=.slice ap ag.1.length aq) (xs:=ag.1) 0 y
  obtain ⟨bK,bl,h⟩:=bS h
  have S:=S.learn (fRep (rLz (rI .i64)) (.slice ap ag.1.length aq) ag.1) (rLz_of (S.mem.know (i:=0) (e:=fRep (rL (rI .i64)) (.slice ap ag.1.length aq) ag.1) y) bl)
  refine sStore (p:=bb0) (off:=5) (T:=68) (vs:=[iv p0.g.W,iv p0.g.H,.slice a2 p0.g.Bits.length a3,iv p0.k,.slice a5 ag.2.length a6,.slice ak p0.best.length al,iv p0.least]) (v:=.slice ap ag.1.length aq) 1 [.slice ap ag.1.length aq] S (wN y) y y y y y y y (by simp) y fun a w S=>nilCheck_ok (q:=⟨bb0,0,none⟩) S (wN y) y y y (lb y) fun a S=>sField (b:=bb0) (off:=0) 6 6 S (wN y) y y y y y (lb y) fun a S=>sStore (p:=bb0) (off:=6) (T:=68) (vs:=[iv p0.g.W,iv p0.g.H,.slice a2 p0.g.Bits.length a3,iv p0.k,.slice a5 ag.2.length a6,.slice ap ag.1.length aq,iv p0.least]) (v:=iv aw) 0 [iv aw] S (wN y) y y y y y y y (by simp) y fun a w S=>?_
  exact lT (⟨ag.2,ag.1,aw,Option.some.inj h,a5,a6,ap,aq,S.fix [0,1] [2,0] (by decide) y y y⟩)
 obtain ⟨a0,aT,h⟩:=bS h
 refine sDraw (nf:=[8,13,14]) (W:=[(0,20,.pointer (some ⟨bb0,0,none⟩)),(1,21,.pointer (some ⟨bb0,0,none⟩)),(2,22,.pointer (some ⟨bb0,0,none⟩)),(3,23,.agg #[iv p0.g.W,iv p0.g.H,.slice a2 p0.g.Bits.length a3]),(4,24,.pointer (some ⟨bb0,0,none⟩)),(5,25,.pointer (some ⟨bb0,0,none⟩)),(6,26,.pointer (some ⟨bb0,4,none⟩)),(7,27,.slice ad_0_1 p0.l.length cp_0_1)]) y S ?_
 refine node_by (A:=anc_reduce_search_from_s5_1) 17 (by kernel_rfl) (by kernel_rfl) (by kernel_rfl) (by kernel_rfl) (by kernel_rfl) [0,1,2,3,4,5,6,7] (by kernel_rfl) (by decide) (by decide) (fF ?_ (fF ?_ (fF ?_ (fF ?_ (fF ?_ (fF ?_ (fF ?_ (fF ?_ (fN ?_ (fE 8 (fE 8 (fE 8 (fE 8 (fN ?_ (aB 14 2 8 (by decide) (fE 8 (fE 8 (trivial)))))))))))))))))) [] (fun q hq=>by cases hq) (fun hY=>absurd (hY 8 (by decide)) (by decide))
 ·exact fM 0 none y y y y (.inl y) y y y
 ·refine fJ [(20,_)] 1 [some 0] fun G a w S=>?_
  exact nilCheck_ok (q:=⟨bb0,0,none⟩) S (wN y) y y y (lb y) fun a S=>leafL ⟨y,S⟩
 ·refine fJ [(21,_)] 2 [some 1] fun G a w S=>?_
  exact sField (b:=bb0) (off:=0) 0 0 S (wN y) y y y y y (lb y) fun a S=>leafL ⟨y,S⟩
 ·refine fJ [(22,_)] 3 [some 2] fun G a w S=>?_
  exact sLoadN (p:=bb0) (off:=0) (T:=68) (vs:=[iv p0.g.W,iv p0.g.H,.slice a2 p0.g.Bits.length a3,iv p0.k,.slice ad_0_1 p0.l.length cp_0_1,.slice ak p0.best.length al,iv p0.least]) 0 [iv p0.g.W,iv p0.g.H,.slice a2 p0.g.Bits.length a3] S (wN y) y y y y y y y (lb y) fun a S=>leafL ⟨y,S⟩
 ·exact fM 4 none y y y y (.inl y) y y y
 ·refine fJ [(24,_)] 5 [some 4] fun G a w S=>?_
  exact nilCheck_ok (q:=⟨bb0,0,none⟩) S (wN y) y y y (lb y) fun a S=>leafL ⟨y,S⟩
 ·refine fJ [(25,_)] 6 [some 5] fun G a w S=>?_
  exact sField (b:=bb0) (off:=0) 4 4 S (wN y) y y y y y (lb y) fun a S=>leafL ⟨y,S⟩
 ·refine fJ [(26,_)] 7 [some 6] fun G a w S=>?_
  exact sLoad1 0 (.slice ad_0_1 p0.l.length cp_0_1) S (wN y) y y y y y y (lb y) fun a S=>leafL ⟨y,S⟩
 ·refine ⟨_,[(23,.agg #[iv p0.g.W,iv p0.g.H,.slice a2 p0.g.Bits.length a3]),(27,.slice ad_0_1 p0.l.length cp_0_1)],y,(srcs_of [some 3,some 7] y y y),fun G a w S=>?_⟩
  have S:=S.learn (fRep r_api_Grid (.agg #[iv p0.g.W,iv p0.g.H,.slice a2 p0.g.Bits.length a3]) p0.g) ⟨_,y,S.mem.know (i:=0) (e:=fRep (rL rB) (.slice a2 p0.g.Bits.length a3) p0.g.Bits) y⟩
  refine sCall (X:=Option Addr × Nat) (f:=12) (vs:=[.agg #[iv p0.g.W,iv p0.g.H,.slice a2 p0.g.Bits.length a3],.slice ad_0_1 p0.l.length cp_0_1]) (val:=fun x=>.tuple #[.agg #[iv a0.1.W,iv a0.1.H,.slice x.1 a0.1.Bits.length x.2],iv a0.2.1,iv a0.2.2.1]) (B':=fun x=>[eRow rB 4 (.slice x.1 a0.1.Bits.length x.2) a0.1.Bits,eRow (rI .i64) 3 (.slice ad_0_1 p0.l.length cp_0_1) a0.2.2.2]) (D':=fun _=>[]) [eRow (rI .i64) 3 (.slice ad_0_1 p0.l.length cp_0_1) p0.l] [eBox bb0 68 [iv p0.g.W,iv p0.g.H,.slice a2 p0.g.Bits.length a3,iv p0.k,.slice ad_0_1 p0.l.length cp_0_1,.slice ak p0.best.length al,iv p0.least]] [fRep r_api_Grid (.agg #[iv p0.g.W,iv p0.g.H,.slice a2 p0.g.Bits.length a3]) p0.g] [1,0] [0] S (wN y) y callee12 y (by decide) y y (fun E1 w1 S1=>c_reduce_Change_s1 E1 w1 p0.g (.agg #[iv p0.g.W,iv p0.g.H,.slice a2 p0.g.Bits.length a3]) p0.l ad_0_1 cp_0_1 a0 aT S1) y (lb y) fun xx a w S=>?_
  obtain ⟨a7,a8⟩:=xx
  dsimp only at S
  refine leafL ⟨y,_,_,.inl ⟨28,(.tuple #[.agg #[iv a0.1.W,iv a0.1.H,.slice a7 a0.1.Bits.length a8],iv a0.2.1,iv a0.2.2.1]),[(9,19,.tuple #[.agg #[iv a0.1.W,iv a0.1.H,.slice a7 a0.1.Bits.length a8],iv a0.2.1,iv a0.2.2.1]),(10,29,.agg #[iv a0.1.W,iv a0.1.H,.slice a7 a0.1.Bits.length a8]),(11,30,iv a0.2.1),(12,31,iv a0.2.2.1)],y,S,hz_of y,?_⟩⟩
  refine node_by (A:=anc_reduce_search_from_s5_1) 17 (by kernel_rfl) (by kernel_rfl) (by kernel_rfl) (by kernel_rfl) (by kernel_rfl) [9,10,11,12,8,0,1,2,3,4,5,6,7] (by kernel_rfl) (by decide) (by decide) (fD 8 (fD 8 (fD 8 (fD 8 (fD 8 (fD 8 (fD 8 (fD 8 (fY (fF ?_ (fF ?_ (fF ?_ (fF ?_ (fN ?_ (aB 14 2 13 (by decide) (fE 13 (fE 13 (trivial)))))))))))))))))) [] (fun q hq=>by cases hq) (fun hY=>absurd (hY 13 (by decide)) (by decide))
  ·exact fM 0 (some 4) y y y y (.inl y) y y y
  ·refine fJ [(19,_)] 1 [some 0] fun G a w S=>?_
   exact sExtract (vs:=[.agg #[iv a0.1.W,iv a0.1.H,.slice a7 a0.1.Bits.length a8],iv a0.2.1,iv a0.2.2.1]) (.agg #[iv a0.1.W,iv a0.1.H,.slice a7 a0.1.Bits.length a8]) S (wN y) y y y y (lb y) fun a S=>leafL ⟨y,S⟩
  ·refine fJ [(19,_)] 2 [some 0] fun G a w S=>?_
   exact sExtract (vs:=[.agg #[iv a0.1.W,iv a0.1.H,.slice a7 a0.1.Bits.length a8],iv a0.2.1,iv a0.2.2.1]) (iv a0.2.1) S (wN y) y y y y (lb y) fun a S=>leafL ⟨y,S⟩
  ·refine fJ [(19,_)] 3 [some 0] fun G a w S=>?_
   exact sExtract (vs:=[.agg #[iv a0.1.W,iv a0.1.H,.slice a7 a0.1.Bits.length a8],iv a0.2.1,iv a0.2.2.1]) (iv a0.2.2.1) S (wN y) y y y y (lb y) fun a S=>leafL ⟨y,S⟩
  refine ⟨_,[],y,(srcs_of [] y y y),fun G a w S=>?_⟩
  refine sAlloc (.agg #[iv 0,iv 0,.slice none 0 0]) S (wN y) y y [iv 0,iv 0,.slice none 0 0] y y (lb y) fun a bm w S=>leafL ⟨y,_,_,.inl ⟨4,(.pointer (some ⟨bm,0,none⟩)),[],y,S,hz_of y,?_⟩⟩
  refine node_by (A:=anc_reduce_search_from_s5_1) 17 (by kernel_rfl) (by kernel_rfl) (by kernel_rfl) (by kernel_rfl) (by kernel_rfl) [13,9,10,11,12,8,0,1,2,3,4,5,6,7] (by kernel_rfl) (by decide) (by decide) (fD 8 (fD 8 (fD 8 (fD 8 (fD 8 (fD 8 (fD 8 (fD 8 (fY (fF ?_ (fF ?_ (fF ?_ (fF ?_ (fY (fN ?_ (fE 14 (fE 14 (trivial)))))))))))))))))) [] (fun q hq=>by cases hq) (fun hY=>absurd (hY 14 (by decide)) (by decide))
  ·exact fM 1 (some 5) y y y y (.inl y) y y y
  ·refine fJ [(19,_)] 2 [some 1] fun G a w S=>?_
   exact sExtract (vs:=[.agg #[iv a0.1.W,iv a0.1.H,.slice a7 a0.1.Bits.length a8],iv a0.2.1,iv a0.2.2.1]) (.agg #[iv a0.1.W,iv a0.1.H,.slice a7 a0.1.Bits.length a8]) S (wN y) y y y y (lb y) fun a S=>leafL ⟨y,S⟩
  ·refine fJ [(19,_)] 3 [some 1] fun G a w S=>?_
   exact sExtract (vs:=[.agg #[iv a0.1.W,iv a0.1.H,.slice a7 a0.1.Bits.length a8],iv a0.2.1,iv a0.2.2.1]) (iv a0.2.1) S (wN y) y y y y (lb y) fun a S=>leafL ⟨y,S⟩
  ·refine fJ [(19,_)] 4 [some 1] fun G a w S=>?_
   exact sExtract (vs:=[.agg #[iv a0.1.W,iv a0.1.H,.slice a7 a0.1.Bits.length a8],iv a0.2.1,iv a0.2.2.1]) (iv a0.2.2.1) S (wN y) y y y y (lb y) fun a S=>leafL ⟨y,S⟩
  refine ⟨_,[(4,.pointer (some ⟨bm,0,none⟩)),(29,.agg #[iv a0.1.W,iv a0.1.H,.slice a7 a0.1.Bits.length a8])],y,(srcs_of [some 0,some 2] y y y),fun G a w S=>?_⟩
  refine sStore (p:=bm) (off:=0) (T:=24) (vs:=[iv 0,iv 0,.slice none 0 0]) (v:=.agg #[iv a0.1.W,iv a0.1.H,.slice a7 a0.1.Bits.length a8]) 0 [iv a0.1.W,iv a0.1.H,.slice a7 a0.1.Bits.length a8] S (wN y) y y y y y y y (by simp) y fun a w S=>leafL ⟨y,_,_,.inr ⟨[(15,5,iv a0.2.1),(16,6,iv a0.2.2.1)],y,S,hz_of y,?_⟩⟩
  refine node_by (A:=anc_reduce_search_from_s5_1) 17 (by kernel_rfl) (by kernel_rfl) (by kernel_rfl) (by kernel_rfl) (by kernel_rfl) [15,16,13,9,10,11,12,8,0,1,2,3,4,5,6,7] (by kernel_rfl) (by decide) (by decide) (fD 14 (fD 14 (fD 14 (fD 14 (fD 14 (fD 14 (fD 14 (fD 14 (fY (fD 14 (fD 14 (fF ?_ (fF ?_ (fY (fY (fF ?_ (fF ?_ (trivial)))))))))))))))))) [(0,.pointer (some ⟨bb0,0,none⟩)),(5,iv a0.2.1)] (fin_of [none,some 0] y (by kernel_rfl) (by kernel_rfl)) (fun _ a w S=>?_)
  ·refine fJ [(19,_)] 5 [some 3] fun G a w S=>?_
   exact sExtract (vs:=[.agg #[iv a0.1.W,iv a0.1.H,.slice a7 a0.1.Bits.length a8],iv a0.2.1,iv a0.2.2.1]) (iv a0.2.1) S (wN y) y y y y (lb y) fun a S=>leafL ⟨y,S⟩
  ·refine fJ [(19,_)] 6 [some 3] fun G a w S=>?_
   exact sExtract (vs:=[.agg #[iv a0.1.W,iv a0.1.H,.slice a7 a0.1.Bits.length a8],iv a0.2.1,iv a0.2.2.1]) (iv a0.2.2.1) S (wN y) y y y y (lb y) fun a S=>leafL ⟨y,S⟩
  ·exact fM 0 (some 5) y y y y (.inr y) y y y
  ·exact fM 1 (some 6) y y y y (.inr y) y y y
  have bn:=row_v (S.mem.hold (i:=2) (e:=eRow (rI .i64) 3 (.slice ad_0_1 p0.l.length cp_0_1) a0.2.2.2) y)
  rw [bn] at S
  exact leafT (⟨a0.2.1,a0.2.2.2,Option.some.inj h,ad_0_1,cp_0_1,S.fix [3,2] [1,2] (by decide) y y y⟩)
 refine ⟨_,[],y,(srcs_of [] y y y),fun G a w S=>?_⟩
 refine sAlloc (.agg #[iv 0,iv 0,.slice none 0 0]) S (wN y) y y [iv 0,iv 0,.slice none 0 0] y y (lb y) fun a aV w S=>leafL ⟨y,_,_,.inl ⟨4,(.pointer (some ⟨aV,0,none⟩)),[],y,S,hz_of y,?_⟩⟩
 refine node_by (A:=anc_reduce_search_from_s5_1) 17 (by kernel_rfl) (by kernel_rfl) (by kernel_rfl) (by kernel_rfl) (by kernel_rfl) [13,0,1,2,3,4,5,6,7] (by kernel_rfl) (by decide) (by decide) (fF ?_ (fF ?_ (fF ?_ (fF ?_ (fF ?_ (fF ?_ (fF ?_ (fF ?_ (fN ?_ (fE 8 (fE 8 (fE 8 (fE 8 (fY (aB 14 2 8 (by decide) (fE 8 (fE 8 (trivial)))))))))))))))))) [] (fun q hq=>by cases hq) (fun hY=>absurd (hY 8 (by decide)) (by decide))
 ·exact fM 1 none y y y y (.inl y) y y y
 ·refine fJ [(20,_)] 2 [some 1] fun G a w S=>?_
  exact nilCheck_ok (q:=⟨bb0,0,none⟩) S (wN y) y y y (lb y) fun a S=>leafL ⟨y,S⟩
 ·refine fJ [(21,_)] 3 [some 2] fun G a w S=>?_
  exact sField (b:=bb0) (off:=0) 0 0 S (wN y) y y y y y (lb y) fun a S=>leafL ⟨y,S⟩
 ·refine fJ [(22,_)] 4 [some 3] fun G a w S=>?_
  exact sLoadN (p:=bb0) (off:=0) (T:=68) (vs:=[iv p0.g.W,iv p0.g.H,.slice a2 p0.g.Bits.length a3,iv p0.k,.slice ad_0_1 p0.l.length cp_0_1,.slice ak p0.best.length al,iv p0.least]) 1 [iv p0.g.W,iv p0.g.H,.slice a2 p0.g.Bits.length a3] S (wN y) y y y y y y y (lb y) fun a S=>leafL ⟨y,S⟩
 ·exact fM 5 none y y y y (.inl y) y y y
 ·refine fJ [(24,_)] 6 [some 5] fun G a w S=>?_
  exact nilCheck_ok (q:=⟨bb0,0,none⟩) S (wN y) y y y (lb y) fun a S=>leafL ⟨y,S⟩
 ·refine fJ [(25,_)] 7 [some 6] fun G a w S=>?_
  exact sField (b:=bb0) (off:=0) 4 4 S (wN y) y y y y y (lb y) fun a S=>leafL ⟨y,S⟩
 ·refine fJ [(26,_)] 8 [some 7] fun G a w S=>?_
  exact sLoad1 1 (.slice ad_0_1 p0.l.length cp_0_1) S (wN y) y y y y y y (lb y) fun a S=>leafL ⟨y,S⟩
 refine ⟨_,[(23,.agg #[iv p0.g.W,iv p0.g.H,.slice a2 p0.g.Bits.length a3]),(27,.slice ad_0_1 p0.l.length cp_0_1)],y,(srcs_of [some 4,some 8] y y y),fun G a w S=>?_⟩
 have S:=S.learn (fRep r_api_Grid (.agg #[iv p0.g.W,iv p0.g.H,.slice a2 p0.g.Bits.length a3]) p0.g) ⟨_,y,S.mem.know (i:=0) (e:=fRep (rL rB) (.slice a2 p0.g.Bits.length a3) p0.g.Bits) y⟩
 refine sCall (X:=Option Addr × Nat) (f:=12) (vs:=[.agg #[iv p0.g.W,iv p0.g.H,.slice a2 p0.g.Bits.length a3],.slice ad_0_1 p0.l.length cp_0_1]) (val:=fun x=>.tuple #[.agg #[iv a0.1.W,iv a0.1.H,.slice x.1 a0.1.Bits.length x.2],iv a0.2.1,iv a0.2.2.1]) (B':=fun x=>[eRow rB 4 (.slice x.1 a0.1.Bits.length x.2) a0.1.Bits,eRow (rI .i64) 3 (.slice ad_0_1 p0.l.length cp_0_1) a0.2.2.2]) (D':=fun _=>[]) [eRow (rI .i64) 3 (.slice ad_0_1 p0.l.length cp_0_1) p0.l] [eBox aV 24 [iv 0,iv 0,.slice none 0 0],eBox bb0 68 [iv p0.g.W,iv p0.g.H,.slice a2 p0.g.Bits.length a3,iv p0.k,.slice ad_0_1 p0.l.length cp_0_1,.slice ak p0.best.length al,iv p0.least]] [fRep r_api_Grid (.agg #[iv p0.g.W,iv p0.g.H,.slice a2 p0.g.Bits.length a3]) p0.g] [2,0,1] [0] S (wN y) y callee12 y (by decide) y y (fun E1 w1 S1=>c_reduce_Change_s1 E1 w1 p0.g (.agg #[iv p0.g.W,iv p0.g.H,.slice a2 p0.g.Bits.length a3]) p0.l ad_0_1 cp_0_1 a0 aT S1) y (lb y) fun xx a w S=>?_
 obtain ⟨ab,ac⟩:=xx
 dsimp only at S
 refine leafL ⟨y,_,_,.inl ⟨28,(.tuple #[.agg #[iv a0.1.W,iv a0.1.H,.slice ab a0.1.Bits.length ac],iv a0.2.1,iv a0.2.2.1]),[(9,19,.tuple #[.agg #[iv a0.1.W,iv a0.1.H,.slice ab a0.1.Bits.length ac],iv a0.2.1,iv a0.2.2.1]),(10,29,.agg #[iv a0.1.W,iv a0.1.H,.slice ab a0.1.Bits.length ac]),(11,30,iv a0.2.1),(12,31,iv a0.2.2.1)],y,S,hz_of y,?_⟩⟩
 refine node_by (A:=anc_reduce_search_from_s5_1) 17 (by kernel_rfl) (by kernel_rfl) (by kernel_rfl) (by kernel_rfl) (by kernel_rfl) [9,10,11,12,8,13,0,1,2,3,4,5,6,7] (by kernel_rfl) (by decide) (by decide) (fD 8 (fD 8 (fD 8 (fD 8 (fD 8 (fD 8 (fD 8 (fD 8 (fY (fF ?_ (fF ?_ (fF ?_ (fF ?_ (fY (fN ?_ (fE 14 (fE 14 (trivial)))))))))))))))))) [] (fun q hq=>by cases hq) (fun hY=>absurd (hY 14 (by decide)) (by decide))
 ·exact fM 0 (some 4) y y y y (.inl y) y y y
 ·refine fJ [(19,_)] 1 [some 0] fun G a w S=>?_
  exact sExtract (vs:=[.agg #[iv a0.1.W,iv a0.1.H,.slice ab a0.1.Bits.length ac],iv a0.2.1,iv a0.2.2.1]) (.agg #[iv a0.1.W,iv a0.1.H,.slice ab a0.1.Bits.length ac]) S (wN y) y y y y (lb y) fun a S=>leafL ⟨y,S⟩
 ·refine fJ [(19,_)] 2 [some 0] fun G a w S=>?_
  exact sExtract (vs:=[.agg #[iv a0.1.W,iv a0.1.H,.slice ab a0.1.Bits.length ac],iv a0.2.1,iv a0.2.2.1]) (iv a0.2.1) S (wN y) y y y y (lb y) fun a S=>leafL ⟨y,S⟩
 ·refine fJ [(19,_)] 3 [some 0] fun G a w S=>?_
  exact sExtract (vs:=[.agg #[iv a0.1.W,iv a0.1.H,.slice ab a0.1.Bits.length ac],iv a0.2.1,iv a0.2.2.1]) (iv a0.2.2.1) S (wN y) y y y y (lb y) fun a S=>leafL ⟨y,S⟩
 refine ⟨_,[(4,.pointer (some ⟨aV,0,none⟩)),(29,.agg #[iv a0.1.W,iv a0.1.H,.slice ab a0.1.Bits.length ac])],y,(srcs_of [some 5,some 1] y y y),fun G a w S=>?_⟩
 refine sStore (p:=aV) (off:=0) (T:=24) (vs:=[iv 0,iv 0,.slice none 0 0]) (v:=.agg #[iv a0.1.W,iv a0.1.H,.slice ab a0.1.Bits.length ac]) 2 [iv a0.1.W,iv a0.1.H,.slice ab a0.1.Bits.length ac] S (wN y) y y y y y y y (by simp) y fun a w S=>leafL ⟨y,_,_,.inr ⟨[(15,5,iv a0.2.1),(16,6,iv a0.2.2.1)],y,S,hz_of y,?_⟩⟩
 refine node_by (A:=anc_reduce_search_from_s5_1) 17 (by kernel_rfl) (by kernel_rfl) (by kernel_rfl) (by kernel_rfl) (by kernel_rfl) [15,16,9,10,11,12,8,13,0,1,2,3,4,5,6,7] (by kernel_rfl) (by decide) (by decide) (fD 14 (fD 14 (fD 14 (fD 14 (fD 14 (fD 14 (fD 14 (fD 14 (fY (fD 14 (fD 14 (fF ?_ (fF ?_ (fY (fY (fF ?_ (fF ?_ (trivial)))))))))))))))))) [(0,.pointer (some ⟨bb0,0,none⟩)),(5,iv a0.2.1)] (fin_of [none,some 0] y (by kernel_rfl) (by kernel_rfl)) (fun _ a w S=>?_)
 ·refine fJ [(19,_)] 4 [some 2] fun G a w S=>?_
  exact sExtract (vs:=[.agg #[iv a0.1.W,iv a0.1.H,.slice ab a0.1.Bits.length ac],iv a0.2.1,iv a0.2.2.1]) (iv a0.2.1) S (wN y) y y y y (lb y) fun a S=>leafL ⟨y,S⟩
 ·refine fJ [(19,_)] 5 [some 2] fun G a w S=>?_
  exact sExtract (vs:=[.agg #[iv a0.1.W,iv a0.1.H,.slice ab a0.1.Bits.length ac],iv a0.2.1,iv a0.2.2.1]) (iv a0.2.2.1) S (wN y) y y y y (lb y) fun a S=>leafL ⟨y,S⟩
 ·exact fM 0 (some 4) y y y y (.inr y) y y y
 ·exact fM 1 (some 5) y y y y (.inr y) y y y
 have bo:=row_v (S.mem.hold (i:=2) (e:=eRow (rI .i64) 3 (.slice ad_0_1 p0.l.length cp_0_1) a0.2.2.2) y)
 rw [bo] at S
 exact leafT (⟨a0.2.1,a0.2.2.2,Option.some.inj h,ad_0_1,cp_0_1,S.fix [3,2] [1,2] (by decide) y y y⟩)
def anc_reduce_search_from_s4_0:List (List Nat):=[[],[0],[0,1],[0,1,2],[0,1,2,3],[],[5],[5,6],[5,6,7],[5,6,7,8],[0,1,2,3,4,5,6,7,8,9]]
def anc_reduce_search_from_s4_1:List (List Nat):=[[],[0],[0,1],[0,1,2],[],[4],[4,5],[4,5,6],[0,1,2,3,4,5,6,7],[0,1,2,3,4,5,6,7,8],[0,1,2,3,4,5,6,7,8,9],[0,1,2,3,4,5,6,7,8,9],[0,1,2,3,4,5,6,7,8,9],[],[0,1,2,3,4,5,6,7,8,9,10,13],[0,1,2,3,4,5,6,7,8,9,10,11,13,14],[0,1,2,3,4,5,6,7,8,9,10,11,12,13,14,15]]
def anc_reduce_search_from_s4_2:List (List Nat):=[[],[],[1],[1,2],[1,2,3],[],[5],[5,6],[5,6,7],[5,6,7,8],[5,6,7,8,9],[1,2,3,4,5,6,7,8,9,10],[0,1,2,3,4,5,6,7,8,9,10,11],[0,1,2,3,4,5,6,7,8,9,10,11,12],[0,1,2,3,4,5,6,7,8,9,10,11,12,13]]
noncomputable def reduce_search_from_s4_l1 (p0:reduce_search) (p1:Int):(Int × Int × Int × Int × List Int × List Int × Int)→Option ((Int × Int × Int × Int × List Int × List Int × Int) ⊕ (Int × Int × Int × List Int × List Int × Int)):=fun s0=>match s0 with
 | (a2,a3,a4,a5,a6,a7,a8)=>
  if decide (a2 < (if p0.k < (w64 (p1 + 1)) then p0.k else w64 (p1 + 1))) then
   (appO a6 ([a2]:List Int)).bind fun a9=>
   (F_reduce_search_from_s5 (reduce_search.mk (api_Grid.mk a3 a4 p0.g.Bits) a5 a9 a7 a8) (if p1 < (w64 (a2 + 1)) then w64 (a2 + 1) else p1)).bind fun a0=>
   (sliceO a0.l 0 (w64 ((a0.l.length:Int) - 1))).bind fun aa=>
   some (.inl (w64 (a2 + 1),a0.g.W,a0.g.H,a0.k,aa,a0.best,a0.least))
  else
   some (.inr (a3,a4,a5,a6,a7,a8))
noncomputable def F_reduce_search_from_s4 (p0:reduce_search) (p1:Int):Option reduce_search:=
 if (p0.l.length:Int) == p0.g.W then
  Option.bind (α:=(List Int × List Int × Int)) (
   Option.bind (α:=(Int × List Int)) (
    (F_reduce_Change_s1 p0.g p0.l).bind fun a2=>
    some (a2.2.1,a2.2.2.2)) fun (a3,a4)=>
   Option.bind (α:=Bool) (
    if p0.best.isEmpty then
     some true
    else
     some (decide (a3 < p0.least))) fun a5=>
   if a5 then
    (F_slices_Clone___int_int__s1 a4).bind fun a0=>
    (neO a0.1).bind fun af=>
    some (a0.2,a0.1,a3)
   else
    some (a4,p0.best,p0.least)) fun (o8,a6,a7)=>
  some (reduce_search.mk p0.g p0.k o8 a6 a7)
 else
  (whileO (reduce_search_from_s4_l1 p0 p1) (0,p0.g.W,p0.g.H,p0.k,p0.l,p0.best,p0.least)).bind fun (a8,a9,aa,ab,ac,ae)=>
   some (reduce_search.mk (api_Grid.mk a8 a9 p0.g.Bits) aa ab ac ae)
theorem c_reduce_search_from_s4 (E:Nat→Prop) (w0:World) (p0:reduce_search) (bb0:Nat) (u_0_0:Value) (ad_0_1:Option Addr) (cp_0_1:Nat) (u_0_2:Value) (p1:Int) (r:reduce_search) (h:F_reduce_search_from_s4 p0 p1=some r) (S:St0 E (keysL [eBox bb0 68 [iv p0.g.W,iv p0.g.H,u_0_0,iv p0.k,.slice ad_0_1 p0.l.length cp_0_1,u_0_2,iv p0.least],eRow (rI .i64) 3 (.slice ad_0_1 p0.l.length cp_0_1) p0.l]) w0 w0 [eBox bb0 68 [iv p0.g.W,iv p0.g.H,u_0_0,iv p0.k,.slice ad_0_1 p0.l.length cp_0_1,u_0_2,iv p0.least],eRow (rI .i64) 3 (.slice ad_0_1 p0.l.length cp_0_1) p0.l] [fRep (rL rB) (u_0_0) p0.g.Bits,fRep (rLz (rI .i64)) (u_0_2) p0.best]) :
 Calls Try.prog 41 #[.pointer (some ⟨bb0,0,none⟩),iv p1] w0 (Ret (X:=Option Addr × Nat × Value) E (keysL [eBox bb0 68 [iv p0.g.W,iv p0.g.H,u_0_0,iv p0.k,.slice ad_0_1 p0.l.length cp_0_1,u_0_2,iv p0.least],eRow (rI .i64) 3 (.slice ad_0_1 p0.l.length cp_0_1) p0.l]) w0 (fun _=>.tuple #[]) (fun x=>[eBox bb0 68 [iv r.g.W,iv r.g.H,u_0_0,iv r.k,.slice x.1 r.l.length x.2.1,x.2.2,iv r.least],eRow (rI .i64) 3 (.slice x.1 r.l.length x.2.1) r.l]) (fun x=>[fRep (rLz (rI .i64)) x.2.2 r.best])):=by
 unfold F_reduce_search_from_s4 at h
 obtain ⟨a2,a3,_,rfl,_⟩:=S.know (i:=0) (e:=fRep (rL rB) (u_0_0) p0.g.Bits) y
 obtain ⟨⟨ak,al,_,rfl,_⟩,_⟩:=S.know (i:=1) (e:=fRep (rLz (rI .i64)) (u_0_2) p0.best) y
 generalize (keysL [eBox bb0 68 [iv p0.g.W,iv p0.g.H,.slice a2 p0.g.Bits.length a3,iv p0.k,.slice ad_0_1 p0.l.length cp_0_1,.slice ak p0.best.length al,iv p0.least],eRow (rI .i64) 3 (.slice ad_0_1 p0.l.length cp_0_1) p0.l])=M9 at S ⊢
 refine sEnter (args:=[.pointer (some ⟨bb0,0,none⟩),iv p1]) 98 Try.func41 y y (by simp) S (fun a S=>?_)
 refine sSeq (fun K5 bp=>sSeq (fun K6 bq=>sDraw (nf:=[]) (W:=[(0,8,.pointer (some ⟨bb0,0,none⟩)),(1,9,.pointer (some ⟨bb0,0,none⟩)),(2,10,.pointer (some ⟨bb0,4,none⟩)),(3,11,.slice ad_0_1 p0.l.length cp_0_1),(4,12,iv (p0.l.length:Int)),(5,13,.pointer (some ⟨bb0,0,none⟩)),(6,14,.pointer (some ⟨bb0,0,none⟩)),(7,15,.pointer (some ⟨bb0,0,none⟩)),(8,16,.pointer (some ⟨bb0,0,none⟩)),(9,17,iv p0.g.W),(10,18,.bool ((p0.l.length:Int) == p0.g.W))]) y S ?_))
 refine node_by (A:=anc_reduce_search_from_s4_0) 11 (by kernel_rfl) (by kernel_rfl) (by kernel_rfl) (by kernel_rfl) (by kernel_rfl) [0,1,2,3,4,5,6,7,8,9,10] (by kernel_rfl) (by decide) (by decide) (fF ?_ (fF ?_ (fF ?_ (fF ?_ (fF ?_ (fF ?_ (fF ?_ (fF ?_ (fF ?_ (fF ?_ (fF ?_ (trivial)))))))))))) [(0,.pointer (some ⟨bb0,0,none⟩)),(1,iv p1),(18,.bool ((p0.l.length:Int) == p0.g.W))] (fin_of [none,none,some 10] y (by kernel_rfl) (by kernel_rfl)) (fun _ a w S=>?_)
 ·exact fM 0 none y y y y (.inl y) y y y
 ·refine fJ [(8,_)] 1 [some 0] fun G a w S=>?_
  exact nilCheck_ok (q:=⟨bb0,0,none⟩) S (wN y) y y y (lb y) fun a S=>leafL ⟨y,S⟩
 ·refine fJ [(9,_)] 2 [some 1] fun G a w S=>?_
  exact sField (b:=bb0) (off:=0) 4 4 S (wN y) y y y y y (lb y) fun a S=>leafL ⟨y,S⟩
 ·refine fJ [(10,_)] 3 [some 2] fun G a w S=>?_
  exact sLoad1 0 (.slice ad_0_1 p0.l.length cp_0_1) S (wN y) y y y y y y (lb y) fun a S=>leafL ⟨y,S⟩
 ·refine fJ [(11,_)] 4 [some 3] fun G a w S=>?_
  exact sLen S (wN y) y Try.underlying25 y y (lb y) fun a S=>leafL ⟨y,S⟩
 ·exact fM 5 none y y y y (.inl y) y y y
 ·refine fJ [(13,_)] 6 [some 5] fun G a w S=>?_
  exact nilCheck_ok (q:=⟨bb0,0,none⟩) S (wN y) y y y (lb y) fun a S=>leafL ⟨y,S⟩
 ·refine fJ [(14,_)] 7 [some 6] fun G a w S=>?_
  exact sField (b:=bb0) (off:=0) 0 0 S (wN y) y y y y y (lb y) fun a S=>leafL ⟨y,S⟩
 ·refine fJ [(15,_)] 8 [some 7] fun G a w S=>?_
  exact sField (b:=bb0) (off:=0) 0 0 S (wN y) y y y y y (lb y) fun a S=>leafL ⟨y,S⟩
 ·refine fJ [(16,_)] 9 [some 8] fun G a w S=>?_
  exact sLoad1 0 (iv p0.g.W) S (wN y) y y y y y y (lb y) fun a S=>leafL ⟨y,S⟩
 ·refine fJ [(12,_),(17,_)] 10 [some 4,some 9] fun G a w S=>?_
  exact sBin _ S (wN y) y y y (bEq _ _ _ _ .i64 (p0.l.length:Int) p0.g.W) y (lb y) fun a S=>leafL ⟨y,S⟩
 refine leafT (bq _ _ ?_)
 rcases iS h with ⟨aW,h⟩ | ⟨aW,h⟩
 rotate_left
 ·refine sCondF S y aW (wp_skip (leafT (bp _ _ ?_)))
  refine sSeq (fun bB aX=>sRegion (sM S fun a S=>?_))
  refine sBin _ S (wN y) y y y (bAdd _ _ _ _ p1 1) y (lb y) fun a S=>sM S fun a S=>?_
  refine nilCheck_ok (q:=⟨bb0,0,none⟩) S (wN y) y y y (lb y) fun a S=>sField (b:=bb0) (off:=0) 3 3 S (wN y) y y y y y (lb y) fun a S=>sLoad1 0 (iv p0.k) S (wN y) y y y y y y (lb y) fun a S=>sMin2 (p:=w64 (p1 + 1)) (q:=p0.k) S (wN y) y y y y (lb y) fun a S=>sM S fun a S=>?_
  refine lT (aX _ _ (wp_block ?_))
  obtain ⟨bC,hl,br⟩:=bS h
  refine sLoop hl (fun s0 a w=>match s0 with | (af,aJ,aK,aL,aA,ar,aM)=>∃ am,∃ ao,∃ ah,∃ ai,St [] E M9 w0 98 a w [(0,.pointer (some ⟨bb0,0,none⟩)),(1,iv p1),(63,iv (if p0.k < (w64 (p1 + 1)) then p0.k else w64 (p1 + 1))),(64,iv af)] [eBox bb0 68 [iv aJ,iv aK,.slice a2 p0.g.Bits.length a3,iv aL,.slice am aA.length ao,.slice ah ar.length ai,iv aM],eRow (rI .i64) 3 (.slice am aA.length ao) aA] [fRep (rL rB) (.slice a2 p0.g.Bits.length a3) p0.g.Bits,fRep (rLz (rI .i64)) (.slice ah ar.length ai) ar]) ⟨ad_0_1,cp_0_1,ak,al,S.fix [0,1] [0,1] (by decide) y y y⟩ ?_
  clear hl h
  intro s0 a w c0 hI h aZ
  obtain ⟨af,aJ,aK,aL,aA,ar,aM⟩:=s0
  unfold reduce_search_from_s4_l1 at h
  dsimp only at h hI
  obtain ⟨am,ao,ah,ai,S⟩:=hI
  refine sSeq (fun bD b1=>sRegion (sBin _ S (wN y) y y y (bLt _ _ _ _ .i64 af (if p0.k < (w64 (p1 + 1)) then p0.k else w64 (p1 + 1))) y (lb y) fun a S=>lT (b1 _ _ (sSeq (fun bE b3=>?_)))))
  rcases iS h with ⟨aC,h⟩ | ⟨aC,h⟩
  rotate_left
  ·refine sCondF S y aC ?_
   obtain rfl:=tS h
   obtain rfl:=aZ _ y
   have h:=br
   try dsimp only at h
   obtain rfl:=tS h
   exact wp_exit (xThen (xThen (xHit (sEnd (.tuple #[]) S (rsl0 y ) ⟨(am,ao,(.slice ah ar.length ai)),y,S.mem.sel [0,1] [1] (by decide) y y⟩))))
  refine sCondT S y aC (wp_skip (leafT (b3 _ _ ?_)))
  refine sSeq (fun bG b4=>wp_block ?_)
  refine sSeq (fun bH b5=>sRegion (sM S fun a S=>?_))
  refine sN S fun a S=>?_
  refine lT (b5 _ _ (sSeq (fun bI ba=>sRegion (sM S fun a S=>?_))))
  refine sM S fun a S=>?_
  refine nilCheck_ok (q:=⟨bb0,0,none⟩) S (wN y) y y y (lb y) fun a S=>sField (b:=bb0) (off:=0) 4 4 S (wN y) y y y y y (lb y) fun a S=>sLoad1 0 (.slice am aA.length ao) S (wN y) y y y y y y (lb y) fun a S=>sM S fun a S=>?_
  refine sLit (r:=(rI .i64)) (T:=3) (xs:=([af]:List Int)) [(0,iv af)] 1 [iv af] [iv af] (iv 0) 8 S (wN y) y y Try.underlying25 y (by decide) (by decide) (by kernel_rfl) y (fun E1 w1 hE=>All.cons y (All.nil _ _ _)) y y (lb y) fun a w aO aP S=>?_
  obtain ⟨aH,bb,h⟩:=bS h
  refine sApp (r:=(rI .i64)) (T:=3) (xs:=aA) (ys:=([af]:List Int)) (v:=.slice am aA.length ao) (u:=.slice aO ([af]:List Int).length aP) 2 (iv 0) 8 S (wN y) y Try.underlying25 y y (by decide) y y y (src_R (T:=3) 0 S.mem y) bb y (lb y) fun a w au av S=>nilCheck_ok (q:=⟨bb0,0,none⟩) S (wN y) y y y (lb y) fun a S=>sField (b:=bb0) (off:=0) 4 4 S (wN y) y y y y y (lb y) fun a S=>sStore (p:=bb0) (off:=4) (T:=68) (vs:=[iv aJ,iv aK,.slice a2 p0.g.Bits.length a3,iv aL,.slice am aA.length ao,.slice ah ar.length ai,iv aM]) (v:=.slice au aH.length av) 2 [.slice au aH.length av] S (wN y) y y y y y y y (by simp) y fun a w S=>lT (ba _ _ (sSeq (fun bJ bc=>sRegion (sM S fun a S=>?_))))
  refine sM S fun a S=>?_
  refine sM S fun a S=>?_
  refine sBin _ S (wN y) y y y (bAdd _ _ _ _ af 1) y (lb y) fun a S=>sMax2 (p:=p1) (q:=w64 (af + 1)) S (wN y) y y y y (lb y) fun a S=>?_
  obtain ⟨a4,bf,h⟩:=bS h
  refine sCall (X:=Option Addr × Nat × Value) (f:=41) (vs:=[.pointer (some ⟨bb0,0,none⟩),iv (if p1 < (w64 (af + 1)) then w64 (af + 1) else p1)]) (val:=fun _=>.tuple #[]) (B':=fun x=>[eBox bb0 68 [iv a4.g.W,iv a4.g.H,.slice a2 p0.g.Bits.length a3,iv a4.k,.slice x.1 a4.l.length x.2.1,x.2.2,iv a4.least],eRow (rI .i64) 3 (.slice x.1 a4.l.length x.2.1) a4.l]) (D':=fun x=>[fRep (rLz (rI .i64)) x.2.2 a4.best]) [eBox bb0 68 [iv aJ,iv aK,.slice a2 p0.g.Bits.length a3,iv aL,.slice au aH.length av,.slice ah ar.length ai,iv aM],eRow (rI .i64) 3 (.slice au aH.length av) aH] [eRow (rI .i64) 3 (.slice aO ([af]:List Int).length aP) ([af]:List Int)] [fRep (rL rB) (.slice a2 p0.g.Bits.length a3) p0.g.Bits,fRep (rLz (rI .i64)) (.slice ah ar.length ai) ar] [0,1,2] [0,1] S (wN y) y callee41 y (by decide) y y (fun E1 w1 S1=>c_reduce_search_from_s5 E1 w1 (reduce_search.mk (api_Grid.mk aJ aK p0.g.Bits) aL aH ar aM) bb0 (.slice a2 p0.g.Bits.length a3) au av (.slice ah ar.length ai) (if p1 < (w64 (af + 1)) then w64 (af + 1) else p1) a4 bf S1) y (lb y) fun xx a w S=>?_
  obtain ⟨a9,aa,bt⟩:=xx
  dsimp only at S
  obtain ⟨⟨aQ,aR,_,rfl,_⟩,_⟩:=S.mem.know (i:=0) (e:=fRep (rLz (rI .i64)) (bt) a4.best) y
  refine lT (bc _ _ ?_)
  obtain ⟨aS,bg,h⟩:=bS h
  refine sDraw (nf:=[11,14]) (W:=[(0,83,.pointer (some ⟨bb0,0,none⟩)),(1,84,.pointer (some ⟨bb0,0,none⟩)),(2,85,.pointer (some ⟨bb0,0,none⟩)),(3,86,.pointer (some ⟨bb0,4,none⟩)),(4,87,.slice a9 a4.l.length aa),(5,88,.pointer (some ⟨bb0,0,none⟩)),(6,89,.pointer (some ⟨bb0,0,none⟩)),(7,90,.pointer (some ⟨bb0,4,none⟩)),(8,91,.slice a9 a4.l.length aa),(9,92,iv (a4.l.length:Int)),(10,93,iv (w64 ((a4.l.length:Int) - 1)))]) y S ?_
  refine node_by (A:=anc_reduce_search_from_s4_2) 15 (by kernel_rfl) (by kernel_rfl) (by kernel_rfl) (by kernel_rfl) (by kernel_rfl) [0,1,2,3,4,5,6,7,8,9,10] (by kernel_rfl) (by decide) (by decide) (fF ?_ (fF ?_ (fF ?_ (fF ?_ (fF ?_ (fF ?_ (fF ?_ (fF ?_ (fF ?_ (fF ?_ (fF ?_ (fN ?_ (fE 11 (fE 11 (aB 14 0 11 (by decide) (trivial)))))))))))))))) [] (fun q hq=>by cases hq) (fun hY=>absurd (hY 11 (by decide)) (by decide))
  ·exact fM 0 none y y y y (.inl y) y y y
  ·exact fM 1 none y y y y (.inl y) y y y
  ·refine fJ [(84,_)] 2 [some 1] fun G a w S=>?_
   exact nilCheck_ok (q:=⟨bb0,0,none⟩) S (wN y) y y y (lb y) fun a S=>leafL ⟨y,S⟩
  ·refine fJ [(85,_)] 3 [some 2] fun G a w S=>?_
   exact sField (b:=bb0) (off:=0) 4 4 S (wN y) y y y y y (lb y) fun a S=>leafL ⟨y,S⟩
  ·refine fJ [(86,_)] 4 [some 3] fun G a w S=>?_
   exact sLoad1 0 (.slice a9 a4.l.length aa) S (wN y) y y y y y y (lb y) fun a S=>leafL ⟨y,S⟩
  ·exact fM 5 none y y y y (.inl y) y y y
  ·refine fJ [(88,_)] 6 [some 5] fun G a w S=>?_
   exact nilCheck_ok (q:=⟨bb0,0,none⟩) S (wN y) y y y (lb y) fun a S=>leafL ⟨y,S⟩
  ·refine fJ [(89,_)] 7 [some 6] fun G a w S=>?_
   exact sField (b:=bb0) (off:=0) 4 4 S (wN y) y y y y y (lb y) fun a S=>leafL ⟨y,S⟩
  ·refine fJ [(90,_)] 8 [some 7] fun G a w S=>?_
   exact sLoad1 0 (.slice a9 a4.l.length aa) S (wN y) y y y y y y (lb y) fun a S=>leafL ⟨y,S⟩
  ·refine fJ [(91,_)] 9 [some 8] fun G a w S=>?_
   exact sLen S (wN y) y Try.underlying25 y y (lb y) fun a S=>leafL ⟨y,S⟩
  ·refine fJ [(92,_)] 10 [some 9] fun G a w S=>?_
   exact sBin _ S (wN y) y y y (bSub _ _ _ _ (a4.l.length:Int) 1) y (lb y) fun a S=>leafL ⟨y,S⟩
  refine ⟨_,[(87,.slice a9 a4.l.length aa),(93,iv (w64 ((a4.l.length:Int) - 1)))],y,(srcs_of [some 4,some 10] y y y),fun G a w S=>?_⟩
  refine sSliceT (r:=(rI .i64)) (T:=3) (ad:=a9) (c:=aa) (xs:=a4.l) (vlo:=none) (vhi:=(some (.int .i64 (w64 ((a4.l.length:Int) - 1))))) (hi':=w64 ((a4.l.length:Int) - 1)) 1 S (wN y) y Try.underlying25 y y y y y (.inr y) (.inl y) bg y (lb y) fun a S=>?_
  refine leafL ⟨y,_,_,.inl ⟨94,(.slice a9 aS.length aa),[(12,95,.pointer (some ⟨bb0,0,none⟩)),(13,96,.pointer (some ⟨bb0,4,none⟩))],y,S,hz_of y,?_⟩⟩
  refine node_by (A:=anc_reduce_search_from_s4_2) 15 (by kernel_rfl) (by kernel_rfl) (by kernel_rfl) (by kernel_rfl) (by kernel_rfl) [12,13,11,0,1,2,3,4,5,6,7,8,9,10] (by kernel_rfl) (by decide) (by decide) (fF ?_ (fD 11 (fD 11 (fD 11 (fD 11 (fD 11 (fD 11 (fD 11 (fD 11 (fD 11 (fD 11 (fY (fF ?_ (fF ?_ (fN ?_ (trivial)))))))))))))))) [] (fun q hq=>by cases hq) (fun hY=>absurd (hY 14 (by decide)) (by decide))
  ·exact fM 3 none y y y y (.inl y) y y y
  ·refine fJ [(83,_)] 0 [some 3] fun G a w S=>?_
   exact nilCheck_ok (q:=⟨bb0,0,none⟩) S (wN y) y y y (lb y) fun a S=>leafL ⟨y,S⟩
  ·refine fJ [(95,_)] 1 [some 0] fun G a w S=>?_
   exact sField (b:=bb0) (off:=0) 4 4 S (wN y) y y y y y (lb y) fun a S=>leafL ⟨y,S⟩
  refine ⟨_,[(94,.slice a9 aS.length aa),(96,.pointer (some ⟨bb0,4,none⟩))],y,(srcs_of [some 2,some 1] y y y),fun G a w S=>?_⟩
  refine sStore (p:=bb0) (off:=4) (T:=68) (vs:=[iv a4.g.W,iv a4.g.H,.slice a2 p0.g.Bits.length a3,iv a4.k,.slice a9 a4.l.length aa,.slice aQ a4.best.length aR,iv a4.least]) (v:=.slice a9 aS.length aa) 1 [.slice a9 aS.length aa] S (wN y) y y y y y y y (by simp) y fun a w S=>leafL ⟨y,_,_,.inr ⟨[],y,S,hz_of y,?_⟩⟩
  refine node_by (A:=anc_reduce_search_from_s4_2) 15 (by kernel_rfl) (by kernel_rfl) (by kernel_rfl) (by kernel_rfl) (by kernel_rfl) [12,13,11,0,1,2,3,4,5,6,7,8,9,10] (by kernel_rfl) (by decide) (by decide) (fD 14 (fD 14 (fD 14 (fD 14 (fD 14 (fD 14 (fD 14 (fD 14 (fD 14 (fD 14 (fD 14 (fY (fD 14 (fD 14 (fY (trivial)))))))))))))))) [(0,.pointer (some ⟨bb0,0,none⟩)),(1,iv p1),(63,iv (if p0.k < (w64 (p1 + 1)) then p0.k else w64 (p1 + 1))),(64,iv af)] (fin_of [none,none,none,none] y (by kernel_rfl) (by kernel_rfl)) (fun _ a w S=>?_)
  refine leafB (leafT (b4 _ _ ?_))
  refine sRegion (sBin _ S (wN y) y y y (bAdd _ _ _ _ af 1) y (lb y) fun a S=>sM S fun a S=>?_)
  exact lT (⟨(w64 (af + 1),a4.g.W,a4.g.H,a4.k,aS,a4.best,a4.least),(Option.some.inj h).symm,⟨a9,aa,aQ,aR,S.fix [0,1] [1,0] (by decide) y y y⟩⟩)
 refine sCondT S y aW ?_
 obtain ⟨bu,h,bv⟩:=bS h
 refine sCut (fun a w=>∃ o8,∃ aI,∃ bh,(o8,aI,bh)=bu∧∃ aU,∃ ax,∃ ay,∃ az,St [] E M9 w0 98 a w [] [eBox bb0 68 [iv p0.g.W,iv p0.g.H,.slice a2 p0.g.Bits.length a3,iv p0.k,.slice aU o8.length ax,.slice ay aI.length az,iv bh],eRow (rI .i64) 3 (.slice aU o8.length ax) o8] [fRep (rL rB) (.slice a2 p0.g.Bits.length a3) p0.g.Bits,fRep (rLz (rI .i64)) (.slice ay aI.length az) aI]) ?_ (fun a w hI=>?_)
 rotate_left
 ·obtain ⟨o8,aI,bh,rfl,aU,ax,ay,az,S⟩:=hI
  have h:=bv
  try dsimp only at h
  obtain rfl:=tS h
  exact wp_ret (rThen (sRet (.tuple #[]) S (rsl0 y ) ⟨(aU,ax,(.slice ay aI.length az)),y,S.mem.sel [0,1] [1] (by decide) y y⟩))
 obtain ⟨bw,h,bx⟩:=bS h
 refine sCut (fun a w=>∃ aw,∃ aj,(aw,aj)=bw∧∃ a5,∃ a6,St [] E M9 w0 98 a w [(0,.pointer (some ⟨bb0,0,none⟩)),(5,iv aw)] [eBox bb0 68 [iv p0.g.W,iv p0.g.H,.slice a2 p0.g.Bits.length a3,iv p0.k,.slice a5 aj.length a6,.slice ak p0.best.length al,iv p0.least],eRow (rI .i64) 3 (.slice a5 aj.length a6) aj] [fRep (rL rB) (.slice a2 p0.g.Bits.length a3) p0.g.Bits,fRep (rLz (rI .i64)) (.slice ak p0.best.length al) p0.best]) ?_ (fun a w hI=>?_)
 rotate_left
 ·obtain ⟨aw,aj,rfl,a5,a6,S⟩:=hI
  have h:=bx
  try dsimp only at h
  obtain ⟨bz,h,bA⟩:=bS h
  refine sCut (fun a w=>∃ bi,bi=bz∧St [] E M9 w0 98 a w [(0,.pointer (some ⟨bb0,0,none⟩)),(5,iv aw),(44,.bool bi)] [eBox bb0 68 [iv p0.g.W,iv p0.g.H,.slice a2 p0.g.Bits.length a3,iv p0.k,.slice a5 aj.length a6,.slice ak p0.best.length al,iv p0.least],eRow (rI .i64) 3 (.slice a5 aj.length a6) aj] [fRep (rL rB) (.slice a2 p0.g.Bits.length a3) p0.g.Bits,fRep (rLz (rI .i64)) (.slice ak p0.best.length al) p0.best]) ?_ (fun a w hI=>?_)
  ·refine sRegion (sM S fun a S=>?_)
   refine nilCheck_ok (q:=⟨bb0,0,none⟩) S (wN y) y y y (lb y) fun a S=>sField (b:=bb0) (off:=0) 5 5 S (wN y) y y y y y (lb y) fun a S=>sLoad1 0 (.slice ak p0.best.length al) S (wN y) y y y y y y (lb y) fun a S=>sBin _ S (wN y) y y y (bEqNilZ _ _ _ _ Try.underlying25 ak (p0.best.length) (al) (rLz_is (S.mem.know (i:=1) (e:=fRep (rLz (rI .i64)) (.slice ak p0.best.length al) p0.best) y))) y (lb y) fun a S=>sM S fun a S=>?_
   rcases iS h with ⟨ae,h⟩ | ⟨ae,h⟩
   ·refine sSkN 6 5 false 37 S y y ae y fun a S=>sPickT (.bool true) S (wN y) y y ae y y (lb y) fun a S=>?_
    exact lT (⟨true,Option.some.inj h,S.fix [0,1] [0,1] (by decide) y y y⟩)
   refine sMove (iv aw) S (wG 5 false 37 y y y ae) (.inl y) y y (lb y) fun a S=>sMove (.pointer (some ⟨bb0,0,none⟩)) S (wG 5 false 37 y y y ae) (.inl y) y y (lb y) fun a S=>nilCheck_ok (q:=⟨bb0,0,none⟩) S (wG 5 false 37 y y y ae) y y y (lb y) fun a S=>sField (b:=bb0) (off:=0) 6 6 S (wG 5 false 37 y y y ae) y y y y y (lb y) fun a S=>sLoad1 0 (iv p0.least) S (wG 5 false 37 y y y ae) y y y y y y (lb y) fun a S=>sBin _ S (wG 5 false 37 y y y ae) y y y (bLt _ _ _ _ .i64 aw p0.least) y (lb y) fun a S=>sPickF (.bool (decide (aw < p0.least))) S (wN y) y y ae y y (lb y) fun a S=>?_
   exact lT (⟨decide (aw < p0.least),Option.some.inj h,S.fix [0,1] [0,1] (by decide) y y y⟩)
  obtain ⟨bi,rfl,S⟩:=hI
  have h:=bA
  try dsimp only at h
  rcases iS h with ⟨aG,h⟩ | ⟨aG,h⟩
  rotate_left
  ·refine sCondF S y aG ?_
   exact wp_skip (leafT (⟨aj,p0.best,p0.least,Option.some.inj h,a5,a6,ak,al,S.fix [0,1] [0,1] (by decide) y y y⟩))
  refine sCondT S y aG (sRegion (sM S fun a S=>?_))
  refine sM S fun a S=>?_
  refine sM S fun a S=>?_
  refine nilCheck_ok (q:=⟨bb0,0,none⟩) S (wN y) y y y (lb y) fun a S=>sField (b:=bb0) (off:=0) 4 4 S (wN y) y y y y y (lb y) fun a S=>sLoad1 0 (.slice a5 aj.length a6) S (wN y) y y y y y y (lb y) fun a S=>?_
  obtain ⟨ag,bj,h⟩:=bS h
  refine sCall (X:=Option Addr × Nat) (f:=49) (vs:=[.slice a5 aj.length a6]) (val:=fun x=>.slice x.1 ag.1.length x.2) (B':=fun x=>[eRow (rI .i64) 3 (.slice x.1 ag.1.length x.2) ag.1,eRow (rI .i64) 3 (.slice a5 aj.length a6) ag.2]) (D':=fun _=>[]) [eRow (rI .i64) 3 (.slice a5 aj.length a6) aj] [eBox bb0 68 [iv p0.g.W,iv p0.g.H,.slice a2 p0.g.Bits.length a3,iv p0.k,.slice a5 aj.length a6,.slice ak p0.best.length al,iv p0.least]] [] [1,0] [] S (wN y) y callee49 y (by decide) y y (fun E1 w1 S1=>c_slices_Clone___int_int__s1 E1 w1 aj a5 a6 ag bj S1) y (lb y) fun xx a w S=>?_
  obtain ⟨ap,aq⟩:=xx
  dsimp only at S
  have bk:=row_v (S.mem.hold (i:=1) (e:=eRow (rI .i64) 3 (.slice a5 aj.length a6) ag.2) y)
  rw [bk] at S
  refine sM S fun a S=>?_
  refine nilCheck_ok (q:=⟨bb0,0,none⟩) S (wN y) y y y (lb y) fun a S=>sField (b:=bb0) (off:=0) 5 5 S (wN y) y y y y y (lb y) fun a S=>?_
  have S:=S.shutR (r:=(rI .i64)) (T:=3) (v:=.slice ap ag.1.length aq) (xs:=ag.1) 0 y
  obtain ⟨bK,bl,h⟩:=bS h
  have S:=S.learn (fRep (rLz (rI .i64)) (.slice ap ag.1.length aq) ag.1) (rLz_of (S.mem.know (i:=0) (e:=fRep (rL (rI .i64)) (.slice ap ag.1.length aq) ag.1) y) bl)
  refine sStore (p:=bb0) (off:=5) (T:=68) (vs:=[iv p0.g.W,iv p0.g.H,.slice a2 p0.g.Bits.length a3,iv p0.k,.slice a5 ag.2.length a6,.slice ak p0.best.length al,iv p0.least]) (v:=.slice ap ag.1.length aq) 1 [.slice ap ag.1.length aq] S (wN y) y y y y y y y (by simp) y fun a w S=>nilCheck_ok (q:=⟨bb0,0,none⟩) S (wN y) y y y (lb y) fun a S=>sField (b:=bb0) (off:=0) 6 6 S (wN y) y y y y y (lb y) fun a S=>sStore (p:=bb0) (off:=6) (T:=68) (vs:=[iv p0.g.W,iv p0.g.H,.slice a2 p0.g.Bits.length a3,iv p0.k,.slice a5 ag.2.length a6,.slice ap ag.1.length aq,iv p0.least]) (v:=iv aw) 0 [iv aw] S (wN y) y y y y y y y (by simp) y fun a w S=>?_
  exact lT (⟨ag.2,ag.1,aw,Option.some.inj h,a5,a6,ap,aq,S.fix [0,1] [2,0] (by decide) y y y⟩)
 obtain ⟨a0,aT,h⟩:=bS h
 refine sDraw (nf:=[8,13,14]) (W:=[(0,20,.pointer (some ⟨bb0,0,none⟩)),(1,21,.pointer (some ⟨bb0,0,none⟩)),(2,22,.pointer (some ⟨bb0,0,none⟩)),(3,23,.agg #[iv p0.g.W,iv p0.g.H,.slice a2 p0.g.Bits.length a3]),(4,24,.pointer (some ⟨bb0,0,none⟩)),(5,25,.pointer (some ⟨bb0,0,none⟩)),(6,26,.pointer (some ⟨bb0,4,none⟩)),(7,27,.slice ad_0_1 p0.l.length cp_0_1)]) y S ?_
 refine node_by (A:=anc_reduce_search_from_s4_1) 17 (by kernel_rfl) (by kernel_rfl) (by kernel_rfl) (by kernel_rfl) (by kernel_rfl) [0,1,2,3,4,5,6,7] (by kernel_rfl) (by decide) (by decide) (fF ?_ (fF ?_ (fF ?_ (fF ?_ (fF ?_ (fF ?_ (fF ?_ (fF ?_ (fN ?_ (fE 8 (fE 8 (fE 8 (fE 8 (fN ?_ (aB 14 2 8 (by decide) (fE 8 (fE 8 (trivial)))))))))))))))))) [] (fun q hq=>by cases hq) (fun hY=>absurd (hY 8 (by decide)) (by decide))
 ·exact fM 0 none y y y y (.inl y) y y y
 ·refine fJ [(20,_)] 1 [some 0] fun G a w S=>?_
  exact nilCheck_ok (q:=⟨bb0,0,none⟩) S (wN y) y y y (lb y) fun a S=>leafL ⟨y,S⟩
 ·refine fJ [(21,_)] 2 [some 1] fun G a w S=>?_
  exact sField (b:=bb0) (off:=0) 0 0 S (wN y) y y y y y (lb y) fun a S=>leafL ⟨y,S⟩
 ·refine fJ [(22,_)] 3 [some 2] fun G a w S=>?_
  exact sLoadN (p:=bb0) (off:=0) (T:=68) (vs:=[iv p0.g.W,iv p0.g.H,.slice a2 p0.g.Bits.length a3,iv p0.k,.slice ad_0_1 p0.l.length cp_0_1,.slice ak p0.best.length al,iv p0.least]) 0 [iv p0.g.W,iv p0.g.H,.slice a2 p0.g.Bits.length a3] S (wN y) y y y y y y y (lb y) fun a S=>leafL ⟨y,S⟩
 ·exact fM 4 none y y y y (.inl y) y y y
 ·refine fJ [(24,_)] 5 [some 4] fun G a w S=>?_
  exact nilCheck_ok (q:=⟨bb0,0,none⟩) S (wN y) y y y (lb y) fun a S=>leafL ⟨y,S⟩
 ·refine fJ [(25,_)] 6 [some 5] fun G a w S=>?_
  exact sField (b:=bb0) (off:=0) 4 4 S (wN y) y y y y y (lb y) fun a S=>leafL ⟨y,S⟩
 ·refine fJ [(26,_)] 7 [some 6] fun G a w S=>?_
  exact sLoad1 0 (.slice ad_0_1 p0.l.length cp_0_1) S (wN y) y y y y y y (lb y) fun a S=>leafL ⟨y,S⟩
 ·refine ⟨_,[(23,.agg #[iv p0.g.W,iv p0.g.H,.slice a2 p0.g.Bits.length a3]),(27,.slice ad_0_1 p0.l.length cp_0_1)],y,(srcs_of [some 3,some 7] y y y),fun G a w S=>?_⟩
  have S:=S.learn (fRep r_api_Grid (.agg #[iv p0.g.W,iv p0.g.H,.slice a2 p0.g.Bits.length a3]) p0.g) ⟨_,y,S.mem.know (i:=0) (e:=fRep (rL rB) (.slice a2 p0.g.Bits.length a3) p0.g.Bits) y⟩
  refine sCall (X:=Option Addr × Nat) (f:=12) (vs:=[.agg #[iv p0.g.W,iv p0.g.H,.slice a2 p0.g.Bits.length a3],.slice ad_0_1 p0.l.length cp_0_1]) (val:=fun x=>.tuple #[.agg #[iv a0.1.W,iv a0.1.H,.slice x.1 a0.1.Bits.length x.2],iv a0.2.1,iv a0.2.2.1]) (B':=fun x=>[eRow rB 4 (.slice x.1 a0.1.Bits.length x.2) a0.1.Bits,eRow (rI .i64) 3 (.slice ad_0_1 p0.l.length cp_0_1) a0.2.2.2]) (D':=fun _=>[]) [eRow (rI .i64) 3 (.slice ad_0_1 p0.l.length cp_0_1) p0.l] [eBox bb0 68 [iv p0.g.W,iv p0.g.H,.slice a2 p0.g.Bits.length a3,iv p0.k,.slice ad_0_1 p0.l.length cp_0_1,.slice ak p0.best.length al,iv p0.least]] [fRep r_api_Grid (.agg #[iv p0.g.W,iv p0.g.H,.slice a2 p0.g.Bits.length a3]) p0.g] [1,0] [0] S (wN y) y callee12 y (by decide) y y (fun E1 w1 S1=>c_reduce_Change_s1 E1 w1 p0.g (.agg #[iv p0.g.W,iv p0.g.H,.slice a2 p0.g.Bits.length a3]) p0.l ad_0_1 cp_0_1 a0 aT S1) y (lb y) fun xx a w S=>?_
  obtain ⟨a7,a8⟩:=xx
  dsimp only at S
  refine leafL ⟨y,_,_,.inl ⟨28,(.tuple #[.agg #[iv a0.1.W,iv a0.1.H,.slice a7 a0.1.Bits.length a8],iv a0.2.1,iv a0.2.2.1]),[(9,19,.tuple #[.agg #[iv a0.1.W,iv a0.1.H,.slice a7 a0.1.Bits.length a8],iv a0.2.1,iv a0.2.2.1]),(10,29,.agg #[iv a0.1.W,iv a0.1.H,.slice a7 a0.1.Bits.length a8]),(11,30,iv a0.2.1),(12,31,iv a0.2.2.1)],y,S,hz_of y,?_⟩⟩
  refine node_by (A:=anc_reduce_search_from_s4_1) 17 (by kernel_rfl) (by kernel_rfl) (by kernel_rfl) (by kernel_rfl) (by kernel_rfl) [9,10,11,12,8,0,1,2,3,4,5,6,7] (by kernel_rfl) (by decide) (by decide) (fD 8 (fD 8 (fD 8 (fD 8 (fD 8 (fD 8 (fD 8 (fD 8 (fY (fF ?_ (fF ?_ (fF ?_ (fF ?_ (fN ?_ (aB 14 2 13 (by decide) (fE 13 (fE 13 (trivial)))))))))))))))))) [] (fun q hq=>by cases hq) (fun hY=>absurd (hY 13 (by decide)) (by decide))
  ·exact fM 0 (some 4) y y y y (.inl y) y y y
  ·refine fJ [(19,_)] 1 [some 0] fun G a w S=>?_
   exact sExtract (vs:=[.agg #[iv a0.1.W,iv a0.1.H,.slice a7 a0.1.Bits.length a8],iv a0.2.1,iv a0.2.2.1]) (.agg #[iv a0.1.W,iv a0.1.H,.slice a7 a0.1.Bits.length a8]) S (wN y) y y y y (lb y) fun a S=>leafL ⟨y,S⟩
  ·refine fJ [(19,_)] 2 [some 0] fun G a w S=>?_
   exact sExtract (vs:=[.agg #[iv a0.1.W,iv a0.1.H,.slice a7 a0.1.Bits.length a8],iv a0.2.1,iv a0.2.2.1]) (iv a0.2.1) S (wN y) y y y y (lb y) fun a S=>leafL ⟨y,S⟩
  ·refine fJ [(19,_)] 3 [some 0] fun G a w S=>?_
   exact sExtract (vs:=[.agg #[iv a0.1.W,iv a0.1.H,.slice a7 a0.1.Bits.length a8],iv a0.2.1,iv a0.2.2.1]) (iv a0.2.2.1) S (wN y) y y y y (lb y) fun a S=>leafL ⟨y,S⟩
  refine ⟨_,[],y,(srcs_of [] y y y),fun G a w S=>?_⟩
  refine sAlloc (.agg #[iv 0,iv 0,.slice none 0 0]) S (wN y) y y [iv 0,iv 0,.slice none 0 0] y y (lb y) fun a bm w S=>leafL ⟨y,_,_,.inl ⟨4,(.pointer (some ⟨bm,0,none⟩)),[],y,S,hz_of y,?_⟩⟩
  refine node_by (A:=anc_reduce_search_from_s4_1) 17 (by kernel_rfl) (by kernel_rfl) (by kernel_rfl) (by kernel_rfl) (by kernel_rfl) [13,9,10,11,12,8,0,1,2,3,4,5,6,7] (by kernel_rfl) (by decide) (by decide) (fD 8 (fD 8 (fD 8 (fD 8 (fD 8 (fD 8 (fD 8 (fD 8 (fY (fF ?_ (fF ?_ (fF ?_ (fF ?_ (fY (fN ?_ (fE 14 (fE 14 (trivial)))))))))))))))))) [] (fun q hq=>by cases hq) (fun hY=>absurd (hY 14 (by decide)) (by decide))
  ·exact fM 1 (some 5) y y y y (.inl y) y y y
  ·refine fJ [(19,_)] 2 [some 1] fun G a w S=>?_
   exact sExtract (vs:=[.agg #[iv a0.1.W,iv a0.1.H,.slice a7 a0.1.Bits.length a8],iv a0.2.1,iv a0.2.2.1]) (.agg #[iv a0.1.W,iv a0.1.H,.slice a7 a0.1.Bits.length a8]) S (wN y) y y y y (lb y) fun a S=>leafL ⟨y,S⟩
  ·refine fJ [(19,_)] 3 [some 1] fun G a w S=>?_
   exact sExtract (vs:=[.agg #[iv a0.1.W,iv a0.1.H,.slice a7 a0.1.Bits.length a8],iv a0.2.1,iv a0.2.2.1]) (iv a0.2.1) S (wN y) y y y y (lb y) fun a S=>leafL ⟨y,S⟩
  ·refine fJ [(19,_)] 4 [some 1] fun G a w S=>?_
   exact sExtract (vs:=[.agg #[iv a0.1.W,iv a0.1.H,.slice a7 a0.1.Bits.length a8],iv a0.2.1,iv a0.2.2.1]) (iv a0.2.2.1) S (wN y) y y y y (lb y) fun a S=>leafL ⟨y,S⟩
  refine ⟨_,[(4,.pointer (some ⟨bm,0,none⟩)),(29,.agg #[iv a0.1.W,iv a0.1.H,.slice a7 a0.1.Bits.length a8])],y,(srcs_of [some 0,some 2] y y y),fun G a w S=>?_⟩
  refine sStore (p:=bm) (off:=0) (T:=24) (vs:=[iv 0,iv 0,.slice none 0 0]) (v:=.agg #[iv a0.1.W,iv a0.1.H,.slice a7 a0.1.Bits.length a8]) 0 [iv a0.1.W,iv a0.1.H,.slice a7 a0.1.Bits.length a8] S (wN y) y y y y y y y (by simp) y fun a w S=>leafL ⟨y,_,_,.inr ⟨[(15,5,iv a0.2.1),(16,6,iv a0.2.2.1)],y,S,hz_of y,?_⟩⟩
  refine node_by (A:=anc_reduce_search_from_s4_1) 17 (by kernel_rfl) (by kernel_rfl) (by kernel_rfl) (by kernel_rfl) (by kernel_rfl) [15,16,13,9,10,11,12,8,0,1,2,3,4,5,6,7] (by kernel_rfl) (by decide) (by decide) (fD 14 (fD 14 (fD 14 (fD 14 (fD 14 (fD 14 (fD 14 (fD 14 (fY (fD 14 (fD 14 (fF ?_ (fF ?_ (fY (fY (fF ?_ (fF ?_ (trivial)))))))))))))))))) [(0,.pointer (some ⟨bb0,0,none⟩)),(5,iv a0.2.1)] (fin_of [none,some 0] y (by kernel_rfl) (by kernel_rfl)) (fun _ a w S=>?_)
  ·refine fJ [(19,_)] 5 [some 3] fun G a w S=>?_
   exact sExtract (vs:=[.agg #[iv a0.1.W,iv a0.1.H,.slice a7 a0.1.Bits.length a8],iv a0.2.1,iv a0.2.2.1]) (iv a0.2.1) S (wN y) y y y y (lb y) fun a S=>leafL ⟨y,S⟩
  ·refine fJ [(19,_)] 6 [some 3] fun G a w S=>?_
   exact sExtract (vs:=[.agg #[iv a0.1.W,iv a0.1.H,.slice a7 a0.1.Bits.length a8],iv a0.2.1,iv a0.2.2.1]) (iv a0.2.2.1) S (wN y) y y y y (lb y) fun a S=>leafL ⟨y,S⟩
  ·exact fM 0 (some 5) y y y y (.inr y) y y y
  ·exact fM 1 (some 6) y y y y (.inr y) y y y
  have bn:=row_v (S.mem.hold (i:=2) (e:=eRow (rI .i64) 3 (.slice ad_0_1 p0.l.length cp_0_1) a0.2.2.2) y)
  rw [bn] at S
  exact leafT (⟨a0.2.1,a0.2.2.2,Option.some.inj h,ad_0_1,cp_0_1,S.fix [3,2] [1,2] (by decide) y y y⟩)
 refine ⟨_,[],y,(srcs_of [] y y y),fun G a w S=>?_⟩
 refine sAlloc (.agg #[iv 0,iv 0,.slice none 0 0]) S (wN y) y y [iv 0,iv 0,.slice none 0 0] y y (lb y) fun a aV w S=>leafL ⟨y,_,_,.inl ⟨4,(.pointer (some ⟨aV,0,none⟩)),[],y,S,hz_of y,?_⟩⟩
 refine node_by (A:=anc_reduce_search_from_s4_1) 17 (by kernel_rfl) (by kernel_rfl) (by kernel_rfl) (by kernel_rfl) (by kernel_rfl) [13,0,1,2,3,4,5,6,7] (by kernel_rfl) (by decide) (by decide) (fF ?_ (fF ?_ (fF ?_ (fF ?_ (fF ?_ (fF ?_ (fF ?_ (fF ?_ (fN ?_ (fE 8 (fE 8 (fE 8 (fE 8 (fY (aB 14 2 8 (by decide) (fE 8 (fE 8 (trivial)))))))))))))))))) [] (fun q hq=>by cases hq) (fun hY=>absurd (hY 8 (by decide)) (by decide))
 ·exact fM 1 none y y y y (.inl y) y y y
 ·refine fJ [(20,_)] 2 [some 1] fun G a w S=>?_
  exact nilCheck_ok (q:=⟨bb0,0,none⟩) S (wN y) y y y (lb y) fun a S=>leafL ⟨y,S⟩
 ·refine fJ [(21,_)] 3 [some 2] fun G a w S=>?_
  exact sField (b:=bb0) (off:=0) 0 0 S (wN y) y y y y y (lb y) fun a S=>leafL ⟨y,S⟩
 ·refine fJ [(22,_)] 4 [some 3] fun G a w S=>?_
  exact sLoadN (p:=bb0) (off:=0) (T:=68) (vs:=[iv p0.g.W,iv p0.g.H,.slice a2 p0.g.Bits.length a3,iv p0.k,.slice ad_0_1 p0.l.length cp_0_1,.slice ak p0.best.length al,iv p0.least]) 1 [iv p0.g.W,iv p0.g.H,.slice a2 p0.g.Bits.length a3] S (wN y) y y y y y y y (lb y) fun a S=>leafL ⟨y,S⟩
 ·exact fM 5 none y y y y (.inl y) y y y
 ·refine fJ [(24,_)] 6 [some 5] fun G a w S=>?_
  exact nilCheck_ok (q:=⟨bb0,0,none⟩) S (wN y) y y y (lb y) fun a S=>leafL ⟨y,S⟩
 ·refine fJ [(25,_)] 7 [some 6] fun G a w S=>?_
  exact sField (b:=bb0) (off:=0) 4 4 S (wN y) y y y y y (lb y) fun a S=>leafL ⟨y,S⟩
 ·refine fJ [(26,_)] 8 [some 7] fun G a w S=>?_
  exact sLoad1 1 (.slice ad_0_1 p0.l.length cp_0_1) S (wN y) y y y y y y (lb y) fun a S=>leafL ⟨y,S⟩
 refine ⟨_,[(23,.agg #[iv p0.g.W,iv p0.g.H,.slice a2 p0.g.Bits.length a3]),(27,.slice ad_0_1 p0.l.length cp_0_1)],y,(srcs_of [some 4,some 8] y y y),fun G a w S=>?_⟩
 have S:=S.learn (fRep r_api_Grid (.agg #[iv p0.g.W,iv p0.g.H,.slice a2 p0.g.Bits.length a3]) p0.g) ⟨_,y,S.mem.know (i:=0) (e:=fRep (rL rB) (.slice a2 p0.g.Bits.length a3) p0.g.Bits) y⟩
 refine sCall (X:=Option Addr × Nat) (f:=12) (vs:=[.agg #[iv p0.g.W,iv p0.g.H,.slice a2 p0.g.Bits.length a3],.slice ad_0_1 p0.l.length cp_0_1]) (val:=fun x=>.tuple #[.agg #[iv a0.1.W,iv a0.1.H,.slice x.1 a0.1.Bits.length x.2],iv a0.2.1,iv a0.2.2.1]) (B':=fun x=>[eRow rB 4 (.slice x.1 a0.1.Bits.length x.2) a0.1.Bits,eRow (rI .i64) 3 (.slice ad_0_1 p0.l.length cp_0_1) a0.2.2.2]) (D':=fun _=>[]) [eRow (rI .i64) 3 (.slice ad_0_1 p0.l.length cp_0_1) p0.l] [eBox aV 24 [iv 0,iv 0,.slice none 0 0],eBox bb0 68 [iv p0.g.W,iv p0.g.H,.slice a2 p0.g.Bits.length a3,iv p0.k,.slice ad_0_1 p0.l.length cp_0_1,.slice ak p0.best.length al,iv p0.least]] [fRep r_api_Grid (.agg #[iv p0.g.W,iv p0.g.H,.slice a2 p0.g.Bits.length a3]) p0.g] [2,0,1] [0] S (wN y) y callee12 y (by decide) y y (fun E1 w1 S1=>c_reduce_Change_s1 E1 w1 p0.g (.agg #[iv p0.g.W,iv p0.g.H,.slice a2 p0.g.Bits.length a3]) p0.l ad_0_1 cp_0_1 a0 aT S1) y (lb y) fun xx a w S=>?_
 obtain ⟨ab,ac⟩:=xx
 dsimp only at S
 refine leafL ⟨y,_,_,.inl ⟨28,(.tuple #[.agg #[iv a0.1.W,iv a0.1.H,.slice ab a0.1.Bits.length ac],iv a0.2.1,iv a0.2.2.1]),[(9,19,.tuple #[.agg #[iv a0.1.W,iv a0.1.H,.slice ab a0.1.Bits.length ac],iv a0.2.1,iv a0.2.2.1]),(10,29,.agg #[iv a0.1.W,iv a0.1.H,.slice ab a0.1.Bits.length ac]),(11,30,iv a0.2.1),(12,31,iv a0.2.2.1)],y,S,hz_of y,?_⟩⟩
 refine node_by (A:=anc_reduce_search_from_s4_1) 17 (by kernel_rfl) (by kernel_rfl) (by kernel_rfl) (by kernel_rfl) (by kernel_rfl) [9,10,11,12,8,13,0,1,2,3,4,5,6,7] (by kernel_rfl) (by decide) (by decide) (fD 8 (fD 8 (fD 8 (fD 8 (fD 8 (fD 8 (fD 8 (fD 8 (fY (fF ?_ (fF ?_ (fF ?_ (fF ?_ (fY (fN ?_ (fE 14 (fE 14 (trivial)))))))))))))))))) [] (fun q hq=>by cases hq) (fun hY=>absurd (hY 14 (by decide)) (by decide))
 ·exact fM 0 (some 4) y y y y (.inl y) y y y
 ·refine fJ [(19,_)] 1 [some 0] fun G a w S=>?_
  exact sExtract (vs:=[.agg #[iv a0.1.W,iv a0.1.H,.slice ab a0.1.Bits.length ac],iv a0.2.1,iv a0.2.2.1]) (.agg #[iv a0.1.W,iv a0.1.H,.slice ab a0.1.Bits.length ac]) S (wN y) y y y y (lb y) fun a S=>leafL ⟨y,S⟩
 ·refine fJ [(19,_)] 2 [some 0] fun G a w S=>?_
  exact sExtract (vs:=[.agg #[iv a0.1.W,iv a0.1.H,.slice ab a0.1.Bits.length ac],iv a0.2.1,iv a0.2.2.1]) (iv a0.2.1) S (wN y) y y y y (lb y) fun a S=>leafL ⟨y,S⟩
 ·refine fJ [(19,_)] 3 [some 0] fun G a w S=>?_
  exact sExtract (vs:=[.agg #[iv a0.1.W,iv a0.1.H,.slice ab a0.1.Bits.length ac],iv a0.2.1,iv a0.2.2.1]) (iv a0.2.2.1) S (wN y) y y y y (lb y) fun a S=>leafL ⟨y,S⟩
 refine ⟨_,[(4,.pointer (some ⟨aV,0,none⟩)),(29,.agg #[iv a0.1.W,iv a0.1.H,.slice ab a0.1.Bits.length ac])],y,(srcs_of [some 5,some 1] y y y),fun G a w S=>?_⟩
 refine sStore (p:=aV) (off:=0) (T:=24) (vs:=[iv 0,iv 0,.slice none 0 0]) (v:=.agg #[iv a0.1.W,iv a0.1.H,.slice ab a0.1.Bits.length ac]) 2 [iv a0.1.W,iv a0.1.H,.slice ab a0.1.Bits.length ac] S (wN y) y y y y y y y (by simp) y fun a w S=>leafL ⟨y,_,_,.inr ⟨[(15,5,iv a0.2.1),(16,6,iv a0.2.2.1)],y,S,hz_of y,?_⟩⟩
 refine node_by (A:=anc_reduce_search_from_s4_1) 17 (by kernel_rfl) (by kernel_rfl) (by kernel_rfl) (by kernel_rfl) (by kernel_rfl) [15,16,9,10,11,12,8,13,0,1,2,3,4,5,6,7] (by kernel_rfl) (by decide) (by decide) (fD 14 (fD 14 (fD 14 (fD 14 (fD 14 (fD 14 (fD 14 (fD 14 (fY (fD 14 (fD 14 (fF ?_ (fF ?_ (fY (fY (fF ?_ (fF ?_ (trivial)))))))))))))))))) [(0,.pointer (some ⟨bb0,0,none⟩)),(5,iv a0.2.1)] (fin_of [none,some 0] y (by kernel_rfl) (by kernel_rfl)) (fun _ a w S=>?_)
 ·refine fJ [(19,_)] 4 [some 2] fun G a w S=>?_
  exact sExtract (vs:=[.agg #[iv a0.1.W,iv a0.1.H,.slice ab a0.1.Bits.length ac],iv a0.2.1,iv a0.2.2.1]) (iv a0.2.1) S (wN y) y y y y (lb y) fun a S=>leafL ⟨y,S⟩
 ·refine fJ [(19,_)] 5 [some 2] fun G a w S=>?_
  exact sExtract (vs:=[.agg #[iv a0.1.W,iv a0.1.H,.slice ab a0.1.Bits.length ac],iv a0.2.1,iv a0.2.2.1]) (iv a0.2.2.1) S (wN y) y y y y (lb y) fun a S=>leafL ⟨y,S⟩
 ·exact fM 0 (some 4) y y y y (.inr y) y y y
 ·exact fM 1 (some 5) y y y y (.inr y) y y y
 have bo:=row_v (S.mem.hold (i:=2) (e:=eRow (rI .i64) 3 (.slice ad_0_1 p0.l.length cp_0_1) a0.2.2.2) y)
 rw [bo] at S
 exact leafT (⟨a0.2.1,a0.2.2.2,Option.some.inj h,ad_0_1,cp_0_1,S.fix [3,2] [1,2] (by decide) y y y⟩)
def anc_reduce_search_from_s3_0:List (List Nat):=[[],[0],[0,1],[0,1,2],[0,1,2,3],[],[5],[5,6],[5,6,7],[5,6,7,8],[0,1,2,3,4,5,6,7,8,9]]
def anc_reduce_search_from_s3_1:List (List Nat):=[[],[0],[0,1],[0,1,2],[],[4],[4,5],[4,5,6],[0,1,2,3,4,5,6,7],[0,1,2,3,4,5,6,7,8],[0,1,2,3,4,5,6,7,8,9],[0,1,2,3,4,5,6,7,8,9],[0,1,2,3,4,5,6,7,8,9],[],[0,1,2,3,4,5,6,7,8,9,10,13],[0,1,2,3,4,5,6,7,8,9,10,11,13,14],[0,1,2,3,4,5,6,7,8,9,10,11,12,13,14,15]]
def anc_reduce_search_from_s3_2:List (List Nat):=[[],[],[1],[1,2],[1,2,3],[],[5],[5,6],[5,6,7],[5,6,7,8],[5,6,7,8,9],[1,2,3,4,5,6,7,8,9,10],[0,1,2,3,4,5,6,7,8,9,10,11],[0,1,2,3,4,5,6,7,8,9,10,11,12],[0,1,2,3,4,5,6,7,8,9,10,11,12,13]]
noncomputable def reduce_search_from_s3_l1 (p0:reduce_search) (p1:Int):(Int × Int × Int × Int × List Int × List Int × Int)→Option ((Int × Int × Int × Int × List Int × List Int × Int) ⊕ (Int × Int × Int × List Int × List Int × Int)):=fun s0=>match s0 with
 | (a2,a3,a4,a5,a6,a7,a8)=>
  if decide (a2 < (if p0.k < (w64 (p1 + 1)) then p0.k else w64 (p1 + 1))) then
   (appO a6 ([a2]:List Int)).bind fun a9=>
   (F_reduce_search_from_s4 (reduce_search.mk (api_Grid.mk a3 a4 p0.g.Bits) a5 a9 a7 a8) (if p1 < (w64 (a2 + 1)) then w64 (a2 + 1) else p1)).bind fun a0=>
   (sliceO a0.l 0 (w64 ((a0.l.length:Int) - 1))).bind fun aa=>
   some (.inl (w64 (a2 + 1),a0.g.W,a0.g.H,a0.k,aa,a0.best,a0.least))
  else
   some (.inr (a3,a4,a5,a6,a7,a8))
noncomputable def F_reduce_search_from_s3 (p0:reduce_search) (p1:Int):Option reduce_search:=
 if (p0.l.length:Int) == p0.g.W then
  Option.bind (α:=(List Int × List Int × Int)) (
   Option.bind (α:=(Int × List Int)) (
    (F_reduce_Change_s1 p0.g p0.l).bind fun a2=>
    some (a2.2.1,a2.2.2.2)) fun (a3,a4)=>
   Option.bind (α:=Bool) (
    if p0.best.isEmpty then
     some true
    else
     some (decide (a3 < p0.least))) fun a5=>
   if a5 then
    (F_slices_Clone___int_int__s1 a4).bind fun a0=>
    (neO a0.1).bind fun af=>
    some (a0.2,a0.1,a3)
   else
    some (a4,p0.best,p0.least)) fun (o8,a6,a7)=>
  some (reduce_search.mk p0.g p0.k o8 a6 a7)
 else
  (whileO (reduce_search_from_s3_l1 p0 p1) (0,p0.g.W,p0.g.H,p0.k,p0.l,p0.best,p0.least)).bind fun (a8,a9,aa,ab,ac,ae)=>
   some (reduce_search.mk (api_Grid.mk a8 a9 p0.g.Bits) aa ab ac ae)
theorem c_reduce_search_from_s3 (E:Nat→Prop) (w0:World) (p0:reduce_search) (bb0:Nat) (u_0_0:Value) (ad_0_1:Option Addr) (cp_0_1:Nat) (u_0_2:Value) (p1:Int) (r:reduce_search) (h:F_reduce_search_from_s3 p0 p1=some r) (S:St0 E (keysL [eBox bb0 68 [iv p0.g.W,iv p0.g.H,u_0_0,iv p0.k,.slice ad_0_1 p0.l.length cp_0_1,u_0_2,iv p0.least],eRow (rI .i64) 3 (.slice ad_0_1 p0.l.length cp_0_1) p0.l]) w0 w0 [eBox bb0 68 [iv p0.g.W,iv p0.g.H,u_0_0,iv p0.k,.slice ad_0_1 p0.l.length cp_0_1,u_0_2,iv p0.least],eRow (rI .i64) 3 (.slice ad_0_1 p0.l.length cp_0_1) p0.l] [fRep (rL rB) (u_0_0) p0.g.Bits,fRep (rLz (rI .i64)) (u_0_2) p0.best]) :
 Calls Try.prog 41 #[.pointer (some ⟨bb0,0,none⟩),iv p1] w0 (Ret (X:=Option Addr × Nat × Value) E (keysL [eBox bb0 68 [iv p0.g.W,iv p0.g.H,u_0_0,iv p0.k,.slice ad_0_1 p0.l.length cp_0_1,u_0_2,iv p0.least],eRow (rI .i64) 3 (.slice ad_0_1 p0.l.length cp_0_1) p0.l]) w0 (fun _=>.tuple #[]) (fun x=>[eBox bb0 68 [iv r.g.W,iv r.g.H,u_0_0,iv r.k,.slice x.1 r.l.length x.2.1,x.2.2,iv r.least],eRow (rI .i64) 3 (.slice x.1 r.l.length x.2.1) r.l]) (fun x=>[fRep (rLz (rI .i64)) x.2.2 r.best])):=by
 unfold F_reduce_search_from_s3 at h
 obtain ⟨a2,a3,_,rfl,_⟩:=S.know (i:=0) (e:=fRep (rL rB) (u_0_0) p0.g.Bits) y
 obtain ⟨⟨ak,al,_,rfl,_⟩,_⟩:=S.know (i:=1) (e:=fRep (rLz (rI .i64)) (u_0_2) p0.best) y
 generalize (keysL [eBox bb0 68 [iv p0.g.W,iv p0.g.H,.slice a2 p0.g.Bits.length a3,iv p0.k,.slice ad_0_1 p0.l.length cp_0_1,.slice ak p0.best.length al,iv p0.least],eRow (rI .i64) 3 (.slice ad_0_1 p0.l.length cp_0_1) p0.l])=M9 at S ⊢
 refine sEnter (args:=[.pointer (some ⟨bb0,0,none⟩),iv p1]) 98 Try.func41 y y (by simp) S (fun a S=>?_)
 refine sSeq (fun K5 bp=>sSeq (fun K6 bq=>sDraw (nf:=[]) (W:=[(0,8,.pointer (some ⟨bb0,0,none⟩)),(1,9,.pointer (some ⟨bb0,0,none⟩)),(2,10,.pointer (some ⟨bb0,4,none⟩)),(3,11,.slice ad_0_1 p0.l.length cp_0_1),(4,12,iv (p0.l.length:Int)),(5,13,.pointer (some ⟨bb0,0,none⟩)),(6,14,.pointer (some ⟨bb0,0,none⟩)),(7,15,.pointer (some ⟨bb0,0,none⟩)),(8,16,.pointer (some ⟨bb0,0,none⟩)),(9,17,iv p0.g.W),(10,18,.bool ((p0.l.length:Int) == p0.g.W))]) y S ?_))
 refine node_by (A:=anc_reduce_search_from_s3_0) 11 (by kernel_rfl) (by kernel_rfl) (by kernel_rfl) (by kernel_rfl) (by kernel_rfl) [0,1,2,3,4,5,6,7,8,9,10] (by kernel_rfl) (by decide) (by decide) (fF ?_ (fF ?_ (fF ?_ (fF ?_ (fF ?_ (fF ?_ (fF ?_ (fF ?_ (fF ?_ (fF ?_ (fF ?_ (trivial)))))))))))) [(0,.pointer (some ⟨bb0,0,none⟩)),(1,iv p1),(18,.bool ((p0.l.length:Int) == p0.g.W))] (fin_of [none,none,some 10] y (by kernel_rfl) (by kernel_rfl)) (fun _ a w S=>?_)
 ·exact fM 0 none y y y y (.inl y) y y y
 ·refine fJ [(8,_)] 1 [some 0] fun G a w S=>?_
  exact nilCheck_ok (q:=⟨bb0,0,none⟩) S (wN y) y y y (lb y) fun a S=>leafL ⟨y,S⟩
 ·refine fJ [(9,_)] 2 [some 1] fun G a w S=>?_
  exact sField (b:=bb0) (off:=0) 4 4 S (wN y) y y y y y (lb y) fun a S=>leafL ⟨y,S⟩
 ·refine fJ [(10,_)] 3 [some 2] fun G a w S=>?_
  exact sLoad1 0 (.slice ad_0_1 p0.l.length cp_0_1) S (wN y) y y y y y y (lb y) fun a S=>leafL ⟨y,S⟩
 ·refine fJ [(11,_)] 4 [some 3] fun G a w S=>?_
  exact sLen S (wN y) y Try.underlying25 y y (lb y) fun a S=>leafL ⟨y,S⟩
 ·exact fM 5 none y y y y (.inl y) y y y
 ·refine fJ [(13,_)] 6 [some 5] fun G a w S=>?_
  exact nilCheck_ok (q:=⟨bb0,0,none⟩) S (wN y) y y y (lb y) fun a S=>leafL ⟨y,S⟩
 ·refine fJ [(14,_)] 7 [some 6] fun G a w S=>?_
  exact sField (b:=bb0) (off:=0) 0 0 S (wN y) y y y y y (lb y) fun a S=>leafL ⟨y,S⟩
 ·refine fJ [(15,_)] 8 [some 7] fun G a w S=>?_
  exact sField (b:=bb0) (off:=0) 0 0 S (wN y) y y y y y (lb y) fun a S=>leafL ⟨y,S⟩
 ·refine fJ [(16,_)] 9 [some 8] fun G a w S=>?_
  exact sLoad1 0 (iv p0.g.W) S (wN y) y y y y y y (lb y) fun a S=>leafL ⟨y,S⟩
 ·refine fJ [(12,_),(17,_)] 10 [some 4,some 9] fun G a w S=>?_
  exact sBin _ S (wN y) y y y (bEq _ _ _ _ .i64 (p0.l.length:Int) p0.g.W) y (lb y) fun a S=>leafL ⟨y,S⟩
 refine leafT (bq _ _ ?_)
 rcases iS h with ⟨aW,h⟩ | ⟨aW,h⟩
 rotate_left
 ·refine sCondF S y aW (wp_skip (leafT (bp _ _ ?_)))
  refine sSeq (fun bB aX=>sRegion (sM S fun a S=>?_))
  refine sBin _ S (wN y) y y y (bAdd _ _ _ _ p1 1) y (lb y) fun a S=>sM S fun a S=>?_
  refine nilCheck_ok (q:=⟨bb0,0,none⟩) S (wN y) y y y (lb y) fun a S=>sField (b:=bb0) (off:=0) 3 3 S (wN y) y y y y y (lb y) fun a S=>sLoad1 0 (iv p0.k) S (wN y) y y y y y y (lb y) fun a S=>sMin2 (p:=w64 (p1 + 1)) (q:=p0.k) S (wN y) y y y y (lb y) fun a S=>sM S fun a S=>?_
  refine lT (aX _ _ (wp_block ?_))
  obtain ⟨bC,hl,br⟩:=bS h
  refine sLoop hl (fun s0 a w=>match s0 with | (af,aJ,aK,aL,aA,ar,aM)=>∃ am,∃ ao,∃ ah,∃ ai,St [] E M9 w0 98 a w [(0,.pointer (some ⟨bb0,0,none⟩)),(1,iv p1),(63,iv (if p0.k < (w64 (p1 + 1)) then p0.k else w64 (p1 + 1))),(64,iv af)] [eBox bb0 68 [iv aJ,iv aK,.slice a2 p0.g.Bits.length a3,iv aL,.slice am aA.length ao,.slice ah ar.length ai,iv aM],eRow (rI .i64) 3 (.slice am aA.length ao) aA] [fRep (rL rB) (.slice a2 p0.g.Bits.length a3) p0.g.Bits,fRep (rLz (rI .i64)) (.slice ah ar.length ai) ar]) ⟨ad_0_1,cp_0_1,ak,al,S.fix [0,1] [0,1] (by decide) y y y⟩ ?_
  clear hl h
  intro s0 a w c0 hI h aZ
  obtain ⟨af,aJ,aK,aL,aA,ar,aM⟩:=s0
  unfold reduce_search_from_s3_l1 at h
  dsimp only at h hI
  obtain ⟨am,ao,ah,ai,S⟩:=hI
  refine sSeq (fun bD b1=>sRegion (sBin _ S (wN y) y y y (bLt _ _ _ _ .i64 af (if p0.k < (w64 (p1 + 1)) then p0.k else w64 (p1 + 1))) y (lb y) fun a S=>lT (b1 _ _ (sSeq (fun bE b3=>?_)))))
  rcases iS h with ⟨aC,h⟩ | ⟨aC,h⟩
  rotate_left
  ·refine sCondF S y aC ?_
   obtain rfl:=tS h
   obtain rfl:=aZ _ y
   have h:=br
   try dsimp only at h
   obtain rfl:=tS h
   exact wp_exit (xThen (xThen (xHit (sEnd (.tuple #[]) S (rsl0 y ) ⟨(am,ao,(.slice ah ar.length ai)),y,S.mem.sel [0,1] [1] (by decide) y y⟩))))
  refine sCondT S y aC (wp_skip (leafT (b3 _ _ ?_)))
  refine sSeq (fun bG b4=>wp_block ?_)
  refine sSeq (fun bH b5=>sRegion (sM S fun a S=>?_))
  refine sN S fun a S=>?_
  refine lT (b5 _ _ (sSeq (fun bI ba=>sRegion (sM S fun a S=>?_))))
  refine sM S fun a S=>?_
  refine nilCheck_ok (q:=⟨bb0,0,none⟩) S (wN y) y y y (lb y) fun a S=>sField (b:=bb0) (off:=0) 4 4 S (wN y) y y y y y (lb y) fun a S=>sLoad1 0 (.slice am aA.length ao) S (wN y) y y y y y y (lb y) fun a S=>sM S fun a S=>?_
  refine sLit (r:=(rI .i64)) (T:=3) (xs:=([af]:List Int)) [(0,iv af)] 1 [iv af] [iv af] (iv 0) 8 S (wN y) y y Try.underlying25 y (by decide) (by decide) (by kernel_rfl) y (fun E1 w1 hE=>All.cons y (All.nil _ _ _)) y y (lb y) fun a w aO aP S=>?_
  obtain ⟨aH,bb,h⟩:=bS h
  refine sApp (r:=(rI .i64)) (T:=3) (xs:=aA) (ys:=([af]:List Int)) (v:=.slice am aA.length ao) (u:=.slice aO ([af]:List Int).length aP) 2 (iv 0) 8 S (wN y) y Try.underlying25 y y (by decide) y y y (src_R (T:=3) 0 S.mem y) bb y (lb y) fun a w au av S=>nilCheck_ok (q:=⟨bb0,0,none⟩) S (wN y) y y y (lb y) fun a S=>sField (b:=bb0) (off:=0) 4 4 S (wN y) y y y y y (lb y) fun a S=>sStore (p:=bb0) (off:=4) (T:=68) (vs:=[iv aJ,iv aK,.slice a2 p0.g.Bits.length a3,iv aL,.slice am aA.length ao,.slice ah ar.length ai,iv aM]) (v:=.slice au aH.length av) 2 [.slice au aH.length av] S (wN y) y y y y y y y (by simp) y fun a w S=>lT (ba _ _ (sSeq (fun bJ bc=>sRegion (sM S fun a S=>?_))))
  refine sM S fun a S=>?_
  refine sM S fun a S=>?_
  refine sBin _ S (wN y) y y y (bAdd _ _ _ _ af 1) y (lb y) fun a S=>sMax2 (p:=p1) (q:=w64 (af + 1)) S (wN y) y y y y (lb y) fun a S=>?_
  obtain ⟨a4,bf,h⟩:=bS h
  refine sCall (X:=Option Addr × Nat × Value) (f:=41) (vs:=[.pointer (some ⟨bb0,0,none⟩),iv (if p1 < (w64 (af + 1)) then w64 (af + 1) else p1)]) (val:=fun _=>.tuple #[]) (B':=fun x=>[eBox bb0 68 [iv a4.g.W,iv a4.g.H,.slice a2 p0.g.Bits.length a3,iv a4.k,.slice x.1 a4.l.length x.2.1,x.2.2,iv a4.least],eRow (rI .i64) 3 (.slice x.1 a4.l.length x.2.1) a4.l]) (D':=fun x=>[fRep (rLz (rI .i64)) x.2.2 a4.best]) [eBox bb0 68 [iv aJ,iv aK,.slice a2 p0.g.Bits.length a3,iv aL,.slice au aH.length av,.slice ah ar.length ai,iv aM],eRow (rI .i64) 3 (.slice au aH.length av) aH] [eRow (rI .i64) 3 (.slice aO ([af]:List Int).length aP) ([af]:List Int)] [fRep (rL rB) (.slice a2 p0.g.Bits.length a3) p0.g.Bits,fRep (rLz (rI .i64)) (.slice ah ar.length ai) ar] [0,1,2] [0,1] S (wN y) y callee41 y (by decide) y y (fun E1 w1 S1=>c_reduce_search_from_s4 E1 w1 (reduce_search.mk (api_Grid.mk aJ aK p0.g.Bits) aL aH ar aM) bb0 (.slice a2 p0.g.Bits.length a3) au av (.slice ah ar.length ai) (if p1 < (w64 (af + 1)) then w64 (af + 1) else p1) a4 bf S1) y (lb y) fun xx a w S=>?_
  obtain ⟨a9,aa,bt⟩:=xx
  dsimp only at S
  obtain ⟨⟨aQ,aR,_,rfl,_⟩,_⟩:=S.mem.know (i:=0) (e:=fRep (rLz (rI .i64)) (bt) a4.best) y
  refine lT (bc _ _ ?_)
  obtain ⟨aS,bg,h⟩:=bS h
  refine sDraw (nf:=[11,14]) (W:=[(0,83,.pointer (some ⟨bb0,0,none⟩)),(1,84,.pointer (some ⟨bb0,0,none⟩)),(2,85,.pointer (some ⟨bb0,0,none⟩)),(3,86,.pointer (some ⟨bb0,4,none⟩)),(4,87,.slice a9 a4.l.length aa),(5,88,.pointer (some ⟨bb0,0,none⟩)),(6,89,.pointer (some ⟨bb0,0,none⟩)),(7,90,.pointer (some ⟨bb0,4,none⟩)),(8,91,.slice a9 a4.l.length aa),(9,92,iv (a4.l.length:Int)),(10,93,iv (w64 ((a4.l.length:Int) - 1)))]) y S ?_
  refine node_by (A:=anc_reduce_search_from_s3_2) 15 (by kernel_rfl) (by kernel_rfl) (by kernel_rfl) (by kernel_rfl) (by kernel_rfl) [0,1,2,3,4,5,6,7,8,9,10] (by kernel_rfl) (by decide) (by decide) (fF ?_ (fF ?_ (fF ?_ (fF ?_ (fF ?_ (fF ?_ (fF ?_ (fF ?_ (fF ?_ (fF ?_ (fF ?_ (fN ?_ (fE 11 (fE 11 (aB 14 0 11 (by decide) (trivial)))))))))))))))) [] (fun q hq=>by cases hq) (fun hY=>absurd (hY 11 (by decide)) (by decide))
  ·exact fM 0 none y y y y (.inl y) y y y
  ·exact fM 1 none y y y y (.inl y) y y y
  ·refine fJ [(84,_)] 2 [some 1] fun G a w S=>?_
   exact nilCheck_ok (q:=⟨bb0,0,none⟩) S (wN y) y y y (lb y) fun a S=>leafL ⟨y,S⟩
  ·refine fJ [(85,_)] 3 [some 2] fun G a w S=>?_
   exact sField (b:=bb0) (off:=0) 4 4 S (wN y) y y y y y (lb y) fun a S=>leafL ⟨y,S⟩
  ·refine fJ [(86,_)] 4 [some 3] fun G a w S=>?_
   exact sLoad1 0 (.slice a9 a4.l.length aa) S (wN y) y y y y y y (lb y) fun a S=>leafL ⟨y,S⟩
  ·exact fM 5 none y y y y (.inl y) y y y
  ·refine fJ [(88,_)] 6 [some 5] fun G a w S=>?_
   exact nilCheck_ok (q:=⟨bb0,0,none⟩) S (wN y) y y y (lb y) fun a S=>leafL ⟨y,S⟩
  ·refine fJ [(89,_)] 7 [some 6] fun G a w S=>?_
   exact sField (b:=bb0) (off:=0) 4 4 S (wN y) y y y y y (lb y) fun a S=>leafL ⟨y,S⟩
  ·refine fJ [(90,_)] 8 [some 7] fun G a w S=>?_
   exact sLoad1 0 (.slice a9 a4.l.length aa) S (wN y) y y y y y y (lb y) fun a S=>leafL ⟨y,S⟩
  ·refine fJ [(91,_)] 9 [some 8] fun G a w S=>?_
   exact sLen S (wN y) y Try.underlying25 y y (lb y) fun a S=>leafL ⟨y,S⟩
  ·refine fJ [(92,_)] 10 [some 9] fun G a w S=>?_
   exact sBin _ S (wN y) y y y (bSub _ _ _ _ (a4.l.length:Int) 1) y (lb y) fun a S=>leafL ⟨y,S⟩
  refine ⟨_,[(87,.slice a9 a4.l.length aa),(93,iv (w64 ((a4.l.length:Int) - 1)))],y,(srcs_of [some 4,some 10] y y y),fun G a w S=>?_⟩
  refine sSliceT (r:=(rI .i64)) (T:=3) (ad:=a9) (c:=aa) (xs:=a4.l) (vlo:=none) (vhi:=(some (.int .i64 (w64 ((a4.l.length:Int) - 1))))) (hi':=w64 ((a4.l.length:Int) - 1)) 1 S (wN y) y Try.underlying25 y y y y y (.inr y) (.inl y) bg y (lb y) fun a S=>?_
  refine leafL ⟨y,_,_,.inl ⟨94,(.slice a9 aS.length aa),[(12,95,.pointer (some ⟨bb0,0,none⟩)),(13,96,.pointer (some ⟨bb0,4,none⟩))],y,S,hz_of y,?_⟩⟩
  refine node_by (A:=anc_reduce_search_from_s3_2) 15 (by kernel_rfl) (by kernel_rfl) (by kernel_rfl) (by kernel_rfl) (by kernel_rfl) [12,13,11,0,1,2,3,4,5,6,7,8,9,10] (by kernel_rfl) (by decide) (by decide) (fF ?_ (fD 11 (fD 11 (fD 11 (fD 11 (fD 11 (fD 11 (fD 11 (fD 11 (fD 11 (fD 11 (fY (fF ?_ (fF ?_ (fN ?_ (trivial)))))))))))))))) [] (fun q hq=>by cases hq) (fun hY=>absurd (hY 14 (by decide)) (by decide))
  ·exact fM 3 none y y y y (.inl y) y y y
  ·refine fJ [(83,_)] 0 [some 3] fun G a w S=>?_
   exact nilCheck_ok (q:=⟨bb0,0,none⟩) S (wN y) y y y (lb y) fun a S=>leafL ⟨y,S⟩
  ·refine fJ [(95,_)] 1 [some 0] fun G a w S=>?_
   exact sField (b:=bb0) (off:=0) 4 4 S (wN y) y y y y y (lb y) fun a S=>leafL ⟨y,S⟩
  refine ⟨_,[(94,.slice a9 aS.length aa),(96,.pointer (some ⟨bb0,4,none⟩))],y,(srcs_of [some 2,some 1] y y y),fun G a w S=>?_⟩
  refine sStore (p:=bb0) (off:=4) (T:=68) (vs:=[iv a4.g.W,iv a4.g.H,.slice a2 p0.g.Bits.length a3,iv a4.k,.slice a9 a4.l.length aa,.slice aQ a4.best.length aR,iv a4.least]) (v:=.slice a9 aS.length aa) 1 [.slice a9 aS.length aa] S (wN y) y y y y y y y (by simp) y fun a w S=>leafL ⟨y,_,_,.inr ⟨[],y,S,hz_of y,?_⟩⟩
  refine node_by (A:=anc_reduce_search_from_s3_2) 15 (by kernel_rfl) (by kernel_rfl) (by kernel_rfl) (by kernel_rfl) (by kernel_rfl) [12,13,11,0,1,2,3,4,5,6,7,8,9,10] (by kernel_rfl) (by decide) (by decide) (fD 14 (fD 14 (fD 14 (fD 14 (fD 14 (fD 14 (fD 14 (fD 14 (fD 14 (fD 14 (fD 14 (fY (fD 14 (fD 14 (fY (trivial)))))))))))))))) [(0,.pointer (some ⟨bb0,0,none⟩)),(1,iv p1),(63,iv (if p0.k < (w64 (p1 + 1)) then p0.k else w64 (p1 + 1))),(64,iv af)] (fin_of [none,none,none,none] y (by kernel_rfl) (by kernel_rfl)) (fun _ a w S=>?_)
  refine leafB (leafT (b4 _ _ ?_))
  refine sRegion (sBin _ S (wN y) y y y (bAdd _ _ _ _ af 1) y (lb y) fun a S=>sM S fun a S=>?_)
  exact lT (⟨(w64 (af + 1),a4.g.W,a4.g.H,a4.k,aS,a4.best,a4.least),(Option.some.inj h).symm,⟨a9,aa,aQ,aR,S.fix [0,1] [1,0] (by decide) y y y⟩⟩)
 refine sCondT S y aW ?_
 obtain ⟨bu,h,bv⟩:=bS h
 refine sCut (fun a w=>∃ o8,∃ aI,∃ bh,(o8,aI,bh)=bu∧∃ aU,∃ ax,∃ ay,∃ az,St [] E M9 w0 98 a w [] [eBox bb0 68 [iv p0.g.W,iv p0.g.H,.slice a2 p0.g.Bits.length a3,iv p0.k,.slice aU o8.length ax,.slice ay aI.length az,iv bh],eRow (rI .i64) 3 (.slice aU o8.length ax) o8] [fRep (rL rB) (.slice a2 p0.g.Bits.length a3) p0.g.Bits,fRep (rLz (rI .i64)) (.slice ay aI.length az) aI]) ?_ (fun a w hI=>?_)
 rotate_left
 ·obtain ⟨o8,aI,bh,rfl,aU,ax,ay,az,S⟩:=hI
  have h:=bv
  try dsimp only at h
  obtain rfl:=tS h
  exact wp_ret (rThen (sRet (.tuple #[]) S (rsl0 y ) ⟨(aU,ax,(.slice ay aI.length az)),y,S.mem.sel [0,1] [1] (by decide) y y⟩))
 obtain ⟨bw,h,bx⟩:=bS h
 refine sCut (fun a w=>∃ aw,∃ aj,(aw,aj)=bw∧∃ a5,∃ a6,St [] E M9 w0 98 a w [(0,.pointer (some ⟨bb0,0,none⟩)),(5,iv aw)] [eBox bb0 68 [iv p0.g.W,iv p0.g.H,.slice a2 p0.g.Bits.length a3,iv p0.k,.slice a5 aj.length a6,.slice ak p0.best.length al,iv p0.least],eRow (rI .i64) 3 (.slice a5 aj.length a6) aj] [fRep (rL rB) (.slice a2 p0.g.Bits.length a3) p0.g.Bits,fRep (rLz (rI .i64)) (.slice ak p0.best.length al) p0.best]) ?_ (fun a w hI=>?_)
 rotate_left
 ·obtain ⟨aw,aj,rfl,a5,a6,S⟩:=hI
  have h:=bx
  try dsimp only at h
  obtain ⟨bz,h,bA⟩:=bS h
  refine sCut (fun a w=>∃ bi,bi=bz∧St [] E M9 w0 98 a w [(0,.pointer (some ⟨bb0,0,none⟩)),(5,iv aw),(44,.bool bi)] [eBox bb0 68 [iv p0.g.W,iv p0.g.H,.slice a2 p0.g.Bits.length a3,iv p0.k,.slice a5 aj.length a6,.slice ak p0.best.length al,iv p0.least],eRow (rI .i64) 3 (.slice a5 aj.length a6) aj] [fRep (rL rB) (.slice a2 p0.g.Bits.length a3) p0.g.Bits,fRep (rLz (rI .i64)) (.slice ak p0.best.length al) p0.best]) ?_ (fun a w hI=>?_)
  ·refine sRegion (sM S fun a S=>?_)
   refine nilCheck_ok (q:=⟨bb0,0,none⟩) S (wN y) y y y (lb y) fun a S=>sField (b:=bb0) (off:=0) 5 5 S (wN y) y y y y y (lb y) fun a S=>sLoad1 0 (.slice ak p0.best.length al) S (wN y) y y y y y y (lb y) fun a S=>sBin _ S (wN y) y y y (bEqNilZ _ _ _ _ Try.underlying25 ak (p0.best.length) (al) (rLz_is (S.mem.know (i:=1) (e:=fRep (rLz (rI .i64)) (.slice ak p0.best.length al) p0.best) y))) y (lb y) fun a S=>sM S fun a S=>?_
   rcases iS h with ⟨ae,h⟩ | ⟨ae,h⟩
   ·refine sSkN 6 5 false 37 S y y ae y fun a S=>sPickT (.bool true) S (wN y) y y ae y y (lb y) fun a S=>?_
    exact lT (⟨true,Option.some.inj h,S.fix [0,1] [0,1] (by decide) y y y⟩)
   refine sMove (iv aw) S (wG 5 false 37 y y y ae) (.inl y) y y (lb y) fun a S=>sMove (.pointer (some ⟨bb0,0,none⟩)) S (wG 5 false 37 y y y ae) (.inl y) y y (lb y) fun a S=>nilCheck_ok (q:=⟨bb0,0,none⟩) S (wG 5 false 37 y y y ae) y y y (lb y) fun a S=>sField (b:=bb0) (off:=0) 6 6 S (wG 5 false 37 y y y ae) y y y y y (lb y) fun a S=>sLoad1 0 (iv p0.least) S (wG 5 false 37 y y y ae) y y y y y y (lb y) fun a S=>sBin _ S (wG 5 false 37 y y y ae) y y y (bLt _ _ _ _ .i64 aw p0.least) y (lb y) fun a S=>sPickF (.bool (decide (aw < p0.least))) S (wN y) y y ae y y (lb y) fun a S=>?_
   exact lT (⟨decide (aw < p0.least),Option.some.inj h,S.fix [0,1] [0,1] (by decide) y y y⟩)
  obtain ⟨bi,rfl,S⟩:=hI
  have h:=bA
  try dsimp only at h
  rcases iS h with ⟨aG,h⟩ | ⟨aG,h⟩
  rotate_left
  ·refine sCondF S y aG ?_
   exact wp_skip (leafT (⟨aj,p0.best,p0.least,Option.some.inj h,a5,a6,ak,al,S.fix [0,1] [0,1] (by decide) y y y⟩))
  refine sCondT S y aG (sRegion (sM S fun a S=>?_))
  refine sM S fun a S=>?_
  refine sM S fun a S=>?_
  refine nilCheck_ok (q:=⟨bb0,0,none⟩) S (wN y) y y y (lb y) fun a S=>sField (b:=bb0) (off:=0) 4 4 S (wN y) y y y y y (lb y) fun a S=>sLoad1 0 (.slice a5 aj.length a6) S (wN y) y y y y y y (lb y) fun a S=>?_
  obtain ⟨ag,bj,h⟩:=bS h
  refine sCall (X:=Option Addr × Nat) (f:=49) (vs:=[.slice a5 aj.length a6]) (val:=fun x=>.slice x.1 ag.1.length x.2) (B':=fun x=>[eRow (rI .i64) 3 (.slice x.1 ag.1.length x.2) ag.1,eRow (rI .i64) 3 (.slice a5 aj.length a6) ag.2]) (D':=fun _=>[]) [eRow (rI .i64) 3 (.slice a5 aj.length a6) aj] [eBox bb0 68 [iv p0.g.W,iv p0.g.H,.slice a2 p0.g.Bits.length a3,iv p0.k,.slice a5 aj.length a6,.slice ak p0.best.length al,iv p0.least]] [] [1,0] [] S (wN y) y callee49 y (by decide) y y (fun E1 w1 S1=>c_slices_Clone___int_int__s1 E1 w1 aj a5 a6 ag bj S1) y (lb y) fun xx a w S=>?_
  obtain ⟨ap,aq⟩:=xx
  dsimp only at S
  have bk:=row_v (S.mem.hold (i:=1) (e:=eRow (rI .i64) 3 (.slice a5 aj.length a6) ag.2) y)
  rw [bk] at S
  refine sM S fun a S=>?_
  refine nilCheck_ok (q:=⟨bb0,0,none⟩) S (wN y) y y y (lb y) fun a S=>sField (b:=bb0) (off:=0) 5 5 S (wN y) y y y y y (lb y) fun a S=>?_
  have S:=S.shutR (r:=(rI .i64)) (T:=3) (v:=.slice ap ag.1.length aq) (xs:=ag.1) 0 y
  obtain ⟨bK,bl,h⟩:=bS h
  have S:=S.learn (fRep (rLz (rI .i64)) (.slice ap ag.1.length aq) ag.1) (rLz_of (S.mem.know (i:=0) (e:=fRep (rL (rI .i64)) (.slice ap ag.1.length aq) ag.1) y) bl)
  refine sStore (p:=bb0) (off:=5) (T:=68) (vs:=[iv p0.g.W,iv p0.g.H,.slice a2 p0.g.Bits.length a3,iv p0.k,.slice a5 ag.2.length a6,.slice ak p0.best.length al,iv p0.least]) (v:=.slice ap ag.1.length aq) 1 [.slice ap ag.1.length aq] S (wN y) y y y y y y y (by simp) y fun a w S=>nilCheck_ok (q:=⟨bb0,0,none⟩) S (wN y) y y y (lb y) fun a S=>sField (b:=bb0) (off:=0) 6 6 S (wN y) y y y y y (lb y) fun a S=>sStore (p:=bb0) (off:=6) (T:=68) (vs:=[iv p0.g.W,iv p0.g.H,.slice a2 p0.g.Bits.length a3,iv p0.k,.slice a5 ag.2.length a6,.slice ap ag.1.length aq,iv p0.least]) (v:=iv aw) 0 [iv aw] S (wN y) y y y y y y y (by simp) y fun a w S=>?_
  exact lT (⟨ag.2,ag.1,aw,Option.some.inj h,a5,a6,ap,aq,S.fix [0,1] [2,0] (by decide) y y y⟩)
 obtain ⟨a0,aT,h⟩:=bS h
 refine sDraw (nf:=[8,13,14]) (W:=[(0,20,.pointer (some ⟨bb0,0,none⟩)),(1,21,.pointer (some ⟨bb0,0,none⟩)),(2,22,.pointer (some ⟨bb0,0,none⟩)),(3,23,.agg #[iv p0.g.W,iv p0.g.H,.slice a2 p0.g.Bits.length a3]),(4,24,.pointer (some ⟨bb0,0,none⟩)),(5,25,.pointer (some ⟨bb0,0,none⟩)),(6,26,.pointer (some ⟨bb0,4,none⟩)),(7,27,.slice ad_0_1 p0.l.length cp_0_1)]) y S ?_
 refine node_by (A:=anc_reduce_search_from_s3_1) 17 (by kernel_rfl) (by kernel_rfl) (by kernel_rfl) (by kernel_rfl) (by kernel_rfl) [0,1,2,3,4,5,6,7] (by kernel_rfl) (by decide) (by decide) (fF ?_ (fF ?_ (fF ?_ (fF ?_ (fF ?_ (fF ?_ (fF ?_ (fF ?_ (fN ?_ (fE 8 (fE 8 (fE 8 (fE 8 (fN ?_ (aB 14 2 8 (by decide) (fE 8 (fE 8 (trivial)))))))))))))))))) [] (fun q hq=>by cases hq) (fun hY=>absurd (hY 8 (by decide)) (by decide))
 ·exact fM 0 none y y y y (.inl y) y y y
 ·refine fJ [(20,_)] 1 [some 0] fun G a w S=>?_
  exact nilCheck_ok (q:=⟨bb0,0,none⟩) S (wN y) y y y (lb y) fun a S=>leafL ⟨y,S⟩
 ·refine fJ [(21,_)] 2 [some 1] fun G a w S=>?_
  exact sField (b:=bb0) (off:=0) 0 0 S (wN y) y y y y y (lb y) fun a S=>leafL ⟨y,S⟩
 ·refine fJ [(22,_)] 3 [some 2] fun G a w S=>?_
  exact sLoadN (p:=bb0) (off:=0) (T:=68) (vs:=[iv p0.g.W,iv p0.g.H,.slice a2 p0.g.Bits.length a3,iv p0.k,.slice ad_0_1 p0.l.length cp_0_1,.slice ak p0.best.length al,iv p0.least]) 0 [iv p0.g.W,iv p0.g.H,.slice a2 p0.g.Bits.length a3] S (wN y) y y y y y y y (lb y) fun a S=>leafL ⟨y,S⟩
 ·exact fM 4 none y y y y (.inl y) y y y
 ·refine fJ [(24,_)] 5 [some 4] fun G a w S=>?_
  exact nilCheck_ok (q:=⟨bb0,0,none⟩) S (wN y) y y y (lb y) fun a S=>leafL ⟨y,S⟩
 ·refine fJ [(25,_)] 6 [some 5] fun G a w S=>?_
  exact sField (b:=bb0) (off:=0) 4 4 S (wN y) y y y y y (lb y) fun a S=>leafL ⟨y,S⟩
 ·refine fJ [(26,_)] 7 [some 6] fun G a w S=>?_
  exact sLoad1 0 (.slice ad_0_1 p0.l.length cp_0_1) S (wN y) y y y y y y (lb y) fun a S=>leafL ⟨y,S⟩
 ·refine ⟨_,[(23,.agg #[iv p0.g.W,iv p0.g.H,.slice a2 p0.g.Bits.length a3]),(27,.slice ad_0_1 p0.l.length cp_0_1)],y,(srcs_of [some 3,some 7] y y y),fun G a w S=>?_⟩
  have S:=S.learn (fRep r_api_Grid (.agg #[iv p0.g.W,iv p0.g.H,.slice a2 p0.g.Bits.length a3]) p0.g) ⟨_,y,S.mem.know (i:=0) (e:=fRep (rL rB) (.slice a2 p0.g.Bits.length a3) p0.g.Bits) y⟩
  refine sCall (X:=Option Addr × Nat) (f:=12) (vs:=[.agg #[iv p0.g.W,iv p0.g.H,.slice a2 p0.g.Bits.length a3],.slice ad_0_1 p0.l.length cp_0_1]) (val:=fun x=>.tuple #[.agg #[iv a0.1.W,iv a0.1.H,.slice x.1 a0.1.Bits.length x.2],iv a0.2.1,iv a0.2.2.1]) (B':=fun x=>[eRow rB 4 (.slice x.1 a0.1.Bits.length x.2) a0.1.Bits,eRow (rI .i64) 3 (.slice ad_0_1 p0.l.length cp_0_1) a0.2.2.2]) (D':=fun _=>[]) [eRow (rI .i64) 3 (.slice ad_0_1 p0.l.length cp_0_1) p0.l] [eBox bb0 68 [iv p0.g.W,iv p0.g.H,.slice a2 p0.g.Bits.length a3,iv p0.k,.slice ad_0_1 p0.l.length cp_0_1,.slice ak p0.best.length al,iv p0.least]] [fRep r_api_Grid (.agg #[iv p0.g.W,iv p0.g.H,.slice a2 p0.g.Bits.length a3]) p0.g] [1,0] [0] S (wN y) y callee12 y (by decide) y y (fun E1 w1 S1=>c_reduce_Change_s1 E1 w1 p0.g (.agg #[iv p0.g.W,iv p0.g.H,.slice a2 p0.g.Bits.length a3]) p0.l ad_0_1 cp_0_1 a0 aT S1) y (lb y) fun xx a w S=>?_
  obtain ⟨a7,a8⟩:=xx
  dsimp only at S
  refine leafL ⟨y,_,_,.inl ⟨28,(.tuple #[.agg #[iv a0.1.W,iv a0.1.H,.slice a7 a0.1.Bits.length a8],iv a0.2.1,iv a0.2.2.1]),[(9,19,.tuple #[.agg #[iv a0.1.W,iv a0.1.H,.slice a7 a0.1.Bits.length a8],iv a0.2.1,iv a0.2.2.1]),(10,29,.agg #[iv a0.1.W,iv a0.1.H,.slice a7 a0.1.Bits.length a8]),(11,30,iv a0.2.1),(12,31,iv a0.2.2.1)],y,S,hz_of y,?_⟩⟩
  refine node_by (A:=anc_reduce_search_from_s3_1) 17 (by kernel_rfl) (by kernel_rfl) (by kernel_rfl) (by kernel_rfl) (by kernel_rfl) [9,10,11,12,8,0,1,2,3,4,5,6,7] (by kernel_rfl) (by decide) (by decide) (fD 8 (fD 8 (fD 8 (fD 8 (fD 8 (fD 8 (fD 8 (fD 8 (fY (fF ?_ (fF ?_ (fF ?_ (fF ?_ (fN ?_ (aB 14 2 13 (by decide) (fE 13 (fE 13 (trivial)))))))))))))))))) [] (fun q hq=>by cases hq) (fun hY=>absurd (hY 13 (by decide)) (by decide))
  ·exact fM 0 (some 4) y y y y (.inl y) y y y
  ·refine fJ [(19,_)] 1 [some 0] fun G a w S=>?_
   exact sExtract (vs:=[.agg #[iv a0.1.W,iv a0.1.H,.slice a7 a0.1.Bits.length a8],iv a0.2.1,iv a0.2.2.1]) (.agg #[iv a0.1.W,iv a0.1.H,.slice a7 a0.1.Bits.length a8]) S (wN y) y y y y (lb y) fun a S=>leafL ⟨y,S⟩
  ·refine fJ [(19,_)] 2 [some 0] fun G a w S=>?_
   exact sExtract (vs:=[.agg #[iv a0.1.W,iv a0.1.H,.slice a7 a0.1.Bits.length a8],iv a0.2.1,iv a0.2.2.1]) (iv a0.2.1) S (wN y) y y y y (lb y) fun a S=>leafL ⟨y,S⟩
  ·refine fJ [(19,_)] 3 [some 0] fun G a w S=>?_
   exact sExtract (vs:=[.agg #[iv a0.1.W,iv a0.1.H,.slice a7 a0.1.Bits.length a8],iv a0.2.1,iv a0.2.2.1]) (iv a0.2.2.1) S (wN y) y y y y (lb y) fun a S=>leafL ⟨y,S⟩
  refine ⟨_,[],y,(srcs_of [] y y y),fun G a w S=>?_⟩
  refine sAlloc (.agg #[iv 0,iv 0,.slice none 0 0]) S (wN y) y y [iv 0,iv 0,.slice none 0 0] y y (lb y) fun a bm w S=>leafL ⟨y,_,_,.inl ⟨4,(.pointer (some ⟨bm,0,none⟩)),[],y,S,hz_of y,?_⟩⟩
  refine node_by (A:=anc_reduce_search_from_s3_1) 17 (by kernel_rfl) (by kernel_rfl) (by kernel_rfl) (by kernel_rfl) (by kernel_rfl) [13,9,10,11,12,8,0,1,2,3,4,5,6,7] (by kernel_rfl) (by decide) (by decide) (fD 8 (fD 8 (fD 8 (fD 8 (fD 8 (fD 8 (fD 8 (fD 8 (fY (fF ?_ (fF ?_ (fF ?_ (fF ?_ (fY (fN ?_ (fE 14 (fE 14 (trivial)))))))))))))))))) [] (fun q hq=>by cases hq) (fun hY=>absurd (hY 14 (by decide)) (by decide))
  ·exact fM 1 (some 5) y y y y (.inl y) y y y
  ·refine fJ [(19,_)] 2 [some 1] fun G a w S=>?_
   exact sExtract (vs:=[.agg #[iv a0.1.W,iv a0.1.H,.slice a7 a0.1.Bits.length a8],iv a0.2.1,iv a0.2.2.1]) (.agg #[iv a0.1.W,iv a0.1.H,.slice a7 a0.1.Bits.length a8]) S (wN y) y y y y (lb y) fun a S=>leafL ⟨y,S⟩
  ·refine fJ [(19,_)] 3 [some 1] fun G a w S=>?_
   exact sExtract (vs:=[.agg #[iv a0.1.W,iv a0.1.H,.slice a7 a0.1.Bits.length a8],iv a0.2.1,iv a0.2.2.1]) (iv a0.2.1) S (wN y) y y y y (lb y) fun a S=>leafL ⟨y,S⟩
  ·refine fJ [(19,_)] 4 [some 1] fun G a w S=>?_
   exact sExtract (vs:=[.agg #[iv a0.1.W,iv a0.1.H,.slice a7 a0.1.Bits.length a8],iv a0.2.1,iv a0.2.2.1]) (iv a0.2.2.1) S (wN y) y y y y (lb y) fun a S=>leafL ⟨y,S⟩
  refine ⟨_,[(4,.pointer (some ⟨bm,0,none⟩)),(29,.agg #[iv a0.1.W,iv a0.1.H,.slice a7 a0.1.Bits.length a8])],y,(srcs_of [some 0,some 2] y y y),fun G a w S=>?_⟩
  refine sStore (p:=bm) (off:=0) (T:=24) (vs:=[iv 0,iv 0,.slice none 0 0]) (v:=.agg #[iv a0.1.W,iv a0.1.H,.slice a7 a0.1.Bits.length a8]) 0 [iv a0.1.W,iv a0.1.H,.slice a7 a0.1.Bits.length a8] S (wN y) y y y y y y y (by simp) y fun a w S=>leafL ⟨y,_,_,.inr ⟨[(15,5,iv a0.2.1),(16,6,iv a0.2.2.1)],y,S,hz_of y,?_⟩⟩
  refine node_by (A:=anc_reduce_search_from_s3_1) 17 (by kernel_rfl) (by kernel_rfl) (by kernel_rfl) (by kernel_rfl) (by kernel_rfl) [15,16,13,9,10,11,12,8,0,1,2,3,4,5,6,7] (by kernel_rfl) (by decide) (by decide) (fD 14 (fD 14 (fD 14 (fD 14 (fD 14 (fD 14 (fD 14 (fD 14 (fY (fD 14 (fD 14 (fF ?_ (fF ?_ (fY (fY (fF ?_ (fF ?_ (trivial)))))))))))))))))) [(0,.pointer (some ⟨bb0,0,none⟩)),(5,iv a0.2.1)] (fin_of [none,some 0] y (by kernel_rfl) (by kernel_rfl)) (fun _ a w S=>?_)
  ·refine fJ [(19,_)] 5 [some 3] fun G a w S=>?_
   exact sExtract (vs:=[.agg #[iv a0.1.W,iv a0.1.H,.slice a7 a0.1.Bits.length a8],iv a0.2.1,iv a0.2.2.1]) (iv a0.2.1) S (wN y) y y y y (lb y) fun a S=>leafL ⟨y,S⟩
  ·refine fJ [(19,_)] 6 [some 3] fun G a w S=>?_
   exact sExtract (vs:=[.agg #[iv a0.1.W,iv a0.1.H,.slice a7 a0.1.Bits.length a8],iv a0.2.1,iv a0.2.2.1]) (iv a0.2.2.1) S (wN y) y y y y (lb y) fun a S=>leafL ⟨y,S⟩
  ·exact fM 0 (some 5) y y y y (.inr y) y y y
  ·exact fM 1 (some 6) y y y y (.inr y) y y y
  have bn:=row_v (S.mem.hold (i:=2) (e:=eRow (rI .i64) 3 (.slice ad_0_1 p0.l.length cp_0_1) a0.2.2.2) y)
  rw [bn] at S
  exact leafT (⟨a0.2.1,a0.2.2.2,Option.some.inj h,ad_0_1,cp_0_1,S.fix [3,2] [1,2] (by decide) y y y⟩)
 refine ⟨_,[],y,(srcs_of [] y y y),fun G a w S=>?_⟩
 refine sAlloc (.agg #[iv 0,iv 0,.slice none 0 0]) S (wN y) y y [iv 0,iv 0,.slice none 0 0] y y (lb y) fun a aV w S=>leafL ⟨y,_,_,.inl ⟨4,(.pointer (some ⟨aV,0,none⟩)),[],y,S,hz_of y,?_⟩⟩
 refine node_by (A:=anc_reduce_search_from_s3_1) 17 (by kernel_rfl) (by kernel_rfl) (by kernel_rfl) (by kernel_rfl) (by kernel_rfl) [13,0,1,2,3,4,5,6,7] (by kernel_rfl) (by decide) (by decide) (fF ?_ (fF ?_ (fF ?_ (fF ?_ (fF ?_ (fF ?_ (fF ?_ (fF ?_ (fN ?_ (fE 8 (fE 8 (fE 8 (fE 8 (fY (aB 14 2 8 (by decide) (fE 8 (fE 8 (trivial)))))))))))))))))) [] (fun q hq=>by cases hq) (fun hY=>absurd (hY 8 (by decide)) (by decide))
 ·exact fM 1 none y y y y (.inl y) y y y
 ·refine fJ [(20,_)] 2 [some 1] fun G a w S=>?_
  exact nilCheck_ok (q:=⟨bb0,0,none⟩) S (wN y) y y y (lb y) fun a S=>leafL ⟨y,S⟩
 ·refine fJ [(21,_)] 3 [some 2] fun G a w S=>?_
  exact sField (b:=bb0) (off:=0) 0 0 S (wN y) y y y y y (lb y) fun a S=>leafL ⟨y,S⟩
 ·refine fJ [(22,_)] 4 [some 3] fun G a w S=>?_
  exact sLoadN (p:=bb0) (off:=0) (T:=68) (vs:=[iv p0.g.W,iv p0.g.H,.slice a2 p0.g.Bits.length a3,iv p0.k,.slice ad_0_1 p0.l.length cp_0_1,.slice ak p0.best.length al,iv p0.least]) 1 [iv p0.g.W,iv p0.g.H,.slice a2 p0.g.Bits.length a3] S (wN y) y y y y y y y (lb y) fun a S=>leafL ⟨y,S⟩
 ·exact fM 5 none y y y y (.inl y) y y y
 ·refine fJ [(24,_)] 6 [some 5] fun G a w S=>?_
  exact nilCheck_ok (q:=⟨bb0,0,none⟩) S (wN y) y y y (lb y) fun a S=>leafL ⟨y,S⟩
 ·refine fJ [(25,_)] 7 [some 6] fun G a w S=>?_
  exact sField (b:=bb0) (off:=0) 4 4 S (wN y) y y y y y (lb y) fun a S=>leafL ⟨y,S⟩
 ·refine fJ [(26,_)] 8 [some 7] fun G a w S=>?_
  exact sLoad1 1 (.slice ad_0_1 p0.l.length cp_0_1) S (wN y) y y y y y y (lb y) fun a S=>leafL ⟨y,S⟩
 refine ⟨_,[(23,.agg #[iv p0.g.W,iv p0.g.H,.slice a2 p0.g.Bits.length a3]),(27,.slice ad_0_1 p0.l.length cp_0_1)],y,(srcs_of [some 4,some 8] y y y),fun G a w S=>?_⟩
 have S:=S.learn (fRep r_api_Grid (.agg #[iv p0.g.W,iv p0.g.H,.slice a2 p0.g.Bits.length a3]) p0.g) ⟨_,y,S.mem.know (i:=0) (e:=fRep (rL rB) (.slice a2 p0.g.Bits.length a3) p0.g.Bits) y⟩
 refine sCall (X:=Option Addr × Nat) (f:=12) (vs:=[.agg #[iv p0.g.W,iv p0.g.H,.slice a2 p0.g.Bits.length a3],.slice ad_0_1 p0.l.length cp_0_1]) (val:=fun x=>.tuple #[.agg #[iv a0.1.W,iv a0.1.H,.slice x.1 a0.1.Bits.length x.2],iv a0.2.1,iv a0.2.2.1]) (B':=fun x=>[eRow rB 4 (.slice x.1 a0.1.Bits.length x.2) a0.1.Bits,eRow (rI .i64) 3 (.slice ad_0_1 p0.l.length cp_0_1) a0.2.2.2]) (D':=fun _=>[]) [eRow (rI .i64) 3 (.slice ad_0_1 p0.l.length cp_0_1) p0.l] [eBox aV 24 [iv 0,iv 0,.slice none 0 0],eBox bb0 68 [iv p0.g.W,iv p0.g.H,.slice a2 p0.g.Bits.length a3,iv p0.k,.slice ad_0_1 p0.l.length cp_0_1,.slice ak p0.best.length al,iv p0.least]] [fRep r_api_Grid (.agg #[iv p0.g.W,iv p0.g.H,.slice a2 p0.g.Bits.length a3]) p0.g] [2,0,1] [0] S (wN y) y callee12 y (by decide) y y (fun E1 w1 S1=>c_reduce_Change_s1 E1 w1 p0.g (.agg #[iv p0.g.W,iv p0.g.H,.slice a2 p0.g.Bits.length a3]) p0.l ad_0_1 cp_0_1 a0 aT S1) y (lb y) fun xx a w S=>?_
 obtain ⟨ab,ac⟩:=xx
 dsimp only at S
 refine leafL ⟨y,_,_,.inl ⟨28,(.tuple #[.agg #[iv a0.1.W,iv a0.1.H,.slice ab a0.1.Bits.length ac],iv a0.2.1,iv a0.2.2.1]),[(9,19,.tuple #[.agg #[iv a0.1.W,iv a0.1.H,.slice ab a0.1.Bits.length ac],iv a0.2.1,iv a0.2.2.1]),(10,29,.agg #[iv a0.1.W,iv a0.1.H,.slice ab a0.1.Bits.length ac]),(11,30,iv a0.2.1),(12,31,iv a0.2.2.1)],y,S,hz_of y,?_⟩⟩
 refine node_by (A:=anc_reduce_search_from_s3_1) 17 (by kernel_rfl) (by kernel_rfl) (by kernel_rfl) (by kernel_rfl) (by kernel_rfl) [9,10,11,12,8,13,0,1,2,3,4,5,6,7] (by kernel_rfl) (by decide) (by decide) (fD 8 (fD 8 (fD 8 (fD 8 (fD 8 (fD 8 (fD 8 (fD 8 (fY (fF ?_ (fF ?_ (fF ?_ (fF ?_ (fY (fN ?_ (fE 14 (fE 14 (trivial)))))))))))))))))) [] (fun q hq=>by cases hq) (fun hY=>absurd (hY 14 (by decide)) (by decide))
 ·exact fM 0 (some 4) y y y y (.inl y) y y y
 ·refine fJ [(19,_)] 1 [some 0] fun G a w S=>?_
  exact sExtract (vs:=[.agg #[iv a0.1.W,iv a0.1.H,.slice ab a0.1.Bits.length ac],iv a0.2.1,iv a0.2.2.1]) (.agg #[iv a0.1.W,iv a0.1.H,.slice ab a0.1.Bits.length ac]) S (wN y) y y y y (lb y) fun a S=>leafL ⟨y,S⟩
 ·refine fJ [(19,_)] 2 [some 0] fun G a w S=>?_
  exact sExtract (vs:=[.agg #[iv a0.1.W,iv a0.1.H,.slice ab a0.1.Bits.length ac],iv a0.2.1,iv a0.2.2.1]) (iv a0.2.1) S (wN y) y y y y (lb y) fun a S=>leafL ⟨y,S⟩
 ·refine fJ [(19,_)] 3 [some 0] fun G a w S=>?_
  exact sExtract (vs:=[.agg #[iv a0.1.W,iv a0.1.H,.slice ab a0.1.Bits.length ac],iv a0.2.1,iv a0.2.2.1]) (iv a0.2.2.1) S (wN y) y y y y (lb y) fun a S=>leafL ⟨y,S⟩
 refine ⟨_,[(4,.pointer (some ⟨aV,0,none⟩)),(29,.agg #[iv a0.1.W,iv a0.1.H,.slice ab a0.1.Bits.length ac])],y,(srcs_of [some 5,some 1] y y y),fun G a w S=>?_⟩
 refine sStore (p:=aV) (off:=0) (T:=24) (vs:=[iv 0,iv 0,.slice none 0 0]) (v:=.agg #[iv a0.1.W,iv a0.1.H,.slice ab a0.1.Bits.length ac]) 2 [iv a0.1.W,iv a0.1.H,.slice ab a0.1.Bits.length ac] S (wN y) y y y y y y y (by simp) y fun a w S=>leafL ⟨y,_,_,.inr ⟨[(15,5,iv a0.2.1),(16,6,iv a0.2.2.1)],y,S,hz_of y,?_⟩⟩
 refine node_by (A:=anc_reduce_search_from_s3_1) 17 (by kernel_rfl) (by kernel_rfl) (by kernel_rfl) (by kernel_rfl) (by kernel_rfl) [15,16,9,10,11,12,8,13,0,1,2,3,4,5,6,7] (by kernel_rfl) (by decide) (by decide) (fD 14 (fD 14 (fD 14 (fD 14 (fD 14 (fD 14 (fD 14 (fD 14 (fY (fD 14 (fD 14 (fF ?_ (fF ?_ (fY (fY (fF ?_ (fF ?_ (trivial)))))))))))))))))) [(0,.pointer (some ⟨bb0,0,none⟩)),(5,iv a0.2.1)] (fin_of [none,some 0] y (by kernel_rfl) (by kernel_rfl)) (fun _ a w S=>?_)
 ·refine fJ [(19,_)] 4 [some 2] fun G a w S=>?_
  exact sExtract (vs:=[.agg #[iv a0.1.W,iv a0.1.H,.slice ab a0.1.Bits.length ac],iv a0.2.1,iv a0.2.2.1]) (iv a0.2.1) S (wN y) y y y y (lb y) fun a S=>leafL ⟨y,S⟩
 ·refine fJ [(19,_)] 5 [some 2] fun G a w S=>?_
  exact sExtract (vs:=[.agg #[iv a0.1.W,iv a0.1.H,.slice ab a0.1.Bits.length ac],iv a0.2.1,iv a0.2.2.1]) (iv a0.2.2.1) S (wN y) y y y y (lb y) fun a S=>leafL ⟨y,S⟩
 ·exact fM 0 (some 4) y y y y (.inr y) y y y
 ·exact fM 1 (some 5) y y y y (.inr y) y y y
 have bo:=row_v (S.mem.hold (i:=2) (e:=eRow (rI .i64) 3 (.slice ad_0_1 p0.l.length cp_0_1) a0.2.2.2) y)
 rw [bo] at S
 exact leafT (⟨a0.2.1,a0.2.2.2,Option.some.inj h,ad_0_1,cp_0_1,S.fix [3,2] [1,2] (by decide) y y y⟩)
def anc_reduce_search_from_s2_0:List (List Nat):=[[],[0],[0,1],[0,1,2],[0,1,2,3],[],[5],[5,6],[5,6,7],[5,6,7,8],[0,1,2,3,4,5,6,7,8,9]]
def anc_reduce_search_from_s2_1:List (List Nat):=[[],[0],[0,1],[0,1,2],[],[4],[4,5],[4,5,6],[0,1,2,3,4,5,6,7],[0,1,2,3,4,5,6,7,8],[0,1,2,3,4,5,6,7,8,9],[0,1,2,3,4,5,6,7,8,9],[0,1,2,3,4,5,6,7,8,9],[],[0,1,2,3,4,5,6,7,8,9,10,13],[0,1,2,3,4,5,6,7,8,9,10,11,13,14],[0,1,2,3,4,5,6,7,8,9,10,11,12,13,14,15]]
def anc_reduce_search_from_s2_2:List (List Nat):=[[],[],[1],[1,2],[1,2,3],[],[5],[5,6],[5,6,7],[5,6,7,8],[5,6,7,8,9],[1,2,3,4,5,6,7,8,9,10],[0,1,2,3,4,5,6,7,8,9,10,11],[0,1,2,3,4,5,6,7,8,9,10,11,12],[0,1,2,3,4,5,6,7,8,9,10,11,12,13]]
noncomputable def reduce_search_from_s2_l1 (p0:reduce_search) (p1:Int):(Int × Int × Int × Int × List Int × List Int × Int)→Option ((Int × Int × Int × Int × List Int × List Int × Int) ⊕ (Int × Int × Int × List Int × List Int × Int)):=fun s0=>match s0 with
 | (a2,a3,a4,a5,a6,a7,a8)=>
  if decide (a2 < (if p0.k < (w64 (p1 + 1)) then p0.k else w64 (p1 + 1))) then
   (appO a6 ([a2]:List Int)).bind fun a9=>
   (F_reduce_search_from_s3 (reduce_search.mk (api_Grid.mk a3 a4 p0.g.Bits) a5 a9 a7 a8) (if p1 < (w64 (a2 + 1)) then w64 (a2 + 1) else p1)).bind fun a0=>
   (sliceO a0.l 0 (w64 ((a0.l.length:Int) - 1))).bind fun aa=>
   some (.inl (w64 (a2 + 1),a0.g.W,a0.g.H,a0.k,aa,a0.best,a0.least))
  else
   some (.inr (a3,a4,a5,a6,a7,a8))
noncomputable def F_reduce_search_from_s2 (p0:reduce_search) (p1:Int):Option reduce_search:=
 if (p0.l.length:Int) == p0.g.W then
  Option.bind (α:=(List Int × List Int × Int)) (
   Option.bind (α:=(Int × List Int)) (
    (F_reduce_Change_s1 p0.g p0.l).bind fun a2=>
    some (a2.2.1,a2.2.2.2)) fun (a3,a4)=>
   Option.bind (α:=Bool) (
    if p0.best.isEmpty then
     some true
    else
     some (decide (a3 < p0.least))) fun a5=>
   if a5 then
    (F_slices_Clone___int_int__s1 a4).bind fun a0=>
    (neO a0.1).bind fun af=>
    some (a0.2,a0.1,a3)
   else
    some (a4,p0.best,p0.least)) fun (o8,a6,a7)=>
  some (reduce_search.mk p0.g p0.k o8 a6 a7)
 else
  (whileO (reduce_search_from_s2_l1 p0 p1) (0,p0.g.W,p0.g.H,p0.k,p0.l,p0.best,p0.least)).bind fun (a8,a9,aa,ab,ac,ae)=>
   some (reduce_search.mk (api_Grid.mk a8 a9 p0.g.Bits) aa ab ac ae)
theorem c_reduce_search_from_s2 (E:Nat→Prop) (w0:World) (p0:reduce_search) (bb0:Nat) (u_0_0:Value) (ad_0_1:Option Addr) (cp_0_1:Nat) (u_0_2:Value) (p1:Int) (r:reduce_search) (h:F_reduce_search_from_s2 p0 p1=some r) (S:St0 E (keysL [eBox bb0 68 [iv p0.g.W,iv p0.g.H,u_0_0,iv p0.k,.slice ad_0_1 p0.l.length cp_0_1,u_0_2,iv p0.least],eRow (rI .i64) 3 (.slice ad_0_1 p0.l.length cp_0_1) p0.l]) w0 w0 [eBox bb0 68 [iv p0.g.W,iv p0.g.H,u_0_0,iv p0.k,.slice ad_0_1 p0.l.length cp_0_1,u_0_2,iv p0.least],eRow (rI .i64) 3 (.slice ad_0_1 p0.l.length cp_0_1) p0.l] [fRep (rL rB) (u_0_0) p0.g.Bits,fRep (rLz (rI .i64)) (u_0_2) p0.best]) :
 Calls Try.prog 41 #[.pointer (some ⟨bb0,0,none⟩),iv p1] w0 (Ret (X:=Option Addr × Nat × Value) E (keysL [eBox bb0 68 [iv p0.g.W,iv p0.g.H,u_0_0,iv p0.k,.slice ad_0_1 p0.l.length cp_0_1,u_0_2,iv p0.least],eRow (rI .i64) 3 (.slice ad_0_1 p0.l.length cp_0_1) p0.l]) w0 (fun _=>.tuple #[]) (fun x=>[eBox bb0 68 [iv r.g.W,iv r.g.H,u_0_0,iv r.k,.slice x.1 r.l.length x.2.1,x.2.2,iv r.least],eRow (rI .i64) 3 (.slice x.1 r.l.length x.2.1) r.l]) (fun x=>[fRep (rLz (rI .i64)) x.2.2 r.best])):=by
 unfold F_reduce_search_from_s2 at h
 obtain ⟨a2,a3,_,rfl,_⟩:=S.know (i:=0) (e:=fRep (rL rB) (u_0_0) p0.g.Bits) y
 obtain ⟨⟨ak,al,_,rfl,_⟩,_⟩:=S.know (i:=1) (e:=fRep (rLz (rI .i64)) (u_0_2) p0.best) y
 generalize (keysL [eBox bb0 68 [iv p0.g.W,iv p0.g.H,.slice a2 p0.g.Bits.length a3,iv p0.k,.slice ad_0_1 p0.l.length cp_0_1,.slice ak p0.best.length al,iv p0.least],eRow (rI .i64) 3 (.slice ad_0_1 p0.l.length cp_0_1) p0.l])=M9 at S ⊢
 refine sEnter (args:=[.pointer (some ⟨bb0,0,none⟩),iv p1]) 98 Try.func41 y y (by simp) S (fun a S=>?_)
 refine sSeq (fun K5 bp=>sSeq (fun K6 bq=>sDraw (nf:=[]) (W:=[(0,8,.pointer (some ⟨bb0,0,none⟩)),(1,9,.pointer (some ⟨bb0,0,none⟩)),(2,10,.pointer (some ⟨bb0,4,none⟩)),(3,11,.slice ad_0_1 p0.l.length cp_0_1),(4,12,iv (p0.l.length:Int)),(5,13,.pointer (some ⟨bb0,0,none⟩)),(6,14,.pointer (some ⟨bb0,0,none⟩)),(7,15,.pointer (some ⟨bb0,0,none⟩)),(8,16,.pointer (some ⟨bb0,0,none⟩)),(9,17,iv p0.g.W),(10,18,.bool ((p0.l.length:Int) == p0.g.W))]) y S ?_))
 refine node_by (A:=anc_reduce_search_from_s2_0) 11 (by kernel_rfl) (by kernel_rfl) (by kernel_rfl) (by kernel_rfl) (by kernel_rfl) [0,1,2,3,4,5,6,7,8,9,10] (by kernel_rfl) (by decide) (by decide) (fF ?_ (fF ?_ (fF ?_ (fF ?_ (fF ?_ (fF ?_ (fF ?_ (fF ?_ (fF ?_ (fF ?_ (fF ?_ (trivial)))))))))))) [(0,.pointer (some ⟨bb0,0,none⟩)),(1,iv p1),(18,.bool ((p0.l.length:Int) == p0.g.W))] (fin_of [none,none,some 10] y (by kernel_rfl) (by kernel_rfl)) (fun _ a w S=>?_)
 ·exact fM 0 none y y y y (.inl y) y y y
 ·refine fJ [(8,_)] 1 [some 0] fun G a w S=>?_
  exact nilCheck_ok (q:=⟨bb0,0,none⟩) S (wN y) y y y (lb y) fun a S=>leafL ⟨y,S⟩
 ·refine fJ [(9,_)] 2 [some 1] fun G a w S=>?_
  exact sField (b:=bb0) (off:=0) 4 4 S (wN y) y y y y y (lb y) fun a S=>leafL ⟨y,S⟩
 ·refine fJ [(10,_)] 3 [some 2] fun G a w S=>?_
  exact sLoad1 0 (.slice ad_0_1 p0.l.length cp_0_1) S (wN y) y y y y y y (lb y) fun a S=>leafL ⟨y,S⟩
 ·refine fJ [(11,_)] 4 [some 3] fun G a w S=>?_
  exact sLen S (wN y) y Try.underlying25 y y (lb y) fun a S=>leafL ⟨y,S⟩
 ·exact fM 5 none y y y y (.inl y) y y y
 ·refine fJ [(13,_)] 6 [some 5] fun G a w S=>?_
  exact nilCheck_ok (q:=⟨bb0,0,none⟩) S (wN y) y y y (lb y) fun a S=>leafL ⟨y,S⟩
 ·refine fJ [(14,_)] 7 [some 6] fun G a w S=>?_
  exact sField (b:=bb0) (off:=0) 0 0 S (wN y) y y y y y (lb y) fun a S=>leafL ⟨y,S⟩
 ·refine fJ [(15,_)] 8 [some 7] fun G a w S=>?_
  exact sField (b:=bb0) (off:=0) 0 0 S (wN y) y y y y y (lb y) fun a S=>leafL ⟨y,S⟩
 ·refine fJ [(16,_)] 9 [some 8] fun G a w S=>?_
  exact sLoad1 0 (iv p0.g.W) S (wN y) y y y y y y (lb y) fun a S=>leafL ⟨y,S⟩
 ·refine fJ [(12,_),(17,_)] 10 [some 4,some 9] fun G a w S=>?_
  exact sBin _ S (wN y) y y y (bEq _ _ _ _ .i64 (p0.l.length:Int) p0.g.W) y (lb y) fun a S=>leafL ⟨y,S⟩
 refine leafT (bq _ _ ?_)
 rcases iS h with ⟨aW,h⟩ | ⟨aW,h⟩
 rotate_left
 ·refine sCondF S y aW (wp_skip (leafT (bp _ _ ?_)))
  refine sSeq (fun bB aX=>sRegion (sM S fun a S=>?_))
  refine sBin _ S (wN y) y y y (bAdd _ _ _ _ p1 1) y (lb y) fun a S=>sM S fun a S=>?_
  refine nilCheck_ok (q:=⟨bb0,0,none⟩) S (wN y) y y y (lb y) fun a S=>sField (b:=bb0) (off:=0) 3 3 S (wN y) y y y y y (lb y) fun a S=>sLoad1 0 (iv p0.k) S (wN y) y y y y y y (lb y) fun a S=>sMin2 (p:=w64 (p1 + 1)) (q:=p0.k) S (wN y) y y y y (lb y) fun a S=>sM S fun a S=>?_
  refine lT (aX _ _ (wp_block ?_))
  obtain ⟨bC,hl,br⟩:=bS h
  refine sLoop hl (fun s0 a w=>match s0 with | (af,aJ,aK,aL,aA,ar,aM)=>∃ am,∃ ao,∃ ah,∃ ai,St [] E M9 w0 98 a w [(0,.pointer (some ⟨bb0,0,none⟩)),(1,iv p1),(63,iv (if p0.k < (w64 (p1 + 1)) then p0.k else w64 (p1 + 1))),(64,iv af)] [eBox bb0 68 [iv aJ,iv aK,.slice a2 p0.g.Bits.length a3,iv aL,.slice am aA.length ao,.slice ah ar.length ai,iv aM],eRow (rI .i64) 3 (.slice am aA.length ao) aA] [fRep (rL rB) (.slice a2 p0.g.Bits.length a3) p0.g.Bits,fRep (rLz (rI .i64)) (.slice ah ar.length ai) ar]) ⟨ad_0_1,cp_0_1,ak,al,S.fix [0,1] [0,1] (by decide) y y y⟩ ?_
  clear hl h
  intro s0 a w c0 hI h aZ
  obtain ⟨af,aJ,aK,aL,aA,ar,aM⟩:=s0
  unfold reduce_search_from_s2_l1 at h
  dsimp only at h hI
  obtain ⟨am,ao,ah,ai,S⟩:=hI
  refine sSeq (fun bD b1=>sRegion (sBin _ S (wN y) y y y (bLt _ _ _ _ .i64 af (if p0.k < (w64 (p1 + 1)) then p0.k else w64 (p1 + 1))) y (lb y) fun a S=>lT (b1 _ _ (sSeq (fun bE b3=>?_)))))
  rcases iS h with ⟨aC,h⟩ | ⟨aC,h⟩
  rotate_left
  ·refine sCondF S y aC ?_
   obtain rfl:=tS h
   obtain rfl:=aZ _ y
   have h:=br
   try dsimp only at h
   obtain rfl:=tS h
   exact wp_exit (xThen (xThen (xHit (sEnd (.tuple #[]) S (rsl0 y ) ⟨(am,ao,(.slice ah ar.length ai)),y,S.mem.sel [0,1] [1] (by decide) y y⟩))))
  refine sCondT S y aC (wp_skip (leafT (b3 _ _ ?_)))
  refine sSeq (fun bG b4=>wp_block ?_)
  refine sSeq (fun bH b5=>sRegion (sM S fun a S=>?_))
  refine sN S fun a S=>?_
  refine lT (b5 _ _ (sSeq (fun bI ba=>sRegion (sM S fun a S=>?_))))
  refine sM S fun a S=>?_
  refine nilCheck_ok (q:=⟨bb0,0,none⟩) S (wN y) y y y (lb y) fun a S=>sField (b:=bb0) (off:=0) 4 4 S (wN y) y y y y y (lb y) fun a S=>sLoad1 0 (.slice am aA.length ao) S (wN y) y y y y y y (lb y) fun a S=>sM S fun a S=>?_
  refine sLit (r:=(rI .i64)) (T:=3) (xs:=([af]:List Int)) [(0,iv af)] 1 [iv af] [iv af] (iv 0) 8 S (wN y) y y Try.underlying25 y (by decide) (by decide) (by kernel_rfl) y (fun E1 w1 hE=>All.cons y (All.nil _ _ _)) y y (lb y) fun a w aO aP S=>?_
  obtain ⟨aH,bb,h⟩:=bS h
  refine sApp (r:=(rI .i64)) (T:=3) (xs:=aA) (ys:=([af]:List Int)) (v:=.slice am aA.length ao) (u:=.slice aO ([af]:List Int).length aP) 2 (iv 0) 8 S (wN y) y Try.underlying25 y y (by decide) y y y (src_R (T:=3) 0 S.mem y) bb y (lb y) fun a w au av S=>nilCheck_ok (q:=⟨bb0,0,none⟩) S (wN y) y y y (lb y) fun a S=>sField (b:=bb0) (off:=0) 4 4 S (wN y) y y y y y (lb y) fun a S=>sStore (p:=bb0) (off:=4) (T:=68) (vs:=[iv aJ,iv aK,.slice a2 p0.g.Bits.length a3,iv aL,.slice am aA.length ao,.slice ah ar.length ai,iv aM]) (v:=.slice au aH.length av) 2 [.slice au aH.length av] S (wN y) y y y y y y y (by simp) y fun a w S=>lT (ba _ _ (sSeq (fun bJ bc=>sRegion (sM S fun a S=>?_))))
  refine sM S fun a S=>?_
  refine sM S fun a S=>?_
  refine sBin _ S (wN y) y y y (bAdd _ _ _ _ af 1) y (lb y) fun a S=>sMax2 (p:=p1) (q:=w64 (af + 1)) S (wN y) y y y y (lb y) fun a S=>?_
  obtain ⟨a4,bf,h⟩:=bS h
  refine sCall (X:=Option Addr × Nat × Value) (f:=41) (vs:=[.pointer (some ⟨bb0,0,none⟩),iv (if p1 < (w64 (af + 1)) then w64 (af + 1) else p1)]) (val:=fun _=>.tuple #[]) (B':=fun x=>[eBox bb0 68 [iv a4.g.W,iv a4.g.H,.slice a2 p0.g.Bits.length a3,iv a4.k,.slice x.1 a4.l.length x.2.1,x.2.2,iv a4.least],eRow (rI .i64) 3 (.slice x.1 a4.l.length x.2.1) a4.l]) (D':=fun x=>[fRep (rLz (rI .i64)) x.2.2 a4.best]) [eBox bb0 68 [iv aJ,iv aK,.slice a2 p0.g.Bits.length a3,iv aL,.slice au aH.length av,.slice ah ar.length ai,iv aM],eRow (rI .i64) 3 (.slice au aH.length av) aH] [eRow (rI .i64) 3 (.slice aO ([af]:List Int).length aP) ([af]:List Int)] [fRep (rL rB) (.slice a2 p0.g.Bits.length a3) p0.g.Bits,fRep (rLz (rI .i64)) (.slice ah ar.length ai) ar] [0,1,2] [0,1] S (wN y) y callee41 y (by decide) y y (fun E1 w1 S1=>c_reduce_search_from_s3 E1 w1 (reduce_search.mk (api_Grid.mk aJ aK p0.g.Bits) aL aH ar aM) bb0 (.slice a2 p0.g.Bits.length a3) au av (.slice ah ar.length ai) (if p1 < (w64 (af + 1)) then w64 (af + 1) else p1) a4 bf S1) y (lb y) fun xx a w S=>?_
  obtain ⟨a9,aa,bt⟩:=xx
  dsimp only at S
  obtain ⟨⟨aQ,aR,_,rfl,_⟩,_⟩:=S.mem.know (i:=0) (e:=fRep (rLz (rI .i64)) (bt) a4.best) y
  refine lT (bc _ _ ?_)
  obtain ⟨aS,bg,h⟩:=bS h
  refine sDraw (nf:=[11,14]) (W:=[(0,83,.pointer (some ⟨bb0,0,none⟩)),(1,84,.pointer (some ⟨bb0,0,none⟩)),(2,85,.pointer (some ⟨bb0,0,none⟩)),(3,86,.pointer (some ⟨bb0,4,none⟩)),(4,87,.slice a9 a4.l.length aa),(5,88,.pointer (some ⟨bb0,0,none⟩)),(6,89,.pointer (some ⟨bb0,0,none⟩)),(7,90,.pointer (some ⟨bb0,4,none⟩)),(8,91,.slice a9 a4.l.length aa),(9,92,iv (a4.l.length:Int)),(10,93,iv (w64 ((a4.l.length:Int) - 1)))]) y S ?_
  refine node_by (A:=anc_reduce_search_from_s2_2) 15 (by kernel_rfl) (by kernel_rfl) (by kernel_rfl) (by kernel_rfl) (by kernel_rfl) [0,1,2,3,4,5,6,7,8,9,10] (by kernel_rfl) (by decide) (by decide) (fF ?_ (fF ?_ (fF ?_ (fF ?_ (fF ?_ (fF ?_ (fF ?_ (fF ?_ (fF ?_ (fF ?_ (fF ?_ (fN ?_ (fE 11 (fE 11 (aB 14 0 11 (by decide) (trivial)))))))))))))))) [] (fun q hq=>by cases hq) (fun hY=>absurd (hY 11 (by decide)) (by decide))
  ·exact fM 0 none y y y y (.inl y) y y y
  ·exact fM 1 none y y y y (.inl y) y y y
  ·refine fJ [(84,_)] 2 [some 1] fun G a w S=>?_
   exact nilCheck_ok (q:=⟨bb0,0,none⟩) S (wN y) y y y (lb y) fun a S=>leafL ⟨y,S⟩
  ·refine fJ [(85,_)] 3 [some 2] fun G a w S=>?_
   exact sField (b:=bb0) (off:=0) 4 4 S (wN y) y y y y y (lb y) fun a S=>leafL ⟨y,S⟩
  ·refine fJ [(86,_)] 4 [some 3] fun G a w S=>?_
   exact sLoad1 0 (.slice a9 a4.l.length aa) S (wN y) y y y y y y (lb y) fun a S=>leafL ⟨y,S⟩
  ·exact fM 5 none y y y y (.inl y) y y y
  ·refine fJ [(88,_)] 6 [some 5] fun G a w S=>?_
   exact nilCheck_ok (q:=⟨bb0,0,none⟩) S (wN y) y y y (lb y) fun a S=>leafL ⟨y,S⟩
  ·refine fJ [(89,_)] 7 [some 6] fun G a w S=>?_
   exact sField (b:=bb0) (off:=0) 4 4 S (wN y) y y y y y (lb y) fun a S=>leafL ⟨y,S⟩
  ·refine fJ [(90,_)] 8 [some 7] fun G a w S=>?_
   exact sLoad1 0 (.slice a9 a4.l.length aa) S (wN y) y y y y y y (lb y) fun a S=>leafL ⟨y,S⟩
  ·refine fJ [(91,_)] 9 [some 8] fun G a w S=>?_
   exact sLen S (wN y) y Try.underlying25 y y (lb y) fun a S=>leafL ⟨y,S⟩
  ·refine fJ [(92,_)] 10 [some 9] fun G a w S=>?_
   exact sBin _ S (wN y) y y y (bSub _ _ _ _ (a4.l.length:Int) 1) y (lb y) fun a S=>leafL ⟨y,S⟩
  refine ⟨_,[(87,.slice a9 a4.l.length aa),(93,iv (w64 ((a4.l.length:Int) - 1)))],y,(srcs_of [some 4,some 10] y y y),fun G a w S=>?_⟩
  refine sSliceT (r:=(rI .i64)) (T:=3) (ad:=a9) (c:=aa) (xs:=a4.l) (vlo:=none) (vhi:=(some (.int .i64 (w64 ((a4.l.length:Int) - 1))))) (hi':=w64 ((a4.l.length:Int) - 1)) 1 S (wN y) y Try.underlying25 y y y y y (.inr y) (.inl y) bg y (lb y) fun a S=>?_
  refine leafL ⟨y,_,_,.inl ⟨94,(.slice a9 aS.length aa),[(12,95,.pointer (some ⟨bb0,0,none⟩)),(13,96,.pointer (some ⟨bb0,4,none⟩))],y,S,hz_of y,?_⟩⟩
  refine node_by (A:=anc_reduce_search_from_s2_2) 15 (by kernel_rfl) (by kernel_rfl) (by kernel_rfl) (by kernel_rfl) (by kernel_rfl) [12,13,11,0,1,2,3,4,5,6,7,8,9,10] (by kernel_rfl) (by decide) (by decide) (fF ?_ (fD 11 (fD 11 (fD 11 (fD 11 (fD 11 (fD 11 (fD 11 (fD 11 (fD 11 (fD 11 (fY (fF ?_ (fF ?_ (fN ?_ (trivial)))))))))))))))) [] (fun q hq=>by cases hq) (fun hY=>absurd (hY 14 (by decide)) (by decide))
  ·exact fM 3 none y y y y (.inl y) y y y
  ·refine fJ [(83,_)] 0 [some 3] fun G a w S=>?_
   exact nilCheck_ok (q:=⟨bb0,0,none⟩) S (wN y) y y y (lb y) fun a S=>leafL ⟨y,S⟩
  ·refine fJ [(95,_)] 1 [some 0] fun G a w S=>?_
   exact sField (b:=bb0) (off:=0) 4 4 S (wN y) y y y y y (lb y) fun a S=>leafL ⟨y,S⟩
  refine ⟨_,[(94,.slice a9 aS.length aa),(96,.pointer (some ⟨bb0,4,none⟩))],y,(srcs_of [some 2,some 1] y y y),fun G a w S=>?_⟩
  refine sStore (p:=bb0) (off:=4) (T:=68) (vs:=[iv a4.g.W,iv a4.g.H,.slice a2 p0.g.Bits.length a3,iv a4.k,.slice a9 a4.l.length aa,.slice aQ a4.best.length aR,iv a4.least]) (v:=.slice a9 aS.length aa) 1 [.slice a9 aS.length aa] S (wN y) y y y y y y y (by simp) y fun a w S=>leafL ⟨y,_,_,.inr ⟨[],y,S,hz_of y,?_⟩⟩
  refine node_by (A:=anc_reduce_search_from_s2_2) 15 (by kernel_rfl) (by kernel_rfl) (by kernel_rfl) (by kernel_rfl) (by kernel_rfl) [12,13,11,0,1,2,3,4,5,6,7,8,9,10] (by kernel_rfl) (by decide) (by decide) (fD 14 (fD 14 (fD 14 (fD 14 (fD 14 (fD 14 (fD 14 (fD 14 (fD 14 (fD 14 (fD 14 (fY (fD 14 (fD 14 (fY (trivial)))))))))))))))) [(0,.pointer (some ⟨bb0,0,none⟩)),(1,iv p1),(63,iv (if p0.k < (w64 (p1 + 1)) then p0.k else w64 (p1 + 1))),(64,iv af)] (fin_of [none,none,none,none] y (by kernel_rfl) (by kernel_rfl)) (fun _ a w S=>?_)
  refine leafB (leafT (b4 _ _ ?_))
  refine sRegion (sBin _ S (wN y) y y y (bAdd _ _ _ _ af 1) y (lb y) fun a S=>sM S fun a S=>?_)
  exact lT (⟨(w64 (af + 1),a4.g.W,a4.g.H,a4.k,aS,a4.best,a4.least),(Option.some.inj h).symm,⟨a9,aa,aQ,aR,S.fix [0,1] [1,0] (by decide) y y y⟩⟩)
 refine sCondT S y aW ?_
 obtain ⟨bu,h,bv⟩:=bS h
 refine sCut (fun a w=>∃ o8,∃ aI,∃ bh,(o8,aI,bh)=bu∧∃ aU,∃ ax,∃ ay,∃ az,St [] E M9 w0 98 a w [] [eBox bb0 68 [iv p0.g.W,iv p0.g.H,.slice a2 p0.g.Bits.length a3,iv p0.k,.slice aU o8.length ax,.slice ay aI.length az,iv bh],eRow (rI .i64) 3 (.slice aU o8.length ax) o8] [fRep (rL rB) (.slice a2 p0.g.Bits.length a3) p0.g.Bits,fRep (rLz (rI .i64)) (.slice ay aI.length az) aI]) ?_ (fun a w hI=>?_)
 rotate_left
 ·obtain ⟨o8,aI,bh,rfl,aU,ax,ay,az,S⟩:=hI
  have h:=bv
  try dsimp only at h
  obtain rfl:=tS h
  exact wp_ret (rThen (sRet (.tuple #[]) S (rsl0 y ) ⟨(aU,ax,(.slice ay aI.length az)),y,S.mem.sel [0,1] [1] (by decide) y y⟩))
 obtain ⟨bw,h,bx⟩:=bS h
 refine sCut (fun a w=>∃ aw,∃ aj,(aw,aj)=bw∧∃ a5,∃ a6,St [] E M9 w0 98 a w [(0,.pointer (some ⟨bb0,0,none⟩)),(5,iv aw)] [eBox bb0 68 [iv p0.g.W,iv p0.g.H,.slice a2 p0.g.Bits.length a3,iv p0.k,.slice a5 aj.length a6,.slice ak p0.best.length al,iv p0.least],eRow (rI .i64) 3 (.slice a5 aj.length a6) aj] [fRep (rL rB) (.slice a2 p0.g.Bits.length a3) p0.g.Bits,fRep (rLz (rI .i64)) (.slice ak p0.best.length al) p0.best]) ?_ (fun a w hI=>?_)
 rotate_left
 ·obtain ⟨aw,aj,rfl,a5,a6,S⟩:=hI
  have h:=bx
  try dsimp only at h
  obtain ⟨bz,h,bA⟩:=bS h
  refine sCut (fun a w=>∃ bi,bi=bz∧St [] E M9 w0 98 a w [(0,.pointer (some ⟨bb0,0,none⟩)),(5,iv aw),(44,.bool bi)] [eBox bb0 68 [iv p0.g.W,iv p0.g.H,.slice a2 p0.g.Bits.length a3,iv p0.k,.slice a5 aj.length a6,.slice ak p0.best.length al,iv p0.least],eRow (rI .i64) 3 (.slice a5 aj.length a6) aj] [fRep (rL rB) (.slice a2 p0.g.Bits.length a3) p0.g.Bits,fRep (rLz (rI .i64)) (.slice ak p0.best.length al) p0.best]) ?_ (fun a w hI=>?_)
  ·refine sRegion (sM S fun a S=>?_)
   refine nilCheck_ok (q:=⟨bb0,0,none⟩) S (wN y) y y y (lb y) fun a S=>sField (b:=bb0) (off:=0) 5 5 S (wN y) y y y y y (lb y) fun a S=>sLoad1 0 (.slice ak p0.best.length al) S (wN y) y y y y y y (lb y) fun a S=>sBin _ S (wN y) y y y (bEqNilZ _ _ _ _ Try.underlying25 ak (p0.best.length) (al) (rLz_is (S.mem.know (i:=1) (e:=fRep (rLz (rI .i64)) (.slice ak p0.best.length al) p0.best) y))) y (lb y) fun a S=>sM S fun a S=>?_
   rcases iS h with ⟨ae,h⟩ | ⟨ae,h⟩
   ·refine sSkN 6 5 false 37 S y y ae y fun a S=>sPickT (.bool true) S (wN y) y y ae y y (lb y) fun a S=>?_
    exact lT (⟨true,Option.some.inj h,S.fix [0,1] [0,1] (by decide) y y y⟩)
   refine sMove (iv aw) S (wG 5 false 37 y y y ae) (.inl y) y y (lb y) fun a S=>sMove (.pointer (some ⟨bb0,0,none⟩)) S (wG 5 false 37 y y y ae) (.inl y) y y (lb y) fun a S=>nilCheck_ok (q:=⟨bb0,0,none⟩) S (wG 5 false 37 y y y ae) y y y (lb y) fun a S=>sField (b:=bb0) (off:=0) 6 6 S (wG 5 false 37 y y y ae) y y y y y (lb y) fun a S=>sLoad1 0 (iv p0.least) S (wG 5 false 37 y y y ae) y y y y y y (lb y) fun a S=>sBin _ S (wG 5 false 37 y y y ae) y y y (bLt _ _ _ _ .i64 aw p0.least) y (lb y) fun a S=>sPickF (.bool (decide (aw < p0.least))) S (wN y) y y ae y y (lb y) fun a S=>?_
   exact lT (⟨decide (aw < p0.least),Option.some.inj h,S.fix [0,1] [0,1] (by decide) y y y⟩)
  obtain ⟨bi,rfl,S⟩:=hI
  have h:=bA
  try dsimp only at h
  rcases iS h with ⟨aG,h⟩ | ⟨aG,h⟩
  rotate_left
  ·refine sCondF S y aG ?_
   exact wp_skip (leafT (⟨aj,p0.best,p0.least,Option.some.inj h,a5,a6,ak,al,S.fix [0,1] [0,1] (by decide) y y y⟩))
  refine sCondT S y aG (sRegion (sM S fun a S=>?_))
  refine sM S fun a S=>?_
  refine sM S fun a S=>?_
  refine nilCheck_ok (q:=⟨bb0,0,none⟩) S (wN y) y y y (lb y) fun a S=>sField (b:=bb0) (off:=0) 4 4 S (wN y) y y y y y (lb y) fun a S=>sLoad1 0 (.slice a5 aj.length a6) S (wN y) y y y y y y (lb y) fun a S=>?_
  obtain ⟨ag,bj,h⟩:=bS h
  refine sCall (X:=Option Addr × Nat) (f:=49) (vs:=[.slice a5 aj.length a6]) (val:=fun x=>.slice x.1 ag.1.length x.2) (B':=fun x=>[eRow (rI .i64) 3 (.slice x.1 ag.1.length x.2) ag.1,eRow (rI .i64) 3 (.slice a5 aj.length a6) ag.2]) (D':=fun _=>[]) [eRow (rI .i64) 3 (.slice a5 aj.length a6) aj] [eBox bb0 68 [iv p0.g.W,iv p0.g.H,.slice a2 p0.g.Bits.length a3,iv p0.k,.slice a5 aj.length a6,.slice ak p0.best.length al,iv p0.least]] [] [1,0] [] S (wN y) y callee49 y (by decide) y y (fun E1 w1 S1=>c_slices_Clone___int_int__s1 E1 w1 aj a5 a6 ag bj S1) y (lb y) fun xx a w S=>?_
  obtain ⟨ap,aq⟩:=xx
  dsimp only at S
  have bk:=row_v (S.mem.hold (i:=1) (e:=eRow (rI .i64) 3 (.slice a5 aj.length a6) ag.2) y)
  rw [bk] at S
  refine sM S fun a S=>?_
  refine nilCheck_ok (q:=⟨bb0,0,none⟩) S (wN y) y y y (lb y) fun a S=>sField (b:=bb0) (off:=0) 5 5 S (wN y) y y y y y (lb y) fun a S=>?_
  have S:=S.shutR (r:=(rI .i64)) (T:=3) (v:=.slice ap ag.1.length aq) (xs:=ag.1) 0 y
  obtain ⟨bK,bl,h⟩:=bS h
  have S:=S.learn (fRep (rLz (rI .i64)) (.slice ap ag.1.length aq) ag.1) (rLz_of (S.mem.know (i:=0) (e:=fRep (rL (rI .i64)) (.slice ap ag.1.length aq) ag.1) y) bl)
  refine sStore (p:=bb0) (off:=5) (T:=68) (vs:=[iv p0.g.W,iv p0.g.H,.slice a2 p0.g.Bits.length a3,iv p0.k,.slice a5 ag.2.length a6,.slice ak p0.best.length al,iv p0.least]) (v:=.slice ap ag.1.length aq) 1 [.slice ap ag.1.length aq] S (wN y) y y y y y y y (by simp) y fun a w S=>nilCheck_ok (q:=⟨bb0,0,none⟩) S (wN y) y y y (lb y) fun a S=>sField (b:=bb0) (off:=0) 6 6 S (wN y) y y y y y (lb y) fun a S=>sStore (p:=bb0) (off:=6) (T:=68) (vs:=[iv p0.g.W,iv p0.g.H,.slice a2 p0.g.Bits.length a3,iv p0.k,.slice a5 ag.2.length a6,.slice ap ag.1.length aq,iv p0.least]) (v:=iv aw) 0 [iv aw] S (wN y) y y y y y y y (by simp) y fun a w S=>?_
  exact lT (⟨ag.2,ag.1,aw,Option.some.inj h,a5,a6,ap,aq,S.fix [0,1] [2,0] (by decide) y y y⟩)
 obtain ⟨a0,aT,h⟩:=bS h
 refine sDraw (nf:=[8,13,14]) (W:=[(0,20,.pointer (some ⟨bb0,0,none⟩)),(1,21,.pointer (some ⟨bb0,0,none⟩)),(2,22,.pointer (some ⟨bb0,0,none⟩)),(3,23,.agg #[iv p0.g.W,iv p0.g.H,.slice a2 p0.g.Bits.length a3]),(4,24,.pointer (some ⟨bb0,0,none⟩)),(5,25,.pointer (some ⟨bb0,0,none⟩)),(6,26,.pointer (some ⟨bb0,4,none⟩)),(7,27,.slice ad_0_1 p0.l.length cp_0_1)]) y S ?_
 refine node_by (A:=anc_reduce_search_from_s2_1) 17 (by kernel_rfl) (by kernel_rfl) (by kernel_rfl) (by kernel_rfl) (by kernel_rfl) [0,1,2,3,4,5,6,7] (by kernel_rfl) (by decide) (by decide) (fF ?_ (fF ?_ (fF ?_ (fF ?_ (fF ?_ (fF ?_ (fF ?_ (fF ?_ (fN ?_ (fE 8 (fE 8 (fE 8 (fE 8 (fN ?_ (aB 14 2 8 (by decide) (fE 8 (fE 8 (trivial)))))))))))))))))) [] (fun q hq=>by cases hq) (fun hY=>absurd (hY 8 (by decide)) (by decide))
 ·exact fM 0 none y y y y (.inl y) y y y
 ·refine fJ [(20,_)] 1 [some 0] fun G a w S=>?_
  exact nilCheck_ok (q:=⟨bb0,0,none⟩) S (wN y) y y y (lb y) fun a S=>leafL ⟨y,S⟩
 ·refine fJ [(21,_)] 2 [some 1] fun G a w S=>?_
  exact sField (b:=bb0) (off:=0) 0 0 S (wN y) y y y y y (lb y) fun a S=>leafL ⟨y,S⟩
 ·refine fJ [(22,_)] 3 [some 2] fun G a w S=>?_
  exact sLoadN (p:=bb0) (off:=0) (T:=68) (vs:=[iv p0.g.W,iv p0.g.H,.slice a2 p0.g.Bits.length a3,iv p0.k,.slice ad_0_1 p0.l.length cp_0_1,.slice ak p0.best.length al,iv p0.least]) 0 [iv p0.g.W,iv p0.g.H,.slice a2 p0.g.Bits.length a3] S (wN y) y y y y y y y (lb y) fun a S=>leafL ⟨y,S⟩
 ·exact fM 4 none y y y y (.inl y) y y y
 ·refine fJ [(24,_)] 5 [some 4] fun G a w S=>?_
  exact nilCheck_ok (q:=⟨bb0,0,none⟩) S (wN y) y y y (lb y) fun a S=>leafL ⟨y,S⟩
 ·refine fJ [(25,_)] 6 [some 5] fun G a w S=>?_
  exact sField (b:=bb0) (off:=0) 4 4 S (wN y) y y y y y (lb y) fun a S=>leafL ⟨y,S⟩
 ·refine fJ [(26,_)] 7 [some 6] fun G a w S=>?_
  exact sLoad1 0 (.slice ad_0_1 p0.l.length cp_0_1) S (wN y) y y y y y y (lb y) fun a S=>leafL ⟨y,S⟩
 ·refine ⟨_,[(23,.agg #[iv p0.g.W,iv p0.g.H,.slice a2 p0.g.Bits.length a3]),(27,.slice ad_0_1 p0.l.length cp_0_1)],y,(srcs_of [some 3,some 7] y y y),fun G a w S=>?_⟩
  have S:=S.learn (fRep r_api_Grid (.agg #[iv p0.g.W,iv p0.g.H,.slice a2 p0.g.Bits.length a3]) p0.g) ⟨_,y,S.mem.know (i:=0) (e:=fRep (rL rB) (.slice a2 p0.g.Bits.length a3) p0.g.Bits) y⟩
  refine sCall (X:=Option Addr × Nat) (f:=12) (vs:=[.agg #[iv p0.g.W,iv p0.g.H,.slice a2 p0.g.Bits.length a3],.slice ad_0_1 p0.l.length cp_0_1]) (val:=fun x=>.tuple #[.agg #[iv a0.1.W,iv a0.1.H,.slice x.1 a0.1.Bits.length x.2],iv a0.2.1,iv a0.2.2.1]) (B':=fun x=>[eRow rB 4 (.slice x.1 a0.1.Bits.length x.2) a0.1.Bits,eRow (rI .i64) 3 (.slice ad_0_1 p0.l.length cp_0_1) a0.2.2.2]) (D':=fun _=>[]) [eRow (rI .i64) 3 (.slice ad_0_1 p0.l.length cp_0_1) p0.l] [eBox bb0 68 [iv p0.g.W,iv p0.g.H,.slice a2 p0.g.Bits.length a3,iv p0.k,.slice ad_0_1 p0.l.length cp_0_1,.slice ak p0.best.length al,iv p0.least]] [fRep r_api_Grid (.agg #[iv p0.g.W,iv p0.g.H,.slice a2 p0.g.Bits.length a3]) p0.g] [1,0] [0] S (wN y) y callee12 y (by decide) y y (fun E1 w1 S1=>c_reduce_Change_s1 E1 w1 p0.g (.agg #[iv p0.g.W,iv p0.g.H,.slice a2 p0.g.Bits.length a3]) p0.l ad_0_1 cp_0_1 a0 aT S1) y (lb y) fun xx a w S=>?_
  obtain ⟨a7,a8⟩:=xx
  dsimp only at S
  refine leafL ⟨y,_,_,.inl ⟨28,(.tuple #[.agg #[iv a0.1.W,iv a0.1.H,.slice a7 a0.1.Bits.length a8],iv a0.2.1,iv a0.2.2.1]),[(9,19,.tuple #[.agg #[iv a0.1.W,iv a0.1.H,.slice a7 a0.1.Bits.length a8],iv a0.2.1,iv a0.2.2.1]),(10,29,.agg #[iv a0.1.W,iv a0.1.H,.slice a7 a0.1.Bits.length a8]),(11,30,iv a0.2.1),(12,31,iv a0.2.2.1)],y,S,hz_of y,?_⟩⟩
  refine node_by (A:=anc_reduce_search_from_s2_1) 17 (by kernel_rfl) (by kernel_rfl) (by kernel_rfl) (by kernel_rfl) (by kernel_rfl) [9,10,11,12,8,0,1,2,3,4,5,6,7] (by kernel_rfl) (by decide) (by decide) (fD 8 (fD 8 (fD 8 (fD 8 (fD 8 (fD 8 (fD 8 (fD 8 (fY (fF ?_ (fF ?_ (fF ?_ (fF ?_ (fN ?_ (aB 14 2 13 (by decide) (fE 13 (fE 13 (trivial)))))))))))))))))) [] (fun q hq=>by cases hq) (fun hY=>absurd (hY 13 (by decide)) (by decide))
  ·exact fM 0 (some 4) y y y y (.inl y) y y y
  ·refine fJ [(19,_)] 1 [some 0] fun G a w S=>?_
   exact sExtract (vs:=[.agg #[iv a0.1.W,iv a0.1.H,.slice a7 a0.1.Bits.length a8],iv a0.2.1,iv a0.2.2.1]) (.agg #[iv a0.1.W,iv a0.1.H,.slice a7 a0.1.Bits.length a8]) S (wN y) y y y y (lb y) fun a S=>leafL ⟨y,S⟩
  ·refine fJ [(19,_)] 2 [some 0] fun G a w S=>?_
   exact sExtract (vs:=[.agg #[iv a0.1.W,iv a0.1.H,.slice a7 a0.1.Bits.length a8],iv a0.2.1,iv a0.2.2.1]) (iv a0.2.1) S (wN y) y y y y (lb y) fun a S=>leafL ⟨y,S⟩
  ·refine fJ [(19,_)] 3 [some 0] fun G a w S=>?_
   exact sExtract (vs:=[.agg #[iv a0.1.W,iv a0.1.H,.slice a7 a0.1.Bits.length a8],iv a0.2.1,iv a0.2.2.1]) (iv a0.2.2.1) S (wN y) y y y y (lb y) fun a S=>leafL ⟨y,S⟩
  refine ⟨_,[],y,(srcs_of [] y y y),fun G a w S=>?_⟩
  refine sAlloc (.agg #[iv 0,iv 0,.slice none 0 0]) S (wN y) y y [iv 0,iv 0,.slice none 0 0] y y (lb y) fun a bm w S=>leafL ⟨y,_,_,.inl ⟨4,(.pointer (some ⟨bm,0,none⟩)),[],y,S,hz_of y,?_⟩⟩
  refine node_by (A:=anc_reduce_search_from_s2_1) 17 (by kernel_rfl) (by kernel_rfl) (by kernel_rfl) (by kernel_rfl) (by kernel_rfl) [13,9,10,11,12,8,0,1,2,3,4,5,6,7] (by kernel_rfl) (by decide) (by decide) (fD 8 (fD 8 (fD 8 (fD 8 (fD 8 (fD 8 (fD 8 (fD 8 (fY (fF ?_ (fF ?_ (fF ?_ (fF ?_ (fY (fN ?_ (fE 14 (fE 14 (trivial)))))))))))))))))) [] (fun q hq=>by cases hq) (fun hY=>absurd (hY 14 (by decide)) (by decide))
  ·exact fM 1 (some 5) y y y y (.inl y) y y y
  ·refine fJ [(19,_)] 2 [some 1] fun G a w S=>?_
   exact sExtract (vs:=[.agg #[iv a0.1.W,iv a0.1.H,.slice a7 a0.1.Bits.length a8],iv a0.2.1,iv a0.2.2.1]) (.agg #[iv a0.1.W,iv a0.1.H,.slice a7 a0.1.Bits.length a8]) S (wN y) y y y y (lb y) fun a S=>leafL ⟨y,S⟩
  ·refine fJ [(19,_)] 3 [some 1] fun G a w S=>?_
   exact sExtract (vs:=[.agg #[iv a0.1.W,iv a0.1.H,.slice a7 a0.1.Bits.length a8],iv a0.2.1,iv a0.2.2.1]) (iv a0.2.1) S (wN y) y y y y (lb y) fun a S=>leafL ⟨y,S⟩
  ·refine fJ [(19,_)] 4 [some 1] fun G a w S=>?_
   exact sExtract (vs:=[.agg #[iv a0.1.W,iv a0.1.H,.slice a7 a0.1.Bits.length a8],iv a0.2.1,iv a0.2.2.1]) (iv a0.2.2.1) S (wN y) y y y y (lb y) fun a S=>leafL ⟨y,S⟩
  refine ⟨_,[(4,.pointer (some ⟨bm,0,none⟩)),(29,.agg #[iv a0.1.W,iv a0.1.H,.slice a7 a0.1.Bits.length a8])],y,(srcs_of [some 0,some 2] y y y),fun G a w S=>?_⟩
  refine sStore (p:=bm) (off:=0) (T:=24) (vs:=[iv 0,iv 0,.slice none 0 0]) (v:=.agg #[iv a0.1.W,iv a0.1.H,.slice a7 a0.1.Bits.length a8]) 0 [iv a0.1.W,iv a0.1.H,.slice a7 a0.1.Bits.length a8] S (wN y) y y y y y y y (by simp) y fun a w S=>leafL ⟨y,_,_,.inr ⟨[(15,5,iv a0.2.1),(16,6,iv a0.2.2.1)],y,S,hz_of y,?_⟩⟩
  refine node_by (A:=anc_reduce_search_from_s2_1) 17 (by kernel_rfl) (by kernel_rfl) (by kernel_rfl) (by kernel_rfl) (by kernel_rfl) [15,16,13,9,10,11,12,8,0,1,2,3,4,5,6,7] (by kernel_rfl) (by decide) (by decide) (fD 14 (fD 14 (fD 14 (fD 14 (fD 14 (fD 14 (fD 14 (fD 14 (fY (fD 14 (fD 14 (fF ?_ (fF ?_ (fY (fY (fF ?_ (fF ?_ (trivial)))))))))))))))))) [(0,.pointer (some ⟨bb0,0,none⟩)),(5,iv a0.2.1)] (fin_of [none,some 0] y (by kernel_rfl) (by kernel_rfl)) (fun _ a w S=>?_)
  ·refine fJ [(19,_)] 5 [some 3] fun G a w S=>?_
   exact sExtract (vs:=[.agg #[iv a0.1.W,iv a0.1.H,.slice a7 a0.1.Bits.length a8],iv a0.2.1,iv a0.2.2.1]) (iv a0.2.1) S (wN y) y y y y (lb y) fun a S=>leafL ⟨y,S⟩
  ·refine fJ [(19,_)] 6 [some 3] fun G a w S=>?_
   exact sExtract (vs:=[.agg #[iv a0.1.W,iv a0.1.H,.slice a7 a0.1.Bits.length a8],iv a0.2.1,iv a0.2.2.1]) (iv a0.2.2.1) S (wN y) y y y y (lb y) fun a S=>leafL ⟨y,S⟩
  ·exact fM 0 (some 5) y y y y (.inr y) y y y
  ·exact fM 1 (some 6) y y y y (.inr y) y y y
  have bn:=row_v (S.mem.hold (i:=2) (e:=eRow (rI .i64) 3 (.slice ad_0_1 p0.l.length cp_0_1) a0.2.2.2) y)
  rw [bn] at S
  exact leafT (⟨a0.2.1,a0.2.2.2,Option.some.inj h,ad_0_1,cp_0_1,S.fix [3,2] [1,2] (by decide) y y y⟩)
 refine ⟨_,[],y,(srcs_of [] y y y),fun G a w S=>?_⟩
 refine sAlloc (.agg #[iv 0,iv 0,.slice none 0 0]) S (wN y) y y [iv 0,iv 0,.slice none 0 0] y y (lb y) fun a aV w S=>leafL ⟨y,_,_,.inl ⟨4,(.pointer (some ⟨aV,0,none⟩)),[],y,S,hz_of y,?_⟩⟩
 refine node_by (A:=anc_reduce_search_from_s2_1) 17 (by kernel_rfl) (by kernel_rfl) (by kernel_rfl) (by kernel_rfl) (by kernel_rfl) [13,0,1,2,3,4,5,6,7] (by kernel_rfl) (by decide) (by decide) (fF ?_ (fF ?_ (fF ?_ (fF ?_ (fF ?_ (fF ?_ (fF ?_ (fF ?_ (fN ?_ (fE 8 (fE 8 (fE 8 (fE 8 (fY (aB 14 2 8 (by decide) (fE 8 (fE 8 (trivial)))))))))))))))))) [] (fun q hq=>by cases hq) (fun hY=>absurd (hY 8 (by decide)) (by decide))
 ·exact fM 1 none y y y y (.inl y) y y y
 ·refine fJ [(20,_)] 2 [some 1] fun G a w S=>?_
  exact nilCheck_ok (q:=⟨bb0,0,none⟩) S (wN y) y y y (lb y) fun a S=>leafL ⟨y,S⟩
 ·refine fJ [(21,_)] 3 [some 2] fun G a w S=>?_
  exact sField (b:=bb0) (off:=0) 0 0 S (wN y) y y y y y (lb y) fun a S=>leafL ⟨y,S⟩
 ·refine fJ [(22,_)] 4 [some 3] fun G a w S=>?_
  exact sLoadN (p:=bb0) (off:=0) (T:=68) (vs:=[iv p0.g.W,iv p0.g.H,.slice a2 p0.g.Bits.length a3,iv p0.k,.slice ad_0_1 p0.l.length cp_0_1,.slice ak p0.best.length al,iv p0.least]) 1 [iv p0.g.W,iv p0.g.H,.slice a2 p0.g.Bits.length a3] S (wN y) y y y y y y y (lb y) fun a S=>leafL ⟨y,S⟩
 ·exact fM 5 none y y y y (.inl y) y y y
 ·refine fJ [(24,_)] 6 [some 5] fun G a w S=>?_
  exact nilCheck_ok (q:=⟨bb0,0,none⟩) S (wN y) y y y (lb y) fun a S=>leafL ⟨y,S⟩
 ·refine fJ [(25,_)] 7 [some 6] fun G a w S=>?_
  exact sField (b:=bb0) (off:=0) 4 4 S (wN y) y y y y y (lb y) fun a S=>leafL ⟨y,S⟩
 ·refine fJ [(26,_)] 8 [some 7] fun G a w S=>?_
  exact sLoad1 1 (.slice ad_0_1 p0.l.length cp_0_1) S (wN y) y y y y y y (lb y) fun a S=>leafL ⟨y,S⟩
 refine ⟨_,[(23,.agg #[iv p0.g.W,iv p0.g.H,.slice a2 p0.g.Bits.length a3]),(27,.slice ad_0_1 p0.l.length cp_0_1)],y,(srcs_of [some 4,some 8] y y y),fun G a w S=>?_⟩
 have S:=S.learn (fRep r_api_Grid (.agg #[iv p0.g.W,iv p0.g.H,.slice a2 p0.g.Bits.length a3]) p0.g) ⟨_,y,S.mem.know (i:=0) (e:=fRep (rL rB) (.slice a2 p0.g.Bits.length a3) p0.g.Bits) y⟩
 refine sCall (X:=Option Addr × Nat) (f:=12) (vs:=[.agg #[iv p0.g.W,iv p0.g.H,.slice a2 p0.g.Bits.length a3],.slice ad_0_1 p0.l.length cp_0_1]) (val:=fun x=>.tuple #[.agg #[iv a0.1.W,iv a0.1.H,.slice x.1 a0.1.Bits.length x.2],iv a0.2.1,iv a0.2.2.1]) (B':=fun x=>[eRow rB 4 (.slice x.1 a0.1.Bits.length x.2) a0.1.Bits,eRow (rI .i64) 3 (.slice ad_0_1 p0.l.length cp_0_1) a0.2.2.2]) (D':=fun _=>[]) [eRow (rI .i64) 3 (.slice ad_0_1 p0.l.length cp_0_1) p0.l] [eBox aV 24 [iv 0,iv 0,.slice none 0 0],eBox bb0 68 [iv p0.g.W,iv p0.g.H,.slice a2 p0.g.Bits.length a3,iv p0.k,.slice ad_0_1 p0.l.length cp_0_1,.slice ak p0.best.length al,iv p0.least]] [fRep r_api_Grid (.agg #[iv p0.g.W,iv p0.g.H,.slice a2 p0.g.Bits.length a3]) p0.g] [2,0,1] [0] S (wN y) y callee12 y (by decide) y y (fun E1 w1 S1=>c_reduce_Change_s1 E1 w1 p0.g (.agg #[iv p0.g.W,iv p0.g.H,.slice a2 p0.g.Bits.length a3]) p0.l ad_0_1 cp_0_1 a0 aT S1) y (lb y) fun xx a w S=>?_
 obtain ⟨ab,ac⟩:=xx
 dsimp only at S
 refine leafL ⟨y,_,_,.inl ⟨28,(.tuple #[.agg #[iv a0.1.W,iv a0.1.H,.slice ab a0.1.Bits.length ac],iv a0.2.1,iv a0.2.2.1]),[(9,19,.tuple #[.agg #[iv a0.1.W,iv a0.1.H,.slice ab a0.1.Bits.length ac],iv a0.2.1,iv a0.2.2.1]),(10,29,.agg #[iv a0.1.W,iv a0.1.H,.slice ab a0.1.Bits.length ac]),(11,30,iv a0.2.1),(12,31,iv a0.2.2.1)],y,S,hz_of y,?_⟩⟩
 refine node_by (A:=anc_reduce_search_from_s2_1) 17 (by kernel_rfl) (by kernel_rfl) (by kernel_rfl) (by kernel_rfl) (by kernel_rfl) [9,10,11,12,8,13,0,1,2,3,4,5,6,7] (by kernel_rfl) (by decide) (by decide) (fD 8 (fD 8 (fD 8 (fD 8 (fD 8 (fD 8 (fD 8 (fD 8 (fY (fF ?_ (fF ?_ (fF ?_ (fF ?_ (fY (fN ?_ (fE 14 (fE 14 (trivial)))))))))))))))))) [] (fun q hq=>by cases hq) (fun hY=>absurd (hY 14 (by decide)) (by decide))
 ·exact fM 0 (some 4) y y y y (.inl y) y y y
 ·refine fJ [(19,_)] 1 [some 0] fun G a w S=>?_
  exact sExtract (vs:=[.agg #[iv a0.1.W,iv a0.1.H,.slice ab a0.1.Bits.length ac],iv a0.2.1,iv a0.2.2.1]) (.agg #[iv a0.1.W,iv a0.1.H,.slice ab a0.1.Bits.length ac]) S (wN y) y y y y (lb y) fun a S=>leafL ⟨y,S⟩
 ·refine fJ [(19,_)] 2 [some 0] fun G a w S=>?_
  exact sExtract (vs:=[.agg #[iv a0.1.W,iv a0.1.H,.slice ab a0.1.Bits.length ac],iv a0.2.1,iv a0.2.2.1]) (iv a0.2.1) S (wN y) y y y y (lb y) fun a S=>leafL ⟨y,S⟩
 ·refine fJ [(19,_)] 3 [some 0] fun G a w S=>?_
  exact sExtract (vs:=[.agg #[iv a0.1.W,iv a0.1.H,.slice ab a0.1.Bits.length ac],iv a0.2.1,iv a0.2.2.1]) (iv a0.2.2.1) S (wN y) y y y y (lb y) fun a S=>leafL ⟨y,S⟩
 refine ⟨_,[(4,.pointer (some ⟨aV,0,none⟩)),(29,.agg #[iv a0.1.W,iv a0.1.H,.slice ab a0.1.Bits.length ac])],y,(srcs_of [some 5,some 1] y y y),fun G a w S=>?_⟩
 refine sStore (p:=aV) (off:=0) (T:=24) (vs:=[iv 0,iv 0,.slice none 0 0]) (v:=.agg #[iv a0.1.W,iv a0.1.H,.slice ab a0.1.Bits.length ac]) 2 [iv a0.1.W,iv a0.1.H,.slice ab a0.1.Bits.length ac] S (wN y) y y y y y y y (by simp) y fun a w S=>leafL ⟨y,_,_,.inr ⟨[(15,5,iv a0.2.1),(16,6,iv a0.2.2.1)],y,S,hz_of y,?_⟩⟩
 refine node_by (A:=anc_reduce_search_from_s2_1) 17 (by kernel_rfl) (by kernel_rfl) (by kernel_rfl) (by kernel_rfl) (by kernel_rfl) [15,16,9,10,11,12,8,13,0,1,2,3,4,5,6,7] (by kernel_rfl) (by decide) (by decide) (fD 14 (fD 14 (fD 14 (fD 14 (fD 14 (fD 14 (fD 14 (fD 14 (fY (fD 14 (fD 14 (fF ?_ (fF ?_ (fY (fY (fF ?_ (fF ?_ (trivial)))))))))))))))))) [(0,.pointer (some ⟨bb0,0,none⟩)),(5,iv a0.2.1)] (fin_of [none,some 0] y (by kernel_rfl) (by kernel_rfl)) (fun _ a w S=>?_)
 ·refine fJ [(19,_)] 4 [some 2] fun G a w S=>?_
  exact sExtract (vs:=[.agg #[iv a0.1.W,iv a0.1.H,.slice ab a0.1.Bits.length ac],iv a0.2.1,iv a0.2.2.1]) (iv a0.2.1) S (wN y) y y y y (lb y) fun a S=>leafL ⟨y,S⟩
 ·refine fJ [(19,_)] 5 [some 2] fun G a w S=>?_
  exact sExtract (vs:=[.agg #[iv a0.1.W,iv a0.1.H,.slice ab a0.1.Bits.length ac],iv a0.2.1,iv a0.2.2.1]) (iv a0.2.2.1) S (wN y) y y y y (lb y) fun a S=>leafL ⟨y,S⟩
 ·exact fM 0 (some 4) y y y y (.inr y) y y y
 ·exact fM 1 (some 5) y y y y (.inr y) y y y
 have bo:=row_v (S.mem.hold (i:=2) (e:=eRow (rI .i64) 3 (.slice ad_0_1 p0.l.length cp_0_1) a0.2.2.2) y)
 rw [bo] at S
 exact leafT (⟨a0.2.1,a0.2.2.2,Option.some.inj h,ad_0_1,cp_0_1,S.fix [3,2] [1,2] (by decide) y y y⟩)
def anc_reduce_search_from_s1_0:List (List Nat):=[[],[0],[0,1],[0,1,2],[0,1,2,3],[],[5],[5,6],[5,6,7],[5,6,7,8],[0,1,2,3,4,5,6,7,8,9]]
def anc_reduce_search_from_s1_1:List (List Nat):=[[],[0],[0,1],[0,1,2],[],[4],[4,5],[4,5,6],[0,1,2,3,4,5,6,7],[0,1,2,3,4,5,6,7,8],[0,1,2,3,4,5,6,7,8,9],[0,1,2,3,4,5,6,7,8,9],[0,1,2,3,4,5,6,7,8,9],[],[0,1,2,3,4,5,6,7,8,9,10,13],[0,1,2,3,4,5,6,7,8,9,10,11,13,14],[0,1,2,3,4,5,6,7,8,9,10,11,12,13,14,15]]
def anc_reduce_search_from_s1_2:List (List Nat):=[[],[],[1],[1,2],[1,2,3],[],[5],[5,6],[5,6,7],[5,6,7,8],[5,6,7,8,9],[1,2,3,4,5,6,7,8,9,10],[0,1,2,3,4,5,6,7,8,9,10,11],[0,1,2,3,4,5,6,7,8,9,10,11,12],[0,1,2,3,4,5,6,7,8,9,10,11,12,13]]
noncomputable def reduce_search_from_s1_l1 (p0:reduce_search) (p1:Int):(Int × Int × Int × Int × List Int × List Int × Int)→Option ((Int × Int × Int × Int × List Int × List Int × Int) ⊕ (Int × Int × Int × List Int × List Int × Int)):=fun s0=>match s0 with
 | (a2,a3,a4,a5,a6,a7,a8)=>
  if decide (a2 < (if p0.k < (w64 (p1 + 1)) then p0.k else w64 (p1 + 1))) then
   (appO a6 ([a2]:List Int)).bind fun a9=>
   (F_reduce_search_from_s2 (reduce_search.mk (api_Grid.mk a3 a4 p0.g.Bits) a5 a9 a7 a8) (if p1 < (w64 (a2 + 1)) then w64 (a2 + 1) else p1)).bind fun a0=>
   (sliceO a0.l 0 (w64 ((a0.l.length:Int) - 1))).bind fun aa=>
   some (.inl (w64 (a2 + 1),a0.g.W,a0.g.H,a0.k,aa,a0.best,a0.least))
  else
   some (.inr (a3,a4,a5,a6,a7,a8))
noncomputable def F_reduce_search_from_s1 (p0:reduce_search) (p1:Int):Option reduce_search:=
 if (p0.l.length:Int) == p0.g.W then
  Option.bind (α:=(List Int × List Int × Int)) (
   Option.bind (α:=(Int × List Int)) (
    (F_reduce_Change_s1 p0.g p0.l).bind fun a2=>
    some (a2.2.1,a2.2.2.2)) fun (a3,a4)=>
   Option.bind (α:=Bool) (
    if p0.best.isEmpty then
     some true
    else
     some (decide (a3 < p0.least))) fun a5=>
   if a5 then
    (F_slices_Clone___int_int__s1 a4).bind fun a0=>
    (neO a0.1).bind fun af=>
    some (a0.2,a0.1,a3)
   else
    some (a4,p0.best,p0.least)) fun (o8,a6,a7)=>
  some (reduce_search.mk p0.g p0.k o8 a6 a7)
 else
  (whileO (reduce_search_from_s1_l1 p0 p1) (0,p0.g.W,p0.g.H,p0.k,p0.l,p0.best,p0.least)).bind fun (a8,a9,aa,ab,ac,ae)=>
   some (reduce_search.mk (api_Grid.mk a8 a9 p0.g.Bits) aa ab ac ae)
theorem c_reduce_search_from_s1 (E:Nat→Prop) (w0:World) (p0:reduce_search) (bb0:Nat) (u_0_0:Value) (ad_0_1:Option Addr) (cp_0_1:Nat) (u_0_2:Value) (p1:Int) (r:reduce_search) (h:F_reduce_search_from_s1 p0 p1=some r) (S:St0 E (keysL [eBox bb0 68 [iv p0.g.W,iv p0.g.H,u_0_0,iv p0.k,.slice ad_0_1 p0.l.length cp_0_1,u_0_2,iv p0.least],eRow (rI .i64) 3 (.slice ad_0_1 p0.l.length cp_0_1) p0.l]) w0 w0 [eBox bb0 68 [iv p0.g.W,iv p0.g.H,u_0_0,iv p0.k,.slice ad_0_1 p0.l.length cp_0_1,u_0_2,iv p0.least],eRow (rI .i64) 3 (.slice ad_0_1 p0.l.length cp_0_1) p0.l] [fRep (rL rB) (u_0_0) p0.g.Bits,fRep (rLz (rI .i64)) (u_0_2) p0.best]) :
 Calls Try.prog 41 #[.pointer (some ⟨bb0,0,none⟩),iv p1] w0 (Ret (X:=Option Addr × Nat × Value) E (keysL [eBox bb0 68 [iv p0.g.W,iv p0.g.H,u_0_0,iv p0.k,.slice ad_0_1 p0.l.length cp_0_1,u_0_2,iv p0.least],eRow (rI .i64) 3 (.slice ad_0_1 p0.l.length cp_0_1) p0.l]) w0 (fun _=>.tuple #[]) (fun x=>[eBox bb0 68 [iv r.g.W,iv r.g.H,u_0_0,iv r.k,.slice x.1 r.l.length x.2.1,x.2.2,iv r.least],eRow (rI .i64) 3 (.slice x.1 r.l.length x.2.1) r.l]) (fun x=>[fRep (rLz (rI .i64)) x.2.2 r.best])):=by
 unfold F_reduce_search_from_s1 at h
 obtain ⟨a2,a3,_,rfl,_⟩:=S.know (i:=0) (e:=fRep (rL rB) (u_0_0) p0.g.Bits) y
 obtain ⟨⟨ak,al,_,rfl,_⟩,_⟩:=S.know (i:=1) (e:=fRep (rLz (rI .i64)) (u_0_2) p0.best) y
 generalize (keysL [eBox bb0 68 [iv p0.g.W,iv p0.g.H,.slice a2 p0.g.Bits.length a3,iv p0.k,.slice ad_0_1 p0.l.length cp_0_1,.slice ak p0.best.length al,iv p0.least],eRow (rI .i64) 3 (.slice ad_0_1 p0.l.length cp_0_1) p0.l])=M9 at S ⊢
 refine sEnter (args:=[.pointer (some ⟨bb0,0,none⟩),iv p1]) 98 Try.func41 y y (by simp) S (fun a S=>?_)
 refine sSeq (fun K5 bp=>sSeq (fun K6 bq=>sDraw (nf:=[]) (W:=[(0,8,.pointer (some ⟨bb0,0,none⟩)),(1,9,.pointer (some ⟨bb0,0,none⟩)),(2,10,.pointer (some ⟨bb0,4,none⟩)),(3,11,.slice ad_0_1 p0.l.length cp_0_1),(4,12,iv (p0.l.length:Int)),(5,13,.pointer (some ⟨bb0,0,none⟩)),(6,14,.pointer (some ⟨bb0,0,none⟩)),(7,15,.pointer (some ⟨bb0,0,none⟩)),(8,16,.pointer (some ⟨bb0,0,none⟩)),(9,17,iv p0.g.W),(10,18,.bool ((p0.l.length:Int) == p0.g.W))]) y S ?_))
 refine node_by (A:=anc_reduce_search_from_s1_0) 11 (by kernel_rfl) (by kernel_rfl) (by kernel_rfl) (by kernel_rfl) (by kernel_rfl) [0,1,2,3,4,5,6,7,8,9,10] (by kernel_rfl) (by decide) (by decide) (fF ?_ (fF ?_ (fF ?_ (fF ?_ (fF ?_ (fF ?_ (fF ?_ (fF ?_ (fF ?_ (fF ?_ (fF ?_ (trivial)))))))))))) [(0,.pointer (some ⟨bb0,0,none⟩)),(1,iv p1),(18,.bool ((p0.l.length:Int) == p0.g.W))] (fin_of [none,none,some 10] y (by kernel_rfl) (by kernel_rfl)) (fun _ a w S=>?_)
 ·exact fM 0 none y y y y (.inl y) y y y
 ·refine fJ [(8,_)] 1 [some 0] fun G a w S=>?_
  exact nilCheck_ok (q:=⟨bb0,0,none⟩) S (wN y) y y y (lb y) fun a S=>leafL ⟨y,S⟩
 ·refine fJ [(9,_)] 2 [some 1] fun G a w S=>?_
  exact sField (b:=bb0) (off:=0) 4 4 S (wN y) y y y y y (lb y) fun a S=>leafL ⟨y,S⟩
 ·refine fJ [(10,_)] 3 [some 2] fun G a w S=>?_
  exact sLoad1 0 (.slice ad_0_1 p0.l.length cp_0_1) S (wN y) y y y y y y (lb y) fun a S=>leafL ⟨y,S⟩
 ·refine fJ [(11,_)] 4 [some 3] fun G a w S=>?_
  exact sLen S (wN y) y Try.underlying25 y y (lb y) fun a S=>leafL ⟨y,S⟩
 ·exact fM 5 none y y y y (.inl y) y y y
 ·refine fJ [(13,_)] 6 [some 5] fun G a w S=>?_
  exact nilCheck_ok (q:=⟨bb0,0,none⟩) S (wN y) y y y (lb y) fun a S=>leafL ⟨y,S⟩
 ·refine fJ [(14,_)] 7 [some 6] fun G a w S=>?_
  exact sField (b:=bb0) (off:=0) 0 0 S (wN y) y y y y y (lb y) fun a S=>leafL ⟨y,S⟩
 ·refine fJ [(15,_)] 8 [some 7] fun G a w S=>?_
  exact sField (b:=bb0) (off:=0) 0 0 S (wN y) y y y y y (lb y) fun a S=>leafL ⟨y,S⟩
 ·refine fJ [(16,_)] 9 [some 8] fun G a w S=>?_
  exact sLoad1 0 (iv p0.g.W) S (wN y) y y y y y y (lb y) fun a S=>leafL ⟨y,S⟩
 ·refine fJ [(12,_),(17,_)] 10 [some 4,some 9] fun G a w S=>?_
  exact sBin _ S (wN y) y y y (bEq _ _ _ _ .i64 (p0.l.length:Int) p0.g.W) y (lb y) fun a S=>leafL ⟨y,S⟩
 refine leafT (bq _ _ ?_)
 rcases iS h with ⟨aW,h⟩ | ⟨aW,h⟩
 rotate_left
 ·refine sCondF S y aW (wp_skip (leafT (bp _ _ ?_)))
  refine sSeq (fun bB aX=>sRegion (sM S fun a S=>?_))
  refine sBin _ S (wN y) y y y (bAdd _ _ _ _ p1 1) y (lb y) fun a S=>sM S fun a S=>?_
  refine nilCheck_ok (q:=⟨bb0,0,none⟩) S (wN y) y y y (lb y) fun a S=>sField (b:=bb0) (off:=0) 3 3 S (wN y) y y y y y (lb y) fun a S=>sLoad1 0 (iv p0.k) S (wN y) y y y y y y (lb y) fun a S=>sMin2 (p:=w64 (p1 + 1)) (q:=p0.k) S (wN y) y y y y (lb y) fun a S=>sM S fun a S=>?_
  refine lT (aX _ _ (wp_block ?_))
  obtain ⟨bC,hl,br⟩:=bS h
  refine sLoop hl (fun s0 a w=>match s0 with | (af,aJ,aK,aL,aA,ar,aM)=>∃ am,∃ ao,∃ ah,∃ ai,St [] E M9 w0 98 a w [(0,.pointer (some ⟨bb0,0,none⟩)),(1,iv p1),(63,iv (if p0.k < (w64 (p1 + 1)) then p0.k else w64 (p1 + 1))),(64,iv af)] [eBox bb0 68 [iv aJ,iv aK,.slice a2 p0.g.Bits.length a3,iv aL,.slice am aA.length ao,.slice ah ar.length ai,iv aM],eRow (rI .i64) 3 (.slice am aA.length ao) aA] [fRep (rL rB) (.slice a2 p0.g.Bits.length a3) p0.g.Bits,fRep (rLz (rI .i64)) (.slice ah ar.length ai) ar]) ⟨ad_0_1,cp_0_1,ak,al,S.fix [0,1] [0,1] (by decide) y y y⟩ ?_
  clear hl h
  intro s0 a w c0 hI h aZ
  obtain ⟨af,aJ,aK,aL,aA,ar,aM⟩:=s0
  unfold reduce_search_from_s1_l1 at h
  dsimp only at h hI
  obtain ⟨am,ao,ah,ai,S⟩:=hI
  refine sSeq (fun bD b1=>sRegion (sBin _ S (wN y) y y y (bLt _ _ _ _ .i64 af (if p0.k < (w64 (p1 + 1)) then p0.k else w64 (p1 + 1))) y (lb y) fun a S=>lT (b1 _ _ (sSeq (fun bE b3=>?_)))))
  rcases iS h with ⟨aC,h⟩ | ⟨aC,h⟩
  rotate_left
  ·refine sCondF S y aC ?_
   obtain rfl:=tS h
   obtain rfl:=aZ _ y
   have h:=br
   try dsimp only at h
   obtain rfl:=tS h
   exact wp_exit (xThen (xThen (xHit (sEnd (.tuple #[]) S (rsl0 y ) ⟨(am,ao,(.slice ah ar.length ai)),y,S.mem.sel [0,1] [1] (by decide) y y⟩))))
  refine sCondT S y aC (wp_skip (leafT (b3 _ _ ?_)))
  refine sSeq (fun bG b4=>wp_block ?_)
  refine sSeq (fun bH b5=>sRegion (sM S fun a S=>?_))
  refine sN S fun a S=>?_
  refine lT (b5 _ _ (sSeq (fun bI ba=>sRegion (sM S fun a S=>?_))))
  refine sM S fun a S=>?_
  refine nilCheck_ok (q:=⟨bb0,0,none⟩) S (wN y) y y y (lb y) fun a S=>sField (b:=bb0) (off:=0) 4 4 S (wN y) y y y y y (lb y) fun a S=>sLoad1 0 (.slice am aA.length ao) S (wN y) y y y y y y (lb y) fun a S=>sM S fun a S=>?_
  refine sLit (r:=(rI .i64)) (T:=3) (xs:=([af]:List Int)) [(0,iv af)] 1 [iv af] [iv af] (iv 0) 8 S (wN y) y y Try.underlying25 y (by decide) (by decide) (by kernel_rfl) y (fun E1 w1 hE=>All.cons y (All.nil _ _ _)) y y (lb y) fun a w aO aP S=>?_
  obtain ⟨aH,bb,h⟩:=bS h
  refine sApp (r:=(rI .i64)) (T:=3) (xs:=aA) (ys:=([af]:List Int)) (v:=.slice am aA.length ao) (u:=.slice aO ([af]:List Int).length aP) 2 (iv 0) 8 S (wN y) y Try.underlying25 y y (by decide) y y y (src_R (T:=3) 0 S.mem y) bb y (lb y) fun a w au av S=>nilCheck_ok (q:=⟨bb0,0,none⟩) S (wN y) y y y (lb y) fun a S=>sField (b:=bb0) (off:=0) 4 4 S (wN y) y y y y y (lb y) fun a S=>sStore (p:=bb0) (off:=4) (T:=68) (vs:=[iv aJ,iv aK,.slice a2 p0.g.Bits.length a3,iv aL,.slice am aA.length ao,.slice ah ar.length ai,iv aM]) (v:=.slice au aH.length av) 2 [.slice au aH.length av] S (wN y) y y y y y y y (by simp) y fun a w S=>lT (ba _ _ (sSeq (fun bJ bc=>sRegion (sM S fun a S=>?_))))
  refine sM S fun a S=>?_
  refine sM S fun a S=>?_
  refine sBin _ S (wN y) y y y (bAdd _ _ _ _ af 1) y (lb y) fun a S=>sMax2 (p:=p1) (q:=w64 (af + 1)) S (wN y) y y y y (lb y) fun a S=>?_
  obtain ⟨a4,bf,h⟩:=bS h
  refine sCall (X:=Option Addr × Nat × Value) (f:=41) (vs:=[.pointer (some ⟨bb0,0,none⟩),iv (if p1 < (w64 (af + 1)) then w64 (af + 1) else p1)]) (val:=fun _=>.tuple #[]) (B':=fun x=>[eBox bb0 68 [iv a4.g.W,iv a4.g.H,.slice a2 p0.g.Bits.length a3,iv a4.k,.slice x.1 a4.l.length x.2.1,x.2.2,iv a4.least],eRow (rI .i64) 3 (.slice x.1 a4.l.length x.2.1) a4.l]) (D':=fun x=>[fRep (rLz (rI .i64)) x.2.2 a4.best]) [eBox bb0 68 [iv aJ,iv aK,.slice a2 p0.g.Bits.length a3,iv aL,.slice au aH.length av,.slice ah ar.length ai,iv aM],eRow (rI .i64) 3 (.slice au aH.length av) aH] [eRow (rI .i64) 3 (.slice aO ([af]:List Int).length aP) ([af]:List Int)] [fRep (rL rB) (.slice a2 p0.g.Bits.length a3) p0.g.Bits,fRep (rLz (rI .i64)) (.slice ah ar.length ai) ar] [0,1,2] [0,1] S (wN y) y callee41 y (by decide) y y (fun E1 w1 S1=>c_reduce_search_from_s2 E1 w1 (reduce_search.mk (api_Grid.mk aJ aK p0.g.Bits) aL aH ar aM) bb0 (.slice a2 p0.g.Bits.length a3) au av (.slice ah ar.length ai) (if p1 < (w64 (af + 1)) then w64 (af + 1) else p1) a4 bf S1) y (lb y) fun xx a w S=>?_
  obtain ⟨a9,aa,bt⟩:=xx
  dsimp only at S
  obtain ⟨⟨aQ,aR,_,rfl,_⟩,_⟩:=S.mem.know (i:=0) (e:=fRep (rLz (rI .i64)) (bt) a4.best) y
  refine lT (bc _ _ ?_)
  obtain ⟨aS,bg,h⟩:=bS h
  refine sDraw (nf:=[11,14]) (W:=[(0,83,.pointer (some ⟨bb0,0,none⟩)),(1,84,.pointer (some ⟨bb0,0,none⟩)),(2,85,.pointer (some ⟨bb0,0,none⟩)),(3,86,.pointer (some ⟨bb0,4,none⟩)),(4,87,.slice a9 a4.l.length aa),(5,88,.pointer (some ⟨bb0,0,none⟩)),(6,89,.pointer (some ⟨bb0,0,none⟩)),(7,90,.pointer (some ⟨bb0,4,none⟩)),(8,91,.slice a9 a4.l.length aa),(9,92,iv (a4.l.length:Int)),(10,93,iv (w64 ((a4.l.length:Int) - 1)))]) y S ?_
  refine node_by (A:=anc_reduce_search_from_s1_2) 15 (by kernel_rfl) (by kernel_rfl) (by kernel_rfl) (by kernel_rfl) (by kernel_rfl) [0,1,2,3,4,5,6,7,8,9,10] (by kernel_rfl) (by decide) (by decide) (fF ?_ (fF ?_ (fF ?_ (fF ?_ (fF ?_ (fF ?_ (fF ?_ (fF ?_ (fF ?_ (fF ?_ (fF ?_ (fN ?_ (fE 11 (fE 11 (aB 14 0 11 (by decide) (trivial)))))))))))))))) [] (fun q hq=>by cases hq) (fun hY=>absurd (hY 11 (by decide)) (by decide))
  ·exact fM 0 none y y y y (.inl y) y y y
  ·exact fM 1 none y y y y (.inl y) y y y
  ·refine fJ [(84,_)] 2 [some 1] fun G a w S=>?_
   exact nilCheck_ok (q:=⟨bb0,0,none⟩) S (wN y) y y y (lb y) fun a S=>leafL ⟨y,S⟩
  ·refine fJ [(85,_)] 3 [some 2] fun G a w S=>?_
   exact sField (b:=bb0) (off:=0) 4 4 S (wN y) y y y y y (lb y) fun a S=>leafL ⟨y,S⟩
  ·refine fJ [(86,_)] 4 [some 3] fun G a w S=>?_
   exact sLoad1 0 (.slice a9 a4.l.length aa) S (wN y) y y y y y y (lb y) fun a S=>leafL ⟨y,S⟩
  ·exact fM 5 none y y y y (.inl y) y y y
  ·refine fJ [(88,_)] 6 [some 5] fun G a w S=>?_
   exact nilCheck_ok (q:=⟨bb0,0,none⟩) S (wN y) y y y (lb y) fun a S=>leafL ⟨y,S⟩
  ·refine fJ [(89,_)] 7 [some 6] fun G a w S=>?_
   exact sField (b:=bb0) (off:=0) 4 4 S (wN y) y y y y y (lb y) fun a S=>leafL ⟨y,S⟩
  ·refine fJ [(90,_)] 8 [some 7] fun G a w S=>?_
   exact sLoad1 0 (.slice a9 a4.l.length aa) S (wN y) y y y y y y (lb y) fun a S=>leafL ⟨y,S⟩
  ·refine fJ [(91,_)] 9 [some 8] fun G a w S=>?_
   exact sLen S (wN y) y Try.underlying25 y y (lb y) fun a S=>leafL ⟨y,S⟩
  ·refine fJ [(92,_)] 10 [some 9] fun G a w S=>?_
   exact sBin _ S (wN y) y y y (bSub _ _ _ _ (a4.l.length:Int) 1) y (lb y) fun a S=>leafL ⟨y,S⟩
  refine ⟨_,[(87,.slice a9 a4.l.length aa),(93,iv (w64 ((a4.l.length:Int) - 1)))],y,(srcs_of [some 4,some 10] y y y),fun G a w S=>?_⟩
  refine sSliceT (r:=(rI .i64)) (T:=3) (ad:=a9) (c:=aa) (xs:=a4.l) (vlo:=none) (vhi:=(some (.int .i64 (w64 ((a4.l.length:Int) - 1))))) (hi':=w64 ((a4.l.length:Int) - 1)) 1 S (wN y) y Try.underlying25 y y y y y (.inr y) (.inl y) bg y (lb y) fun a S=>?_
  refine leafL ⟨y,_,_,.inl ⟨94,(.slice a9 aS.length aa),[(12,95,.pointer (some ⟨bb0,0,none⟩)),(13,96,.pointer (some ⟨bb0,4,none⟩))],y,S,hz_of y,?_⟩⟩
  refine node_by (A:=anc_reduce_search_from_s1_2) 15 (by kernel_rfl) (by kernel_rfl) (by kernel_rfl) (by kernel_rfl) (by kernel_rfl) [12,13,11,0,1,2,3,4,5,6,7,8,9,10] (by kernel_rfl) (by decide) (by decide) (fF ?_ (fD 11 (fD 11 (fD 11 (fD 11 (fD 11 (fD 11 (fD 11 (fD 11 (fD 11 (fD 11 (fY (fF ?_ (fF ?_ (fN ?_ (trivial)))))))))))))))) [] (fun q hq=>by cases hq) (fun hY=>absurd (hY 14 (by decide)) (by decide))
  ·exact fM 3 none y y y y (.inl y) y y y
  ·refine fJ [(83,_)] 0 [some 3] fun G a w S=>?_
   exact nilCheck_ok (q:=⟨bb0,0,none⟩) S (wN y) y y y (lb y) fun a S=>leafL ⟨y,S⟩
  ·refine fJ [(95,_)] 1 [some 0] fun G a w S=>?_
   exact sField (b:=bb0) (off:=0) 4 4 S (wN y) y y y y y (lb y) fun a S=>leafL ⟨y,S⟩
  refine ⟨_,[(94,.slice a9 aS.length aa),(96,.pointer (some ⟨bb0,4,none⟩))],y,(srcs_of [some 2,some 1] y y y),fun G a w S=>?_⟩
  refine sStore (p:=bb0) (off:=4) (T:=68) (vs:=[iv a4.g.W,iv a4.g.H,.slice a2 p0.g.Bits.length a3,iv a4.k,.slice a9 a4.l.length aa,.slice aQ a4.best.length aR,iv a4.least]) (v:=.slice a9 aS.length aa) 1 [.slice a9 aS.length aa] S (wN y) y y y y y y y (by simp) y fun a w S=>leafL ⟨y,_,_,.inr ⟨[],y,S,hz_of y,?_⟩⟩
  refine node_by (A:=anc_reduce_search_from_s1_2) 15 (by kernel_rfl) (by kernel_rfl) (by kernel_rfl) (by kernel_rfl) (by kernel_rfl) [12,13,11,0,1,2,3,4,5,6,7,8,9,10] (by kernel_rfl) (by decide) (by decide) (fD 14 (fD 14 (fD 14 (fD 14 (fD 14 (fD 14 (fD 14 (fD 14 (fD 14 (fD 14 (fD 14 (fY (fD 14 (fD 14 (fY (trivial)))))))))))))))) [(0,.pointer (some ⟨bb0,0,none⟩)),(1,iv p1),(63,iv (if p0.k < (w64 (p1 + 1)) then p0.k else w64 (p1 + 1))),(64,iv af)] (fin_of [none,none,none,none] y (by kernel_rfl) (by kernel_rfl)) (fun _ a w S=>?_)
  refine leafB (leafT (b4 _ _ ?_))
  refine sRegion (sBin _ S (wN y) y y y (bAdd _ _ _ _ af 1) y (lb y) fun a S=>sM S fun a S=>?_)
  exact lT (⟨(w64 (af + 1),a4.g.W,a4.g.H,a4.k,aS,a4.best,a4.least),(Option.some.inj h).symm,⟨a9,aa,aQ,aR,S.fix [0,1] [1,0] (by decide) y y y⟩⟩)
 refine sCondT S y aW ?_
 obtain ⟨bu,h,bv⟩:=bS h
 refine sCut (fun a w=>∃ o8,∃ aI,∃ bh,(o8,aI,bh)=bu∧∃ aU,∃ ax,∃ ay,∃ az,St [] E M9 w0 98 a w [] [eBox bb0 68 [iv p0.g.W,iv p0.g.H,.slice a2 p0.g.Bits.length a3,iv p0.k,.slice aU o8.length ax,.slice ay aI.length az,iv bh],eRow (rI .i64) 3 (.slice aU o8.length ax) o8] [fRep (rL rB) (.slice a2 p0.g.Bits.length a3) p0.g.Bits,fRep (rLz (rI .i64)) (.slice ay aI.length az) aI]) ?_ (fun a w hI=>?_)
 rotate_left
 ·obtain ⟨o8,aI,bh,rfl,aU,ax,ay,az,S⟩:=hI
  have h:=bv
  try dsimp only at h
  obtain rfl:=tS h
  exact wp_ret (rThen (sRet (.tuple #[]) S (rsl0 y ) ⟨(aU,ax,(.slice ay aI.length az)),y,S.mem.sel [0,1] [1] (by decide) y y⟩))
 obtain ⟨bw,h,bx⟩:=bS h
 refine sCut (fun a w=>∃ aw,∃ aj,(aw,aj)=bw∧∃ a5,∃ a6,St [] E M9 w0 98 a w [(0,.pointer (some ⟨bb0,0,none⟩)),(5,iv aw)] [eBox bb0 68 [iv p0.g.W,iv p0.g.H,.slice a2 p0.g.Bits.length a3,iv p0.k,.slice a5 aj.length a6,.slice ak p0.best.length al,iv p0.least],eRow (rI .i64) 3 (.slice a5 aj.length a6) aj] [fRep (rL rB) (.slice a2 p0.g.Bits.length a3) p0.g.Bits,fRep (rLz (rI .i64)) (.slice ak p0.best.length al) p0.best]) ?_ (fun a w hI=>?_)
 rotate_left
 ·obtain ⟨aw,aj,rfl,a5,a6,S⟩:=hI
  have h:=bx
  try dsimp only at h
  obtain ⟨bz,h,bA⟩:=bS h
  refine sCut (fun a w=>∃ bi,bi=bz∧St [] E M9 w0 98 a w [(0,.pointer (some ⟨bb0,0,none⟩)),(5,iv aw),(44,.bool bi)] [eBox bb0 68 [iv p0.g.W,iv p0.g.H,.slice a2 p0.g.Bits.length a3,iv p0.k,.slice a5 aj.length a6,.slice ak p0.best.length al,iv p0.least],eRow (rI .i64) 3 (.slice a5 aj.length a6) aj] [fRep (rL rB) (.slice a2 p0.g.Bits.length a3) p0.g.Bits,fRep (rLz (rI .i64)) (.slice ak p0.best.length al) p0.best]) ?_ (fun a w hI=>?_)
  ·refine sRegion (sM S fun a S=>?_)
   refine nilCheck_ok (q:=⟨bb0,0,none⟩) S (wN y) y y y (lb y) fun a S=>sField (b:=bb0) (off:=0) 5 5 S (wN y) y y y y y (lb y) fun a S=>sLoad1 0 (.slice ak p0.best.length al) S (wN y) y y y y y y (lb y) fun a S=>sBin _ S (wN y) y y y (bEqNilZ _ _ _ _ Try.underlying25 ak (p0.best.length) (al) (rLz_is (S.mem.know (i:=1) (e:=fRep (rLz (rI .i64)) (.slice ak p0.best.length al) p0.best) y))) y (lb y) fun a S=>sM S fun a S=>?_
   rcases iS h with ⟨ae,h⟩ | ⟨ae,h⟩
   ·refine sSkN 6 5 false 37 S y y ae y fun a S=>sPickT (.bool true) S (wN y) y y ae y y (lb y) fun a S=>?_
    exact lT (⟨true,Option.some.inj h,S.fix [0,1] [0,1] (by decide) y y y⟩)
   refine sMove (iv aw) S (wG 5 false 37 y y y ae) (.inl y) y y (lb y) fun a S=>sMove (.pointer (some ⟨bb0,0,none⟩)) S (wG 5 false 37 y y y ae) (.inl y) y y (lb y) fun a S=>nilCheck_ok (q:=⟨bb0,0,none⟩) S (wG 5 false 37 y y y ae) y y y (lb y) fun a S=>sField (b:=bb0) (off:=0) 6 6 S (wG 5 false 37 y y y ae) y y y y y (lb y) fun a S=>sLoad1 0 (iv p0.least) S (wG 5 false 37 y y y ae) y y y y y y (lb y) fun a S=>sBin _ S (wG 5 false 37 y y y ae) y y y (bLt _ _ _ _ .i64 aw p0.least) y (lb y) fun a S=>sPickF (.bool (decide (aw < p0.least))) S (wN y) y y ae y y (lb y) fun a S=>?_
   exact lT (⟨decide (aw < p0.least),Option.some.inj h,S.fix [0,1] [0,1] (by decide) y y y⟩)
  obtain ⟨bi,rfl,S⟩:=hI
  have h:=bA
  try dsimp only at h
  rcases iS h with ⟨aG,h⟩ | ⟨aG,h⟩
  rotate_left
  ·refine sCondF S y aG ?_
   exact wp_skip (leafT (⟨aj,p0.best,p0.least,Option.some.inj h,a5,a6,ak,al,S.fix [0,1] [0,1] (by decide) y y y⟩))
  refine sCondT S y aG (sRegion (sM S fun a S=>?_))
  refine sM S fun a S=>?_
  refine sM S fun a S=>?_
  refine nilCheck_ok (q:=⟨bb0,0,none⟩) S (wN y) y y y (lb y) fun a S=>sField (b:=bb0) (off:=0) 4 4 S (wN y) y y y y y (lb y) fun a S=>sLoad1 0 (.slice a5 aj.length a6) S (wN y) y y y y y y (lb y) fun a S=>?_
  obtain ⟨ag,bj,h⟩:=bS h
  refine sCall (X:=Option Addr × Nat) (f:=49) (vs:=[.slice a5 aj.length a6]) (val:=fun x=>.slice x.1 ag.1.length x.2) (B':=fun x=>[eRow (rI .i64) 3 (.slice x.1 ag.1.length x.2) ag.1,eRow (rI .i64) 3 (.slice a5 aj.length a6) ag.2]) (D':=fun _=>[]) [eRow (rI .i64) 3 (.slice a5 aj.length a6) aj] [eBox bb0 68 [iv p0.g.W,iv p0.g.H,.slice a2 p0.g.Bits.length a3,iv p0.k,.slice a5 aj.length a6,.slice ak p0.best.length al,iv p0.least]] [] [1,0] [] S (wN y) y callee49 y (by decide) y y (fun E1 w1 S1=>c_slices_Clone___int_int__s1 E1 w1 aj a5 a6 ag bj S1) y (lb y) fun xx a w S=>?_
  obtain ⟨ap,aq⟩:=xx
  dsimp only at S
  have bk:=row_v (S.mem.hold (i:=1) (e:=eRow (rI .i64) 3 (.slice a5 aj.length a6) ag.2) y)
  rw [bk] at S
  refine sM S fun a S=>?_
  refine nilCheck_ok (q:=⟨bb0,0,none⟩) S (wN y) y y y (lb y) fun a S=>sField (b:=bb0) (off:=0) 5 5 S (wN y) y y y y y (lb y) fun a S=>?_
  have S:=S.shutR (r:=(rI .i64)) (T:=3) (v:=.slice ap ag.1.length aq) (xs:=ag.1) 0 y
  obtain ⟨bK,bl,h⟩:=bS h
  have S:=S.learn (fRep (rLz (rI .i64)) (.slice ap ag.1.length aq) ag.1) (rLz_of (S.mem.know (i:=0) (e:=fRep (rL (rI .i64)) (.slice ap ag.1.length aq) ag.1) y) bl)
  refine sStore (p:=bb0) (off:=5) (T:=68) (vs:=[iv p0.g.W,iv p0.g.H,.slice a2 p0.g.Bits.length a3,iv p0.k,.slice a5 ag.2.length a6,.slice ak p0.best.length al,iv p0.least]) (v:=.slice ap ag.1.length aq) 1 [.slice ap ag.1.length aq] S (wN y) y y y y y y y (by simp) y fun a w S=>nilCheck_ok (q:=⟨bb0,0,none⟩) S (wN y) y y y (lb y) fun a S=>sField (b:=bb0) (off:=0) 6 6 S (wN y) y y y y y (lb y) fun a S=>sStore (p:=bb0) (off:=6) (T:=68) (vs:=[iv p0.g.W,iv p0.g.H,.slice a2 p0.g.Bits.length a3,iv p0.k,.slice a5 ag.2.length a6,.slice ap ag.1.length aq,iv p0.least]) (v:=iv aw) 0 [iv aw] S (wN y) y y y y y y y (by simp) y fun a w S=>?_
  exact lT (⟨ag.2,ag.1,aw,Option.some.inj h,a5,a6,ap,aq,S.fix [0,1] [2,0] (by decide) y y y⟩)
 obtain ⟨a0,aT,h⟩:=bS h
 refine sDraw (nf:=[8,13,14]) (W:=[(0,20,.pointer (some ⟨bb0,0,none⟩)),(1,21,.pointer (some ⟨bb0,0,none⟩)),(2,22,.pointer (some ⟨bb0,0,none⟩)),(3,23,.agg #[iv p0.g.W,iv p0.g.H,.slice a2 p0.g.Bits.length a3]),(4,24,.pointer (some ⟨bb0,0,none⟩)),(5,25,.pointer (some ⟨bb0,0,none⟩)),(6,26,.pointer (some ⟨bb0,4,none⟩)),(7,27,.slice ad_0_1 p0.l.length cp_0_1)]) y S ?_
 refine node_by (A:=anc_reduce_search_from_s1_1) 17 (by kernel_rfl) (by kernel_rfl) (by kernel_rfl) (by kernel_rfl) (by kernel_rfl) [0,1,2,3,4,5,6,7] (by kernel_rfl) (by decide) (by decide) (fF ?_ (fF ?_ (fF ?_ (fF ?_ (fF ?_ (fF ?_ (fF ?_ (fF ?_ (fN ?_ (fE 8 (fE 8 (fE 8 (fE 8 (fN ?_ (aB 14 2 8 (by decide) (fE 8 (fE 8 (trivial)))))))))))))))))) [] (fun q hq=>by cases hq) (fun hY=>absurd (hY 8 (by decide)) (by decide))
 ·exact fM 0 none y y y y (.inl y) y y y
 ·refine fJ [(20,_)] 1 [some 0] fun G a w S=>?_
  exact nilCheck_ok (q:=⟨bb0,0,none⟩) S (wN y) y y y (lb y) fun a S=>leafL ⟨y,S⟩
 ·refine fJ [(21,_)] 2 [some 1] fun G a w S=>?_
  exact sField (b:=bb0) (off:=0) 0 0 S (wN y) y y y y y (lb y) fun a S=>leafL ⟨y,S⟩
 ·refine fJ [(22,_)] 3 [some 2] fun G a w S=>?_
  exact sLoadN (p:=bb0) (off:=0) (T:=68) (vs:=[iv p0.g.W,iv p0.g.H,.slice a2 p0.g.Bits.length a3,iv p0.k,.slice ad_0_1 p0.l.length cp_0_1,.slice ak p0.best.length al,iv p0.least]) 0 [iv p0.g.W,iv p0.g.H,.slice a2 p0.g.Bits.length a3] S (wN y) y y y y y y y (lb y) fun a S=>leafL ⟨y,S⟩
 ·exact fM 4 none y y y y (.inl y) y y y
 ·refine fJ [(24,_)] 5 [some 4] fun G a w S=>?_
  exact nilCheck_ok (q:=⟨bb0,0,none⟩) S (wN y) y y y (lb y) fun a S=>leafL ⟨y,S⟩
 ·refine fJ [(25,_)] 6 [some 5] fun G a w S=>?_
  exact sField (b:=bb0) (off:=0) 4 4 S (wN y) y y y y y (lb y) fun a S=>leafL ⟨y,S⟩
 ·refine fJ [(26,_)] 7 [some 6] fun G a w S=>?_
  exact sLoad1 0 (.slice ad_0_1 p0.l.length cp_0_1) S (wN y) y y y y y y (lb y) fun a S=>leafL ⟨y,S⟩
 ·refine ⟨_,[(23,.agg #[iv p0.g.W,iv p0.g.H,.slice a2 p0.g.Bits.length a3]),(27,.slice ad_0_1 p0.l.length cp_0_1)],y,(srcs_of [some 3,some 7] y y y),fun G a w S=>?_⟩
  have S:=S.learn (fRep r_api_Grid (.agg #[iv p0.g.W,iv p0.g.H,.slice a2 p0.g.Bits.length a3]) p0.g) ⟨_,y,S.mem.know (i:=0) (e:=fRep (rL rB) (.slice a2 p0.g.Bits.length a3) p0.g.Bits) y⟩
  refine sCall (X:=Option Addr × Nat) (f:=12) (vs:=[.agg #[iv p0.g.W,iv p0.g.H,.slice a2 p0.g.Bits.length a3],.slice ad_0_1 p0.l.length cp_0_1]) (val:=fun x=>.tuple #[.agg #[iv a0.1.W,iv a0.1.H,.slice x.1 a0.1.Bits.length x.2],iv a0.2.1,iv a0.2.2.1]) (B':=fun x=>[eRow rB 4 (.slice x.1 a0.1.Bits.length x.2) a0.1.Bits,eRow (rI .i64) 3 (.slice ad_0_1 p0.l.length cp_0_1) a0.2.2.2]) (D':=fun _=>[]) [eRow (rI .i64) 3 (.slice ad_0_1 p0.l.length cp_0_1) p0.l] [eBox bb0 68 [iv p0.g.W,iv p0.g.H,.slice a2 p0.g.Bits.length a3,iv p0.k,.slice ad_0_1 p0.l.length cp_0_1,.slice ak p0.best.length al,iv p0.least]] [fRep r_api_Grid (.agg #[iv p0.g.W,iv p0.g.H,.slice a2 p0.g.Bits.length a3]) p0.g] [1,0] [0] S (wN y) y callee12 y (by decide) y y (fun E1 w1 S1=>c_reduce_Change_s1 E1 w1 p0.g (.agg #[iv p0.g.W,iv p0.g.H,.slice a2 p0.g.Bits.length a3]) p0.l ad_0_1 cp_0_1 a0 aT S1) y (lb y) fun xx a w S=>?_
  obtain ⟨a7,a8⟩:=xx
  dsimp only at S
  refine leafL ⟨y,_,_,.inl ⟨28,(.tuple #[.agg #[iv a0.1.W,iv a0.1.H,.slice a7 a0.1.Bits.length a8],iv a0.2.1,iv a0.2.2.1]),[(9,19,.tuple #[.agg #[iv a0.1.W,iv a0.1.H,.slice a7 a0.1.Bits.length a8],iv a0.2.1,iv a0.2.2.1]),(10,29,.agg #[iv a0.1.W,iv a0.1.H,.slice a7 a0.1.Bits.length a8]),(11,30,iv a0.2.1),(12,31,iv a0.2.2.1)],y,S,hz_of y,?_⟩⟩
  refine node_by (A:=anc_reduce_search_from_s1_1) 17 (by kernel_rfl) (by kernel_rfl) (by kernel_rfl) (by kernel_rfl) (by kernel_rfl) [9,10,11,12,8,0,1,2,3,4,5,6,7] (by kernel_rfl) (by decide) (by decide) (fD 8 (fD 8 (fD 8 (fD 8 (fD 8 (fD 8 (fD 8 (fD 8 (fY (fF ?_ (fF ?_ (fF ?_ (fF ?_ (fN ?_ (aB 14 2 13 (by decide) (fE 13 (fE 13 (trivial)))))))))))))))))) [] (fun q hq=>by cases hq) (fun hY=>absurd (hY 13 (by decide)) (by decide))
  ·exact fM 0 (some 4) y y y y (.inl y) y y y
  ·refine fJ [(19,_)] 1 [some 0] fun G a w S=>?_
   exact sExtract (vs:=[.agg #[iv a0.1.W,iv a0.1.H,.slice a7 a0.1.Bits.length a8],iv a0.2.1,iv a0.2.2.1]) (.agg #[iv a0.1.W,iv a0.1.H,.slice a7 a0.1.Bits.length a8]) S (wN y) y y y y (lb y) fun a S=>leafL ⟨y,S⟩
  ·refine fJ [(19,_)] 2 [some 0] fun G a w S=>?_
   exact sExtract (vs:=[.agg #[iv a0.1.W,iv a0.1.H,.slice a7 a0.1.Bits.length a8],iv a0.2.1,iv a0.2.2.1]) (iv a0.2.1) S (wN y) y y y y (lb y) fun a S=>leafL ⟨y,S⟩
  ·refine fJ [(19,_)] 3 [some 0] fun G a w S=>?_
   exact sExtract (vs:=[.agg #[iv a0.1.W,iv a0.1.H,.slice a7 a0.1.Bits.length a8],iv a0.2.1,iv a0.2.2.1]) (iv a0.2.2.1) S (wN y) y y y y (lb y) fun a S=>leafL ⟨y,S⟩
  refine ⟨_,[],y,(srcs_of [] y y y),fun G a w S=>?_⟩
  refine sAlloc (.agg #[iv 0,iv 0,.slice none 0 0]) S (wN y) y y [iv 0,iv 0,.slice none 0 0] y y (lb y) fun a bm w S=>leafL ⟨y,_,_,.inl ⟨4,(.pointer (some ⟨bm,0,none⟩)),[],y,S,hz_of y,?_⟩⟩
  refine node_by (A:=anc_reduce_search_from_s1_1) 17 (by kernel_rfl) (by kernel_rfl) (by kernel_rfl) (by kernel_rfl) (by kernel_rfl) [13,9,10,11,12,8,0,1,2,3,4,5,6,7] (by kernel_rfl) (by decide) (by decide) (fD 8 (fD 8 (fD 8 (fD 8 (fD 8 (fD 8 (fD 8 (fD 8 (fY (fF ?_ (fF ?_ (fF ?_ (fF ?_ (fY (fN ?_ (fE 14 (fE 14 (trivial)))))))))))))))))) [] (fun q hq=>by cases hq) (fun hY=>absurd (hY 14 (by decide)) (by decide))
  ·exact fM 1 (some 5) y y y y (.inl y) y y y
  ·refine fJ [(19,_)] 2 [some 1] fun G a w S=>?_
   exact sExtract (vs:=[.agg #[iv a0.1.W,iv a0.1.H,.slice a7 a0.1.Bits.length a8],iv a0.2.1,iv a0.2.2.1]) (.agg #[iv a0.1.W,iv a0.1.H,.slice a7 a0.1.Bits.length a8]) S (wN y) y y y y (lb y) fun a S=>leafL ⟨y,S⟩
  ·refine fJ [(19,_)] 3 [some 1] fun G a w S=>?_
   exact sExtract (vs:=[.agg #[iv a0.1.W,iv a0.1.H,.slice a7 a0.1.Bits.length a8],iv a0.2.1,iv a0.2.2.1]) (iv a0.2.1) S (wN y) y y y y (lb y) fun a S=>leafL ⟨y,S⟩
  ·refine fJ [(19,_)] 4 [some 1] fun G a w S=>?_
   exact sExtract (vs:=[.agg #[iv a0.1.W,iv a0.1.H,.slice a7 a0.1.Bits.length a8],iv a0.2.1,iv a0.2.2.1]) (iv a0.2.2.1) S (wN y) y y y y (lb y) fun a S=>leafL ⟨y,S⟩
  refine ⟨_,[(4,.pointer (some ⟨bm,0,none⟩)),(29,.agg #[iv a0.1.W,iv a0.1.H,.slice a7 a0.1.Bits.length a8])],y,(srcs_of [some 0,some 2] y y y),fun G a w S=>?_⟩
  refine sStore (p:=bm) (off:=0) (T:=24) (vs:=[iv 0,iv 0,.slice none 0 0]) (v:=.agg #[iv a0.1.W,iv a0.1.H,.slice a7 a0.1.Bits.length a8]) 0 [iv a0.1.W,iv a0.1.H,.slice a7 a0.1.Bits.length a8] S (wN y) y y y y y y y (by simp) y fun a w S=>leafL ⟨y,_,_,.inr ⟨[(15,5,iv a0.2.1),(16,6,iv a0.2.2.1)],y,S,hz_of y,?_⟩⟩
  refine node_by (A:=anc_reduce_search_from_s1_1) 17 (by kernel_rfl) (by kernel_rfl) (by kernel_rfl) (by kernel_rfl) (by kernel_rfl) [15,16,13,9,10,11,12,8,0,1,2,3,4,5,6,7] (by kernel_rfl) (by decide) (by decide) (fD 14 (fD 14 (fD 14 (fD 14 (fD 14 (fD 14 (fD 14 (fD 14 (fY (fD 14 (fD 14 (fF ?_ (fF ?_ (fY (fY (fF ?_ (fF ?_ (trivial)))))))))))))))))) [(0,.pointer (some ⟨bb0,0,none⟩)),(5,iv a0.2.1)] (fin_of [none,some 0] y (by kernel_rfl) (by kernel_rfl)) (fun _ a w S=>?_)
  ·refine fJ [(19,_)] 5 [some 3] fun G a w S=>?_
   exact sExtract (vs:=[.agg #[iv a0.1.W,iv a0.1.H,.slice a7 a0.1.Bits.length a8],iv a0.2.1,iv a0.2.2.1]) (iv a0.2.1) S (wN y) y y y y (lb y) fun a S=>leafL ⟨y,S⟩
  ·refine fJ [(19,_)] 6 [some 3] fun G a w S=>?_
   exact sExtract (vs:=[.agg #[iv a0.1.W,iv a0.1.H,.slice a7 a0.1.Bits.length a8],iv a0.2.1,iv a0.2.2.1]) (iv a0.2.2.1) S (wN y) y y y y (lb y) fun a S=>leafL ⟨y,S⟩
  ·exact fM 0 (some 5) y y y y (.inr y) y y y
  ·exact fM 1 (some 6) y y y y (.inr y) y y y
  have bn:=row_v (S.mem.hold (i:=2) (e:=eRow (rI .i64) 3 (.slice ad_0_1 p0.l.length cp_0_1) a0.2.2.2) y)
  rw [bn] at S
  exact leafT (⟨a0.2.1,a0.2.2.2,Option.some.inj h,ad_0_1,cp_0_1,S.fix [3,2] [1,2] (by decide) y y y⟩)
 refine ⟨_,[],y,(srcs_of [] y y y),fun G a w S=>?_⟩
 refine sAlloc (.agg #[iv 0,iv 0,.slice none 0 0]) S (wN y) y y [iv 0,iv 0,.slice none 0 0] y y (lb y) fun a aV w S=>leafL ⟨y,_,_,.inl ⟨4,(.pointer (some ⟨aV,0,none⟩)),[],y,S,hz_of y,?_⟩⟩
 refine node_by (A:=anc_reduce_search_from_s1_1) 17 (by kernel_rfl) (by kernel_rfl) (by kernel_rfl) (by kernel_rfl) (by kernel_rfl) [13,0,1,2,3,4,5,6,7] (by kernel_rfl) (by decide) (by decide) (fF ?_ (fF ?_ (fF ?_ (fF ?_ (fF ?_ (fF ?_ (fF ?_ (fF ?_ (fN ?_ (fE 8 (fE 8 (fE 8 (fE 8 (fY (aB 14 2 8 (by decide) (fE 8 (fE 8 (trivial)))))))))))))))))) [] (fun q hq=>by cases hq) (fun hY=>absurd (hY 8 (by decide)) (by decide))
 ·exact fM 1 none y y y y (.inl y) y y y
 ·refine fJ [(20,_)] 2 [some 1] fun G a w S=>?_
  exact nilCheck_ok (q:=⟨bb0,0,none⟩) S (wN y) y y y (lb y) fun a S=>leafL ⟨y,S⟩
 ·refine fJ [(21,_)] 3 [some 2] fun G a w S=>?_
  exact sField (b:=bb0) (off:=0) 0 0 S (wN y) y y y y y (lb y) fun a S=>leafL ⟨y,S⟩
 ·refine fJ [(22,_)] 4 [some 3] fun G a w S=>?_
  exact sLoadN (p:=bb0) (off:=0) (T:=68) (vs:=[iv p0.g.W,iv p0.g.H,.slice a2 p0.g.Bits.length a3,iv p0.k,.slice ad_0_1 p0.l.length cp_0_1,.slice ak p0.best.length al,iv p0.least]) 1 [iv p0.g.W,iv p0.g.H,.slice a2 p0.g.Bits.length a3] S (wN y) y y y y y y y (lb y) fun a S=>leafL ⟨y,S⟩
 ·exact fM 5 none y y y y (.inl y) y y y
 ·refine fJ [(24,_)] 6 [some 5] fun G a w S=>?_
  exact nilCheck_ok (q:=⟨bb0,0,none⟩) S (wN y) y y y (lb y) fun a S=>leafL ⟨y,S⟩
 ·refine fJ [(25,_)] 7 [some 6] fun G a w S=>?_
  exact sField (b:=bb0) (off:=0) 4 4 S (wN y) y y y y y (lb y) fun a S=>leafL ⟨y,S⟩
 ·refine fJ [(26,_)] 8 [some 7] fun G a w S=>?_
  exact sLoad1 1 (.slice ad_0_1 p0.l.length cp_0_1) S (wN y) y y y y y y (lb y) fun a S=>leafL ⟨y,S⟩
 refine ⟨_,[(23,.agg #[iv p0.g.W,iv p0.g.H,.slice a2 p0.g.Bits.length a3]),(27,.slice ad_0_1 p0.l.length cp_0_1)],y,(srcs_of [some 4,some 8] y y y),fun G a w S=>?_⟩
 have S:=S.learn (fRep r_api_Grid (.agg #[iv p0.g.W,iv p0.g.H,.slice a2 p0.g.Bits.length a3]) p0.g) ⟨_,y,S.mem.know (i:=0) (e:=fRep (rL rB) (.slice a2 p0.g.Bits.length a3) p0.g.Bits) y⟩
 refine sCall (X:=Option Addr × Nat) (f:=12) (vs:=[.agg #[iv p0.g.W,iv p0.g.H,.slice a2 p0.g.Bits.length a3],.slice ad_0_1 p0.l.length cp_0_1]) (val:=fun x=>.tuple #[.agg #[iv a0.1.W,iv a0.1.H,.slice x.1 a0.1.Bits.length x.2],iv a0.2.1,iv a0.2.2.1]) (B':=fun x=>[eRow rB 4 (.slice x.1 a0.1.Bits.length x.2) a0.1.Bits,eRow (rI .i64) 3 (.slice ad_0_1 p0.l.length cp_0_1) a0.2.2.2]) (D':=fun _=>[]) [eRow (rI .i64) 3 (.slice ad_0_1 p0.l.length cp_0_1) p0.l] [eBox aV 24 [iv 0,iv 0,.slice none 0 0],eBox bb0 68 [iv p0.g.W,iv p0.g.H,.slice a2 p0.g.Bits.length a3,iv p0.k,.slice ad_0_1 p0.l.length cp_0_1,.slice ak p0.best.length al,iv p0.least]] [fRep r_api_Grid (.agg #[iv p0.g.W,iv p0.g.H,.slice a2 p0.g.Bits.length a3]) p0.g] [2,0,1] [0] S (wN y) y callee12 y (by decide) y y (fun E1 w1 S1=>c_reduce_Change_s1 E1 w1 p0.g (.agg #[iv p0.g.W,iv p0.g.H,.slice a2 p0.g.Bits.length a3]) p0.l ad_0_1 cp_0_1 a0 aT S1) y (lb y) fun xx a w S=>?_
 obtain ⟨ab,ac⟩:=xx
 dsimp only at S
 refine leafL ⟨y,_,_,.inl ⟨28,(.tuple #[.agg #[iv a0.1.W,iv a0.1.H,.slice ab a0.1.Bits.length ac],iv a0.2.1,iv a0.2.2.1]),[(9,19,.tuple #[.agg #[iv a0.1.W,iv a0.1.H,.slice ab a0.1.Bits.length ac],iv a0.2.1,iv a0.2.2.1]),(10,29,.agg #[iv a0.1.W,iv a0.1.H,.slice ab a0.1.Bits.length ac]),(11,30,iv a0.2.1),(12,31,iv a0.2.2.1)],y,S,hz_of y,?_⟩⟩
 refine node_by (A:=anc_reduce_search_from_s1_1) 17 (by kernel_rfl) (by kernel_rfl) (by kernel_rfl) (by kernel_rfl) (by kernel_rfl) [9,10,11,12,8,13,0,1,2,3,4,5,6,7] (by kernel_rfl) (by decide) (by decide) (fD 8 (fD 8 (fD 8 (fD 8 (fD 8 (fD 8 (fD 8 (fD 8 (fY (fF ?_ (fF ?_ (fF ?_ (fF ?_ (fY (fN ?_ (fE 14 (fE 14 (trivial)))))))))))))))))) [] (fun q hq=>by cases hq) (fun hY=>absurd (hY 14 (by decide)) (by decide))
 ·exact fM 0 (some 4) y y y y (.inl y) y y y
 ·refine fJ [(19,_)] 1 [some 0] fun G a w S=>?_
  exact sExtract (vs:=[.agg #[iv a0.1.W,iv a0.1.H,.slice ab a0.1.Bits.length ac],iv a0.2.1,iv a0.2.2.1]) (.agg #[iv a0.1.W,iv a0.1.H,.slice ab a0.1.Bits.length ac]) S (wN y) y y y y (lb y) fun a S=>leafL ⟨y,S⟩
 ·refine fJ [(19,_)] 2 [some 0] fun G a w S=>?_
  exact sExtract (vs:=[.agg #[iv a0.1.W,iv a0.1.H,.slice ab a0.1.Bits.length ac],iv a0.2.1,iv a0.2.2.1]) (iv a0.2.1) S (wN y) y y y y (lb y) fun a S=>leafL ⟨y,S⟩
 ·refine fJ [(19,_)] 3 [some 0] fun G a w S=>?_
  exact sExtract (vs:=[.agg #[iv a0.1.W,iv a0.1.H,.slice ab a0.1.Bits.length ac],iv a0.2.1,iv a0.2.2.1]) (iv a0.2.2.1) S (wN y) y y y y (lb y) fun a S=>leafL ⟨y,S⟩
 refine ⟨_,[(4,.pointer (some ⟨aV,0,none⟩)),(29,.agg #[iv a0.1.W,iv a0.1.H,.slice ab a0.1.Bits.length ac])],y,(srcs_of [some 5,some 1] y y y),fun G a w S=>?_⟩
 refine sStore (p:=aV) (off:=0) (T:=24) (vs:=[iv 0,iv 0,.slice none 0 0]) (v:=.agg #[iv a0.1.W,iv a0.1.H,.slice ab a0.1.Bits.length ac]) 2 [iv a0.1.W,iv a0.1.H,.slice ab a0.1.Bits.length ac] S (wN y) y y y y y y y (by simp) y fun a w S=>leafL ⟨y,_,_,.inr ⟨[(15,5,iv a0.2.1),(16,6,iv a0.2.2.1)],y,S,hz_of y,?_⟩⟩
 refine node_by (A:=anc_reduce_search_from_s1_1) 17 (by kernel_rfl) (by kernel_rfl) (by kernel_rfl) (by kernel_rfl) (by kernel_rfl) [15,16,9,10,11,12,8,13,0,1,2,3,4,5,6,7] (by kernel_rfl) (by decide) (by decide) (fD 14 (fD 14 (fD 14 (fD 14 (fD 14 (fD 14 (fD 14 (fD 14 (fY (fD 14 (fD 14 (fF ?_ (fF ?_ (fY (fY (fF ?_ (fF ?_ (trivial)))))))))))))))))) [(0,.pointer (some ⟨bb0,0,none⟩)),(5,iv a0.2.1)] (fin_of [none,some 0] y (by kernel_rfl) (by kernel_rfl)) (fun _ a w S=>?_)
 ·refine fJ [(19,_)] 4 [some 2] fun G a w S=>?_
  exact sExtract (vs:=[.agg #[iv a0.1.W,iv a0.1.H,.slice ab a0.1.Bits.length ac],iv a0.2.1,iv a0.2.2.1]) (iv a0.2.1) S (wN y) y y y y (lb y) fun a S=>leafL ⟨y,S⟩
 ·refine fJ [(19,_)] 5 [some 2] fun G a w S=>?_
  exact sExtract (vs:=[.agg #[iv a0.1.W,iv a0.1.H,.slice ab a0.1.Bits.length ac],iv a0.2.1,iv a0.2.2.1]) (iv a0.2.2.1) S (wN y) y y y y (lb y) fun a S=>leafL ⟨y,S⟩
 ·exact fM 0 (some 4) y y y y (.inr y) y y y
 ·exact fM 1 (some 5) y y y y (.inr y) y y y
 have bo:=row_v (S.mem.hold (i:=2) (e:=eRow (rI .i64) 3 (.slice ad_0_1 p0.l.length cp_0_1) a0.2.2.2) y)
 rw [bo] at S
 exact leafT (⟨a0.2.1,a0.2.2.2,Option.some.inj h,ad_0_1,cp_0_1,S.fix [3,2] [1,2] (by decide) y y y⟩)
def anc_reduce_Best_0:List (List Nat):=[[],[0],[],[2],[0,1],[0,1,2,3,4],[0,1,2,3,4,5]]
noncomputable def F_reduce_Best (p0:api_Grid) (p1:Int):Option ((List Int) × Int × Int):=
 (F_reduce_few p0).bind fun r9=>
 if r9 != 0 then
  some (([]:(List Int)),0,r9)
 else
  Option.bind (α:=Bool) (
   if decide (p1 < 1) then
    some true
   else
    some (decide (40 < p1))) fun a2=>
  if a2 then
   some (([]:(List Int)),0,2)
  else
   (F_reduce_search_from_s1 (reduce_search.mk p0 p1 ([]:(List Int)) ([]:(List Int)) 0) 0).bind fun a0=>
   some (a0.best,a0.least,0)
def c_reduce_Best_val (r:((List Int) × Int × Int)) (x:Value):Value:=.tuple #[x,.int .i64 r.2.1,.int .i64 r.2.2]
def c_reduce_Best_D (r:((List Int) × Int × Int)) (x:Value):List Fact:=[fRep (rL (rI .i64)) x r.1]
theorem c_reduce_Best (E:Nat→Prop) (w0:World) (p0:api_Grid) (v0:Value) (p1:Int) (r:((List Int) × Int × Int)) (h:F_reduce_Best p0 p1=some r) (S:St0 E [] w0 w0 [] [fRep r_api_Grid (v0) p0]) :
 Calls Try.prog 21 #[v0,iv p1] w0 (Ret (X:=Value) E [] w0 (c_reduce_Best_val r) (fun _=>[]) (c_reduce_Best_D r)):=by
 unfold F_reduce_Best at h
 obtain ⟨u1,rfl,al⟩:=S.know (i:=0) (e:=fRep r_api_Grid (v0) p0) y
 have S:=S.learn (fRep (rL rB) u1 p0.Bits) al
 obtain ⟨a2,a3,_,rfl,_⟩:=al
 refine sEnter (args:=[.agg #[iv p0.W,iv p0.H,.slice a2 p0.Bits.length a3],iv p1]) 28 Try.func21 y y (by simp) S (fun a S=>?_)
 refine sSeq (fun K5 am=>sRegion (sBox (v:=.agg #[iv p0.W,iv p0.H,.slice a2 p0.Bits.length a3]) S (wN y) y y [iv p0.W,iv p0.H,.slice a2 p0.Bits.length a3] y y (lb y) fun a b6 w S=>sN S fun a S=>?_))
 refine sN S fun a S=>?_
 refine sN S fun a S=>?_
 refine lT (am _ _ (sSeq (fun K7 ao=>sSeq (fun K8 ap=>sRegion (sLoadN (p:=b6) (off:=0) (T:=24) (vs:=[iv p0.W,iv p0.H,.slice a2 p0.Bits.length a3]) 0 [iv p0.W,iv p0.H,.slice a2 p0.Bits.length a3] S (wN y) y y y y y y y (lb y) fun a S=>?_)))))
 obtain ⟨r9,aa,h⟩:=bS h
 have S1:=S.mem
 refine sCq [.agg #[iv p0.W,iv p0.H,.slice a2 p0.Bits.length a3]] (iv r9) S callee40 (S1.quiet [1] y) (fun E1 w1 S1=>c_reduce_few E1 w1 p0 (.agg #[iv p0.W,iv p0.H,.slice a2 p0.Bits.length a3]) r9 aa S1) fun a w S=>?_
 refine sN S fun a S=>?_
 refine lT (ap _ _ (sSeq (fun ax ab=>sRegion (sM S fun a S=>?_))))
 refine sBin _ S (wN y) y y y (bNe _ _ _ _ .i64 r9 0) y (lb y) fun a S=>lT (ab _ _ ?_)
 rcases iS h with ⟨a8,h⟩ | ⟨a8,h⟩
 ·refine sCondT S y a8 (sSeq (fun ay ac=>sRegion (sM S fun a S=>?_)))
  refine sN S fun a S=>?_
  refine sN S fun a S=>?_
  refine sN S fun a S=>?_
  refine lT (ac _ _ ?_)
  obtain rfl:=tS h
  have S:=S.learn (fRep (rL (rI .i64)) (.slice none 0 0) ([]:(List Int))) (rL_nil _ _ _)
  exact wp_ret (rThen (sRet (.tuple #[.slice none 0 0,iv 0,iv r9]) S (rsl3 y (rvT (t:=4) (v:=.slice none 0 0) S y) (rvT (t:=5) (v:=iv 0) S y) (rvT (t:=6) (v:=iv r9) S y)) ⟨(.slice none 0 0),y,S.mem.sel [] [0] (by decide) y y⟩))
 refine sCondF S y a8 (wp_skip (leafT (ao _ _ ?_)))
 refine sSeq (fun az ae=>?_)
 obtain ⟨aq,h,ar⟩:=bS h
 refine sCut (fun a w=>∃ af,af=aq∧St [] E [] w0 28 a w [(1,iv p1),(2,.pointer (some ⟨b6,0,none⟩)),(19,.bool af)] [eBox b6 24 [iv p0.W,iv p0.H,.slice a2 p0.Bits.length a3]] [fRep (rL rB) (.slice a2 p0.Bits.length a3) p0.Bits]) ?_ (fun a w hI=>?_)
 ·refine sRegion (sM S fun a S=>?_)
  refine sBin _ S (wN y) y y y (bLt _ _ _ _ .i64 p1 1) y (lb y) fun a S=>sM S fun a S=>?_
  rcases iS h with ⟨a6,h⟩ | ⟨a6,h⟩
  ·refine sSkN 2 2 false 16 S y y a6 y fun a S=>sPickT (.bool true) S (wN y) y y a6 y y (lb y) fun a S=>?_
   exact lT (⟨true,Option.some.inj h,S.fix [0] [0] (by decide) y y y⟩)
  refine sMove (iv p1) S (wG 2 false 16 y y y a6) (.inl y) y y (lb y) fun a S=>sBin _ S (wG 2 false 16 y y y a6) y y y (bGt _ _ _ _ .i64 p1 40) y (lb y) fun a S=>sPickF (.bool (decide (40 < p1))) S (wN y) y y a6 y y (lb y) fun a S=>?_
  exact lT (⟨decide (40 < p1),Option.some.inj h,S.fix [0] [0] (by decide) y y y⟩)
 obtain ⟨af,rfl,S⟩:=hI
 have h:=ar
 try dsimp only at h
 rcases iS h with ⟨a9,h⟩ | ⟨a9,h⟩
 ·refine sCondT S y a9 (sSeq (fun aA ag=>sRegion (sN S fun a S=>?_)))
  refine sN S fun a S=>?_
  refine sN S fun a S=>?_
  refine lT (ag _ _ ?_)
  obtain rfl:=tS h
  have S:=S.learn (fRep (rL (rI .i64)) (.slice none 0 0) ([]:(List Int))) (rL_nil _ _ _)
  exact wp_ret (rThen (sRet (.tuple #[.slice none 0 0,iv 0,iv 2]) S (rsl3 y (rvT (t:=4) (v:=.slice none 0 0) S y) (rvT (t:=5) (v:=iv 0) S y) (rvT (t:=6) (v:=iv 2) S y)) ⟨(.slice none 0 0),y,S.mem.sel [] [0] (by decide) y y⟩))
 refine sCondF S y a9 (wp_skip (leafT (ae _ _ ?_)))
 refine sSeq (fun aC ah=>sRegion (sLoadN (p:=b6) (off:=0) (T:=24) (vs:=[iv p0.W,iv p0.H,.slice a2 p0.Bits.length a3]) 0 [iv p0.W,iv p0.H,.slice a2 p0.Bits.length a3] S (wN y) y y y y y y y (lb y) fun a S=>sM S fun a S=>?_))
 refine sBuild [(0,.agg #[iv p0.W,iv p0.H,.slice a2 p0.Bits.length a3]),(1,iv p1)] [iv p0.W,iv p0.H,.slice a2 p0.Bits.length a3,iv p1,.slice none 0 0,.slice none 0 0,iv 0] S (wN y) y y y y (lb y) fun a S=>sAlloc (.agg #[iv 0,iv 0,.slice none 0 0,iv 0,.slice none 0 0,.slice none 0 0,iv 0]) S (wN y) y y [iv 0,iv 0,.slice none 0 0,iv 0,.slice none 0 0,.slice none 0 0,iv 0] y y (lb y) fun a a7 w S=>sStore (p:=a7) (off:=0) (T:=68) (vs:=[iv 0,iv 0,.slice none 0 0,iv 0,.slice none 0 0,.slice none 0 0,iv 0]) (v:=.agg #[iv p0.W,iv p0.H,.slice a2 p0.Bits.length a3,iv p1,.slice none 0 0,.slice none 0 0,iv 0]) 0 [iv p0.W,iv p0.H,.slice a2 p0.Bits.length a3,iv p1,.slice none 0 0,.slice none 0 0,iv 0] S (wN y) y y y y y y y (by simp) y fun a w S=>lT (ah _ _ (sSeq (fun aG ai=>sRegion ?_)))
 obtain ⟨a0,aj,h⟩:=bS h
 have S:=S.nilRow (rI .i64) 3 (α:=Int)
 have S:=S.learn (fRep (rLz (rI .i64)) (.slice none 0 0) ([]:List Int)) (rLz_nil _ _ _)
 refine sCall (X:=Option Addr × Nat × Value) (f:=41) (vs:=[.pointer (some ⟨a7,0,none⟩),iv 0]) (val:=fun _=>.tuple #[]) (B':=fun x=>[eBox a7 68 [iv a0.g.W,iv a0.g.H,.slice a2 p0.Bits.length a3,iv a0.k,.slice x.1 a0.l.length x.2.1,x.2.2,iv a0.least],eRow (rI .i64) 3 (.slice x.1 a0.l.length x.2.1) a0.l]) (D':=fun x=>[fRep (rLz (rI .i64)) x.2.2 a0.best]) [eBox a7 68 [iv p0.W,iv p0.H,.slice a2 p0.Bits.length a3,iv p1,.slice none 0 0,.slice none 0 0,iv 0],eRow (rI .i64) 3 (.slice none 0 0) ([]:List Int)] [eBox b6 24 [iv p0.W,iv p0.H,.slice a2 p0.Bits.length a3]] [fRep (rL rB) (.slice a2 p0.Bits.length a3) p0.Bits,fRep (rLz (rI .i64)) (.slice none 0 0) ([]:List Int)] [1,0,2] [1,0] S (wN y) y callee41 y (by decide) y y (fun E1 w1 S1=>c_reduce_search_from_s1 E1 w1 (reduce_search.mk p0 p1 ([]:(List Int)) ([]:(List Int)) 0) a7 (.slice a2 p0.Bits.length a3) none 0 (.slice none 0 0) 0 a0 aj S1) y (lb y) fun xx a w S=>?_
 obtain ⟨au,av,aw⟩:=xx
 dsimp only at S
 obtain ⟨⟨a4,a5,_,rfl,_⟩,_⟩:=S.mem.know (i:=0) (e:=fRep (rLz (rI .i64)) (aw) a0.best) y
 refine lT (ai _ _ (sSeq (fun aH ak=>sDraw (nf:=[]) (W:=[(0,24,.pointer (some ⟨a7,5,none⟩)),(1,25,.slice a4 a0.best.length a5),(2,26,.pointer (some ⟨a7,6,none⟩)),(3,27,iv a0.least),(4,4,.slice a4 a0.best.length a5),(5,5,iv a0.least),(6,6,iv 0)]) y S ?_)))
 refine node_by (A:=anc_reduce_Best_0) 7 (by kernel_rfl) (by kernel_rfl) (by kernel_rfl) (by kernel_rfl) (by kernel_rfl) [0,1,2,3,4,5,6] (by kernel_rfl) (by decide) (by decide) (fF ?_ (fF ?_ (fF ?_ (fF ?_ (fF ?_ (fF ?_ (fF ?_ (trivial)))))))) [(4,.slice a4 a0.best.length a5),(5,iv a0.least),(6,iv 0)] (fin_of [some 4,some 5,some 6] y (by kernel_rfl) (by kernel_rfl)) (fun _ a w S=>?_)
 ·refine fJ [(8,_)] 0 [none] fun G a w S=>?_
  exact sField (b:=a7) (off:=0) 5 5 S (wN y) y y y y y (lb y) fun a S=>leafL ⟨y,S⟩
 ·refine fJ [(24,_)] 1 [some 0] fun G a w S=>?_
  exact sLoad1 0 (.slice a4 a0.best.length a5) S (wN y) y y y y y y (lb y) fun a S=>leafL ⟨y,S⟩
 ·refine fJ [(8,_)] 2 [none] fun G a w S=>?_
  exact sField (b:=a7) (off:=0) 6 6 S (wN y) y y y y y (lb y) fun a S=>leafL ⟨y,S⟩
 ·refine fJ [(26,_)] 3 [some 2] fun G a w S=>?_
  exact sLoad1 0 (iv a0.least) S (wN y) y y y y y y (lb y) fun a S=>leafL ⟨y,S⟩
 ·exact fM 4 (some 1) y y y y (.inr y) y y y
 ·exact fM 5 (some 3) y y y y (.inr y) y y y
 ·refine fJ [] 6 [] fun G a w S=>?_
  exact sN S fun a S=>leafL ⟨y,S⟩
 refine leafT (ak _ _ ?_)
 obtain rfl:=tS h
 have S:=S.learn (fRep (rL (rI .i64)) (.slice a4 a0.best.length a5) a0.best) (S.mem.know (i:=0) (e:=fRep (rLz (rI .i64)) (.slice a4 a0.best.length a5) a0.best) y).1
 exact wp_ret (sRet (.tuple #[.slice a4 a0.best.length a5,iv a0.least,iv 0]) S (rsl3 y (rvT (t:=4) (v:=.slice a4 a0.best.length a5) S y) (rvT (t:=5) (v:=iv a0.least) S y) (rvT (t:=6) (v:=iv 0) S y)) ⟨(.slice a4 a0.best.length a5),y,S.mem.sel [] [0] (by decide) y y⟩)
noncomputable def F_raddleref01_Zero (p0:Int) (p1:Int):Option api_Grid:=
 (makeO (w64 (p0 * p1)) false).bind fun m6=>
 some (api_Grid.mk p0 p1 m6)
def c_raddleref01_Zero_val (r:api_Grid) (x:Value):Value:=x
def c_raddleref01_Zero_D (r:api_Grid) (x:Value):List Fact:=[fRep r_api_Grid x r]
theorem c_raddleref01_Zero (E:Nat→Prop) (w0:World) (p0:Int) (p1:Int) (r:api_Grid) (h:F_raddleref01_Zero p0 p1=some r) (S:St0 E [] w0 w0 [] []) :
 Calls Try.prog 32 #[iv p0,iv p1] w0 (Ret (X:=Value) E [] w0 (c_raddleref01_Zero_val r) (fun _=>[]) (c_raddleref01_Zero_D r)):=by
 unfold F_raddleref01_Zero at h
 refine sEnter (args:=[iv p0,iv p1]) 12 Try.func32 y y (by simp) S (fun a S=>?_)
 refine sSeq (fun K1 a3=>sRegion (sAlloc (.agg #[iv 0,iv 0,.slice none 0 0]) S (wN y) y y [iv 0,iv 0,.slice none 0 0] y y (lb y) fun a b2 w S=>lT (a3 _ _ (sSeq (fun K3 a4=>sRegion (sM S fun a S=>?_))))))
 refine sM S fun a S=>?_
 refine sM S fun a S=>?_
 refine sM S fun a S=>?_
 refine sBin _ S (wN y) y y y (bMul _ _ _ _ p0 p1) y (lb y) fun a S=>?_
 obtain ⟨m6,a5,h⟩:=bS h
 refine sMake (r:=rB) (m:=w64 (p0 * p1)) (xs:=m6) (.bool false) false 1 S (wN y) y Try.underlying22 y y (by decide) (fun _ _=>y) y y a5 y (lb y) fun a w a0 a2 S=>sBuild [(0,iv p0),(1,iv p1),(2,.slice a0 m6.length a2)] [iv p0,iv p1,.slice a0 m6.length a2] S (wN y) y y y y (lb y) fun a S=>sStore (p:=b2) (off:=0) (T:=24) (vs:=[iv 0,iv 0,.slice none 0 0]) (v:=.agg #[iv p0,iv p1,.slice a0 m6.length a2]) 1 [iv p0,iv p1,.slice a0 m6.length a2] S (wN y) y y y y y y y (by simp) y fun a w S=>lT (a4 _ _ ?_)
 obtain rfl:=tS h
 have S:=S.shutR (r:=rB) (T:=4) (v:=.slice a0 m6.length a2) (xs:=m6) 1 y
 have S:=S.learn (fRep r_api_Grid (.agg #[iv p0,iv p1,.slice a0 m6.length a2]) (api_Grid.mk p0 p1 m6)) ⟨_,y,S.mem.know (i:=0) (e:=fRep (rL rB) (.slice a0 m6.length a2) m6) y⟩
 exact wp_ret (sRet (.agg #[iv p0,iv p1,.slice a0 m6.length a2]) S (rsl1 y (rvN (c:=4) (t:=24) (T:=24) (p:=b2) 0 [iv p0,iv p1,.slice a0 m6.length a2] S y y y y)) ⟨(.agg #[iv p0,iv p1,.slice a0 m6.length a2]),y,S.mem.sel [] [0] (by decide) y y⟩)
noncomputable def F_raddlelaw17_two :Option api_Grid:=
 some (api_Grid.mk 2 1 [true,false])
def c_raddlelaw17_two_val (r:api_Grid) (x:Value):Value:=x
def c_raddlelaw17_two_D (r:api_Grid) (x:Value):List Fact:=[fRep r_api_Grid x r]
theorem c_raddlelaw17_two (E:Nat→Prop) (w0:World)  (r:api_Grid) (h:F_raddlelaw17_two =some r) (S:St0 E [] w0 w0 [] []) :
 Calls Try.prog 33 #[] w0 (Ret (X:=Value) E [] w0 (c_raddlelaw17_two_val r) (fun _=>[]) (c_raddlelaw17_two_D r)):=by
 unfold F_raddlelaw17_two at h
 refine sEnter (args:=[]) 3 Try.func33 y y (by simp) S (fun a S=>?_)
 refine sSeq (fun K1 a3=>sRegion (sAlloc (.agg #[iv 0,iv 0,.slice none 0 0]) S (wN y) y y [iv 0,iv 0,.slice none 0 0] y y (lb y) fun a b2 w S=>lT (a3 _ _ (sSeq (fun K3 a4=>sRegion (sLit (r:=rB) (T:=4) (xs:=[true,false]) [(0,.bool true),(1,.bool false)] 2 [.bool true,.bool false] [.bool true,.bool false] (.bool false) 1 S (wN y) y y Try.underlying22 y (by decide) (by decide) (by kernel_rfl) y (fun E1 w1 hE=>All.cons y (All.cons y (All.nil _ _ _))) y y (lb y) fun a w a0 a2 S=>?_))))))
 refine sBuild [(0,iv 2),(1,iv 1),(2,.slice a0 [true,false].length a2)] [iv 2,iv 1,.slice a0 [true,false].length a2] S (wN y) y y y y (lb y) fun a S=>sStore (p:=b2) (off:=0) (T:=24) (vs:=[iv 0,iv 0,.slice none 0 0]) (v:=.agg #[iv 2,iv 1,.slice a0 [true,false].length a2]) 1 [iv 2,iv 1,.slice a0 [true,false].length a2] S (wN y) y y y y y y y (by simp) y fun a w S=>lT (a4 _ _ ?_)
 obtain rfl:=tS h
 have S:=S.shutR (r:=rB) (T:=4) (v:=.slice a0 [true,false].length a2) (xs:=[true,false]) 1 y
 have S:=S.learn (fRep r_api_Grid (.agg #[iv 2,iv 1,.slice a0 [true,false].length a2]) (api_Grid.mk 2 1 [true,false])) ⟨_,y,S.mem.know (i:=0) (e:=fRep (rL rB) (.slice a0 [true,false].length a2) [true,false]) y⟩
 exact wp_ret (sRet (.agg #[iv 2,iv 1,.slice a0 [true,false].length a2]) S (rsl1 y (rvN (c:=0) (t:=24) (T:=24) (p:=b2) 0 [iv 2,iv 1,.slice a0 [true,false].length a2] S y y y y)) ⟨(.agg #[iv 2,iv 1,.slice a0 [true,false].length a2]),y,S.mem.sel [] [0] (by decide) y y⟩)
noncomputable def F_raddlelaw17_three :Option api_Grid:=
 some (api_Grid.mk 3 2 [true,true,true,true,true,false])
def c_raddlelaw17_three_val (r:api_Grid) (x:Value):Value:=x
def c_raddlelaw17_three_D (r:api_Grid) (x:Value):List Fact:=[fRep r_api_Grid x r]
theorem c_raddlelaw17_three (E:Nat→Prop) (w0:World)  (r:api_Grid) (h:F_raddlelaw17_three =some r) (S:St0 E [] w0 w0 [] []) :
 Calls Try.prog 34 #[] w0 (Ret (X:=Value) E [] w0 (c_raddlelaw17_three_val r) (fun _=>[]) (c_raddlelaw17_three_D r)):=by
 unfold F_raddlelaw17_three at h
 refine sEnter (args:=[]) 3 Try.func34 y y (by simp) S (fun a S=>?_)
 refine sSeq (fun K1 a3=>sRegion (sAlloc (.agg #[iv 0,iv 0,.slice none 0 0]) S (wN y) y y [iv 0,iv 0,.slice none 0 0] y y (lb y) fun a b2 w S=>lT (a3 _ _ (sSeq (fun K3 a4=>sRegion (sLit (r:=rB) (T:=4) (xs:=[true,true,true,true,true,false]) [(0,.bool true),(1,.bool true),(2,.bool true),(3,.bool true),(4,.bool true),(5,.bool false)] 6 [.bool true,.bool true,.bool true,.bool true,.bool true,.bool false] [.bool true,.bool true,.bool true,.bool true,.bool true,.bool false] (.bool false) 1 S (wN y) y y Try.underlying22 y (by decide) (by decide) (by kernel_rfl) y (fun E1 w1 hE=>All.cons y (All.cons y (All.cons y (All.cons y (All.cons y (All.cons y (All.nil _ _ _))))))) y y (lb y) fun a w a0 a2 S=>?_))))))
 refine sBuild [(0,iv 3),(1,iv 2),(2,.slice a0 [true,true,true,true,true,false].length a2)] [iv 3,iv 2,.slice a0 [true,true,true,true,true,false].length a2] S (wN y) y y y y (lb y) fun a S=>sStore (p:=b2) (off:=0) (T:=24) (vs:=[iv 0,iv 0,.slice none 0 0]) (v:=.agg #[iv 3,iv 2,.slice a0 [true,true,true,true,true,false].length a2]) 1 [iv 3,iv 2,.slice a0 [true,true,true,true,true,false].length a2] S (wN y) y y y y y y y (by simp) y fun a w S=>lT (a4 _ _ ?_)
 obtain rfl:=tS h
 have S:=S.shutR (r:=rB) (T:=4) (v:=.slice a0 [true,true,true,true,true,false].length a2) (xs:=[true,true,true,true,true,false]) 1 y
 have S:=S.learn (fRep r_api_Grid (.agg #[iv 3,iv 2,.slice a0 [true,true,true,true,true,false].length a2]) (api_Grid.mk 3 2 [true,true,true,true,true,false])) ⟨_,y,S.mem.know (i:=0) (e:=fRep (rL rB) (.slice a0 [true,true,true,true,true,false].length a2) [true,true,true,true,true,false]) y⟩
 exact wp_ret (sRet (.agg #[iv 3,iv 2,.slice a0 [true,true,true,true,true,false].length a2]) S (rsl1 y (rvN (c:=0) (t:=24) (T:=24) (p:=b2) 0 [iv 3,iv 2,.slice a0 [true,true,true,true,true,false].length a2] S y y y y)) ⟨(.agg #[iv 3,iv 2,.slice a0 [true,true,true,true,true,false].length a2]),y,S.mem.sel [] [0] (by decide) y y⟩)
end Go.Proofs.Ytapohhkdpkapoaa
