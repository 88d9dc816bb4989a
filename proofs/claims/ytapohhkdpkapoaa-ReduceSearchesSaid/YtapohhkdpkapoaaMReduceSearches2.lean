/- ReduceSearches: walks, tables, laws. -/
import Derived.Test.YtapohhkdpkapoaaProg
import Derived.Test.YtapohhkdpkapoaaRows
import Derived.Test.YtapohhkdpkapoaaMReduceSearches1
set_option linter.unusedVariables false
set_option linter.unusedSimpArgs false
set_option maxHeartbeats 4000000
set_option maxRecDepth 100000
namespace Go.Proofs.Ytapohhkdpkapoaa
open Go.RowKit
noncomputable def reduce_Change_s1_l1 (a5:List Bool) (p1:(List Int)):(Int × List (Int × Int))→Option ((Int × List (Int × Int)) ⊕ List (Int × Int)):=fun s0=>match s0 with
 | (a0,a2)=>
  if decide (a0 < (a5.length:Int)) then
   Option.bind (α:=List (Int × Int)) (
    (idxO a5 a0).bind fun a8=>
    if a8 then
     (idxO p1 a0).bind fun a6=>
     (lkO a2 a6).bind fun a9=>
     (updM a2 a6 (w64 (a9 + 1))).bind fun aa=>
     some aa
    else
     (idxO p1 a0).bind fun a7=>
     (lkO a2 a7).bind fun a3=>
     (updM a2 a7 (w64 (a3 - 1))).bind fun a4=>
     some a4) fun ab=>
   some (.inl (w64 (a0 + 1),ab))
  else
   some (.inr a2)
noncomputable def reduce_Change_s1_l2 (aa:List Bool) (p1:(List Int)) (ab:List (Int × Int)):(Int × Int × List Bool)→Option ((Int × Int × List Bool) ⊕ (Int × List Bool)):=fun s0=>match s0 with
 | (a2,a0,a3)=>
  if decide (a0 < (aa.length:Int)) then
   Option.bind (α:=(Int × List Bool)) (
    (idxO aa a0).bind fun a6=>
    (idxO p1 a0).bind fun a7=>
    (lkO ab a7).bind fun a4=>
    (appO a3 [decide (0 < a4)]).bind fun a5=>
    if (decide (0 < a4)) != a6 then
     some (w64 (a2 + 1),a5)
    else
     some (a2,a5)) fun (a8,a9)=>
   some (.inl (a8,w64 (a0 + 1),a9))
  else
   some (.inr (a2,a3))
noncomputable def reduce_Change_s1_l3 (p0:api_Grid) (p1:(List Int)):(Int × Int × List Bool)→Option ((Int × Int × List Bool) ⊕ (Int × List Bool)):=fun s0=>match s0 with
 | (a4,a0,a5)=>
  if decide (a0 < p0.H) then
   Option.bind (α:=(Int × List Bool)) (
    (sliceO p0.Bits (w64 (a0 * p0.W)) (w64 ((w64 (a0 + 1)) * p0.W))).bind fun a6=>
    Option.bind (α:=List (Int × Int)) (
     (whileO (reduce_Change_s1_l1 a6 p1) (0,([]:List (Int × Int)))).bind fun a7=>
      some a7) fun a8=>
    (whileO (reduce_Change_s1_l2 a6 p1 a8) (a4,0,a5)).bind fun (a2,a3)=>
     some (a2,a3)) fun (a9,aa)=>
   some (.inl (a9,w64 (a0 + 1),aa))
  else
   some (.inr (a4,a5))
noncomputable def F_reduce_Change_s1 (p0:api_Grid) (p1:(List Int)):Option (api_Grid × Int × Int × (List Int)):=
 (F_grid_Check p0).bind fun a0=>
 if a0 != 0 then
  some ((api_Grid.mk 0 0 ([]:(List Bool))),0,a0,p1)
 else
  (F_thread_Check p1).bind fun a2=>
  if a2 != 0 then
   some ((api_Grid.mk 0 0 ([]:(List Bool))),0,a2,p1)
  else
   if (p1.length:Int) != p0.W then
    some ((api_Grid.mk 0 0 ([]:(List Bool))),0,26,p1)
   else
    Option.bind (α:=(Int × List Bool)) (
     (whileO (reduce_Change_s1_l3 p0 p1) (0,0,([]:List Bool))).bind fun (a3,a4)=>
      some (a3,a4)) fun (a5,a6)=>
    some ((api_Grid.mk p0.W p0.H a6),a5,0,p1)
theorem c_reduce_Change_s1 (E:Nat→Prop) (w0:World) (p0:api_Grid) (v0:Value) (p1:(List Int)) (ad_1:Option Addr) (cp_1:Nat) (r:(api_Grid × Int × Int × (List Int))) (h:F_reduce_Change_s1 p0 p1=some r) (S:St0 E (keysL [eRow (rI .i64) 3 (.slice ad_1 p1.length cp_1) p1]) w0 w0 [eRow (rI .i64) 3 (.slice ad_1 p1.length cp_1) p1] [fRep r_api_Grid (v0) p0]) :
 Calls Try.prog 12 #[v0,.slice ad_1 p1.length cp_1] w0 (Ret (X:=Option Addr × Nat) E (keysL [eRow (rI .i64) 3 (.slice ad_1 p1.length cp_1) p1]) w0 (fun x=>.tuple #[.agg #[iv r.1.W,iv r.1.H,.slice x.1 r.1.Bits.length x.2],iv r.2.1,iv r.2.2.1]) (fun x=>[eRow rB 4 (.slice x.1 r.1.Bits.length x.2) r.1.Bits,eRow (rI .i64) 3 (.slice ad_1 p1.length cp_1) r.2.2.2]) (fun _=>[])):=by
 unfold F_reduce_Change_s1 at h
 obtain ⟨u1,rfl,cn⟩:=S.know (i:=0) (e:=fRep r_api_Grid (v0) p0) d
 have S:=S.learn (fRep (rL rB) u1 p0.Bits) cn
 obtain ⟨a4,a5,_,rfl,_⟩:=cn
 refine sEnter (args:=[.agg #[iv p0.W,iv p0.H,.slice a4 p0.Bits.length a5],.slice ad_1 p1.length cp_1]) 111 Try.func12 d d (by simp) S (fun a S=>?_)
 refine sSeq (fun K5 ct=>sRegion (sBox (v:=.agg #[iv p0.W,iv p0.H,.slice a4 p0.Bits.length a5]) S (wN d) d d [iv p0.W,iv p0.H,.slice a4 p0.Bits.length a5] d d (lb d) fun a b6 w S=>sAlloc (.agg #[iv 0,iv 0,.slice none 0 0]) S (wN d) d d [iv 0,iv 0,.slice none 0 0] d d (lb d) fun a b7 w S=>sN S fun a S=>?_))
 refine sN S fun a S=>?_
 refine lT (ct _ _ (sSeq (fun K8 cu=>sSeq (fun K9 cv=>sRegion (sLoadN (p:=b6) (off:=0) (T:=24) (vs:=[iv p0.W,iv p0.H,.slice a4 p0.Bits.length a5]) 1 [iv p0.W,iv p0.H,.slice a4 p0.Bits.length a5] S (wN d) d d d d d d d (lb d) fun a S=>?_)))))
 obtain ⟨aT,bB,h⟩:=bS h
 have S1:=S.mem
 refine sCq [.agg #[iv p0.W,iv p0.H,.slice a4 p0.Bits.length a5]] (iv aT) S callee35 (S1.quiet [1] d) (fun E1 w1 S1=>c_grid_Check E1 w1 p0 (.agg #[iv p0.W,iv p0.H,.slice a4 p0.Bits.length a5]) aT bB S1) fun a w S=>?_
 refine sN S fun a S=>?_
 refine lT (cv _ _ (sSeq (fun cR bC=>sRegion (sM S fun a S=>?_))))
 refine sBin _ S (wN d) d d d (bNe _ _ _ _ .i64 aT 0) d (lb d) fun a S=>lT (bC _ _ ?_)
 rcases iS h with ⟨aH,h⟩ | ⟨aH,h⟩
 ·refine sCondT S d aH (sSeq (fun cS bD=>sRegion (sBuild [] [iv 0,iv 0,.slice none 0 0] S (wN d) d d d d (lb d) fun a S=>sM S fun a S=>?_)))
  refine sStore (p:=b7) (off:=0) (T:=24) (vs:=[iv 0,iv 0,.slice none 0 0]) (v:=.agg #[iv 0,iv 0,.slice none 0 0]) 0 [iv 0,iv 0,.slice none 0 0] S (wN d) d d d d d d d (by simp) d fun a w S=>sN S fun a S=>?_
  refine sN S fun a S=>?_
  refine lT (bD _ _ ?_)
  obtain rfl:=tS h
  have S:=S.nilRow rB 4 (α:=Bool)
  exact wp_ret (rThen (sRet (.tuple #[.agg #[iv 0,iv 0,.slice none 0 0],iv 0,iv aT]) S (rsl3 d (rvN (c:=4) (t:=24) (T:=24) (p:=b7) 1 [iv 0,iv 0,.slice none 0 0] S d d d d) (rvT (t:=5) (v:=iv 0) S d) (rvT (t:=6) (v:=iv aT) S d)) ⟨(none,0),d,S.mem.sel [0,3] [] (by decide) d d⟩))
 refine sCondF S d aH (wp_skip (leafT (cu _ _ ?_)))
 refine sSeq (fun cT bE=>sSeq (fun cU bG=>sRegion (sM S fun a S=>?_)))
 obtain ⟨aU,bH,h⟩:=bS h
 have S1:=S.mem
 have S1:=S1.shutR (r:=(rI .i64)) (T:=3) (v:=.slice ad_1 p1.length cp_1) (xs:=p1) 2 d
 refine sCq [.slice ad_1 p1.length cp_1] (iv aU) S callee36 (S1.quiet [0] d) (fun E1 w1 S1=>c_thread_Check E1 w1 p1 (.slice ad_1 p1.length cp_1) aU bH S1) fun a w S=>?_
 refine sN S fun a S=>?_
 refine lT (bG _ _ (sSeq (fun cV bI=>sRegion (sM S fun a S=>?_))))
 refine sBin _ S (wN d) d d d (bNe _ _ _ _ .i64 aU 0) d (lb d) fun a S=>lT (bI _ _ ?_)
 rcases iS h with ⟨aI,h⟩ | ⟨aI,h⟩
 ·refine sCondT S d aI (sSeq (fun cW bJ=>sRegion (sBuild [] [iv 0,iv 0,.slice none 0 0] S (wN d) d d d d (lb d) fun a S=>sM S fun a S=>?_)))
  refine sStore (p:=b7) (off:=0) (T:=24) (vs:=[iv 0,iv 0,.slice none 0 0]) (v:=.agg #[iv 0,iv 0,.slice none 0 0]) 0 [iv 0,iv 0,.slice none 0 0] S (wN d) d d d d d d d (by simp) d fun a w S=>sN S fun a S=>?_
  refine sN S fun a S=>?_
  refine lT (bJ _ _ ?_)
  obtain rfl:=tS h
  have S:=S.nilRow rB 4 (α:=Bool)
  exact wp_ret (rThen (sRet (.tuple #[.agg #[iv 0,iv 0,.slice none 0 0],iv 0,iv aU]) S (rsl3 d (rvN (c:=4) (t:=24) (T:=24) (p:=b7) 1 [iv 0,iv 0,.slice none 0 0] S d d d d) (rvT (t:=5) (v:=iv 0) S d) (rvT (t:=6) (v:=iv aU) S d)) ⟨(none,0),d,S.mem.sel [0,3] [] (by decide) d d⟩))
 refine sCondF S d aI (wp_skip (leafT (bE _ _ ?_)))
 refine sSeq (fun cX bK=>sSeq (fun cY bL=>sRegion (sM S fun a S=>?_)))
 refine sLen S (wN d) d Try.underlying25 d d (lb d) fun a S=>sField (b:=b6) (off:=0) 0 0 S (wN d) d d d d d (lb d) fun a S=>sLoad1 1 (iv p0.W) S (wN d) d d d d d d (lb d) fun a S=>sBin _ S (wN d) d d d (bNe _ _ _ _ .i64 (p1.length:Int) p0.W) d (lb d) fun a S=>lT (bL _ _ ?_)
 rcases iS h with ⟨aJ,h⟩ | ⟨aJ,h⟩
 ·refine sCondT S d aJ (sSeq (fun cZ bM=>sRegion (sBuild [] [iv 0,iv 0,.slice none 0 0] S (wN d) d d d d (lb d) fun a S=>sStore (p:=b7) (off:=0) (T:=24) (vs:=[iv 0,iv 0,.slice none 0 0]) (v:=.agg #[iv 0,iv 0,.slice none 0 0]) 0 [iv 0,iv 0,.slice none 0 0] S (wN d) d d d d d d d (by simp) d fun a w S=>sN S fun a S=>?_)))
  refine sN S fun a S=>?_
  refine lT (bM _ _ ?_)
  obtain rfl:=tS h
  have S:=S.nilRow rB 4 (α:=Bool)
  exact wp_ret (rThen (sRet (.tuple #[.agg #[iv 0,iv 0,.slice none 0 0],iv 0,iv 26]) S (rsl3 d (rvN (c:=4) (t:=24) (T:=24) (p:=b7) 1 [iv 0,iv 0,.slice none 0 0] S d d d d) (rvT (t:=5) (v:=iv 0) S d) (rvT (t:=6) (v:=iv 26) S d)) ⟨(none,0),d,S.mem.sel [0,3] [] (by decide) d d⟩))
 refine sCondF S d aJ (wp_skip (leafT (bK _ _ ?_)))
 refine sSeq (fun d3 bN=>sRegion (sField (b:=b6) (off:=0) 0 0 S (wN d) d d d d d (lb d) fun a S=>sLoad1 1 (iv p0.W) S (wN d) d d d d d d (lb d) fun a S=>sField (b:=b6) (off:=0) 1 1 S (wN d) d d d d d (lb d) fun a S=>sLoad1 1 (iv p0.H) S (wN d) d d d d d d (lb d) fun a S=>sBuild [(0,iv p0.W),(1,iv p0.H)] [iv p0.W,iv p0.H,.slice none 0 0] S (wN d) d d d d (lb d) fun a S=>sAlloc (.agg #[iv 0,iv 0,.slice none 0 0]) S (wN d) d d [iv 0,iv 0,.slice none 0 0] d d (lb d) fun a aa w S=>sStore (p:=aa) (off:=0) (T:=24) (vs:=[iv 0,iv 0,.slice none 0 0]) (v:=.agg #[iv p0.W,iv p0.H,.slice none 0 0]) 0 [iv p0.W,iv p0.H,.slice none 0 0] S (wN d) d d d d d d d (by simp) d fun a w S=>lT (bN _ _ ?_)))
 obtain ⟨cw,h,cx⟩:=bS h
 refine sCut (fun a w=>∃ aV,∃ ar,(aV,ar)=cw∧∃ ab,∃ ac,St [] E (keysL [eRow (rI .i64) 3 (.slice ad_1 p1.length cp_1) p1]) w0 111 a w [(4,.pointer (some ⟨b7,0,none⟩)),(5,iv aV),(9,.pointer (some ⟨aa,0,none⟩))] [eBox b7 24 [iv 0,iv 0,.slice none 0 0],eBox aa 24 [iv p0.W,iv p0.H,.slice ab ar.length ac],eRow rB 4 (.slice ab ar.length ac) ar,eRow (rI .i64) 3 (.slice ad_1 p1.length cp_1) p1] []) ?_ (fun a w hI=>?_)
 rotate_left
 ·obtain ⟨aV,ar,rfl,ab,ac,S⟩:=hI
  have h:=cx
  try dsimp only at h
  refine sSeq (fun cy aW=>sRegion (sLoadN (p:=aa) (off:=0) (T:=24) (vs:=[iv p0.W,iv p0.H,.slice ab ar.length ac]) 1 [iv p0.W,iv p0.H,.slice ab ar.length ac] S (wN d) d d d d d d d (lb d) fun a S=>sM S fun a S=>?_))
  refine sStore (p:=b7) (off:=0) (T:=24) (vs:=[iv 0,iv 0,.slice none 0 0]) (v:=.agg #[iv p0.W,iv p0.H,.slice ab ar.length ac]) 0 [iv p0.W,iv p0.H,.slice ab ar.length ac] S (wN d) d d d d d d d (by simp) d fun a w S=>sN S fun a S=>?_
  refine sN S fun a S=>?_
  refine lT (aW _ _ ?_)
  obtain rfl:=tS h
  exact wp_ret (sRet (.tuple #[.agg #[iv p0.W,iv p0.H,.slice ab ar.length ac],iv aV,iv 0]) S (rsl3 d (rvN (c:=4) (t:=24) (T:=24) (p:=b7) 0 [iv p0.W,iv p0.H,.slice ab ar.length ac] S d d d d) (rvT (t:=5) (v:=iv aV) S d) (rvT (t:=6) (v:=iv 0) S d)) ⟨(ab,ac),d,S.mem.sel [2,3] [] (by decide) d d⟩)
 refine sSeq (fun d4 bO=>sRegion (sField (b:=b6) (off:=0) 1 1 S (wN d) d d d d d (lb d) fun a S=>sLoad1 2 (iv p0.H) S (wN d) d d d d d d (lb d) fun a S=>sM S fun a S=>?_))
 refine lT (bO _ _ (wp_block ?_))
 have S:=S.nilRow rB 4 (α:=Bool)
 obtain ⟨d5,hl,cz⟩:=bS h
 refine sLoop hl (fun s0 a w=>match s0 with | (aQ,ag,aj)=>∃ a6,∃ a7,St [] E (keysL [eRow (rI .i64) 3 (.slice ad_1 p1.length cp_1) p1]) w0 111 a w [(1,.slice ad_1 p1.length cp_1),(2,.pointer (some ⟨b6,0,none⟩)),(4,.pointer (some ⟨b7,0,none⟩)),(5,iv aQ),(9,.pointer (some ⟨aa,0,none⟩)),(42,iv p0.H),(43,iv ag)] [eBox b6 24 [iv p0.W,iv p0.H,.slice a4 p0.Bits.length a5],eBox b7 24 [iv 0,iv 0,.slice none 0 0],eBox aa 24 [iv p0.W,iv p0.H,.slice a6 aj.length a7],eRow (rI .i64) 3 (.slice ad_1 p1.length cp_1) p1,eRow rB 4 (.slice a6 aj.length a7) aj] [fRep (rL rB) (.slice a4 p0.Bits.length a5) p0.Bits]) ⟨none,0,S.fix [3,2,1,4,0] [0] (by decide) d d d⟩ ?_
 clear hl h
 intro s0 a w c0 hI h bP
 obtain ⟨aQ,ag,aj⟩:=s0
 unfold reduce_Change_s1_l3 at h
 dsimp only at h hI
 obtain ⟨a6,a7,S⟩:=hI
 refine sSeq (fun d6 bQ=>sRegion (sBin _ S (wN d) d d d (bLt _ _ _ _ .i64 ag p0.H) d (lb d) fun a S=>lT (bQ _ _ (sSeq (fun d7 bR=>?_)))))
 rcases iS h with ⟨aK,h⟩ | ⟨aK,h⟩
 rotate_left
 ·refine sCondF S d aK ?_
  obtain rfl:=tS h
  obtain rfl:=bP _ d
  have h:=cz
  try dsimp only at h
  exact wp_exit (xThen (xThen (xHit (leafT (⟨aQ,aj,Option.some.inj h,a6,a7,S.fix [1,2,4,3] [] (by decide) d d d⟩)))))
 refine sCondT S d aK (wp_skip (leafT (bR _ _ ?_)))
 obtain ⟨cA,h,cB⟩:=bS h
 refine sCut (fun a w=>∃ bv,∃ aR,(bv,aR)=cA∧∃ ay,∃ az,St [] E (keysL [eRow (rI .i64) 3 (.slice ad_1 p1.length cp_1) p1]) w0 111 a w [(1,.slice ad_1 p1.length cp_1),(2,.pointer (some ⟨b6,0,none⟩)),(4,.pointer (some ⟨b7,0,none⟩)),(5,iv bv),(9,.pointer (some ⟨aa,0,none⟩)),(42,iv p0.H),(43,iv ag)] [eBox b6 24 [iv p0.W,iv p0.H,.slice a4 p0.Bits.length a5],eBox b7 24 [iv 0,iv 0,.slice none 0 0],eBox aa 24 [iv p0.W,iv p0.H,.slice ay aR.length az],eRow (rI .i64) 3 (.slice ad_1 p1.length cp_1) p1,eRow rB 4 (.slice ay aR.length az) aR] [fRep (rL rB) (.slice a4 p0.Bits.length a5) p0.Bits]) ?_ (fun a w hI=>?_)
 rotate_left
 ·obtain ⟨bv,aR,rfl,ay,az,S⟩:=hI
  have h:=cB
  try dsimp only at h
  refine sRegion (sBin _ S (wN d) d d d (bAdd _ _ _ _ ag 1) d (lb d) fun a S=>sM S fun a S=>?_)
  exact lT (⟨(bv,w64 (ag + 1),aR),(Option.some.inj h).symm,⟨ay,az,S.fix [0,1,2,3,4] [0] (by decide) d d d⟩⟩)
 refine wp_block ?_
 refine sSeq (fun d8 bU=>sRegion (sM S fun a S=>?_))
 refine sN S fun a S=>?_
 refine lT (bU _ _ (sSeq (fun d9 bV=>sRegion (sField (b:=b6) (off:=0) 2 2 S (wN d) d d d d d (lb d) fun a S=>sLoad1 0 (.slice a4 p0.Bits.length a5) S (wN d) d d d d d d (lb d) fun a S=>sM S fun a S=>?_))))
 refine sField (b:=b6) (off:=0) 0 0 S (wN d) d d d d d (lb d) fun a S=>sLoad1 0 (iv p0.W) S (wN d) d d d d d d (lb d) fun a S=>sBin _ S (wN d) d d d (bMul _ _ _ _ ag p0.W) d (lb d) fun a S=>sM S fun a S=>?_
 refine sBin _ S (wN d) d d d (bAdd _ _ _ _ ag 1) d (lb d) fun a S=>sField (b:=b6) (off:=0) 0 0 S (wN d) d d d d d (lb d) fun a S=>sLoad1 0 (iv p0.W) S (wN d) d d d d d d (lb d) fun a S=>sBin _ S (wN d) d d d (bMul _ _ _ _ (w64 (ag + 1)) p0.W) d (lb d) fun a S=>?_
 obtain ⟨a3,bW,h⟩:=bS h
 refine sSlice (r:=rB) (v:=.slice a4 p0.Bits.length a5) (xs:=p0.Bits) (vlo:=(some (.int .i64 (w64 (ag * p0.W))))) (vhi:=(some (.int .i64 (w64 ((w64 (ag + 1)) * p0.W))))) (lo':=w64 (ag * p0.W)) (hi':=w64 ((w64 (ag + 1)) * p0.W)) 0 S (wN d) d Try.underlying22 d d d d d (.inl d) (.inl d) bW d (lb d) fun a a0 a2 S=>?_
 refine sN S fun a S=>?_
 refine lT (bV _ _ (sSeq (fun da bX=>sRegion (sMakeMap 3 S (wN d) d d (lb d) fun a ai w S=>?_))))
 refine sN S fun a S=>?_
 refine lT (bX _ _ ?_)
 obtain ⟨cC,h,cD⟩:=bS h
 refine sCut (fun a w=>∃ aS,aS=cC∧St [] E (keysL [eRow (rI .i64) 3 (.slice ad_1 p1.length cp_1) p1]) w0 111 a w [(1,.slice ad_1 p1.length cp_1),(2,.pointer (some ⟨b6,0,none⟩)),(4,.pointer (some ⟨b7,0,none⟩)),(5,iv aQ),(9,.pointer (some ⟨aa,0,none⟩)),(11,.slice a0 a3.length a2),(12,.map (some ai)),(42,iv p0.H),(43,iv ag)] [eBox b6 24 [iv p0.W,iv p0.H,.slice a4 p0.Bits.length a5],eBox b7 24 [iv 0,iv 0,.slice none 0 0],eBox aa 24 [iv p0.W,iv p0.H,.slice a6 aj.length a7],eMap Try.prog 3 ai aS,eRow (rI .i64) 3 (.slice ad_1 p1.length cp_1) p1,eRow rB 4 (.slice a6 aj.length a7) aj] [fRep (rL rB) (.slice a0 a3.length a2) a3,fRep (rL rB) (.slice a4 p0.Bits.length a5) p0.Bits]) ?_ (fun a w hI=>?_)
 ·refine sSeq (fun db bY=>sRegion (sM S fun a S=>?_))
  refine sLen S (wN d) d Try.underlying22 d d (lb d) fun a S=>sM S fun a S=>?_
  refine lT (bY _ _ (wp_block ?_))
  obtain ⟨dc,hl,cE⟩:=bS h
  refine sLoop hl (fun s0 a w=>match s0 with | (au,aL)=>St [] E (keysL [eRow (rI .i64) 3 (.slice ad_1 p1.length cp_1) p1]) w0 111 a w [(1,.slice ad_1 p1.length cp_1),(2,.pointer (some ⟨b6,0,none⟩)),(4,.pointer (some ⟨b7,0,none⟩)),(5,iv aQ),(9,.pointer (some ⟨aa,0,none⟩)),(11,.slice a0 a3.length a2),(12,.map (some ai)),(42,iv p0.H),(43,iv ag),(59,.slice a0 a3.length a2),(60,iv (a3.length:Int)),(61,iv au)] [eBox b6 24 [iv p0.W,iv p0.H,.slice a4 p0.Bits.length a5],eBox b7 24 [iv 0,iv 0,.slice none 0 0],eBox aa 24 [iv p0.W,iv p0.H,.slice a6 aj.length a7],eMap Try.prog 3 ai aL,eRow (rI .i64) 3 (.slice ad_1 p1.length cp_1) p1,eRow rB 4 (.slice a6 aj.length a7) aj] [fRep (rL rB) (.slice a0 a3.length a2) a3,fRep (rL rB) (.slice a4 p0.Bits.length a5) p0.Bits]) (S.fix [1,2,3,0,4,5] [0,1] (by decide) d d d) ?_
  clear hl h
  intro s0 a w c0 hI h bZ
  obtain ⟨au,aL⟩:=s0
  unfold reduce_Change_s1_l1 at h
  dsimp only at h hI
  have S:=hI
  refine sSeq (fun de c7=>sRegion (sBin _ S (wN d) d d d (bLt _ _ _ _ .i64 au (a3.length:Int)) d (lb d) fun a S=>lT (c7 _ _ (sSeq (fun df c8=>?_)))))
  rcases iS h with ⟨aM,h⟩ | ⟨aM,h⟩
  rotate_left
  ·refine sCondF S d aM ?_
   obtain rfl:=tS h
   obtain rfl:=bZ _ d
   have h:=cE
   try dsimp only at h
   exact wp_exit (xThen (xThen (xHit (leafT (⟨aL,Option.some.inj h,S.fix [0,1,2,3,4,5] [0,1] (by decide) d d d⟩)))))
  refine sCondT S d aM (wp_skip (leafT (c8 _ _ ?_)))
  obtain ⟨cF,h,cG⟩:=bS h
  refine sCut (fun a w=>∃ bw,bw=cF∧St [] E (keysL [eRow (rI .i64) 3 (.slice ad_1 p1.length cp_1) p1]) w0 111 a w [(1,.slice ad_1 p1.length cp_1),(2,.pointer (some ⟨b6,0,none⟩)),(4,.pointer (some ⟨b7,0,none⟩)),(5,iv aQ),(9,.pointer (some ⟨aa,0,none⟩)),(11,.slice a0 a3.length a2),(12,.map (some ai)),(42,iv p0.H),(43,iv ag),(59,.slice a0 a3.length a2),(60,iv (a3.length:Int)),(61,iv au)] [eBox b6 24 [iv p0.W,iv p0.H,.slice a4 p0.Bits.length a5],eBox b7 24 [iv 0,iv 0,.slice none 0 0],eBox aa 24 [iv p0.W,iv p0.H,.slice a6 aj.length a7],eMap Try.prog 3 ai bw,eRow (rI .i64) 3 (.slice ad_1 p1.length cp_1) p1,eRow rB 4 (.slice a6 aj.length a7) aj] [fRep (rL rB) (.slice a0 a3.length a2) a3,fRep (rL rB) (.slice a4 p0.Bits.length a5) p0.Bits]) ?_ (fun a w hI=>?_)
  rotate_left
  ·obtain ⟨bw,rfl,S⟩:=hI
   have h:=cG
   try dsimp only at h
   refine sRegion (sBin _ S (wN d) d d d (bAdd _ _ _ _ au 1) d (lb d) fun a S=>sM S fun a S=>?_)
   exact lT (⟨(w64 (au + 1),bw),(Option.some.inj h).symm,(S.fix [0,1,2,3,4,5] [0,1] (by decide) d d d)⟩)
  refine wp_block ?_
  refine sSeq (fun dg c9=>sRegion (sM S fun a S=>?_))
  obtain ⟨bx,ca,h⟩:=bS h
  obtain ⟨co,cc,S⟩:=pIdx (P:=Try.prog) (r:=rB) (v:=.slice a0 a3.length a2) (xs:=a3) (j:=au) 22 4 0 S Try.underlying22 d d ca
  refine sIdxV S (wN d) d d d cc d (lb d) fun a S=>?_
  obtain ⟨cp,S⟩:=pLoad (r:=rB) (q:=co) (x:=bx) 0 S d
  obtain rfl:cp=.bool bx:=S.mem.know (i:=1) (e:=fRep rB (cp) bx) d
  refine sLoadV1 (vq:=co) 0 (.bool bx) S (wN d) d d d d d (lb d) fun a S=>sN S fun a S=>?_
  refine sN S fun a S=>?_
  refine lT (c9 _ _ (sSeq (fun dh cd=>sRegion (sM S fun a S=>?_))))
  refine lT (cd _ _ ?_)
  rcases iS h with ⟨aO,h⟩ | ⟨aO,h⟩
  ·refine sCondT S d aO (sRegion (sM S fun a S=>?_))
   refine sM S fun a S=>?_
   refine sM S fun a S=>?_
   obtain ⟨bz,aX,h⟩:=bS h
   obtain ⟨cH,ce,cf⟩:=pIdxR (P:=Try.prog) (r:=(rI .i64)) (T:=3) (v:=.slice ad_1 p1.length cp_1) (xs:=p1) (j:=au) 25 3 4 S Try.underlying25 d d aX
   refine sIdxV S (wN d) d d d ce d (lb d) fun a S=>sLoadR (r:=(rI .i64)) (T:=3) (xs:=p1) (x:=bz) (v:=.slice ad_1 p1.length cp_1) (vq:=cH) (j:=au) 4 (iv bz) S cf (wN d) d d d aX (fun _ _ _ h=>h) (scal_I _) d d (lb d) fun a S=>?_
   obtain ⟨cq,cg,h⟩:=bS h
   refine sLookup (K:=3) (b:=ai) (M:=aL) (key:=bz) 3 S d d Try.underlying65 Try.underlying3 d d d d cg d (lb d) fun a S=>?_
   refine sBin _ S (wN d) d d d (bAdd _ _ _ _ cq 1) d (lb d) fun a S=>?_
   obtain ⟨cr,ci,h⟩:=bS h
   refine sMapUpd (K:=3) (b:=ai) (M:=aL) (M':=cr) (key:=bz) (val:=w64 (cq + 1)) 3 S d d Try.underlying65 Try.underlying3 d d d d ci d fun a w S=>?_
   exact leafL (leafB (leafT (⟨cr,Option.some.inj h,S.fix [1,2,3,0,4,5] [3,4] (by decide) d d d⟩)))
  refine sCondF S d aO (sRegion (sM S fun a S=>?_))
  refine sM S fun a S=>?_
  refine sM S fun a S=>?_
  obtain ⟨bA,aZ,h⟩:=bS h
  obtain ⟨cI,b1,b3⟩:=pIdxR (P:=Try.prog) (r:=(rI .i64)) (T:=3) (v:=.slice ad_1 p1.length cp_1) (xs:=p1) (j:=au) 25 3 4 S Try.underlying25 d d aZ
  refine sIdxV S (wN d) d d d b1 d (lb d) fun a S=>sLoadR (r:=(rI .i64)) (T:=3) (xs:=p1) (x:=bA) (v:=.slice ad_1 p1.length cp_1) (vq:=cI) (j:=au) 4 (iv bA) S b3 (wN d) d d d aZ (fun _ _ _ h=>h) (scal_I _) d d (lb d) fun a S=>?_
  obtain ⟨b4,b5,h⟩:=bS h
  refine sLookup (K:=3) (b:=ai) (M:=aL) (key:=bA) 3 S d d Try.underlying65 Try.underlying3 d d d d b5 d (lb d) fun a S=>?_
  refine sBin _ S (wN d) d d d (bSub _ _ _ _ b4 1) d (lb d) fun a S=>?_
  obtain ⟨b8,b9,h⟩:=bS h
  refine sMapUpd (K:=3) (b:=ai) (M:=aL) (M':=b8) (key:=bA) (val:=w64 (b4 - 1)) 3 S d d Try.underlying65 Try.underlying3 d d d d b9 d fun a w S=>?_
  exact leafL (leafB (leafT (⟨b8,Option.some.inj h,S.fix [1,2,3,0,4,5] [3,4] (by decide) d d d⟩)))
 obtain ⟨aS,rfl,S⟩:=hI
 have h:=cD
 try dsimp only at h
 refine sSeq (fun cJ ba=>sRegion (sM S fun a S=>?_))
 refine sLen S (wN d) d Try.underlying22 d d (lb d) fun a S=>sM S fun a S=>?_
 refine lT (ba _ _ (wp_block ?_))
 obtain ⟨cK,hl,cj⟩:=bS h
 refine sLoop hl (fun s0 a w=>match s0 with | (ap,ae,af)=>∃ a8,∃ a9,St [] E (keysL [eRow (rI .i64) 3 (.slice ad_1 p1.length cp_1) p1]) w0 111 a w [(1,.slice ad_1 p1.length cp_1),(2,.pointer (some ⟨b6,0,none⟩)),(4,.pointer (some ⟨b7,0,none⟩)),(5,iv ap),(9,.pointer (some ⟨aa,0,none⟩)),(12,.map (some ai)),(42,iv p0.H),(43,iv ag),(82,.slice a0 a3.length a2),(83,iv (a3.length:Int)),(84,iv ae)] [eBox b6 24 [iv p0.W,iv p0.H,.slice a4 p0.Bits.length a5],eBox b7 24 [iv 0,iv 0,.slice none 0 0],eBox aa 24 [iv p0.W,iv p0.H,.slice a8 af.length a9],eMap Try.prog 3 ai aS,eRow (rI .i64) 3 (.slice ad_1 p1.length cp_1) p1,eRow rB 4 (.slice a8 af.length a9) af] [fRep (rL rB) (.slice a0 a3.length a2) a3,fRep (rL rB) (.slice a4 p0.Bits.length a5) p0.Bits]) ⟨a6,a7,S.fix [0,1,2,3,4,5] [0,1] (by decide) d d d⟩ ?_
 clear hl h
 intro s0 a w c0 hI h bb
 obtain ⟨ap,ae,af⟩:=s0
 unfold reduce_Change_s1_l2 at h
 dsimp only at h hI
 obtain ⟨a8,a9,S⟩:=hI
 refine sSeq (fun cL bc=>sRegion (sBin _ S (wN d) d d d (bLt _ _ _ _ .i64 ae (a3.length:Int)) d (lb d) fun a S=>lT (bc _ _ (sSeq (fun cM bf=>?_)))))
 rcases iS h with ⟨av,h⟩ | ⟨av,h⟩
 rotate_left
 ·refine sCondF S d av ?_
  obtain rfl:=tS h
  obtain rfl:=bb _ d
  have h:=cj
  try dsimp only at h
  exact wp_exit (xThen (xThen (xHit (leafB (leafT (⟨ap,af,Option.some.inj h,a8,a9,S.fix [0,1,2,4,5] [1] (by decide) d d d⟩))))))
 refine sCondT S d av (wp_skip (leafT (bf _ _ ?_)))
 obtain ⟨ck,h,cl⟩:=bS h
 refine sCut (fun a w=>∃ aA,∃ aq,(aA,aq)=ck∧∃ ak,∃ al,St [] E (keysL [eRow (rI .i64) 3 (.slice ad_1 p1.length cp_1) p1]) w0 111 a w [(1,.slice ad_1 p1.length cp_1),(2,.pointer (some ⟨b6,0,none⟩)),(4,.pointer (some ⟨b7,0,none⟩)),(5,iv aA),(9,.pointer (some ⟨aa,0,none⟩)),(12,.map (some ai)),(42,iv p0.H),(43,iv ag),(82,.slice a0 a3.length a2),(83,iv (a3.length:Int)),(84,iv ae)] [eBox b6 24 [iv p0.W,iv p0.H,.slice a4 p0.Bits.length a5],eBox b7 24 [iv 0,iv 0,.slice none 0 0],eBox aa 24 [iv p0.W,iv p0.H,.slice ak aq.length al],eMap Try.prog 3 ai aS,eRow (rI .i64) 3 (.slice ad_1 p1.length cp_1) p1,eRow rB 4 (.slice ak aq.length al) aq] [fRep (rL rB) (.slice a0 a3.length a2) a3,fRep (rL rB) (.slice a4 p0.Bits.length a5) p0.Bits]) ?_ (fun a w hI=>?_)
 rotate_left
 ·obtain ⟨aA,aq,rfl,ak,al,S⟩:=hI
  have h:=cl
  try dsimp only at h
  refine sRegion (sBin _ S (wN d) d d d (bAdd _ _ _ _ ae 1) d (lb d) fun a S=>sM S fun a S=>?_)
  exact lT (⟨(aA,w64 (ae + 1),aq),(Option.some.inj h).symm,⟨ak,al,S.fix [0,1,2,3,4,5] [0,1] (by decide) d d d⟩⟩)
 refine wp_block ?_
 refine sSeq (fun cN bg=>sRegion (sM S fun a S=>?_))
 obtain ⟨aw,bh,h⟩:=bS h
 obtain ⟨bi,bj,S⟩:=pIdx (P:=Try.prog) (r:=rB) (v:=.slice a0 a3.length a2) (xs:=a3) (j:=ae) 22 4 0 S Try.underlying22 d d bh
 refine sIdxV S (wN d) d d d bj d (lb d) fun a S=>?_
 obtain ⟨bk,S⟩:=pLoad (r:=rB) (q:=bi) (x:=aw) 0 S d
 obtain rfl:bk=.bool aw:=S.mem.know (i:=1) (e:=fRep rB (bk) aw) d
 refine sLoadV1 (vq:=bi) 0 (.bool aw) S (wN d) d d d d d (lb d) fun a S=>sN S fun a S=>?_
 refine sN S fun a S=>?_
 refine lT (bg _ _ (sSeq (fun cO bl=>sRegion (sM S fun a S=>?_))))
 refine sM S fun a S=>?_
 refine sM S fun a S=>?_
 obtain ⟨aP,aG,h⟩:=bS h
 obtain ⟨cm,bm,bn⟩:=pIdxR (P:=Try.prog) (r:=(rI .i64)) (T:=3) (v:=.slice ad_1 p1.length cp_1) (xs:=p1) (j:=ae) 25 3 4 S Try.underlying25 d d aG
 refine sIdxV S (wN d) d d d bm d (lb d) fun a S=>sLoadR (r:=(rI .i64)) (T:=3) (xs:=p1) (x:=aP) (v:=.slice ad_1 p1.length cp_1) (vq:=cm) (j:=ae) 4 (iv aP) S bn (wN d) d d d aG (fun _ _ _ h=>h) (scal_I _) d d (lb d) fun a S=>?_
 obtain ⟨ah,bo,h⟩:=bS h
 refine sLookup (K:=3) (b:=ai) (M:=aS) (key:=aP) 3 S d d Try.underlying65 Try.underlying3 d d d d bo d (lb d) fun a S=>?_
 refine sBin _ S (wN d) d d d (bGt _ _ _ _ .i64 ah 0) d (lb d) fun a S=>sN S fun a S=>?_
 refine lT (bl _ _ (sSeq (fun cP bp=>sRegion (sField (b:=aa) (off:=0) 2 2 S (wN d) d d d d d (lb d) fun a S=>sLoad1 2 (.slice a8 af.length a9) S (wN d) d d d d d d (lb d) fun a S=>sM S fun a S=>?_))))
 refine sLit (r:=rB) (T:=4) (xs:=[decide (0 < ah)]) [(0,.bool (decide (0 < ah)))] 1 [.bool (decide (0 < ah))] [.bool (decide (0 < ah))] (.bool false) 1 S (wN d) d d Try.underlying22 d (by decide) (by decide) (by kernel_rfl) d (fun E1 w1 hE=>All.cons d (All.nil _ _ _)) d d (lb d) fun a w bq br S=>?_
 obtain ⟨aC,bt,h⟩:=bS h
 refine sApp (r:=rB) (T:=4) (xs:=af) (ys:=[decide (0 < ah)]) (v:=.slice a8 af.length a9) (u:=.slice bq [decide (0 < ah)].length br) 6 (.bool false) 1 S (wN d) d Try.underlying22 d d (by decide) d d d (src_R (T:=4) 0 S.mem d) bt d (lb d) fun a w am ao S=>sField (b:=aa) (off:=0) 2 2 S (wN d) d d d d d (lb d) fun a S=>sStore (p:=aa) (off:=2) (T:=24) (vs:=[iv p0.W,iv p0.H,.slice a8 af.length a9]) (v:=.slice am aC.length ao) 4 [.slice am aC.length ao] S (wN d) d d d d d d d (by simp) d fun a w S=>lT (bp _ _ (sSeq (fun cQ bu=>sRegion (sM S fun a S=>?_))))
 refine sM S fun a S=>?_
 refine sBin _ S (wN d) d d d (bNeB _ _ _ _ Try.underlying4 (decide (0 < ah)) aw) d (lb d) fun a S=>lT (bu _ _ ?_)
 rcases iS h with ⟨ax,h⟩ | ⟨ax,h⟩
 rotate_left
 ·refine sCondF S d ax ?_
  exact wp_skip (leafB (leafT (⟨ap,aC,Option.some.inj h,am,ao,S.fix [3,4,0,5,6,1] [3,4] (by decide) d d d⟩)))
 refine sCondT S d ax (sRegion (sM S fun a S=>?_))
 refine sBin _ S (wN d) d d d (bAdd _ _ _ _ ap 1) d (lb d) fun a S=>sN S fun a S=>?_
 exact leafL (leafB (leafT (⟨w64 (ap + 1),aC,Option.some.inj h,am,ao,S.fix [3,4,0,5,6,1] [3,4] (by decide) d d d⟩)))
noncomputable def F_slices_Clone___int_int__s1 (p0:(List Int)):Option ((List Int) × (List Int)):=
 (appO ([]:List Int) p0).bind fun a0=>
 some (a0,p0)
theorem c_slices_Clone___int_int__s1 (E:Nat→Prop) (w0:World) (p0:(List Int)) (ad_0:Option Addr) (cp_0:Nat) (r:((List Int) × (List Int))) (h:F_slices_Clone___int_int__s1 p0=some r) (S:St0 E (keysL [eRow (rI .i64) 3 (.slice ad_0 p0.length cp_0) p0]) w0 w0 [eRow (rI .i64) 3 (.slice ad_0 p0.length cp_0) p0] []) :
 Calls Try.prog 49 #[.slice ad_0 p0.length cp_0] w0 (Ret (X:=Option Addr × Nat) E (keysL [eRow (rI .i64) 3 (.slice ad_0 p0.length cp_0) p0]) w0 (fun x=>.slice x.1 r.1.length x.2) (fun x=>[eRow (rI .i64) 3 (.slice x.1 r.1.length x.2) r.1,eRow (rI .i64) 3 (.slice ad_0 p0.length cp_0) r.2]) (fun _=>[])):=by
 unfold F_slices_Clone___int_int__s1 at h
 refine sEnter (args:=[.slice ad_0 p0.length cp_0]) 8 Try.func49 d d (by simp) S (fun a S=>?_)
 refine sSeq (fun K1 a6=>sRegion (sN S fun a S=>?_))
 refine lT (a6 _ _ (sSeq (fun K2 a7=>sSeq (fun K3 a8=>sRegion (sM S fun a S=>?_)))))
 refine sBin _ S (wN d) d d d (bEqNil _ _ _ _ Try.underlying25 ad_0 (p0.length) (cp_0)) d (lb d) fun a S=>lT (a8 _ _ ?_)
 rcases nil_cases ad_0 with a3 | a3
 ·have a9:=eRow_isNil (S.mem.at (i:=0) (e:=eRow (rI .i64) 3 (.slice ad_0 p0.length cp_0) p0) d) a3
  have h:some (([]:(List Int)),p0)=some r:=by rw [a9] at h ⊢; exact h
  refine sCondT S d a3 (sSeq (fun K6 aa=>sRegion (sN S fun a S=>?_)))
  refine lT (aa _ _ ?_)
  obtain rfl:=tS h
  have S:=S.nilRow (rI .i64) 3 (α:=Int)
  exact wp_ret (rThen (sRet (.slice none 0 0) S (rsl1 d (rvT (t:=2) (v:=.slice none 0 0) S d)) ⟨(none,0),d,S.mem.sel [0,1] [] (by decide) d d⟩))
 refine sCondF S d a3 (wp_skip (leafT (a7 _ _ ?_)))
 refine sSeq (fun K7 ab=>sRegion (sLit0 (α:=Int) (rI .i64) (T:=3) S (wN d) d Try.underlying25 d d (lb d) fun a w ac ae S=>sM S fun a S=>?_))
 obtain ⟨a5,a4,h⟩:=bS h
 refine sApp (r:=(rI .i64)) (T:=3) (xs:=([]:List Int)) (ys:=p0) (v:=.slice ac ([]:List Int).length ae) (u:=.slice ad_0 p0.length cp_0) 0 (iv 0) 8 S (wN d) d Try.underlying25 d d (by decide) d d d (src_R (T:=3) 1 S.mem d) a4 d (lb d) fun a w a0 a2 S=>sN S fun a S=>?_
 refine lT (ab _ _ ?_)
 obtain rfl:=tS h
 exact wp_ret (sRet (.slice a0 a5.length a2) S (rsl1 d (rvT (t:=2) (v:=.slice a0 a5.length a2) S d)) ⟨(a0,a2),d,S.mem.sel [0,1] [] (by decide) d d⟩)
def anc_reduce_search_from_s10_0:List (List Nat):=[[],[0],[0,1],[0,1,2],[0,1,2,3],[],[5],[5,6],[5,6,7],[5,6,7,8],[0,1,2,3,4,5,6,7,8,9]]
def anc_reduce_search_from_s10_1:List (List Nat):=[[],[0],[0,1],[0,1,2],[],[4],[4,5],[4,5,6],[0,1,2,3,4,5,6,7],[0,1,2,3,4,5,6,7,8],[0,1,2,3,4,5,6,7,8,9],[0,1,2,3,4,5,6,7,8,9],[0,1,2,3,4,5,6,7,8,9],[],[0,1,2,3,4,5,6,7,8,9,10,13],[0,1,2,3,4,5,6,7,8,9,10,11,13,14],[0,1,2,3,4,5,6,7,8,9,10,11,12,13,14,15]]
noncomputable def reduce_search_from_s10_l1 (p0:reduce_search) (p1:Int):Unit→Option (Unit ⊕ Unit):=fun s0=>match s0 with
 | _=>
  if decide (0 < (if p0.k < (w64 (p1 + 1)) then p0.k else w64 (p1 + 1))) then
   (appO p0.l ([0]:List Int)).bind fun a0=>
   none
  else
   some (.inr ())
noncomputable def F_reduce_search_from_s10 (p0:reduce_search) (p1:Int):Option reduce_search:=
 if (p0.l.length:Int) == p0.g.W then
  Option.bind (α:=(List Int × List Int × Int)) (
   Option.bind (α:=(Int × List Int)) (
    (F_reduce_Change_s1 p0.g p0.l).bind fun a2=>
    some (a2.2.1,a2.2.2.2)) fun (a3,a4)=>
   Option.bind (α:=Bool) (
    if p0.best.isEmpty then
     some true
    else
     some (decide (a3 < p0.least))) fun a5=>
   if a5 then
    (F_slices_Clone___int_int__s1 a4).bind fun a0=>
    (neO a0.1).bind fun a8=>
    some (a0.2,a0.1,a3)
   else
    some (a4,p0.best,p0.least)) fun (o8,a6,a7)=>
  some (reduce_search.mk p0.g p0.k o8 a6 a7)
 else
  (whileO (reduce_search_from_s10_l1 p0 p1) ()).bind fun _=>
   some p0
theorem c_reduce_search_from_s10 (E:Nat→Prop) (w0:World) (p0:reduce_search) (bb0:Nat) (u_0_0:Value) (ad_0_1:Option Addr) (cp_0_1:Nat) (u_0_2:Value) (p1:Int) (r:reduce_search) (h:F_reduce_search_from_s10 p0 p1=some r) (S:St0 E (keysL [eBox bb0 68 [iv p0.g.W,iv p0.g.H,u_0_0,iv p0.k,.slice ad_0_1 p0.l.length cp_0_1,u_0_2,iv p0.least],eRow (rI .i64) 3 (.slice ad_0_1 p0.l.length cp_0_1) p0.l]) w0 w0 [eBox bb0 68 [iv p0.g.W,iv p0.g.H,u_0_0,iv p0.k,.slice ad_0_1 p0.l.length cp_0_1,u_0_2,iv p0.least],eRow (rI .i64) 3 (.slice ad_0_1 p0.l.length cp_0_1) p0.l] [fRep (rL rB) (u_0_0) p0.g.Bits,fRep (rLz (rI .i64)) (u_0_2) p0.best]) :
 Calls Try.prog 41 #[.pointer (some ⟨bb0,0,none⟩),iv p1] w0 (Ret (X:=Option Addr × Nat × Value) E (keysL [eBox bb0 68 [iv p0.g.W,iv p0.g.H,u_0_0,iv p0.k,.slice ad_0_1 p0.l.length cp_0_1,u_0_2,iv p0.least],eRow (rI .i64) 3 (.slice ad_0_1 p0.l.length cp_0_1) p0.l]) w0 (fun _=>.tuple #[]) (fun x=>[eBox bb0 68 [iv r.g.W,iv r.g.H,u_0_0,iv r.k,.slice x.1 r.l.length x.2.1,x.2.2,iv r.least],eRow (rI .i64) 3 (.slice x.1 r.l.length x.2.1) r.l]) (fun x=>[fRep (rLz (rI .i64)) x.2.2 r.best])):=by
 unfold F_reduce_search_from_s10 at h
 obtain ⟨a6,a7,_,rfl,_⟩:=S.know (i:=0) (e:=fRep (rL rB) (u_0_0) p0.g.Bits) d
 obtain ⟨⟨ab,ac,_,rfl,_⟩,_⟩:=S.know (i:=1) (e:=fRep (rLz (rI .i64)) (u_0_2) p0.best) d
 generalize (keysL [eBox bb0 68 [iv p0.g.W,iv p0.g.H,.slice a6 p0.g.Bits.length a7,iv p0.k,.slice ad_0_1 p0.l.length cp_0_1,.slice ab p0.best.length ac,iv p0.least],eRow (rI .i64) 3 (.slice ad_0_1 p0.l.length cp_0_1) p0.l])=M9 at S ⊢
 refine sEnter (args:=[.pointer (some ⟨bb0,0,none⟩),iv p1]) 98 Try.func41 d d (by simp) S (fun a S=>?_)
 refine sSeq (fun K5 aX=>sSeq (fun K6 aZ=>sDraw (nf:=[]) (W:=[(0,8,.pointer (some ⟨bb0,0,none⟩)),(1,9,.pointer (some ⟨bb0,0,none⟩)),(2,10,.pointer (some ⟨bb0,4,none⟩)),(3,11,.slice ad_0_1 p0.l.length cp_0_1),(4,12,iv (p0.l.length:Int)),(5,13,.pointer (some ⟨bb0,0,none⟩)),(6,14,.pointer (some ⟨bb0,0,none⟩)),(7,15,.pointer (some ⟨bb0,0,none⟩)),(8,16,.pointer (some ⟨bb0,0,none⟩)),(9,17,iv p0.g.W),(10,18,.bool ((p0.l.length:Int) == p0.g.W))]) d S ?_))
 refine node_by (A:=anc_reduce_search_from_s10_0) 11 (by kernel_rfl) (by kernel_rfl) (by kernel_rfl) (by kernel_rfl) (by kernel_rfl) [0,1,2,3,4,5,6,7,8,9,10] (by kernel_rfl) (by decide) (by decide) (fF ?_ (fF ?_ (fF ?_ (fF ?_ (fF ?_ (fF ?_ (fF ?_ (fF ?_ (fF ?_ (fF ?_ (fF ?_ (trivial)))))))))))) [(0,.pointer (some ⟨bb0,0,none⟩)),(1,iv p1),(18,.bool ((p0.l.length:Int) == p0.g.W))] (fin_of [none,none,some 10] d (by kernel_rfl) (by kernel_rfl)) (fun _ a w S=>?_)
 ·exact fM 0 none d d d d (.inl d) d d d
 ·refine fJ [(8,_)] 1 [some 0] fun G a w S=>?_
  exact nilCheck_ok (q:=⟨bb0,0,none⟩) S (wN d) d d d (lb d) fun a S=>leafL ⟨d,S⟩
 ·refine fJ [(9,_)] 2 [some 1] fun G a w S=>?_
  exact sField (b:=bb0) (off:=0) 4 4 S (wN d) d d d d d (lb d) fun a S=>leafL ⟨d,S⟩
 ·refine fJ [(10,_)] 3 [some 2] fun G a w S=>?_
  exact sLoad1 0 (.slice ad_0_1 p0.l.length cp_0_1) S (wN d) d d d d d d (lb d) fun a S=>leafL ⟨d,S⟩
 ·refine fJ [(11,_)] 4 [some 3] fun G a w S=>?_
  exact sLen S (wN d) d Try.underlying25 d d (lb d) fun a S=>leafL ⟨d,S⟩
 ·exact fM 5 none d d d d (.inl d) d d d
 ·refine fJ [(13,_)] 6 [some 5] fun G a w S=>?_
  exact nilCheck_ok (q:=⟨bb0,0,none⟩) S (wN d) d d d (lb d) fun a S=>leafL ⟨d,S⟩
 ·refine fJ [(14,_)] 7 [some 6] fun G a w S=>?_
  exact sField (b:=bb0) (off:=0) 0 0 S (wN d) d d d d d (lb d) fun a S=>leafL ⟨d,S⟩
 ·refine fJ [(15,_)] 8 [some 7] fun G a w S=>?_
  exact sField (b:=bb0) (off:=0) 0 0 S (wN d) d d d d d (lb d) fun a S=>leafL ⟨d,S⟩
 ·refine fJ [(16,_)] 9 [some 8] fun G a w S=>?_
  exact sLoad1 0 (iv p0.g.W) S (wN d) d d d d d d (lb d) fun a S=>leafL ⟨d,S⟩
 ·refine fJ [(12,_),(17,_)] 10 [some 4,some 9] fun G a w S=>?_
  exact sBin _ S (wN d) d d d (bEq _ _ _ _ .i64 (p0.l.length:Int) p0.g.W) d (lb d) fun a S=>leafL ⟨d,S⟩
 refine leafT (aZ _ _ ?_)
 rcases iS h with ⟨az,h⟩ | ⟨az,h⟩
 rotate_left
 ·refine sCondF S d az (wp_skip (leafT (aX _ _ ?_)))
  refine sSeq (fun bf aA=>sRegion (sM S fun a S=>?_))
  refine sBin _ S (wN d) d d d (bAdd _ _ _ _ p1 1) d (lb d) fun a S=>sM S fun a S=>?_
  refine nilCheck_ok (q:=⟨bb0,0,none⟩) S (wN d) d d d (lb d) fun a S=>sField (b:=bb0) (off:=0) 3 3 S (wN d) d d d d d (lb d) fun a S=>sLoad1 0 (iv p0.k) S (wN d) d d d d d d (lb d) fun a S=>sMin2 (p:=w64 (p1 + 1)) (q:=p0.k) S (wN d) d d d d (lb d) fun a S=>sM S fun a S=>?_
  refine lT (aA _ _ (wp_block ?_))
  obtain ⟨bg,hl,b1⟩:=bS h
  refine sLoop hl (fun s0 a w=>match s0 with | _=>∃ ag,∃ ah,St [] E M9 w0 98 a w [(0,.pointer (some ⟨bb0,0,none⟩)),(1,iv p1),(63,iv (if p0.k < (w64 (p1 + 1)) then p0.k else w64 (p1 + 1))),(64,iv 0)] [eBox bb0 68 [iv p0.g.W,iv p0.g.H,.slice a6 p0.g.Bits.length a7,iv p0.k,.slice ag p0.l.length ah,.slice ab p0.best.length ac,iv p0.least],eRow (rI .i64) 3 (.slice ag p0.l.length ah) p0.l] [fRep (rL rB) (.slice a6 p0.g.Bits.length a7) p0.g.Bits,fRep (rLz (rI .i64)) (.slice ab p0.best.length ac) p0.best]) ⟨ad_0_1,cp_0_1,S.fix [0,1] [0,1] (by decide) d d d⟩ ?_
  clear hl h
  intro s0 a w c0 hI h aC
  unfold reduce_search_from_s10_l1 at h
  dsimp only at h hI
  obtain ⟨ag,ah,S⟩:=hI
  refine sSeq (fun bh aG=>sRegion (sBin _ S (wN d) d d d (bLt _ _ _ _ .i64 0 (if p0.k < (w64 (p1 + 1)) then p0.k else w64 (p1 + 1))) d (lb d) fun a S=>lT (aG _ _ (sSeq (fun bi aH=>?_)))))
  rcases iS h with ⟨ap,h⟩ | ⟨ap,h⟩
  rotate_left
  ·refine sCondF S d ap ?_
   obtain rfl:=tS h
   obtain rfl:=aC _ d
   have h:=b1
   try dsimp only at h
   obtain rfl:=tS h
   exact wp_exit (xThen (xThen (xHit (sEnd (.tuple #[]) S (rsl0 d ) ⟨(ag,ah,(.slice ab p0.best.length ac)),d,S.mem.sel [0,1] [1] (by decide) d d⟩))))
  refine sCondT S d ap (wp_skip (leafT (aH _ _ ?_)))
  refine sSeq (fun bj b3=>wp_block ?_)
  refine sSeq (fun bk aI=>sRegion (sM S fun a S=>?_))
  refine sN S fun a S=>?_
  refine lT (aI _ _ (sSeq (fun bl aJ=>sRegion (sM S fun a S=>?_))))
  refine sM S fun a S=>?_
  refine nilCheck_ok (q:=⟨bb0,0,none⟩) S (wN d) d d d (lb d) fun a S=>sField (b:=bb0) (off:=0) 4 4 S (wN d) d d d d d (lb d) fun a S=>sLoad1 0 (.slice ag p0.l.length ah) S (wN d) d d d d d d (lb d) fun a S=>sM S fun a S=>?_
  refine sLit (r:=(rI .i64)) (T:=3) (xs:=([0]:List Int)) [(0,iv 0)] 1 [iv 0] [iv 0] (iv 0) 8 S (wN d) d d Try.underlying25 d (by decide) (by decide) (by kernel_rfl) d (fun E1 w1 hE=>All.cons d (All.nil _ _ _)) d d (lb d) fun a w aK aL S=>?_
  obtain ⟨aW,aM,h⟩:=bS h
  refine sApp (r:=(rI .i64)) (T:=3) (xs:=p0.l) (ys:=([0]:List Int)) (v:=.slice ag p0.l.length ah) (u:=.slice aK ([0]:List Int).length aL) 2 (iv 0) 8 S (wN d) d Try.underlying25 d d (by decide) d d d (src_R (T:=3) 0 S.mem d) aM d (lb d) fun a w au av S=>nilCheck_ok (q:=⟨bb0,0,none⟩) S (wN d) d d d (lb d) fun a S=>sField (b:=bb0) (off:=0) 4 4 S (wN d) d d d d d (lb d) fun a S=>sStore (p:=bb0) (off:=4) (T:=68) (vs:=[iv p0.g.W,iv p0.g.H,.slice a6 p0.g.Bits.length a7,iv p0.k,.slice ag p0.l.length ah,.slice ab p0.best.length ac,iv p0.least]) (v:=.slice au aW.length av) 2 [.slice au aW.length av] S (wN d) d d d d d d d (by simp) d fun a w S=>lT (aJ _ _ (sSeq (fun bm b4=>sRegion (sM S fun a S=>?_))))
  refine sM S fun a S=>?_
  refine sM S fun a S=>?_
  refine sBin _ S (wN d) d d d (bAdd _ _ _ _ 0 1) d (lb d) fun a S=>sMax2 (p:=p1) (q:=w64 ((0:Int) + 1)) S (wN d) d d d d (lb d) fun a S=>?_
  cases h
 refine sCondT S d az ?_
 obtain ⟨b5,h,b8⟩:=bS h
 refine sCut (fun a w=>∃ o8,∃ ar,∃ aO,(o8,ar,aO)=b5∧∃ ax,∃ al,∃ am,∃ ao,St [] E M9 w0 98 a w [] [eBox bb0 68 [iv p0.g.W,iv p0.g.H,.slice a6 p0.g.Bits.length a7,iv p0.k,.slice ax o8.length al,.slice am ar.length ao,iv aO],eRow (rI .i64) 3 (.slice ax o8.length al) o8] [fRep (rL rB) (.slice a6 p0.g.Bits.length a7) p0.g.Bits,fRep (rLz (rI .i64)) (.slice am ar.length ao) ar]) ?_ (fun a w hI=>?_)
 rotate_left
 ·obtain ⟨o8,ar,aO,rfl,ax,al,am,ao,S⟩:=hI
  have h:=b8
  try dsimp only at h
  obtain rfl:=tS h
  exact wp_ret (rThen (sRet (.tuple #[]) S (rsl0 d ) ⟨(ax,al,(.slice am ar.length ao)),d,S.mem.sel [0,1] [1] (by decide) d d⟩))
 obtain ⟨b9,h,ba⟩:=bS h
 refine sCut (fun a w=>∃ ak,∃ af,(ak,af)=b9∧∃ a2,∃ a3,St [] E M9 w0 98 a w [(0,.pointer (some ⟨bb0,0,none⟩)),(5,iv ak)] [eBox bb0 68 [iv p0.g.W,iv p0.g.H,.slice a6 p0.g.Bits.length a7,iv p0.k,.slice a2 af.length a3,.slice ab p0.best.length ac,iv p0.least],eRow (rI .i64) 3 (.slice a2 af.length a3) af] [fRep (rL rB) (.slice a6 p0.g.Bits.length a7) p0.g.Bits,fRep (rLz (rI .i64)) (.slice ab p0.best.length ac) p0.best]) ?_ (fun a w hI=>?_)
 rotate_left
 ·obtain ⟨ak,af,rfl,a2,a3,S⟩:=hI
  have h:=ba
  try dsimp only at h
  obtain ⟨bb,h,bc⟩:=bS h
  refine sCut (fun a w=>∃ aP,aP=bb∧St [] E M9 w0 98 a w [(0,.pointer (some ⟨bb0,0,none⟩)),(5,iv ak),(44,.bool aP)] [eBox bb0 68 [iv p0.g.W,iv p0.g.H,.slice a6 p0.g.Bits.length a7,iv p0.k,.slice a2 af.length a3,.slice ab p0.best.length ac,iv p0.least],eRow (rI .i64) 3 (.slice a2 af.length a3) af] [fRep (rL rB) (.slice a6 p0.g.Bits.length a7) p0.g.Bits,fRep (rLz (rI .i64)) (.slice ab p0.best.length ac) p0.best]) ?_ (fun a w hI=>?_)
  ·refine sRegion (sM S fun a S=>?_)
   refine nilCheck_ok (q:=⟨bb0,0,none⟩) S (wN d) d d d (lb d) fun a S=>sField (b:=bb0) (off:=0) 5 5 S (wN d) d d d d d (lb d) fun a S=>sLoad1 0 (.slice ab p0.best.length ac) S (wN d) d d d d d d (lb d) fun a S=>sBin _ S (wN d) d d d (bEqNilZ _ _ _ _ Try.underlying25 ab (p0.best.length) (ac) (rLz_is (S.mem.know (i:=1) (e:=fRep (rLz (rI .i64)) (.slice ab p0.best.length ac) p0.best) d))) d (lb d) fun a S=>sM S fun a S=>?_
   rcases iS h with ⟨aa,h⟩ | ⟨aa,h⟩
   ·refine sSkN 6 5 false 37 S d d aa d fun a S=>sPickT (.bool true) S (wN d) d d aa d d (lb d) fun a S=>?_
    exact lT (⟨true,Option.some.inj h,S.fix [0,1] [0,1] (by decide) d d d⟩)
   refine sMove (iv ak) S (wG 5 false 37 d d d aa) (.inl d) d d (lb d) fun a S=>sMove (.pointer (some ⟨bb0,0,none⟩)) S (wG 5 false 37 d d d aa) (.inl d) d d (lb d) fun a S=>nilCheck_ok (q:=⟨bb0,0,none⟩) S (wG 5 false 37 d d d aa) d d d (lb d) fun a S=>sField (b:=bb0) (off:=0) 6 6 S (wG 5 false 37 d d d aa) d d d d d (lb d) fun a S=>sLoad1 0 (iv p0.least) S (wG 5 false 37 d d d aa) d d d d d d (lb d) fun a S=>sBin _ S (wG 5 false 37 d d d aa) d d d (bLt _ _ _ _ .i64 ak p0.least) d (lb d) fun a S=>sPickF (.bool (decide (ak < p0.least))) S (wN d) d d aa d d (lb d) fun a S=>?_
   exact lT (⟨decide (ak < p0.least),Option.some.inj h,S.fix [0,1] [0,1] (by decide) d d d⟩)
  obtain ⟨aP,rfl,S⟩:=hI
  have h:=bc
  try dsimp only at h
  rcases iS h with ⟨aq,h⟩ | ⟨aq,h⟩
  rotate_left
  ·refine sCondF S d aq ?_
   exact wp_skip (leafT (⟨af,p0.best,p0.least,Option.some.inj h,a2,a3,ab,ac,S.fix [0,1] [0,1] (by decide) d d d⟩))
  refine sCondT S d aq (sRegion (sM S fun a S=>?_))
  refine sM S fun a S=>?_
  refine sM S fun a S=>?_
  refine nilCheck_ok (q:=⟨bb0,0,none⟩) S (wN d) d d d (lb d) fun a S=>sField (b:=bb0) (off:=0) 4 4 S (wN d) d d d d d (lb d) fun a S=>sLoad1 0 (.slice a2 af.length a3) S (wN d) d d d d d d (lb d) fun a S=>?_
  obtain ⟨ae,aQ,h⟩:=bS h
  refine sCall (X:=Option Addr × Nat) (f:=49) (vs:=[.slice a2 af.length a3]) (val:=fun x=>.slice x.1 ae.1.length x.2) (B':=fun x=>[eRow (rI .i64) 3 (.slice x.1 ae.1.length x.2) ae.1,eRow (rI .i64) 3 (.slice a2 af.length a3) ae.2]) (D':=fun _=>[]) [eRow (rI .i64) 3 (.slice a2 af.length a3) af] [eBox bb0 68 [iv p0.g.W,iv p0.g.H,.slice a6 p0.g.Bits.length a7,iv p0.k,.slice a2 af.length a3,.slice ab p0.best.length ac,iv p0.least]] [] [1,0] [] S (wN d) d callee49 d (by decide) d d (fun E1 w1 S1=>c_slices_Clone___int_int__s1 E1 w1 af a2 a3 ae aQ S1) d (lb d) fun xx a w S=>?_
  obtain ⟨ai,aj⟩:=xx
  dsimp only at S
  have aR:=row_v (S.mem.hold (i:=1) (e:=eRow (rI .i64) 3 (.slice a2 af.length a3) ae.2) d)
  rw [aR] at S
  refine sM S fun a S=>?_
  refine nilCheck_ok (q:=⟨bb0,0,none⟩) S (wN d) d d d (lb d) fun a S=>sField (b:=bb0) (off:=0) 5 5 S (wN d) d d d d d (lb d) fun a S=>?_
  have S:=S.shutR (r:=(rI .i64)) (T:=3) (v:=.slice ai ae.1.length aj) (xs:=ae.1) 0 d
  obtain ⟨bn,aS,h⟩:=bS h
  have S:=S.learn (fRep (rLz (rI .i64)) (.slice ai ae.1.length aj) ae.1) (rLz_of (S.mem.know (i:=0) (e:=fRep (rL (rI .i64)) (.slice ai ae.1.length aj) ae.1) d) aS)
  refine sStore (p:=bb0) (off:=5) (T:=68) (vs:=[iv p0.g.W,iv p0.g.H,.slice a6 p0.g.Bits.length a7,iv p0.k,.slice a2 ae.2.length a3,.slice ab p0.best.length ac,iv p0.least]) (v:=.slice ai ae.1.length aj) 1 [.slice ai ae.1.length aj] S (wN d) d d d d d d d (by simp) d fun a w S=>nilCheck_ok (q:=⟨bb0,0,none⟩) S (wN d) d d d (lb d) fun a S=>sField (b:=bb0) (off:=0) 6 6 S (wN d) d d d d d (lb d) fun a S=>sStore (p:=bb0) (off:=6) (T:=68) (vs:=[iv p0.g.W,iv p0.g.H,.slice a6 p0.g.Bits.length a7,iv p0.k,.slice a2 ae.2.length a3,.slice ai ae.1.length aj,iv p0.least]) (v:=iv ak) 0 [iv ak] S (wN d) d d d d d d d (by simp) d fun a w S=>?_
  exact lT (⟨ae.2,ae.1,ak,Option.some.inj h,a2,a3,ai,aj,S.fix [0,1] [2,0] (by decide) d d d⟩)
 obtain ⟨a0,aw,h⟩:=bS h
 refine sDraw (nf:=[8,13,14]) (W:=[(0,20,.pointer (some ⟨bb0,0,none⟩)),(1,21,.pointer (some ⟨bb0,0,none⟩)),(2,22,.pointer (some ⟨bb0,0,none⟩)),(3,23,.agg #[iv p0.g.W,iv p0.g.H,.slice a6 p0.g.Bits.length a7]),(4,24,.pointer (some ⟨bb0,0,none⟩)),(5,25,.pointer (some ⟨bb0,0,none⟩)),(6,26,.pointer (some ⟨bb0,4,none⟩)),(7,27,.slice ad_0_1 p0.l.length cp_0_1)]) d S ?_
 refine node_by (A:=anc_reduce_search_from_s10_1) 17 (by kernel_rfl) (by kernel_rfl) (by kernel_rfl) (by kernel_rfl) (by kernel_rfl) [0,1,2,3,4,5,6,7] (by kernel_rfl) (by decide) (by decide) (fF ?_ (fF ?_ (fF ?_ (fF ?_ (fF ?_ (fF ?_ (fF ?_ (fF ?_ (fN ?_ (fE 8 (fE 8 (fE 8 (fE 8 (fN ?_ (aB 14 2 8 (by decide) (fE 8 (fE 8 (trivial)))))))))))))))))) [] (fun q hq=>by cases hq) (fun hY=>absurd (hY 8 (by decide)) (by decide))
 ·exact fM 0 none d d d d (.inl d) d d d
 ·refine fJ [(20,_)] 1 [some 0] fun G a w S=>?_
  exact nilCheck_ok (q:=⟨bb0,0,none⟩) S (wN d) d d d (lb d) fun a S=>leafL ⟨d,S⟩
 ·refine fJ [(21,_)] 2 [some 1] fun G a w S=>?_
  exact sField (b:=bb0) (off:=0) 0 0 S (wN d) d d d d d (lb d) fun a S=>leafL ⟨d,S⟩
 ·refine fJ [(22,_)] 3 [some 2] fun G a w S=>?_
  exact sLoadN (p:=bb0) (off:=0) (T:=68) (vs:=[iv p0.g.W,iv p0.g.H,.slice a6 p0.g.Bits.length a7,iv p0.k,.slice ad_0_1 p0.l.length cp_0_1,.slice ab p0.best.length ac,iv p0.least]) 0 [iv p0.g.W,iv p0.g.H,.slice a6 p0.g.Bits.length a7] S (wN d) d d d d d d d (lb d) fun a S=>leafL ⟨d,S⟩
 ·exact fM 4 none d d d d (.inl d) d d d
 ·refine fJ [(24,_)] 5 [some 4] fun G a w S=>?_
  exact nilCheck_ok (q:=⟨bb0,0,none⟩) S (wN d) d d d (lb d) fun a S=>leafL ⟨d,S⟩
 ·refine fJ [(25,_)] 6 [some 5] fun G a w S=>?_
  exact sField (b:=bb0) (off:=0) 4 4 S (wN d) d d d d d (lb d) fun a S=>leafL ⟨d,S⟩
 ·refine fJ [(26,_)] 7 [some 6] fun G a w S=>?_
  exact sLoad1 0 (.slice ad_0_1 p0.l.length cp_0_1) S (wN d) d d d d d d (lb d) fun a S=>leafL ⟨d,S⟩
 ·refine ⟨_,[(23,.agg #[iv p0.g.W,iv p0.g.H,.slice a6 p0.g.Bits.length a7]),(27,.slice ad_0_1 p0.l.length cp_0_1)],d,(srcs_of [some 3,some 7] d d d),fun G a w S=>?_⟩
  have S:=S.learn (fRep r_api_Grid (.agg #[iv p0.g.W,iv p0.g.H,.slice a6 p0.g.Bits.length a7]) p0.g) ⟨_,d,S.mem.know (i:=0) (e:=fRep (rL rB) (.slice a6 p0.g.Bits.length a7) p0.g.Bits) d⟩
  refine sCall (X:=Option Addr × Nat) (f:=12) (vs:=[.agg #[iv p0.g.W,iv p0.g.H,.slice a6 p0.g.Bits.length a7],.slice ad_0_1 p0.l.length cp_0_1]) (val:=fun x=>.tuple #[.agg #[iv a0.1.W,iv a0.1.H,.slice x.1 a0.1.Bits.length x.2],iv a0.2.1,iv a0.2.2.1]) (B':=fun x=>[eRow rB 4 (.slice x.1 a0.1.Bits.length x.2) a0.1.Bits,eRow (rI .i64) 3 (.slice ad_0_1 p0.l.length cp_0_1) a0.2.2.2]) (D':=fun _=>[]) [eRow (rI .i64) 3 (.slice ad_0_1 p0.l.length cp_0_1) p0.l] [eBox bb0 68 [iv p0.g.W,iv p0.g.H,.slice a6 p0.g.Bits.length a7,iv p0.k,.slice ad_0_1 p0.l.length cp_0_1,.slice ab p0.best.length ac,iv p0.least]] [fRep r_api_Grid (.agg #[iv p0.g.W,iv p0.g.H,.slice a6 p0.g.Bits.length a7]) p0.g] [1,0] [0] S (wN d) d callee12 d (by decide) d d (fun E1 w1 S1=>c_reduce_Change_s1 E1 w1 p0.g (.agg #[iv p0.g.W,iv p0.g.H,.slice a6 p0.g.Bits.length a7]) p0.l ad_0_1 cp_0_1 a0 aw S1) d (lb d) fun xx a w S=>?_
  obtain ⟨a4,a5⟩:=xx
  dsimp only at S
  refine leafL ⟨d,_,_,.inl ⟨28,(.tuple #[.agg #[iv a0.1.W,iv a0.1.H,.slice a4 a0.1.Bits.length a5],iv a0.2.1,iv a0.2.2.1]),[(9,19,.tuple #[.agg #[iv a0.1.W,iv a0.1.H,.slice a4 a0.1.Bits.length a5],iv a0.2.1,iv a0.2.2.1]),(10,29,.agg #[iv a0.1.W,iv a0.1.H,.slice a4 a0.1.Bits.length a5]),(11,30,iv a0.2.1),(12,31,iv a0.2.2.1)],d,S,hz_of d,?_⟩⟩
  refine node_by (A:=anc_reduce_search_from_s10_1) 17 (by kernel_rfl) (by kernel_rfl) (by kernel_rfl) (by kernel_rfl) (by kernel_rfl) [9,10,11,12,8,0,1,2,3,4,5,6,7] (by kernel_rfl) (by decide) (by decide) (fD 8 (fD 8 (fD 8 (fD 8 (fD 8 (fD 8 (fD 8 (fD 8 (fY (fF ?_ (fF ?_ (fF ?_ (fF ?_ (fN ?_ (aB 14 2 13 (by decide) (fE 13 (fE 13 (trivial)))))))))))))))))) [] (fun q hq=>by cases hq) (fun hY=>absurd (hY 13 (by decide)) (by decide))
  ·exact fM 0 (some 4) d d d d (.inl d) d d d
  ·refine fJ [(19,_)] 1 [some 0] fun G a w S=>?_
   exact sExtract (vs:=[.agg #[iv a0.1.W,iv a0.1.H,.slice a4 a0.1.Bits.length a5],iv a0.2.1,iv a0.2.2.1]) (.agg #[iv a0.1.W,iv a0.1.H,.slice a4 a0.1.Bits.length a5]) S (wN d) d d d d (lb d) fun a S=>leafL ⟨d,S⟩
  ·refine fJ [(19,_)] 2 [some 0] fun G a w S=>?_
   exact sExtract (vs:=[.agg #[iv a0.1.W,iv a0.1.H,.slice a4 a0.1.Bits.length a5],iv a0.2.1,iv a0.2.2.1]) (iv a0.2.1) S (wN d) d d d d (lb d) fun a S=>leafL ⟨d,S⟩
  ·refine fJ [(19,_)] 3 [some 0] fun G a w S=>?_
   exact sExtract (vs:=[.agg #[iv a0.1.W,iv a0.1.H,.slice a4 a0.1.Bits.length a5],iv a0.2.1,iv a0.2.2.1]) (iv a0.2.2.1) S (wN d) d d d d (lb d) fun a S=>leafL ⟨d,S⟩
  refine ⟨_,[],d,(srcs_of [] d d d),fun G a w S=>?_⟩
  refine sAlloc (.agg #[iv 0,iv 0,.slice none 0 0]) S (wN d) d d [iv 0,iv 0,.slice none 0 0] d d (lb d) fun a aT w S=>leafL ⟨d,_,_,.inl ⟨4,(.pointer (some ⟨aT,0,none⟩)),[],d,S,hz_of d,?_⟩⟩
  refine node_by (A:=anc_reduce_search_from_s10_1) 17 (by kernel_rfl) (by kernel_rfl) (by kernel_rfl) (by kernel_rfl) (by kernel_rfl) [13,9,10,11,12,8,0,1,2,3,4,5,6,7] (by kernel_rfl) (by decide) (by decide) (fD 8 (fD 8 (fD 8 (fD 8 (fD 8 (fD 8 (fD 8 (fD 8 (fY (fF ?_ (fF ?_ (fF ?_ (fF ?_ (fY (fN ?_ (fE 14 (fE 14 (trivial)))))))))))))))))) [] (fun q hq=>by cases hq) (fun hY=>absurd (hY 14 (by decide)) (by decide))
  ·exact fM 1 (some 5) d d d d (.inl d) d d d
  ·refine fJ [(19,_)] 2 [some 1] fun G a w S=>?_
   exact sExtract (vs:=[.agg #[iv a0.1.W,iv a0.1.H,.slice a4 a0.1.Bits.length a5],iv a0.2.1,iv a0.2.2.1]) (.agg #[iv a0.1.W,iv a0.1.H,.slice a4 a0.1.Bits.length a5]) S (wN d) d d d d (lb d) fun a S=>leafL ⟨d,S⟩
  ·refine fJ [(19,_)] 3 [some 1] fun G a w S=>?_
   exact sExtract (vs:=[.agg #[iv a0.1.W,iv a0.1.H,.slice a4 a0.1.Bits.length a5],iv a0.2.1,iv a0.2.2.1]) (iv a0.2.1) S (wN d) d d d d (lb d) fun a S=>leafL ⟨d,S⟩
  ·refine fJ [(19,_)] 4 [some 1] fun G a w S=>?_
   exact sExtract (vs:=[.agg #[iv a0.1.W,iv a0.1.H,.slice a4 a0.1.Bits.length a5],iv a0.2.1,iv a0.2.2.1]) (iv a0.2.2.1) S (wN d) d d d d (lb d) fun a S=>leafL ⟨d,S⟩
  refine ⟨_,[(4,.pointer (some ⟨aT,0,none⟩)),(29,.agg #[iv a0.1.W,iv a0.1.H,.slice a4 a0.1.Bits.length a5])],d,(srcs_of [some 0,some 2] d d d),fun G a w S=>?_⟩
  refine sStore (p:=aT) (off:=0) (T:=24) (vs:=[iv 0,iv 0,.slice none 0 0]) (v:=.agg #[iv a0.1.W,iv a0.1.H,.slice a4 a0.1.Bits.length a5]) 0 [iv a0.1.W,iv a0.1.H,.slice a4 a0.1.Bits.length a5] S (wN d) d d d d d d d (by simp) d fun a w S=>leafL ⟨d,_,_,.inr ⟨[(15,5,iv a0.2.1),(16,6,iv a0.2.2.1)],d,S,hz_of d,?_⟩⟩
  refine node_by (A:=anc_reduce_search_from_s10_1) 17 (by kernel_rfl) (by kernel_rfl) (by kernel_rfl) (by kernel_rfl) (by kernel_rfl) [15,16,13,9,10,11,12,8,0,1,2,3,4,5,6,7] (by kernel_rfl) (by decide) (by decide) (fD 14 (fD 14 (fD 14 (fD 14 (fD 14 (fD 14 (fD 14 (fD 14 (fY (fD 14 (fD 14 (fF ?_ (fF ?_ (fY (fY (fF ?_ (fF ?_ (trivial)))))))))))))))))) [(0,.pointer (some ⟨bb0,0,none⟩)),(5,iv a0.2.1)] (fin_of [none,some 0] d (by kernel_rfl) (by kernel_rfl)) (fun _ a w S=>?_)
  ·refine fJ [(19,_)] 5 [some 3] fun G a w S=>?_
   exact sExtract (vs:=[.agg #[iv a0.1.W,iv a0.1.H,.slice a4 a0.1.Bits.length a5],iv a0.2.1,iv a0.2.2.1]) (iv a0.2.1) S (wN d) d d d d (lb d) fun a S=>leafL ⟨d,S⟩
  ·refine fJ [(19,_)] 6 [some 3] fun G a w S=>?_
   exact sExtract (vs:=[.agg #[iv a0.1.W,iv a0.1.H,.slice a4 a0.1.Bits.length a5],iv a0.2.1,iv a0.2.2.1]) (iv a0.2.2.1) S (wN d) d d d d (lb d) fun a S=>leafL ⟨d,S⟩
  ·exact fM 0 (some 5) d d d d (.inr d) d d d
  ·exact fM 1 (some 6) d d d d (.inr d) d d d
  have aU:=row_v (S.mem.hold (i:=2) (e:=eRow (rI .i64) 3 (.slice ad_0_1 p0.l.length cp_0_1) a0.2.2.2) d)
  rw [aU] at S
  exact leafT (⟨a0.2.1,a0.2.2.2,Option.some.inj h,ad_0_1,cp_0_1,S.fix [3,2] [1,2] (by decide) d d d⟩)
 refine ⟨_,[],d,(srcs_of [] d d d),fun G a w S=>?_⟩
 refine sAlloc (.agg #[iv 0,iv 0,.slice none 0 0]) S (wN d) d d [iv 0,iv 0,.slice none 0 0] d d (lb d) fun a ay w S=>leafL ⟨d,_,_,.inl ⟨4,(.pointer (some ⟨ay,0,none⟩)),[],d,S,hz_of d,?_⟩⟩
 refine node_by (A:=anc_reduce_search_from_s10_1) 17 (by kernel_rfl) (by kernel_rfl) (by kernel_rfl) (by kernel_rfl) (by kernel_rfl) [13,0,1,2,3,4,5,6,7] (by kernel_rfl) (by decide) (by decide) (fF ?_ (fF ?_ (fF ?_ (fF ?_ (fF ?_ (fF ?_ (fF ?_ (fF ?_ (fN ?_ (fE 8 (fE 8 (fE 8 (fE 8 (fY (aB 14 2 8 (by decide) (fE 8 (fE 8 (trivial)))))))))))))))))) [] (fun q hq=>by cases hq) (fun hY=>absurd (hY 8 (by decide)) (by decide))
 ·exact fM 1 none d d d d (.inl d) d d d
 ·refine fJ [(20,_)] 2 [some 1] fun G a w S=>?_
  exact nilCheck_ok (q:=⟨bb0,0,none⟩) S (wN d) d d d (lb d) fun a S=>leafL ⟨d,S⟩
 ·refine fJ [(21,_)] 3 [some 2] fun G a w S=>?_
  exact sField (b:=bb0) (off:=0) 0 0 S (wN d) d d d d d (lb d) fun a S=>leafL ⟨d,S⟩
 ·refine fJ [(22,_)] 4 [some 3] fun G a w S=>?_
  exact sLoadN (p:=bb0) (off:=0) (T:=68) (vs:=[iv p0.g.W,iv p0.g.H,.slice a6 p0.g.Bits.length a7,iv p0.k,.slice ad_0_1 p0.l.length cp_0_1,.slice ab p0.best.length ac,iv p0.least]) 1 [iv p0.g.W,iv p0.g.H,.slice a6 p0.g.Bits.length a7] S (wN d) d d d d d d d (lb d) fun a S=>leafL ⟨d,S⟩
 ·exact fM 5 none d d d d (.inl d) d d d
 ·refine fJ [(24,_)] 6 [some 5] fun G a w S=>?_
  exact nilCheck_ok (q:=⟨bb0,0,none⟩) S (wN d) d d d (lb d) fun a S=>leafL ⟨d,S⟩
 ·refine fJ [(25,_)] 7 [some 6] fun G a w S=>?_
  exact sField (b:=bb0) (off:=0) 4 4 S (wN d) d d d d d (lb d) fun a S=>leafL ⟨d,S⟩
 ·refine fJ [(26,_)] 8 [some 7] fun G a w S=>?_
  exact sLoad1 1 (.slice ad_0_1 p0.l.length cp_0_1) S (wN d) d d d d d d (lb d) fun a S=>leafL ⟨d,S⟩
 refine ⟨_,[(23,.agg #[iv p0.g.W,iv p0.g.H,.slice a6 p0.g.Bits.length a7]),(27,.slice ad_0_1 p0.l.length cp_0_1)],d,(srcs_of [some 4,some 8] d d d),fun G a w S=>?_⟩
 have S:=S.learn (fRep r_api_Grid (.agg #[iv p0.g.W,iv p0.g.H,.slice a6 p0.g.Bits.length a7]) p0.g) ⟨_,d,S.mem.know (i:=0) (e:=fRep (rL rB) (.slice a6 p0.g.Bits.length a7) p0.g.Bits) d⟩
 refine sCall (X:=Option Addr × Nat) (f:=12) (vs:=[.agg #[iv p0.g.W,iv p0.g.H,.slice a6 p0.g.Bits.length a7],.slice ad_0_1 p0.l.length cp_0_1]) (val:=fun x=>.tuple #[.agg #[iv a0.1.W,iv a0.1.H,.slice x.1 a0.1.Bits.length x.2],iv a0.2.1,iv a0.2.2.1]) (B':=fun x=>[eRow rB 4 (.slice x.1 a0.1.Bits.length x.2) a0.1.Bits,eRow (rI .i64) 3 (.slice ad_0_1 p0.l.length cp_0_1) a0.2.2.2]) (D':=fun _=>[]) [eRow (rI .i64) 3 (.slice ad_0_1 p0.l.length cp_0_1) p0.l] [eBox ay 24 [iv 0,iv 0,.slice none 0 0],eBox bb0 68 [iv p0.g.W,iv p0.g.H,.slice a6 p0.g.Bits.length a7,iv p0.k,.slice ad_0_1 p0.l.length cp_0_1,.slice ab p0.best.length ac,iv p0.least]] [fRep r_api_Grid (.agg #[iv p0.g.W,iv p0.g.H,.slice a6 p0.g.Bits.length a7]) p0.g] [2,0,1] [0] S (wN d) d callee12 d (by decide) d d (fun E1 w1 S1=>c_reduce_Change_s1 E1 w1 p0.g (.agg #[iv p0.g.W,iv p0.g.H,.slice a6 p0.g.Bits.length a7]) p0.l ad_0_1 cp_0_1 a0 aw S1) d (lb d) fun xx a w S=>?_
 obtain ⟨a8,a9⟩:=xx
 dsimp only at S
 refine leafL ⟨d,_,_,.inl ⟨28,(.tuple #[.agg #[iv a0.1.W,iv a0.1.H,.slice a8 a0.1.Bits.length a9],iv a0.2.1,iv a0.2.2.1]),[(9,19,.tuple #[.agg #[iv a0.1.W,iv a0.1.H,.slice a8 a0.1.Bits.length a9],iv a0.2.1,iv a0.2.2.1]),(10,29,.agg #[iv a0.1.W,iv a0.1.H,.slice a8 a0.1.Bits.length a9]),(11,30,iv a0.2.1),(12,31,iv a0.2.2.1)],d,S,hz_of d,?_⟩⟩
 refine node_by (A:=anc_reduce_search_from_s10_1) 17 (by kernel_rfl) (by kernel_rfl) (by kernel_rfl) (by kernel_rfl) (by kernel_rfl) [9,10,11,12,8,13,0,1,2,3,4,5,6,7] (by kernel_rfl) (by decide) (by decide) (fD 8 (fD 8 (fD 8 (fD 8 (fD 8 (fD 8 (fD 8 (fD 8 (fY (fF ?_ (fF ?_ (fF ?_ (fF ?_ (fY (fN ?_ (fE 14 (fE 14 (trivial)))))))))))))))))) [] (fun q hq=>by cases hq) (fun hY=>absurd (hY 14 (by decide)) (by decide))
 ·exact fM 0 (some 4) d d d d (.inl d) d d d
 ·refine fJ [(19,_)] 1 [some 0] fun G a w S=>?_
  exact sExtract (vs:=[.agg #[iv a0.1.W,iv a0.1.H,.slice a8 a0.1.Bits.length a9],iv a0.2.1,iv a0.2.2.1]) (.agg #[iv a0.1.W,iv a0.1.H,.slice a8 a0.1.Bits.length a9]) S (wN d) d d d d (lb d) fun a S=>leafL ⟨d,S⟩
 ·refine fJ [(19,_)] 2 [some 0] fun G a w S=>?_
  exact sExtract (vs:=[.agg #[iv a0.1.W,iv a0.1.H,.slice a8 a0.1.Bits.length a9],iv a0.2.1,iv a0.2.2.1]) (iv a0.2.1) S (wN d) d d d d (lb d) fun a S=>leafL ⟨d,S⟩
 ·refine fJ [(19,_)] 3 [some 0] fun G a w S=>?_
  exact sExtract (vs:=[.agg #[iv a0.1.W,iv a0.1.H,.slice a8 a0.1.Bits.length a9],iv a0.2.1,iv a0.2.2.1]) (iv a0.2.2.1) S (wN d) d d d d (lb d) fun a S=>leafL ⟨d,S⟩
 refine ⟨_,[(4,.pointer (some ⟨ay,0,none⟩)),(29,.agg #[iv a0.1.W,iv a0.1.H,.slice a8 a0.1.Bits.length a9])],d,(srcs_of [some 5,some 1] d d d),fun G a w S=>?_⟩
 refine sStore (p:=ay) (off:=0) (T:=24) (vs:=[iv 0,iv 0,.slice none 0 0]) (v:=.agg #[iv a0.1.W,iv a0.1.H,.slice a8 a0.1.Bits.length a9]) 2 [iv a0.1.W,iv a0.1.H,.slice a8 a0.1.Bits.length a9] S (wN d) d d d d d d d (by simp) d fun a w S=>leafL ⟨d,_,_,.inr ⟨[(15,5,iv a0.2.1),(16,6,iv a0.2.2.1)],d,S,hz_of d,?_⟩⟩
 refine node_by (A:=anc_reduce_search_from_s10_1) 17 (by kernel_rfl) (by kernel_rfl) (by kernel_rfl) (by kernel_rfl) (by kernel_rfl) [15,16,9,10,11,12,8,13,0,1,2,3,4,5,6,7] (by kernel_rfl) (by decide) (by decide) (fD 14 (fD 14 (fD 14 (fD 14 (fD 14 (fD 14 (fD 14 (fD 14 (fY (fD 14 (fD 14 (fF ?_ (fF ?_ (fY (fY (fF ?_ (fF ?_ (trivial)))))))))))))))))) [(0,.pointer (some ⟨bb0,0,none⟩)),(5,iv a0.2.1)] (fin_of [none,some 0] d (by kernel_rfl) (by kernel_rfl)) (fun _ a w S=>?_)
 ·refine fJ [(19,_)] 4 [some 2] fun G a w S=>?_
  exact sExtract (vs:=[.agg #[iv a0.1.W,iv a0.1.H,.slice a8 a0.1.Bits.length a9],iv a0.2.1,iv a0.2.2.1]) (iv a0.2.1) S (wN d) d d d d (lb d) fun a S=>leafL ⟨d,S⟩
 ·refine fJ [(19,_)] 5 [some 2] fun G a w S=>?_
  exact sExtract (vs:=[.agg #[iv a0.1.W,iv a0.1.H,.slice a8 a0.1.Bits.length a9],iv a0.2.1,iv a0.2.2.1]) (iv a0.2.2.1) S (wN d) d d d d (lb d) fun a S=>leafL ⟨d,S⟩
 ·exact fM 0 (some 4) d d d d (.inr d) d d d
 ·exact fM 1 (some 5) d d d d (.inr d) d d d
 have aV:=row_v (S.mem.hold (i:=2) (e:=eRow (rI .i64) 3 (.slice ad_0_1 p0.l.length cp_0_1) a0.2.2.2) d)
 rw [aV] at S
 exact leafT (⟨a0.2.1,a0.2.2.2,Option.some.inj h,ad_0_1,cp_0_1,S.fix [3,2] [1,2] (by decide) d d d⟩)
def anc_reduce_search_from_s9_0:List (List Nat):=[[],[0],[0,1],[0,1,2],[0,1,2,3],[],[5],[5,6],[5,6,7],[5,6,7,8],[0,1,2,3,4,5,6,7,8,9]]
def anc_reduce_search_from_s9_1:List (List Nat):=[[],[0],[0,1],[0,1,2],[],[4],[4,5],[4,5,6],[0,1,2,3,4,5,6,7],[0,1,2,3,4,5,6,7,8],[0,1,2,3,4,5,6,7,8,9],[0,1,2,3,4,5,6,7,8,9],[0,1,2,3,4,5,6,7,8,9],[],[0,1,2,3,4,5,6,7,8,9,10,13],[0,1,2,3,4,5,6,7,8,9,10,11,13,14],[0,1,2,3,4,5,6,7,8,9,10,11,12,13,14,15]]
def anc_reduce_search_from_s9_2:List (List Nat):=[[],[],[1],[1,2],[1,2,3],[],[5],[5,6],[5,6,7],[5,6,7,8],[5,6,7,8,9],[1,2,3,4,5,6,7,8,9,10],[0,1,2,3,4,5,6,7,8,9,10,11],[0,1,2,3,4,5,6,7,8,9,10,11,12],[0,1,2,3,4,5,6,7,8,9,10,11,12,13]]
noncomputable def reduce_search_from_s9_l1 (p0:reduce_search) (p1:Int):(Int × Int × Int × Int × List Int × List Int × Int)→Option ((Int × Int × Int × Int × List Int × List Int × Int) ⊕ (Int × Int × Int × List Int × List Int × Int)):=fun s0=>match s0 with
 | (a2,a3,a4,a5,a6,a7,a8)=>
  if decide (a2 < (if p0.k < (w64 (p1 + 1)) then p0.k else w64 (p1 + 1))) then
   (appO a6 ([a2]:List Int)).bind fun a9=>
   (F_reduce_search_from_s10 (reduce_search.mk (api_Grid.mk a3 a4 p0.g.Bits) a5 a9 a7 a8) (if p1 < (w64 (a2 + 1)) then w64 (a2 + 1) else p1)).bind fun a0=>
   (sliceO a0.l 0 (w64 ((a0.l.length:Int) - 1))).bind fun aa=>
   some (.inl (w64 (a2 + 1),a0.g.W,a0.g.H,a0.k,aa,a0.best,a0.least))
  else
   some (.inr (a3,a4,a5,a6,a7,a8))
noncomputable def F_reduce_search_from_s9 (p0:reduce_search) (p1:Int):Option reduce_search:=
 if (p0.l.length:Int) == p0.g.W then
  Option.bind (α:=(List Int × List Int × Int)) (
   Option.bind (α:=(Int × List Int)) (
    (F_reduce_Change_s1 p0.g p0.l).bind fun a2=>
    some (a2.2.1,a2.2.2.2)) fun (a3,a4)=>
   Option.bind (α:=Bool) (
    if p0.best.isEmpty then
     some true
    else
     some (decide (a3 < p0.least))) fun a5=>
   if a5 then
    (F_slices_Clone___int_int__s1 a4).bind fun a0=>
    (neO a0.1).bind fun af=>
    some (a0.2,a0.1,a3)
   else
    some (a4,p0.best,p0.least)) fun (o8,a6,a7)=>
  some (reduce_search.mk p0.g p0.k o8 a6 a7)
 else
  (whileO (reduce_search_from_s9_l1 p0 p1) (0,p0.g.W,p0.g.H,p0.k,p0.l,p0.best,p0.least)).bind fun (a8,a9,aa,ab,ac,ae)=>
   some (reduce_search.mk (api_Grid.mk a8 a9 p0.g.Bits) aa ab ac ae)
theorem c_reduce_search_from_s9 (E:Nat→Prop) (w0:World) (p0:reduce_search) (bb0:Nat) (u_0_0:Value) (ad_0_1:Option Addr) (cp_0_1:Nat) (u_0_2:Value) (p1:Int) (r:reduce_search) (h:F_reduce_search_from_s9 p0 p1=some r) (S:St0 E (keysL [eBox bb0 68 [iv p0.g.W,iv p0.g.H,u_0_0,iv p0.k,.slice ad_0_1 p0.l.length cp_0_1,u_0_2,iv p0.least],eRow (rI .i64) 3 (.slice ad_0_1 p0.l.length cp_0_1) p0.l]) w0 w0 [eBox bb0 68 [iv p0.g.W,iv p0.g.H,u_0_0,iv p0.k,.slice ad_0_1 p0.l.length cp_0_1,u_0_2,iv p0.least],eRow (rI .i64) 3 (.slice ad_0_1 p0.l.length cp_0_1) p0.l] [fRep (rL rB) (u_0_0) p0.g.Bits,fRep (rLz (rI .i64)) (u_0_2) p0.best]) :
 Calls Try.prog 41 #[.pointer (some ⟨bb0,0,none⟩),iv p1] w0 (Ret (X:=Option Addr × Nat × Value) E (keysL [eBox bb0 68 [iv p0.g.W,iv p0.g.H,u_0_0,iv p0.k,.slice ad_0_1 p0.l.length cp_0_1,u_0_2,iv p0.least],eRow (rI .i64) 3 (.slice ad_0_1 p0.l.length cp_0_1) p0.l]) w0 (fun _=>.tuple #[]) (fun x=>[eBox bb0 68 [iv r.g.W,iv r.g.H,u_0_0,iv r.k,.slice x.1 r.l.length x.2.1,x.2.2,iv r.least],eRow (rI .i64) 3 (.slice x.1 r.l.length x.2.1) r.l]) (fun x=>[fRep (rLz (rI .i64)) x.2.2 r.best])):=by
 unfold F_reduce_search_from_s9 at h
 obtain ⟨a2,a3,_,rfl,_⟩:=S.know (i:=0) (e:=fRep (rL rB) (u_0_0) p0.g.Bits) d
 obtain ⟨⟨ak,al,_,rfl,_⟩,_⟩:=S.know (i:=1) (e:=fRep (rLz (rI .i64)) (u_0_2) p0.best) d
 generalize (keysL [eBox bb0 68 [iv p0.g.W,iv p0.g.H,.slice a2 p0.g.Bits.length a3,iv p0.k,.slice ad_0_1 p0.l.length cp_0_1,.slice ak p0.best.length al,iv p0.least],eRow (rI .i64) 3 (.slice ad_0_1 p0.l.length cp_0_1) p0.l])=M9 at S ⊢
 refine sEnter (args:=[.pointer (some ⟨bb0,0,none⟩),iv p1]) 98 Try.func41 d d (by simp) S (fun a S=>?_)
 refine sSeq (fun K5 bn=>sSeq (fun K6 bo=>sDraw (nf:=[]) (W:=[(0,8,.pointer (some ⟨bb0,0,none⟩)),(1,9,.pointer (some ⟨bb0,0,none⟩)),(2,10,.pointer (some ⟨bb0,4,none⟩)),(3,11,.slice ad_0_1 p0.l.length cp_0_1),(4,12,iv (p0.l.length:Int)),(5,13,.pointer (some ⟨bb0,0,none⟩)),(6,14,.pointer (some ⟨bb0,0,none⟩)),(7,15,.pointer (some ⟨bb0,0,none⟩)),(8,16,.pointer (some ⟨bb0,0,none⟩)),(9,17,iv p0.g.W),(10,18,.bool ((p0.l.length:Int) == p0.g.W))]) d S ?_))
 refine node_by (A:=anc_reduce_search_from_s9_0) 11 (by kernel_rfl) (by kernel_rfl) (by kernel_rfl) (by kernel_rfl) (by kernel_rfl) [0,1,2,3,4,5,6,7,8,9,10] (by kernel_rfl) (by decide) (by decide) (fF ?_ (fF ?_ (fF ?_ (fF ?_ (fF ?_ (fF ?_ (fF ?_ (fF ?_ (fF ?_ (fF ?_ (fF ?_ (trivial)))))))))))) [(0,.pointer (some ⟨bb0,0,none⟩)),(1,iv p1),(18,.bool ((p0.l.length:Int) == p0.g.W))] (fin_of [none,none,some 10] d (by kernel_rfl) (by kernel_rfl)) (fun _ a w S=>?_)
 ·exact fM 0 none d d d d (.inl d) d d d
 ·refine fJ [(8,_)] 1 [some 0] fun G a w S=>?_
  exact nilCheck_ok (q:=⟨bb0,0,none⟩) S (wN d) d d d (lb d) fun a S=>leafL ⟨d,S⟩
 ·refine fJ [(9,_)] 2 [some 1] fun G a w S=>?_
  exact sField (b:=bb0) (off:=0) 4 4 S (wN d) d d d d d (lb d) fun a S=>leafL ⟨d,S⟩
 ·refine fJ [(10,_)] 3 [some 2] fun G a w S=>?_
  exact sLoad1 0 (.slice ad_0_1 p0.l.length cp_0_1) S (wN d) d d d d d d (lb d) fun a S=>leafL ⟨d,S⟩
 ·refine fJ [(11,_)] 4 [some 3] fun G a w S=>?_
  exact sLen S (wN d) d Try.underlying25 d d (lb d) fun a S=>leafL ⟨d,S⟩
 ·exact fM 5 none d d d d (.inl d) d d d
 ·refine fJ [(13,_)] 6 [some 5] fun G a w S=>?_
  exact nilCheck_ok (q:=⟨bb0,0,none⟩) S (wN d) d d d (lb d) fun a S=>leafL ⟨d,S⟩
 ·refine fJ [(14,_)] 7 [some 6] fun G a w S=>?_
  exact sField (b:=bb0) (off:=0) 0 0 S (wN d) d d d d d (lb d) fun a S=>leafL ⟨d,S⟩
 ·refine fJ [(15,_)] 8 [some 7] fun G a w S=>?_
  exact sField (b:=bb0) (off:=0) 0 0 S (wN d) d d d d d (lb d) fun a S=>leafL ⟨d,S⟩
 ·refine fJ [(16,_)] 9 [some 8] fun G a w S=>?_
  exact sLoad1 0 (iv p0.g.W) S (wN d) d d d d d d (lb d) fun a S=>leafL ⟨d,S⟩
 ·refine fJ [(12,_),(17,_)] 10 [some 4,some 9] fun G a w S=>?_
  exact sBin _ S (wN d) d d d (bEq _ _ _ _ .i64 (p0.l.length:Int) p0.g.W) d (lb d) fun a S=>leafL ⟨d,S⟩
 refine leafT (bo _ _ ?_)
 rcases iS h with ⟨aW,h⟩ | ⟨aW,h⟩
 rotate_left
 ·refine sCondF S d aW (wp_skip (leafT (bn _ _ ?_)))
  refine sSeq (fun bz aX=>sRegion (sM S fun a S=>?_))
  refine sBin _ S (wN d) d d d (bAdd _ _ _ _ p1 1) d (lb d) fun a S=>sM S fun a S=>?_
  refine nilCheck_ok (q:=⟨bb0,0,none⟩) S (wN d) d d d (lb d) fun a S=>sField (b:=bb0) (off:=0) 3 3 S (wN d) d d d d d (lb d) fun a S=>sLoad1 0 (iv p0.k) S (wN d) d d d d d d (lb d) fun a S=>sMin2 (p:=w64 (p1 + 1)) (q:=p0.k) S (wN d) d d d d (lb d) fun a S=>sM S fun a S=>?_
  refine lT (aX _ _ (wp_block ?_))
  obtain ⟨bA,hl,bp⟩:=bS h
  refine sLoop hl (fun s0 a w=>match s0 with | (af,aJ,aK,aL,aA,ar,aM)=>∃ am,∃ ao,∃ ah,∃ ai,St [] E M9 w0 98 a w [(0,.pointer (some ⟨bb0,0,none⟩)),(1,iv p1),(63,iv (if p0.k < (w64 (p1 + 1)) then p0.k else w64 (p1 + 1))),(64,iv af)] [eBox bb0 68 [iv aJ,iv aK,.slice a2 p0.g.Bits.length a3,iv aL,.slice am aA.length ao,.slice ah ar.length ai,iv aM],eRow (rI .i64) 3 (.slice am aA.length ao) aA] [fRep (rL rB) (.slice a2 p0.g.Bits.length a3) p0.g.Bits,fRep (rLz (rI .i64)) (.slice ah ar.length ai) ar]) ⟨ad_0_1,cp_0_1,ak,al,S.fix [0,1] [0,1] (by decide) d d d⟩ ?_
  clear hl h
  intro s0 a w c0 hI h aZ
  obtain ⟨af,aJ,aK,aL,aA,ar,aM⟩:=s0
  unfold reduce_search_from_s9_l1 at h
  dsimp only at h hI
  obtain ⟨am,ao,ah,ai,S⟩:=hI
  refine sSeq (fun bB b1=>sRegion (sBin _ S (wN d) d d d (bLt _ _ _ _ .i64 af (if p0.k < (w64 (p1 + 1)) then p0.k else w64 (p1 + 1))) d (lb d) fun a S=>lT (b1 _ _ (sSeq (fun bC b3=>?_)))))
  rcases iS h with ⟨aC,h⟩ | ⟨aC,h⟩
  rotate_left
  ·refine sCondF S d aC ?_
   obtain rfl:=tS h
   obtain rfl:=aZ _ d
   have h:=bp
   try dsimp only at h
   obtain rfl:=tS h
   exact wp_exit (xThen (xThen (xHit (sEnd (.tuple #[]) S (rsl0 d ) ⟨(am,ao,(.slice ah ar.length ai)),d,S.mem.sel [0,1] [1] (by decide) d d⟩))))
  refine sCondT S d aC (wp_skip (leafT (b3 _ _ ?_)))
  refine sSeq (fun bD b4=>wp_block ?_)
  refine sSeq (fun bE b5=>sRegion (sM S fun a S=>?_))
  refine sN S fun a S=>?_
  refine lT (b5 _ _ (sSeq (fun bG b8=>sRegion (sM S fun a S=>?_))))
  refine sM S fun a S=>?_
  refine nilCheck_ok (q:=⟨bb0,0,none⟩) S (wN d) d d d (lb d) fun a S=>sField (b:=bb0) (off:=0) 4 4 S (wN d) d d d d d (lb d) fun a S=>sLoad1 0 (.slice am aA.length ao) S (wN d) d d d d d d (lb d) fun a S=>sM S fun a S=>?_
  refine sLit (r:=(rI .i64)) (T:=3) (xs:=([af]:List Int)) [(0,iv af)] 1 [iv af] [iv af] (iv 0) 8 S (wN d) d d Try.underlying25 d (by decide) (by decide) (by kernel_rfl) d (fun E1 w1 hE=>All.cons d (All.nil _ _ _)) d d (lb d) fun a w aO aP S=>?_
  obtain ⟨aH,b9,h⟩:=bS h
  refine sApp (r:=(rI .i64)) (T:=3) (xs:=aA) (ys:=([af]:List Int)) (v:=.slice am aA.length ao) (u:=.slice aO ([af]:List Int).length aP) 2 (iv 0) 8 S (wN d) d Try.underlying25 d d (by decide) d d d (src_R (T:=3) 0 S.mem d) b9 d (lb d) fun a w au av S=>nilCheck_ok (q:=⟨bb0,0,none⟩) S (wN d) d d d (lb d) fun a S=>sField (b:=bb0) (off:=0) 4 4 S (wN d) d d d d d (lb d) fun a S=>sStore (p:=bb0) (off:=4) (T:=68) (vs:=[iv aJ,iv aK,.slice a2 p0.g.Bits.length a3,iv aL,.slice am aA.length ao,.slice ah ar.length ai,iv aM]) (v:=.slice au aH.length av) 2 [.slice au aH.length av] S (wN d) d d d d d d d (by simp) d fun a w S=>lT (b8 _ _ (sSeq (fun bH ba=>sRegion (sM S fun a S=>?_))))
  refine sM S fun a S=>?_
  refine sM S fun a S=>?_
  refine sBin _ S (wN d) d d d (bAdd _ _ _ _ af 1) d (lb d) fun a S=>sMax2 (p:=p1) (q:=w64 (af + 1)) S (wN d) d d d d (lb d) fun a S=>?_
  obtain ⟨a4,bb,h⟩:=bS h
  refine sCall (X:=Option Addr × Nat × Value) (f:=41) (vs:=[.pointer (some ⟨bb0,0,none⟩),iv (if p1 < (w64 (af + 1)) then w64 (af + 1) else p1)]) (val:=fun _=>.tuple #[]) (B':=fun x=>[eBox bb0 68 [iv a4.g.W,iv a4.g.H,.slice a2 p0.g.Bits.length a3,iv a4.k,.slice x.1 a4.l.length x.2.1,x.2.2,iv a4.least],eRow (rI .i64) 3 (.slice x.1 a4.l.length x.2.1) a4.l]) (D':=fun x=>[fRep (rLz (rI .i64)) x.2.2 a4.best]) [eBox bb0 68 [iv aJ,iv aK,.slice a2 p0.g.Bits.length a3,iv aL,.slice au aH.length av,.slice ah ar.length ai,iv aM],eRow (rI .i64) 3 (.slice au aH.length av) aH] [eRow (rI .i64) 3 (.slice aO ([af]:List Int).length aP) ([af]:List Int)] [fRep (rL rB) (.slice a2 p0.g.Bits.length a3) p0.g.Bits,fRep (rLz (rI .i64)) (.slice ah ar.length ai) ar] [0,1,2] [0,1] S (wN d) d callee41 d (by decide) d d (fun E1 w1 S1=>c_reduce_search_from_s10 E1 w1 (reduce_search.mk (api_Grid.mk aJ aK p0.g.Bits) aL aH ar aM) bb0 (.slice a2 p0.g.Bits.length a3) au av (.slice ah ar.length ai) (if p1 < (w64 (af + 1)) then w64 (af + 1) else p1) a4 bb S1) d (lb d) fun xx a w S=>?_
  obtain ⟨a9,aa,bq⟩:=xx
  dsimp only at S
  obtain ⟨⟨aQ,aR,_,rfl,_⟩,_⟩:=S.mem.know (i:=0) (e:=fRep (rLz (rI .i64)) (bq) a4.best) d
  refine lT (ba _ _ ?_)
  obtain ⟨aS,bc,h⟩:=bS h
  refine sDraw (nf:=[11,14]) (W:=[(0,83,.pointer (some ⟨bb0,0,none⟩)),(1,84,.pointer (some ⟨bb0,0,none⟩)),(2,85,.pointer (some ⟨bb0,0,none⟩)),(3,86,.pointer (some ⟨bb0,4,none⟩)),(4,87,.slice a9 a4.l.length aa),(5,88,.pointer (some ⟨bb0,0,none⟩)),(6,89,.pointer (some ⟨bb0,0,none⟩)),(7,90,.pointer (some ⟨bb0,4,none⟩)),(8,91,.slice a9 a4.l.length aa),(9,92,iv (a4.l.length:Int)),(10,93,iv (w64 ((a4.l.length:Int) - 1)))]) d S ?_
  refine node_by (A:=anc_reduce_search_from_s9_2) 15 (by kernel_rfl) (by kernel_rfl) (by kernel_rfl) (by kernel_rfl) (by kernel_rfl) [0,1,2,3,4,5,6,7,8,9,10] (by kernel_rfl) (by decide) (by decide) (fF ?_ (fF ?_ (fF ?_ (fF ?_ (fF ?_ (fF ?_ (fF ?_ (fF ?_ (fF ?_ (fF ?_ (fF ?_ (fN ?_ (fE 11 (fE 11 (aB 14 0 11 (by decide) (trivial)))))))))))))))) [] (fun q hq=>by cases hq) (fun hY=>absurd (hY 11 (by decide)) (by decide))
  ·exact fM 0 none d d d d (.inl d) d d d
  ·exact fM 1 none d d d d (.inl d) d d d
  ·refine fJ [(84,_)] 2 [some 1] fun G a w S=>?_
   exact nilCheck_ok (q:=⟨bb0,0,none⟩) S (wN d) d d d (lb d) fun a S=>leafL ⟨d,S⟩
  ·refine fJ [(85,_)] 3 [some 2] fun G a w S=>?_
   exact sField (b:=bb0) (off:=0) 4 4 S (wN d) d d d d d (lb d) fun a S=>leafL ⟨d,S⟩
  ·refine fJ [(86,_)] 4 [some 3] fun G a w S=>?_
   exact sLoad1 0 (.slice a9 a4.l.length aa) S (wN d) d d d d d d (lb d) fun a S=>leafL ⟨d,S⟩
  ·exact fM 5 none d d d d (.inl d) d d d
  ·refine fJ [(88,_)] 6 [some 5] fun G a w S=>?_
   exact nilCheck_ok (q:=⟨bb0,0,none⟩) S (wN d) d d d (lb d) fun a S=>leafL ⟨d,S⟩
  ·refine fJ [(89,_)] 7 [some 6] fun G a w S=>?_
   exact sField (b:=bb0) (off:=0) 4 4 S (wN d) d d d d d (lb d) fun a S=>leafL ⟨d,S⟩
  ·refine fJ [(90,_)] 8 [some 7] fun G a w S=>?_
   exact sLoad1 0 (.slice a9 a4.l.length aa) S (wN d) d d d d d d (lb d) fun a S=>leafL ⟨d,S⟩
  ·refine fJ [(91,_)] 9 [some 8] fun G a w S=>?_
   exact sLen S (wN d) d Try.underlying25 d d (lb d) fun a S=>leafL ⟨d,S⟩
  ·refine fJ [(92,_)] 10 [some 9] fun G a w S=>?_
   exact sBin _ S (wN d) d d d (bSub _ _ _ _ (a4.l.length:Int) 1) d (lb d) fun a S=>leafL ⟨d,S⟩
  refine ⟨_,[(87,.slice a9 a4.l.length aa),(93,iv (w64 ((a4.l.length:Int) - 1)))],d,(srcs_of [some 4,some 10] d d d),fun G a w S=>?_⟩
  refine sSliceT (r:=(rI .i64)) (T:=3) (ad:=a9) (c:=aa) (xs:=a4.l) (vlo:=none) (vhi:=(some (.int .i64 (w64 ((a4.l.length:Int) - 1))))) (hi':=w64 ((a4.l.length:Int) - 1)) 1 S (wN d) d Try.underlying25 d d d d d (.inr d) (.inl d) bc d (lb d) fun a S=>?_
  refine leafL ⟨d,_,_,.inl ⟨94,(.slice a9 aS.length aa),[(12,95,.pointer (some ⟨bb0,0,none⟩)),(13,96,.pointer (some ⟨bb0,4,none⟩))],d,S,hz_of d,?_⟩⟩
  refine node_by (A:=anc_reduce_search_from_s9_2) 15 (by kernel_rfl) (by kernel_rfl) (by kernel_rfl) (by kernel_rfl) (by kernel_rfl) [12,13,11,0,1,2,3,4,5,6,7,8,9,10] (by kernel_rfl) (by decide) (by decide) (fF ?_ (fD 11 (fD 11 (fD 11 (fD 11 (fD 11 (fD 11 (fD 11 (fD 11 (fD 11 (fD 11 (fY (fF ?_ (fF ?_ (fN ?_ (trivial)))))))))))))))) [] (fun q hq=>by cases hq) (fun hY=>absurd (hY 14 (by decide)) (by decide))
  ·exact fM 3 none d d d d (.inl d) d d d
  ·refine fJ [(83,_)] 0 [some 3] fun G a w S=>?_
   exact nilCheck_ok (q:=⟨bb0,0,none⟩) S (wN d) d d d (lb d) fun a S=>leafL ⟨d,S⟩
  ·refine fJ [(95,_)] 1 [some 0] fun G a w S=>?_
   exact sField (b:=bb0) (off:=0) 4 4 S (wN d) d d d d d (lb d) fun a S=>leafL ⟨d,S⟩
  refine ⟨_,[(94,.slice a9 aS.length aa),(96,.pointer (some ⟨bb0,4,none⟩))],d,(srcs_of [some 2,some 1] d d d),fun G a w S=>?_⟩
  refine sStore (p:=bb0) (off:=4) (T:=68) (vs:=[iv a4.g.W,iv a4.g.H,.slice a2 p0.g.Bits.length a3,iv a4.k,.slice a9 a4.l.length aa,.slice aQ a4.best.length aR,iv a4.least]) (v:=.slice a9 aS.length aa) 1 [.slice a9 aS.length aa] S (wN d) d d d d d d d (by simp) d fun a w S=>leafL ⟨d,_,_,.inr ⟨[],d,S,hz_of d,?_⟩⟩
  refine node_by (A:=anc_reduce_search_from_s9_2) 15 (by kernel_rfl) (by kernel_rfl) (by kernel_rfl) (by kernel_rfl) (by kernel_rfl) [12,13,11,0,1,2,3,4,5,6,7,8,9,10] (by kernel_rfl) (by decide) (by decide) (fD 14 (fD 14 (fD 14 (fD 14 (fD 14 (fD 14 (fD 14 (fD 14 (fD 14 (fD 14 (fD 14 (fY (fD 14 (fD 14 (fY (trivial)))))))))))))))) [(0,.pointer (some ⟨bb0,0,none⟩)),(1,iv p1),(63,iv (if p0.k < (w64 (p1 + 1)) then p0.k else w64 (p1 + 1))),(64,iv af)] (fin_of [none,none,none,none] d (by kernel_rfl) (by kernel_rfl)) (fun _ a w S=>?_)
  refine leafB (leafT (b4 _ _ ?_))
  refine sRegion (sBin _ S (wN d) d d d (bAdd _ _ _ _ af 1) d (lb d) fun a S=>sM S fun a S=>?_)
  exact lT (⟨(w64 (af + 1),a4.g.W,a4.g.H,a4.k,aS,a4.best,a4.least),(Option.some.inj h).symm,⟨a9,aa,aQ,aR,S.fix [0,1] [1,0] (by decide) d d d⟩⟩)
 refine sCondT S d aW ?_
 obtain ⟨br,h,bt⟩:=bS h
 refine sCut (fun a w=>∃ o8,∃ aI,∃ bf,(o8,aI,bf)=br∧∃ aU,∃ ax,∃ ay,∃ az,St [] E M9 w0 98 a w [] [eBox bb0 68 [iv p0.g.W,iv p0.g.H,.slice a2 p0.g.Bits.length a3,iv p0.k,.slice aU o8.length ax,.slice ay aI.length az,iv bf],eRow (rI .i64) 3 (.slice aU o8.length ax) o8] [fRep (rL rB) (.slice a2 p0.g.Bits.length a3) p0.g.Bits,fRep (rLz (rI .i64)) (.slice ay aI.length az) aI]) ?_ (fun a w hI=>?_)
 rotate_left
 ·obtain ⟨o8,aI,bf,rfl,aU,ax,ay,az,S⟩:=hI
  have h:=bt
  try dsimp only at h
  obtain rfl:=tS h
  exact wp_ret (rThen (sRet (.tuple #[]) S (rsl0 d ) ⟨(aU,ax,(.slice ay aI.length az)),d,S.mem.sel [0,1] [1] (by decide) d d⟩))
 obtain ⟨bu,h,bv⟩:=bS h
 refine sCut (fun a w=>∃ aw,∃ aj,(aw,aj)=bu∧∃ a5,∃ a6,St [] E M9 w0 98 a w [(0,.pointer (some ⟨bb0,0,none⟩)),(5,iv aw)] [eBox bb0 68 [iv p0.g.W,iv p0.g.H,.slice a2 p0.g.Bits.length a3,iv p0.k,.slice a5 aj.length a6,.slice ak p0.best.length al,iv p0.least],eRow (rI .i64) 3 (.slice a5 aj.length a6) aj] [fRep (rL rB) (.slice a2 p0.g.Bits.length a3) p0.g.Bits,fRep (rLz (rI .i64)) (.slice ak p0.best.length al) p0.best]) ?_ (fun a w hI=>?_)
 rotate_left
 ·obtain ⟨aw,aj,rfl,a5,a6,S⟩:=hI
  have h:=bv
  try dsimp only at h
  obtain ⟨bw,h,bx⟩:=bS h
  refine sCut (fun a w=>∃ bg,bg=bw∧St [] E M9 w0 98 a w [(0,.pointer (some ⟨bb0,0,none⟩)),(5,iv aw),(44,.bool bg)] [eBox bb0 68 [iv p0.g.W,iv p0.g.H,.slice a2 p0.g.Bits.length a3,iv p0.k,.slice a5 aj.length a6,.slice ak p0.best.length al,iv p0.least],eRow (rI .i64) 3 (.slice a5 aj.length a6) aj] [fRep (rL rB) (.slice a2 p0.g.Bits.length a3) p0.g.Bits,fRep (rLz (rI .i64)) (.slice ak p0.best.length al) p0.best]) ?_ (fun a w hI=>?_)
  ·refine sRegion (sM S fun a S=>?_)
   refine nilCheck_ok (q:=⟨bb0,0,none⟩) S (wN d) d d d (lb d) fun a S=>sField (b:=bb0) (off:=0) 5 5 S (wN d) d d d d d (lb d) fun a S=>sLoad1 0 (.slice ak p0.best.length al) S (wN d) d d d d d d (lb d) fun a S=>sBin _ S (wN d) d d d (bEqNilZ _ _ _ _ Try.underlying25 ak (p0.best.length) (al) (rLz_is (S.mem.know (i:=1) (e:=fRep (rLz (rI .i64)) (.slice ak p0.best.length al) p0.best) d))) d (lb d) fun a S=>sM S fun a S=>?_
   rcases iS h with ⟨ae,h⟩ | ⟨ae,h⟩
   ·refine sSkN 6 5 false 37 S d d ae d fun a S=>sPickT (.bool true) S (wN d) d d ae d d (lb d) fun a S=>?_
    exact lT (⟨true,Option.some.inj h,S.fix [0,1] [0,1] (by decide) d d d⟩)
   refine sMove (iv aw) S (wG 5 false 37 d d d ae) (.inl d) d d (lb d) fun a S=>sMove (.pointer (some ⟨bb0,0,none⟩)) S (wG 5 false 37 d d d ae) (.inl d) d d (lb d) fun a S=>nilCheck_ok (q:=⟨bb0,0,none⟩) S (wG 5 false 37 d d d ae) d d d (lb d) fun a S=>sField (b:=bb0) (off:=0) 6 6 S (wG 5 false 37 d d d ae) d d d d d (lb d) fun a S=>sLoad1 0 (iv p0.least) S (wG 5 false 37 d d d ae) d d d d d d (lb d) fun a S=>sBin _ S (wG 5 false 37 d d d ae) d d d (bLt _ _ _ _ .i64 aw p0.least) d (lb d) fun a S=>sPickF (.bool (decide (aw < p0.least))) S (wN d) d d ae d d (lb d) fun a S=>?_
   exact lT (⟨decide (aw < p0.least),Option.some.inj h,S.fix [0,1] [0,1] (by decide) d d d⟩)
  obtain ⟨bg,rfl,S⟩:=hI
  have h:=bx
  try dsimp only at h
  rcases iS h with ⟨aG,h⟩ | ⟨aG,h⟩
  rotate_left
  ·refine sCondF S d aG ?_
   exact wp_skip (leafT (⟨aj,p0.best,p0.least,Option.some.inj h,a5,a6,ak,al,S.fix [0,1] [0,1] (by decide) d d d⟩))
  refine sCondT S d aG (sRegion (sM S fun a S=>?_))
  refine sM S fun a S=>?_
  refine sM S fun a S=>?_
  refine nilCheck_ok (q:=⟨bb0,0,none⟩) S (wN d) d d d (lb d) fun a S=>sField (b:=bb0) (off:=0) 4 4 S (wN d) d d d d d (lb d) fun a S=>sLoad1 0 (.slice a5 aj.length a6) S (wN d) d d d d d d (lb d) fun a S=>?_
  obtain ⟨ag,bh,h⟩:=bS h
  refine sCall (X:=Option Addr × Nat) (f:=49) (vs:=[.slice a5 aj.length a6]) (val:=fun x=>.slice x.1 ag.1.length x.2) (B':=fun x=>[eRow (rI .i64) 3 (.slice x.1 ag.1.length x.2) ag.1,eRow (rI .i64) 3 (.slice a5 aj.length a6) ag.2]) (D':=fun _=>[]) [eRow (rI .i64) 3 (.slice a5 aj.length a6) aj] [eBox bb0 68 [iv p0.g.W,iv p0.g.H,.slice a2 p0.g.Bits.length a3,iv p0.k,.slice a5 aj.length a6,.slice ak p0.best.length al,iv p0.least]] [] [1,0] [] S (wN d) d callee49 d (by decide) d d (fun E1 w1 S1=>c_slices_Clone___int_int__s1 E1 w1 aj a5 a6 ag bh S1) d (lb d) fun xx a w S=>?_
  obtain ⟨ap,aq⟩:=xx
  dsimp only at S
  have bi:=row_v (S.mem.hold (i:=1) (e:=eRow (rI .i64) 3 (.slice a5 aj.length a6) ag.2) d)
  rw [bi] at S
  refine sM S fun a S=>?_
  refine nilCheck_ok (q:=⟨bb0,0,none⟩) S (wN d) d d d (lb d) fun a S=>sField (b:=bb0) (off:=0) 5 5 S (wN d) d d d d d (lb d) fun a S=>?_
  have S:=S.shutR (r:=(rI .i64)) (T:=3) (v:=.slice ap ag.1.length aq) (xs:=ag.1) 0 d
  obtain ⟨bI,bj,h⟩:=bS h
  have S:=S.learn (fRep (rLz (rI .i64)) (.slice ap ag.1.length aq) ag.1) (rLz_of (S.mem.know (i:=0) (e:=fRep (rL (rI .i64)) (.slice ap ag.1.length aq) ag.1) d) bj)
  refine sStore (p:=bb0) (off:=5) (T:=68) (vs:=[iv p0.g.W,iv p0.g.H,.slice a2 p0.g.Bits.length a3,iv p0.k,.slice a5 ag.2.length a6,.slice ak p0.best.length al,iv p0.least]) (v:=.slice ap ag.1.length aq) 1 [.slice ap ag.1.length aq] S (wN d) d d d d d d d (by simp) d fun a w S=>nilCheck_ok (q:=⟨bb0,0,none⟩) S (wN d) d d d (lb d) fun a S=>sField (b:=bb0) (off:=0) 6 6 S (wN d) d d d d d (lb d) fun a S=>sStore (p:=bb0) (off:=6) (T:=68) (vs:=[iv p0.g.W,iv p0.g.H,.slice a2 p0.g.Bits.length a3,iv p0.k,.slice a5 ag.2.length a6,.slice ap ag.1.length aq,iv p0.least]) (v:=iv aw) 0 [iv aw] S (wN d) d d d d d d d (by simp) d fun a w S=>?_
  exact lT (⟨ag.2,ag.1,aw,Option.some.inj h,a5,a6,ap,aq,S.fix [0,1] [2,0] (by decide) d d d⟩)
 obtain ⟨a0,aT,h⟩:=bS h
 refine sDraw (nf:=[8,13,14]) (W:=[(0,20,.pointer (some ⟨bb0,0,none⟩)),(1,21,.pointer (some ⟨bb0,0,none⟩)),(2,22,.pointer (some ⟨bb0,0,none⟩)),(3,23,.agg #[iv p0.g.W,iv p0.g.H,.slice a2 p0.g.Bits.length a3]),(4,24,.pointer (some ⟨bb0,0,none⟩)),(5,25,.pointer (some ⟨bb0,0,none⟩)),(6,26,.pointer (some ⟨bb0,4,none⟩)),(7,27,.slice ad_0_1 p0.l.length cp_0_1)]) d S ?_
 refine node_by (A:=anc_reduce_search_from_s9_1) 17 (by kernel_rfl) (by kernel_rfl) (by kernel_rfl) (by kernel_rfl) (by kernel_rfl) [0,1,2,3,4,5,6,7] (by kernel_rfl) (by decide) (by decide) (fF ?_ (fF ?_ (fF ?_ (fF ?_ (fF ?_ (fF ?_ (fF ?_ (fF ?_ (fN ?_ (fE 8 (fE 8 (fE 8 (fE 8 (fN ?_ (aB 14 2 8 (by decide) (fE 8 (fE 8 (trivial)))))))))))))))))) [] (fun q hq=>by cases hq) (fun hY=>absurd (hY 8 (by decide)) (by decide))
 ·exact fM 0 none d d d d (.inl d) d d d
 ·refine fJ [(20,_)] 1 [some 0] fun G a w S=>?_
  exact nilCheck_ok (q:=⟨bb0,0,none⟩) S (wN d) d d d (lb d) fun a S=>leafL ⟨d,S⟩
 ·refine fJ [(21,_)] 2 [some 1] fun G a w S=>?_
  exact sField (b:=bb0) (off:=0) 0 0 S (wN d) d d d d d (lb d) fun a S=>leafL ⟨d,S⟩
 ·refine fJ [(22,_)] 3 [some 2] fun G a w S=>?_
  exact sLoadN (p:=bb0) (off:=0) (T:=68) (vs:=[iv p0.g.W,iv p0.g.H,.slice a2 p0.g.Bits.length a3,iv p0.k,.slice ad_0_1 p0.l.length cp_0_1,.slice ak p0.best.length al,iv p0.least]) 0 [iv p0.g.W,iv p0.g.H,.slice a2 p0.g.Bits.length a3] S (wN d) d d d d d d d (lb d) fun a S=>leafL ⟨d,S⟩
 ·exact fM 4 none d d d d (.inl d) d d d
 ·refine fJ [(24,_)] 5 [some 4] fun G a w S=>?_
  exact nilCheck_ok (q:=⟨bb0,0,none⟩) S (wN d) d d d (lb d) fun a S=>leafL ⟨d,S⟩
 ·refine fJ [(25,_)] 6 [some 5] fun G a w S=>?_
  exact sField (b:=bb0) (off:=0) 4 4 S (wN d) d d d d d (lb d) fun a S=>leafL ⟨d,S⟩
 ·refine fJ [(26,_)] 7 [some 6] fun G a w S=>?_
  exact sLoad1 0 (.slice ad_0_1 p0.l.length cp_0_1) S (wN d) d d d d d d (lb d) fun a S=>leafL ⟨d,S⟩
 ·refine ⟨_,[(23,.agg #[iv p0.g.W,iv p0.g.H,.slice a2 p0.g.Bits.length a3]),(27,.slice ad_0_1 p0.l.length cp_0_1)],d,(srcs_of [some 3,some 7] d d d),fun G a w S=>?_⟩
  have S:=S.learn (fRep r_api_Grid (.agg #[iv p0.g.W,iv p0.g.H,.slice a2 p0.g.Bits.length a3]) p0.g) ⟨_,d,S.mem.know (i:=0) (e:=fRep (rL rB) (.slice a2 p0.g.Bits.length a3) p0.g.Bits) d⟩
  refine sCall (X:=Option Addr × Nat) (f:=12) (vs:=[.agg #[iv p0.g.W,iv p0.g.H,.slice a2 p0.g.Bits.length a3],.slice ad_0_1 p0.l.length cp_0_1]) (val:=fun x=>.tuple #[.agg #[iv a0.1.W,iv a0.1.H,.slice x.1 a0.1.Bits.length x.2],iv a0.2.1,iv a0.2.2.1]) (B':=fun x=>[eRow rB 4 (.slice x.1 a0.1.Bits.length x.2) a0.1.Bits,eRow (rI .i64) 3 (.slice ad_0_1 p0.l.length cp_0_1) a0.2.2.2]) (D':=fun _=>[]) [eRow (rI .i64) 3 (.slice ad_0_1 p0.l.length cp_0_1) p0.l] [eBox bb0 68 [iv p0.g.W,iv p0.g.H,.slice a2 p0.g.Bits.length a3,iv p0.k,.slice ad_0_1 p0.l.length cp_0_1,.slice ak p0.best.length al,iv p0.least]] [fRep r_api_Grid (.agg #[iv p0.g.W,iv p0.g.H,.slice a2 p0.g.Bits.length a3]) p0.g] [1,0] [0] S (wN d) d callee12 d (by decide) d d (fun E1 w1 S1=>c_reduce_Change_s1 E1 w1 p0.g (.agg #[iv p0.g.W,iv p0.g.H,.slice a2 p0.g.Bits.length a3]) p0.l ad_0_1 cp_0_1 a0 aT S1) d (lb d) fun xx a w S=>?_
  obtain ⟨a7,a8⟩:=xx
  dsimp only at S
  refine leafL ⟨d,_,_,.inl ⟨28,(.tuple #[.agg #[iv a0.1.W,iv a0.1.H,.slice a7 a0.1.Bits.length a8],iv a0.2.1,iv a0.2.2.1]),[(9,19,.tuple #[.agg #[iv a0.1.W,iv a0.1.H,.slice a7 a0.1.Bits.length a8],iv a0.2.1,iv a0.2.2.1]),(10,29,.agg #[iv a0.1.W,iv a0.1.H,.slice a7 a0.1.Bits.length a8]),(11,30,iv a0.2.1),(12,31,iv a0.2.2.1)],d,S,hz_of d,?_⟩⟩
  refine node_by (A:=anc_reduce_search_from_s9_1) 17 (by kernel_rfl) (by kernel_rfl) (by kernel_rfl) (by kernel_rfl) (by kernel_rfl) [9,10,11,12,8,0,1,2,3,4,5,6,7] (by kernel_rfl) (by decide) (by decide) (fD 8 (fD 8 (fD 8 (fD 8 (fD 8 (fD 8 (fD 8 (fD 8 (fY (fF ?_ (fF ?_ (fF ?_ (fF ?_ (fN ?_ (aB 14 2 13 (by decide) (fE 13 (fE 13 (trivial)))))))))))))))))) [] (fun q hq=>by cases hq) (fun hY=>absurd (hY 13 (by decide)) (by decide))
  ·exact fM 0 (some 4) d d d d (.inl d) d d d
  ·refine fJ [(19,_)] 1 [some 0] fun G a w S=>?_
   exact sExtract (vs:=[.agg #[iv a0.1.W,iv a0.1.H,.slice a7 a0.1.Bits.length a8],iv a0.2.1,iv a0.2.2.1]) (.agg #[iv a0.1.W,iv a0.1.H,.slice a7 a0.1.Bits.length a8]) S (wN d) d d d d (lb d) fun a S=>leafL ⟨d,S⟩
  ·refine fJ [(19,_)] 2 [some 0] fun G a w S=>?_
   exact sExtract (vs:=[.agg #[iv a0.1.W,iv a0.1.H,.slice a7 a0.1.Bits.length a8],iv a0.2.1,iv a0.2.2.1]) (iv a0.2.1) S (wN d) d d d d (lb d) fun a S=>leafL ⟨d,S⟩
  ·refine fJ [(19,_)] 3 [some 0] fun G a w S=>?_
   exact sExtract (vs:=[.agg #[iv a0.1.W,iv a0.1.H,.slice a7 a0.1.Bits.length a8],iv a0.2.1,iv a0.2.2.1]) (iv a0.2.2.1) S (wN d) d d d d (lb d) fun a S=>leafL ⟨d,S⟩
  refine ⟨_,[],d,(srcs_of [] d d d),fun G a w S=>?_⟩
  refine sAlloc (.agg #[iv 0,iv 0,.slice none 0 0]) S (wN d) d d [iv 0,iv 0,.slice none 0 0] d d (lb d) fun a bk w S=>leafL ⟨d,_,_,.inl ⟨4,(.pointer (some ⟨bk,0,none⟩)),[],d,S,hz_of d,?_⟩⟩
  refine node_by (A:=anc_reduce_search_from_s9_1) 17 (by kernel_rfl) (by kernel_rfl) (by kernel_rfl) (by kernel_rfl) (by kernel_rfl) [13,9,10,11,12,8,0,1,2,3,4,5,6,7] (by kernel_rfl) (by decide) (by decide) (fD 8 (fD 8 (fD 8 (fD 8 (fD 8 (fD 8 (fD 8 (fD 8 (fY (fF ?_ (fF ?_ (fF ?_ (fF ?_ (fY (fN ?_ (fE 14 (fE 14 (trivial)))))))))))))))))) [] (fun q hq=>by cases hq) (fun hY=>absurd (hY 14 (by decide)) (by decide))
  ·exact fM 1 (some 5) d d d d (.inl d) d d d
  ·refine fJ [(19,_)] 2 [some 1] fun G a w S=>?_
   exact sExtract (vs:=[.agg #[iv a0.1.W,iv a0.1.H,.slice a7 a0.1.Bits.length a8],iv a0.2.1,iv a0.2.2.1]) (.agg #[iv a0.1.W,iv a0.1.H,.slice a7 a0.1.Bits.length a8]) S (wN d) d d d d (lb d) fun a S=>leafL ⟨d,S⟩
  ·refine fJ [(19,_)] 3 [some 1] fun G a w S=>?_
   exact sExtract (vs:=[.agg #[iv a0.1.W,iv a0.1.H,.slice a7 a0.1.Bits.length a8],iv a0.2.1,iv a0.2.2.1]) (iv a0.2.1) S (wN d) d d d d (lb d) fun a S=>leafL ⟨d,S⟩
  ·refine fJ [(19,_)] 4 [some 1] fun G a w S=>?_
   exact sExtract (vs:=[.agg #[iv a0.1.W,iv a0.1.H,.slice a7 a0.1.Bits.length a8],iv a0.2.1,iv a0.2.2.1]) (iv a0.2.2.1) S (wN d) d d d d (lb d) fun a S=>leafL ⟨d,S⟩
  refine ⟨_,[(4,.pointer (some ⟨bk,0,none⟩)),(29,.agg #[iv a0.1.W,iv a0.1.H,.slice a7 a0.1.Bits.length a8])],d,(srcs_of [some 0,some 2] d d d),fun G a w S=>?_⟩
  refine sStore (p:=bk) (off:=0) (T:=24) (vs:=[iv 0,iv 0,.slice none 0 0]) (v:=.agg #[iv a0.1.W,iv a0.1.H,.slice a7 a0.1.Bits.length a8]) 0 [iv a0.1.W,iv a0.1.H,.slice a7 a0.1.Bits.length a8] S (wN d) d d d d d d d (by simp) d fun a w S=>leafL ⟨d,_,_,.inr ⟨[(15,5,iv a0.2.1),(16,6,iv a0.2.2.1)],d,S,hz_of d,?_⟩⟩
  refine node_by (A:=anc_reduce_search_from_s9_1) 17 (by kernel_rfl) (by kernel_rfl) (by kernel_rfl) (by kernel_rfl) (by kernel_rfl) [15,16,13,9,10,11,12,8,0,1,2,3,4,5,6,7] (by kernel_rfl) (by decide) (by decide) (fD 14 (fD 14 (fD 14 (fD 14 (fD 14 (fD 14 (fD 14 (fD 14 (fY (fD 14 (fD 14 (fF ?_ (fF ?_ (fY (fY (fF ?_ (fF ?_ (trivial)))))))))))))))))) [(0,.pointer (some ⟨bb0,0,none⟩)),(5,iv a0.2.1)] (fin_of [none,some 0] d (by kernel_rfl) (by kernel_rfl)) (fun _ a w S=>?_)
  ·refine fJ [(19,_)] 5 [some 3] fun G a w S=>?_
   exact sExtract (vs:=[.agg #[iv a0.1.W,iv a0.1.H,.slice a7 a0.1.Bits.length a8],iv a0.2.1,iv a0.2.2.1]) (iv a0.2.1) S (wN d) d d d d (lb d) fun a S=>leafL ⟨d,S⟩
  ·refine fJ [(19,_)] 6 [some 3] fun G a w S=>?_
   exact sExtract (vs:=[.agg #[iv a0.1.W,iv a0.1.H,.slice a7 a0.1.Bits.length a8],iv a0.2.1,iv a0.2.2.1]) (iv a0.2.2.1) S (wN d) d d d d (lb d) fun a S=>leafL ⟨d,S⟩
  ·exact fM 0 (some 5) d d d d (.inr d) d d d
  ·exact fM 1 (some 6) d d d d (.inr d) d d d
  have bl:=row_v (S.mem.hold (i:=2) (e:=eRow (rI .i64) 3 (.slice ad_0_1 p0.l.length cp_0_1) a0.2.2.2) d)
  rw [bl] at S
  exact leafT (⟨a0.2.1,a0.2.2.2,Option.some.inj h,ad_0_1,cp_0_1,S.fix [3,2] [1,2] (by decide) d d d⟩)
 refine ⟨_,[],d,(srcs_of [] d d d),fun G a w S=>?_⟩
 refine sAlloc (.agg #[iv 0,iv 0,.slice none 0 0]) S (wN d) d d [iv 0,iv 0,.slice none 0 0] d d (lb d) fun a aV w S=>leafL ⟨d,_,_,.inl ⟨4,(.pointer (some ⟨aV,0,none⟩)),[],d,S,hz_of d,?_⟩⟩
 refine node_by (A:=anc_reduce_search_from_s9_1) 17 (by kernel_rfl) (by kernel_rfl) (by kernel_rfl) (by kernel_rfl) (by kernel_rfl) [13,0,1,2,3,4,5,6,7] (by kernel_rfl) (by decide) (by decide) (fF ?_ (fF ?_ (fF ?_ (fF ?_ (fF ?_ (fF ?_ (fF ?_ (fF ?_ (fN ?_ (fE 8 (fE 8 (fE 8 (fE 8 (fY (aB 14 2 8 (by decide) (fE 8 (fE 8 (trivial)))))))))))))))))) [] (fun q hq=>by cases hq) (fun hY=>absurd (hY 8 (by decide)) (by decide))
 ·exact fM 1 none d d d d (.inl d) d d d
 ·refine fJ [(20,_)] 2 [some 1] fun G a w S=>?_
  exact nilCheck_ok (q:=⟨bb0,0,none⟩) S (wN d) d d d (lb d) fun a S=>leafL ⟨d,S⟩
 ·refine fJ [(21,_)] 3 [some 2] fun G a w S=>?_
  exact sField (b:=bb0) (off:=0) 0 0 S (wN d) d d d d d (lb d) fun a S=>leafL ⟨d,S⟩
 ·refine fJ [(22,_)] 4 [some 3] fun G a w S=>?_
  exact sLoadN (p:=bb0) (off:=0) (T:=68) (vs:=[iv p0.g.W,iv p0.g.H,.slice a2 p0.g.Bits.length a3,iv p0.k,.slice ad_0_1 p0.l.length cp_0_1,.slice ak p0.best.length al,iv p0.least]) 1 [iv p0.g.W,iv p0.g.H,.slice a2 p0.g.Bits.length a3] S (wN d) d d d d d d d (lb d) fun a S=>leafL ⟨d,S⟩
 ·exact fM 5 none d d d d (.inl d) d d d
 ·refine fJ [(24,_)] 6 [some 5] fun G a w S=>?_
  exact nilCheck_ok (q:=⟨bb0,0,none⟩) S (wN d) d d d (lb d) fun a S=>leafL ⟨d,S⟩
 ·refine fJ [(25,_)] 7 [some 6] fun G a w S=>?_
  exact sField (b:=bb0) (off:=0) 4 4 S (wN d) d d d d d (lb d) fun a S=>leafL ⟨d,S⟩
 ·refine fJ [(26,_)] 8 [some 7] fun G a w S=>?_
  exact sLoad1 1 (.slice ad_0_1 p0.l.length cp_0_1) S (wN d) d d d d d d (lb d) fun a S=>leafL ⟨d,S⟩
 refine ⟨_,[(23,.agg #[iv p0.g.W,iv p0.g.H,.slice a2 p0.g.Bits.length a3]),(27,.slice ad_0_1 p0.l.length cp_0_1)],d,(srcs_of [some 4,some 8] d d d),fun G a w S=>?_⟩
 have S:=S.learn (fRep r_api_Grid (.agg #[iv p0.g.W,iv p0.g.H,.slice a2 p0.g.Bits.length a3]) p0.g) ⟨_,d,S.mem.know (i:=0) (e:=fRep (rL rB) (.slice a2 p0.g.Bits.length a3) p0.g.Bits) d⟩
 refine sCall (X:=Option Addr × Nat) (f:=12) (vs:=[.agg #[iv p0.g.W,iv p0.g.H,.slice a2 p0.g.Bits.length a3],.slice ad_0_1 p0.l.length cp_0_1]) (val:=fun x=>.tuple #[.agg #[iv a0.1.W,iv a0.1.H,.slice x.1 a0.1.Bits.length x.2],iv a0.2.1,iv a0.2.2.1]) (B':=fun x=>[eRow rB 4 (.slice x.1 a0.1.Bits.length x.2) a0.1.Bits,eRow (rI .i64) 3 (.slice ad_0_1 p0.l.length cp_0_1) a0.2.2.2]) (D':=fun _=>[]) [eRow (rI .i64) 3 (.slice ad_0_1 p0.l.length cp_0_1) p0.l] [eBox aV 24 [iv 0,iv 0,.slice none 0 0],eBox bb0 68 [iv p0.g.W,iv p0.g.H,.slice a2 p0.g.Bits.length a3,iv p0.k,.slice ad_0_1 p0.l.length cp_0_1,.slice ak p0.best.length al,iv p0.least]] [fRep r_api_Grid (.agg #[iv p0.g.W,iv p0.g.H,.slice a2 p0.g.Bits.length a3]) p0.g] [2,0,1] [0] S (wN d) d callee12 d (by decide) d d (fun E1 w1 S1=>c_reduce_Change_s1 E1 w1 p0.g (.agg #[iv p0.g.W,iv p0.g.H,.slice a2 p0.g.Bits.length a3]) p0.l ad_0_1 cp_0_1 a0 aT S1) d (lb d) fun xx a w S=>?_
 obtain ⟨ab,ac⟩:=xx
 dsimp only at S
 refine leafL ⟨d,_,_,.inl ⟨28,(.tuple #[.agg #[iv a0.1.W,iv a0.1.H,.slice ab a0.1.Bits.length ac],iv a0.2.1,iv a0.2.2.1]),[(9,19,.tuple #[.agg #[iv a0.1.W,iv a0.1.H,.slice ab a0.1.Bits.length ac],iv a0.2.1,iv a0.2.2.1]),(10,29,.agg #[iv a0.1.W,iv a0.1.H,.slice ab a0.1.Bits.length ac]),(11,30,iv a0.2.1),(12,31,iv a0.2.2.1)],d,S,hz_of d,?_⟩⟩
 refine node_by (A:=anc_reduce_search_from_s9_1) 17 (by kernel_rfl) (by kernel_rfl) (by kernel_rfl) (by kernel_rfl) (by kernel_rfl) [9,10,11,12,8,13,0,1,2,3,4,5,6,7] (by kernel_rfl) (by decide) (by decide) (fD 8 (fD 8 (fD 8 (fD 8 (fD 8 (fD 8 (fD 8 (fD 8 (fY (fF ?_ (fF ?_ (fF ?_ (fF ?_ (fY (fN ?_ (fE 14 (fE 14 (trivial)))))))))))))))))) [] (fun q hq=>by cases hq) (fun hY=>absurd (hY 14 (by decide)) (by decide))
 ·exact fM 0 (some 4) d d d d (.inl d) d d d
 ·refine fJ [(19,_)] 1 [some 0] fun G a w S=>?_
  exact sExtract (vs:=[.agg #[iv a0.1.W,iv a0.1.H,.slice ab a0.1.Bits.length ac],iv a0.2.1,iv a0.2.2.1]) (.agg #[iv a0.1.W,iv a0.1.H,.slice ab a0.1.Bits.length ac]) S (wN d) d d d d (lb d) fun a S=>leafL ⟨d,S⟩
 ·refine fJ [(19,_)] 2 [some 0] fun G a w S=>?_
  exact sExtract (vs:=[.agg #[iv a0.1.W,iv a0.1.H,.slice ab a0.1.Bits.length ac],iv a0.2.1,iv a0.2.2.1]) (iv a0.2.1) S (wN d) d d d d (lb d) fun a S=>leafL ⟨d,S⟩
 ·refine fJ [(19,_)] 3 [some 0] fun G a w S=>?_
  exact sExtract (vs:=[.agg #[iv a0.1.W,iv a0.1.H,.slice ab a0.1.Bits.length ac],iv a0.2.1,iv a0.2.2.1]) (iv a0.2.2.1) S (wN d) d d d d (lb d) fun a S=>leafL ⟨d,S⟩
 refine ⟨_,[(4,.pointer (some ⟨aV,0,none⟩)),(29,.agg #[iv a0.1.W,iv a0.1.H,.slice ab a0.1.Bits.length ac])],d,(srcs_of [some 5,some 1] d d d),fun G a w S=>?_⟩
 refine sStore (p:=aV) (off:=0) (T:=24) (vs:=[iv 0,iv 0,.slice none 0 0]) (v:=.agg #[iv a0.1.W,iv a0.1.H,.slice ab a0.1.Bits.length ac]) 2 [iv a0.1.W,iv a0.1.H,.slice ab a0.1.Bits.length ac] S (wN d) d d d d d d d (by simp) d fun a w S=>leafL ⟨d,_,_,.inr ⟨[(15,5,iv a0.2.1),(16,6,iv a0.2.2.1)],d,S,hz_of d,?_⟩⟩
 refine node_by (A:=anc_reduce_search_from_s9_1) 17 (by kernel_rfl) (by kernel_rfl) (by kernel_rfl) (by kernel_rfl) (by kernel_rfl) [15,16,9,10,11,12,8,13,0,1,2,3,4,5,6,7] (by kernel_rfl) (by decide) (by decide) (fD 14 (fD 14 (fD 14 (fD 14 (fD 14 (fD 14 (fD 14 (fD 14 (fY (fD 14 (fD 14 (fF ?_ (fF ?_ (fY (fY (fF ?_ (fF ?_ (trivial)))))))))))))))))) [(0,.pointer (some ⟨bb0,0,none⟩)),(5,iv a0.2.1)] (fin_of [none,some 0] d (by kernel_rfl) (by kernel_rfl)) (fun _ a w S=>?_)
 ·refine fJ [(19,_)] 4 [some 2] fun G a w S=>?_
  exact sExtract (vs:=[.agg #[iv a0.1.W,iv a0.1.H,.slice ab a0.1.Bits.length ac],iv a0.2.1,iv a0.2.2.1]) (iv a0.2.1) S (wN d) d d d d (lb d) fun a S=>leafL ⟨d,S⟩
 ·refine fJ [(19,_)] 5 [some 2] fun G a w S=>?_
  exact sExtract (vs:=[.agg #[iv a0.1.W,iv a0.1.H,.slice ab a0.1.Bits.length ac],iv a0.2.1,iv a0.2.2.1]) (iv a0.2.2.1) S (wN d) d d d d (lb d) fun a S=>leafL ⟨d,S⟩
 ·exact fM 0 (some 4) d d d d (.inr d) d d d
 ·exact fM 1 (some 5) d d d d (.inr d) d d d
 have bm:=row_v (S.mem.hold (i:=2) (e:=eRow (rI .i64) 3 (.slice ad_0_1 p0.l.length cp_0_1) a0.2.2.2) d)
 rw [bm] at S
 exact leafT (⟨a0.2.1,a0.2.2.2,Option.some.inj h,ad_0_1,cp_0_1,S.fix [3,2] [1,2] (by decide) d d d⟩)
def anc_reduce_search_from_s8_0:List (List Nat):=[[],[0],[0,1],[0,1,2],[0,1,2,3],[],[5],[5,6],[5,6,7],[5,6,7,8],[0,1,2,3,4,5,6,7,8,9]]
def anc_reduce_search_from_s8_1:List (List Nat):=[[],[0],[0,1],[0,1,2],[],[4],[4,5],[4,5,6],[0,1,2,3,4,5,6,7],[0,1,2,3,4,5,6,7,8],[0,1,2,3,4,5,6,7,8,9],[0,1,2,3,4,5,6,7,8,9],[0,1,2,3,4,5,6,7,8,9],[],[0,1,2,3,4,5,6,7,8,9,10,13],[0,1,2,3,4,5,6,7,8,9,10,11,13,14],[0,1,2,3,4,5,6,7,8,9,10,11,12,13,14,15]]
def anc_reduce_search_from_s8_2:List (List Nat):=[[],[],[1],[1,2],[1,2,3],[],[5],[5,6],[5,6,7],[5,6,7,8],[5,6,7,8,9],[1,2,3,4,5,6,7,8,9,10],[0,1,2,3,4,5,6,7,8,9,10,11],[0,1,2,3,4,5,6,7,8,9,10,11,12],[0,1,2,3,4,5,6,7,8,9,10,11,12,13]]
noncomputable def reduce_search_from_s8_l1 (p0:reduce_search) (p1:Int):(Int × Int × Int × Int × List Int × List Int × Int)→Option ((Int × Int × Int × Int × List Int × List Int × Int) ⊕ (Int × Int × Int × List Int × List Int × Int)):=fun s0=>match s0 with
 | (a2,a3,a4,a5,a6,a7,a8)=>
  if decide (a2 < (if p0.k < (w64 (p1 + 1)) then p0.k else w64 (p1 + 1))) then
   (appO a6 ([a2]:List Int)).bind fun a9=>
   (F_reduce_search_from_s9 (reduce_search.mk (api_Grid.mk a3 a4 p0.g.Bits) a5 a9 a7 a8) (if p1 < (w64 (a2 + 1)) then w64 (a2 + 1) else p1)).bind fun a0=>
   (sliceO a0.l 0 (w64 ((a0.l.length:Int) - 1))).bind fun aa=>
   some (.inl (w64 (a2 + 1),a0.g.W,a0.g.H,a0.k,aa,a0.best,a0.least))
  else
   some (.inr (a3,a4,a5,a6,a7,a8))
noncomputable def F_reduce_search_from_s8 (p0:reduce_search) (p1:Int):Option reduce_search:=
 if (p0.l.length:Int) == p0.g.W then
  Option.bind (α:=(List Int × List Int × Int)) (
   Option.bind (α:=(Int × List Int)) (
    (F_reduce_Change_s1 p0.g p0.l).bind fun a2=>
    some (a2.2.1,a2.2.2.2)) fun (a3,a4)=>
   Option.bind (α:=Bool) (
    if p0.best.isEmpty then
     some true
    else
     some (decide (a3 < p0.least))) fun a5=>
   if a5 then
    (F_slices_Clone___int_int__s1 a4).bind fun a0=>
    (neO a0.1).bind fun af=>
    some (a0.2,a0.1,a3)
   else
    some (a4,p0.best,p0.least)) fun (o8,a6,a7)=>
  some (reduce_search.mk p0.g p0.k o8 a6 a7)
 else
  (whileO (reduce_search_from_s8_l1 p0 p1) (0,p0.g.W,p0.g.H,p0.k,p0.l,p0.best,p0.least)).bind fun (a8,a9,aa,ab,ac,ae)=>
   some (reduce_search.mk (api_Grid.mk a8 a9 p0.g.Bits) aa ab ac ae)
theorem c_reduce_search_from_s8 (E:Nat→Prop) (w0:World) (p0:reduce_search) (bb0:Nat) (u_0_0:Value) (ad_0_1:Option Addr) (cp_0_1:Nat) (u_0_2:Value) (p1:Int) (r:reduce_search) (h:F_reduce_search_from_s8 p0 p1=some r) (S:St0 E (keysL [eBox bb0 68 [iv p0.g.W,iv p0.g.H,u_0_0,iv p0.k,.slice ad_0_1 p0.l.length cp_0_1,u_0_2,iv p0.least],eRow (rI .i64) 3 (.slice ad_0_1 p0.l.length cp_0_1) p0.l]) w0 w0 [eBox bb0 68 [iv p0.g.W,iv p0.g.H,u_0_0,iv p0.k,.slice ad_0_1 p0.l.length cp_0_1,u_0_2,iv p0.least],eRow (rI .i64) 3 (.slice ad_0_1 p0.l.length cp_0_1) p0.l] [fRep (rL rB) (u_0_0) p0.g.Bits,fRep (rLz (rI .i64)) (u_0_2) p0.best]) :
 Calls Try.prog 41 #[.pointer (some ⟨bb0,0,none⟩),iv p1] w0 (Ret (X:=Option Addr × Nat × Value) E (keysL [eBox bb0 68 [iv p0.g.W,iv p0.g.H,u_0_0,iv p0.k,.slice ad_0_1 p0.l.length cp_0_1,u_0_2,iv p0.least],eRow (rI .i64) 3 (.slice ad_0_1 p0.l.length cp_0_1) p0.l]) w0 (fun _=>.tuple #[]) (fun x=>[eBox bb0 68 [iv r.g.W,iv r.g.H,u_0_0,iv r.k,.slice x.1 r.l.length x.2.1,x.2.2,iv r.least],eRow (rI .i64) 3 (.slice x.1 r.l.length x.2.1) r.l]) (fun x=>[fRep (rLz (rI .i64)) x.2.2 r.best])):=by
 unfold F_reduce_search_from_s8 at h
 obtain ⟨a2,a3,_,rfl,_⟩:=S.know (i:=0) (e:=fRep (rL rB) (u_0_0) p0.g.Bits) d
 obtain ⟨⟨ak,al,_,rfl,_⟩,_⟩:=S.know (i:=1) (e:=fRep (rLz (rI .i64)) (u_0_2) p0.best) d
 generalize (keysL [eBox bb0 68 [iv p0.g.W,iv p0.g.H,.slice a2 p0.g.Bits.length a3,iv p0.k,.slice ad_0_1 p0.l.length cp_0_1,.slice ak p0.best.length al,iv p0.least],eRow (rI .i64) 3 (.slice ad_0_1 p0.l.length cp_0_1) p0.l])=M9 at S ⊢
 refine sEnter (args:=[.pointer (some ⟨bb0,0,none⟩),iv p1]) 98 Try.func41 d d (by simp) S (fun a S=>?_)
 refine sSeq (fun K5 bn=>sSeq (fun K6 bo=>sDraw (nf:=[]) (W:=[(0,8,.pointer (some ⟨bb0,0,none⟩)),(1,9,.pointer (some ⟨bb0,0,none⟩)),(2,10,.pointer (some ⟨bb0,4,none⟩)),(3,11,.slice ad_0_1 p0.l.length cp_0_1),(4,12,iv (p0.l.length:Int)),(5,13,.pointer (some ⟨bb0,0,none⟩)),(6,14,.pointer (some ⟨bb0,0,none⟩)),(7,15,.pointer (some ⟨bb0,0,none⟩)),(8,16,.pointer (some ⟨bb0,0,none⟩)),(9,17,iv p0.g.W),(10,18,.bool ((p0.l.length:Int) == p0.g.W))]) d S ?_))
 refine node_by (A:=anc_reduce_search_from_s8_0) 11 (by kernel_rfl) (by kernel_rfl) (by kernel_rfl) (by kernel_rfl) (by kernel_rfl) [0,1,2,3,4,5,6,7,8,9,10] (by kernel_rfl) (by decide) (by decide) (fF ?_ (fF ?_ (fF ?_ (fF ?_ (fF ?_ (fF ?_ (fF ?_ (fF ?_ (fF ?_ (fF ?_ (fF ?_ (trivial)))))))))))) [(0,.pointer (some ⟨bb0,0,none⟩)),(1,iv p1),(18,.bool ((p0.l.length:Int) == p0.g.W))] (fin_of [none,none,some 10] d (by kernel_rfl) (by kernel_rfl)) (fun _ a w S=>?_)
 ·exact fM 0 none d d d d (.inl d) d d d
 ·refine fJ [(8,_)] 1 [some 0] fun G a w S=>?_
  exact nilCheck_ok (q:=⟨bb0,0,none⟩) S (wN d) d d d (lb d) fun a S=>leafL ⟨d,S⟩
 ·refine fJ [(9,_)] 2 [some 1] fun G a w S=>?_
  exact sField (b:=bb0) (off:=0) 4 4 S (wN d) d d d d d (lb d) fun a S=>leafL ⟨d,S⟩
 ·refine fJ [(10,_)] 3 [some 2] fun G a w S=>?_
  exact sLoad1 0 (.slice ad_0_1 p0.l.length cp_0_1) S (wN d) d d d d d d (lb d) fun a S=>leafL ⟨d,S⟩
 ·refine fJ [(11,_)] 4 [some 3] fun G a w S=>?_
  exact sLen S (wN d) d Try.underlying25 d d (lb d) fun a S=>leafL ⟨d,S⟩
 ·exact fM 5 none d d d d (.inl d) d d d
 ·refine fJ [(13,_)] 6 [some 5] fun G a w S=>?_
  exact nilCheck_ok (q:=⟨bb0,0,none⟩) S (wN d) d d d (lb d) fun a S=>leafL ⟨d,S⟩
 ·refine fJ [(14,_)] 7 [some 6] fun G a w S=>?_
  exact sField (b:=bb0) (off:=0) 0 0 S (wN d) d d d d d (lb d) fun a S=>leafL ⟨d,S⟩
 ·refine fJ [(15,_)] 8 [some 7] fun G a w S=>?_
  exact sField (b:=bb0) (off:=0) 0 0 S (wN d) d d d d d (lb d) fun a S=>leafL ⟨d,S⟩
 ·refine fJ [(16,_)] 9 [some 8] fun G a w S=>?_
  exact sLoad1 0 (iv p0.g.W) S (wN d) d d d d d d (lb d) fun a S=>leafL ⟨d,S⟩
 ·refine fJ [(12,_),(17,_)] 10 [some 4,some 9] fun G a w S=>?_
  exact sBin _ S (wN d) d d d (bEq _ _ _ _ .i64 (p0.l.length:Int) p0.g.W) d (lb d) fun a S=>leafL ⟨d,S⟩
 refine leafT (bo _ _ ?_)
 rcases iS h with ⟨aW,h⟩ | ⟨aW,h⟩
 rotate_left
 ·refine sCondF S d aW (wp_skip (leafT (bn _ _ ?_)))
  refine sSeq (fun bz aX=>sRegion (sM S fun a S=>?_))
  refine sBin _ S (wN d) d d d (bAdd _ _ _ _ p1 1) d (lb d) fun a S=>sM S fun a S=>?_
  refine nilCheck_ok (q:=⟨bb0,0,none⟩) S (wN d) d d d (lb d) fun a S=>sField (b:=bb0) (off:=0) 3 3 S (wN d) d d d d d (lb d) fun a S=>sLoad1 0 (iv p0.k) S (wN d) d d d d d d (lb d) fun a S=>sMin2 (p:=w64 (p1 + 1)) (q:=p0.k) S (wN d) d d d d (lb d) fun a S=>sM S fun a S=>?_
  refine lT (aX _ _ (wp_block ?_))
  obtain ⟨bA,hl,bp⟩:=bS h
  refine sLoop hl (fun s0 a w=>match s0 with | (af,aJ,aK,aL,aA,ar,aM)=>∃ am,∃ ao,∃ ah,∃ ai,St [] E M9 w0 98 a w [(0,.pointer (some ⟨bb0,0,none⟩)),(1,iv p1),(63,iv (if p0.k < (w64 (p1 + 1)) then p0.k else w64 (p1 + 1))),(64,iv af)] [eBox bb0 68 [iv aJ,iv aK,.slice a2 p0.g.Bits.length a3,iv aL,.slice am aA.length ao,.slice ah ar.length ai,iv aM],eRow (rI .i64) 3 (.slice am aA.length ao) aA] [fRep (rL rB) (.slice a2 p0.g.Bits.length a3) p0.g.Bits,fRep (rLz (rI .i64)) (.slice ah ar.length ai) ar]) ⟨ad_0_1,cp_0_1,ak,al,S.fix [0,1] [0,1] (by decide) d d d⟩ ?_
  clear hl h
  intro s0 a w c0 hI h aZ
  obtain ⟨af,aJ,aK,aL,aA,ar,aM⟩:=s0
  unfold reduce_search_from_s8_l1 at h
  dsimp only at h hI
  obtain ⟨am,ao,ah,ai,S⟩:=hI
  refine sSeq (fun bB b1=>sRegion (sBin _ S (wN d) d d d (bLt _ _ _ _ .i64 af (if p0.k < (w64 (p1 + 1)) then p0.k else w64 (p1 + 1))) d (lb d) fun a S=>lT (b1 _ _ (sSeq (fun bC b3=>?_)))))
  rcases iS h with ⟨aC,h⟩ | ⟨aC,h⟩
  rotate_left
  ·refine sCondF S d aC ?_
   obtain rfl:=tS h
   obtain rfl:=aZ _ d
   have h:=bp
   try dsimp only at h
   obtain rfl:=tS h
   exact wp_exit (xThen (xThen (xHit (sEnd (.tuple #[]) S (rsl0 d ) ⟨(am,ao,(.slice ah ar.length ai)),d,S.mem.sel [0,1] [1] (by decide) d d⟩))))
  refine sCondT S d aC (wp_skip (leafT (b3 _ _ ?_)))
  refine sSeq (fun bD b4=>wp_block ?_)
  refine sSeq (fun bE b5=>sRegion (sM S fun a S=>?_))
  refine sN S fun a S=>?_
  refine lT (b5 _ _ (sSeq (fun bG b8=>sRegion (sM S fun a S=>?_))))
  refine sM S fun a S=>?_
  refine nilCheck_ok (q:=⟨bb0,0,none⟩) S (wN d) d d d (lb d) fun a S=>sField (b:=bb0) (off:=0) 4 4 S (wN d) d d d d d (lb d) fun a S=>sLoad1 0 (.slice am aA.length ao) S (wN d) d d d d d d (lb d) fun a S=>sM S fun a S=>?_
  refine sLit (r:=(rI .i64)) (T:=3) (xs:=([af]:List Int)) [(0,iv af)] 1 [iv af] [iv af] (iv 0) 8 S (wN d) d d Try.underlying25 d (by decide) (by decide) (by kernel_rfl) d (fun E1 w1 hE=>All.cons d (All.nil _ _ _)) d d (lb d) fun a w aO aP S=>?_
  obtain ⟨aH,b9,h⟩:=bS h
  refine sApp (r:=(rI .i64)) (T:=3) (xs:=aA) (ys:=([af]:List Int)) (v:=.slice am aA.length ao) (u:=.slice aO ([af]:List Int).length aP) 2 (iv 0) 8 S (wN d) d Try.underlying25 d d (by decide) d d d (src_R (T:=3) 0 S.mem d) b9 d (lb d) fun a w au av S=>nilCheck_ok (q:=⟨bb0,0,none⟩) S (wN d) d d d (lb d) fun a S=>sField (b:=bb0) (off:=0) 4 4 S (wN d) d d d d d (lb d) fun a S=>sStore (p:=bb0) (off:=4) (T:=68) (vs:=[iv aJ,iv aK,.slice a2 p0.g.Bits.length a3,iv aL,.slice am aA.length ao,.slice ah ar.length ai,iv aM]) (v:=.slice au aH.length av) 2 [.slice au aH.length av] S (wN d) d d d d d d d (by simp) d fun a w S=>lT (b8 _ _ (sSeq (fun bH ba=>sRegion (sM S fun a S=>?_))))
  refine sM S fun a S=>?_
  refine sM S fun a S=>?_
  refine sBin _ S (wN d) d d d (bAdd _ _ _ _ af 1) d (lb d) fun a S=>sMax2 (p:=p1) (q:=w64 (af + 1)) S (wN d) d d d d (lb d) fun a S=>?_
  obtain ⟨a4,bb,h⟩:=bS h
  refine sCall (X:=Option Addr × Nat × Value) (f:=41) (vs:=[.pointer (some ⟨bb0,0,none⟩),iv (if p1 < (w64 (af + 1)) then w64 (af + 1) else p1)]) (val:=fun _=>.tuple #[]) (B':=fun x=>[eBox bb0 68 [iv a4.g.W,iv a4.g.H,.slice a2 p0.g.Bits.length a3,iv a4.k,.slice x.1 a4.l.length x.2.1,x.2.2,iv a4.least],eRow (rI .i64) 3 (.slice x.1 a4.l.length x.2.1) a4.l]) (D':=fun x=>[fRep (rLz (rI .i64)) x.2.2 a4.best]) [eBox bb0 68 [iv aJ,iv aK,.slice a2 p0.g.Bits.length a3,iv aL,.slice au aH.length av,.slice ah ar.length ai,iv aM],eRow (rI .i64) 3 (.slice au aH.length av) aH] [eRow (rI .i64) 3 (.slice aO ([af]:List Int).length aP) ([af]:List Int)] [fRep (rL rB) (.slice a2 p0.g.Bits.length a3) p0.g.Bits,fRep (rLz (rI .i64)) (.slice ah ar.length ai) ar] [0,1,2] [0,1] S (wN d) d callee41 d (by decide) d d (fun E1 w1 S1=>c_reduce_search_from_s9 E1 w1 (reduce_search.mk (api_Grid.mk aJ aK p0.g.Bits) aL aH ar aM) bb0 (.slice a2 p0.g.Bits.length a3) au av (.slice ah ar.length ai) (if p1 < (w64 (af + 1)) then w64 (af + 1) else p1) a4 bb S1) d (lb d) fun xx a w S=>?_
  obtain ⟨a9,aa,bq⟩:=xx
  dsimp only at S
  obtain ⟨⟨aQ,aR,_,rfl,_⟩,_⟩:=S.mem.know (i:=0) (e:=fRep (rLz (rI .i64)) (bq) a4.best) d
  refine lT (ba _ _ ?_)
  obtain ⟨aS,bc,h⟩:=bS h
  refine sDraw (nf:=[11,14]) (W:=[(0,83,.pointer (some ⟨bb0,0,none⟩)),(1,84,.pointer (some ⟨bb0,0,none⟩)),(2,85,.pointer (some ⟨bb0,0,none⟩)),(3,86,.pointer (some ⟨bb0,4,none⟩)),(4,87,.slice a9 a4.l.length aa),(5,88,.pointer (some ⟨bb0,0,none⟩)),(6,89,.pointer (some ⟨bb0,0,none⟩)),(7,90,.pointer (some ⟨bb0,4,none⟩)),(8,91,.slice a9 a4.l.length aa),(9,92,iv (a4.l.length:Int)),(10,93,iv (w64 ((a4.l.length:Int) - 1)))]) d S ?_
  refine node_by (A:=anc_reduce_search_from_s8_2) 15 (by kernel_rfl) (by kernel_rfl) (by kernel_rfl) (by kernel_rfl) (by kernel_rfl) [0,1,2,3,4,5,6,7,8,9,10] (by kernel_rfl) (by decide) (by decide) (fF ?_ (fF ?_ (fF ?_ (fF ?_ (fF ?_ (fF ?_ (fF ?_ (fF ?_ (fF ?_ (fF ?_ (fF ?_ (fN ?_ (fE 11 (fE 11 (aB 14 0 11 (by decide) (trivial)))))))))))))))) [] (fun q hq=>by cases hq) (fun hY=>absurd (hY 11 (by decide)) (by decide))
  ·exact fM 0 none d d d d (.inl d) d d d
  ·exact fM 1 none d d d d (.inl d) d d d
  ·refine fJ [(84,_)] 2 [some 1] fun G a w S=>?_
   exact nilCheck_ok (q:=⟨bb0,0,none⟩) S (wN d) d d d (lb d) fun a S=>leafL ⟨d,S⟩
  ·refine fJ [(85,_)] 3 [some 2] fun G a w S=>?_
   exact sField (b:=bb0) (off:=0) 4 4 S (wN d) d d d d d (lb d) fun a S=>leafL ⟨d,S⟩
  ·refine fJ [(86,_)] 4 [some 3] fun G a w S=>?_
   exact sLoad1 0 (.slice a9 a4.l.length aa) S (wN d) d d d d d d (lb d) fun a S=>leafL ⟨d,S⟩
  ·exact fM 5 none d d d d (.inl d) d d d
  ·refine fJ [(88,_)] 6 [some 5] fun G a w S=>?_
   exact nilCheck_ok (q:=⟨bb0,0,none⟩) S (wN d) d d d (lb d) fun a S=>leafL ⟨d,S⟩
  ·refine fJ [(89,_)] 7 [some 6] fun G a w S=>?_
   exact sField (b:=bb0) (off:=0) 4 4 S (wN d) d d d d d (lb d) fun a S=>leafL ⟨d,S⟩
  ·refine fJ [(90,_)] 8 [some 7] fun G a w S=>?_
   exact sLoad1 0 (.slice a9 a4.l.length aa) S (wN d) d d d d d d (lb d) fun a S=>leafL ⟨d,S⟩
  ·refine fJ [(91,_)] 9 [some 8] fun G a w S=>?_
   exact sLen S (wN d) d Try.underlying25 d d (lb d) fun a S=>leafL ⟨d,S⟩
  ·refine fJ [(92,_)] 10 [some 9] fun G a w S=>?_
   exact sBin _ S (wN d) d d d (bSub _ _ _ _ (a4.l.length:Int) 1) d (lb d) fun a S=>leafL ⟨d,S⟩
  refine ⟨_,[(87,.slice a9 a4.l.length aa),(93,iv (w64 ((a4.l.length:Int) - 1)))],d,(srcs_of [some 4,some 10] d d d),fun G a w S=>?_⟩
  refine sSliceT (r:=(rI .i64)) (T:=3) (ad:=a9) (c:=aa) (xs:=a4.l) (vlo:=none) (vhi:=(some (.int .i64 (w64 ((a4.l.length:Int) - 1))))) (hi':=w64 ((a4.l.length:Int) - 1)) 1 S (wN d) d Try.underlying25 d d d d d (.inr d) (.inl d) bc d (lb d) fun a S=>?_
  refine leafL ⟨d,_,_,.inl ⟨94,(.slice a9 aS.length aa),[(12,95,.pointer (some ⟨bb0,0,none⟩)),(13,96,.pointer (some ⟨bb0,4,none⟩))],d,S,hz_of d,?_⟩⟩
  refine node_by (A:=anc_reduce_search_from_s8_2) 15 (by kernel_rfl) (by kernel_rfl) (by kernel_rfl) (by kernel_rfl) (by kernel_rfl) [12,13,11,0,1,2,3,4,5,6,7,8,9,10] (by kernel_rfl) (by decide) (by decide) (fF ?_ (fD 11 (fD 11 (fD 11 (fD 11 (fD 11 (fD 11 (fD 11 (fD 11 (fD 11 (fD 11 (fY (fF ?_ (fF ?_ (fN ?_ (trivial)))))))))))))))) [] (fun q hq=>by cases hq) (fun hY=>absurd (hY 14 (by decide)) (by decide))
  ·exact fM 3 none d d d d (.inl d) d d d
  ·refine fJ [(83,_)] 0 [some 3] fun G a w S=>?_
   exact nilCheck_ok (q:=⟨bb0,0,none⟩) S (wN d) d d d (lb d) fun a S=>leafL ⟨d,S⟩
  ·refine fJ [(95,_)] 1 [some 0] fun G a w S=>?_
   exact sField (b:=bb0) (off:=0) 4 4 S (wN d) d d d d d (lb d) fun a S=>leafL ⟨d,S⟩
  refine ⟨_,[(94,.slice a9 aS.length aa),(96,.pointer (some ⟨bb0,4,none⟩))],d,(srcs_of [some 2,some 1] d d d),fun G a w S=>?_⟩
  refine sStore (p:=bb0) (off:=4) (T:=68) (vs:=[iv a4.g.W,iv a4.g.H,.slice a2 p0.g.Bits.length a3,iv a4.k,.slice a9 a4.l.length aa,.slice aQ a4.best.length aR,iv a4.least]) (v:=.slice a9 aS.length aa) 1 [.slice a9 aS.length aa] S (wN d) d d d d d d d (by simp) d fun a w S=>leafL ⟨d,_,_,.inr ⟨[],d,S,hz_of d,?_⟩⟩
  refine node_by (A:=anc_reduce_search_from_s8_2) 15 (by kernel_rfl) (by kernel_rfl) (by kernel_rfl) (by kernel_rfl) (by kernel_rfl) [12,13,11,0,1,2,3,4,5,6,7,8,9,10] (by kernel_rfl) (by decide) (by decide) (fD 14 (fD 14 (fD 14 (fD 14 (fD 14 (fD 14 (fD 14 (fD 14 (fD 14 (fD 14 (fD 14 (fY (fD 14 (fD 14 (fY (trivial)))))))))))))))) [(0,.pointer (some ⟨bb0,0,none⟩)),(1,iv p1),(63,iv (if p0.k < (w64 (p1 + 1)) then p0.k else w64 (p1 + 1))),(64,iv af)] (fin_of [none,none,none,none] d (by kernel_rfl) (by kernel_rfl)) (fun _ a w S=>?_)
  refine leafB (leafT (b4 _ _ ?_))
  refine sRegion (sBin _ S (wN d) d d d (bAdd _ _ _ _ af 1) d (lb d) fun a S=>sM S fun a S=>?_)
  exact lT (⟨(w64 (af + 1),a4.g.W,a4.g.H,a4.k,aS,a4.best,a4.least),(Option.some.inj h).symm,⟨a9,aa,aQ,aR,S.fix [0,1] [1,0] (by decide) d d d⟩⟩)
 refine sCondT S d aW ?_
 obtain ⟨br,h,bt⟩:=bS h
 refine sCut (fun a w=>∃ o8,∃ aI,∃ bf,(o8,aI,bf)=br∧∃ aU,∃ ax,∃ ay,∃ az,St [] E M9 w0 98 a w [] [eBox bb0 68 [iv p0.g.W,iv p0.g.H,.slice a2 p0.g.Bits.length a3,iv p0.k,.slice aU o8.length ax,.slice ay aI.length az,iv bf],eRow (rI .i64) 3 (.slice aU o8.length ax) o8] [fRep (rL rB) (.slice a2 p0.g.Bits.length a3) p0.g.Bits,fRep (rLz (rI .i64)) (.slice ay aI.length az) aI]) ?_ (fun a w hI=>?_)
 rotate_left
 ·obtain ⟨o8,aI,bf,rfl,aU,ax,ay,az,S⟩:=hI
  have h:=bt
  try dsimp only at h
  obtain rfl:=tS h
  exact wp_ret (rThen (sRet (.tuple #[]) S (rsl0 d ) ⟨(aU,ax,(.slice ay aI.length az)),d,S.mem.sel [0,1] [1] (by decide) d d⟩))
 obtain ⟨bu,h,bv⟩:=bS h
 refine sCut (fun a w=>∃ aw,∃ aj,(aw,aj)=bu∧∃ a5,∃ a6,St [] E M9 w0 98 a w [(0,.pointer (some ⟨bb0,0,none⟩)),(5,iv aw)] [eBox bb0 68 [iv p0.g.W,iv p0.g.H,.slice a2 p0.g.Bits.length a3,iv p0.k,.slice a5 aj.length a6,.slice ak p0.best.length al,iv p0.least],eRow (rI .i64) 3 (.slice a5 aj.length a6) aj] [fRep (rL rB) (.slice a2 p0.g.Bits.length a3) p0.g.Bits,fRep (rLz (rI .i64)) (.slice ak p0.best.length al) p0.best]) ?_ (fun a w hI=>?_)
 rotate_left
 ·obtain ⟨aw,aj,rfl,a5,a6,S⟩:=hI
  have h:=bv
  try dsimp only at h
  obtain ⟨bw,h,bx⟩:=bS h
  refine sCut (fun a w=>∃ bg,bg=bw∧St [] E M9 w0 98 a w [(0,.pointer (some ⟨bb0,0,none⟩)),(5,iv aw),(44,.bool bg)] [eBox bb0 68 [iv p0.g.W,iv p0.g.H,.slice a2 p0.g.Bits.length a3,iv p0.k,.slice a5 aj.length a6,.slice ak p0.best.length al,iv p0.least],eRow (rI .i64) 3 (.slice a5 aj.length a6) aj] [fRep (rL rB) (.slice a2 p0.g.Bits.length a3) p0.g.Bits,fRep (rLz (rI .i64)) (.slice ak p0.best.length al) p0.best]) ?_ (fun a w hI=>?_)
  ·refine sRegion (sM S fun a S=>?_)
   refine nilCheck_ok (q:=⟨bb0,0,none⟩) S (wN d) d d d (lb d) fun a S=>sField (b:=bb0) (off:=0) 5 5 S (wN d) d d d d d (lb d) fun a S=>sLoad1 0 (.slice ak p0.best.length al) S (wN d) d d d d d d (lb d) fun a S=>sBin _ S (wN d) d d d (bEqNilZ _ _ _ _ Try.underlying25 ak (p0.best.length) (al) (rLz_is (S.mem.know (i:=1) (e:=fRep (rLz (rI .i64)) (.slice ak p0.best.length al) p0.best) d))) d (lb d) fun a S=>sM S fun a S=>?_
   rcases iS h with ⟨ae,h⟩ | ⟨ae,h⟩
   ·refine sSkN 6 5 false 37 S d d ae d fun a S=>sPickT (.bool true) S (wN d) d d ae d d (lb d) fun a S=>?_
    exact lT (⟨true,Option.some.inj h,S.fix [0,1] [0,1] (by decide) d d d⟩)
   refine sMove (iv aw) S (wG 5 false 37 d d d ae) (.inl d) d d (lb d) fun a S=>sMove (.pointer (some ⟨bb0,0,none⟩)) S (wG 5 false 37 d d d ae) (.inl d) d d (lb d) fun a S=>nilCheck_ok (q:=⟨bb0,0,none⟩) S (wG 5 false 37 d d d ae) d d d (lb d) fun a S=>sField (b:=bb0) (off:=0) 6 6 S (wG 5 false 37 d d d ae) d d d d d (lb d) fun a S=>sLoad1 0 (iv p0.least) S (wG 5 false 37 d d d ae) d d d d d d (lb d) fun a S=>sBin _ S (wG 5 false 37 d d d ae) d d d (bLt _ _ _ _ .i64 aw p0.least) d (lb d) fun a S=>sPickF (.bool (decide (aw < p0.least))) S (wN d) d d ae d d (lb d) fun a S=>?_
   exact lT (⟨decide (aw < p0.least),Option.some.inj h,S.fix [0,1] [0,1] (by decide) d d d⟩)
  obtain ⟨bg,rfl,S⟩:=hI
  have h:=bx
  try dsimp only at h
  rcases iS h with ⟨aG,h⟩ | ⟨aG,h⟩
  rotate_left
  ·refine sCondF S d aG ?_
   exact wp_skip (leafT (⟨aj,p0.best,p0.least,Option.some.inj h,a5,a6,ak,al,S.fix [0,1] [0,1] (by decide) d d d⟩))
  refine sCondT S d aG (sRegion (sM S fun a S=>?_))
  refine sM S fun a S=>?_
  refine sM S fun a S=>?_
  refine nilCheck_ok (q:=⟨bb0,0,none⟩) S (wN d) d d d (lb d) fun a S=>sField (b:=bb0) (off:=0) 4 4 S (wN d) d d d d d (lb d) fun a S=>sLoad1 0 (.slice a5 aj.length a6) S (wN d) d d d d d d (lb d) fun a S=>?_
  obtain ⟨ag,bh,h⟩:=bS h
  refine sCall (X:=Option Addr × Nat) (f:=49) (vs:=[.slice a5 aj.length a6]) (val:=fun x=>.slice x.1 ag.1.length x.2) (B':=fun x=>[eRow (rI .i64) 3 (.slice x.1 ag.1.length x.2) ag.1,eRow (rI .i64) 3 (.slice a5 aj.length a6) ag.2]) (D':=fun _=>[]) [eRow (rI .i64) 3 (.slice a5 aj.length a6) aj] [eBox bb0 68 [iv p0.g.W,iv p0.g.H,.slice a2 p0.g.Bits.length a3,iv p0.k,.slice a5 aj.length a6,.slice ak p0.best.length al,iv p0.least]] [] [1,0] [] S (wN d) d callee49 d (by decide) d d (fun E1 w1 S1=>c_slices_Clone___int_int__s1 E1 w1 aj a5 a6 ag bh S1) d (lb d) fun xx a w S=>?_
  obtain ⟨ap,aq⟩:=xx
  dsimp only at S
  have bi:=row_v (S.mem.hold (i:=1) (e:=eRow (rI .i64) 3 (.slice a5 aj.length a6) ag.2) d)
  rw [bi] at S
  refine sM S fun a S=>?_
  refine nilCheck_ok (q:=⟨bb0,0,none⟩) S (wN d) d d d (lb d) fun a S=>sField (b:=bb0) (off:=0) 5 5 S (wN d) d d d d d (lb d) fun a S=>?_
  have S:=S.shutR (r:=(rI .i64)) (T:=3) (v:=.slice ap ag.1.length aq) (xs:=ag.1) 0 d
  obtain ⟨bI,bj,h⟩:=bS h
  have S:=S.learn (fRep (rLz (rI .i64)) (.slice ap ag.1.length aq) ag.1) (rLz_of (S.mem.know (i:=0) (e:=fRep (rL (rI .i64)) (.slice ap ag.1.length aq) ag.1) d) bj)
  refine sStore (p:=bb0) (off:=5) (T:=68) (vs:=[iv p0.g.W,iv p0.g.H,.slice a2 p0.g.Bits.length a3,iv p0.k,.slice a5 ag.2.length a6,.slice ak p0.best.length al,iv p0.least]) (v:=.slice ap ag.1.length aq) 1 [.slice ap ag.1.length aq] S (wN d) d d d d d d d (by simp) d fun a w S=>nilCheck_ok (q:=⟨bb0,0,none⟩) S (wN d) d d d (lb d) fun a S=>sField (b:=bb0) (off:=0) 6 6 S (wN d) d d d d d (lb d) fun a S=>sStore (p:=bb0) (off:=6) (T:=68) (vs:=[iv p0.g.W,iv p0.g.H,.slice a2 p0.g.Bits.length a3,iv p0.k,.slice a5 ag.2.length a6,.slice ap ag.1.length aq,iv p0.least]) (v:=iv aw) 0 [iv aw] S (wN d) d d d d d d d (by simp) d fun a w S=>?_
  exact lT (⟨ag.2,ag.1,aw,Option.some.inj h,a5,a6,ap,aq,S.fix [0,1] [2,0] (by decide) d d d⟩)
 obtain ⟨a0,aT,h⟩:=bS h
 refine sDraw (nf:=[8,13,14]) (W:=[(0,20,.pointer (some ⟨bb0,0,none⟩)),(1,21,.pointer (some ⟨bb0,0,none⟩)),(2,22,.pointer (some ⟨bb0,0,none⟩)),(3,23,.agg #[iv p0.g.W,iv p0.g.H,.slice a2 p0.g.Bits.length a3]),(4,24,.pointer (some ⟨bb0,0,none⟩)),(5,25,.pointer (some ⟨bb0,0,none⟩)),(6,26,.pointer (some ⟨bb0,4,none⟩)),(7,27,.slice ad_0_1 p0.l.length cp_0_1)]) d S ?_
 refine node_by (A:=anc_reduce_search_from_s8_1) 17 (by kernel_rfl) (by kernel_rfl) (by kernel_rfl) (by kernel_rfl) (by kernel_rfl) [0,1,2,3,4,5,6,7] (by kernel_rfl) (by decide) (by decide) (fF ?_ (fF ?_ (fF ?_ (fF ?_ (fF ?_ (fF ?_ (fF ?_ (fF ?_ (fN ?_ (fE 8 (fE 8 (fE 8 (fE 8 (fN ?_ (aB 14 2 8 (by decide) (fE 8 (fE 8 (trivial)))))))))))))))))) [] (fun q hq=>by cases hq) (fun hY=>absurd (hY 8 (by decide)) (by decide))
 ·exact fM 0 none d d d d (.inl d) d d d
 ·refine fJ [(20,_)] 1 [some 0] fun G a w S=>?_
  exact nilCheck_ok (q:=⟨bb0,0,none⟩) S (wN d) d d d (lb d) fun a S=>leafL ⟨d,S⟩
 ·refine fJ [(21,_)] 2 [some 1] fun G a w S=>?_
  exact sField (b:=bb0) (off:=0) 0 0 S (wN d) d d d d d (lb d) fun a S=>leafL ⟨d,S⟩
 ·refine fJ [(22,_)] 3 [some 2] fun G a w S=>?_
  exact sLoadN (p:=bb0) (off:=0) (T:=68) (vs:=[iv p0.g.W,iv p0.g.H,.slice a2 p0.g.Bits.length a3,iv p0.k,.slice ad_0_1 p0.l.length cp_0_1,.slice ak p0.best.length al,iv p0.least]) 0 [iv p0.g.W,iv p0.g.H,.slice a2 p0.g.Bits.length a3] S (wN d) d d d d d d d (lb d) fun a S=>leafL ⟨d,S⟩
 ·exact fM 4 none d d d d (.inl d) d d d
 ·refine fJ [(24,_)] 5 [some 4] fun G a w S=>?_
  exact nilCheck_ok (q:=⟨bb0,0,none⟩) S (wN d) d d d (lb d) fun a S=>leafL ⟨d,S⟩
 ·refine fJ [(25,_)] 6 [some 5] fun G a w S=>?_
  exact sField (b:=bb0) (off:=0) 4 4 S (wN d) d d d d d (lb d) fun a S=>leafL ⟨d,S⟩
 ·refine fJ [(26,_)] 7 [some 6] fun G a w S=>?_
  exact sLoad1 0 (.slice ad_0_1 p0.l.length cp_0_1) S (wN d) d d d d d d (lb d) fun a S=>leafL ⟨d,S⟩
 ·refine ⟨_,[(23,.agg #[iv p0.g.W,iv p0.g.H,.slice a2 p0.g.Bits.length a3]),(27,.slice ad_0_1 p0.l.length cp_0_1)],d,(srcs_of [some 3,some 7] d d d),fun G a w S=>?_⟩
  have S:=S.learn (fRep r_api_Grid (.agg #[iv p0.g.W,iv p0.g.H,.slice a2 p0.g.Bits.length a3]) p0.g) ⟨_,d,S.mem.know (i:=0) (e:=fRep (rL rB) (.slice a2 p0.g.Bits.length a3) p0.g.Bits) d⟩
  refine sCall (X:=Option Addr × Nat) (f:=12) (vs:=[.agg #[iv p0.g.W,iv p0.g.H,.slice a2 p0.g.Bits.length a3],.slice ad_0_1 p0.l.length cp_0_1]) (val:=fun x=>.tuple #[.agg #[iv a0.1.W,iv a0.1.H,.slice x.1 a0.1.Bits.length x.2],iv a0.2.1,iv a0.2.2.1]) (B':=fun x=>[eRow rB 4 (.slice x.1 a0.1.Bits.length x.2) a0.1.Bits,eRow (rI .i64) 3 (.slice ad_0_1 p0.l.length cp_0_1) a0.2.2.2]) (D':=fun _=>[]) [eRow (rI .i64) 3 (.slice ad_0_1 p0.l.length cp_0_1) p0.l] [eBox bb0 68 [iv p0.g.W,iv p0.g.H,.slice a2 p0.g.Bits.length a3,iv p0.k,.slice ad_0_1 p0.l.length cp_0_1,.slice ak p0.best.length al,iv p0.least]] [fRep r_api_Grid (.agg #[iv p0.g.W,iv p0.g.H,.slice a2 p0.g.Bits.length a3]) p0.g] [1,0] [0] S (wN d) d callee12 d (by decide) d d (fun E1 w1 S1=>c_reduce_Change_s1 E1 w1 p0.g (.agg #[iv p0.g.W,iv p0.g.H,.slice a2 p0.g.Bits.length a3]) p0.l ad_0_1 cp_0_1 a0 aT S1) d (lb d) fun xx a w S=>?_
  obtain ⟨a7,a8⟩:=xx
  dsimp only at S
  refine leafL ⟨d,_,_,.inl ⟨28,(.tuple #[.agg #[iv a0.1.W,iv a0.1.H,.slice a7 a0.1.Bits.length a8],iv a0.2.1,iv a0.2.2.1]),[(9,19,.tuple #[.agg #[iv a0.1.W,iv a0.1.H,.slice a7 a0.1.Bits.length a8],iv a0.2.1,iv a0.2.2.1]),(10,29,.agg #[iv a0.1.W,iv a0.1.H,.slice a7 a0.1.Bits.length a8]),(11,30,iv a0.2.1),(12,31,iv a0.2.2.1)],d,S,hz_of d,?_⟩⟩
  refine node_by (A:=anc_reduce_search_from_s8_1) 17 (by kernel_rfl) (by kernel_rfl) (by kernel_rfl) (by kernel_rfl) (by kernel_rfl) [9,10,11,12,8,0,1,2,3,4,5,6,7] (by kernel_rfl) (by decide) (by decide) (fD 8 (fD 8 (fD 8 (fD 8 (fD 8 (fD 8 (fD 8 (fD 8 (fY (fF ?_ (fF ?_ (fF ?_ (fF ?_ (fN ?_ (aB 14 2 13 (by decide) (fE 13 (fE 13 (trivial)))))))))))))))))) [] (fun q hq=>by cases hq) (fun hY=>absurd (hY 13 (by decide)) (by decide))
  ·exact fM 0 (some 4) d d d d (.inl d) d d d
  ·refine fJ [(19,_)] 1 [some 0] fun G a w S=>?_
   exact sExtract (vs:=[.agg #[iv a0.1.W,iv a0.1.H,.slice a7 a0.1.Bits.length a8],iv a0.2.1,iv a0.2.2.1]) (.agg #[iv a0.1.W,iv a0.1.H,.slice a7 a0.1.Bits.length a8]) S (wN d) d d d d (lb d) fun a S=>leafL ⟨d,S⟩
  ·refine fJ [(19,_)] 2 [some 0] fun G a w S=>?_
   exact sExtract (vs:=[.agg #[iv a0.1.W,iv a0.1.H,.slice a7 a0.1.Bits.length a8],iv a0.2.1,iv a0.2.2.1]) (iv a0.2.1) S (wN d) d d d d (lb d) fun a S=>leafL ⟨d,S⟩
  ·refine fJ [(19,_)] 3 [some 0] fun G a w S=>?_
   exact sExtract (vs:=[.agg #[iv a0.1.W,iv a0.1.H,.slice a7 a0.1.Bits.length a8],iv a0.2.1,iv a0.2.2.1]) (iv a0.2.2.1) S (wN d) d d d d (lb d) fun a S=>leafL ⟨d,S⟩
  refine ⟨_,[],d,(srcs_of [] d d d),fun G a w S=>?_⟩
  refine sAlloc (.agg #[iv 0,iv 0,.slice none 0 0]) S (wN d) d d [iv 0,iv 0,.slice none 0 0] d d (lb d) fun a bk w S=>leafL ⟨d,_,_,.inl ⟨4,(.pointer (some ⟨bk,0,none⟩)),[],d,S,hz_of d,?_⟩⟩
  refine node_by (A:=anc_reduce_search_from_s8_1) 17 (by kernel_rfl) (by kernel_rfl) (by kernel_rfl) (by kernel_rfl) (by kernel_rfl) [13,9,10,11,12,8,0,1,2,3,4,5,6,7] (by kernel_rfl) (by decide) (by decide) (fD 8 (fD 8 (fD 8 (fD 8 (fD 8 (fD 8 (fD 8 (fD 8 (fY (fF ?_ (fF ?_ (fF ?_ (fF ?_ (fY (fN ?_ (fE 14 (fE 14 (trivial)))))))))))))))))) [] (fun q hq=>by cases hq) (fun hY=>absurd (hY 14 (by decide)) (by decide))
  ·exact fM 1 (some 5) d d d d (.inl d) d d d
  ·refine fJ [(19,_)] 2 [some 1] fun G a w S=>?_
   exact sExtract (vs:=[.agg #[iv a0.1.W,iv a0.1.H,.slice a7 a0.1.Bits.length a8],iv a0.2.1,iv a0.2.2.1]) (.agg #[iv a0.1.W,iv a0.1.H,.slice a7 a0.1.Bits.length a8]) S (wN d) d d d d (lb d) fun a S=>leafL ⟨d,S⟩
  ·refine fJ [(19,_)] 3 [some 1] fun G a w S=>?_
   exact sExtract (vs:=[.agg #[iv a0.1.W,iv a0.1.H,.slice a7 a0.1.Bits.length a8],iv a0.2.1,iv a0.2.2.1]) (iv a0.2.1) S (wN d) d d d d (lb d) fun a S=>leafL ⟨d,S⟩
  ·refine fJ [(19,_)] 4 [some 1] fun G a w S=>?_
   exact sExtract (vs:=[.agg #[iv a0.1.W,iv a0.1.H,.slice a7 a0.1.Bits.length a8],iv a0.2.1,iv a0.2.2.1]) (iv a0.2.2.1) S (wN d) d d d d (lb d) fun a S=>leafL ⟨d,S⟩
  refine ⟨_,[(4,.pointer (some ⟨bk,0,none⟩)),(29,.agg #[iv a0.1.W,iv a0.1.H,.slice a7 a0.1.Bits.length a8])],d,(srcs_of [some 0,some 2] d d d),fun G a w S=>?_⟩
  refine sStore (p:=bk) (off:=0) (T:=24) (vs:=[iv 0,iv 0,.slice none 0 0]) (v:=.agg #[iv a0.1.W,iv a0.1.H,.slice a7 a0.1.Bits.length a8]) 0 [iv a0.1.W,iv a0.1.H,.slice a7 a0.1.Bits.length a8] S (wN d) d d d d d d d (by simp) d fun a w S=>leafL ⟨d,_,_,.inr ⟨[(15,5,iv a0.2.1),(16,6,iv a0.2.2.1)],d,S,hz_of d,?_⟩⟩
  refine node_by (A:=anc_reduce_search_from_s8_1) 17 (by kernel_rfl) (by kernel_rfl) (by kernel_rfl) (by kernel_rfl) (by kernel_rfl) [15,16,13,9,10,11,12,8,0,1,2,3,4,5,6,7] (by kernel_rfl) (by decide) (by decide) (fD 14 (fD 14 (fD 14 (fD 14 (fD 14 (fD 14 (fD 14 (fD 14 (fY (fD 14 (fD 14 (fF ?_ (fF ?_ (fY (fY (fF ?_ (fF ?_ (trivial)))))))))))))))))) [(0,.pointer (some ⟨bb0,0,none⟩)),(5,iv a0.2.1)] (fin_of [none,some 0] d (by kernel_rfl) (by kernel_rfl)) (fun _ a w S=>?_)
  ·refine fJ [(19,_)] 5 [some 3] fun G a w S=>?_
   exact sExtract (vs:=[.agg #[iv a0.1.W,iv a0.1.H,.slice a7 a0.1.Bits.length a8],iv a0.2.1,iv a0.2.2.1]) (iv a0.2.1) S (wN d) d d d d (lb d) fun a S=>leafL ⟨d,S⟩
  ·refine fJ [(19,_)] 6 [some 3] fun G a w S=>?_
   exact sExtract (vs:=[.agg #[iv a0.1.W,iv a0.1.H,.slice a7 a0.1.Bits.length a8],iv a0.2.1,iv a0.2.2.1]) (iv a0.2.2.1) S (wN d) d d d d (lb d) fun a S=>leafL ⟨d,S⟩
  ·exact fM 0 (some 5) d d d d (.inr d) d d d
  ·exact fM 1 (some 6) d d d d (.inr d) d d d
  have bl:=row_v (S.mem.hold (i:=2) (e:=eRow (rI .i64) 3 (.slice ad_0_1 p0.l.length cp_0_1) a0.2.2.2) d)
  rw [bl] at S
  exact leafT (⟨a0.2.1,a0.2.2.2,Option.some.inj h,ad_0_1,cp_0_1,S.fix [3,2] [1,2] (by decide) d d d⟩)
 refine ⟨_,[],d,(srcs_of [] d d d),fun G a w S=>?_⟩
 refine sAlloc (.agg #[iv 0,iv 0,.slice none 0 0]) S (wN d) d d [iv 0,iv 0,.slice none 0 0] d d (lb d) fun a aV w S=>leafL ⟨d,_,_,.inl ⟨4,(.pointer (some ⟨aV,0,none⟩)),[],d,S,hz_of d,?_⟩⟩
 refine node_by (A:=anc_reduce_search_from_s8_1) 17 (by kernel_rfl) (by kernel_rfl) (by kernel_rfl) (by kernel_rfl) (by kernel_rfl) [13,0,1,2,3,4,5,6,7] (by kernel_rfl) (by decide) (by decide) (fF ?_ (fF ?_ (fF ?_ (fF ?_ (fF ?_ (fF ?_ (fF ?_ (fF ?_ (fN ?_ (fE 8 (fE 8 (fE 8 (fE 8 (fY (aB 14 2 8 (by decide) (fE 8 (fE 8 (trivial)))))))))))))))))) [] (fun q hq=>by cases hq) (fun hY=>absurd (hY 8 (by decide)) (by decide))
 ·exact fM 1 none d d d d (.inl d) d d d
 ·refine fJ [(20,_)] 2 [some 1] fun G a w S=>?_
  exact nilCheck_ok (q:=⟨bb0,0,none⟩) S (wN d) d d d (lb d) fun a S=>leafL ⟨d,S⟩
 ·refine fJ [(21,_)] 3 [some 2] fun G a w S=>?_
  exact sField (b:=bb0) (off:=0) 0 0 S (wN d) d d d d d (lb d) fun a S=>leafL ⟨d,S⟩
 ·refine fJ [(22,_)] 4 [some 3] fun G a w S=>?_
  exact sLoadN (p:=bb0) (off:=0) (T:=68) (vs:=[iv p0.g.W,iv p0.g.H,.slice a2 p0.g.Bits.length a3,iv p0.k,.slice ad_0_1 p0.l.length cp_0_1,.slice ak p0.best.length al,iv p0.least]) 1 [iv p0.g.W,iv p0.g.H,.slice a2 p0.g.Bits.length a3] S (wN d) d d d d d d d (lb d) fun a S=>leafL ⟨d,S⟩
 ·exact fM 5 none d d d d (.inl d) d d d
 ·refine fJ [(24,_)] 6 [some 5] fun G a w S=>?_
  exact nilCheck_ok (q:=⟨bb0,0,none⟩) S (wN d) d d d (lb d) fun a S=>leafL ⟨d,S⟩
 ·refine fJ [(25,_)] 7 [some 6] fun G a w S=>?_
  exact sField (b:=bb0) (off:=0) 4 4 S (wN d) d d d d d (lb d) fun a S=>leafL ⟨d,S⟩
 ·refine fJ [(26,_)] 8 [some 7] fun G a w S=>?_
  exact sLoad1 1 (.slice ad_0_1 p0.l.length cp_0_1) S (wN d) d d d d d d (lb d) fun a S=>leafL ⟨d,S⟩
 refine ⟨_,[(23,.agg #[iv p0.g.W,iv p0.g.H,.slice a2 p0.g.Bits.length a3]),(27,.slice ad_0_1 p0.l.length cp_0_1)],d,(srcs_of [some 4,some 8] d d d),fun G a w S=>?_⟩
 have S:=S.learn (fRep r_api_Grid (.agg #[iv p0.g.W,iv p0.g.H,.slice a2 p0.g.Bits.length a3]) p0.g) ⟨_,d,S.mem.know (i:=0) (e:=fRep (rL rB) (.slice a2 p0.g.Bits.length a3) p0.g.Bits) d⟩
 refine sCall (X:=Option Addr × Nat) (f:=12) (vs:=[.agg #[iv p0.g.W,iv p0.g.H,.slice a2 p0.g.Bits.length a3],.slice ad_0_1 p0.l.length cp_0_1]) (val:=fun x=>.tuple #[.agg #[iv a0.1.W,iv a0.1.H,.slice x.1 a0.1.Bits.length x.2],iv a0.2.1,iv a0.2.2.1]) (B':=fun x=>[eRow rB 4 (.slice x.1 a0.1.Bits.length x.2) a0.1.Bits,eRow (rI .i64) 3 (.slice ad_0_1 p0.l.length cp_0_1) a0.2.2.2]) (D':=fun _=>[]) [eRow (rI .i64) 3 (.slice ad_0_1 p0.l.length cp_0_1) p0.l] [eBox aV 24 [iv 0,iv 0,.slice none 0 0],eBox bb0 68 [iv p0.g.W,iv p0.g.H,.slice a2 p0.g.Bits.length a3,iv p0.k,.slice ad_0_1 p0.l.length cp_0_1,.slice ak p0.best.length al,iv p0.least]] [fRep r_api_Grid (.agg #[iv p0.g.W,iv p0.g.H,.slice a2 p0.g.Bits.length a3]) p0.g] [2,0,1] [0] S (wN d) d callee12 d (by decide) d d (fun E1 w1 S1=>c_reduce_Change_s1 E1 w1 p0.g (.agg #[iv p0.g.W,iv p0.g.H,.slice a2 p0.g.Bits.length a3]) p0.l ad_0_1 cp_0_1 a0 aT S1) d (lb d) fun xx a w S=>?_
 obtain ⟨ab,ac⟩:=xx
 dsimp only at S
 refine leafL ⟨d,_,_,.inl ⟨28,(.tuple #[.agg #[iv a0.1.W,iv a0.1.H,.slice ab a0.1.Bits.length ac],iv a0.2.1,iv a0.2.2.1]),[(9,19,.tuple #[.agg #[iv a0.1.W,iv a0.1.H,.slice ab a0.1.Bits.length ac],iv a0.2.1,iv a0.2.2.1]),(10,29,.agg #[iv a0.1.W,iv a0.1.H,.slice ab a0.1.Bits.length ac]),(11,30,iv a0.2.1),(12,31,iv a0.2.2.1)],d,S,hz_of d,?_⟩⟩
 refine node_by (A:=anc_reduce_search_from_s8_1) 17 (by kernel_rfl) (by kernel_rfl) (by kernel_rfl) (by kernel_rfl) (by kernel_rfl) [9,10,11,12,8,13,0,1,2,3,4,5,6,7] (by kernel_rfl) (by decide) (by decide) (fD 8 (fD 8 (fD 8 (fD 8 (fD 8 (fD 8 (fD 8 (fD 8 (fY (fF ?_ (fF ?_ (fF ?_ (fF ?_ (fY (fN ?_ (fE 14 (fE 14 (trivial)))))))))))))))))) [] (fun q hq=>by cases hq) (fun hY=>absurd (hY 14 (by decide)) (by decide))
 ·exact fM 0 (some 4) d d d d (.inl d) d d d
 ·refine fJ [(19,_)] 1 [some 0] fun G a w S=>?_
  exact sExtract (vs:=[.agg #[iv a0.1.W,iv a0.1.H,.slice ab a0.1.Bits.length ac],iv a0.2.1,iv a0.2.2.1]) (.agg #[iv a0.1.W,iv a0.1.H,.slice ab a0.1.Bits.length ac]) S (wN d) d d d d (lb d) fun a S=>leafL ⟨d,S⟩
 ·refine fJ [(19,_)] 2 [some 0] fun G a w S=>?_
  exact sExtract (vs:=[.agg #[iv a0.1.W,iv a0.1.H,.slice ab a0.1.Bits.length ac],iv a0.2.1,iv a0.2.2.1]) (iv a0.2.1) S (wN d) d d d d (lb d) fun a S=>leafL ⟨d,S⟩
 ·refine fJ [(19,_)] 3 [some 0] fun G a w S=>?_
  exact sExtract (vs:=[.agg #[iv a0.1.W,iv a0.1.H,.slice ab a0.1.Bits.length ac],iv a0.2.1,iv a0.2.2.1]) (iv a0.2.2.1) S (wN d) d d d d (lb d) fun a S=>leafL ⟨d,S⟩
 refine ⟨_,[(4,.pointer (some ⟨aV,0,none⟩)),(29,.agg #[iv a0.1.W,iv a0.1.H,.slice ab a0.1.Bits.length ac])],d,(srcs_of [some 5,some 1] d d d),fun G a w S=>?_⟩
 refine sStore (p:=aV) (off:=0) (T:=24) (vs:=[iv 0,iv 0,.slice none 0 0]) (v:=.agg #[iv a0.1.W,iv a0.1.H,.slice ab a0.1.Bits.length ac]) 2 [iv a0.1.W,iv a0.1.H,.slice ab a0.1.Bits.length ac] S (wN d) d d d d d d d (by simp) d fun a w S=>leafL ⟨d,_,_,.inr ⟨[(15,5,iv a0.2.1),(16,6,iv a0.2.2.1)],d,S,hz_of d,?_⟩⟩
 refine node_by (A:=anc_reduce_search_from_s8_1) 17 (by kernel_rfl) (by kernel_rfl) (by kernel_rfl) (by kernel_rfl) (by kernel_rfl) [15,16,9,10,11,12,8,13,0,1,2,3,4,5,6,7] (by kernel_rfl) (by decide) (by decide) (fD 14 (fD 14 (fD 14 (fD 14 (fD 14 (fD 14 (fD 14 (fD 14 (fY (fD 14 (fD 14 (fF ?_ (fF ?_ (fY (fY (fF ?_ (fF ?_ (trivial)))))))))))))))))) [(0,.pointer (some ⟨bb0,0,none⟩)),(5,iv a0.2.1)] (fin_of [none,some 0] d (by kernel_rfl) (by kernel_rfl)) (fun _ a w S=>?_)
 ·refine fJ [(19,_)] 4 [some 2] fun G a w S=>?_
  exact sExtract (vs:=[.agg #[iv a0.1.W,iv a0.1.H,.slice ab a0.1.Bits.length ac],iv a0.2.1,iv a0.2.2.1]) (iv a0.2.1) S (wN d) d d d d (lb d) fun a S=>leafL ⟨d,S⟩
 ·refine fJ [(19,_)] 5 [some 2] fun G a w S=>?_
  exact sExtract (vs:=[.agg #[iv a0.1.W,iv a0.1.H,.slice ab a0.1.Bits.length ac],iv a0.2.1,iv a0.2.2.1]) (iv a0.2.2.1) S (wN d) d d d d (lb d) fun a S=>leafL ⟨d,S⟩
 ·exact fM 0 (some 4) d d d d (.inr d) d d d
 ·exact fM 1 (some 5) d d d d (.inr d) d d d
 have bm:=row_v (S.mem.hold (i:=2) (e:=eRow (rI .i64) 3 (.slice ad_0_1 p0.l.length cp_0_1) a0.2.2.2) d)
 rw [bm] at S
 exact leafT (⟨a0.2.1,a0.2.2.2,Option.some.inj h,ad_0_1,cp_0_1,S.fix [3,2] [1,2] (by decide) d d d⟩)
def anc_reduce_search_from_s7_0:List (List Nat):=[[],[0],[0,1],[0,1,2],[0,1,2,3],[],[5],[5,6],[5,6,7],[5,6,7,8],[0,1,2,3,4,5,6,7,8,9]]
def anc_reduce_search_from_s7_1:List (List Nat):=[[],[0],[0,1],[0,1,2],[],[4],[4,5],[4,5,6],[0,1,2,3,4,5,6,7],[0,1,2,3,4,5,6,7,8],[0,1,2,3,4,5,6,7,8,9],[0,1,2,3,4,5,6,7,8,9],[0,1,2,3,4,5,6,7,8,9],[],[0,1,2,3,4,5,6,7,8,9,10,13],[0,1,2,3,4,5,6,7,8,9,10,11,13,14],[0,1,2,3,4,5,6,7,8,9,10,11,12,13,14,15]]
def anc_reduce_search_from_s7_2:List (List Nat):=[[],[],[1],[1,2],[1,2,3],[],[5],[5,6],[5,6,7],[5,6,7,8],[5,6,7,8,9],[1,2,3,4,5,6,7,8,9,10],[0,1,2,3,4,5,6,7,8,9,10,11],[0,1,2,3,4,5,6,7,8,9,10,11,12],[0,1,2,3,4,5,6,7,8,9,10,11,12,13]]
noncomputable def reduce_search_from_s7_l1 (p0:reduce_search) (p1:Int):(Int × Int × Int × Int × List Int × List Int × Int)→Option ((Int × Int × Int × Int × List Int × List Int × Int) ⊕ (Int × Int × Int × List Int × List Int × Int)):=fun s0=>match s0 with
 | (a2,a3,a4,a5,a6,a7,a8)=>
  if decide (a2 < (if p0.k < (w64 (p1 + 1)) then p0.k else w64 (p1 + 1))) then
   (appO a6 ([a2]:List Int)).bind fun a9=>
   (F_reduce_search_from_s8 (reduce_search.mk (api_Grid.mk a3 a4 p0.g.Bits) a5 a9 a7 a8) (if p1 < (w64 (a2 + 1)) then w64 (a2 + 1) else p1)).bind fun a0=>
   (sliceO a0.l 0 (w64 ((a0.l.length:Int) - 1))).bind fun aa=>
   some (.inl (w64 (a2 + 1),a0.g.W,a0.g.H,a0.k,aa,a0.best,a0.least))
  else
   some (.inr (a3,a4,a5,a6,a7,a8))
noncomputable def F_reduce_search_from_s7 (p0:reduce_search) (p1:Int):Option reduce_search:=
 if (p0.l.length:Int) == p0.g.W then
  Option.bind (α:=(List Int × List Int × Int)) (
   Option.bind (α:=(Int × List Int)) (
    (F_reduce_Change_s1 p0.g p0.l).bind fun a2=>
    some (a2.2.1,a2.2.2.2)) fun (a3,a4)=>
   Option.bind (α:=Bool) (
    if p0.best.isEmpty then
     some true
    else
     some (decide (a3 < p0.least))) fun a5=>
   if a5 then
    (F_slices_Clone___int_int__s1 a4).bind fun a0=>
    (neO a0.1).bind fun af=>
    some (a0.2,a0.1,a3)
   else
    some (a4,p0.best,p0.least)) fun (o8,a6,a7)=>
  some (reduce_search.mk p0.g p0.k o8 a6 a7)
 else
  (whileO (reduce_search_from_s7_l1 p0 p1) (0,p0.g.W,p0.g.H,p0.k,p0.l,p0.best,p0.least)).bind fun (a8,a9,aa,ab,ac,ae)=>
   some (reduce_search.mk (api_Grid.mk a8 a9 p0.g.Bits) aa ab ac ae)
theorem c_reduce_search_from_s7 (E:Nat→Prop) (w0:World) (p0:reduce_search) (bb0:Nat) (u_0_0:Value) (ad_0_1:Option Addr) (cp_0_1:Nat) (u_0_2:Value) (p1:Int) (r:reduce_search) (h:F_reduce_search_from_s7 p0 p1=some r) (S:St0 E (keysL [eBox bb0 68 [iv p0.g.W,iv p0.g.H,u_0_0,iv p0.k,.slice ad_0_1 p0.l.length cp_0_1,u_0_2,iv p0.least],eRow (rI .i64) 3 (.slice ad_0_1 p0.l.length cp_0_1) p0.l]) w0 w0 [eBox bb0 68 [iv p0.g.W,iv p0.g.H,u_0_0,iv p0.k,.slice ad_0_1 p0.l.length cp_0_1,u_0_2,iv p0.least],eRow (rI .i64) 3 (.slice ad_0_1 p0.l.length cp_0_1) p0.l] [fRep (rL rB) (u_0_0) p0.g.Bits,fRep (rLz (rI .i64)) (u_0_2) p0.best]) :
 Calls Try.prog 41 #[.pointer (some ⟨bb0,0,none⟩),iv p1] w0 (Ret (X:=Option Addr × Nat × Value) E (keysL [eBox bb0 68 [iv p0.g.W,iv p0.g.H,u_0_0,iv p0.k,.slice ad_0_1 p0.l.length cp_0_1,u_0_2,iv p0.least],eRow (rI .i64) 3 (.slice ad_0_1 p0.l.length cp_0_1) p0.l]) w0 (fun _=>.tuple #[]) (fun x=>[eBox bb0 68 [iv r.g.W,iv r.g.H,u_0_0,iv r.k,.slice x.1 r.l.length x.2.1,x.2.2,iv r.least],eRow (rI .i64) 3 (.slice x.1 r.l.length x.2.1) r.l]) (fun x=>[fRep (rLz (rI .i64)) x.2.2 r.best])):=by
 unfold F_reduce_search_from_s7 at h
 obtain ⟨a2,a3,_,rfl,_⟩:=S.know (i:=0) (e:=fRep (rL rB) (u_0_0) p0.g.Bits) d
 obtain ⟨⟨ak,al,_,rfl,_⟩,_⟩:=S.know (i:=1) (e:=fRep (rLz (rI .i64)) (u_0_2) p0.best) d
 generalize (keysL [eBox bb0 68 [iv p0.g.W,iv p0.g.H,.slice a2 p0.g.Bits.length a3,iv p0.k,.slice ad_0_1 p0.l.length cp_0_1,.slice ak p0.best.length al,iv p0.least],eRow (rI .i64) 3 (.slice ad_0_1 p0.l.length cp_0_1) p0.l])=M9 at S ⊢
 refine sEnter (args:=[.pointer (some ⟨bb0,0,none⟩),iv p1]) 98 Try.func41 d d (by simp) S (fun a S=>?_)
 refine sSeq (fun K5 bn=>sSeq (fun K6 bo=>sDraw (nf:=[]) (W:=[(0,8,.pointer (some ⟨bb0,0,none⟩)),(1,9,.pointer (some ⟨bb0,0,none⟩)),(2,10,.pointer (some ⟨bb0,4,none⟩)),(3,11,.slice ad_0_1 p0.l.length cp_0_1),(4,12,iv (p0.l.length:Int)),(5,13,.pointer (some ⟨bb0,0,none⟩)),(6,14,.pointer (some ⟨bb0,0,none⟩)),(7,15,.pointer (some ⟨bb0,0,none⟩)),(8,16,.pointer (some ⟨bb0,0,none⟩)),(9,17,iv p0.g.W),(10,18,.bool ((p0.l.length:Int) == p0.g.W))]) d S ?_))
 refine node_by (A:=anc_reduce_search_from_s7_0) 11 (by kernel_rfl) (by kernel_rfl) (by kernel_rfl) (by kernel_rfl) (by kernel_rfl) [0,1,2,3,4,5,6,7,8,9,10] (by kernel_rfl) (by decide) (by decide) (fF ?_ (fF ?_ (fF ?_ (fF ?_ (fF ?_ (fF ?_ (fF ?_ (fF ?_ (fF ?_ (fF ?_ (fF ?_ (trivial)))))))))))) [(0,.pointer (some ⟨bb0,0,none⟩)),(1,iv p1),(18,.bool ((p0.l.length:Int) == p0.g.W))] (fin_of [none,none,some 10] d (by kernel_rfl) (by kernel_rfl)) (fun _ a w S=>?_)
 ·exact fM 0 none d d d d (.inl d) d d d
 ·refine fJ [(8,_)] 1 [some 0] fun G a w S=>?_
  exact nilCheck_ok (q:=⟨bb0,0,none⟩) S (wN d) d d d (lb d) fun a S=>leafL ⟨d,S⟩
 ·refine fJ [(9,_)] 2 [some 1] fun G a w S=>?_
  exact sField (b:=bb0) (off:=0) 4 4 S (wN d) d d d d d (lb d) fun a S=>leafL ⟨d,S⟩
 ·refine fJ [(10,_)] 3 [some 2] fun G a w S=>?_
  exact sLoad1 0 (.slice ad_0_1 p0.l.length cp_0_1) S (wN d) d d d d d d (lb d) fun a S=>leafL ⟨d,S⟩
 ·refine fJ [(11,_)] 4 [some 3] fun G a w S=>?_
  exact sLen S (wN d) d Try.underlying25 d d (lb d) fun a S=>leafL ⟨d,S⟩
 ·exact fM 5 none d d d d (.inl d) d d d
 ·refine fJ [(13,_)] 6 [some 5] fun G a w S=>?_
  exact nilCheck_ok (q:=⟨bb0,0,none⟩) S (wN d) d d d (lb d) fun a S=>leafL ⟨d,S⟩
 ·refine fJ [(14,_)] 7 [some 6] fun G a w S=>?_
  exact sField (b:=bb0) (off:=0) 0 0 S (wN d) d d d d d (lb d) fun a S=>leafL ⟨d,S⟩
 ·refine fJ [(15,_)] 8 [some 7] fun G a w S=>?_
  exact sField (b:=bb0) (off:=0) 0 0 S (wN d) d d d d d (lb d) fun a S=>leafL ⟨d,S⟩
 ·refine fJ [(16,_)] 9 [some 8] fun G a w S=>?_
  exact sLoad1 0 (iv p0.g.W) S (wN d) d d d d d d (lb d) fun a S=>leafL ⟨d,S⟩
 ·refine fJ [(12,_),(17,_)] 10 [some 4,some 9] fun G a w S=>?_
  exact sBin _ S (wN d) d d d (bEq _ _ _ _ .i64 (p0.l.length:Int) p0.g.W) d (lb d) fun a S=>leafL ⟨d,S⟩
 refine leafT (bo _ _ ?_)
 rcases iS h with ⟨aW,h⟩ | ⟨aW,h⟩
 rotate_left
 ·refine sCondF S d aW (wp_skip (leafT (bn _ _ ?_)))
  refine sSeq (fun bz aX=>sRegion (sM S fun a S=>?_))
  refine sBin _ S (wN d) d d d (bAdd _ _ _ _ p1 1) d (lb d) fun a S=>sM S fun a S=>?_
  refine nilCheck_ok (q:=⟨bb0,0,none⟩) S (wN d) d d d (lb d) fun a S=>sField (b:=bb0) (off:=0) 3 3 S (wN d) d d d d d (lb d) fun a S=>sLoad1 0 (iv p0.k) S (wN d) d d d d d d (lb d) fun a S=>sMin2 (p:=w64 (p1 + 1)) (q:=p0.k) S (wN d) d d d d (lb d) fun a S=>sM S fun a S=>?_
  refine lT (aX _ _ (wp_block ?_))
  obtain ⟨bA,hl,bp⟩:=bS h
  refine sLoop hl (fun s0 a w=>match s0 with | (af,aJ,aK,aL,aA,ar,aM)=>∃ am,∃ ao,∃ ah,∃ ai,St [] E M9 w0 98 a w [(0,.pointer (some ⟨bb0,0,none⟩)),(1,iv p1),(63,iv (if p0.k < (w64 (p1 + 1)) then p0.k else w64 (p1 + 1))),(64,iv af)] [eBox bb0 68 [iv aJ,iv aK,.slice a2 p0.g.Bits.length a3,iv aL,.slice am aA.length ao,.slice ah ar.length ai,iv aM],eRow (rI .i64) 3 (.slice am aA.length ao) aA] [fRep (rL rB) (.slice a2 p0.g.Bits.length a3) p0.g.Bits,fRep (rLz (rI .i64)) (.slice ah ar.length ai) ar]) ⟨ad_0_1,cp_0_1,ak,al,S.fix [0,1] [0,1] (by decide) d d d⟩ ?_
  clear hl h
  intro s0 a w c0 hI h aZ
  obtain ⟨af,aJ,aK,aL,aA,ar,aM⟩:=s0
  unfold reduce_search_from_s7_l1 at h
  dsimp only at h hI
  obtain ⟨am,ao,ah,ai,S⟩:=hI
  refine sSeq (fun bB b1=>sRegion (sBin _ S (wN d) d d d (bLt _ _ _ _ .i64 af (if p0.k < (w64 (p1 + 1)) then p0.k else w64 (p1 + 1))) d (lb d) fun a S=>lT (b1 _ _ (sSeq (fun bC b3=>?_)))))
  rcases iS h with ⟨aC,h⟩ | ⟨aC,h⟩
  rotate_left
  ·refine sCondF S d aC ?_
   obtain rfl:=tS h
   obtain rfl:=aZ _ d
   have h:=bp
   try dsimp only at h
   obtain rfl:=tS h
   exact wp_exit (xThen (xThen (xHit (sEnd (.tuple #[]) S (rsl0 d ) ⟨(am,ao,(.slice ah ar.length ai)),d,S.mem.sel [0,1] [1] (by decide) d d⟩))))
  refine sCondT S d aC (wp_skip (leafT (b3 _ _ ?_)))
  refine sSeq (fun bD b4=>wp_block ?_)
  refine sSeq (fun bE b5=>sRegion (sM S fun a S=>?_))
  refine sN S fun a S=>?_
  refine lT (b5 _ _ (sSeq (fun bG b8=>sRegion (sM S fun a S=>?_))))
  refine sM S fun a S=>?_
  refine nilCheck_ok (q:=⟨bb0,0,none⟩) S (wN d) d d d (lb d) fun a S=>sField (b:=bb0) (off:=0) 4 4 S (wN d) d d d d d (lb d) fun a S=>sLoad1 0 (.slice am aA.length ao) S (wN d) d d d d d d (lb d) fun a S=>sM S fun a S=>?_
  refine sLit (r:=(rI .i64)) (T:=3) (xs:=([af]:List Int)) [(0,iv af)] 1 [iv af] [iv af] (iv 0) 8 S (wN d) d d Try.underlying25 d (by decide) (by decide) (by kernel_rfl) d (fun E1 w1 hE=>All.cons d (All.nil _ _ _)) d d (lb d) fun a w aO aP S=>?_
  obtain ⟨aH,b9,h⟩:=bS h
  refine sApp (r:=(rI .i64)) (T:=3) (xs:=aA) (ys:=([af]:List Int)) (v:=.slice am aA.length ao) (u:=.slice aO ([af]:List Int).length aP) 2 (iv 0) 8 S (wN d) d Try.underlying25 d d (by decide) d d d (src_R (T:=3) 0 S.mem d) b9 d (lb d) fun a w au av S=>nilCheck_ok (q:=⟨bb0,0,none⟩) S (wN d) d d d (lb d) fun a S=>sField (b:=bb0) (off:=0) 4 4 S (wN d) d d d d d (lb d) fun a S=>sStore (p:=bb0) (off:=4) (T:=68) (vs:=[iv aJ,iv aK,.slice a2 p0.g.Bits.length a3,iv aL,.slice am aA.length ao,.slice ah ar.length ai,iv aM]) (v:=.slice au aH.length av) 2 [.slice au aH.length av] S (wN d) d d d d d d d (by simp) d fun a w S=>lT (b8 _ _ (sSeq (fun bH ba=>sRegion (sM S fun a S=>?_))))
  refine sM S fun a S=>?_
  refine sM S fun a S=>?_
  refine sBin _ S (wN d) d d d (bAdd _ _ _ _ af 1) d (lb d) fun a S=>sMax2 (p:=p1) (q:=w64 (af + 1)) S (wN d) d d d d (lb d) fun a S=>?_
  obtain ⟨a4,bb,h⟩:=bS h
  refine sCall (X:=Option Addr × Nat × Value) (f:=41) (vs:=[.pointer (some ⟨bb0,0,none⟩),iv (if p1 < (w64 (af + 1)) then w64 (af + 1) else p1)]) (val:=fun _=>.tuple #[]) (B':=fun x=>[eBox bb0 68 [iv a4.g.W,iv a4.g.H,.slice a2 p0.g.Bits.length a3,iv a4.k,.slice x.1 a4.l.length x.2.1,x.2.2,iv a4.least],eRow (rI .i64) 3 (.slice x.1 a4.l.length x.2.1) a4.l]) (D':=fun x=>[fRep (rLz (rI .i64)) x.2.2 a4.best]) [eBox bb0 68 [iv aJ,iv aK,.slice a2 p0.g.Bits.length a3,iv aL,.slice au aH.length av,.slice ah ar.length ai,iv aM],eRow (rI .i64) 3 (.slice au aH.length av) aH] [eRow (rI .i64) 3 (.slice aO ([af]:List Int).length aP) ([af]:List Int)] [fRep (rL rB) (.slice a2 p0.g.Bits.length a3) p0.g.Bits,fRep (rLz (rI .i64)) (.slice ah ar.length ai) ar] [0,1,2] [0,1] S (wN d) d callee41 d (by decide) d d (fun E1 w1 S1=>c_reduce_search_from_s8 E1 w1 (reduce_search.mk (api_Grid.mk aJ aK p0.g.Bits) aL aH ar aM) bb0 (.slice a2 p0.g.Bits.length a3) au av (.slice ah ar.length ai) (if p1 < (w64 (af + 1)) then w64 (af + 1) else p1) a4 bb S1) d (lb d) fun xx a w S=>?_
  obtain ⟨a9,aa,bq⟩:=xx
  dsimp only at S
  obtain ⟨⟨aQ,aR,_,rfl,_⟩,_⟩:=S.mem.know (i:=0) (e:=fRep (rLz (rI .i64)) (bq) a4.best) d
  refine lT (ba _ _ ?_)
  obtain ⟨aS,bc,h⟩:=bS h
  refine sDraw (nf:=[11,14]) (W:=[(0,83,.pointer (some ⟨bb0,0,none⟩)),(1,84,.pointer (some ⟨bb0,0,none⟩)),(2,85,.pointer (some ⟨bb0,0,none⟩)),(3,86,.pointer (some ⟨bb0,4,none⟩)),(4,87,.slice a9 a4.l.length aa),(5,88,.pointer (some ⟨bb0,0,none⟩)),(6,89,.pointer (some ⟨bb0,0,none⟩)),(7,90,.pointer (some ⟨bb0,4,none⟩)),(8,91,.slice a9 a4.l.length aa),(9,92,iv (a4.l.length:Int)),(10,93,iv (w64 ((a4.l.length:Int) - 1)))]) d S ?_
  refine node_by (A:=anc_reduce_search_from_s7_2) 15 (by kernel_rfl) (by kernel_rfl) (by kernel_rfl) (by kernel_rfl) (by kernel_rfl) [0,1,2,3,4,5,6,7,8,9,10] (by kernel_rfl) (by decide) (by decide) (fF ?_ (fF ?_ (fF ?_ (fF ?_ (fF ?_ (fF ?_ (fF ?_ (fF ?_ (fF ?_ (fF ?_ (fF ?_ (fN ?_ (fE 11 (fE 11 (aB 14 0 11 (by decide) (trivial)))))))))))))))) [] (fun q hq=>by cases hq) (fun hY=>absurd (hY 11 (by decide)) (by decide))
  ·exact fM 0 none d d d d (.inl d) d d d
  ·exact fM 1 none d d d d (.inl d) d d d
  ·refine fJ [(84,_)] 2 [some 1] fun G a w S=>?_
   exact nilCheck_ok (q:=⟨bb0,0,none⟩) S (wN d) d d d (lb d) fun a S=>leafL ⟨d,S⟩
  ·refine fJ [(85,_)] 3 [some 2] fun G a w S=>?_
   exact sField (b:=bb0) (off:=0) 4 4 S (wN d) d d d d d (lb d) fun a S=>leafL ⟨d,S⟩
  ·refine fJ [(86,_)] 4 [some 3] fun G a w S=>?_
   exact sLoad1 0 (.slice a9 a4.l.length aa) S (wN d) d d d d d d (lb d) fun a S=>leafL ⟨d,S⟩
  ·exact fM 5 none d d d d (.inl d) d d d
  ·refine fJ [(88,_)] 6 [some 5] fun G a w S=>?_
   exact nilCheck_ok (q:=⟨bb0,0,none⟩) S (wN d) d d d (lb d) fun a S=>leafL ⟨d,S⟩
  ·refine fJ [(89,_)] 7 [some 6] fun G a w S=>?_
   exact sField (b:=bb0) (off:=0) 4 4 S (wN d) d d d d d (lb d) fun a S=>leafL ⟨d,S⟩
  ·refine fJ [(90,_)] 8 [some 7] fun G a w S=>?_
   exact sLoad1 0 (.slice a9 a4.l.length aa) S (wN d) d d d d d d (lb d) fun a S=>leafL ⟨d,S⟩
  ·refine fJ [(91,_)] 9 [some 8] fun G a w S=>?_
   exact sLen S (wN d) d Try.underlying25 d d (lb d) fun a S=>leafL ⟨d,S⟩
  ·refine fJ [(92,_)] 10 [some 9] fun G a w S=>?_
   exact sBin _ S (wN d) d d d (bSub _ _ _ _ (a4.l.length:Int) 1) d (lb d) fun a S=>leafL ⟨d,S⟩
  refine ⟨_,[(87,.slice a9 a4.l.length aa),(93,iv (w64 ((a4.l.length:Int) - 1)))],d,(srcs_of [some 4,some 10] d d d),fun G a w S=>?_⟩
  refine sSliceT (r:=(rI .i64)) (T:=3) (ad:=a9) (c:=aa) (xs:=a4.l) (vlo:=none) (vhi:=(some (.int .i64 (w64 ((a4.l.length:Int) - 1))))) (hi':=w64 ((a4.l.length:Int) - 1)) 1 S (wN d) d Try.underlying25 d d d d d (.inr d) (.inl d) bc d (lb d) fun a S=>?_
  refine leafL ⟨d,_,_,.inl ⟨94,(.slice a9 aS.length aa),[(12,95,.pointer (some ⟨bb0,0,none⟩)),(13,96,.pointer (some ⟨bb0,4,none⟩))],d,S,hz_of d,?_⟩⟩
  refine node_by (A:=anc_reduce_search_from_s7_2) 15 (by kernel_rfl) (by kernel_rfl) (by kernel_rfl) (by kernel_rfl) (by kernel_rfl) [12,13,11,0,1,2,3,4,5,6,7,8,9,10] (by kernel_rfl) (by decide) (by decide) (fF ?_ (fD 11 (fD 11 (fD 11 (fD 11 (fD 11 (fD 11 (fD 11 (fD 11 (fD 11 (fD 11 (fY (fF ?_ (fF ?_ (fN ?_ (trivial)))))))))))))))) [] (fun q hq=>by cases hq) (fun hY=>absurd (hY 14 (by decide)) (by decide))
  ·exact fM 3 none d d d d (.inl d) d d d
  ·refine fJ [(83,_)] 0 [some 3] fun G a w S=>?_
   exact nilCheck_ok (q:=⟨bb0,0,none⟩) S (wN d) d d d (lb d) fun a S=>leafL ⟨d,S⟩
  ·refine fJ [(95,_)] 1 [some 0] fun G a w S=>?_
   exact sField (b:=bb0) (off:=0) 4 4 S (wN d) d d d d d (lb d) fun a S=>leafL ⟨d,S⟩
  refine ⟨_,[(94,.slice a9 aS.length aa),(96,.pointer (some ⟨bb0,4,none⟩))],d,(srcs_of [some 2,some 1] d d d),fun G a w S=>?_⟩
  refine sStore (p:=bb0) (off:=4) (T:=68) (vs:=[iv a4.g.W,iv a4.g.H,.slice a2 p0.g.Bits.length a3,iv a4.k,.slice a9 a4.l.length aa,.slice aQ a4.best.length aR,iv a4.least]) (v:=.slice a9 aS.length aa) 1 [.slice a9 aS.length aa] S (wN d) d d d d d d d (by simp) d fun a w S=>leafL ⟨d,_,_,.inr ⟨[],d,S,hz_of d,?_⟩⟩
  refine node_by (A:=anc_reduce_search_from_s7_2) 15 (by kernel_rfl) (by kernel_rfl) (by kernel_rfl) (by kernel_rfl) (by kernel_rfl) [12,13,11,0,1,2,3,4,5,6,7,8,9,10] (by kernel_rfl) (by decide) (by decide) (fD 14 (fD 14 (fD 14 (fD 14 (fD 14 (fD 14 (fD 14 (fD 14 (fD 14 (fD 14 (fD 14 (fY (fD 14 (fD 14 (fY (trivial)))))))))))))))) [(0,.pointer (some ⟨bb0,0,none⟩)),(1,iv p1),(63,iv (if p0.k < (w64 (p1 + 1)) then p0.k else w64 (p1 + 1))),(64,iv af)] (fin_of [none,none,none,none] d (by kernel_rfl) (by kernel_rfl)) (fun _ a w S=>?_)
  refine leafB (leafT (b4 _ _ ?_))
  refine sRegion (sBin _ S (wN d) d d d (bAdd _ _ _ _ af 1) d (lb d) fun a S=>sM S fun a S=>?_)
  exact lT (⟨(w64 (af + 1),a4.g.W,a4.g.H,a4.k,aS,a4.best,a4.least),(Option.some.inj h).symm,⟨a9,aa,aQ,aR,S.fix [0,1] [1,0] (by decide) d d d⟩⟩)
 refine sCondT S d aW ?_
 obtain ⟨br,h,bt⟩:=bS h
 refine sCut (fun a w=>∃ o8,∃ aI,∃ bf,(o8,aI,bf)=br∧∃ aU,∃ ax,∃ ay,∃ az,St [] E M9 w0 98 a w [] [eBox bb0 68 [iv p0.g.W,iv p0.g.H,.slice a2 p0.g.Bits.length a3,iv p0.k,.slice aU o8.length ax,.slice ay aI.length az,iv bf],eRow (rI .i64) 3 (.slice aU o8.length ax) o8] [fRep (rL rB) (.slice a2 p0.g.Bits.length a3) p0.g.Bits,fRep (rLz (rI .i64)) (.slice ay aI.length az) aI]) ?_ (fun a w hI=>?_)
 rotate_left
 ·obtain ⟨o8,aI,bf,rfl,aU,ax,ay,az,S⟩:=hI
  have h:=bt
  try dsimp only at h
  obtain rfl:=tS h
  exact wp_ret (rThen (sRet (.tuple #[]) S (rsl0 d ) ⟨(aU,ax,(.slice ay aI.length az)),d,S.mem.sel [0,1] [1] (by decide) d d⟩))
 obtain ⟨bu,h,bv⟩:=bS h
 refine sCut (fun a w=>∃ aw,∃ aj,(aw,aj)=bu∧∃ a5,∃ a6,St [] E M9 w0 98 a w [(0,.pointer (some ⟨bb0,0,none⟩)),(5,iv aw)] [eBox bb0 68 [iv p0.g.W,iv p0.g.H,.slice a2 p0.g.Bits.length a3,iv p0.k,.slice a5 aj.length a6,.slice ak p0.best.length al,iv p0.least],eRow (rI .i64) 3 (.slice a5 aj.length a6) aj] [fRep (rL rB) (.slice a2 p0.g.Bits.length a3) p0.g.Bits,fRep (rLz (rI .i64)) (.slice ak p0.best.length al) p0.best]) ?_ (fun a w hI=>?_)
 rotate_left
 ·obtain ⟨aw,aj,rfl,a5,a6,S⟩:=hI
  have h:=bv
  try dsimp only at h
  obtain ⟨bw,h,bx⟩:=bS h
  refine sCut (fun a w=>∃ bg,bg=bw∧St [] E M9 w0 98 a w [(0,.pointer (some ⟨bb0,0,none⟩)),(5,iv aw),(44,.bool bg)] [eBox bb0 68 [iv p0.g.W,iv p0.g.H,.slice a2 p0.g.Bits.length a3,iv p0.k,.slice a5 aj.length a6,.slice ak p0.best.length al,iv p0.least],eRow (rI .i64) 3 (.slice a5 aj.length a6) aj] [fRep (rL rB) (.slice a2 p0.g.Bits.length a3) p0.g.Bits,fRep (rLz (rI .i64)) (.slice ak p0.best.length al) p0.best]) ?_ (fun a w hI=>?_)
  ·refine sRegion (sM S fun a S=>?_)
   refine nilCheck_ok (q:=⟨bb0,0,none⟩) S (wN d) d d d (lb d) fun a S=>sField (b:=bb0) (off:=0) 5 5 S (wN d) d d d d d (lb d) fun a S=>sLoad1 0 (.slice ak p0.best.length al) S (wN d) d d d d d d (lb d) fun a S=>sBin _ S (wN d) d d d (bEqNilZ _ _ _ _ Try.underlying25 ak (p0.best.length) (al) (rLz_is (S.mem.know (i:=1) (e:=fRep (rLz (rI .i64)) (.slice ak p0.best.length al) p0.best) d))) d (lb d) fun a S=>sM S fun a S=>?_
   rcases iS h with ⟨ae,h⟩ | ⟨ae,h⟩
   ·refine sSkN 6 5 false 37 S d d ae d fun a S=>sPickT (.bool true) S (wN d) d d ae d d (lb d) fun a S=>?_
    exact lT (⟨true,Option.some.inj h,S.fix [0,1] [0,1] (by decide) d d d⟩)
   refine sMove (iv aw) S (wG 5 false 37 d d d ae) (.inl d) d d (lb d) fun a S=>sMove (.pointer (some ⟨bb0,0,none⟩)) S (wG 5 false 37 d d d ae) (.inl d) d d (lb d) fun a S=>nilCheck_ok (q:=⟨bb0,0,none⟩) S (wG 5 false 37 d d d ae) d d d (lb d) fun a S=>sField (b:=bb0) (off:=0) 6 6 S (wG 5 false 37 d d d ae) d d d d d (lb d) fun a S=>sLoad1 0 (iv p0.least) S (wG 5 false 37 d d d ae) d d d d d d (lb d) fun a S=>sBin _ S (wG 5 false 37 d d d ae) d d d (bLt _ _ _ _ .i64 aw p0.least) d (lb d) fun a S=>sPickF (.bool (decide (aw < p0.least))) S (wN d) d d ae d d (lb d) fun a S=>?_
   exact lT (⟨decide (aw < p0.least),Option.some.inj h,S.fix [0,1] [0,1] (by decide) d d d⟩)
  obtain ⟨bg,rfl,S⟩:=hI
  have h:=bx
  try dsimp only at h
  rcases iS h with ⟨aG,h⟩ | ⟨aG,h⟩
  rotate_left
  ·refine sCondF S d aG ?_
   exact wp_skip (leafT (⟨aj,p0.best,p0.least,Option.some.inj h,a5,a6,ak,al,S.fix [0,1] [0,1] (by decide) d d d⟩))
  refine sCondT S d aG (sRegion (sM S fun a S=>?_))
  refine sM S fun a S=>?_
  refine sM S fun a S=>?_
  refine nilCheck_ok (q:=⟨bb0,0,none⟩) S (wN d) d d d (lb d) fun a S=>sField (b:=bb0) (off:=0) 4 4 S (wN d) d d d d d (lb d) fun a S=>sLoad1 0 (.slice a5 aj.length a6) S (wN d) d d d d d d (lb d) fun a S=>?_
  obtain ⟨ag,bh,h⟩:=bS h
  refine sCall (X:=Option Addr × Nat) (f:=49) (vs:=[.slice a5 aj.length a6]) (val:=fun x=>.slice x.1 ag.1.length x.2) (B':=fun x=>[eRow (rI .i64) 3 (.slice x.1 ag.1.length x.2) ag.1,eRow (rI .i64) 3 (.slice a5 aj.length a6) ag.2]) (D':=fun _=>[]) [eRow (rI .i64) 3 (.slice a5 aj.length a6) aj] [eBox bb0 68 [iv p0.g.W,iv p0.g.H,.slice a2 p0.g.Bits.length a3,iv p0.k,.slice a5 aj.length a6,.slice ak p0.best.length al,iv p0.least]] [] [1,0] [] S (wN d) d callee49 d (by decide) d d (fun E1 w1 S1=>c_slices_Clone___int_int__s1 E1 w1 aj a5 a6 ag bh S1) d (lb d) fun xx a w S=>?_
  obtain ⟨ap,aq⟩:=xx
  dsimp only at S
  have bi:=row_v (S.mem.hold (i:=1) (e:=eRow (rI .i64) 3 (.slice a5 aj.length a6) ag.2) d)
  rw [bi] at S
  refine sM S fun a S=>?_
  refine nilCheck_ok (q:=⟨bb0,0,none⟩) S (wN d) d d d (lb d) fun a S=>sField (b:=bb0) (off:=0) 5 5 S (wN d) d d d d d (lb d) fun a S=>?_
  have S:=S.shutR (r:=(rI .i64)) (T:=3) (v:=.slice ap ag.1.length aq) (xs:=ag.1) 0 d
  obtain ⟨bI,bj,h⟩:=bS h
  have S:=S.learn (fRep (rLz (rI .i64)) (.slice ap ag.1.length aq) ag.1) (rLz_of (S.mem.know (i:=0) (e:=fRep (rL (rI .i64)) (.slice ap ag.1.length aq) ag.1) d) bj)
  refine sStore (p:=bb0) (off:=5) (T:=68) (vs:=[iv p0.g.W,iv p0.g.H,.slice a2 p0.g.Bits.length a3,iv p0.k,.slice a5 ag.2.length a6,.slice ak p0.best.length al,iv p0.least]) (v:=.slice ap ag.1.length aq) 1 [.slice ap ag.1.length aq] S (wN d) d d d d d d d (by simp) d fun a w S=>nilCheck_ok (q:=⟨bb0,0,none⟩) S (wN d) d d d (lb d) fun a S=>sField (b:=bb0) (off:=0) 6 6 S (wN d) d d d d d (lb d) fun a S=>sStore (p:=bb0) (off:=6) (T:=68) (vs:=[iv p0.g.W,iv p0.g.H,.slice a2 p0.g.Bits.length a3,iv p0.k,.slice a5 ag.2.length a6,.slice ap ag.1.length aq,iv p0.least]) (v:=iv aw) 0 [iv aw] S (wN d) d d d d d d d (by simp) d fun a w S=>?_
  exact lT (⟨ag.2,ag.1,aw,Option.some.inj h,a5,a6,ap,aq,S.fix [0,1] [2,0] (by decide) d d d⟩)
 obtain ⟨a0,aT,h⟩:=bS h
 refine sDraw (nf:=[8,13,14]) (W:=[(0,20,.pointer (some ⟨bb0,0,none⟩)),(1,21,.pointer (some ⟨bb0,0,none⟩)),(2,22,.pointer (some ⟨bb0,0,none⟩)),(3,23,.agg #[iv p0.g.W,iv p0.g.H,.slice a2 p0.g.Bits.length a3]),(4,24,.pointer (some ⟨bb0,0,none⟩)),(5,25,.pointer (some ⟨bb0,0,none⟩)),(6,26,.pointer (some ⟨bb0,4,none⟩)),(7,27,.slice ad_0_1 p0.l.length cp_0_1)]) d S ?_
 refine node_by (A:=anc_reduce_search_from_s7_1) 17 (by kernel_rfl) (by kernel_rfl) (by kernel_rfl) (by kernel_rfl) (by kernel_rfl) [0,1,2,3,4,5,6,7] (by kernel_rfl) (by decide) (by decide) (fF ?_ (fF ?_ (fF ?_ (fF ?_ (fF ?_ (fF ?_ (fF ?_ (fF ?_ (fN ?_ (fE 8 (fE 8 (fE 8 (fE 8 (fN ?_ (aB 14 2 8 (by decide) (fE 8 (fE 8 (trivial)))))))))))))))))) [] (fun q hq=>by cases hq) (fun hY=>absurd (hY 8 (by decide)) (by decide))
 ·exact fM 0 none d d d d (.inl d) d d d
 ·refine fJ [(20,_)] 1 [some 0] fun G a w S=>?_
  exact nilCheck_ok (q:=⟨bb0,0,none⟩) S (wN d) d d d (lb d) fun a S=>leafL ⟨d,S⟩
 ·refine fJ [(21,_)] 2 [some 1] fun G a w S=>?_
  exact sField (b:=bb0) (off:=0) 0 0 S (wN d) d d d d d (lb d) fun a S=>leafL ⟨d,S⟩
 ·refine fJ [(22,_)] 3 [some 2] fun G a w S=>?_
  exact sLoadN (p:=bb0) (off:=0) (T:=68) (vs:=[iv p0.g.W,iv p0.g.H,.slice a2 p0.g.Bits.length a3,iv p0.k,.slice ad_0_1 p0.l.length cp_0_1,.slice ak p0.best.length al,iv p0.least]) 0 [iv p0.g.W,iv p0.g.H,.slice a2 p0.g.Bits.length a3] S (wN d) d d d d d d d (lb d) fun a S=>leafL ⟨d,S⟩
 ·exact fM 4 none d d d d (.inl d) d d d
 ·refine fJ [(24,_)] 5 [some 4] fun G a w S=>?_
  exact nilCheck_ok (q:=⟨bb0,0,none⟩) S (wN d) d d d (lb d) fun a S=>leafL ⟨d,S⟩
 ·refine fJ [(25,_)] 6 [some 5] fun G a w S=>?_
  exact sField (b:=bb0) (off:=0) 4 4 S (wN d) d d d d d (lb d) fun a S=>leafL ⟨d,S⟩
 ·refine fJ [(26,_)] 7 [some 6] fun G a w S=>?_
  exact sLoad1 0 (.slice ad_0_1 p0.l.length cp_0_1) S (wN d) d d d d d d (lb d) fun a S=>leafL ⟨d,S⟩
 ·refine ⟨_,[(23,.agg #[iv p0.g.W,iv p0.g.H,.slice a2 p0.g.Bits.length a3]),(27,.slice ad_0_1 p0.l.length cp_0_1)],d,(srcs_of [some 3,some 7] d d d),fun G a w S=>?_⟩
  have S:=S.learn (fRep r_api_Grid (.agg #[iv p0.g.W,iv p0.g.H,.slice a2 p0.g.Bits.length a3]) p0.g) ⟨_,d,S.mem.know (i:=0) (e:=fRep (rL rB) (.slice a2 p0.g.Bits.length a3) p0.g.Bits) d⟩
  refine sCall (X:=Option Addr × Nat) (f:=12) (vs:=[.agg #[iv p0.g.W,iv p0.g.H,.slice a2 p0.g.Bits.length a3],.slice ad_0_1 p0.l.length cp_0_1]) (val:=fun x=>.tuple #[.agg #[iv a0.1.W,iv a0.1.H,.slice x.1 a0.1.Bits.length x.2],iv a0.2.1,iv a0.2.2.1]) (B':=fun x=>[eRow rB 4 (.slice x.1 a0.1.Bits.length x.2) a0.1.Bits,eRow (rI .i64) 3 (.slice ad_0_1 p0.l.length cp_0_1) a0.2.2.2]) (D':=fun _=>[]) [eRow (rI .i64) 3 (.slice ad_0_1 p0.l.length cp_0_1) p0.l] [eBox bb0 68 [iv p0.g.W,iv p0.g.H,.slice a2 p0.g.Bits.length a3,iv p0.k,.slice ad_0_1 p0.l.length cp_0_1,.slice ak p0.best.length al,iv p0.least]] [fRep r_api_Grid (.agg #[iv p0.g.W,iv p0.g.H,.slice a2 p0.g.Bits.length a3]) p0.g] [1,0] [0] S (wN d) d callee12 d (by decide) d d (fun E1 w1 S1=>c_reduce_Change_s1 E1 w1 p0.g (.agg #[iv p0.g.W,iv p0.g.H,.slice a2 p0.g.Bits.length a3]) p0.l ad_0_1 cp_0_1 a0 aT S1) d (lb d) fun xx a w S=>?_
  obtain ⟨a7,a8⟩:=xx
  dsimp only at S
  refine leafL ⟨d,_,_,.inl ⟨28,(.tuple #[.agg #[iv a0.1.W,iv a0.1.H,.slice a7 a0.1.Bits.length a8],iv a0.2.1,iv a0.2.2.1]),[(9,19,.tuple #[.agg #[iv a0.1.W,iv a0.1.H,.slice a7 a0.1.Bits.length a8],iv a0.2.1,iv a0.2.2.1]),(10,29,.agg #[iv a0.1.W,iv a0.1.H,.slice a7 a0.1.Bits.length a8]),(11,30,iv a0.2.1),(12,31,iv a0.2.2.1)],d,S,hz_of d,?_⟩⟩
  refine node_by (A:=anc_reduce_search_from_s7_1) 17 (by kernel_rfl) (by kernel_rfl) (by kernel_rfl) (by kernel_rfl) (by kernel_rfl) [9,10,11,12,8,0,1,2,3,4,5,6,7] (by kernel_rfl) (by decide) (by decide) (fD 8 (fD 8 (fD 8 (fD 8 (fD 8 (fD 8 (fD 8 (fD 8 (fY (fF ?_ (fF ?_ (fF ?_ (fF ?_ (fN ?_ (aB 14 2 13 (by decide) (fE 13 (fE 13 (trivial)))))))))))))))))) [] (fun q hq=>by cases hq) (fun hY=>absurd (hY 13 (by decide)) (by decide))
  ·exact fM 0 (some 4) d d d d (.inl d) d d d
  ·refine fJ [(19,_)] 1 [some 0] fun G a w S=>?_
   exact sExtract (vs:=[.agg #[iv a0.1.W,iv a0.1.H,.slice a7 a0.1.Bits.length a8],iv a0.2.1,iv a0.2.2.1]) (.agg #[iv a0.1.W,iv a0.1.H,.slice a7 a0.1.Bits.length a8]) S (wN d) d d d d (lb d) fun a S=>leafL ⟨d,S⟩
  ·refine fJ [(19,_)] 2 [some 0] fun G a w S=>?_
   exact sExtract (vs:=[.agg #[iv a0.1.W,iv a0.1.H,.slice a7 a0.1.Bits.length a8],iv a0.2.1,iv a0.2.2.1]) (iv a0.2.1) S (wN d) d d d d (lb d) fun a S=>leafL ⟨d,S⟩
  ·refine fJ [(19,_)] 3 [some 0] fun G a w S=>?_
   exact sExtract (vs:=[.agg #[iv a0.1.W,iv a0.1.H,.slice a7 a0.1.Bits.length a8],iv a0.2.1,iv a0.2.2.1]) (iv a0.2.2.1) S (wN d) d d d d (lb d) fun a S=>leafL ⟨d,S⟩
  refine ⟨_,[],d,(srcs_of [] d d d),fun G a w S=>?_⟩
  refine sAlloc (.agg #[iv 0,iv 0,.slice none 0 0]) S (wN d) d d [iv 0,iv 0,.slice none 0 0] d d (lb d) fun a bk w S=>leafL ⟨d,_,_,.inl ⟨4,(.pointer (some ⟨bk,0,none⟩)),[],d,S,hz_of d,?_⟩⟩
  refine node_by (A:=anc_reduce_search_from_s7_1) 17 (by kernel_rfl) (by kernel_rfl) (by kernel_rfl) (by kernel_rfl) (by kernel_rfl) [13,9,10,11,12,8,0,1,2,3,4,5,6,7] (by kernel_rfl) (by decide) (by decide) (fD 8 (fD 8 (fD 8 (fD 8 (fD 8 (fD 8 (fD 8 (fD 8 (fY (fF ?_ (fF ?_ (fF ?_ (fF ?_ (fY (fN ?_ (fE 14 (fE 14 (trivial)))))))))))))))))) [] (fun q hq=>by cases hq) (fun hY=>absurd (hY 14 (by decide)) (by decide))
  ·exact fM 1 (some 5) d d d d (.inl d) d d d
  ·refine fJ [(19,_)] 2 [some 1] fun G a w S=>?_
   exact sExtract (vs:=[.agg #[iv a0.1.W,iv a0.1.H,.slice a7 a0.1.Bits.length a8],iv a0.2.1,iv a0.2.2.1]) (.agg #[iv a0.1.W,iv a0.1.H,.slice a7 a0.1.Bits.length a8]) S (wN d) d d d d (lb d) fun a S=>leafL ⟨d,S⟩
  ·refine fJ [(19,_)] 3 [some 1] fun G a w S=>?_
   exact sExtract (vs:=[.agg #[iv a0.1.W,iv a0.1.H,.slice a7 a0.1.Bits.length a8],iv a0.2.1,iv a0.2.2.1]) (iv a0.2.1) S (wN d) d d d d (lb d) fun a S=>leafL ⟨d,S⟩
  ·refine fJ [(19,_)] 4 [some 1] fun G a w S=>?_
   exact sExtract (vs:=[.agg #[iv a0.1.W,iv a0.1.H,.slice a7 a0.1.Bits.length a8],iv a0.2.1,iv a0.2.2.1]) (iv a0.2.2.1) S (wN d) d d d d (lb d) fun a S=>leafL ⟨d,S⟩
  refine ⟨_,[(4,.pointer (some ⟨bk,0,none⟩)),(29,.agg #[iv a0.1.W,iv a0.1.H,.slice a7 a0.1.Bits.length a8])],d,(srcs_of [some 0,some 2] d d d),fun G a w S=>?_⟩
  refine sStore (p:=bk) (off:=0) (T:=24) (vs:=[iv 0,iv 0,.slice none 0 0]) (v:=.agg #[iv a0.1.W,iv a0.1.H,.slice a7 a0.1.Bits.length a8]) 0 [iv a0.1.W,iv a0.1.H,.slice a7 a0.1.Bits.length a8] S (wN d) d d d d d d d (by simp) d fun a w S=>leafL ⟨d,_,_,.inr ⟨[(15,5,iv a0.2.1),(16,6,iv a0.2.2.1)],d,S,hz_of d,?_⟩⟩
  refine node_by (A:=anc_reduce_search_from_s7_1) 17 (by kernel_rfl) (by kernel_rfl) (by kernel_rfl) (by kernel_rfl) (by kernel_rfl) [15,16,13,9,10,11,12,8,0,1,2,3,4,5,6,7] (by kernel_rfl) (by decide) (by decide) (fD 14 (fD 14 (fD 14 (fD 14 (fD 14 (fD 14 (fD 14 (fD 14 (fY (fD 14 (fD 14 (fF ?_ (fF ?_ (fY (fY (fF ?_ (fF ?_ (trivial)))))))))))))))))) [(0,.pointer (some ⟨bb0,0,none⟩)),(5,iv a0.2.1)] (fin_of [none,some 0] d (by kernel_rfl) (by kernel_rfl)) (fun _ a w S=>?_)
  ·refine fJ [(19,_)] 5 [some 3] fun G a w S=>?_
   exact sExtract (vs:=[.agg #[iv a0.1.W,iv a0.1.H,.slice a7 a0.1.Bits.length a8],iv a0.2.1,iv a0.2.2.1]) (iv a0.2.1) S (wN d) d d d d (lb d) fun a S=>leafL ⟨d,S⟩
  ·refine fJ [(19,_)] 6 [some 3] fun G a w S=>?_
   exact sExtract (vs:=[.agg #[iv a0.1.W,iv a0.1.H,.slice a7 a0.1.Bits.length a8],iv a0.2.1,iv a0.2.2.1]) (iv a0.2.2.1) S (wN d) d d d d (lb d) fun a S=>leafL ⟨d,S⟩
  ·exact fM 0 (some 5) d d d d (.inr d) d d d
  ·exact fM 1 (some 6) d d d d (.inr d) d d d
  have bl:=row_v (S.mem.hold (i:=2) (e:=eRow (rI .i64) 3 (.slice ad_0_1 p0.l.length cp_0_1) a0.2.2.2) d)
  rw [bl] at S
  exact leafT (⟨a0.2.1,a0.2.2.2,Option.some.inj h,ad_0_1,cp_0_1,S.fix [3,2] [1,2] (by decide) d d d⟩)
 refine ⟨_,[],d,(srcs_of [] d d d),fun G a w S=>?_⟩
 refine sAlloc (.agg #[iv 0,iv 0,.slice none 0 0]) S (wN d) d d [iv 0,iv 0,.slice none 0 0] d d (lb d) fun a aV w S=>leafL ⟨d,_,_,.inl ⟨4,(.pointer (some ⟨aV,0,none⟩)),[],d,S,hz_of d,?_⟩⟩
 refine node_by (A:=anc_reduce_search_from_s7_1) 17 (by kernel_rfl) (by kernel_rfl) (by kernel_rfl) (by kernel_rfl) (by kernel_rfl) [13,0,1,2,3,4,5,6,7] (by kernel_rfl) (by decide) (by decide) (fF ?_ (fF ?_ (fF ?_ (fF ?_ (fF ?_ (fF ?_ (fF ?_ (fF ?_ (fN ?_ (fE 8 (fE 8 (fE 8 (fE 8 (fY (aB 14 2 8 (by decide) (fE 8 (fE 8 (trivial)))))))))))))))))) [] (fun q hq=>by cases hq) (fun hY=>absurd (hY 8 (by decide)) (by decide))
 ·exact fM 1 none d d d d (.inl d) d d d
 ·refine fJ [(20,_)] 2 [some 1] fun G a w S=>?_
  exact nilCheck_ok (q:=⟨bb0,0,none⟩) S (wN d) d d d (lb d) fun a S=>leafL ⟨d,S⟩
 ·refine fJ [(21,_)] 3 [some 2] fun G a w S=>?_
  exact sField (b:=bb0) (off:=0) 0 0 S (wN d) d d d d d (lb d) fun a S=>leafL ⟨d,S⟩
 ·refine fJ [(22,_)] 4 [some 3] fun G a w S=>?_
  exact sLoadN (p:=bb0) (off:=0) (T:=68) (vs:=[iv p0.g.W,iv p0.g.H,.slice a2 p0.g.Bits.length a3,iv p0.k,.slice ad_0_1 p0.l.length cp_0_1,.slice ak p0.best.length al,iv p0.least]) 1 [iv p0.g.W,iv p0.g.H,.slice a2 p0.g.Bits.length a3] S (wN d) d d d d d d d (lb d) fun a S=>leafL ⟨d,S⟩
 ·exact fM 5 none d d d d (.inl d) d d d
 ·refine fJ [(24,_)] 6 [some 5] fun G a w S=>?_
  exact nilCheck_ok (q:=⟨bb0,0,none⟩) S (wN d) d d d (lb d) fun a S=>leafL ⟨d,S⟩
 ·refine fJ [(25,_)] 7 [some 6] fun G a w S=>?_
  exact sField (b:=bb0) (off:=0) 4 4 S (wN d) d d d d d (lb d) fun a S=>leafL ⟨d,S⟩
 ·refine fJ [(26,_)] 8 [some 7] fun G a w S=>?_
  exact sLoad1 1 (.slice ad_0_1 p0.l.length cp_0_1) S (wN d) d d d d d d (lb d) fun a S=>leafL ⟨d,S⟩
 refine ⟨_,[(23,.agg #[iv p0.g.W,iv p0.g.H,.slice a2 p0.g.Bits.length a3]),(27,.slice ad_0_1 p0.l.length cp_0_1)],d,(srcs_of [some 4,some 8] d d d),fun G a w S=>?_⟩
 have S:=S.learn (fRep r_api_Grid (.agg #[iv p0.g.W,iv p0.g.H,.slice a2 p0.g.Bits.length a3]) p0.g) ⟨_,d,S.mem.know (i:=0) (e:=fRep (rL rB) (.slice a2 p0.g.Bits.length a3) p0.g.Bits) d⟩
 refine sCall (X:=Option Addr × Nat) (f:=12) (vs:=[.agg #[iv p0.g.W,iv p0.g.H,.slice a2 p0.g.Bits.length a3],.slice ad_0_1 p0.l.length cp_0_1]) (val:=fun x=>.tuple #[.agg #[iv a0.1.W,iv a0.1.H,.slice x.1 a0.1.Bits.length x.2],iv a0.2.1,iv a0.2.2.1]) (B':=fun x=>[eRow rB 4 (.slice x.1 a0.1.Bits.length x.2) a0.1.Bits,eRow (rI .i64) 3 (.slice ad_0_1 p0.l.length cp_0_1) a0.2.2.2]) (D':=fun _=>[]) [eRow (rI .i64) 3 (.slice ad_0_1 p0.l.length cp_0_1) p0.l] [eBox aV 24 [iv 0,iv 0,.slice none 0 0],eBox bb0 68 [iv p0.g.W,iv p0.g.H,.slice a2 p0.g.Bits.length a3,iv p0.k,.slice ad_0_1 p0.l.length cp_0_1,.slice ak p0.best.length al,iv p0.least]] [fRep r_api_Grid (.agg #[iv p0.g.W,iv p0.g.H,.slice a2 p0.g.Bits.length a3]) p0.g] [2,0,1] [0] S (wN d) d callee12 d (by decide) d d (fun E1 w1 S1=>c_reduce_Change_s1 E1 w1 p0.g (.agg #[iv p0.g.W,iv p0.g.H,.slice a2 p0.g.Bits.length a3]) p0.l ad_0_1 cp_0_1 a0 aT S1) d (lb d) fun xx a w S=>?_
 obtain ⟨ab,ac⟩:=xx
 dsimp only at S
 refine leafL ⟨d,_,_,.inl ⟨28,(.tuple #[.agg #[iv a0.1.W,iv a0.1.H,.slice ab a0.1.Bits.length ac],iv a0.2.1,iv a0.2.2.1]),[(9,19,.tuple #[.agg #[iv a0.1.W,iv a0.1.H,.slice ab a0.1.Bits.length ac],iv a0.2.1,iv a0.2.2.1]),(10,29,.agg #[iv a0.1.W,iv a0.1.H,.slice ab a0.1.Bits.length ac]),(11,30,iv a0.2.1),(12,31,iv a0.2.2.1)],d,S,hz_of d,?_⟩⟩
 refine node_by (A:=anc_reduce_search_from_s7_1) 17 (by kernel_rfl) (by kernel_rfl) (by kernel_rfl) (by kernel_rfl) (by kernel_rfl) [9,10,11,12,8,13,0,1,2,3,4,5,6,7] (by kernel_rfl) (by decide) (by decide) (fD 8 (fD 8 (fD 8 (fD 8 (fD 8 (fD 8 (fD 8 (fD 8 (fY (fF ?_ (fF ?_ (fF ?_ (fF ?_ (fY (fN ?_ (fE 14 (fE 14 (trivial)))))))))))))))))) [] (fun q hq=>by cases hq) (fun hY=>absurd (hY 14 (by decide)) (by decide))
 ·exact fM 0 (some 4) d d d d (.inl d) d d d
 ·refine fJ [(19,_)] 1 [some 0] fun G a w S=>?_
  exact sExtract (vs:=[.agg #[iv a0.1.W,iv a0.1.H,.slice ab a0.1.Bits.length ac],iv a0.2.1,iv a0.2.2.1]) (.agg #[iv a0.1.W,iv a0.1.H,.slice ab a0.1.Bits.length ac]) S (wN d) d d d d (lb d) fun a S=>leafL ⟨d,S⟩
 ·refine fJ [(19,_)] 2 [some 0] fun G a w S=>?_
  exact sExtract (vs:=[.agg #[iv a0.1.W,iv a0.1.H,.slice ab a0.1.Bits.length ac],iv a0.2.1,iv a0.2.2.1]) (iv a0.2.1) S (wN d) d d d d (lb d) fun a S=>leafL ⟨d,S⟩
 ·refine fJ [(19,_)] 3 [some 0] fun G a w S=>?_
  exact sExtract (vs:=[.agg #[iv a0.1.W,iv a0.1.H,.slice ab a0.1.Bits.length ac],iv a0.2.1,iv a0.2.2.1]) (iv a0.2.2.1) S (wN d) d d d d (lb d) fun a S=>leafL ⟨d,S⟩
 refine ⟨_,[(4,.pointer (some ⟨aV,0,none⟩)),(29,.agg #[iv a0.1.W,iv a0.1.H,.slice ab a0.1.Bits.length ac])],d,(srcs_of [some 5,some 1] d d d),fun G a w S=>?_⟩
 refine sStore (p:=aV) (off:=0) (T:=24) (vs:=[iv 0,iv 0,.slice none 0 0]) (v:=.agg #[iv a0.1.W,iv a0.1.H,.slice ab a0.1.Bits.length ac]) 2 [iv a0.1.W,iv a0.1.H,.slice ab a0.1.Bits.length ac] S (wN d) d d d d d d d (by simp) d fun a w S=>leafL ⟨d,_,_,.inr ⟨[(15,5,iv a0.2.1),(16,6,iv a0.2.2.1)],d,S,hz_of d,?_⟩⟩
 refine node_by (A:=anc_reduce_search_from_s7_1) 17 (by kernel_rfl) (by kernel_rfl) (by kernel_rfl) (by kernel_rfl) (by kernel_rfl) [15,16,9,10,11,12,8,13,0,1,2,3,4,5,6,7] (by kernel_rfl) (by decide) (by decide) (fD 14 (fD 14 (fD 14 (fD 14 (fD 14 (fD 14 (fD 14 (fD 14 (fY (fD 14 (fD 14 (fF ?_ (fF ?_ (fY (fY (fF ?_ (fF ?_ (trivial)))))))))))))))))) [(0,.pointer (some ⟨bb0,0,none⟩)),(5,iv a0.2.1)] (fin_of [none,some 0] d (by kernel_rfl) (by kernel_rfl)) (fun _ a w S=>?_)
 ·refine fJ [(19,_)] 4 [some 2] fun G a w S=>?_
  exact sExtract (vs:=[.agg #[iv a0.1.W,iv a0.1.H,.slice ab a0.1.Bits.length ac],iv a0.2.1,iv a0.2.2.1]) (iv a0.2.1) S (wN d) d d d d (lb d) fun a S=>leafL ⟨d,S⟩
 ·refine fJ [(19,_)] 5 [some 2] fun G a w S=>?_
  exact sExtract (vs:=[.agg #[iv a0.1.W,iv a0.1.H,.slice ab a0.1.Bits.length ac],iv a0.2.1,iv a0.2.2.1]) (iv a0.2.2.1) S (wN d) d d d d (lb d) fun a S=>leafL ⟨d,S⟩
 ·exact fM 0 (some 4) d d d d (.inr d) d d d
 ·exact fM 1 (some 5) d d d d (.inr d) d d d
 have bm:=row_v (S.mem.hold (i:=2) (e:=eRow (rI .i64) 3 (.slice ad_0_1 p0.l.length cp_0_1) a0.2.2.2) d)
 rw [bm] at S
 exact leafT (⟨a0.2.1,a0.2.2.2,Option.some.inj h,ad_0_1,cp_0_1,S.fix [3,2] [1,2] (by decide) d d d⟩)
def anc_reduce_search_from_s6_0:List (List Nat):=[[],[0],[0,1],[0,1,2],[0,1,2,3],[],[5],[5,6],[5,6,7],[5,6,7,8],[0,1,2,3,4,5,6,7,8,9]]
def anc_reduce_search_from_s6_1:List (List Nat):=[[],[0],[0,1],[0,1,2],[],[4],[4,5],[4,5,6],[0,1,2,3,4,5,6,7],[0,1,2,3,4,5,6,7,8],[0,1,2,3,4,5,6,7,8,9],[0,1,2,3,4,5,6,7,8,9],[0,1,2,3,4,5,6,7,8,9],[],[0,1,2,3,4,5,6,7,8,9,10,13],[0,1,2,3,4,5,6,7,8,9,10,11,13,14],[0,1,2,3,4,5,6,7,8,9,10,11,12,13,14,15]]
def anc_reduce_search_from_s6_2:List (List Nat):=[[],[],[1],[1,2],[1,2,3],[],[5],[5,6],[5,6,7],[5,6,7,8],[5,6,7,8,9],[1,2,3,4,5,6,7,8,9,10],[0,1,2,3,4,5,6,7,8,9,10,11],[0,1,2,3,4,5,6,7,8,9,10,11,12],[0,1,2,3,4,5,6,7,8,9,10,11,12,13]]
noncomputable def reduce_search_from_s6_l1 (p0:reduce_search) (p1:Int):(Int × Int × Int × Int × List Int × List Int × Int)→Option ((Int × Int × Int × Int × List Int × List Int × Int) ⊕ (Int × Int × Int × List Int × List Int × Int)):=fun s0=>match s0 with
 | (a2,a3,a4,a5,a6,a7,a8)=>
  if decide (a2 < (if p0.k < (w64 (p1 + 1)) then p0.k else w64 (p1 + 1))) then
   (appO a6 ([a2]:List Int)).bind fun a9=>
   (F_reduce_search_from_s7 (reduce_search.mk (api_Grid.mk a3 a4 p0.g.Bits) a5 a9 a7 a8) (if p1 < (w64 (a2 + 1)) then w64 (a2 + 1) else p1)).bind fun a0=>
   (sliceO a0.l 0 (w64 ((a0.l.length:Int) - 1))).bind fun aa=>
   some (.inl (w64 (a2 + 1),a0.g.W,a0.g.H,a0.k,aa,a0.best,a0.least))
  else
   some (.inr (a3,a4,a5,a6,a7,a8))
noncomputable def F_reduce_search_from_s6 (p0:reduce_search) (p1:Int):Option reduce_search:=
 if (p0.l.length:Int) == p0.g.W then
  Option.bind (α:=(List Int × List Int × Int)) (
   Option.bind (α:=(Int × List Int)) (
    (F_reduce_Change_s1 p0.g p0.l).bind fun a2=>
    some (a2.2.1,a2.2.2.2)) fun (a3,a4)=>
   Option.bind (α:=Bool) (
    if p0.best.isEmpty then
     some true
    else
     some (decide (a3 < p0.least))) fun a5=>
   if a5 then
    (F_slices_Clone___int_int__s1 a4).bind fun a0=>
    (neO a0.1).bind fun af=>
    some (a0.2,a0.1,a3)
   else
    some (a4,p0.best,p0.least)) fun (o8,a6,a7)=>
  some (reduce_search.mk p0.g p0.k o8 a6 a7)
 else
  (whileO (reduce_search_from_s6_l1 p0 p1) (0,p0.g.W,p0.g.H,p0.k,p0.l,p0.best,p0.least)).bind fun (a8,a9,aa,ab,ac,ae)=>
   some (reduce_search.mk (api_Grid.mk a8 a9 p0.g.Bits) aa ab ac ae)
theorem c_reduce_search_from_s6 (E:Nat→Prop) (w0:World) (p0:reduce_search) (bb0:Nat) (u_0_0:Value) (ad_0_1:Option Addr) (cp_0_1:Nat) (u_0_2:Value) (p1:Int) (r:reduce_search) (h:F_reduce_search_from_s6 p0 p1=some r) (S:St0 E (keysL [eBox bb0 68 [iv p0.g.W,iv p0.g.H,u_0_0,iv p0.k,.slice ad_0_1 p0.l.length cp_0_1,u_0_2,iv p0.least],eRow (rI .i64) 3 (.slice ad_0_1 p0.l.length cp_0_1) p0.l]) w0 w0 [eBox bb0 68 [iv p0.g.W,iv p0.g.H,u_0_0,iv p0.k,.slice ad_0_1 p0.l.length cp_0_1,u_0_2,iv p0.least],eRow (rI .i64) 3 (.slice ad_0_1 p0.l.length cp_0_1) p0.l] [fRep (rL rB) (u_0_0) p0.g.Bits,fRep (rLz (rI .i64)) (u_0_2) p0.best]) :
 Calls Try.prog 41 #[.pointer (some ⟨bb0,0,none⟩),iv p1] w0 (Ret (X:=Option Addr × Nat × Value) E (keysL [eBox bb0 68 [iv p0.g.W,iv p0.g.H,u_0_0,iv p0.k,.slice ad_0_1 p0.l.length cp_0_1,u_0_2,iv p0.least],eRow (rI .i64) 3 (.slice ad_0_1 p0.l.length cp_0_1) p0.l]) w0 (fun _=>.tuple #[]) (fun x=>[eBox bb0 68 [iv r.g.W,iv r.g.H,u_0_0,iv r.k,.slice x.1 r.l.length x.2.1,x.2.2,iv r.least],eRow (rI .i64) 3 (.slice x.1 r.l.length x.2.1) r.l]) (fun x=>[fRep (rLz (rI .i64)) x.2.2 r.best])):=by
 unfold F_reduce_search_from_s6 at h
 obtain ⟨a2,a3,_,rfl,_⟩:=S.know (i:=0) (e:=fRep (rL rB) (u_0_0) p0.g.Bits) d
 obtain ⟨⟨ak,al,_,rfl,_⟩,_⟩:=S.know (i:=1) (e:=fRep (rLz (rI .i64)) (u_0_2) p0.best) d
 generalize (keysL [eBox bb0 68 [iv p0.g.W,iv p0.g.H,.slice a2 p0.g.Bits.length a3,iv p0.k,.slice ad_0_1 p0.l.length cp_0_1,.slice ak p0.best.length al,iv p0.least],eRow (rI .i64) 3 (.slice ad_0_1 p0.l.length cp_0_1) p0.l])=M9 at S ⊢
 refine sEnter (args:=[.pointer (some ⟨bb0,0,none⟩),iv p1]) 98 Try.func41 d d (by simp) S (fun a S=>?_)
 refine sSeq (fun K5 bn=>sSeq (fun K6 bo=>sDraw (nf:=[]) (W:=[(0,8,.pointer (some ⟨bb0,0,none⟩)),(1,9,.pointer (some ⟨bb0,0,none⟩)),(2,10,.pointer (some ⟨bb0,4,none⟩)),(3,11,.slice ad_0_1 p0.l.length cp_0_1),(4,12,iv (p0.l.length:Int)),(5,13,.pointer (some ⟨bb0,0,none⟩)),(6,14,.pointer (some ⟨bb0,0,none⟩)),(7,15,.pointer (some ⟨bb0,0,none⟩)),(8,16,.pointer (some ⟨bb0,0,none⟩)),(9,17,iv p0.g.W),(10,18,.bool ((p0.l.length:Int) == p0.g.W))]) d S ?_))
 refine node_by (A:=anc_reduce_search_from_s6_0) 11 (by kernel_rfl) (by kernel_rfl) (by kernel_rfl) (by kernel_rfl) (by kernel_rfl) [0,1,2,3,4,5,6,7,8,9,10] (by kernel_rfl) (by decide) (by decide) (fF ?_ (fF ?_ (fF ?_ (fF ?_ (fF ?_ (fF ?_ (fF ?_ (fF ?_ (fF ?_ (fF ?_ (fF ?_ (trivial)))))))))))) [(0,.pointer (some ⟨bb0,0,none⟩)),(1,iv p1),(18,.bool ((p0.l.length:Int) == p0.g.W))] (fin_of [none,none,some 10] d (by kernel_rfl) (by kernel_rfl)) (fun _ a w S=>?_)
 ·exact fM 0 none d d d d (.inl d) d d d
 ·refine fJ [(8,_)] 1 [some 0] fun G a w S=>?_
  exact nilCheck_ok (q:=⟨bb0,0,none⟩) S (wN d) d d d (lb d) fun a S=>leafL ⟨d,S⟩
 ·refine fJ [(9,_)] 2 [some 1] fun G a w S=>?_
  exact sField (b:=bb0) (off:=0) 4 4 S (wN d) d d d d d (lb d) fun a S=>leafL ⟨d,S⟩
 ·refine fJ [(10,_)] 3 [some 2] fun G a w S=>?_
  exact sLoad1 0 (.slice ad_0_1 p0.l.length cp_0_1) S (wN d) d d d d d d (lb d) fun a S=>leafL ⟨d,S⟩
 ·refine fJ [(11,_)] 4 [some 3] fun G a w S=>?_
  exact sLen S (wN d) d Try.underlying25 d d (lb d) fun a S=>leafL ⟨d,S⟩
 ·exact fM 5 none d d d d (.inl d) d d d
 ·refine fJ [(13,_)] 6 [some 5] fun G a w S=>?_
  exact nilCheck_ok (q:=⟨bb0,0,none⟩) S (wN d) d d d (lb d) fun a S=>leafL ⟨d,S⟩
 ·refine fJ [(14,_)] 7 [some 6] fun G a w S=>?_
  exact sField (b:=bb0) (off:=0) 0 0 S (wN d) d d d d d (lb d) fun a S=>leafL ⟨d,S⟩
 ·refine fJ [(15,_)] 8 [some 7] fun G a w S=>?_
  exact sField (b:=bb0) (off:=0) 0 0 S (wN d) d d d d d (lb d) fun a S=>leafL ⟨d,S⟩
 ·refine fJ [(16,_)] 9 [some 8] fun G a w S=>?_
  exact sLoad1 0 (iv p0.g.W) S (wN d) d d d d d d (lb d) fun a S=>leafL ⟨d,S⟩
 ·refine fJ [(12,_),(17,_)] 10 [some 4,some 9] fun G a w S=>?_
  exact sBin _ S (wN d) d d d (bEq _ _ _ _ .i64 (p0.l.length:Int) p0.g.W) d (lb d) fun a S=>leafL ⟨d,S⟩
 refine leafT (bo _ _ ?_)
 rcases iS h with ⟨aW,h⟩ | ⟨aW,h⟩
 rotate_left
 ·refine sCondF S d aW (wp_skip (leafT (bn _ _ ?_)))
  refine sSeq (fun bz aX=>sRegion (sM S fun a S=>?_))
  refine sBin _ S (wN d) d d d (bAdd _ _ _ _ p1 1) d (lb d) fun a S=>sM S fun a S=>?_
  refine nilCheck_ok (q:=⟨bb0,0,none⟩) S (wN d) d d d (lb d) fun a S=>sField (b:=bb0) (off:=0) 3 3 S (wN d) d d d d d (lb d) fun a S=>sLoad1 0 (iv p0.k) S (wN d) d d d d d d (lb d) fun a S=>sMin2 (p:=w64 (p1 + 1)) (q:=p0.k) S (wN d) d d d d (lb d) fun a S=>sM S fun a S=>?_
  refine lT (aX _ _ (wp_block ?_))
  obtain ⟨bA,hl,bp⟩:=bS h
  refine sLoop hl (fun s0 a w=>match s0 with | (af,aJ,aK,aL,aA,ar,aM)=>∃ am,∃ ao,∃ ah,∃ ai,St [] E M9 w0 98 a w [(0,.pointer (some ⟨bb0,0,none⟩)),(1,iv p1),(63,iv (if p0.k < (w64 (p1 + 1)) then p0.k else w64 (p1 + 1))),(64,iv af)] [eBox bb0 68 [iv aJ,iv aK,.slice a2 p0.g.Bits.length a3,iv aL,.slice am aA.length ao,.slice ah ar.length ai,iv aM],eRow (rI .i64) 3 (.slice am aA.length ao) aA] [fRep (rL rB) (.slice a2 p0.g.Bits.length a3) p0.g.Bits,fRep (rLz (rI .i64)) (.slice ah ar.length ai) ar]) ⟨ad_0_1,cp_0_1,ak,al,S.fix [0,1] [0,1] (by decide) d d d⟩ ?_
  clear hl h
  intro s0 a w c0 hI h aZ
  obtain ⟨af,aJ,aK,aL,aA,ar,aM⟩:=s0
  unfold reduce_search_from_s6_l1 at h
  dsimp only at h hI
  obtain ⟨am,ao,ah,ai,S⟩:=hI
  refine sSeq (fun bB b1=>sRegion (sBin _ S (wN d) d d d (bLt _ _ _ _ .i64 af (if p0.k < (w64 (p1 + 1)) then p0.k else w64 (p1 + 1))) d (lb d) fun a S=>lT (b1 _ _ (sSeq (fun bC b3=>?_)))))
  rcases iS h with ⟨aC,h⟩ | ⟨aC,h⟩
  rotate_left
  ·refine sCondF S d aC ?_
   obtain rfl:=tS h
   obtain rfl:=aZ _ d
   have h:=bp
   try dsimp only at h
   obtain rfl:=tS h
   exact wp_exit (xThen (xThen (xHit (sEnd (.tuple #[]) S (rsl0 d ) ⟨(am,ao,(.slice ah ar.length ai)),d,S.mem.sel [0,1] [1] (by decide) d d⟩))))
  refine sCondT S d aC (wp_skip (leafT (b3 _ _ ?_)))
  refine sSeq (fun bD b4=>wp_block ?_)
  refine sSeq (fun bE b5=>sRegion (sM S fun a S=>?_))
  refine sN S fun a S=>?_
  refine lT (b5 _ _ (sSeq (fun bG b8=>sRegion (sM S fun a S=>?_))))
  refine sM S fun a S=>?_
  refine nilCheck_ok (q:=⟨bb0,0,none⟩) S (wN d) d d d (lb d) fun a S=>sField (b:=bb0) (off:=0) 4 4 S (wN d) d d d d d (lb d) fun a S=>sLoad1 0 (.slice am aA.length ao) S (wN d) d d d d d d (lb d) fun a S=>sM S fun a S=>?_
  refine sLit (r:=(rI .i64)) (T:=3) (xs:=([af]:List Int)) [(0,iv af)] 1 [iv af] [iv af] (iv 0) 8 S (wN d) d d Try.underlying25 d (by decide) (by decide) (by kernel_rfl) d (fun E1 w1 hE=>All.cons d (All.nil _ _ _)) d d (lb d) fun a w aO aP S=>?_
  obtain ⟨aH,b9,h⟩:=bS h
  refine sApp (r:=(rI .i64)) (T:=3) (xs:=aA) (ys:=([af]:List Int)) (v:=.slice am aA.length ao) (u:=.slice aO ([af]:List Int).length aP) 2 (iv 0) 8 S (wN d) d Try.underlying25 d d (by decide) d d d (src_R (T:=3) 0 S.mem d) b9 d (lb d) fun a w au av S=>nilCheck_ok (q:=⟨bb0,0,none⟩) S (wN d) d d d (lb d) fun a S=>sField (b:=bb0) (off:=0) 4 4 S (wN d) d d d d d (lb d) fun a S=>sStore (p:=bb0) (off:=4) (T:=68) (vs:=[iv aJ,iv aK,.slice a2 p0.g.Bits.length a3,iv aL,.slice am aA.length ao,.slice ah ar.length ai,iv aM]) (v:=.slice au aH.length av) 2 [.slice au aH.length av] S (wN d) d d d d d d d (by simp) d fun a w S=>lT (b8 _ _ (sSeq (fun bH ba=>sRegion (sM S fun a S=>?_))))
  refine sM S fun a S=>?_
  refine sM S fun a S=>?_
  refine sBin _ S (wN d) d d d (bAdd _ _ _ _ af 1) d (lb d) fun a S=>sMax2 (p:=p1) (q:=w64 (af + 1)) S (wN d) d d d d (lb d) fun a S=>?_
  obtain ⟨a4,bb,h⟩:=bS h
  refine sCall (X:=Option Addr × Nat × Value) (f:=41) (vs:=[.pointer (some ⟨bb0,0,none⟩),iv (if p1 < (w64 (af + 1)) then w64 (af + 1) else p1)]) (val:=fun _=>.tuple #[]) (B':=fun x=>[eBox bb0 68 [iv a4.g.W,iv a4.g.H,.slice a2 p0.g.Bits.length a3,iv a4.k,.slice x.1 a4.l.length x.2.1,x.2.2,iv a4.least],eRow (rI .i64) 3 (.slice x.1 a4.l.length x.2.1) a4.l]) (D':=fun x=>[fRep (rLz (rI .i64)) x.2.2 a4.best]) [eBox bb0 68 [iv aJ,iv aK,.slice a2 p0.g.Bits.length a3,iv aL,.slice au aH.length av,.slice ah ar.length ai,iv aM],eRow (rI .i64) 3 (.slice au aH.length av) aH] [eRow (rI .i64) 3 (.slice aO ([af]:List Int).length aP) ([af]:List Int)] [fRep (rL rB) (.slice a2 p0.g.Bits.length a3) p0.g.Bits,fRep (rLz (rI .i64)) (.slice ah ar.length ai) ar] [0,1,2] [0,1] S (wN d) d callee41 d (by decide) d d (fun E1 w1 S1=>c_reduce_search_from_s7 E1 w1 (reduce_search.mk (api_Grid.mk aJ aK p0.g.Bits) aL aH ar aM) bb0 (.slice a2 p0.g.Bits.length a3) au av (.slice ah ar.length ai) (if p1 < (w64 (af + 1)) then w64 (af + 1) else p1) a4 bb S1) d (lb d) fun xx a w S=>?_
  obtain ⟨a9,aa,bq⟩:=xx
  dsimp only at S
  obtain ⟨⟨aQ,aR,_,rfl,_⟩,_⟩:=S.mem.know (i:=0) (e:=fRep (rLz (rI .i64)) (bq) a4.best) d
  refine lT (ba _ _ ?_)
  obtain ⟨aS,bc,h⟩:=bS h
  refine sDraw (nf:=[11,14]) (W:=[(0,83,.pointer (some ⟨bb0,0,none⟩)),(1,84,.pointer (some ⟨bb0,0,none⟩)),(2,85,.pointer (some ⟨bb0,0,none⟩)),(3,86,.pointer (some ⟨bb0,4,none⟩)),(4,87,.slice a9 a4.l.length aa),(5,88,.pointer (some ⟨bb0,0,none⟩)),(6,89,.pointer (some ⟨bb0,0,none⟩)),(7,90,.pointer (some ⟨bb0,4,none⟩)),(8,91,.slice a9 a4.l.length aa),(9,92,iv (a4.l.length:Int)),(10,93,iv (w64 ((a4.l.length:Int) - 1)))]) d S ?_
  refine node_by (A:=anc_reduce_search_from_s6_2) 15 (by kernel_rfl) (by kernel_rfl) (by kernel_rfl) (by kernel_rfl) (by kernel_rfl) [0,1,2,3,4,5,6,7,8,9,10] (by kernel_rfl) (by decide) (by decide) (fF ?_ (fF ?_ (fF ?_ (fF ?_ (fF ?_ (fF ?_ (fF ?_ (fF ?_ (fF ?_ (fF ?_ (fF ?_ (fN ?_ (fE 11 (fE 11 (aB 14 0 11 (by decide) (trivial)))))))))))))))) [] (fun q hq=>by cases hq) (fun hY=>absurd (hY 11 (by decide)) (by decide))
  ·exact fM 0 none d d d d (.inl d) d d d
  ·exact fM 1 none d d d d (.inl d) d d d
  ·refine fJ [(84,_)] 2 [some 1] fun G a w S=>?_
   exact nilCheck_ok (q:=⟨bb0,0,none⟩) S (wN d) d d d (lb d) fun a S=>leafL ⟨d,S⟩
  ·refine fJ [(85,_)] 3 [some 2] fun G a w S=>?_
   exact sField (b:=bb0) (off:=0) 4 4 S (wN d) d d d d d (lb d) fun a S=>leafL ⟨d,S⟩
  ·refine fJ [(86,_)] 4 [some 3] fun G a w S=>?_
   exact sLoad1 0 (.slice a9 a4.l.length aa) S (wN d) d d d d d d (lb d) fun a S=>leafL ⟨d,S⟩
  ·exact fM 5 none d d d d (.inl d) d d d
  ·refine fJ [(88,_)] 6 [some 5] fun G a w S=>?_
   exact nilCheck_ok (q:=⟨bb0,0,none⟩) S (wN d) d d d (lb d) fun a S=>leafL ⟨d,S⟩
  ·refine fJ [(89,_)] 7 [some 6] fun G a w S=>?_
   exact sField (b:=bb0) (off:=0) 4 4 S (wN d) d d d d d (lb d) fun a S=>leafL ⟨d,S⟩
  ·refine fJ [(90,_)] 8 [some 7] fun G a w S=>?_
   exact sLoad1 0 (.slice a9 a4.l.length aa) S (wN d) d d d d d d (lb d) fun a S=>leafL ⟨d,S⟩
  ·refine fJ [(91,_)] 9 [some 8] fun G a w S=>?_
   exact sLen S (wN d) d Try.underlying25 d d (lb d) fun a S=>leafL ⟨d,S⟩
  ·refine fJ [(92,_)] 10 [some 9] fun G a w S=>?_
   exact sBin _ S (wN d) d d d (bSub _ _ _ _ (a4.l.length:Int) 1) d (lb d) fun a S=>leafL ⟨d,S⟩
  refine ⟨_,[(87,.slice a9 a4.l.length aa),(93,iv (w64 ((a4.l.length:Int) - 1)))],d,(srcs_of [some 4,some 10] d d d),fun G a w S=>?_⟩
  refine sSliceT (r:=(rI .i64)) (T:=3) (ad:=a9) (c:=aa) (xs:=a4.l) (vlo:=none) (vhi:=(some (.int .i64 (w64 ((a4.l.length:Int) - 1))))) (hi':=w64 ((a4.l.length:Int) - 1)) 1 S (wN d) d Try.underlying25 d d d d d (.inr d) (.inl d) bc d (lb d) fun a S=>?_
  refine leafL ⟨d,_,_,.inl ⟨94,(.slice a9 aS.length aa),[(12,95,.pointer (some ⟨bb0,0,none⟩)),(13,96,.pointer (some ⟨bb0,4,none⟩))],d,S,hz_of d,?_⟩⟩
  refine node_by (A:=anc_reduce_search_from_s6_2) 15 (by kernel_rfl) (by kernel_rfl) (by kernel_rfl) (by kernel_rfl) (by kernel_rfl) [12,13,11,0,1,2,3,4,5,6,7,8,9,10] (by kernel_rfl) (by decide) (by decide) (fF ?_ (fD 11 (fD 11 (fD 11 (fD 11 (fD 11 (fD 11 (fD 11 (fD 11 (fD 11 (fD 11 (fY (fF ?_ (fF ?_ (fN ?_ (trivial)))))))))))))))) [] (fun q hq=>by cases hq) (fun hY=>absurd (hY 14 (by decide)) (by decide))
  ·exact fM 3 none d d d d (.inl d) d d d
  ·refine fJ [(83,_)] 0 [some 3] fun G a w S=>?_
   exact nilCheck_ok (q:=⟨bb0,0,none⟩) S (wN d) d d d (lb d) fun a S=>leafL ⟨d,S⟩
  ·refine fJ [(95,_)] 1 [some 0] fun G a w S=>?_
   exact sField (b:=bb0) (off:=0) 4 4 S (wN d) d d d d d (lb d) fun a S=>leafL ⟨d,S⟩
  refine ⟨_,[(94,.slice a9 aS.length aa),(96,.pointer (some ⟨bb0,4,none⟩))],d,(srcs_of [some 2,some 1] d d d),fun G a w S=>?_⟩
  refine sStore (p:=bb0) (off:=4) (T:=68) (vs:=[iv a4.g.W,iv a4.g.H,.slice a2 p0.g.Bits.length a3,iv a4.k,.slice a9 a4.l.length aa,.slice aQ a4.best.length aR,iv a4.least]) (v:=.slice a9 aS.length aa) 1 [.slice a9 aS.length aa] S (wN d) d d d d d d d (by simp) d fun a w S=>leafL ⟨d,_,_,.inr ⟨[],d,S,hz_of d,?_⟩⟩
  refine node_by (A:=anc_reduce_search_from_s6_2) 15 (by kernel_rfl) (by kernel_rfl) (by kernel_rfl) (by kernel_rfl) (by kernel_rfl) [12,13,11,0,1,2,3,4,5,6,7,8,9,10] (by kernel_rfl) (by decide) (by decide) (fD 14 (fD 14 (fD 14 (fD 14 (fD 14 (fD 14 (fD 14 (fD 14 (fD 14 (fD 14 (fD 14 (fY (fD 14 (fD 14 (fY (trivial)))))))))))))))) [(0,.pointer (some ⟨bb0,0,none⟩)),(1,iv p1),(63,iv (if p0.k < (w64 (p1 + 1)) then p0.k else w64 (p1 + 1))),(64,iv af)] (fin_of [none,none,none,none] d (by kernel_rfl) (by kernel_rfl)) (fun _ a w S=>?_)
  refine leafB (leafT (b4 _ _ ?_))
  refine sRegion (sBin _ S (wN d) d d d (bAdd _ _ _ _ af 1) d (lb d) fun a S=>sM S fun a S=>?_)
  exact lT (⟨(w64 (af + 1),a4.g.W,a4.g.H,a4.k,aS,a4.best,a4.least),(Option.some.inj h).symm,⟨a9,aa,aQ,aR,S.fix [0,1] [1,0] (by decide) d d d⟩⟩)
 refine sCondT S d aW ?_
 obtain ⟨br,h,bt⟩:=bS h
 refine sCut (fun a w=>∃ o8,∃ aI,∃ bf,(o8,aI,bf)=br∧∃ aU,∃ ax,∃ ay,∃ az,St [] E M9 w0 98 a w [] [eBox bb0 68 [iv p0.g.W,iv p0.g.H,.slice a2 p0.g.Bits.length a3,iv p0.k,.slice aU o8.length ax,.slice ay aI.length az,iv bf],eRow (rI .i64) 3 (.slice aU o8.length ax) o8] [fRep (rL rB) (.slice a2 p0.g.Bits.length a3) p0.g.Bits,fRep (rLz (rI .i64)) (.slice ay aI.length az) aI]) ?_ (fun a w hI=>?_)
 rotate_left
 ·obtain ⟨o8,aI,bf,rfl,aU,ax,ay,az,S⟩:=hI
  have h:=bt
  try dsimp only at h
  obtain rfl:=tS h
  exact wp_ret (rThen (sRet (.tuple #[]) S (rsl0 d ) ⟨(aU,ax,(.slice ay aI.length az)),d,S.mem.sel [0,1] [1] (by decide) d d⟩))
 obtain ⟨bu,h,bv⟩:=bS h
 refine sCut (fun a w=>∃ aw,∃ aj,(aw,aj)=bu∧∃ a5,∃ a6,St [] E M9 w0 98 a w [(0,.pointer (some ⟨bb0,0,none⟩)),(5,iv aw)] [eBox bb0 68 [iv p0.g.W,iv p0.g.H,.slice a2 p0.g.Bits.length a3,iv p0.k,.slice a5 aj.length a6,.slice ak p0.best.length al,iv p0.least],eRow (rI .i64) 3 (.slice a5 aj.length a6) aj] [fRep (rL rB) (.slice a2 p0.g.Bits.length a3) p0.g.Bits,fRep (rLz (rI .i64)) (.slice ak p0.best.length al) p0.best]) ?_ (fun a w hI=>?_)
 rotate_left
 ·obtain ⟨aw,aj,rfl,a5,a6,S⟩:=hI
  have h:=bv
  try dsimp only at h
  obtain ⟨bw,h,bx⟩:=bS h
  refine sCut (fun a w=>∃ bg,bg=bw∧St [] E M9 w0 98 a w [(0,.pointer (some ⟨bb0,0,none⟩)),(5,iv aw),(44,.bool bg)] [eBox bb0 68 [iv p0.g.W,iv p0.g.H,.slice a2 p0.g.Bits.length a3,iv p0.k,.slice a5 aj.length a6,.slice ak p0.best.length al,iv p0.least],eRow (rI .i64) 3 (.slice a5 aj.length a6) aj] [fRep (rL rB) (.slice a2 p0.g.Bits.length a3) p0.g.Bits,fRep (rLz (rI .i64)) (.slice ak p0.best.length al) p0.best]) ?_ (fun a w hI=>?_)
  ·refine sRegion (sM S fun a S=>?_)
   refine nilCheck_ok (q:=⟨bb0,0,none⟩) S (wN d) d d d (lb d) fun a S=>sField (b:=bb0) (off:=0) 5 5 S (wN d) d d d d d (lb d) fun a S=>sLoad1 0 (.slice ak p0.best.length al) S (wN d) d d d d d d (lb d) fun a S=>sBin _ S (wN d) d d d (bEqNilZ _ _ _ _ Try.underlying25 ak (p0.best.length) (al) (rLz_is (S.mem.know (i:=1) (e:=fRep (rLz (rI .i64)) (.slice ak p0.best.length al) p0.best) d))) d (lb d) fun a S=>sM S fun a S=>?_
   rcases iS h with ⟨ae,h⟩ | ⟨ae,h⟩
   ·refine sSkN 6 5 false 37 S d d ae d fun a S=>sPickT (.bool true) S (wN d) d d ae d d (lb d) fun a S=>?_
    exact lT (⟨true,Option.some.inj h,S.fix [0,1] [0,1] (by decide) d d d⟩)
   refine sMove (iv aw) S (wG 5 false 37 d d d ae) (.inl d) d d (lb d) fun a S=>sMove (.pointer (some ⟨bb0,0,none⟩)) S (wG 5 false 37 d d d ae) (.inl d) d d (lb d) fun a S=>nilCheck_ok (q:=⟨bb0,0,none⟩) S (wG 5 false 37 d d d ae) d d d (lb d) fun a S=>sField (b:=bb0) (off:=0) 6 6 S (wG 5 false 37 d d d ae) d d d d d (lb d) fun a S=>sLoad1 0 (iv p0.least) S (wG 5 false 37 d d d ae) d d d d d d (lb d) fun a S=>sBin _ S (wG 5 false 37 d d d ae) d d d (bLt _ _ _ _ .i64 aw p0.least) d (lb d) fun a S=>sPickF (.bool (decide (aw < p0.least))) S (wN d) d d ae d d (lb d) fun a S=>?_
   exact lT (⟨decide (aw < p0.least),Option.some.inj h,S.fix [0,1] [0,1] (by decide) d d d⟩)
  obtain ⟨bg,rfl,S⟩:=hI
  have h:=bx
  try dsimp only at h
  rcases iS h with ⟨aG,h⟩ | ⟨aG,h⟩
  rotate_left
  ·refine sCondF S d aG ?_
   exact wp_skip (leafT (⟨aj,p0.best,p0.least,Option.some.inj h,a5,a6,ak,al,S.fix [0,1] [0,1] (by decide) d d d⟩))
  refine sCondT S d aG (sRegion (sM S fun a S=>?_))
  refine sM S fun a S=>?_
  refine sM S fun a S=>?_
  refine nilCheck_ok (q:=⟨bb0,0,none⟩) S (wN d) d d d (lb d) fun a S=>sField (b:=bb0) (off:=0) 4 4 S (wN d) d d d d d (lb d) fun a S=>sLoad1 0 (.slice a5 aj.length a6) S (wN d) d d d d d d (lb d) fun a S=>?_
  obtain ⟨ag,bh,h⟩:=bS h
  refine sCall (X:=Option Addr × Nat) (f:=49) (vs:=[.slice a5 aj.length a6]) (val:=fun x=>.slice x.1 ag.1.length x.2) (B':=fun x=>[eRow (rI .i64) 3 (.slice x.1 ag.1.length x.2) ag.1,eRow (rI .i64) 3 (.slice a5 aj.length a6) ag.2]) (D':=fun _=>[]) [eRow (rI .i64) 3 (.slice a5 aj.length a6) aj] [eBox bb0 68 [iv p0.g.W,iv p0.g.H,.slice a2 p0.g.Bits.length a3,iv p0.k,.slice a5 aj.length a6,.slice ak p0.best.length al,iv p0.least]] [] [1,0] [] S (wN d) d callee49 d (by decide) d d (fun E1 w1 S1=>c_slices_Clone___int_int__s1 E1 w1 aj a5 a6 ag bh S1) d (lb d) fun xx a w S=>?_
  obtain ⟨ap,aq⟩:=xx
  dsimp only at S
  have bi:=row_v (S.mem.hold (i:=1) (e:=eRow (rI .i64) 3 (.slice a5 aj.length a6) ag.2) d)
  rw [bi] at S
  refine sM S fun a S=>?_
  refine nilCheck_ok (q:=⟨bb0,0,none⟩) S (wN d) d d d (lb d) fun a S=>sField (b:=bb0) (off:=0) 5 5 S (wN d) d d d d d (lb d) fun a S=>?_
  have S:=S.shutR (r:=(rI .i64)) (T:=3) (v:=.slice ap ag.1.length aq) (xs:=ag.1) 0 d
  obtain ⟨bI,bj,h⟩:=bS h
  have S:=S.learn (fRep (rLz (rI .i64)) (.slice ap ag.1.length aq) ag.1) (rLz_of (S.mem.know (i:=0) (e:=fRep (rL (rI .i64)) (.slice ap ag.1.length aq) ag.1) d) bj)
  refine sStore (p:=bb0) (off:=5) (T:=68) (vs:=[iv p0.g.W,iv p0.g.H,.slice a2 p0.g.Bits.length a3,iv p0.k,.slice a5 ag.2.length a6,.slice ak p0.best.length al,iv p0.least]) (v:=.slice ap ag.1.length aq) 1 [.slice ap ag.1.length aq] S (wN d) d d d d d d d (by simp) d fun a w S=>nilCheck_ok (q:=⟨bb0,0,none⟩) S (wN d) d d d (lb d) fun a S=>sField (b:=bb0) (off:=0) 6 6 S (wN d) d d d d d (lb d) fun a S=>sStore (p:=bb0) (off:=6) (T:=68) (vs:=[iv p0.g.W,iv p0.g.H,.slice a2 p0.g.Bits.length a3,iv p0.k,.slice a5 ag.2.length a6,.slice ap ag.1.length aq,iv p0.least]) (v:=iv aw) 0 [iv aw] S (wN d) d d d d d d d (by simp) d fun a w S=>?_
  exact lT (⟨ag.2,ag.1,aw,Option.some.inj h,a5,a6,ap,aq,S.fix [0,1] [2,0] (by decide) d d d⟩)
 obtain ⟨a0,aT,h⟩:=bS h
 refine sDraw (nf:=[8,13,14]) (W:=[(0,20,.pointer (some ⟨bb0,0,none⟩)),(1,21,.pointer (some ⟨bb0,0,none⟩)),(2,22,.pointer (some ⟨bb0,0,none⟩)),(3,23,.agg #[iv p0.g.W,iv p0.g.H,.slice a2 p0.g.Bits.length a3]),(4,24,.pointer (some ⟨bb0,0,none⟩)),(5,25,.pointer (some ⟨bb0,0,none⟩)),(6,26,.pointer (some ⟨bb0,4,none⟩)),(7,27,.slice ad_0_1 p0.l.length cp_0_1)]) d S ?_
 refine node_by (A:=anc_reduce_search_from_s6_1) 17 (by kernel_rfl) (by kernel_rfl) (by kernel_rfl) (by kernel_rfl) (by kernel_rfl) [0,1,2,3,4,5,6,7] (by kernel_rfl) (by decide) (by decide) (fF ?_ (fF ?_ (fF ?_ (fF ?_ (fF ?_ (fF ?_ (fF ?_ (fF ?_ (fN ?_ (fE 8 (fE 8 (fE 8 (fE 8 (fN ?_ (aB 14 2 8 (by decide) (fE 8 (fE 8 (trivial)))))))))))))))))) [] (fun q hq=>by cases hq) (fun hY=>absurd (hY 8 (by decide)) (by decide))
 ·exact fM 0 none d d d d (.inl d) d d d
 ·refine fJ [(20,_)] 1 [some 0] fun G a w S=>?_
  exact nilCheck_ok (q:=⟨bb0,0,none⟩) S (wN d) d d d (lb d) fun a S=>leafL ⟨d,S⟩
 ·refine fJ [(21,_)] 2 [some 1] fun G a w S=>?_
  exact sField (b:=bb0) (off:=0) 0 0 S (wN d) d d d d d (lb d) fun a S=>leafL ⟨d,S⟩
 ·refine fJ [(22,_)] 3 [some 2] fun G a w S=>?_
  exact sLoadN (p:=bb0) (off:=0) (T:=68) (vs:=[iv p0.g.W,iv p0.g.H,.slice a2 p0.g.Bits.length a3,iv p0.k,.slice ad_0_1 p0.l.length cp_0_1,.slice ak p0.best.length al,iv p0.least]) 0 [iv p0.g.W,iv p0.g.H,.slice a2 p0.g.Bits.length a3] S (wN d) d d d d d d d (lb d) fun a S=>leafL ⟨d,S⟩
 ·exact fM 4 none d d d d (.inl d) d d d
 ·refine fJ [(24,_)] 5 [some 4] fun G a w S=>?_
  exact nilCheck_ok (q:=⟨bb0,0,none⟩) S (wN d) d d d (lb d) fun a S=>leafL ⟨d,S⟩
 ·refine fJ [(25,_)] 6 [some 5] fun G a w S=>?_
  exact sField (b:=bb0) (off:=0) 4 4 S (wN d) d d d d d (lb d) fun a S=>leafL ⟨d,S⟩
 ·refine fJ [(26,_)] 7 [some 6] fun G a w S=>?_
  exact sLoad1 0 (.slice ad_0_1 p0.l.length cp_0_1) S (wN d) d d d d d d (lb d) fun a S=>leafL ⟨d,S⟩
 ·refine ⟨_,[(23,.agg #[iv p0.g.W,iv p0.g.H,.slice a2 p0.g.Bits.length a3]),(27,.slice ad_0_1 p0.l.length cp_0_1)],d,(srcs_of [some 3,some 7] d d d),fun G a w S=>?_⟩
  have S:=S.learn (fRep r_api_Grid (.agg #[iv p0.g.W,iv p0.g.H,.slice a2 p0.g.Bits.length a3]) p0.g) ⟨_,d,S.mem.know (i:=0) (e:=fRep (rL rB) (.slice a2 p0.g.Bits.length a3) p0.g.Bits) d⟩
  refine sCall (X:=Option Addr × Nat) (f:=12) (vs:=[.agg #[iv p0.g.W,iv p0.g.H,.slice a2 p0.g.Bits.length a3],.slice ad_0_1 p0.l.length cp_0_1]) (val:=fun x=>.tuple #[.agg #[iv a0.1.W,iv a0.1.H,.slice x.1 a0.1.Bits.length x.2],iv a0.2.1,iv a0.2.2.1]) (B':=fun x=>[eRow rB 4 (.slice x.1 a0.1.Bits.length x.2) a0.1.Bits,eRow (rI .i64) 3 (.slice ad_0_1 p0.l.length cp_0_1) a0.2.2.2]) (D':=fun _=>[]) [eRow (rI .i64) 3 (.slice ad_0_1 p0.l.length cp_0_1) p0.l] [eBox bb0 68 [iv p0.g.W,iv p0.g.H,.slice a2 p0.g.Bits.length a3,iv p0.k,.slice ad_0_1 p0.l.length cp_0_1,.slice ak p0.best.length al,iv p0.least]] [fRep r_api_Grid (.agg #[iv p0.g.W,iv p0.g.H,.slice a2 p0.g.Bits.length a3]) p0.g] [1,0] [0] S (wN d) d callee12 d (by decide) d d (fun E1 w1 S1=>c_reduce_Change_s1 E1 w1 p0.g (.agg #[iv p0.g.W,iv p0.g.H,.slice a2 p0.g.Bits.length a3]) p0.l ad_0_1 cp_0_1 a0 aT S1) d (lb d) fun xx a w S=>?_
  obtain ⟨a7,a8⟩:=xx
  dsimp only at S
  refine leafL ⟨d,_,_,.inl ⟨28,(.tuple #[.agg #[iv a0.1.W,iv a0.1.H,.slice a7 a0.1.Bits.length a8],iv a0.2.1,iv a0.2.2.1]),[(9,19,.tuple #[.agg #[iv a0.1.W,iv a0.1.H,.slice a7 a0.1.Bits.length a8],iv a0.2.1,iv a0.2.2.1]),(10,29,.agg #[iv a0.1.W,iv a0.1.H,.slice a7 a0.1.Bits.length a8]),(11,30,iv a0.2.1),(12,31,iv a0.2.2.1)],d,S,hz_of d,?_⟩⟩
  refine node_by (A:=anc_reduce_search_from_s6_1) 17 (by kernel_rfl) (by kernel_rfl) (by kernel_rfl) (by kernel_rfl) (by kernel_rfl) [9,10,11,12,8,0,1,2,3,4,5,6,7] (by kernel_rfl) (by decide) (by decide) (fD 8 (fD 8 (fD 8 (fD 8 (fD 8 (fD 8 (fD 8 (fD 8 (fY (fF ?_ (fF ?_ (fF ?_ (fF ?_ (fN ?_ (aB 14 2 13 (by decide) (fE 13 (fE 13 (trivial)))))))))))))))))) [] (fun q hq=>by cases hq) (fun hY=>absurd (hY 13 (by decide)) (by decide))
  ·exact fM 0 (some 4) d d d d (.inl d) d d d
  ·refine fJ [(19,_)] 1 [some 0] fun G a w S=>?_
   exact sExtract (vs:=[.agg #[iv a0.1.W,iv a0.1.H,.slice a7 a0.1.Bits.length a8],iv a0.2.1,iv a0.2.2.1]) (.agg #[iv a0.1.W,iv a0.1.H,.slice a7 a0.1.Bits.length a8]) S (wN d) d d d d (lb d) fun a S=>leafL ⟨d,S⟩
  ·refine fJ [(19,_)] 2 [some 0] fun G a w S=>?_
   exact sExtract (vs:=[.agg #[iv a0.1.W,iv a0.1.H,.slice a7 a0.1.Bits.length a8],iv a0.2.1,iv a0.2.2.1]) (iv a0.2.1) S (wN d) d d d d (lb d) fun a S=>leafL ⟨d,S⟩
  ·refine fJ [(19,_)] 3 [some 0] fun G a w S=>?_
   exact sExtract (vs:=[.agg #[iv a0.1.W,iv a0.1.H,.slice a7 a0.1.Bits.length a8],iv a0.2.1,iv a0.2.2.1]) (iv a0.2.2.1) S (wN d) d d d d (lb d) fun a S=>leafL ⟨d,S⟩
  refine ⟨_,[],d,(srcs_of [] d d d),fun G a w S=>?_⟩
  refine sAlloc (.agg #[iv 0,iv 0,.slice none 0 0]) S (wN d) d d [iv 0,iv 0,.slice none 0 0] d d (lb d) fun a bk w S=>leafL ⟨d,_,_,.inl ⟨4,(.pointer (some ⟨bk,0,none⟩)),[],d,S,hz_of d,?_⟩⟩
  refine node_by (A:=anc_reduce_search_from_s6_1) 17 (by kernel_rfl) (by kernel_rfl) (by kernel_rfl) (by kernel_rfl) (by kernel_rfl) [13,9,10,11,12,8,0,1,2,3,4,5,6,7] (by kernel_rfl) (by decide) (by decide) (fD 8 (fD 8 (fD 8 (fD 8 (fD 8 (fD 8 (fD 8 (fD 8 (fY (fF ?_ (fF ?_ (fF ?_ (fF ?_ (fY (fN ?_ (fE 14 (fE 14 (trivial)))))))))))))))))) [] (fun q hq=>by cases hq) (fun hY=>absurd (hY 14 (by decide)) (by decide))
  ·exact fM 1 (some 5) d d d d (.inl d) d d d
  ·refine fJ [(19,_)] 2 [some 1] fun G a w S=>?_
   exact sExtract (vs:=[.agg #[iv a0.1.W,iv a0.1.H,.slice a7 a0.1.Bits.length a8],iv a0.2.1,iv a0.2.2.1]) (.agg #[iv a0.1.W,iv a0.1.H,.slice a7 a0.1.Bits.length a8]) S (wN d) d d d d (lb d) fun a S=>leafL ⟨d,S⟩
  ·refine fJ [(19,_)] 3 [some 1] fun G a w S=>?_
   exact sExtract (vs:=[.agg #[iv a0.1.W,iv a0.1.H,.slice a7 a0.1.Bits.length a8],iv a0.2.1,iv a0.2.2.1]) (iv a0.2.1) S (wN d) d d d d (lb d) fun a S=>leafL ⟨d,S⟩
  ·refine fJ [(19,_)] 4 [some 1] fun G a w S=>?_
   exact sExtract (vs:=[.agg #[iv a0.1.W,iv a0.1.H,.slice a7 a0.1.Bits.length a8],iv a0.2.1,iv a0.2.2.1]) (iv a0.2.2.1) S (wN d) d d d d (lb d) fun a S=>leafL ⟨d,S⟩
  refine ⟨_,[(4,.pointer (some ⟨bk,0,none⟩)),(29,.agg #[iv a0.1.W,iv a0.1.H,.slice a7 a0.1.Bits.length a8])],d,(srcs_of [some 0,some 2] d d d),fun G a w S=>?_⟩
  refine sStore (p:=bk) (off:=0) (T:=24) (vs:=[iv 0,iv 0,.slice none 0 0]) (v:=.agg #[iv a0.1.W,iv a0.1.H,.slice a7 a0.1.Bits.length a8]) 0 [iv a0.1.W,iv a0.1.H,.slice a7 a0.1.Bits.length a8] S (wN d) d d d d d d d (by simp) d fun a w S=>leafL ⟨d,_,_,.inr ⟨[(15,5,iv a0.2.1),(16,6,iv a0.2.2.1)],d,S,hz_of d,?_⟩⟩
  refine node_by (A:=anc_reduce_search_from_s6_1) 17 (by kernel_rfl) (by kernel_rfl) (by kernel_rfl) (by kernel_rfl) (by kernel_rfl) [15,16,13,9,10,11,12,8,0,1,2,3,4,5,6,7] (by kernel_rfl) (by decide) (by decide) (fD 14 (fD 14 (fD 14 (fD 14 (fD 14 (fD 14 (fD 14 (fD 14 (fY (fD 14 (fD 14 (fF ?_ (fF ?_ (fY (fY (fF ?_ (fF ?_ (trivial)))))))))))))))))) [(0,.pointer (some ⟨bb0,0,none⟩)),(5,iv a0.2.1)] (fin_of [none,some 0] d (by kernel_rfl) (by kernel_rfl)) (fun _ a w S=>?_)
  ·refine fJ [(19,_)] 5 [some 3] fun G a w S=>?_
   exact sExtract (vs:=[.agg #[iv a0.1.W,iv a0.1.H,.slice a7 a0.1.Bits.length a8],iv a0.2.1,iv a0.2.2.1]) (iv a0.2.1) S (wN d) d d d d (lb d) fun a S=>leafL ⟨d,S⟩
  ·refine fJ [(19,_)] 6 [some 3] fun G a w S=>?_
   exact sExtract (vs:=[.agg #[iv a0.1.W,iv a0.1.H,.slice a7 a0.1.Bits.length a8],iv a0.2.1,iv a0.2.2.1]) (iv a0.2.2.1) S (wN d) d d d d (lb d) fun a S=>leafL ⟨d,S⟩
  ·exact fM 0 (some 5) d d d d (.inr d) d d d
  ·exact fM 1 (some 6) d d d d (.inr d) d d d
  have bl:=row_v (S.mem.hold (i:=2) (e:=eRow (rI .i64) 3 (.slice ad_0_1 p0.l.length cp_0_1) a0.2.2.2) d)
  rw [bl] at S
  exact leafT (⟨a0.2.1,a0.2.2.2,Option.some.inj h,ad_0_1,cp_0_1,S.fix [3,2] [1,2] (by decide) d d d⟩)
 refine ⟨_,[],d,(srcs_of [] d d d),fun G a w S=>?_⟩
 refine sAlloc (.agg #[iv 0,iv 0,.slice none 0 0]) S (wN d) d d [iv 0,iv 0,.slice none 0 0] d d (lb d) fun a aV w S=>leafL ⟨d,_,_,.inl ⟨4,(.pointer (some ⟨aV,0,none⟩)),[],d,S,hz_of d,?_⟩⟩
 refine node_by (A:=anc_reduce_search_from_s6_1) 17 (by kernel_rfl) (by kernel_rfl) (by kernel_rfl) (by kernel_rfl) (by kernel_rfl) [13,0,1,2,3,4,5,6,7] (by kernel_rfl) (by decide) (by decide) (fF ?_ (fF ?_ (fF ?_ (fF ?_ (fF ?_ (fF ?_ (fF ?_ (fF ?_ (fN ?_ (fE 8 (fE 8 (fE 8 (fE 8 (fY (aB 14 2 8 (by decide) (fE 8 (fE 8 (trivial)))))))))))))))))) [] (fun q hq=>by cases hq) (fun hY=>absurd (hY 8 (by decide)) (by decide))
 ·exact fM 1 none d d d d (.inl d) d d d
 ·refine fJ [(20,_)] 2 [some 1] fun G a w S=>?_
  exact nilCheck_ok (q:=⟨bb0,0,none⟩) S (wN d) d d d (lb d) fun a S=>leafL ⟨d,S⟩
 ·refine fJ [(21,_)] 3 [some 2] fun G a w S=>?_
  exact sField (b:=bb0) (off:=0) 0 0 S (wN d) d d d d d (lb d) fun a S=>leafL ⟨d,S⟩
 ·refine fJ [(22,_)] 4 [some 3] fun G a w S=>?_
  exact sLoadN (p:=bb0) (off:=0) (T:=68) (vs:=[iv p0.g.W,iv p0.g.H,.slice a2 p0.g.Bits.length a3,iv p0.k,.slice ad_0_1 p0.l.length cp_0_1,.slice ak p0.best.length al,iv p0.least]) 1 [iv p0.g.W,iv p0.g.H,.slice a2 p0.g.Bits.length a3] S (wN d) d d d d d d d (lb d) fun a S=>leafL ⟨d,S⟩
 ·exact fM 5 none d d d d (.inl d) d d d
 ·refine fJ [(24,_)] 6 [some 5] fun G a w S=>?_
  exact nilCheck_ok (q:=⟨bb0,0,none⟩) S (wN d) d d d (lb d) fun a S=>leafL ⟨d,S⟩
 ·refine fJ [(25,_)] 7 [some 6] fun G a w S=>?_
  exact sField (b:=bb0) (off:=0) 4 4 S (wN d) d d d d d (lb d) fun a S=>leafL ⟨d,S⟩
 ·refine fJ [(26,_)] 8 [some 7] fun G a w S=>?_
  exact sLoad1 1 (.slice ad_0_1 p0.l.length cp_0_1) S (wN d) d d d d d d (lb d) fun a S=>leafL ⟨d,S⟩
 refine ⟨_,[(23,.agg #[iv p0.g.W,iv p0.g.H,.slice a2 p0.g.Bits.length a3]),(27,.slice ad_0_1 p0.l.length cp_0_1)],d,(srcs_of [some 4,some 8] d d d),fun G a w S=>?_⟩
 have S:=S.learn (fRep r_api_Grid (.agg #[iv p0.g.W,iv p0.g.H,.slice a2 p0.g.Bits.length a3]) p0.g) ⟨_,d,S.mem.know (i:=0) (e:=fRep (rL rB) (.slice a2 p0.g.Bits.length a3) p0.g.Bits) d⟩
 refine sCall (X:=Option Addr × Nat) (f:=12) (vs:=[.agg #[iv p0.g.W,iv p0.g.H,.slice a2 p0.g.Bits.length a3],.slice ad_0_1 p0.l.length cp_0_1]) (val:=fun x=>.tuple #[.agg #[iv a0.1.W,iv a0.1.H,.slice x.1 a0.1.Bits.length x.2],iv a0.2.1,iv a0.2.2.1]) (B':=fun x=>[eRow rB 4 (.slice x.1 a0.1.Bits.length x.2) a0.1.Bits,eRow (rI .i64) 3 (.slice ad_0_1 p0.l.length cp_0_1) a0.2.2.2]) (D':=fun _=>[]) [eRow (rI .i64) 3 (.slice ad_0_1 p0.l.length cp_0_1) p0.l] [eBox aV 24 [iv 0,iv 0,.slice none 0 0],eBox bb0 68 [iv p0.g.W,iv p0.g.H,.slice a2 p0.g.Bits.length a3,iv p0.k,.slice ad_0_1 p0.l.length cp_0_1,.slice ak p0.best.length al,iv p0.least]] [fRep r_api_Grid (.agg #[iv p0.g.W,iv p0.g.H,.slice a2 p0.g.Bits.length a3]) p0.g] [2,0,1] [0] S (wN d) d callee12 d (by decide) d d (fun E1 w1 S1=>c_reduce_Change_s1 E1 w1 p0.g (.agg #[iv p0.g.W,iv p0.g.H,.slice a2 p0.g.Bits.length a3]) p0.l ad_0_1 cp_0_1 a0 aT S1) d (lb d) fun xx a w S=>?_
 obtain ⟨ab,ac⟩:=xx
 dsimp only at S
 refine leafL ⟨d,_,_,.inl ⟨28,(.tuple #[.agg #[iv a0.1.W,iv a0.1.H,.slice ab a0.1.Bits.length ac],iv a0.2.1,iv a0.2.2.1]),[(9,19,.tuple #[.agg #[iv a0.1.W,iv a0.1.H,.slice ab a0.1.Bits.length ac],iv a0.2.1,iv a0.2.2.1]),(10,29,.agg #[iv a0.1.W,iv a0.1.H,.slice ab a0.1.Bits.length ac]),(11,30,iv a0.2.1),(12,31,iv a0.2.2.1)],d,S,hz_of d,?_⟩⟩
 refine node_by (A:=anc_reduce_search_from_s6_1) 17 (by kernel_rfl) (by kernel_rfl) (by kernel_rfl) (by kernel_rfl) (by kernel_rfl) [9,10,11,12,8,13,0,1,2,3,4,5,6,7] (by kernel_rfl) (by decide) (by decide) (fD 8 (fD 8 (fD 8 (fD 8 (fD 8 (fD 8 (fD 8 (fD 8 (fY (fF ?_ (fF ?_ (fF ?_ (fF ?_ (fY (fN ?_ (fE 14 (fE 14 (trivial)))))))))))))))))) [] (fun q hq=>by cases hq) (fun hY=>absurd (hY 14 (by decide)) (by decide))
 ·exact fM 0 (some 4) d d d d (.inl d) d d d
 ·refine fJ [(19,_)] 1 [some 0] fun G a w S=>?_
  exact sExtract (vs:=[.agg #[iv a0.1.W,iv a0.1.H,.slice ab a0.1.Bits.length ac],iv a0.2.1,iv a0.2.2.1]) (.agg #[iv a0.1.W,iv a0.1.H,.slice ab a0.1.Bits.length ac]) S (wN d) d d d d (lb d) fun a S=>leafL ⟨d,S⟩
 ·refine fJ [(19,_)] 2 [some 0] fun G a w S=>?_
  exact sExtract (vs:=[.agg #[iv a0.1.W,iv a0.1.H,.slice ab a0.1.Bits.length ac],iv a0.2.1,iv a0.2.2.1]) (iv a0.2.1) S (wN d) d d d d (lb d) fun a S=>leafL ⟨d,S⟩
 ·refine fJ [(19,_)] 3 [some 0] fun G a w S=>?_
  exact sExtract (vs:=[.agg #[iv a0.1.W,iv a0.1.H,.slice ab a0.1.Bits.length ac],iv a0.2.1,iv a0.2.2.1]) (iv a0.2.2.1) S (wN d) d d d d (lb d) fun a S=>leafL ⟨d,S⟩
 refine ⟨_,[(4,.pointer (some ⟨aV,0,none⟩)),(29,.agg #[iv a0.1.W,iv a0.1.H,.slice ab a0.1.Bits.length ac])],d,(srcs_of [some 5,some 1] d d d),fun G a w S=>?_⟩
 refine sStore (p:=aV) (off:=0) (T:=24) (vs:=[iv 0,iv 0,.slice none 0 0]) (v:=.agg #[iv a0.1.W,iv a0.1.H,.slice ab a0.1.Bits.length ac]) 2 [iv a0.1.W,iv a0.1.H,.slice ab a0.1.Bits.length ac] S (wN d) d d d d d d d (by simp) d fun a w S=>leafL ⟨d,_,_,.inr ⟨[(15,5,iv a0.2.1),(16,6,iv a0.2.2.1)],d,S,hz_of d,?_⟩⟩
 refine node_by (A:=anc_reduce_search_from_s6_1) 17 (by kernel_rfl) (by kernel_rfl) (by kernel_rfl) (by kernel_rfl) (by kernel_rfl) [15,16,9,10,11,12,8,13,0,1,2,3,4,5,6,7] (by kernel_rfl) (by decide) (by decide) (fD 14 (fD 14 (fD 14 (fD 14 (fD 14 (fD 14 (fD 14 (fD 14 (fY (fD 14 (fD 14 (fF ?_ (fF ?_ (fY (fY (fF ?_ (fF ?_ (trivial)))))))))))))))))) [(0,.pointer (some ⟨bb0,0,none⟩)),(5,iv a0.2.1)] (fin_of [none,some 0] d (by kernel_rfl) (by kernel_rfl)) (fun _ a w S=>?_)
 ·refine fJ [(19,_)] 4 [some 2] fun G a w S=>?_
  exact sExtract (vs:=[.agg #[iv a0.1.W,iv a0.1.H,.slice ab a0.1.Bits.length ac],iv a0.2.1,iv a0.2.2.1]) (iv a0.2.1) S (wN d) d d d d (lb d) fun a S=>leafL ⟨d,S⟩
 ·refine fJ [(19,_)] 5 [some 2] fun G a w S=>?_
  exact sExtract (vs:=[.agg #[iv a0.1.W,iv a0.1.H,.slice ab a0.1.Bits.length ac],iv a0.2.1,iv a0.2.2.1]) (iv a0.2.2.1) S (wN d) d d d d (lb d) fun a S=>leafL ⟨d,S⟩
 ·exact fM 0 (some 4) d d d d (.inr d) d d d
 ·exact fM 1 (some 5) d d d d (.inr d) d d d
 have bm:=row_v (S.mem.hold (i:=2) (e:=eRow (rI .i64) 3 (.slice ad_0_1 p0.l.length cp_0_1) a0.2.2.2) d)
 rw [bm] at S
 exact leafT (⟨a0.2.1,a0.2.2.2,Option.some.inj h,ad_0_1,cp_0_1,S.fix [3,2] [1,2] (by decide) d d d⟩)
end Go.Proofs.Ytapohhkdpkapoaa
