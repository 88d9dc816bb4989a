/- TopShape: walks, tables, laws. -/
import Derived.Test.YtnfjcalmangncaaProg
import Derived.Test.YtnfjcalmangncaaRows
import Derived.Test.YtnfjcalmangncaaMTopShape3
set_option linter.unusedVariables false
set_option linter.unusedSimpArgs false
set_option maxHeartbeats 4000000
set_option maxRecDepth 100000
namespace Go.Proofs.Ytnfjcalmangncaa
open Go.RowKit
noncomputable def chart_Counts_s0_l2 :List Int→(Int × chart_count)→Option (List Int ⊕ Empty):=fun s0 x0=>match s0,x0 with
 | a9,(ac,aa)=>
  (appO a9 ([aa.after]:List Int)).bind fun ab=>
  some (.inl ab)
noncomputable def F_chart_Counts_s0 (p0:api_Chart):Option ((List Int) × Int):=
 (F_chart_Check p0).bind fun r9=>
 if r9 != 0 then
  some (([]:(List Int)),r9)
 else
  (F_chart_counted_s0 p0).bind fun a9=>
  (I_chart_counted_1 a9 _ _ (chart_Counts_s0_l2) ([p0.Start]:List Int)).bind fun z0=>match z0 with
   | .inl aa=>
    some (aa,0)
   | .inr z0=>
    nomatch z0
theorem c_chart_Counts_s0 (E:Nat→Prop) (w0:World) (p0:api_Chart) (v0:Value) (r:((List Int) × Int)) (h:F_chart_Counts_s0 p0=some r) (S:St0 E [] w0 w0 [] [fRep r_api_Chart (v0) p0]) :
 Calls Try.prog 16 #[v0] w0 (Ret (X:=Option Addr × Nat) E [] w0 (fun x=>.tuple #[.slice x.1 r.1.length x.2,iv r.2]) (fun x=>[eRow (rI .i64) 3 (.slice x.1 r.1.length x.2) r.1]) (fun _=>[])):=by
 unfold F_chart_Counts_s0 at h
 obtain ⟨u1,rfl,aK⟩:=S.know (i:=0) (e:=fRep r_api_Chart (v0) p0) d
 have S:=S.learn (fRep (rL r_api_Row) u1 p0.Rows) aK
 obtain ⟨ag,ah,_,rfl,_⟩:=aK
 refine sEnterM (args:=[.agg #[iv p0.Start,.slice ag p0.Rows.length ah]]) 26 Try.func16 d d (by simp) S (fun a S=>?_)
 refine sSeq (fun K5 aQ=>sRegion (sBox (v:=.agg #[iv p0.Start,.slice ag p0.Rows.length ah]) S (wN d) d d [iv p0.Start,.slice ag p0.Rows.length ah] d d (lb d) fun a b6 w S=>sN S fun a S=>?_))
 refine sN S fun a S=>?_
 refine lT (aQ _ _ (sSeq (fun K7 aR=>sSeq (fun K8 aS=>sRegion (sLoadN (p:=b6) (off:=0) (T:=49) (vs:=[iv p0.Start,.slice ag p0.Rows.length ah]) 0 [iv p0.Start,.slice ag p0.Rows.length ah] S (wN d) d d d d d d d (lb d) fun a S=>?_)))))
 obtain ⟨r9,au,h⟩:=bS h
 have S1:=S.mem
 refine sCq [.agg #[iv p0.Start,.slice ag p0.Rows.length ah]] (iv r9) S callee42 (S1.quiet [1] d) (fun E1 w1 S1=>c_chart_Check E1 w1 p0 (.agg #[iv p0.Start,.slice ag p0.Rows.length ah]) r9 au S1) fun a w S=>?_
 refine sN S fun a S=>?_
 refine lT (aS _ _ (sSeq (fun aT av=>sRegion (sM S fun a S=>?_))))
 refine sBin _ S (wN d) d d d (bNe _ _ _ _ .i64 r9 0) d (lb d) fun a S=>lT (av _ _ ?_)
 rcases iS h with ⟨aj,h⟩ | ⟨aj,h⟩
 ·refine sCondT S d aj (sSeq (fun aU aw=>sRegion (sM S fun a S=>?_)))
  refine sN S fun a S=>?_
  refine sN S fun a S=>?_
  refine lT (aw _ _ ?_)
  obtain rfl:=tS h
  have S:=S.nilRow (rI .i64) 3 (α:=Int)
  exact wp_ret (rThen (sRetM0 (.tuple #[.slice none 0 0,iv r9]) S (rsl2 d (rvT (t:=2) (v:=.slice none 0 0) S d) (rvT (t:=3) (v:=iv r9) S d)) ⟨(none,0),d,S.mem.sel [0] [] (by decide) d d⟩))
 refine sCondF S d aj (wp_skip (leafT (aR _ _ ?_)))
 refine sSeq (fun aV ax=>sRegion (sField (b:=b6) (off:=0) 0 0 S (wN d) d d d d d (lb d) fun a S=>sLoad1 0 (iv p0.Start) S (wN d) d d d d d d (lb d) fun a S=>sLit (r:=(rI .i64)) (T:=3) (xs:=([p0.Start]:List Int)) [(0,iv p0.Start)] 1 [iv p0.Start] [iv p0.Start] (iv 0) 8 S (wN d) d d Try.underlying34 d (by decide) (by decide) (by kernel_rfl) d (fun E1 w1 hE=>All.cons d (All.nil _ _ _)) d d (lb d) fun a w ac ae S=>?_))
 refine sAlloc (.slice none 0 0) S (wN d) d d [.slice none 0 0] d d (lb d) fun a ai w S=>sStore (p:=ai) (off:=0) (T:=34) (vs:=[.slice none 0 0]) (v:=.slice ac ([p0.Start]:List Int).length ae) 0 [.slice ac ([p0.Start]:List Int).length ae] S (wN d) d d d d d d d (by simp) d fun a w S=>lT (ax _ _ (sSeq (fun aW ay=>sSeq (fun aX az=>sRegion (sLoadN (p:=b6) (off:=0) (T:=49) (vs:=[iv p0.Start,.slice ag p0.Rows.length ah]) 2 [iv p0.Start,.slice ag p0.Rows.length ah] S (wN d) d d d d d d d (lb d) fun a S=>?_)))))
 obtain ⟨ak,aA,h⟩:=bS h
 refine sCall (X:=Value) (f:=43) (vs:=[.agg #[iv p0.Start,.slice ag p0.Rows.length ah]]) (val:=c_chart_counted_s0_val ak) (B':=fun _=>[]) (D':=c_chart_counted_s0_D ak) [] [eBox ai 34 [.slice ac ([p0.Start]:List Int).length ae],eRow (rI .i64) 3 (.slice ac ([p0.Start]:List Int).length ae) ([p0.Start]:List Int),eBox b6 49 [iv p0.Start,.slice ag p0.Rows.length ah]] [fRep r_api_Chart (.agg #[iv p0.Start,.slice ag p0.Rows.length ah]) p0] [0,1,2] [1] S (wN d) d callee43 d (by decide) d d (fun E1 w1 S1=>c_chart_counted_s0 E1 w1 p0 (.agg #[iv p0.Start,.slice ag p0.Rows.length ah]) ak aA S1) d (lb d) fun aq a w S=>?_
 refine lT (az _ _ (wp_block ?_))
 obtain ⟨aZ,al,ar⟩:=bS h
 replace S:St [] E [] w0 26 a w [(5,.pointer (some ⟨ai,0,none⟩)),(17,.func (.func 68) #[] #[aq])] [eBox ai 34 [.slice ac ([p0.Start]:List Int).length ae],eRow (rI .i64) 3 (.slice ac ([p0.Start]:List Int).length ae) ([p0.Start]:List Int)] [fPtr r_api_Chart (aq) ak]:=S.fix [0,1] [0] (by decide) rfl rfl rfl
 refine sRange2 (B:=chart_Counts_s0_l2) (fun s0 L D=>match s0 with | af=>∃ a9,∃ aa,L=[eBox ai 34 [.slice a9 af.length aa],eRow (rI .i64) 3 (.slice a9 af.length aa) af]∧D=[fPtr r_api_Chart (aq) ak]) (fun _ _ _ _=>False) [0] S al d callee68 (it_chart_counted_1 ak aq) d (by decide) (by decide) ⟨ac,ae,d,d⟩ ?_ ?_ ?_
 ·intro E l0 af aL ab aM aO b L D K a w0 hK hIL hB S
  clear al ar h hK
  unfold chart_Counts_s0_l2 at hB
  dsimp only at hB hIL
  obtain ⟨a9,aa,rfl,rfl⟩:=hIL
  have h:=hB
  clear hB
  obtain rfl:aM=iv aL:=S.mem.know (i:=0) (e:=fRep (rI .i64) (aM) aL) d
  obtain rfl:aO=.agg #[iv ab.before,iv ab.after,iv ab.e]:=S.mem.know (i:=1) (e:=fRep r_chart_count (aO) ab) d
  refine sRegionR (by repeat (first | exact roundU_out | exact it_out | exact lo_false | refine lo_then ?_ | refine lo_block ?_)) d ?_
  refine sAlloc (.agg #[iv 0,iv 0,iv 0]) S (wN d) d d [iv 0,iv 0,iv 0] d d (lb d) fun a aP w S=>sStore (p:=aP) (off:=0) (T:=96) (vs:=[iv 0,iv 0,iv 0]) (v:=.agg #[iv ab.before,iv ab.after,iv ab.e]) 0 [iv ab.before,iv ab.after,iv ab.e] S (wN d) d d d d d d d (by simp) d fun a w S=>lT (⟨_,_,_,S,fun K a w0 hK S=>?_⟩)
  refine wpIn_block ?_
  refine sRegionR (by repeat (first | exact roundU_out | exact it_out | exact lo_false | refine lo_then ?_ | refine lo_block ?_)) d ?_
  refine sLoad1 1 (.slice a9 af.length aa) S (wN d) d d d d d d (lb d) fun a S=>sField (b:=aP) (off:=0) 1 1 S (wN d) d d d d d (lb d) fun a S=>sLoad1 0 (iv ab.after) S (wN d) d d d d d d (lb d) fun a S=>sLit (r:=(rI .i64)) (T:=3) (xs:=([ab.after]:List Int)) [(0,iv ab.after)] 1 [iv ab.after] [iv ab.after] (iv 0) 8 S (wN d) d d Try.underlying34 d (by decide) (by decide) (by kernel_rfl) d (fun E1 w1 hE=>All.cons d (All.nil _ _ _)) d d (lb d) fun a w aC aG S=>?_
  obtain ⟨aH,aI,h⟩:=bS h
  refine sApp (r:=(rI .i64)) (T:=3) (xs:=af) (ys:=([ab.after]:List Int)) (v:=.slice a9 af.length aa) (u:=.slice aC ([ab.after]:List Int).length aG) 3 (iv 0) 8 S (wN d) d Try.underlying34 d d (by decide) d d d (src_R (T:=3) 0 S.mem d) aI d (lb d) fun a w am ao S=>sStore (p:=ai) (off:=0) (T:=34) (vs:=[.slice a9 af.length aa]) (v:=.slice am aH.length ao) 3 [.slice am aH.length ao] S (wN d) d d d d d d d (by simp) d fun a w S=>?_
  exact leafL (leafB (rnN aH _ _ [] (Option.some.inj h) ⟨am,ao,d,d⟩ (S.fix [0,1] [2] (by decide) d d d)))
 ·intro ap af L D a w hr hIL S
  clear h
  obtain rfl:=hr
  dsimp only at ar hIL
  obtain ⟨a9,aa,rfl,rfl⟩:=hIL
  have h:=ar
  clear ar al
  replace S:St [mark ap] E [] w0 26 a w [(5,.pointer (some ⟨ai,0,none⟩)),(17,.func (.func 68) #[] #[aq])] [eBox ai 34 [.slice a9 af.length aa],eRow (rI .i64) 3 (.slice a9 af.length aa) af,eDef ap] [fPtr r_api_Chart (aq) ak]:=S
  refine leafB (leafT (ay _ _ ?_))
  refine sSeq (fun b8 aJ=>sRegion (sLoad1 0 (.slice a9 af.length aa) S (wN d) d d d d d d (lb d) fun a S=>sN S fun a S=>?_))
  refine sN S fun a S=>?_
  refine lT (aJ _ _ (wp_ret (sRetM1 2 S d (fun a w S=>?_))))
  obtain rfl:=tS h
  exact sFin (.tuple #[.slice a9 af.length aa,iv 0]) S (rsl2 d (rvT (t:=2) (v:=.slice a9 af.length aa) S d) (rvT (t:=3) (v:=iv 0) S d)) ⟨(a9,aa),d,S.mem.sel [1] [] (by decide) d d⟩
 ·intro ap c0 t0 L D a w hr hIX S
  clear h
  exact hIX.elim
def anc_chart_twin_s0_0:List (List Nat):=[[],[],[0,1],[0,1,2],[0,1,2,3],[],[5],[0,1,2,3,4,5,6]]
noncomputable def chart_twin_s0_l1 (p0:(List api_Row)):(List api_Row × Int)→Option ((List api_Row × Int) ⊕ List api_Row):=fun s0=>match s0 with
 | (aa,a9)=>
  if decide (a9 < (p0.length:Int)) then
   (idxO p0 a9).bind fun ab=>
   (makeO (ab.Cells.length:Int) (api_Stitch.mk 0 false 0 0)).bind fun ac=>
   (idxO aa a9).bind fun ae=>
   (setO aa a9 (api_Row.mk ae.Back (cpO ac ab.Cells))).bind fun af=>
   some (.inl (af,w64 (a9 + 1)))
  else
   some (.inr aa)
noncomputable def F_chart_twin_s0 (p0:(List api_Row)):Option (List api_Row):=
 (makeO (p0.length:Int) (api_Row.mk false ([]:(List api_Stitch)))).bind fun m7=>
 Option.bind (α:=List api_Row) (
  (whileO (chart_twin_s0_l1 p0) (cpO m7 p0,0)).bind fun a9=>
   some a9) fun aa=>
 some aa
theorem c_chart_twin_s0 (E:Nat→Prop) (w0:World) (p0:(List api_Row)) (v0:Value) (r:(List api_Row)) (h:F_chart_twin_s0 p0=some r) (S:St0 E [] w0 w0 [] [fRep (rL r_api_Row) (v0) p0]) :
 Calls Try.prog 62 #[v0] w0 (Ret (X:=Option Addr × Nat) E [] w0 (fun x=>.slice x.1 r.length x.2) (fun x=>[eRow r_api_Row 90 (.slice x.1 r.length x.2) r]) (fun _=>[])):=by
 unfold F_chart_twin_s0 at h
 obtain ⟨ao,ap,_,rfl,_⟩:=S.know (i:=0) (e:=fRep (rL r_api_Row) (v0) p0) d
 refine sEnter (args:=[.slice ao p0.length ap]) 37 Try.func62 d d (by simp) S (fun a S=>?_)
 refine sSeq (fun K3 aZ=>sRegion (sN S fun a S=>?_))
 refine lT (aZ _ _ (sSeq (fun K4 b8=>sRegion (sM S fun a S=>?_))))
 refine sLen S (wN d) d Try.underlying47 d d (lb d) fun a S=>?_
 obtain ⟨m7,ba,h⟩:=bS h
 refine sMakeG (r:=r_api_Row) (m:=(p0.length:Int)) (xs:=m7) (.agg #[.bool false,.slice none 0 0]) (api_Row.mk false ([]:(List api_Stitch))) 32 S (wN d) d Try.underlying47 d (by decide) (fun E w=>⟨_,d,rL_nil _ E w⟩) d d ba d (lb d) fun a w ac ae S=>?_
 refine sN S fun a S=>?_
 refine lT (b8 _ _ (sSeq (fun K9 bb=>sRegion (sM S fun a S=>?_))))
 refine sM S fun a S=>?_
 refine sCopyR (r:=r_api_Row) (T:=90) (xs:=m7) (ys:=p0) (v:=.slice ac m7.length ae) (u:=.slice ao p0.length ap) 0 0 S (wN d) d Try.underlying47 d d d d d d (lb d) fun a w S=>?_
 rw [cpO_v m7 p0 ac ae] at S
 refine lT (bb _ _ ?_)
 obtain ⟨bc,h,bf⟩:=bS h
 refine sCut (fun a w=>∃ al,al=bc∧St [] E [] w0 37 a w [(3,.slice ac al.length ae)] [eRow r_api_Row 90 (.slice ac al.length ae) al] []) ?_ (fun a w hI=>?_)
 rotate_left
 ·obtain ⟨al,rfl,S⟩:=hI
  have h:=bf
  try dsimp only at h
  refine sSeq (fun bm av=>sRegion (sM S fun a S=>?_))
  refine sN S fun a S=>?_
  refine lT (av _ _ ?_)
  obtain rfl:=tS h
  exact wp_ret (sRet (.slice ac al.length ae) S (rsl1 d (rvT (t:=2) (v:=.slice ac al.length ae) S d)) ⟨(ac,ae),d,S.mem.sel [0] [] (by decide) d d⟩)
 refine sSeq (fun bn aw=>sRegion (sM S fun a S=>?_))
 refine sLen S (wN d) d Try.underlying47 d d (lb d) fun a S=>sM S fun a S=>?_
 refine lT (aw _ _ (wp_block ?_))
 obtain ⟨bo,hl,bg⟩:=bS h
 refine sLoop hl (fun s0 a w=>match s0 with | (af,aj)=>St [] E [] w0 37 a w [(3,.slice ac af.length ae),(12,.slice ao p0.length ap),(13,iv (p0.length:Int)),(14,iv aj)] [eRow r_api_Row 90 (.slice ac af.length ae) af] [fRep (rL r_api_Row) (.slice ao p0.length ap) p0]) (S.fix [0] [0] (by decide) d d d) ?_
 clear hl h
 intro s0 a w c0 hI h ax
 obtain ⟨af,aj⟩:=s0
 unfold chart_twin_s0_l1 at h
 dsimp only at h hI
 have S:=hI
 refine sSeq (fun bp ay=>sRegion (sBin _ S (wN d) d d d (bLt _ _ _ _ .i64 aj (p0.length:Int)) d (lb d) fun a S=>lT (ay _ _ (sSeq (fun bq az=>?_)))))
 rcases iS h with ⟨am,h⟩ | ⟨am,h⟩
 rotate_left
 ·refine sCondF S d am ?_
  obtain rfl:=tS h
  obtain rfl:=ax _ d
  have h:=bg
  try dsimp only at h
  exact wp_exit (xThen (xThen (xHit (leafT (⟨af,Option.some.inj h,S.fix [0] [] (by decide) d d d⟩)))))
 refine sCondT S d am (wp_skip (leafT (az _ _ ?_)))
 refine sSeq (fun br aA=>wp_block ?_)
 refine sSeq (fun bt aC=>sRegion (sM S fun a S=>?_))
 obtain ⟨a9,aG,h⟩:=bS h
 obtain ⟨aU,aH,S⟩:=pIdx (P:=Try.prog) (r:=r_api_Row) (v:=.slice ao p0.length ap) (xs:=p0) (j:=aj) 47 90 0 S Try.underlying47 d d aG
 refine sIdxV S (wN d) d d d aH d (lb d) fun a S=>?_
 obtain ⟨bh,S⟩:=pLoad (r:=r_api_Row) (q:=aU) (x:=a9) 0 S d
 obtain ⟨bi,rfl,aq⟩:=S.mem.know (i:=1) (e:=fRep r_api_Row (bh) a9) d
 have S:=S.learn (fRep (rL r_api_Stitch) bi a9.Cells) aq
 obtain ⟨ag,ah,_,rfl,_⟩:=aq
 refine sLoadVN (vq:=aU) 1 [.bool a9.Back,.slice ag a9.Cells.length ah] S (wN d) d d d d d d (lb d) fun a S=>sAlloc (.agg #[.bool false,.slice none 0 0]) S (wN d) d d [.bool false,.slice none 0 0] d d (lb d) fun a au w S=>sN S fun a S=>?_
 refine sStore (p:=au) (off:=0) (T:=90) (vs:=[.bool false,.slice none 0 0]) (v:=.agg #[.bool a9.Back,.slice ag a9.Cells.length ah]) 0 [.bool a9.Back,.slice ag a9.Cells.length ah] S (wN d) d d d d d d d (by simp) d fun a w S=>lT (aC _ _ (sSeq (fun bu aI=>sRegion (sM S fun a S=>?_))))
 refine sM S fun a S=>?_
 refine sField (b:=au) (off:=0) 1 1 S (wN d) d d d d d (lb d) fun a S=>sLoad1 0 (.slice ag a9.Cells.length ah) S (wN d) d d d d d d (lb d) fun a S=>sLen S (wN d) d Try.underlying86 d d (lb d) fun a S=>?_
 obtain ⟨ai,aJ,h⟩:=bS h
 refine sMakeG (r:=r_api_Stitch) (m:=(a9.Cells.length:Int)) (xs:=ai) (.agg #[.int .u8 0,.bool false,iv 0,iv 0]) (api_Stitch.mk 0 false 0 0) 24 S (wN d) d Try.underlying86 d (by decide) (fun _ _=>d) d d aJ d (lb d) fun a w aa ab S=>?_
 obtain ⟨aK,ak,h⟩:=bS h
 obtain ⟨bj,aL,aM⟩:=pIdxR (P:=Try.prog) (r:=r_api_Row) (T:=90) (v:=.slice ac af.length ae) (xs:=af) (j:=aj) 47 90 2 S Try.underlying47 d d ak
 refine sIdxV S (wN d) d d d aL d (lb d) fun a S=>?_
 obtain ⟨bl,aO,aP⟩:=pFldR (P:=Try.prog) 90 1 1 aM d
 refine sFldV (q:=bj) S (wN d) d d aO d (lb d) fun a S=>sStoreH (r:=r_api_Row) (T:=90) (xs:=af) (x:=aK) (v:=.slice ac af.length ae) (vq:=bl) (u:=.slice aa ai.length ab) (j:=aj) 2 1 S aP (wN d) d d d d ak (lb d) d d d d fun a w S=>?_
 refine lT (aI _ _ ?_)
 obtain ⟨aV,ar,h⟩:=bS h
 obtain ⟨aW,aQ,aR⟩:=pIdxH (P:=Try.prog) (r:=r_api_Row) (T:=90) (v:=.slice ac af.length ae) (xs:=af) (j:=aj) 47 90 0 S Try.underlying47 d d ak
 obtain ⟨aX,aS,aT⟩:=pFldR (P:=Try.prog) 90 1 1 aR d
 refine sDraw (nf:=[7]) (W:=[(0,27,.slice ac af.length ae),(1,28,iv aj),(2,29,aW),(3,30,aX),(4,31,.slice aa ai.length ab),(5,32,.pointer (some ⟨au,1,none⟩)),(6,33,.slice ag a9.Cells.length ah)]) d S ?_
 refine node_by (A:=anc_chart_twin_s0_0) 8 (by kernel_rfl) (by kernel_rfl) (by kernel_rfl) (by kernel_rfl) (by kernel_rfl) [0,1,2,3,4,5,6] (by kernel_rfl) (by decide) (by decide) (fF ?_ (fF ?_ (fF ?_ (fF ?_ (fF ?_ (fF ?_ (fF ?_ (fN ?_ (trivial))))))))) [] (fun q hq=>by cases hq) (fun hY=>absurd (hY 7 (by decide)) (by decide))
 ·exact fM 0 none d d d d (.inl d) d d d
 ·exact fM 1 none d d d d (.inl d) d d d
 ·refine fJ [(27,_),(28,_)] 2 [some 0,some 1] fun G a w S=>?_
  exact sIdxV S (wN d) d d d aQ d (lb d) fun a S=>leafL ⟨d,S⟩
 ·refine fJ [(29,_)] 3 [some 2] fun G a w S=>?_
  exact sFldV (q:=aW) S (wN d) d d aS d (lb d) fun a S=>leafL ⟨d,S⟩
 ·refine fJ [(30,_)] 4 [some 3] fun G a w S=>?_
  exact sLoadH (r:=r_api_Row) (T:=90) (xs:=af) (u:=.slice aa ai.length ab) (v:=.slice ac af.length ae) (vq:=aX) (j:=aj) 0 1 S aT (wN d) d d d d d (lb d) fun a S=>leafL ⟨d,S⟩
 ·refine fJ [(5,_)] 5 [none] fun G a w S=>?_
  exact sField (b:=au) (off:=0) 1 1 S (wN d) d d d d d (lb d) fun a S=>leafL ⟨d,S⟩
 ·refine fJ [(32,_)] 6 [some 5] fun G a w S=>?_
  exact sLoad1 2 (.slice ag a9.Cells.length ah) S (wN d) d d d d d d (lb d) fun a S=>leafL ⟨d,S⟩
 refine ⟨_,[(31,.slice aa ai.length ab),(33,.slice ag a9.Cells.length ah)],d,(srcs_of [some 4,some 6] d d d),fun G a w S=>?_⟩
 refine sCopyR (r:=r_api_Stitch) (T:=82) (xs:=ai) (ys:=a9.Cells) (v:=.slice aa ai.length ab) (u:=.slice ag a9.Cells.length ah) 1 0 S (wN d) d Try.underlying86 d d d d d d (lb d) fun a w S=>?_
 refine leafL ⟨d,_,_,.inl ⟨34,(iv ((Nat.min a9.Cells.length ai.length:Nat):Int)),[],d,S,hz_of d,?_⟩⟩
 refine node_by (A:=anc_chart_twin_s0_0) 8 (by kernel_rfl) (by kernel_rfl) (by kernel_rfl) (by kernel_rfl) (by kernel_rfl) [7,0,1,2,3,4,5,6] (by kernel_rfl) (by decide) (by decide) (fD 7 (fD 7 (fD 7 (fD 7 (fD 7 (fD 7 (fD 7 (fY (trivial))))))))) [(3,.slice ac af.length ae),(12,.slice ao p0.length ap),(13,iv (p0.length:Int)),(14,iv aj)] (fin_of [none,none,none,none] d (by kernel_rfl) (by kernel_rfl)) (fun _ a w S=>?_)
 rw [cpO_v ai a9.Cells aa ab] at S
 have S:=S.shutR (r:=r_api_Stitch) (T:=82) (v:=.slice aa (cpO ai a9.Cells).length ab) (xs:=(cpO ai a9.Cells)) 0 d
 have S:=S.closeH (r:=r_api_Row) (s:=(rL r_api_Stitch)) (T:=90) (xs:=af) (ys:=aV) (x:=aK) (y:=(api_Row.mk aK.Back (cpO ai a9.Cells))) (z:=(cpO ai a9.Cells)) (v:=.slice ac af.length ae) (u:=.slice aa (cpO ai a9.Cells).length ab) (j:=aj) 0 1 d (S.mem.know (i:=0) (e:=fRep (rL r_api_Stitch) (.slice aa (cpO ai a9.Cells).length ab) (cpO ai a9.Cells)) d) d (lb d) ak (upd_api_Row_Cells _ _) ar
 rw [setO_v ar ac ae] at S
 refine leafB (leafT (aA _ _ ?_))
 refine sRegion (sBin _ S (wN d) d d d (bAdd _ _ _ _ aj 1) d (lb d) fun a S=>sM S fun a S=>?_)
 exact lT (⟨(aV,w64 (aj + 1)),(Option.some.inj h).symm,(S.fix [0] [5] (by decide) d d d)⟩)
def anc_chart_Join_0:List (List Nat):=[[],[],[1],[1,2],[0,1,2,3],[0,1,2,3,4],[],[6],[0,1,2,3,4,5,6,7],[0,1,2,3,4,5,6,7,8]]
def anc_chart_Join_1:List (List Nat):=[[],[0],[],[2],[2,3],[],[5],[2,3,4,5,6],[2,3,4,5,6,7],[0,1,2,3,4,5,6,7,8],[0,1,2,3,4,5,6,7,8,9],[0,1,2,3,4,5,6,7,8,9,10]]
noncomputable def F_chart_Join (p0:api_Chart) (p1:api_Chart):Option (api_Chart × Int):=
 (F_chart_Counts_s0 p0).bind fun a9=>
 if a9.2 != 0 then
  some ((api_Chart.mk 0 ([]:(List api_Row))),a9.2)
 else
  (F_chart_Check p1).bind fun aa=>
  if aa != 0 then
   some ((api_Chart.mk 0 ([]:(List api_Row))),aa)
  else
   (idxO a9.1 (w64 ((a9.1.length:Int) - 1))).bind fun ab=>
   if ab != p1.Start then
    some ((api_Chart.mk 0 ([]:(List api_Row))),26)
   else
    if decide (100 < (w64 ((p0.Rows.length:Int) + (p1.Rows.length:Int)))) then
     some ((api_Chart.mk 0 ([]:(List api_Row))),4)
    else
     (F_chart_twin_s0 p0.Rows).bind fun ac=>
     (F_chart_twin_s0 p1.Rows).bind fun ae=>
     (appO ac ae).bind fun af=>
     some ((api_Chart.mk p0.Start af),0)
def c_chart_Join_val (r:(api_Chart × Int)) (x:Value):Value:=.tuple #[x,.int .i64 r.2]
def c_chart_Join_D (r:(api_Chart × Int)) (x:Value):List Fact:=[fRep r_api_Chart x r.1]
theorem c_chart_Join (E:Nat→Prop) (w0:World) (p0:api_Chart) (v0:Value) (p1:api_Chart) (v1:Value) (r:(api_Chart × Int)) (h:F_chart_Join p0 p1=some r) (S:St0 E [] w0 w0 [] [fRep r_api_Chart (v0) p0,fRep r_api_Chart (v1) p1]) :
 Calls Try.prog 32 #[v0,v1] w0 (Ret (X:=Value) E [] w0 (c_chart_Join_val r) (fun _=>[]) (c_chart_Join_D r)):=by
 unfold F_chart_Join at h
 obtain ⟨u1,rfl,bf⟩:=S.know (i:=0) (e:=fRep r_api_Chart (v0) p0) d
 have S:=S.learn (fRep (rL r_api_Row) u1 p0.Rows) bf
 obtain ⟨af,ag,_,rfl,_⟩:=bf
 obtain ⟨u5,rfl,bg⟩:=S.know (i:=2) (e:=fRep r_api_Chart (v1) p1) d
 have S:=S.learn (fRep (rL r_api_Row) u5 p1.Rows) bg
 obtain ⟨ah,ai,_,rfl,_⟩:=bg
 refine sEnter (args:=[.agg #[iv p0.Start,.slice af p0.Rows.length ag],.agg #[iv p1.Start,.slice ah p1.Rows.length ai]]) 55 Try.func32 d d (by simp) S (fun a S=>?_)
 refine sSeq (fun K9 bi=>sRegion (sBox (v:=.agg #[iv p0.Start,.slice af p0.Rows.length ag]) S (wN d) d d [iv p0.Start,.slice af p0.Rows.length ag] d d (lb d) fun a al w S=>sBox (v:=.agg #[iv p1.Start,.slice ah p1.Rows.length ai]) S (wN d) d d [iv p1.Start,.slice ah p1.Rows.length ai] d d (lb d) fun a am w S=>sAlloc (.agg #[iv 0,.slice none 0 0]) S (wN d) d d [iv 0,.slice none 0 0] d d (lb d) fun a aj w S=>sN S fun a S=>?_))
 refine lT (bi _ _ (sSeq (fun bj aH=>sRegion (sLoadN (p:=al) (off:=0) (T:=49) (vs:=[iv p0.Start,.slice af p0.Rows.length ag]) 2 [iv p0.Start,.slice af p0.Rows.length ag] S (wN d) d d d d d d d (lb d) fun a S=>?_))))
 obtain ⟨a9,aI,h⟩:=bS h
 refine sCall (X:=Option Addr × Nat) (f:=16) (vs:=[.agg #[iv p0.Start,.slice af p0.Rows.length ag]]) (val:=fun x=>.tuple #[.slice x.1 a9.1.length x.2,iv a9.2]) (B':=fun x=>[eRow (rI .i64) 3 (.slice x.1 a9.1.length x.2) a9.1]) (D':=fun _=>[]) [] [eBox aj 49 [iv 0,.slice none 0 0],eBox am 49 [iv p1.Start,.slice ah p1.Rows.length ai],eBox al 49 [iv p0.Start,.slice af p0.Rows.length ag]] [fRep r_api_Chart (.agg #[iv p0.Start,.slice af p0.Rows.length ag]) p0] [0,1,2] [2] S (wN d) d callee16 d (by decide) d d (fun E1 w1 S1=>c_chart_Counts_s0 E1 w1 p0 (.agg #[iv p0.Start,.slice af p0.Rows.length ag]) a9 aI S1) d (lb d) fun xx a w S=>?_
 obtain ⟨ac,ae⟩:=xx
 dsimp only at S
 refine sM S fun a S=>?_
 refine sExtract (vs:=[.slice ac a9.1.length ae,iv a9.2]) (.slice ac a9.1.length ae) S (wN d) d d d d (lb d) fun a S=>sExtract (vs:=[.slice ac a9.1.length ae,iv a9.2]) (iv a9.2) S (wN d) d d d d (lb d) fun a S=>sN S fun a S=>?_
 refine sN S fun a S=>?_
 refine lT (aH _ _ (sSeq (fun bl aJ=>sSeq (fun bm aK=>sRegion (sM S fun a S=>?_)))))
 refine sBin _ S (wN d) d d d (bNe _ _ _ _ .i64 a9.2 0) d (lb d) fun a S=>lT (aK _ _ ?_)
 rcases iS h with ⟨au,h⟩ | ⟨au,h⟩
 ·refine sCondT S d au (sSeq (fun bn aL=>sRegion (sBuild [] [iv 0,.slice none 0 0] S (wN d) d d d d (lb d) fun a S=>sM S fun a S=>?_)))
  refine sStore (p:=aj) (off:=0) (T:=49) (vs:=[iv 0,.slice none 0 0]) (v:=.agg #[iv 0,.slice none 0 0]) 1 [iv 0,.slice none 0 0] S (wN d) d d d d d d d (by simp) d fun a w S=>sN S fun a S=>?_
  refine lT (aL _ _ ?_)
  obtain rfl:=tS h
  have S:=S.learn (fRep (rL r_api_Row) (.slice none 0 0) ([]:(List api_Row))) (rL_nil _ _ _)
  have S:=S.learn (fRep r_api_Chart (.agg #[iv 0,.slice none 0 0]) (api_Chart.mk 0 ([]:(List api_Row)))) ⟨_,d,S.mem.know (i:=0) (e:=fRep (rL r_api_Row) (.slice none 0 0) ([]:(List api_Row))) d⟩
  exact wp_ret (rThen (sRet (.tuple #[.agg #[iv 0,.slice none 0 0],iv a9.2]) S (rsl2 d (rvN (c:=4) (t:=49) (T:=49) (p:=aj) 0 [iv 0,.slice none 0 0] S d d d d) (rvT (t:=5) (v:=iv a9.2) S d)) ⟨(.agg #[iv 0,.slice none 0 0]),d,S.mem.sel [] [0] (by decide) d d⟩))
 refine sCondF S d au (wp_skip (leafT (aJ _ _ ?_)))
 refine sSeq (fun bo aM=>sSeq (fun bp aO=>sRegion (sLoadN (p:=am) (off:=0) (T:=49) (vs:=[iv p1.Start,.slice ah p1.Rows.length ai]) 2 [iv p1.Start,.slice ah p1.Rows.length ai] S (wN d) d d d d d d d (lb d) fun a S=>?_)))
 obtain ⟨aC,aP,h⟩:=bS h
 have S1:=S.mem
 refine sCq [.agg #[iv p1.Start,.slice ah p1.Rows.length ai]] (iv aC) S callee42 (S1.quiet [3] d) (fun E1 w1 S1=>c_chart_Check E1 w1 p1 (.agg #[iv p1.Start,.slice ah p1.Rows.length ai]) aC aP S1) fun a w S=>?_
 refine sN S fun a S=>?_
 refine lT (aO _ _ (sSeq (fun bq aQ=>sRegion (sM S fun a S=>?_))))
 refine sBin _ S (wN d) d d d (bNe _ _ _ _ .i64 aC 0) d (lb d) fun a S=>lT (aQ _ _ ?_)
 rcases iS h with ⟨av,h⟩ | ⟨av,h⟩
 ·refine sCondT S d av (sSeq (fun br aR=>sRegion (sBuild [] [iv 0,.slice none 0 0] S (wN d) d d d d (lb d) fun a S=>sM S fun a S=>?_)))
  refine sStore (p:=aj) (off:=0) (T:=49) (vs:=[iv 0,.slice none 0 0]) (v:=.agg #[iv 0,.slice none 0 0]) 1 [iv 0,.slice none 0 0] S (wN d) d d d d d d d (by simp) d fun a w S=>sN S fun a S=>?_
  refine lT (aR _ _ ?_)
  obtain rfl:=tS h
  have S:=S.learn (fRep (rL r_api_Row) (.slice none 0 0) ([]:(List api_Row))) (rL_nil _ _ _)
  have S:=S.learn (fRep r_api_Chart (.agg #[iv 0,.slice none 0 0]) (api_Chart.mk 0 ([]:(List api_Row)))) ⟨_,d,S.mem.know (i:=0) (e:=fRep (rL r_api_Row) (.slice none 0 0) ([]:(List api_Row))) d⟩
  exact wp_ret (rThen (sRet (.tuple #[.agg #[iv 0,.slice none 0 0],iv aC]) S (rsl2 d (rvN (c:=4) (t:=49) (T:=49) (p:=aj) 0 [iv 0,.slice none 0 0] S d d d d) (rvT (t:=5) (v:=iv aC) S d)) ⟨(.agg #[iv 0,.slice none 0 0]),d,S.mem.sel [] [0] (by decide) d d⟩))
 refine sCondF S d av (wp_skip (leafT (aM _ _ ?_)))
 refine sSeq (fun bt aS=>wp_block ?_)
 refine sSeq (fun bu aT=>?_)
 obtain ⟨aw,aG,h⟩:=bS h
 obtain ⟨bh,aU,aV⟩:=pIdxR (P:=Try.prog) (r:=(rI .i64)) (T:=3) (v:=.slice ac a9.1.length ae) (xs:=a9.1) (j:=w64 ((a9.1.length:Int) - 1)) 34 3 0 S Try.underlying34 d d aG
 refine sDraw (nf:=[]) (W:=[(0,25,.slice ac a9.1.length ae),(1,26,.slice ac a9.1.length ae),(2,27,iv (a9.1.length:Int)),(3,28,iv (w64 ((a9.1.length:Int) - 1))),(4,29,bh),(5,30,iv aw),(6,31,.pointer (some ⟨am,0,none⟩)),(7,32,iv p1.Start),(8,33,.bool (aw != p1.Start)),(9,24,.bool (aw != p1.Start))]) d S ?_
 refine node_by (A:=anc_chart_Join_0) 10 (by kernel_rfl) (by kernel_rfl) (by kernel_rfl) (by kernel_rfl) (by kernel_rfl) [0,1,2,3,4,5,6,7,8,9] (by kernel_rfl) (by decide) (by decide) (fF ?_ (fF ?_ (fF ?_ (fF ?_ (fF ?_ (fF ?_ (fF ?_ (fF ?_ (fF ?_ (fF ?_ (trivial))))))))))) [(2,.pointer (some ⟨al,0,none⟩)),(3,.pointer (some ⟨am,0,none⟩)),(4,.pointer (some ⟨aj,0,none⟩)),(24,.bool (aw != p1.Start))] (fin_of [none,none,none,some 9] d (by kernel_rfl) (by kernel_rfl)) (fun _ a w S=>?_)
 ·exact fM 0 none d d d d (.inl d) d d d
 ·exact fM 1 none d d d d (.inl d) d d d
 ·refine fJ [(26,_)] 2 [some 1] fun G a w S=>?_
  exact sLen S (wN d) d Try.underlying34 d d (lb d) fun a S=>leafL ⟨d,S⟩
 ·refine fJ [(27,_)] 3 [some 2] fun G a w S=>?_
  exact sBin _ S (wN d) d d d (bSub _ _ _ _ (a9.1.length:Int) 1) d (lb d) fun a S=>leafL ⟨d,S⟩
 ·refine fJ [(25,_),(28,_)] 4 [some 0,some 3] fun G a w S=>?_
  exact sIdxV S (wN d) d d d aU d (lb d) fun a S=>leafL ⟨d,S⟩
 ·refine fJ [(29,_)] 5 [some 4] fun G a w S=>?_
  exact sLoadR (r:=(rI .i64)) (T:=3) (xs:=a9.1) (x:=aw) (v:=.slice ac a9.1.length ae) (vq:=bh) (j:=w64 ((a9.1.length:Int) - 1)) 0 (iv aw) S aV (wN d) d d d aG (fun _ _ _ h=>h) (scal_I _) d d (lb d) fun a S=>leafL ⟨d,S⟩
 ·refine fJ [(3,_)] 6 [none] fun G a w S=>?_
  exact sField (b:=am) (off:=0) 0 0 S (wN d) d d d d d (lb d) fun a S=>leafL ⟨d,S⟩
 ·refine fJ [(31,_)] 7 [some 6] fun G a w S=>?_
  exact sLoad1 2 (iv p1.Start) S (wN d) d d d d d d (lb d) fun a S=>leafL ⟨d,S⟩
 ·refine fJ [(30,_),(32,_)] 8 [some 5,some 7] fun G a w S=>?_
  exact sBin _ S (wN d) d d d (bNe _ _ _ _ .i64 aw p1.Start) d (lb d) fun a S=>leafL ⟨d,S⟩
 ·exact fM 9 (some 8) d d d d (.inr d) d d d
 refine leafT (aT _ _ ?_)
 rcases iS h with ⟨ax,h⟩ | ⟨ax,h⟩
 ·refine sCondT S d ax (sSeq (fun bv aW=>sRegion (sBuild [] [iv 0,.slice none 0 0] S (wN d) d d d d (lb d) fun a S=>sStore (p:=aj) (off:=0) (T:=49) (vs:=[iv 0,.slice none 0 0]) (v:=.agg #[iv 0,.slice none 0 0]) 1 [iv 0,.slice none 0 0] S (wN d) d d d d d d d (by simp) d fun a w S=>sN S fun a S=>?_)))
  refine lT (aW _ _ ?_)
  obtain rfl:=tS h
  have S:=S.learn (fRep (rL r_api_Row) (.slice none 0 0) ([]:(List api_Row))) (rL_nil _ _ _)
  have S:=S.learn (fRep r_api_Chart (.agg #[iv 0,.slice none 0 0]) (api_Chart.mk 0 ([]:(List api_Row)))) ⟨_,d,S.mem.know (i:=0) (e:=fRep (rL r_api_Row) (.slice none 0 0) ([]:(List api_Row))) d⟩
  exact wp_ret (rBlock (rThen (sRet (.tuple #[.agg #[iv 0,.slice none 0 0],iv 26]) S (rsl2 d (rvN (c:=4) (t:=49) (T:=49) (p:=aj) 0 [iv 0,.slice none 0 0] S d d d d) (rvT (t:=5) (v:=iv 26) S d)) ⟨(.agg #[iv 0,.slice none 0 0]),d,S.mem.sel [] [0] (by decide) d d⟩)))
 refine sCondF S d ax (sSeq (fun bw aX=>sRegion (sField (b:=al) (off:=0) 1 1 S (wN d) d d d d d (lb d) fun a S=>sLoad1 3 (.slice af p0.Rows.length ag) S (wN d) d d d d d d (lb d) fun a S=>sLen S (wN d) d Try.underlying47 d d (lb d) fun a S=>sField (b:=am) (off:=0) 1 1 S (wN d) d d d d d (lb d) fun a S=>sLoad1 2 (.slice ah p1.Rows.length ai) S (wN d) d d d d d d (lb d) fun a S=>sLen S (wN d) d Try.underlying47 d d (lb d) fun a S=>sBin _ S (wN d) d d d (bAdd _ _ _ _ (p0.Rows.length:Int) (p1.Rows.length:Int)) d (lb d) fun a S=>sBin _ S (wN d) d d d (bGt _ _ _ _ .i64 (w64 ((p0.Rows.length:Int) + (p1.Rows.length:Int))) 100) d (lb d) fun a S=>sN S fun a S=>?_)))
 refine lT (aX _ _ ?_)
 rcases iS h with ⟨ay,h⟩ | ⟨ay,h⟩
 ·refine sCondT S d ay (sSeq (fun bx aZ=>sRegion (sBuild [] [iv 0,.slice none 0 0] S (wN d) d d d d (lb d) fun a S=>sStore (p:=aj) (off:=0) (T:=49) (vs:=[iv 0,.slice none 0 0]) (v:=.agg #[iv 0,.slice none 0 0]) 1 [iv 0,.slice none 0 0] S (wN d) d d d d d d d (by simp) d fun a w S=>sN S fun a S=>?_)))
  refine lT (aZ _ _ ?_)
  obtain rfl:=tS h
  have S:=S.learn (fRep (rL r_api_Row) (.slice none 0 0) ([]:(List api_Row))) (rL_nil _ _ _)
  have S:=S.learn (fRep r_api_Chart (.agg #[iv 0,.slice none 0 0]) (api_Chart.mk 0 ([]:(List api_Row)))) ⟨_,d,S.mem.know (i:=0) (e:=fRep (rL r_api_Row) (.slice none 0 0) ([]:(List api_Row))) d⟩
  exact wp_ret (rBlock (rThen (sRet (.tuple #[.agg #[iv 0,.slice none 0 0],iv 4]) S (rsl2 d (rvN (c:=4) (t:=49) (T:=49) (p:=aj) 0 [iv 0,.slice none 0 0] S d d d d) (rvT (t:=5) (v:=iv 4) S d)) ⟨(.agg #[iv 0,.slice none 0 0]),d,S.mem.sel [] [0] (by decide) d d⟩)))
 refine sCondF S d ay (wp_skip (leafB (leafT (aS _ _ ?_))))
 refine sSeq (fun bz b8=>?_)
 obtain ⟨ao,ba,h⟩:=bS h
 obtain ⟨ar,bb,h⟩:=bS h
 obtain ⟨ak,bc,h⟩:=bS h
 refine sDraw (nf:=[4,7,8,10]) (W:=[(0,45,.pointer (some ⟨al,0,none⟩)),(1,46,iv p0.Start),(2,47,.pointer (some ⟨al,1,none⟩)),(3,48,.slice af p0.Rows.length ag),(5,50,.pointer (some ⟨am,1,none⟩)),(6,51,.slice ah p1.Rows.length ai)]) d S ?_
 refine node_by (A:=anc_chart_Join_1) 12 (by kernel_rfl) (by kernel_rfl) (by kernel_rfl) (by kernel_rfl) (by kernel_rfl) [0,1,2,3,5,6] (by kernel_rfl) (by decide) (by decide) (fF ?_ (fF ?_ (fF ?_ (fF ?_ (fN ?_ (fF ?_ (fF ?_ (aB 7 4 4 (by decide) (aB 8 3 4 (by decide) (fE 4 (aB 10 1 4 (by decide) (fE 4 (trivial))))))))))))) [] (fun q hq=>by cases hq) (fun hY=>absurd (hY 4 (by decide)) (by decide))
 ·refine fJ [(2,_)] 0 [none] fun G a w S=>?_
  exact sField (b:=al) (off:=0) 0 0 S (wN d) d d d d d (lb d) fun a S=>leafL ⟨d,S⟩
 ·refine fJ [(45,_)] 1 [some 0] fun G a w S=>?_
  exact sLoad1 3 (iv p0.Start) S (wN d) d d d d d d (lb d) fun a S=>leafL ⟨d,S⟩
 ·refine fJ [(2,_)] 2 [none] fun G a w S=>?_
  exact sField (b:=al) (off:=0) 1 1 S (wN d) d d d d d (lb d) fun a S=>leafL ⟨d,S⟩
 ·refine fJ [(47,_)] 3 [some 2] fun G a w S=>?_
  exact sLoad1 3 (.slice af p0.Rows.length ag) S (wN d) d d d d d d (lb d) fun a S=>leafL ⟨d,S⟩
 ·refine ⟨_,[(48,.slice af p0.Rows.length ag)],d,(srcs_of [some 3] d d d),fun G a w S=>?_⟩
  refine sCall (X:=Option Addr × Nat) (f:=62) (vs:=[.slice af p0.Rows.length ag]) (val:=fun x=>.slice x.1 ao.length x.2) (B':=fun x=>[eRow r_api_Row 90 (.slice x.1 ao.length x.2) ao]) (D':=fun _=>[]) [] [eRow (rI .i64) 3 (.slice ac a9.1.length ae) a9.1,eBox aj 49 [iv 0,.slice none 0 0],eBox am 49 [iv p1.Start,.slice ah p1.Rows.length ai],eBox al 49 [iv p0.Start,.slice af p0.Rows.length ag]] [fRep (rL r_api_Row) (.slice af p0.Rows.length ag) p0.Rows] [0,1,2,3] [1] S (wN d) d callee62 d (by decide) d d (fun E1 w1 S1=>c_chart_twin_s0 E1 w1 p0.Rows (.slice af p0.Rows.length ag) ao ba S1) d (lb d) fun xx a w S=>?_
  obtain ⟨ap,aq⟩:=xx
  dsimp only at S
  refine leafL ⟨d,_,_,.inl ⟨49,(.slice ap ao.length aq),[],d,S,hz_of d,?_⟩⟩
  refine node_by (A:=anc_chart_Join_1) 12 (by kernel_rfl) (by kernel_rfl) (by kernel_rfl) (by kernel_rfl) (by kernel_rfl) [4,0,1,2,3,5,6] (by kernel_rfl) (by decide) (by decide) (fF ?_ (fF ?_ (fD 4 (fD 4 (fY (fF ?_ (fF ?_ (fN ?_ (aB 8 3 7 (by decide) (fE 7 (aB 10 1 7 (by decide) (fE 7 (trivial))))))))))))) [] (fun q hq=>by cases hq) (fun hY=>absurd (hY 7 (by decide)) (by decide))
  ·refine fJ [(2,_)] 1 [none] fun G a w S=>?_
   exact sField (b:=al) (off:=0) 0 0 S (wN d) d d d d d (lb d) fun a S=>leafL ⟨d,S⟩
  ·refine fJ [(45,_)] 2 [some 1] fun G a w S=>?_
   exact sLoad1 4 (iv p0.Start) S (wN d) d d d d d d (lb d) fun a S=>leafL ⟨d,S⟩
  ·refine fJ [(3,_)] 5 [none] fun G a w S=>?_
   exact sField (b:=am) (off:=0) 1 1 S (wN d) d d d d d (lb d) fun a S=>leafL ⟨d,S⟩
  ·refine fJ [(50,_)] 6 [some 5] fun G a w S=>?_
   exact sLoad1 3 (.slice ah p1.Rows.length ai) S (wN d) d d d d d d (lb d) fun a S=>leafL ⟨d,S⟩
  refine ⟨_,[(51,.slice ah p1.Rows.length ai)],d,(srcs_of [some 6] d d d),fun G a w S=>?_⟩
  refine sCall (X:=Option Addr × Nat) (f:=62) (vs:=[.slice ah p1.Rows.length ai]) (val:=fun x=>.slice x.1 ar.length x.2) (B':=fun x=>[eRow r_api_Row 90 (.slice x.1 ar.length x.2) ar]) (D':=fun _=>[]) [] [eRow r_api_Row 90 (.slice ap ao.length aq) ao,eRow (rI .i64) 3 (.slice ac a9.1.length ae) a9.1,eBox aj 49 [iv 0,.slice none 0 0],eBox am 49 [iv p1.Start,.slice ah p1.Rows.length ai],eBox al 49 [iv p0.Start,.slice af p0.Rows.length ag]] [fRep (rL r_api_Row) (.slice ah p1.Rows.length ai) p1.Rows] [0,1,2,3,4] [0] S (wN d) d callee62 d (by decide) d d (fun E1 w1 S1=>c_chart_twin_s0 E1 w1 p1.Rows (.slice ah p1.Rows.length ai) ar bb S1) d (lb d) fun xx a w S=>?_
  obtain ⟨az,aA⟩:=xx
  dsimp only at S
  refine leafL ⟨d,_,_,.inl ⟨52,(.slice az ar.length aA),[],d,S,hz_of d,?_⟩⟩
  refine node_by (A:=anc_chart_Join_1) 12 (by kernel_rfl) (by kernel_rfl) (by kernel_rfl) (by kernel_rfl) (by kernel_rfl) [7,4,0,1,2,3,5,6] (by kernel_rfl) (by decide) (by decide) (fF ?_ (fF ?_ (fD 7 (fD 7 (fY (fD 7 (fD 7 (fY (fN ?_ (fE 8 (aB 10 1 8 (by decide) (fE 8 (trivial))))))))))))) [] (fun q hq=>by cases hq) (fun hY=>absurd (hY 8 (by decide)) (by decide))
  ·refine fJ [(2,_)] 2 [none] fun G a w S=>?_
   exact sField (b:=al) (off:=0) 0 0 S (wN d) d d d d d (lb d) fun a S=>leafL ⟨d,S⟩
  ·refine fJ [(45,_)] 3 [some 2] fun G a w S=>?_
   exact sLoad1 5 (iv p0.Start) S (wN d) d d d d d d (lb d) fun a S=>leafL ⟨d,S⟩
  refine ⟨_,[(49,.slice ap ao.length aq),(52,.slice az ar.length aA)],d,(srcs_of [some 1,some 0] d d d),fun G a w S=>?_⟩
  refine sApp (r:=r_api_Row) (T:=90) (xs:=ao) (ys:=ar) (v:=.slice ap ao.length aq) (u:=.slice az ar.length aA) 1 (.agg #[.bool false,.slice none 0 0]) 32 S (wN d) d Try.underlying47 d d (by decide) d d d (src_R (T:=90) 0 S.mem d) bc d (lb d) fun a w aa ab S=>leafL ⟨d,_,_,.inl ⟨53,(.slice aa ak.length ab),[(9,54,.agg #[iv p0.Start,.slice aa ak.length ab])],d,S,hz_of d,?_⟩⟩
  refine node_by (A:=anc_chart_Join_1) 12 (by kernel_rfl) (by kernel_rfl) (by kernel_rfl) (by kernel_rfl) (by kernel_rfl) [9,8,7,4,0,1,2,3,5,6] (by kernel_rfl) (by decide) (by decide) (fF ?_ (fF ?_ (fD 8 (fD 8 (fY (fD 8 (fD 8 (fY (fY (fF ?_ (fN ?_ (fE 10 (trivial))))))))))))) [] (fun q hq=>by cases hq) (fun hY=>absurd (hY 10 (by decide)) (by decide))
  ·refine fJ [(2,_)] 4 [none] fun G a w S=>?_
   exact sField (b:=al) (off:=0) 0 0 S (wN d) d d d d d (lb d) fun a S=>leafL ⟨d,S⟩
  ·refine fJ [(45,_)] 5 [some 4] fun G a w S=>?_
   exact sLoad1 5 (iv p0.Start) S (wN d) d d d d d d (lb d) fun a S=>leafL ⟨d,S⟩
  ·refine fJ [(46,_),(53,_)] 0 [some 5,some 1] fun G a w S=>?_
   exact sBuild [(0,iv p0.Start),(1,.slice aa ak.length ab)] [iv p0.Start,.slice aa ak.length ab] S (wN d) d d d d (lb d) fun a S=>leafL ⟨d,S⟩
  refine ⟨_,[(4,.pointer (some ⟨aj,0,none⟩)),(54,.agg #[iv p0.Start,.slice aa ak.length ab])],d,(srcs_of [none,some 0] d d d),fun G a w S=>?_⟩
  refine sStore (p:=aj) (off:=0) (T:=49) (vs:=[iv 0,.slice none 0 0]) (v:=.agg #[iv p0.Start,.slice aa ak.length ab]) 3 [iv p0.Start,.slice aa ak.length ab] S (wN d) d d d d d d d (by simp) d fun a w S=>leafL ⟨d,_,_,.inr ⟨[(11,5,iv 0)],d,S,hz_of d,?_⟩⟩
  refine node_by (A:=anc_chart_Join_1) 12 (by kernel_rfl) (by kernel_rfl) (by kernel_rfl) (by kernel_rfl) (by kernel_rfl) [11,9,8,7,4,0,1,2,3,5,6] (by kernel_rfl) (by decide) (by decide) (fD 10 (fD 10 (fD 10 (fD 10 (fY (fD 10 (fD 10 (fY (fY (fD 10 (fY (fF ?_ (trivial))))))))))))) [(4,.pointer (some ⟨aj,0,none⟩)),(5,iv 0)] (fin_of [none,some 0] d (by kernel_rfl) (by kernel_rfl)) (fun _ a w S=>?_)
  ·refine fJ [] 0 [] fun G a w S=>?_
   exact sN S fun a S=>leafL ⟨d,S⟩
  refine leafT (b8 _ _ ?_)
  obtain rfl:=tS h
  have S:=S.shutR (r:=r_api_Row) (T:=90) (v:=.slice aa ak.length ab) (xs:=ak) 1 d
  have S:=S.learn (fRep r_api_Chart (.agg #[iv p0.Start,.slice aa ak.length ab]) (api_Chart.mk p0.Start ak)) ⟨_,d,S.mem.know (i:=0) (e:=fRep (rL r_api_Row) (.slice aa ak.length ab) ak) d⟩
  exact wp_ret (sRet (.tuple #[.agg #[iv p0.Start,.slice aa ak.length ab],iv 0]) S (rsl2 d (rvN (c:=4) (t:=49) (T:=49) (p:=aj) 0 [iv p0.Start,.slice aa ak.length ab] S d d d d) (rvT (t:=5) (v:=iv 0) S d)) ⟨(.agg #[iv p0.Start,.slice aa ak.length ab]),d,S.mem.sel [] [0] (by decide) d d⟩)
 ·refine fJ [(3,_)] 4 [none] fun G a w S=>?_
  exact sField (b:=am) (off:=0) 1 1 S (wN d) d d d d d (lb d) fun a S=>leafL ⟨d,S⟩
 refine fJ [(50,_)] 5 [some 4] fun G a w S=>?_
 exact sLoad1 2 (.slice ah p1.Rows.length ai) S (wN d) d d d d d d (lb d) fun a S=>leafL ⟨d,S⟩
def RB (rows:List api_Row):Prop:=rows.length ≤ 1000000∧∀ r,r ∈ rows→r.Cells.length ≤ 1000000
theorem twin_eq (rows:List api_Row) (h:RB rows):F_chart_twin rows=some rows:=by
 have hm:makeO (rows.length:Int) (api_Row.mk false ([]:List api_Stitch))=some (List.replicate rows.length (api_Row.mk false [])):=makeO_of rfl (by have:=h.1; omega)
 have hc:cpO (List.replicate rows.length (api_Row.mk false [])) rows=rows:=cpO_eq (by simp)
 have hw:∃ t,whileO (chart_twin_l1 rows) (rows,0)=some t∧t=rows:=by
  refine loop_st rows.length (fun _ s=>s=rows) _ rfl ?_ ?_
  ·rintro k s hk rfl
   have hb:=h.2 _ (List.getElem_mem hk)
   have hl:=h.1
   have m1:makeO (s[k].Cells.length:Int) (api_Stitch.mk 0 false 0 0)=some (List.replicate s[k].Cells.length (api_Stitch.mk 0 false 0 0)):=makeO_of rfl (by omega)
   have c1:cpO (List.replicate s[k].Cells.length (api_Stitch.mk 0 false 0 0)) s[k].Cells=s[k].Cells:=cpO_eq (by simp)
   have e1:s.set k (api_Row.mk s[k].Back s[k].Cells)=s:=by
    show s.set k s[k]=s
    exact List.set_getElem_self hk
   refine .inl ⟨s,?_,rfl⟩
   unfold chart_twin_l1
   simp only [dT (show (k:Int) < (s.length:Int) by omega),if_true,idxO_nat hk,Option.bind_some,m1,c1,setO_nat hk,e1,w64_succ (show k < 9223372036854775807 by omega)]
  ·rintro s rfl
   refine ⟨s,?_,rfl⟩
   unfold chart_twin_l1
   simp
 obtain ⟨t,t1,rfl⟩:=hw
 unfold F_chart_twin
 simp only [hm,Option.bind_some,hc,t1]
theorem twins_eq (rows:List api_Row) (h:RB rows):F_chart_twin_s0 rows=some rows:=(show F_chart_twin_s0 rows=F_chart_twin rows from rfl).trans (twin_eq rows h)
theorem chk_RB {c:api_Chart} (h:chk c=0):RB c.Rows:=by
 obtain ⟨h1,_,_,h4⟩:=chk_ok h
 exact ⟨by omega,fun r hr=>by have:=(allS_ok (chkR_mem h4 r hr)).1; omega⟩
def cnts:Int→List api_Row→List Int
 | n,[]=>[n]
 | n,r :: rs=>n :: cnts (sm madeS r.Cells) rs
theorem cnts_len:∀ (n:Int) (rs:List api_Row),(cnts n rs).length=rs.length + 1
 | _,[]=>rfl
 | n,r :: rs=>by simp [cnts,cnts_len (sm madeS r.Cells) rs]
theorem counts_fold:∀ (rs:List api_Row) (i:Nat) (n:Int) (s:List Int),chkR n rs=0→s.length + rs.length ≤ 1000000→foldO chart_Counts_l2 s (ctl i n rs)=some (.inl (s ++ (cnts n rs).drop 1))
 | [],i,n,s,_,_=>by simp [ctl,cnts,foldO]
 | r :: rs,i,n,s,h,hl=>by
  obtain ⟨h1,h2,h3⟩:=chkR_cons.1 h
  have hl':s.length + rs.length + 1 ≤ 1000000:=by simpa [Nat.add_assoc] using hl
  have ih:=counts_fold rs (i + 1) (sm madeS r.Cells) (s ++ [sm madeS r.Cells]) h3 (by simp; omega)
  have hst:chart_Counts_l2 s ((i:Int),⟨n,sm madeS r.Cells,0⟩)=some (.inl (s ++ [sm madeS r.Cells])):=by
   have ha:appO s [sm madeS r.Cells]=some (s ++ [sm madeS r.Cells]):=appO_of (by simp; omega)
   unfold chart_Counts_l2
   simp only [ha,Option.bind_some]
  simp only [ctl,h1,h2,ne_eq,not_true_eq_false,if_false]
  simp only [foldO,hst,Option.bind_some,ih]
  cases rs with
  | nil=>simp [cnts]
  | cons a b=>simp [cnts]
theorem counts_eq (c:api_Chart) (hw:wfR c.Rows) (h:chk c=0):F_chart_Counts c=some (cnts c.Start c.Rows,0):=by
 have hb:=chk_RB h
 obtain ⟨h1,h2,h3,h4⟩:=chk_ok h
 unfold F_chart_Counts F_chart_counted
 simp only [chart_check_eq c hw,h,Option.bind_some,bne_self_eq_false,Bool.false_eq_true,if_false]
 rw [chcount_eq c hw (by omega),counts_fold c.Rows 0 c.Start _ h4 (by simp; omega)]
 cases hr:c.Rows with
 | nil=>rfl
 | cons a b=>rfl
def anc_slices_Equal___api_Stitch_api_Stitch__0:List (List Nat):=[[],[],[0,1],[0,1,2],[],[],[4,5],[4,5,6],[0,1,2,3,4,5,6,7]]
noncomputable def slices_Equal___api_Stitch_api_Stitch__l1 (p0:(List api_Stitch)) (p1:(List api_Stitch)):Int→Option (Int ⊕ (Bool ⊕ Unit)):=fun s0=>match s0 with
 | a9=>
  if decide (a9 < (p0.length:Int)) then
   (idxO p0 a9).bind fun aa=>
   (idxO p1 a9).bind fun ab=>
   if !((aa.Kind == ab.Kind) && ((aa.Purl == ab.Purl) && ((aa.A == ab.A) && ((aa.B == ab.B) && true)))) then
    some (.inr (.inl false))
   else
    some (.inl (w64 (a9 + 1)))
  else
   some (.inr (.inr ()))
noncomputable def F_slices_Equal___api_Stitch_api_Stitch_ (p0:(List api_Stitch)) (p1:(List api_Stitch)):Option Bool:=
 if (p0.length:Int) != (p1.length:Int) then
  some false
 else
  Option.bind (α:=Unit ⊕ Bool) (
   (whileO (slices_Equal___api_Stitch_api_Stitch__l1 p0 p1) 0).bind fun z0=>match z0 with
    | .inl z=>
     some (.inr z)
    | .inr _=>
     some (.inl ())) fun z0=>match z0 with
   | .inl _=>
    some true
   | .inr z=>
    some z
theorem c_slices_Equal___api_Stitch_api_Stitch_ (E:Nat→Prop) (w0:World) (p0:(List api_Stitch)) (v0:Value) (p1:(List api_Stitch)) (v1:Value) (r:Bool) (h:F_slices_Equal___api_Stitch_api_Stitch_ p0 p1=some r) (S:St0 E [] w0 w0 [] [fRep (rL r_api_Stitch) (v0) p0,fRep (rL r_api_Stitch) (v1) p1]) :
 Calls Try.prog 75 #[v0,v1] w0 (Ret (X:=Unit) E [] w0 (fun _=>.bool r) (fun _=>[]) (fun _=>[])):=by
 unfold F_slices_Equal___api_Stitch_api_Stitch_ at h
 obtain ⟨af,ag,_,rfl,_⟩:=S.know (i:=0) (e:=fRep (rL r_api_Stitch) (v0) p0) d
 obtain ⟨ah,ai,_,rfl,_⟩:=S.know (i:=1) (e:=fRep (rL r_api_Stitch) (v1) p1) d
 refine sEnter (args:=[.slice af p0.length ag,.slice ah p1.length ai]) 26 Try.func75 d d (by simp) S (fun a S=>?_)
 refine sSeq (fun K5 aK=>sRegion (sN S fun a S=>?_))
 refine lT (aK _ _ (sSeq (fun K6 aL=>sSeq (fun K7 aM=>sRegion (sM S fun a S=>?_)))))
 refine sLen S (wN d) d Try.underlying86 d d (lb d) fun a S=>sM S fun a S=>?_
 refine sLen S (wN d) d Try.underlying86 d d (lb d) fun a S=>sBin _ S (wN d) d d d (bNe _ _ _ _ .i64 (p0.length:Int) (p1.length:Int)) d (lb d) fun a S=>lT (aM _ _ ?_)
 rcases iS h with ⟨ak,h⟩ | ⟨ak,h⟩
 ·refine sCondT S d ak (sSeq (fun K9 aO=>sRegion (sN S fun a S=>?_)))
  refine lT (aO _ _ ?_)
  obtain rfl:=tS h
  exact wp_ret (rThen (sRet (.bool false) S (rsl1 d (rvT (t:=4) (v:=.bool false) S d)) ⟨(),d,S.mem.sel [] [] (by decide) d d⟩))
 refine sCondF S d ak (wp_skip (leafT (aL _ _ ?_)))
 obtain ⟨aP,h,aG⟩:=bS h
 refine sCut (fun a w=>.inl ()=aP∧St [] E [] w0 26 a w [] [] []) ?_ (fun a w hI=>?_)
 rotate_left
 ·obtain ⟨rfl,S⟩:=hI
  have h:=aG
  try dsimp only at h
  refine sSeq (fun aQ al=>sRegion (sN S fun a S=>?_))
  refine lT (al _ _ ?_)
  obtain rfl:=tS h
  exact wp_ret (sRet (.bool true) S (rsl1 d (rvT (t:=4) (v:=.bool true) S d)) ⟨(),d,S.mem.sel [] [] (by decide) d d⟩)
 refine sSeq (fun aR am=>sRegion (sM S fun a S=>?_))
 refine sLen S (wN d) d Try.underlying86 d d (lb d) fun a S=>sM S fun a S=>?_
 refine lT (am _ _ (wp_block ?_))
 obtain ⟨aS,hl,aH⟩:=bS h
 refine sLoop hl (fun s0 a w=>match s0 with | ab=>St [] E [] w0 26 a w [(0,.slice af p0.length ag),(1,.slice ah p1.length ai),(12,iv (p0.length:Int)),(13,iv ab)] [] [fRep (rL r_api_Stitch) (.slice af p0.length ag) p0,fRep (rL r_api_Stitch) (.slice ah p1.length ai) p1]) (S.fix [] [0,1] (by decide) d d d) ?_
 clear hl h
 intro ab a w c0 hI h aj
 unfold slices_Equal___api_Stitch_api_Stitch__l1 at h
 dsimp only at h hI
 have S:=hI
 refine sSeq (fun aT ao=>sRegion (sBin _ S (wN d) d d d (bLt _ _ _ _ .i64 ab (p0.length:Int)) d (lb d) fun a S=>lT (ao _ _ (sSeq (fun aU ap=>?_)))))
 rcases iS h with ⟨ac,h⟩ | ⟨ac,h⟩
 rotate_left
 ·refine sCondF S d ac ?_
  obtain rfl:=tS h
  obtain rfl:=aj _ d
  have h:=aH
  try dsimp only at h
  exact wp_exit (xThen (xThen (xHit (leafT (⟨Option.some.inj h,S.fix [] [] (by decide) d d d⟩)))))
 refine sCondT S d ac (wp_skip (leafT (ap _ _ ?_)))
 refine sSeq (fun aV aq=>wp_block ?_)
 refine sSeq (fun aW ar=>sRegion (sM S fun a S=>?_))
 refine sN S fun a S=>?_
 refine lT (ar _ _ (sSeq (fun aX au=>?_)))
 obtain ⟨a9,av,h⟩:=bS h
 obtain ⟨aa,aw,h⟩:=bS h
 obtain ⟨ax,ay,S⟩:=pIdx (P:=Try.prog) (r:=r_api_Stitch) (v:=.slice af p0.length ag) (xs:=p0) (j:=ab) 86 82 0 S Try.underlying86 d d av
 obtain ⟨aI,S⟩:=pLoad (r:=r_api_Stitch) (q:=ax) (x:=a9) 0 S d
 obtain rfl:aI=.agg #[.int .u8 a9.Kind,.bool a9.Purl,iv a9.A,iv a9.B]:=S.mem.know (i:=1) (e:=fRep r_api_Stitch (aI) a9) d
 obtain ⟨az,aA,S⟩:=pIdx (P:=Try.prog) (r:=r_api_Stitch) (v:=.slice ah p1.length ai) (xs:=p1) (j:=ab) 86 82 4 S Try.underlying86 d d aw
 obtain ⟨aJ,S⟩:=pLoad (r:=r_api_Stitch) (q:=az) (x:=aa) 0 S d
 obtain rfl:aJ=.agg #[.int .u8 aa.Kind,.bool aa.Purl,iv aa.A,iv aa.B]:=S.mem.know (i:=1) (e:=fRep r_api_Stitch (aJ) aa) d
 refine sDraw (nf:=[]) (W:=[(0,16,.slice af p0.length ag),(1,17,iv ab),(2,18,ax),(3,19,.agg #[.int .u8 a9.Kind,.bool a9.Purl,iv a9.A,iv a9.B]),(4,20,.slice ah p1.length ai),(5,21,iv ab),(6,22,az),(7,23,.agg #[.int .u8 aa.Kind,.bool aa.Purl,iv aa.A,iv aa.B]),(8,24,.bool (!((a9.Kind == aa.Kind) && ((a9.Purl == aa.Purl) && ((a9.A == aa.A) && ((a9.B == aa.B) && true))))))]) d S ?_
 refine node_by (A:=anc_slices_Equal___api_Stitch_api_Stitch__0) 9 (by kernel_rfl) (by kernel_rfl) (by kernel_rfl) (by kernel_rfl) (by kernel_rfl) [0,1,2,3,4,5,6,7,8] (by kernel_rfl) (by decide) (by decide) (fF ?_ (fF ?_ (fF ?_ (fF ?_ (fF ?_ (fF ?_ (fF ?_ (fF ?_ (fF ?_ (trivial)))))))))) [(0,.slice af p0.length ag),(1,.slice ah p1.length ai),(12,iv (p0.length:Int)),(13,iv ab),(24,.bool (!((a9.Kind == aa.Kind) && ((a9.Purl == aa.Purl) && ((a9.A == aa.A) && ((a9.B == aa.B) && true))))))] (fin_of [none,none,none,none,some 8] d (by kernel_rfl) (by kernel_rfl)) (fun _ a w S=>?_)
 ·exact fM 0 none d d d d (.inl d) d d d
 ·exact fM 1 none d d d d (.inl d) d d d
 ·refine fJ [(16,_),(17,_)] 2 [some 0,some 1] fun G a w S=>?_
  exact sIdxV S (wN d) d d d ay d (lb d) fun a S=>leafL ⟨d,S⟩
 ·refine fJ [(18,_)] 3 [some 2] fun G a w S=>?_
  exact sLoadVN (vq:=ax) 3 [.int .u8 a9.Kind,.bool a9.Purl,iv a9.A,iv a9.B] S (wN d) d d d d d d (lb d) fun a S=>leafL ⟨d,S⟩
 ·exact fM 4 none d d d d (.inl d) d d d
 ·exact fM 5 none d d d d (.inl d) d d d
 ·refine fJ [(20,_),(21,_)] 6 [some 4,some 5] fun G a w S=>?_
  exact sIdxV S (wN d) d d d aA d (lb d) fun a S=>leafL ⟨d,S⟩
 ·refine fJ [(22,_)] 7 [some 6] fun G a w S=>?_
  exact sLoadVN (vq:=az) 0 [.int .u8 aa.Kind,.bool aa.Purl,iv aa.A,iv aa.B] S (wN d) d d d d d d (lb d) fun a S=>leafL ⟨d,S⟩
 ·refine fJ [(19,_),(23,_)] 8 [some 3,some 7] fun G a w S=>?_
  exact sBin _ S (wN d) d d d (bNeV _ _ _ _ #[.int .u8 a9.Kind,.bool a9.Purl,iv a9.A,iv a9.B] #[.int .u8 aa.Kind,.bool aa.Purl,iv aa.A,iv aa.B] ((a9.Kind == aa.Kind) && ((a9.Purl == aa.Purl) && ((a9.A == aa.A) && ((a9.B == aa.B) && true)))) (by kernel_rfl) (eqlV_of (by kernel_rfl))) d (lb d) fun a S=>leafL ⟨d,S⟩
 refine leafT (au _ _ ?_)
 rcases iS h with ⟨ae,h⟩ | ⟨ae,h⟩
 rotate_left
 ·refine sCondF S d ae (wp_skip (leafB (leafT (aq _ _ ?_))))
  refine sRegion (sBin _ S (wN d) d d d (bAdd _ _ _ _ ab 1) d (lb d) fun a S=>sM S fun a S=>?_)
  exact lT (⟨w64 (ab + 1),(Option.some.inj h).symm,(S.fix [] [6,7] (by decide) d d d)⟩)
 refine sCondT S d ae (sSeq (fun aZ aC=>sRegion (sN S fun a S=>?_)))
 refine lT (aC _ _ ?_)
 obtain rfl:=tS h
 obtain rfl:=aj _ d
 have h:=aH
 try dsimp only at h
 obtain rfl:=tS h
 have h:=aG
 try dsimp only at h
 obtain rfl:=tS h
 exact wp_ret (rBlock (rThen (rThen (rBlock (rThen (sRet (.bool false) S (rsl1 d (rvT (t:=4) (v:=.bool false) S d)) ⟨(),d,S.mem.sel [] [] (by decide) d d⟩))))))
noncomputable def F_stitch_Same (p0:(List api_Stitch)) (p1:(List api_Stitch)):Option Bool:=
 (F_slices_Equal___api_Stitch_api_Stitch_ p0 p1).bind fun r7=>
 some r7
theorem c_stitch_Same (E:Nat→Prop) (w0:World) (p0:(List api_Stitch)) (v0:Value) (p1:(List api_Stitch)) (v1:Value) (r:Bool) (h:F_stitch_Same p0 p1=some r) (S:St0 E [] w0 w0 [] [fRep (rL r_api_Stitch) (v0) p0,fRep (rL r_api_Stitch) (v1) p1]) :
 Calls Try.prog 57 #[v0,v1] w0 (Ret (X:=Unit) E [] w0 (fun _=>.bool r) (fun _=>[]) (fun _=>[])):=by
 unfold F_stitch_Same at h
 obtain ⟨a9,aa,_,rfl,_⟩:=S.know (i:=0) (e:=fRep (rL r_api_Stitch) (v0) p0) d
 obtain ⟨ab,ac,_,rfl,_⟩:=S.know (i:=1) (e:=fRep (rL r_api_Stitch) (v1) p1) d
 refine sEnter (args:=[.slice a9 p0.length aa,.slice ab p1.length ac]) 8 Try.func57 d d (by simp) S (fun a S=>?_)
 refine sSeq (fun K5 ae=>sRegion (sN S fun a S=>?_))
 refine lT (ae _ _ (sSeq (fun K6 af=>sRegion (sM S fun a S=>?_))))
 refine sM S fun a S=>?_
 obtain ⟨r7,ag,h⟩:=bS h
 have S1:=S.mem
 refine sCq [.slice a9 p0.length aa,.slice ab p1.length ac] (.bool r7) S callee75 (S1.quiet [0,1] d) (fun E1 w1 S1=>c_slices_Equal___api_Stitch_api_Stitch_ E1 w1 p0 (.slice a9 p0.length aa) p1 (.slice ab p1.length ac) r7 ag S1) fun a w S=>?_
 refine sN S fun a S=>?_
 refine lT (af _ _ ?_)
 obtain rfl:=tS h
 exact wp_ret (sRet (.bool r7) S (rsl1 d (rvT (t:=4) (v:=.bool r7) S d)) ⟨(),d,S.mem.sel [] [] (by decide) d d⟩)
def anc_raddleref25_Same_0:List (List Nat):=[[],[],[0,1],[0,1,2],[],[],[4,5],[4,5,6],[0,1,2,3,4,5,6,7]]
noncomputable def raddleref25_Same_l1 (p0:(List api_Stitch)) (p1:(List api_Stitch)):Int→Option (Int ⊕ (Bool ⊕ Unit)):=fun s0=>match s0 with
 | a9=>
  if decide (a9 < (p0.length:Int)) then
   (idxO p0 a9).bind fun aa=>
   (idxO p1 a9).bind fun ab=>
   if !((aa.Kind == ab.Kind) && ((aa.Purl == ab.Purl) && ((aa.A == ab.A) && ((aa.B == ab.B) && true)))) then
    some (.inr (.inl false))
   else
    some (.inl (w64 (a9 + 1)))
  else
   some (.inr (.inr ()))
noncomputable def F_raddleref25_Same (p0:(List api_Stitch)) (p1:(List api_Stitch)):Option Bool:=
 if (p0.length:Int) != (p1.length:Int) then
  some false
 else
  Option.bind (α:=Unit ⊕ Bool) (
   (whileO (raddleref25_Same_l1 p0 p1) 0).bind fun z0=>match z0 with
    | .inl z=>
     some (.inr z)
    | .inr _=>
     some (.inl ())) fun z0=>match z0 with
   | .inl _=>
    some true
   | .inr z=>
    some z
theorem c_raddleref25_Same (E:Nat→Prop) (w0:World) (p0:(List api_Stitch)) (v0:Value) (p1:(List api_Stitch)) (v1:Value) (r:Bool) (h:F_raddleref25_Same p0 p1=some r) (S:St0 E [] w0 w0 [] [fRep (rL r_api_Stitch) (v0) p0,fRep (rL r_api_Stitch) (v1) p1]) :
 Calls Try.prog 63 #[v0,v1] w0 (Ret (X:=Unit) E [] w0 (fun _=>.bool r) (fun _=>[]) (fun _=>[])):=by
 unfold F_raddleref25_Same at h
 obtain ⟨af,ag,_,rfl,_⟩:=S.know (i:=0) (e:=fRep (rL r_api_Stitch) (v0) p0) d
 obtain ⟨ah,ai,_,rfl,_⟩:=S.know (i:=1) (e:=fRep (rL r_api_Stitch) (v1) p1) d
 refine sEnter (args:=[.slice af p0.length ag,.slice ah p1.length ai]) 26 Try.func63 d d (by simp) S (fun a S=>?_)
 refine sSeq (fun K5 aJ=>sRegion (sN S fun a S=>?_))
 refine lT (aJ _ _ (sSeq (fun K6 aK=>sSeq (fun K7 aL=>sRegion (sM S fun a S=>?_)))))
 refine sLen S (wN d) d Try.underlying86 d d (lb d) fun a S=>sM S fun a S=>?_
 refine sLen S (wN d) d Try.underlying86 d d (lb d) fun a S=>sBin _ S (wN d) d d d (bNe _ _ _ _ .i64 (p0.length:Int) (p1.length:Int)) d (lb d) fun a S=>lT (aL _ _ ?_)
 rcases iS h with ⟨ak,h⟩ | ⟨ak,h⟩
 ·refine sCondT S d ak (sSeq (fun K9 aM=>sRegion (sN S fun a S=>?_)))
  refine lT (aM _ _ ?_)
  obtain rfl:=tS h
  exact wp_ret (rThen (sRet (.bool false) S (rsl1 d (rvT (t:=4) (v:=.bool false) S d)) ⟨(),d,S.mem.sel [] [] (by decide) d d⟩))
 refine sCondF S d ak (wp_skip (leafT (aK _ _ ?_)))
 obtain ⟨aO,h,aC⟩:=bS h
 refine sCut (fun a w=>.inl ()=aO∧St [] E [] w0 26 a w [] [] []) ?_ (fun a w hI=>?_)
 rotate_left
 ·obtain ⟨rfl,S⟩:=hI
  have h:=aC
  try dsimp only at h
  refine sSeq (fun aP al=>sRegion (sN S fun a S=>?_))
  refine lT (al _ _ ?_)
  obtain rfl:=tS h
  exact wp_ret (sRet (.bool true) S (rsl1 d (rvT (t:=4) (v:=.bool true) S d)) ⟨(),d,S.mem.sel [] [] (by decide) d d⟩)
 refine sSeq (fun aQ am=>sRegion (sN S fun a S=>?_))
 refine lT (am _ _ (wp_block ?_))
 obtain ⟨aR,hl,aG⟩:=bS h
 refine sLoop hl (fun s0 a w=>match s0 with | ab=>St [] E [] w0 26 a w [(0,.slice af p0.length ag),(1,.slice ah p1.length ai),(5,iv ab)] [] [fRep (rL r_api_Stitch) (.slice af p0.length ag) p0,fRep (rL r_api_Stitch) (.slice ah p1.length ai) p1]) (S.fix [] [0,1] (by decide) d d d) ?_
 clear hl h
 intro ab a w c0 hI h aj
 unfold raddleref25_Same_l1 at h
 dsimp only at h hI
 have S:=hI
 refine sSeq (fun aS ao=>sSeq (fun aT ap=>sRegion (sM S fun a S=>?_)))
 refine sM S fun a S=>?_
 refine sLen S (wN d) d Try.underlying86 d d (lb d) fun a S=>sBin _ S (wN d) d d d (bLt _ _ _ _ .i64 ab (p0.length:Int)) d (lb d) fun a S=>lT (ap _ _ ?_)
 rcases iS h with ⟨ac,h⟩ | ⟨ac,h⟩
 rotate_left
 ·refine sCondF S d ac ?_
  obtain rfl:=tS h
  obtain rfl:=aj _ d
  have h:=aG
  try dsimp only at h
  exact wp_exit (xThen (xThen (xHit (leafT (⟨Option.some.inj h,S.fix [] [] (by decide) d d d⟩)))))
 refine sCondT S d ac (wp_skip (leafT (ao _ _ ?_)))
 refine sSeq (fun aU aq=>wp_block ?_)
 refine sSeq (fun aV ar=>?_)
 obtain ⟨a9,au,h⟩:=bS h
 obtain ⟨aa,av,h⟩:=bS h
 obtain ⟨aw,ax,S⟩:=pIdx (P:=Try.prog) (r:=r_api_Stitch) (v:=.slice af p0.length ag) (xs:=p0) (j:=ab) 86 82 0 S Try.underlying86 d d au
 obtain ⟨aH,S⟩:=pLoad (r:=r_api_Stitch) (q:=aw) (x:=a9) 0 S d
 obtain rfl:aH=.agg #[.int .u8 a9.Kind,.bool a9.Purl,iv a9.A,iv a9.B]:=S.mem.know (i:=1) (e:=fRep r_api_Stitch (aH) a9) d
 obtain ⟨ay,az,S⟩:=pIdx (P:=Try.prog) (r:=r_api_Stitch) (v:=.slice ah p1.length ai) (xs:=p1) (j:=ab) 86 82 4 S Try.underlying86 d d av
 obtain ⟨aI,S⟩:=pLoad (r:=r_api_Stitch) (q:=ay) (x:=aa) 0 S d
 obtain rfl:aI=.agg #[.int .u8 aa.Kind,.bool aa.Purl,iv aa.A,iv aa.B]:=S.mem.know (i:=1) (e:=fRep r_api_Stitch (aI) aa) d
 refine sDraw (nf:=[]) (W:=[(0,17,.slice af p0.length ag),(1,18,iv ab),(2,19,aw),(3,20,.agg #[.int .u8 a9.Kind,.bool a9.Purl,iv a9.A,iv a9.B]),(4,21,.slice ah p1.length ai),(5,22,iv ab),(6,23,ay),(7,24,.agg #[.int .u8 aa.Kind,.bool aa.Purl,iv aa.A,iv aa.B]),(8,25,.bool (!((a9.Kind == aa.Kind) && ((a9.Purl == aa.Purl) && ((a9.A == aa.A) && ((a9.B == aa.B) && true))))))]) d S ?_
 refine node_by (A:=anc_raddleref25_Same_0) 9 (by kernel_rfl) (by kernel_rfl) (by kernel_rfl) (by kernel_rfl) (by kernel_rfl) [0,1,2,3,4,5,6,7,8] (by kernel_rfl) (by decide) (by decide) (fF ?_ (fF ?_ (fF ?_ (fF ?_ (fF ?_ (fF ?_ (fF ?_ (fF ?_ (fF ?_ (trivial)))))))))) [(0,.slice af p0.length ag),(1,.slice ah p1.length ai),(5,iv ab),(25,.bool (!((a9.Kind == aa.Kind) && ((a9.Purl == aa.Purl) && ((a9.A == aa.A) && ((a9.B == aa.B) && true))))))] (fin_of [none,none,none,some 8] d (by kernel_rfl) (by kernel_rfl)) (fun _ a w S=>?_)
 ·exact fM 0 none d d d d (.inl d) d d d
 ·exact fM 1 none d d d d (.inl d) d d d
 ·refine fJ [(17,_),(18,_)] 2 [some 0,some 1] fun G a w S=>?_
  exact sIdxV S (wN d) d d d ax d (lb d) fun a S=>leafL ⟨d,S⟩
 ·refine fJ [(19,_)] 3 [some 2] fun G a w S=>?_
  exact sLoadVN (vq:=aw) 3 [.int .u8 a9.Kind,.bool a9.Purl,iv a9.A,iv a9.B] S (wN d) d d d d d d (lb d) fun a S=>leafL ⟨d,S⟩
 ·exact fM 4 none d d d d (.inl d) d d d
 ·exact fM 5 none d d d d (.inl d) d d d
 ·refine fJ [(21,_),(22,_)] 6 [some 4,some 5] fun G a w S=>?_
  exact sIdxV S (wN d) d d d az d (lb d) fun a S=>leafL ⟨d,S⟩
 ·refine fJ [(23,_)] 7 [some 6] fun G a w S=>?_
  exact sLoadVN (vq:=ay) 0 [.int .u8 aa.Kind,.bool aa.Purl,iv aa.A,iv aa.B] S (wN d) d d d d d d (lb d) fun a S=>leafL ⟨d,S⟩
 ·refine fJ [(20,_),(24,_)] 8 [some 3,some 7] fun G a w S=>?_
  exact sBin _ S (wN d) d d d (bNeV _ _ _ _ #[.int .u8 a9.Kind,.bool a9.Purl,iv a9.A,iv a9.B] #[.int .u8 aa.Kind,.bool aa.Purl,iv aa.A,iv aa.B] ((a9.Kind == aa.Kind) && ((a9.Purl == aa.Purl) && ((a9.A == aa.A) && ((a9.B == aa.B) && true)))) (by kernel_rfl) (eqlV_of (by kernel_rfl))) d (lb d) fun a S=>leafL ⟨d,S⟩
 refine leafT (ar _ _ ?_)
 rcases iS h with ⟨ae,h⟩ | ⟨ae,h⟩
 rotate_left
 ·refine sCondF S d ae (wp_skip (leafB (leafT (aq _ _ ?_))))
  refine sRegion (sM S fun a S=>?_)
  refine sBin _ S (wN d) d d d (bAdd _ _ _ _ ab 1) d (lb d) fun a S=>sN S fun a S=>?_
  exact lT (⟨w64 (ab + 1),(Option.some.inj h).symm,(S.fix [] [6,7] (by decide) d d d)⟩)
 refine sCondT S d ae (sSeq (fun aW aA=>sRegion (sN S fun a S=>?_)))
 refine lT (aA _ _ ?_)
 obtain rfl:=tS h
 obtain rfl:=aj _ d
 have h:=aG
 try dsimp only at h
 obtain rfl:=tS h
 have h:=aC
 try dsimp only at h
 obtain rfl:=tS h
 exact wp_ret (rBlock (rThen (rThen (rBlock (rThen (sRet (.bool false) S (rsl1 d (rvT (t:=4) (v:=.bool false) S d)) ⟨(),d,S.mem.sel [] [] (by decide) d d⟩))))))
theorem loop_eq {α τ:Type} {B:Int→Option (Int ⊕ τ)} (a b:List α) (hl:a.length=b.length) (good bad:τ)
 (h:∀ k (hk:k < a.length),∃ t:Bool,(t=true ↔ a[k]=b[k]'(by omega))∧B (k:Int)=some (if t=true then .inl ((k + 1:Nat):Int) else .inr bad)) (hn:B (a.length:Int)=some (.inr good)) :
 ∃ t:Bool,(t=true ↔ a=b)∧whileO B 0=some (if t=true then good else bad):=by
 have key:∃ u,whileO B 0=some u∧∃ t:Bool,(t=true ↔ a=b)∧u=(if t=true then good else bad):=by
  refine loop_ix a.length (fun k=>∀ j,j < k→a[j]?=b[j]?) _ (fun j hj=>absurd hj (Nat.not_lt_zero j)) ?_ ?_
  ·intro k hk hI
   obtain ⟨t,h1,h2⟩:=h k hk
   cases t with
   | true=>
    refine .inl ⟨by rw [h2,if_pos rfl],fun j hj=>?_⟩
    by_cases e:j=k
    ·subst e
     rw [List.getElem?_eq_getElem hk,List.getElem?_eq_getElem (by omega),h1.1 rfl]
    ·exact hI j (by omega)
   | false=>
    refine .inr ⟨bad,by rw [h2]; rfl,false,⟨fun h=>(by cases h),fun h=>?_⟩,rfl⟩
    subst h
    exact absurd (h1.2 rfl) (by simp)
  ·intro hI
   refine ⟨good,hn,true,⟨fun _=>?_,fun _=>rfl⟩,rfl⟩
   apply List.ext_getElem?
   intro j
   by_cases hj:j < a.length
   ·exact hI j hj
   ·rw [List.getElem?_eq_none (by omega),List.getElem?_eq_none (by omega)]
 obtain ⟨u,h1,t,h2,rfl⟩:=key
 exact ⟨t,h2,h1⟩
theorem eqS_iff (x y:api_Stitch):((x.Kind == y.Kind) && ((x.Purl == y.Purl) && ((x.A == y.A) && ((x.B == y.B) && true))))=true ↔ x=y:=by
 cases x; cases y; simp
theorem same_eq (a b:List api_Stitch) (hl:a.length ≤ 9223372036854775807):∃ t:Bool,(t=true ↔ a=b)∧F_stitch_Same a b=some t:=by
 unfold F_stitch_Same F_slices_Equal___api_Stitch_api_Stitch_
 by_cases h:a.length=b.length
 case neg=>
  exact ⟨false,⟨fun h=>(by cases h),fun e=>absurd (congrArg List.length e) h⟩,by simp only [nT (show ¬ (a.length:Int)=(b.length:Int) by omega),if_true,Option.bind_some]⟩
 simp only [nF (show (a.length:Int)=(b.length:Int) by omega),Bool.false_eq_true,if_false]
 have key:∃ t:Bool,(t=true ↔ a=b)∧whileO (slices_Equal___api_Stitch_api_Stitch__l1 a b) 0=some (if t=true then .inr () else .inl false):=by
  refine loop_eq a b h _ _ (fun k hk=>?_) ?_
  ·refine ⟨_,eqS_iff a[k] (b[k]'(by omega)),?_⟩
   unfold slices_Equal___api_Stitch_api_Stitch__l1
   simp only [dT (show (k:Int) < (a.length:Int) by omega),if_true,idxO_nat hk,idxO_nat (show k < b.length by omega),Option.bind_some,w64_succ (show k < 9223372036854775807 by omega)]
   cases ((a[k].Kind == (b[k]'(by omega)).Kind) && ((a[k].Purl == (b[k]'(by omega)).Purl) && ((a[k].A == (b[k]'(by omega)).A) && ((a[k].B == (b[k]'(by omega)).B) && true)))) <;> rfl
  ·unfold slices_Equal___api_Stitch_api_Stitch__l1
   simp only [dF (show ¬ (a.length:Int) < (a.length:Int) by omega),Bool.false_eq_true,if_false]
 obtain ⟨t,t1,t2⟩:=key
 refine ⟨t,t1,?_⟩
 rw [t2]
 cases t <;> rfl
theorem rsame_eq (a b:List api_Stitch) (hl:a.length ≤ 9223372036854775807):∃ t:Bool,(t=true ↔ a=b)∧F_raddleref25_Same a b=some t:=by
 unfold F_raddleref25_Same
 by_cases h:a.length=b.length
 case neg=>
  exact ⟨false,⟨fun h=>(by cases h),fun e=>absurd (congrArg List.length e) h⟩,by simp only [nT (show ¬ (a.length:Int)=(b.length:Int) by omega),if_true]⟩
 simp only [nF (show (a.length:Int)=(b.length:Int) by omega),Bool.false_eq_true,if_false]
 have key:∃ t:Bool,(t=true ↔ a=b)∧whileO (raddleref25_Same_l1 a b) 0=some (if t=true then .inr () else .inl false):=by
  refine loop_eq a b h _ _ (fun k hk=>?_) ?_
  ·refine ⟨_,eqS_iff a[k] (b[k]'(by omega)),?_⟩
   unfold raddleref25_Same_l1
   simp only [dT (show (k:Int) < (a.length:Int) by omega),if_true,idxO_nat hk,idxO_nat (show k < b.length by omega),Option.bind_some,w64_succ (show k < 9223372036854775807 by omega)]
   cases ((a[k].Kind == (b[k]'(by omega)).Kind) && ((a[k].Purl == (b[k]'(by omega)).Purl) && ((a[k].A == (b[k]'(by omega)).A) && ((a[k].B == (b[k]'(by omega)).B) && true)))) <;> rfl
  ·unfold raddleref25_Same_l1
   simp only [dF (show ¬ (a.length:Int) < (a.length:Int) by omega),Bool.false_eq_true,if_false]
 obtain ⟨t,t1,t2⟩:=key
 refine ⟨t,t1,?_⟩
 rw [t2]
 cases t <;> rfl
theorem row_ext {x y:api_Row}:x=y ↔ x.Back=y.Back∧x.Cells=y.Cells:=by cases x; cases y; simp
noncomputable def F_piece_grows (p0:api_Stitch):Option Int:=
 if p0.Kind == 5 then
  some (w64 (p0.A - 1))
 else
  if p0.Kind == 9 then
   some p0.A
  else
   Option.bind (α:=Bool) (
    if p0.Kind == 3 then
     some (p0.Kind == 3)
    else
     some (p0.Kind == 4)) fun a9=>
   if a9 then
    some (w64 (1 - p0.A))
   else
    if p0.Kind == 10 then
     some (w64 (0 - p0.A))
    else
     some 0
theorem c_piece_grows (E:Nat→Prop) (w0:World) (p0:api_Stitch) (v0:Value) (r:Int) (h:F_piece_grows p0=some r) (S:St0 E [] w0 w0 [] [fRep r_api_Stitch (v0) p0]) :
 Calls Try.prog 56 #[v0] w0 (Ret (X:=Unit) E [] w0 (fun _=>.int .i64 r) (fun _=>[]) (fun _=>[])):=by
 unfold F_piece_grows at h
 obtain rfl:v0=.agg #[.int .u8 p0.Kind,.bool p0.Purl,iv p0.A,iv p0.B]:=S.know (i:=0) (e:=fRep r_api_Stitch (v0) p0) d
 refine sEnter (args:=[.agg #[.int .u8 p0.Kind,.bool p0.Purl,iv p0.A,iv p0.B]]) 25 Try.func56 d d (by simp) S (fun a S=>?_)
 refine sSeq (fun K1 am=>sRegion (sBox (v:=.agg #[.int .u8 p0.Kind,.bool p0.Purl,iv p0.A,iv p0.B]) S (wN d) d d [.int .u8 p0.Kind,.bool p0.Purl,iv p0.A,iv p0.B] d d (lb d) fun a b2 w S=>sN S fun a S=>?_))
 refine lT (am _ _ (sSeq (fun K3 ao=>sSeq (fun K4 ap=>sRegion (sField (b:=b2) (off:=0) 0 0 S (wN d) d d d d d (lb d) fun a S=>sLoad1 0 (.int .u8 p0.Kind) S (wN d) d d d d d d (lb d) fun a S=>lT (ap _ _ (wp_block ?_)))))))
 refine sSeq (fun K5 aq=>sRegion (sBin _ S (wN d) d d d (bEq _ _ _ _ .u8 p0.Kind 5) d (lb d) fun a S=>sN S fun a S=>?_))
 refine lT (aq _ _ ?_)
 rcases iS h with ⟨ac,h⟩ | ⟨ac,h⟩
 ·refine sCondT S d ac (sSeq (fun K7 ar=>sRegion (sField (b:=b2) (off:=0) 2 2 S (wN d) d d d d d (lb d) fun a S=>sLoad1 0 (iv p0.A) S (wN d) d d d d d d (lb d) fun a S=>sBin _ S (wN d) d d d (bSub _ _ _ _ p0.A 1) d (lb d) fun a S=>sN S fun a S=>?_)))
  refine lT (ar _ _ ?_)
  obtain rfl:=tS h
  exact wp_ret (rBlock (rThen (sRet (iv (w64 (p0.A - 1))) S (rsl1 d (rvT (t:=2) (v:=iv (w64 (p0.A - 1))) S d)) ⟨(),d,S.mem.sel [] [] (by decide) d d⟩)))
 refine sCondF S d ac (sSeq (fun K8 au=>sRegion (sBin _ S (wN d) d d d (bEq _ _ _ _ .u8 p0.Kind 9) d (lb d) fun a S=>sN S fun a S=>?_)))
 refine lT (au _ _ ?_)
 rcases iS h with ⟨ae,h⟩ | ⟨ae,h⟩
 ·refine sCondT S d ae (sSeq (fun ax af=>sRegion (sField (b:=b2) (off:=0) 2 2 S (wN d) d d d d d (lb d) fun a S=>sLoad1 0 (iv p0.A) S (wN d) d d d d d d (lb d) fun a S=>sN S fun a S=>?_)))
  refine lT (af _ _ ?_)
  obtain rfl:=tS h
  exact wp_ret (rBlock (rThen (sRet (iv p0.A) S (rsl1 d (rvT (t:=2) (v:=iv p0.A) S d)) ⟨(),d,S.mem.sel [] [] (by decide) d d⟩)))
 refine sCondF S d ae ?_
 obtain ⟨av,h,aw⟩:=bS h
 refine sCut (fun a w=>∃ ag,ag=av∧St [] E [] w0 25 a w [(1,.pointer (some ⟨b2,0,none⟩)),(4,.int .u8 p0.Kind),(14,.bool ag)] [eBox b2 82 [.int .u8 p0.Kind,.bool p0.Purl,iv p0.A,iv p0.B]] []) ?_ (fun a w hI=>?_)
 ·refine sSeq (fun ay ah=>sRegion (sBin _ S (wN d) d d d (bEq _ _ _ _ .u8 p0.Kind 3) d (lb d) fun a S=>sN S fun a S=>?_))
  refine lT (ah _ _ ?_)
  rcases iS h with ⟨a9,h⟩ | ⟨a9,h⟩
  ·refine sCondT S d a9 ?_
   exact wp_skip (leafT (⟨p0.Kind == 3,Option.some.inj h,S.fix [0] [] (by decide) d d d⟩))
  refine sCondF S d a9 (sRegion (sBin _ S (wN d) d d d (bEq _ _ _ _ .u8 p0.Kind 4) d (lb d) fun a S=>sN S fun a S=>?_))
  exact lT (⟨p0.Kind == 4,Option.some.inj h,S.fix [0] [] (by decide) d d d⟩)
 obtain ⟨ag,rfl,S⟩:=hI
 have h:=aw
 try dsimp only at h
 rcases iS h with ⟨aa,h⟩ | ⟨aa,h⟩
 ·refine sCondT S d aa (sSeq (fun az ai=>sRegion (sField (b:=b2) (off:=0) 2 2 S (wN d) d d d d d (lb d) fun a S=>sLoad1 0 (iv p0.A) S (wN d) d d d d d d (lb d) fun a S=>sBin _ S (wN d) d d d (bSub _ _ _ _ 1 p0.A) d (lb d) fun a S=>sN S fun a S=>?_)))
  refine lT (ai _ _ ?_)
  obtain rfl:=tS h
  exact wp_ret (rBlock (rThen (sRet (iv (w64 (1 - p0.A))) S (rsl1 d (rvT (t:=2) (v:=iv (w64 (1 - p0.A))) S d)) ⟨(),d,S.mem.sel [] [] (by decide) d d⟩)))
 refine sCondF S d aa (sSeq (fun aA aj=>sRegion (sBin _ S (wN d) d d d (bEq _ _ _ _ .u8 p0.Kind 10) d (lb d) fun a S=>sN S fun a S=>?_)))
 refine lT (aj _ _ ?_)
 rcases iS h with ⟨ab,h⟩ | ⟨ab,h⟩
 rotate_left
 ·refine sCondF S d ab (wp_skip (leafB (leafT (ao _ _ ?_))))
  refine sSeq (fun aC ak=>sRegion (sN S fun a S=>?_))
  refine lT (ak _ _ ?_)
  obtain rfl:=tS h
  exact wp_ret (sRet (iv 0) S (rsl1 d (rvT (t:=2) (v:=iv 0) S d)) ⟨(),d,S.mem.sel [] [] (by decide) d d⟩)
 refine sCondT S d ab (sSeq (fun aG al=>sRegion (sField (b:=b2) (off:=0) 2 2 S (wN d) d d d d d (lb d) fun a S=>sLoad1 0 (iv p0.A) S (wN d) d d d d d d (lb d) fun a S=>sNeg (b:=p0.A) S (wN d) d d d (lb d) fun a S=>sN S fun a S=>?_)))
 refine lT (al _ _ ?_)
 obtain rfl:=tS h
 exact wp_ret (rBlock (rThen (sRet (iv (w64 (0 - p0.A))) S (rsl1 d (rvT (t:=2) (v:=iv (w64 (0 - p0.A))) S d)) ⟨(),d,S.mem.sel [] [] (by decide) d d⟩)))
def anc_piece_Read_0:List (List Nat):=[[],[0],[0,1],[0,1,2],[],[],[5],[5,6],[4,5,6,7],[4,5,6,7,8],[0,1,2,3,4,5,6,7,8,9],[0,1,2,3,4,5,6,7,8,9,10],[0,1,2,3,4,5,6,7,8,9,10,11]]
def anc_piece_Read_1:List (List Nat):=[[],[0],[],[2],[],[2,3,4],[2,3,4,5],[],[2,3,4,5,6,7],[2,3,4,5,6,7,8],[0,1,2,3,4,5,6,7,8,9],[0,1,2,3,4,5,6,7,8,9,10],[0,1,2,3,4,5,6,7,8,9,10,11]]
def anc_piece_Read_2:List (List Nat):=[[],[0],[],[2],[],[2,3,4],[2,3,4,5],[2,3,4,5,6],[0,1,2,3,4,5,6,7],[0,1,2,3,4,5,6,7,8],[0,1,2,3,4,5,6,7,8,9],[0,1,2,3,4,5,6,7,8,9,10],[0,1,2,3,4,5,6,7,8,9],[0,1,2,3,4,5,6,7,8,9,12],[0,1,2,3,4,5,6,7,8,9],[0,1,2,3,4,5,6,7,8,9,12,13,14],[0,1,2,3,4,5,6,7,8,9,12,13,14,15],[0,1,2,3,4,5,6,7,8,9,12,13,14,15,16],[0,1,2,3,4,5,6,7,8,9,10,11,12,13,14,15,16,17],[0,1,2,3,4,5,6,7,8,9,10,11,12,13,14,15,16,17,18],[0,1,2,3,4,5,6,7,8,9,10,11,12,13,14,15,16,17,18,19]]
noncomputable def piece_Read_l1 (p0:api_Chart):(Int × List Int × List Int)→Option ((Int × List Int × List Int) ⊕ ((api_Piece × Int) ⊕ (List Int × List Int))):=fun s0=>match s0 with
 | (aa,ab,ac)=>
  if decide (aa < (p0.Rows.length:Int)) then
   (idxO p0.Rows aa).bind fun a9=>
   Option.bind (α:=Bool) (
    if (a9.Cells.length:Int) == 0 then
     some true
    else
     (F_stitch_All a9.Cells).bind fun ak=>
     some (ak != 0)) fun al=>
   if al then
    some (.inr (.inl ((api_Piece.mk ([]:(List Int)) ([]:(List Int))),8)))
   else
    (idxO a9.Cells 0).bind fun am=>
    (F_piece_grows am).bind fun ai=>
    (idxO a9.Cells (w64 ((a9.Cells.length:Int) - 1))).bind fun ao=>
    (F_piece_grows ao).bind fun aj=>
    Option.bind (α:=(Int × Int)) (
     if a9.Back then
      some (aj,ai)
     else
      some (ai,aj)) fun (ap,aq)=>
    (idxO ab aa).bind fun ae=>
    (appO ab ([w64 (ae - aq)]:List Int)).bind fun af=>
    (idxO ac aa).bind fun ag=>
    (appO ac ([w64 (ag + ap)]:List Int)).bind fun ah=>
    some (.inl (w64 (aa + 1),af,ah))
  else
   some (.inr (.inr (ab,ac)))
noncomputable def piece_Read_l2 (p0:api_Chart) (ac:(api_Chart × Int)):Int→Option (Int ⊕ ((api_Piece × Int) ⊕ Unit)):=fun s0=>match s0 with
 | a9=>
  if decide (a9 < (p0.Rows.length:Int)) then
   (idxO p0.Rows a9).bind fun aa=>
   Option.bind (α:=Bool) (
    (idxO ac.1.Rows a9).bind fun ab=>
    if aa.Back != ab.Back then
     some true
    else
     (F_stitch_Same aa.Cells ab.Cells).bind fun ae=>
     some (!ae)) fun af=>
   if af then
    some (.inr (.inl ((api_Piece.mk ([]:(List Int)) ([]:(List Int))),8)))
   else
    some (.inl (w64 (a9 + 1)))
  else
   some (.inr (.inr ()))
noncomputable def F_piece_Read (p0:api_Chart) (p1:Int):Option (api_Piece × Int):=
 Option.bind (α:=Bool) (
  (F_piece_column p1).bind fun ac=>
  if !ac then
   some true
  else
   if decide (p0.Start < 1) then
    some true
   else
    if decide (200 < p0.Start) then
     some true
    else
     some (decide (100 ≤ (p0.Rows.length:Int)))) fun o9=>
 if o9 then
  some ((api_Piece.mk ([]:(List Int)) ([]:(List Int))),8)
 else
  Option.bind (α:=(List Int × List Int) ⊕ (api_Piece × Int)) (
   (whileO (piece_Read_l1 p0) (0,([p1]:List Int),([w64 (p1 + p0.Start)]:List Int))).bind fun z0=>match z0 with
    | .inl z=>
     some (.inr z)
    | .inr (ae,af)=>
     some (.inl (ae,af))) fun z0=>match z0 with
   | .inl (aa,ab)=>
    (F_piece_Chart (api_Piece.mk aa ab)).bind fun a9=>
    if a9.2 != 0 then
     some ((api_Piece.mk ([]:(List Int)) ([]:(List Int))),8)
    else
     Option.bind (α:=Unit ⊕ (api_Piece × Int)) (
      (whileO (piece_Read_l2 p0 a9) 0).bind fun z0=>match z0 with
       | .inl z=>
        some (.inr z)
       | .inr _=>
        some (.inl ())) fun z0=>match z0 with
      | .inl _=>
       some ((api_Piece.mk aa ab),0)
      | .inr z=>
       some z
   | .inr z=>
    some z
def c_piece_Read_val (r:(api_Piece × Int)) (x:Value):Value:=.tuple #[x,.int .i64 r.2]
def c_piece_Read_D (r:(api_Piece × Int)) (x:Value):List Fact:=[fRep r_api_Piece x r.1]
theorem c_piece_Read (E:Nat→Prop) (w0:World) (p0:api_Chart) (v0:Value) (p1:Int) (r:(api_Piece × Int)) (h:F_piece_Read p0 p1=some r) (S:St0 E [] w0 w0 [] [fRep r_api_Chart (v0) p0]) :
 Calls Try.prog 27 #[v0,iv p1] w0 (Ret (X:=Value) E [] w0 (c_piece_Read_val r) (fun _=>[]) (c_piece_Read_D r)):=by
 unfold F_piece_Read at h
 obtain ⟨u1,rfl,di⟩:=S.know (i:=0) (e:=fRep r_api_Chart (v0) p0) d
 have S:=S.learn (fRep (rL r_api_Row) u1 p0.Rows) di
 obtain ⟨aw,ax,_,rfl,_⟩:=di
 refine sEnter (args:=[.agg #[iv p0.Start,.slice aw p0.Rows.length ax],iv p1]) 143 Try.func27 d d (by simp) S (fun a S=>?_)
 refine sSeq (fun K5 dp=>sRegion (sBox (v:=.agg #[iv p0.Start,.slice aw p0.Rows.length ax]) S (wN d) d d [iv p0.Start,.slice aw p0.Rows.length ax] d d (lb d) fun a b6 w S=>sAlloc (.agg #[.slice none 0 0,.slice none 0 0]) S (wN d) d d [.slice none 0 0,.slice none 0 0] d d (lb d) fun a b7 w S=>sN S fun a S=>?_))
 refine lT (dp _ _ (sSeq (fun K8 dr=>?_)))
 obtain ⟨dt,h,du⟩:=bS h
 refine sCut (fun a w=>∃ o9,o9=dt∧St [] E [] w0 143 a w [(1,iv p1),(2,.pointer (some ⟨b6,0,none⟩)),(4,.pointer (some ⟨b7,0,none⟩)),(34,.bool o9)] [eBox b6 49 [iv p0.Start,.slice aw p0.Rows.length ax],eBox b7 36 [.slice none 0 0,.slice none 0 0]] [fRep (rL r_api_Row) (.slice aw p0.Rows.length ax) p0.Rows]) ?_ (fun a w hI=>?_)
 ·refine sRegion (sM S fun a S=>?_)
  obtain ⟨cE,cF,h⟩:=bS h
  have S1:=S.mem
  refine sCq [iv p1] (.bool cE) S callee45 (S1.quiet [] d) (fun E1 w1 S1=>c_piece_column E1 w1 p1 cE cF S1) fun a w S=>?_
  refine sNot (b:=cE) S (wN d) d d d (lb d) fun a S=>sM S fun a S=>?_
  rcases iS h with ⟨b8,h⟩ | ⟨b8,h⟩
  ·refine sSkN 3 3 false 19 S d d b8 d fun a S=>sPickT (.bool true) S (wN d) d d b8 d d (lb d) fun a S=>sM S fun a S=>?_
   refine sSkN 3 8 false 24 S d d d d fun a S=>sPickT (.bool true) S (wN d) d d d d d (lb d) fun a S=>sM S fun a S=>?_
   refine sSkN 4 13 false 29 S d d d d fun a S=>sPickT (.bool true) S (wN d) d d d d d (lb d) fun a S=>?_
   exact lT (⟨true,Option.some.inj h,S.fix [1,0] [0] (by decide) d d d⟩)
  refine sField (b:=b6) (off:=0) 0 0 S (wG 3 false 19 d d d b8) d d d d d (lb d) fun a S=>sLoad1 1 (iv p0.Start) S (wG 3 false 19 d d d b8) d d d d d d (lb d) fun a S=>sBin _ S (wG 3 false 19 d d d b8) d d d (bLt _ _ _ _ .i64 p0.Start 1) d (lb d) fun a S=>sPickF (.bool (decide (p0.Start < 1))) S (wN d) d d b8 d d (lb d) fun a S=>sM S fun a S=>?_
  rcases iS h with ⟨ba,h⟩ | ⟨ba,h⟩
  ·refine sSkN 3 8 false 24 S d d ba d fun a S=>sPickT (.bool true) S (wN d) d d ba d d (lb d) fun a S=>sM S fun a S=>?_
   refine sSkN 4 13 false 29 S d d d d fun a S=>sPickT (.bool true) S (wN d) d d d d d (lb d) fun a S=>?_
   exact lT (⟨true,Option.some.inj h,S.fix [1,0] [0] (by decide) d d d⟩)
  refine sField (b:=b6) (off:=0) 0 0 S (wG 8 false 24 d d d ba) d d d d d (lb d) fun a S=>sLoad1 1 (iv p0.Start) S (wG 8 false 24 d d d ba) d d d d d d (lb d) fun a S=>sBin _ S (wG 8 false 24 d d d ba) d d d (bGt _ _ _ _ .i64 p0.Start 200) d (lb d) fun a S=>sPickF (.bool (decide (200 < p0.Start))) S (wN d) d d ba d d (lb d) fun a S=>sM S fun a S=>?_
  rcases iS h with ⟨aS,h⟩ | ⟨aS,h⟩
  ·refine sSkN 4 13 false 29 S d d aS d fun a S=>sPickT (.bool true) S (wN d) d d aS d d (lb d) fun a S=>?_
   exact lT (⟨true,Option.some.inj h,S.fix [1,0] [0] (by decide) d d d⟩)
  refine sField (b:=b6) (off:=0) 1 1 S (wG 13 false 29 d d d aS) d d d d d (lb d) fun a S=>sLoad1 1 (.slice aw p0.Rows.length ax) S (wG 13 false 29 d d d aS) d d d d d d (lb d) fun a S=>sLen S (wG 13 false 29 d d d aS) d Try.underlying47 d d (lb d) fun a S=>sBin _ S (wG 13 false 29 d d d aS) d d d (bGe _ _ _ _ .i64 (p0.Rows.length:Int) 100) d (lb d) fun a S=>sPickF (.bool (decide (100 ≤ (p0.Rows.length:Int)))) S (wN d) d d aS d d (lb d) fun a S=>?_
  exact lT (⟨decide (100 ≤ (p0.Rows.length:Int)),Option.some.inj h,S.fix [1,0] [0] (by decide) d d d⟩)
 obtain ⟨o9,rfl,S⟩:=hI
 have h:=du
 try dsimp only at h
 rcases iS h with ⟨bE,h⟩ | ⟨bE,h⟩
 ·refine sCondT S d bE (sSeq (fun dU cG=>sRegion (sBuild [] [.slice none 0 0,.slice none 0 0] S (wN d) d d d d (lb d) fun a S=>sStore (p:=b7) (off:=0) (T:=36) (vs:=[.slice none 0 0,.slice none 0 0]) (v:=.agg #[.slice none 0 0,.slice none 0 0]) 1 [.slice none 0 0,.slice none 0 0] S (wN d) d d d d d d d (by simp) d fun a w S=>sN S fun a S=>?_)))
  refine lT (cG _ _ ?_)
  obtain rfl:=tS h
  have S:=S.learn (fRep (rL (rI .i64)) (.slice none 0 0) ([]:(List Int))) (rL_nil _ _ _)
  have S:=S.learn (fRep r_api_Piece (.agg #[.slice none 0 0,.slice none 0 0]) (api_Piece.mk ([]:(List Int)) ([]:(List Int)))) ⟨_,_,d,S.mem.know (i:=0) (e:=fRep (rL (rI .i64)) (.slice none 0 0) ([]:(List Int))) d,S.mem.know (i:=0) (e:=fRep (rL (rI .i64)) (.slice none 0 0) ([]:(List Int))) d⟩
  exact wp_ret (rThen (sRet (.tuple #[.agg #[.slice none 0 0,.slice none 0 0],iv 8]) S (rsl2 d (rvN (c:=4) (t:=36) (T:=36) (p:=b7) 0 [.slice none 0 0,.slice none 0 0] S d d d d) (rvT (t:=5) (v:=iv 8) S d)) ⟨(.agg #[.slice none 0 0,.slice none 0 0]),d,S.mem.sel [] [0] (by decide) d d⟩))
 refine sCondF S d bE (wp_skip (leafT (dr _ _ ?_)))
 refine sSeq (fun dV cH=>sRegion (sM S fun a S=>?_))
 refine sLit (r:=(rI .i64)) (T:=3) (xs:=([p1]:List Int)) [(0,iv p1)] 1 [iv p1] [iv p1] (iv 0) 8 S (wN d) d d Try.underlying34 d (by decide) (by decide) (by kernel_rfl) d (fun E1 w1 hE=>All.cons d (All.nil _ _ _)) d d (lb d) fun a w bg bh S=>?_
 refine sM S fun a S=>?_
 refine sField (b:=b6) (off:=0) 0 0 S (wN d) d d d d d (lb d) fun a S=>sLoad1 1 (iv p0.Start) S (wN d) d d d d d d (lb d) fun a S=>sBin _ S (wN d) d d d (bAdd _ _ _ _ p1 p0.Start) d (lb d) fun a S=>sLit (r:=(rI .i64)) (T:=3) (xs:=([w64 (p1 + p0.Start)]:List Int)) [(0,iv (w64 (p1 + p0.Start)))] 1 [iv (w64 (p1 + p0.Start))] [iv (w64 (p1 + p0.Start))] (iv 0) 8 S (wN d) d d Try.underlying34 d (by decide) (by decide) (by kernel_rfl) d (fun E1 w1 hE=>All.cons d (All.nil _ _ _)) d d (lb d) fun a w bi bj S=>?_
 refine sBuild [(0,.slice bg ([p1]:List Int).length bh),(1,.slice bi ([w64 (p1 + p0.Start)]:List Int).length bj)] [.slice bg ([p1]:List Int).length bh,.slice bi ([w64 (p1 + p0.Start)]:List Int).length bj] S (wN d) d d d d (lb d) fun a S=>sAlloc (.agg #[.slice none 0 0,.slice none 0 0]) S (wN d) d d [.slice none 0 0,.slice none 0 0] d d (lb d) fun a ak w S=>sStore (p:=ak) (off:=0) (T:=36) (vs:=[.slice none 0 0,.slice none 0 0]) (v:=.agg #[.slice bg ([p1]:List Int).length bh,.slice bi ([w64 (p1 + p0.Start)]:List Int).length bj]) 0 [.slice bg ([p1]:List Int).length bh,.slice bi ([w64 (p1 + p0.Start)]:List Int).length bj] S (wN d) d d d d d d d (by simp) d fun a w S=>lT (cH _ _ ?_)
 obtain ⟨dv,h,dj⟩:=bS h
 refine sCut (fun a w=>∃ al,∃ am,.inl (al,am)=dv∧∃ ae,∃ af,∃ ag,∃ ah,St [] E [] w0 143 a w [(2,.pointer (some ⟨b6,0,none⟩)),(4,.pointer (some ⟨b7,0,none⟩)),(6,.pointer (some ⟨ak,0,none⟩))] [eBox b6 49 [iv p0.Start,.slice aw p0.Rows.length ax],eBox b7 36 [.slice none 0 0,.slice none 0 0],eBox ak 36 [.slice ae al.length af,.slice ag am.length ah],eRow (rI .i64) 3 (.slice ae al.length af) al,eRow (rI .i64) 3 (.slice ag am.length ah) am] [fRep (rL r_api_Row) (.slice aw p0.Rows.length ax) p0.Rows]) ?_ (fun a w hI=>?_)
 rotate_left
 ·obtain ⟨al,am,rfl,ae,af,ag,ah,S⟩:=hI
  have h:=dj
  try dsimp only at h
  refine sSeq (fun dw bQ=>sRegion (sLoadN (p:=ak) (off:=0) (T:=36) (vs:=[.slice ae al.length af,.slice ag am.length ah]) 2 [.slice ae al.length af,.slice ag am.length ah] S (wN d) d d d d d d d (lb d) fun a S=>?_))
  obtain ⟨a9,bR,h⟩:=bS h
  have S:=S.shutR (r:=(rI .i64)) (T:=3) (v:=.slice ae al.length af) (xs:=al) 3 d
  have S:=S.shutR (r:=(rI .i64)) (T:=3) (v:=.slice ag am.length ah) (xs:=am) 3 d
  have S:=S.learn (fRep r_api_Piece (.agg #[.slice ae al.length af,.slice ag am.length ah]) (api_Piece.mk al am)) ⟨_,_,d,S.mem.know (i:=1) (e:=fRep (rL (rI .i64)) (.slice ae al.length af) al) d,S.mem.know (i:=0) (e:=fRep (rL (rI .i64)) (.slice ag am.length ah) am) d⟩
  refine sCall (X:=Value) (f:=15) (vs:=[.agg #[.slice ae al.length af,.slice ag am.length ah]]) (val:=c_piece_Chart_val a9) (B':=fun _=>[]) (D':=c_piece_Chart_D a9) [] [eBox b6 49 [iv p0.Start,.slice aw p0.Rows.length ax],eBox b7 36 [.slice none 0 0,.slice none 0 0],eBox ak 36 [.slice ae al.length af,.slice ag am.length ah]] [fRep r_api_Piece (.agg #[.slice ae al.length af,.slice ag am.length ah]) (api_Piece.mk al am)] [0,1,2] [0] S (wN d) d callee15 d (by decide) d d (fun E1 w1 S1=>c_piece_Chart E1 w1 (api_Piece.mk al am) (.agg #[.slice ae al.length af,.slice ag am.length ah]) a9 bR S1) d (lb d) fun cI a w S=>?_
  obtain ⟨cJ,rfl,bz⟩:=S.mem.know (i:=0) (e:=fRep r_api_Chart (cI) a9.1) d
  have S:=S.learn (fRep (rL r_api_Row) cJ a9.1.Rows) bz
  obtain ⟨ab,ac,_,rfl,_⟩:=bz
  refine sM S fun a S=>?_
  refine sExtract (vs:=[.agg #[iv a9.1.Start,.slice ab a9.1.Rows.length ac],iv a9.2]) (.agg #[iv a9.1.Start,.slice ab a9.1.Rows.length ac]) S (wN d) d d d d (lb d) fun a S=>sExtract (vs:=[.agg #[iv a9.1.Start,.slice ab a9.1.Rows.length ac],iv a9.2]) (iv a9.2) S (wN d) d d d d (lb d) fun a S=>sAlloc (.agg #[iv 0,.slice none 0 0]) S (wN d) d d [iv 0,.slice none 0 0] d d (lb d) fun a aA w S=>sStore (p:=aA) (off:=0) (T:=49) (vs:=[iv 0,.slice none 0 0]) (v:=.agg #[iv a9.1.Start,.slice ab a9.1.Rows.length ac]) 0 [iv a9.1.Start,.slice ab a9.1.Rows.length ac] S (wN d) d d d d d d d (by simp) d fun a w S=>sN S fun a S=>?_
  refine lT (bQ _ _ (sSeq (fun dx bV=>sSeq (fun dy bW=>sRegion (sM S fun a S=>?_)))))
  refine sBin _ S (wN d) d d d (bNe _ _ _ _ .i64 a9.2 0) d (lb d) fun a S=>lT (bW _ _ ?_)
  rcases iS h with ⟨bl,h⟩ | ⟨bl,h⟩
  ·refine sCondT S d bl (sSeq (fun dz bX=>sRegion (sBuild [] [.slice none 0 0,.slice none 0 0] S (wN d) d d d d (lb d) fun a S=>sStore (p:=b7) (off:=0) (T:=36) (vs:=[.slice none 0 0,.slice none 0 0]) (v:=.agg #[.slice none 0 0,.slice none 0 0]) 2 [.slice none 0 0,.slice none 0 0] S (wN d) d d d d d d d (by simp) d fun a w S=>sN S fun a S=>?_)))
   refine lT (bX _ _ ?_)
   obtain rfl:=tS h
   have S:=S.learn (fRep (rL (rI .i64)) (.slice none 0 0) ([]:(List Int))) (rL_nil _ _ _)
   have S:=S.learn (fRep r_api_Piece (.agg #[.slice none 0 0,.slice none 0 0]) (api_Piece.mk ([]:(List Int)) ([]:(List Int)))) ⟨_,_,d,S.mem.know (i:=0) (e:=fRep (rL (rI .i64)) (.slice none 0 0) ([]:(List Int))) d,S.mem.know (i:=0) (e:=fRep (rL (rI .i64)) (.slice none 0 0) ([]:(List Int))) d⟩
   exact wp_ret (rThen (sRet (.tuple #[.agg #[.slice none 0 0,.slice none 0 0],iv 8]) S (rsl2 d (rvN (c:=4) (t:=36) (T:=36) (p:=b7) 0 [.slice none 0 0,.slice none 0 0] S d d d d) (rvT (t:=5) (v:=iv 8) S d)) ⟨(.agg #[.slice none 0 0,.slice none 0 0]),d,S.mem.sel [] [0] (by decide) d d⟩))
  refine sCondF S d bl (wp_skip (leafT (bV _ _ ?_)))
  obtain ⟨cK,h,bY⟩:=bS h
  refine sCut (fun a w=>.inl ()=cK∧St [] E [] w0 143 a w [(4,.pointer (some ⟨b7,0,none⟩)),(6,.pointer (some ⟨ak,0,none⟩))] [eBox b7 36 [.slice none 0 0,.slice none 0 0],eBox ak 36 [.slice ae al.length af,.slice ag am.length ah]] [fRep (rL (rI .i64)) (.slice ae al.length af) al,fRep (rL (rI .i64)) (.slice ag am.length ah) am]) ?_ (fun a w hI=>?_)
  rotate_left
  ·obtain ⟨rfl,S⟩:=hI
   have h:=bY
   try dsimp only at h
   refine sSeq (fun dA bZ=>sRegion (sLoadN (p:=ak) (off:=0) (T:=36) (vs:=[.slice ae al.length af,.slice ag am.length ah]) 1 [.slice ae al.length af,.slice ag am.length ah] S (wN d) d d d d d d d (lb d) fun a S=>sStore (p:=b7) (off:=0) (T:=36) (vs:=[.slice none 0 0,.slice none 0 0]) (v:=.agg #[.slice ae al.length af,.slice ag am.length ah]) 0 [.slice ae al.length af,.slice ag am.length ah] S (wN d) d d d d d d d (by simp) d fun a w S=>sN S fun a S=>?_))
   refine lT (bZ _ _ ?_)
   obtain rfl:=tS h
   have S:=S.learn (fRep r_api_Piece (.agg #[.slice ae al.length af,.slice ag am.length ah]) (api_Piece.mk al am)) ⟨_,_,d,S.mem.know (i:=0) (e:=fRep (rL (rI .i64)) (.slice ae al.length af) al) d,S.mem.know (i:=1) (e:=fRep (rL (rI .i64)) (.slice ag am.length ah) am) d⟩
   exact wp_ret (sRet (.tuple #[.agg #[.slice ae al.length af,.slice ag am.length ah],iv 0]) S (rsl2 d (rvN (c:=4) (t:=36) (T:=36) (p:=b7) 0 [.slice ae al.length af,.slice ag am.length ah] S d d d d) (rvT (t:=5) (v:=iv 0) S d)) ⟨(.agg #[.slice ae al.length af,.slice ag am.length ah]),d,S.mem.sel [] [0] (by decide) d d⟩)
  refine sSeq (fun dB c6=>sRegion (sField (b:=b6) (off:=0) 1 1 S (wN d) d d d d d (lb d) fun a S=>sLoad1 1 (.slice aw p0.Rows.length ax) S (wN d) d d d d d d (lb d) fun a S=>sLen S (wN d) d Try.underlying47 d d (lb d) fun a S=>sM S fun a S=>?_))
  refine lT (c6 _ _ (wp_block ?_))
  obtain ⟨dC,hl,c7⟩:=bS h
  refine sLoop hl (fun s0 a w=>match s0 with | au=>St [] E [] w0 143 a w [(4,.pointer (some ⟨b7,0,none⟩)),(6,.pointer (some ⟨ak,0,none⟩)),(12,.pointer (some ⟨aA,0,none⟩)),(112,.slice aw p0.Rows.length ax),(113,iv (p0.Rows.length:Int)),(114,iv au)] [eBox b7 36 [.slice none 0 0,.slice none 0 0],eBox ak 36 [.slice ae al.length af,.slice ag am.length ah],eBox aA 49 [iv a9.1.Start,.slice ab a9.1.Rows.length ac]] [fRep (rL r_api_Row) (.slice aw p0.Rows.length ax) p0.Rows,fRep (rL (rI .i64)) (.slice ae al.length af) al,fRep (rL (rI .i64)) (.slice ag am.length ah) am,fRep (rL r_api_Row) (.slice ab a9.1.Rows.length ac) a9.1.Rows]) (S.fix [2,3,0] [5,4,3,0] (by decide) d d d) ?_
  clear hl h
  intro au a w c0 hI h bA
  unfold piece_Read_l2 at h
  dsimp only at h hI
  have S:=hI
  refine sSeq (fun dD c8=>sRegion (sBin _ S (wN d) d d d (bLt _ _ _ _ .i64 au (p0.Rows.length:Int)) d (lb d) fun a S=>lT (c8 _ _ (sSeq (fun dE c9=>?_)))))
  rcases iS h with ⟨bm,h⟩ | ⟨bm,h⟩
  rotate_left
  ·refine sCondF S d bm ?_
   obtain rfl:=tS h
   obtain rfl:=bA _ d
   have h:=c7
   try dsimp only at h
   exact wp_exit (xThen (xThen (xHit (leafT (⟨Option.some.inj h,S.fix [0,1] [1,2] (by decide) d d d⟩)))))
  refine sCondT S d bm (wp_skip (leafT (c9 _ _ ?_)))
  refine sSeq (fun dG ca=>wp_block ?_)
  refine sSeq (fun dH cb=>sRegion (sM S fun a S=>?_))
  obtain ⟨aj,cc,h⟩:=bS h
  obtain ⟨cd,ce,S⟩:=pIdx (P:=Try.prog) (r:=r_api_Row) (v:=.slice aw p0.Rows.length ax) (xs:=p0.Rows) (j:=au) 47 90 0 S Try.underlying47 d d cc
  refine sIdxV S (wN d) d d d ce d (lb d) fun a S=>?_
  obtain ⟨cL,S⟩:=pLoad (r:=r_api_Row) (q:=cd) (x:=aj) 0 S d
  obtain ⟨cM,rfl,bB⟩:=S.mem.know (i:=1) (e:=fRep r_api_Row (cL) aj) d
  have S:=S.learn (fRep (rL r_api_Stitch) cM aj.Cells) bB
  obtain ⟨aH,aI,_,rfl,_⟩:=bB
  refine sLoadVN (vq:=cd) 1 [.bool aj.Back,.slice aH aj.Cells.length aI] S (wN d) d d d d d d (lb d) fun a S=>sAlloc (.agg #[.bool false,.slice none 0 0]) S (wN d) d d [.bool false,.slice none 0 0] d d (lb d) fun a aT w S=>sN S fun a S=>?_
  refine sStore (p:=aT) (off:=0) (T:=90) (vs:=[.bool false,.slice none 0 0]) (v:=.agg #[.bool aj.Back,.slice aH aj.Cells.length aI]) 0 [.bool aj.Back,.slice aH aj.Cells.length aI] S (wN d) d d d d d d d (by simp) d fun a w S=>lT (cb _ _ ?_)
  obtain ⟨cN,h,cO⟩:=bS h
  refine sCut (fun a w=>∃ bG,bG=cN∧St [] E [] w0 143 a w [(4,.pointer (some ⟨b7,0,none⟩)),(6,.pointer (some ⟨ak,0,none⟩)),(12,.pointer (some ⟨aA,0,none⟩)),(112,.slice aw p0.Rows.length ax),(113,iv (p0.Rows.length:Int)),(114,iv au),(139,.bool bG)] [eBox b7 36 [.slice none 0 0,.slice none 0 0],eBox ak 36 [.slice ae al.length af,.slice ag am.length ah],eBox aA 49 [iv a9.1.Start,.slice ab a9.1.Rows.length ac]] [fRep (rL r_api_Row) (.slice aw p0.Rows.length ax) p0.Rows,fRep (rL (rI .i64)) (.slice ae al.length af) al,fRep (rL (rI .i64)) (.slice ag am.length ah) am,fRep (rL r_api_Row) (.slice ab a9.1.Rows.length ac) a9.1.Rows]) ?_ (fun a w hI=>?_)
  rotate_left
  ·obtain ⟨bG,rfl,S⟩:=hI
   have h:=cO
   try dsimp only at h
   rcases iS h with ⟨bn,h⟩ | ⟨bn,h⟩
   rotate_left
   ·refine sCondF S d bn (wp_skip (leafB (leafT (ca _ _ ?_))))
    refine sRegion (sBin _ S (wN d) d d d (bAdd _ _ _ _ au 1) d (lb d) fun a S=>sM S fun a S=>?_)
    exact lT (⟨w64 (au + 1),(Option.some.inj h).symm,(S.fix [0,1,2] [0,1,2,3] (by decide) d d d)⟩)
   refine sCondT S d bn (sSeq (fun dI cf=>sRegion (sBuild [] [.slice none 0 0,.slice none 0 0] S (wN d) d d d d (lb d) fun a S=>sStore (p:=b7) (off:=0) (T:=36) (vs:=[.slice none 0 0,.slice none 0 0]) (v:=.agg #[.slice none 0 0,.slice none 0 0]) 0 [.slice none 0 0,.slice none 0 0] S (wN d) d d d d d d d (by simp) d fun a w S=>sN S fun a S=>?_)))
   refine lT (cf _ _ ?_)
   obtain rfl:=tS h
   obtain rfl:=bA _ d
   have h:=c7
   try dsimp only at h
   obtain rfl:=tS h
   have h:=bY
   try dsimp only at h
   obtain rfl:=tS h
   have S:=S.learn (fRep (rL (rI .i64)) (.slice none 0 0) ([]:(List Int))) (rL_nil _ _ _)
   have S:=S.learn (fRep r_api_Piece (.agg #[.slice none 0 0,.slice none 0 0]) (api_Piece.mk ([]:(List Int)) ([]:(List Int)))) ⟨_,_,d,S.mem.know (i:=0) (e:=fRep (rL (rI .i64)) (.slice none 0 0) ([]:(List Int))) d,S.mem.know (i:=0) (e:=fRep (rL (rI .i64)) (.slice none 0 0) ([]:(List Int))) d⟩
   exact wp_ret (rBlock (rThen (rThen (rBlock (rThen (sRet (.tuple #[.agg #[.slice none 0 0,.slice none 0 0],iv 8]) S (rsl2 d (rvN (c:=4) (t:=36) (T:=36) (p:=b7) 0 [.slice none 0 0,.slice none 0 0] S d d d d) (rvT (t:=5) (v:=iv 8) S d)) ⟨(.agg #[.slice none 0 0,.slice none 0 0]),d,S.mem.sel [] [0] (by decide) d d⟩))))))
  obtain ⟨ai,bo,h⟩:=bS h
  rcases iS h with ⟨aa,h⟩ | ⟨aa,h⟩
  ·obtain ⟨bH,cg,S⟩:=pIdx (P:=Try.prog) (r:=r_api_Row) (v:=.slice ab a9.1.Rows.length ac) (xs:=a9.1.Rows) (j:=au) 47 90 7 S Try.underlying47 d d bo
   obtain ⟨bI,ci,S⟩:=pFld (P:=Try.prog) (r:=r_api_Row) (s2:=rB) (g:=(·.Back)) (q:=bH) (z:=ai) 90 0 0 0 S d d comp_api_Row_Back
   obtain ⟨cj,S⟩:=pLoad (r:=rB) (q:=bI) (x:=ai.Back) 0 S d
   obtain rfl:cj=.bool ai.Back:=S.mem.know (i:=1) (e:=fRep rB (cj) ai.Back) d
   refine sDraw (nf:=[]) (W:=[(0,119,.pointer (some ⟨aT,0,none⟩)),(1,120,.bool aj.Back),(2,121,.pointer (some ⟨aA,1,none⟩)),(3,122,.slice ab a9.1.Rows.length ac),(4,123,iv au),(5,124,bH),(6,125,bI),(7,126,.bool ai.Back),(8,127,.bool (aj.Back != ai.Back)),(9,128,.bool (aj.Back != ai.Back)),(10,129,undef),(11,130,undef),(12,131,undef),(13,132,undef),(14,133,undef),(15,134,undef),(16,135,undef),(17,136,undef),(18,137,undef),(19,138,undef),(20,139,.bool true)]) d S ?_
   refine node_by (A:=anc_piece_Read_2) 21 (by kernel_rfl) (by kernel_rfl) (by kernel_rfl) (by kernel_rfl) (by kernel_rfl) [0,1,2,3,4,5,6,7,8,9,10,11,12,13,14,15,16,17,18,19,20] (by kernel_rfl) (by decide) (by decide) (fF ?_ (fF ?_ (fF ?_ (fF ?_ (fF ?_ (fF ?_ (fF ?_ (fF ?_ (fF ?_ (fF ?_ (fF ?_ (fF ?_ (fF ?_ (fF ?_ (fF ?_ (fF ?_ (fF ?_ (fF ?_ (fF ?_ (fF ?_ (fF ?_ (trivial)))))))))))))))))))))) [(4,.pointer (some ⟨b7,0,none⟩)),(6,.pointer (some ⟨ak,0,none⟩)),(12,.pointer (some ⟨aA,0,none⟩)),(112,.slice aw p0.Rows.length ax),(113,iv (p0.Rows.length:Int)),(114,iv au),(129,undef),(130,undef),(131,undef),(132,undef),(133,undef),(134,undef),(135,undef),(136,undef),(137,undef),(138,undef),(139,.bool true)] (fin_of [none,none,none,none,none,none,some 10,some 11,some 12,some 13,some 14,some 15,some 16,some 17,some 18,some 19,some 20] d (by kernel_rfl) (by kernel_rfl)) (fun _ a w S=>?_)
   ·refine fJ [(15,_)] 0 [none] fun G a w S=>?_
    exact sField (b:=aT) (off:=0) 0 0 S (wN d) d d d d d (lb d) fun a S=>leafL ⟨d,S⟩
   ·refine fJ [(119,_)] 1 [some 0] fun G a w S=>?_
    exact sLoad1 0 (.bool aj.Back) S (wN d) d d d d d d (lb d) fun a S=>leafL ⟨d,S⟩
   ·refine fJ [(12,_)] 2 [none] fun G a w S=>?_
    exact sField (b:=aA) (off:=0) 1 1 S (wN d) d d d d d (lb d) fun a S=>leafL ⟨d,S⟩
   ·refine fJ [(121,_)] 3 [some 2] fun G a w S=>?_
    exact sLoad1 3 (.slice ab a9.1.Rows.length ac) S (wN d) d d d d d d (lb d) fun a S=>leafL ⟨d,S⟩
   ·exact fM 4 none d d d d (.inl d) d d d
   ·refine fJ [(122,_),(123,_)] 5 [some 3,some 4] fun G a w S=>?_
    exact sIdxV S (wN d) d d d cg d (lb d) fun a S=>leafL ⟨d,S⟩
   ·refine fJ [(124,_)] 6 [some 5] fun G a w S=>?_
    exact sFldV (q:=bH) S (wN d) d d ci d (lb d) fun a S=>leafL ⟨d,S⟩
   ·refine fJ [(125,_)] 7 [some 6] fun G a w S=>?_
    exact sLoadV1 (vq:=bI) 0 (.bool ai.Back) S (wN d) d d d d d (lb d) fun a S=>leafL ⟨d,S⟩
   ·refine fJ [(120,_),(126,_)] 8 [some 1,some 7] fun G a w S=>?_
    exact sBin _ S (wN d) d d d (bNeB _ _ _ _ Try.underlying4 aj.Back ai.Back) d (lb d) fun a S=>leafL ⟨d,S⟩
   ·exact fM 9 (some 8) d d d d (.inl d) d d d
   ·refine fJ [(15,_),(128,_)] 10 [none,some 9] fun G a w S=>?_
    exact sSk S d d d aa d d fun a S=>leafL ⟨d,S⟩
   ·refine fJ [(129,_),(128,_)] 11 [some 10,some 9] fun G a w S=>?_
    exact sSk S d d d aa d d fun a S=>leafL ⟨d,S⟩
   ·refine fJ [(12,_),(128,_)] 12 [none,some 9] fun G a w S=>?_
    exact sSk S d d d aa d d fun a S=>leafL ⟨d,S⟩
   ·refine fJ [(131,_),(128,_)] 13 [some 12,some 9] fun G a w S=>?_
    exact sSk S d d d aa d d fun a S=>leafL ⟨d,S⟩
   ·refine fJ [(14,_),(128,_)] 14 [none,some 9] fun G a w S=>?_
    exact sSk S d d d aa d d fun a S=>leafL ⟨d,S⟩
   ·refine fJ [(132,_),(133,_),(128,_)] 15 [some 13,some 14,some 9] fun G a w S=>?_
    exact sSk S d d d aa d d fun a S=>leafL ⟨d,S⟩
   ·refine fJ [(134,_),(128,_)] 16 [some 15,some 9] fun G a w S=>?_
    exact sSk S d d d aa d d fun a S=>leafL ⟨d,S⟩
   ·refine fJ [(135,_),(128,_)] 17 [some 16,some 9] fun G a w S=>?_
    exact sSk S d d d aa d d fun a S=>leafL ⟨d,S⟩
   ·refine fJ [(130,_),(136,_),(128,_)] 18 [some 11,some 17,some 9] fun G a w S=>?_
    exact sSk S d d d aa d d fun a S=>leafL ⟨d,S⟩
   ·refine fJ [(137,_),(128,_)] 19 [some 18,some 9] fun G a w S=>?_
    exact sSk S d d d aa d d fun a S=>leafL ⟨d,S⟩
   ·refine fJ [(128,_),(138,_)] 20 [some 9,some 19] fun G a w S=>?_
    exact sPickT (.bool true) S (wN d) d d aa d d (lb d) fun a S=>leafL ⟨d,S⟩
   exact leafT (⟨true,Option.some.inj h,S.fix [1,2,3] [8,9,10,11] (by decide) d d d⟩)
  obtain ⟨aL,ck,h⟩:=bS h
  obtain ⟨bJ,cl,S⟩:=pIdx (P:=Try.prog) (r:=r_api_Row) (v:=.slice ab a9.1.Rows.length ac) (xs:=a9.1.Rows) (j:=au) 47 90 7 S Try.underlying47 d d bo
  obtain ⟨bK,cm,S⟩:=pFld (P:=Try.prog) (r:=r_api_Row) (s2:=rB) (g:=(·.Back)) (q:=bJ) (z:=ai) 90 0 0 0 S d d comp_api_Row_Back
  obtain ⟨cn,S⟩:=pLoad (r:=rB) (q:=bK) (x:=ai.Back) 0 S d
  obtain rfl:cn=.bool ai.Back:=S.mem.know (i:=1) (e:=fRep rB (cn) ai.Back) d
  obtain ⟨bw,co,S⟩:=pIdx (P:=Try.prog) (r:=r_api_Row) (v:=.slice ab a9.1.Rows.length ac) (xs:=a9.1.Rows) (j:=au) 47 90 11 S Try.underlying47 d d bo
  obtain ⟨bx,cp,S⟩:=pFld (P:=Try.prog) (r:=r_api_Row) (s2:=(rL r_api_Stitch)) (g:=(·.Cells)) (q:=bw) (z:=ai) 90 1 0 1 S d d comp_api_Row_Cells
  obtain ⟨cP,S⟩:=pLoad (r:=(rL r_api_Stitch)) (q:=bx) (x:=ai.Cells) 0 S d
  obtain ⟨aU,aV,_,rfl,_⟩:=S.mem.know (i:=1) (e:=fRep (rL r_api_Stitch) (cP) ai.Cells) d
  refine sDraw (nf:=[]) (W:=[(0,119,.pointer (some ⟨aT,0,none⟩)),(1,120,.bool aj.Back),(2,121,.pointer (some ⟨aA,1,none⟩)),(3,122,.slice ab a9.1.Rows.length ac),(4,123,iv au),(5,124,bJ),(6,125,bK),(7,126,.bool ai.Back),(8,127,.bool (aj.Back != ai.Back)),(9,128,.bool (aj.Back != ai.Back)),(10,129,.pointer (some ⟨aT,1,none⟩)),(11,130,.slice aH aj.Cells.length aI),(12,131,.pointer (some ⟨aA,1,none⟩)),(13,132,.slice ab a9.1.Rows.length ac),(14,133,iv au),(15,134,bw),(16,135,bx),(17,136,.slice aU ai.Cells.length aV),(18,137,.bool aL),(19,138,.bool (!aL)),(20,139,.bool (!aL))]) d S ?_
  refine node_by (A:=anc_piece_Read_2) 21 (by kernel_rfl) (by kernel_rfl) (by kernel_rfl) (by kernel_rfl) (by kernel_rfl) [0,1,2,3,4,5,6,7,8,9,10,11,12,13,14,15,16,17,18,19,20] (by kernel_rfl) (by decide) (by decide) (fF ?_ (fF ?_ (fF ?_ (fF ?_ (fF ?_ (fF ?_ (fF ?_ (fF ?_ (fF ?_ (fF ?_ (fF ?_ (fF ?_ (fF ?_ (fF ?_ (fF ?_ (fF ?_ (fF ?_ (fF ?_ (fF ?_ (fF ?_ (fF ?_ (trivial)))))))))))))))))))))) [(4,.pointer (some ⟨b7,0,none⟩)),(6,.pointer (some ⟨ak,0,none⟩)),(12,.pointer (some ⟨aA,0,none⟩)),(112,.slice aw p0.Rows.length ax),(113,iv (p0.Rows.length:Int)),(114,iv au),(129,.pointer (some ⟨aT,1,none⟩)),(130,.slice aH aj.Cells.length aI),(131,.pointer (some ⟨aA,1,none⟩)),(132,.slice ab a9.1.Rows.length ac),(133,iv au),(134,bw),(135,bx),(136,.slice aU ai.Cells.length aV),(137,.bool aL),(138,.bool (!aL)),(139,.bool (!aL))] (fin_of [none,none,none,none,none,none,some 10,some 11,some 12,some 13,some 14,some 15,some 16,some 17,some 18,some 19,some 20] d (by kernel_rfl) (by kernel_rfl)) (fun _ a w S=>?_)
  ·refine fJ [(15,_)] 0 [none] fun G a w S=>?_
   exact sField (b:=aT) (off:=0) 0 0 S (wN d) d d d d d (lb d) fun a S=>leafL ⟨d,S⟩
  ·refine fJ [(119,_)] 1 [some 0] fun G a w S=>?_
   exact sLoad1 0 (.bool aj.Back) S (wN d) d d d d d d (lb d) fun a S=>leafL ⟨d,S⟩
  ·refine fJ [(12,_)] 2 [none] fun G a w S=>?_
   exact sField (b:=aA) (off:=0) 1 1 S (wN d) d d d d d (lb d) fun a S=>leafL ⟨d,S⟩
  ·refine fJ [(121,_)] 3 [some 2] fun G a w S=>?_
   exact sLoad1 3 (.slice ab a9.1.Rows.length ac) S (wN d) d d d d d d (lb d) fun a S=>leafL ⟨d,S⟩
  ·exact fM 4 none d d d d (.inl d) d d d
  ·refine fJ [(122,_),(123,_)] 5 [some 3,some 4] fun G a w S=>?_
   exact sIdxV S (wN d) d d d cl d (lb d) fun a S=>leafL ⟨d,S⟩
  ·refine fJ [(124,_)] 6 [some 5] fun G a w S=>?_
   exact sFldV (q:=bJ) S (wN d) d d cm d (lb d) fun a S=>leafL ⟨d,S⟩
  ·refine fJ [(125,_)] 7 [some 6] fun G a w S=>?_
   exact sLoadV1 (vq:=bK) 4 (.bool ai.Back) S (wN d) d d d d d (lb d) fun a S=>leafL ⟨d,S⟩
  ·refine fJ [(120,_),(126,_)] 8 [some 1,some 7] fun G a w S=>?_
   exact sBin _ S (wN d) d d d (bNeB _ _ _ _ Try.underlying4 aj.Back ai.Back) d (lb d) fun a S=>leafL ⟨d,S⟩
  ·exact fM 9 (some 8) d d d d (.inl d) d d d
  ·refine fJ [(15,_),(128,_)] 10 [none,some 9] fun G a w S=>?_
   exact sField (b:=aT) (off:=0) 1 1 S (wG 9 false 128 d d d aa) d d d d d (lb d) fun a S=>leafL ⟨d,S⟩
  ·refine fJ [(129,_),(128,_)] 11 [some 10,some 9] fun G a w S=>?_
   exact sLoad1 0 (.slice aH aj.Cells.length aI) S (wG 9 false 128 d d d aa) d d d d d d (lb d) fun a S=>leafL ⟨d,S⟩
  ·refine fJ [(12,_),(128,_)] 12 [none,some 9] fun G a w S=>?_
   exact sField (b:=aA) (off:=0) 1 1 S (wG 9 false 128 d d d aa) d d d d d (lb d) fun a S=>leafL ⟨d,S⟩
  ·refine fJ [(131,_),(128,_)] 13 [some 12,some 9] fun G a w S=>?_
   exact sLoad1 3 (.slice ab a9.1.Rows.length ac) S (wG 9 false 128 d d d aa) d d d d d d (lb d) fun a S=>leafL ⟨d,S⟩
  ·refine fJ [(14,_),(128,_)] 14 [none,some 9] fun G a w S=>?_
   exact sMove (iv au) S (wG 9 false 128 d d d aa) (.inl d) d d (lb d) fun a S=>leafL ⟨d,S⟩
  ·refine fJ [(132,_),(133,_),(128,_)] 15 [some 13,some 14,some 9] fun G a w S=>?_
   exact sIdxV S (wG 9 false 128 d d d aa) d d d co d (lb d) fun a S=>leafL ⟨d,S⟩
  ·refine fJ [(134,_),(128,_)] 16 [some 15,some 9] fun G a w S=>?_
   exact sFldV (q:=bw) S (wG 9 false 128 d d d aa) d d cp d (lb d) fun a S=>leafL ⟨d,S⟩
  ·refine fJ [(135,_),(128,_)] 17 [some 16,some 9] fun G a w S=>?_
   exact sLoadV1 (vq:=bx) 0 (.slice aU ai.Cells.length aV) S (wG 9 false 128 d d d aa) d d d d d (lb d) fun a S=>leafL ⟨d,S⟩
  ·refine fJ [(130,_),(136,_),(128,_)] 18 [some 11,some 17,some 9] fun G a w S=>?_
   have S1:=S.mem
   refine sCallQ (X:=Unit) (f:=57) (vs:=[.slice aH aj.Cells.length aI,.slice aU ai.Cells.length aV]) (val:=fun _=>.bool aL) S (wG 9 false 128 d d d aa) d callee57 d (S1.quiet [8,1] d) (fun E1 w1 S1=>c_stitch_Same E1 w1 aj.Cells (.slice aH aj.Cells.length aI) ai.Cells (.slice aU ai.Cells.length aV) aL ck S1) d (lb d) fun _ a w S=>?_
   exact leafL ⟨d,S⟩
  ·refine fJ [(137,_),(128,_)] 19 [some 18,some 9] fun G a w S=>?_
   exact sNot (b:=aL) S (wG 9 false 128 d d d aa) d d d (lb d) fun a S=>leafL ⟨d,S⟩
  ·refine fJ [(128,_),(138,_)] 20 [some 9,some 19] fun G a w S=>?_
   exact sPickF (.bool (!aL)) S (wN d) d d aa d d (lb d) fun a S=>leafL ⟨d,S⟩
  exact leafT (⟨!aL,Option.some.inj h,S.fix [1,2,3] [12,13,14,15] (by decide) d d d⟩)
 refine sSeq (fun dW cQ=>sRegion (sField (b:=b6) (off:=0) 1 1 S (wN d) d d d d d (lb d) fun a S=>sLoad1 3 (.slice aw p0.Rows.length ax) S (wN d) d d d d d d (lb d) fun a S=>sLen S (wN d) d Try.underlying47 d d (lb d) fun a S=>sM S fun a S=>?_))
 refine lT (cQ _ _ (wp_block ?_))
 obtain ⟨dX,hl,dk⟩:=bS h
 refine sLoop hl (fun s0 a w=>match s0 with | (aP,aK,aJ)=>∃ aq,∃ ar,∃ ao,∃ ap,St [] E [] w0 143 a w [(2,.pointer (some ⟨b6,0,none⟩)),(4,.pointer (some ⟨b7,0,none⟩)),(6,.pointer (some ⟨ak,0,none⟩)),(45,.slice aw p0.Rows.length ax),(46,iv (p0.Rows.length:Int)),(47,iv aP)] [eBox b6 49 [iv p0.Start,.slice aw p0.Rows.length ax],eBox b7 36 [.slice none 0 0,.slice none 0 0],eBox ak 36 [.slice aq aK.length ar,.slice ao aJ.length ap],eRow (rI .i64) 3 (.slice aq aK.length ar) aK,eRow (rI .i64) 3 (.slice ao aJ.length ap) aJ] [fRep (rL r_api_Row) (.slice aw p0.Rows.length ax) p0.Rows]) ⟨bg,bh,bi,bj,S.fix [3,4,0,2,1] [0] (by decide) d d d⟩ ?_
 clear hl h
 intro s0 a w c0 hI h cq
 obtain ⟨aP,aK,aJ⟩:=s0
 unfold piece_Read_l1 at h
 dsimp only at h hI
 obtain ⟨aq,ar,ao,ap,S⟩:=hI
 refine sSeq (fun dY cR=>sRegion (sBin _ S (wN d) d d d (bLt _ _ _ _ .i64 aP (p0.Rows.length:Int)) d (lb d) fun a S=>lT (cR _ _ (sSeq (fun dZ cT=>?_)))))
 rcases iS h with ⟨bL,h⟩ | ⟨bL,h⟩
 rotate_left
 ·refine sCondF S d bL ?_
  obtain rfl:=tS h
  obtain rfl:=cq _ d
  have h:=dk
  try dsimp only at h
  exact wp_exit (xThen (xThen (xHit (leafT (⟨aK,aJ,Option.some.inj h,aq,ar,ao,ap,S.fix [0,1,2,3,4] [0] (by decide) d d d⟩)))))
 refine sCondT S d bL (wp_skip (leafT (cT _ _ ?_)))
 refine sSeq (fun e9 cU=>wp_block ?_)
 refine sSeq (fun ec cV=>sRegion (sM S fun a S=>?_))
 obtain ⟨av,cW,h⟩:=bS h
 obtain ⟨dl,cX,S⟩:=pIdx (P:=Try.prog) (r:=r_api_Row) (v:=.slice aw p0.Rows.length ax) (xs:=p0.Rows) (j:=aP) 47 90 0 S Try.underlying47 d d cW
 refine sIdxV S (wN d) d d d cX d (lb d) fun a S=>?_
 obtain ⟨dJ,S⟩:=pLoad (r:=r_api_Row) (q:=dl) (x:=av) 0 S d
 obtain ⟨dK,rfl,cr⟩:=S.mem.know (i:=1) (e:=fRep r_api_Row (dJ) av) d
 have S:=S.learn (fRep (rL r_api_Stitch) dK av.Cells) cr
 obtain ⟨ay,az,_,rfl,_⟩:=cr
 refine sLoadVN (vq:=dl) 1 [.bool av.Back,.slice ay av.Cells.length az] S (wN d) d d d d d d (lb d) fun a S=>sAlloc (.agg #[.bool false,.slice none 0 0]) S (wN d) d d [.bool false,.slice none 0 0] d d (lb d) fun a bP w S=>sN S fun a S=>?_
 refine sStore (p:=bP) (off:=0) (T:=90) (vs:=[.bool false,.slice none 0 0]) (v:=.agg #[.bool av.Back,.slice ay av.Cells.length az]) 0 [.bool av.Back,.slice ay av.Cells.length az] S (wN d) d d d d d d d (by simp) d fun a w S=>lT (cV _ _ (sSeq (fun ed cY=>sRegion (sField (b:=bP) (off:=0) 1 1 S (wN d) d d d d d (lb d) fun a S=>sLoad1 0 (.slice ay av.Cells.length az) S (wN d) d d d d d d (lb d) fun a S=>sN S fun a S=>?_))))
 refine lT (cY _ _ (sSeq (fun ee cZ=>?_)))
 obtain ⟨dM,h,dN⟩:=bS h
 refine sCut (fun a w=>∃ d5,d5=dM∧St [] E [] w0 143 a w [(2,.pointer (some ⟨b6,0,none⟩)),(4,.pointer (some ⟨b7,0,none⟩)),(6,.pointer (some ⟨ak,0,none⟩)),(7,iv aP),(8,.pointer (some ⟨bP,0,none⟩)),(9,.slice ay av.Cells.length az),(45,.slice aw p0.Rows.length ax),(46,iv (p0.Rows.length:Int)),(47,iv aP),(61,.bool d5)] [eBox b6 49 [iv p0.Start,.slice aw p0.Rows.length ax],eBox b7 36 [.slice none 0 0,.slice none 0 0],eBox ak 36 [.slice aq aK.length ar,.slice ao aJ.length ap],eBox bP 90 [.bool av.Back,.slice ay av.Cells.length az],eRow (rI .i64) 3 (.slice aq aK.length ar) aK,eRow (rI .i64) 3 (.slice ao aJ.length ap) aJ] [fRep (rL r_api_Stitch) (.slice ay av.Cells.length az) av.Cells,fRep (rL r_api_Row) (.slice aw p0.Rows.length ax) p0.Rows]) ?_ (fun a w hI=>?_)
 ·refine sRegion (sM S fun a S=>?_)
  refine sLen S (wN d) d Try.underlying86 d d (lb d) fun a S=>sBin _ S (wN d) d d d (bEq _ _ _ _ .i64 (av.Cells.length:Int) 0) d (lb d) fun a S=>sM S fun a S=>?_
  rcases iS h with ⟨bb,h⟩ | ⟨bb,h⟩
  ·refine sSkN 3 3 false 57 S d d bb d fun a S=>sPickT (.bool true) S (wN d) d d bb d d (lb d) fun a S=>?_
   exact lT (⟨true,Option.some.inj h,S.fix [1,2,3,0,4,5] [0,4] (by decide) d d d⟩)
  refine sMove (.slice ay av.Cells.length az) S (wG 3 false 57 d d d bb) (.inl d) d d (lb d) fun a S=>?_
  obtain ⟨ct,d6,h⟩:=bS h
  have S1:=S.mem
  refine sCallQ (X:=Unit) (f:=55) (vs:=[.slice ay av.Cells.length az]) (val:=fun _=>iv ct) S (wG 3 false 57 d d d bb) d callee55 d (S1.quiet [0] d) (fun E1 w1 S1=>c_stitch_All E1 w1 av.Cells (.slice ay av.Cells.length az) ct d6 S1) d (lb d) fun _ a w S=>?_
  refine sBin _ S (wG 3 false 57 d d d bb) d d d (bNe _ _ _ _ .i64 ct 0) d (lb d) fun a S=>sPickF (.bool (ct != 0)) S (wN d) d d bb d d (lb d) fun a S=>?_
  exact lT (⟨ct != 0,Option.some.inj h,S.fix [1,2,3,0,4,5] [0,4] (by decide) d d d⟩)
 obtain ⟨d5,rfl,S⟩:=hI
 have h:=dN
 try dsimp only at h
 rcases iS h with ⟨bM,h⟩ | ⟨bM,h⟩
 ·refine sCondT S d bM (sSeq (fun ef d7=>sRegion (sBuild [] [.slice none 0 0,.slice none 0 0] S (wN d) d d d d (lb d) fun a S=>sStore (p:=b7) (off:=0) (T:=36) (vs:=[.slice none 0 0,.slice none 0 0]) (v:=.agg #[.slice none 0 0,.slice none 0 0]) 1 [.slice none 0 0,.slice none 0 0] S (wN d) d d d d d d d (by simp) d fun a w S=>sN S fun a S=>?_)))
  refine lT (d7 _ _ ?_)
  obtain rfl:=tS h
  obtain rfl:=cq _ d
  have h:=dk
  try dsimp only at h
  obtain rfl:=tS h
  have h:=dj
  try dsimp only at h
  obtain rfl:=tS h
  have S:=S.learn (fRep (rL (rI .i64)) (.slice none 0 0) ([]:(List Int))) (rL_nil _ _ _)
  have S:=S.learn (fRep r_api_Piece (.agg #[.slice none 0 0,.slice none 0 0]) (api_Piece.mk ([]:(List Int)) ([]:(List Int)))) ⟨_,_,d,S.mem.know (i:=0) (e:=fRep (rL (rI .i64)) (.slice none 0 0) ([]:(List Int))) d,S.mem.know (i:=0) (e:=fRep (rL (rI .i64)) (.slice none 0 0) ([]:(List Int))) d⟩
  exact wp_ret (rThen (rBlock (rThen (rThen (rBlock (rThen (sRet (.tuple #[.agg #[.slice none 0 0,.slice none 0 0],iv 8]) S (rsl2 d (rvN (c:=4) (t:=36) (T:=36) (p:=b7) 0 [.slice none 0 0,.slice none 0 0] S d d d d) (rvT (t:=5) (v:=iv 8) S d)) ⟨(.agg #[.slice none 0 0,.slice none 0 0]),d,S.mem.sel [] [0] (by decide) d d⟩)))))))
 refine sCondF S d bM (wp_skip (leafT (cZ _ _ ?_)))
 refine sSeq (fun eh d8=>?_)
 obtain ⟨aM,d9,h⟩:=bS h
 obtain ⟨bN,da,h⟩:=bS h
 obtain ⟨aO,db,h⟩:=bS h
 obtain ⟨bO,dc,h⟩:=bS h
 obtain ⟨de,df,S⟩:=pIdx (P:=Try.prog) (r:=r_api_Stitch) (v:=.slice ay av.Cells.length az) (xs:=av.Cells) (j:=0) 86 82 0 S Try.underlying86 d d d9
 obtain ⟨dm,S⟩:=pLoad (r:=r_api_Stitch) (q:=de) (x:=aM) 0 S d
 obtain rfl:dm=.agg #[.int .u8 aM.Kind,.bool aM.Purl,iv aM.A,iv aM.B]:=S.mem.know (i:=1) (e:=fRep r_api_Stitch (dm) aM) d
 obtain ⟨dg,dh,S⟩:=pIdx (P:=Try.prog) (r:=r_api_Stitch) (v:=.slice ay av.Cells.length az) (xs:=av.Cells) (j:=w64 ((av.Cells.length:Int) - 1)) 86 82 3 S Try.underlying86 d d db
 obtain ⟨dn,S⟩:=pLoad (r:=r_api_Stitch) (q:=dg) (x:=aO) 0 S d
 obtain rfl:dn=.agg #[.int .u8 aO.Kind,.bool aO.Purl,iv aO.A,iv aO.B]:=S.mem.know (i:=1) (e:=fRep r_api_Stitch (dn) aO) d
 refine sDraw (nf:=[]) (W:=[(0,63,.slice ay av.Cells.length az),(1,64,de),(2,65,.agg #[.int .u8 aM.Kind,.bool aM.Purl,iv aM.A,iv aM.B]),(3,66,iv bN),(4,67,.slice ay av.Cells.length az),(5,68,.slice ay av.Cells.length az),(6,69,iv (av.Cells.length:Int)),(7,70,iv (w64 ((av.Cells.length:Int) - 1))),(8,71,dg),(9,72,.agg #[.int .u8 aO.Kind,.bool aO.Purl,iv aO.A,iv aO.B]),(10,73,iv bO),(11,10,iv bN),(12,11,iv bO)]) d S ?_
 refine node_by (A:=anc_piece_Read_0) 13 (by kernel_rfl) (by kernel_rfl) (by kernel_rfl) (by kernel_rfl) (by kernel_rfl) [0,1,2,3,4,5,6,7,8,9,10,11,12] (by kernel_rfl) (by decide) (by decide) (fF ?_ (fF ?_ (fF ?_ (fF ?_ (fF ?_ (fF ?_ (fF ?_ (fF ?_ (fF ?_ (fF ?_ (fF ?_ (fF ?_ (fF ?_ (trivial)))))))))))))) [(2,.pointer (some ⟨b6,0,none⟩)),(4,.pointer (some ⟨b7,0,none⟩)),(6,.pointer (some ⟨ak,0,none⟩)),(7,iv aP),(8,.pointer (some ⟨bP,0,none⟩)),(10,iv bN),(11,iv bO),(45,.slice aw p0.Rows.length ax),(46,iv (p0.Rows.length:Int)),(47,iv aP)] (fin_of [none,none,none,none,none,some 11,some 12,none,none,none] d (by kernel_rfl) (by kernel_rfl)) (fun _ a w S=>?_)
 ·exact fM 0 none d d d d (.inl d) d d d
 ·refine fJ [(63,_)] 1 [some 0] fun G a w S=>?_
  exact sIdxV S (wN d) d d d df d (lb d) fun a S=>leafL ⟨d,S⟩
 ·refine fJ [(64,_)] 2 [some 1] fun G a w S=>?_
  exact sLoadVN (vq:=de) 3 [.int .u8 aM.Kind,.bool aM.Purl,iv aM.A,iv aM.B] S (wN d) d d d d d d (lb d) fun a S=>leafL ⟨d,S⟩
 ·refine fJ [(65,_)] 3 [some 2] fun G a w S=>?_
  have S1:=S.mem
  refine sCq [.agg #[.int .u8 aM.Kind,.bool aM.Purl,iv aM.A,iv aM.B]] (iv bN) S callee56 (S1.quiet [4] d) (fun E1 w1 S1=>c_piece_grows E1 w1 aM (.agg #[.int .u8 aM.Kind,.bool aM.Purl,iv aM.A,iv aM.B]) bN da S1) fun a w S=>?_
  exact leafL ⟨d,S⟩
 ·exact fM 4 none d d d d (.inl d) d d d
 ·exact fM 5 none d d d d (.inl d) d d d
 ·refine fJ [(68,_)] 6 [some 5] fun G a w S=>?_
  exact sLen S (wN d) d Try.underlying86 d d (lb d) fun a S=>leafL ⟨d,S⟩
 ·refine fJ [(69,_)] 7 [some 6] fun G a w S=>?_
  exact sBin _ S (wN d) d d d (bSub _ _ _ _ (av.Cells.length:Int) 1) d (lb d) fun a S=>leafL ⟨d,S⟩
 ·refine fJ [(67,_),(70,_)] 8 [some 4,some 7] fun G a w S=>?_
  exact sIdxV S (wN d) d d d dh d (lb d) fun a S=>leafL ⟨d,S⟩
 ·refine fJ [(71,_)] 9 [some 8] fun G a w S=>?_
  exact sLoadVN (vq:=dg) 0 [.int .u8 aO.Kind,.bool aO.Purl,iv aO.A,iv aO.B] S (wN d) d d d d d d (lb d) fun a S=>leafL ⟨d,S⟩
 ·refine fJ [(72,_)] 10 [some 9] fun G a w S=>?_
  have S1:=S.mem
  refine sCq [.agg #[.int .u8 aO.Kind,.bool aO.Purl,iv aO.A,iv aO.B]] (iv bO) S callee56 (S1.quiet [1] d) (fun E1 w1 S1=>c_piece_grows E1 w1 aO (.agg #[.int .u8 aO.Kind,.bool aO.Purl,iv aO.A,iv aO.B]) bO dc S1) fun a w S=>?_
  exact leafL ⟨d,S⟩
 ·exact fM 11 (some 3) d d d d (.inr d) d d d
 ·exact fM 12 (some 10) d d d d (.inr d) d d d
 refine leafT (d8 _ _ ?_)
 obtain ⟨dO,h,dP⟩:=bS h
 refine sCut (fun a w=>∃ aZ,∃ bc,(aZ,bc)=dO∧St [] E [] w0 143 a w [(2,.pointer (some ⟨b6,0,none⟩)),(4,.pointer (some ⟨b7,0,none⟩)),(6,.pointer (some ⟨ak,0,none⟩)),(7,iv aP),(10,iv aZ),(11,iv bc),(45,.slice aw p0.Rows.length ax),(46,iv (p0.Rows.length:Int)),(47,iv aP)] [eBox b6 49 [iv p0.Start,.slice aw p0.Rows.length ax],eBox b7 36 [.slice none 0 0,.slice none 0 0],eBox ak 36 [.slice aq aK.length ar,.slice ao aJ.length ap],eRow (rI .i64) 3 (.slice aq aK.length ar) aK,eRow (rI .i64) 3 (.slice ao aJ.length ap) aJ] [fRep (rL r_api_Row) (.slice aw p0.Rows.length ax) p0.Rows]) ?_ (fun a w hI=>?_)
 ·refine sSeq (fun dQ cu=>sRegion (sField (b:=bP) (off:=0) 0 0 S (wN d) d d d d d (lb d) fun a S=>sLoad1 3 (.bool av.Back) S (wN d) d d d d d d (lb d) fun a S=>lT (cu _ _ ?_)))
  rcases iS h with ⟨bp,h⟩ | ⟨bp,h⟩
  rotate_left
  ·refine sCondF S d bp ?_
   exact wp_skip (leafT (⟨bN,bO,Option.some.inj h,S.fix [0,1,2,4,5] [7] (by decide) d d d⟩))
  refine sCondT S d bp (sRegion (sM S fun a S=>?_))
  refine sM S fun a S=>?_
  refine sN S fun a S=>?_
  refine sN S fun a S=>?_
  exact lT (⟨bO,bN,Option.some.inj h,S.fix [0,1,2,4,5] [7] (by decide) d d d⟩)
 obtain ⟨aZ,bc,rfl,S⟩:=hI
 have h:=dP
 try dsimp only at h
 refine sSeq (fun dS cv=>?_)
 obtain ⟨aC,bC,h⟩:=bS h
 obtain ⟨bf,cw,h⟩:=bS h
 obtain ⟨cx,cy,cz⟩:=pIdxR (P:=Try.prog) (r:=(rI .i64)) (T:=3) (v:=.slice aq aK.length ar) (xs:=aK) (j:=aP) 34 3 3 S Try.underlying34 d d bC
 refine sDraw (nf:=[9,10,12]) (W:=[(0,78,.pointer (some ⟨ak,0,none⟩)),(1,79,.slice aq aK.length ar),(2,80,.pointer (some ⟨ak,0,none⟩)),(3,81,.slice aq aK.length ar),(4,82,iv aP),(5,83,cx),(6,84,iv aC),(7,85,iv bc),(8,86,iv (w64 (aC - bc)))]) d S ?_
 refine node_by (A:=anc_piece_Read_1) 13 (by kernel_rfl) (by kernel_rfl) (by kernel_rfl) (by kernel_rfl) (by kernel_rfl) [0,1,2,3,4,5,6,7,8] (by kernel_rfl) (by decide) (by decide) (fF ?_ (fF ?_ (fF ?_ (fF ?_ (fF ?_ (fF ?_ (fF ?_ (fF ?_ (fF ?_ (fN ?_ (aB 10 2 9 (by decide) (fE 9 (aB 12 0 9 (by decide) (trivial)))))))))))))) [] (fun q hq=>by cases hq) (fun hY=>absurd (hY 9 (by decide)) (by decide))
 ·refine fJ [(6,_)] 0 [none] fun G a w S=>?_
  exact sField (b:=ak) (off:=0) 0 0 S (wN d) d d d d d (lb d) fun a S=>leafL ⟨d,S⟩
 ·refine fJ [(78,_)] 1 [some 0] fun G a w S=>?_
  exact sLoad1 2 (.slice aq aK.length ar) S (wN d) d d d d d d (lb d) fun a S=>leafL ⟨d,S⟩
 ·refine fJ [(6,_)] 2 [none] fun G a w S=>?_
  exact sField (b:=ak) (off:=0) 0 0 S (wN d) d d d d d (lb d) fun a S=>leafL ⟨d,S⟩
 ·refine fJ [(80,_)] 3 [some 2] fun G a w S=>?_
  exact sLoad1 2 (.slice aq aK.length ar) S (wN d) d d d d d d (lb d) fun a S=>leafL ⟨d,S⟩
 ·exact fM 4 none d d d d (.inl d) d d d
 ·refine fJ [(81,_),(82,_)] 5 [some 3,some 4] fun G a w S=>?_
  exact sIdxV S (wN d) d d d cy d (lb d) fun a S=>leafL ⟨d,S⟩
 ·refine fJ [(83,_)] 6 [some 5] fun G a w S=>?_
  exact sLoadR (r:=(rI .i64)) (T:=3) (xs:=aK) (x:=aC) (v:=.slice aq aK.length ar) (vq:=cx) (j:=aP) 3 (iv aC) S cz (wN d) d d d bC (fun _ _ _ h=>h) (scal_I _) d d (lb d) fun a S=>leafL ⟨d,S⟩
 ·exact fM 7 none d d d d (.inl d) d d d
 ·refine fJ [(84,_),(85,_)] 8 [some 6,some 7] fun G a w S=>?_
  exact sBin _ S (wN d) d d d (bSub _ _ _ _ aC bc) d (lb d) fun a S=>leafL ⟨d,S⟩
 refine ⟨_,[(86,iv (w64 (aC - bc)))],d,(srcs_of [some 8] d d d),fun G a w S=>?_⟩
 refine sLit (r:=(rI .i64)) (T:=3) (xs:=([w64 (aC - bc)]:List Int)) [(0,iv (w64 (aC - bc)))] 1 [iv (w64 (aC - bc))] [iv (w64 (aC - bc))] (iv 0) 8 S (wN d) d d Try.underlying34 d (by decide) (by decide) (by kernel_rfl) d (fun E1 w1 hE=>All.cons d (All.nil _ _ _)) d d (lb d) fun a w bq br S=>?_
 refine leafL ⟨d,_,_,.inl ⟨87,(.slice bq ([w64 (aC - bc)]:List Int).length br),[],d,S,hz_of d,?_⟩⟩
 refine node_by (A:=anc_piece_Read_1) 13 (by kernel_rfl) (by kernel_rfl) (by kernel_rfl) (by kernel_rfl) (by kernel_rfl) [9,0,1,2,3,4,5,6,7,8] (by kernel_rfl) (by decide) (by decide) (fF ?_ (fF ?_ (fD 9 (fD 9 (fD 9 (fD 9 (fD 9 (fD 9 (fD 9 (fY (fN ?_ (fE 10 (aB 12 0 10 (by decide) (trivial)))))))))))))) [] (fun q hq=>by cases hq) (fun hY=>absurd (hY 10 (by decide)) (by decide))
 ·refine fJ [(6,_)] 1 [none] fun G a w S=>?_
  exact sField (b:=ak) (off:=0) 0 0 S (wN d) d d d d d (lb d) fun a S=>leafL ⟨d,S⟩
 ·refine fJ [(78,_)] 2 [some 1] fun G a w S=>?_
  exact sLoad1 3 (.slice aq aK.length ar) S (wN d) d d d d d d (lb d) fun a S=>leafL ⟨d,S⟩
 refine ⟨_,[(79,.slice aq aK.length ar),(87,.slice bq ([w64 (aC - bc)]:List Int).length br)],d,(srcs_of [some 2,some 0] d d d),fun G a w S=>?_⟩
 refine sApp (r:=(rI .i64)) (T:=3) (xs:=aK) (ys:=([w64 (aC - bc)]:List Int)) (v:=.slice aq aK.length ar) (u:=.slice bq ([w64 (aC - bc)]:List Int).length br) 4 (iv 0) 8 S (wN d) d Try.underlying34 d d (by decide) d d d (src_R (T:=3) 0 S.mem d) cw d (lb d) fun a w aQ aR S=>leafL ⟨d,_,_,.inl ⟨88,(.slice aQ bf.length aR),[(11,89,.pointer (some ⟨ak,0,none⟩))],d,S,hz_of d,?_⟩⟩
 refine node_by (A:=anc_piece_Read_1) 13 (by kernel_rfl) (by kernel_rfl) (by kernel_rfl) (by kernel_rfl) (by kernel_rfl) [11,10,9,0,1,2,3,4,5,6,7,8] (by kernel_rfl) (by decide) (by decide) (fD 10 (fD 10 (fD 10 (fD 10 (fD 10 (fD 10 (fD 10 (fD 10 (fD 10 (fY (fY (fF ?_ (fN ?_ (trivial)))))))))))))) [] (fun q hq=>by cases hq) (fun hY=>absurd (hY 12 (by decide)) (by decide))
 ·refine fJ [(6,_)] 0 [none] fun G a w S=>?_
  exact sField (b:=ak) (off:=0) 0 0 S (wN d) d d d d d (lb d) fun a S=>leafL ⟨d,S⟩
 refine ⟨_,[(88,.slice aQ bf.length aR),(89,.pointer (some ⟨ak,0,none⟩))],d,(srcs_of [some 1,some 0] d d d),fun G a w S=>?_⟩
 refine sStore (p:=ak) (off:=0) (T:=36) (vs:=[.slice aq aK.length ar,.slice ao aJ.length ap]) (v:=.slice aQ bf.length aR) 4 [.slice aQ bf.length aR] S (wN d) d d d d d d d (by simp) d fun a w S=>leafL ⟨d,_,_,.inr ⟨[],d,S,hz_of d,?_⟩⟩
 refine node_by (A:=anc_piece_Read_1) 13 (by kernel_rfl) (by kernel_rfl) (by kernel_rfl) (by kernel_rfl) (by kernel_rfl) [11,10,9,0,1,2,3,4,5,6,7,8] (by kernel_rfl) (by decide) (by decide) (fD 12 (fD 12 (fD 12 (fD 12 (fD 12 (fD 12 (fD 12 (fD 12 (fD 12 (fY (fY (fD 12 (fY (trivial)))))))))))))) [(2,.pointer (some ⟨b6,0,none⟩)),(4,.pointer (some ⟨b7,0,none⟩)),(6,.pointer (some ⟨ak,0,none⟩)),(7,iv aP),(10,iv aZ),(45,.slice aw p0.Rows.length ax),(46,iv (p0.Rows.length:Int)),(47,iv aP)] (fin_of [none,none,none,none,none,none,none,none] d (by kernel_rfl) (by kernel_rfl)) (fun _ a w S=>?_)
 refine leafT (cv _ _ ?_)
 obtain ⟨aG,bD,h⟩:=bS h
 obtain ⟨bt,cA,h⟩:=bS h
 obtain ⟨cB,cC,cD⟩:=pIdxR (P:=Try.prog) (r:=(rI .i64)) (T:=3) (v:=.slice ao aJ.length ap) (xs:=aJ) (j:=aP) 34 3 5 S Try.underlying34 d d bD
 refine sDraw (nf:=[9,10,12]) (W:=[(0,90,.pointer (some ⟨ak,1,none⟩)),(1,91,.slice ao aJ.length ap),(2,92,.pointer (some ⟨ak,1,none⟩)),(3,93,.slice ao aJ.length ap),(4,94,iv aP),(5,95,cB),(6,96,iv aG),(7,97,iv aZ),(8,98,iv (w64 (aG + aZ)))]) d S ?_
 refine node_by (A:=anc_piece_Read_1) 13 (by kernel_rfl) (by kernel_rfl) (by kernel_rfl) (by kernel_rfl) (by kernel_rfl) [0,1,2,3,4,5,6,7,8] (by kernel_rfl) (by decide) (by decide) (fF ?_ (fF ?_ (fF ?_ (fF ?_ (fF ?_ (fF ?_ (fF ?_ (fF ?_ (fF ?_ (fN ?_ (aB 10 2 9 (by decide) (fE 9 (aB 12 0 9 (by decide) (trivial)))))))))))))) [] (fun q hq=>by cases hq) (fun hY=>absurd (hY 9 (by decide)) (by decide))
 ·refine fJ [(6,_)] 0 [none] fun G a w S=>?_
  exact sField (b:=ak) (off:=0) 1 1 S (wN d) d d d d d (lb d) fun a S=>leafL ⟨d,S⟩
 ·refine fJ [(90,_)] 1 [some 0] fun G a w S=>?_
  exact sLoad1 0 (.slice ao aJ.length ap) S (wN d) d d d d d d (lb d) fun a S=>leafL ⟨d,S⟩
 ·refine fJ [(6,_)] 2 [none] fun G a w S=>?_
  exact sField (b:=ak) (off:=0) 1 1 S (wN d) d d d d d (lb d) fun a S=>leafL ⟨d,S⟩
 ·refine fJ [(92,_)] 3 [some 2] fun G a w S=>?_
  exact sLoad1 0 (.slice ao aJ.length ap) S (wN d) d d d d d d (lb d) fun a S=>leafL ⟨d,S⟩
 ·exact fM 4 none d d d d (.inl d) d d d
 ·refine fJ [(93,_),(94,_)] 5 [some 3,some 4] fun G a w S=>?_
  exact sIdxV S (wN d) d d d cC d (lb d) fun a S=>leafL ⟨d,S⟩
 ·refine fJ [(95,_)] 6 [some 5] fun G a w S=>?_
  exact sLoadR (r:=(rI .i64)) (T:=3) (xs:=aJ) (x:=aG) (v:=.slice ao aJ.length ap) (vq:=cB) (j:=aP) 5 (iv aG) S cD (wN d) d d d bD (fun _ _ _ h=>h) (scal_I _) d d (lb d) fun a S=>leafL ⟨d,S⟩
 ·exact fM 7 none d d d d (.inl d) d d d
 ·refine fJ [(96,_),(97,_)] 8 [some 6,some 7] fun G a w S=>?_
  exact sBin _ S (wN d) d d d (bAdd _ _ _ _ aG aZ) d (lb d) fun a S=>leafL ⟨d,S⟩
 refine ⟨_,[(98,iv (w64 (aG + aZ)))],d,(srcs_of [some 8] d d d),fun G a w S=>?_⟩
 refine sLit (r:=(rI .i64)) (T:=3) (xs:=([w64 (aG + aZ)]:List Int)) [(0,iv (w64 (aG + aZ)))] 1 [iv (w64 (aG + aZ))] [iv (w64 (aG + aZ))] (iv 0) 8 S (wN d) d d Try.underlying34 d (by decide) (by decide) (by kernel_rfl) d (fun E1 w1 hE=>All.cons d (All.nil _ _ _)) d d (lb d) fun a w bu bv S=>?_
 refine leafL ⟨d,_,_,.inl ⟨99,(.slice bu ([w64 (aG + aZ)]:List Int).length bv),[],d,S,hz_of d,?_⟩⟩
 refine node_by (A:=anc_piece_Read_1) 13 (by kernel_rfl) (by kernel_rfl) (by kernel_rfl) (by kernel_rfl) (by kernel_rfl) [9,0,1,2,3,4,5,6,7,8] (by kernel_rfl) (by decide) (by decide) (fF ?_ (fF ?_ (fD 9 (fD 9 (fD 9 (fD 9 (fD 9 (fD 9 (fD 9 (fY (fN ?_ (fE 10 (aB 12 0 10 (by decide) (trivial)))))))))))))) [] (fun q hq=>by cases hq) (fun hY=>absurd (hY 10 (by decide)) (by decide))
 ·refine fJ [(6,_)] 1 [none] fun G a w S=>?_
  exact sField (b:=ak) (off:=0) 1 1 S (wN d) d d d d d (lb d) fun a S=>leafL ⟨d,S⟩
 ·refine fJ [(90,_)] 2 [some 1] fun G a w S=>?_
  exact sLoad1 1 (.slice ao aJ.length ap) S (wN d) d d d d d d (lb d) fun a S=>leafL ⟨d,S⟩
 refine ⟨_,[(91,.slice ao aJ.length ap),(99,.slice bu ([w64 (aG + aZ)]:List Int).length bv)],d,(srcs_of [some 2,some 0] d d d),fun G a w S=>?_⟩
 refine sApp (r:=(rI .i64)) (T:=3) (xs:=aJ) (ys:=([w64 (aG + aZ)]:List Int)) (v:=.slice ao aJ.length ap) (u:=.slice bu ([w64 (aG + aZ)]:List Int).length bv) 6 (iv 0) 8 S (wN d) d Try.underlying34 d d (by decide) d d d (src_R (T:=3) 0 S.mem d) cA d (lb d) fun a w aW aX S=>leafL ⟨d,_,_,.inl ⟨100,(.slice aW bt.length aX),[(11,101,.pointer (some ⟨ak,1,none⟩))],d,S,hz_of d,?_⟩⟩
 refine node_by (A:=anc_piece_Read_1) 13 (by kernel_rfl) (by kernel_rfl) (by kernel_rfl) (by kernel_rfl) (by kernel_rfl) [11,10,9,0,1,2,3,4,5,6,7,8] (by kernel_rfl) (by decide) (by decide) (fD 10 (fD 10 (fD 10 (fD 10 (fD 10 (fD 10 (fD 10 (fD 10 (fD 10 (fY (fY (fF ?_ (fN ?_ (trivial)))))))))))))) [] (fun q hq=>by cases hq) (fun hY=>absurd (hY 12 (by decide)) (by decide))
 ·refine fJ [(6,_)] 0 [none] fun G a w S=>?_
  exact sField (b:=ak) (off:=0) 1 1 S (wN d) d d d d d (lb d) fun a S=>leafL ⟨d,S⟩
 refine ⟨_,[(100,.slice aW bt.length aX),(101,.pointer (some ⟨ak,1,none⟩))],d,(srcs_of [some 1,some 0] d d d),fun G a w S=>?_⟩
 refine sStore (p:=ak) (off:=1) (T:=36) (vs:=[.slice aQ bf.length aR,.slice ao aJ.length ap]) (v:=.slice aW bt.length aX) 2 [.slice aW bt.length aX] S (wN d) d d d d d d d (by simp) d fun a w S=>leafL ⟨d,_,_,.inr ⟨[],d,S,hz_of d,?_⟩⟩
 refine node_by (A:=anc_piece_Read_1) 13 (by kernel_rfl) (by kernel_rfl) (by kernel_rfl) (by kernel_rfl) (by kernel_rfl) [11,10,9,0,1,2,3,4,5,6,7,8] (by kernel_rfl) (by decide) (by decide) (fD 12 (fD 12 (fD 12 (fD 12 (fD 12 (fD 12 (fD 12 (fD 12 (fD 12 (fY (fY (fD 12 (fY (trivial)))))))))))))) [(2,.pointer (some ⟨b6,0,none⟩)),(4,.pointer (some ⟨b7,0,none⟩)),(6,.pointer (some ⟨ak,0,none⟩)),(45,.slice aw p0.Rows.length ax),(46,iv (p0.Rows.length:Int)),(47,iv aP)] (fin_of [none,none,none,none,none,none] d (by kernel_rfl) (by kernel_rfl)) (fun _ a w S=>?_)
 refine leafB (leafT (cU _ _ ?_))
 refine sRegion (sBin _ S (wN d) d d d (bAdd _ _ _ _ aP 1) d (lb d) fun a S=>sM S fun a S=>?_)
 exact lT (⟨(w64 (aP + 1),bf,bt),(Option.some.inj h).symm,⟨aQ,aR,aW,aX,S.fix [5,6,0,3,1] [0] (by decide) d d d⟩⟩)
def grw (c:api_Stitch):Int:=if c.Kind=5 then w64 (c.A - 1) else if c.Kind=9 then c.A else if c.Kind=3 ∨ c.Kind=4 then w64 (1 - c.A) else if c.Kind=10 then w64 (0 - c.A) else 0
theorem grows_eq (c:api_Stitch):F_piece_grows c=some (grw c):=by
 unfold F_piece_grows grw
 by_cases h1:c.Kind=5
 ·simp [h1]
 by_cases h2:c.Kind=9
 ·simp [h2]
 by_cases h3:c.Kind=3
 ·simp [h3]
 by_cases h4:c.Kind=4
 ·simp [h4]
 by_cases h5:c.Kind=10
 ·simp [h5]
 ·simp [h1,h2,h3,h4,h5]
theorem grw_bS {d kd:Int} (hk:kd=3 ∨ kd=4) (h0:-1000 ≤ d) (h1:d ≤ 1000):grw (bSt d kd)=d:=by
 rcases bend_cases d with g | g | g | g | g
 ·have e:bSt d kd=⟨0,false,0,0⟩:=by unfold bSt; rw [if_pos g]
  rw [e,g]; rfl
 ·have e:bSt d kd=⟨9,false,d,0⟩:=by unfold bSt; rw [if_neg (by omega),if_pos g]
  rw [e]; rfl
 ·have e:bSt d kd=⟨5,false,d + 1,0⟩:=by unfold bSt; rw [if_neg (by omega),if_neg (by omega),if_pos g.1]
  rw [e]
  show w64 (d + 1 - 1)=d
  rw [w64_of (by omega) (by omega)]; omega
 ·have e:bSt d kd=⟨kd,false,1 - d,0⟩:=by unfold bSt; rw [if_neg (by omega),if_neg (by omega),if_neg (by omega),if_pos g.1]
  have e2:grw ⟨kd,false,1 - d,0⟩=w64 (1 - (1 - d)):=by rcases hk with rfl | rfl <;> rfl
  rw [e,e2,w64_of (by omega) (by omega)]; omega
 ·have e:bSt d kd=⟨10,false,-d,0⟩:=by unfold bSt; rw [if_neg (by omega),if_neg (by omega),if_neg (by omega),if_neg (by omega)]
  have e2:grw ⟨10,false,-d,0⟩=w64 (0 - -d):=rfl
  rw [e,e2,w64_of (by omega) (by omega)]; omega
theorem grw_oth {c:api_Stitch} (h:plain c):grw (othS c)=grw c:=by
 have ha:(othS c).A=c.A:=by
  show (if c.Kind=6 ∨ c.Kind=7 then c.B else c.A)=c.A
  rw [if_neg (by intro g; rcases g with g | g; exact h.2.2.1 g; exact h.2.2.2 g)]
 unfold grw
 rw [ha]
 rfl
theorem edge_first {d:Int} (l:List api_Stitch) (h0:-1000 ≤ d) (h1:d ≤ 1000) (n:Nat) (hn:1 ≤ n):∃ c r,edge d 3 ++ List.replicate n kns ++ l=c :: r∧grw c=d:=by
 obtain ⟨m,rfl⟩:∃ m,n=m + 1:=⟨n - 1,by omega⟩
 unfold edge
 by_cases h:d=0
 ·rw [if_pos h]
  refine ⟨kns,List.replicate m kns ++ l,by simp [List.replicate_succ],?_⟩
  rw [h]; rfl
 ·rw [if_neg h]
  exact ⟨bSt d 3,_,rfl,grw_bS (.inl rfl) h0 h1⟩
theorem edge_last {d:Int} (l:List api_Stitch) (h0:-1000 ≤ d) (h1:d ≤ 1000) (n:Nat) (hn:1 ≤ n):∃ c r,l ++ List.replicate n kns ++ edge d 4=r ++ [c]∧grw c=d:=by
 obtain ⟨m,rfl⟩:∃ m,n=m + 1:=⟨n - 1,by omega⟩
 unfold edge
 by_cases h:d=0
 ·rw [if_pos h]
  refine ⟨kns,l ++ List.replicate m kns,by simp [List.replicate_succ'],?_⟩
  rw [h]; rfl
 ·rw [if_neg h]
  exact ⟨bSt d 4,_,rfl,grw_bS (.inr rfl) h0 h1⟩
theorem first_last {p:api_Piece} (hp:pok p=true) {k:Nat} (hk:k + 1 < p.Left.length) (hn:1 ≤ nk p k) :
 ∃ x y,idxO (crow p k).Cells 0=some x∧idxO (crow p k).Cells (w64 (((crow p k).Cells.length:Int) - 1))=some y∧(if (crow p k).Back=true then some (grw y,grw x) else some (grw x,grw y))=some (dR p k,dL p k):=by
 obtain ⟨b1,b2,-⟩:=cel_bd hp hk hn
 obtain ⟨q1,q2,q3,q4,q5⟩:=cel_ok hp hk hn
 obtain ⟨x,r,e1,g1⟩:=edge_first (d:=dR p k) (edge (dL p k) 4) (by omega) (by omega) (nk p k).toNat (by omega)
 obtain ⟨y,s,e2,g2⟩:=edge_last (d:=dL p k) (edge (dR p k) 3) (by omega) (by omega) (nk p k).toNat (by omega)
 have e1:cel p k=x :: r:=e1
 have e2:cel p k=s ++ [y]:=e2
 have hx:=cel_plain p k x (by rw [e1]; simp)
 have hy:=cel_plain p k y (by rw [e2]; simp)
 have hlast:∀ (t:List api_Stitch) (z:api_Stitch),t.length ≤ 1000→idxO (t ++ [z]) (w64 (((t ++ [z]).length:Int) - 1))=some z:=by
  intro t z ht
  have:w64 (((t ++ [z]).length:Int) - 1)=(t.length:Int):=by rw [List.length_append,List.length_singleton,w64_of (by omega) (by omega)]; omega
  rw [this,idxO_nat (by simp)]
  simp
 have hfirst:∀ (t:List api_Stitch) (z:api_Stitch),idxO (z :: t) 0=some z:=fun t z=>idxO_nat (k:=0) (xs:=z :: t) (by simp)
 have hs:s.length ≤ 1000:=by
  have:=congrArg List.length e2
  rw [List.length_append] at this
  omega
 have hr:r.length ≤ 1000:=by
  have:=congrArg List.length e1
  rw [List.length_cons] at this
  omega
 unfold crow
 by_cases g:k % 2=0
 ·simp only [g,if_true,decide_true]
  have f1:((cel p k).map othS).reverse=othS y :: (s.map othS).reverse:=by rw [e2]; simp
  have f2:((cel p k).map othS).reverse=(r.map othS).reverse ++ [othS x]:=by rw [e1]; simp
  refine ⟨othS y,othS x,by rw [f1]; exact hfirst _ _,by rw [f2]; exact hlast _ _ (by simp; omega),?_⟩
  rw [grw_oth hx,grw_oth hy,g1,g2]
 ·simp only [g,if_false,decide_false,Bool.false_eq_true]
  refine ⟨x,y,by rw [e1]; exact hfirst _ _,by rw [e2]; exact hlast _ _ hs,?_⟩
  rw [g1,g2]
theorem rows_loop (c d:api_Chart) (h:c.Rows.length=d.Rows.length) (hl:c.Rows.length ≤ 1000) (hc:∀ r,r ∈ c.Rows→r.Cells.length ≤ 9223372036854775807):∃ t:Bool,(t=true ↔ c.Rows=d.Rows)∧whileO (piece_Read_l2 c (d,0)) 0=some (if t=true then .inr () else .inl (⟨[],[]⟩,8)):=by
 refine loop_eq c.Rows d.Rows h _ _ (fun k hk=>?_) ?_
 ·obtain ⟨t,t1,t2⟩:=same_eq c.Rows[k].Cells (d.Rows[k]'(by omega)).Cells (hc _ (List.getElem_mem hk))
  by_cases hb:c.Rows[k].Back=(d.Rows[k]'(by omega)).Back
  ·refine ⟨t,t1.trans ⟨fun e=>row_ext.2 ⟨hb,e⟩,fun e=>(row_ext.1 e).2⟩,?_⟩
   unfold piece_Read_l2
   simp only [dT (show (k:Int) < (c.Rows.length:Int) by omega),if_true,idxO_nat hk,idxO_nat (show k < d.Rows.length by omega),Option.bind_some,w64_succ (show k < 9223372036854775807 by omega),hb,bne_self_eq_false,Bool.false_eq_true,if_false,t2]
   cases t <;> rfl
  ·refine ⟨false,⟨fun h=>(by cases h),fun e=>absurd (row_ext.1 e).1 hb⟩,?_⟩
   unfold piece_Read_l2
   simp only [dT (show (k:Int) < (c.Rows.length:Int) by omega),if_true,idxO_nat hk,idxO_nat (show k < d.Rows.length by omega),Option.bind_some,bne_iff_ne.2 hb,Bool.false_eq_true,if_false]
 ·unfold piece_Read_l2
  simp only [dF (show ¬ (c.Rows.length:Int) < (c.Rows.length:Int) by omega),Bool.false_eq_true,if_false]
theorem read_back {p:api_Piece} (hp:pok p=true) (ho:chOk p):F_piece_Read (chart p) (p.Left.getD 0 0)=some (p,0):=by
 obtain ⟨a,b,c,d⟩:=pok_iff.1 hp
 have d0:=d 0 (by omega)
 have hch:=chart_eq p (by omega) (by omega)
 rw [if_pos hp,if_pos ho] at hch
 have l1:(chart p).Rows.length=p.Left.length - 1:=by simp [chart]
 have hS:(chart p).Start=wd p 0:=rfl
 have hwd:wd p 0=p.Right.getD 0 0 - p.Left.getD 0 0:=rfl
 have hrow:∀ k (hk:k < (chart p).Rows.length),(chart p).Rows[k]=crow p k:=fun k hk=>by simp only [chart,List.getElem_map,List.getElem_range]
 have hlen:∀ r,r ∈ (chart p).Rows→r.Cells.length ≤ 9223372036854775807:=by
  intro r hr
  obtain ⟨k,hk,rfl⟩:=List.getElem_of_mem hr
  rw [hrow k hk]
  have:=crow_ok hp (show k + 1 < p.Left.length by omega) (ho k (by omega))
  have:=(cel_ok hp (show k + 1 < p.Left.length by omega) (ho k (by omega))).2.2.2.2
  omega
 have e0:w64 (p.Left.getD 0 0 + wd p 0)=p.Right.getD 0 0:=by rw [w64_of (by omega) (by omega)]; omega
 have hw:∃ t,whileO (piece_Read_l1 (chart p)) (0,([p.Left.getD 0 0]:List Int),([p.Right.getD 0 0]:List Int))=some t∧t=.inr (p.Left,p.Right):=by
  refine loop_ts (p.Left.length - 1) (fun k s=>s=(p.Left.take (k + 1),p.Right.take (k + 1))) _ ?_ ?_ ?_
  ·have h1:p.Left.take 1=[p.Left.getD 0 0]:=by rw [List.take_one]; rw [show p.Left.head?=some (p.Left.getD 0 0) by rw [List.head?_eq_getElem?]; simp [show 0 < p.Left.length by omega]]; rfl
   have h2:p.Right.take 1=[p.Right.getD 0 0]:=by rw [List.take_one]; rw [show p.Right.head?=some (p.Right.getD 0 0) by rw [List.head?_eq_getElem?]; simp [show 0 < p.Right.length by omega]]; rfl
   rw [h1,h2]
  ·rintro k s hk rfl
   have k0:=d k (by omega)
   have k1:=d (k + 1) (by omega)
   have hn:=ho k hk
   obtain ⟨o1,o2,o3,o4⟩:=crow_ok hp (show k + 1 < p.Left.length by omega) hn
   obtain ⟨x,y,f1,f2,f3⟩:=first_last hp (show k + 1 < p.Left.length by omega) hn
   have hx:idxO (chart p).Rows (k:Int)=some (crow p k):=by rw [idxO_nat (show k < (chart p).Rows.length by omega),hrow]
   have hal:=all_eq (ok_wf (allS_ok o1).2.1)
   rw [o1] at hal
   have hnz:((crow p k).Cells.length:Int) ≠ 0:=by
    intro hz
    have:(crow p k).Cells=[]:=by
     cases hcl:(crow p k).Cells with
     | nil=>rfl
     | cons u v=>rw [hcl] at hz; simp at hz; omega
    rw [this] at f1
    simp [idxO] at f1
   have hlL:(p.Left.take (k + 1)).length=k + 1:=by simp; omega
   have hlR:(p.Right.take (k + 1)).length=k + 1:=by simp; omega
   have iL:idxO (p.Left.take (k + 1)) (k:Int)=some (p.Left.getD k 0):=by rw [idxO_D (0:Int) (by omega)]; simp [show k < k + 1 by omega]
   have iR:idxO (p.Right.take (k + 1)) (k:Int)=some (p.Right.getD k 0):=by rw [idxO_D (0:Int) (by omega)]; simp [show k < k + 1 by omega]
   have vL:w64 (p.Left.getD k 0 - dL p k)=p.Left.getD (k + 1) 0:=by unfold dL; rw [w64_of (by omega) (by omega)]; omega
   have vR:w64 (p.Right.getD k 0 + dR p k)=p.Right.getD (k + 1) 0:=by unfold dR; rw [w64_of (by omega) (by omega)]; omega
   have tL:p.Left.take (k + 1) ++ [p.Left.getD (k + 1) 0]=p.Left.take (k + 1 + 1):=by
    rw [List.take_succ_eq_append_getElem (show k + 1 < p.Left.length by omega)]; simp [show k + 1 < p.Left.length by omega]
   have tR:p.Right.take (k + 1) ++ [p.Right.getD (k + 1) 0]=p.Right.take (k + 1 + 1):=by
    rw [List.take_succ_eq_append_getElem (show k + 1 < p.Right.length by omega)]; simp [show k + 1 < p.Right.length by omega]
   refine .inl ⟨_,?_,rfl⟩
   unfold piece_Read_l1
   simp only [dT (show (k:Int) < ((chart p).Rows.length:Int) by omega),if_true,hx,Option.bind_some,bF hnz,hal,bne_self_eq_false,Bool.false_eq_true,if_false,f1,f2,grows_eq,f3,iL,iR,vL,vR]
   rw [appO_of (show (p.Left.take (k + 1)).length + [p.Left.getD (k + 1) 0].length ≤ 68719476736 by simp; omega),appO_of (show (p.Right.take (k + 1)).length + [p.Right.getD (k + 1) 0].length ≤ 68719476736 by simp; omega),tL,tR]
   simp only [Option.bind_some,w64_succ (show k < 9223372036854775807 by omega)]
  ·rintro s rfl
   refine ⟨_,?_,rfl⟩
   have t1:p.Left.take (p.Left.length - 1 + 1)=p.Left:=List.take_of_length_le (by omega)
   have t2:p.Right.take (p.Left.length - 1 + 1)=p.Right:=List.take_of_length_le (by omega)
   unfold piece_Read_l1
   simp only [dF (show ¬ ((p.Left.length - 1:Nat):Int) < ((chart p).Rows.length:Int) by omega),Bool.false_eq_true,if_false,t1,t2]
 obtain ⟨t,t1,rfl⟩:=hw
 obtain ⟨u,u1,u2⟩:=rows_loop (chart p) (chart p) rfl (by omega) hlen
 rw [u1.2 rfl,if_pos rfl] at u2
 have hcol:=(col_eq (p.Left.getD 0 0)).1
 rw [dT d0.1.1,dT d0.1.2] at hcol
 unfold F_piece_Read
 simp only [hcol,hS,e0,Bool.and_self,Bool.not_true,Bool.false_eq_true,if_false,Option.bind_some,dF (show ¬ wd p 0 < 1 by omega),dF (show ¬ (200:Int) < wd p 0 by omega),dF (show ¬ (100:Int) ≤ ((chart p).Rows.length:Int) by omega),t1,hch,bne_self_eq_false,u2]
noncomputable def F_short_within (p0:Int) (p1:Int) (p2:Int):Option Bool:=
 Option.bind (α:=Bool) (
  if decide (p1 ≤ p0) then
   some (decide (p0 ≤ p2))
  else
   some false) fun o2=>
 some o2
theorem c_short_within (E:Nat→Prop) (w0:World) (p0:Int) (p1:Int) (p2:Int) (r:Bool) (h:F_short_within p0 p1 p2=some r) (S:St0 E [] w0 w0 [] []) :
 Calls Try.prog 58 #[iv p0,iv p1,iv p2] w0 (Ret (X:=Unit) E [] w0 (fun _=>.bool r) (fun _=>[]) (fun _=>[])):=by
 unfold F_short_within at h
 refine sEnter (args:=[iv p0,iv p1,iv p2]) 15 Try.func58 d d (by simp) S (fun a S=>?_)
 refine sSeq (fun K1 aa=>sRegion (sN S fun a S=>?_))
 refine lT (aa _ _ ?_)
 obtain ⟨t3,h,g4⟩:=bS h
 refine sCut (fun a w=>∃ o2,o2=t3∧St [] E [] w0 15 a w [(6,.bool o2)] [] []) ?_ (fun a w hI=>?_)
 rotate_left
 ·obtain ⟨o2,rfl,S⟩:=hI
  have h:=g4
  try dsimp only at h
  obtain rfl:=tS h
  exact wp_ret (sRet (.bool o2) S (rsl1 d (rvT (t:=6) (v:=.bool o2) S d)) ⟨(),d,S.mem.sel [] [] (by decide) d d⟩)
 refine sRegion (sM S fun a S=>?_)
 refine sM S fun a S=>?_
 refine sBin _ S (wN d) d d d (bGe _ _ _ _ .i64 p0 p1) d (lb d) fun a S=>sM S fun a S=>?_
 rcases iS h with ⟨a9,h⟩ | ⟨a9,h⟩
 rotate_left
 ·refine sSkN 3 3 true 10 S d d a9 d fun a S=>sPickF (.bool false) S (wN d) d d a9 d d (lb d) fun a S=>sN S fun a S=>?_
  exact lT (⟨false,Option.some.inj h,S.fix [] [] (by decide) d d d⟩)
 refine sMove (iv p0) S (wG 3 true 10 d d d a9) (.inl d) d d (lb d) fun a S=>sMove (iv p2) S (wG 3 true 10 d d d a9) (.inl d) d d (lb d) fun a S=>sBin _ S (wG 3 true 10 d d d a9) d d d (bLe _ _ _ _ .i64 p0 p2) d (lb d) fun a S=>sPickT (.bool (decide (p0 ≤ p2))) S (wN d) d d a9 d d (lb d) fun a S=>sN S fun a S=>?_
 exact lT (⟨decide (p0 ≤ p2),Option.some.inj h,S.fix [] [] (by decide) d d d⟩)
noncomputable def short_check_l1 (p1:(List Int)) (p0:Int):Int→Option (Int ⊕ (Int ⊕ Unit)):=fun s0=>match s0 with
 | a9=>
  if decide (a9 < (p1.length:Int)) then
   (idxO p1 a9).bind fun aa=>
   (F_short_within aa 1 p0).bind fun ab=>
   if !ab then
    some (.inr (.inl 2))
   else
    some (.inl (w64 (a9 + 1)))
  else
   some (.inr (.inr ()))
noncomputable def F_short_check (p0:Int) (p1:(List Int)):Option Int:=
 (F_short_within p0 1 200).bind fun r6=>
 if !r6 then
  some 2
 else
  if decide (50 < (p1.length:Int)) then
   some 4
  else
   Option.bind (α:=Unit ⊕ Int) (
    (whileO (short_check_l1 p1 p0) 0).bind fun z0=>match z0 with
     | .inl z=>
      some (.inr z)
     | .inr _=>
      some (.inl ())) fun z0=>match z0 with
    | .inl _=>
     some 0
    | .inr z=>
     some z
theorem c_short_check (E:Nat→Prop) (w0:World) (p0:Int) (p1:(List Int)) (v1:Value) (r:Int) (h:F_short_check p0 p1=some r) (S:St0 E [] w0 w0 [] [fRep (rL (rI .i64)) (v1) p1]) :
 Calls Try.prog 59 #[iv p0,v1] w0 (Ret (X:=Unit) E [] w0 (fun _=>.int .i64 r) (fun _=>[]) (fun _=>[])):=by
 unfold F_short_check at h
 obtain ⟨ag,ah,_,rfl,_⟩:=S.know (i:=0) (e:=fRep (rL (rI .i64)) (v1) p1) d
 refine sEnter (args:=[iv p0,.slice ag p1.length ah]) 24 Try.func59 d d (by simp) S (fun a S=>?_)
 refine sSeq (fun K3 aJ=>sRegion (sN S fun a S=>?_))
 refine lT (aJ _ _ (sSeq (fun K4 aK=>sSeq (fun K5 aL=>sRegion (sM S fun a S=>?_)))))
 obtain ⟨r6,aM,h⟩:=bS h
 have S1:=S.mem
 refine sCq [iv p0,iv 1,iv 200] (.bool r6) S callee58 (S1.quiet [] d) (fun E1 w1 S1=>c_short_within E1 w1 p0 1 200 r6 aM S1) fun a w S=>?_
 refine sNot (b:=r6) S (wN d) d d d (lb d) fun a S=>lT (aL _ _ ?_)
 rcases iS h with ⟨ai,h⟩ | ⟨ai,h⟩
 ·refine sCondT S d ai (sSeq (fun K9 aO=>sRegion (sN S fun a S=>?_)))
  refine lT (aO _ _ ?_)
  obtain rfl:=tS h
  exact wp_ret (rThen (sRet (iv 2) S (rsl1 d (rvT (t:=4) (v:=iv 2) S d)) ⟨(),d,S.mem.sel [] [] (by decide) d d⟩))
 refine sCondF S d ai (wp_skip (leafT (aK _ _ ?_)))
 refine sSeq (fun aQ aj=>sSeq (fun aR ak=>sRegion (sM S fun a S=>?_)))
 refine sLen S (wN d) d Try.underlying34 d d (lb d) fun a S=>sBin _ S (wN d) d d d (bGt _ _ _ _ .i64 (p1.length:Int) 50) d (lb d) fun a S=>lT (ak _ _ ?_)
 rcases iS h with ⟨a9,h⟩ | ⟨a9,h⟩
 ·refine sCondT S d a9 (sSeq (fun aS al=>sRegion (sN S fun a S=>?_)))
  refine lT (al _ _ ?_)
  obtain rfl:=tS h
  exact wp_ret (rThen (sRet (iv 4) S (rsl1 d (rvT (t:=4) (v:=iv 4) S d)) ⟨(),d,S.mem.sel [] [] (by decide) d d⟩))
 refine sCondF S d a9 (wp_skip (leafT (aj _ _ ?_)))
 obtain ⟨aP,h,aC⟩:=bS h
 refine sCut (fun a w=>.inl ()=aP∧St [] E [] w0 24 a w [] [] []) ?_ (fun a w hI=>?_)
 rotate_left
 ·obtain ⟨rfl,S⟩:=hI
  have h:=aC
  try dsimp only at h
  refine sSeq (fun aT am=>sRegion (sN S fun a S=>?_))
  refine lT (am _ _ ?_)
  obtain rfl:=tS h
  exact wp_ret (sRet (iv 0) S (rsl1 d (rvT (t:=4) (v:=iv 0) S d)) ⟨(),d,S.mem.sel [] [] (by decide) d d⟩)
 refine sSeq (fun aU ao=>sRegion (sM S fun a S=>?_))
 refine sLen S (wN d) d Try.underlying34 d d (lb d) fun a S=>sM S fun a S=>?_
 refine lT (ao _ _ (wp_block ?_))
 obtain ⟨aV,hl,aG⟩:=bS h
 refine sLoop hl (fun s0 a w=>match s0 with | ac=>St [] E [] w0 24 a w [(0,iv p0),(13,.slice ag p1.length ah),(14,iv (p1.length:Int)),(15,iv ac)] [] [fRep (rL (rI .i64)) (.slice ag p1.length ah) p1]) (S.fix [] [0] (by decide) d d d) ?_
 clear hl h
 intro ac a w c0 hI h af
 unfold short_check_l1 at h
 dsimp only at h hI
 have S:=hI
 refine sSeq (fun aW ap=>sRegion (sBin _ S (wN d) d d d (bLt _ _ _ _ .i64 ac (p1.length:Int)) d (lb d) fun a S=>lT (ap _ _ (sSeq (fun aX aq=>?_)))))
 rcases iS h with ⟨aa,h⟩ | ⟨aa,h⟩
 rotate_left
 ·refine sCondF S d aa ?_
  obtain rfl:=tS h
  obtain rfl:=af _ d
  have h:=aG
  try dsimp only at h
  exact wp_exit (xThen (xThen (xHit (leafT (⟨Option.some.inj h,S.fix [] [] (by decide) d d d⟩)))))
 refine sCondT S d aa (wp_skip (leafT (aq _ _ ?_)))
 refine sSeq (fun aZ ar=>wp_block ?_)
 refine sSeq (fun b8 au=>sRegion ?_)
 obtain ⟨ae,av,h⟩:=bS h
 obtain ⟨aH,aw,S⟩:=pIdx (P:=Try.prog) (r:=(rI .i64)) (v:=.slice ag p1.length ah) (xs:=p1) (j:=ac) 34 3 0 S Try.underlying34 d d av
 refine sIdxV S (wN d) d d d aw d (lb d) fun a S=>?_
 obtain ⟨aI,S⟩:=pLoad (r:=(rI .i64)) (q:=aH) (x:=ae) 0 S d
 obtain rfl:aI=iv ae:=S.mem.know (i:=1) (e:=fRep (rI .i64) (aI) ae) d
 refine sLoadV1 (vq:=aH) 0 (iv ae) S (wN d) d d d d d (lb d) fun a S=>sN S fun a S=>?_
 refine lT (au _ _ (sSeq (fun ba ax=>sRegion (sM S fun a S=>?_))))
 refine sM S fun a S=>?_
 obtain ⟨ay,az,h⟩:=bS h
 have S1:=S.mem
 refine sCq [iv ae,iv 1,iv p0] (.bool ay) S callee58 (S1.quiet [] d) (fun E1 w1 S1=>c_short_within E1 w1 ae 1 p0 ay az S1) fun a w S=>?_
 refine sNot (b:=ay) S (wN d) d d d (lb d) fun a S=>lT (ax _ _ ?_)
 rcases iS h with ⟨ab,h⟩ | ⟨ab,h⟩
 rotate_left
 ·refine sCondF S d ab (wp_skip (leafB (leafT (ar _ _ ?_))))
  refine sRegion (sBin _ S (wN d) d d d (bAdd _ _ _ _ ac 1) d (lb d) fun a S=>sM S fun a S=>?_)
  exact lT (⟨w64 (ac + 1),(Option.some.inj h).symm,(S.fix [] [3] (by decide) d d d)⟩)
 refine sCondT S d ab (sSeq (fun bb aA=>sRegion (sN S fun a S=>?_)))
 refine lT (aA _ _ ?_)
 obtain rfl:=tS h
 obtain rfl:=af _ d
 have h:=aG
 try dsimp only at h
 obtain rfl:=tS h
 have h:=aC
 try dsimp only at h
 obtain rfl:=tS h
 exact wp_ret (rBlock (rThen (rThen (rBlock (rThen (sRet (iv 2) S (rsl1 d (rvT (t:=4) (v:=iv 2) S d)) ⟨(),d,S.mem.sel [] [] (by decide) d d⟩))))))
noncomputable def short_joined_l1 (p0:(List (List api_Stitch))):(List api_Stitch × Int)→Option ((List api_Stitch × Int) ⊕ List api_Stitch):=fun s0=>match s0 with
 | (aa,a9)=>
  if decide (a9 < (p0.length:Int)) then
   (idxO p0 a9).bind fun ab=>
   (appO aa ab).bind fun ac=>
   some (.inl (ac,w64 (a9 + 1)))
  else
   some (.inr aa)
noncomputable def F_short_joined (p0:(List (List api_Stitch))):Option (List api_Stitch):=
 Option.bind (α:=List api_Stitch) (
  (whileO (short_joined_l1 p0) (([]:List api_Stitch),0)).bind fun a9=>
   some a9) fun o5=>
 some o5
def c_short_joined_val (r:(List api_Stitch)) (x:Value):Value:=x
def c_short_joined_D (r:(List api_Stitch)) (x:Value):List Fact:=[fRep (rL r_api_Stitch) x r]
theorem c_short_joined (E:Nat→Prop) (w0:World) (p0:(List (List api_Stitch))) (v0:Value) (r:(List api_Stitch)) (h:F_short_joined p0=some r) (S:St0 E [] w0 w0 [] [fRep (rL (rL r_api_Stitch)) (v0) p0]) :
 Calls Try.prog 60 #[v0] w0 (Ret (X:=Value) E [] w0 (c_short_joined_val r) (fun _=>[]) (c_short_joined_D r)):=by
 unfold F_short_joined at h
 obtain ⟨ak,al,_,rfl,_⟩:=S.know (i:=0) (e:=fRep (rL (rL r_api_Stitch)) (v0) p0) d
 refine sEnter (args:=[.slice ak p0.length al]) 17 Try.func60 d d (by simp) S (fun a S=>?_)
 refine sSeq (fun K3 aG=>sRegion (sN S fun a S=>?_))
 refine lT (aG _ _ (sSeq (fun K4 aH=>sRegion (sN S fun a S=>?_))))
 refine lT (aH _ _ ?_)
 obtain ⟨t8,h,g9⟩:=bS h
 refine sCut (fun a w=>∃ o5,o5=t8∧∃ ab,∃ ac,St [] E [] w0 17 a w [(3,.slice ab o5.length ac)] [eRow r_api_Stitch 82 (.slice ab o5.length ac) o5] []) ?_ (fun a w hI=>?_)
 rotate_left
 ·obtain ⟨o5,rfl,ab,ac,S⟩:=hI
  have h:=g9
  try dsimp only at h
  refine sSeq (fun aL am=>sRegion (sM S fun a S=>?_))
  refine sN S fun a S=>?_
  refine lT (am _ _ ?_)
  obtain rfl:=tS h
  have S:=S.shutR (r:=r_api_Stitch) (T:=82) (v:=.slice ab o5.length ac) (xs:=o5) 0 d
  exact wp_ret (sRet (.slice ab o5.length ac) S (rsl1 d (rvT (t:=2) (v:=.slice ab o5.length ac) S d)) ⟨(.slice ab o5.length ac),d,S.mem.sel [] [0] (by decide) d d⟩)
 refine sSeq (fun aM ao=>sRegion (sM S fun a S=>?_))
 refine sLen S (wN d) d Try.underlying127 d d (lb d) fun a S=>sM S fun a S=>?_
 refine lT (ao _ _ (wp_block ?_))
 have S:=S.nilRow r_api_Stitch 82 (α:=api_Stitch)
 obtain ⟨aO,hl,aI⟩:=bS h
 refine sLoop hl (fun s0 a w=>match s0 with | (ae,ag)=>∃ a9,∃ aa,St [] E [] w0 17 a w [(3,.slice a9 ae.length aa),(6,.slice ak p0.length al),(7,iv (p0.length:Int)),(8,iv ag)] [eRow r_api_Stitch 82 (.slice a9 ae.length aa) ae] [fRep (rL (rL r_api_Stitch)) (.slice ak p0.length al) p0]) ⟨none,0,S.fix [0] [0] (by decide) d d d⟩ ?_
 clear hl h
 intro s0 a w c0 hI h ap
 obtain ⟨ae,ag⟩:=s0
 unfold short_joined_l1 at h
 dsimp only at h hI
 obtain ⟨a9,aa,S⟩:=hI
 refine sSeq (fun aP aq=>sRegion (sBin _ S (wN d) d d d (bLt _ _ _ _ .i64 ag (p0.length:Int)) d (lb d) fun a S=>lT (aq _ _ (sSeq (fun aQ ar=>?_)))))
 rcases iS h with ⟨af,h⟩ | ⟨af,h⟩
 rotate_left
 ·refine sCondF S d af ?_
  obtain rfl:=tS h
  obtain rfl:=ap _ d
  have h:=aI
  try dsimp only at h
  exact wp_exit (xThen (xThen (xHit (leafT (⟨ae,Option.some.inj h,a9,aa,S.fix [0] [] (by decide) d d d⟩)))))
 refine sCondT S d af (wp_skip (leafT (ar _ _ ?_)))
 refine sSeq (fun aR au=>wp_block ?_)
 refine sSeq (fun aS av=>sRegion ?_)
 obtain ⟨ah,aw,h⟩:=bS h
 obtain ⟨aC,ax,S⟩:=pIdx (P:=Try.prog) (r:=(rL r_api_Stitch)) (v:=.slice ak p0.length al) (xs:=p0) (j:=ag) 127 86 0 S Try.underlying127 d d aw
 refine sIdxV S (wN d) d d d ax d (lb d) fun a S=>?_
 obtain ⟨aJ,S⟩:=pLoad (r:=(rL r_api_Stitch)) (q:=aC) (x:=ah) 0 S d
 obtain ⟨ai,aj,_,rfl,_⟩:=S.mem.know (i:=1) (e:=fRep (rL r_api_Stitch) (aJ) ah) d
 refine sLoadV1 (vq:=aC) 0 (.slice ai ah.length aj) S (wN d) d d d d d (lb d) fun a S=>sN S fun a S=>?_
 refine lT (av _ _ (sRegion (sM S fun a S=>?_)))
 refine sM S fun a S=>?_
 obtain ⟨aK,ay,h⟩:=bS h
 refine sApp (r:=r_api_Stitch) (T:=82) (xs:=ae) (ys:=ah) (v:=.slice a9 ae.length aa) (u:=.slice ai ah.length aj) 0 (.agg #[.int .u8 0,.bool false,iv 0,iv 0]) 24 S (wN d) d Try.underlying86 d d (by decide) d d d (src_D 1 S.mem d) ay d (lb d) fun a w az aA S=>sN S fun a S=>?_
 refine leafL (leafB (leafT (au _ _ ?_)))
 refine sRegion (sBin _ S (wN d) d d d (bAdd _ _ _ _ ag 1) d (lb d) fun a S=>sM S fun a S=>?_)
 exact lT (⟨(aK,w64 (ag + 1)),(Option.some.inj h).symm,⟨az,aA,S.fix [0] [3] (by decide) d d d⟩⟩)
noncomputable def short_several_l1 (p1:Int) (p0:Int):(List api_Stitch × Int)→Option ((List api_Stitch × Int) ⊕ List api_Stitch):=fun s0=>match s0 with
 | (a9,aa)=>
  if decide (aa < p1) then
   (appO a9 [(api_Stitch.mk p0 false 0 0)]).bind fun ab=>
   some (.inl (ab,w64 (aa + 1)))
  else
   some (.inr a9)
noncomputable def F_short_several (p0:Int) (p1:Int):Option (List api_Stitch):=
 (capO p1).bind fun z5=>
 Option.bind (α:=List api_Stitch) (
  (whileO (short_several_l1 p1 p0) (([]:List api_Stitch),0)).bind fun a9=>
   some a9) fun o7=>
 some o7
def c_short_several_val (r:(List api_Stitch)) (x:Value):Value:=x
def c_short_several_D (r:(List api_Stitch)) (x:Value):List Fact:=[fRep (rL r_api_Stitch) x r]
theorem c_short_several (E:Nat→Prop) (w0:World) (p0:Int) (p1:Int) (r:(List api_Stitch)) (h:F_short_several p0 p1=some r) (S:St0 E [] w0 w0 [] []) :
 Calls Try.prog 61 #[.int .u8 p0,iv p1] w0 (Ret (X:=Value) E [] w0 (c_short_several_val r) (fun _=>[]) (c_short_several_D r)):=by
 unfold F_short_several at h
 refine sEnter (args:=[.int .u8 p0,iv p1]) 18 Try.func61 d d (by simp) S (fun a S=>?_)
 refine sSeq (fun K1 av=>sRegion (sN S fun a S=>?_))
 refine lT (av _ _ (sSeq (fun K2 aw=>sRegion (sM S fun a S=>?_))))
 obtain ⟨z5,ax,h⟩:=bS h
 refine sMake0 r_api_Stitch (m:=p1) (u:=z5) (.agg #[.int .u8 0,.bool false,iv 0,iv 0]) 24 S (wN d) d Try.underlying86 d (by decide) d d ax d (lb d) fun a w ay az S=>?_
 refine sN S fun a S=>?_
 refine lT (aw _ _ ?_)
 obtain ⟨aA,h,aC⟩:=bS h
 refine sCut (fun a w=>∃ o7,o7=aA∧∃ ab,∃ ac,St [] E [] w0 18 a w [(5,.slice ab o7.length ac)] [eRow r_api_Stitch 82 (.slice ab o7.length ac) o7] []) ?_ (fun a w hI=>?_)
 rotate_left
 ·obtain ⟨o7,rfl,ab,ac,S⟩:=hI
  have h:=aC
  try dsimp only at h
  refine sSeq (fun aI ah=>sRegion (sM S fun a S=>?_))
  refine sN S fun a S=>?_
  refine lT (ah _ _ ?_)
  obtain rfl:=tS h
  have S:=S.shutR (r:=r_api_Stitch) (T:=82) (v:=.slice ab o7.length ac) (xs:=o7) 0 d
  exact wp_ret (sRet (.slice ab o7.length ac) S (rsl1 d (rvT (t:=4) (v:=.slice ab o7.length ac) S d)) ⟨(.slice ab o7.length ac),d,S.mem.sel [] [0] (by decide) d d⟩)
 refine sSeq (fun aJ ai=>sRegion (sM S fun a S=>?_))
 refine sM S fun a S=>?_
 refine lT (ai _ _ (wp_block ?_))
 obtain ⟨aK,hl,aG⟩:=bS h
 refine sLoop hl (fun s0 a w=>match s0 with | (ae,ag)=>∃ a9,∃ aa,St [] E [] w0 18 a w [(0,.int .u8 p0),(5,.slice a9 ae.length aa),(8,iv p1),(9,iv ag)] [eRow r_api_Stitch 82 (.slice a9 ae.length aa) ae] []) ⟨ay,az,S.fix [0] [] (by decide) d d d⟩ ?_
 clear hl h
 intro s0 a w c0 hI h aj
 obtain ⟨ae,ag⟩:=s0
 unfold short_several_l1 at h
 dsimp only at h hI
 obtain ⟨a9,aa,S⟩:=hI
 refine sSeq (fun aL ak=>sRegion (sBin _ S (wN d) d d d (bLt _ _ _ _ .i64 ag p1) d (lb d) fun a S=>lT (ak _ _ (sSeq (fun aM al=>?_)))))
 rcases iS h with ⟨af,h⟩ | ⟨af,h⟩
 rotate_left
 ·refine sCondF S d af ?_
  obtain rfl:=tS h
  obtain rfl:=aj _ d
  have h:=aG
  try dsimp only at h
  exact wp_exit (xThen (xThen (xHit (leafT (⟨ae,Option.some.inj h,a9,aa,S.fix [0] [] (by decide) d d d⟩)))))
 refine sCondT S d af (wp_skip (leafT (al _ _ ?_)))
 refine sSeq (fun aO am=>wp_block ?_)
 refine sRegion (sM S fun a S=>?_)
 refine sM S fun a S=>?_
 refine sBuild [(0,.int .u8 p0)] [.int .u8 p0,.bool false,iv 0,iv 0] S (wN d) d d d d (lb d) fun a S=>?_
 have S:=S.learn (fRep r_api_Stitch (.agg #[.int .u8 p0,.bool false,iv 0,iv 0]) (api_Stitch.mk p0 false 0 0)) d
 refine sLit (r:=r_api_Stitch) (T:=82) (xs:=[(api_Stitch.mk p0 false 0 0)]) [(0,.agg #[.int .u8 p0,.bool false,iv 0,iv 0])] 1 [.agg #[.int .u8 p0,.bool false,iv 0,iv 0]] [.int .u8 p0,.bool false,iv 0,iv 0] (.agg #[.int .u8 0,.bool false,iv 0,iv 0]) 24 S (wN d) d d Try.underlying86 d (by decide) (by decide) (by kernel_rfl) d (fun E1 w1 hE=>All.cons (r_api_Stitch.mono hE (S.mem.know (i:=0) (e:=fRep r_api_Stitch (.agg #[.int .u8 p0,.bool false,iv 0,iv 0]) (api_Stitch.mk p0 false 0 0)) d)) (All.nil _ _ _)) d d (lb d) fun a w ao ap S=>?_
 obtain ⟨aH,aq,h⟩:=bS h
 refine sApp (r:=r_api_Stitch) (T:=82) (xs:=ae) (ys:=[(api_Stitch.mk p0 false 0 0)]) (v:=.slice a9 ae.length aa) (u:=.slice ao [(api_Stitch.mk p0 false 0 0)].length ap) 1 (.agg #[.int .u8 0,.bool false,iv 0,iv 0]) 24 S (wN d) d Try.underlying86 d d (by decide) d d d (src_R (T:=82) 0 S.mem d) aq d (lb d) fun a w ar au S=>sN S fun a S=>?_
 refine leafL (leafB (leafT (am _ _ ?_)))
 refine sRegion (sBin _ S (wN d) d d d (bAdd _ _ _ _ ag 1) d (lb d) fun a S=>sM S fun a S=>?_)
 exact lT (⟨(aH,w64 (ag + 1)),(Option.some.inj h).symm,⟨ar,au,S.fix [0] [] (by decide) d d d⟩⟩)
noncomputable def short_Chart_l1 (p1:(List Int)) (p0:Int):(Int × List api_Row)→Option ((Int × List api_Row) ⊕ List api_Row):=fun s0=>match s0 with
 | (a9,aa)=>
  if decide (a9 < (p1.length:Int)) then
   (idxO p1 a9).bind fun ab=>
   (F_short_several 1 ab).bind fun ae=>
   (F_short_several 8 (w64 (p0 - ab))).bind fun af=>
   (F_short_joined [ae,af]).bind fun ac=>
   (F_stitch_Turn ac).bind fun ag=>
   (appO aa [(api_Row.mk false ac),(api_Row.mk true ag.1)]).bind fun ah=>
   some (.inl (w64 (a9 + 1),ah))
  else
   some (.inr aa)
noncomputable def F_short_Chart (p0:Int) (p1:(List Int)):Option (api_Chart × Int):=
 (F_short_check p0 p1).bind fun r7=>
 if r7 != 0 then
  some ((api_Chart.mk 0 ([]:(List api_Row))),r7)
 else
  Option.bind (α:=List api_Row) (
   (whileO (short_Chart_l1 p1 p0) (0,([]:List api_Row))).bind fun a9=>
    some a9) fun aa=>
  some ((api_Chart.mk p0 aa),0)
def c_short_Chart_val (r:(api_Chart × Int)) (x:Value):Value:=.tuple #[x,.int .i64 r.2]
def c_short_Chart_D (r:(api_Chart × Int)) (x:Value):List Fact:=[fRep r_api_Chart x r.1]
theorem c_short_Chart (E:Nat→Prop) (w0:World) (p0:Int) (p1:(List Int)) (v1:Value) (r:(api_Chart × Int)) (h:F_short_Chart p0 p1=some r) (S:St0 E [] w0 w0 [] [fRep (rL (rI .i64)) (v1) p1]) :
 Calls Try.prog 30 #[iv p0,v1] w0 (Ret (X:=Value) E [] w0 (c_short_Chart_val r) (fun _=>[]) (c_short_Chart_D r)):=by
 unfold F_short_Chart at h
 obtain ⟨aH,aI,_,rfl,_⟩:=S.know (i:=0) (e:=fRep (rL (rI .i64)) (v1) p1) d
 refine sEnter (args:=[iv p0,.slice aH p1.length aI]) 52 Try.func30 d d (by simp) S (fun a S=>?_)
 refine sSeq (fun K3 bl=>sRegion (sAlloc (.agg #[iv 0,.slice none 0 0]) S (wN d) d d [iv 0,.slice none 0 0] d d (lb d) fun a b4 w S=>sN S fun a S=>?_))
 refine lT (bl _ _ (sSeq (fun K5 bm=>sSeq (fun K6 bn=>sRegion (sM S fun a S=>?_)))))
 refine sM S fun a S=>?_
 obtain ⟨r7,bo,h⟩:=bS h
 have S1:=S.mem
 refine sCq [iv p0,.slice aH p1.length aI] (iv r7) S callee59 (S1.quiet [0] d) (fun E1 w1 S1=>c_short_check E1 w1 p0 p1 (.slice aH p1.length aI) r7 bo S1) fun a w S=>?_
 refine sN S fun a S=>?_
 refine lT (bn _ _ (sSeq (fun K9 bp=>sRegion (sM S fun a S=>?_))))
 refine sBin _ S (wN d) d d d (bNe _ _ _ _ .i64 r7 0) d (lb d) fun a S=>lT (bp _ _ ?_)
 rcases iS h with ⟨az,h⟩ | ⟨az,h⟩
 ·refine sCondT S d az (sSeq (fun bz aK=>sRegion (sBuild [] [iv 0,.slice none 0 0] S (wN d) d d d d (lb d) fun a S=>sM S fun a S=>?_)))
  refine sStore (p:=b4) (off:=0) (T:=49) (vs:=[iv 0,.slice none 0 0]) (v:=.agg #[iv 0,.slice none 0 0]) 0 [iv 0,.slice none 0 0] S (wN d) d d d d d d d (by simp) d fun a w S=>sN S fun a S=>?_
  refine lT (aK _ _ ?_)
  obtain rfl:=tS h
  have S:=S.learn (fRep (rL r_api_Row) (.slice none 0 0) ([]:(List api_Row))) (rL_nil _ _ _)
  have S:=S.learn (fRep r_api_Chart (.agg #[iv 0,.slice none 0 0]) (api_Chart.mk 0 ([]:(List api_Row)))) ⟨_,d,S.mem.know (i:=0) (e:=fRep (rL r_api_Row) (.slice none 0 0) ([]:(List api_Row))) d⟩
  exact wp_ret (rThen (sRet (.tuple #[.agg #[iv 0,.slice none 0 0],iv r7]) S (rsl2 d (rvN (c:=4) (t:=49) (T:=49) (p:=b4) 0 [iv 0,.slice none 0 0] S d d d d) (rvT (t:=5) (v:=iv r7) S d)) ⟨(.agg #[iv 0,.slice none 0 0]),d,S.mem.sel [] [0] (by decide) d d⟩))
 refine sCondF S d az (wp_skip (leafT (bm _ _ ?_)))
 refine sSeq (fun bA aL=>sRegion (sM S fun a S=>?_))
 refine sBuild [(0,iv p0)] [iv p0,.slice none 0 0] S (wN d) d d d d (lb d) fun a S=>sAlloc (.agg #[iv 0,.slice none 0 0]) S (wN d) d d [iv 0,.slice none 0 0] d d (lb d) fun a ap w S=>sStore (p:=ap) (off:=0) (T:=49) (vs:=[iv 0,.slice none 0 0]) (v:=.agg #[iv p0,.slice none 0 0]) 0 [iv p0,.slice none 0 0] S (wN d) d d d d d d d (by simp) d fun a w S=>lT (aL _ _ ?_)
 obtain ⟨bq,h,br⟩:=bS h
 refine sCut (fun a w=>∃ al,al=bq∧∃ ab,∃ ac,St [] E [] w0 52 a w [(4,.pointer (some ⟨b4,0,none⟩)),(7,.pointer (some ⟨ap,0,none⟩))] [eBox b4 49 [iv 0,.slice none 0 0],eBox ap 49 [iv p0,.slice ab al.length ac],eRow r_api_Row 90 (.slice ab al.length ac) al] []) ?_ (fun a w hI=>?_)
 rotate_left
 ·obtain ⟨al,rfl,ab,ac,S⟩:=hI
  have h:=br
  try dsimp only at h
  refine sSeq (fun bB aM=>sRegion (sLoadN (p:=ap) (off:=0) (T:=49) (vs:=[iv p0,.slice ab al.length ac]) 1 [iv p0,.slice ab al.length ac] S (wN d) d d d d d d d (lb d) fun a S=>sStore (p:=b4) (off:=0) (T:=49) (vs:=[iv 0,.slice none 0 0]) (v:=.agg #[iv p0,.slice ab al.length ac]) 0 [iv p0,.slice ab al.length ac] S (wN d) d d d d d d d (by simp) d fun a w S=>sN S fun a S=>?_))
  refine lT (aM _ _ ?_)
  obtain rfl:=tS h
  have S:=S.shutR (r:=r_api_Row) (T:=90) (v:=.slice ab al.length ac) (xs:=al) 2 d
  have S:=S.learn (fRep r_api_Chart (.agg #[iv p0,.slice ab al.length ac]) (api_Chart.mk p0 al)) ⟨_,d,S.mem.know (i:=0) (e:=fRep (rL r_api_Row) (.slice ab al.length ac) al) d⟩
  exact wp_ret (sRet (.tuple #[.agg #[iv p0,.slice ab al.length ac],iv 0]) S (rsl2 d (rvN (c:=4) (t:=49) (T:=49) (p:=b4) 0 [iv p0,.slice ab al.length ac] S d d d d) (rvT (t:=5) (v:=iv 0) S d)) ⟨(.agg #[iv p0,.slice ab al.length ac]),d,S.mem.sel [] [0] (by decide) d d⟩)
 refine sSeq (fun bC aO=>sRegion (sM S fun a S=>?_))
 refine sLen S (wN d) d Try.underlying34 d d (lb d) fun a S=>sM S fun a S=>?_
 refine lT (aO _ _ (wp_block ?_))
 have S:=S.nilRow r_api_Row 90 (α:=api_Row)
 obtain ⟨bD,hl,bt⟩:=bS h
 refine sLoop hl (fun s0 a w=>match s0 with | (aJ,ak)=>∃ a9,∃ aa,St [] E [] w0 52 a w [(0,iv p0),(4,.pointer (some ⟨b4,0,none⟩)),(7,.pointer (some ⟨ap,0,none⟩)),(22,.slice aH p1.length aI),(23,iv (p1.length:Int)),(24,iv aJ)] [eBox b4 49 [iv 0,.slice none 0 0],eBox ap 49 [iv p0,.slice a9 ak.length aa],eRow r_api_Row 90 (.slice a9 ak.length aa) ak] [fRep (rL (rI .i64)) (.slice aH p1.length aI) p1]) ⟨none,0,S.fix [2,1,0] [0] (by decide) d d d⟩ ?_
 clear hl h
 intro s0 a w c0 hI h aP
 obtain ⟨aJ,ak⟩:=s0
 unfold short_Chart_l1 at h
 dsimp only at h hI
 obtain ⟨a9,aa,S⟩:=hI
 refine sSeq (fun bE aQ=>sRegion (sBin _ S (wN d) d d d (bLt _ _ _ _ .i64 aJ (p1.length:Int)) d (lb d) fun a S=>lT (aQ _ _ (sSeq (fun bG aR=>?_)))))
 rcases iS h with ⟨aA,h⟩ | ⟨aA,h⟩
 rotate_left
 ·refine sCondF S d aA ?_
  obtain rfl:=tS h
  obtain rfl:=aP _ d
  have h:=bt
  try dsimp only at h
  exact wp_exit (xThen (xThen (xHit (leafT (⟨ak,Option.some.inj h,a9,aa,S.fix [0,1,2] [] (by decide) d d d⟩)))))
 refine sCondT S d aA (wp_skip (leafT (aR _ _ ?_)))
 refine sSeq (fun bH aS=>wp_block ?_)
 refine sSeq (fun bI aT=>sRegion ?_)
 obtain ⟨aq,aU,h⟩:=bS h
 obtain ⟨bi,aV,S⟩:=pIdx (P:=Try.prog) (r:=(rI .i64)) (v:=.slice aH p1.length aI) (xs:=p1) (j:=aJ) 34 3 0 S Try.underlying34 d d aU
 refine sIdxV S (wN d) d d d aV d (lb d) fun a S=>?_
 obtain ⟨bj,S⟩:=pLoad (r:=(rI .i64)) (q:=bi) (x:=aq) 0 S d
 obtain rfl:bj=iv aq:=S.mem.know (i:=1) (e:=fRep (rI .i64) (bj) aq) d
 refine sLoadV1 (vq:=bi) 0 (iv aq) S (wN d) d d d d d (lb d) fun a S=>sN S fun a S=>?_
 refine lT (aT _ _ (sSeq (fun bJ aW=>sRegion (sM S fun a S=>?_))))
 obtain ⟨am,aX,h⟩:=bS h
 refine sCall (X:=Value) (f:=61) (vs:=[.int .u8 1,iv aq]) (val:=c_short_several_val am) (B':=fun _=>[]) (D':=c_short_several_D am) [] [eBox b4 49 [iv 0,.slice none 0 0],eBox ap 49 [iv p0,.slice a9 ak.length aa],eRow r_api_Row 90 (.slice a9 ak.length aa) ak] [] [0,1,2] [] S (wN d) d callee61 d (by decide) d d (fun E1 w1 S1=>c_short_several E1 w1 1 aq am aX S1) d (lb d) fun bu a w S=>?_
 obtain ⟨ar,au,_,rfl,_⟩:=S.mem.know (i:=0) (e:=fRep (rL r_api_Stitch) (bu) am) d
 refine sM S fun a S=>?_
 refine sM S fun a S=>?_
 refine sBin _ S (wN d) d d d (bSub _ _ _ _ p0 aq) d (lb d) fun a S=>?_
 obtain ⟨ao,aZ,h⟩:=bS h
 refine sCall (X:=Value) (f:=61) (vs:=[.int .u8 8,iv (w64 (p0 - aq))]) (val:=c_short_several_val ao) (B':=fun _=>[]) (D':=c_short_several_D ao) [] [eBox b4 49 [iv 0,.slice none 0 0],eBox ap 49 [iv p0,.slice a9 ak.length aa],eRow r_api_Row 90 (.slice a9 ak.length aa) ak] [] [0,1,2] [] S (wN d) d callee61 d (by decide) d d (fun E1 w1 S1=>c_short_several E1 w1 8 (w64 (p0 - aq)) ao aZ S1) d (lb d) fun bv a w S=>?_
 obtain ⟨av,aw,_,rfl,_⟩:=S.mem.know (i:=0) (e:=fRep (rL r_api_Stitch) (bv) ao) d
 refine sLit (r:=(rL r_api_Stitch)) (T:=86) (xs:=[am,ao]) [(0,.slice ar am.length au),(1,.slice av ao.length aw)] 2 [.slice ar am.length au,.slice av ao.length aw] [.slice ar am.length au,.slice av ao.length aw] (.slice none 0 0) 24 S (wN d) d d Try.underlying127 d (by decide) (by decide) (by kernel_rfl) d (fun E1 w1 hE=>All.cons ((rL r_api_Stitch).mono hE (S.mem.know (i:=1) (e:=fRep (rL r_api_Stitch) (.slice ar am.length au) am) d)) (All.cons ((rL r_api_Stitch).mono hE (S.mem.know (i:=0) (e:=fRep (rL r_api_Stitch) (.slice av ao.length aw) ao) d)) (All.nil _ _ _))) d d (lb d) fun a w ax ay S=>?_
 obtain ⟨af,b8,h⟩:=bS h
 have S:=S.shutR (r:=(rL r_api_Stitch)) (T:=86) (v:=.slice ax [am,ao].length ay) (xs:=[am,ao]) 0 d
 refine sCall (X:=Value) (f:=60) (vs:=[.slice ax [am,ao].length ay]) (val:=c_short_joined_val af) (B':=fun _=>[]) (D':=c_short_joined_D af) [] [eBox b4 49 [iv 0,.slice none 0 0],eBox ap 49 [iv p0,.slice a9 ak.length aa],eRow r_api_Row 90 (.slice a9 ak.length aa) ak] [fRep (rL (rL r_api_Stitch)) (.slice ax [am,ao].length ay) [am,ao]] [0,1,2] [0] S (wN d) d callee60 d (by decide) d d (fun E1 w1 S1=>c_short_joined E1 w1 [am,ao] (.slice ax [am,ao].length ay) af b8 S1) d (lb d) fun bw a w S=>?_
 obtain ⟨ag,ah,_,rfl,_⟩:=S.mem.know (i:=0) (e:=fRep (rL r_api_Stitch) (bw) af) d
 refine sN S fun a S=>?_
 refine lT (aW _ _ (sSeq (fun bK ba=>sRegion (sM S fun a S=>?_))))
 obtain ⟨ae,bb,h⟩:=bS h
 refine sCall (X:=Value) (f:=41) (vs:=[.slice ag af.length ah]) (val:=c_stitch_Turn_val ae) (B':=fun _=>[]) (D':=c_stitch_Turn_D ae) [] [eBox b4 49 [iv 0,.slice none 0 0],eBox ap 49 [iv p0,.slice a9 ak.length aa],eRow r_api_Row 90 (.slice a9 ak.length aa) ak] [fRep (rL r_api_Stitch) (.slice ag af.length ah) af] [0,1,2] [0] S (wN d) d callee41 d (by decide) d d (fun E1 w1 S1=>c_stitch_Turn E1 w1 af (.slice ag af.length ah) ae bb S1) d (lb d) fun bx a w S=>?_
 obtain ⟨ai,aj,_,rfl,_⟩:=S.mem.know (i:=0) (e:=fRep (rL r_api_Stitch) (bx) ae.1) d
 refine sM S fun a S=>?_
 refine sExtract (vs:=[.slice ai ae.1.length aj,iv ae.2]) (.slice ai ae.1.length aj) S (wN d) d d d d (lb d) fun a S=>sExtract (vs:=[.slice ai ae.1.length aj,iv ae.2]) (iv ae.2) S (wN d) d d d d (lb d) fun a S=>sN S fun a S=>?_
 refine sN S fun a S=>?_
 refine lT (ba _ _ (sRegion (sField (b:=ap) (off:=0) 1 1 S (wN d) d d d d d (lb d) fun a S=>sLoad1 1 (.slice a9 ak.length aa) S (wN d) d d d d d d (lb d) fun a S=>sM S fun a S=>?_)))
 refine sBuild [(1,.slice ag af.length ah)] [.bool false,.slice ag af.length ah] S (wN d) d d d d (lb d) fun a S=>sM S fun a S=>?_
 refine sBuild [(0,.bool true),(1,.slice ai ae.1.length aj)] [.bool true,.slice ai ae.1.length aj] S (wN d) d d d d (lb d) fun a S=>?_
 have S:=S.learn (fRep r_api_Row (.agg #[.bool false,.slice ag af.length ah]) (api_Row.mk false af)) ⟨_,d,S.mem.know (i:=1) (e:=fRep (rL r_api_Stitch) (.slice ag af.length ah) af) d⟩
 have S:=S.learn (fRep r_api_Row (.agg #[.bool true,.slice ai ae.1.length aj]) (api_Row.mk true ae.1)) ⟨_,d,S.mem.know (i:=1) (e:=fRep (rL r_api_Stitch) (.slice ai ae.1.length aj) ae.1) d⟩
 refine sLit (r:=r_api_Row) (T:=90) (xs:=[(api_Row.mk false af),(api_Row.mk true ae.1)]) [(0,.agg #[.bool false,.slice ag af.length ah]),(1,.agg #[.bool true,.slice ai ae.1.length aj])] 2 [.agg #[.bool false,.slice ag af.length ah],.agg #[.bool true,.slice ai ae.1.length aj]] [.bool false,.slice ag af.length ah,.bool true,.slice ai ae.1.length aj] (.agg #[.bool false,.slice none 0 0]) 32 S (wN d) d d Try.underlying47 d (by decide) (by decide) (by kernel_rfl) d (fun E1 w1 hE=>All.cons (r_api_Row.mono hE (S.mem.know (i:=1) (e:=fRep r_api_Row (.agg #[.bool false,.slice ag af.length ah]) (api_Row.mk false af)) d)) (All.cons (r_api_Row.mono hE (S.mem.know (i:=0) (e:=fRep r_api_Row (.agg #[.bool true,.slice ai ae.1.length aj]) (api_Row.mk true ae.1)) d)) (All.nil _ _ _))) d d (lb d) fun a w bc bf S=>?_
 obtain ⟨bg,bh,h⟩:=bS h
 refine sApp (r:=r_api_Row) (T:=90) (xs:=ak) (ys:=[(api_Row.mk false af),(api_Row.mk true ae.1)]) (v:=.slice a9 ak.length aa) (u:=.slice bc [(api_Row.mk false af),(api_Row.mk true ae.1)].length bf) 3 (.agg #[.bool false,.slice none 0 0]) 32 S (wN d) d Try.underlying47 d d (by decide) d d d (src_R (T:=90) 0 S.mem d) bh d (lb d) fun a w aC aG S=>sField (b:=ap) (off:=0) 1 1 S (wN d) d d d d d (lb d) fun a S=>sStore (p:=ap) (off:=1) (T:=49) (vs:=[iv p0,.slice a9 ak.length aa]) (v:=.slice aC bg.length aG) 3 [.slice aC bg.length aG] S (wN d) d d d d d d d (by simp) d fun a w S=>leafL (leafB (leafT (aS _ _ ?_)))
 refine sRegion (sBin _ S (wN d) d d d (bAdd _ _ _ _ aJ 1) d (lb d) fun a S=>sM S fun a S=>?_)
 exact lT (⟨(w64 (aJ + 1),bg),(Option.some.inj h).symm,⟨aC,aG,S.fix [3,0,1] [10] (by decide) d d d⟩⟩)
def anc_short_Read_0:List (List Nat):=[[],[0],[],[2],[],[2,3,4],[2,3,4,5],[2,3,4,5,6],[0,1,2,3,4,5,6,7],[0,1,2,3,4,5,6,7,8],[0,1,2,3,4,5,6,7,8,9],[0,1,2,3,4,5,6,7,8,9,10],[0,1,2,3,4,5,6,7,8,9],[0,1,2,3,4,5,6,7,8,9,12],[0,1,2,3,4,5,6,7,8,9],[0,1,2,3,4,5,6,7,8,9,12,13,14],[0,1,2,3,4,5,6,7,8,9,12,13,14,15],[0,1,2,3,4,5,6,7,8,9,12,13,14,15,16],[0,1,2,3,4,5,6,7,8,9,10,11,12,13,14,15,16,17],[0,1,2,3,4,5,6,7,8,9,10,11,12,13,14,15,16,17,18],[0,1,2,3,4,5,6,7,8,9,10,11,12,13,14,15,16,17,18,19]]
noncomputable def short_Read_l1 (aa:Int) (ab:api_Row):List Int→Option (List Int ⊕ List Int):=fun s0=>match s0 with
 | a9=>
  Option.bind (α:=Bool) (
   (idxO a9 aa).bind fun ac=>
   if decide (ac < (ab.Cells.length:Int)) then
    (idxO ab.Cells ac).bind fun ae=>
    some (ae.Kind == 1)
   else
    some false) fun af=>
  if af then
   (idxO a9 aa).bind fun ag=>
   (setO a9 aa (w64 (ag + 1))).bind fun ah=>
   some (.inl ah)
  else
   some (.inr a9)
noncomputable def short_Read_l2 (ab:List Int) (p0:api_Chart):(List Int × Int)→Option ((List Int × Int) ⊕ List Int):=fun s0=>match s0 with
 | (aa,a9)=>
  if decide (a9 < (ab.length:Int)) then
   Option.bind (α:=List Int) (
    (idxO p0.Rows (w64 (2 * a9))).bind fun ac=>
    (whileO (short_Read_l1 a9 ac) aa).bind fun ae=>
     some ae) fun af=>
   some (.inl (af,w64 (a9 + 1)))
  else
   some (.inr aa)
noncomputable def short_Read_l3 (p0:api_Chart) (af:(api_Chart × Int)):Int→Option (Int ⊕ ((Int × (List Int) × Int) ⊕ Unit)):=fun s0=>match s0 with
 | ab=>
  if decide (ab < (p0.Rows.length:Int)) then
   (idxO p0.Rows ab).bind fun a9=>
   Option.bind (α:=Bool) (
    (idxO af.1.Rows ab).bind fun aa=>
    if a9.Back != aa.Back then
     some true
    else
     (F_stitch_Same a9.Cells aa.Cells).bind fun ac=>
     some (!ac)) fun ae=>
   if ae then
    some (.inr (.inl (0,([]:(List Int)),8)))
   else
    some (.inl (w64 (ab + 1)))
  else
   some (.inr (.inr ()))
noncomputable def F_short_Read (p0:api_Chart):Option (Int × (List Int) × Int):=
 (remI (p0.Rows.length:Int) 2).bind fun z9=>
 if z9 == 1 then
  some (0,([]:(List Int)),8)
 else
  (quoI (p0.Rows.length:Int) 2).bind fun ac=>
  (makeO ac (0:Int)).bind fun a9=>
  Option.bind (α:=List Int) (
   (whileO (short_Read_l2 a9 p0) (a9,0)).bind fun ae=>
    some ae) fun aa=>
  (F_short_Chart p0.Start aa).bind fun ab=>
  if ab.2 != 0 then
   some (0,([]:(List Int)),8)
  else
   Option.bind (α:=Unit ⊕ (Int × (List Int) × Int)) (
    (whileO (short_Read_l3 p0 ab) 0).bind fun z0=>match z0 with
     | .inl z=>
      some (.inr z)
     | .inr _=>
      some (.inl ())) fun z0=>match z0 with
    | .inl _=>
     some (p0.Start,aa,0)
    | .inr z=>
     some z
def c_short_Read_val (r:(Int × (List Int) × Int)) (x:Value):Value:=.tuple #[.int .i64 r.1,x,.int .i64 r.2.2]
def c_short_Read_D (r:(Int × (List Int) × Int)) (x:Value):List Fact:=[fRep (rL (rI .i64)) x r.2.1]
theorem c_short_Read (E:Nat→Prop) (w0:World) (p0:api_Chart) (v0:Value) (r:(Int × (List Int) × Int)) (h:F_short_Read p0=some r) (S:St0 E [] w0 w0 [] [fRep r_api_Chart (v0) p0]) :
 Calls Try.prog 34 #[v0] w0 (Ret (X:=Value) E [] w0 (c_short_Read_val r) (fun _=>[]) (c_short_Read_D r)):=by
 unfold F_short_Read at h
 obtain ⟨u1,rfl,cu⟩:=S.know (i:=0) (e:=fRep r_api_Chart (v0) p0) d
 have S:=S.learn (fRep (rL r_api_Row) u1 p0.Rows) cu
 obtain ⟨ai,aj,_,rfl,_⟩:=cu
 refine sEnter (args:=[.agg #[iv p0.Start,.slice ai p0.Rows.length aj]]) 101 Try.func34 d d (by simp) S (fun a S=>?_)
 refine sSeq (fun K5 cC=>sRegion (sBox (v:=.agg #[iv p0.Start,.slice ai p0.Rows.length aj]) S (wN d) d d [iv p0.Start,.slice ai p0.Rows.length aj] d d (lb d) fun a b6 w S=>sN S fun a S=>?_))
 refine sN S fun a S=>?_
 refine sN S fun a S=>?_
 refine lT (cC _ _ (sSeq (fun K7 cD=>sSeq (fun K8 cE=>sRegion (sField (b:=b6) (off:=0) 1 1 S (wN d) d d d d d (lb d) fun a S=>sLoad1 0 (.slice ai p0.Rows.length aj) S (wN d) d d d d d d (lb d) fun a S=>sLen S (wN d) d Try.underlying47 d d (lb d) fun a S=>?_)))))
 obtain ⟨z9,bG,h⟩:=bS h
 refine sBin _ S (wN d) d d d (bRem _ _ _ _ (x:=(p0.Rows.length:Int)) (y:=2) bG) d (lb d) fun a S=>sBin _ S (wN d) d d d (bEq _ _ _ _ .i64 z9 1) d (lb d) fun a S=>lT (cE _ _ ?_)
 rcases iS h with ⟨aQ,h⟩ | ⟨aQ,h⟩
 ·refine sCondT S d aQ (sSeq (fun d9 bH=>sRegion (sN S fun a S=>?_)))
  refine sN S fun a S=>?_
  refine sN S fun a S=>?_
  refine lT (bH _ _ ?_)
  obtain rfl:=tS h
  have S:=S.learn (fRep (rL (rI .i64)) (.slice none 0 0) ([]:(List Int))) (rL_nil _ _ _)
  exact wp_ret (rThen (sRet (.tuple #[iv 0,.slice none 0 0,iv 8]) S (rsl3 d (rvT (t:=2) (v:=iv 0) S d) (rvT (t:=3) (v:=.slice none 0 0) S d) (rvT (t:=4) (v:=iv 8) S d)) ⟨(.slice none 0 0),d,S.mem.sel [] [0] (by decide) d d⟩))
 refine sCondF S d aQ (wp_skip (leafT (cD _ _ ?_)))
 refine sSeq (fun da bI=>sRegion (sField (b:=b6) (off:=0) 1 1 S (wN d) d d d d d (lb d) fun a S=>sLoad1 0 (.slice ai p0.Rows.length aj) S (wN d) d d d d d d (lb d) fun a S=>sLen S (wN d) d Try.underlying47 d d (lb d) fun a S=>?_))
 obtain ⟨cF,bJ,h⟩:=bS h
 refine sBin _ S (wN d) d d d (bQuo _ _ _ _ (x:=(p0.Rows.length:Int)) (y:=2) bJ) d (lb d) fun a S=>?_
 obtain ⟨ba,bK,h⟩:=bS h
 refine sMake (r:=(rI .i64)) (m:=cF) (xs:=ba) (iv 0) (0:Int) 8 S (wN d) d Try.underlying34 d d (by decide) (fun _ _=>d) d d bK d (lb d) fun a w a9 aa S=>sN S fun a S=>?_
 refine lT (bI _ _ ?_)
 obtain ⟨cG,h,cH⟩:=bS h
 refine sCut (fun a w=>∃ al,al=cG∧St [] E [] w0 101 a w [(1,.pointer (some ⟨b6,0,none⟩)),(5,.slice a9 al.length aa)] [eBox b6 49 [iv p0.Start,.slice ai p0.Rows.length aj],eRow (rI .i64) 3 (.slice a9 al.length aa) al] [fRep (rL r_api_Row) (.slice ai p0.Rows.length aj) p0.Rows]) ?_ (fun a w hI=>?_)
 ·refine sSeq (fun db bL=>sRegion (sM S fun a S=>?_))
  refine sLen S (wN d) d Try.underlying34 d d (lb d) fun a S=>sM S fun a S=>?_
  refine lT (bL _ _ (wp_block ?_))
  obtain ⟨dc,hl,cI⟩:=bS h
  refine sLoop hl (fun s0 a w=>match s0 with | (bf,ar)=>St [] E [] w0 101 a w [(1,.pointer (some ⟨b6,0,none⟩)),(5,.slice a9 bf.length aa),(23,iv (ba.length:Int)),(24,iv ar)] [eBox b6 49 [iv p0.Start,.slice ai p0.Rows.length aj],eRow (rI .i64) 3 (.slice a9 bf.length aa) bf] [fRep (rL r_api_Row) (.slice ai p0.Rows.length aj) p0.Rows]) (S.fix [1,0] [0] (by decide) d d d) ?_
  clear hl h
  intro s0 a w c0 hI h bM
  obtain ⟨bf,ar⟩:=s0
  unfold short_Read_l2 at h
  dsimp only at h hI
  have S:=hI
  refine sSeq (fun de bN=>sRegion (sBin _ S (wN d) d d d (bLt _ _ _ _ .i64 ar (ba.length:Int)) d (lb d) fun a S=>lT (bN _ _ (sSeq (fun df bO=>?_)))))
  rcases iS h with ⟨aR,h⟩ | ⟨aR,h⟩
  rotate_left
  ·refine sCondF S d aR ?_
   obtain rfl:=tS h
   obtain rfl:=bM _ d
   have h:=cI
   try dsimp only at h
   exact wp_exit (xThen (xThen (xHit (leafT (⟨bf,Option.some.inj h,S.fix [0,1] [0] (by decide) d d d⟩)))))
  refine sCondT S d aR (wp_skip (leafT (bO _ _ ?_)))
  obtain ⟨cJ,h,cK⟩:=bS h
  refine sCut (fun a w=>∃ bb,bb=cJ∧St [] E [] w0 101 a w [(1,.pointer (some ⟨b6,0,none⟩)),(5,.slice a9 bb.length aa),(23,iv (ba.length:Int)),(24,iv ar)] [eBox b6 49 [iv p0.Start,.slice ai p0.Rows.length aj],eRow (rI .i64) 3 (.slice a9 bb.length aa) bb] [fRep (rL r_api_Row) (.slice ai p0.Rows.length aj) p0.Rows]) ?_ (fun a w hI=>?_)
  rotate_left
  ·obtain ⟨bb,rfl,S⟩:=hI
   have h:=cK
   try dsimp only at h
   refine sRegion (sBin _ S (wN d) d d d (bAdd _ _ _ _ ar 1) d (lb d) fun a S=>sM S fun a S=>?_)
   exact lT (⟨(bb,w64 (ar + 1)),(Option.some.inj h).symm,(S.fix [0,1] [0] (by decide) d d d)⟩)
  refine wp_block ?_
  refine sSeq (fun dg bP=>sRegion (sM S fun a S=>?_))
  refine sN S fun a S=>?_
  refine lT (bP _ _ (sSeq (fun dh bQ=>sRegion (sField (b:=b6) (off:=0) 1 1 S (wN d) d d d d d (lb d) fun a S=>sLoad1 0 (.slice ai p0.Rows.length aj) S (wN d) d d d d d d (lb d) fun a S=>sM S fun a S=>?_))))
  refine sBin _ S (wN d) d d d (bMul _ _ _ _ 2 ar) d (lb d) fun a S=>?_
  obtain ⟨aA,bR,h⟩:=bS h
  obtain ⟨cv,bV,S⟩:=pIdx (P:=Try.prog) (r:=r_api_Row) (v:=.slice ai p0.Rows.length aj) (xs:=p0.Rows) (j:=w64 (2 * ar)) 47 90 0 S Try.underlying47 d d bR
  refine sIdxV S (wN d) d d d bV d (lb d) fun a S=>?_
  obtain ⟨cw,bW,S⟩:=pFld (P:=Try.prog) (r:=r_api_Row) (s2:=(rL r_api_Stitch)) (g:=(·.Cells)) (q:=cv) (z:=aA) 90 1 0 1 S d d comp_api_Row_Cells
  refine sFldV (q:=cv) S (wN d) d d bW d (lb d) fun a S=>?_
  obtain ⟨cL,S⟩:=pLoad (r:=(rL r_api_Stitch)) (q:=cw) (x:=aA.Cells) 0 S d
  obtain ⟨ay,az,_,rfl,_⟩:=S.mem.know (i:=1) (e:=fRep (rL r_api_Stitch) (cL) aA.Cells) d
  refine sLoadV1 (vq:=cw) 0 (.slice ay aA.Cells.length az) S (wN d) d d d d d (lb d) fun a S=>sN S fun a S=>?_
  refine lT (bQ _ _ (wp_block ?_))
  obtain ⟨di,hl,cM⟩:=bS h
  refine sLoop hl (fun s0 a w=>match s0 with | ap=>St [] E [] w0 101 a w [(1,.pointer (some ⟨b6,0,none⟩)),(5,.slice a9 ap.length aa),(6,iv ar),(7,.slice ay aA.Cells.length az),(23,iv (ba.length:Int)),(24,iv ar)] [eBox b6 49 [iv p0.Start,.slice ai p0.Rows.length aj],eRow (rI .i64) 3 (.slice a9 ap.length aa) ap] [fRep (rL r_api_Stitch) (.slice ay aA.Cells.length az) aA.Cells,fRep (rL r_api_Row) (.slice ai p0.Rows.length aj) p0.Rows]) (S.fix [0,1] [1,4] (by decide) d d d) ?_
  clear hl h
  intro ap a w c0 hI h bX
  unfold short_Read_l1 at h
  dsimp only at h hI
  have S:=hI
  refine sSeq (fun dj bY=>?_)
  obtain ⟨cN,h,cO⟩:=bS h
  refine sCut (fun a w=>∃ bZ,bZ=cN∧St [] E [] w0 101 a w [(1,.pointer (some ⟨b6,0,none⟩)),(5,.slice a9 ap.length aa),(6,iv ar),(7,.slice ay aA.Cells.length az),(23,iv (ba.length:Int)),(24,iv ar),(51,.bool bZ)] [eBox b6 49 [iv p0.Start,.slice ai p0.Rows.length aj],eRow (rI .i64) 3 (.slice a9 ap.length aa) ap] [fRep (rL r_api_Stitch) (.slice ay aA.Cells.length az) aA.Cells,fRep (rL r_api_Row) (.slice ai p0.Rows.length aj) p0.Rows]) ?_ (fun a w hI=>?_)
  rotate_left
  ·obtain ⟨bZ,rfl,S⟩:=hI
   have h:=cO
   try dsimp only at h
   rcases iS h with ⟨aS,h⟩ | ⟨aS,h⟩
   rotate_left
   ·refine sCondF S d aS ?_
    obtain rfl:=tS h
    obtain rfl:=bX _ d
    have h:=cM
    try dsimp only at h
    exact wp_exit (xThen (xThen (xHit (leafB (leafT (⟨ap,Option.some.inj h,S.fix [0,1] [1] (by decide) d d d⟩))))))
   refine sCondT S d aS (wp_skip (leafT (bY _ _ ?_)))
   refine wp_block ?_
   refine sRegion (sM S fun a S=>?_)
   refine sM S fun a S=>?_
   obtain ⟨bg,aT,h⟩:=bS h
   obtain ⟨cP,c6,c7⟩:=pIdxR (P:=Try.prog) (r:=(rI .i64)) (T:=3) (v:=.slice a9 ap.length aa) (xs:=ap) (j:=ar) 34 3 1 S Try.underlying34 d d aT
   refine sIdxV S (wN d) d d d c6 d (lb d) fun a S=>sLoadR (r:=(rI .i64)) (T:=3) (xs:=ap) (x:=bg) (v:=.slice a9 ap.length aa) (vq:=cP) (j:=ar) 1 (iv bg) S c7 (wN d) d d d aT (fun _ _ _ h=>h) (scal_I _) d d (lb d) fun a S=>sBin _ S (wN d) d d d (bAdd _ _ _ _ bg 1) d (lb d) fun a S=>?_
   obtain ⟨cQ,c8,c9⟩:=pIdxR (P:=Try.prog) (r:=(rI .i64)) (T:=3) (v:=.slice a9 ap.length aa) (xs:=ap) (j:=ar) 34 3 1 S Try.underlying34 d d aT
   refine sIdxV S (wN d) d d d c8 d (lb d) fun a S=>?_
   obtain ⟨cx,bh,h⟩:=bS h
   refine sStoreR (r:=(rI .i64)) (T:=3) (xs:=ap) (ys:=cx) (y:=(w64 (bg + 1))) (v:=.slice a9 ap.length aa) (vq:=cQ) (u:=iv (w64 (bg + 1))) (j:=ar) 1 S c9 (wN d) d d d d d bh d d fun a w S=>?_
   rw [setO_v bh a9 aa] at S
   exact leafL (leafB (leafT (⟨cx,(Option.some.inj h).symm,(S.fix [1,0] [0,1] (by decide) d d d)⟩)))
  refine sRegion (sM S fun a S=>?_)
  refine sM S fun a S=>?_
  obtain ⟨bc,aJ,h⟩:=bS h
  obtain ⟨cR,ca,cb⟩:=pIdxR (P:=Try.prog) (r:=(rI .i64)) (T:=3) (v:=.slice a9 ap.length aa) (xs:=ap) (j:=ar) 34 3 1 S Try.underlying34 d d aJ
  refine sIdxV S (wN d) d d d ca d (lb d) fun a S=>sLoadR (r:=(rI .i64)) (T:=3) (xs:=ap) (x:=bc) (v:=.slice a9 ap.length aa) (vq:=cR) (j:=ar) 1 (iv bc) S cb (wN d) d d d aJ (fun _ _ _ h=>h) (scal_I _) d d (lb d) fun a S=>sM S fun a S=>?_
  refine sLen S (wN d) d Try.underlying86 d d (lb d) fun a S=>sBin _ S (wN d) d d d (bLt _ _ _ _ .i64 bc (aA.Cells.length:Int)) d (lb d) fun a S=>sM S fun a S=>?_
  rcases iS h with ⟨ak,h⟩ | ⟨ak,h⟩
  rotate_left
  ·refine sSkN 9 7 true 41 S d d ak d fun a S=>sPickF (.bool false) S (wN d) d d ak d d (lb d) fun a S=>?_
   exact lT (⟨false,Option.some.inj h,S.fix [0,1] [0,1] (by decide) d d d⟩)
  refine sMove (.slice ay aA.Cells.length az) S (wG 7 true 41 d d d ak) (.inl d) d d (lb d) fun a S=>sMove (.slice a9 ap.length aa) S (wG 7 true 41 d d d ak) (.inl d) d d (lb d) fun a S=>sMove (iv ar) S (wG 7 true 41 d d d ak) (.inl d) d d (lb d) fun a S=>?_
  obtain ⟨cT,cc,cd⟩:=pIdxR (P:=Try.prog) (r:=(rI .i64)) (T:=3) (v:=.slice a9 ap.length aa) (xs:=ap) (j:=ar) 34 3 1 S Try.underlying34 d d aJ
  refine sIdxV S (wG 7 true 41 d d d ak) d d d cc d (lb d) fun a S=>sLoadR (r:=(rI .i64)) (T:=3) (xs:=ap) (x:=bc) (v:=.slice a9 ap.length aa) (vq:=cT) (j:=ar) 1 (iv bc) S cd (wG 7 true 41 d d d ak) d d d aJ (fun _ _ _ h=>h) (scal_I _) d d (lb d) fun a S=>?_
  obtain ⟨aM,ce,h⟩:=bS h
  obtain ⟨cy,cf,S⟩:=pIdx (P:=Try.prog) (r:=r_api_Stitch) (v:=.slice ay aA.Cells.length az) (xs:=aA.Cells) (j:=bc) 86 82 0 S Try.underlying86 d d ce
  refine sIdxV S (wG 7 true 41 d d d ak) d d d cf d (lb d) fun a S=>?_
  obtain ⟨cz,cg,S⟩:=pFld (P:=Try.prog) (r:=r_api_Stitch) (s2:=(rI .u8)) (g:=(·.Kind)) (q:=cy) (z:=aM) 82 0 0 0 S d d comp_api_Stitch_Kind
  refine sFldV (q:=cy) S (wG 7 true 41 d d d ak) d d cg d (lb d) fun a S=>?_
  obtain ⟨cA,S⟩:=pLoad (r:=(rI .u8)) (q:=cz) (x:=aM.Kind) 0 S d
  obtain rfl:cA=.int .u8 aM.Kind:=S.mem.know (i:=1) (e:=fRep (rI .u8) (cA) aM.Kind) d
  refine sLoadV1 (vq:=cz) 0 (.int .u8 aM.Kind) S (wG 7 true 41 d d d ak) d d d d d (lb d) fun a S=>sBin _ S (wG 7 true 41 d d d ak) d d d (bEq _ _ _ _ .u8 aM.Kind 1) d (lb d) fun a S=>sPickT (.bool (aM.Kind == 1)) S (wN d) d d ak d d (lb d) fun a S=>?_
  exact lT (⟨aM.Kind == 1,Option.some.inj h,S.fix [0,1] [4,5] (by decide) d d d⟩)
 obtain ⟨al,rfl,S⟩:=hI
 have h:=cH
 try dsimp only at h
 refine sSeq (fun dk ci=>sRegion (sField (b:=b6) (off:=0) 0 0 S (wN d) d d d d d (lb d) fun a S=>sLoad1 0 (iv p0.Start) S (wN d) d d d d d d (lb d) fun a S=>sM S fun a S=>?_))
 obtain ⟨af,cj,h⟩:=bS h
 have S:=S.shutR (r:=(rI .i64)) (T:=3) (v:=.slice a9 al.length aa) (xs:=al) 1 d
 refine sCall (X:=Value) (f:=30) (vs:=[iv p0.Start,.slice a9 al.length aa]) (val:=c_short_Chart_val af) (B':=fun _=>[]) (D':=c_short_Chart_D af) [] [eBox b6 49 [iv p0.Start,.slice ai p0.Rows.length aj]] [fRep (rL (rI .i64)) (.slice a9 al.length aa) al] [0] [0] S (wN d) d callee30 d (by decide) d d (fun E1 w1 S1=>c_short_Chart E1 w1 p0.Start al (.slice a9 al.length aa) af cj S1) d (lb d) fun cU a w S=>?_
 obtain ⟨cV,rfl,bi⟩:=S.mem.know (i:=0) (e:=fRep r_api_Chart (cU) af.1) d
 have S:=S.learn (fRep (rL r_api_Row) cV af.1.Rows) bi
 obtain ⟨ag,ah,_,rfl,_⟩:=bi
 refine sM S fun a S=>?_
 refine sExtract (vs:=[.agg #[iv af.1.Start,.slice ag af.1.Rows.length ah],iv af.2]) (.agg #[iv af.1.Start,.slice ag af.1.Rows.length ah]) S (wN d) d d d d (lb d) fun a S=>sExtract (vs:=[.agg #[iv af.1.Start,.slice ag af.1.Rows.length ah],iv af.2]) (iv af.2) S (wN d) d d d d (lb d) fun a S=>sAlloc (.agg #[iv 0,.slice none 0 0]) S (wN d) d d [iv 0,.slice none 0 0] d d (lb d) fun a aC w S=>sStore (p:=aC) (off:=0) (T:=49) (vs:=[iv 0,.slice none 0 0]) (v:=.agg #[iv af.1.Start,.slice ag af.1.Rows.length ah]) 0 [iv af.1.Start,.slice ag af.1.Rows.length ah] S (wN d) d d d d d d d (by simp) d fun a w S=>sN S fun a S=>?_
 refine lT (ci _ _ (sSeq (fun dl ck=>sSeq (fun dm cl=>sRegion (sM S fun a S=>?_)))))
 refine sBin _ S (wN d) d d d (bNe _ _ _ _ .i64 af.2 0) d (lb d) fun a S=>lT (cl _ _ ?_)
 rcases iS h with ⟨aU,h⟩ | ⟨aU,h⟩
 ·refine sCondT S d aU (sSeq (fun dn cm=>sRegion (sN S fun a S=>?_)))
  refine sN S fun a S=>?_
  refine sN S fun a S=>?_
  refine lT (cm _ _ ?_)
  obtain rfl:=tS h
  have S:=S.learn (fRep (rL (rI .i64)) (.slice none 0 0) ([]:(List Int))) (rL_nil _ _ _)
  exact wp_ret (rThen (sRet (.tuple #[iv 0,.slice none 0 0,iv 8]) S (rsl3 d (rvT (t:=2) (v:=iv 0) S d) (rvT (t:=3) (v:=.slice none 0 0) S d) (rvT (t:=4) (v:=iv 8) S d)) ⟨(.slice none 0 0),d,S.mem.sel [] [0] (by decide) d d⟩))
 refine sCondF S d aU (wp_skip (leafT (ck _ _ ?_)))
 obtain ⟨cW,h,cB⟩:=bS h
 refine sCut (fun a w=>.inl ()=cW∧St [] E [] w0 101 a w [(1,.pointer (some ⟨b6,0,none⟩)),(5,.slice a9 al.length aa)] [eBox b6 49 [iv p0.Start,.slice ai p0.Rows.length aj]] [fRep (rL (rI .i64)) (.slice a9 al.length aa) al,fRep (rL r_api_Row) (.slice ai p0.Rows.length aj) p0.Rows]) ?_ (fun a w hI=>?_)
 rotate_left
 ·obtain ⟨rfl,S⟩:=hI
  have h:=cB
  try dsimp only at h
  refine sSeq (fun cX bj=>sRegion (sField (b:=b6) (off:=0) 0 0 S (wN d) d d d d d (lb d) fun a S=>sLoad1 0 (iv p0.Start) S (wN d) d d d d d d (lb d) fun a S=>sM S fun a S=>?_))
  refine sN S fun a S=>?_
  refine sN S fun a S=>?_
  refine sN S fun a S=>?_
  refine lT (bj _ _ ?_)
  obtain rfl:=tS h
  exact wp_ret (sRet (.tuple #[iv p0.Start,.slice a9 al.length aa,iv 0]) S (rsl3 d (rvT (t:=2) (v:=iv p0.Start) S d) (rvT (t:=3) (v:=.slice a9 al.length aa) S d) (rvT (t:=4) (v:=iv 0) S d)) ⟨(.slice a9 al.length aa),d,S.mem.sel [] [0] (by decide) d d⟩)
 refine sSeq (fun dp cn=>sRegion (sField (b:=b6) (off:=0) 1 1 S (wN d) d d d d d (lb d) fun a S=>sLoad1 1 (.slice ai p0.Rows.length aj) S (wN d) d d d d d d (lb d) fun a S=>sLen S (wN d) d Try.underlying47 d d (lb d) fun a S=>sM S fun a S=>?_))
 refine lT (cn _ _ (wp_block ?_))
 obtain ⟨cY,hl,bl⟩:=bS h
 refine sLoop hl (fun s0 a w=>match s0 with | au=>St [] E [] w0 101 a w [(1,.pointer (some ⟨b6,0,none⟩)),(5,.slice a9 al.length aa),(8,.pointer (some ⟨aC,0,none⟩)),(69,.slice ai p0.Rows.length aj),(70,iv (p0.Rows.length:Int)),(71,iv au)] [eBox b6 49 [iv p0.Start,.slice ai p0.Rows.length aj],eBox aC 49 [iv af.1.Start,.slice ag af.1.Rows.length ah]] [fRep (rL (rI .i64)) (.slice a9 al.length aa) al,fRep (rL r_api_Row) (.slice ai p0.Rows.length aj) p0.Rows,fRep (rL r_api_Row) (.slice ag af.1.Rows.length ah) af.1.Rows]) (S.fix [1,0] [2,3,0] (by decide) d d d) ?_
 clear hl h
 intro au a w c0 hI h aO
 unfold short_Read_l3 at h
 dsimp only at h hI
 have S:=hI
 refine sSeq (fun cZ bm=>sRegion (sBin _ S (wN d) d d d (bLt _ _ _ _ .i64 au (p0.Rows.length:Int)) d (lb d) fun a S=>lT (bm _ _ (sSeq (fun d5 bn=>?_)))))
 rcases iS h with ⟨aG,h⟩ | ⟨aG,h⟩
 rotate_left
 ·refine sCondF S d aG ?_
  obtain rfl:=tS h
  obtain rfl:=aO _ d
  have h:=bl
  try dsimp only at h
  exact wp_exit (xThen (xThen (xHit (leafT (⟨Option.some.inj h,S.fix [0] [0,1] (by decide) d d d⟩)))))
 refine sCondT S d aG (wp_skip (leafT (bn _ _ ?_)))
 refine sSeq (fun d6 bo=>wp_block ?_)
 refine sSeq (fun d7 bp=>sRegion (sM S fun a S=>?_))
 obtain ⟨ae,bq,h⟩:=bS h
 obtain ⟨br,bt,S⟩:=pIdx (P:=Try.prog) (r:=r_api_Row) (v:=.slice ai p0.Rows.length aj) (xs:=p0.Rows) (j:=au) 47 90 1 S Try.underlying47 d d bq
 refine sIdxV S (wN d) d d d bt d (lb d) fun a S=>?_
 obtain ⟨co,S⟩:=pLoad (r:=r_api_Row) (q:=br) (x:=ae) 0 S d
 obtain ⟨cp,rfl,aP⟩:=S.mem.know (i:=1) (e:=fRep r_api_Row (co) ae) d
 have S:=S.learn (fRep (rL r_api_Stitch) cp ae.Cells) aP
 obtain ⟨am,ao,_,rfl,_⟩:=aP
 refine sLoadVN (vq:=br) 1 [.bool ae.Back,.slice am ae.Cells.length ao] S (wN d) d d d d d d (lb d) fun a S=>sAlloc (.agg #[.bool false,.slice none 0 0]) S (wN d) d d [.bool false,.slice none 0 0] d d (lb d) fun a av w S=>sN S fun a S=>?_
 refine sStore (p:=av) (off:=0) (T:=90) (vs:=[.bool false,.slice none 0 0]) (v:=.agg #[.bool ae.Back,.slice am ae.Cells.length ao]) 0 [.bool ae.Back,.slice am ae.Cells.length ao] S (wN d) d d d d d d d (by simp) d fun a w S=>lT (bp _ _ ?_)
 obtain ⟨cq,h,cr⟩:=bS h
 refine sCut (fun a w=>∃ aV,aV=cq∧St [] E [] w0 101 a w [(1,.pointer (some ⟨b6,0,none⟩)),(5,.slice a9 al.length aa),(8,.pointer (some ⟨aC,0,none⟩)),(69,.slice ai p0.Rows.length aj),(70,iv (p0.Rows.length:Int)),(71,iv au),(96,.bool aV)] [eBox b6 49 [iv p0.Start,.slice ai p0.Rows.length aj],eBox aC 49 [iv af.1.Start,.slice ag af.1.Rows.length ah]] [fRep (rL (rI .i64)) (.slice a9 al.length aa) al,fRep (rL r_api_Row) (.slice ai p0.Rows.length aj) p0.Rows,fRep (rL r_api_Row) (.slice ag af.1.Rows.length ah) af.1.Rows]) ?_ (fun a w hI=>?_)
 rotate_left
 ·obtain ⟨aV,rfl,S⟩:=hI
  have h:=cr
  try dsimp only at h
  rcases iS h with ⟨aH,h⟩ | ⟨aH,h⟩
  rotate_left
  ·refine sCondF S d aH (wp_skip (leafB (leafT (bo _ _ ?_))))
   refine sRegion (sBin _ S (wN d) d d d (bAdd _ _ _ _ au 1) d (lb d) fun a S=>sM S fun a S=>?_)
   exact lT (⟨w64 (au + 1),(Option.some.inj h).symm,(S.fix [0,1] [0,1,2] (by decide) d d d)⟩)
  refine sCondT S d aH (sSeq (fun d8 bu=>sRegion (sN S fun a S=>?_)))
  refine sN S fun a S=>?_
  refine sN S fun a S=>?_
  refine lT (bu _ _ ?_)
  obtain rfl:=tS h
  obtain rfl:=aO _ d
  have h:=bl
  try dsimp only at h
  obtain rfl:=tS h
  have h:=cB
  try dsimp only at h
  obtain rfl:=tS h
  have S:=S.learn (fRep (rL (rI .i64)) (.slice none 0 0) ([]:(List Int))) (rL_nil _ _ _)
  exact wp_ret (rBlock (rThen (rThen (rBlock (rThen (sRet (.tuple #[iv 0,.slice none 0 0,iv 8]) S (rsl3 d (rvT (t:=2) (v:=iv 0) S d) (rvT (t:=3) (v:=.slice none 0 0) S d) (rvT (t:=4) (v:=iv 8) S d)) ⟨(.slice none 0 0),d,S.mem.sel [] [0] (by decide) d d⟩))))))
 obtain ⟨ac,aI,h⟩:=bS h
 rcases iS h with ⟨ab,h⟩ | ⟨ab,h⟩
 ·obtain ⟨aW,bv,S⟩:=pIdx (P:=Try.prog) (r:=r_api_Row) (v:=.slice ag af.1.Rows.length ah) (xs:=af.1.Rows) (j:=au) 47 90 6 S Try.underlying47 d d aI
  obtain ⟨aX,bw,S⟩:=pFld (P:=Try.prog) (r:=r_api_Row) (s2:=rB) (g:=(·.Back)) (q:=aW) (z:=ac) 90 0 0 0 S d d comp_api_Row_Back
  obtain ⟨bx,S⟩:=pLoad (r:=rB) (q:=aX) (x:=ac.Back) 0 S d
  obtain rfl:bx=.bool ac.Back:=S.mem.know (i:=1) (e:=fRep rB (bx) ac.Back) d
  refine sDraw (nf:=[]) (W:=[(0,76,.pointer (some ⟨av,0,none⟩)),(1,77,.bool ae.Back),(2,78,.pointer (some ⟨aC,1,none⟩)),(3,79,.slice ag af.1.Rows.length ah),(4,80,iv au),(5,81,aW),(6,82,aX),(7,83,.bool ac.Back),(8,84,.bool (ae.Back != ac.Back)),(9,85,.bool (ae.Back != ac.Back)),(10,86,undef),(11,87,undef),(12,88,undef),(13,89,undef),(14,90,undef),(15,91,undef),(16,92,undef),(17,93,undef),(18,94,undef),(19,95,undef),(20,96,.bool true)]) d S ?_
  refine node_by (A:=anc_short_Read_0) 21 (by kernel_rfl) (by kernel_rfl) (by kernel_rfl) (by kernel_rfl) (by kernel_rfl) [0,1,2,3,4,5,6,7,8,9,10,11,12,13,14,15,16,17,18,19,20] (by kernel_rfl) (by decide) (by decide) (fF ?_ (fF ?_ (fF ?_ (fF ?_ (fF ?_ (fF ?_ (fF ?_ (fF ?_ (fF ?_ (fF ?_ (fF ?_ (fF ?_ (fF ?_ (fF ?_ (fF ?_ (fF ?_ (fF ?_ (fF ?_ (fF ?_ (fF ?_ (fF ?_ (trivial)))))))))))))))))))))) [(1,.pointer (some ⟨b6,0,none⟩)),(5,.slice a9 al.length aa),(8,.pointer (some ⟨aC,0,none⟩)),(69,.slice ai p0.Rows.length aj),(70,iv (p0.Rows.length:Int)),(71,iv au),(86,undef),(87,undef),(88,undef),(89,undef),(90,undef),(91,undef),(92,undef),(93,undef),(94,undef),(95,undef),(96,.bool true)] (fin_of [none,none,none,none,none,none,some 10,some 11,some 12,some 13,some 14,some 15,some 16,some 17,some 18,some 19,some 20] d (by kernel_rfl) (by kernel_rfl)) (fun _ a w S=>?_)
  ·refine fJ [(11,_)] 0 [none] fun G a w S=>?_
   exact sField (b:=av) (off:=0) 0 0 S (wN d) d d d d d (lb d) fun a S=>leafL ⟨d,S⟩
  ·refine fJ [(76,_)] 1 [some 0] fun G a w S=>?_
   exact sLoad1 0 (.bool ae.Back) S (wN d) d d d d d d (lb d) fun a S=>leafL ⟨d,S⟩
  ·refine fJ [(8,_)] 2 [none] fun G a w S=>?_
   exact sField (b:=aC) (off:=0) 1 1 S (wN d) d d d d d (lb d) fun a S=>leafL ⟨d,S⟩
  ·refine fJ [(78,_)] 3 [some 2] fun G a w S=>?_
   exact sLoad1 2 (.slice ag af.1.Rows.length ah) S (wN d) d d d d d d (lb d) fun a S=>leafL ⟨d,S⟩
  ·exact fM 4 none d d d d (.inl d) d d d
  ·refine fJ [(79,_),(80,_)] 5 [some 3,some 4] fun G a w S=>?_
   exact sIdxV S (wN d) d d d bv d (lb d) fun a S=>leafL ⟨d,S⟩
  ·refine fJ [(81,_)] 6 [some 5] fun G a w S=>?_
   exact sFldV (q:=aW) S (wN d) d d bw d (lb d) fun a S=>leafL ⟨d,S⟩
  ·refine fJ [(82,_)] 7 [some 6] fun G a w S=>?_
   exact sLoadV1 (vq:=aX) 0 (.bool ac.Back) S (wN d) d d d d d (lb d) fun a S=>leafL ⟨d,S⟩
  ·refine fJ [(77,_),(83,_)] 8 [some 1,some 7] fun G a w S=>?_
   exact sBin _ S (wN d) d d d (bNeB _ _ _ _ Try.underlying4 ae.Back ac.Back) d (lb d) fun a S=>leafL ⟨d,S⟩
  ·exact fM 9 (some 8) d d d d (.inl d) d d d
  ·refine fJ [(11,_),(85,_)] 10 [none,some 9] fun G a w S=>?_
   exact sSk S d d d ab d d fun a S=>leafL ⟨d,S⟩
  ·refine fJ [(86,_),(85,_)] 11 [some 10,some 9] fun G a w S=>?_
   exact sSk S d d d ab d d fun a S=>leafL ⟨d,S⟩
  ·refine fJ [(8,_),(85,_)] 12 [none,some 9] fun G a w S=>?_
   exact sSk S d d d ab d d fun a S=>leafL ⟨d,S⟩
  ·refine fJ [(88,_),(85,_)] 13 [some 12,some 9] fun G a w S=>?_
   exact sSk S d d d ab d d fun a S=>leafL ⟨d,S⟩
  ·refine fJ [(10,_),(85,_)] 14 [none,some 9] fun G a w S=>?_
   exact sSk S d d d ab d d fun a S=>leafL ⟨d,S⟩
  ·refine fJ [(89,_),(90,_),(85,_)] 15 [some 13,some 14,some 9] fun G a w S=>?_
   exact sSk S d d d ab d d fun a S=>leafL ⟨d,S⟩
  ·refine fJ [(91,_),(85,_)] 16 [some 15,some 9] fun G a w S=>?_
   exact sSk S d d d ab d d fun a S=>leafL ⟨d,S⟩
  ·refine fJ [(92,_),(85,_)] 17 [some 16,some 9] fun G a w S=>?_
   exact sSk S d d d ab d d fun a S=>leafL ⟨d,S⟩
  ·refine fJ [(87,_),(93,_),(85,_)] 18 [some 11,some 17,some 9] fun G a w S=>?_
   exact sSk S d d d ab d d fun a S=>leafL ⟨d,S⟩
  ·refine fJ [(94,_),(85,_)] 19 [some 18,some 9] fun G a w S=>?_
   exact sSk S d d d ab d d fun a S=>leafL ⟨d,S⟩
  ·refine fJ [(85,_),(95,_)] 20 [some 9,some 19] fun G a w S=>?_
   exact sPickT (.bool true) S (wN d) d d ab d d (lb d) fun a S=>leafL ⟨d,S⟩
  exact leafT (⟨true,Option.some.inj h,S.fix [1,2] [8,9,10] (by decide) d d d⟩)
 obtain ⟨aq,bz,h⟩:=bS h
 obtain ⟨aZ,bA,S⟩:=pIdx (P:=Try.prog) (r:=r_api_Row) (v:=.slice ag af.1.Rows.length ah) (xs:=af.1.Rows) (j:=au) 47 90 6 S Try.underlying47 d d aI
 obtain ⟨b8,bB,S⟩:=pFld (P:=Try.prog) (r:=r_api_Row) (s2:=rB) (g:=(·.Back)) (q:=aZ) (z:=ac) 90 0 0 0 S d d comp_api_Row_Back
 obtain ⟨bC,S⟩:=pLoad (r:=rB) (q:=b8) (x:=ac.Back) 0 S d
 obtain rfl:bC=.bool ac.Back:=S.mem.know (i:=1) (e:=fRep rB (bC) ac.Back) d
 obtain ⟨aK,bD,S⟩:=pIdx (P:=Try.prog) (r:=r_api_Row) (v:=.slice ag af.1.Rows.length ah) (xs:=af.1.Rows) (j:=au) 47 90 10 S Try.underlying47 d d aI
 obtain ⟨aL,bE,S⟩:=pFld (P:=Try.prog) (r:=r_api_Row) (s2:=(rL r_api_Stitch)) (g:=(·.Cells)) (q:=aK) (z:=ac) 90 1 0 1 S d d comp_api_Row_Cells
 obtain ⟨ct,S⟩:=pLoad (r:=(rL r_api_Stitch)) (q:=aL) (x:=ac.Cells) 0 S d
 obtain ⟨aw,ax,_,rfl,_⟩:=S.mem.know (i:=1) (e:=fRep (rL r_api_Stitch) (ct) ac.Cells) d
 refine sDraw (nf:=[]) (W:=[(0,76,.pointer (some ⟨av,0,none⟩)),(1,77,.bool ae.Back),(2,78,.pointer (some ⟨aC,1,none⟩)),(3,79,.slice ag af.1.Rows.length ah),(4,80,iv au),(5,81,aZ),(6,82,b8),(7,83,.bool ac.Back),(8,84,.bool (ae.Back != ac.Back)),(9,85,.bool (ae.Back != ac.Back)),(10,86,.pointer (some ⟨av,1,none⟩)),(11,87,.slice am ae.Cells.length ao),(12,88,.pointer (some ⟨aC,1,none⟩)),(13,89,.slice ag af.1.Rows.length ah),(14,90,iv au),(15,91,aK),(16,92,aL),(17,93,.slice aw ac.Cells.length ax),(18,94,.bool aq),(19,95,.bool (!aq)),(20,96,.bool (!aq))]) d S ?_
 refine node_by (A:=anc_short_Read_0) 21 (by kernel_rfl) (by kernel_rfl) (by kernel_rfl) (by kernel_rfl) (by kernel_rfl) [0,1,2,3,4,5,6,7,8,9,10,11,12,13,14,15,16,17,18,19,20] (by kernel_rfl) (by decide) (by decide) (fF ?_ (fF ?_ (fF ?_ (fF ?_ (fF ?_ (fF ?_ (fF ?_ (fF ?_ (fF ?_ (fF ?_ (fF ?_ (fF ?_ (fF ?_ (fF ?_ (fF ?_ (fF ?_ (fF ?_ (fF ?_ (fF ?_ (fF ?_ (fF ?_ (trivial)))))))))))))))))))))) [(1,.pointer (some ⟨b6,0,none⟩)),(5,.slice a9 al.length aa),(8,.pointer (some ⟨aC,0,none⟩)),(69,.slice ai p0.Rows.length aj),(70,iv (p0.Rows.length:Int)),(71,iv au),(86,.pointer (some ⟨av,1,none⟩)),(87,.slice am ae.Cells.length ao),(88,.pointer (some ⟨aC,1,none⟩)),(89,.slice ag af.1.Rows.length ah),(90,iv au),(91,aK),(92,aL),(93,.slice aw ac.Cells.length ax),(94,.bool aq),(95,.bool (!aq)),(96,.bool (!aq))] (fin_of [none,none,none,none,none,none,some 10,some 11,some 12,some 13,some 14,some 15,some 16,some 17,some 18,some 19,some 20] d (by kernel_rfl) (by kernel_rfl)) (fun _ a w S=>?_)
 ·refine fJ [(11,_)] 0 [none] fun G a w S=>?_
  exact sField (b:=av) (off:=0) 0 0 S (wN d) d d d d d (lb d) fun a S=>leafL ⟨d,S⟩
 ·refine fJ [(76,_)] 1 [some 0] fun G a w S=>?_
  exact sLoad1 0 (.bool ae.Back) S (wN d) d d d d d d (lb d) fun a S=>leafL ⟨d,S⟩
 ·refine fJ [(8,_)] 2 [none] fun G a w S=>?_
  exact sField (b:=aC) (off:=0) 1 1 S (wN d) d d d d d (lb d) fun a S=>leafL ⟨d,S⟩
 ·refine fJ [(78,_)] 3 [some 2] fun G a w S=>?_
  exact sLoad1 2 (.slice ag af.1.Rows.length ah) S (wN d) d d d d d d (lb d) fun a S=>leafL ⟨d,S⟩
 ·exact fM 4 none d d d d (.inl d) d d d
 ·refine fJ [(79,_),(80,_)] 5 [some 3,some 4] fun G a w S=>?_
  exact sIdxV S (wN d) d d d bA d (lb d) fun a S=>leafL ⟨d,S⟩
 ·refine fJ [(81,_)] 6 [some 5] fun G a w S=>?_
  exact sFldV (q:=aZ) S (wN d) d d bB d (lb d) fun a S=>leafL ⟨d,S⟩
 ·refine fJ [(82,_)] 7 [some 6] fun G a w S=>?_
  exact sLoadV1 (vq:=b8) 4 (.bool ac.Back) S (wN d) d d d d d (lb d) fun a S=>leafL ⟨d,S⟩
 ·refine fJ [(77,_),(83,_)] 8 [some 1,some 7] fun G a w S=>?_
  exact sBin _ S (wN d) d d d (bNeB _ _ _ _ Try.underlying4 ae.Back ac.Back) d (lb d) fun a S=>leafL ⟨d,S⟩
 ·exact fM 9 (some 8) d d d d (.inl d) d d d
 ·refine fJ [(11,_),(85,_)] 10 [none,some 9] fun G a w S=>?_
  exact sField (b:=av) (off:=0) 1 1 S (wG 9 false 85 d d d ab) d d d d d (lb d) fun a S=>leafL ⟨d,S⟩
 ·refine fJ [(86,_),(85,_)] 11 [some 10,some 9] fun G a w S=>?_
  exact sLoad1 0 (.slice am ae.Cells.length ao) S (wG 9 false 85 d d d ab) d d d d d d (lb d) fun a S=>leafL ⟨d,S⟩
 ·refine fJ [(8,_),(85,_)] 12 [none,some 9] fun G a w S=>?_
  exact sField (b:=aC) (off:=0) 1 1 S (wG 9 false 85 d d d ab) d d d d d (lb d) fun a S=>leafL ⟨d,S⟩
 ·refine fJ [(88,_),(85,_)] 13 [some 12,some 9] fun G a w S=>?_
  exact sLoad1 2 (.slice ag af.1.Rows.length ah) S (wG 9 false 85 d d d ab) d d d d d d (lb d) fun a S=>leafL ⟨d,S⟩
 ·refine fJ [(10,_),(85,_)] 14 [none,some 9] fun G a w S=>?_
  exact sMove (iv au) S (wG 9 false 85 d d d ab) (.inl d) d d (lb d) fun a S=>leafL ⟨d,S⟩
 ·refine fJ [(89,_),(90,_),(85,_)] 15 [some 13,some 14,some 9] fun G a w S=>?_
  exact sIdxV S (wG 9 false 85 d d d ab) d d d bD d (lb d) fun a S=>leafL ⟨d,S⟩
 ·refine fJ [(91,_),(85,_)] 16 [some 15,some 9] fun G a w S=>?_
  exact sFldV (q:=aK) S (wG 9 false 85 d d d ab) d d bE d (lb d) fun a S=>leafL ⟨d,S⟩
 ·refine fJ [(92,_),(85,_)] 17 [some 16,some 9] fun G a w S=>?_
  exact sLoadV1 (vq:=aL) 0 (.slice aw ac.Cells.length ax) S (wG 9 false 85 d d d ab) d d d d d (lb d) fun a S=>leafL ⟨d,S⟩
 ·refine fJ [(87,_),(93,_),(85,_)] 18 [some 11,some 17,some 9] fun G a w S=>?_
  have S1:=S.mem
  refine sCallQ (X:=Unit) (f:=57) (vs:=[.slice am ae.Cells.length ao,.slice aw ac.Cells.length ax]) (val:=fun _=>.bool aq) S (wG 9 false 85 d d d ab) d callee57 d (S1.quiet [8,1] d) (fun E1 w1 S1=>c_stitch_Same E1 w1 ae.Cells (.slice am ae.Cells.length ao) ac.Cells (.slice aw ac.Cells.length ax) aq bz S1) d (lb d) fun _ a w S=>?_
  exact leafL ⟨d,S⟩
 ·refine fJ [(94,_),(85,_)] 19 [some 18,some 9] fun G a w S=>?_
  exact sNot (b:=aq) S (wG 9 false 85 d d d ab) d d d (lb d) fun a S=>leafL ⟨d,S⟩
 ·refine fJ [(85,_),(95,_)] 20 [some 9,some 19] fun G a w S=>?_
  exact sPickF (.bool (!aq)) S (wN d) d d ab d d (lb d) fun a S=>leafL ⟨d,S⟩
 exact leafT (⟨!aq,Option.some.inj h,S.fix [1,2] [12,13,14] (by decide) d d d⟩)
def kS:api_Stitch:=⟨1,false,0,0⟩
def sS:api_Stitch:=⟨8,false,0,0⟩
def kn (n p:Int):List api_Stitch:=List.replicate p.toNat kS ++ List.replicate (n - p).toNat sS
def tchk (n:Int) (l:List Int):Int:=if 1 ≤ n∧n ≤ 200 then (if 50 < l.length then 4 else if (∀ p,p ∈ l→1 ≤ p∧p ≤ n) then 0 else 2) else 2
theorem tchk_ok {n:Int} {l:List Int} (h:tchk n l=0):1 ≤ n∧n ≤ 200∧l.length ≤ 50∧∀ p,p ∈ l→1 ≤ p∧p ≤ n:=by
 unfold tchk at h
 by_cases h1:1 ≤ n∧n ≤ 200
 case neg=>rw [if_neg h1] at h; cases h
 rw [if_pos h1] at h
 by_cases h2:50 < l.length
 ·rw [if_pos h2] at h; cases h
 rw [if_neg h2] at h
 by_cases h3:∀ p,p ∈ l→1 ≤ p∧p ≤ n
 case neg=>rw [if_neg h3] at h; cases h
 exact ⟨h1.1,h1.2,by omega,h3⟩
theorem within_eq (x a b:Int):F_short_within x a b=some (decide (a ≤ x∧x ≤ b)):=by
 unfold F_short_within
 by_cases h:a ≤ x <;> simp [h]
theorem range_mem {l:List Int} {n:Int}:(List.range l.length).all (fun k=>decide (1 ≤ l.getD k 0∧l.getD k 0 ≤ n))=true ↔ ∀ p,p ∈ l→1 ≤ p∧p ≤ n:=by
 rw [List.all_eq_true]
 constructor
 ·intro h p hp
  obtain ⟨k,hk,rfl⟩:=List.getElem_of_mem hp
  have:=h k (List.mem_range.2 hk)
  rw [getD_of _ hk] at this
  exact of_decide_eq_true this
 ·intro h k hk
  have hk:=List.mem_range.1 hk
  rw [getD_of _ hk]
  exact decide_eq_true (h _ (List.getElem_mem hk))
theorem tcheck_eq (n:Int) (l:List Int):F_short_check n l=some (tchk n l):=by
 unfold F_short_check tchk
 rw [within_eq]
 by_cases h1:1 ≤ n∧n ≤ 200
 case neg=>simp only [Option.bind_some,dF h1,Bool.not_false,if_true,if_neg h1]
 simp only [Option.bind_some,dT h1,Bool.not_true,Bool.false_eq_true,if_false,if_pos h1]
 by_cases h2:50 < l.length
 ·simp only [dT (show (50:Int) < (l.length:Int) by omega),if_true,if_pos h2]
 simp only [dF (show ¬ (50:Int) < (l.length:Int) by omega),Bool.false_eq_true,if_false,if_neg h2]
 rw [loop_all (B:=short_check_l1 l n) l.length (fun k=>decide (1 ≤ l.getD k 0∧l.getD k 0 ≤ n)) (.inr ()) (.inl 2) ?_ ?_]
 ·by_cases h3:∀ p,p ∈ l→1 ≤ p∧p ≤ n
  ·rw [if_pos (range_mem.2 h3),if_pos h3]; rfl
  ·rw [if_neg (fun h=>h3 (range_mem.1 h)),if_neg h3]; rfl
 ·intro k hk
  unfold short_check_l1
  simp only [dT (show (k:Int) < (l.length:Int) by omega),if_true,idxO_nat hk,Option.bind_some,within_eq,getD_of _ hk,w64_succ (show k < 9223372036854775807 by omega)]
  by_cases h:1 ≤ l[k]∧l[k] ≤ n
  ·simp only [dT h,Bool.not_true,Bool.false_eq_true,if_false,if_true]
  ·simp only [dF h,Bool.not_false,Bool.false_eq_true,if_false,if_true]
 ·unfold short_check_l1
  simp only [dF (show ¬ (l.length:Int) < (l.length:Int) by omega),Bool.false_eq_true,if_false]
theorem map_const {α:Type} (n:Nat) (c:α):(List.range n).map (fun _=>c)=List.replicate n c:=by
 rw [List.map_const',List.length_range]
theorem several_eq (kind x:Int) (h0:0 ≤ x) (h1:x ≤ 1000000):F_short_several kind x=some (List.replicate x.toNat ⟨kind,false,0,0⟩):=by
 obtain ⟨n,rfl⟩:∃ n:Nat,x=n:=⟨x.toNat,by omega⟩
 have hl:whileO (short_several_l1 (n:Int) kind) ([],0)=some ((List.range n).map fun _=>(⟨kind,false,0,0⟩:api_Stitch)):=by
  refine loop_map n (fun _=>(⟨kind,false,0,0⟩:api_Stitch)) ?_ ?_
  ·rintro k s hk rfl
   unfold short_several_l1
   simp only [dT (show (k:Int) < (n:Int) by omega),if_true,appO_of (show ((List.range k).map fun _=>(⟨kind,false,0,0⟩:api_Stitch)).length + [(api_Stitch.mk kind false 0 0)].length ≤ 68719476736 by simp; omega),Option.bind_some,w64_succ (show k < 9223372036854775807 by omega)]
  ·unfold short_several_l1
   simp only [dF (show ¬ (n:Int) < (n:Int) by omega),Bool.false_eq_true,if_false]
 unfold F_short_several
 rw [capO_of (k:=n) rfl (by omega),hl,map_const]
 rfl
theorem joined_eq (a b:List api_Stitch) (h:a.length + b.length ≤ 1000000):F_short_joined [a,b]=some (a ++ b):=by
 have i0:idxO [a,b] 0=some a:=rfl
 have i1:idxO [a,b] 1=some b:=rfl
 have w1:w64 (0 + 1)=1:=rfl
 have w2:w64 (1 + 1)=2:=rfl
 have s0:short_joined_l1 [a,b] ([],0)=some (.inl (a,1)):=by
  unfold short_joined_l1
  simp only [dT (show (0:Int) < (([a,b]:List (List api_Stitch)).length:Int) by simp),if_true,i0,Option.bind_some,appO_of (show ([]:List api_Stitch).length + a.length ≤ 68719476736 by simp; omega),List.nil_append,w1]
 have s1:short_joined_l1 [a,b] (a,1)=some (.inl (a ++ b,2)):=by
  unfold short_joined_l1
  simp only [dT (show (1:Int) < (([a,b]:List (List api_Stitch)).length:Int) by simp),if_true,i1,Option.bind_some,appO_of (show a.length + b.length ≤ 68719476736 by omega),w2]
 have s2:short_joined_l1 [a,b] (a ++ b,2)=some (.inr (a ++ b)):=by
  unfold short_joined_l1
  simp only [dF (show ¬ (2:Int) < (([a,b]:List (List api_Stitch)).length:Int) by simp),Bool.false_eq_true,if_false]
 unfold F_short_joined
 rw [whileO_step s0,whileO_step s1,whileO_done s2]
 rfl
theorem ssm_rep {α:Type} (f:α→Int) (n:Nat) (x:α):sm f (List.replicate n x)=f x * (n:Int):=by
 induction n with
 | zero=>simp [sm]
 | succ n ih=>
  rw [List.replicate_succ]
  simp only [sm,ih]
  rw [Int.natCast_add,Int.mul_add]
  simp
  omega
theorem kn_len {n p:Int} (h0:0 ≤ p) (h1:p ≤ n):(kn n p).length=n.toNat:=by
 unfold kn; simp; omega
theorem kn_ok {n p:Int} (h0:0 ≤ p) (h1:p ≤ n) (h2:n ≤ 200):allS (kn n p)=0∧sm usedS (kn n p)=n∧sm madeS (kn n p)=n:=by
 have u:sm usedS (kn n p)=n:=by
  unfold kn; rw [sm_append,ssm_rep,ssm_rep]
  have a1:usedS kS=1:=rfl
  have a2:usedS sS=1:=rfl
  rw [a1,a2]; omega
 have m:sm madeS (kn n p)=n:=by
  unfold kn; rw [sm_append,ssm_rep,ssm_rep]
  have a1:madeS kS=1:=rfl
  have a2:madeS sS=1:=rfl
  rw [a1,a2]; omega
 have hl:=kn_len h0 h1
 have hok:allOk (kn n p):=by
  intro x hx
  unfold kn at hx
  rw [List.mem_append,List.mem_replicate,List.mem_replicate] at hx
  rcases hx with ⟨_,rfl⟩ | ⟨_,rfl⟩ <;> decide
 refine ⟨?_,u,m⟩
 unfold allS
 rw [if_neg (by omega),if_pos hok,u,m,if_neg (by omega)]
theorem kn_wf {n p:Int}:∀ x,x ∈ kn n p→wfS x:=by
 intro x hx
 unfold kn at hx
 rw [List.mem_append,List.mem_replicate,List.mem_replicate] at hx
 rcases hx with ⟨_,rfl⟩ | ⟨_,rfl⟩ <;> simp [wfS,kS,sS]
def rowsOf (n:Int):List Int→List api_Row
 | []=>[]
 | p :: l=>⟨false,kn n p⟩ :: ⟨true,((kn n p).map othS).reverse⟩ :: rowsOf n l
theorem rowsOf_len (n:Int) (l:List Int):(rowsOf n l).length=2 * l.length:=by
 induction l with
 | nil=>rfl
 | cons p l ih=>simp only [rowsOf,List.length_cons,ih]; omega
theorem rowsOf_app (n:Int) (l k:List Int):rowsOf n (l ++ k)=rowsOf n l ++ rowsOf n k:=by
 induction l with
 | nil=>rfl
 | cons p l ih=>simp only [rowsOf,List.cons_append,ih]
theorem rowsOf_get (n:Int) (l:List Int) (i:Nat):(rowsOf n l)[2 * i]?=l[i]?.map fun p=>(⟨false,kn n p⟩:api_Row):=by
 induction l generalizing i with
 | nil=>simp [rowsOf]
 | cons p l ih=>
  cases i with
  | zero=>rfl
  | succ i=>
   rw [show 2 * (i + 1)=2 * i + 1 + 1 by omega]
   simp only [rowsOf,List.getElem?_cons_succ]
   exact ih i
def chartOf (n:Int) (l:List Int):api_Chart × Int:=if tchk n l=0 then (⟨n,rowsOf n l⟩,0) else (⟨0,[]⟩,tchk n l)
theorem rows_step {n:Int} {l:List Int} (hl:l.length ≤ 50) {k:Nat} (hk:k < l.length):appO (rowsOf n (l.take k)) [⟨false,kn n l[k]⟩,⟨true,((kn n l[k]).map othS).reverse⟩]=some (rowsOf n (l.take (k + 1))):=by
 rw [appO_of (by rw [rowsOf_len,List.length_take]; simp; omega),take_one l hk,rowsOf_app]
 rfl
theorem schart_eq (n:Int) (l:List Int):F_short_Chart n l=some (chartOf n l):=by
 unfold F_short_Chart chartOf
 rw [tcheck_eq]
 by_cases h:tchk n l=0
 case neg=>simp only [Option.bind_some,nT h,if_true,if_neg h]
 obtain ⟨n0,n1,hl,hp⟩:=tchk_ok h
 have key:∃ t,whileO (short_Chart_l1 l n) (0,[])=some t∧t=rowsOf n l:=by
  refine loop_at (σ:=Unit) l.length (fun k _=>((k:Int),rowsOf n (l.take k))) (fun _ _=>True) _ (s0:=()) trivial ?_ ?_
  ·intro k _ hk _
   refine .inl ⟨(),?_,trivial⟩
   have hq:=hp _ (List.getElem_mem hk)
   have hko:=kn_ok (n:=n) (p:=l[k]) (by omega) hq.2 n1
   have hkl:=kn_len (n:=n) (p:=l[k]) (by omega) hq.2
   have ew:w64 (n - l[k])=n - l[k]:=w64_of (by omega) (by omega)
   have ej:F_short_joined [List.replicate l[k].toNat (⟨1,false,0,0⟩:api_Stitch),List.replicate (n - l[k]).toNat (⟨8,false,0,0⟩:api_Stitch)]=some (kn n l[k]):=joined_eq _ _ (by simp; omega)
   have et:F_stitch_Turn (kn n l[k])=some (((kn n l[k]).map othS).reverse,0):=by rw [turn_eq kn_wf,if_pos hko.1]
   unfold short_Chart_l1
   simp only [dT (show (k:Int) < (l.length:Int) by omega),if_true,idxO_nat hk,Option.bind_some,several_eq 1 l[k] (by omega) (by omega),ew,several_eq 8 (n - l[k]) (by omega) (by omega),ej,et,rows_step hl hk,w64_succ (show k < 9223372036854775807 by omega)]
  ·intro _ _
   refine ⟨_,?_,rfl⟩
   unfold short_Chart_l1
   simp only [dF (show ¬ (l.length:Int) < (l.length:Int) by omega),Bool.false_eq_true,if_false,List.take_length]
 obtain ⟨t,h1,rfl⟩:=key
 simp only [Option.bind_some,nF h,Bool.false_eq_true,if_false,h1,if_pos h]
def lead:List api_Stitch→Nat
 | []=>0
 | p :: l=>if p.Kind=1 then lead l + 1 else 0
def cntK:List api_Stitch→Nat
 | []=>0
 | p :: l=>if p.Kind=1 then cntK l + 1 else cntK l
theorem lead_le (l:List api_Stitch):lead l ≤ l.length:=by
 induction l with
 | nil=>simp [lead]
 | cons p l ih=>simp only [lead]; split <;> simp <;> omega
theorem lead_lt {l:List api_Stitch} {j:Nat} (h:j < lead l):∃ hj:j < l.length,l[j].Kind=1:=by
 induction l generalizing j with
 | nil=>simp [lead] at h
 | cons p l ih=>
  simp only [lead] at h
  split at h
  ·rename_i hp
   cases j with
   | zero=>exact ⟨by simp,hp⟩
   | succ j=>
    obtain ⟨hj,h1⟩:=ih (show j < lead l by omega)
    exact ⟨by simp; omega,by simpa using h1⟩
  ·omega
theorem lead_at {l:List api_Stitch} (h:lead l < l.length):l[lead l].Kind ≠ 1:=by
 have key:∀ j (hj:j < l.length),j=lead l→l[j].Kind ≠ 1:=by
  clear h
  induction l with
  | nil=>intro j hj; simp at hj
  | cons p l ih=>
   intro j hj e
   simp only [lead] at e
   split at e
   ·subst e
    simp only [List.getElem_cons_succ]
    exact ih _ (by simpa using hj) rfl
   ·subst e
    simpa using ‹¬ p.Kind=1›
 exact key _ h rfl
theorem lead_kn {n p:Int}:lead (kn n p)=p.toNat:=by
 unfold kn
 induction p.toNat with
 | zero=>
  rw [List.replicate_zero,List.nil_append]
  cases (n - p).toNat with
  | zero=>rfl
  | succ m=>rfl
 | succ m ih=>rw [List.replicate_succ,List.cons_append]; simp only [lead,kS,if_true] at ih ⊢; rw [ih]
theorem cntK_kn {n p:Int}:cntK (kn n p)=p.toNat:=by
 have z:∀ m,cntK (List.replicate m sS)=0:=by
  intro m
  induction m with
  | zero=>rfl
  | succ m ih=>rw [List.replicate_succ]; show (if sS.Kind=1 then _ else _)=0; rw [if_neg (by decide)]; exact ih
 unfold kn
 induction p.toNat with
 | zero=>rw [List.replicate_zero,List.nil_append,z]
 | succ m ih=>rw [List.replicate_succ,List.cons_append]; simp only [cntK,kS,if_true] at ih ⊢; rw [ih]
theorem lead_loop (x:api_Row) (hx:x.Cells.length ≤ 1000000) (i:Nat):∀ (m j:Nat) (s:List Int),lead x.Cells=j + m→s[i]?=some (j:Int)→whileO (short_Read_l1 (i:Int) x) s=some (s.set i (lead x.Cells:Int)):=by
 intro m
 have hle:=lead_le x.Cells
 induction m with
 | zero=>
  intro j s e hs
  have hi:=(List.getElem?_eq_some_iff.1 hs).1
  have hv:=(List.getElem?_eq_some_iff.1 hs).2
  have e1:short_Read_l1 (i:Int) x s=some (.inr s):=by
   unfold short_Read_l1
   simp only [idxO_nat hi,hv,Option.bind_some]
   by_cases hj:j < x.Cells.length
   ·have hk:x.Cells[j].Kind ≠ 1:=by
     have:=lead_at (l:=x.Cells) (by omega)
     simpa [e] using this
    simp only [dT (show (j:Int) < (x.Cells.length:Int) by omega),if_true,idxO_nat hj,Option.bind_some,bF hk,Bool.false_eq_true,if_false]
   ·simp only [dF (show ¬ (j:Int) < (x.Cells.length:Int) by omega),Bool.false_eq_true,if_false,Option.bind_some]
  rw [whileO_done e1,show (lead x.Cells:Int)=s[i] by rw [hv]; omega,List.set_getElem_self]
 | succ m ih=>
  intro j s e hs
  have hi:=(List.getElem?_eq_some_iff.1 hs).1
  have hv:=(List.getElem?_eq_some_iff.1 hs).2
  obtain ⟨hj,hk⟩:=lead_lt (l:=x.Cells) (j:=j) (by omega)
  have e1:short_Read_l1 (i:Int) x s=some (.inl (s.set i ((j + 1:Nat):Int))):=by
   unfold short_Read_l1
   simp only [idxO_nat hi,hv,Option.bind_some,dT (show (j:Int) < (x.Cells.length:Int) by omega),if_true,idxO_nat hj,bT hk,w64_succ (show j < 9223372036854775807 by omega),setO_nat hi]
  rw [whileO_step e1,ih (j + 1) _ (by omega) (by simp [hi]),List.set_set]
def leads (c:api_Chart):List Int:=(List.range (c.Rows.length / 2)).map fun i=>(lead (c.Rows.getD (2 * i) ⟨false,[]⟩).Cells:Int)
def scnts (c:api_Chart):List Int:=(List.range ((c.Rows.length + 1) / 2)).map fun i=>(cntK (c.Rows.getD (2 * i) ⟨false,[]⟩).Cells:Int)
theorem leads_loop (c:api_Chart) (hl:c.Rows.length ≤ 1000000) (hc:∀ r,r ∈ c.Rows→r.Cells.length ≤ 1000000):whileO (short_Read_l2 (List.replicate (c.Rows.length / 2) 0) c) (List.replicate (c.Rows.length / 2) 0,0)=some (leads c):=by
 unfold leads
 generalize hn:c.Rows.length / 2=n
 have key:∃ t,whileO (short_Read_l2 (List.replicate n 0) c) (List.replicate n 0,0)=some t∧t=(List.range n).map fun i=>(lead (c.Rows.getD (2 * i) ⟨false,[]⟩).Cells:Int):=by
  refine loop_st n (fun k s=>s=((List.range k).map fun i=>(lead (c.Rows.getD (2 * i) ⟨false,[]⟩).Cells:Int)) ++ List.replicate (n - k) 0) _ (by simp) ?_ ?_
  ·rintro k s hk rfl
   refine .inl ⟨_,?_,rfl⟩
   have h2:2 * k < c.Rows.length:=by omega
   have e2:w64 (2 * (k:Int))=((2 * k:Nat):Int):=by rw [w64_of (by omega) (by omega)]; omega
   have er:List.replicate (n - k) (0:Int)=0 :: List.replicate (n - (k + 1)) 0:=by rw [show n - k=(n - (k + 1)) + 1 by omega,List.replicate_succ]
   have hlp:=lead_loop c.Rows[2 * k] (hc _ (List.getElem_mem h2)) k (lead c.Rows[2 * k].Cells) 0 (((List.range k).map fun i=>(lead (c.Rows.getD (2 * i) ⟨false,[]⟩).Cells:Int)) ++ List.replicate (n - k) 0) (by omega) (by rw [er,List.getElem?_append_right (by simp)]; simp)
   unfold short_Read_l2
   simp only [List.length_replicate,dT (show (k:Int) < (n:Int) by omega),if_true,e2,idxO_nat h2,Option.bind_some,hlp,w64_succ (show k < 9223372036854775807 by omega)]
   congr 4
   rw [er,List.set_append_right _ _ (by simp),List.range_succ,List.map_append,List.map_singleton,getD_of _ h2,List.length_map,List.length_range,Nat.sub_self,List.set_cons_zero,List.append_assoc]
   rfl
  ·rintro s rfl
   refine ⟨_,?_,rfl⟩
   unfold short_Read_l2
   simp only [List.length_replicate,dF (show ¬ (n:Int) < (n:Int) by omega),Bool.false_eq_true,if_false,Nat.sub_self,List.replicate_zero,List.append_nil]
 obtain ⟨t,h1,rfl⟩:=key
 exact h1
theorem leads_of {c:api_Chart} {V:List Int} (hv:tchk c.Start V=0) (h:c.Rows=rowsOf c.Start V):leads c=V∧scnts c=V:=by
 have hl:c.Rows.length=2 * V.length:=by rw [h,rowsOf_len]
 obtain ⟨_,_,_,hp⟩:=tchk_ok hv
 have get:∀ i (hi:i < V.length),c.Rows.getD (2 * i) ⟨false,[]⟩=⟨false,kn c.Start V[i]⟩:=by
  intro i hi
  have e:c.Rows[2 * i]?=some ⟨false,kn c.Start V[i]⟩:=by
   have:=rowsOf_get c.Start V i
   rw [← h,List.getElem?_eq_getElem hi] at this
   exact this
  rw [List.getD_eq_getElem?_getD,e]; rfl
 constructor
 ·unfold leads
  rw [hl,show 2 * V.length / 2=V.length by omega]
  apply List.ext_getElem (by simp)
  intro i h1 h2
  simp only [List.getElem_map,List.getElem_range,get i h2,lead_kn]
  have:=hp _ (List.getElem_mem h2)
  omega
 ·unfold scnts
  rw [hl,show (2 * V.length + 1) / 2=V.length by omega]
  apply List.ext_getElem (by simp)
  intro i h1 h2
  simp only [List.getElem_map,List.getElem_range,get i h2,cntK_kn]
  have:=hp _ (List.getElem_mem h2)
  omega
open Classical in
noncomputable def readOf (c:api_Chart):Int × List Int × Int:=if tchk c.Start (leads c)=0∧c.Rows=rowsOf c.Start (leads c) then (c.Start,leads c,0) else (0,[],8)
theorem sread_eq (c:api_Chart) (hl:c.Rows.length ≤ 1000000) (hc:∀ r,r ∈ c.Rows→r.Cells.length ≤ 1000000):F_short_Read c=some (readOf c):=by
 have hr:remI (c.Rows.length:Int) 2=some ((c.Rows.length % 2:Nat):Int):=by
  unfold remI; rw [if_neg (by omega)]; rfl
 have hq:quoI (c.Rows.length:Int) 2=some ((c.Rows.length / 2:Nat):Int):=by
  unfold quoI; rw [if_neg (by omega)]
  have:((c.Rows.length:Int)).tdiv 2=((c.Rows.length / 2:Nat):Int):=rfl
  rw [this,w64_of (by omega) (by omega)]
 unfold F_short_Read readOf
 simp only [hr,hq,Option.bind_some]
 by_cases odd:c.Rows.length % 2=1
 ·have:¬ (tchk c.Start (leads c)=0∧c.Rows=rowsOf c.Start (leads c)):=fun h=>by
   have:=congrArg List.length h.2
   rw [rowsOf_len] at this
   omega
  simp only [bT (show ((c.Rows.length % 2:Nat):Int)=1 by omega),if_true,if_neg this]
 simp only [bF (show ¬ ((c.Rows.length % 2:Nat):Int)=1 by omega),Bool.false_eq_true,if_false,makeO_of (k:=c.Rows.length / 2) (z:=(0:Int)) rfl (by omega),Option.bind_some,leads_loop c hl hc,schart_eq]
 unfold chartOf
 by_cases ht:tchk c.Start (leads c)=0
 case neg=>simp only [if_neg ht,nT ht,if_true,ht,false_and,if_false]
 simp only [ht,if_true,bne_self_eq_false,Bool.false_eq_true,if_false,true_and]
 have hlen:c.Rows.length=(rowsOf c.Start (leads c)).length:=by
  rw [rowsOf_len]; unfold leads; simp; omega
 have key:∃ t:Bool,(t=true ↔ c.Rows=(rowsOf c.Start (leads c)))∧whileO (short_Read_l3 c (⟨c.Start,rowsOf c.Start (leads c)⟩,0)) 0=some (if t=true then .inr () else .inl (0,[],8)):=by
  refine loop_eq c.Rows (rowsOf c.Start (leads c)) hlen _ _ (fun k hk=>?_) ?_
  ·have hk2:k < (rowsOf c.Start (leads c)).length:=by omega
   obtain ⟨t,t1,t2⟩:=same_eq c.Rows[k].Cells ((rowsOf c.Start (leads c))[k]).Cells (by have:=hc _ (List.getElem_mem hk); omega)
   by_cases hb:c.Rows[k].Back=((rowsOf c.Start (leads c))[k]).Back
   ·refine ⟨t,t1.trans ⟨fun e=>row_ext.2 ⟨hb,e⟩,fun e=>(row_ext.1 e).2⟩,?_⟩
    unfold short_Read_l3
    simp only [dT (show (k:Int) < (c.Rows.length:Int) by omega),if_true,idxO_nat hk,idxO_nat hk2,Option.bind_some,w64_succ (show k < 9223372036854775807 by omega),hb,bne_self_eq_false,Bool.false_eq_true,if_false,t2]
    cases t <;> rfl
   ·refine ⟨false,⟨fun h=>(by cases h),fun e=>absurd (row_ext.1 e).1 hb⟩,?_⟩
    unfold short_Read_l3
    simp only [dT (show (k:Int) < (c.Rows.length:Int) by omega),if_true,idxO_nat hk,idxO_nat hk2,Option.bind_some,bne_iff_ne.2 hb,Bool.false_eq_true,if_false]
  ·unfold short_Read_l3
   simp only [dF (show ¬ (c.Rows.length:Int) < (c.Rows.length:Int) by omega),Bool.false_eq_true,if_false]
 obtain ⟨t,t1,t2⟩:=key
 rw [t2]
 cases t with
 | true=>
  have hp:tchk c.Start (leads c)=0∧c.Rows=rowsOf c.Start (leads c):=⟨ht,t1.1 rfl⟩
  rw [if_pos hp]; rfl
 | false=>
  have hn:¬ (tchk c.Start (leads c)=0∧c.Rows=rowsOf c.Start (leads c)):=fun h=>by cases t1.2 h.2
  rw [if_neg hn]; rfl
end Go.Proofs.Ytnfjcalmangncaa
namespace Go.Proofs.Ytnfjcalmangncaa
open Go.RowKit
def anc_short_Heights_0:List (List Nat):=[[],[],[0,1],[0,1,2],[],[],[5],[4,5,6],[4,5,6,7],[0,1,2,3,4,5,6,7,8],[0,1,2,3,4,5,6,7,8,9],[0,1,2,3,4,5,6,7,8,9,10]]
noncomputable def short_Heights_l1 (p1:(List Int)):(List Int × Int)→Option ((List Int × Int) ⊕ List Int):=fun s0=>match s0 with
 | (a9,aa)=>
  if decide (aa < (p1.length:Int)) then
   (idxO p1 aa).bind fun ab=>
   (idxO a9 (w64 (ab - 1))).bind fun ac=>
   (setO a9 (w64 (ab - 1)) (w64 (ac + 1))).bind fun ae=>
   some (.inl (ae,w64 (aa + 1)))
  else
   some (.inr a9)
noncomputable def short_Heights_l2 :(List Int × Int)→Option ((List Int × Int) ⊕ List Int):=fun s0=>match s0 with
 | (aa,a9)=>
  if decide (0 ≤ a9) then
   (idxO aa a9).bind fun ab=>
   (idxO aa (w64 (a9 + 1))).bind fun ac=>
   (setO aa a9 (w64 (ab + ac))).bind fun ae=>
   some (.inl (ae,w64 (a9 - 1)))
  else
   some (.inr aa)
noncomputable def F_short_Heights (p0:Int) (p1:(List Int)):Option ((List Int) × Int):=
 (F_short_check p0 p1).bind fun r6=>
 if r6 != 0 then
  some (([]:(List Int)),r6)
 else
  (makeO p0 (0:Int)).bind fun a9=>
  Option.bind (α:=List Int) (
   (whileO (short_Heights_l1 p1) (a9,0)).bind fun aa=>
    some aa) fun ab=>
  Option.bind (α:=List Int) (
   (whileO (short_Heights_l2) (ab,w64 (p0 - 2))).bind fun ac=>
    some ac) fun ae=>
  some (ae,0)
def c_short_Heights_val (r:((List Int) × Int)) (x:Value):Value:=.tuple #[x,.int .i64 r.2]
def c_short_Heights_D (r:((List Int) × Int)) (x:Value):List Fact:=[fRep (rL (rI .i64)) x r.1]
theorem c_short_Heights (E:Nat→Prop) (w0:World) (p0:Int) (p1:(List Int)) (v1:Value) (r:((List Int) × Int)) (h:F_short_Heights p0 p1=some r) (S:St0 E [] w0 w0 [] [fRep (rL (rI .i64)) (v1) p1]) :
 Calls Try.prog 31 #[iv p0,v1] w0 (Ret (X:=Value) E [] w0 (c_short_Heights_val r) (fun _=>[]) (c_short_Heights_D r)):=by
 unfold F_short_Heights at h
 obtain ⟨ao,ap,_,rfl,_⟩:=S.know (i:=0) (e:=fRep (rL (rI .i64)) (v1) p1) d
 refine sEnter (args:=[iv p0,.slice ao p1.length ap]) 51 Try.func31 d d (by simp) S (fun a S=>?_)
 refine sSeq (fun K3 bp=>sRegion (sN S fun a S=>?_))
 refine sN S fun a S=>?_
 refine lT (bp _ _ (sSeq (fun K4 bq=>sSeq (fun K5 br=>sRegion (sM S fun a S=>?_)))))
 refine sM S fun a S=>?_
 obtain ⟨r6,bt,h⟩:=bS h
 have S1:=S.mem
 refine sCq [iv p0,.slice ao p1.length ap] (iv r6) S callee59 (S1.quiet [0] d) (fun E1 w1 S1=>c_short_check E1 w1 p0 p1 (.slice ao p1.length ap) r6 bt S1) fun a w S=>?_
 refine sN S fun a S=>?_
 refine lT (br _ _ (sSeq (fun K8 bu=>sRegion (sM S fun a S=>?_))))
 refine sBin _ S (wN d) d d d (bNe _ _ _ _ .i64 r6 0) d (lb d) fun a S=>lT (bu _ _ ?_)
 rcases iS h with ⟨ay,h⟩ | ⟨ay,h⟩
 ·refine sCondT S d ay (sSeq (fun bG az=>sRegion (sM S fun a S=>?_)))
  refine sN S fun a S=>?_
  refine sN S fun a S=>?_
  refine lT (az _ _ ?_)
  obtain rfl:=tS h
  have S:=S.learn (fRep (rL (rI .i64)) (.slice none 0 0) ([]:(List Int))) (rL_nil _ _ _)
  exact wp_ret (rThen (sRet (.tuple #[.slice none 0 0,iv r6]) S (rsl2 d (rvT (t:=4) (v:=.slice none 0 0) S d) (rvT (t:=5) (v:=iv r6) S d)) ⟨(.slice none 0 0),d,S.mem.sel [] [0] (by decide) d d⟩))
 refine sCondF S d ay (wp_skip (leafT (bq _ _ ?_)))
 refine sSeq (fun bH aA=>sRegion (sM S fun a S=>?_))
 obtain ⟨bv,aC,h⟩:=bS h
 refine sMake (r:=(rI .i64)) (m:=p0) (xs:=bv) (iv 0) (0:Int) 8 S (wN d) d Try.underlying34 d d (by decide) (fun _ _=>d) d d aC d (lb d) fun a w a9 aa S=>sN S fun a S=>?_
 refine lT (aA _ _ ?_)
 obtain ⟨bw,h,bx⟩:=bS h
 refine sCut (fun a w=>∃ ar,ar=bw∧St [] E [] w0 51 a w [(0,iv p0),(7,.slice a9 ar.length aa)] [eRow (rI .i64) 3 (.slice a9 ar.length aa) ar] []) ?_ (fun a w hI=>?_)
 ·refine sSeq (fun bI aG=>sRegion (sM S fun a S=>?_))
  refine sLen S (wN d) d Try.underlying34 d d (lb d) fun a S=>sM S fun a S=>?_
  refine lT (aG _ _ (wp_block ?_))
  obtain ⟨bJ,hl,bz⟩:=bS h
  refine sLoop hl (fun s0 a w=>match s0 with | (ae,aq)=>St [] E [] w0 51 a w [(0,iv p0),(7,.slice a9 ae.length aa),(19,.slice ao p1.length ap),(20,iv (p1.length:Int)),(21,iv aq)] [eRow (rI .i64) 3 (.slice a9 ae.length aa) ae] [fRep (rL (rI .i64)) (.slice ao p1.length ap) p1]) (S.fix [0] [0] (by decide) d d d) ?_
  clear hl h
  intro s0 a w c0 hI h aH
  obtain ⟨ae,aq⟩:=s0
  unfold short_Heights_l1 at h
  dsimp only at h hI
  have S:=hI
  refine sSeq (fun bK aI=>sRegion (sBin _ S (wN d) d d d (bLt _ _ _ _ .i64 aq (p1.length:Int)) d (lb d) fun a S=>lT (aI _ _ (sSeq (fun bL aJ=>?_)))))
  rcases iS h with ⟨aj,h⟩ | ⟨aj,h⟩
  rotate_left
  ·refine sCondF S d aj ?_
   obtain rfl:=tS h
   obtain rfl:=aH _ d
   have h:=bz
   try dsimp only at h
   exact wp_exit (xThen (xThen (xHit (leafT (⟨ae,Option.some.inj h,S.fix [0] [] (by decide) d d d⟩)))))
  refine sCondT S d aj (wp_skip (leafT (aJ _ _ ?_)))
  refine sSeq (fun bM aK=>wp_block ?_)
  refine sSeq (fun bN aL=>sRegion ?_)
  obtain ⟨ag,aM,h⟩:=bS h
  obtain ⟨bi,aO,S⟩:=pIdx (P:=Try.prog) (r:=(rI .i64)) (v:=.slice ao p1.length ap) (xs:=p1) (j:=aq) 34 3 0 S Try.underlying34 d d aM
  refine sIdxV S (wN d) d d d aO d (lb d) fun a S=>?_
  obtain ⟨bj,S⟩:=pLoad (r:=(rI .i64)) (q:=bi) (x:=ag) 0 S d
  obtain rfl:bj=iv ag:=S.mem.know (i:=1) (e:=fRep (rI .i64) (bj) ag) d
  refine sLoadV1 (vq:=bi) 0 (iv ag) S (wN d) d d d d d (lb d) fun a S=>sN S fun a S=>?_
  refine lT (aL _ _ (sRegion (sM S fun a S=>?_)))
  refine sM S fun a S=>?_
  refine sBin _ S (wN d) d d d (bSub _ _ _ _ ag 1) d (lb d) fun a S=>?_
  obtain ⟨au,ak,h⟩:=bS h
  obtain ⟨bA,aP,aQ⟩:=pIdxR (P:=Try.prog) (r:=(rI .i64)) (T:=3) (v:=.slice a9 ae.length aa) (xs:=ae) (j:=w64 (ag - 1)) 34 3 0 S Try.underlying34 d d ak
  refine sIdxV S (wN d) d d d aP d (lb d) fun a S=>sLoadR (r:=(rI .i64)) (T:=3) (xs:=ae) (x:=au) (v:=.slice a9 ae.length aa) (vq:=bA) (j:=w64 (ag - 1)) 0 (iv au) S aQ (wN d) d d d ak (fun _ _ _ h=>h) (scal_I _) d d (lb d) fun a S=>sBin _ S (wN d) d d d (bAdd _ _ _ _ au 1) d (lb d) fun a S=>?_
  obtain ⟨bB,aR,aS⟩:=pIdxR (P:=Try.prog) (r:=(rI .i64)) (T:=3) (v:=.slice a9 ae.length aa) (xs:=ae) (j:=w64 (ag - 1)) 34 3 0 S Try.underlying34 d d ak
  refine sIdxV S (wN d) d d d aR d (lb d) fun a S=>?_
  obtain ⟨bl,av,h⟩:=bS h
  refine sStoreR (r:=(rI .i64)) (T:=3) (xs:=ae) (ys:=bl) (y:=(w64 (au + 1))) (v:=.slice a9 ae.length aa) (vq:=bB) (u:=iv (w64 (au + 1))) (j:=w64 (ag - 1)) 0 S aS (wN d) d d d d d av d d fun a w S=>?_
  rw [setO_v av a9 aa] at S
  refine leafL (leafB (leafT (aK _ _ ?_)))
  refine sRegion (sBin _ S (wN d) d d d (bAdd _ _ _ _ aq 1) d (lb d) fun a S=>sM S fun a S=>?_)
  exact lT (⟨(bl,w64 (aq + 1)),(Option.some.inj h).symm,(S.fix [0] [3] (by decide) d d d)⟩)
 obtain ⟨ar,rfl,S⟩:=hI
 have h:=bx
 try dsimp only at h
 obtain ⟨bC,h,bD⟩:=bS h
 refine sCut (fun a w=>∃ af,af=bC∧St [] E [] w0 51 a w [(7,.slice a9 af.length aa)] [eRow (rI .i64) 3 (.slice a9 af.length aa) af] []) ?_ (fun a w hI=>?_)
 rotate_left
 ·obtain ⟨af,rfl,S⟩:=hI
  have h:=bD
  try dsimp only at h
  refine sSeq (fun bO aT=>sRegion (sM S fun a S=>?_))
  refine sN S fun a S=>?_
  refine sN S fun a S=>?_
  refine lT (aT _ _ ?_)
  obtain rfl:=tS h
  have S:=S.shutR (r:=(rI .i64)) (T:=3) (v:=.slice a9 af.length aa) (xs:=af) 0 d
  exact wp_ret (sRet (.tuple #[.slice a9 af.length aa,iv 0]) S (rsl2 d (rvT (t:=4) (v:=.slice a9 af.length aa) S d) (rvT (t:=5) (v:=iv 0) S d)) ⟨(.slice a9 af.length aa),d,S.mem.sel [] [0] (by decide) d d⟩)
 refine sSeq (fun bP aU=>sRegion (sM S fun a S=>?_))
 refine sBin _ S (wN d) d d d (bSub _ _ _ _ p0 2) d (lb d) fun a S=>sN S fun a S=>?_
 refine lT (aU _ _ (wp_block ?_))
 obtain ⟨bQ,hl,bE⟩:=bS h
 refine sLoop hl (fun s0 a w=>match s0 with | (ab,ac)=>St [] E [] w0 51 a w [(7,.slice a9 ab.length aa),(10,iv ac)] [eRow (rI .i64) 3 (.slice a9 ab.length aa) ab] []) (S.fix [0] [] (by decide) d d d) ?_
 clear hl h
 intro s0 a w c0 hI h aV
 obtain ⟨ab,ac⟩:=s0
 unfold short_Heights_l2 at h
 dsimp only at h hI
 have S:=hI
 refine sSeq (fun bR aW=>sSeq (fun bV aX=>sRegion (sM S fun a S=>?_)))
 refine sBin _ S (wN d) d d d (bGe _ _ _ _ .i64 ac 0) d (lb d) fun a S=>lT (aX _ _ ?_)
 rcases iS h with ⟨al,h⟩ | ⟨al,h⟩
 rotate_left
 ·refine sCondF S d al ?_
  obtain rfl:=tS h
  obtain rfl:=aV _ d
  have h:=bE
  try dsimp only at h
  exact wp_exit (xThen (xThen (xHit (leafT (⟨ab,Option.some.inj h,S.fix [0] [] (by decide) d d d⟩)))))
 refine sCondT S d al (wp_skip (leafT (aW _ _ ?_)))
 refine sSeq (fun bW aZ=>wp_block ?_)
 obtain ⟨ah,am,h⟩:=bS h
 obtain ⟨ai,aw,h⟩:=bS h
 obtain ⟨bm,ax,h⟩:=bS h
 obtain ⟨bn,b8,ba⟩:=pIdxR (P:=Try.prog) (r:=(rI .i64)) (T:=3) (v:=.slice a9 ab.length aa) (xs:=ab) (j:=ac) 34 3 0 S Try.underlying34 d d am
 obtain ⟨bo,bb,bc⟩:=pIdxR (P:=Try.prog) (r:=(rI .i64)) (T:=3) (v:=.slice a9 ab.length aa) (xs:=ab) (j:=w64 (ac + 1)) 34 3 0 S Try.underlying34 d d aw
 obtain ⟨bf,bg,bh⟩:=pIdxR (P:=Try.prog) (r:=(rI .i64)) (T:=3) (v:=.slice a9 ab.length aa) (xs:=ab) (j:=ac) 34 3 0 S Try.underlying34 d d am
 refine sDraw (nf:=[11]) (W:=[(0,39,.slice a9 ab.length aa),(1,40,iv ac),(2,41,bn),(3,42,iv ah),(4,43,.slice a9 ab.length aa),(5,44,iv ac),(6,45,iv (w64 (ac + 1))),(7,46,bo),(8,47,iv ai),(9,48,iv (w64 (ah + ai))),(10,49,bf)]) d S ?_
 refine node_by (A:=anc_short_Heights_0) 12 (by kernel_rfl) (by kernel_rfl) (by kernel_rfl) (by kernel_rfl) (by kernel_rfl) [0,1,2,3,4,5,6,7,8,9,10] (by kernel_rfl) (by decide) (by decide) (fF ?_ (fF ?_ (fF ?_ (fF ?_ (fF ?_ (fF ?_ (fF ?_ (fF ?_ (fF ?_ (fF ?_ (fF ?_ (fN ?_ (trivial))))))))))))) [] (fun q hq=>by cases hq) (fun hY=>absurd (hY 11 (by decide)) (by decide))
 ·exact fM 0 none d d d d (.inl d) d d d
 ·exact fM 1 none d d d d (.inl d) d d d
 ·refine fJ [(39,_),(40,_)] 2 [some 0,some 1] fun G a w S=>?_
  exact sIdxV S (wN d) d d d b8 d (lb d) fun a S=>leafL ⟨d,S⟩
 ·refine fJ [(41,_)] 3 [some 2] fun G a w S=>?_
  exact sLoadR (r:=(rI .i64)) (T:=3) (xs:=ab) (x:=ah) (v:=.slice a9 ab.length aa) (vq:=bn) (j:=ac) 0 (iv ah) S ba (wN d) d d d am (fun _ _ _ h=>h) (scal_I _) d d (lb d) fun a S=>leafL ⟨d,S⟩
 ·exact fM 4 none d d d d (.inl d) d d d
 ·exact fM 5 none d d d d (.inl d) d d d
 ·refine fJ [(44,_)] 6 [some 5] fun G a w S=>?_
  exact sBin _ S (wN d) d d d (bAdd _ _ _ _ ac 1) d (lb d) fun a S=>leafL ⟨d,S⟩
 ·refine fJ [(43,_),(45,_)] 7 [some 4,some 6] fun G a w S=>?_
  exact sIdxV S (wN d) d d d bb d (lb d) fun a S=>leafL ⟨d,S⟩
 ·refine fJ [(46,_)] 8 [some 7] fun G a w S=>?_
  exact sLoadR (r:=(rI .i64)) (T:=3) (xs:=ab) (x:=ai) (v:=.slice a9 ab.length aa) (vq:=bo) (j:=w64 (ac + 1)) 0 (iv ai) S bc (wN d) d d d aw (fun _ _ _ h=>h) (scal_I _) d d (lb d) fun a S=>leafL ⟨d,S⟩
 ·refine fJ [(42,_),(47,_)] 9 [some 3,some 8] fun G a w S=>?_
  exact sBin _ S (wN d) d d d (bAdd _ _ _ _ ah ai) d (lb d) fun a S=>leafL ⟨d,S⟩
 ·refine fJ [(39,_),(40,_)] 10 [some 0,some 1] fun G a w S=>?_
  exact sIdxV S (wN d) d d d bg d (lb d) fun a S=>leafL ⟨d,S⟩
 refine ⟨_,[(48,iv (w64 (ah + ai))),(49,bf)],d,(srcs_of [some 9,some 10] d d d),fun G a w S=>?_⟩
 refine sStoreR (r:=(rI .i64)) (T:=3) (xs:=ab) (ys:=bm) (y:=(w64 (ah + ai))) (v:=.slice a9 ab.length aa) (vq:=bf) (u:=iv (w64 (ah + ai))) (j:=ac) 0 S bh (wN d) d d d d d ax d d fun a w S=>leafL ⟨d,_,_,.inr ⟨[],d,S,hz_of d,?_⟩⟩
 refine node_by (A:=anc_short_Heights_0) 12 (by kernel_rfl) (by kernel_rfl) (by kernel_rfl) (by kernel_rfl) (by kernel_rfl) [0,1,2,3,4,5,6,7,8,9,10] (by kernel_rfl) (by decide) (by decide) (fD 11 (fD 11 (fD 11 (fD 11 (fD 11 (fD 11 (fD 11 (fD 11 (fD 11 (fD 11 (fD 11 (fY (trivial))))))))))))) [(7,.slice a9 ab.length aa),(10,iv ac)] (fin_of [none,none] d (by kernel_rfl) (by kernel_rfl)) (fun _ a w S=>?_)
 rw [setO_v ax a9 aa] at S
 refine leafB (leafT (aZ _ _ ?_))
 refine sRegion (sM S fun a S=>?_)
 refine sBin _ S (wN d) d d d (bSub _ _ _ _ ac 1) d (lb d) fun a S=>sN S fun a S=>?_
 exact lT (⟨(bm,w64 (ac - 1)),(Option.some.inj h).symm,(S.fix [0] [] (by decide) d d d)⟩)
noncomputable def short_Turns_l1 (p1:Int) (p0:Int):(List Int × Int)→Option ((List Int × Int) ⊕ List Int):=fun s0=>match s0 with
 | (aa,a9)=>
  if decide (a9 < p1) then
   (quoI (w64 ((w64 (p0 * (w64 ((w64 (2 * (w64 (p1 - a9)))) - 1)))) + p1)) (w64 (2 * p1))).bind fun ab=>
   (idxO aa a9).bind fun ae=>
   (setO aa a9 ab).bind fun ac=>
   some (.inl (ac,w64 (a9 + 1)))
  else
   some (.inr aa)
noncomputable def F_short_Turns (p0:Int) (p1:Int):Option ((List Int) × Int):=
 Option.bind (α:=Bool) (
  (F_short_within p0 1 200).bind fun r6=>
  if !r6 then
   some true
  else
   (F_short_within p1 0 (if (50:Int) < p0 then 50 else p0)).bind fun r9=>
   some (!r9)) fun o3=>
 if o3 then
  some (([]:(List Int)),2)
 else
  (makeO p1 (0:Int)).bind fun a9=>
  Option.bind (α:=List Int) (
   (whileO (short_Turns_l1 p1 p0) (a9,0)).bind fun aa=>
    some aa) fun ab=>
  some (ab,0)
def c_short_Turns_val (r:((List Int) × Int)) (x:Value):Value:=.tuple #[x,.int .i64 r.2]
def c_short_Turns_D (r:((List Int) × Int)) (x:Value):List Fact:=[fRep (rL (rI .i64)) x r.1]
theorem c_short_Turns (E:Nat→Prop) (w0:World) (p0:Int) (p1:Int) (r:((List Int) × Int)) (h:F_short_Turns p0 p1=some r) (S:St0 E [] w0 w0 [] []) :
 Calls Try.prog 29 #[iv p0,iv p1] w0 (Ret (X:=Value) E [] w0 (c_short_Turns_val r) (fun _=>[]) (c_short_Turns_D r)):=by
 unfold F_short_Turns at h
 refine sEnter (args:=[iv p0,iv p1]) 43 Try.func29 d d (by simp) S (fun a S=>?_)
 refine sSeq (fun K1 aI=>sRegion (sN S fun a S=>?_))
 refine sN S fun a S=>?_
 refine lT (aI _ _ (sSeq (fun K2 aJ=>?_)))
 obtain ⟨t4,h,g5⟩:=bS h
 refine sCut (fun a w=>∃ o3,o3=t4∧St [] E [] w0 43 a w [(0,iv p0),(1,iv p1),(18,.bool o3)] [] []) ?_ (fun a w hI=>?_)
 ·refine sRegion (sM S fun a S=>?_)
  obtain ⟨r6,aK,h⟩:=bS h
  have S1:=S.mem
  refine sCq [iv p0,iv 1,iv 200] (.bool r6) S callee58 (S1.quiet [] d) (fun E1 w1 S1=>c_short_within E1 w1 p0 1 200 r6 aK S1) fun a w S=>?_
  refine sNot (b:=r6) S (wN d) d d d (lb d) fun a S=>sM S fun a S=>?_
  rcases iS h with ⟨ae,h⟩ | ⟨ae,h⟩
  ·refine sSkN 5 3 false 12 S d d ae d fun a S=>sPickT (.bool true) S (wN d) d d ae d d (lb d) fun a S=>?_
   exact lT (⟨true,Option.some.inj h,S.fix [] [] (by decide) d d d⟩)
  refine sMove (iv p1) S (wG 3 false 12 d d d ae) (.inl d) d d (lb d) fun a S=>sMove (iv p0) S (wG 3 false 12 d d d ae) (.inl d) d d (lb d) fun a S=>sMin2 (p:=p0) (q:=50) S (wG 3 false 12 d d d ae) d d d d (lb d) fun a S=>?_
  obtain ⟨r9,aj,h⟩:=bS h
  have S1:=S.mem
  refine sCallQ (X:=Unit) (f:=58) (vs:=[iv p1,iv 0,iv (if (50:Int) < p0 then 50 else p0)]) (val:=fun _=>.bool r9) S (wG 3 false 12 d d d ae) d callee58 d (S1.quiet [] d) (fun E1 w1 S1=>c_short_within E1 w1 p1 0 (if (50:Int) < p0 then 50 else p0) r9 aj S1) d (lb d) fun _ a w S=>?_
  refine sNot (b:=r9) S (wG 3 false 12 d d d ae) d d d (lb d) fun a S=>sPickF (.bool (!r9)) S (wN d) d d ae d d (lb d) fun a S=>?_
  exact lT (⟨!r9,Option.some.inj h,S.fix [] [] (by decide) d d d⟩)
 obtain ⟨o3,rfl,S⟩:=hI
 have h:=g5
 try dsimp only at h
 rcases iS h with ⟨ag,h⟩ | ⟨ag,h⟩
 ·refine sCondT S d ag (sSeq (fun aR ak=>sRegion (sN S fun a S=>?_)))
  refine sN S fun a S=>?_
  refine lT (ak _ _ ?_)
  obtain rfl:=tS h
  have S:=S.learn (fRep (rL (rI .i64)) (.slice none 0 0) ([]:(List Int))) (rL_nil _ _ _)
  exact wp_ret (rThen (sRet (.tuple #[.slice none 0 0,iv 2]) S (rsl2 d (rvT (t:=4) (v:=.slice none 0 0) S d) (rvT (t:=5) (v:=iv 2) S d)) ⟨(.slice none 0 0),d,S.mem.sel [] [0] (by decide) d d⟩))
 refine sCondF S d ag (wp_skip (leafT (aJ _ _ ?_)))
 refine sSeq (fun aS al=>sRegion (sM S fun a S=>?_))
 obtain ⟨aL,am,h⟩:=bS h
 refine sMake (r:=(rI .i64)) (m:=p1) (xs:=aL) (iv 0) (0:Int) 8 S (wN d) d Try.underlying34 d d (by decide) (fun _ _=>d) d d am d (lb d) fun a w a9 aa S=>sN S fun a S=>?_
 refine lT (al _ _ ?_)
 obtain ⟨aM,h,aO⟩:=bS h
 refine sCut (fun a w=>∃ ac,ac=aM∧St [] E [] w0 43 a w [(6,.slice a9 ac.length aa)] [eRow (rI .i64) 3 (.slice a9 ac.length aa) ac] []) ?_ (fun a w hI=>?_)
 rotate_left
 ·obtain ⟨ac,rfl,S⟩:=hI
  have h:=aO
  try dsimp only at h
  refine sSeq (fun aT ao=>sRegion (sM S fun a S=>?_))
  refine sN S fun a S=>?_
  refine sN S fun a S=>?_
  refine lT (ao _ _ ?_)
  obtain rfl:=tS h
  have S:=S.shutR (r:=(rI .i64)) (T:=3) (v:=.slice a9 ac.length aa) (xs:=ac) 0 d
  exact wp_ret (sRet (.tuple #[.slice a9 ac.length aa,iv 0]) S (rsl2 d (rvT (t:=4) (v:=.slice a9 ac.length aa) S d) (rvT (t:=5) (v:=iv 0) S d)) ⟨(.slice a9 ac.length aa),d,S.mem.sel [] [0] (by decide) d d⟩)
 refine sSeq (fun aU ap=>sRegion (sM S fun a S=>?_))
 refine sM S fun a S=>?_
 refine lT (ap _ _ (wp_block ?_))
 obtain ⟨aV,hl,aP⟩:=bS h
 refine sLoop hl (fun s0 a w=>match s0 with | (af,ab)=>St [] E [] w0 43 a w [(0,iv p0),(1,iv p1),(6,.slice a9 af.length aa),(21,iv p1),(22,iv ab)] [eRow (rI .i64) 3 (.slice a9 af.length aa) af] []) (S.fix [0] [] (by decide) d d d) ?_
 clear hl h
 intro s0 a w c0 hI h aq
 obtain ⟨af,ab⟩:=s0
 unfold short_Turns_l1 at h
 dsimp only at h hI
 have S:=hI
 refine sSeq (fun aW ar=>sRegion (sBin _ S (wN d) d d d (bLt _ _ _ _ .i64 ab p1) d (lb d) fun a S=>lT (ar _ _ (sSeq (fun aX au=>?_)))))
 rcases iS h with ⟨ah,h⟩ | ⟨ah,h⟩
 rotate_left
 ·refine sCondF S d ah ?_
  obtain rfl:=tS h
  obtain rfl:=aq _ d
  have h:=aP
  try dsimp only at h
  exact wp_exit (xThen (xThen (xHit (leafT (⟨af,Option.some.inj h,S.fix [0] [] (by decide) d d d⟩)))))
 refine sCondT S d ah (wp_skip (leafT (au _ _ ?_)))
 refine sSeq (fun aZ av=>wp_block ?_)
 refine sSeq (fun b8 aw=>sRegion (sM S fun a S=>?_))
 refine sN S fun a S=>?_
 refine lT (aw _ _ (sSeq (fun ba ax=>sRegion (sM S fun a S=>?_))))
 refine sM S fun a S=>?_
 refine sBin _ S (wN d) d d d (bSub _ _ _ _ p1 ab) d (lb d) fun a S=>sBin _ S (wN d) d d d (bMul _ _ _ _ 2 (w64 (p1 - ab))) d (lb d) fun a S=>sBin _ S (wN d) d d d (bSub _ _ _ _ (w64 (2 * (w64 (p1 - ab)))) 1) d (lb d) fun a S=>sN S fun a S=>?_
 refine lT (ax _ _ (sRegion (sM S fun a S=>?_)))
 refine sM S fun a S=>?_
 refine sM S fun a S=>?_
 refine sM S fun a S=>?_
 refine sBin _ S (wN d) d d d (bMul _ _ _ _ p0 (w64 ((w64 (2 * (w64 (p1 - ab)))) - 1))) d (lb d) fun a S=>sM S fun a S=>?_
 refine sBin _ S (wN d) d d d (bAdd _ _ _ _ (w64 (p0 * (w64 ((w64 (2 * (w64 (p1 - ab)))) - 1)))) p1) d (lb d) fun a S=>sM S fun a S=>?_
 refine sBin _ S (wN d) d d d (bMul _ _ _ _ 2 p1) d (lb d) fun a S=>?_
 obtain ⟨aG,ay,h⟩:=bS h
 refine sBin _ S (wN d) d d d (bQuo _ _ _ _ (x:=w64 ((w64 (p0 * (w64 ((w64 (2 * (w64 (p1 - ab)))) - 1)))) + p1)) (y:=w64 (2 * p1)) ay) d (lb d) fun a S=>?_
 obtain ⟨bb,az,h⟩:=bS h
 obtain ⟨aQ,aA,aC⟩:=pIdxR (P:=Try.prog) (r:=(rI .i64)) (T:=3) (v:=.slice a9 af.length aa) (xs:=af) (j:=ab) 34 3 0 S Try.underlying34 d d az
 refine sIdxV S (wN d) d d d aA d (lb d) fun a S=>?_
 obtain ⟨aH,ai,h⟩:=bS h
 refine sStoreR (r:=(rI .i64)) (T:=3) (xs:=af) (ys:=aH) (y:=aG) (v:=.slice a9 af.length aa) (vq:=aQ) (u:=iv aG) (j:=ab) 0 S aC (wN d) d d d d d ai d d fun a w S=>?_
 rw [setO_v ai a9 aa] at S
 refine leafL (leafB (leafT (av _ _ ?_)))
 refine sRegion (sBin _ S (wN d) d d d (bAdd _ _ _ _ ab 1) d (lb d) fun a S=>sM S fun a S=>?_)
 exact lT (⟨(aH,w64 (ab + 1)),(Option.some.inj h).symm,(S.fix [0] [] (by decide) d d d)⟩)
end Go.Proofs.Ytnfjcalmangncaa
