/- PieceNames: walks, tables, laws. -/
import Derived.Test.YtmedbnjhgkcndaaDoorProg
import Derived.Test.YtmedbnjhgkcndaaDoorRows
import Derived.Test.YtmedbnjhgkcndaaDoorCards
import Derived.Test.YtmedbnjhgkcndaaDoorTie
import Derived.Test.YtmedbnjhgkcndaaDoorMPieceNames2
set_option linter.unusedVariables false
set_option linter.unusedSimpArgs false
set_option maxHeartbeats 4000000
set_option maxRecDepth 100000
namespace Go.Proofs.YtmedbnjhgkcndaaDoor
open Go.RowKit
noncomputable def stitch_Turn_l2 :List api_Stitch→(Int × api_Stitch)→Option (List api_Stitch ⊕ Empty):=fun s0 x0=>match s0,x0 with
 | a7,(ae,a2)=>
  (F_stitch_forms a2.Kind).bind fun a6=>
  Option.bind (α:=Bool) (
   if a6.1.sided then
    some (!a2.Purl)
   else
    some false) fun a8=>
  Option.bind (α:=(Int × Int)) (
   if decide (0 < a6.1.b.2) then
    some (a2.B,a2.A)
   else
    some (a2.A,a2.B)) fun (aa,ab)=>
  (appO a7 [(api_Stitch.mk a2.Kind a8 aa ab)]).bind fun ac=>
  some (.inl ac)
noncomputable def F_stitch_Turn (p0:(List api_Stitch)):Option ((List api_Stitch) × Int):=
 (F_stitch_All p0).bind fun r6=>
 if r6 != 0 then
  some (([]:(List api_Stitch)),r6)
 else
  (capO (p0.length:Int)).bind fun a7=>
  (F_slices_Backward___api_Stitch_api_Stitch_ p0).bind fun a2=>
  (I_slices_Backward___api_Stitch_api_Stitch__1 a2 _ _ (stitch_Turn_l2) ([]:List api_Stitch)).bind fun z0=>match z0 with
   | .inl a6=>
    some (a6,0)
   | .inr z0=>
    nomatch z0
def c_stitch_Turn_val (r:((List api_Stitch) × Int)) (x:Value):Value:=.tuple #[x,.int .i64 r.2]
def c_stitch_Turn_D (r:((List api_Stitch) × Int)) (x:Value):List Fact:=[fRep (rL r_api_Stitch) x r.1]
theorem c_stitch_Turn (E:Nat→Prop) (w0:World) (p0:(List api_Stitch)) (v0:Value) (r:((List api_Stitch) × Int)) (h:F_stitch_Turn p0=some r) (S:St0 E [] w0 w0 [] [fRep (rL r_api_Stitch) (v0) p0]) :
 Calls Tryd.prog 39 #[v0] w0 (Ret (X:=Value) E [] w0 (c_stitch_Turn_val r) (fun _=>[]) (c_stitch_Turn_D r)):=by
 unfold F_stitch_Turn at h
 obtain ⟨au,av,_,rfl,_⟩:=S.know (i:=0) (e:=fRep (rL r_api_Stitch) (v0) p0) d
 refine sEnterM (args:=[.slice au p0.length av]) 51 Tryd.func39 d d (by simp) S (fun a S=>?_)
 refine sSeq (fun K3 aW=>sRegion (sN S fun a S=>?_))
 refine sN S fun a S=>?_
 refine lT (aW _ _ (sSeq (fun K4 aX=>sSeq (fun K5 aZ=>sRegion (sM S fun a S=>?_)))))
 obtain ⟨r6,b0,h⟩:=bS h
 have S1:=S.mem
 refine sCq [.slice au p0.length av] (iv r6) S callee40 (S1.quiet [0] d) (fun E1 w1 S1=>c_stitch_All E1 w1 p0 (.slice au p0.length av) r6 b0 S1) fun a w S=>?_
 refine sN S fun a S=>?_
 refine lT (aZ _ _ (sSeq (fun K8 b1=>sRegion (sM S fun a S=>?_))))
 refine sBin _ S (wN d) d d d (bNe _ _ _ _ .i64 r6 0) d (lb d) fun a S=>lT (b1 _ _ ?_)
 rcases iS h with ⟨ay,h⟩ | ⟨ay,h⟩
 ·refine sCondT S d ay (sSeq (fun bg az=>sRegion (sM S fun a S=>?_)))
  refine sN S fun a S=>?_
  refine sN S fun a S=>?_
  refine lT (az _ _ ?_)
  obtain rfl:=tS h
  have S:=S.learn (fRep (rL r_api_Stitch) (.slice none 0 0) ([]:(List api_Stitch))) (rL_nil _ _ _)
  exact wp_ret (rThen (sRetM0 (.tuple #[.slice none 0 0,iv r6]) S (rsl2 d (rvT (t:=2) (v:=.slice none 0 0) S d) (rvT (t:=3) (v:=iv r6) S d)) ⟨(.slice none 0 0),d,S.mem.sel [] [0] (by decide) d d⟩))
 refine sCondF S d ay (wp_skip (leafT (aX _ _ ?_)))
 refine sSeq (fun bh aA=>sRegion (sM S fun a S=>?_))
 refine sLen S (wN d) d Tryd.underlying52 d d (lb d) fun a S=>?_
 obtain ⟨b8,aC,h⟩:=bS h
 refine sMake0 r_api_Stitch (m:=(p0.length:Int)) (u:=b8) (.agg #[.int .u8 0,.bool false,iv 0,iv 0]) 24 S (wN d) d Tryd.underlying52 d (by decide) d d aC d (lb d) fun a w ae af S=>?_
 refine sAlloc (.slice none 0 0) S (wN d) d d [.slice none 0 0] d d (lb d) fun a aj w S=>sStore (p:=aj) (off:=0) (T:=52) (vs:=[.slice none 0 0]) (v:=.slice ae ([]:List api_Stitch).length af) 0 [.slice ae ([]:List api_Stitch).length af] S (wN d) d d d d d d d (by simp) d fun a w S=>lT (aA _ _ (sSeq (fun bi aG=>sSeq (fun bj aH=>sRegion (sM S fun a S=>?_)))))
 obtain ⟨al,aI,h⟩:=bS h
 refine sCall (X:=Value) (f:=51) (vs:=[.slice au p0.length av]) (val:=c_slices_Backward___api_Stitch_api_Stitch__val al) (B':=fun _=>[]) (D':=c_slices_Backward___api_Stitch_api_Stitch__D al) [] [eBox aj 52 [.slice ae ([]:List api_Stitch).length af],eRow r_api_Stitch 56 (.slice ae ([]:List api_Stitch).length af) ([]:List api_Stitch)] [fRep (rL r_api_Stitch) (.slice au p0.length av) p0] [0,1] [0] S (wN d) d callee51 d (by decide) d d (fun E1 w1 S1=>c_slices_Backward___api_Stitch_api_Stitch_ E1 w1 p0 (.slice au p0.length av) al aI S1) d (lb d) fun ak a w S=>?_
 refine lT (aH _ _ (wp_block ?_))
 obtain ⟨bl,am,ax⟩:=bS h
 replace S:St [] E [] w0 51 a w [(5,.pointer (some ⟨aj,0,none⟩)),(19,.func (.func 67) #[] #[ak])] [eBox aj 52 [.slice ae ([]:List api_Stitch).length af],eRow r_api_Stitch 56 (.slice ae ([]:List api_Stitch).length af) ([]:List api_Stitch)] [fPtr (rL r_api_Stitch) (ak) al]:=S.fix [0,1] [0] (by decide) rfl rfl rfl
 refine sRange2 (B:=stitch_Turn_l2) (fun s0 L D=>match s0 with | a8=>∃ a6,∃ a7,L=[eBox aj 52 [.slice a6 a8.length a7],eRow r_api_Stitch 56 (.slice a6 a8.length a7) a8]∧D=[fPtr (rL r_api_Stitch) (ak) al]) (fun _ _ _ _=>False) [0] S am d callee67 (it_slices_Backward___api_Stitch_api_Stitch__1 al ak) d (by decide) (by decide) ⟨ae,af,d,d⟩ ?_ ?_ ?_
 ·intro E l0 a8 aS a2 aT aU b L D K a w0 hK hIL hB S
  clear am ax h hK
  unfold stitch_Turn_l2 at hB
  dsimp only at hB hIL
  obtain ⟨a6,a7,rfl,rfl⟩:=hIL
  have h:=hB
  clear hB
  obtain rfl:aT=iv aS:=S.mem.know (i:=0) (e:=fRep (rI .i64) (aT) aS) d
  obtain rfl:aU=.agg #[.int .u8 a2.Kind,.bool a2.Purl,iv a2.A,iv a2.B]:=S.mem.know (i:=1) (e:=fRep r_api_Stitch (aU) a2) d
  refine sRegionR (by repeat (first | exact roundU_out | exact it_out | exact lo_false | refine lo_then ?_ | refine lo_block ?_)) d ?_
  refine sAlloc (.agg #[.int .u8 0,.bool false,iv 0,iv 0]) S (wN d) d d [.int .u8 0,.bool false,iv 0,iv 0] d d (lb d) fun a ab w S=>sStore (p:=ab) (off:=0) (T:=56) (vs:=[.int .u8 0,.bool false,iv 0,iv 0]) (v:=.agg #[.int .u8 a2.Kind,.bool a2.Purl,iv a2.A,iv a2.B]) 0 [.int .u8 a2.Kind,.bool a2.Purl,iv a2.A,iv a2.B] S (wN d) d d d d d d d (by simp) d fun a w S=>lT (⟨_,_,_,S,fun K a w0 hK S=>?_⟩)
  refine wpIn_block ?_
  refine sSeqR (fun bm aJ=>sRegionR (by repeat (first | exact roundU_out | exact it_out | exact lo_false | refine lo_then ?_ | refine lo_block ?_)) d ?_)
  refine sField (b:=ab) (off:=0) 0 0 S (wN d) d d d d d (lb d) fun a S=>sLoad1 0 (.int .u8 a2.Kind) S (wN d) d d d d d d (lb d) fun a S=>?_
  obtain ⟨aa,aK,h⟩:=bS h
  refine sCall (X:=Value) (f:=52) (vs:=[.int .u8 a2.Kind]) (val:=c_stitch_forms_val aa) (B':=fun _=>[]) (D':=c_stitch_forms_D aa) [] [eBox ab 56 [.int .u8 a2.Kind,.bool a2.Purl,iv a2.A,iv a2.B],eBox aj 52 [.slice a6 a8.length a7],eRow r_api_Stitch 56 (.slice a6 a8.length a7) a8] [] [0,1,2] [] S (wN d) d callee52 d (by decide) d d (fun E1 w1 S1=>c_stitch_forms E1 w1 a2.Kind aa aK S1) d (lb d) fun aV a w S=>?_
  obtain rfl:aV=gv_stitch_form aa.1:=S.mem.know (i:=0) (e:=fRep r_stitch_form (aV) aa.1) d
  refine sM S fun a S=>?_
  refine sExtract (vs:=[gv_stitch_form aa.1,.bool aa.2]) (gv_stitch_form aa.1) S (wN d) d d d d (lb d) fun a S=>sExtract (vs:=[gv_stitch_form aa.1,.bool aa.2]) (.bool aa.2) S (wN d) d d d d (lb d) fun a S=>sAlloc (gv_stitch_form (stitch_form.mk (⟨#[]⟩:ByteArray) (0,0) (0,0) false 0 0)) S (wN d) d d (gl_stitch_form (stitch_form.mk (⟨#[]⟩:ByteArray) (0,0) (0,0) false 0 0)) d d (lb d) fun a aw w S=>sStore (p:=aw) (off:=0) (T:=100) (vs:=[.string (⟨#[]⟩:ByteArray),iv 0,iv 0,iv 0,iv 0,.bool false,iv 0,iv 0]) (v:=gv_stitch_form aa.1) 0 [.string aa.1.letter,iv aa.1.a.1,iv aa.1.a.2,iv aa.1.b.1,iv aa.1.b.2,.bool aa.1.sided,iv aa.1.uses,iv aa.1.made] S (wN d) d d d d d d d (by simp) d fun a w S=>sN S fun a S=>?_
  refine lT (aJ _ _ ?_)
  obtain ⟨ba,h,bb⟩:=bS h
  refine sCutR (fun a w=>∃ ac,ac=ba∧St [] E K w0 51 a w [(5,.pointer (some ⟨aj,0,none⟩)),(7,.pointer (some ⟨ab,0,none⟩)),(8,.pointer (some ⟨aw,0,none⟩)),(19,.func (.func 67) #[] #[ak]),(21,.agg #[.int .u8 a2.Kind,.bool a2.Purl,iv a2.A,iv a2.B])] [eBox aj 52 [.slice a6 a8.length a7],eBox ab 56 [.int .u8 a2.Kind,.bool ac,iv a2.A,iv a2.B],eBox aw 100 (gl_stitch_form aa.1),eRow r_api_Stitch 56 (.slice a6 a8.length a7) a8] [fPtr (rL r_api_Stitch) (ak) al]) ?_ (fun a w hI=>?_)
  ·refine sRegionR (by repeat (first | exact roundU_out | exact it_out | exact lo_false | refine lo_then ?_ | refine lo_block ?_)) d ?_
   refine sField (b:=aw) (off:=0) 5 5 S (wN d) d d d d d (lb d) fun a S=>sLoad1 0 (.bool aa.1.sided) S (wN d) d d d d d d (lb d) fun a S=>sM S fun a S=>?_
   rcases iS h with ⟨ag,h⟩ | ⟨ag,h⟩
   rotate_left
   ·refine sSkN 3 2 true 30 S d d ag d fun a S=>sPickF (.bool false) S (wN d) d d ag d d (lb d) fun a S=>sField (b:=ab) (off:=0) 1 1 S (wN d) d d d d d (lb d) fun a S=>sStore (p:=ab) (off:=1) (T:=56) (vs:=[.int .u8 a2.Kind,.bool a2.Purl,iv a2.A,iv a2.B]) (v:=.bool false) 1 [.bool false] S (wN d) d d d d d d d (by simp) d fun a w S=>?_
    exact lT (⟨false,Option.some.inj h,S.fix [2,0,1,3] [3] (by decide) d d d⟩)
   refine sField (b:=ab) (off:=0) 1 1 S (wG 2 true 30 d d d ag) d d d d d (lb d) fun a S=>sLoad1 1 (.bool a2.Purl) S (wG 2 true 30 d d d ag) d d d d d d (lb d) fun a S=>sNot (b:=a2.Purl) S (wG 2 true 30 d d d ag) d d d (lb d) fun a S=>sPickT (.bool (!a2.Purl)) S (wN d) d d ag d d (lb d) fun a S=>sField (b:=ab) (off:=0) 1 1 S (wN d) d d d d d (lb d) fun a S=>sStore (p:=ab) (off:=1) (T:=56) (vs:=[.int .u8 a2.Kind,.bool a2.Purl,iv a2.A,iv a2.B]) (v:=.bool (!a2.Purl)) 1 [.bool (!a2.Purl)] S (wN d) d d d d d d d (by simp) d fun a w S=>?_
   exact lT (⟨!a2.Purl,Option.some.inj h,S.fix [2,0,1,3] [3] (by decide) d d d⟩)
  obtain ⟨ac,rfl,S⟩:=hI
  have h:=bb
  try dsimp only at h
  obtain ⟨bc,h,bf⟩:=bS h
  refine sCutR (fun a w=>∃ ah,∃ ai,(ah,ai)=bc∧St [] E K w0 51 a w [(5,.pointer (some ⟨aj,0,none⟩)),(7,.pointer (some ⟨ab,0,none⟩)),(19,.func (.func 67) #[] #[ak]),(21,.agg #[.int .u8 a2.Kind,.bool a2.Purl,iv a2.A,iv a2.B])] [eBox aj 52 [.slice a6 a8.length a7],eBox ab 56 [.int .u8 a2.Kind,.bool ac,iv ah,iv ai],eRow r_api_Stitch 56 (.slice a6 a8.length a7) a8] [fPtr (rL r_api_Stitch) (ak) al]) ?_ (fun a w hI=>?_)
  rotate_left
  ·obtain ⟨ah,ai,rfl,S⟩:=hI
   have h:=bf
   try dsimp only at h
   refine sRegionR (by repeat (first | exact roundU_out | exact it_out | exact lo_false | refine lo_then ?_ | refine lo_block ?_)) d ?_
   refine sLoad1 0 (.slice a6 a8.length a7) S (wN d) d d d d d d (lb d) fun a S=>sLoadN (p:=ab) (off:=0) (T:=56) (vs:=[.int .u8 a2.Kind,.bool ac,iv ah,iv ai]) 1 [.int .u8 a2.Kind,.bool ac,iv ah,iv ai] S (wN d) d d d d d d d (lb d) fun a S=>?_
   have S:=S.learn (fRep r_api_Stitch (.agg #[.int .u8 a2.Kind,.bool ac,iv ah,iv ai]) (api_Stitch.mk a2.Kind ac ah ai)) d
   refine sLit (r:=r_api_Stitch) (T:=56) (xs:=[(api_Stitch.mk a2.Kind ac ah ai)]) [(0,.agg #[.int .u8 a2.Kind,.bool ac,iv ah,iv ai])] 1 [.agg #[.int .u8 a2.Kind,.bool ac,iv ah,iv ai]] [.int .u8 a2.Kind,.bool ac,iv ah,iv ai] (.agg #[.int .u8 0,.bool false,iv 0,iv 0]) 24 S (wN d) d d Tryd.underlying52 d (by decide) (by decide) (by kernel_rfl) d (fun E1 w1 hE=>All.cons (r_api_Stitch.mono hE (S.mem.know (i:=0) (e:=fRep r_api_Stitch (.agg #[.int .u8 a2.Kind,.bool ac,iv ah,iv ai]) (api_Stitch.mk a2.Kind ac ah ai)) d)) (All.nil _ _ _)) d d (lb d) fun a w aL aM S=>?_
   obtain ⟨aO,aP,h⟩:=bS h
   refine sApp (r:=r_api_Stitch) (T:=56) (xs:=a8) (ys:=[(api_Stitch.mk a2.Kind ac ah ai)]) (v:=.slice a6 a8.length a7) (u:=.slice aL [(api_Stitch.mk a2.Kind ac ah ai)].length aM) 3 (.agg #[.int .u8 0,.bool false,iv 0,iv 0]) 24 S (wN d) d Tryd.underlying52 d d (by decide) d d d (src_R (T:=56) 0 S.mem d) aP d (lb d) fun a w ao ap S=>sStore (p:=aj) (off:=0) (T:=52) (vs:=[.slice a6 a8.length a7]) (v:=.slice ao aO.length ap) 2 [.slice ao aO.length ap] S (wN d) d d d d d d d (by simp) d fun a w S=>?_
   exact leafL (leafB (rnN aO _ _ [] (Option.some.inj h) ⟨ao,ap,d,d⟩ (S.fix [0,1] [1] (by decide) d d d)))
  refine sSeqR (fun bn aQ=>sRegionR (by repeat (first | exact roundU_out | exact it_out | exact lo_false | refine lo_then ?_ | refine lo_block ?_)) d ?_)
  refine sField (b:=aw) (off:=0) 3 3 S (wN d) d d d d d (lb d) fun a S=>sIdxV S (wN d) d d d (idxV_arr (m:=2) (sz:=1) Tryd.underlying61 d (by decide) (by decide) 3) d (lb d) fun a S=>sLoad1 2 (iv aa.1.b.2) S (wN d) d d d d d d (lb d) fun a S=>sBin _ S (wN d) d d d (bGt _ _ _ _ .i64 aa.1.b.2 0) d (lb d) fun a S=>lT (aQ _ _ ?_)
  rcases iS h with ⟨aq,h⟩ | ⟨aq,h⟩
  rotate_left
  ·refine sCondFR S d aq ?_
   exact wpIn_skip (leafT (⟨a2.A,a2.B,Option.some.inj h,S.fix [0,1,3] [0] (by decide) d d d⟩))
  refine sCondTR S d aq ?_
  refine sRegionR (by repeat (first | exact roundU_out | exact it_out | exact lo_false | refine lo_then ?_ | refine lo_block ?_)) d ?_
  refine sField (b:=ab) (off:=0) 3 3 S (wN d) d d d d d (lb d) fun a S=>sLoad1 1 (iv a2.B) S (wN d) d d d d d d (lb d) fun a S=>sField (b:=ab) (off:=0) 2 2 S (wN d) d d d d d (lb d) fun a S=>sLoad1 1 (iv a2.A) S (wN d) d d d d d d (lb d) fun a S=>sField (b:=ab) (off:=0) 2 2 S (wN d) d d d d d (lb d) fun a S=>sStore (p:=ab) (off:=2) (T:=56) (vs:=[.int .u8 a2.Kind,.bool ac,iv a2.A,iv a2.B]) (v:=iv a2.B) 1 [iv a2.B] S (wN d) d d d d d d d (by simp) d fun a w S=>sField (b:=ab) (off:=0) 3 3 S (wN d) d d d d d (lb d) fun a S=>sStore (p:=ab) (off:=3) (T:=56) (vs:=[.int .u8 a2.Kind,.bool ac,iv a2.B,iv a2.B]) (v:=iv a2.A) 0 [iv a2.A] S (wN d) d d d d d d d (by simp) d fun a w S=>?_
  exact lT (⟨a2.B,a2.A,Option.some.inj h,S.fix [1,0,3] [0] (by decide) d d d⟩)
 ·intro ar a8 L D a w hr hIL S
  clear h
  obtain rfl:=hr
  dsimp only at ax hIL
  obtain ⟨a6,a7,rfl,rfl⟩:=hIL
  have h:=ax
  clear ax am
  replace S:St [mark ar] E [] w0 51 a w [(5,.pointer (some ⟨aj,0,none⟩)),(19,.func (.func 67) #[] #[ak])] [eBox aj 52 [.slice a6 a8.length a7],eRow r_api_Stitch 56 (.slice a6 a8.length a7) a8,eDef ar] [fPtr (rL r_api_Stitch) (ak) al]:=S
  refine leafB (leafT (aG _ _ ?_))
  refine sSeq (fun bo aR=>sRegion (sLoad1 0 (.slice a6 a8.length a7) S (wN d) d d d d d d (lb d) fun a S=>sN S fun a S=>?_))
  refine sN S fun a S=>?_
  refine lT (aR _ _ (wp_ret (sRetM1 2 S d (fun a w S=>?_))))
  obtain rfl:=tS h
  have S:=S.shutR (r:=r_api_Stitch) (T:=56) (v:=.slice a6 a8.length a7) (xs:=a8) 1 d
  exact sFin (.tuple #[.slice a6 a8.length a7,iv 0]) S (rsl2 d (rvT (t:=2) (v:=.slice a6 a8.length a7) S d) (rvT (t:=3) (v:=iv 0) S d)) ⟨(.slice a6 a8.length a7),d,S.mem.sel [] [0] (by decide) d d⟩
 ·intro ar c0 t0 L D a w hr hIX S
  clear h
  exact hIX.elim
def anc_piece_Chart_0:List (List Nat):=[[],[0],[0,1],[0,1,2],[],[4],[4,5],[4,5,6],[0,1,2,3,4,5,6,7],[0,1,2,3,4,5,6,7,8],[],[0,1,2,3,4,5,6,7,8,9,10]]
def anc_piece_Chart_1:List (List Nat):=[[],[0],[],[0,1,2],[0,1,2,3],[],[5],[],[7],[5,6,7,8],[5,6,7,8,9],[0,1,2,3,4,5,6,7,8,9,10],[0,1,2,3,4,5,6,7,8,9,10,11],[],[0,1,2,3,4,5,6,7,8,9,10,11,12,13]]
def anc_piece_Chart_2:List (List Nat):=[[],[0],[],[2],[0,1,2,3],[0,1,2,3,4],[],[6],[],[6,7,8],[6,7,8,9],[0,1,2,3,4,5,6,7,8,9,10],[0,1,2,3,4,5,6,7,8,9,10,11],[],[0,1,2,3,4,5,6,7,8,9,10,11,12,13]]
def anc_piece_Chart_3:List (List Nat):=[[],[0],[],[2],[0,1,2,3],[0,1,2,3,4],[],[6],[],[8],[6,7,8,9],[6,7,8,9,10],[0,1,2,3,4,5,6,7,8,9,10,11],[],[13],[0,1,2,3,4,5,6,7,8,9,10,11,12,13,14],[],[16],[0,1,2,3,4,5,6,7,8,9,10,11,12,13,14,15,16,17],[0,1,2,3,4,5,6,7,8,9,10,11,12,13,14,15,16,17,18]]
noncomputable def piece_Chart_l1 (a8:Int) (aa:Int) (ab:piece_edge) (ac:piece_edge):(List api_Stitch × Int)→Option ((List api_Stitch × Int) ⊕ List api_Stitch):=fun s0=>match s0 with
 | (a2,a6)=>
  if decide (a6 < (w64 ((w64 ((w64 (a8 - aa)) - ab.uses)) - ac.uses))) then
   (appO a2 [(api_Stitch.mk 1 false 0 0)]).bind fun a7=>
   some (.inl (a7,w64 (a6 + 1)))
  else
   some (.inr a2)
noncomputable def piece_Chart_l2 (p0:api_Piece):(Int × List api_Row)→Option ((Int × List api_Row) ⊕ ((api_Chart × Int) ⊕ (List api_Row))):=fun s0=>match s0 with
 | (a2,am)=>
  if decide (a2 < (p0.Left.length:Int)) then
   Option.bind (α:=List api_Row ⊕ (api_Chart × Int)) (
    (idxO p0.Right a2).bind fun ao=>
    (idxO p0.Right (w64 (a2 - 1))).bind fun ac=>
    (F_piece_bend (w64 (ao - ac)) 3).bind fun aa=>
    (idxO p0.Left (w64 (a2 - 1))).bind fun ae=>
    (idxO p0.Left a2).bind fun ap=>
    (F_piece_bend (w64 (ae - ap)) 4).bind fun ab=>
    if decide ((w64 ((w64 ((w64 (ac - ae)) - aa.uses)) - ab.uses)) < 1) then
     some (.inr ((api_Chart.mk 0 ([]:(List api_Row))),22))
    else
     Option.bind (α:=List api_Stitch) (
      if aa.s.Kind != 0 then
       (appO ([]:List api_Stitch) [aa.s]).bind fun af=>
       some af
      else
       some ([]:List api_Stitch)) fun ag=>
     Option.bind (α:=List api_Stitch) (
      (whileO (piece_Chart_l1 ac ae aa ab) (ag,0)).bind fun ah=>
       some ah) fun a6=>
     Option.bind (α:=List api_Stitch) (
      if ab.s.Kind != 0 then
       (appO a6 [ab.s]).bind fun ai=>
       some ai
      else
       some a6) fun a7=>
     (remI a2 2).bind fun a8=>
     Option.bind (α:=List api_Stitch) (
      if a8 == 1 then
       (F_stitch_Turn a7).bind fun aj=>
       some aj.1
      else
       some a7) fun ak=>
     (appO am [(api_Row.mk (a8 == 1) ak)]).bind fun al=>
     some (.inl al)) fun z0=>match z0 with
    | .inl aq=>
     some (.inl (w64 (a2 + 1),aq))
    | .inr z=>
     some (.inr (.inl z))
  else
   some (.inr (.inr am))
noncomputable def F_piece_Chart (p0:api_Piece):Option (api_Chart × Int):=
 (F_piece_Check p0).bind fun a2=>
 if a2 != 0 then
  some ((api_Chart.mk 0 ([]:(List api_Row))),a2)
 else
  (idxO p0.Right 0).bind fun a6=>
  (idxO p0.Left 0).bind fun a7=>
  Option.bind (α:=List api_Row ⊕ (api_Chart × Int)) (
   (whileO (piece_Chart_l2 p0) (1,([]:List api_Row))).bind fun z0=>match z0 with
    | .inl z=>
     some (.inr z)
    | .inr a8=>
     some (.inl a8)) fun z0=>match z0 with
   | .inl aa=>
    some ((api_Chart.mk (w64 (a6 - a7)) aa),0)
   | .inr z=>
    some z
def c_piece_Chart_val (r:(api_Chart × Int)) (x:Value):Value:=.tuple #[x,.int .i64 r.2]
def c_piece_Chart_D (r:(api_Chart × Int)) (x:Value):List Fact:=[fRep r_api_Chart x r.1]
theorem c_piece_Chart (E:Nat→Prop) (w0:World) (p0:api_Piece) (v0:Value) (r:(api_Chart × Int)) (h:F_piece_Chart p0=some r) (S:St0 E [] w0 w0 [] [fRep r_api_Piece (v0) p0]) :
 Calls Tryd.prog 17 #[v0] w0 (Ret (X:=Value) E [] w0 (c_piece_Chart_val r) (fun _=>[]) (c_piece_Chart_D r)):=by
 unfold F_piece_Chart at h
 obtain ⟨u1,u2,rfl,cX,cY⟩:=S.know (i:=0) (e:=fRep r_api_Piece (v0) p0) d
 have S:=S.learn (fRep (rL (rI .i64)) u1 p0.Left) cX
 obtain ⟨ac,ae,_,rfl,_⟩:=cX
 have S:=S.learn (fRep (rL (rI .i64)) u2 p0.Right) cY
 obtain ⟨af,ag,_,rfl,_⟩:=cY
 refine sEnter (args:=[.agg #[.slice ac p0.Left.length ae,.slice af p0.Right.length ag]]) 127 Tryd.func17 d d (by simp) S (fun a S=>?_)
 refine sSeq (fun K9 d8=>sRegion (sBox (v:=.agg #[.slice ac p0.Left.length ae,.slice af p0.Right.length ag]) S (wN d) d d [.slice ac p0.Left.length ae,.slice af p0.Right.length ag] d d (lb d) fun a aa w S=>sAlloc (.agg #[iv 0,.slice none 0 0]) S (wN d) d d [iv 0,.slice none 0 0] d d (lb d) fun a au w S=>sN S fun a S=>?_))
 refine lT (d8 _ _ (sSeq (fun du cv=>sSeq (fun dv cw=>sRegion (sLoadN (p:=aa) (off:=0) (T:=30) (vs:=[.slice ac p0.Left.length ae,.slice af p0.Right.length ag]) 1 [.slice ac p0.Left.length ae,.slice af p0.Right.length ag] S (wN d) d d d d d d d (lb d) fun a S=>?_)))))
 obtain ⟨bu,cx,h⟩:=bS h
 have S1:=S.mem
 refine sCq [.agg #[.slice ac p0.Left.length ae,.slice af p0.Right.length ag]] (iv bu) S callee13 (S1.quiet [2] d) (fun E1 w1 S1=>c_piece_Check E1 w1 p0 (.agg #[.slice ac p0.Left.length ae,.slice af p0.Right.length ag]) bu cx S1) fun a w S=>?_
 refine sN S fun a S=>?_
 refine lT (cw _ _ (sSeq (fun dw cy=>sRegion (sM S fun a S=>?_))))
 refine sBin _ S (wN d) d d d (bNe _ _ _ _ .i64 bu 0) d (lb d) fun a S=>lT (cy _ _ ?_)
 rcases iS h with ⟨bl,h⟩ | ⟨bl,h⟩
 ·refine sCondT S d bl (sSeq (fun dx cz=>sRegion (sBuild [] [iv 0,.slice none 0 0] S (wN d) d d d d (lb d) fun a S=>sM S fun a S=>?_)))
  refine sStore (p:=au) (off:=0) (T:=40) (vs:=[iv 0,.slice none 0 0]) (v:=.agg #[iv 0,.slice none 0 0]) 0 [iv 0,.slice none 0 0] S (wN d) d d d d d d d (by simp) d fun a w S=>sN S fun a S=>?_
  refine lT (cz _ _ ?_)
  obtain rfl:=tS h
  have S:=S.learn (fRep (rL r_api_Row) (.slice none 0 0) ([]:(List api_Row))) (rL_nil _ _ _)
  have S:=S.learn (fRep r_api_Chart (.agg #[iv 0,.slice none 0 0]) (api_Chart.mk 0 ([]:(List api_Row)))) ⟨_,d,S.mem.know (i:=0) (e:=fRep (rL r_api_Row) (.slice none 0 0) ([]:(List api_Row))) d⟩
  exact wp_ret (rThen (sRet (.tuple #[.agg #[iv 0,.slice none 0 0],iv bu]) S (rsl2 d (rvN (c:=2) (t:=40) (T:=40) (p:=au) 0 [iv 0,.slice none 0 0] S d d d d) (rvT (t:=3) (v:=iv bu) S d)) ⟨(.agg #[iv 0,.slice none 0 0]),d,S.mem.sel [] [0] (by decide) d d⟩))
 refine sCondF S d bl (wp_skip (leafT (cv _ _ ?_)))
 refine sSeq (fun dy cA=>?_)
 obtain ⟨ah,cB,h⟩:=bS h
 obtain ⟨ai,cC,h⟩:=bS h
 obtain ⟨cq,bv,S⟩:=pIdx (P:=Tryd.prog) (r:=(rI .i64)) (v:=.slice af p0.Right.length ag) (xs:=p0.Right) (j:=0) 28 3 0 S Tryd.underlying28 d d cB
 obtain ⟨cZ,S⟩:=pLoad (r:=(rI .i64)) (q:=cq) (x:=ah) 0 S d
 obtain rfl:cZ=iv ah:=S.mem.know (i:=1) (e:=fRep (rI .i64) (cZ) ah) d
 obtain ⟨cr,bw,S⟩:=pIdx (P:=Tryd.prog) (r:=(rI .i64)) (v:=.slice ac p0.Left.length ae) (xs:=p0.Left) (j:=0) 28 3 4 S Tryd.underlying28 d d cC
 obtain ⟨d0,S⟩:=pLoad (r:=(rI .i64)) (q:=cr) (x:=ai) 0 S d
 obtain rfl:d0=iv ai:=S.mem.know (i:=1) (e:=fRep (rI .i64) (d0) ai) d
 refine sDraw (nf:=[10,11]) (W:=[(0,18,.pointer (some ⟨aa,1,none⟩)),(1,19,.slice af p0.Right.length ag),(2,20,cq),(3,21,iv ah),(4,22,.pointer (some ⟨aa,0,none⟩)),(5,23,.slice ac p0.Left.length ae),(6,24,cr),(7,25,iv ai),(8,26,iv (w64 (ah - ai))),(9,27,.agg #[iv (w64 (ah - ai)),.slice none 0 0])]) d S ?_
 refine node_by (A:=anc_piece_Chart_0) 12 (by kernel_rfl) (by kernel_rfl) (by kernel_rfl) (by kernel_rfl) (by kernel_rfl) [0,1,2,3,4,5,6,7,8,9] (by kernel_rfl) (by decide) (by decide) (fF ?_ (fF ?_ (fF ?_ (fF ?_ (fF ?_ (fF ?_ (fF ?_ (fF ?_ (fF ?_ (fF ?_ (fN ?_ (aB 11 0 10 (by decide) (trivial))))))))))))) [] (fun q hq=>by cases hq) (fun hY=>absurd (hY 10 (by decide)) (by decide))
 ·refine fJ [(1,_)] 0 [none] fun G a w S=>?_
  exact sField (b:=aa) (off:=0) 1 1 S (wN d) d d d d d (lb d) fun a S=>leafL ⟨d,S⟩
 ·refine fJ [(18,_)] 1 [some 0] fun G a w S=>?_
  exact sLoad1 1 (.slice af p0.Right.length ag) S (wN d) d d d d d d (lb d) fun a S=>leafL ⟨d,S⟩
 ·refine fJ [(19,_)] 2 [some 1] fun G a w S=>?_
  exact sIdxV S (wN d) d d d bv d (lb d) fun a S=>leafL ⟨d,S⟩
 ·refine fJ [(20,_)] 3 [some 2] fun G a w S=>?_
  exact sLoadV1 (vq:=cq) 3 (iv ah) S (wN d) d d d d d (lb d) fun a S=>leafL ⟨d,S⟩
 ·refine fJ [(1,_)] 4 [none] fun G a w S=>?_
  exact sField (b:=aa) (off:=0) 0 0 S (wN d) d d d d d (lb d) fun a S=>leafL ⟨d,S⟩
 ·refine fJ [(22,_)] 5 [some 4] fun G a w S=>?_
  exact sLoad1 1 (.slice ac p0.Left.length ae) S (wN d) d d d d d d (lb d) fun a S=>leafL ⟨d,S⟩
 ·refine fJ [(23,_)] 6 [some 5] fun G a w S=>?_
  exact sIdxV S (wN d) d d d bw d (lb d) fun a S=>leafL ⟨d,S⟩
 ·refine fJ [(24,_)] 7 [some 6] fun G a w S=>?_
  exact sLoadV1 (vq:=cr) 0 (iv ai) S (wN d) d d d d d (lb d) fun a S=>leafL ⟨d,S⟩
 ·refine fJ [(21,_),(25,_)] 8 [some 3,some 7] fun G a w S=>?_
  exact sBin _ S (wN d) d d d (bSub _ _ _ _ ah ai) d (lb d) fun a S=>leafL ⟨d,S⟩
 ·refine fJ [(26,_)] 9 [some 8] fun G a w S=>?_
  exact sBuild [(0,iv (w64 (ah - ai)))] [iv (w64 (ah - ai)),.slice none 0 0] S (wN d) d d d d (lb d) fun a S=>leafL ⟨d,S⟩
 refine ⟨_,[],d,(srcs_of [] d d d),fun G a w S=>?_⟩
 refine sAlloc (.agg #[iv 0,.slice none 0 0]) S (wN d) d d [iv 0,.slice none 0 0] d d (lb d) fun a ap w S=>leafL ⟨d,_,_,.inl ⟨5,(.pointer (some ⟨ap,0,none⟩)),[],d,S,hz_of d,?_⟩⟩
 refine node_by (A:=anc_piece_Chart_0) 12 (by kernel_rfl) (by kernel_rfl) (by kernel_rfl) (by kernel_rfl) (by kernel_rfl) [10,0,1,2,3,4,5,6,7,8,9] (by kernel_rfl) (by decide) (by decide) (fF ?_ (fF ?_ (fF ?_ (fF ?_ (fF ?_ (fF ?_ (fF ?_ (fF ?_ (fF ?_ (fF ?_ (fY (fN ?_ (trivial))))))))))))) [] (fun q hq=>by cases hq) (fun hY=>absurd (hY 11 (by decide)) (by decide))
 ·refine fJ [(1,_)] 1 [none] fun G a w S=>?_
  exact sField (b:=aa) (off:=0) 1 1 S (wN d) d d d d d (lb d) fun a S=>leafL ⟨d,S⟩
 ·refine fJ [(18,_)] 2 [some 1] fun G a w S=>?_
  exact sLoad1 2 (.slice af p0.Right.length ag) S (wN d) d d d d d d (lb d) fun a S=>leafL ⟨d,S⟩
 ·refine fJ [(19,_)] 3 [some 2] fun G a w S=>?_
  exact sIdxV S (wN d) d d d bv d (lb d) fun a S=>leafL ⟨d,S⟩
 ·refine fJ [(20,_)] 4 [some 3] fun G a w S=>?_
  exact sLoadV1 (vq:=cq) 3 (iv ah) S (wN d) d d d d d (lb d) fun a S=>leafL ⟨d,S⟩
 ·refine fJ [(1,_)] 5 [none] fun G a w S=>?_
  exact sField (b:=aa) (off:=0) 0 0 S (wN d) d d d d d (lb d) fun a S=>leafL ⟨d,S⟩
 ·refine fJ [(22,_)] 6 [some 5] fun G a w S=>?_
  exact sLoad1 2 (.slice ac p0.Left.length ae) S (wN d) d d d d d d (lb d) fun a S=>leafL ⟨d,S⟩
 ·refine fJ [(23,_)] 7 [some 6] fun G a w S=>?_
  exact sIdxV S (wN d) d d d bw d (lb d) fun a S=>leafL ⟨d,S⟩
 ·refine fJ [(24,_)] 8 [some 7] fun G a w S=>?_
  exact sLoadV1 (vq:=cr) 0 (iv ai) S (wN d) d d d d d (lb d) fun a S=>leafL ⟨d,S⟩
 ·refine fJ [(21,_),(25,_)] 9 [some 4,some 8] fun G a w S=>?_
  exact sBin _ S (wN d) d d d (bSub _ _ _ _ ah ai) d (lb d) fun a S=>leafL ⟨d,S⟩
 ·refine fJ [(26,_)] 10 [some 9] fun G a w S=>?_
  exact sBuild [(0,iv (w64 (ah - ai)))] [iv (w64 (ah - ai)),.slice none 0 0] S (wN d) d d d d (lb d) fun a S=>leafL ⟨d,S⟩
 refine ⟨_,[(5,.pointer (some ⟨ap,0,none⟩)),(27,.agg #[iv (w64 (ah - ai)),.slice none 0 0])],d,(srcs_of [some 0,some 10] d d d),fun G a w S=>?_⟩
 refine sStore (p:=ap) (off:=0) (T:=40) (vs:=[iv 0,.slice none 0 0]) (v:=.agg #[iv (w64 (ah - ai)),.slice none 0 0]) 0 [iv (w64 (ah - ai)),.slice none 0 0] S (wN d) d d d d d d d (by simp) d fun a w S=>leafL ⟨d,_,_,.inr ⟨[],d,S,hz_of d,?_⟩⟩
 refine node_by (A:=anc_piece_Chart_0) 12 (by kernel_rfl) (by kernel_rfl) (by kernel_rfl) (by kernel_rfl) (by kernel_rfl) [10,0,1,2,3,4,5,6,7,8,9] (by kernel_rfl) (by decide) (by decide) (fD 11 (fD 11 (fD 11 (fD 11 (fD 11 (fD 11 (fD 11 (fD 11 (fD 11 (fD 11 (fY (fY (trivial))))))))))))) [(1,.pointer (some ⟨aa,0,none⟩)),(2,.pointer (some ⟨au,0,none⟩)),(5,.pointer (some ⟨ap,0,none⟩))] (fin_of [none,none,some 0] d (by kernel_rfl) (by kernel_rfl)) (fun _ a w S=>?_)
 refine leafT (cA _ _ ?_)
 obtain ⟨d9,h,d1⟩:=bS h
 refine sCut (fun a w=>∃ aH,.inl aH=d9∧∃ az,∃ aA,St [] E [] w0 127 a w [(2,.pointer (some ⟨au,0,none⟩)),(5,.pointer (some ⟨ap,0,none⟩))] [eBox au 40 [iv 0,.slice none 0 0],eBox ap 40 [iv (w64 (ah - ai)),.slice az aH.length aA],eRow r_api_Row 54 (.slice az aH.length aA) aH] []) ?_ (fun a w hI=>?_)
 rotate_left
 ·obtain ⟨aH,rfl,az,aA,S⟩:=hI
  have h:=d1
  try dsimp only at h
  refine sSeq (fun da bx=>sRegion (sLoadN (p:=ap) (off:=0) (T:=40) (vs:=[iv (w64 (ah - ai)),.slice az aH.length aA]) 1 [iv (w64 (ah - ai)),.slice az aH.length aA] S (wN d) d d d d d d d (lb d) fun a S=>sStore (p:=au) (off:=0) (T:=40) (vs:=[iv 0,.slice none 0 0]) (v:=.agg #[iv (w64 (ah - ai)),.slice az aH.length aA]) 0 [iv (w64 (ah - ai)),.slice az aH.length aA] S (wN d) d d d d d d d (by simp) d fun a w S=>sN S fun a S=>?_))
  refine lT (bx _ _ ?_)
  obtain rfl:=tS h
  have S:=S.shutR (r:=r_api_Row) (T:=54) (v:=.slice az aH.length aA) (xs:=aH) 2 d
  have S:=S.learn (fRep r_api_Chart (.agg #[iv (w64 (ah - ai)),.slice az aH.length aA]) (api_Chart.mk (w64 (ah - ai)) aH)) ⟨_,d,S.mem.know (i:=0) (e:=fRep (rL r_api_Row) (.slice az aH.length aA) aH) d⟩
  exact wp_ret (sRet (.tuple #[.agg #[iv (w64 (ah - ai)),.slice az aH.length aA],iv 0]) S (rsl2 d (rvN (c:=2) (t:=40) (T:=40) (p:=au) 0 [iv (w64 (ah - ai)),.slice az aH.length aA] S d d d d) (rvT (t:=3) (v:=iv 0) S d)) ⟨(.agg #[iv (w64 (ah - ai)),.slice az aH.length aA]),d,S.mem.sel [] [0] (by decide) d d⟩)
 refine sSeq (fun dz cD=>sRegion (sN S fun a S=>?_))
 refine lT (cD _ _ (wp_block ?_))
 have S:=S.nilRow r_api_Row 54 (α:=api_Row)
 obtain ⟨dA,hl,d3⟩:=bS h
 refine sLoop hl (fun s0 a w=>match s0 with | (al,aj)=>∃ a7,∃ a8,St [] E [] w0 127 a w [(1,.pointer (some ⟨aa,0,none⟩)),(2,.pointer (some ⟨au,0,none⟩)),(5,.pointer (some ⟨ap,0,none⟩)),(6,iv al)] [eBox aa 30 [.slice ac p0.Left.length ae,.slice af p0.Right.length ag],eBox au 40 [iv 0,.slice none 0 0],eBox ap 40 [iv (w64 (ah - ai)),.slice a7 aj.length a8],eRow r_api_Row 54 (.slice a7 aj.length a8) aj] [fRep (rL (rI .i64)) (.slice ac p0.Left.length ae) p0.Left,fRep (rL (rI .i64)) (.slice af p0.Right.length ag) p0.Right]) ⟨none,0,S.fix [3,2,1,0] [7,6] (by decide) d d d⟩ ?_
 clear hl h
 intro s0 a w c0 hI h bz
 obtain ⟨al,aj⟩:=s0
 unfold piece_Chart_l2 at h
 dsimp only at h hI
 obtain ⟨a7,a8,S⟩:=hI
 refine sSeq (fun dB cE=>sSeq (fun dC cF=>sRegion (sM S fun a S=>?_)))
 refine sField (b:=aa) (off:=0) 0 0 S (wN d) d d d d d (lb d) fun a S=>sLoad1 0 (.slice ac p0.Left.length ae) S (wN d) d d d d d d (lb d) fun a S=>sLen S (wN d) d Tryd.underlying28 d d (lb d) fun a S=>sBin _ S (wN d) d d d (bLt _ _ _ _ .i64 al (p0.Left.length:Int)) d (lb d) fun a S=>lT (cF _ _ ?_)
 rcases iS h with ⟨bm,h⟩ | ⟨bm,h⟩
 rotate_left
 ·refine sCondF S d bm ?_
  obtain rfl:=tS h
  obtain rfl:=bz _ d
  have h:=d3
  try dsimp only at h
  exact wp_exit (xThen (xThen (xHit (leafT (⟨aj,Option.some.inj h,a7,a8,S.fix [1,2,3] [] (by decide) d d d⟩)))))
 refine sCondT S d bm (wp_skip (leafT (cE _ _ ?_)))
 obtain ⟨db,h,d4⟩:=bS h
 refine sCut (fun a w=>∃ bt,.inl bt=db∧∃ bc,∃ bf,St [] E [] w0 127 a w [(1,.pointer (some ⟨aa,0,none⟩)),(2,.pointer (some ⟨au,0,none⟩)),(5,.pointer (some ⟨ap,0,none⟩)),(6,iv al)] [eBox aa 30 [.slice ac p0.Left.length ae,.slice af p0.Right.length ag],eBox au 40 [iv 0,.slice none 0 0],eBox ap 40 [iv (w64 (ah - ai)),.slice bc bt.length bf],eRow r_api_Row 54 (.slice bc bt.length bf) bt] [fRep (rL (rI .i64)) (.slice ac p0.Left.length ae) p0.Left,fRep (rL (rI .i64)) (.slice af p0.Right.length ag) p0.Right]) ?_ (fun a w hI=>?_)
 rotate_left
 ·obtain ⟨bt,rfl,bc,bf,S⟩:=hI
  have h:=d4
  try dsimp only at h
  refine sRegion (sM S fun a S=>?_)
  refine sBin _ S (wN d) d d d (bAdd _ _ _ _ al 1) d (lb d) fun a S=>sN S fun a S=>?_
  exact lT (⟨(w64 (al + 1),bt),(Option.some.inj h).symm,⟨bc,bf,S.fix [0,1,2,3] [0,1] (by decide) d d d⟩⟩)
 refine wp_block ?_
 refine sSeq (fun dD cG=>?_)
 obtain ⟨aO,cH,h⟩:=bS h
 obtain ⟨aq,bA,h⟩:=bS h
 obtain ⟨a6,bB,h⟩:=bS h
 obtain ⟨ct,bC,S⟩:=pIdx (P:=Tryd.prog) (r:=(rI .i64)) (v:=.slice af p0.Right.length ag) (xs:=p0.Right) (j:=al) 28 3 1 S Tryd.underlying28 d d cH
 obtain ⟨d5,S⟩:=pLoad (r:=(rI .i64)) (q:=ct) (x:=aO) 0 S d
 obtain rfl:d5=iv aO:=S.mem.know (i:=1) (e:=fRep (rI .i64) (d5) aO) d
 obtain ⟨cu,bD,S⟩:=pIdx (P:=Tryd.prog) (r:=(rI .i64)) (v:=.slice af p0.Right.length ag) (xs:=p0.Right) (j:=w64 (al - 1)) 28 3 4 S Tryd.underlying28 d d bA
 obtain ⟨d6,S⟩:=pLoad (r:=(rI .i64)) (q:=cu) (x:=aq) 0 S d
 obtain rfl:d6=iv aq:=S.mem.know (i:=1) (e:=fRep (rI .i64) (d6) aq) d
 refine sDraw (nf:=[12,13,14]) (W:=[(0,35,.pointer (some ⟨aa,1,none⟩)),(1,36,.slice af p0.Right.length ag),(2,37,iv al),(3,38,ct),(4,39,iv aO),(5,40,.pointer (some ⟨aa,1,none⟩)),(6,41,.slice af p0.Right.length ag),(7,42,iv al),(8,43,iv (w64 (al - 1))),(9,44,cu),(10,45,iv aq),(11,46,iv (w64 (aO - aq)))]) d S ?_
 refine nodeCut (fun N W L D=>∀ aG,N [13,12] ((13,7,.pointer (some ⟨aG,0,none⟩)) :: (12,47,.agg #[.int .u8 a6.s.Kind,.bool a6.s.Purl,iv a6.s.A,iv a6.s.B,iv a6.uses]) :: W) ((eBox aG 81 [.int .u8 0,.bool false,iv 0,iv 0,iv 0]) :: L) ((fRep r_piece_edge (.agg #[.int .u8 a6.s.Kind,.bool a6.s.Purl,iv a6.s.A,iv a6.s.B,iv a6.uses]) a6) :: D)) (fun aG=>?_) fun nd1=>?_
 ·refine node_by (A:=anc_piece_Chart_1) 15 (by kernel_rfl) (by kernel_rfl) (by kernel_rfl) (by kernel_rfl) (by kernel_rfl) [13,12,0,1,2,3,4,5,6,7,8,9,10,11] (by kernel_rfl) (by decide) (by decide) (fD 12 (fD 12 (fD 12 (fD 12 (fD 12 (fD 12 (fD 12 (fD 12 (fD 12 (fD 12 (fD 12 (fD 12 (fY (fY (fN ?_ (trivial)))))))))))))))) [] (fun q hq=>by cases hq) (fun hY=>absurd (hY 14 (by decide)) (by decide))
  refine ⟨_,[(7,.pointer (some ⟨aG,0,none⟩)),(47,.agg #[.int .u8 a6.s.Kind,.bool a6.s.Purl,iv a6.s.A,iv a6.s.B,iv a6.uses])],d,(srcs_of [some 0,some 1] d d d),fun G a w S=>?_⟩
  refine sStore (p:=aG) (off:=0) (T:=81) (vs:=[.int .u8 0,.bool false,iv 0,iv 0,iv 0]) (v:=.agg #[.int .u8 a6.s.Kind,.bool a6.s.Purl,iv a6.s.A,iv a6.s.B,iv a6.uses]) 0 [.int .u8 a6.s.Kind,.bool a6.s.Purl,iv a6.s.A,iv a6.s.B,iv a6.uses] S (wN d) d d d d d d d (by simp) d fun a w S=>leafL ⟨d,_,_,.inr ⟨[],d,S,hz_of d,?_⟩⟩
  refine node_by (A:=anc_piece_Chart_1) 15 (by kernel_rfl) (by kernel_rfl) (by kernel_rfl) (by kernel_rfl) (by kernel_rfl) [13,12,0,1,2,3,4,5,6,7,8,9,10,11] (by kernel_rfl) (by decide) (by decide) (fD 14 (fD 14 (fD 14 (fD 14 (fD 14 (fD 14 (fD 14 (fD 14 (fD 14 (fD 14 (fD 14 (fD 14 (fY (fY (fY (trivial)))))))))))))))) [(1,.pointer (some ⟨aa,0,none⟩)),(2,.pointer (some ⟨au,0,none⟩)),(5,.pointer (some ⟨ap,0,none⟩)),(6,iv al),(7,.pointer (some ⟨aG,0,none⟩))] (fin_of [none,none,none,none,some 0] d (by kernel_rfl) (by kernel_rfl)) (fun _ a w S=>?_)
  refine leafT (cG _ _ ?_)
  refine sSeq (fun dE cI=>?_)
  obtain ⟨ar,bE,h⟩:=bS h
  obtain ⟨aP,cJ,h⟩:=bS h
  obtain ⟨a2,bF,h⟩:=bS h
  obtain ⟨bg,bi,S⟩:=pIdx (P:=Tryd.prog) (r:=(rI .i64)) (v:=.slice ac p0.Left.length ae) (xs:=p0.Left) (j:=w64 (al - 1)) 28 3 7 S Tryd.underlying28 d d bE
  obtain ⟨bG,S⟩:=pLoad (r:=(rI .i64)) (q:=bg) (x:=ar) 0 S d
  obtain rfl:bG=iv ar:=S.mem.know (i:=1) (e:=fRep (rI .i64) (bG) ar) d
  obtain ⟨bh,bj,S⟩:=pIdx (P:=Tryd.prog) (r:=(rI .i64)) (v:=.slice ac p0.Left.length ae) (xs:=p0.Left) (j:=al) 28 3 10 S Tryd.underlying28 d d cJ
  obtain ⟨bH,S⟩:=pLoad (r:=(rI .i64)) (q:=bh) (x:=aP) 0 S d
  obtain rfl:bH=iv aP:=S.mem.know (i:=1) (e:=fRep (rI .i64) (bH) aP) d
  refine sDraw (nf:=[12,13,14]) (W:=[(0,48,.pointer (some ⟨aa,0,none⟩)),(1,49,.slice ac p0.Left.length ae),(2,50,iv al),(3,51,iv (w64 (al - 1))),(4,52,bg),(5,53,iv ar),(6,54,.pointer (some ⟨aa,0,none⟩)),(7,55,.slice ac p0.Left.length ae),(8,56,iv al),(9,57,bh),(10,58,iv aP),(11,59,iv (w64 (ar - aP)))]) d S ?_
  refine nodeCut (fun N W L D=>∀ ab,N [13,12] ((13,8,.pointer (some ⟨ab,0,none⟩)) :: (12,60,.agg #[.int .u8 a2.s.Kind,.bool a2.s.Purl,iv a2.s.A,iv a2.s.B,iv a2.uses]) :: W) ((eBox ab 81 [.int .u8 0,.bool false,iv 0,iv 0,iv 0]) :: L) ((fRep r_piece_edge (.agg #[.int .u8 a2.s.Kind,.bool a2.s.Purl,iv a2.s.A,iv a2.s.B,iv a2.uses]) a2) :: D)) (fun ab=>?_) fun nd1=>?_
  ·refine node_by (A:=anc_piece_Chart_2) 15 (by kernel_rfl) (by kernel_rfl) (by kernel_rfl) (by kernel_rfl) (by kernel_rfl) [13,12,0,1,2,3,4,5,6,7,8,9,10,11] (by kernel_rfl) (by decide) (by decide) (fD 12 (fD 12 (fD 12 (fD 12 (fD 12 (fD 12 (fD 12 (fD 12 (fD 12 (fD 12 (fD 12 (fD 12 (fY (fY (fN ?_ (trivial)))))))))))))))) [] (fun q hq=>by cases hq) (fun hY=>absurd (hY 14 (by decide)) (by decide))
   refine ⟨_,[(8,.pointer (some ⟨ab,0,none⟩)),(60,.agg #[.int .u8 a2.s.Kind,.bool a2.s.Purl,iv a2.s.A,iv a2.s.B,iv a2.uses])],d,(srcs_of [some 0,some 1] d d d),fun G a w S=>?_⟩
   refine sStore (p:=ab) (off:=0) (T:=81) (vs:=[.int .u8 0,.bool false,iv 0,iv 0,iv 0]) (v:=.agg #[.int .u8 a2.s.Kind,.bool a2.s.Purl,iv a2.s.A,iv a2.s.B,iv a2.uses]) 0 [.int .u8 a2.s.Kind,.bool a2.s.Purl,iv a2.s.A,iv a2.s.B,iv a2.uses] S (wN d) d d d d d d d (by simp) d fun a w S=>leafL ⟨d,_,_,.inr ⟨[],d,S,hz_of d,?_⟩⟩
   refine node_by (A:=anc_piece_Chart_2) 15 (by kernel_rfl) (by kernel_rfl) (by kernel_rfl) (by kernel_rfl) (by kernel_rfl) [13,12,0,1,2,3,4,5,6,7,8,9,10,11] (by kernel_rfl) (by decide) (by decide) (fD 14 (fD 14 (fD 14 (fD 14 (fD 14 (fD 14 (fD 14 (fD 14 (fD 14 (fD 14 (fD 14 (fD 14 (fY (fY (fY (trivial)))))))))))))))) [(1,.pointer (some ⟨aa,0,none⟩)),(2,.pointer (some ⟨au,0,none⟩)),(5,.pointer (some ⟨ap,0,none⟩)),(6,iv al),(7,.pointer (some ⟨aG,0,none⟩)),(8,.pointer (some ⟨ab,0,none⟩))] (fin_of [none,none,none,none,none,some 0] d (by kernel_rfl) (by kernel_rfl)) (fun _ a w S=>?_)
   refine leafT (cI _ _ ?_)
   refine sSeq (fun dc bI=>?_)
   obtain ⟨bn,bJ,S⟩:=pIdx (P:=Tryd.prog) (r:=(rI .i64)) (v:=.slice af p0.Right.length ag) (xs:=p0.Right) (j:=w64 (al - 1)) 28 3 15 S Tryd.underlying28 d d bA
   obtain ⟨bK,S⟩:=pLoad (r:=(rI .i64)) (q:=bn) (x:=aq) 0 S d
   obtain rfl:bK=iv aq:=S.mem.know (i:=1) (e:=fRep (rI .i64) (bK) aq) d
   obtain ⟨bo,bL,S⟩:=pIdx (P:=Tryd.prog) (r:=(rI .i64)) (v:=.slice ac p0.Left.length ae) (xs:=p0.Left) (j:=w64 (al - 1)) 28 3 17 S Tryd.underlying28 d d bE
   obtain ⟨bM,S⟩:=pLoad (r:=(rI .i64)) (q:=bo) (x:=ar) 0 S d
   obtain rfl:bM=iv ar:=S.mem.know (i:=1) (e:=fRep (rI .i64) (bM) ar) d
   refine sDraw (nf:=[]) (W:=[(0,61,.pointer (some ⟨aa,1,none⟩)),(1,62,.slice af p0.Right.length ag),(2,63,iv al),(3,64,iv (w64 (al - 1))),(4,65,bn),(5,66,iv aq),(6,67,.pointer (some ⟨aa,0,none⟩)),(7,68,.slice ac p0.Left.length ae),(8,69,iv al),(9,70,iv (w64 (al - 1))),(10,71,bo),(11,72,iv ar),(12,73,iv (w64 (aq - ar))),(13,74,.pointer (some ⟨aG,4,none⟩)),(14,75,iv a6.uses),(15,76,iv (w64 ((w64 (aq - ar)) - a6.uses))),(16,77,.pointer (some ⟨ab,4,none⟩)),(17,78,iv a2.uses),(18,79,iv (w64 ((w64 ((w64 (aq - ar)) - a6.uses)) - a2.uses))),(19,9,iv (w64 ((w64 ((w64 (aq - ar)) - a6.uses)) - a2.uses)))]) d S ?_
   refine node_by (A:=anc_piece_Chart_3) 20 (by kernel_rfl) (by kernel_rfl) (by kernel_rfl) (by kernel_rfl) (by kernel_rfl) [0,1,2,3,4,5,6,7,8,9,10,11,12,13,14,15,16,17,18,19] (by kernel_rfl) (by decide) (by decide) (fF ?_ (fF ?_ (fF ?_ (fF ?_ (fF ?_ (fF ?_ (fF ?_ (fF ?_ (fF ?_ (fF ?_ (fF ?_ (fF ?_ (fF ?_ (fF ?_ (fF ?_ (fF ?_ (fF ?_ (fF ?_ (fF ?_ (fF ?_ (trivial))))))))))))))))))))) [(1,.pointer (some ⟨aa,0,none⟩)),(2,.pointer (some ⟨au,0,none⟩)),(5,.pointer (some ⟨ap,0,none⟩)),(6,iv al),(7,.pointer (some ⟨aG,0,none⟩)),(8,.pointer (some ⟨ab,0,none⟩)),(9,iv (w64 ((w64 ((w64 (aq - ar)) - a6.uses)) - a2.uses)))] (fin_of [none,none,none,none,none,none,some 19] d (by kernel_rfl) (by kernel_rfl)) (fun _ a w S=>?_)
   ·refine fJ [(1,_)] 0 [none] fun G a w S=>?_
    exact sField (b:=aa) (off:=0) 1 1 S (wN d) d d d d d (lb d) fun a S=>leafL ⟨d,S⟩
   ·refine fJ [(61,_)] 1 [some 0] fun G a w S=>?_
    exact sLoad1 2 (.slice af p0.Right.length ag) S (wN d) d d d d d d (lb d) fun a S=>leafL ⟨d,S⟩
   ·exact fM 2 none d d d d (.inl d) d d d
   ·refine fJ [(63,_)] 3 [some 2] fun G a w S=>?_
    exact sBin _ S (wN d) d d d (bSub _ _ _ _ al 1) d (lb d) fun a S=>leafL ⟨d,S⟩
   ·refine fJ [(62,_),(64,_)] 4 [some 1,some 3] fun G a w S=>?_
    exact sIdxV S (wN d) d d d bJ d (lb d) fun a S=>leafL ⟨d,S⟩
   ·refine fJ [(65,_)] 5 [some 4] fun G a w S=>?_
    exact sLoadV1 (vq:=bn) 3 (iv aq) S (wN d) d d d d d (lb d) fun a S=>leafL ⟨d,S⟩
   ·refine fJ [(1,_)] 6 [none] fun G a w S=>?_
    exact sField (b:=aa) (off:=0) 0 0 S (wN d) d d d d d (lb d) fun a S=>leafL ⟨d,S⟩
   ·refine fJ [(67,_)] 7 [some 6] fun G a w S=>?_
    exact sLoad1 2 (.slice ac p0.Left.length ae) S (wN d) d d d d d d (lb d) fun a S=>leafL ⟨d,S⟩
   ·exact fM 8 none d d d d (.inl d) d d d
   ·refine fJ [(69,_)] 9 [some 8] fun G a w S=>?_
    exact sBin _ S (wN d) d d d (bSub _ _ _ _ al 1) d (lb d) fun a S=>leafL ⟨d,S⟩
   ·refine fJ [(68,_),(70,_)] 10 [some 7,some 9] fun G a w S=>?_
    exact sIdxV S (wN d) d d d bL d (lb d) fun a S=>leafL ⟨d,S⟩
   ·refine fJ [(71,_)] 11 [some 10] fun G a w S=>?_
    exact sLoadV1 (vq:=bo) 0 (iv ar) S (wN d) d d d d d (lb d) fun a S=>leafL ⟨d,S⟩
   ·refine fJ [(66,_),(72,_)] 12 [some 5,some 11] fun G a w S=>?_
    exact sBin _ S (wN d) d d d (bSub _ _ _ _ aq ar) d (lb d) fun a S=>leafL ⟨d,S⟩
   ·refine fJ [(7,_)] 13 [none] fun G a w S=>?_
    exact sField (b:=aG) (off:=0) 4 4 S (wN d) d d d d d (lb d) fun a S=>leafL ⟨d,S⟩
   ·refine fJ [(74,_)] 14 [some 13] fun G a w S=>?_
    exact sLoad1 1 (iv a6.uses) S (wN d) d d d d d d (lb d) fun a S=>leafL ⟨d,S⟩
   ·refine fJ [(73,_),(75,_)] 15 [some 12,some 14] fun G a w S=>?_
    exact sBin _ S (wN d) d d d (bSub _ _ _ _ (w64 (aq - ar)) a6.uses) d (lb d) fun a S=>leafL ⟨d,S⟩
   ·refine fJ [(8,_)] 16 [none] fun G a w S=>?_
    exact sField (b:=ab) (off:=0) 4 4 S (wN d) d d d d d (lb d) fun a S=>leafL ⟨d,S⟩
   ·refine fJ [(77,_)] 17 [some 16] fun G a w S=>?_
    exact sLoad1 0 (iv a2.uses) S (wN d) d d d d d d (lb d) fun a S=>leafL ⟨d,S⟩
   ·refine fJ [(76,_),(78,_)] 18 [some 15,some 17] fun G a w S=>?_
    exact sBin _ S (wN d) d d d (bSub _ _ _ _ (w64 ((w64 (aq - ar)) - a6.uses)) a2.uses) d (lb d) fun a S=>leafL ⟨d,S⟩
   ·exact fM 19 (some 18) d d d d (.inr d) d d d
   refine leafT (bI _ _ ?_)
   refine sSeq (fun de bN=>sSeq (fun df bO=>sRegion (sM S fun a S=>?_)))
   refine sBin _ S (wN d) d d d (bLt _ _ _ _ .i64 (w64 ((w64 ((w64 (aq - ar)) - a6.uses)) - a2.uses)) 1) d (lb d) fun a S=>lT (bO _ _ ?_)
   rcases iS h with ⟨aV,h⟩ | ⟨aV,h⟩
   ·refine sCondT S d aV (sSeq (fun dg bP=>sRegion (sBuild [] [iv 0,.slice none 0 0] S (wN d) d d d d (lb d) fun a S=>sStore (p:=au) (off:=0) (T:=40) (vs:=[iv 0,.slice none 0 0]) (v:=.agg #[iv 0,.slice none 0 0]) 3 [iv 0,.slice none 0 0] S (wN d) d d d d d d d (by simp) d fun a w S=>sN S fun a S=>?_)))
    refine lT (bP _ _ ?_)
    obtain rfl:=tS h
    have h:=d4
    try dsimp only at h
    obtain rfl:=tS h
    obtain rfl:=bz _ d
    have h:=d3
    try dsimp only at h
    obtain rfl:=tS h
    have h:=d1
    try dsimp only at h
    obtain rfl:=tS h
    have S:=S.learn (fRep (rL r_api_Row) (.slice none 0 0) ([]:(List api_Row))) (rL_nil _ _ _)
    have S:=S.learn (fRep r_api_Chart (.agg #[iv 0,.slice none 0 0]) (api_Chart.mk 0 ([]:(List api_Row)))) ⟨_,d,S.mem.know (i:=0) (e:=fRep (rL r_api_Row) (.slice none 0 0) ([]:(List api_Row))) d⟩
    exact wp_ret (rThen (rBlock (rThen (rThen (rBlock (rThen (sRet (.tuple #[.agg #[iv 0,.slice none 0 0],iv 22]) S (rsl2 d (rvN (c:=2) (t:=40) (T:=40) (p:=au) 0 [iv 0,.slice none 0 0] S d d d d) (rvT (t:=3) (v:=iv 22) S d)) ⟨(.agg #[iv 0,.slice none 0 0]),d,S.mem.sel [] [0] (by decide) d d⟩)))))))
   refine sCondF S d aV (wp_skip (leafT (bN _ _ ?_)))
   refine sSeq (fun dh bQ=>sRegion (sN S fun a S=>?_))
   refine lT (bQ _ _ ?_)
   obtain ⟨cK,h,cL⟩:=bS h
   refine sCut (fun a w=>∃ aW,aW=cK∧∃ aR,∃ aS,St [] E [] w0 127 a w [(1,.pointer (some ⟨aa,0,none⟩)),(2,.pointer (some ⟨au,0,none⟩)),(5,.pointer (some ⟨ap,0,none⟩)),(6,iv al),(8,.pointer (some ⟨ab,0,none⟩)),(9,iv (w64 ((w64 ((w64 (aq - ar)) - a6.uses)) - a2.uses))),(10,.slice aR aW.length aS)] [eBox aa 30 [.slice ac p0.Left.length ae,.slice af p0.Right.length ag],eBox au 40 [iv 0,.slice none 0 0],eBox ap 40 [iv (w64 (ah - ai)),.slice a7 aj.length a8],eBox ab 81 [.int .u8 a2.s.Kind,.bool a2.s.Purl,iv a2.s.A,iv a2.s.B,iv a2.uses],eRow r_api_Stitch 56 (.slice aR aW.length aS) aW,eRow r_api_Row 54 (.slice a7 aj.length a8) aj] [fRep (rL (rI .i64)) (.slice ac p0.Left.length ae) p0.Left,fRep (rL (rI .i64)) (.slice af p0.Right.length ag) p0.Right]) ?_ (fun a w hI=>?_)
   ·refine sSeq (fun di bR=>sRegion (sField (b:=aG) (off:=0) 0 0 S (wN d) d d d d d (lb d) fun a S=>sField (b:=aG) (off:=0) 0 0 S (wN d) d d d d d (lb d) fun a S=>sLoad1 1 (.int .u8 a6.s.Kind) S (wN d) d d d d d d (lb d) fun a S=>sBin _ S (wN d) d d d (bNe _ _ _ _ .u8 a6.s.Kind 0) d (lb d) fun a S=>lT (bR _ _ ?_)))
    rcases iS h with ⟨aX,h⟩ | ⟨aX,h⟩
    rotate_left
    ·refine sCondF S d aX ?_
     have S:=S.nilRow r_api_Stitch 56 (α:=api_Stitch)
     exact wp_skip (leafT (⟨([]:List api_Stitch),Option.some.inj h,none,0,S.fix [3,4,5,1,0,6] [20,21] (by decide) d d d⟩))
    refine sCondT S d aX (sRegion (sM S fun a S=>?_))
    refine sField (b:=aG) (off:=0) 0 0 S (wN d) d d d d d (lb d) fun a S=>sLoadN (p:=aG) (off:=0) (T:=81) (vs:=[.int .u8 a6.s.Kind,.bool a6.s.Purl,iv a6.s.A,iv a6.s.B,iv a6.uses]) 1 [.int .u8 a6.s.Kind,.bool a6.s.Purl,iv a6.s.A,iv a6.s.B] S (wN d) d d d d d d d (lb d) fun a S=>?_
    have S:=S.learn (fRep r_api_Stitch (.agg #[.int .u8 a6.s.Kind,.bool a6.s.Purl,iv a6.s.A,iv a6.s.B]) a6.s) d
    refine sLit (r:=r_api_Stitch) (T:=56) (xs:=[a6.s]) [(0,.agg #[.int .u8 a6.s.Kind,.bool a6.s.Purl,iv a6.s.A,iv a6.s.B])] 1 [.agg #[.int .u8 a6.s.Kind,.bool a6.s.Purl,iv a6.s.A,iv a6.s.B]] [.int .u8 a6.s.Kind,.bool a6.s.Purl,iv a6.s.A,iv a6.s.B] (.agg #[.int .u8 0,.bool false,iv 0,iv 0]) 24 S (wN d) d d Tryd.underlying52 d (by decide) (by decide) (by kernel_rfl) d (fun E1 w1 hE=>All.cons (r_api_Stitch.mono hE (S.mem.know (i:=0) (e:=fRep r_api_Stitch (.agg #[.int .u8 a6.s.Kind,.bool a6.s.Purl,iv a6.s.A,iv a6.s.B]) a6.s) d)) (All.nil _ _ _)) d d (lb d) fun a w bT bU S=>?_
    have S:=S.nilRow r_api_Stitch 56 (α:=api_Stitch)
    obtain ⟨cM,bV,h⟩:=bS h
    refine sApp (r:=r_api_Stitch) (T:=56) (xs:=([]:List api_Stitch)) (ys:=[a6.s]) (v:=.slice none 0 0) (u:=.slice bT [a6.s].length bU) 0 (.agg #[.int .u8 0,.bool false,iv 0,iv 0]) 24 S (wN d) d Tryd.underlying52 d d (by decide) d d d (src_R (T:=56) 1 S.mem d) bV d (lb d) fun a w bW bX S=>sN S fun a S=>?_
    exact lT (⟨cM,Option.some.inj h,bW,bX,S.fix [4,5,6,2,0,7] [21,22] (by decide) d d d⟩)
   obtain ⟨aW,rfl,aR,aS,S⟩:=hI
   have h:=cL
   try dsimp only at h
   obtain ⟨cN,h,cO⟩:=bS h
   refine sCut (fun a w=>∃ aI,aI=cN∧∃ aJ,∃ aK,St [] E [] w0 127 a w [(1,.pointer (some ⟨aa,0,none⟩)),(2,.pointer (some ⟨au,0,none⟩)),(5,.pointer (some ⟨ap,0,none⟩)),(6,iv al),(8,.pointer (some ⟨ab,0,none⟩)),(10,.slice aJ aI.length aK)] [eBox aa 30 [.slice ac p0.Left.length ae,.slice af p0.Right.length ag],eBox au 40 [iv 0,.slice none 0 0],eBox ap 40 [iv (w64 (ah - ai)),.slice a7 aj.length a8],eBox ab 81 [.int .u8 a2.s.Kind,.bool a2.s.Purl,iv a2.s.A,iv a2.s.B,iv a2.uses],eRow r_api_Stitch 56 (.slice aJ aI.length aK) aI,eRow r_api_Row 54 (.slice a7 aj.length a8) aj] [fRep (rL (rI .i64)) (.slice ac p0.Left.length ae) p0.Left,fRep (rL (rI .i64)) (.slice af p0.Right.length ag) p0.Right]) ?_ (fun a w hI=>?_)
   ·refine sSeq (fun dj bY=>sRegion (sM S fun a S=>?_))
    refine sM S fun a S=>?_
    refine lT (bY _ _ (wp_block ?_))
    obtain ⟨dk,hl,cP⟩:=bS h
    refine sLoop hl (fun s0 a w=>match s0 with | (aQ,aZ)=>∃ aL,∃ aM,St [] E [] w0 127 a w [(1,.pointer (some ⟨aa,0,none⟩)),(2,.pointer (some ⟨au,0,none⟩)),(5,.pointer (some ⟨ap,0,none⟩)),(6,iv al),(8,.pointer (some ⟨ab,0,none⟩)),(10,.slice aL aQ.length aM),(92,iv (w64 ((w64 ((w64 (aq - ar)) - a6.uses)) - a2.uses))),(93,iv aZ)] [eBox aa 30 [.slice ac p0.Left.length ae,.slice af p0.Right.length ag],eBox au 40 [iv 0,.slice none 0 0],eBox ap 40 [iv (w64 (ah - ai)),.slice a7 aj.length a8],eBox ab 81 [.int .u8 a2.s.Kind,.bool a2.s.Purl,iv a2.s.A,iv a2.s.B,iv a2.uses],eRow r_api_Stitch 56 (.slice aL aQ.length aM) aQ,eRow r_api_Row 54 (.slice a7 aj.length a8) aj] [fRep (rL (rI .i64)) (.slice ac p0.Left.length ae) p0.Left,fRep (rL (rI .i64)) (.slice af p0.Right.length ag) p0.Right]) ⟨aR,aS,S.fix [0,1,2,3,4,5] [0,1] (by decide) d d d⟩ ?_
    clear hl h
    intro s0 a w c0 hI h bZ
    obtain ⟨aQ,aZ⟩:=s0
    unfold piece_Chart_l1 at h
    dsimp only at h hI
    obtain ⟨aL,aM,S⟩:=hI
    refine sSeq (fun dl c1=>sRegion (sBin _ S (wN d) d d d (bLt _ _ _ _ .i64 aZ (w64 ((w64 ((w64 (aq - ar)) - a6.uses)) - a2.uses))) d (lb d) fun a S=>lT (c1 _ _ (sSeq (fun dm c2=>?_)))))
    rcases iS h with ⟨b0,h⟩ | ⟨b0,h⟩
    rotate_left
    ·refine sCondF S d b0 ?_
     obtain rfl:=tS h
     obtain rfl:=bZ _ d
     have h:=cP
     try dsimp only at h
     exact wp_exit (xThen (xThen (xHit (leafT (⟨aQ,Option.some.inj h,aL,aM,S.fix [0,1,2,3,4,5] [0,1] (by decide) d d d⟩)))))
    refine sCondT S d b0 (wp_skip (leafT (c2 _ _ ?_)))
    refine sSeq (fun dn c3=>wp_block ?_)
    refine sRegion (sM S fun a S=>?_)
    refine sBuild [(0,.int .u8 1)] [.int .u8 1,.bool false,iv 0,iv 0] S (wN d) d d d d (lb d) fun a S=>?_
    have S:=S.learn (fRep r_api_Stitch (.agg #[.int .u8 1,.bool false,iv 0,iv 0]) (api_Stitch.mk 1 false 0 0)) d
    refine sLit (r:=r_api_Stitch) (T:=56) (xs:=[(api_Stitch.mk 1 false 0 0)]) [(0,.agg #[.int .u8 1,.bool false,iv 0,iv 0])] 1 [.agg #[.int .u8 1,.bool false,iv 0,iv 0]] [.int .u8 1,.bool false,iv 0,iv 0] (.agg #[.int .u8 0,.bool false,iv 0,iv 0]) 24 S (wN d) d d Tryd.underlying52 d (by decide) (by decide) (by kernel_rfl) d (fun E1 w1 hE=>All.cons (r_api_Stitch.mono hE (S.mem.know (i:=0) (e:=fRep r_api_Stitch (.agg #[.int .u8 1,.bool false,iv 0,iv 0]) (api_Stitch.mk 1 false 0 0)) d)) (All.nil _ _ _)) d d (lb d) fun a w c4 c5 S=>?_
    obtain ⟨cQ,c6,h⟩:=bS h
    refine sApp (r:=r_api_Stitch) (T:=56) (xs:=aQ) (ys:=[(api_Stitch.mk 1 false 0 0)]) (v:=.slice aL aQ.length aM) (u:=.slice c4 [(api_Stitch.mk 1 false 0 0)].length c5) 5 (.agg #[.int .u8 0,.bool false,iv 0,iv 0]) 24 S (wN d) d Tryd.underlying52 d d (by decide) d d d (src_R (T:=56) 0 S.mem d) c6 d (lb d) fun a w c7 c8 S=>sN S fun a S=>?_
    refine leafL (leafB (leafT (c3 _ _ ?_)))
    refine sRegion (sBin _ S (wN d) d d d (bAdd _ _ _ _ aZ 1) d (lb d) fun a S=>sM S fun a S=>?_)
    exact lT (⟨(cQ,w64 (aZ + 1)),(Option.some.inj h).symm,⟨c7,c8,S.fix [2,3,4,5,0,6] [1,2] (by decide) d d d⟩⟩)
   obtain ⟨aI,rfl,aJ,aK,S⟩:=hI
   have h:=cO
   try dsimp only at h
   obtain ⟨cR,h,cS⟩:=bS h
   refine sCut (fun a w=>∃ av,av=cR∧∃ aw,∃ ax,St [] E [] w0 127 a w [(1,.pointer (some ⟨aa,0,none⟩)),(2,.pointer (some ⟨au,0,none⟩)),(5,.pointer (some ⟨ap,0,none⟩)),(6,iv al),(10,.slice aw av.length ax)] [eBox aa 30 [.slice ac p0.Left.length ae,.slice af p0.Right.length ag],eBox au 40 [iv 0,.slice none 0 0],eBox ap 40 [iv (w64 (ah - ai)),.slice a7 aj.length a8],eRow r_api_Stitch 56 (.slice aw av.length ax) av,eRow r_api_Row 54 (.slice a7 aj.length a8) aj] [fRep (rL (rI .i64)) (.slice ac p0.Left.length ae) p0.Left,fRep (rL (rI .i64)) (.slice af p0.Right.length ag) p0.Right]) ?_ (fun a w hI=>?_)
   ·refine sSeq (fun dp c9=>sRegion (sField (b:=ab) (off:=0) 0 0 S (wN d) d d d d d (lb d) fun a S=>sField (b:=ab) (off:=0) 0 0 S (wN d) d d d d d (lb d) fun a S=>sLoad1 3 (.int .u8 a2.s.Kind) S (wN d) d d d d d d (lb d) fun a S=>sBin _ S (wN d) d d d (bNe _ _ _ _ .u8 a2.s.Kind 0) d (lb d) fun a S=>lT (c9 _ _ ?_)))
    rcases iS h with ⟨b1,h⟩ | ⟨b1,h⟩
    rotate_left
    ·refine sCondF S d b1 ?_
     exact wp_skip (leafT (⟨aI,Option.some.inj h,aJ,aK,S.fix [0,1,2,4,5] [0,1] (by decide) d d d⟩))
    refine sCondT S d b1 (sRegion (sM S fun a S=>?_))
    refine sField (b:=ab) (off:=0) 0 0 S (wN d) d d d d d (lb d) fun a S=>sLoadN (p:=ab) (off:=0) (T:=81) (vs:=[.int .u8 a2.s.Kind,.bool a2.s.Purl,iv a2.s.A,iv a2.s.B,iv a2.uses]) 3 [.int .u8 a2.s.Kind,.bool a2.s.Purl,iv a2.s.A,iv a2.s.B] S (wN d) d d d d d d d (lb d) fun a S=>?_
    have S:=S.learn (fRep r_api_Stitch (.agg #[.int .u8 a2.s.Kind,.bool a2.s.Purl,iv a2.s.A,iv a2.s.B]) a2.s) d
    refine sLit (r:=r_api_Stitch) (T:=56) (xs:=[a2.s]) [(0,.agg #[.int .u8 a2.s.Kind,.bool a2.s.Purl,iv a2.s.A,iv a2.s.B])] 1 [.agg #[.int .u8 a2.s.Kind,.bool a2.s.Purl,iv a2.s.A,iv a2.s.B]] [.int .u8 a2.s.Kind,.bool a2.s.Purl,iv a2.s.A,iv a2.s.B] (.agg #[.int .u8 0,.bool false,iv 0,iv 0]) 24 S (wN d) d d Tryd.underlying52 d (by decide) (by decide) (by kernel_rfl) d (fun E1 w1 hE=>All.cons (r_api_Stitch.mono hE (S.mem.know (i:=0) (e:=fRep r_api_Stitch (.agg #[.int .u8 a2.s.Kind,.bool a2.s.Purl,iv a2.s.A,iv a2.s.B]) a2.s) d)) (All.nil _ _ _)) d d (lb d) fun a w ca cb S=>?_
    obtain ⟨cT,cc,h⟩:=bS h
    refine sApp (r:=r_api_Stitch) (T:=56) (xs:=aI) (ys:=[a2.s]) (v:=.slice aJ aI.length aK) (u:=.slice ca [a2.s].length cb) 5 (.agg #[.int .u8 0,.bool false,iv 0,iv 0]) 24 S (wN d) d Tryd.underlying52 d d (by decide) d d d (src_R (T:=56) 0 S.mem d) cc d (lb d) fun a w cd ce S=>sN S fun a S=>?_
    exact lT (⟨cT,Option.some.inj h,cd,ce,S.fix [2,3,4,0,6] [1,2] (by decide) d d d⟩)
   obtain ⟨av,rfl,aw,ax,S⟩:=hI
   have h:=cS
   try dsimp only at h
   refine sSeq (fun dr cf=>sRegion (sM S fun a S=>?_))
   obtain ⟨ay,cg,h⟩:=bS h
   refine sBin _ S (wN d) d d d (bRem _ _ _ _ (x:=al) (y:=2) cg) d (lb d) fun a S=>sBin _ S (wN d) d d d (bEq _ _ _ _ .i64 ay 1) d (lb d) fun a S=>sN S fun a S=>?_
   refine lT (cf _ _ ?_)
   obtain ⟨cU,h,cV⟩:=bS h
   refine sCut (fun a w=>∃ ak,ak=cU∧∃ am,∃ ao,St [] E [] w0 127 a w [(1,.pointer (some ⟨aa,0,none⟩)),(2,.pointer (some ⟨au,0,none⟩)),(5,.pointer (some ⟨ap,0,none⟩)),(6,iv al),(10,.slice am ak.length ao),(11,.bool (ay == 1))] [eBox aa 30 [.slice ac p0.Left.length ae,.slice af p0.Right.length ag],eBox au 40 [iv 0,.slice none 0 0],eBox ap 40 [iv (w64 (ah - ai)),.slice a7 aj.length a8],eRow r_api_Row 54 (.slice a7 aj.length a8) aj] [fRep (rL r_api_Stitch) (.slice am ak.length ao) ak,fRep (rL (rI .i64)) (.slice ac p0.Left.length ae) p0.Left,fRep (rL (rI .i64)) (.slice af p0.Right.length ag) p0.Right]) ?_ (fun a w hI=>?_)
   ·refine sSeq (fun dt ci=>sRegion (sM S fun a S=>?_))
    refine lT (ci _ _ ?_)
    rcases iS h with ⟨b8,h⟩ | ⟨b8,h⟩
    rotate_left
    ·refine sCondF S d b8 ?_
     have S:=S.shutR (r:=r_api_Stitch) (T:=56) (v:=.slice aw av.length ax) (xs:=av) 3 d
     exact wp_skip (leafT (⟨av,Option.some.inj h,aw,ax,S.fix [0,1,2,3] [0,1,2] (by decide) d d d⟩))
    refine sCondT S d b8 (sRegion (sM S fun a S=>?_))
    obtain ⟨aC,cj,h⟩:=bS h
    have S:=S.shutR (r:=r_api_Stitch) (T:=56) (v:=.slice aw av.length ax) (xs:=av) 3 d
    refine sCall (X:=Value) (f:=39) (vs:=[.slice aw av.length ax]) (val:=c_stitch_Turn_val aC) (B':=fun _=>[]) (D':=c_stitch_Turn_D aC) [] [eBox aa 30 [.slice ac p0.Left.length ae,.slice af p0.Right.length ag],eBox au 40 [iv 0,.slice none 0 0],eBox ap 40 [iv (w64 (ah - ai)),.slice a7 aj.length a8],eRow r_api_Row 54 (.slice a7 aj.length a8) aj] [fRep (rL r_api_Stitch) (.slice aw av.length ax) av] [0,1,2,3] [0] S (wN d) d callee39 d (by decide) d d (fun E1 w1 S1=>c_stitch_Turn E1 w1 av (.slice aw av.length ax) aC cj S1) d (lb d) fun cW a w S=>?_
    obtain ⟨aT,aU,_,rfl,_⟩:=S.mem.know (i:=0) (e:=fRep (rL r_api_Stitch) (cW) aC.1) d
    refine sM S fun a S=>?_
    refine sExtract (vs:=[.slice aT aC.1.length aU,iv aC.2]) (.slice aT aC.1.length aU) S (wN d) d d d d (lb d) fun a S=>sExtract (vs:=[.slice aT aC.1.length aU,iv aC.2]) (iv aC.2) S (wN d) d d d d (lb d) fun a S=>sN S fun a S=>?_
    exact lT (⟨aC.1,Option.some.inj h,aT,aU,S.fix [0,1,2,3] [0,2,3] (by decide) d d d⟩)
   obtain ⟨ak,rfl,am,ao,S⟩:=hI
   have h:=cV
   try dsimp only at h
   refine sRegion (sField (b:=ap) (off:=0) 1 1 S (wN d) d d d d d (lb d) fun a S=>sLoad1 2 (.slice a7 aj.length a8) S (wN d) d d d d d d (lb d) fun a S=>sM S fun a S=>?_)
   refine sM S fun a S=>?_
   refine sBuild [(0,.bool (ay == 1)),(1,.slice am ak.length ao)] [.bool (ay == 1),.slice am ak.length ao] S (wN d) d d d d (lb d) fun a S=>?_
   have S:=S.learn (fRep r_api_Row (.agg #[.bool (ay == 1),.slice am ak.length ao]) (api_Row.mk (ay == 1) ak)) ⟨_,d,S.mem.know (i:=0) (e:=fRep (rL r_api_Stitch) (.slice am ak.length ao) ak) d⟩
   refine sLit (r:=r_api_Row) (T:=54) (xs:=[(api_Row.mk (ay == 1) ak)]) [(0,.agg #[.bool (ay == 1),.slice am ak.length ao])] 1 [.agg #[.bool (ay == 1),.slice am ak.length ao]] [.bool (ay == 1),.slice am ak.length ao] (.agg #[.bool false,.slice none 0 0]) 32 S (wN d) d d Tryd.underlying38 d (by decide) (by decide) (by kernel_rfl) d (fun E1 w1 hE=>All.cons (r_api_Row.mono hE (S.mem.know (i:=0) (e:=fRep r_api_Row (.agg #[.bool (ay == 1),.slice am ak.length ao]) (api_Row.mk (ay == 1) ak)) d)) (All.nil _ _ _)) d d (lb d) fun a w ck cl S=>?_
   obtain ⟨bp,cm,h⟩:=bS h
   refine sApp (r:=r_api_Row) (T:=54) (xs:=aj) (ys:=[(api_Row.mk (ay == 1) ak)]) (v:=.slice a7 aj.length a8) (u:=.slice ck [(api_Row.mk (ay == 1) ak)].length cl) 4 (.agg #[.bool false,.slice none 0 0]) 32 S (wN d) d Tryd.underlying38 d d (by decide) d d d (src_R (T:=54) 0 S.mem d) cm d (lb d) fun a w ba bb S=>sField (b:=ap) (off:=0) 1 1 S (wN d) d d d d d (lb d) fun a S=>sStore (p:=ap) (off:=1) (T:=40) (vs:=[iv (w64 (ah - ai)),.slice a7 aj.length a8]) (v:=.slice ba bp.length bb) 4 [.slice ba bp.length bb] S (wN d) d d d d d d d (by simp) d fun a w S=>?_
   exact leafL (leafB (leafT (⟨bp,Option.some.inj h,ba,bb,S.fix [3,4,0,1] [2,3] (by decide) d d d⟩)))
  refine node_by (A:=anc_piece_Chart_2) 15 (by kernel_rfl) (by kernel_rfl) (by kernel_rfl) (by kernel_rfl) (by kernel_rfl) [0,1,2,3,4,5,6,7,8,9,10,11] (by kernel_rfl) (by decide) (by decide) (fF ?_ (fF ?_ (fF ?_ (fF ?_ (fF ?_ (fF ?_ (fF ?_ (fF ?_ (fF ?_ (fF ?_ (fF ?_ (fF ?_ (fN ?_ (fN ?_ (aB 14 0 12 (by decide) (trivial)))))))))))))))) [] (fun q hq=>by cases hq) (fun hY=>absurd (hY 12 (by decide)) (by decide))
  ·refine fJ [(1,_)] 0 [none] fun G a w S=>?_
   exact sField (b:=aa) (off:=0) 0 0 S (wN d) d d d d d (lb d) fun a S=>leafL ⟨d,S⟩
  ·refine fJ [(48,_)] 1 [some 0] fun G a w S=>?_
   exact sLoad1 1 (.slice ac p0.Left.length ae) S (wN d) d d d d d d (lb d) fun a S=>leafL ⟨d,S⟩
  ·exact fM 2 none d d d d (.inl d) d d d
  ·refine fJ [(50,_)] 3 [some 2] fun G a w S=>?_
   exact sBin _ S (wN d) d d d (bSub _ _ _ _ al 1) d (lb d) fun a S=>leafL ⟨d,S⟩
  ·refine fJ [(49,_),(51,_)] 4 [some 1,some 3] fun G a w S=>?_
   exact sIdxV S (wN d) d d d bi d (lb d) fun a S=>leafL ⟨d,S⟩
  ·refine fJ [(52,_)] 5 [some 4] fun G a w S=>?_
   exact sLoadV1 (vq:=bg) 3 (iv ar) S (wN d) d d d d d (lb d) fun a S=>leafL ⟨d,S⟩
  ·refine fJ [(1,_)] 6 [none] fun G a w S=>?_
   exact sField (b:=aa) (off:=0) 0 0 S (wN d) d d d d d (lb d) fun a S=>leafL ⟨d,S⟩
  ·refine fJ [(54,_)] 7 [some 6] fun G a w S=>?_
   exact sLoad1 1 (.slice ac p0.Left.length ae) S (wN d) d d d d d d (lb d) fun a S=>leafL ⟨d,S⟩
  ·exact fM 8 none d d d d (.inl d) d d d
  ·refine fJ [(55,_),(56,_)] 9 [some 7,some 8] fun G a w S=>?_
   exact sIdxV S (wN d) d d d bj d (lb d) fun a S=>leafL ⟨d,S⟩
  ·refine fJ [(57,_)] 10 [some 9] fun G a w S=>?_
   exact sLoadV1 (vq:=bh) 0 (iv aP) S (wN d) d d d d d (lb d) fun a S=>leafL ⟨d,S⟩
  ·refine fJ [(53,_),(58,_)] 11 [some 5,some 10] fun G a w S=>?_
   exact sBin _ S (wN d) d d d (bSub _ _ _ _ ar aP) d (lb d) fun a S=>leafL ⟨d,S⟩
  ·refine ⟨_,[(59,iv (w64 (ar - aP)))],d,(srcs_of [some 11] d d d),fun G a w S=>?_⟩
   refine sCall (X:=Value) (f:=38) (vs:=[iv (w64 (ar - aP)),.int .u8 4]) (val:=c_piece_bend_val a2) (B':=fun _=>[]) (D':=c_piece_bend_D a2) [] [eBox aG 81 [.int .u8 a6.s.Kind,.bool a6.s.Purl,iv a6.s.A,iv a6.s.B,iv a6.uses],eBox aa 30 [.slice ac p0.Left.length ae,.slice af p0.Right.length ag],eBox au 40 [iv 0,.slice none 0 0],eBox ap 40 [iv (w64 (ah - ai)),.slice a7 aj.length a8],eRow r_api_Row 54 (.slice a7 aj.length a8) aj] [] [0,1,2,3,4] [] S (wN d) d callee38 d (by decide) d d (fun E1 w1 S1=>c_piece_bend E1 w1 (w64 (ar - aP)) 4 a2 bF S1) d (lb d) fun cn a w S=>?_
   obtain rfl:cn=.agg #[.int .u8 a2.s.Kind,.bool a2.s.Purl,iv a2.s.A,iv a2.s.B,iv a2.uses]:=S.mem.know (i:=0) (e:=fRep r_piece_edge (cn) a2) d
   refine leafL ⟨d,_,_,.inl ⟨60,(.agg #[.int .u8 a2.s.Kind,.bool a2.s.Purl,iv a2.s.A,iv a2.s.B,iv a2.uses]),[],d,S,hz_of d,?_⟩⟩
   refine node_by (A:=anc_piece_Chart_2) 15 (by kernel_rfl) (by kernel_rfl) (by kernel_rfl) (by kernel_rfl) (by kernel_rfl) [12,0,1,2,3,4,5,6,7,8,9,10,11] (by kernel_rfl) (by decide) (by decide) (fD 12 (fD 12 (fD 12 (fD 12 (fD 12 (fD 12 (fD 12 (fD 12 (fD 12 (fD 12 (fD 12 (fD 12 (fY (fN ?_ (aB 14 0 13 (by decide) (trivial)))))))))))))))) [] (fun q hq=>by cases hq) (fun hY=>absurd (hY 13 (by decide)) (by decide))
   refine ⟨_,[],d,(srcs_of [] d d d),fun G a w S=>?_⟩
   refine sAlloc (.agg #[.int .u8 0,.bool false,iv 0,iv 0,iv 0]) S (wN d) d d [.int .u8 0,.bool false,iv 0,iv 0,iv 0] d d (lb d) fun a ab w S=>leafL ⟨d,_,_,.inl ⟨8,(.pointer (some ⟨ab,0,none⟩)),[],d,S,hz_of d,?_⟩⟩
   exact nd1 ab
  refine ⟨_,[],d,(srcs_of [] d d d),fun G a w S=>?_⟩
  refine sAlloc (.agg #[.int .u8 0,.bool false,iv 0,iv 0,iv 0]) S (wN d) d d [.int .u8 0,.bool false,iv 0,iv 0,iv 0] d d (lb d) fun a bq w S=>leafL ⟨d,_,_,.inl ⟨8,(.pointer (some ⟨bq,0,none⟩)),[],d,S,hz_of d,?_⟩⟩
  refine node_by (A:=anc_piece_Chart_2) 15 (by kernel_rfl) (by kernel_rfl) (by kernel_rfl) (by kernel_rfl) (by kernel_rfl) [13,0,1,2,3,4,5,6,7,8,9,10,11] (by kernel_rfl) (by decide) (by decide) (fF ?_ (fF ?_ (fF ?_ (fF ?_ (fF ?_ (fF ?_ (fF ?_ (fF ?_ (fF ?_ (fF ?_ (fF ?_ (fF ?_ (fN ?_ (fY (aB 14 0 12 (by decide) (trivial)))))))))))))))) [] (fun q hq=>by cases hq) (fun hY=>absurd (hY 12 (by decide)) (by decide))
  ·refine fJ [(1,_)] 1 [none] fun G a w S=>?_
   exact sField (b:=aa) (off:=0) 0 0 S (wN d) d d d d d (lb d) fun a S=>leafL ⟨d,S⟩
  ·refine fJ [(48,_)] 2 [some 1] fun G a w S=>?_
   exact sLoad1 2 (.slice ac p0.Left.length ae) S (wN d) d d d d d d (lb d) fun a S=>leafL ⟨d,S⟩
  ·exact fM 3 none d d d d (.inl d) d d d
  ·refine fJ [(50,_)] 4 [some 3] fun G a w S=>?_
   exact sBin _ S (wN d) d d d (bSub _ _ _ _ al 1) d (lb d) fun a S=>leafL ⟨d,S⟩
  ·refine fJ [(49,_),(51,_)] 5 [some 2,some 4] fun G a w S=>?_
   exact sIdxV S (wN d) d d d bi d (lb d) fun a S=>leafL ⟨d,S⟩
  ·refine fJ [(52,_)] 6 [some 5] fun G a w S=>?_
   exact sLoadV1 (vq:=bg) 3 (iv ar) S (wN d) d d d d d (lb d) fun a S=>leafL ⟨d,S⟩
  ·refine fJ [(1,_)] 7 [none] fun G a w S=>?_
   exact sField (b:=aa) (off:=0) 0 0 S (wN d) d d d d d (lb d) fun a S=>leafL ⟨d,S⟩
  ·refine fJ [(54,_)] 8 [some 7] fun G a w S=>?_
   exact sLoad1 2 (.slice ac p0.Left.length ae) S (wN d) d d d d d d (lb d) fun a S=>leafL ⟨d,S⟩
  ·exact fM 9 none d d d d (.inl d) d d d
  ·refine fJ [(55,_),(56,_)] 10 [some 8,some 9] fun G a w S=>?_
   exact sIdxV S (wN d) d d d bj d (lb d) fun a S=>leafL ⟨d,S⟩
  ·refine fJ [(57,_)] 11 [some 10] fun G a w S=>?_
   exact sLoadV1 (vq:=bh) 0 (iv aP) S (wN d) d d d d d (lb d) fun a S=>leafL ⟨d,S⟩
  ·refine fJ [(53,_),(58,_)] 12 [some 6,some 11] fun G a w S=>?_
   exact sBin _ S (wN d) d d d (bSub _ _ _ _ ar aP) d (lb d) fun a S=>leafL ⟨d,S⟩
  refine ⟨_,[(59,iv (w64 (ar - aP)))],d,(srcs_of [some 12] d d d),fun G a w S=>?_⟩
  refine sCall (X:=Value) (f:=38) (vs:=[iv (w64 (ar - aP)),.int .u8 4]) (val:=c_piece_bend_val a2) (B':=fun _=>[]) (D':=c_piece_bend_D a2) [] [eBox bq 81 [.int .u8 0,.bool false,iv 0,iv 0,iv 0],eBox aG 81 [.int .u8 a6.s.Kind,.bool a6.s.Purl,iv a6.s.A,iv a6.s.B,iv a6.uses],eBox aa 30 [.slice ac p0.Left.length ae,.slice af p0.Right.length ag],eBox au 40 [iv 0,.slice none 0 0],eBox ap 40 [iv (w64 (ah - ai)),.slice a7 aj.length a8],eRow r_api_Row 54 (.slice a7 aj.length a8) aj] [] [0,1,2,3,4,5] [] S (wN d) d callee38 d (by decide) d d (fun E1 w1 S1=>c_piece_bend E1 w1 (w64 (ar - aP)) 4 a2 bF S1) d (lb d) fun co a w S=>?_
  obtain rfl:co=.agg #[.int .u8 a2.s.Kind,.bool a2.s.Purl,iv a2.s.A,iv a2.s.B,iv a2.uses]:=S.mem.know (i:=0) (e:=fRep r_piece_edge (co) a2) d
  refine leafL ⟨d,_,_,.inl ⟨60,(.agg #[.int .u8 a2.s.Kind,.bool a2.s.Purl,iv a2.s.A,iv a2.s.B,iv a2.uses]),[],d,S,hz_of d,?_⟩⟩
  exact nodePerm (nd1 bq) [1,0,2,3,4,5,6,7,8,9,10,11,12,13] [0,1,2,3,4,5] [0,1,2,3,4,5,6,7,8,9,10,11,12,13,14,15] (by decide) (by decide) d d d
 refine node_by (A:=anc_piece_Chart_1) 15 (by kernel_rfl) (by kernel_rfl) (by kernel_rfl) (by kernel_rfl) (by kernel_rfl) [0,1,2,3,4,5,6,7,8,9,10,11] (by kernel_rfl) (by decide) (by decide) (fF ?_ (fF ?_ (fF ?_ (fF ?_ (fF ?_ (fF ?_ (fF ?_ (fF ?_ (fF ?_ (fF ?_ (fF ?_ (fF ?_ (fN ?_ (fN ?_ (aB 14 0 12 (by decide) (trivial)))))))))))))))) [] (fun q hq=>by cases hq) (fun hY=>absurd (hY 12 (by decide)) (by decide))
 ·refine fJ [(1,_)] 0 [none] fun G a w S=>?_
  exact sField (b:=aa) (off:=0) 1 1 S (wN d) d d d d d (lb d) fun a S=>leafL ⟨d,S⟩
 ·refine fJ [(35,_)] 1 [some 0] fun G a w S=>?_
  exact sLoad1 0 (.slice af p0.Right.length ag) S (wN d) d d d d d d (lb d) fun a S=>leafL ⟨d,S⟩
 ·exact fM 2 none d d d d (.inl d) d d d
 ·refine fJ [(36,_),(37,_)] 3 [some 1,some 2] fun G a w S=>?_
  exact sIdxV S (wN d) d d d bC d (lb d) fun a S=>leafL ⟨d,S⟩
 ·refine fJ [(38,_)] 4 [some 3] fun G a w S=>?_
  exact sLoadV1 (vq:=ct) 3 (iv aO) S (wN d) d d d d d (lb d) fun a S=>leafL ⟨d,S⟩
 ·refine fJ [(1,_)] 5 [none] fun G a w S=>?_
  exact sField (b:=aa) (off:=0) 1 1 S (wN d) d d d d d (lb d) fun a S=>leafL ⟨d,S⟩
 ·refine fJ [(40,_)] 6 [some 5] fun G a w S=>?_
  exact sLoad1 0 (.slice af p0.Right.length ag) S (wN d) d d d d d d (lb d) fun a S=>leafL ⟨d,S⟩
 ·exact fM 7 none d d d d (.inl d) d d d
 ·refine fJ [(42,_)] 8 [some 7] fun G a w S=>?_
  exact sBin _ S (wN d) d d d (bSub _ _ _ _ al 1) d (lb d) fun a S=>leafL ⟨d,S⟩
 ·refine fJ [(41,_),(43,_)] 9 [some 6,some 8] fun G a w S=>?_
  exact sIdxV S (wN d) d d d bD d (lb d) fun a S=>leafL ⟨d,S⟩
 ·refine fJ [(44,_)] 10 [some 9] fun G a w S=>?_
  exact sLoadV1 (vq:=cu) 0 (iv aq) S (wN d) d d d d d (lb d) fun a S=>leafL ⟨d,S⟩
 ·refine fJ [(39,_),(45,_)] 11 [some 4,some 10] fun G a w S=>?_
  exact sBin _ S (wN d) d d d (bSub _ _ _ _ aO aq) d (lb d) fun a S=>leafL ⟨d,S⟩
 ·refine ⟨_,[(46,iv (w64 (aO - aq)))],d,(srcs_of [some 11] d d d),fun G a w S=>?_⟩
  refine sCall (X:=Value) (f:=38) (vs:=[iv (w64 (aO - aq)),.int .u8 3]) (val:=c_piece_bend_val a6) (B':=fun _=>[]) (D':=c_piece_bend_D a6) [] [eBox aa 30 [.slice ac p0.Left.length ae,.slice af p0.Right.length ag],eBox au 40 [iv 0,.slice none 0 0],eBox ap 40 [iv (w64 (ah - ai)),.slice a7 aj.length a8],eRow r_api_Row 54 (.slice a7 aj.length a8) aj] [] [0,1,2,3] [] S (wN d) d callee38 d (by decide) d d (fun E1 w1 S1=>c_piece_bend E1 w1 (w64 (aO - aq)) 3 a6 bB S1) d (lb d) fun d7 a w S=>?_
  obtain rfl:d7=.agg #[.int .u8 a6.s.Kind,.bool a6.s.Purl,iv a6.s.A,iv a6.s.B,iv a6.uses]:=S.mem.know (i:=0) (e:=fRep r_piece_edge (d7) a6) d
  refine leafL ⟨d,_,_,.inl ⟨47,(.agg #[.int .u8 a6.s.Kind,.bool a6.s.Purl,iv a6.s.A,iv a6.s.B,iv a6.uses]),[],d,S,hz_of d,?_⟩⟩
  refine node_by (A:=anc_piece_Chart_1) 15 (by kernel_rfl) (by kernel_rfl) (by kernel_rfl) (by kernel_rfl) (by kernel_rfl) [12,0,1,2,3,4,5,6,7,8,9,10,11] (by kernel_rfl) (by decide) (by decide) (fD 12 (fD 12 (fD 12 (fD 12 (fD 12 (fD 12 (fD 12 (fD 12 (fD 12 (fD 12 (fD 12 (fD 12 (fY (fN ?_ (aB 14 0 13 (by decide) (trivial)))))))))))))))) [] (fun q hq=>by cases hq) (fun hY=>absurd (hY 13 (by decide)) (by decide))
  refine ⟨_,[],d,(srcs_of [] d d d),fun G a w S=>?_⟩
  refine sAlloc (.agg #[.int .u8 0,.bool false,iv 0,iv 0,iv 0]) S (wN d) d d [.int .u8 0,.bool false,iv 0,iv 0,iv 0] d d (lb d) fun a aG w S=>leafL ⟨d,_,_,.inl ⟨7,(.pointer (some ⟨aG,0,none⟩)),[],d,S,hz_of d,?_⟩⟩
  exact nd1 aG
 refine ⟨_,[],d,(srcs_of [] d d d),fun G a w S=>?_⟩
 refine sAlloc (.agg #[.int .u8 0,.bool false,iv 0,iv 0,iv 0]) S (wN d) d d [.int .u8 0,.bool false,iv 0,iv 0,iv 0] d d (lb d) fun a br w S=>leafL ⟨d,_,_,.inl ⟨7,(.pointer (some ⟨br,0,none⟩)),[],d,S,hz_of d,?_⟩⟩
 refine node_by (A:=anc_piece_Chart_1) 15 (by kernel_rfl) (by kernel_rfl) (by kernel_rfl) (by kernel_rfl) (by kernel_rfl) [13,0,1,2,3,4,5,6,7,8,9,10,11] (by kernel_rfl) (by decide) (by decide) (fF ?_ (fF ?_ (fF ?_ (fF ?_ (fF ?_ (fF ?_ (fF ?_ (fF ?_ (fF ?_ (fF ?_ (fF ?_ (fF ?_ (fN ?_ (fY (aB 14 0 12 (by decide) (trivial)))))))))))))))) [] (fun q hq=>by cases hq) (fun hY=>absurd (hY 12 (by decide)) (by decide))
 ·refine fJ [(1,_)] 1 [none] fun G a w S=>?_
  exact sField (b:=aa) (off:=0) 1 1 S (wN d) d d d d d (lb d) fun a S=>leafL ⟨d,S⟩
 ·refine fJ [(35,_)] 2 [some 1] fun G a w S=>?_
  exact sLoad1 1 (.slice af p0.Right.length ag) S (wN d) d d d d d d (lb d) fun a S=>leafL ⟨d,S⟩
 ·exact fM 3 none d d d d (.inl d) d d d
 ·refine fJ [(36,_),(37,_)] 4 [some 2,some 3] fun G a w S=>?_
  exact sIdxV S (wN d) d d d bC d (lb d) fun a S=>leafL ⟨d,S⟩
 ·refine fJ [(38,_)] 5 [some 4] fun G a w S=>?_
  exact sLoadV1 (vq:=ct) 3 (iv aO) S (wN d) d d d d d (lb d) fun a S=>leafL ⟨d,S⟩
 ·refine fJ [(1,_)] 6 [none] fun G a w S=>?_
  exact sField (b:=aa) (off:=0) 1 1 S (wN d) d d d d d (lb d) fun a S=>leafL ⟨d,S⟩
 ·refine fJ [(40,_)] 7 [some 6] fun G a w S=>?_
  exact sLoad1 1 (.slice af p0.Right.length ag) S (wN d) d d d d d d (lb d) fun a S=>leafL ⟨d,S⟩
 ·exact fM 8 none d d d d (.inl d) d d d
 ·refine fJ [(42,_)] 9 [some 8] fun G a w S=>?_
  exact sBin _ S (wN d) d d d (bSub _ _ _ _ al 1) d (lb d) fun a S=>leafL ⟨d,S⟩
 ·refine fJ [(41,_),(43,_)] 10 [some 7,some 9] fun G a w S=>?_
  exact sIdxV S (wN d) d d d bD d (lb d) fun a S=>leafL ⟨d,S⟩
 ·refine fJ [(44,_)] 11 [some 10] fun G a w S=>?_
  exact sLoadV1 (vq:=cu) 0 (iv aq) S (wN d) d d d d d (lb d) fun a S=>leafL ⟨d,S⟩
 ·refine fJ [(39,_),(45,_)] 12 [some 5,some 11] fun G a w S=>?_
  exact sBin _ S (wN d) d d d (bSub _ _ _ _ aO aq) d (lb d) fun a S=>leafL ⟨d,S⟩
 refine ⟨_,[(46,iv (w64 (aO - aq)))],d,(srcs_of [some 12] d d d),fun G a w S=>?_⟩
 refine sCall (X:=Value) (f:=38) (vs:=[iv (w64 (aO - aq)),.int .u8 3]) (val:=c_piece_bend_val a6) (B':=fun _=>[]) (D':=c_piece_bend_D a6) [] [eBox br 81 [.int .u8 0,.bool false,iv 0,iv 0,iv 0],eBox aa 30 [.slice ac p0.Left.length ae,.slice af p0.Right.length ag],eBox au 40 [iv 0,.slice none 0 0],eBox ap 40 [iv (w64 (ah - ai)),.slice a7 aj.length a8],eRow r_api_Row 54 (.slice a7 aj.length a8) aj] [] [0,1,2,3,4] [] S (wN d) d callee38 d (by decide) d d (fun E1 w1 S1=>c_piece_bend E1 w1 (w64 (aO - aq)) 3 a6 bB S1) d (lb d) fun cp a w S=>?_
 obtain rfl:cp=.agg #[.int .u8 a6.s.Kind,.bool a6.s.Purl,iv a6.s.A,iv a6.s.B,iv a6.uses]:=S.mem.know (i:=0) (e:=fRep r_piece_edge (cp) a6) d
 refine leafL ⟨d,_,_,.inl ⟨47,(.agg #[.int .u8 a6.s.Kind,.bool a6.s.Purl,iv a6.s.A,iv a6.s.B,iv a6.uses]),[],d,S,hz_of d,?_⟩⟩
 exact nodePerm (nd1 br) [1,0,2,3,4,5,6,7,8,9,10,11,12,13] [0,1,2,3,4] [0,1,2,3,4,5,6,7,8] (by decide) (by decide) d d d
noncomputable def F_slices_Backward___api_Stitch_api_Stitch__s0 (p0:(List api_Stitch)):Option (List api_Stitch):=
 some p0
def c_slices_Backward___api_Stitch_api_Stitch__s0_val (r:(List api_Stitch)) (x:Value):Value:=.func (.func 67) #[] #[x]
def c_slices_Backward___api_Stitch_api_Stitch__s0_D (r:(List api_Stitch)) (x:Value):List Fact:=[fPtr (rL r_api_Stitch) x r]
theorem c_slices_Backward___api_Stitch_api_Stitch__s0 (E:Nat→Prop) (w0:World) (p0:(List api_Stitch)) (v0:Value) (r:(List api_Stitch)) (h:F_slices_Backward___api_Stitch_api_Stitch__s0 p0=some r) (S:St0 E [] w0 w0 [] [fRep (rL r_api_Stitch) (v0) p0]) :
 Calls Tryd.prog 51 #[v0] w0 (Ret (X:=Value) E [] w0 (c_slices_Backward___api_Stitch_api_Stitch__s0_val r) (fun _=>[]) (c_slices_Backward___api_Stitch_api_Stitch__s0_D r)):=by
 unfold F_slices_Backward___api_Stitch_api_Stitch__s0 at h
 obtain ⟨a2,a6,_,rfl,_⟩:=S.know (i:=0) (e:=fRep (rL r_api_Stitch) (v0) p0) d
 refine sEnter (args:=[.slice a2 p0.length a6]) 4 Tryd.func51 d d (by simp) S (fun a S=>?_)
 refine sSeq (fun K3 a7=>sRegion (sBox (v:=.slice a2 p0.length a6) S (wN d) d d [.slice a2 p0.length a6] d d (lb d) fun a b4 w S=>sN S fun a S=>?_))
 refine lT (a7 _ _ (sSeq (fun K5 a8=>sRegion (sFunc (g:=67) (vs:=[.pointer (some ⟨b4,0,none⟩)]) S (wN d) d d d (lb d) fun a S=>?_))))
 refine sN S fun a S=>?_
 refine lT (a8 _ _ ?_)
 have S:=S.shutB (r:=(rL r_api_Stitch)) (T:=52) (b:=b4) (cs:=[.slice a2 p0.length a6]) 0 (.slice a2 p0.length a6) p0 d d (S.mem.know (i:=0) (e:=fRep (rL r_api_Stitch) (.slice a2 p0.length a6) p0) d)
 obtain rfl:=tS h
 exact wp_ret (sRet (.func (.func 67) #[] #[.pointer (some ⟨b4,0,none⟩)]) S (rsl1 d (rvT (t:=2) (v:=.func (.func 67) #[] #[.pointer (some ⟨b4,0,none⟩)]) S d)) ⟨(.pointer (some ⟨b4,0,none⟩)),d,S.mem.sel [] [0] (by decide) d d⟩)
noncomputable def stitch_Turn_s0_l2 :List api_Stitch→(Int × api_Stitch)→Option (List api_Stitch ⊕ Empty):=fun s0 x0=>match s0,x0 with
 | a7,(ae,a2)=>
  (F_stitch_forms a2.Kind).bind fun a6=>
  Option.bind (α:=Bool) (
   if a6.1.sided then
    some (!a2.Purl)
   else
    some false) fun a8=>
  Option.bind (α:=(Int × Int)) (
   if decide (0 < a6.1.b.2) then
    some (a2.B,a2.A)
   else
    some (a2.A,a2.B)) fun (aa,ab)=>
  (appO a7 [(api_Stitch.mk a2.Kind a8 aa ab)]).bind fun ac=>
  some (.inl ac)
noncomputable def F_stitch_Turn_s0 (p0:(List api_Stitch)):Option ((List api_Stitch) × Int):=
 (F_stitch_All p0).bind fun r6=>
 if r6 != 0 then
  some (([]:(List api_Stitch)),r6)
 else
  (capO (p0.length:Int)).bind fun a7=>
  (F_slices_Backward___api_Stitch_api_Stitch__s0 p0).bind fun a2=>
  (I_slices_Backward___api_Stitch_api_Stitch__1 a2 _ _ (stitch_Turn_s0_l2) ([]:List api_Stitch)).bind fun z0=>match z0 with
   | .inl a6=>
    some (a6,0)
   | .inr z0=>
    nomatch z0
theorem c_stitch_Turn_s0 (E:Nat→Prop) (w0:World) (p0:(List api_Stitch)) (v0:Value) (r:((List api_Stitch) × Int)) (h:F_stitch_Turn_s0 p0=some r) (S:St0 E [] w0 w0 [] [fRep (rL r_api_Stitch) (v0) p0]) :
 Calls Tryd.prog 39 #[v0] w0 (Ret (X:=Option Addr × Nat) E [] w0 (fun x=>.tuple #[.slice x.1 r.1.length x.2,iv r.2]) (fun x=>[eRow r_api_Stitch 56 (.slice x.1 r.1.length x.2) r.1]) (fun _=>[])):=by
 unfold F_stitch_Turn_s0 at h
 obtain ⟨au,av,_,rfl,_⟩:=S.know (i:=0) (e:=fRep (rL r_api_Stitch) (v0) p0) d
 refine sEnterM (args:=[.slice au p0.length av]) 51 Tryd.func39 d d (by simp) S (fun a S=>?_)
 refine sSeq (fun K3 aW=>sRegion (sN S fun a S=>?_))
 refine sN S fun a S=>?_
 refine lT (aW _ _ (sSeq (fun K4 aX=>sSeq (fun K5 aZ=>sRegion (sM S fun a S=>?_)))))
 obtain ⟨r6,b0,h⟩:=bS h
 have S1:=S.mem
 refine sCq [.slice au p0.length av] (iv r6) S callee40 (S1.quiet [0] d) (fun E1 w1 S1=>c_stitch_All E1 w1 p0 (.slice au p0.length av) r6 b0 S1) fun a w S=>?_
 refine sN S fun a S=>?_
 refine lT (aZ _ _ (sSeq (fun K8 b1=>sRegion (sM S fun a S=>?_))))
 refine sBin _ S (wN d) d d d (bNe _ _ _ _ .i64 r6 0) d (lb d) fun a S=>lT (b1 _ _ ?_)
 rcases iS h with ⟨ay,h⟩ | ⟨ay,h⟩
 ·refine sCondT S d ay (sSeq (fun bg az=>sRegion (sM S fun a S=>?_)))
  refine sN S fun a S=>?_
  refine sN S fun a S=>?_
  refine lT (az _ _ ?_)
  obtain rfl:=tS h
  have S:=S.nilRow r_api_Stitch 56 (α:=api_Stitch)
  exact wp_ret (rThen (sRetM0 (.tuple #[.slice none 0 0,iv r6]) S (rsl2 d (rvT (t:=2) (v:=.slice none 0 0) S d) (rvT (t:=3) (v:=iv r6) S d)) ⟨(none,0),d,S.mem.sel [0] [] (by decide) d d⟩))
 refine sCondF S d ay (wp_skip (leafT (aX _ _ ?_)))
 refine sSeq (fun bh aA=>sRegion (sM S fun a S=>?_))
 refine sLen S (wN d) d Tryd.underlying52 d d (lb d) fun a S=>?_
 obtain ⟨b8,aC,h⟩:=bS h
 refine sMake0 r_api_Stitch (m:=(p0.length:Int)) (u:=b8) (.agg #[.int .u8 0,.bool false,iv 0,iv 0]) 24 S (wN d) d Tryd.underlying52 d (by decide) d d aC d (lb d) fun a w ae af S=>?_
 refine sAlloc (.slice none 0 0) S (wN d) d d [.slice none 0 0] d d (lb d) fun a aj w S=>sStore (p:=aj) (off:=0) (T:=52) (vs:=[.slice none 0 0]) (v:=.slice ae ([]:List api_Stitch).length af) 0 [.slice ae ([]:List api_Stitch).length af] S (wN d) d d d d d d d (by simp) d fun a w S=>lT (aA _ _ (sSeq (fun bi aG=>sSeq (fun bj aH=>sRegion (sM S fun a S=>?_)))))
 obtain ⟨al,aI,h⟩:=bS h
 refine sCall (X:=Value) (f:=51) (vs:=[.slice au p0.length av]) (val:=c_slices_Backward___api_Stitch_api_Stitch__s0_val al) (B':=fun _=>[]) (D':=c_slices_Backward___api_Stitch_api_Stitch__s0_D al) [] [eBox aj 52 [.slice ae ([]:List api_Stitch).length af],eRow r_api_Stitch 56 (.slice ae ([]:List api_Stitch).length af) ([]:List api_Stitch)] [fRep (rL r_api_Stitch) (.slice au p0.length av) p0] [0,1] [0] S (wN d) d callee51 d (by decide) d d (fun E1 w1 S1=>c_slices_Backward___api_Stitch_api_Stitch__s0 E1 w1 p0 (.slice au p0.length av) al aI S1) d (lb d) fun ak a w S=>?_
 refine lT (aH _ _ (wp_block ?_))
 obtain ⟨bl,am,ax⟩:=bS h
 replace S:St [] E [] w0 51 a w [(5,.pointer (some ⟨aj,0,none⟩)),(19,.func (.func 67) #[] #[ak])] [eBox aj 52 [.slice ae ([]:List api_Stitch).length af],eRow r_api_Stitch 56 (.slice ae ([]:List api_Stitch).length af) ([]:List api_Stitch)] [fPtr (rL r_api_Stitch) (ak) al]:=S.fix [0,1] [0] (by decide) rfl rfl rfl
 refine sRange2 (B:=stitch_Turn_s0_l2) (fun s0 L D=>match s0 with | a8=>∃ a6,∃ a7,L=[eBox aj 52 [.slice a6 a8.length a7],eRow r_api_Stitch 56 (.slice a6 a8.length a7) a8]∧D=[fPtr (rL r_api_Stitch) (ak) al]) (fun _ _ _ _=>False) [0] S am d callee67 (it_slices_Backward___api_Stitch_api_Stitch__1 al ak) d (by decide) (by decide) ⟨ae,af,d,d⟩ ?_ ?_ ?_
 ·intro E l0 a8 aS a2 aT aU b L D K a w0 hK hIL hB S
  clear am ax h hK
  unfold stitch_Turn_s0_l2 at hB
  dsimp only at hB hIL
  obtain ⟨a6,a7,rfl,rfl⟩:=hIL
  have h:=hB
  clear hB
  obtain rfl:aT=iv aS:=S.mem.know (i:=0) (e:=fRep (rI .i64) (aT) aS) d
  obtain rfl:aU=.agg #[.int .u8 a2.Kind,.bool a2.Purl,iv a2.A,iv a2.B]:=S.mem.know (i:=1) (e:=fRep r_api_Stitch (aU) a2) d
  refine sRegionR (by repeat (first | exact roundU_out | exact it_out | exact lo_false | refine lo_then ?_ | refine lo_block ?_)) d ?_
  refine sAlloc (.agg #[.int .u8 0,.bool false,iv 0,iv 0]) S (wN d) d d [.int .u8 0,.bool false,iv 0,iv 0] d d (lb d) fun a ab w S=>sStore (p:=ab) (off:=0) (T:=56) (vs:=[.int .u8 0,.bool false,iv 0,iv 0]) (v:=.agg #[.int .u8 a2.Kind,.bool a2.Purl,iv a2.A,iv a2.B]) 0 [.int .u8 a2.Kind,.bool a2.Purl,iv a2.A,iv a2.B] S (wN d) d d d d d d d (by simp) d fun a w S=>lT (⟨_,_,_,S,fun K a w0 hK S=>?_⟩)
  refine wpIn_block ?_
  refine sSeqR (fun bm aJ=>sRegionR (by repeat (first | exact roundU_out | exact it_out | exact lo_false | refine lo_then ?_ | refine lo_block ?_)) d ?_)
  refine sField (b:=ab) (off:=0) 0 0 S (wN d) d d d d d (lb d) fun a S=>sLoad1 0 (.int .u8 a2.Kind) S (wN d) d d d d d d (lb d) fun a S=>?_
  obtain ⟨aa,aK,h⟩:=bS h
  refine sCall (X:=Value) (f:=52) (vs:=[.int .u8 a2.Kind]) (val:=c_stitch_forms_val aa) (B':=fun _=>[]) (D':=c_stitch_forms_D aa) [] [eBox ab 56 [.int .u8 a2.Kind,.bool a2.Purl,iv a2.A,iv a2.B],eBox aj 52 [.slice a6 a8.length a7],eRow r_api_Stitch 56 (.slice a6 a8.length a7) a8] [] [0,1,2] [] S (wN d) d callee52 d (by decide) d d (fun E1 w1 S1=>c_stitch_forms E1 w1 a2.Kind aa aK S1) d (lb d) fun aV a w S=>?_
  obtain rfl:aV=gv_stitch_form aa.1:=S.mem.know (i:=0) (e:=fRep r_stitch_form (aV) aa.1) d
  refine sM S fun a S=>?_
  refine sExtract (vs:=[gv_stitch_form aa.1,.bool aa.2]) (gv_stitch_form aa.1) S (wN d) d d d d (lb d) fun a S=>sExtract (vs:=[gv_stitch_form aa.1,.bool aa.2]) (.bool aa.2) S (wN d) d d d d (lb d) fun a S=>sAlloc (gv_stitch_form (stitch_form.mk (⟨#[]⟩:ByteArray) (0,0) (0,0) false 0 0)) S (wN d) d d (gl_stitch_form (stitch_form.mk (⟨#[]⟩:ByteArray) (0,0) (0,0) false 0 0)) d d (lb d) fun a aw w S=>sStore (p:=aw) (off:=0) (T:=100) (vs:=[.string (⟨#[]⟩:ByteArray),iv 0,iv 0,iv 0,iv 0,.bool false,iv 0,iv 0]) (v:=gv_stitch_form aa.1) 0 [.string aa.1.letter,iv aa.1.a.1,iv aa.1.a.2,iv aa.1.b.1,iv aa.1.b.2,.bool aa.1.sided,iv aa.1.uses,iv aa.1.made] S (wN d) d d d d d d d (by simp) d fun a w S=>sN S fun a S=>?_
  refine lT (aJ _ _ ?_)
  obtain ⟨ba,h,bb⟩:=bS h
  refine sCutR (fun a w=>∃ ac,ac=ba∧St [] E K w0 51 a w [(5,.pointer (some ⟨aj,0,none⟩)),(7,.pointer (some ⟨ab,0,none⟩)),(8,.pointer (some ⟨aw,0,none⟩)),(19,.func (.func 67) #[] #[ak]),(21,.agg #[.int .u8 a2.Kind,.bool a2.Purl,iv a2.A,iv a2.B])] [eBox aj 52 [.slice a6 a8.length a7],eBox ab 56 [.int .u8 a2.Kind,.bool ac,iv a2.A,iv a2.B],eBox aw 100 (gl_stitch_form aa.1),eRow r_api_Stitch 56 (.slice a6 a8.length a7) a8] [fPtr (rL r_api_Stitch) (ak) al]) ?_ (fun a w hI=>?_)
  ·refine sRegionR (by repeat (first | exact roundU_out | exact it_out | exact lo_false | refine lo_then ?_ | refine lo_block ?_)) d ?_
   refine sField (b:=aw) (off:=0) 5 5 S (wN d) d d d d d (lb d) fun a S=>sLoad1 0 (.bool aa.1.sided) S (wN d) d d d d d d (lb d) fun a S=>sM S fun a S=>?_
   rcases iS h with ⟨ag,h⟩ | ⟨ag,h⟩
   rotate_left
   ·refine sSkN 3 2 true 30 S d d ag d fun a S=>sPickF (.bool false) S (wN d) d d ag d d (lb d) fun a S=>sField (b:=ab) (off:=0) 1 1 S (wN d) d d d d d (lb d) fun a S=>sStore (p:=ab) (off:=1) (T:=56) (vs:=[.int .u8 a2.Kind,.bool a2.Purl,iv a2.A,iv a2.B]) (v:=.bool false) 1 [.bool false] S (wN d) d d d d d d d (by simp) d fun a w S=>?_
    exact lT (⟨false,Option.some.inj h,S.fix [2,0,1,3] [3] (by decide) d d d⟩)
   refine sField (b:=ab) (off:=0) 1 1 S (wG 2 true 30 d d d ag) d d d d d (lb d) fun a S=>sLoad1 1 (.bool a2.Purl) S (wG 2 true 30 d d d ag) d d d d d d (lb d) fun a S=>sNot (b:=a2.Purl) S (wG 2 true 30 d d d ag) d d d (lb d) fun a S=>sPickT (.bool (!a2.Purl)) S (wN d) d d ag d d (lb d) fun a S=>sField (b:=ab) (off:=0) 1 1 S (wN d) d d d d d (lb d) fun a S=>sStore (p:=ab) (off:=1) (T:=56) (vs:=[.int .u8 a2.Kind,.bool a2.Purl,iv a2.A,iv a2.B]) (v:=.bool (!a2.Purl)) 1 [.bool (!a2.Purl)] S (wN d) d d d d d d d (by simp) d fun a w S=>?_
   exact lT (⟨!a2.Purl,Option.some.inj h,S.fix [2,0,1,3] [3] (by decide) d d d⟩)
  obtain ⟨ac,rfl,S⟩:=hI
  have h:=bb
  try dsimp only at h
  obtain ⟨bc,h,bf⟩:=bS h
  refine sCutR (fun a w=>∃ ah,∃ ai,(ah,ai)=bc∧St [] E K w0 51 a w [(5,.pointer (some ⟨aj,0,none⟩)),(7,.pointer (some ⟨ab,0,none⟩)),(19,.func (.func 67) #[] #[ak]),(21,.agg #[.int .u8 a2.Kind,.bool a2.Purl,iv a2.A,iv a2.B])] [eBox aj 52 [.slice a6 a8.length a7],eBox ab 56 [.int .u8 a2.Kind,.bool ac,iv ah,iv ai],eRow r_api_Stitch 56 (.slice a6 a8.length a7) a8] [fPtr (rL r_api_Stitch) (ak) al]) ?_ (fun a w hI=>?_)
  rotate_left
  ·obtain ⟨ah,ai,rfl,S⟩:=hI
   have h:=bf
   try dsimp only at h
   refine sRegionR (by repeat (first | exact roundU_out | exact it_out | exact lo_false | refine lo_then ?_ | refine lo_block ?_)) d ?_
   refine sLoad1 0 (.slice a6 a8.length a7) S (wN d) d d d d d d (lb d) fun a S=>sLoadN (p:=ab) (off:=0) (T:=56) (vs:=[.int .u8 a2.Kind,.bool ac,iv ah,iv ai]) 1 [.int .u8 a2.Kind,.bool ac,iv ah,iv ai] S (wN d) d d d d d d d (lb d) fun a S=>?_
   have S:=S.learn (fRep r_api_Stitch (.agg #[.int .u8 a2.Kind,.bool ac,iv ah,iv ai]) (api_Stitch.mk a2.Kind ac ah ai)) d
   refine sLit (r:=r_api_Stitch) (T:=56) (xs:=[(api_Stitch.mk a2.Kind ac ah ai)]) [(0,.agg #[.int .u8 a2.Kind,.bool ac,iv ah,iv ai])] 1 [.agg #[.int .u8 a2.Kind,.bool ac,iv ah,iv ai]] [.int .u8 a2.Kind,.bool ac,iv ah,iv ai] (.agg #[.int .u8 0,.bool false,iv 0,iv 0]) 24 S (wN d) d d Tryd.underlying52 d (by decide) (by decide) (by kernel_rfl) d (fun E1 w1 hE=>All.cons (r_api_Stitch.mono hE (S.mem.know (i:=0) (e:=fRep r_api_Stitch (.agg #[.int .u8 a2.Kind,.bool ac,iv ah,iv ai]) (api_Stitch.mk a2.Kind ac ah ai)) d)) (All.nil _ _ _)) d d (lb d) fun a w aL aM S=>?_
   obtain ⟨aO,aP,h⟩:=bS h
   refine sApp (r:=r_api_Stitch) (T:=56) (xs:=a8) (ys:=[(api_Stitch.mk a2.Kind ac ah ai)]) (v:=.slice a6 a8.length a7) (u:=.slice aL [(api_Stitch.mk a2.Kind ac ah ai)].length aM) 3 (.agg #[.int .u8 0,.bool false,iv 0,iv 0]) 24 S (wN d) d Tryd.underlying52 d d (by decide) d d d (src_R (T:=56) 0 S.mem d) aP d (lb d) fun a w ao ap S=>sStore (p:=aj) (off:=0) (T:=52) (vs:=[.slice a6 a8.length a7]) (v:=.slice ao aO.length ap) 2 [.slice ao aO.length ap] S (wN d) d d d d d d d (by simp) d fun a w S=>?_
   exact leafL (leafB (rnN aO _ _ [] (Option.some.inj h) ⟨ao,ap,d,d⟩ (S.fix [0,1] [1] (by decide) d d d)))
  refine sSeqR (fun bn aQ=>sRegionR (by repeat (first | exact roundU_out | exact it_out | exact lo_false | refine lo_then ?_ | refine lo_block ?_)) d ?_)
  refine sField (b:=aw) (off:=0) 3 3 S (wN d) d d d d d (lb d) fun a S=>sIdxV S (wN d) d d d (idxV_arr (m:=2) (sz:=1) Tryd.underlying61 d (by decide) (by decide) 3) d (lb d) fun a S=>sLoad1 2 (iv aa.1.b.2) S (wN d) d d d d d d (lb d) fun a S=>sBin _ S (wN d) d d d (bGt _ _ _ _ .i64 aa.1.b.2 0) d (lb d) fun a S=>lT (aQ _ _ ?_)
  rcases iS h with ⟨aq,h⟩ | ⟨aq,h⟩
  rotate_left
  ·refine sCondFR S d aq ?_
   exact wpIn_skip (leafT (⟨a2.A,a2.B,Option.some.inj h,S.fix [0,1,3] [0] (by decide) d d d⟩))
  refine sCondTR S d aq ?_
  refine sRegionR (by repeat (first | exact roundU_out | exact it_out | exact lo_false | refine lo_then ?_ | refine lo_block ?_)) d ?_
  refine sField (b:=ab) (off:=0) 3 3 S (wN d) d d d d d (lb d) fun a S=>sLoad1 1 (iv a2.B) S (wN d) d d d d d d (lb d) fun a S=>sField (b:=ab) (off:=0) 2 2 S (wN d) d d d d d (lb d) fun a S=>sLoad1 1 (iv a2.A) S (wN d) d d d d d d (lb d) fun a S=>sField (b:=ab) (off:=0) 2 2 S (wN d) d d d d d (lb d) fun a S=>sStore (p:=ab) (off:=2) (T:=56) (vs:=[.int .u8 a2.Kind,.bool ac,iv a2.A,iv a2.B]) (v:=iv a2.B) 1 [iv a2.B] S (wN d) d d d d d d d (by simp) d fun a w S=>sField (b:=ab) (off:=0) 3 3 S (wN d) d d d d d (lb d) fun a S=>sStore (p:=ab) (off:=3) (T:=56) (vs:=[.int .u8 a2.Kind,.bool ac,iv a2.B,iv a2.B]) (v:=iv a2.A) 0 [iv a2.A] S (wN d) d d d d d d d (by simp) d fun a w S=>?_
  exact lT (⟨a2.B,a2.A,Option.some.inj h,S.fix [1,0,3] [0] (by decide) d d d⟩)
 ·intro ar a8 L D a w hr hIL S
  clear h
  obtain rfl:=hr
  dsimp only at ax hIL
  obtain ⟨a6,a7,rfl,rfl⟩:=hIL
  have h:=ax
  clear ax am
  replace S:St [mark ar] E [] w0 51 a w [(5,.pointer (some ⟨aj,0,none⟩)),(19,.func (.func 67) #[] #[ak])] [eBox aj 52 [.slice a6 a8.length a7],eRow r_api_Stitch 56 (.slice a6 a8.length a7) a8,eDef ar] [fPtr (rL r_api_Stitch) (ak) al]:=S
  refine leafB (leafT (aG _ _ ?_))
  refine sSeq (fun bo aR=>sRegion (sLoad1 0 (.slice a6 a8.length a7) S (wN d) d d d d d d (lb d) fun a S=>sN S fun a S=>?_))
  refine sN S fun a S=>?_
  refine lT (aR _ _ (wp_ret (sRetM1 2 S d (fun a w S=>?_))))
  obtain rfl:=tS h
  exact sFin (.tuple #[.slice a6 a8.length a7,iv 0]) S (rsl2 d (rvT (t:=2) (v:=.slice a6 a8.length a7) S d) (rvT (t:=3) (v:=iv 0) S d)) ⟨(a6,a7),d,S.mem.sel [1] [] (by decide) d d⟩
 ·intro ar c0 t0 L D a w hr hIX S
  clear h
  exact hIX.elim
def anc_piece_Chart_s0_0:List (List Nat):=[[],[0],[0,1],[0,1,2],[],[4],[4,5],[4,5,6],[0,1,2,3,4,5,6,7],[0,1,2,3,4,5,6,7,8],[],[0,1,2,3,4,5,6,7,8,9,10]]
def anc_piece_Chart_s0_1:List (List Nat):=[[],[0],[],[0,1,2],[0,1,2,3],[],[5],[],[7],[5,6,7,8],[5,6,7,8,9],[0,1,2,3,4,5,6,7,8,9,10],[0,1,2,3,4,5,6,7,8,9,10,11],[],[0,1,2,3,4,5,6,7,8,9,10,11,12,13]]
def anc_piece_Chart_s0_2:List (List Nat):=[[],[0],[],[2],[0,1,2,3],[0,1,2,3,4],[],[6],[],[6,7,8],[6,7,8,9],[0,1,2,3,4,5,6,7,8,9,10],[0,1,2,3,4,5,6,7,8,9,10,11],[],[0,1,2,3,4,5,6,7,8,9,10,11,12,13]]
def anc_piece_Chart_s0_3:List (List Nat):=[[],[0],[],[2],[0,1,2,3],[0,1,2,3,4],[],[6],[],[8],[6,7,8,9],[6,7,8,9,10],[0,1,2,3,4,5,6,7,8,9,10,11],[],[13],[0,1,2,3,4,5,6,7,8,9,10,11,12,13,14],[],[16],[0,1,2,3,4,5,6,7,8,9,10,11,12,13,14,15,16,17],[0,1,2,3,4,5,6,7,8,9,10,11,12,13,14,15,16,17,18]]
noncomputable def piece_Chart_s0_l1 (a8:Int) (aa:Int) (ab:piece_edge) (ac:piece_edge):(List api_Stitch × Int)→Option ((List api_Stitch × Int) ⊕ List api_Stitch):=fun s0=>match s0 with
 | (a2,a6)=>
  if decide (a6 < (w64 ((w64 ((w64 (a8 - aa)) - ab.uses)) - ac.uses))) then
   (appO a2 [(api_Stitch.mk 1 false 0 0)]).bind fun a7=>
   some (.inl (a7,w64 (a6 + 1)))
  else
   some (.inr a2)
noncomputable def piece_Chart_s0_l2 (p0:api_Piece):(Int × List api_Row)→Option ((Int × List api_Row) ⊕ ((api_Chart × Int) ⊕ (List api_Row))):=fun s0=>match s0 with
 | (a2,am)=>
  if decide (a2 < (p0.Left.length:Int)) then
   Option.bind (α:=List api_Row ⊕ (api_Chart × Int)) (
    (idxO p0.Right a2).bind fun ao=>
    (idxO p0.Right (w64 (a2 - 1))).bind fun ac=>
    (F_piece_bend (w64 (ao - ac)) 3).bind fun aa=>
    (idxO p0.Left (w64 (a2 - 1))).bind fun ae=>
    (idxO p0.Left a2).bind fun ap=>
    (F_piece_bend (w64 (ae - ap)) 4).bind fun ab=>
    if decide ((w64 ((w64 ((w64 (ac - ae)) - aa.uses)) - ab.uses)) < 1) then
     some (.inr ((api_Chart.mk 0 ([]:(List api_Row))),22))
    else
     Option.bind (α:=List api_Stitch) (
      if aa.s.Kind != 0 then
       (appO ([]:List api_Stitch) [aa.s]).bind fun af=>
       some af
      else
       some ([]:List api_Stitch)) fun ag=>
     Option.bind (α:=List api_Stitch) (
      (whileO (piece_Chart_s0_l1 ac ae aa ab) (ag,0)).bind fun ah=>
       some ah) fun a6=>
     Option.bind (α:=List api_Stitch) (
      if ab.s.Kind != 0 then
       (appO a6 [ab.s]).bind fun ai=>
       some ai
      else
       some a6) fun a7=>
     (remI a2 2).bind fun a8=>
     Option.bind (α:=List api_Stitch) (
      if a8 == 1 then
       (F_stitch_Turn_s0 a7).bind fun aj=>
       some aj.1
      else
       some a7) fun ak=>
     (appO am [(api_Row.mk (a8 == 1) ak)]).bind fun al=>
     some (.inl al)) fun z0=>match z0 with
    | .inl aq=>
     some (.inl (w64 (a2 + 1),aq))
    | .inr z=>
     some (.inr (.inl z))
  else
   some (.inr (.inr am))
noncomputable def F_piece_Chart_s0 (p0:api_Piece):Option (api_Chart × Int):=
 (F_piece_Check p0).bind fun a2=>
 if a2 != 0 then
  some ((api_Chart.mk 0 ([]:(List api_Row))),a2)
 else
  (idxO p0.Right 0).bind fun a6=>
  (idxO p0.Left 0).bind fun a7=>
  Option.bind (α:=List api_Row ⊕ (api_Chart × Int)) (
   (whileO (piece_Chart_s0_l2 p0) (1,([]:List api_Row))).bind fun z0=>match z0 with
    | .inl z=>
     some (.inr z)
    | .inr a8=>
     some (.inl a8)) fun z0=>match z0 with
   | .inl aa=>
    some ((api_Chart.mk (w64 (a6 - a7)) aa),0)
   | .inr z=>
    some z
theorem c_piece_Chart_s0 (E:Nat→Prop) (w0:World) (p0:api_Piece) (v0:Value) (r:(api_Chart × Int)) (h:F_piece_Chart_s0 p0=some r) (S:St0 E [] w0 w0 [] [fRep r_api_Piece (v0) p0]) :
 Calls Tryd.prog 17 #[v0] w0 (Ret (X:=Option Addr × Nat) E [] w0 (fun x=>.tuple #[.agg #[iv r.1.Start,.slice x.1 r.1.Rows.length x.2],iv r.2]) (fun x=>[eRow r_api_Row 54 (.slice x.1 r.1.Rows.length x.2) r.1.Rows]) (fun _=>[])):=by
 unfold F_piece_Chart_s0 at h
 obtain ⟨u1,u2,rfl,cW,cX⟩:=S.know (i:=0) (e:=fRep r_api_Piece (v0) p0) d
 have S:=S.learn (fRep (rL (rI .i64)) u1 p0.Left) cW
 obtain ⟨ae,af,_,rfl,_⟩:=cW
 have S:=S.learn (fRep (rL (rI .i64)) u2 p0.Right) cX
 obtain ⟨ag,ah,_,rfl,_⟩:=cX
 refine sEnter (args:=[.agg #[.slice ae p0.Left.length af,.slice ag p0.Right.length ah]]) 127 Tryd.func17 d d (by simp) S (fun a S=>?_)
 refine sSeq (fun K9 d7=>sRegion (sBox (v:=.agg #[.slice ae p0.Left.length af,.slice ag p0.Right.length ah]) S (wN d) d d [.slice ae p0.Left.length af,.slice ag p0.Right.length ah] d d (lb d) fun a aa w S=>sAlloc (.agg #[iv 0,.slice none 0 0]) S (wN d) d d [iv 0,.slice none 0 0] d d (lb d) fun a au w S=>sN S fun a S=>?_))
 refine lT (d7 _ _ (sSeq (fun dt cv=>sSeq (fun du cw=>sRegion (sLoadN (p:=aa) (off:=0) (T:=30) (vs:=[.slice ae p0.Left.length af,.slice ag p0.Right.length ah]) 1 [.slice ae p0.Left.length af,.slice ag p0.Right.length ah] S (wN d) d d d d d d d (lb d) fun a S=>?_)))))
 obtain ⟨bu,cx,h⟩:=bS h
 have S1:=S.mem
 refine sCq [.agg #[.slice ae p0.Left.length af,.slice ag p0.Right.length ah]] (iv bu) S callee13 (S1.quiet [2] d) (fun E1 w1 S1=>c_piece_Check E1 w1 p0 (.agg #[.slice ae p0.Left.length af,.slice ag p0.Right.length ah]) bu cx S1) fun a w S=>?_
 refine sN S fun a S=>?_
 refine lT (cw _ _ (sSeq (fun dv cy=>sRegion (sM S fun a S=>?_))))
 refine sBin _ S (wN d) d d d (bNe _ _ _ _ .i64 bu 0) d (lb d) fun a S=>lT (cy _ _ ?_)
 rcases iS h with ⟨bl,h⟩ | ⟨bl,h⟩
 ·refine sCondT S d bl (sSeq (fun dw cz=>sRegion (sBuild [] [iv 0,.slice none 0 0] S (wN d) d d d d (lb d) fun a S=>sM S fun a S=>?_)))
  refine sStore (p:=au) (off:=0) (T:=40) (vs:=[iv 0,.slice none 0 0]) (v:=.agg #[iv 0,.slice none 0 0]) 0 [iv 0,.slice none 0 0] S (wN d) d d d d d d d (by simp) d fun a w S=>sN S fun a S=>?_
  refine lT (cz _ _ ?_)
  obtain rfl:=tS h
  have S:=S.nilRow r_api_Row 54 (α:=api_Row)
  exact wp_ret (rThen (sRet (.tuple #[.agg #[iv 0,.slice none 0 0],iv bu]) S (rsl2 d (rvN (c:=2) (t:=40) (T:=40) (p:=au) 1 [iv 0,.slice none 0 0] S d d d d) (rvT (t:=3) (v:=iv bu) S d)) ⟨(none,0),d,S.mem.sel [0] [] (by decide) d d⟩))
 refine sCondF S d bl (wp_skip (leafT (cv _ _ ?_)))
 refine sSeq (fun dx cA=>?_)
 obtain ⟨al,cB,h⟩:=bS h
 obtain ⟨am,cC,h⟩:=bS h
 obtain ⟨cq,bv,S⟩:=pIdx (P:=Tryd.prog) (r:=(rI .i64)) (v:=.slice ag p0.Right.length ah) (xs:=p0.Right) (j:=0) 28 3 0 S Tryd.underlying28 d d cB
 obtain ⟨cY,S⟩:=pLoad (r:=(rI .i64)) (q:=cq) (x:=al) 0 S d
 obtain rfl:cY=iv al:=S.mem.know (i:=1) (e:=fRep (rI .i64) (cY) al) d
 obtain ⟨cr,bw,S⟩:=pIdx (P:=Tryd.prog) (r:=(rI .i64)) (v:=.slice ae p0.Left.length af) (xs:=p0.Left) (j:=0) 28 3 4 S Tryd.underlying28 d d cC
 obtain ⟨cZ,S⟩:=pLoad (r:=(rI .i64)) (q:=cr) (x:=am) 0 S d
 obtain rfl:cZ=iv am:=S.mem.know (i:=1) (e:=fRep (rI .i64) (cZ) am) d
 refine sDraw (nf:=[10,11]) (W:=[(0,18,.pointer (some ⟨aa,1,none⟩)),(1,19,.slice ag p0.Right.length ah),(2,20,cq),(3,21,iv al),(4,22,.pointer (some ⟨aa,0,none⟩)),(5,23,.slice ae p0.Left.length af),(6,24,cr),(7,25,iv am),(8,26,iv (w64 (al - am))),(9,27,.agg #[iv (w64 (al - am)),.slice none 0 0])]) d S ?_
 refine node_by (A:=anc_piece_Chart_s0_0) 12 (by kernel_rfl) (by kernel_rfl) (by kernel_rfl) (by kernel_rfl) (by kernel_rfl) [0,1,2,3,4,5,6,7,8,9] (by kernel_rfl) (by decide) (by decide) (fF ?_ (fF ?_ (fF ?_ (fF ?_ (fF ?_ (fF ?_ (fF ?_ (fF ?_ (fF ?_ (fF ?_ (fN ?_ (aB 11 0 10 (by decide) (trivial))))))))))))) [] (fun q hq=>by cases hq) (fun hY=>absurd (hY 10 (by decide)) (by decide))
 ·refine fJ [(1,_)] 0 [none] fun G a w S=>?_
  exact sField (b:=aa) (off:=0) 1 1 S (wN d) d d d d d (lb d) fun a S=>leafL ⟨d,S⟩
 ·refine fJ [(18,_)] 1 [some 0] fun G a w S=>?_
  exact sLoad1 1 (.slice ag p0.Right.length ah) S (wN d) d d d d d d (lb d) fun a S=>leafL ⟨d,S⟩
 ·refine fJ [(19,_)] 2 [some 1] fun G a w S=>?_
  exact sIdxV S (wN d) d d d bv d (lb d) fun a S=>leafL ⟨d,S⟩
 ·refine fJ [(20,_)] 3 [some 2] fun G a w S=>?_
  exact sLoadV1 (vq:=cq) 3 (iv al) S (wN d) d d d d d (lb d) fun a S=>leafL ⟨d,S⟩
 ·refine fJ [(1,_)] 4 [none] fun G a w S=>?_
  exact sField (b:=aa) (off:=0) 0 0 S (wN d) d d d d d (lb d) fun a S=>leafL ⟨d,S⟩
 ·refine fJ [(22,_)] 5 [some 4] fun G a w S=>?_
  exact sLoad1 1 (.slice ae p0.Left.length af) S (wN d) d d d d d d (lb d) fun a S=>leafL ⟨d,S⟩
 ·refine fJ [(23,_)] 6 [some 5] fun G a w S=>?_
  exact sIdxV S (wN d) d d d bw d (lb d) fun a S=>leafL ⟨d,S⟩
 ·refine fJ [(24,_)] 7 [some 6] fun G a w S=>?_
  exact sLoadV1 (vq:=cr) 0 (iv am) S (wN d) d d d d d (lb d) fun a S=>leafL ⟨d,S⟩
 ·refine fJ [(21,_),(25,_)] 8 [some 3,some 7] fun G a w S=>?_
  exact sBin _ S (wN d) d d d (bSub _ _ _ _ al am) d (lb d) fun a S=>leafL ⟨d,S⟩
 ·refine fJ [(26,_)] 9 [some 8] fun G a w S=>?_
  exact sBuild [(0,iv (w64 (al - am)))] [iv (w64 (al - am)),.slice none 0 0] S (wN d) d d d d (lb d) fun a S=>leafL ⟨d,S⟩
 refine ⟨_,[],d,(srcs_of [] d d d),fun G a w S=>?_⟩
 refine sAlloc (.agg #[iv 0,.slice none 0 0]) S (wN d) d d [iv 0,.slice none 0 0] d d (lb d) fun a ap w S=>leafL ⟨d,_,_,.inl ⟨5,(.pointer (some ⟨ap,0,none⟩)),[],d,S,hz_of d,?_⟩⟩
 refine node_by (A:=anc_piece_Chart_s0_0) 12 (by kernel_rfl) (by kernel_rfl) (by kernel_rfl) (by kernel_rfl) (by kernel_rfl) [10,0,1,2,3,4,5,6,7,8,9] (by kernel_rfl) (by decide) (by decide) (fF ?_ (fF ?_ (fF ?_ (fF ?_ (fF ?_ (fF ?_ (fF ?_ (fF ?_ (fF ?_ (fF ?_ (fY (fN ?_ (trivial))))))))))))) [] (fun q hq=>by cases hq) (fun hY=>absurd (hY 11 (by decide)) (by decide))
 ·refine fJ [(1,_)] 1 [none] fun G a w S=>?_
  exact sField (b:=aa) (off:=0) 1 1 S (wN d) d d d d d (lb d) fun a S=>leafL ⟨d,S⟩
 ·refine fJ [(18,_)] 2 [some 1] fun G a w S=>?_
  exact sLoad1 2 (.slice ag p0.Right.length ah) S (wN d) d d d d d d (lb d) fun a S=>leafL ⟨d,S⟩
 ·refine fJ [(19,_)] 3 [some 2] fun G a w S=>?_
  exact sIdxV S (wN d) d d d bv d (lb d) fun a S=>leafL ⟨d,S⟩
 ·refine fJ [(20,_)] 4 [some 3] fun G a w S=>?_
  exact sLoadV1 (vq:=cq) 3 (iv al) S (wN d) d d d d d (lb d) fun a S=>leafL ⟨d,S⟩
 ·refine fJ [(1,_)] 5 [none] fun G a w S=>?_
  exact sField (b:=aa) (off:=0) 0 0 S (wN d) d d d d d (lb d) fun a S=>leafL ⟨d,S⟩
 ·refine fJ [(22,_)] 6 [some 5] fun G a w S=>?_
  exact sLoad1 2 (.slice ae p0.Left.length af) S (wN d) d d d d d d (lb d) fun a S=>leafL ⟨d,S⟩
 ·refine fJ [(23,_)] 7 [some 6] fun G a w S=>?_
  exact sIdxV S (wN d) d d d bw d (lb d) fun a S=>leafL ⟨d,S⟩
 ·refine fJ [(24,_)] 8 [some 7] fun G a w S=>?_
  exact sLoadV1 (vq:=cr) 0 (iv am) S (wN d) d d d d d (lb d) fun a S=>leafL ⟨d,S⟩
 ·refine fJ [(21,_),(25,_)] 9 [some 4,some 8] fun G a w S=>?_
  exact sBin _ S (wN d) d d d (bSub _ _ _ _ al am) d (lb d) fun a S=>leafL ⟨d,S⟩
 ·refine fJ [(26,_)] 10 [some 9] fun G a w S=>?_
  exact sBuild [(0,iv (w64 (al - am)))] [iv (w64 (al - am)),.slice none 0 0] S (wN d) d d d d (lb d) fun a S=>leafL ⟨d,S⟩
 refine ⟨_,[(5,.pointer (some ⟨ap,0,none⟩)),(27,.agg #[iv (w64 (al - am)),.slice none 0 0])],d,(srcs_of [some 0,some 10] d d d),fun G a w S=>?_⟩
 refine sStore (p:=ap) (off:=0) (T:=40) (vs:=[iv 0,.slice none 0 0]) (v:=.agg #[iv (w64 (al - am)),.slice none 0 0]) 0 [iv (w64 (al - am)),.slice none 0 0] S (wN d) d d d d d d d (by simp) d fun a w S=>leafL ⟨d,_,_,.inr ⟨[],d,S,hz_of d,?_⟩⟩
 refine node_by (A:=anc_piece_Chart_s0_0) 12 (by kernel_rfl) (by kernel_rfl) (by kernel_rfl) (by kernel_rfl) (by kernel_rfl) [10,0,1,2,3,4,5,6,7,8,9] (by kernel_rfl) (by decide) (by decide) (fD 11 (fD 11 (fD 11 (fD 11 (fD 11 (fD 11 (fD 11 (fD 11 (fD 11 (fD 11 (fY (fY (trivial))))))))))))) [(1,.pointer (some ⟨aa,0,none⟩)),(2,.pointer (some ⟨au,0,none⟩)),(5,.pointer (some ⟨ap,0,none⟩))] (fin_of [none,none,some 0] d (by kernel_rfl) (by kernel_rfl)) (fun _ a w S=>?_)
 refine leafT (cA _ _ ?_)
 obtain ⟨d8,h,d0⟩:=bS h
 refine sCut (fun a w=>∃ aU,.inl aU=d8∧∃ aA,∃ aC,St [] E [] w0 127 a w [(2,.pointer (some ⟨au,0,none⟩)),(5,.pointer (some ⟨ap,0,none⟩))] [eBox au 40 [iv 0,.slice none 0 0],eBox ap 40 [iv (w64 (al - am)),.slice aA aU.length aC],eRow r_api_Row 54 (.slice aA aU.length aC) aU] []) ?_ (fun a w hI=>?_)
 rotate_left
 ·obtain ⟨aU,rfl,aA,aC,S⟩:=hI
  have h:=d0
  try dsimp only at h
  refine sSeq (fun d9 bx=>sRegion (sLoadN (p:=ap) (off:=0) (T:=40) (vs:=[iv (w64 (al - am)),.slice aA aU.length aC]) 1 [iv (w64 (al - am)),.slice aA aU.length aC] S (wN d) d d d d d d d (lb d) fun a S=>sStore (p:=au) (off:=0) (T:=40) (vs:=[iv 0,.slice none 0 0]) (v:=.agg #[iv (w64 (al - am)),.slice aA aU.length aC]) 0 [iv (w64 (al - am)),.slice aA aU.length aC] S (wN d) d d d d d d d (by simp) d fun a w S=>sN S fun a S=>?_))
  refine lT (bx _ _ ?_)
  obtain rfl:=tS h
  exact wp_ret (sRet (.tuple #[.agg #[iv (w64 (al - am)),.slice aA aU.length aC],iv 0]) S (rsl2 d (rvN (c:=2) (t:=40) (T:=40) (p:=au) 0 [iv (w64 (al - am)),.slice aA aU.length aC] S d d d d) (rvT (t:=3) (v:=iv 0) S d)) ⟨(aA,aC),d,S.mem.sel [2] [] (by decide) d d⟩)
 refine sSeq (fun dy cD=>sRegion (sN S fun a S=>?_))
 refine lT (cD _ _ (wp_block ?_))
 have S:=S.nilRow r_api_Row 54 (α:=api_Row)
 obtain ⟨dz,hl,d1⟩:=bS h
 refine sLoop hl (fun s0 a w=>match s0 with | (ao,ai)=>∃ a7,∃ a8,St [] E [] w0 127 a w [(1,.pointer (some ⟨aa,0,none⟩)),(2,.pointer (some ⟨au,0,none⟩)),(5,.pointer (some ⟨ap,0,none⟩)),(6,iv ao)] [eBox aa 30 [.slice ae p0.Left.length af,.slice ag p0.Right.length ah],eBox au 40 [iv 0,.slice none 0 0],eBox ap 40 [iv (w64 (al - am)),.slice a7 ai.length a8],eRow r_api_Row 54 (.slice a7 ai.length a8) ai] [fRep (rL (rI .i64)) (.slice ae p0.Left.length af) p0.Left,fRep (rL (rI .i64)) (.slice ag p0.Right.length ah) p0.Right]) ⟨none,0,S.fix [3,2,1,0] [7,6] (by decide) d d d⟩ ?_
 clear hl h
 intro s0 a w c0 hI h bz
 obtain ⟨ao,ai⟩:=s0
 unfold piece_Chart_s0_l2 at h
 dsimp only at h hI
 obtain ⟨a7,a8,S⟩:=hI
 refine sSeq (fun dA cE=>sSeq (fun dB cF=>sRegion (sM S fun a S=>?_)))
 refine sField (b:=aa) (off:=0) 0 0 S (wN d) d d d d d (lb d) fun a S=>sLoad1 0 (.slice ae p0.Left.length af) S (wN d) d d d d d d (lb d) fun a S=>sLen S (wN d) d Tryd.underlying28 d d (lb d) fun a S=>sBin _ S (wN d) d d d (bLt _ _ _ _ .i64 ao (p0.Left.length:Int)) d (lb d) fun a S=>lT (cF _ _ ?_)
 rcases iS h with ⟨bm,h⟩ | ⟨bm,h⟩
 rotate_left
 ·refine sCondF S d bm ?_
  obtain rfl:=tS h
  obtain rfl:=bz _ d
  have h:=d1
  try dsimp only at h
  exact wp_exit (xThen (xThen (xHit (leafT (⟨ai,Option.some.inj h,a7,a8,S.fix [1,2,3] [] (by decide) d d d⟩)))))
 refine sCondT S d bm (wp_skip (leafT (cE _ _ ?_)))
 obtain ⟨da,h,d3⟩:=bS h
 refine sCut (fun a w=>∃ bt,.inl bt=da∧∃ bc,∃ bf,St [] E [] w0 127 a w [(1,.pointer (some ⟨aa,0,none⟩)),(2,.pointer (some ⟨au,0,none⟩)),(5,.pointer (some ⟨ap,0,none⟩)),(6,iv ao)] [eBox aa 30 [.slice ae p0.Left.length af,.slice ag p0.Right.length ah],eBox au 40 [iv 0,.slice none 0 0],eBox ap 40 [iv (w64 (al - am)),.slice bc bt.length bf],eRow r_api_Row 54 (.slice bc bt.length bf) bt] [fRep (rL (rI .i64)) (.slice ae p0.Left.length af) p0.Left,fRep (rL (rI .i64)) (.slice ag p0.Right.length ah) p0.Right]) ?_ (fun a w hI=>?_)
 rotate_left
 ·obtain ⟨bt,rfl,bc,bf,S⟩:=hI
  have h:=d3
  try dsimp only at h
  refine sRegion (sM S fun a S=>?_)
  refine sBin _ S (wN d) d d d (bAdd _ _ _ _ ao 1) d (lb d) fun a S=>sN S fun a S=>?_
  exact lT (⟨(w64 (ao + 1),bt),(Option.some.inj h).symm,⟨bc,bf,S.fix [0,1,2,3] [0,1] (by decide) d d d⟩⟩)
 refine wp_block ?_
 refine sSeq (fun dC cG=>?_)
 obtain ⟨aM,cH,h⟩:=bS h
 obtain ⟨aq,bA,h⟩:=bS h
 obtain ⟨a6,bB,h⟩:=bS h
 obtain ⟨ct,bC,S⟩:=pIdx (P:=Tryd.prog) (r:=(rI .i64)) (v:=.slice ag p0.Right.length ah) (xs:=p0.Right) (j:=ao) 28 3 1 S Tryd.underlying28 d d cH
 obtain ⟨d4,S⟩:=pLoad (r:=(rI .i64)) (q:=ct) (x:=aM) 0 S d
 obtain rfl:d4=iv aM:=S.mem.know (i:=1) (e:=fRep (rI .i64) (d4) aM) d
 obtain ⟨cu,bD,S⟩:=pIdx (P:=Tryd.prog) (r:=(rI .i64)) (v:=.slice ag p0.Right.length ah) (xs:=p0.Right) (j:=w64 (ao - 1)) 28 3 4 S Tryd.underlying28 d d bA
 obtain ⟨d5,S⟩:=pLoad (r:=(rI .i64)) (q:=cu) (x:=aq) 0 S d
 obtain rfl:d5=iv aq:=S.mem.know (i:=1) (e:=fRep (rI .i64) (d5) aq) d
 refine sDraw (nf:=[12,13,14]) (W:=[(0,35,.pointer (some ⟨aa,1,none⟩)),(1,36,.slice ag p0.Right.length ah),(2,37,iv ao),(3,38,ct),(4,39,iv aM),(5,40,.pointer (some ⟨aa,1,none⟩)),(6,41,.slice ag p0.Right.length ah),(7,42,iv ao),(8,43,iv (w64 (ao - 1))),(9,44,cu),(10,45,iv aq),(11,46,iv (w64 (aM - aq)))]) d S ?_
 refine nodeCut (fun N W L D=>∀ aG,N [13,12] ((13,7,.pointer (some ⟨aG,0,none⟩)) :: (12,47,.agg #[.int .u8 a6.s.Kind,.bool a6.s.Purl,iv a6.s.A,iv a6.s.B,iv a6.uses]) :: W) ((eBox aG 81 [.int .u8 0,.bool false,iv 0,iv 0,iv 0]) :: L) ((fRep r_piece_edge (.agg #[.int .u8 a6.s.Kind,.bool a6.s.Purl,iv a6.s.A,iv a6.s.B,iv a6.uses]) a6) :: D)) (fun aG=>?_) fun nd1=>?_
 ·refine node_by (A:=anc_piece_Chart_s0_1) 15 (by kernel_rfl) (by kernel_rfl) (by kernel_rfl) (by kernel_rfl) (by kernel_rfl) [13,12,0,1,2,3,4,5,6,7,8,9,10,11] (by kernel_rfl) (by decide) (by decide) (fD 12 (fD 12 (fD 12 (fD 12 (fD 12 (fD 12 (fD 12 (fD 12 (fD 12 (fD 12 (fD 12 (fD 12 (fY (fY (fN ?_ (trivial)))))))))))))))) [] (fun q hq=>by cases hq) (fun hY=>absurd (hY 14 (by decide)) (by decide))
  refine ⟨_,[(7,.pointer (some ⟨aG,0,none⟩)),(47,.agg #[.int .u8 a6.s.Kind,.bool a6.s.Purl,iv a6.s.A,iv a6.s.B,iv a6.uses])],d,(srcs_of [some 0,some 1] d d d),fun G a w S=>?_⟩
  refine sStore (p:=aG) (off:=0) (T:=81) (vs:=[.int .u8 0,.bool false,iv 0,iv 0,iv 0]) (v:=.agg #[.int .u8 a6.s.Kind,.bool a6.s.Purl,iv a6.s.A,iv a6.s.B,iv a6.uses]) 0 [.int .u8 a6.s.Kind,.bool a6.s.Purl,iv a6.s.A,iv a6.s.B,iv a6.uses] S (wN d) d d d d d d d (by simp) d fun a w S=>leafL ⟨d,_,_,.inr ⟨[],d,S,hz_of d,?_⟩⟩
  refine node_by (A:=anc_piece_Chart_s0_1) 15 (by kernel_rfl) (by kernel_rfl) (by kernel_rfl) (by kernel_rfl) (by kernel_rfl) [13,12,0,1,2,3,4,5,6,7,8,9,10,11] (by kernel_rfl) (by decide) (by decide) (fD 14 (fD 14 (fD 14 (fD 14 (fD 14 (fD 14 (fD 14 (fD 14 (fD 14 (fD 14 (fD 14 (fD 14 (fY (fY (fY (trivial)))))))))))))))) [(1,.pointer (some ⟨aa,0,none⟩)),(2,.pointer (some ⟨au,0,none⟩)),(5,.pointer (some ⟨ap,0,none⟩)),(6,iv ao),(7,.pointer (some ⟨aG,0,none⟩))] (fin_of [none,none,none,none,some 0] d (by kernel_rfl) (by kernel_rfl)) (fun _ a w S=>?_)
  refine leafT (cG _ _ ?_)
  refine sSeq (fun dD cI=>?_)
  obtain ⟨ar,bE,h⟩:=bS h
  obtain ⟨aO,cJ,h⟩:=bS h
  obtain ⟨a2,bF,h⟩:=bS h
  obtain ⟨bg,bi,S⟩:=pIdx (P:=Tryd.prog) (r:=(rI .i64)) (v:=.slice ae p0.Left.length af) (xs:=p0.Left) (j:=w64 (ao - 1)) 28 3 7 S Tryd.underlying28 d d bE
  obtain ⟨bG,S⟩:=pLoad (r:=(rI .i64)) (q:=bg) (x:=ar) 0 S d
  obtain rfl:bG=iv ar:=S.mem.know (i:=1) (e:=fRep (rI .i64) (bG) ar) d
  obtain ⟨bh,bj,S⟩:=pIdx (P:=Tryd.prog) (r:=(rI .i64)) (v:=.slice ae p0.Left.length af) (xs:=p0.Left) (j:=ao) 28 3 10 S Tryd.underlying28 d d cJ
  obtain ⟨bH,S⟩:=pLoad (r:=(rI .i64)) (q:=bh) (x:=aO) 0 S d
  obtain rfl:bH=iv aO:=S.mem.know (i:=1) (e:=fRep (rI .i64) (bH) aO) d
  refine sDraw (nf:=[12,13,14]) (W:=[(0,48,.pointer (some ⟨aa,0,none⟩)),(1,49,.slice ae p0.Left.length af),(2,50,iv ao),(3,51,iv (w64 (ao - 1))),(4,52,bg),(5,53,iv ar),(6,54,.pointer (some ⟨aa,0,none⟩)),(7,55,.slice ae p0.Left.length af),(8,56,iv ao),(9,57,bh),(10,58,iv aO),(11,59,iv (w64 (ar - aO)))]) d S ?_
  refine nodeCut (fun N W L D=>∀ ab,N [13,12] ((13,8,.pointer (some ⟨ab,0,none⟩)) :: (12,60,.agg #[.int .u8 a2.s.Kind,.bool a2.s.Purl,iv a2.s.A,iv a2.s.B,iv a2.uses]) :: W) ((eBox ab 81 [.int .u8 0,.bool false,iv 0,iv 0,iv 0]) :: L) ((fRep r_piece_edge (.agg #[.int .u8 a2.s.Kind,.bool a2.s.Purl,iv a2.s.A,iv a2.s.B,iv a2.uses]) a2) :: D)) (fun ab=>?_) fun nd1=>?_
  ·refine node_by (A:=anc_piece_Chart_s0_2) 15 (by kernel_rfl) (by kernel_rfl) (by kernel_rfl) (by kernel_rfl) (by kernel_rfl) [13,12,0,1,2,3,4,5,6,7,8,9,10,11] (by kernel_rfl) (by decide) (by decide) (fD 12 (fD 12 (fD 12 (fD 12 (fD 12 (fD 12 (fD 12 (fD 12 (fD 12 (fD 12 (fD 12 (fD 12 (fY (fY (fN ?_ (trivial)))))))))))))))) [] (fun q hq=>by cases hq) (fun hY=>absurd (hY 14 (by decide)) (by decide))
   refine ⟨_,[(8,.pointer (some ⟨ab,0,none⟩)),(60,.agg #[.int .u8 a2.s.Kind,.bool a2.s.Purl,iv a2.s.A,iv a2.s.B,iv a2.uses])],d,(srcs_of [some 0,some 1] d d d),fun G a w S=>?_⟩
   refine sStore (p:=ab) (off:=0) (T:=81) (vs:=[.int .u8 0,.bool false,iv 0,iv 0,iv 0]) (v:=.agg #[.int .u8 a2.s.Kind,.bool a2.s.Purl,iv a2.s.A,iv a2.s.B,iv a2.uses]) 0 [.int .u8 a2.s.Kind,.bool a2.s.Purl,iv a2.s.A,iv a2.s.B,iv a2.uses] S (wN d) d d d d d d d (by simp) d fun a w S=>leafL ⟨d,_,_,.inr ⟨[],d,S,hz_of d,?_⟩⟩
   refine node_by (A:=anc_piece_Chart_s0_2) 15 (by kernel_rfl) (by kernel_rfl) (by kernel_rfl) (by kernel_rfl) (by kernel_rfl) [13,12,0,1,2,3,4,5,6,7,8,9,10,11] (by kernel_rfl) (by decide) (by decide) (fD 14 (fD 14 (fD 14 (fD 14 (fD 14 (fD 14 (fD 14 (fD 14 (fD 14 (fD 14 (fD 14 (fD 14 (fY (fY (fY (trivial)))))))))))))))) [(1,.pointer (some ⟨aa,0,none⟩)),(2,.pointer (some ⟨au,0,none⟩)),(5,.pointer (some ⟨ap,0,none⟩)),(6,iv ao),(7,.pointer (some ⟨aG,0,none⟩)),(8,.pointer (some ⟨ab,0,none⟩))] (fin_of [none,none,none,none,none,some 0] d (by kernel_rfl) (by kernel_rfl)) (fun _ a w S=>?_)
   refine leafT (cI _ _ ?_)
   refine sSeq (fun db bI=>?_)
   obtain ⟨bn,bJ,S⟩:=pIdx (P:=Tryd.prog) (r:=(rI .i64)) (v:=.slice ag p0.Right.length ah) (xs:=p0.Right) (j:=w64 (ao - 1)) 28 3 15 S Tryd.underlying28 d d bA
   obtain ⟨bK,S⟩:=pLoad (r:=(rI .i64)) (q:=bn) (x:=aq) 0 S d
   obtain rfl:bK=iv aq:=S.mem.know (i:=1) (e:=fRep (rI .i64) (bK) aq) d
   obtain ⟨bo,bL,S⟩:=pIdx (P:=Tryd.prog) (r:=(rI .i64)) (v:=.slice ae p0.Left.length af) (xs:=p0.Left) (j:=w64 (ao - 1)) 28 3 17 S Tryd.underlying28 d d bE
   obtain ⟨bM,S⟩:=pLoad (r:=(rI .i64)) (q:=bo) (x:=ar) 0 S d
   obtain rfl:bM=iv ar:=S.mem.know (i:=1) (e:=fRep (rI .i64) (bM) ar) d
   refine sDraw (nf:=[]) (W:=[(0,61,.pointer (some ⟨aa,1,none⟩)),(1,62,.slice ag p0.Right.length ah),(2,63,iv ao),(3,64,iv (w64 (ao - 1))),(4,65,bn),(5,66,iv aq),(6,67,.pointer (some ⟨aa,0,none⟩)),(7,68,.slice ae p0.Left.length af),(8,69,iv ao),(9,70,iv (w64 (ao - 1))),(10,71,bo),(11,72,iv ar),(12,73,iv (w64 (aq - ar))),(13,74,.pointer (some ⟨aG,4,none⟩)),(14,75,iv a6.uses),(15,76,iv (w64 ((w64 (aq - ar)) - a6.uses))),(16,77,.pointer (some ⟨ab,4,none⟩)),(17,78,iv a2.uses),(18,79,iv (w64 ((w64 ((w64 (aq - ar)) - a6.uses)) - a2.uses))),(19,9,iv (w64 ((w64 ((w64 (aq - ar)) - a6.uses)) - a2.uses)))]) d S ?_
   refine node_by (A:=anc_piece_Chart_s0_3) 20 (by kernel_rfl) (by kernel_rfl) (by kernel_rfl) (by kernel_rfl) (by kernel_rfl) [0,1,2,3,4,5,6,7,8,9,10,11,12,13,14,15,16,17,18,19] (by kernel_rfl) (by decide) (by decide) (fF ?_ (fF ?_ (fF ?_ (fF ?_ (fF ?_ (fF ?_ (fF ?_ (fF ?_ (fF ?_ (fF ?_ (fF ?_ (fF ?_ (fF ?_ (fF ?_ (fF ?_ (fF ?_ (fF ?_ (fF ?_ (fF ?_ (fF ?_ (trivial))))))))))))))))))))) [(1,.pointer (some ⟨aa,0,none⟩)),(2,.pointer (some ⟨au,0,none⟩)),(5,.pointer (some ⟨ap,0,none⟩)),(6,iv ao),(7,.pointer (some ⟨aG,0,none⟩)),(8,.pointer (some ⟨ab,0,none⟩)),(9,iv (w64 ((w64 ((w64 (aq - ar)) - a6.uses)) - a2.uses)))] (fin_of [none,none,none,none,none,none,some 19] d (by kernel_rfl) (by kernel_rfl)) (fun _ a w S=>?_)
   ·refine fJ [(1,_)] 0 [none] fun G a w S=>?_
    exact sField (b:=aa) (off:=0) 1 1 S (wN d) d d d d d (lb d) fun a S=>leafL ⟨d,S⟩
   ·refine fJ [(61,_)] 1 [some 0] fun G a w S=>?_
    exact sLoad1 2 (.slice ag p0.Right.length ah) S (wN d) d d d d d d (lb d) fun a S=>leafL ⟨d,S⟩
   ·exact fM 2 none d d d d (.inl d) d d d
   ·refine fJ [(63,_)] 3 [some 2] fun G a w S=>?_
    exact sBin _ S (wN d) d d d (bSub _ _ _ _ ao 1) d (lb d) fun a S=>leafL ⟨d,S⟩
   ·refine fJ [(62,_),(64,_)] 4 [some 1,some 3] fun G a w S=>?_
    exact sIdxV S (wN d) d d d bJ d (lb d) fun a S=>leafL ⟨d,S⟩
   ·refine fJ [(65,_)] 5 [some 4] fun G a w S=>?_
    exact sLoadV1 (vq:=bn) 3 (iv aq) S (wN d) d d d d d (lb d) fun a S=>leafL ⟨d,S⟩
   ·refine fJ [(1,_)] 6 [none] fun G a w S=>?_
    exact sField (b:=aa) (off:=0) 0 0 S (wN d) d d d d d (lb d) fun a S=>leafL ⟨d,S⟩
   ·refine fJ [(67,_)] 7 [some 6] fun G a w S=>?_
    exact sLoad1 2 (.slice ae p0.Left.length af) S (wN d) d d d d d d (lb d) fun a S=>leafL ⟨d,S⟩
   ·exact fM 8 none d d d d (.inl d) d d d
   ·refine fJ [(69,_)] 9 [some 8] fun G a w S=>?_
    exact sBin _ S (wN d) d d d (bSub _ _ _ _ ao 1) d (lb d) fun a S=>leafL ⟨d,S⟩
   ·refine fJ [(68,_),(70,_)] 10 [some 7,some 9] fun G a w S=>?_
    exact sIdxV S (wN d) d d d bL d (lb d) fun a S=>leafL ⟨d,S⟩
   ·refine fJ [(71,_)] 11 [some 10] fun G a w S=>?_
    exact sLoadV1 (vq:=bo) 0 (iv ar) S (wN d) d d d d d (lb d) fun a S=>leafL ⟨d,S⟩
   ·refine fJ [(66,_),(72,_)] 12 [some 5,some 11] fun G a w S=>?_
    exact sBin _ S (wN d) d d d (bSub _ _ _ _ aq ar) d (lb d) fun a S=>leafL ⟨d,S⟩
   ·refine fJ [(7,_)] 13 [none] fun G a w S=>?_
    exact sField (b:=aG) (off:=0) 4 4 S (wN d) d d d d d (lb d) fun a S=>leafL ⟨d,S⟩
   ·refine fJ [(74,_)] 14 [some 13] fun G a w S=>?_
    exact sLoad1 1 (iv a6.uses) S (wN d) d d d d d d (lb d) fun a S=>leafL ⟨d,S⟩
   ·refine fJ [(73,_),(75,_)] 15 [some 12,some 14] fun G a w S=>?_
    exact sBin _ S (wN d) d d d (bSub _ _ _ _ (w64 (aq - ar)) a6.uses) d (lb d) fun a S=>leafL ⟨d,S⟩
   ·refine fJ [(8,_)] 16 [none] fun G a w S=>?_
    exact sField (b:=ab) (off:=0) 4 4 S (wN d) d d d d d (lb d) fun a S=>leafL ⟨d,S⟩
   ·refine fJ [(77,_)] 17 [some 16] fun G a w S=>?_
    exact sLoad1 0 (iv a2.uses) S (wN d) d d d d d d (lb d) fun a S=>leafL ⟨d,S⟩
   ·refine fJ [(76,_),(78,_)] 18 [some 15,some 17] fun G a w S=>?_
    exact sBin _ S (wN d) d d d (bSub _ _ _ _ (w64 ((w64 (aq - ar)) - a6.uses)) a2.uses) d (lb d) fun a S=>leafL ⟨d,S⟩
   ·exact fM 19 (some 18) d d d d (.inr d) d d d
   refine leafT (bI _ _ ?_)
   refine sSeq (fun dc bN=>sSeq (fun de bO=>sRegion (sM S fun a S=>?_)))
   refine sBin _ S (wN d) d d d (bLt _ _ _ _ .i64 (w64 ((w64 ((w64 (aq - ar)) - a6.uses)) - a2.uses)) 1) d (lb d) fun a S=>lT (bO _ _ ?_)
   rcases iS h with ⟨aV,h⟩ | ⟨aV,h⟩
   ·refine sCondT S d aV (sSeq (fun df bP=>sRegion (sBuild [] [iv 0,.slice none 0 0] S (wN d) d d d d (lb d) fun a S=>sStore (p:=au) (off:=0) (T:=40) (vs:=[iv 0,.slice none 0 0]) (v:=.agg #[iv 0,.slice none 0 0]) 3 [iv 0,.slice none 0 0] S (wN d) d d d d d d d (by simp) d fun a w S=>sN S fun a S=>?_)))
    refine lT (bP _ _ ?_)
    obtain rfl:=tS h
    have h:=d3
    try dsimp only at h
    obtain rfl:=tS h
    obtain rfl:=bz _ d
    have h:=d1
    try dsimp only at h
    obtain rfl:=tS h
    have h:=d0
    try dsimp only at h
    obtain rfl:=tS h
    have S:=S.nilRow r_api_Row 54 (α:=api_Row)
    exact wp_ret (rThen (rBlock (rThen (rThen (rBlock (rThen (sRet (.tuple #[.agg #[iv 0,.slice none 0 0],iv 22]) S (rsl2 d (rvN (c:=2) (t:=40) (T:=40) (p:=au) 1 [iv 0,.slice none 0 0] S d d d d) (rvT (t:=3) (v:=iv 22) S d)) ⟨(none,0),d,S.mem.sel [0] [] (by decide) d d⟩)))))))
   refine sCondF S d aV (wp_skip (leafT (bN _ _ ?_)))
   refine sSeq (fun dg bQ=>sRegion (sN S fun a S=>?_))
   refine lT (bQ _ _ ?_)
   obtain ⟨cK,h,cL⟩:=bS h
   refine sCut (fun a w=>∃ aW,aW=cK∧∃ aQ,∃ aR,St [] E [] w0 127 a w [(1,.pointer (some ⟨aa,0,none⟩)),(2,.pointer (some ⟨au,0,none⟩)),(5,.pointer (some ⟨ap,0,none⟩)),(6,iv ao),(8,.pointer (some ⟨ab,0,none⟩)),(9,iv (w64 ((w64 ((w64 (aq - ar)) - a6.uses)) - a2.uses))),(10,.slice aQ aW.length aR)] [eBox aa 30 [.slice ae p0.Left.length af,.slice ag p0.Right.length ah],eBox au 40 [iv 0,.slice none 0 0],eBox ap 40 [iv (w64 (al - am)),.slice a7 ai.length a8],eBox ab 81 [.int .u8 a2.s.Kind,.bool a2.s.Purl,iv a2.s.A,iv a2.s.B,iv a2.uses],eRow r_api_Stitch 56 (.slice aQ aW.length aR) aW,eRow r_api_Row 54 (.slice a7 ai.length a8) ai] [fRep (rL (rI .i64)) (.slice ae p0.Left.length af) p0.Left,fRep (rL (rI .i64)) (.slice ag p0.Right.length ah) p0.Right]) ?_ (fun a w hI=>?_)
   ·refine sSeq (fun dh bR=>sRegion (sField (b:=aG) (off:=0) 0 0 S (wN d) d d d d d (lb d) fun a S=>sField (b:=aG) (off:=0) 0 0 S (wN d) d d d d d (lb d) fun a S=>sLoad1 1 (.int .u8 a6.s.Kind) S (wN d) d d d d d d (lb d) fun a S=>sBin _ S (wN d) d d d (bNe _ _ _ _ .u8 a6.s.Kind 0) d (lb d) fun a S=>lT (bR _ _ ?_)))
    rcases iS h with ⟨aX,h⟩ | ⟨aX,h⟩
    rotate_left
    ·refine sCondF S d aX ?_
     have S:=S.nilRow r_api_Stitch 56 (α:=api_Stitch)
     exact wp_skip (leafT (⟨([]:List api_Stitch),Option.some.inj h,none,0,S.fix [3,4,5,1,0,6] [20,21] (by decide) d d d⟩))
    refine sCondT S d aX (sRegion (sM S fun a S=>?_))
    refine sField (b:=aG) (off:=0) 0 0 S (wN d) d d d d d (lb d) fun a S=>sLoadN (p:=aG) (off:=0) (T:=81) (vs:=[.int .u8 a6.s.Kind,.bool a6.s.Purl,iv a6.s.A,iv a6.s.B,iv a6.uses]) 1 [.int .u8 a6.s.Kind,.bool a6.s.Purl,iv a6.s.A,iv a6.s.B] S (wN d) d d d d d d d (lb d) fun a S=>?_
    have S:=S.learn (fRep r_api_Stitch (.agg #[.int .u8 a6.s.Kind,.bool a6.s.Purl,iv a6.s.A,iv a6.s.B]) a6.s) d
    refine sLit (r:=r_api_Stitch) (T:=56) (xs:=[a6.s]) [(0,.agg #[.int .u8 a6.s.Kind,.bool a6.s.Purl,iv a6.s.A,iv a6.s.B])] 1 [.agg #[.int .u8 a6.s.Kind,.bool a6.s.Purl,iv a6.s.A,iv a6.s.B]] [.int .u8 a6.s.Kind,.bool a6.s.Purl,iv a6.s.A,iv a6.s.B] (.agg #[.int .u8 0,.bool false,iv 0,iv 0]) 24 S (wN d) d d Tryd.underlying52 d (by decide) (by decide) (by kernel_rfl) d (fun E1 w1 hE=>All.cons (r_api_Stitch.mono hE (S.mem.know (i:=0) (e:=fRep r_api_Stitch (.agg #[.int .u8 a6.s.Kind,.bool a6.s.Purl,iv a6.s.A,iv a6.s.B]) a6.s) d)) (All.nil _ _ _)) d d (lb d) fun a w bT bU S=>?_
    have S:=S.nilRow r_api_Stitch 56 (α:=api_Stitch)
    obtain ⟨cM,bV,h⟩:=bS h
    refine sApp (r:=r_api_Stitch) (T:=56) (xs:=([]:List api_Stitch)) (ys:=[a6.s]) (v:=.slice none 0 0) (u:=.slice bT [a6.s].length bU) 0 (.agg #[.int .u8 0,.bool false,iv 0,iv 0]) 24 S (wN d) d Tryd.underlying52 d d (by decide) d d d (src_R (T:=56) 1 S.mem d) bV d (lb d) fun a w bW bX S=>sN S fun a S=>?_
    exact lT (⟨cM,Option.some.inj h,bW,bX,S.fix [4,5,6,2,0,7] [21,22] (by decide) d d d⟩)
   obtain ⟨aW,rfl,aQ,aR,S⟩:=hI
   have h:=cL
   try dsimp only at h
   obtain ⟨cN,h,cO⟩:=bS h
   refine sCut (fun a w=>∃ aH,aH=cN∧∃ aI,∃ aJ,St [] E [] w0 127 a w [(1,.pointer (some ⟨aa,0,none⟩)),(2,.pointer (some ⟨au,0,none⟩)),(5,.pointer (some ⟨ap,0,none⟩)),(6,iv ao),(8,.pointer (some ⟨ab,0,none⟩)),(10,.slice aI aH.length aJ)] [eBox aa 30 [.slice ae p0.Left.length af,.slice ag p0.Right.length ah],eBox au 40 [iv 0,.slice none 0 0],eBox ap 40 [iv (w64 (al - am)),.slice a7 ai.length a8],eBox ab 81 [.int .u8 a2.s.Kind,.bool a2.s.Purl,iv a2.s.A,iv a2.s.B,iv a2.uses],eRow r_api_Stitch 56 (.slice aI aH.length aJ) aH,eRow r_api_Row 54 (.slice a7 ai.length a8) ai] [fRep (rL (rI .i64)) (.slice ae p0.Left.length af) p0.Left,fRep (rL (rI .i64)) (.slice ag p0.Right.length ah) p0.Right]) ?_ (fun a w hI=>?_)
   ·refine sSeq (fun di bY=>sRegion (sM S fun a S=>?_))
    refine sM S fun a S=>?_
    refine lT (bY _ _ (wp_block ?_))
    obtain ⟨dj,hl,cP⟩:=bS h
    refine sLoop hl (fun s0 a w=>match s0 with | (aP,aZ)=>∃ aK,∃ aL,St [] E [] w0 127 a w [(1,.pointer (some ⟨aa,0,none⟩)),(2,.pointer (some ⟨au,0,none⟩)),(5,.pointer (some ⟨ap,0,none⟩)),(6,iv ao),(8,.pointer (some ⟨ab,0,none⟩)),(10,.slice aK aP.length aL),(92,iv (w64 ((w64 ((w64 (aq - ar)) - a6.uses)) - a2.uses))),(93,iv aZ)] [eBox aa 30 [.slice ae p0.Left.length af,.slice ag p0.Right.length ah],eBox au 40 [iv 0,.slice none 0 0],eBox ap 40 [iv (w64 (al - am)),.slice a7 ai.length a8],eBox ab 81 [.int .u8 a2.s.Kind,.bool a2.s.Purl,iv a2.s.A,iv a2.s.B,iv a2.uses],eRow r_api_Stitch 56 (.slice aK aP.length aL) aP,eRow r_api_Row 54 (.slice a7 ai.length a8) ai] [fRep (rL (rI .i64)) (.slice ae p0.Left.length af) p0.Left,fRep (rL (rI .i64)) (.slice ag p0.Right.length ah) p0.Right]) ⟨aQ,aR,S.fix [0,1,2,3,4,5] [0,1] (by decide) d d d⟩ ?_
    clear hl h
    intro s0 a w c0 hI h bZ
    obtain ⟨aP,aZ⟩:=s0
    unfold piece_Chart_s0_l1 at h
    dsimp only at h hI
    obtain ⟨aK,aL,S⟩:=hI
    refine sSeq (fun dk c1=>sRegion (sBin _ S (wN d) d d d (bLt _ _ _ _ .i64 aZ (w64 ((w64 ((w64 (aq - ar)) - a6.uses)) - a2.uses))) d (lb d) fun a S=>lT (c1 _ _ (sSeq (fun dl c2=>?_)))))
    rcases iS h with ⟨b0,h⟩ | ⟨b0,h⟩
    rotate_left
    ·refine sCondF S d b0 ?_
     obtain rfl:=tS h
     obtain rfl:=bZ _ d
     have h:=cP
     try dsimp only at h
     exact wp_exit (xThen (xThen (xHit (leafT (⟨aP,Option.some.inj h,aK,aL,S.fix [0,1,2,3,4,5] [0,1] (by decide) d d d⟩)))))
    refine sCondT S d b0 (wp_skip (leafT (c2 _ _ ?_)))
    refine sSeq (fun dm c3=>wp_block ?_)
    refine sRegion (sM S fun a S=>?_)
    refine sBuild [(0,.int .u8 1)] [.int .u8 1,.bool false,iv 0,iv 0] S (wN d) d d d d (lb d) fun a S=>?_
    have S:=S.learn (fRep r_api_Stitch (.agg #[.int .u8 1,.bool false,iv 0,iv 0]) (api_Stitch.mk 1 false 0 0)) d
    refine sLit (r:=r_api_Stitch) (T:=56) (xs:=[(api_Stitch.mk 1 false 0 0)]) [(0,.agg #[.int .u8 1,.bool false,iv 0,iv 0])] 1 [.agg #[.int .u8 1,.bool false,iv 0,iv 0]] [.int .u8 1,.bool false,iv 0,iv 0] (.agg #[.int .u8 0,.bool false,iv 0,iv 0]) 24 S (wN d) d d Tryd.underlying52 d (by decide) (by decide) (by kernel_rfl) d (fun E1 w1 hE=>All.cons (r_api_Stitch.mono hE (S.mem.know (i:=0) (e:=fRep r_api_Stitch (.agg #[.int .u8 1,.bool false,iv 0,iv 0]) (api_Stitch.mk 1 false 0 0)) d)) (All.nil _ _ _)) d d (lb d) fun a w c4 c5 S=>?_
    obtain ⟨cQ,c6,h⟩:=bS h
    refine sApp (r:=r_api_Stitch) (T:=56) (xs:=aP) (ys:=[(api_Stitch.mk 1 false 0 0)]) (v:=.slice aK aP.length aL) (u:=.slice c4 [(api_Stitch.mk 1 false 0 0)].length c5) 5 (.agg #[.int .u8 0,.bool false,iv 0,iv 0]) 24 S (wN d) d Tryd.underlying52 d d (by decide) d d d (src_R (T:=56) 0 S.mem d) c6 d (lb d) fun a w c7 c8 S=>sN S fun a S=>?_
    refine leafL (leafB (leafT (c3 _ _ ?_)))
    refine sRegion (sBin _ S (wN d) d d d (bAdd _ _ _ _ aZ 1) d (lb d) fun a S=>sM S fun a S=>?_)
    exact lT (⟨(cQ,w64 (aZ + 1)),(Option.some.inj h).symm,⟨c7,c8,S.fix [2,3,4,5,0,6] [1,2] (by decide) d d d⟩⟩)
   obtain ⟨aH,rfl,aI,aJ,S⟩:=hI
   have h:=cO
   try dsimp only at h
   obtain ⟨cR,h,cS⟩:=bS h
   refine sCut (fun a w=>∃ aw,aw=cR∧∃ ax,∃ ay,St [] E [] w0 127 a w [(1,.pointer (some ⟨aa,0,none⟩)),(2,.pointer (some ⟨au,0,none⟩)),(5,.pointer (some ⟨ap,0,none⟩)),(6,iv ao),(10,.slice ax aw.length ay)] [eBox aa 30 [.slice ae p0.Left.length af,.slice ag p0.Right.length ah],eBox au 40 [iv 0,.slice none 0 0],eBox ap 40 [iv (w64 (al - am)),.slice a7 ai.length a8],eRow r_api_Stitch 56 (.slice ax aw.length ay) aw,eRow r_api_Row 54 (.slice a7 ai.length a8) ai] [fRep (rL (rI .i64)) (.slice ae p0.Left.length af) p0.Left,fRep (rL (rI .i64)) (.slice ag p0.Right.length ah) p0.Right]) ?_ (fun a w hI=>?_)
   ·refine sSeq (fun dn c9=>sRegion (sField (b:=ab) (off:=0) 0 0 S (wN d) d d d d d (lb d) fun a S=>sField (b:=ab) (off:=0) 0 0 S (wN d) d d d d d (lb d) fun a S=>sLoad1 3 (.int .u8 a2.s.Kind) S (wN d) d d d d d d (lb d) fun a S=>sBin _ S (wN d) d d d (bNe _ _ _ _ .u8 a2.s.Kind 0) d (lb d) fun a S=>lT (c9 _ _ ?_)))
    rcases iS h with ⟨b1,h⟩ | ⟨b1,h⟩
    rotate_left
    ·refine sCondF S d b1 ?_
     exact wp_skip (leafT (⟨aH,Option.some.inj h,aI,aJ,S.fix [0,1,2,4,5] [0,1] (by decide) d d d⟩))
    refine sCondT S d b1 (sRegion (sM S fun a S=>?_))
    refine sField (b:=ab) (off:=0) 0 0 S (wN d) d d d d d (lb d) fun a S=>sLoadN (p:=ab) (off:=0) (T:=81) (vs:=[.int .u8 a2.s.Kind,.bool a2.s.Purl,iv a2.s.A,iv a2.s.B,iv a2.uses]) 3 [.int .u8 a2.s.Kind,.bool a2.s.Purl,iv a2.s.A,iv a2.s.B] S (wN d) d d d d d d d (lb d) fun a S=>?_
    have S:=S.learn (fRep r_api_Stitch (.agg #[.int .u8 a2.s.Kind,.bool a2.s.Purl,iv a2.s.A,iv a2.s.B]) a2.s) d
    refine sLit (r:=r_api_Stitch) (T:=56) (xs:=[a2.s]) [(0,.agg #[.int .u8 a2.s.Kind,.bool a2.s.Purl,iv a2.s.A,iv a2.s.B])] 1 [.agg #[.int .u8 a2.s.Kind,.bool a2.s.Purl,iv a2.s.A,iv a2.s.B]] [.int .u8 a2.s.Kind,.bool a2.s.Purl,iv a2.s.A,iv a2.s.B] (.agg #[.int .u8 0,.bool false,iv 0,iv 0]) 24 S (wN d) d d Tryd.underlying52 d (by decide) (by decide) (by kernel_rfl) d (fun E1 w1 hE=>All.cons (r_api_Stitch.mono hE (S.mem.know (i:=0) (e:=fRep r_api_Stitch (.agg #[.int .u8 a2.s.Kind,.bool a2.s.Purl,iv a2.s.A,iv a2.s.B]) a2.s) d)) (All.nil _ _ _)) d d (lb d) fun a w ca cb S=>?_
    obtain ⟨cT,cc,h⟩:=bS h
    refine sApp (r:=r_api_Stitch) (T:=56) (xs:=aH) (ys:=[a2.s]) (v:=.slice aI aH.length aJ) (u:=.slice ca [a2.s].length cb) 5 (.agg #[.int .u8 0,.bool false,iv 0,iv 0]) 24 S (wN d) d Tryd.underlying52 d d (by decide) d d d (src_R (T:=56) 0 S.mem d) cc d (lb d) fun a w cd ce S=>sN S fun a S=>?_
    exact lT (⟨cT,Option.some.inj h,cd,ce,S.fix [2,3,4,0,6] [1,2] (by decide) d d d⟩)
   obtain ⟨aw,rfl,ax,ay,S⟩:=hI
   have h:=cS
   try dsimp only at h
   refine sSeq (fun dp cf=>sRegion (sM S fun a S=>?_))
   obtain ⟨av,cg,h⟩:=bS h
   refine sBin _ S (wN d) d d d (bRem _ _ _ _ (x:=ao) (y:=2) cg) d (lb d) fun a S=>sBin _ S (wN d) d d d (bEq _ _ _ _ .i64 av 1) d (lb d) fun a S=>sN S fun a S=>?_
   refine lT (cf _ _ ?_)
   obtain ⟨cU,h,cV⟩:=bS h
   refine sCut (fun a w=>∃ ac,ac=cU∧∃ aj,∃ ak,St [] E [] w0 127 a w [(1,.pointer (some ⟨aa,0,none⟩)),(2,.pointer (some ⟨au,0,none⟩)),(5,.pointer (some ⟨ap,0,none⟩)),(6,iv ao),(10,.slice aj ac.length ak),(11,.bool (av == 1))] [eBox aa 30 [.slice ae p0.Left.length af,.slice ag p0.Right.length ah],eBox au 40 [iv 0,.slice none 0 0],eBox ap 40 [iv (w64 (al - am)),.slice a7 ai.length a8],eRow r_api_Stitch 56 (.slice aj ac.length ak) ac,eRow r_api_Row 54 (.slice a7 ai.length a8) ai] [fRep (rL (rI .i64)) (.slice ae p0.Left.length af) p0.Left,fRep (rL (rI .i64)) (.slice ag p0.Right.length ah) p0.Right]) ?_ (fun a w hI=>?_)
   ·refine sSeq (fun dr ci=>sRegion (sM S fun a S=>?_))
    refine lT (ci _ _ ?_)
    rcases iS h with ⟨b8,h⟩ | ⟨b8,h⟩
    rotate_left
    ·refine sCondF S d b8 ?_
     exact wp_skip (leafT (⟨aw,Option.some.inj h,ax,ay,S.fix [0,1,2,3,4] [0,1] (by decide) d d d⟩))
    refine sCondT S d b8 (sRegion (sM S fun a S=>?_))
    obtain ⟨az,cj,h⟩:=bS h
    have S:=S.shutR (r:=r_api_Stitch) (T:=56) (v:=.slice ax aw.length ay) (xs:=aw) 3 d
    refine sCall (X:=Option Addr × Nat) (f:=39) (vs:=[.slice ax aw.length ay]) (val:=fun x=>.tuple #[.slice x.1 az.1.length x.2,iv az.2]) (B':=fun x=>[eRow r_api_Stitch 56 (.slice x.1 az.1.length x.2) az.1]) (D':=fun _=>[]) [] [eBox aa 30 [.slice ae p0.Left.length af,.slice ag p0.Right.length ah],eBox au 40 [iv 0,.slice none 0 0],eBox ap 40 [iv (w64 (al - am)),.slice a7 ai.length a8],eRow r_api_Row 54 (.slice a7 ai.length a8) ai] [fRep (rL r_api_Stitch) (.slice ax aw.length ay) aw] [0,1,2,3] [0] S (wN d) d callee39 d (by decide) d d (fun E1 w1 S1=>c_stitch_Turn_s0 E1 w1 aw (.slice ax aw.length ay) az cj S1) d (lb d) fun xx a w S=>?_
    obtain ⟨aS,aT⟩:=xx
    dsimp only at S
    refine sM S fun a S=>?_
    refine sExtract (vs:=[.slice aS az.1.length aT,iv az.2]) (.slice aS az.1.length aT) S (wN d) d d d d (lb d) fun a S=>sExtract (vs:=[.slice aS az.1.length aT,iv az.2]) (iv az.2) S (wN d) d d d d (lb d) fun a S=>sN S fun a S=>?_
    exact lT (⟨az.1,Option.some.inj h,aS,aT,S.fix [1,2,3,0,4] [1,2] (by decide) d d d⟩)
   obtain ⟨ac,rfl,aj,ak,S⟩:=hI
   have h:=cV
   try dsimp only at h
   refine sRegion (sField (b:=ap) (off:=0) 1 1 S (wN d) d d d d d (lb d) fun a S=>sLoad1 2 (.slice a7 ai.length a8) S (wN d) d d d d d d (lb d) fun a S=>sM S fun a S=>?_)
   refine sM S fun a S=>?_
   refine sBuild [(0,.bool (av == 1)),(1,.slice aj ac.length ak)] [.bool (av == 1),.slice aj ac.length ak] S (wN d) d d d d (lb d) fun a S=>?_
   have S:=S.shutR (r:=r_api_Stitch) (T:=56) (v:=.slice aj ac.length ak) (xs:=ac) 3 d
   have S:=S.learn (fRep r_api_Row (.agg #[.bool (av == 1),.slice aj ac.length ak]) (api_Row.mk (av == 1) ac)) ⟨_,d,S.mem.know (i:=0) (e:=fRep (rL r_api_Stitch) (.slice aj ac.length ak) ac) d⟩
   refine sLit (r:=r_api_Row) (T:=54) (xs:=[(api_Row.mk (av == 1) ac)]) [(0,.agg #[.bool (av == 1),.slice aj ac.length ak])] 1 [.agg #[.bool (av == 1),.slice aj ac.length ak]] [.bool (av == 1),.slice aj ac.length ak] (.agg #[.bool false,.slice none 0 0]) 32 S (wN d) d d Tryd.underlying38 d (by decide) (by decide) (by kernel_rfl) d (fun E1 w1 hE=>All.cons (r_api_Row.mono hE (S.mem.know (i:=0) (e:=fRep r_api_Row (.agg #[.bool (av == 1),.slice aj ac.length ak]) (api_Row.mk (av == 1) ac)) d)) (All.nil _ _ _)) d d (lb d) fun a w ck cl S=>?_
   obtain ⟨bp,cm,h⟩:=bS h
   refine sApp (r:=r_api_Row) (T:=54) (xs:=ai) (ys:=[(api_Row.mk (av == 1) ac)]) (v:=.slice a7 ai.length a8) (u:=.slice ck [(api_Row.mk (av == 1) ac)].length cl) 4 (.agg #[.bool false,.slice none 0 0]) 32 S (wN d) d Tryd.underlying38 d d (by decide) d d d (src_R (T:=54) 0 S.mem d) cm d (lb d) fun a w ba bb S=>sField (b:=ap) (off:=0) 1 1 S (wN d) d d d d d (lb d) fun a S=>sStore (p:=ap) (off:=1) (T:=40) (vs:=[iv (w64 (al - am)),.slice a7 ai.length a8]) (v:=.slice ba bp.length bb) 4 [.slice ba bp.length bb] S (wN d) d d d d d d d (by simp) d fun a w S=>?_
   exact leafL (leafB (leafT (⟨bp,Option.some.inj h,ba,bb,S.fix [3,4,0,1] [2,3] (by decide) d d d⟩)))
  refine node_by (A:=anc_piece_Chart_s0_2) 15 (by kernel_rfl) (by kernel_rfl) (by kernel_rfl) (by kernel_rfl) (by kernel_rfl) [0,1,2,3,4,5,6,7,8,9,10,11] (by kernel_rfl) (by decide) (by decide) (fF ?_ (fF ?_ (fF ?_ (fF ?_ (fF ?_ (fF ?_ (fF ?_ (fF ?_ (fF ?_ (fF ?_ (fF ?_ (fF ?_ (fN ?_ (fN ?_ (aB 14 0 12 (by decide) (trivial)))))))))))))))) [] (fun q hq=>by cases hq) (fun hY=>absurd (hY 12 (by decide)) (by decide))
  ·refine fJ [(1,_)] 0 [none] fun G a w S=>?_
   exact sField (b:=aa) (off:=0) 0 0 S (wN d) d d d d d (lb d) fun a S=>leafL ⟨d,S⟩
  ·refine fJ [(48,_)] 1 [some 0] fun G a w S=>?_
   exact sLoad1 1 (.slice ae p0.Left.length af) S (wN d) d d d d d d (lb d) fun a S=>leafL ⟨d,S⟩
  ·exact fM 2 none d d d d (.inl d) d d d
  ·refine fJ [(50,_)] 3 [some 2] fun G a w S=>?_
   exact sBin _ S (wN d) d d d (bSub _ _ _ _ ao 1) d (lb d) fun a S=>leafL ⟨d,S⟩
  ·refine fJ [(49,_),(51,_)] 4 [some 1,some 3] fun G a w S=>?_
   exact sIdxV S (wN d) d d d bi d (lb d) fun a S=>leafL ⟨d,S⟩
  ·refine fJ [(52,_)] 5 [some 4] fun G a w S=>?_
   exact sLoadV1 (vq:=bg) 3 (iv ar) S (wN d) d d d d d (lb d) fun a S=>leafL ⟨d,S⟩
  ·refine fJ [(1,_)] 6 [none] fun G a w S=>?_
   exact sField (b:=aa) (off:=0) 0 0 S (wN d) d d d d d (lb d) fun a S=>leafL ⟨d,S⟩
  ·refine fJ [(54,_)] 7 [some 6] fun G a w S=>?_
   exact sLoad1 1 (.slice ae p0.Left.length af) S (wN d) d d d d d d (lb d) fun a S=>leafL ⟨d,S⟩
  ·exact fM 8 none d d d d (.inl d) d d d
  ·refine fJ [(55,_),(56,_)] 9 [some 7,some 8] fun G a w S=>?_
   exact sIdxV S (wN d) d d d bj d (lb d) fun a S=>leafL ⟨d,S⟩
  ·refine fJ [(57,_)] 10 [some 9] fun G a w S=>?_
   exact sLoadV1 (vq:=bh) 0 (iv aO) S (wN d) d d d d d (lb d) fun a S=>leafL ⟨d,S⟩
  ·refine fJ [(53,_),(58,_)] 11 [some 5,some 10] fun G a w S=>?_
   exact sBin _ S (wN d) d d d (bSub _ _ _ _ ar aO) d (lb d) fun a S=>leafL ⟨d,S⟩
  ·refine ⟨_,[(59,iv (w64 (ar - aO)))],d,(srcs_of [some 11] d d d),fun G a w S=>?_⟩
   refine sCall (X:=Value) (f:=38) (vs:=[iv (w64 (ar - aO)),.int .u8 4]) (val:=c_piece_bend_val a2) (B':=fun _=>[]) (D':=c_piece_bend_D a2) [] [eBox aG 81 [.int .u8 a6.s.Kind,.bool a6.s.Purl,iv a6.s.A,iv a6.s.B,iv a6.uses],eBox aa 30 [.slice ae p0.Left.length af,.slice ag p0.Right.length ah],eBox au 40 [iv 0,.slice none 0 0],eBox ap 40 [iv (w64 (al - am)),.slice a7 ai.length a8],eRow r_api_Row 54 (.slice a7 ai.length a8) ai] [] [0,1,2,3,4] [] S (wN d) d callee38 d (by decide) d d (fun E1 w1 S1=>c_piece_bend E1 w1 (w64 (ar - aO)) 4 a2 bF S1) d (lb d) fun cn a w S=>?_
   obtain rfl:cn=.agg #[.int .u8 a2.s.Kind,.bool a2.s.Purl,iv a2.s.A,iv a2.s.B,iv a2.uses]:=S.mem.know (i:=0) (e:=fRep r_piece_edge (cn) a2) d
   refine leafL ⟨d,_,_,.inl ⟨60,(.agg #[.int .u8 a2.s.Kind,.bool a2.s.Purl,iv a2.s.A,iv a2.s.B,iv a2.uses]),[],d,S,hz_of d,?_⟩⟩
   refine node_by (A:=anc_piece_Chart_s0_2) 15 (by kernel_rfl) (by kernel_rfl) (by kernel_rfl) (by kernel_rfl) (by kernel_rfl) [12,0,1,2,3,4,5,6,7,8,9,10,11] (by kernel_rfl) (by decide) (by decide) (fD 12 (fD 12 (fD 12 (fD 12 (fD 12 (fD 12 (fD 12 (fD 12 (fD 12 (fD 12 (fD 12 (fD 12 (fY (fN ?_ (aB 14 0 13 (by decide) (trivial)))))))))))))))) [] (fun q hq=>by cases hq) (fun hY=>absurd (hY 13 (by decide)) (by decide))
   refine ⟨_,[],d,(srcs_of [] d d d),fun G a w S=>?_⟩
   refine sAlloc (.agg #[.int .u8 0,.bool false,iv 0,iv 0,iv 0]) S (wN d) d d [.int .u8 0,.bool false,iv 0,iv 0,iv 0] d d (lb d) fun a ab w S=>leafL ⟨d,_,_,.inl ⟨8,(.pointer (some ⟨ab,0,none⟩)),[],d,S,hz_of d,?_⟩⟩
   exact nd1 ab
  refine ⟨_,[],d,(srcs_of [] d d d),fun G a w S=>?_⟩
  refine sAlloc (.agg #[.int .u8 0,.bool false,iv 0,iv 0,iv 0]) S (wN d) d d [.int .u8 0,.bool false,iv 0,iv 0,iv 0] d d (lb d) fun a bq w S=>leafL ⟨d,_,_,.inl ⟨8,(.pointer (some ⟨bq,0,none⟩)),[],d,S,hz_of d,?_⟩⟩
  refine node_by (A:=anc_piece_Chart_s0_2) 15 (by kernel_rfl) (by kernel_rfl) (by kernel_rfl) (by kernel_rfl) (by kernel_rfl) [13,0,1,2,3,4,5,6,7,8,9,10,11] (by kernel_rfl) (by decide) (by decide) (fF ?_ (fF ?_ (fF ?_ (fF ?_ (fF ?_ (fF ?_ (fF ?_ (fF ?_ (fF ?_ (fF ?_ (fF ?_ (fF ?_ (fN ?_ (fY (aB 14 0 12 (by decide) (trivial)))))))))))))))) [] (fun q hq=>by cases hq) (fun hY=>absurd (hY 12 (by decide)) (by decide))
  ·refine fJ [(1,_)] 1 [none] fun G a w S=>?_
   exact sField (b:=aa) (off:=0) 0 0 S (wN d) d d d d d (lb d) fun a S=>leafL ⟨d,S⟩
  ·refine fJ [(48,_)] 2 [some 1] fun G a w S=>?_
   exact sLoad1 2 (.slice ae p0.Left.length af) S (wN d) d d d d d d (lb d) fun a S=>leafL ⟨d,S⟩
  ·exact fM 3 none d d d d (.inl d) d d d
  ·refine fJ [(50,_)] 4 [some 3] fun G a w S=>?_
   exact sBin _ S (wN d) d d d (bSub _ _ _ _ ao 1) d (lb d) fun a S=>leafL ⟨d,S⟩
  ·refine fJ [(49,_),(51,_)] 5 [some 2,some 4] fun G a w S=>?_
   exact sIdxV S (wN d) d d d bi d (lb d) fun a S=>leafL ⟨d,S⟩
  ·refine fJ [(52,_)] 6 [some 5] fun G a w S=>?_
   exact sLoadV1 (vq:=bg) 3 (iv ar) S (wN d) d d d d d (lb d) fun a S=>leafL ⟨d,S⟩
  ·refine fJ [(1,_)] 7 [none] fun G a w S=>?_
   exact sField (b:=aa) (off:=0) 0 0 S (wN d) d d d d d (lb d) fun a S=>leafL ⟨d,S⟩
  ·refine fJ [(54,_)] 8 [some 7] fun G a w S=>?_
   exact sLoad1 2 (.slice ae p0.Left.length af) S (wN d) d d d d d d (lb d) fun a S=>leafL ⟨d,S⟩
  ·exact fM 9 none d d d d (.inl d) d d d
  ·refine fJ [(55,_),(56,_)] 10 [some 8,some 9] fun G a w S=>?_
   exact sIdxV S (wN d) d d d bj d (lb d) fun a S=>leafL ⟨d,S⟩
  ·refine fJ [(57,_)] 11 [some 10] fun G a w S=>?_
   exact sLoadV1 (vq:=bh) 0 (iv aO) S (wN d) d d d d d (lb d) fun a S=>leafL ⟨d,S⟩
  ·refine fJ [(53,_),(58,_)] 12 [some 6,some 11] fun G a w S=>?_
   exact sBin _ S (wN d) d d d (bSub _ _ _ _ ar aO) d (lb d) fun a S=>leafL ⟨d,S⟩
  refine ⟨_,[(59,iv (w64 (ar - aO)))],d,(srcs_of [some 12] d d d),fun G a w S=>?_⟩
  refine sCall (X:=Value) (f:=38) (vs:=[iv (w64 (ar - aO)),.int .u8 4]) (val:=c_piece_bend_val a2) (B':=fun _=>[]) (D':=c_piece_bend_D a2) [] [eBox bq 81 [.int .u8 0,.bool false,iv 0,iv 0,iv 0],eBox aG 81 [.int .u8 a6.s.Kind,.bool a6.s.Purl,iv a6.s.A,iv a6.s.B,iv a6.uses],eBox aa 30 [.slice ae p0.Left.length af,.slice ag p0.Right.length ah],eBox au 40 [iv 0,.slice none 0 0],eBox ap 40 [iv (w64 (al - am)),.slice a7 ai.length a8],eRow r_api_Row 54 (.slice a7 ai.length a8) ai] [] [0,1,2,3,4,5] [] S (wN d) d callee38 d (by decide) d d (fun E1 w1 S1=>c_piece_bend E1 w1 (w64 (ar - aO)) 4 a2 bF S1) d (lb d) fun co a w S=>?_
  obtain rfl:co=.agg #[.int .u8 a2.s.Kind,.bool a2.s.Purl,iv a2.s.A,iv a2.s.B,iv a2.uses]:=S.mem.know (i:=0) (e:=fRep r_piece_edge (co) a2) d
  refine leafL ⟨d,_,_,.inl ⟨60,(.agg #[.int .u8 a2.s.Kind,.bool a2.s.Purl,iv a2.s.A,iv a2.s.B,iv a2.uses]),[],d,S,hz_of d,?_⟩⟩
  exact nodePerm (nd1 bq) [1,0,2,3,4,5,6,7,8,9,10,11,12,13] [0,1,2,3,4,5] [0,1,2,3,4,5,6,7,8,9,10,11,12,13,14,15] (by decide) (by decide) d d d
 refine node_by (A:=anc_piece_Chart_s0_1) 15 (by kernel_rfl) (by kernel_rfl) (by kernel_rfl) (by kernel_rfl) (by kernel_rfl) [0,1,2,3,4,5,6,7,8,9,10,11] (by kernel_rfl) (by decide) (by decide) (fF ?_ (fF ?_ (fF ?_ (fF ?_ (fF ?_ (fF ?_ (fF ?_ (fF ?_ (fF ?_ (fF ?_ (fF ?_ (fF ?_ (fN ?_ (fN ?_ (aB 14 0 12 (by decide) (trivial)))))))))))))))) [] (fun q hq=>by cases hq) (fun hY=>absurd (hY 12 (by decide)) (by decide))
 ·refine fJ [(1,_)] 0 [none] fun G a w S=>?_
  exact sField (b:=aa) (off:=0) 1 1 S (wN d) d d d d d (lb d) fun a S=>leafL ⟨d,S⟩
 ·refine fJ [(35,_)] 1 [some 0] fun G a w S=>?_
  exact sLoad1 0 (.slice ag p0.Right.length ah) S (wN d) d d d d d d (lb d) fun a S=>leafL ⟨d,S⟩
 ·exact fM 2 none d d d d (.inl d) d d d
 ·refine fJ [(36,_),(37,_)] 3 [some 1,some 2] fun G a w S=>?_
  exact sIdxV S (wN d) d d d bC d (lb d) fun a S=>leafL ⟨d,S⟩
 ·refine fJ [(38,_)] 4 [some 3] fun G a w S=>?_
  exact sLoadV1 (vq:=ct) 3 (iv aM) S (wN d) d d d d d (lb d) fun a S=>leafL ⟨d,S⟩
 ·refine fJ [(1,_)] 5 [none] fun G a w S=>?_
  exact sField (b:=aa) (off:=0) 1 1 S (wN d) d d d d d (lb d) fun a S=>leafL ⟨d,S⟩
 ·refine fJ [(40,_)] 6 [some 5] fun G a w S=>?_
  exact sLoad1 0 (.slice ag p0.Right.length ah) S (wN d) d d d d d d (lb d) fun a S=>leafL ⟨d,S⟩
 ·exact fM 7 none d d d d (.inl d) d d d
 ·refine fJ [(42,_)] 8 [some 7] fun G a w S=>?_
  exact sBin _ S (wN d) d d d (bSub _ _ _ _ ao 1) d (lb d) fun a S=>leafL ⟨d,S⟩
 ·refine fJ [(41,_),(43,_)] 9 [some 6,some 8] fun G a w S=>?_
  exact sIdxV S (wN d) d d d bD d (lb d) fun a S=>leafL ⟨d,S⟩
 ·refine fJ [(44,_)] 10 [some 9] fun G a w S=>?_
  exact sLoadV1 (vq:=cu) 0 (iv aq) S (wN d) d d d d d (lb d) fun a S=>leafL ⟨d,S⟩
 ·refine fJ [(39,_),(45,_)] 11 [some 4,some 10] fun G a w S=>?_
  exact sBin _ S (wN d) d d d (bSub _ _ _ _ aM aq) d (lb d) fun a S=>leafL ⟨d,S⟩
 ·refine ⟨_,[(46,iv (w64 (aM - aq)))],d,(srcs_of [some 11] d d d),fun G a w S=>?_⟩
  refine sCall (X:=Value) (f:=38) (vs:=[iv (w64 (aM - aq)),.int .u8 3]) (val:=c_piece_bend_val a6) (B':=fun _=>[]) (D':=c_piece_bend_D a6) [] [eBox aa 30 [.slice ae p0.Left.length af,.slice ag p0.Right.length ah],eBox au 40 [iv 0,.slice none 0 0],eBox ap 40 [iv (w64 (al - am)),.slice a7 ai.length a8],eRow r_api_Row 54 (.slice a7 ai.length a8) ai] [] [0,1,2,3] [] S (wN d) d callee38 d (by decide) d d (fun E1 w1 S1=>c_piece_bend E1 w1 (w64 (aM - aq)) 3 a6 bB S1) d (lb d) fun d6 a w S=>?_
  obtain rfl:d6=.agg #[.int .u8 a6.s.Kind,.bool a6.s.Purl,iv a6.s.A,iv a6.s.B,iv a6.uses]:=S.mem.know (i:=0) (e:=fRep r_piece_edge (d6) a6) d
  refine leafL ⟨d,_,_,.inl ⟨47,(.agg #[.int .u8 a6.s.Kind,.bool a6.s.Purl,iv a6.s.A,iv a6.s.B,iv a6.uses]),[],d,S,hz_of d,?_⟩⟩
  refine node_by (A:=anc_piece_Chart_s0_1) 15 (by kernel_rfl) (by kernel_rfl) (by kernel_rfl) (by kernel_rfl) (by kernel_rfl) [12,0,1,2,3,4,5,6,7,8,9,10,11] (by kernel_rfl) (by decide) (by decide) (fD 12 (fD 12 (fD 12 (fD 12 (fD 12 (fD 12 (fD 12 (fD 12 (fD 12 (fD 12 (fD 12 (fD 12 (fY (fN ?_ (aB 14 0 13 (by decide) (trivial)))))))))))))))) [] (fun q hq=>by cases hq) (fun hY=>absurd (hY 13 (by decide)) (by decide))
  refine ⟨_,[],d,(srcs_of [] d d d),fun G a w S=>?_⟩
  refine sAlloc (.agg #[.int .u8 0,.bool false,iv 0,iv 0,iv 0]) S (wN d) d d [.int .u8 0,.bool false,iv 0,iv 0,iv 0] d d (lb d) fun a aG w S=>leafL ⟨d,_,_,.inl ⟨7,(.pointer (some ⟨aG,0,none⟩)),[],d,S,hz_of d,?_⟩⟩
  exact nd1 aG
 refine ⟨_,[],d,(srcs_of [] d d d),fun G a w S=>?_⟩
 refine sAlloc (.agg #[.int .u8 0,.bool false,iv 0,iv 0,iv 0]) S (wN d) d d [.int .u8 0,.bool false,iv 0,iv 0,iv 0] d d (lb d) fun a br w S=>leafL ⟨d,_,_,.inl ⟨7,(.pointer (some ⟨br,0,none⟩)),[],d,S,hz_of d,?_⟩⟩
 refine node_by (A:=anc_piece_Chart_s0_1) 15 (by kernel_rfl) (by kernel_rfl) (by kernel_rfl) (by kernel_rfl) (by kernel_rfl) [13,0,1,2,3,4,5,6,7,8,9,10,11] (by kernel_rfl) (by decide) (by decide) (fF ?_ (fF ?_ (fF ?_ (fF ?_ (fF ?_ (fF ?_ (fF ?_ (fF ?_ (fF ?_ (fF ?_ (fF ?_ (fF ?_ (fN ?_ (fY (aB 14 0 12 (by decide) (trivial)))))))))))))))) [] (fun q hq=>by cases hq) (fun hY=>absurd (hY 12 (by decide)) (by decide))
 ·refine fJ [(1,_)] 1 [none] fun G a w S=>?_
  exact sField (b:=aa) (off:=0) 1 1 S (wN d) d d d d d (lb d) fun a S=>leafL ⟨d,S⟩
 ·refine fJ [(35,_)] 2 [some 1] fun G a w S=>?_
  exact sLoad1 1 (.slice ag p0.Right.length ah) S (wN d) d d d d d d (lb d) fun a S=>leafL ⟨d,S⟩
 ·exact fM 3 none d d d d (.inl d) d d d
 ·refine fJ [(36,_),(37,_)] 4 [some 2,some 3] fun G a w S=>?_
  exact sIdxV S (wN d) d d d bC d (lb d) fun a S=>leafL ⟨d,S⟩
 ·refine fJ [(38,_)] 5 [some 4] fun G a w S=>?_
  exact sLoadV1 (vq:=ct) 3 (iv aM) S (wN d) d d d d d (lb d) fun a S=>leafL ⟨d,S⟩
 ·refine fJ [(1,_)] 6 [none] fun G a w S=>?_
  exact sField (b:=aa) (off:=0) 1 1 S (wN d) d d d d d (lb d) fun a S=>leafL ⟨d,S⟩
 ·refine fJ [(40,_)] 7 [some 6] fun G a w S=>?_
  exact sLoad1 1 (.slice ag p0.Right.length ah) S (wN d) d d d d d d (lb d) fun a S=>leafL ⟨d,S⟩
 ·exact fM 8 none d d d d (.inl d) d d d
 ·refine fJ [(42,_)] 9 [some 8] fun G a w S=>?_
  exact sBin _ S (wN d) d d d (bSub _ _ _ _ ao 1) d (lb d) fun a S=>leafL ⟨d,S⟩
 ·refine fJ [(41,_),(43,_)] 10 [some 7,some 9] fun G a w S=>?_
  exact sIdxV S (wN d) d d d bD d (lb d) fun a S=>leafL ⟨d,S⟩
 ·refine fJ [(44,_)] 11 [some 10] fun G a w S=>?_
  exact sLoadV1 (vq:=cu) 0 (iv aq) S (wN d) d d d d d (lb d) fun a S=>leafL ⟨d,S⟩
 ·refine fJ [(39,_),(45,_)] 12 [some 5,some 11] fun G a w S=>?_
  exact sBin _ S (wN d) d d d (bSub _ _ _ _ aM aq) d (lb d) fun a S=>leafL ⟨d,S⟩
 refine ⟨_,[(46,iv (w64 (aM - aq)))],d,(srcs_of [some 12] d d d),fun G a w S=>?_⟩
 refine sCall (X:=Value) (f:=38) (vs:=[iv (w64 (aM - aq)),.int .u8 3]) (val:=c_piece_bend_val a6) (B':=fun _=>[]) (D':=c_piece_bend_D a6) [] [eBox br 81 [.int .u8 0,.bool false,iv 0,iv 0,iv 0],eBox aa 30 [.slice ae p0.Left.length af,.slice ag p0.Right.length ah],eBox au 40 [iv 0,.slice none 0 0],eBox ap 40 [iv (w64 (al - am)),.slice a7 ai.length a8],eRow r_api_Row 54 (.slice a7 ai.length a8) ai] [] [0,1,2,3,4] [] S (wN d) d callee38 d (by decide) d d (fun E1 w1 S1=>c_piece_bend E1 w1 (w64 (aM - aq)) 3 a6 bB S1) d (lb d) fun cp a w S=>?_
 obtain rfl:cp=.agg #[.int .u8 a6.s.Kind,.bool a6.s.Purl,iv a6.s.A,iv a6.s.B,iv a6.uses]:=S.mem.know (i:=0) (e:=fRep r_piece_edge (cp) a6) d
 refine leafL ⟨d,_,_,.inl ⟨47,(.agg #[.int .u8 a6.s.Kind,.bool a6.s.Purl,iv a6.s.A,iv a6.s.B,iv a6.uses]),[],d,S,hz_of d,?_⟩⟩
 exact nodePerm (nd1 br) [1,0,2,3,4,5,6,7,8,9,10,11,12,13] [0,1,2,3,4] [0,1,2,3,4,5,6,7,8] (by decide) (by decide) d d d
noncomputable def F_piece_grows (p0:api_Stitch):Option Int:=
 if p0.Kind == 5 then
  some (w64 (p0.A - 1))
 else
  if p0.Kind == 9 then
   some p0.A
  else
   Option.bind (α:=Bool) (
    if p0.Kind == 3 then
     some (p0.Kind == 3)
    else
     some (p0.Kind == 4)) fun a2=>
   if a2 then
    some (w64 (1 - p0.A))
   else
    if p0.Kind == 10 then
     some (w64 (0 - p0.A))
    else
     some 0
theorem c_piece_grows (E:Nat→Prop) (w0:World) (p0:api_Stitch) (v0:Value) (r:Int) (h:F_piece_grows p0=some r) (S:St0 E [] w0 w0 [] [fRep r_api_Stitch (v0) p0]) :
 Calls Tryd.prog 41 #[v0] w0 (Ret (X:=Unit) E [] w0 (fun _=>.int .i64 r) (fun _=>[]) (fun _=>[])):=by
 unfold F_piece_grows at h
 obtain rfl:v0=.agg #[.int .u8 p0.Kind,.bool p0.Purl,iv p0.A,iv p0.B]:=S.know (i:=0) (e:=fRep r_api_Stitch (v0) p0) d
 refine sEnter (args:=[.agg #[.int .u8 p0.Kind,.bool p0.Purl,iv p0.A,iv p0.B]]) 25 Tryd.func41 d d (by simp) S (fun a S=>?_)
 refine sSeq (fun K1 aj=>sRegion (sBox (v:=.agg #[.int .u8 p0.Kind,.bool p0.Purl,iv p0.A,iv p0.B]) S (wN d) d d [.int .u8 p0.Kind,.bool p0.Purl,iv p0.A,iv p0.B] d d (lb d) fun a b2 w S=>sN S fun a S=>?_))
 refine lT (aj _ _ (sSeq (fun K3 ak=>sSeq (fun K4 al=>sRegion (sField (b:=b2) (off:=0) 0 0 S (wN d) d d d d d (lb d) fun a S=>sLoad1 0 (.int .u8 p0.Kind) S (wN d) d d d d d d (lb d) fun a S=>lT (al _ _ (wp_block ?_)))))))
 refine sSeq (fun K5 am=>sRegion (sBin _ S (wN d) d d d (bEq _ _ _ _ .u8 p0.Kind 5) d (lb d) fun a S=>sN S fun a S=>?_))
 refine lT (am _ _ ?_)
 rcases iS h with ⟨a8,h⟩ | ⟨a8,h⟩
 ·refine sCondT S d a8 (sSeq (fun K7 ao=>sRegion (sField (b:=b2) (off:=0) 2 2 S (wN d) d d d d d (lb d) fun a S=>sLoad1 0 (iv p0.A) S (wN d) d d d d d d (lb d) fun a S=>sBin _ S (wN d) d d d (bSub _ _ _ _ p0.A 1) d (lb d) fun a S=>sN S fun a S=>?_)))
  refine lT (ao _ _ ?_)
  obtain rfl:=tS h
  exact wp_ret (rBlock (rThen (sRet (iv (w64 (p0.A - 1))) S (rsl1 d (rvT (t:=2) (v:=iv (w64 (p0.A - 1))) S d)) ⟨(),d,S.mem.sel [] [] (by decide) d d⟩)))
 refine sCondF S d a8 (sSeq (fun K8 ap=>sRegion (sBin _ S (wN d) d d d (bEq _ _ _ _ .u8 p0.Kind 9) d (lb d) fun a S=>sN S fun a S=>?_)))
 refine lT (ap _ _ ?_)
 rcases iS h with ⟨aa,h⟩ | ⟨aa,h⟩
 ·refine sCondT S d aa (sSeq (fun au ab=>sRegion (sField (b:=b2) (off:=0) 2 2 S (wN d) d d d d d (lb d) fun a S=>sLoad1 0 (iv p0.A) S (wN d) d d d d d d (lb d) fun a S=>sN S fun a S=>?_)))
  refine lT (ab _ _ ?_)
  obtain rfl:=tS h
  exact wp_ret (rBlock (rThen (sRet (iv p0.A) S (rsl1 d (rvT (t:=2) (v:=iv p0.A) S d)) ⟨(),d,S.mem.sel [] [] (by decide) d d⟩)))
 refine sCondF S d aa ?_
 obtain ⟨aq,h,ar⟩:=bS h
 refine sCut (fun a w=>∃ ac,ac=aq∧St [] E [] w0 25 a w [(1,.pointer (some ⟨b2,0,none⟩)),(4,.int .u8 p0.Kind),(14,.bool ac)] [eBox b2 56 [.int .u8 p0.Kind,.bool p0.Purl,iv p0.A,iv p0.B]] []) ?_ (fun a w hI=>?_)
 ·refine sSeq (fun av ae=>sRegion (sBin _ S (wN d) d d d (bEq _ _ _ _ .u8 p0.Kind 3) d (lb d) fun a S=>sN S fun a S=>?_))
  refine lT (ae _ _ ?_)
  rcases iS h with ⟨a2,h⟩ | ⟨a2,h⟩
  ·refine sCondT S d a2 ?_
   exact wp_skip (leafT (⟨p0.Kind == 3,Option.some.inj h,S.fix [0] [] (by decide) d d d⟩))
  refine sCondF S d a2 (sRegion (sBin _ S (wN d) d d d (bEq _ _ _ _ .u8 p0.Kind 4) d (lb d) fun a S=>sN S fun a S=>?_))
  exact lT (⟨p0.Kind == 4,Option.some.inj h,S.fix [0] [] (by decide) d d d⟩)
 obtain ⟨ac,rfl,S⟩:=hI
 have h:=ar
 try dsimp only at h
 rcases iS h with ⟨a6,h⟩ | ⟨a6,h⟩
 ·refine sCondT S d a6 (sSeq (fun aw af=>sRegion (sField (b:=b2) (off:=0) 2 2 S (wN d) d d d d d (lb d) fun a S=>sLoad1 0 (iv p0.A) S (wN d) d d d d d d (lb d) fun a S=>sBin _ S (wN d) d d d (bSub _ _ _ _ 1 p0.A) d (lb d) fun a S=>sN S fun a S=>?_)))
  refine lT (af _ _ ?_)
  obtain rfl:=tS h
  exact wp_ret (rBlock (rThen (sRet (iv (w64 (1 - p0.A))) S (rsl1 d (rvT (t:=2) (v:=iv (w64 (1 - p0.A))) S d)) ⟨(),d,S.mem.sel [] [] (by decide) d d⟩)))
 refine sCondF S d a6 (sSeq (fun ax ag=>sRegion (sBin _ S (wN d) d d d (bEq _ _ _ _ .u8 p0.Kind 10) d (lb d) fun a S=>sN S fun a S=>?_)))
 refine lT (ag _ _ ?_)
 rcases iS h with ⟨a7,h⟩ | ⟨a7,h⟩
 rotate_left
 ·refine sCondF S d a7 (wp_skip (leafB (leafT (ak _ _ ?_))))
  refine sSeq (fun ay ah=>sRegion (sN S fun a S=>?_))
  refine lT (ah _ _ ?_)
  obtain rfl:=tS h
  exact wp_ret (sRet (iv 0) S (rsl1 d (rvT (t:=2) (v:=iv 0) S d)) ⟨(),d,S.mem.sel [] [] (by decide) d d⟩)
 refine sCondT S d a7 (sSeq (fun az ai=>sRegion (sField (b:=b2) (off:=0) 2 2 S (wN d) d d d d d (lb d) fun a S=>sLoad1 0 (iv p0.A) S (wN d) d d d d d d (lb d) fun a S=>sNeg (b:=p0.A) S (wN d) d d d (lb d) fun a S=>sN S fun a S=>?_)))
 refine lT (ai _ _ ?_)
 obtain rfl:=tS h
 exact wp_ret (rBlock (rThen (sRet (iv (w64 (0 - p0.A))) S (rsl1 d (rvT (t:=2) (v:=iv (w64 (0 - p0.A))) S d)) ⟨(),d,S.mem.sel [] [] (by decide) d d⟩)))
def anc_slices_Equal___api_Stitch_api_Stitch__0:List (List Nat):=[[],[],[0,1],[0,1,2],[],[],[4,5],[4,5,6],[0,1,2,3,4,5,6,7]]
noncomputable def slices_Equal___api_Stitch_api_Stitch__l1 (p0:(List api_Stitch)) (p1:(List api_Stitch)):Int→Option (Int ⊕ (Bool ⊕ Unit)):=fun s0=>match s0 with
 | a2=>
  if decide (a2 < (p0.length:Int)) then
   (idxO p0 a2).bind fun a6=>
   (idxO p1 a2).bind fun a7=>
   if !((a6.Kind == a7.Kind) && ((a6.Purl == a7.Purl) && ((a6.A == a7.A) && ((a6.B == a7.B) && true)))) then
    some (.inr (.inl false))
   else
    some (.inl (w64 (a2 + 1)))
  else
   some (.inr (.inr ()))
noncomputable def F_slices_Equal___api_Stitch_api_Stitch_ (p0:(List api_Stitch)) (p1:(List api_Stitch)):Option Bool:=
 if (p0.length:Int) != (p1.length:Int) then
  some false
 else
  Option.bind (α:=Unit ⊕ Bool) (
   (whileO (slices_Equal___api_Stitch_api_Stitch__l1 p0 p1) 0).bind fun z0=>match z0 with
    | .inl z=>
     some (.inr z)
    | .inr _=>
     some (.inl ())) fun z0=>match z0 with
   | .inl _=>
    some true
   | .inr z=>
    some z
theorem c_slices_Equal___api_Stitch_api_Stitch_ (E:Nat→Prop) (w0:World) (p0:(List api_Stitch)) (v0:Value) (p1:(List api_Stitch)) (v1:Value) (r:Bool) (h:F_slices_Equal___api_Stitch_api_Stitch_ p0 p1=some r) (S:St0 E [] w0 w0 [] [fRep (rL r_api_Stitch) (v0) p0,fRep (rL r_api_Stitch) (v1) p1]) :
 Calls Tryd.prog 56 #[v0,v1] w0 (Ret (X:=Unit) E [] w0 (fun _=>.bool r) (fun _=>[]) (fun _=>[])):=by
 unfold F_slices_Equal___api_Stitch_api_Stitch_ at h
 obtain ⟨ab,ac,_,rfl,_⟩:=S.know (i:=0) (e:=fRep (rL r_api_Stitch) (v0) p0) d
 obtain ⟨ae,af,_,rfl,_⟩:=S.know (i:=1) (e:=fRep (rL r_api_Stitch) (v1) p1) d
 refine sEnter (args:=[.slice ab p0.length ac,.slice ae p1.length af]) 26 Tryd.func56 d d (by simp) S (fun a S=>?_)
 refine sSeq (fun K5 aH=>sRegion (sN S fun a S=>?_))
 refine lT (aH _ _ (sSeq (fun K6 aI=>sSeq (fun K7 aJ=>sRegion (sM S fun a S=>?_)))))
 refine sLen S (wN d) d Tryd.underlying52 d d (lb d) fun a S=>sM S fun a S=>?_
 refine sLen S (wN d) d Tryd.underlying52 d d (lb d) fun a S=>sBin _ S (wN d) d d d (bNe _ _ _ _ .i64 (p0.length:Int) (p1.length:Int)) d (lb d) fun a S=>lT (aJ _ _ ?_)
 rcases iS h with ⟨ah,h⟩ | ⟨ah,h⟩
 ·refine sCondT S d ah (sSeq (fun K9 aK=>sRegion (sN S fun a S=>?_)))
  refine lT (aK _ _ ?_)
  obtain rfl:=tS h
  exact wp_ret (rThen (sRet (.bool false) S (rsl1 d (rvT (t:=4) (v:=.bool false) S d)) ⟨(),d,S.mem.sel [] [] (by decide) d d⟩))
 refine sCondF S d ah (wp_skip (leafT (aI _ _ ?_)))
 obtain ⟨aL,h,az⟩:=bS h
 refine sCut (fun a w=>.inl ()=aL∧St [] E [] w0 26 a w [] [] []) ?_ (fun a w hI=>?_)
 rotate_left
 ·obtain ⟨rfl,S⟩:=hI
  have h:=az
  try dsimp only at h
  refine sSeq (fun aM ai=>sRegion (sN S fun a S=>?_))
  refine lT (ai _ _ ?_)
  obtain rfl:=tS h
  exact wp_ret (sRet (.bool true) S (rsl1 d (rvT (t:=4) (v:=.bool true) S d)) ⟨(),d,S.mem.sel [] [] (by decide) d d⟩)
 refine sSeq (fun aO aj=>sRegion (sM S fun a S=>?_))
 refine sLen S (wN d) d Tryd.underlying52 d d (lb d) fun a S=>sM S fun a S=>?_
 refine lT (aj _ _ (wp_block ?_))
 obtain ⟨aP,hl,aA⟩:=bS h
 refine sLoop hl (fun s0 a w=>match s0 with | a7=>St [] E [] w0 26 a w [(0,.slice ab p0.length ac),(1,.slice ae p1.length af),(12,iv (p0.length:Int)),(13,iv a7)] [] [fRep (rL r_api_Stitch) (.slice ab p0.length ac) p0,fRep (rL r_api_Stitch) (.slice ae p1.length af) p1]) (S.fix [] [0,1] (by decide) d d d) ?_
 clear hl h
 intro a7 a w c0 hI h ag
 unfold slices_Equal___api_Stitch_api_Stitch__l1 at h
 dsimp only at h hI
 have S:=hI
 refine sSeq (fun aQ ak=>sRegion (sBin _ S (wN d) d d d (bLt _ _ _ _ .i64 a7 (p0.length:Int)) d (lb d) fun a S=>lT (ak _ _ (sSeq (fun aR al=>?_)))))
 rcases iS h with ⟨a8,h⟩ | ⟨a8,h⟩
 rotate_left
 ·refine sCondF S d a8 ?_
  obtain rfl:=tS h
  obtain rfl:=ag _ d
  have h:=aA
  try dsimp only at h
  exact wp_exit (xThen (xThen (xHit (leafT (⟨Option.some.inj h,S.fix [] [] (by decide) d d d⟩)))))
 refine sCondT S d a8 (wp_skip (leafT (al _ _ ?_)))
 refine sSeq (fun aS am=>wp_block ?_)
 refine sSeq (fun aT ao=>sRegion (sM S fun a S=>?_))
 refine sN S fun a S=>?_
 refine lT (ao _ _ (sSeq (fun aU ap=>?_)))
 obtain ⟨a2,aq,h⟩:=bS h
 obtain ⟨a6,ar,h⟩:=bS h
 obtain ⟨au,av,S⟩:=pIdx (P:=Tryd.prog) (r:=r_api_Stitch) (v:=.slice ab p0.length ac) (xs:=p0) (j:=a7) 52 56 0 S Tryd.underlying52 d d aq
 obtain ⟨aC,S⟩:=pLoad (r:=r_api_Stitch) (q:=au) (x:=a2) 0 S d
 obtain rfl:aC=.agg #[.int .u8 a2.Kind,.bool a2.Purl,iv a2.A,iv a2.B]:=S.mem.know (i:=1) (e:=fRep r_api_Stitch (aC) a2) d
 obtain ⟨aw,ax,S⟩:=pIdx (P:=Tryd.prog) (r:=r_api_Stitch) (v:=.slice ae p1.length af) (xs:=p1) (j:=a7) 52 56 4 S Tryd.underlying52 d d ar
 obtain ⟨aG,S⟩:=pLoad (r:=r_api_Stitch) (q:=aw) (x:=a6) 0 S d
 obtain rfl:aG=.agg #[.int .u8 a6.Kind,.bool a6.Purl,iv a6.A,iv a6.B]:=S.mem.know (i:=1) (e:=fRep r_api_Stitch (aG) a6) d
 refine sDraw (nf:=[]) (W:=[(0,16,.slice ab p0.length ac),(1,17,iv a7),(2,18,au),(3,19,.agg #[.int .u8 a2.Kind,.bool a2.Purl,iv a2.A,iv a2.B]),(4,20,.slice ae p1.length af),(5,21,iv a7),(6,22,aw),(7,23,.agg #[.int .u8 a6.Kind,.bool a6.Purl,iv a6.A,iv a6.B]),(8,24,.bool (!((a2.Kind == a6.Kind) && ((a2.Purl == a6.Purl) && ((a2.A == a6.A) && ((a2.B == a6.B) && true))))))]) d S ?_
 refine node_by (A:=anc_slices_Equal___api_Stitch_api_Stitch__0) 9 (by kernel_rfl) (by kernel_rfl) (by kernel_rfl) (by kernel_rfl) (by kernel_rfl) [0,1,2,3,4,5,6,7,8] (by kernel_rfl) (by decide) (by decide) (fF ?_ (fF ?_ (fF ?_ (fF ?_ (fF ?_ (fF ?_ (fF ?_ (fF ?_ (fF ?_ (trivial)))))))))) [(0,.slice ab p0.length ac),(1,.slice ae p1.length af),(12,iv (p0.length:Int)),(13,iv a7),(24,.bool (!((a2.Kind == a6.Kind) && ((a2.Purl == a6.Purl) && ((a2.A == a6.A) && ((a2.B == a6.B) && true))))))] (fin_of [none,none,none,none,some 8] d (by kernel_rfl) (by kernel_rfl)) (fun _ a w S=>?_)
 ·exact fM 0 none d d d d (.inl d) d d d
 ·exact fM 1 none d d d d (.inl d) d d d
 ·refine fJ [(16,_),(17,_)] 2 [some 0,some 1] fun G a w S=>?_
  exact sIdxV S (wN d) d d d av d (lb d) fun a S=>leafL ⟨d,S⟩
 ·refine fJ [(18,_)] 3 [some 2] fun G a w S=>?_
  exact sLoadVN (vq:=au) 3 [.int .u8 a2.Kind,.bool a2.Purl,iv a2.A,iv a2.B] S (wN d) d d d d d d (lb d) fun a S=>leafL ⟨d,S⟩
 ·exact fM 4 none d d d d (.inl d) d d d
 ·exact fM 5 none d d d d (.inl d) d d d
 ·refine fJ [(20,_),(21,_)] 6 [some 4,some 5] fun G a w S=>?_
  exact sIdxV S (wN d) d d d ax d (lb d) fun a S=>leafL ⟨d,S⟩
 ·refine fJ [(22,_)] 7 [some 6] fun G a w S=>?_
  exact sLoadVN (vq:=aw) 0 [.int .u8 a6.Kind,.bool a6.Purl,iv a6.A,iv a6.B] S (wN d) d d d d d d (lb d) fun a S=>leafL ⟨d,S⟩
 ·refine fJ [(19,_),(23,_)] 8 [some 3,some 7] fun G a w S=>?_
  exact sBin _ S (wN d) d d d (bNeV _ _ _ _ #[.int .u8 a2.Kind,.bool a2.Purl,iv a2.A,iv a2.B] #[.int .u8 a6.Kind,.bool a6.Purl,iv a6.A,iv a6.B] ((a2.Kind == a6.Kind) && ((a2.Purl == a6.Purl) && ((a2.A == a6.A) && ((a2.B == a6.B) && true)))) (by kernel_rfl) (eqlV_of (by kernel_rfl))) d (lb d) fun a S=>leafL ⟨d,S⟩
 refine leafT (ap _ _ ?_)
 rcases iS h with ⟨aa,h⟩ | ⟨aa,h⟩
 rotate_left
 ·refine sCondF S d aa (wp_skip (leafB (leafT (am _ _ ?_))))
  refine sRegion (sBin _ S (wN d) d d d (bAdd _ _ _ _ a7 1) d (lb d) fun a S=>sM S fun a S=>?_)
  exact lT (⟨w64 (a7 + 1),(Option.some.inj h).symm,(S.fix [] [6,7] (by decide) d d d)⟩)
 refine sCondT S d aa (sSeq (fun aV ay=>sRegion (sN S fun a S=>?_)))
 refine lT (ay _ _ ?_)
 obtain rfl:=tS h
 obtain rfl:=ag _ d
 have h:=aA
 try dsimp only at h
 obtain rfl:=tS h
 have h:=az
 try dsimp only at h
 obtain rfl:=tS h
 exact wp_ret (rBlock (rThen (rThen (rBlock (rThen (sRet (.bool false) S (rsl1 d (rvT (t:=4) (v:=.bool false) S d)) ⟨(),d,S.mem.sel [] [] (by decide) d d⟩))))))
noncomputable def F_stitch_Same (p0:(List api_Stitch)) (p1:(List api_Stitch)):Option Bool:=
 (F_slices_Equal___api_Stitch_api_Stitch_ p0 p1).bind fun r7=>
 some r7
theorem c_stitch_Same (E:Nat→Prop) (w0:World) (p0:(List api_Stitch)) (v0:Value) (p1:(List api_Stitch)) (v1:Value) (r:Bool) (h:F_stitch_Same p0 p1=some r) (S:St0 E [] w0 w0 [] [fRep (rL r_api_Stitch) (v0) p0,fRep (rL r_api_Stitch) (v1) p1]) :
 Calls Tryd.prog 42 #[v0,v1] w0 (Ret (X:=Unit) E [] w0 (fun _=>.bool r) (fun _=>[]) (fun _=>[])):=by
 unfold F_stitch_Same at h
 obtain ⟨a2,a6,_,rfl,_⟩:=S.know (i:=0) (e:=fRep (rL r_api_Stitch) (v0) p0) d
 obtain ⟨a7,a8,_,rfl,_⟩:=S.know (i:=1) (e:=fRep (rL r_api_Stitch) (v1) p1) d
 refine sEnter (args:=[.slice a2 p0.length a6,.slice a7 p1.length a8]) 8 Tryd.func42 d d (by simp) S (fun a S=>?_)
 refine sSeq (fun K5 aa=>sRegion (sN S fun a S=>?_))
 refine lT (aa _ _ (sSeq (fun K6 ab=>sRegion (sM S fun a S=>?_))))
 refine sM S fun a S=>?_
 obtain ⟨r7,ac,h⟩:=bS h
 have S1:=S.mem
 refine sCq [.slice a2 p0.length a6,.slice a7 p1.length a8] (.bool r7) S callee56 (S1.quiet [0,1] d) (fun E1 w1 S1=>c_slices_Equal___api_Stitch_api_Stitch_ E1 w1 p0 (.slice a2 p0.length a6) p1 (.slice a7 p1.length a8) r7 ac S1) fun a w S=>?_
 refine sN S fun a S=>?_
 refine lT (ab _ _ ?_)
 obtain rfl:=tS h
 exact wp_ret (sRet (.bool r7) S (rsl1 d (rvT (t:=4) (v:=.bool r7) S d)) ⟨(),d,S.mem.sel [] [] (by decide) d d⟩)
def anc_piece_Read_0:List (List Nat):=[[],[0],[0,1],[0,1,2],[],[],[5],[5,6],[4,5,6,7],[4,5,6,7,8],[0,1,2,3,4,5,6,7,8,9],[0,1,2,3,4,5,6,7,8,9,10],[0,1,2,3,4,5,6,7,8,9,10,11]]
def anc_piece_Read_1:List (List Nat):=[[],[0],[],[2],[],[2,3,4],[2,3,4,5],[],[2,3,4,5,6,7],[2,3,4,5,6,7,8],[0,1,2,3,4,5,6,7,8,9],[0,1,2,3,4,5,6,7,8,9,10],[0,1,2,3,4,5,6,7,8,9,10,11]]
def anc_piece_Read_2:List (List Nat):=[[],[0],[],[2],[],[2,3,4],[2,3,4,5],[2,3,4,5,6],[0,1,2,3,4,5,6,7],[0,1,2,3,4,5,6,7,8],[0,1,2,3,4,5,6,7,8,9],[0,1,2,3,4,5,6,7,8,9,10],[0,1,2,3,4,5,6,7,8,9],[0,1,2,3,4,5,6,7,8,9,12],[0,1,2,3,4,5,6,7,8,9],[0,1,2,3,4,5,6,7,8,9,12,13,14],[0,1,2,3,4,5,6,7,8,9,12,13,14,15],[0,1,2,3,4,5,6,7,8,9,12,13,14,15,16],[0,1,2,3,4,5,6,7,8,9,10,11,12,13,14,15,16,17],[0,1,2,3,4,5,6,7,8,9,10,11,12,13,14,15,16,17,18],[0,1,2,3,4,5,6,7,8,9,10,11,12,13,14,15,16,17,18,19]]
noncomputable def piece_Read_l1 (p0:api_Chart):(Int × List Int × List Int)→Option ((Int × List Int × List Int) ⊕ ((api_Piece × Int) ⊕ (List Int × List Int))):=fun s0=>match s0 with
 | (a6,a7,a8)=>
  if decide (a6 < (p0.Rows.length:Int)) then
   (idxO p0.Rows a6).bind fun a2=>
   Option.bind (α:=Bool) (
    if (a2.Cells.length:Int) == 0 then
     some true
    else
     (F_stitch_All a2.Cells).bind fun ah=>
     some (ah != 0)) fun ai=>
   if ai then
    some (.inr (.inl ((api_Piece.mk ([]:(List Int)) ([]:(List Int))),8)))
   else
    (idxO a2.Cells 0).bind fun aj=>
    (F_piece_grows aj).bind fun af=>
    (idxO a2.Cells (w64 ((a2.Cells.length:Int) - 1))).bind fun ak=>
    (F_piece_grows ak).bind fun ag=>
    Option.bind (α:=(Int × Int)) (
     if a2.Back then
      some (ag,af)
     else
      some (af,ag)) fun (al,am)=>
    (idxO a7 a6).bind fun aa=>
    (appO a7 ([w64 (aa - am)]:List Int)).bind fun ab=>
    (idxO a8 a6).bind fun ac=>
    (appO a8 ([w64 (ac + al)]:List Int)).bind fun ae=>
    some (.inl (w64 (a6 + 1),ab,ae))
  else
   some (.inr (.inr (a7,a8)))
noncomputable def piece_Read_l2 (p0:api_Chart) (a8:(api_Chart × Int)):Int→Option (Int ⊕ ((api_Piece × Int) ⊕ Unit)):=fun s0=>match s0 with
 | a2=>
  if decide (a2 < (p0.Rows.length:Int)) then
   (idxO p0.Rows a2).bind fun a6=>
   Option.bind (α:=Bool) (
    (idxO a8.1.Rows a2).bind fun a7=>
    if a6.Back != a7.Back then
     some true
    else
     (F_stitch_Same a6.Cells a7.Cells).bind fun aa=>
     some (!aa)) fun ab=>
   if ab then
    some (.inr (.inl ((api_Piece.mk ([]:(List Int)) ([]:(List Int))),8)))
   else
    some (.inl (w64 (a2 + 1)))
  else
   some (.inr (.inr ()))
noncomputable def F_piece_Read (p0:api_Chart) (p1:Int):Option (api_Piece × Int):=
 Option.bind (α:=Bool) (
  (F_piece_column p1).bind fun a8=>
  if !a8 then
   some true
  else
   if decide (p0.Start < 1) then
    some true
   else
    if decide (200 < p0.Start) then
     some true
    else
     some (decide (100 ≤ (p0.Rows.length:Int)))) fun o9=>
 if o9 then
  some ((api_Piece.mk ([]:(List Int)) ([]:(List Int))),8)
 else
  Option.bind (α:=(List Int × List Int) ⊕ (api_Piece × Int)) (
   (whileO (piece_Read_l1 p0) (0,([p1]:List Int),([w64 (p1 + p0.Start)]:List Int))).bind fun z0=>match z0 with
    | .inl z=>
     some (.inr z)
    | .inr (aa,ab)=>
     some (.inl (aa,ab))) fun z0=>match z0 with
   | .inl (a6,a7)=>
    (F_piece_Chart (api_Piece.mk a6 a7)).bind fun a2=>
    if a2.2 != 0 then
     some ((api_Piece.mk ([]:(List Int)) ([]:(List Int))),8)
    else
     Option.bind (α:=Unit ⊕ (api_Piece × Int)) (
      (whileO (piece_Read_l2 p0 a2) 0).bind fun z0=>match z0 with
       | .inl z=>
        some (.inr z)
       | .inr _=>
        some (.inl ())) fun z0=>match z0 with
      | .inl _=>
       some ((api_Piece.mk a6 a7),0)
      | .inr z=>
       some z
   | .inr z=>
    some z
def c_piece_Read_val (r:(api_Piece × Int)) (x:Value):Value:=.tuple #[x,.int .i64 r.2]
def c_piece_Read_D (r:(api_Piece × Int)) (x:Value):List Fact:=[fRep r_api_Piece x r.1]
theorem c_piece_Read (E:Nat→Prop) (w0:World) (p0:api_Chart) (v0:Value) (p1:Int) (r:(api_Piece × Int)) (h:F_piece_Read p0 p1=some r) (S:St0 E [] w0 w0 [] [fRep r_api_Chart (v0) p0]) :
 Calls Tryd.prog 18 #[v0,iv p1] w0 (Ret (X:=Value) E [] w0 (c_piece_Read_val r) (fun _=>[]) (c_piece_Read_D r)):=by
 unfold F_piece_Read at h
 obtain ⟨u1,rfl,cY⟩:=S.know (i:=0) (e:=fRep r_api_Chart (v0) p0) d
 have S:=S.learn (fRep (rL r_api_Row) u1 p0.Rows) cY
 obtain ⟨ar,au,_,rfl,_⟩:=cY
 refine sEnter (args:=[.agg #[iv p0.Start,.slice ar p0.Rows.length au],iv p1]) 143 Tryd.func18 d d (by simp) S (fun a S=>?_)
 refine sSeq (fun K5 d5=>sRegion (sBox (v:=.agg #[iv p0.Start,.slice ar p0.Rows.length au]) S (wN d) d d [iv p0.Start,.slice ar p0.Rows.length au] d d (lb d) fun a b6 w S=>sAlloc (.agg #[.slice none 0 0,.slice none 0 0]) S (wN d) d d [.slice none 0 0,.slice none 0 0] d d (lb d) fun a b7 w S=>sN S fun a S=>?_))
 refine lT (d5 _ _ (sSeq (fun K8 d6=>?_)))
 obtain ⟨d7,h,d8⟩:=bS h
 refine sCut (fun a w=>∃ o9,o9=d7∧St [] E [] w0 143 a w [(1,iv p1),(2,.pointer (some ⟨b6,0,none⟩)),(4,.pointer (some ⟨b7,0,none⟩)),(34,.bool o9)] [eBox b6 40 [iv p0.Start,.slice ar p0.Rows.length au],eBox b7 30 [.slice none 0 0,.slice none 0 0]] [fRep (rL r_api_Row) (.slice ar p0.Rows.length au) p0.Rows]) ?_ (fun a w hI=>?_)
 ·refine sRegion (sM S fun a S=>?_)
  obtain ⟨cq,cr,h⟩:=bS h
  have S1:=S.mem
  refine sCq [iv p1] (.bool cq) S callee37 (S1.quiet [] d) (fun E1 w1 S1=>c_piece_column E1 w1 p1 cq cr S1) fun a w S=>?_
  refine sNot (b:=cq) S (wN d) d d d (lb d) fun a S=>sM S fun a S=>?_
  rcases iS h with ⟨aW,h⟩ | ⟨aW,h⟩
  ·refine sSkN 3 3 false 19 S d d aW d fun a S=>sPickT (.bool true) S (wN d) d d aW d d (lb d) fun a S=>sM S fun a S=>?_
   refine sSkN 3 8 false 24 S d d d d fun a S=>sPickT (.bool true) S (wN d) d d d d d (lb d) fun a S=>sM S fun a S=>?_
   refine sSkN 4 13 false 29 S d d d d fun a S=>sPickT (.bool true) S (wN d) d d d d d (lb d) fun a S=>?_
   exact lT (⟨true,Option.some.inj h,S.fix [1,0] [0] (by decide) d d d⟩)
  refine sField (b:=b6) (off:=0) 0 0 S (wG 3 false 19 d d d aW) d d d d d (lb d) fun a S=>sLoad1 1 (iv p0.Start) S (wG 3 false 19 d d d aW) d d d d d d (lb d) fun a S=>sBin _ S (wG 3 false 19 d d d aW) d d d (bLt _ _ _ _ .i64 p0.Start 1) d (lb d) fun a S=>sPickF (.bool (decide (p0.Start < 1))) S (wN d) d d aW d d (lb d) fun a S=>sM S fun a S=>?_
  rcases iS h with ⟨aX,h⟩ | ⟨aX,h⟩
  ·refine sSkN 3 8 false 24 S d d aX d fun a S=>sPickT (.bool true) S (wN d) d d aX d d (lb d) fun a S=>sM S fun a S=>?_
   refine sSkN 4 13 false 29 S d d d d fun a S=>sPickT (.bool true) S (wN d) d d d d d (lb d) fun a S=>?_
   exact lT (⟨true,Option.some.inj h,S.fix [1,0] [0] (by decide) d d d⟩)
  refine sField (b:=b6) (off:=0) 0 0 S (wG 8 false 24 d d d aX) d d d d d (lb d) fun a S=>sLoad1 1 (iv p0.Start) S (wG 8 false 24 d d d aX) d d d d d d (lb d) fun a S=>sBin _ S (wG 8 false 24 d d d aX) d d d (bGt _ _ _ _ .i64 p0.Start 200) d (lb d) fun a S=>sPickF (.bool (decide (200 < p0.Start))) S (wN d) d d aX d d (lb d) fun a S=>sM S fun a S=>?_
  rcases iS h with ⟨aP,h⟩ | ⟨aP,h⟩
  ·refine sSkN 4 13 false 29 S d d aP d fun a S=>sPickT (.bool true) S (wN d) d d aP d d (lb d) fun a S=>?_
   exact lT (⟨true,Option.some.inj h,S.fix [1,0] [0] (by decide) d d d⟩)
  refine sField (b:=b6) (off:=0) 1 1 S (wG 13 false 29 d d d aP) d d d d d (lb d) fun a S=>sLoad1 1 (.slice ar p0.Rows.length au) S (wG 13 false 29 d d d aP) d d d d d d (lb d) fun a S=>sLen S (wG 13 false 29 d d d aP) d Tryd.underlying38 d d (lb d) fun a S=>sBin _ S (wG 13 false 29 d d d aP) d d d (bGe _ _ _ _ .i64 (p0.Rows.length:Int) 100) d (lb d) fun a S=>sPickF (.bool (decide (100 ≤ (p0.Rows.length:Int)))) S (wN d) d d aP d d (lb d) fun a S=>?_
  exact lT (⟨decide (100 ≤ (p0.Rows.length:Int)),Option.some.inj h,S.fix [1,0] [0] (by decide) d d d⟩)
 obtain ⟨o9,rfl,S⟩:=hI
 have h:=d8
 try dsimp only at h
 rcases iS h with ⟨bz,h⟩ | ⟨bz,h⟩
 ·refine sCondT S d bz (sSeq (fun dy ct=>sRegion (sBuild [] [.slice none 0 0,.slice none 0 0] S (wN d) d d d d (lb d) fun a S=>sStore (p:=b7) (off:=0) (T:=30) (vs:=[.slice none 0 0,.slice none 0 0]) (v:=.agg #[.slice none 0 0,.slice none 0 0]) 1 [.slice none 0 0,.slice none 0 0] S (wN d) d d d d d d d (by simp) d fun a w S=>sN S fun a S=>?_)))
  refine lT (ct _ _ ?_)
  obtain rfl:=tS h
  have S:=S.learn (fRep (rL (rI .i64)) (.slice none 0 0) ([]:(List Int))) (rL_nil _ _ _)
  have S:=S.learn (fRep r_api_Piece (.agg #[.slice none 0 0,.slice none 0 0]) (api_Piece.mk ([]:(List Int)) ([]:(List Int)))) ⟨_,_,d,S.mem.know (i:=0) (e:=fRep (rL (rI .i64)) (.slice none 0 0) ([]:(List Int))) d,S.mem.know (i:=0) (e:=fRep (rL (rI .i64)) (.slice none 0 0) ([]:(List Int))) d⟩
  exact wp_ret (rThen (sRet (.tuple #[.agg #[.slice none 0 0,.slice none 0 0],iv 8]) S (rsl2 d (rvN (c:=4) (t:=30) (T:=30) (p:=b7) 0 [.slice none 0 0,.slice none 0 0] S d d d d) (rvT (t:=5) (v:=iv 8) S d)) ⟨(.agg #[.slice none 0 0,.slice none 0 0]),d,S.mem.sel [] [0] (by decide) d d⟩))
 refine sCondF S d bz (wp_skip (leafT (d6 _ _ ?_)))
 refine sSeq (fun dz cu=>sRegion (sM S fun a S=>?_))
 refine sLit (r:=(rI .i64)) (T:=3) (xs:=([p1]:List Int)) [(0,iv p1)] 1 [iv p1] [iv p1] (iv 0) 8 S (wN d) d d Tryd.underlying28 d (by decide) (by decide) (by kernel_rfl) d (fun E1 w1 hE=>All.cons d (All.nil _ _ _)) d d (lb d) fun a w b8 ba S=>?_
 refine sM S fun a S=>?_
 refine sField (b:=b6) (off:=0) 0 0 S (wN d) d d d d d (lb d) fun a S=>sLoad1 1 (iv p0.Start) S (wN d) d d d d d d (lb d) fun a S=>sBin _ S (wN d) d d d (bAdd _ _ _ _ p1 p0.Start) d (lb d) fun a S=>sLit (r:=(rI .i64)) (T:=3) (xs:=([w64 (p1 + p0.Start)]:List Int)) [(0,iv (w64 (p1 + p0.Start)))] 1 [iv (w64 (p1 + p0.Start))] [iv (w64 (p1 + p0.Start))] (iv 0) 8 S (wN d) d d Tryd.underlying28 d (by decide) (by decide) (by kernel_rfl) d (fun E1 w1 hE=>All.cons d (All.nil _ _ _)) d d (lb d) fun a w bb bc S=>?_
 refine sBuild [(0,.slice b8 ([p1]:List Int).length ba),(1,.slice bb ([w64 (p1 + p0.Start)]:List Int).length bc)] [.slice b8 ([p1]:List Int).length ba,.slice bb ([w64 (p1 + p0.Start)]:List Int).length bc] S (wN d) d d d d (lb d) fun a S=>sAlloc (.agg #[.slice none 0 0,.slice none 0 0]) S (wN d) d d [.slice none 0 0,.slice none 0 0] d d (lb d) fun a ah w S=>sStore (p:=ah) (off:=0) (T:=30) (vs:=[.slice none 0 0,.slice none 0 0]) (v:=.agg #[.slice b8 ([p1]:List Int).length ba,.slice bb ([w64 (p1 + p0.Start)]:List Int).length bc]) 0 [.slice b8 ([p1]:List Int).length ba,.slice bb ([w64 (p1 + p0.Start)]:List Int).length bc] S (wN d) d d d d d d d (by simp) d fun a w S=>lT (cu _ _ ?_)
 obtain ⟨d9,h,cZ⟩:=bS h
 refine sCut (fun a w=>∃ ai,∃ aj,.inl (ai,aj)=d9∧∃ aa,∃ ab,∃ ac,∃ ae,St [] E [] w0 143 a w [(2,.pointer (some ⟨b6,0,none⟩)),(4,.pointer (some ⟨b7,0,none⟩)),(6,.pointer (some ⟨ah,0,none⟩))] [eBox b6 40 [iv p0.Start,.slice ar p0.Rows.length au],eBox b7 30 [.slice none 0 0,.slice none 0 0],eBox ah 30 [.slice aa ai.length ab,.slice ac aj.length ae],eRow (rI .i64) 3 (.slice aa ai.length ab) ai,eRow (rI .i64) 3 (.slice ac aj.length ae) aj] [fRep (rL r_api_Row) (.slice ar p0.Rows.length au) p0.Rows]) ?_ (fun a w hI=>?_)
 rotate_left
 ·obtain ⟨ai,aj,rfl,aa,ab,ac,ae,S⟩:=hI
  have h:=cZ
  try dsimp only at h
  refine sSeq (fun da bK=>sRegion (sLoadN (p:=ah) (off:=0) (T:=30) (vs:=[.slice aa ai.length ab,.slice ac aj.length ae]) 2 [.slice aa ai.length ab,.slice ac aj.length ae] S (wN d) d d d d d d d (lb d) fun a S=>?_))
  obtain ⟨a2,bL,h⟩:=bS h
  have S:=S.shutR (r:=(rI .i64)) (T:=3) (v:=.slice aa ai.length ab) (xs:=ai) 3 d
  have S:=S.shutR (r:=(rI .i64)) (T:=3) (v:=.slice ac aj.length ae) (xs:=aj) 3 d
  have S:=S.learn (fRep r_api_Piece (.agg #[.slice aa ai.length ab,.slice ac aj.length ae]) (api_Piece.mk ai aj)) ⟨_,_,d,S.mem.know (i:=1) (e:=fRep (rL (rI .i64)) (.slice aa ai.length ab) ai) d,S.mem.know (i:=0) (e:=fRep (rL (rI .i64)) (.slice ac aj.length ae) aj) d⟩
  refine sCall (X:=Value) (f:=17) (vs:=[.agg #[.slice aa ai.length ab,.slice ac aj.length ae]]) (val:=c_piece_Chart_val a2) (B':=fun _=>[]) (D':=c_piece_Chart_D a2) [] [eBox b6 40 [iv p0.Start,.slice ar p0.Rows.length au],eBox b7 30 [.slice none 0 0,.slice none 0 0],eBox ah 30 [.slice aa ai.length ab,.slice ac aj.length ae]] [fRep r_api_Piece (.agg #[.slice aa ai.length ab,.slice ac aj.length ae]) (api_Piece.mk ai aj)] [0,1,2] [0] S (wN d) d callee17 d (by decide) d d (fun E1 w1 S1=>c_piece_Chart E1 w1 (api_Piece.mk ai aj) (.agg #[.slice aa ai.length ab,.slice ac aj.length ae]) a2 bL S1) d (lb d) fun cv a w S=>?_
  obtain ⟨cw,rfl,bt⟩:=S.mem.know (i:=0) (e:=fRep r_api_Chart (cv) a2.1) d
  have S:=S.learn (fRep (rL r_api_Row) cw a2.1.Rows) bt
  obtain ⟨a7,a8,_,rfl,_⟩:=bt
  refine sM S fun a S=>?_
  refine sExtract (vs:=[.agg #[iv a2.1.Start,.slice a7 a2.1.Rows.length a8],iv a2.2]) (.agg #[iv a2.1.Start,.slice a7 a2.1.Rows.length a8]) S (wN d) d d d d (lb d) fun a S=>sExtract (vs:=[.agg #[iv a2.1.Start,.slice a7 a2.1.Rows.length a8],iv a2.2]) (iv a2.2) S (wN d) d d d d (lb d) fun a S=>sAlloc (.agg #[iv 0,.slice none 0 0]) S (wN d) d d [iv 0,.slice none 0 0] d d (lb d) fun a ax w S=>sStore (p:=ax) (off:=0) (T:=40) (vs:=[iv 0,.slice none 0 0]) (v:=.agg #[iv a2.1.Start,.slice a7 a2.1.Rows.length a8]) 0 [iv a2.1.Start,.slice a7 a2.1.Rows.length a8] S (wN d) d d d d d d d (by simp) d fun a w S=>sN S fun a S=>?_
  refine lT (bK _ _ (sSeq (fun db bM=>sSeq (fun dc bN=>sRegion (sM S fun a S=>?_)))))
  refine sBin _ S (wN d) d d d (bNe _ _ _ _ .i64 a2.2 0) d (lb d) fun a S=>lT (bN _ _ ?_)
  rcases iS h with ⟨bf,h⟩ | ⟨bf,h⟩
  ·refine sCondT S d bf (sSeq (fun de bO=>sRegion (sBuild [] [.slice none 0 0,.slice none 0 0] S (wN d) d d d d (lb d) fun a S=>sStore (p:=b7) (off:=0) (T:=30) (vs:=[.slice none 0 0,.slice none 0 0]) (v:=.agg #[.slice none 0 0,.slice none 0 0]) 2 [.slice none 0 0,.slice none 0 0] S (wN d) d d d d d d d (by simp) d fun a w S=>sN S fun a S=>?_)))
   refine lT (bO _ _ ?_)
   obtain rfl:=tS h
   have S:=S.learn (fRep (rL (rI .i64)) (.slice none 0 0) ([]:(List Int))) (rL_nil _ _ _)
   have S:=S.learn (fRep r_api_Piece (.agg #[.slice none 0 0,.slice none 0 0]) (api_Piece.mk ([]:(List Int)) ([]:(List Int)))) ⟨_,_,d,S.mem.know (i:=0) (e:=fRep (rL (rI .i64)) (.slice none 0 0) ([]:(List Int))) d,S.mem.know (i:=0) (e:=fRep (rL (rI .i64)) (.slice none 0 0) ([]:(List Int))) d⟩
   exact wp_ret (rThen (sRet (.tuple #[.agg #[.slice none 0 0,.slice none 0 0],iv 8]) S (rsl2 d (rvN (c:=4) (t:=30) (T:=30) (p:=b7) 0 [.slice none 0 0,.slice none 0 0] S d d d d) (rvT (t:=5) (v:=iv 8) S d)) ⟨(.agg #[.slice none 0 0,.slice none 0 0]),d,S.mem.sel [] [0] (by decide) d d⟩))
  refine sCondF S d bf (wp_skip (leafT (bM _ _ ?_)))
  obtain ⟨cx,h,bP⟩:=bS h
  refine sCut (fun a w=>.inl ()=cx∧St [] E [] w0 143 a w [(4,.pointer (some ⟨b7,0,none⟩)),(6,.pointer (some ⟨ah,0,none⟩))] [eBox b7 30 [.slice none 0 0,.slice none 0 0],eBox ah 30 [.slice aa ai.length ab,.slice ac aj.length ae]] [fRep (rL (rI .i64)) (.slice aa ai.length ab) ai,fRep (rL (rI .i64)) (.slice ac aj.length ae) aj]) ?_ (fun a w hI=>?_)
  rotate_left
  ·obtain ⟨rfl,S⟩:=hI
   have h:=bP
   try dsimp only at h
   refine sSeq (fun df bQ=>sRegion (sLoadN (p:=ah) (off:=0) (T:=30) (vs:=[.slice aa ai.length ab,.slice ac aj.length ae]) 1 [.slice aa ai.length ab,.slice ac aj.length ae] S (wN d) d d d d d d d (lb d) fun a S=>sStore (p:=b7) (off:=0) (T:=30) (vs:=[.slice none 0 0,.slice none 0 0]) (v:=.agg #[.slice aa ai.length ab,.slice ac aj.length ae]) 0 [.slice aa ai.length ab,.slice ac aj.length ae] S (wN d) d d d d d d d (by simp) d fun a w S=>sN S fun a S=>?_))
   refine lT (bQ _ _ ?_)
   obtain rfl:=tS h
   have S:=S.learn (fRep r_api_Piece (.agg #[.slice aa ai.length ab,.slice ac aj.length ae]) (api_Piece.mk ai aj)) ⟨_,_,d,S.mem.know (i:=0) (e:=fRep (rL (rI .i64)) (.slice aa ai.length ab) ai) d,S.mem.know (i:=1) (e:=fRep (rL (rI .i64)) (.slice ac aj.length ae) aj) d⟩
   exact wp_ret (sRet (.tuple #[.agg #[.slice aa ai.length ab,.slice ac aj.length ae],iv 0]) S (rsl2 d (rvN (c:=4) (t:=30) (T:=30) (p:=b7) 0 [.slice aa ai.length ab,.slice ac aj.length ae] S d d d d) (rvT (t:=5) (v:=iv 0) S d)) ⟨(.agg #[.slice aa ai.length ab,.slice ac aj.length ae]),d,S.mem.sel [] [0] (by decide) d d⟩)
  refine sSeq (fun dg bR=>sRegion (sField (b:=b6) (off:=0) 1 1 S (wN d) d d d d d (lb d) fun a S=>sLoad1 1 (.slice ar p0.Rows.length au) S (wN d) d d d d d d (lb d) fun a S=>sLen S (wN d) d Tryd.underlying38 d d (lb d) fun a S=>sM S fun a S=>?_))
  refine lT (bR _ _ (wp_block ?_))
  obtain ⟨dh,hl,bT⟩:=bS h
  refine sLoop hl (fun s0 a w=>match s0 with | ap=>St [] E [] w0 143 a w [(4,.pointer (some ⟨b7,0,none⟩)),(6,.pointer (some ⟨ah,0,none⟩)),(12,.pointer (some ⟨ax,0,none⟩)),(112,.slice ar p0.Rows.length au),(113,iv (p0.Rows.length:Int)),(114,iv ap)] [eBox b7 30 [.slice none 0 0,.slice none 0 0],eBox ah 30 [.slice aa ai.length ab,.slice ac aj.length ae],eBox ax 40 [iv a2.1.Start,.slice a7 a2.1.Rows.length a8]] [fRep (rL r_api_Row) (.slice ar p0.Rows.length au) p0.Rows,fRep (rL (rI .i64)) (.slice aa ai.length ab) ai,fRep (rL (rI .i64)) (.slice ac aj.length ae) aj,fRep (rL r_api_Row) (.slice a7 a2.1.Rows.length a8) a2.1.Rows]) (S.fix [2,3,0] [5,4,3,0] (by decide) d d d) ?_
  clear hl h
  intro ap a w c0 hI h bu
  unfold piece_Read_l2 at h
  dsimp only at h hI
  have S:=hI
  refine sSeq (fun di bU=>sRegion (sBin _ S (wN d) d d d (bLt _ _ _ _ .i64 ap (p0.Rows.length:Int)) d (lb d) fun a S=>lT (bU _ _ (sSeq (fun dj bV=>?_)))))
  rcases iS h with ⟨bg,h⟩ | ⟨bg,h⟩
  rotate_left
  ·refine sCondF S d bg ?_
   obtain rfl:=tS h
   obtain rfl:=bu _ d
   have h:=bT
   try dsimp only at h
   exact wp_exit (xThen (xThen (xHit (leafT (⟨Option.some.inj h,S.fix [0,1] [1,2] (by decide) d d d⟩)))))
  refine sCondT S d bg (wp_skip (leafT (bV _ _ ?_)))
  refine sSeq (fun dk bW=>wp_block ?_)
  refine sSeq (fun dl bX=>sRegion (sM S fun a S=>?_))
  obtain ⟨ag,bY,h⟩:=bS h
  obtain ⟨bZ,c1,S⟩:=pIdx (P:=Tryd.prog) (r:=r_api_Row) (v:=.slice ar p0.Rows.length au) (xs:=p0.Rows) (j:=ap) 38 54 0 S Tryd.underlying38 d d bY
  refine sIdxV S (wN d) d d d c1 d (lb d) fun a S=>?_
  obtain ⟨cy,S⟩:=pLoad (r:=r_api_Row) (q:=bZ) (x:=ag) 0 S d
  obtain ⟨cz,rfl,bv⟩:=S.mem.know (i:=1) (e:=fRep r_api_Row (cy) ag) d
  have S:=S.learn (fRep (rL r_api_Stitch) cz ag.Cells) bv
  obtain ⟨aA,aC,_,rfl,_⟩:=bv
  refine sLoadVN (vq:=bZ) 1 [.bool ag.Back,.slice aA ag.Cells.length aC] S (wN d) d d d d d d (lb d) fun a S=>sAlloc (.agg #[.bool false,.slice none 0 0]) S (wN d) d d [.bool false,.slice none 0 0] d d (lb d) fun a aQ w S=>sN S fun a S=>?_
  refine sStore (p:=aQ) (off:=0) (T:=54) (vs:=[.bool false,.slice none 0 0]) (v:=.agg #[.bool ag.Back,.slice aA ag.Cells.length aC]) 0 [.bool ag.Back,.slice aA ag.Cells.length aC] S (wN d) d d d d d d d (by simp) d fun a w S=>lT (bX _ _ ?_)
  obtain ⟨cA,h,cB⟩:=bS h
  refine sCut (fun a w=>∃ bA,bA=cA∧St [] E [] w0 143 a w [(4,.pointer (some ⟨b7,0,none⟩)),(6,.pointer (some ⟨ah,0,none⟩)),(12,.pointer (some ⟨ax,0,none⟩)),(112,.slice ar p0.Rows.length au),(113,iv (p0.Rows.length:Int)),(114,iv ap),(139,.bool bA)] [eBox b7 30 [.slice none 0 0,.slice none 0 0],eBox ah 30 [.slice aa ai.length ab,.slice ac aj.length ae],eBox ax 40 [iv a2.1.Start,.slice a7 a2.1.Rows.length a8]] [fRep (rL r_api_Row) (.slice ar p0.Rows.length au) p0.Rows,fRep (rL (rI .i64)) (.slice aa ai.length ab) ai,fRep (rL (rI .i64)) (.slice ac aj.length ae) aj,fRep (rL r_api_Row) (.slice a7 a2.1.Rows.length a8) a2.1.Rows]) ?_ (fun a w hI=>?_)
  rotate_left
  ·obtain ⟨bA,rfl,S⟩:=hI
   have h:=cB
   try dsimp only at h
   rcases iS h with ⟨bh,h⟩ | ⟨bh,h⟩
   rotate_left
   ·refine sCondF S d bh (wp_skip (leafB (leafT (bW _ _ ?_))))
    refine sRegion (sBin _ S (wN d) d d d (bAdd _ _ _ _ ap 1) d (lb d) fun a S=>sM S fun a S=>?_)
    exact lT (⟨w64 (ap + 1),(Option.some.inj h).symm,(S.fix [0,1,2] [0,1,2,3] (by decide) d d d)⟩)
   refine sCondT S d bh (sSeq (fun dm c2=>sRegion (sBuild [] [.slice none 0 0,.slice none 0 0] S (wN d) d d d d (lb d) fun a S=>sStore (p:=b7) (off:=0) (T:=30) (vs:=[.slice none 0 0,.slice none 0 0]) (v:=.agg #[.slice none 0 0,.slice none 0 0]) 0 [.slice none 0 0,.slice none 0 0] S (wN d) d d d d d d d (by simp) d fun a w S=>sN S fun a S=>?_)))
   refine lT (c2 _ _ ?_)
   obtain rfl:=tS h
   obtain rfl:=bu _ d
   have h:=bT
   try dsimp only at h
   obtain rfl:=tS h
   have h:=bP
   try dsimp only at h
   obtain rfl:=tS h
   have S:=S.learn (fRep (rL (rI .i64)) (.slice none 0 0) ([]:(List Int))) (rL_nil _ _ _)
   have S:=S.learn (fRep r_api_Piece (.agg #[.slice none 0 0,.slice none 0 0]) (api_Piece.mk ([]:(List Int)) ([]:(List Int)))) ⟨_,_,d,S.mem.know (i:=0) (e:=fRep (rL (rI .i64)) (.slice none 0 0) ([]:(List Int))) d,S.mem.know (i:=0) (e:=fRep (rL (rI .i64)) (.slice none 0 0) ([]:(List Int))) d⟩
   exact wp_ret (rBlock (rThen (rThen (rBlock (rThen (sRet (.tuple #[.agg #[.slice none 0 0,.slice none 0 0],iv 8]) S (rsl2 d (rvN (c:=4) (t:=30) (T:=30) (p:=b7) 0 [.slice none 0 0,.slice none 0 0] S d d d d) (rvT (t:=5) (v:=iv 8) S d)) ⟨(.agg #[.slice none 0 0,.slice none 0 0]),d,S.mem.sel [] [0] (by decide) d d⟩))))))
  obtain ⟨af,bi,h⟩:=bS h
  rcases iS h with ⟨a6,h⟩ | ⟨a6,h⟩
  ·obtain ⟨bB,c3,S⟩:=pIdx (P:=Tryd.prog) (r:=r_api_Row) (v:=.slice a7 a2.1.Rows.length a8) (xs:=a2.1.Rows) (j:=ap) 38 54 7 S Tryd.underlying38 d d bi
   obtain ⟨bC,c4,S⟩:=pFld (P:=Tryd.prog) (r:=r_api_Row) (s2:=rB) (g:=(·.Back)) (q:=bB) (z:=af) 54 0 0 0 S d d comp_api_Row_Back
   obtain ⟨c5,S⟩:=pLoad (r:=rB) (q:=bC) (x:=af.Back) 0 S d
   obtain rfl:c5=.bool af.Back:=S.mem.know (i:=1) (e:=fRep rB (c5) af.Back) d
   refine sDraw (nf:=[]) (W:=[(0,119,.pointer (some ⟨aQ,0,none⟩)),(1,120,.bool ag.Back),(2,121,.pointer (some ⟨ax,1,none⟩)),(3,122,.slice a7 a2.1.Rows.length a8),(4,123,iv ap),(5,124,bB),(6,125,bC),(7,126,.bool af.Back),(8,127,.bool (ag.Back != af.Back)),(9,128,.bool (ag.Back != af.Back)),(10,129,undef),(11,130,undef),(12,131,undef),(13,132,undef),(14,133,undef),(15,134,undef),(16,135,undef),(17,136,undef),(18,137,undef),(19,138,undef),(20,139,.bool true)]) d S ?_
   refine node_by (A:=anc_piece_Read_2) 21 (by kernel_rfl) (by kernel_rfl) (by kernel_rfl) (by kernel_rfl) (by kernel_rfl) [0,1,2,3,4,5,6,7,8,9,10,11,12,13,14,15,16,17,18,19,20] (by kernel_rfl) (by decide) (by decide) (fF ?_ (fF ?_ (fF ?_ (fF ?_ (fF ?_ (fF ?_ (fF ?_ (fF ?_ (fF ?_ (fF ?_ (fF ?_ (fF ?_ (fF ?_ (fF ?_ (fF ?_ (fF ?_ (fF ?_ (fF ?_ (fF ?_ (fF ?_ (fF ?_ (trivial)))))))))))))))))))))) [(4,.pointer (some ⟨b7,0,none⟩)),(6,.pointer (some ⟨ah,0,none⟩)),(12,.pointer (some ⟨ax,0,none⟩)),(112,.slice ar p0.Rows.length au),(113,iv (p0.Rows.length:Int)),(114,iv ap),(129,undef),(130,undef),(131,undef),(132,undef),(133,undef),(134,undef),(135,undef),(136,undef),(137,undef),(138,undef),(139,.bool true)] (fin_of [none,none,none,none,none,none,some 10,some 11,some 12,some 13,some 14,some 15,some 16,some 17,some 18,some 19,some 20] d (by kernel_rfl) (by kernel_rfl)) (fun _ a w S=>?_)
   ·refine fJ [(15,_)] 0 [none] fun G a w S=>?_
    exact sField (b:=aQ) (off:=0) 0 0 S (wN d) d d d d d (lb d) fun a S=>leafL ⟨d,S⟩
   ·refine fJ [(119,_)] 1 [some 0] fun G a w S=>?_
    exact sLoad1 0 (.bool ag.Back) S (wN d) d d d d d d (lb d) fun a S=>leafL ⟨d,S⟩
   ·refine fJ [(12,_)] 2 [none] fun G a w S=>?_
    exact sField (b:=ax) (off:=0) 1 1 S (wN d) d d d d d (lb d) fun a S=>leafL ⟨d,S⟩
   ·refine fJ [(121,_)] 3 [some 2] fun G a w S=>?_
    exact sLoad1 3 (.slice a7 a2.1.Rows.length a8) S (wN d) d d d d d d (lb d) fun a S=>leafL ⟨d,S⟩
   ·exact fM 4 none d d d d (.inl d) d d d
   ·refine fJ [(122,_),(123,_)] 5 [some 3,some 4] fun G a w S=>?_
    exact sIdxV S (wN d) d d d c3 d (lb d) fun a S=>leafL ⟨d,S⟩
   ·refine fJ [(124,_)] 6 [some 5] fun G a w S=>?_
    exact sFldV (q:=bB) S (wN d) d d c4 d (lb d) fun a S=>leafL ⟨d,S⟩
   ·refine fJ [(125,_)] 7 [some 6] fun G a w S=>?_
    exact sLoadV1 (vq:=bC) 0 (.bool af.Back) S (wN d) d d d d d (lb d) fun a S=>leafL ⟨d,S⟩
   ·refine fJ [(120,_),(126,_)] 8 [some 1,some 7] fun G a w S=>?_
    exact sBin _ S (wN d) d d d (bNeB _ _ _ _ Tryd.underlying4 ag.Back af.Back) d (lb d) fun a S=>leafL ⟨d,S⟩
   ·exact fM 9 (some 8) d d d d (.inl d) d d d
   ·refine fJ [(15,_),(128,_)] 10 [none,some 9] fun G a w S=>?_
    exact sSk S d d d a6 d d fun a S=>leafL ⟨d,S⟩
   ·refine fJ [(129,_),(128,_)] 11 [some 10,some 9] fun G a w S=>?_
    exact sSk S d d d a6 d d fun a S=>leafL ⟨d,S⟩
   ·refine fJ [(12,_),(128,_)] 12 [none,some 9] fun G a w S=>?_
    exact sSk S d d d a6 d d fun a S=>leafL ⟨d,S⟩
   ·refine fJ [(131,_),(128,_)] 13 [some 12,some 9] fun G a w S=>?_
    exact sSk S d d d a6 d d fun a S=>leafL ⟨d,S⟩
   ·refine fJ [(14,_),(128,_)] 14 [none,some 9] fun G a w S=>?_
    exact sSk S d d d a6 d d fun a S=>leafL ⟨d,S⟩
   ·refine fJ [(132,_),(133,_),(128,_)] 15 [some 13,some 14,some 9] fun G a w S=>?_
    exact sSk S d d d a6 d d fun a S=>leafL ⟨d,S⟩
   ·refine fJ [(134,_),(128,_)] 16 [some 15,some 9] fun G a w S=>?_
    exact sSk S d d d a6 d d fun a S=>leafL ⟨d,S⟩
   ·refine fJ [(135,_),(128,_)] 17 [some 16,some 9] fun G a w S=>?_
    exact sSk S d d d a6 d d fun a S=>leafL ⟨d,S⟩
   ·refine fJ [(130,_),(136,_),(128,_)] 18 [some 11,some 17,some 9] fun G a w S=>?_
    exact sSk S d d d a6 d d fun a S=>leafL ⟨d,S⟩
   ·refine fJ [(137,_),(128,_)] 19 [some 18,some 9] fun G a w S=>?_
    exact sSk S d d d a6 d d fun a S=>leafL ⟨d,S⟩
   ·refine fJ [(128,_),(138,_)] 20 [some 9,some 19] fun G a w S=>?_
    exact sPickT (.bool true) S (wN d) d d a6 d d (lb d) fun a S=>leafL ⟨d,S⟩
   exact leafT (⟨true,Option.some.inj h,S.fix [1,2,3] [8,9,10,11] (by decide) d d d⟩)
  obtain ⟨aI,c6,h⟩:=bS h
  obtain ⟨bD,c7,S⟩:=pIdx (P:=Tryd.prog) (r:=r_api_Row) (v:=.slice a7 a2.1.Rows.length a8) (xs:=a2.1.Rows) (j:=ap) 38 54 7 S Tryd.underlying38 d d bi
  obtain ⟨bE,c8,S⟩:=pFld (P:=Tryd.prog) (r:=r_api_Row) (s2:=rB) (g:=(·.Back)) (q:=bD) (z:=af) 54 0 0 0 S d d comp_api_Row_Back
  obtain ⟨c9,S⟩:=pLoad (r:=rB) (q:=bE) (x:=af.Back) 0 S d
  obtain rfl:c9=.bool af.Back:=S.mem.know (i:=1) (e:=fRep rB (c9) af.Back) d
  obtain ⟨bq,ca,S⟩:=pIdx (P:=Tryd.prog) (r:=r_api_Row) (v:=.slice a7 a2.1.Rows.length a8) (xs:=a2.1.Rows) (j:=ap) 38 54 11 S Tryd.underlying38 d d bi
  obtain ⟨br,cb,S⟩:=pFld (P:=Tryd.prog) (r:=r_api_Row) (s2:=(rL r_api_Stitch)) (g:=(·.Cells)) (q:=bq) (z:=af) 54 1 0 1 S d d comp_api_Row_Cells
  obtain ⟨cC,S⟩:=pLoad (r:=(rL r_api_Stitch)) (q:=br) (x:=af.Cells) 0 S d
  obtain ⟨aR,aS,_,rfl,_⟩:=S.mem.know (i:=1) (e:=fRep (rL r_api_Stitch) (cC) af.Cells) d
  refine sDraw (nf:=[]) (W:=[(0,119,.pointer (some ⟨aQ,0,none⟩)),(1,120,.bool ag.Back),(2,121,.pointer (some ⟨ax,1,none⟩)),(3,122,.slice a7 a2.1.Rows.length a8),(4,123,iv ap),(5,124,bD),(6,125,bE),(7,126,.bool af.Back),(8,127,.bool (ag.Back != af.Back)),(9,128,.bool (ag.Back != af.Back)),(10,129,.pointer (some ⟨aQ,1,none⟩)),(11,130,.slice aA ag.Cells.length aC),(12,131,.pointer (some ⟨ax,1,none⟩)),(13,132,.slice a7 a2.1.Rows.length a8),(14,133,iv ap),(15,134,bq),(16,135,br),(17,136,.slice aR af.Cells.length aS),(18,137,.bool aI),(19,138,.bool (!aI)),(20,139,.bool (!aI))]) d S ?_
  refine node_by (A:=anc_piece_Read_2) 21 (by kernel_rfl) (by kernel_rfl) (by kernel_rfl) (by kernel_rfl) (by kernel_rfl) [0,1,2,3,4,5,6,7,8,9,10,11,12,13,14,15,16,17,18,19,20] (by kernel_rfl) (by decide) (by decide) (fF ?_ (fF ?_ (fF ?_ (fF ?_ (fF ?_ (fF ?_ (fF ?_ (fF ?_ (fF ?_ (fF ?_ (fF ?_ (fF ?_ (fF ?_ (fF ?_ (fF ?_ (fF ?_ (fF ?_ (fF ?_ (fF ?_ (fF ?_ (fF ?_ (trivial)))))))))))))))))))))) [(4,.pointer (some ⟨b7,0,none⟩)),(6,.pointer (some ⟨ah,0,none⟩)),(12,.pointer (some ⟨ax,0,none⟩)),(112,.slice ar p0.Rows.length au),(113,iv (p0.Rows.length:Int)),(114,iv ap),(129,.pointer (some ⟨aQ,1,none⟩)),(130,.slice aA ag.Cells.length aC),(131,.pointer (some ⟨ax,1,none⟩)),(132,.slice a7 a2.1.Rows.length a8),(133,iv ap),(134,bq),(135,br),(136,.slice aR af.Cells.length aS),(137,.bool aI),(138,.bool (!aI)),(139,.bool (!aI))] (fin_of [none,none,none,none,none,none,some 10,some 11,some 12,some 13,some 14,some 15,some 16,some 17,some 18,some 19,some 20] d (by kernel_rfl) (by kernel_rfl)) (fun _ a w S=>?_)
  ·refine fJ [(15,_)] 0 [none] fun G a w S=>?_
   exact sField (b:=aQ) (off:=0) 0 0 S (wN d) d d d d d (lb d) fun a S=>leafL ⟨d,S⟩
  ·refine fJ [(119,_)] 1 [some 0] fun G a w S=>?_
   exact sLoad1 0 (.bool ag.Back) S (wN d) d d d d d d (lb d) fun a S=>leafL ⟨d,S⟩
  ·refine fJ [(12,_)] 2 [none] fun G a w S=>?_
   exact sField (b:=ax) (off:=0) 1 1 S (wN d) d d d d d (lb d) fun a S=>leafL ⟨d,S⟩
  ·refine fJ [(121,_)] 3 [some 2] fun G a w S=>?_
   exact sLoad1 3 (.slice a7 a2.1.Rows.length a8) S (wN d) d d d d d d (lb d) fun a S=>leafL ⟨d,S⟩
  ·exact fM 4 none d d d d (.inl d) d d d
  ·refine fJ [(122,_),(123,_)] 5 [some 3,some 4] fun G a w S=>?_
   exact sIdxV S (wN d) d d d c7 d (lb d) fun a S=>leafL ⟨d,S⟩
  ·refine fJ [(124,_)] 6 [some 5] fun G a w S=>?_
   exact sFldV (q:=bD) S (wN d) d d c8 d (lb d) fun a S=>leafL ⟨d,S⟩
  ·refine fJ [(125,_)] 7 [some 6] fun G a w S=>?_
   exact sLoadV1 (vq:=bE) 4 (.bool af.Back) S (wN d) d d d d d (lb d) fun a S=>leafL ⟨d,S⟩
  ·refine fJ [(120,_),(126,_)] 8 [some 1,some 7] fun G a w S=>?_
   exact sBin _ S (wN d) d d d (bNeB _ _ _ _ Tryd.underlying4 ag.Back af.Back) d (lb d) fun a S=>leafL ⟨d,S⟩
  ·exact fM 9 (some 8) d d d d (.inl d) d d d
  ·refine fJ [(15,_),(128,_)] 10 [none,some 9] fun G a w S=>?_
   exact sField (b:=aQ) (off:=0) 1 1 S (wG 9 false 128 d d d a6) d d d d d (lb d) fun a S=>leafL ⟨d,S⟩
  ·refine fJ [(129,_),(128,_)] 11 [some 10,some 9] fun G a w S=>?_
   exact sLoad1 0 (.slice aA ag.Cells.length aC) S (wG 9 false 128 d d d a6) d d d d d d (lb d) fun a S=>leafL ⟨d,S⟩
  ·refine fJ [(12,_),(128,_)] 12 [none,some 9] fun G a w S=>?_
   exact sField (b:=ax) (off:=0) 1 1 S (wG 9 false 128 d d d a6) d d d d d (lb d) fun a S=>leafL ⟨d,S⟩
  ·refine fJ [(131,_),(128,_)] 13 [some 12,some 9] fun G a w S=>?_
   exact sLoad1 3 (.slice a7 a2.1.Rows.length a8) S (wG 9 false 128 d d d a6) d d d d d d (lb d) fun a S=>leafL ⟨d,S⟩
  ·refine fJ [(14,_),(128,_)] 14 [none,some 9] fun G a w S=>?_
   exact sMove (iv ap) S (wG 9 false 128 d d d a6) (.inl d) d d (lb d) fun a S=>leafL ⟨d,S⟩
  ·refine fJ [(132,_),(133,_),(128,_)] 15 [some 13,some 14,some 9] fun G a w S=>?_
   exact sIdxV S (wG 9 false 128 d d d a6) d d d ca d (lb d) fun a S=>leafL ⟨d,S⟩
  ·refine fJ [(134,_),(128,_)] 16 [some 15,some 9] fun G a w S=>?_
   exact sFldV (q:=bq) S (wG 9 false 128 d d d a6) d d cb d (lb d) fun a S=>leafL ⟨d,S⟩
  ·refine fJ [(135,_),(128,_)] 17 [some 16,some 9] fun G a w S=>?_
   exact sLoadV1 (vq:=br) 0 (.slice aR af.Cells.length aS) S (wG 9 false 128 d d d a6) d d d d d (lb d) fun a S=>leafL ⟨d,S⟩
  ·refine fJ [(130,_),(136,_),(128,_)] 18 [some 11,some 17,some 9] fun G a w S=>?_
   have S1:=S.mem
   refine sCallQ (X:=Unit) (f:=42) (vs:=[.slice aA ag.Cells.length aC,.slice aR af.Cells.length aS]) (val:=fun _=>.bool aI) S (wG 9 false 128 d d d a6) d callee42 d (S1.quiet [8,1] d) (fun E1 w1 S1=>c_stitch_Same E1 w1 ag.Cells (.slice aA ag.Cells.length aC) af.Cells (.slice aR af.Cells.length aS) aI c6 S1) d (lb d) fun _ a w S=>?_
   exact leafL ⟨d,S⟩
  ·refine fJ [(137,_),(128,_)] 19 [some 18,some 9] fun G a w S=>?_
   exact sNot (b:=aI) S (wG 9 false 128 d d d a6) d d d (lb d) fun a S=>leafL ⟨d,S⟩
  ·refine fJ [(128,_),(138,_)] 20 [some 9,some 19] fun G a w S=>?_
   exact sPickF (.bool (!aI)) S (wN d) d d a6 d d (lb d) fun a S=>leafL ⟨d,S⟩
  exact leafT (⟨!aI,Option.some.inj h,S.fix [1,2,3] [12,13,14,15] (by decide) d d d⟩)
 refine sSeq (fun dA cD=>sRegion (sField (b:=b6) (off:=0) 1 1 S (wN d) d d d d d (lb d) fun a S=>sLoad1 3 (.slice ar p0.Rows.length au) S (wN d) d d d d d d (lb d) fun a S=>sLen S (wN d) d Tryd.underlying38 d d (lb d) fun a S=>sM S fun a S=>?_))
 refine lT (cD _ _ (wp_block ?_))
 obtain ⟨dB,hl,d0⟩:=bS h
 refine sLoop hl (fun s0 a w=>match s0 with | (aL,aH,aG)=>∃ am,∃ ao,∃ ak,∃ al,St [] E [] w0 143 a w [(2,.pointer (some ⟨b6,0,none⟩)),(4,.pointer (some ⟨b7,0,none⟩)),(6,.pointer (some ⟨ah,0,none⟩)),(45,.slice ar p0.Rows.length au),(46,iv (p0.Rows.length:Int)),(47,iv aL)] [eBox b6 40 [iv p0.Start,.slice ar p0.Rows.length au],eBox b7 30 [.slice none 0 0,.slice none 0 0],eBox ah 30 [.slice am aH.length ao,.slice ak aG.length al],eRow (rI .i64) 3 (.slice am aH.length ao) aH,eRow (rI .i64) 3 (.slice ak aG.length al) aG] [fRep (rL r_api_Row) (.slice ar p0.Rows.length au) p0.Rows]) ⟨b8,ba,bb,bc,S.fix [3,4,0,2,1] [0] (by decide) d d d⟩ ?_
 clear hl h
 intro s0 a w c0 hI h cc
 obtain ⟨aL,aH,aG⟩:=s0
 unfold piece_Read_l1 at h
 dsimp only at h hI
 obtain ⟨am,ao,ak,al,S⟩:=hI
 refine sSeq (fun dC cE=>sRegion (sBin _ S (wN d) d d d (bLt _ _ _ _ .i64 aL (p0.Rows.length:Int)) d (lb d) fun a S=>lT (cE _ _ (sSeq (fun dD cF=>?_)))))
 rcases iS h with ⟨bF,h⟩ | ⟨bF,h⟩
 rotate_left
 ·refine sCondF S d bF ?_
  obtain rfl:=tS h
  obtain rfl:=cc _ d
  have h:=d0
  try dsimp only at h
  exact wp_exit (xThen (xThen (xHit (leafT (⟨aH,aG,Option.some.inj h,am,ao,ak,al,S.fix [0,1,2,3,4] [0] (by decide) d d d⟩)))))
 refine sCondT S d bF (wp_skip (leafT (cF _ _ ?_)))
 refine sSeq (fun dE cG=>wp_block ?_)
 refine sSeq (fun dF cH=>sRegion (sM S fun a S=>?_))
 obtain ⟨aq,cI,h⟩:=bS h
 obtain ⟨d1,cJ,S⟩:=pIdx (P:=Tryd.prog) (r:=r_api_Row) (v:=.slice ar p0.Rows.length au) (xs:=p0.Rows) (j:=aL) 38 54 0 S Tryd.underlying38 d d cI
 refine sIdxV S (wN d) d d d cJ d (lb d) fun a S=>?_
 obtain ⟨dn,S⟩:=pLoad (r:=r_api_Row) (q:=d1) (x:=aq) 0 S d
 obtain ⟨dp,rfl,cd⟩:=S.mem.know (i:=1) (e:=fRep r_api_Row (dn) aq) d
 have S:=S.learn (fRep (rL r_api_Stitch) dp aq.Cells) cd
 obtain ⟨av,aw,_,rfl,_⟩:=cd
 refine sLoadVN (vq:=d1) 1 [.bool aq.Back,.slice av aq.Cells.length aw] S (wN d) d d d d d d (lb d) fun a S=>sAlloc (.agg #[.bool false,.slice none 0 0]) S (wN d) d d [.bool false,.slice none 0 0] d d (lb d) fun a bJ w S=>sN S fun a S=>?_
 refine sStore (p:=bJ) (off:=0) (T:=54) (vs:=[.bool false,.slice none 0 0]) (v:=.agg #[.bool aq.Back,.slice av aq.Cells.length aw]) 0 [.bool aq.Back,.slice av aq.Cells.length aw] S (wN d) d d d d d d d (by simp) d fun a w S=>lT (cH _ _ (sSeq (fun dG cK=>sRegion (sField (b:=bJ) (off:=0) 1 1 S (wN d) d d d d d (lb d) fun a S=>sLoad1 0 (.slice av aq.Cells.length aw) S (wN d) d d d d d d (lb d) fun a S=>sN S fun a S=>?_))))
 refine lT (cK _ _ (sSeq (fun dH cL=>?_)))
 obtain ⟨dr,h,dt⟩:=bS h
 refine sCut (fun a w=>∃ cM,cM=dr∧St [] E [] w0 143 a w [(2,.pointer (some ⟨b6,0,none⟩)),(4,.pointer (some ⟨b7,0,none⟩)),(6,.pointer (some ⟨ah,0,none⟩)),(7,iv aL),(8,.pointer (some ⟨bJ,0,none⟩)),(9,.slice av aq.Cells.length aw),(45,.slice ar p0.Rows.length au),(46,iv (p0.Rows.length:Int)),(47,iv aL),(61,.bool cM)] [eBox b6 40 [iv p0.Start,.slice ar p0.Rows.length au],eBox b7 30 [.slice none 0 0,.slice none 0 0],eBox ah 30 [.slice am aH.length ao,.slice ak aG.length al],eBox bJ 54 [.bool aq.Back,.slice av aq.Cells.length aw],eRow (rI .i64) 3 (.slice am aH.length ao) aH,eRow (rI .i64) 3 (.slice ak aG.length al) aG] [fRep (rL r_api_Stitch) (.slice av aq.Cells.length aw) aq.Cells,fRep (rL r_api_Row) (.slice ar p0.Rows.length au) p0.Rows]) ?_ (fun a w hI=>?_)
 ·refine sRegion (sM S fun a S=>?_)
  refine sLen S (wN d) d Tryd.underlying52 d d (lb d) fun a S=>sBin _ S (wN d) d d d (bEq _ _ _ _ .i64 (aq.Cells.length:Int) 0) d (lb d) fun a S=>sM S fun a S=>?_
  rcases iS h with ⟨aZ,h⟩ | ⟨aZ,h⟩
  ·refine sSkN 3 3 false 57 S d d aZ d fun a S=>sPickT (.bool true) S (wN d) d d aZ d d (lb d) fun a S=>?_
   exact lT (⟨true,Option.some.inj h,S.fix [1,2,3,0,4,5] [0,4] (by decide) d d d⟩)
  refine sMove (.slice av aq.Cells.length aw) S (wG 3 false 57 d d d aZ) (.inl d) d d (lb d) fun a S=>?_
  obtain ⟨ce,cN,h⟩:=bS h
  have S1:=S.mem
  refine sCallQ (X:=Unit) (f:=40) (vs:=[.slice av aq.Cells.length aw]) (val:=fun _=>iv ce) S (wG 3 false 57 d d d aZ) d callee40 d (S1.quiet [0] d) (fun E1 w1 S1=>c_stitch_All E1 w1 aq.Cells (.slice av aq.Cells.length aw) ce cN S1) d (lb d) fun _ a w S=>?_
  refine sBin _ S (wG 3 false 57 d d d aZ) d d d (bNe _ _ _ _ .i64 ce 0) d (lb d) fun a S=>sPickF (.bool (ce != 0)) S (wN d) d d aZ d d (lb d) fun a S=>?_
  exact lT (⟨ce != 0,Option.some.inj h,S.fix [1,2,3,0,4,5] [0,4] (by decide) d d d⟩)
 obtain ⟨cM,rfl,S⟩:=hI
 have h:=dt
 try dsimp only at h
 rcases iS h with ⟨bG,h⟩ | ⟨bG,h⟩
 ·refine sCondT S d bG (sSeq (fun dI cO=>sRegion (sBuild [] [.slice none 0 0,.slice none 0 0] S (wN d) d d d d (lb d) fun a S=>sStore (p:=b7) (off:=0) (T:=30) (vs:=[.slice none 0 0,.slice none 0 0]) (v:=.agg #[.slice none 0 0,.slice none 0 0]) 1 [.slice none 0 0,.slice none 0 0] S (wN d) d d d d d d d (by simp) d fun a w S=>sN S fun a S=>?_)))
  refine lT (cO _ _ ?_)
  obtain rfl:=tS h
  obtain rfl:=cc _ d
  have h:=d0
  try dsimp only at h
  obtain rfl:=tS h
  have h:=cZ
  try dsimp only at h
  obtain rfl:=tS h
  have S:=S.learn (fRep (rL (rI .i64)) (.slice none 0 0) ([]:(List Int))) (rL_nil _ _ _)
  have S:=S.learn (fRep r_api_Piece (.agg #[.slice none 0 0,.slice none 0 0]) (api_Piece.mk ([]:(List Int)) ([]:(List Int)))) ⟨_,_,d,S.mem.know (i:=0) (e:=fRep (rL (rI .i64)) (.slice none 0 0) ([]:(List Int))) d,S.mem.know (i:=0) (e:=fRep (rL (rI .i64)) (.slice none 0 0) ([]:(List Int))) d⟩
  exact wp_ret (rThen (rBlock (rThen (rThen (rBlock (rThen (sRet (.tuple #[.agg #[.slice none 0 0,.slice none 0 0],iv 8]) S (rsl2 d (rvN (c:=4) (t:=30) (T:=30) (p:=b7) 0 [.slice none 0 0,.slice none 0 0] S d d d d) (rvT (t:=5) (v:=iv 8) S d)) ⟨(.agg #[.slice none 0 0,.slice none 0 0]),d,S.mem.sel [] [0] (by decide) d d⟩)))))))
 refine sCondF S d bG (wp_skip (leafT (cL _ _ ?_)))
 refine sSeq (fun dJ cP=>?_)
 obtain ⟨aJ,cQ,h⟩:=bS h
 obtain ⟨bH,cR,h⟩:=bS h
 obtain ⟨aK,cS,h⟩:=bS h
 obtain ⟨bI,cT,h⟩:=bS h
 obtain ⟨cU,cV,S⟩:=pIdx (P:=Tryd.prog) (r:=r_api_Stitch) (v:=.slice av aq.Cells.length aw) (xs:=aq.Cells) (j:=0) 52 56 0 S Tryd.underlying52 d d cQ
 obtain ⟨d3,S⟩:=pLoad (r:=r_api_Stitch) (q:=cU) (x:=aJ) 0 S d
 obtain rfl:d3=.agg #[.int .u8 aJ.Kind,.bool aJ.Purl,iv aJ.A,iv aJ.B]:=S.mem.know (i:=1) (e:=fRep r_api_Stitch (d3) aJ) d
 obtain ⟨cW,cX,S⟩:=pIdx (P:=Tryd.prog) (r:=r_api_Stitch) (v:=.slice av aq.Cells.length aw) (xs:=aq.Cells) (j:=w64 ((aq.Cells.length:Int) - 1)) 52 56 3 S Tryd.underlying52 d d cS
 obtain ⟨d4,S⟩:=pLoad (r:=r_api_Stitch) (q:=cW) (x:=aK) 0 S d
 obtain rfl:d4=.agg #[.int .u8 aK.Kind,.bool aK.Purl,iv aK.A,iv aK.B]:=S.mem.know (i:=1) (e:=fRep r_api_Stitch (d4) aK) d
 refine sDraw (nf:=[]) (W:=[(0,63,.slice av aq.Cells.length aw),(1,64,cU),(2,65,.agg #[.int .u8 aJ.Kind,.bool aJ.Purl,iv aJ.A,iv aJ.B]),(3,66,iv bH),(4,67,.slice av aq.Cells.length aw),(5,68,.slice av aq.Cells.length aw),(6,69,iv (aq.Cells.length:Int)),(7,70,iv (w64 ((aq.Cells.length:Int) - 1))),(8,71,cW),(9,72,.agg #[.int .u8 aK.Kind,.bool aK.Purl,iv aK.A,iv aK.B]),(10,73,iv bI),(11,10,iv bH),(12,11,iv bI)]) d S ?_
 refine node_by (A:=anc_piece_Read_0) 13 (by kernel_rfl) (by kernel_rfl) (by kernel_rfl) (by kernel_rfl) (by kernel_rfl) [0,1,2,3,4,5,6,7,8,9,10,11,12] (by kernel_rfl) (by decide) (by decide) (fF ?_ (fF ?_ (fF ?_ (fF ?_ (fF ?_ (fF ?_ (fF ?_ (fF ?_ (fF ?_ (fF ?_ (fF ?_ (fF ?_ (fF ?_ (trivial)))))))))))))) [(2,.pointer (some ⟨b6,0,none⟩)),(4,.pointer (some ⟨b7,0,none⟩)),(6,.pointer (some ⟨ah,0,none⟩)),(7,iv aL),(8,.pointer (some ⟨bJ,0,none⟩)),(10,iv bH),(11,iv bI),(45,.slice ar p0.Rows.length au),(46,iv (p0.Rows.length:Int)),(47,iv aL)] (fin_of [none,none,none,none,none,some 11,some 12,none,none,none] d (by kernel_rfl) (by kernel_rfl)) (fun _ a w S=>?_)
 ·exact fM 0 none d d d d (.inl d) d d d
 ·refine fJ [(63,_)] 1 [some 0] fun G a w S=>?_
  exact sIdxV S (wN d) d d d cV d (lb d) fun a S=>leafL ⟨d,S⟩
 ·refine fJ [(64,_)] 2 [some 1] fun G a w S=>?_
  exact sLoadVN (vq:=cU) 3 [.int .u8 aJ.Kind,.bool aJ.Purl,iv aJ.A,iv aJ.B] S (wN d) d d d d d d (lb d) fun a S=>leafL ⟨d,S⟩
 ·refine fJ [(65,_)] 3 [some 2] fun G a w S=>?_
  have S1:=S.mem
  refine sCq [.agg #[.int .u8 aJ.Kind,.bool aJ.Purl,iv aJ.A,iv aJ.B]] (iv bH) S callee41 (S1.quiet [4] d) (fun E1 w1 S1=>c_piece_grows E1 w1 aJ (.agg #[.int .u8 aJ.Kind,.bool aJ.Purl,iv aJ.A,iv aJ.B]) bH cR S1) fun a w S=>?_
  exact leafL ⟨d,S⟩
 ·exact fM 4 none d d d d (.inl d) d d d
 ·exact fM 5 none d d d d (.inl d) d d d
 ·refine fJ [(68,_)] 6 [some 5] fun G a w S=>?_
  exact sLen S (wN d) d Tryd.underlying52 d d (lb d) fun a S=>leafL ⟨d,S⟩
 ·refine fJ [(69,_)] 7 [some 6] fun G a w S=>?_
  exact sBin _ S (wN d) d d d (bSub _ _ _ _ (aq.Cells.length:Int) 1) d (lb d) fun a S=>leafL ⟨d,S⟩
 ·refine fJ [(67,_),(70,_)] 8 [some 4,some 7] fun G a w S=>?_
  exact sIdxV S (wN d) d d d cX d (lb d) fun a S=>leafL ⟨d,S⟩
 ·refine fJ [(71,_)] 9 [some 8] fun G a w S=>?_
  exact sLoadVN (vq:=cW) 0 [.int .u8 aK.Kind,.bool aK.Purl,iv aK.A,iv aK.B] S (wN d) d d d d d d (lb d) fun a S=>leafL ⟨d,S⟩
 ·refine fJ [(72,_)] 10 [some 9] fun G a w S=>?_
  have S1:=S.mem
  refine sCq [.agg #[.int .u8 aK.Kind,.bool aK.Purl,iv aK.A,iv aK.B]] (iv bI) S callee41 (S1.quiet [1] d) (fun E1 w1 S1=>c_piece_grows E1 w1 aK (.agg #[.int .u8 aK.Kind,.bool aK.Purl,iv aK.A,iv aK.B]) bI cT S1) fun a w S=>?_
  exact leafL ⟨d,S⟩
 ·exact fM 11 (some 3) d d d d (.inr d) d d d
 ·exact fM 12 (some 10) d d d d (.inr d) d d d
 refine leafT (cP _ _ ?_)
 obtain ⟨du,h,dv⟩:=bS h
 refine sCut (fun a w=>∃ aV,∃ b0,(aV,b0)=du∧St [] E [] w0 143 a w [(2,.pointer (some ⟨b6,0,none⟩)),(4,.pointer (some ⟨b7,0,none⟩)),(6,.pointer (some ⟨ah,0,none⟩)),(7,iv aL),(10,iv aV),(11,iv b0),(45,.slice ar p0.Rows.length au),(46,iv (p0.Rows.length:Int)),(47,iv aL)] [eBox b6 40 [iv p0.Start,.slice ar p0.Rows.length au],eBox b7 30 [.slice none 0 0,.slice none 0 0],eBox ah 30 [.slice am aH.length ao,.slice ak aG.length al],eRow (rI .i64) 3 (.slice am aH.length ao) aH,eRow (rI .i64) 3 (.slice ak aG.length al) aG] [fRep (rL r_api_Row) (.slice ar p0.Rows.length au) p0.Rows]) ?_ (fun a w hI=>?_)
 ·refine sSeq (fun dw cf=>sRegion (sField (b:=bJ) (off:=0) 0 0 S (wN d) d d d d d (lb d) fun a S=>sLoad1 3 (.bool aq.Back) S (wN d) d d d d d d (lb d) fun a S=>lT (cf _ _ ?_)))
  rcases iS h with ⟨bj,h⟩ | ⟨bj,h⟩
  rotate_left
  ·refine sCondF S d bj ?_
   exact wp_skip (leafT (⟨bH,bI,Option.some.inj h,S.fix [0,1,2,4,5] [7] (by decide) d d d⟩))
  refine sCondT S d bj (sRegion (sM S fun a S=>?_))
  refine sM S fun a S=>?_
  refine sN S fun a S=>?_
  refine sN S fun a S=>?_
  exact lT (⟨bI,bH,Option.some.inj h,S.fix [0,1,2,4,5] [7] (by decide) d d d⟩)
 obtain ⟨aV,b0,rfl,S⟩:=hI
 have h:=dv
 try dsimp only at h
 refine sSeq (fun dx cg=>?_)
 obtain ⟨ay,bw,h⟩:=bS h
 obtain ⟨b1,ci,h⟩:=bS h
 obtain ⟨cj,ck,cl⟩:=pIdxR (P:=Tryd.prog) (r:=(rI .i64)) (T:=3) (v:=.slice am aH.length ao) (xs:=aH) (j:=aL) 28 3 3 S Tryd.underlying28 d d bw
 refine sDraw (nf:=[9,10,12]) (W:=[(0,78,.pointer (some ⟨ah,0,none⟩)),(1,79,.slice am aH.length ao),(2,80,.pointer (some ⟨ah,0,none⟩)),(3,81,.slice am aH.length ao),(4,82,iv aL),(5,83,cj),(6,84,iv ay),(7,85,iv b0),(8,86,iv (w64 (ay - b0)))]) d S ?_
 refine node_by (A:=anc_piece_Read_1) 13 (by kernel_rfl) (by kernel_rfl) (by kernel_rfl) (by kernel_rfl) (by kernel_rfl) [0,1,2,3,4,5,6,7,8] (by kernel_rfl) (by decide) (by decide) (fF ?_ (fF ?_ (fF ?_ (fF ?_ (fF ?_ (fF ?_ (fF ?_ (fF ?_ (fF ?_ (fN ?_ (aB 10 2 9 (by decide) (fE 9 (aB 12 0 9 (by decide) (trivial)))))))))))))) [] (fun q hq=>by cases hq) (fun hY=>absurd (hY 9 (by decide)) (by decide))
 ·refine fJ [(6,_)] 0 [none] fun G a w S=>?_
  exact sField (b:=ah) (off:=0) 0 0 S (wN d) d d d d d (lb d) fun a S=>leafL ⟨d,S⟩
 ·refine fJ [(78,_)] 1 [some 0] fun G a w S=>?_
  exact sLoad1 2 (.slice am aH.length ao) S (wN d) d d d d d d (lb d) fun a S=>leafL ⟨d,S⟩
 ·refine fJ [(6,_)] 2 [none] fun G a w S=>?_
  exact sField (b:=ah) (off:=0) 0 0 S (wN d) d d d d d (lb d) fun a S=>leafL ⟨d,S⟩
 ·refine fJ [(80,_)] 3 [some 2] fun G a w S=>?_
  exact sLoad1 2 (.slice am aH.length ao) S (wN d) d d d d d d (lb d) fun a S=>leafL ⟨d,S⟩
 ·exact fM 4 none d d d d (.inl d) d d d
 ·refine fJ [(81,_),(82,_)] 5 [some 3,some 4] fun G a w S=>?_
  exact sIdxV S (wN d) d d d ck d (lb d) fun a S=>leafL ⟨d,S⟩
 ·refine fJ [(83,_)] 6 [some 5] fun G a w S=>?_
  exact sLoadR (r:=(rI .i64)) (T:=3) (xs:=aH) (x:=ay) (v:=.slice am aH.length ao) (vq:=cj) (j:=aL) 3 (iv ay) S cl (wN d) d d d bw (fun _ _ _ h=>h) (scal_I _) d d (lb d) fun a S=>leafL ⟨d,S⟩
 ·exact fM 7 none d d d d (.inl d) d d d
 ·refine fJ [(84,_),(85,_)] 8 [some 6,some 7] fun G a w S=>?_
  exact sBin _ S (wN d) d d d (bSub _ _ _ _ ay b0) d (lb d) fun a S=>leafL ⟨d,S⟩
 refine ⟨_,[(86,iv (w64 (ay - b0)))],d,(srcs_of [some 8] d d d),fun G a w S=>?_⟩
 refine sLit (r:=(rI .i64)) (T:=3) (xs:=([w64 (ay - b0)]:List Int)) [(0,iv (w64 (ay - b0)))] 1 [iv (w64 (ay - b0))] [iv (w64 (ay - b0))] (iv 0) 8 S (wN d) d d Tryd.underlying28 d (by decide) (by decide) (by kernel_rfl) d (fun E1 w1 hE=>All.cons d (All.nil _ _ _)) d d (lb d) fun a w bl bm S=>?_
 refine leafL ⟨d,_,_,.inl ⟨87,(.slice bl ([w64 (ay - b0)]:List Int).length bm),[],d,S,hz_of d,?_⟩⟩
 refine node_by (A:=anc_piece_Read_1) 13 (by kernel_rfl) (by kernel_rfl) (by kernel_rfl) (by kernel_rfl) (by kernel_rfl) [9,0,1,2,3,4,5,6,7,8] (by kernel_rfl) (by decide) (by decide) (fF ?_ (fF ?_ (fD 9 (fD 9 (fD 9 (fD 9 (fD 9 (fD 9 (fD 9 (fY (fN ?_ (fE 10 (aB 12 0 10 (by decide) (trivial)))))))))))))) [] (fun q hq=>by cases hq) (fun hY=>absurd (hY 10 (by decide)) (by decide))
 ·refine fJ [(6,_)] 1 [none] fun G a w S=>?_
  exact sField (b:=ah) (off:=0) 0 0 S (wN d) d d d d d (lb d) fun a S=>leafL ⟨d,S⟩
 ·refine fJ [(78,_)] 2 [some 1] fun G a w S=>?_
  exact sLoad1 3 (.slice am aH.length ao) S (wN d) d d d d d d (lb d) fun a S=>leafL ⟨d,S⟩
 refine ⟨_,[(79,.slice am aH.length ao),(87,.slice bl ([w64 (ay - b0)]:List Int).length bm)],d,(srcs_of [some 2,some 0] d d d),fun G a w S=>?_⟩
 refine sApp (r:=(rI .i64)) (T:=3) (xs:=aH) (ys:=([w64 (ay - b0)]:List Int)) (v:=.slice am aH.length ao) (u:=.slice bl ([w64 (ay - b0)]:List Int).length bm) 4 (iv 0) 8 S (wN d) d Tryd.underlying28 d d (by decide) d d d (src_R (T:=3) 0 S.mem d) ci d (lb d) fun a w aM aO S=>leafL ⟨d,_,_,.inl ⟨88,(.slice aM b1.length aO),[(11,89,.pointer (some ⟨ah,0,none⟩))],d,S,hz_of d,?_⟩⟩
 refine node_by (A:=anc_piece_Read_1) 13 (by kernel_rfl) (by kernel_rfl) (by kernel_rfl) (by kernel_rfl) (by kernel_rfl) [11,10,9,0,1,2,3,4,5,6,7,8] (by kernel_rfl) (by decide) (by decide) (fD 10 (fD 10 (fD 10 (fD 10 (fD 10 (fD 10 (fD 10 (fD 10 (fD 10 (fY (fY (fF ?_ (fN ?_ (trivial)))))))))))))) [] (fun q hq=>by cases hq) (fun hY=>absurd (hY 12 (by decide)) (by decide))
 ·refine fJ [(6,_)] 0 [none] fun G a w S=>?_
  exact sField (b:=ah) (off:=0) 0 0 S (wN d) d d d d d (lb d) fun a S=>leafL ⟨d,S⟩
 refine ⟨_,[(88,.slice aM b1.length aO),(89,.pointer (some ⟨ah,0,none⟩))],d,(srcs_of [some 1,some 0] d d d),fun G a w S=>?_⟩
 refine sStore (p:=ah) (off:=0) (T:=30) (vs:=[.slice am aH.length ao,.slice ak aG.length al]) (v:=.slice aM b1.length aO) 4 [.slice aM b1.length aO] S (wN d) d d d d d d d (by simp) d fun a w S=>leafL ⟨d,_,_,.inr ⟨[],d,S,hz_of d,?_⟩⟩
 refine node_by (A:=anc_piece_Read_1) 13 (by kernel_rfl) (by kernel_rfl) (by kernel_rfl) (by kernel_rfl) (by kernel_rfl) [11,10,9,0,1,2,3,4,5,6,7,8] (by kernel_rfl) (by decide) (by decide) (fD 12 (fD 12 (fD 12 (fD 12 (fD 12 (fD 12 (fD 12 (fD 12 (fD 12 (fY (fY (fD 12 (fY (trivial)))))))))))))) [(2,.pointer (some ⟨b6,0,none⟩)),(4,.pointer (some ⟨b7,0,none⟩)),(6,.pointer (some ⟨ah,0,none⟩)),(7,iv aL),(10,iv aV),(45,.slice ar p0.Rows.length au),(46,iv (p0.Rows.length:Int)),(47,iv aL)] (fin_of [none,none,none,none,none,none,none,none] d (by kernel_rfl) (by kernel_rfl)) (fun _ a w S=>?_)
 refine leafT (cg _ _ ?_)
 obtain ⟨az,bx,h⟩:=bS h
 obtain ⟨bn,cm,h⟩:=bS h
 obtain ⟨cn,co,cp⟩:=pIdxR (P:=Tryd.prog) (r:=(rI .i64)) (T:=3) (v:=.slice ak aG.length al) (xs:=aG) (j:=aL) 28 3 5 S Tryd.underlying28 d d bx
 refine sDraw (nf:=[9,10,12]) (W:=[(0,90,.pointer (some ⟨ah,1,none⟩)),(1,91,.slice ak aG.length al),(2,92,.pointer (some ⟨ah,1,none⟩)),(3,93,.slice ak aG.length al),(4,94,iv aL),(5,95,cn),(6,96,iv az),(7,97,iv aV),(8,98,iv (w64 (az + aV)))]) d S ?_
 refine node_by (A:=anc_piece_Read_1) 13 (by kernel_rfl) (by kernel_rfl) (by kernel_rfl) (by kernel_rfl) (by kernel_rfl) [0,1,2,3,4,5,6,7,8] (by kernel_rfl) (by decide) (by decide) (fF ?_ (fF ?_ (fF ?_ (fF ?_ (fF ?_ (fF ?_ (fF ?_ (fF ?_ (fF ?_ (fN ?_ (aB 10 2 9 (by decide) (fE 9 (aB 12 0 9 (by decide) (trivial)))))))))))))) [] (fun q hq=>by cases hq) (fun hY=>absurd (hY 9 (by decide)) (by decide))
 ·refine fJ [(6,_)] 0 [none] fun G a w S=>?_
  exact sField (b:=ah) (off:=0) 1 1 S (wN d) d d d d d (lb d) fun a S=>leafL ⟨d,S⟩
 ·refine fJ [(90,_)] 1 [some 0] fun G a w S=>?_
  exact sLoad1 0 (.slice ak aG.length al) S (wN d) d d d d d d (lb d) fun a S=>leafL ⟨d,S⟩
 ·refine fJ [(6,_)] 2 [none] fun G a w S=>?_
  exact sField (b:=ah) (off:=0) 1 1 S (wN d) d d d d d (lb d) fun a S=>leafL ⟨d,S⟩
 ·refine fJ [(92,_)] 3 [some 2] fun G a w S=>?_
  exact sLoad1 0 (.slice ak aG.length al) S (wN d) d d d d d d (lb d) fun a S=>leafL ⟨d,S⟩
 ·exact fM 4 none d d d d (.inl d) d d d
 ·refine fJ [(93,_),(94,_)] 5 [some 3,some 4] fun G a w S=>?_
  exact sIdxV S (wN d) d d d co d (lb d) fun a S=>leafL ⟨d,S⟩
 ·refine fJ [(95,_)] 6 [some 5] fun G a w S=>?_
  exact sLoadR (r:=(rI .i64)) (T:=3) (xs:=aG) (x:=az) (v:=.slice ak aG.length al) (vq:=cn) (j:=aL) 5 (iv az) S cp (wN d) d d d bx (fun _ _ _ h=>h) (scal_I _) d d (lb d) fun a S=>leafL ⟨d,S⟩
 ·exact fM 7 none d d d d (.inl d) d d d
 ·refine fJ [(96,_),(97,_)] 8 [some 6,some 7] fun G a w S=>?_
  exact sBin _ S (wN d) d d d (bAdd _ _ _ _ az aV) d (lb d) fun a S=>leafL ⟨d,S⟩
 refine ⟨_,[(98,iv (w64 (az + aV)))],d,(srcs_of [some 8] d d d),fun G a w S=>?_⟩
 refine sLit (r:=(rI .i64)) (T:=3) (xs:=([w64 (az + aV)]:List Int)) [(0,iv (w64 (az + aV)))] 1 [iv (w64 (az + aV))] [iv (w64 (az + aV))] (iv 0) 8 S (wN d) d d Tryd.underlying28 d (by decide) (by decide) (by kernel_rfl) d (fun E1 w1 hE=>All.cons d (All.nil _ _ _)) d d (lb d) fun a w bo bp S=>?_
 refine leafL ⟨d,_,_,.inl ⟨99,(.slice bo ([w64 (az + aV)]:List Int).length bp),[],d,S,hz_of d,?_⟩⟩
 refine node_by (A:=anc_piece_Read_1) 13 (by kernel_rfl) (by kernel_rfl) (by kernel_rfl) (by kernel_rfl) (by kernel_rfl) [9,0,1,2,3,4,5,6,7,8] (by kernel_rfl) (by decide) (by decide) (fF ?_ (fF ?_ (fD 9 (fD 9 (fD 9 (fD 9 (fD 9 (fD 9 (fD 9 (fY (fN ?_ (fE 10 (aB 12 0 10 (by decide) (trivial)))))))))))))) [] (fun q hq=>by cases hq) (fun hY=>absurd (hY 10 (by decide)) (by decide))
 ·refine fJ [(6,_)] 1 [none] fun G a w S=>?_
  exact sField (b:=ah) (off:=0) 1 1 S (wN d) d d d d d (lb d) fun a S=>leafL ⟨d,S⟩
 ·refine fJ [(90,_)] 2 [some 1] fun G a w S=>?_
  exact sLoad1 1 (.slice ak aG.length al) S (wN d) d d d d d d (lb d) fun a S=>leafL ⟨d,S⟩
 refine ⟨_,[(91,.slice ak aG.length al),(99,.slice bo ([w64 (az + aV)]:List Int).length bp)],d,(srcs_of [some 2,some 0] d d d),fun G a w S=>?_⟩
 refine sApp (r:=(rI .i64)) (T:=3) (xs:=aG) (ys:=([w64 (az + aV)]:List Int)) (v:=.slice ak aG.length al) (u:=.slice bo ([w64 (az + aV)]:List Int).length bp) 6 (iv 0) 8 S (wN d) d Tryd.underlying28 d d (by decide) d d d (src_R (T:=3) 0 S.mem d) cm d (lb d) fun a w aT aU S=>leafL ⟨d,_,_,.inl ⟨100,(.slice aT bn.length aU),[(11,101,.pointer (some ⟨ah,1,none⟩))],d,S,hz_of d,?_⟩⟩
 refine node_by (A:=anc_piece_Read_1) 13 (by kernel_rfl) (by kernel_rfl) (by kernel_rfl) (by kernel_rfl) (by kernel_rfl) [11,10,9,0,1,2,3,4,5,6,7,8] (by kernel_rfl) (by decide) (by decide) (fD 10 (fD 10 (fD 10 (fD 10 (fD 10 (fD 10 (fD 10 (fD 10 (fD 10 (fY (fY (fF ?_ (fN ?_ (trivial)))))))))))))) [] (fun q hq=>by cases hq) (fun hY=>absurd (hY 12 (by decide)) (by decide))
 ·refine fJ [(6,_)] 0 [none] fun G a w S=>?_
  exact sField (b:=ah) (off:=0) 1 1 S (wN d) d d d d d (lb d) fun a S=>leafL ⟨d,S⟩
 refine ⟨_,[(100,.slice aT bn.length aU),(101,.pointer (some ⟨ah,1,none⟩))],d,(srcs_of [some 1,some 0] d d d),fun G a w S=>?_⟩
 refine sStore (p:=ah) (off:=1) (T:=30) (vs:=[.slice aM b1.length aO,.slice ak aG.length al]) (v:=.slice aT bn.length aU) 2 [.slice aT bn.length aU] S (wN d) d d d d d d d (by simp) d fun a w S=>leafL ⟨d,_,_,.inr ⟨[],d,S,hz_of d,?_⟩⟩
 refine node_by (A:=anc_piece_Read_1) 13 (by kernel_rfl) (by kernel_rfl) (by kernel_rfl) (by kernel_rfl) (by kernel_rfl) [11,10,9,0,1,2,3,4,5,6,7,8] (by kernel_rfl) (by decide) (by decide) (fD 12 (fD 12 (fD 12 (fD 12 (fD 12 (fD 12 (fD 12 (fD 12 (fD 12 (fY (fY (fD 12 (fY (trivial)))))))))))))) [(2,.pointer (some ⟨b6,0,none⟩)),(4,.pointer (some ⟨b7,0,none⟩)),(6,.pointer (some ⟨ah,0,none⟩)),(45,.slice ar p0.Rows.length au),(46,iv (p0.Rows.length:Int)),(47,iv aL)] (fin_of [none,none,none,none,none,none] d (by kernel_rfl) (by kernel_rfl)) (fun _ a w S=>?_)
 refine leafB (leafT (cG _ _ ?_))
 refine sRegion (sBin _ S (wN d) d d d (bAdd _ _ _ _ aL 1) d (lb d) fun a S=>sM S fun a S=>?_)
 exact lT (⟨(w64 (aL + 1),b1,bn),(Option.some.inj h).symm,⟨aM,aO,aT,aU,S.fix [5,6,0,3,1] [0] (by decide) d d d⟩⟩)
def anc_raddleref36_Same_0:List (List Nat):=[[],[],[0,1],[0,1,2],[],[],[4,5],[4,5,6],[0,1,2,3,4,5,6,7]]
noncomputable def raddleref36_Same_l1 (p0:(List Int)) (p1:(List Int)):Int→Option (Int ⊕ (Bool ⊕ Unit)):=fun s0=>match s0 with
 | a2=>
  if decide (a2 < (p0.length:Int)) then
   (idxO p0 a2).bind fun a6=>
   (idxO p1 a2).bind fun a7=>
   if a6 != a7 then
    some (.inr (.inl false))
   else
    some (.inl (w64 (a2 + 1)))
  else
   some (.inr (.inr ()))
noncomputable def F_raddleref36_Same (p0:(List Int)) (p1:(List Int)):Option Bool:=
 if (p0.length:Int) != (p1.length:Int) then
  some false
 else
  Option.bind (α:=Unit ⊕ Bool) (
   (whileO (raddleref36_Same_l1 p0 p1) 0).bind fun z0=>match z0 with
    | .inl z=>
     some (.inr z)
    | .inr _=>
     some (.inl ())) fun z0=>match z0 with
   | .inl _=>
    some true
   | .inr z=>
    some z
theorem c_raddleref36_Same (E:Nat→Prop) (w0:World) (p0:(List Int)) (v0:Value) (p1:(List Int)) (v1:Value) (r:Bool) (h:F_raddleref36_Same p0 p1=some r) (S:St0 E [] w0 w0 [] [fRep (rL (rI .i64)) (v0) p0,fRep (rL (rI .i64)) (v1) p1]) :
 Calls Tryd.prog 43 #[v0,v1] w0 (Ret (X:=Unit) E [] w0 (fun _=>.bool r) (fun _=>[]) (fun _=>[])):=by
 unfold F_raddleref36_Same at h
 obtain ⟨ab,ac,_,rfl,_⟩:=S.know (i:=0) (e:=fRep (rL (rI .i64)) (v0) p0) d
 obtain ⟨ae,af,_,rfl,_⟩:=S.know (i:=1) (e:=fRep (rL (rI .i64)) (v1) p1) d
 refine sEnter (args:=[.slice ab p0.length ac,.slice ae p1.length af]) 26 Tryd.func43 d d (by simp) S (fun a S=>?_)
 refine sSeq (fun K5 aG=>sRegion (sN S fun a S=>?_))
 refine lT (aG _ _ (sSeq (fun K6 aH=>sSeq (fun K7 aI=>sRegion (sM S fun a S=>?_)))))
 refine sLen S (wN d) d Tryd.underlying28 d d (lb d) fun a S=>sM S fun a S=>?_
 refine sLen S (wN d) d Tryd.underlying28 d d (lb d) fun a S=>sBin _ S (wN d) d d d (bNe _ _ _ _ .i64 (p0.length:Int) (p1.length:Int)) d (lb d) fun a S=>lT (aI _ _ ?_)
 rcases iS h with ⟨ah,h⟩ | ⟨ah,h⟩
 ·refine sCondT S d ah (sSeq (fun K9 aJ=>sRegion (sN S fun a S=>?_)))
  refine lT (aJ _ _ ?_)
  obtain rfl:=tS h
  exact wp_ret (rThen (sRet (.bool false) S (rsl1 d (rvT (t:=4) (v:=.bool false) S d)) ⟨(),d,S.mem.sel [] [] (by decide) d d⟩))
 refine sCondF S d ah (wp_skip (leafT (aH _ _ ?_)))
 obtain ⟨aK,h,ay⟩:=bS h
 refine sCut (fun a w=>.inl ()=aK∧St [] E [] w0 26 a w [] [] []) ?_ (fun a w hI=>?_)
 rotate_left
 ·obtain ⟨rfl,S⟩:=hI
  have h:=ay
  try dsimp only at h
  refine sSeq (fun aL ai=>sRegion (sN S fun a S=>?_))
  refine lT (ai _ _ ?_)
  obtain rfl:=tS h
  exact wp_ret (sRet (.bool true) S (rsl1 d (rvT (t:=4) (v:=.bool true) S d)) ⟨(),d,S.mem.sel [] [] (by decide) d d⟩)
 refine sSeq (fun aM aj=>sRegion (sN S fun a S=>?_))
 refine lT (aj _ _ (wp_block ?_))
 obtain ⟨aO,hl,az⟩:=bS h
 refine sLoop hl (fun s0 a w=>match s0 with | a2=>St [] E [] w0 26 a w [(0,.slice ab p0.length ac),(1,.slice ae p1.length af),(5,iv a2)] [] [fRep (rL (rI .i64)) (.slice ab p0.length ac) p0,fRep (rL (rI .i64)) (.slice ae p1.length af) p1]) (S.fix [] [0,1] (by decide) d d d) ?_
 clear hl h
 intro a2 a w c0 hI h ag
 unfold raddleref36_Same_l1 at h
 dsimp only at h hI
 have S:=hI
 refine sSeq (fun aP ak=>sSeq (fun aQ al=>sRegion (sM S fun a S=>?_)))
 refine sM S fun a S=>?_
 refine sLen S (wN d) d Tryd.underlying28 d d (lb d) fun a S=>sBin _ S (wN d) d d d (bLt _ _ _ _ .i64 a2 (p0.length:Int)) d (lb d) fun a S=>lT (al _ _ ?_)
 rcases iS h with ⟨a8,h⟩ | ⟨a8,h⟩
 rotate_left
 ·refine sCondF S d a8 ?_
  obtain rfl:=tS h
  obtain rfl:=ag _ d
  have h:=az
  try dsimp only at h
  exact wp_exit (xThen (xThen (xHit (leafT (⟨Option.some.inj h,S.fix [] [] (by decide) d d d⟩)))))
 refine sCondT S d a8 (wp_skip (leafT (ak _ _ ?_)))
 refine sSeq (fun aR am=>wp_block ?_)
 refine sSeq (fun aS ao=>?_)
 obtain ⟨a6,ap,h⟩:=bS h
 obtain ⟨a7,aq,h⟩:=bS h
 obtain ⟨ar,au,S⟩:=pIdx (P:=Tryd.prog) (r:=(rI .i64)) (v:=.slice ab p0.length ac) (xs:=p0) (j:=a2) 28 3 0 S Tryd.underlying28 d d ap
 obtain ⟨aA,S⟩:=pLoad (r:=(rI .i64)) (q:=ar) (x:=a6) 0 S d
 obtain rfl:aA=iv a6:=S.mem.know (i:=1) (e:=fRep (rI .i64) (aA) a6) d
 obtain ⟨av,aw,S⟩:=pIdx (P:=Tryd.prog) (r:=(rI .i64)) (v:=.slice ae p1.length af) (xs:=p1) (j:=a2) 28 3 4 S Tryd.underlying28 d d aq
 obtain ⟨aC,S⟩:=pLoad (r:=(rI .i64)) (q:=av) (x:=a7) 0 S d
 obtain rfl:aC=iv a7:=S.mem.know (i:=1) (e:=fRep (rI .i64) (aC) a7) d
 refine sDraw (nf:=[]) (W:=[(0,17,.slice ab p0.length ac),(1,18,iv a2),(2,19,ar),(3,20,iv a6),(4,21,.slice ae p1.length af),(5,22,iv a2),(6,23,av),(7,24,iv a7),(8,25,.bool (a6 != a7))]) d S ?_
 refine node_by (A:=anc_raddleref36_Same_0) 9 (by kernel_rfl) (by kernel_rfl) (by kernel_rfl) (by kernel_rfl) (by kernel_rfl) [0,1,2,3,4,5,6,7,8] (by kernel_rfl) (by decide) (by decide) (fF ?_ (fF ?_ (fF ?_ (fF ?_ (fF ?_ (fF ?_ (fF ?_ (fF ?_ (fF ?_ (trivial)))))))))) [(0,.slice ab p0.length ac),(1,.slice ae p1.length af),(5,iv a2),(25,.bool (a6 != a7))] (fin_of [none,none,none,some 8] d (by kernel_rfl) (by kernel_rfl)) (fun _ a w S=>?_)
 ·exact fM 0 none d d d d (.inl d) d d d
 ·exact fM 1 none d d d d (.inl d) d d d
 ·refine fJ [(17,_),(18,_)] 2 [some 0,some 1] fun G a w S=>?_
  exact sIdxV S (wN d) d d d au d (lb d) fun a S=>leafL ⟨d,S⟩
 ·refine fJ [(19,_)] 3 [some 2] fun G a w S=>?_
  exact sLoadV1 (vq:=ar) 3 (iv a6) S (wN d) d d d d d (lb d) fun a S=>leafL ⟨d,S⟩
 ·exact fM 4 none d d d d (.inl d) d d d
 ·exact fM 5 none d d d d (.inl d) d d d
 ·refine fJ [(21,_),(22,_)] 6 [some 4,some 5] fun G a w S=>?_
  exact sIdxV S (wN d) d d d aw d (lb d) fun a S=>leafL ⟨d,S⟩
 ·refine fJ [(23,_)] 7 [some 6] fun G a w S=>?_
  exact sLoadV1 (vq:=av) 0 (iv a7) S (wN d) d d d d d (lb d) fun a S=>leafL ⟨d,S⟩
 ·refine fJ [(20,_),(24,_)] 8 [some 3,some 7] fun G a w S=>?_
  exact sBin _ S (wN d) d d d (bNe _ _ _ _ .i64 a6 a7) d (lb d) fun a S=>leafL ⟨d,S⟩
 refine leafT (ao _ _ ?_)
 rcases iS h with ⟨aa,h⟩ | ⟨aa,h⟩
 rotate_left
 ·refine sCondF S d aa (wp_skip (leafB (leafT (am _ _ ?_))))
  refine sRegion (sM S fun a S=>?_)
  refine sBin _ S (wN d) d d d (bAdd _ _ _ _ a2 1) d (lb d) fun a S=>sN S fun a S=>?_
  exact lT (⟨w64 (a2 + 1),(Option.some.inj h).symm,(S.fix [] [6,7] (by decide) d d d)⟩)
 refine sCondT S d aa (sSeq (fun aT ax=>sRegion (sN S fun a S=>?_)))
 refine lT (ax _ _ ?_)
 obtain rfl:=tS h
 obtain rfl:=ag _ d
 have h:=az
 try dsimp only at h
 obtain rfl:=tS h
 have h:=ay
 try dsimp only at h
 obtain rfl:=tS h
 exact wp_ret (rBlock (rThen (rThen (rBlock (rThen (sRet (.bool false) S (rsl1 d (rvT (t:=4) (v:=.bool false) S d)) ⟨(),d,S.mem.sel [] [] (by decide) d d⟩))))))
noncomputable def F_raddleref37_Same (p0:api_Piece) (p1:api_Piece):Option Bool:=
 Option.bind (α:=Bool) (
  (F_raddleref36_Same p0.Left p1.Left).bind fun a2=>
  if a2 then
   (F_raddleref36_Same p0.Right p1.Right).bind fun a6=>
   some a6
  else
   some false) fun a7=>
 some a7
theorem c_raddleref37_Same (E:Nat→Prop) (w0:World) (p0:api_Piece) (v0:Value) (p1:api_Piece) (v1:Value) (r:Bool) (h:F_raddleref37_Same p0 p1=some r) (S:St0 E [] w0 w0 [] [fRep r_api_Piece (v0) p0,fRep r_api_Piece (v1) p1]) :
 Calls Tryd.prog 19 #[v0,v1] w0 (Ret (X:=Unit) E [] w0 (fun _=>.bool r) (fun _=>[]) (fun _=>[])):=by
 unfold F_raddleref37_Same at h
 obtain ⟨u1,u2,rfl,ao,ap⟩:=S.know (i:=0) (e:=fRep r_api_Piece (v0) p0) d
 have S:=S.learn (fRep (rL (rI .i64)) u1 p0.Left) ao
 obtain ⟨ab,ac,_,rfl,_⟩:=ao
 have S:=S.learn (fRep (rL (rI .i64)) u2 p0.Right) ap
 obtain ⟨ae,af,_,rfl,_⟩:=ap
 obtain ⟨u9,av,rfl,ag,ah⟩:=S.know (i:=3) (e:=fRep r_api_Piece (v1) p1) d
 have S:=S.learn (fRep (rL (rI .i64)) u9 p1.Left) ag
 obtain ⟨a6,a7,_,rfl,_⟩:=ag
 have S:=S.learn (fRep (rL (rI .i64)) av p1.Right) ah
 obtain ⟨a8,aa,_,rfl,_⟩:=ah
 refine sEnter (args:=[.agg #[.slice ab p0.Left.length ac,.slice ae p0.Right.length af],.agg #[.slice a6 p1.Left.length a7,.slice a8 p1.Right.length aa]]) 17 Tryd.func19 d d (by simp) S (fun a S=>?_)
 refine sSeq (fun ay ak=>sRegion (sBox (v:=.agg #[.slice ab p0.Left.length ac,.slice ae p0.Right.length af]) S (wN d) d d [.slice ab p0.Left.length ac,.slice ae p0.Right.length af] d d (lb d) fun a aq w S=>sBox (v:=.agg #[.slice a6 p1.Left.length a7,.slice a8 p1.Right.length aa]) S (wN d) d d [.slice a6 p1.Left.length a7,.slice a8 p1.Right.length aa] d d (lb d) fun a ar w S=>sN S fun a S=>?_))
 refine lT (ak _ _ ?_)
 obtain ⟨aw,h,ax⟩:=bS h
 refine sCut (fun a w=>∃ ai,ai=aw∧St [] E [] w0 17 a w [(4,.bool ai)] [] []) ?_ (fun a w hI=>?_)
 rotate_left
 ·obtain ⟨ai,rfl,S⟩:=hI
  have h:=ax
  try dsimp only at h
  obtain rfl:=tS h
  exact wp_ret (sRet (.bool ai) S (rsl1 d (rvT (t:=4) (v:=.bool ai) S d)) ⟨(),d,S.mem.sel [] [] (by decide) d d⟩)
 refine sRegion (sField (b:=aq) (off:=0) 0 0 S (wN d) d d d d d (lb d) fun a S=>sLoad1 1 (.slice ab p0.Left.length ac) S (wN d) d d d d d d (lb d) fun a S=>sField (b:=ar) (off:=0) 0 0 S (wN d) d d d d d (lb d) fun a S=>sLoad1 0 (.slice a6 p1.Left.length a7) S (wN d) d d d d d d (lb d) fun a S=>?_)
 obtain ⟨au,al,h⟩:=bS h
 have S1:=S.mem
 refine sCq [.slice ab p0.Left.length ac,.slice a6 p1.Left.length a7] (.bool au) S callee43 (S1.quiet [3,1] d) (fun E1 w1 S1=>c_raddleref36_Same E1 w1 p0.Left (.slice ab p0.Left.length ac) p1.Left (.slice a6 p1.Left.length a7) au al S1) fun a w S=>?_
 refine sM S fun a S=>?_
 rcases iS h with ⟨a2,h⟩ | ⟨a2,h⟩
 rotate_left
 ·refine sSkN 5 5 true 10 S d d a2 d fun a S=>sPickF (.bool false) S (wN d) d d a2 d d (lb d) fun a S=>sN S fun a S=>?_
  exact lT (⟨false,Option.some.inj h,S.fix [] [] (by decide) d d d⟩)
 refine sField (b:=aq) (off:=0) 1 1 S (wG 5 true 10 d d d a2) d d d d d (lb d) fun a S=>sLoad1 1 (.slice ae p0.Right.length af) S (wG 5 true 10 d d d a2) d d d d d d (lb d) fun a S=>sField (b:=ar) (off:=0) 1 1 S (wG 5 true 10 d d d a2) d d d d d (lb d) fun a S=>sLoad1 0 (.slice a8 p1.Right.length aa) S (wG 5 true 10 d d d a2) d d d d d d (lb d) fun a S=>?_
 obtain ⟨aj,am,h⟩:=bS h
 have S1:=S.mem
 refine sCallQ (X:=Unit) (f:=43) (vs:=[.slice ae p0.Right.length af,.slice a8 p1.Right.length aa]) (val:=fun _=>.bool aj) S (wG 5 true 10 d d d a2) d callee43 d (S1.quiet [2,0] d) (fun E1 w1 S1=>c_raddleref36_Same E1 w1 p0.Right (.slice ae p0.Right.length af) p1.Right (.slice a8 p1.Right.length aa) aj am S1) d (lb d) fun _ a w S=>?_
 refine sPickT (.bool aj) S (wN d) d d a2 d d (lb d) fun a S=>sN S fun a S=>?_
 exact lT (⟨aj,Option.some.inj h,S.fix [] [] (by decide) d d d⟩)
noncomputable def F_internal_strconv_small (p0:Int):Option ByteArray:=
 if decide (p0 < 10) then
  (sliceS (⟨#[48,49,50,51,52,53,54,55,56,57,97,98,99,100,101,102,103,104,105,106,107,108,109,110,111,112,113,114,115,116,117,118,119,120,121,122]⟩:ByteArray) p0 (w64 (p0 + 1))).bind fun y6=>
  some y6
 else
  (sliceS (⟨#[48,48,48,49,48,50,48,51,48,52,48,53,48,54,48,55,48,56,48,57,49,48,49,49,49,50,49,51,49,52,49,53,49,54,49,55,49,56,49,57,50,48,50,49,50,50,50,51,50,52,50,53,50,54,50,55,50,56,50,57,51,48,51,49,51,50,51,51,51,52,51,53,51,54,51,55,51,56,51,57,52,48,52,49,52,50,52,51,52,52,52,53,52,54,52,55,52,56,52,57,53,48,53,49,53,50,53,51,53,52,53,53,53,54,53,55,53,56,53,57,54,48,54,49,54,50,54,51,54,52,54,53,54,54,54,55,54,56,54,57,55,48,55,49,55,50,55,51,55,52,55,53,55,54,55,55,55,56,55,57,56,48,56,49,56,50,56,51,56,52,56,53,56,54,56,55,56,56,56,57,57,48,57,49,57,50,57,51,57,52,57,53,57,54,57,55,57,56,57,57]⟩:ByteArray) (w64 (p0 * 2)) (w64 ((w64 (p0 * 2)) + 2))).bind fun y9=>
  some y9
theorem c_internal_strconv_small (E:Nat→Prop) (w0:World) (p0:Int) (r:ByteArray) (h:F_internal_strconv_small p0=some r) (S:St0 E [] w0 w0 [] []) :
 Calls Tryd.prog 82 #[iv p0] w0 (Ret (X:=Unit) E [] w0 (fun _=>.string r) (fun _=>[]) (fun _=>[])):=by
 unfold F_internal_strconv_small at h
 refine sEnter (args:=[iv p0]) 15 Tryd.func82 d d (by simp) S (fun a S=>?_)
 refine sSeq (fun K1 a7=>sRegion (sN S fun a S=>?_))
 refine lT (a7 _ _ (sSeq (fun K2 a8=>sSeq (fun K3 aa=>sRegion (sM S fun a S=>?_)))))
 refine sBin _ S (wN d) d d d (bLt _ _ _ _ .i64 p0 10) d (lb d) fun a S=>lT (aa _ _ ?_)
 rcases iS h with ⟨a2,h⟩ | ⟨a2,h⟩
 ·refine sCondT S d a2 (sSeq (fun K5 ab=>sRegion (sM S fun a S=>?_)))
  refine sM S fun a S=>?_
  refine sBin _ S (wN d) d d d (bAdd _ _ _ _ p0 1) d (lb d) fun a S=>?_
  obtain ⟨y6,ac,h⟩:=bS h
  refine sSliceS (v:=(⟨#[48,49,50,51,52,53,54,55,56,57,97,98,99,100,101,102,103,104,105,106,107,108,109,110,111,112,113,114,115,116,117,118,119,120,121,122]⟩:ByteArray)) (u:=y6) (vlo:=(some (.int .i64 p0))) (vhi:=(some (.int .i64 (w64 (p0 + 1))))) (lo':=p0) (hi':=w64 (p0 + 1)) S (wN d) d Tryd.underlying9 d d d (.inl d) (.inl d) ac d (lb d) fun a S=>sN S fun a S=>?_
  refine lT (ab _ _ ?_)
  obtain rfl:=tS h
  exact wp_ret (rThen (sRet (.string y6) S (rsl1 d (rvT (t:=2) (v:=.string y6) S d)) ⟨(),d,S.mem.sel [] [] (by decide) d d⟩))
 refine sCondF S d a2 (wp_skip (leafT (a8 _ _ ?_)))
 refine sSeq (fun K8 ae=>sRegion (sM S fun a S=>?_))
 refine sBin _ S (wN d) d d d (bMul _ _ _ _ p0 2) d (lb d) fun a S=>sM S fun a S=>?_
 refine sBin _ S (wN d) d d d (bMul _ _ _ _ p0 2) d (lb d) fun a S=>sBin _ S (wN d) d d d (bAdd _ _ _ _ (w64 (p0 * 2)) 2) d (lb d) fun a S=>?_
 obtain ⟨y9,a6,h⟩:=bS h
 refine sSliceS (v:=(⟨#[48,48,48,49,48,50,48,51,48,52,48,53,48,54,48,55,48,56,48,57,49,48,49,49,49,50,49,51,49,52,49,53,49,54,49,55,49,56,49,57,50,48,50,49,50,50,50,51,50,52,50,53,50,54,50,55,50,56,50,57,51,48,51,49,51,50,51,51,51,52,51,53,51,54,51,55,51,56,51,57,52,48,52,49,52,50,52,51,52,52,52,53,52,54,52,55,52,56,52,57,53,48,53,49,53,50,53,51,53,52,53,53,53,54,53,55,53,56,53,57,54,48,54,49,54,50,54,51,54,52,54,53,54,54,54,55,54,56,54,57,55,48,55,49,55,50,55,51,55,52,55,53,55,54,55,55,55,56,55,57,56,48,56,49,56,50,56,51,56,52,56,53,56,54,56,55,56,56,56,57,57,48,57,49,57,50,57,51,57,52,57,53,57,54,57,55,57,56,57,57]⟩:ByteArray)) (u:=y9) (vlo:=(some (.int .i64 (w64 (p0 * 2))))) (vhi:=(some (.int .i64 (w64 ((w64 (p0 * 2)) + 2))))) (lo':=w64 (p0 * 2)) (hi':=w64 ((w64 (p0 * 2)) + 2)) S (wN d) d Tryd.underlying9 d d d (.inl d) (.inl d) a6 d (lb d) fun a S=>sN S fun a S=>?_
 refine lT (ae _ _ ?_)
 obtain rfl:=tS h
 exact wp_ret (sRet (.string y9) S (rsl1 d (rvT (t:=2) (v:=.string y9) S d)) ⟨(),d,S.mem.sel [] [] (by decide) d d⟩)
noncomputable def F_internal_strconv_log10Pow2 (p0:Int):Option Int:=
 (shrI .i64 (w64 (p0 * 78913)) 18).bind fun z3=>
 some z3
theorem c_internal_strconv_log10Pow2 (E:Nat→Prop) (w0:World) (p0:Int) (r:Int) (h:F_internal_strconv_log10Pow2 p0=some r) (S:St0 E [] w0 w0 [] []) :
 Calls Tryd.prog 88 #[iv p0] w0 (Ret (X:=Unit) E [] w0 (fun _=>.int .i64 r) (fun _=>[]) (fun _=>[])):=by
 unfold F_internal_strconv_log10Pow2 at h
 refine sEnter (args:=[iv p0]) 6 Tryd.func88 d d (by simp) S (fun a S=>?_)
 refine sSeq (fun K1 a2=>sRegion (sN S fun a S=>?_))
 refine lT (a2 _ _ (sSeq (fun K2 a6=>sRegion (sM S fun a S=>?_))))
 refine sBin _ S (wN d) d d d (bMul _ _ _ _ p0 78913) d (lb d) fun a S=>?_
 obtain ⟨z3,a7,h⟩:=bS h
 refine sBin _ S (wN d) d d d (bShrK _ _ _ _ (k:=.i64) (k':=.u64) (x:=w64 (p0 * 78913)) (y:=18) a7) d (lb d) fun a S=>sN S fun a S=>?_
 refine lT (a6 _ _ ?_)
 obtain rfl:=tS h
 exact wp_ret (sRet (iv z3) S (rsl1 d (rvT (t:=2) (v:=iv z3) S d)) ⟨(),d,S.mem.sel [] [] (by decide) d d⟩)
noncomputable def F_math_bits_Len64 (p0:Int):Option Int:=
 Option.bind (α:=(Int × Int)) (
  if decide (4294967296 ≤ p0) then
   (shrI .u64 p0 32).bind fun z9=>
   some (z9,32)
  else
   some (p0,0)) fun (o2,o3)=>
 Option.bind (α:=(Int × Int)) (
  if decide (65536 ≤ o2) then
   (shrI .u64 o2 16).bind fun a7=>
   some (a7,w64 (o3 + 16))
  else
   some (o2,o3)) fun (a2,a6)=>
 Option.bind (α:=(Int × Int)) (
  if decide (256 ≤ a2) then
   (shrI .u64 a2 8).bind fun a8=>
   some (a8,w64 (a6 + 8))
  else
   some (a2,a6)) fun (aa,ab)=>
 (idxS (⟨#[0,1,2,2,3,3,3,3,4,4,4,4,4,4,4,4,5,5,5,5,5,5,5,5,5,5,5,5,5,5,5,5,6,6,6,6,6,6,6,6,6,6,6,6,6,6,6,6,6,6,6,6,6,6,6,6,6,6,6,6,6,6,6,6,7,7,7,7,7,7,7,7,7,7,7,7,7,7,7,7,7,7,7,7,7,7,7,7,7,7,7,7,7,7,7,7,7,7,7,7,7,7,7,7,7,7,7,7,7,7,7,7,7,7,7,7,7,7,7,7,7,7,7,7,7,7,7,7,8,8,8,8,8,8,8,8,8,8,8,8,8,8,8,8,8,8,8,8,8,8,8,8,8,8,8,8,8,8,8,8,8,8,8,8,8,8,8,8,8,8,8,8,8,8,8,8,8,8,8,8,8,8,8,8,8,8,8,8,8,8,8,8,8,8,8,8,8,8,8,8,8,8,8,8,8,8,8,8,8,8,8,8,8,8,8,8,8,8,8,8,8,8,8,8,8,8,8,8,8,8,8,8,8,8,8,8,8,8,8,8,8,8,8,8,8,8,8,8,8,8,8,8,8,8,8,8]⟩:ByteArray) (IntKind.u8.wrap aa)).bind fun ac=>
 some (w64 (ab + (IntKind.i64.wrap ac)))
theorem c_math_bits_Len64 (E:Nat→Prop) (w0:World) (p0:Int) (r:Int) (h:F_math_bits_Len64 p0=some r) (S:St0 E [] w0 w0 [] []) :
 Calls Tryd.prog 89 #[.int .u64 p0] w0 (Ret (X:=Unit) E [] w0 (fun _=>.int .i64 r) (fun _=>[]) (fun _=>[])):=by
 unfold F_math_bits_Len64 at h
 refine sEnter (args:=[.int .u64 p0]) 25 Tryd.func89 d d (by simp) S (fun a S=>?_)
 refine sSeq (fun K1 ap=>sRegion (sN S fun a S=>?_))
 refine lT (ap _ _ ?_)
 obtain ⟨t4,h,g5⟩:=bS h
 refine sCut (fun a w=>∃ o2,∃ o3,(o2,o3)=t4∧St [] E [] w0 25 a w [(0,.int .u64 o2),(2,iv o3)] [] []) ?_ (fun a w hI=>?_)
 ·refine sSeq (fun K6 aq=>sRegion (sM S fun a S=>?_))
  refine sBin _ S (wN d) d d d (bGe _ _ _ _ .u64 p0 4294967296) d (lb d) fun a S=>lT (aq _ _ ?_)
  rcases iS h with ⟨ae,h⟩ | ⟨ae,h⟩
  rotate_left
  ·refine sCondF S d ae ?_
   exact wp_skip (leafT (⟨p0,0,Option.some.inj h,S.fix [] [] (by decide) d d d⟩))
  refine sCondT S d ae (sSeq (fun K8 ar=>sRegion (sM S fun a S=>?_)))
  obtain ⟨z9,af,h⟩:=bS h
  refine sBin _ S (wN d) d d d (bShrK _ _ _ _ (k:=.u64) (k':=.u64) (x:=p0) (y:=32) af) d (lb d) fun a S=>sN S fun a S=>?_
  refine lT (ar _ _ (sRegion (sN S fun a S=>?_)))
  exact lT (⟨z9,32,Option.some.inj h,S.fix [] [] (by decide) d d d⟩)
 obtain ⟨o2,o3,rfl,S⟩:=hI
 have h:=g5
 try dsimp only at h
 obtain ⟨au,h,av⟩:=bS h
 refine sCut (fun a w=>∃ a7,∃ a8,(a7,a8)=au∧St [] E [] w0 25 a w [(0,.int .u64 a7),(2,iv a8)] [] []) ?_ (fun a w hI=>?_)
 ·refine sSeq (fun aA ag=>sRegion (sM S fun a S=>?_))
  refine sBin _ S (wN d) d d d (bGe _ _ _ _ .u64 o2 65536) d (lb d) fun a S=>lT (ag _ _ ?_)
  rcases iS h with ⟨a2,h⟩ | ⟨a2,h⟩
  rotate_left
  ·refine sCondF S d a2 ?_
   exact wp_skip (leafT (⟨o2,o3,Option.some.inj h,S.fix [] [] (by decide) d d d⟩))
  refine sCondT S d a2 (sSeq (fun aC ah=>sRegion (sM S fun a S=>?_)))
  obtain ⟨aw,ai,h⟩:=bS h
  refine sBin _ S (wN d) d d d (bShrK _ _ _ _ (k:=.u64) (k':=.u64) (x:=o2) (y:=16) ai) d (lb d) fun a S=>sN S fun a S=>?_
  refine lT (ah _ _ (sRegion (sM S fun a S=>?_)))
  refine sBin _ S (wN d) d d d (bAdd _ _ _ _ o3 16) d (lb d) fun a S=>sN S fun a S=>?_
  exact lT (⟨aw,w64 (o3 + 16),Option.some.inj h,S.fix [] [] (by decide) d d d⟩)
 obtain ⟨a7,a8,rfl,S⟩:=hI
 have h:=av
 try dsimp only at h
 obtain ⟨ax,h,ay⟩:=bS h
 refine sCut (fun a w=>∃ ab,∃ aa,(ab,aa)=ax∧St [] E [] w0 25 a w [(0,.int .u64 ab),(2,iv aa)] [] []) ?_ (fun a w hI=>?_)
 ·refine sSeq (fun aG aj=>sRegion (sM S fun a S=>?_))
  refine sBin _ S (wN d) d d d (bGe _ _ _ _ .u64 a7 256) d (lb d) fun a S=>lT (aj _ _ ?_)
  rcases iS h with ⟨a6,h⟩ | ⟨a6,h⟩
  rotate_left
  ·refine sCondF S d a6 ?_
   exact wp_skip (leafT (⟨a7,a8,Option.some.inj h,S.fix [] [] (by decide) d d d⟩))
  refine sCondT S d a6 (sSeq (fun aH ak=>sRegion (sM S fun a S=>?_)))
  obtain ⟨az,al,h⟩:=bS h
  refine sBin _ S (wN d) d d d (bShrK _ _ _ _ (k:=.u64) (k':=.u64) (x:=a7) (y:=8) al) d (lb d) fun a S=>sN S fun a S=>?_
  refine lT (ak _ _ (sRegion (sM S fun a S=>?_)))
  refine sBin _ S (wN d) d d d (bAdd _ _ _ _ a8 8) d (lb d) fun a S=>sN S fun a S=>?_
  exact lT (⟨az,w64 (a8 + 8),Option.some.inj h,S.fix [] [] (by decide) d d d⟩)
 obtain ⟨ab,aa,rfl,S⟩:=hI
 have h:=ay
 try dsimp only at h
 refine sSeq (fun aI am=>sRegion (sM S fun a S=>?_))
 refine sM S fun a S=>?_
 refine sConv (k:=.u64) (k2:=.u8) (b:=ab) S (wN d) d Tryd.underlying139 Tryd.underlying5 d d (lb d) fun a S=>?_
 obtain ⟨ac,ao,h⟩:=bS h
 refine sIndexS (v:=(⟨#[0,1,2,2,3,3,3,3,4,4,4,4,4,4,4,4,5,5,5,5,5,5,5,5,5,5,5,5,5,5,5,5,6,6,6,6,6,6,6,6,6,6,6,6,6,6,6,6,6,6,6,6,6,6,6,6,6,6,6,6,6,6,6,6,7,7,7,7,7,7,7,7,7,7,7,7,7,7,7,7,7,7,7,7,7,7,7,7,7,7,7,7,7,7,7,7,7,7,7,7,7,7,7,7,7,7,7,7,7,7,7,7,7,7,7,7,7,7,7,7,7,7,7,7,7,7,7,7,8,8,8,8,8,8,8,8,8,8,8,8,8,8,8,8,8,8,8,8,8,8,8,8,8,8,8,8,8,8,8,8,8,8,8,8,8,8,8,8,8,8,8,8,8,8,8,8,8,8,8,8,8,8,8,8,8,8,8,8,8,8,8,8,8,8,8,8,8,8,8,8,8,8,8,8,8,8,8,8,8,8,8,8,8,8,8,8,8,8,8,8,8,8,8,8,8,8,8,8,8,8,8,8,8,8,8,8,8,8,8,8,8,8,8,8,8,8,8,8,8,8,8,8,8,8,8,8]⟩:ByteArray)) (j:=IntKind.u8.wrap ab) (k:=.u8) S (wN d) d Tryd.underlying9 d d ao d (lb d) fun a S=>sConv (k:=.u8) (k2:=.i64) (b:=ac) S (wN d) d Tryd.underlying5 Tryd.underlying3 d d (lb d) fun a S=>sBin _ S (wN d) d d d (bAdd _ _ _ _ aa (IntKind.i64.wrap ac)) d (lb d) fun a S=>sN S fun a S=>?_
 refine lT (am _ _ ?_)
 obtain rfl:=tS h
 exact wp_ret (sRet (iv (w64 (aa + (IntKind.i64.wrap ac)))) S (rsl1 d (rvT (t:=2) (v:=iv (w64 (aa + (IntKind.i64.wrap ac)))) S d)) ⟨(),d,S.mem.sel [] [] (by decide) d d⟩)
end Go.Proofs.YtmedbnjhgkcndaaDoor
