/- PieceNames: walks, tables, laws. -/
import Derived.Test.YtmedbnjhgkcndaaDoorProg
import Derived.Test.YtmedbnjhgkcndaaDoorRows
import Derived.Test.YtmedbnjhgkcndaaDoorCards
import Derived.Test.YtmedbnjhgkcndaaDoorTie
import Derived.Test.YtmedbnjhgkcndaaDoorMPieceNames3
set_option linter.unusedVariables false
set_option linter.unusedSimpArgs false
set_option maxHeartbeats 4000000
set_option maxRecDepth 100000
namespace Go.Proofs.YtmedbnjhgkcndaaDoor
open Go.RowKit
noncomputable def F_internal_strconv_numDigits (p0:Int):Option Int:=
 (F_math_bits_Len64 p0).bind fun r3=>
 (F_internal_strconv_log10Pow2 r3).bind fun r5=>
 none
theorem c_internal_strconv_numDigits (E:Nat→Prop) (w0:World) (p0:Int) (r:Int) (h:F_internal_strconv_numDigits p0=some r) (S:St0 E [] w0 w0 [] []) :
 Calls Tryd.prog 83 #[.int .u64 p0] w0 (Ret (X:=Unit) E [] w0 (fun _=>.int .i64 r) (fun _=>[]) (fun _=>[])):=by
 unfold F_internal_strconv_numDigits at h
 refine sEnter (args:=[.int .u64 p0]) 15 Tryd.func83 d d (by simp) S (fun a S=>?_)
 refine sSeq (fun K1 a2=>sRegion (sN S fun a S=>?_))
 refine lT (a2 _ _ (sSeq (fun K2 a6=>sRegion (sM S fun a S=>?_))))
 obtain ⟨r3,a7,h⟩:=bS h
 have S1:=S.mem
 refine sCq [.int .u64 p0] (iv r3) S callee89 (S1.quiet [] d) (fun E1 w1 S1=>c_math_bits_Len64 E1 w1 p0 r3 a7 S1) fun a w S=>?_
 obtain ⟨r5,a8,h⟩:=bS h
 have S1:=S.mem
 refine sCq [iv r3] (iv r5) S callee88 (S1.quiet [] d) (fun E1 w1 S1=>c_internal_strconv_log10Pow2 E1 w1 r3 r5 a8 S1) fun a w S=>?_
 refine sN S fun a S=>?_
 refine lT (a6 _ _ (sSeq (fun K7 aa=>sRegion (sM S fun a S=>?_))))
 refine sM S fun a S=>?_
 refine sM S fun a S=>?_
 cases h
noncomputable def F_internal_strconv_FormatInt (p0:Int) (p1:Int):Option ByteArray:=
 if p1 == 10 then
  Option.bind (α:=Bool) (
   if decide (0 ≤ p0) then
    some (decide (p0 < 100))
   else
    some false) fun o6=>
  if o6 then
   (F_internal_strconv_small p0).bind fun a2=>
   some a2
  else
   Option.bind (α:=Int) (
    if decide (p0 < 0) then
     some (IntKind.u64.wrap (0 - (IntKind.u64.wrap p0)))
    else
     some (IntKind.u64.wrap p0)) fun a6=>
   (F_internal_strconv_numDigits a6).bind fun a7=>
   none
 else
  none
theorem c_internal_strconv_FormatInt (E:Nat→Prop) (w0:World) (p0:Int) (p1:Int) (r:ByteArray) (h:F_internal_strconv_FormatInt p0 p1=some r) (S:St0 E [] w0 w0 [] []) :
 Calls Tryd.prog 79 #[iv p0,iv p1] w0 (Ret (X:=Unit) E [] w0 (fun _=>.string r) (fun _=>[]) (fun _=>[])):=by
 unfold F_internal_strconv_FormatInt at h
 refine sEnter (args:=[iv p0,iv p1]) 54 Tryd.func79 d d (by simp) S (fun a S=>?_)
 refine sSeq (fun K1 am=>sRegion (sN S fun a S=>?_))
 refine lT (am _ _ (sSeq (fun K2 ao=>sSeq (fun K3 ap=>sRegion (sM S fun a S=>?_)))))
 refine sBin _ S (wN d) d d d (bEq _ _ _ _ .i64 p1 10) d (lb d) fun a S=>lT (ap _ _ ?_)
 rcases iS h with ⟨ab,h⟩ | ⟨ab,h⟩
 rotate_left
 ·refine sCondF S d ab (wp_skip (leafT (ao _ _ ?_)))
  refine sSeq (fun ax aq=>sRegion (sM S fun a S=>?_))
  refine sConv (k:=.i64) (k2:=.u64) (b:=p0) S (wN d) d Tryd.underlying2 Tryd.underlying139 d d (lb d) fun a S=>sM S fun a S=>?_
  refine sM S fun a S=>?_
  refine sBin _ S (wN d) d d d (bLt _ _ _ _ .i64 p0 0) d (lb d) fun a S=>?_
  cases h
 refine sCondT S d ab (sSeq (fun K5 ar=>?_))
 obtain ⟨t7,h,g8⟩:=bS h
 refine sCut (fun a w=>∃ o6,o6=t7∧St [] E [] w0 54 a w [(0,iv p0),(17,.bool o6)] [] []) ?_ (fun a w hI=>?_)
 ·refine sRegion (sM S fun a S=>?_)
  refine sBin _ S (wN d) d d d (bLe _ _ _ _ .i64 0 p0) d (lb d) fun a S=>sM S fun a S=>?_
  rcases iS h with ⟨a7,h⟩ | ⟨a7,h⟩
  rotate_left
  ·refine sSkN 2 2 true 14 S d d a7 d fun a S=>sPickF (.bool false) S (wN d) d d a7 d d (lb d) fun a S=>?_
   exact lT (⟨false,Option.some.inj h,S.fix [] [] (by decide) d d d⟩)
  refine sMove (iv p0) S (wG 2 true 14 d d d a7) (.inl d) d d (lb d) fun a S=>sBin _ S (wG 2 true 14 d d d a7) d d d (bLt _ _ _ _ .i64 p0 100) d (lb d) fun a S=>sPickT (.bool (decide (p0 < 100))) S (wN d) d d a7 d d (lb d) fun a S=>?_
  exact lT (⟨decide (p0 < 100),Option.some.inj h,S.fix [] [] (by decide) d d d⟩)
 obtain ⟨o6,rfl,S⟩:=hI
 have h:=g8
 try dsimp only at h
 rcases iS h with ⟨a2,h⟩ | ⟨a2,h⟩
 ·refine sCondT S d a2 (sSeq (fun ay ac=>sRegion (sM S fun a S=>?_)))
  obtain ⟨aa,ae,h⟩:=bS h
  have S1:=S.mem
  refine sCq [iv p0] (.string aa) S callee82 (S1.quiet [] d) (fun E1 w1 S1=>c_internal_strconv_small E1 w1 p0 aa ae S1) fun a w S=>?_
  refine sN S fun a S=>?_
  refine lT (ac _ _ ?_)
  obtain rfl:=tS h
  exact wp_ret (rThen (rThen (sRet (.string aa) S (rsl1 d (rvT (t:=4) (v:=.string aa) S d)) ⟨(),d,S.mem.sel [] [] (by decide) d d⟩)))
 refine sCondF S d a2 (wp_skip (leafT (ar _ _ ?_)))
 refine sSeq (fun az af=>sRegion (sAlloc (gv_A24_Int (0,0,0,0,0,0,0,0,0,0,0,0,0,0,0,0,0,0,0,0,0,0,0,0)) S (wN d) d d (gl_A24_Int (0,0,0,0,0,0,0,0,0,0,0,0,0,0,0,0,0,0,0,0,0,0,0,0)) d d (lb d) fun a al w S=>lT (af _ _ (sSeq (fun aA ag=>sRegion (sM S fun a S=>?_))))))
 refine sConv (k:=.i64) (k2:=.u64) (b:=p0) S (wN d) d Tryd.underlying2 Tryd.underlying139 d d (lb d) fun a S=>sN S fun a S=>?_
 refine lT (ag _ _ ?_)
 obtain ⟨au,h,av⟩:=bS h
 refine sCut (fun a w=>∃ a8,a8=au∧St [] E [] w0 54 a w [(0,iv p0),(5,.pointer (some ⟨al,0,none⟩)),(6,.int .u64 a8)] [eBox al 138 (gl_A24_Int (0,0,0,0,0,0,0,0,0,0,0,0,0,0,0,0,0,0,0,0,0,0,0,0))] []) ?_ (fun a w hI=>?_)
 rotate_left
 ·obtain ⟨a8,rfl,S⟩:=hI
  have h:=av
  try dsimp only at h
  refine sSeq (fun aC ah=>sRegion (sM S fun a S=>?_))
  obtain ⟨ai,aj,h⟩:=bS h
  have S1:=S.mem
  refine sCq [.int .u64 a8] (iv ai) S callee83 (S1.quiet [] d) (fun E1 w1 S1=>c_internal_strconv_numDigits E1 w1 a8 ai aj S1) fun a w S=>?_
  refine sN S fun a S=>?_
  refine lT (ah _ _ (sSeq (fun aG aw=>sRegion (sM S fun a S=>?_))))
  refine sBin _ S (wN d) d d d (bAdd _ _ _ _ 1 ai) d (lb d) fun a S=>?_
  cases h
 refine sSeq (fun aH ak=>sRegion (sM S fun a S=>?_))
 refine sBin _ S (wN d) d d d (bLt _ _ _ _ .i64 p0 0) d (lb d) fun a S=>lT (ak _ _ ?_)
 rcases iS h with ⟨a6,h⟩ | ⟨a6,h⟩
 rotate_left
 ·refine sCondF S d a6 ?_
  exact wp_skip (leafT (⟨IntKind.u64.wrap p0,Option.some.inj h,S.fix [0] [] (by decide) d d d⟩))
 refine sCondT S d a6 (sRegion (sM S fun a S=>?_))
 refine sNegK (k:=.u64) (b:=IntKind.u64.wrap p0) S (wN d) d d d (lb d) fun a S=>?_
 refine sN S fun a S=>?_
 exact lT (⟨IntKind.u64.wrap (0 - (IntKind.u64.wrap p0)),Option.some.inj h,S.fix [0] [] (by decide) d d d⟩)
noncomputable def F_internal_strconv_Itoa (p0:Int):Option ByteArray:=
 (F_internal_strconv_FormatInt p0 10).bind fun r3=>
 some r3
theorem c_internal_strconv_Itoa (E:Nat→Prop) (w0:World) (p0:Int) (r:ByteArray) (h:F_internal_strconv_Itoa p0=some r) (S:St0 E [] w0 w0 [] []) :
 Calls Tryd.prog 71 #[iv p0] w0 (Ret (X:=Unit) E [] w0 (fun _=>.string r) (fun _=>[]) (fun _=>[])):=by
 unfold F_internal_strconv_Itoa at h
 refine sEnter (args:=[iv p0]) 5 Tryd.func71 d d (by simp) S (fun a S=>?_)
 refine sSeq (fun K1 a2=>sRegion (sN S fun a S=>?_))
 refine lT (a2 _ _ (sSeq (fun K2 a6=>sRegion (sM S fun a S=>?_))))
 obtain ⟨r3,a7,h⟩:=bS h
 have S1:=S.mem
 refine sCq [iv p0,iv 10] (.string r3) S callee79 (S1.quiet [] d) (fun E1 w1 S1=>c_internal_strconv_FormatInt E1 w1 p0 10 r3 a7 S1) fun a w S=>?_
 refine sN S fun a S=>?_
 refine lT (a6 _ _ ?_)
 obtain rfl:=tS h
 exact wp_ret (sRet (.string r3) S (rsl1 d (rvT (t:=2) (v:=.string r3) S d)) ⟨(),d,S.mem.sel [] [] (by decide) d d⟩)
noncomputable def F_strconv_Itoa (p0:Int):Option ByteArray:=
 (F_internal_strconv_Itoa p0).bind fun r3=>
 some r3
theorem c_strconv_Itoa (E:Nat→Prop) (w0:World) (p0:Int) (r:ByteArray) (h:F_strconv_Itoa p0=some r) (S:St0 E [] w0 w0 [] []) :
 Calls Tryd.prog 61 #[iv p0] w0 (Ret (X:=Unit) E [] w0 (fun _=>.string r) (fun _=>[]) (fun _=>[])):=by
 unfold F_strconv_Itoa at h
 refine sEnter (args:=[iv p0]) 5 Tryd.func61 d d (by simp) S (fun a S=>?_)
 refine sSeq (fun K1 a2=>sRegion (sN S fun a S=>?_))
 refine lT (a2 _ _ (sSeq (fun K2 a6=>sRegion (sM S fun a S=>?_))))
 obtain ⟨r3,a7,h⟩:=bS h
 have S1:=S.mem
 refine sCq [iv p0] (.string r3) S callee71 (S1.quiet [] d) (fun E1 w1 S1=>c_internal_strconv_Itoa E1 w1 p0 r3 a7 S1) fun a w S=>?_
 refine sN S fun a S=>?_
 refine lT (a6 _ _ ?_)
 obtain rfl:=tS h
 exact wp_ret (sRet (.string r3) S (rsl1 d (rvT (t:=2) (v:=.string r3) S d)) ⟨(),d,S.mem.sel [] [] (by decide) d d⟩)
noncomputable def F_stitch_word (p0:api_Stitch):Option ByteArray:=
 if p0.Kind == 2 then
  some (⟨#[121,111]⟩:ByteArray)
 else
  if p0.Kind == 9 then
   (F_strconv_Itoa p0.A).bind fun a8=>
   (addS (⟨#[111,110]⟩:ByteArray) a8).bind fun aa=>
   some aa
  else
   (F_stitch_forms p0.Kind).bind fun a2=>
   Option.bind (α:=ByteArray) (
    if p0.Purl then
     some (⟨#[112]⟩:ByteArray)
    else
     some (⟨#[107]⟩:ByteArray)) fun ab=>
   (addS ab a2.1.letter).bind fun a6=>
   Option.bind (α:=ByteArray) (
    if decide (0 < a2.1.a.2) then
     (F_strconv_Itoa p0.A).bind fun ac=>
     (addS a6 ac).bind fun ae=>
     some ae
    else
     some a6) fun a7=>
   Option.bind (α:=ByteArray) (
    if decide (0 < a2.1.b.2) then
     (F_strconv_Itoa p0.B).bind fun af=>
     (addS (⟨#[47]⟩:ByteArray) af).bind fun ag=>
     (addS a7 ag).bind fun ah=>
     some ah
    else
     some a7) fun ai=>
   some ai
theorem c_stitch_word (E:Nat→Prop) (w0:World) (p0:api_Stitch) (v0:Value) (r:ByteArray) (h:F_stitch_word p0=some r) (S:St0 E [] w0 w0 [] [fRep r_api_Stitch (v0) p0]) :
 Calls Tryd.prog 60 #[v0] w0 (Ret (X:=Unit) E [] w0 (fun _=>.string r) (fun _=>[]) (fun _=>[])):=by
 unfold F_stitch_word at h
 obtain rfl:v0=.agg #[.int .u8 p0.Kind,.bool p0.Purl,iv p0.A,iv p0.B]:=S.know (i:=0) (e:=fRep r_api_Stitch (v0) p0) d
 refine sEnter (args:=[.agg #[.int .u8 p0.Kind,.bool p0.Purl,iv p0.A,iv p0.B]]) 48 Tryd.func60 d d (by simp) S (fun a S=>?_)
 refine sSeq (fun K1 aL=>sRegion (sBox (v:=.agg #[.int .u8 p0.Kind,.bool p0.Purl,iv p0.A,iv p0.B]) S (wN d) d d [.int .u8 p0.Kind,.bool p0.Purl,iv p0.A,iv p0.B] d d (lb d) fun a b2 w S=>sN S fun a S=>?_))
 refine lT (aL _ _ (sSeq (fun K3 aM=>sSeq (fun K4 aO=>sRegion (sField (b:=b2) (off:=0) 0 0 S (wN d) d d d d d (lb d) fun a S=>sLoad1 0 (.int .u8 p0.Kind) S (wN d) d d d d d d (lb d) fun a S=>lT (aO _ _ (wp_block ?_)))))))
 refine sSeq (fun K5 aP=>sRegion (sBin _ S (wN d) d d d (bEq _ _ _ _ .u8 p0.Kind 2) d (lb d) fun a S=>sN S fun a S=>?_))
 refine lT (aP _ _ ?_)
 rcases iS h with ⟨af,h⟩ | ⟨af,h⟩
 ·refine sCondT S d af (sSeq (fun K7 aQ=>sRegion (sN S fun a S=>?_)))
  refine lT (aQ _ _ ?_)
  obtain rfl:=tS h
  exact wp_ret (rBlock (rThen (sRet (.string (⟨#[121,111]⟩:ByteArray)) S (rsl1 d (rvT (t:=2) (v:=.string (⟨#[121,111]⟩:ByteArray)) S d)) ⟨(),d,S.mem.sel [] [] (by decide) d d⟩)))
 refine sCondF S d af (sSeq (fun K8 aR=>sRegion (sBin _ S (wN d) d d d (bEq _ _ _ _ .u8 p0.Kind 9) d (lb d) fun a S=>sN S fun a S=>?_)))
 refine lT (aR _ _ ?_)
 rcases iS h with ⟨ag,h⟩ | ⟨ag,h⟩
 ·refine sCondT S d ag (sSeq (fun b8 ah=>sRegion (sField (b:=b2) (off:=0) 2 2 S (wN d) d d d d d (lb d) fun a S=>sLoad1 0 (iv p0.A) S (wN d) d d d d d d (lb d) fun a S=>?_)))
  obtain ⟨ai,aj,h⟩:=bS h
  have S1:=S.mem
  refine sCq [iv p0.A] (.string ai) S callee61 (S1.quiet [] d) (fun E1 w1 S1=>c_strconv_Itoa E1 w1 p0.A ai aj S1) fun a w S=>?_
  obtain ⟨aI,ak,h⟩:=bS h
  refine sBin _ S (wN d) d d d (bAddS _ _ _ _ (x:=(⟨#[111,110]⟩:ByteArray)) (y:=ai) ak) d (lb d) fun a S=>sN S fun a S=>?_
  refine lT (ah _ _ ?_)
  obtain rfl:=tS h
  exact wp_ret (rBlock (rThen (sRet (.string aI) S (rsl1 d (rvT (t:=2) (v:=.string aI) S d)) ⟨(),d,S.mem.sel [] [] (by decide) d d⟩)))
 refine sCondF S d ag (wp_skip (leafB (leafT (aM _ _ ?_))))
 refine sSeq (fun ba al=>sRegion (sField (b:=b2) (off:=0) 0 0 S (wN d) d d d d d (lb d) fun a S=>sLoad1 0 (.int .u8 p0.Kind) S (wN d) d d d d d d (lb d) fun a S=>?_))
 obtain ⟨a2,am,h⟩:=bS h
 refine sCall (X:=Value) (f:=52) (vs:=[.int .u8 p0.Kind]) (val:=c_stitch_forms_val a2) (B':=fun _=>[]) (D':=c_stitch_forms_D a2) [] [eBox b2 56 [.int .u8 p0.Kind,.bool p0.Purl,iv p0.A,iv p0.B]] [] [0] [] S (wN d) d callee52 d (by decide) d d (fun E1 w1 S1=>c_stitch_forms E1 w1 p0.Kind a2 am S1) d (lb d) fun aJ a w S=>?_
 obtain rfl:aJ=gv_stitch_form a2.1:=S.mem.know (i:=0) (e:=fRep r_stitch_form (aJ) a2.1) d
 refine sM S fun a S=>?_
 refine sExtract (vs:=[gv_stitch_form a2.1,.bool a2.2]) (gv_stitch_form a2.1) S (wN d) d d d d (lb d) fun a S=>sExtract (vs:=[gv_stitch_form a2.1,.bool a2.2]) (.bool a2.2) S (wN d) d d d d (lb d) fun a S=>sAlloc (gv_stitch_form (stitch_form.mk (⟨#[]⟩:ByteArray) (0,0) (0,0) false 0 0)) S (wN d) d d (gl_stitch_form (stitch_form.mk (⟨#[]⟩:ByteArray) (0,0) (0,0) false 0 0)) d d (lb d) fun a a6 w S=>sStore (p:=a6) (off:=0) (T:=100) (vs:=[.string (⟨#[]⟩:ByteArray),iv 0,iv 0,iv 0,iv 0,.bool false,iv 0,iv 0]) (v:=gv_stitch_form a2.1) 0 [.string a2.1.letter,iv a2.1.a.1,iv a2.1.a.2,iv a2.1.b.1,iv a2.1.b.2,.bool a2.1.sided,iv a2.1.uses,iv a2.1.made] S (wN d) d d d d d d d (by simp) d fun a w S=>sN S fun a S=>?_
 refine lT (al _ _ (sSeq (fun bb ao=>sRegion (sN S fun a S=>?_))))
 refine lT (ao _ _ ?_)
 obtain ⟨aS,h,aT⟩:=bS h
 refine sCut (fun a w=>∃ ae,ae=aS∧St [] E [] w0 48 a w [(1,.pointer (some ⟨b2,0,none⟩)),(3,.pointer (some ⟨a6,0,none⟩)),(5,.string ae)] [eBox b2 56 [.int .u8 p0.Kind,.bool p0.Purl,iv p0.A,iv p0.B],eBox a6 100 (gl_stitch_form a2.1)] []) ?_ (fun a w hI=>?_)
 ·refine sSeq (fun bc ap=>sRegion (sField (b:=b2) (off:=0) 1 1 S (wN d) d d d d d (lb d) fun a S=>sLoad1 1 (.bool p0.Purl) S (wN d) d d d d d d (lb d) fun a S=>lT (ap _ _ ?_)))
  rcases iS h with ⟨a7,h⟩ | ⟨a7,h⟩
  rotate_left
  ·refine sCondF S d a7 ?_
   exact wp_skip (leafT (⟨(⟨#[107]⟩:ByteArray),Option.some.inj h,S.fix [1,0] [] (by decide) d d d⟩))
  refine sCondT S d a7 (sRegion (sN S fun a S=>?_))
  exact lT (⟨(⟨#[112]⟩:ByteArray),Option.some.inj h,S.fix [1,0] [] (by decide) d d d⟩)
 obtain ⟨ae,rfl,S⟩:=hI
 have h:=aT
 try dsimp only at h
 refine sSeq (fun bf aq=>sRegion (sM S fun a S=>?_))
 refine sField (b:=a6) (off:=0) 0 0 S (wN d) d d d d d (lb d) fun a S=>sLoad1 1 (.string a2.1.letter) S (wN d) d d d d d d (lb d) fun a S=>?_
 obtain ⟨aK,ar,h⟩:=bS h
 refine sBin _ S (wN d) d d d (bAddS _ _ _ _ (x:=ae) (y:=a2.1.letter) ar) d (lb d) fun a S=>sN S fun a S=>?_
 refine lT (aq _ _ ?_)
 obtain ⟨aU,h,aV⟩:=bS h
 refine sCut (fun a w=>∃ ab,ab=aU∧St [] E [] w0 48 a w [(1,.pointer (some ⟨b2,0,none⟩)),(3,.pointer (some ⟨a6,0,none⟩)),(5,.string ab)] [eBox b2 56 [.int .u8 p0.Kind,.bool p0.Purl,iv p0.A,iv p0.B],eBox a6 100 (gl_stitch_form a2.1)] []) ?_ (fun a w hI=>?_)
 ·refine sSeq (fun bg au=>sRegion (sField (b:=a6) (off:=0) 1 1 S (wN d) d d d d d (lb d) fun a S=>sIdxV S (wN d) d d d (idxV_arr (m:=2) (sz:=1) Tryd.underlying61 d (by decide) (by decide) 1) d (lb d) fun a S=>sLoad1 1 (iv a2.1.a.2) S (wN d) d d d d d d (lb d) fun a S=>sBin _ S (wN d) d d d (bGt _ _ _ _ .i64 a2.1.a.2 0) d (lb d) fun a S=>lT (au _ _ ?_)))
  rcases iS h with ⟨a8,h⟩ | ⟨a8,h⟩
  rotate_left
  ·refine sCondF S d a8 ?_
   exact wp_skip (leafT (⟨aK,Option.some.inj h,S.fix [0,1] [] (by decide) d d d⟩))
  refine sCondT S d a8 (sRegion (sM S fun a S=>?_))
  refine sField (b:=b2) (off:=0) 2 2 S (wN d) d d d d d (lb d) fun a S=>sLoad1 0 (iv p0.A) S (wN d) d d d d d d (lb d) fun a S=>?_
  obtain ⟨av,aw,h⟩:=bS h
  have S1:=S.mem
  refine sCq [iv p0.A] (.string av) S callee61 (S1.quiet [] d) (fun E1 w1 S1=>c_strconv_Itoa E1 w1 p0.A av aw S1) fun a w S=>?_
  obtain ⟨aW,ax,h⟩:=bS h
  refine sBin _ S (wN d) d d d (bAddS _ _ _ _ (x:=aK) (y:=av) ax) d (lb d) fun a S=>sN S fun a S=>?_
  exact lT (⟨aW,Option.some.inj h,S.fix [0,1] [] (by decide) d d d⟩)
 obtain ⟨ab,rfl,S⟩:=hI
 have h:=aV
 try dsimp only at h
 obtain ⟨aX,h,aZ⟩:=bS h
 refine sCut (fun a w=>∃ ac,ac=aX∧St [] E [] w0 48 a w [(5,.string ac)] [] []) ?_ (fun a w hI=>?_)
 rotate_left
 ·obtain ⟨ac,rfl,S⟩:=hI
  have h:=aZ
  try dsimp only at h
  refine sSeq (fun bh ay=>sRegion (sM S fun a S=>?_))
  refine sN S fun a S=>?_
  refine lT (ay _ _ ?_)
  obtain rfl:=tS h
  exact wp_ret (sRet (.string ac) S (rsl1 d (rvT (t:=2) (v:=.string ac) S d)) ⟨(),d,S.mem.sel [] [] (by decide) d d⟩)
 refine sSeq (fun bi az=>sRegion (sField (b:=a6) (off:=0) 3 3 S (wN d) d d d d d (lb d) fun a S=>sIdxV S (wN d) d d d (idxV_arr (m:=2) (sz:=1) Tryd.underlying61 d (by decide) (by decide) 3) d (lb d) fun a S=>sLoad1 1 (iv a2.1.b.2) S (wN d) d d d d d d (lb d) fun a S=>sBin _ S (wN d) d d d (bGt _ _ _ _ .i64 a2.1.b.2 0) d (lb d) fun a S=>lT (az _ _ ?_)))
 rcases iS h with ⟨aa,h⟩ | ⟨aa,h⟩
 rotate_left
 ·refine sCondF S d aa ?_
  exact wp_skip (leafT (⟨ab,Option.some.inj h,S.fix [] [] (by decide) d d d⟩))
 refine sCondT S d aa (sRegion (sM S fun a S=>?_))
 refine sField (b:=b2) (off:=0) 3 3 S (wN d) d d d d d (lb d) fun a S=>sLoad1 0 (iv p0.B) S (wN d) d d d d d d (lb d) fun a S=>?_
 obtain ⟨aA,aC,h⟩:=bS h
 have S1:=S.mem
 refine sCq [iv p0.B] (.string aA) S callee61 (S1.quiet [] d) (fun E1 w1 S1=>c_strconv_Itoa E1 w1 p0.B aA aC S1) fun a w S=>?_
 obtain ⟨b0,aG,h⟩:=bS h
 refine sBin _ S (wN d) d d d (bAddS _ _ _ _ (x:=(⟨#[47]⟩:ByteArray)) (y:=aA) aG) d (lb d) fun a S=>?_
 obtain ⟨b1,aH,h⟩:=bS h
 refine sBin _ S (wN d) d d d (bAddS _ _ _ _ (x:=ab) (y:=b0) aH) d (lb d) fun a S=>sN S fun a S=>?_
 exact lT (⟨b1,Option.some.inj h,S.fix [] [] (by decide) d d d⟩)
end Go.Proofs.YtmedbnjhgkcndaaDoor
namespace Go.Proofs
open Go.Shelf
def Tryd.lays156_ren:Go.Shelf.Ren:=⟨fun | 156=>62 | 165=>72 | 166=>73 | 169=>74 | 240=>80 | 241=>81 | 276=>86 | 277=>87 | n=>n,fun | 31=>108 | 9=>9 | 3=>3 | 4=>4 | 0=>0 | 20=>20 | 72=>127 | 76=>131 | 70=>124 | 37=>125 | 75=>130 | 127=>137 | 164=>144 | 5=>5 | 80=>133 | n=>n,fun | n=>n⟩
theorem Tryd.lays156:Go.Proofs.Lays.n156 Tryd.prog Tryd.lays156_ren:={
 mixed:=by kernel_rfl
 f156:=Tryd.func62.trans (congrArg some (by kernel_rfl))
 f165:=Tryd.func72.trans (congrArg some (by kernel_rfl))
 f166:=Tryd.func73.trans (congrArg some (by kernel_rfl))
 f169:=Tryd.func74.trans (congrArg some (by kernel_rfl))
 f240:=Tryd.func80.trans (congrArg some (by kernel_rfl))
 f241:=Tryd.func81.trans (congrArg some (by kernel_rfl))
 f276:=Tryd.func86.trans (congrArg some (by kernel_rfl))
 f277:=Tryd.func87.trans (congrArg some (by kernel_rfl))
 t0:=Tryd.underlying0
 a0:=Tryd.isAgg0
 z0:=Tryd.sizeOf0
 v0:=Tryd.zeroValue0
 t3:=Tryd.underlying3
 a3:=Tryd.isAgg3
 z3:=Tryd.sizeOf3
 v3:=Tryd.zeroValue3
 t4:=Tryd.underlying4
 a4:=Tryd.isAgg4
 z4:=Tryd.sizeOf4
 v4:=Tryd.zeroValue4
 t9:=Tryd.underlying9
 a9:=Tryd.isAgg9
 z9:=Tryd.sizeOf9
 v9:=Tryd.zeroValue9
 t20:=Tryd.underlying20
 a20:=Tryd.isAgg20
 z20:=Tryd.sizeOf20
 v20:=Tryd.zeroValue20
 t31:=Tryd.underlying108
 a31:=Tryd.isAgg108
 z31:=Tryd.sizeOf108
 v31:=Tryd.zeroValue108
 t37:=Tryd.underlying125
 a37:=Tryd.isAgg125
 z37:=Tryd.sizeOf125
 v37:=Tryd.zeroValue125
 t70:=Tryd.underlying124
 a70:=Tryd.isAgg124
 z70:=Tryd.sizeOf124
 v70:=Tryd.zeroValue124
 t72:=Tryd.underlying127
 a72:=Tryd.isAgg127
 z72:=Tryd.sizeOf127
 v72:=Tryd.zeroValue127
 t75:=Tryd.underlying130
 a75:=Tryd.isAgg130
 z75:=Tryd.sizeOf130
 v75:=Tryd.zeroValue130
 t76:=Tryd.underlying131
 a76:=Tryd.isAgg131
 z76:=Tryd.sizeOf131
 v76:=Tryd.zeroValue131
 t127:=Tryd.underlying137
 a127:=Tryd.isAgg137
 z127:=Tryd.sizeOf137
 v127:=Tryd.zeroValue137
 t164:=Tryd.underlying144
 a164:=Tryd.isAgg144
 z164:=Tryd.sizeOf144
 v164:=Tryd.zeroValue144 }
theorem Tryd.Builder_Extra_156:Builder.Extra Tryd.prog Tryd.lays156_ren:={
 sizeBuilder:=by kernel_rfl
 liesBuilder:=by kernel_rfl
 t5:=Tryd.underlying5
 a5:=Tryd.isAgg5
 z5:=Tryd.sizeOf5
 v5:=Tryd.zeroValue5
 infoByte:=by kernel_rfl
 cellsByte:=by kernel_rfl
 sizeByte:=by kernel_rfl
 neB5:=by decide }
open Go.RowKit in
theorem Tryd.strings_Join_none (a:Option Addr) (c:Nat) (sep:ByteArray) (w:World) :
 Calls Tryd.prog 62 #[.slice a 0 c,.string sep] w fun e w'=>e=.returned (.string ⟨#[]⟩)∧w'=w:=Any.strings_Join_none Tryd.lays156 Tryd.Builder_Extra_156 a c sep w
open Go.RowKit in
theorem Tryd.strings_Join (bk o c:Nat) (xs:List ByteArray) (sep:ByteArray) (w:World) (hcells:∀ (j:Nat) x,xs[j]?=some x→w.cell? ⟨bk,o + j,none⟩=some (.string x)) (hbk:bk < w.heap.size) (hN:xs.length ≤ 140737488355328) (hcap:xs.length ≤ c) (hlen:(Lib.join (xs.map (·.data.toList)) sep.data.toList).length ≤ 140737488355328) :
 Calls Tryd.prog 62 #[.slice (some ⟨bk,o,none⟩) xs.length c,.string sep] w fun e w'=>e=.returned (.string ⟨(Lib.join (xs.map (·.data.toList)) sep.data.toList).toArray⟩)∧Below w.heap.size w w':=Any.strings_Join Tryd.lays156 Tryd.Builder_Extra_156 bk o c xs sep w hcells hbk hN hcap hlen
end Go.Proofs
namespace Go.Proofs.YtmedbnjhgkcndaaDoor
open Go.RowKit
noncomputable def F_strings_Join (p0:List ByteArray) (p1:ByteArray):Option ByteArray:=
 if decide (p0.length ≤ 140737488355328∧(Lib.join (p0.map (·.data.toList)) p1.data.toList).length ≤ 140737488355328) then
  some ⟨(Lib.join (p0.map (·.data.toList)) p1.data.toList).toArray⟩
 else
  none
theorem all_str {E:Nat→Prop} {w:World} {us:List Value} {ys:List ByteArray} (h:All rS E w us ys):us=ys.map Value.string:=by
 apply List.ext_getElem?
 intro j
 by_cases hj:j < ys.length
 ·have hu:j < us.length:=by rw [h.1]; exact hj
  have:=h.2 j us[j] ys[j] (List.getElem?_eq_getElem hu) (List.getElem?_eq_getElem hj)
  rw [List.getElem?_eq_getElem hu,List.getElem?_map,List.getElem?_eq_getElem hj]
  exact congrArg some this
 ·rw [List.getElem?_eq_none (by rw [h.1]; omega),List.getElem?_eq_none (by simp; omega)]
theorem flat_str (ys:List ByteArray):flat (ys.map Value.string)=ys.map Value.string:=by
 induction ys with
 | nil=>rfl
 | cons y ys ih=>simp only [flat,List.map_cons,List.flatten_cons] at ih ⊢; rw [ih]; rfl
theorem c_strings_Join (E:Nat→Prop) (w0:World) (p0:List ByteArray) (v0:Value) (p1:ByteArray) (r:ByteArray) (h:F_strings_Join p0 p1=some r) (S:St0 E [] w0 w0 [] [fRep (rL rS) v0 p0]) :
 Calls Tryd.prog 62 #[v0,.string p1] w0 (Ret (X:=Unit) E [] w0 (fun _=>.string r) (fun _=>[]) (fun _=>[])):=by
 unfold F_strings_Join at h
 rcases iteSome h with ⟨hc,h⟩ | ⟨hc,h⟩
 ·have hc:=of_decide_eq_true hc
  obtain rfl:=Option.some.inj h
  obtain ⟨ad,c,vs,rfl,hcap,hm,hvs,hcell⟩:=S.know (i:=0) (e:=fRep (rL rS) v0 p0) rfl
  have hv:=all_str hvs
  subst hv
  rw [flat_str] at hcell
  have fin:∀ w',Chg [] w0 w'→St0 E [] w0 w' [] []:=fun w' hg=>(S.calm hg).sub (fun e he=>(by cases he)) (by simp [keysL]) (fun d hd=>(by cases hd))
  cases p0 with
  | nil=>
   refine (Tryd.strings_Join_none ad c p1 w0).mono ?_
   rintro e w' ⟨rfl,rfl⟩
   exact ⟨(),rfl,fin _ (Chg.refl _ _)⟩
  | cons x xs=>
   obtain ⟨b,off,rfl,_,hlt,_⟩:=hcell 0 _ rfl
   refine (Tryd.strings_Join b off c (x :: xs) p1 w0 ?_ hlt hc.1 hcap hc.2).mono ?_
   ·intro j y hy
    obtain ⟨b',off',h1,_,_,h4⟩:=hcell j (.string y) (by rw [List.getElem?_map,hy]; rfl)
    cases h1
    exact h4
   ·rintro e w' ⟨rfl,hb⟩
    exact ⟨(),rfl,fin _ ⟨hb.os,hb.tape,hb.output,hb.size,fun k hk _=>hb.block k hk⟩⟩
 ·cases h
end Go.Proofs.YtmedbnjhgkcndaaDoor
namespace Go.Proofs.YtmedbnjhgkcndaaDoor
open Go.RowKit
def anc_stitch_text_0:List (List Nat):=[[],[],[0,1],[0,1,2],[0,1,2,3],[0,1,2,3,4],[0,1,2,3,4,5],[0,1,2,3,4,5,6],[0,1,2,3,4,5,6],[0,1,2,3,4,5,6,7,8],[0,1,2,3,4,5,6],[0,1,2,3,4,5,6,10],[0,1,2,3,4,5,6,7,8,9,10,11],[0,1,2,3,4,5,6,7,8,9,10,11,12],[0,1,2,3,4,5,6,7,8,9,10,11,12,13],[0,1,2,3,4,5,6,7,8,9,10,11,12,13,14],[0,1,2,3,4,5,6,7,8,9,10,11,12,13,14],[0,1,2,3,4,5,6,7,8,9,10,11,12,13,14],[0,1,2,3,4,5,6,7,8,9,10,11,12,13,14,16,17],[0,1,2,3,4,5,6,7,8,9,10,11,12,13,14,15,16,17,18],[0,1,2,3,4,5,6,7,8,9,10,11,12,13,14,15,16,17,18,19],[0,1,2,3,4,5,6,7,8,9,10,11,12,13,14],[0,1,2,3,4,5,6,7,8,9,10,11,12,13,14],[0,1,2,3,4,5,6,7,8,9,10,11,12,13,14,21,22],[0,1,2,3,4,5,6,7,8,9,10,11,12,13,14,21,22,23],[0,1,2,3,4,5,6,7,8,9,10,11,12,13,14,15,16,17,18,19,20,21,22,23,24],[0,1,2,3,4,5,6,7,8,9,10,11,12,13,14,15,16,17,18,19,20,21,22,23,24,25]]
noncomputable def stitch_text_l1 (p0:(List api_Stitch)) (a8:Int):Int→Option (Int ⊕ Int):=fun s0=>match s0 with
 | a6=>
  Option.bind (α:=Bool) (
   (idxO p0 a8).bind fun a2=>
   if a2.Kind == 1 then
    if decide ((w64 (a8 + a6)) < (p0.length:Int)) then
     (idxO p0 (w64 (a8 + a6))).bind fun a7=>
     some ((a7.Kind == a2.Kind) && ((a7.Purl == a2.Purl) && ((a7.A == a2.A) && ((a7.B == a2.B) && true))))
    else
     some false
   else
    some false) fun aa=>
  if aa then
   some (.inl (w64 (a6 + 1)))
  else
   some (.inr a6)
noncomputable def stitch_text_l2 (p0:(List api_Stitch)):(List ByteArray × Int)→Option ((List ByteArray × Int) ⊕ List ByteArray):=fun s0=>match s0 with
 | (a7,a2)=>
  if decide (a2 < (p0.length:Int)) then
   Option.bind (α:=Int) (
    (whileO (stitch_text_l1 p0 a2) 1).bind fun aa=>
     some aa) fun a6=>
   (idxO p0 a2).bind fun ab=>
   (F_stitch_word ab).bind fun a8=>
   Option.bind (α:=ByteArray) (
    if decide (1 < a6) then
     (F_strconv_Itoa a6).bind fun ac=>
     (addS a8 ac).bind fun ae=>
     some ae
    else
     some a8) fun af=>
   (appO a7 [af]).bind fun ag=>
   some (.inl (ag,w64 (a2 + a6)))
  else
   some (.inr a7)
noncomputable def F_stitch_text (p0:(List api_Stitch)):Option ByteArray:=
 Option.bind (α:=List ByteArray) (
  (whileO (stitch_text_l2 p0) (([]:List ByteArray),0)).bind fun a6=>
   some a6) fun o5=>
 (F_strings_Join o5 (⟨#[32]⟩:ByteArray)).bind fun a2=>
 some a2
theorem c_stitch_text (E:Nat→Prop) (w0:World) (p0:(List api_Stitch)) (v0:Value) (r:ByteArray) (h:F_stitch_text p0=some r) (S:St0 E [] w0 w0 [] [fRep (rL r_api_Stitch) (v0) p0]) :
 Calls Tryd.prog 48 #[v0] w0 (Ret (X:=Unit) E [] w0 (fun _=>.string r) (fun _=>[]) (fun _=>[])):=by
 unfold F_stitch_text at h
 obtain ⟨ac,ae,_,rfl,_⟩:=S.know (i:=0) (e:=fRep (rL r_api_Stitch) (v0) p0) d
 refine sEnter (args:=[.slice ac p0.length ae]) 60 Tryd.func48 d d (by simp) S (fun a S=>?_)
 refine sSeq (fun K3 bA=>sRegion (sN S fun a S=>?_))
 refine lT (bA _ _ (sSeq (fun K4 bB=>sRegion (sN S fun a S=>?_))))
 refine lT (bB _ _ ?_)
 obtain ⟨t8,h,g9⟩:=bS h
 refine sCut (fun a w=>∃ o5,o5=t8∧∃ ar,∃ au,St [] E [] w0 60 a w [(3,.slice ar o5.length au)] [eRow rS 9 (.slice ar o5.length au) o5] []) ?_ (fun a w hI=>?_)
 rotate_left
 ·obtain ⟨o5,rfl,ar,au,S⟩:=hI
  have h:=g9
  try dsimp only at h
  refine sSeq (fun bC av=>sRegion (sM S fun a S=>?_))
  obtain ⟨aj,aw,h⟩:=bS h
  have S1:=S.mem
  have S1:=S1.shutR (r:=rS) (T:=9) (v:=.slice ar o5.length au) (xs:=o5) 0 d
  refine sCq [.slice ar o5.length au,.string (⟨#[32]⟩:ByteArray)] (.string aj) S callee62 (S1.quiet [0] d) (fun E1 w1 S1=>c_strings_Join E1 w1 o5 (.slice ar o5.length au) (⟨#[32]⟩:ByteArray) aj aw S1) fun a w S=>?_
  refine sN S fun a S=>?_
  refine lT (av _ _ ?_)
  obtain rfl:=tS h
  exact wp_ret (sRet (.string aj) S (rsl1 d (rvT (t:=2) (v:=.string aj) S d)) ⟨(),d,S.mem.sel [] [] (by decide) d d⟩)
 refine sSeq (fun bN aA=>sRegion (sN S fun a S=>?_))
 refine lT (aA _ _ (wp_block ?_))
 have S:=S.nilRow rS 9 (α:=ByteArray)
 obtain ⟨bO,hl,bD⟩:=bS h
 refine sLoop hl (fun s0 a w=>match s0 with | (ah,a6)=>∃ af,∃ ag,St [] E [] w0 60 a w [(0,.slice ac p0.length ae),(3,.slice af ah.length ag),(4,iv a6)] [eRow rS 9 (.slice af ah.length ag) ah] [fRep (rL r_api_Stitch) (.slice ac p0.length ae) p0]) ⟨none,0,S.fix [0] [0] (by decide) d d d⟩ ?_
 clear hl h
 intro s0 a w c0 hI h aC
 obtain ⟨ah,a6⟩:=s0
 unfold stitch_text_l2 at h
 dsimp only at h hI
 obtain ⟨af,ag,S⟩:=hI
 refine sSeq (fun bP aG=>sSeq (fun bQ aH=>sRegion (sM S fun a S=>?_)))
 refine sM S fun a S=>?_
 refine sLen S (wN d) d Tryd.underlying52 d d (lb d) fun a S=>sBin _ S (wN d) d d d (bLt _ _ _ _ .i64 a6 (p0.length:Int)) d (lb d) fun a S=>lT (aH _ _ ?_)
 rcases iS h with ⟨ao,h⟩ | ⟨ao,h⟩
 rotate_left
 ·refine sCondF S d ao ?_
  obtain rfl:=tS h
  obtain rfl:=aC _ d
  have h:=bD
  try dsimp only at h
  exact wp_exit (xThen (xThen (xHit (leafT (⟨ah,Option.some.inj h,af,ag,S.fix [0] [] (by decide) d d d⟩)))))
 refine sCondT S d ao (wp_skip (leafT (aG _ _ ?_)))
 refine wp_block ?_
 refine sSeq (fun bR aI=>sRegion (sN S fun a S=>?_))
 refine lT (aI _ _ ?_)
 obtain ⟨bE,h,bF⟩:=bS h
 refine sCut (fun a w=>∃ ak,ak=bE∧St [] E [] w0 60 a w [(0,.slice ac p0.length ae),(3,.slice af ah.length ag),(4,iv a6),(5,iv ak)] [eRow rS 9 (.slice af ah.length ag) ah] [fRep (rL r_api_Stitch) (.slice ac p0.length ae) p0]) ?_ (fun a w hI=>?_)
 rotate_left
 ·obtain ⟨ak,rfl,S⟩:=hI
  have h:=bF
  try dsimp only at h
  refine sSeq (fun bT aJ=>sRegion (sM S fun a S=>?_))
  refine sM S fun a S=>?_
  obtain ⟨ai,aK,h⟩:=bS h
  obtain ⟨br,aL,S⟩:=pIdx (P:=Tryd.prog) (r:=r_api_Stitch) (v:=.slice ac p0.length ae) (xs:=p0) (j:=a6) 52 56 0 S Tryd.underlying52 d d aK
  refine sIdxV S (wN d) d d d aL d (lb d) fun a S=>?_
  obtain ⟨bt,S⟩:=pLoad (r:=r_api_Stitch) (q:=br) (x:=ai) 0 S d
  obtain rfl:bt=.agg #[.int .u8 ai.Kind,.bool ai.Purl,iv ai.A,iv ai.B]:=S.mem.know (i:=1) (e:=fRep r_api_Stitch (bt) ai) d
  refine sLoadVN (vq:=br) 0 [.int .u8 ai.Kind,.bool ai.Purl,iv ai.A,iv ai.B] S (wN d) d d d d d d (lb d) fun a S=>?_
  obtain ⟨ax,aM,h⟩:=bS h
  have S1:=S.mem
  refine sCq [.agg #[.int .u8 ai.Kind,.bool ai.Purl,iv ai.A,iv ai.B]] (.string ax) S callee60 (S1.quiet [1] d) (fun E1 w1 S1=>c_stitch_word E1 w1 ai (.agg #[.int .u8 ai.Kind,.bool ai.Purl,iv ai.A,iv ai.B]) ax aM S1) fun a w S=>?_
  refine sN S fun a S=>?_
  refine lT (aJ _ _ ?_)
  obtain ⟨bG,h,bH⟩:=bS h
  refine sCut (fun a w=>∃ al,al=bG∧St [] E [] w0 60 a w [(0,.slice ac p0.length ae),(3,.slice af ah.length ag),(4,iv a6),(5,iv ak),(6,.string al)] [eRow rS 9 (.slice af ah.length ag) ah] [fRep (rL r_api_Stitch) (.slice ac p0.length ae) p0]) ?_ (fun a w hI=>?_)
  ·refine sSeq (fun bU aO=>sRegion (sM S fun a S=>?_))
   refine sBin _ S (wN d) d d d (bGt _ _ _ _ .i64 ak 1) d (lb d) fun a S=>lT (aO _ _ ?_)
   rcases iS h with ⟨ap,h⟩ | ⟨ap,h⟩
   rotate_left
   ·refine sCondF S d ap ?_
    exact wp_skip (leafT (⟨ax,Option.some.inj h,S.fix [0] [3] (by decide) d d d⟩))
   refine sCondT S d ap (sRegion (sM S fun a S=>?_))
   refine sM S fun a S=>?_
   obtain ⟨aP,aQ,h⟩:=bS h
   have S1:=S.mem
   refine sCq [iv ak] (.string aP) S callee61 (S1.quiet [] d) (fun E1 w1 S1=>c_strconv_Itoa E1 w1 ak aP aQ S1) fun a w S=>?_
   obtain ⟨bI,aR,h⟩:=bS h
   refine sBin _ S (wN d) d d d (bAddS _ _ _ _ (x:=ax) (y:=aP) aR) d (lb d) fun a S=>sN S fun a S=>?_
   exact lT (⟨bI,Option.some.inj h,S.fix [0] [3] (by decide) d d d⟩)
  obtain ⟨al,rfl,S⟩:=hI
  have h:=bH
  try dsimp only at h
  refine sSeq (fun bV aS=>sRegion (sM S fun a S=>?_))
  refine sM S fun a S=>?_
  refine sLit (r:=rS) (T:=9) (xs:=[al]) [(0,.string al)] 1 [.string al] [.string al] (.string (⟨#[]⟩:ByteArray)) 16 S (wN d) d d Tryd.underlying108 d (by decide) (by decide) (by kernel_rfl) d (fun E1 w1 hE=>All.cons d (All.nil _ _ _)) d d (lb d) fun a w aT aU S=>?_
  obtain ⟨bJ,aV,h⟩:=bS h
  refine sApp (r:=rS) (T:=9) (xs:=ah) (ys:=[al]) (v:=.slice af ah.length ag) (u:=.slice aT [al].length aU) 1 (.string (⟨#[]⟩:ByteArray)) 16 S (wN d) d Tryd.underlying108 d d (by decide) d d d (src_R (T:=9) 0 S.mem d) aV d (lb d) fun a w aW aX S=>sN S fun a S=>?_
  refine lT (aS _ _ (sRegion (sM S fun a S=>?_)))
  refine sM S fun a S=>?_
  refine sBin _ S (wN d) d d d (bAdd _ _ _ _ a6 ak) d (lb d) fun a S=>sN S fun a S=>?_
  exact leafL (leafB (leafT (⟨(bJ,w64 (a6 + ak)),(Option.some.inj h).symm,⟨aW,aX,S.fix [0] [0] (by decide) d d d⟩⟩)))
 refine wp_block ?_
 obtain ⟨bW,hl,bK⟩:=bS h
 refine sLoop hl (fun s0 a w=>match s0 with | ab=>St [] E [] w0 60 a w [(0,.slice ac p0.length ae),(3,.slice af ah.length ag),(4,iv a6),(5,iv ab)] [eRow rS 9 (.slice af ah.length ag) ah] [fRep (rL r_api_Stitch) (.slice ac p0.length ae) p0]) (S.fix [0] [0] (by decide) d d d) ?_
 clear hl h
 intro ab a w c0 hI h aZ
 unfold stitch_text_l1 at h
 dsimp only at h hI
 have S:=hI
 refine sSeq (fun bX b0=>?_)
 obtain ⟨bL,h,bM⟩:=bS h
 refine sCut (fun a w=>∃ b1,b1=bL∧St [] E [] w0 60 a w [(0,.slice ac p0.length ae),(3,.slice af ah.length ag),(4,iv a6),(5,iv ab),(37,.bool b1)] [eRow rS 9 (.slice af ah.length ag) ah] [fRep (rL r_api_Stitch) (.slice ac p0.length ae) p0]) ?_ (fun a w hI=>?_)
 rotate_left
 ·obtain ⟨b1,rfl,S⟩:=hI
  have h:=bM
  try dsimp only at h
  rcases iS h with ⟨aq,h⟩ | ⟨aq,h⟩
  rotate_left
  ·refine sCondF S d aq ?_
   obtain rfl:=tS h
   obtain rfl:=aZ _ d
   have h:=bK
   try dsimp only at h
   exact wp_exit (xThen (xThen (xHit (leafT (⟨ab,Option.some.inj h,S.fix [0] [0] (by decide) d d d⟩)))))
  refine sCondT S d aq (wp_skip (leafT (b0 _ _ ?_)))
  refine wp_block ?_
  refine sRegion (sM S fun a S=>?_)
  refine sBin _ S (wN d) d d d (bAdd _ _ _ _ ab 1) d (lb d) fun a S=>sN S fun a S=>?_
  exact leafL (leafB (leafT (⟨w64 (ab + 1),(Option.some.inj h).symm,(S.fix [0] [0] (by decide) d d d)⟩)))
 obtain ⟨a2,am,h⟩:=bS h
 rcases iS h with ⟨aa,h⟩ | ⟨aa,h⟩
 rotate_left
 ·obtain ⟨b8,ba,S⟩:=pIdx (P:=Tryd.prog) (r:=r_api_Stitch) (v:=.slice ac p0.length ae) (xs:=p0) (j:=a6) 52 56 0 S Tryd.underlying52 d d am
  obtain ⟨bb,bc,S⟩:=pFld (P:=Tryd.prog) (r:=r_api_Stitch) (s2:=(rI .u8)) (g:=(·.Kind)) (q:=b8) (z:=a2) 56 0 0 0 S d d comp_api_Stitch_Kind
  obtain ⟨bu,S⟩:=pLoad (r:=(rI .u8)) (q:=bb) (x:=a2.Kind) 0 S d
  obtain rfl:bu=.int .u8 a2.Kind:=S.mem.know (i:=1) (e:=fRep (rI .u8) (bu) a2.Kind) d
  refine sDraw (nf:=[]) (W:=[(0,11,.slice ac p0.length ae),(1,12,iv a6),(2,13,b8),(3,14,bb),(4,15,.int .u8 a2.Kind),(5,16,.bool (a2.Kind == 1)),(6,17,.bool (a2.Kind == 1)),(7,18,undef),(8,19,undef),(9,20,undef),(10,21,undef),(11,22,undef),(12,23,undef),(13,24,.bool false),(14,25,.bool false),(15,26,undef),(16,27,undef),(17,28,undef),(18,29,undef),(19,30,undef),(20,31,undef),(21,32,undef),(22,33,undef),(23,34,undef),(24,35,undef),(25,36,undef),(26,37,.bool false)]) d S ?_
  refine node_by (A:=anc_stitch_text_0) 27 (by kernel_rfl) (by kernel_rfl) (by kernel_rfl) (by kernel_rfl) (by kernel_rfl) [0,1,2,3,4,5,6,7,8,9,10,11,12,13,14,15,16,17,18,19,20,21,22,23,24,25,26] (by kernel_rfl) (by decide) (by decide) (fF ?_ (fF ?_ (fF ?_ (fF ?_ (fF ?_ (fF ?_ (fF ?_ (fF ?_ (fF ?_ (fF ?_ (fF ?_ (fF ?_ (fF ?_ (fF ?_ (fF ?_ (fF ?_ (fF ?_ (fF ?_ (fF ?_ (fF ?_ (fF ?_ (fF ?_ (fF ?_ (fF ?_ (fF ?_ (fF ?_ (fF ?_ (trivial)))))))))))))))))))))))))))) [(0,.slice ac p0.length ae),(3,.slice af ah.length ag),(4,iv a6),(5,iv ab),(18,undef),(19,undef),(20,undef),(21,undef),(22,undef),(23,undef),(26,undef),(27,undef),(28,undef),(29,undef),(30,undef),(31,undef),(32,undef),(33,undef),(34,undef),(35,undef),(36,undef),(37,.bool false)] (fin_of [none,none,none,none,some 7,some 8,some 9,some 10,some 11,some 12,some 15,some 16,some 17,some 18,some 19,some 20,some 21,some 22,some 23,some 24,some 25,some 26] d (by kernel_rfl) (by kernel_rfl)) (fun _ a w S=>?_)
  ·exact fM 0 none d d d d (.inl d) d d d
  ·exact fM 1 none d d d d (.inl d) d d d
  ·refine fJ [(11,_),(12,_)] 2 [some 0,some 1] fun G a w S=>?_
   exact sIdxV S (wN d) d d d ba d (lb d) fun a S=>leafL ⟨d,S⟩
  ·refine fJ [(13,_)] 3 [some 2] fun G a w S=>?_
   exact sFldV (q:=b8) S (wN d) d d bc d (lb d) fun a S=>leafL ⟨d,S⟩
  ·refine fJ [(14,_)] 4 [some 3] fun G a w S=>?_
   exact sLoadV1 (vq:=bb) 0 (.int .u8 a2.Kind) S (wN d) d d d d d (lb d) fun a S=>leafL ⟨d,S⟩
  ·refine fJ [(15,_)] 5 [some 4] fun G a w S=>?_
   exact sBin _ S (wN d) d d d (bEq _ _ _ _ .u8 a2.Kind 1) d (lb d) fun a S=>leafL ⟨d,S⟩
  ·exact fM 6 (some 5) d d d d (.inl d) d d d
  ·refine fJ [(4,_),(17,_)] 7 [none,some 6] fun G a w S=>?_
   exact sSk S d d d aa d d fun a S=>leafL ⟨d,S⟩
  ·refine fJ [(5,_),(17,_)] 8 [none,some 6] fun G a w S=>?_
   exact sSk S d d d aa d d fun a S=>leafL ⟨d,S⟩
  ·refine fJ [(18,_),(19,_),(17,_)] 9 [some 7,some 8,some 6] fun G a w S=>?_
   exact sSk S d d d aa d d fun a S=>leafL ⟨d,S⟩
  ·refine fJ [(0,_),(17,_)] 10 [none,some 6] fun G a w S=>?_
   exact sSk S d d d aa d d fun a S=>leafL ⟨d,S⟩
  ·refine fJ [(21,_),(17,_)] 11 [some 10,some 6] fun G a w S=>?_
   exact sSk S d d d aa d d fun a S=>leafL ⟨d,S⟩
  ·refine fJ [(20,_),(22,_),(17,_)] 12 [some 9,some 11,some 6] fun G a w S=>?_
   exact sSk S d d d aa d d fun a S=>leafL ⟨d,S⟩
  ·refine fJ [(17,_),(23,_)] 13 [some 6,some 12] fun G a w S=>?_
   exact sPickF (.bool false) S (wN d) d d aa d d (lb d) fun a S=>leafL ⟨d,S⟩
  ·exact fM 14 (some 13) d d d d (.inl d) d d d
  ·refine fJ [(0,_),(25,_)] 15 [none,some 14] fun G a w S=>?_
   exact sSk S d d d d d d fun a S=>leafL ⟨d,S⟩
  ·refine fJ [(4,_),(25,_)] 16 [none,some 14] fun G a w S=>?_
   exact sSk S d d d d d d fun a S=>leafL ⟨d,S⟩
  ·refine fJ [(5,_),(25,_)] 17 [none,some 14] fun G a w S=>?_
   exact sSk S d d d d d d fun a S=>leafL ⟨d,S⟩
  ·refine fJ [(27,_),(28,_),(25,_)] 18 [some 16,some 17,some 14] fun G a w S=>?_
   exact sSk S d d d d d d fun a S=>leafL ⟨d,S⟩
  ·refine fJ [(26,_),(29,_),(25,_)] 19 [some 15,some 18,some 14] fun G a w S=>?_
   exact sSk S d d d d d d fun a S=>leafL ⟨d,S⟩
  ·refine fJ [(30,_),(25,_)] 20 [some 19,some 14] fun G a w S=>?_
   exact sSk S d d d d d d fun a S=>leafL ⟨d,S⟩
  ·refine fJ [(0,_),(25,_)] 21 [none,some 14] fun G a w S=>?_
   exact sSk S d d d d d d fun a S=>leafL ⟨d,S⟩
  ·refine fJ [(4,_),(25,_)] 22 [none,some 14] fun G a w S=>?_
   exact sSk S d d d d d d fun a S=>leafL ⟨d,S⟩
  ·refine fJ [(32,_),(33,_),(25,_)] 23 [some 21,some 22,some 14] fun G a w S=>?_
   exact sSk S d d d d d d fun a S=>leafL ⟨d,S⟩
  ·refine fJ [(34,_),(25,_)] 24 [some 23,some 14] fun G a w S=>?_
   exact sSk S d d d d d d fun a S=>leafL ⟨d,S⟩
  ·refine fJ [(31,_),(35,_),(25,_)] 25 [some 20,some 24,some 14] fun G a w S=>?_
   exact sSk S d d d d d d fun a S=>leafL ⟨d,S⟩
  ·refine fJ [(25,_),(36,_)] 26 [some 14,some 25] fun G a w S=>?_
   exact sPickF (.bool false) S (wN d) d d d d d (lb d) fun a S=>leafL ⟨d,S⟩
  exact leafT (⟨false,Option.some.inj h,S.fix [0] [4] (by decide) d d d⟩)
 rcases iS h with ⟨a7,h⟩ | ⟨a7,h⟩
 rotate_left
 ·obtain ⟨bf,bg,S⟩:=pIdx (P:=Tryd.prog) (r:=r_api_Stitch) (v:=.slice ac p0.length ae) (xs:=p0) (j:=a6) 52 56 0 S Tryd.underlying52 d d am
  obtain ⟨bh,bi,S⟩:=pFld (P:=Tryd.prog) (r:=r_api_Stitch) (s2:=(rI .u8)) (g:=(·.Kind)) (q:=bf) (z:=a2) 56 0 0 0 S d d comp_api_Stitch_Kind
  obtain ⟨bv,S⟩:=pLoad (r:=(rI .u8)) (q:=bh) (x:=a2.Kind) 0 S d
  obtain rfl:bv=.int .u8 a2.Kind:=S.mem.know (i:=1) (e:=fRep (rI .u8) (bv) a2.Kind) d
  refine sDraw (nf:=[]) (W:=[(0,11,.slice ac p0.length ae),(1,12,iv a6),(2,13,bf),(3,14,bh),(4,15,.int .u8 a2.Kind),(5,16,.bool (a2.Kind == 1)),(6,17,.bool (a2.Kind == 1)),(7,18,iv a6),(8,19,iv ab),(9,20,iv (w64 (a6 + ab))),(10,21,.slice ac p0.length ae),(11,22,iv (p0.length:Int)),(12,23,.bool (decide ((w64 (a6 + ab)) < (p0.length:Int)))),(13,24,.bool (decide ((w64 (a6 + ab)) < (p0.length:Int)))),(14,25,.bool (decide ((w64 (a6 + ab)) < (p0.length:Int)))),(15,26,undef),(16,27,undef),(17,28,undef),(18,29,undef),(19,30,undef),(20,31,undef),(21,32,undef),(22,33,undef),(23,34,undef),(24,35,undef),(25,36,undef),(26,37,.bool false)]) d S ?_
  refine node_by (A:=anc_stitch_text_0) 27 (by kernel_rfl) (by kernel_rfl) (by kernel_rfl) (by kernel_rfl) (by kernel_rfl) [0,1,2,3,4,5,6,7,8,9,10,11,12,13,14,15,16,17,18,19,20,21,22,23,24,25,26] (by kernel_rfl) (by decide) (by decide) (fF ?_ (fF ?_ (fF ?_ (fF ?_ (fF ?_ (fF ?_ (fF ?_ (fF ?_ (fF ?_ (fF ?_ (fF ?_ (fF ?_ (fF ?_ (fF ?_ (fF ?_ (fF ?_ (fF ?_ (fF ?_ (fF ?_ (fF ?_ (fF ?_ (fF ?_ (fF ?_ (fF ?_ (fF ?_ (fF ?_ (fF ?_ (trivial)))))))))))))))))))))))))))) [(0,.slice ac p0.length ae),(3,.slice af ah.length ag),(4,iv a6),(5,iv ab),(18,iv a6),(19,iv ab),(20,iv (w64 (a6 + ab))),(21,.slice ac p0.length ae),(22,iv (p0.length:Int)),(23,.bool (decide ((w64 (a6 + ab)) < (p0.length:Int)))),(26,undef),(27,undef),(28,undef),(29,undef),(30,undef),(31,undef),(32,undef),(33,undef),(34,undef),(35,undef),(36,undef),(37,.bool false)] (fin_of [none,none,none,none,some 7,some 8,some 9,some 10,some 11,some 12,some 15,some 16,some 17,some 18,some 19,some 20,some 21,some 22,some 23,some 24,some 25,some 26] d (by kernel_rfl) (by kernel_rfl)) (fun _ a w S=>?_)
  ·exact fM 0 none d d d d (.inl d) d d d
  ·exact fM 1 none d d d d (.inl d) d d d
  ·refine fJ [(11,_),(12,_)] 2 [some 0,some 1] fun G a w S=>?_
   exact sIdxV S (wN d) d d d bg d (lb d) fun a S=>leafL ⟨d,S⟩
  ·refine fJ [(13,_)] 3 [some 2] fun G a w S=>?_
   exact sFldV (q:=bf) S (wN d) d d bi d (lb d) fun a S=>leafL ⟨d,S⟩
  ·refine fJ [(14,_)] 4 [some 3] fun G a w S=>?_
   exact sLoadV1 (vq:=bh) 0 (.int .u8 a2.Kind) S (wN d) d d d d d (lb d) fun a S=>leafL ⟨d,S⟩
  ·refine fJ [(15,_)] 5 [some 4] fun G a w S=>?_
   exact sBin _ S (wN d) d d d (bEq _ _ _ _ .u8 a2.Kind 1) d (lb d) fun a S=>leafL ⟨d,S⟩
  ·exact fM 6 (some 5) d d d d (.inl d) d d d
  ·refine fJ [(4,_),(17,_)] 7 [none,some 6] fun G a w S=>?_
   exact sMove (iv a6) S (wG 6 true 17 d d d aa) (.inl d) d d (lb d) fun a S=>leafL ⟨d,S⟩
  ·refine fJ [(5,_),(17,_)] 8 [none,some 6] fun G a w S=>?_
   exact sMove (iv ab) S (wG 6 true 17 d d d aa) (.inl d) d d (lb d) fun a S=>leafL ⟨d,S⟩
  ·refine fJ [(18,_),(19,_),(17,_)] 9 [some 7,some 8,some 6] fun G a w S=>?_
   exact sBin _ S (wG 6 true 17 d d d aa) d d d (bAdd _ _ _ _ a6 ab) d (lb d) fun a S=>leafL ⟨d,S⟩
  ·refine fJ [(0,_),(17,_)] 10 [none,some 6] fun G a w S=>?_
   exact sMove (.slice ac p0.length ae) S (wG 6 true 17 d d d aa) (.inl d) d d (lb d) fun a S=>leafL ⟨d,S⟩
  ·refine fJ [(21,_),(17,_)] 11 [some 10,some 6] fun G a w S=>?_
   exact sLen S (wG 6 true 17 d d d aa) d Tryd.underlying52 d d (lb d) fun a S=>leafL ⟨d,S⟩
  ·refine fJ [(20,_),(22,_),(17,_)] 12 [some 9,some 11,some 6] fun G a w S=>?_
   exact sBin _ S (wG 6 true 17 d d d aa) d d d (bLt _ _ _ _ .i64 (w64 (a6 + ab)) (p0.length:Int)) d (lb d) fun a S=>leafL ⟨d,S⟩
  ·refine fJ [(17,_),(23,_)] 13 [some 6,some 12] fun G a w S=>?_
   exact sPickT (.bool (decide ((w64 (a6 + ab)) < (p0.length:Int)))) S (wN d) d d aa d d (lb d) fun a S=>leafL ⟨d,S⟩
  ·exact fM 14 (some 13) d d d d (.inl d) d d d
  ·refine fJ [(0,_),(25,_)] 15 [none,some 14] fun G a w S=>?_
   exact sSk S d d d a7 d d fun a S=>leafL ⟨d,S⟩
  ·refine fJ [(4,_),(25,_)] 16 [none,some 14] fun G a w S=>?_
   exact sSk S d d d a7 d d fun a S=>leafL ⟨d,S⟩
  ·refine fJ [(5,_),(25,_)] 17 [none,some 14] fun G a w S=>?_
   exact sSk S d d d a7 d d fun a S=>leafL ⟨d,S⟩
  ·refine fJ [(27,_),(28,_),(25,_)] 18 [some 16,some 17,some 14] fun G a w S=>?_
   exact sSk S d d d a7 d d fun a S=>leafL ⟨d,S⟩
  ·refine fJ [(26,_),(29,_),(25,_)] 19 [some 15,some 18,some 14] fun G a w S=>?_
   exact sSk S d d d a7 d d fun a S=>leafL ⟨d,S⟩
  ·refine fJ [(30,_),(25,_)] 20 [some 19,some 14] fun G a w S=>?_
   exact sSk S d d d a7 d d fun a S=>leafL ⟨d,S⟩
  ·refine fJ [(0,_),(25,_)] 21 [none,some 14] fun G a w S=>?_
   exact sSk S d d d a7 d d fun a S=>leafL ⟨d,S⟩
  ·refine fJ [(4,_),(25,_)] 22 [none,some 14] fun G a w S=>?_
   exact sSk S d d d a7 d d fun a S=>leafL ⟨d,S⟩
  ·refine fJ [(32,_),(33,_),(25,_)] 23 [some 21,some 22,some 14] fun G a w S=>?_
   exact sSk S d d d a7 d d fun a S=>leafL ⟨d,S⟩
  ·refine fJ [(34,_),(25,_)] 24 [some 23,some 14] fun G a w S=>?_
   exact sSk S d d d a7 d d fun a S=>leafL ⟨d,S⟩
  ·refine fJ [(31,_),(35,_),(25,_)] 25 [some 20,some 24,some 14] fun G a w S=>?_
   exact sSk S d d d a7 d d fun a S=>leafL ⟨d,S⟩
  ·refine fJ [(25,_),(36,_)] 26 [some 14,some 25] fun G a w S=>?_
   exact sPickF (.bool false) S (wN d) d d a7 d d (lb d) fun a S=>leafL ⟨d,S⟩
  exact leafT (⟨false,Option.some.inj h,S.fix [0] [4] (by decide) d d d⟩)
 obtain ⟨a8,bj,h⟩:=bS h
 obtain ⟨bl,bm,S⟩:=pIdx (P:=Tryd.prog) (r:=r_api_Stitch) (v:=.slice ac p0.length ae) (xs:=p0) (j:=a6) 52 56 0 S Tryd.underlying52 d d am
 obtain ⟨bn,bo,S⟩:=pFld (P:=Tryd.prog) (r:=r_api_Stitch) (s2:=(rI .u8)) (g:=(·.Kind)) (q:=bl) (z:=a2) 56 0 0 0 S d d comp_api_Stitch_Kind
 obtain ⟨bw,S⟩:=pLoad (r:=(rI .u8)) (q:=bn) (x:=a2.Kind) 0 S d
 obtain rfl:bw=.int .u8 a2.Kind:=S.mem.know (i:=1) (e:=fRep (rI .u8) (bw) a2.Kind) d
 obtain ⟨ay,bp,S⟩:=pIdx (P:=Tryd.prog) (r:=r_api_Stitch) (v:=.slice ac p0.length ae) (xs:=p0) (j:=w64 (a6 + ab)) 52 56 4 S Tryd.underlying52 d d bj
 obtain ⟨bx,S⟩:=pLoad (r:=r_api_Stitch) (q:=ay) (x:=a8) 0 S d
 obtain rfl:bx=.agg #[.int .u8 a8.Kind,.bool a8.Purl,iv a8.A,iv a8.B]:=S.mem.know (i:=1) (e:=fRep r_api_Stitch (bx) a8) d
 obtain ⟨az,bq,S⟩:=pIdx (P:=Tryd.prog) (r:=r_api_Stitch) (v:=.slice ac p0.length ae) (xs:=p0) (j:=a6) 52 56 7 S Tryd.underlying52 d d am
 obtain ⟨bz,S⟩:=pLoad (r:=r_api_Stitch) (q:=az) (x:=a2) 0 S d
 obtain rfl:bz=.agg #[.int .u8 a2.Kind,.bool a2.Purl,iv a2.A,iv a2.B]:=S.mem.know (i:=1) (e:=fRep r_api_Stitch (bz) a2) d
 refine sDraw (nf:=[]) (W:=[(0,11,.slice ac p0.length ae),(1,12,iv a6),(2,13,bl),(3,14,bn),(4,15,.int .u8 a2.Kind),(5,16,.bool (a2.Kind == 1)),(6,17,.bool (a2.Kind == 1)),(7,18,iv a6),(8,19,iv ab),(9,20,iv (w64 (a6 + ab))),(10,21,.slice ac p0.length ae),(11,22,iv (p0.length:Int)),(12,23,.bool (decide ((w64 (a6 + ab)) < (p0.length:Int)))),(13,24,.bool (decide ((w64 (a6 + ab)) < (p0.length:Int)))),(14,25,.bool (decide ((w64 (a6 + ab)) < (p0.length:Int)))),(15,26,.slice ac p0.length ae),(16,27,iv a6),(17,28,iv ab),(18,29,iv (w64 (a6 + ab))),(19,30,ay),(20,31,.agg #[.int .u8 a8.Kind,.bool a8.Purl,iv a8.A,iv a8.B]),(21,32,.slice ac p0.length ae),(22,33,iv a6),(23,34,az),(24,35,.agg #[.int .u8 a2.Kind,.bool a2.Purl,iv a2.A,iv a2.B]),(25,36,.bool ((a8.Kind == a2.Kind) && ((a8.Purl == a2.Purl) && ((a8.A == a2.A) && ((a8.B == a2.B) && true))))),(26,37,.bool ((a8.Kind == a2.Kind) && ((a8.Purl == a2.Purl) && ((a8.A == a2.A) && ((a8.B == a2.B) && true)))))]) d S ?_
 refine node_by (A:=anc_stitch_text_0) 27 (by kernel_rfl) (by kernel_rfl) (by kernel_rfl) (by kernel_rfl) (by kernel_rfl) [0,1,2,3,4,5,6,7,8,9,10,11,12,13,14,15,16,17,18,19,20,21,22,23,24,25,26] (by kernel_rfl) (by decide) (by decide) (fF ?_ (fF ?_ (fF ?_ (fF ?_ (fF ?_ (fF ?_ (fF ?_ (fF ?_ (fF ?_ (fF ?_ (fF ?_ (fF ?_ (fF ?_ (fF ?_ (fF ?_ (fF ?_ (fF ?_ (fF ?_ (fF ?_ (fF ?_ (fF ?_ (fF ?_ (fF ?_ (fF ?_ (fF ?_ (fF ?_ (fF ?_ (trivial)))))))))))))))))))))))))))) [(0,.slice ac p0.length ae),(3,.slice af ah.length ag),(4,iv a6),(5,iv ab),(18,iv a6),(19,iv ab),(20,iv (w64 (a6 + ab))),(21,.slice ac p0.length ae),(22,iv (p0.length:Int)),(23,.bool (decide ((w64 (a6 + ab)) < (p0.length:Int)))),(26,.slice ac p0.length ae),(27,iv a6),(28,iv ab),(29,iv (w64 (a6 + ab))),(30,ay),(31,.agg #[.int .u8 a8.Kind,.bool a8.Purl,iv a8.A,iv a8.B]),(32,.slice ac p0.length ae),(33,iv a6),(34,az),(35,.agg #[.int .u8 a2.Kind,.bool a2.Purl,iv a2.A,iv a2.B]),(36,.bool ((a8.Kind == a2.Kind) && ((a8.Purl == a2.Purl) && ((a8.A == a2.A) && ((a8.B == a2.B) && true))))),(37,.bool ((a8.Kind == a2.Kind) && ((a8.Purl == a2.Purl) && ((a8.A == a2.A) && ((a8.B == a2.B) && true)))))] (fin_of [none,none,none,none,some 7,some 8,some 9,some 10,some 11,some 12,some 15,some 16,some 17,some 18,some 19,some 20,some 21,some 22,some 23,some 24,some 25,some 26] d (by kernel_rfl) (by kernel_rfl)) (fun _ a w S=>?_)
 ·exact fM 0 none d d d d (.inl d) d d d
 ·exact fM 1 none d d d d (.inl d) d d d
 ·refine fJ [(11,_),(12,_)] 2 [some 0,some 1] fun G a w S=>?_
  exact sIdxV S (wN d) d d d bm d (lb d) fun a S=>leafL ⟨d,S⟩
 ·refine fJ [(13,_)] 3 [some 2] fun G a w S=>?_
  exact sFldV (q:=bl) S (wN d) d d bo d (lb d) fun a S=>leafL ⟨d,S⟩
 ·refine fJ [(14,_)] 4 [some 3] fun G a w S=>?_
  exact sLoadV1 (vq:=bn) 6 (.int .u8 a2.Kind) S (wN d) d d d d d (lb d) fun a S=>leafL ⟨d,S⟩
 ·refine fJ [(15,_)] 5 [some 4] fun G a w S=>?_
  exact sBin _ S (wN d) d d d (bEq _ _ _ _ .u8 a2.Kind 1) d (lb d) fun a S=>leafL ⟨d,S⟩
 ·exact fM 6 (some 5) d d d d (.inl d) d d d
 ·refine fJ [(4,_),(17,_)] 7 [none,some 6] fun G a w S=>?_
  exact sMove (iv a6) S (wG 6 true 17 d d d aa) (.inl d) d d (lb d) fun a S=>leafL ⟨d,S⟩
 ·refine fJ [(5,_),(17,_)] 8 [none,some 6] fun G a w S=>?_
  exact sMove (iv ab) S (wG 6 true 17 d d d aa) (.inl d) d d (lb d) fun a S=>leafL ⟨d,S⟩
 ·refine fJ [(18,_),(19,_),(17,_)] 9 [some 7,some 8,some 6] fun G a w S=>?_
  exact sBin _ S (wG 6 true 17 d d d aa) d d d (bAdd _ _ _ _ a6 ab) d (lb d) fun a S=>leafL ⟨d,S⟩
 ·refine fJ [(0,_),(17,_)] 10 [none,some 6] fun G a w S=>?_
  exact sMove (.slice ac p0.length ae) S (wG 6 true 17 d d d aa) (.inl d) d d (lb d) fun a S=>leafL ⟨d,S⟩
 ·refine fJ [(21,_),(17,_)] 11 [some 10,some 6] fun G a w S=>?_
  exact sLen S (wG 6 true 17 d d d aa) d Tryd.underlying52 d d (lb d) fun a S=>leafL ⟨d,S⟩
 ·refine fJ [(20,_),(22,_),(17,_)] 12 [some 9,some 11,some 6] fun G a w S=>?_
  exact sBin _ S (wG 6 true 17 d d d aa) d d d (bLt _ _ _ _ .i64 (w64 (a6 + ab)) (p0.length:Int)) d (lb d) fun a S=>leafL ⟨d,S⟩
 ·refine fJ [(17,_),(23,_)] 13 [some 6,some 12] fun G a w S=>?_
  exact sPickT (.bool (decide ((w64 (a6 + ab)) < (p0.length:Int)))) S (wN d) d d aa d d (lb d) fun a S=>leafL ⟨d,S⟩
 ·exact fM 14 (some 13) d d d d (.inl d) d d d
 ·refine fJ [(0,_),(25,_)] 15 [none,some 14] fun G a w S=>?_
  exact sMove (.slice ac p0.length ae) S (wG 14 true 25 d d d a7) (.inl d) d d (lb d) fun a S=>leafL ⟨d,S⟩
 ·refine fJ [(4,_),(25,_)] 16 [none,some 14] fun G a w S=>?_
  exact sMove (iv a6) S (wG 14 true 25 d d d a7) (.inl d) d d (lb d) fun a S=>leafL ⟨d,S⟩
 ·refine fJ [(5,_),(25,_)] 17 [none,some 14] fun G a w S=>?_
  exact sMove (iv ab) S (wG 14 true 25 d d d a7) (.inl d) d d (lb d) fun a S=>leafL ⟨d,S⟩
 ·refine fJ [(27,_),(28,_),(25,_)] 18 [some 16,some 17,some 14] fun G a w S=>?_
  exact sBin _ S (wG 14 true 25 d d d a7) d d d (bAdd _ _ _ _ a6 ab) d (lb d) fun a S=>leafL ⟨d,S⟩
 ·refine fJ [(26,_),(29,_),(25,_)] 19 [some 15,some 18,some 14] fun G a w S=>?_
  exact sIdxV S (wG 14 true 25 d d d a7) d d d bp d (lb d) fun a S=>leafL ⟨d,S⟩
 ·refine fJ [(30,_),(25,_)] 20 [some 19,some 14] fun G a w S=>?_
  exact sLoadVN (vq:=ay) 3 [.int .u8 a8.Kind,.bool a8.Purl,iv a8.A,iv a8.B] S (wG 14 true 25 d d d a7) d d d d d d (lb d) fun a S=>leafL ⟨d,S⟩
 ·refine fJ [(0,_),(25,_)] 21 [none,some 14] fun G a w S=>?_
  exact sMove (.slice ac p0.length ae) S (wG 14 true 25 d d d a7) (.inl d) d d (lb d) fun a S=>leafL ⟨d,S⟩
 ·refine fJ [(4,_),(25,_)] 22 [none,some 14] fun G a w S=>?_
  exact sMove (iv a6) S (wG 14 true 25 d d d a7) (.inl d) d d (lb d) fun a S=>leafL ⟨d,S⟩
 ·refine fJ [(32,_),(33,_),(25,_)] 23 [some 21,some 22,some 14] fun G a w S=>?_
  exact sIdxV S (wG 14 true 25 d d d a7) d d d bq d (lb d) fun a S=>leafL ⟨d,S⟩
 ·refine fJ [(34,_),(25,_)] 24 [some 23,some 14] fun G a w S=>?_
  exact sLoadVN (vq:=az) 0 [.int .u8 a2.Kind,.bool a2.Purl,iv a2.A,iv a2.B] S (wG 14 true 25 d d d a7) d d d d d d (lb d) fun a S=>leafL ⟨d,S⟩
 ·refine fJ [(31,_),(35,_),(25,_)] 25 [some 20,some 24,some 14] fun G a w S=>?_
  exact sBin _ S (wG 14 true 25 d d d a7) d d d (bEqV _ _ _ _ #[.int .u8 a8.Kind,.bool a8.Purl,iv a8.A,iv a8.B] #[.int .u8 a2.Kind,.bool a2.Purl,iv a2.A,iv a2.B] ((a8.Kind == a2.Kind) && ((a8.Purl == a2.Purl) && ((a8.A == a2.A) && ((a8.B == a2.B) && true)))) (by kernel_rfl) (eqlV_of (by kernel_rfl))) d (lb d) fun a S=>leafL ⟨d,S⟩
 ·refine fJ [(25,_),(36,_)] 26 [some 14,some 25] fun G a w S=>?_
  exact sPickT (.bool ((a8.Kind == a2.Kind) && ((a8.Purl == a2.Purl) && ((a8.A == a2.A) && ((a8.B == a2.B) && true))))) S (wN d) d d a7 d d (lb d) fun a S=>leafL ⟨d,S⟩
 exact leafT (⟨((a8.Kind == a2.Kind) && ((a8.Purl == a2.Purl) && ((a8.A == a2.A) && ((a8.B == a2.B) && true)))),Option.some.inj h,S.fix [0] [10] (by decide) d d d⟩)
noncomputable def F_stitch_Text (p0:(List api_Stitch)):Option (ByteArray × Int):=
 (F_stitch_All p0).bind fun r6=>
 if r6 != 0 then
  some ((⟨#[]⟩:ByteArray),r6)
 else
  (F_stitch_text p0).bind fun a2=>
  if decide (3000 < (a2.size:Int)) then
   some ((⟨#[]⟩:ByteArray),4)
  else
   some (a2,0)
theorem c_stitch_Text (E:Nat→Prop) (w0:World) (p0:(List api_Stitch)) (v0:Value) (r:(ByteArray × Int)) (h:F_stitch_Text p0=some r) (S:St0 E [] w0 w0 [] [fRep (rL r_api_Stitch) (v0) p0]) :
 Calls Tryd.prog 33 #[v0] w0 (Ret (X:=Unit) E [] w0 (fun _=>.tuple #[.string r.1,.int .i64 r.2]) (fun _=>[]) (fun _=>[])):=by
 unfold F_stitch_Text at h
 obtain ⟨a7,a8,_,rfl,_⟩:=S.know (i:=0) (e:=fRep (rL r_api_Stitch) (v0) p0) d
 refine sEnter (args:=[.slice a7 p0.length a8]) 17 Tryd.func33 d d (by simp) S (fun a S=>?_)
 refine sSeq (fun K3 aj=>sRegion (sN S fun a S=>?_))
 refine sN S fun a S=>?_
 refine lT (aj _ _ (sSeq (fun K4 ak=>sSeq (fun K5 al=>sRegion (sM S fun a S=>?_)))))
 obtain ⟨r6,am,h⟩:=bS h
 have S1:=S.mem
 refine sCq [.slice a7 p0.length a8] (iv r6) S callee40 (S1.quiet [0] d) (fun E1 w1 S1=>c_stitch_All E1 w1 p0 (.slice a7 p0.length a8) r6 am S1) fun a w S=>?_
 refine sN S fun a S=>?_
 refine lT (al _ _ (sSeq (fun K8 ao=>sRegion (sM S fun a S=>?_))))
 refine sBin _ S (wN d) d d d (bNe _ _ _ _ .i64 r6 0) d (lb d) fun a S=>lT (ao _ _ ?_)
 rcases iS h with ⟨aa,h⟩ | ⟨aa,h⟩
 ·refine sCondT S d aa (sSeq (fun ap ab=>sRegion (sM S fun a S=>?_)))
  refine sN S fun a S=>?_
  refine sN S fun a S=>?_
  refine lT (ab _ _ ?_)
  obtain rfl:=tS h
  exact wp_ret (rThen (sRet (.tuple #[.string (⟨#[]⟩:ByteArray),iv r6]) S (rsl2 d (rvT (t:=2) (v:=.string (⟨#[]⟩:ByteArray)) S d) (rvT (t:=3) (v:=iv r6) S d)) ⟨(),d,S.mem.sel [] [] (by decide) d d⟩))
 refine sCondF S d aa (wp_skip (leafT (ak _ _ ?_)))
 refine sSeq (fun aq ac=>sRegion (sM S fun a S=>?_))
 obtain ⟨a6,ae,h⟩:=bS h
 have S1:=S.mem
 refine sCq [.slice a7 p0.length a8] (.string a6) S callee48 (S1.quiet [0] d) (fun E1 w1 S1=>c_stitch_text E1 w1 p0 (.slice a7 p0.length a8) a6 ae S1) fun a w S=>?_
 refine sN S fun a S=>?_
 refine lT (ac _ _ (sSeq (fun ar af=>sSeq (fun au ag=>sRegion (sM S fun a S=>?_)))))
 refine sLenS (v:=a6) S (wN d) d Tryd.underlying9 d d (lb d) fun a S=>sBin _ S (wN d) d d d (bGt _ _ _ _ .i64 (a6.size:Int) 3000) d (lb d) fun a S=>lT (ag _ _ ?_)
 rcases iS h with ⟨a2,h⟩ | ⟨a2,h⟩
 ·refine sCondT S d a2 (sSeq (fun av ah=>sRegion (sN S fun a S=>?_)))
  refine sN S fun a S=>?_
  refine lT (ah _ _ ?_)
  obtain rfl:=tS h
  exact wp_ret (rThen (sRet (.tuple #[.string (⟨#[]⟩:ByteArray),iv 4]) S (rsl2 d (rvT (t:=2) (v:=.string (⟨#[]⟩:ByteArray)) S d) (rvT (t:=3) (v:=iv 4) S d)) ⟨(),d,S.mem.sel [] [] (by decide) d d⟩))
 refine sCondF S d a2 (wp_skip (leafT (af _ _ ?_)))
 refine sSeq (fun aw ai=>sRegion (sM S fun a S=>?_))
 refine sN S fun a S=>?_
 refine sN S fun a S=>?_
 refine lT (ai _ _ ?_)
 obtain rfl:=tS h
 exact wp_ret (sRet (.tuple #[.string a6,iv 0]) S (rsl2 d (rvT (t:=2) (v:=.string a6) S d) (rvT (t:=3) (v:=iv 0) S d)) ⟨(),d,S.mem.sel [] [] (by decide) d d⟩)
noncomputable def F_raddlelaw37_row (p0:api_Piece):Option ByteArray:=
 (F_piece_Chart p0).bind fun a2=>
 Option.bind (α:=Bool) (
  if a2.2 != 0 then
   some true
  else
   some ((a2.1.Rows.length:Int) != 1)) fun a7=>
 if a7 then
  some (⟨#[]⟩:ByteArray)
 else
  (idxO a2.1.Rows 0).bind fun a8=>
  (F_stitch_Text a8.Cells).bind fun a6=>
  if a6.2 != 0 then
   some (⟨#[]⟩:ByteArray)
  else
   some a6.1
theorem c_raddlelaw37_row (E:Nat→Prop) (w0:World) (p0:api_Piece) (v0:Value) (r:ByteArray) (h:F_raddlelaw37_row p0=some r) (S:St0 E [] w0 w0 [] [fRep r_api_Piece (v0) p0]) :
 Calls Tryd.prog 26 #[v0] w0 (Ret (X:=Unit) E [] w0 (fun _=>.string r) (fun _=>[]) (fun _=>[])):=by
 unfold F_raddlelaw37_row at h
 obtain ⟨u1,u2,rfl,aI,aJ⟩:=S.know (i:=0) (e:=fRep r_api_Piece (v0) p0) d
 have S:=S.learn (fRep (rL (rI .i64)) u1 p0.Left) aI
 obtain ⟨ab,ac,_,rfl,_⟩:=aI
 have S:=S.learn (fRep (rL (rI .i64)) u2 p0.Right) aJ
 obtain ⟨ae,af,_,rfl,_⟩:=aJ
 refine sEnter (args:=[.agg #[.slice ab p0.Left.length ac,.slice ae p0.Right.length af]]) 32 Tryd.func26 d d (by simp) S (fun a S=>?_)
 refine sSeq (fun K9 aO=>sRegion (sBox (v:=.agg #[.slice ab p0.Left.length ac,.slice ae p0.Right.length af]) S (wN d) d d [.slice ab p0.Left.length ac,.slice ae p0.Right.length af] d d (lb d) fun a aK w S=>sN S fun a S=>?_))
 refine lT (aO _ _ (sSeq (fun aU ao=>sRegion (sLoadN (p:=aK) (off:=0) (T:=30) (vs:=[.slice ab p0.Left.length ac,.slice ae p0.Right.length af]) 0 [.slice ab p0.Left.length ac,.slice ae p0.Right.length af] S (wN d) d d d d d d d (lb d) fun a S=>?_))))
 obtain ⟨a2,ap,h⟩:=bS h
 refine sCall (X:=Value) (f:=17) (vs:=[.agg #[.slice ab p0.Left.length ac,.slice ae p0.Right.length af]]) (val:=c_piece_Chart_val a2) (B':=fun _=>[]) (D':=c_piece_Chart_D a2) [] [eBox aK 30 [.slice ab p0.Left.length ac,.slice ae p0.Right.length af]] [fRep r_api_Piece (.agg #[.slice ab p0.Left.length ac,.slice ae p0.Right.length af]) p0] [0] [2] S (wN d) d callee17 d (by decide) d d (fun E1 w1 S1=>c_piece_Chart E1 w1 p0 (.agg #[.slice ab p0.Left.length ac,.slice ae p0.Right.length af]) a2 ap S1) d (lb d) fun aP a w S=>?_
 obtain ⟨aQ,rfl,al⟩:=S.mem.know (i:=0) (e:=fRep r_api_Chart (aP) a2.1) d
 have S:=S.learn (fRep (rL r_api_Row) aQ a2.1.Rows) al
 obtain ⟨a6,a7,_,rfl,_⟩:=al
 refine sM S fun a S=>?_
 refine sExtract (vs:=[.agg #[iv a2.1.Start,.slice a6 a2.1.Rows.length a7],iv a2.2]) (.agg #[iv a2.1.Start,.slice a6 a2.1.Rows.length a7]) S (wN d) d d d d (lb d) fun a S=>sExtract (vs:=[.agg #[iv a2.1.Start,.slice a6 a2.1.Rows.length a7],iv a2.2]) (iv a2.2) S (wN d) d d d d (lb d) fun a S=>sAlloc (.agg #[iv 0,.slice none 0 0]) S (wN d) d d [iv 0,.slice none 0 0] d d (lb d) fun a am w S=>sStore (p:=am) (off:=0) (T:=40) (vs:=[iv 0,.slice none 0 0]) (v:=.agg #[iv a2.1.Start,.slice a6 a2.1.Rows.length a7]) 0 [iv a2.1.Start,.slice a6 a2.1.Rows.length a7] S (wN d) d d d d d d d (by simp) d fun a w S=>sN S fun a S=>?_
 refine lT (ao _ _ (sSeq (fun aV aq=>?_)))
 obtain ⟨aR,h,aS⟩:=bS h
 refine sCut (fun a w=>∃ ar,ar=aR∧St [] E [] w0 32 a w [(3,.pointer (some ⟨am,0,none⟩)),(19,.bool ar)] [eBox am 40 [iv a2.1.Start,.slice a6 a2.1.Rows.length a7]] [fRep (rL r_api_Row) (.slice a6 a2.1.Rows.length a7) a2.1.Rows]) ?_ (fun a w hI=>?_)
 ·refine sRegion (sM S fun a S=>?_)
  refine sBin _ S (wN d) d d d (bNe _ _ _ _ .i64 a2.2 0) d (lb d) fun a S=>sM S fun a S=>?_
  rcases iS h with ⟨a8,h⟩ | ⟨a8,h⟩
  ·refine sSkN 4 2 false 14 S d d a8 d fun a S=>sPickT (.bool true) S (wN d) d d a8 d d (lb d) fun a S=>?_
   exact lT (⟨true,Option.some.inj h,S.fix [0] [0] (by decide) d d d⟩)
  refine sField (b:=am) (off:=0) 1 1 S (wG 2 false 14 d d d a8) d d d d d (lb d) fun a S=>sLoad1 0 (.slice a6 a2.1.Rows.length a7) S (wG 2 false 14 d d d a8) d d d d d d (lb d) fun a S=>sLen S (wG 2 false 14 d d d a8) d Tryd.underlying38 d d (lb d) fun a S=>sBin _ S (wG 2 false 14 d d d a8) d d d (bNe _ _ _ _ .i64 (a2.1.Rows.length:Int) 1) d (lb d) fun a S=>sPickF (.bool ((a2.1.Rows.length:Int) != 1)) S (wN d) d d a8 d d (lb d) fun a S=>?_
  exact lT (⟨(a2.1.Rows.length:Int) != 1,Option.some.inj h,S.fix [0] [0] (by decide) d d d⟩)
 obtain ⟨ar,rfl,S⟩:=hI
 have h:=aS
 try dsimp only at h
 rcases iS h with ⟨ag,h⟩ | ⟨ag,h⟩
 ·refine sCondT S d ag (sSeq (fun aW au=>sRegion (sN S fun a S=>?_)))
  refine lT (au _ _ ?_)
  obtain rfl:=tS h
  exact wp_ret (rThen (sRet (.string (⟨#[]⟩:ByteArray)) S (rsl1 d (rvT (t:=2) (v:=.string (⟨#[]⟩:ByteArray)) S d)) ⟨(),d,S.mem.sel [] [] (by decide) d d⟩))
 refine sCondF S d ag (wp_skip (leafT (aq _ _ ?_)))
 refine sSeq (fun aX av=>sRegion (sField (b:=am) (off:=0) 1 1 S (wN d) d d d d d (lb d) fun a S=>sLoad1 0 (.slice a6 a2.1.Rows.length a7) S (wN d) d d d d d d (lb d) fun a S=>?_))
 obtain ⟨ah,aw,h⟩:=bS h
 obtain ⟨aL,ax,S⟩:=pIdx (P:=Tryd.prog) (r:=r_api_Row) (v:=.slice a6 a2.1.Rows.length a7) (xs:=a2.1.Rows) (j:=0) 38 54 0 S Tryd.underlying38 d d aw
 refine sIdxV S (wN d) d d d ax d (lb d) fun a S=>?_
 obtain ⟨aM,ay,S⟩:=pFld (P:=Tryd.prog) (r:=r_api_Row) (s2:=(rL r_api_Stitch)) (g:=(·.Cells)) (q:=aL) (z:=ah) 54 1 0 1 S d d comp_api_Row_Cells
 refine sFldV (q:=aL) S (wN d) d d ay d (lb d) fun a S=>?_
 obtain ⟨aT,S⟩:=pLoad (r:=(rL r_api_Stitch)) (q:=aM) (x:=ah.Cells) 0 S d
 obtain ⟨ai,aj,_,rfl,_⟩:=S.mem.know (i:=1) (e:=fRep (rL r_api_Stitch) (aT) ah.Cells) d
 refine sLoadV1 (vq:=aM) 0 (.slice ai ah.Cells.length aj) S (wN d) d d d d d (lb d) fun a S=>?_
 obtain ⟨aa,az,h⟩:=bS h
 have S1:=S.mem
 refine sCq [.slice ai ah.Cells.length aj] (.tuple #[.string aa.1,iv aa.2]) S callee33 (S1.quiet [1] d) (fun E1 w1 S1=>c_stitch_Text E1 w1 ah.Cells (.slice ai ah.Cells.length aj) aa az S1) fun a w S=>?_
 refine sM S fun a S=>?_
 refine sExtract (vs:=[.string aa.1,iv aa.2]) (.string aa.1) S (wN d) d d d d (lb d) fun a S=>sExtract (vs:=[.string aa.1,iv aa.2]) (iv aa.2) S (wN d) d d d d (lb d) fun a S=>sN S fun a S=>?_
 refine sN S fun a S=>?_
 refine lT (av _ _ (sSeq (fun aZ aA=>sSeq (fun b0 aC=>sRegion (sM S fun a S=>?_)))))
 refine sBin _ S (wN d) d d d (bNe _ _ _ _ .i64 aa.2 0) d (lb d) fun a S=>lT (aC _ _ ?_)
 rcases iS h with ⟨ak,h⟩ | ⟨ak,h⟩
 ·refine sCondT S d ak (sSeq (fun b1 aG=>sRegion (sN S fun a S=>?_)))
  refine lT (aG _ _ ?_)
  obtain rfl:=tS h
  exact wp_ret (rThen (sRet (.string (⟨#[]⟩:ByteArray)) S (rsl1 d (rvT (t:=2) (v:=.string (⟨#[]⟩:ByteArray)) S d)) ⟨(),d,S.mem.sel [] [] (by decide) d d⟩))
 refine sCondF S d ak (wp_skip (leafT (aA _ _ ?_)))
 refine sSeq (fun b8 aH=>sRegion (sM S fun a S=>?_))
 refine sN S fun a S=>?_
 refine lT (aH _ _ ?_)
 obtain rfl:=tS h
 exact wp_ret (sRet (.string aa.1) S (rsl1 d (rvT (t:=2) (v:=.string aa.1) S d)) ⟨(),d,S.mem.sel [] [] (by decide) d d⟩)
noncomputable def F_raddlelaw37_step_s0 (p0:Int) (p1:Int) (p2:Int) (p3:Int):Option api_Piece:=
 some (api_Piece.mk ([p0,p2]:List Int) ([p1,p3]:List Int))
theorem c_raddlelaw37_step_s0 (E:Nat→Prop) (w0:World) (p0:Int) (p1:Int) (p2:Int) (p3:Int) (r:api_Piece) (h:F_raddlelaw37_step_s0 p0 p1 p2 p3=some r) (S:St0 E [] w0 w0 [] []) :
 Calls Tryd.prog 27 #[iv p0,iv p1,iv p2,iv p3] w0 (Ret (X:=Option Addr × Nat × Option Addr × Nat) E [] w0 (fun x=>.agg #[.slice x.1 r.Left.length x.2.1,.slice x.2.2.1 r.Right.length x.2.2.2]) (fun x=>[eRow (rI .i64) 3 (.slice x.1 r.Left.length x.2.1) r.Left,eRow (rI .i64) 3 (.slice x.2.2.1 r.Right.length x.2.2.2) r.Right]) (fun _=>[])):=by
 unfold F_raddlelaw37_step_s0 at h
 refine sEnter (args:=[iv p0,iv p1,iv p2,iv p3]) 16 Tryd.func27 d d (by simp) S (fun a S=>?_)
 refine sSeq (fun K1 aa=>sRegion (sAlloc (.agg #[.slice none 0 0,.slice none 0 0]) S (wN d) d d [.slice none 0 0,.slice none 0 0] d d (lb d) fun a b2 w S=>lT (aa _ _ (sSeq (fun K3 ab=>sRegion (sM S fun a S=>?_))))))
 refine sM S fun a S=>?_
 refine sLit (r:=(rI .i64)) (T:=3) (xs:=([p0,p2]:List Int)) [(0,iv p0),(1,iv p2)] 2 [iv p0,iv p2] [iv p0,iv p2] (iv 0) 8 S (wN d) d d Tryd.underlying28 d (by decide) (by decide) (by kernel_rfl) d (fun E1 w1 hE=>All.cons d (All.cons d (All.nil _ _ _))) d d (lb d) fun a w a2 a6 S=>?_
 refine sM S fun a S=>?_
 refine sM S fun a S=>?_
 refine sLit (r:=(rI .i64)) (T:=3) (xs:=([p1,p3]:List Int)) [(0,iv p1),(1,iv p3)] 2 [iv p1,iv p3] [iv p1,iv p3] (iv 0) 8 S (wN d) d d Tryd.underlying28 d (by decide) (by decide) (by kernel_rfl) d (fun E1 w1 hE=>All.cons d (All.cons d (All.nil _ _ _))) d d (lb d) fun a w a7 a8 S=>?_
 refine sBuild [(0,.slice a2 ([p0,p2]:List Int).length a6),(1,.slice a7 ([p1,p3]:List Int).length a8)] [.slice a2 ([p0,p2]:List Int).length a6,.slice a7 ([p1,p3]:List Int).length a8] S (wN d) d d d d (lb d) fun a S=>sStore (p:=b2) (off:=0) (T:=30) (vs:=[.slice none 0 0,.slice none 0 0]) (v:=.agg #[.slice a2 ([p0,p2]:List Int).length a6,.slice a7 ([p1,p3]:List Int).length a8]) 2 [.slice a2 ([p0,p2]:List Int).length a6,.slice a7 ([p1,p3]:List Int).length a8] S (wN d) d d d d d d d (by simp) d fun a w S=>lT (ab _ _ ?_)
 obtain rfl:=tS h
 exact wp_ret (sRet (.agg #[.slice a2 ([p0,p2]:List Int).length a6,.slice a7 ([p1,p3]:List Int).length a8]) S (rsl1 d (rvN (c:=8) (t:=30) (T:=30) (p:=b2) 0 [.slice a2 ([p0,p2]:List Int).length a6,.slice a7 ([p1,p3]:List Int).length a8] S d d d d)) ⟨(a2,a6,a7,a8),d,S.mem.sel [2,1] [] (by decide) d d⟩)
noncomputable def F_gauge_within (p0:Int) (p1:Int) (p2:Int):Option Bool:=
 Option.bind (α:=Bool) (
  if decide (p1 ≤ p0) then
   some (decide (p0 ≤ p2))
  else
   some false) fun o2=>
 some o2
theorem c_gauge_within (E:Nat→Prop) (w0:World) (p0:Int) (p1:Int) (p2:Int) (r:Bool) (h:F_gauge_within p0 p1 p2=some r) (S:St0 E [] w0 w0 [] []) :
 Calls Tryd.prog 77 #[iv p0,iv p1,iv p2] w0 (Ret (X:=Unit) E [] w0 (fun _=>.bool r) (fun _=>[]) (fun _=>[])):=by
 unfold F_gauge_within at h
 refine sEnter (args:=[iv p0,iv p1,iv p2]) 15 Tryd.func77 d d (by simp) S (fun a S=>?_)
 refine sSeq (fun K1 a6=>sRegion (sN S fun a S=>?_))
 refine lT (a6 _ _ ?_)
 obtain ⟨t3,h,g4⟩:=bS h
 refine sCut (fun a w=>∃ o2,o2=t3∧St [] E [] w0 15 a w [(6,.bool o2)] [] []) ?_ (fun a w hI=>?_)
 rotate_left
 ·obtain ⟨o2,rfl,S⟩:=hI
  have h:=g4
  try dsimp only at h
  obtain rfl:=tS h
  exact wp_ret (sRet (.bool o2) S (rsl1 d (rvT (t:=6) (v:=.bool o2) S d)) ⟨(),d,S.mem.sel [] [] (by decide) d d⟩)
 refine sRegion (sM S fun a S=>?_)
 refine sM S fun a S=>?_
 refine sBin _ S (wN d) d d d (bGe _ _ _ _ .i64 p0 p1) d (lb d) fun a S=>sM S fun a S=>?_
 rcases iS h with ⟨a2,h⟩ | ⟨a2,h⟩
 rotate_left
 ·refine sSkN 3 3 true 10 S d d a2 d fun a S=>sPickF (.bool false) S (wN d) d d a2 d d (lb d) fun a S=>sN S fun a S=>?_
  exact lT (⟨false,Option.some.inj h,S.fix [] [] (by decide) d d d⟩)
 refine sMove (iv p0) S (wG 3 true 10 d d d a2) (.inl d) d d (lb d) fun a S=>sMove (iv p2) S (wG 3 true 10 d d d a2) (.inl d) d d (lb d) fun a S=>sBin _ S (wG 3 true 10 d d d a2) d d d (bLe _ _ _ _ .i64 p0 p2) d (lb d) fun a S=>sPickT (.bool (decide (p0 ≤ p2))) S (wN d) d d a2 d d (lb d) fun a S=>sN S fun a S=>?_
 exact lT (⟨decide (p0 ≤ p2),Option.some.inj h,S.fix [] [] (by decide) d d d⟩)
noncomputable def gauge_Check_l1 (p0:api_Gauge):Int→Option (Int ⊕ (Int ⊕ Unit)):=fun s0=>match s0 with
 | s6=>
  if decide (s6 < 4) then
   (idxO ([p0.Stitches,p0.Width,p0.Rows,p0.Height]:List Int) s6).bind fun a2=>
   (F_gauge_within a2 1 10000).bind fun a6=>
   if !a6 then
    some (.inr (.inl 8))
   else
    some (.inl (w64 (s6 + 1)))
  else
   some (.inr (.inr ()))
noncomputable def F_gauge_Check (p0:api_Gauge):Option Int:=
 Option.bind (α:=Unit ⊕ Int) (
  (whileO (gauge_Check_l1 p0) 0).bind fun z0=>match z0 with
   | .inl z=>
    some (.inr z)
   | .inr _=>
    some (.inl ())) fun z0=>match z0 with
  | .inl _=>
   some 0
  | .inr z=>
   some z
theorem c_gauge_Check (E:Nat→Prop) (w0:World) (p0:api_Gauge) (v0:Value) (r:Int) (h:F_gauge_Check p0=some r) (S:St0 E [] w0 w0 [] [fRep r_api_Gauge (v0) p0]) :
 Calls Tryd.prog 76 #[v0] w0 (Ret (X:=Unit) E [] w0 (fun _=>.int .i64 r) (fun _=>[]) (fun _=>[])):=by
 unfold F_gauge_Check at h
 obtain rfl:v0=.agg #[iv p0.Stitches,iv p0.Width,iv p0.Rows,iv p0.Height]:=S.know (i:=0) (e:=fRep r_api_Gauge (v0) p0) d
 refine sEnter (args:=[.agg #[iv p0.Stitches,iv p0.Width,iv p0.Rows,iv p0.Height]]) 21 Tryd.func76 d d (by simp) S (fun a S=>?_)
 refine sSeq (fun K1 al=>sRegion (sBox (v:=.agg #[iv p0.Stitches,iv p0.Width,iv p0.Rows,iv p0.Height]) S (wN d) d d [iv p0.Stitches,iv p0.Width,iv p0.Rows,iv p0.Height] d d (lb d) fun a b2 w S=>sN S fun a S=>?_))
 refine lT (al _ _ ?_)
 obtain ⟨t3,h,g4⟩:=bS h
 refine sCut (fun a w=>.inl ()=t3∧St [] E [] w0 21 a w [] [] []) ?_ (fun a w hI=>?_)
 rotate_left
 ·obtain ⟨rfl,S⟩:=hI
  have h:=g4
  try dsimp only at h
  refine sSeq (fun ao a7=>sRegion (sN S fun a S=>?_))
  refine lT (a7 _ _ ?_)
  obtain rfl:=tS h
  exact wp_ret (sRet (iv 0) S (rsl1 d (rvT (t:=2) (v:=iv 0) S d)) ⟨(),d,S.mem.sel [] [] (by decide) d d⟩)
 refine sSeq (fun K5 am=>sRegion (sField (b:=b2) (off:=0) 0 0 S (wN d) d d d d d (lb d) fun a S=>sLoad1 0 (iv p0.Stitches) S (wN d) d d d d d d (lb d) fun a S=>sField (b:=b2) (off:=0) 1 1 S (wN d) d d d d d (lb d) fun a S=>sLoad1 0 (iv p0.Width) S (wN d) d d d d d d (lb d) fun a S=>sField (b:=b2) (off:=0) 2 2 S (wN d) d d d d d (lb d) fun a S=>sLoad1 0 (iv p0.Rows) S (wN d) d d d d d d (lb d) fun a S=>sField (b:=b2) (off:=0) 3 3 S (wN d) d d d d d (lb d) fun a S=>sLoad1 0 (iv p0.Height) S (wN d) d d d d d d (lb d) fun a S=>sBuild [(0,iv p0.Stitches),(1,iv p0.Width),(2,iv p0.Rows),(3,iv p0.Height)] [iv p0.Stitches,iv p0.Width,iv p0.Rows,iv p0.Height] S (wN d) d d d d (lb d) fun a S=>sM S fun a S=>?_))
 refine lT (am _ _ (wp_block ?_))
 obtain ⟨t9,hl,g8⟩:=bS h
 refine sLoop hl (fun s0 a w=>match s0 with | s6=>St [] E [] w0 21 a w [(13,.agg #[iv p0.Stitches,iv p0.Width,iv p0.Rows,iv p0.Height]),(14,iv s6)] [] []) (S.fix [] [] (by decide) d d d) ?_
 clear hl h
 intro s6 a w c0 hI h aj
 unfold gauge_Check_l1 at h
 dsimp only at h hI
 have S:=hI
 refine sSeq (fun ap a8=>sRegion (sBin _ S (wN d) d d d (bLt _ _ _ _ .i64 s6 4) d (lb d) fun a S=>lT (a8 _ _ (sSeq (fun aq aa=>?_)))))
 rcases iS h with ⟨a2,h⟩ | ⟨a2,h⟩
 rotate_left
 ·refine sCondF S d a2 ?_
  obtain rfl:=tS h
  obtain rfl:=aj _ d
  have h:=g8
  try dsimp only at h
  exact wp_exit (xThen (xThen (xHit (leafT (⟨Option.some.inj h,S.fix [] [] (by decide) d d d⟩)))))
 refine sCondT S d a2 (wp_skip (leafT (aa _ _ ?_)))
 refine sSeq (fun ar ab=>wp_block ?_)
 refine sSeq (fun au ac=>sRegion ?_)
 obtain ⟨ak,ae,h⟩:=bS h
 refine sIndexA (g:=fun z=>.int .i64 z) (xs:=([p0.Stitches,p0.Width,p0.Rows,p0.Height]:List Int)) (j:=s6) (k:=.i64) 4 [iv p0.Stitches,iv p0.Width,iv p0.Rows,iv p0.Height] S (wN d) d Tryd.underlying120 d d d d d d ae d (lb d) fun a S=>sN S fun a S=>?_
 refine lT (ac _ _ (sSeq (fun av af=>sRegion (sM S fun a S=>?_))))
 obtain ⟨ag,ah,h⟩:=bS h
 have S1:=S.mem
 refine sCq [iv ak,iv 1,iv 10000] (.bool ag) S callee77 (S1.quiet [] d) (fun E1 w1 S1=>c_gauge_within E1 w1 ak 1 10000 ag ah S1) fun a w S=>?_
 refine sNot (b:=ag) S (wN d) d d d (lb d) fun a S=>lT (af _ _ ?_)
 rcases iS h with ⟨a6,h⟩ | ⟨a6,h⟩
 rotate_left
 ·refine sCondF S d a6 (wp_skip (leafB (leafT (ab _ _ ?_))))
  refine sRegion (sBin _ S (wN d) d d d (bAdd _ _ _ _ s6 1) d (lb d) fun a S=>sM S fun a S=>?_)
  exact lT (⟨w64 (s6 + 1),(Option.some.inj h).symm,(S.fix [] [] (by decide) d d d)⟩)
 refine sCondT S d a6 (sSeq (fun aw ai=>sRegion (sN S fun a S=>?_)))
 refine lT (ai _ _ ?_)
 obtain rfl:=tS h
 obtain rfl:=aj _ d
 have h:=g8
 try dsimp only at h
 obtain rfl:=tS h
 have h:=g4
 try dsimp only at h
 obtain rfl:=tS h
 exact wp_ret (rBlock (rThen (rThen (rBlock (rThen (sRet (iv 8) S (rsl1 d (rvT (t:=2) (v:=iv 8) S d)) ⟨(),d,S.mem.sel [] [] (by decide) d d⟩))))))
noncomputable def F_gauge_ratio_of (p0:gauge_ratio) (p1:Int):Option Int:=
 (quoI (w64 ((w64 ((w64 (2 * p1)) * p0.num)) + p0.den)) (w64 (2 * p0.den))).bind fun z4=>
 some z4
theorem c_gauge_ratio_of (E:Nat→Prop) (w0:World) (p0:gauge_ratio) (v0:Value) (p1:Int) (r:Int) (h:F_gauge_ratio_of p0 p1=some r) (S:St0 E [] w0 w0 [] [fRep r_gauge_ratio (v0) p0]) :
 Calls Tryd.prog 78 #[v0,iv p1] w0 (Ret (X:=Unit) E [] w0 (fun _=>.int .i64 r) (fun _=>[]) (fun _=>[])):=by
 unfold F_gauge_ratio_of at h
 obtain rfl:v0=.agg #[iv p0.num,iv p0.den]:=S.know (i:=0) (e:=fRep r_gauge_ratio (v0) p0) d
 refine sEnter (args:=[.agg #[iv p0.num,iv p0.den],iv p1]) 17 Tryd.func78 d d (by simp) S (fun a S=>?_)
 refine sSeq (fun K1 a2=>sRegion (sBox (v:=.agg #[iv p0.num,iv p0.den]) S (wN d) d d [iv p0.num,iv p0.den] d d (lb d) fun a b2 w S=>sN S fun a S=>?_))
 refine lT (a2 _ _ (sSeq (fun K3 a6=>sRegion (sM S fun a S=>?_))))
 refine sBin _ S (wN d) d d d (bMul _ _ _ _ 2 p1) d (lb d) fun a S=>sField (b:=b2) (off:=0) 0 0 S (wN d) d d d d d (lb d) fun a S=>sLoad1 0 (iv p0.num) S (wN d) d d d d d d (lb d) fun a S=>sBin _ S (wN d) d d d (bMul _ _ _ _ (w64 (2 * p1)) p0.num) d (lb d) fun a S=>sField (b:=b2) (off:=0) 1 1 S (wN d) d d d d d (lb d) fun a S=>sLoad1 0 (iv p0.den) S (wN d) d d d d d d (lb d) fun a S=>sBin _ S (wN d) d d d (bAdd _ _ _ _ (w64 ((w64 (2 * p1)) * p0.num)) p0.den) d (lb d) fun a S=>sField (b:=b2) (off:=0) 1 1 S (wN d) d d d d d (lb d) fun a S=>sLoad1 0 (iv p0.den) S (wN d) d d d d d d (lb d) fun a S=>sBin _ S (wN d) d d d (bMul _ _ _ _ 2 p0.den) d (lb d) fun a S=>?_
 obtain ⟨z4,a7,h⟩:=bS h
 refine sBin _ S (wN d) d d d (bQuo _ _ _ _ (x:=w64 ((w64 ((w64 (2 * p1)) * p0.num)) + p0.den)) (y:=w64 (2 * p0.den)) a7) d (lb d) fun a S=>sN S fun a S=>?_
 refine lT (a6 _ _ ?_)
 obtain rfl:=tS h
 exact wp_ret (sRet (iv z4) S (rsl1 d (rvT (t:=4) (v:=iv z4) S d)) ⟨(),d,S.mem.sel [] [] (by decide) d d⟩)
noncomputable def F_gauge_scale (p0:api_Gauge) (p1:gauge_ratio) (p2:Int) (p3:Int) (p4:Int):Option (Int × Int):=
 (F_gauge_Check p0).bind fun r6=>
 if r6 != 0 then
  some (0,r6)
 else
  (F_gauge_within p2 0 p3).bind fun a6=>
  if !a6 then
   some (0,2)
  else
   (F_gauge_ratio_of p1 p2).bind fun a2=>
   if decide (p4 < a2) then
    some (0,16)
   else
    some (a2,0)
theorem c_gauge_scale (E:Nat→Prop) (w0:World) (p0:api_Gauge) (v0:Value) (p1:gauge_ratio) (v1:Value) (p2:Int) (p3:Int) (p4:Int) (r:(Int × Int)) (h:F_gauge_scale p0 p1 p2 p3 p4=some r) (S:St0 E [] w0 w0 [] [fRep r_api_Gauge (v0) p0,fRep r_gauge_ratio (v1) p1]) :
 Calls Tryd.prog 70 #[v0,v1,iv p2,iv p3,iv p4] w0 (Ret (X:=Unit) E [] w0 (fun _=>.tuple #[.int .i64 r.1,.int .i64 r.2]) (fun _=>[]) (fun _=>[])):=by
 unfold F_gauge_scale at h
 obtain rfl:v0=.agg #[iv p0.Stitches,iv p0.Width,iv p0.Rows,iv p0.Height]:=S.know (i:=0) (e:=fRep r_api_Gauge (v0) p0) d
 obtain rfl:v1=.agg #[iv p1.num,iv p1.den]:=S.know (i:=1) (e:=fRep r_gauge_ratio (v1) p1) d
 refine sEnter (args:=[.agg #[iv p0.Stitches,iv p0.Width,iv p0.Rows,iv p0.Height],.agg #[iv p1.num,iv p1.den],iv p2,iv p3,iv p4]) 30 Tryd.func70 d d (by simp) S (fun a S=>?_)
 refine sSeq (fun K1 ao=>sRegion (sBox (v:=.agg #[iv p0.Stitches,iv p0.Width,iv p0.Rows,iv p0.Height]) S (wN d) d d [iv p0.Stitches,iv p0.Width,iv p0.Rows,iv p0.Height] d d (lb d) fun a b2 w S=>sBox (v:=.agg #[iv p1.num,iv p1.den]) S (wN d) d d [iv p1.num,iv p1.den] d d (lb d) fun a b3 w S=>sN S fun a S=>?_))
 refine sN S fun a S=>?_
 refine lT (ao _ _ (sSeq (fun K4 ap=>sSeq (fun K5 aq=>sRegion (sLoadN (p:=b2) (off:=0) (T:=65) (vs:=[iv p0.Stitches,iv p0.Width,iv p0.Rows,iv p0.Height]) 1 [iv p0.Stitches,iv p0.Width,iv p0.Rows,iv p0.Height] S (wN d) d d d d d d d (lb d) fun a S=>?_)))))
 obtain ⟨r6,ar,h⟩:=bS h
 have S1:=S.mem
 refine sCq [.agg #[iv p0.Stitches,iv p0.Width,iv p0.Rows,iv p0.Height]] (iv r6) S callee76 (S1.quiet [0] d) (fun E1 w1 S1=>c_gauge_Check E1 w1 p0 (.agg #[iv p0.Stitches,iv p0.Width,iv p0.Rows,iv p0.Height]) r6 ar S1) fun a w S=>?_
 refine sN S fun a S=>?_
 refine lT (aq _ _ (sSeq (fun K8 au=>sRegion (sM S fun a S=>?_))))
 refine sBin _ S (wN d) d d d (bNe _ _ _ _ .i64 r6 0) d (lb d) fun a S=>lT (au _ _ ?_)
 rcases iS h with ⟨a8,h⟩ | ⟨a8,h⟩
 ·refine sCondT S d a8 (sSeq (fun av aa=>sRegion (sM S fun a S=>?_)))
  refine sN S fun a S=>?_
  refine sN S fun a S=>?_
  refine lT (aa _ _ ?_)
  obtain rfl:=tS h
  exact wp_ret (rThen (sRet (.tuple #[iv 0,iv r6]) S (rsl2 d (rvT (t:=10) (v:=iv 0) S d) (rvT (t:=11) (v:=iv r6) S d)) ⟨(),d,S.mem.sel [] [] (by decide) d d⟩))
 refine sCondF S d a8 (wp_skip (leafT (ap _ _ ?_)))
 refine sSeq (fun aw ab=>sSeq (fun ax ac=>sRegion (sM S fun a S=>?_)))
 refine sM S fun a S=>?_
 obtain ⟨ae,af,h⟩:=bS h
 have S1:=S.mem
 refine sCq [iv p2,iv 0,iv p3] (.bool ae) S callee77 (S1.quiet [] d) (fun E1 w1 S1=>c_gauge_within E1 w1 p2 0 p3 ae af S1) fun a w S=>?_
 refine sNot (b:=ae) S (wN d) d d d (lb d) fun a S=>lT (ac _ _ ?_)
 rcases iS h with ⟨a2,h⟩ | ⟨a2,h⟩
 ·refine sCondT S d a2 (sSeq (fun ay ag=>sRegion (sN S fun a S=>?_)))
  refine sN S fun a S=>?_
  refine lT (ag _ _ ?_)
  obtain rfl:=tS h
  exact wp_ret (rThen (sRet (.tuple #[iv 0,iv 2]) S (rsl2 d (rvT (t:=10) (v:=iv 0) S d) (rvT (t:=11) (v:=iv 2) S d)) ⟨(),d,S.mem.sel [] [] (by decide) d d⟩))
 refine sCondF S d a2 (wp_skip (leafT (ab _ _ ?_)))
 refine sSeq (fun az ah=>sRegion (sLoadN (p:=b3) (off:=0) (T:=123) (vs:=[iv p1.num,iv p1.den]) 0 [iv p1.num,iv p1.den] S (wN d) d d d d d d d (lb d) fun a S=>sM S fun a S=>?_))
 obtain ⟨a7,ai,h⟩:=bS h
 have S1:=S.mem
 refine sCq [.agg #[iv p1.num,iv p1.den],iv p2] (iv a7) S callee78 (S1.quiet [1] d) (fun E1 w1 S1=>c_gauge_ratio_of E1 w1 p1 (.agg #[iv p1.num,iv p1.den]) p2 a7 ai S1) fun a w S=>?_
 refine sN S fun a S=>?_
 refine lT (ah _ _ (sSeq (fun aA aj=>sSeq (fun aC ak=>sRegion (sM S fun a S=>?_)))))
 refine sM S fun a S=>?_
 refine sBin _ S (wN d) d d d (bGt _ _ _ _ .i64 a7 p4) d (lb d) fun a S=>lT (ak _ _ ?_)
 rcases iS h with ⟨a6,h⟩ | ⟨a6,h⟩
 ·refine sCondT S d a6 (sSeq (fun aG al=>sRegion (sN S fun a S=>?_)))
  refine sN S fun a S=>?_
  refine lT (al _ _ ?_)
  obtain rfl:=tS h
  exact wp_ret (rThen (sRet (.tuple #[iv 0,iv 16]) S (rsl2 d (rvT (t:=10) (v:=iv 0) S d) (rvT (t:=11) (v:=iv 16) S d)) ⟨(),d,S.mem.sel [] [] (by decide) d d⟩))
 refine sCondF S d a6 (wp_skip (leafT (aj _ _ ?_)))
 refine sSeq (fun aH am=>sRegion (sM S fun a S=>?_))
 refine sN S fun a S=>?_
 refine sN S fun a S=>?_
 refine lT (am _ _ ?_)
 obtain rfl:=tS h
 exact wp_ret (sRet (.tuple #[iv a7,iv 0]) S (rsl2 d (rvT (t:=10) (v:=iv a7) S d) (rvT (t:=11) (v:=iv 0) S d)) ⟨(),d,S.mem.sel [] [] (by decide) d d⟩)
noncomputable def F_gauge_Stitches (p0:api_Gauge) (p1:Int):Option (Int × Int):=
 (F_gauge_scale p0 (gauge_ratio.mk p0.Stitches p0.Width) p1 1000000 1000000).bind fun r4=>
 some (r4.1,r4.2)
theorem c_gauge_Stitches (E:Nat→Prop) (w0:World) (p0:api_Gauge) (v0:Value) (p1:Int) (r:(Int × Int)) (h:F_gauge_Stitches p0 p1=some r) (S:St0 E [] w0 w0 [] [fRep r_api_Gauge (v0) p0]) :
 Calls Tryd.prog 58 #[v0,iv p1] w0 (Ret (X:=Unit) E [] w0 (fun _=>.tuple #[.int .i64 r.1,.int .i64 r.2]) (fun _=>[]) (fun _=>[])):=by
 unfold F_gauge_Stitches at h
 obtain rfl:v0=.agg #[iv p0.Stitches,iv p0.Width,iv p0.Rows,iv p0.Height]:=S.know (i:=0) (e:=fRep r_api_Gauge (v0) p0) d
 refine sEnter (args:=[.agg #[iv p0.Stitches,iv p0.Width,iv p0.Rows,iv p0.Height],iv p1]) 16 Tryd.func58 d d (by simp) S (fun a S=>?_)
 refine sSeq (fun K1 a2=>sRegion (sBox (v:=.agg #[iv p0.Stitches,iv p0.Width,iv p0.Rows,iv p0.Height]) S (wN d) d d [iv p0.Stitches,iv p0.Width,iv p0.Rows,iv p0.Height] d d (lb d) fun a b2 w S=>sN S fun a S=>?_))
 refine sN S fun a S=>?_
 refine lT (a2 _ _ (sSeq (fun K3 a6=>sRegion (sLoadN (p:=b2) (off:=0) (T:=65) (vs:=[iv p0.Stitches,iv p0.Width,iv p0.Rows,iv p0.Height]) 0 [iv p0.Stitches,iv p0.Width,iv p0.Rows,iv p0.Height] S (wN d) d d d d d d d (lb d) fun a S=>sField (b:=b2) (off:=0) 0 0 S (wN d) d d d d d (lb d) fun a S=>sLoad1 0 (iv p0.Stitches) S (wN d) d d d d d d (lb d) fun a S=>sField (b:=b2) (off:=0) 1 1 S (wN d) d d d d d (lb d) fun a S=>sLoad1 0 (iv p0.Width) S (wN d) d d d d d d (lb d) fun a S=>sBuild [(0,iv p0.Stitches),(1,iv p0.Width)] [iv p0.Stitches,iv p0.Width] S (wN d) d d d d (lb d) fun a S=>sM S fun a S=>?_))))
 obtain ⟨r4,a7,h⟩:=bS h
 have S1:=S.mem
 have S1:=S1.learn (fRep r_gauge_ratio (.agg #[iv p0.Stitches,iv p0.Width]) (gauge_ratio.mk p0.Stitches p0.Width)) d
 refine sCq [.agg #[iv p0.Stitches,iv p0.Width,iv p0.Rows,iv p0.Height],.agg #[iv p0.Stitches,iv p0.Width],iv p1,iv 1000000,iv 1000000] (.tuple #[iv r4.1,iv r4.2]) S callee70 (S1.quiet [1,0] d) (fun E1 w1 S1=>c_gauge_scale E1 w1 p0 (.agg #[iv p0.Stitches,iv p0.Width,iv p0.Rows,iv p0.Height]) (gauge_ratio.mk p0.Stitches p0.Width) (.agg #[iv p0.Stitches,iv p0.Width]) p1 1000000 1000000 r4 a7 S1) fun a w S=>?_
 refine sExtract (vs:=[iv r4.1,iv r4.2]) (iv r4.1) S (wN d) d d d d (lb d) fun a S=>sExtract (vs:=[iv r4.1,iv r4.2]) (iv r4.2) S (wN d) d d d d (lb d) fun a S=>sN S fun a S=>?_
 refine sN S fun a S=>?_
 refine lT (a6 _ _ ?_)
 obtain rfl:=tS h
 exact wp_ret (sRet (.tuple #[iv r4.1,iv r4.2]) S (rsl2 d (rvT (t:=4) (v:=iv r4.1) S d) (rvT (t:=5) (v:=iv r4.2) S d)) ⟨(),d,S.mem.sel [] [] (by decide) d d⟩)
noncomputable def F_gauge_Rows (p0:api_Gauge) (p1:Int):Option (Int × Int):=
 (F_gauge_scale p0 (gauge_ratio.mk p0.Rows p0.Height) p1 1000000 1000000).bind fun r4=>
 some (r4.1,r4.2)
theorem c_gauge_Rows (E:Nat→Prop) (w0:World) (p0:api_Gauge) (v0:Value) (p1:Int) (r:(Int × Int)) (h:F_gauge_Rows p0 p1=some r) (S:St0 E [] w0 w0 [] [fRep r_api_Gauge (v0) p0]) :
 Calls Tryd.prog 59 #[v0,iv p1] w0 (Ret (X:=Unit) E [] w0 (fun _=>.tuple #[.int .i64 r.1,.int .i64 r.2]) (fun _=>[]) (fun _=>[])):=by
 unfold F_gauge_Rows at h
 obtain rfl:v0=.agg #[iv p0.Stitches,iv p0.Width,iv p0.Rows,iv p0.Height]:=S.know (i:=0) (e:=fRep r_api_Gauge (v0) p0) d
 refine sEnter (args:=[.agg #[iv p0.Stitches,iv p0.Width,iv p0.Rows,iv p0.Height],iv p1]) 16 Tryd.func59 d d (by simp) S (fun a S=>?_)
 refine sSeq (fun K1 a2=>sRegion (sBox (v:=.agg #[iv p0.Stitches,iv p0.Width,iv p0.Rows,iv p0.Height]) S (wN d) d d [iv p0.Stitches,iv p0.Width,iv p0.Rows,iv p0.Height] d d (lb d) fun a b2 w S=>sN S fun a S=>?_))
 refine sN S fun a S=>?_
 refine lT (a2 _ _ (sSeq (fun K3 a6=>sRegion (sLoadN (p:=b2) (off:=0) (T:=65) (vs:=[iv p0.Stitches,iv p0.Width,iv p0.Rows,iv p0.Height]) 0 [iv p0.Stitches,iv p0.Width,iv p0.Rows,iv p0.Height] S (wN d) d d d d d d d (lb d) fun a S=>sField (b:=b2) (off:=0) 2 2 S (wN d) d d d d d (lb d) fun a S=>sLoad1 0 (iv p0.Rows) S (wN d) d d d d d d (lb d) fun a S=>sField (b:=b2) (off:=0) 3 3 S (wN d) d d d d d (lb d) fun a S=>sLoad1 0 (iv p0.Height) S (wN d) d d d d d d (lb d) fun a S=>sBuild [(0,iv p0.Rows),(1,iv p0.Height)] [iv p0.Rows,iv p0.Height] S (wN d) d d d d (lb d) fun a S=>sM S fun a S=>?_))))
 obtain ⟨r4,a7,h⟩:=bS h
 have S1:=S.mem
 have S1:=S1.learn (fRep r_gauge_ratio (.agg #[iv p0.Rows,iv p0.Height]) (gauge_ratio.mk p0.Rows p0.Height)) d
 refine sCq [.agg #[iv p0.Stitches,iv p0.Width,iv p0.Rows,iv p0.Height],.agg #[iv p0.Rows,iv p0.Height],iv p1,iv 1000000,iv 1000000] (.tuple #[iv r4.1,iv r4.2]) S callee70 (S1.quiet [1,0] d) (fun E1 w1 S1=>c_gauge_scale E1 w1 p0 (.agg #[iv p0.Stitches,iv p0.Width,iv p0.Rows,iv p0.Height]) (gauge_ratio.mk p0.Rows p0.Height) (.agg #[iv p0.Rows,iv p0.Height]) p1 1000000 1000000 r4 a7 S1) fun a w S=>?_
 refine sExtract (vs:=[iv r4.1,iv r4.2]) (iv r4.1) S (wN d) d d d d (lb d) fun a S=>sExtract (vs:=[iv r4.1,iv r4.2]) (iv r4.2) S (wN d) d d d d (lb d) fun a S=>sN S fun a S=>?_
 refine sN S fun a S=>?_
 refine lT (a6 _ _ ?_)
 obtain rfl:=tS h
 exact wp_ret (sRet (.tuple #[iv r4.1,iv r4.2]) S (rsl2 d (rvT (t:=4) (v:=iv r4.1) S d) (rvT (t:=5) (v:=iv r4.2) S d)) ⟨(),d,S.mem.sel [] [] (by decide) d d⟩)
noncomputable def piece_place_s0_l1 (p1:(List api_Point)) (p0:api_Gauge):(List api_Point × Int)→Option ((List api_Point × Int) ⊕ (((List api_Point) × Int) ⊕ (List api_Point))):=fun s0=>match s0 with
 | (aa,a6)=>
  if decide (a6 < (p1.length:Int)) then
   (idxO p1 a6).bind fun a2=>
   Option.bind (α:=Int) (
    Option.bind (α:=Bool) (
     if decide (a2.X < 0) then
      some (decide ((-1000000) ≤ a2.X))
     else
      some false) fun ac=>
    if ac then
     some (-1)
    else
     some 1) fun ab=>
   (F_gauge_Stitches p0 (w64 (ab * a2.X))).bind fun a7=>
   if a7.2 != 0 then
    some (.inr (.inl (([]:(List api_Point)),a7.2)))
   else
    (F_gauge_Rows p0 a2.Y).bind fun a8=>
    if a8.2 != 0 then
     some (.inr (.inl (([]:(List api_Point)),a8.2)))
    else
     (appO aa [(api_Point.mk (w64 (ab * a7.1)) a8.1)]).bind fun ae=>
     some (.inl (ae,w64 (a6 + 1)))
  else
   some (.inr (.inr aa))
noncomputable def F_piece_place_s0 (p0:api_Gauge) (p1:(List api_Point)):Option ((List api_Point) × Int):=
 (capO (p1.length:Int)).bind fun z8=>
 Option.bind (α:=List api_Point ⊕ ((List api_Point) × Int)) (
  (whileO (piece_place_s0_l1 p1 p0) (([]:List api_Point),0)).bind fun z0=>match z0 with
   | .inl z=>
    some (.inr z)
   | .inr a2=>
    some (.inl a2)) fun z0=>match z0 with
  | .inl a6=>
   some (a6,0)
  | .inr z=>
   some z
theorem c_piece_place_s0 (E:Nat→Prop) (w0:World) (p0:api_Gauge) (v0:Value) (p1:(List api_Point)) (v1:Value) (r:((List api_Point) × Int)) (h:F_piece_place_s0 p0 p1=some r) (S:St0 E [] w0 w0 [] [fRep r_api_Gauge (v0) p0,fRep (rL r_api_Point) (v1) p1]) :
 Calls Tryd.prog 47 #[v0,v1] w0 (Ret (X:=Option Addr × Nat) E [] w0 (fun x=>.tuple #[.slice x.1 r.1.length x.2,iv r.2]) (fun x=>[eRow r_api_Point 35 (.slice x.1 r.1.length x.2) r.1]) (fun _=>[])):=by
 unfold F_piece_place_s0 at h
 obtain rfl:v0=.agg #[iv p0.Stitches,iv p0.Width,iv p0.Rows,iv p0.Height]:=S.know (i:=0) (e:=fRep r_api_Gauge (v0) p0) d
 obtain ⟨ai,aj,_,rfl,_⟩:=S.know (i:=1) (e:=fRep (rL r_api_Point) (v1) p1) d
 refine sEnter (args:=[.agg #[iv p0.Stitches,iv p0.Width,iv p0.Rows,iv p0.Height],.slice ai p1.length aj]) 62 Tryd.func47 d d (by simp) S (fun a S=>?_)
 refine sSeq (fun K3 ba=>sRegion (sBox (v:=.agg #[iv p0.Stitches,iv p0.Width,iv p0.Rows,iv p0.Height]) S (wN d) d d [iv p0.Stitches,iv p0.Width,iv p0.Rows,iv p0.Height] d d (lb d) fun a b4 w S=>sN S fun a S=>?_))
 refine sN S fun a S=>?_
 refine lT (ba _ _ (sSeq (fun K5 bb=>sRegion (sM S fun a S=>?_))))
 refine sLen S (wN d) d Tryd.underlying22 d d (lb d) fun a S=>?_
 obtain ⟨z8,bc,h⟩:=bS h
 refine sMake0 r_api_Point (m:=(p1.length:Int)) (u:=z8) (.agg #[iv 0,iv 0]) 16 S (wN d) d Tryd.underlying22 d (by decide) d d bc d (lb d) fun a w bf bg S=>?_
 refine sN S fun a S=>?_
 refine lT (bb _ _ ?_)
 obtain ⟨bh,h,au⟩:=bS h
 refine sCut (fun a w=>∃ al,.inl al=bh∧∃ ae,∃ af,St [] E [] w0 62 a w [(6,.slice ae al.length af)] [eRow r_api_Point 35 (.slice ae al.length af) al] []) ?_ (fun a w hI=>?_)
 rotate_left
 ·obtain ⟨al,rfl,ae,af,S⟩:=hI
  have h:=au
  try dsimp only at h
  refine sSeq (fun bo av=>sRegion (sM S fun a S=>?_))
  refine sN S fun a S=>?_
  refine sN S fun a S=>?_
  refine lT (av _ _ ?_)
  obtain rfl:=tS h
  exact wp_ret (sRet (.tuple #[.slice ae al.length af,iv 0]) S (rsl2 d (rvT (t:=4) (v:=.slice ae al.length af) S d) (rvT (t:=5) (v:=iv 0) S d)) ⟨(ae,af),d,S.mem.sel [0] [] (by decide) d d⟩)
 refine sSeq (fun bp aw=>sRegion (sM S fun a S=>?_))
 refine sLen S (wN d) d Tryd.underlying22 d d (lb d) fun a S=>sM S fun a S=>?_
 refine lT (aw _ _ (wp_block ?_))
 obtain ⟨bq,hl,ax⟩:=bS h
 refine sLoop hl (fun s0 a w=>match s0 with | (ag,ak)=>∃ a8,∃ aa,St [] E [] w0 62 a w [(2,.pointer (some ⟨b4,0,none⟩)),(6,.slice a8 ag.length aa),(16,.slice ai p1.length aj),(17,iv (p1.length:Int)),(18,iv ak)] [eBox b4 65 [iv p0.Stitches,iv p0.Width,iv p0.Rows,iv p0.Height],eRow r_api_Point 35 (.slice a8 ag.length aa) ag] [fRep (rL r_api_Point) (.slice ai p1.length aj) p1]) ⟨bf,bg,S.fix [1,0] [1] (by decide) d d d⟩ ?_
 clear hl h
 intro s0 a w c0 hI h am
 obtain ⟨ag,ak⟩:=s0
 unfold piece_place_s0_l1 at h
 dsimp only at h hI
 obtain ⟨a8,aa,S⟩:=hI
 refine sSeq (fun br ay=>sRegion (sBin _ S (wN d) d d d (bLt _ _ _ _ .i64 ak (p1.length:Int)) d (lb d) fun a S=>lT (ay _ _ (sSeq (fun bt az=>?_)))))
 rcases iS h with ⟨ao,h⟩ | ⟨ao,h⟩
 rotate_left
 ·refine sCondF S d ao ?_
  obtain rfl:=tS h
  obtain rfl:=am _ d
  have h:=ax
  try dsimp only at h
  exact wp_exit (xThen (xThen (xHit (leafT (⟨ag,Option.some.inj h,a8,aa,S.fix [1] [] (by decide) d d d⟩)))))
 refine sCondT S d ao (wp_skip (leafT (az _ _ ?_)))
 refine sSeq (fun bu aA=>wp_block ?_)
 refine sSeq (fun bv aC=>sRegion ?_)
 obtain ⟨a2,aG,h⟩:=bS h
 obtain ⟨b1,aH,S⟩:=pIdx (P:=Tryd.prog) (r:=r_api_Point) (v:=.slice ai p1.length aj) (xs:=p1) (j:=ak) 22 35 0 S Tryd.underlying22 d d aG
 refine sIdxV S (wN d) d d d aH d (lb d) fun a S=>?_
 obtain ⟨b8,S⟩:=pLoad (r:=r_api_Point) (q:=b1) (x:=a2) 0 S d
 obtain rfl:b8=.agg #[iv a2.X,iv a2.Y]:=S.mem.know (i:=1) (e:=fRep r_api_Point (b8) a2) d
 refine sLoadVN (vq:=b1) 0 [iv a2.X,iv a2.Y] S (wN d) d d d d d d (lb d) fun a S=>sAlloc (.agg #[iv 0,iv 0]) S (wN d) d d [iv 0,iv 0] d d (lb d) fun a ah w S=>sStore (p:=ah) (off:=0) (T:=35) (vs:=[iv 0,iv 0]) (v:=.agg #[iv a2.X,iv a2.Y]) 0 [iv a2.X,iv a2.Y] S (wN d) d d d d d d d (by simp) d fun a w S=>lT (aC _ _ (sSeq (fun bw aI=>sRegion (sN S fun a S=>?_))))
 refine lT (aI _ _ ?_)
 obtain ⟨bi,h,bj⟩:=bS h
 refine sCut (fun a w=>∃ ab,ab=bi∧St [] E [] w0 62 a w [(2,.pointer (some ⟨b4,0,none⟩)),(6,.slice a8 ag.length aa),(8,.pointer (some ⟨ah,0,none⟩)),(9,iv ab),(16,.slice ai p1.length aj),(17,iv (p1.length:Int)),(18,iv ak)] [eBox b4 65 [iv p0.Stitches,iv p0.Width,iv p0.Rows,iv p0.Height],eBox ah 35 [iv a2.X,iv a2.Y],eRow r_api_Point 35 (.slice a8 ag.length aa) ag] [fRep (rL r_api_Point) (.slice ai p1.length aj) p1]) ?_ (fun a w hI=>?_)
 ·obtain ⟨bl,h,bm⟩:=bS h
  refine sCut (fun a w=>∃ aJ,aJ=bl∧St [] E [] w0 62 a w [(2,.pointer (some ⟨b4,0,none⟩)),(6,.slice a8 ag.length aa),(8,.pointer (some ⟨ah,0,none⟩)),(9,iv 1),(16,.slice ai p1.length aj),(17,iv (p1.length:Int)),(18,iv ak),(29,.bool aJ)] [eBox b4 65 [iv p0.Stitches,iv p0.Width,iv p0.Rows,iv p0.Height],eBox ah 35 [iv a2.X,iv a2.Y],eRow r_api_Point 35 (.slice a8 ag.length aa) ag] [fRep (rL r_api_Point) (.slice ai p1.length aj) p1]) ?_ (fun a w hI=>?_)
  rotate_left
  ·obtain ⟨aJ,rfl,S⟩:=hI
   have h:=bm
   try dsimp only at h
   rcases iS h with ⟨ap,h⟩ | ⟨ap,h⟩
   rotate_left
   ·refine sCondF S d ap ?_
    exact wp_skip (leafT (⟨1,Option.some.inj h,S.fix [0,1,2] [0] (by decide) d d d⟩))
   refine sCondT S d ap (sRegion (sN S fun a S=>?_))
   exact lT (⟨(-1),Option.some.inj h,S.fix [0,1,2] [0] (by decide) d d d⟩)
  refine sRegion (sField (b:=ah) (off:=0) 0 0 S (wN d) d d d d d (lb d) fun a S=>sLoad1 0 (iv a2.X) S (wN d) d d d d d d (lb d) fun a S=>sBin _ S (wN d) d d d (bLt _ _ _ _ .i64 a2.X 0) d (lb d) fun a S=>sM S fun a S=>?_)
  rcases iS h with ⟨ac,h⟩ | ⟨ac,h⟩
  rotate_left
  ·refine sSkN 3 3 true 25 S d d ac d fun a S=>sPickF (.bool false) S (wN d) d d ac d d (lb d) fun a S=>?_
   exact lT (⟨false,Option.some.inj h,S.fix [1,0,2] [3] (by decide) d d d⟩)
  refine sField (b:=ah) (off:=0) 0 0 S (wG 3 true 25 d d d ac) d d d d d (lb d) fun a S=>sLoad1 0 (iv a2.X) S (wG 3 true 25 d d d ac) d d d d d d (lb d) fun a S=>sBin _ S (wG 3 true 25 d d d ac) d d d (bGe _ _ _ _ .i64 a2.X (-1000000)) d (lb d) fun a S=>sPickT (.bool (decide ((-1000000) ≤ a2.X))) S (wN d) d d ac d d (lb d) fun a S=>?_
  exact lT (⟨decide ((-1000000) ≤ a2.X),Option.some.inj h,S.fix [1,0,2] [3] (by decide) d d d⟩)
 obtain ⟨ab,rfl,S⟩:=hI
 have h:=bj
 try dsimp only at h
 refine sSeq (fun bx aK=>sRegion (sLoadN (p:=b4) (off:=0) (T:=65) (vs:=[iv p0.Stitches,iv p0.Width,iv p0.Rows,iv p0.Height]) 0 [iv p0.Stitches,iv p0.Width,iv p0.Rows,iv p0.Height] S (wN d) d d d d d d d (lb d) fun a S=>sM S fun a S=>?_))
 refine sField (b:=ah) (off:=0) 0 0 S (wN d) d d d d d (lb d) fun a S=>sLoad1 1 (iv a2.X) S (wN d) d d d d d d (lb d) fun a S=>sBin _ S (wN d) d d d (bMul _ _ _ _ ab a2.X) d (lb d) fun a S=>?_
 obtain ⟨a6,aL,h⟩:=bS h
 have S1:=S.mem
 have S1:=S1.learn (fRep r_api_Gauge (.agg #[iv p0.Stitches,iv p0.Width,iv p0.Rows,iv p0.Height]) p0) d
 refine sCq [.agg #[iv p0.Stitches,iv p0.Width,iv p0.Rows,iv p0.Height],iv (w64 (ab * a2.X))] (.tuple #[iv a6.1,iv a6.2]) S callee58 (S1.quiet [0] d) (fun E1 w1 S1=>c_gauge_Stitches E1 w1 p0 (.agg #[iv p0.Stitches,iv p0.Width,iv p0.Rows,iv p0.Height]) (w64 (ab * a2.X)) a6 aL S1) fun a w S=>?_
 refine sM S fun a S=>?_
 refine sExtract (vs:=[iv a6.1,iv a6.2]) (iv a6.1) S (wN d) d d d d (lb d) fun a S=>sExtract (vs:=[iv a6.1,iv a6.2]) (iv a6.2) S (wN d) d d d d (lb d) fun a S=>sN S fun a S=>?_
 refine sN S fun a S=>?_
 refine lT (aK _ _ (sSeq (fun bz aM=>sSeq (fun bA aO=>sRegion (sM S fun a S=>?_)))))
 refine sBin _ S (wN d) d d d (bNe _ _ _ _ .i64 a6.2 0) d (lb d) fun a S=>lT (aO _ _ ?_)
 rcases iS h with ⟨aq,h⟩ | ⟨aq,h⟩
 ·refine sCondT S d aq (sSeq (fun bB aP=>sRegion (sM S fun a S=>?_)))
  refine sN S fun a S=>?_
  refine sN S fun a S=>?_
  refine lT (aP _ _ ?_)
  obtain rfl:=tS h
  obtain rfl:=am _ d
  have h:=ax
  try dsimp only at h
  obtain rfl:=tS h
  have h:=au
  try dsimp only at h
  obtain rfl:=tS h
  have S:=S.nilRow r_api_Point 35 (α:=api_Point)
  exact wp_ret (rThen (rBlock (rThen (rThen (rBlock (rThen (sRet (.tuple #[.slice none 0 0,iv a6.2]) S (rsl2 d (rvT (t:=4) (v:=.slice none 0 0) S d) (rvT (t:=5) (v:=iv a6.2) S d)) ⟨(none,0),d,S.mem.sel [0] [] (by decide) d d⟩)))))))
 refine sCondF S d aq (wp_skip (leafT (aM _ _ ?_)))
 refine sSeq (fun bC aQ=>sRegion (sLoadN (p:=b4) (off:=0) (T:=65) (vs:=[iv p0.Stitches,iv p0.Width,iv p0.Rows,iv p0.Height]) 0 [iv p0.Stitches,iv p0.Width,iv p0.Rows,iv p0.Height] S (wN d) d d d d d d d (lb d) fun a S=>sField (b:=ah) (off:=0) 1 1 S (wN d) d d d d d (lb d) fun a S=>sLoad1 1 (iv a2.Y) S (wN d) d d d d d d (lb d) fun a S=>?_))
 obtain ⟨a7,aR,h⟩:=bS h
 have S1:=S.mem
 have S1:=S1.learn (fRep r_api_Gauge (.agg #[iv p0.Stitches,iv p0.Width,iv p0.Rows,iv p0.Height]) p0) d
 refine sCq [.agg #[iv p0.Stitches,iv p0.Width,iv p0.Rows,iv p0.Height],iv a2.Y] (.tuple #[iv a7.1,iv a7.2]) S callee59 (S1.quiet [0] d) (fun E1 w1 S1=>c_gauge_Rows E1 w1 p0 (.agg #[iv p0.Stitches,iv p0.Width,iv p0.Rows,iv p0.Height]) a2.Y a7 aR S1) fun a w S=>?_
 refine sM S fun a S=>?_
 refine sExtract (vs:=[iv a7.1,iv a7.2]) (iv a7.1) S (wN d) d d d d (lb d) fun a S=>sExtract (vs:=[iv a7.1,iv a7.2]) (iv a7.2) S (wN d) d d d d (lb d) fun a S=>sN S fun a S=>?_
 refine sN S fun a S=>?_
 refine lT (aQ _ _ (sSeq (fun bD aS=>sSeq (fun bE aT=>sRegion (sM S fun a S=>?_)))))
 refine sBin _ S (wN d) d d d (bNe _ _ _ _ .i64 a7.2 0) d (lb d) fun a S=>lT (aT _ _ ?_)
 rcases iS h with ⟨ar,h⟩ | ⟨ar,h⟩
 ·refine sCondT S d ar (sSeq (fun bF aU=>sRegion (sM S fun a S=>?_)))
  refine sN S fun a S=>?_
  refine sN S fun a S=>?_
  refine lT (aU _ _ ?_)
  obtain rfl:=tS h
  obtain rfl:=am _ d
  have h:=ax
  try dsimp only at h
  obtain rfl:=tS h
  have h:=au
  try dsimp only at h
  obtain rfl:=tS h
  have S:=S.nilRow r_api_Point 35 (α:=api_Point)
  exact wp_ret (rThen (rBlock (rThen (rThen (rBlock (rThen (sRet (.tuple #[.slice none 0 0,iv a7.2]) S (rsl2 d (rvT (t:=4) (v:=.slice none 0 0) S d) (rvT (t:=5) (v:=iv a7.2) S d)) ⟨(none,0),d,S.mem.sel [0] [] (by decide) d d⟩)))))))
 refine sCondF S d ar (wp_skip (leafT (aS _ _ ?_)))
 refine sRegion (sM S fun a S=>?_)
 refine sM S fun a S=>?_
 refine sM S fun a S=>?_
 refine sBin _ S (wN d) d d d (bMul _ _ _ _ ab a6.1) d (lb d) fun a S=>sM S fun a S=>?_
 refine sBuild [(0,iv (w64 (ab * a6.1))),(1,iv a7.1)] [iv (w64 (ab * a6.1)),iv a7.1] S (wN d) d d d d (lb d) fun a S=>?_
 have S:=S.learn (fRep r_api_Point (.agg #[iv (w64 (ab * a6.1)),iv a7.1]) (api_Point.mk (w64 (ab * a6.1)) a7.1)) d
 refine sLit (r:=r_api_Point) (T:=35) (xs:=[(api_Point.mk (w64 (ab * a6.1)) a7.1)]) [(0,.agg #[iv (w64 (ab * a6.1)),iv a7.1])] 1 [.agg #[iv (w64 (ab * a6.1)),iv a7.1]] [iv (w64 (ab * a6.1)),iv a7.1] (.agg #[iv 0,iv 0]) 16 S (wN d) d d Tryd.underlying22 d (by decide) (by decide) (by kernel_rfl) d (fun E1 w1 hE=>All.cons (r_api_Point.mono hE (S.mem.know (i:=0) (e:=fRep r_api_Point (.agg #[iv (w64 (ab * a6.1)),iv a7.1]) (api_Point.mk (w64 (ab * a6.1)) a7.1)) d)) (All.nil _ _ _)) d d (lb d) fun a w aV aW S=>?_
 obtain ⟨bn,aX,h⟩:=bS h
 refine sApp (r:=r_api_Point) (T:=35) (xs:=ag) (ys:=[(api_Point.mk (w64 (ab * a6.1)) a7.1)]) (v:=.slice a8 ag.length aa) (u:=.slice aV [(api_Point.mk (w64 (ab * a6.1)) a7.1)].length aW) 3 (.agg #[iv 0,iv 0]) 16 S (wN d) d Tryd.underlying22 d d (by decide) d d d (src_R (T:=35) 0 S.mem d) aX d (lb d) fun a w aZ b0 S=>sN S fun a S=>?_
 refine leafL (leafB (leafT (aA _ _ ?_)))
 refine sRegion (sBin _ S (wN d) d d d (bAdd _ _ _ _ ak 1) d (lb d) fun a S=>sM S fun a S=>?_)
 exact lT (⟨(bn,w64 (ak + 1)),(Option.some.inj h).symm,⟨aZ,b0,S.fix [2,0] [1] (by decide) d d d⟩⟩)
noncomputable def F_piece_Measure_s0 (p0:api_Gauge) (p1:(List api_Point)) (p2:(List api_Point)):Option (api_Shape × Int):=
 (F_piece_place_s0 p0 p1).bind fun a2=>
 if a2.2 != 0 then
  some ((api_Shape.mk ([]:(List api_Point)) ([]:(List api_Point))),a2.2)
 else
  (F_piece_place_s0 p0 p2).bind fun a6=>
  if a6.2 != 0 then
   some ((api_Shape.mk ([]:(List api_Point)) ([]:(List api_Point))),a6.2)
  else
   (F_piece_shape (api_Shape.mk a2.1 a6.1)).bind fun a7=>
   if a7 != 0 then
    some ((api_Shape.mk ([]:(List api_Point)) ([]:(List api_Point))),a7)
   else
    some ((api_Shape.mk a2.1 a6.1),0)
theorem c_piece_Measure_s0 (E:Nat→Prop) (w0:World) (p0:api_Gauge) (v0:Value) (p1:(List api_Point)) (v1:Value) (p2:(List api_Point)) (v2:Value) (r:(api_Shape × Int)) (h:F_piece_Measure_s0 p0 p1 p2=some r) (S:St0 E [] w0 w0 [] [fRep r_api_Gauge (v0) p0,fRep (rL r_api_Point) (v1) p1,fRep (rL r_api_Point) (v2) p2]) :
 Calls Tryd.prog 28 #[v0,v1,v2] w0 (Ret (X:=Option Addr × Nat × Option Addr × Nat) E [] w0 (fun x=>.tuple #[.agg #[.slice x.1 r.1.Left.length x.2.1,.slice x.2.2.1 r.1.Right.length x.2.2.2],iv r.2]) (fun x=>[eRow r_api_Point 35 (.slice x.1 r.1.Left.length x.2.1) r.1.Left,eRow r_api_Point 35 (.slice x.2.2.1 r.1.Right.length x.2.2.2) r.1.Right]) (fun _=>[])):=by
 unfold F_piece_Measure_s0 at h
 obtain rfl:v0=.agg #[iv p0.Stitches,iv p0.Width,iv p0.Rows,iv p0.Height]:=S.know (i:=0) (e:=fRep r_api_Gauge (v0) p0) d
 obtain ⟨ah,ai,_,rfl,_⟩:=S.know (i:=1) (e:=fRep (rL r_api_Point) (v1) p1) d
 obtain ⟨aj,ak,_,rfl,_⟩:=S.know (i:=2) (e:=fRep (rL r_api_Point) (v2) p2) d
 refine sEnter (args:=[.agg #[iv p0.Stitches,iv p0.Width,iv p0.Rows,iv p0.Height],.slice ah p1.length ai,.slice aj p2.length ak]) 39 Tryd.func28 d d (by simp) S (fun a S=>?_)
 refine sSeq (fun K5 aJ=>sRegion (sBox (v:=.agg #[iv p0.Stitches,iv p0.Width,iv p0.Rows,iv p0.Height]) S (wN d) d d [iv p0.Stitches,iv p0.Width,iv p0.Rows,iv p0.Height] d d (lb d) fun a b6 w S=>sAlloc (.agg #[.slice none 0 0,.slice none 0 0]) S (wN d) d d [.slice none 0 0,.slice none 0 0] d d (lb d) fun a b7 w S=>sN S fun a S=>?_))
 refine lT (aJ _ _ (sSeq (fun K8 aK=>sRegion (sAlloc (.agg #[.slice none 0 0,.slice none 0 0]) S (wN d) d d [.slice none 0 0,.slice none 0 0] d d (lb d) fun a b9 w S=>lT (aK _ _ (sSeq (fun aL al=>sRegion (sN S fun a S=>?_))))))))
 refine lT (al _ _ (sSeq (fun aM am=>sSeq (fun aO ao=>sRegion (sLoadN (p:=b6) (off:=0) (T:=65) (vs:=[iv p0.Stitches,iv p0.Width,iv p0.Rows,iv p0.Height]) 2 [iv p0.Stitches,iv p0.Width,iv p0.Rows,iv p0.Height] S (wN d) d d d d d d d (lb d) fun a S=>sM S fun a S=>?_)))))
 obtain ⟨aa,ap,h⟩:=bS h
 refine sCall (X:=Option Addr × Nat) (f:=47) (vs:=[.agg #[iv p0.Stitches,iv p0.Width,iv p0.Rows,iv p0.Height],.slice ah p1.length ai]) (val:=fun x=>.tuple #[.slice x.1 aa.1.length x.2,iv aa.2]) (B':=fun x=>[eRow r_api_Point 35 (.slice x.1 aa.1.length x.2) aa.1]) (D':=fun _=>[]) [] [eBox b9 24 [.slice none 0 0,.slice none 0 0],eBox b7 24 [.slice none 0 0,.slice none 0 0],eBox b6 65 [iv p0.Stitches,iv p0.Width,iv p0.Rows,iv p0.Height]] [fRep r_api_Gauge (.agg #[iv p0.Stitches,iv p0.Width,iv p0.Rows,iv p0.Height]) p0,fRep (rL r_api_Point) (.slice ah p1.length ai) p1] [0,1,2] [0,1] S (wN d) d callee47 d (by decide) d d (fun E1 w1 S1=>c_piece_place_s0 E1 w1 p0 (.agg #[iv p0.Stitches,iv p0.Width,iv p0.Rows,iv p0.Height]) p1 (.slice ah p1.length ai) aa ap S1) d (lb d) fun xx a w S=>?_
 obtain ⟨a2,a6⟩:=xx
 dsimp only at S
 refine sM S fun a S=>?_
 refine sExtract (vs:=[.slice a2 aa.1.length a6,iv aa.2]) (.slice a2 aa.1.length a6) S (wN d) d d d d (lb d) fun a S=>sExtract (vs:=[.slice a2 aa.1.length a6,iv aa.2]) (iv aa.2) S (wN d) d d d d (lb d) fun a S=>sField (b:=b9) (off:=0) 0 0 S (wN d) d d d d d (lb d) fun a S=>sStore (p:=b9) (off:=0) (T:=24) (vs:=[.slice none 0 0,.slice none 0 0]) (v:=.slice a2 aa.1.length a6) 1 [.slice a2 aa.1.length a6] S (wN d) d d d d d d d (by simp) d fun a w S=>sN S fun a S=>?_
 refine lT (ao _ _ (sSeq (fun aP aq=>sRegion (sM S fun a S=>?_))))
 refine sBin _ S (wN d) d d d (bNe _ _ _ _ .i64 aa.2 0) d (lb d) fun a S=>lT (aq _ _ ?_)
 rcases iS h with ⟨ac,h⟩ | ⟨ac,h⟩
 ·refine sCondT S d ac (sSeq (fun aQ ar=>sRegion (sBuild [] [.slice none 0 0,.slice none 0 0] S (wN d) d d d d (lb d) fun a S=>sM S fun a S=>?_)))
  refine sStore (p:=b7) (off:=0) (T:=24) (vs:=[.slice none 0 0,.slice none 0 0]) (v:=.agg #[.slice none 0 0,.slice none 0 0]) 2 [.slice none 0 0,.slice none 0 0] S (wN d) d d d d d d d (by simp) d fun a w S=>sN S fun a S=>?_
  refine lT (ar _ _ ?_)
  obtain rfl:=tS h
  have S:=S.nilRow r_api_Point 35 (α:=api_Point)
  have S:=S.nilRow r_api_Point 35 (α:=api_Point)
  exact wp_ret (rThen (sRet (.tuple #[.agg #[.slice none 0 0,.slice none 0 0],iv aa.2]) S (rsl2 d (rvN (c:=6) (t:=24) (T:=24) (p:=b7) 2 [.slice none 0 0,.slice none 0 0] S d d d d) (rvT (t:=7) (v:=iv aa.2) S d)) ⟨(none,0,none,0),d,S.mem.sel [1,0] [] (by decide) d d⟩))
 refine sCondF S d ac (wp_skip (leafT (am _ _ ?_)))
 refine sSeq (fun aR au=>sSeq (fun aS av=>sRegion (sLoadN (p:=b6) (off:=0) (T:=65) (vs:=[iv p0.Stitches,iv p0.Width,iv p0.Rows,iv p0.Height]) 3 [iv p0.Stitches,iv p0.Width,iv p0.Rows,iv p0.Height] S (wN d) d d d d d d d (lb d) fun a S=>sM S fun a S=>?_)))
 obtain ⟨ab,aw,h⟩:=bS h
 refine sCall (X:=Option Addr × Nat) (f:=47) (vs:=[.agg #[iv p0.Stitches,iv p0.Width,iv p0.Rows,iv p0.Height],.slice aj p2.length ak]) (val:=fun x=>.tuple #[.slice x.1 ab.1.length x.2,iv ab.2]) (B':=fun x=>[eRow r_api_Point 35 (.slice x.1 ab.1.length x.2) ab.1]) (D':=fun _=>[]) [] [eBox b9 24 [.slice a2 aa.1.length a6,.slice none 0 0],eRow r_api_Point 35 (.slice a2 aa.1.length a6) aa.1,eBox b7 24 [.slice none 0 0,.slice none 0 0],eBox b6 65 [iv p0.Stitches,iv p0.Width,iv p0.Rows,iv p0.Height]] [fRep r_api_Gauge (.agg #[iv p0.Stitches,iv p0.Width,iv p0.Rows,iv p0.Height]) p0,fRep (rL r_api_Point) (.slice aj p2.length ak) p2] [0,1,2,3] [0,2] S (wN d) d callee47 d (by decide) d d (fun E1 w1 S1=>c_piece_place_s0 E1 w1 p0 (.agg #[iv p0.Stitches,iv p0.Width,iv p0.Rows,iv p0.Height]) p2 (.slice aj p2.length ak) ab aw S1) d (lb d) fun xx a w S=>?_
 obtain ⟨a7,a8⟩:=xx
 dsimp only at S
 refine sM S fun a S=>?_
 refine sExtract (vs:=[.slice a7 ab.1.length a8,iv ab.2]) (.slice a7 ab.1.length a8) S (wN d) d d d d (lb d) fun a S=>sExtract (vs:=[.slice a7 ab.1.length a8,iv ab.2]) (iv ab.2) S (wN d) d d d d (lb d) fun a S=>sField (b:=b9) (off:=0) 1 1 S (wN d) d d d d d (lb d) fun a S=>sStore (p:=b9) (off:=1) (T:=24) (vs:=[.slice a2 aa.1.length a6,.slice none 0 0]) (v:=.slice a7 ab.1.length a8) 1 [.slice a7 ab.1.length a8] S (wN d) d d d d d d d (by simp) d fun a w S=>sN S fun a S=>?_
 refine lT (av _ _ (sSeq (fun aT ax=>sRegion (sM S fun a S=>?_))))
 refine sBin _ S (wN d) d d d (bNe _ _ _ _ .i64 ab.2 0) d (lb d) fun a S=>lT (ax _ _ ?_)
 rcases iS h with ⟨ae,h⟩ | ⟨ae,h⟩
 ·refine sCondT S d ae (sSeq (fun aU ay=>sRegion (sBuild [] [.slice none 0 0,.slice none 0 0] S (wN d) d d d d (lb d) fun a S=>sM S fun a S=>?_)))
  refine sStore (p:=b7) (off:=0) (T:=24) (vs:=[.slice none 0 0,.slice none 0 0]) (v:=.agg #[.slice none 0 0,.slice none 0 0]) 3 [.slice none 0 0,.slice none 0 0] S (wN d) d d d d d d d (by simp) d fun a w S=>sN S fun a S=>?_
  refine lT (ay _ _ ?_)
  obtain rfl:=tS h
  have S:=S.nilRow r_api_Point 35 (α:=api_Point)
  have S:=S.nilRow r_api_Point 35 (α:=api_Point)
  exact wp_ret (rThen (sRet (.tuple #[.agg #[.slice none 0 0,.slice none 0 0],iv ab.2]) S (rsl2 d (rvN (c:=6) (t:=24) (T:=24) (p:=b7) 2 [.slice none 0 0,.slice none 0 0] S d d d d) (rvT (t:=7) (v:=iv ab.2) S d)) ⟨(none,0,none,0),d,S.mem.sel [1,0] [] (by decide) d d⟩))
 refine sCondF S d ae (wp_skip (leafT (au _ _ ?_)))
 refine sSeq (fun aV az=>sSeq (fun aW aA=>sRegion (sLoadN (p:=b9) (off:=0) (T:=24) (vs:=[.slice a2 aa.1.length a6,.slice a7 ab.1.length a8]) 0 [.slice a2 aa.1.length a6,.slice a7 ab.1.length a8] S (wN d) d d d d d d d (lb d) fun a S=>?_)))
 obtain ⟨ag,aC,h⟩:=bS h
 have S1:=S.mem
 have S1:=S1.shutR (r:=r_api_Point) (T:=35) (v:=.slice a2 aa.1.length a6) (xs:=aa.1) 2 d
 have S1:=S1.shutR (r:=r_api_Point) (T:=35) (v:=.slice a7 ab.1.length a8) (xs:=ab.1) 1 d
 have S1:=S1.learn (fRep r_api_Shape (.agg #[.slice a2 aa.1.length a6,.slice a7 ab.1.length a8]) (api_Shape.mk aa.1 ab.1)) ⟨_,_,d,S1.know (i:=1) (e:=fRep (rL r_api_Point) (.slice a2 aa.1.length a6) aa.1) d,S1.know (i:=0) (e:=fRep (rL r_api_Point) (.slice a7 ab.1.length a8) ab.1) d⟩
 refine sCq [.agg #[.slice a2 aa.1.length a6,.slice a7 ab.1.length a8]] (iv ag) S callee35 (S1.quiet [0] d) (fun E1 w1 S1=>c_piece_shape E1 w1 (api_Shape.mk aa.1 ab.1) (.agg #[.slice a2 aa.1.length a6,.slice a7 ab.1.length a8]) ag aC S1) fun a w S=>?_
 refine sN S fun a S=>?_
 refine lT (aA _ _ (sSeq (fun aX aG=>sRegion (sM S fun a S=>?_))))
 refine sBin _ S (wN d) d d d (bNe _ _ _ _ .i64 ag 0) d (lb d) fun a S=>lT (aG _ _ ?_)
 rcases iS h with ⟨af,h⟩ | ⟨af,h⟩
 ·refine sCondT S d af (sSeq (fun aZ aH=>sRegion (sBuild [] [.slice none 0 0,.slice none 0 0] S (wN d) d d d d (lb d) fun a S=>sM S fun a S=>?_)))
  refine sStore (p:=b7) (off:=0) (T:=24) (vs:=[.slice none 0 0,.slice none 0 0]) (v:=.agg #[.slice none 0 0,.slice none 0 0]) 3 [.slice none 0 0,.slice none 0 0] S (wN d) d d d d d d d (by simp) d fun a w S=>sN S fun a S=>?_
  refine lT (aH _ _ ?_)
  obtain rfl:=tS h
  have S:=S.nilRow r_api_Point 35 (α:=api_Point)
  have S:=S.nilRow r_api_Point 35 (α:=api_Point)
  exact wp_ret (rThen (sRet (.tuple #[.agg #[.slice none 0 0,.slice none 0 0],iv ag]) S (rsl2 d (rvN (c:=6) (t:=24) (T:=24) (p:=b7) 2 [.slice none 0 0,.slice none 0 0] S d d d d) (rvT (t:=7) (v:=iv ag) S d)) ⟨(none,0,none,0),d,S.mem.sel [1,0] [] (by decide) d d⟩))
 refine sCondF S d af (wp_skip (leafT (az _ _ ?_)))
 refine sSeq (fun b0 aI=>sRegion (sLoadN (p:=b9) (off:=0) (T:=24) (vs:=[.slice a2 aa.1.length a6,.slice a7 ab.1.length a8]) 0 [.slice a2 aa.1.length a6,.slice a7 ab.1.length a8] S (wN d) d d d d d d d (lb d) fun a S=>sStore (p:=b7) (off:=0) (T:=24) (vs:=[.slice none 0 0,.slice none 0 0]) (v:=.agg #[.slice a2 aa.1.length a6,.slice a7 ab.1.length a8]) 3 [.slice a2 aa.1.length a6,.slice a7 ab.1.length a8] S (wN d) d d d d d d d (by simp) d fun a w S=>sN S fun a S=>?_))
 refine lT (aI _ _ ?_)
 obtain rfl:=tS h
 exact wp_ret (sRet (.tuple #[.agg #[.slice a2 aa.1.length a6,.slice a7 ab.1.length a8],iv 0]) S (rsl2 d (rvN (c:=6) (t:=24) (T:=24) (p:=b7) 0 [.slice a2 aa.1.length a6,.slice a7 ab.1.length a8] S d d d d) (rvT (t:=7) (v:=iv 0) S d)) ⟨(a2,a6,a7,a8),d,S.mem.sel [3,2] [] (by decide) d d⟩)
noncomputable def F_raddlelaw37_made :Option api_Piece:=
 some (api_Piece.mk ([0,1,1,2,2]:List Int) ([10,10,9,9,8]:List Int))
def c_raddlelaw37_made_val (r:api_Piece) (x:Value):Value:=x
def c_raddlelaw37_made_D (r:api_Piece) (x:Value):List Fact:=[fRep r_api_Piece x r]
theorem c_raddlelaw37_made (E:Nat→Prop) (w0:World)  (r:api_Piece) (h:F_raddlelaw37_made =some r) (S:St0 E [] w0 w0 [] []) :
 Calls Tryd.prog 29 #[] w0 (Ret (X:=Value) E [] w0 (c_raddlelaw37_made_val r) (fun _=>[]) (c_raddlelaw37_made_D r)):=by
 unfold F_raddlelaw37_made at h
 refine sEnter (args:=[]) 4 Tryd.func29 d d (by simp) S (fun a S=>?_)
 refine sSeq (fun K1 aa=>sRegion (sAlloc (.agg #[.slice none 0 0,.slice none 0 0]) S (wN d) d d [.slice none 0 0,.slice none 0 0] d d (lb d) fun a b2 w S=>lT (aa _ _ (sSeq (fun K3 ab=>sRegion (sLit (r:=(rI .i64)) (T:=3) (xs:=([0,1,1,2,2]:List Int)) [(0,iv 0),(1,iv 1),(2,iv 1),(3,iv 2),(4,iv 2)] 5 [iv 0,iv 1,iv 1,iv 2,iv 2] [iv 0,iv 1,iv 1,iv 2,iv 2] (iv 0) 8 S (wN d) d d Tryd.underlying28 d (by decide) (by decide) (by kernel_rfl) d (fun E1 w1 hE=>All.cons d (All.cons d (All.cons d (All.cons d (All.cons d (All.nil _ _ _)))))) d d (lb d) fun a w a2 a6 S=>?_))))))
 refine sLit (r:=(rI .i64)) (T:=3) (xs:=([10,10,9,9,8]:List Int)) [(0,iv 10),(1,iv 10),(2,iv 9),(3,iv 9),(4,iv 8)] 5 [iv 10,iv 10,iv 9,iv 9,iv 8] [iv 10,iv 10,iv 9,iv 9,iv 8] (iv 0) 8 S (wN d) d d Tryd.underlying28 d (by decide) (by decide) (by kernel_rfl) d (fun E1 w1 hE=>All.cons d (All.cons d (All.cons d (All.cons d (All.cons d (All.nil _ _ _)))))) d d (lb d) fun a w a7 a8 S=>?_
 refine sBuild [(0,.slice a2 ([0,1,1,2,2]:List Int).length a6),(1,.slice a7 ([10,10,9,9,8]:List Int).length a8)] [.slice a2 ([0,1,1,2,2]:List Int).length a6,.slice a7 ([10,10,9,9,8]:List Int).length a8] S (wN d) d d d d (lb d) fun a S=>sStore (p:=b2) (off:=0) (T:=30) (vs:=[.slice none 0 0,.slice none 0 0]) (v:=.agg #[.slice a2 ([0,1,1,2,2]:List Int).length a6,.slice a7 ([10,10,9,9,8]:List Int).length a8]) 2 [.slice a2 ([0,1,1,2,2]:List Int).length a6,.slice a7 ([10,10,9,9,8]:List Int).length a8] S (wN d) d d d d d d d (by simp) d fun a w S=>lT (ab _ _ ?_)
 obtain rfl:=tS h
 have S:=S.shutR (r:=(rI .i64)) (T:=3) (v:=.slice a2 ([0,1,1,2,2]:List Int).length a6) (xs:=([0,1,1,2,2]:List Int)) 2 d
 have S:=S.shutR (r:=(rI .i64)) (T:=3) (v:=.slice a7 ([10,10,9,9,8]:List Int).length a8) (xs:=([10,10,9,9,8]:List Int)) 1 d
 have S:=S.learn (fRep r_api_Piece (.agg #[.slice a2 ([0,1,1,2,2]:List Int).length a6,.slice a7 ([10,10,9,9,8]:List Int).length a8]) (api_Piece.mk ([0,1,1,2,2]:List Int) ([10,10,9,9,8]:List Int))) ⟨_,_,d,S.mem.know (i:=1) (e:=fRep (rL (rI .i64)) (.slice a2 ([0,1,1,2,2]:List Int).length a6) ([0,1,1,2,2]:List Int)) d,S.mem.know (i:=0) (e:=fRep (rL (rI .i64)) (.slice a7 ([10,10,9,9,8]:List Int).length a8) ([10,10,9,9,8]:List Int)) d⟩
 exact wp_ret (sRet (.agg #[.slice a2 ([0,1,1,2,2]:List Int).length a6,.slice a7 ([10,10,9,9,8]:List Int).length a8]) S (rsl1 d (rvN (c:=0) (t:=30) (T:=30) (p:=b2) 0 [.slice a2 ([0,1,1,2,2]:List Int).length a6,.slice a7 ([10,10,9,9,8]:List Int).length a8] S d d d d)) ⟨(.agg #[.slice a2 ([0,1,1,2,2]:List Int).length a6,.slice a7 ([10,10,9,9,8]:List Int).length a8]),d,S.mem.sel [] [0] (by decide) d d⟩)
noncomputable def F_raddlelaw37_made_s0 :Option api_Piece:=
 some (api_Piece.mk ([0,1,1,2,2]:List Int) ([10,10,9,9,8]:List Int))
theorem c_raddlelaw37_made_s0 (E:Nat→Prop) (w0:World)  (r:api_Piece) (h:F_raddlelaw37_made_s0 =some r) (S:St0 E [] w0 w0 [] []) :
 Calls Tryd.prog 29 #[] w0 (Ret (X:=Option Addr × Nat × Option Addr × Nat) E [] w0 (fun x=>.agg #[.slice x.1 r.Left.length x.2.1,.slice x.2.2.1 r.Right.length x.2.2.2]) (fun x=>[eRow (rI .i64) 3 (.slice x.1 r.Left.length x.2.1) r.Left,eRow (rI .i64) 3 (.slice x.2.2.1 r.Right.length x.2.2.2) r.Right]) (fun _=>[])):=by
 unfold F_raddlelaw37_made_s0 at h
 refine sEnter (args:=[]) 4 Tryd.func29 d d (by simp) S (fun a S=>?_)
 refine sSeq (fun K1 aa=>sRegion (sAlloc (.agg #[.slice none 0 0,.slice none 0 0]) S (wN d) d d [.slice none 0 0,.slice none 0 0] d d (lb d) fun a b2 w S=>lT (aa _ _ (sSeq (fun K3 ab=>sRegion (sLit (r:=(rI .i64)) (T:=3) (xs:=([0,1,1,2,2]:List Int)) [(0,iv 0),(1,iv 1),(2,iv 1),(3,iv 2),(4,iv 2)] 5 [iv 0,iv 1,iv 1,iv 2,iv 2] [iv 0,iv 1,iv 1,iv 2,iv 2] (iv 0) 8 S (wN d) d d Tryd.underlying28 d (by decide) (by decide) (by kernel_rfl) d (fun E1 w1 hE=>All.cons d (All.cons d (All.cons d (All.cons d (All.cons d (All.nil _ _ _)))))) d d (lb d) fun a w a2 a6 S=>?_))))))
 refine sLit (r:=(rI .i64)) (T:=3) (xs:=([10,10,9,9,8]:List Int)) [(0,iv 10),(1,iv 10),(2,iv 9),(3,iv 9),(4,iv 8)] 5 [iv 10,iv 10,iv 9,iv 9,iv 8] [iv 10,iv 10,iv 9,iv 9,iv 8] (iv 0) 8 S (wN d) d d Tryd.underlying28 d (by decide) (by decide) (by kernel_rfl) d (fun E1 w1 hE=>All.cons d (All.cons d (All.cons d (All.cons d (All.cons d (All.nil _ _ _)))))) d d (lb d) fun a w a7 a8 S=>?_
 refine sBuild [(0,.slice a2 ([0,1,1,2,2]:List Int).length a6),(1,.slice a7 ([10,10,9,9,8]:List Int).length a8)] [.slice a2 ([0,1,1,2,2]:List Int).length a6,.slice a7 ([10,10,9,9,8]:List Int).length a8] S (wN d) d d d d (lb d) fun a S=>sStore (p:=b2) (off:=0) (T:=30) (vs:=[.slice none 0 0,.slice none 0 0]) (v:=.agg #[.slice a2 ([0,1,1,2,2]:List Int).length a6,.slice a7 ([10,10,9,9,8]:List Int).length a8]) 2 [.slice a2 ([0,1,1,2,2]:List Int).length a6,.slice a7 ([10,10,9,9,8]:List Int).length a8] S (wN d) d d d d d d d (by simp) d fun a w S=>lT (ab _ _ ?_)
 obtain rfl:=tS h
 exact wp_ret (sRet (.agg #[.slice a2 ([0,1,1,2,2]:List Int).length a6,.slice a7 ([10,10,9,9,8]:List Int).length a8]) S (rsl1 d (rvN (c:=0) (t:=30) (T:=30) (p:=b2) 0 [.slice a2 ([0,1,1,2,2]:List Int).length a6,.slice a7 ([10,10,9,9,8]:List Int).length a8] S d d d d)) ⟨(a2,a6,a7,a8),d,S.mem.sel [2,1] [] (by decide) d d⟩)
def anc_raddleref37_SamePoints_0:List (List Nat):=[[],[],[0,1],[0,1,2],[],[],[4,5],[4,5,6],[0,1,2,3,4,5,6,7]]
noncomputable def raddleref37_SamePoints_l1 (p0:(List api_Point)) (p1:(List api_Point)):Int→Option (Int ⊕ (Bool ⊕ Unit)):=fun s0=>match s0 with
 | a2=>
  if decide (a2 < (p0.length:Int)) then
   (idxO p0 a2).bind fun a6=>
   (idxO p1 a2).bind fun a7=>
   if !((a6.X == a7.X) && ((a6.Y == a7.Y) && true)) then
    some (.inr (.inl false))
   else
    some (.inl (w64 (a2 + 1)))
  else
   some (.inr (.inr ()))
noncomputable def F_raddleref37_SamePoints (p0:(List api_Point)) (p1:(List api_Point)):Option Bool:=
 if (p0.length:Int) != (p1.length:Int) then
  some false
 else
  Option.bind (α:=Unit ⊕ Bool) (
   (whileO (raddleref37_SamePoints_l1 p0 p1) 0).bind fun z0=>match z0 with
    | .inl z=>
     some (.inr z)
    | .inr _=>
     some (.inl ())) fun z0=>match z0 with
   | .inl _=>
    some true
   | .inr z=>
    some z
theorem c_raddleref37_SamePoints (E:Nat→Prop) (w0:World) (p0:(List api_Point)) (v0:Value) (p1:(List api_Point)) (v1:Value) (r:Bool) (h:F_raddleref37_SamePoints p0 p1=some r) (S:St0 E [] w0 w0 [] [fRep (rL r_api_Point) (v0) p0,fRep (rL r_api_Point) (v1) p1]) :
 Calls Tryd.prog 30 #[v0,v1] w0 (Ret (X:=Unit) E [] w0 (fun _=>.bool r) (fun _=>[]) (fun _=>[])):=by
 unfold F_raddleref37_SamePoints at h
 obtain ⟨ab,ac,_,rfl,_⟩:=S.know (i:=0) (e:=fRep (rL r_api_Point) (v0) p0) d
 obtain ⟨ae,af,_,rfl,_⟩:=S.know (i:=1) (e:=fRep (rL r_api_Point) (v1) p1) d
 refine sEnter (args:=[.slice ab p0.length ac,.slice ae p1.length af]) 26 Tryd.func30 d d (by simp) S (fun a S=>?_)
 refine sSeq (fun K5 aG=>sRegion (sN S fun a S=>?_))
 refine lT (aG _ _ (sSeq (fun K6 aH=>sSeq (fun K7 aI=>sRegion (sM S fun a S=>?_)))))
 refine sLen S (wN d) d Tryd.underlying22 d d (lb d) fun a S=>sM S fun a S=>?_
 refine sLen S (wN d) d Tryd.underlying22 d d (lb d) fun a S=>sBin _ S (wN d) d d d (bNe _ _ _ _ .i64 (p0.length:Int) (p1.length:Int)) d (lb d) fun a S=>lT (aI _ _ ?_)
 rcases iS h with ⟨ah,h⟩ | ⟨ah,h⟩
 ·refine sCondT S d ah (sSeq (fun K9 aJ=>sRegion (sN S fun a S=>?_)))
  refine lT (aJ _ _ ?_)
  obtain rfl:=tS h
  exact wp_ret (rThen (sRet (.bool false) S (rsl1 d (rvT (t:=4) (v:=.bool false) S d)) ⟨(),d,S.mem.sel [] [] (by decide) d d⟩))
 refine sCondF S d ah (wp_skip (leafT (aH _ _ ?_)))
 obtain ⟨aK,h,ay⟩:=bS h
 refine sCut (fun a w=>.inl ()=aK∧St [] E [] w0 26 a w [] [] []) ?_ (fun a w hI=>?_)
 rotate_left
 ·obtain ⟨rfl,S⟩:=hI
  have h:=ay
  try dsimp only at h
  refine sSeq (fun aL ai=>sRegion (sN S fun a S=>?_))
  refine lT (ai _ _ ?_)
  obtain rfl:=tS h
  exact wp_ret (sRet (.bool true) S (rsl1 d (rvT (t:=4) (v:=.bool true) S d)) ⟨(),d,S.mem.sel [] [] (by decide) d d⟩)
 refine sSeq (fun aM aj=>sRegion (sN S fun a S=>?_))
 refine lT (aj _ _ (wp_block ?_))
 obtain ⟨aO,hl,az⟩:=bS h
 refine sLoop hl (fun s0 a w=>match s0 with | a7=>St [] E [] w0 26 a w [(0,.slice ab p0.length ac),(1,.slice ae p1.length af),(5,iv a7)] [] [fRep (rL r_api_Point) (.slice ab p0.length ac) p0,fRep (rL r_api_Point) (.slice ae p1.length af) p1]) (S.fix [] [0,1] (by decide) d d d) ?_
 clear hl h
 intro a7 a w c0 hI h ag
 unfold raddleref37_SamePoints_l1 at h
 dsimp only at h hI
 have S:=hI
 refine sSeq (fun aP ak=>sSeq (fun aQ al=>sRegion (sM S fun a S=>?_)))
 refine sM S fun a S=>?_
 refine sLen S (wN d) d Tryd.underlying22 d d (lb d) fun a S=>sBin _ S (wN d) d d d (bLt _ _ _ _ .i64 a7 (p0.length:Int)) d (lb d) fun a S=>lT (al _ _ ?_)
 rcases iS h with ⟨a8,h⟩ | ⟨a8,h⟩
 rotate_left
 ·refine sCondF S d a8 ?_
  obtain rfl:=tS h
  obtain rfl:=ag _ d
  have h:=az
  try dsimp only at h
  exact wp_exit (xThen (xThen (xHit (leafT (⟨Option.some.inj h,S.fix [] [] (by decide) d d d⟩)))))
 refine sCondT S d a8 (wp_skip (leafT (ak _ _ ?_)))
 refine sSeq (fun aR am=>wp_block ?_)
 refine sSeq (fun aS ao=>?_)
 obtain ⟨a2,ap,h⟩:=bS h
 obtain ⟨a6,aq,h⟩:=bS h
 obtain ⟨ar,au,S⟩:=pIdx (P:=Tryd.prog) (r:=r_api_Point) (v:=.slice ab p0.length ac) (xs:=p0) (j:=a7) 22 35 0 S Tryd.underlying22 d d ap
 obtain ⟨aA,S⟩:=pLoad (r:=r_api_Point) (q:=ar) (x:=a2) 0 S d
 obtain rfl:aA=.agg #[iv a2.X,iv a2.Y]:=S.mem.know (i:=1) (e:=fRep r_api_Point (aA) a2) d
 obtain ⟨av,aw,S⟩:=pIdx (P:=Tryd.prog) (r:=r_api_Point) (v:=.slice ae p1.length af) (xs:=p1) (j:=a7) 22 35 4 S Tryd.underlying22 d d aq
 obtain ⟨aC,S⟩:=pLoad (r:=r_api_Point) (q:=av) (x:=a6) 0 S d
 obtain rfl:aC=.agg #[iv a6.X,iv a6.Y]:=S.mem.know (i:=1) (e:=fRep r_api_Point (aC) a6) d
 refine sDraw (nf:=[]) (W:=[(0,17,.slice ab p0.length ac),(1,18,iv a7),(2,19,ar),(3,20,.agg #[iv a2.X,iv a2.Y]),(4,21,.slice ae p1.length af),(5,22,iv a7),(6,23,av),(7,24,.agg #[iv a6.X,iv a6.Y]),(8,25,.bool (!((a2.X == a6.X) && ((a2.Y == a6.Y) && true))))]) d S ?_
 refine node_by (A:=anc_raddleref37_SamePoints_0) 9 (by kernel_rfl) (by kernel_rfl) (by kernel_rfl) (by kernel_rfl) (by kernel_rfl) [0,1,2,3,4,5,6,7,8] (by kernel_rfl) (by decide) (by decide) (fF ?_ (fF ?_ (fF ?_ (fF ?_ (fF ?_ (fF ?_ (fF ?_ (fF ?_ (fF ?_ (trivial)))))))))) [(0,.slice ab p0.length ac),(1,.slice ae p1.length af),(5,iv a7),(25,.bool (!((a2.X == a6.X) && ((a2.Y == a6.Y) && true))))] (fin_of [none,none,none,some 8] d (by kernel_rfl) (by kernel_rfl)) (fun _ a w S=>?_)
 ·exact fM 0 none d d d d (.inl d) d d d
 ·exact fM 1 none d d d d (.inl d) d d d
 ·refine fJ [(17,_),(18,_)] 2 [some 0,some 1] fun G a w S=>?_
  exact sIdxV S (wN d) d d d au d (lb d) fun a S=>leafL ⟨d,S⟩
 ·refine fJ [(19,_)] 3 [some 2] fun G a w S=>?_
  exact sLoadVN (vq:=ar) 3 [iv a2.X,iv a2.Y] S (wN d) d d d d d d (lb d) fun a S=>leafL ⟨d,S⟩
 ·exact fM 4 none d d d d (.inl d) d d d
 ·exact fM 5 none d d d d (.inl d) d d d
 ·refine fJ [(21,_),(22,_)] 6 [some 4,some 5] fun G a w S=>?_
  exact sIdxV S (wN d) d d d aw d (lb d) fun a S=>leafL ⟨d,S⟩
 ·refine fJ [(23,_)] 7 [some 6] fun G a w S=>?_
  exact sLoadVN (vq:=av) 0 [iv a6.X,iv a6.Y] S (wN d) d d d d d d (lb d) fun a S=>leafL ⟨d,S⟩
 ·refine fJ [(20,_),(24,_)] 8 [some 3,some 7] fun G a w S=>?_
  exact sBin _ S (wN d) d d d (bNeV _ _ _ _ #[iv a2.X,iv a2.Y] #[iv a6.X,iv a6.Y] ((a2.X == a6.X) && ((a2.Y == a6.Y) && true)) (by kernel_rfl) (eqlV_of (by kernel_rfl))) d (lb d) fun a S=>leafL ⟨d,S⟩
 refine leafT (ao _ _ ?_)
 rcases iS h with ⟨aa,h⟩ | ⟨aa,h⟩
 rotate_left
 ·refine sCondF S d aa (wp_skip (leafB (leafT (am _ _ ?_))))
  refine sRegion (sM S fun a S=>?_)
  refine sBin _ S (wN d) d d d (bAdd _ _ _ _ a7 1) d (lb d) fun a S=>sN S fun a S=>?_
  exact lT (⟨w64 (a7 + 1),(Option.some.inj h).symm,(S.fix [] [6,7] (by decide) d d d)⟩)
 refine sCondT S d aa (sSeq (fun aT ax=>sRegion (sN S fun a S=>?_)))
 refine lT (ax _ _ ?_)
 obtain rfl:=tS h
 obtain rfl:=ag _ d
 have h:=az
 try dsimp only at h
 obtain rfl:=tS h
 have h:=ay
 try dsimp only at h
 obtain rfl:=tS h
 exact wp_ret (rBlock (rThen (rThen (rBlock (rThen (sRet (.bool false) S (rsl1 d (rvT (t:=4) (v:=.bool false) S d)) ⟨(),d,S.mem.sel [] [] (by decide) d d⟩))))))
noncomputable def F_raddlelaw37_given :Option api_Shape:=
 some (api_Shape.mk [(api_Point.mk 0 0),(api_Point.mk 2 4)] [(api_Point.mk 10 0),(api_Point.mk 8 4)])
def c_raddlelaw37_given_val (r:api_Shape) (x:Value):Value:=x
def c_raddlelaw37_given_D (r:api_Shape) (x:Value):List Fact:=[fRep r_api_Shape x r]
theorem c_raddlelaw37_given (E:Nat→Prop) (w0:World)  (r:api_Shape) (h:F_raddlelaw37_given =some r) (S:St0 E [] w0 w0 [] []) :
 Calls Tryd.prog 32 #[] w0 (Ret (X:=Value) E [] w0 (c_raddlelaw37_given_val r) (fun _=>[]) (c_raddlelaw37_given_D r)):=by
 unfold F_raddlelaw37_given at h
 refine sEnter (args:=[]) 8 Tryd.func32 d d (by simp) S (fun a S=>?_)
 refine sSeq (fun K1 aa=>sRegion (sAlloc (.agg #[.slice none 0 0,.slice none 0 0]) S (wN d) d d [.slice none 0 0,.slice none 0 0] d d (lb d) fun a b2 w S=>lT (aa _ _ (sSeq (fun K3 ab=>sRegion (sBuild [] [iv 0,iv 0] S (wN d) d d d d (lb d) fun a S=>sBuild [(0,iv 2),(1,iv 4)] [iv 2,iv 4] S (wN d) d d d d (lb d) fun a S=>?_))))))
 have S:=S.learn (fRep r_api_Point (.agg #[iv 0,iv 0]) (api_Point.mk 0 0)) d
 have S:=S.learn (fRep r_api_Point (.agg #[iv 2,iv 4]) (api_Point.mk 2 4)) d
 refine sLit (r:=r_api_Point) (T:=35) (xs:=[(api_Point.mk 0 0),(api_Point.mk 2 4)]) [(0,.agg #[iv 0,iv 0]),(1,.agg #[iv 2,iv 4])] 2 [.agg #[iv 0,iv 0],.agg #[iv 2,iv 4]] [iv 0,iv 0,iv 2,iv 4] (.agg #[iv 0,iv 0]) 16 S (wN d) d d Tryd.underlying22 d (by decide) (by decide) (by kernel_rfl) d (fun E1 w1 hE=>All.cons (r_api_Point.mono hE (S.mem.know (i:=1) (e:=fRep r_api_Point (.agg #[iv 0,iv 0]) (api_Point.mk 0 0)) d)) (All.cons (r_api_Point.mono hE (S.mem.know (i:=0) (e:=fRep r_api_Point (.agg #[iv 2,iv 4]) (api_Point.mk 2 4)) d)) (All.nil _ _ _))) d d (lb d) fun a w a2 a6 S=>?_
 refine sBuild [(0,iv 10)] [iv 10,iv 0] S (wN d) d d d d (lb d) fun a S=>sBuild [(0,iv 8),(1,iv 4)] [iv 8,iv 4] S (wN d) d d d d (lb d) fun a S=>?_
 have S:=S.learn (fRep r_api_Point (.agg #[iv 10,iv 0]) (api_Point.mk 10 0)) d
 have S:=S.learn (fRep r_api_Point (.agg #[iv 8,iv 4]) (api_Point.mk 8 4)) d
 refine sLit (r:=r_api_Point) (T:=35) (xs:=[(api_Point.mk 10 0),(api_Point.mk 8 4)]) [(0,.agg #[iv 10,iv 0]),(1,.agg #[iv 8,iv 4])] 2 [.agg #[iv 10,iv 0],.agg #[iv 8,iv 4]] [iv 10,iv 0,iv 8,iv 4] (.agg #[iv 0,iv 0]) 16 S (wN d) d d Tryd.underlying22 d (by decide) (by decide) (by kernel_rfl) d (fun E1 w1 hE=>All.cons (r_api_Point.mono hE (S.mem.know (i:=1) (e:=fRep r_api_Point (.agg #[iv 10,iv 0]) (api_Point.mk 10 0)) d)) (All.cons (r_api_Point.mono hE (S.mem.know (i:=0) (e:=fRep r_api_Point (.agg #[iv 8,iv 4]) (api_Point.mk 8 4)) d)) (All.nil _ _ _))) d d (lb d) fun a w a7 a8 S=>?_
 refine sBuild [(0,.slice a2 [(api_Point.mk 0 0),(api_Point.mk 2 4)].length a6),(1,.slice a7 [(api_Point.mk 10 0),(api_Point.mk 8 4)].length a8)] [.slice a2 [(api_Point.mk 0 0),(api_Point.mk 2 4)].length a6,.slice a7 [(api_Point.mk 10 0),(api_Point.mk 8 4)].length a8] S (wN d) d d d d (lb d) fun a S=>sStore (p:=b2) (off:=0) (T:=24) (vs:=[.slice none 0 0,.slice none 0 0]) (v:=.agg #[.slice a2 [(api_Point.mk 0 0),(api_Point.mk 2 4)].length a6,.slice a7 [(api_Point.mk 10 0),(api_Point.mk 8 4)].length a8]) 2 [.slice a2 [(api_Point.mk 0 0),(api_Point.mk 2 4)].length a6,.slice a7 [(api_Point.mk 10 0),(api_Point.mk 8 4)].length a8] S (wN d) d d d d d d d (by simp) d fun a w S=>lT (ab _ _ ?_)
 obtain rfl:=tS h
 have S:=S.shutR (r:=r_api_Point) (T:=35) (v:=.slice a2 [(api_Point.mk 0 0),(api_Point.mk 2 4)].length a6) (xs:=[(api_Point.mk 0 0),(api_Point.mk 2 4)]) 2 d
 have S:=S.shutR (r:=r_api_Point) (T:=35) (v:=.slice a7 [(api_Point.mk 10 0),(api_Point.mk 8 4)].length a8) (xs:=[(api_Point.mk 10 0),(api_Point.mk 8 4)]) 1 d
 have S:=S.learn (fRep r_api_Shape (.agg #[.slice a2 [(api_Point.mk 0 0),(api_Point.mk 2 4)].length a6,.slice a7 [(api_Point.mk 10 0),(api_Point.mk 8 4)].length a8]) (api_Shape.mk [(api_Point.mk 0 0),(api_Point.mk 2 4)] [(api_Point.mk 10 0),(api_Point.mk 8 4)])) ⟨_,_,d,S.mem.know (i:=1) (e:=fRep (rL r_api_Point) (.slice a2 [(api_Point.mk 0 0),(api_Point.mk 2 4)].length a6) [(api_Point.mk 0 0),(api_Point.mk 2 4)]) d,S.mem.know (i:=0) (e:=fRep (rL r_api_Point) (.slice a7 [(api_Point.mk 10 0),(api_Point.mk 8 4)].length a8) [(api_Point.mk 10 0),(api_Point.mk 8 4)]) d⟩
 exact wp_ret (sRet (.agg #[.slice a2 [(api_Point.mk 0 0),(api_Point.mk 2 4)].length a6,.slice a7 [(api_Point.mk 10 0),(api_Point.mk 8 4)].length a8]) S (rsl1 d (rvN (c:=0) (t:=24) (T:=24) (p:=b2) 0 [.slice a2 [(api_Point.mk 0 0),(api_Point.mk 2 4)].length a6,.slice a7 [(api_Point.mk 10 0),(api_Point.mk 8 4)].length a8] S d d d d)) ⟨(.agg #[.slice a2 [(api_Point.mk 0 0),(api_Point.mk 2 4)].length a6,.slice a7 [(api_Point.mk 10 0),(api_Point.mk 8 4)].length a8]),d,S.mem.sel [] [0] (by decide) d d⟩)
def K_raddlelaw37_given :Option api_Shape:=
 some (api_Shape.mk [(api_Point.mk 0 0),(api_Point.mk 2 4)] [(api_Point.mk 10 0),(api_Point.mk 8 4)])
def K_piece_column (p0:Int):Option Bool:=
 Option.bind (α:=Bool) (
  if decide ((-500) ≤ p0) then
   some (decide (p0 ≤ 500))
  else
   some false) fun o2=>
 some o2
def K_piece_side_l1 (p0:(List api_Point)):Int→Option (Int ⊕ (Bool ⊕ Unit)):=fun s0=>match s0 with
 | s30=>
  if decide (s30 < (p0.length:Int)) then
   Option.bind (idxO p0 s30) fun x39=>
   Option.bind (α:=Bool) (
    Option.bind (K_piece_column x39.X) fun r48=>
    if !r48 then
     some true
    else
     if decide (0 < s30) then
      Option.bind (idxO p0 (w64 (s30 - 1))) fun x52=>
      some (decide (x39.Y ≤ x52.Y))
     else
      some false) fun o45=>
   if o45 then
    some (.inr (.inl false))
   else
    some (.inl (w64 (s30 + 1)))
  else
   some (.inr (.inr ()))
def K_piece_side (p0:(List api_Point)):Option Bool:=
 Option.bind (α:=Bool) (
  if (p0.length:Int) == 0 then
   some true
  else
   if decide (50 < (p0.length:Int)) then
    some true
   else
    Option.bind (idxO p0 0) fun x10=>
    if x10.Y != 0 then
     some true
    else
     Option.bind (idxO p0 (w64 ((p0.length:Int) - 1))) fun x18=>
     some (decide (100 ≤ x18.Y))) fun o5=>
 if o5 then
  some false
 else
  Option.bind (α:=Unit ⊕ Bool) (
   Option.bind (whileK (K_piece_side_l1 p0) 0) fun z0=>match z0 with
    | .inl z=>
     some (.inr z)
    | .inr _=>
     some (.inl ())) fun z0=>match z0 with
   | .inl _=>
    some true
   | .inr z=>
    some z
def K_piece_shape (p0:api_Shape):Option Int:=
 Option.bind (α:=Bool) (
  Option.bind (K_piece_side p0.Left) fun r15=>
  if !r15 then
   some true
  else
   Option.bind (K_piece_side p0.Right) fun r18=>
   if !r18 then
    some true
   else
    Option.bind (idxO p0.Left (w64 ((p0.Left.length:Int) - 1))) fun x21=>
    Option.bind (idxO p0.Right (w64 ((p0.Right.length:Int) - 1))) fun x28=>
    some (x21.Y != x28.Y)) fun o12=>
 if o12 then
  some 8
 else
  some 0
def K_slope_within (p0:Int) (p1:Int) (p2:Int):Option Bool:=
 Option.bind (α:=Bool) (
  if decide (p1 ≤ p0) then
   some (decide (p0 ≤ p2))
  else
   some false) fun o2=>
 some o2
def K_slope_check (p0:Int) (p1:Int) (p2:Int):Option Int:=
 Option.bind (α:=Bool) (
  Option.bind (K_slope_within p0 (-1000) 1000) fun r6=>
  if !r6 then
   some true
  else
   Option.bind (K_slope_within p1 (-1000) 1000) fun r9=>
   if !r9 then
    some true
   else
    Option.bind (K_slope_within p2 1 1000) fun r12=>
    some (!r12)) fun o3=>
 if o3 then
  some 2
 else
  some 0
def K_slope_at (p0:Int) (p1:Int) (p2:Int) (p3:Int):Option Int:=
 Option.bind (quoI (w64 ((w64 (2 * (w64 ((w64 ((w64 (p0 + 1000)) * (w64 (p2 - p3)))) + (w64 ((w64 (p1 + 1000)) * p3)))))) + p2)) (w64 (2 * p2))) fun z4=>
 some (w64 (z4 - 1000))
def K_slope_Line_1_s0 (p0:Int) (p1:Int) (p2:Int) (p3:Int):Option Int:=
 Option.bind (K_slope_at p1 p2 p3 p0) fun r6=>
 some r6
def K_slope_list_int__s0_l1 (p0:Int) (p1:Int) (p2:Int) (p3:Int):(List Int × Int)→Option ((List Int × Int) ⊕ List Int):=fun s0=>match s0 with
 | (s11,s12)=>
  if decide (s12 < p0) then
   Option.bind (K_slope_Line_1_s0 s12 p1 p2 p3) fun r22=>
   Option.bind (idxO s11 s12) fun x24=>
   Option.bind (setO s11 s12 r22) fun l29=>
   some (.inl (l29,w64 (s12 + 1)))
  else
   some (.inr s11)
def K_slope_list_int__s0 (p0:Int) (p1:Int) (p2:Int) (p3:Int):Option (List Int):=
 Option.bind (makeO p0 (0:Int)) fun m5=>
 Option.bind (α:=List Int) (
  Option.bind (whileK (K_slope_list_int__s0_l1 p0 p1 p2 p3) (m5,0)) fun e16=>
   some e16) fun o7=>
 some o7
def K_slope_Line (p0:Int) (p1:Int) (p2:Int):Option ((List Int) × Int):=
 Option.bind (K_slope_check p0 p1 p2) fun r7=>
 if r7 != 0 then
  some (([]:(List Int)),r7)
 else
  Option.bind (K_slope_list_int__s0 (w64 (p2 + 1)) p0 p1 p2) fun r13=>
  some (r13,0)
def K_piece_columns_l1 (y20:List api_Point) (p0:(List api_Point)):(List Int × Int)→Option ((List Int × Int) ⊕ List Int):=fun s0=>match s0 with
 | (s24,s27)=>
  if decide (s27 < (y20.length:Int)) then
   Option.bind (idxO y20 s27) fun x39=>
   Option.bind (idxO p0 s27) fun x46=>
   Option.bind (K_slope_Line x46.X x39.X (w64 (x39.Y - x46.Y))) fun r58=>
   Option.bind (sliceO r58.1 1 (r58.1.length:Int)) fun y76=>
   Option.bind (appO s24 y76) fun l80=>
   some (.inl (l80,w64 (s27 + 1)))
  else
   some (.inr s24)
def K_piece_columns (p0:(List api_Point)):Option (List Int):=
 Option.bind (idxO p0 0) fun x5=>
 Option.bind (α:=List Int) (
  Option.bind (sliceO p0 1 (p0.length:Int)) fun y20=>
  Option.bind (whileK (K_piece_columns_l1 y20 p0) (([x5.X]:List Int),0)) fun e31=>
   some e31) fun o14=>
 some o14
def K_piece_Check_l1 (p0:api_Piece):Int→Option (Int ⊕ (Int ⊕ Unit)):=fun s0=>match s0 with
 | s22=>
  if decide (s22 < (p0.Left.length:Int)) then
   Option.bind (idxO p0.Left s22) fun x31=>
   Option.bind (idxO p0.Right s22) fun x37=>
   Option.bind (α:=Bool) (
    Option.bind (K_piece_column x31) fun r45=>
    if !r45 then
     some true
    else
     Option.bind (K_piece_column x37) fun r48=>
     if !r48 then
      some true
     else
      if decide (x37 ≤ x31) then
       some true
      else
       some (decide (200 < (w64 (x37 - x31))))) fun o42=>
   if o42 then
    some (.inr (.inl 8))
   else
    some (.inl (w64 (s22 + 1)))
  else
   some (.inr (.inr ()))
def K_piece_Check (p0:api_Piece):Option Int:=
 Option.bind (α:=Bool) (
  if (p0.Left.length:Int) != (p0.Right.length:Int) then
   some true
  else
   if (p0.Left.length:Int) == 0 then
    some true
   else
    some (decide (100 < (p0.Left.length:Int)))) fun o12=>
 if o12 then
  some 8
 else
  Option.bind (α:=Unit ⊕ Int) (
   Option.bind (whileK (K_piece_Check_l1 p0) 0) fun z0=>match z0 with
    | .inl z=>
     some (.inr z)
    | .inr _=>
     some (.inl ())) fun z0=>match z0 with
   | .inl _=>
    some 0
   | .inr z=>
    some z
def K_piece_Make (p0:api_Shape):Option (api_Piece × Int):=
 Option.bind (K_piece_shape p0) fun r14=>
 if r14 != 0 then
  some ((api_Piece.mk ([]:(List Int)) ([]:(List Int))),r14)
 else
  Option.bind (K_piece_columns p0.Left) fun r20=>
  Option.bind (K_piece_columns p0.Right) fun r25=>
  Option.bind (K_piece_Check (api_Piece.mk r20 r25)) fun r40=>
  if r40 != 0 then
   some ((api_Piece.mk ([]:(List Int)) ([]:(List Int))),16)
  else
   some ((api_Piece.mk r20 r25),0)
def K_raddlelaw37_made :Option api_Piece:=
 some (api_Piece.mk ([0,1,1,2,2]:List Int) ([10,10,9,9,8]:List Int))
def K_piece_bend (p0:Int) (p1:Int):Option piece_edge:=
 if p0 == 0 then
  some (piece_edge.mk (api_Stitch.mk 0 false 0 0) 0)
 else
  if decide (4 ≤ p0) then
   some (piece_edge.mk (api_Stitch.mk 9 false p0 0) 0)
  else
   if decide (0 < p0) then
    some (piece_edge.mk (api_Stitch.mk 5 false (w64 (p0 + 1)) 0) 1)
   else
    if decide ((-4) < p0) then
     some (piece_edge.mk (api_Stitch.mk p1 false (w64 (1 - p0)) 0) (w64 (1 - p0)))
    else
     some (piece_edge.mk (api_Stitch.mk 10 false (w64 (0 - p0)) 0) (w64 (0 - p0)))
def K_piece_Chart_l1 (x68:Int) (x86:Int) (r73:piece_edge) (r96:piece_edge):(List api_Stitch × Int)→Option ((List api_Stitch × Int) ⊕ List api_Stitch):=fun s0=>match s0 with
 | (s145,s148)=>
  if decide (s148 < (w64 ((w64 ((w64 (x68 - x86)) - r73.uses)) - r96.uses))) then
   Option.bind (appO s145 [(api_Stitch.mk 1 false 0 0)]) fun l161=>
   some (.inl (l161,w64 (s148 + 1)))
  else
   some (.inr s145)
def K_stitch_forms (p0:Int):Option (stitch_form × Bool):=
 Option.bind (α:=Bool) (
  if decide (p0 < 1) then
   some true
  else
   some (decide (([(stitch_form.mk (⟨#[]⟩:ByteArray) (0,0) (0,0) true 1 1),(stitch_form.mk (⟨#[]⟩:ByteArray) (0,0) (0,0) false 0 1),(stitch_form.mk (⟨#[102]⟩:ByteArray) (2,4) (0,0) true 2 1),(stitch_form.mk (⟨#[108]⟩:ByteArray) (2,4) (0,0) true 2 1),(stitch_form.mk (⟨#[109]⟩:ByteArray) (2,4) (0,0) true 1 2),(stitch_form.mk (⟨#[120]⟩:ByteArray) (1,6) (1,6) true 3 3),(stitch_form.mk (⟨#[121]⟩:ByteArray) (1,6) (1,6) true 3 3),(stitch_form.mk (⟨#[115]⟩:ByteArray) (0,0) (0,0) true 1 1),(stitch_form.mk (⟨#[]⟩:ByteArray) (1,200) (0,0) false 0 2),(stitch_form.mk (⟨#[111]⟩:ByteArray) (1,200) (0,0) true 2 0)].length:Int) < (IntKind.i64.wrap p0)))) fun o12=>
 if o12 then
  some ((stitch_form.mk (⟨#[]⟩:ByteArray) (0,0) (0,0) false 0 0),false)
 else
  Option.bind (idxO [(stitch_form.mk (⟨#[]⟩:ByteArray) (0,0) (0,0) true 1 1),(stitch_form.mk (⟨#[]⟩:ByteArray) (0,0) (0,0) false 0 1),(stitch_form.mk (⟨#[102]⟩:ByteArray) (2,4) (0,0) true 2 1),(stitch_form.mk (⟨#[108]⟩:ByteArray) (2,4) (0,0) true 2 1),(stitch_form.mk (⟨#[109]⟩:ByteArray) (2,4) (0,0) true 1 2),(stitch_form.mk (⟨#[120]⟩:ByteArray) (1,6) (1,6) true 3 3),(stitch_form.mk (⟨#[121]⟩:ByteArray) (1,6) (1,6) true 3 3),(stitch_form.mk (⟨#[115]⟩:ByteArray) (0,0) (0,0) true 1 1),(stitch_form.mk (⟨#[]⟩:ByteArray) (1,200) (0,0) false 0 2),(stitch_form.mk (⟨#[111]⟩:ByteArray) (1,200) (0,0) true 2 0)] (IntKind.u8.wrap (p0 - 1))) fun x19=>
  some (x19,true)
def K_stitch_within (p0:Int) (p1:(Int × Int)):Option Bool:=
 Option.bind (α:=Bool) (
  if decide (p1.1 ≤ p0) then
   some (decide (p0 ≤ p1.2))
  else
   some false) fun o3=>
 some o3
def K_stitch_Check (p0:api_Stitch):Option Int:=
 Option.bind (K_stitch_forms p0.Kind) fun r4=>
 Option.bind (α:=Bool) (
  if !r4.2 then
   some true
  else
   Option.bind (K_stitch_within p0.A r4.1.a) fun r13=>
   if !r13 then
    some true
   else
    Option.bind (K_stitch_within p0.B r4.1.b) fun r16=>
    if !r16 then
     some true
    else
     if p0.Purl then
      some (!r4.1.sided)
     else
      some false) fun o9=>
 if o9 then
  some 8
 else
  some 0
def K_stitch_All_1 (p0:api_Stitch):Option Bool:=
 Option.bind (K_stitch_Check p0) fun r4=>
 some (r4 != 0)
def K_slices_IndexFunc___api_Stitch_api_Stitch__s0_l1 (p0:(List api_Stitch)):Int→Option (Int ⊕ (Int ⊕ Unit)):=fun s0=>match s0 with
 | s7=>
  if decide (s7 < (p0.length:Int)) then
   Option.bind (idxO p0 s7) fun x17=>
   Option.bind (K_stitch_All_1 x17) fun r22=>
   if r22 then
    some (.inr (.inl s7))
   else
    some (.inl (w64 (s7 + 1)))
  else
   some (.inr (.inr ()))
def K_slices_IndexFunc___api_Stitch_api_Stitch__s0 (p0:(List api_Stitch)):Option Int:=
 Option.bind (α:=Unit ⊕ Int) (
  Option.bind (whileK (K_slices_IndexFunc___api_Stitch_api_Stitch__s0_l1 p0) 0) fun z0=>match z0 with
   | .inl z=>
    some (.inr z)
   | .inr _=>
    some (.inl ())) fun z0=>match z0 with
  | .inl _=>
   some (-1)
  | .inr z=>
   some z
def K_slices_ContainsFunc___api_Stitch_api_Stitch__s0 (p0:(List api_Stitch)):Option Bool:=
 Option.bind (K_slices_IndexFunc___api_Stitch_api_Stitch__s0 p0) fun r5=>
 some (decide (0 ≤ r5))
def K_stitch_loops (p0:api_Stitch) (p1:Int):Option Int:=
 Option.bind (idxO ([0,1,p0.A,w64 (p0.A + p0.B)]:List Int) p1) fun x4=>
 some x4
def K_stitch_sum_l1 (p0:(List api_Stitch)):(Int × Int × Int)→Option ((Int × Int × Int) ⊕ (Int × Int)):=fun s0=>match s0 with
 | (s9,s10,s11)=>
  if decide (s11 < (p0.length:Int)) then
   Option.bind (idxO p0 s11) fun x22=>
   Option.bind (K_stitch_forms x22.Kind) fun r29=>
   Option.bind (K_stitch_loops x22 r29.1.uses) fun r34=>
   Option.bind (K_stitch_loops x22 r29.1.made) fun r36=>
   some (.inl (w64 (s9 + r34),w64 (s10 + r36),w64 (s11 + 1)))
  else
   some (.inr (s9,s10))
def K_stitch_sum (p0:(List api_Stitch)):Option (Int × Int):=
 Option.bind (α:=(Int × Int)) (
  Option.bind (whileK (K_stitch_sum_l1 p0) (0,0,0)) fun (e15,e16)=>
   some (e15,e16)) fun (o4,o5)=>
 some (o4,o5)
def K_stitch_All (p0:(List api_Stitch)):Option Int:=
 if decide (200 < (p0.length:Int)) then
  some 4
 else
  Option.bind (K_slices_ContainsFunc___api_Stitch_api_Stitch__s0 p0) fun r10=>
  if r10 then
   some 8
  else
   Option.bind (K_stitch_sum p0) fun r16=>
   if decide (200 < (if r16.1 < r16.2 then r16.2 else r16.1)) then
    some 4
   else
    some 0
def K_slices_Backward___api_Stitch_api_Stitch_ (p0:(List api_Stitch)):Option (List api_Stitch):=
 some p0
def K_slices_Backward___api_Stitch_api_Stitch__1_l1 {σ τ:Type} (p0:(List api_Stitch)) (B:σ→(Int × api_Stitch)→Option (σ ⊕ τ)):(Int × σ)→Option ((Int × σ) ⊕ ((σ ⊕ τ) ⊕ (σ))):=fun s0=>match s0 with
 | (s5,gz6)=>
  if decide (0 ≤ s5) then
   Option.bind (idxO p0 s5) fun x20=>
   Option.bind (B gz6 (s5,x20)) fun y25=>
   match y25 with
   | .inl gz27=>
    some (.inl (w64 (s5 - 1),gz27))
   | .inr tz28=>
    some (.inr (.inl (.inr tz28)))
  else
   some (.inr (.inr gz6))
def K_I_slices_Backward___api_Stitch_api_Stitch__1 (p0:(List api_Stitch)) (σ τ:Type) (B:σ→(Int × api_Stitch)→Option (σ ⊕ τ)) (gz0:σ):Option (σ ⊕ τ):=
 Option.bind (whileK (K_slices_Backward___api_Stitch_api_Stitch__1_l1 p0 B) (w64 ((p0.length:Int) - 1),gz0)) fun z0=>match z0 with
  | .inl z=>
   some z
  | .inr gz10=>
   some (.inl gz10)
def K_stitch_Turn_l2 :List api_Stitch→(Int × api_Stitch)→Option (List api_Stitch ⊕ Empty):=fun s0 x0=>match s0,x0 with
 | s22,(x25,x27)=>
  Option.bind (K_stitch_forms x27.Kind) fun r31=>
  Option.bind (α:=Bool) (
   if r31.1.sided then
    some (!x27.Purl)
   else
    some false) fun o35=>
  Option.bind (α:=(Int × Int)) (
   if decide (0 < r31.1.b.2) then
    some (x27.B,x27.A)
   else
    some (x27.A,x27.B)) fun (o39,o40)=>
  Option.bind (appO s22 [(api_Stitch.mk x27.Kind o35 o39 o40)]) fun l47=>
  some (.inl l47)
def K_stitch_Turn (p0:(List api_Stitch)):Option ((List api_Stitch) × Int):=
 Option.bind (K_stitch_All p0) fun r6=>
 if r6 != 0 then
  some (([]:(List api_Stitch)),r6)
 else
  Option.bind (capO (p0.length:Int)) fun z14=>
  Option.bind (K_slices_Backward___api_Stitch_api_Stitch_ p0) fun r19=>
  Option.bind (K_I_slices_Backward___api_Stitch_api_Stitch__1 r19 _ _ (K_stitch_Turn_l2) ([]:List api_Stitch)) fun z0=>match z0 with
   | .inl s22=>
    some (s22,0)
   | .inr z0=>
    nomatch z0
def K_piece_Chart_l2 (p0:api_Piece):(Int × List api_Row)→Option ((Int × List api_Row) ⊕ ((api_Chart × Int) ⊕ (List api_Row))):=fun s0=>match s0 with
 | (s44,s45)=>
  if decide (s44 < (p0.Left.length:Int)) then
   Option.bind (α:=List api_Row ⊕ (api_Chart × Int)) (
    Option.bind (idxO p0.Right s44) fun x63=>
    Option.bind (idxO p0.Right (w64 (s44 - 1))) fun x68=>
    Option.bind (K_piece_bend (w64 (x63 - x68)) 3) fun r73=>
    Option.bind (idxO p0.Left (w64 (s44 - 1))) fun x86=>
    Option.bind (idxO p0.Left s44) fun x91=>
    Option.bind (K_piece_bend (w64 (x86 - x91)) 4) fun r96=>
    if decide ((w64 ((w64 ((w64 (x68 - x86)) - r73.uses)) - r96.uses)) < 1) then
     some (.inr ((api_Chart.mk 0 ([]:(List api_Row))),22))
    else
     Option.bind (α:=List api_Stitch) (
      if r73.s.Kind != 0 then
       Option.bind (appO ([]:List api_Stitch) [r73.s]) fun l135=>
       some l135
      else
       some ([]:List api_Stitch)) fun o126=>
     Option.bind (α:=List api_Stitch) (
      Option.bind (whileK (K_piece_Chart_l1 x68 x86 r73 r96) (o126,0)) fun e152=>
       some e152) fun o139=>
     Option.bind (α:=List api_Stitch) (
      if r96.s.Kind != 0 then
       Option.bind (appO o139 [r96.s]) fun l174=>
       some l174
      else
       some o139) fun o165=>
     Option.bind (remI s44 2) fun z179=>
     Option.bind (α:=List api_Stitch) (
      if z179 == 1 then
       Option.bind (K_stitch_Turn o165) fun r188=>
       some r188.1
      else
       some o165) fun o181=>
     Option.bind (appO s45 [(api_Row.mk (z179 == 1) o181)]) fun l195=>
     some (.inl l195)) fun z0=>match z0 with
    | .inl o57=>
     some (.inl (w64 (s44 + 1),o57))
    | .inr z=>
     some (.inr (.inl z))
  else
   some (.inr (.inr s45))
def K_piece_Chart (p0:api_Piece):Option (api_Chart × Int):=
 Option.bind (K_piece_Check p0) fun r14=>
 if r14 != 0 then
  some ((api_Chart.mk 0 ([]:(List api_Row))),r14)
 else
  Option.bind (idxO p0.Right 0) fun x20=>
  Option.bind (idxO p0.Left 0) fun x25=>
  Option.bind (α:=List api_Row ⊕ (api_Chart × Int)) (
   Option.bind (whileK (K_piece_Chart_l2 p0) (1,([]:List api_Row))) fun z0=>match z0 with
    | .inl z=>
     some (.inr z)
    | .inr e51=>
     some (.inl e51)) fun z0=>match z0 with
   | .inl o38=>
    some ((api_Chart.mk (w64 (x20 - x25)) o38),0)
   | .inr z=>
    some z
def K_piece_grows (p0:api_Stitch):Option Int:=
 if p0.Kind == 5 then
  some (w64 (p0.A - 1))
 else
  if p0.Kind == 9 then
   some p0.A
  else
   Option.bind (α:=Bool) (
    if p0.Kind == 3 then
     some (p0.Kind == 3)
    else
     some (p0.Kind == 4)) fun o11=>
   if o11 then
    some (w64 (1 - p0.A))
   else
    if p0.Kind == 10 then
     some (w64 (0 - p0.A))
    else
     some 0
def K_piece_Read_l1 (p0:api_Chart):(Int × List Int × List Int)→Option ((Int × List Int × List Int) ⊕ ((api_Piece × Int) ⊕ (List Int × List Int))):=fun s0=>match s0 with
 | (s34,s35,s38)=>
  if decide (s34 < (p0.Rows.length:Int)) then
   Option.bind (idxO p0.Rows s34) fun x55=>
   Option.bind (α:=Bool) (
    if (x55.Cells.length:Int) == 0 then
     some true
    else
     Option.bind (K_stitch_All x55.Cells) fun r71=>
     some (r71 != 0)) fun o67=>
   if o67 then
    some (.inr (.inl ((api_Piece.mk ([]:(List Int)) ([]:(List Int))),8)))
   else
    Option.bind (idxO x55.Cells 0) fun x76=>
    Option.bind (K_piece_grows x76) fun r81=>
    Option.bind (idxO x55.Cells (w64 ((x55.Cells.length:Int) - 1))) fun x83=>
    Option.bind (K_piece_grows x83) fun r88=>
    Option.bind (α:=(Int × Int)) (
     if x55.Back then
      some (r88,r81)
     else
      some (r81,r88)) fun (o96,o97)=>
    Option.bind (idxO s35 s34) fun x103=>
    Option.bind (appO s35 ([w64 (x103 - o97)]:List Int)) fun l110=>
    Option.bind (idxO s38 s34) fun x121=>
    Option.bind (appO s38 ([w64 (x121 + o96)]:List Int)) fun l128=>
    some (.inl (w64 (s34 + 1),l110,l128))
  else
   some (.inr (.inr (s35,s38)))
def K_slices_Equal___api_Stitch_api_Stitch__l1 (p0:(List api_Stitch)) (p1:(List api_Stitch)):Int→Option (Int ⊕ (Bool ⊕ Unit)):=fun s0=>match s0 with
 | s13=>
  if decide (s13 < (p0.length:Int)) then
   Option.bind (idxO p0 s13) fun x23=>
   Option.bind (idxO p1 s13) fun x28=>
   if !((x23.Kind == x28.Kind) && ((x23.Purl == x28.Purl) && ((x23.A == x28.A) && ((x23.B == x28.B) && true)))) then
    some (.inr (.inl false))
   else
    some (.inl (w64 (s13 + 1)))
  else
   some (.inr (.inr ()))
def K_slices_Equal___api_Stitch_api_Stitch_ (p0:(List api_Stitch)) (p1:(List api_Stitch)):Option Bool:=
 if (p0.length:Int) != (p1.length:Int) then
  some false
 else
  Option.bind (α:=Unit ⊕ Bool) (
   Option.bind (whileK (K_slices_Equal___api_Stitch_api_Stitch__l1 p0 p1) 0) fun z0=>match z0 with
    | .inl z=>
     some (.inr z)
    | .inr _=>
     some (.inl ())) fun z0=>match z0 with
   | .inl _=>
    some true
   | .inr z=>
    some z
def K_stitch_Same (p0:(List api_Stitch)) (p1:(List api_Stitch)):Option Bool:=
 Option.bind (K_slices_Equal___api_Stitch_api_Stitch_ p0 p1) fun r7=>
 some r7
def K_piece_Read_l2 (p0:api_Chart) (r140:(api_Chart × Int)):Int→Option (Int ⊕ ((api_Piece × Int) ⊕ Unit)):=fun s0=>match s0 with
 | s155=>
  if decide (s155 < (p0.Rows.length:Int)) then
   Option.bind (idxO p0.Rows s155) fun x164=>
   Option.bind (α:=Bool) (
    Option.bind (idxO r140.1.Rows s155) fun x177=>
    if x164.Back != x177.Back then
     some true
    else
     Option.bind (K_stitch_Same x164.Cells x177.Cells) fun r197=>
     some (!r197)) fun o174=>
   if o174 then
    some (.inr (.inl ((api_Piece.mk ([]:(List Int)) ([]:(List Int))),8)))
   else
    some (.inl (w64 (s155 + 1)))
  else
   some (.inr (.inr ()))
def K_piece_Read (p0:api_Chart) (p1:Int):Option (api_Piece × Int):=
 Option.bind (α:=Bool) (
  Option.bind (K_piece_column p1) fun r12=>
  if !r12 then
   some true
  else
   if decide (p0.Start < 1) then
    some true
   else
    if decide (200 < p0.Start) then
     some true
    else
     some (decide (100 ≤ (p0.Rows.length:Int)))) fun o9=>
 if o9 then
  some ((api_Piece.mk ([]:(List Int)) ([]:(List Int))),8)
 else
  Option.bind (α:=(List Int × List Int) ⊕ (api_Piece × Int)) (
   Option.bind (whileK (K_piece_Read_l1 p0) (0,([p1]:List Int),([w64 (p1 + p0.Start)]:List Int))) fun z0=>match z0 with
    | .inl z=>
     some (.inr z)
    | .inr (e44,e47)=>
     some (.inl (e44,e47))) fun z0=>match z0 with
   | .inl (o25,o28)=>
    Option.bind (K_piece_Chart (api_Piece.mk o25 o28)) fun r140=>
    if r140.2 != 0 then
     some ((api_Piece.mk ([]:(List Int)) ([]:(List Int))),8)
    else
     Option.bind (α:=Unit ⊕ (api_Piece × Int)) (
      Option.bind (whileK (K_piece_Read_l2 p0 r140) 0) fun z0=>match z0 with
       | .inl z=>
        some (.inr z)
       | .inr _=>
        some (.inl ())) fun z0=>match z0 with
      | .inl _=>
       some ((api_Piece.mk o25 o28),0)
      | .inr z=>
       some z
   | .inr z=>
    some z
def K_raddleref36_Same_l1 (p0:(List Int)) (p1:(List Int)):Int→Option (Int ⊕ (Bool ⊕ Unit)):=fun s0=>match s0 with
 | s13=>
  if decide (s13 < (p0.length:Int)) then
   Option.bind (idxO p0 s13) fun x22=>
   Option.bind (idxO p1 s13) fun x27=>
   if x22 != x27 then
    some (.inr (.inl false))
   else
    some (.inl (w64 (s13 + 1)))
  else
   some (.inr (.inr ()))
def K_raddleref36_Same (p0:(List Int)) (p1:(List Int)):Option Bool:=
 if (p0.length:Int) != (p1.length:Int) then
  some false
 else
  Option.bind (α:=Unit ⊕ Bool) (
   Option.bind (whileK (K_raddleref36_Same_l1 p0 p1) 0) fun z0=>match z0 with
    | .inl z=>
     some (.inr z)
    | .inr _=>
     some (.inl ())) fun z0=>match z0 with
   | .inl _=>
    some true
   | .inr z=>
    some z
def K_raddleref37_Same (p0:api_Piece) (p1:api_Piece):Option Bool:=
 Option.bind (α:=Bool) (
  Option.bind (K_raddleref36_Same p0.Left p1.Left) fun r23=>
  if r23 then
   Option.bind (K_raddleref36_Same p0.Right p1.Right) fun r26=>
   some r26
  else
   some false) fun o20=>
 some o20
def K_stitch_text_l1 (p0:(List api_Stitch)) (s14:Int):Int→Option (Int ⊕ Int):=fun s0=>match s0 with
 | s28=>
  Option.bind (α:=Bool) (
   Option.bind (idxO p0 s14) fun x37=>
   if x37.Kind == 1 then
    if decide ((w64 (s14 + s28)) < (p0.length:Int)) then
     Option.bind (idxO p0 (w64 (s14 + s28))) fun x46=>
     some ((x46.Kind == x37.Kind) && ((x46.Purl == x37.Purl) && ((x46.A == x37.A) && ((x46.B == x37.B) && true))))
    else
     some false
   else
    some false) fun o34=>
  if o34 then
   some (.inl (w64 (s28 + 1)))
  else
   some (.inr s28)
def K_internal_strconv_small (p0:Int):Option ByteArray:=
 if decide (p0 < 10) then
  Option.bind (sliceS (⟨#[48,49,50,51,52,53,54,55,56,57,97,98,99,100,101,102,103,104,105,106,107,108,109,110,111,112,113,114,115,116,117,118,119,120,121,122]⟩:ByteArray) p0 (w64 (p0 + 1))) fun y6=>
  some y6
 else
  Option.bind (sliceS (⟨#[48,48,48,49,48,50,48,51,48,52,48,53,48,54,48,55,48,56,48,57,49,48,49,49,49,50,49,51,49,52,49,53,49,54,49,55,49,56,49,57,50,48,50,49,50,50,50,51,50,52,50,53,50,54,50,55,50,56,50,57,51,48,51,49,51,50,51,51,51,52,51,53,51,54,51,55,51,56,51,57,52,48,52,49,52,50,52,51,52,52,52,53,52,54,52,55,52,56,52,57,53,48,53,49,53,50,53,51,53,52,53,53,53,54,53,55,53,56,53,57,54,48,54,49,54,50,54,51,54,52,54,53,54,54,54,55,54,56,54,57,55,48,55,49,55,50,55,51,55,52,55,53,55,54,55,55,55,56,55,57,56,48,56,49,56,50,56,51,56,52,56,53,56,54,56,55,56,56,56,57,57,48,57,49,57,50,57,51,57,52,57,53,57,54,57,55,57,56,57,57]⟩:ByteArray) (w64 (p0 * 2)) (w64 ((w64 (p0 * 2)) + 2))) fun y9=>
  some y9
def K_math_bits_Len64 (p0:Int):Option Int:=
 Option.bind (α:=(Int × Int)) (
  if decide (4294967296 ≤ p0) then
   Option.bind (shrI .u64 p0 32) fun z9=>
   some (z9,32)
  else
   some (p0,0)) fun (o2,o3)=>
 Option.bind (α:=(Int × Int)) (
  if decide (65536 ≤ o2) then
   Option.bind (shrI .u64 o2 16) fun z18=>
   some (z18,w64 (o3 + 16))
  else
   some (o2,o3)) fun (o11,o12)=>
 Option.bind (α:=(Int × Int)) (
  if decide (256 ≤ o11) then
   Option.bind (shrI .u64 o11 8) fun z27=>
   some (z27,w64 (o12 + 8))
  else
   some (o11,o12)) fun (o20,o21)=>
 Option.bind (idxS (⟨#[0,1,2,2,3,3,3,3,4,4,4,4,4,4,4,4,5,5,5,5,5,5,5,5,5,5,5,5,5,5,5,5,6,6,6,6,6,6,6,6,6,6,6,6,6,6,6,6,6,6,6,6,6,6,6,6,6,6,6,6,6,6,6,6,7,7,7,7,7,7,7,7,7,7,7,7,7,7,7,7,7,7,7,7,7,7,7,7,7,7,7,7,7,7,7,7,7,7,7,7,7,7,7,7,7,7,7,7,7,7,7,7,7,7,7,7,7,7,7,7,7,7,7,7,7,7,7,7,8,8,8,8,8,8,8,8,8,8,8,8,8,8,8,8,8,8,8,8,8,8,8,8,8,8,8,8,8,8,8,8,8,8,8,8,8,8,8,8,8,8,8,8,8,8,8,8,8,8,8,8,8,8,8,8,8,8,8,8,8,8,8,8,8,8,8,8,8,8,8,8,8,8,8,8,8,8,8,8,8,8,8,8,8,8,8,8,8,8,8,8,8,8,8,8,8,8,8,8,8,8,8,8,8,8,8,8,8,8,8,8,8,8,8,8,8,8,8,8,8,8,8,8,8,8,8,8]⟩:ByteArray) (IntKind.u8.wrap o20)) fun x30=>
 some (w64 (o21 + (IntKind.i64.wrap x30)))
def K_internal_strconv_log10Pow2 (p0:Int):Option Int:=
 Option.bind (shrI .i64 (w64 (p0 * 78913)) 18) fun z3=>
 some z3
def K_internal_strconv_numDigits (p0:Int):Option Int:=
 Option.bind (K_math_bits_Len64 p0) fun r3=>
 Option.bind (K_internal_strconv_log10Pow2 r3) fun r5=>
 none
def K_internal_strconv_FormatInt (p0:Int) (p1:Int):Option ByteArray:=
 if p1 == 10 then
  Option.bind (α:=Bool) (
   if decide (0 ≤ p0) then
    some (decide (p0 < 100))
   else
    some false) fun o6=>
  if o6 then
   Option.bind (K_internal_strconv_small p0) fun r12=>
   some r12
  else
   Option.bind (α:=Int) (
    if decide (p0 < 0) then
     some (IntKind.u64.wrap (0 - (IntKind.u64.wrap p0)))
    else
     some (IntKind.u64.wrap p0)) fun o17=>
   Option.bind (K_internal_strconv_numDigits o17) fun r23=>
   none
 else
  none
def K_internal_strconv_Itoa (p0:Int):Option ByteArray:=
 Option.bind (K_internal_strconv_FormatInt p0 10) fun r3=>
 some r3
def K_strconv_Itoa (p0:Int):Option ByteArray:=
 Option.bind (K_internal_strconv_Itoa p0) fun r3=>
 some r3
def K_stitch_word (p0:api_Stitch):Option ByteArray:=
 if p0.Kind == 2 then
  some (⟨#[121,111]⟩:ByteArray)
 else
  if p0.Kind == 9 then
   Option.bind (K_strconv_Itoa p0.A) fun r11=>
   Option.bind (addS (⟨#[111,110]⟩:ByteArray) r11) fun z13=>
   some z13
  else
   Option.bind (K_stitch_forms p0.Kind) fun r16=>
   Option.bind (α:=ByteArray) (
    if p0.Purl then
     some (⟨#[112]⟩:ByteArray)
    else
     some (⟨#[107]⟩:ByteArray)) fun o21=>
   Option.bind (addS o21 r16.1.letter) fun z27=>
   Option.bind (α:=ByteArray) (
    if decide (0 < r16.1.a.2) then
     Option.bind (K_strconv_Itoa p0.A) fun r34=>
     Option.bind (addS z27 r34) fun z36=>
     some z36
    else
     some z27) fun o29=>
   Option.bind (α:=ByteArray) (
    if decide (0 < r16.1.b.2) then
     Option.bind (K_strconv_Itoa p0.B) fun r43=>
     Option.bind (addS (⟨#[47]⟩:ByteArray) r43) fun z45=>
     Option.bind (addS o29 z45) fun z47=>
     some z47
    else
     some o29) fun o38=>
   some o38
def K_stitch_text_l2 (p0:(List api_Stitch)):(List ByteArray × Int)→Option ((List ByteArray × Int) ⊕ List ByteArray):=fun s0=>match s0 with
 | (s11,s14)=>
  if decide (s14 < (p0.length:Int)) then
   Option.bind (α:=Int) (
    Option.bind (whileK (K_stitch_text_l1 p0 s14) 1) fun e32=>
     some e32) fun o25=>
   Option.bind (idxO p0 s14) fun x77=>
   Option.bind (K_stitch_word x77) fun r82=>
   Option.bind (α:=ByteArray) (
    if decide (1 < o25) then
     Option.bind (K_strconv_Itoa o25) fun r89=>
     Option.bind (addS r82 r89) fun z91=>
     some z91
    else
     some r82) fun o84=>
   Option.bind (appO s11 [o84]) fun l96=>
   some (.inl (l96,w64 (s14 + o25)))
  else
   some (.inr s11)
def K_strings_Join (p0:List ByteArray) (p1:ByteArray):Option ByteArray:=
 if decide (p0.length ≤ 140737488355328∧(Lib.join (p0.map (·.data.toList)) p1.data.toList).length ≤ 140737488355328) then
  some ⟨(Lib.join (p0.map (·.data.toList)) p1.data.toList).toArray⟩
 else
  none
def K_stitch_text (p0:(List api_Stitch)):Option ByteArray:=
 Option.bind (α:=List ByteArray) (
  Option.bind (whileK (K_stitch_text_l2 p0) (([]:List ByteArray),0)) fun e18=>
   some e18) fun o5=>
 Option.bind (K_strings_Join o5 (⟨#[32]⟩:ByteArray)) fun r101=>
 some r101
def K_stitch_Text (p0:(List api_Stitch)):Option (ByteArray × Int):=
 Option.bind (K_stitch_All p0) fun r6=>
 if r6 != 0 then
  some ((⟨#[]⟩:ByteArray),r6)
 else
  Option.bind (K_stitch_text p0) fun r12=>
  if decide (3000 < (r12.size:Int)) then
   some ((⟨#[]⟩:ByteArray),4)
  else
   some (r12,0)
theorem m_F_raddlelaw37_given :Le (K_raddlelaw37_given) (F_raddlelaw37_given):=by
 unfold K_raddlelaw37_given F_raddlelaw37_given
 with_reducible repeat' (first | exact Le.rfl _ | refine Le.loop _ ?_ | refine Le.bind ?_ ?_ | refine Le.ite ?_ ?_ | refine Le.sum ?_ ?_ | refine Le.prod ?_ | intro _ | exact Empty.elim (by assumption) | dsimp only)
theorem m_F_piece_column (p0:Int):Le (K_piece_column p0) (F_piece_column p0):=by
 unfold K_piece_column F_piece_column
 with_reducible repeat' (first | exact Le.rfl _ | refine Le.loop _ ?_ | refine Le.bind ?_ ?_ | refine Le.ite ?_ ?_ | refine Le.sum ?_ ?_ | refine Le.prod ?_ | intro _ | exact Empty.elim (by assumption) | dsimp only)
theorem m_piece_side_l1 (p0:(List api_Point)):∀ s,Le (K_piece_side_l1 p0 s) (piece_side_l1 p0 s):=by
 unfold K_piece_side_l1 piece_side_l1
 with_reducible repeat' (first | exact m_F_piece_column _ | exact Le.rfl _ | refine Le.loop _ ?_ | refine Le.bind ?_ ?_ | refine Le.ite ?_ ?_ | refine Le.sum ?_ ?_ | refine Le.prod ?_ | intro _ | exact Empty.elim (by assumption) | dsimp only)
theorem m_F_piece_side (p0:(List api_Point)):Le (K_piece_side p0) (F_piece_side p0):=by
 unfold K_piece_side F_piece_side
 with_reducible repeat' (first | exact m_piece_side_l1 _ | exact Le.rfl _ | refine Le.loop _ ?_ | refine Le.bind ?_ ?_ | refine Le.ite ?_ ?_ | refine Le.sum ?_ ?_ | refine Le.prod ?_ | intro _ | exact Empty.elim (by assumption) | dsimp only)
theorem m_F_piece_shape (p0:api_Shape):Le (K_piece_shape p0) (F_piece_shape p0):=by
 unfold K_piece_shape F_piece_shape
 with_reducible repeat' (first | exact m_F_piece_side _ | exact Le.rfl _ | refine Le.loop _ ?_ | refine Le.bind ?_ ?_ | refine Le.ite ?_ ?_ | refine Le.sum ?_ ?_ | refine Le.prod ?_ | intro _ | exact Empty.elim (by assumption) | dsimp only)
theorem m_F_slope_within (p0:Int) (p1:Int) (p2:Int):Le (K_slope_within p0 p1 p2) (F_slope_within p0 p1 p2):=by
 unfold K_slope_within F_slope_within
 with_reducible repeat' (first | exact Le.rfl _ | refine Le.loop _ ?_ | refine Le.bind ?_ ?_ | refine Le.ite ?_ ?_ | refine Le.sum ?_ ?_ | refine Le.prod ?_ | intro _ | exact Empty.elim (by assumption) | dsimp only)
theorem m_F_slope_check (p0:Int) (p1:Int) (p2:Int):Le (K_slope_check p0 p1 p2) (F_slope_check p0 p1 p2):=by
 unfold K_slope_check F_slope_check
 with_reducible repeat' (first | exact m_F_slope_within _ _ _ | exact Le.rfl _ | refine Le.loop _ ?_ | refine Le.bind ?_ ?_ | refine Le.ite ?_ ?_ | refine Le.sum ?_ ?_ | refine Le.prod ?_ | intro _ | exact Empty.elim (by assumption) | dsimp only)
theorem m_F_slope_at (p0:Int) (p1:Int) (p2:Int) (p3:Int):Le (K_slope_at p0 p1 p2 p3) (F_slope_at p0 p1 p2 p3):=by
 unfold K_slope_at F_slope_at
 with_reducible repeat' (first | exact Le.rfl _ | refine Le.loop _ ?_ | refine Le.bind ?_ ?_ | refine Le.ite ?_ ?_ | refine Le.sum ?_ ?_ | refine Le.prod ?_ | intro _ | exact Empty.elim (by assumption) | dsimp only)
theorem m_F_slope_Line_1_s0 (p0:Int) (p1:Int) (p2:Int) (p3:Int):Le (K_slope_Line_1_s0 p0 p1 p2 p3) (F_slope_Line_1_s0 p0 p1 p2 p3):=by
 unfold K_slope_Line_1_s0 F_slope_Line_1_s0
 with_reducible repeat' (first | exact m_F_slope_at _ _ _ _ | exact Le.rfl _ | refine Le.loop _ ?_ | refine Le.bind ?_ ?_ | refine Le.ite ?_ ?_ | refine Le.sum ?_ ?_ | refine Le.prod ?_ | intro _ | exact Empty.elim (by assumption) | dsimp only)
theorem m_slope_list_int__s0_l1 (p0:Int) (p1:Int) (p2:Int) (p3:Int):∀ s,Le (K_slope_list_int__s0_l1 p0 p1 p2 p3 s) (slope_list_int__s0_l1 p0 p1 p2 p3 s):=by
 unfold K_slope_list_int__s0_l1 slope_list_int__s0_l1
 with_reducible repeat' (first | exact m_F_slope_Line_1_s0 _ _ _ _ | exact Le.rfl _ | refine Le.loop _ ?_ | refine Le.bind ?_ ?_ | refine Le.ite ?_ ?_ | refine Le.sum ?_ ?_ | refine Le.prod ?_ | intro _ | exact Empty.elim (by assumption) | dsimp only)
theorem m_F_slope_list_int__s0 (p0:Int) (p1:Int) (p2:Int) (p3:Int):Le (K_slope_list_int__s0 p0 p1 p2 p3) (F_slope_list_int__s0 p0 p1 p2 p3):=by
 unfold K_slope_list_int__s0 F_slope_list_int__s0
 with_reducible repeat' (first | exact m_slope_list_int__s0_l1 _ _ _ _ | exact Le.rfl _ | refine Le.loop _ ?_ | refine Le.bind ?_ ?_ | refine Le.ite ?_ ?_ | refine Le.sum ?_ ?_ | refine Le.prod ?_ | intro _ | exact Empty.elim (by assumption) | dsimp only)
theorem m_F_slope_Line (p0:Int) (p1:Int) (p2:Int):Le (K_slope_Line p0 p1 p2) (F_slope_Line p0 p1 p2):=by
 unfold K_slope_Line F_slope_Line
 with_reducible repeat' (first | exact m_F_slope_check _ _ _ | exact m_F_slope_list_int__s0 _ _ _ _ | exact Le.rfl _ | refine Le.loop _ ?_ | refine Le.bind ?_ ?_ | refine Le.ite ?_ ?_ | refine Le.sum ?_ ?_ | refine Le.prod ?_ | intro _ | exact Empty.elim (by assumption) | dsimp only)
theorem m_piece_columns_l1 (y20:List api_Point) (p0:(List api_Point)):∀ s,Le (K_piece_columns_l1 y20 p0 s) (piece_columns_l1 y20 p0 s):=by
 unfold K_piece_columns_l1 piece_columns_l1
 with_reducible repeat' (first | exact m_F_slope_Line _ _ _ | exact Le.rfl _ | refine Le.loop _ ?_ | refine Le.bind ?_ ?_ | refine Le.ite ?_ ?_ | refine Le.sum ?_ ?_ | refine Le.prod ?_ | intro _ | exact Empty.elim (by assumption) | dsimp only)
theorem m_F_piece_columns (p0:(List api_Point)):Le (K_piece_columns p0) (F_piece_columns p0):=by
 unfold K_piece_columns F_piece_columns
 with_reducible repeat' (first | exact m_piece_columns_l1 _ _ | exact Le.rfl _ | refine Le.loop _ ?_ | refine Le.bind ?_ ?_ | refine Le.ite ?_ ?_ | refine Le.sum ?_ ?_ | refine Le.prod ?_ | intro _ | exact Empty.elim (by assumption) | dsimp only)
theorem m_piece_Check_l1 (p0:api_Piece):∀ s,Le (K_piece_Check_l1 p0 s) (piece_Check_l1 p0 s):=by
 unfold K_piece_Check_l1 piece_Check_l1
 with_reducible repeat' (first | exact m_F_piece_column _ | exact Le.rfl _ | refine Le.loop _ ?_ | refine Le.bind ?_ ?_ | refine Le.ite ?_ ?_ | refine Le.sum ?_ ?_ | refine Le.prod ?_ | intro _ | exact Empty.elim (by assumption) | dsimp only)
theorem m_F_piece_Check (p0:api_Piece):Le (K_piece_Check p0) (F_piece_Check p0):=by
 unfold K_piece_Check F_piece_Check
 with_reducible repeat' (first | exact m_piece_Check_l1 _ | exact Le.rfl _ | refine Le.loop _ ?_ | refine Le.bind ?_ ?_ | refine Le.ite ?_ ?_ | refine Le.sum ?_ ?_ | refine Le.prod ?_ | intro _ | exact Empty.elim (by assumption) | dsimp only)
theorem m_F_piece_Make (p0:api_Shape):Le (K_piece_Make p0) (F_piece_Make p0):=by
 unfold K_piece_Make F_piece_Make
 with_reducible repeat' (first | exact m_F_piece_shape _ | exact m_F_piece_columns _ | exact m_F_piece_Check _ | exact Le.rfl _ | refine Le.loop _ ?_ | refine Le.bind ?_ ?_ | refine Le.ite ?_ ?_ | refine Le.sum ?_ ?_ | refine Le.prod ?_ | intro _ | exact Empty.elim (by assumption) | dsimp only)
theorem m_F_raddlelaw37_made :Le (K_raddlelaw37_made) (F_raddlelaw37_made):=by
 unfold K_raddlelaw37_made F_raddlelaw37_made
 with_reducible repeat' (first | exact Le.rfl _ | refine Le.loop _ ?_ | refine Le.bind ?_ ?_ | refine Le.ite ?_ ?_ | refine Le.sum ?_ ?_ | refine Le.prod ?_ | intro _ | exact Empty.elim (by assumption) | dsimp only)
theorem m_F_piece_bend (p0:Int) (p1:Int):Le (K_piece_bend p0 p1) (F_piece_bend p0 p1):=by
 unfold K_piece_bend F_piece_bend
 with_reducible repeat' (first | exact Le.rfl _ | refine Le.loop _ ?_ | refine Le.bind ?_ ?_ | refine Le.ite ?_ ?_ | refine Le.sum ?_ ?_ | refine Le.prod ?_ | intro _ | exact Empty.elim (by assumption) | dsimp only)
theorem m_piece_Chart_l1 (x68:Int) (x86:Int) (r73:piece_edge) (r96:piece_edge):∀ s,Le (K_piece_Chart_l1 x68 x86 r73 r96 s) (piece_Chart_l1 x68 x86 r73 r96 s):=by
 unfold K_piece_Chart_l1 piece_Chart_l1
 with_reducible repeat' (first | exact Le.rfl _ | refine Le.loop _ ?_ | refine Le.bind ?_ ?_ | refine Le.ite ?_ ?_ | refine Le.sum ?_ ?_ | refine Le.prod ?_ | intro _ | exact Empty.elim (by assumption) | dsimp only)
theorem m_F_stitch_forms (p0:Int):Le (K_stitch_forms p0) (F_stitch_forms p0):=by
 unfold K_stitch_forms F_stitch_forms
 with_reducible repeat' (first | exact Le.rfl _ | refine Le.loop _ ?_ | refine Le.bind ?_ ?_ | refine Le.ite ?_ ?_ | refine Le.sum ?_ ?_ | refine Le.prod ?_ | intro _ | exact Empty.elim (by assumption) | dsimp only)
theorem m_F_stitch_within (p0:Int) (p1:(Int × Int)):Le (K_stitch_within p0 p1) (F_stitch_within p0 p1):=by
 unfold K_stitch_within F_stitch_within
 with_reducible repeat' (first | exact Le.rfl _ | refine Le.loop _ ?_ | refine Le.bind ?_ ?_ | refine Le.ite ?_ ?_ | refine Le.sum ?_ ?_ | refine Le.prod ?_ | intro _ | exact Empty.elim (by assumption) | dsimp only)
theorem m_F_stitch_Check (p0:api_Stitch):Le (K_stitch_Check p0) (F_stitch_Check p0):=by
 unfold K_stitch_Check F_stitch_Check
 with_reducible repeat' (first | exact m_F_stitch_forms _ | exact m_F_stitch_within _ _ | exact Le.rfl _ | refine Le.loop _ ?_ | refine Le.bind ?_ ?_ | refine Le.ite ?_ ?_ | refine Le.sum ?_ ?_ | refine Le.prod ?_ | intro _ | exact Empty.elim (by assumption) | dsimp only)
theorem m_F_stitch_All_1 (p0:api_Stitch):Le (K_stitch_All_1 p0) (F_stitch_All_1 p0):=by
 unfold K_stitch_All_1 F_stitch_All_1
 with_reducible repeat' (first | exact m_F_stitch_Check _ | exact Le.rfl _ | refine Le.loop _ ?_ | refine Le.bind ?_ ?_ | refine Le.ite ?_ ?_ | refine Le.sum ?_ ?_ | refine Le.prod ?_ | intro _ | exact Empty.elim (by assumption) | dsimp only)
theorem m_slices_IndexFunc___api_Stitch_api_Stitch__s0_l1 (p0:(List api_Stitch)):∀ s,Le (K_slices_IndexFunc___api_Stitch_api_Stitch__s0_l1 p0 s) (slices_IndexFunc___api_Stitch_api_Stitch__s0_l1 p0 s):=by
 unfold K_slices_IndexFunc___api_Stitch_api_Stitch__s0_l1 slices_IndexFunc___api_Stitch_api_Stitch__s0_l1
 with_reducible repeat' (first | exact m_F_stitch_All_1 _ | exact Le.rfl _ | refine Le.loop _ ?_ | refine Le.bind ?_ ?_ | refine Le.ite ?_ ?_ | refine Le.sum ?_ ?_ | refine Le.prod ?_ | intro _ | exact Empty.elim (by assumption) | dsimp only)
theorem m_F_slices_IndexFunc___api_Stitch_api_Stitch__s0 (p0:(List api_Stitch)):Le (K_slices_IndexFunc___api_Stitch_api_Stitch__s0 p0) (F_slices_IndexFunc___api_Stitch_api_Stitch__s0 p0):=by
 unfold K_slices_IndexFunc___api_Stitch_api_Stitch__s0 F_slices_IndexFunc___api_Stitch_api_Stitch__s0
 with_reducible repeat' (first | exact m_slices_IndexFunc___api_Stitch_api_Stitch__s0_l1 _ | exact Le.rfl _ | refine Le.loop _ ?_ | refine Le.bind ?_ ?_ | refine Le.ite ?_ ?_ | refine Le.sum ?_ ?_ | refine Le.prod ?_ | intro _ | exact Empty.elim (by assumption) | dsimp only)
theorem m_F_slices_ContainsFunc___api_Stitch_api_Stitch__s0 (p0:(List api_Stitch)):Le (K_slices_ContainsFunc___api_Stitch_api_Stitch__s0 p0) (F_slices_ContainsFunc___api_Stitch_api_Stitch__s0 p0):=by
 unfold K_slices_ContainsFunc___api_Stitch_api_Stitch__s0 F_slices_ContainsFunc___api_Stitch_api_Stitch__s0
 with_reducible repeat' (first | exact m_F_slices_IndexFunc___api_Stitch_api_Stitch__s0 _ | exact Le.rfl _ | refine Le.loop _ ?_ | refine Le.bind ?_ ?_ | refine Le.ite ?_ ?_ | refine Le.sum ?_ ?_ | refine Le.prod ?_ | intro _ | exact Empty.elim (by assumption) | dsimp only)
theorem m_F_stitch_loops (p0:api_Stitch) (p1:Int):Le (K_stitch_loops p0 p1) (F_stitch_loops p0 p1):=by
 unfold K_stitch_loops F_stitch_loops
 with_reducible repeat' (first | exact Le.rfl _ | refine Le.loop _ ?_ | refine Le.bind ?_ ?_ | refine Le.ite ?_ ?_ | refine Le.sum ?_ ?_ | refine Le.prod ?_ | intro _ | exact Empty.elim (by assumption) | dsimp only)
theorem m_stitch_sum_l1 (p0:(List api_Stitch)):∀ s,Le (K_stitch_sum_l1 p0 s) (stitch_sum_l1 p0 s):=by
 unfold K_stitch_sum_l1 stitch_sum_l1
 with_reducible repeat' (first | exact m_F_stitch_forms _ | exact m_F_stitch_loops _ _ | exact Le.rfl _ | refine Le.loop _ ?_ | refine Le.bind ?_ ?_ | refine Le.ite ?_ ?_ | refine Le.sum ?_ ?_ | refine Le.prod ?_ | intro _ | exact Empty.elim (by assumption) | dsimp only)
theorem m_F_stitch_sum (p0:(List api_Stitch)):Le (K_stitch_sum p0) (F_stitch_sum p0):=by
 unfold K_stitch_sum F_stitch_sum
 with_reducible repeat' (first | exact m_stitch_sum_l1 _ | exact Le.rfl _ | refine Le.loop _ ?_ | refine Le.bind ?_ ?_ | refine Le.ite ?_ ?_ | refine Le.sum ?_ ?_ | refine Le.prod ?_ | intro _ | exact Empty.elim (by assumption) | dsimp only)
theorem m_F_stitch_All (p0:(List api_Stitch)):Le (K_stitch_All p0) (F_stitch_All p0):=by
 unfold K_stitch_All F_stitch_All
 with_reducible repeat' (first | exact m_F_slices_ContainsFunc___api_Stitch_api_Stitch__s0 _ | exact m_F_stitch_sum _ | exact Le.rfl _ | refine Le.loop _ ?_ | refine Le.bind ?_ ?_ | refine Le.ite ?_ ?_ | refine Le.sum ?_ ?_ | refine Le.prod ?_ | intro _ | exact Empty.elim (by assumption) | dsimp only)
theorem m_F_slices_Backward___api_Stitch_api_Stitch_ (p0:(List api_Stitch)):Le (K_slices_Backward___api_Stitch_api_Stitch_ p0) (F_slices_Backward___api_Stitch_api_Stitch_ p0):=by
 unfold K_slices_Backward___api_Stitch_api_Stitch_ F_slices_Backward___api_Stitch_api_Stitch_
 with_reducible repeat' (first | exact Le.rfl _ | refine Le.loop _ ?_ | refine Le.bind ?_ ?_ | refine Le.ite ?_ ?_ | refine Le.sum ?_ ?_ | refine Le.prod ?_ | intro _ | exact Empty.elim (by assumption) | dsimp only)
theorem m_slices_Backward___api_Stitch_api_Stitch__1_l1 {σ τ:Type} (p0:(List api_Stitch)) (B B':σ→(Int × api_Stitch)→Option (σ ⊕ τ)) (hB:∀ s x,Le (B s x) (B' s x)):∀ s,Le (K_slices_Backward___api_Stitch_api_Stitch__1_l1 p0 B s) (slices_Backward___api_Stitch_api_Stitch__1_l1 p0 B' s):=by
 unfold K_slices_Backward___api_Stitch_api_Stitch__1_l1 slices_Backward___api_Stitch_api_Stitch__1_l1
 with_reducible repeat' (first | exact hB _ _ | exact Le.rfl _ | refine Le.loop _ ?_ | refine Le.bind ?_ ?_ | refine Le.ite ?_ ?_ | refine Le.sum ?_ ?_ | refine Le.prod ?_ | intro _ | exact Empty.elim (by assumption) | dsimp only)
theorem m_I_slices_Backward___api_Stitch_api_Stitch__1 (p0:(List api_Stitch)) (σ τ:Type) (B B':σ→(Int × api_Stitch)→Option (σ ⊕ τ)) (hB:∀ s x,Le (B s x) (B' s x)) (gz0:σ):Le (K_I_slices_Backward___api_Stitch_api_Stitch__1 p0 σ τ B gz0) (I_slices_Backward___api_Stitch_api_Stitch__1 p0 σ τ B' gz0):=by
 unfold K_I_slices_Backward___api_Stitch_api_Stitch__1 I_slices_Backward___api_Stitch_api_Stitch__1
 with_reducible repeat' (first | exact hB _ _ | exact m_slices_Backward___api_Stitch_api_Stitch__1_l1 _ _ _ hB | exact Le.rfl _ | refine Le.loop _ ?_ | refine Le.bind ?_ ?_ | refine Le.ite ?_ ?_ | refine Le.sum ?_ ?_ | refine Le.prod ?_ | intro _ | exact Empty.elim (by assumption) | dsimp only)
theorem m_stitch_Turn_l2 :∀ s x,Le (K_stitch_Turn_l2 s x) (stitch_Turn_l2 s x):=by
 unfold K_stitch_Turn_l2 stitch_Turn_l2
 with_reducible repeat' (first | exact m_F_stitch_forms _ | exact Le.rfl _ | refine Le.loop _ ?_ | refine Le.bind ?_ ?_ | refine Le.ite ?_ ?_ | refine Le.sum ?_ ?_ | refine Le.prod ?_ | intro _ | exact Empty.elim (by assumption) | dsimp only)
theorem m_F_stitch_Turn (p0:(List api_Stitch)):Le (K_stitch_Turn p0) (F_stitch_Turn p0):=by
 unfold K_stitch_Turn F_stitch_Turn
 with_reducible repeat' (first | exact m_F_stitch_All _ | exact m_F_slices_Backward___api_Stitch_api_Stitch_ _ | refine m_I_slices_Backward___api_Stitch_api_Stitch__1 _ _ _ _ _ ?_ _ | exact m_stitch_Turn_l2 | exact Le.rfl _ | refine Le.loop _ ?_ | refine Le.bind ?_ ?_ | refine Le.ite ?_ ?_ | refine Le.sum ?_ ?_ | refine Le.prod ?_ | intro _ | exact Empty.elim (by assumption) | dsimp only)
theorem m_piece_Chart_l2 (p0:api_Piece):∀ s,Le (K_piece_Chart_l2 p0 s) (piece_Chart_l2 p0 s):=by
 unfold K_piece_Chart_l2 piece_Chart_l2
 with_reducible repeat' (first | exact m_F_piece_bend _ _ | exact m_piece_Chart_l1 _ _ _ _ | exact m_F_stitch_Turn _ | exact Le.rfl _ | refine Le.loop _ ?_ | refine Le.bind ?_ ?_ | refine Le.ite ?_ ?_ | refine Le.sum ?_ ?_ | refine Le.prod ?_ | intro _ | exact Empty.elim (by assumption) | dsimp only)
theorem m_F_piece_Chart (p0:api_Piece):Le (K_piece_Chart p0) (F_piece_Chart p0):=by
 unfold K_piece_Chart F_piece_Chart
 with_reducible repeat' (first | exact m_F_piece_Check _ | exact m_piece_Chart_l2 _ | exact Le.rfl _ | refine Le.loop _ ?_ | refine Le.bind ?_ ?_ | refine Le.ite ?_ ?_ | refine Le.sum ?_ ?_ | refine Le.prod ?_ | intro _ | exact Empty.elim (by assumption) | dsimp only)
theorem m_F_piece_grows (p0:api_Stitch):Le (K_piece_grows p0) (F_piece_grows p0):=by
 unfold K_piece_grows F_piece_grows
 with_reducible repeat' (first | exact Le.rfl _ | refine Le.loop _ ?_ | refine Le.bind ?_ ?_ | refine Le.ite ?_ ?_ | refine Le.sum ?_ ?_ | refine Le.prod ?_ | intro _ | exact Empty.elim (by assumption) | dsimp only)
theorem m_piece_Read_l1 (p0:api_Chart):∀ s,Le (K_piece_Read_l1 p0 s) (piece_Read_l1 p0 s):=by
 unfold K_piece_Read_l1 piece_Read_l1
 with_reducible repeat' (first | exact m_F_stitch_All _ | exact m_F_piece_grows _ | exact Le.rfl _ | refine Le.loop _ ?_ | refine Le.bind ?_ ?_ | refine Le.ite ?_ ?_ | refine Le.sum ?_ ?_ | refine Le.prod ?_ | intro _ | exact Empty.elim (by assumption) | dsimp only)
theorem m_slices_Equal___api_Stitch_api_Stitch__l1 (p0:(List api_Stitch)) (p1:(List api_Stitch)):∀ s,Le (K_slices_Equal___api_Stitch_api_Stitch__l1 p0 p1 s) (slices_Equal___api_Stitch_api_Stitch__l1 p0 p1 s):=by
 unfold K_slices_Equal___api_Stitch_api_Stitch__l1 slices_Equal___api_Stitch_api_Stitch__l1
 with_reducible repeat' (first | exact Le.rfl _ | refine Le.loop _ ?_ | refine Le.bind ?_ ?_ | refine Le.ite ?_ ?_ | refine Le.sum ?_ ?_ | refine Le.prod ?_ | intro _ | exact Empty.elim (by assumption) | dsimp only)
theorem m_F_slices_Equal___api_Stitch_api_Stitch_ (p0:(List api_Stitch)) (p1:(List api_Stitch)):Le (K_slices_Equal___api_Stitch_api_Stitch_ p0 p1) (F_slices_Equal___api_Stitch_api_Stitch_ p0 p1):=by
 unfold K_slices_Equal___api_Stitch_api_Stitch_ F_slices_Equal___api_Stitch_api_Stitch_
 with_reducible repeat' (first | exact m_slices_Equal___api_Stitch_api_Stitch__l1 _ _ | exact Le.rfl _ | refine Le.loop _ ?_ | refine Le.bind ?_ ?_ | refine Le.ite ?_ ?_ | refine Le.sum ?_ ?_ | refine Le.prod ?_ | intro _ | exact Empty.elim (by assumption) | dsimp only)
theorem m_F_stitch_Same (p0:(List api_Stitch)) (p1:(List api_Stitch)):Le (K_stitch_Same p0 p1) (F_stitch_Same p0 p1):=by
 unfold K_stitch_Same F_stitch_Same
 with_reducible repeat' (first | exact m_F_slices_Equal___api_Stitch_api_Stitch_ _ _ | exact Le.rfl _ | refine Le.loop _ ?_ | refine Le.bind ?_ ?_ | refine Le.ite ?_ ?_ | refine Le.sum ?_ ?_ | refine Le.prod ?_ | intro _ | exact Empty.elim (by assumption) | dsimp only)
theorem m_piece_Read_l2 (p0:api_Chart) (r140:(api_Chart × Int)):∀ s,Le (K_piece_Read_l2 p0 r140 s) (piece_Read_l2 p0 r140 s):=by
 unfold K_piece_Read_l2 piece_Read_l2
 with_reducible repeat' (first | exact m_F_stitch_Same _ _ | exact Le.rfl _ | refine Le.loop _ ?_ | refine Le.bind ?_ ?_ | refine Le.ite ?_ ?_ | refine Le.sum ?_ ?_ | refine Le.prod ?_ | intro _ | exact Empty.elim (by assumption) | dsimp only)
theorem m_F_piece_Read (p0:api_Chart) (p1:Int):Le (K_piece_Read p0 p1) (F_piece_Read p0 p1):=by
 unfold K_piece_Read F_piece_Read
 with_reducible repeat' (first | exact m_F_piece_column _ | exact m_piece_Read_l1 _ | exact m_F_piece_Chart _ | exact m_piece_Read_l2 _ _ | exact Le.rfl _ | refine Le.loop _ ?_ | refine Le.bind ?_ ?_ | refine Le.ite ?_ ?_ | refine Le.sum ?_ ?_ | refine Le.prod ?_ | intro _ | exact Empty.elim (by assumption) | dsimp only)
theorem m_raddleref36_Same_l1 (p0:(List Int)) (p1:(List Int)):∀ s,Le (K_raddleref36_Same_l1 p0 p1 s) (raddleref36_Same_l1 p0 p1 s):=by
 unfold K_raddleref36_Same_l1 raddleref36_Same_l1
 with_reducible repeat' (first | exact Le.rfl _ | refine Le.loop _ ?_ | refine Le.bind ?_ ?_ | refine Le.ite ?_ ?_ | refine Le.sum ?_ ?_ | refine Le.prod ?_ | intro _ | exact Empty.elim (by assumption) | dsimp only)
theorem m_F_raddleref36_Same (p0:(List Int)) (p1:(List Int)):Le (K_raddleref36_Same p0 p1) (F_raddleref36_Same p0 p1):=by
 unfold K_raddleref36_Same F_raddleref36_Same
 with_reducible repeat' (first | exact m_raddleref36_Same_l1 _ _ | exact Le.rfl _ | refine Le.loop _ ?_ | refine Le.bind ?_ ?_ | refine Le.ite ?_ ?_ | refine Le.sum ?_ ?_ | refine Le.prod ?_ | intro _ | exact Empty.elim (by assumption) | dsimp only)
theorem m_F_raddleref37_Same (p0:api_Piece) (p1:api_Piece):Le (K_raddleref37_Same p0 p1) (F_raddleref37_Same p0 p1):=by
 unfold K_raddleref37_Same F_raddleref37_Same
 with_reducible repeat' (first | exact m_F_raddleref36_Same _ _ | exact Le.rfl _ | refine Le.loop _ ?_ | refine Le.bind ?_ ?_ | refine Le.ite ?_ ?_ | refine Le.sum ?_ ?_ | refine Le.prod ?_ | intro _ | exact Empty.elim (by assumption) | dsimp only)
theorem m_stitch_text_l1 (p0:(List api_Stitch)) (s14:Int):∀ s,Le (K_stitch_text_l1 p0 s14 s) (stitch_text_l1 p0 s14 s):=by
 unfold K_stitch_text_l1 stitch_text_l1
 with_reducible repeat' (first | exact Le.rfl _ | refine Le.loop _ ?_ | refine Le.bind ?_ ?_ | refine Le.ite ?_ ?_ | refine Le.sum ?_ ?_ | refine Le.prod ?_ | intro _ | exact Empty.elim (by assumption) | dsimp only)
theorem m_F_internal_strconv_small (p0:Int):Le (K_internal_strconv_small p0) (F_internal_strconv_small p0):=by
 unfold K_internal_strconv_small F_internal_strconv_small
 with_reducible repeat' (first | exact Le.rfl _ | refine Le.loop _ ?_ | refine Le.bind ?_ ?_ | refine Le.ite ?_ ?_ | refine Le.sum ?_ ?_ | refine Le.prod ?_ | intro _ | exact Empty.elim (by assumption) | dsimp only)
theorem m_F_math_bits_Len64 (p0:Int):Le (K_math_bits_Len64 p0) (F_math_bits_Len64 p0):=by
 unfold K_math_bits_Len64 F_math_bits_Len64
 with_reducible repeat' (first | exact Le.rfl _ | refine Le.loop _ ?_ | refine Le.bind ?_ ?_ | refine Le.ite ?_ ?_ | refine Le.sum ?_ ?_ | refine Le.prod ?_ | intro _ | exact Empty.elim (by assumption) | dsimp only)
theorem m_F_internal_strconv_log10Pow2 (p0:Int):Le (K_internal_strconv_log10Pow2 p0) (F_internal_strconv_log10Pow2 p0):=by
 unfold K_internal_strconv_log10Pow2 F_internal_strconv_log10Pow2
 with_reducible repeat' (first | exact Le.rfl _ | refine Le.loop _ ?_ | refine Le.bind ?_ ?_ | refine Le.ite ?_ ?_ | refine Le.sum ?_ ?_ | refine Le.prod ?_ | intro _ | exact Empty.elim (by assumption) | dsimp only)
theorem m_F_internal_strconv_numDigits (p0:Int):Le (K_internal_strconv_numDigits p0) (F_internal_strconv_numDigits p0):=by
 unfold K_internal_strconv_numDigits F_internal_strconv_numDigits
 with_reducible repeat' (first | exact m_F_math_bits_Len64 _ | exact m_F_internal_strconv_log10Pow2 _ | exact Le.rfl _ | refine Le.loop _ ?_ | refine Le.bind ?_ ?_ | refine Le.ite ?_ ?_ | refine Le.sum ?_ ?_ | refine Le.prod ?_ | intro _ | exact Empty.elim (by assumption) | dsimp only)
theorem m_F_internal_strconv_FormatInt (p0:Int) (p1:Int):Le (K_internal_strconv_FormatInt p0 p1) (F_internal_strconv_FormatInt p0 p1):=by
 unfold K_internal_strconv_FormatInt F_internal_strconv_FormatInt
 with_reducible repeat' (first | exact m_F_internal_strconv_small _ | exact m_F_internal_strconv_numDigits _ | exact Le.rfl _ | refine Le.loop _ ?_ | refine Le.bind ?_ ?_ | refine Le.ite ?_ ?_ | refine Le.sum ?_ ?_ | refine Le.prod ?_ | intro _ | exact Empty.elim (by assumption) | dsimp only)
theorem m_F_internal_strconv_Itoa (p0:Int):Le (K_internal_strconv_Itoa p0) (F_internal_strconv_Itoa p0):=by
 unfold K_internal_strconv_Itoa F_internal_strconv_Itoa
 with_reducible repeat' (first | exact m_F_internal_strconv_FormatInt _ _ | exact Le.rfl _ | refine Le.loop _ ?_ | refine Le.bind ?_ ?_ | refine Le.ite ?_ ?_ | refine Le.sum ?_ ?_ | refine Le.prod ?_ | intro _ | exact Empty.elim (by assumption) | dsimp only)
theorem m_F_strconv_Itoa (p0:Int):Le (K_strconv_Itoa p0) (F_strconv_Itoa p0):=by
 unfold K_strconv_Itoa F_strconv_Itoa
 with_reducible repeat' (first | exact m_F_internal_strconv_Itoa _ | exact Le.rfl _ | refine Le.loop _ ?_ | refine Le.bind ?_ ?_ | refine Le.ite ?_ ?_ | refine Le.sum ?_ ?_ | refine Le.prod ?_ | intro _ | exact Empty.elim (by assumption) | dsimp only)
theorem m_F_stitch_word (p0:api_Stitch):Le (K_stitch_word p0) (F_stitch_word p0):=by
 unfold K_stitch_word F_stitch_word
 with_reducible repeat' (first | exact m_F_strconv_Itoa _ | exact m_F_stitch_forms _ | exact Le.rfl _ | refine Le.loop _ ?_ | refine Le.bind ?_ ?_ | refine Le.ite ?_ ?_ | refine Le.sum ?_ ?_ | refine Le.prod ?_ | intro _ | exact Empty.elim (by assumption) | dsimp only)
theorem m_stitch_text_l2 (p0:(List api_Stitch)):∀ s,Le (K_stitch_text_l2 p0 s) (stitch_text_l2 p0 s):=by
 unfold K_stitch_text_l2 stitch_text_l2
 with_reducible repeat' (first | exact m_stitch_text_l1 _ _ | exact m_F_stitch_word _ | exact m_F_strconv_Itoa _ | exact Le.rfl _ | refine Le.loop _ ?_ | refine Le.bind ?_ ?_ | refine Le.ite ?_ ?_ | refine Le.sum ?_ ?_ | refine Le.prod ?_ | intro _ | exact Empty.elim (by assumption) | dsimp only)
theorem m_F_strings_Join (p0:List ByteArray) (p1:ByteArray):Le (K_strings_Join p0 p1) (F_strings_Join p0 p1):=by
 unfold K_strings_Join F_strings_Join
 with_reducible repeat' (first | exact Le.rfl _ | refine Le.loop _ ?_ | refine Le.bind ?_ ?_ | refine Le.ite ?_ ?_ | refine Le.sum ?_ ?_ | refine Le.prod ?_ | intro _ | exact Empty.elim (by assumption) | dsimp only)
theorem m_F_stitch_text (p0:(List api_Stitch)):Le (K_stitch_text p0) (F_stitch_text p0):=by
 unfold K_stitch_text F_stitch_text
 with_reducible repeat' (first | exact m_stitch_text_l2 _ | exact m_F_strings_Join _ _ | exact Le.rfl _ | refine Le.loop _ ?_ | refine Le.bind ?_ ?_ | refine Le.ite ?_ ?_ | refine Le.sum ?_ ?_ | refine Le.prod ?_ | intro _ | exact Empty.elim (by assumption) | dsimp only)
theorem m_F_stitch_Text (p0:(List api_Stitch)):Le (K_stitch_Text p0) (F_stitch_Text p0):=by
 unfold K_stitch_Text F_stitch_Text
 with_reducible repeat' (first | exact m_F_stitch_All _ | exact m_F_stitch_text _ | exact Le.rfl _ | refine Le.loop _ ?_ | refine Le.bind ?_ ?_ | refine Le.ite ?_ ?_ | refine Le.sum ?_ ?_ | refine Le.prod ?_ | intro _ | exact Empty.elim (by assumption) | dsimp only)
set_option maxRecDepth 1000000 in
theorem kc_raddlelaw37_alive_0:F_raddlelaw37_given=some (api_Shape.mk [(api_Point.mk 0 0),(api_Point.mk 2 4)] [(api_Point.mk 10 0),(api_Point.mk 8 4)]):=m_F_raddlelaw37_given _ (by kernel_rfl)
set_option maxRecDepth 1000000 in
theorem kc_raddlelaw37_alive_1:F_piece_Make ((api_Shape.mk [(api_Point.mk 0 0),(api_Point.mk 2 4)] [(api_Point.mk 10 0),(api_Point.mk 8 4)]))=some ((api_Piece.mk [0,1,1,2,2] [10,10,9,9,8]),0):=m_F_piece_Make _ _ (by kernel_rfl)
set_option maxRecDepth 1000000 in
theorem kc_raddlelaw37_alive_2:F_raddlelaw37_made=some (api_Piece.mk [0,1,1,2,2] [10,10,9,9,8]):=m_F_raddlelaw37_made _ (by kernel_rfl)
set_option maxRecDepth 1000000 in
theorem kc_raddlelaw37_alive_3:F_piece_Chart ((api_Piece.mk [0,1,1,2,2] [10,10,9,9,8]))=some ((api_Chart.mk 10 [(api_Row.mk true [(api_Stitch.mk 4 true 2 0),(api_Stitch.mk 1 true 0 0),(api_Stitch.mk 1 true 0 0),(api_Stitch.mk 1 true 0 0),(api_Stitch.mk 1 true 0 0),(api_Stitch.mk 1 true 0 0),(api_Stitch.mk 1 true 0 0),(api_Stitch.mk 1 true 0 0),(api_Stitch.mk 1 true 0 0)]),(api_Row.mk false [(api_Stitch.mk 3 false 2 0),(api_Stitch.mk 1 false 0 0),(api_Stitch.mk 1 false 0 0),(api_Stitch.mk 1 false 0 0),(api_Stitch.mk 1 false 0 0),(api_Stitch.mk 1 false 0 0),(api_Stitch.mk 1 false 0 0),(api_Stitch.mk 1 false 0 0)]),(api_Row.mk true [(api_Stitch.mk 4 true 2 0),(api_Stitch.mk 1 true 0 0),(api_Stitch.mk 1 true 0 0),(api_Stitch.mk 1 true 0 0),(api_Stitch.mk 1 true 0 0),(api_Stitch.mk 1 true 0 0),(api_Stitch.mk 1 true 0 0)]),(api_Row.mk false [(api_Stitch.mk 3 false 2 0),(api_Stitch.mk 1 false 0 0),(api_Stitch.mk 1 false 0 0),(api_Stitch.mk 1 false 0 0),(api_Stitch.mk 1 false 0 0),(api_Stitch.mk 1 false 0 0)])]),0):=m_F_piece_Chart _ _ (by kernel_rfl)
set_option maxRecDepth 1000000 in
theorem kc_raddlelaw37_alive_4:F_piece_Read (((api_Chart.mk 10 [(api_Row.mk true [(api_Stitch.mk 4 true 2 0),(api_Stitch.mk 1 true 0 0),(api_Stitch.mk 1 true 0 0),(api_Stitch.mk 1 true 0 0),(api_Stitch.mk 1 true 0 0),(api_Stitch.mk 1 true 0 0),(api_Stitch.mk 1 true 0 0),(api_Stitch.mk 1 true 0 0),(api_Stitch.mk 1 true 0 0)]),(api_Row.mk false [(api_Stitch.mk 3 false 2 0),(api_Stitch.mk 1 false 0 0),(api_Stitch.mk 1 false 0 0),(api_Stitch.mk 1 false 0 0),(api_Stitch.mk 1 false 0 0),(api_Stitch.mk 1 false 0 0),(api_Stitch.mk 1 false 0 0),(api_Stitch.mk 1 false 0 0)]),(api_Row.mk true [(api_Stitch.mk 4 true 2 0),(api_Stitch.mk 1 true 0 0),(api_Stitch.mk 1 true 0 0),(api_Stitch.mk 1 true 0 0),(api_Stitch.mk 1 true 0 0),(api_Stitch.mk 1 true 0 0),(api_Stitch.mk 1 true 0 0)]),(api_Row.mk false [(api_Stitch.mk 3 false 2 0),(api_Stitch.mk 1 false 0 0),(api_Stitch.mk 1 false 0 0),(api_Stitch.mk 1 false 0 0),(api_Stitch.mk 1 false 0 0),(api_Stitch.mk 1 false 0 0)])]),0)).1 0=some ((api_Piece.mk [0,1,1,2,2] [10,10,9,9,8]),0):=m_F_piece_Read _ _ _ (by kernel_rfl)
set_option maxRecDepth 1000000 in
theorem kc_raddlelaw37_alive_5:F_raddleref37_Same (((api_Piece.mk [0,1,1,2,2] [10,10,9,9,8]),0)).1 ((api_Piece.mk [0,1,1,2,2] [10,10,9,9,8]))=some true:=m_F_raddleref37_Same _ _ _ (by kernel_rfl)
set_option maxRecDepth 1000000 in
theorem kc_raddlelaw37_alive_6:F_raddleref37_Same (((api_Piece.mk [0,1,1,2,2] [10,10,9,9,8]),0)).1 (((api_Piece.mk [0,1,1,2,2] [10,10,9,9,8]),0)).1=some true:=m_F_raddleref37_Same _ _ _ (by kernel_rfl)
def anc_raddlelaw37_alive_0:List (List Nat):=[[],[0],[0,1],[0,1,2],[0,1,2],[0,1,2,3,4],[0,1,2,3,4,5],[0,1,2,3,4,5,6],[0,1,2,3,4,5,6,7],[0,1,2,3,4,5,6,7,8],[0,1,2,3,4,5,6,7,8,9],[0,1,2,3,4,5,6,7,8,9,10],[0,1,2,3,4,5,6,7,8,9,10,11],[0,1,2,3,4,5,6,7,8,9,10,11,12],[0,1,2,3,4,5,6,7,8,9,10,11,12,13],[0,1,2,3,4,5,6,7,8,9,10,11,12,13,14],[0,1,2,3,4,5,6,7,8,9,10,11,12,13,14,15],[0,1,2,3,4,5,6,7,8,9,10,11,12,13,14,15,16],[0,1,2,3,4,5,6,7,8,9,10,11,12,13,14,15,16,17],[0,1,2,3,4,5,6,7,8,9,10,11,12,13,14,15,16,17,18],[0,1,2,3,4,5,6,7,8,9,10,11,12,13,14,15,16,17,18,19],[0,1,2,3,4,5,6,7,8,9,10,11,12,13,14,15,16,17,18,19,20],[0,1,2,3,4,5,6,7,8,9,10,11,12,13,14,15,16,17,18,19,20,21],[0,1,2,3,4,5,6,7,8,9,10,11,12,13,14,15,16,17,18,19,20,21,22],[0,1,2,3,4,5,6,7,8,9,10,11,12,13,14,15,16,17,18,19,20,21,22,23],[0,1,2,3,4,5,6,7,8,9,10,11,12,13,14,15,16,17,18,19,20,21,22,23,24],[0,1,2,3,4,5,6,7,8,9,10,11,12,13,14,15,16,17,18,19,20,21,22,23,24,25],[0,1,2,3,4,5,6,7,8,9,10,11,12,13,14,15,16,17,18,19,20,21,22,23,24,25,26],[0,1,2,3,4,5,6,7,8,9,10,11,12,13,14,15,16,17,18,19,20,21,22,23,24,25,26,27],[0,1,2,3,4,5,6,7,8,9,10,11,12,13,14,15,16,17,18,19,20,21,22,23,24,25,26,27],[0,1,2,3,4,5,6,7,8,9,10,11,12,13,14,15,16,17,18,19,20,21,22,23,24,25,26,27,28,29],[0,1,2,3,4,5,6,7,8,9,10,11,12,13,14,15,16,17,18,19,20,21,22,23,24,25,26,27,28,29,30],[0,1,2,3,4,5,6,7,8,9,10,11,12,13,14,15,16,17,18,19,20,21,22,23,24,25,26,27,28,29,30,31]]
noncomputable def raddlelaw37_alive_l1 (ac:(api_Chart × Int)):Int→Option (Int ⊕ (Bool ⊕ Unit)):=fun s0=>match s0 with
 | a2=>
  if decide (a2 < 4) then
   (idxO ac.1.Rows a2).bind fun a6=>
   (F_stitch_Text a6.Cells).bind fun a7=>
   Option.bind (α:=Bool) (
    if a7.2 != 0 then
     some true
    else
     (idxO ([(⟨#[112,108,50,32,112,56]⟩:ByteArray),(⟨#[107,102,50,32,107,55]⟩:ByteArray),(⟨#[112,108,50,32,112,54]⟩:ByteArray),(⟨#[107,102,50,32,107,53]⟩:ByteArray)]:List ByteArray) a2).bind fun a8=>
     if a7.1 != a8 then
      some true
     else
      (remI a2 2).bind fun aa=>
      some (a6.Back != (aa == 0))) fun ab=>
   if ab then
    some (.inr (.inl false))
   else
    some (.inl (w64 (a2 + 1)))
  else
   some (.inr (.inr ()))
noncomputable def F_raddlelaw37_alive :Option Bool:=
 (F_raddlelaw37_given).bind fun r3=>
 (F_piece_Make r3).bind fun a6=>
 (F_raddlelaw37_made).bind fun a7=>
 (F_piece_Chart a7).bind fun a2=>
 (F_piece_Read a2.1 0).bind fun a8=>
 if a6.2 != 0 then
  none
 else
  (F_raddleref37_Same a6.1 a7).bind fun aa=>
  if !aa then
   none
  else
   if a2.2 != 0 then
    none
   else
    if a2.1.Start != 10 then
     none
    else
     if (a2.1.Rows.length:Int) != 4 then
      none
     else
      if a8.2 != 0 then
       none
      else
       (F_raddleref37_Same a8.1 a6.1).bind fun ab=>
       if !ab then
        none
       else
        Option.bind (α:=Unit ⊕ Bool) (
         (whileO (raddlelaw37_alive_l1 a2) 0).bind fun z0=>match z0 with
          | .inl z=>
           some (.inr z)
          | .inr _=>
           some (.inl ())) fun z0=>match z0 with
         | .inl _=>
          some true
         | .inr z=>
          some z
theorem c_raddlelaw37_alive (E:Nat→Prop) (w0:World)  (r:Bool) (h:F_raddlelaw37_alive =some r) (S:St0 E [] w0 w0 [] []) :
 Calls Tryd.prog 9 #[] w0 (Ret (X:=Unit) E [] w0 (fun _=>.bool r) (fun _=>[]) (fun _=>[])):=by
 unfold F_raddlelaw37_alive at h
 refine sEnter (args:=[]) 95 Tryd.func9 d d (by simp) S (fun a S=>?_)
 refine sSeq (fun K1 c6=>sRegion (sN S fun a S=>?_))
 refine lT (c6 _ _ (sSeq (fun K2 c7=>sRegion ?_)))
 obtain ⟨r3,c1,h⟩:=bS h
 have hv_r3:r3=(api_Shape.mk [(api_Point.mk 0 0),(api_Point.mk 2 4)] [(api_Point.mk 10 0),(api_Point.mk 8 4)]):=Option.some.inj (c1.symm.trans (by exact kc_raddlelaw37_alive_0))
 refine sCall (X:=Value) (f:=32) (vs:=[]) (val:=c_raddlelaw37_given_val r3) (B':=fun _=>[]) (D':=c_raddlelaw37_given_D r3) [] [] [] [] [] S (wN d) d callee32 d (by decide) d d (fun E1 w1 S1=>c_raddlelaw37_given E1 w1  r3 c1 S1) d (lb d) fun u5 a w S=>?_
 obtain ⟨u6,u7,rfl,c2,c3⟩:=S.mem.know (i:=0) (e:=fRep r_api_Shape (u5) r3) d
 have S:=S.learn (fRep (rL r_api_Point) u6 r3.Left) c2
 obtain ⟨aP,aQ,_,rfl,_⟩:=c2
 have S:=S.learn (fRep (rL r_api_Point) u7 r3.Right) c3
 obtain ⟨aR,aS,_,rfl,_⟩:=c3
 obtain ⟨a6,bg,h⟩:=bS h
 have hv_r14:a6=((api_Piece.mk [0,1,1,2,2] [10,10,9,9,8]),0):=Option.some.inj (bg.symm.trans (by rw [hv_r3]; exact kc_raddlelaw37_alive_1))
 refine sCall (X:=Value) (f:=12) (vs:=[.agg #[.slice aP r3.Left.length aQ,.slice aR r3.Right.length aS]]) (val:=c_piece_Make_val a6) (B':=fun _=>[]) (D':=c_piece_Make_D a6) [] [] [fRep r_api_Shape (.agg #[.slice aP r3.Left.length aQ,.slice aR r3.Right.length aS]) r3] [] [2] S (wN d) d callee12 d (by decide) d d (fun E1 w1 S1=>c_piece_Make E1 w1 r3 (.agg #[.slice aP r3.Left.length aQ,.slice aR r3.Right.length aS]) a6 bg S1) d (lb d) fun c8 a w S=>?_
 obtain ⟨c9,ca,rfl,bh,bi⟩:=S.mem.know (i:=0) (e:=fRep r_api_Piece (c8) a6.1) d
 have S:=S.learn (fRep (rL (rI .i64)) c9 a6.1.Left) bh
 obtain ⟨ab,ac,_,rfl,_⟩:=bh
 have S:=S.learn (fRep (rL (rI .i64)) ca a6.1.Right) bi
 obtain ⟨ae,af,_,rfl,_⟩:=bi
 refine sM S fun a S=>?_
 refine sExtract (vs:=[.agg #[.slice ab a6.1.Left.length ac,.slice ae a6.1.Right.length af],iv a6.2]) (.agg #[.slice ab a6.1.Left.length ac,.slice ae a6.1.Right.length af]) S (wN d) d d d d (lb d) fun a S=>sExtract (vs:=[.agg #[.slice ab a6.1.Left.length ac,.slice ae a6.1.Right.length af],iv a6.2]) (iv a6.2) S (wN d) d d d d (lb d) fun a S=>sAlloc (.agg #[.slice none 0 0,.slice none 0 0]) S (wN d) d d [.slice none 0 0,.slice none 0 0] d d (lb d) fun a aM w S=>sStore (p:=aM) (off:=0) (T:=30) (vs:=[.slice none 0 0,.slice none 0 0]) (v:=.agg #[.slice ab a6.1.Left.length ac,.slice ae a6.1.Right.length af]) 0 [.slice ab a6.1.Left.length ac,.slice ae a6.1.Right.length af] S (wN d) d d d d d d d (by simp) d fun a w S=>sN S fun a S=>?_
 refine lT (c7 _ _ (sSeq (fun cu bO=>sRegion ?_)))
 obtain ⟨aj,aT,h⟩:=bS h
 have hv_r27:aj=(api_Piece.mk [0,1,1,2,2] [10,10,9,9,8]):=Option.some.inj (aT.symm.trans (by exact kc_raddlelaw37_alive_2))
 refine sCall (X:=Value) (f:=29) (vs:=[]) (val:=c_raddlelaw37_made_val aj) (B':=fun _=>[]) (D':=c_raddlelaw37_made_D aj) [] [eBox aM 30 [.slice ab a6.1.Left.length ac,.slice ae a6.1.Right.length af]] [] [0] [] S (wN d) d callee29 d (by decide) d d (fun E1 w1 S1=>c_raddlelaw37_made E1 w1  aj aT S1) d (lb d) fun cb a w S=>?_
 obtain ⟨cc,cd,rfl,bj,bl⟩:=S.mem.know (i:=0) (e:=fRep r_api_Piece (cb) aj) d
 have S:=S.learn (fRep (rL (rI .i64)) cc aj.Left) bj
 obtain ⟨aU,aV,_,rfl,_⟩:=bj
 have S:=S.learn (fRep (rL (rI .i64)) cd aj.Right) bl
 obtain ⟨aW,aX,_,rfl,_⟩:=bl
 obtain ⟨a2,bm,h⟩:=bS h
 have hv_r38:a2=((api_Chart.mk 10 [(api_Row.mk true [(api_Stitch.mk 4 true 2 0),(api_Stitch.mk 1 true 0 0),(api_Stitch.mk 1 true 0 0),(api_Stitch.mk 1 true 0 0),(api_Stitch.mk 1 true 0 0),(api_Stitch.mk 1 true 0 0),(api_Stitch.mk 1 true 0 0),(api_Stitch.mk 1 true 0 0),(api_Stitch.mk 1 true 0 0)]),(api_Row.mk false [(api_Stitch.mk 3 false 2 0),(api_Stitch.mk 1 false 0 0),(api_Stitch.mk 1 false 0 0),(api_Stitch.mk 1 false 0 0),(api_Stitch.mk 1 false 0 0),(api_Stitch.mk 1 false 0 0),(api_Stitch.mk 1 false 0 0),(api_Stitch.mk 1 false 0 0)]),(api_Row.mk true [(api_Stitch.mk 4 true 2 0),(api_Stitch.mk 1 true 0 0),(api_Stitch.mk 1 true 0 0),(api_Stitch.mk 1 true 0 0),(api_Stitch.mk 1 true 0 0),(api_Stitch.mk 1 true 0 0),(api_Stitch.mk 1 true 0 0)]),(api_Row.mk false [(api_Stitch.mk 3 false 2 0),(api_Stitch.mk 1 false 0 0),(api_Stitch.mk 1 false 0 0),(api_Stitch.mk 1 false 0 0),(api_Stitch.mk 1 false 0 0),(api_Stitch.mk 1 false 0 0)])]),0):=Option.some.inj (bm.symm.trans (by rw [hv_r27]; exact kc_raddlelaw37_alive_3))
 refine sCall (X:=Value) (f:=17) (vs:=[.agg #[.slice aU aj.Left.length aV,.slice aW aj.Right.length aX]]) (val:=c_piece_Chart_val a2) (B':=fun _=>[]) (D':=c_piece_Chart_D a2) [] [eBox aM 30 [.slice ab a6.1.Left.length ac,.slice ae a6.1.Right.length af]] [fRep r_api_Piece (.agg #[.slice aU aj.Left.length aV,.slice aW aj.Right.length aX]) aj] [0] [2] S (wN d) d callee17 d (by decide) d d (fun E1 w1 S1=>c_piece_Chart E1 w1 aj (.agg #[.slice aU aj.Left.length aV,.slice aW aj.Right.length aX]) a2 bm S1) d (lb d) fun ce a w S=>?_
 obtain ⟨cf,rfl,bn⟩:=S.mem.know (i:=0) (e:=fRep r_api_Chart (ce) a2.1) d
 have S:=S.learn (fRep (rL r_api_Row) cf a2.1.Rows) bn
 obtain ⟨a7,a8,_,rfl,_⟩:=bn
 refine sM S fun a S=>?_
 refine sExtract (vs:=[.agg #[iv a2.1.Start,.slice a7 a2.1.Rows.length a8],iv a2.2]) (.agg #[iv a2.1.Start,.slice a7 a2.1.Rows.length a8]) S (wN d) d d d d (lb d) fun a S=>sExtract (vs:=[.agg #[iv a2.1.Start,.slice a7 a2.1.Rows.length a8],iv a2.2]) (iv a2.2) S (wN d) d d d d (lb d) fun a S=>sAlloc (.agg #[iv 0,.slice none 0 0]) S (wN d) d d [iv 0,.slice none 0 0] d d (lb d) fun a ar w S=>sStore (p:=ar) (off:=0) (T:=40) (vs:=[iv 0,.slice none 0 0]) (v:=.agg #[iv a2.1.Start,.slice a7 a2.1.Rows.length a8]) 0 [iv a2.1.Start,.slice a7 a2.1.Rows.length a8] S (wN d) d d d d d d d (by simp) d fun a w S=>sN S fun a S=>?_
 refine lT (bO _ _ (sSeq (fun cv bP=>sRegion (sLoadN (p:=ar) (off:=0) (T:=40) (vs:=[iv a2.1.Start,.slice a7 a2.1.Rows.length a8]) 0 [iv a2.1.Start,.slice a7 a2.1.Rows.length a8] S (wN d) d d d d d d d (lb d) fun a S=>?_))))
 obtain ⟨ag,bo,h⟩:=bS h
 have hv_r47:ag=((api_Piece.mk [0,1,1,2,2] [10,10,9,9,8]),0):=Option.some.inj (bo.symm.trans (by rw [hv_r38]; exact kc_raddlelaw37_alive_4))
 refine sCall (X:=Value) (f:=18) (vs:=[.agg #[iv a2.1.Start,.slice a7 a2.1.Rows.length a8],iv 0]) (val:=c_piece_Read_val ag) (B':=fun _=>[]) (D':=c_piece_Read_D ag) [] [eBox ar 40 [iv a2.1.Start,.slice a7 a2.1.Rows.length a8],eBox aM 30 [.slice ab a6.1.Left.length ac,.slice ae a6.1.Right.length af]] [fRep r_api_Chart (.agg #[iv a2.1.Start,.slice a7 a2.1.Rows.length a8]) a2.1] [0,1] [1] S (wN d) d callee18 d (by decide) d d (fun E1 w1 S1=>c_piece_Read E1 w1 a2.1 (.agg #[iv a2.1.Start,.slice a7 a2.1.Rows.length a8]) 0 ag bo S1) d (lb d) fun cg a w S=>?_
 obtain ⟨ci,cj,rfl,bp,bq⟩:=S.mem.know (i:=0) (e:=fRep r_api_Piece (cg) ag.1) d
 have S:=S.learn (fRep (rL (rI .i64)) ci ag.1.Left) bp
 obtain ⟨al,am,_,rfl,_⟩:=bp
 have S:=S.learn (fRep (rL (rI .i64)) cj ag.1.Right) bq
 obtain ⟨ao,ap,_,rfl,_⟩:=bq
 refine sM S fun a S=>?_
 refine sExtract (vs:=[.agg #[.slice al ag.1.Left.length am,.slice ao ag.1.Right.length ap],iv ag.2]) (.agg #[.slice al ag.1.Left.length am,.slice ao ag.1.Right.length ap]) S (wN d) d d d d (lb d) fun a S=>sExtract (vs:=[.agg #[.slice al ag.1.Left.length am,.slice ao ag.1.Right.length ap],iv ag.2]) (iv ag.2) S (wN d) d d d d (lb d) fun a S=>sAlloc (.agg #[.slice none 0 0,.slice none 0 0]) S (wN d) d d [.slice none 0 0,.slice none 0 0] d d (lb d) fun a bQ w S=>sStore (p:=bQ) (off:=0) (T:=30) (vs:=[.slice none 0 0,.slice none 0 0]) (v:=.agg #[.slice al ag.1.Left.length am,.slice ao ag.1.Right.length ap]) 0 [.slice al ag.1.Left.length am,.slice ao ag.1.Right.length ap] S (wN d) d d d d d d d (by simp) d fun a w S=>sN S fun a S=>?_
 refine lT (bP _ _ (sSeq (fun cw bR=>sRegion (sBuild [(0,.string (⟨#[112,108,50,32,112,56]⟩:ByteArray)),(1,.string (⟨#[107,102,50,32,107,55]⟩:ByteArray)),(2,.string (⟨#[112,108,50,32,112,54]⟩:ByteArray)),(3,.string (⟨#[107,102,50,32,107,53]⟩:ByteArray))] [.string (⟨#[112,108,50,32,112,56]⟩:ByteArray),.string (⟨#[107,102,50,32,107,55]⟩:ByteArray),.string (⟨#[112,108,50,32,112,54]⟩:ByteArray),.string (⟨#[107,102,50,32,107,53]⟩:ByteArray)] S (wN d) d d d d (lb d) fun a S=>sAlloc (.agg #[.string (⟨#[]⟩:ByteArray),.string (⟨#[]⟩:ByteArray),.string (⟨#[]⟩:ByteArray),.string (⟨#[]⟩:ByteArray)]) S (wN d) d d [.string (⟨#[]⟩:ByteArray),.string (⟨#[]⟩:ByteArray),.string (⟨#[]⟩:ByteArray),.string (⟨#[]⟩:ByteArray)] d d (lb d) fun a aZ w S=>sStore (p:=aZ) (off:=0) (T:=73) (vs:=[.string (⟨#[]⟩:ByteArray),.string (⟨#[]⟩:ByteArray),.string (⟨#[]⟩:ByteArray),.string (⟨#[]⟩:ByteArray)]) (v:=.agg #[.string (⟨#[112,108,50,32,112,56]⟩:ByteArray),.string (⟨#[107,102,50,32,107,55]⟩:ByteArray),.string (⟨#[112,108,50,32,112,54]⟩:ByteArray),.string (⟨#[107,102,50,32,107,53]⟩:ByteArray)]) 0 [.string (⟨#[112,108,50,32,112,56]⟩:ByteArray),.string (⟨#[107,102,50,32,107,55]⟩:ByteArray),.string (⟨#[112,108,50,32,112,54]⟩:ByteArray),.string (⟨#[107,102,50,32,107,53]⟩:ByteArray)] S (wN d) d d d d d d d (by simp) d fun a w S=>lT (bR _ _ (sSeq (fun cx bT=>sSeq (fun cy bU=>?_))))))))
 rcases iS h with ⟨aq,h⟩ | ⟨aq,h⟩
 ·exact absurd aq (by rw [hv_r14]; decide)
 obtain ⟨aJ,br,h⟩:=bS h
 have hv_r73:aJ=true:=Option.some.inj (br.symm.trans (by rw [hv_r14,hv_r27]; exact kc_raddlelaw37_alive_5))
 rcases iS h with ⟨ay,h⟩ | ⟨ay,h⟩
 ·exact absurd ay (by rw [hv_r73]; decide)
 rcases iS h with ⟨aw,h⟩ | ⟨aw,h⟩
 ·exact absurd aw (by rw [hv_r38]; decide)
 rcases iS h with ⟨au,h⟩ | ⟨au,h⟩
 ·exact absurd au (by rw [hv_r38]; decide)
 rcases iS h with ⟨az,h⟩ | ⟨az,h⟩
 ·exact absurd az (by rw [hv_r38]; decide)
 rcases iS h with ⟨av,h⟩ | ⟨av,h⟩
 ·exact absurd av (by rw [hv_r47]; decide)
 obtain ⟨aK,bt,h⟩:=bS h
 have hv_r80:aK=true:=Option.some.inj (bt.symm.trans (by rw [hv_r47,hv_r14]; exact kc_raddlelaw37_alive_6))
 refine sDraw (nf:=[4]) (W:=[(0,27,iv a6.2),(1,28,.bool (a6.2 != 0)),(2,29,.bool (a6.2 != 0)),(3,30,.agg #[.slice ab a6.1.Left.length ac,.slice ae a6.1.Right.length af])]) d S ?_
 refine node_by (A:=anc_raddlelaw37_alive_0) 33 (by kernel_rfl) (by kernel_rfl) (by kernel_rfl) (by kernel_rfl) (by kernel_rfl) [0,1,2,3] (by kernel_rfl) (by decide) (by decide) (fF ?_ (fF ?_ (fF ?_ (fF ?_ (fN ?_ (fE 4 (fE 4 (fE 4 (fE 4 (fE 4 (fE 4 (fE 4 (fE 4 (fE 4 (fE 4 (fE 4 (fE 4 (fE 4 (fE 4 (fE 4 (fE 4 (fE 4 (fE 4 (fE 4 (fE 4 (fE 4 (fE 4 (fE 4 (fE 4 (fE 4 (fE 4 (fE 4 (fE 4 (trivial)))))))))))))))))))))))))))))))))) [] (fun q hq=>by cases hq) (fun hY=>absurd (hY 4 (by decide)) (by decide))
 ·exact fM 0 none d d d d (.inl d) d d d
 ·refine fJ [(27,_)] 1 [some 0] fun G a w S=>?_
  exact sBin _ S (wN d) d d d (bNe _ _ _ _ .i64 a6.2 0) d (lb d) fun a S=>leafL ⟨d,S⟩
 ·exact fM 2 (some 1) d d d d (.inl d) d d d
 ·refine fJ [(1,_),(29,_)] 3 [none,some 2] fun G a w S=>?_
  exact sLoadN (p:=aM) (off:=0) (T:=30) (vs:=[.slice ab a6.1.Left.length ac,.slice ae a6.1.Right.length af]) 3 [.slice ab a6.1.Left.length ac,.slice ae a6.1.Right.length af] S (wG 2 false 29 d d d aq) d d d d d d d (lb d) fun a S=>leafL ⟨d,S⟩
 refine ⟨_,[(29,.bool (a6.2 != 0))],d,(srcs_of [some 2] d d d),fun G a w S=>?_⟩
 refine sCall (X:=Value) (f:=29) (vs:=[]) (val:=c_raddlelaw37_made_val aj) (B':=fun _=>[]) (D':=c_raddlelaw37_made_D aj) [] [eBox aZ 73 [.string (⟨#[112,108,50,32,112,56]⟩:ByteArray),.string (⟨#[107,102,50,32,107,55]⟩:ByteArray),.string (⟨#[112,108,50,32,112,54]⟩:ByteArray),.string (⟨#[107,102,50,32,107,53]⟩:ByteArray)],eBox bQ 30 [.slice al ag.1.Left.length am,.slice ao ag.1.Right.length ap],eBox ar 40 [iv a2.1.Start,.slice a7 a2.1.Rows.length a8],eBox aM 30 [.slice ab a6.1.Left.length ac,.slice ae a6.1.Right.length af]] [] [0,1,2,3] [] S (wG 2 false 29 d d d aq) d callee29 d (by decide) d d (fun E1 w1 S1=>c_raddlelaw37_made E1 w1  aj aT S1) d (lb d) fun ck a w S=>?_
 obtain ⟨cl,cm,rfl,bu,bv⟩:=S.mem.know (i:=0) (e:=fRep r_api_Piece (ck) aj) d
 have S:=S.learn (fRep (rL (rI .i64)) cl aj.Left) bu
 obtain ⟨b0,b1,_,rfl,_⟩:=bu
 have S:=S.learn (fRep (rL (rI .i64)) cm aj.Right) bv
 obtain ⟨b8,ba,_,rfl,_⟩:=bv
 refine leafL ⟨d,_,_,.inl ⟨31,(.agg #[.slice b0 aj.Left.length b1,.slice b8 aj.Right.length ba]),[(5,32,.bool aJ),(6,33,.bool (!aJ)),(7,34,.bool (!aJ)),(8,35,.bool (!aJ)),(9,36,iv a2.2),(10,37,.bool (a2.2 != 0)),(11,38,.bool (a2.2 != 0)),(12,39,.bool (a2.2 != 0)),(13,40,.pointer (some ⟨ar,0,none⟩)),(14,41,iv a2.1.Start),(15,42,.bool (a2.1.Start != 10)),(16,43,.bool (a2.1.Start != 10)),(17,44,.bool (a2.1.Start != 10)),(18,45,.pointer (some ⟨ar,1,none⟩)),(19,46,.slice a7 a2.1.Rows.length a8),(20,47,iv (a2.1.Rows.length:Int)),(21,48,.bool ((a2.1.Rows.length:Int) != 4)),(22,49,.bool ((a2.1.Rows.length:Int) != 4)),(23,50,.bool ((a2.1.Rows.length:Int) != 4)),(24,51,iv ag.2),(25,52,.bool (ag.2 != 0)),(26,53,.bool (ag.2 != 0)),(27,54,.bool (ag.2 != 0)),(28,55,.agg #[.slice al ag.1.Left.length am,.slice ao ag.1.Right.length ap]),(29,56,.agg #[.slice ab a6.1.Left.length ac,.slice ae a6.1.Right.length af]),(30,57,.bool aK),(31,58,.bool (!aK)),(32,59,.bool (!aK))],d,S,hz_of d,?_⟩⟩
 refine node_by (A:=anc_raddlelaw37_alive_0) 33 (by kernel_rfl) (by kernel_rfl) (by kernel_rfl) (by kernel_rfl) (by kernel_rfl) [5,6,7,8,9,10,11,12,13,14,15,16,17,18,19,20,21,22,23,24,25,26,27,28,29,30,31,32,4,0,1,2,3] (by kernel_rfl) (by decide) (by decide) (fD 4 (fD 4 (fD 4 (fF ?_ (fY (fF ?_ (fF ?_ (fF ?_ (fF ?_ (fF ?_ (fF ?_ (fF ?_ (fF ?_ (fF ?_ (fF ?_ (fF ?_ (fF ?_ (fF ?_ (fF ?_ (fF ?_ (fF ?_ (fF ?_ (fF ?_ (fF ?_ (fF ?_ (fF ?_ (fF ?_ (fF ?_ (fF ?_ (fF ?_ (fF ?_ (fF ?_ (fF ?_ (trivial)))))))))))))))))))))))))))))))))) [(3,.pointer (some ⟨ar,0,none⟩)),(7,.pointer (some ⟨aZ,0,none⟩)),(59,.bool (!aK))] (fin_of [none,none,some 27] d (by kernel_rfl) (by kernel_rfl)) (fun _ a w S=>?_)
 ·refine fJ [(1,_),(29,_)] 32 [none,some 31] fun G a w S=>?_
  exact sLoadN (p:=aM) (off:=0) (T:=30) (vs:=[.slice ab a6.1.Left.length ac,.slice ae a6.1.Right.length af]) 3 [.slice ab a6.1.Left.length ac,.slice ae a6.1.Right.length af] S (wG 2 false 29 d d d aq) d d d d d d d (lb d) fun a S=>leafL ⟨d,S⟩
 ·refine fJ [(30,_),(31,_),(29,_)] 0 [some 32,some 28,some 31] fun G a w S=>?_
  have S1:=S.mem
  refine sCallQ (X:=Unit) (f:=19) (vs:=[.agg #[.slice ab a6.1.Left.length ac,.slice ae a6.1.Right.length af],.agg #[.slice b0 aj.Left.length b1,.slice b8 aj.Right.length ba]]) (val:=fun _=>.bool aJ) S (wG 2 false 29 d d d aq) d callee19 d (S1.quiet [13,2] d) (fun E1 w1 S1=>c_raddleref37_Same E1 w1 a6.1 (.agg #[.slice ab a6.1.Left.length ac,.slice ae a6.1.Right.length af]) aj (.agg #[.slice b0 aj.Left.length b1,.slice b8 aj.Right.length ba]) aJ br S1) d (lb d) fun _ a w S=>?_
  exact leafL ⟨d,S⟩
 ·refine fJ [(32,_),(29,_)] 1 [some 0,some 31] fun G a w S=>?_
  exact sNot (b:=aJ) S (wG 2 false 29 d d d aq) d d d (lb d) fun a S=>leafL ⟨d,S⟩
 ·refine fJ [(29,_),(33,_)] 2 [some 31,some 1] fun G a w S=>?_
  exact sPickF (.bool (!aJ)) S (wN d) d d aq d d (lb d) fun a S=>leafL ⟨d,S⟩
 ·exact fM 3 (some 2) d d d d (.inl d) d d d
 ·refine fJ [(4,_),(35,_)] 4 [none,some 3] fun G a w S=>?_
  exact sMove (iv a2.2) S (wG 8 false 35 d d d ay) (.inl d) d d (lb d) fun a S=>leafL ⟨d,S⟩
 ·refine fJ [(36,_),(35,_)] 5 [some 4,some 3] fun G a w S=>?_
  exact sBin _ S (wG 8 false 35 d d d ay) d d d (bNe _ _ _ _ .i64 a2.2 0) d (lb d) fun a S=>leafL ⟨d,S⟩
 ·refine fJ [(35,_),(37,_)] 6 [some 3,some 5] fun G a w S=>?_
  exact sPickF (.bool (a2.2 != 0)) S (wN d) d d ay d d (lb d) fun a S=>leafL ⟨d,S⟩
 ·exact fM 7 (some 6) d d d d (.inl d) d d d
 ·refine fJ [(3,_),(39,_)] 8 [none,some 7] fun G a w S=>?_
  exact sField (b:=ar) (off:=0) 0 0 S (wG 12 false 39 d d d aw) d d d d d (lb d) fun a S=>leafL ⟨d,S⟩
 ·refine fJ [(40,_),(39,_)] 9 [some 8,some 7] fun G a w S=>?_
  exact sLoad1 2 (iv a2.1.Start) S (wG 12 false 39 d d d aw) d d d d d d (lb d) fun a S=>leafL ⟨d,S⟩
 ·refine fJ [(41,_),(39,_)] 10 [some 9,some 7] fun G a w S=>?_
  exact sBin _ S (wG 12 false 39 d d d aw) d d d (bNe _ _ _ _ .i64 a2.1.Start 10) d (lb d) fun a S=>leafL ⟨d,S⟩
 ·refine fJ [(39,_),(42,_)] 11 [some 7,some 10] fun G a w S=>?_
  exact sPickF (.bool (a2.1.Start != 10)) S (wN d) d d aw d d (lb d) fun a S=>leafL ⟨d,S⟩
 ·exact fM 12 (some 11) d d d d (.inl d) d d d
 ·refine fJ [(3,_),(44,_)] 13 [none,some 12] fun G a w S=>?_
  exact sField (b:=ar) (off:=0) 1 1 S (wG 17 false 44 d d d au) d d d d d (lb d) fun a S=>leafL ⟨d,S⟩
 ·refine fJ [(45,_),(44,_)] 14 [some 13,some 12] fun G a w S=>?_
  exact sLoad1 2 (.slice a7 a2.1.Rows.length a8) S (wG 17 false 44 d d d au) d d d d d d (lb d) fun a S=>leafL ⟨d,S⟩
 ·refine fJ [(46,_),(44,_)] 15 [some 14,some 12] fun G a w S=>?_
  exact sLen S (wG 17 false 44 d d d au) d Tryd.underlying38 d d (lb d) fun a S=>leafL ⟨d,S⟩
 ·refine fJ [(47,_),(44,_)] 16 [some 15,some 12] fun G a w S=>?_
  exact sBin _ S (wG 17 false 44 d d d au) d d d (bNe _ _ _ _ .i64 (a2.1.Rows.length:Int) 4) d (lb d) fun a S=>leafL ⟨d,S⟩
 ·refine fJ [(44,_),(48,_)] 17 [some 12,some 16] fun G a w S=>?_
  exact sPickF (.bool ((a2.1.Rows.length:Int) != 4)) S (wN d) d d au d d (lb d) fun a S=>leafL ⟨d,S⟩
 ·exact fM 18 (some 17) d d d d (.inl d) d d d
 ·refine fJ [(6,_),(50,_)] 19 [none,some 18] fun G a w S=>?_
  exact sMove (iv ag.2) S (wG 23 false 50 d d d az) (.inl d) d d (lb d) fun a S=>leafL ⟨d,S⟩
 ·refine fJ [(51,_),(50,_)] 20 [some 19,some 18] fun G a w S=>?_
  exact sBin _ S (wG 23 false 50 d d d az) d d d (bNe _ _ _ _ .i64 ag.2 0) d (lb d) fun a S=>leafL ⟨d,S⟩
 ·refine fJ [(50,_),(52,_)] 21 [some 18,some 20] fun G a w S=>?_
  exact sPickF (.bool (ag.2 != 0)) S (wN d) d d az d d (lb d) fun a S=>leafL ⟨d,S⟩
 ·exact fM 22 (some 21) d d d d (.inl d) d d d
 ·refine fJ [(5,_),(54,_)] 23 [none,some 22] fun G a w S=>?_
  exact sLoadN (p:=bQ) (off:=0) (T:=30) (vs:=[.slice al ag.1.Left.length am,.slice ao ag.1.Right.length ap]) 1 [.slice al ag.1.Left.length am,.slice ao ag.1.Right.length ap] S (wG 27 false 54 d d d av) d d d d d d d (lb d) fun a S=>leafL ⟨d,S⟩
 ·refine fJ [(1,_),(54,_)] 24 [none,some 22] fun G a w S=>?_
  exact sLoadN (p:=aM) (off:=0) (T:=30) (vs:=[.slice ab a6.1.Left.length ac,.slice ae a6.1.Right.length af]) 3 [.slice ab a6.1.Left.length ac,.slice ae a6.1.Right.length af] S (wG 27 false 54 d d d av) d d d d d d d (lb d) fun a S=>leafL ⟨d,S⟩
 ·refine fJ [(55,_),(56,_),(54,_)] 25 [some 23,some 24,some 22] fun G a w S=>?_
  have S1:=S.mem
  refine sCallQ (X:=Unit) (f:=19) (vs:=[.agg #[.slice al ag.1.Left.length am,.slice ao ag.1.Right.length ap],.agg #[.slice ab a6.1.Left.length ac,.slice ae a6.1.Right.length af]]) (val:=fun _=>.bool aK) S (wG 27 false 54 d d d av) d callee19 d (S1.quiet [5,13] d) (fun E1 w1 S1=>c_raddleref37_Same E1 w1 ag.1 (.agg #[.slice al ag.1.Left.length am,.slice ao ag.1.Right.length ap]) a6.1 (.agg #[.slice ab a6.1.Left.length ac,.slice ae a6.1.Right.length af]) aK bt S1) d (lb d) fun _ a w S=>?_
  exact leafL ⟨d,S⟩
 ·refine fJ [(57,_),(54,_)] 26 [some 25,some 22] fun G a w S=>?_
  exact sNot (b:=aK) S (wG 27 false 54 d d d av) d d d (lb d) fun a S=>leafL ⟨d,S⟩
 ·refine fJ [(54,_),(58,_)] 27 [some 22,some 26] fun G a w S=>?_
  exact sPickF (.bool (!aK)) S (wN d) d d av d d (lb d) fun a S=>leafL ⟨d,S⟩
 refine leafT (bU _ _ ?_)
 rcases iS h with ⟨bb,h⟩ | ⟨bb,h⟩
 ·exact absurd bb (by rw [hv_r80]; decide)
 refine sCondF S d bb (wp_skip (leafT (bT _ _ ?_)))
 obtain ⟨cn,h,c4⟩:=bS h
 refine sCut (fun a w=>.inl ()=cn∧St [] E [] w0 95 a w [] [] []) ?_ (fun a w hI=>?_)
 rotate_left
 ·obtain ⟨rfl,S⟩:=hI
  have h:=c4
  try dsimp only at h
  refine sSeq (fun co bw=>sRegion (sN S fun a S=>?_))
  refine lT (bw _ _ ?_)
  obtain rfl:=tS h
  exact wp_ret (sRet (.bool true) S (rsl1 d (rvT (t:=0) (v:=.bool true) S d)) ⟨(),d,S.mem.sel [] [] (by decide) d d⟩)
 refine sSeq (fun cz bV=>sRegion (sN S fun a S=>?_))
 refine lT (bV _ _ (wp_block ?_))
 obtain ⟨cA,hl,c5⟩:=bS h
 refine sLoop hl (fun s0 a w=>match s0 with | ax=>St [] E [] w0 95 a w [(3,.pointer (some ⟨ar,0,none⟩)),(7,.pointer (some ⟨aZ,0,none⟩)),(8,iv ax)] [eBox ar 40 [iv a2.1.Start,.slice a7 a2.1.Rows.length a8],eBox aZ 73 [.string (⟨#[112,108,50,32,112,56]⟩:ByteArray),.string (⟨#[107,102,50,32,107,55]⟩:ByteArray),.string (⟨#[112,108,50,32,112,54]⟩:ByteArray),.string (⟨#[107,102,50,32,107,53]⟩:ByteArray)]] [fRep (rL r_api_Row) (.slice a7 a2.1.Rows.length a8) a2.1.Rows]) (S.fix [2,0] [6] (by decide) d d d) ?_
 clear hl h
 intro ax a w c0 hI h bx
 unfold raddlelaw37_alive_l1 at h
 dsimp only at h hI
 have S:=hI
 refine sSeq (fun cB bW=>sSeq (fun cp bz=>sRegion (sM S fun a S=>?_)))
 refine sBin _ S (wN d) d d d (bLt _ _ _ _ .i64 ax 4) d (lb d) fun a S=>lT (bz _ _ ?_)
 rcases iS h with ⟨aA,h⟩ | ⟨aA,h⟩
 rotate_left
 ·refine sCondF S d aA ?_
  obtain rfl:=tS h
  obtain rfl:=bx _ d
  have h:=c5
  try dsimp only at h
  exact wp_exit (xThen (xThen (xHit (leafT (⟨Option.some.inj h,S.fix [] [] (by decide) d d d⟩)))))
 refine sCondT S d aA (wp_skip (leafT (bW _ _ ?_)))
 refine sSeq (fun cq bA=>wp_block ?_)
 refine sSeq (fun cr bB=>sRegion (sField (b:=ar) (off:=0) 1 1 S (wN d) d d d d d (lb d) fun a S=>sLoad1 0 (.slice a7 a2.1.Rows.length a8) S (wN d) d d d d d d (lb d) fun a S=>sM S fun a S=>?_))
 obtain ⟨ah,aO,h⟩:=bS h
 obtain ⟨bC,bD,S⟩:=pIdx (P:=Tryd.prog) (r:=r_api_Row) (v:=.slice a7 a2.1.Rows.length a8) (xs:=a2.1.Rows) (j:=ax) 38 54 0 S Tryd.underlying38 d d aO
 refine sIdxV S (wN d) d d d bD d (lb d) fun a S=>?_
 obtain ⟨bE,bF,S⟩:=pFld (P:=Tryd.prog) (r:=r_api_Row) (s2:=(rL r_api_Stitch)) (g:=(·.Cells)) (q:=bC) (z:=ah) 54 1 0 1 S d d comp_api_Row_Cells
 refine sFldV (q:=bC) S (wN d) d d bF d (lb d) fun a S=>?_
 obtain ⟨bX,S⟩:=pLoad (r:=(rL r_api_Stitch)) (q:=bE) (x:=ah.Cells) 0 S d
 obtain ⟨aC,aG,_,rfl,_⟩:=S.mem.know (i:=1) (e:=fRep (rL r_api_Stitch) (bX) ah.Cells) d
 refine sLoadV1 (vq:=bE) 0 (.slice aC ah.Cells.length aG) S (wN d) d d d d d (lb d) fun a S=>?_
 obtain ⟨ak,bG,h⟩:=bS h
 have S1:=S.mem
 refine sCq [.slice aC ah.Cells.length aG] (.tuple #[.string ak.1,iv ak.2]) S callee33 (S1.quiet [1] d) (fun E1 w1 S1=>c_stitch_Text E1 w1 ah.Cells (.slice aC ah.Cells.length aG) ak bG S1) fun a w S=>?_
 refine sM S fun a S=>?_
 refine sExtract (vs:=[.string ak.1,iv ak.2]) (.string ak.1) S (wN d) d d d d (lb d) fun a S=>sExtract (vs:=[.string ak.1,iv ak.2]) (iv ak.2) S (wN d) d d d d (lb d) fun a S=>sN S fun a S=>?_
 refine sN S fun a S=>?_
 refine lT (bB _ _ ?_)
 obtain ⟨bY,h,bZ⟩:=bS h
 refine sCut (fun a w=>∃ bc,bc=bY∧St [] E [] w0 95 a w [(3,.pointer (some ⟨ar,0,none⟩)),(7,.pointer (some ⟨aZ,0,none⟩)),(8,iv ax),(94,.bool bc)] [eBox ar 40 [iv a2.1.Start,.slice a7 a2.1.Rows.length a8],eBox aZ 73 [.string (⟨#[112,108,50,32,112,56]⟩:ByteArray),.string (⟨#[107,102,50,32,107,55]⟩:ByteArray),.string (⟨#[112,108,50,32,112,54]⟩:ByteArray),.string (⟨#[107,102,50,32,107,53]⟩:ByteArray)]] [fRep (rL r_api_Row) (.slice a7 a2.1.Rows.length a8) a2.1.Rows]) ?_ (fun a w hI=>?_)
 rotate_left
 ·obtain ⟨bc,rfl,S⟩:=hI
  have h:=bZ
  try dsimp only at h
  rcases iS h with ⟨aH,h⟩ | ⟨aH,h⟩
  rotate_left
  ·refine sCondF S d aH (wp_skip (leafB (leafT (bA _ _ ?_))))
   refine sRegion (sM S fun a S=>?_)
   refine sBin _ S (wN d) d d d (bAdd _ _ _ _ ax 1) d (lb d) fun a S=>sN S fun a S=>?_
   exact lT (⟨w64 (ax + 1),(Option.some.inj h).symm,(S.fix [0,1] [0] (by decide) d d d)⟩)
  refine sCondT S d aH (sSeq (fun ct bH=>sRegion (sN S fun a S=>?_)))
  refine lT (bH _ _ ?_)
  obtain rfl:=tS h
  obtain rfl:=bx _ d
  have h:=c5
  try dsimp only at h
  obtain rfl:=tS h
  have h:=c4
  try dsimp only at h
  obtain rfl:=tS h
  exact wp_ret (rBlock (rThen (rThen (rBlock (rThen (sRet (.bool false) S (rsl1 d (rvT (t:=0) (v:=.bool false) S d)) ⟨(),d,S.mem.sel [] [] (by decide) d d⟩))))))
 refine sRegion (sM S fun a S=>?_)
 refine sBin _ S (wN d) d d d (bNe _ _ _ _ .i64 ak.2 0) d (lb d) fun a S=>sM S fun a S=>?_
 rcases iS h with ⟨ai,h⟩ | ⟨ai,h⟩
 ·refine sSkN 5 2 false 76 S d d ai d fun a S=>sPickT (.bool true) S (wN d) d d ai d d (lb d) fun a S=>sM S fun a S=>?_
  refine sSkN 10 9 false 83 S d d d d fun a S=>sPickT (.bool true) S (wN d) d d d d d (lb d) fun a S=>?_
  exact lT (⟨true,Option.some.inj h,S.fix [0,1] [4] (by decide) d d d⟩)
 refine sMove (.string ak.1) S (wG 2 false 76 d d d ai) (.inl d) d d (lb d) fun a S=>sMove (iv ax) S (wG 2 false 76 d d d ai) (.inl d) d d (lb d) fun a S=>?_
 obtain ⟨bf,aI,h⟩:=bS h
 refine sIdxV S (wG 2 false 76 d d d ai) d d d (idxV_arr (m:=4) (sz:=1) Tryd.underlying73 d (idxO_rng (m:=4) aI d).1 (idxO_rng (m:=4) aI d).2 0) d (lb d) fun a S=>sLoad1 1 (.string bf) S (wG 2 false 76 d d d ai) d d d d (box_at (g:=(fun z=>.string z)) [] [] 0 aI d d) d (lb d) fun a S=>sBin _ S (wG 2 false 76 d d d ai) d d d (bNeS _ _ _ _ ak.1 bf) d (lb d) fun a S=>sPickF (.bool (ak.1 != bf)) S (wN d) d d ai d d (lb d) fun a S=>sM S fun a S=>?_
 rcases iS h with ⟨aa,h⟩ | ⟨aa,h⟩
 ·refine sSkN 10 9 false 83 S d d aa d fun a S=>sPickT (.bool true) S (wN d) d d aa d d (lb d) fun a S=>?_
  exact lT (⟨true,Option.some.inj h,S.fix [0,1] [4] (by decide) d d d⟩)
 refine sField (b:=ar) (off:=0) 1 1 S (wG 9 false 83 d d d aa) d d d d d (lb d) fun a S=>sLoad1 0 (.slice a7 a2.1.Rows.length a8) S (wG 9 false 83 d d d aa) d d d d d d (lb d) fun a S=>sMove (iv ax) S (wG 9 false 83 d d d aa) (.inl d) d d (lb d) fun a S=>?_
 obtain ⟨bI,bJ,S⟩:=pIdx (P:=Tryd.prog) (r:=r_api_Row) (v:=.slice a7 a2.1.Rows.length a8) (xs:=a2.1.Rows) (j:=ax) 38 54 4 S Tryd.underlying38 d d aO
 refine sIdxV S (wG 9 false 83 d d d aa) d d d bJ d (lb d) fun a S=>?_
 obtain ⟨bK,bL,S⟩:=pFld (P:=Tryd.prog) (r:=r_api_Row) (s2:=rB) (g:=(·.Back)) (q:=bI) (z:=ah) 54 0 0 0 S d d comp_api_Row_Back
 refine sFldV (q:=bI) S (wG 9 false 83 d d d aa) d d bL d (lb d) fun a S=>?_
 obtain ⟨bM,S⟩:=pLoad (r:=rB) (q:=bK) (x:=ah.Back) 0 S d
 obtain rfl:bM=.bool ah.Back:=S.mem.know (i:=1) (e:=fRep rB (bM) ah.Back) d
 refine sLoadV1 (vq:=bK) 0 (.bool ah.Back) S (wG 9 false 83 d d d aa) d d d d d (lb d) fun a S=>sMove (iv ax) S (wG 9 false 83 d d d aa) (.inl d) d d (lb d) fun a S=>?_
 obtain ⟨aL,bN,h⟩:=bS h
 refine sBin _ S (wG 9 false 83 d d d aa) d d d (bRem _ _ _ _ (x:=ax) (y:=2) bN) d (lb d) fun a S=>sBin _ S (wG 9 false 83 d d d aa) d d d (bEq _ _ _ _ .i64 aL 0) d (lb d) fun a S=>sBin _ S (wG 9 false 83 d d d aa) d d d (bNeB _ _ _ _ Tryd.underlying4 ah.Back (aL == 0)) d (lb d) fun a S=>sPickF (.bool (ah.Back != (aL == 0))) S (wN d) d d aa d d (lb d) fun a S=>?_
 exact lT (⟨ah.Back != (aL == 0),Option.some.inj h,S.fix [0,1] [8] (by decide) d d d⟩)
def K_raddlelaw37_alive_l1 (r38:(api_Chart × Int)):Int→Option (Int ⊕ (Bool ⊕ Unit)):=fun s0=>match s0 with
 | s95=>
  if decide (s95 < 4) then
   Option.bind (idxO r38.1.Rows s95) fun x104=>
   Option.bind (K_stitch_Text x104.Cells) fun r113=>
   Option.bind (α:=Bool) (
    if r113.2 != 0 then
     some true
    else
     Option.bind (idxO ([(⟨#[112,108,50,32,112,56]⟩:ByteArray),(⟨#[107,102,50,32,107,55]⟩:ByteArray),(⟨#[112,108,50,32,112,54]⟩:ByteArray),(⟨#[107,102,50,32,107,53]⟩:ByteArray)]:List ByteArray) s95) fun x119=>
     if r113.1 != x119 then
      some true
     else
      Option.bind (remI s95 2) fun z127=>
      some (x104.Back != (z127 == 0))) fun o115=>
   if o115 then
    some (.inr (.inl false))
   else
    some (.inl (w64 (s95 + 1)))
  else
   some (.inr (.inr ()))
def K_raddlelaw37_alive :Option Bool:=
 Option.bind (K_raddlelaw37_given) fun r3=>
 Option.bind (K_piece_Make r3) fun r14=>
 Option.bind (K_raddlelaw37_made) fun r27=>
 Option.bind (K_piece_Chart r27) fun r38=>
 Option.bind (K_piece_Read r38.1 0) fun r47=>
 if r14.2 != 0 then
  none
 else
  Option.bind (K_raddleref37_Same r14.1 r27) fun r73=>
  if !r73 then
   none
  else
   if r38.2 != 0 then
    none
   else
    if r38.1.Start != 10 then
     none
    else
     if (r38.1.Rows.length:Int) != 4 then
      none
     else
      if r47.2 != 0 then
       none
      else
       Option.bind (K_raddleref37_Same r47.1 r14.1) fun r80=>
       if !r80 then
        none
       else
        Option.bind (α:=Unit ⊕ Bool) (
         Option.bind (whileK (K_raddlelaw37_alive_l1 r38) 0) fun z0=>match z0 with
          | .inl z=>
           some (.inr z)
          | .inr _=>
           some (.inl ())) fun z0=>match z0 with
         | .inl _=>
          some true
         | .inr z=>
          some z
theorem m_raddlelaw37_alive_l1 (r38:(api_Chart × Int)):∀ s,Le (K_raddlelaw37_alive_l1 r38 s) (raddlelaw37_alive_l1 r38 s):=by
 unfold K_raddlelaw37_alive_l1 raddlelaw37_alive_l1
 with_reducible repeat' (first | exact m_F_stitch_Text _ | exact Le.rfl _ | refine Le.loop _ ?_ | refine Le.bind ?_ ?_ | refine Le.ite ?_ ?_ | refine Le.sum ?_ ?_ | refine Le.prod ?_ | intro _ | exact Empty.elim (by assumption) | dsimp only)
theorem m_F_raddlelaw37_alive :Le (K_raddlelaw37_alive) (F_raddlelaw37_alive):=by
 unfold K_raddlelaw37_alive F_raddlelaw37_alive
 with_reducible repeat' (first | exact m_F_raddlelaw37_given | exact m_F_piece_Make _ | exact m_F_raddlelaw37_made | exact m_F_piece_Chart _ | exact m_F_piece_Read _ _ | exact m_F_raddleref37_Same _ _ | exact m_raddlelaw37_alive_l1 _ | exact Le.rfl _ | refine Le.loop _ ?_ | refine Le.bind ?_ ?_ | refine Le.ite ?_ ?_ | refine Le.sum ?_ ?_ | refine Le.prod ?_ | intro _ | exact Empty.elim (by assumption) | dsimp only)
end Go.Proofs.YtmedbnjhgkcndaaDoor
