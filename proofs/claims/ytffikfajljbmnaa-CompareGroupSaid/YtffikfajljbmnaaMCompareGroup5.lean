/- CompareGroup: walks, tables, laws. -/
import Derived.Test.YtffikfajljbmnaaProg
import Derived.Test.YtffikfajljbmnaaRows
import Derived.Test.YtffikfajljbmnaaMCompareGroup4
set_option linter.unusedVariables false
set_option linter.unusedSimpArgs false
set_option maxHeartbeats 4000000
set_option maxRecDepth 100000
namespace Go.Proofs.Ytffikfajljbmnaa
open Go.RowKit
noncomputable def raddleref25_word_l1 (a6:(Int × Bool)) (a7:Int):(List api_Stitch × Int)→Option ((List api_Stitch × Int) ⊕ List api_Stitch):=fun s0=>match s0 with
 | (a5,a0)=>
  Option.bind (α:=Bool) (
   if decide (a0 < a6.1) then
    some (decide (a0 < 300))
   else
    some false) fun a8=>
  if a8 then
   (appO a5 [(api_Stitch.mk 1 (a7 == 112) 0 0)]).bind fun a9=>
   some (.inl (a9,w64 (a0 + 1)))
  else
   some (.inr a5)
noncomputable def F_raddleref25_word (p0:ByteArray):Option ((List api_Stitch) × Bool):=
 if p0 == (⟨#[121,111]⟩:ByteArray) then
  some ([(api_Stitch.mk 2 false 0 0)],true)
 else
  Option.bind (α:=Bool) (
   if decide (2 < (p0.size:Int)) then
    (sliceS p0 0 2).bind fun ak=>
    some (ak == (⟨#[111,110]⟩:ByteArray))
   else
    some false) fun o9=>
  if o9 then
   (sliceS p0 2 (p0.size:Int)).bind fun al=>
   (F_raddleref25_Number al).bind fun ai=>
   some ([(api_Stitch.mk 9 false ai.1 0)],ai.2)
  else
   Option.bind (α:=Bool) (
    if (p0.size:Int) == 0 then
     some true
    else
     (idxS p0 0).bind fun aj=>
     if aj != 107 then
      some (aj != 112)
     else
      some false) fun am=>
   if am then
    some (([]:(List api_Stitch)),false)
   else
    (idxS p0 0).bind fun a8=>
    if (p0.size:Int) == 1 then
     some ([(api_Stitch.mk 1 (a8 == 112) 0 0)],true)
    else
     Option.bind (α:=Unit ⊕ ((List api_Stitch) × Bool)) (
      (sliceS p0 1 (p0.size:Int)).bind fun ao=>
      (F_raddleref25_Number ao).bind fun a9=>
      if a9.2 then
       Option.bind (α:=List api_Stitch) (
        (whileO (raddleref25_word_l1 a9 a8) (([]:List api_Stitch),0)).bind fun ap=>
         some ap) fun aq=>
       some (.inr (aq,decide (1 < a9.1)))
      else
       some (.inl ())) fun z0=>match z0 with
      | .inl _=>
       (idxS p0 1).bind fun ar=>
       (F_raddleref25_kind ar).bind fun a0=>
       if a0 == 8 then
        some ([(api_Stitch.mk a0 (a8 == 112) 0 0)],(p0.size:Int) == 2)
       else
        (sliceS p0 2 (p0.size:Int)).bind fun au=>
        (F_raddleref25_Cut au 47).bind fun a5=>
        Option.bind (α:=Bool) (
         if a0 != 0 then
          some ((a5.length:Int) == 1)
         else
          some false) fun aa=>
        Option.bind (α:=(Bool × Int)) (
         Option.bind (α:=Bool) (
          if a0 == 6 then
           some true
          else
           some (a0 == 7)) fun ab=>
         if ab then
          if (a5.length:Int) == 2 then
           (idxO a5 1).bind fun ac=>
           (F_raddleref25_Number ac).bind fun a6=>
           some (a6.2,a6.1)
          else
           some ((a5.length:Int) == 2,0)
         else
          some (aa,0)) fun (ae,af)=>
        (idxO a5 0).bind fun ag=>
        (F_raddleref25_Number ag).bind fun a7=>
        Option.bind (α:=Bool) (
         if ae then
          some a7.2
         else
          some false) fun ah=>
        some ([(api_Stitch.mk a0 (a8 == 112) a7.1 af)],ah)
      | .inr z=>
       some z
def c_raddleref25_word_val (r:((List api_Stitch) × Bool)) (x:Value):Value:=.tuple #[x,.bool r.2]
def c_raddleref25_word_D (r:((List api_Stitch) × Bool)) (x:Value):List Fact:=[fRep (rL r_api_Stitch) x r.1]
theorem c_raddleref25_word (E:Nat→Prop) (w0:World) (p0:ByteArray) (r:((List api_Stitch) × Bool)) (h:F_raddleref25_word p0=some r) (S:St0 E [] w0 w0 [] []) :
 Calls Try.prog 95 #[.string p0] w0 (Ret (X:=Value) E [] w0 (c_raddleref25_word_val r) (fun _=>[]) (c_raddleref25_word_D r)):=by
 unfold F_raddleref25_word at h
 refine sEnter (args:=[.string p0]) 140 Try.func95 d d (by simp) S (fun a S=>?_)
 refine sSeq (fun K1 cD=>sRegion (sN S fun a S=>?_))
 refine sN S fun a S=>?_
 refine lT (cD _ _ (sSeq (fun K2 cE=>sSeq (fun K3 cF=>sRegion (sM S fun a S=>?_)))))
 refine sBin _ S (wN d) d d d (bEqS _ _ _ _ p0 (⟨#[121,111]⟩:ByteArray)) d (lb d) fun a S=>lT (cF _ _ ?_)
 rcases iS h with ⟨bA,h⟩ | ⟨bA,h⟩
 ·refine sCondT S d bA (sSeq (fun K5 cG=>sRegion (sBuild [(0,.int .u8 2)] [.int .u8 2,.bool false,iv 0,iv 0] S (wN d) d d d d (lb d) fun a S=>?_)))
  have S:=S.learn (fRep r_api_Stitch (.agg #[.int .u8 2,.bool false,iv 0,iv 0]) (api_Stitch.mk 2 false 0 0)) d
  refine sLit (r:=r_api_Stitch) (T:=81) (xs:=[(api_Stitch.mk 2 false 0 0)]) [(0,.agg #[.int .u8 2,.bool false,iv 0,iv 0])] 1 [.agg #[.int .u8 2,.bool false,iv 0,iv 0]] [.int .u8 2,.bool false,iv 0,iv 0] (.agg #[.int .u8 0,.bool false,iv 0,iv 0]) 24 S (wN d) d d Try.underlying47 d (by decide) (by decide) (by kernel_rfl) d (fun E1 w1 hE=>All.cons (r_api_Stitch.mono hE (S.mem.know (i:=0) (e:=fRep r_api_Stitch (.agg #[.int .u8 2,.bool false,iv 0,iv 0]) (api_Stitch.mk 2 false 0 0)) d)) (All.nil _ _ _)) d d (lb d) fun a w bw bx S=>?_
  refine sN S fun a S=>?_
  refine sN S fun a S=>?_
  refine lT (cG _ _ ?_)
  obtain rfl:=tS h
  have S:=S.shutR (r:=r_api_Stitch) (T:=81) (v:=.slice bw [(api_Stitch.mk 2 false 0 0)].length bx) (xs:=[(api_Stitch.mk 2 false 0 0)]) 0 d
  exact wp_ret (rThen (sRet (.tuple #[.slice bw [(api_Stitch.mk 2 false 0 0)].length bx,.bool true]) S (rsl2 d (rvT (t:=2) (v:=.slice bw [(api_Stitch.mk 2 false 0 0)].length bx) S d) (rvT (t:=3) (v:=.bool true) S d)) ⟨(.slice bw [(api_Stitch.mk 2 false 0 0)].length bx),d,S.mem.sel [] [0] (by decide) d d⟩))
 refine sCondF S d bA (wp_skip (leafT (cE _ _ ?_)))
 refine sSeq (fun K8 cH=>?_)
 obtain ⟨cI,h,cJ⟩:=bS h
 refine sCut (fun a w=>∃ o9,o9=cI∧St [] E [] w0 140 a w [(0,.string p0),(26,.bool o9)] [] []) ?_ (fun a w hI=>?_)
 ·refine sRegion (sM S fun a S=>?_)
  refine sLenS (v:=p0) S (wN d) d Try.underlying9 d d (lb d) fun a S=>sBin _ S (wN d) d d d (bGt _ _ _ _ .i64 (p0.size:Int) 2) d (lb d) fun a S=>sM S fun a S=>?_
  rcases iS h with ⟨am,h⟩ | ⟨am,h⟩
  rotate_left
  ·refine sSkN 3 3 true 22 S d d am d fun a S=>sPickF (.bool false) S (wN d) d d am d d (lb d) fun a S=>?_
   exact lT (⟨false,Option.some.inj h,S.fix [] [] (by decide) d d d⟩)
  refine sMove (.string p0) S (wG 3 true 22 d d d am) (.inl d) d d (lb d) fun a S=>?_
  obtain ⟨bz,bB,h⟩:=bS h
  refine sSliceS (v:=p0) (u:=bz) (vlo:=none) (vhi:=(some (.int .i64 2))) (lo':=0) (hi':=2) S (wG 3 true 22 d d d am) d Try.underlying9 d d d (.inr ⟨d,d⟩) (.inl d) bB d (lb d) fun a S=>sBin _ S (wG 3 true 22 d d d am) d d d (bEqS _ _ _ _ bz (⟨#[111,110]⟩:ByteArray)) d (lb d) fun a S=>sPickT (.bool (bz == (⟨#[111,110]⟩:ByteArray))) S (wN d) d d am d d (lb d) fun a S=>?_
  exact lT (⟨bz == (⟨#[111,110]⟩:ByteArray),Option.some.inj h,S.fix [] [] (by decide) d d d⟩)
 obtain ⟨o9,rfl,S⟩:=hI
 have h:=cJ
 try dsimp only at h
 rcases iS h with ⟨aS,h⟩ | ⟨aS,h⟩
 ·refine sCondT S d aS (sSeq (fun cX bC=>sRegion (sM S fun a S=>?_)))
  obtain ⟨bD,bE,h⟩:=bS h
  refine sSliceS (v:=p0) (u:=bD) (vlo:=(some (.int .i64 2))) (vhi:=none) (lo':=2) (hi':=(p0.size:Int)) S (wN d) d Try.underlying9 d d d (.inl d) (.inr ⟨d,d⟩) bE d (lb d) fun a S=>?_
  obtain ⟨ac,bG,h⟩:=bS h
  have S1:=S.mem
  refine sCq [.string bD] (.tuple #[iv ac.1,.bool ac.2]) S callee97 (S1.quiet [] d) (fun E1 w1 S1=>c_raddleref25_Number E1 w1 bD ac bG S1) fun a w S=>?_
  refine sM S fun a S=>?_
  refine sExtract (vs:=[iv ac.1,.bool ac.2]) (iv ac.1) S (wN d) d d d d (lb d) fun a S=>sExtract (vs:=[iv ac.1,.bool ac.2]) (.bool ac.2) S (wN d) d d d d (lb d) fun a S=>sN S fun a S=>?_
  refine sN S fun a S=>?_
  refine lT (bC _ _ (sSeq (fun cY bH=>sRegion (sM S fun a S=>?_))))
  refine sBuild [(0,.int .u8 9),(2,iv ac.1)] [.int .u8 9,.bool false,iv ac.1,iv 0] S (wN d) d d d d (lb d) fun a S=>?_
  have S:=S.learn (fRep r_api_Stitch (.agg #[.int .u8 9,.bool false,iv ac.1,iv 0]) (api_Stitch.mk 9 false ac.1 0)) d
  refine sLit (r:=r_api_Stitch) (T:=81) (xs:=[(api_Stitch.mk 9 false ac.1 0)]) [(0,.agg #[.int .u8 9,.bool false,iv ac.1,iv 0])] 1 [.agg #[.int .u8 9,.bool false,iv ac.1,iv 0]] [.int .u8 9,.bool false,iv ac.1,iv 0] (.agg #[.int .u8 0,.bool false,iv 0,iv 0]) 24 S (wN d) d d Try.underlying47 d (by decide) (by decide) (by kernel_rfl) d (fun E1 w1 hE=>All.cons (r_api_Stitch.mono hE (S.mem.know (i:=0) (e:=fRep r_api_Stitch (.agg #[.int .u8 9,.bool false,iv ac.1,iv 0]) (api_Stitch.mk 9 false ac.1 0)) d)) (All.nil _ _ _)) d d (lb d) fun a w aJ aK S=>?_
  refine sM S fun a S=>?_
  refine sN S fun a S=>?_
  refine sN S fun a S=>?_
  refine lT (bH _ _ ?_)
  obtain rfl:=tS h
  have S:=S.shutR (r:=r_api_Stitch) (T:=81) (v:=.slice aJ [(api_Stitch.mk 9 false ac.1 0)].length aK) (xs:=[(api_Stitch.mk 9 false ac.1 0)]) 0 d
  exact wp_ret (rThen (sRet (.tuple #[.slice aJ [(api_Stitch.mk 9 false ac.1 0)].length aK,.bool ac.2]) S (rsl2 d (rvT (t:=2) (v:=.slice aJ [(api_Stitch.mk 9 false ac.1 0)].length aK) S d) (rvT (t:=3) (v:=.bool ac.2) S d)) ⟨(.slice aJ [(api_Stitch.mk 9 false ac.1 0)].length aK),d,S.mem.sel [] [0] (by decide) d d⟩))
 refine sCondF S d aS (wp_skip (leafT (cH _ _ ?_)))
 refine sSeq (fun cZ bI=>?_)
 obtain ⟨cK,h,cL⟩:=bS h
 refine sCut (fun a w=>∃ bJ,bJ=cK∧St [] E [] w0 140 a w [(0,.string p0),(49,.bool bJ)] [] []) ?_ (fun a w hI=>?_)
 ·refine sRegion (sM S fun a S=>?_)
  refine sLenS (v:=p0) S (wN d) d Try.underlying9 d d (lb d) fun a S=>sBin _ S (wN d) d d d (bEq _ _ _ _ .i64 (p0.size:Int) 0) d (lb d) fun a S=>sM S fun a S=>?_
  rcases iS h with ⟨ae,h⟩ | ⟨ae,h⟩
  ·refine sSkN 4 3 false 40 S d d ae d fun a S=>sSkipU 7 true 44 45 S d d d d (lb d) fun a S=>?_
   refine sSkipU 7 true 44 46 S d d d d (lb d) fun a S=>?_
   refine sSkipU 7 true 44 47 S d d d d (lb d) fun a S=>?_
   refine sSk S d d d ae d d fun a S=>sPickT (.bool true) S (wN d) d d ae d d (lb d) fun a S=>?_
   exact lT (⟨true,Option.some.inj h,S.fix [] [] (by decide) d d d⟩)
  refine sMove (.string p0) S (wG 3 false 40 d d d ae) (.inl d) d d (lb d) fun a S=>?_
  obtain ⟨bb,bc,h⟩:=bS h
  refine sIndexS (v:=p0) (j:=0) (k:=.i64) S (wG 3 false 40 d d d ae) d Try.underlying9 d d bc d (lb d) fun a S=>sBin _ S (wG 3 false 40 d d d ae) d d d (bNe _ _ _ _ .u8 bb 107) d (lb d) fun a S=>sMove (.bool (bb != 107)) S (wG 3 false 40 d d d ae) (.inl d) d d (lb d) fun a S=>?_
  rcases iS h with ⟨ao,h⟩ | ⟨ao,h⟩
  rotate_left
  ·refine sSkN 3 7 true 44 S d d ao d fun a S=>sPickF (.bool false) S (wG 3 false 40 d d d ae) d d ao d d (lb d) fun a S=>sPickF (.bool false) S (wN d) d d ae d d (lb d) fun a S=>?_
   exact lT (⟨false,Option.some.inj h,S.fix [] [] (by decide) d d d⟩)
  refine sMove (.string p0) S (wG 7 true 44 d d d ao) (.inl d) d d (lb d) fun a S=>sIndexS (v:=p0) (j:=0) (k:=.i64) S (wG 7 true 44 d d d ao) d Try.underlying9 d d bc d (lb d) fun a S=>sBin _ S (wG 7 true 44 d d d ao) d d d (bNe _ _ _ _ .u8 bb 112) d (lb d) fun a S=>sPickT (.bool (bb != 112)) S (wG 3 false 40 d d d ae) d d ao d d (lb d) fun a S=>sPickF (.bool (bb != 112)) S (wN d) d d ae d d (lb d) fun a S=>?_
  exact lT (⟨bb != 112,Option.some.inj h,S.fix [] [] (by decide) d d d⟩)
 obtain ⟨bJ,rfl,S⟩:=hI
 have h:=cL
 try dsimp only at h
 rcases iS h with ⟨aT,h⟩ | ⟨aT,h⟩
 ·refine sCondT S d aT (sSeq (fun d6 bK=>sRegion (sN S fun a S=>?_)))
  refine sN S fun a S=>?_
  refine lT (bK _ _ ?_)
  obtain rfl:=tS h
  have S:=S.learn (fRep (rL r_api_Stitch) (.slice none 0 0) ([]:(List api_Stitch))) (rL_nil _ _ _)
  exact wp_ret (rThen (sRet (.tuple #[.slice none 0 0,.bool false]) S (rsl2 d (rvT (t:=2) (v:=.slice none 0 0) S d) (rvT (t:=3) (v:=.bool false) S d)) ⟨(.slice none 0 0),d,S.mem.sel [] [0] (by decide) d d⟩))
 refine sCondF S d aT (wp_skip (leafT (bI _ _ ?_)))
 refine sSeq (fun d7 bL=>sRegion (sM S fun a S=>?_))
 obtain ⟨a0,bM,h⟩:=bS h
 refine sIndexS (v:=p0) (j:=0) (k:=.i64) S (wN d) d Try.underlying9 d d bM d (lb d) fun a S=>sBin _ S (wN d) d d d (bEq _ _ _ _ .u8 a0 112) d (lb d) fun a S=>sBuild [(0,.int .u8 1),(1,.bool (a0 == 112))] [.int .u8 1,.bool (a0 == 112),iv 0,iv 0] S (wN d) d d d d (lb d) fun a S=>sAlloc (.agg #[.int .u8 0,.bool false,iv 0,iv 0]) S (wN d) d d [.int .u8 0,.bool false,iv 0,iv 0] d d (lb d) fun a aa w S=>sStore (p:=aa) (off:=0) (T:=81) (vs:=[.int .u8 0,.bool false,iv 0,iv 0]) (v:=.agg #[.int .u8 1,.bool (a0 == 112),iv 0,iv 0]) 0 [.int .u8 1,.bool (a0 == 112),iv 0,iv 0] S (wN d) d d d d d d d (by simp) d fun a w S=>lT (bL _ _ (sSeq (fun d8 bN=>sSeq (fun d9 bO=>sRegion (sM S fun a S=>?_)))))
 refine sLenS (v:=p0) S (wN d) d Try.underlying9 d d (lb d) fun a S=>sBin _ S (wN d) d d d (bEq _ _ _ _ .i64 (p0.size:Int) 1) d (lb d) fun a S=>lT (bO _ _ ?_)
 rcases iS h with ⟨aU,h⟩ | ⟨aU,h⟩
 ·refine sCondT S d aU (sSeq (fun da bP=>sRegion (sLoadN (p:=aa) (off:=0) (T:=81) (vs:=[.int .u8 1,.bool (a0 == 112),iv 0,iv 0]) 0 [.int .u8 1,.bool (a0 == 112),iv 0,iv 0] S (wN d) d d d d d d d (lb d) fun a S=>?_)))
  have S:=S.learn (fRep r_api_Stitch (.agg #[.int .u8 1,.bool (a0 == 112),iv 0,iv 0]) (api_Stitch.mk 1 (a0 == 112) 0 0)) d
  refine sLit (r:=r_api_Stitch) (T:=81) (xs:=[(api_Stitch.mk 1 (a0 == 112) 0 0)]) [(0,.agg #[.int .u8 1,.bool (a0 == 112),iv 0,iv 0])] 1 [.agg #[.int .u8 1,.bool (a0 == 112),iv 0,iv 0]] [.int .u8 1,.bool (a0 == 112),iv 0,iv 0] (.agg #[.int .u8 0,.bool false,iv 0,iv 0]) 24 S (wN d) d d Try.underlying47 d (by decide) (by decide) (by kernel_rfl) d (fun E1 w1 hE=>All.cons (r_api_Stitch.mono hE (S.mem.know (i:=0) (e:=fRep r_api_Stitch (.agg #[.int .u8 1,.bool (a0 == 112),iv 0,iv 0]) (api_Stitch.mk 1 (a0 == 112) 0 0)) d)) (All.nil _ _ _)) d d (lb d) fun a w aL aM S=>?_
  refine sN S fun a S=>?_
  refine sN S fun a S=>?_
  refine lT (bP _ _ ?_)
  obtain rfl:=tS h
  have S:=S.shutR (r:=r_api_Stitch) (T:=81) (v:=.slice aL [(api_Stitch.mk 1 (a0 == 112) 0 0)].length aM) (xs:=[(api_Stitch.mk 1 (a0 == 112) 0 0)]) 0 d
  exact wp_ret (rThen (sRet (.tuple #[.slice aL [(api_Stitch.mk 1 (a0 == 112) 0 0)].length aM,.bool true]) S (rsl2 d (rvT (t:=2) (v:=.slice aL [(api_Stitch.mk 1 (a0 == 112) 0 0)].length aM) S d) (rvT (t:=3) (v:=.bool true) S d)) ⟨(.slice aL [(api_Stitch.mk 1 (a0 == 112) 0 0)].length aM),d,S.mem.sel [] [0] (by decide) d d⟩))
 refine sCondF S d aU (wp_skip (leafT (bN _ _ ?_)))
 obtain ⟨cM,h,cB⟩:=bS h
 refine sCut (fun a w=>.inl ()=cM∧St [] E [] w0 140 a w [(0,.string p0),(6,.pointer (some ⟨aa,0,none⟩))] [eBox aa 81 [.int .u8 1,.bool (a0 == 112),iv 0,iv 0]] []) ?_ (fun a w hI=>?_)
 ·refine sSeq (fun db bQ=>sRegion (sM S fun a S=>?_))
  obtain ⟨bR,bU,h⟩:=bS h
  refine sSliceS (v:=p0) (u:=bR) (vlo:=(some (.int .i64 1))) (vhi:=none) (lo':=1) (hi':=(p0.size:Int)) S (wN d) d Try.underlying9 d d d (.inl d) (.inr ⟨d,d⟩) bU d (lb d) fun a S=>?_
  obtain ⟨al,bV,h⟩:=bS h
  have S1:=S.mem
  refine sCq [.string bR] (.tuple #[iv al.1,.bool al.2]) S callee97 (S1.quiet [] d) (fun E1 w1 S1=>c_raddleref25_Number E1 w1 bR al bV S1) fun a w S=>?_
  refine sM S fun a S=>?_
  refine sExtract (vs:=[iv al.1,.bool al.2]) (iv al.1) S (wN d) d d d d (lb d) fun a S=>sExtract (vs:=[iv al.1,.bool al.2]) (.bool al.2) S (wN d) d d d d (lb d) fun a S=>sN S fun a S=>?_
  refine sN S fun a S=>?_
  refine lT (bQ _ _ (sSeq (fun dc bW=>sRegion (sM S fun a S=>?_))))
  refine lT (bW _ _ ?_)
  rcases iS h with ⟨aV,h⟩ | ⟨aV,h⟩
  rotate_left
  ·refine sCondF S d aV ?_
   exact wp_skip (leafT (⟨Option.some.inj h,S.fix [0] [] (by decide) d d d⟩))
  refine sCondT S d aV (sSeq (fun de bX=>sRegion (sN S fun a S=>?_)))
  refine lT (bX _ _ ?_)
  obtain ⟨cN,h,cO⟩:=bS h
  refine sCut (fun a w=>∃ aG,aG=cN∧∃ ap,∃ aq,St [] E [] w0 140 a w [(7,iv al.1),(9,.slice ap aG.length aq)] [eRow r_api_Stitch 81 (.slice ap aG.length aq) aG] []) ?_ (fun a w hI=>?_)
  rotate_left
  ·obtain ⟨aG,rfl,ap,aq,S⟩:=hI
   have h:=cO
   try dsimp only at h
   refine sSeq (fun df bY=>sRegion (sM S fun a S=>?_))
   refine sM S fun a S=>?_
   refine sBin _ S (wN d) d d d (bGt _ _ _ _ .i64 al.1 1) d (lb d) fun a S=>sN S fun a S=>?_
   refine sN S fun a S=>?_
   refine lT (bY _ _ ?_)
   obtain rfl:=tS h
   have h:=cB
   try dsimp only at h
   obtain rfl:=tS h
   have S:=S.shutR (r:=r_api_Stitch) (T:=81) (v:=.slice ap aG.length aq) (xs:=aG) 0 d
   exact wp_ret (rThen (sRet (.tuple #[.slice ap aG.length aq,.bool (decide (1 < al.1))]) S (rsl2 d (rvT (t:=2) (v:=.slice ap aG.length aq) S d) (rvT (t:=3) (v:=.bool (decide (1 < al.1))) S d)) ⟨(.slice ap aG.length aq),d,S.mem.sel [] [0] (by decide) d d⟩))
  refine sSeq (fun dg bZ=>sRegion (sN S fun a S=>?_))
  refine lT (bZ _ _ (wp_block ?_))
  have S:=S.nilRow r_api_Stitch 81 (α:=api_Stitch)
  obtain ⟨dh,hl,cP⟩:=bS h
  refine sLoop hl (fun s0 a w=>match s0 with | (aH,aI)=>∃ ar,∃ au,St [] E [] w0 140 a w [(6,.pointer (some ⟨aa,0,none⟩)),(7,iv al.1),(9,.slice ar aH.length au),(10,iv aI)] [eBox aa 81 [.int .u8 1,.bool (a0 == 112),iv 0,iv 0],eRow r_api_Stitch 81 (.slice ar aH.length au) aH] []) ⟨none,0,S.fix [1,0] [] (by decide) d d d⟩ ?_
  clear hl h
  intro s0 a w c0 hI h c7
  obtain ⟨aH,aI⟩:=s0
  unfold raddleref25_word_l1 at h
  dsimp only at h hI
  obtain ⟨ar,au,S⟩:=hI
  refine sSeq (fun di c8=>?_)
  obtain ⟨cQ,h,cR⟩:=bS h
  refine sCut (fun a w=>∃ c9,c9=cQ∧St [] E [] w0 140 a w [(6,.pointer (some ⟨aa,0,none⟩)),(7,iv al.1),(9,.slice ar aH.length au),(10,iv aI),(72,.bool c9)] [eBox aa 81 [.int .u8 1,.bool (a0 == 112),iv 0,iv 0],eRow r_api_Stitch 81 (.slice ar aH.length au) aH] []) ?_ (fun a w hI=>?_)
  ·refine sRegion (sM S fun a S=>?_)
   refine sM S fun a S=>?_
   refine sBin _ S (wN d) d d d (bLt _ _ _ _ .i64 aI al.1) d (lb d) fun a S=>sM S fun a S=>?_
   rcases iS h with ⟨av,h⟩ | ⟨av,h⟩
   rotate_left
   ·refine sSkN 2 3 true 69 S d d av d fun a S=>sPickF (.bool false) S (wN d) d d av d d (lb d) fun a S=>?_
    exact lT (⟨false,Option.some.inj h,S.fix [0,1] [] (by decide) d d d⟩)
   refine sMove (iv aI) S (wG 3 true 69 d d d av) (.inl d) d d (lb d) fun a S=>sBin _ S (wG 3 true 69 d d d av) d d d (bLt _ _ _ _ .i64 aI 300) d (lb d) fun a S=>sPickT (.bool (decide (aI < 300))) S (wN d) d d av d d (lb d) fun a S=>?_
   exact lT (⟨decide (aI < 300),Option.some.inj h,S.fix [0,1] [] (by decide) d d d⟩)
  obtain ⟨c9,rfl,S⟩:=hI
  have h:=cR
  try dsimp only at h
  rcases iS h with ⟨aW,h⟩ | ⟨aW,h⟩
  rotate_left
  ·refine sCondF S d aW ?_
   obtain rfl:=tS h
   obtain rfl:=c7 _ d
   have h:=cP
   try dsimp only at h
   exact wp_exit (xThen (xThen (xHit (leafT (⟨aH,Option.some.inj h,ar,au,S.fix [1] [] (by decide) d d d⟩)))))
  refine sCondT S d aW (wp_skip (leafT (c8 _ _ ?_)))
  refine sSeq (fun dj ca=>wp_block ?_)
  refine sRegion (sM S fun a S=>?_)
  refine sLoadN (p:=aa) (off:=0) (T:=81) (vs:=[.int .u8 1,.bool (a0 == 112),iv 0,iv 0]) 0 [.int .u8 1,.bool (a0 == 112),iv 0,iv 0] S (wN d) d d d d d d d (lb d) fun a S=>?_
  have S:=S.learn (fRep r_api_Stitch (.agg #[.int .u8 1,.bool (a0 == 112),iv 0,iv 0]) (api_Stitch.mk 1 (a0 == 112) 0 0)) d
  refine sLit (r:=r_api_Stitch) (T:=81) (xs:=[(api_Stitch.mk 1 (a0 == 112) 0 0)]) [(0,.agg #[.int .u8 1,.bool (a0 == 112),iv 0,iv 0])] 1 [.agg #[.int .u8 1,.bool (a0 == 112),iv 0,iv 0]] [.int .u8 1,.bool (a0 == 112),iv 0,iv 0] (.agg #[.int .u8 0,.bool false,iv 0,iv 0]) 24 S (wN d) d d Try.underlying47 d (by decide) (by decide) (by kernel_rfl) d (fun E1 w1 hE=>All.cons (r_api_Stitch.mono hE (S.mem.know (i:=0) (e:=fRep r_api_Stitch (.agg #[.int .u8 1,.bool (a0 == 112),iv 0,iv 0]) (api_Stitch.mk 1 (a0 == 112) 0 0)) d)) (All.nil _ _ _)) d d (lb d) fun a w cb cc S=>?_
  obtain ⟨cS,cd,h⟩:=bS h
  refine sApp (r:=r_api_Stitch) (T:=81) (xs:=aH) (ys:=[(api_Stitch.mk 1 (a0 == 112) 0 0)]) (v:=.slice ar aH.length au) (u:=.slice cb [(api_Stitch.mk 1 (a0 == 112) 0 0)].length cc) 2 (.agg #[.int .u8 0,.bool false,iv 0,iv 0]) 24 S (wN d) d Try.underlying47 d d (by decide) d d d (src_R (T:=81) 0 S.mem d) cd d (lb d) fun a w ce cf S=>sN S fun a S=>?_
  refine leafL (leafB (leafT (ca _ _ ?_)))
  refine sRegion (sM S fun a S=>?_)
  refine sBin _ S (wN d) d d d (bAdd _ _ _ _ aI 1) d (lb d) fun a S=>sN S fun a S=>?_
  exact lT (⟨(cS,w64 (aI + 1)),(Option.some.inj h).symm,⟨ce,cf,S.fix [2,0] [] (by decide) d d d⟩⟩)
 obtain ⟨rfl,S⟩:=hI
 have h:=cB
 try dsimp only at h
 refine sSeq (fun dk cg=>sRegion (sM S fun a S=>?_))
 obtain ⟨cC,ci,h⟩:=bS h
 refine sIndexS (v:=p0) (j:=1) (k:=.i64) S (wN d) d Try.underlying9 d d ci d (lb d) fun a S=>?_
 obtain ⟨a6,cj,h⟩:=bS h
 have S1:=S.mem
 refine sCq [.int .u8 cC] (.int .u8 a6) S callee106 (S1.quiet [] d) (fun E1 w1 S1=>c_raddleref25_kind E1 w1 cC a6 cj S1) fun a w S=>?_
 refine sField (b:=aa) (off:=0) 0 0 S (wN d) d d d d d (lb d) fun a S=>sStore (p:=aa) (off:=0) (T:=81) (vs:=[.int .u8 1,.bool (a0 == 112),iv 0,iv 0]) (v:=.int .u8 a6) 0 [.int .u8 a6] S (wN d) d d d d d d d (by simp) d fun a w S=>lT (cg _ _ (sSeq (fun dm ck=>sSeq (fun dn cl=>sRegion (sField (b:=aa) (off:=0) 0 0 S (wN d) d d d d d (lb d) fun a S=>sLoad1 0 (.int .u8 a6) S (wN d) d d d d d d (lb d) fun a S=>sBin _ S (wN d) d d d (bEq _ _ _ _ .u8 a6 8) d (lb d) fun a S=>lT (cl _ _ ?_))))))
 rcases iS h with ⟨aX,h⟩ | ⟨aX,h⟩
 ·refine sCondT S d aX (sSeq (fun dp cm=>sRegion (sLoadN (p:=aa) (off:=0) (T:=81) (vs:=[.int .u8 a6,.bool (a0 == 112),iv 0,iv 0]) 0 [.int .u8 a6,.bool (a0 == 112),iv 0,iv 0] S (wN d) d d d d d d d (lb d) fun a S=>?_)))
  have S:=S.learn (fRep r_api_Stitch (.agg #[.int .u8 a6,.bool (a0 == 112),iv 0,iv 0]) (api_Stitch.mk a6 (a0 == 112) 0 0)) d
  refine sLit (r:=r_api_Stitch) (T:=81) (xs:=[(api_Stitch.mk a6 (a0 == 112) 0 0)]) [(0,.agg #[.int .u8 a6,.bool (a0 == 112),iv 0,iv 0])] 1 [.agg #[.int .u8 a6,.bool (a0 == 112),iv 0,iv 0]] [.int .u8 a6,.bool (a0 == 112),iv 0,iv 0] (.agg #[.int .u8 0,.bool false,iv 0,iv 0]) 24 S (wN d) d d Try.underlying47 d (by decide) (by decide) (by kernel_rfl) d (fun E1 w1 hE=>All.cons (r_api_Stitch.mono hE (S.mem.know (i:=0) (e:=fRep r_api_Stitch (.agg #[.int .u8 a6,.bool (a0 == 112),iv 0,iv 0]) (api_Stitch.mk a6 (a0 == 112) 0 0)) d)) (All.nil _ _ _)) d d (lb d) fun a w aO aP S=>?_
  refine sM S fun a S=>?_
  refine sLenS (v:=p0) S (wN d) d Try.underlying9 d d (lb d) fun a S=>sBin _ S (wN d) d d d (bEq _ _ _ _ .i64 (p0.size:Int) 2) d (lb d) fun a S=>sN S fun a S=>?_
  refine sN S fun a S=>?_
  refine lT (cm _ _ ?_)
  obtain rfl:=tS h
  have S:=S.shutR (r:=r_api_Stitch) (T:=81) (v:=.slice aO [(api_Stitch.mk a6 (a0 == 112) 0 0)].length aP) (xs:=[(api_Stitch.mk a6 (a0 == 112) 0 0)]) 0 d
  exact wp_ret (rThen (sRet (.tuple #[.slice aO [(api_Stitch.mk a6 (a0 == 112) 0 0)].length aP,.bool ((p0.size:Int) == 2)]) S (rsl2 d (rvT (t:=2) (v:=.slice aO [(api_Stitch.mk a6 (a0 == 112) 0 0)].length aP) S d) (rvT (t:=3) (v:=.bool ((p0.size:Int) == 2)) S d)) ⟨(.slice aO [(api_Stitch.mk a6 (a0 == 112) 0 0)].length aP),d,S.mem.sel [] [0] (by decide) d d⟩))
 refine sCondF S d aX (wp_skip (leafT (ck _ _ ?_)))
 refine sSeq (fun dr cn=>sRegion (sM S fun a S=>?_))
 obtain ⟨co,cp,h⟩:=bS h
 refine sSliceS (v:=p0) (u:=co) (vlo:=(some (.int .i64 2))) (vhi:=none) (lo':=2) (hi':=(p0.size:Int)) S (wN d) d Try.underlying9 d d d (.inl d) (.inr ⟨d,d⟩) cp d (lb d) fun a S=>?_
 obtain ⟨af,cq,h⟩:=bS h
 refine sCall (X:=Value) (f:=94) (vs:=[.string co,.int .u8 47]) (val:=c_raddleref25_Cut_val af) (B':=fun _=>[]) (D':=c_raddleref25_Cut_D af) [] [eBox aa 81 [.int .u8 a6,.bool (a0 == 112),iv 0,iv 0]] [] [0] [] S (wN d) d callee94 d (by decide) d d (fun E1 w1 S1=>c_raddleref25_Cut E1 w1 co 47 af cq S1) d (lb d) fun cr a w S=>?_
 obtain ⟨a8,a9,_,rfl,_⟩:=S.mem.know (i:=0) (e:=fRep (rL rS) (cr) af) d
 refine sN S fun a S=>?_
 refine lT (cn _ _ ?_)
 obtain ⟨ct,h,cu⟩:=bS h
 refine sCut (fun a w=>∃ ay,ay=ct∧St [] E [] w0 140 a w [(6,.pointer (some ⟨aa,0,none⟩)),(11,.slice a8 af.length a9),(12,.bool ay)] [eBox aa 81 [.int .u8 a6,.bool (a0 == 112),iv 0,iv 0]] [fRep (rL rS) (.slice a8 af.length a9) af]) ?_ (fun a w hI=>?_)
 ·refine sRegion (sField (b:=aa) (off:=0) 0 0 S (wN d) d d d d d (lb d) fun a S=>sLoad1 0 (.int .u8 a6) S (wN d) d d d d d d (lb d) fun a S=>sBin _ S (wN d) d d d (bNe _ _ _ _ .u8 a6 0) d (lb d) fun a S=>sM S fun a S=>?_)
  rcases iS h with ⟨ag,h⟩ | ⟨ag,h⟩
  rotate_left
  ·refine sSkN 3 3 true 100 S d d ag d fun a S=>sPickF (.bool false) S (wN d) d d ag d d (lb d) fun a S=>sN S fun a S=>?_
   exact lT (⟨false,Option.some.inj h,S.fix [0] [0] (by decide) d d d⟩)
  refine sMove (.slice a8 af.length a9) S (wG 3 true 100 d d d ag) (.inl d) d d (lb d) fun a S=>sLen S (wG 3 true 100 d d d ag) d Try.underlying142 d d (lb d) fun a S=>sBin _ S (wG 3 true 100 d d d ag) d d d (bEq _ _ _ _ .i64 (af.length:Int) 1) d (lb d) fun a S=>sPickT (.bool ((af.length:Int) == 1)) S (wN d) d d ag d d (lb d) fun a S=>sN S fun a S=>?_
  exact lT (⟨(af.length:Int) == 1,Option.some.inj h,S.fix [0] [0] (by decide) d d d⟩)
 obtain ⟨ay,rfl,S⟩:=hI
 have h:=cu
 try dsimp only at h
 obtain ⟨cv,h,cw⟩:=bS h
 refine sCut (fun a w=>∃ aZ,∃ a7,(aZ,a7)=cv∧St [] E [] w0 140 a w [(6,.pointer (some ⟨aa,0,none⟩)),(11,.slice a8 af.length a9),(12,.bool aZ)] [eBox aa 81 [.int .u8 a6,.bool (a0 == 112),iv 0,iv a7]] [fRep (rL rS) (.slice a8 af.length a9) af]) ?_ (fun a w hI=>?_)
 ·obtain ⟨cx,h,cy⟩:=bS h
  refine sCut (fun a w=>∃ ba,ba=cx∧St [] E [] w0 140 a w [(6,.pointer (some ⟨aa,0,none⟩)),(11,.slice a8 af.length a9),(12,.bool ay),(112,.bool ba)] [eBox aa 81 [.int .u8 a6,.bool (a0 == 112),iv 0,iv 0]] [fRep (rL rS) (.slice a8 af.length a9) af]) ?_ (fun a w hI=>?_)
  ·refine sRegion (sField (b:=aa) (off:=0) 0 0 S (wN d) d d d d d (lb d) fun a S=>sLoad1 0 (.int .u8 a6) S (wN d) d d d d d d (lb d) fun a S=>sBin _ S (wN d) d d d (bEq _ _ _ _ .u8 a6 6) d (lb d) fun a S=>sM S fun a S=>?_)
   rcases iS h with ⟨ah,h⟩ | ⟨ah,h⟩
   ·refine sSkN 3 3 false 108 S d d ah d fun a S=>sPickT (.bool true) S (wN d) d d ah d d (lb d) fun a S=>?_
    exact lT (⟨true,Option.some.inj h,S.fix [0] [0] (by decide) d d d⟩)
   refine sField (b:=aa) (off:=0) 0 0 S (wG 3 false 108 d d d ah) d d d d d (lb d) fun a S=>sLoad1 0 (.int .u8 a6) S (wG 3 false 108 d d d ah) d d d d d d (lb d) fun a S=>sBin _ S (wG 3 false 108 d d d ah) d d d (bEq _ _ _ _ .u8 a6 7) d (lb d) fun a S=>sPickF (.bool (a6 == 7)) S (wN d) d d ah d d (lb d) fun a S=>?_
   exact lT (⟨a6 == 7,Option.some.inj h,S.fix [0] [0] (by decide) d d d⟩)
  obtain ⟨ba,rfl,S⟩:=hI
  have h:=cy
  try dsimp only at h
  rcases iS h with ⟨az,h⟩ | ⟨az,h⟩
  rotate_left
  ·refine sCondF S d az ?_
   exact wp_skip (leafT (⟨ay,0,Option.some.inj h,S.fix [0] [0] (by decide) d d d⟩))
  refine sCondT S d az (sSeq (fun cT bf=>sRegion (sM S fun a S=>?_)))
  refine sLen S (wN d) d Try.underlying142 d d (lb d) fun a S=>sBin _ S (wN d) d d d (bEq _ _ _ _ .i64 (af.length:Int) 2) d (lb d) fun a S=>sN S fun a S=>?_
  refine lT (bf _ _ (sSeq (fun cU bg=>sRegion (sM S fun a S=>?_))))
  refine lT (bg _ _ ?_)
  rcases iS h with ⟨aA,h⟩ | ⟨aA,h⟩
  rotate_left
  ·refine sCondF S d aA ?_
   exact wp_skip (leafT (⟨(af.length:Int) == 2,0,Option.some.inj h,S.fix [0] [0] (by decide) d d d⟩))
  refine sCondT S d aA (sRegion (sM S fun a S=>?_))
  obtain ⟨aw,bh,h⟩:=bS h
  obtain ⟨bi,bj,S⟩:=pIdx (P:=Try.prog) (r:=rS) (v:=.slice a8 af.length a9) (xs:=af) (j:=1) 142 9 0 S Try.underlying142 d d bh
  refine sIdxV S (wN d) d d d bj d (lb d) fun a S=>?_
  obtain ⟨bk,S⟩:=pLoad (r:=rS) (q:=bi) (x:=aw) 0 S d
  obtain rfl:bk=.string aw:=S.mem.know (i:=1) (e:=fRep rS (bk) aw) d
  refine sLoadV1 (vq:=bi) 0 (.string aw) S (wN d) d d d d d (lb d) fun a S=>?_
  obtain ⟨ab,bl,h⟩:=bS h
  have S1:=S.mem
  refine sCq [.string aw] (.tuple #[iv ab.1,.bool ab.2]) S callee97 (S1.quiet [] d) (fun E1 w1 S1=>c_raddleref25_Number E1 w1 aw ab bl S1) fun a w S=>?_
  refine sM S fun a S=>?_
  refine sExtract (vs:=[iv ab.1,.bool ab.2]) (iv ab.1) S (wN d) d d d d (lb d) fun a S=>sExtract (vs:=[iv ab.1,.bool ab.2]) (.bool ab.2) S (wN d) d d d d (lb d) fun a S=>sField (b:=aa) (off:=0) 3 3 S (wN d) d d d d d (lb d) fun a S=>sStore (p:=aa) (off:=3) (T:=81) (vs:=[.int .u8 a6,.bool (a0 == 112),iv 0,iv 0]) (v:=iv ab.1) 0 [iv ab.1] S (wN d) d d d d d d d (by simp) d fun a w S=>sN S fun a S=>?_
  exact lT (⟨ab.2,ab.1,Option.some.inj h,S.fix [0] [3] (by decide) d d d⟩)
 obtain ⟨aZ,a7,rfl,S⟩:=hI
 have h:=cw
 try dsimp only at h
 refine sSeq (fun cV bm=>sRegion (sM S fun a S=>?_))
 obtain ⟨ax,bo,h⟩:=bS h
 obtain ⟨bp,bq,S⟩:=pIdx (P:=Try.prog) (r:=rS) (v:=.slice a8 af.length a9) (xs:=af) (j:=0) 142 9 0 S Try.underlying142 d d bo
 refine sIdxV S (wN d) d d d bq d (lb d) fun a S=>?_
 obtain ⟨br,S⟩:=pLoad (r:=rS) (q:=bp) (x:=ax) 0 S d
 obtain rfl:br=.string ax:=S.mem.know (i:=1) (e:=fRep rS (br) ax) d
 refine sLoadV1 (vq:=bp) 0 (.string ax) S (wN d) d d d d d (lb d) fun a S=>?_
 obtain ⟨a5,bu,h⟩:=bS h
 have S1:=S.mem
 refine sCq [.string ax] (.tuple #[iv a5.1,.bool a5.2]) S callee97 (S1.quiet [] d) (fun E1 w1 S1=>c_raddleref25_Number E1 w1 ax a5 bu S1) fun a w S=>?_
 refine sM S fun a S=>?_
 refine sExtract (vs:=[iv a5.1,.bool a5.2]) (iv a5.1) S (wN d) d d d d (lb d) fun a S=>sExtract (vs:=[iv a5.1,.bool a5.2]) (.bool a5.2) S (wN d) d d d d (lb d) fun a S=>sN S fun a S=>?_
 refine sN S fun a S=>?_
 refine lT (bm _ _ (sSeq (fun cW bv=>sRegion (sM S fun a S=>?_))))
 refine sField (b:=aa) (off:=0) 2 2 S (wN d) d d d d d (lb d) fun a S=>sStore (p:=aa) (off:=2) (T:=81) (vs:=[.int .u8 a6,.bool (a0 == 112),iv 0,iv a7]) (v:=iv a5.1) 0 [iv a5.1] S (wN d) d d d d d d d (by simp) d fun a w S=>lT (bv _ _ ?_)
 obtain ⟨cz,h,cA⟩:=bS h
 refine sCut (fun a w=>∃ aC,aC=cz∧∃ ai,∃ aj,St [] E [] w0 140 a w [(2,.slice ai [(api_Stitch.mk a6 (a0 == 112) a5.1 a7)].length aj),(3,.bool aC)] [eRow r_api_Stitch 81 (.slice ai [(api_Stitch.mk a6 (a0 == 112) a5.1 a7)].length aj) [(api_Stitch.mk a6 (a0 == 112) a5.1 a7)]] []) ?_ (fun a w hI=>?_)
 rotate_left
 ·obtain ⟨aC,rfl,ai,aj,S⟩:=hI
  have h:=cA
  try dsimp only at h
  obtain rfl:=tS h
  have S:=S.shutR (r:=r_api_Stitch) (T:=81) (v:=.slice ai [(api_Stitch.mk a6 (a0 == 112) a5.1 a7)].length aj) (xs:=[(api_Stitch.mk a6 (a0 == 112) a5.1 a7)]) 0 d
  exact wp_ret (sRet (.tuple #[.slice ai [(api_Stitch.mk a6 (a0 == 112) a5.1 a7)].length aj,.bool aC]) S (rsl2 d (rvT (t:=2) (v:=.slice ai [(api_Stitch.mk a6 (a0 == 112) a5.1 a7)].length aj) S d) (rvT (t:=3) (v:=.bool aC) S d)) ⟨(.slice ai [(api_Stitch.mk a6 (a0 == 112) a5.1 a7)].length aj),d,S.mem.sel [] [0] (by decide) d d⟩)
 refine sRegion (sLoadN (p:=aa) (off:=0) (T:=81) (vs:=[.int .u8 a6,.bool (a0 == 112),iv a5.1,iv a7]) 0 [.int .u8 a6,.bool (a0 == 112),iv a5.1,iv a7] S (wN d) d d d d d d d (lb d) fun a S=>?_)
 have S:=S.learn (fRep r_api_Stitch (.agg #[.int .u8 a6,.bool (a0 == 112),iv a5.1,iv a7]) (api_Stitch.mk a6 (a0 == 112) a5.1 a7)) d
 refine sLit (r:=r_api_Stitch) (T:=81) (xs:=[(api_Stitch.mk a6 (a0 == 112) a5.1 a7)]) [(0,.agg #[.int .u8 a6,.bool (a0 == 112),iv a5.1,iv a7])] 1 [.agg #[.int .u8 a6,.bool (a0 == 112),iv a5.1,iv a7]] [.int .u8 a6,.bool (a0 == 112),iv a5.1,iv a7] (.agg #[.int .u8 0,.bool false,iv 0,iv 0]) 24 S (wN d) d d Try.underlying47 d (by decide) (by decide) (by kernel_rfl) d (fun E1 w1 hE=>All.cons (r_api_Stitch.mono hE (S.mem.know (i:=0) (e:=fRep r_api_Stitch (.agg #[.int .u8 a6,.bool (a0 == 112),iv a5.1,iv a7]) (api_Stitch.mk a6 (a0 == 112) a5.1 a7)) d)) (All.nil _ _ _)) d d (lb d) fun a w aQ aR S=>?_
 refine sM S fun a S=>?_
 refine sM S fun a S=>?_
 rcases iS h with ⟨ak,h⟩ | ⟨ak,h⟩
 rotate_left
 ·refine sSk S d d d ak d d fun a S=>sPickF (.bool false) S (wN d) d d ak d d (lb d) fun a S=>sN S fun a S=>?_
  refine sN S fun a S=>?_
  exact lT (⟨false,Option.some.inj h,aQ,aR,S.fix [0] [] (by decide) d d d⟩)
 refine sMove (.bool a5.2) S (wG 3 true 137 d d d ak) (.inl d) d d (lb d) fun a S=>sPickT (.bool a5.2) S (wN d) d d ak d d (lb d) fun a S=>sN S fun a S=>?_
 refine sN S fun a S=>?_
 exact lT (⟨a5.2,Option.some.inj h,aQ,aR,S.fix [0] [] (by decide) d d d⟩)
def anc_raddleref25_Written_0:List (List Nat):=[[],[],[0,1],[0,1,2],[0,1,2,3],[0,1,2,3,4],[0,1,2,3,4,5],[0,1,2,3,4,5,6],[0,1,2,3,4,5,6,7],[0,1,2,3,4,5,6],[0,1,2,3,4,5,6,9],[0,1,2,3,4,5,6,7,8,9,10],[0,1,2,3,4,5,6,7,8,9,10,11],[0,1,2,3,4,5,6,7,8,9,10,11,12],[0,1,2,3,4,5,6,7,8,9,10,11,12,13],[0,1,2,3,4,5,6,7,8,9,10,11,12,13],[0,1,2,3,4,5,6,7,8,9,10,11,12,13,15],[0,1,2,3,4,5,6,7,8,9,10,11,12,13,14,15,16],[0,1,2,3,4,5,6,7,8,9,10,11,12,13,14,15,16,17],[0,1,2,3,4,5,6,7,8,9,10,11,12,13],[0,1,2,3,4,5,6,7,8,9,10,11,12,13],[0,1,2,3,4,5,6,7,8,9,10,11,12,13,19,20],[0,1,2,3,4,5,6,7,8,9,10,11,12,13,19,20,21],[0,1,2,3,4,5,6,7,8,9,10,11,12,13,14,15,16,17,18,19,20,21,22],[0,1,2,3,4,5,6,7,8,9,10,11,12,13,14,15,16,17,18,19,20,21,22,23]]
noncomputable def raddleref25_Written_l1 (p0:(List api_Stitch)):(Int × Int)→Option ((Int × Int) ⊕ (Int × Int)):=fun s0=>match s0 with
 | (a0,a7)=>
  Option.bind (α:=Bool) (
   (idxO p0 a0).bind fun a5=>
   if a5.Kind == 1 then
    if decide ((w64 (a0 + 1)) < (p0.length:Int)) then
     (idxO p0 (w64 (a0 + 1))).bind fun a6=>
     some ((a6.Kind == a5.Kind) && ((a6.Purl == a5.Purl) && ((a6.A == a5.A) && ((a6.B == a5.B) && true))))
    else
     some false
   else
    some false) fun a8=>
  if a8 then
   some (.inl (w64 (a0 + 1),w64 (a7 + 1)))
  else
   some (.inr (a0,a7))
noncomputable def raddleref25_Written_l2 (p0:(List api_Stitch)):(ByteArray × Int)→Option ((ByteArray × Int) ⊕ ByteArray):=fun s0=>match s0 with
 | (s9,a0)=>
  if decide (a0 < (p0.length:Int)) then
   Option.bind (α:=(ByteArray × Int)) (
    Option.bind (α:=ByteArray) (
     if decide (0 < a0) then
      (addS s9 (⟨#[32]⟩:ByteArray)).bind fun a8=>
      some a8
     else
      some s9) fun a9=>
    (idxO p0 a0).bind fun aa=>
    (F_raddleref25_one aa).bind fun ab=>
    (addS a9 ab).bind fun a5=>
    Option.bind (α:=(Int × Int)) (
     (whileO (raddleref25_Written_l1 p0) (a0,1)).bind fun (ac,ae)=>
      some (ac,ae)) fun (a6,a7)=>
    if decide (1 < a7) then
     (F_raddleref25_Decimal a7).bind fun af=>
     (addS a5 af).bind fun ag=>
     some (ag,a6)
    else
     some (a5,a6)) fun (ah,ai)=>
   some (.inl (ah,w64 (ai + 1)))
  else
   some (.inr s9)
noncomputable def F_raddleref25_Written (p0:(List api_Stitch)):Option ByteArray:=
 Option.bind (α:=ByteArray) (
  (whileO (raddleref25_Written_l2 p0) ((⟨#[]⟩:ByteArray),0)).bind fun a0=>
   some a0) fun o5=>
 some o5
theorem c_raddleref25_Written (E:Nat→Prop) (w0:World) (p0:(List api_Stitch)) (v0:Value) (r:ByteArray) (h:F_raddleref25_Written p0=some r) (S:St0 E [] w0 w0 [] [fRep (rL r_api_Stitch) (v0) p0]) :
 Calls Try.prog 96 #[v0] w0 (Ret (X:=Unit) E [] w0 (fun _=>.string r) (fun _=>[]) (fun _=>[])):=by
 unfold F_raddleref25_Written at h
 obtain ⟨a9,aa,_,rfl,_⟩:=S.know (i:=0) (e:=fRep (rL r_api_Stitch) (v0) p0) d
 refine sEnter (args:=[.slice a9 p0.length aa]) 59 Try.func96 d d (by simp) S (fun a S=>?_)
 refine sSeq (fun K3 bx=>sRegion (sN S fun a S=>?_))
 refine lT (bx _ _ (sSeq (fun K4 bz=>sRegion (sN S fun a S=>?_))))
 refine lT (bz _ _ ?_)
 obtain ⟨t6,h,g7⟩:=bS h
 refine sCut (fun a w=>∃ o5,o5=t6∧St [] E [] w0 59 a w [(3,.string o5)] [] []) ?_ (fun a w hI=>?_)
 rotate_left
 ·obtain ⟨o5,rfl,S⟩:=hI
  have h:=g7
  try dsimp only at h
  refine sSeq (fun bA am=>sRegion (sM S fun a S=>?_))
  refine sN S fun a S=>?_
  refine lT (am _ _ ?_)
  obtain rfl:=tS h
  exact wp_ret (sRet (.string o5) S (rsl1 d (rvT (t:=2) (v:=.string o5) S d)) ⟨(),d,S.mem.sel [] [] (by decide) d d⟩)
 refine sSeq (fun K8 bB=>sRegion (sN S fun a S=>?_))
 refine lT (bB _ _ (wp_block ?_))
 obtain ⟨bP,hl,bC⟩:=bS h
 refine sLoop hl (fun s0 a w=>match s0 with | (s9,ak)=>St [] E [] w0 59 a w [(0,.slice a9 p0.length aa),(3,.string s9),(4,iv ak)] [] [fRep (rL r_api_Stitch) (.slice a9 p0.length aa) p0]) (S.fix [] [0] (by decide) d d d) ?_
 clear hl h
 intro s0 a w c0 hI h ax
 obtain ⟨s9,ak⟩:=s0
 unfold raddleref25_Written_l2 at h
 dsimp only at h hI
 have S:=hI
 refine sSeq (fun bQ ay=>sSeq (fun bR az=>sRegion (sM S fun a S=>?_)))
 refine sM S fun a S=>?_
 refine sLen S (wN d) d Try.underlying47 d d (lb d) fun a S=>sBin _ S (wN d) d d d (bLt _ _ _ _ .i64 ak (p0.length:Int)) d (lb d) fun a S=>lT (az _ _ ?_)
 rcases iS h with ⟨ag,h⟩ | ⟨ag,h⟩
 rotate_left
 ·refine sCondF S d ag ?_
  obtain rfl:=tS h
  obtain rfl:=ax _ d
  have h:=bC
  try dsimp only at h
  exact wp_exit (xThen (xThen (xHit (leafT (⟨s9,Option.some.inj h,S.fix [] [] (by decide) d d d⟩)))))
 refine sCondT S d ag (wp_skip (leafT (ay _ _ ?_)))
 obtain ⟨bD,h,bE⟩:=bS h
 refine sCut (fun a w=>∃ ar,∃ ao,(ar,ao)=bD∧St [] E [] w0 59 a w [(0,.slice a9 p0.length aa),(3,.string ar),(4,iv ao)] [] [fRep (rL r_api_Stitch) (.slice a9 p0.length aa) p0]) ?_ (fun a w hI=>?_)
 rotate_left
 ·obtain ⟨ar,ao,rfl,S⟩:=hI
  have h:=bE
  try dsimp only at h
  refine sRegion (sM S fun a S=>?_)
  refine sBin _ S (wN d) d d d (bAdd _ _ _ _ ao 1) d (lb d) fun a S=>sN S fun a S=>?_
  exact lT (⟨(ar,w64 (ao + 1)),(Option.some.inj h).symm,(S.fix [] [0] (by decide) d d d)⟩)
 refine wp_block ?_
 obtain ⟨bG,h,bH⟩:=bS h
 refine sCut (fun a w=>∃ au,au=bG∧St [] E [] w0 59 a w [(0,.slice a9 p0.length aa),(3,.string au),(4,iv ak)] [] [fRep (rL r_api_Stitch) (.slice a9 p0.length aa) p0]) ?_ (fun a w hI=>?_)
 ·refine sSeq (fun bU aA=>sRegion (sM S fun a S=>?_))
  refine sBin _ S (wN d) d d d (bGt _ _ _ _ .i64 ak 0) d (lb d) fun a S=>lT (aA _ _ ?_)
  rcases iS h with ⟨ah,h⟩ | ⟨ah,h⟩
  rotate_left
  ·refine sCondF S d ah ?_
   exact wp_skip (leafT (⟨s9,Option.some.inj h,S.fix [] [0] (by decide) d d d⟩))
  refine sCondT S d ah (sRegion (sM S fun a S=>?_))
  obtain ⟨bI,aC,h⟩:=bS h
  refine sBin _ S (wN d) d d d (bAddS _ _ _ _ (x:=s9) (y:=(⟨#[32]⟩:ByteArray)) aC) d (lb d) fun a S=>sN S fun a S=>?_
  exact lT (⟨bI,Option.some.inj h,S.fix [] [0] (by decide) d d d⟩)
 obtain ⟨au,rfl,S⟩:=hI
 have h:=bH
 try dsimp only at h
 refine sSeq (fun bV aG=>sRegion (sM S fun a S=>?_))
 refine sM S fun a S=>?_
 refine sM S fun a S=>?_
 obtain ⟨ab,aH,h⟩:=bS h
 obtain ⟨bo,aI,S⟩:=pIdx (P:=Try.prog) (r:=r_api_Stitch) (v:=.slice a9 p0.length aa) (xs:=p0) (j:=ak) 47 81 0 S Try.underlying47 d d aH
 refine sIdxV S (wN d) d d d aI d (lb d) fun a S=>?_
 obtain ⟨bp,S⟩:=pLoad (r:=r_api_Stitch) (q:=bo) (x:=ab) 0 S d
 obtain rfl:bp=.agg #[.int .u8 ab.Kind,.bool ab.Purl,iv ab.A,iv ab.B]:=S.mem.know (i:=1) (e:=fRep r_api_Stitch (bp) ab) d
 refine sLoadVN (vq:=bo) 0 [.int .u8 ab.Kind,.bool ab.Purl,iv ab.A,iv ab.B] S (wN d) d d d d d d (lb d) fun a S=>?_
 obtain ⟨aJ,aK,h⟩:=bS h
 have S1:=S.mem
 refine sCq [.agg #[.int .u8 ab.Kind,.bool ab.Purl,iv ab.A,iv ab.B]] (.string aJ) S callee107 (S1.quiet [1] d) (fun E1 w1 S1=>c_raddleref25_one E1 w1 ab (.agg #[.int .u8 ab.Kind,.bool ab.Purl,iv ab.A,iv ab.B]) aJ aK S1) fun a w S=>?_
 obtain ⟨af,aL,h⟩:=bS h
 refine sBin _ S (wN d) d d d (bAddS _ _ _ _ (x:=au) (y:=aJ) aL) d (lb d) fun a S=>sN S fun a S=>?_
 refine lT (aG _ _ (sSeq (fun bW aM=>sRegion (sN S fun a S=>?_))))
 refine lT (aM _ _ ?_)
 obtain ⟨bJ,h,bK⟩:=bS h
 refine sCut (fun a w=>∃ ap,∃ al,(ap,al)=bJ∧St [] E [] w0 59 a w [(0,.slice a9 p0.length aa),(3,.string af),(4,iv ap),(5,iv al)] [] [fRep (rL r_api_Stitch) (.slice a9 p0.length aa) p0]) ?_ (fun a w hI=>?_)
 rotate_left
 ·obtain ⟨ap,al,rfl,S⟩:=hI
  have h:=bK
  try dsimp only at h
  refine sSeq (fun bX aO=>sRegion (sM S fun a S=>?_))
  refine sBin _ S (wN d) d d d (bGt _ _ _ _ .i64 al 1) d (lb d) fun a S=>lT (aO _ _ ?_)
  rcases iS h with ⟨ai,h⟩ | ⟨ai,h⟩
  rotate_left
  ·refine sCondF S d ai ?_
   exact wp_skip (leafB (leafT (⟨af,ap,Option.some.inj h,S.fix [] [0] (by decide) d d d⟩)))
  refine sCondT S d ai (sRegion (sM S fun a S=>?_))
  refine sM S fun a S=>?_
  obtain ⟨aP,aQ,h⟩:=bS h
  have S1:=S.mem
  refine sCq [iv al] (.string aP) S callee108 (S1.quiet [] d) (fun E1 w1 S1=>c_raddleref25_Decimal E1 w1 al aP aQ S1) fun a w S=>?_
  obtain ⟨bL,aq,h⟩:=bS h
  refine sBin _ S (wN d) d d d (bAddS _ _ _ _ (x:=af) (y:=aP) aq) d (lb d) fun a S=>sN S fun a S=>?_
  exact leafL (leafB (leafT (⟨bL,ap,Option.some.inj h,S.fix [] [0] (by decide) d d d⟩)))
 refine wp_block ?_
 obtain ⟨bY,hl,bM⟩:=bS h
 refine sLoop hl (fun s0 a w=>match s0 with | (a5,ac)=>St [] E [] w0 59 a w [(0,.slice a9 p0.length aa),(3,.string af),(4,iv a5),(5,iv ac)] [] [fRep (rL r_api_Stitch) (.slice a9 p0.length aa) p0]) (S.fix [] [3] (by decide) d d d) ?_
 clear hl h
 intro s0 a w c0 hI h aR
 obtain ⟨a5,ac⟩:=s0
 unfold raddleref25_Written_l1 at h
 dsimp only at h hI
 have S:=hI
 refine sSeq (fun bZ aS=>?_)
 obtain ⟨bN,h,bO⟩:=bS h
 refine sCut (fun a w=>∃ aT,aT=bN∧St [] E [] w0 59 a w [(0,.slice a9 p0.length aa),(3,.string af),(4,iv a5),(5,iv ac),(47,.bool aT)] [] [fRep (rL r_api_Stitch) (.slice a9 p0.length aa) p0]) ?_ (fun a w hI=>?_)
 rotate_left
 ·obtain ⟨aT,rfl,S⟩:=hI
  have h:=bO
  try dsimp only at h
  rcases iS h with ⟨aj,h⟩ | ⟨aj,h⟩
  rotate_left
  ·refine sCondF S d aj ?_
   obtain rfl:=tS h
   obtain rfl:=aR _ d
   have h:=bM
   try dsimp only at h
   exact wp_exit (xThen (xThen (xHit (leafT (⟨a5,ac,Option.some.inj h,S.fix [] [0] (by decide) d d d⟩)))))
  refine sCondT S d aj (wp_skip (leafT (aS _ _ ?_)))
  refine wp_block ?_
  refine sSeq (fun c7 aU=>sRegion (sM S fun a S=>?_))
  refine sBin _ S (wN d) d d d (bAdd _ _ _ _ a5 1) d (lb d) fun a S=>sN S fun a S=>?_
  refine lT (aU _ _ (sRegion (sM S fun a S=>?_)))
  refine sBin _ S (wN d) d d d (bAdd _ _ _ _ ac 1) d (lb d) fun a S=>sN S fun a S=>?_
  exact leafL (leafB (leafT (⟨(w64 (a5 + 1),w64 (ac + 1)),(Option.some.inj h).symm,(S.fix [] [0] (by decide) d d d)⟩)))
 obtain ⟨a0,ae,h⟩:=bS h
 rcases iS h with ⟨a8,h⟩ | ⟨a8,h⟩
 rotate_left
 ·obtain ⟨aV,aW,S⟩:=pIdx (P:=Try.prog) (r:=r_api_Stitch) (v:=.slice a9 p0.length aa) (xs:=p0) (j:=a5) 47 81 0 S Try.underlying47 d d ae
  obtain ⟨aX,aZ,S⟩:=pFld (P:=Try.prog) (r:=r_api_Stitch) (s2:=(rI .u8)) (g:=(·.Kind)) (q:=aV) (z:=a0) 81 0 0 0 S d d comp_api_Stitch_Kind
  obtain ⟨bq,S⟩:=pLoad (r:=(rI .u8)) (q:=aX) (x:=a0.Kind) 0 S d
  obtain rfl:bq=.int .u8 a0.Kind:=S.mem.know (i:=1) (e:=fRep (rI .u8) (bq) a0.Kind) d
  refine sDraw (nf:=[]) (W:=[(0,23,.slice a9 p0.length aa),(1,24,iv a5),(2,25,aV),(3,26,aX),(4,27,.int .u8 a0.Kind),(5,28,.bool (a0.Kind == 1)),(6,29,.bool (a0.Kind == 1)),(7,30,undef),(8,31,undef),(9,32,undef),(10,33,undef),(11,34,undef),(12,35,.bool false),(13,36,.bool false),(14,37,undef),(15,38,undef),(16,39,undef),(17,40,undef),(18,41,undef),(19,42,undef),(20,43,undef),(21,44,undef),(22,45,undef),(23,46,undef),(24,47,.bool false)]) d S ?_
  refine node_by (A:=anc_raddleref25_Written_0) 25 (by kernel_rfl) (by kernel_rfl) (by kernel_rfl) (by kernel_rfl) (by kernel_rfl) [0,1,2,3,4,5,6,7,8,9,10,11,12,13,14,15,16,17,18,19,20,21,22,23,24] (by kernel_rfl) (by decide) (by decide) (fF ?_ (fF ?_ (fF ?_ (fF ?_ (fF ?_ (fF ?_ (fF ?_ (fF ?_ (fF ?_ (fF ?_ (fF ?_ (fF ?_ (fF ?_ (fF ?_ (fF ?_ (fF ?_ (fF ?_ (fF ?_ (fF ?_ (fF ?_ (fF ?_ (fF ?_ (fF ?_ (fF ?_ (fF ?_ (trivial)))))))))))))))))))))))))) [(0,.slice a9 p0.length aa),(3,.string af),(4,iv a5),(5,iv ac),(30,undef),(31,undef),(32,undef),(33,undef),(34,undef),(37,undef),(38,undef),(39,undef),(40,undef),(41,undef),(42,undef),(43,undef),(44,undef),(45,undef),(46,undef),(47,.bool false)] (fin_of [none,none,none,none,some 7,some 8,some 9,some 10,some 11,some 14,some 15,some 16,some 17,some 18,some 19,some 20,some 21,some 22,some 23,some 24] d (by kernel_rfl) (by kernel_rfl)) (fun _ a w S=>?_)
  ·exact fM 0 none d d d d (.inl d) d d d
  ·exact fM 1 none d d d d (.inl d) d d d
  ·refine fJ [(23,_),(24,_)] 2 [some 0,some 1] fun G a w S=>?_
   exact sIdxV S (wN d) d d d aW d (lb d) fun a S=>leafL ⟨d,S⟩
  ·refine fJ [(25,_)] 3 [some 2] fun G a w S=>?_
   exact sFldV (q:=aV) S (wN d) d d aZ d (lb d) fun a S=>leafL ⟨d,S⟩
  ·refine fJ [(26,_)] 4 [some 3] fun G a w S=>?_
   exact sLoadV1 (vq:=aX) 0 (.int .u8 a0.Kind) S (wN d) d d d d d (lb d) fun a S=>leafL ⟨d,S⟩
  ·refine fJ [(27,_)] 5 [some 4] fun G a w S=>?_
   exact sBin _ S (wN d) d d d (bEq _ _ _ _ .u8 a0.Kind 1) d (lb d) fun a S=>leafL ⟨d,S⟩
  ·exact fM 6 (some 5) d d d d (.inl d) d d d
  ·refine fJ [(4,_),(29,_)] 7 [none,some 6] fun G a w S=>?_
   exact sSk S d d d a8 d d fun a S=>leafL ⟨d,S⟩
  ·refine fJ [(30,_),(29,_)] 8 [some 7,some 6] fun G a w S=>?_
   exact sSk S d d d a8 d d fun a S=>leafL ⟨d,S⟩
  ·refine fJ [(0,_),(29,_)] 9 [none,some 6] fun G a w S=>?_
   exact sSk S d d d a8 d d fun a S=>leafL ⟨d,S⟩
  ·refine fJ [(32,_),(29,_)] 10 [some 9,some 6] fun G a w S=>?_
   exact sSk S d d d a8 d d fun a S=>leafL ⟨d,S⟩
  ·refine fJ [(31,_),(33,_),(29,_)] 11 [some 8,some 10,some 6] fun G a w S=>?_
   exact sSk S d d d a8 d d fun a S=>leafL ⟨d,S⟩
  ·refine fJ [(29,_),(34,_)] 12 [some 6,some 11] fun G a w S=>?_
   exact sPickF (.bool false) S (wN d) d d a8 d d (lb d) fun a S=>leafL ⟨d,S⟩
  ·exact fM 13 (some 12) d d d d (.inl d) d d d
  ·refine fJ [(0,_),(36,_)] 14 [none,some 13] fun G a w S=>?_
   exact sSk S d d d d d d fun a S=>leafL ⟨d,S⟩
  ·refine fJ [(4,_),(36,_)] 15 [none,some 13] fun G a w S=>?_
   exact sSk S d d d d d d fun a S=>leafL ⟨d,S⟩
  ·refine fJ [(38,_),(36,_)] 16 [some 15,some 13] fun G a w S=>?_
   exact sSk S d d d d d d fun a S=>leafL ⟨d,S⟩
  ·refine fJ [(37,_),(39,_),(36,_)] 17 [some 14,some 16,some 13] fun G a w S=>?_
   exact sSk S d d d d d d fun a S=>leafL ⟨d,S⟩
  ·refine fJ [(40,_),(36,_)] 18 [some 17,some 13] fun G a w S=>?_
   exact sSk S d d d d d d fun a S=>leafL ⟨d,S⟩
  ·refine fJ [(0,_),(36,_)] 19 [none,some 13] fun G a w S=>?_
   exact sSk S d d d d d d fun a S=>leafL ⟨d,S⟩
  ·refine fJ [(4,_),(36,_)] 20 [none,some 13] fun G a w S=>?_
   exact sSk S d d d d d d fun a S=>leafL ⟨d,S⟩
  ·refine fJ [(42,_),(43,_),(36,_)] 21 [some 19,some 20,some 13] fun G a w S=>?_
   exact sSk S d d d d d d fun a S=>leafL ⟨d,S⟩
  ·refine fJ [(44,_),(36,_)] 22 [some 21,some 13] fun G a w S=>?_
   exact sSk S d d d d d d fun a S=>leafL ⟨d,S⟩
  ·refine fJ [(41,_),(45,_),(36,_)] 23 [some 18,some 22,some 13] fun G a w S=>?_
   exact sSk S d d d d d d fun a S=>leafL ⟨d,S⟩
  ·refine fJ [(36,_),(46,_)] 24 [some 13,some 23] fun G a w S=>?_
   exact sPickF (.bool false) S (wN d) d d d d d (lb d) fun a S=>leafL ⟨d,S⟩
  exact leafT (⟨false,Option.some.inj h,S.fix [] [4] (by decide) d d d⟩)
 rcases iS h with ⟨a7,h⟩ | ⟨a7,h⟩
 rotate_left
 ·obtain ⟨ba,bb,S⟩:=pIdx (P:=Try.prog) (r:=r_api_Stitch) (v:=.slice a9 p0.length aa) (xs:=p0) (j:=a5) 47 81 0 S Try.underlying47 d d ae
  obtain ⟨bc,bf,S⟩:=pFld (P:=Try.prog) (r:=r_api_Stitch) (s2:=(rI .u8)) (g:=(·.Kind)) (q:=ba) (z:=a0) 81 0 0 0 S d d comp_api_Stitch_Kind
  obtain ⟨br,S⟩:=pLoad (r:=(rI .u8)) (q:=bc) (x:=a0.Kind) 0 S d
  obtain rfl:br=.int .u8 a0.Kind:=S.mem.know (i:=1) (e:=fRep (rI .u8) (br) a0.Kind) d
  refine sDraw (nf:=[]) (W:=[(0,23,.slice a9 p0.length aa),(1,24,iv a5),(2,25,ba),(3,26,bc),(4,27,.int .u8 a0.Kind),(5,28,.bool (a0.Kind == 1)),(6,29,.bool (a0.Kind == 1)),(7,30,iv a5),(8,31,iv (w64 (a5 + 1))),(9,32,.slice a9 p0.length aa),(10,33,iv (p0.length:Int)),(11,34,.bool (decide ((w64 (a5 + 1)) < (p0.length:Int)))),(12,35,.bool (decide ((w64 (a5 + 1)) < (p0.length:Int)))),(13,36,.bool (decide ((w64 (a5 + 1)) < (p0.length:Int)))),(14,37,undef),(15,38,undef),(16,39,undef),(17,40,undef),(18,41,undef),(19,42,undef),(20,43,undef),(21,44,undef),(22,45,undef),(23,46,undef),(24,47,.bool false)]) d S ?_
  refine node_by (A:=anc_raddleref25_Written_0) 25 (by kernel_rfl) (by kernel_rfl) (by kernel_rfl) (by kernel_rfl) (by kernel_rfl) [0,1,2,3,4,5,6,7,8,9,10,11,12,13,14,15,16,17,18,19,20,21,22,23,24] (by kernel_rfl) (by decide) (by decide) (fF ?_ (fF ?_ (fF ?_ (fF ?_ (fF ?_ (fF ?_ (fF ?_ (fF ?_ (fF ?_ (fF ?_ (fF ?_ (fF ?_ (fF ?_ (fF ?_ (fF ?_ (fF ?_ (fF ?_ (fF ?_ (fF ?_ (fF ?_ (fF ?_ (fF ?_ (fF ?_ (fF ?_ (fF ?_ (trivial)))))))))))))))))))))))))) [(0,.slice a9 p0.length aa),(3,.string af),(4,iv a5),(5,iv ac),(30,iv a5),(31,iv (w64 (a5 + 1))),(32,.slice a9 p0.length aa),(33,iv (p0.length:Int)),(34,.bool (decide ((w64 (a5 + 1)) < (p0.length:Int)))),(37,undef),(38,undef),(39,undef),(40,undef),(41,undef),(42,undef),(43,undef),(44,undef),(45,undef),(46,undef),(47,.bool false)] (fin_of [none,none,none,none,some 7,some 8,some 9,some 10,some 11,some 14,some 15,some 16,some 17,some 18,some 19,some 20,some 21,some 22,some 23,some 24] d (by kernel_rfl) (by kernel_rfl)) (fun _ a w S=>?_)
  ·exact fM 0 none d d d d (.inl d) d d d
  ·exact fM 1 none d d d d (.inl d) d d d
  ·refine fJ [(23,_),(24,_)] 2 [some 0,some 1] fun G a w S=>?_
   exact sIdxV S (wN d) d d d bb d (lb d) fun a S=>leafL ⟨d,S⟩
  ·refine fJ [(25,_)] 3 [some 2] fun G a w S=>?_
   exact sFldV (q:=ba) S (wN d) d d bf d (lb d) fun a S=>leafL ⟨d,S⟩
  ·refine fJ [(26,_)] 4 [some 3] fun G a w S=>?_
   exact sLoadV1 (vq:=bc) 0 (.int .u8 a0.Kind) S (wN d) d d d d d (lb d) fun a S=>leafL ⟨d,S⟩
  ·refine fJ [(27,_)] 5 [some 4] fun G a w S=>?_
   exact sBin _ S (wN d) d d d (bEq _ _ _ _ .u8 a0.Kind 1) d (lb d) fun a S=>leafL ⟨d,S⟩
  ·exact fM 6 (some 5) d d d d (.inl d) d d d
  ·refine fJ [(4,_),(29,_)] 7 [none,some 6] fun G a w S=>?_
   exact sMove (iv a5) S (wG 6 true 29 d d d a8) (.inl d) d d (lb d) fun a S=>leafL ⟨d,S⟩
  ·refine fJ [(30,_),(29,_)] 8 [some 7,some 6] fun G a w S=>?_
   exact sBin _ S (wG 6 true 29 d d d a8) d d d (bAdd _ _ _ _ a5 1) d (lb d) fun a S=>leafL ⟨d,S⟩
  ·refine fJ [(0,_),(29,_)] 9 [none,some 6] fun G a w S=>?_
   exact sMove (.slice a9 p0.length aa) S (wG 6 true 29 d d d a8) (.inl d) d d (lb d) fun a S=>leafL ⟨d,S⟩
  ·refine fJ [(32,_),(29,_)] 10 [some 9,some 6] fun G a w S=>?_
   exact sLen S (wG 6 true 29 d d d a8) d Try.underlying47 d d (lb d) fun a S=>leafL ⟨d,S⟩
  ·refine fJ [(31,_),(33,_),(29,_)] 11 [some 8,some 10,some 6] fun G a w S=>?_
   exact sBin _ S (wG 6 true 29 d d d a8) d d d (bLt _ _ _ _ .i64 (w64 (a5 + 1)) (p0.length:Int)) d (lb d) fun a S=>leafL ⟨d,S⟩
  ·refine fJ [(29,_),(34,_)] 12 [some 6,some 11] fun G a w S=>?_
   exact sPickT (.bool (decide ((w64 (a5 + 1)) < (p0.length:Int)))) S (wN d) d d a8 d d (lb d) fun a S=>leafL ⟨d,S⟩
  ·exact fM 13 (some 12) d d d d (.inl d) d d d
  ·refine fJ [(0,_),(36,_)] 14 [none,some 13] fun G a w S=>?_
   exact sSk S d d d a7 d d fun a S=>leafL ⟨d,S⟩
  ·refine fJ [(4,_),(36,_)] 15 [none,some 13] fun G a w S=>?_
   exact sSk S d d d a7 d d fun a S=>leafL ⟨d,S⟩
  ·refine fJ [(38,_),(36,_)] 16 [some 15,some 13] fun G a w S=>?_
   exact sSk S d d d a7 d d fun a S=>leafL ⟨d,S⟩
  ·refine fJ [(37,_),(39,_),(36,_)] 17 [some 14,some 16,some 13] fun G a w S=>?_
   exact sSk S d d d a7 d d fun a S=>leafL ⟨d,S⟩
  ·refine fJ [(40,_),(36,_)] 18 [some 17,some 13] fun G a w S=>?_
   exact sSk S d d d a7 d d fun a S=>leafL ⟨d,S⟩
  ·refine fJ [(0,_),(36,_)] 19 [none,some 13] fun G a w S=>?_
   exact sSk S d d d a7 d d fun a S=>leafL ⟨d,S⟩
  ·refine fJ [(4,_),(36,_)] 20 [none,some 13] fun G a w S=>?_
   exact sSk S d d d a7 d d fun a S=>leafL ⟨d,S⟩
  ·refine fJ [(42,_),(43,_),(36,_)] 21 [some 19,some 20,some 13] fun G a w S=>?_
   exact sSk S d d d a7 d d fun a S=>leafL ⟨d,S⟩
  ·refine fJ [(44,_),(36,_)] 22 [some 21,some 13] fun G a w S=>?_
   exact sSk S d d d a7 d d fun a S=>leafL ⟨d,S⟩
  ·refine fJ [(41,_),(45,_),(36,_)] 23 [some 18,some 22,some 13] fun G a w S=>?_
   exact sSk S d d d a7 d d fun a S=>leafL ⟨d,S⟩
  ·refine fJ [(36,_),(46,_)] 24 [some 13,some 23] fun G a w S=>?_
   exact sPickF (.bool false) S (wN d) d d a7 d d (lb d) fun a S=>leafL ⟨d,S⟩
  exact leafT (⟨false,Option.some.inj h,S.fix [] [4] (by decide) d d d⟩)
 obtain ⟨a6,bg,h⟩:=bS h
 obtain ⟨bh,bi,S⟩:=pIdx (P:=Try.prog) (r:=r_api_Stitch) (v:=.slice a9 p0.length aa) (xs:=p0) (j:=a5) 47 81 0 S Try.underlying47 d d ae
 obtain ⟨bj,bk,S⟩:=pFld (P:=Try.prog) (r:=r_api_Stitch) (s2:=(rI .u8)) (g:=(·.Kind)) (q:=bh) (z:=a0) 81 0 0 0 S d d comp_api_Stitch_Kind
 obtain ⟨bu,S⟩:=pLoad (r:=(rI .u8)) (q:=bj) (x:=a0.Kind) 0 S d
 obtain rfl:bu=.int .u8 a0.Kind:=S.mem.know (i:=1) (e:=fRep (rI .u8) (bu) a0.Kind) d
 obtain ⟨av,bl,S⟩:=pIdx (P:=Try.prog) (r:=r_api_Stitch) (v:=.slice a9 p0.length aa) (xs:=p0) (j:=w64 (a5 + 1)) 47 81 4 S Try.underlying47 d d bg
 obtain ⟨bv,S⟩:=pLoad (r:=r_api_Stitch) (q:=av) (x:=a6) 0 S d
 obtain rfl:bv=.agg #[.int .u8 a6.Kind,.bool a6.Purl,iv a6.A,iv a6.B]:=S.mem.know (i:=1) (e:=fRep r_api_Stitch (bv) a6) d
 obtain ⟨aw,bm,S⟩:=pIdx (P:=Try.prog) (r:=r_api_Stitch) (v:=.slice a9 p0.length aa) (xs:=p0) (j:=a5) 47 81 7 S Try.underlying47 d d ae
 obtain ⟨bw,S⟩:=pLoad (r:=r_api_Stitch) (q:=aw) (x:=a0) 0 S d
 obtain rfl:bw=.agg #[.int .u8 a0.Kind,.bool a0.Purl,iv a0.A,iv a0.B]:=S.mem.know (i:=1) (e:=fRep r_api_Stitch (bw) a0) d
 refine sDraw (nf:=[]) (W:=[(0,23,.slice a9 p0.length aa),(1,24,iv a5),(2,25,bh),(3,26,bj),(4,27,.int .u8 a0.Kind),(5,28,.bool (a0.Kind == 1)),(6,29,.bool (a0.Kind == 1)),(7,30,iv a5),(8,31,iv (w64 (a5 + 1))),(9,32,.slice a9 p0.length aa),(10,33,iv (p0.length:Int)),(11,34,.bool (decide ((w64 (a5 + 1)) < (p0.length:Int)))),(12,35,.bool (decide ((w64 (a5 + 1)) < (p0.length:Int)))),(13,36,.bool (decide ((w64 (a5 + 1)) < (p0.length:Int)))),(14,37,.slice a9 p0.length aa),(15,38,iv a5),(16,39,iv (w64 (a5 + 1))),(17,40,av),(18,41,.agg #[.int .u8 a6.Kind,.bool a6.Purl,iv a6.A,iv a6.B]),(19,42,.slice a9 p0.length aa),(20,43,iv a5),(21,44,aw),(22,45,.agg #[.int .u8 a0.Kind,.bool a0.Purl,iv a0.A,iv a0.B]),(23,46,.bool ((a6.Kind == a0.Kind) && ((a6.Purl == a0.Purl) && ((a6.A == a0.A) && ((a6.B == a0.B) && true))))),(24,47,.bool ((a6.Kind == a0.Kind) && ((a6.Purl == a0.Purl) && ((a6.A == a0.A) && ((a6.B == a0.B) && true)))))]) d S ?_
 refine node_by (A:=anc_raddleref25_Written_0) 25 (by kernel_rfl) (by kernel_rfl) (by kernel_rfl) (by kernel_rfl) (by kernel_rfl) [0,1,2,3,4,5,6,7,8,9,10,11,12,13,14,15,16,17,18,19,20,21,22,23,24] (by kernel_rfl) (by decide) (by decide) (fF ?_ (fF ?_ (fF ?_ (fF ?_ (fF ?_ (fF ?_ (fF ?_ (fF ?_ (fF ?_ (fF ?_ (fF ?_ (fF ?_ (fF ?_ (fF ?_ (fF ?_ (fF ?_ (fF ?_ (fF ?_ (fF ?_ (fF ?_ (fF ?_ (fF ?_ (fF ?_ (fF ?_ (fF ?_ (trivial)))))))))))))))))))))))))) [(0,.slice a9 p0.length aa),(3,.string af),(4,iv a5),(5,iv ac),(30,iv a5),(31,iv (w64 (a5 + 1))),(32,.slice a9 p0.length aa),(33,iv (p0.length:Int)),(34,.bool (decide ((w64 (a5 + 1)) < (p0.length:Int)))),(37,.slice a9 p0.length aa),(38,iv a5),(39,iv (w64 (a5 + 1))),(40,av),(41,.agg #[.int .u8 a6.Kind,.bool a6.Purl,iv a6.A,iv a6.B]),(42,.slice a9 p0.length aa),(43,iv a5),(44,aw),(45,.agg #[.int .u8 a0.Kind,.bool a0.Purl,iv a0.A,iv a0.B]),(46,.bool ((a6.Kind == a0.Kind) && ((a6.Purl == a0.Purl) && ((a6.A == a0.A) && ((a6.B == a0.B) && true))))),(47,.bool ((a6.Kind == a0.Kind) && ((a6.Purl == a0.Purl) && ((a6.A == a0.A) && ((a6.B == a0.B) && true)))))] (fin_of [none,none,none,none,some 7,some 8,some 9,some 10,some 11,some 14,some 15,some 16,some 17,some 18,some 19,some 20,some 21,some 22,some 23,some 24] d (by kernel_rfl) (by kernel_rfl)) (fun _ a w S=>?_)
 ·exact fM 0 none d d d d (.inl d) d d d
 ·exact fM 1 none d d d d (.inl d) d d d
 ·refine fJ [(23,_),(24,_)] 2 [some 0,some 1] fun G a w S=>?_
  exact sIdxV S (wN d) d d d bi d (lb d) fun a S=>leafL ⟨d,S⟩
 ·refine fJ [(25,_)] 3 [some 2] fun G a w S=>?_
  exact sFldV (q:=bh) S (wN d) d d bk d (lb d) fun a S=>leafL ⟨d,S⟩
 ·refine fJ [(26,_)] 4 [some 3] fun G a w S=>?_
  exact sLoadV1 (vq:=bj) 6 (.int .u8 a0.Kind) S (wN d) d d d d d (lb d) fun a S=>leafL ⟨d,S⟩
 ·refine fJ [(27,_)] 5 [some 4] fun G a w S=>?_
  exact sBin _ S (wN d) d d d (bEq _ _ _ _ .u8 a0.Kind 1) d (lb d) fun a S=>leafL ⟨d,S⟩
 ·exact fM 6 (some 5) d d d d (.inl d) d d d
 ·refine fJ [(4,_),(29,_)] 7 [none,some 6] fun G a w S=>?_
  exact sMove (iv a5) S (wG 6 true 29 d d d a8) (.inl d) d d (lb d) fun a S=>leafL ⟨d,S⟩
 ·refine fJ [(30,_),(29,_)] 8 [some 7,some 6] fun G a w S=>?_
  exact sBin _ S (wG 6 true 29 d d d a8) d d d (bAdd _ _ _ _ a5 1) d (lb d) fun a S=>leafL ⟨d,S⟩
 ·refine fJ [(0,_),(29,_)] 9 [none,some 6] fun G a w S=>?_
  exact sMove (.slice a9 p0.length aa) S (wG 6 true 29 d d d a8) (.inl d) d d (lb d) fun a S=>leafL ⟨d,S⟩
 ·refine fJ [(32,_),(29,_)] 10 [some 9,some 6] fun G a w S=>?_
  exact sLen S (wG 6 true 29 d d d a8) d Try.underlying47 d d (lb d) fun a S=>leafL ⟨d,S⟩
 ·refine fJ [(31,_),(33,_),(29,_)] 11 [some 8,some 10,some 6] fun G a w S=>?_
  exact sBin _ S (wG 6 true 29 d d d a8) d d d (bLt _ _ _ _ .i64 (w64 (a5 + 1)) (p0.length:Int)) d (lb d) fun a S=>leafL ⟨d,S⟩
 ·refine fJ [(29,_),(34,_)] 12 [some 6,some 11] fun G a w S=>?_
  exact sPickT (.bool (decide ((w64 (a5 + 1)) < (p0.length:Int)))) S (wN d) d d a8 d d (lb d) fun a S=>leafL ⟨d,S⟩
 ·exact fM 13 (some 12) d d d d (.inl d) d d d
 ·refine fJ [(0,_),(36,_)] 14 [none,some 13] fun G a w S=>?_
  exact sMove (.slice a9 p0.length aa) S (wG 13 true 36 d d d a7) (.inl d) d d (lb d) fun a S=>leafL ⟨d,S⟩
 ·refine fJ [(4,_),(36,_)] 15 [none,some 13] fun G a w S=>?_
  exact sMove (iv a5) S (wG 13 true 36 d d d a7) (.inl d) d d (lb d) fun a S=>leafL ⟨d,S⟩
 ·refine fJ [(38,_),(36,_)] 16 [some 15,some 13] fun G a w S=>?_
  exact sBin _ S (wG 13 true 36 d d d a7) d d d (bAdd _ _ _ _ a5 1) d (lb d) fun a S=>leafL ⟨d,S⟩
 ·refine fJ [(37,_),(39,_),(36,_)] 17 [some 14,some 16,some 13] fun G a w S=>?_
  exact sIdxV S (wG 13 true 36 d d d a7) d d d bl d (lb d) fun a S=>leafL ⟨d,S⟩
 ·refine fJ [(40,_),(36,_)] 18 [some 17,some 13] fun G a w S=>?_
  exact sLoadVN (vq:=av) 3 [.int .u8 a6.Kind,.bool a6.Purl,iv a6.A,iv a6.B] S (wG 13 true 36 d d d a7) d d d d d d (lb d) fun a S=>leafL ⟨d,S⟩
 ·refine fJ [(0,_),(36,_)] 19 [none,some 13] fun G a w S=>?_
  exact sMove (.slice a9 p0.length aa) S (wG 13 true 36 d d d a7) (.inl d) d d (lb d) fun a S=>leafL ⟨d,S⟩
 ·refine fJ [(4,_),(36,_)] 20 [none,some 13] fun G a w S=>?_
  exact sMove (iv a5) S (wG 13 true 36 d d d a7) (.inl d) d d (lb d) fun a S=>leafL ⟨d,S⟩
 ·refine fJ [(42,_),(43,_),(36,_)] 21 [some 19,some 20,some 13] fun G a w S=>?_
  exact sIdxV S (wG 13 true 36 d d d a7) d d d bm d (lb d) fun a S=>leafL ⟨d,S⟩
 ·refine fJ [(44,_),(36,_)] 22 [some 21,some 13] fun G a w S=>?_
  exact sLoadVN (vq:=aw) 0 [.int .u8 a0.Kind,.bool a0.Purl,iv a0.A,iv a0.B] S (wG 13 true 36 d d d a7) d d d d d d (lb d) fun a S=>leafL ⟨d,S⟩
 ·refine fJ [(41,_),(45,_),(36,_)] 23 [some 18,some 22,some 13] fun G a w S=>?_
  exact sBin _ S (wG 13 true 36 d d d a7) d d d (bEqV _ _ _ _ #[.int .u8 a6.Kind,.bool a6.Purl,iv a6.A,iv a6.B] #[.int .u8 a0.Kind,.bool a0.Purl,iv a0.A,iv a0.B] ((a6.Kind == a0.Kind) && ((a6.Purl == a0.Purl) && ((a6.A == a0.A) && ((a6.B == a0.B) && true)))) (by kernel_rfl) (eqlV_of (by kernel_rfl))) d (lb d) fun a S=>leafL ⟨d,S⟩
 ·refine fJ [(36,_),(46,_)] 24 [some 13,some 23] fun G a w S=>?_
  exact sPickT (.bool ((a6.Kind == a0.Kind) && ((a6.Purl == a0.Purl) && ((a6.A == a0.A) && ((a6.B == a0.B) && true))))) S (wN d) d d a7 d d (lb d) fun a S=>leafL ⟨d,S⟩
 exact leafT (⟨((a6.Kind == a0.Kind) && ((a6.Purl == a0.Purl) && ((a6.A == a0.A) && ((a6.B == a0.B) && true)))),Option.some.inj h,S.fix [] [10] (by decide) d d d⟩)
noncomputable def raddleref25_Parse_l1 (a5:(List ByteArray)):(List api_Stitch × Int)→Option ((List api_Stitch × Int) ⊕ (((List api_Stitch) × Int) ⊕ (List api_Stitch))):=fun s0=>match s0 with
 | (a6,a0)=>
  if decide (a0 < (a5.length:Int)) then
   (idxO a5 a0).bind fun a9=>
   (F_raddleref25_word a9).bind fun a7=>
   if !a7.2 then
    some (.inr (.inl (([]:(List api_Stitch)),12)))
   else
    (appO a6 a7.1).bind fun a8=>
    if decide (200 < (a8.length:Int)) then
     some (.inr (.inl (([]:(List api_Stitch)),12)))
    else
     some (.inl (a8,w64 (a0 + 1)))
  else
   some (.inr (.inr a6))
noncomputable def F_raddleref25_Parse (p0:ByteArray):Option ((List api_Stitch) × Int):=
 if decide (3000 < (p0.size:Int)) then
  some (([]:(List api_Stitch)),12)
 else
  if p0 == (⟨#[]⟩:ByteArray) then
   some (([]:(List api_Stitch)),0)
  else
   (F_raddleref25_Cut p0 32).bind fun a5=>
   Option.bind (α:=List api_Stitch ⊕ ((List api_Stitch) × Int)) (
    (whileO (raddleref25_Parse_l1 a5) (([]:List api_Stitch),0)).bind fun z0=>match z0 with
     | .inl z=>
      some (.inr z)
     | .inr a6=>
      some (.inl a6)) fun z0=>match z0 with
    | .inl a0=>
     Option.bind (α:=Bool) (
      (F_raddleref25_All a0).bind fun a7=>
      if a7 != 0 then
       some true
      else
       (F_raddleref25_Written a0).bind fun a8=>
       some (a8 != p0)) fun a9=>
     if a9 then
      some (([]:(List api_Stitch)),12)
     else
      some (a0,0)
    | .inr z=>
     some z
def c_raddleref25_Parse_val (r:((List api_Stitch) × Int)) (x:Value):Value:=.tuple #[x,.int .i64 r.2]
def c_raddleref25_Parse_D (r:((List api_Stitch) × Int)) (x:Value):List Fact:=[fRep (rL r_api_Stitch) x r.1]
theorem c_raddleref25_Parse (E:Nat→Prop) (w0:World) (p0:ByteArray) (r:((List api_Stitch) × Int)) (h:F_raddleref25_Parse p0=some r) (S:St0 E [] w0 w0 [] []) :
 Calls Try.prog 78 #[.string p0] w0 (Ret (X:=Value) E [] w0 (c_raddleref25_Parse_val r) (fun _=>[]) (c_raddleref25_Parse_D r)):=by
 unfold F_raddleref25_Parse at h
 refine sEnter (args:=[.string p0]) 48 Try.func78 d d (by simp) S (fun a S=>?_)
 refine sSeq (fun K1 bj=>sRegion (sN S fun a S=>?_))
 refine sN S fun a S=>?_
 refine lT (bj _ _ (sSeq (fun K2 bk=>sSeq (fun K3 bl=>sRegion (sM S fun a S=>?_)))))
 refine sLenS (v:=p0) S (wN d) d Try.underlying9 d d (lb d) fun a S=>sBin _ S (wN d) d d d (bGt _ _ _ _ .i64 (p0.size:Int) 3000) d (lb d) fun a S=>lT (bl _ _ ?_)
 rcases iS h with ⟨ar,h⟩ | ⟨ar,h⟩
 ·refine sCondT S d ar (sSeq (fun K5 bm=>sRegion (sN S fun a S=>?_)))
  refine sN S fun a S=>?_
  refine lT (bm _ _ ?_)
  obtain rfl:=tS h
  have S:=S.learn (fRep (rL r_api_Stitch) (.slice none 0 0) ([]:(List api_Stitch))) (rL_nil _ _ _)
  exact wp_ret (rThen (sRet (.tuple #[.slice none 0 0,iv 12]) S (rsl2 d (rvT (t:=2) (v:=.slice none 0 0) S d) (rvT (t:=3) (v:=iv 12) S d)) ⟨(.slice none 0 0),d,S.mem.sel [] [0] (by decide) d d⟩))
 refine sCondF S d ar (wp_skip (leafT (bk _ _ ?_)))
 refine sSeq (fun K6 bo=>sSeq (fun K7 bp=>sRegion (sM S fun a S=>?_)))
 refine sBin _ S (wN d) d d d (bEqS _ _ _ _ p0 (⟨#[]⟩:ByteArray)) d (lb d) fun a S=>lT (bp _ _ ?_)
 rcases iS h with ⟨au,h⟩ | ⟨au,h⟩
 ·refine sCondT S d au (sSeq (fun K9 bq=>sRegion (sN S fun a S=>?_)))
  refine sN S fun a S=>?_
  refine lT (bq _ _ ?_)
  obtain rfl:=tS h
  have S:=S.learn (fRep (rL r_api_Stitch) (.slice none 0 0) ([]:(List api_Stitch))) (rL_nil _ _ _)
  exact wp_ret (rThen (sRet (.tuple #[.slice none 0 0,iv 0]) S (rsl2 d (rvT (t:=2) (v:=.slice none 0 0) S d) (rvT (t:=3) (v:=iv 0) S d)) ⟨(.slice none 0 0),d,S.mem.sel [] [0] (by decide) d d⟩))
 refine sCondF S d au (wp_skip (leafT (bo _ _ ?_)))
 refine sSeq (fun bz av=>sRegion (sM S fun a S=>?_))
 obtain ⟨ab,aw,h⟩:=bS h
 refine sCall (X:=Value) (f:=94) (vs:=[.string p0,.int .u8 32]) (val:=c_raddleref25_Cut_val ab) (B':=fun _=>[]) (D':=c_raddleref25_Cut_D ab) [] [] [] [] [] S (wN d) d callee94 d (by decide) d d (fun E1 w1 S1=>c_raddleref25_Cut E1 w1 p0 32 ab aw S1) d (lb d) fun br a w S=>?_
 obtain ⟨ag,ah,_,rfl,_⟩:=S.mem.know (i:=0) (e:=fRep (rL rS) (br) ab) d
 refine sN S fun a S=>?_
 refine lT (av _ _ (sSeq (fun bA ax=>sRegion (sN S fun a S=>?_))))
 refine lT (ax _ _ ?_)
 obtain ⟨bu,h,ay⟩:=bS h
 refine sCut (fun a w=>∃ a6,.inl a6=bu∧∃ a0,∃ a5,St [] E [] w0 48 a w [(0,.string p0),(5,.slice a0 a6.length a5)] [eRow r_api_Stitch 81 (.slice a0 a6.length a5) a6] []) ?_ (fun a w hI=>?_)
 rotate_left
 ·obtain ⟨a6,rfl,a0,a5,S⟩:=hI
  have h:=ay
  try dsimp only at h
  refine sSeq (fun bB az=>?_)
  obtain ⟨bv,h,bw⟩:=bS h
  refine sCut (fun a w=>∃ aA,aA=bv∧St [] E [] w0 48 a w [(5,.slice a0 a6.length a5),(46,.bool aA)] [eRow r_api_Stitch 81 (.slice a0 a6.length a5) a6] []) ?_ (fun a w hI=>?_)
  rotate_left
  ·obtain ⟨aA,rfl,S⟩:=hI
   have h:=bw
   try dsimp only at h
   rcases iS h with ⟨ai,h⟩ | ⟨ai,h⟩
   ·refine sCondT S d ai (sSeq (fun bC aC=>sRegion (sN S fun a S=>?_)))
    refine sN S fun a S=>?_
    refine lT (aC _ _ ?_)
    obtain rfl:=tS h
    have S:=S.learn (fRep (rL r_api_Stitch) (.slice none 0 0) ([]:(List api_Stitch))) (rL_nil _ _ _)
    exact wp_ret (rThen (sRet (.tuple #[.slice none 0 0,iv 12]) S (rsl2 d (rvT (t:=2) (v:=.slice none 0 0) S d) (rvT (t:=3) (v:=iv 12) S d)) ⟨(.slice none 0 0),d,S.mem.sel [] [0] (by decide) d d⟩))
   refine sCondF S d ai (wp_skip (leafT (az _ _ ?_)))
   refine sSeq (fun bD aG=>sRegion (sM S fun a S=>?_))
   refine sN S fun a S=>?_
   refine sN S fun a S=>?_
   refine lT (aG _ _ ?_)
   obtain rfl:=tS h
   have S:=S.shutR (r:=r_api_Stitch) (T:=81) (v:=.slice a0 a6.length a5) (xs:=a6) 0 d
   exact wp_ret (sRet (.tuple #[.slice a0 a6.length a5,iv 0]) S (rsl2 d (rvT (t:=2) (v:=.slice a0 a6.length a5) S d) (rvT (t:=3) (v:=iv 0) S d)) ⟨(.slice a0 a6.length a5),d,S.mem.sel [] [0] (by decide) d d⟩)
  refine sRegion (sM S fun a S=>?_)
  obtain ⟨aH,aI,h⟩:=bS h
  have S1:=S.mem
  have S1:=S1.shutR (r:=r_api_Stitch) (T:=81) (v:=.slice a0 a6.length a5) (xs:=a6) 0 d
  refine sCq [.slice a0 a6.length a5] (iv aH) S callee38 (S1.quiet [0] d) (fun E1 w1 S1=>c_raddleref25_All E1 w1 a6 (.slice a0 a6.length a5) aH aI S1) fun a w S=>?_
  refine sBin _ S (wN d) d d d (bNe _ _ _ _ .i64 aH 0) d (lb d) fun a S=>sM S fun a S=>?_
  rcases iS h with ⟨a7,h⟩ | ⟨a7,h⟩
  ·refine sSkN 4 3 false 41 S d d a7 d fun a S=>sPickT (.bool true) S (wN d) d d a7 d d (lb d) fun a S=>?_
   exact lT (⟨true,Option.some.inj h,S.fix [0] [] (by decide) d d d⟩)
  refine sMove (.slice a0 a6.length a5) S (wG 3 false 41 d d d a7) (.inl d) d d (lb d) fun a S=>?_
  obtain ⟨aq,aJ,h⟩:=bS h
  have S1:=S.mem
  have S1:=S1.shutR (r:=r_api_Stitch) (T:=81) (v:=.slice a0 a6.length a5) (xs:=a6) 0 d
  refine sCallQ (X:=Unit) (f:=96) (vs:=[.slice a0 a6.length a5]) (val:=fun _=>.string aq) S (wG 3 false 41 d d d a7) d callee96 d (S1.quiet [0] d) (fun E1 w1 S1=>c_raddleref25_Written E1 w1 a6 (.slice a0 a6.length a5) aq aJ S1) d (lb d) fun _ a w S=>?_
  refine sMove (.string p0) S (wG 3 false 41 d d d a7) (.inl d) d d (lb d) fun a S=>sBin _ S (wG 3 false 41 d d d a7) d d d (bNeS _ _ _ _ aq p0) d (lb d) fun a S=>sPickF (.bool (aq != p0)) S (wN d) d d a7 d d (lb d) fun a S=>?_
  exact lT (⟨aq != p0,Option.some.inj h,S.fix [0] [] (by decide) d d d⟩)
 refine sSeq (fun bE aK=>sRegion (sN S fun a S=>?_))
 refine lT (aK _ _ (wp_block ?_))
 have S:=S.nilRow r_api_Stitch 81 (α:=api_Stitch)
 obtain ⟨bG,hl,aL⟩:=bS h
 refine sLoop hl (fun s0 a w=>match s0 with | (ac,ao)=>∃ a8,∃ a9,St [] E [] w0 48 a w [(0,.string p0),(4,.slice ag ab.length ah),(5,.slice a8 ac.length a9),(6,iv ao)] [eRow r_api_Stitch 81 (.slice a8 ac.length a9) ac] [fRep (rL rS) (.slice ag ab.length ah) ab]) ⟨none,0,S.fix [0] [0] (by decide) d d d⟩ ?_
 clear hl h
 intro s0 a w c0 hI h aj
 obtain ⟨ac,ao⟩:=s0
 unfold raddleref25_Parse_l1 at h
 dsimp only at h hI
 obtain ⟨a8,a9,S⟩:=hI
 refine sSeq (fun bH aM=>sSeq (fun bI aO=>sRegion (sM S fun a S=>?_)))
 refine sM S fun a S=>?_
 refine sLen S (wN d) d Try.underlying142 d d (lb d) fun a S=>sBin _ S (wN d) d d d (bLt _ _ _ _ .i64 ao (ab.length:Int)) d (lb d) fun a S=>lT (aO _ _ ?_)
 rcases iS h with ⟨ak,h⟩ | ⟨ak,h⟩
 rotate_left
 ·refine sCondF S d ak ?_
  obtain rfl:=tS h
  obtain rfl:=aj _ d
  have h:=aL
  try dsimp only at h
  exact wp_exit (xThen (xThen (xHit (leafT (⟨ac,Option.some.inj h,a8,a9,S.fix [0] [] (by decide) d d d⟩)))))
 refine sCondT S d ak (wp_skip (leafT (aM _ _ ?_)))
 refine sSeq (fun bJ aP=>wp_block ?_)
 refine sSeq (fun bK aQ=>sRegion (sM S fun a S=>?_))
 refine sM S fun a S=>?_
 obtain ⟨ap,aR,h⟩:=bS h
 obtain ⟨bg,aS,S⟩:=pIdx (P:=Try.prog) (r:=rS) (v:=.slice ag ab.length ah) (xs:=ab) (j:=ao) 142 9 0 S Try.underlying142 d d aR
 refine sIdxV S (wN d) d d d aS d (lb d) fun a S=>?_
 obtain ⟨bh,S⟩:=pLoad (r:=rS) (q:=bg) (x:=ap) 0 S d
 obtain rfl:bh=.string ap:=S.mem.know (i:=1) (e:=fRep rS (bh) ap) d
 refine sLoadV1 (vq:=bg) 0 (.string ap) S (wN d) d d d d d (lb d) fun a S=>?_
 obtain ⟨aa,aT,h⟩:=bS h
 refine sCall (X:=Value) (f:=95) (vs:=[.string ap]) (val:=c_raddleref25_word_val aa) (B':=fun _=>[]) (D':=c_raddleref25_word_D aa) [] [eRow r_api_Stitch 81 (.slice a8 ac.length a9) ac] [] [0] [] S (wN d) d callee95 d (by decide) d d (fun E1 w1 S1=>c_raddleref25_word E1 w1 ap aa aT S1) d (lb d) fun bx a w S=>?_
 obtain ⟨ae,af,_,rfl,_⟩:=S.mem.know (i:=0) (e:=fRep (rL r_api_Stitch) (bx) aa.1) d
 refine sM S fun a S=>?_
 refine sExtract (vs:=[.slice ae aa.1.length af,.bool aa.2]) (.slice ae aa.1.length af) S (wN d) d d d d (lb d) fun a S=>sExtract (vs:=[.slice ae aa.1.length af,.bool aa.2]) (.bool aa.2) S (wN d) d d d d (lb d) fun a S=>sN S fun a S=>?_
 refine sN S fun a S=>?_
 refine lT (aQ _ _ (sSeq (fun bL aU=>sSeq (fun bM aV=>sRegion (sM S fun a S=>?_)))))
 refine sNot (b:=aa.2) S (wN d) d d d (lb d) fun a S=>lT (aV _ _ ?_)
 rcases iS h with ⟨al,h⟩ | ⟨al,h⟩
 ·refine sCondT S d al (sSeq (fun bN aW=>sRegion (sN S fun a S=>?_)))
  refine sN S fun a S=>?_
  refine lT (aW _ _ ?_)
  obtain rfl:=tS h
  obtain rfl:=aj _ d
  have h:=aL
  try dsimp only at h
  obtain rfl:=tS h
  have h:=ay
  try dsimp only at h
  obtain rfl:=tS h
  have S:=S.learn (fRep (rL r_api_Stitch) (.slice none 0 0) ([]:(List api_Stitch))) (rL_nil _ _ _)
  exact wp_ret (rThen (rBlock (rThen (rThen (rBlock (rThen (sRet (.tuple #[.slice none 0 0,iv 12]) S (rsl2 d (rvT (t:=2) (v:=.slice none 0 0) S d) (rvT (t:=3) (v:=iv 12) S d)) ⟨(.slice none 0 0),d,S.mem.sel [] [0] (by decide) d d⟩)))))))
 refine sCondF S d al (wp_skip (leafT (aU _ _ ?_)))
 refine sSeq (fun bO aX=>sRegion (sM S fun a S=>?_))
 refine sM S fun a S=>?_
 obtain ⟨bi,aZ,h⟩:=bS h
 refine sApp (r:=r_api_Stitch) (T:=81) (xs:=ac) (ys:=aa.1) (v:=.slice a8 ac.length a9) (u:=.slice ae aa.1.length af) 0 (.agg #[.int .u8 0,.bool false,iv 0,iv 0]) 24 S (wN d) d Try.underlying47 d d (by decide) d d d (src_D 0 S.mem d) aZ d (lb d) fun a w ba bb S=>sN S fun a S=>?_
 refine lT (aX _ _ (sSeq (fun bP bc=>sRegion (sM S fun a S=>?_))))
 refine sLen S (wN d) d Try.underlying47 d d (lb d) fun a S=>sBin _ S (wN d) d d d (bGt _ _ _ _ .i64 (bi.length:Int) 200) d (lb d) fun a S=>lT (bc _ _ ?_)
 rcases iS h with ⟨am,h⟩ | ⟨am,h⟩
 rotate_left
 ·refine sCondF S d am (wp_skip (leafB (leafT (aP _ _ ?_))))
  refine sRegion (sM S fun a S=>?_)
  refine sBin _ S (wN d) d d d (bAdd _ _ _ _ ao 1) d (lb d) fun a S=>sN S fun a S=>?_
  exact lT (⟨(bi,w64 (ao + 1)),(Option.some.inj h).symm,⟨ba,bb,S.fix [0] [4] (by decide) d d d⟩⟩)
 refine sCondT S d am (sSeq (fun bQ bf=>sRegion (sN S fun a S=>?_)))
 refine sN S fun a S=>?_
 refine lT (bf _ _ ?_)
 obtain rfl:=tS h
 obtain rfl:=aj _ d
 have h:=aL
 try dsimp only at h
 obtain rfl:=tS h
 have h:=ay
 try dsimp only at h
 obtain rfl:=tS h
 have S:=S.learn (fRep (rL r_api_Stitch) (.slice none 0 0) ([]:(List api_Stitch))) (rL_nil _ _ _)
 exact wp_ret (rBlock (rThen (rThen (rBlock (rThen (sRet (.tuple #[.slice none 0 0,iv 12]) S (rsl2 d (rvT (t:=2) (v:=.slice none 0 0) S d) (rvT (t:=3) (v:=iv 12) S d)) ⟨(.slice none 0 0),d,S.mem.sel [] [0] (by decide) d d⟩))))))
noncomputable def F_raddlelaw46_cells (p0:ByteArray):Option (List api_Stitch):=
 (F_raddleref25_Parse p0).bind fun r3=>
 some r3.1
def c_raddlelaw46_cells_val (r:(List api_Stitch)) (x:Value):Value:=x
def c_raddlelaw46_cells_D (r:(List api_Stitch)) (x:Value):List Fact:=[fRep (rL r_api_Stitch) x r]
theorem c_raddlelaw46_cells (E:Nat→Prop) (w0:World) (p0:ByteArray) (r:(List api_Stitch)) (h:F_raddlelaw46_cells p0=some r) (S:St0 E [] w0 w0 [] []) :
 Calls Try.prog 42 #[.string p0] w0 (Ret (X:=Value) E [] w0 (c_raddlelaw46_cells_val r) (fun _=>[]) (c_raddlelaw46_cells_D r)):=by
 unfold F_raddlelaw46_cells at h
 refine sEnter (args:=[.string p0]) 11 Try.func42 d d (by simp) S (fun a S=>?_)
 refine sSeq (fun K1 a6=>sRegion (sN S fun a S=>?_))
 refine lT (a6 _ _ (sSeq (fun K2 a7=>sRegion (sM S fun a S=>?_))))
 obtain ⟨r3,a8,h⟩:=bS h
 refine sCall (X:=Value) (f:=78) (vs:=[.string p0]) (val:=c_raddleref25_Parse_val r3) (B':=fun _=>[]) (D':=c_raddleref25_Parse_D r3) [] [] [] [] [] S (wN d) d callee78 d (by decide) d d (fun E1 w1 S1=>c_raddleref25_Parse E1 w1 p0 r3 a8 S1) d (lb d) fun u5 a w S=>?_
 obtain ⟨a0,a5,_,rfl,_⟩:=S.mem.know (i:=0) (e:=fRep (rL r_api_Stitch) (u5) r3.1) d
 refine sM S fun a S=>?_
 refine sExtract (vs:=[.slice a0 r3.1.length a5,iv r3.2]) (.slice a0 r3.1.length a5) S (wN d) d d d d (lb d) fun a S=>sExtract (vs:=[.slice a0 r3.1.length a5,iv r3.2]) (iv r3.2) S (wN d) d d d d (lb d) fun a S=>sN S fun a S=>?_
 refine sN S fun a S=>?_
 refine lT (a7 _ _ (sSeq (fun K8 a9=>sRegion (sM S fun a S=>?_))))
 refine sN S fun a S=>?_
 refine lT (a9 _ _ ?_)
 obtain rfl:=tS h
 exact wp_ret (sRet (.slice a0 r3.1.length a5) S (rsl1 d (rvT (t:=2) (v:=.slice a0 r3.1.length a5) S d)) ⟨(.slice a0 r3.1.length a5),d,S.mem.sel [] [0] (by decide) d d⟩)
noncomputable def raddleref26_Written_l1 (p0:api_Chart):(ByteArray × Int)→Option ((ByteArray × Int) ⊕ ((ByteArray × Bool) ⊕ ByteArray)):=fun s0=>match s0 with
 | (a6,a0)=>
  if decide (a0 < (p0.Rows.length:Int)) then
   (idxO p0.Rows a0).bind fun a7=>
   (F_raddleref25_Written a7.Cells).bind fun a5=>
   if decide (3000 < (a5.size:Int)) then
    some (.inr (.inl ((⟨#[]⟩:ByteArray),false)))
   else
    (F_raddleref26_side a7.Back).bind fun a9=>
    (addS a6 a9).bind fun a8=>
    Option.bind (α:=ByteArray) (
     if a5 != (⟨#[]⟩:ByteArray) then
      (addS a8 (⟨#[32]⟩:ByteArray)).bind fun aa=>
      (addS aa a5).bind fun ab=>
      some ab
     else
      some a8) fun ac=>
    (addS ac (⟨#[10]⟩:ByteArray)).bind fun ae=>
    some (.inl (ae,w64 (a0 + 1)))
  else
   some (.inr (.inr a6))
noncomputable def F_raddleref26_Written (p0:api_Chart):Option (ByteArray × Bool):=
 (F_raddleref25_Decimal p0.Start).bind fun r8=>
 (addS (⟨#[115,116,97,114,116,32]⟩:ByteArray) r8).bind fun a0=>
 (addS a0 (⟨#[10]⟩:ByteArray)).bind fun a5=>
 Option.bind (α:=ByteArray ⊕ (ByteArray × Bool)) (
  (whileO (raddleref26_Written_l1 p0) (a5,0)).bind fun z0=>match z0 with
   | .inl z=>
    some (.inr z)
   | .inr a6=>
    some (.inl a6)) fun z0=>match z0 with
  | .inl a7=>
   some (a7,true)
  | .inr z=>
   some z
theorem c_raddleref26_Written (E:Nat→Prop) (w0:World) (p0:api_Chart) (v0:Value) (r:(ByteArray × Bool)) (h:F_raddleref26_Written p0=some r) (S:St0 E [] w0 w0 [] [fRep r_api_Chart (v0) p0]) :
 Calls Try.prog 98 #[v0] w0 (Ret (X:=Unit) E [] w0 (fun _=>.tuple #[.string r.1,.bool r.2]) (fun _=>[]) (fun _=>[])):=by
 unfold F_raddleref26_Written at h
 obtain ⟨u1,rfl,aQ⟩:=S.know (i:=0) (e:=fRep r_api_Chart (v0) p0) d
 have S:=S.learn (fRep (rL r_api_Row) u1 p0.Rows) aQ
 obtain ⟨a5,a6,_,rfl,_⟩:=aQ
 refine sEnter (args:=[.agg #[iv p0.Start,.slice a5 p0.Rows.length a6]]) 47 Try.func98 d d (by simp) S (fun a S=>?_)
 refine sSeq (fun K5 ba=>sRegion (sBox (v:=.agg #[iv p0.Start,.slice a5 p0.Rows.length a6]) S (wN d) d d [iv p0.Start,.slice a5 p0.Rows.length a6] d d (lb d) fun a b6 w S=>sN S fun a S=>?_))
 refine sN S fun a S=>?_
 refine lT (ba _ _ (sSeq (fun K7 bb=>sRegion (sField (b:=b6) (off:=0) 0 0 S (wN d) d d d d d (lb d) fun a S=>sLoad1 0 (iv p0.Start) S (wN d) d d d d d d (lb d) fun a S=>?_))))
 obtain ⟨r8,bc,h⟩:=bS h
 have S1:=S.mem
 refine sCq [iv p0.Start] (.string r8) S callee108 (S1.quiet [] d) (fun E1 w1 S1=>c_raddleref25_Decimal E1 w1 p0.Start r8 bc S1) fun a w S=>?_
 obtain ⟨bf,ak,h⟩:=bS h
 refine sBin _ S (wN d) d d d (bAddS _ _ _ _ (x:=(⟨#[115,116,97,114,116,32]⟩:ByteArray)) (y:=r8) ak) d (lb d) fun a S=>?_
 obtain ⟨bo,al,h⟩:=bS h
 refine sBin _ S (wN d) d d d (bAddS _ _ _ _ (x:=bf) (y:=(⟨#[10]⟩:ByteArray)) al) d (lb d) fun a S=>sN S fun a S=>?_
 refine lT (bb _ _ ?_)
 obtain ⟨bg,h,aR⟩:=bS h
 refine sCut (fun a w=>∃ af,.inl af=bg∧St [] E [] w0 47 a w [(4,.string af)] [] []) ?_ (fun a w hI=>?_)
 rotate_left
 ·obtain ⟨af,rfl,S⟩:=hI
  have h:=aR
  try dsimp only at h
  refine sSeq (fun bp am=>sRegion (sM S fun a S=>?_))
  refine sN S fun a S=>?_
  refine sN S fun a S=>?_
  refine lT (am _ _ ?_)
  obtain rfl:=tS h
  exact wp_ret (sRet (.tuple #[.string af,.bool true]) S (rsl2 d (rvT (t:=2) (v:=.string af) S d) (rvT (t:=3) (v:=.bool true) S d)) ⟨(),d,S.mem.sel [] [] (by decide) d d⟩)
 refine sSeq (fun bq ao=>sRegion (sN S fun a S=>?_))
 refine lT (ao _ _ (wp_block ?_))
 obtain ⟨br,hl,aS⟩:=bS h
 refine sLoop hl (fun s0 a w=>match s0 with | (ai,a7)=>St [] E [] w0 47 a w [(1,.pointer (some ⟨b6,0,none⟩)),(4,.string ai),(5,iv a7)] [eBox b6 42 [iv p0.Start,.slice a5 p0.Rows.length a6]] [fRep (rL r_api_Row) (.slice a5 p0.Rows.length a6) p0.Rows]) (S.fix [0] [0] (by decide) d d d) ?_
 clear hl h
 intro s0 a w c0 hI h ag
 obtain ⟨ai,a7⟩:=s0
 unfold raddleref26_Written_l1 at h
 dsimp only at h hI
 have S:=hI
 refine sSeq (fun bu ap=>sSeq (fun bv aq=>sRegion (sM S fun a S=>?_)))
 refine sField (b:=b6) (off:=0) 1 1 S (wN d) d d d d d (lb d) fun a S=>sLoad1 0 (.slice a5 p0.Rows.length a6) S (wN d) d d d d d d (lb d) fun a S=>sLen S (wN d) d Try.underlying40 d d (lb d) fun a S=>sBin _ S (wN d) d d d (bLt _ _ _ _ .i64 a7 (p0.Rows.length:Int)) d (lb d) fun a S=>lT (aq _ _ ?_)
 rcases iS h with ⟨a8,h⟩ | ⟨a8,h⟩
 rotate_left
 ·refine sCondF S d a8 ?_
  obtain rfl:=tS h
  obtain rfl:=ag _ d
  have h:=aS
  try dsimp only at h
  exact wp_exit (xThen (xThen (xHit (leafT (⟨ai,Option.some.inj h,S.fix [] [] (by decide) d d d⟩)))))
 refine sCondT S d a8 (wp_skip (leafT (ap _ _ ?_)))
 refine sSeq (fun bw ar=>wp_block ?_)
 refine sSeq (fun bx au=>sRegion (sField (b:=b6) (off:=0) 1 1 S (wN d) d d d d d (lb d) fun a S=>sLoad1 0 (.slice a5 p0.Rows.length a6) S (wN d) d d d d d d (lb d) fun a S=>sM S fun a S=>?_))
 obtain ⟨a0,ah,h⟩:=bS h
 obtain ⟨aT,av,S⟩:=pIdx (P:=Try.prog) (r:=r_api_Row) (v:=.slice a5 p0.Rows.length a6) (xs:=p0.Rows) (j:=a7) 40 87 0 S Try.underlying40 d d ah
 refine sIdxV S (wN d) d d d av d (lb d) fun a S=>?_
 obtain ⟨aU,aw,S⟩:=pFld (P:=Try.prog) (r:=r_api_Row) (s2:=(rL r_api_Stitch)) (g:=(·.Cells)) (q:=aT) (z:=a0) 87 1 0 1 S d d comp_api_Row_Cells
 refine sFldV (q:=aT) S (wN d) d d aw d (lb d) fun a S=>?_
 obtain ⟨bh,S⟩:=pLoad (r:=(rL r_api_Stitch)) (q:=aU) (x:=a0.Cells) 0 S d
 obtain ⟨a9,aa,_,rfl,_⟩:=S.mem.know (i:=1) (e:=fRep (rL r_api_Stitch) (bh) a0.Cells) d
 refine sLoadV1 (vq:=aU) 0 (.slice a9 a0.Cells.length aa) S (wN d) d d d d d (lb d) fun a S=>?_
 obtain ⟨ae,ax,h⟩:=bS h
 have S1:=S.mem
 refine sCq [.slice a9 a0.Cells.length aa] (.string ae) S callee96 (S1.quiet [1] d) (fun E1 w1 S1=>c_raddleref25_Written E1 w1 a0.Cells (.slice a9 a0.Cells.length aa) ae ax S1) fun a w S=>?_
 refine sN S fun a S=>?_
 refine lT (au _ _ (sSeq (fun bz ay=>sSeq (fun bA az=>sRegion (sM S fun a S=>?_)))))
 refine sLenS (v:=ae) S (wN d) d Try.underlying9 d d (lb d) fun a S=>sBin _ S (wN d) d d d (bGt _ _ _ _ .i64 (ae.size:Int) 3000) d (lb d) fun a S=>lT (az _ _ ?_)
 rcases iS h with ⟨ab,h⟩ | ⟨ab,h⟩
 ·refine sCondT S d ab (sSeq (fun bB aA=>sRegion (sN S fun a S=>?_)))
  refine sN S fun a S=>?_
  refine lT (aA _ _ ?_)
  obtain rfl:=tS h
  obtain rfl:=ag _ d
  have h:=aS
  try dsimp only at h
  obtain rfl:=tS h
  have h:=aR
  try dsimp only at h
  obtain rfl:=tS h
  exact wp_ret (rThen (rBlock (rThen (rThen (rBlock (rThen (sRet (.tuple #[.string (⟨#[]⟩:ByteArray),.bool false]) S (rsl2 d (rvT (t:=2) (v:=.string (⟨#[]⟩:ByteArray)) S d) (rvT (t:=3) (v:=.bool false) S d)) ⟨(),d,S.mem.sel [] [] (by decide) d d⟩)))))))
 refine sCondF S d ab (wp_skip (leafT (ay _ _ ?_)))
 refine sSeq (fun bC aC=>sRegion (sM S fun a S=>?_))
 refine sField (b:=b6) (off:=0) 1 1 S (wN d) d d d d d (lb d) fun a S=>sLoad1 0 (.slice a5 p0.Rows.length a6) S (wN d) d d d d d d (lb d) fun a S=>sM S fun a S=>?_
 obtain ⟨aV,aG,S⟩:=pIdx (P:=Try.prog) (r:=r_api_Row) (v:=.slice a5 p0.Rows.length a6) (xs:=p0.Rows) (j:=a7) 40 87 4 S Try.underlying40 d d ah
 refine sIdxV S (wN d) d d d aG d (lb d) fun a S=>?_
 obtain ⟨aW,aH,S⟩:=pFld (P:=Try.prog) (r:=r_api_Row) (s2:=rB) (g:=(·.Back)) (q:=aV) (z:=a0) 87 0 0 0 S d d comp_api_Row_Back
 refine sFldV (q:=aV) S (wN d) d d aH d (lb d) fun a S=>?_
 obtain ⟨aX,S⟩:=pLoad (r:=rB) (q:=aW) (x:=a0.Back) 0 S d
 obtain rfl:aX=.bool a0.Back:=S.mem.know (i:=1) (e:=fRep rB (aX) a0.Back) d
 refine sLoadV1 (vq:=aW) 0 (.bool a0.Back) S (wN d) d d d d d (lb d) fun a S=>?_
 obtain ⟨aI,aJ,h⟩:=bS h
 have S1:=S.mem
 refine sCq [.bool a0.Back] (.string aI) S callee109 (S1.quiet [] d) (fun E1 w1 S1=>c_raddleref26_side E1 w1 a0.Back aI aJ S1) fun a w S=>?_
 obtain ⟨aZ,aK,h⟩:=bS h
 refine sBin _ S (wN d) d d d (bAddS _ _ _ _ (x:=ai) (y:=aI) aK) d (lb d) fun a S=>sN S fun a S=>?_
 refine lT (aC _ _ ?_)
 obtain ⟨bi,h,bj⟩:=bS h
 refine sCut (fun a w=>∃ aj,aj=bi∧St [] E [] w0 47 a w [(1,.pointer (some ⟨b6,0,none⟩)),(4,.string aj),(5,iv a7)] [eBox b6 42 [iv p0.Start,.slice a5 p0.Rows.length a6]] [fRep (rL r_api_Row) (.slice a5 p0.Rows.length a6) p0.Rows]) ?_ (fun a w hI=>?_)
 rotate_left
 ·obtain ⟨aj,rfl,S⟩:=hI
  have h:=bj
  try dsimp only at h
  refine sRegion (sM S fun a S=>?_)
  obtain ⟨bk,aL,h⟩:=bS h
  refine sBin _ S (wN d) d d d (bAddS _ _ _ _ (x:=aj) (y:=(⟨#[10]⟩:ByteArray)) aL) d (lb d) fun a S=>sN S fun a S=>?_
  refine leafL (leafB (leafT (ar _ _ ?_)))
  refine sRegion (sM S fun a S=>?_)
  refine sBin _ S (wN d) d d d (bAdd _ _ _ _ a7 1) d (lb d) fun a S=>sN S fun a S=>?_
  exact lT (⟨(bk,w64 (a7 + 1)),(Option.some.inj h).symm,(S.fix [0] [0] (by decide) d d d)⟩)
 refine sSeq (fun bD aM=>sRegion (sM S fun a S=>?_))
 refine sBin _ S (wN d) d d d (bNeS _ _ _ _ ae (⟨#[]⟩:ByteArray)) d (lb d) fun a S=>lT (aM _ _ ?_)
 rcases iS h with ⟨ac,h⟩ | ⟨ac,h⟩
 rotate_left
 ·refine sCondF S d ac ?_
  exact wp_skip (leafT (⟨aZ,Option.some.inj h,S.fix [0] [8] (by decide) d d d⟩))
 refine sCondT S d ac (sRegion (sM S fun a S=>?_))
 obtain ⟨bl,aO,h⟩:=bS h
 refine sBin _ S (wN d) d d d (bAddS _ _ _ _ (x:=aZ) (y:=(⟨#[32]⟩:ByteArray)) aO) d (lb d) fun a S=>sM S fun a S=>?_
 obtain ⟨bm,aP,h⟩:=bS h
 refine sBin _ S (wN d) d d d (bAddS _ _ _ _ (x:=bl) (y:=ae) aP) d (lb d) fun a S=>sN S fun a S=>?_
 exact lT (⟨bm,Option.some.inj h,S.fix [0] [8] (by decide) d d d⟩)
noncomputable def raddleref26_Parse_l1 (r8:(List ByteArray)) (a6:Int):Int→Option (Int ⊕ Int):=fun s0=>match s0 with
 | a0=>
  Option.bind (α:=Bool) (
   (idxO r8 a6).bind fun a5=>
   if decide (a0 < (a5.size:Int)) then
    (idxS a5 a0).bind fun a7=>
    some (a7 != 32)
   else
    some false) fun a8=>
  if a8 then
   some (.inl (w64 (a0 + 1)))
  else
   some (.inr a0)
noncomputable def raddleref26_Parse_l2 (r8:(List ByteArray)):(Int × List api_Row)→Option ((Int × List api_Row) ⊕ ((api_Chart × Int) ⊕ (List api_Row))):=fun s0=>match s0 with
 | (a5,af)=>
  if decide ((w64 (a5 + 1)) < (r8.length:Int)) then
   Option.bind (α:=List api_Row ⊕ (api_Chart × Int)) (
    Option.bind (α:=Int) (
     (whileO (raddleref26_Parse_l1 r8 a5) 0).bind fun ag=>
      some ag) fun a8=>
    Option.bind (α:=Bool) (
     (idxO r8 a5).bind fun a9=>
     (sliceS a9 0 a8).bind fun a6=>
     if a6 != (⟨#[102,114,111,110,116]⟩:ByteArray) then
      some (a6 != (⟨#[98,97,99,107]⟩:ByteArray))
     else
      some false) fun ah=>
    if ah then
     some (.inr ((api_Chart.mk 0 ([]:(List api_Row))),12))
    else
     (idxO r8 a5).bind fun a0=>
     (sliceS a0 0 a8).bind fun aa=>
     Option.bind (α:=List api_Stitch ⊕ (api_Chart × Int)) (
      if decide (a8 < (a0.size:Int)) then
       (sliceS a0 (w64 (a8 + 1)) (a0.size:Int)).bind fun ab=>
       (F_raddleref25_Parse ab).bind fun a7=>
       if a7.2 != 0 then
        some (.inr ((api_Chart.mk 0 ([]:(List api_Row))),12))
       else
        some (.inl a7.1)
      else
       some (.inl ([]:List api_Stitch))) fun z0=>match z0 with
      | .inl ac=>
       (appO af [(api_Row.mk (aa == (⟨#[98,97,99,107]⟩:ByteArray)) ac)]).bind fun ae=>
       some (.inl ae)
      | .inr z=>
       some (.inr z)) fun z0=>match z0 with
    | .inl ai=>
     some (.inl (w64 (a5 + 1),ai))
    | .inr z=>
     some (.inr (.inl z))
  else
   some (.inr (.inr af))
noncomputable def F_raddleref26_Parse (p0:ByteArray):Option (api_Chart × Int):=
 if decide (20000 < (p0.size:Int)) then
  some ((api_Chart.mk 0 ([]:(List api_Row))),12)
 else
  (F_raddleref25_Cut p0 10).bind fun r8=>
  Option.bind (α:=Bool) (
   if decide ((r8.length:Int) < 2) then
    some true
   else
    if decide (100 < (w64 ((r8.length:Int) - 2))) then
     some true
    else
     (idxO r8 0).bind fun a9=>
     if decide ((a9.size:Int) < 7) then
      some true
     else
      (sliceS a9 0 6).bind fun ab=>
      some (ab != (⟨#[115,116,97,114,116,32]⟩:ByteArray))) fun ac=>
  if ac then
   some ((api_Chart.mk 0 ([]:(List api_Row))),12)
  else
   (idxO r8 0).bind fun aa=>
   (sliceS aa 6 (aa.size:Int)).bind fun ae=>
   (F_raddleref25_Number ae).bind fun a5=>
   if !a5.2 then
    some ((api_Chart.mk 0 ([]:(List api_Row))),12)
   else
    Option.bind (α:=List api_Row ⊕ (api_Chart × Int)) (
     (whileO (raddleref26_Parse_l2 r8) (1,([]:List api_Row))).bind fun z0=>match z0 with
      | .inl z=>
       some (.inr z)
      | .inr af=>
       some (.inl af)) fun z0=>match z0 with
     | .inl a6=>
      (F_raddleref26_Check (api_Chart.mk a5.1 a6)).bind fun a7=>
      if a7 != 0 then
       some ((api_Chart.mk 0 ([]:(List api_Row))),12)
      else
       (F_raddleref26_Written (api_Chart.mk a5.1 a6)).bind fun a0=>
       Option.bind (α:=Bool) (
        if !a0.2 then
         some true
        else
         some (a0.1 != p0)) fun a8=>
       if a8 then
        some ((api_Chart.mk 0 ([]:(List api_Row))),12)
       else
        some ((api_Chart.mk a5.1 a6),0)
     | .inr z=>
      some z
def c_raddleref26_Parse_val (r:(api_Chart × Int)) (x:Value):Value:=.tuple #[x,.int .i64 r.2]
def c_raddleref26_Parse_D (r:(api_Chart × Int)) (x:Value):List Fact:=[fRep r_api_Chart x r.1]
theorem c_raddleref26_Parse (E:Nat→Prop) (w0:World) (p0:ByteArray) (r:(api_Chart × Int)) (h:F_raddleref26_Parse p0=some r) (S:St0 E [] w0 w0 [] []) :
 Calls Try.prog 79 #[.string p0] w0 (Ret (X:=Value) E [] w0 (c_raddleref26_Parse_val r) (fun _=>[]) (c_raddleref26_Parse_D r)):=by
 unfold F_raddleref26_Parse at h
 refine sEnter (args:=[.string p0]) 155 Try.func79 d d (by simp) S (fun a S=>?_)
 refine sSeq (fun K1 d7=>sRegion (sAlloc (.agg #[iv 0,.slice none 0 0]) S (wN d) d d [iv 0,.slice none 0 0] d d (lb d) fun a b2 w S=>sN S fun a S=>?_))
 refine lT (d7 _ _ (sSeq (fun K3 d8=>sSeq (fun K4 d9=>sRegion (sM S fun a S=>?_)))))
 refine sLenS (v:=p0) S (wN d) d Try.underlying9 d d (lb d) fun a S=>sBin _ S (wN d) d d d (bGt _ _ _ _ .i64 (p0.size:Int) 20000) d (lb d) fun a S=>lT (d9 _ _ ?_)
 rcases iS h with ⟨cd,h⟩ | ⟨cd,h⟩
 ·refine sCondT S d cd (sSeq (fun K6 da=>sRegion (sBuild [] [iv 0,.slice none 0 0] S (wN d) d d d d (lb d) fun a S=>sStore (p:=b2) (off:=0) (T:=42) (vs:=[iv 0,.slice none 0 0]) (v:=.agg #[iv 0,.slice none 0 0]) 0 [iv 0,.slice none 0 0] S (wN d) d d d d d d d (by simp) d fun a w S=>sN S fun a S=>?_)))
  refine lT (da _ _ ?_)
  obtain rfl:=tS h
  have S:=S.learn (fRep (rL r_api_Row) (.slice none 0 0) ([]:(List api_Row))) (rL_nil _ _ _)
  have S:=S.learn (fRep r_api_Chart (.agg #[iv 0,.slice none 0 0]) (api_Chart.mk 0 ([]:(List api_Row)))) ⟨_,d,S.mem.know (i:=0) (e:=fRep (rL r_api_Row) (.slice none 0 0) ([]:(List api_Row))) d⟩
  exact wp_ret (rThen (sRet (.tuple #[.agg #[iv 0,.slice none 0 0],iv 12]) S (rsl2 d (rvN (c:=2) (t:=42) (T:=42) (p:=b2) 0 [iv 0,.slice none 0 0] S d d d d) (rvT (t:=3) (v:=iv 12) S d)) ⟨(.agg #[iv 0,.slice none 0 0]),d,S.mem.sel [] [0] (by decide) d d⟩))
 refine sCondF S d cd (wp_skip (leafT (d8 _ _ ?_)))
 refine sSeq (fun K7 db=>sRegion (sM S fun a S=>?_))
 obtain ⟨r8,dc,h⟩:=bS h
 refine sCall (X:=Value) (f:=94) (vs:=[.string p0,.int .u8 10]) (val:=c_raddleref25_Cut_val r8) (B':=fun _=>[]) (D':=c_raddleref25_Cut_D r8) [] [eBox b2 42 [iv 0,.slice none 0 0]] [] [0] [] S (wN d) d callee94 d (by decide) d d (fun E1 w1 S1=>c_raddleref25_Cut E1 w1 p0 10 r8 dc S1) d (lb d) fun de a w S=>?_
 obtain ⟨a0,a5,_,rfl,_⟩:=S.mem.know (i:=0) (e:=fRep (rL rS) (de) r8) d
 refine sN S fun a S=>?_
 refine lT (db _ _ (sSeq (fun dK ce=>?_)))
 obtain ⟨df,h,dg⟩:=bS h
 refine sCut (fun a w=>∃ cf,cf=df∧St [] E [] w0 155 a w [(0,.string p0),(2,.pointer (some ⟨b2,0,none⟩)),(4,.slice a0 r8.length a5),(43,.bool cf)] [eBox b2 42 [iv 0,.slice none 0 0]] [fRep (rL rS) (.slice a0 r8.length a5) r8]) ?_ (fun a w hI=>?_)
 ·refine sRegion (sM S fun a S=>?_)
  refine sLen S (wN d) d Try.underlying142 d d (lb d) fun a S=>sBin _ S (wN d) d d d (bLt _ _ _ _ .i64 (r8.length:Int) 2) d (lb d) fun a S=>sM S fun a S=>?_
  rcases iS h with ⟨ay,h⟩ | ⟨ay,h⟩
  ·refine sSkN 4 3 false 24 S d d ay d fun a S=>sPickT (.bool true) S (wN d) d d ay d d (lb d) fun a S=>sM S fun a S=>?_
   refine sSkN 5 9 false 30 S d d d d fun a S=>sPickT (.bool true) S (wN d) d d d d d (lb d) fun a S=>sM S fun a S=>?_
   refine sSkN 5 16 false 37 S d d d d fun a S=>sPickT (.bool true) S (wN d) d d d d d (lb d) fun a S=>?_
   exact lT (⟨true,Option.some.inj h,S.fix [0] [0] (by decide) d d d⟩)
  refine sMove (.slice a0 r8.length a5) S (wG 3 false 24 d d d ay) (.inl d) d d (lb d) fun a S=>sLen S (wG 3 false 24 d d d ay) d Try.underlying142 d d (lb d) fun a S=>sBin _ S (wG 3 false 24 d d d ay) d d d (bSub _ _ _ _ (r8.length:Int) 2) d (lb d) fun a S=>sBin _ S (wG 3 false 24 d d d ay) d d d (bGt _ _ _ _ .i64 (w64 ((r8.length:Int) - 2)) 100) d (lb d) fun a S=>sPickF (.bool (decide (100 < (w64 ((r8.length:Int) - 2))))) S (wN d) d d ay d d (lb d) fun a S=>sM S fun a S=>?_
  rcases iS h with ⟨aw,h⟩ | ⟨aw,h⟩
  ·refine sSkN 5 9 false 30 S d d aw d fun a S=>sPickT (.bool true) S (wN d) d d aw d d (lb d) fun a S=>sM S fun a S=>?_
   refine sSkN 5 16 false 37 S d d d d fun a S=>sPickT (.bool true) S (wN d) d d d d d (lb d) fun a S=>?_
   exact lT (⟨true,Option.some.inj h,S.fix [0] [0] (by decide) d d d⟩)
  refine sMove (.slice a0 r8.length a5) S (wG 9 false 30 d d d aw) (.inl d) d d (lb d) fun a S=>?_
  obtain ⟨aG,bk,h⟩:=bS h
  obtain ⟨cR,cg,S⟩:=pIdx (P:=Try.prog) (r:=rS) (v:=.slice a0 r8.length a5) (xs:=r8) (j:=0) 142 9 0 S Try.underlying142 d d bk
  refine sIdxV S (wG 9 false 30 d d d aw) d d d cg d (lb d) fun a S=>?_
  obtain ⟨cS,S⟩:=pLoad (r:=rS) (q:=cR) (x:=aG) 0 S d
  obtain rfl:cS=.string aG:=S.mem.know (i:=1) (e:=fRep rS (cS) aG) d
  refine sLoadV1 (vq:=cR) 0 (.string aG) S (wG 9 false 30 d d d aw) d d d d d (lb d) fun a S=>sLenS (v:=aG) S (wG 9 false 30 d d d aw) d Try.underlying9 d d (lb d) fun a S=>sBin _ S (wG 9 false 30 d d d aw) d d d (bLt _ _ _ _ .i64 (aG.size:Int) 7) d (lb d) fun a S=>sPickF (.bool (decide ((aG.size:Int) < 7))) S (wN d) d d aw d d (lb d) fun a S=>sM S fun a S=>?_
  rcases iS h with ⟨ax,h⟩ | ⟨ax,h⟩
  ·refine sSkN 5 16 false 37 S d d ax d fun a S=>sPickT (.bool true) S (wN d) d d ax d d (lb d) fun a S=>?_
   exact lT (⟨true,Option.some.inj h,S.fix [0] [3] (by decide) d d d⟩)
  refine sMove (.slice a0 r8.length a5) S (wG 16 false 37 d d d ax) (.inl d) d d (lb d) fun a S=>?_
  obtain ⟨cT,ci,S⟩:=pIdx (P:=Try.prog) (r:=rS) (v:=.slice a0 r8.length a5) (xs:=r8) (j:=0) 142 9 3 S Try.underlying142 d d bk
  refine sIdxV S (wG 16 false 37 d d d ax) d d d ci d (lb d) fun a S=>?_
  obtain ⟨cU,S⟩:=pLoad (r:=rS) (q:=cT) (x:=aG) 0 S d
  obtain rfl:cU=.string aG:=S.mem.know (i:=1) (e:=fRep rS (cU) aG) d
  refine sLoadV1 (vq:=cT) 0 (.string aG) S (wG 16 false 37 d d d ax) d d d d d (lb d) fun a S=>?_
  obtain ⟨cc,cj,h⟩:=bS h
  refine sSliceS (v:=aG) (u:=cc) (vlo:=none) (vhi:=(some (.int .i64 6))) (lo':=0) (hi':=6) S (wG 16 false 37 d d d ax) d Try.underlying9 d d d (.inr ⟨d,d⟩) (.inl d) cj d (lb d) fun a S=>sBin _ S (wG 16 false 37 d d d ax) d d d (bNeS _ _ _ _ cc (⟨#[115,116,97,114,116,32]⟩:ByteArray)) d (lb d) fun a S=>sPickF (.bool (cc != (⟨#[115,116,97,114,116,32]⟩:ByteArray))) S (wN d) d d ax d d (lb d) fun a S=>?_
  exact lT (⟨cc != (⟨#[115,116,97,114,116,32]⟩:ByteArray),Option.some.inj h,S.fix [0] [6] (by decide) d d d⟩)
 obtain ⟨cf,rfl,S⟩:=hI
 have h:=dg
 try dsimp only at h
 rcases iS h with ⟨aW,h⟩ | ⟨aW,h⟩
 ·refine sCondT S d aW (sSeq (fun dL ck=>sRegion (sBuild [] [iv 0,.slice none 0 0] S (wN d) d d d d (lb d) fun a S=>sStore (p:=b2) (off:=0) (T:=42) (vs:=[iv 0,.slice none 0 0]) (v:=.agg #[iv 0,.slice none 0 0]) 0 [iv 0,.slice none 0 0] S (wN d) d d d d d d d (by simp) d fun a w S=>sN S fun a S=>?_)))
  refine lT (ck _ _ ?_)
  obtain rfl:=tS h
  have S:=S.learn (fRep (rL r_api_Row) (.slice none 0 0) ([]:(List api_Row))) (rL_nil _ _ _)
  have S:=S.learn (fRep r_api_Chart (.agg #[iv 0,.slice none 0 0]) (api_Chart.mk 0 ([]:(List api_Row)))) ⟨_,d,S.mem.know (i:=0) (e:=fRep (rL r_api_Row) (.slice none 0 0) ([]:(List api_Row))) d⟩
  exact wp_ret (rThen (sRet (.tuple #[.agg #[iv 0,.slice none 0 0],iv 12]) S (rsl2 d (rvN (c:=2) (t:=42) (T:=42) (p:=b2) 0 [iv 0,.slice none 0 0] S d d d d) (rvT (t:=3) (v:=iv 12) S d)) ⟨(.agg #[iv 0,.slice none 0 0]),d,S.mem.sel [] [0] (by decide) d d⟩))
 refine sCondF S d aW (wp_skip (leafT (ce _ _ ?_)))
 refine sSeq (fun dM cl=>sRegion (sM S fun a S=>?_))
 obtain ⟨bi,cm,h⟩:=bS h
 obtain ⟨cV,cn,S⟩:=pIdx (P:=Try.prog) (r:=rS) (v:=.slice a0 r8.length a5) (xs:=r8) (j:=0) 142 9 0 S Try.underlying142 d d cm
 refine sIdxV S (wN d) d d d cn d (lb d) fun a S=>?_
 obtain ⟨cW,S⟩:=pLoad (r:=rS) (q:=cV) (x:=bi) 0 S d
 obtain rfl:cW=.string bi:=S.mem.know (i:=1) (e:=fRep rS (cW) bi) d
 refine sLoadV1 (vq:=cV) 0 (.string bi) S (wN d) d d d d d (lb d) fun a S=>?_
 obtain ⟨co,cp,h⟩:=bS h
 refine sSliceS (v:=bi) (u:=co) (vlo:=(some (.int .i64 6))) (vhi:=none) (lo':=6) (hi':=(bi.size:Int)) S (wN d) d Try.underlying9 d d d (.inl d) (.inr ⟨d,d⟩) cp d (lb d) fun a S=>?_
 obtain ⟨a8,cq,h⟩:=bS h
 have S1:=S.mem
 refine sCq [.string co] (.tuple #[iv a8.1,.bool a8.2]) S callee97 (S1.quiet [] d) (fun E1 w1 S1=>c_raddleref25_Number E1 w1 co a8 cq S1) fun a w S=>?_
 refine sM S fun a S=>?_
 refine sExtract (vs:=[iv a8.1,.bool a8.2]) (iv a8.1) S (wN d) d d d d (lb d) fun a S=>sExtract (vs:=[iv a8.1,.bool a8.2]) (.bool a8.2) S (wN d) d d d d (lb d) fun a S=>sN S fun a S=>?_
 refine sN S fun a S=>?_
 refine lT (cl _ _ (sSeq (fun dN cr=>sSeq (fun dO ct=>sRegion (sM S fun a S=>?_)))))
 refine sNot (b:=a8.2) S (wN d) d d d (lb d) fun a S=>lT (ct _ _ ?_)
 rcases iS h with ⟨aX,h⟩ | ⟨aX,h⟩
 ·refine sCondT S d aX (sSeq (fun dP cu=>sRegion (sBuild [] [iv 0,.slice none 0 0] S (wN d) d d d d (lb d) fun a S=>sStore (p:=b2) (off:=0) (T:=42) (vs:=[iv 0,.slice none 0 0]) (v:=.agg #[iv 0,.slice none 0 0]) 0 [iv 0,.slice none 0 0] S (wN d) d d d d d d d (by simp) d fun a w S=>sN S fun a S=>?_)))
  refine lT (cu _ _ ?_)
  obtain rfl:=tS h
  have S:=S.learn (fRep (rL r_api_Row) (.slice none 0 0) ([]:(List api_Row))) (rL_nil _ _ _)
  have S:=S.learn (fRep r_api_Chart (.agg #[iv 0,.slice none 0 0]) (api_Chart.mk 0 ([]:(List api_Row)))) ⟨_,d,S.mem.know (i:=0) (e:=fRep (rL r_api_Row) (.slice none 0 0) ([]:(List api_Row))) d⟩
  exact wp_ret (rThen (sRet (.tuple #[.agg #[iv 0,.slice none 0 0],iv 12]) S (rsl2 d (rvN (c:=2) (t:=42) (T:=42) (p:=b2) 0 [iv 0,.slice none 0 0] S d d d d) (rvT (t:=3) (v:=iv 12) S d)) ⟨(.agg #[iv 0,.slice none 0 0]),d,S.mem.sel [] [0] (by decide) d d⟩))
 refine sCondF S d aX (wp_skip (leafT (cr _ _ ?_)))
 refine sSeq (fun dQ cv=>sRegion (sM S fun a S=>?_))
 refine sBuild [(0,iv a8.1)] [iv a8.1,.slice none 0 0] S (wN d) d d d d (lb d) fun a S=>sAlloc (.agg #[iv 0,.slice none 0 0]) S (wN d) d d [iv 0,.slice none 0 0] d d (lb d) fun a am w S=>sStore (p:=am) (off:=0) (T:=42) (vs:=[iv 0,.slice none 0 0]) (v:=.agg #[iv a8.1,.slice none 0 0]) 0 [iv a8.1,.slice none 0 0] S (wN d) d d d d d d d (by simp) d fun a w S=>lT (cv _ _ ?_)
 obtain ⟨dh,h,cw⟩:=bS h
 refine sCut (fun a w=>∃ a9,.inl a9=dh∧∃ a6,∃ a7,St [] E [] w0 155 a w [(0,.string p0),(2,.pointer (some ⟨b2,0,none⟩)),(7,.pointer (some ⟨am,0,none⟩))] [eBox b2 42 [iv 0,.slice none 0 0],eBox am 42 [iv a8.1,.slice a6 a9.length a7],eRow r_api_Row 87 (.slice a6 a9.length a7) a9] []) ?_ (fun a w hI=>?_)
 rotate_left
 ·obtain ⟨a9,rfl,a6,a7,S⟩:=hI
  have h:=cw
  try dsimp only at h
  refine sSeq (fun di bl=>sSeq (fun dj bm=>sRegion (sLoadN (p:=am) (off:=0) (T:=42) (vs:=[iv a8.1,.slice a6 a9.length a7]) 1 [iv a8.1,.slice a6 a9.length a7] S (wN d) d d d d d d d (lb d) fun a S=>?_)))
  obtain ⟨aZ,bo,h⟩:=bS h
  have S1:=S.mem
  have S1:=S1.shutR (r:=r_api_Row) (T:=87) (v:=.slice a6 a9.length a7) (xs:=a9) 2 d
  have S1:=S1.learn (fRep r_api_Chart (.agg #[iv a8.1,.slice a6 a9.length a7]) (api_Chart.mk a8.1 a9)) ⟨_,d,S1.know (i:=0) (e:=fRep (rL r_api_Row) (.slice a6 a9.length a7) a9) d⟩
  refine sCq [.agg #[iv a8.1,.slice a6 a9.length a7]] (iv aZ) S callee39 (S1.quiet [0] d) (fun E1 w1 S1=>c_raddleref26_Check E1 w1 (api_Chart.mk a8.1 a9) (.agg #[iv a8.1,.slice a6 a9.length a7]) aZ bo S1) fun a w S=>?_
  refine sBin _ S (wN d) d d d (bNe _ _ _ _ .i64 aZ 0) d (lb d) fun a S=>lT (bm _ _ ?_)
  rcases iS h with ⟨aH,h⟩ | ⟨aH,h⟩
  ·refine sCondT S d aH (sSeq (fun dk bp=>sRegion (sBuild [] [iv 0,.slice none 0 0] S (wN d) d d d d (lb d) fun a S=>sStore (p:=b2) (off:=0) (T:=42) (vs:=[iv 0,.slice none 0 0]) (v:=.agg #[iv 0,.slice none 0 0]) 0 [iv 0,.slice none 0 0] S (wN d) d d d d d d d (by simp) d fun a w S=>sN S fun a S=>?_)))
   refine lT (bp _ _ ?_)
   obtain rfl:=tS h
   have S:=S.learn (fRep (rL r_api_Row) (.slice none 0 0) ([]:(List api_Row))) (rL_nil _ _ _)
   have S:=S.learn (fRep r_api_Chart (.agg #[iv 0,.slice none 0 0]) (api_Chart.mk 0 ([]:(List api_Row)))) ⟨_,d,S.mem.know (i:=0) (e:=fRep (rL r_api_Row) (.slice none 0 0) ([]:(List api_Row))) d⟩
   exact wp_ret (rThen (sRet (.tuple #[.agg #[iv 0,.slice none 0 0],iv 12]) S (rsl2 d (rvN (c:=2) (t:=42) (T:=42) (p:=b2) 0 [iv 0,.slice none 0 0] S d d d d) (rvT (t:=3) (v:=iv 12) S d)) ⟨(.agg #[iv 0,.slice none 0 0]),d,S.mem.sel [] [0] (by decide) d d⟩))
  refine sCondF S d aH (wp_skip (leafT (bl _ _ ?_)))
  refine sSeq (fun dm bq=>sRegion (sLoadN (p:=am) (off:=0) (T:=42) (vs:=[iv a8.1,.slice a6 a9.length a7]) 1 [iv a8.1,.slice a6 a9.length a7] S (wN d) d d d d d d d (lb d) fun a S=>?_))
  obtain ⟨aj,br,h⟩:=bS h
  have S1:=S.mem
  have S1:=S1.shutR (r:=r_api_Row) (T:=87) (v:=.slice a6 a9.length a7) (xs:=a9) 2 d
  have S1:=S1.learn (fRep r_api_Chart (.agg #[iv a8.1,.slice a6 a9.length a7]) (api_Chart.mk a8.1 a9)) ⟨_,d,S1.know (i:=0) (e:=fRep (rL r_api_Row) (.slice a6 a9.length a7) a9) d⟩
  refine sCq [.agg #[iv a8.1,.slice a6 a9.length a7]] (.tuple #[.string aj.1,.bool aj.2]) S callee98 (S1.quiet [0] d) (fun E1 w1 S1=>c_raddleref26_Written E1 w1 (api_Chart.mk a8.1 a9) (.agg #[iv a8.1,.slice a6 a9.length a7]) aj br S1) fun a w S=>?_
  refine sM S fun a S=>?_
  refine sExtract (vs:=[.string aj.1,.bool aj.2]) (.string aj.1) S (wN d) d d d d (lb d) fun a S=>sExtract (vs:=[.string aj.1,.bool aj.2]) (.bool aj.2) S (wN d) d d d d (lb d) fun a S=>sN S fun a S=>?_
  refine sN S fun a S=>?_
  refine lT (bq _ _ (sSeq (fun dn bu=>?_)))
  obtain ⟨cx,h,cy⟩:=bS h
  refine sCut (fun a w=>∃ ba,ba=cx∧St [] E [] w0 155 a w [(2,.pointer (some ⟨b2,0,none⟩)),(7,.pointer (some ⟨am,0,none⟩)),(152,.bool ba)] [eBox b2 42 [iv 0,.slice none 0 0],eBox am 42 [iv a8.1,.slice a6 a9.length a7],eRow r_api_Row 87 (.slice a6 a9.length a7) a9] []) ?_ (fun a w hI=>?_)
  ·refine sRegion (sM S fun a S=>?_)
   refine sNot (b:=aj.2) S (wN d) d d d (lb d) fun a S=>sM S fun a S=>?_
   rcases iS h with ⟨ao,h⟩ | ⟨ao,h⟩
   ·refine sSkN 3 2 false 148 S d d ao d fun a S=>sPickT (.bool true) S (wN d) d d ao d d (lb d) fun a S=>?_
    exact lT (⟨true,Option.some.inj h,S.fix [0,1,2] [] (by decide) d d d⟩)
   refine sMove (.string aj.1) S (wG 2 false 148 d d d ao) (.inl d) d d (lb d) fun a S=>sMove (.string p0) S (wG 2 false 148 d d d ao) (.inl d) d d (lb d) fun a S=>sBin _ S (wG 2 false 148 d d d ao) d d d (bNeS _ _ _ _ aj.1 p0) d (lb d) fun a S=>sPickF (.bool (aj.1 != p0)) S (wN d) d d ao d d (lb d) fun a S=>?_
   exact lT (⟨aj.1 != p0,Option.some.inj h,S.fix [0,1,2] [] (by decide) d d d⟩)
  obtain ⟨ba,rfl,S⟩:=hI
  have h:=cy
  try dsimp only at h
  rcases iS h with ⟨aI,h⟩ | ⟨aI,h⟩
  ·refine sCondT S d aI (sSeq (fun dp bv=>sRegion (sBuild [] [iv 0,.slice none 0 0] S (wN d) d d d d (lb d) fun a S=>sStore (p:=b2) (off:=0) (T:=42) (vs:=[iv 0,.slice none 0 0]) (v:=.agg #[iv 0,.slice none 0 0]) 0 [iv 0,.slice none 0 0] S (wN d) d d d d d d d (by simp) d fun a w S=>sN S fun a S=>?_)))
   refine lT (bv _ _ ?_)
   obtain rfl:=tS h
   have S:=S.learn (fRep (rL r_api_Row) (.slice none 0 0) ([]:(List api_Row))) (rL_nil _ _ _)
   have S:=S.learn (fRep r_api_Chart (.agg #[iv 0,.slice none 0 0]) (api_Chart.mk 0 ([]:(List api_Row)))) ⟨_,d,S.mem.know (i:=0) (e:=fRep (rL r_api_Row) (.slice none 0 0) ([]:(List api_Row))) d⟩
   exact wp_ret (rThen (sRet (.tuple #[.agg #[iv 0,.slice none 0 0],iv 12]) S (rsl2 d (rvN (c:=2) (t:=42) (T:=42) (p:=b2) 0 [iv 0,.slice none 0 0] S d d d d) (rvT (t:=3) (v:=iv 12) S d)) ⟨(.agg #[iv 0,.slice none 0 0]),d,S.mem.sel [] [0] (by decide) d d⟩))
  refine sCondF S d aI (wp_skip (leafT (bu _ _ ?_)))
  refine sSeq (fun dr bw=>sRegion (sLoadN (p:=am) (off:=0) (T:=42) (vs:=[iv a8.1,.slice a6 a9.length a7]) 1 [iv a8.1,.slice a6 a9.length a7] S (wN d) d d d d d d d (lb d) fun a S=>sStore (p:=b2) (off:=0) (T:=42) (vs:=[iv 0,.slice none 0 0]) (v:=.agg #[iv a8.1,.slice a6 a9.length a7]) 0 [iv a8.1,.slice a6 a9.length a7] S (wN d) d d d d d d d (by simp) d fun a w S=>sN S fun a S=>?_))
  refine lT (bw _ _ ?_)
  obtain rfl:=tS h
  have S:=S.shutR (r:=r_api_Row) (T:=87) (v:=.slice a6 a9.length a7) (xs:=a9) 2 d
  have S:=S.learn (fRep r_api_Chart (.agg #[iv a8.1,.slice a6 a9.length a7]) (api_Chart.mk a8.1 a9)) ⟨_,d,S.mem.know (i:=0) (e:=fRep (rL r_api_Row) (.slice a6 a9.length a7) a9) d⟩
  exact wp_ret (sRet (.tuple #[.agg #[iv a8.1,.slice a6 a9.length a7],iv 0]) S (rsl2 d (rvN (c:=2) (t:=42) (T:=42) (p:=b2) 0 [iv a8.1,.slice a6 a9.length a7] S d d d d) (rvT (t:=3) (v:=iv 0) S d)) ⟨(.agg #[iv a8.1,.slice a6 a9.length a7]),d,S.mem.sel [] [0] (by decide) d d⟩)
 refine sSeq (fun dR cz=>sRegion (sN S fun a S=>?_))
 refine lT (cz _ _ (wp_block ?_))
 have S:=S.nilRow r_api_Row 87 (α:=api_Row)
 obtain ⟨dS,hl,cA⟩:=bS h
 refine sLoop hl (fun s0 a w=>match s0 with | (aq,al)=>∃ ab,∃ ac,St [] E [] w0 155 a w [(0,.string p0),(2,.pointer (some ⟨b2,0,none⟩)),(4,.slice a0 r8.length a5),(7,.pointer (some ⟨am,0,none⟩)),(8,iv aq)] [eBox b2 42 [iv 0,.slice none 0 0],eBox am 42 [iv a8.1,.slice ab al.length ac],eRow r_api_Row 87 (.slice ab al.length ac) al] [fRep (rL rS) (.slice a0 r8.length a5) r8]) ⟨none,0,S.fix [2,1,0] [3] (by decide) d d d⟩ ?_
 clear hl h
 intro s0 a w c0 hI h bb
 obtain ⟨aq,al⟩:=s0
 unfold raddleref26_Parse_l2 at h
 dsimp only at h hI
 obtain ⟨ab,ac,S⟩:=hI
 refine sSeq (fun dU cB=>sSeq (fun dV cC=>sRegion (sM S fun a S=>?_)))
 refine sBin _ S (wN d) d d d (bAdd _ _ _ _ aq 1) d (lb d) fun a S=>sM S fun a S=>?_
 refine sLen S (wN d) d Try.underlying142 d d (lb d) fun a S=>sBin _ S (wN d) d d d (bLt _ _ _ _ .i64 (w64 (aq + 1)) (r8.length:Int)) d (lb d) fun a S=>lT (cC _ _ ?_)
 rcases iS h with ⟨bc,h⟩ | ⟨bc,h⟩
 rotate_left
 ·refine sCondF S d bc ?_
  obtain rfl:=tS h
  obtain rfl:=bb _ d
  have h:=cA
  try dsimp only at h
  exact wp_exit (xThen (xThen (xHit (leafT (⟨al,Option.some.inj h,ab,ac,S.fix [0,1,2] [] (by decide) d d d⟩)))))
 refine sCondT S d bc (wp_skip (leafT (cB _ _ ?_)))
 obtain ⟨dt,h,cD⟩:=bS h
 refine sCut (fun a w=>∃ bj,.inl bj=dt∧∃ aR,∃ aS,St [] E [] w0 155 a w [(0,.string p0),(2,.pointer (some ⟨b2,0,none⟩)),(4,.slice a0 r8.length a5),(7,.pointer (some ⟨am,0,none⟩)),(8,iv aq)] [eBox b2 42 [iv 0,.slice none 0 0],eBox am 42 [iv a8.1,.slice aR bj.length aS],eRow r_api_Row 87 (.slice aR bj.length aS) bj] [fRep (rL rS) (.slice a0 r8.length a5) r8]) ?_ (fun a w hI=>?_)
 rotate_left
 ·obtain ⟨bj,rfl,aR,aS,S⟩:=hI
  have h:=cD
  try dsimp only at h
  refine sRegion (sM S fun a S=>?_)
  refine sBin _ S (wN d) d d d (bAdd _ _ _ _ aq 1) d (lb d) fun a S=>sN S fun a S=>?_
  exact lT (⟨(w64 (aq + 1),bj),(Option.some.inj h).symm,⟨aR,aS,S.fix [0,1,2] [0] (by decide) d d d⟩⟩)
 refine wp_block ?_
 refine sSeq (fun dW cE=>sRegion (sN S fun a S=>?_))
 refine lT (cE _ _ ?_)
 obtain ⟨du,h,dv⟩:=bS h
 refine sCut (fun a w=>∃ az,az=du∧St [] E [] w0 155 a w [(0,.string p0),(2,.pointer (some ⟨b2,0,none⟩)),(4,.slice a0 r8.length a5),(7,.pointer (some ⟨am,0,none⟩)),(8,iv aq),(9,iv az)] [eBox b2 42 [iv 0,.slice none 0 0],eBox am 42 [iv a8.1,.slice ab al.length ac],eRow r_api_Row 87 (.slice ab al.length ac) al] [fRep (rL rS) (.slice a0 r8.length a5) r8]) ?_ (fun a w hI=>?_)
 ·refine wp_block ?_
  obtain ⟨dX,hl,dw⟩:=bS h
  refine sLoop hl (fun s0 a w=>match s0 with | aT=>St [] E [] w0 155 a w [(0,.string p0),(2,.pointer (some ⟨b2,0,none⟩)),(4,.slice a0 r8.length a5),(7,.pointer (some ⟨am,0,none⟩)),(8,iv aq),(9,iv aT)] [eBox b2 42 [iv 0,.slice none 0 0],eBox am 42 [iv a8.1,.slice ab al.length ac],eRow r_api_Row 87 (.slice ab al.length ac) al] [fRep (rL rS) (.slice a0 r8.length a5) r8]) (S.fix [0,1,2] [0] (by decide) d d d) ?_
  clear hl h
  intro aT a w c0 hI h cF
  unfold raddleref26_Parse_l1 at h
  dsimp only at h hI
  have S:=hI
  refine sSeq (fun dY cG=>?_)
  obtain ⟨dz,h,dA⟩:=bS h
  refine sCut (fun a w=>∃ cH,cH=dz∧St [] E [] w0 155 a w [(0,.string p0),(2,.pointer (some ⟨b2,0,none⟩)),(4,.slice a0 r8.length a5),(7,.pointer (some ⟨am,0,none⟩)),(8,iv aq),(9,iv aT),(80,.bool cH)] [eBox b2 42 [iv 0,.slice none 0 0],eBox am 42 [iv a8.1,.slice ab al.length ac],eRow r_api_Row 87 (.slice ab al.length ac) al] [fRep (rL rS) (.slice a0 r8.length a5) r8]) ?_ (fun a w hI=>?_)
  rotate_left
  ·obtain ⟨cH,rfl,S⟩:=hI
   have h:=dA
   try dsimp only at h
   rcases iS h with ⟨bf,h⟩ | ⟨bf,h⟩
   rotate_left
   ·refine sCondF S d bf ?_
    obtain rfl:=tS h
    obtain rfl:=cF _ d
    have h:=dw
    try dsimp only at h
    exact wp_exit (xThen (xThen (xHit (leafT (⟨aT,Option.some.inj h,S.fix [0,1,2] [0] (by decide) d d d⟩)))))
   refine sCondT S d bf (wp_skip (leafT (cG _ _ ?_)))
   refine wp_block ?_
   refine sRegion (sM S fun a S=>?_)
   refine sBin _ S (wN d) d d d (bAdd _ _ _ _ aT 1) d (lb d) fun a S=>sN S fun a S=>?_
   exact leafL (leafB (leafT (⟨w64 (aT + 1),(Option.some.inj h).symm,(S.fix [0,1,2] [0] (by decide) d d d)⟩)))
  refine sRegion (sM S fun a S=>?_)
  refine sM S fun a S=>?_
  refine sM S fun a S=>?_
  obtain ⟨aJ,bx,h⟩:=bS h
  obtain ⟨cX,cI,S⟩:=pIdx (P:=Try.prog) (r:=rS) (v:=.slice a0 r8.length a5) (xs:=r8) (j:=aq) 142 9 0 S Try.underlying142 d d bx
  refine sIdxV S (wN d) d d d cI d (lb d) fun a S=>?_
  obtain ⟨cY,S⟩:=pLoad (r:=rS) (q:=cX) (x:=aJ) 0 S d
  obtain rfl:cY=.string aJ:=S.mem.know (i:=1) (e:=fRep rS (cY) aJ) d
  refine sLoadV1 (vq:=cX) 0 (.string aJ) S (wN d) d d d d d (lb d) fun a S=>sLenS (v:=aJ) S (wN d) d Try.underlying9 d d (lb d) fun a S=>sBin _ S (wN d) d d d (bLt _ _ _ _ .i64 aT (aJ.size:Int)) d (lb d) fun a S=>sM S fun a S=>?_
  rcases iS h with ⟨ap,h⟩ | ⟨ap,h⟩
  rotate_left
  ·refine sSkN 7 7 true 72 S d d ap d fun a S=>sPickF (.bool false) S (wN d) d d ap d d (lb d) fun a S=>?_
   exact lT (⟨false,Option.some.inj h,S.fix [0,1,2] [3] (by decide) d d d⟩)
  refine sMove (.slice a0 r8.length a5) S (wG 7 true 72 d d d ap) (.inl d) d d (lb d) fun a S=>sMove (iv aq) S (wG 7 true 72 d d d ap) (.inl d) d d (lb d) fun a S=>?_
  obtain ⟨cZ,cJ,S⟩:=pIdx (P:=Try.prog) (r:=rS) (v:=.slice a0 r8.length a5) (xs:=r8) (j:=aq) 142 9 3 S Try.underlying142 d d bx
  refine sIdxV S (wG 7 true 72 d d d ap) d d d cJ d (lb d) fun a S=>?_
  obtain ⟨d6,S⟩:=pLoad (r:=rS) (q:=cZ) (x:=aJ) 0 S d
  obtain rfl:d6=.string aJ:=S.mem.know (i:=1) (e:=fRep rS (d6) aJ) d
  refine sLoadV1 (vq:=cZ) 0 (.string aJ) S (wG 7 true 72 d d d ap) d d d d d (lb d) fun a S=>sMove (iv aT) S (wG 7 true 72 d d d ap) (.inl d) d d (lb d) fun a S=>?_
  obtain ⟨cK,cL,h⟩:=bS h
  refine sIndexS (v:=aJ) (j:=aT) (k:=.i64) S (wG 7 true 72 d d d ap) d Try.underlying9 d d cL d (lb d) fun a S=>sBin _ S (wG 7 true 72 d d d ap) d d d (bNe _ _ _ _ .u8 cK 32) d (lb d) fun a S=>sPickT (.bool (cK != 32)) S (wN d) d d ap d d (lb d) fun a S=>?_
  exact lT (⟨cK != 32,Option.some.inj h,S.fix [0,1,2] [6] (by decide) d d d⟩)
 obtain ⟨az,rfl,S⟩:=hI
 have h:=dv
 try dsimp only at h
 refine sSeq (fun dZ cM=>?_)
 obtain ⟨dB,h,cN⟩:=bS h
 refine sCut (fun a w=>∃ cO,cO=dB∧St [] E [] w0 155 a w [(0,.string p0),(2,.pointer (some ⟨b2,0,none⟩)),(4,.slice a0 r8.length a5),(7,.pointer (some ⟨am,0,none⟩)),(8,iv aq),(9,iv az),(98,.bool cO)] [eBox b2 42 [iv 0,.slice none 0 0],eBox am 42 [iv a8.1,.slice ab al.length ac],eRow r_api_Row 87 (.slice ab al.length ac) al] [fRep (rL rS) (.slice a0 r8.length a5) r8]) ?_ (fun a w hI=>?_)
 ·refine sRegion (sM S fun a S=>?_)
  refine sM S fun a S=>?_
  obtain ⟨ar,aU,h⟩:=bS h
  obtain ⟨bz,bA,S⟩:=pIdx (P:=Try.prog) (r:=rS) (v:=.slice a0 r8.length a5) (xs:=r8) (j:=aq) 142 9 0 S Try.underlying142 d d aU
  refine sIdxV S (wN d) d d d bA d (lb d) fun a S=>?_
  obtain ⟨bB,S⟩:=pLoad (r:=rS) (q:=bz) (x:=ar) 0 S d
  obtain rfl:bB=.string ar:=S.mem.know (i:=1) (e:=fRep rS (bB) ar) d
  refine sLoadV1 (vq:=bz) 0 (.string ar) S (wN d) d d d d d (lb d) fun a S=>sM S fun a S=>?_
  obtain ⟨aC,aV,h⟩:=bS h
  refine sSliceS (v:=ar) (u:=aC) (vlo:=none) (vhi:=(some (.int .i64 az))) (lo':=0) (hi':=az) S (wN d) d Try.underlying9 d d d (.inr ⟨d,d⟩) (.inl d) aV d (lb d) fun a S=>sBin _ S (wN d) d d d (bNeS _ _ _ _ aC (⟨#[102,114,111,110,116]⟩:ByteArray)) d (lb d) fun a S=>sM S fun a S=>?_
  rcases iS h with ⟨af,h⟩ | ⟨af,h⟩
  rotate_left
  ·refine sSkN 7 7 true 90 S d d af d fun a S=>sPickF (.bool false) S (wN d) d d af d d (lb d) fun a S=>?_
   exact lT (⟨false,Option.some.inj h,S.fix [0,1,2] [3] (by decide) d d d⟩)
  refine sMove (.slice a0 r8.length a5) S (wG 7 true 90 d d d af) (.inl d) d d (lb d) fun a S=>sMove (iv aq) S (wG 7 true 90 d d d af) (.inl d) d d (lb d) fun a S=>?_
  obtain ⟨bC,bD,S⟩:=pIdx (P:=Try.prog) (r:=rS) (v:=.slice a0 r8.length a5) (xs:=r8) (j:=aq) 142 9 3 S Try.underlying142 d d aU
  refine sIdxV S (wG 7 true 90 d d d af) d d d bD d (lb d) fun a S=>?_
  obtain ⟨bE,S⟩:=pLoad (r:=rS) (q:=bC) (x:=ar) 0 S d
  obtain rfl:bE=.string ar:=S.mem.know (i:=1) (e:=fRep rS (bE) ar) d
  refine sLoadV1 (vq:=bC) 0 (.string ar) S (wG 7 true 90 d d d af) d d d d d (lb d) fun a S=>sMove (iv az) S (wG 7 true 90 d d d af) (.inl d) d d (lb d) fun a S=>sSliceS (v:=ar) (u:=aC) (vlo:=none) (vhi:=(some (.int .i64 az))) (lo':=0) (hi':=az) S (wG 7 true 90 d d d af) d Try.underlying9 d d d (.inr ⟨d,d⟩) (.inl d) aV d (lb d) fun a S=>sBin _ S (wG 7 true 90 d d d af) d d d (bNeS _ _ _ _ aC (⟨#[98,97,99,107]⟩:ByteArray)) d (lb d) fun a S=>sPickT (.bool (aC != (⟨#[98,97,99,107]⟩:ByteArray))) S (wN d) d d af d d (lb d) fun a S=>?_
  exact lT (⟨aC != (⟨#[98,97,99,107]⟩:ByteArray),Option.some.inj h,S.fix [0,1,2] [6] (by decide) d d d⟩)
 obtain ⟨cO,rfl,S⟩:=hI
 have h:=cN
 try dsimp only at h
 rcases iS h with ⟨aK,h⟩ | ⟨aK,h⟩
 ·refine sCondT S d aK (sSeq (fun dC bG=>sRegion (sBuild [] [iv 0,.slice none 0 0] S (wN d) d d d d (lb d) fun a S=>sStore (p:=b2) (off:=0) (T:=42) (vs:=[iv 0,.slice none 0 0]) (v:=.agg #[iv 0,.slice none 0 0]) 0 [iv 0,.slice none 0 0] S (wN d) d d d d d d d (by simp) d fun a w S=>sN S fun a S=>?_)))
  refine lT (bG _ _ ?_)
  obtain rfl:=tS h
  have h:=cD
  try dsimp only at h
  obtain rfl:=tS h
  obtain rfl:=bb _ d
  have h:=cA
  try dsimp only at h
  obtain rfl:=tS h
  have h:=cw
  try dsimp only at h
  obtain rfl:=tS h
  have S:=S.learn (fRep (rL r_api_Row) (.slice none 0 0) ([]:(List api_Row))) (rL_nil _ _ _)
  have S:=S.learn (fRep r_api_Chart (.agg #[iv 0,.slice none 0 0]) (api_Chart.mk 0 ([]:(List api_Row)))) ⟨_,d,S.mem.know (i:=0) (e:=fRep (rL r_api_Row) (.slice none 0 0) ([]:(List api_Row))) d⟩
  exact wp_ret (rThen (rBlock (rThen (rThen (rBlock (rThen (sRet (.tuple #[.agg #[iv 0,.slice none 0 0],iv 12]) S (rsl2 d (rvN (c:=2) (t:=42) (T:=42) (p:=b2) 0 [iv 0,.slice none 0 0] S d d d d) (rvT (t:=3) (v:=iv 12) S d)) ⟨(.agg #[iv 0,.slice none 0 0]),d,S.mem.sel [] [0] (by decide) d d⟩)))))))
 refine sCondF S d aK (wp_skip (leafT (cM _ _ ?_)))
 refine sSeq (fun dD bH=>sRegion (sM S fun a S=>?_))
 refine sM S fun a S=>?_
 obtain ⟨ag,aL,h⟩:=bS h
 obtain ⟨bI,bJ,S⟩:=pIdx (P:=Try.prog) (r:=rS) (v:=.slice a0 r8.length a5) (xs:=r8) (j:=aq) 142 9 0 S Try.underlying142 d d aL
 refine sIdxV S (wN d) d d d bJ d (lb d) fun a S=>?_
 obtain ⟨bK,S⟩:=pLoad (r:=rS) (q:=bI) (x:=ag) 0 S d
 obtain rfl:bK=.string ag:=S.mem.know (i:=1) (e:=fRep rS (bK) ag) d
 refine sLoadV1 (vq:=bI) 0 (.string ag) S (wN d) d d d d d (lb d) fun a S=>sM S fun a S=>?_
 obtain ⟨aa,bL,h⟩:=bS h
 refine sSliceS (v:=ag) (u:=aa) (vlo:=none) (vhi:=(some (.int .i64 az))) (lo':=0) (hi':=az) S (wN d) d Try.underlying9 d d d (.inr ⟨d,d⟩) (.inl d) bL d (lb d) fun a S=>sBin _ S (wN d) d d d (bEqS _ _ _ _ aa (⟨#[98,97,99,107]⟩:ByteArray)) d (lb d) fun a S=>sBuild [(0,.bool (aa == (⟨#[98,97,99,107]⟩:ByteArray)))] [.bool (aa == (⟨#[98,97,99,107]⟩:ByteArray)),.slice none 0 0] S (wN d) d d d d (lb d) fun a S=>sAlloc (.agg #[.bool false,.slice none 0 0]) S (wN d) d d [.bool false,.slice none 0 0] d d (lb d) fun a aA w S=>sStore (p:=aA) (off:=0) (T:=87) (vs:=[.bool false,.slice none 0 0]) (v:=.agg #[.bool (aa == (⟨#[98,97,99,107]⟩:ByteArray)),.slice none 0 0]) 0 [.bool (aa == (⟨#[98,97,99,107]⟩:ByteArray)),.slice none 0 0] S (wN d) d d d d d d d (by simp) d fun a w S=>lT (bH _ _ ?_)
 obtain ⟨cP,h,bM⟩:=bS h
 refine sCut (fun a w=>∃ ae,.inl ae=cP∧∃ ah,∃ ai,St [] E [] w0 155 a w [(0,.string p0),(2,.pointer (some ⟨b2,0,none⟩)),(4,.slice a0 r8.length a5),(7,.pointer (some ⟨am,0,none⟩)),(8,iv aq),(10,.pointer (some ⟨aA,0,none⟩))] [eBox b2 42 [iv 0,.slice none 0 0],eBox am 42 [iv a8.1,.slice ab al.length ac],eBox aA 87 [.bool (aa == (⟨#[98,97,99,107]⟩:ByteArray)),.slice ah ae.length ai],eRow r_api_Row 87 (.slice ab al.length ac) al] [fRep (rL rS) (.slice a0 r8.length a5) r8,fRep (rL r_api_Stitch) (.slice ah ae.length ai) ae]) ?_ (fun a w hI=>?_)
 rotate_left
 ·obtain ⟨ae,rfl,ah,ai,S⟩:=hI
  have h:=bM
  try dsimp only at h
  refine sRegion (sField (b:=am) (off:=0) 1 1 S (wN d) d d d d d (lb d) fun a S=>sLoad1 1 (.slice ab al.length ac) S (wN d) d d d d d d (lb d) fun a S=>sLoadN (p:=aA) (off:=0) (T:=87) (vs:=[.bool (aa == (⟨#[98,97,99,107]⟩:ByteArray)),.slice ah ae.length ai]) 2 [.bool (aa == (⟨#[98,97,99,107]⟩:ByteArray)),.slice ah ae.length ai] S (wN d) d d d d d d d (lb d) fun a S=>?_)
  have S:=S.learn (fRep r_api_Row (.agg #[.bool (aa == (⟨#[98,97,99,107]⟩:ByteArray)),.slice ah ae.length ai]) (api_Row.mk (aa == (⟨#[98,97,99,107]⟩:ByteArray)) ae)) ⟨_,d,S.mem.know (i:=1) (e:=fRep (rL r_api_Stitch) (.slice ah ae.length ai) ae) d⟩
  refine sLit (r:=r_api_Row) (T:=87) (xs:=[(api_Row.mk (aa == (⟨#[98,97,99,107]⟩:ByteArray)) ae)]) [(0,.agg #[.bool (aa == (⟨#[98,97,99,107]⟩:ByteArray)),.slice ah ae.length ai])] 1 [.agg #[.bool (aa == (⟨#[98,97,99,107]⟩:ByteArray)),.slice ah ae.length ai]] [.bool (aa == (⟨#[98,97,99,107]⟩:ByteArray)),.slice ah ae.length ai] (.agg #[.bool false,.slice none 0 0]) 32 S (wN d) d d Try.underlying40 d (by decide) (by decide) (by kernel_rfl) d (fun E1 w1 hE=>All.cons (r_api_Row.mono hE (S.mem.know (i:=0) (e:=fRep r_api_Row (.agg #[.bool (aa == (⟨#[98,97,99,107]⟩:ByteArray)),.slice ah ae.length ai]) (api_Row.mk (aa == (⟨#[98,97,99,107]⟩:ByteArray)) ae)) d)) (All.nil _ _ _)) d d (lb d) fun a w bN bO S=>?_
  obtain ⟨bg,bP,h⟩:=bS h
  refine sApp (r:=r_api_Row) (T:=87) (xs:=al) (ys:=[(api_Row.mk (aa == (⟨#[98,97,99,107]⟩:ByteArray)) ae)]) (v:=.slice ab al.length ac) (u:=.slice bN [(api_Row.mk (aa == (⟨#[98,97,99,107]⟩:ByteArray)) ae)].length bO) 4 (.agg #[.bool false,.slice none 0 0]) 32 S (wN d) d Try.underlying40 d d (by decide) d d d (src_R (T:=87) 0 S.mem d) bP d (lb d) fun a w aM aO S=>sField (b:=am) (off:=0) 1 1 S (wN d) d d d d d (lb d) fun a S=>sStore (p:=am) (off:=1) (T:=42) (vs:=[iv a8.1,.slice ab al.length ac]) (v:=.slice aM bg.length aO) 3 [.slice aM bg.length aO] S (wN d) d d d d d d d (by simp) d fun a w S=>?_
  exact leafL (leafB (leafT (⟨bg,Option.some.inj h,aM,aO,S.fix [3,0,1] [1] (by decide) d d d⟩)))
 refine sSeq (fun dE bQ=>sRegion (sM S fun a S=>?_))
 refine sM S fun a S=>?_
 refine sM S fun a S=>?_
 obtain ⟨bR,bU,S⟩:=pIdx (P:=Try.prog) (r:=rS) (v:=.slice a0 r8.length a5) (xs:=r8) (j:=aq) 142 9 3 S Try.underlying142 d d aL
 refine sIdxV S (wN d) d d d bU d (lb d) fun a S=>?_
 obtain ⟨bV,S⟩:=pLoad (r:=rS) (q:=bR) (x:=ag) 0 S d
 obtain rfl:bV=.string ag:=S.mem.know (i:=1) (e:=fRep rS (bV) ag) d
 refine sLoadV1 (vq:=bR) 0 (.string ag) S (wN d) d d d d d (lb d) fun a S=>sLenS (v:=ag) S (wN d) d Try.underlying9 d d (lb d) fun a S=>sBin _ S (wN d) d d d (bLt _ _ _ _ .i64 az (ag.size:Int)) d (lb d) fun a S=>lT (bQ _ _ ?_)
 rcases iS h with ⟨aP,h⟩ | ⟨aP,h⟩
 rotate_left
 ·refine sCondF S d aP ?_
  have S:=S.learn (fRep (rL r_api_Stitch) (.slice none 0 0) ([]:(List api_Stitch))) (rL_nil _ _ _)
  exact wp_skip (leafT (⟨([]:List api_Stitch),Option.some.inj h,none,0,S.fix [1,2,0,3] [7,0] (by decide) d d d⟩))
 refine sCondT S d aP (sSeq (fun dG bW=>sRegion (sM S fun a S=>?_)))
 refine sM S fun a S=>?_
 obtain ⟨bX,bY,S⟩:=pIdx (P:=Try.prog) (r:=rS) (v:=.slice a0 r8.length a5) (xs:=r8) (j:=aq) 142 9 6 S Try.underlying142 d d aL
 refine sIdxV S (wN d) d d d bY d (lb d) fun a S=>?_
 obtain ⟨bZ,S⟩:=pLoad (r:=rS) (q:=bX) (x:=ag) 0 S d
 obtain rfl:bZ=.string ag:=S.mem.know (i:=1) (e:=fRep rS (bZ) ag) d
 refine sLoadV1 (vq:=bX) 0 (.string ag) S (wN d) d d d d d (lb d) fun a S=>sM S fun a S=>?_
 refine sBin _ S (wN d) d d d (bAdd _ _ _ _ az 1) d (lb d) fun a S=>?_
 obtain ⟨bh,c7,h⟩:=bS h
 refine sSliceS (v:=ag) (u:=bh) (vlo:=(some (.int .i64 (w64 (az + 1))))) (vhi:=none) (lo':=w64 (az + 1)) (hi':=(ag.size:Int)) S (wN d) d Try.underlying9 d d d (.inl d) (.inr ⟨d,d⟩) c7 d (lb d) fun a S=>?_
 obtain ⟨ak,c8,h⟩:=bS h
 refine sCall (X:=Value) (f:=78) (vs:=[.string bh]) (val:=c_raddleref25_Parse_val ak) (B':=fun _=>[]) (D':=c_raddleref25_Parse_D ak) [] [eBox aA 87 [.bool (aa == (⟨#[98,97,99,107]⟩:ByteArray)),.slice none 0 0],eBox b2 42 [iv 0,.slice none 0 0],eBox am 42 [iv a8.1,.slice ab al.length ac],eRow r_api_Row 87 (.slice ab al.length ac) al] [] [0,1,2,3] [] S (wN d) d callee78 d (by decide) d d (fun E1 w1 S1=>c_raddleref25_Parse E1 w1 bh ak c8 S1) d (lb d) fun cQ a w S=>?_
 obtain ⟨au,av,_,rfl,_⟩:=S.mem.know (i:=0) (e:=fRep (rL r_api_Stitch) (cQ) ak.1) d
 refine sM S fun a S=>?_
 refine sExtract (vs:=[.slice au ak.1.length av,iv ak.2]) (.slice au ak.1.length av) S (wN d) d d d d (lb d) fun a S=>sExtract (vs:=[.slice au ak.1.length av,iv ak.2]) (iv ak.2) S (wN d) d d d d (lb d) fun a S=>sN S fun a S=>?_
 refine sN S fun a S=>?_
 refine lT (bW _ _ (sSeq (fun dH c9=>sSeq (fun dI ca=>sRegion (sM S fun a S=>?_)))))
 refine sBin _ S (wN d) d d d (bNe _ _ _ _ .i64 ak.2 0) d (lb d) fun a S=>lT (ca _ _ ?_)
 rcases iS h with ⟨aQ,h⟩ | ⟨aQ,h⟩
 rotate_left
 ·refine sCondF S d aQ (wp_skip (leafT (c9 _ _ ?_)))
  refine sRegion (sM S fun a S=>?_)
  refine sField (b:=aA) (off:=0) 1 1 S (wN d) d d d d d (lb d) fun a S=>sStore (p:=aA) (off:=1) (T:=87) (vs:=[.bool (aa == (⟨#[98,97,99,107]⟩:ByteArray)),.slice none 0 0]) (v:=.slice au ak.1.length av) 0 [.slice au ak.1.length av] S (wN d) d d d d d d d (by simp) d fun a w S=>?_
  exact lT (⟨ak.1,Option.some.inj h,au,av,S.fix [1,2,0,3] [10,0] (by decide) d d d⟩)
 refine sCondT S d aQ (sSeq (fun dJ cb=>sRegion (sBuild [] [iv 0,.slice none 0 0] S (wN d) d d d d (lb d) fun a S=>sStore (p:=b2) (off:=0) (T:=42) (vs:=[iv 0,.slice none 0 0]) (v:=.agg #[iv 0,.slice none 0 0]) 1 [iv 0,.slice none 0 0] S (wN d) d d d d d d d (by simp) d fun a w S=>sN S fun a S=>?_)))
 refine lT (cb _ _ ?_)
 obtain rfl:=tS h
 have h:=bM
 try dsimp only at h
 obtain rfl:=tS h
 have h:=cD
 try dsimp only at h
 obtain rfl:=tS h
 obtain rfl:=bb _ d
 have h:=cA
 try dsimp only at h
 obtain rfl:=tS h
 have h:=cw
 try dsimp only at h
 obtain rfl:=tS h
 have S:=S.learn (fRep (rL r_api_Row) (.slice none 0 0) ([]:(List api_Row))) (rL_nil _ _ _)
 have S:=S.learn (fRep r_api_Chart (.agg #[iv 0,.slice none 0 0]) (api_Chart.mk 0 ([]:(List api_Row)))) ⟨_,d,S.mem.know (i:=0) (e:=fRep (rL r_api_Row) (.slice none 0 0) ([]:(List api_Row))) d⟩
 exact wp_ret (rThen (rThen (rBlock (rThen (rThen (rBlock (rThen (sRet (.tuple #[.agg #[iv 0,.slice none 0 0],iv 12]) S (rsl2 d (rvN (c:=2) (t:=42) (T:=42) (p:=b2) 0 [iv 0,.slice none 0 0] S d d d d) (rvT (t:=3) (v:=iv 12) S d)) ⟨(.agg #[iv 0,.slice none 0 0]),d,S.mem.sel [] [0] (by decide) d d⟩))))))))
noncomputable def F_raddlelaw46_knit (p0:ByteArray):Option api_Chart:=
 (F_raddleref26_Parse p0).bind fun r4=>
 some r4.1
def c_raddlelaw46_knit_val (r:api_Chart) (x:Value):Value:=x
def c_raddlelaw46_knit_D (r:api_Chart) (x:Value):List Fact:=[fRep r_api_Chart x r]
theorem c_raddlelaw46_knit (E:Nat→Prop) (w0:World) (p0:ByteArray) (r:api_Chart) (h:F_raddlelaw46_knit p0=some r) (S:St0 E [] w0 w0 [] []) :
 Calls Try.prog 43 #[.string p0] w0 (Ret (X:=Value) E [] w0 (c_raddlelaw46_knit_val r) (fun _=>[]) (c_raddlelaw46_knit_D r)):=by
 unfold F_raddlelaw46_knit at h
 refine sEnter (args:=[.string p0]) 11 Try.func43 d d (by simp) S (fun a S=>?_)
 refine sSeq (fun K1 a9=>sRegion (sAlloc (.agg #[iv 0,.slice none 0 0]) S (wN d) d d [iv 0,.slice none 0 0] d d (lb d) fun a b2 w S=>lT (a9 _ _ (sSeq (fun K3 aa=>sRegion (sM S fun a S=>?_))))))
 obtain ⟨r4,ab,h⟩:=bS h
 refine sCall (X:=Value) (f:=79) (vs:=[.string p0]) (val:=c_raddleref26_Parse_val r4) (B':=fun _=>[]) (D':=c_raddleref26_Parse_D r4) [] [eBox b2 42 [iv 0,.slice none 0 0]] [] [0] [] S (wN d) d callee79 d (by decide) d d (fun E1 w1 S1=>c_raddleref26_Parse E1 w1 p0 r4 ab S1) d (lb d) fun u6 a w S=>?_
 obtain ⟨u7,rfl,a7⟩:=S.mem.know (i:=0) (e:=fRep r_api_Chart (u6) r4.1) d
 have S:=S.learn (fRep (rL r_api_Row) u7 r4.1.Rows) a7
 obtain ⟨a5,a0,_,rfl,_⟩:=a7
 refine sM S fun a S=>?_
 refine sExtract (vs:=[.agg #[iv r4.1.Start,.slice a5 r4.1.Rows.length a0],iv r4.2]) (.agg #[iv r4.1.Start,.slice a5 r4.1.Rows.length a0]) S (wN d) d d d d (lb d) fun a S=>sExtract (vs:=[.agg #[iv r4.1.Start,.slice a5 r4.1.Rows.length a0],iv r4.2]) (iv r4.2) S (wN d) d d d d (lb d) fun a S=>sAlloc (.agg #[iv 0,.slice none 0 0]) S (wN d) d d [iv 0,.slice none 0 0] d d (lb d) fun a a8 w S=>sStore (p:=a8) (off:=0) (T:=42) (vs:=[iv 0,.slice none 0 0]) (v:=.agg #[iv r4.1.Start,.slice a5 r4.1.Rows.length a0]) 0 [iv r4.1.Start,.slice a5 r4.1.Rows.length a0] S (wN d) d d d d d d d (by simp) d fun a w S=>sN S fun a S=>?_
 refine lT (aa _ _ (sSeq (fun ac a6=>sRegion (sLoadN (p:=a8) (off:=0) (T:=42) (vs:=[iv r4.1.Start,.slice a5 r4.1.Rows.length a0]) 0 [iv r4.1.Start,.slice a5 r4.1.Rows.length a0] S (wN d) d d d d d d d (lb d) fun a S=>sStore (p:=b2) (off:=0) (T:=42) (vs:=[iv 0,.slice none 0 0]) (v:=.agg #[iv r4.1.Start,.slice a5 r4.1.Rows.length a0]) 1 [iv r4.1.Start,.slice a5 r4.1.Rows.length a0] S (wN d) d d d d d d d (by simp) d fun a w S=>lT (a6 _ _ ?_)))))
 obtain rfl:=tS h
 exact wp_ret (sRet (.agg #[iv r4.1.Start,.slice a5 r4.1.Rows.length a0]) S (rsl1 d (rvN (c:=2) (t:=42) (T:=42) (p:=b2) 0 [iv r4.1.Start,.slice a5 r4.1.Rows.length a0] S d d d d)) ⟨(.agg #[iv r4.1.Start,.slice a5 r4.1.Rows.length a0]),d,S.mem.sel [] [1] (by decide) d d⟩)
def K_raddleref01_Parse_l1 (p0:ByteArray):Int→Option (Int ⊕ Int):=fun s0=>match s0 with
 | s7=>
  Option.bind (α:=Bool) (
   if decide (s7 < (p0.size:Int)) then
    Option.bind (idxS p0 s7) fun x17=>
    some (x17 != 10)
   else
    some false) fun o13=>
  if o13 then
   some (.inl (w64 (s7 + 1)))
  else
   some (.inr s7)
def K_raddleref01_Zero_s0 (p0:Int) (p1:Int):Option api_Grid:=
 Option.bind (makeO (w64 (p0 * p1)) false) fun m6=>
 some (api_Grid.mk p0 p1 m6)
def K_raddleref01_Set_s0 (p0:Int) (p1:Int) (p2:(List Bool)) (p3:Int) (p4:Int) (p5:Bool):Option (List Bool):=
 Option.bind (idxO p2 (w64 ((w64 (p4 * p0)) + p3))) fun x3=>
 Option.bind (setO p2 (w64 ((w64 (p4 * p0)) + p3)) p5) fun l8=>
 (keepO p2 l8).bind fun _=>
 some l8
def K_raddleref01_Parse_l2 (p0:ByteArray) (o4:Int) (r36:api_Grid):(Int × List Bool)→Option ((Int × List Bool) ⊕ ((api_Grid × Int) ⊕ (List Bool))):=fun s0=>match s0 with
 | (s45,s46)=>
  if decide (s45 < (p0.size:Int)) then
   Option.bind (α:=List Bool ⊕ (api_Grid × Int)) (
    Option.bind (remI s45 (w64 (o4 + 1))) fun z58=>
    Option.bind (quoI s45 (w64 (o4 + 1))) fun z60=>
    Option.bind (α:=Bool) (
     Option.bind (idxS p0 s45) fun x66=>
     if (x66 == 10) != (z58 == o4) then
      some true
     else
      if x66 != 10 then
       if x66 != 120 then
        some (x66 != 46)
       else
        some false
      else
       some false) fun o63=>
    if o63 then
     some (.inr ((api_Grid.mk 0 0 ([]:(List Bool))),12))
    else
     Option.bind (idxS p0 s45) fun x74=>
     if x74 == 120 then
      Option.bind (K_raddleref01_Set_s0 r36.W r36.H s46 z58 (w64 ((w64 (r36.H - 1)) - z60)) true) fun r77=>
      some (.inl r77)
     else
      some (.inl s46)) fun z0=>match z0 with
    | .inl o54=>
     some (.inl (w64 (s45 + 1),o54))
    | .inr z=>
     some (.inr (.inl z))
  else
   some (.inr (.inr s46))
def K_raddleref01_Parse (p0:ByteArray):Option (api_Grid × Int):=
 Option.bind (α:=Int) (
  Option.bind (whileK (K_raddleref01_Parse_l1 p0) 0) fun e11=>
   some e11) fun o4=>
 Option.bind (α:=Bool) (
  if decide (o4 < 1) then
   some true
  else
   if decide (64 < o4) then
    some true
   else
    Option.bind (remI (p0.size:Int) (w64 (o4 + 1))) fun z26=>
    if z26 != 0 then
     some true
    else
     Option.bind (quoI (p0.size:Int) (w64 (o4 + 1))) fun z29=>
     some (decide (64 < z29))) fun o21=>
 if o21 then
  some ((api_Grid.mk 0 0 ([]:(List Bool))),12)
 else
  Option.bind (quoI (p0.size:Int) (w64 (o4 + 1))) fun z34=>
  Option.bind (K_raddleref01_Zero_s0 o4 z34) fun r36=>
  Option.bind (α:=List Bool ⊕ (api_Grid × Int)) (
   Option.bind (whileK (K_raddleref01_Parse_l2 p0 o4 r36) (0,r36.Bits)) fun z0=>match z0 with
    | .inl z=>
     some (.inr z)
    | .inr e50=>
     some (.inl e50)) fun z0=>match z0 with
   | .inl o41=>
    some ((api_Grid.mk r36.W r36.H o41),0)
   | .inr z=>
    some z
def K_raddlelaw46_cloth (p0:ByteArray):Option api_Grid:=
 Option.bind (K_raddleref01_Parse p0) fun r4=>
 some r4.1
def K_grid_Check (p0:api_Grid):Option Int:=
 if decide (64 < (if p0.W < p0.H then p0.H else p0.W)) then
  some 4
 else
  Option.bind (α:=Bool) (
   if decide ((if p0.H < p0.W then p0.H else p0.W) < 1) then
    some true
   else
    some ((p0.Bits.length:Int) != (w64 (p0.W * p0.H)))) fun o11=>
  if o11 then
   some 8
  else
   some 0
def K_compare_differ_l1 (p0:(List Bool)) (p1:(List Bool)):(Int × Int)→Option ((Int × Int) ⊕ Int):=fun s0=>match s0 with
 | (s11,s12)=>
  if decide (s12 < (p0.length:Int)) then
   Option.bind (α:=Int) (
    Option.bind (idxO p0 s12) fun x24=>
    Option.bind (idxO p1 s12) fun x30=>
    if x24 != x30 then
     some (w64 (s11 + 1))
    else
     some s11) fun o20=>
   some (.inl (o20,w64 (s12 + 1)))
  else
   some (.inr s11)
def K_compare_differ (p0:(List Bool)) (p1:(List Bool)):Option Int:=
 Option.bind (α:=Int) (
  Option.bind (whileK (K_compare_differ_l1 p0 p1) (0,0)) fun e16=>
   some e16) fun o7=>
 some o7
def K_compare_Cells (p0:api_Grid) (p1:api_Grid):Option (Int × Int):=
 Option.bind (K_grid_Check p0) fun r14=>
 if r14 != 0 then
  some (0,r14)
 else
  Option.bind (K_grid_Check p1) fun r21=>
  if r21 != 0 then
   some (0,r21)
  else
   Option.bind (α:=Bool) (
    if p0.W != p1.W then
     some true
    else
     some (p0.H != p1.H)) fun o27=>
   if o27 then
    some (0,2)
   else
    Option.bind (K_compare_differ p0.Bits p1.Bits) fun r34=>
    some (r34,0)
def K_compare_ways (p0:api_Grid) (p1:Int):Option (Int × api_Grid):=
 some (p1,p0)
def K_symmetry_check_l1 (p0:(List api_Grid)):Int→Option (Int ⊕ (Int ⊕ Unit)):=fun s0=>match s0 with
 | s7=>
  if decide (s7 < (p0.length:Int)) then
   Option.bind (idxO p0 s7) fun x16=>
   Option.bind (K_grid_Check x16) fun r27=>
   if r27 != 0 then
    some (.inr (.inl r27))
   else
    some (.inl (w64 (s7 + 1)))
  else
   some (.inr (.inr ()))
def K_symmetry_check_l2 (p0:(List api_Grid)):Int→Option (Int ⊕ (Int ⊕ Unit)):=fun s0=>match s0 with
 | s35=>
  if decide (s35 < (p0.length:Int)) then
   Option.bind (idxO p0 s35) fun x44=>
   if decide (16 < (if x44.W < x44.H then x44.H else x44.W)) then
    some (.inr (.inl 4))
   else
    some (.inl (w64 (s35 + 1)))
  else
   some (.inr (.inr ()))
def K_symmetry_check (p0:(List api_Grid)):Option Int:=
 Option.bind (α:=Unit ⊕ Int) (
  Option.bind (whileK (K_symmetry_check_l1 p0) 0) fun z0=>match z0 with
   | .inl z=>
    some (.inr z)
   | .inr _=>
    some (.inl ())) fun z0=>match z0 with
  | .inl _=>
   Option.bind (α:=Unit ⊕ Int) (
    Option.bind (whileK (K_symmetry_check_l2 p0) 0) fun z0=>match z0 with
     | .inl z=>
      some (.inr z)
     | .inr _=>
      some (.inl ())) fun z0=>match z0 with
    | .inl _=>
     some 0
    | .inr z=>
     some z
  | .inr z=>
   some z
def K_symmetry_is (p0:Int):Option Bool:=
 Option.bind (α:=Bool) (
  if decide (0 ≤ p0) then
   some (decide (p0 < 16))
  else
   some false) fun o2=>
 some o2
def K_symmetry_applied_l1 (o9:Int) (p1:Int) (s23:Int) (p0:api_Grid):(Int × List Bool)→Option ((Int × List Bool) ⊕ List Bool):=fun s0=>match s0 with
 | (s43,s44)=>
  if decide (s43 < o9) then
   Option.bind (α:=(Int × Int)) (
    if (andI .i64 p1 4) != 0 then
     some (s23,s43)
    else
     some (s43,s23)) fun (o59,o60)=>
   Option.bind (α:=Int) (
    if (andI .i64 p1 1) != 0 then
     some (w64 ((w64 (p0.W - 1)) - o59))
    else
     some o59) fun o65=>
   Option.bind (α:=Int) (
    if (andI .i64 p1 2) != 0 then
     some (w64 ((w64 (p0.H - 1)) - o60))
    else
     some o60) fun o70=>
   Option.bind (idxO p0.Bits (w64 ((w64 (o70 * p0.W)) + o65))) fun x75=>
   Option.bind (appO s44 [x75 != ((andI .i64 p1 8) != 0)]) fun l82=>
   some (.inl (w64 (s43 + 1),l82))
  else
   some (.inr s44)
def K_symmetry_applied_l2 (o10:Int) (o9:Int) (p1:Int) (p0:api_Grid):(Int × List Bool)→Option ((Int × List Bool) ⊕ List Bool):=fun s0=>match s0 with
 | (s23,s24)=>
  if decide (s23 < o10) then
   Option.bind (α:=List Bool) (
    Option.bind (whileK (K_symmetry_applied_l1 o9 p1 s23 p0) (0,s24)) fun e50=>
     some e50) fun o36=>
   some (.inl (w64 (s23 + 1),o36))
  else
   some (.inr s24)
def K_symmetry_applied (p0:api_Grid) (p1:Int):Option api_Grid:=
 Option.bind (α:=(Int × Int)) (
  if (andI .i64 p1 4) != 0 then
   some (p0.H,p0.W)
  else
   some (p0.W,p0.H)) fun (o9,o10)=>
 Option.bind (α:=List Bool) (
  Option.bind (whileK (K_symmetry_applied_l2 o10 o9 p1 p0) (0,([]:List Bool))) fun e30=>
   some e30) fun o17=>
 some (api_Grid.mk o9 o10 o17)
def K_symmetry_Apply (p0:api_Grid) (p1:Int):Option (api_Grid × Int):=
 Option.bind (K_symmetry_check [p0]) fun r12=>
 if r12 != 0 then
  some ((api_Grid.mk 0 0 ([]:(List Bool))),r12)
 else
  Option.bind (K_symmetry_is p1) fun r19=>
  if !r19 then
   some ((api_Grid.mk 0 0 ([]:(List Bool))),2)
  else
   Option.bind (K_symmetry_applied p0 p1) fun r24=>
   some (r24,0)
def K_grid_around (p0:Int) (p1:Int):Option Int:=
 Option.bind (α:=Int) (
  Option.bind (remI p0 p1) fun z6=>
  if decide (z6 < 0) then
   some (w64 (z6 + p1))
  else
   some z6) fun o2=>
 some o2
def K_grid_Shift_1_s0 (p0:Int) (p1:Int) (p2:api_Grid) (p3:Int) (p4:Int):Option Bool:=
 Option.bind (K_grid_around (w64 (p1 - p3)) p2.H) fun r12=>
 Option.bind (K_grid_around (w64 (p0 - p4)) p2.W) fun r21=>
 Option.bind (idxO p2.Bits (w64 ((w64 (r12 * p2.W)) + r21))) fun x23=>
 some x23
def K_grid_build_s0_l1 (p0:Int) (s15:Int) (p2:api_Grid) (p3:Int) (p4:Int):(Int × List Bool)→Option ((Int × List Bool) ⊕ List Bool):=fun s0=>match s0 with
 | (s35,s36)=>
  if decide (s35 < p0) then
   Option.bind (K_grid_Shift_1_s0 s35 s15 p2 p3 p4) fun r50=>
   Option.bind (appO s36 [r50]) fun l54=>
   some (.inl (w64 (s35 + 1),l54))
  else
   some (.inr s36)
def K_grid_build_s0_l2 (p1:Int) (p0:Int) (p2:api_Grid) (p3:Int) (p4:Int):(Int × List Bool)→Option ((Int × List Bool) ⊕ List Bool):=fun s0=>match s0 with
 | (s15,s16)=>
  if decide (s15 < p1) then
   Option.bind (α:=List Bool) (
    Option.bind (whileK (K_grid_build_s0_l1 p0 s15 p2 p3 p4) (0,s16)) fun e42=>
     some e42) fun o28=>
   some (.inl (w64 (s15 + 1),o28))
  else
   some (.inr s16)
def K_grid_build_s0 (p0:Int) (p1:Int) (p2:api_Grid) (p3:Int) (p4:Int):Option api_Grid:=
 Option.bind (capO (w64 (p0 * p1))) fun z6=>
 Option.bind (α:=List Bool) (
  Option.bind (whileK (K_grid_build_s0_l2 p1 p0 p2 p3 p4) (0,([]:List Bool))) fun e22=>
   some e22) fun o9=>
 some (api_Grid.mk p0 p1 o9)
def K_grid_Shift (p0:api_Grid) (p1:Int) (p2:Int):Option (api_Grid × Int):=
 Option.bind (K_grid_Check p0) fun r12=>
 if r12 != 0 then
  some ((api_Grid.mk 0 0 ([]:(List Bool))),r12)
 else
  Option.bind (K_grid_around p1 p0.W) fun r18=>
  Option.bind (K_grid_around p2 p0.H) fun r20=>
  Option.bind (K_grid_build_s0 p0.W p0.H p0 r20 r18) fun r23=>
  some (r23,0)
def K_compare_ways_1_l1 {σ τ:Type} (p1:api_Grid) (r24:(api_Grid × Int)) (s36:Int) (B:σ→(compare_way × api_Grid)→Option (σ ⊕ τ)) (s6:Int):(Int × σ)→Option ((Int × σ) ⊕ ((σ ⊕ τ) ⊕ (σ))):=fun s0=>match s0 with
 | (s53,gz54)=>
  if decide (s53 < p1.W) then
   Option.bind (K_grid_Shift r24.1 s53 s36) fun r70=>
   Option.bind (B gz54 ((compare_way.mk s6 (api_Point.mk s53 s36)),r70.1)) fun y80=>
   match y80 with
   | .inl gz82=>
    some (.inl (w64 (s53 + 1),gz82))
   | .inr tz83=>
    some (.inr (.inl (.inr tz83)))
  else
   some (.inr (.inr gz54))
def K_compare_ways_1_l2 {σ τ:Type} (p1:api_Grid) (r24:(api_Grid × Int)) (B:σ→(compare_way × api_Grid)→Option (σ ⊕ τ)) (s6:Int):(Int × σ)→Option ((Int × σ) ⊕ ((σ ⊕ τ) ⊕ (σ))):=fun s0=>match s0 with
 | (s36,gz37)=>
  if decide (s36 < p1.H) then
   Option.bind (α:=σ ⊕ (σ ⊕ τ)) (
    Option.bind (whileK (K_compare_ways_1_l1 p1 r24 s36 B s6) (0,gz37)) fun z0=>match z0 with
     | .inl z=>
      some (.inr z)
     | .inr gz58=>
      some (.inl gz58)) fun z0=>match z0 with
    | .inl gz45=>
     some (.inl (w64 (s36 + 1),gz45))
    | .inr z=>
     some (.inr (.inl z))
  else
   some (.inr (.inr gz37))
def K_compare_ways_1_l3 {σ τ:Type} (x3:Int) (p1:api_Grid) (B:σ→(compare_way × api_Grid)→Option (σ ⊕ τ)):(Int × σ)→Option ((Int × σ) ⊕ ((σ ⊕ τ) ⊕ (σ))):=fun s0=>match s0 with
 | (s6,gz7)=>
  if decide (s6 ≤ x3) then
   Option.bind (α:=σ ⊕ (σ ⊕ τ)) (
    Option.bind (K_symmetry_Apply p1 s6) fun r24=>
    Option.bind (whileK (K_compare_ways_1_l2 p1 r24 B s6) (0,gz7)) fun z0=>match z0 with
     | .inl z=>
      some (.inr z)
     | .inr gz41=>
      some (.inl gz41)) fun z0=>match z0 with
    | .inl gz15=>
     some (.inl (w64 (s6 + 1),gz15))
    | .inr z=>
     some (.inr (.inl z))
  else
   some (.inr (.inr gz7))
def K_I_compare_ways_1 (p0:Int) (p1:api_Grid) (σ τ:Type) (B:σ→(compare_way × api_Grid)→Option (σ ⊕ τ)) (gz0:σ):Option (σ ⊕ τ):=
 Option.bind (idxO ([0,3,7,15]:List Int) p0) fun x3=>
 Option.bind (whileK (K_compare_ways_1_l3 x3 p1 B) (0,gz0)) fun z0=>match z0 with
  | .inl z=>
   some z
  | .inr gz11=>
   some (.inl gz11)
def K_compare_Nearest_l2 (p1:api_Grid):(Int × Int × Int × Int)→(compare_way × api_Grid)→Option ((Int × Int × Int × Int) ⊕ (Int × Int × Int × Int)):=fun s0 x0=>match s0,x0 with
 | (s57,s58,s59,s60),(x65,x67)=>
  Option.bind (α:=(Int × Int × Int × Int)) (
   Option.bind (K_compare_differ x67.Bits p1.Bits) fun r83=>
   if decide (r83 < s57) then
    some (r83,x65.op,x65.at_.X,x65.at_.Y)
   else
    some (s57,s58,s59,s60)) fun (o76,o77,o78,o79)=>
  if o76 == 0 then
   some (.inr (o76,o77,o78,o79))
  else
   some (.inl (o76,o77,o78,o79))
def K_compare_Nearest (p0:api_Grid) (p1:api_Grid) (p2:Int):Option (Int × Int × api_Point × Int):=
 Option.bind (K_grid_Check p0) fun r15=>
 if r15 != 0 then
  some (0,0,(api_Point.mk 0 0),r15)
 else
  Option.bind (K_grid_Check p1) fun r22=>
  if r22 != 0 then
   some (0,0,(api_Point.mk 0 0),r22)
  else
   if decide (16 < (max4 p0.W p0.H p1.W p1.H)) then
    some (0,0,(api_Point.mk 0 0),4)
   else
    Option.bind (α:=Bool) (
     if decide (p2 < 0) then
      some true
     else
      if decide (3 < p2) then
       some true
      else
       if p0.W != p1.W then
        some true
       else
        if p0.H != p1.H then
         some true
        else
         if decide (1 < p2) then
          some (p0.W != p0.H)
         else
          some false) fun o32=>
    if o32 then
     some (0,0,(api_Point.mk 0 0),2)
    else
     Option.bind (α:=(Int × Int × Int × Int)) (
      Option.bind (K_compare_ways p0 p2) fun r53=>
      Option.bind (K_I_compare_ways_1 r53.1 r53.2 _ _ (K_compare_Nearest_l2 p1) (w64 ((p0.Bits.length:Int) + 1),0,0,0)) fun z0=>match z0 with
       | .inl (s57,s58,s59,s60)=>
        some (s57,s58,s59,s60)
       | .inr (e61,e62,e63,e64)=>
        some (e61,e62,e63,e64)) fun (o45,o46,o47,o48)=>
     some (o45,o46,(api_Point.mk o47 o48),0)
def K_raddleref25_Cut_l1 (p0:ByteArray) (p1:Int):(List ByteArray × Int × Int)→Option ((List ByteArray × Int × Int) ⊕ List ByteArray):=fun s0=>match s0 with
 | (s10,s13,s14)=>
  if decide (s14 ≤ (p0.size:Int)) then
   Option.bind (α:=(List ByteArray × Int)) (
    Option.bind (α:=Bool) (
     if s14 == (p0.size:Int) then
      some true
     else
      Option.bind (idxS p0 s14) fun x34=>
      some (x34 == p1)) fun o30=>
    if o30 then
     Option.bind (sliceS p0 s13 s14) fun y38=>
     Option.bind (appO s10 [y38]) fun l42=>
     some (l42,w64 (s14 + 1))
    else
     some (s10,s13)) fun (o24,o27)=>
   some (.inl (o24,o27,w64 (s14 + 1)))
  else
   some (.inr s10)
def K_raddleref25_Cut (p0:ByteArray) (p1:Int):Option (List ByteArray):=
 Option.bind (α:=List ByteArray) (
  Option.bind (whileK (K_raddleref25_Cut_l1 p0 p1) (([]:List ByteArray),0,0)) fun e18=>
   some e18) fun o4=>
 some o4
def K_raddleref25_Number_l1 (p0:ByteArray):(Int × Int)→Option ((Int × Int) ⊕ ((Int × Bool) ⊕ Int)):=fun s0=>match s0 with
 | (s18,s19)=>
  if decide (s19 < (p0.size:Int)) then
   Option.bind (α:=Bool) (
    Option.bind (idxS p0 s19) fun x32=>
    if decide (x32 < 48) then
     some true
    else
     some (decide (57 < x32))) fun o29=>
   if o29 then
    some (.inr (.inl (0,false)))
   else
    Option.bind (idxS p0 s19) fun x37=>
    some (.inl (w64 ((w64 (10 * s18)) + (IntKind.i64.wrap (IntKind.u8.wrap (x37 - 48)))),w64 (s19 + 1)))
  else
   some (.inr (.inr s18))
def K_raddleref25_Number (p0:ByteArray):Option (Int × Bool):=
 Option.bind (α:=Bool) (
  if (p0.size:Int) == 0 then
   some true
  else
   if decide (4 < (p0.size:Int)) then
    some true
   else
    if decide (1 < (p0.size:Int)) then
     Option.bind (idxS p0 0) fun x9=>
     some (x9 == 48)
    else
     some false) fun o3=>
 if o3 then
  some (0,false)
 else
  Option.bind (α:=Int ⊕ (Int × Bool)) (
   Option.bind (whileK (K_raddleref25_Number_l1 p0) (0,0)) fun z0=>match z0 with
    | .inl z=>
     some (.inr z)
    | .inr e23=>
     some (.inl e23)) fun z0=>match z0 with
   | .inl o14=>
    some (o14,true)
   | .inr z=>
    some z
def K_raddleref25_word_l1 (r49:(Int × Bool)) (x35:Int):(List api_Stitch × Int)→Option ((List api_Stitch × Int) ⊕ List api_Stitch):=fun s0=>match s0 with
 | (s60,s63)=>
  Option.bind (α:=Bool) (
   if decide (s63 < r49.1) then
    some (decide (s63 < 300))
   else
    some false) fun o71=>
  if o71 then
   Option.bind (appO s60 [(api_Stitch.mk 1 (x35 == 112) 0 0)]) fun l79=>
   some (.inl (l79,w64 (s63 + 1)))
  else
   some (.inr s60)
def K_raddleref25_kind_l1 (p0:Int):Int→Option (Int ⊕ (Int ⊕ Unit)):=fun s0=>match s0 with
 | s9=>
  if decide (s9 < ((⟨#[102,108,109,120,121,115,111]⟩:ByteArray).size:Int)) then
   Option.bind (idxS (⟨#[102,108,109,120,121,115,111]⟩:ByteArray) s9) fun x18=>
   if x18 == p0 then
    Option.bind (idxO ([3,4,5,6,7,8,10]:List Int) s9) fun x22=>
    some (.inr (.inl x22))
   else
    some (.inl (w64 (s9 + 1)))
  else
   some (.inr (.inr ()))
def K_raddleref25_kind (p0:Int):Option Int:=
 Option.bind (α:=Unit ⊕ Int) (
  Option.bind (whileK (K_raddleref25_kind_l1 p0) 0) fun z0=>match z0 with
   | .inl z=>
    some (.inr z)
   | .inr _=>
    some (.inl ())) fun z0=>match z0 with
  | .inl _=>
   some 0
  | .inr z=>
   some z
def K_raddleref25_word (p0:ByteArray):Option ((List api_Stitch) × Bool):=
 if p0 == (⟨#[121,111]⟩:ByteArray) then
  some ([(api_Stitch.mk 2 false 0 0)],true)
 else
  Option.bind (α:=Bool) (
   if decide (2 < (p0.size:Int)) then
    Option.bind (sliceS p0 0 2) fun y13=>
    some (y13 == (⟨#[111,110]⟩:ByteArray))
   else
    some false) fun o9=>
  if o9 then
   Option.bind (sliceS p0 2 (p0.size:Int)) fun y17=>
   Option.bind (K_raddleref25_Number y17) fun r19=>
   some ([(api_Stitch.mk 9 false r19.1 0)],r19.2)
  else
   Option.bind (α:=Bool) (
    if (p0.size:Int) == 0 then
     some true
    else
     Option.bind (idxS p0 0) fun x29=>
     if x29 != 107 then
      some (x29 != 112)
     else
      some false) fun o25=>
   if o25 then
    some (([]:(List api_Stitch)),false)
   else
    Option.bind (idxS p0 0) fun x35=>
    if (p0.size:Int) == 1 then
     some ([(api_Stitch.mk 1 (x35 == 112) 0 0)],true)
    else
     Option.bind (α:=Unit ⊕ ((List api_Stitch) × Bool)) (
      Option.bind (sliceS p0 1 (p0.size:Int)) fun y47=>
      Option.bind (K_raddleref25_Number y47) fun r49=>
      if r49.2 then
       Option.bind (α:=List api_Stitch) (
        Option.bind (whileK (K_raddleref25_word_l1 r49 x35) (([]:List api_Stitch),0)) fun e67=>
         some e67) fun o54=>
       some (.inr (o54,decide (1 < r49.1)))
      else
       some (.inl ())) fun z0=>match z0 with
      | .inl _=>
       Option.bind (idxS p0 1) fun x85=>
       Option.bind (K_raddleref25_kind x85) fun r87=>
       if r87 == 8 then
        some ([(api_Stitch.mk r87 (x35 == 112) 0 0)],(p0.size:Int) == 2)
       else
        Option.bind (sliceS p0 2 (p0.size:Int)) fun y96=>
        Option.bind (K_raddleref25_Cut y96 47) fun r98=>
        Option.bind (α:=Bool) (
         if r87 != 0 then
          some ((r98.length:Int) == 1)
         else
          some false) fun o103=>
        Option.bind (α:=(Bool × Int)) (
         Option.bind (α:=Bool) (
          if r87 == 6 then
           some true
          else
           some (r87 == 7)) fun o111=>
         if o111 then
          if (r98.length:Int) == 2 then
           Option.bind (idxO r98 1) fun x119=>
           Option.bind (K_raddleref25_Number x119) fun r124=>
           some (r124.2,r124.1)
          else
           some ((r98.length:Int) == 2,0)
         else
          some (o103,0)) fun (o107,o108)=>
        Option.bind (idxO r98 0) fun x127=>
        Option.bind (K_raddleref25_Number x127) fun r132=>
        Option.bind (α:=Bool) (
         if o107 then
          some r132.2
         else
          some false) fun o137=>
        some ([(api_Stitch.mk r87 (x35 == 112) r132.1 o108)],o137)
      | .inr z=>
       some z
def K_raddleref25_Parse_l1 (r11:(List ByteArray)):(List api_Stitch × Int)→Option ((List api_Stitch × Int) ⊕ (((List api_Stitch) × Int) ⊕ (List api_Stitch))):=fun s0=>match s0 with
 | (s23,s26)=>
  if decide (s26 < (r11.length:Int)) then
   Option.bind (idxO r11 s26) fun x38=>
   Option.bind (K_raddleref25_word x38) fun r43=>
   if !r43.2 then
    some (.inr (.inl (([]:(List api_Stitch)),12)))
   else
    Option.bind (appO s23 r43.1) fun l53=>
    if decide (200 < (l53.length:Int)) then
     some (.inr (.inl (([]:(List api_Stitch)),12)))
    else
     some (.inl (l53,w64 (s26 + 1)))
  else
   some (.inr (.inr s23))
def K_raddleref25_Check (p0:api_Stitch):Option Int:=
 Option.bind (α:=Bool) (
  if p0.A == 0 then
   some (p0.B == 0)
  else
   some false) fun o3=>
 Option.bind (α:=Bool) (
  Option.bind (α:=Bool) (
   if p0.Kind == 1 then
    some (p0.Kind == 1)
   else
    some (p0.Kind == 8)) fun o12=>
  if o12 then
   some o3
  else
   if p0.Kind == 2 then
    if o3 then
     some (!p0.Purl)
    else
     some false
   else
    Option.bind (α:=Bool) (
     if p0.Kind == 3 then
      some (p0.Kind == 3)
     else
      if p0.Kind == 4 then
       some (p0.Kind == 4)
      else
       some (p0.Kind == 5)) fun o21=>
    if o21 then
     if p0.B == 0 then
      if decide (2 ≤ p0.A) then
       some (decide (p0.A ≤ 4))
      else
       some false
     else
      some false
    else
     Option.bind (α:=Bool) (
      if p0.Kind == 6 then
       some (p0.Kind == 6)
      else
       some (p0.Kind == 7)) fun o31=>
     if o31 then
      if decide (1 ≤ p0.A) then
       if decide (p0.A ≤ 6) then
        if decide (1 ≤ p0.B) then
         some (decide (p0.B ≤ 6))
        else
         some false
       else
        some false
      else
       some false
     else
      if p0.Kind == 9 then
       if p0.B == 0 then
        if !p0.Purl then
         if decide (1 ≤ p0.A) then
          some (decide (p0.A ≤ 200))
         else
          some false
        else
         some false
       else
        some false
      else
       if p0.Kind == 10 then
        if p0.B == 0 then
         if decide (1 ≤ p0.A) then
          some (decide (p0.A ≤ 200))
         else
          some false
        else
         some false
       else
        some false) fun o8=>
 if !o8 then
  some 8
 else
  some 0
def K_raddleref25_All_l1 (p0:(List api_Stitch)):Int→Option (Int ⊕ (Int ⊕ Unit)):=fun s0=>match s0 with
 | s11=>
  if decide (s11 < (p0.length:Int)) then
   Option.bind (idxO p0 s11) fun x20=>
   Option.bind (K_raddleref25_Check x20) fun r25=>
   if r25 != 0 then
    some (.inr (.inl 8))
   else
    some (.inl (w64 (s11 + 1)))
  else
   some (.inr (.inr ()))
def K_raddleref25_Used (p0:api_Stitch):Option Int:=
 Option.bind (α:=Bool) (
  if p0.Kind == 2 then
   some (p0.Kind == 2)
  else
   some (p0.Kind == 9)) fun o5=>
 if o5 then
  some 0
 else
  Option.bind (α:=Bool) (
   if p0.Kind == 3 then
    some (p0.Kind == 3)
   else
    if p0.Kind == 4 then
     some (p0.Kind == 4)
    else
     some (p0.Kind == 10)) fun o12=>
  if o12 then
   some p0.A
  else
   Option.bind (α:=Bool) (
    if p0.Kind == 6 then
     some (p0.Kind == 6)
    else
     some (p0.Kind == 7)) fun o21=>
   if o21 then
    some (w64 (p0.A + p0.B))
   else
    some 1
def K_raddleref25_Gives (p0:api_Stitch):Option Int:=
 if p0.Kind == 10 then
  some 0
 else
  Option.bind (α:=Bool) (
   if p0.Kind == 5 then
    some (p0.Kind == 5)
   else
    some (p0.Kind == 9)) fun o8=>
  if o8 then
   some p0.A
  else
   Option.bind (α:=Bool) (
    if p0.Kind == 6 then
     some (p0.Kind == 6)
    else
     some (p0.Kind == 7)) fun o15=>
   if o15 then
    some (w64 (p0.A + p0.B))
   else
    some 1
def K_raddleref25_sums_l1 (p0:(List api_Stitch)):(Int × Int × Int)→Option ((Int × Int × Int) ⊕ (Int × Int)):=fun s0=>match s0 with
 | (s10,s11,s12)=>
  if decide (s12 < (p0.length:Int)) then
   Option.bind (idxO p0 s12) fun x23=>
   Option.bind (K_raddleref25_Used x23) fun r28=>
   Option.bind (K_raddleref25_Gives x23) fun r33=>
   some (.inl (w64 (s10 + r28),w64 (s11 + r33),w64 (s12 + 1)))
  else
   some (.inr (s10,s11))
def K_raddleref25_sums (p0:(List api_Stitch)):Option (Int × Int):=
 Option.bind (α:=(Int × Int)) (
  Option.bind (whileK (K_raddleref25_sums_l1 p0) (0,0,0)) fun (e16,e17)=>
   some (e16,e17)) fun (o5,o6)=>
 some (o5,o6)
def K_raddleref25_All (p0:(List api_Stitch)):Option Int:=
 if decide (200 < (p0.length:Int)) then
  some 4
 else
  Option.bind (α:=Unit ⊕ Int) (
   Option.bind (whileK (K_raddleref25_All_l1 p0) 0) fun z0=>match z0 with
    | .inl z=>
     some (.inr z)
    | .inr _=>
     some (.inl ())) fun z0=>match z0 with
   | .inl _=>
    Option.bind (K_raddleref25_sums p0) fun r30=>
    Option.bind (α:=Bool) (
     if decide (200 < r30.1) then
      some true
     else
      some (decide (200 < r30.2))) fun o33=>
    if o33 then
     some 4
    else
     some 0
   | .inr z=>
    some z
def K_raddleref25_Decimal_l1 :(Int × ByteArray)→Option ((Int × ByteArray) ⊕ ByteArray):=fun s0=>match s0 with
 | (s13,s14)=>
  if decide (0 < s13) then
   Option.bind (remI s13 10) fun z23=>
   Option.bind (addS (strO ([IntKind.u8.wrap (w64 (48 + z23))]:List Int)) s14) fun z27=>
   Option.bind (quoI s13 10) fun z29=>
   some (.inl (z29,z27))
  else
   some (.inr s14)
def K_raddleref25_Decimal (p0:Int):Option ByteArray:=
 Option.bind (remI p0 10) fun z3=>
 Option.bind (α:=ByteArray) (
  Option.bind (quoI p0 10) fun z11=>
  Option.bind (whileK (K_raddleref25_Decimal_l1) (z11,strO ([IntKind.u8.wrap (w64 (48 + z3))]:List Int))) fun e18=>
   some e18) fun o7=>
 some o7
def K_raddleref25_one (p0:api_Stitch):Option ByteArray:=
 Option.bind (α:=ByteArray) (
  if p0.Purl then
   some (⟨#[112]⟩:ByteArray)
  else
   some (⟨#[107]⟩:ByteArray)) fun o4=>
 if p0.Kind == 1 then
  some o4
 else
  if p0.Kind == 2 then
   some (⟨#[121,111]⟩:ByteArray)
  else
   if p0.Kind == 3 then
    Option.bind (addS o4 (⟨#[102]⟩:ByteArray)) fun z20=>
    Option.bind (K_raddleref25_Decimal p0.A) fun r22=>
    Option.bind (addS z20 r22) fun z24=>
    some z24
   else
    if p0.Kind == 4 then
     Option.bind (addS o4 (⟨#[108]⟩:ByteArray)) fun z29=>
     Option.bind (K_raddleref25_Decimal p0.A) fun r31=>
     Option.bind (addS z29 r31) fun z33=>
     some z33
    else
     if p0.Kind == 5 then
      Option.bind (addS o4 (⟨#[109]⟩:ByteArray)) fun z38=>
      Option.bind (K_raddleref25_Decimal p0.A) fun r40=>
      Option.bind (addS z38 r40) fun z42=>
      some z42
     else
      if p0.Kind == 6 then
       Option.bind (addS o4 (⟨#[120]⟩:ByteArray)) fun z47=>
       Option.bind (K_raddleref25_Decimal p0.A) fun r49=>
       Option.bind (addS z47 r49) fun z51=>
       Option.bind (addS z51 (⟨#[47]⟩:ByteArray)) fun z53=>
       Option.bind (K_raddleref25_Decimal p0.B) fun r55=>
       Option.bind (addS z53 r55) fun z57=>
       some z57
      else
       if p0.Kind == 7 then
        Option.bind (addS o4 (⟨#[121]⟩:ByteArray)) fun z62=>
        Option.bind (K_raddleref25_Decimal p0.A) fun r64=>
        Option.bind (addS z62 r64) fun z66=>
        Option.bind (addS z66 (⟨#[47]⟩:ByteArray)) fun z68=>
        Option.bind (K_raddleref25_Decimal p0.B) fun r70=>
        Option.bind (addS z68 r70) fun z72=>
        some z72
       else
        if p0.Kind == 8 then
         Option.bind (addS o4 (⟨#[115]⟩:ByteArray)) fun z77=>
         some z77
        else
         if p0.Kind == 9 then
          Option.bind (K_raddleref25_Decimal p0.A) fun r82=>
          Option.bind (addS (⟨#[111,110]⟩:ByteArray) r82) fun z84=>
          some z84
         else
          Option.bind (addS o4 (⟨#[111]⟩:ByteArray)) fun z87=>
          Option.bind (K_raddleref25_Decimal p0.A) fun r89=>
          Option.bind (addS z87 r89) fun z91=>
          some z91
def K_raddleref25_Written_l1 (p0:(List api_Stitch)):(Int × Int)→Option ((Int × Int) ⊕ (Int × Int)):=fun s0=>match s0 with
 | (s44,s45)=>
  Option.bind (α:=Bool) (
   Option.bind (idxO p0 s44) fun x55=>
   if x55.Kind == 1 then
    if decide ((w64 (s44 + 1)) < (p0.length:Int)) then
     Option.bind (idxO p0 (w64 (s44 + 1))) fun x64=>
     some ((x64.Kind == x55.Kind) && ((x64.Purl == x55.Purl) && ((x64.A == x55.A) && ((x64.B == x55.B) && true))))
    else
     some false
   else
    some false) fun o52=>
  if o52 then
   some (.inl (w64 (s44 + 1),w64 (s45 + 1)))
  else
   some (.inr (s44,s45))
def K_raddleref25_Written_l2 (p0:(List api_Stitch)):(ByteArray × Int)→Option ((ByteArray × Int) ⊕ ByteArray):=fun s0=>match s0 with
 | (s9,s10)=>
  if decide (s10 < (p0.length:Int)) then
   Option.bind (α:=(ByteArray × Int)) (
    Option.bind (α:=ByteArray) (
     if decide (0 < s10) then
      Option.bind (addS s9 (⟨#[32]⟩:ByteArray)) fun z27=>
      some z27
     else
      some s9) fun o22=>
    Option.bind (idxO p0 s10) fun x30=>
    Option.bind (K_raddleref25_one x30) fun r35=>
    Option.bind (addS o22 r35) fun z37=>
    Option.bind (α:=(Int × Int)) (
     Option.bind (whileK (K_raddleref25_Written_l1 p0) (s10,1)) fun (e49,e50)=>
      some (e49,e50)) fun (o40,o41)=>
    if decide (1 < o41) then
     Option.bind (K_raddleref25_Decimal o41) fun r97=>
     Option.bind (addS z37 r97) fun z99=>
     some (z99,o40)
    else
     some (z37,o40)) fun (o18,o19)=>
   some (.inl (o18,w64 (o19 + 1)))
  else
   some (.inr s9)
def K_raddleref25_Written (p0:(List api_Stitch)):Option ByteArray:=
 Option.bind (α:=ByteArray) (
  Option.bind (whileK (K_raddleref25_Written_l2 p0) ((⟨#[]⟩:ByteArray),0)) fun e14=>
   some e14) fun o5=>
 some o5
def K_raddleref25_Parse (p0:ByteArray):Option ((List api_Stitch) × Int):=
 if decide (3000 < (p0.size:Int)) then
  some (([]:(List api_Stitch)),12)
 else
  if p0 == (⟨#[]⟩:ByteArray) then
   some (([]:(List api_Stitch)),0)
  else
   Option.bind (K_raddleref25_Cut p0 32) fun r11=>
   Option.bind (α:=List api_Stitch ⊕ ((List api_Stitch) × Int)) (
    Option.bind (whileK (K_raddleref25_Parse_l1 r11) (([]:List api_Stitch),0)) fun z0=>match z0 with
     | .inl z=>
      some (.inr z)
     | .inr e30=>
      some (.inl e30)) fun z0=>match z0 with
    | .inl o17=>
     Option.bind (α:=Bool) (
      Option.bind (K_raddleref25_All o17) fun r64=>
      if r64 != 0 then
       some true
      else
       Option.bind (K_raddleref25_Written o17) fun r67=>
       some (r67 != p0)) fun o61=>
     if o61 then
      some (([]:(List api_Stitch)),12)
     else
      some (o17,0)
    | .inr z=>
     some z
def K_raddlelaw46_cells (p0:ByteArray):Option (List api_Stitch):=
 Option.bind (K_raddleref25_Parse p0) fun r3=>
 some r3.1
def K_stitch_forms (p0:Int):Option (stitch_form × Bool):=
 Option.bind (α:=Bool) (
  if decide (p0 < 1) then
   some true
  else
   some (decide (([(stitch_form.mk (⟨#[]⟩:ByteArray) (0,0) (0,0) true 1 1),(stitch_form.mk (⟨#[]⟩:ByteArray) (0,0) (0,0) false 0 1),(stitch_form.mk (⟨#[102]⟩:ByteArray) (2,4) (0,0) true 2 1),(stitch_form.mk (⟨#[108]⟩:ByteArray) (2,4) (0,0) true 2 1),(stitch_form.mk (⟨#[109]⟩:ByteArray) (2,4) (0,0) true 1 2),(stitch_form.mk (⟨#[120]⟩:ByteArray) (1,6) (1,6) true 3 3),(stitch_form.mk (⟨#[121]⟩:ByteArray) (1,6) (1,6) true 3 3),(stitch_form.mk (⟨#[115]⟩:ByteArray) (0,0) (0,0) true 1 1),(stitch_form.mk (⟨#[]⟩:ByteArray) (1,200) (0,0) false 0 2),(stitch_form.mk (⟨#[111]⟩:ByteArray) (1,200) (0,0) true 2 0)].length:Int) < (IntKind.i64.wrap p0)))) fun o12=>
 if o12 then
  some ((stitch_form.mk (⟨#[]⟩:ByteArray) (0,0) (0,0) false 0 0),false)
 else
  Option.bind (idxO [(stitch_form.mk (⟨#[]⟩:ByteArray) (0,0) (0,0) true 1 1),(stitch_form.mk (⟨#[]⟩:ByteArray) (0,0) (0,0) false 0 1),(stitch_form.mk (⟨#[102]⟩:ByteArray) (2,4) (0,0) true 2 1),(stitch_form.mk (⟨#[108]⟩:ByteArray) (2,4) (0,0) true 2 1),(stitch_form.mk (⟨#[109]⟩:ByteArray) (2,4) (0,0) true 1 2),(stitch_form.mk (⟨#[120]⟩:ByteArray) (1,6) (1,6) true 3 3),(stitch_form.mk (⟨#[121]⟩:ByteArray) (1,6) (1,6) true 3 3),(stitch_form.mk (⟨#[115]⟩:ByteArray) (0,0) (0,0) true 1 1),(stitch_form.mk (⟨#[]⟩:ByteArray) (1,200) (0,0) false 0 2),(stitch_form.mk (⟨#[111]⟩:ByteArray) (1,200) (0,0) true 2 0)] (IntKind.u8.wrap (p0 - 1))) fun x19=>
  some (x19,true)
def K_stitch_within (p0:Int) (p1:(Int × Int)):Option Bool:=
 Option.bind (α:=Bool) (
  if decide (p1.1 ≤ p0) then
   some (decide (p0 ≤ p1.2))
  else
   some false) fun o3=>
 some o3
def K_stitch_Check (p0:api_Stitch):Option Int:=
 Option.bind (K_stitch_forms p0.Kind) fun r4=>
 Option.bind (α:=Bool) (
  if !r4.2 then
   some true
  else
   Option.bind (K_stitch_within p0.A r4.1.a) fun r13=>
   if !r13 then
    some true
   else
    Option.bind (K_stitch_within p0.B r4.1.b) fun r16=>
    if !r16 then
     some true
    else
     if p0.Purl then
      some (!r4.1.sided)
     else
      some false) fun o9=>
 if o9 then
  some 8
 else
  some 0
def K_stitch_All_1 (p0:api_Stitch):Option Bool:=
 Option.bind (K_stitch_Check p0) fun r4=>
 some (r4 != 0)
def K_slices_IndexFunc___api_Stitch_api_Stitch__s0_l1 (p0:(List api_Stitch)):Int→Option (Int ⊕ (Int ⊕ Unit)):=fun s0=>match s0 with
 | s7=>
  if decide (s7 < (p0.length:Int)) then
   Option.bind (idxO p0 s7) fun x17=>
   Option.bind (K_stitch_All_1 x17) fun r22=>
   if r22 then
    some (.inr (.inl s7))
   else
    some (.inl (w64 (s7 + 1)))
  else
   some (.inr (.inr ()))
def K_slices_IndexFunc___api_Stitch_api_Stitch__s0 (p0:(List api_Stitch)):Option Int:=
 Option.bind (α:=Unit ⊕ Int) (
  Option.bind (whileK (K_slices_IndexFunc___api_Stitch_api_Stitch__s0_l1 p0) 0) fun z0=>match z0 with
   | .inl z=>
    some (.inr z)
   | .inr _=>
    some (.inl ())) fun z0=>match z0 with
  | .inl _=>
   some (-1)
  | .inr z=>
   some z
def K_slices_ContainsFunc___api_Stitch_api_Stitch__s0 (p0:(List api_Stitch)):Option Bool:=
 Option.bind (K_slices_IndexFunc___api_Stitch_api_Stitch__s0 p0) fun r5=>
 some (decide (0 ≤ r5))
def K_stitch_loops (p0:api_Stitch) (p1:Int):Option Int:=
 Option.bind (idxO ([0,1,p0.A,w64 (p0.A + p0.B)]:List Int) p1) fun x4=>
 some x4
def K_stitch_sum_l1 (p0:(List api_Stitch)):(Int × Int × Int)→Option ((Int × Int × Int) ⊕ (Int × Int)):=fun s0=>match s0 with
 | (s9,s10,s11)=>
  if decide (s11 < (p0.length:Int)) then
   Option.bind (idxO p0 s11) fun x22=>
   Option.bind (K_stitch_forms x22.Kind) fun r29=>
   Option.bind (K_stitch_loops x22 r29.1.uses) fun r34=>
   Option.bind (K_stitch_loops x22 r29.1.made) fun r36=>
   some (.inl (w64 (s9 + r34),w64 (s10 + r36),w64 (s11 + 1)))
  else
   some (.inr (s9,s10))
def K_stitch_sum (p0:(List api_Stitch)):Option (Int × Int):=
 Option.bind (α:=(Int × Int)) (
  Option.bind (whileK (K_stitch_sum_l1 p0) (0,0,0)) fun (e15,e16)=>
   some (e15,e16)) fun (o4,o5)=>
 some (o4,o5)
def K_stitch_All (p0:(List api_Stitch)):Option Int:=
 if decide (200 < (p0.length:Int)) then
  some 4
 else
  Option.bind (K_slices_ContainsFunc___api_Stitch_api_Stitch__s0 p0) fun r10=>
  if r10 then
   some 8
  else
   Option.bind (K_stitch_sum p0) fun r16=>
   if decide (200 < (if r16.1 < r16.2 then r16.2 else r16.1)) then
    some 4
   else
    some 0
def K_compare_Edits_l1 (p0:(List api_Stitch)) (p1:(List api_Stitch)):Int→Option (Int ⊕ (((List api_CellStep) × Int × Int) ⊕ Unit)):=fun s0=>match s0 with
 | s9=>
  if decide (s9 < 2) then
   Option.bind (idxO ([p0,p1]:List (List api_Stitch)) s9) fun x19=>
   Option.bind (K_stitch_All x19) fun r24=>
   if r24 != 0 then
    some (.inr (.inl (([]:(List api_CellStep)),0,r24)))
   else
    some (.inl (w64 (s9 + 1)))
  else
   some (.inr (.inr ()))
def K_compare_cellTable_1 (p0:api_Stitch):Option Int:=
 some 1
def K_compare_cellTable_2 (p0:api_Stitch) (p1:api_Stitch):Option Int:=
 if ((p0.Kind == p1.Kind) && ((p0.Purl == p1.Purl) && ((p0.A == p1.A) && ((p0.B == p1.B) && true)))) then
  some 0
 else
  some 1
def K_compare_table_api_Stitch__s0_l1 (s16:Int) (p0:(List api_Stitch)) (p1:(List api_Stitch)) (s15:List (List Int)):(Int × List Int)→Option ((Int × List Int) ⊕ List Int):=fun s0=>match s0 with
 | (s40,s41)=>
  if decide (0 ≤ s40) then
   Option.bind (α:=List Int) (
    Option.bind (α:=Bool) (
     if s16 == (p0.length:Int) then
      some (s40 == (p1.length:Int))
     else
      some false) fun o52=>
    if o52 then
     some s41
    else
     if s16 == (p0.length:Int) then
      Option.bind (idxO s41 (w64 (s40 + 1))) fun x65=>
      Option.bind (idxO p1 s40) fun x70=>
      Option.bind (K_compare_cellTable_1 x70) fun r75=>
      Option.bind (idxO s41 s40) fun x77=>
      Option.bind (setO s41 s40 (w64 (x65 + r75))) fun l82=>
      some l82
     else
      if s40 == (p1.length:Int) then
       Option.bind (idxO s15 (w64 (s16 + 1))) fun x104=>
       Option.bind (idxO x104 s40) fun x112=>
       Option.bind (idxO p0 s16) fun x117=>
       Option.bind (K_compare_cellTable_1 x117) fun r122=>
       Option.bind (idxO s41 s40) fun x124=>
       Option.bind (setO s41 s40 (w64 (x112 + r122))) fun l129=>
       some l129
      else
       Option.bind (idxO s15 (w64 (s16 + 1))) fun x152=>
       Option.bind (idxO x152 s40) fun x160=>
       Option.bind (idxO p0 s16) fun x165=>
       Option.bind (K_compare_cellTable_1 x165) fun r170=>
       Option.bind (idxO s41 (w64 (s40 + 1))) fun x175=>
       Option.bind (idxO p1 s40) fun x180=>
       Option.bind (K_compare_cellTable_1 x180) fun r185=>
       Option.bind (idxO x152 (w64 (s40 + 1))) fun x193=>
       Option.bind (K_compare_cellTable_2 x165 x180) fun r204=>
       Option.bind (idxO s41 s40) fun x206=>
       Option.bind (setO s41 s40 (min3 (w64 (x160 + r170)) (w64 (x175 + r185)) (w64 (x193 + r204)))) fun l211=>
       some l211) fun o49=>
   some (.inl (w64 (s40 - 1),o49))
  else
   some (.inr s41)
def K_compare_table_api_Stitch__s0_l2 (p1:(List api_Stitch)) (p0:(List api_Stitch)):(List (List Int) × Int)→Option ((List (List Int) × Int) ⊕ List (List Int)):=fun s0=>match s0 with
 | (s15,s16)=>
  if decide (0 ≤ s16) then
   Option.bind (α:=List Int) (
    Option.bind (makeO (w64 ((p1.length:Int) + 1)) (0:Int)) fun m32=>
    Option.bind (idxO s15 s16) fun x34=>
    Option.bind (whileK (K_compare_table_api_Stitch__s0_l1 s16 p0 p1 s15) ((p1.length:Int),m32)) fun e45=>
     some e45) fun o24=>
   some (.inl ((s15.set (s16).toNat o24),w64 (s16 - 1)))
  else
   some (.inr s15)
def K_compare_table_api_Stitch__s0 (p0:(List api_Stitch)) (p1:(List api_Stitch)):Option (List (List Int)):=
 Option.bind (makeO (w64 ((p0.length:Int) + 1)) ([]:(List Int))) fun m9=>
 Option.bind (α:=List (List Int)) (
  Option.bind (whileK (K_compare_table_api_Stitch__s0_l2 p1 p0) (m9,(p0.length:Int))) fun e20=>
   some e20) fun o11=>
 some o11
def K_compare_cellTable (p0:(List api_Stitch)) (p1:(List api_Stitch)):Option (List (List Int)):=
 Option.bind (K_compare_table_api_Stitch__s0 p0 p1) fun r7=>
 some r7
def K_compare_Edits_l2 (p0:(List api_Stitch)) (p1:(List api_Stitch)) (r30:(List (List Int))):(List api_CellStep × Int × Int)→Option ((List api_CellStep × Int × Int) ⊕ List api_CellStep):=fun s0=>match s0 with
 | (s42,s45,s46)=>
  Option.bind (α:=Bool) (
   if decide (s45 < (p0.length:Int)) then
    some true
   else
    some (decide (s46 < (p1.length:Int)))) fun o54=>
  if o54 then
   Option.bind (idxO r30 s45) fun x60=>
   Option.bind (idxO x60 s46) fun x67=>
   Option.bind (α:=Bool) (
    if decide (s45 < (p0.length:Int)) then
     if decide (s46 < (p1.length:Int)) then
      Option.bind (idxO p0 s45) fun x77=>
      Option.bind (idxO p1 s46) fun x82=>
      if ((x77.Kind == x82.Kind) && ((x77.Purl == x82.Purl) && ((x77.A == x82.A) && ((x77.B == x82.B) && true)))) then
       Option.bind (idxO r30 (w64 (s45 + 1))) fun x88=>
       Option.bind (idxO x88 (w64 (s46 + 1))) fun x95=>
       some (x67 == x95)
      else
       some false
     else
      some false
    else
     some false) fun o72=>
   if o72 then
    Option.bind (appO s42 [(api_CellStep.mk 1 (api_Stitch.mk 0 false 0 0))]) fun l124=>
    some (.inl (l124,w64 (s45 + 1),w64 (s46 + 1)))
   else
    Option.bind (α:=Bool) (
     if decide (s45 < (p0.length:Int)) then
      if decide (s46 < (p1.length:Int)) then
       Option.bind (idxO p0 s45) fun x134=>
       Option.bind (idxO p1 s46) fun x139=>
       if !((x134.Kind == x139.Kind) && ((x134.Purl == x139.Purl) && ((x134.A == x139.A) && ((x134.B == x139.B) && true)))) then
        Option.bind (idxO r30 (w64 (s45 + 1))) fun x145=>
        Option.bind (idxO x145 (w64 (s46 + 1))) fun x152=>
        some (x67 == (w64 (1 + x152)))
       else
        some false
      else
       some false
     else
      some false) fun o129=>
    if o129 then
     Option.bind (idxO p1 s46) fun x179=>
     Option.bind (appO s42 [(api_CellStep.mk 2 x179)]) fun l186=>
     some (.inl (l186,w64 (s45 + 1),w64 (s46 + 1)))
    else
     Option.bind (α:=Bool) (
      if decide (s45 < (p0.length:Int)) then
       Option.bind (idxO r30 (w64 (s45 + 1))) fun x195=>
       Option.bind (idxO x195 s46) fun x202=>
       some (x67 == (w64 (1 + x202)))
      else
       some false) fun o191=>
     if o191 then
      Option.bind (appO s42 [(api_CellStep.mk 4 (api_Stitch.mk 0 false 0 0))]) fun l211=>
      some (.inl (l211,w64 (s45 + 1),s46))
     else
      Option.bind (idxO p1 s46) fun x216=>
      Option.bind (appO s42 [(api_CellStep.mk 3 x216)]) fun l223=>
      some (.inl (l223,s45,w64 (s46 + 1)))
  else
   some (.inr s42)
def K_compare_Edits (p0:(List api_Stitch)) (p1:(List api_Stitch)):Option ((List api_CellStep) × Int × Int):=
 Option.bind (α:=Unit ⊕ ((List api_CellStep) × Int × Int)) (
  Option.bind (whileK (K_compare_Edits_l1 p0 p1) 0) fun z0=>match z0 with
   | .inl z=>
    some (.inr z)
   | .inr _=>
    some (.inl ())) fun z0=>match z0 with
  | .inl _=>
   Option.bind (K_compare_cellTable p0 p1) fun r30=>
   Option.bind (α:=List api_CellStep) (
    Option.bind (whileK (K_compare_Edits_l2 p0 p1 r30) (([]:List api_CellStep),0,0)) fun e50=>
     some e50) fun o37=>
   Option.bind (idxO r30 0) fun x228=>
   Option.bind (idxO x228 0) fun x235=>
   some (o37,x235,0)
  | .inr z=>
   some z
def K_raddleref26_Parse_l1 (r8:(List ByteArray)) (s54:Int):Int→Option (Int ⊕ Int):=fun s0=>match s0 with
 | s76=>
  Option.bind (α:=Bool) (
   Option.bind (idxO r8 s54) fun x85=>
   if decide (s76 < (x85.size:Int)) then
    Option.bind (idxS x85 s76) fun x94=>
    some (x94 != 32)
   else
    some false) fun o82=>
  if o82 then
   some (.inl (w64 (s76 + 1)))
  else
   some (.inr s76)
def K_raddleref26_Parse_l2 (r8:(List ByteArray)):(Int × List api_Row)→Option ((Int × List api_Row) ⊕ ((api_Chart × Int) ⊕ (List api_Row))):=fun s0=>match s0 with
 | (s54,s55)=>
  if decide ((w64 (s54 + 1)) < (r8.length:Int)) then
   Option.bind (α:=List api_Row ⊕ (api_Chart × Int)) (
    Option.bind (α:=Int) (
     Option.bind (whileK (K_raddleref26_Parse_l1 r8 s54) 0) fun e80=>
      some e80) fun o73=>
    Option.bind (α:=Bool) (
     Option.bind (idxO r8 s54) fun x101=>
     Option.bind (sliceS x101 0 o73) fun y106=>
     if y106 != (⟨#[102,114,111,110,116]⟩:ByteArray) then
      some (y106 != (⟨#[98,97,99,107]⟩:ByteArray))
     else
      some false) fun o98=>
    if o98 then
     some (.inr ((api_Chart.mk 0 ([]:(List api_Row))),12))
    else
     Option.bind (idxO r8 s54) fun x115=>
     Option.bind (sliceS x115 0 o73) fun y120=>
     Option.bind (α:=List api_Stitch ⊕ (api_Chart × Int)) (
      if decide (o73 < (x115.size:Int)) then
       Option.bind (sliceS x115 (w64 (o73 + 1)) (x115.size:Int)) fun y137=>
       Option.bind (K_raddleref25_Parse y137) fun r139=>
       if r139.2 != 0 then
        some (.inr ((api_Chart.mk 0 ([]:(List api_Row))),12))
       else
        some (.inl r139.1)
      else
       some (.inl ([]:List api_Stitch))) fun z0=>match z0 with
      | .inl o123=>
       Option.bind (appO s55 [(api_Row.mk (y120 == (⟨#[98,97,99,107]⟩:ByteArray)) o123)]) fun l150=>
       some (.inl l150)
      | .inr z=>
       some (.inr z)) fun z0=>match z0 with
    | .inl o67=>
     some (.inl (w64 (s54 + 1),o67))
    | .inr z=>
     some (.inr (.inl z))
  else
   some (.inr (.inr s55))
def K_raddleref25_Uses (p0:(List api_Stitch)):Option (Int × Int):=
 Option.bind (K_raddleref25_All p0) fun r6=>
 if r6 != 0 then
  some (0,r6)
 else
  Option.bind (K_raddleref25_sums p0) fun r11=>
  some (r11.1,0)
def K_raddleref25_Makes (p0:(List api_Stitch)):Option (Int × Int):=
 Option.bind (K_raddleref25_All p0) fun r6=>
 if r6 != 0 then
  some (0,r6)
 else
  Option.bind (K_raddleref25_sums p0) fun r11=>
  some (r11.2,0)
def K_raddleref26_Check_l1 (p0:api_Chart):(Int × Int)→Option ((Int × Int) ⊕ (Int ⊕ Unit)):=fun s0=>match s0 with
 | (s22,s23)=>
  if decide (s23 < (p0.Rows.length:Int)) then
   Option.bind (idxO p0.Rows s23) fun x32=>
   Option.bind (K_raddleref25_Uses x32.Cells) fun r41=>
   if r41.2 != 0 then
    some (.inr (.inl r41.2))
   else
    if r41.1 != s22 then
     some (.inr (.inl 26))
    else
     Option.bind (K_raddleref25_Makes x32.Cells) fun r58=>
     some (.inl (r58.1,w64 (s23 + 1)))
  else
   some (.inr (.inr ()))
def K_raddleref26_Check (p0:api_Chart):Option Int:=
 if decide (100 < (p0.Rows.length:Int)) then
  some 4
 else
  Option.bind (α:=Bool) (
   if decide (p0.Start < 0) then
    some true
   else
    some (decide (200 < p0.Start))) fun o12=>
  if o12 then
   some 8
  else
   Option.bind (α:=Unit ⊕ Int) (
    Option.bind (whileK (K_raddleref26_Check_l1 p0) (p0.Start,0)) fun z0=>match z0 with
     | .inl z=>
      some (.inr z)
     | .inr _=>
      some (.inl ())) fun z0=>match z0 with
    | .inl _=>
     some 0
    | .inr z=>
     some z
def K_raddleref26_side (p0:Bool):Option ByteArray:=
 if p0 then
  some (⟨#[98,97,99,107]⟩:ByteArray)
 else
  some (⟨#[102,114,111,110,116]⟩:ByteArray)
def K_raddleref26_Written_l1 (p0:api_Chart):(ByteArray × Int)→Option ((ByteArray × Int) ⊕ ((ByteArray × Bool) ⊕ ByteArray)):=fun s0=>match s0 with
 | (s18,s19)=>
  if decide (s19 < (p0.Rows.length:Int)) then
   Option.bind (idxO p0.Rows s19) fun x29=>
   Option.bind (K_raddleref25_Written x29.Cells) fun r38=>
   if decide (3000 < (r38.size:Int)) then
    some (.inr (.inl ((⟨#[]⟩:ByteArray),false)))
   else
    Option.bind (K_raddleref26_side x29.Back) fun r50=>
    Option.bind (addS s18 r50) fun z52=>
    Option.bind (α:=ByteArray) (
     if r38 != (⟨#[]⟩:ByteArray) then
      Option.bind (addS z52 (⟨#[32]⟩:ByteArray)) fun z59=>
      Option.bind (addS z59 r38) fun z61=>
      some z61
     else
      some z52) fun o54=>
    Option.bind (addS o54 (⟨#[10]⟩:ByteArray)) fun z63=>
    some (.inl (z63,w64 (s19 + 1)))
  else
   some (.inr (.inr s18))
def K_raddleref26_Written (p0:api_Chart):Option (ByteArray × Bool):=
 Option.bind (K_raddleref25_Decimal p0.Start) fun r8=>
 Option.bind (addS (⟨#[115,116,97,114,116,32]⟩:ByteArray) r8) fun z10=>
 Option.bind (addS z10 (⟨#[10]⟩:ByteArray)) fun z12=>
 Option.bind (α:=ByteArray ⊕ (ByteArray × Bool)) (
  Option.bind (whileK (K_raddleref26_Written_l1 p0) (z12,0)) fun z0=>match z0 with
   | .inl z=>
    some (.inr z)
   | .inr e23=>
    some (.inl e23)) fun z0=>match z0 with
  | .inl o14=>
   some (o14,true)
  | .inr z=>
   some z
def K_raddleref26_Parse (p0:ByteArray):Option (api_Chart × Int):=
 if decide (20000 < (p0.size:Int)) then
  some ((api_Chart.mk 0 ([]:(List api_Row))),12)
 else
  Option.bind (K_raddleref25_Cut p0 10) fun r8=>
  Option.bind (α:=Bool) (
   if decide ((r8.length:Int) < 2) then
    some true
   else
    if decide (100 < (w64 ((r8.length:Int) - 2))) then
     some true
    else
     Option.bind (idxO r8 0) fun x19=>
     if decide ((x19.size:Int) < 7) then
      some true
     else
      Option.bind (sliceS x19 0 6) fun y28=>
      some (y28 != (⟨#[115,116,97,114,116,32]⟩:ByteArray))) fun o14=>
  if o14 then
   some ((api_Chart.mk 0 ([]:(List api_Row))),12)
  else
   Option.bind (idxO r8 0) fun x33=>
   Option.bind (sliceS x33 6 (x33.size:Int)) fun y38=>
   Option.bind (K_raddleref25_Number y38) fun r40=>
   if !r40.2 then
    some ((api_Chart.mk 0 ([]:(List api_Row))),12)
   else
    Option.bind (α:=List api_Row ⊕ (api_Chart × Int)) (
     Option.bind (whileK (K_raddleref26_Parse_l2 r8) (1,([]:List api_Row))) fun z0=>match z0 with
      | .inl z=>
       some (.inr z)
      | .inr e61=>
       some (.inl e61)) fun z0=>match z0 with
     | .inl o48=>
      Option.bind (K_raddleref26_Check (api_Chart.mk r40.1 o48)) fun r156=>
      if r156 != 0 then
       some ((api_Chart.mk 0 ([]:(List api_Row))),12)
      else
       Option.bind (K_raddleref26_Written (api_Chart.mk r40.1 o48)) fun r161=>
       Option.bind (α:=Bool) (
        if !r161.2 then
         some true
        else
         some (r161.1 != p0)) fun o164=>
       if o164 then
        some ((api_Chart.mk 0 ([]:(List api_Row))),12)
       else
        some ((api_Chart.mk r40.1 o48),0)
     | .inr z=>
      some z
def K_raddlelaw46_knit (p0:ByteArray):Option api_Chart:=
 Option.bind (K_raddleref26_Parse p0) fun r4=>
 some r4.1
def K_chart_counted (p0:api_Chart):Option api_Chart:=
 some p0
def K_stitch_Uses (p0:(List api_Stitch)):Option (Int × Int):=
 Option.bind (K_stitch_All p0) fun r6=>
 if r6 != 0 then
  some (0,r6)
 else
  Option.bind (K_stitch_sum p0) fun r12=>
  some (r12.1,0)
def K_stitch_Makes (p0:(List api_Stitch)):Option (Int × Int):=
 Option.bind (K_stitch_All p0) fun r6=>
 if r6 != 0 then
  some (0,r6)
 else
  Option.bind (K_stitch_sum p0) fun r12=>
  some (r12.2,0)
def K_chart_counted_1_l1 {σ τ:Type} (p0:api_Chart) (B:σ→(Int × chart_count)→Option (σ ⊕ τ)):(Int × Int × σ)→Option ((Int × Int × σ) ⊕ ((σ ⊕ τ) ⊕ (σ))):=fun s0=>match s0 with
 | (s11,s12,gz13)=>
  if decide (s12 < (p0.Rows.length:Int)) then
   Option.bind (idxO p0.Rows s12) fun x23=>
   Option.bind (K_stitch_Uses x23.Cells) fun r36=>
   Option.bind (α:=(Int × Int)) (
    if r36.2 != 0 then
     some (0,r36.2)
    else
     if r36.1 != s11 then
      some (0,26)
     else
      Option.bind (K_stitch_Makes x23.Cells) fun r46=>
      some (r46.1,0)) fun (o38,o39)=>
   Option.bind (B gz13 (s12,(chart_count.mk s11 o38 o39))) fun y51=>
   match y51 with
   | .inl gz53=>
    if ((chart_count.mk s11 o38 o39).e) != 0 then
     some (.inr (.inl (.inl gz53)))
    else
     some (.inl ((chart_count.mk s11 o38 o39).after,w64 (s12 + 1),gz53))
   | .inr tz54=>
    some (.inr (.inl (.inr tz54)))
  else
   some (.inr (.inr gz13))
def K_I_chart_counted_1 (p0:api_Chart) (σ τ:Type) (B:σ→(Int × chart_count)→Option (σ ⊕ τ)) (gz0:σ):Option (σ ⊕ τ):=
 Option.bind (whileK (K_chart_counted_1_l1 p0 B) (p0.Start,0,gz0)) fun z0=>match z0 with
  | .inl z=>
   some z
  | .inr gz17=>
   some (.inl gz17)
def K_chart_Check_l2 :Unit→(Int × chart_count)→Option (Unit ⊕ Int):=fun s0 x0=>match s0,x0 with
 | _,(x25,x27)=>
  if x27.e != 0 then
   some (.inr x27.e)
  else
   some (.inl ())
def K_chart_Check (p0:api_Chart):Option Int:=
 if decide (100 < (p0.Rows.length:Int)) then
  some 4
 else
  Option.bind (α:=Bool) (
   if decide (p0.Start < 0) then
    some true
   else
    some (decide (200 < p0.Start))) fun o13=>
  if o13 then
   some 8
  else
   Option.bind (K_chart_counted p0) fun r21=>
   Option.bind (K_I_chart_counted_1 r21 _ _ (K_chart_Check_l2) ()) fun z0=>match z0 with
    | .inl _=>
     some 0
    | .inr e24=>
     some e24
def K_compare_Charts_1 (p0:api_Row):Option Int:=
 some (w64 (1 + (p0.Cells.length:Int)))
def K_compare_Charts_2 (p0:api_Row) (p1:api_Row):Option Int:=
 Option.bind (K_compare_cellTable p0.Cells p1.Cells) fun r13=>
 Option.bind (idxO r13 0) fun x18=>
 Option.bind (idxO x18 0) fun x25=>
 Option.bind (α:=Int) (
  if p0.Back != p1.Back then
   some (w64 (x25 + 1))
  else
   some x25) fun o30=>
 some o30
def K_compare_table_api_Row__s0_l1 (s16:Int) (p0:(List api_Row)) (p1:(List api_Row)) (s15:List (List Int)):(Int × List Int)→Option ((Int × List Int) ⊕ List Int):=fun s0=>match s0 with
 | (s40,s41)=>
  if decide (0 ≤ s40) then
   Option.bind (α:=List Int) (
    Option.bind (α:=Bool) (
     if s16 == (p0.length:Int) then
      some (s40 == (p1.length:Int))
     else
      some false) fun o52=>
    if o52 then
     some s41
    else
     if s16 == (p0.length:Int) then
      Option.bind (idxO s41 (w64 (s40 + 1))) fun x65=>
      Option.bind (idxO p1 s40) fun x70=>
      Option.bind (K_compare_Charts_1 x70) fun r79=>
      Option.bind (idxO s41 s40) fun x81=>
      Option.bind (setO s41 s40 (w64 (x65 + r79))) fun l86=>
      some l86
     else
      if s40 == (p1.length:Int) then
       Option.bind (idxO s15 (w64 (s16 + 1))) fun x112=>
       Option.bind (idxO x112 s40) fun x120=>
       Option.bind (idxO p0 s16) fun x125=>
       Option.bind (K_compare_Charts_1 x125) fun r134=>
       Option.bind (idxO s41 s40) fun x136=>
       Option.bind (setO s41 s40 (w64 (x120 + r134))) fun l141=>
       some l141
      else
       Option.bind (idxO s15 (w64 (s16 + 1))) fun x168=>
       Option.bind (idxO x168 s40) fun x176=>
       Option.bind (idxO p0 s16) fun x181=>
       Option.bind (K_compare_Charts_1 x181) fun r190=>
       Option.bind (idxO s41 (w64 (s40 + 1))) fun x195=>
       Option.bind (idxO p1 s40) fun x200=>
       Option.bind (K_compare_Charts_1 x200) fun r209=>
       Option.bind (idxO x168 (w64 (s40 + 1))) fun x217=>
       Option.bind (K_compare_Charts_2 x181 x200) fun r236=>
       Option.bind (idxO s41 s40) fun x238=>
       Option.bind (setO s41 s40 (min3 (w64 (x176 + r190)) (w64 (x195 + r209)) (w64 (x217 + r236)))) fun l243=>
       some l243) fun o49=>
   some (.inl (w64 (s40 - 1),o49))
  else
   some (.inr s41)
def K_compare_table_api_Row__s0_l2 (p1:(List api_Row)) (p0:(List api_Row)):(List (List Int) × Int)→Option ((List (List Int) × Int) ⊕ List (List Int)):=fun s0=>match s0 with
 | (s15,s16)=>
  if decide (0 ≤ s16) then
   Option.bind (α:=List Int) (
    Option.bind (makeO (w64 ((p1.length:Int) + 1)) (0:Int)) fun m32=>
    Option.bind (idxO s15 s16) fun x34=>
    Option.bind (whileK (K_compare_table_api_Row__s0_l1 s16 p0 p1 s15) ((p1.length:Int),m32)) fun e45=>
     some e45) fun o24=>
   some (.inl ((s15.set (s16).toNat o24),w64 (s16 - 1)))
  else
   some (.inr s15)
def K_compare_table_api_Row__s0 (p0:(List api_Row)) (p1:(List api_Row)):Option (List (List Int)):=
 Option.bind (makeO (w64 ((p0.length:Int) + 1)) ([]:(List Int))) fun m9=>
 Option.bind (α:=List (List Int)) (
  Option.bind (whileK (K_compare_table_api_Row__s0_l2 p1 p0) (m9,(p0.length:Int))) fun e20=>
   some e20) fun o11=>
 some o11
def K_compare_Charts (p0:api_Chart) (p1:api_Chart):Option (Int × Int):=
 Option.bind (K_chart_Check p0) fun r14=>
 if r14 != 0 then
  some (0,r14)
 else
  Option.bind (K_chart_Check p1) fun r21=>
  if r21 != 0 then
   some (0,r21)
  else
   Option.bind (K_compare_table_api_Row__s0 p0.Rows p1.Rows) fun r27=>
   Option.bind (idxO r27 0) fun x33=>
   Option.bind (idxO x33 0) fun x40=>
   Option.bind (α:=Int) (
    if p0.Start != p1.Start then
     some (w64 (x40 + 1))
    else
     some x40) fun o45=>
   some (o45,0)
def K_raddleref46_Same_l1 (p0:(List api_CellStep)) (p1:(List api_CellStep)):Int→Option (Int ⊕ (Bool ⊕ Unit)):=fun s0=>match s0 with
 | s13=>
  if decide (s13 < (p0.length:Int)) then
   Option.bind (idxO p0 s13) fun x22=>
   Option.bind (idxO p1 s13) fun x27=>
   if !((x22.Kind == x27.Kind) && (((x22.S.Kind == x27.S.Kind) && ((x22.S.Purl == x27.S.Purl) && ((x22.S.A == x27.S.A) && ((x22.S.B == x27.S.B) && true)))) && true)) then
    some (.inr (.inl false))
   else
    some (.inl (w64 (s13 + 1)))
  else
   some (.inr (.inr ()))
def K_raddleref46_Same (p0:(List api_CellStep)) (p1:(List api_CellStep)):Option Bool:=
 if (p0.length:Int) != (p1.length:Int) then
  some false
 else
  Option.bind (α:=Unit ⊕ Bool) (
   Option.bind (whileK (K_raddleref46_Same_l1 p0 p1) 0) fun z0=>match z0 with
    | .inl z=>
     some (.inr z)
    | .inr _=>
     some (.inl ())) fun z0=>match z0 with
   | .inl _=>
    some true
   | .inr z=>
    some z
theorem m_raddleref01_Parse_l1 (p0:ByteArray):∀ s,Le (K_raddleref01_Parse_l1 p0 s) (raddleref01_Parse_l1 p0 s):=by
 unfold K_raddleref01_Parse_l1 raddleref01_Parse_l1
 with_reducible repeat' (first | exact Le.rfl _ | refine Le.loop _ ?_ | refine Le.bind ?_ ?_ | refine Le.ite ?_ ?_ | refine Le.sum ?_ ?_ | refine Le.prod ?_ | intro _ | exact Empty.elim (by assumption) | dsimp only)
theorem m_F_raddleref01_Zero_s0 (p0:Int) (p1:Int):Le (K_raddleref01_Zero_s0 p0 p1) (F_raddleref01_Zero_s0 p0 p1):=by
 unfold K_raddleref01_Zero_s0 F_raddleref01_Zero_s0
 with_reducible repeat' (first | exact Le.rfl _ | refine Le.loop _ ?_ | refine Le.bind ?_ ?_ | refine Le.ite ?_ ?_ | refine Le.sum ?_ ?_ | refine Le.prod ?_ | intro _ | exact Empty.elim (by assumption) | dsimp only)
theorem m_F_raddleref01_Set_s0 (p0:Int) (p1:Int) (p2:(List Bool)) (p3:Int) (p4:Int) (p5:Bool):Le (K_raddleref01_Set_s0 p0 p1 p2 p3 p4 p5) (F_raddleref01_Set_s0 p0 p1 p2 p3 p4 p5):=by
 unfold K_raddleref01_Set_s0 F_raddleref01_Set_s0
 with_reducible repeat' (first | exact Le.rfl _ | refine Le.loop _ ?_ | refine Le.bind ?_ ?_ | refine Le.ite ?_ ?_ | refine Le.sum ?_ ?_ | refine Le.prod ?_ | intro _ | exact Empty.elim (by assumption) | dsimp only)
theorem m_raddleref01_Parse_l2 (p0:ByteArray) (o4:Int) (r36:api_Grid):∀ s,Le (K_raddleref01_Parse_l2 p0 o4 r36 s) (raddleref01_Parse_l2 p0 o4 r36 s):=by
 unfold K_raddleref01_Parse_l2 raddleref01_Parse_l2
 with_reducible repeat' (first | exact m_F_raddleref01_Set_s0 _ _ _ _ _ _ | exact Le.rfl _ | refine Le.loop _ ?_ | refine Le.bind ?_ ?_ | refine Le.ite ?_ ?_ | refine Le.sum ?_ ?_ | refine Le.prod ?_ | intro _ | exact Empty.elim (by assumption) | dsimp only)
theorem m_F_raddleref01_Parse (p0:ByteArray):Le (K_raddleref01_Parse p0) (F_raddleref01_Parse p0):=by
 unfold K_raddleref01_Parse F_raddleref01_Parse
 with_reducible repeat' (first | exact m_raddleref01_Parse_l1 _ | exact m_F_raddleref01_Zero_s0 _ _ | exact m_raddleref01_Parse_l2 _ _ _ | exact Le.rfl _ | refine Le.loop _ ?_ | refine Le.bind ?_ ?_ | refine Le.ite ?_ ?_ | refine Le.sum ?_ ?_ | refine Le.prod ?_ | intro _ | exact Empty.elim (by assumption) | dsimp only)
theorem m_F_raddlelaw46_cloth (p0:ByteArray):Le (K_raddlelaw46_cloth p0) (F_raddlelaw46_cloth p0):=by
 unfold K_raddlelaw46_cloth F_raddlelaw46_cloth
 with_reducible repeat' (first | exact m_F_raddleref01_Parse _ | exact Le.rfl _ | refine Le.loop _ ?_ | refine Le.bind ?_ ?_ | refine Le.ite ?_ ?_ | refine Le.sum ?_ ?_ | refine Le.prod ?_ | intro _ | exact Empty.elim (by assumption) | dsimp only)
theorem m_F_grid_Check (p0:api_Grid):Le (K_grid_Check p0) (F_grid_Check p0):=by
 unfold K_grid_Check F_grid_Check
 with_reducible repeat' (first | exact Le.rfl _ | refine Le.loop _ ?_ | refine Le.bind ?_ ?_ | refine Le.ite ?_ ?_ | refine Le.sum ?_ ?_ | refine Le.prod ?_ | intro _ | exact Empty.elim (by assumption) | dsimp only)
theorem m_compare_differ_l1 (p0:(List Bool)) (p1:(List Bool)):∀ s,Le (K_compare_differ_l1 p0 p1 s) (compare_differ_l1 p0 p1 s):=by
 unfold K_compare_differ_l1 compare_differ_l1
 with_reducible repeat' (first | exact Le.rfl _ | refine Le.loop _ ?_ | refine Le.bind ?_ ?_ | refine Le.ite ?_ ?_ | refine Le.sum ?_ ?_ | refine Le.prod ?_ | intro _ | exact Empty.elim (by assumption) | dsimp only)
theorem m_F_compare_differ (p0:(List Bool)) (p1:(List Bool)):Le (K_compare_differ p0 p1) (F_compare_differ p0 p1):=by
 unfold K_compare_differ F_compare_differ
 with_reducible repeat' (first | exact m_compare_differ_l1 _ _ | exact Le.rfl _ | refine Le.loop _ ?_ | refine Le.bind ?_ ?_ | refine Le.ite ?_ ?_ | refine Le.sum ?_ ?_ | refine Le.prod ?_ | intro _ | exact Empty.elim (by assumption) | dsimp only)
theorem m_F_compare_Cells (p0:api_Grid) (p1:api_Grid):Le (K_compare_Cells p0 p1) (F_compare_Cells p0 p1):=by
 unfold K_compare_Cells F_compare_Cells
 with_reducible repeat' (first | exact m_F_grid_Check _ | exact m_F_compare_differ _ _ | exact Le.rfl _ | refine Le.loop _ ?_ | refine Le.bind ?_ ?_ | refine Le.ite ?_ ?_ | refine Le.sum ?_ ?_ | refine Le.prod ?_ | intro _ | exact Empty.elim (by assumption) | dsimp only)
theorem m_F_compare_ways (p0:api_Grid) (p1:Int):Le (K_compare_ways p0 p1) (F_compare_ways p0 p1):=by
 unfold K_compare_ways F_compare_ways
 with_reducible repeat' (first | exact Le.rfl _ | refine Le.loop _ ?_ | refine Le.bind ?_ ?_ | refine Le.ite ?_ ?_ | refine Le.sum ?_ ?_ | refine Le.prod ?_ | intro _ | exact Empty.elim (by assumption) | dsimp only)
theorem m_symmetry_check_l1 (p0:(List api_Grid)):∀ s,Le (K_symmetry_check_l1 p0 s) (symmetry_check_l1 p0 s):=by
 unfold K_symmetry_check_l1 symmetry_check_l1
 with_reducible repeat' (first | exact m_F_grid_Check _ | exact Le.rfl _ | refine Le.loop _ ?_ | refine Le.bind ?_ ?_ | refine Le.ite ?_ ?_ | refine Le.sum ?_ ?_ | refine Le.prod ?_ | intro _ | exact Empty.elim (by assumption) | dsimp only)
theorem m_symmetry_check_l2 (p0:(List api_Grid)):∀ s,Le (K_symmetry_check_l2 p0 s) (symmetry_check_l2 p0 s):=by
 unfold K_symmetry_check_l2 symmetry_check_l2
 with_reducible repeat' (first | exact Le.rfl _ | refine Le.loop _ ?_ | refine Le.bind ?_ ?_ | refine Le.ite ?_ ?_ | refine Le.sum ?_ ?_ | refine Le.prod ?_ | intro _ | exact Empty.elim (by assumption) | dsimp only)
theorem m_F_symmetry_check (p0:(List api_Grid)):Le (K_symmetry_check p0) (F_symmetry_check p0):=by
 unfold K_symmetry_check F_symmetry_check
 with_reducible repeat' (first | exact m_symmetry_check_l1 _ | exact m_symmetry_check_l2 _ | exact Le.rfl _ | refine Le.loop _ ?_ | refine Le.bind ?_ ?_ | refine Le.ite ?_ ?_ | refine Le.sum ?_ ?_ | refine Le.prod ?_ | intro _ | exact Empty.elim (by assumption) | dsimp only)
theorem m_F_symmetry_is (p0:Int):Le (K_symmetry_is p0) (F_symmetry_is p0):=by
 unfold K_symmetry_is F_symmetry_is
 with_reducible repeat' (first | exact Le.rfl _ | refine Le.loop _ ?_ | refine Le.bind ?_ ?_ | refine Le.ite ?_ ?_ | refine Le.sum ?_ ?_ | refine Le.prod ?_ | intro _ | exact Empty.elim (by assumption) | dsimp only)
theorem m_symmetry_applied_l1 (o9:Int) (p1:Int) (s23:Int) (p0:api_Grid):∀ s,Le (K_symmetry_applied_l1 o9 p1 s23 p0 s) (symmetry_applied_l1 o9 p1 s23 p0 s):=by
 unfold K_symmetry_applied_l1 symmetry_applied_l1
 with_reducible repeat' (first | exact Le.rfl _ | refine Le.loop _ ?_ | refine Le.bind ?_ ?_ | refine Le.ite ?_ ?_ | refine Le.sum ?_ ?_ | refine Le.prod ?_ | intro _ | exact Empty.elim (by assumption) | dsimp only)
theorem m_symmetry_applied_l2 (o10:Int) (o9:Int) (p1:Int) (p0:api_Grid):∀ s,Le (K_symmetry_applied_l2 o10 o9 p1 p0 s) (symmetry_applied_l2 o10 o9 p1 p0 s):=by
 unfold K_symmetry_applied_l2 symmetry_applied_l2
 with_reducible repeat' (first | exact m_symmetry_applied_l1 _ _ _ _ | exact Le.rfl _ | refine Le.loop _ ?_ | refine Le.bind ?_ ?_ | refine Le.ite ?_ ?_ | refine Le.sum ?_ ?_ | refine Le.prod ?_ | intro _ | exact Empty.elim (by assumption) | dsimp only)
theorem m_F_symmetry_applied (p0:api_Grid) (p1:Int):Le (K_symmetry_applied p0 p1) (F_symmetry_applied p0 p1):=by
 unfold K_symmetry_applied F_symmetry_applied
 with_reducible repeat' (first | exact m_symmetry_applied_l2 _ _ _ _ | exact Le.rfl _ | refine Le.loop _ ?_ | refine Le.bind ?_ ?_ | refine Le.ite ?_ ?_ | refine Le.sum ?_ ?_ | refine Le.prod ?_ | intro _ | exact Empty.elim (by assumption) | dsimp only)
theorem m_F_symmetry_Apply (p0:api_Grid) (p1:Int):Le (K_symmetry_Apply p0 p1) (F_symmetry_Apply p0 p1):=by
 unfold K_symmetry_Apply F_symmetry_Apply
 with_reducible repeat' (first | exact m_F_symmetry_check _ | exact m_F_symmetry_is _ | exact m_F_symmetry_applied _ _ | exact Le.rfl _ | refine Le.loop _ ?_ | refine Le.bind ?_ ?_ | refine Le.ite ?_ ?_ | refine Le.sum ?_ ?_ | refine Le.prod ?_ | intro _ | exact Empty.elim (by assumption) | dsimp only)
theorem m_F_grid_around (p0:Int) (p1:Int):Le (K_grid_around p0 p1) (F_grid_around p0 p1):=by
 unfold K_grid_around F_grid_around
 with_reducible repeat' (first | exact Le.rfl _ | refine Le.loop _ ?_ | refine Le.bind ?_ ?_ | refine Le.ite ?_ ?_ | refine Le.sum ?_ ?_ | refine Le.prod ?_ | intro _ | exact Empty.elim (by assumption) | dsimp only)
theorem m_F_grid_Shift_1_s0 (p0:Int) (p1:Int) (p2:api_Grid) (p3:Int) (p4:Int):Le (K_grid_Shift_1_s0 p0 p1 p2 p3 p4) (F_grid_Shift_1_s0 p0 p1 p2 p3 p4):=by
 unfold K_grid_Shift_1_s0 F_grid_Shift_1_s0
 with_reducible repeat' (first | exact m_F_grid_around _ _ | exact Le.rfl _ | refine Le.loop _ ?_ | refine Le.bind ?_ ?_ | refine Le.ite ?_ ?_ | refine Le.sum ?_ ?_ | refine Le.prod ?_ | intro _ | exact Empty.elim (by assumption) | dsimp only)
theorem m_grid_build_s0_l1 (p0:Int) (s15:Int) (p2:api_Grid) (p3:Int) (p4:Int):∀ s,Le (K_grid_build_s0_l1 p0 s15 p2 p3 p4 s) (grid_build_s0_l1 p0 s15 p2 p3 p4 s):=by
 unfold K_grid_build_s0_l1 grid_build_s0_l1
 with_reducible repeat' (first | exact m_F_grid_Shift_1_s0 _ _ _ _ _ | exact Le.rfl _ | refine Le.loop _ ?_ | refine Le.bind ?_ ?_ | refine Le.ite ?_ ?_ | refine Le.sum ?_ ?_ | refine Le.prod ?_ | intro _ | exact Empty.elim (by assumption) | dsimp only)
theorem m_grid_build_s0_l2 (p1:Int) (p0:Int) (p2:api_Grid) (p3:Int) (p4:Int):∀ s,Le (K_grid_build_s0_l2 p1 p0 p2 p3 p4 s) (grid_build_s0_l2 p1 p0 p2 p3 p4 s):=by
 unfold K_grid_build_s0_l2 grid_build_s0_l2
 with_reducible repeat' (first | exact m_grid_build_s0_l1 _ _ _ _ _ | exact Le.rfl _ | refine Le.loop _ ?_ | refine Le.bind ?_ ?_ | refine Le.ite ?_ ?_ | refine Le.sum ?_ ?_ | refine Le.prod ?_ | intro _ | exact Empty.elim (by assumption) | dsimp only)
theorem m_F_grid_build_s0 (p0:Int) (p1:Int) (p2:api_Grid) (p3:Int) (p4:Int):Le (K_grid_build_s0 p0 p1 p2 p3 p4) (F_grid_build_s0 p0 p1 p2 p3 p4):=by
 unfold K_grid_build_s0 F_grid_build_s0
 with_reducible repeat' (first | exact m_grid_build_s0_l2 _ _ _ _ _ | exact Le.rfl _ | refine Le.loop _ ?_ | refine Le.bind ?_ ?_ | refine Le.ite ?_ ?_ | refine Le.sum ?_ ?_ | refine Le.prod ?_ | intro _ | exact Empty.elim (by assumption) | dsimp only)
theorem m_F_grid_Shift (p0:api_Grid) (p1:Int) (p2:Int):Le (K_grid_Shift p0 p1 p2) (F_grid_Shift p0 p1 p2):=by
 unfold K_grid_Shift F_grid_Shift
 with_reducible repeat' (first | exact m_F_grid_Check _ | exact m_F_grid_around _ _ | exact m_F_grid_build_s0 _ _ _ _ _ | exact Le.rfl _ | refine Le.loop _ ?_ | refine Le.bind ?_ ?_ | refine Le.ite ?_ ?_ | refine Le.sum ?_ ?_ | refine Le.prod ?_ | intro _ | exact Empty.elim (by assumption) | dsimp only)
theorem m_compare_ways_1_l1 {σ τ:Type} (p1:api_Grid) (r24:(api_Grid × Int)) (s36:Int) (B B':σ→(compare_way × api_Grid)→Option (σ ⊕ τ)) (hB:∀ s x,Le (B s x) (B' s x)) (s6:Int):∀ s,Le (K_compare_ways_1_l1 p1 r24 s36 B s6 s) (compare_ways_1_l1 p1 r24 s36 B' s6 s):=by
 unfold K_compare_ways_1_l1 compare_ways_1_l1
 with_reducible repeat' (first | exact hB _ _ | exact m_F_grid_Shift _ _ _ | exact Le.rfl _ | refine Le.loop _ ?_ | refine Le.bind ?_ ?_ | refine Le.ite ?_ ?_ | refine Le.sum ?_ ?_ | refine Le.prod ?_ | intro _ | exact Empty.elim (by assumption) | dsimp only)
theorem m_compare_ways_1_l2 {σ τ:Type} (p1:api_Grid) (r24:(api_Grid × Int)) (B B':σ→(compare_way × api_Grid)→Option (σ ⊕ τ)) (hB:∀ s x,Le (B s x) (B' s x)) (s6:Int):∀ s,Le (K_compare_ways_1_l2 p1 r24 B s6 s) (compare_ways_1_l2 p1 r24 B' s6 s):=by
 unfold K_compare_ways_1_l2 compare_ways_1_l2
 with_reducible repeat' (first | exact hB _ _ | exact m_compare_ways_1_l1 _ _ _ _ _ hB _ | exact Le.rfl _ | refine Le.loop _ ?_ | refine Le.bind ?_ ?_ | refine Le.ite ?_ ?_ | refine Le.sum ?_ ?_ | refine Le.prod ?_ | intro _ | exact Empty.elim (by assumption) | dsimp only)
theorem m_compare_ways_1_l3 {σ τ:Type} (x3:Int) (p1:api_Grid) (B B':σ→(compare_way × api_Grid)→Option (σ ⊕ τ)) (hB:∀ s x,Le (B s x) (B' s x)):∀ s,Le (K_compare_ways_1_l3 x3 p1 B s) (compare_ways_1_l3 x3 p1 B' s):=by
 unfold K_compare_ways_1_l3 compare_ways_1_l3
 with_reducible repeat' (first | exact hB _ _ | exact m_F_symmetry_Apply _ _ | exact m_compare_ways_1_l2 _ _ _ _ hB _ | exact Le.rfl _ | refine Le.loop _ ?_ | refine Le.bind ?_ ?_ | refine Le.ite ?_ ?_ | refine Le.sum ?_ ?_ | refine Le.prod ?_ | intro _ | exact Empty.elim (by assumption) | dsimp only)
theorem m_I_compare_ways_1 (p0:Int) (p1:api_Grid) (σ τ:Type) (B B':σ→(compare_way × api_Grid)→Option (σ ⊕ τ)) (hB:∀ s x,Le (B s x) (B' s x)) (gz0:σ):Le (K_I_compare_ways_1 p0 p1 σ τ B gz0) (I_compare_ways_1 p0 p1 σ τ B' gz0):=by
 unfold K_I_compare_ways_1 I_compare_ways_1
 with_reducible repeat' (first | exact hB _ _ | exact m_compare_ways_1_l3 _ _ _ _ hB | exact Le.rfl _ | refine Le.loop _ ?_ | refine Le.bind ?_ ?_ | refine Le.ite ?_ ?_ | refine Le.sum ?_ ?_ | refine Le.prod ?_ | intro _ | exact Empty.elim (by assumption) | dsimp only)
theorem m_compare_Nearest_l2 (p1:api_Grid):∀ s x,Le (K_compare_Nearest_l2 p1 s x) (compare_Nearest_l2 p1 s x):=by
 unfold K_compare_Nearest_l2 compare_Nearest_l2
 with_reducible repeat' (first | exact m_F_compare_differ _ _ | exact Le.rfl _ | refine Le.loop _ ?_ | refine Le.bind ?_ ?_ | refine Le.ite ?_ ?_ | refine Le.sum ?_ ?_ | refine Le.prod ?_ | intro _ | exact Empty.elim (by assumption) | dsimp only)
theorem m_F_compare_Nearest (p0:api_Grid) (p1:api_Grid) (p2:Int):Le (K_compare_Nearest p0 p1 p2) (F_compare_Nearest p0 p1 p2):=by
 unfold K_compare_Nearest F_compare_Nearest
 with_reducible repeat' (first | exact m_F_grid_Check _ | exact m_F_compare_ways _ _ | refine m_I_compare_ways_1 _ _ _ _ _ _ ?_ _ | exact m_compare_Nearest_l2 _ | exact Le.rfl _ | refine Le.loop _ ?_ | refine Le.bind ?_ ?_ | refine Le.ite ?_ ?_ | refine Le.sum ?_ ?_ | refine Le.prod ?_ | intro _ | exact Empty.elim (by assumption) | dsimp only)
theorem m_raddleref25_Cut_l1 (p0:ByteArray) (p1:Int):∀ s,Le (K_raddleref25_Cut_l1 p0 p1 s) (raddleref25_Cut_l1 p0 p1 s):=by
 unfold K_raddleref25_Cut_l1 raddleref25_Cut_l1
 with_reducible repeat' (first | exact Le.rfl _ | refine Le.loop _ ?_ | refine Le.bind ?_ ?_ | refine Le.ite ?_ ?_ | refine Le.sum ?_ ?_ | refine Le.prod ?_ | intro _ | exact Empty.elim (by assumption) | dsimp only)
theorem m_F_raddleref25_Cut (p0:ByteArray) (p1:Int):Le (K_raddleref25_Cut p0 p1) (F_raddleref25_Cut p0 p1):=by
 unfold K_raddleref25_Cut F_raddleref25_Cut
 with_reducible repeat' (first | exact m_raddleref25_Cut_l1 _ _ | exact Le.rfl _ | refine Le.loop _ ?_ | refine Le.bind ?_ ?_ | refine Le.ite ?_ ?_ | refine Le.sum ?_ ?_ | refine Le.prod ?_ | intro _ | exact Empty.elim (by assumption) | dsimp only)
theorem m_raddleref25_Number_l1 (p0:ByteArray):∀ s,Le (K_raddleref25_Number_l1 p0 s) (raddleref25_Number_l1 p0 s):=by
 unfold K_raddleref25_Number_l1 raddleref25_Number_l1
 with_reducible repeat' (first | exact Le.rfl _ | refine Le.loop _ ?_ | refine Le.bind ?_ ?_ | refine Le.ite ?_ ?_ | refine Le.sum ?_ ?_ | refine Le.prod ?_ | intro _ | exact Empty.elim (by assumption) | dsimp only)
theorem m_F_raddleref25_Number (p0:ByteArray):Le (K_raddleref25_Number p0) (F_raddleref25_Number p0):=by
 unfold K_raddleref25_Number F_raddleref25_Number
 with_reducible repeat' (first | exact m_raddleref25_Number_l1 _ | exact Le.rfl _ | refine Le.loop _ ?_ | refine Le.bind ?_ ?_ | refine Le.ite ?_ ?_ | refine Le.sum ?_ ?_ | refine Le.prod ?_ | intro _ | exact Empty.elim (by assumption) | dsimp only)
theorem m_raddleref25_word_l1 (r49:(Int × Bool)) (x35:Int):∀ s,Le (K_raddleref25_word_l1 r49 x35 s) (raddleref25_word_l1 r49 x35 s):=by
 unfold K_raddleref25_word_l1 raddleref25_word_l1
 with_reducible repeat' (first | exact Le.rfl _ | refine Le.loop _ ?_ | refine Le.bind ?_ ?_ | refine Le.ite ?_ ?_ | refine Le.sum ?_ ?_ | refine Le.prod ?_ | intro _ | exact Empty.elim (by assumption) | dsimp only)
theorem m_raddleref25_kind_l1 (p0:Int):∀ s,Le (K_raddleref25_kind_l1 p0 s) (raddleref25_kind_l1 p0 s):=by
 unfold K_raddleref25_kind_l1 raddleref25_kind_l1
 with_reducible repeat' (first | exact Le.rfl _ | refine Le.loop _ ?_ | refine Le.bind ?_ ?_ | refine Le.ite ?_ ?_ | refine Le.sum ?_ ?_ | refine Le.prod ?_ | intro _ | exact Empty.elim (by assumption) | dsimp only)
theorem m_F_raddleref25_kind (p0:Int):Le (K_raddleref25_kind p0) (F_raddleref25_kind p0):=by
 unfold K_raddleref25_kind F_raddleref25_kind
 with_reducible repeat' (first | exact m_raddleref25_kind_l1 _ | exact Le.rfl _ | refine Le.loop _ ?_ | refine Le.bind ?_ ?_ | refine Le.ite ?_ ?_ | refine Le.sum ?_ ?_ | refine Le.prod ?_ | intro _ | exact Empty.elim (by assumption) | dsimp only)
theorem m_F_raddleref25_word (p0:ByteArray):Le (K_raddleref25_word p0) (F_raddleref25_word p0):=by
 unfold K_raddleref25_word F_raddleref25_word
 with_reducible repeat' (first | exact m_F_raddleref25_Number _ | exact m_raddleref25_word_l1 _ _ | exact m_F_raddleref25_kind _ | exact m_F_raddleref25_Cut _ _ | exact Le.rfl _ | refine Le.loop _ ?_ | refine Le.bind ?_ ?_ | refine Le.ite ?_ ?_ | refine Le.sum ?_ ?_ | refine Le.prod ?_ | intro _ | exact Empty.elim (by assumption) | dsimp only)
theorem m_raddleref25_Parse_l1 (r11:(List ByteArray)):∀ s,Le (K_raddleref25_Parse_l1 r11 s) (raddleref25_Parse_l1 r11 s):=by
 unfold K_raddleref25_Parse_l1 raddleref25_Parse_l1
 with_reducible repeat' (first | exact m_F_raddleref25_word _ | exact Le.rfl _ | refine Le.loop _ ?_ | refine Le.bind ?_ ?_ | refine Le.ite ?_ ?_ | refine Le.sum ?_ ?_ | refine Le.prod ?_ | intro _ | exact Empty.elim (by assumption) | dsimp only)
theorem m_F_raddleref25_Check (p0:api_Stitch):Le (K_raddleref25_Check p0) (F_raddleref25_Check p0):=by
 unfold K_raddleref25_Check F_raddleref25_Check
 with_reducible repeat' (first | exact Le.rfl _ | refine Le.loop _ ?_ | refine Le.bind ?_ ?_ | refine Le.ite ?_ ?_ | refine Le.sum ?_ ?_ | refine Le.prod ?_ | intro _ | exact Empty.elim (by assumption) | dsimp only)
theorem m_raddleref25_All_l1 (p0:(List api_Stitch)):∀ s,Le (K_raddleref25_All_l1 p0 s) (raddleref25_All_l1 p0 s):=by
 unfold K_raddleref25_All_l1 raddleref25_All_l1
 with_reducible repeat' (first | exact m_F_raddleref25_Check _ | exact Le.rfl _ | refine Le.loop _ ?_ | refine Le.bind ?_ ?_ | refine Le.ite ?_ ?_ | refine Le.sum ?_ ?_ | refine Le.prod ?_ | intro _ | exact Empty.elim (by assumption) | dsimp only)
theorem m_F_raddleref25_Used (p0:api_Stitch):Le (K_raddleref25_Used p0) (F_raddleref25_Used p0):=by
 unfold K_raddleref25_Used F_raddleref25_Used
 with_reducible repeat' (first | exact Le.rfl _ | refine Le.loop _ ?_ | refine Le.bind ?_ ?_ | refine Le.ite ?_ ?_ | refine Le.sum ?_ ?_ | refine Le.prod ?_ | intro _ | exact Empty.elim (by assumption) | dsimp only)
theorem m_F_raddleref25_Gives (p0:api_Stitch):Le (K_raddleref25_Gives p0) (F_raddleref25_Gives p0):=by
 unfold K_raddleref25_Gives F_raddleref25_Gives
 with_reducible repeat' (first | exact Le.rfl _ | refine Le.loop _ ?_ | refine Le.bind ?_ ?_ | refine Le.ite ?_ ?_ | refine Le.sum ?_ ?_ | refine Le.prod ?_ | intro _ | exact Empty.elim (by assumption) | dsimp only)
theorem m_raddleref25_sums_l1 (p0:(List api_Stitch)):∀ s,Le (K_raddleref25_sums_l1 p0 s) (raddleref25_sums_l1 p0 s):=by
 unfold K_raddleref25_sums_l1 raddleref25_sums_l1
 with_reducible repeat' (first | exact m_F_raddleref25_Used _ | exact m_F_raddleref25_Gives _ | exact Le.rfl _ | refine Le.loop _ ?_ | refine Le.bind ?_ ?_ | refine Le.ite ?_ ?_ | refine Le.sum ?_ ?_ | refine Le.prod ?_ | intro _ | exact Empty.elim (by assumption) | dsimp only)
theorem m_F_raddleref25_sums (p0:(List api_Stitch)):Le (K_raddleref25_sums p0) (F_raddleref25_sums p0):=by
 unfold K_raddleref25_sums F_raddleref25_sums
 with_reducible repeat' (first | exact m_raddleref25_sums_l1 _ | exact Le.rfl _ | refine Le.loop _ ?_ | refine Le.bind ?_ ?_ | refine Le.ite ?_ ?_ | refine Le.sum ?_ ?_ | refine Le.prod ?_ | intro _ | exact Empty.elim (by assumption) | dsimp only)
theorem m_F_raddleref25_All (p0:(List api_Stitch)):Le (K_raddleref25_All p0) (F_raddleref25_All p0):=by
 unfold K_raddleref25_All F_raddleref25_All
 with_reducible repeat' (first | exact m_raddleref25_All_l1 _ | exact m_F_raddleref25_sums _ | exact Le.rfl _ | refine Le.loop _ ?_ | refine Le.bind ?_ ?_ | refine Le.ite ?_ ?_ | refine Le.sum ?_ ?_ | refine Le.prod ?_ | intro _ | exact Empty.elim (by assumption) | dsimp only)
theorem m_raddleref25_Decimal_l1 :∀ s,Le (K_raddleref25_Decimal_l1 s) (raddleref25_Decimal_l1 s):=by
 unfold K_raddleref25_Decimal_l1 raddleref25_Decimal_l1
 with_reducible repeat' (first | exact Le.rfl _ | refine Le.loop _ ?_ | refine Le.bind ?_ ?_ | refine Le.ite ?_ ?_ | refine Le.sum ?_ ?_ | refine Le.prod ?_ | intro _ | exact Empty.elim (by assumption) | dsimp only)
theorem m_F_raddleref25_Decimal (p0:Int):Le (K_raddleref25_Decimal p0) (F_raddleref25_Decimal p0):=by
 unfold K_raddleref25_Decimal F_raddleref25_Decimal
 with_reducible repeat' (first | exact m_raddleref25_Decimal_l1 | exact Le.rfl _ | refine Le.loop _ ?_ | refine Le.bind ?_ ?_ | refine Le.ite ?_ ?_ | refine Le.sum ?_ ?_ | refine Le.prod ?_ | intro _ | exact Empty.elim (by assumption) | dsimp only)
theorem m_F_raddleref25_one (p0:api_Stitch):Le (K_raddleref25_one p0) (F_raddleref25_one p0):=by
 unfold K_raddleref25_one F_raddleref25_one
 with_reducible repeat' (first | exact m_F_raddleref25_Decimal _ | exact Le.rfl _ | refine Le.loop _ ?_ | refine Le.bind ?_ ?_ | refine Le.ite ?_ ?_ | refine Le.sum ?_ ?_ | refine Le.prod ?_ | intro _ | exact Empty.elim (by assumption) | dsimp only)
theorem m_raddleref25_Written_l1 (p0:(List api_Stitch)):∀ s,Le (K_raddleref25_Written_l1 p0 s) (raddleref25_Written_l1 p0 s):=by
 unfold K_raddleref25_Written_l1 raddleref25_Written_l1
 with_reducible repeat' (first | exact Le.rfl _ | refine Le.loop _ ?_ | refine Le.bind ?_ ?_ | refine Le.ite ?_ ?_ | refine Le.sum ?_ ?_ | refine Le.prod ?_ | intro _ | exact Empty.elim (by assumption) | dsimp only)
theorem m_raddleref25_Written_l2 (p0:(List api_Stitch)):∀ s,Le (K_raddleref25_Written_l2 p0 s) (raddleref25_Written_l2 p0 s):=by
 unfold K_raddleref25_Written_l2 raddleref25_Written_l2
 with_reducible repeat' (first | exact m_F_raddleref25_one _ | exact m_raddleref25_Written_l1 _ | exact m_F_raddleref25_Decimal _ | exact Le.rfl _ | refine Le.loop _ ?_ | refine Le.bind ?_ ?_ | refine Le.ite ?_ ?_ | refine Le.sum ?_ ?_ | refine Le.prod ?_ | intro _ | exact Empty.elim (by assumption) | dsimp only)
theorem m_F_raddleref25_Written (p0:(List api_Stitch)):Le (K_raddleref25_Written p0) (F_raddleref25_Written p0):=by
 unfold K_raddleref25_Written F_raddleref25_Written
 with_reducible repeat' (first | exact m_raddleref25_Written_l2 _ | exact Le.rfl _ | refine Le.loop _ ?_ | refine Le.bind ?_ ?_ | refine Le.ite ?_ ?_ | refine Le.sum ?_ ?_ | refine Le.prod ?_ | intro _ | exact Empty.elim (by assumption) | dsimp only)
theorem m_F_raddleref25_Parse (p0:ByteArray):Le (K_raddleref25_Parse p0) (F_raddleref25_Parse p0):=by
 unfold K_raddleref25_Parse F_raddleref25_Parse
 with_reducible repeat' (first | exact m_F_raddleref25_Cut _ _ | exact m_raddleref25_Parse_l1 _ | exact m_F_raddleref25_All _ | exact m_F_raddleref25_Written _ | exact Le.rfl _ | refine Le.loop _ ?_ | refine Le.bind ?_ ?_ | refine Le.ite ?_ ?_ | refine Le.sum ?_ ?_ | refine Le.prod ?_ | intro _ | exact Empty.elim (by assumption) | dsimp only)
theorem m_F_raddlelaw46_cells (p0:ByteArray):Le (K_raddlelaw46_cells p0) (F_raddlelaw46_cells p0):=by
 unfold K_raddlelaw46_cells F_raddlelaw46_cells
 with_reducible repeat' (first | exact m_F_raddleref25_Parse _ | exact Le.rfl _ | refine Le.loop _ ?_ | refine Le.bind ?_ ?_ | refine Le.ite ?_ ?_ | refine Le.sum ?_ ?_ | refine Le.prod ?_ | intro _ | exact Empty.elim (by assumption) | dsimp only)
theorem m_F_stitch_forms (p0:Int):Le (K_stitch_forms p0) (F_stitch_forms p0):=by
 unfold K_stitch_forms F_stitch_forms
 with_reducible repeat' (first | exact Le.rfl _ | refine Le.loop _ ?_ | refine Le.bind ?_ ?_ | refine Le.ite ?_ ?_ | refine Le.sum ?_ ?_ | refine Le.prod ?_ | intro _ | exact Empty.elim (by assumption) | dsimp only)
theorem m_F_stitch_within (p0:Int) (p1:(Int × Int)):Le (K_stitch_within p0 p1) (F_stitch_within p0 p1):=by
 unfold K_stitch_within F_stitch_within
 with_reducible repeat' (first | exact Le.rfl _ | refine Le.loop _ ?_ | refine Le.bind ?_ ?_ | refine Le.ite ?_ ?_ | refine Le.sum ?_ ?_ | refine Le.prod ?_ | intro _ | exact Empty.elim (by assumption) | dsimp only)
theorem m_F_stitch_Check (p0:api_Stitch):Le (K_stitch_Check p0) (F_stitch_Check p0):=by
 unfold K_stitch_Check F_stitch_Check
 with_reducible repeat' (first | exact m_F_stitch_forms _ | exact m_F_stitch_within _ _ | exact Le.rfl _ | refine Le.loop _ ?_ | refine Le.bind ?_ ?_ | refine Le.ite ?_ ?_ | refine Le.sum ?_ ?_ | refine Le.prod ?_ | intro _ | exact Empty.elim (by assumption) | dsimp only)
theorem m_F_stitch_All_1 (p0:api_Stitch):Le (K_stitch_All_1 p0) (F_stitch_All_1 p0):=by
 unfold K_stitch_All_1 F_stitch_All_1
 with_reducible repeat' (first | exact m_F_stitch_Check _ | exact Le.rfl _ | refine Le.loop _ ?_ | refine Le.bind ?_ ?_ | refine Le.ite ?_ ?_ | refine Le.sum ?_ ?_ | refine Le.prod ?_ | intro _ | exact Empty.elim (by assumption) | dsimp only)
theorem m_slices_IndexFunc___api_Stitch_api_Stitch__s0_l1 (p0:(List api_Stitch)):∀ s,Le (K_slices_IndexFunc___api_Stitch_api_Stitch__s0_l1 p0 s) (slices_IndexFunc___api_Stitch_api_Stitch__s0_l1 p0 s):=by
 unfold K_slices_IndexFunc___api_Stitch_api_Stitch__s0_l1 slices_IndexFunc___api_Stitch_api_Stitch__s0_l1
 with_reducible repeat' (first | exact m_F_stitch_All_1 _ | exact Le.rfl _ | refine Le.loop _ ?_ | refine Le.bind ?_ ?_ | refine Le.ite ?_ ?_ | refine Le.sum ?_ ?_ | refine Le.prod ?_ | intro _ | exact Empty.elim (by assumption) | dsimp only)
theorem m_F_slices_IndexFunc___api_Stitch_api_Stitch__s0 (p0:(List api_Stitch)):Le (K_slices_IndexFunc___api_Stitch_api_Stitch__s0 p0) (F_slices_IndexFunc___api_Stitch_api_Stitch__s0 p0):=by
 unfold K_slices_IndexFunc___api_Stitch_api_Stitch__s0 F_slices_IndexFunc___api_Stitch_api_Stitch__s0
 with_reducible repeat' (first | exact m_slices_IndexFunc___api_Stitch_api_Stitch__s0_l1 _ | exact Le.rfl _ | refine Le.loop _ ?_ | refine Le.bind ?_ ?_ | refine Le.ite ?_ ?_ | refine Le.sum ?_ ?_ | refine Le.prod ?_ | intro _ | exact Empty.elim (by assumption) | dsimp only)
theorem m_F_slices_ContainsFunc___api_Stitch_api_Stitch__s0 (p0:(List api_Stitch)):Le (K_slices_ContainsFunc___api_Stitch_api_Stitch__s0 p0) (F_slices_ContainsFunc___api_Stitch_api_Stitch__s0 p0):=by
 unfold K_slices_ContainsFunc___api_Stitch_api_Stitch__s0 F_slices_ContainsFunc___api_Stitch_api_Stitch__s0
 with_reducible repeat' (first | exact m_F_slices_IndexFunc___api_Stitch_api_Stitch__s0 _ | exact Le.rfl _ | refine Le.loop _ ?_ | refine Le.bind ?_ ?_ | refine Le.ite ?_ ?_ | refine Le.sum ?_ ?_ | refine Le.prod ?_ | intro _ | exact Empty.elim (by assumption) | dsimp only)
theorem m_F_stitch_loops (p0:api_Stitch) (p1:Int):Le (K_stitch_loops p0 p1) (F_stitch_loops p0 p1):=by
 unfold K_stitch_loops F_stitch_loops
 with_reducible repeat' (first | exact Le.rfl _ | refine Le.loop _ ?_ | refine Le.bind ?_ ?_ | refine Le.ite ?_ ?_ | refine Le.sum ?_ ?_ | refine Le.prod ?_ | intro _ | exact Empty.elim (by assumption) | dsimp only)
theorem m_stitch_sum_l1 (p0:(List api_Stitch)):∀ s,Le (K_stitch_sum_l1 p0 s) (stitch_sum_l1 p0 s):=by
 unfold K_stitch_sum_l1 stitch_sum_l1
 with_reducible repeat' (first | exact m_F_stitch_forms _ | exact m_F_stitch_loops _ _ | exact Le.rfl _ | refine Le.loop _ ?_ | refine Le.bind ?_ ?_ | refine Le.ite ?_ ?_ | refine Le.sum ?_ ?_ | refine Le.prod ?_ | intro _ | exact Empty.elim (by assumption) | dsimp only)
theorem m_F_stitch_sum (p0:(List api_Stitch)):Le (K_stitch_sum p0) (F_stitch_sum p0):=by
 unfold K_stitch_sum F_stitch_sum
 with_reducible repeat' (first | exact m_stitch_sum_l1 _ | exact Le.rfl _ | refine Le.loop _ ?_ | refine Le.bind ?_ ?_ | refine Le.ite ?_ ?_ | refine Le.sum ?_ ?_ | refine Le.prod ?_ | intro _ | exact Empty.elim (by assumption) | dsimp only)
theorem m_F_stitch_All (p0:(List api_Stitch)):Le (K_stitch_All p0) (F_stitch_All p0):=by
 unfold K_stitch_All F_stitch_All
 with_reducible repeat' (first | exact m_F_slices_ContainsFunc___api_Stitch_api_Stitch__s0 _ | exact m_F_stitch_sum _ | exact Le.rfl _ | refine Le.loop _ ?_ | refine Le.bind ?_ ?_ | refine Le.ite ?_ ?_ | refine Le.sum ?_ ?_ | refine Le.prod ?_ | intro _ | exact Empty.elim (by assumption) | dsimp only)
theorem m_compare_Edits_l1 (p0:(List api_Stitch)) (p1:(List api_Stitch)):∀ s,Le (K_compare_Edits_l1 p0 p1 s) (compare_Edits_l1 p0 p1 s):=by
 unfold K_compare_Edits_l1 compare_Edits_l1
 with_reducible repeat' (first | exact m_F_stitch_All _ | exact Le.rfl _ | refine Le.loop _ ?_ | refine Le.bind ?_ ?_ | refine Le.ite ?_ ?_ | refine Le.sum ?_ ?_ | refine Le.prod ?_ | intro _ | exact Empty.elim (by assumption) | dsimp only)
theorem m_F_compare_cellTable_1 (p0:api_Stitch):Le (K_compare_cellTable_1 p0) (F_compare_cellTable_1 p0):=by
 unfold K_compare_cellTable_1 F_compare_cellTable_1
 with_reducible repeat' (first | exact Le.rfl _ | refine Le.loop _ ?_ | refine Le.bind ?_ ?_ | refine Le.ite ?_ ?_ | refine Le.sum ?_ ?_ | refine Le.prod ?_ | intro _ | exact Empty.elim (by assumption) | dsimp only)
theorem m_F_compare_cellTable_2 (p0:api_Stitch) (p1:api_Stitch):Le (K_compare_cellTable_2 p0 p1) (F_compare_cellTable_2 p0 p1):=by
 unfold K_compare_cellTable_2 F_compare_cellTable_2
 with_reducible repeat' (first | exact Le.rfl _ | refine Le.loop _ ?_ | refine Le.bind ?_ ?_ | refine Le.ite ?_ ?_ | refine Le.sum ?_ ?_ | refine Le.prod ?_ | intro _ | exact Empty.elim (by assumption) | dsimp only)
theorem m_compare_table_api_Stitch__s0_l1 (s16:Int) (p0:(List api_Stitch)) (p1:(List api_Stitch)) (s15:List (List Int)):∀ s,Le (K_compare_table_api_Stitch__s0_l1 s16 p0 p1 s15 s) (compare_table_api_Stitch__s0_l1 s16 p0 p1 s15 s):=by
 unfold K_compare_table_api_Stitch__s0_l1 compare_table_api_Stitch__s0_l1
 with_reducible repeat' (first | exact m_F_compare_cellTable_1 _ | exact m_F_compare_cellTable_2 _ _ | exact Le.rfl _ | refine Le.loop _ ?_ | refine Le.bind ?_ ?_ | refine Le.ite ?_ ?_ | refine Le.sum ?_ ?_ | refine Le.prod ?_ | intro _ | exact Empty.elim (by assumption) | dsimp only)
theorem m_compare_table_api_Stitch__s0_l2 (p1:(List api_Stitch)) (p0:(List api_Stitch)):∀ s,Le (K_compare_table_api_Stitch__s0_l2 p1 p0 s) (compare_table_api_Stitch__s0_l2 p1 p0 s):=by
 unfold K_compare_table_api_Stitch__s0_l2 compare_table_api_Stitch__s0_l2
 with_reducible repeat' (first | exact m_compare_table_api_Stitch__s0_l1 _ _ _ _ | exact Le.rfl _ | refine Le.loop _ ?_ | refine Le.bind ?_ ?_ | refine Le.ite ?_ ?_ | refine Le.sum ?_ ?_ | refine Le.prod ?_ | intro _ | exact Empty.elim (by assumption) | dsimp only)
theorem m_F_compare_table_api_Stitch__s0 (p0:(List api_Stitch)) (p1:(List api_Stitch)):Le (K_compare_table_api_Stitch__s0 p0 p1) (F_compare_table_api_Stitch__s0 p0 p1):=by
 unfold K_compare_table_api_Stitch__s0 F_compare_table_api_Stitch__s0
 with_reducible repeat' (first | exact m_compare_table_api_Stitch__s0_l2 _ _ | exact Le.rfl _ | refine Le.loop _ ?_ | refine Le.bind ?_ ?_ | refine Le.ite ?_ ?_ | refine Le.sum ?_ ?_ | refine Le.prod ?_ | intro _ | exact Empty.elim (by assumption) | dsimp only)
theorem m_F_compare_cellTable (p0:(List api_Stitch)) (p1:(List api_Stitch)):Le (K_compare_cellTable p0 p1) (F_compare_cellTable p0 p1):=by
 unfold K_compare_cellTable F_compare_cellTable
 with_reducible repeat' (first | exact m_F_compare_table_api_Stitch__s0 _ _ | exact Le.rfl _ | refine Le.loop _ ?_ | refine Le.bind ?_ ?_ | refine Le.ite ?_ ?_ | refine Le.sum ?_ ?_ | refine Le.prod ?_ | intro _ | exact Empty.elim (by assumption) | dsimp only)
theorem m_compare_Edits_l2 (p0:(List api_Stitch)) (p1:(List api_Stitch)) (r30:(List (List Int))):∀ s,Le (K_compare_Edits_l2 p0 p1 r30 s) (compare_Edits_l2 p0 p1 r30 s):=by
 unfold K_compare_Edits_l2 compare_Edits_l2
 with_reducible repeat' (first | exact Le.rfl _ | refine Le.loop _ ?_ | refine Le.bind ?_ ?_ | refine Le.ite ?_ ?_ | refine Le.sum ?_ ?_ | refine Le.prod ?_ | intro _ | exact Empty.elim (by assumption) | dsimp only)
theorem m_F_compare_Edits (p0:(List api_Stitch)) (p1:(List api_Stitch)):Le (K_compare_Edits p0 p1) (F_compare_Edits p0 p1):=by
 unfold K_compare_Edits F_compare_Edits
 with_reducible repeat' (first | exact m_compare_Edits_l1 _ _ | exact m_F_compare_cellTable _ _ | exact m_compare_Edits_l2 _ _ _ | exact Le.rfl _ | refine Le.loop _ ?_ | refine Le.bind ?_ ?_ | refine Le.ite ?_ ?_ | refine Le.sum ?_ ?_ | refine Le.prod ?_ | intro _ | exact Empty.elim (by assumption) | dsimp only)
theorem m_raddleref26_Parse_l1 (r8:(List ByteArray)) (s54:Int):∀ s,Le (K_raddleref26_Parse_l1 r8 s54 s) (raddleref26_Parse_l1 r8 s54 s):=by
 unfold K_raddleref26_Parse_l1 raddleref26_Parse_l1
 with_reducible repeat' (first | exact Le.rfl _ | refine Le.loop _ ?_ | refine Le.bind ?_ ?_ | refine Le.ite ?_ ?_ | refine Le.sum ?_ ?_ | refine Le.prod ?_ | intro _ | exact Empty.elim (by assumption) | dsimp only)
theorem m_raddleref26_Parse_l2 (r8:(List ByteArray)):∀ s,Le (K_raddleref26_Parse_l2 r8 s) (raddleref26_Parse_l2 r8 s):=by
 unfold K_raddleref26_Parse_l2 raddleref26_Parse_l2
 with_reducible repeat' (first | exact m_raddleref26_Parse_l1 _ _ | exact m_F_raddleref25_Parse _ | exact Le.rfl _ | refine Le.loop _ ?_ | refine Le.bind ?_ ?_ | refine Le.ite ?_ ?_ | refine Le.sum ?_ ?_ | refine Le.prod ?_ | intro _ | exact Empty.elim (by assumption) | dsimp only)
theorem m_F_raddleref25_Uses (p0:(List api_Stitch)):Le (K_raddleref25_Uses p0) (F_raddleref25_Uses p0):=by
 unfold K_raddleref25_Uses F_raddleref25_Uses
 with_reducible repeat' (first | exact m_F_raddleref25_All _ | exact m_F_raddleref25_sums _ | exact Le.rfl _ | refine Le.loop _ ?_ | refine Le.bind ?_ ?_ | refine Le.ite ?_ ?_ | refine Le.sum ?_ ?_ | refine Le.prod ?_ | intro _ | exact Empty.elim (by assumption) | dsimp only)
theorem m_F_raddleref25_Makes (p0:(List api_Stitch)):Le (K_raddleref25_Makes p0) (F_raddleref25_Makes p0):=by
 unfold K_raddleref25_Makes F_raddleref25_Makes
 with_reducible repeat' (first | exact m_F_raddleref25_All _ | exact m_F_raddleref25_sums _ | exact Le.rfl _ | refine Le.loop _ ?_ | refine Le.bind ?_ ?_ | refine Le.ite ?_ ?_ | refine Le.sum ?_ ?_ | refine Le.prod ?_ | intro _ | exact Empty.elim (by assumption) | dsimp only)
theorem m_raddleref26_Check_l1 (p0:api_Chart):∀ s,Le (K_raddleref26_Check_l1 p0 s) (raddleref26_Check_l1 p0 s):=by
 unfold K_raddleref26_Check_l1 raddleref26_Check_l1
 with_reducible repeat' (first | exact m_F_raddleref25_Uses _ | exact m_F_raddleref25_Makes _ | exact Le.rfl _ | refine Le.loop _ ?_ | refine Le.bind ?_ ?_ | refine Le.ite ?_ ?_ | refine Le.sum ?_ ?_ | refine Le.prod ?_ | intro _ | exact Empty.elim (by assumption) | dsimp only)
theorem m_F_raddleref26_Check (p0:api_Chart):Le (K_raddleref26_Check p0) (F_raddleref26_Check p0):=by
 unfold K_raddleref26_Check F_raddleref26_Check
 with_reducible repeat' (first | exact m_raddleref26_Check_l1 _ | exact Le.rfl _ | refine Le.loop _ ?_ | refine Le.bind ?_ ?_ | refine Le.ite ?_ ?_ | refine Le.sum ?_ ?_ | refine Le.prod ?_ | intro _ | exact Empty.elim (by assumption) | dsimp only)
theorem m_F_raddleref26_side (p0:Bool):Le (K_raddleref26_side p0) (F_raddleref26_side p0):=by
 unfold K_raddleref26_side F_raddleref26_side
 with_reducible repeat' (first | exact Le.rfl _ | refine Le.loop _ ?_ | refine Le.bind ?_ ?_ | refine Le.ite ?_ ?_ | refine Le.sum ?_ ?_ | refine Le.prod ?_ | intro _ | exact Empty.elim (by assumption) | dsimp only)
theorem m_raddleref26_Written_l1 (p0:api_Chart):∀ s,Le (K_raddleref26_Written_l1 p0 s) (raddleref26_Written_l1 p0 s):=by
 unfold K_raddleref26_Written_l1 raddleref26_Written_l1
 with_reducible repeat' (first | exact m_F_raddleref25_Written _ | exact m_F_raddleref26_side _ | exact Le.rfl _ | refine Le.loop _ ?_ | refine Le.bind ?_ ?_ | refine Le.ite ?_ ?_ | refine Le.sum ?_ ?_ | refine Le.prod ?_ | intro _ | exact Empty.elim (by assumption) | dsimp only)
theorem m_F_raddleref26_Written (p0:api_Chart):Le (K_raddleref26_Written p0) (F_raddleref26_Written p0):=by
 unfold K_raddleref26_Written F_raddleref26_Written
 with_reducible repeat' (first | exact m_F_raddleref25_Decimal _ | exact m_raddleref26_Written_l1 _ | exact Le.rfl _ | refine Le.loop _ ?_ | refine Le.bind ?_ ?_ | refine Le.ite ?_ ?_ | refine Le.sum ?_ ?_ | refine Le.prod ?_ | intro _ | exact Empty.elim (by assumption) | dsimp only)
theorem m_F_raddleref26_Parse (p0:ByteArray):Le (K_raddleref26_Parse p0) (F_raddleref26_Parse p0):=by
 unfold K_raddleref26_Parse F_raddleref26_Parse
 with_reducible repeat' (first | exact m_F_raddleref25_Cut _ _ | exact m_F_raddleref25_Number _ | exact m_raddleref26_Parse_l2 _ | exact m_F_raddleref26_Check _ | exact m_F_raddleref26_Written _ | exact Le.rfl _ | refine Le.loop _ ?_ | refine Le.bind ?_ ?_ | refine Le.ite ?_ ?_ | refine Le.sum ?_ ?_ | refine Le.prod ?_ | intro _ | exact Empty.elim (by assumption) | dsimp only)
theorem m_F_raddlelaw46_knit (p0:ByteArray):Le (K_raddlelaw46_knit p0) (F_raddlelaw46_knit p0):=by
 unfold K_raddlelaw46_knit F_raddlelaw46_knit
 with_reducible repeat' (first | exact m_F_raddleref26_Parse _ | exact Le.rfl _ | refine Le.loop _ ?_ | refine Le.bind ?_ ?_ | refine Le.ite ?_ ?_ | refine Le.sum ?_ ?_ | refine Le.prod ?_ | intro _ | exact Empty.elim (by assumption) | dsimp only)
theorem m_F_chart_counted (p0:api_Chart):Le (K_chart_counted p0) (F_chart_counted p0):=by
 unfold K_chart_counted F_chart_counted
 with_reducible repeat' (first | exact Le.rfl _ | refine Le.loop _ ?_ | refine Le.bind ?_ ?_ | refine Le.ite ?_ ?_ | refine Le.sum ?_ ?_ | refine Le.prod ?_ | intro _ | exact Empty.elim (by assumption) | dsimp only)
theorem m_F_stitch_Uses (p0:(List api_Stitch)):Le (K_stitch_Uses p0) (F_stitch_Uses p0):=by
 unfold K_stitch_Uses F_stitch_Uses
 with_reducible repeat' (first | exact m_F_stitch_All _ | exact m_F_stitch_sum _ | exact Le.rfl _ | refine Le.loop _ ?_ | refine Le.bind ?_ ?_ | refine Le.ite ?_ ?_ | refine Le.sum ?_ ?_ | refine Le.prod ?_ | intro _ | exact Empty.elim (by assumption) | dsimp only)
theorem m_F_stitch_Makes (p0:(List api_Stitch)):Le (K_stitch_Makes p0) (F_stitch_Makes p0):=by
 unfold K_stitch_Makes F_stitch_Makes
 with_reducible repeat' (first | exact m_F_stitch_All _ | exact m_F_stitch_sum _ | exact Le.rfl _ | refine Le.loop _ ?_ | refine Le.bind ?_ ?_ | refine Le.ite ?_ ?_ | refine Le.sum ?_ ?_ | refine Le.prod ?_ | intro _ | exact Empty.elim (by assumption) | dsimp only)
theorem m_chart_counted_1_l1 {σ τ:Type} (p0:api_Chart) (B B':σ→(Int × chart_count)→Option (σ ⊕ τ)) (hB:∀ s x,Le (B s x) (B' s x)):∀ s,Le (K_chart_counted_1_l1 p0 B s) (chart_counted_1_l1 p0 B' s):=by
 unfold K_chart_counted_1_l1 chart_counted_1_l1
 with_reducible repeat' (first | exact hB _ _ | exact m_F_stitch_Uses _ | exact m_F_stitch_Makes _ | exact Le.rfl _ | refine Le.loop _ ?_ | refine Le.bind ?_ ?_ | refine Le.ite ?_ ?_ | refine Le.sum ?_ ?_ | refine Le.prod ?_ | intro _ | exact Empty.elim (by assumption) | dsimp only)
theorem m_I_chart_counted_1 (p0:api_Chart) (σ τ:Type) (B B':σ→(Int × chart_count)→Option (σ ⊕ τ)) (hB:∀ s x,Le (B s x) (B' s x)) (gz0:σ):Le (K_I_chart_counted_1 p0 σ τ B gz0) (I_chart_counted_1 p0 σ τ B' gz0):=by
 unfold K_I_chart_counted_1 I_chart_counted_1
 with_reducible repeat' (first | exact hB _ _ | exact m_chart_counted_1_l1 _ _ _ hB | exact Le.rfl _ | refine Le.loop _ ?_ | refine Le.bind ?_ ?_ | refine Le.ite ?_ ?_ | refine Le.sum ?_ ?_ | refine Le.prod ?_ | intro _ | exact Empty.elim (by assumption) | dsimp only)
theorem m_chart_Check_l2 :∀ s x,Le (K_chart_Check_l2 s x) (chart_Check_l2 s x):=by
 unfold K_chart_Check_l2 chart_Check_l2
 with_reducible repeat' (first | exact Le.rfl _ | refine Le.loop _ ?_ | refine Le.bind ?_ ?_ | refine Le.ite ?_ ?_ | refine Le.sum ?_ ?_ | refine Le.prod ?_ | intro _ | exact Empty.elim (by assumption) | dsimp only)
theorem m_F_chart_Check (p0:api_Chart):Le (K_chart_Check p0) (F_chart_Check p0):=by
 unfold K_chart_Check F_chart_Check
 with_reducible repeat' (first | exact m_F_chart_counted _ | refine m_I_chart_counted_1 _ _ _ _ _ ?_ _ | exact m_chart_Check_l2 | exact Le.rfl _ | refine Le.loop _ ?_ | refine Le.bind ?_ ?_ | refine Le.ite ?_ ?_ | refine Le.sum ?_ ?_ | refine Le.prod ?_ | intro _ | exact Empty.elim (by assumption) | dsimp only)
theorem m_F_compare_Charts_1 (p0:api_Row):Le (K_compare_Charts_1 p0) (F_compare_Charts_1 p0):=by
 unfold K_compare_Charts_1 F_compare_Charts_1
 with_reducible repeat' (first | exact Le.rfl _ | refine Le.loop _ ?_ | refine Le.bind ?_ ?_ | refine Le.ite ?_ ?_ | refine Le.sum ?_ ?_ | refine Le.prod ?_ | intro _ | exact Empty.elim (by assumption) | dsimp only)
theorem m_F_compare_Charts_2 (p0:api_Row) (p1:api_Row):Le (K_compare_Charts_2 p0 p1) (F_compare_Charts_2 p0 p1):=by
 unfold K_compare_Charts_2 F_compare_Charts_2
 with_reducible repeat' (first | exact m_F_compare_cellTable _ _ | exact Le.rfl _ | refine Le.loop _ ?_ | refine Le.bind ?_ ?_ | refine Le.ite ?_ ?_ | refine Le.sum ?_ ?_ | refine Le.prod ?_ | intro _ | exact Empty.elim (by assumption) | dsimp only)
theorem m_compare_table_api_Row__s0_l1 (s16:Int) (p0:(List api_Row)) (p1:(List api_Row)) (s15:List (List Int)):∀ s,Le (K_compare_table_api_Row__s0_l1 s16 p0 p1 s15 s) (compare_table_api_Row__s0_l1 s16 p0 p1 s15 s):=by
 unfold K_compare_table_api_Row__s0_l1 compare_table_api_Row__s0_l1
 with_reducible repeat' (first | exact m_F_compare_Charts_1 _ | exact m_F_compare_Charts_2 _ _ | exact Le.rfl _ | refine Le.loop _ ?_ | refine Le.bind ?_ ?_ | refine Le.ite ?_ ?_ | refine Le.sum ?_ ?_ | refine Le.prod ?_ | intro _ | exact Empty.elim (by assumption) | dsimp only)
theorem m_compare_table_api_Row__s0_l2 (p1:(List api_Row)) (p0:(List api_Row)):∀ s,Le (K_compare_table_api_Row__s0_l2 p1 p0 s) (compare_table_api_Row__s0_l2 p1 p0 s):=by
 unfold K_compare_table_api_Row__s0_l2 compare_table_api_Row__s0_l2
 with_reducible repeat' (first | exact m_compare_table_api_Row__s0_l1 _ _ _ _ | exact Le.rfl _ | refine Le.loop _ ?_ | refine Le.bind ?_ ?_ | refine Le.ite ?_ ?_ | refine Le.sum ?_ ?_ | refine Le.prod ?_ | intro _ | exact Empty.elim (by assumption) | dsimp only)
theorem m_F_compare_table_api_Row__s0 (p0:(List api_Row)) (p1:(List api_Row)):Le (K_compare_table_api_Row__s0 p0 p1) (F_compare_table_api_Row__s0 p0 p1):=by
 unfold K_compare_table_api_Row__s0 F_compare_table_api_Row__s0
 with_reducible repeat' (first | exact m_compare_table_api_Row__s0_l2 _ _ | exact Le.rfl _ | refine Le.loop _ ?_ | refine Le.bind ?_ ?_ | refine Le.ite ?_ ?_ | refine Le.sum ?_ ?_ | refine Le.prod ?_ | intro _ | exact Empty.elim (by assumption) | dsimp only)
theorem m_F_compare_Charts (p0:api_Chart) (p1:api_Chart):Le (K_compare_Charts p0 p1) (F_compare_Charts p0 p1):=by
 unfold K_compare_Charts F_compare_Charts
 with_reducible repeat' (first | exact m_F_chart_Check _ | exact m_F_compare_table_api_Row__s0 _ _ | exact Le.rfl _ | refine Le.loop _ ?_ | refine Le.bind ?_ ?_ | refine Le.ite ?_ ?_ | refine Le.sum ?_ ?_ | refine Le.prod ?_ | intro _ | exact Empty.elim (by assumption) | dsimp only)
theorem m_raddleref46_Same_l1 (p0:(List api_CellStep)) (p1:(List api_CellStep)):∀ s,Le (K_raddleref46_Same_l1 p0 p1 s) (raddleref46_Same_l1 p0 p1 s):=by
 unfold K_raddleref46_Same_l1 raddleref46_Same_l1
 with_reducible repeat' (first | exact Le.rfl _ | refine Le.loop _ ?_ | refine Le.bind ?_ ?_ | refine Le.ite ?_ ?_ | refine Le.sum ?_ ?_ | refine Le.prod ?_ | intro _ | exact Empty.elim (by assumption) | dsimp only)
theorem m_F_raddleref46_Same (p0:(List api_CellStep)) (p1:(List api_CellStep)):Le (K_raddleref46_Same p0 p1) (F_raddleref46_Same p0 p1):=by
 unfold K_raddleref46_Same F_raddleref46_Same
 with_reducible repeat' (first | exact m_raddleref46_Same_l1 _ _ | exact Le.rfl _ | refine Le.loop _ ?_ | refine Le.bind ?_ ?_ | refine Le.ite ?_ ?_ | refine Le.sum ?_ ?_ | refine Le.prod ?_ | intro _ | exact Empty.elim (by assumption) | dsimp only)
set_option maxRecDepth 1000000 in
theorem kc_raddlelaw46_alive_0:F_raddlelaw46_cloth (⟨#[46,120,10]⟩:ByteArray)=some (api_Grid.mk 2 1 [false,true]):=m_F_raddlelaw46_cloth _ _ (by kernel_rfl)
set_option maxRecDepth 1000000 in
theorem kc_raddlelaw46_alive_1:F_raddlelaw46_cloth (⟨#[120,46,10]⟩:ByteArray)=some (api_Grid.mk 2 1 [true,false]):=m_F_raddlelaw46_cloth _ _ (by kernel_rfl)
set_option maxRecDepth 1000000 in
theorem kc_raddlelaw46_alive_2:F_compare_Cells ((api_Grid.mk 2 1 [false,true])) ((api_Grid.mk 2 1 [true,false]))=some (2,0):=m_F_compare_Cells _ _ _ (by kernel_rfl)
set_option maxRecDepth 1000000 in
theorem kc_raddlelaw46_alive_3:F_compare_Nearest ((api_Grid.mk 2 1 [false,true])) ((api_Grid.mk 2 1 [true,false])) 0=some (0,(0,((api_Point.mk 1 0),0))):=m_F_compare_Nearest _ _ _ _ (by kernel_rfl)
set_option maxRecDepth 1000000 in
theorem kc_raddlelaw46_alive_4:F_raddlelaw46_cells (⟨#[107,32,112,32,107]⟩:ByteArray)=some [(api_Stitch.mk 1 false 0 0),(api_Stitch.mk 1 true 0 0),(api_Stitch.mk 1 false 0 0)]:=m_F_raddlelaw46_cells _ _ (by kernel_rfl)
set_option maxRecDepth 1000000 in
theorem kc_raddlelaw46_alive_5:F_raddlelaw46_cells (⟨#[107,32,121,111,32,107]⟩:ByteArray)=some [(api_Stitch.mk 1 false 0 0),(api_Stitch.mk 2 false 0 0),(api_Stitch.mk 1 false 0 0)]:=m_F_raddlelaw46_cells _ _ (by kernel_rfl)
set_option maxRecDepth 1000000 in
theorem kc_raddlelaw46_alive_6:F_compare_Edits ([(api_Stitch.mk 1 false 0 0),(api_Stitch.mk 1 true 0 0),(api_Stitch.mk 1 false 0 0)]) ([(api_Stitch.mk 1 false 0 0),(api_Stitch.mk 2 false 0 0),(api_Stitch.mk 1 false 0 0)])=some ([(api_CellStep.mk 1 (api_Stitch.mk 0 false 0 0)),(api_CellStep.mk 2 (api_Stitch.mk 2 false 0 0)),(api_CellStep.mk 1 (api_Stitch.mk 0 false 0 0))],(1,0)):=m_F_compare_Edits _ _ _ (by kernel_rfl)
set_option maxRecDepth 1000000 in
theorem kc_raddlelaw46_alive_7:F_raddlelaw46_cells (⟨#[107,32,112]⟩:ByteArray)=some [(api_Stitch.mk 1 false 0 0),(api_Stitch.mk 1 true 0 0)]:=m_F_raddlelaw46_cells _ _ (by kernel_rfl)
set_option maxRecDepth 1000000 in
theorem kc_raddlelaw46_alive_8:F_raddlelaw46_cells (⟨#[112]⟩:ByteArray)=some [(api_Stitch.mk 1 true 0 0)]:=m_F_raddlelaw46_cells _ _ (by kernel_rfl)
set_option maxRecDepth 1000000 in
theorem kc_raddlelaw46_alive_9:F_compare_Edits ([(api_Stitch.mk 1 false 0 0),(api_Stitch.mk 1 true 0 0)]) ([(api_Stitch.mk 1 true 0 0)])=some ([(api_CellStep.mk 4 (api_Stitch.mk 0 false 0 0)),(api_CellStep.mk 1 (api_Stitch.mk 0 false 0 0))],(1,0)):=m_F_compare_Edits _ _ _ (by kernel_rfl)
set_option maxRecDepth 1000000 in
theorem kc_raddlelaw46_alive_10:F_raddlelaw46_knit (⟨#[115,116,97,114,116,32,49,10,102,114,111,110,116,32,107,10]⟩:ByteArray)=some (api_Chart.mk 1 [(api_Row.mk false [(api_Stitch.mk 1 false 0 0)])]):=m_F_raddlelaw46_knit _ _ (by kernel_rfl)
set_option maxRecDepth 1000000 in
theorem kc_raddlelaw46_alive_11:F_raddlelaw46_knit (⟨#[115,116,97,114,116,32,49,10,102,114,111,110,116,32,112,10,98,97,99,107,32,107,10]⟩:ByteArray)=some (api_Chart.mk 1 [(api_Row.mk false [(api_Stitch.mk 1 true 0 0)]),(api_Row.mk true [(api_Stitch.mk 1 false 0 0)])]):=m_F_raddlelaw46_knit _ _ (by kernel_rfl)
set_option maxRecDepth 1000000 in
theorem kc_raddlelaw46_alive_12:F_compare_Charts ((api_Chart.mk 1 [(api_Row.mk false [(api_Stitch.mk 1 false 0 0)])])) ((api_Chart.mk 1 [(api_Row.mk false [(api_Stitch.mk 1 true 0 0)]),(api_Row.mk true [(api_Stitch.mk 1 false 0 0)])]))=some (3,0):=m_F_compare_Charts _ _ _ (by kernel_rfl)
set_option maxRecDepth 1000000 in
theorem kc_raddlelaw46_alive_13:F_raddleref46_Same (([(api_CellStep.mk 1 (api_Stitch.mk 0 false 0 0)),(api_CellStep.mk 2 (api_Stitch.mk 2 false 0 0)),(api_CellStep.mk 1 (api_Stitch.mk 0 false 0 0))],(1,0))).1 [(api_CellStep.mk 1 (api_Stitch.mk 0 false 0 0)),(api_CellStep.mk 2 (api_Stitch.mk 2 false 0 0)),(api_CellStep.mk 1 (api_Stitch.mk 0 false 0 0))]=some true:=m_F_raddleref46_Same _ _ _ (by kernel_rfl)
set_option maxRecDepth 1000000 in
theorem kc_raddlelaw46_alive_14:F_raddleref46_Same (([(api_CellStep.mk 4 (api_Stitch.mk 0 false 0 0)),(api_CellStep.mk 1 (api_Stitch.mk 0 false 0 0))],(1,0))).1 [(api_CellStep.mk 4 (api_Stitch.mk 0 false 0 0)),(api_CellStep.mk 1 (api_Stitch.mk 0 false 0 0))]=some true:=m_F_raddleref46_Same _ _ _ (by kernel_rfl)
end Go.Proofs.Ytffikfajljbmnaa
