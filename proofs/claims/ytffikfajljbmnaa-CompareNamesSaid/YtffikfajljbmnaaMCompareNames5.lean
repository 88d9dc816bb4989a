/- CompareNames: walks, tables, laws. -/
import Derived.Test.YtffikfajljbmnaaProg
import Derived.Test.YtffikfajljbmnaaRows
import Derived.Test.YtffikfajljbmnaaMCompareNames4
set_option linter.unusedVariables false
set_option linter.unusedSimpArgs false
set_option maxHeartbeats 4000000
set_option maxRecDepth 100000
namespace Go.Proofs.Ytffikfajljbmnaa
open Go.RowKit
noncomputable def raddleref25_Number_l1 (p0:ByteArray):(Int × Int)→Option ((Int × Int) ⊕ ((Int × Bool) ⊕ Int)):=fun s0=>match s0 with
 | (a2,a0)=>
  if decide (a0 < (p0.size:Int)) then
   Option.bind (α:=Bool) (
    (idxS p0 a0).bind fun a4=>
    if decide (a4 < 48) then
     some true
    else
     some (decide (57 < a4))) fun a5=>
   if a5 then
    some (.inr (.inl (0,false)))
   else
    (idxS p0 a0).bind fun a6=>
    some (.inl (w64 ((w64 (10 * a2)) + (IntKind.i64.wrap (IntKind.u8.wrap (a6 - 48)))),w64 (a0 + 1)))
  else
   some (.inr (.inr a2))
noncomputable def F_raddleref25_Number (p0:ByteArray):Option (Int × Bool):=
 Option.bind (α:=Bool) (
  if (p0.size:Int) == 0 then
   some true
  else
   if decide (4 < (p0.size:Int)) then
    some true
   else
    if decide (1 < (p0.size:Int)) then
     (idxS p0 0).bind fun x9=>
     some (x9 == 48)
    else
     some false) fun o3=>
 if o3 then
  some (0,false)
 else
  Option.bind (α:=Int ⊕ (Int × Bool)) (
   (whileO (raddleref25_Number_l1 p0) (0,0)).bind fun z0=>match z0 with
    | .inl z=>
     some (.inr z)
    | .inr a0=>
     some (.inl a0)) fun z0=>match z0 with
   | .inl a2=>
    some (a2,true)
   | .inr z=>
    some z
theorem c_raddleref25_Number (E:Nat→Prop) (w0:World) (p0:ByteArray) (r:(Int × Bool)) (h:F_raddleref25_Number p0=some r) (S:St0 E [] w0 w0 [] []) :
 Calls Try.prog 97 #[.string p0] w0 (Ret (X:=Unit) E [] w0 (fun _=>.tuple #[.int .i64 r.1,.bool r.2]) (fun _=>[]) (fun _=>[])):=by
 unfold F_raddleref25_Number at h
 refine sEnter (args:=[.string p0]) 49 Try.func97 d d (by simp) S (fun a S=>?_)
 refine sSeq (fun K1 ay=>sRegion (sN S fun a S=>?_))
 refine sN S fun a S=>?_
 refine lT (ay _ _ (sSeq (fun K2 az=>?_)))
 obtain ⟨t4,h,g5⟩:=bS h
 refine sCut (fun a w=>∃ o3,o3=t4∧St [] E [] w0 49 a w [(0,.string p0),(23,.bool o3)] [] []) ?_ (fun a w hI=>?_)
 ·refine sRegion (sM S fun a S=>?_)
  refine sLenS (v:=p0) S (wN d) d Try.underlying9 d d (lb d) fun a S=>sBin _ S (wN d) d d d (bEq _ _ _ _ .i64 (p0.size:Int) 0) d (lb d) fun a S=>sM S fun a S=>?_
  rcases iS h with ⟨a5,h⟩ | ⟨a5,h⟩
  ·refine sSkN 3 3 false 9 S d d a5 d fun a S=>sPickT (.bool true) S (wN d) d d a5 d d (lb d) fun a S=>sM S fun a S=>?_
   refine sSkN 4 8 false 14 S d d d d fun a S=>sSkipU 12 true 18 19 S d d d d (lb d) fun a S=>?_
   refine sSkipU 12 true 18 20 S d d d d (lb d) fun a S=>?_
   refine sSkipU 12 true 18 21 S d d d d (lb d) fun a S=>?_
   refine sSk S d d d d d d fun a S=>sPickT (.bool true) S (wN d) d d d d d (lb d) fun a S=>?_
   exact lT (⟨true,Option.some.inj h,S.fix [] [] (by decide) d d d⟩)
  refine sMove (.string p0) S (wG 3 false 9 d d d a5) (.inl d) d d (lb d) fun a S=>sLenS (v:=p0) S (wG 3 false 9 d d d a5) d Try.underlying9 d d (lb d) fun a S=>sBin _ S (wG 3 false 9 d d d a5) d d d (bGt _ _ _ _ .i64 (p0.size:Int) 4) d (lb d) fun a S=>sPickF (.bool (decide (4 < (p0.size:Int)))) S (wN d) d d a5 d d (lb d) fun a S=>sM S fun a S=>?_
  rcases iS h with ⟨a2,h⟩ | ⟨a2,h⟩
  ·refine sSkN 4 8 false 14 S d d a2 d fun a S=>sSkipU 12 true 18 19 S d d d d (lb d) fun a S=>?_
   refine sSkipU 12 true 18 20 S d d d d (lb d) fun a S=>?_
   refine sSkipU 12 true 18 21 S d d d d (lb d) fun a S=>?_
   refine sSk S d d d a2 d d fun a S=>sPickT (.bool true) S (wN d) d d a2 d d (lb d) fun a S=>?_
   exact lT (⟨true,Option.some.inj h,S.fix [] [] (by decide) d d d⟩)
  refine sMove (.string p0) S (wG 8 false 14 d d d a2) (.inl d) d d (lb d) fun a S=>sLenS (v:=p0) S (wG 8 false 14 d d d a2) d Try.underlying9 d d (lb d) fun a S=>sBin _ S (wG 8 false 14 d d d a2) d d d (bGt _ _ _ _ .i64 (p0.size:Int) 1) d (lb d) fun a S=>sMove (.bool (decide (1 < (p0.size:Int)))) S (wG 8 false 14 d d d a2) (.inl d) d d (lb d) fun a S=>?_
  rcases iS h with ⟨a6,h⟩ | ⟨a6,h⟩
  rotate_left
  ·refine sSkN 3 12 true 18 S d d a6 d fun a S=>sPickF (.bool false) S (wG 8 false 14 d d d a2) d d a6 d d (lb d) fun a S=>sPickF (.bool false) S (wN d) d d a2 d d (lb d) fun a S=>?_
   exact lT (⟨false,Option.some.inj h,S.fix [] [] (by decide) d d d⟩)
  refine sMove (.string p0) S (wG 12 true 18 d d d a6) (.inl d) d d (lb d) fun a S=>?_
  obtain ⟨x9,ah,h⟩:=bS h
  refine sIndexS (v:=p0) (j:=0) (k:=.i64) S (wG 12 true 18 d d d a6) d Try.underlying9 d d ah d (lb d) fun a S=>sBin _ S (wG 12 true 18 d d d a6) d d d (bEq _ _ _ _ .u8 x9 48) d (lb d) fun a S=>sPickT (.bool (x9 == 48)) S (wG 8 false 14 d d d a2) d d a6 d d (lb d) fun a S=>sPickF (.bool (x9 == 48)) S (wN d) d d a2 d d (lb d) fun a S=>?_
  exact lT (⟨x9 == 48,Option.some.inj h,S.fix [] [] (by decide) d d d⟩)
 obtain ⟨o3,rfl,S⟩:=hI
 have h:=g5
 try dsimp only at h
 rcases iS h with ⟨a7,h⟩ | ⟨a7,h⟩
 ·refine sCondT S d a7 (sSeq (fun aH ai=>sRegion (sN S fun a S=>?_)))
  refine sN S fun a S=>?_
  refine lT (ai _ _ ?_)
  obtain rfl:=tS h
  exact wp_ret (rThen (sRet (.tuple #[iv 0,.bool false]) S (rsl2 d (rvT (t:=2) (v:=iv 0) S d) (rvT (t:=3) (v:=.bool false) S d)) ⟨(),d,S.mem.sel [] [] (by decide) d d⟩))
 refine sCondF S d a7 (wp_skip (leafT (az _ _ ?_)))
 refine sSeq (fun aI aj=>sRegion (sN S fun a S=>?_))
 refine lT (aj _ _ ?_)
 obtain ⟨aA,h,aw⟩:=bS h
 refine sCut (fun a w=>∃ ab,.inl ab=aA∧St [] E [] w0 49 a w [(4,iv ab)] [] []) ?_ (fun a w hI=>?_)
 rotate_left
 ·obtain ⟨ab,rfl,S⟩:=hI
  have h:=aw
  try dsimp only at h
  refine sSeq (fun aJ ak=>sRegion (sM S fun a S=>?_))
  refine sN S fun a S=>?_
  refine sN S fun a S=>?_
  refine lT (ak _ _ ?_)
  obtain rfl:=tS h
  exact wp_ret (sRet (.tuple #[iv ab,.bool true]) S (rsl2 d (rvT (t:=2) (v:=iv ab) S d) (rvT (t:=3) (v:=.bool true) S d)) ⟨(),d,S.mem.sel [] [] (by decide) d d⟩)
 refine sSeq (fun aK al=>sRegion (sN S fun a S=>?_))
 refine lT (al _ _ (wp_block ?_))
 obtain ⟨aL,hl,ax⟩:=bS h
 refine sLoop hl (fun s0 a w=>match s0 with | (a8,a4)=>St [] E [] w0 49 a w [(0,.string p0),(4,iv a8),(5,iv a4)] [] []) (S.fix [] [] (by decide) d d d) ?_
 clear hl h
 intro s0 a w c0 hI h ac
 obtain ⟨a8,a4⟩:=s0
 unfold raddleref25_Number_l1 at h
 dsimp only at h hI
 have S:=hI
 refine sSeq (fun aM am=>sSeq (fun aO ao=>sRegion (sM S fun a S=>?_)))
 refine sM S fun a S=>?_
 refine sLenS (v:=p0) S (wN d) d Try.underlying9 d d (lb d) fun a S=>sBin _ S (wN d) d d d (bLt _ _ _ _ .i64 a4 (p0.size:Int)) d (lb d) fun a S=>lT (ao _ _ ?_)
 rcases iS h with ⟨a9,h⟩ | ⟨a9,h⟩
 rotate_left
 ·refine sCondF S d a9 ?_
  obtain rfl:=tS h
  obtain rfl:=ac _ d
  have h:=ax
  try dsimp only at h
  exact wp_exit (xThen (xThen (xHit (leafT (⟨a8,Option.some.inj h,S.fix [] [] (by decide) d d d⟩)))))
 refine sCondT S d a9 (wp_skip (leafT (am _ _ ?_)))
 refine sSeq (fun aP ap=>wp_block ?_)
 refine sSeq (fun aQ aq=>?_)
 obtain ⟨aC,h,aG⟩:=bS h
 refine sCut (fun a w=>∃ ar,ar=aC∧St [] E [] w0 49 a w [(0,.string p0),(4,iv a8),(5,iv a4),(39,.bool ar)] [] []) ?_ (fun a w hI=>?_)
 ·refine sRegion (sM S fun a S=>?_)
  refine sM S fun a S=>?_
  obtain ⟨af,ae,h⟩:=bS h
  refine sIndexS (v:=p0) (j:=a4) (k:=.i64) S (wN d) d Try.underlying9 d d ae d (lb d) fun a S=>sBin _ S (wN d) d d d (bLt _ _ _ _ .u8 af 48) d (lb d) fun a S=>sM S fun a S=>?_
  rcases iS h with ⟨a0,h⟩ | ⟨a0,h⟩
  ·refine sSkN 4 4 false 34 S d d a0 d fun a S=>sPickT (.bool true) S (wN d) d d a0 d d (lb d) fun a S=>?_
   exact lT (⟨true,Option.some.inj h,S.fix [] [] (by decide) d d d⟩)
  refine sMove (.string p0) S (wG 4 false 34 d d d a0) (.inl d) d d (lb d) fun a S=>sMove (iv a4) S (wG 4 false 34 d d d a0) (.inl d) d d (lb d) fun a S=>sIndexS (v:=p0) (j:=a4) (k:=.i64) S (wG 4 false 34 d d d a0) d Try.underlying9 d d ae d (lb d) fun a S=>sBin _ S (wG 4 false 34 d d d a0) d d d (bGt _ _ _ _ .u8 af 57) d (lb d) fun a S=>sPickF (.bool (decide (57 < af))) S (wN d) d d a0 d d (lb d) fun a S=>?_
  exact lT (⟨decide (57 < af),Option.some.inj h,S.fix [] [] (by decide) d d d⟩)
 obtain ⟨ar,rfl,S⟩:=hI
 have h:=aG
 try dsimp only at h
 rcases iS h with ⟨aa,h⟩ | ⟨aa,h⟩
 ·refine sCondT S d aa (sSeq (fun aR au=>sRegion (sN S fun a S=>?_)))
  refine sN S fun a S=>?_
  refine lT (au _ _ ?_)
  obtain rfl:=tS h
  obtain rfl:=ac _ d
  have h:=ax
  try dsimp only at h
  obtain rfl:=tS h
  have h:=aw
  try dsimp only at h
  obtain rfl:=tS h
  exact wp_ret (rThen (rBlock (rThen (rThen (rBlock (rThen (sRet (.tuple #[iv 0,.bool false]) S (rsl2 d (rvT (t:=2) (v:=iv 0) S d) (rvT (t:=3) (v:=.bool false) S d)) ⟨(),d,S.mem.sel [] [] (by decide) d d⟩)))))))
 refine sCondF S d aa (wp_skip (leafT (aq _ _ ?_)))
 refine sRegion (sM S fun a S=>?_)
 refine sBin _ S (wN d) d d d (bMul _ _ _ _ 10 a8) d (lb d) fun a S=>sM S fun a S=>?_
 refine sM S fun a S=>?_
 obtain ⟨ag,av,h⟩:=bS h
 refine sIndexS (v:=p0) (j:=a4) (k:=.i64) S (wN d) d Try.underlying9 d d av d (lb d) fun a S=>sBin _ S (wN d) d d d (bSubK _ _ _ _ .u8 ag 48) d (lb d) fun a S=>sConv (k:=.u8) (k2:=.i64) (b:=IntKind.u8.wrap (ag - 48)) S (wN d) d Try.underlying5 Try.underlying3 d d (lb d) fun a S=>sBin _ S (wN d) d d d (bAdd _ _ _ _ (w64 (10 * a8)) (IntKind.i64.wrap (IntKind.u8.wrap (ag - 48)))) d (lb d) fun a S=>sN S fun a S=>?_
 refine leafL (leafB (leafT (ap _ _ ?_)))
 refine sRegion (sM S fun a S=>?_)
 refine sBin _ S (wN d) d d d (bAdd _ _ _ _ a4 1) d (lb d) fun a S=>sN S fun a S=>?_
 exact lT (⟨(w64 ((w64 (10 * a8)) + (IntKind.i64.wrap (IntKind.u8.wrap (ag - 48)))),w64 (a4 + 1)),(Option.some.inj h).symm,(S.fix [] [] (by decide) d d d)⟩)
noncomputable def raddleref25_word_l1 (a4:(Int × Bool)) (a5:Int):(List api_Stitch × Int)→Option ((List api_Stitch × Int) ⊕ List api_Stitch):=fun s0=>match s0 with
 | (a2,a0)=>
  Option.bind (α:=Bool) (
   if decide (a0 < a4.1) then
    some (decide (a0 < 300))
   else
    some false) fun a6=>
  if a6 then
   (appO a2 [(api_Stitch.mk 1 (a5 == 112) 0 0)]).bind fun a7=>
   some (.inl (a7,w64 (a0 + 1)))
  else
   some (.inr a2)
noncomputable def F_raddleref25_word (p0:ByteArray):Option ((List api_Stitch) × Bool):=
 if p0 == (⟨#[121,111]⟩:ByteArray) then
  some ([(api_Stitch.mk 2 false 0 0)],true)
 else
  Option.bind (α:=Bool) (
   if decide (2 < (p0.size:Int)) then
    (sliceS p0 0 2).bind fun ai=>
    some (ai == (⟨#[111,110]⟩:ByteArray))
   else
    some false) fun o9=>
  if o9 then
   (sliceS p0 2 (p0.size:Int)).bind fun aj=>
   (F_raddleref25_Number aj).bind fun ag=>
   some ([(api_Stitch.mk 9 false ag.1 0)],ag.2)
  else
   Option.bind (α:=Bool) (
    if (p0.size:Int) == 0 then
     some true
    else
     (idxS p0 0).bind fun ah=>
     if ah != 107 then
      some (ah != 112)
     else
      some false) fun ak=>
   if ak then
    some (([]:(List api_Stitch)),false)
   else
    (idxS p0 0).bind fun a6=>
    if (p0.size:Int) == 1 then
     some ([(api_Stitch.mk 1 (a6 == 112) 0 0)],true)
    else
     Option.bind (α:=Unit ⊕ ((List api_Stitch) × Bool)) (
      (sliceS p0 1 (p0.size:Int)).bind fun al=>
      (F_raddleref25_Number al).bind fun a7=>
      if a7.2 then
       Option.bind (α:=List api_Stitch) (
        (whileO (raddleref25_word_l1 a7 a6) (([]:List api_Stitch),0)).bind fun am=>
         some am) fun ao=>
       some (.inr (ao,decide (1 < a7.1)))
      else
       some (.inl ())) fun z0=>match z0 with
      | .inl _=>
       (idxS p0 1).bind fun ap=>
       (F_raddleref25_kind ap).bind fun a0=>
       if a0 == 8 then
        some ([(api_Stitch.mk a0 (a6 == 112) 0 0)],(p0.size:Int) == 2)
       else
        (sliceS p0 2 (p0.size:Int)).bind fun aq=>
        (F_raddleref25_Cut aq 47).bind fun a2=>
        Option.bind (α:=Bool) (
         if a0 != 0 then
          some ((a2.length:Int) == 1)
         else
          some false) fun a8=>
        Option.bind (α:=(Bool × Int)) (
         Option.bind (α:=Bool) (
          if a0 == 6 then
           some true
          else
           some (a0 == 7)) fun a9=>
         if a9 then
          if (a2.length:Int) == 2 then
           (idxO a2 1).bind fun aa=>
           (F_raddleref25_Number aa).bind fun a4=>
           some (a4.2,a4.1)
          else
           some ((a2.length:Int) == 2,0)
         else
          some (a8,0)) fun (ab,ac)=>
        (idxO a2 0).bind fun ae=>
        (F_raddleref25_Number ae).bind fun a5=>
        Option.bind (α:=Bool) (
         if ab then
          some a5.2
         else
          some false) fun af=>
        some ([(api_Stitch.mk a0 (a6 == 112) a5.1 ac)],af)
      | .inr z=>
       some z
def c_raddleref25_word_val (r:((List api_Stitch) × Bool)) (x:Value):Value:=.tuple #[x,.bool r.2]
def c_raddleref25_word_D (r:((List api_Stitch) × Bool)) (x:Value):List Fact:=[fRep (rL r_api_Stitch) x r.1]
theorem c_raddleref25_word (E:Nat→Prop) (w0:World) (p0:ByteArray) (r:((List api_Stitch) × Bool)) (h:F_raddleref25_word p0=some r) (S:St0 E [] w0 w0 [] []) :
 Calls Try.prog 95 #[.string p0] w0 (Ret (X:=Value) E [] w0 (c_raddleref25_word_val r) (fun _=>[]) (c_raddleref25_word_D r)):=by
 unfold F_raddleref25_word at h
 refine sEnter (args:=[.string p0]) 140 Try.func95 d d (by simp) S (fun a S=>?_)
 refine sSeq (fun K1 co=>sRegion (sN S fun a S=>?_))
 refine sN S fun a S=>?_
 refine lT (co _ _ (sSeq (fun K2 cp=>sSeq (fun K3 cq=>sRegion (sM S fun a S=>?_)))))
 refine sBin _ S (wN d) d d d (bEqS _ _ _ _ p0 (⟨#[121,111]⟩:ByteArray)) d (lb d) fun a S=>lT (cq _ _ ?_)
 rcases iS h with ⟨bt,h⟩ | ⟨bt,h⟩
 ·refine sCondT S d bt (sSeq (fun K5 cr=>sRegion (sBuild [(0,.int .u8 2)] [.int .u8 2,.bool false,iv 0,iv 0] S (wN d) d d d d (lb d) fun a S=>?_)))
  have S:=S.learn (fRep r_api_Stitch (.agg #[.int .u8 2,.bool false,iv 0,iv 0]) (api_Stitch.mk 2 false 0 0)) d
  refine sLit (r:=r_api_Stitch) (T:=81) (xs:=[(api_Stitch.mk 2 false 0 0)]) [(0,.agg #[.int .u8 2,.bool false,iv 0,iv 0])] 1 [.agg #[.int .u8 2,.bool false,iv 0,iv 0]] [.int .u8 2,.bool false,iv 0,iv 0] (.agg #[.int .u8 0,.bool false,iv 0,iv 0]) 24 S (wN d) d d Try.underlying47 d (by decide) (by decide) (by kernel_rfl) d (fun E1 w1 hE=>All.cons (r_api_Stitch.mono hE (S.mem.know (i:=0) (e:=fRep r_api_Stitch (.agg #[.int .u8 2,.bool false,iv 0,iv 0]) (api_Stitch.mk 2 false 0 0)) d)) (All.nil _ _ _)) d d (lb d) fun a w bp bq S=>?_
  refine sN S fun a S=>?_
  refine sN S fun a S=>?_
  refine lT (cr _ _ ?_)
  obtain rfl:=tS h
  have S:=S.shutR (r:=r_api_Stitch) (T:=81) (v:=.slice bp [(api_Stitch.mk 2 false 0 0)].length bq) (xs:=[(api_Stitch.mk 2 false 0 0)]) 0 d
  exact wp_ret (rThen (sRet (.tuple #[.slice bp [(api_Stitch.mk 2 false 0 0)].length bq,.bool true]) S (rsl2 d (rvT (t:=2) (v:=.slice bp [(api_Stitch.mk 2 false 0 0)].length bq) S d) (rvT (t:=3) (v:=.bool true) S d)) ⟨(.slice bp [(api_Stitch.mk 2 false 0 0)].length bq),d,S.mem.sel [] [0] (by decide) d d⟩))
 refine sCondF S d bt (wp_skip (leafT (cp _ _ ?_)))
 refine sSeq (fun K8 ct=>?_)
 obtain ⟨cu,h,cv⟩:=bS h
 refine sCut (fun a w=>∃ o9,o9=cu∧St [] E [] w0 140 a w [(0,.string p0),(26,.bool o9)] [] []) ?_ (fun a w hI=>?_)
 ·refine sRegion (sM S fun a S=>?_)
  refine sLenS (v:=p0) S (wN d) d Try.underlying9 d d (lb d) fun a S=>sBin _ S (wN d) d d d (bGt _ _ _ _ .i64 (p0.size:Int) 2) d (lb d) fun a S=>sM S fun a S=>?_
  rcases iS h with ⟨ak,h⟩ | ⟨ak,h⟩
  rotate_left
  ·refine sSkN 3 3 true 22 S d d ak d fun a S=>sPickF (.bool false) S (wN d) d d ak d d (lb d) fun a S=>?_
   exact lT (⟨false,Option.some.inj h,S.fix [] [] (by decide) d d d⟩)
  refine sMove (.string p0) S (wG 3 true 22 d d d ak) (.inl d) d d (lb d) fun a S=>?_
  obtain ⟨br,bu,h⟩:=bS h
  refine sSliceS (v:=p0) (u:=br) (vlo:=none) (vhi:=(some (.int .i64 2))) (lo':=0) (hi':=2) S (wG 3 true 22 d d d ak) d Try.underlying9 d d d (.inr ⟨d,d⟩) (.inl d) bu d (lb d) fun a S=>sBin _ S (wG 3 true 22 d d d ak) d d d (bEqS _ _ _ _ br (⟨#[111,110]⟩:ByteArray)) d (lb d) fun a S=>sPickT (.bool (br == (⟨#[111,110]⟩:ByteArray))) S (wN d) d d ak d d (lb d) fun a S=>?_
  exact lT (⟨br == (⟨#[111,110]⟩:ByteArray),Option.some.inj h,S.fix [] [] (by decide) d d d⟩)
 obtain ⟨o9,rfl,S⟩:=hI
 have h:=cv
 try dsimp only at h
 rcases iS h with ⟨aQ,h⟩ | ⟨aQ,h⟩
 ·refine sCondT S d aQ (sSeq (fun cJ bv=>sRegion (sM S fun a S=>?_)))
  obtain ⟨bw,bx,h⟩:=bS h
  refine sSliceS (v:=p0) (u:=bw) (vlo:=(some (.int .i64 2))) (vhi:=none) (lo':=2) (hi':=(p0.size:Int)) S (wN d) d Try.underlying9 d d d (.inl d) (.inr ⟨d,d⟩) bx d (lb d) fun a S=>?_
  obtain ⟨aa,bz,h⟩:=bS h
  have S1:=S.mem
  refine sCq [.string bw] (.tuple #[iv aa.1,.bool aa.2]) S callee97 (S1.quiet [] d) (fun E1 w1 S1=>c_raddleref25_Number E1 w1 bw aa bz S1) fun a w S=>?_
  refine sM S fun a S=>?_
  refine sExtract (vs:=[iv aa.1,.bool aa.2]) (iv aa.1) S (wN d) d d d d (lb d) fun a S=>sExtract (vs:=[iv aa.1,.bool aa.2]) (.bool aa.2) S (wN d) d d d d (lb d) fun a S=>sN S fun a S=>?_
  refine sN S fun a S=>?_
  refine lT (bv _ _ (sSeq (fun cK bA=>sRegion (sM S fun a S=>?_))))
  refine sBuild [(0,.int .u8 9),(2,iv aa.1)] [.int .u8 9,.bool false,iv aa.1,iv 0] S (wN d) d d d d (lb d) fun a S=>?_
  have S:=S.learn (fRep r_api_Stitch (.agg #[.int .u8 9,.bool false,iv aa.1,iv 0]) (api_Stitch.mk 9 false aa.1 0)) d
  refine sLit (r:=r_api_Stitch) (T:=81) (xs:=[(api_Stitch.mk 9 false aa.1 0)]) [(0,.agg #[.int .u8 9,.bool false,iv aa.1,iv 0])] 1 [.agg #[.int .u8 9,.bool false,iv aa.1,iv 0]] [.int .u8 9,.bool false,iv aa.1,iv 0] (.agg #[.int .u8 0,.bool false,iv 0,iv 0]) 24 S (wN d) d d Try.underlying47 d (by decide) (by decide) (by kernel_rfl) d (fun E1 w1 hE=>All.cons (r_api_Stitch.mono hE (S.mem.know (i:=0) (e:=fRep r_api_Stitch (.agg #[.int .u8 9,.bool false,iv aa.1,iv 0]) (api_Stitch.mk 9 false aa.1 0)) d)) (All.nil _ _ _)) d d (lb d) fun a w aH aI S=>?_
  refine sM S fun a S=>?_
  refine sN S fun a S=>?_
  refine sN S fun a S=>?_
  refine lT (bA _ _ ?_)
  obtain rfl:=tS h
  have S:=S.shutR (r:=r_api_Stitch) (T:=81) (v:=.slice aH [(api_Stitch.mk 9 false aa.1 0)].length aI) (xs:=[(api_Stitch.mk 9 false aa.1 0)]) 0 d
  exact wp_ret (rThen (sRet (.tuple #[.slice aH [(api_Stitch.mk 9 false aa.1 0)].length aI,.bool aa.2]) S (rsl2 d (rvT (t:=2) (v:=.slice aH [(api_Stitch.mk 9 false aa.1 0)].length aI) S d) (rvT (t:=3) (v:=.bool aa.2) S d)) ⟨(.slice aH [(api_Stitch.mk 9 false aa.1 0)].length aI),d,S.mem.sel [] [0] (by decide) d d⟩))
 refine sCondF S d aQ (wp_skip (leafT (ct _ _ ?_)))
 refine sSeq (fun cL bB=>?_)
 obtain ⟨cw,h,cx⟩:=bS h
 refine sCut (fun a w=>∃ bC,bC=cw∧St [] E [] w0 140 a w [(0,.string p0),(49,.bool bC)] [] []) ?_ (fun a w hI=>?_)
 ·refine sRegion (sM S fun a S=>?_)
  refine sLenS (v:=p0) S (wN d) d Try.underlying9 d d (lb d) fun a S=>sBin _ S (wN d) d d d (bEq _ _ _ _ .i64 (p0.size:Int) 0) d (lb d) fun a S=>sM S fun a S=>?_
  rcases iS h with ⟨ab,h⟩ | ⟨ab,h⟩
  ·refine sSkN 4 3 false 40 S d d ab d fun a S=>sSkipU 7 true 44 45 S d d d d (lb d) fun a S=>?_
   refine sSkipU 7 true 44 46 S d d d d (lb d) fun a S=>?_
   refine sSkipU 7 true 44 47 S d d d d (lb d) fun a S=>?_
   refine sSk S d d d ab d d fun a S=>sPickT (.bool true) S (wN d) d d ab d d (lb d) fun a S=>?_
   exact lT (⟨true,Option.some.inj h,S.fix [] [] (by decide) d d d⟩)
  refine sMove (.string p0) S (wG 3 false 40 d d d ab) (.inl d) d d (lb d) fun a S=>?_
  obtain ⟨aZ,b0,h⟩:=bS h
  refine sIndexS (v:=p0) (j:=0) (k:=.i64) S (wG 3 false 40 d d d ab) d Try.underlying9 d d b0 d (lb d) fun a S=>sBin _ S (wG 3 false 40 d d d ab) d d d (bNe _ _ _ _ .u8 aZ 107) d (lb d) fun a S=>sMove (.bool (aZ != 107)) S (wG 3 false 40 d d d ab) (.inl d) d d (lb d) fun a S=>?_
  rcases iS h with ⟨al,h⟩ | ⟨al,h⟩
  rotate_left
  ·refine sSkN 3 7 true 44 S d d al d fun a S=>sPickF (.bool false) S (wG 3 false 40 d d d ab) d d al d d (lb d) fun a S=>sPickF (.bool false) S (wN d) d d ab d d (lb d) fun a S=>?_
   exact lT (⟨false,Option.some.inj h,S.fix [] [] (by decide) d d d⟩)
  refine sMove (.string p0) S (wG 7 true 44 d d d al) (.inl d) d d (lb d) fun a S=>sIndexS (v:=p0) (j:=0) (k:=.i64) S (wG 7 true 44 d d d al) d Try.underlying9 d d b0 d (lb d) fun a S=>sBin _ S (wG 7 true 44 d d d al) d d d (bNe _ _ _ _ .u8 aZ 112) d (lb d) fun a S=>sPickT (.bool (aZ != 112)) S (wG 3 false 40 d d d ab) d d al d d (lb d) fun a S=>sPickF (.bool (aZ != 112)) S (wN d) d d ab d d (lb d) fun a S=>?_
  exact lT (⟨aZ != 112,Option.some.inj h,S.fix [] [] (by decide) d d d⟩)
 obtain ⟨bC,rfl,S⟩:=hI
 have h:=cx
 try dsimp only at h
 rcases iS h with ⟨aR,h⟩ | ⟨aR,h⟩
 ·refine sCondT S d aR (sSeq (fun cM bD=>sRegion (sN S fun a S=>?_)))
  refine sN S fun a S=>?_
  refine lT (bD _ _ ?_)
  obtain rfl:=tS h
  have S:=S.learn (fRep (rL r_api_Stitch) (.slice none 0 0) ([]:(List api_Stitch))) (rL_nil _ _ _)
  exact wp_ret (rThen (sRet (.tuple #[.slice none 0 0,.bool false]) S (rsl2 d (rvT (t:=2) (v:=.slice none 0 0) S d) (rvT (t:=3) (v:=.bool false) S d)) ⟨(.slice none 0 0),d,S.mem.sel [] [0] (by decide) d d⟩))
 refine sCondF S d aR (wp_skip (leafT (bB _ _ ?_)))
 refine sSeq (fun cN bE=>sRegion (sM S fun a S=>?_))
 obtain ⟨a0,bF,h⟩:=bS h
 refine sIndexS (v:=p0) (j:=0) (k:=.i64) S (wN d) d Try.underlying9 d d bF d (lb d) fun a S=>sBin _ S (wN d) d d d (bEq _ _ _ _ .u8 a0 112) d (lb d) fun a S=>sBuild [(0,.int .u8 1),(1,.bool (a0 == 112))] [.int .u8 1,.bool (a0 == 112),iv 0,iv 0] S (wN d) d d d d (lb d) fun a S=>sAlloc (.agg #[.int .u8 0,.bool false,iv 0,iv 0]) S (wN d) d d [.int .u8 0,.bool false,iv 0,iv 0] d d (lb d) fun a a8 w S=>sStore (p:=a8) (off:=0) (T:=81) (vs:=[.int .u8 0,.bool false,iv 0,iv 0]) (v:=.agg #[.int .u8 1,.bool (a0 == 112),iv 0,iv 0]) 0 [.int .u8 1,.bool (a0 == 112),iv 0,iv 0] S (wN d) d d d d d d d (by simp) d fun a w S=>lT (bE _ _ (sSeq (fun cO bG=>sSeq (fun cP bH=>sRegion (sM S fun a S=>?_)))))
 refine sLenS (v:=p0) S (wN d) d Try.underlying9 d d (lb d) fun a S=>sBin _ S (wN d) d d d (bEq _ _ _ _ .i64 (p0.size:Int) 1) d (lb d) fun a S=>lT (bH _ _ ?_)
 rcases iS h with ⟨aS,h⟩ | ⟨aS,h⟩
 ·refine sCondT S d aS (sSeq (fun cQ bI=>sRegion (sLoadN (p:=a8) (off:=0) (T:=81) (vs:=[.int .u8 1,.bool (a0 == 112),iv 0,iv 0]) 0 [.int .u8 1,.bool (a0 == 112),iv 0,iv 0] S (wN d) d d d d d d d (lb d) fun a S=>?_)))
  have S:=S.learn (fRep r_api_Stitch (.agg #[.int .u8 1,.bool (a0 == 112),iv 0,iv 0]) (api_Stitch.mk 1 (a0 == 112) 0 0)) d
  refine sLit (r:=r_api_Stitch) (T:=81) (xs:=[(api_Stitch.mk 1 (a0 == 112) 0 0)]) [(0,.agg #[.int .u8 1,.bool (a0 == 112),iv 0,iv 0])] 1 [.agg #[.int .u8 1,.bool (a0 == 112),iv 0,iv 0]] [.int .u8 1,.bool (a0 == 112),iv 0,iv 0] (.agg #[.int .u8 0,.bool false,iv 0,iv 0]) 24 S (wN d) d d Try.underlying47 d (by decide) (by decide) (by kernel_rfl) d (fun E1 w1 hE=>All.cons (r_api_Stitch.mono hE (S.mem.know (i:=0) (e:=fRep r_api_Stitch (.agg #[.int .u8 1,.bool (a0 == 112),iv 0,iv 0]) (api_Stitch.mk 1 (a0 == 112) 0 0)) d)) (All.nil _ _ _)) d d (lb d) fun a w aJ aK S=>?_
  refine sN S fun a S=>?_
  refine sN S fun a S=>?_
  refine lT (bI _ _ ?_)
  obtain rfl:=tS h
  have S:=S.shutR (r:=r_api_Stitch) (T:=81) (v:=.slice aJ [(api_Stitch.mk 1 (a0 == 112) 0 0)].length aK) (xs:=[(api_Stitch.mk 1 (a0 == 112) 0 0)]) 0 d
  exact wp_ret (rThen (sRet (.tuple #[.slice aJ [(api_Stitch.mk 1 (a0 == 112) 0 0)].length aK,.bool true]) S (rsl2 d (rvT (t:=2) (v:=.slice aJ [(api_Stitch.mk 1 (a0 == 112) 0 0)].length aK) S d) (rvT (t:=3) (v:=.bool true) S d)) ⟨(.slice aJ [(api_Stitch.mk 1 (a0 == 112) 0 0)].length aK),d,S.mem.sel [] [0] (by decide) d d⟩))
 refine sCondF S d aS (wp_skip (leafT (bG _ _ ?_)))
 obtain ⟨cy,h,cm⟩:=bS h
 refine sCut (fun a w=>.inl ()=cy∧St [] E [] w0 140 a w [(0,.string p0),(6,.pointer (some ⟨a8,0,none⟩))] [eBox a8 81 [.int .u8 1,.bool (a0 == 112),iv 0,iv 0]] []) ?_ (fun a w hI=>?_)
 ·refine sSeq (fun cR bJ=>sRegion (sM S fun a S=>?_))
  obtain ⟨bK,bL,h⟩:=bS h
  refine sSliceS (v:=p0) (u:=bK) (vlo:=(some (.int .i64 1))) (vhi:=none) (lo':=1) (hi':=(p0.size:Int)) S (wN d) d Try.underlying9 d d d (.inl d) (.inr ⟨d,d⟩) bL d (lb d) fun a S=>?_
  obtain ⟨aj,bM,h⟩:=bS h
  have S1:=S.mem
  refine sCq [.string bK] (.tuple #[iv aj.1,.bool aj.2]) S callee97 (S1.quiet [] d) (fun E1 w1 S1=>c_raddleref25_Number E1 w1 bK aj bM S1) fun a w S=>?_
  refine sM S fun a S=>?_
  refine sExtract (vs:=[iv aj.1,.bool aj.2]) (iv aj.1) S (wN d) d d d d (lb d) fun a S=>sExtract (vs:=[iv aj.1,.bool aj.2]) (.bool aj.2) S (wN d) d d d d (lb d) fun a S=>sN S fun a S=>?_
  refine sN S fun a S=>?_
  refine lT (bJ _ _ (sSeq (fun cS bN=>sRegion (sM S fun a S=>?_))))
  refine lT (bN _ _ ?_)
  rcases iS h with ⟨aT,h⟩ | ⟨aT,h⟩
  rotate_left
  ·refine sCondF S d aT ?_
   exact wp_skip (leafT (⟨Option.some.inj h,S.fix [0] [] (by decide) d d d⟩))
  refine sCondT S d aT (sSeq (fun cT bO=>sRegion (sN S fun a S=>?_)))
  refine lT (bO _ _ ?_)
  obtain ⟨cz,h,cA⟩:=bS h
  refine sCut (fun a w=>∃ aA,aA=cz∧∃ am,∃ ao,St [] E [] w0 140 a w [(7,iv aj.1),(9,.slice am aA.length ao)] [eRow r_api_Stitch 81 (.slice am aA.length ao) aA] []) ?_ (fun a w hI=>?_)
  rotate_left
  ·obtain ⟨aA,rfl,am,ao,S⟩:=hI
   have h:=cA
   try dsimp only at h
   refine sSeq (fun cU bP=>sRegion (sM S fun a S=>?_))
   refine sM S fun a S=>?_
   refine sBin _ S (wN d) d d d (bGt _ _ _ _ .i64 aj.1 1) d (lb d) fun a S=>sN S fun a S=>?_
   refine sN S fun a S=>?_
   refine lT (bP _ _ ?_)
   obtain rfl:=tS h
   have h:=cm
   try dsimp only at h
   obtain rfl:=tS h
   have S:=S.shutR (r:=r_api_Stitch) (T:=81) (v:=.slice am aA.length ao) (xs:=aA) 0 d
   exact wp_ret (rThen (sRet (.tuple #[.slice am aA.length ao,.bool (decide (1 < aj.1))]) S (rsl2 d (rvT (t:=2) (v:=.slice am aA.length ao) S d) (rvT (t:=3) (v:=.bool (decide (1 < aj.1))) S d)) ⟨(.slice am aA.length ao),d,S.mem.sel [] [0] (by decide) d d⟩))
  refine sSeq (fun cV bQ=>sRegion (sN S fun a S=>?_))
  refine lT (bQ _ _ (wp_block ?_))
  have S:=S.nilRow r_api_Stitch 81 (α:=api_Stitch)
  obtain ⟨cW,hl,cB⟩:=bS h
  refine sLoop hl (fun s0 a w=>match s0 with | (aC,aG)=>∃ ap,∃ aq,St [] E [] w0 140 a w [(6,.pointer (some ⟨a8,0,none⟩)),(7,iv aj.1),(9,.slice ap aC.length aq),(10,iv aG)] [eBox a8 81 [.int .u8 1,.bool (a0 == 112),iv 0,iv 0],eRow r_api_Stitch 81 (.slice ap aC.length aq) aC] []) ⟨none,0,S.fix [1,0] [] (by decide) d d d⟩ ?_
  clear hl h
  intro s0 a w c0 hI h bR
  obtain ⟨aC,aG⟩:=s0
  unfold raddleref25_word_l1 at h
  dsimp only at h hI
  obtain ⟨ap,aq,S⟩:=hI
  refine sSeq (fun cX bT=>?_)
  obtain ⟨cC,h,cD⟩:=bS h
  refine sCut (fun a w=>∃ bU,bU=cC∧St [] E [] w0 140 a w [(6,.pointer (some ⟨a8,0,none⟩)),(7,iv aj.1),(9,.slice ap aC.length aq),(10,iv aG),(72,.bool bU)] [eBox a8 81 [.int .u8 1,.bool (a0 == 112),iv 0,iv 0],eRow r_api_Stitch 81 (.slice ap aC.length aq) aC] []) ?_ (fun a w hI=>?_)
  ·refine sRegion (sM S fun a S=>?_)
   refine sM S fun a S=>?_
   refine sBin _ S (wN d) d d d (bLt _ _ _ _ .i64 aG aj.1) d (lb d) fun a S=>sM S fun a S=>?_
   rcases iS h with ⟨ar,h⟩ | ⟨ar,h⟩
   rotate_left
   ·refine sSkN 2 3 true 69 S d d ar d fun a S=>sPickF (.bool false) S (wN d) d d ar d d (lb d) fun a S=>?_
    exact lT (⟨false,Option.some.inj h,S.fix [0,1] [] (by decide) d d d⟩)
   refine sMove (iv aG) S (wG 3 true 69 d d d ar) (.inl d) d d (lb d) fun a S=>sBin _ S (wG 3 true 69 d d d ar) d d d (bLt _ _ _ _ .i64 aG 300) d (lb d) fun a S=>sPickT (.bool (decide (aG < 300))) S (wN d) d d ar d d (lb d) fun a S=>?_
   exact lT (⟨decide (aG < 300),Option.some.inj h,S.fix [0,1] [] (by decide) d d d⟩)
  obtain ⟨bU,rfl,S⟩:=hI
  have h:=cD
  try dsimp only at h
  rcases iS h with ⟨aU,h⟩ | ⟨aU,h⟩
  rotate_left
  ·refine sCondF S d aU ?_
   obtain rfl:=tS h
   obtain rfl:=bR _ d
   have h:=cB
   try dsimp only at h
   exact wp_exit (xThen (xThen (xHit (leafT (⟨aC,Option.some.inj h,ap,aq,S.fix [1] [] (by decide) d d d⟩)))))
  refine sCondT S d aU (wp_skip (leafT (bT _ _ ?_)))
  refine sSeq (fun cY bV=>wp_block ?_)
  refine sRegion (sM S fun a S=>?_)
  refine sLoadN (p:=a8) (off:=0) (T:=81) (vs:=[.int .u8 1,.bool (a0 == 112),iv 0,iv 0]) 0 [.int .u8 1,.bool (a0 == 112),iv 0,iv 0] S (wN d) d d d d d d d (lb d) fun a S=>?_
  have S:=S.learn (fRep r_api_Stitch (.agg #[.int .u8 1,.bool (a0 == 112),iv 0,iv 0]) (api_Stitch.mk 1 (a0 == 112) 0 0)) d
  refine sLit (r:=r_api_Stitch) (T:=81) (xs:=[(api_Stitch.mk 1 (a0 == 112) 0 0)]) [(0,.agg #[.int .u8 1,.bool (a0 == 112),iv 0,iv 0])] 1 [.agg #[.int .u8 1,.bool (a0 == 112),iv 0,iv 0]] [.int .u8 1,.bool (a0 == 112),iv 0,iv 0] (.agg #[.int .u8 0,.bool false,iv 0,iv 0]) 24 S (wN d) d d Try.underlying47 d (by decide) (by decide) (by kernel_rfl) d (fun E1 w1 hE=>All.cons (r_api_Stitch.mono hE (S.mem.know (i:=0) (e:=fRep r_api_Stitch (.agg #[.int .u8 1,.bool (a0 == 112),iv 0,iv 0]) (api_Stitch.mk 1 (a0 == 112) 0 0)) d)) (All.nil _ _ _)) d d (lb d) fun a w bW bX S=>?_
  obtain ⟨cE,bY,h⟩:=bS h
  refine sApp (r:=r_api_Stitch) (T:=81) (xs:=aC) (ys:=[(api_Stitch.mk 1 (a0 == 112) 0 0)]) (v:=.slice ap aC.length aq) (u:=.slice bW [(api_Stitch.mk 1 (a0 == 112) 0 0)].length bX) 2 (.agg #[.int .u8 0,.bool false,iv 0,iv 0]) 24 S (wN d) d Try.underlying47 d d (by decide) d d d (src_R (T:=81) 0 S.mem d) bY d (lb d) fun a w bZ c1 S=>sN S fun a S=>?_
  refine leafL (leafB (leafT (bV _ _ ?_)))
  refine sRegion (sM S fun a S=>?_)
  refine sBin _ S (wN d) d d d (bAdd _ _ _ _ aG 1) d (lb d) fun a S=>sN S fun a S=>?_
  exact lT (⟨(cE,w64 (aG + 1)),(Option.some.inj h).symm,⟨bZ,c1,S.fix [2,0] [] (by decide) d d d⟩⟩)
 obtain ⟨rfl,S⟩:=hI
 have h:=cm
 try dsimp only at h
 refine sSeq (fun cZ c2=>sRegion (sM S fun a S=>?_))
 obtain ⟨cn,c3,h⟩:=bS h
 refine sIndexS (v:=p0) (j:=1) (k:=.i64) S (wN d) d Try.underlying9 d d c3 d (lb d) fun a S=>?_
 obtain ⟨a4,c4,h⟩:=bS h
 have S1:=S.mem
 refine sCq [.int .u8 cn] (.int .u8 a4) S callee106 (S1.quiet [] d) (fun E1 w1 S1=>c_raddleref25_kind E1 w1 cn a4 c4 S1) fun a w S=>?_
 refine sField (b:=a8) (off:=0) 0 0 S (wN d) d d d d d (lb d) fun a S=>sStore (p:=a8) (off:=0) (T:=81) (vs:=[.int .u8 1,.bool (a0 == 112),iv 0,iv 0]) (v:=.int .u8 a4) 0 [.int .u8 a4] S (wN d) d d d d d d d (by simp) d fun a w S=>lT (c2 _ _ (sSeq (fun d0 c5=>sSeq (fun d1 c6=>sRegion (sField (b:=a8) (off:=0) 0 0 S (wN d) d d d d d (lb d) fun a S=>sLoad1 0 (.int .u8 a4) S (wN d) d d d d d d (lb d) fun a S=>sBin _ S (wN d) d d d (bEq _ _ _ _ .u8 a4 8) d (lb d) fun a S=>lT (c6 _ _ ?_))))))
 rcases iS h with ⟨aV,h⟩ | ⟨aV,h⟩
 ·refine sCondT S d aV (sSeq (fun d3 c7=>sRegion (sLoadN (p:=a8) (off:=0) (T:=81) (vs:=[.int .u8 a4,.bool (a0 == 112),iv 0,iv 0]) 0 [.int .u8 a4,.bool (a0 == 112),iv 0,iv 0] S (wN d) d d d d d d d (lb d) fun a S=>?_)))
  have S:=S.learn (fRep r_api_Stitch (.agg #[.int .u8 a4,.bool (a0 == 112),iv 0,iv 0]) (api_Stitch.mk a4 (a0 == 112) 0 0)) d
  refine sLit (r:=r_api_Stitch) (T:=81) (xs:=[(api_Stitch.mk a4 (a0 == 112) 0 0)]) [(0,.agg #[.int .u8 a4,.bool (a0 == 112),iv 0,iv 0])] 1 [.agg #[.int .u8 a4,.bool (a0 == 112),iv 0,iv 0]] [.int .u8 a4,.bool (a0 == 112),iv 0,iv 0] (.agg #[.int .u8 0,.bool false,iv 0,iv 0]) 24 S (wN d) d d Try.underlying47 d (by decide) (by decide) (by kernel_rfl) d (fun E1 w1 hE=>All.cons (r_api_Stitch.mono hE (S.mem.know (i:=0) (e:=fRep r_api_Stitch (.agg #[.int .u8 a4,.bool (a0 == 112),iv 0,iv 0]) (api_Stitch.mk a4 (a0 == 112) 0 0)) d)) (All.nil _ _ _)) d d (lb d) fun a w aL aM S=>?_
  refine sM S fun a S=>?_
  refine sLenS (v:=p0) S (wN d) d Try.underlying9 d d (lb d) fun a S=>sBin _ S (wN d) d d d (bEq _ _ _ _ .i64 (p0.size:Int) 2) d (lb d) fun a S=>sN S fun a S=>?_
  refine sN S fun a S=>?_
  refine lT (c7 _ _ ?_)
  obtain rfl:=tS h
  have S:=S.shutR (r:=r_api_Stitch) (T:=81) (v:=.slice aL [(api_Stitch.mk a4 (a0 == 112) 0 0)].length aM) (xs:=[(api_Stitch.mk a4 (a0 == 112) 0 0)]) 0 d
  exact wp_ret (rThen (sRet (.tuple #[.slice aL [(api_Stitch.mk a4 (a0 == 112) 0 0)].length aM,.bool ((p0.size:Int) == 2)]) S (rsl2 d (rvT (t:=2) (v:=.slice aL [(api_Stitch.mk a4 (a0 == 112) 0 0)].length aM) S d) (rvT (t:=3) (v:=.bool ((p0.size:Int) == 2)) S d)) ⟨(.slice aL [(api_Stitch.mk a4 (a0 == 112) 0 0)].length aM),d,S.mem.sel [] [0] (by decide) d d⟩))
 refine sCondF S d aV (wp_skip (leafT (c5 _ _ ?_)))
 refine sSeq (fun d4 c8=>sRegion (sM S fun a S=>?_))
 obtain ⟨c9,ca,h⟩:=bS h
 refine sSliceS (v:=p0) (u:=c9) (vlo:=(some (.int .i64 2))) (vhi:=none) (lo':=2) (hi':=(p0.size:Int)) S (wN d) d Try.underlying9 d d d (.inl d) (.inr ⟨d,d⟩) ca d (lb d) fun a S=>?_
 obtain ⟨ac,cb,h⟩:=bS h
 refine sCall (X:=Value) (f:=94) (vs:=[.string c9,.int .u8 47]) (val:=c_raddleref25_Cut_val ac) (B':=fun _=>[]) (D':=c_raddleref25_Cut_D ac) [] [eBox a8 81 [.int .u8 a4,.bool (a0 == 112),iv 0,iv 0]] [] [0] [] S (wN d) d callee94 d (by decide) d d (fun E1 w1 S1=>c_raddleref25_Cut E1 w1 c9 47 ac cb S1) d (lb d) fun cc a w S=>?_
 obtain ⟨a6,a7,_,rfl,_⟩:=S.mem.know (i:=0) (e:=fRep (rL rS) (cc) ac) d
 refine sN S fun a S=>?_
 refine lT (c8 _ _ ?_)
 obtain ⟨cd,h,ce⟩:=bS h
 refine sCut (fun a w=>∃ aw,aw=cd∧St [] E [] w0 140 a w [(6,.pointer (some ⟨a8,0,none⟩)),(11,.slice a6 ac.length a7),(12,.bool aw)] [eBox a8 81 [.int .u8 a4,.bool (a0 == 112),iv 0,iv 0]] [fRep (rL rS) (.slice a6 ac.length a7) ac]) ?_ (fun a w hI=>?_)
 ·refine sRegion (sField (b:=a8) (off:=0) 0 0 S (wN d) d d d d d (lb d) fun a S=>sLoad1 0 (.int .u8 a4) S (wN d) d d d d d d (lb d) fun a S=>sBin _ S (wN d) d d d (bNe _ _ _ _ .u8 a4 0) d (lb d) fun a S=>sM S fun a S=>?_)
  rcases iS h with ⟨ae,h⟩ | ⟨ae,h⟩
  rotate_left
  ·refine sSkN 3 3 true 100 S d d ae d fun a S=>sPickF (.bool false) S (wN d) d d ae d d (lb d) fun a S=>sN S fun a S=>?_
   exact lT (⟨false,Option.some.inj h,S.fix [0] [0] (by decide) d d d⟩)
  refine sMove (.slice a6 ac.length a7) S (wG 3 true 100 d d d ae) (.inl d) d d (lb d) fun a S=>sLen S (wG 3 true 100 d d d ae) d Try.underlying142 d d (lb d) fun a S=>sBin _ S (wG 3 true 100 d d d ae) d d d (bEq _ _ _ _ .i64 (ac.length:Int) 1) d (lb d) fun a S=>sPickT (.bool ((ac.length:Int) == 1)) S (wN d) d d ae d d (lb d) fun a S=>sN S fun a S=>?_
  exact lT (⟨(ac.length:Int) == 1,Option.some.inj h,S.fix [0] [0] (by decide) d d d⟩)
 obtain ⟨aw,rfl,S⟩:=hI
 have h:=ce
 try dsimp only at h
 obtain ⟨cf,h,cg⟩:=bS h
 refine sCut (fun a w=>∃ aW,∃ a5,(aW,a5)=cf∧St [] E [] w0 140 a w [(6,.pointer (some ⟨a8,0,none⟩)),(11,.slice a6 ac.length a7),(12,.bool aW)] [eBox a8 81 [.int .u8 a4,.bool (a0 == 112),iv 0,iv a5]] [fRep (rL rS) (.slice a6 ac.length a7) ac]) ?_ (fun a w hI=>?_)
 ·obtain ⟨ci,h,cj⟩:=bS h
  refine sCut (fun a w=>∃ aX,aX=ci∧St [] E [] w0 140 a w [(6,.pointer (some ⟨a8,0,none⟩)),(11,.slice a6 ac.length a7),(12,.bool aw),(112,.bool aX)] [eBox a8 81 [.int .u8 a4,.bool (a0 == 112),iv 0,iv 0]] [fRep (rL rS) (.slice a6 ac.length a7) ac]) ?_ (fun a w hI=>?_)
  ·refine sRegion (sField (b:=a8) (off:=0) 0 0 S (wN d) d d d d d (lb d) fun a S=>sLoad1 0 (.int .u8 a4) S (wN d) d d d d d d (lb d) fun a S=>sBin _ S (wN d) d d d (bEq _ _ _ _ .u8 a4 6) d (lb d) fun a S=>sM S fun a S=>?_)
   rcases iS h with ⟨af,h⟩ | ⟨af,h⟩
   ·refine sSkN 3 3 false 108 S d d af d fun a S=>sPickT (.bool true) S (wN d) d d af d d (lb d) fun a S=>?_
    exact lT (⟨true,Option.some.inj h,S.fix [0] [0] (by decide) d d d⟩)
   refine sField (b:=a8) (off:=0) 0 0 S (wG 3 false 108 d d d af) d d d d d (lb d) fun a S=>sLoad1 0 (.int .u8 a4) S (wG 3 false 108 d d d af) d d d d d d (lb d) fun a S=>sBin _ S (wG 3 false 108 d d d af) d d d (bEq _ _ _ _ .u8 a4 7) d (lb d) fun a S=>sPickF (.bool (a4 == 7)) S (wN d) d d af d d (lb d) fun a S=>?_
   exact lT (⟨a4 == 7,Option.some.inj h,S.fix [0] [0] (by decide) d d d⟩)
  obtain ⟨aX,rfl,S⟩:=hI
  have h:=cj
  try dsimp only at h
  rcases iS h with ⟨ax,h⟩ | ⟨ax,h⟩
  rotate_left
  ·refine sCondF S d ax ?_
   exact wp_skip (leafT (⟨aw,0,Option.some.inj h,S.fix [0] [0] (by decide) d d d⟩))
  refine sCondT S d ax (sSeq (fun cF b1=>sRegion (sM S fun a S=>?_)))
  refine sLen S (wN d) d Try.underlying142 d d (lb d) fun a S=>sBin _ S (wN d) d d d (bEq _ _ _ _ .i64 (ac.length:Int) 2) d (lb d) fun a S=>sN S fun a S=>?_
  refine lT (b1 _ _ (sSeq (fun cG ba=>sRegion (sM S fun a S=>?_))))
  refine lT (ba _ _ ?_)
  rcases iS h with ⟨ay,h⟩ | ⟨ay,h⟩
  rotate_left
  ·refine sCondF S d ay ?_
   exact wp_skip (leafT (⟨(ac.length:Int) == 2,0,Option.some.inj h,S.fix [0] [0] (by decide) d d d⟩))
  refine sCondT S d ay (sRegion (sM S fun a S=>?_))
  obtain ⟨au,bb,h⟩:=bS h
  obtain ⟨bc,bf,S⟩:=pIdx (P:=Try.prog) (r:=rS) (v:=.slice a6 ac.length a7) (xs:=ac) (j:=1) 142 9 0 S Try.underlying142 d d bb
  refine sIdxV S (wN d) d d d bf d (lb d) fun a S=>?_
  obtain ⟨bg,S⟩:=pLoad (r:=rS) (q:=bc) (x:=au) 0 S d
  obtain rfl:bg=.string au:=S.mem.know (i:=1) (e:=fRep rS (bg) au) d
  refine sLoadV1 (vq:=bc) 0 (.string au) S (wN d) d d d d d (lb d) fun a S=>?_
  obtain ⟨a9,bh,h⟩:=bS h
  have S1:=S.mem
  refine sCq [.string au] (.tuple #[iv a9.1,.bool a9.2]) S callee97 (S1.quiet [] d) (fun E1 w1 S1=>c_raddleref25_Number E1 w1 au a9 bh S1) fun a w S=>?_
  refine sM S fun a S=>?_
  refine sExtract (vs:=[iv a9.1,.bool a9.2]) (iv a9.1) S (wN d) d d d d (lb d) fun a S=>sExtract (vs:=[iv a9.1,.bool a9.2]) (.bool a9.2) S (wN d) d d d d (lb d) fun a S=>sField (b:=a8) (off:=0) 3 3 S (wN d) d d d d d (lb d) fun a S=>sStore (p:=a8) (off:=3) (T:=81) (vs:=[.int .u8 a4,.bool (a0 == 112),iv 0,iv 0]) (v:=iv a9.1) 0 [iv a9.1] S (wN d) d d d d d d d (by simp) d fun a w S=>sN S fun a S=>?_
  exact lT (⟨a9.2,a9.1,Option.some.inj h,S.fix [0] [3] (by decide) d d d⟩)
 obtain ⟨aW,a5,rfl,S⟩:=hI
 have h:=cg
 try dsimp only at h
 refine sSeq (fun cH bi=>sRegion (sM S fun a S=>?_))
 obtain ⟨av,bj,h⟩:=bS h
 obtain ⟨bk,bl,S⟩:=pIdx (P:=Try.prog) (r:=rS) (v:=.slice a6 ac.length a7) (xs:=ac) (j:=0) 142 9 0 S Try.underlying142 d d bj
 refine sIdxV S (wN d) d d d bl d (lb d) fun a S=>?_
 obtain ⟨bm,S⟩:=pLoad (r:=rS) (q:=bk) (x:=av) 0 S d
 obtain rfl:bm=.string av:=S.mem.know (i:=1) (e:=fRep rS (bm) av) d
 refine sLoadV1 (vq:=bk) 0 (.string av) S (wN d) d d d d d (lb d) fun a S=>?_
 obtain ⟨a2,bn,h⟩:=bS h
 have S1:=S.mem
 refine sCq [.string av] (.tuple #[iv a2.1,.bool a2.2]) S callee97 (S1.quiet [] d) (fun E1 w1 S1=>c_raddleref25_Number E1 w1 av a2 bn S1) fun a w S=>?_
 refine sM S fun a S=>?_
 refine sExtract (vs:=[iv a2.1,.bool a2.2]) (iv a2.1) S (wN d) d d d d (lb d) fun a S=>sExtract (vs:=[iv a2.1,.bool a2.2]) (.bool a2.2) S (wN d) d d d d (lb d) fun a S=>sN S fun a S=>?_
 refine sN S fun a S=>?_
 refine lT (bi _ _ (sSeq (fun cI bo=>sRegion (sM S fun a S=>?_))))
 refine sField (b:=a8) (off:=0) 2 2 S (wN d) d d d d d (lb d) fun a S=>sStore (p:=a8) (off:=2) (T:=81) (vs:=[.int .u8 a4,.bool (a0 == 112),iv 0,iv a5]) (v:=iv a2.1) 0 [iv a2.1] S (wN d) d d d d d d d (by simp) d fun a w S=>lT (bo _ _ ?_)
 obtain ⟨ck,h,cl⟩:=bS h
 refine sCut (fun a w=>∃ az,az=ck∧∃ ag,∃ ah,St [] E [] w0 140 a w [(2,.slice ag [(api_Stitch.mk a4 (a0 == 112) a2.1 a5)].length ah),(3,.bool az)] [eRow r_api_Stitch 81 (.slice ag [(api_Stitch.mk a4 (a0 == 112) a2.1 a5)].length ah) [(api_Stitch.mk a4 (a0 == 112) a2.1 a5)]] []) ?_ (fun a w hI=>?_)
 rotate_left
 ·obtain ⟨az,rfl,ag,ah,S⟩:=hI
  have h:=cl
  try dsimp only at h
  obtain rfl:=tS h
  have S:=S.shutR (r:=r_api_Stitch) (T:=81) (v:=.slice ag [(api_Stitch.mk a4 (a0 == 112) a2.1 a5)].length ah) (xs:=[(api_Stitch.mk a4 (a0 == 112) a2.1 a5)]) 0 d
  exact wp_ret (sRet (.tuple #[.slice ag [(api_Stitch.mk a4 (a0 == 112) a2.1 a5)].length ah,.bool az]) S (rsl2 d (rvT (t:=2) (v:=.slice ag [(api_Stitch.mk a4 (a0 == 112) a2.1 a5)].length ah) S d) (rvT (t:=3) (v:=.bool az) S d)) ⟨(.slice ag [(api_Stitch.mk a4 (a0 == 112) a2.1 a5)].length ah),d,S.mem.sel [] [0] (by decide) d d⟩)
 refine sRegion (sLoadN (p:=a8) (off:=0) (T:=81) (vs:=[.int .u8 a4,.bool (a0 == 112),iv a2.1,iv a5]) 0 [.int .u8 a4,.bool (a0 == 112),iv a2.1,iv a5] S (wN d) d d d d d d d (lb d) fun a S=>?_)
 have S:=S.learn (fRep r_api_Stitch (.agg #[.int .u8 a4,.bool (a0 == 112),iv a2.1,iv a5]) (api_Stitch.mk a4 (a0 == 112) a2.1 a5)) d
 refine sLit (r:=r_api_Stitch) (T:=81) (xs:=[(api_Stitch.mk a4 (a0 == 112) a2.1 a5)]) [(0,.agg #[.int .u8 a4,.bool (a0 == 112),iv a2.1,iv a5])] 1 [.agg #[.int .u8 a4,.bool (a0 == 112),iv a2.1,iv a5]] [.int .u8 a4,.bool (a0 == 112),iv a2.1,iv a5] (.agg #[.int .u8 0,.bool false,iv 0,iv 0]) 24 S (wN d) d d Try.underlying47 d (by decide) (by decide) (by kernel_rfl) d (fun E1 w1 hE=>All.cons (r_api_Stitch.mono hE (S.mem.know (i:=0) (e:=fRep r_api_Stitch (.agg #[.int .u8 a4,.bool (a0 == 112),iv a2.1,iv a5]) (api_Stitch.mk a4 (a0 == 112) a2.1 a5)) d)) (All.nil _ _ _)) d d (lb d) fun a w aO aP S=>?_
 refine sM S fun a S=>?_
 refine sM S fun a S=>?_
 rcases iS h with ⟨ai,h⟩ | ⟨ai,h⟩
 rotate_left
 ·refine sSk S d d d ai d d fun a S=>sPickF (.bool false) S (wN d) d d ai d d (lb d) fun a S=>sN S fun a S=>?_
  refine sN S fun a S=>?_
  exact lT (⟨false,Option.some.inj h,aO,aP,S.fix [0] [] (by decide) d d d⟩)
 refine sMove (.bool a2.2) S (wG 3 true 137 d d d ai) (.inl d) d d (lb d) fun a S=>sPickT (.bool a2.2) S (wN d) d d ai d d (lb d) fun a S=>sN S fun a S=>?_
 refine sN S fun a S=>?_
 exact lT (⟨a2.2,Option.some.inj h,aO,aP,S.fix [0] [] (by decide) d d d⟩)
def anc_raddleref25_Written_0:List (List Nat):=[[],[],[0,1],[0,1,2],[0,1,2,3],[0,1,2,3,4],[0,1,2,3,4,5],[0,1,2,3,4,5,6],[0,1,2,3,4,5,6,7],[0,1,2,3,4,5,6],[0,1,2,3,4,5,6,9],[0,1,2,3,4,5,6,7,8,9,10],[0,1,2,3,4,5,6,7,8,9,10,11],[0,1,2,3,4,5,6,7,8,9,10,11,12],[0,1,2,3,4,5,6,7,8,9,10,11,12,13],[0,1,2,3,4,5,6,7,8,9,10,11,12,13],[0,1,2,3,4,5,6,7,8,9,10,11,12,13,15],[0,1,2,3,4,5,6,7,8,9,10,11,12,13,14,15,16],[0,1,2,3,4,5,6,7,8,9,10,11,12,13,14,15,16,17],[0,1,2,3,4,5,6,7,8,9,10,11,12,13],[0,1,2,3,4,5,6,7,8,9,10,11,12,13],[0,1,2,3,4,5,6,7,8,9,10,11,12,13,19,20],[0,1,2,3,4,5,6,7,8,9,10,11,12,13,19,20,21],[0,1,2,3,4,5,6,7,8,9,10,11,12,13,14,15,16,17,18,19,20,21,22],[0,1,2,3,4,5,6,7,8,9,10,11,12,13,14,15,16,17,18,19,20,21,22,23]]
noncomputable def raddleref25_Written_l1 (p0:(List api_Stitch)):(Int × Int)→Option ((Int × Int) ⊕ (Int × Int)):=fun s0=>match s0 with
 | (a0,a5)=>
  Option.bind (α:=Bool) (
   (idxO p0 a0).bind fun a2=>
   if a2.Kind == 1 then
    if decide ((w64 (a0 + 1)) < (p0.length:Int)) then
     (idxO p0 (w64 (a0 + 1))).bind fun a4=>
     some ((a4.Kind == a2.Kind) && ((a4.Purl == a2.Purl) && ((a4.A == a2.A) && ((a4.B == a2.B) && true))))
    else
     some false
   else
    some false) fun a6=>
  if a6 then
   some (.inl (w64 (a0 + 1),w64 (a5 + 1)))
  else
   some (.inr (a0,a5))
noncomputable def raddleref25_Written_l2 (p0:(List api_Stitch)):(ByteArray × Int)→Option ((ByteArray × Int) ⊕ ByteArray):=fun s0=>match s0 with
 | (s9,a0)=>
  if decide (a0 < (p0.length:Int)) then
   Option.bind (α:=(ByteArray × Int)) (
    Option.bind (α:=ByteArray) (
     if decide (0 < a0) then
      (addS s9 (⟨#[32]⟩:ByteArray)).bind fun a6=>
      some a6
     else
      some s9) fun a7=>
    (idxO p0 a0).bind fun a8=>
    (F_raddleref25_one a8).bind fun a9=>
    (addS a7 a9).bind fun a2=>
    Option.bind (α:=(Int × Int)) (
     (whileO (raddleref25_Written_l1 p0) (a0,1)).bind fun (aa,ab)=>
      some (aa,ab)) fun (a4,a5)=>
    if decide (1 < a5) then
     (F_raddleref25_Decimal a5).bind fun ac=>
     (addS a2 ac).bind fun ae=>
     some (ae,a4)
    else
     some (a2,a4)) fun (af,ag)=>
   some (.inl (af,w64 (ag + 1)))
  else
   some (.inr s9)
noncomputable def F_raddleref25_Written (p0:(List api_Stitch)):Option ByteArray:=
 Option.bind (α:=ByteArray) (
  (whileO (raddleref25_Written_l2 p0) ((⟨#[]⟩:ByteArray),0)).bind fun a0=>
   some a0) fun o5=>
 some o5
theorem c_raddleref25_Written (E:Nat→Prop) (w0:World) (p0:(List api_Stitch)) (v0:Value) (r:ByteArray) (h:F_raddleref25_Written p0=some r) (S:St0 E [] w0 w0 [] [fRep (rL r_api_Stitch) (v0) p0]) :
 Calls Try.prog 96 #[v0] w0 (Ret (X:=Unit) E [] w0 (fun _=>.string r) (fun _=>[]) (fun _=>[])):=by
 unfold F_raddleref25_Written at h
 obtain ⟨a7,a8,_,rfl,_⟩:=S.know (i:=0) (e:=fRep (rL r_api_Stitch) (v0) p0) d
 refine sEnter (args:=[.slice a7 p0.length a8]) 59 Try.func96 d d (by simp) S (fun a S=>?_)
 refine sSeq (fun K3 bq=>sRegion (sN S fun a S=>?_))
 refine lT (bq _ _ (sSeq (fun K4 br=>sRegion (sN S fun a S=>?_))))
 refine lT (br _ _ ?_)
 obtain ⟨t6,h,g7⟩:=bS h
 refine sCut (fun a w=>∃ o5,o5=t6∧St [] E [] w0 59 a w [(3,.string o5)] [] []) ?_ (fun a w hI=>?_)
 rotate_left
 ·obtain ⟨o5,rfl,S⟩:=hI
  have h:=g7
  try dsimp only at h
  refine sSeq (fun bt ak=>sRegion (sM S fun a S=>?_))
  refine sN S fun a S=>?_
  refine lT (ak _ _ ?_)
  obtain rfl:=tS h
  exact wp_ret (sRet (.string o5) S (rsl1 d (rvT (t:=2) (v:=.string o5) S d)) ⟨(),d,S.mem.sel [] [] (by decide) d d⟩)
 refine sSeq (fun K8 bu=>sRegion (sN S fun a S=>?_))
 refine lT (bu _ _ (wp_block ?_))
 obtain ⟨bI,hl,bv⟩:=bS h
 refine sLoop hl (fun s0 a w=>match s0 with | (s9,ai)=>St [] E [] w0 59 a w [(0,.slice a7 p0.length a8),(3,.string s9),(4,iv ai)] [] [fRep (rL r_api_Stitch) (.slice a7 p0.length a8) p0]) (S.fix [] [0] (by decide) d d d) ?_
 clear hl h
 intro s0 a w c0 hI h av
 obtain ⟨s9,ai⟩:=s0
 unfold raddleref25_Written_l2 at h
 dsimp only at h hI
 have S:=hI
 refine sSeq (fun bJ aw=>sSeq (fun bK ax=>sRegion (sM S fun a S=>?_)))
 refine sM S fun a S=>?_
 refine sLen S (wN d) d Try.underlying47 d d (lb d) fun a S=>sBin _ S (wN d) d d d (bLt _ _ _ _ .i64 ai (p0.length:Int)) d (lb d) fun a S=>lT (ax _ _ ?_)
 rcases iS h with ⟨ae,h⟩ | ⟨ae,h⟩
 rotate_left
 ·refine sCondF S d ae ?_
  obtain rfl:=tS h
  obtain rfl:=av _ d
  have h:=bv
  try dsimp only at h
  exact wp_exit (xThen (xThen (xHit (leafT (⟨s9,Option.some.inj h,S.fix [] [] (by decide) d d d⟩)))))
 refine sCondT S d ae (wp_skip (leafT (aw _ _ ?_)))
 obtain ⟨bw,h,bx⟩:=bS h
 refine sCut (fun a w=>∃ ap,∃ al,(ap,al)=bw∧St [] E [] w0 59 a w [(0,.slice a7 p0.length a8),(3,.string ap),(4,iv al)] [] [fRep (rL r_api_Stitch) (.slice a7 p0.length a8) p0]) ?_ (fun a w hI=>?_)
 rotate_left
 ·obtain ⟨ap,al,rfl,S⟩:=hI
  have h:=bx
  try dsimp only at h
  refine sRegion (sM S fun a S=>?_)
  refine sBin _ S (wN d) d d d (bAdd _ _ _ _ al 1) d (lb d) fun a S=>sN S fun a S=>?_
  exact lT (⟨(ap,w64 (al + 1)),(Option.some.inj h).symm,(S.fix [] [0] (by decide) d d d)⟩)
 refine wp_block ?_
 obtain ⟨bz,h,bA⟩:=bS h
 refine sCut (fun a w=>∃ aq,aq=bz∧St [] E [] w0 59 a w [(0,.slice a7 p0.length a8),(3,.string aq),(4,iv ai)] [] [fRep (rL r_api_Stitch) (.slice a7 p0.length a8) p0]) ?_ (fun a w hI=>?_)
 ·refine sSeq (fun bL ay=>sRegion (sM S fun a S=>?_))
  refine sBin _ S (wN d) d d d (bGt _ _ _ _ .i64 ai 0) d (lb d) fun a S=>lT (ay _ _ ?_)
  rcases iS h with ⟨af,h⟩ | ⟨af,h⟩
  rotate_left
  ·refine sCondF S d af ?_
   exact wp_skip (leafT (⟨s9,Option.some.inj h,S.fix [] [0] (by decide) d d d⟩))
  refine sCondT S d af (sRegion (sM S fun a S=>?_))
  obtain ⟨bB,az,h⟩:=bS h
  refine sBin _ S (wN d) d d d (bAddS _ _ _ _ (x:=s9) (y:=(⟨#[32]⟩:ByteArray)) az) d (lb d) fun a S=>sN S fun a S=>?_
  exact lT (⟨bB,Option.some.inj h,S.fix [] [0] (by decide) d d d⟩)
 obtain ⟨aq,rfl,S⟩:=hI
 have h:=bA
 try dsimp only at h
 refine sSeq (fun bM aA=>sRegion (sM S fun a S=>?_))
 refine sM S fun a S=>?_
 refine sM S fun a S=>?_
 obtain ⟨a9,aC,h⟩:=bS h
 obtain ⟨bj,aG,S⟩:=pIdx (P:=Try.prog) (r:=r_api_Stitch) (v:=.slice a7 p0.length a8) (xs:=p0) (j:=ai) 47 81 0 S Try.underlying47 d d aC
 refine sIdxV S (wN d) d d d aG d (lb d) fun a S=>?_
 obtain ⟨bk,S⟩:=pLoad (r:=r_api_Stitch) (q:=bj) (x:=a9) 0 S d
 obtain rfl:bk=.agg #[.int .u8 a9.Kind,.bool a9.Purl,iv a9.A,iv a9.B]:=S.mem.know (i:=1) (e:=fRep r_api_Stitch (bk) a9) d
 refine sLoadVN (vq:=bj) 0 [.int .u8 a9.Kind,.bool a9.Purl,iv a9.A,iv a9.B] S (wN d) d d d d d d (lb d) fun a S=>?_
 obtain ⟨aH,aI,h⟩:=bS h
 have S1:=S.mem
 refine sCq [.agg #[.int .u8 a9.Kind,.bool a9.Purl,iv a9.A,iv a9.B]] (.string aH) S callee107 (S1.quiet [1] d) (fun E1 w1 S1=>c_raddleref25_one E1 w1 a9 (.agg #[.int .u8 a9.Kind,.bool a9.Purl,iv a9.A,iv a9.B]) aH aI S1) fun a w S=>?_
 obtain ⟨ac,aJ,h⟩:=bS h
 refine sBin _ S (wN d) d d d (bAddS _ _ _ _ (x:=aq) (y:=aH) aJ) d (lb d) fun a S=>sN S fun a S=>?_
 refine lT (aA _ _ (sSeq (fun bN aK=>sRegion (sN S fun a S=>?_))))
 refine lT (aK _ _ ?_)
 obtain ⟨bC,h,bD⟩:=bS h
 refine sCut (fun a w=>∃ am,∃ aj,(am,aj)=bC∧St [] E [] w0 59 a w [(0,.slice a7 p0.length a8),(3,.string ac),(4,iv am),(5,iv aj)] [] [fRep (rL r_api_Stitch) (.slice a7 p0.length a8) p0]) ?_ (fun a w hI=>?_)
 rotate_left
 ·obtain ⟨am,aj,rfl,S⟩:=hI
  have h:=bD
  try dsimp only at h
  refine sSeq (fun bO aL=>sRegion (sM S fun a S=>?_))
  refine sBin _ S (wN d) d d d (bGt _ _ _ _ .i64 aj 1) d (lb d) fun a S=>lT (aL _ _ ?_)
  rcases iS h with ⟨ag,h⟩ | ⟨ag,h⟩
  rotate_left
  ·refine sCondF S d ag ?_
   exact wp_skip (leafB (leafT (⟨ac,am,Option.some.inj h,S.fix [] [0] (by decide) d d d⟩)))
  refine sCondT S d ag (sRegion (sM S fun a S=>?_))
  refine sM S fun a S=>?_
  obtain ⟨aM,aO,h⟩:=bS h
  have S1:=S.mem
  refine sCq [iv aj] (.string aM) S callee108 (S1.quiet [] d) (fun E1 w1 S1=>c_raddleref25_Decimal E1 w1 aj aM aO S1) fun a w S=>?_
  obtain ⟨bE,ao,h⟩:=bS h
  refine sBin _ S (wN d) d d d (bAddS _ _ _ _ (x:=ac) (y:=aM) ao) d (lb d) fun a S=>sN S fun a S=>?_
  exact leafL (leafB (leafT (⟨bE,am,Option.some.inj h,S.fix [] [0] (by decide) d d d⟩)))
 refine wp_block ?_
 obtain ⟨bP,hl,bF⟩:=bS h
 refine sLoop hl (fun s0 a w=>match s0 with | (a2,aa)=>St [] E [] w0 59 a w [(0,.slice a7 p0.length a8),(3,.string ac),(4,iv a2),(5,iv aa)] [] [fRep (rL r_api_Stitch) (.slice a7 p0.length a8) p0]) (S.fix [] [3] (by decide) d d d) ?_
 clear hl h
 intro s0 a w c0 hI h aP
 obtain ⟨a2,aa⟩:=s0
 unfold raddleref25_Written_l1 at h
 dsimp only at h hI
 have S:=hI
 refine sSeq (fun bQ aQ=>?_)
 obtain ⟨bG,h,bH⟩:=bS h
 refine sCut (fun a w=>∃ aR,aR=bG∧St [] E [] w0 59 a w [(0,.slice a7 p0.length a8),(3,.string ac),(4,iv a2),(5,iv aa),(47,.bool aR)] [] [fRep (rL r_api_Stitch) (.slice a7 p0.length a8) p0]) ?_ (fun a w hI=>?_)
 rotate_left
 ·obtain ⟨aR,rfl,S⟩:=hI
  have h:=bH
  try dsimp only at h
  rcases iS h with ⟨ah,h⟩ | ⟨ah,h⟩
  rotate_left
  ·refine sCondF S d ah ?_
   obtain rfl:=tS h
   obtain rfl:=aP _ d
   have h:=bF
   try dsimp only at h
   exact wp_exit (xThen (xThen (xHit (leafT (⟨a2,aa,Option.some.inj h,S.fix [] [0] (by decide) d d d⟩)))))
  refine sCondT S d ah (wp_skip (leafT (aQ _ _ ?_)))
  refine wp_block ?_
  refine sSeq (fun bR aS=>sRegion (sM S fun a S=>?_))
  refine sBin _ S (wN d) d d d (bAdd _ _ _ _ a2 1) d (lb d) fun a S=>sN S fun a S=>?_
  refine lT (aS _ _ (sRegion (sM S fun a S=>?_)))
  refine sBin _ S (wN d) d d d (bAdd _ _ _ _ aa 1) d (lb d) fun a S=>sN S fun a S=>?_
  exact leafL (leafB (leafT (⟨(w64 (a2 + 1),w64 (aa + 1)),(Option.some.inj h).symm,(S.fix [] [0] (by decide) d d d)⟩)))
 obtain ⟨a0,ab,h⟩:=bS h
 rcases iS h with ⟨a6,h⟩ | ⟨a6,h⟩
 rotate_left
 ·obtain ⟨aT,aU,S⟩:=pIdx (P:=Try.prog) (r:=r_api_Stitch) (v:=.slice a7 p0.length a8) (xs:=p0) (j:=a2) 47 81 0 S Try.underlying47 d d ab
  obtain ⟨aV,aW,S⟩:=pFld (P:=Try.prog) (r:=r_api_Stitch) (s2:=(rI .u8)) (g:=(·.Kind)) (q:=aT) (z:=a0) 81 0 0 0 S d d comp_api_Stitch_Kind
  obtain ⟨bl,S⟩:=pLoad (r:=(rI .u8)) (q:=aV) (x:=a0.Kind) 0 S d
  obtain rfl:bl=.int .u8 a0.Kind:=S.mem.know (i:=1) (e:=fRep (rI .u8) (bl) a0.Kind) d
  refine sDraw (nf:=[]) (W:=[(0,23,.slice a7 p0.length a8),(1,24,iv a2),(2,25,aT),(3,26,aV),(4,27,.int .u8 a0.Kind),(5,28,.bool (a0.Kind == 1)),(6,29,.bool (a0.Kind == 1)),(7,30,undef),(8,31,undef),(9,32,undef),(10,33,undef),(11,34,undef),(12,35,.bool false),(13,36,.bool false),(14,37,undef),(15,38,undef),(16,39,undef),(17,40,undef),(18,41,undef),(19,42,undef),(20,43,undef),(21,44,undef),(22,45,undef),(23,46,undef),(24,47,.bool false)]) d S ?_
  refine node_by (A:=anc_raddleref25_Written_0) 25 (by kernel_rfl) (by kernel_rfl) (by kernel_rfl) (by kernel_rfl) (by kernel_rfl) [0,1,2,3,4,5,6,7,8,9,10,11,12,13,14,15,16,17,18,19,20,21,22,23,24] (by kernel_rfl) (by decide) (by decide) (fF ?_ (fF ?_ (fF ?_ (fF ?_ (fF ?_ (fF ?_ (fF ?_ (fF ?_ (fF ?_ (fF ?_ (fF ?_ (fF ?_ (fF ?_ (fF ?_ (fF ?_ (fF ?_ (fF ?_ (fF ?_ (fF ?_ (fF ?_ (fF ?_ (fF ?_ (fF ?_ (fF ?_ (fF ?_ (trivial)))))))))))))))))))))))))) [(0,.slice a7 p0.length a8),(3,.string ac),(4,iv a2),(5,iv aa),(30,undef),(31,undef),(32,undef),(33,undef),(34,undef),(37,undef),(38,undef),(39,undef),(40,undef),(41,undef),(42,undef),(43,undef),(44,undef),(45,undef),(46,undef),(47,.bool false)] (fin_of [none,none,none,none,some 7,some 8,some 9,some 10,some 11,some 14,some 15,some 16,some 17,some 18,some 19,some 20,some 21,some 22,some 23,some 24] d (by kernel_rfl) (by kernel_rfl)) (fun _ a w S=>?_)
  ·exact fM 0 none d d d d (.inl d) d d d
  ·exact fM 1 none d d d d (.inl d) d d d
  ·refine fJ [(23,_),(24,_)] 2 [some 0,some 1] fun G a w S=>?_
   exact sIdxV S (wN d) d d d aU d (lb d) fun a S=>leafL ⟨d,S⟩
  ·refine fJ [(25,_)] 3 [some 2] fun G a w S=>?_
   exact sFldV (q:=aT) S (wN d) d d aW d (lb d) fun a S=>leafL ⟨d,S⟩
  ·refine fJ [(26,_)] 4 [some 3] fun G a w S=>?_
   exact sLoadV1 (vq:=aV) 0 (.int .u8 a0.Kind) S (wN d) d d d d d (lb d) fun a S=>leafL ⟨d,S⟩
  ·refine fJ [(27,_)] 5 [some 4] fun G a w S=>?_
   exact sBin _ S (wN d) d d d (bEq _ _ _ _ .u8 a0.Kind 1) d (lb d) fun a S=>leafL ⟨d,S⟩
  ·exact fM 6 (some 5) d d d d (.inl d) d d d
  ·refine fJ [(4,_),(29,_)] 7 [none,some 6] fun G a w S=>?_
   exact sSk S d d d a6 d d fun a S=>leafL ⟨d,S⟩
  ·refine fJ [(30,_),(29,_)] 8 [some 7,some 6] fun G a w S=>?_
   exact sSk S d d d a6 d d fun a S=>leafL ⟨d,S⟩
  ·refine fJ [(0,_),(29,_)] 9 [none,some 6] fun G a w S=>?_
   exact sSk S d d d a6 d d fun a S=>leafL ⟨d,S⟩
  ·refine fJ [(32,_),(29,_)] 10 [some 9,some 6] fun G a w S=>?_
   exact sSk S d d d a6 d d fun a S=>leafL ⟨d,S⟩
  ·refine fJ [(31,_),(33,_),(29,_)] 11 [some 8,some 10,some 6] fun G a w S=>?_
   exact sSk S d d d a6 d d fun a S=>leafL ⟨d,S⟩
  ·refine fJ [(29,_),(34,_)] 12 [some 6,some 11] fun G a w S=>?_
   exact sPickF (.bool false) S (wN d) d d a6 d d (lb d) fun a S=>leafL ⟨d,S⟩
  ·exact fM 13 (some 12) d d d d (.inl d) d d d
  ·refine fJ [(0,_),(36,_)] 14 [none,some 13] fun G a w S=>?_
   exact sSk S d d d d d d fun a S=>leafL ⟨d,S⟩
  ·refine fJ [(4,_),(36,_)] 15 [none,some 13] fun G a w S=>?_
   exact sSk S d d d d d d fun a S=>leafL ⟨d,S⟩
  ·refine fJ [(38,_),(36,_)] 16 [some 15,some 13] fun G a w S=>?_
   exact sSk S d d d d d d fun a S=>leafL ⟨d,S⟩
  ·refine fJ [(37,_),(39,_),(36,_)] 17 [some 14,some 16,some 13] fun G a w S=>?_
   exact sSk S d d d d d d fun a S=>leafL ⟨d,S⟩
  ·refine fJ [(40,_),(36,_)] 18 [some 17,some 13] fun G a w S=>?_
   exact sSk S d d d d d d fun a S=>leafL ⟨d,S⟩
  ·refine fJ [(0,_),(36,_)] 19 [none,some 13] fun G a w S=>?_
   exact sSk S d d d d d d fun a S=>leafL ⟨d,S⟩
  ·refine fJ [(4,_),(36,_)] 20 [none,some 13] fun G a w S=>?_
   exact sSk S d d d d d d fun a S=>leafL ⟨d,S⟩
  ·refine fJ [(42,_),(43,_),(36,_)] 21 [some 19,some 20,some 13] fun G a w S=>?_
   exact sSk S d d d d d d fun a S=>leafL ⟨d,S⟩
  ·refine fJ [(44,_),(36,_)] 22 [some 21,some 13] fun G a w S=>?_
   exact sSk S d d d d d d fun a S=>leafL ⟨d,S⟩
  ·refine fJ [(41,_),(45,_),(36,_)] 23 [some 18,some 22,some 13] fun G a w S=>?_
   exact sSk S d d d d d d fun a S=>leafL ⟨d,S⟩
  ·refine fJ [(36,_),(46,_)] 24 [some 13,some 23] fun G a w S=>?_
   exact sPickF (.bool false) S (wN d) d d d d d (lb d) fun a S=>leafL ⟨d,S⟩
  exact leafT (⟨false,Option.some.inj h,S.fix [] [4] (by decide) d d d⟩)
 rcases iS h with ⟨a5,h⟩ | ⟨a5,h⟩
 rotate_left
 ·obtain ⟨aX,aZ,S⟩:=pIdx (P:=Try.prog) (r:=r_api_Stitch) (v:=.slice a7 p0.length a8) (xs:=p0) (j:=a2) 47 81 0 S Try.underlying47 d d ab
  obtain ⟨b0,b1,S⟩:=pFld (P:=Try.prog) (r:=r_api_Stitch) (s2:=(rI .u8)) (g:=(·.Kind)) (q:=aX) (z:=a0) 81 0 0 0 S d d comp_api_Stitch_Kind
  obtain ⟨bm,S⟩:=pLoad (r:=(rI .u8)) (q:=b0) (x:=a0.Kind) 0 S d
  obtain rfl:bm=.int .u8 a0.Kind:=S.mem.know (i:=1) (e:=fRep (rI .u8) (bm) a0.Kind) d
  refine sDraw (nf:=[]) (W:=[(0,23,.slice a7 p0.length a8),(1,24,iv a2),(2,25,aX),(3,26,b0),(4,27,.int .u8 a0.Kind),(5,28,.bool (a0.Kind == 1)),(6,29,.bool (a0.Kind == 1)),(7,30,iv a2),(8,31,iv (w64 (a2 + 1))),(9,32,.slice a7 p0.length a8),(10,33,iv (p0.length:Int)),(11,34,.bool (decide ((w64 (a2 + 1)) < (p0.length:Int)))),(12,35,.bool (decide ((w64 (a2 + 1)) < (p0.length:Int)))),(13,36,.bool (decide ((w64 (a2 + 1)) < (p0.length:Int)))),(14,37,undef),(15,38,undef),(16,39,undef),(17,40,undef),(18,41,undef),(19,42,undef),(20,43,undef),(21,44,undef),(22,45,undef),(23,46,undef),(24,47,.bool false)]) d S ?_
  refine node_by (A:=anc_raddleref25_Written_0) 25 (by kernel_rfl) (by kernel_rfl) (by kernel_rfl) (by kernel_rfl) (by kernel_rfl) [0,1,2,3,4,5,6,7,8,9,10,11,12,13,14,15,16,17,18,19,20,21,22,23,24] (by kernel_rfl) (by decide) (by decide) (fF ?_ (fF ?_ (fF ?_ (fF ?_ (fF ?_ (fF ?_ (fF ?_ (fF ?_ (fF ?_ (fF ?_ (fF ?_ (fF ?_ (fF ?_ (fF ?_ (fF ?_ (fF ?_ (fF ?_ (fF ?_ (fF ?_ (fF ?_ (fF ?_ (fF ?_ (fF ?_ (fF ?_ (fF ?_ (trivial)))))))))))))))))))))))))) [(0,.slice a7 p0.length a8),(3,.string ac),(4,iv a2),(5,iv aa),(30,iv a2),(31,iv (w64 (a2 + 1))),(32,.slice a7 p0.length a8),(33,iv (p0.length:Int)),(34,.bool (decide ((w64 (a2 + 1)) < (p0.length:Int)))),(37,undef),(38,undef),(39,undef),(40,undef),(41,undef),(42,undef),(43,undef),(44,undef),(45,undef),(46,undef),(47,.bool false)] (fin_of [none,none,none,none,some 7,some 8,some 9,some 10,some 11,some 14,some 15,some 16,some 17,some 18,some 19,some 20,some 21,some 22,some 23,some 24] d (by kernel_rfl) (by kernel_rfl)) (fun _ a w S=>?_)
  ·exact fM 0 none d d d d (.inl d) d d d
  ·exact fM 1 none d d d d (.inl d) d d d
  ·refine fJ [(23,_),(24,_)] 2 [some 0,some 1] fun G a w S=>?_
   exact sIdxV S (wN d) d d d aZ d (lb d) fun a S=>leafL ⟨d,S⟩
  ·refine fJ [(25,_)] 3 [some 2] fun G a w S=>?_
   exact sFldV (q:=aX) S (wN d) d d b1 d (lb d) fun a S=>leafL ⟨d,S⟩
  ·refine fJ [(26,_)] 4 [some 3] fun G a w S=>?_
   exact sLoadV1 (vq:=b0) 0 (.int .u8 a0.Kind) S (wN d) d d d d d (lb d) fun a S=>leafL ⟨d,S⟩
  ·refine fJ [(27,_)] 5 [some 4] fun G a w S=>?_
   exact sBin _ S (wN d) d d d (bEq _ _ _ _ .u8 a0.Kind 1) d (lb d) fun a S=>leafL ⟨d,S⟩
  ·exact fM 6 (some 5) d d d d (.inl d) d d d
  ·refine fJ [(4,_),(29,_)] 7 [none,some 6] fun G a w S=>?_
   exact sMove (iv a2) S (wG 6 true 29 d d d a6) (.inl d) d d (lb d) fun a S=>leafL ⟨d,S⟩
  ·refine fJ [(30,_),(29,_)] 8 [some 7,some 6] fun G a w S=>?_
   exact sBin _ S (wG 6 true 29 d d d a6) d d d (bAdd _ _ _ _ a2 1) d (lb d) fun a S=>leafL ⟨d,S⟩
  ·refine fJ [(0,_),(29,_)] 9 [none,some 6] fun G a w S=>?_
   exact sMove (.slice a7 p0.length a8) S (wG 6 true 29 d d d a6) (.inl d) d d (lb d) fun a S=>leafL ⟨d,S⟩
  ·refine fJ [(32,_),(29,_)] 10 [some 9,some 6] fun G a w S=>?_
   exact sLen S (wG 6 true 29 d d d a6) d Try.underlying47 d d (lb d) fun a S=>leafL ⟨d,S⟩
  ·refine fJ [(31,_),(33,_),(29,_)] 11 [some 8,some 10,some 6] fun G a w S=>?_
   exact sBin _ S (wG 6 true 29 d d d a6) d d d (bLt _ _ _ _ .i64 (w64 (a2 + 1)) (p0.length:Int)) d (lb d) fun a S=>leafL ⟨d,S⟩
  ·refine fJ [(29,_),(34,_)] 12 [some 6,some 11] fun G a w S=>?_
   exact sPickT (.bool (decide ((w64 (a2 + 1)) < (p0.length:Int)))) S (wN d) d d a6 d d (lb d) fun a S=>leafL ⟨d,S⟩
  ·exact fM 13 (some 12) d d d d (.inl d) d d d
  ·refine fJ [(0,_),(36,_)] 14 [none,some 13] fun G a w S=>?_
   exact sSk S d d d a5 d d fun a S=>leafL ⟨d,S⟩
  ·refine fJ [(4,_),(36,_)] 15 [none,some 13] fun G a w S=>?_
   exact sSk S d d d a5 d d fun a S=>leafL ⟨d,S⟩
  ·refine fJ [(38,_),(36,_)] 16 [some 15,some 13] fun G a w S=>?_
   exact sSk S d d d a5 d d fun a S=>leafL ⟨d,S⟩
  ·refine fJ [(37,_),(39,_),(36,_)] 17 [some 14,some 16,some 13] fun G a w S=>?_
   exact sSk S d d d a5 d d fun a S=>leafL ⟨d,S⟩
  ·refine fJ [(40,_),(36,_)] 18 [some 17,some 13] fun G a w S=>?_
   exact sSk S d d d a5 d d fun a S=>leafL ⟨d,S⟩
  ·refine fJ [(0,_),(36,_)] 19 [none,some 13] fun G a w S=>?_
   exact sSk S d d d a5 d d fun a S=>leafL ⟨d,S⟩
  ·refine fJ [(4,_),(36,_)] 20 [none,some 13] fun G a w S=>?_
   exact sSk S d d d a5 d d fun a S=>leafL ⟨d,S⟩
  ·refine fJ [(42,_),(43,_),(36,_)] 21 [some 19,some 20,some 13] fun G a w S=>?_
   exact sSk S d d d a5 d d fun a S=>leafL ⟨d,S⟩
  ·refine fJ [(44,_),(36,_)] 22 [some 21,some 13] fun G a w S=>?_
   exact sSk S d d d a5 d d fun a S=>leafL ⟨d,S⟩
  ·refine fJ [(41,_),(45,_),(36,_)] 23 [some 18,some 22,some 13] fun G a w S=>?_
   exact sSk S d d d a5 d d fun a S=>leafL ⟨d,S⟩
  ·refine fJ [(36,_),(46,_)] 24 [some 13,some 23] fun G a w S=>?_
   exact sPickF (.bool false) S (wN d) d d a5 d d (lb d) fun a S=>leafL ⟨d,S⟩
  exact leafT (⟨false,Option.some.inj h,S.fix [] [4] (by decide) d d d⟩)
 obtain ⟨a4,ba,h⟩:=bS h
 obtain ⟨bb,bc,S⟩:=pIdx (P:=Try.prog) (r:=r_api_Stitch) (v:=.slice a7 p0.length a8) (xs:=p0) (j:=a2) 47 81 0 S Try.underlying47 d d ab
 obtain ⟨bf,bg,S⟩:=pFld (P:=Try.prog) (r:=r_api_Stitch) (s2:=(rI .u8)) (g:=(·.Kind)) (q:=bb) (z:=a0) 81 0 0 0 S d d comp_api_Stitch_Kind
 obtain ⟨bn,S⟩:=pLoad (r:=(rI .u8)) (q:=bf) (x:=a0.Kind) 0 S d
 obtain rfl:bn=.int .u8 a0.Kind:=S.mem.know (i:=1) (e:=fRep (rI .u8) (bn) a0.Kind) d
 obtain ⟨ar,bh,S⟩:=pIdx (P:=Try.prog) (r:=r_api_Stitch) (v:=.slice a7 p0.length a8) (xs:=p0) (j:=w64 (a2 + 1)) 47 81 4 S Try.underlying47 d d ba
 obtain ⟨bo,S⟩:=pLoad (r:=r_api_Stitch) (q:=ar) (x:=a4) 0 S d
 obtain rfl:bo=.agg #[.int .u8 a4.Kind,.bool a4.Purl,iv a4.A,iv a4.B]:=S.mem.know (i:=1) (e:=fRep r_api_Stitch (bo) a4) d
 obtain ⟨au,bi,S⟩:=pIdx (P:=Try.prog) (r:=r_api_Stitch) (v:=.slice a7 p0.length a8) (xs:=p0) (j:=a2) 47 81 7 S Try.underlying47 d d ab
 obtain ⟨bp,S⟩:=pLoad (r:=r_api_Stitch) (q:=au) (x:=a0) 0 S d
 obtain rfl:bp=.agg #[.int .u8 a0.Kind,.bool a0.Purl,iv a0.A,iv a0.B]:=S.mem.know (i:=1) (e:=fRep r_api_Stitch (bp) a0) d
 refine sDraw (nf:=[]) (W:=[(0,23,.slice a7 p0.length a8),(1,24,iv a2),(2,25,bb),(3,26,bf),(4,27,.int .u8 a0.Kind),(5,28,.bool (a0.Kind == 1)),(6,29,.bool (a0.Kind == 1)),(7,30,iv a2),(8,31,iv (w64 (a2 + 1))),(9,32,.slice a7 p0.length a8),(10,33,iv (p0.length:Int)),(11,34,.bool (decide ((w64 (a2 + 1)) < (p0.length:Int)))),(12,35,.bool (decide ((w64 (a2 + 1)) < (p0.length:Int)))),(13,36,.bool (decide ((w64 (a2 + 1)) < (p0.length:Int)))),(14,37,.slice a7 p0.length a8),(15,38,iv a2),(16,39,iv (w64 (a2 + 1))),(17,40,ar),(18,41,.agg #[.int .u8 a4.Kind,.bool a4.Purl,iv a4.A,iv a4.B]),(19,42,.slice a7 p0.length a8),(20,43,iv a2),(21,44,au),(22,45,.agg #[.int .u8 a0.Kind,.bool a0.Purl,iv a0.A,iv a0.B]),(23,46,.bool ((a4.Kind == a0.Kind) && ((a4.Purl == a0.Purl) && ((a4.A == a0.A) && ((a4.B == a0.B) && true))))),(24,47,.bool ((a4.Kind == a0.Kind) && ((a4.Purl == a0.Purl) && ((a4.A == a0.A) && ((a4.B == a0.B) && true)))))]) d S ?_
 refine node_by (A:=anc_raddleref25_Written_0) 25 (by kernel_rfl) (by kernel_rfl) (by kernel_rfl) (by kernel_rfl) (by kernel_rfl) [0,1,2,3,4,5,6,7,8,9,10,11,12,13,14,15,16,17,18,19,20,21,22,23,24] (by kernel_rfl) (by decide) (by decide) (fF ?_ (fF ?_ (fF ?_ (fF ?_ (fF ?_ (fF ?_ (fF ?_ (fF ?_ (fF ?_ (fF ?_ (fF ?_ (fF ?_ (fF ?_ (fF ?_ (fF ?_ (fF ?_ (fF ?_ (fF ?_ (fF ?_ (fF ?_ (fF ?_ (fF ?_ (fF ?_ (fF ?_ (fF ?_ (trivial)))))))))))))))))))))))))) [(0,.slice a7 p0.length a8),(3,.string ac),(4,iv a2),(5,iv aa),(30,iv a2),(31,iv (w64 (a2 + 1))),(32,.slice a7 p0.length a8),(33,iv (p0.length:Int)),(34,.bool (decide ((w64 (a2 + 1)) < (p0.length:Int)))),(37,.slice a7 p0.length a8),(38,iv a2),(39,iv (w64 (a2 + 1))),(40,ar),(41,.agg #[.int .u8 a4.Kind,.bool a4.Purl,iv a4.A,iv a4.B]),(42,.slice a7 p0.length a8),(43,iv a2),(44,au),(45,.agg #[.int .u8 a0.Kind,.bool a0.Purl,iv a0.A,iv a0.B]),(46,.bool ((a4.Kind == a0.Kind) && ((a4.Purl == a0.Purl) && ((a4.A == a0.A) && ((a4.B == a0.B) && true))))),(47,.bool ((a4.Kind == a0.Kind) && ((a4.Purl == a0.Purl) && ((a4.A == a0.A) && ((a4.B == a0.B) && true)))))] (fin_of [none,none,none,none,some 7,some 8,some 9,some 10,some 11,some 14,some 15,some 16,some 17,some 18,some 19,some 20,some 21,some 22,some 23,some 24] d (by kernel_rfl) (by kernel_rfl)) (fun _ a w S=>?_)
 ·exact fM 0 none d d d d (.inl d) d d d
 ·exact fM 1 none d d d d (.inl d) d d d
 ·refine fJ [(23,_),(24,_)] 2 [some 0,some 1] fun G a w S=>?_
  exact sIdxV S (wN d) d d d bc d (lb d) fun a S=>leafL ⟨d,S⟩
 ·refine fJ [(25,_)] 3 [some 2] fun G a w S=>?_
  exact sFldV (q:=bb) S (wN d) d d bg d (lb d) fun a S=>leafL ⟨d,S⟩
 ·refine fJ [(26,_)] 4 [some 3] fun G a w S=>?_
  exact sLoadV1 (vq:=bf) 6 (.int .u8 a0.Kind) S (wN d) d d d d d (lb d) fun a S=>leafL ⟨d,S⟩
 ·refine fJ [(27,_)] 5 [some 4] fun G a w S=>?_
  exact sBin _ S (wN d) d d d (bEq _ _ _ _ .u8 a0.Kind 1) d (lb d) fun a S=>leafL ⟨d,S⟩
 ·exact fM 6 (some 5) d d d d (.inl d) d d d
 ·refine fJ [(4,_),(29,_)] 7 [none,some 6] fun G a w S=>?_
  exact sMove (iv a2) S (wG 6 true 29 d d d a6) (.inl d) d d (lb d) fun a S=>leafL ⟨d,S⟩
 ·refine fJ [(30,_),(29,_)] 8 [some 7,some 6] fun G a w S=>?_
  exact sBin _ S (wG 6 true 29 d d d a6) d d d (bAdd _ _ _ _ a2 1) d (lb d) fun a S=>leafL ⟨d,S⟩
 ·refine fJ [(0,_),(29,_)] 9 [none,some 6] fun G a w S=>?_
  exact sMove (.slice a7 p0.length a8) S (wG 6 true 29 d d d a6) (.inl d) d d (lb d) fun a S=>leafL ⟨d,S⟩
 ·refine fJ [(32,_),(29,_)] 10 [some 9,some 6] fun G a w S=>?_
  exact sLen S (wG 6 true 29 d d d a6) d Try.underlying47 d d (lb d) fun a S=>leafL ⟨d,S⟩
 ·refine fJ [(31,_),(33,_),(29,_)] 11 [some 8,some 10,some 6] fun G a w S=>?_
  exact sBin _ S (wG 6 true 29 d d d a6) d d d (bLt _ _ _ _ .i64 (w64 (a2 + 1)) (p0.length:Int)) d (lb d) fun a S=>leafL ⟨d,S⟩
 ·refine fJ [(29,_),(34,_)] 12 [some 6,some 11] fun G a w S=>?_
  exact sPickT (.bool (decide ((w64 (a2 + 1)) < (p0.length:Int)))) S (wN d) d d a6 d d (lb d) fun a S=>leafL ⟨d,S⟩
 ·exact fM 13 (some 12) d d d d (.inl d) d d d
 ·refine fJ [(0,_),(36,_)] 14 [none,some 13] fun G a w S=>?_
  exact sMove (.slice a7 p0.length a8) S (wG 13 true 36 d d d a5) (.inl d) d d (lb d) fun a S=>leafL ⟨d,S⟩
 ·refine fJ [(4,_),(36,_)] 15 [none,some 13] fun G a w S=>?_
  exact sMove (iv a2) S (wG 13 true 36 d d d a5) (.inl d) d d (lb d) fun a S=>leafL ⟨d,S⟩
 ·refine fJ [(38,_),(36,_)] 16 [some 15,some 13] fun G a w S=>?_
  exact sBin _ S (wG 13 true 36 d d d a5) d d d (bAdd _ _ _ _ a2 1) d (lb d) fun a S=>leafL ⟨d,S⟩
 ·refine fJ [(37,_),(39,_),(36,_)] 17 [some 14,some 16,some 13] fun G a w S=>?_
  exact sIdxV S (wG 13 true 36 d d d a5) d d d bh d (lb d) fun a S=>leafL ⟨d,S⟩
 ·refine fJ [(40,_),(36,_)] 18 [some 17,some 13] fun G a w S=>?_
  exact sLoadVN (vq:=ar) 3 [.int .u8 a4.Kind,.bool a4.Purl,iv a4.A,iv a4.B] S (wG 13 true 36 d d d a5) d d d d d d (lb d) fun a S=>leafL ⟨d,S⟩
 ·refine fJ [(0,_),(36,_)] 19 [none,some 13] fun G a w S=>?_
  exact sMove (.slice a7 p0.length a8) S (wG 13 true 36 d d d a5) (.inl d) d d (lb d) fun a S=>leafL ⟨d,S⟩
 ·refine fJ [(4,_),(36,_)] 20 [none,some 13] fun G a w S=>?_
  exact sMove (iv a2) S (wG 13 true 36 d d d a5) (.inl d) d d (lb d) fun a S=>leafL ⟨d,S⟩
 ·refine fJ [(42,_),(43,_),(36,_)] 21 [some 19,some 20,some 13] fun G a w S=>?_
  exact sIdxV S (wG 13 true 36 d d d a5) d d d bi d (lb d) fun a S=>leafL ⟨d,S⟩
 ·refine fJ [(44,_),(36,_)] 22 [some 21,some 13] fun G a w S=>?_
  exact sLoadVN (vq:=au) 0 [.int .u8 a0.Kind,.bool a0.Purl,iv a0.A,iv a0.B] S (wG 13 true 36 d d d a5) d d d d d d (lb d) fun a S=>leafL ⟨d,S⟩
 ·refine fJ [(41,_),(45,_),(36,_)] 23 [some 18,some 22,some 13] fun G a w S=>?_
  exact sBin _ S (wG 13 true 36 d d d a5) d d d (bEqV _ _ _ _ #[.int .u8 a4.Kind,.bool a4.Purl,iv a4.A,iv a4.B] #[.int .u8 a0.Kind,.bool a0.Purl,iv a0.A,iv a0.B] ((a4.Kind == a0.Kind) && ((a4.Purl == a0.Purl) && ((a4.A == a0.A) && ((a4.B == a0.B) && true)))) (by kernel_rfl) (eqlV_of (by kernel_rfl))) d (lb d) fun a S=>leafL ⟨d,S⟩
 ·refine fJ [(36,_),(46,_)] 24 [some 13,some 23] fun G a w S=>?_
  exact sPickT (.bool ((a4.Kind == a0.Kind) && ((a4.Purl == a0.Purl) && ((a4.A == a0.A) && ((a4.B == a0.B) && true))))) S (wN d) d d a5 d d (lb d) fun a S=>leafL ⟨d,S⟩
 exact leafT (⟨((a4.Kind == a0.Kind) && ((a4.Purl == a0.Purl) && ((a4.A == a0.A) && ((a4.B == a0.B) && true)))),Option.some.inj h,S.fix [] [10] (by decide) d d d⟩)
noncomputable def raddleref25_Parse_l1 (a2:(List ByteArray)):(List api_Stitch × Int)→Option ((List api_Stitch × Int) ⊕ (((List api_Stitch) × Int) ⊕ (List api_Stitch))):=fun s0=>match s0 with
 | (a4,a0)=>
  if decide (a0 < (a2.length:Int)) then
   (idxO a2 a0).bind fun a7=>
   (F_raddleref25_word a7).bind fun a5=>
   if !a5.2 then
    some (.inr (.inl (([]:(List api_Stitch)),12)))
   else
    (appO a4 a5.1).bind fun a6=>
    if decide (200 < (a6.length:Int)) then
     some (.inr (.inl (([]:(List api_Stitch)),12)))
    else
     some (.inl (a6,w64 (a0 + 1)))
  else
   some (.inr (.inr a4))
noncomputable def F_raddleref25_Parse (p0:ByteArray):Option ((List api_Stitch) × Int):=
 if decide (3000 < (p0.size:Int)) then
  some (([]:(List api_Stitch)),12)
 else
  if p0 == (⟨#[]⟩:ByteArray) then
   some (([]:(List api_Stitch)),0)
  else
   (F_raddleref25_Cut p0 32).bind fun a2=>
   Option.bind (α:=List api_Stitch ⊕ ((List api_Stitch) × Int)) (
    (whileO (raddleref25_Parse_l1 a2) (([]:List api_Stitch),0)).bind fun z0=>match z0 with
     | .inl z=>
      some (.inr z)
     | .inr a4=>
      some (.inl a4)) fun z0=>match z0 with
    | .inl a0=>
     Option.bind (α:=Bool) (
      (F_raddleref25_All a0).bind fun a5=>
      if a5 != 0 then
       some true
      else
       (F_raddleref25_Written a0).bind fun a6=>
       some (a6 != p0)) fun a7=>
     if a7 then
      some (([]:(List api_Stitch)),12)
     else
      some (a0,0)
    | .inr z=>
     some z
def c_raddleref25_Parse_val (r:((List api_Stitch) × Int)) (x:Value):Value:=.tuple #[x,.int .i64 r.2]
def c_raddleref25_Parse_D (r:((List api_Stitch) × Int)) (x:Value):List Fact:=[fRep (rL r_api_Stitch) x r.1]
theorem c_raddleref25_Parse (E:Nat→Prop) (w0:World) (p0:ByteArray) (r:((List api_Stitch) × Int)) (h:F_raddleref25_Parse p0=some r) (S:St0 E [] w0 w0 [] []) :
 Calls Try.prog 78 #[.string p0] w0 (Ret (X:=Value) E [] w0 (c_raddleref25_Parse_val r) (fun _=>[]) (c_raddleref25_Parse_D r)):=by
 unfold F_raddleref25_Parse at h
 refine sEnter (args:=[.string p0]) 48 Try.func78 d d (by simp) S (fun a S=>?_)
 refine sSeq (fun K1 bf=>sRegion (sN S fun a S=>?_))
 refine sN S fun a S=>?_
 refine lT (bf _ _ (sSeq (fun K2 bg=>sSeq (fun K3 bh=>sRegion (sM S fun a S=>?_)))))
 refine sLenS (v:=p0) S (wN d) d Try.underlying9 d d (lb d) fun a S=>sBin _ S (wN d) d d d (bGt _ _ _ _ .i64 (p0.size:Int) 3000) d (lb d) fun a S=>lT (bh _ _ ?_)
 rcases iS h with ⟨ap,h⟩ | ⟨ap,h⟩
 ·refine sCondT S d ap (sSeq (fun K5 bi=>sRegion (sN S fun a S=>?_)))
  refine sN S fun a S=>?_
  refine lT (bi _ _ ?_)
  obtain rfl:=tS h
  have S:=S.learn (fRep (rL r_api_Stitch) (.slice none 0 0) ([]:(List api_Stitch))) (rL_nil _ _ _)
  exact wp_ret (rThen (sRet (.tuple #[.slice none 0 0,iv 12]) S (rsl2 d (rvT (t:=2) (v:=.slice none 0 0) S d) (rvT (t:=3) (v:=iv 12) S d)) ⟨(.slice none 0 0),d,S.mem.sel [] [0] (by decide) d d⟩))
 refine sCondF S d ap (wp_skip (leafT (bg _ _ ?_)))
 refine sSeq (fun K6 bj=>sSeq (fun K7 bk=>sRegion (sM S fun a S=>?_)))
 refine sBin _ S (wN d) d d d (bEqS _ _ _ _ p0 (⟨#[]⟩:ByteArray)) d (lb d) fun a S=>lT (bk _ _ ?_)
 rcases iS h with ⟨aq,h⟩ | ⟨aq,h⟩
 ·refine sCondT S d aq (sSeq (fun K9 bl=>sRegion (sN S fun a S=>?_)))
  refine sN S fun a S=>?_
  refine lT (bl _ _ ?_)
  obtain rfl:=tS h
  have S:=S.learn (fRep (rL r_api_Stitch) (.slice none 0 0) ([]:(List api_Stitch))) (rL_nil _ _ _)
  exact wp_ret (rThen (sRet (.tuple #[.slice none 0 0,iv 0]) S (rsl2 d (rvT (t:=2) (v:=.slice none 0 0) S d) (rvT (t:=3) (v:=iv 0) S d)) ⟨(.slice none 0 0),d,S.mem.sel [] [0] (by decide) d d⟩))
 refine sCondF S d aq (wp_skip (leafT (bj _ _ ?_)))
 refine sSeq (fun br ar=>sRegion (sM S fun a S=>?_))
 obtain ⟨a9,au,h⟩:=bS h
 refine sCall (X:=Value) (f:=94) (vs:=[.string p0,.int .u8 32]) (val:=c_raddleref25_Cut_val a9) (B':=fun _=>[]) (D':=c_raddleref25_Cut_D a9) [] [] [] [] [] S (wN d) d callee94 d (by decide) d d (fun E1 w1 S1=>c_raddleref25_Cut E1 w1 p0 32 a9 au S1) d (lb d) fun bm a w S=>?_
 obtain ⟨ae,af,_,rfl,_⟩:=S.mem.know (i:=0) (e:=fRep (rL rS) (bm) a9) d
 refine sN S fun a S=>?_
 refine lT (ar _ _ (sSeq (fun bt av=>sRegion (sN S fun a S=>?_))))
 refine lT (av _ _ ?_)
 obtain ⟨bn,h,aw⟩:=bS h
 refine sCut (fun a w=>∃ a4,.inl a4=bn∧∃ a0,∃ a2,St [] E [] w0 48 a w [(0,.string p0),(5,.slice a0 a4.length a2)] [eRow r_api_Stitch 81 (.slice a0 a4.length a2) a4] []) ?_ (fun a w hI=>?_)
 rotate_left
 ·obtain ⟨a4,rfl,a0,a2,S⟩:=hI
  have h:=aw
  try dsimp only at h
  refine sSeq (fun bu ax=>?_)
  obtain ⟨bo,h,bp⟩:=bS h
  refine sCut (fun a w=>∃ ay,ay=bo∧St [] E [] w0 48 a w [(5,.slice a0 a4.length a2),(46,.bool ay)] [eRow r_api_Stitch 81 (.slice a0 a4.length a2) a4] []) ?_ (fun a w hI=>?_)
  rotate_left
  ·obtain ⟨ay,rfl,S⟩:=hI
   have h:=bp
   try dsimp only at h
   rcases iS h with ⟨ag,h⟩ | ⟨ag,h⟩
   ·refine sCondT S d ag (sSeq (fun bv az=>sRegion (sN S fun a S=>?_)))
    refine sN S fun a S=>?_
    refine lT (az _ _ ?_)
    obtain rfl:=tS h
    have S:=S.learn (fRep (rL r_api_Stitch) (.slice none 0 0) ([]:(List api_Stitch))) (rL_nil _ _ _)
    exact wp_ret (rThen (sRet (.tuple #[.slice none 0 0,iv 12]) S (rsl2 d (rvT (t:=2) (v:=.slice none 0 0) S d) (rvT (t:=3) (v:=iv 12) S d)) ⟨(.slice none 0 0),d,S.mem.sel [] [0] (by decide) d d⟩))
   refine sCondF S d ag (wp_skip (leafT (ax _ _ ?_)))
   refine sSeq (fun bw aA=>sRegion (sM S fun a S=>?_))
   refine sN S fun a S=>?_
   refine sN S fun a S=>?_
   refine lT (aA _ _ ?_)
   obtain rfl:=tS h
   have S:=S.shutR (r:=r_api_Stitch) (T:=81) (v:=.slice a0 a4.length a2) (xs:=a4) 0 d
   exact wp_ret (sRet (.tuple #[.slice a0 a4.length a2,iv 0]) S (rsl2 d (rvT (t:=2) (v:=.slice a0 a4.length a2) S d) (rvT (t:=3) (v:=iv 0) S d)) ⟨(.slice a0 a4.length a2),d,S.mem.sel [] [0] (by decide) d d⟩)
  refine sRegion (sM S fun a S=>?_)
  obtain ⟨aC,aG,h⟩:=bS h
  have S1:=S.mem
  have S1:=S1.shutR (r:=r_api_Stitch) (T:=81) (v:=.slice a0 a4.length a2) (xs:=a4) 0 d
  refine sCq [.slice a0 a4.length a2] (iv aC) S callee38 (S1.quiet [0] d) (fun E1 w1 S1=>c_raddleref25_All E1 w1 a4 (.slice a0 a4.length a2) aC aG S1) fun a w S=>?_
  refine sBin _ S (wN d) d d d (bNe _ _ _ _ .i64 aC 0) d (lb d) fun a S=>sM S fun a S=>?_
  rcases iS h with ⟨a5,h⟩ | ⟨a5,h⟩
  ·refine sSkN 4 3 false 41 S d d a5 d fun a S=>sPickT (.bool true) S (wN d) d d a5 d d (lb d) fun a S=>?_
   exact lT (⟨true,Option.some.inj h,S.fix [0] [] (by decide) d d d⟩)
  refine sMove (.slice a0 a4.length a2) S (wG 3 false 41 d d d a5) (.inl d) d d (lb d) fun a S=>?_
  obtain ⟨ao,aH,h⟩:=bS h
  have S1:=S.mem
  have S1:=S1.shutR (r:=r_api_Stitch) (T:=81) (v:=.slice a0 a4.length a2) (xs:=a4) 0 d
  refine sCallQ (X:=Unit) (f:=96) (vs:=[.slice a0 a4.length a2]) (val:=fun _=>.string ao) S (wG 3 false 41 d d d a5) d callee96 d (S1.quiet [0] d) (fun E1 w1 S1=>c_raddleref25_Written E1 w1 a4 (.slice a0 a4.length a2) ao aH S1) d (lb d) fun _ a w S=>?_
  refine sMove (.string p0) S (wG 3 false 41 d d d a5) (.inl d) d d (lb d) fun a S=>sBin _ S (wG 3 false 41 d d d a5) d d d (bNeS _ _ _ _ ao p0) d (lb d) fun a S=>sPickF (.bool (ao != p0)) S (wN d) d d a5 d d (lb d) fun a S=>?_
  exact lT (⟨ao != p0,Option.some.inj h,S.fix [0] [] (by decide) d d d⟩)
 refine sSeq (fun bx aI=>sRegion (sN S fun a S=>?_))
 refine lT (aI _ _ (wp_block ?_))
 have S:=S.nilRow r_api_Stitch 81 (α:=api_Stitch)
 obtain ⟨bz,hl,aJ⟩:=bS h
 refine sLoop hl (fun s0 a w=>match s0 with | (aa,al)=>∃ a6,∃ a7,St [] E [] w0 48 a w [(0,.string p0),(4,.slice ae a9.length af),(5,.slice a6 aa.length a7),(6,iv al)] [eRow r_api_Stitch 81 (.slice a6 aa.length a7) aa] [fRep (rL rS) (.slice ae a9.length af) a9]) ⟨none,0,S.fix [0] [0] (by decide) d d d⟩ ?_
 clear hl h
 intro s0 a w c0 hI h ah
 obtain ⟨aa,al⟩:=s0
 unfold raddleref25_Parse_l1 at h
 dsimp only at h hI
 obtain ⟨a6,a7,S⟩:=hI
 refine sSeq (fun bA aK=>sSeq (fun bB aL=>sRegion (sM S fun a S=>?_)))
 refine sM S fun a S=>?_
 refine sLen S (wN d) d Try.underlying142 d d (lb d) fun a S=>sBin _ S (wN d) d d d (bLt _ _ _ _ .i64 al (a9.length:Int)) d (lb d) fun a S=>lT (aL _ _ ?_)
 rcases iS h with ⟨ai,h⟩ | ⟨ai,h⟩
 rotate_left
 ·refine sCondF S d ai ?_
  obtain rfl:=tS h
  obtain rfl:=ah _ d
  have h:=aJ
  try dsimp only at h
  exact wp_exit (xThen (xThen (xHit (leafT (⟨aa,Option.some.inj h,a6,a7,S.fix [0] [] (by decide) d d d⟩)))))
 refine sCondT S d ai (wp_skip (leafT (aK _ _ ?_)))
 refine sSeq (fun bC aM=>wp_block ?_)
 refine sSeq (fun bD aO=>sRegion (sM S fun a S=>?_))
 refine sM S fun a S=>?_
 obtain ⟨am,aP,h⟩:=bS h
 obtain ⟨ba,aQ,S⟩:=pIdx (P:=Try.prog) (r:=rS) (v:=.slice ae a9.length af) (xs:=a9) (j:=al) 142 9 0 S Try.underlying142 d d aP
 refine sIdxV S (wN d) d d d aQ d (lb d) fun a S=>?_
 obtain ⟨bb,S⟩:=pLoad (r:=rS) (q:=ba) (x:=am) 0 S d
 obtain rfl:bb=.string am:=S.mem.know (i:=1) (e:=fRep rS (bb) am) d
 refine sLoadV1 (vq:=ba) 0 (.string am) S (wN d) d d d d d (lb d) fun a S=>?_
 obtain ⟨a8,aR,h⟩:=bS h
 refine sCall (X:=Value) (f:=95) (vs:=[.string am]) (val:=c_raddleref25_word_val a8) (B':=fun _=>[]) (D':=c_raddleref25_word_D a8) [] [eRow r_api_Stitch 81 (.slice a6 aa.length a7) aa] [] [0] [] S (wN d) d callee95 d (by decide) d d (fun E1 w1 S1=>c_raddleref25_word E1 w1 am a8 aR S1) d (lb d) fun bq a w S=>?_
 obtain ⟨ab,ac,_,rfl,_⟩:=S.mem.know (i:=0) (e:=fRep (rL r_api_Stitch) (bq) a8.1) d
 refine sM S fun a S=>?_
 refine sExtract (vs:=[.slice ab a8.1.length ac,.bool a8.2]) (.slice ab a8.1.length ac) S (wN d) d d d d (lb d) fun a S=>sExtract (vs:=[.slice ab a8.1.length ac,.bool a8.2]) (.bool a8.2) S (wN d) d d d d (lb d) fun a S=>sN S fun a S=>?_
 refine sN S fun a S=>?_
 refine lT (aO _ _ (sSeq (fun bE aS=>sSeq (fun bF aT=>sRegion (sM S fun a S=>?_)))))
 refine sNot (b:=a8.2) S (wN d) d d d (lb d) fun a S=>lT (aT _ _ ?_)
 rcases iS h with ⟨aj,h⟩ | ⟨aj,h⟩
 ·refine sCondT S d aj (sSeq (fun bG aU=>sRegion (sN S fun a S=>?_)))
  refine sN S fun a S=>?_
  refine lT (aU _ _ ?_)
  obtain rfl:=tS h
  obtain rfl:=ah _ d
  have h:=aJ
  try dsimp only at h
  obtain rfl:=tS h
  have h:=aw
  try dsimp only at h
  obtain rfl:=tS h
  have S:=S.learn (fRep (rL r_api_Stitch) (.slice none 0 0) ([]:(List api_Stitch))) (rL_nil _ _ _)
  exact wp_ret (rThen (rBlock (rThen (rThen (rBlock (rThen (sRet (.tuple #[.slice none 0 0,iv 12]) S (rsl2 d (rvT (t:=2) (v:=.slice none 0 0) S d) (rvT (t:=3) (v:=iv 12) S d)) ⟨(.slice none 0 0),d,S.mem.sel [] [0] (by decide) d d⟩)))))))
 refine sCondF S d aj (wp_skip (leafT (aS _ _ ?_)))
 refine sSeq (fun bH aV=>sRegion (sM S fun a S=>?_))
 refine sM S fun a S=>?_
 obtain ⟨bc,aW,h⟩:=bS h
 refine sApp (r:=r_api_Stitch) (T:=81) (xs:=aa) (ys:=a8.1) (v:=.slice a6 aa.length a7) (u:=.slice ab a8.1.length ac) 0 (.agg #[.int .u8 0,.bool false,iv 0,iv 0]) 24 S (wN d) d Try.underlying47 d d (by decide) d d d (src_D 0 S.mem d) aW d (lb d) fun a w aX aZ S=>sN S fun a S=>?_
 refine lT (aV _ _ (sSeq (fun bI b0=>sRegion (sM S fun a S=>?_))))
 refine sLen S (wN d) d Try.underlying47 d d (lb d) fun a S=>sBin _ S (wN d) d d d (bGt _ _ _ _ .i64 (bc.length:Int) 200) d (lb d) fun a S=>lT (b0 _ _ ?_)
 rcases iS h with ⟨ak,h⟩ | ⟨ak,h⟩
 rotate_left
 ·refine sCondF S d ak (wp_skip (leafB (leafT (aM _ _ ?_))))
  refine sRegion (sM S fun a S=>?_)
  refine sBin _ S (wN d) d d d (bAdd _ _ _ _ al 1) d (lb d) fun a S=>sN S fun a S=>?_
  exact lT (⟨(bc,w64 (al + 1)),(Option.some.inj h).symm,⟨aX,aZ,S.fix [0] [4] (by decide) d d d⟩⟩)
 refine sCondT S d ak (sSeq (fun bJ b1=>sRegion (sN S fun a S=>?_)))
 refine sN S fun a S=>?_
 refine lT (b1 _ _ ?_)
 obtain rfl:=tS h
 obtain rfl:=ah _ d
 have h:=aJ
 try dsimp only at h
 obtain rfl:=tS h
 have h:=aw
 try dsimp only at h
 obtain rfl:=tS h
 have S:=S.learn (fRep (rL r_api_Stitch) (.slice none 0 0) ([]:(List api_Stitch))) (rL_nil _ _ _)
 exact wp_ret (rBlock (rThen (rThen (rBlock (rThen (sRet (.tuple #[.slice none 0 0,iv 12]) S (rsl2 d (rvT (t:=2) (v:=.slice none 0 0) S d) (rvT (t:=3) (v:=iv 12) S d)) ⟨(.slice none 0 0),d,S.mem.sel [] [0] (by decide) d d⟩))))))
noncomputable def F_raddlelaw46_cells (p0:ByteArray):Option (List api_Stitch):=
 (F_raddleref25_Parse p0).bind fun r3=>
 some r3.1
def c_raddlelaw46_cells_val (r:(List api_Stitch)) (x:Value):Value:=x
def c_raddlelaw46_cells_D (r:(List api_Stitch)) (x:Value):List Fact:=[fRep (rL r_api_Stitch) x r]
theorem c_raddlelaw46_cells (E:Nat→Prop) (w0:World) (p0:ByteArray) (r:(List api_Stitch)) (h:F_raddlelaw46_cells p0=some r) (S:St0 E [] w0 w0 [] []) :
 Calls Try.prog 42 #[.string p0] w0 (Ret (X:=Value) E [] w0 (c_raddlelaw46_cells_val r) (fun _=>[]) (c_raddlelaw46_cells_D r)):=by
 unfold F_raddlelaw46_cells at h
 refine sEnter (args:=[.string p0]) 11 Try.func42 d d (by simp) S (fun a S=>?_)
 refine sSeq (fun K1 a4=>sRegion (sN S fun a S=>?_))
 refine lT (a4 _ _ (sSeq (fun K2 a5=>sRegion (sM S fun a S=>?_))))
 obtain ⟨r3,a6,h⟩:=bS h
 refine sCall (X:=Value) (f:=78) (vs:=[.string p0]) (val:=c_raddleref25_Parse_val r3) (B':=fun _=>[]) (D':=c_raddleref25_Parse_D r3) [] [] [] [] [] S (wN d) d callee78 d (by decide) d d (fun E1 w1 S1=>c_raddleref25_Parse E1 w1 p0 r3 a6 S1) d (lb d) fun u5 a w S=>?_
 obtain ⟨a0,a2,_,rfl,_⟩:=S.mem.know (i:=0) (e:=fRep (rL r_api_Stitch) (u5) r3.1) d
 refine sM S fun a S=>?_
 refine sExtract (vs:=[.slice a0 r3.1.length a2,iv r3.2]) (.slice a0 r3.1.length a2) S (wN d) d d d d (lb d) fun a S=>sExtract (vs:=[.slice a0 r3.1.length a2,iv r3.2]) (iv r3.2) S (wN d) d d d d (lb d) fun a S=>sN S fun a S=>?_
 refine sN S fun a S=>?_
 refine lT (a5 _ _ (sSeq (fun K8 a7=>sRegion (sM S fun a S=>?_))))
 refine sN S fun a S=>?_
 refine lT (a7 _ _ ?_)
 obtain rfl:=tS h
 exact wp_ret (sRet (.slice a0 r3.1.length a2) S (rsl1 d (rvT (t:=2) (v:=.slice a0 r3.1.length a2) S d)) ⟨(.slice a0 r3.1.length a2),d,S.mem.sel [] [0] (by decide) d d⟩)
noncomputable def F_raddleref25_Uses (p0:(List api_Stitch)):Option (Int × Int):=
 (F_raddleref25_All p0).bind fun r6=>
 if r6 != 0 then
  some (0,r6)
 else
  (F_raddleref25_sums p0).bind fun a0=>
  some (a0.1,0)
theorem c_raddleref25_Uses (E:Nat→Prop) (w0:World) (p0:(List api_Stitch)) (v0:Value) (r:(Int × Int)) (h:F_raddleref25_Uses p0=some r) (S:St0 E [] w0 w0 [] [fRep (rL r_api_Stitch) (v0) p0]) :
 Calls Try.prog 75 #[v0] w0 (Ret (X:=Unit) E [] w0 (fun _=>.tuple #[.int .i64 r.1,.int .i64 r.2]) (fun _=>[]) (fun _=>[])):=by
 unfold F_raddleref25_Uses at h
 obtain ⟨a2,a4,_,rfl,_⟩:=S.know (i:=0) (e:=fRep (rL r_api_Stitch) (v0) p0) d
 refine sEnter (args:=[.slice a2 p0.length a4]) 17 Try.func75 d d (by simp) S (fun a S=>?_)
 refine sSeq (fun K3 aa=>sRegion (sN S fun a S=>?_))
 refine sN S fun a S=>?_
 refine lT (aa _ _ (sSeq (fun K4 ab=>sSeq (fun K5 ac=>sRegion (sM S fun a S=>?_)))))
 obtain ⟨r6,a9,h⟩:=bS h
 have S1:=S.mem
 refine sCq [.slice a2 p0.length a4] (iv r6) S callee38 (S1.quiet [0] d) (fun E1 w1 S1=>c_raddleref25_All E1 w1 p0 (.slice a2 p0.length a4) r6 a9 S1) fun a w S=>?_
 refine sBin _ S (wN d) d d d (bNe _ _ _ _ .i64 r6 0) d (lb d) fun a S=>lT (ac _ _ ?_)
 rcases iS h with ⟨a5,h⟩ | ⟨a5,h⟩
 ·refine sCondT S d a5 (sSeq (fun K9 ae=>sRegion (sM S fun a S=>?_)))
  have S1:=S.mem
  refine sCq [.slice a2 p0.length a4] (iv r6) S callee38 (S1.quiet [0] d) (fun E1 w1 S1=>c_raddleref25_All E1 w1 p0 (.slice a2 p0.length a4) r6 a9 S1) fun a w S=>?_
  refine sN S fun a S=>?_
  refine sN S fun a S=>?_
  refine lT (ae _ _ ?_)
  obtain rfl:=tS h
  exact wp_ret (rThen (sRet (.tuple #[iv 0,iv r6]) S (rsl2 d (rvT (t:=2) (v:=iv 0) S d) (rvT (t:=3) (v:=iv r6) S d)) ⟨(),d,S.mem.sel [] [] (by decide) d d⟩))
 refine sCondF S d a5 (wp_skip (leafT (ab _ _ ?_)))
 refine sSeq (fun af a6=>sRegion (sM S fun a S=>?_))
 obtain ⟨a0,a7,h⟩:=bS h
 have S1:=S.mem
 refine sCq [.slice a2 p0.length a4] (.tuple #[iv a0.1,iv a0.2]) S callee74 (S1.quiet [0] d) (fun E1 w1 S1=>c_raddleref25_sums E1 w1 p0 (.slice a2 p0.length a4) a0 a7 S1) fun a w S=>?_
 refine sM S fun a S=>?_
 refine sExtract (vs:=[iv a0.1,iv a0.2]) (iv a0.1) S (wN d) d d d d (lb d) fun a S=>sExtract (vs:=[iv a0.1,iv a0.2]) (iv a0.2) S (wN d) d d d d (lb d) fun a S=>sN S fun a S=>?_
 refine sN S fun a S=>?_
 refine lT (a6 _ _ (sSeq (fun ag a8=>sRegion (sM S fun a S=>?_))))
 refine sN S fun a S=>?_
 refine sN S fun a S=>?_
 refine lT (a8 _ _ ?_)
 obtain rfl:=tS h
 exact wp_ret (sRet (.tuple #[iv a0.1,iv 0]) S (rsl2 d (rvT (t:=2) (v:=iv a0.1) S d) (rvT (t:=3) (v:=iv 0) S d)) ⟨(),d,S.mem.sel [] [] (by decide) d d⟩)
noncomputable def F_raddleref25_Makes (p0:(List api_Stitch)):Option (Int × Int):=
 (F_raddleref25_All p0).bind fun r6=>
 if r6 != 0 then
  some (0,r6)
 else
  (F_raddleref25_sums p0).bind fun a0=>
  some (a0.2,0)
theorem c_raddleref25_Makes (E:Nat→Prop) (w0:World) (p0:(List api_Stitch)) (v0:Value) (r:(Int × Int)) (h:F_raddleref25_Makes p0=some r) (S:St0 E [] w0 w0 [] [fRep (rL r_api_Stitch) (v0) p0]) :
 Calls Try.prog 76 #[v0] w0 (Ret (X:=Unit) E [] w0 (fun _=>.tuple #[.int .i64 r.1,.int .i64 r.2]) (fun _=>[]) (fun _=>[])):=by
 unfold F_raddleref25_Makes at h
 obtain ⟨a2,a4,_,rfl,_⟩:=S.know (i:=0) (e:=fRep (rL r_api_Stitch) (v0) p0) d
 refine sEnter (args:=[.slice a2 p0.length a4]) 17 Try.func76 d d (by simp) S (fun a S=>?_)
 refine sSeq (fun K3 aa=>sRegion (sN S fun a S=>?_))
 refine sN S fun a S=>?_
 refine lT (aa _ _ (sSeq (fun K4 ab=>sSeq (fun K5 ac=>sRegion (sM S fun a S=>?_)))))
 obtain ⟨r6,a9,h⟩:=bS h
 have S1:=S.mem
 refine sCq [.slice a2 p0.length a4] (iv r6) S callee38 (S1.quiet [0] d) (fun E1 w1 S1=>c_raddleref25_All E1 w1 p0 (.slice a2 p0.length a4) r6 a9 S1) fun a w S=>?_
 refine sBin _ S (wN d) d d d (bNe _ _ _ _ .i64 r6 0) d (lb d) fun a S=>lT (ac _ _ ?_)
 rcases iS h with ⟨a5,h⟩ | ⟨a5,h⟩
 ·refine sCondT S d a5 (sSeq (fun K9 ae=>sRegion (sM S fun a S=>?_)))
  have S1:=S.mem
  refine sCq [.slice a2 p0.length a4] (iv r6) S callee38 (S1.quiet [0] d) (fun E1 w1 S1=>c_raddleref25_All E1 w1 p0 (.slice a2 p0.length a4) r6 a9 S1) fun a w S=>?_
  refine sN S fun a S=>?_
  refine sN S fun a S=>?_
  refine lT (ae _ _ ?_)
  obtain rfl:=tS h
  exact wp_ret (rThen (sRet (.tuple #[iv 0,iv r6]) S (rsl2 d (rvT (t:=2) (v:=iv 0) S d) (rvT (t:=3) (v:=iv r6) S d)) ⟨(),d,S.mem.sel [] [] (by decide) d d⟩))
 refine sCondF S d a5 (wp_skip (leafT (ab _ _ ?_)))
 refine sSeq (fun af a6=>sRegion (sM S fun a S=>?_))
 obtain ⟨a0,a7,h⟩:=bS h
 have S1:=S.mem
 refine sCq [.slice a2 p0.length a4] (.tuple #[iv a0.1,iv a0.2]) S callee74 (S1.quiet [0] d) (fun E1 w1 S1=>c_raddleref25_sums E1 w1 p0 (.slice a2 p0.length a4) a0 a7 S1) fun a w S=>?_
 refine sM S fun a S=>?_
 refine sExtract (vs:=[iv a0.1,iv a0.2]) (iv a0.1) S (wN d) d d d d (lb d) fun a S=>sExtract (vs:=[iv a0.1,iv a0.2]) (iv a0.2) S (wN d) d d d d (lb d) fun a S=>sN S fun a S=>?_
 refine sN S fun a S=>?_
 refine lT (a6 _ _ (sSeq (fun ag a8=>sRegion (sM S fun a S=>?_))))
 refine sN S fun a S=>?_
 refine sN S fun a S=>?_
 refine lT (a8 _ _ ?_)
 obtain rfl:=tS h
 exact wp_ret (sRet (.tuple #[iv a0.2,iv 0]) S (rsl2 d (rvT (t:=2) (v:=iv a0.2) S d) (rvT (t:=3) (v:=iv 0) S d)) ⟨(),d,S.mem.sel [] [] (by decide) d d⟩)
noncomputable def raddleref26_Check_l1 (p0:api_Chart):(Int × Int)→Option ((Int × Int) ⊕ (Int ⊕ Unit)):=fun s0=>match s0 with
 | (a5,a0)=>
  if decide (a0 < (p0.Rows.length:Int)) then
   (idxO p0.Rows a0).bind fun a4=>
   (F_raddleref25_Uses a4.Cells).bind fun a2=>
   if a2.2 != 0 then
    some (.inr (.inl a2.2))
   else
    if a2.1 != a5 then
     some (.inr (.inl 26))
    else
     (F_raddleref25_Makes a4.Cells).bind fun a6=>
     some (.inl (a6.1,w64 (a0 + 1)))
  else
   some (.inr (.inr ()))
noncomputable def F_raddleref26_Check (p0:api_Chart):Option Int:=
 if decide (100 < (p0.Rows.length:Int)) then
  some 4
 else
  Option.bind (α:=Bool) (
   if decide (p0.Start < 0) then
    some true
   else
    some (decide (200 < p0.Start))) fun a0=>
  if a0 then
   some 8
  else
   Option.bind (α:=Unit ⊕ Int) (
    (whileO (raddleref26_Check_l1 p0) (p0.Start,0)).bind fun z0=>match z0 with
     | .inl z=>
      some (.inr z)
     | .inr _=>
      some (.inl ())) fun z0=>match z0 with
    | .inl _=>
     some 0
    | .inr z=>
     some z
theorem c_raddleref26_Check (E:Nat→Prop) (w0:World) (p0:api_Chart) (v0:Value) (r:Int) (h:F_raddleref26_Check p0=some r) (S:St0 E [] w0 w0 [] [fRep r_api_Chart (v0) p0]) :
 Calls Try.prog 39 #[v0] w0 (Ret (X:=Unit) E [] w0 (fun _=>.int .i64 r) (fun _=>[]) (fun _=>[])):=by
 unfold F_raddleref26_Check at h
 obtain ⟨u1,rfl,aT⟩:=S.know (i:=0) (e:=fRep r_api_Chart (v0) p0) d
 have S:=S.learn (fRep (rL r_api_Row) u1 p0.Rows) aT
 obtain ⟨a4,a5,_,rfl,_⟩:=aT
 refine sEnter (args:=[.agg #[iv p0.Start,.slice a4 p0.Rows.length a5]]) 54 Try.func39 d d (by simp) S (fun a S=>?_)
 refine sSeq (fun K5 aZ=>sRegion (sBox (v:=.agg #[iv p0.Start,.slice a4 p0.Rows.length a5]) S (wN d) d d [iv p0.Start,.slice a4 p0.Rows.length a5] d d (lb d) fun a b6 w S=>sN S fun a S=>?_))
 refine lT (aZ _ _ (sSeq (fun K7 b0=>sSeq (fun K8 b1=>sRegion (sField (b:=b6) (off:=0) 1 1 S (wN d) d d d d d (lb d) fun a S=>sLoad1 0 (.slice a4 p0.Rows.length a5) S (wN d) d d d d d d (lb d) fun a S=>sLen S (wN d) d Try.underlying40 d d (lb d) fun a S=>sBin _ S (wN d) d d d (bGt _ _ _ _ .i64 (p0.Rows.length:Int) 100) d (lb d) fun a S=>lT (b1 _ _ ?_))))))
 rcases iS h with ⟨ak,h⟩ | ⟨ak,h⟩
 ·refine sCondT S d ak (sSeq (fun bh al=>sRegion (sN S fun a S=>?_)))
  refine lT (al _ _ ?_)
  obtain rfl:=tS h
  exact wp_ret (rThen (sRet (iv 4) S (rsl1 d (rvT (t:=2) (v:=iv 4) S d)) ⟨(),d,S.mem.sel [] [] (by decide) d d⟩))
 refine sCondF S d ak (wp_skip (leafT (b0 _ _ ?_)))
 refine sSeq (fun bi am=>?_)
 obtain ⟨ba,h,bb⟩:=bS h
 refine sCut (fun a w=>∃ ao,ao=ba∧St [] E [] w0 54 a w [(1,.pointer (some ⟨b6,0,none⟩)),(18,.bool ao)] [eBox b6 42 [iv p0.Start,.slice a4 p0.Rows.length a5]] [fRep (rL r_api_Row) (.slice a4 p0.Rows.length a5) p0.Rows]) ?_ (fun a w hI=>?_)
 ·refine sRegion (sField (b:=b6) (off:=0) 0 0 S (wN d) d d d d d (lb d) fun a S=>sLoad1 0 (iv p0.Start) S (wN d) d d d d d d (lb d) fun a S=>sBin _ S (wN d) d d d (bLt _ _ _ _ .i64 p0.Start 0) d (lb d) fun a S=>sM S fun a S=>?_)
  rcases iS h with ⟨a0,h⟩ | ⟨a0,h⟩
  ·refine sSkN 3 3 false 14 S d d a0 d fun a S=>sPickT (.bool true) S (wN d) d d a0 d d (lb d) fun a S=>?_
   exact lT (⟨true,Option.some.inj h,S.fix [0] [0] (by decide) d d d⟩)
  refine sField (b:=b6) (off:=0) 0 0 S (wG 3 false 14 d d d a0) d d d d d (lb d) fun a S=>sLoad1 0 (iv p0.Start) S (wG 3 false 14 d d d a0) d d d d d d (lb d) fun a S=>sBin _ S (wG 3 false 14 d d d a0) d d d (bGt _ _ _ _ .i64 p0.Start 200) d (lb d) fun a S=>sPickF (.bool (decide (200 < p0.Start))) S (wN d) d d a0 d d (lb d) fun a S=>?_
  exact lT (⟨decide (200 < p0.Start),Option.some.inj h,S.fix [0] [0] (by decide) d d d⟩)
 obtain ⟨ao,rfl,S⟩:=hI
 have h:=bb
 try dsimp only at h
 rcases iS h with ⟨a8,h⟩ | ⟨a8,h⟩
 ·refine sCondT S d a8 (sSeq (fun bj ap=>sRegion (sN S fun a S=>?_)))
  refine lT (ap _ _ ?_)
  obtain rfl:=tS h
  exact wp_ret (rThen (sRet (iv 8) S (rsl1 d (rvT (t:=2) (v:=iv 8) S d)) ⟨(),d,S.mem.sel [] [] (by decide) d d⟩))
 refine sCondF S d a8 (wp_skip (leafT (am _ _ ?_)))
 refine sSeq (fun bk aq=>sRegion (sField (b:=b6) (off:=0) 0 0 S (wN d) d d d d d (lb d) fun a S=>sLoad1 0 (iv p0.Start) S (wN d) d d d d d d (lb d) fun a S=>sN S fun a S=>?_))
 refine lT (aq _ _ ?_)
 obtain ⟨bc,h,ar⟩:=bS h
 refine sCut (fun a w=>.inl ()=bc∧St [] E [] w0 54 a w [] [] []) ?_ (fun a w hI=>?_)
 rotate_left
 ·obtain ⟨rfl,S⟩:=hI
  have h:=ar
  try dsimp only at h
  refine sSeq (fun bl au=>sRegion (sN S fun a S=>?_))
  refine lT (au _ _ ?_)
  obtain rfl:=tS h
  exact wp_ret (sRet (iv 0) S (rsl1 d (rvT (t:=2) (v:=iv 0) S d)) ⟨(),d,S.mem.sel [] [] (by decide) d d⟩)
 refine sSeq (fun bm av=>sRegion (sN S fun a S=>?_))
 refine lT (av _ _ (wp_block ?_))
 obtain ⟨bn,hl,aw⟩:=bS h
 refine sLoop hl (fun s0 a w=>match s0 with | (ax,a9)=>St [] E [] w0 54 a w [(1,.pointer (some ⟨b6,0,none⟩)),(3,iv ax),(4,iv a9)] [eBox b6 42 [iv p0.Start,.slice a4 p0.Rows.length a5]] [fRep (rL r_api_Row) (.slice a4 p0.Rows.length a5) p0.Rows]) (S.fix [0] [0] (by decide) d d d) ?_
 clear hl h
 intro s0 a w c0 hI h aa
 obtain ⟨ax,a9⟩:=s0
 unfold raddleref26_Check_l1 at h
 dsimp only at h hI
 have S:=hI
 refine sSeq (fun bo ay=>sSeq (fun bp az=>sRegion (sM S fun a S=>?_)))
 refine sField (b:=b6) (off:=0) 1 1 S (wN d) d d d d d (lb d) fun a S=>sLoad1 0 (.slice a4 p0.Rows.length a5) S (wN d) d d d d d d (lb d) fun a S=>sLen S (wN d) d Try.underlying40 d d (lb d) fun a S=>sBin _ S (wN d) d d d (bLt _ _ _ _ .i64 a9 (p0.Rows.length:Int)) d (lb d) fun a S=>lT (az _ _ ?_)
 rcases iS h with ⟨ab,h⟩ | ⟨ab,h⟩
 rotate_left
 ·refine sCondF S d ab ?_
  obtain rfl:=tS h
  obtain rfl:=aa _ d
  have h:=aw
  try dsimp only at h
  exact wp_exit (xThen (xThen (xHit (leafT (⟨Option.some.inj h,S.fix [] [] (by decide) d d d⟩)))))
 refine sCondT S d ab (wp_skip (leafT (ay _ _ ?_)))
 refine sSeq (fun bq aA=>wp_block ?_)
 refine sSeq (fun br aC=>sRegion (sField (b:=b6) (off:=0) 1 1 S (wN d) d d d d d (lb d) fun a S=>sLoad1 0 (.slice a4 p0.Rows.length a5) S (wN d) d d d d d d (lb d) fun a S=>sM S fun a S=>?_))
 obtain ⟨a2,aj,h⟩:=bS h
 obtain ⟨aU,aG,S⟩:=pIdx (P:=Try.prog) (r:=r_api_Row) (v:=.slice a4 p0.Rows.length a5) (xs:=p0.Rows) (j:=a9) 40 87 0 S Try.underlying40 d d aj
 refine sIdxV S (wN d) d d d aG d (lb d) fun a S=>?_
 obtain ⟨aV,aH,S⟩:=pFld (P:=Try.prog) (r:=r_api_Row) (s2:=(rL r_api_Stitch)) (g:=(·.Cells)) (q:=aU) (z:=a2) 87 1 0 1 S d d comp_api_Row_Cells
 refine sFldV (q:=aU) S (wN d) d d aH d (lb d) fun a S=>?_
 obtain ⟨bf,S⟩:=pLoad (r:=(rL r_api_Stitch)) (q:=aV) (x:=a2.Cells) 0 S d
 obtain ⟨ac,ae,_,rfl,_⟩:=S.mem.know (i:=1) (e:=fRep (rL r_api_Stitch) (bf) a2.Cells) d
 refine sLoadV1 (vq:=aV) 0 (.slice ac a2.Cells.length ae) S (wN d) d d d d d (lb d) fun a S=>?_
 obtain ⟨a6,aI,h⟩:=bS h
 have S1:=S.mem
 refine sCq [.slice ac a2.Cells.length ae] (.tuple #[iv a6.1,iv a6.2]) S callee75 (S1.quiet [1] d) (fun E1 w1 S1=>c_raddleref25_Uses E1 w1 a2.Cells (.slice ac a2.Cells.length ae) a6 aI S1) fun a w S=>?_
 refine sM S fun a S=>?_
 refine sExtract (vs:=[iv a6.1,iv a6.2]) (iv a6.1) S (wN d) d d d d (lb d) fun a S=>sExtract (vs:=[iv a6.1,iv a6.2]) (iv a6.2) S (wN d) d d d d (lb d) fun a S=>sN S fun a S=>?_
 refine sN S fun a S=>?_
 refine lT (aC _ _ (sSeq (fun bt aJ=>sSeq (fun bu aK=>sRegion (sM S fun a S=>?_)))))
 refine sBin _ S (wN d) d d d (bNe _ _ _ _ .i64 a6.2 0) d (lb d) fun a S=>lT (aK _ _ ?_)
 rcases iS h with ⟨af,h⟩ | ⟨af,h⟩
 ·refine sCondT S d af (sSeq (fun bv aL=>sRegion (sM S fun a S=>?_)))
  refine sN S fun a S=>?_
  refine lT (aL _ _ ?_)
  obtain rfl:=tS h
  obtain rfl:=aa _ d
  have h:=aw
  try dsimp only at h
  obtain rfl:=tS h
  have h:=ar
  try dsimp only at h
  obtain rfl:=tS h
  exact wp_ret (rThen (rBlock (rThen (rThen (rBlock (rThen (sRet (iv a6.2) S (rsl1 d (rvT (t:=2) (v:=iv a6.2) S d)) ⟨(),d,S.mem.sel [] [] (by decide) d d⟩)))))))
 refine sCondF S d af (wp_skip (leafT (aJ _ _ ?_)))
 refine sSeq (fun bw aM=>sSeq (fun bx aO=>sRegion (sM S fun a S=>?_)))
 refine sM S fun a S=>?_
 refine sBin _ S (wN d) d d d (bNe _ _ _ _ .i64 a6.1 ax) d (lb d) fun a S=>lT (aO _ _ ?_)
 rcases iS h with ⟨ag,h⟩ | ⟨ag,h⟩
 ·refine sCondT S d ag (sSeq (fun bz aP=>sRegion (sN S fun a S=>?_)))
  refine lT (aP _ _ ?_)
  obtain rfl:=tS h
  obtain rfl:=aa _ d
  have h:=aw
  try dsimp only at h
  obtain rfl:=tS h
  have h:=ar
  try dsimp only at h
  obtain rfl:=tS h
  exact wp_ret (rThen (rBlock (rThen (rThen (rBlock (rThen (sRet (iv 26) S (rsl1 d (rvT (t:=2) (v:=iv 26) S d)) ⟨(),d,S.mem.sel [] [] (by decide) d d⟩)))))))
 refine sCondF S d ag (wp_skip (leafT (aM _ _ ?_)))
 refine sRegion (sField (b:=b6) (off:=0) 1 1 S (wN d) d d d d d (lb d) fun a S=>sLoad1 0 (.slice a4 p0.Rows.length a5) S (wN d) d d d d d d (lb d) fun a S=>sM S fun a S=>?_)
 obtain ⟨aW,aQ,S⟩:=pIdx (P:=Try.prog) (r:=r_api_Row) (v:=.slice a4 p0.Rows.length a5) (xs:=p0.Rows) (j:=a9) 40 87 4 S Try.underlying40 d d aj
 refine sIdxV S (wN d) d d d aQ d (lb d) fun a S=>?_
 obtain ⟨aX,aR,S⟩:=pFld (P:=Try.prog) (r:=r_api_Row) (s2:=(rL r_api_Stitch)) (g:=(·.Cells)) (q:=aW) (z:=a2) 87 1 0 1 S d d comp_api_Row_Cells
 refine sFldV (q:=aW) S (wN d) d d aR d (lb d) fun a S=>?_
 obtain ⟨bg,S⟩:=pLoad (r:=(rL r_api_Stitch)) (q:=aX) (x:=a2.Cells) 0 S d
 obtain ⟨ah,ai,_,rfl,_⟩:=S.mem.know (i:=1) (e:=fRep (rL r_api_Stitch) (bg) a2.Cells) d
 refine sLoadV1 (vq:=aX) 0 (.slice ah a2.Cells.length ai) S (wN d) d d d d d (lb d) fun a S=>?_
 obtain ⟨a7,aS,h⟩:=bS h
 have S1:=S.mem
 refine sCq [.slice ah a2.Cells.length ai] (.tuple #[iv a7.1,iv a7.2]) S callee76 (S1.quiet [1] d) (fun E1 w1 S1=>c_raddleref25_Makes E1 w1 a2.Cells (.slice ah a2.Cells.length ai) a7 aS S1) fun a w S=>?_
 refine sM S fun a S=>?_
 refine sExtract (vs:=[iv a7.1,iv a7.2]) (iv a7.1) S (wN d) d d d d (lb d) fun a S=>sExtract (vs:=[iv a7.1,iv a7.2]) (iv a7.2) S (wN d) d d d d (lb d) fun a S=>sN S fun a S=>?_
 refine leafL (leafB (leafT (aA _ _ ?_)))
 refine sRegion (sM S fun a S=>?_)
 refine sBin _ S (wN d) d d d (bAdd _ _ _ _ a9 1) d (lb d) fun a S=>sN S fun a S=>?_
 exact lT (⟨(a7.1,w64 (a9 + 1)),(Option.some.inj h).symm,(S.fix [0] [8] (by decide) d d d)⟩)
noncomputable def raddleref26_Written_l1 (p0:api_Chart):(ByteArray × Int)→Option ((ByteArray × Int) ⊕ ((ByteArray × Bool) ⊕ ByteArray)):=fun s0=>match s0 with
 | (a4,a0)=>
  if decide (a0 < (p0.Rows.length:Int)) then
   (idxO p0.Rows a0).bind fun a5=>
   (F_raddleref25_Written a5.Cells).bind fun a2=>
   if decide (3000 < (a2.size:Int)) then
    some (.inr (.inl ((⟨#[]⟩:ByteArray),false)))
   else
    (F_raddleref26_side a5.Back).bind fun a7=>
    (addS a4 a7).bind fun a6=>
    Option.bind (α:=ByteArray) (
     if a2 != (⟨#[]⟩:ByteArray) then
      (addS a6 (⟨#[32]⟩:ByteArray)).bind fun a8=>
      (addS a8 a2).bind fun a9=>
      some a9
     else
      some a6) fun aa=>
    (addS aa (⟨#[10]⟩:ByteArray)).bind fun ab=>
    some (.inl (ab,w64 (a0 + 1)))
  else
   some (.inr (.inr a4))
noncomputable def F_raddleref26_Written (p0:api_Chart):Option (ByteArray × Bool):=
 (F_raddleref25_Decimal p0.Start).bind fun r8=>
 (addS (⟨#[115,116,97,114,116,32]⟩:ByteArray) r8).bind fun a0=>
 (addS a0 (⟨#[10]⟩:ByteArray)).bind fun a2=>
 Option.bind (α:=ByteArray ⊕ (ByteArray × Bool)) (
  (whileO (raddleref26_Written_l1 p0) (a2,0)).bind fun z0=>match z0 with
   | .inl z=>
    some (.inr z)
   | .inr a4=>
    some (.inl a4)) fun z0=>match z0 with
  | .inl a5=>
   some (a5,true)
  | .inr z=>
   some z
theorem c_raddleref26_Written (E:Nat→Prop) (w0:World) (p0:api_Chart) (v0:Value) (r:(ByteArray × Bool)) (h:F_raddleref26_Written p0=some r) (S:St0 E [] w0 w0 [] [fRep r_api_Chart (v0) p0]) :
 Calls Try.prog 98 #[v0] w0 (Ret (X:=Unit) E [] w0 (fun _=>.tuple #[.string r.1,.bool r.2]) (fun _=>[]) (fun _=>[])):=by
 unfold F_raddleref26_Written at h
 obtain ⟨u1,rfl,aO⟩:=S.know (i:=0) (e:=fRep r_api_Chart (v0) p0) d
 have S:=S.learn (fRep (rL r_api_Row) u1 p0.Rows) aO
 obtain ⟨a2,a4,_,rfl,_⟩:=aO
 refine sEnter (args:=[.agg #[iv p0.Start,.slice a2 p0.Rows.length a4]]) 47 Try.func98 d d (by simp) S (fun a S=>?_)
 refine sSeq (fun K5 aX=>sRegion (sBox (v:=.agg #[iv p0.Start,.slice a2 p0.Rows.length a4]) S (wN d) d d [iv p0.Start,.slice a2 p0.Rows.length a4] d d (lb d) fun a b6 w S=>sN S fun a S=>?_))
 refine sN S fun a S=>?_
 refine lT (aX _ _ (sSeq (fun K7 aZ=>sRegion (sField (b:=b6) (off:=0) 0 0 S (wN d) d d d d d (lb d) fun a S=>sLoad1 0 (iv p0.Start) S (wN d) d d d d d d (lb d) fun a S=>?_))))
 obtain ⟨r8,b0,h⟩:=bS h
 have S1:=S.mem
 refine sCq [iv p0.Start] (.string r8) S callee108 (S1.quiet [] d) (fun E1 w1 S1=>c_raddleref25_Decimal E1 w1 p0.Start r8 b0 S1) fun a w S=>?_
 obtain ⟨b1,ai,h⟩:=bS h
 refine sBin _ S (wN d) d d d (bAddS _ _ _ _ (x:=(⟨#[115,116,97,114,116,32]⟩:ByteArray)) (y:=r8) ai) d (lb d) fun a S=>?_
 obtain ⟨bj,aj,h⟩:=bS h
 refine sBin _ S (wN d) d d d (bAddS _ _ _ _ (x:=b1) (y:=(⟨#[10]⟩:ByteArray)) aj) d (lb d) fun a S=>sN S fun a S=>?_
 refine lT (aZ _ _ ?_)
 obtain ⟨ba,h,aP⟩:=bS h
 refine sCut (fun a w=>∃ ac,.inl ac=ba∧St [] E [] w0 47 a w [(4,.string ac)] [] []) ?_ (fun a w hI=>?_)
 rotate_left
 ·obtain ⟨ac,rfl,S⟩:=hI
  have h:=aP
  try dsimp only at h
  refine sSeq (fun bk ak=>sRegion (sM S fun a S=>?_))
  refine sN S fun a S=>?_
  refine sN S fun a S=>?_
  refine lT (ak _ _ ?_)
  obtain rfl:=tS h
  exact wp_ret (sRet (.tuple #[.string ac,.bool true]) S (rsl2 d (rvT (t:=2) (v:=.string ac) S d) (rvT (t:=3) (v:=.bool true) S d)) ⟨(),d,S.mem.sel [] [] (by decide) d d⟩)
 refine sSeq (fun bl al=>sRegion (sN S fun a S=>?_))
 refine lT (al _ _ (wp_block ?_))
 obtain ⟨bm,hl,aQ⟩:=bS h
 refine sLoop hl (fun s0 a w=>match s0 with | (ag,a5)=>St [] E [] w0 47 a w [(1,.pointer (some ⟨b6,0,none⟩)),(4,.string ag),(5,iv a5)] [eBox b6 42 [iv p0.Start,.slice a2 p0.Rows.length a4]] [fRep (rL r_api_Row) (.slice a2 p0.Rows.length a4) p0.Rows]) (S.fix [0] [0] (by decide) d d d) ?_
 clear hl h
 intro s0 a w c0 hI h ae
 obtain ⟨ag,a5⟩:=s0
 unfold raddleref26_Written_l1 at h
 dsimp only at h hI
 have S:=hI
 refine sSeq (fun bn am=>sSeq (fun bo ao=>sRegion (sM S fun a S=>?_)))
 refine sField (b:=b6) (off:=0) 1 1 S (wN d) d d d d d (lb d) fun a S=>sLoad1 0 (.slice a2 p0.Rows.length a4) S (wN d) d d d d d d (lb d) fun a S=>sLen S (wN d) d Try.underlying40 d d (lb d) fun a S=>sBin _ S (wN d) d d d (bLt _ _ _ _ .i64 a5 (p0.Rows.length:Int)) d (lb d) fun a S=>lT (ao _ _ ?_)
 rcases iS h with ⟨a6,h⟩ | ⟨a6,h⟩
 rotate_left
 ·refine sCondF S d a6 ?_
  obtain rfl:=tS h
  obtain rfl:=ae _ d
  have h:=aQ
  try dsimp only at h
  exact wp_exit (xThen (xThen (xHit (leafT (⟨ag,Option.some.inj h,S.fix [] [] (by decide) d d d⟩)))))
 refine sCondT S d a6 (wp_skip (leafT (am _ _ ?_)))
 refine sSeq (fun bp ap=>wp_block ?_)
 refine sSeq (fun bq aq=>sRegion (sField (b:=b6) (off:=0) 1 1 S (wN d) d d d d d (lb d) fun a S=>sLoad1 0 (.slice a2 p0.Rows.length a4) S (wN d) d d d d d d (lb d) fun a S=>sM S fun a S=>?_))
 obtain ⟨a0,af,h⟩:=bS h
 obtain ⟨aR,ar,S⟩:=pIdx (P:=Try.prog) (r:=r_api_Row) (v:=.slice a2 p0.Rows.length a4) (xs:=p0.Rows) (j:=a5) 40 87 0 S Try.underlying40 d d af
 refine sIdxV S (wN d) d d d ar d (lb d) fun a S=>?_
 obtain ⟨aS,au,S⟩:=pFld (P:=Try.prog) (r:=r_api_Row) (s2:=(rL r_api_Stitch)) (g:=(·.Cells)) (q:=aR) (z:=a0) 87 1 0 1 S d d comp_api_Row_Cells
 refine sFldV (q:=aR) S (wN d) d d au d (lb d) fun a S=>?_
 obtain ⟨bb,S⟩:=pLoad (r:=(rL r_api_Stitch)) (q:=aS) (x:=a0.Cells) 0 S d
 obtain ⟨a7,a8,_,rfl,_⟩:=S.mem.know (i:=1) (e:=fRep (rL r_api_Stitch) (bb) a0.Cells) d
 refine sLoadV1 (vq:=aS) 0 (.slice a7 a0.Cells.length a8) S (wN d) d d d d d (lb d) fun a S=>?_
 obtain ⟨ab,av,h⟩:=bS h
 have S1:=S.mem
 refine sCq [.slice a7 a0.Cells.length a8] (.string ab) S callee96 (S1.quiet [1] d) (fun E1 w1 S1=>c_raddleref25_Written E1 w1 a0.Cells (.slice a7 a0.Cells.length a8) ab av S1) fun a w S=>?_
 refine sN S fun a S=>?_
 refine lT (aq _ _ (sSeq (fun br aw=>sSeq (fun bt ax=>sRegion (sM S fun a S=>?_)))))
 refine sLenS (v:=ab) S (wN d) d Try.underlying9 d d (lb d) fun a S=>sBin _ S (wN d) d d d (bGt _ _ _ _ .i64 (ab.size:Int) 3000) d (lb d) fun a S=>lT (ax _ _ ?_)
 rcases iS h with ⟨a9,h⟩ | ⟨a9,h⟩
 ·refine sCondT S d a9 (sSeq (fun bu ay=>sRegion (sN S fun a S=>?_)))
  refine sN S fun a S=>?_
  refine lT (ay _ _ ?_)
  obtain rfl:=tS h
  obtain rfl:=ae _ d
  have h:=aQ
  try dsimp only at h
  obtain rfl:=tS h
  have h:=aP
  try dsimp only at h
  obtain rfl:=tS h
  exact wp_ret (rThen (rBlock (rThen (rThen (rBlock (rThen (sRet (.tuple #[.string (⟨#[]⟩:ByteArray),.bool false]) S (rsl2 d (rvT (t:=2) (v:=.string (⟨#[]⟩:ByteArray)) S d) (rvT (t:=3) (v:=.bool false) S d)) ⟨(),d,S.mem.sel [] [] (by decide) d d⟩)))))))
 refine sCondF S d a9 (wp_skip (leafT (aw _ _ ?_)))
 refine sSeq (fun bv az=>sRegion (sM S fun a S=>?_))
 refine sField (b:=b6) (off:=0) 1 1 S (wN d) d d d d d (lb d) fun a S=>sLoad1 0 (.slice a2 p0.Rows.length a4) S (wN d) d d d d d d (lb d) fun a S=>sM S fun a S=>?_
 obtain ⟨aT,aA,S⟩:=pIdx (P:=Try.prog) (r:=r_api_Row) (v:=.slice a2 p0.Rows.length a4) (xs:=p0.Rows) (j:=a5) 40 87 4 S Try.underlying40 d d af
 refine sIdxV S (wN d) d d d aA d (lb d) fun a S=>?_
 obtain ⟨aU,aC,S⟩:=pFld (P:=Try.prog) (r:=r_api_Row) (s2:=rB) (g:=(·.Back)) (q:=aT) (z:=a0) 87 0 0 0 S d d comp_api_Row_Back
 refine sFldV (q:=aT) S (wN d) d d aC d (lb d) fun a S=>?_
 obtain ⟨aV,S⟩:=pLoad (r:=rB) (q:=aU) (x:=a0.Back) 0 S d
 obtain rfl:aV=.bool a0.Back:=S.mem.know (i:=1) (e:=fRep rB (aV) a0.Back) d
 refine sLoadV1 (vq:=aU) 0 (.bool a0.Back) S (wN d) d d d d d (lb d) fun a S=>?_
 obtain ⟨aG,aH,h⟩:=bS h
 have S1:=S.mem
 refine sCq [.bool a0.Back] (.string aG) S callee109 (S1.quiet [] d) (fun E1 w1 S1=>c_raddleref26_side E1 w1 a0.Back aG aH S1) fun a w S=>?_
 obtain ⟨aW,aI,h⟩:=bS h
 refine sBin _ S (wN d) d d d (bAddS _ _ _ _ (x:=ag) (y:=aG) aI) d (lb d) fun a S=>sN S fun a S=>?_
 refine lT (az _ _ ?_)
 obtain ⟨bc,h,bf⟩:=bS h
 refine sCut (fun a w=>∃ ah,ah=bc∧St [] E [] w0 47 a w [(1,.pointer (some ⟨b6,0,none⟩)),(4,.string ah),(5,iv a5)] [eBox b6 42 [iv p0.Start,.slice a2 p0.Rows.length a4]] [fRep (rL r_api_Row) (.slice a2 p0.Rows.length a4) p0.Rows]) ?_ (fun a w hI=>?_)
 rotate_left
 ·obtain ⟨ah,rfl,S⟩:=hI
  have h:=bf
  try dsimp only at h
  refine sRegion (sM S fun a S=>?_)
  obtain ⟨bg,aJ,h⟩:=bS h
  refine sBin _ S (wN d) d d d (bAddS _ _ _ _ (x:=ah) (y:=(⟨#[10]⟩:ByteArray)) aJ) d (lb d) fun a S=>sN S fun a S=>?_
  refine leafL (leafB (leafT (ap _ _ ?_)))
  refine sRegion (sM S fun a S=>?_)
  refine sBin _ S (wN d) d d d (bAdd _ _ _ _ a5 1) d (lb d) fun a S=>sN S fun a S=>?_
  exact lT (⟨(bg,w64 (a5 + 1)),(Option.some.inj h).symm,(S.fix [0] [0] (by decide) d d d)⟩)
 refine sSeq (fun bw aK=>sRegion (sM S fun a S=>?_))
 refine sBin _ S (wN d) d d d (bNeS _ _ _ _ ab (⟨#[]⟩:ByteArray)) d (lb d) fun a S=>lT (aK _ _ ?_)
 rcases iS h with ⟨aa,h⟩ | ⟨aa,h⟩
 rotate_left
 ·refine sCondF S d aa ?_
  exact wp_skip (leafT (⟨aW,Option.some.inj h,S.fix [0] [8] (by decide) d d d⟩))
 refine sCondT S d aa (sRegion (sM S fun a S=>?_))
 obtain ⟨bh,aL,h⟩:=bS h
 refine sBin _ S (wN d) d d d (bAddS _ _ _ _ (x:=aW) (y:=(⟨#[32]⟩:ByteArray)) aL) d (lb d) fun a S=>sM S fun a S=>?_
 obtain ⟨bi,aM,h⟩:=bS h
 refine sBin _ S (wN d) d d d (bAddS _ _ _ _ (x:=bh) (y:=ab) aM) d (lb d) fun a S=>sN S fun a S=>?_
 exact lT (⟨bi,Option.some.inj h,S.fix [0] [8] (by decide) d d d⟩)
noncomputable def raddleref26_Parse_l1 (r8:(List ByteArray)) (a4:Int):Int→Option (Int ⊕ Int):=fun s0=>match s0 with
 | a0=>
  Option.bind (α:=Bool) (
   (idxO r8 a4).bind fun a2=>
   if decide (a0 < (a2.size:Int)) then
    (idxS a2 a0).bind fun a5=>
    some (a5 != 32)
   else
    some false) fun a6=>
  if a6 then
   some (.inl (w64 (a0 + 1)))
  else
   some (.inr a0)
noncomputable def raddleref26_Parse_l2 (r8:(List ByteArray)):(Int × List api_Row)→Option ((Int × List api_Row) ⊕ ((api_Chart × Int) ⊕ (List api_Row))):=fun s0=>match s0 with
 | (a2,ac)=>
  if decide ((w64 (a2 + 1)) < (r8.length:Int)) then
   Option.bind (α:=List api_Row ⊕ (api_Chart × Int)) (
    Option.bind (α:=Int) (
     (whileO (raddleref26_Parse_l1 r8 a2) 0).bind fun ae=>
      some ae) fun a6=>
    Option.bind (α:=Bool) (
     (idxO r8 a2).bind fun a7=>
     (sliceS a7 0 a6).bind fun a4=>
     if a4 != (⟨#[102,114,111,110,116]⟩:ByteArray) then
      some (a4 != (⟨#[98,97,99,107]⟩:ByteArray))
     else
      some false) fun af=>
    if af then
     some (.inr ((api_Chart.mk 0 ([]:(List api_Row))),12))
    else
     (idxO r8 a2).bind fun a0=>
     (sliceS a0 0 a6).bind fun a8=>
     Option.bind (α:=List api_Stitch ⊕ (api_Chart × Int)) (
      if decide (a6 < (a0.size:Int)) then
       (sliceS a0 (w64 (a6 + 1)) (a0.size:Int)).bind fun a9=>
       (F_raddleref25_Parse a9).bind fun a5=>
       if a5.2 != 0 then
        some (.inr ((api_Chart.mk 0 ([]:(List api_Row))),12))
       else
        some (.inl a5.1)
      else
       some (.inl ([]:List api_Stitch))) fun z0=>match z0 with
      | .inl aa=>
       (appO ac [(api_Row.mk (a8 == (⟨#[98,97,99,107]⟩:ByteArray)) aa)]).bind fun ab=>
       some (.inl ab)
      | .inr z=>
       some (.inr z)) fun z0=>match z0 with
    | .inl ag=>
     some (.inl (w64 (a2 + 1),ag))
    | .inr z=>
     some (.inr (.inl z))
  else
   some (.inr (.inr ac))
noncomputable def F_raddleref26_Parse (p0:ByteArray):Option (api_Chart × Int):=
 if decide (20000 < (p0.size:Int)) then
  some ((api_Chart.mk 0 ([]:(List api_Row))),12)
 else
  (F_raddleref25_Cut p0 10).bind fun r8=>
  Option.bind (α:=Bool) (
   if decide ((r8.length:Int) < 2) then
    some true
   else
    if decide (100 < (w64 ((r8.length:Int) - 2))) then
     some true
    else
     (idxO r8 0).bind fun a7=>
     if decide ((a7.size:Int) < 7) then
      some true
     else
      (sliceS a7 0 6).bind fun a9=>
      some (a9 != (⟨#[115,116,97,114,116,32]⟩:ByteArray))) fun aa=>
  if aa then
   some ((api_Chart.mk 0 ([]:(List api_Row))),12)
  else
   (idxO r8 0).bind fun a8=>
   (sliceS a8 6 (a8.size:Int)).bind fun ab=>
   (F_raddleref25_Number ab).bind fun a2=>
   if !a2.2 then
    some ((api_Chart.mk 0 ([]:(List api_Row))),12)
   else
    Option.bind (α:=List api_Row ⊕ (api_Chart × Int)) (
     (whileO (raddleref26_Parse_l2 r8) (1,([]:List api_Row))).bind fun z0=>match z0 with
      | .inl z=>
       some (.inr z)
      | .inr ac=>
       some (.inl ac)) fun z0=>match z0 with
     | .inl a4=>
      (F_raddleref26_Check (api_Chart.mk a2.1 a4)).bind fun a5=>
      if a5 != 0 then
       some ((api_Chart.mk 0 ([]:(List api_Row))),12)
      else
       (F_raddleref26_Written (api_Chart.mk a2.1 a4)).bind fun a0=>
       Option.bind (α:=Bool) (
        if !a0.2 then
         some true
        else
         some (a0.1 != p0)) fun a6=>
       if a6 then
        some ((api_Chart.mk 0 ([]:(List api_Row))),12)
       else
        some ((api_Chart.mk a2.1 a4),0)
     | .inr z=>
      some z
def c_raddleref26_Parse_val (r:(api_Chart × Int)) (x:Value):Value:=.tuple #[x,.int .i64 r.2]
def c_raddleref26_Parse_D (r:(api_Chart × Int)) (x:Value):List Fact:=[fRep r_api_Chart x r.1]
theorem c_raddleref26_Parse (E:Nat→Prop) (w0:World) (p0:ByteArray) (r:(api_Chart × Int)) (h:F_raddleref26_Parse p0=some r) (S:St0 E [] w0 w0 [] []) :
 Calls Try.prog 79 #[.string p0] w0 (Ret (X:=Value) E [] w0 (c_raddleref26_Parse_val r) (fun _=>[]) (c_raddleref26_Parse_D r)):=by
 unfold F_raddleref26_Parse at h
 refine sEnter (args:=[.string p0]) 155 Try.func79 d d (by simp) S (fun a S=>?_)
 refine sSeq (fun K1 cN=>sRegion (sAlloc (.agg #[iv 0,.slice none 0 0]) S (wN d) d d [iv 0,.slice none 0 0] d d (lb d) fun a b2 w S=>sN S fun a S=>?_))
 refine lT (cN _ _ (sSeq (fun K3 cO=>sSeq (fun K4 cP=>sRegion (sM S fun a S=>?_)))))
 refine sLenS (v:=p0) S (wN d) d Try.underlying9 d d (lb d) fun a S=>sBin _ S (wN d) d d d (bGt _ _ _ _ .i64 (p0.size:Int) 20000) d (lb d) fun a S=>lT (cP _ _ ?_)
 rcases iS h with ⟨bY,h⟩ | ⟨bY,h⟩
 ·refine sCondT S d bY (sSeq (fun K6 cQ=>sRegion (sBuild [] [iv 0,.slice none 0 0] S (wN d) d d d d (lb d) fun a S=>sStore (p:=b2) (off:=0) (T:=42) (vs:=[iv 0,.slice none 0 0]) (v:=.agg #[iv 0,.slice none 0 0]) 0 [iv 0,.slice none 0 0] S (wN d) d d d d d d d (by simp) d fun a w S=>sN S fun a S=>?_)))
  refine lT (cQ _ _ ?_)
  obtain rfl:=tS h
  have S:=S.learn (fRep (rL r_api_Row) (.slice none 0 0) ([]:(List api_Row))) (rL_nil _ _ _)
  have S:=S.learn (fRep r_api_Chart (.agg #[iv 0,.slice none 0 0]) (api_Chart.mk 0 ([]:(List api_Row)))) ⟨_,d,S.mem.know (i:=0) (e:=fRep (rL r_api_Row) (.slice none 0 0) ([]:(List api_Row))) d⟩
  exact wp_ret (rThen (sRet (.tuple #[.agg #[iv 0,.slice none 0 0],iv 12]) S (rsl2 d (rvN (c:=2) (t:=42) (T:=42) (p:=b2) 0 [iv 0,.slice none 0 0] S d d d d) (rvT (t:=3) (v:=iv 12) S d)) ⟨(.agg #[iv 0,.slice none 0 0]),d,S.mem.sel [] [0] (by decide) d d⟩))
 refine sCondF S d bY (wp_skip (leafT (cO _ _ ?_)))
 refine sSeq (fun K7 cR=>sRegion (sM S fun a S=>?_))
 obtain ⟨r8,cS,h⟩:=bS h
 refine sCall (X:=Value) (f:=94) (vs:=[.string p0,.int .u8 10]) (val:=c_raddleref25_Cut_val r8) (B':=fun _=>[]) (D':=c_raddleref25_Cut_D r8) [] [eBox b2 42 [iv 0,.slice none 0 0]] [] [0] [] S (wN d) d callee94 d (by decide) d d (fun E1 w1 S1=>c_raddleref25_Cut E1 w1 p0 10 r8 cS S1) d (lb d) fun cT a w S=>?_
 obtain ⟨a0,a2,_,rfl,_⟩:=S.mem.know (i:=0) (e:=fRep (rL rS) (cT) r8) d
 refine sN S fun a S=>?_
 refine lT (cR _ _ (sSeq (fun dk bZ=>?_)))
 obtain ⟨cU,h,cV⟩:=bS h
 refine sCut (fun a w=>∃ c1,c1=cU∧St [] E [] w0 155 a w [(0,.string p0),(2,.pointer (some ⟨b2,0,none⟩)),(4,.slice a0 r8.length a2),(43,.bool c1)] [eBox b2 42 [iv 0,.slice none 0 0]] [fRep (rL rS) (.slice a0 r8.length a2) r8]) ?_ (fun a w hI=>?_)
 ·refine sRegion (sM S fun a S=>?_)
  refine sLen S (wN d) d Try.underlying142 d d (lb d) fun a S=>sBin _ S (wN d) d d d (bLt _ _ _ _ .i64 (r8.length:Int) 2) d (lb d) fun a S=>sM S fun a S=>?_
  rcases iS h with ⟨aw,h⟩ | ⟨aw,h⟩
  ·refine sSkN 4 3 false 24 S d d aw d fun a S=>sPickT (.bool true) S (wN d) d d aw d d (lb d) fun a S=>sM S fun a S=>?_
   refine sSkN 5 9 false 30 S d d d d fun a S=>sPickT (.bool true) S (wN d) d d d d d (lb d) fun a S=>sM S fun a S=>?_
   refine sSkN 5 16 false 37 S d d d d fun a S=>sPickT (.bool true) S (wN d) d d d d d (lb d) fun a S=>?_
   exact lT (⟨true,Option.some.inj h,S.fix [0] [0] (by decide) d d d⟩)
  refine sMove (.slice a0 r8.length a2) S (wG 3 false 24 d d d aw) (.inl d) d d (lb d) fun a S=>sLen S (wG 3 false 24 d d d aw) d Try.underlying142 d d (lb d) fun a S=>sBin _ S (wG 3 false 24 d d d aw) d d d (bSub _ _ _ _ (r8.length:Int) 2) d (lb d) fun a S=>sBin _ S (wG 3 false 24 d d d aw) d d d (bGt _ _ _ _ .i64 (w64 ((r8.length:Int) - 2)) 100) d (lb d) fun a S=>sPickF (.bool (decide (100 < (w64 ((r8.length:Int) - 2))))) S (wN d) d d aw d d (lb d) fun a S=>sM S fun a S=>?_
  rcases iS h with ⟨au,h⟩ | ⟨au,h⟩
  ·refine sSkN 5 9 false 30 S d d au d fun a S=>sPickT (.bool true) S (wN d) d d au d d (lb d) fun a S=>sM S fun a S=>?_
   refine sSkN 5 16 false 37 S d d d d fun a S=>sPickT (.bool true) S (wN d) d d d d d (lb d) fun a S=>?_
   exact lT (⟨true,Option.some.inj h,S.fix [0] [0] (by decide) d d d⟩)
  refine sMove (.slice a0 r8.length a2) S (wG 9 false 30 d d d au) (.inl d) d d (lb d) fun a S=>?_
  obtain ⟨aA,bg,h⟩:=bS h
  obtain ⟨cD,c2,S⟩:=pIdx (P:=Try.prog) (r:=rS) (v:=.slice a0 r8.length a2) (xs:=r8) (j:=0) 142 9 0 S Try.underlying142 d d bg
  refine sIdxV S (wG 9 false 30 d d d au) d d d c2 d (lb d) fun a S=>?_
  obtain ⟨cE,S⟩:=pLoad (r:=rS) (q:=cD) (x:=aA) 0 S d
  obtain rfl:cE=.string aA:=S.mem.know (i:=1) (e:=fRep rS (cE) aA) d
  refine sLoadV1 (vq:=cD) 0 (.string aA) S (wG 9 false 30 d d d au) d d d d d (lb d) fun a S=>sLenS (v:=aA) S (wG 9 false 30 d d d au) d Try.underlying9 d d (lb d) fun a S=>sBin _ S (wG 9 false 30 d d d au) d d d (bLt _ _ _ _ .i64 (aA.size:Int) 7) d (lb d) fun a S=>sPickF (.bool (decide ((aA.size:Int) < 7))) S (wN d) d d au d d (lb d) fun a S=>sM S fun a S=>?_
  rcases iS h with ⟨av,h⟩ | ⟨av,h⟩
  ·refine sSkN 5 16 false 37 S d d av d fun a S=>sPickT (.bool true) S (wN d) d d av d d (lb d) fun a S=>?_
   exact lT (⟨true,Option.some.inj h,S.fix [0] [3] (by decide) d d d⟩)
  refine sMove (.slice a0 r8.length a2) S (wG 16 false 37 d d d av) (.inl d) d d (lb d) fun a S=>?_
  obtain ⟨cF,c3,S⟩:=pIdx (P:=Try.prog) (r:=rS) (v:=.slice a0 r8.length a2) (xs:=r8) (j:=0) 142 9 3 S Try.underlying142 d d bg
  refine sIdxV S (wG 16 false 37 d d d av) d d d c3 d (lb d) fun a S=>?_
  obtain ⟨cG,S⟩:=pLoad (r:=rS) (q:=cF) (x:=aA) 0 S d
  obtain rfl:cG=.string aA:=S.mem.know (i:=1) (e:=fRep rS (cG) aA) d
  refine sLoadV1 (vq:=cF) 0 (.string aA) S (wG 16 false 37 d d d av) d d d d d (lb d) fun a S=>?_
  obtain ⟨bX,c4,h⟩:=bS h
  refine sSliceS (v:=aA) (u:=bX) (vlo:=none) (vhi:=(some (.int .i64 6))) (lo':=0) (hi':=6) S (wG 16 false 37 d d d av) d Try.underlying9 d d d (.inr ⟨d,d⟩) (.inl d) c4 d (lb d) fun a S=>sBin _ S (wG 16 false 37 d d d av) d d d (bNeS _ _ _ _ bX (⟨#[115,116,97,114,116,32]⟩:ByteArray)) d (lb d) fun a S=>sPickF (.bool (bX != (⟨#[115,116,97,114,116,32]⟩:ByteArray))) S (wN d) d d av d d (lb d) fun a S=>?_
  exact lT (⟨bX != (⟨#[115,116,97,114,116,32]⟩:ByteArray),Option.some.inj h,S.fix [0] [6] (by decide) d d d⟩)
 obtain ⟨c1,rfl,S⟩:=hI
 have h:=cV
 try dsimp only at h
 rcases iS h with ⟨aU,h⟩ | ⟨aU,h⟩
 ·refine sCondT S d aU (sSeq (fun dl c5=>sRegion (sBuild [] [iv 0,.slice none 0 0] S (wN d) d d d d (lb d) fun a S=>sStore (p:=b2) (off:=0) (T:=42) (vs:=[iv 0,.slice none 0 0]) (v:=.agg #[iv 0,.slice none 0 0]) 0 [iv 0,.slice none 0 0] S (wN d) d d d d d d d (by simp) d fun a w S=>sN S fun a S=>?_)))
  refine lT (c5 _ _ ?_)
  obtain rfl:=tS h
  have S:=S.learn (fRep (rL r_api_Row) (.slice none 0 0) ([]:(List api_Row))) (rL_nil _ _ _)
  have S:=S.learn (fRep r_api_Chart (.agg #[iv 0,.slice none 0 0]) (api_Chart.mk 0 ([]:(List api_Row)))) ⟨_,d,S.mem.know (i:=0) (e:=fRep (rL r_api_Row) (.slice none 0 0) ([]:(List api_Row))) d⟩
  exact wp_ret (rThen (sRet (.tuple #[.agg #[iv 0,.slice none 0 0],iv 12]) S (rsl2 d (rvN (c:=2) (t:=42) (T:=42) (p:=b2) 0 [iv 0,.slice none 0 0] S d d d d) (rvT (t:=3) (v:=iv 12) S d)) ⟨(.agg #[iv 0,.slice none 0 0]),d,S.mem.sel [] [0] (by decide) d d⟩))
 refine sCondF S d aU (wp_skip (leafT (bZ _ _ ?_)))
 refine sSeq (fun dm c6=>sRegion (sM S fun a S=>?_))
 obtain ⟨bc,c7,h⟩:=bS h
 obtain ⟨cH,c8,S⟩:=pIdx (P:=Try.prog) (r:=rS) (v:=.slice a0 r8.length a2) (xs:=r8) (j:=0) 142 9 0 S Try.underlying142 d d c7
 refine sIdxV S (wN d) d d d c8 d (lb d) fun a S=>?_
 obtain ⟨cI,S⟩:=pLoad (r:=rS) (q:=cH) (x:=bc) 0 S d
 obtain rfl:cI=.string bc:=S.mem.know (i:=1) (e:=fRep rS (cI) bc) d
 refine sLoadV1 (vq:=cH) 0 (.string bc) S (wN d) d d d d d (lb d) fun a S=>?_
 obtain ⟨c9,ca,h⟩:=bS h
 refine sSliceS (v:=bc) (u:=c9) (vlo:=(some (.int .i64 6))) (vhi:=none) (lo':=6) (hi':=(bc.size:Int)) S (wN d) d Try.underlying9 d d d (.inl d) (.inr ⟨d,d⟩) ca d (lb d) fun a S=>?_
 obtain ⟨a6,cb,h⟩:=bS h
 have S1:=S.mem
 refine sCq [.string c9] (.tuple #[iv a6.1,.bool a6.2]) S callee97 (S1.quiet [] d) (fun E1 w1 S1=>c_raddleref25_Number E1 w1 c9 a6 cb S1) fun a w S=>?_
 refine sM S fun a S=>?_
 refine sExtract (vs:=[iv a6.1,.bool a6.2]) (iv a6.1) S (wN d) d d d d (lb d) fun a S=>sExtract (vs:=[iv a6.1,.bool a6.2]) (.bool a6.2) S (wN d) d d d d (lb d) fun a S=>sN S fun a S=>?_
 refine sN S fun a S=>?_
 refine lT (c6 _ _ (sSeq (fun dn cc=>sSeq (fun dp cd=>sRegion (sM S fun a S=>?_)))))
 refine sNot (b:=a6.2) S (wN d) d d d (lb d) fun a S=>lT (cd _ _ ?_)
 rcases iS h with ⟨aV,h⟩ | ⟨aV,h⟩
 ·refine sCondT S d aV (sSeq (fun dr ce=>sRegion (sBuild [] [iv 0,.slice none 0 0] S (wN d) d d d d (lb d) fun a S=>sStore (p:=b2) (off:=0) (T:=42) (vs:=[iv 0,.slice none 0 0]) (v:=.agg #[iv 0,.slice none 0 0]) 0 [iv 0,.slice none 0 0] S (wN d) d d d d d d d (by simp) d fun a w S=>sN S fun a S=>?_)))
  refine lT (ce _ _ ?_)
  obtain rfl:=tS h
  have S:=S.learn (fRep (rL r_api_Row) (.slice none 0 0) ([]:(List api_Row))) (rL_nil _ _ _)
  have S:=S.learn (fRep r_api_Chart (.agg #[iv 0,.slice none 0 0]) (api_Chart.mk 0 ([]:(List api_Row)))) ⟨_,d,S.mem.know (i:=0) (e:=fRep (rL r_api_Row) (.slice none 0 0) ([]:(List api_Row))) d⟩
  exact wp_ret (rThen (sRet (.tuple #[.agg #[iv 0,.slice none 0 0],iv 12]) S (rsl2 d (rvN (c:=2) (t:=42) (T:=42) (p:=b2) 0 [iv 0,.slice none 0 0] S d d d d) (rvT (t:=3) (v:=iv 12) S d)) ⟨(.agg #[iv 0,.slice none 0 0]),d,S.mem.sel [] [0] (by decide) d d⟩))
 refine sCondF S d aV (wp_skip (leafT (cc _ _ ?_)))
 refine sSeq (fun dt cf=>sRegion (sM S fun a S=>?_))
 refine sBuild [(0,iv a6.1)] [iv a6.1,.slice none 0 0] S (wN d) d d d d (lb d) fun a S=>sAlloc (.agg #[iv 0,.slice none 0 0]) S (wN d) d d [iv 0,.slice none 0 0] d d (lb d) fun a ak w S=>sStore (p:=ak) (off:=0) (T:=42) (vs:=[iv 0,.slice none 0 0]) (v:=.agg #[iv a6.1,.slice none 0 0]) 0 [iv a6.1,.slice none 0 0] S (wN d) d d d d d d d (by simp) d fun a w S=>lT (cf _ _ ?_)
 obtain ⟨cW,h,cg⟩:=bS h
 refine sCut (fun a w=>∃ a7,.inl a7=cW∧∃ a4,∃ a5,St [] E [] w0 155 a w [(0,.string p0),(2,.pointer (some ⟨b2,0,none⟩)),(7,.pointer (some ⟨ak,0,none⟩))] [eBox b2 42 [iv 0,.slice none 0 0],eBox ak 42 [iv a6.1,.slice a4 a7.length a5],eRow r_api_Row 87 (.slice a4 a7.length a5) a7] []) ?_ (fun a w hI=>?_)
 rotate_left
 ·obtain ⟨a7,rfl,a4,a5,S⟩:=hI
  have h:=cg
  try dsimp only at h
  refine sSeq (fun cX bh=>sSeq (fun cY bi=>sRegion (sLoadN (p:=ak) (off:=0) (T:=42) (vs:=[iv a6.1,.slice a4 a7.length a5]) 1 [iv a6.1,.slice a4 a7.length a5] S (wN d) d d d d d d d (lb d) fun a S=>?_)))
  obtain ⟨aW,bj,h⟩:=bS h
  have S1:=S.mem
  have S1:=S1.shutR (r:=r_api_Row) (T:=87) (v:=.slice a4 a7.length a5) (xs:=a7) 2 d
  have S1:=S1.learn (fRep r_api_Chart (.agg #[iv a6.1,.slice a4 a7.length a5]) (api_Chart.mk a6.1 a7)) ⟨_,d,S1.know (i:=0) (e:=fRep (rL r_api_Row) (.slice a4 a7.length a5) a7) d⟩
  refine sCq [.agg #[iv a6.1,.slice a4 a7.length a5]] (iv aW) S callee39 (S1.quiet [0] d) (fun E1 w1 S1=>c_raddleref26_Check E1 w1 (api_Chart.mk a6.1 a7) (.agg #[iv a6.1,.slice a4 a7.length a5]) aW bj S1) fun a w S=>?_
  refine sBin _ S (wN d) d d d (bNe _ _ _ _ .i64 aW 0) d (lb d) fun a S=>lT (bi _ _ ?_)
  rcases iS h with ⟨aC,h⟩ | ⟨aC,h⟩
  ·refine sCondT S d aC (sSeq (fun cZ bk=>sRegion (sBuild [] [iv 0,.slice none 0 0] S (wN d) d d d d (lb d) fun a S=>sStore (p:=b2) (off:=0) (T:=42) (vs:=[iv 0,.slice none 0 0]) (v:=.agg #[iv 0,.slice none 0 0]) 0 [iv 0,.slice none 0 0] S (wN d) d d d d d d d (by simp) d fun a w S=>sN S fun a S=>?_)))
   refine lT (bk _ _ ?_)
   obtain rfl:=tS h
   have S:=S.learn (fRep (rL r_api_Row) (.slice none 0 0) ([]:(List api_Row))) (rL_nil _ _ _)
   have S:=S.learn (fRep r_api_Chart (.agg #[iv 0,.slice none 0 0]) (api_Chart.mk 0 ([]:(List api_Row)))) ⟨_,d,S.mem.know (i:=0) (e:=fRep (rL r_api_Row) (.slice none 0 0) ([]:(List api_Row))) d⟩
   exact wp_ret (rThen (sRet (.tuple #[.agg #[iv 0,.slice none 0 0],iv 12]) S (rsl2 d (rvN (c:=2) (t:=42) (T:=42) (p:=b2) 0 [iv 0,.slice none 0 0] S d d d d) (rvT (t:=3) (v:=iv 12) S d)) ⟨(.agg #[iv 0,.slice none 0 0]),d,S.mem.sel [] [0] (by decide) d d⟩))
  refine sCondF S d aC (wp_skip (leafT (bh _ _ ?_)))
  refine sSeq (fun d0 bl=>sRegion (sLoadN (p:=ak) (off:=0) (T:=42) (vs:=[iv a6.1,.slice a4 a7.length a5]) 1 [iv a6.1,.slice a4 a7.length a5] S (wN d) d d d d d d d (lb d) fun a S=>?_))
  obtain ⟨ah,bm,h⟩:=bS h
  have S1:=S.mem
  have S1:=S1.shutR (r:=r_api_Row) (T:=87) (v:=.slice a4 a7.length a5) (xs:=a7) 2 d
  have S1:=S1.learn (fRep r_api_Chart (.agg #[iv a6.1,.slice a4 a7.length a5]) (api_Chart.mk a6.1 a7)) ⟨_,d,S1.know (i:=0) (e:=fRep (rL r_api_Row) (.slice a4 a7.length a5) a7) d⟩
  refine sCq [.agg #[iv a6.1,.slice a4 a7.length a5]] (.tuple #[.string ah.1,.bool ah.2]) S callee98 (S1.quiet [0] d) (fun E1 w1 S1=>c_raddleref26_Written E1 w1 (api_Chart.mk a6.1 a7) (.agg #[iv a6.1,.slice a4 a7.length a5]) ah bm S1) fun a w S=>?_
  refine sM S fun a S=>?_
  refine sExtract (vs:=[.string ah.1,.bool ah.2]) (.string ah.1) S (wN d) d d d d (lb d) fun a S=>sExtract (vs:=[.string ah.1,.bool ah.2]) (.bool ah.2) S (wN d) d d d d (lb d) fun a S=>sN S fun a S=>?_
  refine sN S fun a S=>?_
  refine lT (bl _ _ (sSeq (fun d1 bn=>?_)))
  obtain ⟨ci,h,cj⟩:=bS h
  refine sCut (fun a w=>∃ aX,aX=ci∧St [] E [] w0 155 a w [(2,.pointer (some ⟨b2,0,none⟩)),(7,.pointer (some ⟨ak,0,none⟩)),(152,.bool aX)] [eBox b2 42 [iv 0,.slice none 0 0],eBox ak 42 [iv a6.1,.slice a4 a7.length a5],eRow r_api_Row 87 (.slice a4 a7.length a5) a7] []) ?_ (fun a w hI=>?_)
  ·refine sRegion (sM S fun a S=>?_)
   refine sNot (b:=ah.2) S (wN d) d d d (lb d) fun a S=>sM S fun a S=>?_
   rcases iS h with ⟨al,h⟩ | ⟨al,h⟩
   ·refine sSkN 3 2 false 148 S d d al d fun a S=>sPickT (.bool true) S (wN d) d d al d d (lb d) fun a S=>?_
    exact lT (⟨true,Option.some.inj h,S.fix [0,1,2] [] (by decide) d d d⟩)
   refine sMove (.string ah.1) S (wG 2 false 148 d d d al) (.inl d) d d (lb d) fun a S=>sMove (.string p0) S (wG 2 false 148 d d d al) (.inl d) d d (lb d) fun a S=>sBin _ S (wG 2 false 148 d d d al) d d d (bNeS _ _ _ _ ah.1 p0) d (lb d) fun a S=>sPickF (.bool (ah.1 != p0)) S (wN d) d d al d d (lb d) fun a S=>?_
   exact lT (⟨ah.1 != p0,Option.some.inj h,S.fix [0,1,2] [] (by decide) d d d⟩)
  obtain ⟨aX,rfl,S⟩:=hI
  have h:=cj
  try dsimp only at h
  rcases iS h with ⟨aG,h⟩ | ⟨aG,h⟩
  ·refine sCondT S d aG (sSeq (fun d3 bo=>sRegion (sBuild [] [iv 0,.slice none 0 0] S (wN d) d d d d (lb d) fun a S=>sStore (p:=b2) (off:=0) (T:=42) (vs:=[iv 0,.slice none 0 0]) (v:=.agg #[iv 0,.slice none 0 0]) 0 [iv 0,.slice none 0 0] S (wN d) d d d d d d d (by simp) d fun a w S=>sN S fun a S=>?_)))
   refine lT (bo _ _ ?_)
   obtain rfl:=tS h
   have S:=S.learn (fRep (rL r_api_Row) (.slice none 0 0) ([]:(List api_Row))) (rL_nil _ _ _)
   have S:=S.learn (fRep r_api_Chart (.agg #[iv 0,.slice none 0 0]) (api_Chart.mk 0 ([]:(List api_Row)))) ⟨_,d,S.mem.know (i:=0) (e:=fRep (rL r_api_Row) (.slice none 0 0) ([]:(List api_Row))) d⟩
   exact wp_ret (rThen (sRet (.tuple #[.agg #[iv 0,.slice none 0 0],iv 12]) S (rsl2 d (rvN (c:=2) (t:=42) (T:=42) (p:=b2) 0 [iv 0,.slice none 0 0] S d d d d) (rvT (t:=3) (v:=iv 12) S d)) ⟨(.agg #[iv 0,.slice none 0 0]),d,S.mem.sel [] [0] (by decide) d d⟩))
  refine sCondF S d aG (wp_skip (leafT (bn _ _ ?_)))
  refine sSeq (fun d4 bp=>sRegion (sLoadN (p:=ak) (off:=0) (T:=42) (vs:=[iv a6.1,.slice a4 a7.length a5]) 1 [iv a6.1,.slice a4 a7.length a5] S (wN d) d d d d d d d (lb d) fun a S=>sStore (p:=b2) (off:=0) (T:=42) (vs:=[iv 0,.slice none 0 0]) (v:=.agg #[iv a6.1,.slice a4 a7.length a5]) 0 [iv a6.1,.slice a4 a7.length a5] S (wN d) d d d d d d d (by simp) d fun a w S=>sN S fun a S=>?_))
  refine lT (bp _ _ ?_)
  obtain rfl:=tS h
  have S:=S.shutR (r:=r_api_Row) (T:=87) (v:=.slice a4 a7.length a5) (xs:=a7) 2 d
  have S:=S.learn (fRep r_api_Chart (.agg #[iv a6.1,.slice a4 a7.length a5]) (api_Chart.mk a6.1 a7)) ⟨_,d,S.mem.know (i:=0) (e:=fRep (rL r_api_Row) (.slice a4 a7.length a5) a7) d⟩
  exact wp_ret (sRet (.tuple #[.agg #[iv a6.1,.slice a4 a7.length a5],iv 0]) S (rsl2 d (rvN (c:=2) (t:=42) (T:=42) (p:=b2) 0 [iv a6.1,.slice a4 a7.length a5] S d d d d) (rvT (t:=3) (v:=iv 0) S d)) ⟨(.agg #[iv a6.1,.slice a4 a7.length a5]),d,S.mem.sel [] [0] (by decide) d d⟩)
 refine sSeq (fun du ck=>sRegion (sN S fun a S=>?_))
 refine lT (ck _ _ (wp_block ?_))
 have S:=S.nilRow r_api_Row 87 (α:=api_Row)
 obtain ⟨dv,hl,cl⟩:=bS h
 refine sLoop hl (fun s0 a w=>match s0 with | (ao,aj)=>∃ a9,∃ aa,St [] E [] w0 155 a w [(0,.string p0),(2,.pointer (some ⟨b2,0,none⟩)),(4,.slice a0 r8.length a2),(7,.pointer (some ⟨ak,0,none⟩)),(8,iv ao)] [eBox b2 42 [iv 0,.slice none 0 0],eBox ak 42 [iv a6.1,.slice a9 aj.length aa],eRow r_api_Row 87 (.slice a9 aj.length aa) aj] [fRep (rL rS) (.slice a0 r8.length a2) r8]) ⟨none,0,S.fix [2,1,0] [3] (by decide) d d d⟩ ?_
 clear hl h
 intro s0 a w c0 hI h aZ
 obtain ⟨ao,aj⟩:=s0
 unfold raddleref26_Parse_l2 at h
 dsimp only at h hI
 obtain ⟨a9,aa,S⟩:=hI
 refine sSeq (fun dw cm=>sSeq (fun dx cn=>sRegion (sM S fun a S=>?_)))
 refine sBin _ S (wN d) d d d (bAdd _ _ _ _ ao 1) d (lb d) fun a S=>sM S fun a S=>?_
 refine sLen S (wN d) d Try.underlying142 d d (lb d) fun a S=>sBin _ S (wN d) d d d (bLt _ _ _ _ .i64 (w64 (ao + 1)) (r8.length:Int)) d (lb d) fun a S=>lT (cn _ _ ?_)
 rcases iS h with ⟨b0,h⟩ | ⟨b0,h⟩
 rotate_left
 ·refine sCondF S d b0 ?_
  obtain rfl:=tS h
  obtain rfl:=aZ _ d
  have h:=cl
  try dsimp only at h
  exact wp_exit (xThen (xThen (xHit (leafT (⟨aj,Option.some.inj h,a9,aa,S.fix [0,1,2] [] (by decide) d d d⟩)))))
 refine sCondT S d b0 (wp_skip (leafT (cm _ _ ?_)))
 obtain ⟨d5,h,co⟩:=bS h
 refine sCut (fun a w=>∃ bf,.inl bf=d5∧∃ aP,∃ aQ,St [] E [] w0 155 a w [(0,.string p0),(2,.pointer (some ⟨b2,0,none⟩)),(4,.slice a0 r8.length a2),(7,.pointer (some ⟨ak,0,none⟩)),(8,iv ao)] [eBox b2 42 [iv 0,.slice none 0 0],eBox ak 42 [iv a6.1,.slice aP bf.length aQ],eRow r_api_Row 87 (.slice aP bf.length aQ) bf] [fRep (rL rS) (.slice a0 r8.length a2) r8]) ?_ (fun a w hI=>?_)
 rotate_left
 ·obtain ⟨bf,rfl,aP,aQ,S⟩:=hI
  have h:=co
  try dsimp only at h
  refine sRegion (sM S fun a S=>?_)
  refine sBin _ S (wN d) d d d (bAdd _ _ _ _ ao 1) d (lb d) fun a S=>sN S fun a S=>?_
  exact lT (⟨(w64 (ao + 1),bf),(Option.some.inj h).symm,⟨aP,aQ,S.fix [0,1,2] [0] (by decide) d d d⟩⟩)
 refine wp_block ?_
 refine sSeq (fun dy cp=>sRegion (sN S fun a S=>?_))
 refine lT (cp _ _ ?_)
 obtain ⟨d6,h,d7⟩:=bS h
 refine sCut (fun a w=>∃ ax,ax=d6∧St [] E [] w0 155 a w [(0,.string p0),(2,.pointer (some ⟨b2,0,none⟩)),(4,.slice a0 r8.length a2),(7,.pointer (some ⟨ak,0,none⟩)),(8,iv ao),(9,iv ax)] [eBox b2 42 [iv 0,.slice none 0 0],eBox ak 42 [iv a6.1,.slice a9 aj.length aa],eRow r_api_Row 87 (.slice a9 aj.length aa) aj] [fRep (rL rS) (.slice a0 r8.length a2) r8]) ?_ (fun a w hI=>?_)
 ·refine wp_block ?_
  obtain ⟨dz,hl,d8⟩:=bS h
  refine sLoop hl (fun s0 a w=>match s0 with | aR=>St [] E [] w0 155 a w [(0,.string p0),(2,.pointer (some ⟨b2,0,none⟩)),(4,.slice a0 r8.length a2),(7,.pointer (some ⟨ak,0,none⟩)),(8,iv ao),(9,iv aR)] [eBox b2 42 [iv 0,.slice none 0 0],eBox ak 42 [iv a6.1,.slice a9 aj.length aa],eRow r_api_Row 87 (.slice a9 aj.length aa) aj] [fRep (rL rS) (.slice a0 r8.length a2) r8]) (S.fix [0,1,2] [0] (by decide) d d d) ?_
  clear hl h
  intro aR a w c0 hI h cq
  unfold raddleref26_Parse_l1 at h
  dsimp only at h hI
  have S:=hI
  refine sSeq (fun dA cr=>?_)
  obtain ⟨d9,h,da⟩:=bS h
  refine sCut (fun a w=>∃ ct,ct=d9∧St [] E [] w0 155 a w [(0,.string p0),(2,.pointer (some ⟨b2,0,none⟩)),(4,.slice a0 r8.length a2),(7,.pointer (some ⟨ak,0,none⟩)),(8,iv ao),(9,iv aR),(80,.bool ct)] [eBox b2 42 [iv 0,.slice none 0 0],eBox ak 42 [iv a6.1,.slice a9 aj.length aa],eRow r_api_Row 87 (.slice a9 aj.length aa) aj] [fRep (rL rS) (.slice a0 r8.length a2) r8]) ?_ (fun a w hI=>?_)
  rotate_left
  ·obtain ⟨ct,rfl,S⟩:=hI
   have h:=da
   try dsimp only at h
   rcases iS h with ⟨b1,h⟩ | ⟨b1,h⟩
   rotate_left
   ·refine sCondF S d b1 ?_
    obtain rfl:=tS h
    obtain rfl:=cq _ d
    have h:=d8
    try dsimp only at h
    exact wp_exit (xThen (xThen (xHit (leafT (⟨aR,Option.some.inj h,S.fix [0,1,2] [0] (by decide) d d d⟩)))))
   refine sCondT S d b1 (wp_skip (leafT (cr _ _ ?_)))
   refine wp_block ?_
   refine sRegion (sM S fun a S=>?_)
   refine sBin _ S (wN d) d d d (bAdd _ _ _ _ aR 1) d (lb d) fun a S=>sN S fun a S=>?_
   exact leafL (leafB (leafT (⟨w64 (aR + 1),(Option.some.inj h).symm,(S.fix [0,1,2] [0] (by decide) d d d)⟩)))
  refine sRegion (sM S fun a S=>?_)
  refine sM S fun a S=>?_
  refine sM S fun a S=>?_
  obtain ⟨aH,bq,h⟩:=bS h
  obtain ⟨cJ,cu,S⟩:=pIdx (P:=Try.prog) (r:=rS) (v:=.slice a0 r8.length a2) (xs:=r8) (j:=ao) 142 9 0 S Try.underlying142 d d bq
  refine sIdxV S (wN d) d d d cu d (lb d) fun a S=>?_
  obtain ⟨cK,S⟩:=pLoad (r:=rS) (q:=cJ) (x:=aH) 0 S d
  obtain rfl:cK=.string aH:=S.mem.know (i:=1) (e:=fRep rS (cK) aH) d
  refine sLoadV1 (vq:=cJ) 0 (.string aH) S (wN d) d d d d d (lb d) fun a S=>sLenS (v:=aH) S (wN d) d Try.underlying9 d d (lb d) fun a S=>sBin _ S (wN d) d d d (bLt _ _ _ _ .i64 aR (aH.size:Int)) d (lb d) fun a S=>sM S fun a S=>?_
  rcases iS h with ⟨am,h⟩ | ⟨am,h⟩
  rotate_left
  ·refine sSkN 7 7 true 72 S d d am d fun a S=>sPickF (.bool false) S (wN d) d d am d d (lb d) fun a S=>?_
   exact lT (⟨false,Option.some.inj h,S.fix [0,1,2] [3] (by decide) d d d⟩)
  refine sMove (.slice a0 r8.length a2) S (wG 7 true 72 d d d am) (.inl d) d d (lb d) fun a S=>sMove (iv ao) S (wG 7 true 72 d d d am) (.inl d) d d (lb d) fun a S=>?_
  obtain ⟨cL,cv,S⟩:=pIdx (P:=Try.prog) (r:=rS) (v:=.slice a0 r8.length a2) (xs:=r8) (j:=ao) 142 9 3 S Try.underlying142 d d bq
  refine sIdxV S (wG 7 true 72 d d d am) d d d cv d (lb d) fun a S=>?_
  obtain ⟨cM,S⟩:=pLoad (r:=rS) (q:=cL) (x:=aH) 0 S d
  obtain rfl:cM=.string aH:=S.mem.know (i:=1) (e:=fRep rS (cM) aH) d
  refine sLoadV1 (vq:=cL) 0 (.string aH) S (wG 7 true 72 d d d am) d d d d d (lb d) fun a S=>sMove (iv aR) S (wG 7 true 72 d d d am) (.inl d) d d (lb d) fun a S=>?_
  obtain ⟨cw,cx,h⟩:=bS h
  refine sIndexS (v:=aH) (j:=aR) (k:=.i64) S (wG 7 true 72 d d d am) d Try.underlying9 d d cx d (lb d) fun a S=>sBin _ S (wG 7 true 72 d d d am) d d d (bNe _ _ _ _ .u8 cw 32) d (lb d) fun a S=>sPickT (.bool (cw != 32)) S (wN d) d d am d d (lb d) fun a S=>?_
  exact lT (⟨cw != 32,Option.some.inj h,S.fix [0,1,2] [6] (by decide) d d d⟩)
 obtain ⟨ax,rfl,S⟩:=hI
 have h:=d7
 try dsimp only at h
 refine sSeq (fun dB cy=>?_)
 obtain ⟨db,h,cz⟩:=bS h
 refine sCut (fun a w=>∃ cA,cA=db∧St [] E [] w0 155 a w [(0,.string p0),(2,.pointer (some ⟨b2,0,none⟩)),(4,.slice a0 r8.length a2),(7,.pointer (some ⟨ak,0,none⟩)),(8,iv ao),(9,iv ax),(98,.bool cA)] [eBox b2 42 [iv 0,.slice none 0 0],eBox ak 42 [iv a6.1,.slice a9 aj.length aa],eRow r_api_Row 87 (.slice a9 aj.length aa) aj] [fRep (rL rS) (.slice a0 r8.length a2) r8]) ?_ (fun a w hI=>?_)
 ·refine sRegion (sM S fun a S=>?_)
  refine sM S fun a S=>?_
  obtain ⟨ap,aS,h⟩:=bS h
  obtain ⟨br,bt,S⟩:=pIdx (P:=Try.prog) (r:=rS) (v:=.slice a0 r8.length a2) (xs:=r8) (j:=ao) 142 9 0 S Try.underlying142 d d aS
  refine sIdxV S (wN d) d d d bt d (lb d) fun a S=>?_
  obtain ⟨bu,S⟩:=pLoad (r:=rS) (q:=br) (x:=ap) 0 S d
  obtain rfl:bu=.string ap:=S.mem.know (i:=1) (e:=fRep rS (bu) ap) d
  refine sLoadV1 (vq:=br) 0 (.string ap) S (wN d) d d d d d (lb d) fun a S=>sM S fun a S=>?_
  obtain ⟨az,aT,h⟩:=bS h
  refine sSliceS (v:=ap) (u:=az) (vlo:=none) (vhi:=(some (.int .i64 ax))) (lo':=0) (hi':=ax) S (wN d) d Try.underlying9 d d d (.inr ⟨d,d⟩) (.inl d) aT d (lb d) fun a S=>sBin _ S (wN d) d d d (bNeS _ _ _ _ az (⟨#[102,114,111,110,116]⟩:ByteArray)) d (lb d) fun a S=>sM S fun a S=>?_
  rcases iS h with ⟨ac,h⟩ | ⟨ac,h⟩
  rotate_left
  ·refine sSkN 7 7 true 90 S d d ac d fun a S=>sPickF (.bool false) S (wN d) d d ac d d (lb d) fun a S=>?_
   exact lT (⟨false,Option.some.inj h,S.fix [0,1,2] [3] (by decide) d d d⟩)
  refine sMove (.slice a0 r8.length a2) S (wG 7 true 90 d d d ac) (.inl d) d d (lb d) fun a S=>sMove (iv ao) S (wG 7 true 90 d d d ac) (.inl d) d d (lb d) fun a S=>?_
  obtain ⟨bv,bw,S⟩:=pIdx (P:=Try.prog) (r:=rS) (v:=.slice a0 r8.length a2) (xs:=r8) (j:=ao) 142 9 3 S Try.underlying142 d d aS
  refine sIdxV S (wG 7 true 90 d d d ac) d d d bw d (lb d) fun a S=>?_
  obtain ⟨bx,S⟩:=pLoad (r:=rS) (q:=bv) (x:=ap) 0 S d
  obtain rfl:bx=.string ap:=S.mem.know (i:=1) (e:=fRep rS (bx) ap) d
  refine sLoadV1 (vq:=bv) 0 (.string ap) S (wG 7 true 90 d d d ac) d d d d d (lb d) fun a S=>sMove (iv ax) S (wG 7 true 90 d d d ac) (.inl d) d d (lb d) fun a S=>sSliceS (v:=ap) (u:=az) (vlo:=none) (vhi:=(some (.int .i64 ax))) (lo':=0) (hi':=ax) S (wG 7 true 90 d d d ac) d Try.underlying9 d d d (.inr ⟨d,d⟩) (.inl d) aT d (lb d) fun a S=>sBin _ S (wG 7 true 90 d d d ac) d d d (bNeS _ _ _ _ az (⟨#[98,97,99,107]⟩:ByteArray)) d (lb d) fun a S=>sPickT (.bool (az != (⟨#[98,97,99,107]⟩:ByteArray))) S (wN d) d d ac d d (lb d) fun a S=>?_
  exact lT (⟨az != (⟨#[98,97,99,107]⟩:ByteArray),Option.some.inj h,S.fix [0,1,2] [6] (by decide) d d d⟩)
 obtain ⟨cA,rfl,S⟩:=hI
 have h:=cz
 try dsimp only at h
 rcases iS h with ⟨aI,h⟩ | ⟨aI,h⟩
 ·refine sCondT S d aI (sSeq (fun dc bz=>sRegion (sBuild [] [iv 0,.slice none 0 0] S (wN d) d d d d (lb d) fun a S=>sStore (p:=b2) (off:=0) (T:=42) (vs:=[iv 0,.slice none 0 0]) (v:=.agg #[iv 0,.slice none 0 0]) 0 [iv 0,.slice none 0 0] S (wN d) d d d d d d d (by simp) d fun a w S=>sN S fun a S=>?_)))
  refine lT (bz _ _ ?_)
  obtain rfl:=tS h
  have h:=co
  try dsimp only at h
  obtain rfl:=tS h
  obtain rfl:=aZ _ d
  have h:=cl
  try dsimp only at h
  obtain rfl:=tS h
  have h:=cg
  try dsimp only at h
  obtain rfl:=tS h
  have S:=S.learn (fRep (rL r_api_Row) (.slice none 0 0) ([]:(List api_Row))) (rL_nil _ _ _)
  have S:=S.learn (fRep r_api_Chart (.agg #[iv 0,.slice none 0 0]) (api_Chart.mk 0 ([]:(List api_Row)))) ⟨_,d,S.mem.know (i:=0) (e:=fRep (rL r_api_Row) (.slice none 0 0) ([]:(List api_Row))) d⟩
  exact wp_ret (rThen (rBlock (rThen (rThen (rBlock (rThen (sRet (.tuple #[.agg #[iv 0,.slice none 0 0],iv 12]) S (rsl2 d (rvN (c:=2) (t:=42) (T:=42) (p:=b2) 0 [iv 0,.slice none 0 0] S d d d d) (rvT (t:=3) (v:=iv 12) S d)) ⟨(.agg #[iv 0,.slice none 0 0]),d,S.mem.sel [] [0] (by decide) d d⟩)))))))
 refine sCondF S d aI (wp_skip (leafT (cy _ _ ?_)))
 refine sSeq (fun de bA=>sRegion (sM S fun a S=>?_))
 refine sM S fun a S=>?_
 obtain ⟨ae,aJ,h⟩:=bS h
 obtain ⟨bB,bC,S⟩:=pIdx (P:=Try.prog) (r:=rS) (v:=.slice a0 r8.length a2) (xs:=r8) (j:=ao) 142 9 0 S Try.underlying142 d d aJ
 refine sIdxV S (wN d) d d d bC d (lb d) fun a S=>?_
 obtain ⟨bD,S⟩:=pLoad (r:=rS) (q:=bB) (x:=ae) 0 S d
 obtain rfl:bD=.string ae:=S.mem.know (i:=1) (e:=fRep rS (bD) ae) d
 refine sLoadV1 (vq:=bB) 0 (.string ae) S (wN d) d d d d d (lb d) fun a S=>sM S fun a S=>?_
 obtain ⟨a8,bE,h⟩:=bS h
 refine sSliceS (v:=ae) (u:=a8) (vlo:=none) (vhi:=(some (.int .i64 ax))) (lo':=0) (hi':=ax) S (wN d) d Try.underlying9 d d d (.inr ⟨d,d⟩) (.inl d) bE d (lb d) fun a S=>sBin _ S (wN d) d d d (bEqS _ _ _ _ a8 (⟨#[98,97,99,107]⟩:ByteArray)) d (lb d) fun a S=>sBuild [(0,.bool (a8 == (⟨#[98,97,99,107]⟩:ByteArray)))] [.bool (a8 == (⟨#[98,97,99,107]⟩:ByteArray)),.slice none 0 0] S (wN d) d d d d (lb d) fun a S=>sAlloc (.agg #[.bool false,.slice none 0 0]) S (wN d) d d [.bool false,.slice none 0 0] d d (lb d) fun a ay w S=>sStore (p:=ay) (off:=0) (T:=87) (vs:=[.bool false,.slice none 0 0]) (v:=.agg #[.bool (a8 == (⟨#[98,97,99,107]⟩:ByteArray)),.slice none 0 0]) 0 [.bool (a8 == (⟨#[98,97,99,107]⟩:ByteArray)),.slice none 0 0] S (wN d) d d d d d d d (by simp) d fun a w S=>lT (bA _ _ ?_)
 obtain ⟨cB,h,bF⟩:=bS h
 refine sCut (fun a w=>∃ ab,.inl ab=cB∧∃ af,∃ ag,St [] E [] w0 155 a w [(0,.string p0),(2,.pointer (some ⟨b2,0,none⟩)),(4,.slice a0 r8.length a2),(7,.pointer (some ⟨ak,0,none⟩)),(8,iv ao),(10,.pointer (some ⟨ay,0,none⟩))] [eBox b2 42 [iv 0,.slice none 0 0],eBox ak 42 [iv a6.1,.slice a9 aj.length aa],eBox ay 87 [.bool (a8 == (⟨#[98,97,99,107]⟩:ByteArray)),.slice af ab.length ag],eRow r_api_Row 87 (.slice a9 aj.length aa) aj] [fRep (rL rS) (.slice a0 r8.length a2) r8,fRep (rL r_api_Stitch) (.slice af ab.length ag) ab]) ?_ (fun a w hI=>?_)
 rotate_left
 ·obtain ⟨ab,rfl,af,ag,S⟩:=hI
  have h:=bF
  try dsimp only at h
  refine sRegion (sField (b:=ak) (off:=0) 1 1 S (wN d) d d d d d (lb d) fun a S=>sLoad1 1 (.slice a9 aj.length aa) S (wN d) d d d d d d (lb d) fun a S=>sLoadN (p:=ay) (off:=0) (T:=87) (vs:=[.bool (a8 == (⟨#[98,97,99,107]⟩:ByteArray)),.slice af ab.length ag]) 2 [.bool (a8 == (⟨#[98,97,99,107]⟩:ByteArray)),.slice af ab.length ag] S (wN d) d d d d d d d (lb d) fun a S=>?_)
  have S:=S.learn (fRep r_api_Row (.agg #[.bool (a8 == (⟨#[98,97,99,107]⟩:ByteArray)),.slice af ab.length ag]) (api_Row.mk (a8 == (⟨#[98,97,99,107]⟩:ByteArray)) ab)) ⟨_,d,S.mem.know (i:=1) (e:=fRep (rL r_api_Stitch) (.slice af ab.length ag) ab) d⟩
  refine sLit (r:=r_api_Row) (T:=87) (xs:=[(api_Row.mk (a8 == (⟨#[98,97,99,107]⟩:ByteArray)) ab)]) [(0,.agg #[.bool (a8 == (⟨#[98,97,99,107]⟩:ByteArray)),.slice af ab.length ag])] 1 [.agg #[.bool (a8 == (⟨#[98,97,99,107]⟩:ByteArray)),.slice af ab.length ag]] [.bool (a8 == (⟨#[98,97,99,107]⟩:ByteArray)),.slice af ab.length ag] (.agg #[.bool false,.slice none 0 0]) 32 S (wN d) d d Try.underlying40 d (by decide) (by decide) (by kernel_rfl) d (fun E1 w1 hE=>All.cons (r_api_Row.mono hE (S.mem.know (i:=0) (e:=fRep r_api_Row (.agg #[.bool (a8 == (⟨#[98,97,99,107]⟩:ByteArray)),.slice af ab.length ag]) (api_Row.mk (a8 == (⟨#[98,97,99,107]⟩:ByteArray)) ab)) d)) (All.nil _ _ _)) d d (lb d) fun a w bG bH S=>?_
  obtain ⟨ba,bI,h⟩:=bS h
  refine sApp (r:=r_api_Row) (T:=87) (xs:=aj) (ys:=[(api_Row.mk (a8 == (⟨#[98,97,99,107]⟩:ByteArray)) ab)]) (v:=.slice a9 aj.length aa) (u:=.slice bG [(api_Row.mk (a8 == (⟨#[98,97,99,107]⟩:ByteArray)) ab)].length bH) 4 (.agg #[.bool false,.slice none 0 0]) 32 S (wN d) d Try.underlying40 d d (by decide) d d d (src_R (T:=87) 0 S.mem d) bI d (lb d) fun a w aK aL S=>sField (b:=ak) (off:=0) 1 1 S (wN d) d d d d d (lb d) fun a S=>sStore (p:=ak) (off:=1) (T:=42) (vs:=[iv a6.1,.slice a9 aj.length aa]) (v:=.slice aK ba.length aL) 3 [.slice aK ba.length aL] S (wN d) d d d d d d d (by simp) d fun a w S=>?_
  exact leafL (leafB (leafT (⟨ba,Option.some.inj h,aK,aL,S.fix [3,0,1] [1] (by decide) d d d⟩)))
 refine sSeq (fun df bJ=>sRegion (sM S fun a S=>?_))
 refine sM S fun a S=>?_
 refine sM S fun a S=>?_
 obtain ⟨bK,bL,S⟩:=pIdx (P:=Try.prog) (r:=rS) (v:=.slice a0 r8.length a2) (xs:=r8) (j:=ao) 142 9 3 S Try.underlying142 d d aJ
 refine sIdxV S (wN d) d d d bL d (lb d) fun a S=>?_
 obtain ⟨bM,S⟩:=pLoad (r:=rS) (q:=bK) (x:=ae) 0 S d
 obtain rfl:bM=.string ae:=S.mem.know (i:=1) (e:=fRep rS (bM) ae) d
 refine sLoadV1 (vq:=bK) 0 (.string ae) S (wN d) d d d d d (lb d) fun a S=>sLenS (v:=ae) S (wN d) d Try.underlying9 d d (lb d) fun a S=>sBin _ S (wN d) d d d (bLt _ _ _ _ .i64 ax (ae.size:Int)) d (lb d) fun a S=>lT (bJ _ _ ?_)
 rcases iS h with ⟨aM,h⟩ | ⟨aM,h⟩
 rotate_left
 ·refine sCondF S d aM ?_
  have S:=S.learn (fRep (rL r_api_Stitch) (.slice none 0 0) ([]:(List api_Stitch))) (rL_nil _ _ _)
  exact wp_skip (leafT (⟨([]:List api_Stitch),Option.some.inj h,none,0,S.fix [1,2,0,3] [7,0] (by decide) d d d⟩))
 refine sCondT S d aM (sSeq (fun dg bN=>sRegion (sM S fun a S=>?_)))
 refine sM S fun a S=>?_
 obtain ⟨bO,bP,S⟩:=pIdx (P:=Try.prog) (r:=rS) (v:=.slice a0 r8.length a2) (xs:=r8) (j:=ao) 142 9 6 S Try.underlying142 d d aJ
 refine sIdxV S (wN d) d d d bP d (lb d) fun a S=>?_
 obtain ⟨bQ,S⟩:=pLoad (r:=rS) (q:=bO) (x:=ae) 0 S d
 obtain rfl:bQ=.string ae:=S.mem.know (i:=1) (e:=fRep rS (bQ) ae) d
 refine sLoadV1 (vq:=bO) 0 (.string ae) S (wN d) d d d d d (lb d) fun a S=>sM S fun a S=>?_
 refine sBin _ S (wN d) d d d (bAdd _ _ _ _ ax 1) d (lb d) fun a S=>?_
 obtain ⟨bb,bR,h⟩:=bS h
 refine sSliceS (v:=ae) (u:=bb) (vlo:=(some (.int .i64 (w64 (ax + 1))))) (vhi:=none) (lo':=w64 (ax + 1)) (hi':=(ae.size:Int)) S (wN d) d Try.underlying9 d d d (.inl d) (.inr ⟨d,d⟩) bR d (lb d) fun a S=>?_
 obtain ⟨ai,bT,h⟩:=bS h
 refine sCall (X:=Value) (f:=78) (vs:=[.string bb]) (val:=c_raddleref25_Parse_val ai) (B':=fun _=>[]) (D':=c_raddleref25_Parse_D ai) [] [eBox ay 87 [.bool (a8 == (⟨#[98,97,99,107]⟩:ByteArray)),.slice none 0 0],eBox b2 42 [iv 0,.slice none 0 0],eBox ak 42 [iv a6.1,.slice a9 aj.length aa],eRow r_api_Row 87 (.slice a9 aj.length aa) aj] [] [0,1,2,3] [] S (wN d) d callee78 d (by decide) d d (fun E1 w1 S1=>c_raddleref25_Parse E1 w1 bb ai bT S1) d (lb d) fun cC a w S=>?_
 obtain ⟨aq,ar,_,rfl,_⟩:=S.mem.know (i:=0) (e:=fRep (rL r_api_Stitch) (cC) ai.1) d
 refine sM S fun a S=>?_
 refine sExtract (vs:=[.slice aq ai.1.length ar,iv ai.2]) (.slice aq ai.1.length ar) S (wN d) d d d d (lb d) fun a S=>sExtract (vs:=[.slice aq ai.1.length ar,iv ai.2]) (iv ai.2) S (wN d) d d d d (lb d) fun a S=>sN S fun a S=>?_
 refine sN S fun a S=>?_
 refine lT (bN _ _ (sSeq (fun dh bU=>sSeq (fun di bV=>sRegion (sM S fun a S=>?_)))))
 refine sBin _ S (wN d) d d d (bNe _ _ _ _ .i64 ai.2 0) d (lb d) fun a S=>lT (bV _ _ ?_)
 rcases iS h with ⟨aO,h⟩ | ⟨aO,h⟩
 rotate_left
 ·refine sCondF S d aO (wp_skip (leafT (bU _ _ ?_)))
  refine sRegion (sM S fun a S=>?_)
  refine sField (b:=ay) (off:=0) 1 1 S (wN d) d d d d d (lb d) fun a S=>sStore (p:=ay) (off:=1) (T:=87) (vs:=[.bool (a8 == (⟨#[98,97,99,107]⟩:ByteArray)),.slice none 0 0]) (v:=.slice aq ai.1.length ar) 0 [.slice aq ai.1.length ar] S (wN d) d d d d d d d (by simp) d fun a w S=>?_
  exact lT (⟨ai.1,Option.some.inj h,aq,ar,S.fix [1,2,0,3] [10,0] (by decide) d d d⟩)
 refine sCondT S d aO (sSeq (fun dj bW=>sRegion (sBuild [] [iv 0,.slice none 0 0] S (wN d) d d d d (lb d) fun a S=>sStore (p:=b2) (off:=0) (T:=42) (vs:=[iv 0,.slice none 0 0]) (v:=.agg #[iv 0,.slice none 0 0]) 1 [iv 0,.slice none 0 0] S (wN d) d d d d d d d (by simp) d fun a w S=>sN S fun a S=>?_)))
 refine lT (bW _ _ ?_)
 obtain rfl:=tS h
 have h:=bF
 try dsimp only at h
 obtain rfl:=tS h
 have h:=co
 try dsimp only at h
 obtain rfl:=tS h
 obtain rfl:=aZ _ d
 have h:=cl
 try dsimp only at h
 obtain rfl:=tS h
 have h:=cg
 try dsimp only at h
 obtain rfl:=tS h
 have S:=S.learn (fRep (rL r_api_Row) (.slice none 0 0) ([]:(List api_Row))) (rL_nil _ _ _)
 have S:=S.learn (fRep r_api_Chart (.agg #[iv 0,.slice none 0 0]) (api_Chart.mk 0 ([]:(List api_Row)))) ⟨_,d,S.mem.know (i:=0) (e:=fRep (rL r_api_Row) (.slice none 0 0) ([]:(List api_Row))) d⟩
 exact wp_ret (rThen (rThen (rBlock (rThen (rThen (rBlock (rThen (sRet (.tuple #[.agg #[iv 0,.slice none 0 0],iv 12]) S (rsl2 d (rvN (c:=2) (t:=42) (T:=42) (p:=b2) 0 [iv 0,.slice none 0 0] S d d d d) (rvT (t:=3) (v:=iv 12) S d)) ⟨(.agg #[iv 0,.slice none 0 0]),d,S.mem.sel [] [0] (by decide) d d⟩))))))))
noncomputable def F_raddlelaw46_knit (p0:ByteArray):Option api_Chart:=
 (F_raddleref26_Parse p0).bind fun r4=>
 some r4.1
def c_raddlelaw46_knit_val (r:api_Chart) (x:Value):Value:=x
def c_raddlelaw46_knit_D (r:api_Chart) (x:Value):List Fact:=[fRep r_api_Chart x r]
theorem c_raddlelaw46_knit (E:Nat→Prop) (w0:World) (p0:ByteArray) (r:api_Chart) (h:F_raddlelaw46_knit p0=some r) (S:St0 E [] w0 w0 [] []) :
 Calls Try.prog 43 #[.string p0] w0 (Ret (X:=Value) E [] w0 (c_raddlelaw46_knit_val r) (fun _=>[]) (c_raddlelaw46_knit_D r)):=by
 unfold F_raddlelaw46_knit at h
 refine sEnter (args:=[.string p0]) 11 Try.func43 d d (by simp) S (fun a S=>?_)
 refine sSeq (fun K1 a7=>sRegion (sAlloc (.agg #[iv 0,.slice none 0 0]) S (wN d) d d [iv 0,.slice none 0 0] d d (lb d) fun a b2 w S=>lT (a7 _ _ (sSeq (fun K3 a8=>sRegion (sM S fun a S=>?_))))))
 obtain ⟨r4,a9,h⟩:=bS h
 refine sCall (X:=Value) (f:=79) (vs:=[.string p0]) (val:=c_raddleref26_Parse_val r4) (B':=fun _=>[]) (D':=c_raddleref26_Parse_D r4) [] [eBox b2 42 [iv 0,.slice none 0 0]] [] [0] [] S (wN d) d callee79 d (by decide) d d (fun E1 w1 S1=>c_raddleref26_Parse E1 w1 p0 r4 a9 S1) d (lb d) fun u6 a w S=>?_
 obtain ⟨u7,rfl,a5⟩:=S.mem.know (i:=0) (e:=fRep r_api_Chart (u6) r4.1) d
 have S:=S.learn (fRep (rL r_api_Row) u7 r4.1.Rows) a5
 obtain ⟨a2,a0,_,rfl,_⟩:=a5
 refine sM S fun a S=>?_
 refine sExtract (vs:=[.agg #[iv r4.1.Start,.slice a2 r4.1.Rows.length a0],iv r4.2]) (.agg #[iv r4.1.Start,.slice a2 r4.1.Rows.length a0]) S (wN d) d d d d (lb d) fun a S=>sExtract (vs:=[.agg #[iv r4.1.Start,.slice a2 r4.1.Rows.length a0],iv r4.2]) (iv r4.2) S (wN d) d d d d (lb d) fun a S=>sAlloc (.agg #[iv 0,.slice none 0 0]) S (wN d) d d [iv 0,.slice none 0 0] d d (lb d) fun a a6 w S=>sStore (p:=a6) (off:=0) (T:=42) (vs:=[iv 0,.slice none 0 0]) (v:=.agg #[iv r4.1.Start,.slice a2 r4.1.Rows.length a0]) 0 [iv r4.1.Start,.slice a2 r4.1.Rows.length a0] S (wN d) d d d d d d d (by simp) d fun a w S=>sN S fun a S=>?_
 refine lT (a8 _ _ (sSeq (fun aa a4=>sRegion (sLoadN (p:=a6) (off:=0) (T:=42) (vs:=[iv r4.1.Start,.slice a2 r4.1.Rows.length a0]) 0 [iv r4.1.Start,.slice a2 r4.1.Rows.length a0] S (wN d) d d d d d d d (lb d) fun a S=>sStore (p:=b2) (off:=0) (T:=42) (vs:=[iv 0,.slice none 0 0]) (v:=.agg #[iv r4.1.Start,.slice a2 r4.1.Rows.length a0]) 1 [iv r4.1.Start,.slice a2 r4.1.Rows.length a0] S (wN d) d d d d d d d (by simp) d fun a w S=>lT (a4 _ _ ?_)))))
 obtain rfl:=tS h
 exact wp_ret (sRet (.agg #[iv r4.1.Start,.slice a2 r4.1.Rows.length a0]) S (rsl1 d (rvN (c:=2) (t:=42) (T:=42) (p:=b2) 0 [iv r4.1.Start,.slice a2 r4.1.Rows.length a0] S d d d d)) ⟨(.agg #[iv r4.1.Start,.slice a2 r4.1.Rows.length a0]),d,S.mem.sel [] [1] (by decide) d d⟩)
end Go.Proofs.Ytffikfajljbmnaa
