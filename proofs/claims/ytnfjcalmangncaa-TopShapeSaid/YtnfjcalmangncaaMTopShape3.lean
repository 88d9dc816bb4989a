/- TopShape: walks, tables, laws. -/
import Derived.Test.YtnfjcalmangncaaProg
import Derived.Test.YtnfjcalmangncaaRows
import Derived.Test.YtnfjcalmangncaaMTopShape2
set_option linter.unusedVariables false
set_option linter.unusedSimpArgs false
set_option maxHeartbeats 4000000
set_option maxRecDepth 100000
namespace Go.Proofs.Ytnfjcalmangncaa
open Go.RowKit
noncomputable def F_slope_Line (p0:Int) (p1:Int) (p2:Int):Option ((List Int) × Int):=
 (F_slope_check p0 p1 p2).bind fun r7=>
 if r7 != 0 then
  some (([]:(List Int)),r7)
 else
  (F_slope_list_int__s0 (w64 (p2 + 1)) p0 p1 p2).bind fun a9=>
  some (a9,0)
def c_slope_Line_val (r:((List Int) × Int)) (x:Value):Value:=.tuple #[x,.int .i64 r.2]
def c_slope_Line_D (r:((List Int) × Int)) (x:Value):List Fact:=[fRep (rL (rI .i64)) x r.1]
theorem c_slope_Line (E:Nat→Prop) (w0:World) (p0:Int) (p1:Int) (p2:Int) (r:((List Int) × Int)) (h:F_slope_Line p0 p1 p2=some r) (S:St0 E [] w0 w0 [] []) :
 Calls Try.prog 24 #[iv p0,iv p1,iv p2] w0 (Ret (X:=Value) E [] w0 (c_slope_Line_val r) (fun _=>[]) (c_slope_Line_D r)):=by
 unfold F_slope_Line at h
 refine sEnter (args:=[iv p0,iv p1,iv p2]) 20 Try.func24 d d (by simp) S (fun a S=>?_)
 refine sSeq (fun K1 ah=>sRegion (sBox (v:=iv p0) S (wN d) d d [iv p0] d d (lb d) fun a b2 w S=>sBox (v:=iv p1) S (wN d) d d [iv p1] d d (lb d) fun a b3 w S=>sBox (v:=iv p2) S (wN d) d d [iv p2] d d (lb d) fun a b4 w S=>sN S fun a S=>?_))
 refine sN S fun a S=>?_
 refine lT (ah _ _ (sSeq (fun K5 ai=>sSeq (fun K6 aj=>sRegion (sLoad1 2 (iv p0) S (wN d) d d d d d d (lb d) fun a S=>sLoad1 1 (iv p1) S (wN d) d d d d d d (lb d) fun a S=>sLoad1 0 (iv p2) S (wN d) d d d d d d (lb d) fun a S=>?_)))))
 obtain ⟨r7,ak,h⟩:=bS h
 have S1:=S.mem
 refine sCq [iv p0,iv p1,iv p2] (iv r7) S callee49 (S1.quiet [] d) (fun E1 w1 S1=>c_slope_check E1 w1 p0 p1 p2 r7 ak S1) fun a w S=>?_
 refine sN S fun a S=>?_
 refine lT (aj _ _ (sSeq (fun K9 al=>sRegion (sM S fun a S=>?_))))
 refine sBin _ S (wN d) d d d (bNe _ _ _ _ .i64 r7 0) d (lb d) fun a S=>lT (al _ _ ?_)
 rcases iS h with ⟨a9,h⟩ | ⟨a9,h⟩
 ·refine sCondT S d a9 (sSeq (fun ao ae=>sRegion (sM S fun a S=>?_)))
  refine sN S fun a S=>?_
  refine sN S fun a S=>?_
  refine lT (ae _ _ ?_)
  obtain rfl:=tS h
  have S:=S.learn (fRep (rL (rI .i64)) (.slice none 0 0) ([]:(List Int))) (rL_nil _ _ _)
  exact wp_ret (rThen (sRet (.tuple #[.slice none 0 0,iv r7]) S (rsl2 d (rvT (t:=6) (v:=.slice none 0 0) S d) (rvT (t:=7) (v:=iv r7) S d)) ⟨(.slice none 0 0),d,S.mem.sel [] [0] (by decide) d d⟩))
 refine sCondF S d a9 (wp_skip (leafT (ai _ _ ?_)))
 refine sSeq (fun ap af=>sRegion (sLoad1 0 (iv p2) S (wN d) d d d d d d (lb d) fun a S=>sBin _ S (wN d) d d d (bAdd _ _ _ _ p2 1) d (lb d) fun a S=>sFunc (g:=51) (vs:=[.pointer (some ⟨b2,0,none⟩),.pointer (some ⟨b3,0,none⟩),.pointer (some ⟨b4,0,none⟩)]) S (wN d) d d d (lb d) fun a S=>?_))
 obtain ⟨aa,ag,h⟩:=bS h
 have S:=S.shutB (r:=(rI .i64)) (T:=3) (b:=b2) (cs:=[iv p0]) 2 (iv p0) p0 d d (d)
 have S:=S.shutB (r:=(rI .i64)) (T:=3) (b:=b3) (cs:=[iv p1]) 1 (iv p1) p1 d d (d)
 have S:=S.shutB (r:=(rI .i64)) (T:=3) (b:=b4) (cs:=[iv p2]) 0 (iv p2) p2 d d (d)
 refine sCall (X:=Value) (f:=50) (vs:=[iv (w64 (p2 + 1)),.func (.func 51) #[] #[.pointer (some ⟨b2,0,none⟩),.pointer (some ⟨b3,0,none⟩),.pointer (some ⟨b4,0,none⟩)]]) (val:=c_slope_list_int__s0_val aa) (B':=fun _=>[]) (D':=c_slope_list_int__s0_D aa) [] [] [fPtr (rI .i64) (.pointer (some ⟨b2,0,none⟩)) p0,fPtr (rI .i64) (.pointer (some ⟨b3,0,none⟩)) p1,fPtr (rI .i64) (.pointer (some ⟨b4,0,none⟩)) p2] [] [2,1,0] S (wN d) d callee50 d (by decide) d d (fun E1 w1 S1=>c_slope_list_int__s0 E1 w1 (w64 (p2 + 1)) p0 (.pointer (some ⟨b2,0,none⟩)) p1 (.pointer (some ⟨b3,0,none⟩)) p2 (.pointer (some ⟨b4,0,none⟩)) aa ag S1) d (lb d) fun am a w S=>?_
 obtain ⟨ab,ac,_,rfl,_⟩:=S.mem.know (i:=0) (e:=fRep (rL (rI .i64)) (am) aa) d
 refine sN S fun a S=>?_
 refine sN S fun a S=>?_
 refine lT (af _ _ ?_)
 obtain rfl:=tS h
 exact wp_ret (sRet (.tuple #[.slice ab aa.length ac,iv 0]) S (rsl2 d (rvT (t:=6) (v:=.slice ab aa.length ac) S d) (rvT (t:=7) (v:=iv 0) S d)) ⟨(.slice ab aa.length ac),d,S.mem.sel [] [0] (by decide) d d⟩)
def anc_slope_Steps_1_s0_0:List (List Nat):=[[],[],[1],[0,1,2],[0,1,2,3],[],[],[5,6],[5,6,7],[0,1,2,3,4,5,6,7,8],[0,1,2,3,4,5,6,7,8,9]]
noncomputable def F_slope_Steps_1_s0 (p0:Int) (p1:(List Int)):Option Int:=
 (idxO p1 (w64 (p0 + 1))).bind fun x6=>
 (idxO p1 p0).bind fun a9=>
 some (w64 (x6 - a9))
theorem c_slope_Steps_1_s0 (E:Nat→Prop) (w0:World) (p0:Int) (p1:(List Int)) (v1:Value) (r:Int) (h:F_slope_Steps_1_s0 p0 p1=some r) (S:St0 E [] w0 w0 [] [fPtr (rL (rI .i64)) (v1) p1]) :
 Calls Try.prog 54 #[iv p0,v1] w0 (Ret (X:=Unit) E [] w0 (fun _=>.int .i64 r) (fun _=>[]) (fun _=>[])):=by
 unfold F_slope_Steps_1_s0 at h
 refine sEnter (args:=[iv p0,v1]) 14 Try.func54 d d (by simp) S (fun a S=>?_)
 refine sSeq (fun K1 am=>sRegion (sN S fun a S=>?_))
 refine lT (am _ _ (sSeq (fun K2 ao=>?_)))
 obtain ⟨x6,ap,h⟩:=bS h
 obtain ⟨a9,af,h⟩:=bS h
 obtain ⟨aq,S⟩:=pLoad (r:=(rL (rI .i64))) (q:=v1) (x:=p1) 0 S d
 obtain ⟨aa,ab,_,rfl,_⟩:=S.mem.know (i:=1) (e:=fRep (rL (rI .i64)) (aq) p1) d
 obtain ⟨ag,ah,S⟩:=pIdx (P:=Try.prog) (r:=(rI .i64)) (v:=.slice aa p1.length ab) (xs:=p1) (j:=w64 (p0 + 1)) 34 3 1 S Try.underlying34 d d ap
 obtain ⟨ak,S⟩:=pLoad (r:=(rI .i64)) (q:=ag) (x:=x6) 0 S d
 obtain rfl:ak=iv x6:=S.mem.know (i:=1) (e:=fRep (rI .i64) (ak) x6) d
 obtain ⟨ar,S⟩:=pLoad (r:=(rL (rI .i64))) (q:=v1) (x:=p1) 5 S d
 obtain ⟨ac,ae,_,rfl,_⟩:=S.mem.know (i:=1) (e:=fRep (rL (rI .i64)) (ar) p1) d
 obtain ⟨ai,aj,S⟩:=pIdx (P:=Try.prog) (r:=(rI .i64)) (v:=.slice ac p1.length ae) (xs:=p1) (j:=p0) 34 3 1 S Try.underlying34 d d af
 obtain ⟨al,S⟩:=pLoad (r:=(rI .i64)) (q:=ai) (x:=a9) 0 S d
 obtain rfl:al=iv a9:=S.mem.know (i:=1) (e:=fRep (rI .i64) (al) a9) d
 refine sDraw (nf:=[]) (W:=[(0,4,.slice aa p1.length ab),(1,5,iv p0),(2,6,iv (w64 (p0 + 1))),(3,7,ag),(4,8,iv x6),(5,9,.slice ac p1.length ae),(6,10,iv p0),(7,11,ai),(8,12,iv a9),(9,13,iv (w64 (x6 - a9))),(10,3,iv (w64 (x6 - a9)))]) d S ?_
 refine node_by (A:=anc_slope_Steps_1_s0_0) 11 (by kernel_rfl) (by kernel_rfl) (by kernel_rfl) (by kernel_rfl) (by kernel_rfl) [0,1,2,3,4,5,6,7,8,9,10] (by kernel_rfl) (by decide) (by decide) (fF ?_ (fF ?_ (fF ?_ (fF ?_ (fF ?_ (fF ?_ (fF ?_ (fF ?_ (fF ?_ (fF ?_ (fF ?_ (trivial)))))))))))) [(3,iv (w64 (x6 - a9)))] (fin_of [some 10] d (by kernel_rfl) (by kernel_rfl)) (fun _ a w S=>?_)
 ·refine fJ [(1,_)] 0 [none] fun G a w S=>?_
  exact sLoadV1 (vq:=v1) 8 (.slice aa p1.length ab) S (wN d) d d d d d (lb d) fun a S=>leafL ⟨d,S⟩
 ·exact fM 1 none d d d d (.inl d) d d d
 ·refine fJ [(5,_)] 2 [some 1] fun G a w S=>?_
  exact sBin _ S (wN d) d d d (bAdd _ _ _ _ p0 1) d (lb d) fun a S=>leafL ⟨d,S⟩
 ·refine fJ [(4,_),(6,_)] 3 [some 0,some 2] fun G a w S=>?_
  exact sIdxV S (wN d) d d d ah d (lb d) fun a S=>leafL ⟨d,S⟩
 ·refine fJ [(7,_)] 4 [some 3] fun G a w S=>?_
  exact sLoadV1 (vq:=ag) 5 (iv x6) S (wN d) d d d d d (lb d) fun a S=>leafL ⟨d,S⟩
 ·refine fJ [(1,_)] 5 [none] fun G a w S=>?_
  exact sLoadV1 (vq:=v1) 3 (.slice ac p1.length ae) S (wN d) d d d d d (lb d) fun a S=>leafL ⟨d,S⟩
 ·exact fM 6 none d d d d (.inl d) d d d
 ·refine fJ [(9,_),(10,_)] 7 [some 5,some 6] fun G a w S=>?_
  exact sIdxV S (wN d) d d d aj d (lb d) fun a S=>leafL ⟨d,S⟩
 ·refine fJ [(11,_)] 8 [some 7] fun G a w S=>?_
  exact sLoadV1 (vq:=ai) 0 (iv a9) S (wN d) d d d d d (lb d) fun a S=>leafL ⟨d,S⟩
 ·refine fJ [(8,_),(12,_)] 9 [some 4,some 8] fun G a w S=>?_
  exact sBin _ S (wN d) d d d (bSub _ _ _ _ x6 a9) d (lb d) fun a S=>leafL ⟨d,S⟩
 ·exact fM 10 (some 9) d d d d (.inr d) d d d
 refine leafT (ao _ _ ?_)
 obtain rfl:=tS h
 exact wp_ret (sRet (iv (w64 (x6 - a9))) S (rsl1 d (rvT (t:=3) (v:=iv (w64 (x6 - a9))) S d)) ⟨(),d,S.mem.sel [] [] (by decide) d d⟩)
noncomputable def slope_list_int__s1_l1 (p0:Int) (p1:(List Int)):(List Int × Int)→Option ((List Int × Int) ⊕ List Int):=fun s0=>match s0 with
 | (aa,a9)=>
  if decide (a9 < p0) then
   (F_slope_Steps_1_s0 a9 p1).bind fun ab=>
   (idxO aa a9).bind fun ae=>
   (setO aa a9 ab).bind fun ac=>
   some (.inl (ac,w64 (a9 + 1)))
  else
   some (.inr aa)
noncomputable def F_slope_list_int__s1 (p0:Int) (p1:(List Int)):Option (List Int):=
 (makeO p0 (0:Int)).bind fun m5=>
 Option.bind (α:=List Int) (
  (whileO (slope_list_int__s1_l1 p0 p1) (m5,0)).bind fun a9=>
   some a9) fun o7=>
 some o7
def c_slope_list_int__s1_val (r:(List Int)) (x:Value):Value:=x
def c_slope_list_int__s1_D (r:(List Int)) (x:Value):List Fact:=[fRep (rL (rI .i64)) x r]
theorem c_slope_list_int__s1 (E:Nat→Prop) (w0:World) (p0:Int) (p1:(List Int)) (v1:Value) (r:(List Int)) (h:F_slope_list_int__s1 p0 p1=some r) (S:St0 E [] w0 w0 [] [fPtr (rL (rI .i64)) (v1) p1]) :
 Calls Try.prog 50 #[iv p0,.func (.func 54) #[] #[v1]] w0 (Ret (X:=Value) E [] w0 (c_slope_list_int__s1_val r) (fun _=>[]) (c_slope_list_int__s1_D r)):=by
 unfold F_slope_list_int__s1 at h
 refine sEnter (args:=[iv p0,.func (.func 54) #[] #[v1]]) 21 Try.func50 d d (by simp) S (fun a S=>?_)
 refine sSeq (fun K1 aw=>sRegion (sN S fun a S=>?_))
 refine lT (aw _ _ (sSeq (fun K2 ax=>sRegion (sM S fun a S=>?_))))
 obtain ⟨m5,ay,h⟩:=bS h
 refine sMake (r:=(rI .i64)) (m:=p0) (xs:=m5) (iv 0) (0:Int) 8 S (wN d) d Try.underlying34 d d (by decide) (fun _ _=>d) d d ay d (lb d) fun a w a9 aa S=>sN S fun a S=>?_
 refine lT (ax _ _ ?_)
 obtain ⟨t8,h,g9⟩:=bS h
 refine sCut (fun a w=>∃ o7,o7=t8∧St [] E [] w0 21 a w [(5,.slice a9 o7.length aa)] [eRow (rI .i64) 3 (.slice a9 o7.length aa) o7] []) ?_ (fun a w hI=>?_)
 rotate_left
 ·obtain ⟨o7,rfl,S⟩:=hI
  have h:=g9
  try dsimp only at h
  refine sSeq (fun aC ah=>sRegion (sM S fun a S=>?_))
  refine sN S fun a S=>?_
  refine lT (ah _ _ ?_)
  obtain rfl:=tS h
  have S:=S.shutR (r:=(rI .i64)) (T:=3) (v:=.slice a9 o7.length aa) (xs:=o7) 0 d
  exact wp_ret (sRet (.slice a9 o7.length aa) S (rsl1 d (rvT (t:=4) (v:=.slice a9 o7.length aa) S d)) ⟨(.slice a9 o7.length aa),d,S.mem.sel [] [0] (by decide) d d⟩)
 refine sSeq (fun aG ai=>sRegion (sM S fun a S=>?_))
 refine sM S fun a S=>?_
 refine lT (ai _ _ (wp_block ?_))
 obtain ⟨aH,hl,az⟩:=bS h
 refine sLoop hl (fun s0 a w=>match s0 with | (ab,ac)=>St [] E [] w0 21 a w [(1,.func (.func 54) #[] #[v1]),(5,.slice a9 ab.length aa),(9,iv p0),(10,iv ac)] [eRow (rI .i64) 3 (.slice a9 ab.length aa) ab] [fPtr (rL (rI .i64)) (v1) p1]) (S.fix [0] [0] (by decide) d d d) ?_
 clear hl h
 intro s0 a w c0 hI h aj
 obtain ⟨ab,ac⟩:=s0
 unfold slope_list_int__s1_l1 at h
 dsimp only at h hI
 have S:=hI
 refine sSeq (fun aI ak=>sRegion (sBin _ S (wN d) d d d (bLt _ _ _ _ .i64 ac p0) d (lb d) fun a S=>lT (ak _ _ (sSeq (fun aJ al=>?_)))))
 rcases iS h with ⟨ae,h⟩ | ⟨ae,h⟩
 rotate_left
 ·refine sCondF S d ae ?_
  obtain rfl:=tS h
  obtain rfl:=aj _ d
  have h:=az
  try dsimp only at h
  exact wp_exit (xThen (xThen (xHit (leafT (⟨ab,Option.some.inj h,S.fix [0] [] (by decide) d d d⟩)))))
 refine sCondT S d ae (wp_skip (leafT (al _ _ ?_)))
 refine sSeq (fun aK am=>wp_block ?_)
 refine sSeq (fun aL ao=>sRegion (sM S fun a S=>?_))
 refine sN S fun a S=>?_
 refine lT (ao _ _ (sRegion (sM S fun a S=>?_)))
 refine sM S fun a S=>?_
 refine sM S fun a S=>?_
 refine sM S fun a S=>?_
 obtain ⟨ag,ap,h⟩:=bS h
 have S1:=S.mem
 refine sCallVQ (X:=Unit) (g:=54) (vs:=[iv ac]) (caps:=[v1]) (val:=fun _=>iv ag) S (wN d) d d callee54 d (S1.quiet [0] d) (fun E1 w1 S1=>c_slope_Steps_1_s0 E1 w1 ac p1 v1 ag ap S1) d (lb d) fun _ a w S=>?_
 obtain ⟨aM,aq,h⟩:=bS h
 obtain ⟨aA,ar,au⟩:=pIdxR (P:=Try.prog) (r:=(rI .i64)) (T:=3) (v:=.slice a9 ab.length aa) (xs:=ab) (j:=ac) 34 3 0 S Try.underlying34 d d aq
 refine sIdxV S (wN d) d d d ar d (lb d) fun a S=>?_
 obtain ⟨av,af,h⟩:=bS h
 refine sStoreR (r:=(rI .i64)) (T:=3) (xs:=ab) (ys:=av) (y:=ag) (v:=.slice a9 ab.length aa) (vq:=aA) (u:=iv ag) (j:=ac) 0 S au (wN d) d d d d d af d d fun a w S=>?_
 rw [setO_v af a9 aa] at S
 refine leafL (leafB (leafT (am _ _ ?_)))
 refine sRegion (sBin _ S (wN d) d d d (bAdd _ _ _ _ ac 1) d (lb d) fun a S=>sM S fun a S=>?_)
 exact lT (⟨(av,w64 (ac + 1)),(Option.some.inj h).symm,(S.fix [0] [0] (by decide) d d d)⟩)
noncomputable def slope_Steps_l1 (p0:(List Int)):Int→Option (Int ⊕ (((List Int) × Int) ⊕ Unit)):=fun s0=>match s0 with
 | a9=>
  if decide (a9 < (p0.length:Int)) then
   (idxO p0 a9).bind fun aa=>
   (F_slope_within aa (-1000) 1000).bind fun ab=>
   if !ab then
    some (.inr (.inl (([]:(List Int)),16)))
   else
    some (.inl (w64 (a9 + 1)))
  else
   some (.inr (.inr ()))
noncomputable def F_slope_Steps (p0:(List Int)):Option ((List Int) × Int):=
 if decide (1001 < (p0.length:Int)) then
  some (([]:(List Int)),4)
 else
  Option.bind (α:=Unit ⊕ ((List Int) × Int)) (
   (whileO (slope_Steps_l1 p0) 0).bind fun z0=>match z0 with
    | .inl z=>
     some (.inr z)
    | .inr _=>
     some (.inl ())) fun z0=>match z0 with
   | .inl _=>
    (F_slope_list_int__s1 (if (0:Int) < (w64 ((p0.length:Int) - 1)) then w64 ((p0.length:Int) - 1) else 0) p0).bind fun a9=>
    some (a9,0)
   | .inr z=>
    some z
def c_slope_Steps_val (r:((List Int) × Int)) (x:Value):Value:=.tuple #[x,.int .i64 r.2]
def c_slope_Steps_D (r:((List Int) × Int)) (x:Value):List Fact:=[fRep (rL (rI .i64)) x r.1]
theorem c_slope_Steps (E:Nat→Prop) (w0:World) (p0:(List Int)) (v0:Value) (r:((List Int) × Int)) (h:F_slope_Steps p0=some r) (S:St0 E [] w0 w0 [] [fRep (rL (rI .i64)) (v0) p0]) :
 Calls Try.prog 25 #[v0] w0 (Ret (X:=Value) E [] w0 (c_slope_Steps_val r) (fun _=>[]) (c_slope_Steps_D r)):=by
 unfold F_slope_Steps at h
 obtain ⟨a9,aa,_,rfl,_⟩:=S.know (i:=0) (e:=fRep (rL (rI .i64)) (v0) p0) d
 refine sEnter (args:=[.slice a9 p0.length aa]) 25 Try.func25 d d (by simp) S (fun a S=>?_)
 refine sSeq (fun K3 aJ=>sRegion (sBox (v:=.slice a9 p0.length aa) S (wN d) d d [.slice a9 p0.length aa] d d (lb d) fun a b4 w S=>sN S fun a S=>?_))
 refine sN S fun a S=>?_
 refine lT (aJ _ _ (sSeq (fun K5 aK=>sSeq (fun K6 aL=>sRegion (sLoad1 0 (.slice a9 p0.length aa) S (wN d) d d d d d d (lb d) fun a S=>sLen S (wN d) d Try.underlying34 d d (lb d) fun a S=>sBin _ S (wN d) d d d (bGt _ _ _ _ .i64 (p0.length:Int) 1001) d (lb d) fun a S=>lT (aL _ _ ?_))))))
 rcases iS h with ⟨ak,h⟩ | ⟨ak,h⟩
 ·refine sCondT S d ak (sSeq (fun K8 aM=>sRegion (sN S fun a S=>?_)))
  refine sN S fun a S=>?_
  refine lT (aM _ _ ?_)
  obtain rfl:=tS h
  have S:=S.learn (fRep (rL (rI .i64)) (.slice none 0 0) ([]:(List Int))) (rL_nil _ _ _)
  exact wp_ret (rThen (sRet (.tuple #[.slice none 0 0,iv 4]) S (rsl2 d (rvT (t:=2) (v:=.slice none 0 0) S d) (rvT (t:=3) (v:=iv 4) S d)) ⟨(.slice none 0 0),d,S.mem.sel [] [0] (by decide) d d⟩))
 refine sCondF S d ak (wp_skip (leafT (aK _ _ ?_)))
 obtain ⟨t9,h,aC⟩:=bS h
 refine sCut (fun a w=>.inl ()=t9∧St [] E [] w0 25 a w [(1,.pointer (some ⟨b4,0,none⟩))] [eBox b4 34 [.slice a9 p0.length aa]] [fRep (rL (rI .i64)) (.slice a9 p0.length aa) p0]) ?_ (fun a w hI=>?_)
 rotate_left
 ·obtain ⟨rfl,S⟩:=hI
  have h:=aC
  try dsimp only at h
  refine sSeq (fun aP al=>sRegion (sLoad1 0 (.slice a9 p0.length aa) S (wN d) d d d d d d (lb d) fun a S=>sLen S (wN d) d Try.underlying34 d d (lb d) fun a S=>sBin _ S (wN d) d d d (bSub _ _ _ _ (p0.length:Int) 1) d (lb d) fun a S=>sMax2 (p:=0) (q:=w64 ((p0.length:Int) - 1)) S (wN d) d d d d (lb d) fun a S=>sFunc (g:=54) (vs:=[.pointer (some ⟨b4,0,none⟩)]) S (wN d) d d d (lb d) fun a S=>?_))
  obtain ⟨ab,am,h⟩:=bS h
  have S:=S.shutB (r:=(rL (rI .i64))) (T:=34) (b:=b4) (cs:=[.slice a9 p0.length aa]) 0 (.slice a9 p0.length aa) p0 d d (S.mem.know (i:=0) (e:=fRep (rL (rI .i64)) (.slice a9 p0.length aa) p0) d)
  refine sCall (X:=Value) (f:=50) (vs:=[iv (if (0:Int) < (w64 ((p0.length:Int) - 1)) then w64 ((p0.length:Int) - 1) else 0),.func (.func 54) #[] #[.pointer (some ⟨b4,0,none⟩)]]) (val:=c_slope_list_int__s1_val ab) (B':=fun _=>[]) (D':=c_slope_list_int__s1_D ab) [] [] [fPtr (rL (rI .i64)) (.pointer (some ⟨b4,0,none⟩)) p0] [] [0] S (wN d) d callee50 d (by decide) d d (fun E1 w1 S1=>c_slope_list_int__s1 E1 w1 (if (0:Int) < (w64 ((p0.length:Int) - 1)) then w64 ((p0.length:Int) - 1) else 0) p0 (.pointer (some ⟨b4,0,none⟩)) ab am S1) d (lb d) fun aO a w S=>?_
  obtain ⟨ac,ae,_,rfl,_⟩:=S.mem.know (i:=0) (e:=fRep (rL (rI .i64)) (aO) ab) d
  refine sN S fun a S=>?_
  refine sN S fun a S=>?_
  refine lT (al _ _ ?_)
  obtain rfl:=tS h
  exact wp_ret (sRet (.tuple #[.slice ac ab.length ae,iv 0]) S (rsl2 d (rvT (t:=2) (v:=.slice ac ab.length ae) S d) (rvT (t:=3) (v:=iv 0) S d)) ⟨(.slice ac ab.length ae),d,S.mem.sel [] [0] (by decide) d d⟩)
 refine sSeq (fun aQ ao=>sRegion (sLoad1 0 (.slice a9 p0.length aa) S (wN d) d d d d d d (lb d) fun a S=>sLen S (wN d) d Try.underlying34 d d (lb d) fun a S=>sM S fun a S=>?_))
 refine lT (ao _ _ (wp_block ?_))
 obtain ⟨aR,hl,aG⟩:=bS h
 refine sLoop hl (fun s0 a w=>match s0 with | ah=>St [] E [] w0 25 a w [(1,.pointer (some ⟨b4,0,none⟩)),(9,.slice a9 p0.length aa),(10,iv (p0.length:Int)),(11,iv ah)] [eBox b4 34 [.slice a9 p0.length aa]] [fRep (rL (rI .i64)) (.slice a9 p0.length aa) p0]) (S.fix [0] [0] (by decide) d d d) ?_
 clear hl h
 intro ah a w c0 hI h aj
 unfold slope_Steps_l1 at h
 dsimp only at h hI
 have S:=hI
 refine sSeq (fun aS ap=>sRegion (sBin _ S (wN d) d d d (bLt _ _ _ _ .i64 ah (p0.length:Int)) d (lb d) fun a S=>lT (ap _ _ (sSeq (fun aT aq=>?_)))))
 rcases iS h with ⟨af,h⟩ | ⟨af,h⟩
 rotate_left
 ·refine sCondF S d af ?_
  obtain rfl:=tS h
  obtain rfl:=aj _ d
  have h:=aG
  try dsimp only at h
  exact wp_exit (xThen (xThen (xHit (leafT (⟨Option.some.inj h,S.fix [0] [0] (by decide) d d d⟩)))))
 refine sCondT S d af (wp_skip (leafT (aq _ _ ?_)))
 refine sSeq (fun aU ar=>wp_block ?_)
 refine sSeq (fun aV au=>sRegion ?_)
 obtain ⟨ai,av,h⟩:=bS h
 obtain ⟨aH,aw,S⟩:=pIdx (P:=Try.prog) (r:=(rI .i64)) (v:=.slice a9 p0.length aa) (xs:=p0) (j:=ah) 34 3 0 S Try.underlying34 d d av
 refine sIdxV S (wN d) d d d aw d (lb d) fun a S=>?_
 obtain ⟨aI,S⟩:=pLoad (r:=(rI .i64)) (q:=aH) (x:=ai) 0 S d
 obtain rfl:aI=iv ai:=S.mem.know (i:=1) (e:=fRep (rI .i64) (aI) ai) d
 refine sLoadV1 (vq:=aH) 0 (iv ai) S (wN d) d d d d d (lb d) fun a S=>sN S fun a S=>?_
 refine lT (au _ _ (sSeq (fun aW ax=>sRegion (sM S fun a S=>?_))))
 obtain ⟨ay,az,h⟩:=bS h
 have S1:=S.mem
 refine sCq [iv ai,iv (-1000),iv 1000] (.bool ay) S callee53 (S1.quiet [] d) (fun E1 w1 S1=>c_slope_within E1 w1 ai (-1000) 1000 ay az S1) fun a w S=>?_
 refine sNot (b:=ay) S (wN d) d d d (lb d) fun a S=>lT (ax _ _ ?_)
 rcases iS h with ⟨ag,h⟩ | ⟨ag,h⟩
 rotate_left
 ·refine sCondF S d ag (wp_skip (leafB (leafT (ar _ _ ?_))))
  refine sRegion (sBin _ S (wN d) d d d (bAdd _ _ _ _ ah 1) d (lb d) fun a S=>sM S fun a S=>?_)
  exact lT (⟨w64 (ah + 1),(Option.some.inj h).symm,(S.fix [0] [3] (by decide) d d d)⟩)
 refine sCondT S d ag (sSeq (fun aX aA=>sRegion (sN S fun a S=>?_)))
 refine sN S fun a S=>?_
 refine lT (aA _ _ ?_)
 obtain rfl:=tS h
 obtain rfl:=aj _ d
 have h:=aG
 try dsimp only at h
 obtain rfl:=tS h
 have h:=aC
 try dsimp only at h
 obtain rfl:=tS h
 have S:=S.learn (fRep (rL (rI .i64)) (.slice none 0 0) ([]:(List Int))) (rL_nil _ _ _)
 exact wp_ret (rBlock (rThen (rThen (rBlock (rThen (sRet (.tuple #[.slice none 0 0,iv 16]) S (rsl2 d (rvT (t:=2) (v:=.slice none 0 0) S d) (rvT (t:=3) (v:=iv 16) S d)) ⟨(.slice none 0 0),d,S.mem.sel [] [0] (by decide) d d⟩))))))
def anc_raddletop_edge39_0:List (List Nat):=[[],[0],[0,1],[],[3],[3,4],[0,1,2],[0,1,2,3,4,5,6]]
def anc_raddletop_edge39_1:List (List Nat):=[[],[],[],[1,2],[1,2,3],[0,1,2,3,4],[],[],[],[7,8],[7,8,9],[6,7,8,9,10],[0,1,2,3,4,5],[0,1,2,3,4,5,6,7,8,9,10,11,12]]
noncomputable def raddletop_edge39_l1 (ae:((List Int) × Int)):(Int × Int × Int)→Option ((Int × Int × Int) ⊕ (Int × Int)):=fun s0=>match s0 with
 | (aa,ab,ac)=>
  if decide (ac < (ae.1.length:Int)) then
   (idxO ae.1 ac).bind fun a9=>
   some (.inl (if a9 < aa then a9 else aa,if ab < a9 then a9 else ab,w64 (ac + 1)))
  else
   some (.inr (aa,ab))
noncomputable def F_raddletop_edge39 (p0:(List Int)) (p1:api_Point) (p2:api_Point):Option Bool:=
 Option.bind (α:=Bool) (
  if decide (p2.Y < 1) then
   some true
  else
   some ((p0.length:Int) != (w64 (p2.Y + 1)))) fun o7=>
 if o7 then
  some false
 else
  (F_slope_Line p1.X p2.X p2.Y).bind fun aa=>
  (F_slope_Steps p0).bind fun a9=>
  Option.bind (α:=Bool) (
   if aa.2 != 0 then
    some true
   else
    if a9.2 != 0 then
     some true
    else
     some ((a9.1.length:Int) != p2.Y)) fun ac=>
  if ac then
   some false
  else
   (idxO a9.1 0).bind fun ab=>
   Option.bind (α:=(Int × Int)) (
    (whileO (raddletop_edge39_l1 a9) (ab,ab,0)).bind fun (ae,af)=>
     some (ae,af)) fun (ag,ah)=>
   Option.bind (α:=Bool) (
    (F_raddleref36_Same p0 aa.1).bind fun ai=>
    if ai then
     some (decide ((w64 (ah - ag)) ≤ 1))
    else
     some false) fun aj=>
   some aj
theorem c_raddletop_edge39 (E:Nat→Prop) (w0:World) (p0:(List Int)) (v0:Value) (p1:api_Point) (v1:Value) (p2:api_Point) (v2:Value) (r:Bool) (h:F_raddletop_edge39 p0 p1 p2=some r) (S:St0 E [] w0 w0 [] [fRep (rL (rI .i64)) (v0) p0,fRep r_api_Point (v1) p1,fRep r_api_Point (v2) p2]) :
 Calls Try.prog 12 #[v0,v1,v2] w0 (Ret (X:=Unit) E [] w0 (fun _=>.bool r) (fun _=>[]) (fun _=>[])):=by
 unfold F_raddletop_edge39 at h
 obtain ⟨aj,ak,_,rfl,_⟩:=S.know (i:=0) (e:=fRep (rL (rI .i64)) (v0) p0) d
 obtain rfl:v1=.agg #[iv p1.X,iv p1.Y]:=S.know (i:=1) (e:=fRep r_api_Point (v1) p1) d
 obtain rfl:v2=.agg #[iv p2.X,iv p2.Y]:=S.know (i:=2) (e:=fRep r_api_Point (v2) p2) d
 refine sEnter (args:=[.slice aj p0.length ak,.agg #[iv p1.X,iv p1.Y],.agg #[iv p2.X,iv p2.Y]]) 86 Try.func12 d d (by simp) S (fun a S=>?_)
 refine sSeq (fun K3 bm=>sRegion (sBox (v:=.agg #[iv p1.X,iv p1.Y]) S (wN d) d d [iv p1.X,iv p1.Y] d d (lb d) fun a b4 w S=>sBox (v:=.agg #[iv p2.X,iv p2.Y]) S (wN d) d d [iv p2.X,iv p2.Y] d d (lb d) fun a b5 w S=>sN S fun a S=>?_))
 refine lT (bm _ _ (sSeq (fun K6 bn=>?_)))
 obtain ⟨t8,h,g9⟩:=bS h
 refine sCut (fun a w=>∃ o7,o7=t8∧St [] E [] w0 86 a w [(0,.slice aj p0.length ak),(4,.pointer (some ⟨b4,0,none⟩)),(5,.pointer (some ⟨b5,0,none⟩)),(24,.bool o7)] [eBox b4 33 [iv p1.X,iv p1.Y],eBox b5 33 [iv p2.X,iv p2.Y]] [fRep (rL (rI .i64)) (.slice aj p0.length ak) p0]) ?_ (fun a w hI=>?_)
 ·refine sRegion (sField (b:=b5) (off:=0) 1 1 S (wN d) d d d d d (lb d) fun a S=>sLoad1 0 (iv p2.Y) S (wN d) d d d d d d (lb d) fun a S=>sBin _ S (wN d) d d d (bLt _ _ _ _ .i64 p2.Y 1) d (lb d) fun a S=>sM S fun a S=>?_)
  rcases iS h with ⟨ah,h⟩ | ⟨ah,h⟩
  ·refine sSkN 6 3 false 17 S d d ah d fun a S=>sPickT (.bool true) S (wN d) d d ah d d (lb d) fun a S=>?_
   exact lT (⟨true,Option.some.inj h,S.fix [1,0] [0] (by decide) d d d⟩)
  refine sMove (.slice aj p0.length ak) S (wG 3 false 17 d d d ah) (.inl d) d d (lb d) fun a S=>sLen S (wG 3 false 17 d d d ah) d Try.underlying34 d d (lb d) fun a S=>sField (b:=b5) (off:=0) 1 1 S (wG 3 false 17 d d d ah) d d d d d (lb d) fun a S=>sLoad1 0 (iv p2.Y) S (wG 3 false 17 d d d ah) d d d d d d (lb d) fun a S=>sBin _ S (wG 3 false 17 d d d ah) d d d (bAdd _ _ _ _ p2.Y 1) d (lb d) fun a S=>sBin _ S (wG 3 false 17 d d d ah) d d d (bNe _ _ _ _ .i64 (p0.length:Int) (w64 (p2.Y + 1))) d (lb d) fun a S=>sPickF (.bool ((p0.length:Int) != (w64 (p2.Y + 1)))) S (wN d) d d ah d d (lb d) fun a S=>?_
  exact lT (⟨(p0.length:Int) != (w64 (p2.Y + 1)),Option.some.inj h,S.fix [1,0] [0] (by decide) d d d⟩)
 obtain ⟨o7,rfl,S⟩:=hI
 have h:=g9
 try dsimp only at h
 rcases iS h with ⟨aw,h⟩ | ⟨aw,h⟩
 ·refine sCondT S d aw (sSeq (fun bz aG=>sRegion (sN S fun a S=>?_)))
  refine lT (aG _ _ ?_)
  obtain rfl:=tS h
  exact wp_ret (rThen (sRet (.bool false) S (rsl1 d (rvT (t:=6) (v:=.bool false) S d)) ⟨(),d,S.mem.sel [] [] (by decide) d d⟩))
 refine sCondF S d aw (wp_skip (leafT (bn _ _ ?_)))
 refine sSeq (fun bA aH=>sRegion (sField (b:=b4) (off:=0) 0 0 S (wN d) d d d d d (lb d) fun a S=>sLoad1 0 (iv p1.X) S (wN d) d d d d d d (lb d) fun a S=>sField (b:=b5) (off:=0) 0 0 S (wN d) d d d d d (lb d) fun a S=>sLoad1 1 (iv p2.X) S (wN d) d d d d d d (lb d) fun a S=>sField (b:=b5) (off:=0) 1 1 S (wN d) d d d d d (lb d) fun a S=>sLoad1 1 (iv p2.Y) S (wN d) d d d d d d (lb d) fun a S=>?_))
 obtain ⟨ag,aI,h⟩:=bS h
 refine sCall (X:=Value) (f:=24) (vs:=[iv p1.X,iv p2.X,iv p2.Y]) (val:=c_slope_Line_val ag) (B':=fun _=>[]) (D':=c_slope_Line_D ag) [] [eBox b4 33 [iv p1.X,iv p1.Y],eBox b5 33 [iv p2.X,iv p2.Y]] [] [0,1] [] S (wN d) d callee24 d (by decide) d d (fun E1 w1 S1=>c_slope_Line E1 w1 p1.X p2.X p2.Y ag aI S1) d (lb d) fun bo a w S=>?_
 obtain ⟨ae,af,_,rfl,_⟩:=S.mem.know (i:=0) (e:=fRep (rL (rI .i64)) (bo) ag.1) d
 refine sM S fun a S=>?_
 refine sExtract (vs:=[.slice ae ag.1.length af,iv ag.2]) (.slice ae ag.1.length af) S (wN d) d d d d (lb d) fun a S=>sExtract (vs:=[.slice ae ag.1.length af,iv ag.2]) (iv ag.2) S (wN d) d d d d (lb d) fun a S=>sN S fun a S=>?_
 refine sN S fun a S=>?_
 refine lT (aH _ _ (sSeq (fun bB aJ=>sRegion (sM S fun a S=>?_))))
 obtain ⟨a9,aK,h⟩:=bS h
 refine sCall (X:=Value) (f:=25) (vs:=[.slice aj p0.length ak]) (val:=c_slope_Steps_val a9) (B':=fun _=>[]) (D':=c_slope_Steps_D a9) [] [eBox b4 33 [iv p1.X,iv p1.Y],eBox b5 33 [iv p2.X,iv p2.Y]] [fRep (rL (rI .i64)) (.slice aj p0.length ak) p0] [0,1] [1] S (wN d) d callee25 d (by decide) d d (fun E1 w1 S1=>c_slope_Steps E1 w1 p0 (.slice aj p0.length ak) a9 aK S1) d (lb d) fun bp a w S=>?_
 obtain ⟨aa,ab,_,rfl,_⟩:=S.mem.know (i:=0) (e:=fRep (rL (rI .i64)) (bp) a9.1) d
 refine sM S fun a S=>?_
 refine sExtract (vs:=[.slice aa a9.1.length ab,iv a9.2]) (.slice aa a9.1.length ab) S (wN d) d d d d (lb d) fun a S=>sExtract (vs:=[.slice aa a9.1.length ab,iv a9.2]) (iv a9.2) S (wN d) d d d d (lb d) fun a S=>sN S fun a S=>?_
 refine sN S fun a S=>?_
 refine lT (aJ _ _ (sSeq (fun bC aL=>?_)))
 obtain ⟨bq,h,br⟩:=bS h
 refine sCut (fun a w=>∃ aM,aM=bq∧St [] E [] w0 86 a w [(0,.slice aj p0.length ak),(7,.slice ae ag.1.length af),(9,.slice aa a9.1.length ab),(52,.bool aM)] [] [fRep (rL (rI .i64)) (.slice aj p0.length ak) p0,fRep (rL (rI .i64)) (.slice ae ag.1.length af) ag.1,fRep (rL (rI .i64)) (.slice aa a9.1.length ab) a9.1]) ?_ (fun a w hI=>?_)
 ·refine sRegion (sM S fun a S=>?_)
  refine sBin _ S (wN d) d d d (bNe _ _ _ _ .i64 ag.2 0) d (lb d) fun a S=>sM S fun a S=>?_
  rcases iS h with ⟨ao,h⟩ | ⟨ao,h⟩
  ·refine sSkN 2 2 false 42 S d d ao d fun a S=>sPickT (.bool true) S (wN d) d d ao d d (lb d) fun a S=>sM S fun a S=>?_
   refine sSkN 5 6 false 46 S d d d d fun a S=>sPickT (.bool true) S (wN d) d d d d d (lb d) fun a S=>?_
   exact lT (⟨true,Option.some.inj h,S.fix [] [2,1,0] (by decide) d d d⟩)
  refine sMove (iv a9.2) S (wG 2 false 42 d d d ao) (.inl d) d d (lb d) fun a S=>sBin _ S (wG 2 false 42 d d d ao) d d d (bNe _ _ _ _ .i64 a9.2 0) d (lb d) fun a S=>sPickF (.bool (a9.2 != 0)) S (wN d) d d ao d d (lb d) fun a S=>sM S fun a S=>?_
  rcases iS h with ⟨ai,h⟩ | ⟨ai,h⟩
  ·refine sSkN 5 6 false 46 S d d ai d fun a S=>sPickT (.bool true) S (wN d) d d ai d d (lb d) fun a S=>?_
   exact lT (⟨true,Option.some.inj h,S.fix [] [2,1,0] (by decide) d d d⟩)
  refine sMove (.slice aa a9.1.length ab) S (wG 6 false 46 d d d ai) (.inl d) d d (lb d) fun a S=>sLen S (wG 6 false 46 d d d ai) d Try.underlying34 d d (lb d) fun a S=>sField (b:=b5) (off:=0) 1 1 S (wG 6 false 46 d d d ai) d d d d d (lb d) fun a S=>sLoad1 1 (iv p2.Y) S (wG 6 false 46 d d d ai) d d d d d d (lb d) fun a S=>sBin _ S (wG 6 false 46 d d d ai) d d d (bNe _ _ _ _ .i64 (a9.1.length:Int) p2.Y) d (lb d) fun a S=>sPickF (.bool ((a9.1.length:Int) != p2.Y)) S (wN d) d d ai d d (lb d) fun a S=>?_
  exact lT (⟨(a9.1.length:Int) != p2.Y,Option.some.inj h,S.fix [] [2,1,0] (by decide) d d d⟩)
 obtain ⟨aM,rfl,S⟩:=hI
 have h:=br
 try dsimp only at h
 rcases iS h with ⟨ax,h⟩ | ⟨ax,h⟩
 ·refine sCondT S d ax (sSeq (fun bD aO=>sRegion (sN S fun a S=>?_)))
  refine lT (aO _ _ ?_)
  obtain rfl:=tS h
  exact wp_ret (rThen (sRet (.bool false) S (rsl1 d (rvT (t:=6) (v:=.bool false) S d)) ⟨(),d,S.mem.sel [] [] (by decide) d d⟩))
 refine sCondF S d ax (wp_skip (leafT (aL _ _ ?_)))
 refine sSeq (fun bE aP=>?_)
 obtain ⟨am,az,h⟩:=bS h
 obtain ⟨aQ,aR,S⟩:=pIdx (P:=Try.prog) (r:=(rI .i64)) (v:=.slice aa a9.1.length ab) (xs:=a9.1) (j:=0) 34 3 2 S Try.underlying34 d d az
 obtain ⟨bg,S⟩:=pLoad (r:=(rI .i64)) (q:=aQ) (x:=am) 0 S d
 obtain rfl:bg=iv am:=S.mem.know (i:=1) (e:=fRep (rI .i64) (bg) am) d
 obtain ⟨aS,aT,S⟩:=pIdx (P:=Try.prog) (r:=(rI .i64)) (v:=.slice aa a9.1.length ab) (xs:=a9.1) (j:=0) 34 3 5 S Try.underlying34 d d az
 obtain ⟨bh,S⟩:=pLoad (r:=(rI .i64)) (q:=aS) (x:=am) 0 S d
 obtain rfl:bh=iv am:=S.mem.know (i:=1) (e:=fRep (rI .i64) (bh) am) d
 refine sDraw (nf:=[]) (W:=[(0,53,.slice aa a9.1.length ab),(1,54,aQ),(2,55,iv am),(3,56,.slice aa a9.1.length ab),(4,57,aS),(5,58,iv am),(6,11,iv am),(7,12,iv am)]) d S ?_
 refine node_by (A:=anc_raddletop_edge39_0) 8 (by kernel_rfl) (by kernel_rfl) (by kernel_rfl) (by kernel_rfl) (by kernel_rfl) [0,1,2,3,4,5,6,7] (by kernel_rfl) (by decide) (by decide) (fF ?_ (fF ?_ (fF ?_ (fF ?_ (fF ?_ (fF ?_ (fF ?_ (fF ?_ (trivial))))))))) [(0,.slice aj p0.length ak),(7,.slice ae ag.1.length af),(9,.slice aa a9.1.length ab),(11,iv am),(12,iv am)] (fin_of [none,none,none,some 6,some 7] d (by kernel_rfl) (by kernel_rfl)) (fun _ a w S=>?_)
 ·exact fM 0 none d d d d (.inl d) d d d
 ·refine fJ [(53,_)] 1 [some 0] fun G a w S=>?_
  exact sIdxV S (wN d) d d d aR d (lb d) fun a S=>leafL ⟨d,S⟩
 ·refine fJ [(54,_)] 2 [some 1] fun G a w S=>?_
  exact sLoadV1 (vq:=aQ) 3 (iv am) S (wN d) d d d d d (lb d) fun a S=>leafL ⟨d,S⟩
 ·exact fM 3 none d d d d (.inl d) d d d
 ·refine fJ [(56,_)] 4 [some 3] fun G a w S=>?_
  exact sIdxV S (wN d) d d d aT d (lb d) fun a S=>leafL ⟨d,S⟩
 ·refine fJ [(57,_)] 5 [some 4] fun G a w S=>?_
  exact sLoadV1 (vq:=aS) 0 (iv am) S (wN d) d d d d d (lb d) fun a S=>leafL ⟨d,S⟩
 ·exact fM 6 (some 2) d d d d (.inr d) d d d
 ·exact fM 7 (some 5) d d d d (.inr d) d d d
 refine leafT (aP _ _ ?_)
 obtain ⟨bt,h,bu⟩:=bS h
 refine sCut (fun a w=>∃ au,∃ av,(au,av)=bt∧St [] E [] w0 86 a w [(0,.slice aj p0.length ak),(7,.slice ae ag.1.length af),(11,iv au),(12,iv av)] [] [fRep (rL (rI .i64)) (.slice aj p0.length ak) p0,fRep (rL (rI .i64)) (.slice ae ag.1.length af) ag.1]) ?_ (fun a w hI=>?_)
 rotate_left
 ·obtain ⟨au,av,rfl,S⟩:=hI
  have h:=bu
  try dsimp only at h
  obtain ⟨bv,h,bw⟩:=bS h
  refine sCut (fun a w=>∃ aA,aA=bv∧St [] E [] w0 86 a w [(6,.bool aA)] [] []) ?_ (fun a w hI=>?_)
  rotate_left
  ·obtain ⟨aA,rfl,S⟩:=hI
   have h:=bw
   try dsimp only at h
   obtain rfl:=tS h
   exact wp_ret (sRet (.bool aA) S (rsl1 d (rvT (t:=6) (v:=.bool aA) S d)) ⟨(),d,S.mem.sel [] [] (by decide) d d⟩)
  refine sRegion (sM S fun a S=>?_)
  refine sM S fun a S=>?_
  obtain ⟨bi,aU,h⟩:=bS h
  have S1:=S.mem
  refine sCq [.slice aj p0.length ak,.slice ae ag.1.length af] (.bool bi) S callee26 (S1.quiet [0,1] d) (fun E1 w1 S1=>c_raddleref36_Same E1 w1 p0 (.slice aj p0.length ak) ag.1 (.slice ae ag.1.length af) bi aU S1) fun a w S=>?_
  refine sM S fun a S=>?_
  rcases iS h with ⟨al,h⟩ | ⟨al,h⟩
  rotate_left
  ·refine sSkN 4 3 true 80 S d d al d fun a S=>sPickF (.bool false) S (wN d) d d al d d (lb d) fun a S=>sN S fun a S=>?_
   exact lT (⟨false,Option.some.inj h,S.fix [] [] (by decide) d d d⟩)
  refine sMove (iv av) S (wG 3 true 80 d d d al) (.inl d) d d (lb d) fun a S=>sMove (iv au) S (wG 3 true 80 d d d al) (.inl d) d d (lb d) fun a S=>sBin _ S (wG 3 true 80 d d d al) d d d (bSub _ _ _ _ av au) d (lb d) fun a S=>sBin _ S (wG 3 true 80 d d d al) d d d (bLe _ _ _ _ .i64 (w64 (av - au)) 1) d (lb d) fun a S=>sPickT (.bool (decide ((w64 (av - au)) ≤ 1))) S (wN d) d d al d d (lb d) fun a S=>sN S fun a S=>?_
  exact lT (⟨decide ((w64 (av - au)) ≤ 1),Option.some.inj h,S.fix [] [] (by decide) d d d⟩)
 refine sSeq (fun bG aV=>sRegion (sN S fun a S=>?_))
 refine lT (aV _ _ (wp_block ?_))
 obtain ⟨bH,hl,bx⟩:=bS h
 refine sLoop hl (fun s0 a w=>match s0 with | (ap,aq,ar)=>St [] E [] w0 86 a w [(0,.slice aj p0.length ak),(7,.slice ae ag.1.length af),(9,.slice aa a9.1.length ab),(11,iv ap),(12,iv aq),(13,iv ar)] [] [fRep (rL (rI .i64)) (.slice aj p0.length ak) p0,fRep (rL (rI .i64)) (.slice ae ag.1.length af) ag.1,fRep (rL (rI .i64)) (.slice aa a9.1.length ab) a9.1]) (S.fix [] [6,7,8] (by decide) d d d) ?_
 clear hl h
 intro s0 a w c0 hI h aW
 obtain ⟨ap,aq,ar⟩:=s0
 unfold raddletop_edge39_l1 at h
 dsimp only at h hI
 have S:=hI
 refine sSeq (fun bI aX=>sSeq (fun bJ aZ=>sRegion (sM S fun a S=>?_)))
 refine sM S fun a S=>?_
 refine sLen S (wN d) d Try.underlying34 d d (lb d) fun a S=>sBin _ S (wN d) d d d (bLt _ _ _ _ .i64 ar (a9.1.length:Int)) d (lb d) fun a S=>lT (aZ _ _ ?_)
 rcases iS h with ⟨ay,h⟩ | ⟨ay,h⟩
 rotate_left
 ·refine sCondF S d ay ?_
  obtain rfl:=tS h
  obtain rfl:=aW _ d
  have h:=bx
  try dsimp only at h
  exact wp_exit (xThen (xThen (xHit (leafT (⟨ap,aq,Option.some.inj h,S.fix [] [0,1] (by decide) d d d⟩)))))
 refine sCondT S d ay (wp_skip (leafT (aX _ _ ?_)))
 refine sSeq (fun bK b8=>wp_block ?_)
 obtain ⟨ac,aC,h⟩:=bS h
 obtain ⟨ba,bb,S⟩:=pIdx (P:=Try.prog) (r:=(rI .i64)) (v:=.slice aa a9.1.length ab) (xs:=a9.1) (j:=ar) 34 3 2 S Try.underlying34 d d aC
 obtain ⟨bj,S⟩:=pLoad (r:=(rI .i64)) (q:=ba) (x:=ac) 0 S d
 obtain rfl:bj=iv ac:=S.mem.know (i:=1) (e:=fRep (rI .i64) (bj) ac) d
 obtain ⟨bc,bf,S⟩:=pIdx (P:=Try.prog) (r:=(rI .i64)) (v:=.slice aa a9.1.length ab) (xs:=a9.1) (j:=ar) 34 3 5 S Try.underlying34 d d aC
 obtain ⟨bl,S⟩:=pLoad (r:=(rI .i64)) (q:=bc) (x:=ac) 0 S d
 obtain rfl:bl=iv ac:=S.mem.know (i:=1) (e:=fRep (rI .i64) (bl) ac) d
 refine sDraw (nf:=[]) (W:=[(0,65,iv ap),(1,66,.slice aa a9.1.length ab),(2,67,iv ar),(3,68,ba),(4,69,iv ac),(5,70,iv (if ac < ap then ac else ap)),(6,71,iv aq),(7,72,.slice aa a9.1.length ab),(8,73,iv ar),(9,74,bc),(10,75,iv ac),(11,76,iv (if aq < ac then ac else aq)),(12,11,iv (if ac < ap then ac else ap)),(13,12,iv (if aq < ac then ac else aq))]) d S ?_
 refine node_by (A:=anc_raddletop_edge39_1) 14 (by kernel_rfl) (by kernel_rfl) (by kernel_rfl) (by kernel_rfl) (by kernel_rfl) [0,1,2,3,4,5,6,7,8,9,10,11,12,13] (by kernel_rfl) (by decide) (by decide) (fF ?_ (fF ?_ (fF ?_ (fF ?_ (fF ?_ (fF ?_ (fF ?_ (fF ?_ (fF ?_ (fF ?_ (fF ?_ (fF ?_ (fF ?_ (fF ?_ (trivial))))))))))))))) [(0,.slice aj p0.length ak),(7,.slice ae ag.1.length af),(9,.slice aa a9.1.length ab),(11,iv (if ac < ap then ac else ap)),(12,iv (if aq < ac then ac else aq)),(13,iv ar)] (fin_of [none,none,none,some 12,some 13,none] d (by kernel_rfl) (by kernel_rfl)) (fun _ a w S=>?_)
 ·exact fM 0 none d d d d (.inl d) d d d
 ·exact fM 1 none d d d d (.inl d) d d d
 ·exact fM 2 none d d d d (.inl d) d d d
 ·refine fJ [(66,_),(67,_)] 3 [some 1,some 2] fun G a w S=>?_
  exact sIdxV S (wN d) d d d bb d (lb d) fun a S=>leafL ⟨d,S⟩
 ·refine fJ [(68,_)] 4 [some 3] fun G a w S=>?_
  exact sLoadV1 (vq:=ba) 3 (iv ac) S (wN d) d d d d d (lb d) fun a S=>leafL ⟨d,S⟩
 ·refine fJ [(65,_),(69,_)] 5 [some 0,some 4] fun G a w S=>?_
  exact sMin2 (p:=ap) (q:=ac) S (wN d) d d d d (lb d) fun a S=>leafL ⟨d,S⟩
 ·exact fM 6 none d d d d (.inl d) d d d
 ·exact fM 7 none d d d d (.inl d) d d d
 ·exact fM 8 none d d d d (.inl d) d d d
 ·refine fJ [(72,_),(73,_)] 9 [some 7,some 8] fun G a w S=>?_
  exact sIdxV S (wN d) d d d bf d (lb d) fun a S=>leafL ⟨d,S⟩
 ·refine fJ [(74,_)] 10 [some 9] fun G a w S=>?_
  exact sLoadV1 (vq:=bc) 0 (iv ac) S (wN d) d d d d d (lb d) fun a S=>leafL ⟨d,S⟩
 ·refine fJ [(71,_),(75,_)] 11 [some 6,some 10] fun G a w S=>?_
  exact sMax2 (p:=aq) (q:=ac) S (wN d) d d d d (lb d) fun a S=>leafL ⟨d,S⟩
 ·exact fM 12 (some 5) d d d d (.inr d) d d d
 ·exact fM 13 (some 11) d d d d (.inr d) d d d
 refine leafB (leafT (b8 _ _ ?_))
 refine sRegion (sM S fun a S=>?_)
 refine sBin _ S (wN d) d d d (bAdd _ _ _ _ ar 1) d (lb d) fun a S=>sN S fun a S=>?_
 exact lT (⟨(if ac < ap then ac else ap,if aq < ac then ac else aq,w64 (ar + 1)),(Option.some.inj h).symm,(S.fix [] [6,7,8] (by decide) d d d)⟩)
theorem swithin_eq (x a b:Int):F_slope_within x a b=some (decide (a ≤ x) && decide (x ≤ b)):=by
 unfold F_slope_within
 by_cases h:a ≤ x <;> simp [h]
def lin (a b n i:Int):Int:=a + (2 * (b - a) * i + n) / (2 * n)
theorem at_of {a b n i:Int} (a0:-500 ≤ a) (a1:a ≤ 500) (b0:-500 ≤ b) (b1:b ≤ 500) (n0:1 ≤ n) (n1:n ≤ 100) (i0:0 ≤ i) (i1:i ≤ n):F_slope_at a b n i=some (lin a b n i):=by
 have e3:w64 (2 * n)=2 * n:=w64_of (by omega) (by omega)
 have m1:=mul_bd (u:=a + 1000) (v:=n - i) (a:=1500) (b:=100) (by omega) (by omega) (by omega) (by omega)
 have m2:=mul_bd (u:=b + 1000) (v:=i) (a:=1500) (b:=100) (by omega) (by omega) (by omega) (by omega)
 have m3:=mul_bd (u:=2 * (b - a) + 2000) (v:=i) (a:=4000) (b:=100) (by omega) (by omega) (by omega) (by omega)
 have m4:(2 * (b - a) + 2000) * i=2 * (b - a) * i + 2000 * i:=Int.add_mul _ _ _
 have m5:=mul_bd (u:=n) (v:=a + 1000) (a:=100) (b:=1500) (by omega) (by omega) (by omega) (by omega)
 have key:2 * ((a + 1000) * (n - i) + (b + 1000) * i) + n=(2 * (b - a) * i + n) + 2 * n * (a + 1000):=by
  have k1:(a + 1000) * (n - i)=n * (a + 1000) - (a * i + 1000 * i):=by rw [Int.mul_sub,Int.mul_comm (a + 1000) n,Int.add_mul]
  have k2:(b + 1000) * i=b * i + 1000 * i:=Int.add_mul _ _ _
  have k3:2 * (b - a) * i=2 * (b * i) - 2 * (a * i):=by rw [Int.mul_assoc,Int.sub_mul,Int.mul_sub]
  have k4:2 * n * (a + 1000)=2 * (n * (a + 1000)):=Int.mul_assoc _ _ _
  rw [k1,k2,k3,k4]
  omega
 have hn:(2 * n:Int) ≠ 0:=by omega
 have hd:=Int.add_mul_ediv_left (2 * (b - a) * i + n) (a + 1000) hn
 rw [← key] at hd
 have f0:0 ≤ (2 * ((a + 1000) * (n - i) + (b + 1000) * i) + n) / (2 * n):=Int.ediv_nonneg (by omega) (by omega)
 have f1:(2 * ((a + 1000) * (n - i) + (b + 1000) * i) + n) / (2 * n) ≤ 2 * ((a + 1000) * (n - i) + (b + 1000) * i) + n:=Int.ediv_le_self _ (by omega)
 unfold F_slope_at lin
 have g1:w64 (a + 1000)=a + 1000:=w64_of (by omega) (by omega)
 have g2:w64 (n - i)=n - i:=w64_of (by omega) (by omega)
 have g3:w64 (b + 1000)=b + 1000:=w64_of (by omega) (by omega)
 have g4:w64 ((a + 1000) * (n - i))=(a + 1000) * (n - i):=w64_of (by omega) (by omega)
 have g5:w64 ((b + 1000) * i)=(b + 1000) * i:=w64_of (by omega) (by omega)
 have g6:w64 ((a + 1000) * (n - i) + (b + 1000) * i)=(a + 1000) * (n - i) + (b + 1000) * i:=w64_of (by omega) (by omega)
 have g7:w64 (2 * ((a + 1000) * (n - i) + (b + 1000) * i))=2 * ((a + 1000) * (n - i) + (b + 1000) * i):=w64_of (by omega) (by omega)
 have g8:w64 (2 * ((a + 1000) * (n - i) + (b + 1000) * i) + n)=2 * ((a + 1000) * (n - i) + (b + 1000) * i) + n:=w64_of (by omega) (by omega)
 simp only [g1,g2,g3,g4,g5,g6,g7,g8,e3,quoI,hn,if_false,Option.bind_some]
 have g9:w64 ((2 * ((a + 1000) * (n - i) + (b + 1000) * i) + n) / (2 * n))=(2 * ((a + 1000) * (n - i) + (b + 1000) * i) + n) / (2 * n):=w64_of (by omega) (by omega)
 rw [Int.tdiv_eq_ediv_of_nonneg (by omega),g9,w64_of (by omega) (by omega)]
 congr 1
 omega
def lnL (a b n:Int):List Int:=(List.range (n.toNat + 1)).map (fun i:Nat=>lin a b n (i:Int))
theorem lnL_len (a b n:Int):(lnL a b n).length=n.toNat + 1:=by simp [lnL]
theorem lnL_get (a b n:Int) {k:Nat} (hk:k < n.toNat + 1):(lnL a b n)[k]?=some (lin a b n k):=by
 unfold lnL
 rw [List.getElem?_map,List.getElem?_range hk]
 rfl
theorem lnL_at (a b n:Int) {k:Nat} (hk:k < n.toNat + 1):idxO (lnL a b n) (k:Int)=some (lin a b n k):=by
 have h:=lnL_get a b n hk
 have hl:k < (lnL a b n).length:=by rw [lnL_len]; exact hk
 rw [idxO_nat hl]
 rw [List.getElem?_eq_getElem hl] at h
 exact h
theorem line_of {a b n:Int} (a0:-500 ≤ a) (a1:a ≤ 500) (b0:-500 ≤ b) (b1:b ≤ 500) (n0:1 ≤ n) (n1:n ≤ 100):F_slope_Line a b n=some (lnL a b n,0):=by
 obtain ⟨N,rfl⟩:∃ N:Nat,n=N:=⟨n.toNat,by omega⟩
 have hN:((N:Int)).toNat=N:=by omega
 have hc:F_slope_check a b N=some 0:=by
  unfold F_slope_check
  simp [swithin_eq,show -1000 ≤ a by omega,show a ≤ 1000 by omega,show -1000 ≤ b by omega,show b ≤ 1000 by omega,show (1:Int) ≤ N by omega,show (N:Int) ≤ 1000 by omega]
 have hl:whileO (slope_list_int__s0_l1 (((N + 1:Nat):Int)) a b N) (List.replicate (N + 1) 0,0)=some (lnL a b N):=by
  refine loop_set (N + 1) (fun i:Nat=>lin a b N (i:Int)) (0:Int) (fun k s hk hs=>?_) ?_
  ·unfold slope_list_int__s0_l1 F_slope_Line_1_s0
   simp only [dT (show (k:Int) < ((N + 1:Nat):Int) by omega),if_true,at_of a0 a1 b0 b1 n0 n1 (show (0:Int) ≤ k by omega) (show (k:Int) ≤ N by omega),Option.bind_some,idxO_nat (show k < s.length by omega),setO_nat (show k < s.length by omega),w64_succ (show k < 9223372036854775807 by omega)]
  ·unfold slope_list_int__s0_l1 lnL
   rw [hN]
   simp
 have hm:makeO (((N + 1:Nat):Int)) (0:Int)=some (List.replicate (N + 1) 0):=makeO_of rfl (by omega)
 unfold F_slope_Line F_slope_list_int__s0
 rw [hc]
 simp only [Option.bind_some,w64_succ (show N < 9223372036854775807 by omega),hm,hl,nF (rfl:(0:Int)=0),Bool.false_eq_true,if_false]
theorem lin_zero {a b n:Int} (n0:1 ≤ n):lin a b n 0=a:=by
 unfold lin
 rw [Int.mul_zero,Int.zero_add,Int.ediv_eq_zero_of_lt (by omega) (by omega),Int.add_zero]
theorem lin_end {a b n:Int} (n0:1 ≤ n):lin a b n n=b:=by
 unfold lin
 have e:2 * (b - a) * n + n=n + 2 * n * (b - a):=by
  have:2 * (b - a) * n=2 * n * (b - a):=by rw [Int.mul_assoc,Int.mul_comm (b - a) n,Int.mul_assoc]
  omega
 rw [e,Int.add_mul_ediv_left _ _ (by omega),Int.ediv_eq_zero_of_lt (by omega) (by omega)]
 omega
theorem lin_bd {a b n i:Int} (a0:-500 ≤ a) (a1:a ≤ 500) (b0:-500 ≤ b) (b1:b ≤ 500) (n0:1 ≤ n) (i0:0 ≤ i) (i1:i ≤ n):-500 ≤ lin a b n i∧lin a b n i ≤ 500:=by
 unfold lin
 have hN:0 < 2 * n:=by omega
 have e:2 * (b - a) * i=2 * ((b - a) * i):=Int.mul_assoc _ _ _
 by_cases h:0 ≤ b - a
 ·have m0:=Int.mul_nonneg h i0
  have m1:=Int.mul_nonneg h (show 0 ≤ n - i by omega)
  rw [Int.mul_sub] at m1
  have k0:0 ≤ (2 * (b - a) * i + n) / (2 * n):=Int.ediv_nonneg (by omega) (by omega)
  have k1:(2 * (b - a) * i + n) / (2 * n) < (b - a) + 1:=by
   rw [Int.ediv_lt_iff_lt_mul hN]
   have:((b - a) + 1) * (2 * n)=2 * ((b - a) * n) + 2 * n:=by
    rw [Int.add_mul,Int.one_mul]
    have:(b - a) * (2 * n)=2 * ((b - a) * n):=Int.mul_left_comm _ _ _
    omega
   omega
  omega
 ·have m0:=Int.mul_nonneg (show 0 ≤ -(b - a) by omega) i0
  have m1:=Int.mul_nonneg (show 0 ≤ -(b - a) by omega) (show 0 ≤ n - i by omega)
  rw [Int.neg_mul] at m0
  rw [Int.neg_mul,Int.mul_sub] at m1
  have k0:b - a ≤ (2 * (b - a) * i + n) / (2 * n):=by
   rw [Int.le_ediv_iff_mul_le hN]
   have:(b - a) * (2 * n)=2 * ((b - a) * n):=Int.mul_left_comm _ _ _
   omega
  have k1:(2 * (b - a) * i + n) / (2 * n) < 1:=by
   rw [Int.ediv_lt_iff_lt_mul hN]
   omega
  omega
theorem fl_add (x y N:Int) (hN:0 < N):y / N ≤ (x + y) / N - x / N∧(x + y) / N - x / N ≤ y / N + 1:=by
 have h1:=Int.ediv_mul_le x (show N ≠ 0 by omega)
 have h2:=Int.ediv_mul_le y (show N ≠ 0 by omega)
 have h3:=Int.lt_ediv_add_one_mul_self x hN
 have h4:=Int.lt_ediv_add_one_mul_self y hN
 have k0:x / N + y / N ≤ (x + y) / N:=by
  rw [Int.le_ediv_iff_mul_le hN,Int.add_mul]
  omega
 have k1:(x + y) / N < x / N + y / N + 2:=by
  rw [Int.ediv_lt_iff_lt_mul hN]
  rw [Int.add_mul,Int.one_mul] at h3 h4
  rw [Int.add_mul,Int.add_mul]
  omega
 omega
def stp (a b n:Int) (k:Nat):Int:=lin a b n ((k + 1:Nat):Int) - lin a b n (k:Int)
theorem stp_bd {a b n:Int} (n0:1 ≤ n) (k:Nat):2 * (b - a) / (2 * n) ≤ stp a b n k∧stp a b n k ≤ 2 * (b - a) / (2 * n) + 1:=by
 have h:=fl_add (2 * (b - a) * (k:Int) + n) (2 * (b - a)) (2 * n) (by omega)
 have e:2 * (b - a) * ((k + 1:Nat):Int) + n=2 * (b - a) * (k:Int) + n + 2 * (b - a):=by
  have:2 * (b - a) * ((k + 1:Nat):Int)=2 * (b - a) * (k:Int) + 2 * (b - a):=by
   rw [show ((k + 1:Nat):Int)=(k:Int) + 1 from rfl,Int.mul_add,Int.mul_one]
  omega
 unfold stp lin
 rw [e]
 omega
def stL (a b n:Int):List Int:=(List.range n.toNat).map (stp a b n)
theorem steps_of {a b n:Int} (a0:-500 ≤ a) (a1:a ≤ 500) (b0:-500 ≤ b) (b1:b ≤ 500) (n0:1 ≤ n) (n1:n ≤ 100):F_slope_Steps (lnL a b n)=some (stL a b n,0):=by
 obtain ⟨N,rfl⟩:∃ N:Nat,n=N:=⟨n.toNat,by omega⟩
 have hN:((N:Int)).toNat=N:=by omega
 have hlen:(lnL a b N).length=N + 1:=by rw [lnL_len,hN]
 have hb:∀ k:Nat,k < N + 1→-500 ≤ lin a b N k∧lin a b N k ≤ 500:=fun k hk=>lin_bd a0 a1 b0 b1 n0 (by omega) (by omega)
 have hi:∀ k:Nat,k < N + 1→idxO (lnL a b N) (k:Int)=some (lin a b N k):=fun k hk=>lnL_at a b N (by omega)
 unfold F_slope_Steps
 have hw:whileO (slope_Steps_l1 (lnL a b N)) 0=some (.inr ()):=by
  have key:∃ t,whileO (slope_Steps_l1 (lnL a b N)) 0=some t∧t=.inr ():=by
   refine loop_ix (N + 1) (fun _=>True) _ trivial ?_ ?_
   ·intro k hk _
    refine .inl ⟨?_,trivial⟩
    have:=hb k hk
    unfold slope_Steps_l1
    simp only [hlen,dT (show (k:Int) < ((N + 1:Nat):Int) by omega),if_true,hi k hk,Option.bind_some,swithin_eq,dT (show -1000 ≤ lin a b N k by omega),dT (show lin a b N k ≤ 1000 by omega),Bool.and_self,Bool.not_true,Bool.false_eq_true,if_false,w64_succ (show k < 9223372036854775807 by omega)]
   ·intro _
    refine ⟨_,?_,rfl⟩
    unfold slope_Steps_l1
    simp only [hlen,dF (show ¬ ((N + 1:Nat):Int) < ((N + 1:Nat):Int) by omega),Bool.false_eq_true,if_false]
  obtain ⟨t,t1,rfl⟩:=key
  exact t1
 have hm:makeO (N:Int) (0:Int)=some (List.replicate N 0):=makeO_of rfl (by omega)
 have hl:whileO (slope_list_int__s1_l1 (N:Int) (lnL a b N)) (List.replicate N 0,0)=some (stL a b N):=by
  have:=loop_set (B:=slope_list_int__s1_l1 (N:Int) (lnL a b N)) N (stp a b N) (0:Int) (t:=stL a b N) (fun k s hk hs=>?_) ?_
  ·exact this
  ·have h1:=hi (k + 1) (by omega)
   have h2:=hi k (by omega)
   have c1:=hb (k + 1) (by omega)
   have c2:=hb k (by omega)
   have e:w64 (lin a b N ((k + 1:Nat):Int) - lin a b N (k:Int))=stp a b N k:=w64_of (by omega) (by omega)
   unfold slope_list_int__s1_l1 F_slope_Steps_1_s0
   simp only [dT (show (k:Int) < (N:Int) by omega),if_true,w64_succ (show k < 9223372036854775807 by omega),h1,h2,Option.bind_some,e,idxO_nat (show k < s.length by omega),setO_nat (show k < s.length by omega)]
  ·unfold slope_list_int__s1_l1 stL
   rw [hN]
   simp
 have e1:w64 (((N + 1:Nat):Int) - 1)=(N:Int):=by rw [w64_of (by omega) (by omega)]; omega
 simp only [hlen,dF (show ¬ (1001:Int) < ((N + 1:Nat):Int) by omega),Bool.false_eq_true,if_false,hw,Option.bind_some,e1,if_pos (show (0:Int) < (N:Int) by omega)]
 unfold F_slope_list_int__s1
 simp only [hm,Option.bind_some,hl]
theorem edge39_of {a b n y:Int} (a0:-500 ≤ a) (a1:a ≤ 500) (b0:-500 ≤ b) (b1:b ≤ 500) (n0:1 ≤ n) (n1:n ≤ 100):F_raddletop_edge39 (lnL a b n) ⟨a,y⟩ ⟨b,n⟩=some true:=by
 have hlen:((lnL a b n).length:Int)=n + 1:=by rw [lnL_len]; omega
 have e1:w64 (n + 1)=n + 1:=w64_of (by omega) (by omega)
 have hsl:(stL a b n).length=n.toNat:=by simp [stL]
 have hsi:∀ k:Nat,k < n.toNat→idxO (stL a b n) (k:Int)=some (stp a b n k):=fun k hk=>by
  rw [idxO_nat (by omega)]
  simp [stL]
 have h0:=hsi 0 (by omega)
 have hq:∃ q:Int,-1000 ≤ q∧q ≤ 1000∧∀ k,q ≤ stp a b n k∧stp a b n k ≤ q + 1:=by
  refine ⟨2 * (b - a) / (2 * n),?_,?_,fun k=>stp_bd n0 k⟩
  ·rw [Int.le_ediv_iff_mul_le (by omega)]
   omega
  ·have:2 * (b - a) / (2 * n) < 1001:=by
    rw [Int.ediv_lt_iff_lt_mul (by omega)]
    omega
   omega
 obtain ⟨q,q0,q1,hq⟩:=hq
 have hw:∃ t,whileO (raddletop_edge39_l1 (stL a b n,0)) (stp a b n 0,stp a b n 0,0)=some t∧(q ≤ t.1∧t.1 ≤ q + 1∧q ≤ t.2∧t.2 ≤ q + 1):=by
  refine loop_at n.toNat (fun k (s:Int × Int)=>(s.1,s.2,(k:Int))) (fun _ s=>q ≤ s.1∧s.1 ≤ q + 1∧q ≤ s.2∧s.2 ≤ q + 1) _ (s0:=(stp a b n 0,stp a b n 0)) ⟨(hq 0).1,(hq 0).2,(hq 0).1,(hq 0).2⟩ ?_ ?_
  ·rintro k ⟨x,z⟩ hk ⟨i0,i1,i2,i3⟩
   have hs:=hq k
   refine .inl ⟨(if stp a b n k < x then stp a b n k else x,if z < stp a b n k then stp a b n k else z),?_,?_⟩
   ·unfold raddletop_edge39_l1
    simp only [hsl,dT (show (k:Int) < (n.toNat:Int) by omega),if_true,hsi k hk,Option.bind_some,w64_succ (show k < 9223372036854775807 by omega)]
   ·dsimp only at i0 i1 i2 i3 ⊢
    refine ⟨?_,?_,?_,?_⟩
    ·split <;> omega
    ·split <;> omega
    ·split <;> omega
    ·split <;> omega
  ·rintro ⟨x,z⟩ hI
   refine ⟨(x,z),?_,hI⟩
   unfold raddletop_edge39_l1
   simp only [hsl,dF (show ¬ (n.toNat:Int) < (n.toNat:Int) by omega),Bool.false_eq_true,if_false]
 obtain ⟨⟨x,z⟩,t1,t2⟩:=hw
 dsimp only at t2
 unfold F_raddletop_edge39
 simp only [dF (show ¬ n < 1 by omega),Bool.false_eq_true,if_false,e1,hlen,bne_self_eq_false,Option.bind_some,line_of a0 a1 b0 b1 n0 n1,steps_of a0 a1 b0 b1 n0 n1,hsl,nF (show ((n.toNat:Nat):Int)=n by omega)]
 have h0':idxO (stL a b n) 0=some (stp a b n 0):=h0
 simp only [h0',Option.bind_some]
 rw [t1]
 simp only [Option.bind_some]
 rw [same_self _ (by rw [lnL_len]; omega)]
 have e2:w64 (z - x)=z - x:=w64_of (by omega) (by omega)
 simp only [Option.bind_some,if_true,e2,dT (show z - x ≤ 1 by omega)]
noncomputable def F_slices_Backward___api_Stitch_api_Stitch_ (p0:(List api_Stitch)):Option (List api_Stitch):=
 some p0
def c_slices_Backward___api_Stitch_api_Stitch__val (r:(List api_Stitch)) (x:Value):Value:=.func (.func 78) #[] #[x]
def c_slices_Backward___api_Stitch_api_Stitch__D (r:(List api_Stitch)) (x:Value):List Fact:=[fPtr (rL r_api_Stitch) x r]
theorem c_slices_Backward___api_Stitch_api_Stitch_ (E:Nat→Prop) (w0:World) (p0:(List api_Stitch)) (v0:Value) (r:(List api_Stitch)) (h:F_slices_Backward___api_Stitch_api_Stitch_ p0=some r) (S:St0 E [] w0 w0 [] [fRep (rL r_api_Stitch) (v0) p0]) :
 Calls Try.prog 66 #[v0] w0 (Ret (X:=Value) E [] w0 (c_slices_Backward___api_Stitch_api_Stitch__val r) (fun _=>[]) (c_slices_Backward___api_Stitch_api_Stitch__D r)):=by
 unfold F_slices_Backward___api_Stitch_api_Stitch_ at h
 obtain ⟨a9,aa,_,rfl,_⟩:=S.know (i:=0) (e:=fRep (rL r_api_Stitch) (v0) p0) d
 refine sEnter (args:=[.slice a9 p0.length aa]) 4 Try.func66 d d (by simp) S (fun a S=>?_)
 refine sSeq (fun K3 ab=>sRegion (sBox (v:=.slice a9 p0.length aa) S (wN d) d d [.slice a9 p0.length aa] d d (lb d) fun a b4 w S=>sN S fun a S=>?_))
 refine lT (ab _ _ (sSeq (fun K5 ac=>sRegion (sFunc (g:=78) (vs:=[.pointer (some ⟨b4,0,none⟩)]) S (wN d) d d d (lb d) fun a S=>?_))))
 refine sN S fun a S=>?_
 refine lT (ac _ _ ?_)
 have S:=S.shutB (r:=(rL r_api_Stitch)) (T:=86) (b:=b4) (cs:=[.slice a9 p0.length aa]) 0 (.slice a9 p0.length aa) p0 d d (S.mem.know (i:=0) (e:=fRep (rL r_api_Stitch) (.slice a9 p0.length aa) p0) d)
 obtain rfl:=tS h
 exact wp_ret (sRet (.func (.func 78) #[] #[.pointer (some ⟨b4,0,none⟩)]) S (rsl1 d (rvT (t:=2) (v:=.func (.func 78) #[] #[.pointer (some ⟨b4,0,none⟩)]) S d)) ⟨(.pointer (some ⟨b4,0,none⟩)),d,S.mem.sel [] [0] (by decide) d d⟩)
noncomputable def slices_Backward___api_Stitch_api_Stitch__1_l1 {σ τ:Type} (p0:(List api_Stitch)) (B:σ→(Int × api_Stitch)→Option (σ ⊕ τ)):(Int × σ)→Option ((Int × σ) ⊕ ((σ ⊕ τ) ⊕ (σ))):=fun s0=>match s0 with
 | (s5,gz6)=>
  if decide (0 ≤ s5) then
   (idxO p0 s5).bind fun a9=>
   (B gz6 (s5,a9)).bind fun aa=>
   match aa with
   | .inl gz27=>
    some (.inl (w64 (s5 - 1),gz27))
   | .inr tz28=>
    some (.inr (.inl (.inr tz28)))
  else
   some (.inr (.inr gz6))
noncomputable def I_slices_Backward___api_Stitch_api_Stitch__1 (p0:(List api_Stitch)) (σ τ:Type) (B:σ→(Int × api_Stitch)→Option (σ ⊕ τ)) (gz0:σ):Option (σ ⊕ τ):=
 (whileO (slices_Backward___api_Stitch_api_Stitch__1_l1 p0 B) (w64 ((p0.length:Int) - 1),gz0)).bind fun z0=>match z0 with
  | .inl z=>
   some z
  | .inr gz10=>
   some (.inl gz10)
theorem it_slices_Backward___api_Stitch_api_Stitch__1 (p0:(List api_Stitch)) (v0:Value):SeqF Try.prog 78 #[v0] (fA2 (rI .i64) r_api_Stitch) (I_slices_Backward___api_Stitch_api_Stitch__1 p0) [fPtr (rL r_api_Stitch) (v0) p0]:=by
 refine seqF_of (lb:=[v0]) (fun σ τ B gz0 r h l J Jx E w0 hC S hJ=>?_)
 unfold I_slices_Backward___api_Stitch_api_Stitch__1 at h
 refine sEnterI (args:=[.func (.yield l) #[] #[],v0]) 19 Try.func78 d d (by simp) S (fun a S=>?_)
 refine sSeq (fun K1 ap=>sRegion ?_)
 obtain ⟨u2,S⟩:=pLoad (r:=(rL r_api_Stitch)) (q:=v0) (x:=p0) 0 S d
 obtain ⟨aq,ar,_,rfl,_⟩:=S.mem.know (i:=1) (e:=fRep (rL r_api_Stitch) (u2) p0) d
 refine sLoadV1 (vq:=v0) 0 (.slice aq p0.length ar) S (wN d) d d d d d (lb d) fun a S=>sLen S (wN d) d Try.underlying86 d d (lb d) fun a S=>sBin _ S (wN d) d d d (bSub _ _ _ _ (p0.length:Int) 1) d (lb d) fun a S=>sN S fun a S=>?_
 refine lT (ap _ _ (wp_block ?_))
 obtain ⟨t9,hl,g8⟩:=bS h
 refine sLoop hl (fun s0 a w=>match s0 with | (s5,gz6)=>∃ E w0,J gz6 E w0∧St [] E [] w0 19 a w [(0,.func (.yield l) #[] #[]),(1,v0),(3,iv s5)] [] [fPtr (rL r_api_Stitch) (v0) p0]) ⟨_,_,hJ,S.fix [] [2] (by decide) d d d⟩ ?_
 clear hl h
 intro s0 a w c0 hI h al
 obtain ⟨s5,gz6⟩:=s0
 unfold slices_Backward___api_Stitch_api_Stitch__1_l1 at h
 dsimp only at h hI
 obtain ⟨E,w0,hJ,S⟩:=hI
 refine sSeq (fun av af=>sSeq (fun aw ag=>sRegion (sM S fun a S=>?_)))
 refine sBin _ S (wN d) d d d (bGe _ _ _ _ .i64 s5 0) d (lb d) fun a S=>lT (ag _ _ ?_)
 rcases iS h with ⟨aa,h⟩ | ⟨aa,h⟩
 rotate_left
 ·refine sCondF S d aa ?_
  obtain rfl:=tS h
  obtain rfl:=al _ d
  have h:=g8
  try dsimp only at h
  exact wp_exit (xThen (xThen (xHit (sEnd (.tuple #[]) S (res0 d) (sGoI S hC hJ (Option.some.inj h) _)))))
 refine sCondT S d aa (wp_skip (leafT (af _ _ ?_)))
 refine sSeq (fun ax ah=>wp_block ?_)
 refine sSeq (fun ay ab=>sRegionY ?_)
 refine sSplitR (by repeat (first | exact roundU_out | exact it_out | exact lo_false | refine lo_then ?_ | refine lo_block ?_)) 6 d (fun az ai=>?_)
 refine sM S fun a S=>?_
 refine sM S fun a S=>?_
 obtain ⟨au,S⟩:=pLoad (r:=(rL r_api_Stitch)) (q:=v0) (x:=p0) 0 S d
 obtain ⟨ac,ae,_,rfl,_⟩:=S.mem.know (i:=1) (e:=fRep (rL r_api_Stitch) (au) p0) d
 refine sLoadV1 (vq:=v0) 0 (.slice ac p0.length ae) S (wN d) d d d d d (lb d) fun a S=>sM S fun a S=>?_
 obtain ⟨a9,aj,h⟩:=bS h
 obtain ⟨am,ak,S⟩:=pIdx (P:=Try.prog) (r:=r_api_Stitch) (v:=.slice ac p0.length ae) (xs:=p0) (j:=s5) 86 82 1 S Try.underlying86 d d aj
 refine sIdxV S (wN d) d d d ak d (lb d) fun a S=>?_
 obtain ⟨ao,S⟩:=pLoad (r:=r_api_Stitch) (q:=am) (x:=a9) 0 S d
 obtain rfl:ao=.agg #[.int .u8 a9.Kind,.bool a9.Purl,iv a9.A,iv a9.B]:=S.mem.know (i:=1) (e:=fRep r_api_Stitch (ao) a9) d
 refine sLoadVN (vq:=am) 0 [.int .u8 a9.Kind,.bool a9.Purl,iv a9.A,iv a9.B] S (wN d) d d d d d d (lb d) fun a S=>leafL ⟨d,ai _ _ ?_⟩
 obtain ⟨aA,hy26,h⟩:=bS h
 refine sYieldI (s5,a9) [iv s5,.agg #[.int .u8 a9.Kind,.bool a9.Purl,iv a9.A,iv a9.B]] S hC hJ hy26 (fA2_mk (d) (S.mem.know (i:=1) (e:=fRep r_api_Stitch (.agg #[.int .u8 a9.Kind,.bool a9.Purl,iv a9.A,iv a9.B]) a9) d)) (wN d) d d d d (by decide) (fun gz27 E a w hb hJ S=>?_) (fun tz28 a w hb hJ S=>?_)
 ·obtain rfl:=hb
  dsimp only at h
  refine list_inR (by repeat (first | exact roundU_out | exact it_out | exact lo_false | refine lo_then ?_ | refine lo_block ?_)) _ d _ _ ?_
  refine sNot (b:=true) S (wN d) d d d (lb d) fun a S=>lT (ab _ _ (sCondF S d d (wp_skip (leafB (leafT (ah _ _ ?_))))))
  refine sRegion (sM S fun a S=>?_)
  refine sBin _ S (wN d) d d d (bSub _ _ _ _ s5 1) d (lb d) fun a S=>sN S fun a S=>?_
  exact lT (⟨(w64 (s5 - 1),gz27),(Option.some.inj h).symm,⟨_,_,hJ,S.fix [] [5] (by decide) d d d⟩⟩)
 ·obtain rfl:=hb
  dsimp only at h
  refine list_inR (by repeat (first | exact roundU_out | exact it_out | exact lo_false | refine lo_then ?_ | refine lo_block ?_)) _ d _ _ ?_
  refine sNot (b:=false) S (wN d) d d d (lb d) fun a S=>lT (ab _ _ (sCondT S d d ?_))
  obtain rfl:=tS h
  obtain rfl:=al _ d
  have h:=g8
  try dsimp only at h
  exact wp_ret (rBlock (rThen (rThen (rBlock (sRet (.tuple #[]) S (res0 d) (sStopI S hC hJ (Option.some.inj h) _))))))
noncomputable def stitch_Turn_l2 :List api_Stitch→(Int × api_Stitch)→Option (List api_Stitch ⊕ Empty):=fun s0 x0=>match s0,x0 with
 | ab,(ah,a9)=>
  (F_stitch_forms a9.Kind).bind fun aa=>
  Option.bind (α:=Bool) (
   if aa.1.sided then
    some (!a9.Purl)
   else
    some false) fun ac=>
  Option.bind (α:=(Int × Int)) (
   if decide (0 < aa.1.b.2) then
    some (a9.B,a9.A)
   else
    some (a9.A,a9.B)) fun (ae,af)=>
  (appO ab [(api_Stitch.mk a9.Kind ac ae af)]).bind fun ag=>
  some (.inl ag)
noncomputable def F_stitch_Turn (p0:(List api_Stitch)):Option ((List api_Stitch) × Int):=
 (F_stitch_All p0).bind fun r6=>
 if r6 != 0 then
  some (([]:(List api_Stitch)),r6)
 else
  (capO (p0.length:Int)).bind fun ab=>
  (F_slices_Backward___api_Stitch_api_Stitch_ p0).bind fun a9=>
  (I_slices_Backward___api_Stitch_api_Stitch__1 a9 _ _ (stitch_Turn_l2) ([]:List api_Stitch)).bind fun z0=>match z0 with
   | .inl aa=>
    some (aa,0)
   | .inr z0=>
    nomatch z0
def c_stitch_Turn_val (r:((List api_Stitch) × Int)) (x:Value):Value:=.tuple #[x,.int .i64 r.2]
def c_stitch_Turn_D (r:((List api_Stitch) × Int)) (x:Value):List Fact:=[fRep (rL r_api_Stitch) x r.1]
theorem c_stitch_Turn (E:Nat→Prop) (w0:World) (p0:(List api_Stitch)) (v0:Value) (r:((List api_Stitch) × Int)) (h:F_stitch_Turn p0=some r) (S:St0 E [] w0 w0 [] [fRep (rL r_api_Stitch) (v0) p0]) :
 Calls Try.prog 41 #[v0] w0 (Ret (X:=Value) E [] w0 (c_stitch_Turn_val r) (fun _=>[]) (c_stitch_Turn_D r)):=by
 unfold F_stitch_Turn at h
 obtain ⟨ax,ay,_,rfl,_⟩:=S.know (i:=0) (e:=fRep (rL r_api_Stitch) (v0) p0) d
 refine sEnterM (args:=[.slice ax p0.length ay]) 51 Try.func41 d d (by simp) S (fun a S=>?_)
 refine sSeq (fun K3 b8=>sRegion (sN S fun a S=>?_))
 refine sN S fun a S=>?_
 refine lT (b8 _ _ (sSeq (fun K4 ba=>sSeq (fun K5 bb=>sRegion (sM S fun a S=>?_)))))
 obtain ⟨r6,bc,h⟩:=bS h
 have S1:=S.mem
 refine sCq [.slice ax p0.length ay] (iv r6) S callee55 (S1.quiet [0] d) (fun E1 w1 S1=>c_stitch_All E1 w1 p0 (.slice ax p0.length ay) r6 bc S1) fun a w S=>?_
 refine sN S fun a S=>?_
 refine lT (bb _ _ (sSeq (fun K8 bf=>sRegion (sM S fun a S=>?_))))
 refine sBin _ S (wN d) d d d (bNe _ _ _ _ .i64 r6 0) d (lb d) fun a S=>lT (bf _ _ ?_)
 rcases iS h with ⟨aC,h⟩ | ⟨aC,h⟩
 ·refine sCondT S d aC (sSeq (fun bm aG=>sRegion (sM S fun a S=>?_)))
  refine sN S fun a S=>?_
  refine sN S fun a S=>?_
  refine lT (aG _ _ ?_)
  obtain rfl:=tS h
  have S:=S.learn (fRep (rL r_api_Stitch) (.slice none 0 0) ([]:(List api_Stitch))) (rL_nil _ _ _)
  exact wp_ret (rThen (sRetM0 (.tuple #[.slice none 0 0,iv r6]) S (rsl2 d (rvT (t:=2) (v:=.slice none 0 0) S d) (rvT (t:=3) (v:=iv r6) S d)) ⟨(.slice none 0 0),d,S.mem.sel [] [0] (by decide) d d⟩))
 refine sCondF S d aC (wp_skip (leafT (ba _ _ ?_)))
 refine sSeq (fun bn aH=>sRegion (sM S fun a S=>?_))
 refine sLen S (wN d) d Try.underlying86 d d (lb d) fun a S=>?_
 obtain ⟨bg,aI,h⟩:=bS h
 refine sMake0 r_api_Stitch (m:=(p0.length:Int)) (u:=bg) (.agg #[.int .u8 0,.bool false,iv 0,iv 0]) 24 S (wN d) d Try.underlying86 d (by decide) d d aI d (lb d) fun a w ah ai S=>?_
 refine sAlloc (.slice none 0 0) S (wN d) d d [.slice none 0 0] d d (lb d) fun a am w S=>sStore (p:=am) (off:=0) (T:=86) (vs:=[.slice none 0 0]) (v:=.slice ah ([]:List api_Stitch).length ai) 0 [.slice ah ([]:List api_Stitch).length ai] S (wN d) d d d d d d d (by simp) d fun a w S=>lT (aH _ _ (sSeq (fun bo aJ=>sSeq (fun bp aK=>sRegion (sM S fun a S=>?_)))))
 obtain ⟨ap,aL,h⟩:=bS h
 refine sCall (X:=Value) (f:=66) (vs:=[.slice ax p0.length ay]) (val:=c_slices_Backward___api_Stitch_api_Stitch__val ap) (B':=fun _=>[]) (D':=c_slices_Backward___api_Stitch_api_Stitch__D ap) [] [eBox am 86 [.slice ah ([]:List api_Stitch).length ai],eRow r_api_Stitch 82 (.slice ah ([]:List api_Stitch).length ai) ([]:List api_Stitch)] [fRep (rL r_api_Stitch) (.slice ax p0.length ay) p0] [0,1] [0] S (wN d) d callee66 d (by decide) d d (fun E1 w1 S1=>c_slices_Backward___api_Stitch_api_Stitch_ E1 w1 p0 (.slice ax p0.length ay) ap aL S1) d (lb d) fun ao a w S=>?_
 refine lT (aK _ _ (wp_block ?_))
 obtain ⟨bq,aq,aA⟩:=bS h
 replace S:St [] E [] w0 51 a w [(5,.pointer (some ⟨am,0,none⟩)),(19,.func (.func 78) #[] #[ao])] [eBox am 86 [.slice ah ([]:List api_Stitch).length ai],eRow r_api_Stitch 82 (.slice ah ([]:List api_Stitch).length ai) ([]:List api_Stitch)] [fPtr (rL r_api_Stitch) (ao) ap]:=S.fix [0,1] [0] (by decide) rfl rfl rfl
 refine sRange2 (B:=stitch_Turn_l2) (fun s0 L D=>match s0 with | ac=>∃ aa,∃ ab,L=[eBox am 86 [.slice aa ac.length ab],eRow r_api_Stitch 82 (.slice aa ac.length ab) ac]∧D=[fPtr (rL r_api_Stitch) (ao) ap]) (fun _ _ _ _=>False) [0] S aq d callee78 (it_slices_Backward___api_Stitch_api_Stitch__1 ap ao) d (by decide) (by decide) ⟨ah,ai,d,d⟩ ?_ ?_ ?_
 ·intro E l0 ac aV a9 aW aX b L D K a w0 hK hIL hB S
  clear aq aA h hK
  unfold stitch_Turn_l2 at hB
  dsimp only at hB hIL
  obtain ⟨aa,ab,rfl,rfl⟩:=hIL
  have h:=hB
  clear hB
  obtain rfl:aW=iv aV:=S.mem.know (i:=0) (e:=fRep (rI .i64) (aW) aV) d
  obtain rfl:aX=.agg #[.int .u8 a9.Kind,.bool a9.Purl,iv a9.A,iv a9.B]:=S.mem.know (i:=1) (e:=fRep r_api_Stitch (aX) a9) d
  refine sRegionR (by repeat (first | exact roundU_out | exact it_out | exact lo_false | refine lo_then ?_ | refine lo_block ?_)) d ?_
  refine sAlloc (.agg #[.int .u8 0,.bool false,iv 0,iv 0]) S (wN d) d d [.int .u8 0,.bool false,iv 0,iv 0] d d (lb d) fun a af w S=>sStore (p:=af) (off:=0) (T:=82) (vs:=[.int .u8 0,.bool false,iv 0,iv 0]) (v:=.agg #[.int .u8 a9.Kind,.bool a9.Purl,iv a9.A,iv a9.B]) 0 [.int .u8 a9.Kind,.bool a9.Purl,iv a9.A,iv a9.B] S (wN d) d d d d d d d (by simp) d fun a w S=>lT (⟨_,_,_,S,fun K a w0 hK S=>?_⟩)
  refine wpIn_block ?_
  refine sSeqR (fun br aM=>sRegionR (by repeat (first | exact roundU_out | exact it_out | exact lo_false | refine lo_then ?_ | refine lo_block ?_)) d ?_)
  refine sField (b:=af) (off:=0) 0 0 S (wN d) d d d d d (lb d) fun a S=>sLoad1 0 (.int .u8 a9.Kind) S (wN d) d d d d d d (lb d) fun a S=>?_
  obtain ⟨ae,aO,h⟩:=bS h
  refine sCall (X:=Value) (f:=67) (vs:=[.int .u8 a9.Kind]) (val:=c_stitch_forms_val ae) (B':=fun _=>[]) (D':=c_stitch_forms_D ae) [] [eBox af 82 [.int .u8 a9.Kind,.bool a9.Purl,iv a9.A,iv a9.B],eBox am 86 [.slice aa ac.length ab],eRow r_api_Stitch 82 (.slice aa ac.length ab) ac] [] [0,1,2] [] S (wN d) d callee67 d (by decide) d d (fun E1 w1 S1=>c_stitch_forms E1 w1 a9.Kind ae aO S1) d (lb d) fun aZ a w S=>?_
  obtain rfl:aZ=gv_stitch_form ae.1:=S.mem.know (i:=0) (e:=fRep r_stitch_form (aZ) ae.1) d
  refine sM S fun a S=>?_
  refine sExtract (vs:=[gv_stitch_form ae.1,.bool ae.2]) (gv_stitch_form ae.1) S (wN d) d d d d (lb d) fun a S=>sExtract (vs:=[gv_stitch_form ae.1,.bool ae.2]) (.bool ae.2) S (wN d) d d d d (lb d) fun a S=>sAlloc (gv_stitch_form (stitch_form.mk (⟨#[]⟩:ByteArray) (0,0) (0,0) false 0 0)) S (wN d) d d (gl_stitch_form (stitch_form.mk (⟨#[]⟩:ByteArray) (0,0) (0,0) false 0 0)) d d (lb d) fun a az w S=>sStore (p:=az) (off:=0) (T:=116) (vs:=[.string (⟨#[]⟩:ByteArray),iv 0,iv 0,iv 0,iv 0,.bool false,iv 0,iv 0]) (v:=gv_stitch_form ae.1) 0 [.string ae.1.letter,iv ae.1.a.1,iv ae.1.a.2,iv ae.1.b.1,iv ae.1.b.2,.bool ae.1.sided,iv ae.1.uses,iv ae.1.made] S (wN d) d d d d d d d (by simp) d fun a w S=>sN S fun a S=>?_
  refine lT (aM _ _ ?_)
  obtain ⟨bh,h,bi⟩:=bS h
  refine sCutR (fun a w=>∃ ag,ag=bh∧St [] E K w0 51 a w [(5,.pointer (some ⟨am,0,none⟩)),(7,.pointer (some ⟨af,0,none⟩)),(8,.pointer (some ⟨az,0,none⟩)),(19,.func (.func 78) #[] #[ao]),(21,.agg #[.int .u8 a9.Kind,.bool a9.Purl,iv a9.A,iv a9.B])] [eBox am 86 [.slice aa ac.length ab],eBox af 82 [.int .u8 a9.Kind,.bool ag,iv a9.A,iv a9.B],eBox az 116 (gl_stitch_form ae.1),eRow r_api_Stitch 82 (.slice aa ac.length ab) ac] [fPtr (rL r_api_Stitch) (ao) ap]) ?_ (fun a w hI=>?_)
  ·refine sRegionR (by repeat (first | exact roundU_out | exact it_out | exact lo_false | refine lo_then ?_ | refine lo_block ?_)) d ?_
   refine sField (b:=az) (off:=0) 5 5 S (wN d) d d d d d (lb d) fun a S=>sLoad1 0 (.bool ae.1.sided) S (wN d) d d d d d d (lb d) fun a S=>sM S fun a S=>?_
   rcases iS h with ⟨aj,h⟩ | ⟨aj,h⟩
   rotate_left
   ·refine sSkN 3 2 true 30 S d d aj d fun a S=>sPickF (.bool false) S (wN d) d d aj d d (lb d) fun a S=>sField (b:=af) (off:=0) 1 1 S (wN d) d d d d d (lb d) fun a S=>sStore (p:=af) (off:=1) (T:=82) (vs:=[.int .u8 a9.Kind,.bool a9.Purl,iv a9.A,iv a9.B]) (v:=.bool false) 1 [.bool false] S (wN d) d d d d d d d (by simp) d fun a w S=>?_
    exact lT (⟨false,Option.some.inj h,S.fix [2,0,1,3] [3] (by decide) d d d⟩)
   refine sField (b:=af) (off:=0) 1 1 S (wG 2 true 30 d d d aj) d d d d d (lb d) fun a S=>sLoad1 1 (.bool a9.Purl) S (wG 2 true 30 d d d aj) d d d d d d (lb d) fun a S=>sNot (b:=a9.Purl) S (wG 2 true 30 d d d aj) d d d (lb d) fun a S=>sPickT (.bool (!a9.Purl)) S (wN d) d d aj d d (lb d) fun a S=>sField (b:=af) (off:=0) 1 1 S (wN d) d d d d d (lb d) fun a S=>sStore (p:=af) (off:=1) (T:=82) (vs:=[.int .u8 a9.Kind,.bool a9.Purl,iv a9.A,iv a9.B]) (v:=.bool (!a9.Purl)) 1 [.bool (!a9.Purl)] S (wN d) d d d d d d d (by simp) d fun a w S=>?_
   exact lT (⟨!a9.Purl,Option.some.inj h,S.fix [2,0,1,3] [3] (by decide) d d d⟩)
  obtain ⟨ag,rfl,S⟩:=hI
  have h:=bi
  try dsimp only at h
  obtain ⟨bj,h,bl⟩:=bS h
  refine sCutR (fun a w=>∃ ak,∃ al,(ak,al)=bj∧St [] E K w0 51 a w [(5,.pointer (some ⟨am,0,none⟩)),(7,.pointer (some ⟨af,0,none⟩)),(19,.func (.func 78) #[] #[ao]),(21,.agg #[.int .u8 a9.Kind,.bool a9.Purl,iv a9.A,iv a9.B])] [eBox am 86 [.slice aa ac.length ab],eBox af 82 [.int .u8 a9.Kind,.bool ag,iv ak,iv al],eRow r_api_Stitch 82 (.slice aa ac.length ab) ac] [fPtr (rL r_api_Stitch) (ao) ap]) ?_ (fun a w hI=>?_)
  rotate_left
  ·obtain ⟨ak,al,rfl,S⟩:=hI
   have h:=bl
   try dsimp only at h
   refine sRegionR (by repeat (first | exact roundU_out | exact it_out | exact lo_false | refine lo_then ?_ | refine lo_block ?_)) d ?_
   refine sLoad1 0 (.slice aa ac.length ab) S (wN d) d d d d d d (lb d) fun a S=>sLoadN (p:=af) (off:=0) (T:=82) (vs:=[.int .u8 a9.Kind,.bool ag,iv ak,iv al]) 1 [.int .u8 a9.Kind,.bool ag,iv ak,iv al] S (wN d) d d d d d d d (lb d) fun a S=>?_
   have S:=S.learn (fRep r_api_Stitch (.agg #[.int .u8 a9.Kind,.bool ag,iv ak,iv al]) (api_Stitch.mk a9.Kind ag ak al)) d
   refine sLit (r:=r_api_Stitch) (T:=82) (xs:=[(api_Stitch.mk a9.Kind ag ak al)]) [(0,.agg #[.int .u8 a9.Kind,.bool ag,iv ak,iv al])] 1 [.agg #[.int .u8 a9.Kind,.bool ag,iv ak,iv al]] [.int .u8 a9.Kind,.bool ag,iv ak,iv al] (.agg #[.int .u8 0,.bool false,iv 0,iv 0]) 24 S (wN d) d d Try.underlying86 d (by decide) (by decide) (by kernel_rfl) d (fun E1 w1 hE=>All.cons (r_api_Stitch.mono hE (S.mem.know (i:=0) (e:=fRep r_api_Stitch (.agg #[.int .u8 a9.Kind,.bool ag,iv ak,iv al]) (api_Stitch.mk a9.Kind ag ak al)) d)) (All.nil _ _ _)) d d (lb d) fun a w aP aQ S=>?_
   obtain ⟨aR,aS,h⟩:=bS h
   refine sApp (r:=r_api_Stitch) (T:=82) (xs:=ac) (ys:=[(api_Stitch.mk a9.Kind ag ak al)]) (v:=.slice aa ac.length ab) (u:=.slice aP [(api_Stitch.mk a9.Kind ag ak al)].length aQ) 3 (.agg #[.int .u8 0,.bool false,iv 0,iv 0]) 24 S (wN d) d Try.underlying86 d d (by decide) d d d (src_R (T:=82) 0 S.mem d) aS d (lb d) fun a w ar au S=>sStore (p:=am) (off:=0) (T:=86) (vs:=[.slice aa ac.length ab]) (v:=.slice ar aR.length au) 2 [.slice ar aR.length au] S (wN d) d d d d d d d (by simp) d fun a w S=>?_
   exact leafL (leafB (rnN aR _ _ [] (Option.some.inj h) ⟨ar,au,d,d⟩ (S.fix [0,1] [1] (by decide) d d d)))
  refine sSeqR (fun bt aT=>sRegionR (by repeat (first | exact roundU_out | exact it_out | exact lo_false | refine lo_then ?_ | refine lo_block ?_)) d ?_)
  refine sField (b:=az) (off:=0) 3 3 S (wN d) d d d d d (lb d) fun a S=>sIdxV S (wN d) d d d (idxV_arr (m:=2) (sz:=1) Try.underlying80 d (by decide) (by decide) 3) d (lb d) fun a S=>sLoad1 2 (iv ae.1.b.2) S (wN d) d d d d d d (lb d) fun a S=>sBin _ S (wN d) d d d (bGt _ _ _ _ .i64 ae.1.b.2 0) d (lb d) fun a S=>lT (aT _ _ ?_)
  rcases iS h with ⟨av,h⟩ | ⟨av,h⟩
  rotate_left
  ·refine sCondFR S d av ?_
   exact wpIn_skip (leafT (⟨a9.A,a9.B,Option.some.inj h,S.fix [0,1,3] [0] (by decide) d d d⟩))
  refine sCondTR S d av ?_
  refine sRegionR (by repeat (first | exact roundU_out | exact it_out | exact lo_false | refine lo_then ?_ | refine lo_block ?_)) d ?_
  refine sField (b:=af) (off:=0) 3 3 S (wN d) d d d d d (lb d) fun a S=>sLoad1 1 (iv a9.B) S (wN d) d d d d d d (lb d) fun a S=>sField (b:=af) (off:=0) 2 2 S (wN d) d d d d d (lb d) fun a S=>sLoad1 1 (iv a9.A) S (wN d) d d d d d d (lb d) fun a S=>sField (b:=af) (off:=0) 2 2 S (wN d) d d d d d (lb d) fun a S=>sStore (p:=af) (off:=2) (T:=82) (vs:=[.int .u8 a9.Kind,.bool ag,iv a9.A,iv a9.B]) (v:=iv a9.B) 1 [iv a9.B] S (wN d) d d d d d d d (by simp) d fun a w S=>sField (b:=af) (off:=0) 3 3 S (wN d) d d d d d (lb d) fun a S=>sStore (p:=af) (off:=3) (T:=82) (vs:=[.int .u8 a9.Kind,.bool ag,iv a9.B,iv a9.B]) (v:=iv a9.A) 0 [iv a9.A] S (wN d) d d d d d d d (by simp) d fun a w S=>?_
  exact lT (⟨a9.B,a9.A,Option.some.inj h,S.fix [1,0,3] [0] (by decide) d d d⟩)
 ·intro aw ac L D a w hr hIL S
  clear h
  obtain rfl:=hr
  dsimp only at aA hIL
  obtain ⟨aa,ab,rfl,rfl⟩:=hIL
  have h:=aA
  clear aA aq
  replace S:St [mark aw] E [] w0 51 a w [(5,.pointer (some ⟨am,0,none⟩)),(19,.func (.func 78) #[] #[ao])] [eBox am 86 [.slice aa ac.length ab],eRow r_api_Stitch 82 (.slice aa ac.length ab) ac,eDef aw] [fPtr (rL r_api_Stitch) (ao) ap]:=S
  refine leafB (leafT (aJ _ _ ?_))
  refine sSeq (fun bu aU=>sRegion (sLoad1 0 (.slice aa ac.length ab) S (wN d) d d d d d d (lb d) fun a S=>sN S fun a S=>?_))
  refine sN S fun a S=>?_
  refine lT (aU _ _ (wp_ret (sRetM1 2 S d (fun a w S=>?_))))
  obtain rfl:=tS h
  have S:=S.shutR (r:=r_api_Stitch) (T:=82) (v:=.slice aa ac.length ab) (xs:=ac) 1 d
  exact sFin (.tuple #[.slice aa ac.length ab,iv 0]) S (rsl2 d (rvT (t:=2) (v:=.slice aa ac.length ab) S d) (rvT (t:=3) (v:=iv 0) S d)) ⟨(.slice aa ac.length ab),d,S.mem.sel [] [0] (by decide) d d⟩
 ·intro aw c0 t0 L D a w hr hIX S
  clear h
  exact hIX.elim
theorem take_one {α:Type} (l:List α) {k:Nat} (hk:k < l.length):l.take (k + 1)=l.take k ++ [l[k]]:=by
 rw [List.take_add_one,List.getElem?_eq_getElem hk]; rfl
def othS (p:api_Stitch):api_Stitch:=⟨p.Kind,if p.Kind=2 ∨ p.Kind=9 then p.Purl else !p.Purl,if p.Kind=6 ∨ p.Kind=7 then p.B else p.A,if p.Kind=6 ∨ p.Kind=7 then p.A else p.B⟩
theorem purl_no {p:api_Stitch} (h:okS p) (k:p.Kind=2 ∨ p.Kind=9):p.Purl=false:=by
 rcases h with h | h | h | h | h | h
 ·omega
 ·exact h.2.2.2
 ·omega
 ·omega
 ·exact h.2.2.2.2
 ·omega
theorem turn_form {p:api_Stitch} (h:okS p):∃ f,F_stitch_forms p.Kind=some (f,true)∧(if f.sided=true then some (!p.Purl) else some false)=some (othS p).Purl∧(if decide (0 < f.b.2)=true then some (p.B,p.A) else some (p.A,p.B))=some ((othS p).A,(othS p).B):=by
 have hb:=okS_bd h
 unfold othS
 rcases kinds (x:=p.Kind) (by omega) with k | k | k | k | k | k | k | k | k | k | k | k
 ·omega
 ·exact ⟨⟨⟨#[]⟩,(0,0),(0,0),true,1,1⟩,by rw [k]; rfl,by simp [k],by simp [k]⟩
 ·exact ⟨⟨⟨#[]⟩,(0,0),(0,0),false,0,1⟩,by rw [k]; rfl,by simp [k,purl_no h (.inl k)],by simp [k]⟩
 ·exact ⟨⟨⟨#[102]⟩,(2,4),(0,0),true,2,1⟩,by rw [k]; rfl,by simp [k],by simp [k]⟩
 ·exact ⟨⟨⟨#[108]⟩,(2,4),(0,0),true,2,1⟩,by rw [k]; rfl,by simp [k],by simp [k]⟩
 ·exact ⟨⟨⟨#[109]⟩,(2,4),(0,0),true,1,2⟩,by rw [k]; rfl,by simp [k],by simp [k]⟩
 ·exact ⟨⟨⟨#[120]⟩,(1,6),(1,6),true,3,3⟩,by rw [k]; rfl,by simp [k],by simp [k]⟩
 ·exact ⟨⟨⟨#[121]⟩,(1,6),(1,6),true,3,3⟩,by rw [k]; rfl,by simp [k],by simp [k]⟩
 ·exact ⟨⟨⟨#[115]⟩,(0,0),(0,0),true,1,1⟩,by rw [k]; rfl,by simp [k],by simp [k]⟩
 ·exact ⟨⟨⟨#[]⟩,(1,200),(0,0),false,0,2⟩,by rw [k]; rfl,by simp [k,purl_no h (.inr k)],by simp [k]⟩
 ·exact ⟨⟨⟨#[111]⟩,(1,200),(0,0),true,2,0⟩,by rw [k]; rfl,by simp [k],by simp [k]⟩
 ·omega
theorem turn_step {p:api_Stitch} (h:okS p) (s:List api_Stitch) (hs:s.length ≤ 1000000000) (i:Int):stitch_Turn_l2 s (i,p)=some (.inl (s ++ [othS p])):=by
 obtain ⟨f,f1,f2,f3⟩:=turn_form h
 unfold stitch_Turn_l2
 simp only [f1,Option.bind_some,f2,f3]
 rw [appO_of (by simp; omega)]
 rfl
def bkw {α:Type} (l:List α):Nat→List (Int × α)
 | 0=>[]
 | k + 1=>match l[k]? with
  | some x=>((k:Int),x) :: bkw l k
  | none=>bkw l k
theorem bkw_fold {α β τ:Type} {B:List β→(Int × α)→Option (List β ⊕ τ)} (l:List α) (g:α→β) (m:Nat) (hB:∀ s x i,x ∈ l→s.length ≤ m→B s (i,x)=some (.inl (s ++ [g x]))):∀ (k:Nat) (s:List β),k ≤ l.length→s.length + k ≤ m→foldO B s (bkw l k)=some (.inl (s ++ ((l.take k).map g).reverse)):=by
 intro k
 induction k with
 | zero=>intro s _ _; simp [bkw,foldO]
 | succ k ih=>
  intro s hk hs
  have hx:l[k]?=some (l[k]'(by omega)):=List.getElem?_eq_getElem (by omega)
  simp only [bkw,hx,foldO]
  rw [hB s _ _ (List.getElem_mem _) (by omega)]
  simp only [Option.bind_some]
  rw [ih _ (by omega) (by simp; omega),take_one l (by omega),List.map_append,List.reverse_append,List.append_assoc]
  rfl
theorem back_loop {σ τ:Type} (l:List api_Stitch) (hl:l.length ≤ 1000000000) (B:σ→(Int × api_Stitch)→Option (σ ⊕ τ)):∀ (k:Nat) (z:σ),k ≤ l.length→(whileO (slices_Backward___api_Stitch_api_Stitch__1_l1 l B) ((k:Int) - 1,z)).bind fin3=foldO B z (bkw l k):=by
 intro k
 induction k with
 | zero=>
  intro z _
  have:slices_Backward___api_Stitch_api_Stitch__1_l1 l B (((0:Nat):Int) - 1,z)=some (.inr (.inr z)):=by
   unfold slices_Backward___api_Stitch_api_Stitch__1_l1
   simp only [dF (show ¬ (0:Int) ≤ ((0:Nat):Int) - 1 by omega),Bool.false_eq_true,if_false]
  rw [whileO_done this]
  rfl
 | succ k ih=>
  intro z hk
  have e:((k + 1:Nat):Int) - 1=(k:Int):=by omega
  have hx:l[k]?=some (l[k]'(by omega)):=List.getElem?_eq_getElem (by omega)
  have e1:slices_Backward___api_Stitch_api_Stitch__1_l1 l B ((k:Int),z)=(B z ((k:Int),l[k]'(by omega))).bind fun y=>match y with | .inl z'=>some (.inl ((k:Int) - 1,z')) | .inr t=>some (.inr (.inl (.inr t))):=by
   unfold slices_Backward___api_Stitch_api_Stitch__1_l1
   simp only [dT (show (0:Int) ≤ (k:Int) by omega),if_true,idxO_nat (show k < l.length by omega),Option.bind_some,w64_of (show (-9223372036854775808:Int) ≤ (k:Int) - 1 by omega) (by omega)]
   try congr 1
  simp only [bkw,hx]
  rw [e,whileO_eq,e1,foldO]
  cases hb:B z ((k:Int),l[k]'(by omega)) with
  | none=>rfl
  | some y=>
   cases y with
   | inl z'=>exact ih z' (by omega)
   | inr t=>rfl
theorem backI_eq {σ τ:Type} (l:List api_Stitch) (hl:l.length ≤ 1000000000) (B:σ→(Int × api_Stitch)→Option (σ ⊕ τ)) (z:σ):I_slices_Backward___api_Stitch_api_Stitch__1 l σ τ B z=foldO B z (bkw l l.length):=by
 rw [← back_loop l hl B l.length z (Nat.le_refl _)]
 unfold I_slices_Backward___api_Stitch_api_Stitch__1
 rw [w64_of (show (-9223372036854775808:Int) ≤ (l.length:Int) - 1 by omega) (by omega)]
 try congr 1
theorem turn_eq {l:List api_Stitch} (hw:∀ p,p ∈ l→wfS p):F_stitch_Turn l=some (if allS l=0 then ((l.map othS).reverse,0) else ([],allS l)):=by
 unfold F_stitch_Turn F_slices_Backward___api_Stitch_api_Stitch_
 rw [all_eq hw]
 by_cases h:allS l=0
 case neg=>simp only [Option.bind_some,nT h,if_true,if_neg h]
 have hk:=allS_ok h
 simp only [Option.bind_some,nF h,Bool.false_eq_true,if_false,capO_of (n:=(l.length:Int)) (k:=l.length) rfl (by omega),if_pos h]
 rw [backI_eq l (by omega),bkw_fold l othS 1000000000 (fun s x i hx hs=>turn_step (hk.2.1 x hx) s hs i) l.length [] (Nat.le_refl _) (by simp; omega),List.take_length]
 rfl
theorem oth_ok {p:api_Stitch} (h:okS p):okS (othS p)∧usedS (othS p)=usedS p∧madeS (othS p)=madeS p:=by
 have hb:=okS_bd h
 have hk:(othS p).Kind=p.Kind:=rfl
 rcases kinds (x:=p.Kind) (by omega) with k | k | k | k | k | k | k | k | k | k | k | k
 ·omega
 ·refine ⟨?_,?_,?_⟩ <;> simp [okS,usedS,madeS,othS,k] at h ⊢ <;> omega
 ·refine ⟨?_,?_,?_⟩ <;> simp [okS,usedS,madeS,othS,k] at h ⊢ <;> exact h
 ·refine ⟨?_,?_,?_⟩ <;> simp [okS,usedS,madeS,othS,k] at h ⊢ <;> omega
 ·refine ⟨?_,?_,?_⟩ <;> simp [okS,usedS,madeS,othS,k] at h ⊢ <;> omega
 ·refine ⟨?_,?_,?_⟩ <;> simp [okS,usedS,madeS,othS,k] at h ⊢ <;> omega
 ·refine ⟨?_,?_,?_⟩ <;> simp [okS,usedS,madeS,othS,k] at h ⊢ <;> omega
 ·refine ⟨?_,?_,?_⟩ <;> simp [okS,usedS,madeS,othS,k] at h ⊢ <;> omega
 ·refine ⟨?_,?_,?_⟩ <;> simp [okS,usedS,madeS,othS,k] at h ⊢ <;> omega
 ·refine ⟨?_,?_,?_⟩ <;> simp [okS,usedS,madeS,othS,k] at h ⊢ <;> first | exact h | omega
 ·refine ⟨?_,?_,?_⟩ <;> simp [okS,usedS,madeS,othS,k] at h ⊢ <;> omega
 ·omega
theorem sm_reverse {α:Type} (f:α→Int) (l:List α):sm f l.reverse=sm f l:=by
 induction l with
 | nil=>rfl
 | cons x l ih=>rw [List.reverse_cons,sm_append,ih]; simp only [sm]; omega
theorem sm_oth {l:List api_Stitch} (h:allOk l):sm usedS (l.map othS)=sm usedS l∧sm madeS (l.map othS)=sm madeS l:=by
 induction l with
 | nil=>exact ⟨rfl,rfl⟩
 | cons x l ih=>
  have hx:=oth_ok (h x (by simp))
  have ih:=ih fun y hy=>h y (by simp [hy])
  simp only [List.map_cons,sm,hx.2.1,hx.2.2,ih.1,ih.2,and_self]
theorem turned_ok {l:List api_Stitch} (h:allS l=0):allS ((l.map othS).reverse)=0∧sm usedS ((l.map othS).reverse)=sm usedS l∧sm madeS ((l.map othS).reverse)=sm madeS l:=by
 obtain ⟨h1,h2,h3,h4⟩:=allS_ok h
 have hs:=sm_oth h2
 have hok:allOk ((l.map othS).reverse):=by
  intro p hp
  rw [List.mem_reverse] at hp
  obtain ⟨q,hq,rfl⟩:=List.mem_map.1 hp
  exact (oth_ok (h2 q hq)).1
 rw [sm_reverse,sm_reverse,hs.1,hs.2]
 refine ⟨?_,rfl,rfl⟩
 unfold allS
 rw [sm_reverse,sm_reverse,hs.1,hs.2,if_neg (by simp; omega),if_pos hok,if_neg (by omega)]
noncomputable def F_piece_bend (p0:Int) (p1:Int):Option piece_edge:=
 if p0 == 0 then
  some (piece_edge.mk (api_Stitch.mk 0 false 0 0) 0)
 else
  if decide (4 ≤ p0) then
   some (piece_edge.mk (api_Stitch.mk 9 false p0 0) 0)
  else
   if decide (0 < p0) then
    some (piece_edge.mk (api_Stitch.mk 5 false (w64 (p0 + 1)) 0) 1)
   else
    if decide ((-4) < p0) then
     some (piece_edge.mk (api_Stitch.mk p1 false (w64 (1 - p0)) 0) (w64 (1 - p0)))
    else
     some (piece_edge.mk (api_Stitch.mk 10 false (w64 (0 - p0)) 0) (w64 (0 - p0)))
def c_piece_bend_val (r:piece_edge) (x:Value):Value:=x
def c_piece_bend_D (r:piece_edge) (x:Value):List Fact:=[fRep r_piece_edge x r]
theorem c_piece_bend (E:Nat→Prop) (w0:World) (p0:Int) (p1:Int) (r:piece_edge) (h:F_piece_bend p0 p1=some r) (S:St0 E [] w0 w0 [] []) :
 Calls Try.prog 40 #[iv p0,.int .u8 p1] w0 (Ret (X:=Value) E [] w0 (c_piece_bend_val r) (fun _=>[]) (c_piece_bend_D r)):=by
 unfold F_piece_bend at h
 refine sEnter (args:=[iv p0,.int .u8 p1]) 38 Try.func40 d d (by simp) S (fun a S=>?_)
 refine sSeq (fun K1 aj=>sRegion (sAlloc (.agg #[.int .u8 0,.bool false,iv 0,iv 0,iv 0]) S (wN d) d d [.int .u8 0,.bool false,iv 0,iv 0,iv 0] d d (lb d) fun a b2 w S=>lT (aj _ _ (sSeq (fun K3 ak=>wp_block ?_)))))
 refine sSeq (fun K4 al=>sRegion (sM S fun a S=>?_))
 refine sBin _ S (wN d) d d d (bEq _ _ _ _ .i64 p0 0) d (lb d) fun a S=>sN S fun a S=>?_
 refine lT (al _ _ ?_)
 rcases iS h with ⟨ab,h⟩ | ⟨ab,h⟩
 ·refine sCondT S d ab (sSeq (fun K6 am=>sRegion (sBuild [] [.int .u8 0,.bool false,iv 0,iv 0,iv 0] S (wN d) d d d d (lb d) fun a S=>sStore (p:=b2) (off:=0) (T:=84) (vs:=[.int .u8 0,.bool false,iv 0,iv 0,iv 0]) (v:=.agg #[.int .u8 0,.bool false,iv 0,iv 0,iv 0]) 0 [.int .u8 0,.bool false,iv 0,iv 0,iv 0] S (wN d) d d d d d d d (by simp) d fun a w S=>lT (am _ _ ?_))))
  obtain rfl:=tS h
  have S:=S.learn (fRep r_piece_edge (.agg #[.int .u8 0,.bool false,iv 0,iv 0,iv 0]) (piece_edge.mk (api_Stitch.mk 0 false 0 0) 0)) d
  exact wp_ret (rBlock (rThen (sRet (.agg #[.int .u8 0,.bool false,iv 0,iv 0,iv 0]) S (rsl1 d (rvN (c:=4) (t:=84) (T:=84) (p:=b2) 0 [.int .u8 0,.bool false,iv 0,iv 0,iv 0] S d d d d)) ⟨(.agg #[.int .u8 0,.bool false,iv 0,iv 0,iv 0]),d,S.mem.sel [] [0] (by decide) d d⟩)))
 refine sCondF S d ab (sSeq (fun K7 ao=>sRegion (sM S fun a S=>?_)))
 refine sBin _ S (wN d) d d d (bGe _ _ _ _ .i64 p0 4) d (lb d) fun a S=>sN S fun a S=>?_
 refine lT (ao _ _ ?_)
 rcases iS h with ⟨ac,h⟩ | ⟨ac,h⟩
 ·refine sCondT S d ac (sSeq (fun K9 ap=>sRegion (sM S fun a S=>?_)))
  refine sBuild [(0,.int .u8 9),(2,iv p0)] [.int .u8 9,.bool false,iv p0,iv 0] S (wN d) d d d d (lb d) fun a S=>sBuild [(0,.agg #[.int .u8 9,.bool false,iv p0,iv 0])] [.int .u8 9,.bool false,iv p0,iv 0,iv 0] S (wN d) d d d d (lb d) fun a S=>sStore (p:=b2) (off:=0) (T:=84) (vs:=[.int .u8 0,.bool false,iv 0,iv 0,iv 0]) (v:=.agg #[.int .u8 9,.bool false,iv p0,iv 0,iv 0]) 0 [.int .u8 9,.bool false,iv p0,iv 0,iv 0] S (wN d) d d d d d d d (by simp) d fun a w S=>lT (ap _ _ ?_)
  obtain rfl:=tS h
  have S:=S.learn (fRep r_piece_edge (.agg #[.int .u8 9,.bool false,iv p0,iv 0,iv 0]) (piece_edge.mk (api_Stitch.mk 9 false p0 0) 0)) d
  exact wp_ret (rBlock (rThen (sRet (.agg #[.int .u8 9,.bool false,iv p0,iv 0,iv 0]) S (rsl1 d (rvN (c:=4) (t:=84) (T:=84) (p:=b2) 0 [.int .u8 9,.bool false,iv p0,iv 0,iv 0] S d d d d)) ⟨(.agg #[.int .u8 9,.bool false,iv p0,iv 0,iv 0]),d,S.mem.sel [] [0] (by decide) d d⟩)))
 refine sCondF S d ac (sSeq (fun aq ae=>sRegion (sM S fun a S=>?_)))
 refine sBin _ S (wN d) d d d (bGt _ _ _ _ .i64 p0 0) d (lb d) fun a S=>sN S fun a S=>?_
 refine lT (ae _ _ ?_)
 rcases iS h with ⟨a9,h⟩ | ⟨a9,h⟩
 ·refine sCondT S d a9 (sSeq (fun ar af=>sRegion (sM S fun a S=>?_)))
  refine sBin _ S (wN d) d d d (bAdd _ _ _ _ p0 1) d (lb d) fun a S=>sBuild [(0,.int .u8 5),(2,iv (w64 (p0 + 1)))] [.int .u8 5,.bool false,iv (w64 (p0 + 1)),iv 0] S (wN d) d d d d (lb d) fun a S=>sBuild [(0,.agg #[.int .u8 5,.bool false,iv (w64 (p0 + 1)),iv 0]),(1,iv 1)] [.int .u8 5,.bool false,iv (w64 (p0 + 1)),iv 0,iv 1] S (wN d) d d d d (lb d) fun a S=>sStore (p:=b2) (off:=0) (T:=84) (vs:=[.int .u8 0,.bool false,iv 0,iv 0,iv 0]) (v:=.agg #[.int .u8 5,.bool false,iv (w64 (p0 + 1)),iv 0,iv 1]) 0 [.int .u8 5,.bool false,iv (w64 (p0 + 1)),iv 0,iv 1] S (wN d) d d d d d d d (by simp) d fun a w S=>lT (af _ _ ?_)
  obtain rfl:=tS h
  have S:=S.learn (fRep r_piece_edge (.agg #[.int .u8 5,.bool false,iv (w64 (p0 + 1)),iv 0,iv 1]) (piece_edge.mk (api_Stitch.mk 5 false (w64 (p0 + 1)) 0) 1)) d
  exact wp_ret (rBlock (rThen (sRet (.agg #[.int .u8 5,.bool false,iv (w64 (p0 + 1)),iv 0,iv 1]) S (rsl1 d (rvN (c:=4) (t:=84) (T:=84) (p:=b2) 0 [.int .u8 5,.bool false,iv (w64 (p0 + 1)),iv 0,iv 1] S d d d d)) ⟨(.agg #[.int .u8 5,.bool false,iv (w64 (p0 + 1)),iv 0,iv 1]),d,S.mem.sel [] [0] (by decide) d d⟩)))
 refine sCondF S d a9 (sSeq (fun au ag=>sRegion (sM S fun a S=>?_)))
 refine sBin _ S (wN d) d d d (bGt _ _ _ _ .i64 p0 (-4)) d (lb d) fun a S=>sN S fun a S=>?_
 refine lT (ag _ _ ?_)
 rcases iS h with ⟨aa,h⟩ | ⟨aa,h⟩
 rotate_left
 ·refine sCondF S d aa (wp_skip (leafB (leafT (ak _ _ ?_))))
  refine sSeq (fun av ah=>sRegion (sM S fun a S=>?_))
  refine sNeg (b:=p0) S (wN d) d d d (lb d) fun a S=>sBuild [(0,.int .u8 10),(2,iv (w64 (0 - p0)))] [.int .u8 10,.bool false,iv (w64 (0 - p0)),iv 0] S (wN d) d d d d (lb d) fun a S=>sM S fun a S=>?_
  refine sNeg (b:=p0) S (wN d) d d d (lb d) fun a S=>sBuild [(0,.agg #[.int .u8 10,.bool false,iv (w64 (0 - p0)),iv 0]),(1,iv (w64 (0 - p0)))] [.int .u8 10,.bool false,iv (w64 (0 - p0)),iv 0,iv (w64 (0 - p0))] S (wN d) d d d d (lb d) fun a S=>sStore (p:=b2) (off:=0) (T:=84) (vs:=[.int .u8 0,.bool false,iv 0,iv 0,iv 0]) (v:=.agg #[.int .u8 10,.bool false,iv (w64 (0 - p0)),iv 0,iv (w64 (0 - p0))]) 0 [.int .u8 10,.bool false,iv (w64 (0 - p0)),iv 0,iv (w64 (0 - p0))] S (wN d) d d d d d d d (by simp) d fun a w S=>lT (ah _ _ ?_)
  obtain rfl:=tS h
  have S:=S.learn (fRep r_piece_edge (.agg #[.int .u8 10,.bool false,iv (w64 (0 - p0)),iv 0,iv (w64 (0 - p0))]) (piece_edge.mk (api_Stitch.mk 10 false (w64 (0 - p0)) 0) (w64 (0 - p0)))) d
  exact wp_ret (sRet (.agg #[.int .u8 10,.bool false,iv (w64 (0 - p0)),iv 0,iv (w64 (0 - p0))]) S (rsl1 d (rvN (c:=4) (t:=84) (T:=84) (p:=b2) 0 [.int .u8 10,.bool false,iv (w64 (0 - p0)),iv 0,iv (w64 (0 - p0))] S d d d d)) ⟨(.agg #[.int .u8 10,.bool false,iv (w64 (0 - p0)),iv 0,iv (w64 (0 - p0))]),d,S.mem.sel [] [0] (by decide) d d⟩)
 refine sCondT S d aa (sSeq (fun aw ai=>sRegion (sM S fun a S=>?_)))
 refine sM S fun a S=>?_
 refine sBin _ S (wN d) d d d (bSub _ _ _ _ 1 p0) d (lb d) fun a S=>sBuild [(0,.int .u8 p1),(2,iv (w64 (1 - p0)))] [.int .u8 p1,.bool false,iv (w64 (1 - p0)),iv 0] S (wN d) d d d d (lb d) fun a S=>sM S fun a S=>?_
 refine sBin _ S (wN d) d d d (bSub _ _ _ _ 1 p0) d (lb d) fun a S=>sBuild [(0,.agg #[.int .u8 p1,.bool false,iv (w64 (1 - p0)),iv 0]),(1,iv (w64 (1 - p0)))] [.int .u8 p1,.bool false,iv (w64 (1 - p0)),iv 0,iv (w64 (1 - p0))] S (wN d) d d d d (lb d) fun a S=>sStore (p:=b2) (off:=0) (T:=84) (vs:=[.int .u8 0,.bool false,iv 0,iv 0,iv 0]) (v:=.agg #[.int .u8 p1,.bool false,iv (w64 (1 - p0)),iv 0,iv (w64 (1 - p0))]) 0 [.int .u8 p1,.bool false,iv (w64 (1 - p0)),iv 0,iv (w64 (1 - p0))] S (wN d) d d d d d d d (by simp) d fun a w S=>lT (ai _ _ ?_)
 obtain rfl:=tS h
 have S:=S.learn (fRep r_piece_edge (.agg #[.int .u8 p1,.bool false,iv (w64 (1 - p0)),iv 0,iv (w64 (1 - p0))]) (piece_edge.mk (api_Stitch.mk p1 false (w64 (1 - p0)) 0) (w64 (1 - p0)))) d
 exact wp_ret (rBlock (rThen (sRet (.agg #[.int .u8 p1,.bool false,iv (w64 (1 - p0)),iv 0,iv (w64 (1 - p0))]) S (rsl1 d (rvN (c:=4) (t:=84) (T:=84) (p:=b2) 0 [.int .u8 p1,.bool false,iv (w64 (1 - p0)),iv 0,iv (w64 (1 - p0))] S d d d d)) ⟨(.agg #[.int .u8 p1,.bool false,iv (w64 (1 - p0)),iv 0,iv (w64 (1 - p0))]),d,S.mem.sel [] [0] (by decide) d d⟩)))
def anc_piece_Chart_0:List (List Nat):=[[],[0],[0,1],[0,1,2],[],[4],[4,5],[4,5,6],[0,1,2,3,4,5,6,7],[0,1,2,3,4,5,6,7,8],[],[0,1,2,3,4,5,6,7,8,9,10]]
def anc_piece_Chart_1:List (List Nat):=[[],[0],[],[0,1,2],[0,1,2,3],[],[5],[],[7],[5,6,7,8],[5,6,7,8,9],[0,1,2,3,4,5,6,7,8,9,10],[0,1,2,3,4,5,6,7,8,9,10,11],[],[0,1,2,3,4,5,6,7,8,9,10,11,12,13]]
def anc_piece_Chart_2:List (List Nat):=[[],[0],[],[2],[0,1,2,3],[0,1,2,3,4],[],[6],[],[6,7,8],[6,7,8,9],[0,1,2,3,4,5,6,7,8,9,10],[0,1,2,3,4,5,6,7,8,9,10,11],[],[0,1,2,3,4,5,6,7,8,9,10,11,12,13]]
def anc_piece_Chart_3:List (List Nat):=[[],[0],[],[2],[0,1,2,3],[0,1,2,3,4],[],[6],[],[8],[6,7,8,9],[6,7,8,9,10],[0,1,2,3,4,5,6,7,8,9,10,11],[],[13],[0,1,2,3,4,5,6,7,8,9,10,11,12,13,14],[],[16],[0,1,2,3,4,5,6,7,8,9,10,11,12,13,14,15,16,17],[0,1,2,3,4,5,6,7,8,9,10,11,12,13,14,15,16,17,18]]
noncomputable def piece_Chart_l1 (ac:Int) (ae:Int) (af:piece_edge) (ag:piece_edge):(List api_Stitch × Int)→Option ((List api_Stitch × Int) ⊕ List api_Stitch):=fun s0=>match s0 with
 | (a9,aa)=>
  if decide (aa < (w64 ((w64 ((w64 (ac - ae)) - af.uses)) - ag.uses))) then
   (appO a9 [(api_Stitch.mk 1 false 0 0)]).bind fun ab=>
   some (.inl (ab,w64 (aa + 1)))
  else
   some (.inr a9)
noncomputable def piece_Chart_l2 (p0:api_Piece):(Int × List api_Row)→Option ((Int × List api_Row) ⊕ ((api_Chart × Int) ⊕ (List api_Row))):=fun s0=>match s0 with
 | (a9,aq)=>
  if decide (a9 < (p0.Left.length:Int)) then
   Option.bind (α:=List api_Row ⊕ (api_Chart × Int)) (
    (idxO p0.Right a9).bind fun ar=>
    (idxO p0.Right (w64 (a9 - 1))).bind fun ag=>
    (F_piece_bend (w64 (ar - ag)) 3).bind fun ae=>
    (idxO p0.Left (w64 (a9 - 1))).bind fun ah=>
    (idxO p0.Left a9).bind fun au=>
    (F_piece_bend (w64 (ah - au)) 4).bind fun af=>
    if decide ((w64 ((w64 ((w64 (ag - ah)) - ae.uses)) - af.uses)) < 1) then
     some (.inr ((api_Chart.mk 0 ([]:(List api_Row))),22))
    else
     Option.bind (α:=List api_Stitch) (
      if ae.s.Kind != 0 then
       (appO ([]:List api_Stitch) [ae.s]).bind fun ai=>
       some ai
      else
       some ([]:List api_Stitch)) fun aj=>
     Option.bind (α:=List api_Stitch) (
      (whileO (piece_Chart_l1 ag ah ae af) (aj,0)).bind fun ak=>
       some ak) fun aa=>
     Option.bind (α:=List api_Stitch) (
      if af.s.Kind != 0 then
       (appO aa [af.s]).bind fun al=>
       some al
      else
       some aa) fun ab=>
     (remI a9 2).bind fun ac=>
     Option.bind (α:=List api_Stitch) (
      if ac == 1 then
       (F_stitch_Turn ab).bind fun am=>
       some am.1
      else
       some ab) fun ao=>
     (appO aq [(api_Row.mk (ac == 1) ao)]).bind fun ap=>
     some (.inl ap)) fun z0=>match z0 with
    | .inl av=>
     some (.inl (w64 (a9 + 1),av))
    | .inr z=>
     some (.inr (.inl z))
  else
   some (.inr (.inr aq))
noncomputable def F_piece_Chart (p0:api_Piece):Option (api_Chart × Int):=
 (F_piece_Check p0).bind fun a9=>
 if a9 != 0 then
  some ((api_Chart.mk 0 ([]:(List api_Row))),a9)
 else
  (idxO p0.Right 0).bind fun aa=>
  (idxO p0.Left 0).bind fun ab=>
  Option.bind (α:=List api_Row ⊕ (api_Chart × Int)) (
   (whileO (piece_Chart_l2 p0) (1,([]:List api_Row))).bind fun z0=>match z0 with
    | .inl z=>
     some (.inr z)
    | .inr ac=>
     some (.inl ac)) fun z0=>match z0 with
   | .inl ae=>
    some ((api_Chart.mk (w64 (aa - ab)) ae),0)
   | .inr z=>
    some z
def c_piece_Chart_val (r:(api_Chart × Int)) (x:Value):Value:=.tuple #[x,.int .i64 r.2]
def c_piece_Chart_D (r:(api_Chart × Int)) (x:Value):List Fact:=[fRep r_api_Chart x r.1]
theorem c_piece_Chart (E:Nat→Prop) (w0:World) (p0:api_Piece) (v0:Value) (r:(api_Chart × Int)) (h:F_piece_Chart p0=some r) (S:St0 E [] w0 w0 [] [fRep r_api_Piece (v0) p0]) :
 Calls Try.prog 15 #[v0] w0 (Ret (X:=Value) E [] w0 (c_piece_Chart_val r) (fun _=>[]) (c_piece_Chart_D r)):=by
 unfold F_piece_Chart at h
 obtain ⟨u1,u2,rfl,dh,di⟩:=S.know (i:=0) (e:=fRep r_api_Piece (v0) p0) d
 have S:=S.learn (fRep (rL (rI .i64)) u1 p0.Left) dh
 obtain ⟨ag,ah,_,rfl,_⟩:=dh
 have S:=S.learn (fRep (rL (rI .i64)) u2 p0.Right) di
 obtain ⟨ai,aj,_,rfl,_⟩:=di
 refine sEnter (args:=[.agg #[.slice ag p0.Left.length ah,.slice ai p0.Right.length aj]]) 127 Try.func15 d d (by simp) S (fun a S=>?_)
 refine sSeq (fun K9 du=>sRegion (sBox (v:=.agg #[.slice ag p0.Left.length ah,.slice ai p0.Right.length aj]) S (wN d) d d [.slice ag p0.Left.length ah,.slice ai p0.Right.length aj] d d (lb d) fun a ae w S=>sAlloc (.agg #[iv 0,.slice none 0 0]) S (wN d) d d [iv 0,.slice none 0 0] d d (lb d) fun a ax w S=>sN S fun a S=>?_))
 refine lT (du _ _ (sSeq (fun dO cI=>sSeq (fun dP cJ=>sRegion (sLoadN (p:=ae) (off:=0) (T:=36) (vs:=[.slice ag p0.Left.length ah,.slice ai p0.Right.length aj]) 1 [.slice ag p0.Left.length ah,.slice ai p0.Right.length aj] S (wN d) d d d d d d d (lb d) fun a S=>?_)))))
 obtain ⟨bA,cK,h⟩:=bS h
 have S1:=S.mem
 refine sCq [.agg #[.slice ag p0.Left.length ah,.slice ai p0.Right.length aj]] (iv bA) S callee20 (S1.quiet [2] d) (fun E1 w1 S1=>c_piece_Check E1 w1 p0 (.agg #[.slice ag p0.Left.length ah,.slice ai p0.Right.length aj]) bA cK S1) fun a w S=>?_
 refine sN S fun a S=>?_
 refine lT (cJ _ _ (sSeq (fun dQ cL=>sRegion (sM S fun a S=>?_))))
 refine sBin _ S (wN d) d d d (bNe _ _ _ _ .i64 bA 0) d (lb d) fun a S=>lT (cL _ _ ?_)
 rcases iS h with ⟨bq,h⟩ | ⟨bq,h⟩
 ·refine sCondT S d bq (sSeq (fun dS cM=>sRegion (sBuild [] [iv 0,.slice none 0 0] S (wN d) d d d d (lb d) fun a S=>sM S fun a S=>?_)))
  refine sStore (p:=ax) (off:=0) (T:=49) (vs:=[iv 0,.slice none 0 0]) (v:=.agg #[iv 0,.slice none 0 0]) 0 [iv 0,.slice none 0 0] S (wN d) d d d d d d d (by simp) d fun a w S=>sN S fun a S=>?_
  refine lT (cM _ _ ?_)
  obtain rfl:=tS h
  have S:=S.learn (fRep (rL r_api_Row) (.slice none 0 0) ([]:(List api_Row))) (rL_nil _ _ _)
  have S:=S.learn (fRep r_api_Chart (.agg #[iv 0,.slice none 0 0]) (api_Chart.mk 0 ([]:(List api_Row)))) ⟨_,d,S.mem.know (i:=0) (e:=fRep (rL r_api_Row) (.slice none 0 0) ([]:(List api_Row))) d⟩
  exact wp_ret (rThen (sRet (.tuple #[.agg #[iv 0,.slice none 0 0],iv bA]) S (rsl2 d (rvN (c:=2) (t:=49) (T:=49) (p:=ax) 0 [iv 0,.slice none 0 0] S d d d d) (rvT (t:=3) (v:=iv bA) S d)) ⟨(.agg #[iv 0,.slice none 0 0]),d,S.mem.sel [] [0] (by decide) d d⟩))
 refine sCondF S d bq (wp_skip (leafT (cI _ _ ?_)))
 refine sSeq (fun dU cN=>?_)
 obtain ⟨ak,cO,h⟩:=bS h
 obtain ⟨al,cP,h⟩:=bS h
 obtain ⟨cE,bB,S⟩:=pIdx (P:=Try.prog) (r:=(rI .i64)) (v:=.slice ai p0.Right.length aj) (xs:=p0.Right) (j:=0) 34 3 0 S Try.underlying34 d d cO
 obtain ⟨dj,S⟩:=pLoad (r:=(rI .i64)) (q:=cE) (x:=ak) 0 S d
 obtain rfl:dj=iv ak:=S.mem.know (i:=1) (e:=fRep (rI .i64) (dj) ak) d
 obtain ⟨cF,bC,S⟩:=pIdx (P:=Try.prog) (r:=(rI .i64)) (v:=.slice ag p0.Left.length ah) (xs:=p0.Left) (j:=0) 34 3 4 S Try.underlying34 d d cP
 obtain ⟨dk,S⟩:=pLoad (r:=(rI .i64)) (q:=cF) (x:=al) 0 S d
 obtain rfl:dk=iv al:=S.mem.know (i:=1) (e:=fRep (rI .i64) (dk) al) d
 refine sDraw (nf:=[10,11]) (W:=[(0,18,.pointer (some ⟨ae,1,none⟩)),(1,19,.slice ai p0.Right.length aj),(2,20,cE),(3,21,iv ak),(4,22,.pointer (some ⟨ae,0,none⟩)),(5,23,.slice ag p0.Left.length ah),(6,24,cF),(7,25,iv al),(8,26,iv (w64 (ak - al))),(9,27,.agg #[iv (w64 (ak - al)),.slice none 0 0])]) d S ?_
 refine node_by (A:=anc_piece_Chart_0) 12 (by kernel_rfl) (by kernel_rfl) (by kernel_rfl) (by kernel_rfl) (by kernel_rfl) [0,1,2,3,4,5,6,7,8,9] (by kernel_rfl) (by decide) (by decide) (fF ?_ (fF ?_ (fF ?_ (fF ?_ (fF ?_ (fF ?_ (fF ?_ (fF ?_ (fF ?_ (fF ?_ (fN ?_ (aB 11 0 10 (by decide) (trivial))))))))))))) [] (fun q hq=>by cases hq) (fun hY=>absurd (hY 10 (by decide)) (by decide))
 ·refine fJ [(1,_)] 0 [none] fun G a w S=>?_
  exact sField (b:=ae) (off:=0) 1 1 S (wN d) d d d d d (lb d) fun a S=>leafL ⟨d,S⟩
 ·refine fJ [(18,_)] 1 [some 0] fun G a w S=>?_
  exact sLoad1 1 (.slice ai p0.Right.length aj) S (wN d) d d d d d d (lb d) fun a S=>leafL ⟨d,S⟩
 ·refine fJ [(19,_)] 2 [some 1] fun G a w S=>?_
  exact sIdxV S (wN d) d d d bB d (lb d) fun a S=>leafL ⟨d,S⟩
 ·refine fJ [(20,_)] 3 [some 2] fun G a w S=>?_
  exact sLoadV1 (vq:=cE) 3 (iv ak) S (wN d) d d d d d (lb d) fun a S=>leafL ⟨d,S⟩
 ·refine fJ [(1,_)] 4 [none] fun G a w S=>?_
  exact sField (b:=ae) (off:=0) 0 0 S (wN d) d d d d d (lb d) fun a S=>leafL ⟨d,S⟩
 ·refine fJ [(22,_)] 5 [some 4] fun G a w S=>?_
  exact sLoad1 1 (.slice ag p0.Left.length ah) S (wN d) d d d d d d (lb d) fun a S=>leafL ⟨d,S⟩
 ·refine fJ [(23,_)] 6 [some 5] fun G a w S=>?_
  exact sIdxV S (wN d) d d d bC d (lb d) fun a S=>leafL ⟨d,S⟩
 ·refine fJ [(24,_)] 7 [some 6] fun G a w S=>?_
  exact sLoadV1 (vq:=cF) 0 (iv al) S (wN d) d d d d d (lb d) fun a S=>leafL ⟨d,S⟩
 ·refine fJ [(21,_),(25,_)] 8 [some 3,some 7] fun G a w S=>?_
  exact sBin _ S (wN d) d d d (bSub _ _ _ _ ak al) d (lb d) fun a S=>leafL ⟨d,S⟩
 ·refine fJ [(26,_)] 9 [some 8] fun G a w S=>?_
  exact sBuild [(0,iv (w64 (ak - al)))] [iv (w64 (ak - al)),.slice none 0 0] S (wN d) d d d d (lb d) fun a S=>leafL ⟨d,S⟩
 refine ⟨_,[],d,(srcs_of [] d d d),fun G a w S=>?_⟩
 refine sAlloc (.agg #[iv 0,.slice none 0 0]) S (wN d) d d [iv 0,.slice none 0 0] d d (lb d) fun a au w S=>leafL ⟨d,_,_,.inl ⟨5,(.pointer (some ⟨au,0,none⟩)),[],d,S,hz_of d,?_⟩⟩
 refine node_by (A:=anc_piece_Chart_0) 12 (by kernel_rfl) (by kernel_rfl) (by kernel_rfl) (by kernel_rfl) (by kernel_rfl) [10,0,1,2,3,4,5,6,7,8,9] (by kernel_rfl) (by decide) (by decide) (fF ?_ (fF ?_ (fF ?_ (fF ?_ (fF ?_ (fF ?_ (fF ?_ (fF ?_ (fF ?_ (fF ?_ (fY (fN ?_ (trivial))))))))))))) [] (fun q hq=>by cases hq) (fun hY=>absurd (hY 11 (by decide)) (by decide))
 ·refine fJ [(1,_)] 1 [none] fun G a w S=>?_
  exact sField (b:=ae) (off:=0) 1 1 S (wN d) d d d d d (lb d) fun a S=>leafL ⟨d,S⟩
 ·refine fJ [(18,_)] 2 [some 1] fun G a w S=>?_
  exact sLoad1 2 (.slice ai p0.Right.length aj) S (wN d) d d d d d d (lb d) fun a S=>leafL ⟨d,S⟩
 ·refine fJ [(19,_)] 3 [some 2] fun G a w S=>?_
  exact sIdxV S (wN d) d d d bB d (lb d) fun a S=>leafL ⟨d,S⟩
 ·refine fJ [(20,_)] 4 [some 3] fun G a w S=>?_
  exact sLoadV1 (vq:=cE) 3 (iv ak) S (wN d) d d d d d (lb d) fun a S=>leafL ⟨d,S⟩
 ·refine fJ [(1,_)] 5 [none] fun G a w S=>?_
  exact sField (b:=ae) (off:=0) 0 0 S (wN d) d d d d d (lb d) fun a S=>leafL ⟨d,S⟩
 ·refine fJ [(22,_)] 6 [some 5] fun G a w S=>?_
  exact sLoad1 2 (.slice ag p0.Left.length ah) S (wN d) d d d d d d (lb d) fun a S=>leafL ⟨d,S⟩
 ·refine fJ [(23,_)] 7 [some 6] fun G a w S=>?_
  exact sIdxV S (wN d) d d d bC d (lb d) fun a S=>leafL ⟨d,S⟩
 ·refine fJ [(24,_)] 8 [some 7] fun G a w S=>?_
  exact sLoadV1 (vq:=cF) 0 (iv al) S (wN d) d d d d d (lb d) fun a S=>leafL ⟨d,S⟩
 ·refine fJ [(21,_),(25,_)] 9 [some 4,some 8] fun G a w S=>?_
  exact sBin _ S (wN d) d d d (bSub _ _ _ _ ak al) d (lb d) fun a S=>leafL ⟨d,S⟩
 ·refine fJ [(26,_)] 10 [some 9] fun G a w S=>?_
  exact sBuild [(0,iv (w64 (ak - al)))] [iv (w64 (ak - al)),.slice none 0 0] S (wN d) d d d d (lb d) fun a S=>leafL ⟨d,S⟩
 refine ⟨_,[(5,.pointer (some ⟨au,0,none⟩)),(27,.agg #[iv (w64 (ak - al)),.slice none 0 0])],d,(srcs_of [some 0,some 10] d d d),fun G a w S=>?_⟩
 refine sStore (p:=au) (off:=0) (T:=49) (vs:=[iv 0,.slice none 0 0]) (v:=.agg #[iv (w64 (ak - al)),.slice none 0 0]) 0 [iv (w64 (ak - al)),.slice none 0 0] S (wN d) d d d d d d d (by simp) d fun a w S=>leafL ⟨d,_,_,.inr ⟨[],d,S,hz_of d,?_⟩⟩
 refine node_by (A:=anc_piece_Chart_0) 12 (by kernel_rfl) (by kernel_rfl) (by kernel_rfl) (by kernel_rfl) (by kernel_rfl) [10,0,1,2,3,4,5,6,7,8,9] (by kernel_rfl) (by decide) (by decide) (fD 11 (fD 11 (fD 11 (fD 11 (fD 11 (fD 11 (fD 11 (fD 11 (fD 11 (fD 11 (fY (fY (trivial))))))))))))) [(1,.pointer (some ⟨ae,0,none⟩)),(2,.pointer (some ⟨ax,0,none⟩)),(5,.pointer (some ⟨au,0,none⟩))] (fin_of [none,none,some 0] d (by kernel_rfl) (by kernel_rfl)) (fun _ a w S=>?_)
 refine leafT (cN _ _ ?_)
 obtain ⟨dv,h,dl⟩:=bS h
 refine sCut (fun a w=>∃ aK,.inl aK=dv∧∃ aG,∃ aH,St [] E [] w0 127 a w [(2,.pointer (some ⟨ax,0,none⟩)),(5,.pointer (some ⟨au,0,none⟩))] [eBox ax 49 [iv 0,.slice none 0 0],eBox au 49 [iv (w64 (ak - al)),.slice aG aK.length aH],eRow r_api_Row 90 (.slice aG aK.length aH) aK] []) ?_ (fun a w hI=>?_)
 rotate_left
 ·obtain ⟨aK,rfl,aG,aH,S⟩:=hI
  have h:=dl
  try dsimp only at h
  refine sSeq (fun dw bD=>sRegion (sLoadN (p:=au) (off:=0) (T:=49) (vs:=[iv (w64 (ak - al)),.slice aG aK.length aH]) 1 [iv (w64 (ak - al)),.slice aG aK.length aH] S (wN d) d d d d d d d (lb d) fun a S=>sStore (p:=ax) (off:=0) (T:=49) (vs:=[iv 0,.slice none 0 0]) (v:=.agg #[iv (w64 (ak - al)),.slice aG aK.length aH]) 0 [iv (w64 (ak - al)),.slice aG aK.length aH] S (wN d) d d d d d d d (by simp) d fun a w S=>sN S fun a S=>?_))
  refine lT (bD _ _ ?_)
  obtain rfl:=tS h
  have S:=S.shutR (r:=r_api_Row) (T:=90) (v:=.slice aG aK.length aH) (xs:=aK) 2 d
  have S:=S.learn (fRep r_api_Chart (.agg #[iv (w64 (ak - al)),.slice aG aK.length aH]) (api_Chart.mk (w64 (ak - al)) aK)) ⟨_,d,S.mem.know (i:=0) (e:=fRep (rL r_api_Row) (.slice aG aK.length aH) aK) d⟩
  exact wp_ret (sRet (.tuple #[.agg #[iv (w64 (ak - al)),.slice aG aK.length aH],iv 0]) S (rsl2 d (rvN (c:=2) (t:=49) (T:=49) (p:=ax) 0 [iv (w64 (ak - al)),.slice aG aK.length aH] S d d d d) (rvT (t:=3) (v:=iv 0) S d)) ⟨(.agg #[iv (w64 (ak - al)),.slice aG aK.length aH]),d,S.mem.sel [] [0] (by decide) d d⟩)
 refine sSeq (fun dV cQ=>sRegion (sN S fun a S=>?_))
 refine lT (cQ _ _ (wp_block ?_))
 have S:=S.nilRow r_api_Row 90 (α:=api_Row)
 obtain ⟨dW,hl,dm⟩:=bS h
 refine sLoop hl (fun s0 a w=>match s0 with | (ap,am)=>∃ ab,∃ ac,St [] E [] w0 127 a w [(1,.pointer (some ⟨ae,0,none⟩)),(2,.pointer (some ⟨ax,0,none⟩)),(5,.pointer (some ⟨au,0,none⟩)),(6,iv ap)] [eBox ae 36 [.slice ag p0.Left.length ah,.slice ai p0.Right.length aj],eBox ax 49 [iv 0,.slice none 0 0],eBox au 49 [iv (w64 (ak - al)),.slice ab am.length ac],eRow r_api_Row 90 (.slice ab am.length ac) am] [fRep (rL (rI .i64)) (.slice ag p0.Left.length ah) p0.Left,fRep (rL (rI .i64)) (.slice ai p0.Right.length aj) p0.Right]) ⟨none,0,S.fix [3,2,1,0] [7,6] (by decide) d d d⟩ ?_
 clear hl h
 intro s0 a w c0 hI h bE
 obtain ⟨ap,am⟩:=s0
 unfold piece_Chart_l2 at h
 dsimp only at h hI
 obtain ⟨ab,ac,S⟩:=hI
 refine sSeq (fun dX cR=>sSeq (fun dY cT=>sRegion (sM S fun a S=>?_)))
 refine sField (b:=ae) (off:=0) 0 0 S (wN d) d d d d d (lb d) fun a S=>sLoad1 0 (.slice ag p0.Left.length ah) S (wN d) d d d d d d (lb d) fun a S=>sLen S (wN d) d Try.underlying34 d d (lb d) fun a S=>sBin _ S (wN d) d d d (bLt _ _ _ _ .i64 ap (p0.Left.length:Int)) d (lb d) fun a S=>lT (cT _ _ ?_)
 rcases iS h with ⟨br,h⟩ | ⟨br,h⟩
 rotate_left
 ·refine sCondF S d br ?_
  obtain rfl:=tS h
  obtain rfl:=bE _ d
  have h:=dm
  try dsimp only at h
  exact wp_exit (xThen (xThen (xHit (leafT (⟨am,Option.some.inj h,ab,ac,S.fix [1,2,3] [] (by decide) d d d⟩)))))
 refine sCondT S d br (wp_skip (leafT (cR _ _ ?_)))
 obtain ⟨dx,h,dn⟩:=bS h
 refine sCut (fun a w=>∃ bz,.inl bz=dx∧∃ bj,∃ bl,St [] E [] w0 127 a w [(1,.pointer (some ⟨ae,0,none⟩)),(2,.pointer (some ⟨ax,0,none⟩)),(5,.pointer (some ⟨au,0,none⟩)),(6,iv ap)] [eBox ae 36 [.slice ag p0.Left.length ah,.slice ai p0.Right.length aj],eBox ax 49 [iv 0,.slice none 0 0],eBox au 49 [iv (w64 (ak - al)),.slice bj bz.length bl],eRow r_api_Row 90 (.slice bj bz.length bl) bz] [fRep (rL (rI .i64)) (.slice ag p0.Left.length ah) p0.Left,fRep (rL (rI .i64)) (.slice ai p0.Right.length aj) p0.Right]) ?_ (fun a w hI=>?_)
 rotate_left
 ·obtain ⟨bz,rfl,bj,bl,S⟩:=hI
  have h:=dn
  try dsimp only at h
  refine sRegion (sM S fun a S=>?_)
  refine sBin _ S (wN d) d d d (bAdd _ _ _ _ ap 1) d (lb d) fun a S=>sN S fun a S=>?_
  exact lT (⟨(w64 (ap + 1),bz),(Option.some.inj h).symm,⟨bj,bl,S.fix [0,1,2,3] [0,1] (by decide) d d d⟩⟩)
 refine wp_block ?_
 refine sSeq (fun dZ cU=>?_)
 obtain ⟨aR,cV,h⟩:=bS h
 obtain ⟨av,bG,h⟩:=bS h
 obtain ⟨aa,bH,h⟩:=bS h
 obtain ⟨cG,bI,S⟩:=pIdx (P:=Try.prog) (r:=(rI .i64)) (v:=.slice ai p0.Right.length aj) (xs:=p0.Right) (j:=ap) 34 3 1 S Try.underlying34 d d cV
 obtain ⟨dp,S⟩:=pLoad (r:=(rI .i64)) (q:=cG) (x:=aR) 0 S d
 obtain rfl:dp=iv aR:=S.mem.know (i:=1) (e:=fRep (rI .i64) (dp) aR) d
 obtain ⟨cH,bJ,S⟩:=pIdx (P:=Try.prog) (r:=(rI .i64)) (v:=.slice ai p0.Right.length aj) (xs:=p0.Right) (j:=w64 (ap - 1)) 34 3 4 S Try.underlying34 d d bG
 obtain ⟨dr,S⟩:=pLoad (r:=(rI .i64)) (q:=cH) (x:=av) 0 S d
 obtain rfl:dr=iv av:=S.mem.know (i:=1) (e:=fRep (rI .i64) (dr) av) d
 refine sDraw (nf:=[12,13,14]) (W:=[(0,35,.pointer (some ⟨ae,1,none⟩)),(1,36,.slice ai p0.Right.length aj),(2,37,iv ap),(3,38,cG),(4,39,iv aR),(5,40,.pointer (some ⟨ae,1,none⟩)),(6,41,.slice ai p0.Right.length aj),(7,42,iv ap),(8,43,iv (w64 (ap - 1))),(9,44,cH),(10,45,iv av),(11,46,iv (w64 (aR - av)))]) d S ?_
 refine nodeCut (fun N W L D=>∀ aJ,N [13,12] ((13,7,.pointer (some ⟨aJ,0,none⟩)) :: (12,47,.agg #[.int .u8 aa.s.Kind,.bool aa.s.Purl,iv aa.s.A,iv aa.s.B,iv aa.uses]) :: W) ((eBox aJ 84 [.int .u8 0,.bool false,iv 0,iv 0,iv 0]) :: L) ((fRep r_piece_edge (.agg #[.int .u8 aa.s.Kind,.bool aa.s.Purl,iv aa.s.A,iv aa.s.B,iv aa.uses]) aa) :: D)) (fun aJ=>?_) fun nd1=>?_
 ·refine node_by (A:=anc_piece_Chart_1) 15 (by kernel_rfl) (by kernel_rfl) (by kernel_rfl) (by kernel_rfl) (by kernel_rfl) [13,12,0,1,2,3,4,5,6,7,8,9,10,11] (by kernel_rfl) (by decide) (by decide) (fD 12 (fD 12 (fD 12 (fD 12 (fD 12 (fD 12 (fD 12 (fD 12 (fD 12 (fD 12 (fD 12 (fD 12 (fY (fY (fN ?_ (trivial)))))))))))))))) [] (fun q hq=>by cases hq) (fun hY=>absurd (hY 14 (by decide)) (by decide))
  refine ⟨_,[(7,.pointer (some ⟨aJ,0,none⟩)),(47,.agg #[.int .u8 aa.s.Kind,.bool aa.s.Purl,iv aa.s.A,iv aa.s.B,iv aa.uses])],d,(srcs_of [some 0,some 1] d d d),fun G a w S=>?_⟩
  refine sStore (p:=aJ) (off:=0) (T:=84) (vs:=[.int .u8 0,.bool false,iv 0,iv 0,iv 0]) (v:=.agg #[.int .u8 aa.s.Kind,.bool aa.s.Purl,iv aa.s.A,iv aa.s.B,iv aa.uses]) 0 [.int .u8 aa.s.Kind,.bool aa.s.Purl,iv aa.s.A,iv aa.s.B,iv aa.uses] S (wN d) d d d d d d d (by simp) d fun a w S=>leafL ⟨d,_,_,.inr ⟨[],d,S,hz_of d,?_⟩⟩
  refine node_by (A:=anc_piece_Chart_1) 15 (by kernel_rfl) (by kernel_rfl) (by kernel_rfl) (by kernel_rfl) (by kernel_rfl) [13,12,0,1,2,3,4,5,6,7,8,9,10,11] (by kernel_rfl) (by decide) (by decide) (fD 14 (fD 14 (fD 14 (fD 14 (fD 14 (fD 14 (fD 14 (fD 14 (fD 14 (fD 14 (fD 14 (fD 14 (fY (fY (fY (trivial)))))))))))))))) [(1,.pointer (some ⟨ae,0,none⟩)),(2,.pointer (some ⟨ax,0,none⟩)),(5,.pointer (some ⟨au,0,none⟩)),(6,iv ap),(7,.pointer (some ⟨aJ,0,none⟩))] (fin_of [none,none,none,none,some 0] d (by kernel_rfl) (by kernel_rfl)) (fun _ a w S=>?_)
  refine leafT (cU _ _ ?_)
  refine sSeq (fun e9 cW=>?_)
  obtain ⟨aw,bK,h⟩:=bS h
  obtain ⟨aS,cX,h⟩:=bS h
  obtain ⟨a9,bL,h⟩:=bS h
  obtain ⟨bm,bo,S⟩:=pIdx (P:=Try.prog) (r:=(rI .i64)) (v:=.slice ag p0.Left.length ah) (xs:=p0.Left) (j:=w64 (ap - 1)) 34 3 7 S Try.underlying34 d d bK
  obtain ⟨bM,S⟩:=pLoad (r:=(rI .i64)) (q:=bm) (x:=aw) 0 S d
  obtain rfl:bM=iv aw:=S.mem.know (i:=1) (e:=fRep (rI .i64) (bM) aw) d
  obtain ⟨bn,bp,S⟩:=pIdx (P:=Try.prog) (r:=(rI .i64)) (v:=.slice ag p0.Left.length ah) (xs:=p0.Left) (j:=ap) 34 3 10 S Try.underlying34 d d cX
  obtain ⟨bN,S⟩:=pLoad (r:=(rI .i64)) (q:=bn) (x:=aS) 0 S d
  obtain rfl:bN=iv aS:=S.mem.know (i:=1) (e:=fRep (rI .i64) (bN) aS) d
  refine sDraw (nf:=[12,13,14]) (W:=[(0,48,.pointer (some ⟨ae,0,none⟩)),(1,49,.slice ag p0.Left.length ah),(2,50,iv ap),(3,51,iv (w64 (ap - 1))),(4,52,bm),(5,53,iv aw),(6,54,.pointer (some ⟨ae,0,none⟩)),(7,55,.slice ag p0.Left.length ah),(8,56,iv ap),(9,57,bn),(10,58,iv aS),(11,59,iv (w64 (aw - aS)))]) d S ?_
  refine nodeCut (fun N W L D=>∀ af,N [13,12] ((13,8,.pointer (some ⟨af,0,none⟩)) :: (12,60,.agg #[.int .u8 a9.s.Kind,.bool a9.s.Purl,iv a9.s.A,iv a9.s.B,iv a9.uses]) :: W) ((eBox af 84 [.int .u8 0,.bool false,iv 0,iv 0,iv 0]) :: L) ((fRep r_piece_edge (.agg #[.int .u8 a9.s.Kind,.bool a9.s.Purl,iv a9.s.A,iv a9.s.B,iv a9.uses]) a9) :: D)) (fun af=>?_) fun nd1=>?_
  ·refine node_by (A:=anc_piece_Chart_2) 15 (by kernel_rfl) (by kernel_rfl) (by kernel_rfl) (by kernel_rfl) (by kernel_rfl) [13,12,0,1,2,3,4,5,6,7,8,9,10,11] (by kernel_rfl) (by decide) (by decide) (fD 12 (fD 12 (fD 12 (fD 12 (fD 12 (fD 12 (fD 12 (fD 12 (fD 12 (fD 12 (fD 12 (fD 12 (fY (fY (fN ?_ (trivial)))))))))))))))) [] (fun q hq=>by cases hq) (fun hY=>absurd (hY 14 (by decide)) (by decide))
   refine ⟨_,[(8,.pointer (some ⟨af,0,none⟩)),(60,.agg #[.int .u8 a9.s.Kind,.bool a9.s.Purl,iv a9.s.A,iv a9.s.B,iv a9.uses])],d,(srcs_of [some 0,some 1] d d d),fun G a w S=>?_⟩
   refine sStore (p:=af) (off:=0) (T:=84) (vs:=[.int .u8 0,.bool false,iv 0,iv 0,iv 0]) (v:=.agg #[.int .u8 a9.s.Kind,.bool a9.s.Purl,iv a9.s.A,iv a9.s.B,iv a9.uses]) 0 [.int .u8 a9.s.Kind,.bool a9.s.Purl,iv a9.s.A,iv a9.s.B,iv a9.uses] S (wN d) d d d d d d d (by simp) d fun a w S=>leafL ⟨d,_,_,.inr ⟨[],d,S,hz_of d,?_⟩⟩
   refine node_by (A:=anc_piece_Chart_2) 15 (by kernel_rfl) (by kernel_rfl) (by kernel_rfl) (by kernel_rfl) (by kernel_rfl) [13,12,0,1,2,3,4,5,6,7,8,9,10,11] (by kernel_rfl) (by decide) (by decide) (fD 14 (fD 14 (fD 14 (fD 14 (fD 14 (fD 14 (fD 14 (fD 14 (fD 14 (fD 14 (fD 14 (fD 14 (fY (fY (fY (trivial)))))))))))))))) [(1,.pointer (some ⟨ae,0,none⟩)),(2,.pointer (some ⟨ax,0,none⟩)),(5,.pointer (some ⟨au,0,none⟩)),(6,iv ap),(7,.pointer (some ⟨aJ,0,none⟩)),(8,.pointer (some ⟨af,0,none⟩))] (fin_of [none,none,none,none,none,some 0] d (by kernel_rfl) (by kernel_rfl)) (fun _ a w S=>?_)
   refine leafT (cW _ _ ?_)
   refine sSeq (fun dy bO=>?_)
   obtain ⟨bt,bP,S⟩:=pIdx (P:=Try.prog) (r:=(rI .i64)) (v:=.slice ai p0.Right.length aj) (xs:=p0.Right) (j:=w64 (ap - 1)) 34 3 15 S Try.underlying34 d d bG
   obtain ⟨bQ,S⟩:=pLoad (r:=(rI .i64)) (q:=bt) (x:=av) 0 S d
   obtain rfl:bQ=iv av:=S.mem.know (i:=1) (e:=fRep (rI .i64) (bQ) av) d
   obtain ⟨bu,bR,S⟩:=pIdx (P:=Try.prog) (r:=(rI .i64)) (v:=.slice ag p0.Left.length ah) (xs:=p0.Left) (j:=w64 (ap - 1)) 34 3 17 S Try.underlying34 d d bK
   obtain ⟨bV,S⟩:=pLoad (r:=(rI .i64)) (q:=bu) (x:=aw) 0 S d
   obtain rfl:bV=iv aw:=S.mem.know (i:=1) (e:=fRep (rI .i64) (bV) aw) d
   refine sDraw (nf:=[]) (W:=[(0,61,.pointer (some ⟨ae,1,none⟩)),(1,62,.slice ai p0.Right.length aj),(2,63,iv ap),(3,64,iv (w64 (ap - 1))),(4,65,bt),(5,66,iv av),(6,67,.pointer (some ⟨ae,0,none⟩)),(7,68,.slice ag p0.Left.length ah),(8,69,iv ap),(9,70,iv (w64 (ap - 1))),(10,71,bu),(11,72,iv aw),(12,73,iv (w64 (av - aw))),(13,74,.pointer (some ⟨aJ,4,none⟩)),(14,75,iv aa.uses),(15,76,iv (w64 ((w64 (av - aw)) - aa.uses))),(16,77,.pointer (some ⟨af,4,none⟩)),(17,78,iv a9.uses),(18,79,iv (w64 ((w64 ((w64 (av - aw)) - aa.uses)) - a9.uses))),(19,9,iv (w64 ((w64 ((w64 (av - aw)) - aa.uses)) - a9.uses)))]) d S ?_
   refine node_by (A:=anc_piece_Chart_3) 20 (by kernel_rfl) (by kernel_rfl) (by kernel_rfl) (by kernel_rfl) (by kernel_rfl) [0,1,2,3,4,5,6,7,8,9,10,11,12,13,14,15,16,17,18,19] (by kernel_rfl) (by decide) (by decide) (fF ?_ (fF ?_ (fF ?_ (fF ?_ (fF ?_ (fF ?_ (fF ?_ (fF ?_ (fF ?_ (fF ?_ (fF ?_ (fF ?_ (fF ?_ (fF ?_ (fF ?_ (fF ?_ (fF ?_ (fF ?_ (fF ?_ (fF ?_ (trivial))))))))))))))))))))) [(1,.pointer (some ⟨ae,0,none⟩)),(2,.pointer (some ⟨ax,0,none⟩)),(5,.pointer (some ⟨au,0,none⟩)),(6,iv ap),(7,.pointer (some ⟨aJ,0,none⟩)),(8,.pointer (some ⟨af,0,none⟩)),(9,iv (w64 ((w64 ((w64 (av - aw)) - aa.uses)) - a9.uses)))] (fin_of [none,none,none,none,none,none,some 19] d (by kernel_rfl) (by kernel_rfl)) (fun _ a w S=>?_)
   ·refine fJ [(1,_)] 0 [none] fun G a w S=>?_
    exact sField (b:=ae) (off:=0) 1 1 S (wN d) d d d d d (lb d) fun a S=>leafL ⟨d,S⟩
   ·refine fJ [(61,_)] 1 [some 0] fun G a w S=>?_
    exact sLoad1 2 (.slice ai p0.Right.length aj) S (wN d) d d d d d d (lb d) fun a S=>leafL ⟨d,S⟩
   ·exact fM 2 none d d d d (.inl d) d d d
   ·refine fJ [(63,_)] 3 [some 2] fun G a w S=>?_
    exact sBin _ S (wN d) d d d (bSub _ _ _ _ ap 1) d (lb d) fun a S=>leafL ⟨d,S⟩
   ·refine fJ [(62,_),(64,_)] 4 [some 1,some 3] fun G a w S=>?_
    exact sIdxV S (wN d) d d d bP d (lb d) fun a S=>leafL ⟨d,S⟩
   ·refine fJ [(65,_)] 5 [some 4] fun G a w S=>?_
    exact sLoadV1 (vq:=bt) 3 (iv av) S (wN d) d d d d d (lb d) fun a S=>leafL ⟨d,S⟩
   ·refine fJ [(1,_)] 6 [none] fun G a w S=>?_
    exact sField (b:=ae) (off:=0) 0 0 S (wN d) d d d d d (lb d) fun a S=>leafL ⟨d,S⟩
   ·refine fJ [(67,_)] 7 [some 6] fun G a w S=>?_
    exact sLoad1 2 (.slice ag p0.Left.length ah) S (wN d) d d d d d d (lb d) fun a S=>leafL ⟨d,S⟩
   ·exact fM 8 none d d d d (.inl d) d d d
   ·refine fJ [(69,_)] 9 [some 8] fun G a w S=>?_
    exact sBin _ S (wN d) d d d (bSub _ _ _ _ ap 1) d (lb d) fun a S=>leafL ⟨d,S⟩
   ·refine fJ [(68,_),(70,_)] 10 [some 7,some 9] fun G a w S=>?_
    exact sIdxV S (wN d) d d d bR d (lb d) fun a S=>leafL ⟨d,S⟩
   ·refine fJ [(71,_)] 11 [some 10] fun G a w S=>?_
    exact sLoadV1 (vq:=bu) 0 (iv aw) S (wN d) d d d d d (lb d) fun a S=>leafL ⟨d,S⟩
   ·refine fJ [(66,_),(72,_)] 12 [some 5,some 11] fun G a w S=>?_
    exact sBin _ S (wN d) d d d (bSub _ _ _ _ av aw) d (lb d) fun a S=>leafL ⟨d,S⟩
   ·refine fJ [(7,_)] 13 [none] fun G a w S=>?_
    exact sField (b:=aJ) (off:=0) 4 4 S (wN d) d d d d d (lb d) fun a S=>leafL ⟨d,S⟩
   ·refine fJ [(74,_)] 14 [some 13] fun G a w S=>?_
    exact sLoad1 1 (iv aa.uses) S (wN d) d d d d d d (lb d) fun a S=>leafL ⟨d,S⟩
   ·refine fJ [(73,_),(75,_)] 15 [some 12,some 14] fun G a w S=>?_
    exact sBin _ S (wN d) d d d (bSub _ _ _ _ (w64 (av - aw)) aa.uses) d (lb d) fun a S=>leafL ⟨d,S⟩
   ·refine fJ [(8,_)] 16 [none] fun G a w S=>?_
    exact sField (b:=af) (off:=0) 4 4 S (wN d) d d d d d (lb d) fun a S=>leafL ⟨d,S⟩
   ·refine fJ [(77,_)] 17 [some 16] fun G a w S=>?_
    exact sLoad1 0 (iv a9.uses) S (wN d) d d d d d d (lb d) fun a S=>leafL ⟨d,S⟩
   ·refine fJ [(76,_),(78,_)] 18 [some 15,some 17] fun G a w S=>?_
    exact sBin _ S (wN d) d d d (bSub _ _ _ _ (w64 ((w64 (av - aw)) - aa.uses)) a9.uses) d (lb d) fun a S=>leafL ⟨d,S⟩
   ·exact fM 19 (some 18) d d d d (.inr d) d d d
   refine leafT (bO _ _ ?_)
   refine sSeq (fun dz bW=>sSeq (fun dA bX=>sRegion (sM S fun a S=>?_)))
   refine sBin _ S (wN d) d d d (bLt _ _ _ _ .i64 (w64 ((w64 ((w64 (av - aw)) - aa.uses)) - a9.uses)) 1) d (lb d) fun a S=>lT (bX _ _ ?_)
   rcases iS h with ⟨aZ,h⟩ | ⟨aZ,h⟩
   ·refine sCondT S d aZ (sSeq (fun dB bY=>sRegion (sBuild [] [iv 0,.slice none 0 0] S (wN d) d d d d (lb d) fun a S=>sStore (p:=ax) (off:=0) (T:=49) (vs:=[iv 0,.slice none 0 0]) (v:=.agg #[iv 0,.slice none 0 0]) 3 [iv 0,.slice none 0 0] S (wN d) d d d d d d d (by simp) d fun a w S=>sN S fun a S=>?_)))
    refine lT (bY _ _ ?_)
    obtain rfl:=tS h
    have h:=dn
    try dsimp only at h
    obtain rfl:=tS h
    obtain rfl:=bE _ d
    have h:=dm
    try dsimp only at h
    obtain rfl:=tS h
    have h:=dl
    try dsimp only at h
    obtain rfl:=tS h
    have S:=S.learn (fRep (rL r_api_Row) (.slice none 0 0) ([]:(List api_Row))) (rL_nil _ _ _)
    have S:=S.learn (fRep r_api_Chart (.agg #[iv 0,.slice none 0 0]) (api_Chart.mk 0 ([]:(List api_Row)))) ⟨_,d,S.mem.know (i:=0) (e:=fRep (rL r_api_Row) (.slice none 0 0) ([]:(List api_Row))) d⟩
    exact wp_ret (rThen (rBlock (rThen (rThen (rBlock (rThen (sRet (.tuple #[.agg #[iv 0,.slice none 0 0],iv 22]) S (rsl2 d (rvN (c:=2) (t:=49) (T:=49) (p:=ax) 0 [iv 0,.slice none 0 0] S d d d d) (rvT (t:=3) (v:=iv 22) S d)) ⟨(.agg #[iv 0,.slice none 0 0]),d,S.mem.sel [] [0] (by decide) d d⟩)))))))
   refine sCondF S d aZ (wp_skip (leafT (bW _ _ ?_)))
   refine sSeq (fun dC bZ=>sRegion (sN S fun a S=>?_))
   refine lT (bZ _ _ ?_)
   obtain ⟨cY,h,cZ⟩:=bS h
   refine sCut (fun a w=>∃ b8,b8=cY∧∃ aU,∃ aV,St [] E [] w0 127 a w [(1,.pointer (some ⟨ae,0,none⟩)),(2,.pointer (some ⟨ax,0,none⟩)),(5,.pointer (some ⟨au,0,none⟩)),(6,iv ap),(8,.pointer (some ⟨af,0,none⟩)),(9,iv (w64 ((w64 ((w64 (av - aw)) - aa.uses)) - a9.uses))),(10,.slice aU b8.length aV)] [eBox ae 36 [.slice ag p0.Left.length ah,.slice ai p0.Right.length aj],eBox ax 49 [iv 0,.slice none 0 0],eBox au 49 [iv (w64 (ak - al)),.slice ab am.length ac],eBox af 84 [.int .u8 a9.s.Kind,.bool a9.s.Purl,iv a9.s.A,iv a9.s.B,iv a9.uses],eRow r_api_Stitch 82 (.slice aU b8.length aV) b8,eRow r_api_Row 90 (.slice ab am.length ac) am] [fRep (rL (rI .i64)) (.slice ag p0.Left.length ah) p0.Left,fRep (rL (rI .i64)) (.slice ai p0.Right.length aj) p0.Right]) ?_ (fun a w hI=>?_)
   ·refine sSeq (fun dD c6=>sRegion (sField (b:=aJ) (off:=0) 0 0 S (wN d) d d d d d (lb d) fun a S=>sField (b:=aJ) (off:=0) 0 0 S (wN d) d d d d d (lb d) fun a S=>sLoad1 1 (.int .u8 aa.s.Kind) S (wN d) d d d d d d (lb d) fun a S=>sBin _ S (wN d) d d d (bNe _ _ _ _ .u8 aa.s.Kind 0) d (lb d) fun a S=>lT (c6 _ _ ?_)))
    rcases iS h with ⟨ba,h⟩ | ⟨ba,h⟩
    rotate_left
    ·refine sCondF S d ba ?_
     have S:=S.nilRow r_api_Stitch 82 (α:=api_Stitch)
     exact wp_skip (leafT (⟨([]:List api_Stitch),Option.some.inj h,none,0,S.fix [3,4,5,1,0,6] [20,21] (by decide) d d d⟩))
    refine sCondT S d ba (sRegion (sM S fun a S=>?_))
    refine sField (b:=aJ) (off:=0) 0 0 S (wN d) d d d d d (lb d) fun a S=>sLoadN (p:=aJ) (off:=0) (T:=84) (vs:=[.int .u8 aa.s.Kind,.bool aa.s.Purl,iv aa.s.A,iv aa.s.B,iv aa.uses]) 1 [.int .u8 aa.s.Kind,.bool aa.s.Purl,iv aa.s.A,iv aa.s.B] S (wN d) d d d d d d d (lb d) fun a S=>?_
    have S:=S.learn (fRep r_api_Stitch (.agg #[.int .u8 aa.s.Kind,.bool aa.s.Purl,iv aa.s.A,iv aa.s.B]) aa.s) d
    refine sLit (r:=r_api_Stitch) (T:=82) (xs:=[aa.s]) [(0,.agg #[.int .u8 aa.s.Kind,.bool aa.s.Purl,iv aa.s.A,iv aa.s.B])] 1 [.agg #[.int .u8 aa.s.Kind,.bool aa.s.Purl,iv aa.s.A,iv aa.s.B]] [.int .u8 aa.s.Kind,.bool aa.s.Purl,iv aa.s.A,iv aa.s.B] (.agg #[.int .u8 0,.bool false,iv 0,iv 0]) 24 S (wN d) d d Try.underlying86 d (by decide) (by decide) (by kernel_rfl) d (fun E1 w1 hE=>All.cons (r_api_Stitch.mono hE (S.mem.know (i:=0) (e:=fRep r_api_Stitch (.agg #[.int .u8 aa.s.Kind,.bool aa.s.Purl,iv aa.s.A,iv aa.s.B]) aa.s) d)) (All.nil _ _ _)) d d (lb d) fun a w c7 c8 S=>?_
    have S:=S.nilRow r_api_Stitch 82 (α:=api_Stitch)
    obtain ⟨d5,c9,h⟩:=bS h
    refine sApp (r:=r_api_Stitch) (T:=82) (xs:=([]:List api_Stitch)) (ys:=[aa.s]) (v:=.slice none 0 0) (u:=.slice c7 [aa.s].length c8) 0 (.agg #[.int .u8 0,.bool false,iv 0,iv 0]) 24 S (wN d) d Try.underlying86 d d (by decide) d d d (src_R (T:=82) 1 S.mem d) c9 d (lb d) fun a w ca cb S=>sN S fun a S=>?_
    exact lT (⟨d5,Option.some.inj h,ca,cb,S.fix [4,5,6,2,0,7] [21,22] (by decide) d d d⟩)
   obtain ⟨b8,rfl,aU,aV,S⟩:=hI
   have h:=cZ
   try dsimp only at h
   obtain ⟨d6,h,d7⟩:=bS h
   refine sCut (fun a w=>∃ aL,aL=d6∧∃ aM,∃ aO,St [] E [] w0 127 a w [(1,.pointer (some ⟨ae,0,none⟩)),(2,.pointer (some ⟨ax,0,none⟩)),(5,.pointer (some ⟨au,0,none⟩)),(6,iv ap),(8,.pointer (some ⟨af,0,none⟩)),(10,.slice aM aL.length aO)] [eBox ae 36 [.slice ag p0.Left.length ah,.slice ai p0.Right.length aj],eBox ax 49 [iv 0,.slice none 0 0],eBox au 49 [iv (w64 (ak - al)),.slice ab am.length ac],eBox af 84 [.int .u8 a9.s.Kind,.bool a9.s.Purl,iv a9.s.A,iv a9.s.B,iv a9.uses],eRow r_api_Stitch 82 (.slice aM aL.length aO) aL,eRow r_api_Row 90 (.slice ab am.length ac) am] [fRep (rL (rI .i64)) (.slice ag p0.Left.length ah) p0.Left,fRep (rL (rI .i64)) (.slice ai p0.Right.length aj) p0.Right]) ?_ (fun a w hI=>?_)
   ·refine sSeq (fun dE cc=>sRegion (sM S fun a S=>?_))
    refine sM S fun a S=>?_
    refine lT (cc _ _ (wp_block ?_))
    obtain ⟨dG,hl,d8⟩:=bS h
    refine sLoop hl (fun s0 a w=>match s0 with | (aT,bb)=>∃ aP,∃ aQ,St [] E [] w0 127 a w [(1,.pointer (some ⟨ae,0,none⟩)),(2,.pointer (some ⟨ax,0,none⟩)),(5,.pointer (some ⟨au,0,none⟩)),(6,iv ap),(8,.pointer (some ⟨af,0,none⟩)),(10,.slice aP aT.length aQ),(92,iv (w64 ((w64 ((w64 (av - aw)) - aa.uses)) - a9.uses))),(93,iv bb)] [eBox ae 36 [.slice ag p0.Left.length ah,.slice ai p0.Right.length aj],eBox ax 49 [iv 0,.slice none 0 0],eBox au 49 [iv (w64 (ak - al)),.slice ab am.length ac],eBox af 84 [.int .u8 a9.s.Kind,.bool a9.s.Purl,iv a9.s.A,iv a9.s.B,iv a9.uses],eRow r_api_Stitch 82 (.slice aP aT.length aQ) aT,eRow r_api_Row 90 (.slice ab am.length ac) am] [fRep (rL (rI .i64)) (.slice ag p0.Left.length ah) p0.Left,fRep (rL (rI .i64)) (.slice ai p0.Right.length aj) p0.Right]) ⟨aU,aV,S.fix [0,1,2,3,4,5] [0,1] (by decide) d d d⟩ ?_
    clear hl h
    intro s0 a w c0 hI h cd
    obtain ⟨aT,bb⟩:=s0
    unfold piece_Chart_l1 at h
    dsimp only at h hI
    obtain ⟨aP,aQ,S⟩:=hI
    refine sSeq (fun dH ce=>sRegion (sBin _ S (wN d) d d d (bLt _ _ _ _ .i64 bb (w64 ((w64 ((w64 (av - aw)) - aa.uses)) - a9.uses))) d (lb d) fun a S=>lT (ce _ _ (sSeq (fun dI cf=>?_)))))
    rcases iS h with ⟨bc,h⟩ | ⟨bc,h⟩
    rotate_left
    ·refine sCondF S d bc ?_
     obtain rfl:=tS h
     obtain rfl:=cd _ d
     have h:=d8
     try dsimp only at h
     exact wp_exit (xThen (xThen (xHit (leafT (⟨aT,Option.some.inj h,aP,aQ,S.fix [0,1,2,3,4,5] [0,1] (by decide) d d d⟩)))))
    refine sCondT S d bc (wp_skip (leafT (cf _ _ ?_)))
    refine sSeq (fun dJ cg=>wp_block ?_)
    refine sRegion (sM S fun a S=>?_)
    refine sBuild [(0,.int .u8 1)] [.int .u8 1,.bool false,iv 0,iv 0] S (wN d) d d d d (lb d) fun a S=>?_
    have S:=S.learn (fRep r_api_Stitch (.agg #[.int .u8 1,.bool false,iv 0,iv 0]) (api_Stitch.mk 1 false 0 0)) d
    refine sLit (r:=r_api_Stitch) (T:=82) (xs:=[(api_Stitch.mk 1 false 0 0)]) [(0,.agg #[.int .u8 1,.bool false,iv 0,iv 0])] 1 [.agg #[.int .u8 1,.bool false,iv 0,iv 0]] [.int .u8 1,.bool false,iv 0,iv 0] (.agg #[.int .u8 0,.bool false,iv 0,iv 0]) 24 S (wN d) d d Try.underlying86 d (by decide) (by decide) (by kernel_rfl) d (fun E1 w1 hE=>All.cons (r_api_Stitch.mono hE (S.mem.know (i:=0) (e:=fRep r_api_Stitch (.agg #[.int .u8 1,.bool false,iv 0,iv 0]) (api_Stitch.mk 1 false 0 0)) d)) (All.nil _ _ _)) d d (lb d) fun a w ci cj S=>?_
    obtain ⟨d9,ck,h⟩:=bS h
    refine sApp (r:=r_api_Stitch) (T:=82) (xs:=aT) (ys:=[(api_Stitch.mk 1 false 0 0)]) (v:=.slice aP aT.length aQ) (u:=.slice ci [(api_Stitch.mk 1 false 0 0)].length cj) 5 (.agg #[.int .u8 0,.bool false,iv 0,iv 0]) 24 S (wN d) d Try.underlying86 d d (by decide) d d d (src_R (T:=82) 0 S.mem d) ck d (lb d) fun a w cl cm S=>sN S fun a S=>?_
    refine leafL (leafB (leafT (cg _ _ ?_)))
    refine sRegion (sBin _ S (wN d) d d d (bAdd _ _ _ _ bb 1) d (lb d) fun a S=>sM S fun a S=>?_)
    exact lT (⟨(d9,w64 (bb + 1)),(Option.some.inj h).symm,⟨cl,cm,S.fix [2,3,4,5,0,6] [1,2] (by decide) d d d⟩⟩)
   obtain ⟨aL,rfl,aM,aO,S⟩:=hI
   have h:=d7
   try dsimp only at h
   obtain ⟨da,h,db⟩:=bS h
   refine sCut (fun a w=>∃ ay,ay=da∧∃ az,∃ aA,St [] E [] w0 127 a w [(1,.pointer (some ⟨ae,0,none⟩)),(2,.pointer (some ⟨ax,0,none⟩)),(5,.pointer (some ⟨au,0,none⟩)),(6,iv ap),(10,.slice az ay.length aA)] [eBox ae 36 [.slice ag p0.Left.length ah,.slice ai p0.Right.length aj],eBox ax 49 [iv 0,.slice none 0 0],eBox au 49 [iv (w64 (ak - al)),.slice ab am.length ac],eRow r_api_Stitch 82 (.slice az ay.length aA) ay,eRow r_api_Row 90 (.slice ab am.length ac) am] [fRep (rL (rI .i64)) (.slice ag p0.Left.length ah) p0.Left,fRep (rL (rI .i64)) (.slice ai p0.Right.length aj) p0.Right]) ?_ (fun a w hI=>?_)
   ·refine sSeq (fun dK cn=>sRegion (sField (b:=af) (off:=0) 0 0 S (wN d) d d d d d (lb d) fun a S=>sField (b:=af) (off:=0) 0 0 S (wN d) d d d d d (lb d) fun a S=>sLoad1 3 (.int .u8 a9.s.Kind) S (wN d) d d d d d d (lb d) fun a S=>sBin _ S (wN d) d d d (bNe _ _ _ _ .u8 a9.s.Kind 0) d (lb d) fun a S=>lT (cn _ _ ?_)))
    rcases iS h with ⟨bf,h⟩ | ⟨bf,h⟩
    rotate_left
    ·refine sCondF S d bf ?_
     exact wp_skip (leafT (⟨aL,Option.some.inj h,aM,aO,S.fix [0,1,2,4,5] [0,1] (by decide) d d d⟩))
    refine sCondT S d bf (sRegion (sM S fun a S=>?_))
    refine sField (b:=af) (off:=0) 0 0 S (wN d) d d d d d (lb d) fun a S=>sLoadN (p:=af) (off:=0) (T:=84) (vs:=[.int .u8 a9.s.Kind,.bool a9.s.Purl,iv a9.s.A,iv a9.s.B,iv a9.uses]) 3 [.int .u8 a9.s.Kind,.bool a9.s.Purl,iv a9.s.A,iv a9.s.B] S (wN d) d d d d d d d (lb d) fun a S=>?_
    have S:=S.learn (fRep r_api_Stitch (.agg #[.int .u8 a9.s.Kind,.bool a9.s.Purl,iv a9.s.A,iv a9.s.B]) a9.s) d
    refine sLit (r:=r_api_Stitch) (T:=82) (xs:=[a9.s]) [(0,.agg #[.int .u8 a9.s.Kind,.bool a9.s.Purl,iv a9.s.A,iv a9.s.B])] 1 [.agg #[.int .u8 a9.s.Kind,.bool a9.s.Purl,iv a9.s.A,iv a9.s.B]] [.int .u8 a9.s.Kind,.bool a9.s.Purl,iv a9.s.A,iv a9.s.B] (.agg #[.int .u8 0,.bool false,iv 0,iv 0]) 24 S (wN d) d d Try.underlying86 d (by decide) (by decide) (by kernel_rfl) d (fun E1 w1 hE=>All.cons (r_api_Stitch.mono hE (S.mem.know (i:=0) (e:=fRep r_api_Stitch (.agg #[.int .u8 a9.s.Kind,.bool a9.s.Purl,iv a9.s.A,iv a9.s.B]) a9.s) d)) (All.nil _ _ _)) d d (lb d) fun a w co cp S=>?_
    obtain ⟨dc,cq,h⟩:=bS h
    refine sApp (r:=r_api_Stitch) (T:=82) (xs:=aL) (ys:=[a9.s]) (v:=.slice aM aL.length aO) (u:=.slice co [a9.s].length cp) 5 (.agg #[.int .u8 0,.bool false,iv 0,iv 0]) 24 S (wN d) d Try.underlying86 d d (by decide) d d d (src_R (T:=82) 0 S.mem d) cq d (lb d) fun a w cr ct S=>sN S fun a S=>?_
    exact lT (⟨dc,Option.some.inj h,cr,ct,S.fix [2,3,4,0,6] [1,2] (by decide) d d d⟩)
   obtain ⟨ay,rfl,az,aA,S⟩:=hI
   have h:=db
   try dsimp only at h
   refine sSeq (fun dM cu=>sRegion (sM S fun a S=>?_))
   obtain ⟨aC,cv,h⟩:=bS h
   refine sBin _ S (wN d) d d d (bRem _ _ _ _ (x:=ap) (y:=2) cv) d (lb d) fun a S=>sBin _ S (wN d) d d d (bEq _ _ _ _ .i64 aC 1) d (lb d) fun a S=>sN S fun a S=>?_
   refine lT (cu _ _ ?_)
   obtain ⟨de,h,df⟩:=bS h
   refine sCut (fun a w=>∃ ao,ao=de∧∃ aq,∃ ar,St [] E [] w0 127 a w [(1,.pointer (some ⟨ae,0,none⟩)),(2,.pointer (some ⟨ax,0,none⟩)),(5,.pointer (some ⟨au,0,none⟩)),(6,iv ap),(10,.slice aq ao.length ar),(11,.bool (aC == 1))] [eBox ae 36 [.slice ag p0.Left.length ah,.slice ai p0.Right.length aj],eBox ax 49 [iv 0,.slice none 0 0],eBox au 49 [iv (w64 (ak - al)),.slice ab am.length ac],eRow r_api_Row 90 (.slice ab am.length ac) am] [fRep (rL r_api_Stitch) (.slice aq ao.length ar) ao,fRep (rL (rI .i64)) (.slice ag p0.Left.length ah) p0.Left,fRep (rL (rI .i64)) (.slice ai p0.Right.length aj) p0.Right]) ?_ (fun a w hI=>?_)
   ·refine sSeq (fun dN cw=>sRegion (sM S fun a S=>?_))
    refine lT (cw _ _ ?_)
    rcases iS h with ⟨bg,h⟩ | ⟨bg,h⟩
    rotate_left
    ·refine sCondF S d bg ?_
     have S:=S.shutR (r:=r_api_Stitch) (T:=82) (v:=.slice az ay.length aA) (xs:=ay) 3 d
     exact wp_skip (leafT (⟨ay,Option.some.inj h,az,aA,S.fix [0,1,2,3] [0,1,2] (by decide) d d d⟩))
    refine sCondT S d bg (sRegion (sM S fun a S=>?_))
    obtain ⟨aI,cx,h⟩:=bS h
    have S:=S.shutR (r:=r_api_Stitch) (T:=82) (v:=.slice az ay.length aA) (xs:=ay) 3 d
    refine sCall (X:=Value) (f:=41) (vs:=[.slice az ay.length aA]) (val:=c_stitch_Turn_val aI) (B':=fun _=>[]) (D':=c_stitch_Turn_D aI) [] [eBox ae 36 [.slice ag p0.Left.length ah,.slice ai p0.Right.length aj],eBox ax 49 [iv 0,.slice none 0 0],eBox au 49 [iv (w64 (ak - al)),.slice ab am.length ac],eRow r_api_Row 90 (.slice ab am.length ac) am] [fRep (rL r_api_Stitch) (.slice az ay.length aA) ay] [0,1,2,3] [0] S (wN d) d callee41 d (by decide) d d (fun E1 w1 S1=>c_stitch_Turn E1 w1 ay (.slice az ay.length aA) aI cx S1) d (lb d) fun dg a w S=>?_
    obtain ⟨aW,aX,_,rfl,_⟩:=S.mem.know (i:=0) (e:=fRep (rL r_api_Stitch) (dg) aI.1) d
    refine sM S fun a S=>?_
    refine sExtract (vs:=[.slice aW aI.1.length aX,iv aI.2]) (.slice aW aI.1.length aX) S (wN d) d d d d (lb d) fun a S=>sExtract (vs:=[.slice aW aI.1.length aX,iv aI.2]) (iv aI.2) S (wN d) d d d d (lb d) fun a S=>sN S fun a S=>?_
    exact lT (⟨aI.1,Option.some.inj h,aW,aX,S.fix [0,1,2,3] [0,2,3] (by decide) d d d⟩)
   obtain ⟨ao,rfl,aq,ar,S⟩:=hI
   have h:=df
   try dsimp only at h
   refine sRegion (sField (b:=au) (off:=0) 1 1 S (wN d) d d d d d (lb d) fun a S=>sLoad1 2 (.slice ab am.length ac) S (wN d) d d d d d d (lb d) fun a S=>sM S fun a S=>?_)
   refine sM S fun a S=>?_
   refine sBuild [(0,.bool (aC == 1)),(1,.slice aq ao.length ar)] [.bool (aC == 1),.slice aq ao.length ar] S (wN d) d d d d (lb d) fun a S=>?_
   have S:=S.learn (fRep r_api_Row (.agg #[.bool (aC == 1),.slice aq ao.length ar]) (api_Row.mk (aC == 1) ao)) ⟨_,d,S.mem.know (i:=0) (e:=fRep (rL r_api_Stitch) (.slice aq ao.length ar) ao) d⟩
   refine sLit (r:=r_api_Row) (T:=90) (xs:=[(api_Row.mk (aC == 1) ao)]) [(0,.agg #[.bool (aC == 1),.slice aq ao.length ar])] 1 [.agg #[.bool (aC == 1),.slice aq ao.length ar]] [.bool (aC == 1),.slice aq ao.length ar] (.agg #[.bool false,.slice none 0 0]) 32 S (wN d) d d Try.underlying47 d (by decide) (by decide) (by kernel_rfl) d (fun E1 w1 hE=>All.cons (r_api_Row.mono hE (S.mem.know (i:=0) (e:=fRep r_api_Row (.agg #[.bool (aC == 1),.slice aq ao.length ar]) (api_Row.mk (aC == 1) ao)) d)) (All.nil _ _ _)) d d (lb d) fun a w cy cz S=>?_
   obtain ⟨bv,cA,h⟩:=bS h
   refine sApp (r:=r_api_Row) (T:=90) (xs:=am) (ys:=[(api_Row.mk (aC == 1) ao)]) (v:=.slice ab am.length ac) (u:=.slice cy [(api_Row.mk (aC == 1) ao)].length cz) 4 (.agg #[.bool false,.slice none 0 0]) 32 S (wN d) d Try.underlying47 d d (by decide) d d d (src_R (T:=90) 0 S.mem d) cA d (lb d) fun a w bh bi S=>sField (b:=au) (off:=0) 1 1 S (wN d) d d d d d (lb d) fun a S=>sStore (p:=au) (off:=1) (T:=49) (vs:=[iv (w64 (ak - al)),.slice ab am.length ac]) (v:=.slice bh bv.length bi) 4 [.slice bh bv.length bi] S (wN d) d d d d d d d (by simp) d fun a w S=>?_
   exact leafL (leafB (leafT (⟨bv,Option.some.inj h,bh,bi,S.fix [3,4,0,1] [2,3] (by decide) d d d⟩)))
  refine node_by (A:=anc_piece_Chart_2) 15 (by kernel_rfl) (by kernel_rfl) (by kernel_rfl) (by kernel_rfl) (by kernel_rfl) [0,1,2,3,4,5,6,7,8,9,10,11] (by kernel_rfl) (by decide) (by decide) (fF ?_ (fF ?_ (fF ?_ (fF ?_ (fF ?_ (fF ?_ (fF ?_ (fF ?_ (fF ?_ (fF ?_ (fF ?_ (fF ?_ (fN ?_ (fN ?_ (aB 14 0 12 (by decide) (trivial)))))))))))))))) [] (fun q hq=>by cases hq) (fun hY=>absurd (hY 12 (by decide)) (by decide))
  ·refine fJ [(1,_)] 0 [none] fun G a w S=>?_
   exact sField (b:=ae) (off:=0) 0 0 S (wN d) d d d d d (lb d) fun a S=>leafL ⟨d,S⟩
  ·refine fJ [(48,_)] 1 [some 0] fun G a w S=>?_
   exact sLoad1 1 (.slice ag p0.Left.length ah) S (wN d) d d d d d d (lb d) fun a S=>leafL ⟨d,S⟩
  ·exact fM 2 none d d d d (.inl d) d d d
  ·refine fJ [(50,_)] 3 [some 2] fun G a w S=>?_
   exact sBin _ S (wN d) d d d (bSub _ _ _ _ ap 1) d (lb d) fun a S=>leafL ⟨d,S⟩
  ·refine fJ [(49,_),(51,_)] 4 [some 1,some 3] fun G a w S=>?_
   exact sIdxV S (wN d) d d d bo d (lb d) fun a S=>leafL ⟨d,S⟩
  ·refine fJ [(52,_)] 5 [some 4] fun G a w S=>?_
   exact sLoadV1 (vq:=bm) 3 (iv aw) S (wN d) d d d d d (lb d) fun a S=>leafL ⟨d,S⟩
  ·refine fJ [(1,_)] 6 [none] fun G a w S=>?_
   exact sField (b:=ae) (off:=0) 0 0 S (wN d) d d d d d (lb d) fun a S=>leafL ⟨d,S⟩
  ·refine fJ [(54,_)] 7 [some 6] fun G a w S=>?_
   exact sLoad1 1 (.slice ag p0.Left.length ah) S (wN d) d d d d d d (lb d) fun a S=>leafL ⟨d,S⟩
  ·exact fM 8 none d d d d (.inl d) d d d
  ·refine fJ [(55,_),(56,_)] 9 [some 7,some 8] fun G a w S=>?_
   exact sIdxV S (wN d) d d d bp d (lb d) fun a S=>leafL ⟨d,S⟩
  ·refine fJ [(57,_)] 10 [some 9] fun G a w S=>?_
   exact sLoadV1 (vq:=bn) 0 (iv aS) S (wN d) d d d d d (lb d) fun a S=>leafL ⟨d,S⟩
  ·refine fJ [(53,_),(58,_)] 11 [some 5,some 10] fun G a w S=>?_
   exact sBin _ S (wN d) d d d (bSub _ _ _ _ aw aS) d (lb d) fun a S=>leafL ⟨d,S⟩
  ·refine ⟨_,[(59,iv (w64 (aw - aS)))],d,(srcs_of [some 11] d d d),fun G a w S=>?_⟩
   refine sCall (X:=Value) (f:=40) (vs:=[iv (w64 (aw - aS)),.int .u8 4]) (val:=c_piece_bend_val a9) (B':=fun _=>[]) (D':=c_piece_bend_D a9) [] [eBox aJ 84 [.int .u8 aa.s.Kind,.bool aa.s.Purl,iv aa.s.A,iv aa.s.B,iv aa.uses],eBox ae 36 [.slice ag p0.Left.length ah,.slice ai p0.Right.length aj],eBox ax 49 [iv 0,.slice none 0 0],eBox au 49 [iv (w64 (ak - al)),.slice ab am.length ac],eRow r_api_Row 90 (.slice ab am.length ac) am] [] [0,1,2,3,4] [] S (wN d) d callee40 d (by decide) d d (fun E1 w1 S1=>c_piece_bend E1 w1 (w64 (aw - aS)) 4 a9 bL S1) d (lb d) fun cB a w S=>?_
   obtain rfl:cB=.agg #[.int .u8 a9.s.Kind,.bool a9.s.Purl,iv a9.s.A,iv a9.s.B,iv a9.uses]:=S.mem.know (i:=0) (e:=fRep r_piece_edge (cB) a9) d
   refine leafL ⟨d,_,_,.inl ⟨60,(.agg #[.int .u8 a9.s.Kind,.bool a9.s.Purl,iv a9.s.A,iv a9.s.B,iv a9.uses]),[],d,S,hz_of d,?_⟩⟩
   refine node_by (A:=anc_piece_Chart_2) 15 (by kernel_rfl) (by kernel_rfl) (by kernel_rfl) (by kernel_rfl) (by kernel_rfl) [12,0,1,2,3,4,5,6,7,8,9,10,11] (by kernel_rfl) (by decide) (by decide) (fD 12 (fD 12 (fD 12 (fD 12 (fD 12 (fD 12 (fD 12 (fD 12 (fD 12 (fD 12 (fD 12 (fD 12 (fY (fN ?_ (aB 14 0 13 (by decide) (trivial)))))))))))))))) [] (fun q hq=>by cases hq) (fun hY=>absurd (hY 13 (by decide)) (by decide))
   refine ⟨_,[],d,(srcs_of [] d d d),fun G a w S=>?_⟩
   refine sAlloc (.agg #[.int .u8 0,.bool false,iv 0,iv 0,iv 0]) S (wN d) d d [.int .u8 0,.bool false,iv 0,iv 0,iv 0] d d (lb d) fun a af w S=>leafL ⟨d,_,_,.inl ⟨8,(.pointer (some ⟨af,0,none⟩)),[],d,S,hz_of d,?_⟩⟩
   exact nd1 af
  refine ⟨_,[],d,(srcs_of [] d d d),fun G a w S=>?_⟩
  refine sAlloc (.agg #[.int .u8 0,.bool false,iv 0,iv 0,iv 0]) S (wN d) d d [.int .u8 0,.bool false,iv 0,iv 0,iv 0] d d (lb d) fun a bw w S=>leafL ⟨d,_,_,.inl ⟨8,(.pointer (some ⟨bw,0,none⟩)),[],d,S,hz_of d,?_⟩⟩
  refine node_by (A:=anc_piece_Chart_2) 15 (by kernel_rfl) (by kernel_rfl) (by kernel_rfl) (by kernel_rfl) (by kernel_rfl) [13,0,1,2,3,4,5,6,7,8,9,10,11] (by kernel_rfl) (by decide) (by decide) (fF ?_ (fF ?_ (fF ?_ (fF ?_ (fF ?_ (fF ?_ (fF ?_ (fF ?_ (fF ?_ (fF ?_ (fF ?_ (fF ?_ (fN ?_ (fY (aB 14 0 12 (by decide) (trivial)))))))))))))))) [] (fun q hq=>by cases hq) (fun hY=>absurd (hY 12 (by decide)) (by decide))
  ·refine fJ [(1,_)] 1 [none] fun G a w S=>?_
   exact sField (b:=ae) (off:=0) 0 0 S (wN d) d d d d d (lb d) fun a S=>leafL ⟨d,S⟩
  ·refine fJ [(48,_)] 2 [some 1] fun G a w S=>?_
   exact sLoad1 2 (.slice ag p0.Left.length ah) S (wN d) d d d d d d (lb d) fun a S=>leafL ⟨d,S⟩
  ·exact fM 3 none d d d d (.inl d) d d d
  ·refine fJ [(50,_)] 4 [some 3] fun G a w S=>?_
   exact sBin _ S (wN d) d d d (bSub _ _ _ _ ap 1) d (lb d) fun a S=>leafL ⟨d,S⟩
  ·refine fJ [(49,_),(51,_)] 5 [some 2,some 4] fun G a w S=>?_
   exact sIdxV S (wN d) d d d bo d (lb d) fun a S=>leafL ⟨d,S⟩
  ·refine fJ [(52,_)] 6 [some 5] fun G a w S=>?_
   exact sLoadV1 (vq:=bm) 3 (iv aw) S (wN d) d d d d d (lb d) fun a S=>leafL ⟨d,S⟩
  ·refine fJ [(1,_)] 7 [none] fun G a w S=>?_
   exact sField (b:=ae) (off:=0) 0 0 S (wN d) d d d d d (lb d) fun a S=>leafL ⟨d,S⟩
  ·refine fJ [(54,_)] 8 [some 7] fun G a w S=>?_
   exact sLoad1 2 (.slice ag p0.Left.length ah) S (wN d) d d d d d d (lb d) fun a S=>leafL ⟨d,S⟩
  ·exact fM 9 none d d d d (.inl d) d d d
  ·refine fJ [(55,_),(56,_)] 10 [some 8,some 9] fun G a w S=>?_
   exact sIdxV S (wN d) d d d bp d (lb d) fun a S=>leafL ⟨d,S⟩
  ·refine fJ [(57,_)] 11 [some 10] fun G a w S=>?_
   exact sLoadV1 (vq:=bn) 0 (iv aS) S (wN d) d d d d d (lb d) fun a S=>leafL ⟨d,S⟩
  ·refine fJ [(53,_),(58,_)] 12 [some 6,some 11] fun G a w S=>?_
   exact sBin _ S (wN d) d d d (bSub _ _ _ _ aw aS) d (lb d) fun a S=>leafL ⟨d,S⟩
  refine ⟨_,[(59,iv (w64 (aw - aS)))],d,(srcs_of [some 12] d d d),fun G a w S=>?_⟩
  refine sCall (X:=Value) (f:=40) (vs:=[iv (w64 (aw - aS)),.int .u8 4]) (val:=c_piece_bend_val a9) (B':=fun _=>[]) (D':=c_piece_bend_D a9) [] [eBox bw 84 [.int .u8 0,.bool false,iv 0,iv 0,iv 0],eBox aJ 84 [.int .u8 aa.s.Kind,.bool aa.s.Purl,iv aa.s.A,iv aa.s.B,iv aa.uses],eBox ae 36 [.slice ag p0.Left.length ah,.slice ai p0.Right.length aj],eBox ax 49 [iv 0,.slice none 0 0],eBox au 49 [iv (w64 (ak - al)),.slice ab am.length ac],eRow r_api_Row 90 (.slice ab am.length ac) am] [] [0,1,2,3,4,5] [] S (wN d) d callee40 d (by decide) d d (fun E1 w1 S1=>c_piece_bend E1 w1 (w64 (aw - aS)) 4 a9 bL S1) d (lb d) fun cC a w S=>?_
  obtain rfl:cC=.agg #[.int .u8 a9.s.Kind,.bool a9.s.Purl,iv a9.s.A,iv a9.s.B,iv a9.uses]:=S.mem.know (i:=0) (e:=fRep r_piece_edge (cC) a9) d
  refine leafL ⟨d,_,_,.inl ⟨60,(.agg #[.int .u8 a9.s.Kind,.bool a9.s.Purl,iv a9.s.A,iv a9.s.B,iv a9.uses]),[],d,S,hz_of d,?_⟩⟩
  exact nodePerm (nd1 bw) [1,0,2,3,4,5,6,7,8,9,10,11,12,13] [0,1,2,3,4,5] [0,1,2,3,4,5,6,7,8,9,10,11,12,13,14,15] (by decide) (by decide) d d d
 refine node_by (A:=anc_piece_Chart_1) 15 (by kernel_rfl) (by kernel_rfl) (by kernel_rfl) (by kernel_rfl) (by kernel_rfl) [0,1,2,3,4,5,6,7,8,9,10,11] (by kernel_rfl) (by decide) (by decide) (fF ?_ (fF ?_ (fF ?_ (fF ?_ (fF ?_ (fF ?_ (fF ?_ (fF ?_ (fF ?_ (fF ?_ (fF ?_ (fF ?_ (fN ?_ (fN ?_ (aB 14 0 12 (by decide) (trivial)))))))))))))))) [] (fun q hq=>by cases hq) (fun hY=>absurd (hY 12 (by decide)) (by decide))
 ·refine fJ [(1,_)] 0 [none] fun G a w S=>?_
  exact sField (b:=ae) (off:=0) 1 1 S (wN d) d d d d d (lb d) fun a S=>leafL ⟨d,S⟩
 ·refine fJ [(35,_)] 1 [some 0] fun G a w S=>?_
  exact sLoad1 0 (.slice ai p0.Right.length aj) S (wN d) d d d d d d (lb d) fun a S=>leafL ⟨d,S⟩
 ·exact fM 2 none d d d d (.inl d) d d d
 ·refine fJ [(36,_),(37,_)] 3 [some 1,some 2] fun G a w S=>?_
  exact sIdxV S (wN d) d d d bI d (lb d) fun a S=>leafL ⟨d,S⟩
 ·refine fJ [(38,_)] 4 [some 3] fun G a w S=>?_
  exact sLoadV1 (vq:=cG) 3 (iv aR) S (wN d) d d d d d (lb d) fun a S=>leafL ⟨d,S⟩
 ·refine fJ [(1,_)] 5 [none] fun G a w S=>?_
  exact sField (b:=ae) (off:=0) 1 1 S (wN d) d d d d d (lb d) fun a S=>leafL ⟨d,S⟩
 ·refine fJ [(40,_)] 6 [some 5] fun G a w S=>?_
  exact sLoad1 0 (.slice ai p0.Right.length aj) S (wN d) d d d d d d (lb d) fun a S=>leafL ⟨d,S⟩
 ·exact fM 7 none d d d d (.inl d) d d d
 ·refine fJ [(42,_)] 8 [some 7] fun G a w S=>?_
  exact sBin _ S (wN d) d d d (bSub _ _ _ _ ap 1) d (lb d) fun a S=>leafL ⟨d,S⟩
 ·refine fJ [(41,_),(43,_)] 9 [some 6,some 8] fun G a w S=>?_
  exact sIdxV S (wN d) d d d bJ d (lb d) fun a S=>leafL ⟨d,S⟩
 ·refine fJ [(44,_)] 10 [some 9] fun G a w S=>?_
  exact sLoadV1 (vq:=cH) 0 (iv av) S (wN d) d d d d d (lb d) fun a S=>leafL ⟨d,S⟩
 ·refine fJ [(39,_),(45,_)] 11 [some 4,some 10] fun G a w S=>?_
  exact sBin _ S (wN d) d d d (bSub _ _ _ _ aR av) d (lb d) fun a S=>leafL ⟨d,S⟩
 ·refine ⟨_,[(46,iv (w64 (aR - av)))],d,(srcs_of [some 11] d d d),fun G a w S=>?_⟩
  refine sCall (X:=Value) (f:=40) (vs:=[iv (w64 (aR - av)),.int .u8 3]) (val:=c_piece_bend_val aa) (B':=fun _=>[]) (D':=c_piece_bend_D aa) [] [eBox ae 36 [.slice ag p0.Left.length ah,.slice ai p0.Right.length aj],eBox ax 49 [iv 0,.slice none 0 0],eBox au 49 [iv (w64 (ak - al)),.slice ab am.length ac],eRow r_api_Row 90 (.slice ab am.length ac) am] [] [0,1,2,3] [] S (wN d) d callee40 d (by decide) d d (fun E1 w1 S1=>c_piece_bend E1 w1 (w64 (aR - av)) 3 aa bH S1) d (lb d) fun dt a w S=>?_
  obtain rfl:dt=.agg #[.int .u8 aa.s.Kind,.bool aa.s.Purl,iv aa.s.A,iv aa.s.B,iv aa.uses]:=S.mem.know (i:=0) (e:=fRep r_piece_edge (dt) aa) d
  refine leafL ⟨d,_,_,.inl ⟨47,(.agg #[.int .u8 aa.s.Kind,.bool aa.s.Purl,iv aa.s.A,iv aa.s.B,iv aa.uses]),[],d,S,hz_of d,?_⟩⟩
  refine node_by (A:=anc_piece_Chart_1) 15 (by kernel_rfl) (by kernel_rfl) (by kernel_rfl) (by kernel_rfl) (by kernel_rfl) [12,0,1,2,3,4,5,6,7,8,9,10,11] (by kernel_rfl) (by decide) (by decide) (fD 12 (fD 12 (fD 12 (fD 12 (fD 12 (fD 12 (fD 12 (fD 12 (fD 12 (fD 12 (fD 12 (fD 12 (fY (fN ?_ (aB 14 0 13 (by decide) (trivial)))))))))))))))) [] (fun q hq=>by cases hq) (fun hY=>absurd (hY 13 (by decide)) (by decide))
  refine ⟨_,[],d,(srcs_of [] d d d),fun G a w S=>?_⟩
  refine sAlloc (.agg #[.int .u8 0,.bool false,iv 0,iv 0,iv 0]) S (wN d) d d [.int .u8 0,.bool false,iv 0,iv 0,iv 0] d d (lb d) fun a aJ w S=>leafL ⟨d,_,_,.inl ⟨7,(.pointer (some ⟨aJ,0,none⟩)),[],d,S,hz_of d,?_⟩⟩
  exact nd1 aJ
 refine ⟨_,[],d,(srcs_of [] d d d),fun G a w S=>?_⟩
 refine sAlloc (.agg #[.int .u8 0,.bool false,iv 0,iv 0,iv 0]) S (wN d) d d [.int .u8 0,.bool false,iv 0,iv 0,iv 0] d d (lb d) fun a bx w S=>leafL ⟨d,_,_,.inl ⟨7,(.pointer (some ⟨bx,0,none⟩)),[],d,S,hz_of d,?_⟩⟩
 refine node_by (A:=anc_piece_Chart_1) 15 (by kernel_rfl) (by kernel_rfl) (by kernel_rfl) (by kernel_rfl) (by kernel_rfl) [13,0,1,2,3,4,5,6,7,8,9,10,11] (by kernel_rfl) (by decide) (by decide) (fF ?_ (fF ?_ (fF ?_ (fF ?_ (fF ?_ (fF ?_ (fF ?_ (fF ?_ (fF ?_ (fF ?_ (fF ?_ (fF ?_ (fN ?_ (fY (aB 14 0 12 (by decide) (trivial)))))))))))))))) [] (fun q hq=>by cases hq) (fun hY=>absurd (hY 12 (by decide)) (by decide))
 ·refine fJ [(1,_)] 1 [none] fun G a w S=>?_
  exact sField (b:=ae) (off:=0) 1 1 S (wN d) d d d d d (lb d) fun a S=>leafL ⟨d,S⟩
 ·refine fJ [(35,_)] 2 [some 1] fun G a w S=>?_
  exact sLoad1 1 (.slice ai p0.Right.length aj) S (wN d) d d d d d d (lb d) fun a S=>leafL ⟨d,S⟩
 ·exact fM 3 none d d d d (.inl d) d d d
 ·refine fJ [(36,_),(37,_)] 4 [some 2,some 3] fun G a w S=>?_
  exact sIdxV S (wN d) d d d bI d (lb d) fun a S=>leafL ⟨d,S⟩
 ·refine fJ [(38,_)] 5 [some 4] fun G a w S=>?_
  exact sLoadV1 (vq:=cG) 3 (iv aR) S (wN d) d d d d d (lb d) fun a S=>leafL ⟨d,S⟩
 ·refine fJ [(1,_)] 6 [none] fun G a w S=>?_
  exact sField (b:=ae) (off:=0) 1 1 S (wN d) d d d d d (lb d) fun a S=>leafL ⟨d,S⟩
 ·refine fJ [(40,_)] 7 [some 6] fun G a w S=>?_
  exact sLoad1 1 (.slice ai p0.Right.length aj) S (wN d) d d d d d d (lb d) fun a S=>leafL ⟨d,S⟩
 ·exact fM 8 none d d d d (.inl d) d d d
 ·refine fJ [(42,_)] 9 [some 8] fun G a w S=>?_
  exact sBin _ S (wN d) d d d (bSub _ _ _ _ ap 1) d (lb d) fun a S=>leafL ⟨d,S⟩
 ·refine fJ [(41,_),(43,_)] 10 [some 7,some 9] fun G a w S=>?_
  exact sIdxV S (wN d) d d d bJ d (lb d) fun a S=>leafL ⟨d,S⟩
 ·refine fJ [(44,_)] 11 [some 10] fun G a w S=>?_
  exact sLoadV1 (vq:=cH) 0 (iv av) S (wN d) d d d d d (lb d) fun a S=>leafL ⟨d,S⟩
 ·refine fJ [(39,_),(45,_)] 12 [some 5,some 11] fun G a w S=>?_
  exact sBin _ S (wN d) d d d (bSub _ _ _ _ aR av) d (lb d) fun a S=>leafL ⟨d,S⟩
 refine ⟨_,[(46,iv (w64 (aR - av)))],d,(srcs_of [some 12] d d d),fun G a w S=>?_⟩
 refine sCall (X:=Value) (f:=40) (vs:=[iv (w64 (aR - av)),.int .u8 3]) (val:=c_piece_bend_val aa) (B':=fun _=>[]) (D':=c_piece_bend_D aa) [] [eBox bx 84 [.int .u8 0,.bool false,iv 0,iv 0,iv 0],eBox ae 36 [.slice ag p0.Left.length ah,.slice ai p0.Right.length aj],eBox ax 49 [iv 0,.slice none 0 0],eBox au 49 [iv (w64 (ak - al)),.slice ab am.length ac],eRow r_api_Row 90 (.slice ab am.length ac) am] [] [0,1,2,3,4] [] S (wN d) d callee40 d (by decide) d d (fun E1 w1 S1=>c_piece_bend E1 w1 (w64 (aR - av)) 3 aa bH S1) d (lb d) fun cD a w S=>?_
 obtain rfl:cD=.agg #[.int .u8 aa.s.Kind,.bool aa.s.Purl,iv aa.s.A,iv aa.s.B,iv aa.uses]:=S.mem.know (i:=0) (e:=fRep r_piece_edge (cD) aa) d
 refine leafL ⟨d,_,_,.inl ⟨47,(.agg #[.int .u8 aa.s.Kind,.bool aa.s.Purl,iv aa.s.A,iv aa.s.B,iv aa.uses]),[],d,S,hz_of d,?_⟩⟩
 exact nodePerm (nd1 bx) [1,0,2,3,4,5,6,7,8,9,10,11,12,13] [0,1,2,3,4] [0,1,2,3,4,5,6,7,8] (by decide) (by decide) d d d
theorem pok_iff {p:api_Piece}:pok p=true ↔ p.Left.length=p.Right.length∧1 ≤ p.Left.length∧p.Left.length ≤ 100∧∀ k,k < p.Left.length→(-500 ≤ p.Left.getD k 0∧p.Left.getD k 0 ≤ 500)∧(-500 ≤ p.Right.getD k 0∧p.Right.getD k 0 ≤ 500)∧p.Left.getD k 0 < p.Right.getD k 0∧p.Right.getD k 0 - p.Left.getD k 0 ≤ 200:=by
 simp only [pok,pokAt,Bool.and_eq_true,decide_eq_true_eq,List.all_eq_true,List.mem_range,col_spec]
def bSt (d kd:Int):api_Stitch:=if d=0 then ⟨0,false,0,0⟩ else if 4 ≤ d then ⟨9,false,d,0⟩ else if 0 < d then ⟨5,false,d + 1,0⟩ else if -4 < d then ⟨kd,false,1 - d,0⟩ else ⟨10,false,-d,0⟩
def bU (d:Int):Int:=if d=0 then 0 else if 4 ≤ d then 0 else if 0 < d then 1 else if -4 < d then 1 - d else -d
theorem bend_cases (d:Int):d=0 ∨ 4 ≤ d ∨ (0 < d∧d < 4) ∨ (-4 < d∧d < 0) ∨ d ≤ -4:=by omega
theorem bend_eq {d:Int} (kd:Int) (h0:-1000 ≤ d) (h1:d ≤ 1000):F_piece_bend d kd=some ⟨bSt d kd,bU d⟩:=by
 unfold F_piece_bend bSt bU
 rcases bend_cases d with h | h | h | h | h
 ·simp [h]
 ·rw [bF (show ¬ d=0 by omega),dT h,if_neg (show ¬ d=0 by omega),if_neg (show ¬ d=0 by omega),if_pos h,if_pos h]; rfl
 ·rw [bF (show ¬ d=0 by omega),dF (show ¬ 4 ≤ d by omega),dT h.1,if_neg (show ¬ d=0 by omega),if_neg (show ¬ d=0 by omega),if_neg (show ¬ 4 ≤ d by omega),if_neg (show ¬ 4 ≤ d by omega),if_pos h.1,if_pos h.1,w64_of (by omega) (by omega)]; rfl
 ·rw [bF (show ¬ d=0 by omega),dF (show ¬ 4 ≤ d by omega),dF (show ¬ 0 < d by omega),dT h.1,if_neg (show ¬ d=0 by omega),if_neg (show ¬ d=0 by omega),if_neg (show ¬ 4 ≤ d by omega),if_neg (show ¬ 4 ≤ d by omega),if_neg (show ¬ 0 < d by omega),if_neg (show ¬ 0 < d by omega),if_pos h.1,if_pos h.1,w64_of (x:=1 - d) (by omega) (by omega)]; rfl
 ·rw [bF (show ¬ d=0 by omega),dF (show ¬ 4 ≤ d by omega),dF (show ¬ 0 < d by omega),dF (show ¬ -4 < d by omega),if_neg (show ¬ d=0 by omega),if_neg (show ¬ d=0 by omega),if_neg (show ¬ 4 ≤ d by omega),if_neg (show ¬ 4 ≤ d by omega),if_neg (show ¬ 0 < d by omega),if_neg (show ¬ 0 < d by omega),if_neg (show ¬ -4 < d by omega),if_neg (show ¬ -4 < d by omega),w64_of (x:=0 - d) (by omega) (by omega),show 0 - d=-d by omega]; rfl
theorem bU_bd (d:Int):0 ≤ bU d∧0 ≤ bU d + d∧(d ≠ 0→1 ≤ bU d ∨ 4 ≤ bU d + d):=by
 unfold bU
 rcases bend_cases d with h | h | h | h | h
 ·simp [h]
 ·rw [if_neg (by omega),if_pos h]; omega
 ·rw [if_neg (by omega),if_neg (by omega),if_pos h.1]; omega
 ·rw [if_neg (by omega),if_neg (by omega),if_neg (by omega),if_pos h.1]; omega
 ·rw [if_neg (by omega),if_neg (by omega),if_neg (by omega),if_neg (by omega)]; omega
theorem bU_le {d:Int} (h0:-1000 ≤ d) (h1:d ≤ 1000):0 ≤ bU d∧bU d ≤ 1001:=by
 unfold bU
 rcases bend_cases d with h | h | h | h | h
 ·simp [h]
 ·rw [if_neg (by omega),if_pos h]; omega
 ·rw [if_neg (by omega),if_neg (by omega),if_pos h.1]; omega
 ·rw [if_neg (by omega),if_neg (by omega),if_neg (by omega),if_pos h.1]; omega
 ·rw [if_neg (by omega),if_neg (by omega),if_neg (by omega),if_neg (by omega)]; omega
theorem bS_ok {d kd:Int} (hd:d ≠ 0) (hk:kd=3 ∨ kd=4) (h0:-200 ≤ d) (h1:d ≤ 200):okS (bSt d kd)∧usedS (bSt d kd)=bU d∧madeS (bSt d kd)=bU d + d∧(bSt d kd).Purl=false∧(bSt d kd).Kind ≠ 1∧(bSt d kd).Kind ≠ 0:=by
 unfold bSt bU
 rcases bend_cases d with h | h | h | h | h
 ·exact absurd h hd
 ·rw [if_neg hd,if_neg hd,if_pos h,if_pos h]
  refine ⟨?_,?_,?_,rfl,?_,?_⟩ <;> simp [okS,usedS,madeS] <;> omega
 ·rw [if_neg hd,if_neg hd,if_neg (show ¬ 4 ≤ d by omega),if_neg (show ¬ 4 ≤ d by omega),if_pos h.1,if_pos h.1]
  refine ⟨?_,?_,?_,rfl,?_,?_⟩ <;> simp [okS,usedS,madeS] <;> omega
 ·rw [if_neg hd,if_neg hd,if_neg (show ¬ 4 ≤ d by omega),if_neg (show ¬ 4 ≤ d by omega),if_neg (show ¬ 0 < d by omega),if_neg (show ¬ 0 < d by omega),if_pos h.1,if_pos h.1]
  rcases hk with rfl | rfl <;> refine ⟨?_,?_,?_,rfl,?_,?_⟩ <;> simp [okS,usedS,madeS] <;> omega
 ·rw [if_neg hd,if_neg hd,if_neg (show ¬ 4 ≤ d by omega),if_neg (show ¬ 4 ≤ d by omega),if_neg (show ¬ 0 < d by omega),if_neg (show ¬ 0 < d by omega),if_neg (show ¬ -4 < d by omega),if_neg (show ¬ -4 < d by omega)]
  refine ⟨?_,?_,?_,rfl,?_,?_⟩ <;> simp [okS,usedS,madeS] <;> omega
def edge (d kd:Int):List api_Stitch:=if d=0 then [] else [bSt d kd]
def kns:api_Stitch:=⟨1,false,0,0⟩
theorem edge_spec {d kd:Int} (hk:kd=3 ∨ kd=4) (h0:-200 ≤ d) (h1:d ≤ 200):allOk (edge d kd)∧sm usedS (edge d kd)=bU d∧sm madeS (edge d kd)=bU d + d∧(edge d kd).length=(if d=0 then 0 else 1):=by
 unfold edge
 by_cases h:d=0
 ·subst h
  exact ⟨fun p hp=>(by cases hp),rfl,rfl,rfl⟩
 ·have:=bS_ok h hk h0 h1
  rw [if_neg h]
  refine ⟨fun p hp=>?_,?_,?_,by simp [h]⟩
  ·have hp:p=bSt d kd:=by simpa using hp
   rw [hp]; exact this.1
  ·simp only [sm,this.2.1]; omega
  ·simp only [sm,this.2.2.1]; omega
theorem edge_app {d kd:Int} (s:List api_Stitch) (hk:kd=3 ∨ kd=4) (hs:s.length ≤ 1000) :
 (if ((bSt d kd).Kind != 0)=true then Option.bind (appO s [api_Stitch.mk (bSt d kd).Kind (bSt d kd).Purl (bSt d kd).A (bSt d kd).B]) fun l=>some l else some s)=some (s ++ edge d kd):=by
 unfold edge
 by_cases h:d=0
 ·subst h
  rw [if_pos rfl,List.append_nil]
  rfl
 ·have hK:(bSt d kd).Kind ≠ 0:=by
   unfold bSt
   rcases bend_cases d with g | g | g | g | g
   ·exact absurd g h
   ·rw [if_neg h,if_pos g]; simp
   ·rw [if_neg h,if_neg (by omega),if_pos g.1]; simp
   ·rw [if_neg h,if_neg (by omega),if_neg (by omega),if_pos g.1]; rcases hk with rfl | rfl <;> simp
   ·rw [if_neg h,if_neg (by omega),if_neg (by omega),if_neg (by omega)]; simp
  rw [if_pos (nT hK),if_neg h,appO_of (by simp; omega)]
  rfl
def dR (p:api_Piece) (k:Nat):Int:=p.Right.getD (k + 1) 0 - p.Right.getD k 0
def dL (p:api_Piece) (k:Nat):Int:=p.Left.getD k 0 - p.Left.getD (k + 1) 0
def wd (p:api_Piece) (k:Nat):Int:=p.Right.getD k 0 - p.Left.getD k 0
def nk (p:api_Piece) (k:Nat):Int:=wd p k - bU (dR p k) - bU (dL p k)
def cel (p:api_Piece) (k:Nat):List api_Stitch:=edge (dR p k) 3 ++ List.replicate (nk p k).toNat kns ++ edge (dL p k) 4
def crow (p:api_Piece) (k:Nat):api_Row:=⟨decide (k % 2=0),if k % 2=0 then ((cel p k).map othS).reverse else cel p k⟩
theorem sm_rep (f:api_Stitch→Int) (x:api_Stitch) (n:Nat):sm f (List.replicate n x)=n * f x:=by
 induction n with
 | zero=>simp [sm]
 | succ n ih=>rw [List.replicate_succ]; simp only [sm,ih]; rw [Int.natCast_add,Int.add_mul]; simp; omega
theorem wd_succ (p:api_Piece) (k:Nat):wd p (k + 1)=wd p k + dR p k + dL p k:=by unfold wd dR dL; omega
theorem cel_bd {p:api_Piece} (hp:pok p=true) {k:Nat} (hk:k + 1 < p.Left.length) (hn:1 ≤ nk p k) :
 (-200 ≤ dR p k∧dR p k ≤ 200)∧(-200 ≤ dL p k∧dL p k ≤ 200)∧1 ≤ wd p k∧wd p k ≤ 200∧1 ≤ wd p (k + 1)∧wd p (k + 1) ≤ 200∧bU (dR p k) + bU (dL p k) + nk p k=wd p k:=by
 obtain ⟨a,b,c,d⟩:=pok_iff.1 hp
 have d0:=d k (by omega)
 have d1:=d (k + 1) hk
 have w0:1 ≤ wd p k∧wd p k ≤ 200:=by unfold wd; omega
 have w1:1 ≤ wd p (k + 1)∧wd p (k + 1) ≤ 200:=by unfold wd; omega
 have ws:=wd_succ p k
 have hnk:nk p k=wd p k - bU (dR p k) - bU (dL p k):=rfl
 have r:=bU_bd (dR p k)
 have l:=bU_bd (dL p k)
 omega
theorem cel_ok {p:api_Piece} (hp:pok p=true) {k:Nat} (hk:k + 1 < p.Left.length) (hn:1 ≤ nk p k) :
 allS (cel p k)=0∧sm usedS (cel p k)=wd p k∧sm madeS (cel p k)=wd p (k + 1)∧((cel p k).length:Int) ≤ nk p k + 2∧(cel p k).length ≤ 200:=by
 obtain ⟨r,l,a0,a1,b0,b1,e⟩:=cel_bd hp hk hn
 have er:=edge_spec (kd:=3) (.inl rfl) r.1 r.2
 have el:=edge_spec (kd:=4) (.inr rfl) l.1 l.2
 have ws:=wd_succ p k
 have ub:=bU_bd (dR p k)
 have lb:=bU_bd (dL p k)
 have hN:((nk p k).toNat:Int)=nk p k:=by omega
 have hu:sm usedS (cel p k)=wd p k:=by
  unfold cel
  rw [sm_append,sm_append,er.2.1,el.2.1,sm_rep,hN]
  have:usedS kns=1:=rfl
  rw [this]; omega
 have hm:sm madeS (cel p k)=wd p (k + 1):=by
  unfold cel
  rw [sm_append,sm_append,er.2.2.1,el.2.2.1,sm_rep,hN]
  have:madeS kns=1:=rfl
  rw [this]; omega
 have hlen:(cel p k).length=(edge (dR p k) 3).length + (nk p k).toNat + (edge (dL p k) 4).length:=by unfold cel; simp; omega
 rw [er.2.2.2,el.2.2.2] at hlen
 have hlen2:(cel p k).length ≤ 200:=by
  by_cases c1:dR p k=0
  ·by_cases c2:dL p k=0
   ·rw [if_pos c1,if_pos c2] at hlen; omega
   ·have:=lb.2.2 c2; rw [if_pos c1,if_neg c2] at hlen; omega
  ·have c1':=ub.2.2 c1
   by_cases c2:dL p k=0
   ·rw [if_neg c1,if_pos c2] at hlen; omega
   ·have:=lb.2.2 c2; rw [if_neg c1,if_neg c2] at hlen; omega
 have hok:allOk (cel p k):=by
  intro x hx
  unfold cel at hx
  rw [List.mem_append,List.mem_append] at hx
  rcases hx with (hx | hx) | hx
  ·exact er.1 x hx
  ·rw [List.eq_of_mem_replicate hx]; exact .inl ⟨.inl rfl,rfl,rfl⟩
  ·exact el.1 x hx
 refine ⟨?_,hu,hm,?_,hlen2⟩
 ·unfold allS
  rw [if_neg (by omega),if_pos hok,if_neg (by omega)]
 ·by_cases c1:dR p k=0 <;> by_cases c2:dL p k=0 <;> simp only [c1,c2,if_true,if_false] at hlen <;> omega
theorem ok_wf {l:List api_Stitch} (h:allOk l):∀ p,p ∈ l→wfS p:=by
 intro p hp
 have:=okS_bd (h p hp)
 unfold wfS
 omega
theorem rem_two (n:Nat):remI (n:Int) 2=some ((n % 2:Nat):Int):=by unfold remI; rw [if_neg (by omega)]; rfl
theorem chart_step {p:api_Piece} (hp:pok p=true) {k:Nat} (hk:k + 1 < p.Left.length) {s:List api_Row} (hs:s.length ≤ 1000) :
 piece_Chart_l2 p (((k + 1:Nat):Int),s)=some (if 1 ≤ nk p k then .inl (((k + 1 + 1:Nat):Int),s ++ [crow p k]) else .inr (.inl (⟨0,[]⟩,22))):=by
 obtain ⟨a,b,c,d⟩:=pok_iff.1 hp
 have d0:=d k (by omega)
 have d1:=d (k + 1) hk
 have hj:w64 (((k + 1:Nat):Int) - 1)=(k:Int):=by rw [w64_of (by omega) (by omega)]; omega
 have e1:w64 (p.Right.getD (k + 1) 0 - p.Right.getD k 0)=dR p k:=w64_of (by omega) (by omega)
 have e2:w64 (p.Left.getD k 0 - p.Left.getD (k + 1) 0)=dL p k:=w64_of (by omega) (by omega)
 have e3:w64 (p.Right.getD k 0 - p.Left.getD k 0)=wd p k:=w64_of (by omega) (by omega)
 have rb:-1000 ≤ dR p k∧dR p k ≤ 1000:=by unfold dR; omega
 have lb:-1000 ≤ dL p k∧dL p k ≤ 1000:=by unfold dL; omega
 have ub:=bU_le rb.1 rb.2
 have vb:=bU_le lb.1 lb.2
 have wb:0 ≤ wd p k∧wd p k ≤ 200:=by unfold wd; omega
 have e4:w64 (w64 (wd p k - bU (dR p k)) - bU (dL p k))=nk p k:=by
  unfold nk
  rw [w64_of (x:=wd p k - bU (dR p k)) (by omega) (by omega),w64_of (by omega) (by omega)]
 unfold piece_Chart_l2
 simp only [dT (show ((k + 1:Nat):Int) < (p.Left.length:Int) by omega),if_true,hj,idxO_D (0:Int) hk,idxO_D (0:Int) (show k < p.Left.length by omega),idxO_D (0:Int) (show k + 1 < p.Right.length by omega),idxO_D (0:Int) (show k < p.Right.length by omega),Option.bind_some,e1,e2,e3,bend_eq _ rb.1 rb.2,bend_eq _ lb.1 lb.2,e4]
 by_cases hn:1 ≤ nk p k
 case neg=>rw [dT (show nk p k < 1 by omega),if_neg hn]; rfl
 obtain ⟨c1,c2,c3,c4,c5⟩:=cel_ok hp hk hn
 obtain ⟨b1,b2,-⟩:=cel_bd hp hk hn
 have er:=edge_spec (kd:=3) (.inl rfl) b1.1 b1.2
 have hlen:(cel p k).length=(edge (dR p k) 3).length + (nk p k).toNat + (edge (dL p k) 4).length:=by unfold cel; simp; omega
 have hin:whileO (piece_Chart_l1 (p.Right.getD k 0) (p.Left.getD k 0) ⟨bSt (dR p k) 3,bU (dR p k)⟩ ⟨bSt (dL p k) 4,bU (dL p k)⟩) (edge (dR p k) 3,0)=some (edge (dR p k) 3 ++ List.replicate (nk p k).toNat kns):=by
  have key:∃ t,whileO (piece_Chart_l1 (p.Right.getD k 0) (p.Left.getD k 0) ⟨bSt (dR p k) 3,bU (dR p k)⟩ ⟨bSt (dL p k) 4,bU (dL p k)⟩) (edge (dR p k) 3,0)=some t∧t=edge (dR p k) 3 ++ List.replicate (nk p k).toNat kns:=by
   refine loop_st (nk p k).toNat (fun j s=>s=edge (dR p k) 3 ++ List.replicate j kns) _ (by simp) ?_ ?_
   ·rintro j s hj' rfl
    refine .inl ⟨edge (dR p k) 3 ++ List.replicate (j + 1) kns,?_,rfl⟩
    unfold piece_Chart_l1
    simp only [e3,e4,dT (show (j:Int) < nk p k by omega),if_true]
    rw [appO_of (by simp; omega)]
    simp only [Option.bind_some,w64_succ (show j < 9223372036854775807 by omega),List.append_assoc,List.replicate_succ']
    rfl
   ·rintro s rfl
    refine ⟨_,?_,rfl⟩
    unfold piece_Chart_l1
    simp only [e3,e4,dF (show ¬ ((nk p k).toNat:Int) < nk p k by omega),Bool.false_eq_true,if_false]
  obtain ⟨t,t1,rfl⟩:=key
  exact t1
 have h1:=edge_app (d:=dR p k) [] (kd:=3) (.inl rfl) (by simp)
 have h2:=edge_app (d:=dL p k) (edge (dR p k) 3 ++ List.replicate (nk p k).toNat kns) (kd:=4) (.inr rfl) (by rw [List.length_append,List.length_replicate]; omega)
 rw [List.nil_append] at h1
 have hc:edge (dR p k) 3 ++ List.replicate (nk p k).toNat kns ++ edge (dL p k) 4=cel p k:=rfl
 rw [hc] at h2
 have hT:=turn_eq (ok_wf (allS_ok c1).2.1)
 rw [if_pos c1] at hT
 rw [dF (show ¬ nk p k < 1 by omega),if_pos hn]
 simp only [Bool.false_eq_true,if_false,h1,hin,h2,Option.bind_some,rem_two]
 have hrow:(if (((k + 1) % 2:Nat):Int) == 1 then (some ((cel p k).map othS).reverse) else some (cel p k))=some (crow p k).Cells:=by
  unfold crow
  by_cases g:k % 2=0
  ·rw [bT (show (((k + 1) % 2:Nat):Int)=1 by omega),if_pos g]; rfl
  ·rw [bF (show ¬ (((k + 1) % 2:Nat):Int)=1 by omega),if_neg g]; rfl
 have hback:((((k + 1) % 2:Nat):Int) == 1)=(crow p k).Back:=by
  unfold crow
  by_cases g:k % 2=0
  ·rw [bT (show (((k + 1) % 2:Nat):Int)=1 by omega)]; simp [g]
  ·rw [bF (show ¬ (((k + 1) % 2:Nat):Int)=1 by omega)]; simp [g]
 simp only [hT,Option.bind_some,hrow,hback]
 rw [hback] at hrow
 try simp only [hrow,Option.bind_some]
 rw [appO_of (by simp; omega)]
 simp only [Option.bind_some,w64_succ (show k + 1 < 9223372036854775807 by omega)]
def chOk (p:api_Piece):Prop:=∀ k,k < p.Left.length - 1→1 ≤ nk p k
instance (p:api_Piece):Decidable (chOk p):=by unfold chOk; infer_instance
def chart (p:api_Piece):api_Chart:=⟨wd p 0,(List.range (p.Left.length - 1)).map (crow p)⟩
theorem chart_eq (p:api_Piece) (h1:p.Left.length ≤ 1000000) (h2:p.Right.length ≤ 1000000):F_piece_Chart p=some (if pok p=true then (if chOk p then (chart p,0) else (⟨0,[]⟩,22)) else (⟨0,[]⟩,8)):=by
 unfold F_piece_Chart
 rw [(pcheck_eq p h1 h2).1]
 cases hp:pok p with
 | false=>rfl
 | true=>
  obtain ⟨a,b,c,d⟩:=pok_iff.1 hp
  have d0:=d 0 (by omega)
  have e3:w64 (p.Right.getD 0 0 - p.Left.getD 0 0)=wd p 0:=w64_of (by omega) (by omega)
  have hw:∃ t,whileO (piece_Chart_l2 p) (1,([]:List api_Row))=some t∧((chOk p∧t=.inr (chart p).Rows) ∨ (¬ chOk p∧t=.inl (⟨0,[]⟩,22))):=by
   refine loop_at (p.Left.length - 1) (fun k s=>(((k + 1:Nat):Int),s)) (fun k s=>s=(List.range k).map (crow p)∧∀ j,j < k→1 ≤ nk p j) _ ⟨rfl,fun j hj=>absurd hj (Nat.not_lt_zero j)⟩ ?_ ?_
   ·rintro k s hk ⟨rfl,hI⟩
    rw [chart_step hp (by omega) (by simp; omega)]
    by_cases hn:1 ≤ nk p k
    ·rw [if_pos hn]
     refine .inl ⟨_,rfl,?_,fun j hj=>?_⟩
     ·rw [List.range_succ,List.map_append]; rfl
     ·by_cases e:j=k
      ·subst e; exact hn
      ·exact hI j (by omega)
    ·rw [if_neg hn]
     exact .inr ⟨_,rfl,.inr ⟨fun h=>hn (h k hk),rfl⟩⟩
   ·rintro s ⟨rfl,hI⟩
    refine ⟨.inr (chart p).Rows,?_,.inl ⟨hI,rfl⟩⟩
    unfold piece_Chart_l2
    simp only [dF (show ¬ ((p.Left.length - 1 + 1:Nat):Int) < (p.Left.length:Int) by omega),Bool.false_eq_true,if_false]
    rfl
  obtain ⟨t,t1,t2⟩:=hw
  have i0:idxO p.Right 0=some (p.Right.getD 0 0):=idxO_D (k:=0) (0:Int) (by omega)
  have i1:idxO p.Left 0=some (p.Left.getD 0 0):=idxO_D (k:=0) (0:Int) (by omega)
  simp only [if_true,Option.bind_some,nF (rfl:(0:Int)=0),Bool.false_eq_true,if_false,i0,i1,t1,e3]
  rcases t2 with ⟨g,rfl⟩ | ⟨g,rfl⟩
  ·rw [if_pos g]; rfl
  ·rw [if_neg g]; rfl
theorem crow_ok {p:api_Piece} (hp:pok p=true) {k:Nat} (hk:k + 1 < p.Left.length) (hn:1 ≤ nk p k) :
 allS (crow p k).Cells=0∧sm usedS (crow p k).Cells=wd p k∧sm madeS (crow p k).Cells=wd p (k + 1)∧(crow p k).Cells.length=(cel p k).length:=by
 obtain ⟨c1,c2,c3,c4,c5⟩:=cel_ok hp hk hn
 unfold crow
 by_cases g:k % 2=0
 ·have t:=turned_ok c1
  simp only [g,if_true]
  exact ⟨t.1,t.2.1.trans c2,t.2.2.trans c3,by simp⟩
 ·simp only [g,if_false]
  exact ⟨c1,c2,c3,trivial⟩
theorem bS_kind {d kd:Int} (hd:d ≠ 0) (hk:kd=3 ∨ kd=4):(bSt d kd).Purl=false∧(bSt d kd).Kind ≠ 1∧(bSt d kd).Kind ≠ 2∧(bSt d kd).Kind ≠ 6∧(bSt d kd).Kind ≠ 7:=by
 unfold bSt
 rcases bend_cases d with g | g | g | g | g
 ·exact absurd g hd
 ·rw [if_neg hd,if_pos g]; simp
 ·rw [if_neg hd,if_neg (by omega),if_pos g.1]; simp
 ·rw [if_neg hd,if_neg (by omega),if_neg (by omega),if_pos g.1]; rcases hk with rfl | rfl <;> simp
 ·rw [if_neg hd,if_neg (by omega),if_neg (by omega),if_neg (by omega)]; simp
def plain (c:api_Stitch):Prop:=c.Purl=false∧c.Kind ≠ 2∧c.Kind ≠ 6∧c.Kind ≠ 7
theorem edge_plain {d kd:Int} (hk:kd=3 ∨ kd=4):∀ c,c ∈ edge d kd→plain c∧c.Kind ≠ 1:=by
 unfold edge
 by_cases h:d=0
 ·rw [if_pos h]; exact fun c hc=>(by cases hc)
 ·rw [if_neg h]
  intro c hc
  have hc:c=bSt d kd:=by simpa using hc
  have:=bS_kind h hk
  rw [hc]
  exact ⟨⟨this.1,this.2.2.1,this.2.2.2.1,this.2.2.2.2⟩,this.2.1⟩
theorem cel_plain (p:api_Piece) (k:Nat):∀ c,c ∈ cel p k→plain c:=by
 intro c hc
 unfold cel at hc
 rw [List.mem_append,List.mem_append] at hc
 rcases hc with (hc | hc) | hc
 ·exact (edge_plain (.inl rfl) c hc).1
 ·rw [List.eq_of_mem_replicate hc]; exact ⟨rfl,by decide,by decide,by decide⟩
 ·exact (edge_plain (.inr rfl) c hc).1
noncomputable def F_stitch_Uses (p0:(List api_Stitch)):Option (Int × Int):=
 (F_stitch_All p0).bind fun r6=>
 if r6 != 0 then
  some (0,r6)
 else
  (F_stitch_sum p0).bind fun a9=>
  some (a9.1,0)
theorem c_stitch_Uses (E:Nat→Prop) (w0:World) (p0:(List api_Stitch)) (v0:Value) (r:(Int × Int)) (h:F_stitch_Uses p0=some r) (S:St0 E [] w0 w0 [] [fRep (rL r_api_Stitch) (v0) p0]) :
 Calls Try.prog 69 #[v0] w0 (Ret (X:=Unit) E [] w0 (fun _=>.tuple #[.int .i64 r.1,.int .i64 r.2]) (fun _=>[]) (fun _=>[])):=by
 unfold F_stitch_Uses at h
 obtain ⟨aa,ab,_,rfl,_⟩:=S.know (i:=0) (e:=fRep (rL r_api_Stitch) (v0) p0) d
 refine sEnter (args:=[.slice aa p0.length ab]) 18 Try.func69 d d (by simp) S (fun a S=>?_)
 refine sSeq (fun K3 ai=>sRegion (sN S fun a S=>?_))
 refine sN S fun a S=>?_
 refine lT (ai _ _ (sSeq (fun K4 aj=>sSeq (fun K5 ak=>sRegion (sM S fun a S=>?_)))))
 obtain ⟨r6,al,h⟩:=bS h
 have S1:=S.mem
 refine sCq [.slice aa p0.length ab] (iv r6) S callee55 (S1.quiet [0] d) (fun E1 w1 S1=>c_stitch_All E1 w1 p0 (.slice aa p0.length ab) r6 al S1) fun a w S=>?_
 refine sN S fun a S=>?_
 refine lT (ak _ _ (sSeq (fun K8 am=>sRegion (sM S fun a S=>?_))))
 refine sBin _ S (wN d) d d d (bNe _ _ _ _ .i64 r6 0) d (lb d) fun a S=>lT (am _ _ ?_)
 rcases iS h with ⟨ac,h⟩ | ⟨ac,h⟩
 ·refine sCondT S d ac (sSeq (fun ao ae=>sRegion (sM S fun a S=>?_)))
  refine sN S fun a S=>?_
  refine sN S fun a S=>?_
  refine lT (ae _ _ ?_)
  obtain rfl:=tS h
  exact wp_ret (rThen (sRet (.tuple #[iv 0,iv r6]) S (rsl2 d (rvT (t:=2) (v:=iv 0) S d) (rvT (t:=3) (v:=iv r6) S d)) ⟨(),d,S.mem.sel [] [] (by decide) d d⟩))
 refine sCondF S d ac (wp_skip (leafT (aj _ _ ?_)))
 refine sSeq (fun ap af=>sRegion (sM S fun a S=>?_))
 obtain ⟨a9,ag,h⟩:=bS h
 have S1:=S.mem
 refine sCq [.slice aa p0.length ab] (.tuple #[iv a9.1,iv a9.2]) S callee74 (S1.quiet [0] d) (fun E1 w1 S1=>c_stitch_sum E1 w1 p0 (.slice aa p0.length ab) a9 ag S1) fun a w S=>?_
 refine sM S fun a S=>?_
 refine sExtract (vs:=[iv a9.1,iv a9.2]) (iv a9.1) S (wN d) d d d d (lb d) fun a S=>sExtract (vs:=[iv a9.1,iv a9.2]) (iv a9.2) S (wN d) d d d d (lb d) fun a S=>sN S fun a S=>?_
 refine sN S fun a S=>?_
 refine lT (af _ _ (sSeq (fun aq ah=>sRegion (sM S fun a S=>?_))))
 refine sN S fun a S=>?_
 refine sN S fun a S=>?_
 refine lT (ah _ _ ?_)
 obtain rfl:=tS h
 exact wp_ret (sRet (.tuple #[iv a9.1,iv 0]) S (rsl2 d (rvT (t:=2) (v:=iv a9.1) S d) (rvT (t:=3) (v:=iv 0) S d)) ⟨(),d,S.mem.sel [] [] (by decide) d d⟩)
noncomputable def F_stitch_Makes (p0:(List api_Stitch)):Option (Int × Int):=
 (F_stitch_All p0).bind fun r6=>
 if r6 != 0 then
  some (0,r6)
 else
  (F_stitch_sum p0).bind fun a9=>
  some (a9.2,0)
theorem c_stitch_Makes (E:Nat→Prop) (w0:World) (p0:(List api_Stitch)) (v0:Value) (r:(Int × Int)) (h:F_stitch_Makes p0=some r) (S:St0 E [] w0 w0 [] [fRep (rL r_api_Stitch) (v0) p0]) :
 Calls Try.prog 70 #[v0] w0 (Ret (X:=Unit) E [] w0 (fun _=>.tuple #[.int .i64 r.1,.int .i64 r.2]) (fun _=>[]) (fun _=>[])):=by
 unfold F_stitch_Makes at h
 obtain ⟨aa,ab,_,rfl,_⟩:=S.know (i:=0) (e:=fRep (rL r_api_Stitch) (v0) p0) d
 refine sEnter (args:=[.slice aa p0.length ab]) 18 Try.func70 d d (by simp) S (fun a S=>?_)
 refine sSeq (fun K3 ai=>sRegion (sN S fun a S=>?_))
 refine sN S fun a S=>?_
 refine lT (ai _ _ (sSeq (fun K4 aj=>sSeq (fun K5 ak=>sRegion (sM S fun a S=>?_)))))
 obtain ⟨r6,al,h⟩:=bS h
 have S1:=S.mem
 refine sCq [.slice aa p0.length ab] (iv r6) S callee55 (S1.quiet [0] d) (fun E1 w1 S1=>c_stitch_All E1 w1 p0 (.slice aa p0.length ab) r6 al S1) fun a w S=>?_
 refine sN S fun a S=>?_
 refine lT (ak _ _ (sSeq (fun K8 am=>sRegion (sM S fun a S=>?_))))
 refine sBin _ S (wN d) d d d (bNe _ _ _ _ .i64 r6 0) d (lb d) fun a S=>lT (am _ _ ?_)
 rcases iS h with ⟨ac,h⟩ | ⟨ac,h⟩
 ·refine sCondT S d ac (sSeq (fun ao ae=>sRegion (sM S fun a S=>?_)))
  refine sN S fun a S=>?_
  refine sN S fun a S=>?_
  refine lT (ae _ _ ?_)
  obtain rfl:=tS h
  exact wp_ret (rThen (sRet (.tuple #[iv 0,iv r6]) S (rsl2 d (rvT (t:=2) (v:=iv 0) S d) (rvT (t:=3) (v:=iv r6) S d)) ⟨(),d,S.mem.sel [] [] (by decide) d d⟩))
 refine sCondF S d ac (wp_skip (leafT (aj _ _ ?_)))
 refine sSeq (fun ap af=>sRegion (sM S fun a S=>?_))
 obtain ⟨a9,ag,h⟩:=bS h
 have S1:=S.mem
 refine sCq [.slice aa p0.length ab] (.tuple #[iv a9.1,iv a9.2]) S callee74 (S1.quiet [0] d) (fun E1 w1 S1=>c_stitch_sum E1 w1 p0 (.slice aa p0.length ab) a9 ag S1) fun a w S=>?_
 refine sM S fun a S=>?_
 refine sExtract (vs:=[iv a9.1,iv a9.2]) (iv a9.1) S (wN d) d d d d (lb d) fun a S=>sExtract (vs:=[iv a9.1,iv a9.2]) (iv a9.2) S (wN d) d d d d (lb d) fun a S=>sN S fun a S=>?_
 refine sN S fun a S=>?_
 refine lT (af _ _ (sSeq (fun aq ah=>sRegion (sM S fun a S=>?_))))
 refine sN S fun a S=>?_
 refine sN S fun a S=>?_
 refine lT (ah _ _ ?_)
 obtain rfl:=tS h
 exact wp_ret (sRet (.tuple #[iv a9.2,iv 0]) S (rsl2 d (rvT (t:=2) (v:=iv a9.2) S d) (rvT (t:=3) (v:=iv 0) S d)) ⟨(),d,S.mem.sel [] [] (by decide) d d⟩)
theorem uses_eq {l:List api_Stitch} (hw:∀ p,p ∈ l→wfS p):F_stitch_Uses l=some (if allS l=0 then (sm usedS l,0) else (0,allS l)):=by
 unfold F_stitch_Uses
 rw [all_eq hw,Option.bind_some]
 by_cases h:allS l=0
 ·simp only [nF h,Bool.false_eq_true,if_false,sum_eq (allS_ok h).2.1 (show l.length ≤ 100000 by have:=(allS_ok h).1; omega),Option.bind_some,if_pos h]
 ·simp only [nT h,if_true,if_neg h]
theorem makes_eq {l:List api_Stitch} (hw:∀ p,p ∈ l→wfS p):F_stitch_Makes l=some (if allS l=0 then (sm madeS l,0) else (0,allS l)):=by
 unfold F_stitch_Makes
 rw [all_eq hw,Option.bind_some]
 by_cases h:allS l=0
 ·simp only [nF h,Bool.false_eq_true,if_false,sum_eq (allS_ok h).2.1 (show l.length ≤ 100000 by have:=(allS_ok h).1; omega),Option.bind_some,if_pos h]
 ·simp only [nT h,if_true,if_neg h]
noncomputable def F_chart_counted (p0:api_Chart):Option api_Chart:=
 some p0
def c_chart_counted_val (r:api_Chart) (x:Value):Value:=.func (.func 68) #[] #[x]
def c_chart_counted_D (r:api_Chart) (x:Value):List Fact:=[fPtr r_api_Chart x r]
theorem c_chart_counted (E:Nat→Prop) (w0:World) (p0:api_Chart) (v0:Value) (r:api_Chart) (h:F_chart_counted p0=some r) (S:St0 E [] w0 w0 [] [fRep r_api_Chart (v0) p0]) :
 Calls Try.prog 43 #[v0] w0 (Ret (X:=Value) E [] w0 (c_chart_counted_val r) (fun _=>[]) (c_chart_counted_D r)):=by
 unfold F_chart_counted at h
 obtain ⟨u1,rfl,ab⟩:=S.know (i:=0) (e:=fRep r_api_Chart (v0) p0) d
 have S:=S.learn (fRep (rL r_api_Row) u1 p0.Rows) ab
 obtain ⟨a9,aa,_,rfl,_⟩:=ab
 refine sEnter (args:=[.agg #[iv p0.Start,.slice a9 p0.Rows.length aa]]) 4 Try.func43 d d (by simp) S (fun a S=>?_)
 refine sSeq (fun K5 ac=>sRegion (sBox (v:=.agg #[iv p0.Start,.slice a9 p0.Rows.length aa]) S (wN d) d d [iv p0.Start,.slice a9 p0.Rows.length aa] d d (lb d) fun a b6 w S=>sN S fun a S=>?_))
 refine lT (ac _ _ (sSeq (fun K7 ae=>sRegion (sFunc (g:=68) (vs:=[.pointer (some ⟨b6,0,none⟩)]) S (wN d) d d d (lb d) fun a S=>?_))))
 refine sN S fun a S=>?_
 refine lT (ae _ _ ?_)
 have S:=S.shutB (r:=r_api_Chart) (T:=49) (b:=b6) (cs:=[iv p0.Start,.slice a9 p0.Rows.length aa]) 0 (.agg #[iv p0.Start,.slice a9 p0.Rows.length aa]) p0 d d (S.mem.know (i:=1) (e:=fRep r_api_Chart (.agg #[iv p0.Start,.slice a9 p0.Rows.length aa]) p0) d)
 obtain rfl:=tS h
 exact wp_ret (sRet (.func (.func 68) #[] #[.pointer (some ⟨b6,0,none⟩)]) S (rsl1 d (rvT (t:=2) (v:=.func (.func 68) #[] #[.pointer (some ⟨b6,0,none⟩)]) S d)) ⟨(.pointer (some ⟨b6,0,none⟩)),d,S.mem.sel [] [0] (by decide) d d⟩)
noncomputable def chart_counted_1_l1 {σ τ:Type} (p0:api_Chart) (B:σ→(Int × chart_count)→Option (σ ⊕ τ)):(Int × Int × σ)→Option ((Int × Int × σ) ⊕ ((σ ⊕ τ) ⊕ (σ))):=fun s0=>match s0 with
 | (a9,aa,gz13)=>
  if decide (aa < (p0.Rows.length:Int)) then
   (idxO p0.Rows aa).bind fun af=>
   (F_stitch_Uses af.Cells).bind fun ab=>
   Option.bind (α:=(Int × Int)) (
    if ab.2 != 0 then
     some (0,ab.2)
    else
     if ab.1 != a9 then
      some (0,26)
     else
      (F_stitch_Makes af.Cells).bind fun ag=>
      some (ag.1,0)) fun (ac,ae)=>
   (B gz13 (aa,(chart_count.mk a9 ac ae))).bind fun ah=>
   match ah with
   | .inl gz53=>
    if ((chart_count.mk a9 ac ae).e) != 0 then
     some (.inr (.inl (.inl gz53)))
    else
     some (.inl ((chart_count.mk a9 ac ae).after,w64 (aa + 1),gz53))
   | .inr tz54=>
    some (.inr (.inl (.inr tz54)))
  else
   some (.inr (.inr gz13))
noncomputable def I_chart_counted_1 (p0:api_Chart) (σ τ:Type) (B:σ→(Int × chart_count)→Option (σ ⊕ τ)) (gz0:σ):Option (σ ⊕ τ):=
 (whileO (chart_counted_1_l1 p0 B) (p0.Start,0,gz0)).bind fun z0=>match z0 with
  | .inl z=>
   some z
  | .inr gz17=>
   some (.inl gz17)
theorem it_chart_counted_1 (p0:api_Chart) (v0:Value):SeqF Try.prog 68 #[v0] (fA2 (rI .i64) r_chart_count) (I_chart_counted_1 p0) [fPtr r_api_Chart (v0) p0]:=by
 refine seqF_of (lb:=[v0]) (fun σ τ B gz0 r h l J Jx E w0 hC S hJ=>?_)
 unfold I_chart_counted_1 at h
 refine sEnterI (args:=[.func (.yield l) #[] #[],v0]) 57 Try.func68 d d (by simp) S (fun a S=>?_)
 refine sSeq (fun K1 aZ=>sRegion ?_)
 obtain ⟨q2,b8,S⟩:=pFld (P:=Try.prog) (r:=r_api_Chart) (s2:=(rI .i64)) (g:=(·.Start)) (q:=v0) (z:=p0) 49 0 0 0 S d d comp_api_Chart_Start
 refine sFldV (q:=v0) S (wN d) d d b8 d (lb d) fun a S=>?_
 obtain ⟨u4,S⟩:=pLoad (r:=(rI .i64)) (q:=q2) (x:=p0.Start) 0 S d
 obtain rfl:u4=iv p0.Start:=S.mem.know (i:=1) (e:=fRep (rI .i64) (u4) p0.Start) d
 refine sLoadV1 (vq:=q2) 0 (iv p0.Start) S (wN d) d d d d d (lb d) fun a S=>sN S fun a S=>?_
 refine lT (aZ _ _ (sSeq (fun K5 ba=>sRegion ?_)))
 obtain ⟨q6,bb,S⟩:=pFld (P:=Try.prog) (r:=r_api_Chart) (s2:=(rL r_api_Row)) (g:=(·.Rows)) (q:=v0) (z:=p0) 49 1 3 1 S d d comp_api_Chart_Rows
 refine sFldV (q:=v0) S (wN d) d d bb d (lb d) fun a S=>?_
 obtain ⟨u8,S⟩:=pLoad (r:=(rL r_api_Row)) (q:=q6) (x:=p0.Rows) 0 S d
 obtain ⟨ar,ai,_,rfl,_⟩:=S.mem.know (i:=1) (e:=fRep (rL r_api_Row) (u8) p0.Rows) d
 refine sLoadV1 (vq:=q6) 0 (.slice ar p0.Rows.length ai) S (wN d) d d d d d (lb d) fun a S=>sLen S (wN d) d Try.underlying47 d d (lb d) fun a S=>sM S fun a S=>?_
 refine lT (ba _ _ (wp_block ?_))
 obtain ⟨bi,hl,aw⟩:=bS h
 refine sLoop hl (fun s0 a w=>match s0 with | (a9,ak,gz13)=>∃ E w0,J gz13 E w0∧St [] E [] w0 57 a w [(0,.func (.yield l) #[] #[]),(3,iv a9),(12,.slice ar p0.Rows.length ai),(13,iv (p0.Rows.length:Int)),(14,iv ak)] [] [fRep (rL r_api_Row) (.slice ar p0.Rows.length ai) p0.Rows]) ⟨_,_,hJ,S.fix [] [1] (by decide) d d d⟩ ?_
 clear hl h
 intro s0 a w c0 hI h al
 obtain ⟨a9,ak,gz13⟩:=s0
 unfold chart_counted_1_l1 at h
 dsimp only at h hI
 obtain ⟨E,w0,hJ,S⟩:=hI
 refine sSeq (fun bj ax=>sRegion (sBin _ S (wN d) d d d (bLt _ _ _ _ .i64 ak (p0.Rows.length:Int)) d (lb d) fun a S=>lT (ax _ _ (sSeq (fun bl ay=>?_)))))
 rcases iS h with ⟨am,h⟩ | ⟨am,h⟩
 rotate_left
 ·refine sCondF S d am ?_
  obtain rfl:=tS h
  obtain rfl:=al _ d
  have h:=aw
  try dsimp only at h
  exact wp_exit (xThen (xThen (xHit (sEnd (.tuple #[]) S (res0 d) (sGoI S hC hJ (Option.some.inj h) _)))))
 refine sCondT S d am (wp_skip (leafT (ay _ _ ?_)))
 refine sSeq (fun bm az=>wp_block ?_)
 refine sSeq (fun bn aA=>sRegion (sM S fun a S=>?_))
 obtain ⟨af,aC,h⟩:=bS h
 obtain ⟨aT,aG,S⟩:=pIdx (P:=Try.prog) (r:=r_api_Row) (v:=.slice ar p0.Rows.length ai) (xs:=p0.Rows) (j:=ak) 47 90 0 S Try.underlying47 d d aC
 refine sIdxV S (wN d) d d d aG d (lb d) fun a S=>?_
 obtain ⟨bc,S⟩:=pLoad (r:=r_api_Row) (q:=aT) (x:=af) 0 S d
 obtain ⟨bf,rfl,au⟩:=S.mem.know (i:=1) (e:=fRep r_api_Row (bc) af) d
 have S:=S.learn (fRep (rL r_api_Stitch) bf af.Cells) au
 obtain ⟨ac,ae,_,rfl,_⟩:=au
 refine sLoadVN (vq:=aT) 1 [.bool af.Back,.slice ac af.Cells.length ae] S (wN d) d d d d d d (lb d) fun a S=>sAlloc (.agg #[.bool false,.slice none 0 0]) S (wN d) d d [.bool false,.slice none 0 0] d d (lb d) fun a aH w S=>sN S fun a S=>?_
 refine sStore (p:=aH) (off:=0) (T:=90) (vs:=[.bool false,.slice none 0 0]) (v:=.agg #[.bool af.Back,.slice ac af.Cells.length ae]) 0 [.bool af.Back,.slice ac af.Cells.length ae] S (wN d) d d d d d d d (by simp) d fun a w S=>lT (aA _ _ (sSeq (fun bo aI=>sRegion (sM S fun a S=>?_))))
 refine sBuild [(0,iv a9)] [iv a9,iv 0,iv 0] S (wN d) d d d d (lb d) fun a S=>sAlloc (.agg #[iv 0,iv 0,iv 0]) S (wN d) d d [iv 0,iv 0,iv 0] d d (lb d) fun a ag w S=>sStore (p:=ag) (off:=0) (T:=96) (vs:=[iv 0,iv 0,iv 0]) (v:=.agg #[iv a9,iv 0,iv 0]) 0 [iv a9,iv 0,iv 0] S (wN d) d d d d d d d (by simp) d fun a w S=>lT (aI _ _ (sSeq (fun bp aJ=>sRegion (sField (b:=aH) (off:=0) 1 1 S (wN d) d d d d d (lb d) fun a S=>sLoad1 1 (.slice ac af.Cells.length ae) S (wN d) d d d d d d (lb d) fun a S=>?_))))
 obtain ⟨ah,aK,h⟩:=bS h
 have S1:=S.mem
 refine sCq [.slice ac af.Cells.length ae] (.tuple #[iv ah.1,iv ah.2]) S callee69 (S1.quiet [0] d) (fun E1 w1 S1=>c_stitch_Uses E1 w1 af.Cells (.slice ac af.Cells.length ae) ah aK S1) fun a w S=>?_
 refine sM S fun a S=>?_
 refine sExtract (vs:=[iv ah.1,iv ah.2]) (iv ah.1) S (wN d) d d d d (lb d) fun a S=>sExtract (vs:=[iv ah.1,iv ah.2]) (iv ah.2) S (wN d) d d d d (lb d) fun a S=>sN S fun a S=>?_
 refine sN S fun a S=>?_
 refine lT (aJ _ _ ?_)
 obtain ⟨bg,h,bh⟩:=bS h
 refine sCut (fun a w=>∃ aa,∃ ab,(aa,ab)=bg∧∃ E w0,J gz13 E w0∧St [] E [] w0 57 a w [(0,.func (.yield l) #[] #[]),(4,iv ak),(6,.pointer (some ⟨ag,0,none⟩)),(12,.slice ar p0.Rows.length ai),(13,iv (p0.Rows.length:Int)),(14,iv ak)] [eBox ag 96 [iv a9,iv aa,iv ab]] [fRep (rL r_api_Row) (.slice ar p0.Rows.length ai) p0.Rows]) ?_ (fun a w hI=>?_)
 ·refine wp_block ?_
  refine sSeq (fun bq aL=>sRegion (sM S fun a S=>?_))
  refine sBin _ S (wN d) d d d (bNe _ _ _ _ .i64 ah.2 0) d (lb d) fun a S=>sN S fun a S=>?_
  refine lT (aL _ _ ?_)
  rcases iS h with ⟨ao,h⟩ | ⟨ao,h⟩
  ·refine sCondT S d ao (sRegion (sM S fun a S=>?_))
   refine sField (b:=ag) (off:=0) 2 2 S (wN d) d d d d d (lb d) fun a S=>sStore (p:=ag) (off:=2) (T:=96) (vs:=[iv a9,iv 0,iv 0]) (v:=iv ah.2) 0 [iv ah.2] S (wN d) d d d d d d d (by simp) d fun a w S=>?_
   exact leafL (leafB (leafT (⟨0,ah.2,Option.some.inj h,_,_,hJ,S.fix [0] [4] (by decide) d d d⟩)))
  refine sCondF S d ao (sSeq (fun br aM=>sRegion (sM S fun a S=>?_)))
  refine sM S fun a S=>?_
  refine sBin _ S (wN d) d d d (bNe _ _ _ _ .i64 ah.1 a9) d (lb d) fun a S=>sN S fun a S=>?_
  refine lT (aM _ _ ?_)
  rcases iS h with ⟨ap,h⟩ | ⟨ap,h⟩
  ·refine sCondT S d ap (sRegion (sField (b:=ag) (off:=0) 2 2 S (wN d) d d d d d (lb d) fun a S=>sStore (p:=ag) (off:=2) (T:=96) (vs:=[iv a9,iv 0,iv 0]) (v:=iv 26) 0 [iv 26] S (wN d) d d d d d d d (by simp) d fun a w S=>?_))
   exact leafL (leafB (leafT (⟨0,26,Option.some.inj h,_,_,hJ,S.fix [0] [4] (by decide) d d d⟩)))
  refine sCondF S d ap (sRegion (sField (b:=aH) (off:=0) 1 1 S (wN d) d d d d d (lb d) fun a S=>sLoad1 1 (.slice ac af.Cells.length ae) S (wN d) d d d d d d (lb d) fun a S=>?_))
  obtain ⟨aj,aO,h⟩:=bS h
  have S1:=S.mem
  refine sCq [.slice ac af.Cells.length ae] (.tuple #[iv aj.1,iv aj.2]) S callee70 (S1.quiet [0] d) (fun E1 w1 S1=>c_stitch_Makes E1 w1 af.Cells (.slice ac af.Cells.length ae) aj aO S1) fun a w S=>?_
  refine sM S fun a S=>?_
  refine sExtract (vs:=[iv aj.1,iv aj.2]) (iv aj.1) S (wN d) d d d d (lb d) fun a S=>sExtract (vs:=[iv aj.1,iv aj.2]) (iv aj.2) S (wN d) d d d d (lb d) fun a S=>sField (b:=ag) (off:=0) 1 1 S (wN d) d d d d d (lb d) fun a S=>sStore (p:=ag) (off:=1) (T:=96) (vs:=[iv a9,iv 0,iv 0]) (v:=iv aj.1) 0 [iv aj.1] S (wN d) d d d d d d d (by simp) d fun a w S=>?_
  exact leafL (leafB (leafT (⟨aj.1,0,Option.some.inj h,_,_,hJ,S.fix [0] [4] (by decide) d d d⟩)))
 obtain ⟨aa,ab,rfl,E,w0,hJ,S⟩:=hI
 have h:=bh
 try dsimp only at h
 refine sSeq (fun bt aP=>sSeq (fun bu av=>sRegionY ?_))
 refine sSplitR (by repeat (first | exact roundU_out | exact it_out | exact lo_false | refine lo_then ?_ | refine lo_block ?_)) 3 d (fun bv aQ=>?_)
 refine sM S fun a S=>?_
 refine sM S fun a S=>?_
 refine sLoadN (p:=ag) (off:=0) (T:=96) (vs:=[iv a9,iv aa,iv ab]) 0 [iv a9,iv aa,iv ab] S (wN d) d d d d d d d (lb d) fun a S=>leafL ⟨d,aQ _ _ ?_⟩
 have S:=S.learn (fRep r_chart_count (.agg #[iv a9,iv aa,iv ab]) (chart_count.mk a9 aa ab)) d
 have S:=S.shutB (r:=r_chart_count) (T:=96) (b:=ag) (cs:=[iv a9,iv aa,iv ab]) 0 (.agg #[iv a9,iv aa,iv ab]) (chart_count.mk a9 aa ab) d d (S.mem.know (i:=0) (e:=fRep r_chart_count (.agg #[iv a9,iv aa,iv ab]) (chart_count.mk a9 aa ab)) d)
 obtain ⟨bw,hy52,h⟩:=bS h
 refine sYieldI (ak,(chart_count.mk a9 aa ab)) [iv ak,.agg #[iv a9,iv aa,iv ab]] S hC hJ hy52 (fA2_mk (d) (S.mem.know (i:=1) (e:=fRep r_chart_count (.agg #[iv a9,iv aa,iv ab]) (chart_count.mk a9 aa ab)) d)) (wN d) d d d d (by decide) (fun gz53 E a w hb hJ S=>?_) (fun tz54 a w hb hJ S=>?_)
 ·obtain rfl:=hb
  dsimp only at h
  refine list_inR (by repeat (first | exact roundU_out | exact it_out | exact lo_false | refine lo_then ?_ | refine lo_block ?_)) _ d _ _ ?_
  refine sNot (b:=true) S (wN d) d d d (lb d) fun a S=>sM S fun a S=>?_
  obtain ⟨aU,aR,S⟩:=pFld (P:=Try.prog) (r:=r_chart_count) (s2:=(rI .i64)) (g:=(·.e)) (q:=.pointer (some ⟨ag,0,none⟩)) (z:=(chart_count.mk a9 aa ab)) 96 2 0 2 S d d comp_chart_count_e
  refine sFldV (q:=.pointer (some ⟨ag,0,none⟩)) S (wG 5 false 49 d d d d) d d aR d (lb d) fun a S=>?_
  obtain ⟨aV,S⟩:=pLoad (r:=(rI .i64)) (q:=aU) (x:=(chart_count.mk a9 aa ab).e) 0 S d
  obtain rfl:aV=iv ((chart_count.mk a9 aa ab).e):=S.mem.know (i:=1) (e:=fRep (rI .i64) (aV) ((chart_count.mk a9 aa ab).e)) d
  refine sLoadV1 (vq:=aU) 0 (iv ((chart_count.mk a9 aa ab).e)) S (wG 5 false 49 d d d d) d d d d d (lb d) fun a S=>sBin _ S (wG 5 false 49 d d d d) d d d (bNe _ _ _ _ .i64 ((chart_count.mk a9 aa ab).e) 0) d (lb d) fun a S=>sPickF (.bool (((chart_count.mk a9 aa ab).e) != 0)) S (wN d) d d d d d (lb d) fun a S=>lT (av _ _ ?_)
  rcases iS h with ⟨aq,h⟩ | ⟨aq,h⟩
  ·refine sCondT S d aq ?_
   obtain rfl:=tS h
   obtain rfl:=al _ d
   have h:=aw
   try dsimp only at h
   exact wp_ret (rThen (rBlock (rThen (rThen (rBlock (sRet (.tuple #[]) S (res0 d) (sGoI S hC hJ (Option.some.inj h) _)))))))
  refine sCondF S d aq (wp_skip (leafT (aP _ _ ?_)))
  refine sRegion ?_
  obtain ⟨aW,aS,S⟩:=pFld (P:=Try.prog) (r:=r_chart_count) (s2:=(rI .i64)) (g:=(·.after)) (q:=.pointer (some ⟨ag,0,none⟩)) (z:=(chart_count.mk a9 aa ab)) 96 1 3 1 S d d comp_chart_count_after
  refine sFldV (q:=.pointer (some ⟨ag,0,none⟩)) S (wN d) d d aS d (lb d) fun a S=>?_
  obtain ⟨aX,S⟩:=pLoad (r:=(rI .i64)) (q:=aW) (x:=(chart_count.mk a9 aa ab).after) 0 S d
  obtain rfl:aX=iv ((chart_count.mk a9 aa ab).after):=S.mem.know (i:=1) (e:=fRep (rI .i64) (aX) ((chart_count.mk a9 aa ab).after)) d
  refine sLoadV1 (vq:=aW) 0 (iv ((chart_count.mk a9 aa ab).after)) S (wN d) d d d d d (lb d) fun a S=>sN S fun a S=>?_
  refine leafL (leafB (leafT (az _ _ ?_)))
  refine sRegion (sBin _ S (wN d) d d d (bAdd _ _ _ _ ak 1) d (lb d) fun a S=>sM S fun a S=>?_)
  exact lT (⟨((chart_count.mk a9 aa ab).after,w64 (ak + 1),gz53),(Option.some.inj h).symm,⟨_,_,hJ,S.fix [] [8] (by decide) d d d⟩⟩)
 ·obtain rfl:=hb
  dsimp only at h
  refine list_inR (by repeat (first | exact roundU_out | exact it_out | exact lo_false | refine lo_then ?_ | refine lo_block ?_)) _ d _ _ ?_
  refine sNot (b:=false) S (wN d) d d d (lb d) fun a S=>sM S fun a S=>?_
  refine sSkN 3 5 false 49 S d d d d fun a S=>sPickT (.bool true) S (wN d) d d d d d (lb d) fun a S=>lT (av _ _ (sCondT S d d ?_))
  obtain rfl:=tS h
  obtain rfl:=al _ d
  have h:=aw
  try dsimp only at h
  exact wp_ret (rThen (rBlock (rThen (rThen (rBlock (sRet (.tuple #[]) S (res0 d) (sStopI S hC hJ (Option.some.inj h) _)))))))
noncomputable def chart_Check_l2 :Unit→(Int × chart_count)→Option (Unit ⊕ Int):=fun s0 x0=>match s0,x0 with
 | _,(aa,a9)=>
  if a9.e != 0 then
   some (.inr a9.e)
  else
   some (.inl ())
noncomputable def F_chart_Check (p0:api_Chart):Option Int:=
 if decide (100 < (p0.Rows.length:Int)) then
  some 4
 else
  Option.bind (α:=Bool) (
   if decide (p0.Start < 0) then
    some true
   else
    some (decide (200 < p0.Start))) fun a9=>
  if a9 then
   some 8
  else
   (F_chart_counted p0).bind fun aa=>
   (I_chart_counted_1 aa _ _ (chart_Check_l2) ()).bind fun z0=>match z0 with
    | .inl _=>
     some 0
    | .inr ab=>
     some ab
theorem c_chart_Check (E:Nat→Prop) (w0:World) (p0:api_Chart) (v0:Value) (r:Int) (h:F_chart_Check p0=some r) (S:St0 E [] w0 w0 [] [fRep r_api_Chart (v0) p0]) :
 Calls Try.prog 42 #[v0] w0 (Ret (X:=Unit) E [] w0 (fun _=>.int .i64 r) (fun _=>[]) (fun _=>[])):=by
 unfold F_chart_Check at h
 obtain ⟨u1,rfl,aC⟩:=S.know (i:=0) (e:=fRep r_api_Chart (v0) p0) d
 have S:=S.learn (fRep (rL r_api_Row) u1 p0.Rows) aC
 obtain ⟨ab,ac,_,rfl,_⟩:=aC
 refine sEnterM (args:=[.agg #[iv p0.Start,.slice ab p0.Rows.length ac]]) 26 Try.func42 d d (by simp) S (fun a S=>?_)
 refine sSeq (fun K5 aJ=>sRegion (sBox (v:=.agg #[iv p0.Start,.slice ab p0.Rows.length ac]) S (wN d) d d [iv p0.Start,.slice ab p0.Rows.length ac] d d (lb d) fun a b6 w S=>sAlloc (iv 0) S (wN d) d d [iv 0] d d (lb d) fun a b7 w S=>lT (aJ _ _ (sSeq (fun K8 aK=>sSeq (fun K9 aL=>sRegion (sField (b:=b6) (off:=0) 1 1 S (wN d) d d d d d (lb d) fun a S=>sLoad1 1 (.slice ab p0.Rows.length ac) S (wN d) d d d d d d (lb d) fun a S=>sLen S (wN d) d Try.underlying47 d d (lb d) fun a S=>sBin _ S (wN d) d d d (bGt _ _ _ _ .i64 (p0.Rows.length:Int) 100) d (lb d) fun a S=>lT (aL _ _ ?_))))))))
 rcases iS h with ⟨ag,h⟩ | ⟨ag,h⟩
 ·refine sCondT S d ag (sSeq (fun aP ao=>sRegion (sStore (p:=b7) (off:=0) (T:=29) (vs:=[iv 0]) (v:=iv 4) 0 [iv 4] S (wN d) d d d d d d d (by simp) d fun a w S=>lT (ao _ _ ?_))))
  obtain rfl:=tS h
  exact wp_ret (rThen (sRetM0 (iv 4) S (rsl1 d (rv1 (c:=2) (t:=29) (T:=29) (p:=b7) 0 (iv 4) S d d d)) ⟨(),d,S.mem.sel [] [] (by decide) d d⟩))
 refine sCondF S d ag (wp_skip (leafT (aK _ _ ?_)))
 refine sSeq (fun aQ ap=>?_)
 obtain ⟨aM,h,aO⟩:=bS h
 refine sCut (fun a w=>∃ aq,aq=aM∧St [] E [] w0 26 a w [(1,.pointer (some ⟨b6,0,none⟩)),(2,.pointer (some ⟨b7,0,none⟩)),(16,.bool aq)] [eBox b6 49 [iv p0.Start,.slice ab p0.Rows.length ac],eBox b7 29 [iv 0]] [fRep (rL r_api_Row) (.slice ab p0.Rows.length ac) p0.Rows]) ?_ (fun a w hI=>?_)
 ·refine sRegion (sField (b:=b6) (off:=0) 0 0 S (wN d) d d d d d (lb d) fun a S=>sLoad1 1 (iv p0.Start) S (wN d) d d d d d d (lb d) fun a S=>sBin _ S (wN d) d d d (bLt _ _ _ _ .i64 p0.Start 0) d (lb d) fun a S=>sM S fun a S=>?_)
  rcases iS h with ⟨aa,h⟩ | ⟨aa,h⟩
  ·refine sSkN 3 3 false 12 S d d aa d fun a S=>sPickT (.bool true) S (wN d) d d aa d d (lb d) fun a S=>?_
   exact lT (⟨true,Option.some.inj h,S.fix [1,0] [0] (by decide) d d d⟩)
  refine sField (b:=b6) (off:=0) 0 0 S (wG 3 false 12 d d d aa) d d d d d (lb d) fun a S=>sLoad1 1 (iv p0.Start) S (wG 3 false 12 d d d aa) d d d d d d (lb d) fun a S=>sBin _ S (wG 3 false 12 d d d aa) d d d (bGt _ _ _ _ .i64 p0.Start 200) d (lb d) fun a S=>sPickF (.bool (decide (200 < p0.Start))) S (wN d) d d aa d d (lb d) fun a S=>?_
  exact lT (⟨decide (200 < p0.Start),Option.some.inj h,S.fix [1,0] [0] (by decide) d d d⟩)
 obtain ⟨aq,rfl,S⟩:=hI
 have h:=aO
 try dsimp only at h
 rcases iS h with ⟨ah,h⟩ | ⟨ah,h⟩
 ·refine sCondT S d ah (sSeq (fun aR ar=>sRegion (sStore (p:=b7) (off:=0) (T:=29) (vs:=[iv 0]) (v:=iv 8) 1 [iv 8] S (wN d) d d d d d d d (by simp) d fun a w S=>lT (ar _ _ ?_))))
  obtain rfl:=tS h
  exact wp_ret (rThen (sRetM0 (iv 8) S (rsl1 d (rv1 (c:=2) (t:=29) (T:=29) (p:=b7) 0 (iv 8) S d d d)) ⟨(),d,S.mem.sel [] [] (by decide) d d⟩))
 refine sCondF S d ah (wp_skip (leafT (ap _ _ ?_)))
 refine sSeq (fun aS au=>sSeq (fun aT av=>sRegion (sLoadN (p:=b6) (off:=0) (T:=49) (vs:=[iv p0.Start,.slice ab p0.Rows.length ac]) 0 [iv p0.Start,.slice ab p0.Rows.length ac] S (wN d) d d d d d d d (lb d) fun a S=>?_)))
 obtain ⟨ai,aw,h⟩:=bS h
 have S:=S.learn (fRep r_api_Chart (.agg #[iv p0.Start,.slice ab p0.Rows.length ac]) p0) ⟨_,d,S.mem.know (i:=0) (e:=fRep (rL r_api_Row) (.slice ab p0.Rows.length ac) p0.Rows) d⟩
 refine sCall (X:=Value) (f:=43) (vs:=[.agg #[iv p0.Start,.slice ab p0.Rows.length ac]]) (val:=c_chart_counted_val ai) (B':=fun _=>[]) (D':=c_chart_counted_D ai) [] [eBox b6 49 [iv p0.Start,.slice ab p0.Rows.length ac],eBox b7 29 [iv 0]] [fRep r_api_Chart (.agg #[iv p0.Start,.slice ab p0.Rows.length ac]) p0] [0,1] [0] S (wN d) d callee43 d (by decide) d d (fun E1 w1 S1=>c_chart_counted E1 w1 p0 (.agg #[iv p0.Start,.slice ab p0.Rows.length ac]) ai aw S1) d (lb d) fun aj a w S=>?_
 refine lT (av _ _ (wp_block ?_))
 obtain ⟨aU,af,ak⟩:=bS h
 replace S:St [] E [] w0 26 a w [(2,.pointer (some ⟨b7,0,none⟩)),(18,.func (.func 68) #[] #[aj])] [eBox b7 29 [iv 0]] [fPtr r_api_Chart (aj) ai]:=S.fix [1] [0] (by decide) rfl rfl rfl
 refine sRange2 (B:=chart_Check_l2) (fun s0 L D=>match s0 with | _=>L=[eBox b7 29 [iv 0]]∧D=[fPtr r_api_Chart (aj) ai]) (fun t0 c L D=>match t0 with | am=>c=.ret∧L=[eBox b7 29 [iv am]]∧D=[]) [0] S af d callee68 (it_chart_counted_1 ai aj) d (by decide) (by decide) ⟨d,d⟩ ?_ ?_ ?_
 ·intro E l0 s0 aG a9 aH aI b L D K a w0 hK hIL hB S
  clear af ak h hK
  unfold chart_Check_l2 at hB
  dsimp only at hB hIL
  obtain ⟨rfl,rfl⟩:=hIL
  have h:=hB
  clear hB
  obtain rfl:aH=iv aG:=S.mem.know (i:=0) (e:=fRep (rI .i64) (aH) aG) d
  obtain rfl:aI=.agg #[iv a9.before,iv a9.after,iv a9.e]:=S.mem.know (i:=1) (e:=fRep r_chart_count (aI) a9) d
  refine sRegionR (by repeat (first | exact roundU_out | exact it_out | exact lo_false | refine lo_then ?_ | refine lo_block ?_)) d ?_
  refine sAlloc (.agg #[iv 0,iv 0,iv 0]) S (wN d) d d [iv 0,iv 0,iv 0] d d (lb d) fun a ax w S=>sStore (p:=ax) (off:=0) (T:=96) (vs:=[iv 0,iv 0,iv 0]) (v:=.agg #[iv a9.before,iv a9.after,iv a9.e]) 0 [iv a9.before,iv a9.after,iv a9.e] S (wN d) d d d d d d d (by simp) d fun a w S=>lT (⟨_,_,_,S,fun K a w0 hK S=>?_⟩)
  refine wpIn_block ?_
  refine sSeqR (fun aV ay=>sRegionR (by repeat (first | exact roundU_out | exact it_out | exact lo_false | refine lo_then ?_ | refine lo_block ?_)) d ?_)
  refine sField (b:=ax) (off:=0) 2 2 S (wN d) d d d d d (lb d) fun a S=>sLoad1 0 (iv a9.e) S (wN d) d d d d d d (lb d) fun a S=>sBin _ S (wN d) d d d (bNe _ _ _ _ .i64 a9.e 0) d (lb d) fun a S=>lT (ay _ _ ?_)
  rcases iS h with ⟨al,h⟩ | ⟨al,h⟩
  rotate_left
  ·refine sCondFR S d al ?_
   exact wpIn_skip (leafB (rnN () _ _ [] (Option.some.inj h) ⟨d,d⟩ (S.fix [1] [2] (by decide) d d d)))
  refine sCondTR S d al ?_
  refine sSeqR (fun aW az=>sRegionR (by repeat (first | exact roundU_out | exact it_out | exact lo_false | refine lo_then ?_ | refine lo_block ?_)) d ?_)
  refine sField (b:=ax) (off:=0) 2 2 S (wN d) d d d d d (lb d) fun a S=>sLoad1 0 (iv a9.e) S (wN d) d d d d d d (lb d) fun a S=>sStore (p:=b7) (off:=0) (T:=29) (vs:=[iv 0]) (v:=iv a9.e) 1 [iv a9.e] S (wN d) d d d d d d d (by simp) d fun a w S=>lT (az _ _ ?_)
  exact wpIn_ret (rBlock (rnR a9.e _ _ [] (Option.some.inj h) ⟨d,d,d⟩ (S.fix [0] [] (by decide) d d d)))
 ·intro ae s0 L D a w hr hIL S
  clear h
  obtain rfl:=hr
  dsimp only at ak hIL
  obtain ⟨rfl,rfl⟩:=hIL
  have h:=ak
  clear ak af
  replace S:St [mark ae] E [] w0 26 a w [(2,.pointer (some ⟨b7,0,none⟩)),(18,.func (.func 68) #[] #[aj])] [eBox b7 29 [iv 0],eDef ae] [fPtr r_api_Chart (aj) ai]:=S
  refine leafB (leafT (au _ _ ?_))
  refine sSeq (fun aX aA=>sRegion (sStore (p:=b7) (off:=0) (T:=29) (vs:=[iv 0]) (v:=iv 0) 0 [iv 0] S (wN d) d d d d d d d (by simp) d fun a w S=>lT (aA _ _ (wp_ret (sRetM1 1 S d (fun a w S=>?_))))))
  obtain rfl:=tS h
  exact sFin (iv 0) S (rsl1 d (rv1 (c:=2) (t:=29) (T:=29) (p:=b7) 0 (iv 0) S d d d)) ⟨(),d,S.mem.sel [] [] (by decide) d d⟩
 ·intro ae c0 am L D a w hr hIX S
  clear h
  obtain rfl:=hr
  dsimp only at ak hIX
  obtain ⟨rfl,rfl,rfl⟩:=hIX
  have h:=ak
  clear ak af
  replace S:St [mark ae] E [] w0 26 a w [(2,.pointer (some ⟨b7,0,none⟩)),(18,.func (.func 68) #[] #[aj])] [eBox b7 29 [iv am],eDef ae] []:=S
  refine wp_ret (rBlock (rThen (sRetM1 1 S d (fun a w S=>?_))))
  obtain rfl:=tS h
  exact sFin (iv am) S (rsl1 d (rv1 (c:=2) (t:=29) (T:=29) (p:=b7) 0 (iv am) S d d d)) ⟨(),d,S.mem.sel [] [] (by decide) d d⟩
def wfR (rows:List api_Row):Prop:=∀ r,r ∈ rows→∀ p,p ∈ r.Cells→wfS p
def chkR:Int→List api_Row→Int
 | _,[]=>0
 | n,r :: rs=>if allS r.Cells ≠ 0 then allS r.Cells else if sm usedS r.Cells ≠ n then 26 else chkR (sm madeS r.Cells) rs
def ctl:Nat→Int→List api_Row→List (Int × chart_count)
 | _,_,[]=>[]
 | i,n,r :: rs=>if allS r.Cells ≠ 0 then [((i:Int),⟨n,0,allS r.Cells⟩)] else if sm usedS r.Cells ≠ n then [((i:Int),⟨n,0,26⟩)] else ((i:Int),⟨n,sm madeS r.Cells,0⟩) :: ctl (i + 1) (sm madeS r.Cells) rs
theorem counted_loop {σ τ:Type} (c:api_Chart) (hw:wfR c.Rows) (hl:c.Rows.length ≤ 1000000000) (B:σ→(Int × chart_count)→Option (σ ⊕ τ)):∀ (rs:List api_Row) (i:Nat) (n:Int) (z:σ),c.Rows.drop i=rs→(whileO (chart_counted_1_l1 c B) (n,(i:Int),z)).bind fin3=foldO B z (ctl i n rs):=by
 intro rs
 induction rs with
 | nil=>
  intro i n z hd
  have hi:c.Rows.length ≤ i:=by
   have:=congrArg List.length hd
   simp at this; omega
  have:chart_counted_1_l1 c B (n,(i:Int),z)=some (.inr (.inr z)):=by
   unfold chart_counted_1_l1
   simp only [dF (show ¬ (i:Int) < (c.Rows.length:Int) by omega),Bool.false_eq_true,if_false]
  rw [whileO_done this]
  rfl
 | cons r rs ih=>
  intro i n z hd
  have hi:i < c.Rows.length:=by
   have:=congrArg List.length hd
   simp at this; omega
  have hr:c.Rows[i]=r:=by
   have:=List.getElem_drop (xs:=c.Rows) (i:=i) (j:=0) (h:=by rw [hd]; simp)
   simp only [hd,List.getElem_cons_zero,Nat.add_zero] at this
   exact this.symm
  have hrs:c.Rows.drop (i + 1)=rs:=by
   rw [← List.drop_drop,hd]; rfl
  have hwr:∀ p,p ∈ r.Cells→wfS p:=hw r (hr ▸ List.getElem_mem hi)
  have hs:w64 ((i:Int) + 1)=((i + 1:Nat):Int):=w64_succ (by omega)
  simp only [ctl]
  by_cases ha:allS r.Cells=0
  ·have eu:F_stitch_Uses r.Cells=some (sm usedS r.Cells,0):=by rw [uses_eq hwr,if_pos ha]
   have em:F_stitch_Makes r.Cells=some (sm madeS r.Cells,0):=by rw [makes_eq hwr,if_pos ha]
   rw [if_neg (by simp [ha])]
   by_cases hu:sm usedS r.Cells=n
   ·have e1:chart_counted_1_l1 c B (n,(i:Int),z)=(B z ((i:Int),⟨n,sm madeS r.Cells,0⟩)).bind fun y=>match y with | .inl z'=>some (.inl (sm madeS r.Cells,((i + 1:Nat):Int),z')) | .inr t=>some (.inr (.inl (.inr t))):=by
     unfold chart_counted_1_l1
     simp only [dT (show (i:Int) < (c.Rows.length:Int) by omega),if_true,idxO_nat hi,hr,Option.bind_some,eu,em,bne_self_eq_false,Bool.false_eq_true,if_false,nF hu,hs]
     try congr 1
    rw [if_neg (by simp [hu]),whileO_eq,e1,foldO]
    cases hb:B z ((i:Int),⟨n,sm madeS r.Cells,0⟩) with
    | none=>rfl
    | some y=>
     cases y with
     | inl z'=>exact ih (i + 1) (sm madeS r.Cells) z' hrs
     | inr t=>rfl
   ·have e1:chart_counted_1_l1 c B (n,(i:Int),z)=(B z ((i:Int),⟨n,0,26⟩)).bind fun y=>match y with | .inl z'=>some (.inr (.inl (.inl z'))) | .inr t=>some (.inr (.inl (.inr t))):=by
     unfold chart_counted_1_l1
     simp only [dT (show (i:Int) < (c.Rows.length:Int) by omega),if_true,idxO_nat hi,hr,Option.bind_some,eu,em,bne_self_eq_false,Bool.false_eq_true,if_false,nT hu,nT (show ¬ (26:Int)=0 by omega)]
     try congr 1
    rw [if_pos (by simp [hu]),whileO_eq,e1,foldO]
    cases hb:B z ((i:Int),⟨n,0,26⟩) with
    | none=>rfl
    | some y=>cases y <;> rfl
  ·have eu:F_stitch_Uses r.Cells=some (0,allS r.Cells):=by rw [uses_eq hwr,if_neg ha]
   have e1:chart_counted_1_l1 c B (n,(i:Int),z)=(B z ((i:Int),⟨n,0,allS r.Cells⟩)).bind fun y=>match y with | .inl z'=>some (.inr (.inl (.inl z'))) | .inr t=>some (.inr (.inl (.inr t))):=by
    unfold chart_counted_1_l1
    simp only [dT (show (i:Int) < (c.Rows.length:Int) by omega),if_true,idxO_nat hi,hr,Option.bind_some,eu,nT ha]
    try congr 1
   rw [if_pos (by simp [ha]),whileO_eq,e1,foldO]
   cases hb:B z ((i:Int),⟨n,0,allS r.Cells⟩) with
   | none=>rfl
   | some y=>cases y <;> rfl
theorem chcount_eq {σ τ:Type} (c:api_Chart) (hw:wfR c.Rows) (hl:c.Rows.length ≤ 1000000000) (B:σ→(Int × chart_count)→Option (σ ⊕ τ)) (z:σ):I_chart_counted_1 c σ τ B z=foldO B z (ctl 0 c.Start c.Rows):=by
 rw [← counted_loop c hw hl B c.Rows 0 c.Start z rfl]
 unfold I_chart_counted_1
 try congr 1
def chk (c:api_Chart):Int:=if 100 < c.Rows.length then 4 else if c.Start < 0 ∨ 200 < c.Start then 8 else chkR c.Start c.Rows
theorem check_fold:∀ (rs:List api_Row) (i:Nat) (n:Int),foldO chart_Check_l2 () (ctl i n rs)=some (if chkR n rs=0 then .inl () else .inr (chkR n rs)):=by
 intro rs
 induction rs with
 | nil=>intro i n; rfl
 | cons r rs ih=>
  intro i n
  simp only [ctl,chkR]
  by_cases ha:allS r.Cells=0
  ·simp only [ha,ne_eq,not_true_eq_false,if_false]
   by_cases hu:sm usedS r.Cells=n
   ·simp only [hu,not_true_eq_false,if_false,foldO,chart_Check_l2,bne_self_eq_false,Bool.false_eq_true,Option.bind_some]
    exact ih _ _
   ·simp only [hu,not_false_eq_true,if_true,foldO,chart_Check_l2,nT (show ¬ (26:Int)=0 by omega),Option.bind_some]
    rfl
  ·simp only [ha,ne_eq,not_false_eq_true,if_true,foldO,chart_Check_l2,nT ha,Option.bind_some,if_false]
theorem chart_check_eq (c:api_Chart) (hw:wfR c.Rows):F_chart_Check c=some (chk c):=by
 unfold F_chart_Check chk F_chart_counted
 by_cases h1:100 < c.Rows.length
 ·simp only [dT (show (100:Int) < (c.Rows.length:Int) by omega),if_true,if_pos h1]
 simp only [dF (show ¬ (100:Int) < (c.Rows.length:Int) by omega),Bool.false_eq_true,if_false,if_neg h1,Option.bind_some,chcount_eq c hw (show c.Rows.length ≤ 1000000000 by omega),check_fold]
 by_cases h2:c.Start < 0
 ·simp [h2]
 by_cases h3:200 < c.Start
 ·simp [h2,h3]
 by_cases h4:chkR c.Start c.Rows=0 <;> simp [h2,h3,h4]
theorem chk_ok {c:api_Chart} (h:chk c=0):c.Rows.length ≤ 100∧0 ≤ c.Start∧c.Start ≤ 200∧chkR c.Start c.Rows=0:=by
 unfold chk at h
 split at h
 ·omega
 ·split at h
  ·omega
  ·rename_i h1 h2
   exact ⟨by omega,by omega,by omega,h⟩
theorem chkR_cons {n:Int} {r:api_Row} {rs:List api_Row}:chkR n (r :: rs)=0 ↔ allS r.Cells=0∧sm usedS r.Cells=n∧chkR (sm madeS r.Cells) rs=0:=by
 simp only [chkR]
 by_cases ha:allS r.Cells=0
 ·by_cases hu:sm usedS r.Cells=n
  ·simp [ha,hu]
  ·simp [ha,hu]
 ·simp [ha]
theorem chkR_mem:∀ {rs:List api_Row} {n:Int},chkR n rs=0→∀ r,r ∈ rs→allS r.Cells=0:=by
 intro rs
 induction rs with
 | nil=>intro n _ r hr; cases hr
 | cons x rs ih=>
  intro n h r hr
  obtain ⟨h1,h2,h3⟩:=chkR_cons.1 h
  rcases List.mem_cons.1 hr with rfl | hr
  ·exact h1
  ·exact ih h3 r hr
def anc_chart_twin_0:List (List Nat):=[[],[],[0,1],[0,1,2],[0,1,2,3],[],[5],[0,1,2,3,4,5,6]]
noncomputable def chart_twin_l1 (p0:(List api_Row)):(List api_Row × Int)→Option ((List api_Row × Int) ⊕ List api_Row):=fun s0=>match s0 with
 | (aa,a9)=>
  if decide (a9 < (p0.length:Int)) then
   (idxO p0 a9).bind fun ab=>
   (makeO (ab.Cells.length:Int) (api_Stitch.mk 0 false 0 0)).bind fun ac=>
   (idxO aa a9).bind fun ae=>
   (setO aa a9 (api_Row.mk ae.Back (cpO ac ab.Cells))).bind fun af=>
   some (.inl (af,w64 (a9 + 1)))
  else
   some (.inr aa)
noncomputable def F_chart_twin (p0:(List api_Row)):Option (List api_Row):=
 (makeO (p0.length:Int) (api_Row.mk false ([]:(List api_Stitch)))).bind fun m7=>
 Option.bind (α:=List api_Row) (
  (whileO (chart_twin_l1 p0) (cpO m7 p0,0)).bind fun a9=>
   some a9) fun aa=>
 some aa
def c_chart_twin_val (r:(List api_Row)) (x:Value):Value:=x
def c_chart_twin_D (r:(List api_Row)) (x:Value):List Fact:=[fRep (rL r_api_Row) x r]
theorem c_chart_twin (E:Nat→Prop) (w0:World) (p0:(List api_Row)) (v0:Value) (r:(List api_Row)) (h:F_chart_twin p0=some r) (S:St0 E [] w0 w0 [] [fRep (rL r_api_Row) (v0) p0]) :
 Calls Try.prog 62 #[v0] w0 (Ret (X:=Value) E [] w0 (c_chart_twin_val r) (fun _=>[]) (c_chart_twin_D r)):=by
 unfold F_chart_twin at h
 obtain ⟨ao,ap,_,rfl,_⟩:=S.know (i:=0) (e:=fRep (rL r_api_Row) (v0) p0) d
 refine sEnter (args:=[.slice ao p0.length ap]) 37 Try.func62 d d (by simp) S (fun a S=>?_)
 refine sSeq (fun K3 aZ=>sRegion (sN S fun a S=>?_))
 refine lT (aZ _ _ (sSeq (fun K4 b8=>sRegion (sM S fun a S=>?_))))
 refine sLen S (wN d) d Try.underlying47 d d (lb d) fun a S=>?_
 obtain ⟨m7,ba,h⟩:=bS h
 refine sMakeG (r:=r_api_Row) (m:=(p0.length:Int)) (xs:=m7) (.agg #[.bool false,.slice none 0 0]) (api_Row.mk false ([]:(List api_Stitch))) 32 S (wN d) d Try.underlying47 d (by decide) (fun E w=>⟨_,d,rL_nil _ E w⟩) d d ba d (lb d) fun a w ac ae S=>?_
 refine sN S fun a S=>?_
 refine lT (b8 _ _ (sSeq (fun K9 bb=>sRegion (sM S fun a S=>?_))))
 refine sM S fun a S=>?_
 refine sCopyR (r:=r_api_Row) (T:=90) (xs:=m7) (ys:=p0) (v:=.slice ac m7.length ae) (u:=.slice ao p0.length ap) 0 0 S (wN d) d Try.underlying47 d d d d d d (lb d) fun a w S=>?_
 rw [cpO_v m7 p0 ac ae] at S
 refine lT (bb _ _ ?_)
 obtain ⟨bc,h,bf⟩:=bS h
 refine sCut (fun a w=>∃ ak,ak=bc∧St [] E [] w0 37 a w [(3,.slice ac ak.length ae)] [eRow r_api_Row 90 (.slice ac ak.length ae) ak] []) ?_ (fun a w hI=>?_)
 rotate_left
 ·obtain ⟨ak,rfl,S⟩:=hI
  have h:=bf
  try dsimp only at h
  refine sSeq (fun bm av=>sRegion (sM S fun a S=>?_))
  refine sN S fun a S=>?_
  refine lT (av _ _ ?_)
  obtain rfl:=tS h
  have S:=S.shutR (r:=r_api_Row) (T:=90) (v:=.slice ac ak.length ae) (xs:=ak) 0 d
  exact wp_ret (sRet (.slice ac ak.length ae) S (rsl1 d (rvT (t:=2) (v:=.slice ac ak.length ae) S d)) ⟨(.slice ac ak.length ae),d,S.mem.sel [] [0] (by decide) d d⟩)
 refine sSeq (fun bn aw=>sRegion (sM S fun a S=>?_))
 refine sLen S (wN d) d Try.underlying47 d d (lb d) fun a S=>sM S fun a S=>?_
 refine lT (aw _ _ (wp_block ?_))
 obtain ⟨bo,hl,bg⟩:=bS h
 refine sLoop hl (fun s0 a w=>match s0 with | (af,aj)=>St [] E [] w0 37 a w [(3,.slice ac af.length ae),(12,.slice ao p0.length ap),(13,iv (p0.length:Int)),(14,iv aj)] [eRow r_api_Row 90 (.slice ac af.length ae) af] [fRep (rL r_api_Row) (.slice ao p0.length ap) p0]) (S.fix [0] [0] (by decide) d d d) ?_
 clear hl h
 intro s0 a w c0 hI h ax
 obtain ⟨af,aj⟩:=s0
 unfold chart_twin_l1 at h
 dsimp only at h hI
 have S:=hI
 refine sSeq (fun bp ay=>sRegion (sBin _ S (wN d) d d d (bLt _ _ _ _ .i64 aj (p0.length:Int)) d (lb d) fun a S=>lT (ay _ _ (sSeq (fun bq az=>?_)))))
 rcases iS h with ⟨am,h⟩ | ⟨am,h⟩
 rotate_left
 ·refine sCondF S d am ?_
  obtain rfl:=tS h
  obtain rfl:=ax _ d
  have h:=bg
  try dsimp only at h
  exact wp_exit (xThen (xThen (xHit (leafT (⟨af,Option.some.inj h,S.fix [0] [] (by decide) d d d⟩)))))
 refine sCondT S d am (wp_skip (leafT (az _ _ ?_)))
 refine sSeq (fun br aA=>wp_block ?_)
 refine sSeq (fun bt aC=>sRegion (sM S fun a S=>?_))
 obtain ⟨a9,aG,h⟩:=bS h
 obtain ⟨aU,aH,S⟩:=pIdx (P:=Try.prog) (r:=r_api_Row) (v:=.slice ao p0.length ap) (xs:=p0) (j:=aj) 47 90 0 S Try.underlying47 d d aG
 refine sIdxV S (wN d) d d d aH d (lb d) fun a S=>?_
 obtain ⟨bh,S⟩:=pLoad (r:=r_api_Row) (q:=aU) (x:=a9) 0 S d
 obtain ⟨bi,rfl,aq⟩:=S.mem.know (i:=1) (e:=fRep r_api_Row (bh) a9) d
 have S:=S.learn (fRep (rL r_api_Stitch) bi a9.Cells) aq
 obtain ⟨ag,ah,_,rfl,_⟩:=aq
 refine sLoadVN (vq:=aU) 1 [.bool a9.Back,.slice ag a9.Cells.length ah] S (wN d) d d d d d d (lb d) fun a S=>sAlloc (.agg #[.bool false,.slice none 0 0]) S (wN d) d d [.bool false,.slice none 0 0] d d (lb d) fun a au w S=>sN S fun a S=>?_
 refine sStore (p:=au) (off:=0) (T:=90) (vs:=[.bool false,.slice none 0 0]) (v:=.agg #[.bool a9.Back,.slice ag a9.Cells.length ah]) 0 [.bool a9.Back,.slice ag a9.Cells.length ah] S (wN d) d d d d d d d (by simp) d fun a w S=>lT (aC _ _ (sSeq (fun bu aI=>sRegion (sM S fun a S=>?_))))
 refine sM S fun a S=>?_
 refine sField (b:=au) (off:=0) 1 1 S (wN d) d d d d d (lb d) fun a S=>sLoad1 0 (.slice ag a9.Cells.length ah) S (wN d) d d d d d d (lb d) fun a S=>sLen S (wN d) d Try.underlying86 d d (lb d) fun a S=>?_
 obtain ⟨ai,aJ,h⟩:=bS h
 refine sMakeG (r:=r_api_Stitch) (m:=(a9.Cells.length:Int)) (xs:=ai) (.agg #[.int .u8 0,.bool false,iv 0,iv 0]) (api_Stitch.mk 0 false 0 0) 24 S (wN d) d Try.underlying86 d (by decide) (fun _ _=>d) d d aJ d (lb d) fun a w aa ab S=>?_
 obtain ⟨aK,al,h⟩:=bS h
 obtain ⟨bj,aL,aM⟩:=pIdxR (P:=Try.prog) (r:=r_api_Row) (T:=90) (v:=.slice ac af.length ae) (xs:=af) (j:=aj) 47 90 2 S Try.underlying47 d d al
 refine sIdxV S (wN d) d d d aL d (lb d) fun a S=>?_
 obtain ⟨bl,aO,aP⟩:=pFldR (P:=Try.prog) 90 1 1 aM d
 refine sFldV (q:=bj) S (wN d) d d aO d (lb d) fun a S=>sStoreH (r:=r_api_Row) (T:=90) (xs:=af) (x:=aK) (v:=.slice ac af.length ae) (vq:=bl) (u:=.slice aa ai.length ab) (j:=aj) 2 1 S aP (wN d) d d d d al (lb d) d d d d fun a w S=>?_
 refine lT (aI _ _ ?_)
 obtain ⟨aV,ar,h⟩:=bS h
 obtain ⟨aW,aQ,aR⟩:=pIdxH (P:=Try.prog) (r:=r_api_Row) (T:=90) (v:=.slice ac af.length ae) (xs:=af) (j:=aj) 47 90 0 S Try.underlying47 d d al
 obtain ⟨aX,aS,aT⟩:=pFldR (P:=Try.prog) 90 1 1 aR d
 refine sDraw (nf:=[7]) (W:=[(0,27,.slice ac af.length ae),(1,28,iv aj),(2,29,aW),(3,30,aX),(4,31,.slice aa ai.length ab),(5,32,.pointer (some ⟨au,1,none⟩)),(6,33,.slice ag a9.Cells.length ah)]) d S ?_
 refine node_by (A:=anc_chart_twin_0) 8 (by kernel_rfl) (by kernel_rfl) (by kernel_rfl) (by kernel_rfl) (by kernel_rfl) [0,1,2,3,4,5,6] (by kernel_rfl) (by decide) (by decide) (fF ?_ (fF ?_ (fF ?_ (fF ?_ (fF ?_ (fF ?_ (fF ?_ (fN ?_ (trivial))))))))) [] (fun q hq=>by cases hq) (fun hY=>absurd (hY 7 (by decide)) (by decide))
 ·exact fM 0 none d d d d (.inl d) d d d
 ·exact fM 1 none d d d d (.inl d) d d d
 ·refine fJ [(27,_),(28,_)] 2 [some 0,some 1] fun G a w S=>?_
  exact sIdxV S (wN d) d d d aQ d (lb d) fun a S=>leafL ⟨d,S⟩
 ·refine fJ [(29,_)] 3 [some 2] fun G a w S=>?_
  exact sFldV (q:=aW) S (wN d) d d aS d (lb d) fun a S=>leafL ⟨d,S⟩
 ·refine fJ [(30,_)] 4 [some 3] fun G a w S=>?_
  exact sLoadH (r:=r_api_Row) (T:=90) (xs:=af) (u:=.slice aa ai.length ab) (v:=.slice ac af.length ae) (vq:=aX) (j:=aj) 0 1 S aT (wN d) d d d d d (lb d) fun a S=>leafL ⟨d,S⟩
 ·refine fJ [(5,_)] 5 [none] fun G a w S=>?_
  exact sField (b:=au) (off:=0) 1 1 S (wN d) d d d d d (lb d) fun a S=>leafL ⟨d,S⟩
 ·refine fJ [(32,_)] 6 [some 5] fun G a w S=>?_
  exact sLoad1 2 (.slice ag a9.Cells.length ah) S (wN d) d d d d d d (lb d) fun a S=>leafL ⟨d,S⟩
 refine ⟨_,[(31,.slice aa ai.length ab),(33,.slice ag a9.Cells.length ah)],d,(srcs_of [some 4,some 6] d d d),fun G a w S=>?_⟩
 refine sCopyR (r:=r_api_Stitch) (T:=82) (xs:=ai) (ys:=a9.Cells) (v:=.slice aa ai.length ab) (u:=.slice ag a9.Cells.length ah) 1 0 S (wN d) d Try.underlying86 d d d d d d (lb d) fun a w S=>?_
 refine leafL ⟨d,_,_,.inl ⟨34,(iv ((Nat.min a9.Cells.length ai.length:Nat):Int)),[],d,S,hz_of d,?_⟩⟩
 refine node_by (A:=anc_chart_twin_0) 8 (by kernel_rfl) (by kernel_rfl) (by kernel_rfl) (by kernel_rfl) (by kernel_rfl) [7,0,1,2,3,4,5,6] (by kernel_rfl) (by decide) (by decide) (fD 7 (fD 7 (fD 7 (fD 7 (fD 7 (fD 7 (fD 7 (fY (trivial))))))))) [(3,.slice ac af.length ae),(12,.slice ao p0.length ap),(13,iv (p0.length:Int)),(14,iv aj)] (fin_of [none,none,none,none] d (by kernel_rfl) (by kernel_rfl)) (fun _ a w S=>?_)
 rw [cpO_v ai a9.Cells aa ab] at S
 have S:=S.shutR (r:=r_api_Stitch) (T:=82) (v:=.slice aa (cpO ai a9.Cells).length ab) (xs:=(cpO ai a9.Cells)) 0 d
 have S:=S.closeH (r:=r_api_Row) (s:=(rL r_api_Stitch)) (T:=90) (xs:=af) (ys:=aV) (x:=aK) (y:=(api_Row.mk aK.Back (cpO ai a9.Cells))) (z:=(cpO ai a9.Cells)) (v:=.slice ac af.length ae) (u:=.slice aa (cpO ai a9.Cells).length ab) (j:=aj) 0 1 d (S.mem.know (i:=0) (e:=fRep (rL r_api_Stitch) (.slice aa (cpO ai a9.Cells).length ab) (cpO ai a9.Cells)) d) d (lb d) al (upd_api_Row_Cells _ _) ar
 rw [setO_v ar ac ae] at S
 refine leafB (leafT (aA _ _ ?_))
 refine sRegion (sBin _ S (wN d) d d d (bAdd _ _ _ _ aj 1) d (lb d) fun a S=>sM S fun a S=>?_)
 exact lT (⟨(aV,w64 (aj + 1)),(Option.some.inj h).symm,(S.fix [0] [5] (by decide) d d d)⟩)
noncomputable def chart_Counts_l2 :List Int→(Int × chart_count)→Option (List Int ⊕ Empty):=fun s0 x0=>match s0,x0 with
 | a9,(ac,aa)=>
  (appO a9 ([aa.after]:List Int)).bind fun ab=>
  some (.inl ab)
noncomputable def F_chart_Counts (p0:api_Chart):Option ((List Int) × Int):=
 (F_chart_Check p0).bind fun r9=>
 if r9 != 0 then
  some (([]:(List Int)),r9)
 else
  (F_chart_counted p0).bind fun a9=>
  (I_chart_counted_1 a9 _ _ (chart_Counts_l2) ([p0.Start]:List Int)).bind fun z0=>match z0 with
   | .inl aa=>
    some (aa,0)
   | .inr z0=>
    nomatch z0
def c_chart_Counts_val (r:((List Int) × Int)) (x:Value):Value:=.tuple #[x,.int .i64 r.2]
def c_chart_Counts_D (r:((List Int) × Int)) (x:Value):List Fact:=[fRep (rL (rI .i64)) x r.1]
theorem c_chart_Counts (E:Nat→Prop) (w0:World) (p0:api_Chart) (v0:Value) (r:((List Int) × Int)) (h:F_chart_Counts p0=some r) (S:St0 E [] w0 w0 [] [fRep r_api_Chart (v0) p0]) :
 Calls Try.prog 16 #[v0] w0 (Ret (X:=Value) E [] w0 (c_chart_Counts_val r) (fun _=>[]) (c_chart_Counts_D r)):=by
 unfold F_chart_Counts at h
 obtain ⟨u1,rfl,aK⟩:=S.know (i:=0) (e:=fRep r_api_Chart (v0) p0) d
 have S:=S.learn (fRep (rL r_api_Row) u1 p0.Rows) aK
 obtain ⟨ag,ah,_,rfl,_⟩:=aK
 refine sEnterM (args:=[.agg #[iv p0.Start,.slice ag p0.Rows.length ah]]) 26 Try.func16 d d (by simp) S (fun a S=>?_)
 refine sSeq (fun K5 aQ=>sRegion (sBox (v:=.agg #[iv p0.Start,.slice ag p0.Rows.length ah]) S (wN d) d d [iv p0.Start,.slice ag p0.Rows.length ah] d d (lb d) fun a b6 w S=>sN S fun a S=>?_))
 refine sN S fun a S=>?_
 refine lT (aQ _ _ (sSeq (fun K7 aR=>sSeq (fun K8 aS=>sRegion (sLoadN (p:=b6) (off:=0) (T:=49) (vs:=[iv p0.Start,.slice ag p0.Rows.length ah]) 0 [iv p0.Start,.slice ag p0.Rows.length ah] S (wN d) d d d d d d d (lb d) fun a S=>?_)))))
 obtain ⟨r9,au,h⟩:=bS h
 have S1:=S.mem
 refine sCq [.agg #[iv p0.Start,.slice ag p0.Rows.length ah]] (iv r9) S callee42 (S1.quiet [1] d) (fun E1 w1 S1=>c_chart_Check E1 w1 p0 (.agg #[iv p0.Start,.slice ag p0.Rows.length ah]) r9 au S1) fun a w S=>?_
 refine sN S fun a S=>?_
 refine lT (aS _ _ (sSeq (fun aT av=>sRegion (sM S fun a S=>?_))))
 refine sBin _ S (wN d) d d d (bNe _ _ _ _ .i64 r9 0) d (lb d) fun a S=>lT (av _ _ ?_)
 rcases iS h with ⟨aj,h⟩ | ⟨aj,h⟩
 ·refine sCondT S d aj (sSeq (fun aU aw=>sRegion (sM S fun a S=>?_)))
  refine sN S fun a S=>?_
  refine sN S fun a S=>?_
  refine lT (aw _ _ ?_)
  obtain rfl:=tS h
  have S:=S.learn (fRep (rL (rI .i64)) (.slice none 0 0) ([]:(List Int))) (rL_nil _ _ _)
  exact wp_ret (rThen (sRetM0 (.tuple #[.slice none 0 0,iv r9]) S (rsl2 d (rvT (t:=2) (v:=.slice none 0 0) S d) (rvT (t:=3) (v:=iv r9) S d)) ⟨(.slice none 0 0),d,S.mem.sel [] [0] (by decide) d d⟩))
 refine sCondF S d aj (wp_skip (leafT (aR _ _ ?_)))
 refine sSeq (fun aV ax=>sRegion (sField (b:=b6) (off:=0) 0 0 S (wN d) d d d d d (lb d) fun a S=>sLoad1 0 (iv p0.Start) S (wN d) d d d d d d (lb d) fun a S=>sLit (r:=(rI .i64)) (T:=3) (xs:=([p0.Start]:List Int)) [(0,iv p0.Start)] 1 [iv p0.Start] [iv p0.Start] (iv 0) 8 S (wN d) d d Try.underlying34 d (by decide) (by decide) (by kernel_rfl) d (fun E1 w1 hE=>All.cons d (All.nil _ _ _)) d d (lb d) fun a w ae af S=>?_))
 refine sAlloc (.slice none 0 0) S (wN d) d d [.slice none 0 0] d d (lb d) fun a ai w S=>sStore (p:=ai) (off:=0) (T:=34) (vs:=[.slice none 0 0]) (v:=.slice ae ([p0.Start]:List Int).length af) 0 [.slice ae ([p0.Start]:List Int).length af] S (wN d) d d d d d d d (by simp) d fun a w S=>lT (ax _ _ (sSeq (fun aW ay=>sSeq (fun aX az=>sRegion (sLoadN (p:=b6) (off:=0) (T:=49) (vs:=[iv p0.Start,.slice ag p0.Rows.length ah]) 2 [iv p0.Start,.slice ag p0.Rows.length ah] S (wN d) d d d d d d d (lb d) fun a S=>?_)))))
 obtain ⟨ak,aA,h⟩:=bS h
 refine sCall (X:=Value) (f:=43) (vs:=[.agg #[iv p0.Start,.slice ag p0.Rows.length ah]]) (val:=c_chart_counted_val ak) (B':=fun _=>[]) (D':=c_chart_counted_D ak) [] [eBox ai 34 [.slice ae ([p0.Start]:List Int).length af],eRow (rI .i64) 3 (.slice ae ([p0.Start]:List Int).length af) ([p0.Start]:List Int),eBox b6 49 [iv p0.Start,.slice ag p0.Rows.length ah]] [fRep r_api_Chart (.agg #[iv p0.Start,.slice ag p0.Rows.length ah]) p0] [0,1,2] [1] S (wN d) d callee43 d (by decide) d d (fun E1 w1 S1=>c_chart_counted E1 w1 p0 (.agg #[iv p0.Start,.slice ag p0.Rows.length ah]) ak aA S1) d (lb d) fun aq a w S=>?_
 refine lT (az _ _ (wp_block ?_))
 obtain ⟨aZ,al,ar⟩:=bS h
 replace S:St [] E [] w0 26 a w [(5,.pointer (some ⟨ai,0,none⟩)),(17,.func (.func 68) #[] #[aq])] [eBox ai 34 [.slice ae ([p0.Start]:List Int).length af],eRow (rI .i64) 3 (.slice ae ([p0.Start]:List Int).length af) ([p0.Start]:List Int)] [fPtr r_api_Chart (aq) ak]:=S.fix [0,1] [0] (by decide) rfl rfl rfl
 refine sRange2 (B:=chart_Counts_l2) (fun s0 L D=>match s0 with | ab=>∃ a9,∃ aa,L=[eBox ai 34 [.slice a9 ab.length aa],eRow (rI .i64) 3 (.slice a9 ab.length aa) ab]∧D=[fPtr r_api_Chart (aq) ak]) (fun _ _ _ _=>False) [0] S al d callee68 (it_chart_counted_1 ak aq) d (by decide) (by decide) ⟨ae,af,d,d⟩ ?_ ?_ ?_
 ·intro E l0 ab aL ac aM aO b L D K a w0 hK hIL hB S
  clear al ar h hK
  unfold chart_Counts_l2 at hB
  dsimp only at hB hIL
  obtain ⟨a9,aa,rfl,rfl⟩:=hIL
  have h:=hB
  clear hB
  obtain rfl:aM=iv aL:=S.mem.know (i:=0) (e:=fRep (rI .i64) (aM) aL) d
  obtain rfl:aO=.agg #[iv ac.before,iv ac.after,iv ac.e]:=S.mem.know (i:=1) (e:=fRep r_chart_count (aO) ac) d
  refine sRegionR (by repeat (first | exact roundU_out | exact it_out | exact lo_false | refine lo_then ?_ | refine lo_block ?_)) d ?_
  refine sAlloc (.agg #[iv 0,iv 0,iv 0]) S (wN d) d d [iv 0,iv 0,iv 0] d d (lb d) fun a aP w S=>sStore (p:=aP) (off:=0) (T:=96) (vs:=[iv 0,iv 0,iv 0]) (v:=.agg #[iv ac.before,iv ac.after,iv ac.e]) 0 [iv ac.before,iv ac.after,iv ac.e] S (wN d) d d d d d d d (by simp) d fun a w S=>lT (⟨_,_,_,S,fun K a w0 hK S=>?_⟩)
  refine wpIn_block ?_
  refine sRegionR (by repeat (first | exact roundU_out | exact it_out | exact lo_false | refine lo_then ?_ | refine lo_block ?_)) d ?_
  refine sLoad1 1 (.slice a9 ab.length aa) S (wN d) d d d d d d (lb d) fun a S=>sField (b:=aP) (off:=0) 1 1 S (wN d) d d d d d (lb d) fun a S=>sLoad1 0 (iv ac.after) S (wN d) d d d d d d (lb d) fun a S=>sLit (r:=(rI .i64)) (T:=3) (xs:=([ac.after]:List Int)) [(0,iv ac.after)] 1 [iv ac.after] [iv ac.after] (iv 0) 8 S (wN d) d d Try.underlying34 d (by decide) (by decide) (by kernel_rfl) d (fun E1 w1 hE=>All.cons d (All.nil _ _ _)) d d (lb d) fun a w aC aG S=>?_
  obtain ⟨aH,aI,h⟩:=bS h
  refine sApp (r:=(rI .i64)) (T:=3) (xs:=ab) (ys:=([ac.after]:List Int)) (v:=.slice a9 ab.length aa) (u:=.slice aC ([ac.after]:List Int).length aG) 3 (iv 0) 8 S (wN d) d Try.underlying34 d d (by decide) d d d (src_R (T:=3) 0 S.mem d) aI d (lb d) fun a w am ao S=>sStore (p:=ai) (off:=0) (T:=34) (vs:=[.slice a9 ab.length aa]) (v:=.slice am aH.length ao) 3 [.slice am aH.length ao] S (wN d) d d d d d d d (by simp) d fun a w S=>?_
  exact leafL (leafB (rnN aH _ _ [] (Option.some.inj h) ⟨am,ao,d,d⟩ (S.fix [0,1] [2] (by decide) d d d)))
 ·intro ap ab L D a w hr hIL S
  clear h
  obtain rfl:=hr
  dsimp only at ar hIL
  obtain ⟨a9,aa,rfl,rfl⟩:=hIL
  have h:=ar
  clear ar al
  replace S:St [mark ap] E [] w0 26 a w [(5,.pointer (some ⟨ai,0,none⟩)),(17,.func (.func 68) #[] #[aq])] [eBox ai 34 [.slice a9 ab.length aa],eRow (rI .i64) 3 (.slice a9 ab.length aa) ab,eDef ap] [fPtr r_api_Chart (aq) ak]:=S
  refine leafB (leafT (ay _ _ ?_))
  refine sSeq (fun b8 aJ=>sRegion (sLoad1 0 (.slice a9 ab.length aa) S (wN d) d d d d d d (lb d) fun a S=>sN S fun a S=>?_))
  refine sN S fun a S=>?_
  refine lT (aJ _ _ (wp_ret (sRetM1 2 S d (fun a w S=>?_))))
  obtain rfl:=tS h
  have S:=S.shutR (r:=(rI .i64)) (T:=3) (v:=.slice a9 ab.length aa) (xs:=ab) 1 d
  exact sFin (.tuple #[.slice a9 ab.length aa,iv 0]) S (rsl2 d (rvT (t:=2) (v:=.slice a9 ab.length aa) S d) (rvT (t:=3) (v:=iv 0) S d)) ⟨(.slice a9 ab.length aa),d,S.mem.sel [] [0] (by decide) d d⟩
 ·intro ap c0 t0 L D a w hr hIX S
  clear h
  exact hIX.elim
def anc_chart_Part_0:List (List Nat):=[[],[],[0,1],[0,1,2],[],[4],[],[],[4,5,6,7],[4,5,6,7,8],[0,1,2,3,4,5,6,7,8,9],[0,1,2,3,4,5,6,7,8,9,10],[0,1,2,3,4,5,6,7,8,9,10,11]]
noncomputable def F_chart_Part (p0:api_Chart) (p1:Int) (p2:Int):Option (api_Chart × Int):=
 (F_chart_Counts p0).bind fun r9=>
 if r9.2 != 0 then
  some ((api_Chart.mk 0 ([]:(List api_Row))),r9.2)
 else
  Option.bind (α:=Bool) (
   if decide (p1 < 0) then
    some true
   else
    if decide (p2 < p1) then
     some true
    else
     some (decide ((p0.Rows.length:Int) < p2))) fun a9=>
  if a9 then
   some ((api_Chart.mk 0 ([]:(List api_Row))),2)
  else
   (idxO r9.1 p1).bind fun aa=>
   (sliceO p0.Rows p1 p2).bind fun ab=>
   (F_chart_twin ab).bind fun ac=>
   some ((api_Chart.mk aa ac),0)
def c_chart_Part_val (r:(api_Chart × Int)) (x:Value):Value:=.tuple #[x,.int .i64 r.2]
def c_chart_Part_D (r:(api_Chart × Int)) (x:Value):List Fact:=[fRep r_api_Chart x r.1]
theorem c_chart_Part (E:Nat→Prop) (w0:World) (p0:api_Chart) (v0:Value) (p1:Int) (p2:Int) (r:(api_Chart × Int)) (h:F_chart_Part p0 p1 p2=some r) (S:St0 E [] w0 w0 [] [fRep r_api_Chart (v0) p0]) :
 Calls Try.prog 33 #[v0,iv p1,iv p2] w0 (Ret (X:=Value) E [] w0 (c_chart_Part_val r) (fun _=>[]) (c_chart_Part_D r)):=by
 unfold F_chart_Part at h
 obtain ⟨u1,rfl,aJ⟩:=S.know (i:=0) (e:=fRep r_api_Chart (v0) p0) d
 have S:=S.learn (fRep (rL r_api_Row) u1 p0.Rows) aJ
 obtain ⟨af,ag,_,rfl,_⟩:=aJ
 refine sEnter (args:=[.agg #[iv p0.Start,.slice af p0.Rows.length ag],iv p1,iv p2]) 45 Try.func33 d d (by simp) S (fun a S=>?_)
 refine sSeq (fun K5 aL=>sRegion (sBox (v:=.agg #[iv p0.Start,.slice af p0.Rows.length ag]) S (wN d) d d [iv p0.Start,.slice af p0.Rows.length ag] d d (lb d) fun a b6 w S=>sAlloc (.agg #[iv 0,.slice none 0 0]) S (wN d) d d [iv 0,.slice none 0 0] d d (lb d) fun a b7 w S=>sN S fun a S=>?_))
 refine lT (aL _ _ (sSeq (fun K8 aM=>sRegion (sLoadN (p:=b6) (off:=0) (T:=49) (vs:=[iv p0.Start,.slice af p0.Rows.length ag]) 1 [iv p0.Start,.slice af p0.Rows.length ag] S (wN d) d d d d d d d (lb d) fun a S=>?_))))
 obtain ⟨r9,au,h⟩:=bS h
 refine sCall (X:=Value) (f:=16) (vs:=[.agg #[iv p0.Start,.slice af p0.Rows.length ag]]) (val:=c_chart_Counts_val r9) (B':=fun _=>[]) (D':=c_chart_Counts_D r9) [] [eBox b7 49 [iv 0,.slice none 0 0],eBox b6 49 [iv p0.Start,.slice af p0.Rows.length ag]] [fRep r_api_Chart (.agg #[iv p0.Start,.slice af p0.Rows.length ag]) p0] [0,1] [1] S (wN d) d callee16 d (by decide) d d (fun E1 w1 S1=>c_chart_Counts E1 w1 p0 (.agg #[iv p0.Start,.slice af p0.Rows.length ag]) r9 au S1) d (lb d) fun aO a w S=>?_
 obtain ⟨ah,ai,_,rfl,_⟩:=S.mem.know (i:=0) (e:=fRep (rL (rI .i64)) (aO) r9.1) d
 refine sM S fun a S=>?_
 refine sExtract (vs:=[.slice ah r9.1.length ai,iv r9.2]) (.slice ah r9.1.length ai) S (wN d) d d d d (lb d) fun a S=>sExtract (vs:=[.slice ah r9.1.length ai,iv r9.2]) (iv r9.2) S (wN d) d d d d (lb d) fun a S=>sN S fun a S=>?_
 refine sN S fun a S=>?_
 refine lT (aM _ _ (sSeq (fun aS av=>sSeq (fun aT aw=>sRegion (sM S fun a S=>?_)))))
 refine sBin _ S (wN d) d d d (bNe _ _ _ _ .i64 r9.2 0) d (lb d) fun a S=>lT (aw _ _ ?_)
 rcases iS h with ⟨am,h⟩ | ⟨am,h⟩
 ·refine sCondT S d am (sSeq (fun aU ax=>sRegion (sBuild [] [iv 0,.slice none 0 0] S (wN d) d d d d (lb d) fun a S=>sM S fun a S=>?_)))
  refine sStore (p:=b7) (off:=0) (T:=49) (vs:=[iv 0,.slice none 0 0]) (v:=.agg #[iv 0,.slice none 0 0]) 0 [iv 0,.slice none 0 0] S (wN d) d d d d d d d (by simp) d fun a w S=>sN S fun a S=>?_
  refine lT (ax _ _ ?_)
  obtain rfl:=tS h
  have S:=S.learn (fRep (rL r_api_Row) (.slice none 0 0) ([]:(List api_Row))) (rL_nil _ _ _)
  have S:=S.learn (fRep r_api_Chart (.agg #[iv 0,.slice none 0 0]) (api_Chart.mk 0 ([]:(List api_Row)))) ⟨_,d,S.mem.know (i:=0) (e:=fRep (rL r_api_Row) (.slice none 0 0) ([]:(List api_Row))) d⟩
  exact wp_ret (rThen (sRet (.tuple #[.agg #[iv 0,.slice none 0 0],iv r9.2]) S (rsl2 d (rvN (c:=6) (t:=49) (T:=49) (p:=b7) 0 [iv 0,.slice none 0 0] S d d d d) (rvT (t:=7) (v:=iv r9.2) S d)) ⟨(.agg #[iv 0,.slice none 0 0]),d,S.mem.sel [] [0] (by decide) d d⟩))
 refine sCondF S d am (wp_skip (leafT (av _ _ ?_)))
 refine sSeq (fun aV ay=>?_)
 obtain ⟨aP,h,aQ⟩:=bS h
 refine sCut (fun a w=>∃ az,az=aP∧St [] E [] w0 45 a w [(1,iv p1),(2,iv p2),(3,.pointer (some ⟨b6,0,none⟩)),(6,.pointer (some ⟨b7,0,none⟩)),(8,.slice ah r9.1.length ai),(32,.bool az)] [eBox b6 49 [iv p0.Start,.slice af p0.Rows.length ag],eBox b7 49 [iv 0,.slice none 0 0]] [fRep (rL (rI .i64)) (.slice ah r9.1.length ai) r9.1,fRep (rL r_api_Row) (.slice af p0.Rows.length ag) p0.Rows]) ?_ (fun a w hI=>?_)
 ·refine sRegion (sM S fun a S=>?_)
  refine sBin _ S (wN d) d d d (bLt _ _ _ _ .i64 p1 0) d (lb d) fun a S=>sM S fun a S=>?_
  rcases iS h with ⟨aj,h⟩ | ⟨aj,h⟩
  ·refine sSkN 3 2 false 21 S d d aj d fun a S=>sPickT (.bool true) S (wN d) d d aj d d (lb d) fun a S=>sM S fun a S=>?_
   refine sSkN 5 7 false 26 S d d d d fun a S=>sPickT (.bool true) S (wN d) d d d d d (lb d) fun a S=>?_
   exact lT (⟨true,Option.some.inj h,S.fix [1,0] [0,1] (by decide) d d d⟩)
  refine sMove (iv p1) S (wG 2 false 21 d d d aj) (.inl d) d d (lb d) fun a S=>sMove (iv p2) S (wG 2 false 21 d d d aj) (.inl d) d d (lb d) fun a S=>sBin _ S (wG 2 false 21 d d d aj) d d d (bGt _ _ _ _ .i64 p1 p2) d (lb d) fun a S=>sPickF (.bool (decide (p2 < p1))) S (wN d) d d aj d d (lb d) fun a S=>sM S fun a S=>?_
  rcases iS h with ⟨ab,h⟩ | ⟨ab,h⟩
  ·refine sSkN 5 7 false 26 S d d ab d fun a S=>sPickT (.bool true) S (wN d) d d ab d d (lb d) fun a S=>?_
   exact lT (⟨true,Option.some.inj h,S.fix [1,0] [0,1] (by decide) d d d⟩)
  refine sMove (iv p2) S (wG 7 false 26 d d d ab) (.inl d) d d (lb d) fun a S=>sField (b:=b6) (off:=0) 1 1 S (wG 7 false 26 d d d ab) d d d d d (lb d) fun a S=>sLoad1 1 (.slice af p0.Rows.length ag) S (wG 7 false 26 d d d ab) d d d d d d (lb d) fun a S=>sLen S (wG 7 false 26 d d d ab) d Try.underlying47 d d (lb d) fun a S=>sBin _ S (wG 7 false 26 d d d ab) d d d (bGt _ _ _ _ .i64 p2 (p0.Rows.length:Int)) d (lb d) fun a S=>sPickF (.bool (decide ((p0.Rows.length:Int) < p2))) S (wN d) d d ab d d (lb d) fun a S=>?_
  exact lT (⟨decide ((p0.Rows.length:Int) < p2),Option.some.inj h,S.fix [1,0] [0,1] (by decide) d d d⟩)
 obtain ⟨az,rfl,S⟩:=hI
 have h:=aQ
 try dsimp only at h
 rcases iS h with ⟨ao,h⟩ | ⟨ao,h⟩
 ·refine sCondT S d ao (sSeq (fun aW aA=>sRegion (sBuild [] [iv 0,.slice none 0 0] S (wN d) d d d d (lb d) fun a S=>sStore (p:=b7) (off:=0) (T:=49) (vs:=[iv 0,.slice none 0 0]) (v:=.agg #[iv 0,.slice none 0 0]) 1 [iv 0,.slice none 0 0] S (wN d) d d d d d d d (by simp) d fun a w S=>sN S fun a S=>?_)))
  refine lT (aA _ _ ?_)
  obtain rfl:=tS h
  have S:=S.learn (fRep (rL r_api_Row) (.slice none 0 0) ([]:(List api_Row))) (rL_nil _ _ _)
  have S:=S.learn (fRep r_api_Chart (.agg #[iv 0,.slice none 0 0]) (api_Chart.mk 0 ([]:(List api_Row)))) ⟨_,d,S.mem.know (i:=0) (e:=fRep (rL r_api_Row) (.slice none 0 0) ([]:(List api_Row))) d⟩
  exact wp_ret (rThen (sRet (.tuple #[.agg #[iv 0,.slice none 0 0],iv 2]) S (rsl2 d (rvN (c:=6) (t:=49) (T:=49) (p:=b7) 0 [iv 0,.slice none 0 0] S d d d d) (rvT (t:=7) (v:=iv 2) S d)) ⟨(.agg #[iv 0,.slice none 0 0]),d,S.mem.sel [] [0] (by decide) d d⟩))
 refine sCondF S d ao (wp_skip (leafT (ay _ _ ?_)))
 refine sSeq (fun aX aC=>?_)
 obtain ⟨ac,aG,h⟩:=bS h
 obtain ⟨ap,aH,h⟩:=bS h
 obtain ⟨ae,aI,h⟩:=bS h
 obtain ⟨ar,aq,S⟩:=pIdx (P:=Try.prog) (r:=(rI .i64)) (v:=.slice ah r9.1.length ai) (xs:=r9.1) (j:=p1) 34 3 0 S Try.underlying34 d d aG
 obtain ⟨aK,S⟩:=pLoad (r:=(rI .i64)) (q:=ar) (x:=ac) 0 S d
 obtain rfl:aK=iv ac:=S.mem.know (i:=1) (e:=fRep (rI .i64) (aK) ac) d
 refine sDraw (nf:=[8,9,11]) (W:=[(0,34,.slice ah r9.1.length ai),(1,35,iv p1),(2,36,ar),(3,37,iv ac),(4,38,.pointer (some ⟨b6,1,none⟩)),(5,39,.slice af p0.Rows.length ag),(6,40,iv p1),(7,41,iv p2)]) d S ?_
 refine node_by (A:=anc_chart_Part_0) 13 (by kernel_rfl) (by kernel_rfl) (by kernel_rfl) (by kernel_rfl) (by kernel_rfl) [0,1,2,3,4,5,6,7] (by kernel_rfl) (by decide) (by decide) (fF ?_ (fF ?_ (fF ?_ (fF ?_ (fF ?_ (fF ?_ (fF ?_ (fF ?_ (fN ?_ (aB 9 3 8 (by decide) (fE 8 (aB 11 1 8 (by decide) (fE 8 (trivial)))))))))))))) [] (fun q hq=>by cases hq) (fun hY=>absurd (hY 8 (by decide)) (by decide))
 ·exact fM 0 none d d d d (.inl d) d d d
 ·exact fM 1 none d d d d (.inl d) d d d
 ·refine fJ [(34,_),(35,_)] 2 [some 0,some 1] fun G a w S=>?_
  exact sIdxV S (wN d) d d d aq d (lb d) fun a S=>leafL ⟨d,S⟩
 ·refine fJ [(36,_)] 3 [some 2] fun G a w S=>?_
  exact sLoadV1 (vq:=ar) 0 (iv ac) S (wN d) d d d d d (lb d) fun a S=>leafL ⟨d,S⟩
 ·refine fJ [(3,_)] 4 [none] fun G a w S=>?_
  exact sField (b:=b6) (off:=0) 1 1 S (wN d) d d d d d (lb d) fun a S=>leafL ⟨d,S⟩
 ·refine fJ [(38,_)] 5 [some 4] fun G a w S=>?_
  exact sLoad1 0 (.slice af p0.Rows.length ag) S (wN d) d d d d d d (lb d) fun a S=>leafL ⟨d,S⟩
 ·exact fM 6 none d d d d (.inl d) d d d
 ·exact fM 7 none d d d d (.inl d) d d d
 refine ⟨_,[(39,.slice af p0.Rows.length ag),(40,iv p1),(41,iv p2)],d,(srcs_of [some 5,some 6,some 7] d d d),fun G a w S=>?_⟩
 refine sSlice (r:=r_api_Row) (v:=.slice af p0.Rows.length ag) (xs:=p0.Rows) (vlo:=(some (.int .i64 p1))) (vhi:=(some (.int .i64 p2))) (lo':=p1) (hi':=p2) 4 S (wN d) d Try.underlying47 d d d d d (.inl d) (.inl d) aH d (lb d) fun a ak al S=>?_
 refine leafL ⟨d,_,_,.inl ⟨42,(.slice ak ap.length al),[],d,S,hz_of d,?_⟩⟩
 refine node_by (A:=anc_chart_Part_0) 13 (by kernel_rfl) (by kernel_rfl) (by kernel_rfl) (by kernel_rfl) (by kernel_rfl) [8,0,1,2,3,4,5,6,7] (by kernel_rfl) (by decide) (by decide) (fF ?_ (fF ?_ (fF ?_ (fF ?_ (fD 8 (fD 8 (fD 8 (fD 8 (fY (fN ?_ (fE 9 (aB 11 1 9 (by decide) (fE 9 (trivial)))))))))))))) [] (fun q hq=>by cases hq) (fun hY=>absurd (hY 9 (by decide)) (by decide))
 ·exact fM 1 none d d d d (.inl d) d d d
 ·exact fM 2 none d d d d (.inl d) d d d
 ·refine fJ [(34,_),(35,_)] 3 [some 1,some 2] fun G a w S=>?_
  exact sIdxV S (wN d) d d d aq d (lb d) fun a S=>leafL ⟨d,S⟩
 ·refine fJ [(36,_)] 4 [some 3] fun G a w S=>?_
  exact sLoadV1 (vq:=ar) 1 (iv ac) S (wN d) d d d d d (lb d) fun a S=>leafL ⟨d,S⟩
 refine ⟨_,[(42,.slice ak ap.length al)],d,(srcs_of [some 0] d d d),fun G a w S=>?_⟩
 refine sCall (X:=Value) (f:=62) (vs:=[.slice ak ap.length al]) (val:=c_chart_twin_val ae) (B':=fun _=>[]) (D':=c_chart_twin_D ae) [] [eBox b6 49 [iv p0.Start,.slice af p0.Rows.length ag],eBox b7 49 [iv 0,.slice none 0 0]] [fRep (rL r_api_Row) (.slice ak ap.length al) ap] [0,1] [0] S (wN d) d callee62 d (by decide) d d (fun E1 w1 S1=>c_chart_twin E1 w1 ap (.slice ak ap.length al) ae aI S1) d (lb d) fun aR a w S=>?_
 obtain ⟨a9,aa,_,rfl,_⟩:=S.mem.know (i:=0) (e:=fRep (rL r_api_Row) (aR) ae) d
 refine leafL ⟨d,_,_,.inl ⟨43,(.slice a9 ae.length aa),[(10,44,.agg #[iv ac,.slice a9 ae.length aa])],d,S,hz_of d,?_⟩⟩
 refine node_by (A:=anc_chart_Part_0) 13 (by kernel_rfl) (by kernel_rfl) (by kernel_rfl) (by kernel_rfl) (by kernel_rfl) [10,9,8,0,1,2,3,4,5,6,7] (by kernel_rfl) (by decide) (by decide) (fF ?_ (fF ?_ (fF ?_ (fF ?_ (fD 9 (fD 9 (fD 9 (fD 9 (fY (fY (fF ?_ (fN ?_ (fE 11 (trivial)))))))))))))) [] (fun q hq=>by cases hq) (fun hY=>absurd (hY 11 (by decide)) (by decide))
 ·exact fM 3 none d d d d (.inl d) d d d
 ·exact fM 4 none d d d d (.inl d) d d d
 ·refine fJ [(34,_),(35,_)] 5 [some 3,some 4] fun G a w S=>?_
  exact sIdxV S (wN d) d d d aq d (lb d) fun a S=>leafL ⟨d,S⟩
 ·refine fJ [(36,_)] 6 [some 5] fun G a w S=>?_
  exact sLoadV1 (vq:=ar) 2 (iv ac) S (wN d) d d d d d (lb d) fun a S=>leafL ⟨d,S⟩
 ·refine fJ [(37,_),(43,_)] 0 [some 6,some 1] fun G a w S=>?_
  exact sBuild [(0,iv ac),(1,.slice a9 ae.length aa)] [iv ac,.slice a9 ae.length aa] S (wN d) d d d d (lb d) fun a S=>leafL ⟨d,S⟩
 refine ⟨_,[(6,.pointer (some ⟨b7,0,none⟩)),(44,.agg #[iv ac,.slice a9 ae.length aa])],d,(srcs_of [none,some 0] d d d),fun G a w S=>?_⟩
 refine sStore (p:=b7) (off:=0) (T:=49) (vs:=[iv 0,.slice none 0 0]) (v:=.agg #[iv ac,.slice a9 ae.length aa]) 1 [iv ac,.slice a9 ae.length aa] S (wN d) d d d d d d d (by simp) d fun a w S=>leafL ⟨d,_,_,.inr ⟨[(12,7,iv 0)],d,S,hz_of d,?_⟩⟩
 refine node_by (A:=anc_chart_Part_0) 13 (by kernel_rfl) (by kernel_rfl) (by kernel_rfl) (by kernel_rfl) (by kernel_rfl) [12,10,9,8,0,1,2,3,4,5,6,7] (by kernel_rfl) (by decide) (by decide) (fD 11 (fD 11 (fD 11 (fD 11 (fD 11 (fD 11 (fD 11 (fD 11 (fY (fY (fD 11 (fY (fF ?_ (trivial)))))))))))))) [(6,.pointer (some ⟨b7,0,none⟩)),(7,iv 0)] (fin_of [none,some 0] d (by kernel_rfl) (by kernel_rfl)) (fun _ a w S=>?_)
 ·refine fJ [] 0 [] fun G a w S=>?_
  exact sN S fun a S=>leafL ⟨d,S⟩
 refine leafT (aC _ _ ?_)
 obtain rfl:=tS h
 have S:=S.learn (fRep r_api_Chart (.agg #[iv ac,.slice a9 ae.length aa]) (api_Chart.mk ac ae)) ⟨_,d,S.mem.know (i:=0) (e:=fRep (rL r_api_Row) (.slice a9 ae.length aa) ae) d⟩
 exact wp_ret (sRet (.tuple #[.agg #[iv ac,.slice a9 ae.length aa],iv 0]) S (rsl2 d (rvN (c:=6) (t:=49) (T:=49) (p:=b7) 0 [iv ac,.slice a9 ae.length aa] S d d d d) (rvT (t:=7) (v:=iv 0) S d)) ⟨(.agg #[iv ac,.slice a9 ae.length aa]),d,S.mem.sel [] [0] (by decide) d d⟩)
noncomputable def F_chart_counted_s0 (p0:api_Chart):Option api_Chart:=
 some p0
def c_chart_counted_s0_val (r:api_Chart) (x:Value):Value:=.func (.func 68) #[] #[x]
def c_chart_counted_s0_D (r:api_Chart) (x:Value):List Fact:=[fPtr r_api_Chart x r]
theorem c_chart_counted_s0 (E:Nat→Prop) (w0:World) (p0:api_Chart) (v0:Value) (r:api_Chart) (h:F_chart_counted_s0 p0=some r) (S:St0 E [] w0 w0 [] [fRep r_api_Chart (v0) p0]) :
 Calls Try.prog 43 #[v0] w0 (Ret (X:=Value) E [] w0 (c_chart_counted_s0_val r) (fun _=>[]) (c_chart_counted_s0_D r)):=by
 unfold F_chart_counted_s0 at h
 obtain ⟨u1,rfl,ab⟩:=S.know (i:=0) (e:=fRep r_api_Chart (v0) p0) d
 have S:=S.learn (fRep (rL r_api_Row) u1 p0.Rows) ab
 obtain ⟨a9,aa,_,rfl,_⟩:=ab
 refine sEnter (args:=[.agg #[iv p0.Start,.slice a9 p0.Rows.length aa]]) 4 Try.func43 d d (by simp) S (fun a S=>?_)
 refine sSeq (fun K5 ac=>sRegion (sBox (v:=.agg #[iv p0.Start,.slice a9 p0.Rows.length aa]) S (wN d) d d [iv p0.Start,.slice a9 p0.Rows.length aa] d d (lb d) fun a b6 w S=>sN S fun a S=>?_))
 refine lT (ac _ _ (sSeq (fun K7 ae=>sRegion (sFunc (g:=68) (vs:=[.pointer (some ⟨b6,0,none⟩)]) S (wN d) d d d (lb d) fun a S=>?_))))
 refine sN S fun a S=>?_
 refine lT (ae _ _ ?_)
 have S:=S.shutB (r:=r_api_Chart) (T:=49) (b:=b6) (cs:=[iv p0.Start,.slice a9 p0.Rows.length aa]) 0 (.agg #[iv p0.Start,.slice a9 p0.Rows.length aa]) p0 d d (S.mem.know (i:=1) (e:=fRep r_api_Chart (.agg #[iv p0.Start,.slice a9 p0.Rows.length aa]) p0) d)
 obtain rfl:=tS h
 exact wp_ret (sRet (.func (.func 68) #[] #[.pointer (some ⟨b6,0,none⟩)]) S (rsl1 d (rvT (t:=2) (v:=.func (.func 68) #[] #[.pointer (some ⟨b6,0,none⟩)]) S d)) ⟨(.pointer (some ⟨b6,0,none⟩)),d,S.mem.sel [] [0] (by decide) d d⟩)
end Go.Proofs.Ytnfjcalmangncaa
