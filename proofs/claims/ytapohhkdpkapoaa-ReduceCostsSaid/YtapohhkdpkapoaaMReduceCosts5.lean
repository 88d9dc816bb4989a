/- ReduceCosts: walks, tables, laws. -/
import Derived.Test.YtapohhkdpkapoaaProg
import Derived.Test.YtapohhkdpkapoaaRows
import Derived.Test.YtapohhkdpkapoaaMReduceCosts4
set_option linter.unusedVariables false
set_option linter.unusedSimpArgs false
set_option maxHeartbeats 4000000
set_option maxRecDepth 100000
namespace Go.Proofs.Ytapohhkdpkapoaa
open Go.RowKit
noncomputable def F_grid_Not (p0:api_Grid):Option (api_Grid × Int):=
 (F_grid_Check p0).bind fun a0=>
 if a0 != 0 then
  some ((api_Grid.mk 0 0 ([]:(List Bool))),a0)
 else
  (F_grid_build_s0 p0.W p0.H p0).bind fun a2=>
  some (a2,0)
def c_grid_Not_val (r:(api_Grid × Int)) (x:Value):Value:=.tuple #[x,.int .i64 r.2]
def c_grid_Not_D (r:(api_Grid × Int)) (x:Value):List Fact:=[fRep r_api_Grid x r.1]
theorem c_grid_Not (E:Nat→Prop) (w0:World) (p0:api_Grid) (v0:Value) (r:(api_Grid × Int)) (h:F_grid_Not p0=some r) (S:St0 E [] w0 w0 [] [fRep r_api_Grid (v0) p0]) :
 Calls Try.prog 31 #[v0] w0 (Ret (X:=Value) E [] w0 (c_grid_Not_val r) (fun _=>[]) (c_grid_Not_D r)):=by
 unfold F_grid_Not at h
 obtain ⟨u1,rfl,af⟩:=S.know (i:=0) (e:=fRep r_api_Grid (v0) p0) y
 have S:=S.learn (fRep (rL rB) u1 p0.Bits) af
 obtain ⟨a4,a5,_,rfl,_⟩:=af
 refine sEnter (args:=[.agg #[iv p0.W,iv p0.H,.slice a4 p0.Bits.length a5]]) 17 Try.func31 y y (by simp) S (fun a S=>?_)
 refine sSeq (fun K5 ag=>sRegion (sBox (v:=.agg #[iv p0.W,iv p0.H,.slice a4 p0.Bits.length a5]) S (wN y) y y [iv p0.W,iv p0.H,.slice a4 p0.Bits.length a5] y y (lb y) fun a b6 w S=>sAlloc (.agg #[iv 0,iv 0,.slice none 0 0]) S (wN y) y y [iv 0,iv 0,.slice none 0 0] y y (lb y) fun a b7 w S=>sN S fun a S=>?_))
 refine lT (ag _ _ (sSeq (fun K8 ah=>sSeq (fun K9 ai=>sRegion (sLoadN (p:=b6) (off:=0) (T:=24) (vs:=[iv p0.W,iv p0.H,.slice a4 p0.Bits.length a5]) 1 [iv p0.W,iv p0.H,.slice a4 p0.Bits.length a5] S (wN y) y y y y y y y (lb y) fun a S=>?_)))))
 obtain ⟨a7,a9,h⟩:=bS h
 have S1:=S.mem
 refine sCq [.agg #[iv p0.W,iv p0.H,.slice a4 p0.Bits.length a5]] (iv a7) S callee35 (S1.quiet [1] y) (fun E1 w1 S1=>c_grid_Check E1 w1 p0 (.agg #[iv p0.W,iv p0.H,.slice a4 p0.Bits.length a5]) a7 a9 S1) fun a w S=>?_
 refine sN S fun a S=>?_
 refine lT (ai _ _ (sSeq (fun al aa=>sRegion (sM S fun a S=>?_))))
 refine sBin _ S (wN y) y y y (bNe _ _ _ _ .i64 a7 0) y (lb y) fun a S=>lT (aa _ _ ?_)
 rcases iS h with ⟨a6,h⟩ | ⟨a6,h⟩
 ·refine sCondT S y a6 (sSeq (fun am ab=>sRegion (sBuild [] [iv 0,iv 0,.slice none 0 0] S (wN y) y y y y (lb y) fun a S=>sM S fun a S=>?_)))
  refine sStore (p:=b7) (off:=0) (T:=24) (vs:=[iv 0,iv 0,.slice none 0 0]) (v:=.agg #[iv 0,iv 0,.slice none 0 0]) 0 [iv 0,iv 0,.slice none 0 0] S (wN y) y y y y y y y (by simp) y fun a w S=>sN S fun a S=>?_
  refine lT (ab _ _ ?_)
  obtain rfl:=tS h
  have S:=S.learn (fRep (rL rB) (.slice none 0 0) ([]:(List Bool))) (rL_nil _ _ _)
  have S:=S.learn (fRep r_api_Grid (.agg #[iv 0,iv 0,.slice none 0 0]) (api_Grid.mk 0 0 ([]:(List Bool)))) ⟨_,y,S.mem.know (i:=0) (e:=fRep (rL rB) (.slice none 0 0) ([]:(List Bool))) y⟩
  exact wp_ret (rThen (sRet (.tuple #[.agg #[iv 0,iv 0,.slice none 0 0],iv a7]) S (rsl2 y (rvN (c:=2) (t:=24) (T:=24) (p:=b7) 0 [iv 0,iv 0,.slice none 0 0] S y y y y) (rvT (t:=3) (v:=iv a7) S y)) ⟨(.agg #[iv 0,iv 0,.slice none 0 0]),y,S.mem.sel [] [0] (by decide) y y⟩))
 refine sCondF S y a6 (wp_skip (leafT (ah _ _ ?_)))
 refine sSeq (fun ao ac=>sRegion (sField (b:=b6) (off:=0) 0 0 S (wN y) y y y y y (lb y) fun a S=>sLoad1 1 (iv p0.W) S (wN y) y y y y y y (lb y) fun a S=>sField (b:=b6) (off:=0) 1 1 S (wN y) y y y y y (lb y) fun a S=>sLoad1 1 (iv p0.H) S (wN y) y y y y y y (lb y) fun a S=>sFunc (g:=46) (vs:=[.pointer (some ⟨b6,0,none⟩)]) S (wN y) y y y (lb y) fun a S=>?_))
 obtain ⟨a0,ae,h⟩:=bS h
 have S:=S.shutB (r:=r_api_Grid) (T:=24) (b:=b6) (cs:=[iv p0.W,iv p0.H,.slice a4 p0.Bits.length a5]) 1 (.agg #[iv p0.W,iv p0.H,.slice a4 p0.Bits.length a5]) p0 y y (S.mem.know (i:=1) (e:=fRep r_api_Grid (.agg #[iv p0.W,iv p0.H,.slice a4 p0.Bits.length a5]) p0) y)
 refine sCall (X:=Value) (f:=45) (vs:=[iv p0.W,iv p0.H,.func (.func 46) #[] #[.pointer (some ⟨b6,0,none⟩)]]) (val:=c_grid_build_s0_val a0) (B':=fun _=>[]) (D':=c_grid_build_s0_D a0) [] [eBox b7 24 [iv 0,iv 0,.slice none 0 0]] [fPtr r_api_Grid (.pointer (some ⟨b6,0,none⟩)) p0] [0] [0] S (wN y) y callee45 y (by decide) y y (fun E1 w1 S1=>c_grid_build_s0 E1 w1 p0.W p0.H p0 (.pointer (some ⟨b6,0,none⟩)) a0 ae S1) y (lb y) fun aj a w S=>?_
 obtain ⟨ak,rfl,a8⟩:=S.mem.know (i:=0) (e:=fRep r_api_Grid (aj) a0) y
 have S:=S.learn (fRep (rL rB) ak a0.Bits) a8
 obtain ⟨a2,a3,_,rfl,_⟩:=a8
 refine sStore (p:=b7) (off:=0) (T:=24) (vs:=[iv 0,iv 0,.slice none 0 0]) (v:=.agg #[iv a0.W,iv a0.H,.slice a2 a0.Bits.length a3]) 0 [iv a0.W,iv a0.H,.slice a2 a0.Bits.length a3] S (wN y) y y y y y y y (by simp) y fun a w S=>sN S fun a S=>?_
 refine lT (ac _ _ ?_)
 obtain rfl:=tS h
 exact wp_ret (sRet (.tuple #[.agg #[iv a0.W,iv a0.H,.slice a2 a0.Bits.length a3],iv 0]) S (rsl2 y (rvN (c:=2) (t:=24) (T:=24) (p:=b7) 0 [iv a0.W,iv a0.H,.slice a2 a0.Bits.length a3] S y y y y) (rvT (t:=3) (v:=iv 0) S y)) ⟨(.agg #[iv a0.W,iv a0.H,.slice a2 a0.Bits.length a3]),y,S.mem.sel [] [1] (by decide) y y⟩)
def anc_raddlelaw17_ReduceCosts_0:List (List Nat):=[[],[],[1],[0,1,2],[0,1,2,3],[0,1,2,3,4],[0,1,2,3,4,5],[0,1,2,3,4,5,6],[0,1,2,3,4,5,6,7],[0,1,2,3,4,5,6,7,8],[0,1,2,3,4,5,6,7,8,9],[0,1,2,3,4,5,6,7,8,9],[0,1,2,3,4,5,6,7,8,9,11],[0,1,2,3,4,5,6,7,8,9,10,11,12],[0,1,2,3,4,5,6,7,8,9,10,11,12,13],[0,1,2,3,4,5,6,7,8,9],[0,1,2,3,4,5,6,7,8,9],[0,1,2,3,4,5,6,7,8,9,16],[0,1,2,3,4,5,6,7,8,9,15,16,17],[0,1,2,3,4,5,6,7,8,9,15,16,17,18],[0,1,2,3,4,5,6,7,8,9,10,11,12,13,14,15,16,17,18,19],[0,1,2,3,4,5,6,7,8,9,10,11,12,13,14,15,16,17,18,19,20],[0,1,2,3,4,5,6,7,8,9,10,11,12,13,14,15,16,17,18,19,20,21],[0,1,2,3,4,5,6,7,8,9,10,11,12,13,14,15,16,17,18,19,20,21,22],[0,1,2,3,4,5,6,7,8,9,10,11,12,13,14,15,16,17,18,19,20,21,22,23],[0,1,2,3,4,5,6,7,8,9,10,11,12,13,14,15,16,17,18,19,20,21,22,23],[0,1,2,3,4,5,6,7,8,9,10,11,12,13,14,15,16,17,18,19,20,21,22,23,25],[0,1,2,3,4,5,6,7,8,9,10,11,12,13,14,15,16,17,18,19,20,21,22,23,24,25,26],[0,1,2,3,4,5,6,7,8,9,10,11,12,13,14,15,16,17,18,19,20,21,22,23,24,25,26,27],[0,1,2,3,4,5,6,7,8,9,10,11,12,13,14,15,16,17,18,19,20,21,22,23,24,25,26,27,28],[0,1,2,3,4,5,6,7,8,9,10,11,12,13,14,15,16,17,18,19,20,21,22,23],[0,1,2,3,4,5,6,7,8,9,10,11,12,13,14,15,16,17,18,19,20,21,22,23],[0,1,2,3,4,5,6,7,8,9,10,11,12,13,14,15,16,17,18,19,20,21,22,23,31],[0,1,2,3,4,5,6,7,8,9,10,11,12,13,14,15,16,17,18,19,20,21,22,23,30,31,32],[0,1,2,3,4,5,6,7,8,9,10,11,12,13,14,15,16,17,18,19,20,21,22,23,24,25,26,27,28,29,30,31,32,33],[0,1,2,3,4,5,6,7,8,9,10,11,12,13,14,15,16,17,18,19,20,21,22,23,24,25,26,27,28,29,30,31,32,33,34]]
noncomputable def raddlelaw17_ReduceCosts_l1 (a3:((List Int) × Int)) (p0:api_Grid):Int→Option (Int ⊕ (Bool ⊕ Unit)):=fun s0=>match s0 with
 | a0=>
  if decide (a0 ≤ (a3.1.length:Int)) then
   Option.bind (α:=Bool) (
    (idxO a3.1 (w64 (a0 - 1))).bind fun a2=>
    if decide (a2 < 0) then
     some true
    else
     if decide (1 < a0) then
      (idxO a3.1 (w64 (a0 - 2))).bind fun a6=>
      if decide (a6 < a2) then
       some true
      else
       (F_raddleref17_Kinds p0).bind fun a4=>
       some ((a2 == 0) != (decide (a4 ≤ a0)))
     else
      (F_raddleref17_Kinds p0).bind fun a5=>
      some ((a2 == 0) != (decide (a5 ≤ a0)))) fun a7=>
   if a7 then
    some (.inr (.inl false))
   else
    some (.inl (w64 (a0 + 1)))
  else
   some (.inr (.inr ()))
noncomputable def F_raddlelaw17_ReduceCosts (p0:api_Grid):Option Bool:=
 (F_raddlelaw17_alive).bind fun r8=>
 Option.bind (α:=Bool) (
  (F_raddlelaw17_fit p0).bind fun a4=>
  if !a4 then
   some true
  else
   some (!r8)) fun a5=>
 if a5 then
  some r8
 else
  (F_reduce_Costs p0).bind fun a0=>
  (F_grid_Not p0).bind fun a2=>
  Option.bind (α:=Bool) (
   if a0.2 != 0 then
    some true
   else
    if a2.2 != 0 then
     some true
    else
     if (a0.1.length:Int) != p0.W then
      some true
     else
      (F_raddlelaw17_fit a2.1).bind fun a6=>
      some (!a6)) fun a7=>
  if a7 then
   some false
  else
   (F_reduce_Costs a2.1).bind fun a3=>
   Option.bind (α:=Bool) (
    if a3.2 != 0 then
     some true
    else
     (F_raddleref02_Same a0.1 a3.1).bind fun a8=>
     some (!a8)) fun a9=>
   if a9 then
    some false
   else
    Option.bind (α:=Unit ⊕ Bool) (
     (whileO (raddlelaw17_ReduceCosts_l1 a0 p0) 1).bind fun z0=>match z0 with
      | .inl z=>
       some (.inr z)
      | .inr _=>
       some (.inl ())) fun z0=>match z0 with
     | .inl _=>
      some r8
     | .inr z=>
      some z
theorem c_raddlelaw17_ReduceCosts (E:Nat→Prop) (w0:World) (p0:api_Grid) (v0:Value) (r:Bool) (h:F_raddlelaw17_ReduceCosts p0=some r) (S:St0 E [] w0 w0 [] [fRep r_api_Grid (v0) p0]) :
 Calls Try.prog 7 #[v0] w0 (Ret (X:=Unit) E [] w0 (fun _=>.bool r) (fun _=>[]) (fun _=>[])):=by
 unfold F_raddlelaw17_ReduceCosts at h
 obtain ⟨u1,rfl,bP⟩:=S.know (i:=0) (e:=fRep r_api_Grid (v0) p0) y
 have S:=S.learn (fRep (rL rB) u1 p0.Bits) bP
 obtain ⟨a9,aa,_,rfl,_⟩:=bP
 refine sEnter (args:=[.agg #[iv p0.W,iv p0.H,.slice a9 p0.Bits.length aa]]) 104 Try.func7 y y (by simp) S (fun a S=>?_)
 refine sSeq (fun K5 bX=>sRegion (sBox (v:=.agg #[iv p0.W,iv p0.H,.slice a9 p0.Bits.length aa]) S (wN y) y y [iv p0.W,iv p0.H,.slice a9 p0.Bits.length aa] y y (lb y) fun a b6 w S=>sN S fun a S=>?_))
 refine lT (bX _ _ (sSeq (fun K7 bY=>sRegion ?_)))
 obtain ⟨r8,bZ,h⟩:=bS h
 have S1:=S.mem
 refine sCq [] (.bool r8) S callee18 (S1.quiet [] y) (fun E1 w1 S1=>c_raddlelaw17_alive E1 w1  r8 bZ S1) fun a w S=>?_
 refine sN S fun a S=>?_
 refine lT (bY _ _ (sSeq (fun cp bj=>?_)))
 obtain ⟨c7,h,c8⟩:=bS h
 refine sCut (fun a w=>∃ bk,bk=c7∧St [] E [] w0 104 a w [(1,.pointer (some ⟨b6,0,none⟩)),(3,.bool r8),(18,.bool bk)] [eBox b6 24 [iv p0.W,iv p0.H,.slice a9 p0.Bits.length aa]] [fRep (rL rB) (.slice a9 p0.Bits.length aa) p0.Bits]) ?_ (fun a w hI=>?_)
 ·refine sRegion (sLoadN (p:=b6) (off:=0) (T:=24) (vs:=[iv p0.W,iv p0.H,.slice a9 p0.Bits.length aa]) 0 [iv p0.W,iv p0.H,.slice a9 p0.Bits.length aa] S (wN y) y y y y y y y (lb y) fun a S=>?_)
  obtain ⟨bl,bm,h⟩:=bS h
  have S1:=S.mem
  refine sCq [.agg #[iv p0.W,iv p0.H,.slice a9 p0.Bits.length aa]] (.bool bl) S callee19 (S1.quiet [1] y) (fun E1 w1 S1=>c_raddlelaw17_fit E1 w1 p0 (.agg #[iv p0.W,iv p0.H,.slice a9 p0.Bits.length aa]) bl bm S1) fun a w S=>?_
  refine sNot (b:=bl) S (wN y) y y y (lb y) fun a S=>sM S fun a S=>?_
  rcases iS h with ⟨ao,h⟩ | ⟨ao,h⟩
  ·refine sSkN 2 3 false 15 S y y ao y fun a S=>sPickT (.bool true) S (wN y) y y ao y y (lb y) fun a S=>?_
   exact lT (⟨true,Option.some.inj h,S.fix [0] [0] (by decide) y y y⟩)
  refine sMove (.bool r8) S (wG 3 false 15 y y y ao) (.inl y) y y (lb y) fun a S=>sNot (b:=r8) S (wG 3 false 15 y y y ao) y y y (lb y) fun a S=>sPickF (.bool (!r8)) S (wN y) y y ao y y (lb y) fun a S=>?_
  exact lT (⟨!r8,Option.some.inj h,S.fix [0] [0] (by decide) y y y⟩)
 obtain ⟨bk,rfl,S⟩:=hI
 have h:=c8
 try dsimp only at h
 rcases iS h with ⟨az,h⟩ | ⟨az,h⟩
 ·refine sCondT S y az (sSeq (fun cq bn=>sRegion (sM S fun a S=>?_)))
  refine sN S fun a S=>?_
  refine lT (bn _ _ ?_)
  obtain rfl:=tS h
  exact wp_ret (rThen (sRet (.bool r8) S (rsl1 y (rvT (t:=2) (v:=.bool r8) S y)) ⟨(),y,S.mem.sel [] [] (by decide) y y⟩))
 refine sCondF S y az (wp_skip (leafT (bj _ _ ?_)))
 refine sSeq (fun cr bo=>sRegion (sLoadN (p:=b6) (off:=0) (T:=24) (vs:=[iv p0.W,iv p0.H,.slice a9 p0.Bits.length aa]) 0 [iv p0.W,iv p0.H,.slice a9 p0.Bits.length aa] S (wN y) y y y y y y y (lb y) fun a S=>?_))
 obtain ⟨a5,bp,h⟩:=bS h
 have S:=S.learn (fRep r_api_Grid (.agg #[iv p0.W,iv p0.H,.slice a9 p0.Bits.length aa]) p0) ⟨_,y,S.mem.know (i:=0) (e:=fRep (rL rB) (.slice a9 p0.Bits.length aa) p0.Bits) y⟩
 refine sCall (X:=Value) (f:=28) (vs:=[.agg #[iv p0.W,iv p0.H,.slice a9 p0.Bits.length aa]]) (val:=c_reduce_Costs_val a5) (B':=fun _=>[]) (D':=c_reduce_Costs_D a5) [] [eBox b6 24 [iv p0.W,iv p0.H,.slice a9 p0.Bits.length aa]] [fRep r_api_Grid (.agg #[iv p0.W,iv p0.H,.slice a9 p0.Bits.length aa]) p0] [0] [0] S (wN y) y callee28 y (by decide) y y (fun E1 w1 S1=>c_reduce_Costs E1 w1 p0 (.agg #[iv p0.W,iv p0.H,.slice a9 p0.Bits.length aa]) a5 bp S1) y (lb y) fun c9 a w S=>?_
 obtain ⟨a2,a3,_,rfl,_⟩:=S.mem.know (i:=0) (e:=fRep (rL (rI .i64)) (c9) a5.1) y
 refine sM S fun a S=>?_
 refine sExtract (vs:=[.slice a2 a5.1.length a3,iv a5.2]) (.slice a2 a5.1.length a3) S (wN y) y y y y (lb y) fun a S=>sExtract (vs:=[.slice a2 a5.1.length a3,iv a5.2]) (iv a5.2) S (wN y) y y y y (lb y) fun a S=>sN S fun a S=>?_
 refine sN S fun a S=>?_
 refine lT (bo _ _ (sSeq (fun ct bq=>sRegion (sLoadN (p:=b6) (off:=0) (T:=24) (vs:=[iv p0.W,iv p0.H,.slice a9 p0.Bits.length aa]) 0 [iv p0.W,iv p0.H,.slice a9 p0.Bits.length aa] S (wN y) y y y y y y y (lb y) fun a S=>?_))))
 obtain ⟨a7,br,h⟩:=bS h
 refine sCall (X:=Value) (f:=31) (vs:=[.agg #[iv p0.W,iv p0.H,.slice a9 p0.Bits.length aa]]) (val:=c_grid_Not_val a7) (B':=fun _=>[]) (D':=c_grid_Not_D a7) [] [eBox b6 24 [iv p0.W,iv p0.H,.slice a9 p0.Bits.length aa]] [fRep r_api_Grid (.agg #[iv p0.W,iv p0.H,.slice a9 p0.Bits.length aa]) p0] [0] [1] S (wN y) y callee31 y (by decide) y y (fun E1 w1 S1=>c_grid_Not E1 w1 p0 (.agg #[iv p0.W,iv p0.H,.slice a9 p0.Bits.length aa]) a7 br S1) y (lb y) fun ca a w S=>?_
 obtain ⟨cc,rfl,aK⟩:=S.mem.know (i:=0) (e:=fRep r_api_Grid (ca) a7.1) y
 have S:=S.learn (fRep (rL rB) cc a7.1.Bits) aK
 obtain ⟨ac,ae,_,rfl,_⟩:=aK
 refine sM S fun a S=>?_
 refine sExtract (vs:=[.agg #[iv a7.1.W,iv a7.1.H,.slice ac a7.1.Bits.length ae],iv a7.2]) (.agg #[iv a7.1.W,iv a7.1.H,.slice ac a7.1.Bits.length ae]) S (wN y) y y y y (lb y) fun a S=>sExtract (vs:=[.agg #[iv a7.1.W,iv a7.1.H,.slice ac a7.1.Bits.length ae],iv a7.2]) (iv a7.2) S (wN y) y y y y (lb y) fun a S=>sAlloc (.agg #[iv 0,iv 0,.slice none 0 0]) S (wN y) y y [iv 0,iv 0,.slice none 0 0] y y (lb y) fun a aJ w S=>sStore (p:=aJ) (off:=0) (T:=24) (vs:=[iv 0,iv 0,.slice none 0 0]) (v:=.agg #[iv a7.1.W,iv a7.1.H,.slice ac a7.1.Bits.length ae]) 0 [iv a7.1.W,iv a7.1.H,.slice ac a7.1.Bits.length ae] S (wN y) y y y y y y y (by simp) y fun a w S=>sN S fun a S=>?_
 refine lT (bq _ _ (sSeq (fun cu bt=>?_)))
 obtain ⟨cd,h,ce⟩:=bS h
 refine sCut (fun a w=>∃ bu,bu=cd∧St [] E [] w0 104 a w [(1,.pointer (some ⟨b6,0,none⟩)),(3,.bool r8),(4,.slice a2 a5.1.length a3),(6,.pointer (some ⟨aJ,0,none⟩)),(47,.bool bu)] [eBox b6 24 [iv p0.W,iv p0.H,.slice a9 p0.Bits.length aa],eBox aJ 24 [iv a7.1.W,iv a7.1.H,.slice ac a7.1.Bits.length ae]] [fRep (rL (rI .i64)) (.slice a2 a5.1.length a3) a5.1,fRep (rL rB) (.slice a9 p0.Bits.length aa) p0.Bits,fRep (rL rB) (.slice ac a7.1.Bits.length ae) a7.1.Bits]) ?_ (fun a w hI=>?_)
 ·refine sRegion (sM S fun a S=>?_)
  refine sBin _ S (wN y) y y y (bNe _ _ _ _ .i64 a5.2 0) y (lb y) fun a S=>sM S fun a S=>?_
  rcases iS h with ⟨ap,h⟩ | ⟨ap,h⟩
  ·refine sSkN 2 2 false 32 S y y ap y fun a S=>sPickT (.bool true) S (wN y) y y ap y y (lb y) fun a S=>sM S fun a S=>?_
   refine sSkN 5 6 false 36 S y y y y fun a S=>sPickT (.bool true) S (wN y) y y y y y (lb y) fun a S=>sM S fun a S=>?_
   refine sSkN 3 13 false 43 S y y y y fun a S=>sPickT (.bool true) S (wN y) y y y y y (lb y) fun a S=>?_
   exact lT (⟨true,Option.some.inj h,S.fix [1,0] [2,4,0] (by decide) y y y⟩)
  refine sMove (iv a7.2) S (wG 2 false 32 y y y ap) (.inl y) y y (lb y) fun a S=>sBin _ S (wG 2 false 32 y y y ap) y y y (bNe _ _ _ _ .i64 a7.2 0) y (lb y) fun a S=>sPickF (.bool (a7.2 != 0)) S (wN y) y y ap y y (lb y) fun a S=>sM S fun a S=>?_
  rcases iS h with ⟨ai,h⟩ | ⟨ai,h⟩
  ·refine sSkN 5 6 false 36 S y y ai y fun a S=>sPickT (.bool true) S (wN y) y y ai y y (lb y) fun a S=>sM S fun a S=>?_
   refine sSkN 3 13 false 43 S y y y y fun a S=>sPickT (.bool true) S (wN y) y y y y y (lb y) fun a S=>?_
   exact lT (⟨true,Option.some.inj h,S.fix [1,0] [2,4,0] (by decide) y y y⟩)
  refine sMove (.slice a2 a5.1.length a3) S (wG 6 false 36 y y y ai) (.inl y) y y (lb y) fun a S=>sLen S (wG 6 false 36 y y y ai) y Try.underlying25 y y (lb y) fun a S=>sField (b:=b6) (off:=0) 0 0 S (wG 6 false 36 y y y ai) y y y y y (lb y) fun a S=>sLoad1 1 (iv p0.W) S (wG 6 false 36 y y y ai) y y y y y y (lb y) fun a S=>sBin _ S (wG 6 false 36 y y y ai) y y y (bNe _ _ _ _ .i64 (a5.1.length:Int) p0.W) y (lb y) fun a S=>sPickF (.bool ((a5.1.length:Int) != p0.W)) S (wN y) y y ai y y (lb y) fun a S=>sM S fun a S=>?_
  rcases iS h with ⟨al,h⟩ | ⟨al,h⟩
  ·refine sSkN 3 13 false 43 S y y al y fun a S=>sPickT (.bool true) S (wN y) y y al y y (lb y) fun a S=>?_
   exact lT (⟨true,Option.some.inj h,S.fix [1,0] [2,4,0] (by decide) y y y⟩)
  refine sLoadN (p:=aJ) (off:=0) (T:=24) (vs:=[iv a7.1.W,iv a7.1.H,.slice ac a7.1.Bits.length ae]) 0 [iv a7.1.W,iv a7.1.H,.slice ac a7.1.Bits.length ae] S (wG 13 false 43 y y y al) y y y y y y y (lb y) fun a S=>?_
  obtain ⟨aL,bv,h⟩:=bS h
  have S1:=S.mem
  refine sCallQ (X:=Unit) (f:=19) (vs:=[.agg #[iv a7.1.W,iv a7.1.H,.slice ac a7.1.Bits.length ae]]) (val:=fun _=>.bool aL) S (wG 13 false 43 y y y al) y callee19 y (S1.quiet [1] y) (fun E1 w1 S1=>c_raddlelaw17_fit E1 w1 a7.1 (.agg #[iv a7.1.W,iv a7.1.H,.slice ac a7.1.Bits.length ae]) aL bv S1) y (lb y) fun _ a w S=>?_
  refine sNot (b:=aL) S (wG 13 false 43 y y y al) y y y (lb y) fun a S=>sPickF (.bool (!aL)) S (wN y) y y al y y (lb y) fun a S=>?_
  exact lT (⟨!aL,Option.some.inj h,S.fix [1,0] [2,4,0] (by decide) y y y⟩)
 obtain ⟨bu,rfl,S⟩:=hI
 have h:=ce
 try dsimp only at h
 rcases iS h with ⟨aA,h⟩ | ⟨aA,h⟩
 ·refine sCondT S y aA (sSeq (fun cv bw=>sRegion (sN S fun a S=>?_)))
  refine lT (bw _ _ ?_)
  obtain rfl:=tS h
  exact wp_ret (rThen (sRet (.bool false) S (rsl1 y (rvT (t:=2) (v:=.bool false) S y)) ⟨(),y,S.mem.sel [] [] (by decide) y y⟩))
 refine sCondF S y aA (wp_skip (leafT (bt _ _ ?_)))
 refine sSeq (fun cw bx=>sRegion (sLoadN (p:=aJ) (off:=0) (T:=24) (vs:=[iv a7.1.W,iv a7.1.H,.slice ac a7.1.Bits.length ae]) 1 [iv a7.1.W,iv a7.1.H,.slice ac a7.1.Bits.length ae] S (wN y) y y y y y y y (lb y) fun a S=>?_))
 obtain ⟨am,bz,h⟩:=bS h
 have S:=S.learn (fRep r_api_Grid (.agg #[iv a7.1.W,iv a7.1.H,.slice ac a7.1.Bits.length ae]) a7.1) ⟨_,y,S.mem.know (i:=2) (e:=fRep (rL rB) (.slice ac a7.1.Bits.length ae) a7.1.Bits) y⟩
 refine sCall (X:=Value) (f:=28) (vs:=[.agg #[iv a7.1.W,iv a7.1.H,.slice ac a7.1.Bits.length ae]]) (val:=c_reduce_Costs_val am) (B':=fun _=>[]) (D':=c_reduce_Costs_D am) [] [eBox b6 24 [iv p0.W,iv p0.H,.slice a9 p0.Bits.length aa],eBox aJ 24 [iv a7.1.W,iv a7.1.H,.slice ac a7.1.Bits.length ae]] [fRep r_api_Grid (.agg #[iv a7.1.W,iv a7.1.H,.slice ac a7.1.Bits.length ae]) a7.1] [0,1] [0] S (wN y) y callee28 y (by decide) y y (fun E1 w1 S1=>c_reduce_Costs E1 w1 a7.1 (.agg #[iv a7.1.W,iv a7.1.H,.slice ac a7.1.Bits.length ae]) am bz S1) y (lb y) fun cg a w S=>?_
 obtain ⟨aq,ar,_,rfl,_⟩:=S.mem.know (i:=0) (e:=fRep (rL (rI .i64)) (cg) am.1) y
 refine sM S fun a S=>?_
 refine sExtract (vs:=[.slice aq am.1.length ar,iv am.2]) (.slice aq am.1.length ar) S (wN y) y y y y (lb y) fun a S=>sExtract (vs:=[.slice aq am.1.length ar,iv am.2]) (iv am.2) S (wN y) y y y y (lb y) fun a S=>sN S fun a S=>?_
 refine sN S fun a S=>?_
 refine lT (bx _ _ (sSeq (fun cx bA=>?_)))
 obtain ⟨ci,h,cj⟩:=bS h
 refine sCut (fun a w=>∃ bB,bB=ci∧St [] E [] w0 104 a w [(1,.pointer (some ⟨b6,0,none⟩)),(3,.bool r8),(4,.slice a2 a5.1.length a3),(60,.bool bB)] [eBox b6 24 [iv p0.W,iv p0.H,.slice a9 p0.Bits.length aa]] [fRep (rL (rI .i64)) (.slice a2 a5.1.length a3) a5.1,fRep (rL rB) (.slice a9 p0.Bits.length aa) p0.Bits]) ?_ (fun a w hI=>?_)
 ·refine sRegion (sM S fun a S=>?_)
  refine sBin _ S (wN y) y y y (bNe _ _ _ _ .i64 am.2 0) y (lb y) fun a S=>sM S fun a S=>?_
  rcases iS h with ⟨aj,h⟩ | ⟨aj,h⟩
  ·refine sSkN 4 2 false 55 S y y aj y fun a S=>sPickT (.bool true) S (wN y) y y aj y y (lb y) fun a S=>?_
   exact lT (⟨true,Option.some.inj h,S.fix [0] [2,3] (by decide) y y y⟩)
  refine sMove (.slice a2 a5.1.length a3) S (wG 2 false 55 y y y aj) (.inl y) y y (lb y) fun a S=>sMove (.slice aq am.1.length ar) S (wG 2 false 55 y y y aj) (.inl y) y y (lb y) fun a S=>?_
  obtain ⟨aM,bC,h⟩:=bS h
  have S1:=S.mem
  refine sCallQ (X:=Unit) (f:=17) (vs:=[.slice a2 a5.1.length a3,.slice aq am.1.length ar]) (val:=fun _=>.bool aM) S (wG 2 false 55 y y y aj) y callee17 y (S1.quiet [2,0] y) (fun E1 w1 S1=>c_raddleref02_Same E1 w1 a5.1 (.slice a2 a5.1.length a3) am.1 (.slice aq am.1.length ar) aM bC S1) y (lb y) fun _ a w S=>?_
  refine sNot (b:=aM) S (wG 2 false 55 y y y aj) y y y (lb y) fun a S=>sPickF (.bool (!aM)) S (wN y) y y aj y y (lb y) fun a S=>?_
  exact lT (⟨!aM,Option.some.inj h,S.fix [0] [2,3] (by decide) y y y⟩)
 obtain ⟨bB,rfl,S⟩:=hI
 have h:=cj
 try dsimp only at h
 rcases iS h with ⟨aC,h⟩ | ⟨aC,h⟩
 ·refine sCondT S y aC (sSeq (fun cy bD=>sRegion (sN S fun a S=>?_)))
  refine lT (bD _ _ ?_)
  obtain rfl:=tS h
  exact wp_ret (rThen (sRet (.bool false) S (rsl1 y (rvT (t:=2) (v:=.bool false) S y)) ⟨(),y,S.mem.sel [] [] (by decide) y y⟩))
 refine sCondF S y aC (wp_skip (leafT (bA _ _ ?_)))
 obtain ⟨ck,h,bQ⟩:=bS h
 refine sCut (fun a w=>.inl ()=ck∧St [] E [] w0 104 a w [(3,.bool r8)] [] []) ?_ (fun a w hI=>?_)
 rotate_left
 ·obtain ⟨rfl,S⟩:=hI
  have h:=bQ
  try dsimp only at h
  refine sSeq (fun cl aO=>sRegion (sM S fun a S=>?_))
  refine sN S fun a S=>?_
  refine lT (aO _ _ ?_)
  obtain rfl:=tS h
  exact wp_ret (sRet (.bool r8) S (rsl1 y (rvT (t:=2) (v:=.bool r8) S y)) ⟨(),y,S.mem.sel [] [] (by decide) y y⟩)
 refine sSeq (fun cz bE=>sRegion (sN S fun a S=>?_))
 refine lT (bE _ _ (wp_block ?_))
 obtain ⟨cA,hl,bR⟩:=bS h
 refine sLoop hl (fun s0 a w=>match s0 with | a0=>St [] E [] w0 104 a w [(1,.pointer (some ⟨b6,0,none⟩)),(3,.bool r8),(4,.slice a2 a5.1.length a3),(10,iv a0)] [eBox b6 24 [iv p0.W,iv p0.H,.slice a9 p0.Bits.length aa]] [fRep (rL (rI .i64)) (.slice a2 a5.1.length a3) a5.1,fRep (rL rB) (.slice a9 p0.Bits.length aa) p0.Bits]) (S.fix [0] [0,1] (by decide) y y y) ?_
 clear hl h
 intro a0 a w c0 hI h aP
 unfold raddlelaw17_ReduceCosts_l1 at h
 dsimp only at h hI
 have S:=hI
 refine sSeq (fun cB bG=>sSeq (fun cC bH=>sRegion (sM S fun a S=>?_)))
 refine sM S fun a S=>?_
 refine sLen S (wN y) y Try.underlying25 y y (lb y) fun a S=>sBin _ S (wN y) y y y (bLe _ _ _ _ .i64 a0 (a5.1.length:Int)) y (lb y) fun a S=>lT (bH _ _ ?_)
 rcases iS h with ⟨aG,h⟩ | ⟨aG,h⟩
 rotate_left
 ·refine sCondF S y aG ?_
  obtain rfl:=tS h
  obtain rfl:=aP _ y
  have h:=bR
  try dsimp only at h
  exact wp_exit (xThen (xThen (xHit (leafT (⟨Option.some.inj h,S.fix [] [] (by decide) y y y⟩)))))
 refine sCondT S y aG (wp_skip (leafT (bG _ _ ?_)))
 refine sSeq (fun cD bI=>wp_block ?_)
 obtain ⟨cm,h,cn⟩:=bS h
 refine sCut (fun a w=>∃ bJ,bJ=cm∧St [] E [] w0 104 a w [(1,.pointer (some ⟨b6,0,none⟩)),(3,.bool r8),(4,.slice a2 a5.1.length a3),(10,iv a0),(102,.bool bJ)] [eBox b6 24 [iv p0.W,iv p0.H,.slice a9 p0.Bits.length aa]] [fRep (rL (rI .i64)) (.slice a2 a5.1.length a3) a5.1,fRep (rL rB) (.slice a9 p0.Bits.length aa) p0.Bits]) ?_ (fun a w hI=>?_)
 rotate_left
 ·obtain ⟨bJ,rfl,S⟩:=hI
  have h:=cn
  try dsimp only at h
  rcases iS h with ⟨au,h⟩ | ⟨au,h⟩
  rotate_left
  ·refine sCondF S y au (wp_skip (leafB (leafT (bI _ _ ?_))))
   refine sRegion (sM S fun a S=>?_)
   refine sBin _ S (wN y) y y y (bAdd _ _ _ _ a0 1) y (lb y) fun a S=>sN S fun a S=>?_
   exact lT (⟨w64 (a0 + 1),(Option.some.inj h).symm,(S.fix [0] [0,1] (by decide) y y y)⟩)
  refine sCondT S y au (sSeq (fun co aQ=>sRegion (sN S fun a S=>?_)))
  refine lT (aQ _ _ ?_)
  obtain rfl:=tS h
  obtain rfl:=aP _ y
  have h:=bR
  try dsimp only at h
  obtain rfl:=tS h
  have h:=bQ
  try dsimp only at h
  obtain rfl:=tS h
  exact wp_ret (rBlock (rThen (rThen (rBlock (rThen (sRet (.bool false) S (rsl1 y (rvT (t:=2) (v:=.bool false) S y)) ⟨(),y,S.mem.sel [] [] (by decide) y y⟩))))))
 obtain ⟨a4,ak,h⟩:=bS h
 rcases iS h with ⟨ab,h⟩ | ⟨ab,h⟩
 ·obtain ⟨bK,bL,S⟩:=pIdx (P:=Try.prog) (r:=(rI .i64)) (v:=.slice a2 a5.1.length a3) (xs:=a5.1) (j:=w64 (a0 - 1)) 25 3 0 S Try.underlying25 y y ak
  obtain ⟨bU,S⟩:=pLoad (r:=(rI .i64)) (q:=bK) (x:=a4) 0 S y
  obtain rfl:bU=iv a4:=S.mem.know (i:=1) (e:=fRep (rI .i64) (bU) a4) y
  refine sDraw (nf:=[]) (W:=[(0,67,.slice a2 a5.1.length a3),(1,68,iv a0),(2,69,iv (w64 (a0 - 1))),(3,70,bK),(4,71,iv a4),(5,72,.bool (decide (a4 < 0))),(6,73,.bool (decide (a4 < 0))),(7,74,undef),(8,75,undef),(9,76,undef),(10,77,undef),(11,78,undef),(12,79,undef),(13,80,undef),(14,81,undef),(15,82,undef),(16,83,undef),(17,84,undef),(18,85,undef),(19,86,undef),(20,87,undef),(21,88,undef),(22,89,.bool true),(23,90,.bool true),(24,91,undef),(25,92,undef),(26,93,undef),(27,94,undef),(28,95,undef),(29,96,undef),(30,97,undef),(31,98,undef),(32,99,undef),(33,100,undef),(34,101,undef),(35,102,.bool true)]) y S ?_
  refine node_by (A:=anc_raddlelaw17_ReduceCosts_0) 36 (by kernel_rfl) (by kernel_rfl) (by kernel_rfl) (by kernel_rfl) (by kernel_rfl) [0,1,2,3,4,5,6,7,8,9,10,11,12,13,14,15,16,17,18,19,20,21,22,23,24,25,26,27,28,29,30,31,32,33,34,35] (by kernel_rfl) (by decide) (by decide) (fF ?_ (fF ?_ (fF ?_ (fF ?_ (fF ?_ (fF ?_ (fF ?_ (fF ?_ (fF ?_ (fF ?_ (fF ?_ (fF ?_ (fF ?_ (fF ?_ (fF ?_ (fF ?_ (fF ?_ (fF ?_ (fF ?_ (fF ?_ (fF ?_ (fF ?_ (fF ?_ (fF ?_ (fF ?_ (fF ?_ (fF ?_ (fF ?_ (fF ?_ (fF ?_ (fF ?_ (fF ?_ (fF ?_ (fF ?_ (fF ?_ (fF ?_ (trivial))))))))))))))))))))))))))))))))))))) [(1,.pointer (some ⟨b6,0,none⟩)),(3,.bool r8),(4,.slice a2 a5.1.length a3),(10,iv a0),(74,undef),(75,undef),(76,undef),(77,undef),(78,undef),(79,undef),(80,undef),(81,undef),(82,undef),(83,undef),(84,undef),(85,undef),(86,undef),(87,undef),(88,undef),(91,undef),(92,undef),(93,undef),(94,undef),(95,undef),(96,undef),(97,undef),(98,undef),(99,undef),(100,undef),(101,undef),(102,.bool true)] (fin_of [none,none,none,none,some 7,some 8,some 9,some 10,some 11,some 12,some 13,some 14,some 15,some 16,some 17,some 18,some 19,some 20,some 21,some 24,some 25,some 26,some 27,some 28,some 29,some 30,some 31,some 32,some 33,some 34,some 35] y (by kernel_rfl) (by kernel_rfl)) (fun _ a w S=>?_)
  ·exact fM 0 none y y y y (.inl y) y y y
  ·exact fM 1 none y y y y (.inl y) y y y
  ·refine fJ [(68,_)] 2 [some 1] fun G a w S=>?_
   exact sBin _ S (wN y) y y y (bSub _ _ _ _ a0 1) y (lb y) fun a S=>leafL ⟨y,S⟩
  ·refine fJ [(67,_),(69,_)] 3 [some 0,some 2] fun G a w S=>?_
   exact sIdxV S (wN y) y y y bL y (lb y) fun a S=>leafL ⟨y,S⟩
  ·refine fJ [(70,_)] 4 [some 3] fun G a w S=>?_
   exact sLoadV1 (vq:=bK) 0 (iv a4) S (wN y) y y y y y (lb y) fun a S=>leafL ⟨y,S⟩
  ·refine fJ [(71,_)] 5 [some 4] fun G a w S=>?_
   exact sBin _ S (wN y) y y y (bLt _ _ _ _ .i64 a4 0) y (lb y) fun a S=>leafL ⟨y,S⟩
  ·exact fM 6 (some 5) y y y y (.inl y) y y y
  ·refine fJ [(10,_),(73,_)] 7 [none,some 6] fun G a w S=>?_
   exact sSk S y y y ab y y fun a S=>leafL ⟨y,S⟩
  ·refine fJ [(74,_),(73,_)] 8 [some 7,some 6] fun G a w S=>?_
   exact sSk S y y y ab y y fun a S=>leafL ⟨y,S⟩
  ·refine fJ [(75,_),(73,_)] 9 [some 8,some 6] fun G a w S=>?_
   exact sSk S y y y ab y y fun a S=>leafL ⟨y,S⟩
  ·refine fJ [(4,_),(76,_)] 10 [none,some 9] fun G a w S=>?_
   exact sSkipU 9 true 76 77 S y y y y (lb y) fun a S=>leafL ⟨y,S⟩
  ·refine fJ [(10,_),(76,_)] 11 [none,some 9] fun G a w S=>?_
   exact sSkipU 9 true 76 78 S y y y y (lb y) fun a S=>leafL ⟨y,S⟩
  ·refine fJ [(78,_),(76,_)] 12 [some 11,some 9] fun G a w S=>?_
   exact sSkipU 9 true 76 79 S y y y y (lb y) fun a S=>leafL ⟨y,S⟩
  ·refine fJ [(77,_),(79,_),(76,_)] 13 [some 10,some 12,some 9] fun G a w S=>?_
   exact sSkipU 9 true 76 80 S y y y y (lb y) fun a S=>leafL ⟨y,S⟩
  ·refine fJ [(80,_),(76,_)] 14 [some 13,some 9] fun G a w S=>?_
   exact sSkipU 9 true 76 81 S y y y y (lb y) fun a S=>leafL ⟨y,S⟩
  ·refine fJ [(4,_),(76,_)] 15 [none,some 9] fun G a w S=>?_
   exact sSkipU 9 true 76 82 S y y y y (lb y) fun a S=>leafL ⟨y,S⟩
  ·refine fJ [(10,_),(76,_)] 16 [none,some 9] fun G a w S=>?_
   exact sSkipU 9 true 76 83 S y y y y (lb y) fun a S=>leafL ⟨y,S⟩
  ·refine fJ [(83,_),(76,_)] 17 [some 16,some 9] fun G a w S=>?_
   exact sSkipU 9 true 76 84 S y y y y (lb y) fun a S=>leafL ⟨y,S⟩
  ·refine fJ [(82,_),(84,_),(76,_)] 18 [some 15,some 17,some 9] fun G a w S=>?_
   exact sSkipU 9 true 76 85 S y y y y (lb y) fun a S=>leafL ⟨y,S⟩
  ·refine fJ [(85,_),(76,_)] 19 [some 18,some 9] fun G a w S=>?_
   exact sSkipU 9 true 76 86 S y y y y (lb y) fun a S=>leafL ⟨y,S⟩
  ·refine fJ [(81,_),(86,_),(76,_)] 20 [some 14,some 19,some 9] fun G a w S=>?_
   exact sSkipU 9 true 76 87 S y y y y (lb y) fun a S=>leafL ⟨y,S⟩
  ·refine fJ [(76,_),(87,_),(73,_)] 21 [some 9,some 20,some 6] fun G a w S=>?_
   exact sSk S y y y ab y y fun a S=>leafL ⟨y,S⟩
  ·refine fJ [(73,_),(88,_)] 22 [some 6,some 21] fun G a w S=>?_
   exact sPickT (.bool true) S (wN y) y y ab y y (lb y) fun a S=>leafL ⟨y,S⟩
  ·exact fM 23 (some 22) y y y y (.inl y) y y y
  ·refine fJ [(4,_),(90,_)] 24 [none,some 23] fun G a w S=>?_
   exact sSk S y y y y y y fun a S=>leafL ⟨y,S⟩
  ·refine fJ [(10,_),(90,_)] 25 [none,some 23] fun G a w S=>?_
   exact sSk S y y y y y y fun a S=>leafL ⟨y,S⟩
  ·refine fJ [(92,_),(90,_)] 26 [some 25,some 23] fun G a w S=>?_
   exact sSk S y y y y y y fun a S=>leafL ⟨y,S⟩
  ·refine fJ [(91,_),(93,_),(90,_)] 27 [some 24,some 26,some 23] fun G a w S=>?_
   exact sSk S y y y y y y fun a S=>leafL ⟨y,S⟩
  ·refine fJ [(94,_),(90,_)] 28 [some 27,some 23] fun G a w S=>?_
   exact sSk S y y y y y y fun a S=>leafL ⟨y,S⟩
  ·refine fJ [(95,_),(90,_)] 29 [some 28,some 23] fun G a w S=>?_
   exact sSk S y y y y y y fun a S=>leafL ⟨y,S⟩
  ·refine fJ [(10,_),(90,_)] 30 [none,some 23] fun G a w S=>?_
   exact sSk S y y y y y y fun a S=>leafL ⟨y,S⟩
  ·refine fJ [(1,_),(90,_)] 31 [none,some 23] fun G a w S=>?_
   exact sSk S y y y y y y fun a S=>leafL ⟨y,S⟩
  ·refine fJ [(98,_),(90,_)] 32 [some 31,some 23] fun G a w S=>?_
   exact sSk S y y y y y y fun a S=>leafL ⟨y,S⟩
  ·refine fJ [(97,_),(99,_),(90,_)] 33 [some 30,some 32,some 23] fun G a w S=>?_
   exact sSk S y y y y y y fun a S=>leafL ⟨y,S⟩
  ·refine fJ [(96,_),(100,_),(90,_)] 34 [some 29,some 33,some 23] fun G a w S=>?_
   exact sSk S y y y y y y fun a S=>leafL ⟨y,S⟩
  ·refine fJ [(90,_),(101,_)] 35 [some 23,some 34] fun G a w S=>?_
   exact sPickT (.bool true) S (wN y) y y y y y (lb y) fun a S=>leafL ⟨y,S⟩
  exact leafT (⟨true,Option.some.inj h,S.fix [0] [3,4] (by decide) y y y⟩)
 rcases iS h with ⟨a6,h⟩ | ⟨a6,h⟩
 rotate_left
 ·obtain ⟨ag,aR,h⟩:=bS h
  obtain ⟨aH,aS,S⟩:=pIdx (P:=Try.prog) (r:=(rI .i64)) (v:=.slice a2 a5.1.length a3) (xs:=a5.1) (j:=w64 (a0 - 1)) 25 3 0 S Try.underlying25 y y ak
  obtain ⟨aT,S⟩:=pLoad (r:=(rI .i64)) (q:=aH) (x:=a4) 0 S y
  obtain rfl:aT=iv a4:=S.mem.know (i:=1) (e:=fRep (rI .i64) (aT) a4) y
  obtain ⟨av,aU,S⟩:=pIdx (P:=Try.prog) (r:=(rI .i64)) (v:=.slice a2 a5.1.length a3) (xs:=a5.1) (j:=w64 (a0 - 1)) 25 3 3 S Try.underlying25 y y ak
  obtain ⟨aV,S⟩:=pLoad (r:=(rI .i64)) (q:=av) (x:=a4) 0 S y
  obtain rfl:aV=iv a4:=S.mem.know (i:=1) (e:=fRep (rI .i64) (aV) a4) y
  refine sDraw (nf:=[]) (W:=[(0,67,.slice a2 a5.1.length a3),(1,68,iv a0),(2,69,iv (w64 (a0 - 1))),(3,70,aH),(4,71,iv a4),(5,72,.bool (decide (a4 < 0))),(6,73,.bool (decide (a4 < 0))),(7,74,iv a0),(8,75,.bool (decide (1 < a0))),(9,76,.bool (decide (1 < a0))),(10,77,undef),(11,78,undef),(12,79,undef),(13,80,undef),(14,81,undef),(15,82,undef),(16,83,undef),(17,84,undef),(18,85,undef),(19,86,undef),(20,87,undef),(21,88,.bool false),(22,89,.bool false),(23,90,.bool false),(24,91,.slice a2 a5.1.length a3),(25,92,iv a0),(26,93,iv (w64 (a0 - 1))),(27,94,av),(28,95,iv a4),(29,96,.bool (a4 == 0)),(30,97,iv a0),(31,98,.agg #[iv p0.W,iv p0.H,.slice a9 p0.Bits.length aa]),(32,99,iv ag),(33,100,.bool (decide (ag ≤ a0))),(34,101,.bool ((a4 == 0) != (decide (ag ≤ a0)))),(35,102,.bool ((a4 == 0) != (decide (ag ≤ a0))))]) y S ?_
  refine node_by (A:=anc_raddlelaw17_ReduceCosts_0) 36 (by kernel_rfl) (by kernel_rfl) (by kernel_rfl) (by kernel_rfl) (by kernel_rfl) [0,1,2,3,4,5,6,7,8,9,10,11,12,13,14,15,16,17,18,19,20,21,22,23,24,25,26,27,28,29,30,31,32,33,34,35] (by kernel_rfl) (by decide) (by decide) (fF ?_ (fF ?_ (fF ?_ (fF ?_ (fF ?_ (fF ?_ (fF ?_ (fF ?_ (fF ?_ (fF ?_ (fF ?_ (fF ?_ (fF ?_ (fF ?_ (fF ?_ (fF ?_ (fF ?_ (fF ?_ (fF ?_ (fF ?_ (fF ?_ (fF ?_ (fF ?_ (fF ?_ (fF ?_ (fF ?_ (fF ?_ (fF ?_ (fF ?_ (fF ?_ (fF ?_ (fF ?_ (fF ?_ (fF ?_ (fF ?_ (fF ?_ (trivial))))))))))))))))))))))))))))))))))))) [(1,.pointer (some ⟨b6,0,none⟩)),(3,.bool r8),(4,.slice a2 a5.1.length a3),(10,iv a0),(74,iv a0),(75,.bool (decide (1 < a0))),(76,.bool (decide (1 < a0))),(77,undef),(78,undef),(79,undef),(80,undef),(81,undef),(82,undef),(83,undef),(84,undef),(85,undef),(86,undef),(87,undef),(88,.bool false),(91,.slice a2 a5.1.length a3),(92,iv a0),(93,iv (w64 (a0 - 1))),(94,av),(95,iv a4),(96,.bool (a4 == 0)),(97,iv a0),(98,.agg #[iv p0.W,iv p0.H,.slice a9 p0.Bits.length aa]),(99,iv ag),(100,.bool (decide (ag ≤ a0))),(101,.bool ((a4 == 0) != (decide (ag ≤ a0)))),(102,.bool ((a4 == 0) != (decide (ag ≤ a0))))] (fin_of [none,none,none,none,some 7,some 8,some 9,some 10,some 11,some 12,some 13,some 14,some 15,some 16,some 17,some 18,some 19,some 20,some 21,some 24,some 25,some 26,some 27,some 28,some 29,some 30,some 31,some 32,some 33,some 34,some 35] y (by kernel_rfl) (by kernel_rfl)) (fun _ a w S=>?_)
  ·exact fM 0 none y y y y (.inl y) y y y
  ·exact fM 1 none y y y y (.inl y) y y y
  ·refine fJ [(68,_)] 2 [some 1] fun G a w S=>?_
   exact sBin _ S (wN y) y y y (bSub _ _ _ _ a0 1) y (lb y) fun a S=>leafL ⟨y,S⟩
  ·refine fJ [(67,_),(69,_)] 3 [some 0,some 2] fun G a w S=>?_
   exact sIdxV S (wN y) y y y aS y (lb y) fun a S=>leafL ⟨y,S⟩
  ·refine fJ [(70,_)] 4 [some 3] fun G a w S=>?_
   exact sLoadV1 (vq:=aH) 3 (iv a4) S (wN y) y y y y y (lb y) fun a S=>leafL ⟨y,S⟩
  ·refine fJ [(71,_)] 5 [some 4] fun G a w S=>?_
   exact sBin _ S (wN y) y y y (bLt _ _ _ _ .i64 a4 0) y (lb y) fun a S=>leafL ⟨y,S⟩
  ·exact fM 6 (some 5) y y y y (.inl y) y y y
  ·refine fJ [(10,_),(73,_)] 7 [none,some 6] fun G a w S=>?_
   exact sMove (iv a0) S (wG 6 false 73 y y y ab) (.inl y) y y (lb y) fun a S=>leafL ⟨y,S⟩
  ·refine fJ [(74,_),(73,_)] 8 [some 7,some 6] fun G a w S=>?_
   exact sBin _ S (wG 6 false 73 y y y ab) y y y (bGt _ _ _ _ .i64 a0 1) y (lb y) fun a S=>leafL ⟨y,S⟩
  ·refine fJ [(75,_),(73,_)] 9 [some 8,some 6] fun G a w S=>?_
   exact sMove (.bool (decide (1 < a0))) S (wG 6 false 73 y y y ab) (.inl y) y y (lb y) fun a S=>leafL ⟨y,S⟩
  ·refine fJ [(4,_),(76,_)] 10 [none,some 9] fun G a w S=>?_
   exact sSk S y y y a6 y y fun a S=>leafL ⟨y,S⟩
  ·refine fJ [(10,_),(76,_)] 11 [none,some 9] fun G a w S=>?_
   exact sSk S y y y a6 y y fun a S=>leafL ⟨y,S⟩
  ·refine fJ [(78,_),(76,_)] 12 [some 11,some 9] fun G a w S=>?_
   exact sSk S y y y a6 y y fun a S=>leafL ⟨y,S⟩
  ·refine fJ [(77,_),(79,_),(76,_)] 13 [some 10,some 12,some 9] fun G a w S=>?_
   exact sSk S y y y a6 y y fun a S=>leafL ⟨y,S⟩
  ·refine fJ [(80,_),(76,_)] 14 [some 13,some 9] fun G a w S=>?_
   exact sSk S y y y a6 y y fun a S=>leafL ⟨y,S⟩
  ·refine fJ [(4,_),(76,_)] 15 [none,some 9] fun G a w S=>?_
   exact sSk S y y y a6 y y fun a S=>leafL ⟨y,S⟩
  ·refine fJ [(10,_),(76,_)] 16 [none,some 9] fun G a w S=>?_
   exact sSk S y y y a6 y y fun a S=>leafL ⟨y,S⟩
  ·refine fJ [(83,_),(76,_)] 17 [some 16,some 9] fun G a w S=>?_
   exact sSk S y y y a6 y y fun a S=>leafL ⟨y,S⟩
  ·refine fJ [(82,_),(84,_),(76,_)] 18 [some 15,some 17,some 9] fun G a w S=>?_
   exact sSk S y y y a6 y y fun a S=>leafL ⟨y,S⟩
  ·refine fJ [(85,_),(76,_)] 19 [some 18,some 9] fun G a w S=>?_
   exact sSk S y y y a6 y y fun a S=>leafL ⟨y,S⟩
  ·refine fJ [(81,_),(86,_),(76,_)] 20 [some 14,some 19,some 9] fun G a w S=>?_
   exact sSk S y y y a6 y y fun a S=>leafL ⟨y,S⟩
  ·refine fJ [(76,_),(87,_),(73,_)] 21 [some 9,some 20,some 6] fun G a w S=>?_
   exact sPickF (.bool false) S (wG 6 false 73 y y y ab) y y a6 y y (lb y) fun a S=>leafL ⟨y,S⟩
  ·refine fJ [(73,_),(88,_)] 22 [some 6,some 21] fun G a w S=>?_
   exact sPickF (.bool false) S (wN y) y y ab y y (lb y) fun a S=>leafL ⟨y,S⟩
  ·exact fM 23 (some 22) y y y y (.inl y) y y y
  ·refine fJ [(4,_),(90,_)] 24 [none,some 23] fun G a w S=>?_
   exact sMove (.slice a2 a5.1.length a3) S (wG 23 false 90 y y y y) (.inl y) y y (lb y) fun a S=>leafL ⟨y,S⟩
  ·refine fJ [(10,_),(90,_)] 25 [none,some 23] fun G a w S=>?_
   exact sMove (iv a0) S (wG 23 false 90 y y y y) (.inl y) y y (lb y) fun a S=>leafL ⟨y,S⟩
  ·refine fJ [(92,_),(90,_)] 26 [some 25,some 23] fun G a w S=>?_
   exact sBin _ S (wG 23 false 90 y y y y) y y y (bSub _ _ _ _ a0 1) y (lb y) fun a S=>leafL ⟨y,S⟩
  ·refine fJ [(91,_),(93,_),(90,_)] 27 [some 24,some 26,some 23] fun G a w S=>?_
   exact sIdxV S (wG 23 false 90 y y y y) y y y aU y (lb y) fun a S=>leafL ⟨y,S⟩
  ·refine fJ [(94,_),(90,_)] 28 [some 27,some 23] fun G a w S=>?_
   exact sLoadV1 (vq:=av) 0 (iv a4) S (wG 23 false 90 y y y y) y y y y y (lb y) fun a S=>leafL ⟨y,S⟩
  ·refine fJ [(95,_),(90,_)] 29 [some 28,some 23] fun G a w S=>?_
   exact sBin _ S (wG 23 false 90 y y y y) y y y (bEq _ _ _ _ .i64 a4 0) y (lb y) fun a S=>leafL ⟨y,S⟩
  ·refine fJ [(10,_),(90,_)] 30 [none,some 23] fun G a w S=>?_
   exact sMove (iv a0) S (wG 23 false 90 y y y y) (.inl y) y y (lb y) fun a S=>leafL ⟨y,S⟩
  ·refine fJ [(1,_),(90,_)] 31 [none,some 23] fun G a w S=>?_
   exact sLoadN (p:=b6) (off:=0) (T:=24) (vs:=[iv p0.W,iv p0.H,.slice a9 p0.Bits.length aa]) 0 [iv p0.W,iv p0.H,.slice a9 p0.Bits.length aa] S (wG 23 false 90 y y y y) y y y y y y y (lb y) fun a S=>leafL ⟨y,S⟩
  ·refine fJ [(98,_),(90,_)] 32 [some 31,some 23] fun G a w S=>?_
   have S1:=S.mem
   have S1:=S1.learn (fRep r_api_Grid (.agg #[iv p0.W,iv p0.H,.slice a9 p0.Bits.length aa]) p0) ⟨_,y,S1.know (i:=7) (e:=fRep (rL rB) (.slice a9 p0.Bits.length aa) p0.Bits) y⟩
   refine sCallQ (X:=Unit) (f:=30) (vs:=[.agg #[iv p0.W,iv p0.H,.slice a9 p0.Bits.length aa]]) (val:=fun _=>iv ag) S (wG 23 false 90 y y y y) y callee30 y (S1.quiet [0] y) (fun E1 w1 S1=>c_raddleref17_Kinds E1 w1 p0 (.agg #[iv p0.W,iv p0.H,.slice a9 p0.Bits.length aa]) ag aR S1) y (lb y) fun _ a w S=>?_
   exact leafL ⟨y,S⟩
  ·refine fJ [(97,_),(99,_),(90,_)] 33 [some 30,some 32,some 23] fun G a w S=>?_
   exact sBin _ S (wG 23 false 90 y y y y) y y y (bGe _ _ _ _ .i64 a0 ag) y (lb y) fun a S=>leafL ⟨y,S⟩
  ·refine fJ [(96,_),(100,_),(90,_)] 34 [some 29,some 33,some 23] fun G a w S=>?_
   exact sBin _ S (wG 23 false 90 y y y y) y y y (bNeB _ _ _ _ Try.underlying4 (a4 == 0) (decide (ag ≤ a0))) y (lb y) fun a S=>leafL ⟨y,S⟩
  ·refine fJ [(90,_),(101,_)] 35 [some 23,some 34] fun G a w S=>?_
   exact sPickF (.bool ((a4 == 0) != (decide (ag ≤ a0)))) S (wN y) y y y y y (lb y) fun a S=>leafL ⟨y,S⟩
  exact leafT (⟨(a4 == 0) != (decide (ag ≤ a0)),Option.some.inj h,S.fix [0] [6,7] (by decide) y y y⟩)
 obtain ⟨af,aW,h⟩:=bS h
 rcases iS h with ⟨a8,h⟩ | ⟨a8,h⟩
 ·obtain ⟨bM,bN,S⟩:=pIdx (P:=Try.prog) (r:=(rI .i64)) (v:=.slice a2 a5.1.length a3) (xs:=a5.1) (j:=w64 (a0 - 1)) 25 3 0 S Try.underlying25 y y ak
  obtain ⟨bV,S⟩:=pLoad (r:=(rI .i64)) (q:=bM) (x:=a4) 0 S y
  obtain rfl:bV=iv a4:=S.mem.know (i:=1) (e:=fRep (rI .i64) (bV) a4) y
  obtain ⟨bh,bO,S⟩:=pIdx (P:=Try.prog) (r:=(rI .i64)) (v:=.slice a2 a5.1.length a3) (xs:=a5.1) (j:=w64 (a0 - 1)) 25 3 3 S Try.underlying25 y y ak
  obtain ⟨bW,S⟩:=pLoad (r:=(rI .i64)) (q:=bh) (x:=a4) 0 S y
  obtain rfl:bW=iv a4:=S.mem.know (i:=1) (e:=fRep (rI .i64) (bW) a4) y
  obtain ⟨bi,aX,S⟩:=pIdx (P:=Try.prog) (r:=(rI .i64)) (v:=.slice a2 a5.1.length a3) (xs:=a5.1) (j:=w64 (a0 - 2)) 25 3 6 S Try.underlying25 y y aW
  obtain ⟨aZ,S⟩:=pLoad (r:=(rI .i64)) (q:=bi) (x:=af) 0 S y
  obtain rfl:aZ=iv af:=S.mem.know (i:=1) (e:=fRep (rI .i64) (aZ) af) y
  refine sDraw (nf:=[]) (W:=[(0,67,.slice a2 a5.1.length a3),(1,68,iv a0),(2,69,iv (w64 (a0 - 1))),(3,70,bM),(4,71,iv a4),(5,72,.bool (decide (a4 < 0))),(6,73,.bool (decide (a4 < 0))),(7,74,iv a0),(8,75,.bool (decide (1 < a0))),(9,76,.bool (decide (1 < a0))),(10,77,.slice a2 a5.1.length a3),(11,78,iv a0),(12,79,iv (w64 (a0 - 1))),(13,80,bh),(14,81,iv a4),(15,82,.slice a2 a5.1.length a3),(16,83,iv a0),(17,84,iv (w64 (a0 - 2))),(18,85,bi),(19,86,iv af),(20,87,.bool (decide (af < a4))),(21,88,.bool (decide (af < a4))),(22,89,.bool (decide (af < a4))),(23,90,.bool (decide (af < a4))),(24,91,undef),(25,92,undef),(26,93,undef),(27,94,undef),(28,95,undef),(29,96,undef),(30,97,undef),(31,98,undef),(32,99,undef),(33,100,undef),(34,101,undef),(35,102,.bool true)]) y S ?_
  refine node_by (A:=anc_raddlelaw17_ReduceCosts_0) 36 (by kernel_rfl) (by kernel_rfl) (by kernel_rfl) (by kernel_rfl) (by kernel_rfl) [0,1,2,3,4,5,6,7,8,9,10,11,12,13,14,15,16,17,18,19,20,21,22,23,24,25,26,27,28,29,30,31,32,33,34,35] (by kernel_rfl) (by decide) (by decide) (fF ?_ (fF ?_ (fF ?_ (fF ?_ (fF ?_ (fF ?_ (fF ?_ (fF ?_ (fF ?_ (fF ?_ (fF ?_ (fF ?_ (fF ?_ (fF ?_ (fF ?_ (fF ?_ (fF ?_ (fF ?_ (fF ?_ (fF ?_ (fF ?_ (fF ?_ (fF ?_ (fF ?_ (fF ?_ (fF ?_ (fF ?_ (fF ?_ (fF ?_ (fF ?_ (fF ?_ (fF ?_ (fF ?_ (fF ?_ (fF ?_ (fF ?_ (trivial))))))))))))))))))))))))))))))))))))) [(1,.pointer (some ⟨b6,0,none⟩)),(3,.bool r8),(4,.slice a2 a5.1.length a3),(10,iv a0),(74,iv a0),(75,.bool (decide (1 < a0))),(76,.bool (decide (1 < a0))),(77,.slice a2 a5.1.length a3),(78,iv a0),(79,iv (w64 (a0 - 1))),(80,bh),(81,iv a4),(82,.slice a2 a5.1.length a3),(83,iv a0),(84,iv (w64 (a0 - 2))),(85,bi),(86,iv af),(87,.bool (decide (af < a4))),(88,.bool (decide (af < a4))),(91,undef),(92,undef),(93,undef),(94,undef),(95,undef),(96,undef),(97,undef),(98,undef),(99,undef),(100,undef),(101,undef),(102,.bool true)] (fin_of [none,none,none,none,some 7,some 8,some 9,some 10,some 11,some 12,some 13,some 14,some 15,some 16,some 17,some 18,some 19,some 20,some 21,some 24,some 25,some 26,some 27,some 28,some 29,some 30,some 31,some 32,some 33,some 34,some 35] y (by kernel_rfl) (by kernel_rfl)) (fun _ a w S=>?_)
  ·exact fM 0 none y y y y (.inl y) y y y
  ·exact fM 1 none y y y y (.inl y) y y y
  ·refine fJ [(68,_)] 2 [some 1] fun G a w S=>?_
   exact sBin _ S (wN y) y y y (bSub _ _ _ _ a0 1) y (lb y) fun a S=>leafL ⟨y,S⟩
  ·refine fJ [(67,_),(69,_)] 3 [some 0,some 2] fun G a w S=>?_
   exact sIdxV S (wN y) y y y bN y (lb y) fun a S=>leafL ⟨y,S⟩
  ·refine fJ [(70,_)] 4 [some 3] fun G a w S=>?_
   exact sLoadV1 (vq:=bM) 6 (iv a4) S (wN y) y y y y y (lb y) fun a S=>leafL ⟨y,S⟩
  ·refine fJ [(71,_)] 5 [some 4] fun G a w S=>?_
   exact sBin _ S (wN y) y y y (bLt _ _ _ _ .i64 a4 0) y (lb y) fun a S=>leafL ⟨y,S⟩
  ·exact fM 6 (some 5) y y y y (.inl y) y y y
  ·refine fJ [(10,_),(73,_)] 7 [none,some 6] fun G a w S=>?_
   exact sMove (iv a0) S (wG 6 false 73 y y y ab) (.inl y) y y (lb y) fun a S=>leafL ⟨y,S⟩
  ·refine fJ [(74,_),(73,_)] 8 [some 7,some 6] fun G a w S=>?_
   exact sBin _ S (wG 6 false 73 y y y ab) y y y (bGt _ _ _ _ .i64 a0 1) y (lb y) fun a S=>leafL ⟨y,S⟩
  ·refine fJ [(75,_),(73,_)] 9 [some 8,some 6] fun G a w S=>?_
   exact sMove (.bool (decide (1 < a0))) S (wG 6 false 73 y y y ab) (.inl y) y y (lb y) fun a S=>leafL ⟨y,S⟩
  ·refine fJ [(4,_),(76,_)] 10 [none,some 9] fun G a w S=>?_
   exact sMove (.slice a2 a5.1.length a3) S (wG 9 true 76 y y y a6) (.inl y) y y (lb y) fun a S=>leafL ⟨y,S⟩
  ·refine fJ [(10,_),(76,_)] 11 [none,some 9] fun G a w S=>?_
   exact sMove (iv a0) S (wG 9 true 76 y y y a6) (.inl y) y y (lb y) fun a S=>leafL ⟨y,S⟩
  ·refine fJ [(78,_),(76,_)] 12 [some 11,some 9] fun G a w S=>?_
   exact sBin _ S (wG 9 true 76 y y y a6) y y y (bSub _ _ _ _ a0 1) y (lb y) fun a S=>leafL ⟨y,S⟩
  ·refine fJ [(77,_),(79,_),(76,_)] 13 [some 10,some 12,some 9] fun G a w S=>?_
   exact sIdxV S (wG 9 true 76 y y y a6) y y y bO y (lb y) fun a S=>leafL ⟨y,S⟩
  ·refine fJ [(80,_),(76,_)] 14 [some 13,some 9] fun G a w S=>?_
   exact sLoadV1 (vq:=bh) 3 (iv a4) S (wG 9 true 76 y y y a6) y y y y y (lb y) fun a S=>leafL ⟨y,S⟩
  ·refine fJ [(4,_),(76,_)] 15 [none,some 9] fun G a w S=>?_
   exact sMove (.slice a2 a5.1.length a3) S (wG 9 true 76 y y y a6) (.inl y) y y (lb y) fun a S=>leafL ⟨y,S⟩
  ·refine fJ [(10,_),(76,_)] 16 [none,some 9] fun G a w S=>?_
   exact sMove (iv a0) S (wG 9 true 76 y y y a6) (.inl y) y y (lb y) fun a S=>leafL ⟨y,S⟩
  ·refine fJ [(83,_),(76,_)] 17 [some 16,some 9] fun G a w S=>?_
   exact sBin _ S (wG 9 true 76 y y y a6) y y y (bSub _ _ _ _ a0 2) y (lb y) fun a S=>leafL ⟨y,S⟩
  ·refine fJ [(82,_),(84,_),(76,_)] 18 [some 15,some 17,some 9] fun G a w S=>?_
   exact sIdxV S (wG 9 true 76 y y y a6) y y y aX y (lb y) fun a S=>leafL ⟨y,S⟩
  ·refine fJ [(85,_),(76,_)] 19 [some 18,some 9] fun G a w S=>?_
   exact sLoadV1 (vq:=bi) 0 (iv af) S (wG 9 true 76 y y y a6) y y y y y (lb y) fun a S=>leafL ⟨y,S⟩
  ·refine fJ [(81,_),(86,_),(76,_)] 20 [some 14,some 19,some 9] fun G a w S=>?_
   exact sBin _ S (wG 9 true 76 y y y a6) y y y (bGt _ _ _ _ .i64 a4 af) y (lb y) fun a S=>leafL ⟨y,S⟩
  ·refine fJ [(76,_),(87,_),(73,_)] 21 [some 9,some 20,some 6] fun G a w S=>?_
   exact sPickT (.bool (decide (af < a4))) S (wG 6 false 73 y y y ab) y y a6 y y (lb y) fun a S=>leafL ⟨y,S⟩
  ·refine fJ [(73,_),(88,_)] 22 [some 6,some 21] fun G a w S=>?_
   exact sPickF (.bool (decide (af < a4))) S (wN y) y y ab y y (lb y) fun a S=>leafL ⟨y,S⟩
  ·exact fM 23 (some 22) y y y y (.inl y) y y y
  ·refine fJ [(4,_),(90,_)] 24 [none,some 23] fun G a w S=>?_
   exact sSk S y y y a8 y y fun a S=>leafL ⟨y,S⟩
  ·refine fJ [(10,_),(90,_)] 25 [none,some 23] fun G a w S=>?_
   exact sSk S y y y a8 y y fun a S=>leafL ⟨y,S⟩
  ·refine fJ [(92,_),(90,_)] 26 [some 25,some 23] fun G a w S=>?_
   exact sSk S y y y a8 y y fun a S=>leafL ⟨y,S⟩
  ·refine fJ [(91,_),(93,_),(90,_)] 27 [some 24,some 26,some 23] fun G a w S=>?_
   exact sSk S y y y a8 y y fun a S=>leafL ⟨y,S⟩
  ·refine fJ [(94,_),(90,_)] 28 [some 27,some 23] fun G a w S=>?_
   exact sSk S y y y a8 y y fun a S=>leafL ⟨y,S⟩
  ·refine fJ [(95,_),(90,_)] 29 [some 28,some 23] fun G a w S=>?_
   exact sSk S y y y a8 y y fun a S=>leafL ⟨y,S⟩
  ·refine fJ [(10,_),(90,_)] 30 [none,some 23] fun G a w S=>?_
   exact sSk S y y y a8 y y fun a S=>leafL ⟨y,S⟩
  ·refine fJ [(1,_),(90,_)] 31 [none,some 23] fun G a w S=>?_
   exact sSk S y y y a8 y y fun a S=>leafL ⟨y,S⟩
  ·refine fJ [(98,_),(90,_)] 32 [some 31,some 23] fun G a w S=>?_
   exact sSk S y y y a8 y y fun a S=>leafL ⟨y,S⟩
  ·refine fJ [(97,_),(99,_),(90,_)] 33 [some 30,some 32,some 23] fun G a w S=>?_
   exact sSk S y y y a8 y y fun a S=>leafL ⟨y,S⟩
  ·refine fJ [(96,_),(100,_),(90,_)] 34 [some 29,some 33,some 23] fun G a w S=>?_
   exact sSk S y y y a8 y y fun a S=>leafL ⟨y,S⟩
  ·refine fJ [(90,_),(101,_)] 35 [some 23,some 34] fun G a w S=>?_
   exact sPickT (.bool true) S (wN y) y y a8 y y (lb y) fun a S=>leafL ⟨y,S⟩
  exact leafT (⟨true,Option.some.inj h,S.fix [0] [9,10] (by decide) y y y⟩)
 obtain ⟨ah,b1,h⟩:=bS h
 obtain ⟨aI,b3,S⟩:=pIdx (P:=Try.prog) (r:=(rI .i64)) (v:=.slice a2 a5.1.length a3) (xs:=a5.1) (j:=w64 (a0 - 1)) 25 3 0 S Try.underlying25 y y ak
 obtain ⟨b4,S⟩:=pLoad (r:=(rI .i64)) (q:=aI) (x:=a4) 0 S y
 obtain rfl:b4=iv a4:=S.mem.know (i:=1) (e:=fRep (rI .i64) (b4) a4) y
 obtain ⟨aw,b5,S⟩:=pIdx (P:=Try.prog) (r:=(rI .i64)) (v:=.slice a2 a5.1.length a3) (xs:=a5.1) (j:=w64 (a0 - 1)) 25 3 3 S Try.underlying25 y y ak
 obtain ⟨ba,S⟩:=pLoad (r:=(rI .i64)) (q:=aw) (x:=a4) 0 S y
 obtain rfl:ba=iv a4:=S.mem.know (i:=1) (e:=fRep (rI .i64) (ba) a4) y
 obtain ⟨ax,bb,S⟩:=pIdx (P:=Try.prog) (r:=(rI .i64)) (v:=.slice a2 a5.1.length a3) (xs:=a5.1) (j:=w64 (a0 - 2)) 25 3 6 S Try.underlying25 y y aW
 obtain ⟨bc,S⟩:=pLoad (r:=(rI .i64)) (q:=ax) (x:=af) 0 S y
 obtain rfl:bc=iv af:=S.mem.know (i:=1) (e:=fRep (rI .i64) (bc) af) y
 obtain ⟨ay,bf,S⟩:=pIdx (P:=Try.prog) (r:=(rI .i64)) (v:=.slice a2 a5.1.length a3) (xs:=a5.1) (j:=w64 (a0 - 1)) 25 3 9 S Try.underlying25 y y ak
 obtain ⟨bg,S⟩:=pLoad (r:=(rI .i64)) (q:=ay) (x:=a4) 0 S y
 obtain rfl:bg=iv a4:=S.mem.know (i:=1) (e:=fRep (rI .i64) (bg) a4) y
 refine sDraw (nf:=[]) (W:=[(0,67,.slice a2 a5.1.length a3),(1,68,iv a0),(2,69,iv (w64 (a0 - 1))),(3,70,aI),(4,71,iv a4),(5,72,.bool (decide (a4 < 0))),(6,73,.bool (decide (a4 < 0))),(7,74,iv a0),(8,75,.bool (decide (1 < a0))),(9,76,.bool (decide (1 < a0))),(10,77,.slice a2 a5.1.length a3),(11,78,iv a0),(12,79,iv (w64 (a0 - 1))),(13,80,aw),(14,81,iv a4),(15,82,.slice a2 a5.1.length a3),(16,83,iv a0),(17,84,iv (w64 (a0 - 2))),(18,85,ax),(19,86,iv af),(20,87,.bool (decide (af < a4))),(21,88,.bool (decide (af < a4))),(22,89,.bool (decide (af < a4))),(23,90,.bool (decide (af < a4))),(24,91,.slice a2 a5.1.length a3),(25,92,iv a0),(26,93,iv (w64 (a0 - 1))),(27,94,ay),(28,95,iv a4),(29,96,.bool (a4 == 0)),(30,97,iv a0),(31,98,.agg #[iv p0.W,iv p0.H,.slice a9 p0.Bits.length aa]),(32,99,iv ah),(33,100,.bool (decide (ah ≤ a0))),(34,101,.bool ((a4 == 0) != (decide (ah ≤ a0)))),(35,102,.bool ((a4 == 0) != (decide (ah ≤ a0))))]) y S ?_
 refine node_by (A:=anc_raddlelaw17_ReduceCosts_0) 36 (by kernel_rfl) (by kernel_rfl) (by kernel_rfl) (by kernel_rfl) (by kernel_rfl) [0,1,2,3,4,5,6,7,8,9,10,11,12,13,14,15,16,17,18,19,20,21,22,23,24,25,26,27,28,29,30,31,32,33,34,35] (by kernel_rfl) (by decide) (by decide) (fF ?_ (fF ?_ (fF ?_ (fF ?_ (fF ?_ (fF ?_ (fF ?_ (fF ?_ (fF ?_ (fF ?_ (fF ?_ (fF ?_ (fF ?_ (fF ?_ (fF ?_ (fF ?_ (fF ?_ (fF ?_ (fF ?_ (fF ?_ (fF ?_ (fF ?_ (fF ?_ (fF ?_ (fF ?_ (fF ?_ (fF ?_ (fF ?_ (fF ?_ (fF ?_ (fF ?_ (fF ?_ (fF ?_ (fF ?_ (fF ?_ (fF ?_ (trivial))))))))))))))))))))))))))))))))))))) [(1,.pointer (some ⟨b6,0,none⟩)),(3,.bool r8),(4,.slice a2 a5.1.length a3),(10,iv a0),(74,iv a0),(75,.bool (decide (1 < a0))),(76,.bool (decide (1 < a0))),(77,.slice a2 a5.1.length a3),(78,iv a0),(79,iv (w64 (a0 - 1))),(80,aw),(81,iv a4),(82,.slice a2 a5.1.length a3),(83,iv a0),(84,iv (w64 (a0 - 2))),(85,ax),(86,iv af),(87,.bool (decide (af < a4))),(88,.bool (decide (af < a4))),(91,.slice a2 a5.1.length a3),(92,iv a0),(93,iv (w64 (a0 - 1))),(94,ay),(95,iv a4),(96,.bool (a4 == 0)),(97,iv a0),(98,.agg #[iv p0.W,iv p0.H,.slice a9 p0.Bits.length aa]),(99,iv ah),(100,.bool (decide (ah ≤ a0))),(101,.bool ((a4 == 0) != (decide (ah ≤ a0)))),(102,.bool ((a4 == 0) != (decide (ah ≤ a0))))] (fin_of [none,none,none,none,some 7,some 8,some 9,some 10,some 11,some 12,some 13,some 14,some 15,some 16,some 17,some 18,some 19,some 20,some 21,some 24,some 25,some 26,some 27,some 28,some 29,some 30,some 31,some 32,some 33,some 34,some 35] y (by kernel_rfl) (by kernel_rfl)) (fun _ a w S=>?_)
 ·exact fM 0 none y y y y (.inl y) y y y
 ·exact fM 1 none y y y y (.inl y) y y y
 ·refine fJ [(68,_)] 2 [some 1] fun G a w S=>?_
  exact sBin _ S (wN y) y y y (bSub _ _ _ _ a0 1) y (lb y) fun a S=>leafL ⟨y,S⟩
 ·refine fJ [(67,_),(69,_)] 3 [some 0,some 2] fun G a w S=>?_
  exact sIdxV S (wN y) y y y b3 y (lb y) fun a S=>leafL ⟨y,S⟩
 ·refine fJ [(70,_)] 4 [some 3] fun G a w S=>?_
  exact sLoadV1 (vq:=aI) 9 (iv a4) S (wN y) y y y y y (lb y) fun a S=>leafL ⟨y,S⟩
 ·refine fJ [(71,_)] 5 [some 4] fun G a w S=>?_
  exact sBin _ S (wN y) y y y (bLt _ _ _ _ .i64 a4 0) y (lb y) fun a S=>leafL ⟨y,S⟩
 ·exact fM 6 (some 5) y y y y (.inl y) y y y
 ·refine fJ [(10,_),(73,_)] 7 [none,some 6] fun G a w S=>?_
  exact sMove (iv a0) S (wG 6 false 73 y y y ab) (.inl y) y y (lb y) fun a S=>leafL ⟨y,S⟩
 ·refine fJ [(74,_),(73,_)] 8 [some 7,some 6] fun G a w S=>?_
  exact sBin _ S (wG 6 false 73 y y y ab) y y y (bGt _ _ _ _ .i64 a0 1) y (lb y) fun a S=>leafL ⟨y,S⟩
 ·refine fJ [(75,_),(73,_)] 9 [some 8,some 6] fun G a w S=>?_
  exact sMove (.bool (decide (1 < a0))) S (wG 6 false 73 y y y ab) (.inl y) y y (lb y) fun a S=>leafL ⟨y,S⟩
 ·refine fJ [(4,_),(76,_)] 10 [none,some 9] fun G a w S=>?_
  exact sMove (.slice a2 a5.1.length a3) S (wG 9 true 76 y y y a6) (.inl y) y y (lb y) fun a S=>leafL ⟨y,S⟩
 ·refine fJ [(10,_),(76,_)] 11 [none,some 9] fun G a w S=>?_
  exact sMove (iv a0) S (wG 9 true 76 y y y a6) (.inl y) y y (lb y) fun a S=>leafL ⟨y,S⟩
 ·refine fJ [(78,_),(76,_)] 12 [some 11,some 9] fun G a w S=>?_
  exact sBin _ S (wG 9 true 76 y y y a6) y y y (bSub _ _ _ _ a0 1) y (lb y) fun a S=>leafL ⟨y,S⟩
 ·refine fJ [(77,_),(79,_),(76,_)] 13 [some 10,some 12,some 9] fun G a w S=>?_
  exact sIdxV S (wG 9 true 76 y y y a6) y y y b5 y (lb y) fun a S=>leafL ⟨y,S⟩
 ·refine fJ [(80,_),(76,_)] 14 [some 13,some 9] fun G a w S=>?_
  exact sLoadV1 (vq:=aw) 6 (iv a4) S (wG 9 true 76 y y y a6) y y y y y (lb y) fun a S=>leafL ⟨y,S⟩
 ·refine fJ [(4,_),(76,_)] 15 [none,some 9] fun G a w S=>?_
  exact sMove (.slice a2 a5.1.length a3) S (wG 9 true 76 y y y a6) (.inl y) y y (lb y) fun a S=>leafL ⟨y,S⟩
 ·refine fJ [(10,_),(76,_)] 16 [none,some 9] fun G a w S=>?_
  exact sMove (iv a0) S (wG 9 true 76 y y y a6) (.inl y) y y (lb y) fun a S=>leafL ⟨y,S⟩
 ·refine fJ [(83,_),(76,_)] 17 [some 16,some 9] fun G a w S=>?_
  exact sBin _ S (wG 9 true 76 y y y a6) y y y (bSub _ _ _ _ a0 2) y (lb y) fun a S=>leafL ⟨y,S⟩
 ·refine fJ [(82,_),(84,_),(76,_)] 18 [some 15,some 17,some 9] fun G a w S=>?_
  exact sIdxV S (wG 9 true 76 y y y a6) y y y bb y (lb y) fun a S=>leafL ⟨y,S⟩
 ·refine fJ [(85,_),(76,_)] 19 [some 18,some 9] fun G a w S=>?_
  exact sLoadV1 (vq:=ax) 3 (iv af) S (wG 9 true 76 y y y a6) y y y y y (lb y) fun a S=>leafL ⟨y,S⟩
 ·refine fJ [(81,_),(86,_),(76,_)] 20 [some 14,some 19,some 9] fun G a w S=>?_
  exact sBin _ S (wG 9 true 76 y y y a6) y y y (bGt _ _ _ _ .i64 a4 af) y (lb y) fun a S=>leafL ⟨y,S⟩
 ·refine fJ [(76,_),(87,_),(73,_)] 21 [some 9,some 20,some 6] fun G a w S=>?_
  exact sPickT (.bool (decide (af < a4))) S (wG 6 false 73 y y y ab) y y a6 y y (lb y) fun a S=>leafL ⟨y,S⟩
 ·refine fJ [(73,_),(88,_)] 22 [some 6,some 21] fun G a w S=>?_
  exact sPickF (.bool (decide (af < a4))) S (wN y) y y ab y y (lb y) fun a S=>leafL ⟨y,S⟩
 ·exact fM 23 (some 22) y y y y (.inl y) y y y
 ·refine fJ [(4,_),(90,_)] 24 [none,some 23] fun G a w S=>?_
  exact sMove (.slice a2 a5.1.length a3) S (wG 23 false 90 y y y a8) (.inl y) y y (lb y) fun a S=>leafL ⟨y,S⟩
 ·refine fJ [(10,_),(90,_)] 25 [none,some 23] fun G a w S=>?_
  exact sMove (iv a0) S (wG 23 false 90 y y y a8) (.inl y) y y (lb y) fun a S=>leafL ⟨y,S⟩
 ·refine fJ [(92,_),(90,_)] 26 [some 25,some 23] fun G a w S=>?_
  exact sBin _ S (wG 23 false 90 y y y a8) y y y (bSub _ _ _ _ a0 1) y (lb y) fun a S=>leafL ⟨y,S⟩
 ·refine fJ [(91,_),(93,_),(90,_)] 27 [some 24,some 26,some 23] fun G a w S=>?_
  exact sIdxV S (wG 23 false 90 y y y a8) y y y bf y (lb y) fun a S=>leafL ⟨y,S⟩
 ·refine fJ [(94,_),(90,_)] 28 [some 27,some 23] fun G a w S=>?_
  exact sLoadV1 (vq:=ay) 0 (iv a4) S (wG 23 false 90 y y y a8) y y y y y (lb y) fun a S=>leafL ⟨y,S⟩
 ·refine fJ [(95,_),(90,_)] 29 [some 28,some 23] fun G a w S=>?_
  exact sBin _ S (wG 23 false 90 y y y a8) y y y (bEq _ _ _ _ .i64 a4 0) y (lb y) fun a S=>leafL ⟨y,S⟩
 ·refine fJ [(10,_),(90,_)] 30 [none,some 23] fun G a w S=>?_
  exact sMove (iv a0) S (wG 23 false 90 y y y a8) (.inl y) y y (lb y) fun a S=>leafL ⟨y,S⟩
 ·refine fJ [(1,_),(90,_)] 31 [none,some 23] fun G a w S=>?_
  exact sLoadN (p:=b6) (off:=0) (T:=24) (vs:=[iv p0.W,iv p0.H,.slice a9 p0.Bits.length aa]) 0 [iv p0.W,iv p0.H,.slice a9 p0.Bits.length aa] S (wG 23 false 90 y y y a8) y y y y y y y (lb y) fun a S=>leafL ⟨y,S⟩
 ·refine fJ [(98,_),(90,_)] 32 [some 31,some 23] fun G a w S=>?_
  have S1:=S.mem
  have S1:=S1.learn (fRep r_api_Grid (.agg #[iv p0.W,iv p0.H,.slice a9 p0.Bits.length aa]) p0) ⟨_,y,S1.know (i:=13) (e:=fRep (rL rB) (.slice a9 p0.Bits.length aa) p0.Bits) y⟩
  refine sCallQ (X:=Unit) (f:=30) (vs:=[.agg #[iv p0.W,iv p0.H,.slice a9 p0.Bits.length aa]]) (val:=fun _=>iv ah) S (wG 23 false 90 y y y a8) y callee30 y (S1.quiet [0] y) (fun E1 w1 S1=>c_raddleref17_Kinds E1 w1 p0 (.agg #[iv p0.W,iv p0.H,.slice a9 p0.Bits.length aa]) ah b1 S1) y (lb y) fun _ a w S=>?_
  exact leafL ⟨y,S⟩
 ·refine fJ [(97,_),(99,_),(90,_)] 33 [some 30,some 32,some 23] fun G a w S=>?_
  exact sBin _ S (wG 23 false 90 y y y a8) y y y (bGe _ _ _ _ .i64 a0 ah) y (lb y) fun a S=>leafL ⟨y,S⟩
 ·refine fJ [(96,_),(100,_),(90,_)] 34 [some 29,some 33,some 23] fun G a w S=>?_
  exact sBin _ S (wG 23 false 90 y y y a8) y y y (bNeB _ _ _ _ Try.underlying4 (a4 == 0) (decide (ah ≤ a0))) y (lb y) fun a S=>leafL ⟨y,S⟩
 ·refine fJ [(90,_),(101,_)] 35 [some 23,some 34] fun G a w S=>?_
  exact sPickF (.bool ((a4 == 0) != (decide (ah ≤ a0)))) S (wN y) y y a8 y y (lb y) fun a S=>leafL ⟨y,S⟩
 exact leafT (⟨(a4 == 0) != (decide (ah ≤ a0)),Option.some.inj h,S.fix [0] [12,13] (by decide) y y y⟩)
theorem dcnt_add (f b:Nat→Bool) (m n:Nat):dcnt f b (m + n)=dcnt f b m + dcnt (fun x=>f (m + x)) (fun x=>b (m + x)) n:=by
 induction n with
 | zero=>rfl
 | succ n ih=>
  rw [← Nat.add_assoc]
  simp only [dcnt]
  rw [ih,Nat.add_assoc]
def nsm (f:Nat→Nat):Nat→Nat
 | 0=>0
 | n + 1=>nsm f n + f n
theorem nsm_le {f g:Nat→Nat} {n:Nat} (h:∀ i,i < n→f i ≤ g i):nsm f n ≤ nsm g n:=by
 induction n with
 | zero=>exact Nat.le_refl _
 | succ n ih=>exact Nat.add_le_add (ih fun i hi=>h i (by omega)) (h n (by omega))
theorem nsm_zero {f:Nat→Nat} {n:Nat} (h:∀ i,i < n→f i=0):nsm f n=0:=by
 induction n with
 | zero=>rfl
 | succ n ih=>
  simp only [nsm]
  rw [ih fun i hi=>h i (by omega),h n (by omega)]
theorem nsm_add (f g:Nat→Nat) (n:Nat):nsm (fun i=>f i + g i) n=nsm f n + nsm g n:=by
 induction n with
 | zero=>rfl
 | succ n ih=>
  simp only [nsm]
  rw [ih]
  omega
theorem nsm_point {j c n:Nat} (h:j < n):nsm (fun i=>if i=j then c else 0) n=c:=by
 induction n with
 | zero=>omega
 | succ n ih=>
  simp only [nsm]
  by_cases e:n=j
  ·subst e
   rw [if_pos rfl,nsm_zero fun i hi=>if_neg (by omega)]
   omega
  ·rw [if_neg e,ih (by omega)]
   omega
theorem dcnt_rows (f b:Nat→Bool) (w h:Nat):dcnt f b (h * w)=nsm (fun y=>dcnt (fun x=>f (y * w + x)) (fun x=>b (y * w + x)) w) h:=by
 induction h with
 | zero=>rw [Nat.zero_mul]; rfl
 | succ h ih=>
  rw [Nat.add_mul,Nat.one_mul,dcnt_add,ih]
  rfl
theorem dcnt_mis {s:Nat→Int} {b:Nat→Bool} {n K:Nat} (hs:∀ x,x < n→0 ≤ s x∧s x < (K:Int)) (c:Int→Bool):dcnt (fun x=>c (s x)) b n=nsm (fun v=>upk s b (v:Int) (!(c v)) n) K:=by
 induction n with
 | zero=>exact (nsm_zero fun i _=>rfl).symm
 | succ n ih=>
  simp only [dcnt,upk]
  rw [nsm_add,ih fun x hx=>hs x (by omega)]
  have h1:=hs n (by omega)
  obtain ⟨j,hj⟩:∃ j:Nat,s n=(j:Int):=⟨(s n).toNat,by omega⟩
  have e:(fun v:Nat=>if s n=(v:Int)∧b n=!(c v) then 1 else 0)=fun v=>if v=j then (if (c (s n) != b n)=true then 1 else 0) else 0:=by
   funext v
   by_cases hv:v=j
   ·subst hv
    rw [if_pos rfl,← hj]
    cases b n <;> cases c (s n) <;> simp
   ·rw [if_neg hv,if_neg]
    rintro ⟨h2,_⟩
    omega
  rw [e,nsm_point (by omega)]
theorem maj_le {s:Nat→Int} {b:Nat→Bool} {n K:Nat} (hs:∀ x,x < n→0 ≤ s x∧s x < (K:Int)) (c:Int→Bool):dcnt (fun x=>decide (0 < netk s b (s x) n)) b n ≤ dcnt (fun x=>c (s x)) b n:=by
 rw [dcnt_mis hs (fun v=>decide (0 < netk s b v n)),dcnt_mis hs c]
 refine nsm_le fun v _=>?_
 have h1:=upk_net s b (v:Int) n
 by_cases h2:0 < netk s b (v:Int) n
 ·rw [decide_eq_true h2]
  cases c v
  ·show upk s b (v:Int) false n ≤ upk s b (v:Int) true n
   omega
  ·exact Nat.le_refl _
 ·rw [decide_eq_false h2]
  cases c v
  ·exact Nat.le_refl _
  ·show upk s b (v:Int) true n ≤ upk s b (v:Int) false n
   omega
theorem sl_bd {l:List Int} {w:Nat} (hl:l.length=w) (hb:∀ y,y ∈ l→0 ≤ y∧y < 400) (x:Nat) (hx:x < w):0 ≤ sl l x∧sl l x < ((400:Nat):Int):=by
 have e:l[x]'(by omega)=sl l x:=getD_of (by omega) 0
 have:=hb _ (List.getElem_mem (l:=l) (n:=x) (by omega))
 rw [e] at this
 exact this
theorem cost_le {g p:api_Grid} {w h:Nat} {l:List Int} (hl:l.length=w) (hb:∀ y,y ∈ l→0 ≤ y∧y < 400)
 (hc:∀ x x' y,x < w→x' < w→y < h→sl l x=sl l x'→cell p w x y=cell p w x' y):cost g w h l ≤ apd p g (w * h):=by
 unfold cost apd
 rw [Nat.mul_comm w h,dcnt_rows,dcnt_rows]
 refine nsm_le fun y hy=>?_
 have e1:dcnt (fun x=>oF g w l (y * w + x)) (fun x=>oB g (y * w + x)) w=dcnt (fun x=>decide (0 < netk (sl l) (cb g w y) (sl l x) w)) (cb g w y) w:=by
  refine dcnt_cong fun x hx=>⟨?_,rfl⟩
  unfold oF
  rw [pl_mod hx,pl_div hx]
  rfl
 have hcf:∃ cf:Int→Bool,∀ x,x < w→cf (sl l x)=cell p w x y:=by
  refine ⟨fun v=>@decide (∃ x,x < w∧sl l x=v∧cell p w x y=true) (Classical.propDecidable _),fun x hx=>?_⟩
  cases hq:cell p w x y with
  | true=>exact @decide_eq_true _ (Classical.propDecidable _) ⟨x,hx,rfl,hq⟩
  | false=>
   refine @decide_eq_false _ (Classical.propDecidable _) ?_
   rintro ⟨x',hx',h1,h2⟩
   rw [hc x' x y hx' hx hy h1,hq] at h2
   cases h2
 obtain ⟨cf,hcf⟩:=hcf
 have e2:dcnt (fun x=>p.Bits.getD (y * w + x) false) (fun x=>g.Bits.getD (y * w + x) false) w=dcnt (fun x=>cf (sl l x)) (cb g w y) w:=
  dcnt_cong fun x hx=>⟨(hcf x hx).symm,rfl⟩
 rw [e1]
 refine Nat.le_trans (maj_le (sl_bd hl hb) cf) (Nat.le_of_eq e2.symm)
def fnl {α:Type} [DecidableEq α] (F:List α) (a:α):List α:=if a ∈ F then F else F ++ [a]
def fns {α:Type} [DecidableEq α] (F ks:List α):List α:=ks.foldl fnl F
theorem fnl_mem {α:Type} [DecidableEq α] {F:List α} {a b:α}:b ∈ fnl F a ↔ b ∈ F ∨ b=a:=by
 unfold fnl
 by_cases h:a ∈ F
 ·rw [if_pos h]
  constructor
  ·exact .inl
  ·rintro (h1 | h1)
   ·exact h1
   ·rw [h1]; exact h
 ·rw [if_neg h]
  simp
theorem fns_mem {α:Type} [DecidableEq α] {F ks:List α} {b:α}:b ∈ fns F ks ↔ b ∈ F ∨ b ∈ ks:=by
 induction ks generalizing F with
 | nil=>simp [fns]
 | cons a r ih=>
  show b ∈ fns (fnl F a) r ↔ _
  rw [ih,fnl_mem,List.mem_cons]
  constructor
  ·rintro ((h | h) | h)
   ·exact .inl h
   ·exact .inr (.inl h)
   ·exact .inr (.inr h)
  ·rintro (h | h | h)
   ·exact .inl (.inl h)
   ·exact .inl (.inr h)
   ·exact .inr h
theorem fns_ext {α:Type} [DecidableEq α] (F ks:List α):∃ t,fns F ks=F ++ t:=by
 induction ks generalizing F with
 | nil=>exact ⟨[],by simp [fns]⟩
 | cons a r ih=>
  obtain ⟨t,ht⟩:=ih (fnl F a)
  have e:fns F (a :: r)=fns (fnl F a) r:=rfl
  rw [e,ht]
  unfold fnl
  by_cases h:a ∈ F
  ·rw [if_pos h]; exact ⟨t,rfl⟩
  ·rw [if_neg h]; exact ⟨[a] ++ t,by simp⟩
theorem idx_ext {α:Type} [DecidableEq α] {F:List α} {a:α} (h:a ∈ F) (t:List α):(F ++ t).idxOf a=F.idxOf a:=by
 rw [List.idxOf_append,if_pos h]
theorem idx_inj {α:Type} [DecidableEq α] {F:List α} {a b:α} (ha:a ∈ F) (hb:b ∈ F) (h:F.idxOf a=F.idxOf b):a=b:=by
 have h1:=List.idxOf_lt_length_of_mem ha
 have h2:=List.idxOf_lt_length_of_mem hb
 have e1:F[F.idxOf a]=a:=List.getElem_idxOf h1
 have e2:F[F.idxOf b]=b:=List.getElem_idxOf h2
 rw [← e1,← e2]
 congr 1
theorem idx_new {α:Type} [DecidableEq α] {F:List α} {a:α} (h:¬ a ∈ F) (t:List α):((F ++ [a]) ++ t).idxOf a=F.length:=by
 rw [idx_ext (by simp) t,List.idxOf_append,if_neg h]
 simp
theorem canon {α:Type} [DecidableEq α] (k:Nat) (ks:List α) (F:List α) (hk:(fns F ks).length ≤ k):(ks.map fun a=>((fns F ks).idxOf a:Int)) ∈ rg k ks.length F.length:=by
 induction ks generalizing F with
 | nil=>simp [rg]
 | cons a r ih=>
  have hd:fns F (a :: r)=fns (fnl F a) r:=rfl
  rw [hd] at hk ⊢
  have h1:=ih (fnl F a) hk
  obtain ⟨t,ht⟩:=fns_ext (fnl F a) r
  have hlen:(fnl F a).length ≤ (fns (fnl F a) r).length:=by rw [ht,List.length_append]; omega
  have key:(fns (fnl F a) r).idxOf a < (fnl F a).length∧(fns (fnl F a) r).idxOf a < F.length + 1∧max F.length ((fns (fnl F a) r).idxOf a + 1)=(fnl F a).length:=by
   rw [ht]
   by_cases h:a ∈ F
   ·have e:fnl F a=F:=if_pos h
    rw [e,idx_ext h]
    have:=List.idxOf_lt_length_of_mem h
    omega
   ·have e:fnl F a=F ++ [a]:=if_neg h
    rw [e,idx_new h,List.length_append,List.length_singleton]
    omega
  simp only [List.map_cons,List.length_cons,rg]
  refine List.mem_flatMap.2 ⟨(fns (fnl F a) r).idxOf a,List.mem_range.2 (by omega),List.mem_map.2 ⟨_,?_,rfl⟩⟩
  rw [key.2.2]
  exact h1
theorem pig {α:Type} [DecidableEq α] (k:Nat) (K:Int→α) (m:Nat):∀ (n:Nat) (l:List Int) (F:List α),l ∈ rg k m n→(∀ v:Nat,v < n→K (v:Int) ∈ F)→F.length ≤ n→n ≤ k→(fns F (l.map K)).length ≤ k:=by
 induction m with
 | zero=>
  intro n l F hl _ h2 h3
  rw [List.mem_singleton.1 hl]
  exact Nat.le_trans h2 h3
 | succ m ih=>
  intro n l F hl h1 h2 h3
  simp only [rg] at hl
  obtain ⟨v,hv,h4⟩:=List.mem_flatMap.1 hl
  obtain ⟨r,hr,rfl⟩:=List.mem_map.1 h4
  have hv2:=List.mem_range.1 hv
  show (fns (fnl F (K (v:Int))) (r.map K)).length ≤ k
  refine ih (max n (v + 1)) r _ hr (fun u hu=>?_) ?_ (by omega)
  ·rw [fnl_mem]
   by_cases e:u < n
   ·exact .inl (h1 u e)
   ·obtain rfl:u=v:=by omega
    exact .inr rfl
  ·unfold fnl
   by_cases e:K (v:Int) ∈ F
   ·rw [if_pos e]; omega
   ·rw [if_neg e,List.length_append,List.length_singleton]
    have:¬ v < n:=fun h=>e (h1 v h)
    omega
theorem rg_mem {k m n:Nat} {l:List Int} (h:l ∈ rg k m n):l.length=m∧∀ y,y ∈ l→0 ≤ y∧y < (k:Int):=by
 induction m generalizing n l with
 | zero=>
  rw [List.mem_singleton.1 h]
  exact ⟨rfl,fun y hy=>absurd hy List.not_mem_nil⟩
 | succ m ih=>
  simp only [rg] at h
  obtain ⟨v,hv,h2⟩:=List.mem_flatMap.1 h
  obtain ⟨r,hr,rfl⟩:=List.mem_map.1 h2
  have hv2:=List.mem_range.1 hv
  refine ⟨by rw [List.length_cons,(ih hr).1],fun y hy=>?_⟩
  rcases List.mem_cons.1 hy with h3 | h3
  ·rw [h3]; omega
  ·exact (ih hr).2 y h3
theorem stp_min (f:List Int→Nat) (L:List (List Int)):∀ S:List Int × Int,S.1 ≠ []→(∀ l,l ∈ L→l ≠ [])→(L.foldl (stp f) S).2 ≤ S.2∧(∀ l,l ∈ L→(L.foldl (stp f) S).2 ≤ (f l:Int))∧(L.foldl (stp f) S=S ∨ ∃ l,l ∈ L∧L.foldl (stp f) S=(l,(f l:Int))):=by
 induction L with
 | nil=>exact fun S _ _=>⟨Int.le_refl _,fun l hl=>absurd hl List.not_mem_nil,.inl rfl⟩
 | cons a L ih=>
  intro S hS hL
  rw [List.foldl_cons]
  by_cases c:(f a:Int) < S.2
  ·have e:stp f S a=(a,(f a:Int)):=if_pos (.inr c)
   rw [e]
   obtain ⟨h1,h2,h3⟩:=ih (a,(f a:Int)) (hL a List.mem_cons_self) fun l hl=>hL l (List.mem_cons_of_mem _ hl)
   refine ⟨by have h4:(List.foldl (stp f) (a,(f a:Int)) L).2 ≤ (f a:Int):=h1; omega,fun l hl=>?_,?_⟩
   ·rcases List.mem_cons.1 hl with h5 | h5
    ·rw [h5]; exact h1
    ·exact h2 l h5
   ·rcases h3 with h3 | ⟨l,h5,h6⟩
    ·exact .inr ⟨a,List.mem_cons_self,h3⟩
    ·exact .inr ⟨l,List.mem_cons_of_mem _ h5,h6⟩
  ·have e:stp f S a=S:=if_neg fun hc=>hc.elim hS c
   rw [e]
   obtain ⟨h1,h2,h3⟩:=ih S hS fun l hl=>hL l (List.mem_cons_of_mem _ hl)
   refine ⟨h1,fun l hl=>?_,?_⟩
   ·rcases List.mem_cons.1 hl with h5 | h5
    ·rw [h5]; omega
    ·exact h2 l h5
   ·rcases h3 with h3 | ⟨l,h5,h6⟩
    ·exact .inl h3
    ·exact .inr ⟨l,List.mem_cons_of_mem _ h5,h6⟩
theorem bst_min {g:api_Grid} {w h k:Nat} (hk:1 ≤ k) (hw:1 ≤ w):∃ l,l ∈ rg k w 0∧bst g w h k=(l,(cost g w h l:Int))∧∀ l',l' ∈ rg k w 0→cost g w h l ≤ cost g w h l':=by
 obtain ⟨t,ht⟩:=rg_head hk w 0
 have hne:∀ l,l ∈ rg k w 0→l ≠ []:=by
  intro l hl e
  have:=(rg_mem hl).1
  rw [e,List.length_nil] at this
  omega
 have e0:stp (cost g w h) ([],0) (List.replicate w 0)=(List.replicate w 0,(cost g w h (List.replicate w 0):Int)):=if_pos (.inl rfl)
 have hb:bst g w h k=t.foldl (stp (cost g w h)) (List.replicate w 0,(cost g w h (List.replicate w 0):Int)):=by
  unfold bst
  rw [ht,List.foldl_cons,e0]
 rw [ht] at hne
 obtain ⟨h1,h2,h3⟩:=stp_min (cost g w h) t (List.replicate w 0,(cost g w h (List.replicate w 0):Int)) (hne _ List.mem_cons_self) fun l hl=>hne l (List.mem_cons_of_mem _ hl)
 rw [← hb] at h1 h2 h3
 have hm:∀ l',l' ∈ rg k w 0→(bst g w h k).2 ≤ (cost g w h l':Int):=by
  intro l' hl'
  rw [ht] at hl'
  rcases List.mem_cons.1 hl' with h5 | h5
  ·rw [h5]; exact h1
  ·exact h2 l' h5
 rcases h3 with h3 | ⟨l,h5,h6⟩
 ·refine ⟨List.replicate w 0,by rw [ht]; exact List.mem_cons_self,h3,fun l' hl'=>?_⟩
  have:=hm l' hl'
  rw [h3] at this
  exact Int.ofNat_le.1 this
 ·refine ⟨l,by rw [ht]; exact List.mem_cons_of_mem _ h5,h6,fun l' hl'=>?_⟩
  have:=hm l' hl'
  rw [h6] at this
  exact Int.ofNat_le.1 this
def col (g:api_Grid) (w h x:Nat):List Bool:=(List.range h).map fun y=>cell g w x y
def cols (g:api_Grid) (w h n:Nat):List (List Bool):=(List.range n).map (col g w h)
theorem col_iff {g:api_Grid} {w h x x':Nat}:col g w h x=col g w h x' ↔ ∀ y,y < h→cell g w x y=cell g w x' y:=by
 unfold col
 constructor
 ·intro e y hy
  have:=congrArg (fun l=>l[y]?) e
  simp only [List.getElem?_map,List.getElem?_range hy,Option.map_some,Option.some.injEq] at this
  exact this
 ·intro e
  exact List.map_congr_left fun y hy=>e y (List.mem_range.1 hy)
theorem fns_snoc {α:Type} [DecidableEq α] (F ks:List α) (a:α):fns F (ks ++ [a])=fnl (fns F ks) a:=by
 unfold fns
 rw [List.foldl_append]
 rfl
theorem fns_len {α:Type} [DecidableEq α] (F ks:List α):(fns F ks).length ≤ F.length + ks.length:=by
 induction ks generalizing F with
 | nil=>exact Nat.le_refl _
 | cons a r ih=>
  have h1:=ih (fnl F a)
  have h2:(fnl F a).length ≤ F.length + 1:=by
   unfold fnl
   split
   ·omega
   ·rw [List.length_append,List.length_singleton]; omega
  have e:fns F (a :: r)=fns (fnl F a) r:=rfl
  rw [e,List.length_cons]
  omega
def eqn (g:api_Grid) (w x j n:Nat):Bool:=(List.range n).all fun y=>cell g w x y == cell g w j y
theorem eqn_succ (g:api_Grid) (w x j n:Nat):eqn g w x j (n + 1)=(eqn g w x j n && (cell g w x n == cell g w j n)):=by simp [eqn,List.range_succ]
theorem eqn_col (g:api_Grid) (w h x j:Nat):eqn g w x j h=decide (col g w h x=col g w h j):=by
 by_cases c:col g w h x=col g w h j
 ·rw [decide_eq_true c]
  have:=col_iff.1 c
  exact List.all_eq_true.2 fun y hy=>by rw [this y (List.mem_range.1 hy)]; simp
 ·rw [decide_eq_false c]
  cases e:eqn g w x j h with
  | false=>rfl
  | true=>
   exfalso
   apply c
   refine col_iff.2 fun y hy=>?_
   have:=List.all_eq_true.1 e y (List.mem_range.2 hy)
   simpa using this
theorem cols_succ (g:api_Grid) (w h n:Nat):cols g w h (n + 1)=cols g w h n ++ [col g w h n]:=by simp [cols,List.range_succ]
theorem kinds_eq {g:api_Grid} {w h:Nat} (G:Gr g w h):F_raddleref17_Kinds g=some (((fns [] (cols g w h w)).length:Nat):Int):=by
 have w1:=G.w1
 have h1:=G.h1
 have L1:∀ x j,x < w→j < w→whileO (raddleref17_Kinds_l1 g (x:Int) (j:Int)) (true,0)=some (decide (col g w h x=col g w h j)):=by
  intro x j hx hj
  rw [← eqn_col]
  refine loop_seq (fun y=>(eqn g w x j y,(y:Int))) h (fun y hy=>?_) ?_
  ·unfold raddleref17_Kinds_l1
   rw [G.hh,eqn_succ]
   simp only [dT (show (y:Int) < (h:Int) by omega),if_true,rat_eq G hx hy,rat_eq G hj hy,Option.bind_some,w64_succ (show y < 9223372036854775807 by omega)]
   cases eqn g w x j y <;> rfl
  ·unfold raddleref17_Kinds_l1
   rw [G.hh]
   simp only [dF (show ¬ (h:Int) < (h:Int) by omega),Bool.false_eq_true,if_false]
 have L2:∀ x,x < w→whileO (raddleref17_Kinds_l2 (x:Int) g) (false,0)=some (decide (col g w h x ∈ cols g w h x)):=by
  intro x hx
  have:=loop_seq (B:=raddleref17_Kinds_l2 (x:Int) g) (t:=decide (col g w h x ∈ cols g w h x)) (fun j=>(decide (col g w h x ∈ cols g w h j),(j:Int))) x (fun j hj=>?_) ?_
  ·exact this
  ·unfold raddleref17_Kinds_l2
   have e:decide (col g w h x ∈ cols g w h (j + 1))=(decide (col g w h x ∈ cols g w h j) || decide (col g w h x=col g w h j)):=by
    rw [cols_succ,← Bool.decide_or]
    exact decide_eq_decide.2 (by rw [List.mem_append,List.mem_singleton])
   rw [e]
   simp only [dT (show (j:Int) < (x:Int) by omega),if_true,L1 x j hx (by omega),Option.bind_some,w64_succ (show j < 9223372036854775807 by omega)]
   cases decide (col g w h x ∈ cols g w h j) <;> rfl
  ·unfold raddleref17_Kinds_l2
   simp only [dF (show ¬ (x:Int) < (x:Int) by omega),Bool.false_eq_true,if_false]
 have L3:whileO (raddleref17_Kinds_l3 g) (0,0)=some (((fns [] (cols g w h w)).length:Nat):Int):=by
  refine loop_seq (fun x=>((((fns [] (cols g w h x)).length:Nat):Int),(x:Int))) w (fun x hx=>?_) ?_
  ·unfold raddleref17_Kinds_l3
   have hl:=fns_len [] (cols g w h x)
   have hl2:(cols g w h x).length=x:=by simp [cols]
   rw [G.hw,cols_succ,fns_snoc]
   simp only [dT (show (x:Int) < (w:Int) by omega),if_true,L2 x hx,Option.bind_some,w64_succ (show x < 9223372036854775807 by omega)]
   rw [hl2,List.length_nil] at hl
   rw [w64_succ (by omega)]
   by_cases c:col g w h x ∈ cols g w h x
   ·have c2:fnl (fns [] (cols g w h x)) (col g w h x)=fns [] (cols g w h x):=if_pos (fns_mem.2 (.inr c))
    rw [c2,decide_eq_true c]
    rfl
   ·have c2:fnl (fns [] (cols g w h x)) (col g w h x)=fns [] (cols g w h x) ++ [col g w h x]:=if_neg (by
     intro hm
     rcases fns_mem.1 hm with hm | hm
     ·exact absurd hm List.not_mem_nil
     ·exact c hm)
    rw [c2,decide_eq_false c,List.length_append,List.length_singleton]
    rfl
  ·unfold raddleref17_Kinds_l3
   rw [G.hw]
   simp only [dF (show ¬ (w:Int) < (w:Int) by omega),Bool.false_eq_true,if_false]
 unfold F_raddleref17_Kinds
 simp only [L3,Option.bind_some]
theorem sl_map {α:Type} (w:Nat) (f:Nat→Int) {x:Nat} (hx:x < w):sl ((List.range w).map f) x=f x:=by
 unfold sl
 simp [List.getD_eq_getElem?_getD,List.getElem?_range hx]
theorem list_sl {l:List Int} {w:Nat} (hl:l.length=w):l=(List.range w).map (sl l):=by
 apply List.ext_getElem?
 intro t
 by_cases ht:t < w
 ·rw [List.getElem?_map,List.getElem?_range ht,List.getElem?_eq_getElem (by omega),Option.map_some]
  congr 1
  exact getD_of (by omega) 0
 ·rw [List.getElem?_eq_none (by omega),List.getElem?_eq_none (by simp; omega)]
theorem canonN {α:Type} [DecidableEq α] (κ:Nat→α) {w k:Nat} (hk:(fns [] ((List.range w).map κ)).length ≤ k):∃ l,l ∈ rg k w 0∧∀ x x',x < w→x' < w→sl l x=sl l x'→κ x=κ x':=by
 have h1:=canon k ((List.range w).map κ) [] hk
 rw [List.map_map,List.length_map,List.length_range,List.length_nil] at h1
 refine ⟨_,h1,fun x x' hx hx' e=>?_⟩
 rw [sl_map (α:=α) w _ hx,sl_map (α:=α) w _ hx'] at e
 have m1:κ x ∈ fns [] ((List.range w).map κ):=fns_mem.2 (.inr (List.mem_map.2 ⟨x,List.mem_range.2 hx,rfl⟩))
 have m2:κ x' ∈ fns [] ((List.range w).map κ):=fns_mem.2 (.inr (List.mem_map.2 ⟨x',List.mem_range.2 hx',rfl⟩))
 exact idx_inj m1 m2 (Int.ofNat_inj.1 e)
theorem rg_400 {k w:Nat} (hk:k ≤ 400) {l:List Int} (hl:l ∈ rg k w 0):l.length=w∧∀ y,y ∈ l→0 ≤ y∧y < 400:=
 ⟨(rg_mem hl).1,fun y hy=>by have:=(rg_mem hl).2 y hy; omega⟩
def colK (g:api_Grid) (w h:Nat) (l:List Int) (v:Int):List Bool:=(List.range h).map fun y=>decide (0 < netk (sl l) (cb g w y) v w)
theorem cols_of {g p:api_Grid} {w h:Nat} {l:List Int} (hl:l.length=w) (e:∀ x y,x < w→y < h→cell p w x y=outc g w l x y):cols p w h w=l.map (colK g w h l):=by
 have e1:(l.map (colK g w h l))=((List.range w).map (sl l)).map (colK g w h l):=congrArg (List.map (colK g w h l)) (list_sl hl)
 rw [e1,List.map_map]
 unfold cols
 refine List.map_congr_left fun x hx=>?_
 show col p w h x=colK g w h l (sl l x)
 unfold col colK
 exact List.map_congr_left fun y hy=>e x y (List.mem_range.1 hx) (List.mem_range.1 hy)
theorem kinds_le {g p:api_Grid} {w h k:Nat} {l:List Int} (hl:l ∈ rg k w 0) (e:∀ x y,x < w→y < h→cell p w x y=outc g w l x y):(fns [] (cols p w h w)).length ≤ k:=by
 rw [cols_of (rg_mem hl).1 e]
 exact pig k (colK g w h l) w 0 l [] hl (fun v hv=>absurd hv (Nat.not_lt_zero v)) (Nat.le_refl _) (Nat.zero_le _)
theorem bst_le_apd {g p:api_Grid} {w h k:Nat} (hk:k ≤ 400) {α:Type} [DecidableEq α] (κ:Nat→α) (hn:(fns [] ((List.range w).map κ)).length ≤ k)
 (hp:∀ x x' y,x < w→x' < w→y < h→κ x=κ x'→cell p w x y=cell p w x' y):∃ l,l ∈ rg k w 0∧cost g w h l ≤ apd p g (w * h):=by
 obtain ⟨l,hl,h1⟩:=canonN κ hn
 exact ⟨l,hl,cost_le (rg_400 hk hl).1 (rg_400 hk hl).2 fun x x' y hx hx' hy e=>hp x x' y hx hx' hy (h1 x x' hx hx' e)⟩
theorem fit_of {g:api_Grid} {w h:Nat} (G:Gr g w h) (hw:w ≤ 6) (hh:h ≤ 20):F_raddlelaw17_fit g=some true:=by
 have hp:w * h ≤ 6 * 20:=Nat.mul_le_mul hw hh
 have hl:=G.len
 unfold F_raddlelaw17_fit
 simp only [rgreat_eq,(gcheck_eq g).2,gr_err G,Option.bind_some,dF (show ¬ 4200 < g.Bits.length by omega)]
 rw [G.hw,G.hh]
 simp only [dT (show (w:Int) ≤ 6 by omega),dT (show (h:Int) ≤ 20 by omega)]
 rfl
theorem fit_cases (g:api_Grid):F_raddlelaw17_fit g=some false ∨ (F_raddlelaw17_fit g=some true∧∃ w h,Gr g w h∧w ≤ 6∧h ≤ 20):=by
 by_cases c:gerr g=0
 ·obtain ⟨w,h,G⟩:=gerr_zero c
  by_cases c2:w ≤ 6∧h ≤ 20
  ·exact .inr ⟨fit_of G c2.1 c2.2,w,h,G,c2.1,c2.2⟩
  ·refine .inl ?_
   unfold F_raddlelaw17_fit
   simp only [rgreat_eq,(gcheck_eq g).2,c,Option.bind_some]
   rw [G.hw,G.hh]
   by_cases c3:4200 < g.Bits.length
   ·simp [c3]
   ·by_cases c4:w ≤ 6
    ·simp [c3,show (w:Int) ≤ 6 by omega,show ¬ (h:Int) ≤ 20 by omega]
    ·simp [c3,show ¬ (w:Int) ≤ 6 by omega]
 ·refine .inl ?_
  unfold F_raddlelaw17_fit
  simp only [rgreat_eq,(gcheck_eq g).2,Option.bind_some]
  by_cases c3:4200 < g.Bits.length
  ·simp [c3]
  ·simp [c3,c]
theorem build_eq {l1:Int→Int × List Bool→Option ((Int × List Bool) ⊕ List Bool)} {l2:Int × List Bool→Option ((Int × List Bool) ⊕ List Bool)} (f:Nat→Nat→Bool) (w h:Nat) (hw:w ≤ 64) (hh:h ≤ 64)
 (h1:∀ y x s,y < h→x < w→l1 (y:Int) ((x:Int),s)=Option.bind (appO s [f x y]) fun l=>some (.inl (w64 ((x:Int) + 1),l))) (h1e:∀ (y:Nat) s,l1 (y:Int) ((w:Int),s)=some (.inr s))
 (h2:∀ (y:Nat) s,y < h→l2 ((y:Int),s)=Option.bind (Option.bind (whileO (l1 (y:Int)) (0,s)) fun e=>some e) fun o=>some (.inl (w64 ((y:Int) + 1),o))) (h2e:∀ s,l2 ((h:Int),s)=some (.inr s)) :
 whileO l2 (0,([]:List Bool))=some (gl f w h):=by
 have this:=loop2 (l1:=fun y=>l1 (y:Int)) (l2:=l2) (fun y x=>((x:Int),glf f w (y * w + x))) (fun y=>((y:Int),glf f w (y * w))) (fun y=>glf f w (y * w + w)) w h (t:=glf f w (h * w))
  (fun y x hy hx=>by
   have hlt:=pl_lt hx hy
   have hp:w * h ≤ 64 * 64:=Nat.mul_le_mul hw hh
   rw [h1 y x _ hy hx,appO_of (by simp [glf]; omega),Option.bind_some,w64_succ (by omega),show y * w + (x + 1)=y * w + x + 1 from rfl,glf_succ,pl_mod hx,pl_div hx])
  (fun y hy=>h1e y _)
  (fun y hy hl=>by
   have e0:(((0:Nat):Int),glf f w (y * w + 0))=((0:Int),glf f w (y * w)):=rfl
   rw [e0] at hl
   rw [h2 y _ hy,hl]
   simp only [Option.bind_some,w64_succ (show y < 9223372036854775807 by omega)]
   rw [show (y + 1) * w=y * w + w by rw [Nat.add_mul,Nat.one_mul]])
  (h2e _)
 have e0:(((0:Nat):Int),glf f w (0 * w))=((0:Int),([]:List Bool)):=by simp [glf]
 simp only [e0] at this
 rw [this,Nat.mul_comm h w]
 rfl
theorem cap_ok {w h:Nat} (hw:w ≤ 64) (hh:h ≤ 64):capO (w64 ((w:Int) * (h:Int)))=some ():=by
 have hp:w * h ≤ 64 * 64:=Nat.mul_le_mul hw hh
 rw [wmul (by omega)]
 exact capO_of rfl (by omega)
theorem not_eq {g:api_Grid} {w h:Nat} (G:Gr g w h):F_grid_Not g=some (gm (fun x y=>!cell g w x y) w h,0):=by
 have hb:whileO (grid_build_s0_l2 (h:Int) (w:Int) g) (0,([]:List Bool))=some (gl (fun x y=>!cell g w x y) w h):=by
  refine build_eq (l1:=fun y=>grid_build_s0_l1 (w:Int) y g) (fun x y=>!cell g w x y) w h G.w1 G.h1 (fun y x s hy hx=>?_) (fun y s=>?_) (fun y s hy=>?_) (fun s=>?_)
  ·unfold grid_build_s0_l1 F_grid_Not_1_s0
   simp only [dT (show (x:Int) < (w:Int) by omega),if_true,G.at hx hy,Option.bind_some]
  ·unfold grid_build_s0_l1
   simp only [dF (show ¬ (w:Int) < (w:Int) by omega),Bool.false_eq_true,if_false]
  ·unfold grid_build_s0_l2
   simp only [dT (show (y:Int) < (h:Int) by omega),if_true]
  ·unfold grid_build_s0_l2
   simp only [dF (show ¬ (h:Int) < (h:Int) by omega),Bool.false_eq_true,if_false]
 unfold F_grid_Not F_grid_build_s0
 simp only [(gcheck_eq g).1,gr_err G,Option.bind_some,bne_self_eq_false,Bool.false_eq_true,if_false,G.hw,G.hh,cap_ok G.w1 G.h1,hb]
 rfl
theorem dcnt_not {f f' b b':Nat→Bool} {n:Nat} (h1:∀ t,t < n→f' t=!f t) (h2:∀ t,t < n→b' t=!b t):dcnt f' b' n=dcnt f b n:=by
 induction n with
 | zero=>rfl
 | succ n ih=>
  simp only [dcnt]
  rw [ih (fun t ht=>h1 t (by omega)) (fun t ht=>h2 t (by omega)),h1 n (by omega),h2 n (by omega)]
  cases f n <;> cases b n <;> rfl
theorem dcnt_zero {f b:Nat→Bool} {n:Nat} (h:dcnt f b n=0):∀ t,t < n→f t=b t:=by
 induction n with
 | zero=>exact fun t ht=>absurd ht (Nat.not_lt_zero t)
 | succ n ih=>
  simp only [dcnt] at h
  intro t ht
  by_cases e:t=n
  ·subst e
   cases hf:f t <;> cases hb:b t <;> simp [hf,hb] at h ⊢
  ·exact ih (by omega) t (by omega)
theorem dcnt_self (f:Nat→Bool) (n:Nat):dcnt f f n=0:=by
 induction n with
 | zero=>rfl
 | succ n ih=>
  simp only [dcnt]
  rw [ih]
  cases f n <;> rfl
theorem not_le {g q:api_Grid} {w h:Nat} (G:Gr g w h) (hq:∀ x y,x < w→y < h→cell q w x y=!cell g w x y) {l:List Int} (hl:l.length=w) (hb:∀ y,y ∈ l→0 ≤ y∧y < 400):cost q w h l ≤ cost g w h l:=by
 refine Nat.le_trans (cost_le (g:=q) (p:=gm (fun x y=>!outc g w l x y) w h) hl hb fun x x' y hx hx' hy e=>?_) (Nat.le_of_eq ?_)
 ·rw [gm_cell _ hx hy,gm_cell _ hx' hy]
  unfold outc
  rw [e]
 ·unfold apd cost
  refine dcnt_not (fun t ht=>?_) fun t ht=>?_
  ·have:=gl_get (fun x y=>!outc g w l x y) w h false (t % w) (t / w) (pl_modlt G.w0) (pl_divlt ht)
   rw [pl_of] at this
   exact this
  ·have h1:=hq (t % w) (t / w) (pl_modlt G.w0) (pl_divlt ht)
   unfold cell at h1
   rw [pl_of] at h1
   exact h1
theorem bst_not {g:api_Grid} {w h k:Nat} (G:Gr g w h) (h1:1 ≤ k) (h2:k ≤ 400):(bst (gm (fun x y=>!cell g w x y) w h) w h k).2=(bst g w h k).2:=by
 have Q:Gr (gm (fun x y=>!cell g w x y) w h) w h:=gm_gr _ G.w0 G.w1 G.h0 G.h1
 obtain ⟨l,hl,hb,hm⟩:=bst_min (g:=g) (h:=h) h1 G.w0
 obtain ⟨l',hl',hb',hm'⟩:=bst_min (g:=gm (fun x y=>!cell g w x y) w h) (h:=h) h1 G.w0
 rw [hb,hb']
 have r:=rg_400 h2 hl
 have r':=rg_400 h2 hl'
 have c1:=not_le (q:=gm (fun x y=>!cell g w x y) w h) G (fun x y hx hy=>gm_cell (fun x y=>!cell g w x y) hx hy) r.1 r.2
 have c2:=not_le (q:=g) Q (fun x y hx hy=>by rw [gm_cell (fun x y=>!cell g w x y) hx hy,Bool.not_not]) r'.1 r'.2
 have c3:=hm l' hl'
 have c4:=hm' l hl
 show ((cost (gm (fun x y=>!cell g w x y) w h) w h l':Nat):Int)=((cost g w h l:Nat):Int)
 omega
theorem rg_mono {k m n:Nat} {l:List Int} (h:l ∈ rg k m n):l ∈ rg (k + 1) m n:=by
 induction m generalizing n l with
 | zero=>exact h
 | succ m ih=>
  simp only [rg] at h ⊢
  obtain ⟨v,hv,h2⟩:=List.mem_flatMap.1 h
  obtain ⟨r,hr,rfl⟩:=List.mem_map.1 h2
  have hv2:=List.mem_range.1 hv
  exact List.mem_flatMap.2 ⟨v,List.mem_range.2 (by omega),List.mem_map.2 ⟨r,ih hr,rfl⟩⟩
theorem bst_mono {g:api_Grid} {w h k:Nat} (G:Gr g w h) (h1:1 ≤ k):(bst g w h (k + 1)).2 ≤ (bst g w h k).2:=by
 obtain ⟨l,hl,hb,_⟩:=bst_min (g:=g) (h:=h) h1 G.w0
 obtain ⟨l',hl',hb',hm'⟩:=bst_min (g:=g) (h:=h) (k:=k + 1) (by omega) G.w0
 rw [hb,hb']
 exact Int.ofNat_le.2 (hm' l (rg_mono hl))
theorem bst_nn {g:api_Grid} {w h k:Nat} (G:Gr g w h) (h1:1 ≤ k):0 ≤ (bst g w h k).2:=by
 obtain ⟨l,hl,hb,_⟩:=bst_min (g:=g) (h:=h) h1 G.w0
 rw [hb]
 exact Int.natCast_nonneg _
theorem bst_zero_iff {g:api_Grid} {w h k:Nat} (G:Gr g w h) (h1:1 ≤ k) (h2:k ≤ 400):(bst g w h k).2=0 ↔ (fns [] (cols g w h w)).length ≤ k:=by
 obtain ⟨l,hl,hb,hm⟩:=bst_min (g:=g) (h:=h) h1 G.w0
 rw [hb]
 constructor
 ·intro e
  have e1:cost g w h l=0:=Int.ofNat_inj.1 e
  refine kinds_le (g:=g) hl fun x y hx hy=>?_
  have:=dcnt_zero e1 (y * w + x) (pl_lt hx hy)
  unfold oF oB at this
  rw [pl_mod hx,pl_div hx] at this
  exact this.symm
 ·intro e
  obtain ⟨l',hl',h5⟩:=bst_le_apd (g:=g) (p:=g) (h:=h) h2 (col g w h) e fun x x' y hx hx' hy e=>col_iff.1 e y hy
  have h6:apd g g (w * h)=0:=dcnt_self _ _
  have h7:=hm l' hl'
  show ((cost g w h l:Nat):Int)=0
  omega
theorem law_ReduceCosts (g:api_Grid) (wg:wf_api_Grid g):F_raddlelaw17_ReduceCosts g=some true:=by
 unfold F_raddlelaw17_ReduceCosts
 simp only [alive17,Option.bind_some]
 rcases fit_cases g with h | ⟨h,w,ht,G,hw,hh⟩
 ·simp [h]
 have Q:Gr (gm (fun x y=>!cell g w x y) w ht) w ht:=gm_gr _ G.w0 G.w1 G.h0 G.h1
 have hlen:(((csts g w ht w).length:Nat):Int)=g.W:=by rw [csts_len,G.hw]
 have hce:csts (gm (fun x y=>!cell g w x y) w ht) w ht w=csts g w ht w:=by
  unfold csts
  exact List.map_congr_left fun i hi=>bst_not G (by omega) (by have:=List.mem_range.1 hi; omega)
 have hs:F_raddleref02_Same (csts g w ht w) (csts g w ht w)=some true:=by
  rw [rsame_il _ _ (by rw [csts_len]; omega)]
  simp
 have hloop:whileO (raddlelaw17_ReduceCosts_l1 (csts g w ht w,0) g) 1=some (.inr ()):=by
  refine loop_seq (fun i=>((i + 1:Nat):Int)) w (fun i hi=>?_) ?_
  ·unfold raddlelaw17_ReduceCosts_l1
   have ix:∀ j,j < w→idxO (csts g w ht w) (j:Int)=some (bst g w ht (j + 1)).2:=by
    intro j hj
    rw [idxO_nat (by rw [csts_len]; exact hj)]
    simp [csts]
   have i1:w64 (((i + 1:Nat):Int) - 1)=(i:Int):=by rw [w64_of (by omega) (by omega)]; omega
   have nn:=bst_nn G (k:=i + 1) (by omega)
   have hz:=bst_zero_iff G (k:=i + 1) (by omega) (by omega)
   have hzz:(((bst g w ht (i + 1)).2 == 0) != decide ((((fns [] (cols g w ht w)).length:Nat):Int) ≤ ((i + 1:Nat):Int)))=false:=by
    by_cases c:(fns [] (cols g w ht w)).length ≤ i + 1
    ·rw [bT (hz.2 c),dT (show (((fns [] (cols g w ht w)).length:Nat):Int) ≤ ((i + 1:Nat):Int) by omega)]
     rfl
    ·rw [bF (fun e=>c (hz.1 e)),dF (show ¬ (((fns [] (cols g w ht w)).length:Nat):Int) ≤ ((i + 1:Nat):Int) by omega)]
     rfl
   simp only [csts_len,dT (show ((i + 1:Nat):Int) ≤ (w:Int) by omega),if_true,i1,ix i hi,Option.bind_some,dF (show ¬ (bst g w ht (i + 1)).2 < 0 by omega),Bool.false_eq_true,if_false,kinds_eq G,hzz,w64_succ (show i + 1 < 9223372036854775807 by omega)]
   by_cases c:1 < i + 1
   ·obtain ⟨j,rfl⟩:∃ j,i=j + 1:=⟨i - 1,by omega⟩
    have i2:w64 (((j + 1 + 1:Nat):Int) - 2)=(j:Int):=by rw [w64_of (by omega) (by omega)]; omega
    have mo:=bst_mono G (k:=j + 1) (by omega)
    simp only [dT (show (1:Int) < ((j + 1 + 1:Nat):Int) by omega),if_true,i2,ix j (by omega),Option.bind_some,dF (show ¬ (bst g w ht (j + 1)).2 < (bst g w ht (j + 1 + 1)).2 by omega),Bool.false_eq_true,if_false]
   ·simp only [dF (show ¬ (1:Int) < ((i + 1:Nat):Int) by omega),Bool.false_eq_true,if_false,Option.bind_some]
  ·unfold raddlelaw17_ReduceCosts_l1
   simp only [csts_len,dF (show ¬ ((w + 1:Nat):Int) ≤ (w:Int) by omega),Bool.false_eq_true,if_false]
 simp only [h,Option.bind_some,Bool.not_true,Bool.false_eq_true,if_false,(costs_eq G (by omega)).1,not_eq G,(costs_eq Q (by omega)).1,nF (show (0:Int)=0 from rfl),nF hlen,fit_of Q hw hh,hce,hs,hloop]
namespace frameReduceCosts
open Go.ChangeShapes Go.WideShapes Go.ChangeAt Go.Joins
theorem own:ownKnob Try.prog.godebug=none:=by kernel_rfl
theorem laidOut:laidOutB Try.prog=true:=by kernel_rfl
theorem lifted (os:Os) (started:os.Started) (H:Type) (enc:TypeId × Value→H) :
 ReturnsInHanded {} Try.checked os 7 .any (Rows.reduceCostsSpec.pre6 enc Try.prog Try.f7 Rows.reduceCostsRow.domain false) (Rows.reduceCostsSpec.post enc Try.prog Try.f7 false true false false):=by
 refine returnsInHanded_of_change (C:=Try.checked) own started (by kernel_rfl) Try.func7
  (ChangeSpec.witness6 (enc:=enc) (C:=Try.checked) false ⟨#[],#[.agg #[iv 0,iv 0,.slice none 0 0]],[]⟩ 8 (by kernel_rfl) (by kernel_rfl) (by kernel_rfl) (by kernel_rfl)) ?_
 intro W base args ds gs before hval0 hW hcnd _
 have hval:∀ (j:Nat) t v,Try.f7.params[j]?=some t→args[j]?=some v→Value.okWide Try.prog W .any base t v:=hval0
 have hW':=hW
 obtain ⟨p,q,hA0,hV,rfl,hfz,hnd⟩:=hW
 have hA:DataW.TrodAll enc Try.prog W 0 (fun _=>true) true Try.f7.params.toList args.toList ds p:=hA0
 rw [Try.params7] at hA hval
 obtain ⟨v0,vs0,d0,ds0,p0,q0,hargs,rfl,rfl,h0,r0⟩:=trodAll_cons hA
 obtain ⟨rfl,rfl,rfl⟩:=trodAll_nil r0
 obtain rfl:args=#[v0]:=by cases args; simp_all
 obtain ⟨rfl,rfl⟩:=trodVars_none hV
 have k0:=h0
 have lt0:∀ x ∈ p0,x.block < W.heap.size:=by obtain ⟨m,hm⟩:=k0; exact DataW.trod_lt m _ _ _ hm
 obtain ⟨x0,rep0,wf0⟩:=top_agg Try.underlying24 aggr_api_Grid op_api_Grid (hval 0 _ v0 rfl rfl) h0
 clear hA0 hval0
 refine (c_raddlelaw17_ReduceCosts (fun _=>False) W x0 v0 true (law_ReduceCosts x0 wf0) (St0.start (by intro d hd; simp only [List.mem_cons,List.not_mem_nil,or_false] at hd; subst hd; exact rep0))).mono fun e W' hr=>?_
 obtain ⟨_,he,hS⟩:=hr
 have bel:=hS.chg.below
 subst he
 exact ⟨_,rfl,_,_,_,[],_,[],hW',trodAll_mk1 (shut_bool Try.underlying4 _),(trodAll_cons_mk (Below.trod laidOut (by kernel_rfl) (of_decide_eq_true (by kernel_rfl)) k0 bel lt0) trodAll_mk0),rfl,bel.frame _,fun h=>by cases h⟩
theorem over:Rows.reduceCostsRow.holds Try.pinned (OpenSpec.ofChange Rows.reduceCostsSpec):=
 OpenClaim.holds_of_wide 7 Try.f7 rfl rfl rfl rfl rfl rfl rfl ⟨rfl,rfl,rfl,rfl,rfl⟩ rfl rfl rfl rfl rfl (by kernel_rfl) Try.func7 (by kernel_rfl)
  (of_decide_eq_true (by kernel_rfl)) (by unfold Func.isWrapper; first | (rw [if_pos (by decide +kernel)]; kernel_rfl) | (rw [if_neg (by decide +kernel)]; exact ⟨rfl,rfl⟩))
  (fun os started H enc _=>lifted os started H enc)
end frameReduceCosts
theorem reduceCosts_holds:Rows.ReduceCostsSaid:=frameReduceCosts.over
end Go.Proofs.Ytapohhkdpkapoaa
