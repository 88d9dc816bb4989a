/- ReduceSearches: walks, tables, laws. -/
import Derived.Test.YtapohhkdpkapoaaProg
import Derived.Test.YtapohhkdpkapoaaRows
import Derived.Test.YtapohhkdpkapoaaMReduceSearches3
set_option linter.unusedVariables false
set_option linter.unusedSimpArgs false
set_option maxHeartbeats 4000000
set_option maxRecDepth 100000
namespace Go.Proofs.Ytapohhkdpkapoaa
open Go.RowKit
def anc_raddleref17_changed_s1_0:List (List Nat):=[[],[],[0,1],[0,1,2],[],[],[4,5],[4,5,6],[0,1,2,3,4,5,6,7],[0,1,2,3,4,5,6,7,8],[0,1,2,3,4,5,6,7,8,9],[0,1,2,3,4,5,6,7,8,9],[0,1,2,3,4,5,6,7,8,9],[0,1,2,3,4,5,6,7,8,9,10,11,12],[0,1,2,3,4,5,6,7,8,9,10,11,12,13]]
def anc_raddleref17_changed_s1_1:List (List Nat):=[[],[],[0,1],[0,1,2],[],[],[4,5],[4,5,6],[0,1,2,3,4,5,6,7]]
noncomputable def raddleref17_changed_s1_l1 (p0:api_Grid) (p1:(List Int)) (a4:Int) (a5:Int):(Int × Int × Int)→Option ((Int × Int × Int) ⊕ (Int × Int)):=fun s0=>match s0 with
 | (a2,a3,a0)=>
  if decide (a0 < p0.W) then
   Option.bind (α:=(Int × Int)) (
    Option.bind (α:=Bool) (
     (idxO p1 a0).bind fun a6=>
     (idxO p1 a4).bind fun a7=>
     if a6 == a7 then
      (F_raddleref01_At p0 a0 a5).bind fun a8=>
      some a8
     else
      some false) fun a9=>
    if a9 then
     some (w64 (a2 + 1),a3)
    else
     (idxO p1 a0).bind fun aa=>
     (idxO p1 a4).bind fun ab=>
     if aa == ab then
      some (a2,w64 (a3 + 1))
     else
      some (a2,a3)) fun (ac,ae)=>
   some (.inl (ac,ae,w64 (a0 + 1)))
  else
   some (.inr (a2,a3))
noncomputable def raddleref17_changed_s1_l2 (p0:api_Grid) (p1:(List Int)) (a3:Int) (r9:api_Grid):(Int × List Bool)→Option ((Int × List Bool) ⊕ List Bool):=fun s0=>match s0 with
 | (a0,a4)=>
  if decide (a0 < p0.H) then
   Option.bind (α:=List Bool) (
    Option.bind (α:=(Int × Int)) (
     (whileO (raddleref17_changed_s1_l1 p0 p1 a3 a0) (0,0,0)).bind fun (a5,a6)=>
      some (a5,a6)) fun (a7,a8)=>
    (F_raddleref01_Set_s0 r9.W r9.H a4 a3 a0 (decide (a8 < a7))).bind fun a2=>
    some a2) fun a9=>
   some (.inl (w64 (a0 + 1),a9))
  else
   some (.inr a4)
noncomputable def raddleref17_changed_s1_l3 (p0:api_Grid) (p1:(List Int)) (r9:api_Grid):(Int × List Bool)→Option ((Int × List Bool) ⊕ List Bool):=fun s0=>match s0 with
 | (a0,a2)=>
  if decide (a0 < p0.W) then
   Option.bind (α:=List Bool) (
    (whileO (raddleref17_changed_s1_l2 p0 p1 a0 r9) (0,a2)).bind fun a3=>
     some a3) fun a4=>
   some (.inl (w64 (a0 + 1),a4))
  else
   some (.inr a2)
noncomputable def F_raddleref17_changed_s1 (p0:api_Grid) (p1:(List Int)):Option (api_Grid × (List Int)):=
 (F_raddleref01_Zero_s0 p0.W p0.H).bind fun r9=>
 Option.bind (α:=List Bool) (
  (whileO (raddleref17_changed_s1_l3 p0 p1 r9) (0,r9.Bits)).bind fun a0=>
   some a0) fun a2=>
 some ((api_Grid.mk r9.W r9.H a2),p1)
theorem c_raddleref17_changed_s1 (E:Nat→Prop) (w0:World) (p0:api_Grid) (v0:Value) (p1:(List Int)) (ad_1:Option Addr) (cp_1:Nat) (r:(api_Grid × (List Int))) (h:F_raddleref17_changed_s1 p0 p1=some r) (S:St0 E (keysL [eRow (rI .i64) 3 (.slice ad_1 p1.length cp_1) p1]) w0 w0 [eRow (rI .i64) 3 (.slice ad_1 p1.length cp_1) p1] [fRep r_api_Grid (v0) p0]) :
 Calls Try.prog 38 #[v0,.slice ad_1 p1.length cp_1] w0 (Ret (X:=Option Addr × Nat) E (keysL [eRow (rI .i64) 3 (.slice ad_1 p1.length cp_1) p1]) w0 (fun x=>.agg #[iv r.1.W,iv r.1.H,.slice x.1 r.1.Bits.length x.2]) (fun x=>[eRow rB 4 (.slice x.1 r.1.Bits.length x.2) r.1.Bits,eRow (rI .i64) 3 (.slice ad_1 p1.length cp_1) r.2]) (fun _=>[])):=by
 unfold F_raddleref17_changed_s1 at h
 obtain ⟨u1,rfl,bo⟩:=S.know (i:=0) (e:=fRep r_api_Grid (v0) p0) d
 have S:=S.learn (fRep (rL rB) u1 p0.Bits) bo
 obtain ⟨a3,a4,_,rfl,_⟩:=bo
 refine sEnter (args:=[.agg #[iv p0.W,iv p0.H,.slice a3 p0.Bits.length a4],.slice ad_1 p1.length cp_1]) 70 Try.func38 d d (by simp) S (fun a S=>?_)
 refine sSeq (fun K5 bu=>sRegion (sBox (v:=.agg #[iv p0.W,iv p0.H,.slice a3 p0.Bits.length a4]) S (wN d) d d [iv p0.W,iv p0.H,.slice a3 p0.Bits.length a4] d d (lb d) fun a b6 w S=>sAlloc (.agg #[iv 0,iv 0,.slice none 0 0]) S (wN d) d d [iv 0,iv 0,.slice none 0 0] d d (lb d) fun a b7 w S=>lT (bu _ _ (sSeq (fun K8 bv=>sRegion (sField (b:=b6) (off:=0) 0 0 S (wN d) d d d d d (lb d) fun a S=>sLoad1 1 (iv p0.W) S (wN d) d d d d d d (lb d) fun a S=>sField (b:=b6) (off:=0) 1 1 S (wN d) d d d d d (lb d) fun a S=>sLoad1 1 (iv p0.H) S (wN d) d d d d d d (lb d) fun a S=>?_))))))
 obtain ⟨r9,aS,h⟩:=bS h
 refine sCall (X:=Option Addr × Nat) (f:=32) (vs:=[iv p0.W,iv p0.H]) (val:=fun x=>.agg #[iv r9.W,iv r9.H,.slice x.1 r9.Bits.length x.2]) (B':=fun x=>[eRow rB 4 (.slice x.1 r9.Bits.length x.2) r9.Bits]) (D':=fun _=>[]) [] [eBox b7 24 [iv 0,iv 0,.slice none 0 0],eBox b6 24 [iv p0.W,iv p0.H,.slice a3 p0.Bits.length a4],eRow (rI .i64) 3 (.slice ad_1 p1.length cp_1) p1] [] [0,1,2] [] S (wN d) d callee32 d (by decide) d d (fun E1 w1 S1=>c_raddleref01_Zero_s0 E1 w1 p0.W p0.H r9 aS S1) d (lb d) fun xx a w S=>?_
 obtain ⟨a0,a2⟩:=xx
 dsimp only at S
 refine sAlloc (.agg #[iv 0,iv 0,.slice none 0 0]) S (wN d) d d [iv 0,iv 0,.slice none 0 0] d d (lb d) fun a a7 w S=>sStore (p:=a7) (off:=0) (T:=24) (vs:=[iv 0,iv 0,.slice none 0 0]) (v:=.agg #[iv r9.W,iv r9.H,.slice a0 r9.Bits.length a2]) 0 [iv r9.W,iv r9.H,.slice a0 r9.Bits.length a2] S (wN d) d d d d d d d (by simp) d fun a w S=>lT (bv _ _ ?_)
 obtain ⟨bw,h,bx⟩:=bS h
 refine sCut (fun a w=>∃ ae,ae=bw∧St [] E (keysL [eRow (rI .i64) 3 (.slice ad_1 p1.length cp_1) p1]) w0 70 a w [(4,.pointer (some ⟨b7,0,none⟩)),(5,.pointer (some ⟨a7,0,none⟩))] [eBox b7 24 [iv 0,iv 0,.slice none 0 0],eBox a7 24 [iv r9.W,iv r9.H,.slice a0 ae.length a2],eRow rB 4 (.slice a0 ae.length a2) ae,eRow (rI .i64) 3 (.slice ad_1 p1.length cp_1) p1] []) ?_ (fun a w hI=>?_)
 rotate_left
 ·obtain ⟨ae,rfl,S⟩:=hI
  have h:=bx
  try dsimp only at h
  refine sSeq (fun bz aA=>sRegion (sLoadN (p:=a7) (off:=0) (T:=24) (vs:=[iv r9.W,iv r9.H,.slice a0 ae.length a2]) 1 [iv r9.W,iv r9.H,.slice a0 ae.length a2] S (wN d) d d d d d d d (lb d) fun a S=>sStore (p:=b7) (off:=0) (T:=24) (vs:=[iv 0,iv 0,.slice none 0 0]) (v:=.agg #[iv r9.W,iv r9.H,.slice a0 ae.length a2]) 0 [iv r9.W,iv r9.H,.slice a0 ae.length a2] S (wN d) d d d d d d d (by simp) d fun a w S=>lT (aA _ _ ?_)))
  obtain rfl:=tS h
  exact wp_ret (sRet (.agg #[iv r9.W,iv r9.H,.slice a0 ae.length a2]) S (rsl1 d (rvN (c:=4) (t:=24) (T:=24) (p:=b7) 0 [iv r9.W,iv r9.H,.slice a0 ae.length a2] S d d d d)) ⟨(a0,a2),d,S.mem.sel [2,3] [] (by decide) d d⟩)
 refine sSeq (fun bO aT=>sRegion (sN S fun a S=>?_))
 refine lT (aT _ _ (wp_block ?_))
 obtain ⟨bP,hl,bA⟩:=bS h
 refine sLoop hl (fun s0 a w=>match s0 with | (a5,aC)=>St [] E (keysL [eRow (rI .i64) 3 (.slice ad_1 p1.length cp_1) p1]) w0 70 a w [(1,.slice ad_1 p1.length cp_1),(2,.pointer (some ⟨b6,0,none⟩)),(4,.pointer (some ⟨b7,0,none⟩)),(5,.pointer (some ⟨a7,0,none⟩)),(6,iv a5)] [eBox b6 24 [iv p0.W,iv p0.H,.slice a3 p0.Bits.length a4],eBox b7 24 [iv 0,iv 0,.slice none 0 0],eBox a7 24 [iv r9.W,iv r9.H,.slice a0 aC.length a2],eRow (rI .i64) 3 (.slice ad_1 p1.length cp_1) p1,eRow rB 4 (.slice a0 aC.length a2) aC] [fRep (rL rB) (.slice a3 p0.Bits.length a4) p0.Bits]) (S.fix [3,2,0,4,1] [0] (by decide) d d d) ?_
 clear hl h
 intro s0 a w c0 hI h aU
 obtain ⟨a5,aC⟩:=s0
 unfold raddleref17_changed_s1_l3 at h
 dsimp only at h hI
 have S:=hI
 refine sSeq (fun bQ aV=>sSeq (fun bR aW=>sRegion (sM S fun a S=>?_)))
 refine sField (b:=b6) (off:=0) 0 0 S (wN d) d d d d d (lb d) fun a S=>sLoad1 0 (iv p0.W) S (wN d) d d d d d d (lb d) fun a S=>sBin _ S (wN d) d d d (bLt _ _ _ _ .i64 a5 p0.W) d (lb d) fun a S=>lT (aW _ _ ?_)
 rcases iS h with ⟨ao,h⟩ | ⟨ao,h⟩
 rotate_left
 ·refine sCondF S d ao ?_
  obtain rfl:=tS h
  obtain rfl:=aU _ d
  have h:=bA
  try dsimp only at h
  exact wp_exit (xThen (xThen (xHit (leafT (⟨aC,Option.some.inj h,S.fix [1,2,4,3] [] (by decide) d d d⟩)))))
 refine sCondT S d ao (wp_skip (leafT (aV _ _ ?_)))
 obtain ⟨bB,h,bC⟩:=bS h
 refine sCut (fun a w=>∃ au,au=bB∧St [] E (keysL [eRow (rI .i64) 3 (.slice ad_1 p1.length cp_1) p1]) w0 70 a w [(1,.slice ad_1 p1.length cp_1),(2,.pointer (some ⟨b6,0,none⟩)),(4,.pointer (some ⟨b7,0,none⟩)),(5,.pointer (some ⟨a7,0,none⟩)),(6,iv a5)] [eBox b6 24 [iv p0.W,iv p0.H,.slice a3 p0.Bits.length a4],eBox b7 24 [iv 0,iv 0,.slice none 0 0],eBox a7 24 [iv r9.W,iv r9.H,.slice a0 au.length a2],eRow (rI .i64) 3 (.slice ad_1 p1.length cp_1) p1,eRow rB 4 (.slice a0 au.length a2) au] [fRep (rL rB) (.slice a3 p0.Bits.length a4) p0.Bits]) ?_ (fun a w hI=>?_)
 rotate_left
 ·obtain ⟨au,rfl,S⟩:=hI
  have h:=bC
  try dsimp only at h
  refine sRegion (sM S fun a S=>?_)
  refine sBin _ S (wN d) d d d (bAdd _ _ _ _ a5 1) d (lb d) fun a S=>sN S fun a S=>?_
  exact lT (⟨(w64 (a5 + 1),au),(Option.some.inj h).symm,(S.fix [0,1,2,3,4] [0] (by decide) d d d)⟩)
 refine wp_block ?_
 refine sSeq (fun bU aX=>sRegion (sN S fun a S=>?_))
 refine lT (aX _ _ (wp_block ?_))
 obtain ⟨bV,hl,bD⟩:=bS h
 refine sLoop hl (fun s0 a w=>match s0 with | (aa,a6)=>St [] E (keysL [eRow (rI .i64) 3 (.slice ad_1 p1.length cp_1) p1]) w0 70 a w [(1,.slice ad_1 p1.length cp_1),(2,.pointer (some ⟨b6,0,none⟩)),(4,.pointer (some ⟨b7,0,none⟩)),(5,.pointer (some ⟨a7,0,none⟩)),(6,iv a5),(7,iv aa)] [eBox b6 24 [iv p0.W,iv p0.H,.slice a3 p0.Bits.length a4],eBox b7 24 [iv 0,iv 0,.slice none 0 0],eBox a7 24 [iv r9.W,iv r9.H,.slice a0 a6.length a2],eRow (rI .i64) 3 (.slice ad_1 p1.length cp_1) p1,eRow rB 4 (.slice a0 a6.length a2) a6] [fRep (rL rB) (.slice a3 p0.Bits.length a4) p0.Bits]) (S.fix [0,1,2,3,4] [0] (by decide) d d d) ?_
 clear hl h
 intro s0 a w c0 hI h aZ
 obtain ⟨aa,a6⟩:=s0
 unfold raddleref17_changed_s1_l2 at h
 dsimp only at h hI
 have S:=hI
 refine sSeq (fun bW b1=>sSeq (fun bX b3=>sRegion (sM S fun a S=>?_)))
 refine sField (b:=b6) (off:=0) 1 1 S (wN d) d d d d d (lb d) fun a S=>sLoad1 0 (iv p0.H) S (wN d) d d d d d d (lb d) fun a S=>sBin _ S (wN d) d d d (bLt _ _ _ _ .i64 aa p0.H) d (lb d) fun a S=>lT (b3 _ _ ?_)
 rcases iS h with ⟨ap,h⟩ | ⟨ap,h⟩
 rotate_left
 ·refine sCondF S d ap ?_
  obtain rfl:=tS h
  obtain rfl:=aZ _ d
  have h:=bD
  try dsimp only at h
  exact wp_exit (xThen (xThen (xHit (leafB (leafT (⟨a6,Option.some.inj h,S.fix [0,1,2,3,4] [0] (by decide) d d d⟩))))))
 refine sCondT S d ap (wp_skip (leafT (b1 _ _ ?_)))
 obtain ⟨bE,h,bG⟩:=bS h
 refine sCut (fun a w=>∃ av,av=bE∧St [] E (keysL [eRow (rI .i64) 3 (.slice ad_1 p1.length cp_1) p1]) w0 70 a w [(1,.slice ad_1 p1.length cp_1),(2,.pointer (some ⟨b6,0,none⟩)),(4,.pointer (some ⟨b7,0,none⟩)),(5,.pointer (some ⟨a7,0,none⟩)),(6,iv a5),(7,iv aa)] [eBox b6 24 [iv p0.W,iv p0.H,.slice a3 p0.Bits.length a4],eBox b7 24 [iv 0,iv 0,.slice none 0 0],eBox a7 24 [iv r9.W,iv r9.H,.slice a0 av.length a2],eRow (rI .i64) 3 (.slice ad_1 p1.length cp_1) p1,eRow rB 4 (.slice a0 av.length a2) av] [fRep (rL rB) (.slice a3 p0.Bits.length a4) p0.Bits]) ?_ (fun a w hI=>?_)
 rotate_left
 ·obtain ⟨av,rfl,S⟩:=hI
  have h:=bG
  try dsimp only at h
  refine sRegion (sM S fun a S=>?_)
  refine sBin _ S (wN d) d d d (bAdd _ _ _ _ aa 1) d (lb d) fun a S=>sN S fun a S=>?_
  exact lT (⟨(w64 (aa + 1),av),(Option.some.inj h).symm,(S.fix [0,1,2,3,4] [0] (by decide) d d d)⟩)
 refine wp_block ?_
 refine sSeq (fun bY b4=>sRegion (sN S fun a S=>?_))
 refine sN S fun a S=>?_
 refine lT (b4 _ _ ?_)
 obtain ⟨bH,h,bI⟩:=bS h
 refine sCut (fun a w=>∃ aw,∃ ax,(aw,ax)=bH∧St [] E (keysL [eRow (rI .i64) 3 (.slice ad_1 p1.length cp_1) p1]) w0 70 a w [(1,.slice ad_1 p1.length cp_1),(2,.pointer (some ⟨b6,0,none⟩)),(4,.pointer (some ⟨b7,0,none⟩)),(5,.pointer (some ⟨a7,0,none⟩)),(6,iv a5),(7,iv aa),(8,iv aw),(9,iv ax)] [eBox b6 24 [iv p0.W,iv p0.H,.slice a3 p0.Bits.length a4],eBox b7 24 [iv 0,iv 0,.slice none 0 0],eBox a7 24 [iv r9.W,iv r9.H,.slice a0 a6.length a2],eRow (rI .i64) 3 (.slice ad_1 p1.length cp_1) p1,eRow rB 4 (.slice a0 a6.length a2) a6] [fRep (rL rB) (.slice a3 p0.Bits.length a4) p0.Bits]) ?_ (fun a w hI=>?_)
 rotate_left
 ·obtain ⟨aw,ax,rfl,S⟩:=hI
  have h:=bI
  try dsimp only at h
  refine sRegion (sLoadN (p:=a7) (off:=0) (T:=24) (vs:=[iv r9.W,iv r9.H,.slice a0 a6.length a2]) 2 [iv r9.W,iv r9.H,.slice a0 a6.length a2] S (wN d) d d d d d d d (lb d) fun a S=>sM S fun a S=>?_)
  refine sM S fun a S=>?_
  refine sM S fun a S=>?_
  refine sM S fun a S=>?_
  refine sBin _ S (wN d) d d d (bGt _ _ _ _ .i64 aw ax) d (lb d) fun a S=>?_
  obtain ⟨ai,aG,h⟩:=bS h
  refine sCall (X:=Unit) (f:=48) (vs:=[.agg #[iv r9.W,iv r9.H,.slice a0 a6.length a2],iv a5,iv aa,.bool (decide (ax < aw))]) (val:=fun _=>.tuple #[]) (B':=fun _=>[eRow rB 4 (.slice a0 a6.length a2) ai]) (D':=fun _=>[]) [eRow rB 4 (.slice a0 a6.length a2) a6] [eBox b6 24 [iv p0.W,iv p0.H,.slice a3 p0.Bits.length a4],eBox b7 24 [iv 0,iv 0,.slice none 0 0],eBox a7 24 [iv r9.W,iv r9.H,.slice a0 a6.length a2],eRow (rI .i64) 3 (.slice ad_1 p1.length cp_1) p1] [] [4,0,1,2,3] [] S (wN d) d callee48 d (by decide) d d (fun E1 w1 S1=>c_raddleref01_Set_s0 E1 w1 r9.W r9.H a6 a0 a2 a5 aa (decide (ax < aw)) ai aG S1) d (lb d) fun _ a w S=>?_
  have aH:=row_v (S.mem.hold (i:=0) (e:=eRow rB 4 (.slice a0 a6.length a2) ai) d)
  rw [aH] at S
  exact leafL (leafB (leafT (⟨ai,Option.some.inj h,S.fix [1,2,3,4,0] [0] (by decide) d d d⟩)))
 refine sSeq (fun bZ b5=>sRegion (sN S fun a S=>?_))
 refine lT (b5 _ _ (wp_block ?_))
 obtain ⟨c7,hl,bJ⟩:=bS h
 refine sLoop hl (fun s0 a w=>match s0 with | (af,ag,a8)=>St [] E (keysL [eRow (rI .i64) 3 (.slice ad_1 p1.length cp_1) p1]) w0 70 a w [(1,.slice ad_1 p1.length cp_1),(2,.pointer (some ⟨b6,0,none⟩)),(4,.pointer (some ⟨b7,0,none⟩)),(5,.pointer (some ⟨a7,0,none⟩)),(6,iv a5),(7,iv aa),(8,iv af),(9,iv ag),(10,iv a8)] [eBox b6 24 [iv p0.W,iv p0.H,.slice a3 p0.Bits.length a4],eBox b7 24 [iv 0,iv 0,.slice none 0 0],eBox a7 24 [iv r9.W,iv r9.H,.slice a0 a6.length a2],eRow (rI .i64) 3 (.slice ad_1 p1.length cp_1) p1,eRow rB 4 (.slice a0 a6.length a2) a6] [fRep (rL rB) (.slice a3 p0.Bits.length a4) p0.Bits]) (S.fix [0,1,2,3,4] [0] (by decide) d d d) ?_
 clear hl h
 intro s0 a w c0 hI h b8
 obtain ⟨af,ag,a8⟩:=s0
 unfold raddleref17_changed_s1_l1 at h
 dsimp only at h hI
 have S:=hI
 refine sSeq (fun c8 b9=>sSeq (fun c9 ba=>sRegion (sM S fun a S=>?_)))
 refine sField (b:=b6) (off:=0) 0 0 S (wN d) d d d d d (lb d) fun a S=>sLoad1 0 (iv p0.W) S (wN d) d d d d d d (lb d) fun a S=>sBin _ S (wN d) d d d (bLt _ _ _ _ .i64 a8 p0.W) d (lb d) fun a S=>lT (ba _ _ ?_)
 rcases iS h with ⟨aq,h⟩ | ⟨aq,h⟩
 rotate_left
 ·refine sCondF S d aq ?_
  obtain rfl:=tS h
  obtain rfl:=b8 _ d
  have h:=bJ
  try dsimp only at h
  exact wp_exit (xThen (xThen (xHit (leafT (⟨af,ag,Option.some.inj h,S.fix [0,1,2,3,4] [0] (by decide) d d d⟩)))))
 refine sCondT S d aq (wp_skip (leafT (b9 _ _ ?_)))
 obtain ⟨bK,h,bL⟩:=bS h
 refine sCut (fun a w=>∃ aQ,∃ aR,(aQ,aR)=bK∧St [] E (keysL [eRow (rI .i64) 3 (.slice ad_1 p1.length cp_1) p1]) w0 70 a w [(1,.slice ad_1 p1.length cp_1),(2,.pointer (some ⟨b6,0,none⟩)),(4,.pointer (some ⟨b7,0,none⟩)),(5,.pointer (some ⟨a7,0,none⟩)),(6,iv a5),(7,iv aa),(8,iv aQ),(9,iv aR),(10,iv a8)] [eBox b6 24 [iv p0.W,iv p0.H,.slice a3 p0.Bits.length a4],eBox b7 24 [iv 0,iv 0,.slice none 0 0],eBox a7 24 [iv r9.W,iv r9.H,.slice a0 a6.length a2],eRow (rI .i64) 3 (.slice ad_1 p1.length cp_1) p1,eRow rB 4 (.slice a0 a6.length a2) a6] [fRep (rL rB) (.slice a3 p0.Bits.length a4) p0.Bits]) ?_ (fun a w hI=>?_)
 rotate_left
 ·obtain ⟨aQ,aR,rfl,S⟩:=hI
  have h:=bL
  try dsimp only at h
  refine sRegion (sM S fun a S=>?_)
  refine sBin _ S (wN d) d d d (bAdd _ _ _ _ a8 1) d (lb d) fun a S=>sN S fun a S=>?_
  exact lT (⟨(aQ,aR,w64 (a8 + 1)),(Option.some.inj h).symm,(S.fix [0,1,2,3,4] [0] (by decide) d d d)⟩)
 refine wp_block ?_
 obtain ⟨bM,h,bN⟩:=bS h
 refine sCut (fun a w=>∃ bb,bb=bM∧St [] E (keysL [eRow (rI .i64) 3 (.slice ad_1 p1.length cp_1) p1]) w0 70 a w [(1,.slice ad_1 p1.length cp_1),(2,.pointer (some ⟨b6,0,none⟩)),(4,.pointer (some ⟨b7,0,none⟩)),(5,.pointer (some ⟨a7,0,none⟩)),(6,iv a5),(7,iv aa),(8,iv af),(9,iv ag),(10,iv a8),(48,.bool bb)] [eBox b6 24 [iv p0.W,iv p0.H,.slice a3 p0.Bits.length a4],eBox b7 24 [iv 0,iv 0,.slice none 0 0],eBox a7 24 [iv r9.W,iv r9.H,.slice a0 a6.length a2],eRow (rI .i64) 3 (.slice ad_1 p1.length cp_1) p1,eRow rB 4 (.slice a0 a6.length a2) a6] [fRep (rL rB) (.slice a3 p0.Bits.length a4) p0.Bits]) ?_ (fun a w hI=>?_)
 rotate_left
 ·obtain ⟨bb,rfl,S⟩:=hI
  have h:=bN
  try dsimp only at h
  rcases iS h with ⟨ar,h⟩ | ⟨ar,h⟩
  ·refine sCondT S d ar (sRegion (sM S fun a S=>?_))
   refine sBin _ S (wN d) d d d (bAdd _ _ _ _ af 1) d (lb d) fun a S=>sN S fun a S=>?_
   exact leafL (leafB (leafT (⟨w64 (af + 1),ag,Option.some.inj h,S.fix [0,1,2,3,4] [0] (by decide) d d d⟩)))
  refine sCondF S d ar (sSeq (fun ca bc=>?_))
  obtain ⟨ay,aI,h⟩:=bS h
  obtain ⟨az,al,h⟩:=bS h
  obtain ⟨aJ,aK,aL⟩:=pIdxR (P:=Try.prog) (r:=(rI .i64)) (T:=3) (v:=.slice ad_1 p1.length cp_1) (xs:=p1) (j:=a8) 25 3 3 S Try.underlying25 d d aI
  obtain ⟨aM,aO,aP⟩:=pIdxR (P:=Try.prog) (r:=(rI .i64)) (T:=3) (v:=.slice ad_1 p1.length cp_1) (xs:=p1) (j:=a5) 25 3 3 S Try.underlying25 d d al
  refine sDraw (nf:=[]) (W:=[(0,51,.slice ad_1 p1.length cp_1),(1,52,iv a8),(2,53,aJ),(3,54,iv ay),(4,55,.slice ad_1 p1.length cp_1),(5,56,iv a5),(6,57,aM),(7,58,iv az),(8,59,.bool (ay == az))]) d S ?_
  refine node_by (A:=anc_raddleref17_changed_s1_1) 9 (by kernel_rfl) (by kernel_rfl) (by kernel_rfl) (by kernel_rfl) (by kernel_rfl) [0,1,2,3,4,5,6,7,8] (by kernel_rfl) (by decide) (by decide) (fF ?_ (fF ?_ (fF ?_ (fF ?_ (fF ?_ (fF ?_ (fF ?_ (fF ?_ (fF ?_ (trivial)))))))))) [(1,.slice ad_1 p1.length cp_1),(2,.pointer (some ⟨b6,0,none⟩)),(4,.pointer (some ⟨b7,0,none⟩)),(5,.pointer (some ⟨a7,0,none⟩)),(6,iv a5),(7,iv aa),(8,iv af),(9,iv ag),(10,iv a8),(59,.bool (ay == az))] (fin_of [none,none,none,none,none,none,none,none,none,some 8] d (by kernel_rfl) (by kernel_rfl)) (fun _ a w S=>?_)
  ·exact fM 0 none d d d d (.inl d) d d d
  ·exact fM 1 none d d d d (.inl d) d d d
  ·refine fJ [(51,_),(52,_)] 2 [some 0,some 1] fun G a w S=>?_
   exact sIdxV S (wN d) d d d aK d (lb d) fun a S=>leafL ⟨d,S⟩
  ·refine fJ [(53,_)] 3 [some 2] fun G a w S=>?_
   exact sLoadR (r:=(rI .i64)) (T:=3) (xs:=p1) (x:=ay) (v:=.slice ad_1 p1.length cp_1) (vq:=aJ) (j:=a8) 3 (iv ay) S aL (wN d) d d d aI (fun _ _ _ h=>h) (scal_I _) d d (lb d) fun a S=>leafL ⟨d,S⟩
  ·exact fM 4 none d d d d (.inl d) d d d
  ·exact fM 5 none d d d d (.inl d) d d d
  ·refine fJ [(55,_),(56,_)] 6 [some 4,some 5] fun G a w S=>?_
   exact sIdxV S (wN d) d d d aO d (lb d) fun a S=>leafL ⟨d,S⟩
  ·refine fJ [(57,_)] 7 [some 6] fun G a w S=>?_
   exact sLoadR (r:=(rI .i64)) (T:=3) (xs:=p1) (x:=az) (v:=.slice ad_1 p1.length cp_1) (vq:=aM) (j:=a5) 3 (iv az) S aP (wN d) d d d al (fun _ _ _ h=>h) (scal_I _) d d (lb d) fun a S=>leafL ⟨d,S⟩
  ·refine fJ [(54,_),(58,_)] 8 [some 3,some 7] fun G a w S=>?_
   exact sBin _ S (wN d) d d d (bEq _ _ _ _ .i64 ay az) d (lb d) fun a S=>leafL ⟨d,S⟩
  refine leafT (bc _ _ ?_)
  rcases iS h with ⟨ah,h⟩ | ⟨ah,h⟩
  rotate_left
  ·refine sCondF S d ah ?_
   exact wp_skip (leafB (leafT (⟨af,ag,Option.some.inj h,S.fix [0,1,2,3,4] [0] (by decide) d d d⟩)))
  refine sCondT S d ah (sRegion (sM S fun a S=>?_))
  refine sBin _ S (wN d) d d d (bAdd _ _ _ _ ag 1) d (lb d) fun a S=>sN S fun a S=>?_
  exact leafL (leafB (leafT (⟨af,w64 (ag + 1),Option.some.inj h,S.fix [0,1,2,3,4] [0] (by decide) d d d⟩)))
 obtain ⟨ab,aj,h⟩:=bS h
 obtain ⟨ac,ak,h⟩:=bS h
 rcases iS h with ⟨a9,h⟩ | ⟨a9,h⟩
 rotate_left
 ·obtain ⟨bp,bf,bg⟩:=pIdxR (P:=Try.prog) (r:=(rI .i64)) (T:=3) (v:=.slice ad_1 p1.length cp_1) (xs:=p1) (j:=a8) 25 3 3 S Try.underlying25 d d aj
  obtain ⟨bq,bh,bi⟩:=pIdxR (P:=Try.prog) (r:=(rI .i64)) (T:=3) (v:=.slice ad_1 p1.length cp_1) (xs:=p1) (j:=a5) 25 3 3 S Try.underlying25 d d ak
  refine sDraw (nf:=[]) (W:=[(0,34,.slice ad_1 p1.length cp_1),(1,35,iv a8),(2,36,bp),(3,37,iv ab),(4,38,.slice ad_1 p1.length cp_1),(5,39,iv a5),(6,40,bq),(7,41,iv ac),(8,42,.bool (ab == ac)),(9,43,.bool (ab == ac)),(10,44,undef),(11,45,undef),(12,46,undef),(13,47,undef),(14,48,.bool false)]) d S ?_
  refine node_by (A:=anc_raddleref17_changed_s1_0) 15 (by kernel_rfl) (by kernel_rfl) (by kernel_rfl) (by kernel_rfl) (by kernel_rfl) [0,1,2,3,4,5,6,7,8,9,10,11,12,13,14] (by kernel_rfl) (by decide) (by decide) (fF ?_ (fF ?_ (fF ?_ (fF ?_ (fF ?_ (fF ?_ (fF ?_ (fF ?_ (fF ?_ (fF ?_ (fF ?_ (fF ?_ (fF ?_ (fF ?_ (fF ?_ (trivial)))))))))))))))) [(1,.slice ad_1 p1.length cp_1),(2,.pointer (some ⟨b6,0,none⟩)),(4,.pointer (some ⟨b7,0,none⟩)),(5,.pointer (some ⟨a7,0,none⟩)),(6,iv a5),(7,iv aa),(8,iv af),(9,iv ag),(10,iv a8),(44,undef),(45,undef),(46,undef),(47,undef),(48,.bool false)] (fin_of [none,none,none,none,none,none,none,none,none,some 10,some 11,some 12,some 13,some 14] d (by kernel_rfl) (by kernel_rfl)) (fun _ a w S=>?_)
  ·exact fM 0 none d d d d (.inl d) d d d
  ·exact fM 1 none d d d d (.inl d) d d d
  ·refine fJ [(34,_),(35,_)] 2 [some 0,some 1] fun G a w S=>?_
   exact sIdxV S (wN d) d d d bf d (lb d) fun a S=>leafL ⟨d,S⟩
  ·refine fJ [(36,_)] 3 [some 2] fun G a w S=>?_
   exact sLoadR (r:=(rI .i64)) (T:=3) (xs:=p1) (x:=ab) (v:=.slice ad_1 p1.length cp_1) (vq:=bp) (j:=a8) 3 (iv ab) S bg (wN d) d d d aj (fun _ _ _ h=>h) (scal_I _) d d (lb d) fun a S=>leafL ⟨d,S⟩
  ·exact fM 4 none d d d d (.inl d) d d d
  ·exact fM 5 none d d d d (.inl d) d d d
  ·refine fJ [(38,_),(39,_)] 6 [some 4,some 5] fun G a w S=>?_
   exact sIdxV S (wN d) d d d bh d (lb d) fun a S=>leafL ⟨d,S⟩
  ·refine fJ [(40,_)] 7 [some 6] fun G a w S=>?_
   exact sLoadR (r:=(rI .i64)) (T:=3) (xs:=p1) (x:=ac) (v:=.slice ad_1 p1.length cp_1) (vq:=bq) (j:=a5) 3 (iv ac) S bi (wN d) d d d ak (fun _ _ _ h=>h) (scal_I _) d d (lb d) fun a S=>leafL ⟨d,S⟩
  ·refine fJ [(37,_),(41,_)] 8 [some 3,some 7] fun G a w S=>?_
   exact sBin _ S (wN d) d d d (bEq _ _ _ _ .i64 ab ac) d (lb d) fun a S=>leafL ⟨d,S⟩
  ·exact fM 9 (some 8) d d d d (.inl d) d d d
  ·refine fJ [(2,_),(43,_)] 10 [none,some 9] fun G a w S=>?_
   exact sSk S d d d a9 d d fun a S=>leafL ⟨d,S⟩
  ·refine fJ [(10,_),(43,_)] 11 [none,some 9] fun G a w S=>?_
   exact sSk S d d d a9 d d fun a S=>leafL ⟨d,S⟩
  ·refine fJ [(7,_),(43,_)] 12 [none,some 9] fun G a w S=>?_
   exact sSk S d d d a9 d d fun a S=>leafL ⟨d,S⟩
  ·refine fJ [(44,_),(45,_),(46,_),(43,_)] 13 [some 10,some 11,some 12,some 9] fun G a w S=>?_
   exact sSk S d d d a9 d d fun a S=>leafL ⟨d,S⟩
  ·refine fJ [(43,_),(47,_)] 14 [some 9,some 13] fun G a w S=>?_
   exact sPickF (.bool false) S (wN d) d d a9 d d (lb d) fun a S=>leafL ⟨d,S⟩
  exact leafT (⟨false,Option.some.inj h,S.fix [0,1,2,3,4] [0] (by decide) d d d⟩)
 obtain ⟨am,bj,h⟩:=bS h
 obtain ⟨br,bk,bl⟩:=pIdxR (P:=Try.prog) (r:=(rI .i64)) (T:=3) (v:=.slice ad_1 p1.length cp_1) (xs:=p1) (j:=a8) 25 3 3 S Try.underlying25 d d aj
 obtain ⟨bt,bm,bn⟩:=pIdxR (P:=Try.prog) (r:=(rI .i64)) (T:=3) (v:=.slice ad_1 p1.length cp_1) (xs:=p1) (j:=a5) 25 3 3 S Try.underlying25 d d ak
 refine sDraw (nf:=[]) (W:=[(0,34,.slice ad_1 p1.length cp_1),(1,35,iv a8),(2,36,br),(3,37,iv ab),(4,38,.slice ad_1 p1.length cp_1),(5,39,iv a5),(6,40,bt),(7,41,iv ac),(8,42,.bool (ab == ac)),(9,43,.bool (ab == ac)),(10,44,.agg #[iv p0.W,iv p0.H,.slice a3 p0.Bits.length a4]),(11,45,iv a8),(12,46,iv aa),(13,47,.bool am),(14,48,.bool am)]) d S ?_
 refine node_by (A:=anc_raddleref17_changed_s1_0) 15 (by kernel_rfl) (by kernel_rfl) (by kernel_rfl) (by kernel_rfl) (by kernel_rfl) [0,1,2,3,4,5,6,7,8,9,10,11,12,13,14] (by kernel_rfl) (by decide) (by decide) (fF ?_ (fF ?_ (fF ?_ (fF ?_ (fF ?_ (fF ?_ (fF ?_ (fF ?_ (fF ?_ (fF ?_ (fF ?_ (fF ?_ (fF ?_ (fF ?_ (fF ?_ (trivial)))))))))))))))) [(1,.slice ad_1 p1.length cp_1),(2,.pointer (some ⟨b6,0,none⟩)),(4,.pointer (some ⟨b7,0,none⟩)),(5,.pointer (some ⟨a7,0,none⟩)),(6,iv a5),(7,iv aa),(8,iv af),(9,iv ag),(10,iv a8),(44,.agg #[iv p0.W,iv p0.H,.slice a3 p0.Bits.length a4]),(45,iv a8),(46,iv aa),(47,.bool am),(48,.bool am)] (fin_of [none,none,none,none,none,none,none,none,none,some 10,some 11,some 12,some 13,some 14] d (by kernel_rfl) (by kernel_rfl)) (fun _ a w S=>?_)
 ·exact fM 0 none d d d d (.inl d) d d d
 ·exact fM 1 none d d d d (.inl d) d d d
 ·refine fJ [(34,_),(35,_)] 2 [some 0,some 1] fun G a w S=>?_
  exact sIdxV S (wN d) d d d bk d (lb d) fun a S=>leafL ⟨d,S⟩
 ·refine fJ [(36,_)] 3 [some 2] fun G a w S=>?_
  exact sLoadR (r:=(rI .i64)) (T:=3) (xs:=p1) (x:=ab) (v:=.slice ad_1 p1.length cp_1) (vq:=br) (j:=a8) 3 (iv ab) S bl (wN d) d d d aj (fun _ _ _ h=>h) (scal_I _) d d (lb d) fun a S=>leafL ⟨d,S⟩
 ·exact fM 4 none d d d d (.inl d) d d d
 ·exact fM 5 none d d d d (.inl d) d d d
 ·refine fJ [(38,_),(39,_)] 6 [some 4,some 5] fun G a w S=>?_
  exact sIdxV S (wN d) d d d bm d (lb d) fun a S=>leafL ⟨d,S⟩
 ·refine fJ [(40,_)] 7 [some 6] fun G a w S=>?_
  exact sLoadR (r:=(rI .i64)) (T:=3) (xs:=p1) (x:=ac) (v:=.slice ad_1 p1.length cp_1) (vq:=bt) (j:=a5) 3 (iv ac) S bn (wN d) d d d ak (fun _ _ _ h=>h) (scal_I _) d d (lb d) fun a S=>leafL ⟨d,S⟩
 ·refine fJ [(37,_),(41,_)] 8 [some 3,some 7] fun G a w S=>?_
  exact sBin _ S (wN d) d d d (bEq _ _ _ _ .i64 ab ac) d (lb d) fun a S=>leafL ⟨d,S⟩
 ·exact fM 9 (some 8) d d d d (.inl d) d d d
 ·refine fJ [(2,_),(43,_)] 10 [none,some 9] fun G a w S=>?_
  exact sLoadN (p:=b6) (off:=0) (T:=24) (vs:=[iv p0.W,iv p0.H,.slice a3 p0.Bits.length a4]) 0 [iv p0.W,iv p0.H,.slice a3 p0.Bits.length a4] S (wG 9 true 43 d d d a9) d d d d d d d (lb d) fun a S=>leafL ⟨d,S⟩
 ·refine fJ [(10,_),(43,_)] 11 [none,some 9] fun G a w S=>?_
  exact sMove (iv a8) S (wG 9 true 43 d d d a9) (.inl d) d d (lb d) fun a S=>leafL ⟨d,S⟩
 ·refine fJ [(7,_),(43,_)] 12 [none,some 9] fun G a w S=>?_
  exact sMove (iv aa) S (wG 9 true 43 d d d a9) (.inl d) d d (lb d) fun a S=>leafL ⟨d,S⟩
 ·refine fJ [(44,_),(45,_),(46,_),(43,_)] 13 [some 10,some 11,some 12,some 9] fun G a w S=>?_
  have S1:=S.mem
  have S1:=S1.learn (fRep r_api_Grid (.agg #[iv p0.W,iv p0.H,.slice a3 p0.Bits.length a4]) p0) ⟨_,d,S1.know (i:=0) (e:=fRep (rL rB) (.slice a3 p0.Bits.length a4) p0.Bits) d⟩
  refine sCallQ (X:=Unit) (f:=22) (vs:=[.agg #[iv p0.W,iv p0.H,.slice a3 p0.Bits.length a4],iv a8,iv aa]) (val:=fun _=>.bool am) S (wG 9 true 43 d d d a9) d callee22 d (S1.quiet [0] d) (fun E1 w1 S1=>c_raddleref01_At E1 w1 p0 (.agg #[iv p0.W,iv p0.H,.slice a3 p0.Bits.length a4]) a8 aa am bj S1) d (lb d) fun _ a w S=>?_
  exact leafL ⟨d,S⟩
 ·refine fJ [(43,_),(47,_)] 14 [some 9,some 13] fun G a w S=>?_
  exact sPickT (.bool am) S (wN d) d d a9 d d (lb d) fun a S=>leafL ⟨d,S⟩
 exact leafT (⟨am,Option.some.inj h,S.fix [0,1,2,3,4] [0] (by decide) d d d⟩)
noncomputable def raddleref17_numbered_l1 (p0:(List Int)):(Int × Int)→Option ((Int × Int) ⊕ (Bool ⊕ Int)):=fun s0=>match s0 with
 | (s9,a0)=>
  if decide (a0 < (p0.length:Int)) then
   Option.bind (α:=Int ⊕ Bool) (
    (idxO p0 a0).bind fun a2=>
    if decide (s9 < a2) then
     some (.inr false)
    else
     if a2 == s9 then
      some (.inl (w64 (s9 + 1)))
     else
      some (.inl s9)) fun z0=>match z0 with
    | .inl a3=>
     some (.inl (a3,w64 (a0 + 1)))
    | .inr z=>
     some (.inr (.inl z))
  else
   some (.inr (.inr s9))
noncomputable def F_raddleref17_numbered (p0:(List Int)) (p1:Int):Option Bool:=
 Option.bind (α:=Int ⊕ Bool) (
  (whileO (raddleref17_numbered_l1 p0) (0,0)).bind fun z0=>match z0 with
   | .inl z=>
    some (.inr z)
   | .inr a0=>
    some (.inl a0)) fun z0=>match z0 with
  | .inl o5=>
   some (decide (o5 ≤ p1))
  | .inr z=>
   some z
theorem c_raddleref17_numbered (E:Nat→Prop) (w0:World) (p0:(List Int)) (v0:Value) (p1:Int) (r:Bool) (h:F_raddleref17_numbered p0 p1=some r) (S:St0 E [] w0 w0 [] [fRep (rL (rI .i64)) (v0) p0]) :
 Calls Try.prog 51 #[v0,iv p1] w0 (Ret (X:=Unit) E [] w0 (fun _=>.bool r) (fun _=>[]) (fun _=>[])):=by
 unfold F_raddleref17_numbered at h
 obtain ⟨a3,a4,_,rfl,_⟩:=S.know (i:=0) (e:=fRep (rL (rI .i64)) (v0) p0) d
 refine sEnter (args:=[.slice a3 p0.length a4,iv p1]) 30 Try.func51 d d (by simp) S (fun a S=>?_)
 refine sSeq (fun K3 au=>sRegion (sN S fun a S=>?_))
 refine lT (au _ _ (sSeq (fun K4 av=>sRegion (sN S fun a S=>?_))))
 refine lT (av _ _ ?_)
 obtain ⟨t6,h,g7⟩:=bS h
 refine sCut (fun a w=>∃ o5,.inl o5=t6∧St [] E [] w0 30 a w [(1,iv p1),(5,iv o5)] [] []) ?_ (fun a w hI=>?_)
 rotate_left
 ·obtain ⟨o5,rfl,S⟩:=hI
  have h:=g7
  try dsimp only at h
  refine sSeq (fun ay ab=>sRegion (sM S fun a S=>?_))
  refine sM S fun a S=>?_
  refine sBin _ S (wN d) d d d (bLe _ _ _ _ .i64 o5 p1) d (lb d) fun a S=>sN S fun a S=>?_
  refine lT (ab _ _ ?_)
  obtain rfl:=tS h
  exact wp_ret (sRet (.bool (decide (o5 ≤ p1))) S (rsl1 d (rvT (t:=4) (v:=.bool (decide (o5 ≤ p1))) S d)) ⟨(),d,S.mem.sel [] [] (by decide) d d⟩)
 refine sSeq (fun K8 aw=>sRegion (sN S fun a S=>?_))
 refine lT (aw _ _ (wp_block ?_))
 obtain ⟨az,hl,al⟩:=bS h
 refine sLoop hl (fun s0 a w=>match s0 with | (s9,a2)=>St [] E [] w0 30 a w [(0,.slice a3 p0.length a4),(1,iv p1),(5,iv s9),(6,iv a2)] [] [fRep (rL (rI .i64)) (.slice a3 p0.length a4) p0]) (S.fix [] [0] (by decide) d d d) ?_
 clear hl h
 intro s0 a w c0 hI h a8
 obtain ⟨s9,a2⟩:=s0
 unfold raddleref17_numbered_l1 at h
 dsimp only at h hI
 have S:=hI
 refine sSeq (fun aA ac=>sSeq (fun aC ae=>sRegion (sM S fun a S=>?_)))
 refine sM S fun a S=>?_
 refine sLen S (wN d) d Try.underlying25 d d (lb d) fun a S=>sBin _ S (wN d) d d d (bLt _ _ _ _ .i64 a2 (p0.length:Int)) d (lb d) fun a S=>lT (ae _ _ ?_)
 rcases iS h with ⟨a5,h⟩ | ⟨a5,h⟩
 rotate_left
 ·refine sCondF S d a5 ?_
  obtain rfl:=tS h
  obtain rfl:=a8 _ d
  have h:=al
  try dsimp only at h
  exact wp_exit (xThen (xThen (xHit (leafT (⟨s9,Option.some.inj h,S.fix [] [] (by decide) d d d⟩)))))
 refine sCondT S d a5 (wp_skip (leafT (ac _ _ ?_)))
 obtain ⟨ax,h,am⟩:=bS h
 refine sCut (fun a w=>∃ aa,.inl aa=ax∧St [] E [] w0 30 a w [(0,.slice a3 p0.length a4),(1,iv p1),(5,iv aa),(6,iv a2)] [] [fRep (rL (rI .i64)) (.slice a3 p0.length a4) p0]) ?_ (fun a w hI=>?_)
 rotate_left
 ·obtain ⟨aa,rfl,S⟩:=hI
  have h:=am
  try dsimp only at h
  refine sRegion (sM S fun a S=>?_)
  refine sBin _ S (wN d) d d d (bAdd _ _ _ _ a2 1) d (lb d) fun a S=>sN S fun a S=>?_
  exact lT (⟨(aa,w64 (a2 + 1)),(Option.some.inj h).symm,(S.fix [] [0] (by decide) d d d)⟩)
 refine wp_block ?_
 refine sSeq (fun aG af=>sSeq (fun aH ag=>sRegion (sM S fun a S=>?_)))
 refine sM S fun a S=>?_
 obtain ⟨a0,a9,h⟩:=bS h
 obtain ⟨ao,ah,S⟩:=pIdx (P:=Try.prog) (r:=(rI .i64)) (v:=.slice a3 p0.length a4) (xs:=p0) (j:=a2) 25 3 0 S Try.underlying25 d d a9
 refine sIdxV S (wN d) d d d ah d (lb d) fun a S=>?_
 obtain ⟨ap,S⟩:=pLoad (r:=(rI .i64)) (q:=ao) (x:=a0) 0 S d
 obtain rfl:ap=iv a0:=S.mem.know (i:=1) (e:=fRep (rI .i64) (ap) a0) d
 refine sLoadV1 (vq:=ao) 0 (iv a0) S (wN d) d d d d d (lb d) fun a S=>sM S fun a S=>?_
 refine sBin _ S (wN d) d d d (bGt _ _ _ _ .i64 a0 s9) d (lb d) fun a S=>lT (ag _ _ ?_)
 rcases iS h with ⟨a6,h⟩ | ⟨a6,h⟩
 ·refine sCondT S d a6 (sSeq (fun aI ai=>sRegion (sN S fun a S=>?_)))
  refine lT (ai _ _ ?_)
  obtain rfl:=tS h
  have h:=am
  try dsimp only at h
  obtain rfl:=tS h
  obtain rfl:=a8 _ d
  have h:=al
  try dsimp only at h
  obtain rfl:=tS h
  have h:=g7
  try dsimp only at h
  obtain rfl:=tS h
  exact wp_ret (rThen (rBlock (rThen (rThen (rBlock (rThen (sRet (.bool false) S (rsl1 d (rvT (t:=4) (v:=.bool false) S d)) ⟨(),d,S.mem.sel [] [] (by decide) d d⟩)))))))
 refine sCondF S d a6 (wp_skip (leafT (af _ _ ?_)))
 refine sSeq (fun aJ aj=>sRegion (sM S fun a S=>?_))
 refine sM S fun a S=>?_
 obtain ⟨aq,ak,S⟩:=pIdx (P:=Try.prog) (r:=(rI .i64)) (v:=.slice a3 p0.length a4) (xs:=p0) (j:=a2) 25 3 3 S Try.underlying25 d d a9
 refine sIdxV S (wN d) d d d ak d (lb d) fun a S=>?_
 obtain ⟨ar,S⟩:=pLoad (r:=(rI .i64)) (q:=aq) (x:=a0) 0 S d
 obtain rfl:ar=iv a0:=S.mem.know (i:=1) (e:=fRep (rI .i64) (ar) a0) d
 refine sLoadV1 (vq:=aq) 0 (iv a0) S (wN d) d d d d d (lb d) fun a S=>sM S fun a S=>?_
 refine sBin _ S (wN d) d d d (bEq _ _ _ _ .i64 a0 s9) d (lb d) fun a S=>lT (aj _ _ ?_)
 rcases iS h with ⟨a7,h⟩ | ⟨a7,h⟩
 rotate_left
 ·refine sCondF S d a7 ?_
  exact wp_skip (leafB (leafT (⟨s9,Option.some.inj h,S.fix [] [6] (by decide) d d d⟩)))
 refine sCondT S d a7 (sRegion (sM S fun a S=>?_))
 refine sBin _ S (wN d) d d d (bAdd _ _ _ _ s9 1) d (lb d) fun a S=>sN S fun a S=>?_
 exact leafL (leafB (leafT (⟨w64 (s9 + 1),Option.some.inj h,S.fix [] [6] (by decide) d d d⟩)))
noncomputable def raddleref17_next_s0_l1 (p1:Int):(List Int × Int)→Option ((List Int × Int) ⊕ ((Bool × (List Int)) ⊕ (List Int))):=fun s0=>match s0 with
 | (s6,s7)=>
  if decide (0 ≤ s7) then
   (idxO s6 s7).bind fun a2=>
   (setO s6 s7 (w64 (a2 + 1))).bind fun a0=>
   (idxO a0 s7).bind fun a3=>
   if decide (a3 < p1) then
    some (.inr (.inl (true,a0)))
   else
    (setO a0 s7 0).bind fun a4=>
    some (.inl (a4,w64 (s7 - 1)))
  else
   some (.inr (.inr s6))
noncomputable def F_raddleref17_next_s0 (p0:(List Int)) (p1:Int):Option (Bool × (List Int)):=
 Option.bind (α:=List Int ⊕ (Bool × (List Int))) (
  (whileO (raddleref17_next_s0_l1 p1) (p0,w64 ((p0.length:Int) - 1))).bind fun z0=>match z0 with
   | .inl z=>
    some (.inr z)
   | .inr a0=>
    some (.inl a0)) fun z0=>match z0 with
  | .inl o2=>
   (keepO p0 o2).bind fun _=>
   some (false,o2)
  | .inr z=>
   (keepO p0 z.2).bind fun _=>
   some z
theorem c_raddleref17_next_s0 (E:Nat→Prop) (w0:World) (p0:(List Int)) (ad_0:Option Addr) (cp_0:Nat) (p1:Int) (r:(Bool × (List Int))) (h:F_raddleref17_next_s0 p0 p1=some r) (S:St0 E (keysL [eRow (rI .i64) 3 (.slice ad_0 p0.length cp_0) p0]) w0 w0 [eRow (rI .i64) 3 (.slice ad_0 p0.length cp_0) p0] []) :
 Calls Try.prog 52 #[.slice ad_0 p0.length cp_0,iv p1] w0 (Ret (X:=Unit) E (keysL [eRow (rI .i64) 3 (.slice ad_0 p0.length cp_0) p0]) w0 (fun _=>.bool r.1) (fun _=>[eRow (rI .i64) 3 (.slice ad_0 p0.length cp_0) r.2]) (fun _=>[])):=by
 unfold F_raddleref17_next_s0 at h
 refine sEnter (args:=[.slice ad_0 p0.length cp_0,iv p1]) 28 Try.func52 d d (by simp) S (fun a S=>?_)
 refine sSeq (fun K1 ay=>sRegion (sN S fun a S=>?_))
 refine lT (ay _ _ ?_)
 obtain ⟨t3,h,g4⟩:=bS h
 refine sCut (fun a w=>∃ o2,.inl o2=t3∧St [] E (keysL [eRow (rI .i64) 3 (.slice ad_0 p0.length cp_0) p0]) w0 28 a w [] [eRow (rI .i64) 3 (.slice ad_0 o2.length cp_0) o2] []) ?_ (fun a w hI=>?_)
 rotate_left
 ·obtain ⟨o2,rfl,S⟩:=hI
  have h:=g4
  try dsimp only at h
  refine sSeq (fun aI a9=>sRegion (sN S fun a S=>?_))
  refine lT (a9 _ _ ?_)
  obtain ⟨_,aa,h⟩:=bS h
  rw [keepO_v aa ad_0 cp_0] at S
  obtain rfl:=tS h
  exact wp_ret (sRet (.bool false) S (rsl1 d (rvT (t:=4) (v:=.bool false) S d)) ⟨(),d,S.mem.sel [0] [] (by decide) d d⟩)
 refine sSeq (fun K5 az=>sRegion (sM S fun a S=>?_))
 refine sLen S (wN d) d Try.underlying25 d d (lb d) fun a S=>sBin _ S (wN d) d d d (bSub _ _ _ _ (p0.length:Int) 1) d (lb d) fun a S=>sN S fun a S=>?_
 refine lT (az _ _ (wp_block ?_))
 obtain ⟨aJ,hl,g9⟩:=bS h
 refine sLoop hl (fun s0 a w=>match s0 with | (s6,s7)=>St [] E (keysL [eRow (rI .i64) 3 (.slice ad_0 p0.length cp_0) p0]) w0 28 a w [(0,.slice ad_0 s6.length cp_0),(1,iv p1),(5,iv s7)] [eRow (rI .i64) 3 (.slice ad_0 s6.length cp_0) s6] []) (S.fix [0] [] (by decide) d d d) ?_
 clear hl h
 intro s0 a w c0 hI h aw
 obtain ⟨s6,s7⟩:=s0
 unfold raddleref17_next_s0_l1 at h
 dsimp only at h hI
 have S:=hI
 refine sSeq (fun aK ab=>sSeq (fun aL ac=>sRegion (sM S fun a S=>?_)))
 refine sBin _ S (wN d) d d d (bGe _ _ _ _ .i64 s7 0) d (lb d) fun a S=>lT (ac _ _ ?_)
 rcases iS h with ⟨a2,h⟩ | ⟨a2,h⟩
 rotate_left
 ·refine sCondF S d a2 ?_
  obtain rfl:=tS h
  obtain rfl:=aw _ d
  have h:=g9
  try dsimp only at h
  exact wp_exit (xThen (xThen (xHit (leafT (⟨s6,Option.some.inj h,S.fix [0] [] (by decide) d d d⟩)))))
 refine sCondT S d a2 (wp_skip (leafT (ab _ _ ?_)))
 refine sSeq (fun aM ae=>wp_block ?_)
 refine sSeq (fun aO af=>sRegion (sM S fun a S=>?_))
 refine sM S fun a S=>?_
 obtain ⟨a6,a3,h⟩:=bS h
 obtain ⟨aA,ag,ah⟩:=pIdxR (P:=Try.prog) (r:=(rI .i64)) (T:=3) (v:=.slice ad_0 s6.length cp_0) (xs:=s6) (j:=s7) 25 3 0 S Try.underlying25 d d a3
 refine sIdxV S (wN d) d d d ag d (lb d) fun a S=>sLoadR (r:=(rI .i64)) (T:=3) (xs:=s6) (x:=a6) (v:=.slice ad_0 s6.length cp_0) (vq:=aA) (j:=s7) 0 (iv a6) S ah (wN d) d d d a3 (fun _ _ _ h=>h) (scal_I _) d d (lb d) fun a S=>sBin _ S (wN d) d d d (bAdd _ _ _ _ a6 1) d (lb d) fun a S=>?_
 obtain ⟨aC,ai,aj⟩:=pIdxR (P:=Try.prog) (r:=(rI .i64)) (T:=3) (v:=.slice ad_0 s6.length cp_0) (xs:=s6) (j:=s7) 25 3 0 S Try.underlying25 d d a3
 refine sIdxV S (wN d) d d d ai d (lb d) fun a S=>?_
 obtain ⟨a0,a7,h⟩:=bS h
 refine sStoreR (r:=(rI .i64)) (T:=3) (xs:=s6) (ys:=a0) (y:=(w64 (a6 + 1))) (v:=.slice ad_0 s6.length cp_0) (vq:=aC) (u:=iv (w64 (a6 + 1))) (j:=s7) 0 S aj (wN d) d d d d d a7 d d fun a w S=>?_
 rw [setO_v a7 ad_0 cp_0] at S
 refine lT (af _ _ (sSeq (fun aP ak=>sSeq (fun aQ al=>sRegion (sM S fun a S=>?_)))))
 refine sM S fun a S=>?_
 obtain ⟨am,a4,h⟩:=bS h
 obtain ⟨aG,ao,ap⟩:=pIdxR (P:=Try.prog) (r:=(rI .i64)) (T:=3) (v:=.slice ad_0 a0.length cp_0) (xs:=a0) (j:=s7) 25 3 0 S Try.underlying25 d d a4
 refine sIdxV S (wN d) d d d ao d (lb d) fun a S=>sLoadR (r:=(rI .i64)) (T:=3) (xs:=a0) (x:=am) (v:=.slice ad_0 a0.length cp_0) (vq:=aG) (j:=s7) 0 (iv am) S ap (wN d) d d d a4 (fun _ _ _ h=>h) (scal_I _) d d (lb d) fun a S=>sM S fun a S=>?_
 refine sBin _ S (wN d) d d d (bLt _ _ _ _ .i64 am p1) d (lb d) fun a S=>lT (al _ _ ?_)
 rcases iS h with ⟨a5,h⟩ | ⟨a5,h⟩
 ·refine sCondT S d a5 (sSeq (fun aR aq=>sRegion (sN S fun a S=>?_)))
  refine lT (aq _ _ ?_)
  obtain rfl:=tS h
  obtain rfl:=aw _ d
  have h:=g9
  try dsimp only at h
  obtain rfl:=tS h
  have h:=g4
  try dsimp only at h
  obtain ⟨_,ar,h⟩:=bS h
  try rw [keepO_v ar ad_0 cp_0] at S
  obtain rfl:=tS h
  exact wp_ret (rThen (rBlock (rThen (rThen (rBlock (rThen (sRet (.bool true) S (rsl1 d (rvT (t:=4) (v:=.bool true) S d)) ⟨(),d,S.mem.sel [0] [] (by decide) d d⟩)))))))
 refine sCondF S d a5 (wp_skip (leafT (ak _ _ ?_)))
 refine sRegion (sM S fun a S=>?_)
 refine sM S fun a S=>?_
 obtain ⟨aH,au,av⟩:=pIdxR (P:=Try.prog) (r:=(rI .i64)) (T:=3) (v:=.slice ad_0 a0.length cp_0) (xs:=a0) (j:=s7) 25 3 0 S Try.underlying25 d d a4
 refine sIdxV S (wN d) d d d au d (lb d) fun a S=>?_
 obtain ⟨ax,a8,h⟩:=bS h
 refine sStoreR (r:=(rI .i64)) (T:=3) (xs:=a0) (ys:=ax) (y:=0) (v:=.slice ad_0 a0.length cp_0) (vq:=aH) (u:=iv 0) (j:=s7) 0 S av (wN d) d d d d d a8 d d fun a w S=>?_
 rw [setO_v a8 ad_0 cp_0] at S
 refine leafL (leafB (leafT (ae _ _ ?_)))
 refine sRegion (sM S fun a S=>?_)
 refine sBin _ S (wN d) d d d (bSub _ _ _ _ s7 1) d (lb d) fun a S=>sN S fun a S=>?_
 exact lT (⟨(ax,w64 (s7 - 1)),(Option.some.inj h).symm,(S.fix [0] [] (by decide) d d d)⟩)
noncomputable def raddleref17_best_l1 (p1:Int) (p0:api_Grid):(List Int × List Int × Int)→Option ((List Int × List Int × Int) ⊕ ((List Int) × Int)):=fun s0=>match s0 with
 | (a2,a3,a4)=>
  Option.bind (α:=(List Int × List Int × Int)) (
   (F_raddleref17_numbered a2 p1).bind fun a9=>
   if a9 then
    (F_raddleref17_changed_s1 p0 a2).bind fun a0=>
    (F_raddleref17_Apart a0.1 p0).bind fun a5=>
    Option.bind (α:=Bool) (
     if (a3.length:Int) == 0 then
      some true
     else
      some (decide (a5 < a4))) fun aa=>
    if aa then
     (appO ([]:List Int) a0.2).bind fun ab=>
     some (a0.2,ab,a5)
    else
     some (a0.2,a3,a4)
   else
    some (a2,a3,a4)) fun (ac,a6,a7)=>
  (F_raddleref17_next_s0 ac (if p0.W < p1 then p0.W else p1)).bind fun a8=>
  if !a8.1 then
   some (.inr (a6,a7))
  else
   some (.inl (a8.2,a6,a7))
noncomputable def F_raddleref17_best (p0:api_Grid) (p1:Int):Option ((List Int) × Int):=
 (makeO p0.W (0:Int)).bind fun a0=>
 (whileO (raddleref17_best_l1 p1 p0) (a0,([]:List Int),0)).bind fun z=>
  some z
def c_raddleref17_best_val (r:((List Int) × Int)) (x:Value):Value:=.tuple #[x,.int .i64 r.2]
def c_raddleref17_best_D (r:((List Int) × Int)) (x:Value):List Fact:=[fRep (rL (rI .i64)) x r.1]
theorem c_raddleref17_best (E:Nat→Prop) (w0:World) (p0:api_Grid) (v0:Value) (p1:Int) (r:((List Int) × Int)) (h:F_raddleref17_best p0 p1=some r) (S:St0 E [] w0 w0 [] [fRep r_api_Grid (v0) p0]) :
 Calls Try.prog 44 #[v0,iv p1] w0 (Ret (X:=Value) E [] w0 (c_raddleref17_best_val r) (fun _=>[]) (c_raddleref17_best_D r)):=by
 unfold F_raddleref17_best at h
 obtain ⟨u1,rfl,aR⟩:=S.know (i:=0) (e:=fRep r_api_Grid (v0) p0) d
 have S:=S.learn (fRep (rL rB) u1 p0.Bits) aR
 obtain ⟨a2,a3,_,rfl,_⟩:=aR
 refine sEnter (args:=[.agg #[iv p0.W,iv p0.H,.slice a2 p0.Bits.length a3],iv p1]) 42 Try.func44 d d (by simp) S (fun a S=>?_)
 refine sSeq (fun K5 aT=>sRegion (sBox (v:=.agg #[iv p0.W,iv p0.H,.slice a2 p0.Bits.length a3]) S (wN d) d d [iv p0.W,iv p0.H,.slice a2 p0.Bits.length a3] d d (lb d) fun a b6 w S=>sN S fun a S=>?_))
 refine sN S fun a S=>?_
 refine lT (aT _ _ (sSeq (fun K7 aU=>sRegion (sField (b:=b6) (off:=0) 0 0 S (wN d) d d d d d (lb d) fun a S=>sLoad1 0 (iv p0.W) S (wN d) d d d d d d (lb d) fun a S=>?_))))
 obtain ⟨aV,aq,h⟩:=bS h
 refine sMake (r:=(rI .i64)) (m:=p0.W) (xs:=aV) (iv 0) (0:Int) 8 S (wN d) d Try.underlying25 d d (by decide) (fun _ _=>d) d d aq d (lb d) fun a w a4 a5 S=>sN S fun a S=>?_
 refine lT (aU _ _ (sSeq (fun b5 ar=>sRegion (sN S fun a S=>?_))))
 refine lT (ar _ _ (sSeq (fun b8 au=>sRegion (sN S fun a S=>?_))))
 refine lT (au _ _ (wp_block ?_))
 have S:=S.nilRow (rI .i64) 3 (α:=Int)
 obtain ⟨b9,hl,aW⟩:=bS h
 refine sLoop hl (fun s0 a w=>match s0 with | (a6,ac,aj)=>∃ a7,∃ a8,St [] E [] w0 42 a w [(1,iv p1),(2,.pointer (some ⟨b6,0,none⟩)),(6,.slice a4 a6.length a5),(7,.slice a7 ac.length a8),(8,iv aj)] [eBox b6 24 [iv p0.W,iv p0.H,.slice a2 p0.Bits.length a3],eRow (rI .i64) 3 (.slice a4 a6.length a5) a6,eRow (rI .i64) 3 (.slice a7 ac.length a8) ac] [fRep (rL rB) (.slice a2 p0.Bits.length a3) p0.Bits]) ⟨none,0,S.fix [2,1,0] [0] (by decide) d d d⟩ ?_
 clear hl h
 intro s0 a w c0 hI h av
 obtain ⟨a6,ac,aj⟩:=s0
 unfold raddleref17_best_l1 at h
 dsimp only at h hI
 obtain ⟨a7,a8,S⟩:=hI
 refine wp_block ?_
 obtain ⟨aX,h,aZ⟩:=bS h
 refine sCut (fun a w=>∃ ah,∃ ae,∃ ao,(ah,ae,ao)=aX∧∃ a9,∃ aa,St [] E [] w0 42 a w [(1,iv p1),(2,.pointer (some ⟨b6,0,none⟩)),(6,.slice a4 ah.length a5),(7,.slice a9 ae.length aa),(8,iv ao)] [eBox b6 24 [iv p0.W,iv p0.H,.slice a2 p0.Bits.length a3],eRow (rI .i64) 3 (.slice a4 ah.length a5) ah,eRow (rI .i64) 3 (.slice a9 ae.length aa) ae] [fRep (rL rB) (.slice a2 p0.Bits.length a3) p0.Bits]) ?_ (fun a w hI=>?_)
 rotate_left
 ·obtain ⟨ah,ae,ao,rfl,a9,aa,S⟩:=hI
  have h:=aZ
  try dsimp only at h
  refine sSeq (fun ba aw=>sRegion (sM S fun a S=>?_))
  refine sM S fun a S=>?_
  refine sField (b:=b6) (off:=0) 0 0 S (wN d) d d d d d (lb d) fun a S=>sLoad1 0 (iv p0.W) S (wN d) d d d d d d (lb d) fun a S=>sMin2 (p:=p1) (q:=p0.W) S (wN d) d d d d (lb d) fun a S=>?_
  obtain ⟨ap,ax,h⟩:=bS h
  refine sCall (X:=Unit) (f:=52) (vs:=[.slice a4 ah.length a5,iv (if p0.W < p1 then p0.W else p1)]) (val:=fun _=>.bool ap.1) (B':=fun _=>[eRow (rI .i64) 3 (.slice a4 ah.length a5) ap.2]) (D':=fun _=>[]) [eRow (rI .i64) 3 (.slice a4 ah.length a5) ah] [eBox b6 24 [iv p0.W,iv p0.H,.slice a2 p0.Bits.length a3],eRow (rI .i64) 3 (.slice a9 ae.length aa) ae] [] [1,0,2] [] S (wN d) d callee52 d (by decide) d d (fun E1 w1 S1=>c_raddleref17_next_s0 E1 w1 ah a4 a5 (if p0.W < p1 then p0.W else p1) ap ax S1) d (lb d) fun _ a w S=>?_
  have ay:=row_v (S.mem.hold (i:=0) (e:=eRow (rI .i64) 3 (.slice a4 ah.length a5) ap.2) d)
  rw [ay] at S
  refine sNot (b:=ap.1) S (wN d) d d d (lb d) fun a S=>lT (aw _ _ ?_)
  rcases iS h with ⟨ak,h⟩ | ⟨ak,h⟩
  rotate_left
  ·refine sCondF S d ak ?_
   exact wp_skip (leafB (leafT (⟨(ap.2,ae,ao),(Option.some.inj h).symm,⟨a9,aa,S.fix [1,0,2] [0] (by decide) d d d⟩⟩)))
  refine sCondT S d ak (sSeq (fun bb az=>sRegion (sM S fun a S=>?_)))
  refine sM S fun a S=>?_
  refine sN S fun a S=>?_
  refine sN S fun a S=>?_
  refine lT (az _ _ ?_)
  obtain rfl:=tS h
  obtain rfl:=av _ d
  have h:=aW
  try dsimp only at h
  obtain rfl:=tS h
  have S:=S.shutR (r:=(rI .i64)) (T:=3) (v:=.slice a9 ae.length aa) (xs:=ae) 2 d
  exact wp_ret (rBlock (rThen (rBlock (sRet (.tuple #[.slice a9 ae.length aa,iv ao]) S (rsl2 d (rvT (t:=4) (v:=.slice a9 ae.length aa) S d) (rvT (t:=5) (v:=iv ao) S d)) ⟨(.slice a9 ae.length aa),d,S.mem.sel [] [0] (by decide) d d⟩))))
 refine sSeq (fun bc aA=>sRegion (sM S fun a S=>?_))
 refine sM S fun a S=>?_
 obtain ⟨aS,aC,h⟩:=bS h
 have S1:=S.mem
 have S1:=S1.shutR (r:=(rI .i64)) (T:=3) (v:=.slice a4 a6.length a5) (xs:=a6) 1 d
 refine sCq [.slice a4 a6.length a5,iv p1] (.bool aS) S callee51 (S1.quiet [0] d) (fun E1 w1 S1=>c_raddleref17_numbered E1 w1 a6 (.slice a4 a6.length a5) p1 aS aC S1) fun a w S=>?_
 refine lT (aA _ _ ?_)
 rcases iS h with ⟨al,h⟩ | ⟨al,h⟩
 rotate_left
 ·refine sCondF S d al ?_
  exact wp_skip (leafT (⟨a6,ac,aj,Option.some.inj h,a7,a8,S.fix [0,1,2] [0] (by decide) d d d⟩))
 refine sCondT S d al (sSeq (fun bf aG=>?_))
 obtain ⟨a0,aH,h⟩:=bS h
 obtain ⟨ai,aI,h⟩:=bS h
 refine sDraw (nf:=[2]) (W:=[(0,16,.agg #[iv p0.W,iv p0.H,.slice a2 p0.Bits.length a3]),(1,17,.slice a4 a6.length a5),(3,19,.agg #[iv p0.W,iv p0.H,.slice a2 p0.Bits.length a3])]) d S ?_
 refine node_by (A:=[[],[],[0,1],[],[0,1,2,3],[0,1,2,3,4]]) (nf:=[2]) (Y:=[]) (W:=[(0,16,.agg #[iv p0.W,iv p0.H,.slice a2 p0.Bits.length a3]),(1,17,.slice a4 a6.length a5),(3,19,.agg #[iv p0.W,iv p0.H,.slice a2 p0.Bits.length a3])]) 6 (by kernel_rfl) (by kernel_rfl) (by kernel_rfl) (by kernel_rfl) (by kernel_rfl) [0,1,3] (by kernel_rfl) (by decide) (by decide) (fF ?_ (fF ?_ (fN ?_ (fF ?_ (fE 2 (fE 2 (trivial))))))) [] (fun q hq=>by cases hq) (fun hY=>absurd (hY 2 (by decide)) (by decide))
 ·refine fJ [(2,_)] 0 [none] fun G a w S=>?_
  exact sLoadN (p:=b6) (off:=0) (T:=24) (vs:=[iv p0.W,iv p0.H,.slice a2 p0.Bits.length a3]) 0 [iv p0.W,iv p0.H,.slice a2 p0.Bits.length a3] S (wN d) d d d d d d d (lb d) fun a S=>leafL ⟨d,S⟩
 ·exact fM 1 none d d d d (.inl d) d d d
 ·refine ⟨_,[(16,.agg #[iv p0.W,iv p0.H,.slice a2 p0.Bits.length a3]),(17,.slice a4 a6.length a5)],d,(srcs_of [some 0,some 1] d d d),fun G a w S=>?_⟩
  have S:=S.learn (fRep r_api_Grid (.agg #[iv p0.W,iv p0.H,.slice a2 p0.Bits.length a3]) p0) ⟨_,d,S.mem.know (i:=0) (e:=fRep (rL rB) (.slice a2 p0.Bits.length a3) p0.Bits) d⟩
  refine sCall (X:=Option Addr × Nat) (f:=38) (vs:=[.agg #[iv p0.W,iv p0.H,.slice a2 p0.Bits.length a3],.slice a4 a6.length a5]) (val:=fun x=>.agg #[iv a0.1.W,iv a0.1.H,.slice x.1 a0.1.Bits.length x.2]) (B':=fun x=>[eRow rB 4 (.slice x.1 a0.1.Bits.length x.2) a0.1.Bits,eRow (rI .i64) 3 (.slice a4 a6.length a5) a0.2]) (D':=fun _=>[]) [eRow (rI .i64) 3 (.slice a4 a6.length a5) a6] [eBox b6 24 [iv p0.W,iv p0.H,.slice a2 p0.Bits.length a3],eRow (rI .i64) 3 (.slice a7 ac.length a8) ac] [fRep r_api_Grid (.agg #[iv p0.W,iv p0.H,.slice a2 p0.Bits.length a3]) p0] [1,0,2] [0] S (wN d) d callee38 d (by decide) d d (fun E1 w1 S1=>c_raddleref17_changed_s1 E1 w1 p0 (.agg #[iv p0.W,iv p0.H,.slice a2 p0.Bits.length a3]) a6 a4 a5 a0 aH S1) d (lb d) fun xx a w S=>?_
  obtain ⟨af,ag⟩:=xx
  dsimp only at S
  refine leafL ⟨d,_,_,.inl ⟨18,(.agg #[iv a0.1.W,iv a0.1.H,.slice af a0.1.Bits.length ag]),[(4,20,iv ai),(5,9,iv ai)],d,S,hz_of d,?_⟩⟩
  refine node_by (A:=[[],[],[0,1],[],[0,1,2,3],[0,1,2,3,4]]) (nf:=[2]) (Y:=[2]) 6 (by kernel_rfl) (by kernel_rfl) (by kernel_rfl) (by kernel_rfl) (by kernel_rfl) [4,5,2,0,1,3] (by kernel_rfl) (by decide) (by decide) (fD 2 (fD 2 (fY (fF ?_ (fF ?_ (fF ?_ (trivial))))))) [(1,iv p1),(2,.pointer (some ⟨b6,0,none⟩)),(6,.slice a4 a6.length a5),(7,.slice a7 ac.length a8),(8,iv aj),(9,iv ai)] (fin_of [none,none,none,none,none,some 1] d (by kernel_rfl) (by kernel_rfl)) (fun _ a w S=>?_)
  ·refine fJ [(2,_)] 5 [none] fun G a w S=>?_
   exact sLoadN (p:=b6) (off:=0) (T:=24) (vs:=[iv p0.W,iv p0.H,.slice a2 p0.Bits.length a3]) 2 [iv p0.W,iv p0.H,.slice a2 p0.Bits.length a3] S (wN d) d d d d d d d (lb d) fun a S=>leafL ⟨d,S⟩
  ·refine fJ [(18,_),(19,_)] 0 [some 2,some 5] fun G a w S=>?_
   have S1:=S.mem
   have S1:=S1.shutR (r:=rB) (T:=4) (v:=.slice af a0.1.Bits.length ag) (xs:=a0.1.Bits) 0 d
   have S1:=S1.learn (fRep r_api_Grid (.agg #[iv a0.1.W,iv a0.1.H,.slice af a0.1.Bits.length ag]) a0.1) ⟨_,d,S1.know (i:=0) (e:=fRep (rL rB) (.slice af a0.1.Bits.length ag) a0.1.Bits) d⟩
   refine sCq [.agg #[iv a0.1.W,iv a0.1.H,.slice af a0.1.Bits.length ag],.agg #[iv p0.W,iv p0.H,.slice a2 p0.Bits.length a3]] (iv ai) S callee25 (S1.quiet [0,2] d) (fun E1 w1 S1=>c_raddleref17_Apart E1 w1 a0.1 (.agg #[iv a0.1.W,iv a0.1.H,.slice af a0.1.Bits.length ag]) p0 (.agg #[iv p0.W,iv p0.H,.slice a2 p0.Bits.length a3]) ai aI S1) fun a w S=>?_
   exact leafL ⟨d,S⟩
  ·exact fM 1 (some 0) d d d d (.inr d) d d d
  have aJ:=row_v (S.mem.hold (i:=1) (e:=eRow (rI .i64) 3 (.slice a4 a6.length a5) a0.2) d)
  rw [aJ] at S
  refine leafT (aG _ _ ?_)
  obtain ⟨b1,h,b3⟩:=bS h
  refine sCut (fun a w=>∃ aK,aK=b1∧St [] E [] w0 42 a w [(1,iv p1),(2,.pointer (some ⟨b6,0,none⟩)),(6,.slice a4 a0.2.length a5),(7,.slice a7 ac.length a8),(8,iv aj),(9,iv ai),(28,.bool aK)] [eBox b6 24 [iv p0.W,iv p0.H,.slice a2 p0.Bits.length a3],eRow (rI .i64) 3 (.slice a4 a0.2.length a5) a0.2,eRow (rI .i64) 3 (.slice a7 ac.length a8) ac] [fRep (rL rB) (.slice a2 p0.Bits.length a3) p0.Bits]) ?_ (fun a w hI=>?_)
  rotate_left
  ·obtain ⟨aK,rfl,S⟩:=hI
   have h:=b3
   try dsimp only at h
   rcases iS h with ⟨am,h⟩ | ⟨am,h⟩
   rotate_left
   ·refine sCondF S d am ?_
    exact wp_skip (leafT (⟨a0.2,ac,aj,Option.some.inj h,a7,a8,S.fix [0,1,2] [0] (by decide) d d d⟩))
   refine sCondT S d am (sRegion (sLit0 (α:=Int) (rI .i64) (T:=3) S (wN d) d Try.underlying25 d d (lb d) fun a w aL aM S=>sM S fun a S=>?_))
   obtain ⟨b4,aO,h⟩:=bS h
   refine sApp (r:=(rI .i64)) (T:=3) (xs:=([]:List Int)) (ys:=a0.2) (v:=.slice aL ([]:List Int).length aM) (u:=.slice a4 a0.2.length a5) 0 (iv 0) 8 S (wN d) d Try.underlying25 d d (by decide) d d d (src_R (T:=3) 2 S.mem d) aO d (lb d) fun a w aP aQ S=>sM S fun a S=>?_
   refine sN S fun a S=>?_
   refine sN S fun a S=>?_
   exact lT (⟨a0.2,b4,ai,Option.some.inj h,aP,aQ,S.fix [1,2,0] [0] (by decide) d d d⟩)
  refine sRegion (sM S fun a S=>?_)
  refine sLen S (wN d) d Try.underlying25 d d (lb d) fun a S=>sBin _ S (wN d) d d d (bEq _ _ _ _ .i64 (ac.length:Int) 0) d (lb d) fun a S=>sM S fun a S=>?_
  rcases iS h with ⟨ab,h⟩ | ⟨ab,h⟩
  ·refine sSkN 3 3 false 24 S d d ab d fun a S=>sPickT (.bool true) S (wN d) d d ab d d (lb d) fun a S=>?_
   exact lT (⟨true,Option.some.inj h,S.fix [2,1,3] [1] (by decide) d d d⟩)
  refine sMove (iv ai) S (wG 3 false 24 d d d ab) (.inl d) d d (lb d) fun a S=>sMove (iv aj) S (wG 3 false 24 d d d ab) (.inl d) d d (lb d) fun a S=>sBin _ S (wG 3 false 24 d d d ab) d d d (bLt _ _ _ _ .i64 ai aj) d (lb d) fun a S=>sPickF (.bool (decide (ai < aj))) S (wN d) d d ab d d (lb d) fun a S=>?_
  exact lT (⟨decide (ai < aj),Option.some.inj h,S.fix [2,1,3] [1] (by decide) d d d⟩)
 refine fJ [(2,_)] 2 [none] fun G a w S=>?_
 exact sLoadN (p:=b6) (off:=0) (T:=24) (vs:=[iv p0.W,iv p0.H,.slice a2 p0.Bits.length a3]) 0 [iv p0.W,iv p0.H,.slice a2 p0.Bits.length a3] S (wN d) d d d d d d d (lb d) fun a S=>leafL ⟨d,S⟩
noncomputable def F_raddleref17_Best (p0:api_Grid) (p1:Int):Option ((List Int) × Int × Int):=
 (F_raddleref17_Few p0).bind fun r9=>
 if r9 != 0 then
  some (([]:(List Int)),0,r9)
 else
  Option.bind (α:=Bool) (
   if decide (p1 < 1) then
    some true
   else
    some (decide (40 < p1))) fun a2=>
  if a2 then
   some (([]:(List Int)),0,2)
  else
   (F_raddleref17_best p0 p1).bind fun a0=>
   some (a0.1,a0.2,0)
def c_raddleref17_Best_val (r:((List Int) × Int × Int)) (x:Value):Value:=.tuple #[x,.int .i64 r.2.1,.int .i64 r.2.2]
def c_raddleref17_Best_D (r:((List Int) × Int × Int)) (x:Value):List Fact:=[fRep (rL (rI .i64)) x r.1]
theorem c_raddleref17_Best (E:Nat→Prop) (w0:World) (p0:api_Grid) (v0:Value) (p1:Int) (r:((List Int) × Int × Int)) (h:F_raddleref17_Best p0 p1=some r) (S:St0 E [] w0 w0 [] [fRep r_api_Grid (v0) p0]) :
 Calls Try.prog 27 #[v0,iv p1] w0 (Ret (X:=Value) E [] w0 (c_raddleref17_Best_val r) (fun _=>[]) (c_raddleref17_Best_D r)):=by
 unfold F_raddleref17_Best at h
 obtain ⟨u1,rfl,ai⟩:=S.know (i:=0) (e:=fRep r_api_Grid (v0) p0) d
 have S:=S.learn (fRep (rL rB) u1 p0.Bits) ai
 obtain ⟨a0,a2,_,rfl,_⟩:=ai
 refine sEnter (args:=[.agg #[iv p0.W,iv p0.H,.slice a0 p0.Bits.length a2],iv p1]) 28 Try.func27 d d (by simp) S (fun a S=>?_)
 refine sSeq (fun K5 aj=>sRegion (sBox (v:=.agg #[iv p0.W,iv p0.H,.slice a0 p0.Bits.length a2]) S (wN d) d d [iv p0.W,iv p0.H,.slice a0 p0.Bits.length a2] d d (lb d) fun a b6 w S=>sN S fun a S=>?_))
 refine sN S fun a S=>?_
 refine sN S fun a S=>?_
 refine lT (aj _ _ (sSeq (fun K7 ak=>sSeq (fun K8 al=>sRegion (sLoadN (p:=b6) (off:=0) (T:=24) (vs:=[iv p0.W,iv p0.H,.slice a0 p0.Bits.length a2]) 0 [iv p0.W,iv p0.H,.slice a0 p0.Bits.length a2] S (wN d) d d d d d d d (lb d) fun a S=>?_)))))
 obtain ⟨r9,a9,h⟩:=bS h
 have S1:=S.mem
 refine sCq [.agg #[iv p0.W,iv p0.H,.slice a0 p0.Bits.length a2]] (iv r9) S callee43 (S1.quiet [1] d) (fun E1 w1 S1=>c_raddleref17_Few E1 w1 p0 (.agg #[iv p0.W,iv p0.H,.slice a0 p0.Bits.length a2]) r9 a9 S1) fun a w S=>?_
 refine sBin _ S (wN d) d d d (bNe _ _ _ _ .i64 r9 0) d (lb d) fun a S=>lT (al _ _ ?_)
 rcases iS h with ⟨a7,h⟩ | ⟨a7,h⟩
 ·refine sCondT S d a7 (sSeq (fun aq aa=>sRegion (sLoadN (p:=b6) (off:=0) (T:=24) (vs:=[iv p0.W,iv p0.H,.slice a0 p0.Bits.length a2]) 0 [iv p0.W,iv p0.H,.slice a0 p0.Bits.length a2] S (wN d) d d d d d d d (lb d) fun a S=>?_)))
  have S1:=S.mem
  refine sCq [.agg #[iv p0.W,iv p0.H,.slice a0 p0.Bits.length a2]] (iv r9) S callee43 (S1.quiet [1] d) (fun E1 w1 S1=>c_raddleref17_Few E1 w1 p0 (.agg #[iv p0.W,iv p0.H,.slice a0 p0.Bits.length a2]) r9 a9 S1) fun a w S=>?_
  refine sN S fun a S=>?_
  refine sN S fun a S=>?_
  refine sN S fun a S=>?_
  refine lT (aa _ _ ?_)
  obtain rfl:=tS h
  have S:=S.learn (fRep (rL (rI .i64)) (.slice none 0 0) ([]:(List Int))) (rL_nil _ _ _)
  exact wp_ret (rThen (sRet (.tuple #[.slice none 0 0,iv 0,iv r9]) S (rsl3 d (rvT (t:=4) (v:=.slice none 0 0) S d) (rvT (t:=5) (v:=iv 0) S d) (rvT (t:=6) (v:=iv r9) S d)) ⟨(.slice none 0 0),d,S.mem.sel [] [0] (by decide) d d⟩))
 refine sCondF S d a7 (wp_skip (leafT (ak _ _ ?_)))
 refine sSeq (fun ar ab=>?_)
 obtain ⟨am,h,ao⟩:=bS h
 refine sCut (fun a w=>∃ ac,ac=am∧St [] E [] w0 28 a w [(1,iv p1),(2,.pointer (some ⟨b6,0,none⟩)),(19,.bool ac)] [eBox b6 24 [iv p0.W,iv p0.H,.slice a0 p0.Bits.length a2]] [fRep (rL rB) (.slice a0 p0.Bits.length a2) p0.Bits]) ?_ (fun a w hI=>?_)
 ·refine sRegion (sM S fun a S=>?_)
  refine sBin _ S (wN d) d d d (bLt _ _ _ _ .i64 p1 1) d (lb d) fun a S=>sM S fun a S=>?_
  rcases iS h with ⟨a4,h⟩ | ⟨a4,h⟩
  ·refine sSkN 2 2 false 16 S d d a4 d fun a S=>sPickT (.bool true) S (wN d) d d a4 d d (lb d) fun a S=>?_
   exact lT (⟨true,Option.some.inj h,S.fix [0] [0] (by decide) d d d⟩)
  refine sMove (iv p1) S (wG 2 false 16 d d d a4) (.inl d) d d (lb d) fun a S=>sBin _ S (wG 2 false 16 d d d a4) d d d (bGt _ _ _ _ .i64 p1 40) d (lb d) fun a S=>sPickF (.bool (decide (40 < p1))) S (wN d) d d a4 d d (lb d) fun a S=>?_
  exact lT (⟨decide (40 < p1),Option.some.inj h,S.fix [0] [0] (by decide) d d d⟩)
 obtain ⟨ac,rfl,S⟩:=hI
 have h:=ao
 try dsimp only at h
 rcases iS h with ⟨a8,h⟩ | ⟨a8,h⟩
 ·refine sCondT S d a8 (sSeq (fun au ae=>sRegion (sN S fun a S=>?_)))
  refine sN S fun a S=>?_
  refine sN S fun a S=>?_
  refine lT (ae _ _ ?_)
  obtain rfl:=tS h
  have S:=S.learn (fRep (rL (rI .i64)) (.slice none 0 0) ([]:(List Int))) (rL_nil _ _ _)
  exact wp_ret (rThen (sRet (.tuple #[.slice none 0 0,iv 0,iv 2]) S (rsl3 d (rvT (t:=4) (v:=.slice none 0 0) S d) (rvT (t:=5) (v:=iv 0) S d) (rvT (t:=6) (v:=iv 2) S d)) ⟨(.slice none 0 0),d,S.mem.sel [] [0] (by decide) d d⟩))
 refine sCondF S d a8 (wp_skip (leafT (ab _ _ ?_)))
 refine sSeq (fun av af=>sRegion (sLoadN (p:=b6) (off:=0) (T:=24) (vs:=[iv p0.W,iv p0.H,.slice a0 p0.Bits.length a2]) 0 [iv p0.W,iv p0.H,.slice a0 p0.Bits.length a2] S (wN d) d d d d d d d (lb d) fun a S=>sM S fun a S=>?_))
 obtain ⟨a3,ag,h⟩:=bS h
 have S:=S.learn (fRep r_api_Grid (.agg #[iv p0.W,iv p0.H,.slice a0 p0.Bits.length a2]) p0) ⟨_,d,S.mem.know (i:=0) (e:=fRep (rL rB) (.slice a0 p0.Bits.length a2) p0.Bits) d⟩
 refine sCall (X:=Value) (f:=44) (vs:=[.agg #[iv p0.W,iv p0.H,.slice a0 p0.Bits.length a2],iv p1]) (val:=c_raddleref17_best_val a3) (B':=fun _=>[]) (D':=c_raddleref17_best_D a3) [] [eBox b6 24 [iv p0.W,iv p0.H,.slice a0 p0.Bits.length a2]] [fRep r_api_Grid (.agg #[iv p0.W,iv p0.H,.slice a0 p0.Bits.length a2]) p0] [0] [0] S (wN d) d callee44 d (by decide) d d (fun E1 w1 S1=>c_raddleref17_best E1 w1 p0 (.agg #[iv p0.W,iv p0.H,.slice a0 p0.Bits.length a2]) p1 a3 ag S1) d (lb d) fun ap a w S=>?_
 obtain ⟨a5,a6,_,rfl,_⟩:=S.mem.know (i:=0) (e:=fRep (rL (rI .i64)) (ap) a3.1) d
 refine sM S fun a S=>?_
 refine sExtract (vs:=[.slice a5 a3.1.length a6,iv a3.2]) (.slice a5 a3.1.length a6) S (wN d) d d d d (lb d) fun a S=>sExtract (vs:=[.slice a5 a3.1.length a6,iv a3.2]) (iv a3.2) S (wN d) d d d d (lb d) fun a S=>sN S fun a S=>?_
 refine sN S fun a S=>?_
 refine lT (af _ _ (sSeq (fun aw ah=>sRegion (sM S fun a S=>?_))))
 refine sM S fun a S=>?_
 refine sN S fun a S=>?_
 refine sN S fun a S=>?_
 refine sN S fun a S=>?_
 refine lT (ah _ _ ?_)
 obtain rfl:=tS h
 exact wp_ret (sRet (.tuple #[.slice a5 a3.1.length a6,iv a3.2,iv 0]) S (rsl3 d (rvT (t:=4) (v:=.slice a5 a3.1.length a6) S d) (rvT (t:=5) (v:=iv a3.2) S d) (rvT (t:=6) (v:=iv 0) S d)) ⟨(.slice a5 a3.1.length a6),d,S.mem.sel [] [0] (by decide) d d⟩)
noncomputable def reduce_Costs_l1 (p0:api_Grid):(List Int × Int)→Option ((List Int × Int) ⊕ List Int):=fun s0=>match s0 with
 | (a2,a0)=>
  if decide (a0 < p0.W) then
   (F_reduce_Best p0 (w64 (a0 + 1))).bind fun a3=>
   (appO a2 ([a3.2.1]:List Int)).bind fun a4=>
   some (.inl (a4,w64 (a0 + 1)))
  else
   some (.inr a2)
noncomputable def F_reduce_Costs (p0:api_Grid):Option ((List Int) × Int):=
 (F_reduce_few p0).bind fun r9=>
 if r9 != 0 then
  some (([]:(List Int)),r9)
 else
  Option.bind (α:=List Int) (
   (whileO (reduce_Costs_l1 p0) (([]:List Int),0)).bind fun a0=>
    some a0) fun a2=>
  some (a2,0)
def c_reduce_Costs_val (r:((List Int) × Int)) (x:Value):Value:=.tuple #[x,.int .i64 r.2]
def c_reduce_Costs_D (r:((List Int) × Int)) (x:Value):List Fact:=[fRep (rL (rI .i64)) x r.1]
theorem c_reduce_Costs (E:Nat→Prop) (w0:World) (p0:api_Grid) (v0:Value) (r:((List Int) × Int)) (h:F_reduce_Costs p0=some r) (S:St0 E [] w0 w0 [] [fRep r_api_Grid (v0) p0]) :
 Calls Try.prog 28 #[v0] w0 (Ret (X:=Value) E [] w0 (c_reduce_Costs_val r) (fun _=>[]) (c_reduce_Costs_D r)):=by
 unfold F_reduce_Costs at h
 obtain ⟨u1,rfl,aC⟩:=S.know (i:=0) (e:=fRep r_api_Grid (v0) p0) d
 have S:=S.learn (fRep (rL rB) u1 p0.Bits) aC
 obtain ⟨a2,a3,_,rfl,_⟩:=aC
 refine sEnter (args:=[.agg #[iv p0.W,iv p0.H,.slice a2 p0.Bits.length a3]]) 34 Try.func28 d d (by simp) S (fun a S=>?_)
 refine sSeq (fun K5 aG=>sRegion (sBox (v:=.agg #[iv p0.W,iv p0.H,.slice a2 p0.Bits.length a3]) S (wN d) d d [iv p0.W,iv p0.H,.slice a2 p0.Bits.length a3] d d (lb d) fun a b6 w S=>sN S fun a S=>?_))
 refine sN S fun a S=>?_
 refine lT (aG _ _ (sSeq (fun K7 aH=>sSeq (fun K8 aI=>sRegion (sLoadN (p:=b6) (off:=0) (T:=24) (vs:=[iv p0.W,iv p0.H,.slice a2 p0.Bits.length a3]) 0 [iv p0.W,iv p0.H,.slice a2 p0.Bits.length a3] S (wN d) d d d d d d d (lb d) fun a S=>?_)))))
 obtain ⟨r9,ag,h⟩:=bS h
 have S1:=S.mem
 refine sCq [.agg #[iv p0.W,iv p0.H,.slice a2 p0.Bits.length a3]] (iv r9) S callee40 (S1.quiet [1] d) (fun E1 w1 S1=>c_reduce_few E1 w1 p0 (.agg #[iv p0.W,iv p0.H,.slice a2 p0.Bits.length a3]) r9 ag S1) fun a w S=>?_
 refine sN S fun a S=>?_
 refine lT (aI _ _ (sSeq (fun aP ah=>sRegion (sM S fun a S=>?_))))
 refine sBin _ S (wN d) d d d (bNe _ _ _ _ .i64 r9 0) d (lb d) fun a S=>lT (ah _ _ ?_)
 rcases iS h with ⟨ae,h⟩ | ⟨ae,h⟩
 ·refine sCondT S d ae (sSeq (fun aQ ai=>sRegion (sM S fun a S=>?_)))
  refine sN S fun a S=>?_
  refine sN S fun a S=>?_
  refine lT (ai _ _ ?_)
  obtain rfl:=tS h
  have S:=S.learn (fRep (rL (rI .i64)) (.slice none 0 0) ([]:(List Int))) (rL_nil _ _ _)
  exact wp_ret (rThen (sRet (.tuple #[.slice none 0 0,iv r9]) S (rsl2 d (rvT (t:=2) (v:=.slice none 0 0) S d) (rvT (t:=3) (v:=iv r9) S d)) ⟨(.slice none 0 0),d,S.mem.sel [] [0] (by decide) d d⟩))
 refine sCondF S d ae (wp_skip (leafT (aH _ _ ?_)))
 refine sSeq (fun aR aj=>sRegion (sN S fun a S=>?_))
 refine lT (aj _ _ ?_)
 obtain ⟨aJ,h,aK⟩:=bS h
 refine sCut (fun a w=>∃ a8,a8=aJ∧∃ a4,∃ a5,St [] E [] w0 34 a w [(5,.slice a4 a8.length a5)] [eRow (rI .i64) 3 (.slice a4 a8.length a5) a8] []) ?_ (fun a w hI=>?_)
 rotate_left
 ·obtain ⟨a8,rfl,a4,a5,S⟩:=hI
  have h:=aK
  try dsimp only at h
  refine sSeq (fun aS ak=>sRegion (sM S fun a S=>?_))
  refine sN S fun a S=>?_
  refine sN S fun a S=>?_
  refine lT (ak _ _ ?_)
  obtain rfl:=tS h
  have S:=S.shutR (r:=(rI .i64)) (T:=3) (v:=.slice a4 a8.length a5) (xs:=a8) 0 d
  exact wp_ret (sRet (.tuple #[.slice a4 a8.length a5,iv 0]) S (rsl2 d (rvT (t:=2) (v:=.slice a4 a8.length a5) S d) (rvT (t:=3) (v:=iv 0) S d)) ⟨(.slice a4 a8.length a5),d,S.mem.sel [] [0] (by decide) d d⟩)
 refine sSeq (fun aT al=>sRegion (sField (b:=b6) (off:=0) 0 0 S (wN d) d d d d d (lb d) fun a S=>sLoad1 0 (iv p0.W) S (wN d) d d d d d d (lb d) fun a S=>sM S fun a S=>?_))
 refine lT (al _ _ (wp_block ?_))
 have S:=S.nilRow (rI .i64) 3 (α:=Int)
 obtain ⟨aU,hl,aL⟩:=bS h
 refine sLoop hl (fun s0 a w=>match s0 with | (a9,ac)=>∃ a6,∃ a7,St [] E [] w0 34 a w [(1,.pointer (some ⟨b6,0,none⟩)),(5,.slice a6 a9.length a7),(16,iv p0.W),(17,iv ac)] [eBox b6 24 [iv p0.W,iv p0.H,.slice a2 p0.Bits.length a3],eRow (rI .i64) 3 (.slice a6 a9.length a7) a9] [fRep (rL rB) (.slice a2 p0.Bits.length a3) p0.Bits]) ⟨none,0,S.fix [1,0] [0] (by decide) d d d⟩ ?_
 clear hl h
 intro s0 a w c0 hI h am
 obtain ⟨a9,ac⟩:=s0
 unfold reduce_Costs_l1 at h
 dsimp only at h hI
 obtain ⟨a6,a7,S⟩:=hI
 refine sSeq (fun aV ao=>sRegion (sBin _ S (wN d) d d d (bLt _ _ _ _ .i64 ac p0.W) d (lb d) fun a S=>lT (ao _ _ (sSeq (fun aW ap=>?_)))))
 rcases iS h with ⟨af,h⟩ | ⟨af,h⟩
 rotate_left
 ·refine sCondF S d af ?_
  obtain rfl:=tS h
  obtain rfl:=am _ d
  have h:=aL
  try dsimp only at h
  exact wp_exit (xThen (xThen (xHit (leafT (⟨a9,Option.some.inj h,a6,a7,S.fix [1] [] (by decide) d d d⟩)))))
 refine sCondT S d af (wp_skip (leafT (ap _ _ ?_)))
 refine sSeq (fun aX aq=>wp_block ?_)
 refine sSeq (fun aZ ar=>sRegion (sM S fun a S=>?_))
 refine sN S fun a S=>?_
 refine lT (ar _ _ (sSeq (fun b1 au=>sRegion (sLoadN (p:=b6) (off:=0) (T:=24) (vs:=[iv p0.W,iv p0.H,.slice a2 p0.Bits.length a3]) 0 [iv p0.W,iv p0.H,.slice a2 p0.Bits.length a3] S (wN d) d d d d d d d (lb d) fun a S=>sM S fun a S=>?_))))
 refine sBin _ S (wN d) d d d (bAdd _ _ _ _ ac 1) d (lb d) fun a S=>?_
 obtain ⟨a0,av,h⟩:=bS h
 have S:=S.learn (fRep r_api_Grid (.agg #[iv p0.W,iv p0.H,.slice a2 p0.Bits.length a3]) p0) ⟨_,d,S.mem.know (i:=0) (e:=fRep (rL rB) (.slice a2 p0.Bits.length a3) p0.Bits) d⟩
 refine sCall (X:=Value) (f:=21) (vs:=[.agg #[iv p0.W,iv p0.H,.slice a2 p0.Bits.length a3],iv (w64 (ac + 1))]) (val:=c_reduce_Best_val a0) (B':=fun _=>[]) (D':=c_reduce_Best_D a0) [] [eBox b6 24 [iv p0.W,iv p0.H,.slice a2 p0.Bits.length a3],eRow (rI .i64) 3 (.slice a6 a9.length a7) a9] [fRep r_api_Grid (.agg #[iv p0.W,iv p0.H,.slice a2 p0.Bits.length a3]) p0] [0,1] [0] S (wN d) d callee21 d (by decide) d d (fun E1 w1 S1=>c_reduce_Best E1 w1 p0 (.agg #[iv p0.W,iv p0.H,.slice a2 p0.Bits.length a3]) (w64 (ac + 1)) a0 av S1) d (lb d) fun aM a w S=>?_
 obtain ⟨aa,ab,_,rfl,_⟩:=S.mem.know (i:=0) (e:=fRep (rL (rI .i64)) (aM) a0.1) d
 refine sM S fun a S=>?_
 refine sExtract (vs:=[.slice aa a0.1.length ab,iv a0.2.1,iv a0.2.2]) (.slice aa a0.1.length ab) S (wN d) d d d d (lb d) fun a S=>sExtract (vs:=[.slice aa a0.1.length ab,iv a0.2.1,iv a0.2.2]) (iv a0.2.1) S (wN d) d d d d (lb d) fun a S=>sExtract (vs:=[.slice aa a0.1.length ab,iv a0.2.1,iv a0.2.2]) (iv a0.2.2) S (wN d) d d d d (lb d) fun a S=>sN S fun a S=>?_
 refine sN S fun a S=>?_
 refine sN S fun a S=>?_
 refine lT (au _ _ (sRegion (sM S fun a S=>?_)))
 refine sM S fun a S=>?_
 refine sLit (r:=(rI .i64)) (T:=3) (xs:=([a0.2.1]:List Int)) [(0,iv a0.2.1)] 1 [iv a0.2.1] [iv a0.2.1] (iv 0) 8 S (wN d) d d Try.underlying25 d (by decide) (by decide) (by kernel_rfl) d (fun E1 w1 hE=>All.cons d (All.nil _ _ _)) d d (lb d) fun a w aw ax S=>?_
 obtain ⟨aO,ay,h⟩:=bS h
 refine sApp (r:=(rI .i64)) (T:=3) (xs:=a9) (ys:=([a0.2.1]:List Int)) (v:=.slice a6 a9.length a7) (u:=.slice aw ([a0.2.1]:List Int).length ax) 2 (iv 0) 8 S (wN d) d Try.underlying25 d d (by decide) d d d (src_R (T:=3) 0 S.mem d) ay d (lb d) fun a w az aA S=>sN S fun a S=>?_
 refine leafL (leafB (leafT (aq _ _ ?_)))
 refine sRegion (sBin _ S (wN d) d d d (bAdd _ _ _ _ ac 1) d (lb d) fun a S=>sM S fun a S=>?_)
 exact lT (⟨(aO,w64 (ac + 1)),(Option.some.inj h).symm,⟨az,aA,S.fix [2,0] [2] (by decide) d d d⟩⟩)
noncomputable def raddleref17_Costs_l1 (p0:api_Grid):(List Int × Int)→Option ((List Int × Int) ⊕ List Int):=fun s0=>match s0 with
 | (a2,a0)=>
  if decide (a0 ≤ p0.W) then
   (F_raddleref17_best p0 a0).bind fun a3=>
   (appO a2 ([a3.2]:List Int)).bind fun a4=>
   some (.inl (a4,w64 (a0 + 1)))
  else
   some (.inr a2)
noncomputable def F_raddleref17_Costs (p0:api_Grid):Option ((List Int) × Int):=
 (F_raddleref17_Few p0).bind fun r9=>
 if r9 != 0 then
  some (([]:(List Int)),r9)
 else
  Option.bind (α:=List Int) (
   (whileO (raddleref17_Costs_l1 p0) (([]:List Int),1)).bind fun a0=>
    some a0) fun a2=>
  some (a2,0)
def c_raddleref17_Costs_val (r:((List Int) × Int)) (x:Value):Value:=.tuple #[x,.int .i64 r.2]
def c_raddleref17_Costs_D (r:((List Int) × Int)) (x:Value):List Fact:=[fRep (rL (rI .i64)) x r.1]
theorem c_raddleref17_Costs (E:Nat→Prop) (w0:World) (p0:api_Grid) (v0:Value) (r:((List Int) × Int)) (h:F_raddleref17_Costs p0=some r) (S:St0 E [] w0 w0 [] [fRep r_api_Grid (v0) p0]) :
 Calls Try.prog 29 #[v0] w0 (Ret (X:=Value) E [] w0 (c_raddleref17_Costs_val r) (fun _=>[]) (c_raddleref17_Costs_D r)):=by
 unfold F_raddleref17_Costs at h
 obtain ⟨u1,rfl,az⟩:=S.know (i:=0) (e:=fRep r_api_Grid (v0) p0) d
 have S:=S.learn (fRep (rL rB) u1 p0.Bits) az
 obtain ⟨a0,a2,_,rfl,_⟩:=az
 refine sEnter (args:=[.agg #[iv p0.W,iv p0.H,.slice a0 p0.Bits.length a2]]) 30 Try.func29 d d (by simp) S (fun a S=>?_)
 refine sSeq (fun K5 aA=>sRegion (sBox (v:=.agg #[iv p0.W,iv p0.H,.slice a0 p0.Bits.length a2]) S (wN d) d d [iv p0.W,iv p0.H,.slice a0 p0.Bits.length a2] d d (lb d) fun a b6 w S=>sN S fun a S=>?_))
 refine sN S fun a S=>?_
 refine lT (aA _ _ (sSeq (fun K7 aC=>sSeq (fun K8 aG=>sRegion (sLoadN (p:=b6) (off:=0) (T:=24) (vs:=[iv p0.W,iv p0.H,.slice a0 p0.Bits.length a2]) 0 [iv p0.W,iv p0.H,.slice a0 p0.Bits.length a2] S (wN d) d d d d d d d (lb d) fun a S=>?_)))))
 obtain ⟨r9,ag,h⟩:=bS h
 have S1:=S.mem
 refine sCq [.agg #[iv p0.W,iv p0.H,.slice a0 p0.Bits.length a2]] (iv r9) S callee43 (S1.quiet [1] d) (fun E1 w1 S1=>c_raddleref17_Few E1 w1 p0 (.agg #[iv p0.W,iv p0.H,.slice a0 p0.Bits.length a2]) r9 ag S1) fun a w S=>?_
 refine sBin _ S (wN d) d d d (bNe _ _ _ _ .i64 r9 0) d (lb d) fun a S=>lT (aG _ _ ?_)
 rcases iS h with ⟨aa,h⟩ | ⟨aa,h⟩
 ·refine sCondT S d aa (sSeq (fun aM ah=>sRegion (sLoadN (p:=b6) (off:=0) (T:=24) (vs:=[iv p0.W,iv p0.H,.slice a0 p0.Bits.length a2]) 0 [iv p0.W,iv p0.H,.slice a0 p0.Bits.length a2] S (wN d) d d d d d d d (lb d) fun a S=>?_)))
  have S1:=S.mem
  refine sCq [.agg #[iv p0.W,iv p0.H,.slice a0 p0.Bits.length a2]] (iv r9) S callee43 (S1.quiet [1] d) (fun E1 w1 S1=>c_raddleref17_Few E1 w1 p0 (.agg #[iv p0.W,iv p0.H,.slice a0 p0.Bits.length a2]) r9 ag S1) fun a w S=>?_
  refine sN S fun a S=>?_
  refine sN S fun a S=>?_
  refine lT (ah _ _ ?_)
  obtain rfl:=tS h
  have S:=S.learn (fRep (rL (rI .i64)) (.slice none 0 0) ([]:(List Int))) (rL_nil _ _ _)
  exact wp_ret (rThen (sRet (.tuple #[.slice none 0 0,iv r9]) S (rsl2 d (rvT (t:=2) (v:=.slice none 0 0) S d) (rvT (t:=3) (v:=iv r9) S d)) ⟨(.slice none 0 0),d,S.mem.sel [] [0] (by decide) d d⟩))
 refine sCondF S d aa (wp_skip (leafT (aC _ _ ?_)))
 refine sSeq (fun aO ai=>sRegion (sN S fun a S=>?_))
 refine lT (ai _ _ ?_)
 obtain ⟨aH,h,aI⟩:=bS h
 refine sCut (fun a w=>∃ a8,a8=aH∧∃ a4,∃ a5,St [] E [] w0 30 a w [(4,.slice a4 a8.length a5)] [eRow (rI .i64) 3 (.slice a4 a8.length a5) a8] []) ?_ (fun a w hI=>?_)
 rotate_left
 ·obtain ⟨a8,rfl,a4,a5,S⟩:=hI
  have h:=aI
  try dsimp only at h
  refine sSeq (fun aP aj=>sRegion (sM S fun a S=>?_))
  refine sN S fun a S=>?_
  refine sN S fun a S=>?_
  refine lT (aj _ _ ?_)
  obtain rfl:=tS h
  have S:=S.shutR (r:=(rI .i64)) (T:=3) (v:=.slice a4 a8.length a5) (xs:=a8) 0 d
  exact wp_ret (sRet (.tuple #[.slice a4 a8.length a5,iv 0]) S (rsl2 d (rvT (t:=2) (v:=.slice a4 a8.length a5) S d) (rvT (t:=3) (v:=iv 0) S d)) ⟨(.slice a4 a8.length a5),d,S.mem.sel [] [0] (by decide) d d⟩)
 refine sSeq (fun aQ ak=>sRegion (sN S fun a S=>?_))
 refine lT (ak _ _ (wp_block ?_))
 have S:=S.nilRow (rI .i64) 3 (α:=Int)
 obtain ⟨aR,hl,aJ⟩:=bS h
 refine sLoop hl (fun s0 a w=>match s0 with | (a9,ab)=>∃ a6,∃ a7,St [] E [] w0 30 a w [(1,.pointer (some ⟨b6,0,none⟩)),(4,.slice a6 a9.length a7),(5,iv ab)] [eBox b6 24 [iv p0.W,iv p0.H,.slice a0 p0.Bits.length a2],eRow (rI .i64) 3 (.slice a6 a9.length a7) a9] [fRep (rL rB) (.slice a0 p0.Bits.length a2) p0.Bits]) ⟨none,0,S.fix [1,0] [0] (by decide) d d d⟩ ?_
 clear hl h
 intro s0 a w c0 hI h al
 obtain ⟨a9,ab⟩:=s0
 unfold raddleref17_Costs_l1 at h
 dsimp only at h hI
 obtain ⟨a6,a7,S⟩:=hI
 refine sSeq (fun aS am=>sSeq (fun aT ao=>sRegion (sM S fun a S=>?_)))
 refine sField (b:=b6) (off:=0) 0 0 S (wN d) d d d d d (lb d) fun a S=>sLoad1 0 (iv p0.W) S (wN d) d d d d d d (lb d) fun a S=>sBin _ S (wN d) d d d (bLe _ _ _ _ .i64 ab p0.W) d (lb d) fun a S=>lT (ao _ _ ?_)
 rcases iS h with ⟨ac,h⟩ | ⟨ac,h⟩
 rotate_left
 ·refine sCondF S d ac ?_
  obtain rfl:=tS h
  obtain rfl:=al _ d
  have h:=aJ
  try dsimp only at h
  exact wp_exit (xThen (xThen (xHit (leafT (⟨a9,Option.some.inj h,a6,a7,S.fix [1] [] (by decide) d d d⟩)))))
 refine sCondT S d ac (wp_skip (leafT (am _ _ ?_)))
 refine sSeq (fun aU ap=>wp_block ?_)
 refine sSeq (fun aV aq=>sRegion (sLoadN (p:=b6) (off:=0) (T:=24) (vs:=[iv p0.W,iv p0.H,.slice a0 p0.Bits.length a2]) 0 [iv p0.W,iv p0.H,.slice a0 p0.Bits.length a2] S (wN d) d d d d d d d (lb d) fun a S=>sM S fun a S=>?_))
 obtain ⟨a3,ar,h⟩:=bS h
 have S:=S.learn (fRep r_api_Grid (.agg #[iv p0.W,iv p0.H,.slice a0 p0.Bits.length a2]) p0) ⟨_,d,S.mem.know (i:=0) (e:=fRep (rL rB) (.slice a0 p0.Bits.length a2) p0.Bits) d⟩
 refine sCall (X:=Value) (f:=44) (vs:=[.agg #[iv p0.W,iv p0.H,.slice a0 p0.Bits.length a2],iv ab]) (val:=c_raddleref17_best_val a3) (B':=fun _=>[]) (D':=c_raddleref17_best_D a3) [] [eBox b6 24 [iv p0.W,iv p0.H,.slice a0 p0.Bits.length a2],eRow (rI .i64) 3 (.slice a6 a9.length a7) a9] [fRep r_api_Grid (.agg #[iv p0.W,iv p0.H,.slice a0 p0.Bits.length a2]) p0] [0,1] [0] S (wN d) d callee44 d (by decide) d d (fun E1 w1 S1=>c_raddleref17_best E1 w1 p0 (.agg #[iv p0.W,iv p0.H,.slice a0 p0.Bits.length a2]) ab a3 ar S1) d (lb d) fun aK a w S=>?_
 obtain ⟨ae,af,_,rfl,_⟩:=S.mem.know (i:=0) (e:=fRep (rL (rI .i64)) (aK) a3.1) d
 refine sM S fun a S=>?_
 refine sExtract (vs:=[.slice ae a3.1.length af,iv a3.2]) (.slice ae a3.1.length af) S (wN d) d d d d (lb d) fun a S=>sExtract (vs:=[.slice ae a3.1.length af,iv a3.2]) (iv a3.2) S (wN d) d d d d (lb d) fun a S=>sN S fun a S=>?_
 refine sN S fun a S=>?_
 refine lT (aq _ _ (sRegion (sM S fun a S=>?_)))
 refine sM S fun a S=>?_
 refine sLit (r:=(rI .i64)) (T:=3) (xs:=([a3.2]:List Int)) [(0,iv a3.2)] 1 [iv a3.2] [iv a3.2] (iv 0) 8 S (wN d) d d Try.underlying25 d (by decide) (by decide) (by kernel_rfl) d (fun E1 w1 hE=>All.cons d (All.nil _ _ _)) d d (lb d) fun a w au av S=>?_
 obtain ⟨aL,aw,h⟩:=bS h
 refine sApp (r:=(rI .i64)) (T:=3) (xs:=a9) (ys:=([a3.2]:List Int)) (v:=.slice a6 a9.length a7) (u:=.slice au ([a3.2]:List Int).length av) 2 (iv 0) 8 S (wN d) d Try.underlying25 d d (by decide) d d d (src_R (T:=3) 0 S.mem d) aw d (lb d) fun a w ax ay S=>sN S fun a S=>?_
 refine leafL (leafB (leafT (ap _ _ ?_)))
 refine sRegion (sM S fun a S=>?_)
 refine sBin _ S (wN d) d d d (bAdd _ _ _ _ ab 1) d (lb d) fun a S=>sN S fun a S=>?_
 exact lT (⟨(aL,w64 (ab + 1)),(Option.some.inj h).symm,⟨ax,ay,S.fix [2,0] [2] (by decide) d d d⟩⟩)
noncomputable def F_raddlelaw17_ReduceSearches (p0:api_Grid) (p1:Int):Option Bool:=
 (F_raddleref17_Great p0).bind fun r9=>
 if r9 then
  some true
 else
  (F_reduce_Best p0 p1).bind fun a0=>
  (F_raddleref17_Best p0 p1).bind fun a2=>
  (F_reduce_Costs p0).bind fun a3=>
  (F_raddleref17_Costs p0).bind fun a4=>
  Option.bind (α:=Bool) (
   (F_raddleref02_Same a0.1 a2.1).bind fun a5=>
   if a5 then
    if a0.2.1 == a2.2.1 then
     if a0.2.2 == a2.2.2 then
      (F_raddleref02_Same a3.1 a4.1).bind fun a6=>
      if a6 then
       some (a3.2 == a4.2)
      else
       some false
     else
      some false
    else
     some false
   else
    some false) fun a7=>
  some a7
theorem c_raddlelaw17_ReduceSearches (E:Nat→Prop) (w0:World) (p0:api_Grid) (v0:Value) (p1:Int) (r:Bool) (h:F_raddlelaw17_ReduceSearches p0 p1=some r) (S:St0 E [] w0 w0 [] [fRep r_api_Grid (v0) p0]) :
 Calls Try.prog 5 #[v0,iv p1] w0 (Ret (X:=Unit) E [] w0 (fun _=>.bool r) (fun _=>[]) (fun _=>[])):=by
 unfold F_raddlelaw17_ReduceSearches at h
 obtain ⟨u1,rfl,aG⟩:=S.know (i:=0) (e:=fRep r_api_Grid (v0) p0) d
 have S:=S.learn (fRep (rL rB) u1 p0.Bits) aG
 obtain ⟨a0,a2,_,rfl,_⟩:=aG
 refine sEnter (args:=[.agg #[iv p0.W,iv p0.H,.slice a0 p0.Bits.length a2],iv p1]) 64 Try.func5 d d (by simp) S (fun a S=>?_)
 refine sSeq (fun K5 aI=>sRegion (sBox (v:=.agg #[iv p0.W,iv p0.H,.slice a0 p0.Bits.length a2]) S (wN d) d d [iv p0.W,iv p0.H,.slice a0 p0.Bits.length a2] d d (lb d) fun a b6 w S=>sN S fun a S=>?_))
 refine lT (aI _ _ (sSeq (fun K7 aJ=>sSeq (fun K8 aK=>sRegion (sLoadN (p:=b6) (off:=0) (T:=24) (vs:=[iv p0.W,iv p0.H,.slice a0 p0.Bits.length a2]) 0 [iv p0.W,iv p0.H,.slice a0 p0.Bits.length a2] S (wN d) d d d d d d d (lb d) fun a S=>?_)))))
 obtain ⟨r9,am,h⟩:=bS h
 have S1:=S.mem
 refine sCq [.agg #[iv p0.W,iv p0.H,.slice a0 p0.Bits.length a2]] (.bool r9) S callee26 (S1.quiet [1] d) (fun E1 w1 S1=>c_raddleref17_Great E1 w1 p0 (.agg #[iv p0.W,iv p0.H,.slice a0 p0.Bits.length a2]) r9 am S1) fun a w S=>?_
 refine lT (aK _ _ ?_)
 rcases iS h with ⟨ak,h⟩ | ⟨ak,h⟩
 ·refine sCondT S d ak (sSeq (fun aS ao=>sRegion (sN S fun a S=>?_)))
  refine lT (ao _ _ ?_)
  obtain rfl:=tS h
  exact wp_ret (rThen (sRet (.bool true) S (rsl1 d (rvT (t:=4) (v:=.bool true) S d)) ⟨(),d,S.mem.sel [] [] (by decide) d d⟩))
 refine sCondF S d ak (wp_skip (leafT (aJ _ _ ?_)))
 refine sSeq (fun aT ap=>sRegion (sLoadN (p:=b6) (off:=0) (T:=24) (vs:=[iv p0.W,iv p0.H,.slice a0 p0.Bits.length a2]) 0 [iv p0.W,iv p0.H,.slice a0 p0.Bits.length a2] S (wN d) d d d d d d d (lb d) fun a S=>sM S fun a S=>?_))
 obtain ⟨a3,aq,h⟩:=bS h
 refine sCall (X:=Value) (f:=21) (vs:=[.agg #[iv p0.W,iv p0.H,.slice a0 p0.Bits.length a2],iv p1]) (val:=c_reduce_Best_val a3) (B':=fun _=>[]) (D':=c_reduce_Best_D a3) [] [eBox b6 24 [iv p0.W,iv p0.H,.slice a0 p0.Bits.length a2]] [fRep r_api_Grid (.agg #[iv p0.W,iv p0.H,.slice a0 p0.Bits.length a2]) p0] [0] [1] S (wN d) d callee21 d (by decide) d d (fun E1 w1 S1=>c_reduce_Best E1 w1 p0 (.agg #[iv p0.W,iv p0.H,.slice a0 p0.Bits.length a2]) p1 a3 aq S1) d (lb d) fun aL a w S=>?_
 obtain ⟨ab,ac,_,rfl,_⟩:=S.mem.know (i:=0) (e:=fRep (rL (rI .i64)) (aL) a3.1) d
 refine sM S fun a S=>?_
 refine sExtract (vs:=[.slice ab a3.1.length ac,iv a3.2.1,iv a3.2.2]) (.slice ab a3.1.length ac) S (wN d) d d d d (lb d) fun a S=>sExtract (vs:=[.slice ab a3.1.length ac,iv a3.2.1,iv a3.2.2]) (iv a3.2.1) S (wN d) d d d d (lb d) fun a S=>sExtract (vs:=[.slice ab a3.1.length ac,iv a3.2.1,iv a3.2.2]) (iv a3.2.2) S (wN d) d d d d (lb d) fun a S=>sN S fun a S=>?_
 refine sN S fun a S=>?_
 refine sN S fun a S=>?_
 refine lT (ap _ _ (sSeq (fun aU ar=>sRegion (sLoadN (p:=b6) (off:=0) (T:=24) (vs:=[iv p0.W,iv p0.H,.slice a0 p0.Bits.length a2]) 0 [iv p0.W,iv p0.H,.slice a0 p0.Bits.length a2] S (wN d) d d d d d d d (lb d) fun a S=>sM S fun a S=>?_))))
 obtain ⟨a4,au,h⟩:=bS h
 refine sCall (X:=Value) (f:=27) (vs:=[.agg #[iv p0.W,iv p0.H,.slice a0 p0.Bits.length a2],iv p1]) (val:=c_raddleref17_Best_val a4) (B':=fun _=>[]) (D':=c_raddleref17_Best_D a4) [] [eBox b6 24 [iv p0.W,iv p0.H,.slice a0 p0.Bits.length a2]] [fRep r_api_Grid (.agg #[iv p0.W,iv p0.H,.slice a0 p0.Bits.length a2]) p0] [0] [2] S (wN d) d callee27 d (by decide) d d (fun E1 w1 S1=>c_raddleref17_Best E1 w1 p0 (.agg #[iv p0.W,iv p0.H,.slice a0 p0.Bits.length a2]) p1 a4 au S1) d (lb d) fun aM a w S=>?_
 obtain ⟨ae,af,_,rfl,_⟩:=S.mem.know (i:=0) (e:=fRep (rL (rI .i64)) (aM) a4.1) d
 refine sM S fun a S=>?_
 refine sExtract (vs:=[.slice ae a4.1.length af,iv a4.2.1,iv a4.2.2]) (.slice ae a4.1.length af) S (wN d) d d d d (lb d) fun a S=>sExtract (vs:=[.slice ae a4.1.length af,iv a4.2.1,iv a4.2.2]) (iv a4.2.1) S (wN d) d d d d (lb d) fun a S=>sExtract (vs:=[.slice ae a4.1.length af,iv a4.2.1,iv a4.2.2]) (iv a4.2.2) S (wN d) d d d d (lb d) fun a S=>sN S fun a S=>?_
 refine sN S fun a S=>?_
 refine sN S fun a S=>?_
 refine lT (ar _ _ (sSeq (fun aV av=>sRegion (sLoadN (p:=b6) (off:=0) (T:=24) (vs:=[iv p0.W,iv p0.H,.slice a0 p0.Bits.length a2]) 0 [iv p0.W,iv p0.H,.slice a0 p0.Bits.length a2] S (wN d) d d d d d d d (lb d) fun a S=>?_))))
 obtain ⟨a5,aw,h⟩:=bS h
 refine sCall (X:=Value) (f:=28) (vs:=[.agg #[iv p0.W,iv p0.H,.slice a0 p0.Bits.length a2]]) (val:=c_reduce_Costs_val a5) (B':=fun _=>[]) (D':=c_reduce_Costs_D a5) [] [eBox b6 24 [iv p0.W,iv p0.H,.slice a0 p0.Bits.length a2]] [fRep r_api_Grid (.agg #[iv p0.W,iv p0.H,.slice a0 p0.Bits.length a2]) p0] [0] [3] S (wN d) d callee28 d (by decide) d d (fun E1 w1 S1=>c_reduce_Costs E1 w1 p0 (.agg #[iv p0.W,iv p0.H,.slice a0 p0.Bits.length a2]) a5 aw S1) d (lb d) fun aO a w S=>?_
 obtain ⟨ag,ah,_,rfl,_⟩:=S.mem.know (i:=0) (e:=fRep (rL (rI .i64)) (aO) a5.1) d
 refine sM S fun a S=>?_
 refine sExtract (vs:=[.slice ag a5.1.length ah,iv a5.2]) (.slice ag a5.1.length ah) S (wN d) d d d d (lb d) fun a S=>sExtract (vs:=[.slice ag a5.1.length ah,iv a5.2]) (iv a5.2) S (wN d) d d d d (lb d) fun a S=>sN S fun a S=>?_
 refine sN S fun a S=>?_
 refine lT (av _ _ (sSeq (fun aW ax=>sRegion (sLoadN (p:=b6) (off:=0) (T:=24) (vs:=[iv p0.W,iv p0.H,.slice a0 p0.Bits.length a2]) 0 [iv p0.W,iv p0.H,.slice a0 p0.Bits.length a2] S (wN d) d d d d d d d (lb d) fun a S=>?_))))
 obtain ⟨a6,ay,h⟩:=bS h
 refine sCall (X:=Value) (f:=29) (vs:=[.agg #[iv p0.W,iv p0.H,.slice a0 p0.Bits.length a2]]) (val:=c_raddleref17_Costs_val a6) (B':=fun _=>[]) (D':=c_raddleref17_Costs_D a6) [] [eBox b6 24 [iv p0.W,iv p0.H,.slice a0 p0.Bits.length a2]] [fRep r_api_Grid (.agg #[iv p0.W,iv p0.H,.slice a0 p0.Bits.length a2]) p0] [0] [4] S (wN d) d callee29 d (by decide) d d (fun E1 w1 S1=>c_raddleref17_Costs E1 w1 p0 (.agg #[iv p0.W,iv p0.H,.slice a0 p0.Bits.length a2]) a6 ay S1) d (lb d) fun aP a w S=>?_
 obtain ⟨ai,aj,_,rfl,_⟩:=S.mem.know (i:=0) (e:=fRep (rL (rI .i64)) (aP) a6.1) d
 refine sM S fun a S=>?_
 refine sExtract (vs:=[.slice ai a6.1.length aj,iv a6.2]) (.slice ai a6.1.length aj) S (wN d) d d d d (lb d) fun a S=>sExtract (vs:=[.slice ai a6.1.length aj,iv a6.2]) (iv a6.2) S (wN d) d d d d (lb d) fun a S=>sN S fun a S=>?_
 refine sN S fun a S=>?_
 refine lT (ax _ _ ?_)
 obtain ⟨aQ,h,aR⟩:=bS h
 refine sCut (fun a w=>∃ al,al=aQ∧St [] E [] w0 64 a w [(4,.bool al)] [] []) ?_ (fun a w hI=>?_)
 rotate_left
 ·obtain ⟨al,rfl,S⟩:=hI
  have h:=aR
  try dsimp only at h
  obtain rfl:=tS h
  exact wp_ret (sRet (.bool al) S (rsl1 d (rvT (t:=4) (v:=.bool al) S d)) ⟨(),d,S.mem.sel [] [] (by decide) d d⟩)
 refine sRegion (sM S fun a S=>?_)
 refine sM S fun a S=>?_
 obtain ⟨aH,az,h⟩:=bS h
 have S1:=S.mem
 refine sCq [.slice ab a3.1.length ac,.slice ae a4.1.length af] (.bool aH) S callee17 (S1.quiet [3,2] d) (fun E1 w1 S1=>c_raddleref02_Same E1 w1 a3.1 (.slice ab a3.1.length ac) a4.1 (.slice ae a4.1.length af) aH az S1) fun a w S=>?_
 refine sM S fun a S=>?_
 rcases iS h with ⟨a7,h⟩ | ⟨a7,h⟩
 rotate_left
 ·refine sSkN 3 3 true 44 S d d a7 d fun a S=>sPickF (.bool false) S (wN d) d d a7 d d (lb d) fun a S=>sM S fun a S=>?_
  refine sSkN 3 8 true 49 S d d d d fun a S=>sPickF (.bool false) S (wN d) d d d d d (lb d) fun a S=>sM S fun a S=>?_
  refine sSkN 3 13 true 54 S d d d d fun a S=>sPickF (.bool false) S (wN d) d d d d d (lb d) fun a S=>sM S fun a S=>?_
  refine sSkN 3 18 true 59 S d d d d fun a S=>sPickF (.bool false) S (wN d) d d d d d (lb d) fun a S=>sN S fun a S=>?_
  exact lT (⟨false,Option.some.inj h,S.fix [] [] (by decide) d d d⟩)
 refine sMove (iv a3.2.1) S (wG 3 true 44 d d d a7) (.inl d) d d (lb d) fun a S=>sMove (iv a4.2.1) S (wG 3 true 44 d d d a7) (.inl d) d d (lb d) fun a S=>sBin _ S (wG 3 true 44 d d d a7) d d d (bEq _ _ _ _ .i64 a3.2.1 a4.2.1) d (lb d) fun a S=>sPickT (.bool (a3.2.1 == a4.2.1)) S (wN d) d d a7 d d (lb d) fun a S=>sM S fun a S=>?_
 rcases iS h with ⟨a8,h⟩ | ⟨a8,h⟩
 rotate_left
 ·refine sSkN 3 8 true 49 S d d a8 d fun a S=>sPickF (.bool false) S (wN d) d d a8 d d (lb d) fun a S=>sM S fun a S=>?_
  refine sSkN 3 13 true 54 S d d d d fun a S=>sPickF (.bool false) S (wN d) d d d d d (lb d) fun a S=>sM S fun a S=>?_
  refine sSkN 3 18 true 59 S d d d d fun a S=>sPickF (.bool false) S (wN d) d d d d d (lb d) fun a S=>sN S fun a S=>?_
  exact lT (⟨false,Option.some.inj h,S.fix [] [] (by decide) d d d⟩)
 refine sMove (iv a3.2.2) S (wG 8 true 49 d d d a8) (.inl d) d d (lb d) fun a S=>sMove (iv a4.2.2) S (wG 8 true 49 d d d a8) (.inl d) d d (lb d) fun a S=>sBin _ S (wG 8 true 49 d d d a8) d d d (bEq _ _ _ _ .i64 a3.2.2 a4.2.2) d (lb d) fun a S=>sPickT (.bool (a3.2.2 == a4.2.2)) S (wN d) d d a8 d d (lb d) fun a S=>sM S fun a S=>?_
 rcases iS h with ⟨a9,h⟩ | ⟨a9,h⟩
 rotate_left
 ·refine sSkN 3 13 true 54 S d d a9 d fun a S=>sPickF (.bool false) S (wN d) d d a9 d d (lb d) fun a S=>sM S fun a S=>?_
  refine sSkN 3 18 true 59 S d d d d fun a S=>sPickF (.bool false) S (wN d) d d d d d (lb d) fun a S=>sN S fun a S=>?_
  exact lT (⟨false,Option.some.inj h,S.fix [] [] (by decide) d d d⟩)
 refine sMove (.slice ag a5.1.length ah) S (wG 13 true 54 d d d a9) (.inl d) d d (lb d) fun a S=>sMove (.slice ai a6.1.length aj) S (wG 13 true 54 d d d a9) (.inl d) d d (lb d) fun a S=>?_
 obtain ⟨aA,aC,h⟩:=bS h
 have S1:=S.mem
 refine sCallQ (X:=Unit) (f:=17) (vs:=[.slice ag a5.1.length ah,.slice ai a6.1.length aj]) (val:=fun _=>.bool aA) S (wG 13 true 54 d d d a9) d callee17 d (S1.quiet [1,0] d) (fun E1 w1 S1=>c_raddleref02_Same E1 w1 a5.1 (.slice ag a5.1.length ah) a6.1 (.slice ai a6.1.length aj) aA aC S1) d (lb d) fun _ a w S=>?_
 refine sPickT (.bool aA) S (wN d) d d a9 d d (lb d) fun a S=>sM S fun a S=>?_
 rcases iS h with ⟨aa,h⟩ | ⟨aa,h⟩
 rotate_left
 ·refine sSkN 3 18 true 59 S d d aa d fun a S=>sPickF (.bool false) S (wN d) d d aa d d (lb d) fun a S=>sN S fun a S=>?_
  exact lT (⟨false,Option.some.inj h,S.fix [] [] (by decide) d d d⟩)
 refine sMove (iv a5.2) S (wG 18 true 59 d d d aa) (.inl d) d d (lb d) fun a S=>sMove (iv a6.2) S (wG 18 true 59 d d d aa) (.inl d) d d (lb d) fun a S=>sBin _ S (wG 18 true 59 d d d aa) d d d (bEq _ _ _ _ .i64 a5.2 a6.2) d (lb d) fun a S=>sPickT (.bool (a5.2 == a6.2)) S (wN d) d d aa d d (lb d) fun a S=>sN S fun a S=>?_
 exact lT (⟨a5.2 == a6.2,Option.some.inj h,S.fix [] [] (by decide) d d d⟩)
instance decGrid:DecidableEq api_Grid:=fun a b=>decidable_of_iff (a.W=b.W∧a.H=b.H∧a.Bits=b.Bits) (by cases a; cases b; simp)
structure Gr (g:api_Grid) (w h:Nat):Prop where
 hw:g.W=(w:Int)
 hh:g.H=(h:Int)
 w0:1 ≤ w
 w1:w ≤ 64
 h0:1 ≤ h
 h1:h ≤ 64
 len:g.Bits.length=w * h
def cell (g:api_Grid) (w x y:Nat):Bool:=g.Bits.getD (y * w + x) false
theorem Gr.at {g:api_Grid} {w h:Nat} (G:Gr g w h) {x y:Nat} (hx:x < w) (hy:y < h):idxO g.Bits (w64 ((w64 ((y:Int) * g.W)) + (x:Int)))=some (cell g w x y):=by
 have h1:y * w + x < w * h:=by
  have:=Nat.mul_le_mul_right w (show y + 1 ≤ h by omega)
  rw [Nat.add_mul,Nat.one_mul,Nat.mul_comm h w] at this
  omega
 have h2:w * h ≤ 64 * 64:=Nat.mul_le_mul G.w1 G.h1
 have e:((y:Int) * g.W)=((y * w:Nat):Int):=by rw [G.hw]; simp
 have hz:w64 ((y * w:Nat):Int)=((y * w:Nat):Int):=w64_of (by omega) (by omega)
 rw [e,hz,w64_of (by omega) (by omega)]
 exact idxO_of (k:=y * w + x) (by omega) (by rw [G.len]; exact h1) |>.trans (by unfold cell; simp [G.len,h1])
def gerr (g:api_Grid):Int:=if 64 < g.W ∨ 64 < g.H then 4 else if g.W < 1 ∨ g.H < 1 ∨ ¬ (g.Bits.length:Int)=g.W * g.H then 8 else 0
theorem gprod {g:api_Grid} (h1:¬ (64 < g.W ∨ 64 < g.H)) (h2:¬ (g.W < 1 ∨ g.H < 1)):w64 (g.W * g.H)=g.W * g.H:=by
 have:=mul_bd (u:=g.W) (v:=g.H) (a:=64) (b:=64) (by omega) (by omega) (by omega) (by omega)
 exact w64_of (by omega) (by omega)
theorem gcheck_eq (g:api_Grid):F_grid_Check g=some (gerr g)∧F_raddleref01_Check g=some (gerr g):=by
 unfold F_grid_Check F_raddleref01_Check gerr
 by_cases c1:64 < g.W ∨ 64 < g.H
 ·constructor
  ·have:(64:Int) < (if g.W < g.H then g.H else g.W):=by split <;> omega
   simp only [dT this,if_true,c1]
  ·by_cases c2:64 < g.W
   ·simp only [dT c2,if_true,Option.bind_some,c1]
   ·simp only [dF c2,dT (show 64 < g.H by omega),Bool.false_eq_true,if_true,if_false,Option.bind_some,c1]
 ·have m1:¬ (64:Int) < (if g.W < g.H then g.H else g.W):=by split <;> omega
  by_cases c2:g.W < 1 ∨ g.H < 1
  ·have m2:(if g.H < g.W then g.H else g.W) < (1:Int):=by split <;> omega
   have c3:g.W < 1 ∨ g.H < 1 ∨ ¬ (g.Bits.length:Int)=g.W * g.H:=by omega
   simp only [dF m1,dT m2,dF (show ¬ 64 < g.W by omega),dF (show ¬ 64 < g.H by omega),Bool.false_eq_true,if_true,if_false,Option.bind_some,c1,c3,true_and]
   by_cases c4:g.W < 1
   ·simp only [dT c4,if_true,Option.bind_some]
   ·simp only [dF c4,dT (show g.H < 1 by omega),Bool.false_eq_true,if_true,if_false,Option.bind_some]
  ·have m2:¬ (if g.H < g.W then g.H else g.W) < (1:Int):=by split <;> omega
   have c4:¬ g.W < 1:=by omega
   have c5:¬ g.H < 1:=by omega
   have hb:(if 64 < g.W ∨ 64 < g.H then (4:Int) else if g.W < 1 ∨ g.H < 1 ∨ ¬ (g.Bits.length:Int)=g.W * g.H then 8 else 0)=if (g.Bits.length:Int)=g.W * g.H then 0 else 8:=by
    rw [if_neg c1]
    by_cases c6:(g.Bits.length:Int)=g.W * g.H
    ·rw [if_neg (by omega),if_pos c6]
    ·rw [if_pos (by omega),if_neg c6]
   rw [hb]
   by_cases c6:(g.Bits.length:Int)=g.W * g.H
   ·rw [if_pos c6]
    simp only [dF m1,dF m2,dF (show ¬ 64 < g.W by omega),dF (show ¬ 64 < g.H by omega),dF c4,dF c5,gprod c1 c2,nF c6,Bool.false_eq_true,if_false,Option.bind_some,and_self]
   ·rw [if_neg c6]
    simp only [dF m1,dF m2,dF (show ¬ 64 < g.W by omega),dF (show ¬ 64 < g.H by omega),dF c4,dF c5,gprod c1 c2,nT c6,Bool.false_eq_true,if_true,if_false,Option.bind_some,and_self]
theorem gerr_zero {g:api_Grid} (h:gerr g=0):∃ w h,Gr g w h:=by
 unfold gerr at h
 by_cases c1:64 < g.W ∨ 64 < g.H
 ·rw [if_pos c1] at h; cases h
 rw [if_neg c1] at h
 by_cases c2:g.W < 1 ∨ g.H < 1 ∨ ¬ (g.Bits.length:Int)=g.W * g.H
 ·rw [if_pos c2] at h; cases h
 have c3:(g.Bits.length:Int)=g.W * g.H:=by omega
 refine ⟨g.W.toNat,g.H.toNat,by omega,by omega,by omega,by omega,by omega,by omega,?_⟩
 have e1:g.W=(g.W.toNat:Int):=by omega
 have e2:g.H=(g.H.toNat:Int):=by omega
 rw [e1,e2,← Int.natCast_mul] at c3
 exact Int.ofNat.inj c3
theorem gr_err {g:api_Grid} {w h:Nat} (G:Gr g w h):gerr g=0:=by
 have:=G.w0
 have:=G.w1
 have:=G.h0
 have:=G.h1
 unfold gerr
 rw [G.hw,G.hh,G.len,if_neg (by omega),if_neg]
 rw [Int.natCast_mul]
 omega
def gm (f:Nat→Nat→Bool) (w h:Nat):api_Grid:=api_Grid.mk (w:Int) (h:Int) (gl f w h)
theorem gm_gr (f:Nat→Nat→Bool) {w h:Nat} (w0:1 ≤ w) (w1:w ≤ 64) (h0:1 ≤ h) (h1:h ≤ 64):Gr (gm f w h) w h:=
 ⟨rfl,rfl,w0,w1,h0,h1,gl_len f w h⟩
theorem rat_eq {g:api_Grid} {w h:Nat} (G:Gr g w h) {x y:Nat} (hx:x < w) (hy:y < h):F_raddleref01_At g (x:Int) (y:Int)=some (cell g w x y):=by
 unfold F_raddleref01_At
 rw [G.at hx hy]
 rfl
theorem rset_eq {w h:Nat} (hw:w ≤ 64) (hh:h ≤ 64) {s:List Bool} (hs:s.length=w * h) {x y:Nat} (hx:x < w) (hy:y < h) (H:Int) (b:Bool):F_raddleref01_Set_s0 (w:Int) H s (x:Int) (y:Int) b=some (s.set (y * w + x) b):=by
 have hp:w * h ≤ 64 * 64:=Nat.mul_le_mul hw hh
 have hl:=pl_lt hx hy
 have hy2:y * w ≤ y * w + x:=Nat.le_add_right _ _
 have e1:w64 ((y:Int) * (w:Int))=((y * w:Nat):Int):=wmul (by omega)
 have e2:w64 (((y * w:Nat):Int) + (x:Int))=((y * w + x:Nat):Int):=wadd (by omega)
 unfold F_raddleref01_Set_s0
 rw [e1,e2,idxO_nat (by omega),setO_nat (by omega)]
 simp [keepO]
theorem rzero_eq {w h:Nat} (hw:w ≤ 64) (hh:h ≤ 64):F_raddleref01_Zero_s0 (w:Int) (h:Int)=some ⟨(w:Int),(h:Int),List.replicate (w * h) false⟩:=by
 have hp:w * h ≤ 64 * 64:=Nat.mul_le_mul hw hh
 unfold F_raddleref01_Zero_s0
 rw [wmul (by omega),makeO_of (k:=w * h) rfl (by omega)]
 rfl
theorem rgreat_eq (g:api_Grid):F_raddleref01_Great g=some (decide (4200 < g.Bits.length)):=by
 unfold F_raddleref01_Great
 congr 1
 exact decide_eq_decide.2 (by omega)
def lerr (l:List Int):Int:=if 400 < l.length then 4 else if l.all (fun y=>decide (0 ≤ y∧y < 400))=true then 0 else 8
theorem tcheckL (ls:List (List Int)) (hl:ls.length ≤ 9223372036854775806):whileO (thread_check_l2 ls) 0=some ((ls.findSome? fun l=>if lerr l=0 then none else some (Sum.inl (β:=Unit) (lerr l))).getD (.inr ())):=by
 refine loop_list ls (fun l=>if lerr l=0 then none else some (Sum.inl (lerr l))) (.inr ()) (fun k hk=>?_) ?_
 ·unfold thread_check_l2
  simp only [dT (show (k:Int) < (ls.length:Int) by omega),if_true,idxO_nat hk,Option.bind_some]
  generalize ls[k]=x
  by_cases h:400 < x.length
  ·have e:lerr x=4:=by unfold lerr; rw [if_pos h]
   simp only [dT (show (400:Int) < (x.length:Int) by omega),if_true,Option.bind_some,e]
   rfl
  ·have hw:whileO (thread_check_l1 x) 0=some (if x.all (fun y=>decide (0 ≤ y∧y < 400))=true then .inr () else .inl 8):=by
    refine loop_allL x _ _ _ (fun j hj=>?_) ?_
    ·unfold thread_check_l1
     simp only [dT (show (j:Int) < (x.length:Int) by omega),if_true,idxO_nat hj,Option.bind_some,w64_succ (show j < 9223372036854775807 by omega)]
     by_cases c1:x[j] < 0
     ·simp only [dT c1,if_true,Option.bind_some,dF (show ¬ (0 ≤ x[j]∧x[j] < 400) by omega),Bool.false_eq_true,if_false]
     ·by_cases c2:400 ≤ x[j]
      ·simp only [dF c1,dT c2,Bool.false_eq_true,if_false,if_true,Option.bind_some,dF (show ¬ (0 ≤ x[j]∧x[j] < 400) by omega)]
      ·simp only [dF c1,dF c2,Bool.false_eq_true,if_false,Option.bind_some,dT (show 0 ≤ x[j]∧x[j] < 400 by omega),if_true]
    ·unfold thread_check_l1
     simp only [dF (show ¬ (x.length:Int) < (x.length:Int) by omega),Bool.false_eq_true,if_false]
   simp only [dF (show ¬ (400:Int) < (x.length:Int) by omega),Bool.false_eq_true,if_false,hw,Option.bind_some]
   by_cases hc:x.all (fun y=>decide (0 ≤ y∧y < 400))=true
   ·have e:lerr x=0:=by unfold lerr; rw [if_neg h,if_pos hc]
    rw [if_pos hc,if_pos e]
    simp only [Option.bind_some,w64_succ (show k < 9223372036854775807 by omega)]
   ·have e:lerr x=8:=by unfold lerr; rw [if_neg h,if_neg hc]
    rw [if_neg hc,e]
    rfl
 ·unfold thread_check_l2
  simp only [dF (show ¬ (ls.length:Int) < (ls.length:Int) by omega),Bool.false_eq_true,if_false]
theorem tcheck_eq (l:List Int):F_thread_Check l=some (lerr l):=by
 unfold F_thread_Check F_thread_check
 rw [tcheckL _ (by simp)]
 by_cases h:lerr l=0
 ·simp [h]
 ·simp [h]
theorem rsame_il (a b:List Int) (hl:a.length ≤ 9223372036854775807):F_raddleref02_Same a b=some (decide (a=b)):=by
 by_cases h3:(a.length:Int)=(b.length:Int)
 case neg=>unfold F_raddleref02_Same; simp only [nT h3,if_true]; rw [decide_eq_false]; rintro rfl; exact h3 rfl
 have hw:whileO (raddleref02_Same_l1 a b) 0=some (if a=b then .inr () else .inl false):=by
  refine loop_eql a b (by omega) _ _ (fun k hk=>?_) ?_
  ·unfold raddleref02_Same_l1
   simp only [dT (show (k:Int) < (a.length:Int) by omega),if_true,idxO_nat hk,idxO_nat (xs:=b) (k:=k) (by omega),Option.bind_some,w64_succ (show k < 9223372036854775807 by omega)]
   by_cases e:a[k]=b[k]'(by omega)
   ·rw [if_pos e,e]; simp
   ·rw [if_neg e,if_pos (by simpa using e)]
  ·unfold raddleref02_Same_l1; simp
 unfold F_raddleref02_Same
 simp only [nF h3,Bool.false_eq_true,if_false,Option.bind_some,hw]
 by_cases e:a=b
 ·rw [if_pos e]; simp [e]
 ·rw [if_neg e]; simp [e]
def netk (s:Nat→Int) (b:Nat→Bool) (v:Int):Nat→Int
 | 0=>0
 | n + 1=>netk s b v n + (if s n=v then (if b n=true then 1 else -1) else 0)
theorem netk_bd (s:Nat→Int) (b:Nat→Bool) (v:Int) (n:Nat):-(n:Int) ≤ netk s b v n∧netk s b v n ≤ (n:Int):=by
 induction n with
 | zero=>exact ⟨Int.le_refl _,Int.le_refl _⟩
 | succ n ih=>
  simp only [netk]
  split
  ·split <;> omega
  ·omega
def mkM (s:Nat→Int) (b:Nat→Bool):Nat→List (Int × Int)
 | 0=>[]
 | n + 1=>(s n,if b n=true then lkM (mkM s b n) (s n) + 1 else lkM (mkM s b n) (s n) - 1) :: mkM s b n
theorem mkM_len (s:Nat→Int) (b:Nat→Bool) (n:Nat):(mkM s b n).length=n:=by
 induction n with
 | zero=>rfl
 | succ n ih=>simp [mkM,ih]
theorem mkM_lk (s:Nat→Int) (b:Nat→Bool) (v:Int) (n:Nat):lkM (mkM s b n) v=netk s b v n:=by
 induction n generalizing v with
 | zero=>rfl
 | succ n ih=>
  simp only [mkM,netk]
  rw [lkM_cons,ih v,ih (s n)]
  by_cases h:v=s n
  ·subst h
   rw [if_pos rfl,if_pos rfl]
   split <;> omega
  ·rw [if_neg h,if_neg (Ne.symm h),Int.add_zero]
theorem inI_t {k:Int} (h0:-9223372036854775808 ≤ k) (h1:k ≤ 9223372036854775807):inI k=true:=by
 unfold inI
 rw [decide_eq_true h0,decide_eq_true h1]
 rfl
theorem lkO_of {M:List (Int × Int)} {k:Int} (h0:-9223372036854775808 ≤ k) (h1:k ≤ 9223372036854775807):lkO M k=some (lkM M k):=by unfold lkO; rw [if_pos (inI_t h0 h1)]
theorem updM_of {M:List (Int × Int)} {k v:Int} (h0:-9223372036854775808 ≤ k) (h1:k ≤ 9223372036854775807) (h2:-9223372036854775808 ≤ v) (h3:v ≤ 9223372036854775807) (h4:M.length ≤ 68719476736):updM M k v=some ((k,v) :: M):=by
 unfold updM
 rw [if_pos ⟨inI_t h0 h1,inI_t h2 h3,by simpa [lim] using h4⟩]
def sl (l:List Int):Nat→Int:=fun j=>l.getD j 0
def cb (g:api_Grid) (w y:Nat):Nat→Bool:=fun x=>cell g w x y
def outc (g:api_Grid) (w:Nat) (l:List Int) (x y:Nat):Bool:=decide (0 < netk (sl l) (cb g w y) (sl l x) w)
def dcnt (f b:Nat→Bool):Nat→Nat
 | 0=>0
 | n + 1=>dcnt f b n + (if f n != b n then 1 else 0)
theorem dcnt_le (f b:Nat→Bool) (n:Nat):dcnt f b n ≤ n:=by
 induction n with
 | zero=>exact Nat.le_refl _
 | succ n ih=>
  simp only [dcnt]
  split <;> omega
theorem dcnt_cong {f f' b b':Nat→Bool} {n:Nat} (h:∀ t,t < n→f t=f' t∧b t=b' t):dcnt f b n=dcnt f' b' n:=by
 induction n with
 | zero=>rfl
 | succ n ih=>
  simp only [dcnt]
  rw [ih fun t ht=>h t (by omega),(h n (by omega)).1,(h n (by omega)).2]
def apd (a b:api_Grid) (n:Nat):Nat:=dcnt (fun t=>a.Bits.getD t false) (fun t=>b.Bits.getD t false) n
theorem getD_of {α:Type} {l:List α} {k:Nat} (h:k < l.length) (d:α):l[k]=l.getD k d:=by simp [h]
theorem chg_l1 (row:List Bool) (l:List Int) (hl:l.length=row.length) (hn:row.length ≤ 64) (hb:∀ y,y ∈ l→0 ≤ y∧y < 400) :
 whileO (reduce_Change_s1_l1 row l) (0,[])=some (mkM (sl l) (fun j=>row.getD j false) row.length):=by
 refine loop_seq (fun k=>((k:Int),mkM (sl l) (fun j=>row.getD j false) k)) row.length (fun k hk=>?_) ?_
 ·unfold reduce_Change_s1_l1
  have hx:=hb _ (List.getElem_mem (l:=l) (n:=k) (by omega))
  have h1:=netk_bd (sl l) (fun j=>row.getD j false) (l[k]'(by omega)) k
  rw [← mkM_lk] at h1
  have e1:sl l k=l[k]'(by omega):=(getD_of (by omega) 0).symm
  have e2:row.getD k false=row[k]:=(getD_of hk false).symm
  have hm:=mkM_len (sl l) (fun j=>row.getD j false) k
  simp only [dT (show (k:Int) < (row.length:Int) by omega),if_true,idxO_nat hk,idxO_nat (xs:=l) (k:=k) (by omega),Option.bind_some,w64_succ (show k < 9223372036854775807 by omega),lkO_of (M:=mkM (sl l) (fun j=>row.getD j false) k) (show -9223372036854775808 ≤ l[k]'(by omega) by omega) (show l[k]'(by omega) ≤ 9223372036854775807 by omega)]
  simp only [mkM,e1,e2]
  generalize row[k]=q
  generalize lkM (mkM (sl l) (fun j=>row.getD j false) k) (l[k]'(by omega))=z at h1
  rw [w64_of (x:=z + 1) (by omega) (by omega),w64_of (x:=z - 1) (by omega) (by omega)]
  rw [updM_of (v:=z + 1) (by omega) (by omega) (by omega) (by omega) (by omega),updM_of (v:=z - 1) (by omega) (by omega) (by omega) (by omega) (by omega)]
  cases q <;> rfl
 ·unfold reduce_Change_s1_l1
  simp only [dF (show ¬ (row.length:Int) < (row.length:Int) by omega),Bool.false_eq_true,if_false]
theorem netk_cong {s:Nat→Int} {b b':Nat→Bool} {v:Int} {n:Nat} (h:∀ j,j < n→b j=b' j):netk s b v n=netk s b' v n:=by
 induction n with
 | zero=>rfl
 | succ n ih=>
  have e:=h n (by omega)
  unfold netk
  rw [ih fun j hj=>h j (by omega),e]
theorem outc_row {g:api_Grid} {w:Nat} {l:List Int} {row:List Bool} {y:Nat} (hr:∀ j,j < w→row.getD j false=cell g w j y) (v:Int):netk (sl l) (fun j=>row.getD j false) v w=netk (sl l) (cb g w y) v w:=
 netk_cong fun j hj=>hr j hj
def oF (g:api_Grid) (w:Nat) (l:List Int):Nat→Bool:=fun t=>outc g w l (t % w) (t / w)
def oB (g:api_Grid):Nat→Bool:=fun t=>g.Bits.getD t false
theorem chg_l2 {g:api_Grid} {w h:Nat} (G:Gr g w h) (row:List Bool) (l:List Int) (hl:l.length=row.length) (hw:row.length=w) {y:Nat} (hy:y < h) (hr:∀ j,j < w→row.getD j false=cell g w j y) (hb:∀ y,y ∈ l→0 ≤ y∧y < 400) :
 whileO (reduce_Change_s1_l2 row l (mkM (sl l) (fun j=>row.getD j false) row.length)) (((dcnt (oF g w l) (oB g) (y * w):Nat):Int),0,glf (outc g w l) w (y * w))=some (((dcnt (oF g w l) (oB g) (y * w + w):Nat):Int),glf (outc g w l) w (y * w + w)):=by
 have w1:=G.w1
 have hp:w * h ≤ 64 * 64:=Nat.mul_le_mul G.w1 G.h1
 refine loop_seq (fun k=>(((dcnt (oF g w l) (oB g) (y * w + k):Nat):Int),(k:Int),glf (outc g w l) w (y * w + k))) w (fun k hk=>?_) ?_
 ·unfold reduce_Change_s1_l2
  have hx:=hb _ (List.getElem_mem (l:=l) (n:=k) (by omega))
  have e1:sl l k=l[k]'(by omega):=(getD_of (by omega) 0).symm
  have e2:row[k]'(by omega)=cell g w k y:=by rw [← hr k hk]; exact getD_of (by omega) false
  have hlt:=pl_lt hk hy
  have hd:=dcnt_le (oF g w l) (oB g) (y * w + k)
  have e3:oF g w l (y * w + k)=decide (0 < netk (sl l) (cb g w y) (l[k]'(by omega)) w):=by
   unfold oF
   rw [pl_mod hk,pl_div hk]
   unfold outc
   rw [e1]
  have e4:oB g (y * w + k)=cell g w k y:=rfl
  have e5:(glf (outc g w l) w (y * w + k)).length=y * w + k:=by simp [glf]
  have e6:outc g w l ((y * w + k) % w) ((y * w + k) / w)=oF g w l (y * w + k):=rfl
  simp only [dT (show (k:Int) < (row.length:Int) by omega),if_true,idxO_nat (xs:=row) (k:=k) (by omega),idxO_nat (xs:=l) (k:=k) (by omega),Option.bind_some,w64_succ (show k < 9223372036854775807 by omega),lkO_of (M:=mkM (sl l) (fun j=>row.getD j false) row.length) (show -9223372036854775808 ≤ l[k]'(by omega) by omega) (show l[k]'(by omega) ≤ 9223372036854775807 by omega),mkM_lk]
  generalize l[k]'(by omega)=q at hx e1 e3 ⊢
  generalize row[k]'(by omega)=q2 at e2 ⊢
  subst e2
  rw [hw,outc_row hr,← e3,appO_of (by rw [e5]; simp; omega)]
  rw [← Nat.add_assoc,glf_succ,e6]
  simp only [dcnt]
  rw [e4]
  simp only [Option.bind_some]
  by_cases hc:(oF g w l (y * w + k) != cell g w k y)=true
  ·rw [if_pos hc,if_pos hc]
   simp only [Option.bind_some]
   rw [w64_of (by omega) (by omega)]
   rfl
  ·rw [if_neg hc,if_neg hc]
   rfl
 ·unfold reduce_Change_s1_l2
  simp only [dF (show ¬ (w:Int) < (row.length:Int) by omega),Bool.false_eq_true,if_false]
def cost (g:api_Grid) (w h:Nat) (l:List Int):Nat:=dcnt (oF g w l) (oB g) (w * h)
theorem chg_l3 {g:api_Grid} {w h:Nat} (G:Gr g w h) (l:List Int) (hl:l.length=w) (hb:∀ y,y ∈ l→0 ≤ y∧y < 400) :
 whileO (reduce_Change_s1_l3 g l) (0,0,[])=some (((cost g w h l:Nat):Int),gl (outc g w l) w h):=by
 have w1:=G.w1
 have hp:w * h ≤ 64 * 64:=Nat.mul_le_mul G.w1 G.h1
 have:=loop_seq (B:=reduce_Change_s1_l3 g l) (t:=(((cost g w h l:Nat):Int),gl (outc g w l) w h)) (fun y=>(((dcnt (oF g w l) (oB g) (y * w):Nat):Int),(y:Int),glf (outc g w l) w (y * w))) h (fun y hy=>?_) ?_
 ·simpa [dcnt,glf] using this
 ·have hm1:(y + 1) * w ≤ h * w:=Nat.mul_le_mul_right w (show y + 1 ≤ h by omega)
  rw [Nat.mul_comm h w] at hm1
  have hm0:(y + 1) * w=y * w + w:=by rw [Nat.add_mul,Nat.one_mul]
  have hlen:=G.len
  unfold reduce_Change_s1_l3
  have s1:sliceO g.Bits (w64 ((y:Int) * g.W)) (w64 (((y + 1:Nat):Int) * g.W))=some ((g.Bits.take ((y + 1) * w)).drop (y * w)):=by
   rw [G.hw,wmul (by omega),wmul (by omega)]
   exact sliceO_of rfl rfl (by omega) (by omega)
  have r1:((g.Bits.take ((y + 1) * w)).drop (y * w)).length=w:=by simp; omega
  have r2:∀ j,j < w→((g.Bits.take ((y + 1) * w)).drop (y * w)).getD j false=cell g w j y:=by
   intro j hj
   unfold cell
   simp only [List.getD_eq_getElem?_getD,List.getElem?_drop,List.getElem?_take]
   rw [if_pos (by omega)]
  have h1:=chg_l1 _ l (by rw [r1]; exact hl) (by rw [r1]; exact w1) hb
  have h2:=chg_l2 G _ l (by rw [r1]; exact hl) r1 hy r2 hb
  rw [G.hh]
  simp only [dT (show (y:Int) < (h:Int) by omega),if_true,s1,Option.bind_some,h1,h2,w64_succ (show y < 9223372036854775807 by have:=G.h1; omega)]
  rw [hm0]
 ·unfold reduce_Change_s1_l3
  rw [G.hh]
  simp only [dF (show ¬ (h:Int) < (h:Int) by omega),Bool.false_eq_true,if_false]
  unfold gl cost
  rw [Nat.mul_comm h w]
theorem chg_eq {g:api_Grid} {w h:Nat} (G:Gr g w h) (l:List Int) (hl:l.length=w) (hb:∀ y,y ∈ l→0 ≤ y∧y < 400) :
 F_reduce_Change_s1 g l=some (gm (outc g w l) w h,((cost g w h l:Nat):Int),0,l):=by
 have w1:=G.w1
 have he:lerr l=0:=by
  unfold lerr
  rw [if_neg (by omega),if_pos (List.all_eq_true.2 fun y hy=>decide_eq_true (hb y hy))]
 have hlen:(l.length:Int)=g.W:=by rw [hl,G.hw]
 unfold F_reduce_Change_s1
 simp only [(gcheck_eq g).1,gr_err G,tcheck_eq,he,Option.bind_some,nF (show (0:Int)=0 from rfl),nF hlen,Bool.false_eq_true,if_false,chg_l3 G l hl hb]
 rw [G.hw,G.hh]
 rfl
def upk (s:Nat→Int) (b:Nat→Bool) (v:Int) (c:Bool):Nat→Nat
 | 0=>0
 | n + 1=>upk s b v c n + (if s n=v∧b n=c then 1 else 0)
theorem upk_le (s:Nat→Int) (b:Nat→Bool) (v:Int) (c:Bool) (n:Nat):upk s b v c n ≤ n:=by
 induction n with
 | zero=>exact Nat.le_refl _
 | succ n ih=>
  simp only [upk]
  split <;> omega
theorem upk_net (s:Nat→Int) (b:Nat→Bool) (v:Int) (n:Nat):netk s b v n=(upk s b v true n:Int) - (upk s b v false n:Int):=by
 induction n with
 | zero=>rfl
 | succ n ih=>
  simp only [upk,netk]
  rw [ih]
  by_cases h:s n=v
  ·cases hb:b n <;> simp [h] <;> omega
  ·simp [h]
def gsc (f:Nat→Nat→Bool) (w h x y:Nat):List Bool:=(List.range (w * h)).map fun t=>if t % w < x ∨ (t % w=x∧t / w < y) then f (t % w) (t / w) else false
theorem gsc_len (f:Nat→Nat→Bool) (w h x y:Nat):(gsc f w h x y).length=w * h:=by simp [gsc]
theorem gsc_zero (f:Nat→Nat→Bool) (w h:Nat):gsc f w h 0 0=List.replicate (w * h) false:=by
 unfold gsc
 rw [show (fun t=>if t % w < 0 ∨ (t % w=0∧t / w < 0) then f (t % w) (t / w) else false)=fun _=>false from funext fun t=>if_neg (by
  rintro (h1 | ⟨_,h1⟩)
  ·exact Nat.not_lt_zero _ h1
  ·exact Nat.not_lt_zero _ h1)]
 simp [List.map_const']
theorem gsc_set (f:Nat→Nat→Bool) {w h x y:Nat} (hx:x < w):(gsc f w h x y).set (y * w + x) (f x y)=gsc f w h x (y + 1):=by
 apply List.ext_getElem?
 intro t
 by_cases ht:t < w * h
 ·rw [List.getElem?_set]
  simp only [gsc,List.getElem?_map,List.getElem?_range ht,Option.map_some,List.length_map,List.length_range]
  by_cases e:y * w + x=t
  ·subst e; rw [if_pos rfl,if_pos ht,pl_mod hx,pl_div hx,if_pos (by omega)]
  ·rw [if_neg e]
   have hne:¬ (t % w=x∧t / w=y):=by
    rintro ⟨h1,h2⟩
    apply e
    rw [← h1,← h2]
    exact pl_of t w
   by_cases e2:t % w < x ∨ (t % w=x∧t / w < y)
   ·rw [if_pos e2,if_pos (by omega)]
   ·rw [if_neg e2,if_neg (by omega)]
 ·rw [List.getElem?_eq_none (by simp [gsc]; omega),List.getElem?_eq_none (by simp [gsc]; omega)]
theorem gsc_next (f:Nat→Nat→Bool) (w h x:Nat):gsc f w h x h=gsc f w h (x + 1) 0:=by
 unfold gsc
 refine map_cong fun t ht=>?_
 have:=pl_divlt ht
 generalize t % w=a at this ⊢
 generalize t / w=c at this ⊢
 by_cases e:a < x + 1
 ·rw [if_pos (by omega),if_pos (by omega)]
 ·rw [if_neg (by omega),if_neg (by omega)]
theorem gsc_full (f:Nat→Nat→Bool) (w h:Nat):gsc f w h w 0=gl f w h:=by
 unfold gsc gl glf
 refine map_cong fun t ht=>?_
 have hw:0 < w:=by rcases Nat.eq_zero_or_pos w with h0 | h0; rw [h0,Nat.zero_mul] at ht; omega; exact h0
 exact if_pos (.inl (pl_modlt hw))
theorem rch_l1 {g:api_Grid} {w h:Nat} (G:Gr g w h) (l:List Int) (hl:l.length=w) {x y:Nat} (hx:x < w) (hy:y < h) :
 whileO (raddleref17_changed_s1_l1 g l (x:Int) (y:Int)) (0,0,0)=some ((upk (sl l) (cb g w y) (sl l x) true w:Int),(upk (sl l) (cb g w y) (sl l x) false w:Int)):=by
 have w1:=G.w1
 refine loop_seq (fun k=>((upk (sl l) (cb g w y) (sl l x) true k:Int),(upk (sl l) (cb g w y) (sl l x) false k:Int),(k:Int))) w (fun k hk=>?_) ?_
 ·unfold raddleref17_changed_s1_l1
  have e1:l[k]'(by omega)=sl l k:=getD_of (by omega) 0
  have e2:l[x]'(by omega)=sl l x:=getD_of (by omega) 0
  have e3:cell g w k y=cb g w y k:=rfl
  have u1:=upk_le (sl l) (cb g w y) (sl l x) true k
  have u2:=upk_le (sl l) (cb g w y) (sl l x) false k
  rw [G.hw]
  simp only [dT (show (k:Int) < (w:Int) by omega),if_true,idxO_nat (xs:=l) (k:=k) (by omega),idxO_nat (xs:=l) (k:=x) (by omega),Option.bind_some,w64_succ (show k < 9223372036854775807 by omega),rat_eq G hk hy,e1,e2,e3]
  rw [w64_of (x:=(upk (sl l) (cb g w y) (sl l x) true k:Int) + 1) (by omega) (by omega),w64_of (x:=(upk (sl l) (cb g w y) (sl l x) false k:Int) + 1) (by omega) (by omega)]
  simp only [upk]
  by_cases h:sl l k=sl l x
  ·cases hb:cb g w y k <;> simp [h]
  ·simp [h]
 ·unfold raddleref17_changed_s1_l1
  rw [G.hw]
  simp only [dF (show ¬ (w:Int) < (w:Int) by omega),Bool.false_eq_true,if_false]
theorem rch_eq {g:api_Grid} {w h:Nat} (G:Gr g w h) (l:List Int) (hl:l.length=w) :
 F_raddleref17_changed_s1 g l=some (gm (outc g w l) w h,l):=by
 have w1:=G.w1
 have h1:=G.h1
 have hz:F_raddleref01_Zero_s0 g.W g.H=some ⟨(w:Int),(h:Int),List.replicate (w * h) false⟩:=by rw [G.hw,G.hh]; exact rzero_eq w1 h1
 have hl2:∀ x,x < w→whileO (raddleref17_changed_s1_l2 g l (x:Int) ⟨(w:Int),(h:Int),List.replicate (w * h) false⟩) (0,gsc (outc g w l) w h x 0)=some (gsc (outc g w l) w h x h):=by
  intro x hx
  refine loop_seq (fun y=>((y:Int),gsc (outc g w l) w h x y)) h (fun y hy=>?_) ?_
  ·unfold raddleref17_changed_s1_l2
   have e1:decide ((upk (sl l) (cb g w y) (sl l x) false w:Int) < (upk (sl l) (cb g w y) (sl l x) true w:Int))=outc g w l x y:=by
    unfold outc
    rw [upk_net]
    exact decide_eq_decide.2 (by omega)
   rw [G.hh]
   simp only [dT (show (y:Int) < (h:Int) by omega),if_true,rch_l1 G l hl hx hy,Option.bind_some,e1,rset_eq w1 h1 (gsc_len (outc g w l) w h x y) hx hy,gsc_set (outc g w l) hx,w64_succ (show y < 9223372036854775807 by omega)]
  ·unfold raddleref17_changed_s1_l2
   rw [G.hh]
   simp only [dF (show ¬ (h:Int) < (h:Int) by omega),Bool.false_eq_true,if_false]
 have hl3:whileO (raddleref17_changed_s1_l3 g l ⟨(w:Int),(h:Int),List.replicate (w * h) false⟩) (0,gsc (outc g w l) w h 0 0)=some (gsc (outc g w l) w h w 0):=by
  refine loop_seq (fun x=>((x:Int),gsc (outc g w l) w h x 0)) w (fun x hx=>?_) ?_
  ·unfold raddleref17_changed_s1_l3
   rw [G.hw]
   simp only [dT (show (x:Int) < (w:Int) by omega),if_true,hl2 x hx,Option.bind_some,gsc_next,w64_succ (show x < 9223372036854775807 by omega)]
  ·unfold raddleref17_changed_s1_l3
   rw [G.hw]
   simp only [dF (show ¬ (w:Int) < (w:Int) by omega),Bool.false_eq_true,if_false]
 unfold F_raddleref17_changed_s1
 rw [gsc_zero] at hl3
 simp only [hz,Option.bind_some,hl3,gsc_full]
 rfl
theorem apart_loop {a b:api_Grid} {w h:Nat} (A:Gr a w h) (B:Gr b w h):whileO (raddleref17_Apart_l1 a b) (0,0)=some ((apd a b (w * h):Nat):Int):=by
 have hp:w * h ≤ 64 * 64:=Nat.mul_le_mul A.w1 A.h1
 have la:=A.len
 have lb:=B.len
 refine loop_seq (fun t=>(((apd a b t:Nat):Int),(t:Int))) (w * h) (fun t ht=>?_) ?_
 ·unfold raddleref17_Apart_l1
  have e1:a.Bits[t]'(by omega)=a.Bits.getD t false:=getD_of (by omega) false
  have e2:b.Bits[t]'(by omega)=b.Bits.getD t false:=getD_of (by omega) false
  have hd:=dcnt_le (fun t=>a.Bits.getD t false) (fun t=>b.Bits.getD t false) t
  simp only [dT (show (t:Int) < (a.Bits.length:Int) by omega),if_true,idxO_nat (xs:=a.Bits) (k:=t) (by omega),idxO_nat (xs:=b.Bits) (k:=t) (by omega),Option.bind_some,w64_succ (show t < 9223372036854775807 by omega),e1,e2,apd,dcnt]
  by_cases hc:(a.Bits.getD t false != b.Bits.getD t false)=true
  ·rw [if_pos hc,if_pos hc]
   simp only [Option.bind_some]
   rw [w64_of (by omega) (by omega)]
   rfl
  ·rw [if_neg hc,if_neg hc]
   rfl
 ·unfold raddleref17_Apart_l1
  simp only [dF (show ¬ ((w * h:Nat):Int) < (a.Bits.length:Int) by omega),Bool.false_eq_true,if_false]
theorem apart_eq {a b:api_Grid} {w h:Nat} (A:Gr a w h) (B:Gr b w h):F_raddleref17_Apart a b=some ((apd a b (w * h):Nat):Int):=by
 unfold F_raddleref17_Apart
 simp only [apart_loop A B,Option.bind_some]
theorem cost_apd {g:api_Grid} {w h:Nat} (G:Gr g w h) (l:List Int):apd (gm (outc g w l) w h) g (w * h)=cost g w h l:=by
 unfold apd cost
 refine dcnt_cong fun t ht=>⟨?_,rfl⟩
 have hw:0 < w:=G.w0
 have:=gl_get (outc g w l) w h false (t % w) (t / w) (pl_modlt hw) (pl_divlt ht)
 rw [pl_of] at this
 exact this
def rg (k:Nat):Nat→Nat→List (List Int)
 | 0,_=>[[]]
 | m + 1,n=>(List.range (min k (n + 1))).flatMap fun v=>(rg k m (max n (v + 1))).map fun r=>(v:Int) :: r
def stp (f:List Int→Nat) (S:List Int × Int) (l:List Int):List Int × Int:=
 if S.1=[] ∨ (f l:Int) < S.2 then (l,(f l:Int)) else S
noncomputable def fbod (Fr:reduce_search→Int→Option reduce_search) (p0:reduce_search) (p1:Int):(Int × Int × Int × Int × List Int × List Int × Int)→Option ((Int × Int × Int × Int × List Int × List Int × Int) ⊕ (Int × Int × Int × List Int × List Int × Int)):=fun s0=>match s0 with
 | (s49,s50,s51,s52,s53,s56,s59)=>
  if decide (s49 < (if p0.k < (w64 (p1 + 1)) then p0.k else w64 (p1 + 1))) then
   Option.bind (appO s53 ([s49]:List Int)) fun l81=>
   Option.bind (Fr (reduce_search.mk (api_Grid.mk s50 s51 p0.g.Bits) s52 l81 s56 s59) (if p1 < (w64 (s49 + 1)) then w64 (s49 + 1) else p1)) fun r86=>
   Option.bind (sliceO r86.l 0 (w64 ((r86.l.length:Int) - 1))) fun y93=>
   some (.inl (w64 (s49 + 1),r86.g.W,r86.g.H,r86.k,y93,r86.best,r86.least))
  else
   some (.inr (s50,s51,s52,s53,s56,s59))
noncomputable def FRs (Fr:reduce_search→Int→Option reduce_search) (p0:reduce_search) (p1:Int):Option reduce_search:=
 if (p0.l.length:Int) == p0.g.W then
  Option.bind (α:=(List Int × List Int × Int)) (
   Option.bind (α:=(Int × List Int)) (
    Option.bind (F_reduce_Change_s1 p0.g p0.l) fun r23=>
    some (r23.2.1,r23.2.2.2)) fun (o17,o18)=>
   Option.bind (α:=Bool) (
    if p0.best.isEmpty then
     some true
    else
     some (decide (o17 < p0.least))) fun o36=>
   if o36 then
    Option.bind (F_slices_Clone___int_int__s1 o18) fun r41=>
    Option.bind (neO r41.1) fun z46=>
    some (r41.2,r41.1,o17)
   else
    some (o18,p0.best,p0.least)) fun (o8,o11,o14)=>
  some (reduce_search.mk p0.g p0.k o8 o11 o14)
 else
  Option.bind (whileO (fbod Fr p0 p1) (0,p0.g.W,p0.g.H,p0.k,p0.l,p0.best,p0.least)) fun (e63,e64,e65,e66,e69,e72)=>
   some (reduce_search.mk (api_Grid.mk e63 e64 p0.g.Bits) e65 e66 e69 e72)
theorem FR_1:F_reduce_search_from_s1=FRs F_reduce_search_from_s2:=rfl
theorem FR_2:F_reduce_search_from_s2=FRs F_reduce_search_from_s3:=rfl
theorem FR_3:F_reduce_search_from_s3=FRs F_reduce_search_from_s4:=rfl
theorem FR_4:F_reduce_search_from_s4=FRs F_reduce_search_from_s5:=rfl
theorem FR_5:F_reduce_search_from_s5=FRs F_reduce_search_from_s6:=rfl
theorem FR_6:F_reduce_search_from_s6=FRs F_reduce_search_from_s7:=rfl
theorem FR_7:F_reduce_search_from_s7=FRs F_reduce_search_from_s8:=rfl
theorem FR_8:F_reduce_search_from_s8=FRs F_reduce_search_from_s9:=rfl
theorem FR_9:F_reduce_search_from_s9=FRs F_reduce_search_from_s10:=rfl
def Spec (g:api_Grid) (k w h:Nat) (Fr:reduce_search→Int→Option reduce_search) (m:Nat):Prop:=
 ∀ (l best:List Int) (least:Int) (n:Nat),l.length + m=w→(∀ y,y ∈ l→0 ≤ y∧y < 400)→n ≤ 1000 →
  Fr ⟨g,(k:Int),l,best,least⟩ (n:Int)=some ⟨g,(k:Int),l,(((rg k m n).map (l ++ ·)).foldl (stp (cost g w h)) (best,least)).1,(((rg k m n).map (l ++ ·)).foldl (stp (cost g w h)) (best,least)).2⟩
theorem spec0 {g:api_Grid} {w h:Nat} (G:Gr g w h) (k:Nat) (Fr:reduce_search→Int→Option reduce_search):Spec g k w h (FRs Fr) 0:=by
 intro l best least n hl hb hn
 have w0:=G.w0
 have w1:=G.w1
 have hlen:((l.length:Int) == g.W)=true:=bT (by rw [G.hw]; omega)
 have hne:l ≠ []:=by intro e; rw [e,List.length_nil] at hl; omega
 have hcl:F_slices_Clone___int_int__s1 l=some (l,l):=by
  unfold F_slices_Clone___int_int__s1
  rw [appO_of (by simp; omega)]
  rfl
 have hno:neO l=some ():=by
  cases l with
  | nil=>exact absurd rfl hne
  | cons=>rfl
 have hrg:((rg k 0 n).map (l ++ ·)).foldl (stp (cost g w h)) (best,least)=stp (cost g w h) (best,least) l:=by simp [rg]
 rw [hrg]
 unfold FRs stp
 simp only [hlen,if_true,chg_eq G l (by omega) hb,Option.bind_some]
 by_cases c:best=[]
 ·subst c
  simp only [List.isEmpty_nil,if_true,Option.bind_some,hcl,hno,true_or]
 ·have c1:best.isEmpty=false:=by
   cases best with
   | nil=>exact absurd rfl c
   | cons=>rfl
  by_cases c2:(cost g w h l:Int) < least
  ·simp only [c1,Bool.false_eq_true,if_false,dT c2,Option.bind_some,if_true,hcl,hno]
   rw [if_pos (show best=[] ∨ (cost g w h l:Int) < least from .inr c2)]
  ·simp only [c1,Bool.false_eq_true,if_false,dF c2,Option.bind_some]
   rw [if_neg (show ¬ (best=[] ∨ (cost g w h l:Int) < least) from fun hc=>hc.elim c c2)]
theorem specS {g:api_Grid} {w h:Nat} (G:Gr g w h) {k:Nat} (hk:k ≤ 40) (Fr:reduce_search→Int→Option reduce_search) {m:Nat} (H:Spec g k w h Fr m):Spec g k w h (FRs Fr) (m + 1):=by
 intro l best least n hl hb hn
 have w1:=G.w1
 have hlen:((l.length:Int) == g.W)=false:=bF (by rw [G.hw]; omega)
 have hg:api_Grid.mk g.W g.H g.Bits=g:=by cases g; rfl
 have hS:∃ A:Nat→List (List Int),A=(fun v=>(List.range v).flatMap fun u=>(rg k m (max n (u + 1))).map fun r=>(u:Int) :: r):=⟨_,rfl⟩
 obtain ⟨A,hA⟩:=hS
 have hT:∃ S:Nat→List Int × Int,S=(fun v=>((A v).map (l ++ ·)).foldl (stp (cost g w h)) (best,least)):=⟨_,rfl⟩
 obtain ⟨S,hS⟩:=hT
 have hS0:S 0=(best,least):=by rw [hS,hA]; rfl
 have hSs:∀ v,S (v + 1)=((rg k m (max n (v + 1))).map ((l ++ [(v:Int)]) ++ ·)).foldl (stp (cost g w h)) (S v):=by
  intro v
  rw [hS,hA]
  simp only [List.range_succ,List.flatMap_append,List.map_append,List.foldl_append,List.flatMap_cons,List.flatMap_nil,List.append_nil,List.map_map]
  congr 1
  refine List.map_congr_left fun r hr=>?_
  simp
 have hc:(if (k:Int) < w64 ((n:Int) + 1) then (k:Int) else w64 ((n:Int) + 1))=((min k (n + 1):Nat):Int):=by
  rw [w64_succ (by omega)]
  split <;> omega
 have hloop:whileO (fbod Fr ⟨g,(k:Int),l,best,least⟩ (n:Int)) (0,g.W,g.H,(k:Int),l,best,least)=some (g.W,g.H,(k:Int),l,(S (min k (n + 1))).1,(S (min k (n + 1))).2):=by
  have:=loop_seq (B:=fbod Fr ⟨g,(k:Int),l,best,least⟩ (n:Int)) (t:=(g.W,g.H,(k:Int),l,(S (min k (n + 1))).1,(S (min k (n + 1))).2)) (fun v=>((v:Int),g.W,g.H,(k:Int),l,(S v).1,(S v).2)) (min k (n + 1)) (fun v hv=>?_) ?_
  ·rw [hS0] at this
   exact this
  ·have hn2:(if (n:Int) < ((v + 1:Nat):Int) then ((v + 1:Nat):Int) else (n:Int))=((max n (v + 1):Nat):Int):=by
    split <;> omega
   have hh:=H (l ++ [(v:Int)]) (S v).1 (S v).2 (max n (v + 1)) (by simp; omega) (by
    intro y hy
    rcases List.mem_append.1 hy with h1 | h1
    ·exact hb y h1
    ·rw [List.mem_singleton.1 h1]; omega) (by omega)
   have hsl:sliceO (l ++ [(v:Int)]) 0 (w64 (((l ++ [(v:Int)]).length:Int) - 1))=some l:=by
    have e1:w64 (((l ++ [(v:Int)]).length:Int) - 1)=(l.length:Int):=by
     rw [w64_of (by simp only [List.length_append,List.length_singleton]; omega) (by simp only [List.length_append,List.length_singleton]; omega)]
     simp
    have e2:=sliceO_of (xs:=l ++ [(v:Int)]) (lo:=0) (hi:=(l.length:Int)) (l:=0) (k:=l.length) rfl rfl (by omega) (by simp)
    rw [e1,e2]
    simp
   unfold fbod
   simp only [hc,dT (show (v:Int) < ((min k (n + 1):Nat):Int) by omega),if_true,appO_of (xs:=l) (ys:=[(v:Int)]) (by simp; omega),Option.bind_some,hn2,hg,hh,hsl,w64_succ (show v < 9223372036854775807 by omega)]
   rw [hSs v]
  ·unfold fbod
   simp only [hc,dF (show ¬ ((min k (n + 1):Nat):Int) < ((min k (n + 1):Nat):Int) by omega),Bool.false_eq_true,if_false]
 have hend:((rg k (m + 1) n).map (l ++ ·)).foldl (stp (cost g w h)) (best,least)=S (min k (n + 1)):=by
  rw [hS,hA]
  rfl
 rw [hend]
 unfold FRs
 simp only [hlen,Bool.false_eq_true,if_false,hloop,Option.bind_some,hg]
theorem lev {g:api_Grid} {w h:Nat} (G:Gr g w h) {k:Nat} (hk:k ≤ 40) {Fr Fq:reduce_search→Int→Option reduce_search} (hF:Fr=FRs Fq) {a:Nat} (H:∀ j,j ≤ a→Spec g k w h Fq j):∀ j,j ≤ a + 1→Spec g k w h Fr j:=by
 intro j hj
 subst hF
 cases j with
 | zero=>exact spec0 G k Fq
 | succ j=>exact specS G hk Fq (H j (by omega))
theorem from_eq {g:api_Grid} {w h:Nat} (G:Gr g w h) {k:Nat} (hk:k ≤ 40):∀ j,j ≤ 8→Spec g k w h F_reduce_search_from_s1 j:=
 lev G hk FR_1 (lev G hk FR_2 (lev G hk FR_3 (lev G hk FR_4 (lev G hk FR_5 (lev G hk FR_6 (lev G hk FR_7 (lev G hk FR_8 (a:=0) fun j hj=>by
  obtain rfl:j=0:=by omega
  rw [FR_9]
  exact spec0 G k _)))))))
def bst (g:api_Grid) (w h k:Nat):List Int × Int:=(rg k w 0).foldl (stp (cost g w h)) ([],0)
theorem search_eq {g:api_Grid} {w h:Nat} (G:Gr g w h) {k:Nat} (hk:k ≤ 40) (hw:w ≤ 8):F_reduce_search_from_s1 ⟨g,(k:Int),[],[],0⟩ 0=some ⟨g,(k:Int),[],(bst g w h k).1,(bst g w h k).2⟩:=by
 have:=from_eq G hk w hw [] [] 0 0 (by simp) (fun y hy=>absurd hy List.not_mem_nil) (by omega)
 have e:(rg k w 0).map (([]:List Int) ++ ·)=rg k w 0:=by simp
 rw [e] at this
 exact this
def nr (b:Nat):List Int→Option (List Int)
 | []=>none
 | v :: r=>if v + 1 < (b:Int) then some ((v + 1) :: r) else (nr b r).map (0 :: ·)
def nxt (b:Nat) (l:List Int):Option (List Int):=(nr b l.reverse).map List.reverse
theorem nr_len {b:Nat} {q r:List Int} (h:nr b q=some r):r.length=q.length:=by
 induction q generalizing r with
 | nil=>cases h
 | cons v q ih=>
  simp only [nr] at h
  by_cases c:v + 1 < (b:Int)
  ·rw [if_pos c] at h
   cases h
   rfl
  ·rw [if_neg c] at h
   cases e:nr b q with
   | none=>rw [e] at h; cases h
   | some s=>
    rw [e] at h
    cases h
    simp [ih e]
theorem nr_snoc (b:Nat) (a:List Int) (v:Int):nr b (a ++ [v])=match nr b a with | some a'=>some (a' ++ [v]) | none=>if v + 1 < (b:Int) then some (List.replicate a.length 0 ++ [v + 1]) else none:=by
 induction a with
 | nil=>
  simp only [List.nil_append,nr,List.length_nil,List.replicate_zero]
  rfl
 | cons u a ih=>
  simp only [List.cons_append,nr]
  by_cases c:u + 1 < (b:Int)
  ·rw [if_pos c,if_pos c]
   rfl
  ·rw [if_neg c,if_neg c,ih]
   cases e:nr b a with
   | some s=>rfl
   | none=>
    simp only [Option.map_none]
    by_cases c2:v + 1 < (b:Int)
    ·rw [if_pos c2,if_pos c2]
     simp [List.replicate_succ]
    ·rw [if_neg c2,if_neg c2]
     rfl
theorem nxt_cons (b:Nat) (v:Int) (r:List Int):nxt b (v :: r)=match nxt b r with | some r'=>some (v :: r') | none=>if v + 1 < (b:Int) then some ((v + 1) :: List.replicate r.length 0) else none:=by
 unfold nxt
 rw [List.reverse_cons,nr_snoc]
 cases e:nr b r.reverse with
 | some s=>simp
 | none=>
  simp only [Option.map_none]
  by_cases c2:v + 1 < (b:Int)
  ·rw [if_pos c2,if_pos c2]
   simp
  ·rw [if_neg c2,if_neg c2]
   rfl
theorem idx_mid (a c:List Int) (v:Int):idxO (a ++ v :: c) (a.length:Int)=some v:=by
 rw [idxO_nat (by simp)]
 simp
theorem set_mid (a c:List Int) (v y:Int):setO (a ++ v :: c) (a.length:Int) y=some (a ++ y :: c):=by
 rw [setO_nat (by simp)]
 simp
theorem nx_loop {b:Nat} (hb:b ≤ 1000) (q:List Int) (z:Nat) (hq:∀ y,y ∈ q→0 ≤ y∧y < (b:Int)) (hl:q.length ≤ 1000) :
 whileO (raddleref17_next_s0_l1 (b:Int)) (q.reverse ++ List.replicate z 0,(q.length:Int) - 1)=some (match nr b q with | some r=>.inl (true,r.reverse ++ List.replicate z 0) | none=>.inr (List.replicate (q.length + z) 0)):=by
 induction q generalizing z with
 | nil=>
  refine whileO_done ?_
  unfold raddleref17_next_s0_l1
  simp [nr]
 | cons v q ih=>
  have hv:=hq v List.mem_cons_self
  have hll:q.length + 1 ≤ 1000:=by simpa using hl
  have e0:(v :: q).reverse ++ List.replicate z 0=q.reverse ++ v :: List.replicate z 0:=by simp
  have e1:(((v :: q).length:Nat):Int) - 1=(q.reverse.length:Int):=by simp
  rw [e0,e1]
  have hi:=idx_mid q.reverse (List.replicate z 0) v
  have hs:=set_mid q.reverse (List.replicate z 0) v (v + 1)
  have hi2:=idx_mid q.reverse (List.replicate z 0) (v + 1)
  have hs2:=set_mid q.reverse (List.replicate z 0) (v + 1) 0
  have hbody:raddleref17_next_s0_l1 (b:Int) (q.reverse ++ v :: List.replicate z 0,(q.reverse.length:Int))=some (if v + 1 < (b:Int) then .inr (.inl (true,q.reverse ++ (v + 1) :: List.replicate z 0)) else .inl (q.reverse ++ List.replicate (z + 1) 0,(q.length:Int) - 1)):=by
   unfold raddleref17_next_s0_l1
   simp only [dT (show (0:Int) ≤ (q.reverse.length:Int) by omega),if_true,hi,Option.bind_some,w64_of (x:=v + 1) (by omega) (by omega),hs,hi2]
   by_cases c:v + 1 < (b:Int)
   ·rw [if_pos c,dT c,if_pos rfl]
   ·rw [if_neg c,dF c,if_neg (by decide),hs2]
    simp only [Option.bind_some]
    rw [w64_of (by simp; omega) (by simp; omega),List.length_reverse,List.replicate_succ]
  by_cases c:v + 1 < (b:Int)
  ·rw [if_pos c] at hbody
   rw [whileO_done hbody]
   simp only [nr]
   rw [if_pos c]
   simp
  ·rw [if_neg c] at hbody
   rw [whileO_step hbody,ih (z + 1) (fun y hy=>hq y (List.mem_cons_of_mem _ hy)) (by omega)]
   simp only [nr]
   rw [if_neg c]
   cases nr b q with
   | some r=>simp [List.replicate_succ]
   | none=>
    simp only [Option.map_none,List.length_cons]
    rw [show q.length + (z + 1)=q.length + 1 + z by omega]
theorem next_eq {b:Nat} (hb:b ≤ 1000) (l:List Int) (hq:∀ y,y ∈ l→0 ≤ y∧y < (b:Int)) (hl:l.length ≤ 1000) :
 F_raddleref17_next_s0 l (b:Int)=some (match nxt b l with | some r=>(true,r) | none=>(false,List.replicate l.length 0)):=by
 have h1:=nx_loop hb l.reverse 0 (fun y hy=>hq y (List.mem_reverse.1 hy)) (by simpa using hl)
 simp only [List.reverse_reverse,List.replicate_zero,List.append_nil,List.length_reverse,Nat.add_zero] at h1
 unfold F_raddleref17_next_s0
 rw [w64_of (by omega) (by omega),h1]
 unfold nxt
 cases e:nr b l.reverse with
 | some r=>
  have:=nr_len e
  simp only [Option.bind_some,Option.map_some]
  have hk:keepO l r.reverse=some r.reverse:=by
   unfold keepO
   rw [List.length_reverse] at this ⊢
   rw [if_pos (by omega)]
  rw [hk]
  rfl
 | none=>
  simp only [Option.bind_some,Option.map_none]
  simp [keepO]
def od (b:Nat):Nat→List (List Int)
 | 0=>[[]]
 | m + 1=>(List.range b).flatMap fun (v:Nat)=>(od b m).map fun r=>(v:Int) :: r
theorem od_mem {b m:Nat} {l:List Int} (h:l ∈ od b m):l.length=m∧∀ y,y ∈ l→0 ≤ y∧y < (b:Int):=by
 induction m generalizing l with
 | zero=>
  rw [List.mem_singleton.1 h]
  exact ⟨rfl,fun y hy=>absurd hy List.not_mem_nil⟩
 | succ m ih=>
  obtain ⟨v,hv,h2⟩:=List.mem_flatMap.1 h
  obtain ⟨r,hr,rfl⟩:=List.mem_map.1 h2
  have hv2:=List.mem_range.1 hv
  refine ⟨by rw [List.length_cons,(ih hr).1],fun y hy=>?_⟩
  rcases List.mem_cons.1 hy with h3 | h3
  ·rw [h3]; omega
  ·exact (ih hr).2 y h3
inductive Tr (f:List Int→Option (List Int)):List Int→List (List Int)→Option (List Int)→Prop
 | one {x:List Int} {o:Option (List Int)} (h:f x=o):Tr f x [x] o
 | cons {x y:List Int} {L:List (List Int)} {o:Option (List Int)} (h:f x=some y) (t:Tr f y L o):Tr f x (x :: L) o
theorem Tr.app {f:List Int→Option (List Int)} {x y:List Int} {L1 L2:List (List Int)} {o o1:Option (List Int)} (h1:Tr f x L1 o1) (e:o1=some y) (h2:Tr f y L2 o):Tr f x (L1 ++ L2) o:=by
 induction h1 with
 | one h=>exact .cons (h.trans e) h2
 | cons h t ih=>exact .cons h (ih e)
theorem Tr.lift {b m:Nat} {v:Int} {x:List Int} {L:List (List Int)} {o:Option (List Int)} (h:Tr (nxt b) x L o) (ho:o=none) (hm:∀ l,l ∈ L→l.length=m) :
 Tr (nxt b) (v :: x) (L.map fun r=>v :: r) (if v + 1 < (b:Int) then some ((v + 1) :: List.replicate m 0) else none):=by
 induction h with
 | one h=>
  refine .one ?_
  rw [nxt_cons,h,ho]
  simp only
  rw [hm _ List.mem_cons_self]
 | cons h t ih=>
  refine .cons ?_ (ih ho fun l hl=>hm l (List.mem_cons_of_mem _ hl))
  rw [nxt_cons,h]
theorem od_tr {b:Nat} (hb:1 ≤ b) (m:Nat):Tr (nxt b) (List.replicate m 0) (od b m) none:=by
 induction m with
 | zero=>exact .one rfl
 | succ m ih=>
  have hm:∀ l,l ∈ od b m→l.length=m:=fun l hl=>(od_mem hl).1
  have key:∀ c v,v + c + 1=b→Tr (nxt b) ((v:Int) :: List.replicate m 0) ((List.range' v (c + 1)).flatMap fun (u:Nat)=>(od b m).map fun r=>(u:Int) :: r) none:=by
   intro c
   induction c with
   | zero=>
    intro v hv
    have:=Tr.lift (v:=(v:Int)) ih rfl hm
    rw [if_neg (by omega)] at this
    simpa using this
   | succ c ihc=>
    intro v hv
    have h1:=Tr.lift (v:=(v:Int)) ih rfl hm
    rw [if_pos (by omega)] at h1
    have h2:=ihc (v + 1) (by omega)
    rw [List.range'_succ,List.flatMap_cons]
    refine Tr.app h1 ?_ h2
    rw [Int.natCast_add,Int.natCast_one]
  have:=key (b - 1) 0 (by omega)
  rw [show b - 1 + 1=b by omega,← List.range_eq_range'] at this
  exact this
def nbt:Nat→List Int→Option Nat
 | n,[]=>some n
 | n,v :: r=>if (n:Int) < v then none else nbt (if v=(n:Int) then n + 1 else n) r
def good (k n:Nat) (l:List Int):Bool:=match nbt n l with | some t=>decide (t ≤ k) | none=>false
theorem numb_eq (l:List Int) (hl:l.length ≤ 1000) (k:Nat):F_raddleref17_numbered l (k:Int)=some (good k 0 l):=by
 have key:∀ j i n,j + i=l.length→n ≤ i→whileO (raddleref17_numbered_l1 l) ((n:Int),(i:Int))=some (match nbt n (l.drop i) with | some t=>.inr (t:Int) | none=>.inl false):=by
  intro j
  induction j with
  | zero=>
   intro i n hi hn
   obtain rfl:i=l.length:=by omega
   refine whileO_done ?_
   unfold raddleref17_numbered_l1
   simp [nbt]
  | succ j ih=>
   intro i n hi hn
   have hi2:i < l.length:=by omega
   have hd:l.drop i=l[i] :: l.drop (i + 1):=List.drop_eq_getElem_cons hi2
   rw [hd]
   have hbody:raddleref17_numbered_l1 l ((n:Int),(i:Int))=some (if (n:Int) < l[i] then .inr (.inl false) else .inl (((if l[i]=(n:Int) then n + 1 else n:Nat):Int),((i + 1:Nat):Int))):=by
    unfold raddleref17_numbered_l1
    simp only [dT (show (i:Int) < (l.length:Int) by omega),if_true,idxO_nat hi2,Option.bind_some,w64_succ (show i < 9223372036854775807 by omega),w64_succ (show n < 9223372036854775807 by omega)]
    by_cases c:(n:Int) < l[i]
    ·rw [if_pos c,dT c,if_pos rfl]
     rfl
    ·rw [if_neg c,dF c,if_neg (by decide)]
     by_cases c2:l[i]=(n:Int)
     ·rw [if_pos c2,bT c2,if_pos rfl]
      rfl
     ·rw [if_neg c2,bF c2,if_neg (by decide)]
      rfl
   simp only [nbt]
   by_cases c:(n:Int) < l[i]
   ·rw [if_pos c] at hbody
    rw [if_pos c,whileO_done hbody]
   ·rw [if_neg c] at hbody
    rw [if_neg c,whileO_step hbody]
    exact ih (i + 1) _ (by omega) (by split <;> omega)
 have h0:=key l.length 0 0 (by omega) (by omega)
 rw [List.drop_zero] at h0
 unfold F_raddleref17_numbered good
 have z:(((0:Nat):Int))=0:=rfl
 rw [z] at h0
 rw [h0]
 cases nbt 0 l with
 | some t=>
  simp only [Option.bind_some]
  congr 1
  exact decide_eq_decide.2 (by omega)
 | none=>rfl
theorem flat_cut {β:Type} {f f':Nat→List β} {c b:Nat} (hc:c ≤ b) (h1:∀ v,v < c→f v=f' v) (h2:∀ v,c ≤ v→v < b→f v=[]):(List.range b).flatMap f=(List.range c).flatMap f':=by
 obtain ⟨d,rfl⟩:∃ d,b=c + d:=⟨b - c,by omega⟩
 clear hc
 induction d with
 | zero=>
  simp only [Nat.add_zero] at h2 ⊢
  clear h2
  induction c with
  | zero=>rfl
  | succ c ih=>rw [List.range_succ,List.flatMap_append,List.flatMap_append,ih fun v hv=>h1 v (by omega)]; simp [h1 c (by omega)]
 | succ d ih=>
  rw [show c + (d + 1)=(c + d) + 1 by omega,List.range_succ,List.flatMap_append,ih fun v hv hv2=>h2 v hv (by omega)]
  simp [h2 (c + d) (by omega) (by omega)]
theorem filter_flat {α β:Type} (p:β→Bool) (f:α→List β) (l:List α):(l.flatMap f).filter p=l.flatMap fun a=>(f a).filter p:=by
 induction l with
 | nil=>rfl
 | cons a l ih=>rw [List.flatMap_cons,List.filter_append,ih,List.flatMap_cons]
theorem od_rg {w k m n:Nat} (hn:n ≤ k) (hw:n + m ≤ w):(od (min w k) m).filter (good k n)=rg k m n:=by
 induction m generalizing n with
 | zero=>
  have:good k n []=true:=by unfold good; simp [nbt,hn]
  simp [od,rg,this]
 | succ m ih=>
  simp only [od,rg]
  rw [filter_flat]
  refine flat_cut (by omega) (fun v hv=>?_) (fun v hv hv2=>?_)
  ·rw [List.filter_map]
   congr 1
   have e:(good k n) ∘ (fun r=>(v:Int) :: r)=good k (max n (v + 1)):=by
    funext r
    show good k n ((v:Int) :: r)=_
    unfold good
    simp only [nbt]
    rw [if_neg (by omega)]
    have:(if (v:Int)=(n:Int) then n + 1 else n)=max n (v + 1):=by split <;> omega
    rw [this]
   rw [e]
   exact ih (by omega) (by omega)
  ·rw [List.filter_map]
   have e:(good k n) ∘ (fun r=>(v:Int) :: r)=fun _=>false:=by
    funext r
    show good k n ((v:Int) :: r)=_
    unfold good
    simp only [nbt]
    rw [if_pos (by omega)]
   rw [e]
   simp
theorem best_round {g:api_Grid} {w h:Nat} (G:Gr g w h) {k:Nat} (x:List Int) (S:List Int × Int) (hx:x.length=w) (hb:∀ y,y ∈ x→0 ≤ y∧y < ((min w k:Nat):Int)) :
 raddleref17_best_l1 (k:Int) g (x,S.1,S.2)=some (match nxt (min w k) x with | some y=>.inl (y,(if good k 0 x=true then stp (cost g w h) S x else S).1,(if good k 0 x=true then stp (cost g w h) S x else S).2) | none=>.inr ((if good k 0 x=true then stp (cost g w h) S x else S).1,(if good k 0 x=true then stp (cost g w h) S x else S).2)):=by
 have w1:=G.w1
 have hn:=next_eq (b:=min w k) (by omega) x hb (by omega)
 have hm:(if g.W < (k:Int) then g.W else (k:Int))=((min w k:Nat):Int):=by rw [G.hw]; split <;> omega
 have ga:Gr (gm (outc g w x) w h) w h:=gm_gr _ G.w0 G.w1 G.h0 G.h1
 have hap:=apart_eq ga G
 rw [cost_apd G] at hap
 have hcl:appO ([]:List Int) x=some x:=by rw [appO_of (by simp; omega)]; rfl
 have hlen:((S.1.length:Int) == 0)=decide (S.1=[]):=by
  cases S.1 with
  | nil=>rfl
  | cons a t=>simp; omega
 unfold raddleref17_best_l1
 simp only [numb_eq x (by omega) k,Option.bind_some,hm]
 cases hg:good k 0 x with
 | false=>
  simp only [Bool.false_eq_true,if_false,Option.bind_some,hn]
  cases nxt (min w k) x with
  | some y=>rfl
  | none=>rfl
 | true=>
  simp only [if_true,rch_eq G x hx,Option.bind_some,hap,hlen]
  unfold stp
  by_cases c:S.1=[]
  ·rw [if_pos (show S.1=[] ∨ (cost g w h x:Int) < S.2 from .inl c)]
   simp only [dT c,if_true,Option.bind_some,hcl,hn]
   cases nxt (min w k) x with
   | some y=>rfl
   | none=>rfl
  ·by_cases c2:(cost g w h x:Int) < S.2
   ·rw [if_pos (show S.1=[] ∨ (cost g w h x:Int) < S.2 from .inr c2)]
    simp only [dF c,Bool.false_eq_true,if_false,dT c2,if_true,Option.bind_some,hcl,hn]
    cases nxt (min w k) x with
    | some y=>rfl
    | none=>rfl
   ·rw [if_neg (show ¬ (S.1=[] ∨ (cost g w h x:Int) < S.2) from fun hc=>hc.elim c c2)]
    simp only [dF c,Bool.false_eq_true,if_false,dF c2,Option.bind_some,hn]
    cases nxt (min w k) x with
    | some y=>rfl
    | none=>rfl
theorem best_loop {g:api_Grid} {w h:Nat} (G:Gr g w h) {k:Nat} {x:List Int} {L:List (List Int)} {o:Option (List Int)} (t:Tr (nxt (min w k)) x L o) (ho:o=none) (hL:∀ l,l ∈ L→l.length=w∧∀ y,y ∈ l→0 ≤ y∧y < ((min w k:Nat):Int)) (S:List Int × Int) :
 whileO (raddleref17_best_l1 (k:Int) g) (x,S.1,S.2)=some (L.foldl (fun S l=>if good k 0 l=true then stp (cost g w h) S l else S) S):=by
 induction t generalizing S with
 | @one x o hx=>
  have h1:=hL x List.mem_cons_self
  have hr:=best_round G (k:=k) x S h1.1 h1.2
  rw [hx,ho] at hr
  rw [whileO_done hr]
  rfl
 | @cons x y L o hx t ih=>
  have h1:=hL x List.mem_cons_self
  have hr:=best_round G (k:=k) x S h1.1 h1.2
  rw [hx] at hr
  rw [whileO_step hr,ih ho (fun l hl=>hL l (List.mem_cons_of_mem _ hl))]
  rfl
theorem rbest_eq {g:api_Grid} {w h:Nat} (G:Gr g w h) {k:Nat} (hk:1 ≤ k):F_raddleref17_best g (k:Int)=some (bst g w h k):=by
 have w0:=G.w0
 have w1:=G.w1
 have h1:=best_loop G (od_tr (b:=min w k) (by omega) w) rfl (fun l hl=>od_mem hl) ([],0)
 unfold F_raddleref17_best
 rw [makeO_of (k:=w) G.hw (by omega)]
 simp only [Option.bind_some]
 have e:(od (min w k) w).foldl (fun S l=>if good k 0 l=true then stp (cost g w h) S l else S) ([],0)=bst g w h k:=by
  unfold bst
  rw [← od_rg (w:=w) (k:=k) (m:=w) (n:=0) (by omega) (by omega),List.foldl_filter]
 rw [e] at h1
 rw [h1]
 rfl
def ferr (g:api_Grid):Int:=if gerr g=0 then (if 8 < g.W then 4 else 0) else gerr g
theorem few_eq (g:api_Grid):F_reduce_few g=some (ferr g)∧F_raddleref17_Few g=some (ferr g):=by
 unfold F_reduce_few F_raddleref17_Few ferr
 simp only [(gcheck_eq g).1,(gcheck_eq g).2,Option.bind_some]
 by_cases h:gerr g=0
 ·rw [nF h,if_pos h]
  by_cases h2:8 < g.W
  ·simp [h2]
  ·simp [h2]
 ·rw [nT h,if_neg h]
  exact ⟨rfl,rfl⟩
theorem ferr_zero {g:api_Grid} (h:ferr g=0):∃ w h,Gr g w h∧w ≤ 8:=by
 unfold ferr at h
 by_cases h1:gerr g=0
 ·rw [if_pos h1] at h
  obtain ⟨w,k,G⟩:=gerr_zero h1
  by_cases h2:8 < g.W
  ·rw [if_pos h2] at h; cases h
  ·have:=G.hw
   exact ⟨w,k,G,by omega⟩
 ·rw [if_neg h1] at h
  exact absurd h h1
theorem gr_ferr {g:api_Grid} {w h:Nat} (G:Gr g w h) (hw:w ≤ 8):ferr g=0:=by
 unfold ferr
 rw [if_pos (gr_err G),if_neg (by rw [G.hw]; omega)]
theorem best_eq {g:api_Grid} {w h:Nat} (G:Gr g w h) (hw:w ≤ 8) {k:Nat} (h1:1 ≤ k) (h2:k ≤ 40) :
 F_reduce_Best g (k:Int)=some ((bst g w h k).1,(bst g w h k).2,0)∧F_raddleref17_Best g (k:Int)=some ((bst g w h k).1,(bst g w h k).2,0):=by
 unfold F_reduce_Best F_raddleref17_Best
 simp only [(few_eq g).1,(few_eq g).2,gr_ferr G hw,Option.bind_some,nF (show (0:Int)=0 from rfl),Bool.false_eq_true,if_false,dF (show ¬ (k:Int) < 1 by omega),dF (show ¬ (40:Int) < (k:Int) by omega),search_eq G h2 hw,rbest_eq G h1,and_self]
theorem best_both (g:api_Grid) (k:Int):∃ r:List Int × Int × Int,F_reduce_Best g k=some r∧F_raddleref17_Best g k=some r∧r.1.length ≤ 9223372036854775807:=by
 by_cases hf:ferr g=0
 ·obtain ⟨w,h,G,hw⟩:=ferr_zero hf
  by_cases hk:1 ≤ k∧k ≤ 40
  ·obtain ⟨n,rfl⟩:∃ n:Nat,k=(n:Int):=⟨k.toNat,by omega⟩
   have:=best_eq G hw (k:=n) (by omega) (by omega)
   refine ⟨_,this.1,this.2,?_⟩
   show (bst g w h n).1.length ≤ _
   have key:∀ (L:List (List Int)) (S:List Int × Int),S.1.length ≤ w→(∀ l,l ∈ L→l.length ≤ w)→(L.foldl (stp (cost g w h)) S).1.length ≤ w:=by
    intro L
    induction L with
    | nil=>intro S hS _; exact hS
    | cons l L ih=>
     intro S hS hL
     refine ih _ ?_ fun l hl=>hL l (List.mem_cons_of_mem _ hl)
     unfold stp
     split
     ·exact hL l List.mem_cons_self
     ·exact hS
   have:=key (rg n w 0) ([],0) (Nat.zero_le _) (fun l hl=>by
    rw [← od_rg (w:=w) (k:=n) (m:=w) (n:=0) (by omega) (by omega)] at hl
    exact Nat.le_of_eq (od_mem (List.mem_filter.1 hl).1).1)
   unfold bst
   omega
  ·refine ⟨([],0,2),?_,?_,by simp⟩
   ·unfold F_reduce_Best
    simp only [(few_eq g).1,hf,Option.bind_some,nF (show (0:Int)=0 from rfl),Bool.false_eq_true,if_false]
    by_cases c:k < 1
    ·simp only [dT c,if_true,Option.bind_some]
    ·simp only [dF c,Bool.false_eq_true,if_false,dT (show 40 < k by omega),Option.bind_some,if_true]
   ·unfold F_raddleref17_Best
    simp only [(few_eq g).2,hf,Option.bind_some,nF (show (0:Int)=0 from rfl),Bool.false_eq_true,if_false]
    by_cases c:k < 1
    ·simp only [dT c,if_true,Option.bind_some]
    ·simp only [dF c,Bool.false_eq_true,if_false,dT (show 40 < k by omega),Option.bind_some,if_true]
 ·refine ⟨([],0,ferr g),?_,?_,by simp⟩
  ·unfold F_reduce_Best
   simp only [(few_eq g).1,Option.bind_some,nT hf,if_true]
  ·unfold F_raddleref17_Best
   simp only [(few_eq g).2,Option.bind_some,nT hf,if_true]
def csts (g:api_Grid) (w h n:Nat):List Int:=(List.range n).map fun i=>(bst g w h (i + 1)).2
theorem csts_succ (g:api_Grid) (w h n:Nat):csts g w h (n + 1)=csts g w h n ++ [(bst g w h (n + 1)).2]:=by simp [csts,List.range_succ]
theorem csts_len (g:api_Grid) (w h n:Nat):(csts g w h n).length=n:=by simp [csts]
theorem costs_eq {g:api_Grid} {w h:Nat} (G:Gr g w h) (hw:w ≤ 8):F_reduce_Costs g=some (csts g w h w,0)∧F_raddleref17_Costs g=some (csts g w h w,0):=by
 have l1:whileO (reduce_Costs_l1 g) (([]:List Int),0)=some (csts g w h w):=by
  refine loop_seq (fun i=>(csts g w h i,(i:Int))) w (fun i hi=>?_) ?_
  ·unfold reduce_Costs_l1
   rw [G.hw]
   simp only [dT (show (i:Int) < (w:Int) by omega),if_true,w64_succ (show i < 9223372036854775807 by omega),(best_eq G hw (k:=i + 1) (by omega) (by omega)).1,Option.bind_some,appO_of (xs:=csts g w h i) (ys:=[(bst g w h (i + 1)).2]) (by rw [csts_len]; simp; omega),csts_succ]
  ·unfold reduce_Costs_l1
   rw [G.hw]
   simp only [dF (show ¬ (w:Int) < (w:Int) by omega),Bool.false_eq_true,if_false]
 have l2:whileO (raddleref17_Costs_l1 g) (([]:List Int),1)=some (csts g w h w):=by
  refine loop_seq (fun i=>(csts g w h i,((i + 1:Nat):Int))) w (fun i hi=>?_) ?_
  ·unfold raddleref17_Costs_l1
   rw [G.hw]
   simp only [dT (show ((i + 1:Nat):Int) ≤ (w:Int) by omega),if_true,w64_succ (show i + 1 < 9223372036854775807 by omega),rbest_eq G (k:=i + 1) (by omega),Option.bind_some,appO_of (xs:=csts g w h i) (ys:=[(bst g w h (i + 1)).2]) (by rw [csts_len]; simp; omega),csts_succ]
  ·unfold raddleref17_Costs_l1
   rw [G.hw]
   simp only [dF (show ¬ ((w + 1:Nat):Int) ≤ (w:Int) by omega),Bool.false_eq_true,if_false]
 unfold F_reduce_Costs F_raddleref17_Costs
 simp only [(few_eq g).1,(few_eq g).2,gr_ferr G hw,Option.bind_some,nF (show (0:Int)=0 from rfl),Bool.false_eq_true,if_false,l1,l2,and_self]
theorem costs_both (g:api_Grid):∃ r:List Int × Int,F_reduce_Costs g=some r∧F_raddleref17_Costs g=some r∧r.1.length ≤ 9223372036854775807:=by
 by_cases hf:ferr g=0
 ·obtain ⟨w,h,G,hw⟩:=ferr_zero hf
  exact ⟨_,(costs_eq G hw).1,(costs_eq G hw).2,by rw [csts_len]; omega⟩
 ·refine ⟨([],ferr g),?_,?_,by simp⟩
  ·unfold F_reduce_Costs
   simp only [(few_eq g).1,Option.bind_some,nT hf,if_true]
  ·unfold F_raddleref17_Costs
   simp only [(few_eq g).2,Option.bind_some,nT hf,if_true]
theorem great17 (g:api_Grid):∃ b,F_raddleref17_Great g=some b:=by
 unfold F_raddleref17_Great
 simp only [rgreat_eq,(gcheck_eq g).2,Option.bind_some]
 by_cases c1:4200 < g.Bits.length
 ·simp [c1]
 ·by_cases c2:gerr g=0
  ·by_cases c3:5 < g.W
   ·by_cases c4:g.W ≤ 8 <;> simp [c1,c2,c3,c4]
   ·simp [c1,c2,c3]
  ·simp [c1,c2]
theorem law_ReduceSearches (g:api_Grid) (k:Int) (wg:wf_api_Grid g) (wk:InK .i64 k):F_raddlelaw17_ReduceSearches g k=some true:=by
 obtain ⟨b,hb⟩:=great17 g
 obtain ⟨r,h1,h2,h3⟩:=best_both g k
 obtain ⟨s,h4,h5,h6⟩:=costs_both g
 unfold F_raddlelaw17_ReduceSearches
 rw [hb,h1,h2,h4,h5]
 cases b
 ·simp [rsame_il _ _ h3,rsame_il _ _ h6]
 ·simp
namespace frameReduceSearches
open Go.ChangeShapes Go.WideShapes Go.ChangeAt Go.Joins
theorem own:ownKnob Try.prog.godebug=none:=by kernel_rfl
theorem laidOut:laidOutB Try.prog=true:=by kernel_rfl
theorem lifted (os:Os) (started:os.Started) (H:Type) (enc:TypeId × Value→H) :
 ReturnsInHanded {} Try.checked os 5 .any (Rows.reduceSearchesSpec.pre6 enc Try.prog Try.f5 Rows.reduceSearchesRow.domain false) (Rows.reduceSearchesSpec.post enc Try.prog Try.f5 false true false false):=by
 refine returnsInHanded_of_change (C:=Try.checked) own started (by kernel_rfl) Try.func5
  (ChangeSpec.witness6 (enc:=enc) (C:=Try.checked) false ⟨#[],#[.agg #[iv 0,iv 0,.slice none 0 0],.int .i64 0],[]⟩ 8 (by kernel_rfl) (by kernel_rfl) (by kernel_rfl) (by kernel_rfl)) ?_
 intro W base args ds gs before hval0 hW hcnd _
 have hval:∀ (j:Nat) t v,Try.f5.params[j]?=some t→args[j]?=some v→Value.okWide Try.prog W .any base t v:=hval0
 have hW':=hW
 obtain ⟨p,q,hA0,hV,rfl,hfz,hnd⟩:=hW
 have hA:DataW.TrodAll enc Try.prog W 0 (fun _=>true) true Try.f5.params.toList args.toList ds p:=hA0
 rw [Try.params5] at hA hval
 obtain ⟨v0,vs0,d0,ds0,p0,q0,hargs,rfl,rfl,h0,r0⟩:=trodAll_cons hA
 obtain ⟨v1,vs1,d1,ds1,p1,q1,rfl,rfl,rfl,h1,r1⟩:=trodAll_cons r0
 obtain ⟨rfl,rfl,rfl⟩:=trodAll_nil r1
 obtain rfl:args=#[v0,v1]:=by cases args; simp_all
 obtain ⟨rfl,rfl⟩:=trodVars_none hV
 have k0:=h0
 have lt0:∀ x ∈ p0,x.block < W.heap.size:=by obtain ⟨m,hm⟩:=k0; exact DataW.trod_lt m _ _ _ hm
 have k1:=h1
 have lt1:∀ x ∈ p1,x.block < W.heap.size:=by obtain ⟨m,hm⟩:=k1; exact DataW.trod_lt m _ _ _ hm
 obtain ⟨x0,rep0,wf0⟩:=top_agg Try.underlying24 aggr_api_Grid op_api_Grid (hval 0 _ v0 rfl rfl) h0
 obtain ⟨x1,rfl,rfl,rfl,wf1⟩:=open_int Try.underlying3 (hval 1 _ v1 rfl rfl) h1
 clear hA0 hval0
 refine (c_raddlelaw17_ReduceSearches (fun _=>False) W x0 v0 x1 true (law_ReduceSearches x0 x1 wf0 wf1) (St0.start (by intro d hd; simp only [List.mem_cons,List.not_mem_nil,or_false] at hd; subst hd; exact rep0))).mono fun e W' hr=>?_
 obtain ⟨_,he,hS⟩:=hr
 have bel:=hS.chg.below
 subst he
 exact ⟨_,rfl,_,_,_,[],_,[],hW',trodAll_mk1 (shut_bool Try.underlying4 _),(trodAll_cons_mk (Below.trod laidOut (by kernel_rfl) (of_decide_eq_true (by kernel_rfl)) k0 bel lt0) (trodAll_cons_mk (Below.trod laidOut (by kernel_rfl) (of_decide_eq_true (by kernel_rfl)) k1 bel lt1) trodAll_mk0)),rfl,bel.frame _,fun h=>by cases h⟩
theorem over:Rows.reduceSearchesRow.holds Try.pinned (OpenSpec.ofChange Rows.reduceSearchesSpec):=
 OpenClaim.holds_of_wide 5 Try.f5 rfl rfl rfl rfl rfl rfl rfl ⟨rfl,rfl,rfl,rfl,rfl⟩ rfl rfl rfl rfl rfl (by kernel_rfl) Try.func5 (by kernel_rfl)
  (of_decide_eq_true (by kernel_rfl)) (by unfold Func.isWrapper; first | (rw [if_pos (by decide +kernel)]; kernel_rfl) | (rw [if_neg (by decide +kernel)]; exact ⟨rfl,rfl⟩))
  (fun os started H enc _=>lifted os started H enc)
end frameReduceSearches
theorem reduceSearches_holds:Rows.ReduceSearchesSaid:=frameReduceSearches.over
end Go.Proofs.Ytapohhkdpkapoaa
