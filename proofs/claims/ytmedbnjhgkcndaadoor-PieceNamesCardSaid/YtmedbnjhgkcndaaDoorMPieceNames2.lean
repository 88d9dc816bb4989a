/- PieceNames: walks, tables, laws. -/
import Derived.Test.YtmedbnjhgkcndaaDoorProg
import Derived.Test.YtmedbnjhgkcndaaDoorRows
import Derived.Test.YtmedbnjhgkcndaaDoorCards
import Derived.Test.YtmedbnjhgkcndaaDoorTie
import Derived.Test.YtmedbnjhgkcndaaDoorMPieceNames1
set_option linter.unusedVariables false
set_option linter.unusedSimpArgs false
set_option maxHeartbeats 4000000
set_option maxRecDepth 100000
namespace Go.Proofs.YtmedbnjhgkcndaaDoor
open Go.RowKit
def Le {α:Type} (a b:Option α):Prop:=∀ r,a=some r→b=some r
theorem Le.rfl {α:Type} (a:Option α):Le a a:=fun _ h=>h
theorem Le.bind {α β:Type} {a b:Option α} {f g:α→Option β} (h:Le a b) (hf:∀ x,Le (f x) (g x)):Le (Option.bind a f) (Option.bind b g):=by
 intro r hr
 cases ha:a with
 | none=>rw [ha] at hr; cases hr
 | some x=>
  rw [ha] at hr
  rw [h x ha]
  exact hf x r hr
theorem Le.ite {α:Type} {c:Prop} [Decidable c] {a b a' b':Option α} (h:Le a b) (h':Le a' b'):Le (if c then a else a') (if c then b else b'):=by
 by_cases hc:c
 ·rw [if_pos hc,if_pos hc]; exact h
 ·rw [if_neg hc,if_neg hc]; exact h'
theorem Le.sum {α β γ:Type} {f g:α ⊕ β→Option γ} (h:∀ a,Le (f (.inl a)) (g (.inl a))) (h':∀ b,Le (f (.inr b)) (g (.inr b))):∀ z,Le (f z) (g z)
 | .inl a=>h a
 | .inr b=>h' b
theorem Le.prod {α β γ:Type} {f g:α × β→Option γ} (h:∀ a b,Le (f (a,b)) (g (a,b))):∀ z,Le (f z) (g z)
 | (a,b)=>h a b
theorem iterO_Le {σ τ:Type} {B B':σ→Option (σ ⊕ τ)} (h:∀ s,Le (B s) (B' s)):∀ (n:Nat) (s:σ),Le (iterO B n s) (iterO B' n s):=by
 intro n
 induction n with
 | zero=>intro s r hr; cases hr
 | succ n ih=>
  intro s r hr
  unfold iterO at hr ⊢
  cases hB:B s with
  | none=>rw [hB] at hr; cases hr
  | some x=>
   rw [hB] at hr
   rw [h s x hB]
   cases x with
   | inl s'=>exact ih s' r hr
   | inr t=>exact hr
def whileK {σ τ:Type} (B:σ→Option (σ ⊕ τ)) (s:σ):Option τ:=iterO B 1000000 s
theorem Le.loop {σ τ:Type} {B B':σ→Option (σ ⊕ τ)} (s:σ) (h:∀ s,Le (B s) (B' s)):Le (whileK B s) (whileO B' s):=
 fun r hr=>whileO_of (iterO_Le h 1000000 s r hr)
noncomputable def F_piece_column (p0:Int):Option Bool:=
 Option.bind (α:=Bool) (
  if decide ((-500) ≤ p0) then
   some (decide (p0 ≤ 500))
  else
   some false) fun o2=>
 some o2
theorem c_piece_column (E:Nat→Prop) (w0:World) (p0:Int) (r:Bool) (h:F_piece_column p0=some r) (S:St0 E [] w0 w0 [] []) :
 Calls Tryd.prog 37 #[iv p0] w0 (Ret (X:=Unit) E [] w0 (fun _=>.bool r) (fun _=>[]) (fun _=>[])):=by
 unfold F_piece_column at h
 refine sEnter (args:=[iv p0]) 9 Tryd.func37 d d (by simp) S (fun a S=>?_)
 refine sSeq (fun K1 a6=>sRegion (sN S fun a S=>?_))
 refine lT (a6 _ _ ?_)
 obtain ⟨t3,h,g4⟩:=bS h
 refine sCut (fun a w=>∃ o2,o2=t3∧St [] E [] w0 9 a w [(2,.bool o2)] [] []) ?_ (fun a w hI=>?_)
 rotate_left
 ·obtain ⟨o2,rfl,S⟩:=hI
  have h:=g4
  try dsimp only at h
  obtain rfl:=tS h
  exact wp_ret (sRet (.bool o2) S (rsl1 d (rvT (t:=2) (v:=.bool o2) S d)) ⟨(),d,S.mem.sel [] [] (by decide) d d⟩)
 refine sRegion (sM S fun a S=>?_)
 refine sBin _ S (wN d) d d d (bGe _ _ _ _ .i64 p0 (-500)) d (lb d) fun a S=>sM S fun a S=>?_
 rcases iS h with ⟨a2,h⟩ | ⟨a2,h⟩
 rotate_left
 ·refine sSkN 2 2 true 5 S d d a2 d fun a S=>sPickF (.bool false) S (wN d) d d a2 d d (lb d) fun a S=>sN S fun a S=>?_
  exact lT (⟨false,Option.some.inj h,S.fix [] [] (by decide) d d d⟩)
 refine sMove (iv p0) S (wG 2 true 5 d d d a2) (.inl d) d d (lb d) fun a S=>sBin _ S (wG 2 true 5 d d d a2) d d d (bLe _ _ _ _ .i64 p0 500) d (lb d) fun a S=>sPickT (.bool (decide (p0 ≤ 500))) S (wN d) d d a2 d d (lb d) fun a S=>sN S fun a S=>?_
 exact lT (⟨decide (p0 ≤ 500),Option.some.inj h,S.fix [] [] (by decide) d d d⟩)
noncomputable def piece_Check_l1 (p0:api_Piece):Int→Option (Int ⊕ (Int ⊕ Unit)):=fun s0=>match s0 with
 | a2=>
  if decide (a2 < (p0.Left.length:Int)) then
   (idxO p0.Left a2).bind fun a6=>
   (idxO p0.Right a2).bind fun a7=>
   Option.bind (α:=Bool) (
    (F_piece_column a6).bind fun a8=>
    if !a8 then
     some true
    else
     (F_piece_column a7).bind fun aa=>
     if !aa then
      some true
     else
      if decide (a7 ≤ a6) then
       some true
      else
       some (decide (200 < (w64 (a7 - a6))))) fun ab=>
   if ab then
    some (.inr (.inl 8))
   else
    some (.inl (w64 (a2 + 1)))
  else
   some (.inr (.inr ()))
noncomputable def F_piece_Check (p0:api_Piece):Option Int:=
 Option.bind (α:=Bool) (
  if (p0.Left.length:Int) != (p0.Right.length:Int) then
   some true
  else
   if (p0.Left.length:Int) == 0 then
    some true
   else
    some (decide (100 < (p0.Left.length:Int)))) fun a2=>
 if a2 then
  some 8
 else
  Option.bind (α:=Unit ⊕ Int) (
   (whileO (piece_Check_l1 p0) 0).bind fun z0=>match z0 with
    | .inl z=>
     some (.inr z)
    | .inr _=>
     some (.inl ())) fun z0=>match z0 with
   | .inl _=>
    some 0
   | .inr z=>
    some z
theorem c_piece_Check (E:Nat→Prop) (w0:World) (p0:api_Piece) (v0:Value) (r:Int) (h:F_piece_Check p0=some r) (S:St0 E [] w0 w0 [] [fRep r_api_Piece (v0) p0]) :
 Calls Tryd.prog 13 #[v0] w0 (Ret (X:=Unit) E [] w0 (fun _=>.int .i64 r) (fun _=>[]) (fun _=>[])):=by
 unfold F_piece_Check at h
 obtain ⟨u1,u2,rfl,aQ,aR⟩:=S.know (i:=0) (e:=fRep r_api_Piece (v0) p0) d
 have S:=S.learn (fRep (rL (rI .i64)) u1 p0.Left) aQ
 obtain ⟨a8,aa,_,rfl,_⟩:=aQ
 have S:=S.learn (fRep (rL (rI .i64)) u2 p0.Right) aR
 obtain ⟨ag,ah,_,rfl,_⟩:=aR
 refine sEnter (args:=[.agg #[.slice a8 p0.Left.length aa,.slice ag p0.Right.length ah]]) 58 Tryd.func13 d d (by simp) S (fun a S=>?_)
 refine sSeq (fun K9 aZ=>sRegion (sBox (v:=.agg #[.slice a8 p0.Left.length aa,.slice ag p0.Right.length ah]) S (wN d) d d [.slice a8 p0.Left.length aa,.slice ag p0.Right.length ah] d d (lb d) fun a ai w S=>sN S fun a S=>?_))
 refine lT (aZ _ _ (sSeq (fun bc aq=>?_)))
 obtain ⟨b0,h,b1⟩:=bS h
 refine sCut (fun a w=>∃ ar,ar=b0∧St [] E [] w0 58 a w [(1,.pointer (some ⟨ai,0,none⟩)),(24,.bool ar)] [eBox ai 30 [.slice a8 p0.Left.length aa,.slice ag p0.Right.length ah]] [fRep (rL (rI .i64)) (.slice a8 p0.Left.length aa) p0.Left,fRep (rL (rI .i64)) (.slice ag p0.Right.length ah) p0.Right]) ?_ (fun a w hI=>?_)
 ·refine sRegion (sField (b:=ai) (off:=0) 0 0 S (wN d) d d d d d (lb d) fun a S=>sLoad1 0 (.slice a8 p0.Left.length aa) S (wN d) d d d d d d (lb d) fun a S=>sLen S (wN d) d Tryd.underlying28 d d (lb d) fun a S=>sField (b:=ai) (off:=0) 1 1 S (wN d) d d d d d (lb d) fun a S=>sLoad1 0 (.slice ag p0.Right.length ah) S (wN d) d d d d d d (lb d) fun a S=>sLen S (wN d) d Tryd.underlying28 d d (lb d) fun a S=>sBin _ S (wN d) d d d (bNe _ _ _ _ .i64 (p0.Left.length:Int) (p0.Right.length:Int)) d (lb d) fun a S=>sM S fun a S=>?_)
  rcases iS h with ⟨a2,h⟩ | ⟨a2,h⟩
  ·refine sSkN 4 7 false 13 S d d a2 d fun a S=>sPickT (.bool true) S (wN d) d d a2 d d (lb d) fun a S=>sM S fun a S=>?_
   refine sSkN 4 13 false 19 S d d d d fun a S=>sPickT (.bool true) S (wN d) d d d d d (lb d) fun a S=>?_
   exact lT (⟨true,Option.some.inj h,S.fix [0] [1,0] (by decide) d d d⟩)
  refine sField (b:=ai) (off:=0) 0 0 S (wG 7 false 13 d d d a2) d d d d d (lb d) fun a S=>sLoad1 0 (.slice a8 p0.Left.length aa) S (wG 7 false 13 d d d a2) d d d d d d (lb d) fun a S=>sLen S (wG 7 false 13 d d d a2) d Tryd.underlying28 d d (lb d) fun a S=>sBin _ S (wG 7 false 13 d d d a2) d d d (bEq _ _ _ _ .i64 (p0.Left.length:Int) 0) d (lb d) fun a S=>sPickF (.bool ((p0.Left.length:Int) == 0)) S (wN d) d d a2 d d (lb d) fun a S=>sM S fun a S=>?_
  rcases iS h with ⟨a6,h⟩ | ⟨a6,h⟩
  ·refine sSkN 4 13 false 19 S d d a6 d fun a S=>sPickT (.bool true) S (wN d) d d a6 d d (lb d) fun a S=>?_
   exact lT (⟨true,Option.some.inj h,S.fix [0] [1,0] (by decide) d d d⟩)
  refine sField (b:=ai) (off:=0) 0 0 S (wG 13 false 19 d d d a6) d d d d d (lb d) fun a S=>sLoad1 0 (.slice a8 p0.Left.length aa) S (wG 13 false 19 d d d a6) d d d d d d (lb d) fun a S=>sLen S (wG 13 false 19 d d d a6) d Tryd.underlying28 d d (lb d) fun a S=>sBin _ S (wG 13 false 19 d d d a6) d d d (bGt _ _ _ _ .i64 (p0.Left.length:Int) 100) d (lb d) fun a S=>sPickF (.bool (decide (100 < (p0.Left.length:Int)))) S (wN d) d d a6 d d (lb d) fun a S=>?_
  exact lT (⟨decide (100 < (p0.Left.length:Int)),Option.some.inj h,S.fix [0] [1,0] (by decide) d d d⟩)
 obtain ⟨ar,rfl,S⟩:=hI
 have h:=b1
 try dsimp only at h
 rcases iS h with ⟨ak,h⟩ | ⟨ak,h⟩
 ·refine sCondT S d ak (sSeq (fun bf au=>sRegion (sN S fun a S=>?_)))
  refine lT (au _ _ ?_)
  obtain rfl:=tS h
  exact wp_ret (rThen (sRet (iv 8) S (rsl1 d (rvT (t:=2) (v:=iv 8) S d)) ⟨(),d,S.mem.sel [] [] (by decide) d d⟩))
 refine sCondF S d ak (wp_skip (leafT (aq _ _ ?_)))
 obtain ⟨b8,h,aS⟩:=bS h
 refine sCut (fun a w=>.inl ()=b8∧St [] E [] w0 58 a w [] [] []) ?_ (fun a w hI=>?_)
 rotate_left
 ·obtain ⟨rfl,S⟩:=hI
  have h:=aS
  try dsimp only at h
  refine sSeq (fun bg av=>sRegion (sN S fun a S=>?_))
  refine lT (av _ _ ?_)
  obtain rfl:=tS h
  exact wp_ret (sRet (iv 0) S (rsl1 d (rvT (t:=2) (v:=iv 0) S d)) ⟨(),d,S.mem.sel [] [] (by decide) d d⟩)
 refine sSeq (fun bh aw=>sRegion (sField (b:=ai) (off:=0) 0 0 S (wN d) d d d d d (lb d) fun a S=>sLoad1 0 (.slice a8 p0.Left.length aa) S (wN d) d d d d d d (lb d) fun a S=>sLen S (wN d) d Tryd.underlying28 d d (lb d) fun a S=>sM S fun a S=>?_))
 refine lT (aw _ _ (wp_block ?_))
 obtain ⟨bi,hl,aT⟩:=bS h
 refine sLoop hl (fun s0 a w=>match s0 with | aj=>St [] E [] w0 58 a w [(1,.pointer (some ⟨ai,0,none⟩)),(26,.slice a8 p0.Left.length aa),(27,iv (p0.Left.length:Int)),(28,iv aj)] [eBox ai 30 [.slice a8 p0.Left.length aa,.slice ag p0.Right.length ah]] [fRep (rL (rI .i64)) (.slice a8 p0.Left.length aa) p0.Left,fRep (rL (rI .i64)) (.slice ag p0.Right.length ah) p0.Right]) (S.fix [0] [0,1] (by decide) d d d) ?_
 clear hl h
 intro aj a w c0 hI h ao
 unfold piece_Check_l1 at h
 dsimp only at h hI
 have S:=hI
 refine sSeq (fun bj ax=>sRegion (sBin _ S (wN d) d d d (bLt _ _ _ _ .i64 aj (p0.Left.length:Int)) d (lb d) fun a S=>lT (ax _ _ (sSeq (fun bl ay=>?_)))))
 rcases iS h with ⟨al,h⟩ | ⟨al,h⟩
 rotate_left
 ·refine sCondF S d al ?_
  obtain rfl:=tS h
  obtain rfl:=ao _ d
  have h:=aT
  try dsimp only at h
  exact wp_exit (xThen (xThen (xHit (leafT (⟨Option.some.inj h,S.fix [] [] (by decide) d d d⟩)))))
 refine sCondT S d al (wp_skip (leafT (ay _ _ ?_)))
 refine sSeq (fun bm az=>wp_block ?_)
 refine sSeq (fun bn aA=>sRegion (sM S fun a S=>?_))
 obtain ⟨af,aC,h⟩:=bS h
 obtain ⟨aU,aG,S⟩:=pIdx (P:=Tryd.prog) (r:=(rI .i64)) (v:=.slice a8 p0.Left.length aa) (xs:=p0.Left) (j:=aj) 28 3 0 S Tryd.underlying28 d d aC
 refine sIdxV S (wN d) d d d aG d (lb d) fun a S=>?_
 obtain ⟨aV,S⟩:=pLoad (r:=(rI .i64)) (q:=aU) (x:=af) 0 S d
 obtain rfl:aV=iv af:=S.mem.know (i:=1) (e:=fRep (rI .i64) (aV) af) d
 refine sLoadV1 (vq:=aU) 0 (iv af) S (wN d) d d d d d (lb d) fun a S=>sN S fun a S=>?_
 refine sN S fun a S=>?_
 refine lT (aA _ _ (sSeq (fun bo aH=>sRegion (sField (b:=ai) (off:=0) 1 1 S (wN d) d d d d d (lb d) fun a S=>sLoad1 0 (.slice ag p0.Right.length ah) S (wN d) d d d d d d (lb d) fun a S=>sM S fun a S=>?_))))
 obtain ⟨ab,aI,h⟩:=bS h
 obtain ⟨aW,aJ,S⟩:=pIdx (P:=Tryd.prog) (r:=(rI .i64)) (v:=.slice ag p0.Right.length ah) (xs:=p0.Right) (j:=aj) 28 3 4 S Tryd.underlying28 d d aI
 refine sIdxV S (wN d) d d d aJ d (lb d) fun a S=>?_
 obtain ⟨aX,S⟩:=pLoad (r:=(rI .i64)) (q:=aW) (x:=ab) 0 S d
 obtain rfl:aX=iv ab:=S.mem.know (i:=1) (e:=fRep (rI .i64) (aX) ab) d
 refine sLoadV1 (vq:=aW) 0 (iv ab) S (wN d) d d d d d (lb d) fun a S=>sN S fun a S=>?_
 refine lT (aH _ _ ?_)
 obtain ⟨ba,h,bb⟩:=bS h
 refine sCut (fun a w=>∃ aK,aK=ba∧St [] E [] w0 58 a w [(1,.pointer (some ⟨ai,0,none⟩)),(26,.slice a8 p0.Left.length aa),(27,iv (p0.Left.length:Int)),(28,iv aj),(56,.bool aK)] [eBox ai 30 [.slice a8 p0.Left.length aa,.slice ag p0.Right.length ah]] [fRep (rL (rI .i64)) (.slice a8 p0.Left.length aa) p0.Left,fRep (rL (rI .i64)) (.slice ag p0.Right.length ah) p0.Right]) ?_ (fun a w hI=>?_)
 rotate_left
 ·obtain ⟨aK,rfl,S⟩:=hI
  have h:=bb
  try dsimp only at h
  rcases iS h with ⟨am,h⟩ | ⟨am,h⟩
  rotate_left
  ·refine sCondF S d am (wp_skip (leafB (leafT (az _ _ ?_))))
   refine sRegion (sBin _ S (wN d) d d d (bAdd _ _ _ _ aj 1) d (lb d) fun a S=>sM S fun a S=>?_)
   exact lT (⟨w64 (aj + 1),(Option.some.inj h).symm,(S.fix [0] [0,1] (by decide) d d d)⟩)
  refine sCondT S d am (sSeq (fun bp aL=>sRegion (sN S fun a S=>?_)))
  refine lT (aL _ _ ?_)
  obtain rfl:=tS h
  obtain rfl:=ao _ d
  have h:=aT
  try dsimp only at h
  obtain rfl:=tS h
  have h:=aS
  try dsimp only at h
  obtain rfl:=tS h
  exact wp_ret (rBlock (rThen (rThen (rBlock (rThen (sRet (iv 8) S (rsl1 d (rvT (t:=2) (v:=iv 8) S d)) ⟨(),d,S.mem.sel [] [] (by decide) d d⟩))))))
 refine sRegion (sM S fun a S=>?_)
 obtain ⟨aM,aO,h⟩:=bS h
 have S1:=S.mem
 refine sCq [iv af] (.bool aM) S callee37 (S1.quiet [] d) (fun E1 w1 S1=>c_piece_column E1 w1 af aM aO S1) fun a w S=>?_
 refine sNot (b:=aM) S (wN d) d d d (lb d) fun a S=>sM S fun a S=>?_
 rcases iS h with ⟨ac,h⟩ | ⟨ac,h⟩
 ·refine sSkN 3 3 false 41 S d d ac d fun a S=>sPickT (.bool true) S (wN d) d d ac d d (lb d) fun a S=>sM S fun a S=>?_
  refine sSkN 3 8 false 46 S d d d d fun a S=>sPickT (.bool true) S (wN d) d d d d d (lb d) fun a S=>sM S fun a S=>?_
  refine sSkN 4 13 false 51 S d d d d fun a S=>sPickT (.bool true) S (wN d) d d d d d (lb d) fun a S=>?_
  exact lT (⟨true,Option.some.inj h,S.fix [0] [6,7] (by decide) d d d⟩)
 refine sMove (iv ab) S (wG 3 false 41 d d d ac) (.inl d) d d (lb d) fun a S=>?_
 obtain ⟨ap,aP,h⟩:=bS h
 have S1:=S.mem
 refine sCallQ (X:=Unit) (f:=37) (vs:=[iv ab]) (val:=fun _=>.bool ap) S (wG 3 false 41 d d d ac) d callee37 d (S1.quiet [] d) (fun E1 w1 S1=>c_piece_column E1 w1 ab ap aP S1) d (lb d) fun _ a w S=>?_
 refine sNot (b:=ap) S (wG 3 false 41 d d d ac) d d d (lb d) fun a S=>sPickF (.bool (!ap)) S (wN d) d d ac d d (lb d) fun a S=>sM S fun a S=>?_
 rcases iS h with ⟨ae,h⟩ | ⟨ae,h⟩
 ·refine sSkN 3 8 false 46 S d d ae d fun a S=>sPickT (.bool true) S (wN d) d d ae d d (lb d) fun a S=>sM S fun a S=>?_
  refine sSkN 4 13 false 51 S d d d d fun a S=>sPickT (.bool true) S (wN d) d d d d d (lb d) fun a S=>?_
  exact lT (⟨true,Option.some.inj h,S.fix [0] [6,7] (by decide) d d d⟩)
 refine sMove (iv af) S (wG 8 false 46 d d d ae) (.inl d) d d (lb d) fun a S=>sMove (iv ab) S (wG 8 false 46 d d d ae) (.inl d) d d (lb d) fun a S=>sBin _ S (wG 8 false 46 d d d ae) d d d (bGe _ _ _ _ .i64 af ab) d (lb d) fun a S=>sPickF (.bool (decide (ab ≤ af))) S (wN d) d d ae d d (lb d) fun a S=>sM S fun a S=>?_
 rcases iS h with ⟨a7,h⟩ | ⟨a7,h⟩
 ·refine sSkN 4 13 false 51 S d d a7 d fun a S=>sPickT (.bool true) S (wN d) d d a7 d d (lb d) fun a S=>?_
  exact lT (⟨true,Option.some.inj h,S.fix [0] [6,7] (by decide) d d d⟩)
 refine sMove (iv ab) S (wG 13 false 51 d d d a7) (.inl d) d d (lb d) fun a S=>sMove (iv af) S (wG 13 false 51 d d d a7) (.inl d) d d (lb d) fun a S=>sBin _ S (wG 13 false 51 d d d a7) d d d (bSub _ _ _ _ ab af) d (lb d) fun a S=>sBin _ S (wG 13 false 51 d d d a7) d d d (bGt _ _ _ _ .i64 (w64 (ab - af)) 200) d (lb d) fun a S=>sPickF (.bool (decide (200 < (w64 (ab - af))))) S (wN d) d d a7 d d (lb d) fun a S=>?_
 exact lT (⟨decide (200 < (w64 (ab - af))),Option.some.inj h,S.fix [0] [6,7] (by decide) d d d⟩)
def anc_piece_side_0:List (List Nat):=[[],[0],[0,1],[0,1,2],[0,1,2,3],[0,1,2,3,4],[0,1,2,3,4,5],[0,1,2,3,4,5,6],[0,1,2,3,4,5,6,7],[0,1,2,3,4,5,6,7,8],[0,1,2,3,4,5,6,7],[0,1,2,3,4,5,6,7],[0,1,2,3,4,5,6,7,11],[0,1,2,3,4,5,6,7,10,11,12],[0,1,2,3,4,5,6,7,10,11,12,13],[0,1,2,3,4,5,6,7,10,11,12,13,14],[0,1,2,3,4,5,6,7,8,9,10,11,12,13,14,15],[0,1,2,3,4,5,6,7,8,9,10,11,12,13,14,15,16],[0,1,2,3,4,5,6,7,8,9,10,11,12,13,14,15,16,17]]
noncomputable def piece_side_l1 (p0:(List api_Point)):Int→Option (Int ⊕ (Bool ⊕ Unit)):=fun s0=>match s0 with
 | a2=>
  if decide (a2 < (p0.length:Int)) then
   (idxO p0 a2).bind fun a6=>
   Option.bind (α:=Bool) (
    (F_piece_column a6.X).bind fun a7=>
    if !a7 then
     some true
    else
     if decide (0 < a2) then
      (idxO p0 (w64 (a2 - 1))).bind fun a8=>
      some (decide (a6.Y ≤ a8.Y))
     else
      some false) fun aa=>
   if aa then
    some (.inr (.inl false))
   else
    some (.inl (w64 (a2 + 1)))
  else
   some (.inr (.inr ()))
noncomputable def F_piece_side (p0:(List api_Point)):Option Bool:=
 Option.bind (α:=Bool) (
  if (p0.length:Int) == 0 then
   some true
  else
   if decide (50 < (p0.length:Int)) then
    some true
   else
    (idxO p0 0).bind fun a2=>
    if a2.Y != 0 then
     some true
    else
     (idxO p0 (w64 ((p0.length:Int) - 1))).bind fun a6=>
     some (decide (100 ≤ a6.Y))) fun o5=>
 if o5 then
  some false
 else
  Option.bind (α:=Unit ⊕ Bool) (
   (whileO (piece_side_l1 p0) 0).bind fun z0=>match z0 with
    | .inl z=>
     some (.inr z)
    | .inr _=>
     some (.inl ())) fun z0=>match z0 with
   | .inl _=>
    some true
   | .inr z=>
    some z
theorem c_piece_side (E:Nat→Prop) (w0:World) (p0:(List api_Point)) (v0:Value) (r:Bool) (h:F_piece_side p0=some r) (S:St0 E [] w0 w0 [] [fRep (rL r_api_Point) (v0) p0]) :
 Calls Tryd.prog 49 #[v0] w0 (Ret (X:=Unit) E [] w0 (fun _=>.bool r) (fun _=>[]) (fun _=>[])):=by
 unfold F_piece_side at h
 obtain ⟨aa,ab,_,rfl,_⟩:=S.know (i:=0) (e:=fRep (rL r_api_Point) (v0) p0) d
 refine sEnter (args:=[.slice aa p0.length ab]) 57 Tryd.func49 d d (by simp) S (fun a S=>?_)
 refine sSeq (fun K3 bf=>sRegion (sN S fun a S=>?_))
 refine lT (bf _ _ (sSeq (fun K4 bg=>?_)))
 obtain ⟨t6,h,g7⟩:=bS h
 refine sCut (fun a w=>∃ o5,o5=t6∧St [] E [] w0 57 a w [(0,.slice aa p0.length ab),(29,.bool o5)] [] [fRep (rL r_api_Point) (.slice aa p0.length ab) p0]) ?_ (fun a w hI=>?_)
 ·refine sRegion (sM S fun a S=>?_)
  refine sLen S (wN d) d Tryd.underlying22 d d (lb d) fun a S=>sBin _ S (wN d) d d d (bEq _ _ _ _ .i64 (p0.length:Int) 0) d (lb d) fun a S=>sM S fun a S=>?_
  rcases iS h with ⟨aj,h⟩ | ⟨aj,h⟩
  ·refine sSkN 3 3 false 8 S d d aj d fun a S=>sPickT (.bool true) S (wN d) d d aj d d (lb d) fun a S=>sM S fun a S=>?_
   refine sSkN 5 8 false 13 S d d d d fun a S=>sPickT (.bool true) S (wN d) d d d d d (lb d) fun a S=>sM S fun a S=>?_
   refine sSkN 8 15 false 20 S d d d d fun a S=>sPickT (.bool true) S (wN d) d d d d d (lb d) fun a S=>?_
   exact lT (⟨true,Option.some.inj h,S.fix [] [0] (by decide) d d d⟩)
  refine sMove (.slice aa p0.length ab) S (wG 3 false 8 d d d aj) (.inl d) d d (lb d) fun a S=>sLen S (wG 3 false 8 d d d aj) d Tryd.underlying22 d d (lb d) fun a S=>sBin _ S (wG 3 false 8 d d d aj) d d d (bGt _ _ _ _ .i64 (p0.length:Int) 50) d (lb d) fun a S=>sPickF (.bool (decide (50 < (p0.length:Int)))) S (wN d) d d aj d d (lb d) fun a S=>sM S fun a S=>?_
  rcases iS h with ⟨ah,h⟩ | ⟨ah,h⟩
  ·refine sSkN 5 8 false 13 S d d ah d fun a S=>sPickT (.bool true) S (wN d) d d ah d d (lb d) fun a S=>sM S fun a S=>?_
   refine sSkN 8 15 false 20 S d d d d fun a S=>sPickT (.bool true) S (wN d) d d d d d (lb d) fun a S=>?_
   exact lT (⟨true,Option.some.inj h,S.fix [] [0] (by decide) d d d⟩)
  refine sMove (.slice aa p0.length ab) S (wG 8 false 13 d d d ah) (.inl d) d d (lb d) fun a S=>?_
  obtain ⟨ak,av,h⟩:=bS h
  obtain ⟨aU,aw,S⟩:=pIdx (P:=Tryd.prog) (r:=r_api_Point) (v:=.slice aa p0.length ab) (xs:=p0) (j:=0) 22 35 0 S Tryd.underlying22 d d av
  refine sIdxV S (wG 8 false 13 d d d ah) d d d aw d (lb d) fun a S=>?_
  obtain ⟨aV,ax,S⟩:=pFld (P:=Tryd.prog) (r:=r_api_Point) (s2:=(rI .i64)) (g:=(·.Y)) (q:=aU) (z:=ak) 35 1 0 1 S d d comp_api_Point_Y
  refine sFldV (q:=aU) S (wG 8 false 13 d d d ah) d d ax d (lb d) fun a S=>?_
  obtain ⟨aW,S⟩:=pLoad (r:=(rI .i64)) (q:=aV) (x:=ak.Y) 0 S d
  obtain rfl:aW=iv ak.Y:=S.mem.know (i:=1) (e:=fRep (rI .i64) (aW) ak.Y) d
  refine sLoadV1 (vq:=aV) 0 (iv ak.Y) S (wG 8 false 13 d d d ah) d d d d d (lb d) fun a S=>sBin _ S (wG 8 false 13 d d d ah) d d d (bNe _ _ _ _ .i64 ak.Y 0) d (lb d) fun a S=>sPickF (.bool (ak.Y != 0)) S (wN d) d d ah d d (lb d) fun a S=>sM S fun a S=>?_
  rcases iS h with ⟨ac,h⟩ | ⟨ac,h⟩
  ·refine sSkN 8 15 false 20 S d d ac d fun a S=>sPickT (.bool true) S (wN d) d d ac d d (lb d) fun a S=>?_
   exact lT (⟨true,Option.some.inj h,S.fix [] [4] (by decide) d d d⟩)
  refine sMove (.slice aa p0.length ab) S (wG 15 false 20 d d d ac) (.inl d) d d (lb d) fun a S=>sMove (.slice aa p0.length ab) S (wG 15 false 20 d d d ac) (.inl d) d d (lb d) fun a S=>sLen S (wG 15 false 20 d d d ac) d Tryd.underlying22 d d (lb d) fun a S=>sBin _ S (wG 15 false 20 d d d ac) d d d (bSub _ _ _ _ (p0.length:Int) 1) d (lb d) fun a S=>?_
  obtain ⟨ai,ay,h⟩:=bS h
  obtain ⟨aX,az,S⟩:=pIdx (P:=Tryd.prog) (r:=r_api_Point) (v:=.slice aa p0.length ab) (xs:=p0) (j:=w64 ((p0.length:Int) - 1)) 22 35 4 S Tryd.underlying22 d d ay
  refine sIdxV S (wG 15 false 20 d d d ac) d d d az d (lb d) fun a S=>?_
  obtain ⟨aZ,aA,S⟩:=pFld (P:=Tryd.prog) (r:=r_api_Point) (s2:=(rI .i64)) (g:=(·.Y)) (q:=aX) (z:=ai) 35 1 0 1 S d d comp_api_Point_Y
  refine sFldV (q:=aX) S (wG 15 false 20 d d d ac) d d aA d (lb d) fun a S=>?_
  obtain ⟨b0,S⟩:=pLoad (r:=(rI .i64)) (q:=aZ) (x:=ai.Y) 0 S d
  obtain rfl:b0=iv ai.Y:=S.mem.know (i:=1) (e:=fRep (rI .i64) (b0) ai.Y) d
  refine sLoadV1 (vq:=aZ) 0 (iv ai.Y) S (wG 15 false 20 d d d ac) d d d d d (lb d) fun a S=>sBin _ S (wG 15 false 20 d d d ac) d d d (bGe _ _ _ _ .i64 ai.Y 100) d (lb d) fun a S=>sPickF (.bool (decide (100 ≤ ai.Y))) S (wN d) d d ac d d (lb d) fun a S=>?_
  exact lT (⟨decide (100 ≤ ai.Y),Option.some.inj h,S.fix [] [8] (by decide) d d d⟩)
 obtain ⟨o5,rfl,S⟩:=hI
 have h:=g7
 try dsimp only at h
 rcases iS h with ⟨al,h⟩ | ⟨al,h⟩
 ·refine sCondT S d al (sSeq (fun bl aC=>sRegion (sN S fun a S=>?_)))
  refine lT (aC _ _ ?_)
  obtain rfl:=tS h
  exact wp_ret (rThen (sRet (.bool false) S (rsl1 d (rvT (t:=2) (v:=.bool false) S d)) ⟨(),d,S.mem.sel [] [] (by decide) d d⟩))
 refine sCondF S d al (wp_skip (leafT (bg _ _ ?_)))
 obtain ⟨bh,h,b1⟩:=bS h
 refine sCut (fun a w=>.inl ()=bh∧St [] E [] w0 57 a w [] [] []) ?_ (fun a w hI=>?_)
 rotate_left
 ·obtain ⟨rfl,S⟩:=hI
  have h:=b1
  try dsimp only at h
  refine sSeq (fun bm aG=>sRegion (sN S fun a S=>?_))
  refine lT (aG _ _ ?_)
  obtain rfl:=tS h
  exact wp_ret (sRet (.bool true) S (rsl1 d (rvT (t:=2) (v:=.bool true) S d)) ⟨(),d,S.mem.sel [] [] (by decide) d d⟩)
 refine sSeq (fun bn aH=>sRegion (sM S fun a S=>?_))
 refine sLen S (wN d) d Tryd.underlying22 d d (lb d) fun a S=>sM S fun a S=>?_
 refine lT (aH _ _ (wp_block ?_))
 obtain ⟨bo,hl,b8⟩:=bS h
 refine sLoop hl (fun s0 a w=>match s0 with | a6=>St [] E [] w0 57 a w [(0,.slice aa p0.length ab),(30,.slice aa p0.length ab),(31,iv (p0.length:Int)),(32,iv a6)] [] [fRep (rL r_api_Point) (.slice aa p0.length ab) p0]) (S.fix [] [0] (by decide) d d d) ?_
 clear hl h
 intro a6 a w c0 hI h aq
 unfold piece_side_l1 at h
 dsimp only at h hI
 have S:=hI
 refine sSeq (fun bp aI=>sRegion (sBin _ S (wN d) d d d (bLt _ _ _ _ .i64 a6 (p0.length:Int)) d (lb d) fun a S=>lT (aI _ _ (sSeq (fun bq aJ=>?_)))))
 rcases iS h with ⟨am,h⟩ | ⟨am,h⟩
 rotate_left
 ·refine sCondF S d am ?_
  obtain rfl:=tS h
  obtain rfl:=aq _ d
  have h:=b8
  try dsimp only at h
  exact wp_exit (xThen (xThen (xHit (leafT (⟨Option.some.inj h,S.fix [] [] (by decide) d d d⟩)))))
 refine sCondT S d am (wp_skip (leafT (aJ _ _ ?_)))
 refine sSeq (fun br aK=>wp_block ?_)
 refine sSeq (fun bt aL=>sRegion (sM S fun a S=>?_))
 obtain ⟨a7,aM,h⟩:=bS h
 obtain ⟨ba,aO,S⟩:=pIdx (P:=Tryd.prog) (r:=r_api_Point) (v:=.slice aa p0.length ab) (xs:=p0) (j:=a6) 22 35 0 S Tryd.underlying22 d d aM
 refine sIdxV S (wN d) d d d aO d (lb d) fun a S=>?_
 obtain ⟨bb,S⟩:=pLoad (r:=r_api_Point) (q:=ba) (x:=a7) 0 S d
 obtain rfl:bb=.agg #[iv a7.X,iv a7.Y]:=S.mem.know (i:=1) (e:=fRep r_api_Point (bb) a7) d
 refine sLoadVN (vq:=ba) 0 [iv a7.X,iv a7.Y] S (wN d) d d d d d d (lb d) fun a S=>sAlloc (.agg #[iv 0,iv 0]) S (wN d) d d [iv 0,iv 0] d d (lb d) fun a ag w S=>sN S fun a S=>?_
 refine sStore (p:=ag) (off:=0) (T:=35) (vs:=[iv 0,iv 0]) (v:=.agg #[iv a7.X,iv a7.Y]) 0 [iv a7.X,iv a7.Y] S (wN d) d d d d d d d (by simp) d fun a w S=>lT (aL _ _ ?_)
 obtain ⟨bi,h,bj⟩:=bS h
 refine sCut (fun a w=>∃ aP,aP=bi∧St [] E [] w0 57 a w [(0,.slice aa p0.length ab),(30,.slice aa p0.length ab),(31,iv (p0.length:Int)),(32,iv a6),(55,.bool aP)] [] [fRep (rL r_api_Point) (.slice aa p0.length ab) p0]) ?_ (fun a w hI=>?_)
 rotate_left
 ·obtain ⟨aP,rfl,S⟩:=hI
  have h:=bj
  try dsimp only at h
  rcases iS h with ⟨ao,h⟩ | ⟨ao,h⟩
  rotate_left
  ·refine sCondF S d ao (wp_skip (leafB (leafT (aK _ _ ?_))))
   refine sRegion (sBin _ S (wN d) d d d (bAdd _ _ _ _ a6 1) d (lb d) fun a S=>sM S fun a S=>?_)
   exact lT (⟨w64 (a6 + 1),(Option.some.inj h).symm,(S.fix [] [0] (by decide) d d d)⟩)
  refine sCondT S d ao (sSeq (fun bu aQ=>sRegion (sN S fun a S=>?_)))
  refine lT (aQ _ _ ?_)
  obtain rfl:=tS h
  obtain rfl:=aq _ d
  have h:=b8
  try dsimp only at h
  obtain rfl:=tS h
  have h:=b1
  try dsimp only at h
  obtain rfl:=tS h
  exact wp_ret (rBlock (rThen (rThen (rBlock (rThen (sRet (.bool false) S (rsl1 d (rvT (t:=2) (v:=.bool false) S d)) ⟨(),d,S.mem.sel [] [] (by decide) d d⟩))))))
 obtain ⟨ae,ap,h⟩:=bS h
 rcases iS h with ⟨a8,h⟩ | ⟨a8,h⟩
 ·refine sDraw (nf:=[]) (W:=[(0,37,.pointer (some ⟨ag,0,none⟩)),(1,38,iv a7.X),(2,39,.bool ae),(3,40,.bool (!ae)),(4,41,.bool (!ae)),(5,42,undef),(6,43,undef),(7,44,undef),(8,45,undef),(9,46,undef),(10,47,undef),(11,48,undef),(12,49,undef),(13,50,undef),(14,51,undef),(15,52,undef),(16,53,undef),(17,54,undef),(18,55,.bool true)]) d S ?_
  refine node_by (A:=anc_piece_side_0) 19 (by kernel_rfl) (by kernel_rfl) (by kernel_rfl) (by kernel_rfl) (by kernel_rfl) [0,1,2,3,4,5,6,7,8,9,10,11,12,13,14,15,16,17,18] (by kernel_rfl) (by decide) (by decide) (fF ?_ (fF ?_ (fF ?_ (fF ?_ (fF ?_ (fF ?_ (fF ?_ (fF ?_ (fF ?_ (fF ?_ (fF ?_ (fF ?_ (fF ?_ (fF ?_ (fF ?_ (fF ?_ (fF ?_ (fF ?_ (fF ?_ (trivial)))))))))))))))))))) [(0,.slice aa p0.length ab),(30,.slice aa p0.length ab),(31,iv (p0.length:Int)),(32,iv a6),(42,undef),(43,undef),(44,undef),(45,undef),(46,undef),(47,undef),(48,undef),(49,undef),(50,undef),(51,undef),(52,undef),(53,undef),(54,undef),(55,.bool true)] (fin_of [none,none,none,none,some 5,some 6,some 7,some 8,some 9,some 10,some 11,some 12,some 13,some 14,some 15,some 16,some 17,some 18] d (by kernel_rfl) (by kernel_rfl)) (fun _ a w S=>?_)
  ·refine fJ [(4,_)] 0 [none] fun G a w S=>?_
   exact sField (b:=ag) (off:=0) 0 0 S (wN d) d d d d d (lb d) fun a S=>leafL ⟨d,S⟩
  ·refine fJ [(37,_)] 1 [some 0] fun G a w S=>?_
   exact sLoad1 0 (iv a7.X) S (wN d) d d d d d d (lb d) fun a S=>leafL ⟨d,S⟩
  ·refine fJ [(38,_)] 2 [some 1] fun G a w S=>?_
   have S1:=S.mem
   refine sCq [iv a7.X] (.bool ae) S callee37 (S1.quiet [] d) (fun E1 w1 S1=>c_piece_column E1 w1 a7.X ae ap S1) fun a w S=>?_
   exact leafL ⟨d,S⟩
  ·refine fJ [(39,_)] 3 [some 2] fun G a w S=>?_
   exact sNot (b:=ae) S (wN d) d d d (lb d) fun a S=>leafL ⟨d,S⟩
  ·exact fM 4 (some 3) d d d d (.inl d) d d d
  ·refine fJ [(3,_),(41,_)] 5 [none,some 4] fun G a w S=>?_
   exact sSk S d d d a8 d d fun a S=>leafL ⟨d,S⟩
  ·refine fJ [(42,_),(41,_)] 6 [some 5,some 4] fun G a w S=>?_
   exact sSk S d d d a8 d d fun a S=>leafL ⟨d,S⟩
  ·refine fJ [(43,_),(41,_)] 7 [some 6,some 4] fun G a w S=>?_
   exact sSk S d d d a8 d d fun a S=>leafL ⟨d,S⟩
  ·refine fJ [(4,_),(44,_)] 8 [none,some 7] fun G a w S=>?_
   exact sSkipU 7 true 44 45 S d d d d (lb d) fun a S=>leafL ⟨d,S⟩
  ·refine fJ [(45,_),(44,_)] 9 [some 8,some 7] fun G a w S=>?_
   exact sSkipU 7 true 44 46 S d d d d (lb d) fun a S=>leafL ⟨d,S⟩
  ·refine fJ [(0,_),(44,_)] 10 [none,some 7] fun G a w S=>?_
   exact sSkipU 7 true 44 47 S d d d d (lb d) fun a S=>leafL ⟨d,S⟩
  ·refine fJ [(3,_),(44,_)] 11 [none,some 7] fun G a w S=>?_
   exact sSkipU 7 true 44 48 S d d d d (lb d) fun a S=>leafL ⟨d,S⟩
  ·refine fJ [(48,_),(44,_)] 12 [some 11,some 7] fun G a w S=>?_
   exact sSkipU 7 true 44 49 S d d d d (lb d) fun a S=>leafL ⟨d,S⟩
  ·refine fJ [(47,_),(49,_),(44,_)] 13 [some 10,some 12,some 7] fun G a w S=>?_
   exact sSkipU 7 true 44 50 S d d d d (lb d) fun a S=>leafL ⟨d,S⟩
  ·refine fJ [(50,_),(44,_)] 14 [some 13,some 7] fun G a w S=>?_
   exact sSkipU 7 true 44 51 S d d d d (lb d) fun a S=>leafL ⟨d,S⟩
  ·refine fJ [(51,_),(44,_)] 15 [some 14,some 7] fun G a w S=>?_
   exact sSkipU 7 true 44 52 S d d d d (lb d) fun a S=>leafL ⟨d,S⟩
  ·refine fJ [(46,_),(52,_),(44,_)] 16 [some 9,some 15,some 7] fun G a w S=>?_
   exact sSkipU 7 true 44 53 S d d d d (lb d) fun a S=>leafL ⟨d,S⟩
  ·refine fJ [(44,_),(53,_),(41,_)] 17 [some 7,some 16,some 4] fun G a w S=>?_
   exact sSk S d d d a8 d d fun a S=>leafL ⟨d,S⟩
  ·refine fJ [(41,_),(54,_)] 18 [some 4,some 17] fun G a w S=>?_
   exact sPickT (.bool true) S (wN d) d d a8 d d (lb d) fun a S=>leafL ⟨d,S⟩
  exact leafT (⟨true,Option.some.inj h,S.fix [] [3] (by decide) d d d⟩)
 rcases iS h with ⟨a2,h⟩ | ⟨a2,h⟩
 rotate_left
 ·refine sDraw (nf:=[]) (W:=[(0,37,.pointer (some ⟨ag,0,none⟩)),(1,38,iv a7.X),(2,39,.bool ae),(3,40,.bool (!ae)),(4,41,.bool (!ae)),(5,42,iv a6),(6,43,.bool (decide (0 < a6))),(7,44,.bool (decide (0 < a6))),(8,45,undef),(9,46,undef),(10,47,undef),(11,48,undef),(12,49,undef),(13,50,undef),(14,51,undef),(15,52,undef),(16,53,undef),(17,54,.bool false),(18,55,.bool false)]) d S ?_
  refine node_by (A:=anc_piece_side_0) 19 (by kernel_rfl) (by kernel_rfl) (by kernel_rfl) (by kernel_rfl) (by kernel_rfl) [0,1,2,3,4,5,6,7,8,9,10,11,12,13,14,15,16,17,18] (by kernel_rfl) (by decide) (by decide) (fF ?_ (fF ?_ (fF ?_ (fF ?_ (fF ?_ (fF ?_ (fF ?_ (fF ?_ (fF ?_ (fF ?_ (fF ?_ (fF ?_ (fF ?_ (fF ?_ (fF ?_ (fF ?_ (fF ?_ (fF ?_ (fF ?_ (trivial)))))))))))))))))))) [(0,.slice aa p0.length ab),(30,.slice aa p0.length ab),(31,iv (p0.length:Int)),(32,iv a6),(42,iv a6),(43,.bool (decide (0 < a6))),(44,.bool (decide (0 < a6))),(45,undef),(46,undef),(47,undef),(48,undef),(49,undef),(50,undef),(51,undef),(52,undef),(53,undef),(54,.bool false),(55,.bool false)] (fin_of [none,none,none,none,some 5,some 6,some 7,some 8,some 9,some 10,some 11,some 12,some 13,some 14,some 15,some 16,some 17,some 18] d (by kernel_rfl) (by kernel_rfl)) (fun _ a w S=>?_)
  ·refine fJ [(4,_)] 0 [none] fun G a w S=>?_
   exact sField (b:=ag) (off:=0) 0 0 S (wN d) d d d d d (lb d) fun a S=>leafL ⟨d,S⟩
  ·refine fJ [(37,_)] 1 [some 0] fun G a w S=>?_
   exact sLoad1 0 (iv a7.X) S (wN d) d d d d d d (lb d) fun a S=>leafL ⟨d,S⟩
  ·refine fJ [(38,_)] 2 [some 1] fun G a w S=>?_
   have S1:=S.mem
   refine sCq [iv a7.X] (.bool ae) S callee37 (S1.quiet [] d) (fun E1 w1 S1=>c_piece_column E1 w1 a7.X ae ap S1) fun a w S=>?_
   exact leafL ⟨d,S⟩
  ·refine fJ [(39,_)] 3 [some 2] fun G a w S=>?_
   exact sNot (b:=ae) S (wN d) d d d (lb d) fun a S=>leafL ⟨d,S⟩
  ·exact fM 4 (some 3) d d d d (.inl d) d d d
  ·refine fJ [(3,_),(41,_)] 5 [none,some 4] fun G a w S=>?_
   exact sMove (iv a6) S (wG 4 false 41 d d d a8) (.inl d) d d (lb d) fun a S=>leafL ⟨d,S⟩
  ·refine fJ [(42,_),(41,_)] 6 [some 5,some 4] fun G a w S=>?_
   exact sBin _ S (wG 4 false 41 d d d a8) d d d (bGt _ _ _ _ .i64 a6 0) d (lb d) fun a S=>leafL ⟨d,S⟩
  ·refine fJ [(43,_),(41,_)] 7 [some 6,some 4] fun G a w S=>?_
   exact sMove (.bool (decide (0 < a6))) S (wG 4 false 41 d d d a8) (.inl d) d d (lb d) fun a S=>leafL ⟨d,S⟩
  ·refine fJ [(4,_),(44,_)] 8 [none,some 7] fun G a w S=>?_
   exact sSk S d d d a2 d d fun a S=>leafL ⟨d,S⟩
  ·refine fJ [(45,_),(44,_)] 9 [some 8,some 7] fun G a w S=>?_
   exact sSk S d d d a2 d d fun a S=>leafL ⟨d,S⟩
  ·refine fJ [(0,_),(44,_)] 10 [none,some 7] fun G a w S=>?_
   exact sSk S d d d a2 d d fun a S=>leafL ⟨d,S⟩
  ·refine fJ [(3,_),(44,_)] 11 [none,some 7] fun G a w S=>?_
   exact sSk S d d d a2 d d fun a S=>leafL ⟨d,S⟩
  ·refine fJ [(48,_),(44,_)] 12 [some 11,some 7] fun G a w S=>?_
   exact sSk S d d d a2 d d fun a S=>leafL ⟨d,S⟩
  ·refine fJ [(47,_),(49,_),(44,_)] 13 [some 10,some 12,some 7] fun G a w S=>?_
   exact sSk S d d d a2 d d fun a S=>leafL ⟨d,S⟩
  ·refine fJ [(50,_),(44,_)] 14 [some 13,some 7] fun G a w S=>?_
   exact sSk S d d d a2 d d fun a S=>leafL ⟨d,S⟩
  ·refine fJ [(51,_),(44,_)] 15 [some 14,some 7] fun G a w S=>?_
   exact sSk S d d d a2 d d fun a S=>leafL ⟨d,S⟩
  ·refine fJ [(46,_),(52,_),(44,_)] 16 [some 9,some 15,some 7] fun G a w S=>?_
   exact sSk S d d d a2 d d fun a S=>leafL ⟨d,S⟩
  ·refine fJ [(44,_),(53,_),(41,_)] 17 [some 7,some 16,some 4] fun G a w S=>?_
   exact sPickF (.bool false) S (wG 4 false 41 d d d a8) d d a2 d d (lb d) fun a S=>leafL ⟨d,S⟩
  ·refine fJ [(41,_),(54,_)] 18 [some 4,some 17] fun G a w S=>?_
   exact sPickF (.bool false) S (wN d) d d a8 d d (lb d) fun a S=>leafL ⟨d,S⟩
  exact leafT (⟨false,Option.some.inj h,S.fix [] [3] (by decide) d d d⟩)
 obtain ⟨af,aR,h⟩:=bS h
 obtain ⟨ar,aS,S⟩:=pIdx (P:=Tryd.prog) (r:=r_api_Point) (v:=.slice aa p0.length ab) (xs:=p0) (j:=w64 (a6 - 1)) 22 35 3 S Tryd.underlying22 d d aR
 obtain ⟨au,aT,S⟩:=pFld (P:=Tryd.prog) (r:=r_api_Point) (s2:=(rI .i64)) (g:=(·.Y)) (q:=ar) (z:=af) 35 1 0 1 S d d comp_api_Point_Y
 obtain ⟨bc,S⟩:=pLoad (r:=(rI .i64)) (q:=au) (x:=af.Y) 0 S d
 obtain rfl:bc=iv af.Y:=S.mem.know (i:=1) (e:=fRep (rI .i64) (bc) af.Y) d
 refine sDraw (nf:=[]) (W:=[(0,37,.pointer (some ⟨ag,0,none⟩)),(1,38,iv a7.X),(2,39,.bool ae),(3,40,.bool (!ae)),(4,41,.bool (!ae)),(5,42,iv a6),(6,43,.bool (decide (0 < a6))),(7,44,.bool (decide (0 < a6))),(8,45,.pointer (some ⟨ag,1,none⟩)),(9,46,iv a7.Y),(10,47,.slice aa p0.length ab),(11,48,iv a6),(12,49,iv (w64 (a6 - 1))),(13,50,ar),(14,51,au),(15,52,iv af.Y),(16,53,.bool (decide (a7.Y ≤ af.Y))),(17,54,.bool (decide (a7.Y ≤ af.Y))),(18,55,.bool (decide (a7.Y ≤ af.Y)))]) d S ?_
 refine node_by (A:=anc_piece_side_0) 19 (by kernel_rfl) (by kernel_rfl) (by kernel_rfl) (by kernel_rfl) (by kernel_rfl) [0,1,2,3,4,5,6,7,8,9,10,11,12,13,14,15,16,17,18] (by kernel_rfl) (by decide) (by decide) (fF ?_ (fF ?_ (fF ?_ (fF ?_ (fF ?_ (fF ?_ (fF ?_ (fF ?_ (fF ?_ (fF ?_ (fF ?_ (fF ?_ (fF ?_ (fF ?_ (fF ?_ (fF ?_ (fF ?_ (fF ?_ (fF ?_ (trivial)))))))))))))))))))) [(0,.slice aa p0.length ab),(30,.slice aa p0.length ab),(31,iv (p0.length:Int)),(32,iv a6),(42,iv a6),(43,.bool (decide (0 < a6))),(44,.bool (decide (0 < a6))),(45,.pointer (some ⟨ag,1,none⟩)),(46,iv a7.Y),(47,.slice aa p0.length ab),(48,iv a6),(49,iv (w64 (a6 - 1))),(50,ar),(51,au),(52,iv af.Y),(53,.bool (decide (a7.Y ≤ af.Y))),(54,.bool (decide (a7.Y ≤ af.Y))),(55,.bool (decide (a7.Y ≤ af.Y)))] (fin_of [none,none,none,none,some 5,some 6,some 7,some 8,some 9,some 10,some 11,some 12,some 13,some 14,some 15,some 16,some 17,some 18] d (by kernel_rfl) (by kernel_rfl)) (fun _ a w S=>?_)
 ·refine fJ [(4,_)] 0 [none] fun G a w S=>?_
  exact sField (b:=ag) (off:=0) 0 0 S (wN d) d d d d d (lb d) fun a S=>leafL ⟨d,S⟩
 ·refine fJ [(37,_)] 1 [some 0] fun G a w S=>?_
  exact sLoad1 0 (iv a7.X) S (wN d) d d d d d d (lb d) fun a S=>leafL ⟨d,S⟩
 ·refine fJ [(38,_)] 2 [some 1] fun G a w S=>?_
  have S1:=S.mem
  refine sCq [iv a7.X] (.bool ae) S callee37 (S1.quiet [] d) (fun E1 w1 S1=>c_piece_column E1 w1 a7.X ae ap S1) fun a w S=>?_
  exact leafL ⟨d,S⟩
 ·refine fJ [(39,_)] 3 [some 2] fun G a w S=>?_
  exact sNot (b:=ae) S (wN d) d d d (lb d) fun a S=>leafL ⟨d,S⟩
 ·exact fM 4 (some 3) d d d d (.inl d) d d d
 ·refine fJ [(3,_),(41,_)] 5 [none,some 4] fun G a w S=>?_
  exact sMove (iv a6) S (wG 4 false 41 d d d a8) (.inl d) d d (lb d) fun a S=>leafL ⟨d,S⟩
 ·refine fJ [(42,_),(41,_)] 6 [some 5,some 4] fun G a w S=>?_
  exact sBin _ S (wG 4 false 41 d d d a8) d d d (bGt _ _ _ _ .i64 a6 0) d (lb d) fun a S=>leafL ⟨d,S⟩
 ·refine fJ [(43,_),(41,_)] 7 [some 6,some 4] fun G a w S=>?_
  exact sMove (.bool (decide (0 < a6))) S (wG 4 false 41 d d d a8) (.inl d) d d (lb d) fun a S=>leafL ⟨d,S⟩
 ·refine fJ [(4,_),(44,_)] 8 [none,some 7] fun G a w S=>?_
  exact sField (b:=ag) (off:=0) 1 1 S (wG 7 true 44 d d d a2) d d d d d (lb d) fun a S=>leafL ⟨d,S⟩
 ·refine fJ [(45,_),(44,_)] 9 [some 8,some 7] fun G a w S=>?_
  exact sLoad1 0 (iv a7.Y) S (wG 7 true 44 d d d a2) d d d d d d (lb d) fun a S=>leafL ⟨d,S⟩
 ·refine fJ [(0,_),(44,_)] 10 [none,some 7] fun G a w S=>?_
  exact sMove (.slice aa p0.length ab) S (wG 7 true 44 d d d a2) (.inl d) d d (lb d) fun a S=>leafL ⟨d,S⟩
 ·refine fJ [(3,_),(44,_)] 11 [none,some 7] fun G a w S=>?_
  exact sMove (iv a6) S (wG 7 true 44 d d d a2) (.inl d) d d (lb d) fun a S=>leafL ⟨d,S⟩
 ·refine fJ [(48,_),(44,_)] 12 [some 11,some 7] fun G a w S=>?_
  exact sBin _ S (wG 7 true 44 d d d a2) d d d (bSub _ _ _ _ a6 1) d (lb d) fun a S=>leafL ⟨d,S⟩
 ·refine fJ [(47,_),(49,_),(44,_)] 13 [some 10,some 12,some 7] fun G a w S=>?_
  exact sIdxV S (wG 7 true 44 d d d a2) d d d aS d (lb d) fun a S=>leafL ⟨d,S⟩
 ·refine fJ [(50,_),(44,_)] 14 [some 13,some 7] fun G a w S=>?_
  exact sFldV (q:=ar) S (wG 7 true 44 d d d a2) d d aT d (lb d) fun a S=>leafL ⟨d,S⟩
 ·refine fJ [(51,_),(44,_)] 15 [some 14,some 7] fun G a w S=>?_
  exact sLoadV1 (vq:=au) 0 (iv af.Y) S (wG 7 true 44 d d d a2) d d d d d (lb d) fun a S=>leafL ⟨d,S⟩
 ·refine fJ [(46,_),(52,_),(44,_)] 16 [some 9,some 15,some 7] fun G a w S=>?_
  exact sBin _ S (wG 7 true 44 d d d a2) d d d (bLe _ _ _ _ .i64 a7.Y af.Y) d (lb d) fun a S=>leafL ⟨d,S⟩
 ·refine fJ [(44,_),(53,_),(41,_)] 17 [some 7,some 16,some 4] fun G a w S=>?_
  exact sPickT (.bool (decide (a7.Y ≤ af.Y))) S (wG 4 false 41 d d d a8) d d a2 d d (lb d) fun a S=>leafL ⟨d,S⟩
 ·refine fJ [(41,_),(54,_)] 18 [some 4,some 17] fun G a w S=>?_
  exact sPickF (.bool (decide (a7.Y ≤ af.Y))) S (wN d) d d a8 d d (lb d) fun a S=>leafL ⟨d,S⟩
 exact leafT (⟨decide (a7.Y ≤ af.Y),Option.some.inj h,S.fix [] [7] (by decide) d d d⟩)
def anc_piece_shape_0:List (List Nat):=[[],[0],[0,1],[0,1,2],[0,1,2,3],[0,1,2,3,4],[0,1,2,3,4,5],[0,1,2,3,4,5,6],[0,1,2,3,4,5,6,7],[0,1,2,3,4,5,6,7,8],[0,1,2,3,4,5,6,7,8,9],[0,1,2,3,4,5,6,7,8,9,10],[0,1,2,3,4,5,6,7,8,9,10,11],[0,1,2,3,4,5,6,7,8,9,10],[0,1,2,3,4,5,6,7,8,9,10,13],[0,1,2,3,4,5,6,7,8,9,10,13,14],[0,1,2,3,4,5,6,7,8,9,10,13,14,15],[0,1,2,3,4,5,6,7,8,9,10,11,12,13,14,15,16],[0,1,2,3,4,5,6,7,8,9,10,11,12,13,14,15,16,17],[0,1,2,3,4,5,6,7,8,9,10,11,12,13,14,15,16,17,18],[0,1,2,3,4,5,6,7,8,9,10],[0,1,2,3,4,5,6,7,8,9,10,20],[0,1,2,3,4,5,6,7,8,9,10],[0,1,2,3,4,5,6,7,8,9,10,22],[0,1,2,3,4,5,6,7,8,9,10,22,23],[0,1,2,3,4,5,6,7,8,9,10,22,23,24],[0,1,2,3,4,5,6,7,8,9,10,20,21,22,23,24,25],[0,1,2,3,4,5,6,7,8,9,10,20,21,22,23,24,25,26],[0,1,2,3,4,5,6,7,8,9,10,20,21,22,23,24,25,26,27],[0,1,2,3,4,5,6,7,8,9,10,11,12,13,14,15,16,17,18,19,20,21,22,23,24,25,26,27,28],[0,1,2,3,4,5,6,7,8,9,10,11,12,13,14,15,16,17,18,19,20,21,22,23,24,25,26,27,28,29]]
noncomputable def F_piece_shape (p0:api_Shape):Option Int:=
 Option.bind (α:=Bool) (
  (F_piece_side p0.Left).bind fun a2=>
  if !a2 then
   some true
  else
   (F_piece_side p0.Right).bind fun a6=>
   if !a6 then
    some true
   else
    (idxO p0.Left (w64 ((p0.Left.length:Int) - 1))).bind fun a7=>
    (idxO p0.Right (w64 ((p0.Right.length:Int) - 1))).bind fun a8=>
    some (a7.Y != a8.Y)) fun aa=>
 if aa then
  some 8
 else
  some 0
theorem c_piece_shape (E:Nat→Prop) (w0:World) (p0:api_Shape) (v0:Value) (r:Int) (h:F_piece_shape p0=some r) (S:St0 E [] w0 w0 [] [fRep r_api_Shape (v0) p0]) :
 Calls Tryd.prog 35 #[v0] w0 (Ret (X:=Unit) E [] w0 (fun _=>.int .i64 r) (fun _=>[]) (fun _=>[])):=by
 unfold F_piece_shape at h
 obtain ⟨u1,u2,rfl,aG,aH⟩:=S.know (i:=0) (e:=fRep r_api_Shape (v0) p0) d
 have S:=S.learn (fRep (rL r_api_Point) u1 p0.Left) aG
 obtain ⟨a7,a8,_,rfl,_⟩:=aG
 have S:=S.learn (fRep (rL r_api_Point) u2 p0.Right) aH
 obtain ⟨ac,ae,_,rfl,_⟩:=aH
 refine sEnter (args:=[.agg #[.slice a7 p0.Left.length a8,.slice ac p0.Right.length ae]]) 34 Tryd.func35 d d (by simp) S (fun a S=>?_)
 refine sSeq (fun K9 aK=>sRegion (sBox (v:=.agg #[.slice a7 p0.Left.length a8,.slice ac p0.Right.length ae]) S (wN d) d d [.slice a7 p0.Left.length a8,.slice ac p0.Right.length ae] d d (lb d) fun a aa w S=>sN S fun a S=>?_))
 refine lT (aK _ _ (sSeq (fun aO al=>?_)))
 obtain ⟨aL,h,aM⟩:=bS h
 refine sCut (fun a w=>∃ am,am=aL∧St [] E [] w0 34 a w [(33,.bool am)] [] []) ?_ (fun a w hI=>?_)
 rotate_left
 ·obtain ⟨am,rfl,S⟩:=hI
  have h:=aM
  try dsimp only at h
  rcases iS h with ⟨ai,h⟩ | ⟨ai,h⟩
  ·refine sCondT S d ai (sSeq (fun aP ao=>sRegion (sN S fun a S=>?_)))
   refine lT (ao _ _ ?_)
   obtain rfl:=tS h
   exact wp_ret (rThen (sRet (iv 8) S (rsl1 d (rvT (t:=2) (v:=iv 8) S d)) ⟨(),d,S.mem.sel [] [] (by decide) d d⟩))
  refine sCondF S d ai (wp_skip (leafT (al _ _ ?_)))
  refine sSeq (fun aQ ap=>sRegion (sN S fun a S=>?_))
  refine lT (ap _ _ ?_)
  obtain rfl:=tS h
  exact wp_ret (sRet (iv 0) S (rsl1 d (rvT (t:=2) (v:=iv 0) S d)) ⟨(),d,S.mem.sel [] [] (by decide) d d⟩)
 obtain ⟨ab,aj,h⟩:=bS h
 rcases iS h with ⟨a6,h⟩ | ⟨a6,h⟩
 ·refine sDraw (nf:=[]) (W:=[(0,3,.pointer (some ⟨aa,0,none⟩)),(1,4,.slice a7 p0.Left.length a8),(2,5,.bool ab),(3,6,.bool (!ab)),(4,7,.bool (!ab)),(5,8,undef),(6,9,undef),(7,10,undef),(8,11,undef),(9,12,.bool true),(10,13,.bool true),(11,14,undef),(12,15,undef),(13,16,undef),(14,17,undef),(15,18,undef),(16,19,undef),(17,20,undef),(18,21,undef),(19,22,undef),(20,23,undef),(21,24,undef),(22,25,undef),(23,26,undef),(24,27,undef),(25,28,undef),(26,29,undef),(27,30,undef),(28,31,undef),(29,32,undef),(30,33,.bool true)]) d S ?_
  refine node_by (A:=anc_piece_shape_0) 31 (by kernel_rfl) (by kernel_rfl) (by kernel_rfl) (by kernel_rfl) (by kernel_rfl) [0,1,2,3,4,5,6,7,8,9,10,11,12,13,14,15,16,17,18,19,20,21,22,23,24,25,26,27,28,29,30] (by kernel_rfl) (by decide) (by decide) (fF ?_ (fF ?_ (fF ?_ (fF ?_ (fF ?_ (fF ?_ (fF ?_ (fF ?_ (fF ?_ (fF ?_ (fF ?_ (fF ?_ (fF ?_ (fF ?_ (fF ?_ (fF ?_ (fF ?_ (fF ?_ (fF ?_ (fF ?_ (fF ?_ (fF ?_ (fF ?_ (fF ?_ (fF ?_ (fF ?_ (fF ?_ (fF ?_ (fF ?_ (fF ?_ (fF ?_ (trivial)))))))))))))))))))))))))))))))) [(33,.bool true)] (fin_of [some 30] d (by kernel_rfl) (by kernel_rfl)) (fun _ a w S=>?_)
  ·refine fJ [(1,_)] 0 [none] fun G a w S=>?_
   exact sField (b:=aa) (off:=0) 0 0 S (wN d) d d d d d (lb d) fun a S=>leafL ⟨d,S⟩
  ·refine fJ [(3,_)] 1 [some 0] fun G a w S=>?_
   exact sLoad1 0 (.slice a7 p0.Left.length a8) S (wN d) d d d d d d (lb d) fun a S=>leafL ⟨d,S⟩
  ·refine fJ [(4,_)] 2 [some 1] fun G a w S=>?_
   have S1:=S.mem
   refine sCq [.slice a7 p0.Left.length a8] (.bool ab) S callee49 (S1.quiet [1] d) (fun E1 w1 S1=>c_piece_side E1 w1 p0.Left (.slice a7 p0.Left.length a8) ab aj S1) fun a w S=>?_
   exact leafL ⟨d,S⟩
  ·refine fJ [(5,_)] 3 [some 2] fun G a w S=>?_
   exact sNot (b:=ab) S (wN d) d d d (lb d) fun a S=>leafL ⟨d,S⟩
  ·exact fM 4 (some 3) d d d d (.inl d) d d d
  ·refine fJ [(1,_),(7,_)] 5 [none,some 4] fun G a w S=>?_
   exact sSk S d d d a6 d d fun a S=>leafL ⟨d,S⟩
  ·refine fJ [(8,_),(7,_)] 6 [some 5,some 4] fun G a w S=>?_
   exact sSk S d d d a6 d d fun a S=>leafL ⟨d,S⟩
  ·refine fJ [(9,_),(7,_)] 7 [some 6,some 4] fun G a w S=>?_
   exact sSk S d d d a6 d d fun a S=>leafL ⟨d,S⟩
  ·refine fJ [(10,_),(7,_)] 8 [some 7,some 4] fun G a w S=>?_
   exact sSk S d d d a6 d d fun a S=>leafL ⟨d,S⟩
  ·refine fJ [(7,_),(11,_)] 9 [some 4,some 8] fun G a w S=>?_
   exact sPickT (.bool true) S (wN d) d d a6 d d (lb d) fun a S=>leafL ⟨d,S⟩
  ·exact fM 10 (some 9) d d d d (.inl d) d d d
  ·refine fJ [(1,_),(13,_)] 11 [none,some 10] fun G a w S=>?_
   exact sSk S d d d d d d fun a S=>leafL ⟨d,S⟩
  ·refine fJ [(14,_),(13,_)] 12 [some 11,some 10] fun G a w S=>?_
   exact sSk S d d d d d d fun a S=>leafL ⟨d,S⟩
  ·refine fJ [(1,_),(13,_)] 13 [none,some 10] fun G a w S=>?_
   exact sSk S d d d d d d fun a S=>leafL ⟨d,S⟩
  ·refine fJ [(16,_),(13,_)] 14 [some 13,some 10] fun G a w S=>?_
   exact sSk S d d d d d d fun a S=>leafL ⟨d,S⟩
  ·refine fJ [(17,_),(13,_)] 15 [some 14,some 10] fun G a w S=>?_
   exact sSk S d d d d d d fun a S=>leafL ⟨d,S⟩
  ·refine fJ [(18,_),(13,_)] 16 [some 15,some 10] fun G a w S=>?_
   exact sSk S d d d d d d fun a S=>leafL ⟨d,S⟩
  ·refine fJ [(15,_),(19,_),(13,_)] 17 [some 12,some 16,some 10] fun G a w S=>?_
   exact sSk S d d d d d d fun a S=>leafL ⟨d,S⟩
  ·refine fJ [(20,_),(13,_)] 18 [some 17,some 10] fun G a w S=>?_
   exact sSk S d d d d d d fun a S=>leafL ⟨d,S⟩
  ·refine fJ [(21,_),(13,_)] 19 [some 18,some 10] fun G a w S=>?_
   exact sSk S d d d d d d fun a S=>leafL ⟨d,S⟩
  ·refine fJ [(1,_),(13,_)] 20 [none,some 10] fun G a w S=>?_
   exact sSk S d d d d d d fun a S=>leafL ⟨d,S⟩
  ·refine fJ [(23,_),(13,_)] 21 [some 20,some 10] fun G a w S=>?_
   exact sSk S d d d d d d fun a S=>leafL ⟨d,S⟩
  ·refine fJ [(1,_),(13,_)] 22 [none,some 10] fun G a w S=>?_
   exact sSk S d d d d d d fun a S=>leafL ⟨d,S⟩
  ·refine fJ [(25,_),(13,_)] 23 [some 22,some 10] fun G a w S=>?_
   exact sSk S d d d d d d fun a S=>leafL ⟨d,S⟩
  ·refine fJ [(26,_),(13,_)] 24 [some 23,some 10] fun G a w S=>?_
   exact sSk S d d d d d d fun a S=>leafL ⟨d,S⟩
  ·refine fJ [(27,_),(13,_)] 25 [some 24,some 10] fun G a w S=>?_
   exact sSk S d d d d d d fun a S=>leafL ⟨d,S⟩
  ·refine fJ [(24,_),(28,_),(13,_)] 26 [some 21,some 25,some 10] fun G a w S=>?_
   exact sSk S d d d d d d fun a S=>leafL ⟨d,S⟩
  ·refine fJ [(29,_),(13,_)] 27 [some 26,some 10] fun G a w S=>?_
   exact sSk S d d d d d d fun a S=>leafL ⟨d,S⟩
  ·refine fJ [(30,_),(13,_)] 28 [some 27,some 10] fun G a w S=>?_
   exact sSk S d d d d d d fun a S=>leafL ⟨d,S⟩
  ·refine fJ [(22,_),(31,_),(13,_)] 29 [some 19,some 28,some 10] fun G a w S=>?_
   exact sSk S d d d d d d fun a S=>leafL ⟨d,S⟩
  ·refine fJ [(13,_),(32,_)] 30 [some 10,some 29] fun G a w S=>?_
   exact sPickT (.bool true) S (wN d) d d d d d (lb d) fun a S=>leafL ⟨d,S⟩
  exact leafT (⟨true,Option.some.inj h,S.fix [] [] (by decide) d d d⟩)
 obtain ⟨af,ak,h⟩:=bS h
 rcases iS h with ⟨a2,h⟩ | ⟨a2,h⟩
 ·refine sDraw (nf:=[]) (W:=[(0,3,.pointer (some ⟨aa,0,none⟩)),(1,4,.slice a7 p0.Left.length a8),(2,5,.bool ab),(3,6,.bool (!ab)),(4,7,.bool (!ab)),(5,8,.pointer (some ⟨aa,1,none⟩)),(6,9,.slice ac p0.Right.length ae),(7,10,.bool af),(8,11,.bool (!af)),(9,12,.bool (!af)),(10,13,.bool (!af)),(11,14,undef),(12,15,undef),(13,16,undef),(14,17,undef),(15,18,undef),(16,19,undef),(17,20,undef),(18,21,undef),(19,22,undef),(20,23,undef),(21,24,undef),(22,25,undef),(23,26,undef),(24,27,undef),(25,28,undef),(26,29,undef),(27,30,undef),(28,31,undef),(29,32,undef),(30,33,.bool true)]) d S ?_
  refine node_by (A:=anc_piece_shape_0) 31 (by kernel_rfl) (by kernel_rfl) (by kernel_rfl) (by kernel_rfl) (by kernel_rfl) [0,1,2,3,4,5,6,7,8,9,10,11,12,13,14,15,16,17,18,19,20,21,22,23,24,25,26,27,28,29,30] (by kernel_rfl) (by decide) (by decide) (fF ?_ (fF ?_ (fF ?_ (fF ?_ (fF ?_ (fF ?_ (fF ?_ (fF ?_ (fF ?_ (fF ?_ (fF ?_ (fF ?_ (fF ?_ (fF ?_ (fF ?_ (fF ?_ (fF ?_ (fF ?_ (fF ?_ (fF ?_ (fF ?_ (fF ?_ (fF ?_ (fF ?_ (fF ?_ (fF ?_ (fF ?_ (fF ?_ (fF ?_ (fF ?_ (fF ?_ (trivial)))))))))))))))))))))))))))))))) [(33,.bool true)] (fin_of [some 30] d (by kernel_rfl) (by kernel_rfl)) (fun _ a w S=>?_)
  ·refine fJ [(1,_)] 0 [none] fun G a w S=>?_
   exact sField (b:=aa) (off:=0) 0 0 S (wN d) d d d d d (lb d) fun a S=>leafL ⟨d,S⟩
  ·refine fJ [(3,_)] 1 [some 0] fun G a w S=>?_
   exact sLoad1 0 (.slice a7 p0.Left.length a8) S (wN d) d d d d d d (lb d) fun a S=>leafL ⟨d,S⟩
  ·refine fJ [(4,_)] 2 [some 1] fun G a w S=>?_
   have S1:=S.mem
   refine sCq [.slice a7 p0.Left.length a8] (.bool ab) S callee49 (S1.quiet [1] d) (fun E1 w1 S1=>c_piece_side E1 w1 p0.Left (.slice a7 p0.Left.length a8) ab aj S1) fun a w S=>?_
   exact leafL ⟨d,S⟩
  ·refine fJ [(5,_)] 3 [some 2] fun G a w S=>?_
   exact sNot (b:=ab) S (wN d) d d d (lb d) fun a S=>leafL ⟨d,S⟩
  ·exact fM 4 (some 3) d d d d (.inl d) d d d
  ·refine fJ [(1,_),(7,_)] 5 [none,some 4] fun G a w S=>?_
   exact sField (b:=aa) (off:=0) 1 1 S (wG 4 false 7 d d d a6) d d d d d (lb d) fun a S=>leafL ⟨d,S⟩
  ·refine fJ [(8,_),(7,_)] 6 [some 5,some 4] fun G a w S=>?_
   exact sLoad1 0 (.slice ac p0.Right.length ae) S (wG 4 false 7 d d d a6) d d d d d d (lb d) fun a S=>leafL ⟨d,S⟩
  ·refine fJ [(9,_),(7,_)] 7 [some 6,some 4] fun G a w S=>?_
   have S1:=S.mem
   refine sCallQ (X:=Unit) (f:=49) (vs:=[.slice ac p0.Right.length ae]) (val:=fun _=>.bool af) S (wG 4 false 7 d d d a6) d callee49 d (S1.quiet [0] d) (fun E1 w1 S1=>c_piece_side E1 w1 p0.Right (.slice ac p0.Right.length ae) af ak S1) d (lb d) fun _ a w S=>?_
   exact leafL ⟨d,S⟩
  ·refine fJ [(10,_),(7,_)] 8 [some 7,some 4] fun G a w S=>?_
   exact sNot (b:=af) S (wG 4 false 7 d d d a6) d d d (lb d) fun a S=>leafL ⟨d,S⟩
  ·refine fJ [(7,_),(11,_)] 9 [some 4,some 8] fun G a w S=>?_
   exact sPickF (.bool (!af)) S (wN d) d d a6 d d (lb d) fun a S=>leafL ⟨d,S⟩
  ·exact fM 10 (some 9) d d d d (.inl d) d d d
  ·refine fJ [(1,_),(13,_)] 11 [none,some 10] fun G a w S=>?_
   exact sSk S d d d a2 d d fun a S=>leafL ⟨d,S⟩
  ·refine fJ [(14,_),(13,_)] 12 [some 11,some 10] fun G a w S=>?_
   exact sSk S d d d a2 d d fun a S=>leafL ⟨d,S⟩
  ·refine fJ [(1,_),(13,_)] 13 [none,some 10] fun G a w S=>?_
   exact sSk S d d d a2 d d fun a S=>leafL ⟨d,S⟩
  ·refine fJ [(16,_),(13,_)] 14 [some 13,some 10] fun G a w S=>?_
   exact sSk S d d d a2 d d fun a S=>leafL ⟨d,S⟩
  ·refine fJ [(17,_),(13,_)] 15 [some 14,some 10] fun G a w S=>?_
   exact sSk S d d d a2 d d fun a S=>leafL ⟨d,S⟩
  ·refine fJ [(18,_),(13,_)] 16 [some 15,some 10] fun G a w S=>?_
   exact sSk S d d d a2 d d fun a S=>leafL ⟨d,S⟩
  ·refine fJ [(15,_),(19,_),(13,_)] 17 [some 12,some 16,some 10] fun G a w S=>?_
   exact sSk S d d d a2 d d fun a S=>leafL ⟨d,S⟩
  ·refine fJ [(20,_),(13,_)] 18 [some 17,some 10] fun G a w S=>?_
   exact sSk S d d d a2 d d fun a S=>leafL ⟨d,S⟩
  ·refine fJ [(21,_),(13,_)] 19 [some 18,some 10] fun G a w S=>?_
   exact sSk S d d d a2 d d fun a S=>leafL ⟨d,S⟩
  ·refine fJ [(1,_),(13,_)] 20 [none,some 10] fun G a w S=>?_
   exact sSk S d d d a2 d d fun a S=>leafL ⟨d,S⟩
  ·refine fJ [(23,_),(13,_)] 21 [some 20,some 10] fun G a w S=>?_
   exact sSk S d d d a2 d d fun a S=>leafL ⟨d,S⟩
  ·refine fJ [(1,_),(13,_)] 22 [none,some 10] fun G a w S=>?_
   exact sSk S d d d a2 d d fun a S=>leafL ⟨d,S⟩
  ·refine fJ [(25,_),(13,_)] 23 [some 22,some 10] fun G a w S=>?_
   exact sSk S d d d a2 d d fun a S=>leafL ⟨d,S⟩
  ·refine fJ [(26,_),(13,_)] 24 [some 23,some 10] fun G a w S=>?_
   exact sSk S d d d a2 d d fun a S=>leafL ⟨d,S⟩
  ·refine fJ [(27,_),(13,_)] 25 [some 24,some 10] fun G a w S=>?_
   exact sSk S d d d a2 d d fun a S=>leafL ⟨d,S⟩
  ·refine fJ [(24,_),(28,_),(13,_)] 26 [some 21,some 25,some 10] fun G a w S=>?_
   exact sSk S d d d a2 d d fun a S=>leafL ⟨d,S⟩
  ·refine fJ [(29,_),(13,_)] 27 [some 26,some 10] fun G a w S=>?_
   exact sSk S d d d a2 d d fun a S=>leafL ⟨d,S⟩
  ·refine fJ [(30,_),(13,_)] 28 [some 27,some 10] fun G a w S=>?_
   exact sSk S d d d a2 d d fun a S=>leafL ⟨d,S⟩
  ·refine fJ [(22,_),(31,_),(13,_)] 29 [some 19,some 28,some 10] fun G a w S=>?_
   exact sSk S d d d a2 d d fun a S=>leafL ⟨d,S⟩
  ·refine fJ [(13,_),(32,_)] 30 [some 10,some 29] fun G a w S=>?_
   exact sPickT (.bool true) S (wN d) d d a2 d d (lb d) fun a S=>leafL ⟨d,S⟩
  exact leafT (⟨true,Option.some.inj h,S.fix [] [] (by decide) d d d⟩)
 obtain ⟨ag,aq,h⟩:=bS h
 obtain ⟨ah,ar,h⟩:=bS h
 obtain ⟨au,av,S⟩:=pIdx (P:=Tryd.prog) (r:=r_api_Point) (v:=.slice a7 p0.Left.length a8) (xs:=p0.Left) (j:=w64 ((p0.Left.length:Int) - 1)) 22 35 1 S Tryd.underlying22 d d aq
 obtain ⟨aw,ax,S⟩:=pFld (P:=Tryd.prog) (r:=r_api_Point) (s2:=(rI .i64)) (g:=(·.Y)) (q:=au) (z:=ag) 35 1 0 1 S d d comp_api_Point_Y
 obtain ⟨aI,S⟩:=pLoad (r:=(rI .i64)) (q:=aw) (x:=ag.Y) 0 S d
 obtain rfl:aI=iv ag.Y:=S.mem.know (i:=1) (e:=fRep (rI .i64) (aI) ag.Y) d
 obtain ⟨ay,az,S⟩:=pIdx (P:=Tryd.prog) (r:=r_api_Point) (v:=.slice ac p0.Right.length ae) (xs:=p0.Right) (j:=w64 ((p0.Right.length:Int) - 1)) 22 35 4 S Tryd.underlying22 d d ar
 obtain ⟨aA,aC,S⟩:=pFld (P:=Tryd.prog) (r:=r_api_Point) (s2:=(rI .i64)) (g:=(·.Y)) (q:=ay) (z:=ah) 35 1 0 1 S d d comp_api_Point_Y
 obtain ⟨aJ,S⟩:=pLoad (r:=(rI .i64)) (q:=aA) (x:=ah.Y) 0 S d
 obtain rfl:aJ=iv ah.Y:=S.mem.know (i:=1) (e:=fRep (rI .i64) (aJ) ah.Y) d
 refine sDraw (nf:=[]) (W:=[(0,3,.pointer (some ⟨aa,0,none⟩)),(1,4,.slice a7 p0.Left.length a8),(2,5,.bool ab),(3,6,.bool (!ab)),(4,7,.bool (!ab)),(5,8,.pointer (some ⟨aa,1,none⟩)),(6,9,.slice ac p0.Right.length ae),(7,10,.bool af),(8,11,.bool (!af)),(9,12,.bool (!af)),(10,13,.bool (!af)),(11,14,.pointer (some ⟨aa,0,none⟩)),(12,15,.slice a7 p0.Left.length a8),(13,16,.pointer (some ⟨aa,0,none⟩)),(14,17,.slice a7 p0.Left.length a8),(15,18,iv (p0.Left.length:Int)),(16,19,iv (w64 ((p0.Left.length:Int) - 1))),(17,20,au),(18,21,aw),(19,22,iv ag.Y),(20,23,.pointer (some ⟨aa,1,none⟩)),(21,24,.slice ac p0.Right.length ae),(22,25,.pointer (some ⟨aa,1,none⟩)),(23,26,.slice ac p0.Right.length ae),(24,27,iv (p0.Right.length:Int)),(25,28,iv (w64 ((p0.Right.length:Int) - 1))),(26,29,ay),(27,30,aA),(28,31,iv ah.Y),(29,32,.bool (ag.Y != ah.Y)),(30,33,.bool (ag.Y != ah.Y))]) d S ?_
 refine node_by (A:=anc_piece_shape_0) 31 (by kernel_rfl) (by kernel_rfl) (by kernel_rfl) (by kernel_rfl) (by kernel_rfl) [0,1,2,3,4,5,6,7,8,9,10,11,12,13,14,15,16,17,18,19,20,21,22,23,24,25,26,27,28,29,30] (by kernel_rfl) (by decide) (by decide) (fF ?_ (fF ?_ (fF ?_ (fF ?_ (fF ?_ (fF ?_ (fF ?_ (fF ?_ (fF ?_ (fF ?_ (fF ?_ (fF ?_ (fF ?_ (fF ?_ (fF ?_ (fF ?_ (fF ?_ (fF ?_ (fF ?_ (fF ?_ (fF ?_ (fF ?_ (fF ?_ (fF ?_ (fF ?_ (fF ?_ (fF ?_ (fF ?_ (fF ?_ (fF ?_ (fF ?_ (trivial)))))))))))))))))))))))))))))))) [(33,.bool (ag.Y != ah.Y))] (fin_of [some 30] d (by kernel_rfl) (by kernel_rfl)) (fun _ a w S=>?_)
 ·refine fJ [(1,_)] 0 [none] fun G a w S=>?_
  exact sField (b:=aa) (off:=0) 0 0 S (wN d) d d d d d (lb d) fun a S=>leafL ⟨d,S⟩
 ·refine fJ [(3,_)] 1 [some 0] fun G a w S=>?_
  exact sLoad1 0 (.slice a7 p0.Left.length a8) S (wN d) d d d d d d (lb d) fun a S=>leafL ⟨d,S⟩
 ·refine fJ [(4,_)] 2 [some 1] fun G a w S=>?_
  have S1:=S.mem
  refine sCq [.slice a7 p0.Left.length a8] (.bool ab) S callee49 (S1.quiet [9] d) (fun E1 w1 S1=>c_piece_side E1 w1 p0.Left (.slice a7 p0.Left.length a8) ab aj S1) fun a w S=>?_
  exact leafL ⟨d,S⟩
 ·refine fJ [(5,_)] 3 [some 2] fun G a w S=>?_
  exact sNot (b:=ab) S (wN d) d d d (lb d) fun a S=>leafL ⟨d,S⟩
 ·exact fM 4 (some 3) d d d d (.inl d) d d d
 ·refine fJ [(1,_),(7,_)] 5 [none,some 4] fun G a w S=>?_
  exact sField (b:=aa) (off:=0) 1 1 S (wG 4 false 7 d d d a6) d d d d d (lb d) fun a S=>leafL ⟨d,S⟩
 ·refine fJ [(8,_),(7,_)] 6 [some 5,some 4] fun G a w S=>?_
  exact sLoad1 0 (.slice ac p0.Right.length ae) S (wG 4 false 7 d d d a6) d d d d d d (lb d) fun a S=>leafL ⟨d,S⟩
 ·refine fJ [(9,_),(7,_)] 7 [some 6,some 4] fun G a w S=>?_
  have S1:=S.mem
  refine sCallQ (X:=Unit) (f:=49) (vs:=[.slice ac p0.Right.length ae]) (val:=fun _=>.bool af) S (wG 4 false 7 d d d a6) d callee49 d (S1.quiet [8] d) (fun E1 w1 S1=>c_piece_side E1 w1 p0.Right (.slice ac p0.Right.length ae) af ak S1) d (lb d) fun _ a w S=>?_
  exact leafL ⟨d,S⟩
 ·refine fJ [(10,_),(7,_)] 8 [some 7,some 4] fun G a w S=>?_
  exact sNot (b:=af) S (wG 4 false 7 d d d a6) d d d (lb d) fun a S=>leafL ⟨d,S⟩
 ·refine fJ [(7,_),(11,_)] 9 [some 4,some 8] fun G a w S=>?_
  exact sPickF (.bool (!af)) S (wN d) d d a6 d d (lb d) fun a S=>leafL ⟨d,S⟩
 ·exact fM 10 (some 9) d d d d (.inl d) d d d
 ·refine fJ [(1,_),(13,_)] 11 [none,some 10] fun G a w S=>?_
  exact sField (b:=aa) (off:=0) 0 0 S (wG 10 false 13 d d d a2) d d d d d (lb d) fun a S=>leafL ⟨d,S⟩
 ·refine fJ [(14,_),(13,_)] 12 [some 11,some 10] fun G a w S=>?_
  exact sLoad1 0 (.slice a7 p0.Left.length a8) S (wG 10 false 13 d d d a2) d d d d d d (lb d) fun a S=>leafL ⟨d,S⟩
 ·refine fJ [(1,_),(13,_)] 13 [none,some 10] fun G a w S=>?_
  exact sField (b:=aa) (off:=0) 0 0 S (wG 10 false 13 d d d a2) d d d d d (lb d) fun a S=>leafL ⟨d,S⟩
 ·refine fJ [(16,_),(13,_)] 14 [some 13,some 10] fun G a w S=>?_
  exact sLoad1 0 (.slice a7 p0.Left.length a8) S (wG 10 false 13 d d d a2) d d d d d d (lb d) fun a S=>leafL ⟨d,S⟩
 ·refine fJ [(17,_),(13,_)] 15 [some 14,some 10] fun G a w S=>?_
  exact sLen S (wG 10 false 13 d d d a2) d Tryd.underlying22 d d (lb d) fun a S=>leafL ⟨d,S⟩
 ·refine fJ [(18,_),(13,_)] 16 [some 15,some 10] fun G a w S=>?_
  exact sBin _ S (wG 10 false 13 d d d a2) d d d (bSub _ _ _ _ (p0.Left.length:Int) 1) d (lb d) fun a S=>leafL ⟨d,S⟩
 ·refine fJ [(15,_),(19,_),(13,_)] 17 [some 12,some 16,some 10] fun G a w S=>?_
  exact sIdxV S (wG 10 false 13 d d d a2) d d d av d (lb d) fun a S=>leafL ⟨d,S⟩
 ·refine fJ [(20,_),(13,_)] 18 [some 17,some 10] fun G a w S=>?_
  exact sFldV (q:=au) S (wG 10 false 13 d d d a2) d d ax d (lb d) fun a S=>leafL ⟨d,S⟩
 ·refine fJ [(21,_),(13,_)] 19 [some 18,some 10] fun G a w S=>?_
  exact sLoadV1 (vq:=aw) 4 (iv ag.Y) S (wG 10 false 13 d d d a2) d d d d d (lb d) fun a S=>leafL ⟨d,S⟩
 ·refine fJ [(1,_),(13,_)] 20 [none,some 10] fun G a w S=>?_
  exact sField (b:=aa) (off:=0) 1 1 S (wG 10 false 13 d d d a2) d d d d d (lb d) fun a S=>leafL ⟨d,S⟩
 ·refine fJ [(23,_),(13,_)] 21 [some 20,some 10] fun G a w S=>?_
  exact sLoad1 0 (.slice ac p0.Right.length ae) S (wG 10 false 13 d d d a2) d d d d d d (lb d) fun a S=>leafL ⟨d,S⟩
 ·refine fJ [(1,_),(13,_)] 22 [none,some 10] fun G a w S=>?_
  exact sField (b:=aa) (off:=0) 1 1 S (wG 10 false 13 d d d a2) d d d d d (lb d) fun a S=>leafL ⟨d,S⟩
 ·refine fJ [(25,_),(13,_)] 23 [some 22,some 10] fun G a w S=>?_
  exact sLoad1 0 (.slice ac p0.Right.length ae) S (wG 10 false 13 d d d a2) d d d d d d (lb d) fun a S=>leafL ⟨d,S⟩
 ·refine fJ [(26,_),(13,_)] 24 [some 23,some 10] fun G a w S=>?_
  exact sLen S (wG 10 false 13 d d d a2) d Tryd.underlying22 d d (lb d) fun a S=>leafL ⟨d,S⟩
 ·refine fJ [(27,_),(13,_)] 25 [some 24,some 10] fun G a w S=>?_
  exact sBin _ S (wG 10 false 13 d d d a2) d d d (bSub _ _ _ _ (p0.Right.length:Int) 1) d (lb d) fun a S=>leafL ⟨d,S⟩
 ·refine fJ [(24,_),(28,_),(13,_)] 26 [some 21,some 25,some 10] fun G a w S=>?_
  exact sIdxV S (wG 10 false 13 d d d a2) d d d az d (lb d) fun a S=>leafL ⟨d,S⟩
 ·refine fJ [(29,_),(13,_)] 27 [some 26,some 10] fun G a w S=>?_
  exact sFldV (q:=ay) S (wG 10 false 13 d d d a2) d d aC d (lb d) fun a S=>leafL ⟨d,S⟩
 ·refine fJ [(30,_),(13,_)] 28 [some 27,some 10] fun G a w S=>?_
  exact sLoadV1 (vq:=aA) 0 (iv ah.Y) S (wG 10 false 13 d d d a2) d d d d d (lb d) fun a S=>leafL ⟨d,S⟩
 ·refine fJ [(22,_),(31,_),(13,_)] 29 [some 19,some 28,some 10] fun G a w S=>?_
  exact sBin _ S (wG 10 false 13 d d d a2) d d d (bNe _ _ _ _ .i64 ag.Y ah.Y) d (lb d) fun a S=>leafL ⟨d,S⟩
 ·refine fJ [(13,_),(32,_)] 30 [some 10,some 29] fun G a w S=>?_
  exact sPickF (.bool (ag.Y != ah.Y)) S (wN d) d d a2 d d (lb d) fun a S=>leafL ⟨d,S⟩
 exact leafT (⟨ag.Y != ah.Y,Option.some.inj h,S.fix [] [] (by decide) d d d⟩)
noncomputable def F_slope_within (p0:Int) (p1:Int) (p2:Int):Option Bool:=
 Option.bind (α:=Bool) (
  if decide (p1 ≤ p0) then
   some (decide (p0 ≤ p2))
  else
   some false) fun o2=>
 some o2
theorem c_slope_within (E:Nat→Prop) (w0:World) (p0:Int) (p1:Int) (p2:Int) (r:Bool) (h:F_slope_within p0 p1 p2=some r) (S:St0 E [] w0 w0 [] []) :
 Calls Tryd.prog 75 #[iv p0,iv p1,iv p2] w0 (Ret (X:=Unit) E [] w0 (fun _=>.bool r) (fun _=>[]) (fun _=>[])):=by
 unfold F_slope_within at h
 refine sEnter (args:=[iv p0,iv p1,iv p2]) 15 Tryd.func75 d d (by simp) S (fun a S=>?_)
 refine sSeq (fun K1 a6=>sRegion (sN S fun a S=>?_))
 refine lT (a6 _ _ ?_)
 obtain ⟨t3,h,g4⟩:=bS h
 refine sCut (fun a w=>∃ o2,o2=t3∧St [] E [] w0 15 a w [(6,.bool o2)] [] []) ?_ (fun a w hI=>?_)
 rotate_left
 ·obtain ⟨o2,rfl,S⟩:=hI
  have h:=g4
  try dsimp only at h
  obtain rfl:=tS h
  exact wp_ret (sRet (.bool o2) S (rsl1 d (rvT (t:=6) (v:=.bool o2) S d)) ⟨(),d,S.mem.sel [] [] (by decide) d d⟩)
 refine sRegion (sM S fun a S=>?_)
 refine sM S fun a S=>?_
 refine sBin _ S (wN d) d d d (bGe _ _ _ _ .i64 p0 p1) d (lb d) fun a S=>sM S fun a S=>?_
 rcases iS h with ⟨a2,h⟩ | ⟨a2,h⟩
 rotate_left
 ·refine sSkN 3 3 true 10 S d d a2 d fun a S=>sPickF (.bool false) S (wN d) d d a2 d d (lb d) fun a S=>sN S fun a S=>?_
  exact lT (⟨false,Option.some.inj h,S.fix [] [] (by decide) d d d⟩)
 refine sMove (iv p0) S (wG 3 true 10 d d d a2) (.inl d) d d (lb d) fun a S=>sMove (iv p2) S (wG 3 true 10 d d d a2) (.inl d) d d (lb d) fun a S=>sBin _ S (wG 3 true 10 d d d a2) d d d (bLe _ _ _ _ .i64 p0 p2) d (lb d) fun a S=>sPickT (.bool (decide (p0 ≤ p2))) S (wN d) d d a2 d d (lb d) fun a S=>sN S fun a S=>?_
 exact lT (⟨decide (p0 ≤ p2),Option.some.inj h,S.fix [] [] (by decide) d d d⟩)
noncomputable def F_slope_check (p0:Int) (p1:Int) (p2:Int):Option Int:=
 Option.bind (α:=Bool) (
  (F_slope_within p0 (-1000) 1000).bind fun r6=>
  if !r6 then
   some true
  else
   (F_slope_within p1 (-1000) 1000).bind fun r9=>
   if !r9 then
    some true
   else
    (F_slope_within p2 1 1000).bind fun a2=>
    some (!a2)) fun o3=>
 if o3 then
  some 2
 else
  some 0
theorem c_slope_check (E:Nat→Prop) (w0:World) (p0:Int) (p1:Int) (p2:Int) (r:Int) (h:F_slope_check p0 p1 p2=some r) (S:St0 E [] w0 w0 [] []) :
 Calls Tryd.prog 63 #[iv p0,iv p1,iv p2] w0 (Ret (X:=Unit) E [] w0 (fun _=>.int .i64 r) (fun _=>[]) (fun _=>[])):=by
 unfold F_slope_check at h
 refine sEnter (args:=[iv p0,iv p1,iv p2]) 20 Tryd.func63 d d (by simp) S (fun a S=>?_)
 refine sSeq (fun K1 af=>sRegion (sN S fun a S=>?_))
 refine lT (af _ _ (sSeq (fun K2 ag=>?_)))
 obtain ⟨t4,h,g5⟩:=bS h
 refine sCut (fun a w=>∃ o3,o3=t4∧St [] E [] w0 20 a w [(19,.bool o3)] [] []) ?_ (fun a w hI=>?_)
 rotate_left
 ·obtain ⟨o3,rfl,S⟩:=hI
  have h:=g5
  try dsimp only at h
  rcases iS h with ⟨a6,h⟩ | ⟨a6,h⟩
  ·refine sCondT S d a6 (sSeq (fun ai aa=>sRegion (sN S fun a S=>?_)))
   refine lT (aa _ _ ?_)
   obtain rfl:=tS h
   exact wp_ret (rThen (sRet (iv 2) S (rsl1 d (rvT (t:=6) (v:=iv 2) S d)) ⟨(),d,S.mem.sel [] [] (by decide) d d⟩))
  refine sCondF S d a6 (wp_skip (leafT (ag _ _ ?_)))
  refine sSeq (fun aj ab=>sRegion (sN S fun a S=>?_))
  refine lT (ab _ _ ?_)
  obtain rfl:=tS h
  exact wp_ret (sRet (iv 0) S (rsl1 d (rvT (t:=6) (v:=iv 0) S d)) ⟨(),d,S.mem.sel [] [] (by decide) d d⟩)
 refine sRegion (sM S fun a S=>?_)
 obtain ⟨r6,ah,h⟩:=bS h
 have S1:=S.mem
 refine sCq [iv p0,iv (-1000),iv 1000] (.bool r6) S callee75 (S1.quiet [] d) (fun E1 w1 S1=>c_slope_within E1 w1 p0 (-1000) 1000 r6 ah S1) fun a w S=>?_
 refine sNot (b:=r6) S (wN d) d d d (lb d) fun a S=>sM S fun a S=>?_
 rcases iS h with ⟨a7,h⟩ | ⟨a7,h⟩
 ·refine sSkN 3 3 false 10 S d d a7 d fun a S=>sPickT (.bool true) S (wN d) d d a7 d d (lb d) fun a S=>sM S fun a S=>?_
  refine sSkN 3 8 false 15 S d d d d fun a S=>sPickT (.bool true) S (wN d) d d d d d (lb d) fun a S=>?_
  exact lT (⟨true,Option.some.inj h,S.fix [] [] (by decide) d d d⟩)
 refine sMove (iv p1) S (wG 3 false 10 d d d a7) (.inl d) d d (lb d) fun a S=>?_
 obtain ⟨r9,ac,h⟩:=bS h
 have S1:=S.mem
 refine sCallQ (X:=Unit) (f:=75) (vs:=[iv p1,iv (-1000),iv 1000]) (val:=fun _=>.bool r9) S (wG 3 false 10 d d d a7) d callee75 d (S1.quiet [] d) (fun E1 w1 S1=>c_slope_within E1 w1 p1 (-1000) 1000 r9 ac S1) d (lb d) fun _ a w S=>?_
 refine sNot (b:=r9) S (wG 3 false 10 d d d a7) d d d (lb d) fun a S=>sPickF (.bool (!r9)) S (wN d) d d a7 d d (lb d) fun a S=>sM S fun a S=>?_
 rcases iS h with ⟨a2,h⟩ | ⟨a2,h⟩
 ·refine sSkN 3 8 false 15 S d d a2 d fun a S=>sPickT (.bool true) S (wN d) d d a2 d d (lb d) fun a S=>?_
  exact lT (⟨true,Option.some.inj h,S.fix [] [] (by decide) d d d⟩)
 refine sMove (iv p2) S (wG 8 false 15 d d d a2) (.inl d) d d (lb d) fun a S=>?_
 obtain ⟨a8,ae,h⟩:=bS h
 have S1:=S.mem
 refine sCallQ (X:=Unit) (f:=75) (vs:=[iv p2,iv 1,iv 1000]) (val:=fun _=>.bool a8) S (wG 8 false 15 d d d a2) d callee75 d (S1.quiet [] d) (fun E1 w1 S1=>c_slope_within E1 w1 p2 1 1000 a8 ae S1) d (lb d) fun _ a w S=>?_
 refine sNot (b:=a8) S (wG 8 false 15 d d d a2) d d d (lb d) fun a S=>sPickF (.bool (!a8)) S (wN d) d d a2 d d (lb d) fun a S=>?_
 exact lT (⟨!a8,Option.some.inj h,S.fix [] [] (by decide) d d d⟩)
noncomputable def F_slope_at (p0:Int) (p1:Int) (p2:Int) (p3:Int):Option Int:=
 (quoI (w64 ((w64 (2 * (w64 ((w64 ((w64 (p0 + 1000)) * (w64 (p2 - p3)))) + (w64 ((w64 (p1 + 1000)) * p3)))))) + p2)) (w64 (2 * p2))).bind fun z4=>
 some (w64 (z4 - 1000))
theorem c_slope_at (E:Nat→Prop) (w0:World) (p0:Int) (p1:Int) (p2:Int) (p3:Int) (r:Int) (h:F_slope_at p0 p1 p2 p3=some r) (S:St0 E [] w0 w0 [] []) :
 Calls Tryd.prog 66 #[iv p0,iv p1,iv p2,iv p3] w0 (Ret (X:=Unit) E [] w0 (fun _=>.int .i64 r) (fun _=>[]) (fun _=>[])):=by
 unfold F_slope_at at h
 refine sEnter (args:=[iv p0,iv p1,iv p2,iv p3]) 31 Tryd.func66 d d (by simp) S (fun a S=>?_)
 refine sSeq (fun K1 a2=>sRegion (sN S fun a S=>?_))
 refine lT (a2 _ _ (sSeq (fun K2 a6=>sRegion (sM S fun a S=>?_))))
 refine sBin _ S (wN d) d d d (bAdd _ _ _ _ p0 1000) d (lb d) fun a S=>sM S fun a S=>?_
 refine sBin _ S (wN d) d d d (bAdd _ _ _ _ p1 1000) d (lb d) fun a S=>sN S fun a S=>?_
 refine sN S fun a S=>?_
 refine lT (a6 _ _ (sSeq (fun K3 a7=>sRegion (sM S fun a S=>?_))))
 refine sM S fun a S=>?_
 refine sM S fun a S=>?_
 refine sBin _ S (wN d) d d d (bSub _ _ _ _ p2 p3) d (lb d) fun a S=>sBin _ S (wN d) d d d (bMul _ _ _ _ (w64 (p0 + 1000)) (w64 (p2 - p3))) d (lb d) fun a S=>sM S fun a S=>?_
 refine sM S fun a S=>?_
 refine sBin _ S (wN d) d d d (bMul _ _ _ _ (w64 (p1 + 1000)) p3) d (lb d) fun a S=>sBin _ S (wN d) d d d (bAdd _ _ _ _ (w64 ((w64 (p0 + 1000)) * (w64 (p2 - p3)))) (w64 ((w64 (p1 + 1000)) * p3))) d (lb d) fun a S=>sBin _ S (wN d) d d d (bMul _ _ _ _ 2 (w64 ((w64 ((w64 (p0 + 1000)) * (w64 (p2 - p3)))) + (w64 ((w64 (p1 + 1000)) * p3))))) d (lb d) fun a S=>sM S fun a S=>?_
 refine sBin _ S (wN d) d d d (bAdd _ _ _ _ (w64 (2 * (w64 ((w64 ((w64 (p0 + 1000)) * (w64 (p2 - p3)))) + (w64 ((w64 (p1 + 1000)) * p3)))))) p2) d (lb d) fun a S=>sM S fun a S=>?_
 refine sBin _ S (wN d) d d d (bMul _ _ _ _ 2 p2) d (lb d) fun a S=>?_
 obtain ⟨z4,a8,h⟩:=bS h
 refine sBin _ S (wN d) d d d (bQuo _ _ _ _ (x:=w64 ((w64 (2 * (w64 ((w64 ((w64 (p0 + 1000)) * (w64 (p2 - p3)))) + (w64 ((w64 (p1 + 1000)) * p3)))))) + p2)) (y:=w64 (2 * p2)) a8) d (lb d) fun a S=>sBin _ S (wN d) d d d (bSub _ _ _ _ z4 1000) d (lb d) fun a S=>sN S fun a S=>?_
 refine lT (a7 _ _ ?_)
 obtain rfl:=tS h
 exact wp_ret (sRet (iv (w64 (z4 - 1000))) S (rsl1 d (rvT (t:=8) (v:=iv (w64 (z4 - 1000))) S d)) ⟨(),d,S.mem.sel [] [] (by decide) d d⟩)
noncomputable def F_slope_Line_1_s0 (p0:Int) (p1:Int) (p2:Int) (p3:Int):Option Int:=
 (F_slope_at p1 p2 p3 p0).bind fun r6=>
 some r6
theorem c_slope_Line_1_s0 (E:Nat→Prop) (w0:World) (p0:Int) (p1:Int) (v1:Value) (p2:Int) (v2:Value) (p3:Int) (v3:Value) (r:Int) (h:F_slope_Line_1_s0 p0 p1 p2 p3=some r) (S:St0 E [] w0 w0 [] [fPtr (rI .i64) (v1) p1,fPtr (rI .i64) (v2) p2,fPtr (rI .i64) (v3) p3]) :
 Calls Tryd.prog 65 #[iv p0,v1,v2,v3] w0 (Ret (X:=Unit) E [] w0 (fun _=>.int .i64 r) (fun _=>[]) (fun _=>[])):=by
 unfold F_slope_Line_1_s0 at h
 refine sEnter (args:=[iv p0,v1,v2,v3]) 11 Tryd.func65 d d (by simp) S (fun a S=>?_)
 refine sSeq (fun K1 a2=>sRegion (sN S fun a S=>?_))
 refine lT (a2 _ _ (sSeq (fun K2 a6=>sRegion ?_)))
 obtain ⟨u3,S⟩:=pLoad (r:=(rI .i64)) (q:=v1) (x:=p1) 0 S d
 obtain rfl:u3=iv p1:=S.mem.know (i:=1) (e:=fRep (rI .i64) (u3) p1) d
 refine sLoadV1 (vq:=v1) 0 (iv p1) S (wN d) d d d d d (lb d) fun a S=>?_
 obtain ⟨u4,S⟩:=pLoad (r:=(rI .i64)) (q:=v2) (x:=p2) 3 S d
 obtain rfl:u4=iv p2:=S.mem.know (i:=1) (e:=fRep (rI .i64) (u4) p2) d
 refine sLoadV1 (vq:=v2) 0 (iv p2) S (wN d) d d d d d (lb d) fun a S=>?_
 obtain ⟨u5,S⟩:=pLoad (r:=(rI .i64)) (q:=v3) (x:=p3) 6 S d
 obtain rfl:u5=iv p3:=S.mem.know (i:=1) (e:=fRep (rI .i64) (u5) p3) d
 refine sLoadV1 (vq:=v3) 0 (iv p3) S (wN d) d d d d d (lb d) fun a S=>sM S fun a S=>?_
 obtain ⟨r6,a7,h⟩:=bS h
 have S1:=S.mem
 refine sCq [iv p1,iv p2,iv p3,iv p0] (iv r6) S callee66 (S1.quiet [] d) (fun E1 w1 S1=>c_slope_at E1 w1 p1 p2 p3 p0 r6 a7 S1) fun a w S=>?_
 refine sN S fun a S=>?_
 refine lT (a6 _ _ ?_)
 obtain rfl:=tS h
 exact wp_ret (sRet (iv r6) S (rsl1 d (rvT (t:=5) (v:=iv r6) S d)) ⟨(),d,S.mem.sel [] [] (by decide) d d⟩)
noncomputable def slope_list_int__s0_l1 (p0:Int) (p1:Int) (p2:Int) (p3:Int):(List Int × Int)→Option ((List Int × Int) ⊕ List Int):=fun s0=>match s0 with
 | (a6,a2)=>
  if decide (a2 < p0) then
   (F_slope_Line_1_s0 a2 p1 p2 p3).bind fun a7=>
   (idxO a6 a2).bind fun aa=>
   (setO a6 a2 a7).bind fun a8=>
   some (.inl (a8,w64 (a2 + 1)))
  else
   some (.inr a6)
noncomputable def F_slope_list_int__s0 (p0:Int) (p1:Int) (p2:Int) (p3:Int):Option (List Int):=
 (makeO p0 (0:Int)).bind fun m5=>
 Option.bind (α:=List Int) (
  (whileO (slope_list_int__s0_l1 p0 p1 p2 p3) (m5,0)).bind fun a2=>
   some a2) fun o7=>
 some o7
def c_slope_list_int__s0_val (r:(List Int)) (x:Value):Value:=x
def c_slope_list_int__s0_D (r:(List Int)) (x:Value):List Fact:=[fRep (rL (rI .i64)) x r]
theorem c_slope_list_int__s0 (E:Nat→Prop) (w0:World) (p0:Int) (p1:Int) (v1:Value) (p2:Int) (v2:Value) (p3:Int) (v3:Value) (r:(List Int)) (h:F_slope_list_int__s0 p0 p1 p2 p3=some r) (S:St0 E [] w0 w0 [] [fPtr (rI .i64) (v1) p1,fPtr (rI .i64) (v2) p2,fPtr (rI .i64) (v3) p3]) :
 Calls Tryd.prog 64 #[iv p0,.func (.func 65) #[] #[v1,v2,v3]] w0 (Ret (X:=Value) E [] w0 (c_slope_list_int__s0_val r) (fun _=>[]) (c_slope_list_int__s0_D r)):=by
 unfold F_slope_list_int__s0 at h
 refine sEnter (args:=[iv p0,.func (.func 65) #[] #[v1,v2,v3]]) 21 Tryd.func64 d d (by simp) S (fun a S=>?_)
 refine sSeq (fun K1 ar=>sRegion (sN S fun a S=>?_))
 refine lT (ar _ _ (sSeq (fun K2 au=>sRegion (sM S fun a S=>?_))))
 obtain ⟨m5,av,h⟩:=bS h
 refine sMake (r:=(rI .i64)) (m:=p0) (xs:=m5) (iv 0) (0:Int) 8 S (wN d) d Tryd.underlying28 d d (by decide) (fun _ _=>d) d d av d (lb d) fun a w a2 a6 S=>sN S fun a S=>?_
 refine lT (au _ _ ?_)
 obtain ⟨t8,h,g9⟩:=bS h
 refine sCut (fun a w=>∃ o7,o7=t8∧St [] E [] w0 21 a w [(5,.slice a2 o7.length a6)] [eRow (rI .i64) 3 (.slice a2 o7.length a6) o7] []) ?_ (fun a w hI=>?_)
 rotate_left
 ·obtain ⟨o7,rfl,S⟩:=hI
  have h:=g9
  try dsimp only at h
  refine sSeq (fun ay ae=>sRegion (sM S fun a S=>?_))
  refine sN S fun a S=>?_
  refine lT (ae _ _ ?_)
  obtain rfl:=tS h
  have S:=S.shutR (r:=(rI .i64)) (T:=3) (v:=.slice a2 o7.length a6) (xs:=o7) 0 d
  exact wp_ret (sRet (.slice a2 o7.length a6) S (rsl1 d (rvT (t:=4) (v:=.slice a2 o7.length a6) S d)) ⟨(.slice a2 o7.length a6),d,S.mem.sel [] [0] (by decide) d d⟩)
 refine sSeq (fun az af=>sRegion (sM S fun a S=>?_))
 refine sM S fun a S=>?_
 refine lT (af _ _ (wp_block ?_))
 obtain ⟨aA,hl,aw⟩:=bS h
 refine sLoop hl (fun s0 a w=>match s0 with | (a7,a8)=>St [] E [] w0 21 a w [(1,.func (.func 65) #[] #[v1,v2,v3]),(5,.slice a2 a7.length a6),(9,iv p0),(10,iv a8)] [eRow (rI .i64) 3 (.slice a2 a7.length a6) a7] [fPtr (rI .i64) (v1) p1,fPtr (rI .i64) (v2) p2,fPtr (rI .i64) (v3) p3]) (S.fix [0] [0,1,2] (by decide) d d d) ?_
 clear hl h
 intro s0 a w c0 hI h ag
 obtain ⟨a7,a8⟩:=s0
 unfold slope_list_int__s0_l1 at h
 dsimp only at h hI
 have S:=hI
 refine sSeq (fun aC ah=>sRegion (sBin _ S (wN d) d d d (bLt _ _ _ _ .i64 a8 p0) d (lb d) fun a S=>lT (ah _ _ (sSeq (fun aG ai=>?_)))))
 rcases iS h with ⟨aa,h⟩ | ⟨aa,h⟩
 rotate_left
 ·refine sCondF S d aa ?_
  obtain rfl:=tS h
  obtain rfl:=ag _ d
  have h:=aw
  try dsimp only at h
  exact wp_exit (xThen (xThen (xHit (leafT (⟨a7,Option.some.inj h,S.fix [0] [] (by decide) d d d⟩)))))
 refine sCondT S d aa (wp_skip (leafT (ai _ _ ?_)))
 refine sSeq (fun aH aj=>wp_block ?_)
 refine sSeq (fun aI ak=>sRegion (sM S fun a S=>?_))
 refine sN S fun a S=>?_
 refine lT (ak _ _ (sRegion (sM S fun a S=>?_)))
 refine sM S fun a S=>?_
 refine sM S fun a S=>?_
 refine sM S fun a S=>?_
 obtain ⟨ac,al,h⟩:=bS h
 have S1:=S.mem
 refine sCallVQ (X:=Unit) (g:=65) (vs:=[iv a8]) (caps:=[v1,v2,v3]) (val:=fun _=>iv ac) S (wN d) d d callee65 d (S1.quiet [0,1,2] d) (fun E1 w1 S1=>c_slope_Line_1_s0 E1 w1 a8 p1 v1 p2 v2 p3 v3 ac al S1) d (lb d) fun _ a w S=>?_
 obtain ⟨aJ,am,h⟩:=bS h
 obtain ⟨ax,ao,ap⟩:=pIdxR (P:=Tryd.prog) (r:=(rI .i64)) (T:=3) (v:=.slice a2 a7.length a6) (xs:=a7) (j:=a8) 28 3 0 S Tryd.underlying28 d d am
 refine sIdxV S (wN d) d d d ao d (lb d) fun a S=>?_
 obtain ⟨aq,ab,h⟩:=bS h
 refine sStoreR (r:=(rI .i64)) (T:=3) (xs:=a7) (ys:=aq) (y:=ac) (v:=.slice a2 a7.length a6) (vq:=ax) (u:=iv ac) (j:=a8) 0 S ap (wN d) d d d d d ab d d fun a w S=>?_
 rw [setO_v ab a2 a6] at S
 refine leafL (leafB (leafT (aj _ _ ?_)))
 refine sRegion (sBin _ S (wN d) d d d (bAdd _ _ _ _ a8 1) d (lb d) fun a S=>sM S fun a S=>?_)
 exact lT (⟨(aq,w64 (a8 + 1)),(Option.some.inj h).symm,(S.fix [0] [0,1,2] (by decide) d d d)⟩)
noncomputable def F_slope_Line (p0:Int) (p1:Int) (p2:Int):Option ((List Int) × Int):=
 (F_slope_check p0 p1 p2).bind fun r7=>
 if r7 != 0 then
  some (([]:(List Int)),r7)
 else
  (F_slope_list_int__s0 (w64 (p2 + 1)) p0 p1 p2).bind fun a2=>
  some (a2,0)
def c_slope_Line_val (r:((List Int) × Int)) (x:Value):Value:=.tuple #[x,.int .i64 r.2]
def c_slope_Line_D (r:((List Int) × Int)) (x:Value):List Fact:=[fRep (rL (rI .i64)) x r.1]
theorem c_slope_Line (E:Nat→Prop) (w0:World) (p0:Int) (p1:Int) (p2:Int) (r:((List Int) × Int)) (h:F_slope_Line p0 p1 p2=some r) (S:St0 E [] w0 w0 [] []) :
 Calls Tryd.prog 50 #[iv p0,iv p1,iv p2] w0 (Ret (X:=Value) E [] w0 (c_slope_Line_val r) (fun _=>[]) (c_slope_Line_D r)):=by
 unfold F_slope_Line at h
 refine sEnter (args:=[iv p0,iv p1,iv p2]) 20 Tryd.func50 d d (by simp) S (fun a S=>?_)
 refine sSeq (fun K1 ae=>sRegion (sBox (v:=iv p0) S (wN d) d d [iv p0] d d (lb d) fun a b2 w S=>sBox (v:=iv p1) S (wN d) d d [iv p1] d d (lb d) fun a b3 w S=>sBox (v:=iv p2) S (wN d) d d [iv p2] d d (lb d) fun a b4 w S=>sN S fun a S=>?_))
 refine sN S fun a S=>?_
 refine lT (ae _ _ (sSeq (fun K5 af=>sSeq (fun K6 ag=>sRegion (sLoad1 2 (iv p0) S (wN d) d d d d d d (lb d) fun a S=>sLoad1 1 (iv p1) S (wN d) d d d d d d (lb d) fun a S=>sLoad1 0 (iv p2) S (wN d) d d d d d d (lb d) fun a S=>?_)))))
 obtain ⟨r7,ah,h⟩:=bS h
 have S1:=S.mem
 refine sCq [iv p0,iv p1,iv p2] (iv r7) S callee63 (S1.quiet [] d) (fun E1 w1 S1=>c_slope_check E1 w1 p0 p1 p2 r7 ah S1) fun a w S=>?_
 refine sN S fun a S=>?_
 refine lT (ag _ _ (sSeq (fun K9 ai=>sRegion (sM S fun a S=>?_))))
 refine sBin _ S (wN d) d d d (bNe _ _ _ _ .i64 r7 0) d (lb d) fun a S=>lT (ai _ _ ?_)
 rcases iS h with ⟨a2,h⟩ | ⟨a2,h⟩
 ·refine sCondT S d a2 (sSeq (fun ak aa=>sRegion (sM S fun a S=>?_)))
  refine sN S fun a S=>?_
  refine sN S fun a S=>?_
  refine lT (aa _ _ ?_)
  obtain rfl:=tS h
  have S:=S.learn (fRep (rL (rI .i64)) (.slice none 0 0) ([]:(List Int))) (rL_nil _ _ _)
  exact wp_ret (rThen (sRet (.tuple #[.slice none 0 0,iv r7]) S (rsl2 d (rvT (t:=6) (v:=.slice none 0 0) S d) (rvT (t:=7) (v:=iv r7) S d)) ⟨(.slice none 0 0),d,S.mem.sel [] [0] (by decide) d d⟩))
 refine sCondF S d a2 (wp_skip (leafT (af _ _ ?_)))
 refine sSeq (fun al ab=>sRegion (sLoad1 0 (iv p2) S (wN d) d d d d d d (lb d) fun a S=>sBin _ S (wN d) d d d (bAdd _ _ _ _ p2 1) d (lb d) fun a S=>sFunc (g:=65) (vs:=[.pointer (some ⟨b2,0,none⟩),.pointer (some ⟨b3,0,none⟩),.pointer (some ⟨b4,0,none⟩)]) S (wN d) d d d (lb d) fun a S=>?_))
 obtain ⟨a6,ac,h⟩:=bS h
 have S:=S.shutB (r:=(rI .i64)) (T:=3) (b:=b2) (cs:=[iv p0]) 2 (iv p0) p0 d d (d)
 have S:=S.shutB (r:=(rI .i64)) (T:=3) (b:=b3) (cs:=[iv p1]) 1 (iv p1) p1 d d (d)
 have S:=S.shutB (r:=(rI .i64)) (T:=3) (b:=b4) (cs:=[iv p2]) 0 (iv p2) p2 d d (d)
 refine sCall (X:=Value) (f:=64) (vs:=[iv (w64 (p2 + 1)),.func (.func 65) #[] #[.pointer (some ⟨b2,0,none⟩),.pointer (some ⟨b3,0,none⟩),.pointer (some ⟨b4,0,none⟩)]]) (val:=c_slope_list_int__s0_val a6) (B':=fun _=>[]) (D':=c_slope_list_int__s0_D a6) [] [] [fPtr (rI .i64) (.pointer (some ⟨b2,0,none⟩)) p0,fPtr (rI .i64) (.pointer (some ⟨b3,0,none⟩)) p1,fPtr (rI .i64) (.pointer (some ⟨b4,0,none⟩)) p2] [] [2,1,0] S (wN d) d callee64 d (by decide) d d (fun E1 w1 S1=>c_slope_list_int__s0 E1 w1 (w64 (p2 + 1)) p0 (.pointer (some ⟨b2,0,none⟩)) p1 (.pointer (some ⟨b3,0,none⟩)) p2 (.pointer (some ⟨b4,0,none⟩)) a6 ac S1) d (lb d) fun aj a w S=>?_
 obtain ⟨a7,a8,_,rfl,_⟩:=S.mem.know (i:=0) (e:=fRep (rL (rI .i64)) (aj) a6) d
 refine sN S fun a S=>?_
 refine sN S fun a S=>?_
 refine lT (ab _ _ ?_)
 obtain rfl:=tS h
 exact wp_ret (sRet (.tuple #[.slice a7 a6.length a8,iv 0]) S (rsl2 d (rvT (t:=6) (v:=.slice a7 a6.length a8) S d) (rvT (t:=7) (v:=iv 0) S d)) ⟨(.slice a7 a6.length a8),d,S.mem.sel [] [0] (by decide) d d⟩)
def anc_piece_columns_0:List (List Nat):=[[],[],[0,1],[0,1,2],[0,1,2,3],[],[5],[],[7],[],[],[9,10],[9,10,11],[9,10,11,12],[7,8,9,10,11,12,13],[0,1,2,3,4,5,6,7,8,9,10,11,12,13,14],[0,1,2,3,4,5,6,7,8,9,10,11,12,13,14,15],[0,1,2,3,4,5,6,7,8,9,10,11,12,13,14,15,16],[0,1,2,3,4,5,6,7,8,9,10,11,12,13,14,15,16],[0,1,2,3,4,5,6,7,8,9,10,11,12,13,14,15,16,17],[0,1,2,3,4,5,6,7,8,9,10,11,12,13,14,15,16,17,18,19]]
noncomputable def piece_columns_l1 (a6:List api_Point) (p0:(List api_Point)):(List Int × Int)→Option ((List Int × Int) ⊕ List Int):=fun s0=>match s0 with
 | (a7,a2)=>
  if decide (a2 < (a6.length:Int)) then
   (idxO a6 a2).bind fun a8=>
   (idxO p0 a2).bind fun aa=>
   (F_slope_Line aa.X a8.X (w64 (a8.Y - aa.Y))).bind fun ab=>
   (sliceO ab.1 1 (ab.1.length:Int)).bind fun ac=>
   (appO a7 ac).bind fun ae=>
   some (.inl (ae,w64 (a2 + 1)))
  else
   some (.inr a7)
noncomputable def F_piece_columns (p0:(List api_Point)):Option (List Int):=
 (idxO p0 0).bind fun x5=>
 Option.bind (α:=List Int) (
  (sliceO p0 1 (p0.length:Int)).bind fun a2=>
  (whileO (piece_columns_l1 a2 p0) (([x5.X]:List Int),0)).bind fun a6=>
   some a6) fun a7=>
 some a7
def c_piece_columns_val (r:(List Int)) (x:Value):Value:=x
def c_piece_columns_D (r:(List Int)) (x:Value):List Fact:=[fRep (rL (rI .i64)) x r]
theorem c_piece_columns (E:Nat→Prop) (w0:World) (p0:(List api_Point)) (v0:Value) (r:(List Int)) (h:F_piece_columns p0=some r) (S:St0 E [] w0 w0 [] [fRep (rL r_api_Point) (v0) p0]) :
 Calls Tryd.prog 36 #[v0] w0 (Ret (X:=Value) E [] w0 (c_piece_columns_val r) (fun _=>[]) (c_piece_columns_D r)):=by
 unfold F_piece_columns at h
 obtain ⟨ah,ai,_,rfl,_⟩:=S.know (i:=0) (e:=fRep (rL r_api_Point) (v0) p0) d
 refine sEnter (args:=[.slice ah p0.length ai]) 46 Tryd.func36 d d (by simp) S (fun a S=>?_)
 refine sSeq (fun K3 bi=>sRegion (sN S fun a S=>?_))
 refine lT (bi _ _ (sSeq (fun K4 bj=>sRegion (sM S fun a S=>?_))))
 obtain ⟨x5,bl,h⟩:=bS h
 obtain ⟨q7,bm,S⟩:=pIdx (P:=Tryd.prog) (r:=r_api_Point) (v:=.slice ah p0.length ai) (xs:=p0) (j:=0) 22 35 0 S Tryd.underlying22 d d bl
 refine sIdxV S (wN d) d d d bm d (lb d) fun a S=>?_
 obtain ⟨q9,au,S⟩:=pFld (P:=Tryd.prog) (r:=r_api_Point) (s2:=(rI .i64)) (g:=(·.X)) (q:=q7) (z:=x5) 35 0 0 0 S d d comp_api_Point_X
 refine sFldV (q:=q7) S (wN d) d d au d (lb d) fun a S=>?_
 obtain ⟨ba,S⟩:=pLoad (r:=(rI .i64)) (q:=q9) (x:=x5.X) 0 S d
 obtain rfl:ba=iv x5.X:=S.mem.know (i:=1) (e:=fRep (rI .i64) (ba) x5.X) d
 refine sLoadV1 (vq:=q9) 0 (iv x5.X) S (wN d) d d d d d (lb d) fun a S=>sLit (r:=(rI .i64)) (T:=3) (xs:=([x5.X]:List Int)) [(0,iv x5.X)] 1 [iv x5.X] [iv x5.X] (iv 0) 8 S (wN d) d d Tryd.underlying28 d (by decide) (by decide) (by kernel_rfl) d (fun E1 w1 hE=>All.cons d (All.nil _ _ _)) d d (lb d) fun a w av aw S=>?_
 refine sN S fun a S=>?_
 refine lT (bj _ _ ?_)
 obtain ⟨bn,h,bo⟩:=bS h
 refine sCut (fun a w=>∃ aj,aj=bn∧∃ ab,∃ ac,St [] E [] w0 46 a w [(3,.slice ab aj.length ac)] [eRow (rI .i64) 3 (.slice ab aj.length ac) aj] []) ?_ (fun a w hI=>?_)
 rotate_left
 ·obtain ⟨aj,rfl,ab,ac,S⟩:=hI
  have h:=bo
  try dsimp only at h
  refine sSeq (fun bt ax=>sRegion (sM S fun a S=>?_))
  refine sN S fun a S=>?_
  refine lT (ax _ _ ?_)
  obtain rfl:=tS h
  have S:=S.shutR (r:=(rI .i64)) (T:=3) (v:=.slice ab aj.length ac) (xs:=aj) 0 d
  exact wp_ret (sRet (.slice ab aj.length ac) S (rsl1 d (rvT (t:=2) (v:=.slice ab aj.length ac) S d)) ⟨(.slice ab aj.length ac),d,S.mem.sel [] [0] (by decide) d d⟩)
 refine sSeq (fun bu ay=>sRegion (sM S fun a S=>?_))
 obtain ⟨al,az,h⟩:=bS h
 refine sSlice (r:=r_api_Point) (v:=.slice ah p0.length ai) (xs:=p0) (vlo:=(some (.int .i64 1))) (vhi:=none) (lo':=1) (hi':=(p0.length:Int)) 4 S (wN d) d Tryd.underlying22 d d d d d (.inl d) (.inr ⟨d,d⟩) az d (lb d) fun a am ao S=>?_
 refine sLen S (wN d) d Tryd.underlying22 d d (lb d) fun a S=>sM S fun a S=>?_
 refine lT (ay _ _ (wp_block ?_))
 obtain ⟨bv,hl,bp⟩:=bS h
 refine sLoop hl (fun s0 a w=>match s0 with | (ak,ag)=>∃ ae,∃ af,St [] E [] w0 46 a w [(0,.slice ah p0.length ai),(3,.slice ae ak.length af),(14,.slice am al.length ao),(15,iv (al.length:Int)),(16,iv ag)] [eRow (rI .i64) 3 (.slice ae ak.length af) ak] [fRep (rL r_api_Point) (.slice ah p0.length ai) p0,fRep (rL r_api_Point) (.slice am al.length ao) al]) ⟨av,aw,S.fix [0] [5,0] (by decide) d d d⟩ ?_
 clear hl h
 intro s0 a w c0 hI h aA
 obtain ⟨ak,ag⟩:=s0
 unfold piece_columns_l1 at h
 dsimp only at h hI
 obtain ⟨ae,af,S⟩:=hI
 refine sSeq (fun bw aC=>sRegion (sBin _ S (wN d) d d d (bLt _ _ _ _ .i64 ag (al.length:Int)) d (lb d) fun a S=>lT (aC _ _ (sSeq (fun bx aG=>?_)))))
 rcases iS h with ⟨ap,h⟩ | ⟨ap,h⟩
 rotate_left
 ·refine sCondF S d ap ?_
  obtain rfl:=tS h
  obtain rfl:=aA _ d
  have h:=bp
  try dsimp only at h
  exact wp_exit (xThen (xThen (xHit (leafT (⟨ak,Option.some.inj h,ae,af,S.fix [0] [] (by decide) d d d⟩)))))
 refine sCondT S d ap (wp_skip (leafT (aG _ _ ?_)))
 refine sSeq (fun bz aH=>wp_block ?_)
 refine sSeq (fun bA aI=>sRegion (sM S fun a S=>?_))
 obtain ⟨a2,aJ,h⟩:=bS h
 obtain ⟨bb,aK,S⟩:=pIdx (P:=Tryd.prog) (r:=r_api_Point) (v:=.slice am al.length ao) (xs:=al) (j:=ag) 22 35 1 S Tryd.underlying22 d d aJ
 refine sIdxV S (wN d) d d d aK d (lb d) fun a S=>?_
 obtain ⟨bc,S⟩:=pLoad (r:=r_api_Point) (q:=bb) (x:=a2) 0 S d
 obtain rfl:bc=.agg #[iv a2.X,iv a2.Y]:=S.mem.know (i:=1) (e:=fRep r_api_Point (bc) a2) d
 refine sLoadVN (vq:=bb) 0 [iv a2.X,iv a2.Y] S (wN d) d d d d d d (lb d) fun a S=>sAlloc (.agg #[iv 0,iv 0]) S (wN d) d d [iv 0,iv 0] d d (lb d) fun a aq w S=>sN S fun a S=>?_
 refine sStore (p:=aq) (off:=0) (T:=35) (vs:=[iv 0,iv 0]) (v:=.agg #[iv a2.X,iv a2.Y]) 0 [iv a2.X,iv a2.Y] S (wN d) d d d d d d d (by simp) d fun a w S=>lT (aI _ _ (sSeq (fun bB aL=>?_)))
 obtain ⟨a7,ar,h⟩:=bS h
 obtain ⟨a6,aM,h⟩:=bS h
 obtain ⟨aO,aP,S⟩:=pIdx (P:=Tryd.prog) (r:=r_api_Point) (v:=.slice ah p0.length ai) (xs:=p0) (j:=ag) 22 35 3 S Tryd.underlying22 d d ar
 obtain ⟨aQ,aR,S⟩:=pFld (P:=Tryd.prog) (r:=r_api_Point) (s2:=(rI .i64)) (g:=(·.X)) (q:=aO) (z:=a7) 35 0 0 0 S d d comp_api_Point_X
 obtain ⟨bf,S⟩:=pLoad (r:=(rI .i64)) (q:=aQ) (x:=a7.X) 0 S d
 obtain rfl:bf=iv a7.X:=S.mem.know (i:=1) (e:=fRep (rI .i64) (bf) a7.X) d
 obtain ⟨aS,aT,S⟩:=pIdx (P:=Tryd.prog) (r:=r_api_Point) (v:=.slice ah p0.length ai) (xs:=p0) (j:=ag) 22 35 7 S Tryd.underlying22 d d ar
 obtain ⟨aU,aV,S⟩:=pFld (P:=Tryd.prog) (r:=r_api_Point) (s2:=(rI .i64)) (g:=(·.Y)) (q:=aS) (z:=a7) 35 1 0 1 S d d comp_api_Point_Y
 obtain ⟨bg,S⟩:=pLoad (r:=(rI .i64)) (q:=aU) (x:=a7.Y) 0 S d
 obtain rfl:bg=iv a7.Y:=S.mem.know (i:=1) (e:=fRep (rI .i64) (bg) a7.Y) d
 refine sDraw (nf:=[15]) (W:=[(0,22,.slice ah p0.length ai),(1,23,iv ag),(2,24,aO),(3,25,aQ),(4,26,iv a7.X),(5,27,.pointer (some ⟨aq,0,none⟩)),(6,28,iv a2.X),(7,29,.pointer (some ⟨aq,1,none⟩)),(8,30,iv a2.Y),(9,31,.slice ah p0.length ai),(10,32,iv ag),(11,33,aS),(12,34,aU),(13,35,iv a7.Y),(14,36,iv (w64 (a2.Y - a7.Y)))]) d S ?_
 refine node_by (A:=anc_piece_columns_0) 21 (by kernel_rfl) (by kernel_rfl) (by kernel_rfl) (by kernel_rfl) (by kernel_rfl) [0,1,2,3,4,5,6,7,8,9,10,11,12,13,14] (by kernel_rfl) (by decide) (by decide) (fF ?_ (fF ?_ (fF ?_ (fF ?_ (fF ?_ (fF ?_ (fF ?_ (fF ?_ (fF ?_ (fF ?_ (fF ?_ (fF ?_ (fF ?_ (fF ?_ (fF ?_ (fN ?_ (fE 15 (fE 15 (fE 15 (fE 15 (fE 15 (trivial)))))))))))))))))))))) [] (fun q hq=>by cases hq) (fun hY=>absurd (hY 15 (by decide)) (by decide))
 ·exact fM 0 none d d d d (.inl d) d d d
 ·exact fM 1 none d d d d (.inl d) d d d
 ·refine fJ [(22,_),(23,_)] 2 [some 0,some 1] fun G a w S=>?_
  exact sIdxV S (wN d) d d d aP d (lb d) fun a S=>leafL ⟨d,S⟩
 ·refine fJ [(24,_)] 3 [some 2] fun G a w S=>?_
  exact sFldV (q:=aO) S (wN d) d d aR d (lb d) fun a S=>leafL ⟨d,S⟩
 ·refine fJ [(25,_)] 4 [some 3] fun G a w S=>?_
  exact sLoadV1 (vq:=aQ) 4 (iv a7.X) S (wN d) d d d d d (lb d) fun a S=>leafL ⟨d,S⟩
 ·refine fJ [(5,_)] 5 [none] fun G a w S=>?_
  exact sField (b:=aq) (off:=0) 0 0 S (wN d) d d d d d (lb d) fun a S=>leafL ⟨d,S⟩
 ·refine fJ [(27,_)] 6 [some 5] fun G a w S=>?_
  exact sLoad1 0 (iv a2.X) S (wN d) d d d d d d (lb d) fun a S=>leafL ⟨d,S⟩
 ·refine fJ [(5,_)] 7 [none] fun G a w S=>?_
  exact sField (b:=aq) (off:=0) 1 1 S (wN d) d d d d d (lb d) fun a S=>leafL ⟨d,S⟩
 ·refine fJ [(29,_)] 8 [some 7] fun G a w S=>?_
  exact sLoad1 0 (iv a2.Y) S (wN d) d d d d d d (lb d) fun a S=>leafL ⟨d,S⟩
 ·exact fM 9 none d d d d (.inl d) d d d
 ·exact fM 10 none d d d d (.inl d) d d d
 ·refine fJ [(31,_),(32,_)] 11 [some 9,some 10] fun G a w S=>?_
  exact sIdxV S (wN d) d d d aT d (lb d) fun a S=>leafL ⟨d,S⟩
 ·refine fJ [(33,_)] 12 [some 11] fun G a w S=>?_
  exact sFldV (q:=aS) S (wN d) d d aV d (lb d) fun a S=>leafL ⟨d,S⟩
 ·refine fJ [(34,_)] 13 [some 12] fun G a w S=>?_
  exact sLoadV1 (vq:=aU) 0 (iv a7.Y) S (wN d) d d d d d (lb d) fun a S=>leafL ⟨d,S⟩
 ·refine fJ [(30,_),(35,_)] 14 [some 8,some 13] fun G a w S=>?_
  exact sBin _ S (wN d) d d d (bSub _ _ _ _ a2.Y a7.Y) d (lb d) fun a S=>leafL ⟨d,S⟩
 refine ⟨_,[(26,iv a7.X),(28,iv a2.X),(36,iv (w64 (a2.Y - a7.Y)))],d,(srcs_of [some 4,some 6,some 14] d d d),fun G a w S=>?_⟩
 refine sCall (X:=Value) (f:=50) (vs:=[iv a7.X,iv a2.X,iv (w64 (a2.Y - a7.Y))]) (val:=c_slope_Line_val a6) (B':=fun _=>[]) (D':=c_slope_Line_D a6) [] [eBox aq 35 [iv a2.X,iv a2.Y],eRow (rI .i64) 3 (.slice ae ak.length af) ak] [] [0,1] [] S (wN d) d callee50 d (by decide) d d (fun E1 w1 S1=>c_slope_Line E1 w1 a7.X a2.X (w64 (a2.Y - a7.Y)) a6 aM S1) d (lb d) fun bq a w S=>?_
 obtain ⟨a8,aa,_,rfl,_⟩:=S.mem.know (i:=0) (e:=fRep (rL (rI .i64)) (bq) a6.1) d
 refine leafL ⟨d,_,_,.inl ⟨37,(.tuple #[.slice a8 a6.1.length aa,iv a6.2]),[(16,21,.tuple #[.slice a8 a6.1.length aa,iv a6.2]),(17,38,.slice a8 a6.1.length aa),(18,39,iv a6.2),(19,6,.slice a8 a6.1.length aa),(20,7,iv a6.2)],d,S,hz_of d,?_⟩⟩
 refine node_by (A:=anc_piece_columns_0) 21 (by kernel_rfl) (by kernel_rfl) (by kernel_rfl) (by kernel_rfl) (by kernel_rfl) [16,17,18,19,20,15,0,1,2,3,4,5,6,7,8,9,10,11,12,13,14] (by kernel_rfl) (by decide) (by decide) (fD 15 (fD 15 (fD 15 (fD 15 (fD 15 (fD 15 (fD 15 (fD 15 (fD 15 (fD 15 (fD 15 (fD 15 (fD 15 (fD 15 (fD 15 (fY (fF ?_ (fF ?_ (fF ?_ (fF ?_ (fF ?_ (trivial)))))))))))))))))))))) [(0,.slice ah p0.length ai),(3,.slice ae ak.length af),(6,.slice a8 a6.1.length aa),(14,.slice am al.length ao),(15,iv (al.length:Int)),(16,iv ag)] (fin_of [none,none,some 3,none,none,none] d (by kernel_rfl) (by kernel_rfl)) (fun _ a w S=>?_)
 ·exact fM 0 (some 5) d d d d (.inl d) d d d
 ·refine fJ [(21,_)] 1 [some 0] fun G a w S=>?_
  exact sExtract (vs:=[.slice a8 a6.1.length aa,iv a6.2]) (.slice a8 a6.1.length aa) S (wN d) d d d d (lb d) fun a S=>leafL ⟨d,S⟩
 ·refine fJ [(21,_)] 2 [some 0] fun G a w S=>?_
  exact sExtract (vs:=[.slice a8 a6.1.length aa,iv a6.2]) (iv a6.2) S (wN d) d d d d (lb d) fun a S=>leafL ⟨d,S⟩
 ·exact fM 3 (some 1) d d d d (.inr d) d d d
 ·exact fM 4 (some 2) d d d d (.inr d) d d d
 refine leafT (aL _ _ ?_)
 refine sRegion (sM S fun a S=>?_)
 refine sM S fun a S=>?_
 obtain ⟨bh,aW,h⟩:=bS h
 refine sSlice (r:=(rI .i64)) (v:=.slice a8 a6.1.length aa) (xs:=a6.1) (vlo:=(some (.int .i64 1))) (vhi:=none) (lo':=1) (hi':=(a6.1.length:Int)) 0 S (wN d) d Tryd.underlying28 d d d d d (.inl d) (.inr ⟨d,d⟩) aW d (lb d) fun a aX aZ S=>?_
 obtain ⟨br,b0,h⟩:=bS h
 refine sApp (r:=(rI .i64)) (T:=3) (xs:=ak) (ys:=bh) (v:=.slice ae ak.length af) (u:=.slice aX bh.length aZ) 1 (iv 0) 8 S (wN d) d Tryd.underlying28 d d (by decide) d d d (src_D 0 S.mem d) b0 d (lb d) fun a w b1 b8 S=>sN S fun a S=>?_
 refine leafL (leafB (leafT (aH _ _ ?_)))
 refine sRegion (sBin _ S (wN d) d d d (bAdd _ _ _ _ ag 1) d (lb d) fun a S=>sM S fun a S=>?_)
 exact lT (⟨(br,w64 (ag + 1)),(Option.some.inj h).symm,⟨b1,b8,S.fix [0] [13,14] (by decide) d d d⟩⟩)
def anc_piece_Make_0:List (List Nat):=[[],[0],[0,1],[],[3],[0,1,2,3,4],[0,1,2,3,4,5],[],[0,1,2,3,4,5,6,7]]
noncomputable def F_piece_Make (p0:api_Shape):Option (api_Piece × Int):=
 (F_piece_shape p0).bind fun a2=>
 if a2 != 0 then
  some ((api_Piece.mk ([]:(List Int)) ([]:(List Int))),a2)
 else
  (F_piece_columns p0.Left).bind fun a6=>
  (F_piece_columns p0.Right).bind fun a7=>
  (F_piece_Check (api_Piece.mk a6 a7)).bind fun a8=>
  if a8 != 0 then
   some ((api_Piece.mk ([]:(List Int)) ([]:(List Int))),16)
  else
   some ((api_Piece.mk a6 a7),0)
def c_piece_Make_val (r:(api_Piece × Int)) (x:Value):Value:=.tuple #[x,.int .i64 r.2]
def c_piece_Make_D (r:(api_Piece × Int)) (x:Value):List Fact:=[fRep r_api_Piece x r.1]
theorem c_piece_Make (E:Nat→Prop) (w0:World) (p0:api_Shape) (v0:Value) (r:(api_Piece × Int)) (h:F_piece_Make p0=some r) (S:St0 E [] w0 w0 [] [fRep r_api_Shape (v0) p0]) :
 Calls Tryd.prog 12 #[v0] w0 (Ret (X:=Value) E [] w0 (c_piece_Make_val r) (fun _=>[]) (c_piece_Make_D r)):=by
 unfold F_piece_Make at h
 obtain ⟨u1,u2,rfl,aP,aQ⟩:=S.know (i:=0) (e:=fRep r_api_Shape (v0) p0) d
 have S:=S.learn (fRep (rL r_api_Point) u1 p0.Left) aP
 obtain ⟨af,ag,_,rfl,_⟩:=aP
 have S:=S.learn (fRep (rL r_api_Point) u2 p0.Right) aQ
 obtain ⟨ac,ae,_,rfl,_⟩:=aQ
 refine sEnter (args:=[.agg #[.slice af p0.Left.length ag,.slice ac p0.Right.length ae]]) 24 Tryd.func12 d d (by simp) S (fun a S=>?_)
 refine sSeq (fun K9 aR=>sRegion (sBox (v:=.agg #[.slice af p0.Left.length ag,.slice ac p0.Right.length ae]) S (wN d) d d [.slice af p0.Left.length ag,.slice ac p0.Right.length ae] d d (lb d) fun a ah w S=>sAlloc (.agg #[.slice none 0 0,.slice none 0 0]) S (wN d) d d [.slice none 0 0,.slice none 0 0] d d (lb d) fun a ai w S=>sN S fun a S=>?_))
 refine lT (aR _ _ (sSeq (fun aW ax=>sSeq (fun aX ay=>sRegion (sLoadN (p:=ah) (off:=0) (T:=24) (vs:=[.slice af p0.Left.length ag,.slice ac p0.Right.length ae]) 1 [.slice af p0.Left.length ag,.slice ac p0.Right.length ae] S (wN d) d d d d d d d (lb d) fun a S=>?_)))))
 obtain ⟨aq,az,h⟩:=bS h
 have S1:=S.mem
 refine sCq [.agg #[.slice af p0.Left.length ag,.slice ac p0.Right.length ae]] (iv aq) S callee35 (S1.quiet [2] d) (fun E1 w1 S1=>c_piece_shape E1 w1 p0 (.agg #[.slice af p0.Left.length ag,.slice ac p0.Right.length ae]) aq az S1) fun a w S=>?_
 refine sN S fun a S=>?_
 refine lT (ay _ _ (sSeq (fun aZ aA=>sRegion (sM S fun a S=>?_))))
 refine sBin _ S (wN d) d d d (bNe _ _ _ _ .i64 aq 0) d (lb d) fun a S=>lT (aA _ _ ?_)
 rcases iS h with ⟨al,h⟩ | ⟨al,h⟩
 ·refine sCondT S d al (sSeq (fun b0 aC=>sRegion (sBuild [] [.slice none 0 0,.slice none 0 0] S (wN d) d d d d (lb d) fun a S=>sM S fun a S=>?_)))
  refine sStore (p:=ai) (off:=0) (T:=30) (vs:=[.slice none 0 0,.slice none 0 0]) (v:=.agg #[.slice none 0 0,.slice none 0 0]) 0 [.slice none 0 0,.slice none 0 0] S (wN d) d d d d d d d (by simp) d fun a w S=>sN S fun a S=>?_
  refine lT (aC _ _ ?_)
  obtain rfl:=tS h
  have S:=S.learn (fRep (rL (rI .i64)) (.slice none 0 0) ([]:(List Int))) (rL_nil _ _ _)
  have S:=S.learn (fRep r_api_Piece (.agg #[.slice none 0 0,.slice none 0 0]) (api_Piece.mk ([]:(List Int)) ([]:(List Int)))) ⟨_,_,d,S.mem.know (i:=0) (e:=fRep (rL (rI .i64)) (.slice none 0 0) ([]:(List Int))) d,S.mem.know (i:=0) (e:=fRep (rL (rI .i64)) (.slice none 0 0) ([]:(List Int))) d⟩
  exact wp_ret (rThen (sRet (.tuple #[.agg #[.slice none 0 0,.slice none 0 0],iv aq]) S (rsl2 d (rvN (c:=2) (t:=30) (T:=30) (p:=ai) 0 [.slice none 0 0,.slice none 0 0] S d d d d) (rvT (t:=3) (v:=iv aq) S d)) ⟨(.agg #[.slice none 0 0,.slice none 0 0]),d,S.mem.sel [] [0] (by decide) d d⟩))
 refine sCondF S d al (wp_skip (leafT (ax _ _ ?_)))
 refine sSeq (fun b1 aG=>?_)
 obtain ⟨aa,ar,h⟩:=bS h
 obtain ⟨ab,au,h⟩:=bS h
 refine sDraw (nf:=[2,5,7,8]) (W:=[(0,12,.pointer (some ⟨ah,0,none⟩)),(1,13,.slice af p0.Left.length ag),(3,15,.pointer (some ⟨ah,1,none⟩)),(4,16,.slice ac p0.Right.length ae)]) d S ?_
 refine nodeCut (fun N W L D=>∀ aj a2 a6 a7 a8,N [7,5,2] ((7,5,.pointer (some ⟨aj,0,none⟩)) :: (6,18,.agg #[.slice a2 aa.length a6,.slice a7 ab.length a8]) :: (5,17,.slice a7 ab.length a8) :: (2,14,.slice a2 aa.length a6) :: W) ((eBox aj 30 [.slice none 0 0,.slice none 0 0]) :: L) ((fRep (rL (rI .i64)) (.slice a7 ab.length a8) ab) :: (fRep (rL (rI .i64)) (.slice a2 aa.length a6) aa) :: D)) (fun aj a2 a6 a7 a8=>?_) fun nd1=>?_
 ·refine node_by (A:=anc_piece_Make_0) 9 (by kernel_rfl) (by kernel_rfl) (by kernel_rfl) (by kernel_rfl) (by kernel_rfl) [7,6,5,2,0,1,3,4] (by kernel_rfl) (by decide) (by decide) (fD 5 (fD 5 (fY (fD 5 (fD 5 (fY (fF ?_ (fY (fN ?_ (trivial)))))))))) [] (fun q hq=>by cases hq) (fun hY=>absurd (hY 8 (by decide)) (by decide))
  ·refine fJ [(14,_),(17,_)] 1 [some 3,some 2] fun G a w S=>?_
   exact sBuild [(0,.slice a2 aa.length a6),(1,.slice a7 ab.length a8)] [.slice a2 aa.length a6,.slice a7 ab.length a8] S (wN d) d d d d (lb d) fun a S=>leafL ⟨d,S⟩
  refine ⟨_,[(5,.pointer (some ⟨aj,0,none⟩)),(18,.agg #[.slice a2 aa.length a6,.slice a7 ab.length a8])],d,(srcs_of [some 0,some 1] d d d),fun G a w S=>?_⟩
  refine sStore (p:=aj) (off:=0) (T:=30) (vs:=[.slice none 0 0,.slice none 0 0]) (v:=.agg #[.slice a2 aa.length a6,.slice a7 ab.length a8]) 0 [.slice a2 aa.length a6,.slice a7 ab.length a8] S (wN d) d d d d d d d (by simp) d fun a w S=>leafL ⟨d,_,_,.inr ⟨[],d,S,hz_of d,?_⟩⟩
  refine node_by (A:=anc_piece_Make_0) 9 (by kernel_rfl) (by kernel_rfl) (by kernel_rfl) (by kernel_rfl) (by kernel_rfl) [7,6,5,2,0,1,3,4] (by kernel_rfl) (by decide) (by decide) (fD 8 (fD 8 (fY (fD 8 (fD 8 (fY (fD 8 (fY (fY (trivial)))))))))) [(2,.pointer (some ⟨ai,0,none⟩)),(5,.pointer (some ⟨aj,0,none⟩))] (fin_of [none,some 0] d (by kernel_rfl) (by kernel_rfl)) (fun _ a w S=>?_)
  refine leafT (aG _ _ ?_)
  refine sSeq (fun b8 aH=>sSeq (fun ba aI=>sRegion (sLoadN (p:=aj) (off:=0) (T:=30) (vs:=[.slice a2 aa.length a6,.slice a7 ab.length a8]) 0 [.slice a2 aa.length a6,.slice a7 ab.length a8] S (wN d) d d d d d d d (lb d) fun a S=>?_)))
  obtain ⟨aJ,aK,h⟩:=bS h
  have S1:=S.mem
  have S1:=S1.learn (fRep r_api_Piece (.agg #[.slice a2 aa.length a6,.slice a7 ab.length a8]) (api_Piece.mk aa ab)) ⟨_,_,d,S1.know (i:=1) (e:=fRep (rL (rI .i64)) (.slice a2 aa.length a6) aa) d,S1.know (i:=0) (e:=fRep (rL (rI .i64)) (.slice a7 ab.length a8) ab) d⟩
  refine sCq [.agg #[.slice a2 aa.length a6,.slice a7 ab.length a8]] (iv aJ) S callee13 (S1.quiet [0] d) (fun E1 w1 S1=>c_piece_Check E1 w1 (api_Piece.mk aa ab) (.agg #[.slice a2 aa.length a6,.slice a7 ab.length a8]) aJ aK S1) fun a w S=>?_
  refine sBin _ S (wN d) d d d (bNe _ _ _ _ .i64 aJ 0) d (lb d) fun a S=>lT (aI _ _ ?_)
  rcases iS h with ⟨am,h⟩ | ⟨am,h⟩
  ·refine sCondT S d am (sSeq (fun bb aL=>sRegion (sBuild [] [.slice none 0 0,.slice none 0 0] S (wN d) d d d d (lb d) fun a S=>sStore (p:=ai) (off:=0) (T:=30) (vs:=[.slice none 0 0,.slice none 0 0]) (v:=.agg #[.slice none 0 0,.slice none 0 0]) 1 [.slice none 0 0,.slice none 0 0] S (wN d) d d d d d d d (by simp) d fun a w S=>sN S fun a S=>?_)))
   refine lT (aL _ _ ?_)
   obtain rfl:=tS h
   have S:=S.learn (fRep (rL (rI .i64)) (.slice none 0 0) ([]:(List Int))) (rL_nil _ _ _)
   have S:=S.learn (fRep r_api_Piece (.agg #[.slice none 0 0,.slice none 0 0]) (api_Piece.mk ([]:(List Int)) ([]:(List Int)))) ⟨_,_,d,S.mem.know (i:=0) (e:=fRep (rL (rI .i64)) (.slice none 0 0) ([]:(List Int))) d,S.mem.know (i:=0) (e:=fRep (rL (rI .i64)) (.slice none 0 0) ([]:(List Int))) d⟩
   exact wp_ret (rThen (sRet (.tuple #[.agg #[.slice none 0 0,.slice none 0 0],iv 16]) S (rsl2 d (rvN (c:=2) (t:=30) (T:=30) (p:=ai) 0 [.slice none 0 0,.slice none 0 0] S d d d d) (rvT (t:=3) (v:=iv 16) S d)) ⟨(.agg #[.slice none 0 0,.slice none 0 0]),d,S.mem.sel [] [0] (by decide) d d⟩))
  refine sCondF S d am (wp_skip (leafT (aH _ _ ?_)))
  refine sSeq (fun bc aM=>sRegion (sLoadN (p:=aj) (off:=0) (T:=30) (vs:=[.slice a2 aa.length a6,.slice a7 ab.length a8]) 0 [.slice a2 aa.length a6,.slice a7 ab.length a8] S (wN d) d d d d d d d (lb d) fun a S=>sStore (p:=ai) (off:=0) (T:=30) (vs:=[.slice none 0 0,.slice none 0 0]) (v:=.agg #[.slice a2 aa.length a6,.slice a7 ab.length a8]) 1 [.slice a2 aa.length a6,.slice a7 ab.length a8] S (wN d) d d d d d d d (by simp) d fun a w S=>sN S fun a S=>?_))
  refine lT (aM _ _ ?_)
  obtain rfl:=tS h
  have S:=S.learn (fRep r_api_Piece (.agg #[.slice a2 aa.length a6,.slice a7 ab.length a8]) (api_Piece.mk aa ab)) ⟨_,_,d,S.mem.know (i:=1) (e:=fRep (rL (rI .i64)) (.slice a2 aa.length a6) aa) d,S.mem.know (i:=0) (e:=fRep (rL (rI .i64)) (.slice a7 ab.length a8) ab) d⟩
  exact wp_ret (sRet (.tuple #[.agg #[.slice a2 aa.length a6,.slice a7 ab.length a8],iv 0]) S (rsl2 d (rvN (c:=2) (t:=30) (T:=30) (p:=ai) 0 [.slice a2 aa.length a6,.slice a7 ab.length a8] S d d d d) (rvT (t:=3) (v:=iv 0) S d)) ⟨(.agg #[.slice a2 aa.length a6,.slice a7 ab.length a8]),d,S.mem.sel [] [0] (by decide) d d⟩)
 refine nodeCut (fun N W L D=>∀ ak a2 a6,N [7,2] ((7,5,.pointer (some ⟨ak,0,none⟩)) :: (2,14,.slice a2 aa.length a6) :: W) ((eBox ak 30 [.slice none 0 0,.slice none 0 0]) :: L) ((fRep (rL (rI .i64)) (.slice a2 aa.length a6) aa) :: D)) (fun ak a2 a6=>?_) fun nd2=>?_
 ·refine node_by (A:=anc_piece_Make_0) 9 (by kernel_rfl) (by kernel_rfl) (by kernel_rfl) (by kernel_rfl) (by kernel_rfl) [7,2,0,1,3,4] (by kernel_rfl) (by decide) (by decide) (fD 2 (fD 2 (fY (fF ?_ (fF ?_ (fN ?_ (fE 5 (fY (aB 8 0 5 (by decide) (trivial)))))))))) [] (fun q hq=>by cases hq) (fun hY=>absurd (hY 5 (by decide)) (by decide))
  ·refine fJ [(1,_)] 4 [none] fun G a w S=>?_
   exact sField (b:=ah) (off:=0) 1 1 S (wN d) d d d d d (lb d) fun a S=>leafL ⟨d,S⟩
  ·refine fJ [(15,_)] 5 [some 4] fun G a w S=>?_
   exact sLoad1 2 (.slice ac p0.Right.length ae) S (wN d) d d d d d d (lb d) fun a S=>leafL ⟨d,S⟩
  refine ⟨_,[(16,.slice ac p0.Right.length ae)],d,(srcs_of [some 5] d d d),fun G a w S=>?_⟩
  refine sCall (X:=Value) (f:=36) (vs:=[.slice ac p0.Right.length ae]) (val:=c_piece_columns_val ab) (B':=fun _=>[]) (D':=c_piece_columns_D ab) [] [eBox ak 30 [.slice none 0 0,.slice none 0 0],eBox ai 30 [.slice none 0 0,.slice none 0 0],eBox ah 24 [.slice af p0.Left.length ag,.slice ac p0.Right.length ae]] [fRep (rL r_api_Point) (.slice ac p0.Right.length ae) p0.Right] [0,1,2] [1] S (wN d) d callee36 d (by decide) d d (fun E1 w1 S1=>c_piece_columns E1 w1 p0.Right (.slice ac p0.Right.length ae) ab au S1) d (lb d) fun aS a w S=>?_
  obtain ⟨ao,ap,_,rfl,_⟩:=S.mem.know (i:=0) (e:=fRep (rL (rI .i64)) (aS) ab) d
  refine leafL ⟨d,_,_,.inl ⟨17,(.slice ao ab.length ap),[(6,18,.agg #[.slice a2 aa.length a6,.slice ao ab.length ap])],d,S,hz_of d,?_⟩⟩
  exact nodePerm (nd1 ak a2 a6 ao ap) [2,0,1,3,4,5,6,7] [0,1,2] [0,1,2,3,4] (by decide) (by decide) d d d
 refine node_by (A:=anc_piece_Make_0) 9 (by kernel_rfl) (by kernel_rfl) (by kernel_rfl) (by kernel_rfl) (by kernel_rfl) [0,1,3,4] (by kernel_rfl) (by decide) (by decide) (fF ?_ (fF ?_ (fN ?_ (fF ?_ (fF ?_ (aB 5 3 2 (by decide) (fE 2 (fN ?_ (aB 8 0 2 (by decide) (trivial)))))))))) [] (fun q hq=>by cases hq) (fun hY=>absurd (hY 2 (by decide)) (by decide))
 ·refine fJ [(1,_)] 0 [none] fun G a w S=>?_
  exact sField (b:=ah) (off:=0) 0 0 S (wN d) d d d d d (lb d) fun a S=>leafL ⟨d,S⟩
 ·refine fJ [(12,_)] 1 [some 0] fun G a w S=>?_
  exact sLoad1 1 (.slice af p0.Left.length ag) S (wN d) d d d d d d (lb d) fun a S=>leafL ⟨d,S⟩
 ·refine ⟨_,[(13,.slice af p0.Left.length ag)],d,(srcs_of [some 1] d d d),fun G a w S=>?_⟩
  refine sCall (X:=Value) (f:=36) (vs:=[.slice af p0.Left.length ag]) (val:=c_piece_columns_val aa) (B':=fun _=>[]) (D':=c_piece_columns_D aa) [] [eBox ai 30 [.slice none 0 0,.slice none 0 0],eBox ah 24 [.slice af p0.Left.length ag,.slice ac p0.Right.length ae]] [fRep (rL r_api_Point) (.slice af p0.Left.length ag) p0.Left] [0,1] [1] S (wN d) d callee36 d (by decide) d d (fun E1 w1 S1=>c_piece_columns E1 w1 p0.Left (.slice af p0.Left.length ag) aa ar S1) d (lb d) fun aT a w S=>?_
  obtain ⟨a2,a6,_,rfl,_⟩:=S.mem.know (i:=0) (e:=fRep (rL (rI .i64)) (aT) aa) d
  refine leafL ⟨d,_,_,.inl ⟨14,(.slice a2 aa.length a6),[],d,S,hz_of d,?_⟩⟩
  refine node_by (A:=anc_piece_Make_0) 9 (by kernel_rfl) (by kernel_rfl) (by kernel_rfl) (by kernel_rfl) (by kernel_rfl) [2,0,1,3,4] (by kernel_rfl) (by decide) (by decide) (fD 2 (fD 2 (fY (fF ?_ (fF ?_ (fN ?_ (fE 5 (fN ?_ (aB 8 0 5 (by decide) (trivial)))))))))) [] (fun q hq=>by cases hq) (fun hY=>absurd (hY 5 (by decide)) (by decide))
  ·refine fJ [(1,_)] 3 [none] fun G a w S=>?_
   exact sField (b:=ah) (off:=0) 1 1 S (wN d) d d d d d (lb d) fun a S=>leafL ⟨d,S⟩
  ·refine fJ [(15,_)] 4 [some 3] fun G a w S=>?_
   exact sLoad1 1 (.slice ac p0.Right.length ae) S (wN d) d d d d d d (lb d) fun a S=>leafL ⟨d,S⟩
  ·refine ⟨_,[(16,.slice ac p0.Right.length ae)],d,(srcs_of [some 4] d d d),fun G a w S=>?_⟩
   refine sCall (X:=Value) (f:=36) (vs:=[.slice ac p0.Right.length ae]) (val:=c_piece_columns_val ab) (B':=fun _=>[]) (D':=c_piece_columns_D ab) [] [eBox ai 30 [.slice none 0 0,.slice none 0 0],eBox ah 24 [.slice af p0.Left.length ag,.slice ac p0.Right.length ae]] [fRep (rL r_api_Point) (.slice ac p0.Right.length ae) p0.Right] [0,1] [1] S (wN d) d callee36 d (by decide) d d (fun E1 w1 S1=>c_piece_columns E1 w1 p0.Right (.slice ac p0.Right.length ae) ab au S1) d (lb d) fun aU a w S=>?_
   obtain ⟨a7,a8,_,rfl,_⟩:=S.mem.know (i:=0) (e:=fRep (rL (rI .i64)) (aU) ab) d
   refine leafL ⟨d,_,_,.inl ⟨17,(.slice a7 ab.length a8),[(6,18,.agg #[.slice a2 aa.length a6,.slice a7 ab.length a8])],d,S,hz_of d,?_⟩⟩
   refine node_by (A:=anc_piece_Make_0) 9 (by kernel_rfl) (by kernel_rfl) (by kernel_rfl) (by kernel_rfl) (by kernel_rfl) [6,5,2,0,1,3,4] (by kernel_rfl) (by decide) (by decide) (fD 5 (fD 5 (fY (fD 5 (fD 5 (fY (fF ?_ (fN ?_ (aB 8 0 7 (by decide) (trivial)))))))))) [] (fun q hq=>by cases hq) (fun hY=>absurd (hY 7 (by decide)) (by decide))
   ·refine fJ [(14,_),(17,_)] 0 [some 2,some 1] fun G a w S=>?_
    exact sBuild [(0,.slice a2 aa.length a6),(1,.slice a7 ab.length a8)] [.slice a2 aa.length a6,.slice a7 ab.length a8] S (wN d) d d d d (lb d) fun a S=>leafL ⟨d,S⟩
   refine ⟨_,[],d,(srcs_of [] d d d),fun G a w S=>?_⟩
   refine sAlloc (.agg #[.slice none 0 0,.slice none 0 0]) S (wN d) d d [.slice none 0 0,.slice none 0 0] d d (lb d) fun a aj w S=>leafL ⟨d,_,_,.inl ⟨5,(.pointer (some ⟨aj,0,none⟩)),[],d,S,hz_of d,?_⟩⟩
   exact nd1 aj a2 a6 a7 a8
  refine ⟨_,[],d,(srcs_of [] d d d),fun G a w S=>?_⟩
  refine sAlloc (.agg #[.slice none 0 0,.slice none 0 0]) S (wN d) d d [.slice none 0 0,.slice none 0 0] d d (lb d) fun a ak w S=>leafL ⟨d,_,_,.inl ⟨5,(.pointer (some ⟨ak,0,none⟩)),[],d,S,hz_of d,?_⟩⟩
  exact nd2 ak a2 a6
 ·refine fJ [(1,_)] 2 [none] fun G a w S=>?_
  exact sField (b:=ah) (off:=0) 1 1 S (wN d) d d d d d (lb d) fun a S=>leafL ⟨d,S⟩
 ·refine fJ [(15,_)] 3 [some 2] fun G a w S=>?_
  exact sLoad1 1 (.slice ac p0.Right.length ae) S (wN d) d d d d d d (lb d) fun a S=>leafL ⟨d,S⟩
 refine ⟨_,[],d,(srcs_of [] d d d),fun G a w S=>?_⟩
 refine sAlloc (.agg #[.slice none 0 0,.slice none 0 0]) S (wN d) d d [.slice none 0 0,.slice none 0 0] d d (lb d) fun a aO w S=>leafL ⟨d,_,_,.inl ⟨5,(.pointer (some ⟨aO,0,none⟩)),[],d,S,hz_of d,?_⟩⟩
 refine node_by (A:=anc_piece_Make_0) 9 (by kernel_rfl) (by kernel_rfl) (by kernel_rfl) (by kernel_rfl) (by kernel_rfl) [7,0,1,3,4] (by kernel_rfl) (by decide) (by decide) (fF ?_ (fF ?_ (fN ?_ (fF ?_ (fF ?_ (aB 5 3 2 (by decide) (fE 2 (fY (aB 8 0 2 (by decide) (trivial)))))))))) [] (fun q hq=>by cases hq) (fun hY=>absurd (hY 2 (by decide)) (by decide))
 ·refine fJ [(1,_)] 1 [none] fun G a w S=>?_
  exact sField (b:=ah) (off:=0) 0 0 S (wN d) d d d d d (lb d) fun a S=>leafL ⟨d,S⟩
 ·refine fJ [(12,_)] 2 [some 1] fun G a w S=>?_
  exact sLoad1 2 (.slice af p0.Left.length ag) S (wN d) d d d d d d (lb d) fun a S=>leafL ⟨d,S⟩
 ·refine ⟨_,[(13,.slice af p0.Left.length ag)],d,(srcs_of [some 2] d d d),fun G a w S=>?_⟩
  refine sCall (X:=Value) (f:=36) (vs:=[.slice af p0.Left.length ag]) (val:=c_piece_columns_val aa) (B':=fun _=>[]) (D':=c_piece_columns_D aa) [] [eBox aO 30 [.slice none 0 0,.slice none 0 0],eBox ai 30 [.slice none 0 0,.slice none 0 0],eBox ah 24 [.slice af p0.Left.length ag,.slice ac p0.Right.length ae]] [fRep (rL r_api_Point) (.slice af p0.Left.length ag) p0.Left] [0,1,2] [1] S (wN d) d callee36 d (by decide) d d (fun E1 w1 S1=>c_piece_columns E1 w1 p0.Left (.slice af p0.Left.length ag) aa ar S1) d (lb d) fun aV a w S=>?_
  obtain ⟨av,aw,_,rfl,_⟩:=S.mem.know (i:=0) (e:=fRep (rL (rI .i64)) (aV) aa) d
  refine leafL ⟨d,_,_,.inl ⟨14,(.slice av aa.length aw),[],d,S,hz_of d,?_⟩⟩
  exact nodePerm (nd2 aO av aw) [1,0,2,3,4,5] [0,1,2] [0,1,2,3] (by decide) (by decide) d d d
 ·refine fJ [(1,_)] 3 [none] fun G a w S=>?_
  exact sField (b:=ah) (off:=0) 1 1 S (wN d) d d d d d (lb d) fun a S=>leafL ⟨d,S⟩
 refine fJ [(15,_)] 4 [some 3] fun G a w S=>?_
 exact sLoad1 2 (.slice ac p0.Right.length ae) S (wN d) d d d d d d (lb d) fun a S=>leafL ⟨d,S⟩
noncomputable def slope_list_int__s1_l1 (p0:Int) (p1:Int) (p2:Int) (p3:Int):(List Int × Int)→Option ((List Int × Int) ⊕ List Int):=fun s0=>match s0 with
 | (a6,a2)=>
  if decide (a2 < p0) then
   (F_slope_Line_1_s0 a2 p1 p2 p3).bind fun a7=>
   (idxO a6 a2).bind fun aa=>
   (setO a6 a2 a7).bind fun a8=>
   some (.inl (a8,w64 (a2 + 1)))
  else
   some (.inr a6)
noncomputable def F_slope_list_int__s1 (p0:Int) (p1:Int) (p2:Int) (p3:Int):Option (List Int):=
 (makeO p0 (0:Int)).bind fun m5=>
 Option.bind (α:=List Int) (
  (whileO (slope_list_int__s1_l1 p0 p1 p2 p3) (m5,0)).bind fun a2=>
   some a2) fun o7=>
 some o7
theorem c_slope_list_int__s1 (E:Nat→Prop) (w0:World) (p0:Int) (p1:Int) (v1:Value) (p2:Int) (v2:Value) (p3:Int) (v3:Value) (r:(List Int)) (h:F_slope_list_int__s1 p0 p1 p2 p3=some r) (S:St0 E [] w0 w0 [] [fPtr (rI .i64) (v1) p1,fPtr (rI .i64) (v2) p2,fPtr (rI .i64) (v3) p3]) :
 Calls Tryd.prog 64 #[iv p0,.func (.func 65) #[] #[v1,v2,v3]] w0 (Ret (X:=Option Addr × Nat) E [] w0 (fun x=>.slice x.1 r.length x.2) (fun x=>[eRow (rI .i64) 3 (.slice x.1 r.length x.2) r]) (fun _=>[])):=by
 unfold F_slope_list_int__s1 at h
 refine sEnter (args:=[iv p0,.func (.func 65) #[] #[v1,v2,v3]]) 21 Tryd.func64 d d (by simp) S (fun a S=>?_)
 refine sSeq (fun K1 ar=>sRegion (sN S fun a S=>?_))
 refine lT (ar _ _ (sSeq (fun K2 au=>sRegion (sM S fun a S=>?_))))
 obtain ⟨m5,av,h⟩:=bS h
 refine sMake (r:=(rI .i64)) (m:=p0) (xs:=m5) (iv 0) (0:Int) 8 S (wN d) d Tryd.underlying28 d d (by decide) (fun _ _=>d) d d av d (lb d) fun a w a2 a6 S=>sN S fun a S=>?_
 refine lT (au _ _ ?_)
 obtain ⟨t8,h,g9⟩:=bS h
 refine sCut (fun a w=>∃ o7,o7=t8∧St [] E [] w0 21 a w [(5,.slice a2 o7.length a6)] [eRow (rI .i64) 3 (.slice a2 o7.length a6) o7] []) ?_ (fun a w hI=>?_)
 rotate_left
 ·obtain ⟨o7,rfl,S⟩:=hI
  have h:=g9
  try dsimp only at h
  refine sSeq (fun ay ae=>sRegion (sM S fun a S=>?_))
  refine sN S fun a S=>?_
  refine lT (ae _ _ ?_)
  obtain rfl:=tS h
  exact wp_ret (sRet (.slice a2 o7.length a6) S (rsl1 d (rvT (t:=4) (v:=.slice a2 o7.length a6) S d)) ⟨(a2,a6),d,S.mem.sel [0] [] (by decide) d d⟩)
 refine sSeq (fun az af=>sRegion (sM S fun a S=>?_))
 refine sM S fun a S=>?_
 refine lT (af _ _ (wp_block ?_))
 obtain ⟨aA,hl,aw⟩:=bS h
 refine sLoop hl (fun s0 a w=>match s0 with | (a7,a8)=>St [] E [] w0 21 a w [(1,.func (.func 65) #[] #[v1,v2,v3]),(5,.slice a2 a7.length a6),(9,iv p0),(10,iv a8)] [eRow (rI .i64) 3 (.slice a2 a7.length a6) a7] [fPtr (rI .i64) (v1) p1,fPtr (rI .i64) (v2) p2,fPtr (rI .i64) (v3) p3]) (S.fix [0] [0,1,2] (by decide) d d d) ?_
 clear hl h
 intro s0 a w c0 hI h ag
 obtain ⟨a7,a8⟩:=s0
 unfold slope_list_int__s1_l1 at h
 dsimp only at h hI
 have S:=hI
 refine sSeq (fun aC ah=>sRegion (sBin _ S (wN d) d d d (bLt _ _ _ _ .i64 a8 p0) d (lb d) fun a S=>lT (ah _ _ (sSeq (fun aG ai=>?_)))))
 rcases iS h with ⟨aa,h⟩ | ⟨aa,h⟩
 rotate_left
 ·refine sCondF S d aa ?_
  obtain rfl:=tS h
  obtain rfl:=ag _ d
  have h:=aw
  try dsimp only at h
  exact wp_exit (xThen (xThen (xHit (leafT (⟨a7,Option.some.inj h,S.fix [0] [] (by decide) d d d⟩)))))
 refine sCondT S d aa (wp_skip (leafT (ai _ _ ?_)))
 refine sSeq (fun aH aj=>wp_block ?_)
 refine sSeq (fun aI ak=>sRegion (sM S fun a S=>?_))
 refine sN S fun a S=>?_
 refine lT (ak _ _ (sRegion (sM S fun a S=>?_)))
 refine sM S fun a S=>?_
 refine sM S fun a S=>?_
 refine sM S fun a S=>?_
 obtain ⟨ac,al,h⟩:=bS h
 have S1:=S.mem
 refine sCallVQ (X:=Unit) (g:=65) (vs:=[iv a8]) (caps:=[v1,v2,v3]) (val:=fun _=>iv ac) S (wN d) d d callee65 d (S1.quiet [0,1,2] d) (fun E1 w1 S1=>c_slope_Line_1_s0 E1 w1 a8 p1 v1 p2 v2 p3 v3 ac al S1) d (lb d) fun _ a w S=>?_
 obtain ⟨aJ,am,h⟩:=bS h
 obtain ⟨ax,ao,ap⟩:=pIdxR (P:=Tryd.prog) (r:=(rI .i64)) (T:=3) (v:=.slice a2 a7.length a6) (xs:=a7) (j:=a8) 28 3 0 S Tryd.underlying28 d d am
 refine sIdxV S (wN d) d d d ao d (lb d) fun a S=>?_
 obtain ⟨aq,ab,h⟩:=bS h
 refine sStoreR (r:=(rI .i64)) (T:=3) (xs:=a7) (ys:=aq) (y:=ac) (v:=.slice a2 a7.length a6) (vq:=ax) (u:=iv ac) (j:=a8) 0 S ap (wN d) d d d d d ab d d fun a w S=>?_
 rw [setO_v ab a2 a6] at S
 refine leafL (leafB (leafT (aj _ _ ?_)))
 refine sRegion (sBin _ S (wN d) d d d (bAdd _ _ _ _ a8 1) d (lb d) fun a S=>sM S fun a S=>?_)
 exact lT (⟨(aq,w64 (a8 + 1)),(Option.some.inj h).symm,(S.fix [0] [0,1,2] (by decide) d d d)⟩)
noncomputable def F_slope_Line_s0 (p0:Int) (p1:Int) (p2:Int):Option ((List Int) × Int):=
 (F_slope_check p0 p1 p2).bind fun r7=>
 if r7 != 0 then
  some (([]:(List Int)),r7)
 else
  (F_slope_list_int__s1 (w64 (p2 + 1)) p0 p1 p2).bind fun a2=>
  some (a2,0)
theorem c_slope_Line_s0 (E:Nat→Prop) (w0:World) (p0:Int) (p1:Int) (p2:Int) (r:((List Int) × Int)) (h:F_slope_Line_s0 p0 p1 p2=some r) (S:St0 E [] w0 w0 [] []) :
 Calls Tryd.prog 50 #[iv p0,iv p1,iv p2] w0 (Ret (X:=Option Addr × Nat) E [] w0 (fun x=>.tuple #[.slice x.1 r.1.length x.2,iv r.2]) (fun x=>[eRow (rI .i64) 3 (.slice x.1 r.1.length x.2) r.1]) (fun _=>[])):=by
 unfold F_slope_Line_s0 at h
 refine sEnter (args:=[iv p0,iv p1,iv p2]) 20 Tryd.func50 d d (by simp) S (fun a S=>?_)
 refine sSeq (fun K1 ae=>sRegion (sBox (v:=iv p0) S (wN d) d d [iv p0] d d (lb d) fun a b2 w S=>sBox (v:=iv p1) S (wN d) d d [iv p1] d d (lb d) fun a b3 w S=>sBox (v:=iv p2) S (wN d) d d [iv p2] d d (lb d) fun a b4 w S=>sN S fun a S=>?_))
 refine sN S fun a S=>?_
 refine lT (ae _ _ (sSeq (fun K5 af=>sSeq (fun K6 ag=>sRegion (sLoad1 2 (iv p0) S (wN d) d d d d d d (lb d) fun a S=>sLoad1 1 (iv p1) S (wN d) d d d d d d (lb d) fun a S=>sLoad1 0 (iv p2) S (wN d) d d d d d d (lb d) fun a S=>?_)))))
 obtain ⟨r7,ah,h⟩:=bS h
 have S1:=S.mem
 refine sCq [iv p0,iv p1,iv p2] (iv r7) S callee63 (S1.quiet [] d) (fun E1 w1 S1=>c_slope_check E1 w1 p0 p1 p2 r7 ah S1) fun a w S=>?_
 refine sN S fun a S=>?_
 refine lT (ag _ _ (sSeq (fun K9 ai=>sRegion (sM S fun a S=>?_))))
 refine sBin _ S (wN d) d d d (bNe _ _ _ _ .i64 r7 0) d (lb d) fun a S=>lT (ai _ _ ?_)
 rcases iS h with ⟨a2,h⟩ | ⟨a2,h⟩
 ·refine sCondT S d a2 (sSeq (fun aj aa=>sRegion (sM S fun a S=>?_)))
  refine sN S fun a S=>?_
  refine sN S fun a S=>?_
  refine lT (aa _ _ ?_)
  obtain rfl:=tS h
  have S:=S.nilRow (rI .i64) 3 (α:=Int)
  exact wp_ret (rThen (sRet (.tuple #[.slice none 0 0,iv r7]) S (rsl2 d (rvT (t:=6) (v:=.slice none 0 0) S d) (rvT (t:=7) (v:=iv r7) S d)) ⟨(none,0),d,S.mem.sel [0] [] (by decide) d d⟩))
 refine sCondF S d a2 (wp_skip (leafT (af _ _ ?_)))
 refine sSeq (fun ak ab=>sRegion (sLoad1 0 (iv p2) S (wN d) d d d d d d (lb d) fun a S=>sBin _ S (wN d) d d d (bAdd _ _ _ _ p2 1) d (lb d) fun a S=>sFunc (g:=65) (vs:=[.pointer (some ⟨b2,0,none⟩),.pointer (some ⟨b3,0,none⟩),.pointer (some ⟨b4,0,none⟩)]) S (wN d) d d d (lb d) fun a S=>?_))
 obtain ⟨a8,ac,h⟩:=bS h
 have S:=S.shutB (r:=(rI .i64)) (T:=3) (b:=b2) (cs:=[iv p0]) 2 (iv p0) p0 d d (d)
 have S:=S.shutB (r:=(rI .i64)) (T:=3) (b:=b3) (cs:=[iv p1]) 1 (iv p1) p1 d d (d)
 have S:=S.shutB (r:=(rI .i64)) (T:=3) (b:=b4) (cs:=[iv p2]) 0 (iv p2) p2 d d (d)
 refine sCall (X:=Option Addr × Nat) (f:=64) (vs:=[iv (w64 (p2 + 1)),.func (.func 65) #[] #[.pointer (some ⟨b2,0,none⟩),.pointer (some ⟨b3,0,none⟩),.pointer (some ⟨b4,0,none⟩)]]) (val:=fun x=>.slice x.1 a8.length x.2) (B':=fun x=>[eRow (rI .i64) 3 (.slice x.1 a8.length x.2) a8]) (D':=fun _=>[]) [] [] [fPtr (rI .i64) (.pointer (some ⟨b2,0,none⟩)) p0,fPtr (rI .i64) (.pointer (some ⟨b3,0,none⟩)) p1,fPtr (rI .i64) (.pointer (some ⟨b4,0,none⟩)) p2] [] [2,1,0] S (wN d) d callee64 d (by decide) d d (fun E1 w1 S1=>c_slope_list_int__s1 E1 w1 (w64 (p2 + 1)) p0 (.pointer (some ⟨b2,0,none⟩)) p1 (.pointer (some ⟨b3,0,none⟩)) p2 (.pointer (some ⟨b4,0,none⟩)) a8 ac S1) d (lb d) fun xx a w S=>?_
 obtain ⟨a6,a7⟩:=xx
 dsimp only at S
 refine sN S fun a S=>?_
 refine sN S fun a S=>?_
 refine lT (ab _ _ ?_)
 obtain rfl:=tS h
 exact wp_ret (sRet (.tuple #[.slice a6 a8.length a7,iv 0]) S (rsl2 d (rvT (t:=6) (v:=.slice a6 a8.length a7) S d) (rvT (t:=7) (v:=iv 0) S d)) ⟨(a6,a7),d,S.mem.sel [0] [] (by decide) d d⟩)
def anc_piece_columns_s0_0:List (List Nat):=[[],[],[0,1],[0,1,2],[0,1,2,3],[],[5],[],[7],[],[],[9,10],[9,10,11],[9,10,11,12],[7,8,9,10,11,12,13],[0,1,2,3,4,5,6,7,8,9,10,11,12,13,14],[0,1,2,3,4,5,6,7,8,9,10,11,12,13,14,15],[0,1,2,3,4,5,6,7,8,9,10,11,12,13,14,15,16],[0,1,2,3,4,5,6,7,8,9,10,11,12,13,14,15,16],[0,1,2,3,4,5,6,7,8,9,10,11,12,13,14,15,16,17],[0,1,2,3,4,5,6,7,8,9,10,11,12,13,14,15,16,17,18,19]]
noncomputable def piece_columns_s0_l1 (a6:List api_Point) (p0:(List api_Point)):(List Int × Int)→Option ((List Int × Int) ⊕ List Int):=fun s0=>match s0 with
 | (a7,a2)=>
  if decide (a2 < (a6.length:Int)) then
   (idxO a6 a2).bind fun a8=>
   (idxO p0 a2).bind fun aa=>
   (F_slope_Line_s0 aa.X a8.X (w64 (a8.Y - aa.Y))).bind fun ab=>
   (sliceO ab.1 1 (ab.1.length:Int)).bind fun ac=>
   (appO a7 ac).bind fun ae=>
   some (.inl (ae,w64 (a2 + 1)))
  else
   some (.inr a7)
noncomputable def F_piece_columns_s0 (p0:(List api_Point)):Option (List Int):=
 (idxO p0 0).bind fun x5=>
 Option.bind (α:=List Int) (
  (sliceO p0 1 (p0.length:Int)).bind fun a2=>
  (whileO (piece_columns_s0_l1 a2 p0) (([x5.X]:List Int),0)).bind fun a6=>
   some a6) fun a7=>
 some a7
theorem c_piece_columns_s0 (E:Nat→Prop) (w0:World) (p0:(List api_Point)) (v0:Value) (r:(List Int)) (h:F_piece_columns_s0 p0=some r) (S:St0 E [] w0 w0 [] [fRep (rL r_api_Point) (v0) p0]) :
 Calls Tryd.prog 36 #[v0] w0 (Ret (X:=Option Addr × Nat) E [] w0 (fun x=>.slice x.1 r.length x.2) (fun x=>[eRow (rI .i64) 3 (.slice x.1 r.length x.2) r]) (fun _=>[])):=by
 unfold F_piece_columns_s0 at h
 obtain ⟨ah,ai,_,rfl,_⟩:=S.know (i:=0) (e:=fRep (rL r_api_Point) (v0) p0) d
 refine sEnter (args:=[.slice ah p0.length ai]) 46 Tryd.func36 d d (by simp) S (fun a S=>?_)
 refine sSeq (fun K3 bi=>sRegion (sN S fun a S=>?_))
 refine lT (bi _ _ (sSeq (fun K4 bj=>sRegion (sM S fun a S=>?_))))
 obtain ⟨x5,bl,h⟩:=bS h
 obtain ⟨q7,bm,S⟩:=pIdx (P:=Tryd.prog) (r:=r_api_Point) (v:=.slice ah p0.length ai) (xs:=p0) (j:=0) 22 35 0 S Tryd.underlying22 d d bl
 refine sIdxV S (wN d) d d d bm d (lb d) fun a S=>?_
 obtain ⟨q9,au,S⟩:=pFld (P:=Tryd.prog) (r:=r_api_Point) (s2:=(rI .i64)) (g:=(·.X)) (q:=q7) (z:=x5) 35 0 0 0 S d d comp_api_Point_X
 refine sFldV (q:=q7) S (wN d) d d au d (lb d) fun a S=>?_
 obtain ⟨ba,S⟩:=pLoad (r:=(rI .i64)) (q:=q9) (x:=x5.X) 0 S d
 obtain rfl:ba=iv x5.X:=S.mem.know (i:=1) (e:=fRep (rI .i64) (ba) x5.X) d
 refine sLoadV1 (vq:=q9) 0 (iv x5.X) S (wN d) d d d d d (lb d) fun a S=>sLit (r:=(rI .i64)) (T:=3) (xs:=([x5.X]:List Int)) [(0,iv x5.X)] 1 [iv x5.X] [iv x5.X] (iv 0) 8 S (wN d) d d Tryd.underlying28 d (by decide) (by decide) (by kernel_rfl) d (fun E1 w1 hE=>All.cons d (All.nil _ _ _)) d d (lb d) fun a w av aw S=>?_
 refine sN S fun a S=>?_
 refine lT (bj _ _ ?_)
 obtain ⟨bn,h,bo⟩:=bS h
 refine sCut (fun a w=>∃ ao,ao=bn∧∃ ae,∃ af,St [] E [] w0 46 a w [(3,.slice ae ao.length af)] [eRow (rI .i64) 3 (.slice ae ao.length af) ao] []) ?_ (fun a w hI=>?_)
 rotate_left
 ·obtain ⟨ao,rfl,ae,af,S⟩:=hI
  have h:=bo
  try dsimp only at h
  refine sSeq (fun br ax=>sRegion (sM S fun a S=>?_))
  refine sN S fun a S=>?_
  refine lT (ax _ _ ?_)
  obtain rfl:=tS h
  exact wp_ret (sRet (.slice ae ao.length af) S (rsl1 d (rvT (t:=2) (v:=.slice ae ao.length af) S d)) ⟨(ae,af),d,S.mem.sel [0] [] (by decide) d d⟩)
 refine sSeq (fun bt ay=>sRegion (sM S fun a S=>?_))
 obtain ⟨ak,az,h⟩:=bS h
 refine sSlice (r:=r_api_Point) (v:=.slice ah p0.length ai) (xs:=p0) (vlo:=(some (.int .i64 1))) (vhi:=none) (lo':=1) (hi':=(p0.length:Int)) 4 S (wN d) d Tryd.underlying22 d d d d d (.inl d) (.inr ⟨d,d⟩) az d (lb d) fun a al am S=>?_
 refine sLen S (wN d) d Tryd.underlying22 d d (lb d) fun a S=>sM S fun a S=>?_
 refine lT (ay _ _ (wp_block ?_))
 obtain ⟨bu,hl,bp⟩:=bS h
 refine sLoop hl (fun s0 a w=>match s0 with | (aj,ag)=>∃ ab,∃ ac,St [] E [] w0 46 a w [(0,.slice ah p0.length ai),(3,.slice ab aj.length ac),(14,.slice al ak.length am),(15,iv (ak.length:Int)),(16,iv ag)] [eRow (rI .i64) 3 (.slice ab aj.length ac) aj] [fRep (rL r_api_Point) (.slice ah p0.length ai) p0,fRep (rL r_api_Point) (.slice al ak.length am) ak]) ⟨av,aw,S.fix [0] [5,0] (by decide) d d d⟩ ?_
 clear hl h
 intro s0 a w c0 hI h aA
 obtain ⟨aj,ag⟩:=s0
 unfold piece_columns_s0_l1 at h
 dsimp only at h hI
 obtain ⟨ab,ac,S⟩:=hI
 refine sSeq (fun bv aC=>sRegion (sBin _ S (wN d) d d d (bLt _ _ _ _ .i64 ag (ak.length:Int)) d (lb d) fun a S=>lT (aC _ _ (sSeq (fun bw aG=>?_)))))
 rcases iS h with ⟨ap,h⟩ | ⟨ap,h⟩
 rotate_left
 ·refine sCondF S d ap ?_
  obtain rfl:=tS h
  obtain rfl:=aA _ d
  have h:=bp
  try dsimp only at h
  exact wp_exit (xThen (xThen (xHit (leafT (⟨aj,Option.some.inj h,ab,ac,S.fix [0] [] (by decide) d d d⟩)))))
 refine sCondT S d ap (wp_skip (leafT (aG _ _ ?_)))
 refine sSeq (fun bx aH=>wp_block ?_)
 refine sSeq (fun bz aI=>sRegion (sM S fun a S=>?_))
 obtain ⟨a6,aJ,h⟩:=bS h
 obtain ⟨bb,aK,S⟩:=pIdx (P:=Tryd.prog) (r:=r_api_Point) (v:=.slice al ak.length am) (xs:=ak) (j:=ag) 22 35 1 S Tryd.underlying22 d d aJ
 refine sIdxV S (wN d) d d d aK d (lb d) fun a S=>?_
 obtain ⟨bc,S⟩:=pLoad (r:=r_api_Point) (q:=bb) (x:=a6) 0 S d
 obtain rfl:bc=.agg #[iv a6.X,iv a6.Y]:=S.mem.know (i:=1) (e:=fRep r_api_Point (bc) a6) d
 refine sLoadVN (vq:=bb) 0 [iv a6.X,iv a6.Y] S (wN d) d d d d d d (lb d) fun a S=>sAlloc (.agg #[iv 0,iv 0]) S (wN d) d d [iv 0,iv 0] d d (lb d) fun a aq w S=>sN S fun a S=>?_
 refine sStore (p:=aq) (off:=0) (T:=35) (vs:=[iv 0,iv 0]) (v:=.agg #[iv a6.X,iv a6.Y]) 0 [iv a6.X,iv a6.Y] S (wN d) d d d d d d d (by simp) d fun a w S=>lT (aI _ _ (sSeq (fun bA aL=>?_)))
 obtain ⟨aa,ar,h⟩:=bS h
 obtain ⟨a2,aM,h⟩:=bS h
 obtain ⟨aO,aP,S⟩:=pIdx (P:=Tryd.prog) (r:=r_api_Point) (v:=.slice ah p0.length ai) (xs:=p0) (j:=ag) 22 35 3 S Tryd.underlying22 d d ar
 obtain ⟨aQ,aR,S⟩:=pFld (P:=Tryd.prog) (r:=r_api_Point) (s2:=(rI .i64)) (g:=(·.X)) (q:=aO) (z:=aa) 35 0 0 0 S d d comp_api_Point_X
 obtain ⟨bf,S⟩:=pLoad (r:=(rI .i64)) (q:=aQ) (x:=aa.X) 0 S d
 obtain rfl:bf=iv aa.X:=S.mem.know (i:=1) (e:=fRep (rI .i64) (bf) aa.X) d
 obtain ⟨aS,aT,S⟩:=pIdx (P:=Tryd.prog) (r:=r_api_Point) (v:=.slice ah p0.length ai) (xs:=p0) (j:=ag) 22 35 7 S Tryd.underlying22 d d ar
 obtain ⟨aU,aV,S⟩:=pFld (P:=Tryd.prog) (r:=r_api_Point) (s2:=(rI .i64)) (g:=(·.Y)) (q:=aS) (z:=aa) 35 1 0 1 S d d comp_api_Point_Y
 obtain ⟨bg,S⟩:=pLoad (r:=(rI .i64)) (q:=aU) (x:=aa.Y) 0 S d
 obtain rfl:bg=iv aa.Y:=S.mem.know (i:=1) (e:=fRep (rI .i64) (bg) aa.Y) d
 refine sDraw (nf:=[15]) (W:=[(0,22,.slice ah p0.length ai),(1,23,iv ag),(2,24,aO),(3,25,aQ),(4,26,iv aa.X),(5,27,.pointer (some ⟨aq,0,none⟩)),(6,28,iv a6.X),(7,29,.pointer (some ⟨aq,1,none⟩)),(8,30,iv a6.Y),(9,31,.slice ah p0.length ai),(10,32,iv ag),(11,33,aS),(12,34,aU),(13,35,iv aa.Y),(14,36,iv (w64 (a6.Y - aa.Y)))]) d S ?_
 refine node_by (A:=anc_piece_columns_s0_0) 21 (by kernel_rfl) (by kernel_rfl) (by kernel_rfl) (by kernel_rfl) (by kernel_rfl) [0,1,2,3,4,5,6,7,8,9,10,11,12,13,14] (by kernel_rfl) (by decide) (by decide) (fF ?_ (fF ?_ (fF ?_ (fF ?_ (fF ?_ (fF ?_ (fF ?_ (fF ?_ (fF ?_ (fF ?_ (fF ?_ (fF ?_ (fF ?_ (fF ?_ (fF ?_ (fN ?_ (fE 15 (fE 15 (fE 15 (fE 15 (fE 15 (trivial)))))))))))))))))))))) [] (fun q hq=>by cases hq) (fun hY=>absurd (hY 15 (by decide)) (by decide))
 ·exact fM 0 none d d d d (.inl d) d d d
 ·exact fM 1 none d d d d (.inl d) d d d
 ·refine fJ [(22,_),(23,_)] 2 [some 0,some 1] fun G a w S=>?_
  exact sIdxV S (wN d) d d d aP d (lb d) fun a S=>leafL ⟨d,S⟩
 ·refine fJ [(24,_)] 3 [some 2] fun G a w S=>?_
  exact sFldV (q:=aO) S (wN d) d d aR d (lb d) fun a S=>leafL ⟨d,S⟩
 ·refine fJ [(25,_)] 4 [some 3] fun G a w S=>?_
  exact sLoadV1 (vq:=aQ) 4 (iv aa.X) S (wN d) d d d d d (lb d) fun a S=>leafL ⟨d,S⟩
 ·refine fJ [(5,_)] 5 [none] fun G a w S=>?_
  exact sField (b:=aq) (off:=0) 0 0 S (wN d) d d d d d (lb d) fun a S=>leafL ⟨d,S⟩
 ·refine fJ [(27,_)] 6 [some 5] fun G a w S=>?_
  exact sLoad1 0 (iv a6.X) S (wN d) d d d d d d (lb d) fun a S=>leafL ⟨d,S⟩
 ·refine fJ [(5,_)] 7 [none] fun G a w S=>?_
  exact sField (b:=aq) (off:=0) 1 1 S (wN d) d d d d d (lb d) fun a S=>leafL ⟨d,S⟩
 ·refine fJ [(29,_)] 8 [some 7] fun G a w S=>?_
  exact sLoad1 0 (iv a6.Y) S (wN d) d d d d d d (lb d) fun a S=>leafL ⟨d,S⟩
 ·exact fM 9 none d d d d (.inl d) d d d
 ·exact fM 10 none d d d d (.inl d) d d d
 ·refine fJ [(31,_),(32,_)] 11 [some 9,some 10] fun G a w S=>?_
  exact sIdxV S (wN d) d d d aT d (lb d) fun a S=>leafL ⟨d,S⟩
 ·refine fJ [(33,_)] 12 [some 11] fun G a w S=>?_
  exact sFldV (q:=aS) S (wN d) d d aV d (lb d) fun a S=>leafL ⟨d,S⟩
 ·refine fJ [(34,_)] 13 [some 12] fun G a w S=>?_
  exact sLoadV1 (vq:=aU) 0 (iv aa.Y) S (wN d) d d d d d (lb d) fun a S=>leafL ⟨d,S⟩
 ·refine fJ [(30,_),(35,_)] 14 [some 8,some 13] fun G a w S=>?_
  exact sBin _ S (wN d) d d d (bSub _ _ _ _ a6.Y aa.Y) d (lb d) fun a S=>leafL ⟨d,S⟩
 refine ⟨_,[(26,iv aa.X),(28,iv a6.X),(36,iv (w64 (a6.Y - aa.Y)))],d,(srcs_of [some 4,some 6,some 14] d d d),fun G a w S=>?_⟩
 refine sCall (X:=Option Addr × Nat) (f:=50) (vs:=[iv aa.X,iv a6.X,iv (w64 (a6.Y - aa.Y))]) (val:=fun x=>.tuple #[.slice x.1 a2.1.length x.2,iv a2.2]) (B':=fun x=>[eRow (rI .i64) 3 (.slice x.1 a2.1.length x.2) a2.1]) (D':=fun _=>[]) [] [eBox aq 35 [iv a6.X,iv a6.Y],eRow (rI .i64) 3 (.slice ab aj.length ac) aj] [] [0,1] [] S (wN d) d callee50 d (by decide) d d (fun E1 w1 S1=>c_slope_Line_s0 E1 w1 aa.X a6.X (w64 (a6.Y - aa.Y)) a2 aM S1) d (lb d) fun xx a w S=>?_
 obtain ⟨a7,a8⟩:=xx
 dsimp only at S
 refine leafL ⟨d,_,_,.inl ⟨37,(.tuple #[.slice a7 a2.1.length a8,iv a2.2]),[(16,21,.tuple #[.slice a7 a2.1.length a8,iv a2.2]),(17,38,.slice a7 a2.1.length a8),(18,39,iv a2.2),(19,6,.slice a7 a2.1.length a8),(20,7,iv a2.2)],d,S,hz_of d,?_⟩⟩
 refine node_by (A:=anc_piece_columns_s0_0) 21 (by kernel_rfl) (by kernel_rfl) (by kernel_rfl) (by kernel_rfl) (by kernel_rfl) [16,17,18,19,20,15,0,1,2,3,4,5,6,7,8,9,10,11,12,13,14] (by kernel_rfl) (by decide) (by decide) (fD 15 (fD 15 (fD 15 (fD 15 (fD 15 (fD 15 (fD 15 (fD 15 (fD 15 (fD 15 (fD 15 (fD 15 (fD 15 (fD 15 (fD 15 (fY (fF ?_ (fF ?_ (fF ?_ (fF ?_ (fF ?_ (trivial)))))))))))))))))))))) [(0,.slice ah p0.length ai),(3,.slice ab aj.length ac),(6,.slice a7 a2.1.length a8),(14,.slice al ak.length am),(15,iv (ak.length:Int)),(16,iv ag)] (fin_of [none,none,some 3,none,none,none] d (by kernel_rfl) (by kernel_rfl)) (fun _ a w S=>?_)
 ·exact fM 0 (some 5) d d d d (.inl d) d d d
 ·refine fJ [(21,_)] 1 [some 0] fun G a w S=>?_
  exact sExtract (vs:=[.slice a7 a2.1.length a8,iv a2.2]) (.slice a7 a2.1.length a8) S (wN d) d d d d (lb d) fun a S=>leafL ⟨d,S⟩
 ·refine fJ [(21,_)] 2 [some 0] fun G a w S=>?_
  exact sExtract (vs:=[.slice a7 a2.1.length a8,iv a2.2]) (iv a2.2) S (wN d) d d d d (lb d) fun a S=>leafL ⟨d,S⟩
 ·exact fM 3 (some 1) d d d d (.inr d) d d d
 ·exact fM 4 (some 2) d d d d (.inr d) d d d
 refine leafT (aL _ _ ?_)
 refine sRegion (sM S fun a S=>?_)
 refine sM S fun a S=>?_
 have S:=S.shutR (r:=(rI .i64)) (T:=3) (v:=.slice a7 a2.1.length a8) (xs:=a2.1) 0 d
 obtain ⟨bh,aW,h⟩:=bS h
 refine sSlice (r:=(rI .i64)) (v:=.slice a7 a2.1.length a8) (xs:=a2.1) (vlo:=(some (.int .i64 1))) (vhi:=none) (lo':=1) (hi':=(a2.1.length:Int)) 0 S (wN d) d Tryd.underlying28 d d d d d (.inl d) (.inr ⟨d,d⟩) aW d (lb d) fun a aX aZ S=>?_
 obtain ⟨bq,b0,h⟩:=bS h
 refine sApp (r:=(rI .i64)) (T:=3) (xs:=aj) (ys:=bh) (v:=.slice ab aj.length ac) (u:=.slice aX bh.length aZ) 1 (iv 0) 8 S (wN d) d Tryd.underlying28 d d (by decide) d d d (src_D 0 S.mem d) b0 d (lb d) fun a w b1 b8 S=>sN S fun a S=>?_
 refine leafL (leafB (leafT (aH _ _ ?_)))
 refine sRegion (sBin _ S (wN d) d d d (bAdd _ _ _ _ ag 1) d (lb d) fun a S=>sM S fun a S=>?_)
 exact lT (⟨(bq,w64 (ag + 1)),(Option.some.inj h).symm,⟨b1,b8,S.fix [0] [13,14] (by decide) d d d⟩⟩)
def anc_piece_Make_s0_0:List (List Nat):=[[],[0],[0,1],[],[3],[0,1,2,3,4],[0,1,2,3,4,5],[],[0,1,2,3,4,5,6,7]]
noncomputable def F_piece_Make_s0 (p0:api_Shape):Option (api_Piece × Int):=
 (F_piece_shape p0).bind fun a2=>
 if a2 != 0 then
  some ((api_Piece.mk ([]:(List Int)) ([]:(List Int))),a2)
 else
  (F_piece_columns_s0 p0.Left).bind fun a6=>
  (F_piece_columns_s0 p0.Right).bind fun a7=>
  (F_piece_Check (api_Piece.mk a6 a7)).bind fun a8=>
  if a8 != 0 then
   some ((api_Piece.mk ([]:(List Int)) ([]:(List Int))),16)
  else
   some ((api_Piece.mk a6 a7),0)
theorem c_piece_Make_s0 (E:Nat→Prop) (w0:World) (p0:api_Shape) (v0:Value) (r:(api_Piece × Int)) (h:F_piece_Make_s0 p0=some r) (S:St0 E [] w0 w0 [] [fRep r_api_Shape (v0) p0]) :
 Calls Tryd.prog 12 #[v0] w0 (Ret (X:=Option Addr × Nat × Option Addr × Nat) E [] w0 (fun x=>.tuple #[.agg #[.slice x.1 r.1.Left.length x.2.1,.slice x.2.2.1 r.1.Right.length x.2.2.2],iv r.2]) (fun x=>[eRow (rI .i64) 3 (.slice x.1 r.1.Left.length x.2.1) r.1.Left,eRow (rI .i64) 3 (.slice x.2.2.1 r.1.Right.length x.2.2.2) r.1.Right]) (fun _=>[])):=by
 unfold F_piece_Make_s0 at h
 obtain ⟨u1,u2,rfl,aP,aQ⟩:=S.know (i:=0) (e:=fRep r_api_Shape (v0) p0) d
 have S:=S.learn (fRep (rL r_api_Point) u1 p0.Left) aP
 obtain ⟨af,ag,_,rfl,_⟩:=aP
 have S:=S.learn (fRep (rL r_api_Point) u2 p0.Right) aQ
 obtain ⟨ac,ae,_,rfl,_⟩:=aQ
 refine sEnter (args:=[.agg #[.slice af p0.Left.length ag,.slice ac p0.Right.length ae]]) 24 Tryd.func12 d d (by simp) S (fun a S=>?_)
 refine sSeq (fun K9 aR=>sRegion (sBox (v:=.agg #[.slice af p0.Left.length ag,.slice ac p0.Right.length ae]) S (wN d) d d [.slice af p0.Left.length ag,.slice ac p0.Right.length ae] d d (lb d) fun a ah w S=>sAlloc (.agg #[.slice none 0 0,.slice none 0 0]) S (wN d) d d [.slice none 0 0,.slice none 0 0] d d (lb d) fun a ai w S=>sN S fun a S=>?_))
 refine lT (aR _ _ (sSeq (fun aS ax=>sSeq (fun aT ay=>sRegion (sLoadN (p:=ah) (off:=0) (T:=24) (vs:=[.slice af p0.Left.length ag,.slice ac p0.Right.length ae]) 1 [.slice af p0.Left.length ag,.slice ac p0.Right.length ae] S (wN d) d d d d d d d (lb d) fun a S=>?_)))))
 obtain ⟨aq,az,h⟩:=bS h
 have S1:=S.mem
 refine sCq [.agg #[.slice af p0.Left.length ag,.slice ac p0.Right.length ae]] (iv aq) S callee35 (S1.quiet [2] d) (fun E1 w1 S1=>c_piece_shape E1 w1 p0 (.agg #[.slice af p0.Left.length ag,.slice ac p0.Right.length ae]) aq az S1) fun a w S=>?_
 refine sN S fun a S=>?_
 refine lT (ay _ _ (sSeq (fun aU aA=>sRegion (sM S fun a S=>?_))))
 refine sBin _ S (wN d) d d d (bNe _ _ _ _ .i64 aq 0) d (lb d) fun a S=>lT (aA _ _ ?_)
 rcases iS h with ⟨al,h⟩ | ⟨al,h⟩
 ·refine sCondT S d al (sSeq (fun aV aC=>sRegion (sBuild [] [.slice none 0 0,.slice none 0 0] S (wN d) d d d d (lb d) fun a S=>sM S fun a S=>?_)))
  refine sStore (p:=ai) (off:=0) (T:=30) (vs:=[.slice none 0 0,.slice none 0 0]) (v:=.agg #[.slice none 0 0,.slice none 0 0]) 0 [.slice none 0 0,.slice none 0 0] S (wN d) d d d d d d d (by simp) d fun a w S=>sN S fun a S=>?_
  refine lT (aC _ _ ?_)
  obtain rfl:=tS h
  have S:=S.nilRow (rI .i64) 3 (α:=Int)
  have S:=S.nilRow (rI .i64) 3 (α:=Int)
  exact wp_ret (rThen (sRet (.tuple #[.agg #[.slice none 0 0,.slice none 0 0],iv aq]) S (rsl2 d (rvN (c:=2) (t:=30) (T:=30) (p:=ai) 2 [.slice none 0 0,.slice none 0 0] S d d d d) (rvT (t:=3) (v:=iv aq) S d)) ⟨(none,0,none,0),d,S.mem.sel [1,0] [] (by decide) d d⟩))
 refine sCondF S d al (wp_skip (leafT (ax _ _ ?_)))
 refine sSeq (fun aW aG=>?_)
 obtain ⟨aa,ar,h⟩:=bS h
 obtain ⟨ab,au,h⟩:=bS h
 refine sDraw (nf:=[2,5,7,8]) (W:=[(0,12,.pointer (some ⟨ah,0,none⟩)),(1,13,.slice af p0.Left.length ag),(3,15,.pointer (some ⟨ah,1,none⟩)),(4,16,.slice ac p0.Right.length ae)]) d S ?_
 refine nodeCut (fun N W L D=>∀ aj a2 a6 a7 a8,N [7,5,2] ((7,5,.pointer (some ⟨aj,0,none⟩)) :: (6,18,.agg #[.slice a2 aa.length a6,.slice a7 ab.length a8]) :: (5,17,.slice a7 ab.length a8) :: (2,14,.slice a2 aa.length a6) :: W) ((eBox aj 30 [.slice none 0 0,.slice none 0 0]) :: (eRow (rI .i64) 3 (.slice a7 ab.length a8) ab) :: (eRow (rI .i64) 3 (.slice a2 aa.length a6) aa) :: L) (D)) (fun aj a2 a6 a7 a8=>?_) fun nd1=>?_
 ·refine node_by (A:=anc_piece_Make_s0_0) 9 (by kernel_rfl) (by kernel_rfl) (by kernel_rfl) (by kernel_rfl) (by kernel_rfl) [7,6,5,2,0,1,3,4] (by kernel_rfl) (by decide) (by decide) (fD 5 (fD 5 (fY (fD 5 (fD 5 (fY (fF ?_ (fY (fN ?_ (trivial)))))))))) [] (fun q hq=>by cases hq) (fun hY=>absurd (hY 8 (by decide)) (by decide))
  ·refine fJ [(14,_),(17,_)] 1 [some 3,some 2] fun G a w S=>?_
   exact sBuild [(0,.slice a2 aa.length a6),(1,.slice a7 ab.length a8)] [.slice a2 aa.length a6,.slice a7 ab.length a8] S (wN d) d d d d (lb d) fun a S=>leafL ⟨d,S⟩
  refine ⟨_,[(5,.pointer (some ⟨aj,0,none⟩)),(18,.agg #[.slice a2 aa.length a6,.slice a7 ab.length a8])],d,(srcs_of [some 0,some 1] d d d),fun G a w S=>?_⟩
  refine sStore (p:=aj) (off:=0) (T:=30) (vs:=[.slice none 0 0,.slice none 0 0]) (v:=.agg #[.slice a2 aa.length a6,.slice a7 ab.length a8]) 0 [.slice a2 aa.length a6,.slice a7 ab.length a8] S (wN d) d d d d d d d (by simp) d fun a w S=>leafL ⟨d,_,_,.inr ⟨[],d,S,hz_of d,?_⟩⟩
  refine node_by (A:=anc_piece_Make_s0_0) 9 (by kernel_rfl) (by kernel_rfl) (by kernel_rfl) (by kernel_rfl) (by kernel_rfl) [7,6,5,2,0,1,3,4] (by kernel_rfl) (by decide) (by decide) (fD 8 (fD 8 (fY (fD 8 (fD 8 (fY (fD 8 (fY (fY (trivial)))))))))) [(2,.pointer (some ⟨ai,0,none⟩)),(5,.pointer (some ⟨aj,0,none⟩))] (fin_of [none,some 0] d (by kernel_rfl) (by kernel_rfl)) (fun _ a w S=>?_)
  refine leafT (aG _ _ ?_)
  refine sSeq (fun aX aH=>sSeq (fun aZ aI=>sRegion (sLoadN (p:=aj) (off:=0) (T:=30) (vs:=[.slice a2 aa.length a6,.slice a7 ab.length a8]) 0 [.slice a2 aa.length a6,.slice a7 ab.length a8] S (wN d) d d d d d d d (lb d) fun a S=>?_)))
  obtain ⟨aJ,aK,h⟩:=bS h
  have S1:=S.mem
  have S1:=S1.shutR (r:=(rI .i64)) (T:=3) (v:=.slice a2 aa.length a6) (xs:=aa) 2 d
  have S1:=S1.shutR (r:=(rI .i64)) (T:=3) (v:=.slice a7 ab.length a8) (xs:=ab) 1 d
  have S1:=S1.learn (fRep r_api_Piece (.agg #[.slice a2 aa.length a6,.slice a7 ab.length a8]) (api_Piece.mk aa ab)) ⟨_,_,d,S1.know (i:=1) (e:=fRep (rL (rI .i64)) (.slice a2 aa.length a6) aa) d,S1.know (i:=0) (e:=fRep (rL (rI .i64)) (.slice a7 ab.length a8) ab) d⟩
  refine sCq [.agg #[.slice a2 aa.length a6,.slice a7 ab.length a8]] (iv aJ) S callee13 (S1.quiet [0] d) (fun E1 w1 S1=>c_piece_Check E1 w1 (api_Piece.mk aa ab) (.agg #[.slice a2 aa.length a6,.slice a7 ab.length a8]) aJ aK S1) fun a w S=>?_
  refine sBin _ S (wN d) d d d (bNe _ _ _ _ .i64 aJ 0) d (lb d) fun a S=>lT (aI _ _ ?_)
  rcases iS h with ⟨am,h⟩ | ⟨am,h⟩
  ·refine sCondT S d am (sSeq (fun b0 aL=>sRegion (sBuild [] [.slice none 0 0,.slice none 0 0] S (wN d) d d d d (lb d) fun a S=>sStore (p:=ai) (off:=0) (T:=30) (vs:=[.slice none 0 0,.slice none 0 0]) (v:=.agg #[.slice none 0 0,.slice none 0 0]) 3 [.slice none 0 0,.slice none 0 0] S (wN d) d d d d d d d (by simp) d fun a w S=>sN S fun a S=>?_)))
   refine lT (aL _ _ ?_)
   obtain rfl:=tS h
   have S:=S.nilRow (rI .i64) 3 (α:=Int)
   have S:=S.nilRow (rI .i64) 3 (α:=Int)
   exact wp_ret (rThen (sRet (.tuple #[.agg #[.slice none 0 0,.slice none 0 0],iv 16]) S (rsl2 d (rvN (c:=2) (t:=30) (T:=30) (p:=ai) 2 [.slice none 0 0,.slice none 0 0] S d d d d) (rvT (t:=3) (v:=iv 16) S d)) ⟨(none,0,none,0),d,S.mem.sel [1,0] [] (by decide) d d⟩))
  refine sCondF S d am (wp_skip (leafT (aH _ _ ?_)))
  refine sSeq (fun b1 aM=>sRegion (sLoadN (p:=aj) (off:=0) (T:=30) (vs:=[.slice a2 aa.length a6,.slice a7 ab.length a8]) 0 [.slice a2 aa.length a6,.slice a7 ab.length a8] S (wN d) d d d d d d d (lb d) fun a S=>sStore (p:=ai) (off:=0) (T:=30) (vs:=[.slice none 0 0,.slice none 0 0]) (v:=.agg #[.slice a2 aa.length a6,.slice a7 ab.length a8]) 3 [.slice a2 aa.length a6,.slice a7 ab.length a8] S (wN d) d d d d d d d (by simp) d fun a w S=>sN S fun a S=>?_))
  refine lT (aM _ _ ?_)
  obtain rfl:=tS h
  exact wp_ret (sRet (.tuple #[.agg #[.slice a2 aa.length a6,.slice a7 ab.length a8],iv 0]) S (rsl2 d (rvN (c:=2) (t:=30) (T:=30) (p:=ai) 0 [.slice a2 aa.length a6,.slice a7 ab.length a8] S d d d d) (rvT (t:=3) (v:=iv 0) S d)) ⟨(a2,a6,a7,a8),d,S.mem.sel [3,2] [] (by decide) d d⟩)
 refine nodeCut (fun N W L D=>∀ ak a2 a6,N [7,2] ((7,5,.pointer (some ⟨ak,0,none⟩)) :: (2,14,.slice a2 aa.length a6) :: W) ((eBox ak 30 [.slice none 0 0,.slice none 0 0]) :: (eRow (rI .i64) 3 (.slice a2 aa.length a6) aa) :: L) (D)) (fun ak a2 a6=>?_) fun nd2=>?_
 ·refine node_by (A:=anc_piece_Make_s0_0) 9 (by kernel_rfl) (by kernel_rfl) (by kernel_rfl) (by kernel_rfl) (by kernel_rfl) [7,2,0,1,3,4] (by kernel_rfl) (by decide) (by decide) (fD 2 (fD 2 (fY (fF ?_ (fF ?_ (fN ?_ (fE 5 (fY (aB 8 0 5 (by decide) (trivial)))))))))) [] (fun q hq=>by cases hq) (fun hY=>absurd (hY 5 (by decide)) (by decide))
  ·refine fJ [(1,_)] 4 [none] fun G a w S=>?_
   exact sField (b:=ah) (off:=0) 1 1 S (wN d) d d d d d (lb d) fun a S=>leafL ⟨d,S⟩
  ·refine fJ [(15,_)] 5 [some 4] fun G a w S=>?_
   exact sLoad1 3 (.slice ac p0.Right.length ae) S (wN d) d d d d d d (lb d) fun a S=>leafL ⟨d,S⟩
  refine ⟨_,[(16,.slice ac p0.Right.length ae)],d,(srcs_of [some 5] d d d),fun G a w S=>?_⟩
  refine sCall (X:=Option Addr × Nat) (f:=36) (vs:=[.slice ac p0.Right.length ae]) (val:=fun x=>.slice x.1 ab.length x.2) (B':=fun x=>[eRow (rI .i64) 3 (.slice x.1 ab.length x.2) ab]) (D':=fun _=>[]) [] [eBox ak 30 [.slice none 0 0,.slice none 0 0],eRow (rI .i64) 3 (.slice a2 aa.length a6) aa,eBox ai 30 [.slice none 0 0,.slice none 0 0],eBox ah 24 [.slice af p0.Left.length ag,.slice ac p0.Right.length ae]] [fRep (rL r_api_Point) (.slice ac p0.Right.length ae) p0.Right] [0,1,2,3] [0] S (wN d) d callee36 d (by decide) d d (fun E1 w1 S1=>c_piece_columns_s0 E1 w1 p0.Right (.slice ac p0.Right.length ae) ab au S1) d (lb d) fun xx a w S=>?_
  obtain ⟨ao,ap⟩:=xx
  dsimp only at S
  refine leafL ⟨d,_,_,.inl ⟨17,(.slice ao ab.length ap),[(6,18,.agg #[.slice a2 aa.length a6,.slice ao ab.length ap])],d,S,hz_of d,?_⟩⟩
  exact nodePerm (nd1 ak a2 a6 ao ap) [2,0,1,3,4,5,6,7] [1,0,2,3,4] [0,1,2] (by decide) (by decide) d d d
 refine node_by (A:=anc_piece_Make_s0_0) 9 (by kernel_rfl) (by kernel_rfl) (by kernel_rfl) (by kernel_rfl) (by kernel_rfl) [0,1,3,4] (by kernel_rfl) (by decide) (by decide) (fF ?_ (fF ?_ (fN ?_ (fF ?_ (fF ?_ (aB 5 3 2 (by decide) (fE 2 (fN ?_ (aB 8 0 2 (by decide) (trivial)))))))))) [] (fun q hq=>by cases hq) (fun hY=>absurd (hY 2 (by decide)) (by decide))
 ·refine fJ [(1,_)] 0 [none] fun G a w S=>?_
  exact sField (b:=ah) (off:=0) 0 0 S (wN d) d d d d d (lb d) fun a S=>leafL ⟨d,S⟩
 ·refine fJ [(12,_)] 1 [some 0] fun G a w S=>?_
  exact sLoad1 1 (.slice af p0.Left.length ag) S (wN d) d d d d d d (lb d) fun a S=>leafL ⟨d,S⟩
 ·refine ⟨_,[(13,.slice af p0.Left.length ag)],d,(srcs_of [some 1] d d d),fun G a w S=>?_⟩
  refine sCall (X:=Option Addr × Nat) (f:=36) (vs:=[.slice af p0.Left.length ag]) (val:=fun x=>.slice x.1 aa.length x.2) (B':=fun x=>[eRow (rI .i64) 3 (.slice x.1 aa.length x.2) aa]) (D':=fun _=>[]) [] [eBox ai 30 [.slice none 0 0,.slice none 0 0],eBox ah 24 [.slice af p0.Left.length ag,.slice ac p0.Right.length ae]] [fRep (rL r_api_Point) (.slice af p0.Left.length ag) p0.Left] [0,1] [1] S (wN d) d callee36 d (by decide) d d (fun E1 w1 S1=>c_piece_columns_s0 E1 w1 p0.Left (.slice af p0.Left.length ag) aa ar S1) d (lb d) fun xx a w S=>?_
  obtain ⟨a2,a6⟩:=xx
  dsimp only at S
  refine leafL ⟨d,_,_,.inl ⟨14,(.slice a2 aa.length a6),[],d,S,hz_of d,?_⟩⟩
  refine node_by (A:=anc_piece_Make_s0_0) 9 (by kernel_rfl) (by kernel_rfl) (by kernel_rfl) (by kernel_rfl) (by kernel_rfl) [2,0,1,3,4] (by kernel_rfl) (by decide) (by decide) (fD 2 (fD 2 (fY (fF ?_ (fF ?_ (fN ?_ (fE 5 (fN ?_ (aB 8 0 5 (by decide) (trivial)))))))))) [] (fun q hq=>by cases hq) (fun hY=>absurd (hY 5 (by decide)) (by decide))
  ·refine fJ [(1,_)] 3 [none] fun G a w S=>?_
   exact sField (b:=ah) (off:=0) 1 1 S (wN d) d d d d d (lb d) fun a S=>leafL ⟨d,S⟩
  ·refine fJ [(15,_)] 4 [some 3] fun G a w S=>?_
   exact sLoad1 2 (.slice ac p0.Right.length ae) S (wN d) d d d d d d (lb d) fun a S=>leafL ⟨d,S⟩
  ·refine ⟨_,[(16,.slice ac p0.Right.length ae)],d,(srcs_of [some 4] d d d),fun G a w S=>?_⟩
   refine sCall (X:=Option Addr × Nat) (f:=36) (vs:=[.slice ac p0.Right.length ae]) (val:=fun x=>.slice x.1 ab.length x.2) (B':=fun x=>[eRow (rI .i64) 3 (.slice x.1 ab.length x.2) ab]) (D':=fun _=>[]) [] [eRow (rI .i64) 3 (.slice a2 aa.length a6) aa,eBox ai 30 [.slice none 0 0,.slice none 0 0],eBox ah 24 [.slice af p0.Left.length ag,.slice ac p0.Right.length ae]] [fRep (rL r_api_Point) (.slice ac p0.Right.length ae) p0.Right] [0,1,2] [0] S (wN d) d callee36 d (by decide) d d (fun E1 w1 S1=>c_piece_columns_s0 E1 w1 p0.Right (.slice ac p0.Right.length ae) ab au S1) d (lb d) fun xx a w S=>?_
   obtain ⟨a7,a8⟩:=xx
   dsimp only at S
   refine leafL ⟨d,_,_,.inl ⟨17,(.slice a7 ab.length a8),[(6,18,.agg #[.slice a2 aa.length a6,.slice a7 ab.length a8])],d,S,hz_of d,?_⟩⟩
   refine node_by (A:=anc_piece_Make_s0_0) 9 (by kernel_rfl) (by kernel_rfl) (by kernel_rfl) (by kernel_rfl) (by kernel_rfl) [6,5,2,0,1,3,4] (by kernel_rfl) (by decide) (by decide) (fD 5 (fD 5 (fY (fD 5 (fD 5 (fY (fF ?_ (fN ?_ (aB 8 0 7 (by decide) (trivial)))))))))) [] (fun q hq=>by cases hq) (fun hY=>absurd (hY 7 (by decide)) (by decide))
   ·refine fJ [(14,_),(17,_)] 0 [some 2,some 1] fun G a w S=>?_
    exact sBuild [(0,.slice a2 aa.length a6),(1,.slice a7 ab.length a8)] [.slice a2 aa.length a6,.slice a7 ab.length a8] S (wN d) d d d d (lb d) fun a S=>leafL ⟨d,S⟩
   refine ⟨_,[],d,(srcs_of [] d d d),fun G a w S=>?_⟩
   refine sAlloc (.agg #[.slice none 0 0,.slice none 0 0]) S (wN d) d d [.slice none 0 0,.slice none 0 0] d d (lb d) fun a aj w S=>leafL ⟨d,_,_,.inl ⟨5,(.pointer (some ⟨aj,0,none⟩)),[],d,S,hz_of d,?_⟩⟩
   exact nd1 aj a2 a6 a7 a8
  refine ⟨_,[],d,(srcs_of [] d d d),fun G a w S=>?_⟩
  refine sAlloc (.agg #[.slice none 0 0,.slice none 0 0]) S (wN d) d d [.slice none 0 0,.slice none 0 0] d d (lb d) fun a ak w S=>leafL ⟨d,_,_,.inl ⟨5,(.pointer (some ⟨ak,0,none⟩)),[],d,S,hz_of d,?_⟩⟩
  exact nd2 ak a2 a6
 ·refine fJ [(1,_)] 2 [none] fun G a w S=>?_
  exact sField (b:=ah) (off:=0) 1 1 S (wN d) d d d d d (lb d) fun a S=>leafL ⟨d,S⟩
 ·refine fJ [(15,_)] 3 [some 2] fun G a w S=>?_
  exact sLoad1 1 (.slice ac p0.Right.length ae) S (wN d) d d d d d d (lb d) fun a S=>leafL ⟨d,S⟩
 refine ⟨_,[],d,(srcs_of [] d d d),fun G a w S=>?_⟩
 refine sAlloc (.agg #[.slice none 0 0,.slice none 0 0]) S (wN d) d d [.slice none 0 0,.slice none 0 0] d d (lb d) fun a aO w S=>leafL ⟨d,_,_,.inl ⟨5,(.pointer (some ⟨aO,0,none⟩)),[],d,S,hz_of d,?_⟩⟩
 refine node_by (A:=anc_piece_Make_s0_0) 9 (by kernel_rfl) (by kernel_rfl) (by kernel_rfl) (by kernel_rfl) (by kernel_rfl) [7,0,1,3,4] (by kernel_rfl) (by decide) (by decide) (fF ?_ (fF ?_ (fN ?_ (fF ?_ (fF ?_ (aB 5 3 2 (by decide) (fE 2 (fY (aB 8 0 2 (by decide) (trivial)))))))))) [] (fun q hq=>by cases hq) (fun hY=>absurd (hY 2 (by decide)) (by decide))
 ·refine fJ [(1,_)] 1 [none] fun G a w S=>?_
  exact sField (b:=ah) (off:=0) 0 0 S (wN d) d d d d d (lb d) fun a S=>leafL ⟨d,S⟩
 ·refine fJ [(12,_)] 2 [some 1] fun G a w S=>?_
  exact sLoad1 2 (.slice af p0.Left.length ag) S (wN d) d d d d d d (lb d) fun a S=>leafL ⟨d,S⟩
 ·refine ⟨_,[(13,.slice af p0.Left.length ag)],d,(srcs_of [some 2] d d d),fun G a w S=>?_⟩
  refine sCall (X:=Option Addr × Nat) (f:=36) (vs:=[.slice af p0.Left.length ag]) (val:=fun x=>.slice x.1 aa.length x.2) (B':=fun x=>[eRow (rI .i64) 3 (.slice x.1 aa.length x.2) aa]) (D':=fun _=>[]) [] [eBox aO 30 [.slice none 0 0,.slice none 0 0],eBox ai 30 [.slice none 0 0,.slice none 0 0],eBox ah 24 [.slice af p0.Left.length ag,.slice ac p0.Right.length ae]] [fRep (rL r_api_Point) (.slice af p0.Left.length ag) p0.Left] [0,1,2] [1] S (wN d) d callee36 d (by decide) d d (fun E1 w1 S1=>c_piece_columns_s0 E1 w1 p0.Left (.slice af p0.Left.length ag) aa ar S1) d (lb d) fun xx a w S=>?_
  obtain ⟨av,aw⟩:=xx
  dsimp only at S
  refine leafL ⟨d,_,_,.inl ⟨14,(.slice av aa.length aw),[],d,S,hz_of d,?_⟩⟩
  exact nodePerm (nd2 aO av aw) [1,0,2,3,4,5] [1,0,2,3] [0,1,2] (by decide) (by decide) d d d
 ·refine fJ [(1,_)] 3 [none] fun G a w S=>?_
  exact sField (b:=ah) (off:=0) 1 1 S (wN d) d d d d d (lb d) fun a S=>leafL ⟨d,S⟩
 refine fJ [(15,_)] 4 [some 3] fun G a w S=>?_
 exact sLoad1 2 (.slice ac p0.Right.length ae) S (wN d) d d d d d d (lb d) fun a S=>leafL ⟨d,S⟩
noncomputable def F_piece_bend (p0:Int) (p1:Int):Option piece_edge:=
 if p0 == 0 then
  some (piece_edge.mk (api_Stitch.mk 0 false 0 0) 0)
 else
  if decide (4 ≤ p0) then
   some (piece_edge.mk (api_Stitch.mk 9 false p0 0) 0)
  else
   if decide (0 < p0) then
    some (piece_edge.mk (api_Stitch.mk 5 false (w64 (p0 + 1)) 0) 1)
   else
    if decide ((-4) < p0) then
     some (piece_edge.mk (api_Stitch.mk p1 false (w64 (1 - p0)) 0) (w64 (1 - p0)))
    else
     some (piece_edge.mk (api_Stitch.mk 10 false (w64 (0 - p0)) 0) (w64 (0 - p0)))
def c_piece_bend_val (r:piece_edge) (x:Value):Value:=x
def c_piece_bend_D (r:piece_edge) (x:Value):List Fact:=[fRep r_piece_edge x r]
theorem c_piece_bend (E:Nat→Prop) (w0:World) (p0:Int) (p1:Int) (r:piece_edge) (h:F_piece_bend p0 p1=some r) (S:St0 E [] w0 w0 [] []) :
 Calls Tryd.prog 38 #[iv p0,.int .u8 p1] w0 (Ret (X:=Value) E [] w0 (c_piece_bend_val r) (fun _=>[]) (c_piece_bend_D r)):=by
 unfold F_piece_bend at h
 refine sEnter (args:=[iv p0,.int .u8 p1]) 38 Tryd.func38 d d (by simp) S (fun a S=>?_)
 refine sSeq (fun K1 ag=>sRegion (sAlloc (.agg #[.int .u8 0,.bool false,iv 0,iv 0,iv 0]) S (wN d) d d [.int .u8 0,.bool false,iv 0,iv 0,iv 0] d d (lb d) fun a b2 w S=>lT (ag _ _ (sSeq (fun K3 ah=>wp_block ?_)))))
 refine sSeq (fun K4 ai=>sRegion (sM S fun a S=>?_))
 refine sBin _ S (wN d) d d d (bEq _ _ _ _ .i64 p0 0) d (lb d) fun a S=>sN S fun a S=>?_
 refine lT (ai _ _ ?_)
 rcases iS h with ⟨a7,h⟩ | ⟨a7,h⟩
 ·refine sCondT S d a7 (sSeq (fun K6 aj=>sRegion (sBuild [] [.int .u8 0,.bool false,iv 0,iv 0,iv 0] S (wN d) d d d d (lb d) fun a S=>sStore (p:=b2) (off:=0) (T:=81) (vs:=[.int .u8 0,.bool false,iv 0,iv 0,iv 0]) (v:=.agg #[.int .u8 0,.bool false,iv 0,iv 0,iv 0]) 0 [.int .u8 0,.bool false,iv 0,iv 0,iv 0] S (wN d) d d d d d d d (by simp) d fun a w S=>lT (aj _ _ ?_))))
  obtain rfl:=tS h
  have S:=S.learn (fRep r_piece_edge (.agg #[.int .u8 0,.bool false,iv 0,iv 0,iv 0]) (piece_edge.mk (api_Stitch.mk 0 false 0 0) 0)) d
  exact wp_ret (rBlock (rThen (sRet (.agg #[.int .u8 0,.bool false,iv 0,iv 0,iv 0]) S (rsl1 d (rvN (c:=4) (t:=81) (T:=81) (p:=b2) 0 [.int .u8 0,.bool false,iv 0,iv 0,iv 0] S d d d d)) ⟨(.agg #[.int .u8 0,.bool false,iv 0,iv 0,iv 0]),d,S.mem.sel [] [0] (by decide) d d⟩)))
 refine sCondF S d a7 (sSeq (fun K7 ak=>sRegion (sM S fun a S=>?_)))
 refine sBin _ S (wN d) d d d (bGe _ _ _ _ .i64 p0 4) d (lb d) fun a S=>sN S fun a S=>?_
 refine lT (ak _ _ ?_)
 rcases iS h with ⟨a8,h⟩ | ⟨a8,h⟩
 ·refine sCondT S d a8 (sSeq (fun K9 al=>sRegion (sM S fun a S=>?_)))
  refine sBuild [(0,.int .u8 9),(2,iv p0)] [.int .u8 9,.bool false,iv p0,iv 0] S (wN d) d d d d (lb d) fun a S=>sBuild [(0,.agg #[.int .u8 9,.bool false,iv p0,iv 0])] [.int .u8 9,.bool false,iv p0,iv 0,iv 0] S (wN d) d d d d (lb d) fun a S=>sStore (p:=b2) (off:=0) (T:=81) (vs:=[.int .u8 0,.bool false,iv 0,iv 0,iv 0]) (v:=.agg #[.int .u8 9,.bool false,iv p0,iv 0,iv 0]) 0 [.int .u8 9,.bool false,iv p0,iv 0,iv 0] S (wN d) d d d d d d d (by simp) d fun a w S=>lT (al _ _ ?_)
  obtain rfl:=tS h
  have S:=S.learn (fRep r_piece_edge (.agg #[.int .u8 9,.bool false,iv p0,iv 0,iv 0]) (piece_edge.mk (api_Stitch.mk 9 false p0 0) 0)) d
  exact wp_ret (rBlock (rThen (sRet (.agg #[.int .u8 9,.bool false,iv p0,iv 0,iv 0]) S (rsl1 d (rvN (c:=4) (t:=81) (T:=81) (p:=b2) 0 [.int .u8 9,.bool false,iv p0,iv 0,iv 0] S d d d d)) ⟨(.agg #[.int .u8 9,.bool false,iv p0,iv 0,iv 0]),d,S.mem.sel [] [0] (by decide) d d⟩)))
 refine sCondF S d a8 (sSeq (fun am aa=>sRegion (sM S fun a S=>?_)))
 refine sBin _ S (wN d) d d d (bGt _ _ _ _ .i64 p0 0) d (lb d) fun a S=>sN S fun a S=>?_
 refine lT (aa _ _ ?_)
 rcases iS h with ⟨a2,h⟩ | ⟨a2,h⟩
 ·refine sCondT S d a2 (sSeq (fun ao ab=>sRegion (sM S fun a S=>?_)))
  refine sBin _ S (wN d) d d d (bAdd _ _ _ _ p0 1) d (lb d) fun a S=>sBuild [(0,.int .u8 5),(2,iv (w64 (p0 + 1)))] [.int .u8 5,.bool false,iv (w64 (p0 + 1)),iv 0] S (wN d) d d d d (lb d) fun a S=>sBuild [(0,.agg #[.int .u8 5,.bool false,iv (w64 (p0 + 1)),iv 0]),(1,iv 1)] [.int .u8 5,.bool false,iv (w64 (p0 + 1)),iv 0,iv 1] S (wN d) d d d d (lb d) fun a S=>sStore (p:=b2) (off:=0) (T:=81) (vs:=[.int .u8 0,.bool false,iv 0,iv 0,iv 0]) (v:=.agg #[.int .u8 5,.bool false,iv (w64 (p0 + 1)),iv 0,iv 1]) 0 [.int .u8 5,.bool false,iv (w64 (p0 + 1)),iv 0,iv 1] S (wN d) d d d d d d d (by simp) d fun a w S=>lT (ab _ _ ?_)
  obtain rfl:=tS h
  have S:=S.learn (fRep r_piece_edge (.agg #[.int .u8 5,.bool false,iv (w64 (p0 + 1)),iv 0,iv 1]) (piece_edge.mk (api_Stitch.mk 5 false (w64 (p0 + 1)) 0) 1)) d
  exact wp_ret (rBlock (rThen (sRet (.agg #[.int .u8 5,.bool false,iv (w64 (p0 + 1)),iv 0,iv 1]) S (rsl1 d (rvN (c:=4) (t:=81) (T:=81) (p:=b2) 0 [.int .u8 5,.bool false,iv (w64 (p0 + 1)),iv 0,iv 1] S d d d d)) ⟨(.agg #[.int .u8 5,.bool false,iv (w64 (p0 + 1)),iv 0,iv 1]),d,S.mem.sel [] [0] (by decide) d d⟩)))
 refine sCondF S d a2 (sSeq (fun ap ac=>sRegion (sM S fun a S=>?_)))
 refine sBin _ S (wN d) d d d (bGt _ _ _ _ .i64 p0 (-4)) d (lb d) fun a S=>sN S fun a S=>?_
 refine lT (ac _ _ ?_)
 rcases iS h with ⟨a6,h⟩ | ⟨a6,h⟩
 rotate_left
 ·refine sCondF S d a6 (wp_skip (leafB (leafT (ah _ _ ?_))))
  refine sSeq (fun aq ae=>sRegion (sM S fun a S=>?_))
  refine sNeg (b:=p0) S (wN d) d d d (lb d) fun a S=>sBuild [(0,.int .u8 10),(2,iv (w64 (0 - p0)))] [.int .u8 10,.bool false,iv (w64 (0 - p0)),iv 0] S (wN d) d d d d (lb d) fun a S=>sM S fun a S=>?_
  refine sNeg (b:=p0) S (wN d) d d d (lb d) fun a S=>sBuild [(0,.agg #[.int .u8 10,.bool false,iv (w64 (0 - p0)),iv 0]),(1,iv (w64 (0 - p0)))] [.int .u8 10,.bool false,iv (w64 (0 - p0)),iv 0,iv (w64 (0 - p0))] S (wN d) d d d d (lb d) fun a S=>sStore (p:=b2) (off:=0) (T:=81) (vs:=[.int .u8 0,.bool false,iv 0,iv 0,iv 0]) (v:=.agg #[.int .u8 10,.bool false,iv (w64 (0 - p0)),iv 0,iv (w64 (0 - p0))]) 0 [.int .u8 10,.bool false,iv (w64 (0 - p0)),iv 0,iv (w64 (0 - p0))] S (wN d) d d d d d d d (by simp) d fun a w S=>lT (ae _ _ ?_)
  obtain rfl:=tS h
  have S:=S.learn (fRep r_piece_edge (.agg #[.int .u8 10,.bool false,iv (w64 (0 - p0)),iv 0,iv (w64 (0 - p0))]) (piece_edge.mk (api_Stitch.mk 10 false (w64 (0 - p0)) 0) (w64 (0 - p0)))) d
  exact wp_ret (sRet (.agg #[.int .u8 10,.bool false,iv (w64 (0 - p0)),iv 0,iv (w64 (0 - p0))]) S (rsl1 d (rvN (c:=4) (t:=81) (T:=81) (p:=b2) 0 [.int .u8 10,.bool false,iv (w64 (0 - p0)),iv 0,iv (w64 (0 - p0))] S d d d d)) ⟨(.agg #[.int .u8 10,.bool false,iv (w64 (0 - p0)),iv 0,iv (w64 (0 - p0))]),d,S.mem.sel [] [0] (by decide) d d⟩)
 refine sCondT S d a6 (sSeq (fun ar af=>sRegion (sM S fun a S=>?_)))
 refine sM S fun a S=>?_
 refine sBin _ S (wN d) d d d (bSub _ _ _ _ 1 p0) d (lb d) fun a S=>sBuild [(0,.int .u8 p1),(2,iv (w64 (1 - p0)))] [.int .u8 p1,.bool false,iv (w64 (1 - p0)),iv 0] S (wN d) d d d d (lb d) fun a S=>sM S fun a S=>?_
 refine sBin _ S (wN d) d d d (bSub _ _ _ _ 1 p0) d (lb d) fun a S=>sBuild [(0,.agg #[.int .u8 p1,.bool false,iv (w64 (1 - p0)),iv 0]),(1,iv (w64 (1 - p0)))] [.int .u8 p1,.bool false,iv (w64 (1 - p0)),iv 0,iv (w64 (1 - p0))] S (wN d) d d d d (lb d) fun a S=>sStore (p:=b2) (off:=0) (T:=81) (vs:=[.int .u8 0,.bool false,iv 0,iv 0,iv 0]) (v:=.agg #[.int .u8 p1,.bool false,iv (w64 (1 - p0)),iv 0,iv (w64 (1 - p0))]) 0 [.int .u8 p1,.bool false,iv (w64 (1 - p0)),iv 0,iv (w64 (1 - p0))] S (wN d) d d d d d d d (by simp) d fun a w S=>lT (af _ _ ?_)
 obtain rfl:=tS h
 have S:=S.learn (fRep r_piece_edge (.agg #[.int .u8 p1,.bool false,iv (w64 (1 - p0)),iv 0,iv (w64 (1 - p0))]) (piece_edge.mk (api_Stitch.mk p1 false (w64 (1 - p0)) 0) (w64 (1 - p0)))) d
 exact wp_ret (rBlock (rThen (sRet (.agg #[.int .u8 p1,.bool false,iv (w64 (1 - p0)),iv 0,iv (w64 (1 - p0))]) S (rsl1 d (rvN (c:=4) (t:=81) (T:=81) (p:=b2) 0 [.int .u8 p1,.bool false,iv (w64 (1 - p0)),iv 0,iv (w64 (1 - p0))] S d d d d)) ⟨(.agg #[.int .u8 p1,.bool false,iv (w64 (1 - p0)),iv 0,iv (w64 (1 - p0))]),d,S.mem.sel [] [0] (by decide) d d⟩)))
noncomputable def F_stitch_forms (p0:Int):Option (stitch_form × Bool):=
 Option.bind (α:=Bool) (
  if decide (p0 < 1) then
   some true
  else
   some (decide (([(stitch_form.mk (⟨#[]⟩:ByteArray) (0,0) (0,0) true 1 1),(stitch_form.mk (⟨#[]⟩:ByteArray) (0,0) (0,0) false 0 1),(stitch_form.mk (⟨#[102]⟩:ByteArray) (2,4) (0,0) true 2 1),(stitch_form.mk (⟨#[108]⟩:ByteArray) (2,4) (0,0) true 2 1),(stitch_form.mk (⟨#[109]⟩:ByteArray) (2,4) (0,0) true 1 2),(stitch_form.mk (⟨#[120]⟩:ByteArray) (1,6) (1,6) true 3 3),(stitch_form.mk (⟨#[121]⟩:ByteArray) (1,6) (1,6) true 3 3),(stitch_form.mk (⟨#[115]⟩:ByteArray) (0,0) (0,0) true 1 1),(stitch_form.mk (⟨#[]⟩:ByteArray) (1,200) (0,0) false 0 2),(stitch_form.mk (⟨#[111]⟩:ByteArray) (1,200) (0,0) true 2 0)].length:Int) < (IntKind.i64.wrap p0)))) fun a2=>
 if a2 then
  some ((stitch_form.mk (⟨#[]⟩:ByteArray) (0,0) (0,0) false 0 0),false)
 else
  (idxO [(stitch_form.mk (⟨#[]⟩:ByteArray) (0,0) (0,0) true 1 1),(stitch_form.mk (⟨#[]⟩:ByteArray) (0,0) (0,0) false 0 1),(stitch_form.mk (⟨#[102]⟩:ByteArray) (2,4) (0,0) true 2 1),(stitch_form.mk (⟨#[108]⟩:ByteArray) (2,4) (0,0) true 2 1),(stitch_form.mk (⟨#[109]⟩:ByteArray) (2,4) (0,0) true 1 2),(stitch_form.mk (⟨#[120]⟩:ByteArray) (1,6) (1,6) true 3 3),(stitch_form.mk (⟨#[121]⟩:ByteArray) (1,6) (1,6) true 3 3),(stitch_form.mk (⟨#[115]⟩:ByteArray) (0,0) (0,0) true 1 1),(stitch_form.mk (⟨#[]⟩:ByteArray) (1,200) (0,0) false 0 2),(stitch_form.mk (⟨#[111]⟩:ByteArray) (1,200) (0,0) true 2 0)] (IntKind.u8.wrap (p0 - 1))).bind fun a6=>
  some (a6,true)
def c_stitch_forms_val (r:(stitch_form × Bool)) (x:Value):Value:=.tuple #[x,.bool r.2]
def c_stitch_forms_D (r:(stitch_form × Bool)) (x:Value):List Fact:=[fRep r_stitch_form x r.1]
theorem c_stitch_forms (E:Nat→Prop) (w0:World) (p0:Int) (r:(stitch_form × Bool)) (h:F_stitch_forms p0=some r) (S:St0 E [] w0 w0 [] []) :
 Calls Tryd.prog 52 #[.int .u8 p0] w0 (Ret (X:=Value) E [] w0 (c_stitch_forms_val r) (fun _=>[]) (c_stitch_forms_D r)):=by
 unfold F_stitch_forms at h
 refine sEnter (args:=[.int .u8 p0]) 57 Tryd.func52 d d (by simp) S (fun a S=>?_)
 refine sSeq (fun K1 ak=>sRegion (sAlloc (gv_stitch_form (stitch_form.mk (⟨#[]⟩:ByteArray) (0,0) (0,0) false 0 0)) S (wN d) d d (gl_stitch_form (stitch_form.mk (⟨#[]⟩:ByteArray) (0,0) (0,0) false 0 0)) d d (lb d) fun a b2 w S=>sN S fun a S=>?_))
 refine lT (ak _ _ (sSeq (fun K3 al=>sRegion (sBuild [(0,iv 2),(1,iv 4)] [iv 2,iv 4] S (wN d) d d d d (lb d) fun a S=>sBuild [(0,iv 1),(1,iv 6)] [iv 1,iv 6] S (wN d) d d d d (lb d) fun a S=>sAlloc (.agg #[iv 0,iv 0]) S (wN d) d d [iv 0,iv 0] d d (lb d) fun a b4 w S=>sAlloc (.agg #[iv 0,iv 0]) S (wN d) d d [iv 0,iv 0] d d (lb d) fun a b5 w S=>sStore (p:=b4) (off:=0) (T:=61) (vs:=[iv 0,iv 0]) (v:=.agg #[iv 2,iv 4]) 1 [iv 2,iv 4] S (wN d) d d d d d d d (by simp) d fun a w S=>sStore (p:=b5) (off:=0) (T:=61) (vs:=[iv 0,iv 0]) (v:=.agg #[iv 1,iv 6]) 1 [iv 1,iv 6] S (wN d) d d d d d d d (by simp) d fun a w S=>lT (al _ _ (sSeq (fun K6 am=>sRegion (sBuild [(0,iv 1),(1,iv 200)] [iv 1,iv 200] S (wN d) d d d d (lb d) fun a S=>sAlloc (.agg #[iv 0,iv 0]) S (wN d) d d [iv 0,iv 0] d d (lb d) fun a b7 w S=>sStore (p:=b7) (off:=0) (T:=61) (vs:=[iv 0,iv 0]) (v:=.agg #[iv 1,iv 200]) 0 [iv 1,iv 200] S (wN d) d d d d d d d (by simp) d fun a w S=>lT (am _ _ ?_)))))))))
 refine sSeq (fun K8 ao=>sRegion (sBuild [] [iv 0,iv 0] S (wN d) d d d d (lb d) fun a S=>sBuild [] [iv 0,iv 0] S (wN d) d d d d (lb d) fun a S=>sBuild [(0,.string (⟨#[]⟩:ByteArray)),(1,.agg #[iv 0,iv 0]),(2,.agg #[iv 0,iv 0]),(3,.bool true),(4,iv 1),(5,iv 1)] (gl_stitch_form (stitch_form.mk (⟨#[]⟩:ByteArray) (0,0) (0,0) true 1 1)) S (wN d) d d d d (lb d) fun a S=>sBuild [] [iv 0,iv 0] S (wN d) d d d d (lb d) fun a S=>sBuild [] [iv 0,iv 0] S (wN d) d d d d (lb d) fun a S=>sBuild [(0,.string (⟨#[]⟩:ByteArray)),(1,.agg #[iv 0,iv 0]),(2,.agg #[iv 0,iv 0]),(3,.bool false),(4,iv 0),(5,iv 1)] (gl_stitch_form (stitch_form.mk (⟨#[]⟩:ByteArray) (0,0) (0,0) false 0 1)) S (wN d) d d d d (lb d) fun a S=>sLoadN (p:=b4) (off:=0) (T:=61) (vs:=[iv 2,iv 4]) 2 [iv 2,iv 4] S (wN d) d d d d d d d (lb d) fun a S=>sBuild [] [iv 0,iv 0] S (wN d) d d d d (lb d) fun a S=>sBuild [(0,.string (⟨#[102]⟩:ByteArray)),(1,.agg #[iv 2,iv 4]),(2,.agg #[iv 0,iv 0]),(3,.bool true),(4,iv 2),(5,iv 1)] (gl_stitch_form (stitch_form.mk (⟨#[102]⟩:ByteArray) (2,4) (0,0) true 2 1)) S (wN d) d d d d (lb d) fun a S=>sLoadN (p:=b4) (off:=0) (T:=61) (vs:=[iv 2,iv 4]) 2 [iv 2,iv 4] S (wN d) d d d d d d d (lb d) fun a S=>sBuild [] [iv 0,iv 0] S (wN d) d d d d (lb d) fun a S=>sBuild [(0,.string (⟨#[108]⟩:ByteArray)),(1,.agg #[iv 2,iv 4]),(2,.agg #[iv 0,iv 0]),(3,.bool true),(4,iv 2),(5,iv 1)] (gl_stitch_form (stitch_form.mk (⟨#[108]⟩:ByteArray) (2,4) (0,0) true 2 1)) S (wN d) d d d d (lb d) fun a S=>sLoadN (p:=b4) (off:=0) (T:=61) (vs:=[iv 2,iv 4]) 2 [iv 2,iv 4] S (wN d) d d d d d d d (lb d) fun a S=>sBuild [] [iv 0,iv 0] S (wN d) d d d d (lb d) fun a S=>?_))
 refine sBuild [(0,.string (⟨#[109]⟩:ByteArray)),(1,.agg #[iv 2,iv 4]),(2,.agg #[iv 0,iv 0]),(3,.bool true),(4,iv 1),(5,iv 2)] (gl_stitch_form (stitch_form.mk (⟨#[109]⟩:ByteArray) (2,4) (0,0) true 1 2)) S (wN d) d d d d (lb d) fun a S=>sLoadN (p:=b5) (off:=0) (T:=61) (vs:=[iv 1,iv 6]) 1 [iv 1,iv 6] S (wN d) d d d d d d d (lb d) fun a S=>sLoadN (p:=b5) (off:=0) (T:=61) (vs:=[iv 1,iv 6]) 1 [iv 1,iv 6] S (wN d) d d d d d d d (lb d) fun a S=>sBuild [(0,.string (⟨#[120]⟩:ByteArray)),(1,.agg #[iv 1,iv 6]),(2,.agg #[iv 1,iv 6]),(3,.bool true),(4,iv 3),(5,iv 3)] (gl_stitch_form (stitch_form.mk (⟨#[120]⟩:ByteArray) (1,6) (1,6) true 3 3)) S (wN d) d d d d (lb d) fun a S=>sLoadN (p:=b5) (off:=0) (T:=61) (vs:=[iv 1,iv 6]) 1 [iv 1,iv 6] S (wN d) d d d d d d d (lb d) fun a S=>sLoadN (p:=b5) (off:=0) (T:=61) (vs:=[iv 1,iv 6]) 1 [iv 1,iv 6] S (wN d) d d d d d d d (lb d) fun a S=>sBuild [(0,.string (⟨#[121]⟩:ByteArray)),(1,.agg #[iv 1,iv 6]),(2,.agg #[iv 1,iv 6]),(3,.bool true),(4,iv 3),(5,iv 3)] (gl_stitch_form (stitch_form.mk (⟨#[121]⟩:ByteArray) (1,6) (1,6) true 3 3)) S (wN d) d d d d (lb d) fun a S=>sBuild [] [iv 0,iv 0] S (wN d) d d d d (lb d) fun a S=>sBuild [] [iv 0,iv 0] S (wN d) d d d d (lb d) fun a S=>sBuild [(0,.string (⟨#[115]⟩:ByteArray)),(1,.agg #[iv 0,iv 0]),(2,.agg #[iv 0,iv 0]),(3,.bool true),(4,iv 1),(5,iv 1)] (gl_stitch_form (stitch_form.mk (⟨#[115]⟩:ByteArray) (0,0) (0,0) true 1 1)) S (wN d) d d d d (lb d) fun a S=>sLoadN (p:=b7) (off:=0) (T:=61) (vs:=[iv 1,iv 200]) 0 [iv 1,iv 200] S (wN d) d d d d d d d (lb d) fun a S=>sBuild [] [iv 0,iv 0] S (wN d) d d d d (lb d) fun a S=>sBuild [(0,.string (⟨#[]⟩:ByteArray)),(1,.agg #[iv 1,iv 200]),(2,.agg #[iv 0,iv 0]),(3,.bool false),(4,iv 0),(5,iv 2)] (gl_stitch_form (stitch_form.mk (⟨#[]⟩:ByteArray) (1,200) (0,0) false 0 2)) S (wN d) d d d d (lb d) fun a S=>sLoadN (p:=b7) (off:=0) (T:=61) (vs:=[iv 1,iv 200]) 0 [iv 1,iv 200] S (wN d) d d d d d d d (lb d) fun a S=>sBuild [] [iv 0,iv 0] S (wN d) d d d d (lb d) fun a S=>sBuild [(0,.string (⟨#[111]⟩:ByteArray)),(1,.agg #[iv 1,iv 200]),(2,.agg #[iv 0,iv 0]),(3,.bool true),(4,iv 2),(5,iv 0)] (gl_stitch_form (stitch_form.mk (⟨#[111]⟩:ByteArray) (1,200) (0,0) true 2 0)) S (wN d) d d d d (lb d) fun a S=>?_
 have S:=S.learn (fRep r_stitch_form (gv_stitch_form (stitch_form.mk (⟨#[]⟩:ByteArray) (0,0) (0,0) true 1 1)) (stitch_form.mk (⟨#[]⟩:ByteArray) (0,0) (0,0) true 1 1)) d
 have S:=S.learn (fRep r_stitch_form (gv_stitch_form (stitch_form.mk (⟨#[]⟩:ByteArray) (0,0) (0,0) false 0 1)) (stitch_form.mk (⟨#[]⟩:ByteArray) (0,0) (0,0) false 0 1)) d
 have S:=S.learn (fRep r_stitch_form (gv_stitch_form (stitch_form.mk (⟨#[102]⟩:ByteArray) (2,4) (0,0) true 2 1)) (stitch_form.mk (⟨#[102]⟩:ByteArray) (2,4) (0,0) true 2 1)) d
 have S:=S.learn (fRep r_stitch_form (gv_stitch_form (stitch_form.mk (⟨#[108]⟩:ByteArray) (2,4) (0,0) true 2 1)) (stitch_form.mk (⟨#[108]⟩:ByteArray) (2,4) (0,0) true 2 1)) d
 have S:=S.learn (fRep r_stitch_form (gv_stitch_form (stitch_form.mk (⟨#[109]⟩:ByteArray) (2,4) (0,0) true 1 2)) (stitch_form.mk (⟨#[109]⟩:ByteArray) (2,4) (0,0) true 1 2)) d
 have S:=S.learn (fRep r_stitch_form (gv_stitch_form (stitch_form.mk (⟨#[120]⟩:ByteArray) (1,6) (1,6) true 3 3)) (stitch_form.mk (⟨#[120]⟩:ByteArray) (1,6) (1,6) true 3 3)) d
 have S:=S.learn (fRep r_stitch_form (gv_stitch_form (stitch_form.mk (⟨#[121]⟩:ByteArray) (1,6) (1,6) true 3 3)) (stitch_form.mk (⟨#[121]⟩:ByteArray) (1,6) (1,6) true 3 3)) d
 have S:=S.learn (fRep r_stitch_form (gv_stitch_form (stitch_form.mk (⟨#[115]⟩:ByteArray) (0,0) (0,0) true 1 1)) (stitch_form.mk (⟨#[115]⟩:ByteArray) (0,0) (0,0) true 1 1)) d
 have S:=S.learn (fRep r_stitch_form (gv_stitch_form (stitch_form.mk (⟨#[]⟩:ByteArray) (1,200) (0,0) false 0 2)) (stitch_form.mk (⟨#[]⟩:ByteArray) (1,200) (0,0) false 0 2)) d
 have S:=S.learn (fRep r_stitch_form (gv_stitch_form (stitch_form.mk (⟨#[111]⟩:ByteArray) (1,200) (0,0) true 2 0)) (stitch_form.mk (⟨#[111]⟩:ByteArray) (1,200) (0,0) true 2 0)) d
 refine sLit (r:=r_stitch_form) (T:=100) (xs:=[(stitch_form.mk (⟨#[]⟩:ByteArray) (0,0) (0,0) true 1 1),(stitch_form.mk (⟨#[]⟩:ByteArray) (0,0) (0,0) false 0 1),(stitch_form.mk (⟨#[102]⟩:ByteArray) (2,4) (0,0) true 2 1),(stitch_form.mk (⟨#[108]⟩:ByteArray) (2,4) (0,0) true 2 1),(stitch_form.mk (⟨#[109]⟩:ByteArray) (2,4) (0,0) true 1 2),(stitch_form.mk (⟨#[120]⟩:ByteArray) (1,6) (1,6) true 3 3),(stitch_form.mk (⟨#[121]⟩:ByteArray) (1,6) (1,6) true 3 3),(stitch_form.mk (⟨#[115]⟩:ByteArray) (0,0) (0,0) true 1 1),(stitch_form.mk (⟨#[]⟩:ByteArray) (1,200) (0,0) false 0 2),(stitch_form.mk (⟨#[111]⟩:ByteArray) (1,200) (0,0) true 2 0)]) [(0,gv_stitch_form (stitch_form.mk (⟨#[]⟩:ByteArray) (0,0) (0,0) true 1 1)),(1,gv_stitch_form (stitch_form.mk (⟨#[]⟩:ByteArray) (0,0) (0,0) false 0 1)),(2,gv_stitch_form (stitch_form.mk (⟨#[102]⟩:ByteArray) (2,4) (0,0) true 2 1)),(3,gv_stitch_form (stitch_form.mk (⟨#[108]⟩:ByteArray) (2,4) (0,0) true 2 1)),(4,gv_stitch_form (stitch_form.mk (⟨#[109]⟩:ByteArray) (2,4) (0,0) true 1 2)),(5,gv_stitch_form (stitch_form.mk (⟨#[120]⟩:ByteArray) (1,6) (1,6) true 3 3)),(6,gv_stitch_form (stitch_form.mk (⟨#[121]⟩:ByteArray) (1,6) (1,6) true 3 3)),(7,gv_stitch_form (stitch_form.mk (⟨#[115]⟩:ByteArray) (0,0) (0,0) true 1 1)),(8,gv_stitch_form (stitch_form.mk (⟨#[]⟩:ByteArray) (1,200) (0,0) false 0 2)),(9,gv_stitch_form (stitch_form.mk (⟨#[111]⟩:ByteArray) (1,200) (0,0) true 2 0))] 10 [gv_stitch_form (stitch_form.mk (⟨#[]⟩:ByteArray) (0,0) (0,0) true 1 1),gv_stitch_form (stitch_form.mk (⟨#[]⟩:ByteArray) (0,0) (0,0) false 0 1),gv_stitch_form (stitch_form.mk (⟨#[102]⟩:ByteArray) (2,4) (0,0) true 2 1),gv_stitch_form (stitch_form.mk (⟨#[108]⟩:ByteArray) (2,4) (0,0) true 2 1),gv_stitch_form (stitch_form.mk (⟨#[109]⟩:ByteArray) (2,4) (0,0) true 1 2),gv_stitch_form (stitch_form.mk (⟨#[120]⟩:ByteArray) (1,6) (1,6) true 3 3),gv_stitch_form (stitch_form.mk (⟨#[121]⟩:ByteArray) (1,6) (1,6) true 3 3),gv_stitch_form (stitch_form.mk (⟨#[115]⟩:ByteArray) (0,0) (0,0) true 1 1),gv_stitch_form (stitch_form.mk (⟨#[]⟩:ByteArray) (1,200) (0,0) false 0 2),gv_stitch_form (stitch_form.mk (⟨#[111]⟩:ByteArray) (1,200) (0,0) true 2 0)] [.string (⟨#[]⟩:ByteArray),iv 0,iv 0,iv 0,iv 0,.bool true,iv 1,iv 1,.string (⟨#[]⟩:ByteArray),iv 0,iv 0,iv 0,iv 0,.bool false,iv 0,iv 1,.string (⟨#[102]⟩:ByteArray),iv 2,iv 4,iv 0,iv 0,.bool true,iv 2,iv 1,.string (⟨#[108]⟩:ByteArray),iv 2,iv 4,iv 0,iv 0,.bool true,iv 2,iv 1,.string (⟨#[109]⟩:ByteArray),iv 2,iv 4,iv 0,iv 0,.bool true,iv 1,iv 2,.string (⟨#[120]⟩:ByteArray),iv 1,iv 6,iv 1,iv 6,.bool true,iv 3,iv 3,.string (⟨#[121]⟩:ByteArray),iv 1,iv 6,iv 1,iv 6,.bool true,iv 3,iv 3,.string (⟨#[115]⟩:ByteArray),iv 0,iv 0,iv 0,iv 0,.bool true,iv 1,iv 1,.string (⟨#[]⟩:ByteArray),iv 1,iv 200,iv 0,iv 0,.bool false,iv 0,iv 2,.string (⟨#[111]⟩:ByteArray),iv 1,iv 200,iv 0,iv 0,.bool true,iv 2,iv 0] (gv_stitch_form (stitch_form.mk (⟨#[]⟩:ByteArray) (0,0) (0,0) false 0 0)) 72 S (wN d) d d Tryd.underlying117 d (by decide) (by decide) (by kernel_rfl) d (fun E1 w1 hE=>All.cons (r_stitch_form.mono hE (S.mem.know (i:=9) (e:=fRep r_stitch_form (gv_stitch_form (stitch_form.mk (⟨#[]⟩:ByteArray) (0,0) (0,0) true 1 1)) (stitch_form.mk (⟨#[]⟩:ByteArray) (0,0) (0,0) true 1 1)) d)) (All.cons (r_stitch_form.mono hE (S.mem.know (i:=8) (e:=fRep r_stitch_form (gv_stitch_form (stitch_form.mk (⟨#[]⟩:ByteArray) (0,0) (0,0) false 0 1)) (stitch_form.mk (⟨#[]⟩:ByteArray) (0,0) (0,0) false 0 1)) d)) (All.cons (r_stitch_form.mono hE (S.mem.know (i:=7) (e:=fRep r_stitch_form (gv_stitch_form (stitch_form.mk (⟨#[102]⟩:ByteArray) (2,4) (0,0) true 2 1)) (stitch_form.mk (⟨#[102]⟩:ByteArray) (2,4) (0,0) true 2 1)) d)) (All.cons (r_stitch_form.mono hE (S.mem.know (i:=6) (e:=fRep r_stitch_form (gv_stitch_form (stitch_form.mk (⟨#[108]⟩:ByteArray) (2,4) (0,0) true 2 1)) (stitch_form.mk (⟨#[108]⟩:ByteArray) (2,4) (0,0) true 2 1)) d)) (All.cons (r_stitch_form.mono hE (S.mem.know (i:=5) (e:=fRep r_stitch_form (gv_stitch_form (stitch_form.mk (⟨#[109]⟩:ByteArray) (2,4) (0,0) true 1 2)) (stitch_form.mk (⟨#[109]⟩:ByteArray) (2,4) (0,0) true 1 2)) d)) (All.cons (r_stitch_form.mono hE (S.mem.know (i:=4) (e:=fRep r_stitch_form (gv_stitch_form (stitch_form.mk (⟨#[120]⟩:ByteArray) (1,6) (1,6) true 3 3)) (stitch_form.mk (⟨#[120]⟩:ByteArray) (1,6) (1,6) true 3 3)) d)) (All.cons (r_stitch_form.mono hE (S.mem.know (i:=3) (e:=fRep r_stitch_form (gv_stitch_form (stitch_form.mk (⟨#[121]⟩:ByteArray) (1,6) (1,6) true 3 3)) (stitch_form.mk (⟨#[121]⟩:ByteArray) (1,6) (1,6) true 3 3)) d)) (All.cons (r_stitch_form.mono hE (S.mem.know (i:=2) (e:=fRep r_stitch_form (gv_stitch_form (stitch_form.mk (⟨#[115]⟩:ByteArray) (0,0) (0,0) true 1 1)) (stitch_form.mk (⟨#[115]⟩:ByteArray) (0,0) (0,0) true 1 1)) d)) (All.cons (r_stitch_form.mono hE (S.mem.know (i:=1) (e:=fRep r_stitch_form (gv_stitch_form (stitch_form.mk (⟨#[]⟩:ByteArray) (1,200) (0,0) false 0 2)) (stitch_form.mk (⟨#[]⟩:ByteArray) (1,200) (0,0) false 0 2)) d)) (All.cons (r_stitch_form.mono hE (S.mem.know (i:=0) (e:=fRep r_stitch_form (gv_stitch_form (stitch_form.mk (⟨#[111]⟩:ByteArray) (1,200) (0,0) true 2 0)) (stitch_form.mk (⟨#[111]⟩:ByteArray) (1,200) (0,0) true 2 0)) d)) (All.nil _ _ _))))))))))) d d (lb d) fun a w aa a7 S=>?_
 refine sN S fun a S=>?_
 refine lT (ao _ _ (sSeq (fun ar ab=>?_)))
 obtain ⟨ap,h,aq⟩:=bS h
 refine sCut (fun a w=>∃ ac,ac=ap∧St [] E [] w0 57 a w [(0,.int .u8 p0),(2,.pointer (some ⟨b2,0,none⟩)),(7,.slice aa [(stitch_form.mk (⟨#[]⟩:ByteArray) (0,0) (0,0) true 1 1),(stitch_form.mk (⟨#[]⟩:ByteArray) (0,0) (0,0) false 0 1),(stitch_form.mk (⟨#[102]⟩:ByteArray) (2,4) (0,0) true 2 1),(stitch_form.mk (⟨#[108]⟩:ByteArray) (2,4) (0,0) true 2 1),(stitch_form.mk (⟨#[109]⟩:ByteArray) (2,4) (0,0) true 1 2),(stitch_form.mk (⟨#[120]⟩:ByteArray) (1,6) (1,6) true 3 3),(stitch_form.mk (⟨#[121]⟩:ByteArray) (1,6) (1,6) true 3 3),(stitch_form.mk (⟨#[115]⟩:ByteArray) (0,0) (0,0) true 1 1),(stitch_form.mk (⟨#[]⟩:ByteArray) (1,200) (0,0) false 0 2),(stitch_form.mk (⟨#[111]⟩:ByteArray) (1,200) (0,0) true 2 0)].length a7),(50,.bool ac)] [eBox b2 100 (gl_stitch_form (stitch_form.mk (⟨#[]⟩:ByteArray) (0,0) (0,0) false 0 0)),eRow r_stitch_form 100 (.slice aa [(stitch_form.mk (⟨#[]⟩:ByteArray) (0,0) (0,0) true 1 1),(stitch_form.mk (⟨#[]⟩:ByteArray) (0,0) (0,0) false 0 1),(stitch_form.mk (⟨#[102]⟩:ByteArray) (2,4) (0,0) true 2 1),(stitch_form.mk (⟨#[108]⟩:ByteArray) (2,4) (0,0) true 2 1),(stitch_form.mk (⟨#[109]⟩:ByteArray) (2,4) (0,0) true 1 2),(stitch_form.mk (⟨#[120]⟩:ByteArray) (1,6) (1,6) true 3 3),(stitch_form.mk (⟨#[121]⟩:ByteArray) (1,6) (1,6) true 3 3),(stitch_form.mk (⟨#[115]⟩:ByteArray) (0,0) (0,0) true 1 1),(stitch_form.mk (⟨#[]⟩:ByteArray) (1,200) (0,0) false 0 2),(stitch_form.mk (⟨#[111]⟩:ByteArray) (1,200) (0,0) true 2 0)].length a7) [(stitch_form.mk (⟨#[]⟩:ByteArray) (0,0) (0,0) true 1 1),(stitch_form.mk (⟨#[]⟩:ByteArray) (0,0) (0,0) false 0 1),(stitch_form.mk (⟨#[102]⟩:ByteArray) (2,4) (0,0) true 2 1),(stitch_form.mk (⟨#[108]⟩:ByteArray) (2,4) (0,0) true 2 1),(stitch_form.mk (⟨#[109]⟩:ByteArray) (2,4) (0,0) true 1 2),(stitch_form.mk (⟨#[120]⟩:ByteArray) (1,6) (1,6) true 3 3),(stitch_form.mk (⟨#[121]⟩:ByteArray) (1,6) (1,6) true 3 3),(stitch_form.mk (⟨#[115]⟩:ByteArray) (0,0) (0,0) true 1 1),(stitch_form.mk (⟨#[]⟩:ByteArray) (1,200) (0,0) false 0 2),(stitch_form.mk (⟨#[111]⟩:ByteArray) (1,200) (0,0) true 2 0)]] []) ?_ (fun a w hI=>?_)
 ·refine sRegion (sM S fun a S=>?_)
  refine sBin _ S (wN d) d d d (bLt _ _ _ _ .u8 p0 1) d (lb d) fun a S=>sM S fun a S=>?_
  rcases iS h with ⟨a6,h⟩ | ⟨a6,h⟩
  ·refine sSkN 5 2 false 44 S d d a6 d fun a S=>sPickT (.bool true) S (wN d) d d a6 d d (lb d) fun a S=>?_
   exact lT (⟨true,Option.some.inj h,S.fix [4,0] [] (by decide) d d d⟩)
  refine sMove (.int .u8 p0) S (wG 2 false 44 d d d a6) (.inl d) d d (lb d) fun a S=>sConv (k:=.u8) (k2:=.i64) (b:=p0) S (wG 2 false 44 d d d a6) d Tryd.underlying5 Tryd.underlying3 d d (lb d) fun a S=>sMove (.slice aa [(stitch_form.mk (⟨#[]⟩:ByteArray) (0,0) (0,0) true 1 1),(stitch_form.mk (⟨#[]⟩:ByteArray) (0,0) (0,0) false 0 1),(stitch_form.mk (⟨#[102]⟩:ByteArray) (2,4) (0,0) true 2 1),(stitch_form.mk (⟨#[108]⟩:ByteArray) (2,4) (0,0) true 2 1),(stitch_form.mk (⟨#[109]⟩:ByteArray) (2,4) (0,0) true 1 2),(stitch_form.mk (⟨#[120]⟩:ByteArray) (1,6) (1,6) true 3 3),(stitch_form.mk (⟨#[121]⟩:ByteArray) (1,6) (1,6) true 3 3),(stitch_form.mk (⟨#[115]⟩:ByteArray) (0,0) (0,0) true 1 1),(stitch_form.mk (⟨#[]⟩:ByteArray) (1,200) (0,0) false 0 2),(stitch_form.mk (⟨#[111]⟩:ByteArray) (1,200) (0,0) true 2 0)].length a7) S (wG 2 false 44 d d d a6) (.inl d) d d (lb d) fun a S=>sLen S (wG 2 false 44 d d d a6) d Tryd.underlying117 d d (lb d) fun a S=>sBin _ S (wG 2 false 44 d d d a6) d d d (bGt _ _ _ _ .i64 (IntKind.i64.wrap p0) ([(stitch_form.mk (⟨#[]⟩:ByteArray) (0,0) (0,0) true 1 1),(stitch_form.mk (⟨#[]⟩:ByteArray) (0,0) (0,0) false 0 1),(stitch_form.mk (⟨#[102]⟩:ByteArray) (2,4) (0,0) true 2 1),(stitch_form.mk (⟨#[108]⟩:ByteArray) (2,4) (0,0) true 2 1),(stitch_form.mk (⟨#[109]⟩:ByteArray) (2,4) (0,0) true 1 2),(stitch_form.mk (⟨#[120]⟩:ByteArray) (1,6) (1,6) true 3 3),(stitch_form.mk (⟨#[121]⟩:ByteArray) (1,6) (1,6) true 3 3),(stitch_form.mk (⟨#[115]⟩:ByteArray) (0,0) (0,0) true 1 1),(stitch_form.mk (⟨#[]⟩:ByteArray) (1,200) (0,0) false 0 2),(stitch_form.mk (⟨#[111]⟩:ByteArray) (1,200) (0,0) true 2 0)].length:Int)) d (lb d) fun a S=>sPickF (.bool (decide (([(stitch_form.mk (⟨#[]⟩:ByteArray) (0,0) (0,0) true 1 1),(stitch_form.mk (⟨#[]⟩:ByteArray) (0,0) (0,0) false 0 1),(stitch_form.mk (⟨#[102]⟩:ByteArray) (2,4) (0,0) true 2 1),(stitch_form.mk (⟨#[108]⟩:ByteArray) (2,4) (0,0) true 2 1),(stitch_form.mk (⟨#[109]⟩:ByteArray) (2,4) (0,0) true 1 2),(stitch_form.mk (⟨#[120]⟩:ByteArray) (1,6) (1,6) true 3 3),(stitch_form.mk (⟨#[121]⟩:ByteArray) (1,6) (1,6) true 3 3),(stitch_form.mk (⟨#[115]⟩:ByteArray) (0,0) (0,0) true 1 1),(stitch_form.mk (⟨#[]⟩:ByteArray) (1,200) (0,0) false 0 2),(stitch_form.mk (⟨#[111]⟩:ByteArray) (1,200) (0,0) true 2 0)].length:Int) < (IntKind.i64.wrap p0)))) S (wN d) d d a6 d d (lb d) fun a S=>?_
  exact lT (⟨decide (([(stitch_form.mk (⟨#[]⟩:ByteArray) (0,0) (0,0) true 1 1),(stitch_form.mk (⟨#[]⟩:ByteArray) (0,0) (0,0) false 0 1),(stitch_form.mk (⟨#[102]⟩:ByteArray) (2,4) (0,0) true 2 1),(stitch_form.mk (⟨#[108]⟩:ByteArray) (2,4) (0,0) true 2 1),(stitch_form.mk (⟨#[109]⟩:ByteArray) (2,4) (0,0) true 1 2),(stitch_form.mk (⟨#[120]⟩:ByteArray) (1,6) (1,6) true 3 3),(stitch_form.mk (⟨#[121]⟩:ByteArray) (1,6) (1,6) true 3 3),(stitch_form.mk (⟨#[115]⟩:ByteArray) (0,0) (0,0) true 1 1),(stitch_form.mk (⟨#[]⟩:ByteArray) (1,200) (0,0) false 0 2),(stitch_form.mk (⟨#[111]⟩:ByteArray) (1,200) (0,0) true 2 0)].length:Int) < (IntKind.i64.wrap p0)),Option.some.inj h,S.fix [4,0] [] (by decide) d d d⟩)
 obtain ⟨ac,rfl,S⟩:=hI
 have h:=aq
 try dsimp only at h
 rcases iS h with ⟨a8,h⟩ | ⟨a8,h⟩
 ·refine sCondT S d a8 (sSeq (fun au ae=>sRegion (sBuild [] (gl_stitch_form (stitch_form.mk (⟨#[]⟩:ByteArray) (0,0) (0,0) false 0 0)) S (wN d) d d d d (lb d) fun a S=>sStore (p:=b2) (off:=0) (T:=100) (vs:=[.string (⟨#[]⟩:ByteArray),iv 0,iv 0,iv 0,iv 0,.bool false,iv 0,iv 0]) (v:=gv_stitch_form (stitch_form.mk (⟨#[]⟩:ByteArray) (0,0) (0,0) false 0 0)) 0 [.string (⟨#[]⟩:ByteArray),iv 0,iv 0,iv 0,iv 0,.bool false,iv 0,iv 0] S (wN d) d d d d d d d (by simp) d fun a w S=>sN S fun a S=>?_)))
  refine lT (ae _ _ ?_)
  obtain rfl:=tS h
  have S:=S.learn (fRep r_stitch_form (gv_stitch_form (stitch_form.mk (⟨#[]⟩:ByteArray) (0,0) (0,0) false 0 0)) (stitch_form.mk (⟨#[]⟩:ByteArray) (0,0) (0,0) false 0 0)) d
  exact wp_ret (rThen (sRet (.tuple #[gv_stitch_form (stitch_form.mk (⟨#[]⟩:ByteArray) (0,0) (0,0) false 0 0),.bool false]) S (rsl2 d (rvN (c:=2) (t:=100) (T:=100) (p:=b2) 0 [.string (⟨#[]⟩:ByteArray),iv 0,iv 0,iv 0,iv 0,.bool false,iv 0,iv 0] S d d d d) (rvT (t:=3) (v:=.bool false) S d)) ⟨(gv_stitch_form (stitch_form.mk (⟨#[]⟩:ByteArray) (0,0) (0,0) false 0 0)),d,S.mem.sel [] [0] (by decide) d d⟩))
 refine sCondF S d a8 (wp_skip (leafT (ab _ _ ?_)))
 refine sSeq (fun av af=>sRegion (sM S fun a S=>?_))
 refine sM S fun a S=>?_
 refine sBin _ S (wN d) d d d (bSubK _ _ _ _ .u8 p0 1) d (lb d) fun a S=>?_
 obtain ⟨a2,ag,h⟩:=bS h
 have S:=S.shutR (r:=r_stitch_form) (T:=100) (v:=.slice aa [(stitch_form.mk (⟨#[]⟩:ByteArray) (0,0) (0,0) true 1 1),(stitch_form.mk (⟨#[]⟩:ByteArray) (0,0) (0,0) false 0 1),(stitch_form.mk (⟨#[102]⟩:ByteArray) (2,4) (0,0) true 2 1),(stitch_form.mk (⟨#[108]⟩:ByteArray) (2,4) (0,0) true 2 1),(stitch_form.mk (⟨#[109]⟩:ByteArray) (2,4) (0,0) true 1 2),(stitch_form.mk (⟨#[120]⟩:ByteArray) (1,6) (1,6) true 3 3),(stitch_form.mk (⟨#[121]⟩:ByteArray) (1,6) (1,6) true 3 3),(stitch_form.mk (⟨#[115]⟩:ByteArray) (0,0) (0,0) true 1 1),(stitch_form.mk (⟨#[]⟩:ByteArray) (1,200) (0,0) false 0 2),(stitch_form.mk (⟨#[111]⟩:ByteArray) (1,200) (0,0) true 2 0)].length a7) (xs:=[(stitch_form.mk (⟨#[]⟩:ByteArray) (0,0) (0,0) true 1 1),(stitch_form.mk (⟨#[]⟩:ByteArray) (0,0) (0,0) false 0 1),(stitch_form.mk (⟨#[102]⟩:ByteArray) (2,4) (0,0) true 2 1),(stitch_form.mk (⟨#[108]⟩:ByteArray) (2,4) (0,0) true 2 1),(stitch_form.mk (⟨#[109]⟩:ByteArray) (2,4) (0,0) true 1 2),(stitch_form.mk (⟨#[120]⟩:ByteArray) (1,6) (1,6) true 3 3),(stitch_form.mk (⟨#[121]⟩:ByteArray) (1,6) (1,6) true 3 3),(stitch_form.mk (⟨#[115]⟩:ByteArray) (0,0) (0,0) true 1 1),(stitch_form.mk (⟨#[]⟩:ByteArray) (1,200) (0,0) false 0 2),(stitch_form.mk (⟨#[111]⟩:ByteArray) (1,200) (0,0) true 2 0)]) 1 d
 obtain ⟨ai,ah,S⟩:=pIdx (P:=Tryd.prog) (r:=r_stitch_form) (v:=.slice aa [(stitch_form.mk (⟨#[]⟩:ByteArray) (0,0) (0,0) true 1 1),(stitch_form.mk (⟨#[]⟩:ByteArray) (0,0) (0,0) false 0 1),(stitch_form.mk (⟨#[102]⟩:ByteArray) (2,4) (0,0) true 2 1),(stitch_form.mk (⟨#[108]⟩:ByteArray) (2,4) (0,0) true 2 1),(stitch_form.mk (⟨#[109]⟩:ByteArray) (2,4) (0,0) true 1 2),(stitch_form.mk (⟨#[120]⟩:ByteArray) (1,6) (1,6) true 3 3),(stitch_form.mk (⟨#[121]⟩:ByteArray) (1,6) (1,6) true 3 3),(stitch_form.mk (⟨#[115]⟩:ByteArray) (0,0) (0,0) true 1 1),(stitch_form.mk (⟨#[]⟩:ByteArray) (1,200) (0,0) false 0 2),(stitch_form.mk (⟨#[111]⟩:ByteArray) (1,200) (0,0) true 2 0)].length a7) (xs:=[(stitch_form.mk (⟨#[]⟩:ByteArray) (0,0) (0,0) true 1 1),(stitch_form.mk (⟨#[]⟩:ByteArray) (0,0) (0,0) false 0 1),(stitch_form.mk (⟨#[102]⟩:ByteArray) (2,4) (0,0) true 2 1),(stitch_form.mk (⟨#[108]⟩:ByteArray) (2,4) (0,0) true 2 1),(stitch_form.mk (⟨#[109]⟩:ByteArray) (2,4) (0,0) true 1 2),(stitch_form.mk (⟨#[120]⟩:ByteArray) (1,6) (1,6) true 3 3),(stitch_form.mk (⟨#[121]⟩:ByteArray) (1,6) (1,6) true 3 3),(stitch_form.mk (⟨#[115]⟩:ByteArray) (0,0) (0,0) true 1 1),(stitch_form.mk (⟨#[]⟩:ByteArray) (1,200) (0,0) false 0 2),(stitch_form.mk (⟨#[111]⟩:ByteArray) (1,200) (0,0) true 2 0)]) (j:=IntKind.u8.wrap (p0 - 1)) 117 100 0 S Tryd.underlying117 d d ag
 refine sIdxV S (wN d) d d d ah d (lb d) fun a S=>?_
 obtain ⟨aj,S⟩:=pLoad (r:=r_stitch_form) (q:=ai) (x:=a2) 0 S d
 obtain rfl:aj=gv_stitch_form a2:=S.mem.know (i:=1) (e:=fRep r_stitch_form (aj) a2) d
 refine sLoadVN (vq:=ai) 0 [.string a2.letter,iv a2.a.1,iv a2.a.2,iv a2.b.1,iv a2.b.2,.bool a2.sided,iv a2.uses,iv a2.made] S (wN d) d d d d d d (lb d) fun a S=>sStore (p:=b2) (off:=0) (T:=100) (vs:=[.string (⟨#[]⟩:ByteArray),iv 0,iv 0,iv 0,iv 0,.bool false,iv 0,iv 0]) (v:=gv_stitch_form a2) 0 [.string a2.letter,iv a2.a.1,iv a2.a.2,iv a2.b.1,iv a2.b.2,.bool a2.sided,iv a2.uses,iv a2.made] S (wN d) d d d d d d d (by simp) d fun a w S=>sN S fun a S=>?_
 refine lT (af _ _ ?_)
 obtain rfl:=tS h
 exact wp_ret (sRet (.tuple #[gv_stitch_form a2,.bool true]) S (rsl2 d (rvN (c:=2) (t:=100) (T:=100) (p:=b2) 0 [.string a2.letter,iv a2.a.1,iv a2.a.2,iv a2.b.1,iv a2.b.2,.bool a2.sided,iv a2.uses,iv a2.made] S d d d d) (rvT (t:=3) (v:=.bool true) S d)) ⟨(gv_stitch_form a2),d,S.mem.sel [] [1] (by decide) d d⟩)
noncomputable def F_stitch_loops (p0:api_Stitch) (p1:Int):Option Int:=
 (idxO ([0,1,p0.A,w64 (p0.A + p0.B)]:List Int) p1).bind fun x4=>
 some x4
theorem c_stitch_loops (E:Nat→Prop) (w0:World) (p0:api_Stitch) (v0:Value) (p1:Int) (r:Int) (h:F_stitch_loops p0 p1=some r) (S:St0 E [] w0 w0 [] [fRep r_api_Stitch (v0) p0]) :
 Calls Tryd.prog 57 #[v0,iv p1] w0 (Ret (X:=Unit) E [] w0 (fun _=>.int .i64 r) (fun _=>[]) (fun _=>[])):=by
 unfold F_stitch_loops at h
 obtain rfl:v0=.agg #[.int .u8 p0.Kind,.bool p0.Purl,iv p0.A,iv p0.B]:=S.know (i:=0) (e:=fRep r_api_Stitch (v0) p0) d
 refine sEnter (args:=[.agg #[.int .u8 p0.Kind,.bool p0.Purl,iv p0.A,iv p0.B],iv p1]) 15 Tryd.func57 d d (by simp) S (fun a S=>?_)
 refine sSeq (fun K1 a2=>sRegion (sBox (v:=.agg #[.int .u8 p0.Kind,.bool p0.Purl,iv p0.A,iv p0.B]) S (wN d) d d [.int .u8 p0.Kind,.bool p0.Purl,iv p0.A,iv p0.B] d d (lb d) fun a b2 w S=>sN S fun a S=>?_))
 refine lT (a2 _ _ (sSeq (fun K3 a6=>sRegion (sField (b:=b2) (off:=0) 2 2 S (wN d) d d d d d (lb d) fun a S=>sLoad1 0 (iv p0.A) S (wN d) d d d d d d (lb d) fun a S=>sField (b:=b2) (off:=0) 2 2 S (wN d) d d d d d (lb d) fun a S=>sLoad1 0 (iv p0.A) S (wN d) d d d d d d (lb d) fun a S=>sField (b:=b2) (off:=0) 3 3 S (wN d) d d d d d (lb d) fun a S=>sLoad1 0 (iv p0.B) S (wN d) d d d d d d (lb d) fun a S=>sBin _ S (wN d) d d d (bAdd _ _ _ _ p0.A p0.B) d (lb d) fun a S=>sBuild [(0,iv 0),(1,iv 1),(2,iv p0.A),(3,iv (w64 (p0.A + p0.B)))] [iv 0,iv 1,iv p0.A,iv (w64 (p0.A + p0.B))] S (wN d) d d d d (lb d) fun a S=>sM S fun a S=>?_))))
 obtain ⟨x4,a7,h⟩:=bS h
 refine sIndexA (g:=fun z=>.int .i64 z) (xs:=([0,1,p0.A,w64 (p0.A + p0.B)]:List Int)) (j:=p1) (k:=.i64) 4 [iv 0,iv 1,iv p0.A,iv (w64 (p0.A + p0.B))] S (wN d) d Tryd.underlying120 d d d d d d a7 d (lb d) fun a S=>sN S fun a S=>?_
 refine lT (a6 _ _ ?_)
 obtain rfl:=tS h
 exact wp_ret (sRet (iv x4) S (rsl1 d (rvT (t:=4) (v:=iv x4) S d)) ⟨(),d,S.mem.sel [] [] (by decide) d d⟩)
noncomputable def stitch_sum_l1 (p0:(List api_Stitch)):(Int × Int × Int)→Option ((Int × Int × Int) ⊕ (Int × Int)):=fun s0=>match s0 with
 | (s9,a7,a2)=>
  if decide (a2 < (p0.length:Int)) then
   (idxO p0 a2).bind fun a6=>
   (F_stitch_forms a6.Kind).bind fun a8=>
   (F_stitch_loops a6 a8.1.uses).bind fun aa=>
   (F_stitch_loops a6 a8.1.made).bind fun ab=>
   some (.inl (w64 (s9 + aa),w64 (a7 + ab),w64 (a2 + 1)))
  else
   some (.inr (s9,a7))
noncomputable def F_stitch_sum (p0:(List api_Stitch)):Option (Int × Int):=
 Option.bind (α:=(Int × Int)) (
  (whileO (stitch_sum_l1 p0) (0,0,0)).bind fun (a2,a6)=>
   some (a2,a6)) fun (o4,o5)=>
 some (o4,o5)
theorem c_stitch_sum (E:Nat→Prop) (w0:World) (p0:(List api_Stitch)) (v0:Value) (r:(Int × Int)) (h:F_stitch_sum p0=some r) (S:St0 E [] w0 w0 [] [fRep (rL r_api_Stitch) (v0) p0]) :
 Calls Tryd.prog 46 #[v0] w0 (Ret (X:=Unit) E [] w0 (fun _=>.tuple #[.int .i64 r.1,.int .i64 r.2]) (fun _=>[]) (fun _=>[])):=by
 unfold F_stitch_sum at h
 obtain ⟨ac,ae,_,rfl,_⟩:=S.know (i:=0) (e:=fRep (rL r_api_Stitch) (v0) p0) d
 refine sEnter (args:=[.slice ac p0.length ae]) 35 Tryd.func46 d d (by simp) S (fun a S=>?_)
 refine sSeq (fun K3 aC=>sRegion (sN S fun a S=>?_))
 refine sN S fun a S=>?_
 refine lT (aC _ _ ?_)
 obtain ⟨t6,h,g7⟩:=bS h
 refine sCut (fun a w=>∃ o4,∃ o5,(o4,o5)=t6∧St [] E [] w0 35 a w [(2,iv o4),(3,iv o5)] [] []) ?_ (fun a w hI=>?_)
 rotate_left
 ·obtain ⟨o4,o5,rfl,S⟩:=hI
  have h:=g7
  try dsimp only at h
  refine sSeq (fun aI ah=>sRegion (sM S fun a S=>?_))
  refine sM S fun a S=>?_
  refine sN S fun a S=>?_
  refine sN S fun a S=>?_
  refine lT (ah _ _ ?_)
  obtain rfl:=tS h
  exact wp_ret (sRet (.tuple #[iv o4,iv o5]) S (rsl2 d (rvT (t:=2) (v:=iv o4) S d) (rvT (t:=3) (v:=iv o5) S d)) ⟨(),d,S.mem.sel [] [] (by decide) d d⟩)
 refine sSeq (fun K8 aG=>sRegion (sM S fun a S=>?_))
 refine sLen S (wN d) d Tryd.underlying52 d d (lb d) fun a S=>sM S fun a S=>?_
 refine lT (aG _ _ (wp_block ?_))
 obtain ⟨aJ,hl,aH⟩:=bS h
 refine sLoop hl (fun s0 a w=>match s0 with | (s9,aa,a8)=>St [] E [] w0 35 a w [(2,iv s9),(3,iv aa),(8,.slice ac p0.length ae),(9,iv (p0.length:Int)),(10,iv a8)] [] [fRep (rL r_api_Stitch) (.slice ac p0.length ae) p0]) (S.fix [] [0] (by decide) d d d) ?_
 clear hl h
 intro s0 a w c0 hI h ai
 obtain ⟨s9,aa,a8⟩:=s0
 unfold stitch_sum_l1 at h
 dsimp only at h hI
 have S:=hI
 refine sSeq (fun aK aj=>sRegion (sBin _ S (wN d) d d d (bLt _ _ _ _ .i64 a8 (p0.length:Int)) d (lb d) fun a S=>lT (aj _ _ (sSeq (fun aL ak=>?_)))))
 rcases iS h with ⟨a7,h⟩ | ⟨a7,h⟩
 rotate_left
 ·refine sCondF S d a7 ?_
  obtain rfl:=tS h
  obtain rfl:=ai _ d
  have h:=aH
  try dsimp only at h
  exact wp_exit (xThen (xThen (xHit (leafT (⟨s9,aa,Option.some.inj h,S.fix [] [] (by decide) d d d⟩)))))
 refine sCondT S d a7 (wp_skip (leafT (ak _ _ ?_)))
 refine sSeq (fun aM al=>wp_block ?_)
 refine sSeq (fun aO am=>sRegion ?_)
 obtain ⟨a2,ao,h⟩:=bS h
 obtain ⟨ay,ap,S⟩:=pIdx (P:=Tryd.prog) (r:=r_api_Stitch) (v:=.slice ac p0.length ae) (xs:=p0) (j:=a8) 52 56 0 S Tryd.underlying52 d d ao
 refine sIdxV S (wN d) d d d ap d (lb d) fun a S=>?_
 obtain ⟨az,S⟩:=pLoad (r:=r_api_Stitch) (q:=ay) (x:=a2) 0 S d
 obtain rfl:az=.agg #[.int .u8 a2.Kind,.bool a2.Purl,iv a2.A,iv a2.B]:=S.mem.know (i:=1) (e:=fRep r_api_Stitch (az) a2) d
 refine sLoadVN (vq:=ay) 0 [.int .u8 a2.Kind,.bool a2.Purl,iv a2.A,iv a2.B] S (wN d) d d d d d d (lb d) fun a S=>sAlloc (.agg #[.int .u8 0,.bool false,iv 0,iv 0]) S (wN d) d d [.int .u8 0,.bool false,iv 0,iv 0] d d (lb d) fun a ab w S=>sStore (p:=ab) (off:=0) (T:=56) (vs:=[.int .u8 0,.bool false,iv 0,iv 0]) (v:=.agg #[.int .u8 a2.Kind,.bool a2.Purl,iv a2.A,iv a2.B]) 0 [.int .u8 a2.Kind,.bool a2.Purl,iv a2.A,iv a2.B] S (wN d) d d d d d d d (by simp) d fun a w S=>lT (am _ _ (sSeq (fun aP aq=>sRegion (sField (b:=ab) (off:=0) 0 0 S (wN d) d d d d d (lb d) fun a S=>sLoad1 0 (.int .u8 a2.Kind) S (wN d) d d d d d d (lb d) fun a S=>?_))))
 obtain ⟨a6,ar,h⟩:=bS h
 refine sCall (X:=Value) (f:=52) (vs:=[.int .u8 a2.Kind]) (val:=c_stitch_forms_val a6) (B':=fun _=>[]) (D':=c_stitch_forms_D a6) [] [eBox ab 56 [.int .u8 a2.Kind,.bool a2.Purl,iv a2.A,iv a2.B]] [] [0] [] S (wN d) d callee52 d (by decide) d d (fun E1 w1 S1=>c_stitch_forms E1 w1 a2.Kind a6 ar S1) d (lb d) fun aA a w S=>?_
 obtain rfl:aA=gv_stitch_form a6.1:=S.mem.know (i:=0) (e:=fRep r_stitch_form (aA) a6.1) d
 refine sM S fun a S=>?_
 refine sExtract (vs:=[gv_stitch_form a6.1,.bool a6.2]) (gv_stitch_form a6.1) S (wN d) d d d d (lb d) fun a S=>sExtract (vs:=[gv_stitch_form a6.1,.bool a6.2]) (.bool a6.2) S (wN d) d d d d (lb d) fun a S=>sAlloc (gv_stitch_form (stitch_form.mk (⟨#[]⟩:ByteArray) (0,0) (0,0) false 0 0)) S (wN d) d d (gl_stitch_form (stitch_form.mk (⟨#[]⟩:ByteArray) (0,0) (0,0) false 0 0)) d d (lb d) fun a au w S=>sStore (p:=au) (off:=0) (T:=100) (vs:=[.string (⟨#[]⟩:ByteArray),iv 0,iv 0,iv 0,iv 0,.bool false,iv 0,iv 0]) (v:=gv_stitch_form a6.1) 0 [.string a6.1.letter,iv a6.1.a.1,iv a6.1.a.2,iv a6.1.b.1,iv a6.1.b.2,.bool a6.1.sided,iv a6.1.uses,iv a6.1.made] S (wN d) d d d d d d d (by simp) d fun a w S=>sN S fun a S=>?_
 refine lT (aq _ _ (sSeq (fun aQ av=>sRegion (sM S fun a S=>?_))))
 refine sLoadN (p:=ab) (off:=0) (T:=56) (vs:=[.int .u8 a2.Kind,.bool a2.Purl,iv a2.A,iv a2.B]) 1 [.int .u8 a2.Kind,.bool a2.Purl,iv a2.A,iv a2.B] S (wN d) d d d d d d d (lb d) fun a S=>sField (b:=au) (off:=0) 6 6 S (wN d) d d d d d (lb d) fun a S=>sLoad1 0 (iv a6.1.uses) S (wN d) d d d d d d (lb d) fun a S=>?_
 obtain ⟨af,aw,h⟩:=bS h
 have S1:=S.mem
 refine sCq [.agg #[.int .u8 a2.Kind,.bool a2.Purl,iv a2.A,iv a2.B],iv a6.1.uses] (iv af) S callee57 (S1.quiet [2] d) (fun E1 w1 S1=>c_stitch_loops E1 w1 a2 (.agg #[.int .u8 a2.Kind,.bool a2.Purl,iv a2.A,iv a2.B]) a6.1.uses af aw S1) fun a w S=>?_
 refine sBin _ S (wN d) d d d (bAdd _ _ _ _ s9 af) d (lb d) fun a S=>sN S fun a S=>?_
 refine lT (av _ _ (sRegion (sM S fun a S=>?_)))
 refine sLoadN (p:=ab) (off:=0) (T:=56) (vs:=[.int .u8 a2.Kind,.bool a2.Purl,iv a2.A,iv a2.B]) 1 [.int .u8 a2.Kind,.bool a2.Purl,iv a2.A,iv a2.B] S (wN d) d d d d d d d (lb d) fun a S=>sField (b:=au) (off:=0) 7 7 S (wN d) d d d d d (lb d) fun a S=>sLoad1 0 (iv a6.1.made) S (wN d) d d d d d d (lb d) fun a S=>?_
 obtain ⟨ag,ax,h⟩:=bS h
 have S1:=S.mem
 refine sCq [.agg #[.int .u8 a2.Kind,.bool a2.Purl,iv a2.A,iv a2.B],iv a6.1.made] (iv ag) S callee57 (S1.quiet [2] d) (fun E1 w1 S1=>c_stitch_loops E1 w1 a2 (.agg #[.int .u8 a2.Kind,.bool a2.Purl,iv a2.A,iv a2.B]) a6.1.made ag ax S1) fun a w S=>?_
 refine sBin _ S (wN d) d d d (bAdd _ _ _ _ aa ag) d (lb d) fun a S=>sN S fun a S=>?_
 refine leafL (leafB (leafT (al _ _ ?_)))
 refine sRegion (sBin _ S (wN d) d d d (bAdd _ _ _ _ a8 1) d (lb d) fun a S=>sM S fun a S=>?_)
 exact lT (⟨(w64 (s9 + af),w64 (aa + ag),w64 (a8 + 1)),(Option.some.inj h).symm,(S.fix [] [4] (by decide) d d d)⟩)
noncomputable def F_stitch_within (p0:Int) (p1:(Int × Int)):Option Bool:=
 Option.bind (α:=Bool) (
  if decide (p1.1 ≤ p0) then
   some (decide (p0 ≤ p1.2))
  else
   some false) fun o3=>
 some o3
theorem c_stitch_within (E:Nat→Prop) (w0:World) (p0:Int) (p1:(Int × Int)) (v1:Value) (r:Bool) (h:F_stitch_within p0 p1=some r) (S:St0 E [] w0 w0 [] [fRep r_A2_Int (v1) p1]) :
 Calls Tryd.prog 69 #[iv p0,v1] w0 (Ret (X:=Unit) E [] w0 (fun _=>.bool r) (fun _=>[]) (fun _=>[])):=by
 unfold F_stitch_within at h
 obtain rfl:v1=.agg #[iv p1.1,iv p1.2]:=S.know (i:=0) (e:=fRep r_A2_Int (v1) p1) d
 refine sEnter (args:=[iv p0,.agg #[iv p1.1,iv p1.2]]) 15 Tryd.func69 d d (by simp) S (fun a S=>?_)
 refine sSeq (fun K1 a6=>sRegion (sBox (v:=.agg #[iv p1.1,iv p1.2]) S (wN d) d d [iv p1.1,iv p1.2] d d (lb d) fun a b2 w S=>sN S fun a S=>?_))
 refine lT (a6 _ _ ?_)
 obtain ⟨t4,h,g5⟩:=bS h
 refine sCut (fun a w=>∃ o3,o3=t4∧St [] E [] w0 15 a w [(4,.bool o3)] [] []) ?_ (fun a w hI=>?_)
 rotate_left
 ·obtain ⟨o3,rfl,S⟩:=hI
  have h:=g5
  try dsimp only at h
  obtain rfl:=tS h
  exact wp_ret (sRet (.bool o3) S (rsl1 d (rvT (t:=4) (v:=.bool o3) S d)) ⟨(),d,S.mem.sel [] [] (by decide) d d⟩)
 refine sRegion (sM S fun a S=>?_)
 refine sIdxV S (wN d) d d d (idxV_arr (m:=2) (sz:=1) Tryd.underlying61 d (by decide) (by decide) 0) d (lb d) fun a S=>sLoad1 0 (iv p1.1) S (wN d) d d d d d d (lb d) fun a S=>sBin _ S (wN d) d d d (bGe _ _ _ _ .i64 p0 p1.1) d (lb d) fun a S=>sM S fun a S=>?_
 rcases iS h with ⟨a2,h⟩ | ⟨a2,h⟩
 rotate_left
 ·refine sSkN 4 4 true 9 S d d a2 d fun a S=>sPickF (.bool false) S (wN d) d d a2 d d (lb d) fun a S=>sN S fun a S=>?_
  exact lT (⟨false,Option.some.inj h,S.fix [] [] (by decide) d d d⟩)
 refine sMove (iv p0) S (wG 4 true 9 d d d a2) (.inl d) d d (lb d) fun a S=>sIdxV S (wG 4 true 9 d d d a2) d d d (idxV_arr (m:=2) (sz:=1) Tryd.underlying61 d (by decide) (by decide) 0) d (lb d) fun a S=>sLoad1 0 (iv p1.2) S (wG 4 true 9 d d d a2) d d d d d d (lb d) fun a S=>sBin _ S (wG 4 true 9 d d d a2) d d d (bLe _ _ _ _ .i64 p0 p1.2) d (lb d) fun a S=>sPickT (.bool (decide (p0 ≤ p1.2))) S (wN d) d d a2 d d (lb d) fun a S=>sN S fun a S=>?_
 exact lT (⟨decide (p0 ≤ p1.2),Option.some.inj h,S.fix [] [] (by decide) d d d⟩)
noncomputable def F_stitch_Check (p0:api_Stitch):Option Int:=
 (F_stitch_forms p0.Kind).bind fun r4=>
 Option.bind (α:=Bool) (
  if !r4.2 then
   some true
  else
   (F_stitch_within p0.A r4.1.a).bind fun a2=>
   if !a2 then
    some true
   else
    (F_stitch_within p0.B r4.1.b).bind fun a6=>
    if !a6 then
     some true
    else
     if p0.Purl then
      some (!r4.1.sided)
     else
      some false) fun o9=>
 if o9 then
  some 8
 else
  some 0
theorem c_stitch_Check (E:Nat→Prop) (w0:World) (p0:api_Stitch) (v0:Value) (r:Int) (h:F_stitch_Check p0=some r) (S:St0 E [] w0 w0 [] [fRep r_api_Stitch (v0) p0]) :
 Calls Tryd.prog 55 #[v0] w0 (Ret (X:=Unit) E [] w0 (fun _=>.int .i64 r) (fun _=>[]) (fun _=>[])):=by
 unfold F_stitch_Check at h
 obtain rfl:v0=.agg #[.int .u8 p0.Kind,.bool p0.Purl,iv p0.A,iv p0.B]:=S.know (i:=0) (e:=fRep r_api_Stitch (v0) p0) d
 refine sEnter (args:=[.agg #[.int .u8 p0.Kind,.bool p0.Purl,iv p0.A,iv p0.B]]) 38 Tryd.func55 d d (by simp) S (fun a S=>?_)
 refine sSeq (fun K1 ai=>sRegion (sBox (v:=.agg #[.int .u8 p0.Kind,.bool p0.Purl,iv p0.A,iv p0.B]) S (wN d) d d [.int .u8 p0.Kind,.bool p0.Purl,iv p0.A,iv p0.B] d d (lb d) fun a b2 w S=>sN S fun a S=>?_))
 refine lT (ai _ _ (sSeq (fun K3 aj=>sRegion (sField (b:=b2) (off:=0) 0 0 S (wN d) d d d d d (lb d) fun a S=>sLoad1 0 (.int .u8 p0.Kind) S (wN d) d d d d d d (lb d) fun a S=>?_))))
 obtain ⟨r4,ak,h⟩:=bS h
 refine sCall (X:=Value) (f:=52) (vs:=[.int .u8 p0.Kind]) (val:=c_stitch_forms_val r4) (B':=fun _=>[]) (D':=c_stitch_forms_D r4) [] [eBox b2 56 [.int .u8 p0.Kind,.bool p0.Purl,iv p0.A,iv p0.B]] [] [0] [] S (wN d) d callee52 d (by decide) d d (fun E1 w1 S1=>c_stitch_forms E1 w1 p0.Kind r4 ak S1) d (lb d) fun u6 a w S=>?_
 obtain rfl:u6=gv_stitch_form r4.1:=S.mem.know (i:=0) (e:=fRep r_stitch_form (u6) r4.1) d
 refine sM S fun a S=>?_
 refine sExtract (vs:=[gv_stitch_form r4.1,.bool r4.2]) (gv_stitch_form r4.1) S (wN d) d d d d (lb d) fun a S=>sExtract (vs:=[gv_stitch_form r4.1,.bool r4.2]) (.bool r4.2) S (wN d) d d d d (lb d) fun a S=>sAlloc (gv_stitch_form (stitch_form.mk (⟨#[]⟩:ByteArray) (0,0) (0,0) false 0 0)) S (wN d) d d (gl_stitch_form (stitch_form.mk (⟨#[]⟩:ByteArray) (0,0) (0,0) false 0 0)) d d (lb d) fun a b7 w S=>sStore (p:=b7) (off:=0) (T:=100) (vs:=[.string (⟨#[]⟩:ByteArray),iv 0,iv 0,iv 0,iv 0,.bool false,iv 0,iv 0]) (v:=gv_stitch_form r4.1) 0 [.string r4.1.letter,iv r4.1.a.1,iv r4.1.a.2,iv r4.1.b.1,iv r4.1.b.2,.bool r4.1.sided,iv r4.1.uses,iv r4.1.made] S (wN d) d d d d d d d (by simp) d fun a w S=>sN S fun a S=>?_
 refine lT (aj _ _ (sSeq (fun K8 al=>?_)))
 obtain ⟨am,h,ao⟩:=bS h
 refine sCut (fun a w=>∃ o9,o9=am∧St [] E [] w0 38 a w [(37,.bool o9)] [] []) ?_ (fun a w hI=>?_)
 rotate_left
 ·obtain ⟨o9,rfl,S⟩:=hI
  have h:=ao
  try dsimp only at h
  rcases iS h with ⟨aa,h⟩ | ⟨aa,h⟩
  ·refine sCondT S d aa (sSeq (fun ap ae=>sRegion (sN S fun a S=>?_)))
   refine lT (ae _ _ ?_)
   obtain rfl:=tS h
   exact wp_ret (rThen (sRet (iv 8) S (rsl1 d (rvT (t:=2) (v:=iv 8) S d)) ⟨(),d,S.mem.sel [] [] (by decide) d d⟩))
  refine sCondF S d aa (wp_skip (leafT (al _ _ ?_)))
  refine sSeq (fun aq af=>sRegion (sN S fun a S=>?_))
  refine lT (af _ _ ?_)
  obtain rfl:=tS h
  exact wp_ret (sRet (iv 0) S (rsl1 d (rvT (t:=2) (v:=iv 0) S d)) ⟨(),d,S.mem.sel [] [] (by decide) d d⟩)
 refine sRegion (sM S fun a S=>?_)
 refine sNot (b:=r4.2) S (wN d) d d d (lb d) fun a S=>sM S fun a S=>?_
 rcases iS h with ⟨a6,h⟩ | ⟨a6,h⟩
 ·refine sSkN 6 2 false 13 S d d a6 d fun a S=>sPickT (.bool true) S (wN d) d d a6 d d (lb d) fun a S=>sM S fun a S=>?_
  refine sSkN 6 10 false 21 S d d d d fun a S=>sPickT (.bool true) S (wN d) d d d d d (lb d) fun a S=>sM S fun a S=>?_
  refine sSkN 3 18 false 29 S d d d d fun a S=>sSkipU 21 true 32 33 S d d d d (lb d) fun a S=>?_
  refine sSkipU 21 true 32 34 S d d d d (lb d) fun a S=>?_
  refine sSkipU 21 true 32 35 S d d d d (lb d) fun a S=>?_
  refine sSk S d d d d d d fun a S=>sPickT (.bool true) S (wN d) d d d d d (lb d) fun a S=>?_
  exact lT (⟨true,Option.some.inj h,S.fix [] [] (by decide) d d d⟩)
 refine sField (b:=b2) (off:=0) 2 2 S (wG 2 false 13 d d d a6) d d d d d (lb d) fun a S=>sLoad1 1 (iv p0.A) S (wG 2 false 13 d d d a6) d d d d d d (lb d) fun a S=>sField (b:=b7) (off:=0) 1 1 S (wG 2 false 13 d d d a6) d d d d d (lb d) fun a S=>sLoadN (p:=b7) (off:=1) (T:=100) (vs:=(gl_stitch_form r4.1)) 0 [iv r4.1.a.1,iv r4.1.a.2] S (wG 2 false 13 d d d a6) d d d d d d d (lb d) fun a S=>?_
 obtain ⟨ab,ag,h⟩:=bS h
 have S1:=S.mem
 have S1:=S1.learn (fRep r_A2_Int (.agg #[iv r4.1.a.1,iv r4.1.a.2]) r4.1.a) d
 refine sCallQ (X:=Unit) (f:=69) (vs:=[iv p0.A,.agg #[iv r4.1.a.1,iv r4.1.a.2]]) (val:=fun _=>.bool ab) S (wG 2 false 13 d d d a6) d callee69 d (S1.quiet [0] d) (fun E1 w1 S1=>c_stitch_within E1 w1 p0.A r4.1.a (.agg #[iv r4.1.a.1,iv r4.1.a.2]) ab ag S1) d (lb d) fun _ a w S=>?_
 refine sNot (b:=ab) S (wG 2 false 13 d d d a6) d d d (lb d) fun a S=>sPickF (.bool (!ab)) S (wN d) d d a6 d d (lb d) fun a S=>sM S fun a S=>?_
 rcases iS h with ⟨a7,h⟩ | ⟨a7,h⟩
 ·refine sSkN 6 10 false 21 S d d a7 d fun a S=>sPickT (.bool true) S (wN d) d d a7 d d (lb d) fun a S=>sM S fun a S=>?_
  refine sSkN 3 18 false 29 S d d d d fun a S=>sSkipU 21 true 32 33 S d d d d (lb d) fun a S=>?_
  refine sSkipU 21 true 32 34 S d d d d (lb d) fun a S=>?_
  refine sSkipU 21 true 32 35 S d d d d (lb d) fun a S=>?_
  refine sSk S d d d d d d fun a S=>sPickT (.bool true) S (wN d) d d d d d (lb d) fun a S=>?_
  exact lT (⟨true,Option.some.inj h,S.fix [] [] (by decide) d d d⟩)
 refine sField (b:=b2) (off:=0) 3 3 S (wG 10 false 21 d d d a7) d d d d d (lb d) fun a S=>sLoad1 1 (iv p0.B) S (wG 10 false 21 d d d a7) d d d d d d (lb d) fun a S=>sField (b:=b7) (off:=0) 3 3 S (wG 10 false 21 d d d a7) d d d d d (lb d) fun a S=>sLoadN (p:=b7) (off:=3) (T:=100) (vs:=(gl_stitch_form r4.1)) 0 [iv r4.1.b.1,iv r4.1.b.2] S (wG 10 false 21 d d d a7) d d d d d d d (lb d) fun a S=>?_
 obtain ⟨ac,ah,h⟩:=bS h
 have S1:=S.mem
 have S1:=S1.learn (fRep r_A2_Int (.agg #[iv r4.1.b.1,iv r4.1.b.2]) r4.1.b) d
 refine sCallQ (X:=Unit) (f:=69) (vs:=[iv p0.B,.agg #[iv r4.1.b.1,iv r4.1.b.2]]) (val:=fun _=>.bool ac) S (wG 10 false 21 d d d a7) d callee69 d (S1.quiet [0] d) (fun E1 w1 S1=>c_stitch_within E1 w1 p0.B r4.1.b (.agg #[iv r4.1.b.1,iv r4.1.b.2]) ac ah S1) d (lb d) fun _ a w S=>?_
 refine sNot (b:=ac) S (wG 10 false 21 d d d a7) d d d (lb d) fun a S=>sPickF (.bool (!ac)) S (wN d) d d a7 d d (lb d) fun a S=>sM S fun a S=>?_
 rcases iS h with ⟨a2,h⟩ | ⟨a2,h⟩
 ·refine sSkN 3 18 false 29 S d d a2 d fun a S=>sSkipU 21 true 32 33 S d d d d (lb d) fun a S=>?_
  refine sSkipU 21 true 32 34 S d d d d (lb d) fun a S=>?_
  refine sSkipU 21 true 32 35 S d d d d (lb d) fun a S=>?_
  refine sSk S d d d a2 d d fun a S=>sPickT (.bool true) S (wN d) d d a2 d d (lb d) fun a S=>?_
  exact lT (⟨true,Option.some.inj h,S.fix [] [] (by decide) d d d⟩)
 refine sField (b:=b2) (off:=0) 1 1 S (wG 18 false 29 d d d a2) d d d d d (lb d) fun a S=>sLoad1 1 (.bool p0.Purl) S (wG 18 false 29 d d d a2) d d d d d d (lb d) fun a S=>sMove (.bool p0.Purl) S (wG 18 false 29 d d d a2) (.inl d) d d (lb d) fun a S=>?_
 rcases iS h with ⟨a8,h⟩ | ⟨a8,h⟩
 rotate_left
 ·refine sSkN 3 21 true 32 S d d a8 d fun a S=>sPickF (.bool false) S (wG 18 false 29 d d d a2) d d a8 d d (lb d) fun a S=>sPickF (.bool false) S (wN d) d d a2 d d (lb d) fun a S=>?_
  exact lT (⟨false,Option.some.inj h,S.fix [] [] (by decide) d d d⟩)
 refine sField (b:=b7) (off:=0) 5 5 S (wG 21 true 32 d d d a8) d d d d d (lb d) fun a S=>sLoad1 0 (.bool r4.1.sided) S (wG 21 true 32 d d d a8) d d d d d d (lb d) fun a S=>sNot (b:=r4.1.sided) S (wG 21 true 32 d d d a8) d d d (lb d) fun a S=>sPickT (.bool (!r4.1.sided)) S (wG 18 false 29 d d d a2) d d a8 d d (lb d) fun a S=>sPickF (.bool (!r4.1.sided)) S (wN d) d d a2 d d (lb d) fun a S=>?_
 exact lT (⟨!r4.1.sided,Option.some.inj h,S.fix [] [] (by decide) d d d⟩)
noncomputable def F_stitch_All_1 (p0:api_Stitch):Option Bool:=
 (F_stitch_Check p0).bind fun r4=>
 some (r4 != 0)
theorem c_stitch_All_1 (E:Nat→Prop) (w0:World) (p0:api_Stitch) (v0:Value) (r:Bool) (h:F_stitch_All_1 p0=some r) (S:St0 E [] w0 w0 [] [fRep r_api_Stitch (v0) p0]) :
 Calls Tryd.prog 54 #[v0] w0 (Ret (X:=Unit) E [] w0 (fun _=>.bool r) (fun _=>[]) (fun _=>[])):=by
 unfold F_stitch_All_1 at h
 obtain rfl:v0=.agg #[.int .u8 p0.Kind,.bool p0.Purl,iv p0.A,iv p0.B]:=S.know (i:=0) (e:=fRep r_api_Stitch (v0) p0) d
 refine sEnter (args:=[.agg #[.int .u8 p0.Kind,.bool p0.Purl,iv p0.A,iv p0.B]]) 6 Tryd.func54 d d (by simp) S (fun a S=>?_)
 refine sSeq (fun K1 a2=>sRegion (sBox (v:=.agg #[.int .u8 p0.Kind,.bool p0.Purl,iv p0.A,iv p0.B]) S (wN d) d d [.int .u8 p0.Kind,.bool p0.Purl,iv p0.A,iv p0.B] d d (lb d) fun a b2 w S=>sN S fun a S=>?_))
 refine lT (a2 _ _ (sSeq (fun K3 a6=>sRegion (sLoadN (p:=b2) (off:=0) (T:=56) (vs:=[.int .u8 p0.Kind,.bool p0.Purl,iv p0.A,iv p0.B]) 0 [.int .u8 p0.Kind,.bool p0.Purl,iv p0.A,iv p0.B] S (wN d) d d d d d d d (lb d) fun a S=>?_))))
 obtain ⟨r4,a7,h⟩:=bS h
 have S1:=S.mem
 refine sCq [.agg #[.int .u8 p0.Kind,.bool p0.Purl,iv p0.A,iv p0.B]] (iv r4) S callee55 (S1.quiet [0] d) (fun E1 w1 S1=>c_stitch_Check E1 w1 p0 (.agg #[.int .u8 p0.Kind,.bool p0.Purl,iv p0.A,iv p0.B]) r4 a7 S1) fun a w S=>?_
 refine sBin _ S (wN d) d d d (bNe _ _ _ _ .i64 r4 0) d (lb d) fun a S=>sN S fun a S=>?_
 refine lT (a6 _ _ ?_)
 obtain rfl:=tS h
 exact wp_ret (sRet (.bool (r4 != 0)) S (rsl1 d (rvT (t:=2) (v:=.bool (r4 != 0)) S d)) ⟨(),d,S.mem.sel [] [] (by decide) d d⟩)
noncomputable def slices_IndexFunc___api_Stitch_api_Stitch__s0_l1 (p0:(List api_Stitch)):Int→Option (Int ⊕ (Int ⊕ Unit)):=fun s0=>match s0 with
 | s7=>
  if decide (s7 < (p0.length:Int)) then
   (idxO p0 s7).bind fun a2=>
   (F_stitch_All_1 a2).bind fun a6=>
   if a6 then
    some (.inr (.inl s7))
   else
    some (.inl (w64 (s7 + 1)))
  else
   some (.inr (.inr ()))
noncomputable def F_slices_IndexFunc___api_Stitch_api_Stitch__s0 (p0:(List api_Stitch)):Option Int:=
 Option.bind (α:=Unit ⊕ Int) (
  (whileO (slices_IndexFunc___api_Stitch_api_Stitch__s0_l1 p0) 0).bind fun z0=>match z0 with
   | .inl z=>
    some (.inr z)
   | .inr _=>
    some (.inl ())) fun z0=>match z0 with
  | .inl _=>
   some (-1)
  | .inr z=>
   some z
theorem c_slices_IndexFunc___api_Stitch_api_Stitch__s0 (E:Nat→Prop) (w0:World) (p0:(List api_Stitch)) (v0:Value) (r:Int) (h:F_slices_IndexFunc___api_Stitch_api_Stitch__s0 p0=some r) (S:St0 E [] w0 w0 [] [fRep (rL r_api_Stitch) (v0) p0]) :
 Calls Tryd.prog 68 #[v0,.func (.func 54) #[] #[]] w0 (Ret (X:=Unit) E [] w0 (fun _=>.int .i64 r) (fun _=>[]) (fun _=>[])):=by
 unfold F_slices_IndexFunc___api_Stitch_api_Stitch__s0 at h
 obtain ⟨a8,aa,_,rfl,_⟩:=S.know (i:=0) (e:=fRep (rL r_api_Stitch) (v0) p0) d
 refine sEnter (args:=[.slice a8 p0.length aa,.func (.func 54) #[] #[]]) 19 Tryd.func68 d d (by simp) S (fun a S=>?_)
 refine sSeq (fun K3 ar=>sRegion (sN S fun a S=>?_))
 refine lT (ar _ _ ?_)
 obtain ⟨t4,h,g5⟩:=bS h
 refine sCut (fun a w=>.inl ()=t4∧St [] E [] w0 19 a w [] [] []) ?_ (fun a w hI=>?_)
 rotate_left
 ·obtain ⟨rfl,S⟩:=hI
  have h:=g5
  try dsimp only at h
  refine sSeq (fun av ab=>sRegion (sN S fun a S=>?_))
  refine lT (ab _ _ ?_)
  obtain rfl:=tS h
  exact wp_ret (sRet (iv (-1)) S (rsl1 d (rvT (t:=4) (v:=iv (-1)) S d)) ⟨(),d,S.mem.sel [] [] (by decide) d d⟩)
 refine sSeq (fun K6 au=>sRegion (sM S fun a S=>?_))
 refine sLen S (wN d) d Tryd.underlying52 d d (lb d) fun a S=>sM S fun a S=>?_
 refine lT (au _ _ (wp_block ?_))
 obtain ⟨aw,hl,g9⟩:=bS h
 refine sLoop hl (fun s0 a w=>match s0 with | s7=>St [] E [] w0 19 a w [(0,.slice a8 p0.length aa),(1,.func (.func 54) #[] #[]),(7,iv (p0.length:Int)),(8,iv s7)] [] [fRep (rL r_api_Stitch) (.slice a8 p0.length aa) p0]) (S.fix [] [0] (by decide) d d d) ?_
 clear hl h
 intro s7 a w c0 hI h am
 unfold slices_IndexFunc___api_Stitch_api_Stitch__s0_l1 at h
 dsimp only at h hI
 have S:=hI
 refine sSeq (fun ax ac=>sRegion (sBin _ S (wN d) d d d (bLt _ _ _ _ .i64 s7 (p0.length:Int)) d (lb d) fun a S=>lT (ac _ _ (sSeq (fun ay ae=>?_)))))
 rcases iS h with ⟨a6,h⟩ | ⟨a6,h⟩
 rotate_left
 ·refine sCondF S d a6 ?_
  obtain rfl:=tS h
  obtain rfl:=am _ d
  have h:=g9
  try dsimp only at h
  exact wp_exit (xThen (xThen (xHit (leafT (⟨Option.some.inj h,S.fix [] [] (by decide) d d d⟩)))))
 refine sCondT S d a6 (wp_skip (leafT (ae _ _ ?_)))
 refine sSeq (fun az af=>wp_block ?_)
 refine sSeq (fun aA ag=>sRegion (sM S fun a S=>?_))
 refine sN S fun a S=>?_
 refine lT (ag _ _ (sSeq (fun aC ah=>sRegion (sM S fun a S=>?_))))
 refine sM S fun a S=>?_
 refine sM S fun a S=>?_
 obtain ⟨a2,ai,h⟩:=bS h
 obtain ⟨ao,aj,S⟩:=pIdx (P:=Tryd.prog) (r:=r_api_Stitch) (v:=.slice a8 p0.length aa) (xs:=p0) (j:=s7) 52 56 0 S Tryd.underlying52 d d ai
 refine sIdxV S (wN d) d d d aj d (lb d) fun a S=>?_
 obtain ⟨ap,S⟩:=pLoad (r:=r_api_Stitch) (q:=ao) (x:=a2) 0 S d
 obtain rfl:ap=.agg #[.int .u8 a2.Kind,.bool a2.Purl,iv a2.A,iv a2.B]:=S.mem.know (i:=1) (e:=fRep r_api_Stitch (ap) a2) d
 refine sLoadVN (vq:=ao) 0 [.int .u8 a2.Kind,.bool a2.Purl,iv a2.A,iv a2.B] S (wN d) d d d d d d (lb d) fun a S=>?_
 obtain ⟨aq,ak,h⟩:=bS h
 have S1:=S.mem
 refine sCallVQ (X:=Unit) (g:=54) (vs:=[.agg #[.int .u8 a2.Kind,.bool a2.Purl,iv a2.A,iv a2.B]]) (caps:=[]) (val:=fun _=>.bool aq) S (wN d) d d callee54 d (S1.quiet [1] d) (fun E1 w1 S1=>c_stitch_All_1 E1 w1 a2 (.agg #[.int .u8 a2.Kind,.bool a2.Purl,iv a2.A,iv a2.B]) aq ak S1) d (lb d) fun _ a w S=>?_
 refine lT (ah _ _ ?_)
 rcases iS h with ⟨a7,h⟩ | ⟨a7,h⟩
 rotate_left
 ·refine sCondF S d a7 (wp_skip (leafB (leafT (af _ _ ?_))))
  refine sRegion (sBin _ S (wN d) d d d (bAdd _ _ _ _ s7 1) d (lb d) fun a S=>sM S fun a S=>?_)
  exact lT (⟨w64 (s7 + 1),(Option.some.inj h).symm,(S.fix [] [3] (by decide) d d d)⟩)
 refine sCondT S d a7 (sSeq (fun aG al=>sRegion (sM S fun a S=>?_)))
 refine sN S fun a S=>?_
 refine lT (al _ _ ?_)
 obtain rfl:=tS h
 obtain rfl:=am _ d
 have h:=g9
 try dsimp only at h
 obtain rfl:=tS h
 have h:=g5
 try dsimp only at h
 obtain rfl:=tS h
 exact wp_ret (rBlock (rThen (rThen (rBlock (rThen (sRet (iv s7) S (rsl1 d (rvT (t:=4) (v:=iv s7) S d)) ⟨(),d,S.mem.sel [] [] (by decide) d d⟩))))))
noncomputable def F_slices_ContainsFunc___api_Stitch_api_Stitch__s0 (p0:(List api_Stitch)):Option Bool:=
 (F_slices_IndexFunc___api_Stitch_api_Stitch__s0 p0).bind fun r5=>
 some (decide (0 ≤ r5))
theorem c_slices_ContainsFunc___api_Stitch_api_Stitch__s0 (E:Nat→Prop) (w0:World) (p0:(List api_Stitch)) (v0:Value) (r:Bool) (h:F_slices_ContainsFunc___api_Stitch_api_Stitch__s0 p0=some r) (S:St0 E [] w0 w0 [] [fRep (rL r_api_Stitch) (v0) p0]) :
 Calls Tryd.prog 53 #[v0,.func (.func 54) #[] #[]] w0 (Ret (X:=Unit) E [] w0 (fun _=>.bool r) (fun _=>[]) (fun _=>[])):=by
 unfold F_slices_ContainsFunc___api_Stitch_api_Stitch__s0 at h
 obtain ⟨a2,a6,_,rfl,_⟩:=S.know (i:=0) (e:=fRep (rL r_api_Stitch) (v0) p0) d
 refine sEnter (args:=[.slice a2 p0.length a6,.func (.func 54) #[] #[]]) 9 Tryd.func53 d d (by simp) S (fun a S=>?_)
 refine sSeq (fun K3 a7=>sRegion (sN S fun a S=>?_))
 refine lT (a7 _ _ (sSeq (fun K4 a8=>sRegion (sM S fun a S=>?_))))
 refine sM S fun a S=>?_
 obtain ⟨r5,aa,h⟩:=bS h
 have S1:=S.mem
 refine sCq [.slice a2 p0.length a6,.func (.func 54) #[] #[]] (iv r5) S callee68 (S1.quiet [0] d) (fun E1 w1 S1=>c_slices_IndexFunc___api_Stitch_api_Stitch__s0 E1 w1 p0 (.slice a2 p0.length a6) r5 aa S1) fun a w S=>?_
 refine sBin _ S (wN d) d d d (bGe _ _ _ _ .i64 r5 0) d (lb d) fun a S=>sN S fun a S=>?_
 refine lT (a8 _ _ ?_)
 obtain rfl:=tS h
 exact wp_ret (sRet (.bool (decide (0 ≤ r5))) S (rsl1 d (rvT (t:=4) (v:=.bool (decide (0 ≤ r5))) S d)) ⟨(),d,S.mem.sel [] [] (by decide) d d⟩)
noncomputable def F_stitch_All (p0:(List api_Stitch)):Option Int:=
 if decide (200 < (p0.length:Int)) then
  some 4
 else
  (F_slices_ContainsFunc___api_Stitch_api_Stitch__s0 p0).bind fun a6=>
  if a6 then
   some 8
  else
   (F_stitch_sum p0).bind fun a2=>
   if decide (200 < (if a2.1 < a2.2 then a2.2 else a2.1)) then
    some 4
   else
    some 0
theorem c_stitch_All (E:Nat→Prop) (w0:World) (p0:(List api_Stitch)) (v0:Value) (r:Int) (h:F_stitch_All p0=some r) (S:St0 E [] w0 w0 [] [fRep (rL r_api_Stitch) (v0) p0]) :
 Calls Tryd.prog 40 #[v0] w0 (Ret (X:=Unit) E [] w0 (fun _=>.int .i64 r) (fun _=>[]) (fun _=>[])):=by
 unfold F_stitch_All at h
 obtain ⟨a8,aa,_,rfl,_⟩:=S.know (i:=0) (e:=fRep (rL r_api_Stitch) (v0) p0) d
 refine sEnter (args:=[.slice a8 p0.length aa]) 19 Tryd.func40 d d (by simp) S (fun a S=>?_)
 refine sSeq (fun K3 am=>sRegion (sN S fun a S=>?_))
 refine lT (am _ _ (sSeq (fun K4 ao=>sSeq (fun K5 ap=>sRegion (sM S fun a S=>?_)))))
 refine sLen S (wN d) d Tryd.underlying52 d d (lb d) fun a S=>sBin _ S (wN d) d d d (bGt _ _ _ _ .i64 (p0.length:Int) 200) d (lb d) fun a S=>lT (ap _ _ ?_)
 rcases iS h with ⟨ab,h⟩ | ⟨ab,h⟩
 ·refine sCondT S d ab (sSeq (fun K7 aq=>sRegion (sN S fun a S=>?_)))
  refine lT (aq _ _ ?_)
  obtain rfl:=tS h
  exact wp_ret (rThen (sRet (iv 4) S (rsl1 d (rvT (t:=2) (v:=iv 4) S d)) ⟨(),d,S.mem.sel [] [] (by decide) d d⟩))
 refine sCondF S d ab (wp_skip (leafT (ao _ _ ?_)))
 refine sSeq (fun K8 ar=>sSeq (fun K9 au=>sRegion (sM S fun a S=>?_)))
 obtain ⟨al,ac,h⟩:=bS h
 have S1:=S.mem
 refine sCq [.slice a8 p0.length aa,.func (.func 54) #[] #[]] (.bool al) S callee53 (S1.quiet [0] d) (fun E1 w1 S1=>c_slices_ContainsFunc___api_Stitch_api_Stitch__s0 E1 w1 p0 (.slice a8 p0.length aa) al ac S1) fun a w S=>?_
 refine lT (au _ _ ?_)
 rcases iS h with ⟨a6,h⟩ | ⟨a6,h⟩
 ·refine sCondT S d a6 (sSeq (fun av ae=>sRegion (sN S fun a S=>?_)))
  refine lT (ae _ _ ?_)
  obtain rfl:=tS h
  exact wp_ret (rThen (sRet (iv 8) S (rsl1 d (rvT (t:=2) (v:=iv 8) S d)) ⟨(),d,S.mem.sel [] [] (by decide) d d⟩))
 refine sCondF S d a6 (wp_skip (leafT (ar _ _ ?_)))
 refine sSeq (fun aw af=>sSeq (fun ax ag=>sRegion (sM S fun a S=>?_)))
 obtain ⟨a2,ah,h⟩:=bS h
 have S1:=S.mem
 refine sCq [.slice a8 p0.length aa] (.tuple #[iv a2.1,iv a2.2]) S callee46 (S1.quiet [0] d) (fun E1 w1 S1=>c_stitch_sum E1 w1 p0 (.slice a8 p0.length aa) a2 ah S1) fun a w S=>?_
 refine sM S fun a S=>?_
 refine sExtract (vs:=[iv a2.1,iv a2.2]) (iv a2.1) S (wN d) d d d d (lb d) fun a S=>sExtract (vs:=[iv a2.1,iv a2.2]) (iv a2.2) S (wN d) d d d d (lb d) fun a S=>sN S fun a S=>?_
 refine sN S fun a S=>?_
 refine lT (ag _ _ (sSeq (fun ay ai=>sRegion (sM S fun a S=>?_))))
 refine sM S fun a S=>?_
 refine sMax2 (p:=a2.1) (q:=a2.2) S (wN d) d d d d (lb d) fun a S=>sBin _ S (wN d) d d d (bGt _ _ _ _ .i64 (if a2.1 < a2.2 then a2.2 else a2.1) 200) d (lb d) fun a S=>lT (ai _ _ ?_)
 rcases iS h with ⟨a7,h⟩ | ⟨a7,h⟩
 ·refine sCondT S d a7 (sSeq (fun az aj=>sRegion (sN S fun a S=>?_)))
  refine lT (aj _ _ ?_)
  obtain rfl:=tS h
  exact wp_ret (rThen (sRet (iv 4) S (rsl1 d (rvT (t:=2) (v:=iv 4) S d)) ⟨(),d,S.mem.sel [] [] (by decide) d d⟩))
 refine sCondF S d a7 (wp_skip (leafT (af _ _ ?_)))
 refine sSeq (fun aA ak=>sRegion (sN S fun a S=>?_))
 refine lT (ak _ _ ?_)
 obtain rfl:=tS h
 exact wp_ret (sRet (iv 0) S (rsl1 d (rvT (t:=2) (v:=iv 0) S d)) ⟨(),d,S.mem.sel [] [] (by decide) d d⟩)
noncomputable def F_slices_Backward___api_Stitch_api_Stitch_ (p0:(List api_Stitch)):Option (List api_Stitch):=
 some p0
def c_slices_Backward___api_Stitch_api_Stitch__val (r:(List api_Stitch)) (x:Value):Value:=.func (.func 67) #[] #[x]
def c_slices_Backward___api_Stitch_api_Stitch__D (r:(List api_Stitch)) (x:Value):List Fact:=[fPtr (rL r_api_Stitch) x r]
theorem c_slices_Backward___api_Stitch_api_Stitch_ (E:Nat→Prop) (w0:World) (p0:(List api_Stitch)) (v0:Value) (r:(List api_Stitch)) (h:F_slices_Backward___api_Stitch_api_Stitch_ p0=some r) (S:St0 E [] w0 w0 [] [fRep (rL r_api_Stitch) (v0) p0]) :
 Calls Tryd.prog 51 #[v0] w0 (Ret (X:=Value) E [] w0 (c_slices_Backward___api_Stitch_api_Stitch__val r) (fun _=>[]) (c_slices_Backward___api_Stitch_api_Stitch__D r)):=by
 unfold F_slices_Backward___api_Stitch_api_Stitch_ at h
 obtain ⟨a2,a6,_,rfl,_⟩:=S.know (i:=0) (e:=fRep (rL r_api_Stitch) (v0) p0) d
 refine sEnter (args:=[.slice a2 p0.length a6]) 4 Tryd.func51 d d (by simp) S (fun a S=>?_)
 refine sSeq (fun K3 a7=>sRegion (sBox (v:=.slice a2 p0.length a6) S (wN d) d d [.slice a2 p0.length a6] d d (lb d) fun a b4 w S=>sN S fun a S=>?_))
 refine lT (a7 _ _ (sSeq (fun K5 a8=>sRegion (sFunc (g:=67) (vs:=[.pointer (some ⟨b4,0,none⟩)]) S (wN d) d d d (lb d) fun a S=>?_))))
 refine sN S fun a S=>?_
 refine lT (a8 _ _ ?_)
 have S:=S.shutB (r:=(rL r_api_Stitch)) (T:=52) (b:=b4) (cs:=[.slice a2 p0.length a6]) 0 (.slice a2 p0.length a6) p0 d d (S.mem.know (i:=0) (e:=fRep (rL r_api_Stitch) (.slice a2 p0.length a6) p0) d)
 obtain rfl:=tS h
 exact wp_ret (sRet (.func (.func 67) #[] #[.pointer (some ⟨b4,0,none⟩)]) S (rsl1 d (rvT (t:=2) (v:=.func (.func 67) #[] #[.pointer (some ⟨b4,0,none⟩)]) S d)) ⟨(.pointer (some ⟨b4,0,none⟩)),d,S.mem.sel [] [0] (by decide) d d⟩)
noncomputable def slices_Backward___api_Stitch_api_Stitch__1_l1 {σ τ:Type} (p0:(List api_Stitch)) (B:σ→(Int × api_Stitch)→Option (σ ⊕ τ)):(Int × σ)→Option ((Int × σ) ⊕ ((σ ⊕ τ) ⊕ (σ))):=fun s0=>match s0 with
 | (s5,gz6)=>
  if decide (0 ≤ s5) then
   (idxO p0 s5).bind fun a2=>
   (B gz6 (s5,a2)).bind fun a6=>
   match a6 with
   | .inl gz27=>
    some (.inl (w64 (s5 - 1),gz27))
   | .inr tz28=>
    some (.inr (.inl (.inr tz28)))
  else
   some (.inr (.inr gz6))
noncomputable def I_slices_Backward___api_Stitch_api_Stitch__1 (p0:(List api_Stitch)) (σ τ:Type) (B:σ→(Int × api_Stitch)→Option (σ ⊕ τ)) (gz0:σ):Option (σ ⊕ τ):=
 (whileO (slices_Backward___api_Stitch_api_Stitch__1_l1 p0 B) (w64 ((p0.length:Int) - 1),gz0)).bind fun z0=>match z0 with
  | .inl z=>
   some z
  | .inr gz10=>
   some (.inl gz10)
theorem it_slices_Backward___api_Stitch_api_Stitch__1 (p0:(List api_Stitch)) (v0:Value):SeqF Tryd.prog 67 #[v0] (fA2 (rI .i64) r_api_Stitch) (I_slices_Backward___api_Stitch_api_Stitch__1 p0) [fPtr (rL r_api_Stitch) (v0) p0]:=by
 refine seqF_of (lb:=[v0]) (fun σ τ B gz0 r h l J Jx E w0 hC S hJ=>?_)
 unfold I_slices_Backward___api_Stitch_api_Stitch__1 at h
 refine sEnterI (args:=[.func (.yield l) #[] #[],v0]) 19 Tryd.func67 d d (by simp) S (fun a S=>?_)
 refine sSeq (fun K1 al=>sRegion ?_)
 obtain ⟨u2,S⟩:=pLoad (r:=(rL r_api_Stitch)) (q:=v0) (x:=p0) 0 S d
 obtain ⟨am,ao,_,rfl,_⟩:=S.mem.know (i:=1) (e:=fRep (rL r_api_Stitch) (u2) p0) d
 refine sLoadV1 (vq:=v0) 0 (.slice am p0.length ao) S (wN d) d d d d d (lb d) fun a S=>sLen S (wN d) d Tryd.underlying52 d d (lb d) fun a S=>sBin _ S (wN d) d d d (bSub _ _ _ _ (p0.length:Int) 1) d (lb d) fun a S=>sN S fun a S=>?_
 refine lT (al _ _ (wp_block ?_))
 obtain ⟨t9,hl,g8⟩:=bS h
 refine sLoop hl (fun s0 a w=>match s0 with | (s5,gz6)=>∃ E w0,J gz6 E w0∧St [] E [] w0 19 a w [(0,.func (.yield l) #[] #[]),(1,v0),(3,iv s5)] [] [fPtr (rL r_api_Stitch) (v0) p0]) ⟨_,_,hJ,S.fix [] [2] (by decide) d d d⟩ ?_
 clear hl h
 intro s0 a w c0 hI h ai
 obtain ⟨s5,gz6⟩:=s0
 unfold slices_Backward___api_Stitch_api_Stitch__1_l1 at h
 dsimp only at h hI
 obtain ⟨E,w0,hJ,S⟩:=hI
 refine sSeq (fun aq ab=>sSeq (fun ar ac=>sRegion (sM S fun a S=>?_)))
 refine sBin _ S (wN d) d d d (bGe _ _ _ _ .i64 s5 0) d (lb d) fun a S=>lT (ac _ _ ?_)
 rcases iS h with ⟨a6,h⟩ | ⟨a6,h⟩
 rotate_left
 ·refine sCondF S d a6 ?_
  obtain rfl:=tS h
  obtain rfl:=ai _ d
  have h:=g8
  try dsimp only at h
  exact wp_exit (xThen (xThen (xHit (sEnd (.tuple #[]) S (res0 d) (sGoI S hC hJ (Option.some.inj h) _)))))
 refine sCondT S d a6 (wp_skip (leafT (ab _ _ ?_)))
 refine sSeq (fun au ae=>wp_block ?_)
 refine sSeq (fun av a7=>sRegionY ?_)
 refine sSplitR (by repeat (first | exact roundU_out | exact it_out | exact lo_false | refine lo_then ?_ | refine lo_block ?_)) 6 d (fun aw af=>?_)
 refine sM S fun a S=>?_
 refine sM S fun a S=>?_
 obtain ⟨ap,S⟩:=pLoad (r:=(rL r_api_Stitch)) (q:=v0) (x:=p0) 0 S d
 obtain ⟨a8,aa,_,rfl,_⟩:=S.mem.know (i:=1) (e:=fRep (rL r_api_Stitch) (ap) p0) d
 refine sLoadV1 (vq:=v0) 0 (.slice a8 p0.length aa) S (wN d) d d d d d (lb d) fun a S=>sM S fun a S=>?_
 obtain ⟨a2,ag,h⟩:=bS h
 obtain ⟨aj,ah,S⟩:=pIdx (P:=Tryd.prog) (r:=r_api_Stitch) (v:=.slice a8 p0.length aa) (xs:=p0) (j:=s5) 52 56 1 S Tryd.underlying52 d d ag
 refine sIdxV S (wN d) d d d ah d (lb d) fun a S=>?_
 obtain ⟨ak,S⟩:=pLoad (r:=r_api_Stitch) (q:=aj) (x:=a2) 0 S d
 obtain rfl:ak=.agg #[.int .u8 a2.Kind,.bool a2.Purl,iv a2.A,iv a2.B]:=S.mem.know (i:=1) (e:=fRep r_api_Stitch (ak) a2) d
 refine sLoadVN (vq:=aj) 0 [.int .u8 a2.Kind,.bool a2.Purl,iv a2.A,iv a2.B] S (wN d) d d d d d d (lb d) fun a S=>leafL ⟨d,af _ _ ?_⟩
 obtain ⟨ax,hy26,h⟩:=bS h
 refine sYieldI (s5,a2) [iv s5,.agg #[.int .u8 a2.Kind,.bool a2.Purl,iv a2.A,iv a2.B]] S hC hJ hy26 (fA2_mk (d) (S.mem.know (i:=1) (e:=fRep r_api_Stitch (.agg #[.int .u8 a2.Kind,.bool a2.Purl,iv a2.A,iv a2.B]) a2) d)) (wN d) d d d d (by decide) (fun gz27 E a w hb hJ S=>?_) (fun tz28 a w hb hJ S=>?_)
 ·obtain rfl:=hb
  dsimp only at h
  refine list_inR (by repeat (first | exact roundU_out | exact it_out | exact lo_false | refine lo_then ?_ | refine lo_block ?_)) _ d _ _ ?_
  refine sNot (b:=true) S (wN d) d d d (lb d) fun a S=>lT (a7 _ _ (sCondF S d d (wp_skip (leafB (leafT (ae _ _ ?_))))))
  refine sRegion (sM S fun a S=>?_)
  refine sBin _ S (wN d) d d d (bSub _ _ _ _ s5 1) d (lb d) fun a S=>sN S fun a S=>?_
  exact lT (⟨(w64 (s5 - 1),gz27),(Option.some.inj h).symm,⟨_,_,hJ,S.fix [] [5] (by decide) d d d⟩⟩)
 ·obtain rfl:=hb
  dsimp only at h
  refine list_inR (by repeat (first | exact roundU_out | exact it_out | exact lo_false | refine lo_then ?_ | refine lo_block ?_)) _ d _ _ ?_
  refine sNot (b:=false) S (wN d) d d d (lb d) fun a S=>lT (a7 _ _ (sCondT S d d ?_))
  obtain rfl:=tS h
  obtain rfl:=ai _ d
  have h:=g8
  try dsimp only at h
  exact wp_ret (rBlock (rThen (rThen (rBlock (sRet (.tuple #[]) S (res0 d) (sStopI S hC hJ (Option.some.inj h) _))))))
end Go.Proofs.YtmedbnjhgkcndaaDoor
