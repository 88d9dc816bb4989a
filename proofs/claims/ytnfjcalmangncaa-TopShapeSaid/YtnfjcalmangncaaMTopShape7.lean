/- TopShape: walks, tables, laws. -/
import Derived.Test.YtnfjcalmangncaaProg
import Derived.Test.YtnfjcalmangncaaRows
import Derived.Test.YtnfjcalmangncaaMTopShape6
set_option linter.unusedVariables false
set_option linter.unusedSimpArgs false
set_option maxHeartbeats 4000000
set_option maxRecDepth 100000
namespace Go.Proofs.Ytnfjcalmangncaa
open Go.RowKit
def anc_raddletop_TopShape_0:List (List Nat):=[[],[0],[0,1],[0,1,2],[],[4],[4,5],[4,5,6],[0,1,2,3,4,5,6,7],[],[9],[0,1,2,3,4,5,6,7,8,9,10],[0,1,2,3,4,5,6,7,8,9,10,11],[0,1,2,3,4,5,6,7,8,9,10,11,12],[0,1,2,3,4,5,6,7,8,9,10,11,12,13],[0,1,2,3,4,5,6,7,8,9,10,11,12],[0,1,2,3,4,5,6,7,8,9,10,11,12,13,14,15],[0,1,2,3,4,5,6,7,8,9,10,11,12,13,14,15,16],[0,1,2,3,4,5,6,7,8,9,10,11,12],[0,1,2,3,4,5,6,7,8,9,10,11,12,18],[0,1,2,3,4,5,6,7,8,9,10,11,12],[0,1,2,3,4,5,6,7,8,9,10,11,12,18,19,20],[0,1,2,3,4,5,6,7,8,9,10,11,12,18,19,20,21],[0,1,2,3,4,5,6,7,8,9,10,11,12,13,14,15,16,17,18,19,20,21,22],[0,1,2,3,4,5,6,7,8,9,10,11,12],[0,1,2,3,4,5,6,7,8,9,10,11,12,24],[0,1,2,3,4,5,6,7,8,9,10,11,12,13,14,15,16,17,18,19,20,21,22,23,24,25],[0,1,2,3,4,5,6,7,8,9,10,11,12,13,14,15,16,17,18,19,20,21,22,23,24,25,26],[0,1,2,3,4,5,6,7,8,9,10,11,12,13,14,15,16,17,18,19,20,21,22,23,24,25,26,27],[0,1,2,3,4,5,6,7,8,9,10,11,12,13,14,15,16,17,18,19,20,21,22,23,24,25,26,27,28],[0,1,2,3,4,5,6,7,8,9,10,11,12,13,14,15,16,17,18,19,20,21,22,23,24,25,26,27,28,29],[0,1,2,3,4,5,6,7,8,9,10,11,12,13,14,15,16,17,18,19,20,21,22,23,24,25,26,27,28],[0,1,2,3,4,5,6,7,8,9,10,11,12,13,14,15,16,17,18,19,20,21,22,23,24,25,26,27,28,31],[0,1,2,3,4,5,6,7,8,9,10,11,12,13,14,15,16,17,18,19,20,21,22,23,24,25,26,27,28,31,32],[0,1,2,3,4,5,6,7,8,9,10,11,12,13,14,15,16,17,18,19,20,21,22,23,24,25,26,27,28,31,32,33],[0,1,2,3,4,5,6,7,8,9,10,11,12,13,14,15,16,17,18,19,20,21,22,23,24,25,26,27,28],[0,1,2,3,4,5,6,7,8,9,10,11,12,13,14,15,16,17,18,19,20,21,22,23,24,25,26,27,28,35],[0,1,2,3,4,5,6,7,8,9,10,11,12,13,14,15,16,17,18,19,20,21,22,23,24,25,26,27,28,35,36],[0,1,2,3,4,5,6,7,8,9,10,11,12,13,14,15,16,17,18,19,20,21,22,23,24,25,26,27,28,35,36,37],[0,1,2,3,4,5,6,7,8,9,10,11,12,13,14,15,16,17,18,19,20,21,22,23,24,25,26,27,28,29,30,31,32,33,34,35,36,37,38],[0,1,2,3,4,5,6,7,8,9,10,11,12,13,14,15,16,17,18,19,20,21,22,23,24,25,26,27,28,29,30,31,32,33,34,35,36,37,38,39],[0,1,2,3,4,5,6,7,8,9,10,11,12,13,14,15,16,17,18,19,20,21,22,23,24,25,26,27,28,29,30,31,32,33,34,35,36,37,38,39,40],[0,1,2,3,4,5,6,7,8,9,10,11,12,13,14,15,16,17,18,19,20,21,22,23,24,25,26,27,28,29,30,31,32,33,34,35,36,37,38,39,40,41],[0,1,2,3,4,5,6,7,8,9,10,11,12,13,14,15,16,17,18,19,20,21,22,23,24,25,26,27,28,29,30,31,32,33,34,35,36,37,38,39,40,41,42],[0,1,2,3,4,5,6,7,8,9,10,11,12,13,14,15,16,17,18,19,20,21,22,23,24,25,26,27,28,29,30,31,32,33,34,35,36,37,38,39,40,41,42,43],[0,1,2,3,4,5,6,7,8,9,10,11,12,13,14,15,16,17,18,19,20,21,22,23,24,25,26,27,28,29,30,31,32,33,34,35,36,37,38,39,40,41,42],[0,1,2,3,4,5,6,7,8,9,10,11,12,13,14,15,16,17,18,19,20,21,22,23,24,25,26,27,28,29,30,31,32,33,34,35,36,37,38,39,40,41,42,45],[0,1,2,3,4,5,6,7,8,9,10,11,12,13,14,15,16,17,18,19,20,21,22,23,24,25,26,27,28,29,30,31,32,33,34,35,36,37,38,39,40,41,42,45,46],[0,1,2,3,4,5,6,7,8,9,10,11,12,13,14,15,16,17,18,19,20,21,22,23,24,25,26,27,28,29,30,31,32,33,34,35,36,37,38,39,40,41,42,45,46,47],[0,1,2,3,4,5,6,7,8,9,10,11,12,13,14,15,16,17,18,19,20,21,22,23,24,25,26,27,28,29,30,31,32,33,34,35,36,37,38,39,40,41,42],[0,1,2,3,4,5,6,7,8,9,10,11,12,13,14,15,16,17,18,19,20,21,22,23,24,25,26,27,28,29,30,31,32,33,34,35,36,37,38,39,40,41,42,49],[0,1,2,3,4,5,6,7,8,9,10,11,12,13,14,15,16,17,18,19,20,21,22,23,24,25,26,27,28,29,30,31,32,33,34,35,36,37,38,39,40,41,42,49,50],[0,1,2,3,4,5,6,7,8,9,10,11,12,13,14,15,16,17,18,19,20,21,22,23,24,25,26,27,28,29,30,31,32,33,34,35,36,37,38,39,40,41,42,49,50,51],[0,1,2,3,4,5,6,7,8,9,10,11,12,13,14,15,16,17,18,19,20,21,22,23,24,25,26,27,28,29,30,31,32,33,34,35,36,37,38,39,40,41,42,43,44,45,46,47,48,49,50,51,52],[0,1,2,3,4,5,6,7,8,9,10,11,12,13,14,15,16,17,18,19,20,21,22,23,24,25,26,27,28,29,30,31,32,33,34,35,36,37,38,39,40,41,42,43,44,45,46,47,48,49,50,51,52,53],[0,1,2,3,4,5,6,7,8,9,10,11,12,13,14,15,16,17,18,19,20,21,22,23,24,25,26,27,28,29,30,31,32,33,34,35,36,37,38,39,40,41,42,43,44,45,46,47,48,49,50,51,52,53,54]]
noncomputable def F_raddletop_TopShape (p0:api_Gauge) (p1:Int) (p2:Int) (p3:Int) (p4:Int):Option Bool:=
 (F_raddletop_alive39).bind fun r4=>
 Option.bind (α:=Bool) (
  (F_raddleref35_Check p0).bind fun ar=>
  if ar != 0 then
   some true
  else
   if decide ((min3 p1 p2 p3) < 1) then
    some true
   else
    if decide (10000 < (max3 p1 p2 p3)) then
     some true
    else
     if decide (p4 < 0) then
      some true
     else
      if decide (50 < p4) then
       some true
      else
       some (!r4)) fun o7=>
 if o7 then
  some r4
 else
  (F_piece_Measure p0 [(api_Point.mk (w64 (0 - p1)) 0),(api_Point.mk (w64 (0 - p2)) p3)] [(api_Point.mk p1 0),(api_Point.mk p2 p3)]).bind fun a9=>
  if a9.2 != 0 then
   Option.bind (α:=Bool) (
    if r4 then
     if a9.2 == 8 then
      some true
     else
      some (a9.2 == 16)
    else
     some false) fun au=>
   some au
  else
   (F_piece_Make a9.1).bind fun aa=>
   if aa.2 != 0 then
    Option.bind (α:=Bool) (
     if r4 then
      some (aa.2 == 16)
     else
      some false) fun av=>
    some av
   else
    (F_gauge_Stitches p0 p1).bind fun ap=>
    (F_gauge_Stitches p0 p2).bind fun aq=>
    (F_gauge_Rows p0 p3).bind fun ab=>
    Option.bind (α:=Bool) (
     if ap.2 != 0 then
      some true
     else
      if aq.2 != 0 then
       some true
      else
       if ab.2 != 0 then
        some true
       else
        (F_raddleref37_Shape a9.1).bind fun aw=>
        if aw != 0 then
         some true
        else
         (F_raddleref37_Check aa.1).bind fun ax=>
         if ax != 0 then
          some true
         else
          if (a9.1.Left.length:Int) != 2 then
           some true
          else
           if (a9.1.Right.length:Int) != 2 then
            some true
           else
            some ((aa.1.Left.length:Int) != (w64 (ab.1 + 1)))) fun ay=>
    if ay then
     some false
    else
     Option.bind (α:=Bool) (
      (idxO aa.1.Right 0).bind fun az=>
      (idxO aa.1.Left 0).bind fun aA=>
      if (w64 (az - aA)) != (w64 (2 * ap.1)) then
       some true
      else
       (idxO aa.1.Right ab.1).bind fun ac=>
       (idxO aa.1.Left ab.1).bind fun ae=>
       if (w64 (ac - ae)) != (w64 (2 * aq.1)) then
        some true
       else
        (idxO a9.1.Left 0).bind fun af=>
        (idxO a9.1.Left 1).bind fun ag=>
        (F_raddletop_edge39 aa.1.Left af ag).bind fun ah=>
        if !ah then
         some true
        else
         (idxO a9.1.Right 0).bind fun ai=>
         (idxO a9.1.Right 1).bind fun aj=>
         (F_raddletop_edge39 aa.1.Right ai aj).bind fun ak=>
         some (!ak)) fun aC=>
     if aC then
      some false
     else
      Option.bind (α:=Bool) (
       if r4 then
        (F_raddletop_knit39 aa.1 p4).bind fun al=>
        if al then
         (F_raddletop_sewn39 p0 (w64 (ab.1 + 1))).bind fun am=>
         some am
        else
         some false
       else
        some false) fun ao=>
      some ao
theorem c_raddletop_TopShape (E:Nat→Prop) (w0:World) (p0:api_Gauge) (v0:Value) (p1:Int) (p2:Int) (p3:Int) (p4:Int) (r:Bool) (h:F_raddletop_TopShape p0 p1 p2 p3 p4=some r) (S:St0 E [] w0 w0 [] [fRep r_api_Gauge (v0) p0]) :
 Calls Try.prog 3 #[v0,iv p1,iv p2,iv p3,iv p4] w0 (Ret (X:=Unit) E [] w0 (fun _=>.bool r) (fun _=>[]) (fun _=>[])):=by
 unfold F_raddletop_TopShape at h
 obtain rfl:v0=.agg #[iv p0.Stitches,iv p0.Width,iv p0.Rows,iv p0.Height]:=S.know (i:=0) (e:=fRep r_api_Gauge (v0) p0) d
 refine sEnter (args:=[.agg #[iv p0.Stitches,iv p0.Width,iv p0.Rows,iv p0.Height],iv p1,iv p2,iv p3,iv p4]) 221 Try.func3 d d (by simp) S (fun a S=>?_)
 refine sSeq (fun K1 dx=>sRegion (sBox (v:=.agg #[iv p0.Stitches,iv p0.Width,iv p0.Rows,iv p0.Height]) S (wN d) d d [iv p0.Stitches,iv p0.Width,iv p0.Rows,iv p0.Height] d d (lb d) fun a b2 w S=>sN S fun a S=>?_))
 refine lT (dx _ _ (sSeq (fun K3 dy=>sRegion ?_)))
 obtain ⟨r4,dz,h⟩:=bS h
 have S1:=S.mem
 refine sCq [] (.bool r4) S callee4 (S1.quiet [] d) (fun E1 w1 S1=>c_raddletop_alive39 E1 w1  r4 dz S1) fun a w S=>?_
 refine sN S fun a S=>?_
 refine lT (dy _ _ (sSeq (fun K6 dA=>?_)))
 obtain ⟨t8,h,g9⟩:=bS h
 refine sCut (fun a w=>∃ o7,o7=t8∧St [] E [] w0 221 a w [(1,iv p1),(2,iv p2),(3,iv p3),(4,iv p4),(5,.pointer (some ⟨b2,0,none⟩)),(11,.bool r4),(51,.bool o7)] [eBox b2 23 [iv p0.Stitches,iv p0.Width,iv p0.Rows,iv p0.Height]] []) ?_ (fun a w hI=>?_)
 ·refine sRegion (sLoadN (p:=b2) (off:=0) (T:=23) (vs:=[iv p0.Stitches,iv p0.Width,iv p0.Rows,iv p0.Height]) 0 [iv p0.Stitches,iv p0.Width,iv p0.Rows,iv p0.Height] S (wN d) d d d d d d d (lb d) fun a S=>?_)
  obtain ⟨cY,cZ,h⟩:=bS h
  have S1:=S.mem
  refine sCq [.agg #[iv p0.Stitches,iv p0.Width,iv p0.Rows,iv p0.Height]] (iv cY) S callee5 (S1.quiet [0] d) (fun E1 w1 S1=>c_raddleref35_Check E1 w1 p0 (.agg #[iv p0.Stitches,iv p0.Width,iv p0.Rows,iv p0.Height]) cY cZ S1) fun a w S=>?_
  refine sBin _ S (wN d) d d d (bNe _ _ _ _ .i64 cY 0) d (lb d) fun a S=>sM S fun a S=>?_
  rcases iS h with ⟨aM,h⟩ | ⟨aM,h⟩
  ·refine sSkN 5 3 false 26 S d d aM d fun a S=>sPickT (.bool true) S (wN d) d d aM d d (lb d) fun a S=>sM S fun a S=>?_
   refine sSkN 5 10 false 33 S d d d d fun a S=>sPickT (.bool true) S (wN d) d d d d d (lb d) fun a S=>sM S fun a S=>?_
   refine sSkN 2 17 false 40 S d d d d fun a S=>sPickT (.bool true) S (wN d) d d d d d (lb d) fun a S=>sM S fun a S=>?_
   refine sSkN 2 21 false 44 S d d d d fun a S=>sPickT (.bool true) S (wN d) d d d d d (lb d) fun a S=>sM S fun a S=>?_
   refine sSkN 2 25 false 48 S d d d d fun a S=>sPickT (.bool true) S (wN d) d d d d d (lb d) fun a S=>?_
   exact lT (⟨true,Option.some.inj h,S.fix [0] [] (by decide) d d d⟩)
  refine sMove (iv p1) S (wG 3 false 26 d d d aM) (.inl d) d d (lb d) fun a S=>sMove (iv p2) S (wG 3 false 26 d d d aM) (.inl d) d d (lb d) fun a S=>sMove (iv p3) S (wG 3 false 26 d d d aM) (.inl d) d d (lb d) fun a S=>sMin3 (p:=p1) (q:=p2) (r:=p3) S (wG 3 false 26 d d d aM) d d d d d (lb d) fun a S=>?_
  refine sBin _ S (wG 3 false 26 d d d aM) d d d (bLt _ _ _ _ .i64 (min3 p1 p2 p3) 1) d (lb d) fun a S=>sPickF (.bool (decide ((min3 p1 p2 p3) < 1))) S (wN d) d d aM d d (lb d) fun a S=>sM S fun a S=>?_
  rcases iS h with ⟨aO,h⟩ | ⟨aO,h⟩
  ·refine sSkN 5 10 false 33 S d d aO d fun a S=>sPickT (.bool true) S (wN d) d d aO d d (lb d) fun a S=>sM S fun a S=>?_
   refine sSkN 2 17 false 40 S d d d d fun a S=>sPickT (.bool true) S (wN d) d d d d d (lb d) fun a S=>sM S fun a S=>?_
   refine sSkN 2 21 false 44 S d d d d fun a S=>sPickT (.bool true) S (wN d) d d d d d (lb d) fun a S=>sM S fun a S=>?_
   refine sSkN 2 25 false 48 S d d d d fun a S=>sPickT (.bool true) S (wN d) d d d d d (lb d) fun a S=>?_
   exact lT (⟨true,Option.some.inj h,S.fix [0] [] (by decide) d d d⟩)
  refine sMove (iv p1) S (wG 10 false 33 d d d aO) (.inl d) d d (lb d) fun a S=>sMove (iv p2) S (wG 10 false 33 d d d aO) (.inl d) d d (lb d) fun a S=>sMove (iv p3) S (wG 10 false 33 d d d aO) (.inl d) d d (lb d) fun a S=>sMax3 (p:=p1) (q:=p2) (r:=p3) S (wG 10 false 33 d d d aO) d d d d d (lb d) fun a S=>?_
  refine sBin _ S (wG 10 false 33 d d d aO) d d d (bGt _ _ _ _ .i64 (max3 p1 p2 p3) 10000) d (lb d) fun a S=>sPickF (.bool (decide (10000 < (max3 p1 p2 p3)))) S (wN d) d d aO d d (lb d) fun a S=>sM S fun a S=>?_
  rcases iS h with ⟨aV,h⟩ | ⟨aV,h⟩
  ·refine sSkN 2 17 false 40 S d d aV d fun a S=>sPickT (.bool true) S (wN d) d d aV d d (lb d) fun a S=>sM S fun a S=>?_
   refine sSkN 2 21 false 44 S d d d d fun a S=>sPickT (.bool true) S (wN d) d d d d d (lb d) fun a S=>sM S fun a S=>?_
   refine sSkN 2 25 false 48 S d d d d fun a S=>sPickT (.bool true) S (wN d) d d d d d (lb d) fun a S=>?_
   exact lT (⟨true,Option.some.inj h,S.fix [0] [] (by decide) d d d⟩)
  refine sMove (iv p4) S (wG 17 false 40 d d d aV) (.inl d) d d (lb d) fun a S=>sBin _ S (wG 17 false 40 d d d aV) d d d (bLt _ _ _ _ .i64 p4 0) d (lb d) fun a S=>sPickF (.bool (decide (p4 < 0))) S (wN d) d d aV d d (lb d) fun a S=>sM S fun a S=>?_
  rcases iS h with ⟨aW,h⟩ | ⟨aW,h⟩
  ·refine sSkN 2 21 false 44 S d d aW d fun a S=>sPickT (.bool true) S (wN d) d d aW d d (lb d) fun a S=>sM S fun a S=>?_
   refine sSkN 2 25 false 48 S d d d d fun a S=>sPickT (.bool true) S (wN d) d d d d d (lb d) fun a S=>?_
   exact lT (⟨true,Option.some.inj h,S.fix [0] [] (by decide) d d d⟩)
  refine sMove (iv p4) S (wG 21 false 44 d d d aW) (.inl d) d d (lb d) fun a S=>sBin _ S (wG 21 false 44 d d d aW) d d d (bGt _ _ _ _ .i64 p4 50) d (lb d) fun a S=>sPickF (.bool (decide (50 < p4))) S (wN d) d d aW d d (lb d) fun a S=>sM S fun a S=>?_
  rcases iS h with ⟨aX,h⟩ | ⟨aX,h⟩
  ·refine sSkN 2 25 false 48 S d d aX d fun a S=>sPickT (.bool true) S (wN d) d d aX d d (lb d) fun a S=>?_
   exact lT (⟨true,Option.some.inj h,S.fix [0] [] (by decide) d d d⟩)
  refine sMove (.bool r4) S (wG 25 false 48 d d d aX) (.inl d) d d (lb d) fun a S=>sNot (b:=r4) S (wG 25 false 48 d d d aX) d d d (lb d) fun a S=>sPickF (.bool (!r4)) S (wN d) d d aX d d (lb d) fun a S=>?_
  exact lT (⟨!r4,Option.some.inj h,S.fix [0] [] (by decide) d d d⟩)
 obtain ⟨o7,rfl,S⟩:=hI
 have h:=g9
 try dsimp only at h
 rcases iS h with ⟨bt,h⟩ | ⟨bt,h⟩
 ·refine sCondT S d bt (sSeq (fun dU d5=>sRegion (sM S fun a S=>?_)))
  refine sN S fun a S=>?_
  refine lT (d5 _ _ ?_)
  obtain rfl:=tS h
  exact wp_ret (rThen (sRet (.bool r4) S (rsl1 d (rvT (t:=10) (v:=.bool r4) S d)) ⟨(),d,S.mem.sel [] [] (by decide) d d⟩))
 refine sCondF S d bt (wp_skip (leafT (dA _ _ ?_)))
 refine sSeq (fun dV d6=>sRegion (sLoadN (p:=b2) (off:=0) (T:=23) (vs:=[iv p0.Stitches,iv p0.Width,iv p0.Rows,iv p0.Height]) 0 [iv p0.Stitches,iv p0.Width,iv p0.Rows,iv p0.Height] S (wN d) d d d d d d d (lb d) fun a S=>sM S fun a S=>?_))
 refine sNeg (b:=p1) S (wN d) d d d (lb d) fun a S=>sBuild [(0,iv (w64 (0 - p1)))] [iv (w64 (0 - p1)),iv 0] S (wN d) d d d d (lb d) fun a S=>sM S fun a S=>?_
 refine sNeg (b:=p2) S (wN d) d d d (lb d) fun a S=>sM S fun a S=>?_
 refine sBuild [(0,iv (w64 (0 - p2))),(1,iv p3)] [iv (w64 (0 - p2)),iv p3] S (wN d) d d d d (lb d) fun a S=>?_
 have S:=S.learn (fRep r_api_Point (.agg #[iv (w64 (0 - p1)),iv 0]) (api_Point.mk (w64 (0 - p1)) 0)) d
 have S:=S.learn (fRep r_api_Point (.agg #[iv (w64 (0 - p2)),iv p3]) (api_Point.mk (w64 (0 - p2)) p3)) d
 refine sLit (r:=r_api_Point) (T:=33) (xs:=[(api_Point.mk (w64 (0 - p1)) 0),(api_Point.mk (w64 (0 - p2)) p3)]) [(0,.agg #[iv (w64 (0 - p1)),iv 0]),(1,.agg #[iv (w64 (0 - p2)),iv p3])] 2 [.agg #[iv (w64 (0 - p1)),iv 0],.agg #[iv (w64 (0 - p2)),iv p3]] [iv (w64 (0 - p1)),iv 0,iv (w64 (0 - p2)),iv p3] (.agg #[iv 0,iv 0]) 16 S (wN d) d d Try.underlying26 d (by decide) (by decide) (by kernel_rfl) d (fun E1 w1 hE=>All.cons (r_api_Point.mono hE (S.mem.know (i:=1) (e:=fRep r_api_Point (.agg #[iv (w64 (0 - p1)),iv 0]) (api_Point.mk (w64 (0 - p1)) 0)) d)) (All.cons (r_api_Point.mono hE (S.mem.know (i:=0) (e:=fRep r_api_Point (.agg #[iv (w64 (0 - p2)),iv p3]) (api_Point.mk (w64 (0 - p2)) p3)) d)) (All.nil _ _ _))) d d (lb d) fun a w bi bj S=>?_
 refine sM S fun a S=>?_
 refine sBuild [(0,iv p1)] [iv p1,iv 0] S (wN d) d d d d (lb d) fun a S=>sM S fun a S=>?_
 refine sM S fun a S=>?_
 refine sBuild [(0,iv p2),(1,iv p3)] [iv p2,iv p3] S (wN d) d d d d (lb d) fun a S=>?_
 have S:=S.learn (fRep r_api_Point (.agg #[iv p1,iv 0]) (api_Point.mk p1 0)) d
 have S:=S.learn (fRep r_api_Point (.agg #[iv p2,iv p3]) (api_Point.mk p2 p3)) d
 refine sLit (r:=r_api_Point) (T:=33) (xs:=[(api_Point.mk p1 0),(api_Point.mk p2 p3)]) [(0,.agg #[iv p1,iv 0]),(1,.agg #[iv p2,iv p3])] 2 [.agg #[iv p1,iv 0],.agg #[iv p2,iv p3]] [iv p1,iv 0,iv p2,iv p3] (.agg #[iv 0,iv 0]) 16 S (wN d) d d Try.underlying26 d (by decide) (by decide) (by kernel_rfl) d (fun E1 w1 hE=>All.cons (r_api_Point.mono hE (S.mem.know (i:=1) (e:=fRep r_api_Point (.agg #[iv p1,iv 0]) (api_Point.mk p1 0)) d)) (All.cons (r_api_Point.mono hE (S.mem.know (i:=0) (e:=fRep r_api_Point (.agg #[iv p2,iv p3]) (api_Point.mk p2 p3)) d)) (All.nil _ _ _))) d d (lb d) fun a w bl bm S=>?_
 obtain ⟨ah,d7,h⟩:=bS h
 have S:=S.learn (fRep r_api_Gauge (.agg #[iv p0.Stitches,iv p0.Width,iv p0.Rows,iv p0.Height]) p0) d
 have S:=S.shutR (r:=r_api_Point) (T:=33) (v:=.slice bi [(api_Point.mk (w64 (0 - p1)) 0),(api_Point.mk (w64 (0 - p2)) p3)].length bj) (xs:=[(api_Point.mk (w64 (0 - p1)) 0),(api_Point.mk (w64 (0 - p2)) p3)]) 1 d
 have S:=S.shutR (r:=r_api_Point) (T:=33) (v:=.slice bl [(api_Point.mk p1 0),(api_Point.mk p2 p3)].length bm) (xs:=[(api_Point.mk p1 0),(api_Point.mk p2 p3)]) 0 d
 refine sCall (X:=Value) (f:=6) (vs:=[.agg #[iv p0.Stitches,iv p0.Width,iv p0.Rows,iv p0.Height],.slice bi [(api_Point.mk (w64 (0 - p1)) 0),(api_Point.mk (w64 (0 - p2)) p3)].length bj,.slice bl [(api_Point.mk p1 0),(api_Point.mk p2 p3)].length bm]) (val:=c_piece_Measure_val ah) (B':=fun _=>[]) (D':=c_piece_Measure_D ah) [] [eBox b2 23 [iv p0.Stitches,iv p0.Width,iv p0.Rows,iv p0.Height]] [fRep r_api_Gauge (.agg #[iv p0.Stitches,iv p0.Width,iv p0.Rows,iv p0.Height]) p0,fRep (rL r_api_Point) (.slice bi [(api_Point.mk (w64 (0 - p1)) 0),(api_Point.mk (w64 (0 - p2)) p3)].length bj) [(api_Point.mk (w64 (0 - p1)) 0),(api_Point.mk (w64 (0 - p2)) p3)],fRep (rL r_api_Point) (.slice bl [(api_Point.mk p1 0),(api_Point.mk p2 p3)].length bm) [(api_Point.mk p1 0),(api_Point.mk p2 p3)]] [0] [2,1,0] S (wN d) d callee6 d (by decide) d d (fun E1 w1 S1=>c_piece_Measure E1 w1 p0 (.agg #[iv p0.Stitches,iv p0.Width,iv p0.Rows,iv p0.Height]) [(api_Point.mk (w64 (0 - p1)) 0),(api_Point.mk (w64 (0 - p2)) p3)] (.slice bi [(api_Point.mk (w64 (0 - p1)) 0),(api_Point.mk (w64 (0 - p2)) p3)].length bj) [(api_Point.mk p1 0),(api_Point.mk p2 p3)] (.slice bl [(api_Point.mk p1 0),(api_Point.mk p2 p3)].length bm) ah d7 S1) d (lb d) fun dB a w S=>?_
 obtain ⟨dC,dD,rfl,bX,bY⟩:=S.mem.know (i:=0) (e:=fRep r_api_Shape (dB) ah.1) d
 have S:=S.learn (fRep (rL r_api_Point) dC ah.1.Left) bX
 obtain ⟨al,am,_,rfl,_⟩:=bX
 have S:=S.learn (fRep (rL r_api_Point) dD ah.1.Right) bY
 obtain ⟨aq,ar,_,rfl,_⟩:=bY
 refine sM S fun a S=>?_
 refine sExtract (vs:=[.agg #[.slice al ah.1.Left.length am,.slice aq ah.1.Right.length ar],iv ah.2]) (.agg #[.slice al ah.1.Left.length am,.slice aq ah.1.Right.length ar]) S (wN d) d d d d (lb d) fun a S=>sExtract (vs:=[.agg #[.slice al ah.1.Left.length am,.slice aq ah.1.Right.length ar],iv ah.2]) (iv ah.2) S (wN d) d d d d (lb d) fun a S=>sAlloc (.agg #[.slice none 0 0,.slice none 0 0]) S (wN d) d d [.slice none 0 0,.slice none 0 0] d d (lb d) fun a aL w S=>sStore (p:=aL) (off:=0) (T:=28) (vs:=[.slice none 0 0,.slice none 0 0]) (v:=.agg #[.slice al ah.1.Left.length am,.slice aq ah.1.Right.length ar]) 0 [.slice al ah.1.Left.length am,.slice aq ah.1.Right.length ar] S (wN d) d d d d d d d (by simp) d fun a w S=>sN S fun a S=>?_
 refine lT (d6 _ _ (sSeq (fun dW d8=>sSeq (fun dX d9=>sRegion (sM S fun a S=>?_)))))
 refine sBin _ S (wN d) d d d (bNe _ _ _ _ .i64 ah.2 0) d (lb d) fun a S=>lT (d9 _ _ ?_)
 rcases iS h with ⟨bu,h⟩ | ⟨bu,h⟩
 ·refine sCondT S d bu ?_
  obtain ⟨dE,h,dG⟩:=bS h
  refine sCut (fun a w=>∃ bZ,bZ=dE∧St [] E [] w0 221 a w [(10,.bool bZ)] [] []) ?_ (fun a w hI=>?_)
  rotate_left
  ·obtain ⟨bZ,rfl,S⟩:=hI
   have h:=dG
   try dsimp only at h
   obtain rfl:=tS h
   exact wp_ret (rThen (sRet (.bool bZ) S (rsl1 d (rvT (t:=10) (v:=.bool bZ) S d)) ⟨(),d,S.mem.sel [] [] (by decide) d d⟩))
  refine sRegion (sM S fun a S=>?_)
  refine sM S fun a S=>?_
  rcases iS h with ⟨aI,h⟩ | ⟨aI,h⟩
  rotate_left
  ·refine sSkN 3 1 true 75 S d d aI d fun a S=>sSkipU 4 false 78 79 S d d d d (lb d) fun a S=>?_
   refine sSkipU 4 false 78 80 S d d d d (lb d) fun a S=>?_
   refine sSk S d d d aI d d fun a S=>sPickF (.bool false) S (wN d) d d aI d d (lb d) fun a S=>sN S fun a S=>?_
   exact lT (⟨false,Option.some.inj h,S.fix [] [] (by decide) d d d⟩)
  refine sMove (iv ah.2) S (wG 1 true 75 d d d aI) (.inl d) d d (lb d) fun a S=>sBin _ S (wG 1 true 75 d d d aI) d d d (bEq _ _ _ _ .i64 ah.2 8) d (lb d) fun a S=>sMove (.bool (ah.2 == 8)) S (wG 1 true 75 d d d aI) (.inl d) d d (lb d) fun a S=>?_
  rcases iS h with ⟨aZ,h⟩ | ⟨aZ,h⟩
  ·refine sSkN 2 4 false 78 S d d aZ d fun a S=>sPickT (.bool true) S (wG 1 true 75 d d d aI) d d aZ d d (lb d) fun a S=>sPickT (.bool true) S (wN d) d d aI d d (lb d) fun a S=>sN S fun a S=>?_
   exact lT (⟨true,Option.some.inj h,S.fix [] [] (by decide) d d d⟩)
  refine sMove (iv ah.2) S (wG 4 false 78 d d d aZ) (.inl d) d d (lb d) fun a S=>sBin _ S (wG 4 false 78 d d d aZ) d d d (bEq _ _ _ _ .i64 ah.2 16) d (lb d) fun a S=>sPickF (.bool (ah.2 == 16)) S (wG 1 true 75 d d d aI) d d aZ d d (lb d) fun a S=>sPickT (.bool (ah.2 == 16)) S (wN d) d d aI d d (lb d) fun a S=>sN S fun a S=>?_
  exact lT (⟨ah.2 == 16,Option.some.inj h,S.fix [] [] (by decide) d d d⟩)
 refine sCondF S d bu (wp_skip (leafT (d8 _ _ ?_)))
 refine sSeq (fun dY da=>sRegion (sLoadN (p:=aL) (off:=0) (T:=28) (vs:=[.slice al ah.1.Left.length am,.slice aq ah.1.Right.length ar]) 0 [.slice al ah.1.Left.length am,.slice aq ah.1.Right.length ar] S (wN d) d d d d d d d (lb d) fun a S=>?_))
 obtain ⟨aa,db,h⟩:=bS h
 refine sCall (X:=Value) (f:=7) (vs:=[.agg #[.slice al ah.1.Left.length am,.slice aq ah.1.Right.length ar]]) (val:=c_piece_Make_val aa) (B':=fun _=>[]) (D':=c_piece_Make_D aa) [] [eBox aL 28 [.slice al ah.1.Left.length am,.slice aq ah.1.Right.length ar],eBox b2 23 [iv p0.Stitches,iv p0.Width,iv p0.Rows,iv p0.Height]] [fRep r_api_Shape (.agg #[.slice al ah.1.Left.length am,.slice aq ah.1.Right.length ar]) ah.1] [0,1] [2] S (wN d) d callee7 d (by decide) d d (fun E1 w1 S1=>c_piece_Make E1 w1 ah.1 (.agg #[.slice al ah.1.Left.length am,.slice aq ah.1.Right.length ar]) aa db S1) d (lb d) fun dH a w S=>?_
 obtain ⟨dI,dJ,rfl,c6,c7⟩:=S.mem.know (i:=0) (e:=fRep r_api_Piece (dH) aa.1) d
 have S:=S.learn (fRep (rL (rI .i64)) dI aa.1.Left) c6
 obtain ⟨ac,ae,_,rfl,_⟩:=c6
 have S:=S.learn (fRep (rL (rI .i64)) dJ aa.1.Right) c7
 obtain ⟨af,ag,_,rfl,_⟩:=c7
 refine sM S fun a S=>?_
 refine sExtract (vs:=[.agg #[.slice ac aa.1.Left.length ae,.slice af aa.1.Right.length ag],iv aa.2]) (.agg #[.slice ac aa.1.Left.length ae,.slice af aa.1.Right.length ag]) S (wN d) d d d d (lb d) fun a S=>sExtract (vs:=[.agg #[.slice ac aa.1.Left.length ae,.slice af aa.1.Right.length ag],iv aa.2]) (iv aa.2) S (wN d) d d d d (lb d) fun a S=>sAlloc (.agg #[.slice none 0 0,.slice none 0 0]) S (wN d) d d [.slice none 0 0,.slice none 0 0] d d (lb d) fun a au w S=>sStore (p:=au) (off:=0) (T:=36) (vs:=[.slice none 0 0,.slice none 0 0]) (v:=.agg #[.slice ac aa.1.Left.length ae,.slice af aa.1.Right.length ag]) 0 [.slice ac aa.1.Left.length ae,.slice af aa.1.Right.length ag] S (wN d) d d d d d d d (by simp) d fun a w S=>sN S fun a S=>?_
 refine lT (da _ _ (sSeq (fun dZ dc=>sSeq (fun e9 de=>sRegion (sM S fun a S=>?_)))))
 refine sBin _ S (wN d) d d d (bNe _ _ _ _ .i64 aa.2 0) d (lb d) fun a S=>lT (de _ _ ?_)
 rcases iS h with ⟨bv,h⟩ | ⟨bv,h⟩
 ·refine sCondT S d bv ?_
  obtain ⟨dK,h,dM⟩:=bS h
  refine sCut (fun a w=>∃ c8,c8=dK∧St [] E [] w0 221 a w [(10,.bool c8)] [] []) ?_ (fun a w hI=>?_)
  rotate_left
  ·obtain ⟨c8,rfl,S⟩:=hI
   have h:=dM
   try dsimp only at h
   obtain rfl:=tS h
   exact wp_ret (rThen (sRet (.bool c8) S (rsl1 d (rvT (t:=10) (v:=.bool c8) S d)) ⟨(),d,S.mem.sel [] [] (by decide) d d⟩))
  refine sRegion (sM S fun a S=>?_)
  refine sM S fun a S=>?_
  rcases iS h with ⟨b8,h⟩ | ⟨b8,h⟩
  rotate_left
  ·refine sSkN 2 1 true 91 S d d b8 d fun a S=>sPickF (.bool false) S (wN d) d d b8 d d (lb d) fun a S=>sN S fun a S=>?_
   exact lT (⟨false,Option.some.inj h,S.fix [] [] (by decide) d d d⟩)
  refine sMove (iv aa.2) S (wG 1 true 91 d d d b8) (.inl d) d d (lb d) fun a S=>sBin _ S (wG 1 true 91 d d d b8) d d d (bEq _ _ _ _ .i64 aa.2 16) d (lb d) fun a S=>sPickT (.bool (aa.2 == 16)) S (wN d) d d b8 d d (lb d) fun a S=>sN S fun a S=>?_
  exact lT (⟨aa.2 == 16,Option.some.inj h,S.fix [] [] (by decide) d d d⟩)
 refine sCondF S d bv (wp_skip (leafT (dc _ _ ?_)))
 refine sSeq (fun ec df=>sRegion (sLoadN (p:=b2) (off:=0) (T:=23) (vs:=[iv p0.Stitches,iv p0.Width,iv p0.Rows,iv p0.Height]) 2 [iv p0.Stitches,iv p0.Width,iv p0.Rows,iv p0.Height] S (wN d) d d d d d d d (lb d) fun a S=>sM S fun a S=>?_))
 obtain ⟨az,dg,h⟩:=bS h
 have S1:=S.mem
 refine sCq [.agg #[iv p0.Stitches,iv p0.Width,iv p0.Rows,iv p0.Height],iv p1] (.tuple #[iv az.1,iv az.2]) S callee8 (S1.quiet [8] d) (fun E1 w1 S1=>c_gauge_Stitches E1 w1 p0 (.agg #[iv p0.Stitches,iv p0.Width,iv p0.Rows,iv p0.Height]) p1 az dg S1) fun a w S=>?_
 refine sM S fun a S=>?_
 refine sExtract (vs:=[iv az.1,iv az.2]) (iv az.1) S (wN d) d d d d (lb d) fun a S=>sExtract (vs:=[iv az.1,iv az.2]) (iv az.2) S (wN d) d d d d (lb d) fun a S=>sN S fun a S=>?_
 refine sN S fun a S=>?_
 refine lT (df _ _ (sSeq (fun ed dh=>sRegion (sLoadN (p:=b2) (off:=0) (T:=23) (vs:=[iv p0.Stitches,iv p0.Width,iv p0.Rows,iv p0.Height]) 2 [iv p0.Stitches,iv p0.Width,iv p0.Rows,iv p0.Height] S (wN d) d d d d d d d (lb d) fun a S=>sM S fun a S=>?_))))
 obtain ⟨aw,di,h⟩:=bS h
 have S1:=S.mem
 refine sCq [.agg #[iv p0.Stitches,iv p0.Width,iv p0.Rows,iv p0.Height],iv p2] (.tuple #[iv aw.1,iv aw.2]) S callee8 (S1.quiet [8] d) (fun E1 w1 S1=>c_gauge_Stitches E1 w1 p0 (.agg #[iv p0.Stitches,iv p0.Width,iv p0.Rows,iv p0.Height]) p2 aw di S1) fun a w S=>?_
 refine sM S fun a S=>?_
 refine sExtract (vs:=[iv aw.1,iv aw.2]) (iv aw.1) S (wN d) d d d d (lb d) fun a S=>sExtract (vs:=[iv aw.1,iv aw.2]) (iv aw.2) S (wN d) d d d d (lb d) fun a S=>sN S fun a S=>?_
 refine sN S fun a S=>?_
 refine lT (dh _ _ (sSeq (fun ee dj=>sRegion (sLoadN (p:=b2) (off:=0) (T:=23) (vs:=[iv p0.Stitches,iv p0.Width,iv p0.Rows,iv p0.Height]) 2 [iv p0.Stitches,iv p0.Width,iv p0.Rows,iv p0.Height] S (wN d) d d d d d d d (lb d) fun a S=>sM S fun a S=>?_))))
 obtain ⟨av,dk,h⟩:=bS h
 have S1:=S.mem
 refine sCq [.agg #[iv p0.Stitches,iv p0.Width,iv p0.Rows,iv p0.Height],iv p3] (.tuple #[iv av.1,iv av.2]) S callee9 (S1.quiet [8] d) (fun E1 w1 S1=>c_gauge_Rows E1 w1 p0 (.agg #[iv p0.Stitches,iv p0.Width,iv p0.Rows,iv p0.Height]) p3 av dk S1) fun a w S=>?_
 refine sM S fun a S=>?_
 refine sExtract (vs:=[iv av.1,iv av.2]) (iv av.1) S (wN d) d d d d (lb d) fun a S=>sExtract (vs:=[iv av.1,iv av.2]) (iv av.2) S (wN d) d d d d (lb d) fun a S=>sN S fun a S=>?_
 refine sN S fun a S=>?_
 refine lT (dj _ _ (sSeq (fun ef dl=>?_)))
 obtain ⟨dN,h,dO⟩:=bS h
 refine sCut (fun a w=>∃ dm,dm=dN∧St [] E [] w0 221 a w [(4,iv p4),(5,.pointer (some ⟨b2,0,none⟩)),(11,.bool r4),(12,.pointer (some ⟨aL,0,none⟩)),(14,.pointer (some ⟨au,0,none⟩)),(16,iv az.1),(18,iv aw.1),(20,iv av.1),(152,.bool dm)] [eBox b2 23 [iv p0.Stitches,iv p0.Width,iv p0.Rows,iv p0.Height],eBox aL 28 [.slice al ah.1.Left.length am,.slice aq ah.1.Right.length ar],eBox au 36 [.slice ac aa.1.Left.length ae,.slice af aa.1.Right.length ag]] [fRep (rL r_api_Point) (.slice al ah.1.Left.length am) ah.1.Left,fRep (rL r_api_Point) (.slice aq ah.1.Right.length ar) ah.1.Right,fRep (rL (rI .i64)) (.slice ac aa.1.Left.length ae) aa.1.Left,fRep (rL (rI .i64)) (.slice af aa.1.Right.length ag) aa.1.Right]) ?_ (fun a w hI=>?_)
 ·refine sRegion (sM S fun a S=>?_)
  refine sBin _ S (wN d) d d d (bNe _ _ _ _ .i64 az.2 0) d (lb d) fun a S=>sM S fun a S=>?_
  rcases iS h with ⟨ba,h⟩ | ⟨ba,h⟩
  ·refine sSkN 2 2 false 115 S d d ba d fun a S=>sPickT (.bool true) S (wN d) d d ba d d (lb d) fun a S=>sM S fun a S=>?_
   refine sSkN 2 6 false 119 S d d d d fun a S=>sPickT (.bool true) S (wN d) d d d d d (lb d) fun a S=>sM S fun a S=>?_
   refine sSkN 3 10 false 123 S d d d d fun a S=>sPickT (.bool true) S (wN d) d d d d d (lb d) fun a S=>sM S fun a S=>?_
   refine sSkN 3 15 false 128 S d d d d fun a S=>sPickT (.bool true) S (wN d) d d d d d (lb d) fun a S=>sM S fun a S=>?_
   refine sSkN 4 20 false 133 S d d d d fun a S=>sPickT (.bool true) S (wN d) d d d d d (lb d) fun a S=>sM S fun a S=>?_
   refine sSkN 4 26 false 139 S d d d d fun a S=>sPickT (.bool true) S (wN d) d d d d d (lb d) fun a S=>sM S fun a S=>?_
   refine sSkN 6 32 false 145 S d d d d fun a S=>sPickT (.bool true) S (wN d) d d d d d (lb d) fun a S=>?_
   exact lT (⟨true,Option.some.inj h,S.fix [2,1,0] [4,3,1,0] (by decide) d d d⟩)
  refine sMove (iv aw.2) S (wG 2 false 115 d d d ba) (.inl d) d d (lb d) fun a S=>sBin _ S (wG 2 false 115 d d d ba) d d d (bNe _ _ _ _ .i64 aw.2 0) d (lb d) fun a S=>sPickF (.bool (aw.2 != 0)) S (wN d) d d ba d d (lb d) fun a S=>sM S fun a S=>?_
  rcases iS h with ⟨bb,h⟩ | ⟨bb,h⟩
  ·refine sSkN 2 6 false 119 S d d bb d fun a S=>sPickT (.bool true) S (wN d) d d bb d d (lb d) fun a S=>sM S fun a S=>?_
   refine sSkN 3 10 false 123 S d d d d fun a S=>sPickT (.bool true) S (wN d) d d d d d (lb d) fun a S=>sM S fun a S=>?_
   refine sSkN 3 15 false 128 S d d d d fun a S=>sPickT (.bool true) S (wN d) d d d d d (lb d) fun a S=>sM S fun a S=>?_
   refine sSkN 4 20 false 133 S d d d d fun a S=>sPickT (.bool true) S (wN d) d d d d d (lb d) fun a S=>sM S fun a S=>?_
   refine sSkN 4 26 false 139 S d d d d fun a S=>sPickT (.bool true) S (wN d) d d d d d (lb d) fun a S=>sM S fun a S=>?_
   refine sSkN 6 32 false 145 S d d d d fun a S=>sPickT (.bool true) S (wN d) d d d d d (lb d) fun a S=>?_
   exact lT (⟨true,Option.some.inj h,S.fix [2,1,0] [4,3,1,0] (by decide) d d d⟩)
  refine sMove (iv av.2) S (wG 6 false 119 d d d bb) (.inl d) d d (lb d) fun a S=>sBin _ S (wG 6 false 119 d d d bb) d d d (bNe _ _ _ _ .i64 av.2 0) d (lb d) fun a S=>sPickF (.bool (av.2 != 0)) S (wN d) d d bb d d (lb d) fun a S=>sM S fun a S=>?_
  rcases iS h with ⟨aS,h⟩ | ⟨aS,h⟩
  ·refine sSkN 3 10 false 123 S d d aS d fun a S=>sPickT (.bool true) S (wN d) d d aS d d (lb d) fun a S=>sM S fun a S=>?_
   refine sSkN 3 15 false 128 S d d d d fun a S=>sPickT (.bool true) S (wN d) d d d d d (lb d) fun a S=>sM S fun a S=>?_
   refine sSkN 4 20 false 133 S d d d d fun a S=>sPickT (.bool true) S (wN d) d d d d d (lb d) fun a S=>sM S fun a S=>?_
   refine sSkN 4 26 false 139 S d d d d fun a S=>sPickT (.bool true) S (wN d) d d d d d (lb d) fun a S=>sM S fun a S=>?_
   refine sSkN 6 32 false 145 S d d d d fun a S=>sPickT (.bool true) S (wN d) d d d d d (lb d) fun a S=>?_
   exact lT (⟨true,Option.some.inj h,S.fix [2,1,0] [4,3,1,0] (by decide) d d d⟩)
  refine sLoadN (p:=aL) (off:=0) (T:=28) (vs:=[.slice al ah.1.Left.length am,.slice aq ah.1.Right.length ar]) 1 [.slice al ah.1.Left.length am,.slice aq ah.1.Right.length ar] S (wG 10 false 123 d d d aS) d d d d d d d (lb d) fun a S=>?_
  obtain ⟨cW,dn,h⟩:=bS h
  have S1:=S.mem
  refine sCallQ (X:=Unit) (f:=10) (vs:=[.agg #[.slice al ah.1.Left.length am,.slice aq ah.1.Right.length ar]]) (val:=fun _=>iv cW) S (wG 10 false 123 d d d aS) d callee10 d (S1.quiet [5] d) (fun E1 w1 S1=>c_raddleref37_Shape E1 w1 ah.1 (.agg #[.slice al ah.1.Left.length am,.slice aq ah.1.Right.length ar]) cW dn S1) d (lb d) fun _ a w S=>?_
  refine sBin _ S (wG 10 false 123 d d d aS) d d d (bNe _ _ _ _ .i64 cW 0) d (lb d) fun a S=>sPickF (.bool (cW != 0)) S (wN d) d d aS d d (lb d) fun a S=>sM S fun a S=>?_
  rcases iS h with ⟨aT,h⟩ | ⟨aT,h⟩
  ·refine sSkN 3 15 false 128 S d d aT d fun a S=>sPickT (.bool true) S (wN d) d d aT d d (lb d) fun a S=>sM S fun a S=>?_
   refine sSkN 4 20 false 133 S d d d d fun a S=>sPickT (.bool true) S (wN d) d d d d d (lb d) fun a S=>sM S fun a S=>?_
   refine sSkN 4 26 false 139 S d d d d fun a S=>sPickT (.bool true) S (wN d) d d d d d (lb d) fun a S=>sM S fun a S=>?_
   refine sSkN 6 32 false 145 S d d d d fun a S=>sPickT (.bool true) S (wN d) d d d d d (lb d) fun a S=>?_
   exact lT (⟨true,Option.some.inj h,S.fix [2,1,0] [4,3,1,0] (by decide) d d d⟩)
  refine sLoadN (p:=au) (off:=0) (T:=36) (vs:=[.slice ac aa.1.Left.length ae,.slice af aa.1.Right.length ag]) 0 [.slice ac aa.1.Left.length ae,.slice af aa.1.Right.length ag] S (wG 15 false 128 d d d aT) d d d d d d d (lb d) fun a S=>?_
  obtain ⟨cX,dp,h⟩:=bS h
  have S1:=S.mem
  refine sCallQ (X:=Unit) (f:=11) (vs:=[.agg #[.slice ac aa.1.Left.length ae,.slice af aa.1.Right.length ag]]) (val:=fun _=>iv cX) S (wG 15 false 128 d d d aT) d callee11 d (S1.quiet [2] d) (fun E1 w1 S1=>c_raddleref37_Check E1 w1 aa.1 (.agg #[.slice ac aa.1.Left.length ae,.slice af aa.1.Right.length ag]) cX dp S1) d (lb d) fun _ a w S=>?_
  refine sBin _ S (wG 15 false 128 d d d aT) d d d (bNe _ _ _ _ .i64 cX 0) d (lb d) fun a S=>sPickF (.bool (cX != 0)) S (wN d) d d aT d d (lb d) fun a S=>sM S fun a S=>?_
  rcases iS h with ⟨aQ,h⟩ | ⟨aQ,h⟩
  ·refine sSkN 4 20 false 133 S d d aQ d fun a S=>sPickT (.bool true) S (wN d) d d aQ d d (lb d) fun a S=>sM S fun a S=>?_
   refine sSkN 4 26 false 139 S d d d d fun a S=>sPickT (.bool true) S (wN d) d d d d d (lb d) fun a S=>sM S fun a S=>?_
   refine sSkN 6 32 false 145 S d d d d fun a S=>sPickT (.bool true) S (wN d) d d d d d (lb d) fun a S=>?_
   exact lT (⟨true,Option.some.inj h,S.fix [2,1,0] [4,3,1,0] (by decide) d d d⟩)
  refine sField (b:=aL) (off:=0) 0 0 S (wG 20 false 133 d d d aQ) d d d d d (lb d) fun a S=>sLoad1 1 (.slice al ah.1.Left.length am) S (wG 20 false 133 d d d aQ) d d d d d d (lb d) fun a S=>sLen S (wG 20 false 133 d d d aQ) d Try.underlying26 d d (lb d) fun a S=>sBin _ S (wG 20 false 133 d d d aQ) d d d (bNe _ _ _ _ .i64 (ah.1.Left.length:Int) 2) d (lb d) fun a S=>sPickF (.bool ((ah.1.Left.length:Int) != 2)) S (wN d) d d aQ d d (lb d) fun a S=>sM S fun a S=>?_
  rcases iS h with ⟨aR,h⟩ | ⟨aR,h⟩
  ·refine sSkN 4 26 false 139 S d d aR d fun a S=>sPickT (.bool true) S (wN d) d d aR d d (lb d) fun a S=>sM S fun a S=>?_
   refine sSkN 6 32 false 145 S d d d d fun a S=>sPickT (.bool true) S (wN d) d d d d d (lb d) fun a S=>?_
   exact lT (⟨true,Option.some.inj h,S.fix [2,1,0] [4,3,1,0] (by decide) d d d⟩)
  refine sField (b:=aL) (off:=0) 1 1 S (wG 26 false 139 d d d aR) d d d d d (lb d) fun a S=>sLoad1 1 (.slice aq ah.1.Right.length ar) S (wG 26 false 139 d d d aR) d d d d d d (lb d) fun a S=>sLen S (wG 26 false 139 d d d aR) d Try.underlying26 d d (lb d) fun a S=>sBin _ S (wG 26 false 139 d d d aR) d d d (bNe _ _ _ _ .i64 (ah.1.Right.length:Int) 2) d (lb d) fun a S=>sPickF (.bool ((ah.1.Right.length:Int) != 2)) S (wN d) d d aR d d (lb d) fun a S=>sM S fun a S=>?_
  rcases iS h with ⟨aK,h⟩ | ⟨aK,h⟩
  ·refine sSkN 6 32 false 145 S d d aK d fun a S=>sPickT (.bool true) S (wN d) d d aK d d (lb d) fun a S=>?_
   exact lT (⟨true,Option.some.inj h,S.fix [2,1,0] [4,3,1,0] (by decide) d d d⟩)
  refine sField (b:=au) (off:=0) 0 0 S (wG 32 false 145 d d d aK) d d d d d (lb d) fun a S=>sLoad1 0 (.slice ac aa.1.Left.length ae) S (wG 32 false 145 d d d aK) d d d d d d (lb d) fun a S=>sLen S (wG 32 false 145 d d d aK) d Try.underlying34 d d (lb d) fun a S=>sMove (iv av.1) S (wG 32 false 145 d d d aK) (.inl d) d d (lb d) fun a S=>sBin _ S (wG 32 false 145 d d d aK) d d d (bAdd _ _ _ _ av.1 1) d (lb d) fun a S=>sBin _ S (wG 32 false 145 d d d aK) d d d (bNe _ _ _ _ .i64 (aa.1.Left.length:Int) (w64 (av.1 + 1))) d (lb d) fun a S=>sPickF (.bool ((aa.1.Left.length:Int) != (w64 (av.1 + 1)))) S (wN d) d d aK d d (lb d) fun a S=>?_
  exact lT (⟨(aa.1.Left.length:Int) != (w64 (av.1 + 1)),Option.some.inj h,S.fix [2,1,0] [4,3,1,0] (by decide) d d d⟩)
 obtain ⟨dm,rfl,S⟩:=hI
 have h:=dO
 try dsimp only at h
 rcases iS h with ⟨bw,h⟩ | ⟨bw,h⟩
 ·refine sCondT S d bw (sSeq (fun eh dr=>sRegion (sN S fun a S=>?_)))
  refine lT (dr _ _ ?_)
  obtain rfl:=tS h
  exact wp_ret (rThen (sRet (.bool false) S (rsl1 d (rvT (t:=10) (v:=.bool false) S d)) ⟨(),d,S.mem.sel [] [] (by decide) d d⟩))
 refine sCondF S d bw (wp_skip (leafT (dl _ _ ?_)))
 refine sSeq (fun ei dt=>?_)
 obtain ⟨dP,h,dQ⟩:=bS h
 refine sCut (fun a w=>∃ du,du=dP∧St [] E [] w0 221 a w [(4,iv p4),(5,.pointer (some ⟨b2,0,none⟩)),(11,.bool r4),(14,.pointer (some ⟨au,0,none⟩)),(20,iv av.1),(208,.bool du)] [eBox b2 23 [iv p0.Stitches,iv p0.Width,iv p0.Rows,iv p0.Height],eBox au 36 [.slice ac aa.1.Left.length ae,.slice af aa.1.Right.length ag]] [fRep (rL (rI .i64)) (.slice ac aa.1.Left.length ae) aa.1.Left,fRep (rL (rI .i64)) (.slice af aa.1.Right.length ag) aa.1.Right]) ?_ (fun a w hI=>?_)
 rotate_left
 ·obtain ⟨du,rfl,S⟩:=hI
  have h:=dQ
  try dsimp only at h
  rcases iS h with ⟨bc,h⟩ | ⟨bc,h⟩
  ·refine sCondT S d bc (sSeq (fun dS c9=>sRegion (sN S fun a S=>?_)))
   refine lT (c9 _ _ ?_)
   obtain rfl:=tS h
   exact wp_ret (rThen (sRet (.bool false) S (rsl1 d (rvT (t:=10) (v:=.bool false) S d)) ⟨(),d,S.mem.sel [] [] (by decide) d d⟩))
  refine sCondF S d bc (wp_skip (leafT (dt _ _ ?_)))
  obtain ⟨dv,h,dw⟩:=bS h
  refine sCut (fun a w=>∃ bf,bf=dv∧St [] E [] w0 221 a w [(10,.bool bf)] [] []) ?_ (fun a w hI=>?_)
  rotate_left
  ·obtain ⟨bf,rfl,S⟩:=hI
   have h:=dw
   try dsimp only at h
   obtain rfl:=tS h
   exact wp_ret (sRet (.bool bf) S (rsl1 d (rvT (t:=10) (v:=.bool bf) S d)) ⟨(),d,S.mem.sel [] [] (by decide) d d⟩)
  refine sRegion (sM S fun a S=>?_)
  refine sM S fun a S=>?_
  rcases iS h with ⟨aJ,h⟩ | ⟨aJ,h⟩
  rotate_left
  ·refine sSkN 3 1 true 210 S d d aJ d fun a S=>sPickF (.bool false) S (wN d) d d aJ d d (lb d) fun a S=>sM S fun a S=>?_
   refine sSkN 4 6 true 215 S d d d d fun a S=>sPickF (.bool false) S (wN d) d d d d d (lb d) fun a S=>sN S fun a S=>?_
   exact lT (⟨false,Option.some.inj h,S.fix [] [] (by decide) d d d⟩)
  refine sLoadN (p:=au) (off:=0) (T:=36) (vs:=[.slice ac aa.1.Left.length ae,.slice af aa.1.Right.length ag]) 1 [.slice ac aa.1.Left.length ae,.slice af aa.1.Right.length ag] S (wG 1 true 210 d d d aJ) d d d d d d d (lb d) fun a S=>sMove (iv p4) S (wG 1 true 210 d d d aJ) (.inl d) d d (lb d) fun a S=>?_
  obtain ⟨bx,ca,h⟩:=bS h
  have S1:=S.mem
  have S1:=S1.learn (fRep r_api_Piece (.agg #[.slice ac aa.1.Left.length ae,.slice af aa.1.Right.length ag]) aa.1) ⟨_,_,d,S1.know (i:=0) (e:=fRep (rL (rI .i64)) (.slice ac aa.1.Left.length ae) aa.1.Left) d,S1.know (i:=1) (e:=fRep (rL (rI .i64)) (.slice af aa.1.Right.length ag) aa.1.Right) d⟩
  refine sCallQ (X:=Unit) (f:=13) (vs:=[.agg #[.slice ac aa.1.Left.length ae,.slice af aa.1.Right.length ag],iv p4]) (val:=fun _=>.bool bx) S (wG 1 true 210 d d d aJ) d callee13 d (S1.quiet [0] d) (fun E1 w1 S1=>c_raddletop_knit39 E1 w1 aa.1 (.agg #[.slice ac aa.1.Left.length ae,.slice af aa.1.Right.length ag]) p4 bx ca S1) d (lb d) fun _ a w S=>?_
  refine sPickT (.bool bx) S (wN d) d d aJ d d (lb d) fun a S=>sM S fun a S=>?_
  rcases iS h with ⟨aH,h⟩ | ⟨aH,h⟩
  rotate_left
  ·refine sSkN 4 6 true 215 S d d aH d fun a S=>sPickF (.bool false) S (wN d) d d aH d d (lb d) fun a S=>sN S fun a S=>?_
   exact lT (⟨false,Option.some.inj h,S.fix [] [] (by decide) d d d⟩)
  refine sLoadN (p:=b2) (off:=0) (T:=23) (vs:=[iv p0.Stitches,iv p0.Width,iv p0.Rows,iv p0.Height]) 0 [iv p0.Stitches,iv p0.Width,iv p0.Rows,iv p0.Height] S (wG 6 true 215 d d d aH) d d d d d d d (lb d) fun a S=>sMove (iv av.1) S (wG 6 true 215 d d d aH) (.inl d) d d (lb d) fun a S=>sBin _ S (wG 6 true 215 d d d aH) d d d (bAdd _ _ _ _ av.1 1) d (lb d) fun a S=>?_
  obtain ⟨bn,cb,h⟩:=bS h
  have S1:=S.mem
  have S1:=S1.learn (fRep r_api_Gauge (.agg #[iv p0.Stitches,iv p0.Width,iv p0.Rows,iv p0.Height]) p0) d
  refine sCallQ (X:=Unit) (f:=14) (vs:=[.agg #[iv p0.Stitches,iv p0.Width,iv p0.Rows,iv p0.Height],iv (w64 (av.1 + 1))]) (val:=fun _=>.bool bn) S (wG 6 true 215 d d d aH) d callee14 d (S1.quiet [0] d) (fun E1 w1 S1=>c_raddletop_sewn39 E1 w1 p0 (.agg #[iv p0.Stitches,iv p0.Width,iv p0.Rows,iv p0.Height]) (w64 (av.1 + 1)) bn cb S1) d (lb d) fun _ a w S=>?_
  refine sPickT (.bool bn) S (wN d) d d aH d d (lb d) fun a S=>sN S fun a S=>?_
  exact lT (⟨bn,Option.some.inj h,S.fix [] [] (by decide) d d d⟩)
 obtain ⟨ax,bo,h⟩:=bS h
 obtain ⟨ay,aU,h⟩:=bS h
 rcases iS h with ⟨a9,h⟩ | ⟨a9,h⟩
 ·obtain ⟨bz,cc,S⟩:=pIdx (P:=Try.prog) (r:=(rI .i64)) (v:=.slice af aa.1.Right.length ag) (xs:=aa.1.Right) (j:=0) 34 3 3 S Try.underlying34 d d bo
  obtain ⟨cd,S⟩:=pLoad (r:=(rI .i64)) (q:=bz) (x:=ax) 0 S d
  obtain rfl:cd=iv ax:=S.mem.know (i:=1) (e:=fRep (rI .i64) (cd) ax) d
  obtain ⟨bA,ce,S⟩:=pIdx (P:=Try.prog) (r:=(rI .i64)) (v:=.slice ac aa.1.Left.length ae) (xs:=aa.1.Left) (j:=0) 34 3 5 S Try.underlying34 d d aU
  obtain ⟨cf,S⟩:=pLoad (r:=(rI .i64)) (q:=bA) (x:=ay) 0 S d
  obtain rfl:cf=iv ay:=S.mem.know (i:=1) (e:=fRep (rI .i64) (cf) ay) d
  refine sDraw (nf:=[]) (W:=[(0,153,.pointer (some ⟨au,1,none⟩)),(1,154,.slice af aa.1.Right.length ag),(2,155,bz),(3,156,iv ax),(4,157,.pointer (some ⟨au,0,none⟩)),(5,158,.slice ac aa.1.Left.length ae),(6,159,bA),(7,160,iv ay),(8,161,iv (w64 (ax - ay))),(9,162,iv az.1),(10,163,iv (w64 (2 * az.1))),(11,164,.bool ((w64 (ax - ay)) != (w64 (2 * az.1)))),(12,165,.bool ((w64 (ax - ay)) != (w64 (2 * az.1)))),(13,166,undef),(14,167,undef),(15,168,undef),(16,169,undef),(17,170,undef),(18,171,undef),(19,172,undef),(20,173,undef),(21,174,undef),(22,175,undef),(23,176,undef),(24,177,undef),(25,178,undef),(26,179,undef),(27,180,.bool true),(28,181,.bool true),(29,182,undef),(30,183,undef),(31,184,undef),(32,185,undef),(33,186,undef),(34,187,undef),(35,188,undef),(36,189,undef),(37,190,undef),(38,191,undef),(39,192,undef),(40,193,undef),(41,194,.bool true),(42,195,.bool true),(43,196,undef),(44,197,undef),(45,198,undef),(46,199,undef),(47,200,undef),(48,201,undef),(49,202,undef),(50,203,undef),(51,204,undef),(52,205,undef),(53,206,undef),(54,207,undef),(55,208,.bool true)]) d S ?_
  refine node_by (A:=anc_raddletop_TopShape_0) 56 (by kernel_rfl) (by kernel_rfl) (by kernel_rfl) (by kernel_rfl) (by kernel_rfl) [0,1,2,3,4,5,6,7,8,9,10,11,12,13,14,15,16,17,18,19,20,21,22,23,24,25,26,27,28,29,30,31,32,33,34,35,36,37,38,39,40,41,42,43,44,45,46,47,48,49,50,51,52,53,54,55] (by kernel_rfl) (by decide) (by decide) (fF ?_ (fF ?_ (fF ?_ (fF ?_ (fF ?_ (fF ?_ (fF ?_ (fF ?_ (fF ?_ (fF ?_ (fF ?_ (fF ?_ (fF ?_ (fF ?_ (fF ?_ (fF ?_ (fF ?_ (fF ?_ (fF ?_ (fF ?_ (fF ?_ (fF ?_ (fF ?_ (fF ?_ (fF ?_ (fF ?_ (fF ?_ (fF ?_ (fF ?_ (fF ?_ (fF ?_ (fF ?_ (fF ?_ (fF ?_ (fF ?_ (fF ?_ (fF ?_ (fF ?_ (fF ?_ (fF ?_ (fF ?_ (fF ?_ (fF ?_ (fF ?_ (fF ?_ (fF ?_ (fF ?_ (fF ?_ (fF ?_ (fF ?_ (fF ?_ (fF ?_ (fF ?_ (fF ?_ (fF ?_ (fF ?_ (trivial))))))))))))))))))))))))))))))))))))))))))))))))))))))))) [(4,iv p4),(5,.pointer (some ⟨b2,0,none⟩)),(11,.bool r4),(14,.pointer (some ⟨au,0,none⟩)),(20,iv av.1),(208,.bool true)] (fin_of [none,none,none,none,none,some 55] d (by kernel_rfl) (by kernel_rfl)) (fun _ a w S=>?_)
  ·refine fJ [(14,_)] 0 [none] fun G a w S=>?_
   exact sField (b:=au) (off:=0) 1 1 S (wN d) d d d d d (lb d) fun a S=>leafL ⟨d,S⟩
  ·refine fJ [(153,_)] 1 [some 0] fun G a w S=>?_
   exact sLoad1 2 (.slice af aa.1.Right.length ag) S (wN d) d d d d d d (lb d) fun a S=>leafL ⟨d,S⟩
  ·refine fJ [(154,_)] 2 [some 1] fun G a w S=>?_
   exact sIdxV S (wN d) d d d cc d (lb d) fun a S=>leafL ⟨d,S⟩
  ·refine fJ [(155,_)] 3 [some 2] fun G a w S=>?_
   exact sLoadV1 (vq:=bz) 3 (iv ax) S (wN d) d d d d d (lb d) fun a S=>leafL ⟨d,S⟩
  ·refine fJ [(14,_)] 4 [none] fun G a w S=>?_
   exact sField (b:=au) (off:=0) 0 0 S (wN d) d d d d d (lb d) fun a S=>leafL ⟨d,S⟩
  ·refine fJ [(157,_)] 5 [some 4] fun G a w S=>?_
   exact sLoad1 2 (.slice ac aa.1.Left.length ae) S (wN d) d d d d d d (lb d) fun a S=>leafL ⟨d,S⟩
  ·refine fJ [(158,_)] 6 [some 5] fun G a w S=>?_
   exact sIdxV S (wN d) d d d ce d (lb d) fun a S=>leafL ⟨d,S⟩
  ·refine fJ [(159,_)] 7 [some 6] fun G a w S=>?_
   exact sLoadV1 (vq:=bA) 0 (iv ay) S (wN d) d d d d d (lb d) fun a S=>leafL ⟨d,S⟩
  ·refine fJ [(156,_),(160,_)] 8 [some 3,some 7] fun G a w S=>?_
   exact sBin _ S (wN d) d d d (bSub _ _ _ _ ax ay) d (lb d) fun a S=>leafL ⟨d,S⟩
  ·exact fM 9 none d d d d (.inl d) d d d
  ·refine fJ [(162,_)] 10 [some 9] fun G a w S=>?_
   exact sBin _ S (wN d) d d d (bMul _ _ _ _ 2 az.1) d (lb d) fun a S=>leafL ⟨d,S⟩
  ·refine fJ [(161,_),(163,_)] 11 [some 8,some 10] fun G a w S=>?_
   exact sBin _ S (wN d) d d d (bNe _ _ _ _ .i64 (w64 (ax - ay)) (w64 (2 * az.1))) d (lb d) fun a S=>leafL ⟨d,S⟩
  ·exact fM 12 (some 11) d d d d (.inl d) d d d
  ·refine fJ [(14,_),(165,_)] 13 [none,some 12] fun G a w S=>?_
   exact sSk S d d d a9 d d fun a S=>leafL ⟨d,S⟩
  ·refine fJ [(166,_),(165,_)] 14 [some 13,some 12] fun G a w S=>?_
   exact sSk S d d d a9 d d fun a S=>leafL ⟨d,S⟩
  ·refine fJ [(20,_),(165,_)] 15 [none,some 12] fun G a w S=>?_
   exact sSk S d d d a9 d d fun a S=>leafL ⟨d,S⟩
  ·refine fJ [(167,_),(168,_),(165,_)] 16 [some 14,some 15,some 12] fun G a w S=>?_
   exact sSk S d d d a9 d d fun a S=>leafL ⟨d,S⟩
  ·refine fJ [(169,_),(165,_)] 17 [some 16,some 12] fun G a w S=>?_
   exact sSk S d d d a9 d d fun a S=>leafL ⟨d,S⟩
  ·refine fJ [(14,_),(165,_)] 18 [none,some 12] fun G a w S=>?_
   exact sSk S d d d a9 d d fun a S=>leafL ⟨d,S⟩
  ·refine fJ [(171,_),(165,_)] 19 [some 18,some 12] fun G a w S=>?_
   exact sSk S d d d a9 d d fun a S=>leafL ⟨d,S⟩
  ·refine fJ [(20,_),(165,_)] 20 [none,some 12] fun G a w S=>?_
   exact sSk S d d d a9 d d fun a S=>leafL ⟨d,S⟩
  ·refine fJ [(172,_),(173,_),(165,_)] 21 [some 19,some 20,some 12] fun G a w S=>?_
   exact sSk S d d d a9 d d fun a S=>leafL ⟨d,S⟩
  ·refine fJ [(174,_),(165,_)] 22 [some 21,some 12] fun G a w S=>?_
   exact sSk S d d d a9 d d fun a S=>leafL ⟨d,S⟩
  ·refine fJ [(170,_),(175,_),(165,_)] 23 [some 17,some 22,some 12] fun G a w S=>?_
   exact sSk S d d d a9 d d fun a S=>leafL ⟨d,S⟩
  ·refine fJ [(18,_),(165,_)] 24 [none,some 12] fun G a w S=>?_
   exact sSk S d d d a9 d d fun a S=>leafL ⟨d,S⟩
  ·refine fJ [(177,_),(165,_)] 25 [some 24,some 12] fun G a w S=>?_
   exact sSk S d d d a9 d d fun a S=>leafL ⟨d,S⟩
  ·refine fJ [(176,_),(178,_),(165,_)] 26 [some 23,some 25,some 12] fun G a w S=>?_
   exact sSk S d d d a9 d d fun a S=>leafL ⟨d,S⟩
  ·refine fJ [(165,_),(179,_)] 27 [some 12,some 26] fun G a w S=>?_
   exact sPickT (.bool true) S (wN d) d d a9 d d (lb d) fun a S=>leafL ⟨d,S⟩
  ·exact fM 28 (some 27) d d d d (.inl d) d d d
  ·refine fJ [(14,_),(181,_)] 29 [none,some 28] fun G a w S=>?_
   exact sSk S d d d d d d fun a S=>leafL ⟨d,S⟩
  ·refine fJ [(182,_),(181,_)] 30 [some 29,some 28] fun G a w S=>?_
   exact sSk S d d d d d d fun a S=>leafL ⟨d,S⟩
  ·refine fJ [(12,_),(181,_)] 31 [none,some 28] fun G a w S=>?_
   exact sSk S d d d d d d fun a S=>leafL ⟨d,S⟩
  ·refine fJ [(184,_),(181,_)] 32 [some 31,some 28] fun G a w S=>?_
   exact sSk S d d d d d d fun a S=>leafL ⟨d,S⟩
  ·refine fJ [(185,_),(181,_)] 33 [some 32,some 28] fun G a w S=>?_
   exact sSk S d d d d d d fun a S=>leafL ⟨d,S⟩
  ·refine fJ [(186,_),(181,_)] 34 [some 33,some 28] fun G a w S=>?_
   exact sSk S d d d d d d fun a S=>leafL ⟨d,S⟩
  ·refine fJ [(12,_),(181,_)] 35 [none,some 28] fun G a w S=>?_
   exact sSk S d d d d d d fun a S=>leafL ⟨d,S⟩
  ·refine fJ [(188,_),(181,_)] 36 [some 35,some 28] fun G a w S=>?_
   exact sSk S d d d d d d fun a S=>leafL ⟨d,S⟩
  ·refine fJ [(189,_),(181,_)] 37 [some 36,some 28] fun G a w S=>?_
   exact sSk S d d d d d d fun a S=>leafL ⟨d,S⟩
  ·refine fJ [(190,_),(181,_)] 38 [some 37,some 28] fun G a w S=>?_
   exact sSk S d d d d d d fun a S=>leafL ⟨d,S⟩
  ·refine fJ [(183,_),(187,_),(191,_),(181,_)] 39 [some 30,some 34,some 38,some 28] fun G a w S=>?_
   exact sSk S d d d d d d fun a S=>leafL ⟨d,S⟩
  ·refine fJ [(192,_),(181,_)] 40 [some 39,some 28] fun G a w S=>?_
   exact sSk S d d d d d d fun a S=>leafL ⟨d,S⟩
  ·refine fJ [(181,_),(193,_)] 41 [some 28,some 40] fun G a w S=>?_
   exact sPickT (.bool true) S (wN d) d d d d d (lb d) fun a S=>leafL ⟨d,S⟩
  ·exact fM 42 (some 41) d d d d (.inl d) d d d
  ·refine fJ [(14,_),(195,_)] 43 [none,some 42] fun G a w S=>?_
   exact sSk S d d d d d d fun a S=>leafL ⟨d,S⟩
  ·refine fJ [(196,_),(195,_)] 44 [some 43,some 42] fun G a w S=>?_
   exact sSk S d d d d d d fun a S=>leafL ⟨d,S⟩
  ·refine fJ [(12,_),(195,_)] 45 [none,some 42] fun G a w S=>?_
   exact sSk S d d d d d d fun a S=>leafL ⟨d,S⟩
  ·refine fJ [(198,_),(195,_)] 46 [some 45,some 42] fun G a w S=>?_
   exact sSk S d d d d d d fun a S=>leafL ⟨d,S⟩
  ·refine fJ [(199,_),(195,_)] 47 [some 46,some 42] fun G a w S=>?_
   exact sSk S d d d d d d fun a S=>leafL ⟨d,S⟩
  ·refine fJ [(200,_),(195,_)] 48 [some 47,some 42] fun G a w S=>?_
   exact sSk S d d d d d d fun a S=>leafL ⟨d,S⟩
  ·refine fJ [(12,_),(195,_)] 49 [none,some 42] fun G a w S=>?_
   exact sSk S d d d d d d fun a S=>leafL ⟨d,S⟩
  ·refine fJ [(202,_),(195,_)] 50 [some 49,some 42] fun G a w S=>?_
   exact sSk S d d d d d d fun a S=>leafL ⟨d,S⟩
  ·refine fJ [(203,_),(195,_)] 51 [some 50,some 42] fun G a w S=>?_
   exact sSk S d d d d d d fun a S=>leafL ⟨d,S⟩
  ·refine fJ [(204,_),(195,_)] 52 [some 51,some 42] fun G a w S=>?_
   exact sSk S d d d d d d fun a S=>leafL ⟨d,S⟩
  ·refine fJ [(197,_),(201,_),(205,_),(195,_)] 53 [some 44,some 48,some 52,some 42] fun G a w S=>?_
   exact sSk S d d d d d d fun a S=>leafL ⟨d,S⟩
  ·refine fJ [(206,_),(195,_)] 54 [some 53,some 42] fun G a w S=>?_
   exact sSk S d d d d d d fun a S=>leafL ⟨d,S⟩
  ·refine fJ [(195,_),(207,_)] 55 [some 42,some 54] fun G a w S=>?_
   exact sPickT (.bool true) S (wN d) d d d d d (lb d) fun a S=>leafL ⟨d,S⟩
  exact leafT (⟨true,Option.some.inj h,S.fix [0,2] [8,9] (by decide) d d d⟩)
 obtain ⟨aj,bg,h⟩:=bS h
 obtain ⟨ak,bh,h⟩:=bS h
 rcases iS h with ⟨ab,h⟩ | ⟨ab,h⟩
 ·obtain ⟨bB,cg,S⟩:=pIdx (P:=Try.prog) (r:=(rI .i64)) (v:=.slice af aa.1.Right.length ag) (xs:=aa.1.Right) (j:=0) 34 3 3 S Try.underlying34 d d bo
  obtain ⟨ci,S⟩:=pLoad (r:=(rI .i64)) (q:=bB) (x:=ax) 0 S d
  obtain rfl:ci=iv ax:=S.mem.know (i:=1) (e:=fRep (rI .i64) (ci) ax) d
  obtain ⟨bC,cj,S⟩:=pIdx (P:=Try.prog) (r:=(rI .i64)) (v:=.slice ac aa.1.Left.length ae) (xs:=aa.1.Left) (j:=0) 34 3 5 S Try.underlying34 d d aU
  obtain ⟨ck,S⟩:=pLoad (r:=(rI .i64)) (q:=bC) (x:=ay) 0 S d
  obtain rfl:ck=iv ay:=S.mem.know (i:=1) (e:=fRep (rI .i64) (ck) ay) d
  obtain ⟨bD,cl,S⟩:=pIdx (P:=Try.prog) (r:=(rI .i64)) (v:=.slice af aa.1.Right.length ag) (xs:=aa.1.Right) (j:=av.1) 34 3 9 S Try.underlying34 d d bg
  obtain ⟨cm,S⟩:=pLoad (r:=(rI .i64)) (q:=bD) (x:=aj) 0 S d
  obtain rfl:cm=iv aj:=S.mem.know (i:=1) (e:=fRep (rI .i64) (cm) aj) d
  obtain ⟨bE,cn,S⟩:=pIdx (P:=Try.prog) (r:=(rI .i64)) (v:=.slice ac aa.1.Left.length ae) (xs:=aa.1.Left) (j:=av.1) 34 3 11 S Try.underlying34 d d bh
  obtain ⟨co,S⟩:=pLoad (r:=(rI .i64)) (q:=bE) (x:=ak) 0 S d
  obtain rfl:co=iv ak:=S.mem.know (i:=1) (e:=fRep (rI .i64) (co) ak) d
  refine sDraw (nf:=[]) (W:=[(0,153,.pointer (some ⟨au,1,none⟩)),(1,154,.slice af aa.1.Right.length ag),(2,155,bB),(3,156,iv ax),(4,157,.pointer (some ⟨au,0,none⟩)),(5,158,.slice ac aa.1.Left.length ae),(6,159,bC),(7,160,iv ay),(8,161,iv (w64 (ax - ay))),(9,162,iv az.1),(10,163,iv (w64 (2 * az.1))),(11,164,.bool ((w64 (ax - ay)) != (w64 (2 * az.1)))),(12,165,.bool ((w64 (ax - ay)) != (w64 (2 * az.1)))),(13,166,.pointer (some ⟨au,1,none⟩)),(14,167,.slice af aa.1.Right.length ag),(15,168,iv av.1),(16,169,bD),(17,170,iv aj),(18,171,.pointer (some ⟨au,0,none⟩)),(19,172,.slice ac aa.1.Left.length ae),(20,173,iv av.1),(21,174,bE),(22,175,iv ak),(23,176,iv (w64 (aj - ak))),(24,177,iv aw.1),(25,178,iv (w64 (2 * aw.1))),(26,179,.bool ((w64 (aj - ak)) != (w64 (2 * aw.1)))),(27,180,.bool ((w64 (aj - ak)) != (w64 (2 * aw.1)))),(28,181,.bool ((w64 (aj - ak)) != (w64 (2 * aw.1)))),(29,182,undef),(30,183,undef),(31,184,undef),(32,185,undef),(33,186,undef),(34,187,undef),(35,188,undef),(36,189,undef),(37,190,undef),(38,191,undef),(39,192,undef),(40,193,undef),(41,194,.bool true),(42,195,.bool true),(43,196,undef),(44,197,undef),(45,198,undef),(46,199,undef),(47,200,undef),(48,201,undef),(49,202,undef),(50,203,undef),(51,204,undef),(52,205,undef),(53,206,undef),(54,207,undef),(55,208,.bool true)]) d S ?_
  refine node_by (A:=anc_raddletop_TopShape_0) 56 (by kernel_rfl) (by kernel_rfl) (by kernel_rfl) (by kernel_rfl) (by kernel_rfl) [0,1,2,3,4,5,6,7,8,9,10,11,12,13,14,15,16,17,18,19,20,21,22,23,24,25,26,27,28,29,30,31,32,33,34,35,36,37,38,39,40,41,42,43,44,45,46,47,48,49,50,51,52,53,54,55] (by kernel_rfl) (by decide) (by decide) (fF ?_ (fF ?_ (fF ?_ (fF ?_ (fF ?_ (fF ?_ (fF ?_ (fF ?_ (fF ?_ (fF ?_ (fF ?_ (fF ?_ (fF ?_ (fF ?_ (fF ?_ (fF ?_ (fF ?_ (fF ?_ (fF ?_ (fF ?_ (fF ?_ (fF ?_ (fF ?_ (fF ?_ (fF ?_ (fF ?_ (fF ?_ (fF ?_ (fF ?_ (fF ?_ (fF ?_ (fF ?_ (fF ?_ (fF ?_ (fF ?_ (fF ?_ (fF ?_ (fF ?_ (fF ?_ (fF ?_ (fF ?_ (fF ?_ (fF ?_ (fF ?_ (fF ?_ (fF ?_ (fF ?_ (fF ?_ (fF ?_ (fF ?_ (fF ?_ (fF ?_ (fF ?_ (fF ?_ (fF ?_ (fF ?_ (trivial))))))))))))))))))))))))))))))))))))))))))))))))))))))))) [(4,iv p4),(5,.pointer (some ⟨b2,0,none⟩)),(11,.bool r4),(14,.pointer (some ⟨au,0,none⟩)),(20,iv av.1),(208,.bool true)] (fin_of [none,none,none,none,none,some 55] d (by kernel_rfl) (by kernel_rfl)) (fun _ a w S=>?_)
  ·refine fJ [(14,_)] 0 [none] fun G a w S=>?_
   exact sField (b:=au) (off:=0) 1 1 S (wN d) d d d d d (lb d) fun a S=>leafL ⟨d,S⟩
  ·refine fJ [(153,_)] 1 [some 0] fun G a w S=>?_
   exact sLoad1 2 (.slice af aa.1.Right.length ag) S (wN d) d d d d d d (lb d) fun a S=>leafL ⟨d,S⟩
  ·refine fJ [(154,_)] 2 [some 1] fun G a w S=>?_
   exact sIdxV S (wN d) d d d cg d (lb d) fun a S=>leafL ⟨d,S⟩
  ·refine fJ [(155,_)] 3 [some 2] fun G a w S=>?_
   exact sLoadV1 (vq:=bB) 9 (iv ax) S (wN d) d d d d d (lb d) fun a S=>leafL ⟨d,S⟩
  ·refine fJ [(14,_)] 4 [none] fun G a w S=>?_
   exact sField (b:=au) (off:=0) 0 0 S (wN d) d d d d d (lb d) fun a S=>leafL ⟨d,S⟩
  ·refine fJ [(157,_)] 5 [some 4] fun G a w S=>?_
   exact sLoad1 2 (.slice ac aa.1.Left.length ae) S (wN d) d d d d d d (lb d) fun a S=>leafL ⟨d,S⟩
  ·refine fJ [(158,_)] 6 [some 5] fun G a w S=>?_
   exact sIdxV S (wN d) d d d cj d (lb d) fun a S=>leafL ⟨d,S⟩
  ·refine fJ [(159,_)] 7 [some 6] fun G a w S=>?_
   exact sLoadV1 (vq:=bC) 6 (iv ay) S (wN d) d d d d d (lb d) fun a S=>leafL ⟨d,S⟩
  ·refine fJ [(156,_),(160,_)] 8 [some 3,some 7] fun G a w S=>?_
   exact sBin _ S (wN d) d d d (bSub _ _ _ _ ax ay) d (lb d) fun a S=>leafL ⟨d,S⟩
  ·exact fM 9 none d d d d (.inl d) d d d
  ·refine fJ [(162,_)] 10 [some 9] fun G a w S=>?_
   exact sBin _ S (wN d) d d d (bMul _ _ _ _ 2 az.1) d (lb d) fun a S=>leafL ⟨d,S⟩
  ·refine fJ [(161,_),(163,_)] 11 [some 8,some 10] fun G a w S=>?_
   exact sBin _ S (wN d) d d d (bNe _ _ _ _ .i64 (w64 (ax - ay)) (w64 (2 * az.1))) d (lb d) fun a S=>leafL ⟨d,S⟩
  ·exact fM 12 (some 11) d d d d (.inl d) d d d
  ·refine fJ [(14,_),(165,_)] 13 [none,some 12] fun G a w S=>?_
   exact sField (b:=au) (off:=0) 1 1 S (wG 12 false 165 d d d a9) d d d d d (lb d) fun a S=>leafL ⟨d,S⟩
  ·refine fJ [(166,_),(165,_)] 14 [some 13,some 12] fun G a w S=>?_
   exact sLoad1 2 (.slice af aa.1.Right.length ag) S (wG 12 false 165 d d d a9) d d d d d d (lb d) fun a S=>leafL ⟨d,S⟩
  ·refine fJ [(20,_),(165,_)] 15 [none,some 12] fun G a w S=>?_
   exact sMove (iv av.1) S (wG 12 false 165 d d d a9) (.inl d) d d (lb d) fun a S=>leafL ⟨d,S⟩
  ·refine fJ [(167,_),(168,_),(165,_)] 16 [some 14,some 15,some 12] fun G a w S=>?_
   exact sIdxV S (wG 12 false 165 d d d a9) d d d cl d (lb d) fun a S=>leafL ⟨d,S⟩
  ·refine fJ [(169,_),(165,_)] 17 [some 16,some 12] fun G a w S=>?_
   exact sLoadV1 (vq:=bD) 3 (iv aj) S (wG 12 false 165 d d d a9) d d d d d (lb d) fun a S=>leafL ⟨d,S⟩
  ·refine fJ [(14,_),(165,_)] 18 [none,some 12] fun G a w S=>?_
   exact sField (b:=au) (off:=0) 0 0 S (wG 12 false 165 d d d a9) d d d d d (lb d) fun a S=>leafL ⟨d,S⟩
  ·refine fJ [(171,_),(165,_)] 19 [some 18,some 12] fun G a w S=>?_
   exact sLoad1 2 (.slice ac aa.1.Left.length ae) S (wG 12 false 165 d d d a9) d d d d d d (lb d) fun a S=>leafL ⟨d,S⟩
  ·refine fJ [(20,_),(165,_)] 20 [none,some 12] fun G a w S=>?_
   exact sMove (iv av.1) S (wG 12 false 165 d d d a9) (.inl d) d d (lb d) fun a S=>leafL ⟨d,S⟩
  ·refine fJ [(172,_),(173,_),(165,_)] 21 [some 19,some 20,some 12] fun G a w S=>?_
   exact sIdxV S (wG 12 false 165 d d d a9) d d d cn d (lb d) fun a S=>leafL ⟨d,S⟩
  ·refine fJ [(174,_),(165,_)] 22 [some 21,some 12] fun G a w S=>?_
   exact sLoadV1 (vq:=bE) 0 (iv ak) S (wG 12 false 165 d d d a9) d d d d d (lb d) fun a S=>leafL ⟨d,S⟩
  ·refine fJ [(170,_),(175,_),(165,_)] 23 [some 17,some 22,some 12] fun G a w S=>?_
   exact sBin _ S (wG 12 false 165 d d d a9) d d d (bSub _ _ _ _ aj ak) d (lb d) fun a S=>leafL ⟨d,S⟩
  ·refine fJ [(18,_),(165,_)] 24 [none,some 12] fun G a w S=>?_
   exact sMove (iv aw.1) S (wG 12 false 165 d d d a9) (.inl d) d d (lb d) fun a S=>leafL ⟨d,S⟩
  ·refine fJ [(177,_),(165,_)] 25 [some 24,some 12] fun G a w S=>?_
   exact sBin _ S (wG 12 false 165 d d d a9) d d d (bMul _ _ _ _ 2 aw.1) d (lb d) fun a S=>leafL ⟨d,S⟩
  ·refine fJ [(176,_),(178,_),(165,_)] 26 [some 23,some 25,some 12] fun G a w S=>?_
   exact sBin _ S (wG 12 false 165 d d d a9) d d d (bNe _ _ _ _ .i64 (w64 (aj - ak)) (w64 (2 * aw.1))) d (lb d) fun a S=>leafL ⟨d,S⟩
  ·refine fJ [(165,_),(179,_)] 27 [some 12,some 26] fun G a w S=>?_
   exact sPickF (.bool ((w64 (aj - ak)) != (w64 (2 * aw.1)))) S (wN d) d d a9 d d (lb d) fun a S=>leafL ⟨d,S⟩
  ·exact fM 28 (some 27) d d d d (.inl d) d d d
  ·refine fJ [(14,_),(181,_)] 29 [none,some 28] fun G a w S=>?_
   exact sSk S d d d ab d d fun a S=>leafL ⟨d,S⟩
  ·refine fJ [(182,_),(181,_)] 30 [some 29,some 28] fun G a w S=>?_
   exact sSk S d d d ab d d fun a S=>leafL ⟨d,S⟩
  ·refine fJ [(12,_),(181,_)] 31 [none,some 28] fun G a w S=>?_
   exact sSk S d d d ab d d fun a S=>leafL ⟨d,S⟩
  ·refine fJ [(184,_),(181,_)] 32 [some 31,some 28] fun G a w S=>?_
   exact sSk S d d d ab d d fun a S=>leafL ⟨d,S⟩
  ·refine fJ [(185,_),(181,_)] 33 [some 32,some 28] fun G a w S=>?_
   exact sSk S d d d ab d d fun a S=>leafL ⟨d,S⟩
  ·refine fJ [(186,_),(181,_)] 34 [some 33,some 28] fun G a w S=>?_
   exact sSk S d d d ab d d fun a S=>leafL ⟨d,S⟩
  ·refine fJ [(12,_),(181,_)] 35 [none,some 28] fun G a w S=>?_
   exact sSk S d d d ab d d fun a S=>leafL ⟨d,S⟩
  ·refine fJ [(188,_),(181,_)] 36 [some 35,some 28] fun G a w S=>?_
   exact sSk S d d d ab d d fun a S=>leafL ⟨d,S⟩
  ·refine fJ [(189,_),(181,_)] 37 [some 36,some 28] fun G a w S=>?_
   exact sSk S d d d ab d d fun a S=>leafL ⟨d,S⟩
  ·refine fJ [(190,_),(181,_)] 38 [some 37,some 28] fun G a w S=>?_
   exact sSk S d d d ab d d fun a S=>leafL ⟨d,S⟩
  ·refine fJ [(183,_),(187,_),(191,_),(181,_)] 39 [some 30,some 34,some 38,some 28] fun G a w S=>?_
   exact sSk S d d d ab d d fun a S=>leafL ⟨d,S⟩
  ·refine fJ [(192,_),(181,_)] 40 [some 39,some 28] fun G a w S=>?_
   exact sSk S d d d ab d d fun a S=>leafL ⟨d,S⟩
  ·refine fJ [(181,_),(193,_)] 41 [some 28,some 40] fun G a w S=>?_
   exact sPickT (.bool true) S (wN d) d d ab d d (lb d) fun a S=>leafL ⟨d,S⟩
  ·exact fM 42 (some 41) d d d d (.inl d) d d d
  ·refine fJ [(14,_),(195,_)] 43 [none,some 42] fun G a w S=>?_
   exact sSk S d d d d d d fun a S=>leafL ⟨d,S⟩
  ·refine fJ [(196,_),(195,_)] 44 [some 43,some 42] fun G a w S=>?_
   exact sSk S d d d d d d fun a S=>leafL ⟨d,S⟩
  ·refine fJ [(12,_),(195,_)] 45 [none,some 42] fun G a w S=>?_
   exact sSk S d d d d d d fun a S=>leafL ⟨d,S⟩
  ·refine fJ [(198,_),(195,_)] 46 [some 45,some 42] fun G a w S=>?_
   exact sSk S d d d d d d fun a S=>leafL ⟨d,S⟩
  ·refine fJ [(199,_),(195,_)] 47 [some 46,some 42] fun G a w S=>?_
   exact sSk S d d d d d d fun a S=>leafL ⟨d,S⟩
  ·refine fJ [(200,_),(195,_)] 48 [some 47,some 42] fun G a w S=>?_
   exact sSk S d d d d d d fun a S=>leafL ⟨d,S⟩
  ·refine fJ [(12,_),(195,_)] 49 [none,some 42] fun G a w S=>?_
   exact sSk S d d d d d d fun a S=>leafL ⟨d,S⟩
  ·refine fJ [(202,_),(195,_)] 50 [some 49,some 42] fun G a w S=>?_
   exact sSk S d d d d d d fun a S=>leafL ⟨d,S⟩
  ·refine fJ [(203,_),(195,_)] 51 [some 50,some 42] fun G a w S=>?_
   exact sSk S d d d d d d fun a S=>leafL ⟨d,S⟩
  ·refine fJ [(204,_),(195,_)] 52 [some 51,some 42] fun G a w S=>?_
   exact sSk S d d d d d d fun a S=>leafL ⟨d,S⟩
  ·refine fJ [(197,_),(201,_),(205,_),(195,_)] 53 [some 44,some 48,some 52,some 42] fun G a w S=>?_
   exact sSk S d d d d d d fun a S=>leafL ⟨d,S⟩
  ·refine fJ [(206,_),(195,_)] 54 [some 53,some 42] fun G a w S=>?_
   exact sSk S d d d d d d fun a S=>leafL ⟨d,S⟩
  ·refine fJ [(195,_),(207,_)] 55 [some 42,some 54] fun G a w S=>?_
   exact sPickT (.bool true) S (wN d) d d d d d (lb d) fun a S=>leafL ⟨d,S⟩
  exact leafT (⟨true,Option.some.inj h,S.fix [0,2] [14,15] (by decide) d d d⟩)
 obtain ⟨ao,bp,h⟩:=bS h
 obtain ⟨ap,bq,h⟩:=bS h
 obtain ⟨aA,br,h⟩:=bS h
 rcases iS h with ⟨ai,h⟩ | ⟨ai,h⟩
 ·obtain ⟨bG,cp,S⟩:=pIdx (P:=Try.prog) (r:=(rI .i64)) (v:=.slice af aa.1.Right.length ag) (xs:=aa.1.Right) (j:=0) 34 3 3 S Try.underlying34 d d bo
  obtain ⟨cq,S⟩:=pLoad (r:=(rI .i64)) (q:=bG) (x:=ax) 0 S d
  obtain rfl:cq=iv ax:=S.mem.know (i:=1) (e:=fRep (rI .i64) (cq) ax) d
  obtain ⟨bH,cr,S⟩:=pIdx (P:=Try.prog) (r:=(rI .i64)) (v:=.slice ac aa.1.Left.length ae) (xs:=aa.1.Left) (j:=0) 34 3 5 S Try.underlying34 d d aU
  obtain ⟨ct,S⟩:=pLoad (r:=(rI .i64)) (q:=bH) (x:=ay) 0 S d
  obtain rfl:ct=iv ay:=S.mem.know (i:=1) (e:=fRep (rI .i64) (ct) ay) d
  obtain ⟨bI,cu,S⟩:=pIdx (P:=Try.prog) (r:=(rI .i64)) (v:=.slice af aa.1.Right.length ag) (xs:=aa.1.Right) (j:=av.1) 34 3 9 S Try.underlying34 d d bg
  obtain ⟨cv,S⟩:=pLoad (r:=(rI .i64)) (q:=bI) (x:=aj) 0 S d
  obtain rfl:cv=iv aj:=S.mem.know (i:=1) (e:=fRep (rI .i64) (cv) aj) d
  obtain ⟨bJ,cw,S⟩:=pIdx (P:=Try.prog) (r:=(rI .i64)) (v:=.slice ac aa.1.Left.length ae) (xs:=aa.1.Left) (j:=av.1) 34 3 11 S Try.underlying34 d d bh
  obtain ⟨cx,S⟩:=pLoad (r:=(rI .i64)) (q:=bJ) (x:=ak) 0 S d
  obtain rfl:cx=iv ak:=S.mem.know (i:=1) (e:=fRep (rI .i64) (cx) ak) d
  obtain ⟨bK,cy,S⟩:=pIdx (P:=Try.prog) (r:=r_api_Point) (v:=.slice al ah.1.Left.length am) (xs:=ah.1.Left) (j:=0) 26 33 12 S Try.underlying26 d d bp
  obtain ⟨cz,S⟩:=pLoad (r:=r_api_Point) (q:=bK) (x:=ao) 0 S d
  obtain rfl:cz=.agg #[iv ao.X,iv ao.Y]:=S.mem.know (i:=1) (e:=fRep r_api_Point (cz) ao) d
  obtain ⟨bL,cA,S⟩:=pIdx (P:=Try.prog) (r:=r_api_Point) (v:=.slice al ah.1.Left.length am) (xs:=ah.1.Left) (j:=1) 26 33 15 S Try.underlying26 d d bq
  obtain ⟨cB,S⟩:=pLoad (r:=r_api_Point) (q:=bL) (x:=ap) 0 S d
  obtain rfl:cB=.agg #[iv ap.X,iv ap.Y]:=S.mem.know (i:=1) (e:=fRep r_api_Point (cB) ap) d
  refine sDraw (nf:=[]) (W:=[(0,153,.pointer (some ⟨au,1,none⟩)),(1,154,.slice af aa.1.Right.length ag),(2,155,bG),(3,156,iv ax),(4,157,.pointer (some ⟨au,0,none⟩)),(5,158,.slice ac aa.1.Left.length ae),(6,159,bH),(7,160,iv ay),(8,161,iv (w64 (ax - ay))),(9,162,iv az.1),(10,163,iv (w64 (2 * az.1))),(11,164,.bool ((w64 (ax - ay)) != (w64 (2 * az.1)))),(12,165,.bool ((w64 (ax - ay)) != (w64 (2 * az.1)))),(13,166,.pointer (some ⟨au,1,none⟩)),(14,167,.slice af aa.1.Right.length ag),(15,168,iv av.1),(16,169,bI),(17,170,iv aj),(18,171,.pointer (some ⟨au,0,none⟩)),(19,172,.slice ac aa.1.Left.length ae),(20,173,iv av.1),(21,174,bJ),(22,175,iv ak),(23,176,iv (w64 (aj - ak))),(24,177,iv aw.1),(25,178,iv (w64 (2 * aw.1))),(26,179,.bool ((w64 (aj - ak)) != (w64 (2 * aw.1)))),(27,180,.bool ((w64 (aj - ak)) != (w64 (2 * aw.1)))),(28,181,.bool ((w64 (aj - ak)) != (w64 (2 * aw.1)))),(29,182,.pointer (some ⟨au,0,none⟩)),(30,183,.slice ac aa.1.Left.length ae),(31,184,.pointer (some ⟨aL,0,none⟩)),(32,185,.slice al ah.1.Left.length am),(33,186,bK),(34,187,.agg #[iv ao.X,iv ao.Y]),(35,188,.pointer (some ⟨aL,0,none⟩)),(36,189,.slice al ah.1.Left.length am),(37,190,bL),(38,191,.agg #[iv ap.X,iv ap.Y]),(39,192,.bool aA),(40,193,.bool (!aA)),(41,194,.bool (!aA)),(42,195,.bool (!aA)),(43,196,undef),(44,197,undef),(45,198,undef),(46,199,undef),(47,200,undef),(48,201,undef),(49,202,undef),(50,203,undef),(51,204,undef),(52,205,undef),(53,206,undef),(54,207,undef),(55,208,.bool true)]) d S ?_
  refine node_by (A:=anc_raddletop_TopShape_0) 56 (by kernel_rfl) (by kernel_rfl) (by kernel_rfl) (by kernel_rfl) (by kernel_rfl) [0,1,2,3,4,5,6,7,8,9,10,11,12,13,14,15,16,17,18,19,20,21,22,23,24,25,26,27,28,29,30,31,32,33,34,35,36,37,38,39,40,41,42,43,44,45,46,47,48,49,50,51,52,53,54,55] (by kernel_rfl) (by decide) (by decide) (fF ?_ (fF ?_ (fF ?_ (fF ?_ (fF ?_ (fF ?_ (fF ?_ (fF ?_ (fF ?_ (fF ?_ (fF ?_ (fF ?_ (fF ?_ (fF ?_ (fF ?_ (fF ?_ (fF ?_ (fF ?_ (fF ?_ (fF ?_ (fF ?_ (fF ?_ (fF ?_ (fF ?_ (fF ?_ (fF ?_ (fF ?_ (fF ?_ (fF ?_ (fF ?_ (fF ?_ (fF ?_ (fF ?_ (fF ?_ (fF ?_ (fF ?_ (fF ?_ (fF ?_ (fF ?_ (fF ?_ (fF ?_ (fF ?_ (fF ?_ (fF ?_ (fF ?_ (fF ?_ (fF ?_ (fF ?_ (fF ?_ (fF ?_ (fF ?_ (fF ?_ (fF ?_ (fF ?_ (fF ?_ (fF ?_ (trivial))))))))))))))))))))))))))))))))))))))))))))))))))))))))) [(4,iv p4),(5,.pointer (some ⟨b2,0,none⟩)),(11,.bool r4),(14,.pointer (some ⟨au,0,none⟩)),(20,iv av.1),(208,.bool true)] (fin_of [none,none,none,none,none,some 55] d (by kernel_rfl) (by kernel_rfl)) (fun _ a w S=>?_)
  ·refine fJ [(14,_)] 0 [none] fun G a w S=>?_
   exact sField (b:=au) (off:=0) 1 1 S (wN d) d d d d d (lb d) fun a S=>leafL ⟨d,S⟩
  ·refine fJ [(153,_)] 1 [some 0] fun G a w S=>?_
   exact sLoad1 2 (.slice af aa.1.Right.length ag) S (wN d) d d d d d d (lb d) fun a S=>leafL ⟨d,S⟩
  ·refine fJ [(154,_)] 2 [some 1] fun G a w S=>?_
   exact sIdxV S (wN d) d d d cp d (lb d) fun a S=>leafL ⟨d,S⟩
  ·refine fJ [(155,_)] 3 [some 2] fun G a w S=>?_
   exact sLoadV1 (vq:=bG) 15 (iv ax) S (wN d) d d d d d (lb d) fun a S=>leafL ⟨d,S⟩
  ·refine fJ [(14,_)] 4 [none] fun G a w S=>?_
   exact sField (b:=au) (off:=0) 0 0 S (wN d) d d d d d (lb d) fun a S=>leafL ⟨d,S⟩
  ·refine fJ [(157,_)] 5 [some 4] fun G a w S=>?_
   exact sLoad1 2 (.slice ac aa.1.Left.length ae) S (wN d) d d d d d d (lb d) fun a S=>leafL ⟨d,S⟩
  ·refine fJ [(158,_)] 6 [some 5] fun G a w S=>?_
   exact sIdxV S (wN d) d d d cr d (lb d) fun a S=>leafL ⟨d,S⟩
  ·refine fJ [(159,_)] 7 [some 6] fun G a w S=>?_
   exact sLoadV1 (vq:=bH) 12 (iv ay) S (wN d) d d d d d (lb d) fun a S=>leafL ⟨d,S⟩
  ·refine fJ [(156,_),(160,_)] 8 [some 3,some 7] fun G a w S=>?_
   exact sBin _ S (wN d) d d d (bSub _ _ _ _ ax ay) d (lb d) fun a S=>leafL ⟨d,S⟩
  ·exact fM 9 none d d d d (.inl d) d d d
  ·refine fJ [(162,_)] 10 [some 9] fun G a w S=>?_
   exact sBin _ S (wN d) d d d (bMul _ _ _ _ 2 az.1) d (lb d) fun a S=>leafL ⟨d,S⟩
  ·refine fJ [(161,_),(163,_)] 11 [some 8,some 10] fun G a w S=>?_
   exact sBin _ S (wN d) d d d (bNe _ _ _ _ .i64 (w64 (ax - ay)) (w64 (2 * az.1))) d (lb d) fun a S=>leafL ⟨d,S⟩
  ·exact fM 12 (some 11) d d d d (.inl d) d d d
  ·refine fJ [(14,_),(165,_)] 13 [none,some 12] fun G a w S=>?_
   exact sField (b:=au) (off:=0) 1 1 S (wG 12 false 165 d d d a9) d d d d d (lb d) fun a S=>leafL ⟨d,S⟩
  ·refine fJ [(166,_),(165,_)] 14 [some 13,some 12] fun G a w S=>?_
   exact sLoad1 2 (.slice af aa.1.Right.length ag) S (wG 12 false 165 d d d a9) d d d d d d (lb d) fun a S=>leafL ⟨d,S⟩
  ·refine fJ [(20,_),(165,_)] 15 [none,some 12] fun G a w S=>?_
   exact sMove (iv av.1) S (wG 12 false 165 d d d a9) (.inl d) d d (lb d) fun a S=>leafL ⟨d,S⟩
  ·refine fJ [(167,_),(168,_),(165,_)] 16 [some 14,some 15,some 12] fun G a w S=>?_
   exact sIdxV S (wG 12 false 165 d d d a9) d d d cu d (lb d) fun a S=>leafL ⟨d,S⟩
  ·refine fJ [(169,_),(165,_)] 17 [some 16,some 12] fun G a w S=>?_
   exact sLoadV1 (vq:=bI) 9 (iv aj) S (wG 12 false 165 d d d a9) d d d d d (lb d) fun a S=>leafL ⟨d,S⟩
  ·refine fJ [(14,_),(165,_)] 18 [none,some 12] fun G a w S=>?_
   exact sField (b:=au) (off:=0) 0 0 S (wG 12 false 165 d d d a9) d d d d d (lb d) fun a S=>leafL ⟨d,S⟩
  ·refine fJ [(171,_),(165,_)] 19 [some 18,some 12] fun G a w S=>?_
   exact sLoad1 2 (.slice ac aa.1.Left.length ae) S (wG 12 false 165 d d d a9) d d d d d d (lb d) fun a S=>leafL ⟨d,S⟩
  ·refine fJ [(20,_),(165,_)] 20 [none,some 12] fun G a w S=>?_
   exact sMove (iv av.1) S (wG 12 false 165 d d d a9) (.inl d) d d (lb d) fun a S=>leafL ⟨d,S⟩
  ·refine fJ [(172,_),(173,_),(165,_)] 21 [some 19,some 20,some 12] fun G a w S=>?_
   exact sIdxV S (wG 12 false 165 d d d a9) d d d cw d (lb d) fun a S=>leafL ⟨d,S⟩
  ·refine fJ [(174,_),(165,_)] 22 [some 21,some 12] fun G a w S=>?_
   exact sLoadV1 (vq:=bJ) 6 (iv ak) S (wG 12 false 165 d d d a9) d d d d d (lb d) fun a S=>leafL ⟨d,S⟩
  ·refine fJ [(170,_),(175,_),(165,_)] 23 [some 17,some 22,some 12] fun G a w S=>?_
   exact sBin _ S (wG 12 false 165 d d d a9) d d d (bSub _ _ _ _ aj ak) d (lb d) fun a S=>leafL ⟨d,S⟩
  ·refine fJ [(18,_),(165,_)] 24 [none,some 12] fun G a w S=>?_
   exact sMove (iv aw.1) S (wG 12 false 165 d d d a9) (.inl d) d d (lb d) fun a S=>leafL ⟨d,S⟩
  ·refine fJ [(177,_),(165,_)] 25 [some 24,some 12] fun G a w S=>?_
   exact sBin _ S (wG 12 false 165 d d d a9) d d d (bMul _ _ _ _ 2 aw.1) d (lb d) fun a S=>leafL ⟨d,S⟩
  ·refine fJ [(176,_),(178,_),(165,_)] 26 [some 23,some 25,some 12] fun G a w S=>?_
   exact sBin _ S (wG 12 false 165 d d d a9) d d d (bNe _ _ _ _ .i64 (w64 (aj - ak)) (w64 (2 * aw.1))) d (lb d) fun a S=>leafL ⟨d,S⟩
  ·refine fJ [(165,_),(179,_)] 27 [some 12,some 26] fun G a w S=>?_
   exact sPickF (.bool ((w64 (aj - ak)) != (w64 (2 * aw.1)))) S (wN d) d d a9 d d (lb d) fun a S=>leafL ⟨d,S⟩
  ·exact fM 28 (some 27) d d d d (.inl d) d d d
  ·refine fJ [(14,_),(181,_)] 29 [none,some 28] fun G a w S=>?_
   exact sField (b:=au) (off:=0) 0 0 S (wG 28 false 181 d d d ab) d d d d d (lb d) fun a S=>leafL ⟨d,S⟩
  ·refine fJ [(182,_),(181,_)] 30 [some 29,some 28] fun G a w S=>?_
   exact sLoad1 2 (.slice ac aa.1.Left.length ae) S (wG 28 false 181 d d d ab) d d d d d d (lb d) fun a S=>leafL ⟨d,S⟩
  ·refine fJ [(12,_),(181,_)] 31 [none,some 28] fun G a w S=>?_
   exact sField (b:=aL) (off:=0) 0 0 S (wG 28 false 181 d d d ab) d d d d d (lb d) fun a S=>leafL ⟨d,S⟩
  ·refine fJ [(184,_),(181,_)] 32 [some 31,some 28] fun G a w S=>?_
   exact sLoad1 1 (.slice al ah.1.Left.length am) S (wG 28 false 181 d d d ab) d d d d d d (lb d) fun a S=>leafL ⟨d,S⟩
  ·refine fJ [(185,_),(181,_)] 33 [some 32,some 28] fun G a w S=>?_
   exact sIdxV S (wG 28 false 181 d d d ab) d d d cy d (lb d) fun a S=>leafL ⟨d,S⟩
  ·refine fJ [(186,_),(181,_)] 34 [some 33,some 28] fun G a w S=>?_
   exact sLoadVN (vq:=bK) 3 [iv ao.X,iv ao.Y] S (wG 28 false 181 d d d ab) d d d d d d (lb d) fun a S=>leafL ⟨d,S⟩
  ·refine fJ [(12,_),(181,_)] 35 [none,some 28] fun G a w S=>?_
   exact sField (b:=aL) (off:=0) 0 0 S (wG 28 false 181 d d d ab) d d d d d (lb d) fun a S=>leafL ⟨d,S⟩
  ·refine fJ [(188,_),(181,_)] 36 [some 35,some 28] fun G a w S=>?_
   exact sLoad1 1 (.slice al ah.1.Left.length am) S (wG 28 false 181 d d d ab) d d d d d d (lb d) fun a S=>leafL ⟨d,S⟩
  ·refine fJ [(189,_),(181,_)] 37 [some 36,some 28] fun G a w S=>?_
   exact sIdxV S (wG 28 false 181 d d d ab) d d d cA d (lb d) fun a S=>leafL ⟨d,S⟩
  ·refine fJ [(190,_),(181,_)] 38 [some 37,some 28] fun G a w S=>?_
   exact sLoadVN (vq:=bL) 0 [iv ap.X,iv ap.Y] S (wG 28 false 181 d d d ab) d d d d d d (lb d) fun a S=>leafL ⟨d,S⟩
  ·refine fJ [(183,_),(187,_),(191,_),(181,_)] 39 [some 30,some 34,some 38,some 28] fun G a w S=>?_
   have S1:=S.mem
   refine sCallQ (X:=Unit) (f:=12) (vs:=[.slice ac aa.1.Left.length ae,.agg #[iv ao.X,iv ao.Y],.agg #[iv ap.X,iv ap.Y]]) (val:=fun _=>.bool aA) S (wG 28 false 181 d d d ab) d callee12 d (S1.quiet [20,4,1] d) (fun E1 w1 S1=>c_raddletop_edge39 E1 w1 aa.1.Left (.slice ac aa.1.Left.length ae) ao (.agg #[iv ao.X,iv ao.Y]) ap (.agg #[iv ap.X,iv ap.Y]) aA br S1) d (lb d) fun _ a w S=>?_
   exact leafL ⟨d,S⟩
  ·refine fJ [(192,_),(181,_)] 40 [some 39,some 28] fun G a w S=>?_
   exact sNot (b:=aA) S (wG 28 false 181 d d d ab) d d d (lb d) fun a S=>leafL ⟨d,S⟩
  ·refine fJ [(181,_),(193,_)] 41 [some 28,some 40] fun G a w S=>?_
   exact sPickF (.bool (!aA)) S (wN d) d d ab d d (lb d) fun a S=>leafL ⟨d,S⟩
  ·exact fM 42 (some 41) d d d d (.inl d) d d d
  ·refine fJ [(14,_),(195,_)] 43 [none,some 42] fun G a w S=>?_
   exact sSk S d d d ai d d fun a S=>leafL ⟨d,S⟩
  ·refine fJ [(196,_),(195,_)] 44 [some 43,some 42] fun G a w S=>?_
   exact sSk S d d d ai d d fun a S=>leafL ⟨d,S⟩
  ·refine fJ [(12,_),(195,_)] 45 [none,some 42] fun G a w S=>?_
   exact sSk S d d d ai d d fun a S=>leafL ⟨d,S⟩
  ·refine fJ [(198,_),(195,_)] 46 [some 45,some 42] fun G a w S=>?_
   exact sSk S d d d ai d d fun a S=>leafL ⟨d,S⟩
  ·refine fJ [(199,_),(195,_)] 47 [some 46,some 42] fun G a w S=>?_
   exact sSk S d d d ai d d fun a S=>leafL ⟨d,S⟩
  ·refine fJ [(200,_),(195,_)] 48 [some 47,some 42] fun G a w S=>?_
   exact sSk S d d d ai d d fun a S=>leafL ⟨d,S⟩
  ·refine fJ [(12,_),(195,_)] 49 [none,some 42] fun G a w S=>?_
   exact sSk S d d d ai d d fun a S=>leafL ⟨d,S⟩
  ·refine fJ [(202,_),(195,_)] 50 [some 49,some 42] fun G a w S=>?_
   exact sSk S d d d ai d d fun a S=>leafL ⟨d,S⟩
  ·refine fJ [(203,_),(195,_)] 51 [some 50,some 42] fun G a w S=>?_
   exact sSk S d d d ai d d fun a S=>leafL ⟨d,S⟩
  ·refine fJ [(204,_),(195,_)] 52 [some 51,some 42] fun G a w S=>?_
   exact sSk S d d d ai d d fun a S=>leafL ⟨d,S⟩
  ·refine fJ [(197,_),(201,_),(205,_),(195,_)] 53 [some 44,some 48,some 52,some 42] fun G a w S=>?_
   exact sSk S d d d ai d d fun a S=>leafL ⟨d,S⟩
  ·refine fJ [(206,_),(195,_)] 54 [some 53,some 42] fun G a w S=>?_
   exact sSk S d d d ai d d fun a S=>leafL ⟨d,S⟩
  ·refine fJ [(195,_),(207,_)] 55 [some 42,some 54] fun G a w S=>?_
   exact sPickT (.bool true) S (wN d) d d ai d d (lb d) fun a S=>leafL ⟨d,S⟩
  exact leafT (⟨true,Option.some.inj h,S.fix [0,2] [20,21] (by decide) d d d⟩)
 obtain ⟨aC,cC,h⟩:=bS h
 obtain ⟨aG,cD,h⟩:=bS h
 obtain ⟨aP,cE,h⟩:=bS h
 obtain ⟨bM,cF,S⟩:=pIdx (P:=Try.prog) (r:=(rI .i64)) (v:=.slice af aa.1.Right.length ag) (xs:=aa.1.Right) (j:=0) 34 3 3 S Try.underlying34 d d bo
 obtain ⟨cG,S⟩:=pLoad (r:=(rI .i64)) (q:=bM) (x:=ax) 0 S d
 obtain rfl:cG=iv ax:=S.mem.know (i:=1) (e:=fRep (rI .i64) (cG) ax) d
 obtain ⟨bN,cH,S⟩:=pIdx (P:=Try.prog) (r:=(rI .i64)) (v:=.slice ac aa.1.Left.length ae) (xs:=aa.1.Left) (j:=0) 34 3 5 S Try.underlying34 d d aU
 obtain ⟨cI,S⟩:=pLoad (r:=(rI .i64)) (q:=bN) (x:=ay) 0 S d
 obtain rfl:cI=iv ay:=S.mem.know (i:=1) (e:=fRep (rI .i64) (cI) ay) d
 obtain ⟨bO,cJ,S⟩:=pIdx (P:=Try.prog) (r:=(rI .i64)) (v:=.slice af aa.1.Right.length ag) (xs:=aa.1.Right) (j:=av.1) 34 3 9 S Try.underlying34 d d bg
 obtain ⟨cK,S⟩:=pLoad (r:=(rI .i64)) (q:=bO) (x:=aj) 0 S d
 obtain rfl:cK=iv aj:=S.mem.know (i:=1) (e:=fRep (rI .i64) (cK) aj) d
 obtain ⟨bP,cL,S⟩:=pIdx (P:=Try.prog) (r:=(rI .i64)) (v:=.slice ac aa.1.Left.length ae) (xs:=aa.1.Left) (j:=av.1) 34 3 11 S Try.underlying34 d d bh
 obtain ⟨cM,S⟩:=pLoad (r:=(rI .i64)) (q:=bP) (x:=ak) 0 S d
 obtain rfl:cM=iv ak:=S.mem.know (i:=1) (e:=fRep (rI .i64) (cM) ak) d
 obtain ⟨bQ,cN,S⟩:=pIdx (P:=Try.prog) (r:=r_api_Point) (v:=.slice al ah.1.Left.length am) (xs:=ah.1.Left) (j:=0) 26 33 12 S Try.underlying26 d d bp
 obtain ⟨cO,S⟩:=pLoad (r:=r_api_Point) (q:=bQ) (x:=ao) 0 S d
 obtain rfl:cO=.agg #[iv ao.X,iv ao.Y]:=S.mem.know (i:=1) (e:=fRep r_api_Point (cO) ao) d
 obtain ⟨bR,cP,S⟩:=pIdx (P:=Try.prog) (r:=r_api_Point) (v:=.slice al ah.1.Left.length am) (xs:=ah.1.Left) (j:=1) 26 33 15 S Try.underlying26 d d bq
 obtain ⟨cQ,S⟩:=pLoad (r:=r_api_Point) (q:=bR) (x:=ap) 0 S d
 obtain rfl:cQ=.agg #[iv ap.X,iv ap.Y]:=S.mem.know (i:=1) (e:=fRep r_api_Point (cQ) ap) d
 obtain ⟨bV,cR,S⟩:=pIdx (P:=Try.prog) (r:=r_api_Point) (v:=.slice aq ah.1.Right.length ar) (xs:=ah.1.Right) (j:=0) 26 33 19 S Try.underlying26 d d cC
 obtain ⟨cT,S⟩:=pLoad (r:=r_api_Point) (q:=bV) (x:=aC) 0 S d
 obtain rfl:cT=.agg #[iv aC.X,iv aC.Y]:=S.mem.know (i:=1) (e:=fRep r_api_Point (cT) aC) d
 obtain ⟨bW,cU,S⟩:=pIdx (P:=Try.prog) (r:=r_api_Point) (v:=.slice aq ah.1.Right.length ar) (xs:=ah.1.Right) (j:=1) 26 33 22 S Try.underlying26 d d cD
 obtain ⟨cV,S⟩:=pLoad (r:=r_api_Point) (q:=bW) (x:=aG) 0 S d
 obtain rfl:cV=.agg #[iv aG.X,iv aG.Y]:=S.mem.know (i:=1) (e:=fRep r_api_Point (cV) aG) d
 refine sDraw (nf:=[]) (W:=[(0,153,.pointer (some ⟨au,1,none⟩)),(1,154,.slice af aa.1.Right.length ag),(2,155,bM),(3,156,iv ax),(4,157,.pointer (some ⟨au,0,none⟩)),(5,158,.slice ac aa.1.Left.length ae),(6,159,bN),(7,160,iv ay),(8,161,iv (w64 (ax - ay))),(9,162,iv az.1),(10,163,iv (w64 (2 * az.1))),(11,164,.bool ((w64 (ax - ay)) != (w64 (2 * az.1)))),(12,165,.bool ((w64 (ax - ay)) != (w64 (2 * az.1)))),(13,166,.pointer (some ⟨au,1,none⟩)),(14,167,.slice af aa.1.Right.length ag),(15,168,iv av.1),(16,169,bO),(17,170,iv aj),(18,171,.pointer (some ⟨au,0,none⟩)),(19,172,.slice ac aa.1.Left.length ae),(20,173,iv av.1),(21,174,bP),(22,175,iv ak),(23,176,iv (w64 (aj - ak))),(24,177,iv aw.1),(25,178,iv (w64 (2 * aw.1))),(26,179,.bool ((w64 (aj - ak)) != (w64 (2 * aw.1)))),(27,180,.bool ((w64 (aj - ak)) != (w64 (2 * aw.1)))),(28,181,.bool ((w64 (aj - ak)) != (w64 (2 * aw.1)))),(29,182,.pointer (some ⟨au,0,none⟩)),(30,183,.slice ac aa.1.Left.length ae),(31,184,.pointer (some ⟨aL,0,none⟩)),(32,185,.slice al ah.1.Left.length am),(33,186,bQ),(34,187,.agg #[iv ao.X,iv ao.Y]),(35,188,.pointer (some ⟨aL,0,none⟩)),(36,189,.slice al ah.1.Left.length am),(37,190,bR),(38,191,.agg #[iv ap.X,iv ap.Y]),(39,192,.bool aA),(40,193,.bool (!aA)),(41,194,.bool (!aA)),(42,195,.bool (!aA)),(43,196,.pointer (some ⟨au,1,none⟩)),(44,197,.slice af aa.1.Right.length ag),(45,198,.pointer (some ⟨aL,1,none⟩)),(46,199,.slice aq ah.1.Right.length ar),(47,200,bV),(48,201,.agg #[iv aC.X,iv aC.Y]),(49,202,.pointer (some ⟨aL,1,none⟩)),(50,203,.slice aq ah.1.Right.length ar),(51,204,bW),(52,205,.agg #[iv aG.X,iv aG.Y]),(53,206,.bool aP),(54,207,.bool (!aP)),(55,208,.bool (!aP))]) d S ?_
 refine node_by (A:=anc_raddletop_TopShape_0) 56 (by kernel_rfl) (by kernel_rfl) (by kernel_rfl) (by kernel_rfl) (by kernel_rfl) [0,1,2,3,4,5,6,7,8,9,10,11,12,13,14,15,16,17,18,19,20,21,22,23,24,25,26,27,28,29,30,31,32,33,34,35,36,37,38,39,40,41,42,43,44,45,46,47,48,49,50,51,52,53,54,55] (by kernel_rfl) (by decide) (by decide) (fF ?_ (fF ?_ (fF ?_ (fF ?_ (fF ?_ (fF ?_ (fF ?_ (fF ?_ (fF ?_ (fF ?_ (fF ?_ (fF ?_ (fF ?_ (fF ?_ (fF ?_ (fF ?_ (fF ?_ (fF ?_ (fF ?_ (fF ?_ (fF ?_ (fF ?_ (fF ?_ (fF ?_ (fF ?_ (fF ?_ (fF ?_ (fF ?_ (fF ?_ (fF ?_ (fF ?_ (fF ?_ (fF ?_ (fF ?_ (fF ?_ (fF ?_ (fF ?_ (fF ?_ (fF ?_ (fF ?_ (fF ?_ (fF ?_ (fF ?_ (fF ?_ (fF ?_ (fF ?_ (fF ?_ (fF ?_ (fF ?_ (fF ?_ (fF ?_ (fF ?_ (fF ?_ (fF ?_ (fF ?_ (fF ?_ (trivial))))))))))))))))))))))))))))))))))))))))))))))))))))))))) [(4,iv p4),(5,.pointer (some ⟨b2,0,none⟩)),(11,.bool r4),(14,.pointer (some ⟨au,0,none⟩)),(20,iv av.1),(208,.bool (!aP))] (fin_of [none,none,none,none,none,some 55] d (by kernel_rfl) (by kernel_rfl)) (fun _ a w S=>?_)
 ·refine fJ [(14,_)] 0 [none] fun G a w S=>?_
  exact sField (b:=au) (off:=0) 1 1 S (wN d) d d d d d (lb d) fun a S=>leafL ⟨d,S⟩
 ·refine fJ [(153,_)] 1 [some 0] fun G a w S=>?_
  exact sLoad1 2 (.slice af aa.1.Right.length ag) S (wN d) d d d d d d (lb d) fun a S=>leafL ⟨d,S⟩
 ·refine fJ [(154,_)] 2 [some 1] fun G a w S=>?_
  exact sIdxV S (wN d) d d d cF d (lb d) fun a S=>leafL ⟨d,S⟩
 ·refine fJ [(155,_)] 3 [some 2] fun G a w S=>?_
  exact sLoadV1 (vq:=bM) 21 (iv ax) S (wN d) d d d d d (lb d) fun a S=>leafL ⟨d,S⟩
 ·refine fJ [(14,_)] 4 [none] fun G a w S=>?_
  exact sField (b:=au) (off:=0) 0 0 S (wN d) d d d d d (lb d) fun a S=>leafL ⟨d,S⟩
 ·refine fJ [(157,_)] 5 [some 4] fun G a w S=>?_
  exact sLoad1 2 (.slice ac aa.1.Left.length ae) S (wN d) d d d d d d (lb d) fun a S=>leafL ⟨d,S⟩
 ·refine fJ [(158,_)] 6 [some 5] fun G a w S=>?_
  exact sIdxV S (wN d) d d d cH d (lb d) fun a S=>leafL ⟨d,S⟩
 ·refine fJ [(159,_)] 7 [some 6] fun G a w S=>?_
  exact sLoadV1 (vq:=bN) 18 (iv ay) S (wN d) d d d d d (lb d) fun a S=>leafL ⟨d,S⟩
 ·refine fJ [(156,_),(160,_)] 8 [some 3,some 7] fun G a w S=>?_
  exact sBin _ S (wN d) d d d (bSub _ _ _ _ ax ay) d (lb d) fun a S=>leafL ⟨d,S⟩
 ·exact fM 9 none d d d d (.inl d) d d d
 ·refine fJ [(162,_)] 10 [some 9] fun G a w S=>?_
  exact sBin _ S (wN d) d d d (bMul _ _ _ _ 2 az.1) d (lb d) fun a S=>leafL ⟨d,S⟩
 ·refine fJ [(161,_),(163,_)] 11 [some 8,some 10] fun G a w S=>?_
  exact sBin _ S (wN d) d d d (bNe _ _ _ _ .i64 (w64 (ax - ay)) (w64 (2 * az.1))) d (lb d) fun a S=>leafL ⟨d,S⟩
 ·exact fM 12 (some 11) d d d d (.inl d) d d d
 ·refine fJ [(14,_),(165,_)] 13 [none,some 12] fun G a w S=>?_
  exact sField (b:=au) (off:=0) 1 1 S (wG 12 false 165 d d d a9) d d d d d (lb d) fun a S=>leafL ⟨d,S⟩
 ·refine fJ [(166,_),(165,_)] 14 [some 13,some 12] fun G a w S=>?_
  exact sLoad1 2 (.slice af aa.1.Right.length ag) S (wG 12 false 165 d d d a9) d d d d d d (lb d) fun a S=>leafL ⟨d,S⟩
 ·refine fJ [(20,_),(165,_)] 15 [none,some 12] fun G a w S=>?_
  exact sMove (iv av.1) S (wG 12 false 165 d d d a9) (.inl d) d d (lb d) fun a S=>leafL ⟨d,S⟩
 ·refine fJ [(167,_),(168,_),(165,_)] 16 [some 14,some 15,some 12] fun G a w S=>?_
  exact sIdxV S (wG 12 false 165 d d d a9) d d d cJ d (lb d) fun a S=>leafL ⟨d,S⟩
 ·refine fJ [(169,_),(165,_)] 17 [some 16,some 12] fun G a w S=>?_
  exact sLoadV1 (vq:=bO) 15 (iv aj) S (wG 12 false 165 d d d a9) d d d d d (lb d) fun a S=>leafL ⟨d,S⟩
 ·refine fJ [(14,_),(165,_)] 18 [none,some 12] fun G a w S=>?_
  exact sField (b:=au) (off:=0) 0 0 S (wG 12 false 165 d d d a9) d d d d d (lb d) fun a S=>leafL ⟨d,S⟩
 ·refine fJ [(171,_),(165,_)] 19 [some 18,some 12] fun G a w S=>?_
  exact sLoad1 2 (.slice ac aa.1.Left.length ae) S (wG 12 false 165 d d d a9) d d d d d d (lb d) fun a S=>leafL ⟨d,S⟩
 ·refine fJ [(20,_),(165,_)] 20 [none,some 12] fun G a w S=>?_
  exact sMove (iv av.1) S (wG 12 false 165 d d d a9) (.inl d) d d (lb d) fun a S=>leafL ⟨d,S⟩
 ·refine fJ [(172,_),(173,_),(165,_)] 21 [some 19,some 20,some 12] fun G a w S=>?_
  exact sIdxV S (wG 12 false 165 d d d a9) d d d cL d (lb d) fun a S=>leafL ⟨d,S⟩
 ·refine fJ [(174,_),(165,_)] 22 [some 21,some 12] fun G a w S=>?_
  exact sLoadV1 (vq:=bP) 12 (iv ak) S (wG 12 false 165 d d d a9) d d d d d (lb d) fun a S=>leafL ⟨d,S⟩
 ·refine fJ [(170,_),(175,_),(165,_)] 23 [some 17,some 22,some 12] fun G a w S=>?_
  exact sBin _ S (wG 12 false 165 d d d a9) d d d (bSub _ _ _ _ aj ak) d (lb d) fun a S=>leafL ⟨d,S⟩
 ·refine fJ [(18,_),(165,_)] 24 [none,some 12] fun G a w S=>?_
  exact sMove (iv aw.1) S (wG 12 false 165 d d d a9) (.inl d) d d (lb d) fun a S=>leafL ⟨d,S⟩
 ·refine fJ [(177,_),(165,_)] 25 [some 24,some 12] fun G a w S=>?_
  exact sBin _ S (wG 12 false 165 d d d a9) d d d (bMul _ _ _ _ 2 aw.1) d (lb d) fun a S=>leafL ⟨d,S⟩
 ·refine fJ [(176,_),(178,_),(165,_)] 26 [some 23,some 25,some 12] fun G a w S=>?_
  exact sBin _ S (wG 12 false 165 d d d a9) d d d (bNe _ _ _ _ .i64 (w64 (aj - ak)) (w64 (2 * aw.1))) d (lb d) fun a S=>leafL ⟨d,S⟩
 ·refine fJ [(165,_),(179,_)] 27 [some 12,some 26] fun G a w S=>?_
  exact sPickF (.bool ((w64 (aj - ak)) != (w64 (2 * aw.1)))) S (wN d) d d a9 d d (lb d) fun a S=>leafL ⟨d,S⟩
 ·exact fM 28 (some 27) d d d d (.inl d) d d d
 ·refine fJ [(14,_),(181,_)] 29 [none,some 28] fun G a w S=>?_
  exact sField (b:=au) (off:=0) 0 0 S (wG 28 false 181 d d d ab) d d d d d (lb d) fun a S=>leafL ⟨d,S⟩
 ·refine fJ [(182,_),(181,_)] 30 [some 29,some 28] fun G a w S=>?_
  exact sLoad1 2 (.slice ac aa.1.Left.length ae) S (wG 28 false 181 d d d ab) d d d d d d (lb d) fun a S=>leafL ⟨d,S⟩
 ·refine fJ [(12,_),(181,_)] 31 [none,some 28] fun G a w S=>?_
  exact sField (b:=aL) (off:=0) 0 0 S (wG 28 false 181 d d d ab) d d d d d (lb d) fun a S=>leafL ⟨d,S⟩
 ·refine fJ [(184,_),(181,_)] 32 [some 31,some 28] fun G a w S=>?_
  exact sLoad1 1 (.slice al ah.1.Left.length am) S (wG 28 false 181 d d d ab) d d d d d d (lb d) fun a S=>leafL ⟨d,S⟩
 ·refine fJ [(185,_),(181,_)] 33 [some 32,some 28] fun G a w S=>?_
  exact sIdxV S (wG 28 false 181 d d d ab) d d d cN d (lb d) fun a S=>leafL ⟨d,S⟩
 ·refine fJ [(186,_),(181,_)] 34 [some 33,some 28] fun G a w S=>?_
  exact sLoadVN (vq:=bQ) 9 [iv ao.X,iv ao.Y] S (wG 28 false 181 d d d ab) d d d d d d (lb d) fun a S=>leafL ⟨d,S⟩
 ·refine fJ [(12,_),(181,_)] 35 [none,some 28] fun G a w S=>?_
  exact sField (b:=aL) (off:=0) 0 0 S (wG 28 false 181 d d d ab) d d d d d (lb d) fun a S=>leafL ⟨d,S⟩
 ·refine fJ [(188,_),(181,_)] 36 [some 35,some 28] fun G a w S=>?_
  exact sLoad1 1 (.slice al ah.1.Left.length am) S (wG 28 false 181 d d d ab) d d d d d d (lb d) fun a S=>leafL ⟨d,S⟩
 ·refine fJ [(189,_),(181,_)] 37 [some 36,some 28] fun G a w S=>?_
  exact sIdxV S (wG 28 false 181 d d d ab) d d d cP d (lb d) fun a S=>leafL ⟨d,S⟩
 ·refine fJ [(190,_),(181,_)] 38 [some 37,some 28] fun G a w S=>?_
  exact sLoadVN (vq:=bR) 6 [iv ap.X,iv ap.Y] S (wG 28 false 181 d d d ab) d d d d d d (lb d) fun a S=>leafL ⟨d,S⟩
 ·refine fJ [(183,_),(187,_),(191,_),(181,_)] 39 [some 30,some 34,some 38,some 28] fun G a w S=>?_
  have S1:=S.mem
  refine sCallQ (X:=Unit) (f:=12) (vs:=[.slice ac aa.1.Left.length ae,.agg #[iv ao.X,iv ao.Y],.agg #[iv ap.X,iv ap.Y]]) (val:=fun _=>.bool aA) S (wG 28 false 181 d d d ab) d callee12 d (S1.quiet [26,10,7] d) (fun E1 w1 S1=>c_raddletop_edge39 E1 w1 aa.1.Left (.slice ac aa.1.Left.length ae) ao (.agg #[iv ao.X,iv ao.Y]) ap (.agg #[iv ap.X,iv ap.Y]) aA br S1) d (lb d) fun _ a w S=>?_
  exact leafL ⟨d,S⟩
 ·refine fJ [(192,_),(181,_)] 40 [some 39,some 28] fun G a w S=>?_
  exact sNot (b:=aA) S (wG 28 false 181 d d d ab) d d d (lb d) fun a S=>leafL ⟨d,S⟩
 ·refine fJ [(181,_),(193,_)] 41 [some 28,some 40] fun G a w S=>?_
  exact sPickF (.bool (!aA)) S (wN d) d d ab d d (lb d) fun a S=>leafL ⟨d,S⟩
 ·exact fM 42 (some 41) d d d d (.inl d) d d d
 ·refine fJ [(14,_),(195,_)] 43 [none,some 42] fun G a w S=>?_
  exact sField (b:=au) (off:=0) 1 1 S (wG 42 false 195 d d d ai) d d d d d (lb d) fun a S=>leafL ⟨d,S⟩
 ·refine fJ [(196,_),(195,_)] 44 [some 43,some 42] fun G a w S=>?_
  exact sLoad1 2 (.slice af aa.1.Right.length ag) S (wG 42 false 195 d d d ai) d d d d d d (lb d) fun a S=>leafL ⟨d,S⟩
 ·refine fJ [(12,_),(195,_)] 45 [none,some 42] fun G a w S=>?_
  exact sField (b:=aL) (off:=0) 1 1 S (wG 42 false 195 d d d ai) d d d d d (lb d) fun a S=>leafL ⟨d,S⟩
 ·refine fJ [(198,_),(195,_)] 46 [some 45,some 42] fun G a w S=>?_
  exact sLoad1 1 (.slice aq ah.1.Right.length ar) S (wG 42 false 195 d d d ai) d d d d d d (lb d) fun a S=>leafL ⟨d,S⟩
 ·refine fJ [(199,_),(195,_)] 47 [some 46,some 42] fun G a w S=>?_
  exact sIdxV S (wG 42 false 195 d d d ai) d d d cR d (lb d) fun a S=>leafL ⟨d,S⟩
 ·refine fJ [(200,_),(195,_)] 48 [some 47,some 42] fun G a w S=>?_
  exact sLoadVN (vq:=bV) 3 [iv aC.X,iv aC.Y] S (wG 42 false 195 d d d ai) d d d d d d (lb d) fun a S=>leafL ⟨d,S⟩
 ·refine fJ [(12,_),(195,_)] 49 [none,some 42] fun G a w S=>?_
  exact sField (b:=aL) (off:=0) 1 1 S (wG 42 false 195 d d d ai) d d d d d (lb d) fun a S=>leafL ⟨d,S⟩
 ·refine fJ [(202,_),(195,_)] 50 [some 49,some 42] fun G a w S=>?_
  exact sLoad1 1 (.slice aq ah.1.Right.length ar) S (wG 42 false 195 d d d ai) d d d d d d (lb d) fun a S=>leafL ⟨d,S⟩
 ·refine fJ [(203,_),(195,_)] 51 [some 50,some 42] fun G a w S=>?_
  exact sIdxV S (wG 42 false 195 d d d ai) d d d cU d (lb d) fun a S=>leafL ⟨d,S⟩
 ·refine fJ [(204,_),(195,_)] 52 [some 51,some 42] fun G a w S=>?_
  exact sLoadVN (vq:=bW) 0 [iv aG.X,iv aG.Y] S (wG 42 false 195 d d d ai) d d d d d d (lb d) fun a S=>leafL ⟨d,S⟩
 ·refine fJ [(197,_),(201,_),(205,_),(195,_)] 53 [some 44,some 48,some 52,some 42] fun G a w S=>?_
  have S1:=S.mem
  refine sCallQ (X:=Unit) (f:=12) (vs:=[.slice af aa.1.Right.length ag,.agg #[iv aC.X,iv aC.Y],.agg #[iv aG.X,iv aG.Y]]) (val:=fun _=>.bool aP) S (wG 42 false 195 d d d ai) d callee12 d (S1.quiet [27,4,1] d) (fun E1 w1 S1=>c_raddletop_edge39 E1 w1 aa.1.Right (.slice af aa.1.Right.length ag) aC (.agg #[iv aC.X,iv aC.Y]) aG (.agg #[iv aG.X,iv aG.Y]) aP cE S1) d (lb d) fun _ a w S=>?_
  exact leafL ⟨d,S⟩
 ·refine fJ [(206,_),(195,_)] 54 [some 53,some 42] fun G a w S=>?_
  exact sNot (b:=aP) S (wG 42 false 195 d d d ai) d d d (lb d) fun a S=>leafL ⟨d,S⟩
 ·refine fJ [(195,_),(207,_)] 55 [some 42,some 54] fun G a w S=>?_
  exact sPickF (.bool (!aP)) S (wN d) d d ai d d (lb d) fun a S=>leafL ⟨d,S⟩
 exact leafT (⟨!aP,Option.some.inj h,S.fix [0,2] [26,27] (by decide) d d d⟩)
theorem min3_ge {p q r b:Int} (h:b ≤ min3 p q r):b ≤ p∧b ≤ q∧b ≤ r:=by
 unfold min3 at h
 split at h <;> split at h <;> omega
theorem max3_le {p q r b:Int} (h:max3 p q r ≤ b):p ≤ b∧q ≤ b∧r ≤ b:=by
 unfold max3 at h
 split at h <;> split at h <;> omega
theorem sc_zero {num den v:Int} (h:(sc true num den v).2=0) (h0:0 ≤ v) (h1:v ≤ 1000000) (n1:1 ≤ num) (d1:1 ≤ den):∃ a,sc true num den v=(a,0)∧0 ≤ a:=by
 rcases sc_cases (num:=num) (den:=den) h0 h1 with ⟨_,e⟩ | e
 ·exact ⟨_,e,near_bd h0 n1 d1⟩
 ·rw [e] at h
  cases h
theorem law_TopShape (g:api_Gauge) (low high tall rise:Int) (_:wf_api_Gauge g) (_:InK .i64 low) (_:InK .i64 high) (_:InK .i64 tall) (_:InK .i64 rise):F_raddletop_TopShape g low high tall rise=some true:=by
 unfold F_raddletop_TopShape
 rw [alive_of,r35_eq]
 simp only [Option.bind_some]
 cases hg:gok g
 case false=>simp
 simp only [if_true,bne_self_eq_false,Bool.false_eq_true,if_false,Bool.not_true]
 by_cases c1:min3 low high tall < 1
 ·simp only [dT c1,if_true,Option.bind_some]
 by_cases c2:10000 < max3 low high tall
 ·simp only [dF c1,dT c2,Bool.false_eq_true,if_false,if_true,Option.bind_some]
 by_cases c3:rise < 0
 ·simp only [dF c1,dF c2,dT c3,Bool.false_eq_true,if_false,if_true,Option.bind_some]
 by_cases c4:50 < rise
 ·simp only [dF c1,dF c2,dF c3,dT c4,Bool.false_eq_true,if_false,if_true,Option.bind_some]
 simp only [dF c1,dF c2,dF c3,dF c4,Bool.false_eq_true,if_false,Option.bind_some]
 obtain ⟨l0,i0,t0⟩:=min3_ge (b:=1) (p:=low) (q:=high) (r:=tall) (by omega)
 obtain ⟨l1,i1,t1⟩:=max3_le (b:=10000) (p:=low) (q:=high) (r:=tall) (by omega)
 have hk:=gok_spec hg
 have e0:w64 (0 - low)=-low:=by rw [w64_of (by omega) (by omega)]; omega
 have e1:w64 (0 - high)=-high:=by rw [w64_of (by omega) (by omega)]; omega
 rw [e0,e1,measure_two hg rfl rfl l0 l1 i0 i1 t0 t1]
 by_cases hm:(sc true g.Stitches g.Width low).2=0∧(sc true g.Stitches g.Width high).2=0∧(sc true g.Rows g.Height tall).2=0
 case neg=>
  rw [if_neg hm]
  rfl
 rw [if_pos hm]
 obtain ⟨a,ea,a0⟩:=sc_zero hm.1 (by omega) (by omega) (by omega) (by omega)
 obtain ⟨b,eb,b0⟩:=sc_zero hm.2.1 (by omega) (by omega) (by omega) (by omega)
 obtain ⟨t,et,tt0⟩:=sc_zero hm.2.2 (by omega) (by omega) (by omega) (by omega)
 rw [stitches_eq,stitches_eq,rows_eq,hg,ea,eb,et]
 simp only [Option.bind_some]
 by_cases ho:sOk a b t
 case neg=>
  rw [if_neg ho]
  rfl
 rw [if_pos ho]
 obtain ⟨⟨u0,u1⟩,⟨v0,v1⟩,y0,y1⟩:=ho
 have ho:sOk a b t:=⟨⟨u0,u1⟩,⟨v0,v1⟩,y0,y1⟩
 simp only [bne_self_eq_false,Bool.false_eq_true,if_false]
 rw [make_two ho]
 cases hp:pok (pcs a b t)
 case false=>rfl
 simp only [if_true,Option.bind_some,bne_self_eq_false,Bool.false_eq_true,if_false]
 have hlL:((pcs a b t).Left.length:Int)=t + 1:=by
  show ((lnL (-a) (-b) t).length:Int)=t + 1
  rw [lnL_len]
  omega
 have hlR:((pcs a b t).Right.length:Int)=t + 1:=by
  show ((lnL a b t).length:Int)=t + 1
  rw [lnL_len]
  omega
 have hc:=(pcheck_eq (pcs a b t) (by omega) (by omega)).2
 rw [hp] at hc
 have e2:w64 (t + 1)=t + 1:=w64_of (by omega) (by omega)
 have s1:((shp a b t).Left.length:Int)=2:=rfl
 have s2:((shp a b t).Right.length:Int)=2:=rfl
 rw [rshape_two ho]
 simp only [Option.bind_some,bne_self_eq_false,Bool.false_eq_true,if_false]
 rw [hc]
 simp only [if_true,Option.bind_some,bne_self_eq_false,Bool.false_eq_true,if_false,s1,s2,hlL,e2]
 have iz:∀ x y:Int,idxO (lnL x y t) 0=some x:=fun x y=>by
  have:=lnL_at x y t (k:=0) (by omega)
  rw [show (((0:Nat):Int))=0 from rfl,lin_zero u0] at this
  exact this
 have ie:∀ x y:Int,idxO (lnL x y t) t=some y:=fun x y=>by
  have:=lnL_at x y t (k:=t.toNat) (by omega)
  rw [show ((t.toNat:Nat):Int)=t by omega,lin_end u0] at this
  exact this
 have j1:idxO (pcs a b t).Right 0=some a:=iz a b
 have j2:idxO (pcs a b t).Left 0=some (-a):=iz (-a) (-b)
 have j3:idxO (pcs a b t).Right t=some b:=ie a b
 have j4:idxO (pcs a b t).Left t=some (-b):=ie (-a) (-b)
 have p1:idxO (shp a b t).Left 0=some ⟨-a,0⟩:=rfl
 have p2:idxO (shp a b t).Left 1=some ⟨-b,t⟩:=rfl
 have p3:idxO (shp a b t).Right 0=some ⟨a,0⟩:=rfl
 have p4:idxO (shp a b t).Right 1=some ⟨b,t⟩:=rfl
 have k1:w64 (a - -a)=w64 (2 * a):=by congr 1; omega
 have k2:w64 (b - -b)=w64 (2 * b):=by congr 1; omega
 have q1:F_raddletop_edge39 (pcs a b t).Left ⟨-a,0⟩ ⟨-b,t⟩=some true:=edge39_of (by omega) (by omega) (by omega) (by omega) u0 (by omega)
 have q2:F_raddletop_edge39 (pcs a b t).Right ⟨a,0⟩ ⟨b,t⟩=some true:=edge39_of v0 v1 y0 y1 u0 (by omega)
 have hs:=sewn_of hg (t.toNat + 1) (by omega) (by omega)
 rw [show ((t.toNat + 1:Nat):Int)=t + 1 by omega] at hs
 simp only [j1,j2,j3,j4,Option.bind_some,k1,k2,bne_self_eq_false,Bool.false_eq_true,if_false,p1,p2,p3,p4,q1,q2,Bool.not_true]
 rw [knit_of hp (by omega) (by omega)]
 simp only [Option.bind_some,if_true]
 rw [hs]
 rfl
namespace frameTopShape
open Go.ChangeShapes Go.WideShapes Go.ChangeAt Go.Joins
theorem own:ownKnob Try.prog.godebug=none:=by kernel_rfl
theorem laidOut:laidOutB Try.prog=true:=by kernel_rfl
theorem lifted (os:Os) (started:os.Started) (H:Type) (enc:TypeId × Value→H) :
 ReturnsInHanded {} Try.checked os 3 .any (Rows.topShapeSpec.pre6 enc Try.prog Try.f3 Rows.topShapeRow.domain false) (Rows.topShapeSpec.post enc Try.prog Try.f3 false true false false):=by
 refine returnsInHanded_of_change (C:=Try.checked) own started (by kernel_rfl) Try.func3
  (ChangeSpec.witness6 (enc:=enc) (C:=Try.checked) false ⟨#[],#[.agg #[iv 0,iv 0,iv 0,iv 0],.int .i64 0,.int .i64 0,.int .i64 0,.int .i64 0],[]⟩ 8 (by kernel_rfl) (by kernel_rfl) (by kernel_rfl) (by kernel_rfl)) ?_
 intro W base args ds gs before hval0 hW hcnd _
 have hval:∀ (j:Nat) t v,Try.f3.params[j]?=some t→args[j]?=some v→Value.okWide Try.prog W .any base t v:=hval0
 have hW':=hW
 obtain ⟨p,q,hA0,hV,rfl,hfz,hnd⟩:=hW
 have hA:DataW.TrodAll enc Try.prog W 0 (fun _=>true) true Try.f3.params.toList args.toList ds p:=hA0
 rw [Try.params3] at hA hval
 obtain ⟨v0,vs0,d0,ds0,p0,q0,hargs,rfl,rfl,h0,r0⟩:=trodAll_cons hA
 obtain ⟨v1,vs1,d1,ds1,p1,q1,rfl,rfl,rfl,h1,r1⟩:=trodAll_cons r0
 obtain ⟨v2,vs2,d2,ds2,p2,q2,rfl,rfl,rfl,h2,r2⟩:=trodAll_cons r1
 obtain ⟨v3,vs3,d3,ds3,p3,q3,rfl,rfl,rfl,h3,r3⟩:=trodAll_cons r2
 obtain ⟨v4,vs4,d4,ds4,p4,q4,rfl,rfl,rfl,h4,r4⟩:=trodAll_cons r3
 obtain ⟨rfl,rfl,rfl⟩:=trodAll_nil r4
 obtain rfl:args=#[v0,v1,v2,v3,v4]:=by cases args; simp_all
 obtain ⟨rfl,rfl⟩:=trodVars_none hV
 have k0:=h0
 have lt0:∀ x ∈ p0,x.block < W.heap.size:=by obtain ⟨m,hm⟩:=k0; exact DataW.trod_lt m _ _ _ hm
 have k1:=h1
 have lt1:∀ x ∈ p1,x.block < W.heap.size:=by obtain ⟨m,hm⟩:=k1; exact DataW.trod_lt m _ _ _ hm
 have k2:=h2
 have lt2:∀ x ∈ p2,x.block < W.heap.size:=by obtain ⟨m,hm⟩:=k2; exact DataW.trod_lt m _ _ _ hm
 have k3:=h3
 have lt3:∀ x ∈ p3,x.block < W.heap.size:=by obtain ⟨m,hm⟩:=k3; exact DataW.trod_lt m _ _ _ hm
 have k4:=h4
 have lt4:∀ x ∈ p4,x.block < W.heap.size:=by obtain ⟨m,hm⟩:=k4; exact DataW.trod_lt m _ _ _ hm
 obtain ⟨x0,rep0,wf0⟩:=top_agg Try.underlying23 aggr_api_Gauge op_api_Gauge (hval 0 _ v0 rfl rfl) h0
 obtain ⟨x1,rfl,rfl,rfl,wf1⟩:=open_int Try.underlying3 (hval 1 _ v1 rfl rfl) h1
 obtain ⟨x2,rfl,rfl,rfl,wf2⟩:=open_int Try.underlying3 (hval 2 _ v2 rfl rfl) h2
 obtain ⟨x3,rfl,rfl,rfl,wf3⟩:=open_int Try.underlying3 (hval 3 _ v3 rfl rfl) h3
 obtain ⟨x4,rfl,rfl,rfl,wf4⟩:=open_int Try.underlying3 (hval 4 _ v4 rfl rfl) h4
 clear hA0 hval0
 refine (c_raddletop_TopShape (fun _=>False) W x0 v0 x1 x2 x3 x4 true (law_TopShape x0 x1 x2 x3 x4 wf0 wf1 wf2 wf3 wf4) (St0.start (by intro d hd; simp only [List.mem_cons,List.not_mem_nil,or_false] at hd; subst hd; exact rep0))).mono fun e W' hr=>?_
 obtain ⟨_,he,hS⟩:=hr
 have bel:=hS.chg.below
 subst he
 exact ⟨_,rfl,_,_,_,[],_,[],hW',trodAll_mk1 (shut_bool Try.underlying4 _),(trodAll_cons_mk (Below.trod laidOut (by kernel_rfl) (of_decide_eq_true (by kernel_rfl)) k0 bel lt0) (trodAll_cons_mk (Below.trod laidOut (by kernel_rfl) (of_decide_eq_true (by kernel_rfl)) k1 bel lt1) (trodAll_cons_mk (Below.trod laidOut (by kernel_rfl) (of_decide_eq_true (by kernel_rfl)) k2 bel lt2) (trodAll_cons_mk (Below.trod laidOut (by kernel_rfl) (of_decide_eq_true (by kernel_rfl)) k3 bel lt3) (trodAll_cons_mk (Below.trod laidOut (by kernel_rfl) (of_decide_eq_true (by kernel_rfl)) k4 bel lt4) trodAll_mk0))))),rfl,bel.frame _,fun h=>by cases h⟩
theorem over:Rows.topShapeRow.holds Try.pinned (OpenSpec.ofChange Rows.topShapeSpec):=
 OpenClaim.holds_of_wide 3 Try.f3 rfl rfl rfl rfl rfl rfl rfl ⟨rfl,rfl,rfl,rfl,rfl⟩ rfl rfl rfl rfl rfl (by kernel_rfl) Try.func3 (by kernel_rfl)
  (of_decide_eq_true (by kernel_rfl)) (by unfold Func.isWrapper; first | (rw [if_pos (by decide +kernel)]; kernel_rfl) | (rw [if_neg (by decide +kernel)]; exact ⟨rfl,rfl⟩))
  (fun os started H enc _=>lifted os started H enc)
end frameTopShape
theorem topShape_holds:Rows.TopShapeSaid:=frameTopShape.over
end Go.Proofs.Ytnfjcalmangncaa
