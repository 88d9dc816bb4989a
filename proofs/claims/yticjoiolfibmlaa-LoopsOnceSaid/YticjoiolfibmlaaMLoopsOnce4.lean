/- LoopsOnce: walks, tables, laws. -/
import Derived.Test.YticjoiolfibmlaaProg
import Derived.Test.YticjoiolfibmlaaRows
import Derived.Test.YticjoiolfibmlaaMLoopsOnce3
set_option linter.unusedVariables false
set_option linter.unusedSimpArgs false
set_option maxHeartbeats 4000000
set_option maxRecDepth 100000
namespace Go.Proofs.Yticjoiolfibmlaa
open Go.RowKit
noncomputable def F_raddlelaw27_alive  : Option Bool :=
 (F_raddlelaw27_one 3 [(api_Stitch.mk 6 false 1 2)]).bind fun r5 =>
 (F_loops_Of r5).bind fun a0 =>
 (F_loops_Crossings r5).bind fun aa =>
 (F_raddlelaw27_one 3 [(api_Stitch.mk 3 false 2 0), (api_Stitch.mk 2 false 0 0), (api_Stitch.mk 10 false 1 0)]).bind fun ab =>
 (F_loops_Of ab).bind fun a4 =>
 (F_loops_Bound ab).bind fun ac =>
 if a0.2 != 0 then
  none
 else
  if aa.2 != 0 then
   none
  else
   if a4.2 != 0 then
    none
   else
    if ac.2 != 0 then
     none
    else
     if (a0.1.length : Int) != 6 then
      none
     else
      if (a4.1.length : Int) != 5 then
       some false
      else
       (idxO a0.1 3).bind fun ae =>
       (F_raddleref26_SameInts ae.Parents ([1] : List Int)).bind fun af =>
       if af then
        (idxO a0.1 4).bind fun ag =>
        (F_raddleref26_SameInts ag.Parents ([2] : List Int)).bind fun ah =>
        if ah then
         (idxO a0.1 5).bind fun ai =>
         (F_raddleref26_SameInts ai.Parents ([0] : List Int)).bind fun aj =>
         if aj then
          (F_raddleref27_SamePairs aa.1 [(5, 3), (5, 4)]).bind fun a5 =>
          if a5 then
           (idxO a4.1 3).bind fun a6 =>
           (F_raddleref26_SameInts a6.Parents ([0, 1] : List Int)).bind fun a7 =>
           if a7 then
            (idxO a4.1 4).bind fun a8 =>
            if (a8.Parents.length : Int) == 0 then
             (F_raddleref26_SameInts ac.1 ([2] : List Int)).bind fun a9 =>
             some a9
            else
             none
           else
            none
          else
           none
         else
          none
        else
         none
       else
        none
theorem c_raddlelaw27_alive (E : Nat → Prop) (w0 : World)  (r : Bool) (h : F_raddlelaw27_alive  = some r) (S : St0 E [] w0 w0 [] []) :
 Calls Try.prog 20 #[] w0 (Ret (X := Unit) E [] w0 (fun _ => .bool r) (fun _ => []) (fun _ => [])) := by
 unfold F_raddlelaw27_alive at h
 refine sEnter (args := []) 115 Try.func20 rfl rfl (by simp) S (fun a S => ?_)
 refine sSeq (fun K1 cw => sRegion (sN S fun a S => ?_))
 refine lT (cw _ _ (sSeq (fun K2 cx => sRegion (sBuild [(0, .int .u8 6), (2, iv 1), (3, iv 2)] [.int .u8 6, .bool false, iv 1, iv 2] S (wN rfl) rfl rfl rfl rfl (lb rfl) fun a S => ?_))))
 have S := S.learn (fRep r_api_Stitch (.agg #[.int .u8 6, .bool false, iv 1, iv 2]) (api_Stitch.mk 6 false 1 2)) rfl
 refine sLit (r := r_api_Stitch) (T := 61) (xs := [(api_Stitch.mk 6 false 1 2)]) [(0, .agg #[.int .u8 6, .bool false, iv 1, iv 2])] 1 [.agg #[.int .u8 6, .bool false, iv 1, iv 2]] [.int .u8 6, .bool false, iv 1, iv 2] (.agg #[.int .u8 0, .bool false, iv 0, iv 0]) 24 S (wN rfl) rfl rfl Try.underlying62 rfl (by decide) (by decide) (by kernel_rfl) rfl (fun E1 w1 hE => All.cons (r_api_Stitch.mono hE (S.mem.know (i := 0) (e := fRep r_api_Stitch (.agg #[.int .u8 6, .bool false, iv 1, iv 2]) (api_Stitch.mk 6 false 1 2)) rfl)) (All.nil _ _ _)) rfl rfl (lb rfl) fun a w bV bW S => ?_
 obtain ⟨r5, cn, h⟩ := bS h
 have hv_r5 : r5 = (api_Chart.mk 3 [(api_Row.mk false [(api_Stitch.mk 6 false 1 2)])]) := Option.some.inj (cn.symm.trans (by exact kc_raddlelaw27_alive_0))
 have S := S.shutR (r := r_api_Stitch) (T := 61) (v := .slice bV [(api_Stitch.mk 6 false 1 2)].length bW) (xs := [(api_Stitch.mk 6 false 1 2)]) 0 rfl
 refine sCall (X := Value) (f := 30) (vs := [iv 3, .slice bV [(api_Stitch.mk 6 false 1 2)].length bW]) (val := c_raddlelaw27_one_val r5) (B' := fun _ => []) (D' := c_raddlelaw27_one_D r5) [] [] [fRep (rL r_api_Stitch) (.slice bV [(api_Stitch.mk 6 false 1 2)].length bW) [(api_Stitch.mk 6 false 1 2)]] [] [0] S (wN rfl) rfl callee30 rfl (by decide) rfl rfl (fun E1 w1 S1 => c_raddlelaw27_one E1 w1 3 [(api_Stitch.mk 6 false 1 2)] (.slice bV [(api_Stitch.mk 6 false 1 2)].length bW) r5 cn S1) rfl (lb rfl) fun u7 a w S => ?_
 obtain ⟨u8, rfl, co⟩ := S.mem.know (i := 0) (e := fRep r_api_Chart (u7) r5) rfl
 have S := S.learn (fRep (rL r_api_Row) u8 r5.Rows) co
 obtain ⟨a4, a5, _, rfl, _⟩ := co
 refine sAlloc (.agg #[iv 0, .slice none 0 0]) S (wN rfl) rfl rfl [iv 0, .slice none 0 0] rfl rfl (lb rfl) fun a aT w S => ?_
 refine sStore (p := aT) (off := 0) (T := 24) (vs := [iv 0, .slice none 0 0]) (v := .agg #[iv r5.Start, .slice a4 r5.Rows.length a5]) 0 [iv r5.Start, .slice a4 r5.Rows.length a5] S (wN rfl) rfl rfl rfl rfl rfl rfl rfl (by simp) rfl fun a w S => ?_
 refine lT (cx _ _ (sSeq (fun cI bZ => sRegion (sLoadN (p := aT) (off := 0) (T := 24) (vs := [iv r5.Start, .slice a4 r5.Rows.length a5]) 0 [iv r5.Start, .slice a4 r5.Rows.length a5] S (wN rfl) rfl rfl rfl rfl rfl rfl rfl (lb rfl) fun a S => ?_))))
 obtain ⟨aa, bt, h⟩ := bS h
 have hv_r14 : aa = ([(api_Loop.mk 0 0 [] false), (api_Loop.mk 0 1 [] false), (api_Loop.mk 0 2 [] false), (api_Loop.mk 1 0 [1] false), (api_Loop.mk 1 0 [2] false), (api_Loop.mk 1 0 [0] false)], 0) := Option.some.inj (bt.symm.trans (by rw [hv_r5]; exact kc_raddlelaw27_alive_1))
 refine sCall (X := Value) (f := 11) (vs := [.agg #[iv r5.Start, .slice a4 r5.Rows.length a5]]) (val := c_loops_Of_val aa) (B' := fun _ => []) (D' := c_loops_Of_D aa) [] [eBox aT 24 [iv r5.Start, .slice a4 r5.Rows.length a5]] [fRep r_api_Chart (.agg #[iv r5.Start, .slice a4 r5.Rows.length a5]) r5] [0] [1] S (wN rfl) rfl callee11 rfl (by decide) rfl rfl (fun E1 w1 S1 => c_loops_Of E1 w1 r5 (.agg #[iv r5.Start, .slice a4 r5.Rows.length a5]) aa bt S1) rfl (lb rfl) fun cy a w S => ?_
 obtain ⟨ae, af, _, rfl, _⟩ := S.mem.know (i := 0) (e := fRep (rL r_api_Loop) (cy) aa.1) rfl
 refine sM S fun a S => ?_
 refine sExtract (vs := [.slice ae aa.1.length af, iv aa.2]) (.slice ae aa.1.length af) S (wN rfl) rfl rfl rfl rfl (lb rfl) fun a S => ?_
 refine sExtract (vs := [.slice ae aa.1.length af, iv aa.2]) (iv aa.2) S (wN rfl) rfl rfl rfl rfl (lb rfl) fun a S => ?_
 refine sN S fun a S => ?_
 refine sN S fun a S => ?_
 refine lT (bZ _ _ (sSeq (fun cJ c5 => sRegion (sLoadN (p := aT) (off := 0) (T := 24) (vs := [iv r5.Start, .slice a4 r5.Rows.length a5]) 0 [iv r5.Start, .slice a4 r5.Rows.length a5] S (wN rfl) rfl rfl rfl rfl rfl rfl rfl (lb rfl) fun a S => ?_))))
 obtain ⟨ai, bu, h⟩ := bS h
 have hv_r20 : ai = ([(5, 3), (5, 4)], 0) := Option.some.inj (bu.symm.trans (by rw [hv_r5]; exact kc_raddlelaw27_alive_2))
 refine sCall (X := Value) (f := 15) (vs := [.agg #[iv r5.Start, .slice a4 r5.Rows.length a5]]) (val := c_loops_Crossings_val ai) (B' := fun _ => []) (D' := c_loops_Crossings_D ai) [] [eBox aT 24 [iv r5.Start, .slice a4 r5.Rows.length a5]] [fRep r_api_Chart (.agg #[iv r5.Start, .slice a4 r5.Rows.length a5]) r5] [0] [2] S (wN rfl) rfl callee15 rfl (by decide) rfl rfl (fun E1 w1 S1 => c_loops_Crossings E1 w1 r5 (.agg #[iv r5.Start, .slice a4 r5.Rows.length a5]) ai bu S1) rfl (lb rfl) fun cz a w S => ?_
 obtain ⟨aq, ar, _, rfl, _⟩ := S.mem.know (i := 0) (e := fRep (rL r_A2_Int) (cz) ai.1) rfl
 refine sM S fun a S => ?_
 refine sExtract (vs := [.slice aq ai.1.length ar, iv ai.2]) (.slice aq ai.1.length ar) S (wN rfl) rfl rfl rfl rfl (lb rfl) fun a S => ?_
 refine sExtract (vs := [.slice aq ai.1.length ar, iv ai.2]) (iv ai.2) S (wN rfl) rfl rfl rfl rfl (lb rfl) fun a S => ?_
 refine sN S fun a S => ?_
 refine sN S fun a S => ?_
 refine lT (c5 _ _ (sSeq (fun cK c6 => sRegion (sBuild [(0, .int .u8 3), (2, iv 2)] [.int .u8 3, .bool false, iv 2, iv 0] S (wN rfl) rfl rfl rfl rfl (lb rfl) fun a S => ?_))))
 refine sBuild [(0, .int .u8 2)] [.int .u8 2, .bool false, iv 0, iv 0] S (wN rfl) rfl rfl rfl rfl (lb rfl) fun a S => ?_
 refine sBuild [(0, .int .u8 10), (2, iv 1)] [.int .u8 10, .bool false, iv 1, iv 0] S (wN rfl) rfl rfl rfl rfl (lb rfl) fun a S => ?_
 have S := S.learn (fRep r_api_Stitch (.agg #[.int .u8 3, .bool false, iv 2, iv 0]) (api_Stitch.mk 3 false 2 0)) rfl
 have S := S.learn (fRep r_api_Stitch (.agg #[.int .u8 2, .bool false, iv 0, iv 0]) (api_Stitch.mk 2 false 0 0)) rfl
 have S := S.learn (fRep r_api_Stitch (.agg #[.int .u8 10, .bool false, iv 1, iv 0]) (api_Stitch.mk 10 false 1 0)) rfl
 refine sLit (r := r_api_Stitch) (T := 61) (xs := [(api_Stitch.mk 3 false 2 0), (api_Stitch.mk 2 false 0 0), (api_Stitch.mk 10 false 1 0)]) [(0, .agg #[.int .u8 3, .bool false, iv 2, iv 0]), (1, .agg #[.int .u8 2, .bool false, iv 0, iv 0]), (2, .agg #[.int .u8 10, .bool false, iv 1, iv 0])] 3 [.agg #[.int .u8 3, .bool false, iv 2, iv 0], .agg #[.int .u8 2, .bool false, iv 0, iv 0], .agg #[.int .u8 10, .bool false, iv 1, iv 0]] [.int .u8 3, .bool false, iv 2, iv 0, .int .u8 2, .bool false, iv 0, iv 0, .int .u8 10, .bool false, iv 1, iv 0] (.agg #[.int .u8 0, .bool false, iv 0, iv 0]) 24 S (wN rfl) rfl rfl Try.underlying62 rfl (by decide) (by decide) (by kernel_rfl) rfl (fun E1 w1 hE => All.cons (r_api_Stitch.mono hE (S.mem.know (i := 2) (e := fRep r_api_Stitch (.agg #[.int .u8 3, .bool false, iv 2, iv 0]) (api_Stitch.mk 3 false 2 0)) rfl)) (All.cons (r_api_Stitch.mono hE (S.mem.know (i := 1) (e := fRep r_api_Stitch (.agg #[.int .u8 2, .bool false, iv 0, iv 0]) (api_Stitch.mk 2 false 0 0)) rfl)) (All.cons (r_api_Stitch.mono hE (S.mem.know (i := 0) (e := fRep r_api_Stitch (.agg #[.int .u8 10, .bool false, iv 1, iv 0]) (api_Stitch.mk 10 false 1 0)) rfl)) (All.nil _ _ _)))) rfl rfl (lb rfl) fun a w aP aQ S => ?_
 obtain ⟨a0, bv, h⟩ := bS h
 have hv_r28 : a0 = (api_Chart.mk 3 [(api_Row.mk false [(api_Stitch.mk 3 false 2 0), (api_Stitch.mk 2 false 0 0), (api_Stitch.mk 10 false 1 0)])]) := Option.some.inj (bv.symm.trans (by exact kc_raddlelaw27_alive_3))
 have S := S.shutR (r := r_api_Stitch) (T := 61) (v := .slice aP [(api_Stitch.mk 3 false 2 0), (api_Stitch.mk 2 false 0 0), (api_Stitch.mk 10 false 1 0)].length aQ) (xs := [(api_Stitch.mk 3 false 2 0), (api_Stitch.mk 2 false 0 0), (api_Stitch.mk 10 false 1 0)]) 0 rfl
 refine sCall (X := Value) (f := 30) (vs := [iv 3, .slice aP [(api_Stitch.mk 3 false 2 0), (api_Stitch.mk 2 false 0 0), (api_Stitch.mk 10 false 1 0)].length aQ]) (val := c_raddlelaw27_one_val a0) (B' := fun _ => []) (D' := c_raddlelaw27_one_D a0) [] [eBox aT 24 [iv r5.Start, .slice a4 r5.Rows.length a5]] [fRep (rL r_api_Stitch) (.slice aP [(api_Stitch.mk 3 false 2 0), (api_Stitch.mk 2 false 0 0), (api_Stitch.mk 10 false 1 0)].length aQ) [(api_Stitch.mk 3 false 2 0), (api_Stitch.mk 2 false 0 0), (api_Stitch.mk 10 false 1 0)]] [0] [0] S (wN rfl) rfl callee30 rfl (by decide) rfl rfl (fun E1 w1 S1 => c_raddlelaw27_one E1 w1 3 [(api_Stitch.mk 3 false 2 0), (api_Stitch.mk 2 false 0 0), (api_Stitch.mk 10 false 1 0)] (.slice aP [(api_Stitch.mk 3 false 2 0), (api_Stitch.mk 2 false 0 0), (api_Stitch.mk 10 false 1 0)].length aQ) a0 bv S1) rfl (lb rfl) fun cA a w S => ?_
 obtain ⟨cB, rfl, bw⟩ := S.mem.know (i := 0) (e := fRep r_api_Chart (cA) a0) rfl
 have S := S.learn (fRep (rL r_api_Row) cB a0.Rows) bw
 obtain ⟨a6, a7, _, rfl, _⟩ := bw
 refine sAlloc (.agg #[iv 0, .slice none 0 0]) S (wN rfl) rfl rfl [iv 0, .slice none 0 0] rfl rfl (lb rfl) fun a bx w S => ?_
 refine sStore (p := bx) (off := 0) (T := 24) (vs := [iv 0, .slice none 0 0]) (v := .agg #[iv a0.Start, .slice a6 a0.Rows.length a7]) 0 [iv a0.Start, .slice a6 a0.Rows.length a7] S (wN rfl) rfl rfl rfl rfl rfl rfl rfl (by simp) rfl fun a w S => ?_
 refine lT (c6 _ _ (sSeq (fun cL c7 => sRegion (sLoadN (p := bx) (off := 0) (T := 24) (vs := [iv a0.Start, .slice a6 a0.Rows.length a7]) 0 [iv a0.Start, .slice a6 a0.Rows.length a7] S (wN rfl) rfl rfl rfl rfl rfl rfl rfl (lb rfl) fun a S => ?_))))
 obtain ⟨ab, bz, h⟩ := bS h
 have hv_r37 : ab = ([(api_Loop.mk 0 0 [] false), (api_Loop.mk 0 1 [] false), (api_Loop.mk 0 2 [] false), (api_Loop.mk 1 0 [0, 1] false), (api_Loop.mk 1 1 [] false)], 0) := Option.some.inj (bz.symm.trans (by rw [hv_r28]; exact kc_raddlelaw27_alive_4))
 refine sCall (X := Value) (f := 11) (vs := [.agg #[iv a0.Start, .slice a6 a0.Rows.length a7]]) (val := c_loops_Of_val ab) (B' := fun _ => []) (D' := c_loops_Of_D ab) [] [eBox bx 24 [iv a0.Start, .slice a6 a0.Rows.length a7], eBox aT 24 [iv r5.Start, .slice a4 r5.Rows.length a5]] [fRep r_api_Chart (.agg #[iv a0.Start, .slice a6 a0.Rows.length a7]) a0] [0, 1] [1] S (wN rfl) rfl callee11 rfl (by decide) rfl rfl (fun E1 w1 S1 => c_loops_Of E1 w1 a0 (.agg #[iv a0.Start, .slice a6 a0.Rows.length a7]) ab bz S1) rfl (lb rfl) fun cC a w S => ?_
 obtain ⟨ak, al, _, rfl, _⟩ := S.mem.know (i := 0) (e := fRep (rL r_api_Loop) (cC) ab.1) rfl
 refine sM S fun a S => ?_
 refine sExtract (vs := [.slice ak ab.1.length al, iv ab.2]) (.slice ak ab.1.length al) S (wN rfl) rfl rfl rfl rfl (lb rfl) fun a S => ?_
 refine sExtract (vs := [.slice ak ab.1.length al, iv ab.2]) (iv ab.2) S (wN rfl) rfl rfl rfl rfl (lb rfl) fun a S => ?_
 refine sN S fun a S => ?_
 refine sN S fun a S => ?_
 refine lT (c7 _ _ (sSeq (fun cM c8 => sRegion (sLoadN (p := bx) (off := 0) (T := 24) (vs := [iv a0.Start, .slice a6 a0.Rows.length a7]) 0 [iv a0.Start, .slice a6 a0.Rows.length a7] S (wN rfl) rfl rfl rfl rfl rfl rfl rfl (lb rfl) fun a S => ?_))))
 obtain ⟨aj, bA, h⟩ := bS h
 have hv_r43 : aj = ([2], 0) := Option.some.inj (bA.symm.trans (by rw [hv_r28]; exact kc_raddlelaw27_alive_5))
 refine sCall (X := Value) (f := 13) (vs := [.agg #[iv a0.Start, .slice a6 a0.Rows.length a7]]) (val := c_loops_Bound_val aj) (B' := fun _ => []) (D' := c_loops_Bound_D aj) [] [eBox bx 24 [iv a0.Start, .slice a6 a0.Rows.length a7], eBox aT 24 [iv r5.Start, .slice a4 r5.Rows.length a5]] [fRep r_api_Chart (.agg #[iv a0.Start, .slice a6 a0.Rows.length a7]) a0] [0, 1] [2] S (wN rfl) rfl callee13 rfl (by decide) rfl rfl (fun E1 w1 S1 => c_loops_Bound E1 w1 a0 (.agg #[iv a0.Start, .slice a6 a0.Rows.length a7]) aj bA S1) rfl (lb rfl) fun cD a w S => ?_
 obtain ⟨au, av, _, rfl, _⟩ := S.mem.know (i := 0) (e := fRep (rL (rI .i64)) (cD) aj.1) rfl
 refine sM S fun a S => ?_
 refine sExtract (vs := [.slice au aj.1.length av, iv aj.2]) (.slice au aj.1.length av) S (wN rfl) rfl rfl rfl rfl (lb rfl) fun a S => ?_
 refine sExtract (vs := [.slice au aj.1.length av, iv aj.2]) (iv aj.2) S (wN rfl) rfl rfl rfl rfl (lb rfl) fun a S => ?_
 refine sN S fun a S => ?_
 refine sN S fun a S => ?_
 refine lT (c8 _ _ (sSeq (fun cN c9 => sSeq (fun cO ca => sRegion (sM S fun a S => ?_)))))
 refine sBin _ S (wN rfl) rfl rfl rfl (bNe _ _ _ _ .i64 aa.2 0) rfl (lb rfl) fun a S => ?_
 refine sM S fun a S => ?_
 rcases iS h with ⟨az, h⟩ | ⟨az, h⟩
 ·exact absurd az (by rw [hv_r14]; decide)
 refine sMove (iv ai.2) S (wG 2 false 42 rfl rfl rfl az) (.inl rfl) rfl rfl (lb rfl) fun a S => ?_
 refine sBin _ S (wG 2 false 42 rfl rfl rfl az) rfl rfl rfl (bNe _ _ _ _ .i64 ai.2 0) rfl (lb rfl) fun a S => ?_
 refine sPickF (.bool (ai.2 != 0)) S (wN rfl) rfl rfl az rfl rfl (lb rfl) fun a S => ?_
 refine sM S fun a S => ?_
 rcases iS h with ⟨aA, h⟩ | ⟨aA, h⟩
 ·exact absurd aA (by rw [hv_r20]; decide)
 refine sMove (iv ab.2) S (wG 6 false 46 rfl rfl rfl aA) (.inl rfl) rfl rfl (lb rfl) fun a S => ?_
 refine sBin _ S (wG 6 false 46 rfl rfl rfl aA) rfl rfl rfl (bNe _ _ _ _ .i64 ab.2 0) rfl (lb rfl) fun a S => ?_
 refine sPickF (.bool (ab.2 != 0)) S (wN rfl) rfl rfl aA rfl rfl (lb rfl) fun a S => ?_
 refine sM S fun a S => ?_
 rcases iS h with ⟨aC, h⟩ | ⟨aC, h⟩
 ·exact absurd aC (by rw [hv_r37]; decide)
 refine sMove (iv aj.2) S (wG 10 false 50 rfl rfl rfl aC) (.inl rfl) rfl rfl (lb rfl) fun a S => ?_
 refine sBin _ S (wG 10 false 50 rfl rfl rfl aC) rfl rfl rfl (bNe _ _ _ _ .i64 aj.2 0) rfl (lb rfl) fun a S => ?_
 refine sPickF (.bool (aj.2 != 0)) S (wN rfl) rfl rfl aC rfl rfl (lb rfl) fun a S => ?_
 refine sM S fun a S => ?_
 rcases iS h with ⟨aw, h⟩ | ⟨aw, h⟩
 ·exact absurd aw (by rw [hv_r43]; decide)
 refine sMove (.slice ae aa.1.length af) S (wG 14 false 54 rfl rfl rfl aw) (.inl rfl) rfl rfl (lb rfl) fun a S => ?_
 refine sLen S (wG 14 false 54 rfl rfl rfl aw) rfl Try.underlying26 rfl rfl (lb rfl) fun a S => ?_
 refine sBin _ S (wG 14 false 54 rfl rfl rfl aw) rfl rfl rfl (bNe _ _ _ _ .i64 (aa.1.length : Int) 6) rfl (lb rfl) fun a S => ?_
 refine sPickF (.bool ((aa.1.length : Int) != 6)) S (wN rfl) rfl rfl aw rfl rfl (lb rfl) fun a S => ?_
 refine sM S fun a S => ?_
 rcases iS h with ⟨ax, h⟩ | ⟨ax, h⟩
 ·exact absurd ax (by rw [hv_r14]; decide)
 refine sMove (.slice ak ab.1.length al) S (wG 19 false 59 rfl rfl rfl ax) (.inl rfl) rfl rfl (lb rfl) fun a S => ?_
 refine sLen S (wG 19 false 59 rfl rfl rfl ax) rfl Try.underlying26 rfl rfl (lb rfl) fun a S => ?_
 refine sBin _ S (wG 19 false 59 rfl rfl rfl ax) rfl rfl rfl (bNe _ _ _ _ .i64 (ab.1.length : Int) 5) rfl (lb rfl) fun a S => ?_
 refine sPickF (.bool ((ab.1.length : Int) != 5)) S (wN rfl) rfl rfl ax rfl rfl (lb rfl) fun a S => ?_
 refine lT (ca _ _ ?_)
 rcases iS h with ⟨bf, h⟩ | ⟨bf, h⟩
 ·refine sCondT S rfl bf ?_
  refine sSeq (fun cP cb => sRegion (sN S fun a S => ?_))
  refine lT (cb _ _ ?_)
  obtain rfl := tS h
  exact wp_ret (rThen (sRet (.bool false) S (rsl1 rfl (rvT (t := 0) (v := .bool false) S rfl)) ⟨(), rfl, S.mem.sel [] [] (by decide) rfl rfl⟩))
 refine sCondF S rfl bf ?_
 refine wp_skip (leafT (c9 _ _ ?_))
 refine sSeq (fun cQ cc => sRegion (sM S fun a S => ?_))
 obtain ⟨aU, bB, h⟩ := bS h
 have hv_x58 : aU = (api_Loop.mk 1 0 [1] false) := Option.some.inj (bB.symm.trans (by rw [hv_r14]; kernel_rfl))
 obtain ⟨cp, cd, S⟩ := pIdx (P := Try.prog) (r := r_api_Loop) (v := .slice ae aa.1.length af) (xs := aa.1) (j := 3) 26 48 9 S Try.underlying26 rfl rfl bB
 refine sIdxV S (wN rfl) rfl rfl rfl cd rfl (lb rfl) fun a S => ?_
 obtain ⟨cq, ce, S⟩ := pFld (P := Try.prog) (r := r_api_Loop) (s2 := (rL (rI .i64))) (g := (·.Parents)) (q := cp) (z := aU) 48 2 0 2 S rfl rfl comp_api_Loop_Parents
 refine sFldV (q := cp) S (wN rfl) rfl rfl ce rfl (lb rfl) fun a S => ?_
 obtain ⟨cE, S⟩ := pLoad (r := (rL (rI .i64))) (q := cq) (x := aU.Parents) 0 S rfl
 obtain ⟨bg, bh, _, rfl, _⟩ := S.mem.know (i := 1) (e := fRep (rL (rI .i64)) (cE) aU.Parents) rfl
 refine sLoadV1 (vq := cq) 0 (.slice bg aU.Parents.length bh) S (wN rfl) rfl rfl rfl rfl rfl (lb rfl) fun a S => ?_
 refine sLit (r := (rI .i64)) (T := 3) (xs := ([1] : List Int)) [(0, iv 1)] 1 [iv 1] [iv 1] (iv 0) 8 S (wN rfl) rfl rfl Try.underlying32 rfl (by decide) (by decide) (by kernel_rfl) rfl (fun E1 w1 hE => All.cons rfl (All.nil _ _ _)) rfl rfl (lb rfl) fun a w bi bj S => ?_
 obtain ⟨cf, bC, h⟩ := bS h
 have hv_r69 : cf = true := Option.some.inj (bC.symm.trans (by rw [hv_x58]; exact kc_raddlelaw27_alive_6))
 have S1 := S.mem
 have S1 := S1.shutR (r := (rI .i64)) (T := 3) (v := .slice bi ([1] : List Int).length bj) (xs := ([1] : List Int)) 0 rfl
 refine sCq [.slice bg aU.Parents.length bh, .slice bi ([1] : List Int).length bj] (.bool cf) S callee18 (S1.quiet [2, 0] rfl) (fun E1 w1 S1 => c_raddleref26_SameInts E1 w1 aU.Parents (.slice bg aU.Parents.length bh) ([1] : List Int) (.slice bi ([1] : List Int).length bj) cf bC S1) fun a w S => ?_
 refine sM S fun a S => ?_
 rcases iS h with ⟨ag, h⟩ | ⟨ag, h⟩
 rotate_left
 ·exact absurd ag (by rw [hv_r69]; decide)
 refine sMove (.slice ae aa.1.length af) S (wG 6 true 70 rfl rfl rfl ag) (.inl rfl) rfl rfl (lb rfl) fun a S => ?_
 obtain ⟨aV, bD, h⟩ := bS h
 have hv_x72 : aV = (api_Loop.mk 1 0 [2] false) := Option.some.inj (bD.symm.trans (by rw [hv_r14]; kernel_rfl))
 obtain ⟨cr, cg, S⟩ := pIdx (P := Try.prog) (r := r_api_Loop) (v := .slice ae aa.1.length af) (xs := aa.1) (j := 4) 26 48 13 S Try.underlying26 rfl rfl bD
 refine sIdxV S (wG 6 true 70 rfl rfl rfl ag) rfl rfl rfl cg rfl (lb rfl) fun a S => ?_
 obtain ⟨ct, ci, S⟩ := pFld (P := Try.prog) (r := r_api_Loop) (s2 := (rL (rI .i64))) (g := (·.Parents)) (q := cr) (z := aV) 48 2 0 2 S rfl rfl comp_api_Loop_Parents
 refine sFldV (q := cr) S (wG 6 true 70 rfl rfl rfl ag) rfl rfl ci rfl (lb rfl) fun a S => ?_
 obtain ⟨cF, S⟩ := pLoad (r := (rL (rI .i64))) (q := ct) (x := aV.Parents) 0 S rfl
 obtain ⟨bk, bl, _, rfl, _⟩ := S.mem.know (i := 1) (e := fRep (rL (rI .i64)) (cF) aV.Parents) rfl
 refine sLoadV1 (vq := ct) 0 (.slice bk aV.Parents.length bl) S (wG 6 true 70 rfl rfl rfl ag) rfl rfl rfl rfl rfl (lb rfl) fun a S => ?_
 refine sLit (r := (rI .i64)) (T := 3) (xs := ([2] : List Int)) [(0, iv 2)] 1 [iv 2] [iv 2] (iv 0) 8 S (wG 6 true 70 rfl rfl rfl ag) rfl rfl Try.underlying32 rfl (by decide) (by decide) (by kernel_rfl) rfl (fun E1 w1 hE => All.cons rfl (All.nil _ _ _)) rfl rfl (lb rfl) fun a w bm bn S => ?_
 obtain ⟨bX, bE, h⟩ := bS h
 have hv_r83 : bX = true := Option.some.inj (bE.symm.trans (by rw [hv_x72]; exact kc_raddlelaw27_alive_7))
 have S1 := S.mem
 have S1 := S1.shutR (r := (rI .i64)) (T := 3) (v := .slice bm ([2] : List Int).length bn) (xs := ([2] : List Int)) 0 rfl
 refine sCallQ (X := Unit) (f := 18) (vs := [.slice bk aV.Parents.length bl, .slice bm ([2] : List Int).length bn]) (val := fun _ => .bool bX) S (wG 6 true 70 rfl rfl rfl ag) rfl callee18 rfl (S1.quiet [2, 0] rfl) (fun E1 w1 S1 => c_raddleref26_SameInts E1 w1 aV.Parents (.slice bk aV.Parents.length bl) ([2] : List Int) (.slice bm ([2] : List Int).length bn) bX bE S1) rfl (lb rfl) fun _ a w S => ?_
 refine sPickT (.bool bX) S (wN rfl) rfl rfl ag rfl rfl (lb rfl) fun a S => ?_
 refine sM S fun a S => ?_
 rcases iS h with ⟨ah, h⟩ | ⟨ah, h⟩
 rotate_left
 ·exact absurd ah (by rw [hv_r83]; decide)
 refine sMove (.slice ae aa.1.length af) S (wG 14 true 78 rfl rfl rfl ah) (.inl rfl) rfl rfl (lb rfl) fun a S => ?_
 obtain ⟨aW, bG, h⟩ := bS h
 have hv_x86 : aW = (api_Loop.mk 1 0 [0] false) := Option.some.inj (bG.symm.trans (by rw [hv_r14]; kernel_rfl))
 obtain ⟨cu, cj, S⟩ := pIdx (P := Try.prog) (r := r_api_Loop) (v := .slice ae aa.1.length af) (xs := aa.1) (j := 5) 26 48 17 S Try.underlying26 rfl rfl bG
 refine sIdxV S (wG 14 true 78 rfl rfl rfl ah) rfl rfl rfl cj rfl (lb rfl) fun a S => ?_
 obtain ⟨cv, ck, S⟩ := pFld (P := Try.prog) (r := r_api_Loop) (s2 := (rL (rI .i64))) (g := (·.Parents)) (q := cu) (z := aW) 48 2 0 2 S rfl rfl comp_api_Loop_Parents
 refine sFldV (q := cu) S (wG 14 true 78 rfl rfl rfl ah) rfl rfl ck rfl (lb rfl) fun a S => ?_
 obtain ⟨cG, S⟩ := pLoad (r := (rL (rI .i64))) (q := cv) (x := aW.Parents) 0 S rfl
 obtain ⟨bo, bp, _, rfl, _⟩ := S.mem.know (i := 1) (e := fRep (rL (rI .i64)) (cG) aW.Parents) rfl
 refine sLoadV1 (vq := cv) 0 (.slice bo aW.Parents.length bp) S (wG 14 true 78 rfl rfl rfl ah) rfl rfl rfl rfl rfl (lb rfl) fun a S => ?_
 refine sLit (r := (rI .i64)) (T := 3) (xs := ([0] : List Int)) [(0, iv 0)] 1 [iv 0] [iv 0] (iv 0) 8 S (wG 14 true 78 rfl rfl rfl ah) rfl rfl Try.underlying32 rfl (by decide) (by decide) (by kernel_rfl) rfl (fun E1 w1 hE => All.cons rfl (All.nil _ _ _)) rfl rfl (lb rfl) fun a w bq br S => ?_
 obtain ⟨bY, bH, h⟩ := bS h
 have hv_r97 : bY = true := Option.some.inj (bH.symm.trans (by rw [hv_x86]; exact kc_raddlelaw27_alive_8))
 have S1 := S.mem
 have S1 := S1.shutR (r := (rI .i64)) (T := 3) (v := .slice bq ([0] : List Int).length br) (xs := ([0] : List Int)) 0 rfl
 refine sCallQ (X := Unit) (f := 18) (vs := [.slice bo aW.Parents.length bp, .slice bq ([0] : List Int).length br]) (val := fun _ => .bool bY) S (wG 14 true 78 rfl rfl rfl ah) rfl callee18 rfl (S1.quiet [2, 0] rfl) (fun E1 w1 S1 => c_raddleref26_SameInts E1 w1 aW.Parents (.slice bo aW.Parents.length bp) ([0] : List Int) (.slice bq ([0] : List Int).length br) bY bH S1) rfl (lb rfl) fun _ a w S => ?_
 refine sPickT (.bool bY) S (wN rfl) rfl rfl ah rfl rfl (lb rfl) fun a S => ?_
 refine sM S fun a S => ?_
 rcases iS h with ⟨am, h⟩ | ⟨am, h⟩
 rotate_left
 ·exact absurd am (by rw [hv_r97]; decide)
 refine sMove (.slice aq ai.1.length ar) S (wG 22 true 86 rfl rfl rfl am) (.inl rfl) rfl rfl (lb rfl) fun a S => ?_
 refine sBuild [(0, iv 5), (1, iv 3)] [iv 5, iv 3] S (wG 22 true 86 rfl rfl rfl am) rfl rfl rfl rfl (lb rfl) fun a S => ?_
 refine sBuild [(0, iv 5), (1, iv 4)] [iv 5, iv 4] S (wG 22 true 86 rfl rfl rfl am) rfl rfl rfl rfl (lb rfl) fun a S => ?_
 have S := S.learn (fRep r_A2_Int (.agg #[iv 5, iv 3]) (5, 3)) rfl
 have S := S.learn (fRep r_A2_Int (.agg #[iv 5, iv 4]) (5, 4)) rfl
 refine sLit (r := r_A2_Int) (T := 49) (xs := [(5, 3), (5, 4)]) [(0, .agg #[iv 5, iv 3]), (1, .agg #[iv 5, iv 4])] 2 [.agg #[iv 5, iv 3], .agg #[iv 5, iv 4]] [iv 5, iv 3, iv 5, iv 4] (.agg #[iv 0, iv 0]) 16 S (wG 22 true 86 rfl rfl rfl am) rfl rfl Try.underlying37 rfl (by decide) (by decide) (by kernel_rfl) rfl (fun E1 w1 hE => All.cons (r_A2_Int.mono hE (S.mem.know (i := 1) (e := fRep r_A2_Int (.agg #[iv 5, iv 3]) (5, 3)) rfl)) (All.cons (r_A2_Int.mono hE (S.mem.know (i := 0) (e := fRep r_A2_Int (.agg #[iv 5, iv 4]) (5, 4)) rfl)) (All.nil _ _ _))) rfl rfl (lb rfl) fun a w aG aH S => ?_
 obtain ⟨aR, aX, h⟩ := bS h
 have hv_r102 : aR = true := Option.some.inj (aX.symm.trans (by rw [hv_r20]; exact kc_raddlelaw27_alive_9))
 have S1 := S.mem
 have S1 := S1.shutR (r := r_A2_Int) (T := 49) (v := .slice aG [(5, 3), (5, 4)].length aH) (xs := [(5, 3), (5, 4)]) 0 rfl
 refine sCallQ (X := Unit) (f := 19) (vs := [.slice aq ai.1.length ar, .slice aG [(5, 3), (5, 4)].length aH]) (val := fun _ => .bool aR) S (wG 22 true 86 rfl rfl rfl am) rfl callee19 rfl (S1.quiet [23, 0] rfl) (fun E1 w1 S1 => c_raddleref27_SamePairs E1 w1 ai.1 (.slice aq ai.1.length ar) [(5, 3), (5, 4)] (.slice aG [(5, 3), (5, 4)].length aH) aR aX S1) rfl (lb rfl) fun _ a w S => ?_
 refine sPickT (.bool aR) S (wN rfl) rfl rfl am rfl rfl (lb rfl) fun a S => ?_
 refine sN S fun a S => ?_
 refine lT (cc _ _ (sSeq (fun cH bI => sRegion (sM S fun a S => ?_))))
 refine sM S fun a S => ?_
 rcases iS h with ⟨a8, h⟩ | ⟨a8, h⟩
 rotate_left
 ·exact absurd a8 (by rw [hv_r102]; decide)
 refine sMove (.slice ak ab.1.length al) S (wG 1 true 94 rfl rfl rfl a8) (.inl rfl) rfl rfl (lb rfl) fun a S => ?_
 obtain ⟨ao, aZ, h⟩ := bS h
 have hv_x106 : ao = (api_Loop.mk 1 0 [0, 1] false) := Option.some.inj (aZ.symm.trans (by rw [hv_r37]; kernel_rfl))
 obtain ⟨bJ, bK, S⟩ := pIdx (P := Try.prog) (r := r_api_Loop) (v := .slice ak ab.1.length al) (xs := ab.1) (j := 3) 26 48 15 S Try.underlying26 rfl rfl aZ
 refine sIdxV S (wG 1 true 94 rfl rfl rfl a8) rfl rfl rfl bK rfl (lb rfl) fun a S => ?_
 obtain ⟨bL, bM, S⟩ := pFld (P := Try.prog) (r := r_api_Loop) (s2 := (rL (rI .i64))) (g := (·.Parents)) (q := bJ) (z := ao) 48 2 0 2 S rfl rfl comp_api_Loop_Parents
 refine sFldV (q := bJ) S (wG 1 true 94 rfl rfl rfl a8) rfl rfl bM rfl (lb rfl) fun a S => ?_
 obtain ⟨cl, S⟩ := pLoad (r := (rL (rI .i64))) (q := bL) (x := ao.Parents) 0 S rfl
 obtain ⟨aI, aJ, _, rfl, _⟩ := S.mem.know (i := 1) (e := fRep (rL (rI .i64)) (cl) ao.Parents) rfl
 refine sLoadV1 (vq := bL) 0 (.slice aI ao.Parents.length aJ) S (wG 1 true 94 rfl rfl rfl a8) rfl rfl rfl rfl rfl (lb rfl) fun a S => ?_
 refine sLit (r := (rI .i64)) (T := 3) (xs := ([0, 1] : List Int)) [(0, iv 0), (1, iv 1)] 2 [iv 0, iv 1] [iv 0, iv 1] (iv 0) 8 S (wG 1 true 94 rfl rfl rfl a8) rfl rfl Try.underlying32 rfl (by decide) (by decide) (by kernel_rfl) rfl (fun E1 w1 hE => All.cons rfl (All.cons rfl (All.nil _ _ _))) rfl rfl (lb rfl) fun a w aK aL S => ?_
 obtain ⟨aS, ba, h⟩ := bS h
 have hv_r117 : aS = true := Option.some.inj (ba.symm.trans (by rw [hv_x106]; exact kc_raddlelaw27_alive_10))
 have S1 := S.mem
 have S1 := S1.shutR (r := (rI .i64)) (T := 3) (v := .slice aK ([0, 1] : List Int).length aL) (xs := ([0, 1] : List Int)) 0 rfl
 refine sCallQ (X := Unit) (f := 18) (vs := [.slice aI ao.Parents.length aJ, .slice aK ([0, 1] : List Int).length aL]) (val := fun _ => .bool aS) S (wG 1 true 94 rfl rfl rfl a8) rfl callee18 rfl (S1.quiet [2, 0] rfl) (fun E1 w1 S1 => c_raddleref26_SameInts E1 w1 ao.Parents (.slice aI ao.Parents.length aJ) ([0, 1] : List Int) (.slice aK ([0, 1] : List Int).length aL) aS ba S1) rfl (lb rfl) fun _ a w S => ?_
 refine sPickT (.bool aS) S (wN rfl) rfl rfl a8 rfl rfl (lb rfl) fun a S => ?_
 refine sM S fun a S => ?_
 rcases iS h with ⟨a9, h⟩ | ⟨a9, h⟩
 rotate_left
 ·exact absurd a9 (by rw [hv_r117]; decide)
 refine sMove (.slice ak ab.1.length al) S (wG 9 true 102 rfl rfl rfl a9) (.inl rfl) rfl rfl (lb rfl) fun a S => ?_
 obtain ⟨ap, bb, h⟩ := bS h
 have hv_x120 : ap = (api_Loop.mk 1 1 [] false) := Option.some.inj (bb.symm.trans (by rw [hv_r37]; kernel_rfl))
 obtain ⟨bN, bO, S⟩ := pIdx (P := Try.prog) (r := r_api_Loop) (v := .slice ak ab.1.length al) (xs := ab.1) (j := 4) 26 48 19 S Try.underlying26 rfl rfl bb
 refine sIdxV S (wG 9 true 102 rfl rfl rfl a9) rfl rfl rfl bO rfl (lb rfl) fun a S => ?_
 obtain ⟨bP, bQ, S⟩ := pFld (P := Try.prog) (r := r_api_Loop) (s2 := (rL (rI .i64))) (g := (·.Parents)) (q := bN) (z := ap) 48 2 0 2 S rfl rfl comp_api_Loop_Parents
 refine sFldV (q := bN) S (wG 9 true 102 rfl rfl rfl a9) rfl rfl bQ rfl (lb rfl) fun a S => ?_
 obtain ⟨cm, S⟩ := pLoad (r := (rL (rI .i64))) (q := bP) (x := ap.Parents) 0 S rfl
 obtain ⟨bR, bU, _, rfl, _⟩ := S.mem.know (i := 1) (e := fRep (rL (rI .i64)) (cm) ap.Parents) rfl
 refine sLoadV1 (vq := bP) 0 (.slice bR ap.Parents.length bU) S (wG 9 true 102 rfl rfl rfl a9) rfl rfl rfl rfl rfl (lb rfl) fun a S => ?_
 refine sLen S (wG 9 true 102 rfl rfl rfl a9) rfl Try.underlying32 rfl rfl (lb rfl) fun a S => ?_
 refine sBin _ S (wG 9 true 102 rfl rfl rfl a9) rfl rfl rfl (bEq _ _ _ _ .i64 (ap.Parents.length : Int) 0) rfl (lb rfl) fun a S => ?_
 refine sPickT (.bool ((ap.Parents.length : Int) == 0)) S (wN rfl) rfl rfl a9 rfl rfl (lb rfl) fun a S => ?_
 refine sM S fun a S => ?_
 rcases iS h with ⟨ac, h⟩ | ⟨ac, h⟩
 rotate_left
 ·exact absurd ac (by rw [hv_x120]; decide)
 refine sMove (.slice au aj.1.length av) S (wG 17 true 110 rfl rfl rfl ac) (.inl rfl) rfl rfl (lb rfl) fun a S => ?_
 refine sLit (r := (rI .i64)) (T := 3) (xs := ([2] : List Int)) [(0, iv 2)] 1 [iv 2] [iv 2] (iv 0) 8 S (wG 17 true 110 rfl rfl rfl ac) rfl rfl Try.underlying32 rfl (by decide) (by decide) (by kernel_rfl) rfl (fun E1 w1 hE => All.cons rfl (All.nil _ _ _)) rfl rfl (lb rfl) fun a w aM aO S => ?_
 obtain ⟨ay, bc, h⟩ := bS h
 have hv_r132 : ay = true := Option.some.inj (bc.symm.trans (by rw [hv_r43]; exact kc_raddlelaw27_alive_11))
 have S1 := S.mem
 have S1 := S1.shutR (r := (rI .i64)) (T := 3) (v := .slice aM ([2] : List Int).length aO) (xs := ([2] : List Int)) 0 rfl
 refine sCallQ (X := Unit) (f := 18) (vs := [.slice au aj.1.length av, .slice aM ([2] : List Int).length aO]) (val := fun _ => .bool ay) S (wG 17 true 110 rfl rfl rfl ac) rfl callee18 rfl (S1.quiet [23, 0] rfl) (fun E1 w1 S1 => c_raddleref26_SameInts E1 w1 aj.1 (.slice au aj.1.length av) ([2] : List Int) (.slice aM ([2] : List Int).length aO) ay bc S1) rfl (lb rfl) fun _ a w S => ?_
 refine sPickT (.bool ay) S (wN rfl) rfl rfl ac rfl rfl (lb rfl) fun a S => ?_
 refine sN S fun a S => ?_
 refine lT (bI _ _ ?_)
 obtain rfl := tS h
 exact wp_ret (sRet (.bool ay) S (rsl1 rfl (rvT (t := 0) (v := .bool ay) S rfl)) ⟨(), rfl, S.mem.sel [] [] (by decide) rfl rfl⟩)
def K_raddlelaw27_alive  : Option Bool :=
 Option.bind (K_raddlelaw27_one 3 [(api_Stitch.mk 6 false 1 2)]) fun r5 =>
 Option.bind (K_loops_Of r5) fun r14 =>
 Option.bind (K_loops_Crossings r5) fun r20 =>
 Option.bind (K_raddlelaw27_one 3 [(api_Stitch.mk 3 false 2 0), (api_Stitch.mk 2 false 0 0), (api_Stitch.mk 10 false 1 0)]) fun r28 =>
 Option.bind (K_loops_Of r28) fun r37 =>
 Option.bind (K_loops_Bound r28) fun r43 =>
 if r14.2 != 0 then
  none
 else
  if r20.2 != 0 then
   none
  else
   if r37.2 != 0 then
    none
   else
    if r43.2 != 0 then
     none
    else
     if (r14.1.length : Int) != 6 then
      none
     else
      if (r37.1.length : Int) != 5 then
       some false
      else
       Option.bind (idxO r14.1 3) fun x58 =>
       Option.bind (K_raddleref26_SameInts x58.Parents ([1] : List Int)) fun r69 =>
       if r69 then
        Option.bind (idxO r14.1 4) fun x72 =>
        Option.bind (K_raddleref26_SameInts x72.Parents ([2] : List Int)) fun r83 =>
        if r83 then
         Option.bind (idxO r14.1 5) fun x86 =>
         Option.bind (K_raddleref26_SameInts x86.Parents ([0] : List Int)) fun r97 =>
         if r97 then
          Option.bind (K_raddleref27_SamePairs r20.1 [(5, 3), (5, 4)]) fun r102 =>
          if r102 then
           Option.bind (idxO r37.1 3) fun x106 =>
           Option.bind (K_raddleref26_SameInts x106.Parents ([0, 1] : List Int)) fun r117 =>
           if r117 then
            Option.bind (idxO r37.1 4) fun x120 =>
            if (x120.Parents.length : Int) == 0 then
             Option.bind (K_raddleref26_SameInts r43.1 ([2] : List Int)) fun r132 =>
             some r132
            else
             none
           else
            none
          else
           none
         else
          none
        else
         none
       else
        none
theorem m_F_raddlelaw27_alive  : Le (K_raddlelaw27_alive) (F_raddlelaw27_alive) := by
 unfold K_raddlelaw27_alive F_raddlelaw27_alive
 with_reducible repeat' (first | exact m_F_raddlelaw27_one _ _ | exact m_F_loops_Of _ | exact m_F_loops_Crossings _ | exact m_F_loops_Bound _ | exact m_F_raddleref26_SameInts _ _ | exact m_F_raddleref27_SamePairs _ _ | exact Le.rfl _ | refine Le.loop _ ?_ | refine Le.bind ?_ ?_ | refine Le.ite ?_ ?_ | refine Le.sum ?_ ?_ | refine Le.prod ?_ | intro _ | exact Empty.elim (by assumption) | dsimp only)
set_option maxRecDepth 1000000 in
theorem k_raddlelaw27_alive : F_raddlelaw27_alive = some true := m_F_raddlelaw27_alive _ (by kernel_rfl)
theorem w64_of {x : Int} (h0 : -9223372036854775808 ≤ x) (h1 : x ≤ 9223372036854775807) : w64 x = x := w64_id ⟨h0, h1⟩
theorem w64_succ {k : Nat} (h : k < 9223372036854775807) : w64 ((k : Int) + 1) = ((k + 1 : Nat) : Int) := by
 rw [w64_of (by omega) (by omega)]; omega
theorem idxO_nat {α : Type} {xs : List α} {k : Nat} (h : k < xs.length) : idxO xs (k : Int) = some xs[k] := by
 simp [idxO, h]
theorem idxO_of {α : Type} {xs : List α} {i : Int} {k : Nat} (hi : i = (k : Int)) (h : k < xs.length) : idxO xs i = some xs[k] := by subst hi; exact idxO_nat h
theorem setO_nat {α : Type} {xs : List α} {k : Nat} {y : α} (h : k < xs.length) : setO xs (k : Int) y = some (xs.set k y) := by
 simp [setO, h]
theorem appO_of {α : Type} {xs ys : List α} (h : xs.length + ys.length ≤ 68719476736) : appO xs ys = some (xs ++ ys) := by
 simp [appO, lim, h]
theorem capO_of {n : Int} {k : Nat} (h : n = (k : Int)) (hk : k ≤ 68719476736) : capO n = some () := by
 subst h; simp [capO, lim, hk]
theorem makeO_of {α : Type} {n : Int} {z : α} {k : Nat} (h : n = (k : Int)) (hk : k ≤ 68719476736) : makeO n z = some (List.replicate k z) := by
 subst h; simp [makeO, lim, hk]
theorem sliceO_of {α : Type} {xs : List α} {lo hi : Int} {l k : Nat} (h1 : lo = l) (h2 : hi = k) (h3 : l ≤ k) (h4 : k ≤ xs.length) : sliceO xs lo hi = some ((xs.take k).drop l) := by
 subst h1 h2; simp [sliceO, h3, h4]
theorem loop_ix {τ : Type} {B : Int → Option (Int ⊕ τ)} (n : Nat) (I : Nat → Prop) (Pt : τ → Prop) (h0 : I 0)
 (step : ∀ k, k < n → I k → (B (k : Int) = some (.inl ((k + 1 : Nat) : Int)) ∧ I (k + 1)) ∨ (∃ t, B (k : Int) = some (.inr t) ∧ Pt t))
 (last : I n → ∃ t, B (n : Int) = some (.inr t) ∧ Pt t) : ∃ t, whileO B 0 = some t ∧ Pt t := by
 refine whileO_inv (fun s => ∃ k : Nat, k ≤ n ∧ s = (k : Int) ∧ I k) (fun s => ((n : Int) - s).toNat) Pt ⟨0, Nat.zero_le _, rfl, h0⟩ ?_
 rintro i ⟨k, hk, rfl, hI⟩
 by_cases hlt : k < n
 ·rcases step k hlt hI with ⟨h1, h2⟩ | h
  ·exact .inl ⟨_, h1, ⟨k + 1, hlt, rfl, h2⟩, by simp; omega⟩
  ·exact .inr h
 ·obtain rfl : k = n := by omega
  exact .inr (last hI)
theorem loop_all {τ : Type} {B : Int → Option (Int ⊕ τ)} (n : Nat) (p : Nat → Bool) (good bad : τ)
 (h : ∀ k, k < n → B (k : Int) = some (if p k = true then .inl ((k + 1 : Nat) : Int) else .inr bad)) (hn : B (n : Int) = some (.inr good)) :
 whileO B 0 = some (if (List.range n).all p = true then good else bad) := by
 have key : ∃ t, whileO B 0 = some t ∧ t = if (List.range n).all p = true then good else bad := by
  refine loop_ix n (fun k => ∀ j, j < k → p j = true) _ (fun j h => absurd h (Nat.not_lt_zero j)) ?_ ?_
  ·intro k hk hI
   cases hf : p k with
   | true =>
    refine .inl ⟨by rw [h k hk, if_pos hf], fun j hj => ?_⟩
    by_cases e : j = k
    ·rw [e]; exact hf
    ·exact hI j (by omega)
   | false =>
    refine .inr ⟨bad, by rw [h k hk, hf]; simp, ?_⟩
    rw [if_neg]
    intro hc
    rw [List.all_eq_true] at hc
    have := hc k (List.mem_range.2 hk)
    rw [hf] at this; cases this
  ·intro hI
   refine ⟨good, hn, ?_⟩
   rw [if_pos]
   rw [List.all_eq_true]
   exact fun j hj => hI j (List.mem_range.1 hj)
 obtain ⟨t, h1, rfl⟩ := key
 exact h1
theorem dT {p : Prop} [Decidable p] (h : p) : decide p = true := decide_eq_true h
theorem dF {p : Prop} [Decidable p] (h : ¬ p) : decide p = false := decide_eq_false h
theorem bT {a b : Int} (h : a = b) : (a == b) = true := by simp [h]
theorem bF {a b : Int} (h : ¬ a = b) : (a == b) = false := by simp [h]
theorem nT {a b : Int} (h : ¬ a = b) : (a != b) = true := by simp [h]
theorem nF {a b : Int} (h : a = b) : (a != b) = false := by simp [h]
def Fill {α : Type} (n : Nat) (f : Nat → α) (k : Nat) (s : List α) : Prop := s.length = n ∧ ∀ j, j < k → s[j]? = some (f j)
theorem Fill.zero {α : Type} (n : Nat) (f : Nat → α) (z : α) : Fill n f 0 (List.replicate n z) := ⟨by simp, fun j hj => absurd hj (Nat.not_lt_zero j)⟩
theorem Fill.set {α : Type} {n : Nat} {f : Nat → α} {k : Nat} {s : List α} (h : Fill n f k s) (hk : k < n) : Fill n f (k + 1) (s.set k (f k)) := by
 refine ⟨by simp [h.1], fun j hj => ?_⟩
 by_cases e : j = k
 ·subst e; simp [h.1, hk]
 ·rw [List.getElem?_set_ne (fun h => e h.symm)]; exact h.2 j (by omega)
theorem Fill.all {α : Type} {n : Nat} {f : Nat → α} {s : List α} (h : Fill n f n s) : s = (List.range n).map f := by
 apply List.ext_getElem?
 intro j
 by_cases hj : j < n
 ·rw [h.2 j hj]; simp [hj]
 ·rw [List.getElem?_eq_none (by rw [h.1]; omega), List.getElem?_eq_none (by simp; omega)]
noncomputable def F_raddleref25_Used (p0 : api_Stitch) : Option Int :=
 Option.bind (α := Bool) (
  if p0.Kind == 2 then
   some (p0.Kind == 2)
  else
   some (p0.Kind == 9)) fun o5 =>
 if o5 then
  some 0
 else
  Option.bind (α := Bool) (
   if p0.Kind == 3 then
    some (p0.Kind == 3)
   else
    if p0.Kind == 4 then
     some (p0.Kind == 4)
    else
     some (p0.Kind == 10)) fun a0 =>
  if a0 then
   some p0.A
  else
   Option.bind (α := Bool) (
    if p0.Kind == 6 then
     some (p0.Kind == 6)
    else
     some (p0.Kind == 7)) fun a4 =>
   if a4 then
    some (w64 (p0.A + p0.B))
   else
    some 1
theorem c_raddleref25_Used (E : Nat → Prop) (w0 : World) (p0 : api_Stitch) (v0 : Value) (r : Int) (h : F_raddleref25_Used p0 = some r) (S : St0 E [] w0 w0 [] [fRep r_api_Stitch (v0) p0]) :
 Calls Try.prog 46 #[v0] w0 (Ret (X := Unit) E [] w0 (fun _ => .int .i64 r) (fun _ => []) (fun _ => [])) := by
 unfold F_raddleref25_Used at h
 obtain rfl : v0 = .agg #[.int .u8 p0.Kind, .bool p0.Purl, iv p0.A, iv p0.B] := S.know (i := 0) (e := fRep r_api_Stitch (v0) p0) rfl
 refine sEnter (args := [.agg #[.int .u8 p0.Kind, .bool p0.Purl, iv p0.A, iv p0.B]]) 22 Try.func46 rfl rfl (by simp) S (fun a S => ?_)
 refine sSeq (fun K1 ak => sRegion (sBox (v := .agg #[.int .u8 p0.Kind, .bool p0.Purl, iv p0.A, iv p0.B]) S (wN rfl) rfl rfl [.int .u8 p0.Kind, .bool p0.Purl, iv p0.A, iv p0.B] rfl rfl (lb rfl) fun a b2 w S => ?_))
 refine sN S fun a S => ?_
 refine lT (ak _ _ (sSeq (fun K3 al => sSeq (fun K4 am => sRegion (sField (b := b2) (off := 0) 0 0 S (wN rfl) rfl rfl rfl rfl rfl (lb rfl) fun a S => ?_)))))
 refine sLoad1 0 (.int .u8 p0.Kind) S (wN rfl) rfl rfl rfl rfl rfl rfl (lb rfl) fun a S => ?_
 refine lT (am _ _ (wp_block ?_))
 obtain ⟨t6, h, g7⟩ := bS h
 refine sCut (fun a w => ∃ o5, o5 = t6 ∧ St [] E [] w0 22 a w [(1, .pointer (some ⟨b2, 0, none⟩)), (4, .int .u8 p0.Kind), (5, .bool o5)] [eBox b2 61 [.int .u8 p0.Kind, .bool p0.Purl, iv p0.A, iv p0.B]] []) ?_ (fun a w hI => ?_)
 ·refine sSeq (fun K8 ao => sRegion (sBin _ S (wN rfl) rfl rfl rfl (bEq _ _ _ _ .u8 p0.Kind 2) rfl (lb rfl) fun a S => ?_))
  refine sN S fun a S => ?_
  refine lT (ao _ _ ?_)
  rcases iS h with ⟨a9, h⟩ | ⟨a9, h⟩
  ·refine sCondT S rfl a9 ?_
   exact wp_skip (leafT (⟨p0.Kind == 2, Option.some.inj h, S.fix [0] [] (by decide) rfl rfl rfl⟩))
  refine sCondF S rfl a9 ?_
  refine sRegion (sBin _ S (wN rfl) rfl rfl rfl (bEq _ _ _ _ .u8 p0.Kind 9) rfl (lb rfl) fun a S => ?_)
  refine sN S fun a S => ?_
  exact lT (⟨p0.Kind == 9, Option.some.inj h, S.fix [0] [] (by decide) rfl rfl rfl⟩)
 obtain ⟨o5, rfl, S⟩ := hI
 have h := g7
 try dsimp only at h
 rcases iS h with ⟨a0, h⟩ | ⟨a0, h⟩
 ·refine sCondT S rfl a0 ?_
  refine sSeq (fun av aa => sRegion (sN S fun a S => ?_))
  refine lT (aa _ _ ?_)
  obtain rfl := tS h
  exact wp_ret (rBlock (rThen (sRet (iv 0) S (rsl1 rfl (rvT (t := 2) (v := iv 0) S rfl)) ⟨(), rfl, S.mem.sel [] [] (by decide) rfl rfl⟩)))
 refine sCondF S rfl a0 ?_
 obtain ⟨ap, h, aq⟩ := bS h
 refine sCut (fun a w => ∃ ab, ab = ap ∧ St [] E [] w0 22 a w [(1, .pointer (some ⟨b2, 0, none⟩)), (4, .int .u8 p0.Kind), (8, .bool ab)] [eBox b2 61 [.int .u8 p0.Kind, .bool p0.Purl, iv p0.A, iv p0.B]] []) ?_ (fun a w hI => ?_)
 ·refine sSeq (fun aw ac => sRegion (sBin _ S (wN rfl) rfl rfl rfl (bEq _ _ _ _ .u8 p0.Kind 3) rfl (lb rfl) fun a S => ?_))
  refine sN S fun a S => ?_
  refine lT (ac _ _ ?_)
  rcases iS h with ⟨a4, h⟩ | ⟨a4, h⟩
  ·refine sCondT S rfl a4 ?_
   exact wp_skip (leafT (⟨p0.Kind == 3, Option.some.inj h, S.fix [0] [] (by decide) rfl rfl rfl⟩))
  refine sCondF S rfl a4 ?_
  refine sSeq (fun ax ae => sRegion (sBin _ S (wN rfl) rfl rfl rfl (bEq _ _ _ _ .u8 p0.Kind 4) rfl (lb rfl) fun a S => ?_))
  refine sN S fun a S => ?_
  refine lT (ae _ _ ?_)
  rcases iS h with ⟨a5, h⟩ | ⟨a5, h⟩
  ·refine sCondT S rfl a5 ?_
   exact wp_skip (leafT (⟨p0.Kind == 4, Option.some.inj h, S.fix [0] [] (by decide) rfl rfl rfl⟩))
  refine sCondF S rfl a5 ?_
  refine sRegion (sBin _ S (wN rfl) rfl rfl rfl (bEq _ _ _ _ .u8 p0.Kind 10) rfl (lb rfl) fun a S => ?_)
  refine sN S fun a S => ?_
  exact lT (⟨p0.Kind == 10, Option.some.inj h, S.fix [0] [] (by decide) rfl rfl rfl⟩)
 obtain ⟨ab, rfl, S⟩ := hI
 have h := aq
 try dsimp only at h
 rcases iS h with ⟨a6, h⟩ | ⟨a6, h⟩
 ·refine sCondT S rfl a6 ?_
  refine sSeq (fun ay af => sRegion (sField (b := b2) (off := 0) 2 2 S (wN rfl) rfl rfl rfl rfl rfl (lb rfl) fun a S => ?_))
  refine sLoad1 0 (iv p0.A) S (wN rfl) rfl rfl rfl rfl rfl rfl (lb rfl) fun a S => ?_
  refine sN S fun a S => ?_
  refine lT (af _ _ ?_)
  obtain rfl := tS h
  exact wp_ret (rBlock (rThen (sRet (iv p0.A) S (rsl1 rfl (rvT (t := 2) (v := iv p0.A) S rfl)) ⟨(), rfl, S.mem.sel [] [] (by decide) rfl rfl⟩)))
 refine sCondF S rfl a6 ?_
 obtain ⟨ar, h, au⟩ := bS h
 refine sCut (fun a w => ∃ ag, ag = ar ∧ St [] E [] w0 22 a w [(1, .pointer (some ⟨b2, 0, none⟩)), (14, .bool ag)] [eBox b2 61 [.int .u8 p0.Kind, .bool p0.Purl, iv p0.A, iv p0.B]] []) ?_ (fun a w hI => ?_)
 ·refine sSeq (fun az ah => sRegion (sBin _ S (wN rfl) rfl rfl rfl (bEq _ _ _ _ .u8 p0.Kind 6) rfl (lb rfl) fun a S => ?_))
  refine sN S fun a S => ?_
  refine lT (ah _ _ ?_)
  rcases iS h with ⟨a7, h⟩ | ⟨a7, h⟩
  ·refine sCondT S rfl a7 ?_
   exact wp_skip (leafT (⟨p0.Kind == 6, Option.some.inj h, S.fix [0] [] (by decide) rfl rfl rfl⟩))
  refine sCondF S rfl a7 ?_
  refine sRegion (sBin _ S (wN rfl) rfl rfl rfl (bEq _ _ _ _ .u8 p0.Kind 7) rfl (lb rfl) fun a S => ?_)
  refine sN S fun a S => ?_
  exact lT (⟨p0.Kind == 7, Option.some.inj h, S.fix [0] [] (by decide) rfl rfl rfl⟩)
 obtain ⟨ag, rfl, S⟩ := hI
 have h := au
 try dsimp only at h
 rcases iS h with ⟨a8, h⟩ | ⟨a8, h⟩
 rotate_left
 ·refine sCondF S rfl a8 ?_
  refine wp_skip (leafB (leafT (al _ _ ?_)))
  refine sSeq (fun aA ai => sRegion (sN S fun a S => ?_))
  refine lT (ai _ _ ?_)
  obtain rfl := tS h
  exact wp_ret (sRet (iv 1) S (rsl1 rfl (rvT (t := 2) (v := iv 1) S rfl)) ⟨(), rfl, S.mem.sel [] [] (by decide) rfl rfl⟩)
 refine sCondT S rfl a8 ?_
 refine sSeq (fun aC aj => sRegion (sField (b := b2) (off := 0) 2 2 S (wN rfl) rfl rfl rfl rfl rfl (lb rfl) fun a S => ?_))
 refine sLoad1 0 (iv p0.A) S (wN rfl) rfl rfl rfl rfl rfl rfl (lb rfl) fun a S => ?_
 refine sField (b := b2) (off := 0) 3 3 S (wN rfl) rfl rfl rfl rfl rfl (lb rfl) fun a S => ?_
 refine sLoad1 0 (iv p0.B) S (wN rfl) rfl rfl rfl rfl rfl rfl (lb rfl) fun a S => ?_
 refine sBin _ S (wN rfl) rfl rfl rfl (bAdd _ _ _ _ p0.A p0.B) rfl (lb rfl) fun a S => ?_
 refine sN S fun a S => ?_
 refine lT (aj _ _ ?_)
 obtain rfl := tS h
 exact wp_ret (rBlock (rThen (sRet (iv (w64 (p0.A + p0.B))) S (rsl1 rfl (rvT (t := 2) (v := iv (w64 (p0.A + p0.B))) S rfl)) ⟨(), rfl, S.mem.sel [] [] (by decide) rfl rfl⟩)))
noncomputable def F_raddleref25_Gives (p0 : api_Stitch) : Option Int :=
 if p0.Kind == 10 then
  some 0
 else
  Option.bind (α := Bool) (
   if p0.Kind == 5 then
    some (p0.Kind == 5)
   else
    some (p0.Kind == 9)) fun o8 =>
  if o8 then
   some p0.A
  else
   Option.bind (α := Bool) (
    if p0.Kind == 6 then
     some (p0.Kind == 6)
    else
     some (p0.Kind == 7)) fun a0 =>
   if a0 then
    some (w64 (p0.A + p0.B))
   else
    some 1
theorem c_raddleref25_Gives (E : Nat → Prop) (w0 : World) (p0 : api_Stitch) (v0 : Value) (r : Int) (h : F_raddleref25_Gives p0 = some r) (S : St0 E [] w0 w0 [] [fRep r_api_Stitch (v0) p0]) :
 Calls Try.prog 63 #[v0] w0 (Ret (X := Unit) E [] w0 (fun _ => .int .i64 r) (fun _ => []) (fun _ => [])) := by
 unfold F_raddleref25_Gives at h
 obtain rfl : v0 = .agg #[.int .u8 p0.Kind, .bool p0.Purl, iv p0.A, iv p0.B] := S.know (i := 0) (e := fRep r_api_Stitch (v0) p0) rfl
 refine sEnter (args := [.agg #[.int .u8 p0.Kind, .bool p0.Purl, iv p0.A, iv p0.B]]) 20 Try.func63 rfl rfl (by simp) S (fun a S => ?_)
 refine sSeq (fun K1 af => sRegion (sBox (v := .agg #[.int .u8 p0.Kind, .bool p0.Purl, iv p0.A, iv p0.B]) S (wN rfl) rfl rfl [.int .u8 p0.Kind, .bool p0.Purl, iv p0.A, iv p0.B] rfl rfl (lb rfl) fun a b2 w S => ?_))
 refine sN S fun a S => ?_
 refine lT (af _ _ (sSeq (fun K3 ag => sSeq (fun K4 ah => sRegion (sField (b := b2) (off := 0) 0 0 S (wN rfl) rfl rfl rfl rfl rfl (lb rfl) fun a S => ?_)))))
 refine sLoad1 0 (.int .u8 p0.Kind) S (wN rfl) rfl rfl rfl rfl rfl rfl (lb rfl) fun a S => ?_
 refine lT (ah _ _ (wp_block ?_))
 refine sSeq (fun K5 ai => sRegion (sBin _ S (wN rfl) rfl rfl rfl (bEq _ _ _ _ .u8 p0.Kind 10) rfl (lb rfl) fun a S => ?_))
 refine sN S fun a S => ?_
 refine lT (ai _ _ ?_)
 rcases iS h with ⟨a7, h⟩ | ⟨a7, h⟩
 ·refine sCondT S rfl a7 ?_
  refine sSeq (fun K7 aj => sRegion (sN S fun a S => ?_))
  refine lT (aj _ _ ?_)
  obtain rfl := tS h
  exact wp_ret (rBlock (rThen (sRet (iv 0) S (rsl1 rfl (rvT (t := 2) (v := iv 0) S rfl)) ⟨(), rfl, S.mem.sel [] [] (by decide) rfl rfl⟩)))
 refine sCondF S rfl a7 ?_
 obtain ⟨t9, h, ak⟩ := bS h
 refine sCut (fun a w => ∃ o8, o8 = t9 ∧ St [] E [] w0 20 a w [(1, .pointer (some ⟨b2, 0, none⟩)), (4, .int .u8 p0.Kind), (7, .bool o8)] [eBox b2 61 [.int .u8 p0.Kind, .bool p0.Purl, iv p0.A, iv p0.B]] []) ?_ (fun a w hI => ?_)
 ·refine sSeq (fun ao a8 => sRegion (sBin _ S (wN rfl) rfl rfl rfl (bEq _ _ _ _ .u8 p0.Kind 5) rfl (lb rfl) fun a S => ?_))
  refine sN S fun a S => ?_
  refine lT (a8 _ _ ?_)
  rcases iS h with ⟨a0, h⟩ | ⟨a0, h⟩
  ·refine sCondT S rfl a0 ?_
   exact wp_skip (leafT (⟨p0.Kind == 5, Option.some.inj h, S.fix [0] [] (by decide) rfl rfl rfl⟩))
  refine sCondF S rfl a0 ?_
  refine sRegion (sBin _ S (wN rfl) rfl rfl rfl (bEq _ _ _ _ .u8 p0.Kind 9) rfl (lb rfl) fun a S => ?_)
  refine sN S fun a S => ?_
  exact lT (⟨p0.Kind == 9, Option.some.inj h, S.fix [0] [] (by decide) rfl rfl rfl⟩)
 obtain ⟨o8, rfl, S⟩ := hI
 have h := ak
 try dsimp only at h
 rcases iS h with ⟨a4, h⟩ | ⟨a4, h⟩
 ·refine sCondT S rfl a4 ?_
  refine sSeq (fun ap a9 => sRegion (sField (b := b2) (off := 0) 2 2 S (wN rfl) rfl rfl rfl rfl rfl (lb rfl) fun a S => ?_))
  refine sLoad1 0 (iv p0.A) S (wN rfl) rfl rfl rfl rfl rfl rfl (lb rfl) fun a S => ?_
  refine sN S fun a S => ?_
  refine lT (a9 _ _ ?_)
  obtain rfl := tS h
  exact wp_ret (rBlock (rThen (sRet (iv p0.A) S (rsl1 rfl (rvT (t := 2) (v := iv p0.A) S rfl)) ⟨(), rfl, S.mem.sel [] [] (by decide) rfl rfl⟩)))
 refine sCondF S rfl a4 ?_
 obtain ⟨al, h, am⟩ := bS h
 refine sCut (fun a w => ∃ aa, aa = al ∧ St [] E [] w0 20 a w [(1, .pointer (some ⟨b2, 0, none⟩)), (12, .bool aa)] [eBox b2 61 [.int .u8 p0.Kind, .bool p0.Purl, iv p0.A, iv p0.B]] []) ?_ (fun a w hI => ?_)
 ·refine sSeq (fun aq ab => sRegion (sBin _ S (wN rfl) rfl rfl rfl (bEq _ _ _ _ .u8 p0.Kind 6) rfl (lb rfl) fun a S => ?_))
  refine sN S fun a S => ?_
  refine lT (ab _ _ ?_)
  rcases iS h with ⟨a5, h⟩ | ⟨a5, h⟩
  ·refine sCondT S rfl a5 ?_
   exact wp_skip (leafT (⟨p0.Kind == 6, Option.some.inj h, S.fix [0] [] (by decide) rfl rfl rfl⟩))
  refine sCondF S rfl a5 ?_
  refine sRegion (sBin _ S (wN rfl) rfl rfl rfl (bEq _ _ _ _ .u8 p0.Kind 7) rfl (lb rfl) fun a S => ?_)
  refine sN S fun a S => ?_
  exact lT (⟨p0.Kind == 7, Option.some.inj h, S.fix [0] [] (by decide) rfl rfl rfl⟩)
 obtain ⟨aa, rfl, S⟩ := hI
 have h := am
 try dsimp only at h
 rcases iS h with ⟨a6, h⟩ | ⟨a6, h⟩
 rotate_left
 ·refine sCondF S rfl a6 ?_
  refine wp_skip (leafB (leafT (ag _ _ ?_)))
  refine sSeq (fun ar ac => sRegion (sN S fun a S => ?_))
  refine lT (ac _ _ ?_)
  obtain rfl := tS h
  exact wp_ret (sRet (iv 1) S (rsl1 rfl (rvT (t := 2) (v := iv 1) S rfl)) ⟨(), rfl, S.mem.sel [] [] (by decide) rfl rfl⟩)
 refine sCondT S rfl a6 ?_
 refine sSeq (fun au ae => sRegion (sField (b := b2) (off := 0) 2 2 S (wN rfl) rfl rfl rfl rfl rfl (lb rfl) fun a S => ?_))
 refine sLoad1 0 (iv p0.A) S (wN rfl) rfl rfl rfl rfl rfl rfl (lb rfl) fun a S => ?_
 refine sField (b := b2) (off := 0) 3 3 S (wN rfl) rfl rfl rfl rfl rfl (lb rfl) fun a S => ?_
 refine sLoad1 0 (iv p0.B) S (wN rfl) rfl rfl rfl rfl rfl rfl (lb rfl) fun a S => ?_
 refine sBin _ S (wN rfl) rfl rfl rfl (bAdd _ _ _ _ p0.A p0.B) rfl (lb rfl) fun a S => ?_
 refine sN S fun a S => ?_
 refine lT (ae _ _ ?_)
 obtain rfl := tS h
 exact wp_ret (rBlock (rThen (sRet (iv (w64 (p0.A + p0.B))) S (rsl1 rfl (rvT (t := 2) (v := iv (w64 (p0.A + p0.B))) S rfl)) ⟨(), rfl, S.mem.sel [] [] (by decide) rfl rfl⟩)))
noncomputable def raddleref25_sums_l1 (p0 : (List api_Stitch)) : (Int × Int × Int) → Option ((Int × Int × Int) ⊕ (Int × Int)) := fun s0 => match s0 with
 | (a4, a5, a0) =>
  if decide (a0 < (p0.length : Int)) then
   (idxO p0 a0).bind fun a6 =>
   (F_raddleref25_Used a6).bind fun a7 =>
   (F_raddleref25_Gives a6).bind fun a8 =>
   some (.inl (w64 (a4 + a7), w64 (a5 + a8), w64 (a0 + 1)))
  else
   some (.inr (a4, a5))
noncomputable def F_raddleref25_sums (p0 : (List api_Stitch)) : Option (Int × Int) :=
 Option.bind (α := (Int × Int)) (
  (whileO (raddleref25_sums_l1 p0) (0, 0, 0)).bind fun (a0, a4) =>
   some (a0, a4)) fun (o5, o6) =>
 some (o5, o6)
theorem c_raddleref25_sums (E : Nat → Prop) (w0 : World) (p0 : (List api_Stitch)) (v0 : Value) (r : (Int × Int)) (h : F_raddleref25_sums p0 = some r) (S : St0 E [] w0 w0 [] [fRep (rL r_api_Stitch) (v0) p0]) :
 Calls Try.prog 49 #[v0] w0 (Ret (X := Unit) E [] w0 (fun _ => .tuple #[.int .i64 r.1, .int .i64 r.2]) (fun _ => []) (fun _ => [])) := by
 unfold F_raddleref25_sums at h
 obtain ⟨a6, a7, _, rfl, _⟩ := S.know (i := 0) (e := fRep (rL r_api_Stitch) (v0) p0) rfl
 refine sEnter (args := [.slice a6 p0.length a7]) 29 Try.func49 rfl rfl (by simp) S (fun a S => ?_)
 refine sSeq (fun K3 av => sRegion (sN S fun a S => ?_))
 refine sN S fun a S => ?_
 refine lT (av _ _ (sSeq (fun K4 aw => sRegion (sN S fun a S => ?_))))
 refine sN S fun a S => ?_
 refine lT (aw _ _ ?_)
 obtain ⟨t7, h, g8⟩ := bS h
 refine sCut (fun a w => ∃ o5, ∃ o6, (o5, o6) = t7 ∧ St [] E [] w0 29 a w [(4, iv o5), (5, iv o6)] [] []) ?_ (fun a w hI => ?_)
 rotate_left
 ·obtain ⟨o5, o6, rfl, S⟩ := hI
  have h := g8
  try dsimp only at h
  refine sSeq (fun az ae => sRegion (sM S fun a S => ?_))
  refine sM S fun a S => ?_
  refine sN S fun a S => ?_
  refine sN S fun a S => ?_
  refine lT (ae _ _ ?_)
  obtain rfl := tS h
  exact wp_ret (sRet (.tuple #[iv o5, iv o6]) S (rsl2 rfl (rvT (t := 2) (v := iv o5) S rfl) (rvT (t := 3) (v := iv o6) S rfl)) ⟨(), rfl, S.mem.sel [] [] (by decide) rfl rfl⟩)
 refine sSeq (fun K9 ax => sRegion (sN S fun a S => ?_))
 refine lT (ax _ _ (wp_block ?_))
 obtain ⟨aA, hl, ay⟩ := bS h
 refine sLoop hl (fun s0 a w => match s0 with | (a8, a9, a4) => St [] E [] w0 29 a w [(0, .slice a6 p0.length a7), (4, iv a8), (5, iv a9), (6, iv a4)] [] [fRep (rL r_api_Stitch) (.slice a6 p0.length a7) p0]) (S.fix [] [0] (by decide) rfl rfl rfl) ?_
 clear hl h
 intro s0 a w c0 hI h af
 obtain ⟨a8, a9, a4⟩ := s0
 unfold raddleref25_sums_l1 at h
 dsimp only at h hI
 have S := hI
 refine sSeq (fun aC ag => sSeq (fun aG ah => sRegion (sM S fun a S => ?_)))
 refine sM S fun a S => ?_
 refine sLen S (wN rfl) rfl Try.underlying62 rfl rfl (lb rfl) fun a S => ?_
 refine sBin _ S (wN rfl) rfl rfl rfl (bLt _ _ _ _ .i64 a4 (p0.length : Int)) rfl (lb rfl) fun a S => ?_
 refine lT (ah _ _ ?_)
 rcases iS h with ⟨a5, h⟩ | ⟨a5, h⟩
 rotate_left
 ·refine sCondF S rfl a5 ?_
  obtain rfl := tS h
  obtain rfl := af _ rfl
  have h := ay
  try dsimp only at h
  exact wp_exit (xThen (xThen (xHit (leafT (⟨a8, a9, Option.some.inj h, S.fix [] [] (by decide) rfl rfl rfl⟩)))))
 refine sCondT S rfl a5 ?_
 refine wp_skip (leafT (ag _ _ ?_))
 refine sSeq (fun aH ai => wp_block ?_)
 refine sSeq (fun aI aj => sRegion (sM S fun a S => ?_))
 refine sM S fun a S => ?_
 refine sM S fun a S => ?_
 obtain ⟨a0, aa, h⟩ := bS h
 obtain ⟨ap, ak, S⟩ := pIdx (P := Try.prog) (r := r_api_Stitch) (v := .slice a6 p0.length a7) (xs := p0) (j := a4) 62 61 0 S Try.underlying62 rfl rfl aa
 refine sIdxV S (wN rfl) rfl rfl rfl ak rfl (lb rfl) fun a S => ?_
 obtain ⟨aq, S⟩ := pLoad (r := r_api_Stitch) (q := ap) (x := a0) 0 S rfl
 obtain rfl : aq = .agg #[.int .u8 a0.Kind, .bool a0.Purl, iv a0.A, iv a0.B] := S.mem.know (i := 1) (e := fRep r_api_Stitch (aq) a0) rfl
 refine sLoadVN (vq := ap) 0 [.int .u8 a0.Kind, .bool a0.Purl, iv a0.A, iv a0.B] S (wN rfl) rfl rfl rfl rfl rfl rfl (lb rfl) fun a S => ?_
 obtain ⟨ab, al, h⟩ := bS h
 have S1 := S.mem
 refine sCq [.agg #[.int .u8 a0.Kind, .bool a0.Purl, iv a0.A, iv a0.B]] (iv ab) S callee46 (S1.quiet [1] rfl) (fun E1 w1 S1 => c_raddleref25_Used E1 w1 a0 (.agg #[.int .u8 a0.Kind, .bool a0.Purl, iv a0.A, iv a0.B]) ab al S1) fun a w S => ?_
 refine sBin _ S (wN rfl) rfl rfl rfl (bAdd _ _ _ _ a8 ab) rfl (lb rfl) fun a S => ?_
 refine sN S fun a S => ?_
 refine lT (aj _ _ (sRegion (sM S fun a S => ?_)))
 refine sM S fun a S => ?_
 refine sM S fun a S => ?_
 obtain ⟨ar, am, S⟩ := pIdx (P := Try.prog) (r := r_api_Stitch) (v := .slice a6 p0.length a7) (xs := p0) (j := a4) 62 61 3 S Try.underlying62 rfl rfl aa
 refine sIdxV S (wN rfl) rfl rfl rfl am rfl (lb rfl) fun a S => ?_
 obtain ⟨au, S⟩ := pLoad (r := r_api_Stitch) (q := ar) (x := a0) 0 S rfl
 obtain rfl : au = .agg #[.int .u8 a0.Kind, .bool a0.Purl, iv a0.A, iv a0.B] := S.mem.know (i := 1) (e := fRep r_api_Stitch (au) a0) rfl
 refine sLoadVN (vq := ar) 0 [.int .u8 a0.Kind, .bool a0.Purl, iv a0.A, iv a0.B] S (wN rfl) rfl rfl rfl rfl rfl rfl (lb rfl) fun a S => ?_
 obtain ⟨ac, ao, h⟩ := bS h
 have S1 := S.mem
 refine sCq [.agg #[.int .u8 a0.Kind, .bool a0.Purl, iv a0.A, iv a0.B]] (iv ac) S callee63 (S1.quiet [1] rfl) (fun E1 w1 S1 => c_raddleref25_Gives E1 w1 a0 (.agg #[.int .u8 a0.Kind, .bool a0.Purl, iv a0.A, iv a0.B]) ac ao S1) fun a w S => ?_
 refine sBin _ S (wN rfl) rfl rfl rfl (bAdd _ _ _ _ a9 ac) rfl (lb rfl) fun a S => ?_
 refine sN S fun a S => ?_
 refine leafL (leafB (leafT (ai _ _ ?_)))
 refine sRegion (sM S fun a S => ?_)
 refine sBin _ S (wN rfl) rfl rfl rfl (bAdd _ _ _ _ a4 1) rfl (lb rfl) fun a S => ?_
 refine sN S fun a S => ?_
 exact lT (⟨(w64 (a8 + ab), w64 (a9 + ac), w64 (a4 + 1)), (Option.some.inj h).symm, (S.fix [] [6] (by decide) rfl rfl rfl)⟩)
noncomputable def F_raddleref25_Check (p0 : api_Stitch) : Option Int :=
 Option.bind (α := Bool) (
  if p0.A == 0 then
   some (p0.B == 0)
  else
   some false) fun o3 =>
 Option.bind (α := Bool) (
  Option.bind (α := Bool) (
   if p0.Kind == 1 then
    some (p0.Kind == 1)
   else
    some (p0.Kind == 8)) fun a0 =>
  if a0 then
   some o3
  else
   if p0.Kind == 2 then
    if o3 then
     some (!p0.Purl)
    else
     some false
   else
    Option.bind (α := Bool) (
     if p0.Kind == 3 then
      some (p0.Kind == 3)
     else
      if p0.Kind == 4 then
       some (p0.Kind == 4)
      else
       some (p0.Kind == 5)) fun a4 =>
    if a4 then
     if p0.B == 0 then
      if decide (2 ≤ p0.A) then
       some (decide (p0.A ≤ 4))
      else
       some false
     else
      some false
    else
     Option.bind (α := Bool) (
      if p0.Kind == 6 then
       some (p0.Kind == 6)
      else
       some (p0.Kind == 7)) fun a5 =>
     if a5 then
      if decide (1 ≤ p0.A) then
       if decide (p0.A ≤ 6) then
        if decide (1 ≤ p0.B) then
         some (decide (p0.B ≤ 6))
        else
         some false
       else
        some false
      else
       some false
     else
      if p0.Kind == 9 then
       if p0.B == 0 then
        if !p0.Purl then
         if decide (1 ≤ p0.A) then
          some (decide (p0.A ≤ 200))
         else
          some false
        else
         some false
       else
        some false
      else
       if p0.Kind == 10 then
        if p0.B == 0 then
         if decide (1 ≤ p0.A) then
          some (decide (p0.A ≤ 200))
         else
          some false
        else
         some false
       else
        some false) fun o8 =>
 if !o8 then
  some 8
 else
  some 0
theorem c_raddleref25_Check (E : Nat → Prop) (w0 : World) (p0 : api_Stitch) (v0 : Value) (r : Int) (h : F_raddleref25_Check p0 = some r) (S : St0 E [] w0 w0 [] [fRep r_api_Stitch (v0) p0]) :
 Calls Try.prog 62 #[v0] w0 (Ret (X := Unit) E [] w0 (fun _ => .int .i64 r) (fun _ => []) (fun _ => [])) := by
 unfold F_raddleref25_Check at h
 obtain rfl : v0 = .agg #[.int .u8 p0.Kind, .bool p0.Purl, iv p0.A, iv p0.B] := S.know (i := 0) (e := fRep r_api_Stitch (v0) p0) rfl
 refine sEnter (args := [.agg #[.int .u8 p0.Kind, .bool p0.Purl, iv p0.A, iv p0.B]]) 102 Try.func62 rfl rfl (by simp) S (fun a S => ?_)
 refine sSeq (fun K1 aO => sRegion (sBox (v := .agg #[.int .u8 p0.Kind, .bool p0.Purl, iv p0.A, iv p0.B]) S (wN rfl) rfl rfl [.int .u8 p0.Kind, .bool p0.Purl, iv p0.A, iv p0.B] rfl rfl (lb rfl) fun a b2 w S => ?_))
 refine sN S fun a S => ?_
 refine lT (aO _ _ ?_)
 obtain ⟨t4, h, g5⟩ := bS h
 refine sCut (fun a w => ∃ o3, o3 = t4 ∧ St [] E [] w0 102 a w [(1, .pointer (some ⟨b2, 0, none⟩)), (3, .bool o3)] [eBox b2 61 [.int .u8 p0.Kind, .bool p0.Purl, iv p0.A, iv p0.B]] []) ?_ (fun a w hI => ?_)
 ·refine sRegion (sField (b := b2) (off := 0) 2 2 S (wN rfl) rfl rfl rfl rfl rfl (lb rfl) fun a S => ?_)
  refine sLoad1 0 (iv p0.A) S (wN rfl) rfl rfl rfl rfl rfl rfl (lb rfl) fun a S => ?_
  refine sBin _ S (wN rfl) rfl rfl rfl (bEq _ _ _ _ .i64 p0.A 0) rfl (lb rfl) fun a S => ?_
  refine sM S fun a S => ?_
  rcases iS h with ⟨af, h⟩ | ⟨af, h⟩
  rotate_left
  ·refine sSkN 3 3 true 8 S rfl rfl af rfl fun a S => ?_
   refine sPickF (.bool false) S (wN rfl) rfl rfl af rfl rfl (lb rfl) fun a S => ?_
   refine sN S fun a S => ?_
   exact lT (⟨false, Option.some.inj h, S.fix [0] [] (by decide) rfl rfl rfl⟩)
  refine sField (b := b2) (off := 0) 3 3 S (wG 3 true 8 rfl rfl rfl af) rfl rfl rfl rfl rfl (lb rfl) fun a S => ?_
  refine sLoad1 0 (iv p0.B) S (wG 3 true 8 rfl rfl rfl af) rfl rfl rfl rfl rfl rfl (lb rfl) fun a S => ?_
  refine sBin _ S (wG 3 true 8 rfl rfl rfl af) rfl rfl rfl (bEq _ _ _ _ .i64 p0.B 0) rfl (lb rfl) fun a S => ?_
  refine sPickT (.bool (p0.B == 0)) S (wN rfl) rfl rfl af rfl rfl (lb rfl) fun a S => ?_
  refine sN S fun a S => ?_
  exact lT (⟨p0.B == 0, Option.some.inj h, S.fix [0] [] (by decide) rfl rfl rfl⟩)
 obtain ⟨o3, rfl, S⟩ := hI
 have h := g5
 try dsimp only at h
 refine sSeq (fun K7 aP => sRegion (sN S fun a S => ?_))
 refine lT (aP _ _ ?_)
 obtain ⟨t9, h, aQ⟩ := bS h
 refine sCut (fun a w => ∃ o8, o8 = t9 ∧ St [] E [] w0 102 a w [(4, .bool o8)] [] []) ?_ (fun a w hI => ?_)
 rotate_left
 ·obtain ⟨o8, rfl, S⟩ := hI
  have h := aQ
  try dsimp only at h
  refine sSeq (fun aX au => sSeq (fun aZ av => sRegion (sM S fun a S => ?_)))
  refine sNot (b := o8) S (wN rfl) rfl rfl rfl (lb rfl) fun a S => ?_
  refine lT (av _ _ ?_)
  rcases iS h with ⟨ag, h⟩ | ⟨ag, h⟩
  ·refine sCondT S rfl ag ?_
   refine sSeq (fun ba aw => sRegion (sN S fun a S => ?_))
   refine lT (aw _ _ ?_)
   obtain rfl := tS h
   exact wp_ret (rThen (sRet (iv 8) S (rsl1 rfl (rvT (t := 2) (v := iv 8) S rfl)) ⟨(), rfl, S.mem.sel [] [] (by decide) rfl rfl⟩))
  refine sCondF S rfl ag ?_
  refine wp_skip (leafT (au _ _ ?_))
  refine sSeq (fun bb ax => sRegion (sN S fun a S => ?_))
  refine lT (ax _ _ ?_)
  obtain rfl := tS h
  exact wp_ret (sRet (iv 0) S (rsl1 rfl (rvT (t := 2) (v := iv 0) S rfl)) ⟨(), rfl, S.mem.sel [] [] (by decide) rfl rfl⟩)
 refine sSeq (fun bc ay => sRegion (sField (b := b2) (off := 0) 0 0 S (wN rfl) rfl rfl rfl rfl rfl (lb rfl) fun a S => ?_))
 refine sLoad1 0 (.int .u8 p0.Kind) S (wN rfl) rfl rfl rfl rfl rfl rfl (lb rfl) fun a S => ?_
 refine lT (ay _ _ (wp_block ?_))
 obtain ⟨aR, h, aS⟩ := bS h
 refine sCut (fun a w => ∃ az, az = aR ∧ St [] E [] w0 102 a w [(1, .pointer (some ⟨b2, 0, none⟩)), (3, .bool o3), (4, .bool false), (14, .int .u8 p0.Kind), (15, .bool az)] [eBox b2 61 [.int .u8 p0.Kind, .bool p0.Purl, iv p0.A, iv p0.B]] []) ?_ (fun a w hI => ?_)
 ·refine sSeq (fun bf aA => sRegion (sBin _ S (wN rfl) rfl rfl rfl (bEq _ _ _ _ .u8 p0.Kind 1) rfl (lb rfl) fun a S => ?_))
  refine sN S fun a S => ?_
  refine lT (aA _ _ ?_)
  rcases iS h with ⟨ah, h⟩ | ⟨ah, h⟩
  ·refine sCondT S rfl ah ?_
   exact wp_skip (leafT (⟨p0.Kind == 1, Option.some.inj h, S.fix [0] [] (by decide) rfl rfl rfl⟩))
  refine sCondF S rfl ah ?_
  refine sRegion (sBin _ S (wN rfl) rfl rfl rfl (bEq _ _ _ _ .u8 p0.Kind 8) rfl (lb rfl) fun a S => ?_)
  refine sN S fun a S => ?_
  exact lT (⟨p0.Kind == 8, Option.some.inj h, S.fix [0] [] (by decide) rfl rfl rfl⟩)
 obtain ⟨az, rfl, S⟩ := hI
 have h := aS
 try dsimp only at h
 rcases iS h with ⟨ai, h⟩ | ⟨ai, h⟩
 ·refine sCondT S rfl ai ?_
  refine sRegion (sM S fun a S => ?_)
  refine sN S fun a S => ?_
  exact leafL (leafB (leafT (⟨o3, Option.some.inj h, S.fix [] [] (by decide) rfl rfl rfl⟩)))
 refine sCondF S rfl ai ?_
 refine sSeq (fun bg aC => sRegion (sBin _ S (wN rfl) rfl rfl rfl (bEq _ _ _ _ .u8 p0.Kind 2) rfl (lb rfl) fun a S => ?_))
 refine sN S fun a S => ?_
 refine lT (aC _ _ ?_)
 rcases iS h with ⟨aj, h⟩ | ⟨aj, h⟩
 ·refine sCondT S rfl aj ?_
  refine sRegion (sM S fun a S => ?_)
  refine sM S fun a S => ?_
  rcases iS h with ⟨a0, h⟩ | ⟨a0, h⟩
  rotate_left
  ·refine sSkN 3 1 true 22 S rfl rfl a0 rfl fun a S => ?_
   refine sPickF (.bool false) S (wN rfl) rfl rfl a0 rfl rfl (lb rfl) fun a S => ?_
   refine sN S fun a S => ?_
   exact leafL (leafB (leafT (⟨false, Option.some.inj h, S.fix [] [] (by decide) rfl rfl rfl⟩)))
  refine sField (b := b2) (off := 0) 1 1 S (wG 1 true 22 rfl rfl rfl a0) rfl rfl rfl rfl rfl (lb rfl) fun a S => ?_
  refine sLoad1 0 (.bool p0.Purl) S (wG 1 true 22 rfl rfl rfl a0) rfl rfl rfl rfl rfl rfl (lb rfl) fun a S => ?_
  refine sNot (b := p0.Purl) S (wG 1 true 22 rfl rfl rfl a0) rfl rfl rfl (lb rfl) fun a S => ?_
  refine sPickT (.bool (!p0.Purl)) S (wN rfl) rfl rfl a0 rfl rfl (lb rfl) fun a S => ?_
  refine sN S fun a S => ?_
  exact leafL (leafB (leafT (⟨!p0.Purl, Option.some.inj h, S.fix [] [] (by decide) rfl rfl rfl⟩)))
 refine sCondF S rfl aj ?_
 obtain ⟨aT, h, aU⟩ := bS h
 refine sCut (fun a w => ∃ aG, aG = aT ∧ St [] E [] w0 102 a w [(1, .pointer (some ⟨b2, 0, none⟩)), (4, .bool false), (14, .int .u8 p0.Kind), (27, .bool aG)] [eBox b2 61 [.int .u8 p0.Kind, .bool p0.Purl, iv p0.A, iv p0.B]] []) ?_ (fun a w hI => ?_)
 ·refine sSeq (fun bh aH => sRegion (sBin _ S (wN rfl) rfl rfl rfl (bEq _ _ _ _ .u8 p0.Kind 3) rfl (lb rfl) fun a S => ?_))
  refine sN S fun a S => ?_
  refine lT (aH _ _ ?_)
  rcases iS h with ⟨ak, h⟩ | ⟨ak, h⟩
  ·refine sCondT S rfl ak ?_
   exact wp_skip (leafT (⟨p0.Kind == 3, Option.some.inj h, S.fix [0] [] (by decide) rfl rfl rfl⟩))
  refine sCondF S rfl ak ?_
  refine sSeq (fun bi aI => sRegion (sBin _ S (wN rfl) rfl rfl rfl (bEq _ _ _ _ .u8 p0.Kind 4) rfl (lb rfl) fun a S => ?_))
  refine sN S fun a S => ?_
  refine lT (aI _ _ ?_)
  rcases iS h with ⟨al, h⟩ | ⟨al, h⟩
  ·refine sCondT S rfl al ?_
   exact wp_skip (leafT (⟨p0.Kind == 4, Option.some.inj h, S.fix [0] [] (by decide) rfl rfl rfl⟩))
  refine sCondF S rfl al ?_
  refine sRegion (sBin _ S (wN rfl) rfl rfl rfl (bEq _ _ _ _ .u8 p0.Kind 5) rfl (lb rfl) fun a S => ?_)
  refine sN S fun a S => ?_
  exact lT (⟨p0.Kind == 5, Option.some.inj h, S.fix [0] [] (by decide) rfl rfl rfl⟩)
 obtain ⟨aG, rfl, S⟩ := hI
 have h := aU
 try dsimp only at h
 rcases iS h with ⟨am, h⟩ | ⟨am, h⟩
 ·refine sCondT S rfl am ?_
  refine sRegion (sField (b := b2) (off := 0) 3 3 S (wN rfl) rfl rfl rfl rfl rfl (lb rfl) fun a S => ?_)
  refine sLoad1 0 (iv p0.B) S (wN rfl) rfl rfl rfl rfl rfl rfl (lb rfl) fun a S => ?_
  refine sBin _ S (wN rfl) rfl rfl rfl (bEq _ _ _ _ .i64 p0.B 0) rfl (lb rfl) fun a S => ?_
  refine sM S fun a S => ?_
  rcases iS h with ⟨a4, h⟩ | ⟨a4, h⟩
  rotate_left
  ·refine sSkN 3 3 true 34 S rfl rfl a4 rfl fun a S => ?_
   refine sPickF (.bool false) S (wN rfl) rfl rfl a4 rfl rfl (lb rfl) fun a S => ?_
   refine sM S fun a S => ?_
   refine sSkN 3 8 true 39 S rfl rfl rfl rfl fun a S => ?_
   refine sPickF (.bool false) S (wN rfl) rfl rfl rfl rfl rfl (lb rfl) fun a S => ?_
   refine sN S fun a S => ?_
   exact leafL (leafB (leafT (⟨false, Option.some.inj h, S.fix [] [] (by decide) rfl rfl rfl⟩)))
  refine sField (b := b2) (off := 0) 2 2 S (wG 3 true 34 rfl rfl rfl a4) rfl rfl rfl rfl rfl (lb rfl) fun a S => ?_
  refine sLoad1 0 (iv p0.A) S (wG 3 true 34 rfl rfl rfl a4) rfl rfl rfl rfl rfl rfl (lb rfl) fun a S => ?_
  refine sBin _ S (wG 3 true 34 rfl rfl rfl a4) rfl rfl rfl (bGe _ _ _ _ .i64 p0.A 2) rfl (lb rfl) fun a S => ?_
  refine sPickT (.bool (decide (2 ≤ p0.A))) S (wN rfl) rfl rfl a4 rfl rfl (lb rfl) fun a S => ?_
  refine sM S fun a S => ?_
  rcases iS h with ⟨a5, h⟩ | ⟨a5, h⟩
  rotate_left
  ·refine sSkN 3 8 true 39 S rfl rfl a5 rfl fun a S => ?_
   refine sPickF (.bool false) S (wN rfl) rfl rfl a5 rfl rfl (lb rfl) fun a S => ?_
   refine sN S fun a S => ?_
   exact leafL (leafB (leafT (⟨false, Option.some.inj h, S.fix [] [] (by decide) rfl rfl rfl⟩)))
  refine sField (b := b2) (off := 0) 2 2 S (wG 8 true 39 rfl rfl rfl a5) rfl rfl rfl rfl rfl (lb rfl) fun a S => ?_
  refine sLoad1 0 (iv p0.A) S (wG 8 true 39 rfl rfl rfl a5) rfl rfl rfl rfl rfl rfl (lb rfl) fun a S => ?_
  refine sBin _ S (wG 8 true 39 rfl rfl rfl a5) rfl rfl rfl (bLe _ _ _ _ .i64 p0.A 4) rfl (lb rfl) fun a S => ?_
  refine sPickT (.bool (decide (p0.A ≤ 4))) S (wN rfl) rfl rfl a5 rfl rfl (lb rfl) fun a S => ?_
  refine sN S fun a S => ?_
  exact leafL (leafB (leafT (⟨decide (p0.A ≤ 4), Option.some.inj h, S.fix [] [] (by decide) rfl rfl rfl⟩)))
 refine sCondF S rfl am ?_
 obtain ⟨aV, h, aW⟩ := bS h
 refine sCut (fun a w => ∃ aJ, aJ = aV ∧ St [] E [] w0 102 a w [(1, .pointer (some ⟨b2, 0, none⟩)), (4, .bool false), (14, .int .u8 p0.Kind), (44, .bool aJ)] [eBox b2 61 [.int .u8 p0.Kind, .bool p0.Purl, iv p0.A, iv p0.B]] []) ?_ (fun a w hI => ?_)
 ·refine sSeq (fun bj aK => sRegion (sBin _ S (wN rfl) rfl rfl rfl (bEq _ _ _ _ .u8 p0.Kind 6) rfl (lb rfl) fun a S => ?_))
  refine sN S fun a S => ?_
  refine lT (aK _ _ ?_)
  rcases iS h with ⟨ao, h⟩ | ⟨ao, h⟩
  ·refine sCondT S rfl ao ?_
   exact wp_skip (leafT (⟨p0.Kind == 6, Option.some.inj h, S.fix [0] [] (by decide) rfl rfl rfl⟩))
  refine sCondF S rfl ao ?_
  refine sRegion (sBin _ S (wN rfl) rfl rfl rfl (bEq _ _ _ _ .u8 p0.Kind 7) rfl (lb rfl) fun a S => ?_)
  refine sN S fun a S => ?_
  exact lT (⟨p0.Kind == 7, Option.some.inj h, S.fix [0] [] (by decide) rfl rfl rfl⟩)
 obtain ⟨aJ, rfl, S⟩ := hI
 have h := aW
 try dsimp only at h
 rcases iS h with ⟨ap, h⟩ | ⟨ap, h⟩
 ·refine sCondT S rfl ap ?_
  refine sRegion (sField (b := b2) (off := 0) 2 2 S (wN rfl) rfl rfl rfl rfl rfl (lb rfl) fun a S => ?_)
  refine sLoad1 0 (iv p0.A) S (wN rfl) rfl rfl rfl rfl rfl rfl (lb rfl) fun a S => ?_
  refine sBin _ S (wN rfl) rfl rfl rfl (bGe _ _ _ _ .i64 p0.A 1) rfl (lb rfl) fun a S => ?_
  refine sM S fun a S => ?_
  rcases iS h with ⟨a6, h⟩ | ⟨a6, h⟩
  rotate_left
  ·refine sSkN 3 3 true 50 S rfl rfl a6 rfl fun a S => ?_
   refine sPickF (.bool false) S (wN rfl) rfl rfl a6 rfl rfl (lb rfl) fun a S => ?_
   refine sM S fun a S => ?_
   refine sSkN 3 8 true 55 S rfl rfl rfl rfl fun a S => ?_
   refine sPickF (.bool false) S (wN rfl) rfl rfl rfl rfl rfl (lb rfl) fun a S => ?_
   refine sM S fun a S => ?_
   refine sSkN 3 13 true 60 S rfl rfl rfl rfl fun a S => ?_
   refine sPickF (.bool false) S (wN rfl) rfl rfl rfl rfl rfl (lb rfl) fun a S => ?_
   refine sN S fun a S => ?_
   exact leafL (leafB (leafT (⟨false, Option.some.inj h, S.fix [] [] (by decide) rfl rfl rfl⟩)))
  refine sField (b := b2) (off := 0) 2 2 S (wG 3 true 50 rfl rfl rfl a6) rfl rfl rfl rfl rfl (lb rfl) fun a S => ?_
  refine sLoad1 0 (iv p0.A) S (wG 3 true 50 rfl rfl rfl a6) rfl rfl rfl rfl rfl rfl (lb rfl) fun a S => ?_
  refine sBin _ S (wG 3 true 50 rfl rfl rfl a6) rfl rfl rfl (bLe _ _ _ _ .i64 p0.A 6) rfl (lb rfl) fun a S => ?_
  refine sPickT (.bool (decide (p0.A ≤ 6))) S (wN rfl) rfl rfl a6 rfl rfl (lb rfl) fun a S => ?_
  refine sM S fun a S => ?_
  rcases iS h with ⟨a7, h⟩ | ⟨a7, h⟩
  rotate_left
  ·refine sSkN 3 8 true 55 S rfl rfl a7 rfl fun a S => ?_
   refine sPickF (.bool false) S (wN rfl) rfl rfl a7 rfl rfl (lb rfl) fun a S => ?_
   refine sM S fun a S => ?_
   refine sSkN 3 13 true 60 S rfl rfl rfl rfl fun a S => ?_
   refine sPickF (.bool false) S (wN rfl) rfl rfl rfl rfl rfl (lb rfl) fun a S => ?_
   refine sN S fun a S => ?_
   exact leafL (leafB (leafT (⟨false, Option.some.inj h, S.fix [] [] (by decide) rfl rfl rfl⟩)))
  refine sField (b := b2) (off := 0) 3 3 S (wG 8 true 55 rfl rfl rfl a7) rfl rfl rfl rfl rfl (lb rfl) fun a S => ?_
  refine sLoad1 0 (iv p0.B) S (wG 8 true 55 rfl rfl rfl a7) rfl rfl rfl rfl rfl rfl (lb rfl) fun a S => ?_
  refine sBin _ S (wG 8 true 55 rfl rfl rfl a7) rfl rfl rfl (bGe _ _ _ _ .i64 p0.B 1) rfl (lb rfl) fun a S => ?_
  refine sPickT (.bool (decide (1 ≤ p0.B))) S (wN rfl) rfl rfl a7 rfl rfl (lb rfl) fun a S => ?_
  refine sM S fun a S => ?_
  rcases iS h with ⟨a8, h⟩ | ⟨a8, h⟩
  rotate_left
  ·refine sSkN 3 13 true 60 S rfl rfl a8 rfl fun a S => ?_
   refine sPickF (.bool false) S (wN rfl) rfl rfl a8 rfl rfl (lb rfl) fun a S => ?_
   refine sN S fun a S => ?_
   exact leafL (leafB (leafT (⟨false, Option.some.inj h, S.fix [] [] (by decide) rfl rfl rfl⟩)))
  refine sField (b := b2) (off := 0) 3 3 S (wG 13 true 60 rfl rfl rfl a8) rfl rfl rfl rfl rfl (lb rfl) fun a S => ?_
  refine sLoad1 0 (iv p0.B) S (wG 13 true 60 rfl rfl rfl a8) rfl rfl rfl rfl rfl rfl (lb rfl) fun a S => ?_
  refine sBin _ S (wG 13 true 60 rfl rfl rfl a8) rfl rfl rfl (bLe _ _ _ _ .i64 p0.B 6) rfl (lb rfl) fun a S => ?_
  refine sPickT (.bool (decide (p0.B ≤ 6))) S (wN rfl) rfl rfl a8 rfl rfl (lb rfl) fun a S => ?_
  refine sN S fun a S => ?_
  exact leafL (leafB (leafT (⟨decide (p0.B ≤ 6), Option.some.inj h, S.fix [] [] (by decide) rfl rfl rfl⟩)))
 refine sCondF S rfl ap ?_
 refine sSeq (fun bk aL => sRegion (sBin _ S (wN rfl) rfl rfl rfl (bEq _ _ _ _ .u8 p0.Kind 9) rfl (lb rfl) fun a S => ?_))
 refine sN S fun a S => ?_
 refine lT (aL _ _ ?_)
 rcases iS h with ⟨aq, h⟩ | ⟨aq, h⟩
 rotate_left
 ·refine sCondF S rfl aq ?_
  refine sSeq (fun bl aM => sRegion (sBin _ S (wN rfl) rfl rfl rfl (bEq _ _ _ _ .u8 p0.Kind 10) rfl (lb rfl) fun a S => ?_))
  refine sN S fun a S => ?_
  refine lT (aM _ _ ?_)
  rcases iS h with ⟨ar, h⟩ | ⟨ar, h⟩
  rotate_left
  ·refine sCondF S rfl ar ?_
   exact wp_skip (leafB (leafT (⟨false, Option.some.inj h, S.fix [] [] (by decide) rfl rfl rfl⟩)))
  refine sCondT S rfl ar ?_
  refine sRegion (sField (b := b2) (off := 0) 3 3 S (wN rfl) rfl rfl rfl rfl rfl (lb rfl) fun a S => ?_)
  refine sLoad1 0 (iv p0.B) S (wN rfl) rfl rfl rfl rfl rfl rfl (lb rfl) fun a S => ?_
  refine sBin _ S (wN rfl) rfl rfl rfl (bEq _ _ _ _ .i64 p0.B 0) rfl (lb rfl) fun a S => ?_
  refine sM S fun a S => ?_
  rcases iS h with ⟨a9, h⟩ | ⟨a9, h⟩
  rotate_left
  ·refine sSkN 3 3 true 90 S rfl rfl a9 rfl fun a S => ?_
   refine sPickF (.bool false) S (wN rfl) rfl rfl a9 rfl rfl (lb rfl) fun a S => ?_
   refine sM S fun a S => ?_
   refine sSkN 3 8 true 95 S rfl rfl rfl rfl fun a S => ?_
   refine sPickF (.bool false) S (wN rfl) rfl rfl rfl rfl rfl (lb rfl) fun a S => ?_
   refine sN S fun a S => ?_
   exact leafL (leafB (leafT (⟨false, Option.some.inj h, S.fix [] [] (by decide) rfl rfl rfl⟩)))
  refine sField (b := b2) (off := 0) 2 2 S (wG 3 true 90 rfl rfl rfl a9) rfl rfl rfl rfl rfl (lb rfl) fun a S => ?_
  refine sLoad1 0 (iv p0.A) S (wG 3 true 90 rfl rfl rfl a9) rfl rfl rfl rfl rfl rfl (lb rfl) fun a S => ?_
  refine sBin _ S (wG 3 true 90 rfl rfl rfl a9) rfl rfl rfl (bGe _ _ _ _ .i64 p0.A 1) rfl (lb rfl) fun a S => ?_
  refine sPickT (.bool (decide (1 ≤ p0.A))) S (wN rfl) rfl rfl a9 rfl rfl (lb rfl) fun a S => ?_
  refine sM S fun a S => ?_
  rcases iS h with ⟨aa, h⟩ | ⟨aa, h⟩
  rotate_left
  ·refine sSkN 3 8 true 95 S rfl rfl aa rfl fun a S => ?_
   refine sPickF (.bool false) S (wN rfl) rfl rfl aa rfl rfl (lb rfl) fun a S => ?_
   refine sN S fun a S => ?_
   exact leafL (leafB (leafT (⟨false, Option.some.inj h, S.fix [] [] (by decide) rfl rfl rfl⟩)))
  refine sField (b := b2) (off := 0) 2 2 S (wG 8 true 95 rfl rfl rfl aa) rfl rfl rfl rfl rfl (lb rfl) fun a S => ?_
  refine sLoad1 0 (iv p0.A) S (wG 8 true 95 rfl rfl rfl aa) rfl rfl rfl rfl rfl rfl (lb rfl) fun a S => ?_
  refine sBin _ S (wG 8 true 95 rfl rfl rfl aa) rfl rfl rfl (bLe _ _ _ _ .i64 p0.A 200) rfl (lb rfl) fun a S => ?_
  refine sPickT (.bool (decide (p0.A ≤ 200))) S (wN rfl) rfl rfl aa rfl rfl (lb rfl) fun a S => ?_
  refine sN S fun a S => ?_
  exact leafL (leafB (leafT (⟨decide (p0.A ≤ 200), Option.some.inj h, S.fix [] [] (by decide) rfl rfl rfl⟩)))
 refine sCondT S rfl aq ?_
 refine sRegion (sField (b := b2) (off := 0) 3 3 S (wN rfl) rfl rfl rfl rfl rfl (lb rfl) fun a S => ?_)
 refine sLoad1 0 (iv p0.B) S (wN rfl) rfl rfl rfl rfl rfl rfl (lb rfl) fun a S => ?_
 refine sBin _ S (wN rfl) rfl rfl rfl (bEq _ _ _ _ .i64 p0.B 0) rfl (lb rfl) fun a S => ?_
 refine sM S fun a S => ?_
 rcases iS h with ⟨ab, h⟩ | ⟨ab, h⟩
 rotate_left
 ·refine sSkN 3 3 true 70 S rfl rfl ab rfl fun a S => ?_
  refine sPickF (.bool false) S (wN rfl) rfl rfl ab rfl rfl (lb rfl) fun a S => ?_
  refine sM S fun a S => ?_
  refine sSkN 3 8 true 75 S rfl rfl rfl rfl fun a S => ?_
  refine sPickF (.bool false) S (wN rfl) rfl rfl rfl rfl rfl (lb rfl) fun a S => ?_
  refine sM S fun a S => ?_
  refine sSkN 3 13 true 80 S rfl rfl rfl rfl fun a S => ?_
  refine sPickF (.bool false) S (wN rfl) rfl rfl rfl rfl rfl (lb rfl) fun a S => ?_
  refine sN S fun a S => ?_
  exact leafL (leafB (leafT (⟨false, Option.some.inj h, S.fix [] [] (by decide) rfl rfl rfl⟩)))
 refine sField (b := b2) (off := 0) 1 1 S (wG 3 true 70 rfl rfl rfl ab) rfl rfl rfl rfl rfl (lb rfl) fun a S => ?_
 refine sLoad1 0 (.bool p0.Purl) S (wG 3 true 70 rfl rfl rfl ab) rfl rfl rfl rfl rfl rfl (lb rfl) fun a S => ?_
 refine sNot (b := p0.Purl) S (wG 3 true 70 rfl rfl rfl ab) rfl rfl rfl (lb rfl) fun a S => ?_
 refine sPickT (.bool (!p0.Purl)) S (wN rfl) rfl rfl ab rfl rfl (lb rfl) fun a S => ?_
 refine sM S fun a S => ?_
 rcases iS h with ⟨ac, h⟩ | ⟨ac, h⟩
 rotate_left
 ·refine sSkN 3 8 true 75 S rfl rfl ac rfl fun a S => ?_
  refine sPickF (.bool false) S (wN rfl) rfl rfl ac rfl rfl (lb rfl) fun a S => ?_
  refine sM S fun a S => ?_
  refine sSkN 3 13 true 80 S rfl rfl rfl rfl fun a S => ?_
  refine sPickF (.bool false) S (wN rfl) rfl rfl rfl rfl rfl (lb rfl) fun a S => ?_
  refine sN S fun a S => ?_
  exact leafL (leafB (leafT (⟨false, Option.some.inj h, S.fix [] [] (by decide) rfl rfl rfl⟩)))
 refine sField (b := b2) (off := 0) 2 2 S (wG 8 true 75 rfl rfl rfl ac) rfl rfl rfl rfl rfl (lb rfl) fun a S => ?_
 refine sLoad1 0 (iv p0.A) S (wG 8 true 75 rfl rfl rfl ac) rfl rfl rfl rfl rfl rfl (lb rfl) fun a S => ?_
 refine sBin _ S (wG 8 true 75 rfl rfl rfl ac) rfl rfl rfl (bGe _ _ _ _ .i64 p0.A 1) rfl (lb rfl) fun a S => ?_
 refine sPickT (.bool (decide (1 ≤ p0.A))) S (wN rfl) rfl rfl ac rfl rfl (lb rfl) fun a S => ?_
 refine sM S fun a S => ?_
 rcases iS h with ⟨ae, h⟩ | ⟨ae, h⟩
 rotate_left
 ·refine sSkN 3 13 true 80 S rfl rfl ae rfl fun a S => ?_
  refine sPickF (.bool false) S (wN rfl) rfl rfl ae rfl rfl (lb rfl) fun a S => ?_
  refine sN S fun a S => ?_
  exact leafL (leafB (leafT (⟨false, Option.some.inj h, S.fix [] [] (by decide) rfl rfl rfl⟩)))
 refine sField (b := b2) (off := 0) 2 2 S (wG 13 true 80 rfl rfl rfl ae) rfl rfl rfl rfl rfl (lb rfl) fun a S => ?_
 refine sLoad1 0 (iv p0.A) S (wG 13 true 80 rfl rfl rfl ae) rfl rfl rfl rfl rfl rfl (lb rfl) fun a S => ?_
 refine sBin _ S (wG 13 true 80 rfl rfl rfl ae) rfl rfl rfl (bLe _ _ _ _ .i64 p0.A 200) rfl (lb rfl) fun a S => ?_
 refine sPickT (.bool (decide (p0.A ≤ 200))) S (wN rfl) rfl rfl ae rfl rfl (lb rfl) fun a S => ?_
 refine sN S fun a S => ?_
 exact leafL (leafB (leafT (⟨decide (p0.A ≤ 200), Option.some.inj h, S.fix [] [] (by decide) rfl rfl rfl⟩)))
noncomputable def raddleref25_All_l1 (p0 : (List api_Stitch)) : Int → Option (Int ⊕ (Int ⊕ Unit)) := fun s0 => match s0 with
 | a0 =>
  if decide (a0 < (p0.length : Int)) then
   (idxO p0 a0).bind fun a4 =>
   (F_raddleref25_Check a4).bind fun a5 =>
   if a5 != 0 then
    some (.inr (.inl 8))
   else
    some (.inl (w64 (a0 + 1)))
  else
   some (.inr (.inr ()))
noncomputable def F_raddleref25_All (p0 : (List api_Stitch)) : Option Int :=
 if decide (200 < (p0.length : Int)) then
  some 4
 else
  Option.bind (α := Unit ⊕ Int) (
   (whileO (raddleref25_All_l1 p0) 0).bind fun z0 => match z0 with
    | .inl z =>
     some (.inr z)
    | .inr _ =>
     some (.inl ())) fun z0 => match z0 with
   | .inl _ =>
    (F_raddleref25_sums p0).bind fun a0 =>
    Option.bind (α := Bool) (
     if decide (200 < a0.1) then
      some true
     else
      some (decide (200 < a0.2))) fun a4 =>
    if a4 then
     some 4
    else
     some 0
   | .inr z =>
    some z
theorem c_raddleref25_All (E : Nat → Prop) (w0 : World) (p0 : (List api_Stitch)) (v0 : Value) (r : Int) (h : F_raddleref25_All p0 = some r) (S : St0 E [] w0 w0 [] [fRep (rL r_api_Stitch) (v0) p0]) :
 Calls Try.prog 48 #[v0] w0 (Ret (X := Unit) E [] w0 (fun _ => .int .i64 r) (fun _ => []) (fun _ => [])) := by
 unfold F_raddleref25_All at h
 obtain ⟨a6, a7, _, rfl, _⟩ := S.know (i := 0) (e := fRep (rL r_api_Stitch) (v0) p0) rfl
 refine sEnter (args := [.slice a6 p0.length a7]) 32 Try.func48 rfl rfl (by simp) S (fun a S => ?_)
 refine sSeq (fun K3 aC => sRegion (sN S fun a S => ?_))
 refine lT (aC _ _ (sSeq (fun K4 aG => sSeq (fun K5 aH => sRegion (sM S fun a S => ?_)))))
 refine sLen S (wN rfl) rfl Try.underlying62 rfl rfl (lb rfl) fun a S => ?_
 refine sBin _ S (wN rfl) rfl rfl rfl (bGt _ _ _ _ .i64 (p0.length : Int) 200) rfl (lb rfl) fun a S => ?_
 refine lT (aH _ _ ?_)
 rcases iS h with ⟨ae, h⟩ | ⟨ae, h⟩
 ·refine sCondT S rfl ae ?_
  refine sSeq (fun K7 aI => sRegion (sN S fun a S => ?_))
  refine lT (aI _ _ ?_)
  obtain rfl := tS h
  exact wp_ret (rThen (sRet (iv 4) S (rsl1 rfl (rvT (t := 2) (v := iv 4) S rfl)) ⟨(), rfl, S.mem.sel [] [] (by decide) rfl rfl⟩))
 refine sCondF S rfl ae ?_
 refine wp_skip (leafT (aG _ _ ?_))
 obtain ⟨t8, h, g9⟩ := bS h
 refine sCut (fun a w => .inl () = t8 ∧ St [] E [] w0 32 a w [(0, .slice a6 p0.length a7)] [] [fRep (rL r_api_Stitch) (.slice a6 p0.length a7) p0]) ?_ (fun a w hI => ?_)
 rotate_left
 ·obtain ⟨rfl, S⟩ := hI
  have h := g9
  try dsimp only at h
  refine sSeq (fun aL af => sRegion (sM S fun a S => ?_))
  obtain ⟨a4, ag, h⟩ := bS h
  have S1 := S.mem
  refine sCq [.slice a6 p0.length a7] (.tuple #[iv a4.1, iv a4.2]) S callee49 (S1.quiet [0] rfl) (fun E1 w1 S1 => c_raddleref25_sums E1 w1 p0 (.slice a6 p0.length a7) a4 ag S1) fun a w S => ?_
  refine sM S fun a S => ?_
  refine sExtract (vs := [iv a4.1, iv a4.2]) (iv a4.1) S (wN rfl) rfl rfl rfl rfl (lb rfl) fun a S => ?_
  refine sExtract (vs := [iv a4.1, iv a4.2]) (iv a4.2) S (wN rfl) rfl rfl rfl rfl (lb rfl) fun a S => ?_
  refine sN S fun a S => ?_
  refine sN S fun a S => ?_
  refine lT (af _ _ (sSeq (fun aM ah => ?_)))
  obtain ⟨aJ, h, aK⟩ := bS h
  refine sCut (fun a w => ∃ ai, ai = aJ ∧ St [] E [] w0 32 a w [(31, .bool ai)] [] []) ?_ (fun a w hI => ?_)
  rotate_left
  ·obtain ⟨ai, rfl, S⟩ := hI
   have h := aK
   try dsimp only at h
   rcases iS h with ⟨a8, h⟩ | ⟨a8, h⟩
   ·refine sCondT S rfl a8 ?_
    refine sSeq (fun aO aj => sRegion (sN S fun a S => ?_))
    refine lT (aj _ _ ?_)
    obtain rfl := tS h
    exact wp_ret (rThen (sRet (iv 4) S (rsl1 rfl (rvT (t := 2) (v := iv 4) S rfl)) ⟨(), rfl, S.mem.sel [] [] (by decide) rfl rfl⟩))
   refine sCondF S rfl a8 ?_
   refine wp_skip (leafT (ah _ _ ?_))
   refine sSeq (fun aP ak => sRegion (sN S fun a S => ?_))
   refine lT (ak _ _ ?_)
   obtain rfl := tS h
   exact wp_ret (sRet (iv 0) S (rsl1 rfl (rvT (t := 2) (v := iv 0) S rfl)) ⟨(), rfl, S.mem.sel [] [] (by decide) rfl rfl⟩)
  refine sRegion (sM S fun a S => ?_)
  refine sBin _ S (wN rfl) rfl rfl rfl (bGt _ _ _ _ .i64 a4.1 200) rfl (lb rfl) fun a S => ?_
  refine sM S fun a S => ?_
  rcases iS h with ⟨a5, h⟩ | ⟨a5, h⟩
  ·refine sSkN 2 2 false 28 S rfl rfl a5 rfl fun a S => ?_
   refine sPickT (.bool true) S (wN rfl) rfl rfl a5 rfl rfl (lb rfl) fun a S => ?_
   exact lT (⟨true, Option.some.inj h, S.fix [] [] (by decide) rfl rfl rfl⟩)
  refine sMove (iv a4.2) S (wG 2 false 28 rfl rfl rfl a5) (.inl rfl) rfl rfl (lb rfl) fun a S => ?_
  refine sBin _ S (wG 2 false 28 rfl rfl rfl a5) rfl rfl rfl (bGt _ _ _ _ .i64 a4.2 200) rfl (lb rfl) fun a S => ?_
  refine sPickF (.bool (decide (200 < a4.2))) S (wN rfl) rfl rfl a5 rfl rfl (lb rfl) fun a S => ?_
  exact lT (⟨decide (200 < a4.2), Option.some.inj h, S.fix [] [] (by decide) rfl rfl rfl⟩)
 refine sSeq (fun aQ al => sRegion (sN S fun a S => ?_))
 refine lT (al _ _ (wp_block ?_))
 obtain ⟨aR, hl, ay⟩ := bS h
 refine sLoop hl (fun s0 a w => match s0 with | ab => St [] E [] w0 32 a w [(0, .slice a6 p0.length a7), (3, iv ab)] [] [fRep (rL r_api_Stitch) (.slice a6 p0.length a7) p0]) (S.fix [] [0] (by decide) rfl rfl rfl) ?_
 clear hl h
 intro ab a w c0 hI h ac
 unfold raddleref25_All_l1 at h
 dsimp only at h hI
 have S := hI
 refine sSeq (fun aS am => sSeq (fun aT ao => sRegion (sM S fun a S => ?_)))
 refine sM S fun a S => ?_
 refine sLen S (wN rfl) rfl Try.underlying62 rfl rfl (lb rfl) fun a S => ?_
 refine sBin _ S (wN rfl) rfl rfl rfl (bLt _ _ _ _ .i64 ab (p0.length : Int)) rfl (lb rfl) fun a S => ?_
 refine lT (ao _ _ ?_)
 rcases iS h with ⟨a9, h⟩ | ⟨a9, h⟩
 rotate_left
 ·refine sCondF S rfl a9 ?_
  obtain rfl := tS h
  obtain rfl := ac _ rfl
  have h := ay
  try dsimp only at h
  exact wp_exit (xThen (xThen (xHit (leafT (⟨Option.some.inj h, S.fix [] [0] (by decide) rfl rfl rfl⟩)))))
 refine sCondT S rfl a9 ?_
 refine wp_skip (leafT (am _ _ ?_))
 refine sSeq (fun aU ap => wp_block ?_)
 refine sSeq (fun aV aq => sRegion (sM S fun a S => ?_))
 refine sM S fun a S => ?_
 obtain ⟨a0, ar, h⟩ := bS h
 obtain ⟨az, au, S⟩ := pIdx (P := Try.prog) (r := r_api_Stitch) (v := .slice a6 p0.length a7) (xs := p0) (j := ab) 62 61 0 S Try.underlying62 rfl rfl ar
 refine sIdxV S (wN rfl) rfl rfl rfl au rfl (lb rfl) fun a S => ?_
 obtain ⟨aA, S⟩ := pLoad (r := r_api_Stitch) (q := az) (x := a0) 0 S rfl
 obtain rfl : aA = .agg #[.int .u8 a0.Kind, .bool a0.Purl, iv a0.A, iv a0.B] := S.mem.know (i := 1) (e := fRep r_api_Stitch (aA) a0) rfl
 refine sLoadVN (vq := az) 0 [.int .u8 a0.Kind, .bool a0.Purl, iv a0.A, iv a0.B] S (wN rfl) rfl rfl rfl rfl rfl rfl (lb rfl) fun a S => ?_
 obtain ⟨av, aw, h⟩ := bS h
 have S1 := S.mem
 refine sCq [.agg #[.int .u8 a0.Kind, .bool a0.Purl, iv a0.A, iv a0.B]] (iv av) S callee62 (S1.quiet [1] rfl) (fun E1 w1 S1 => c_raddleref25_Check E1 w1 a0 (.agg #[.int .u8 a0.Kind, .bool a0.Purl, iv a0.A, iv a0.B]) av aw S1) fun a w S => ?_
 refine sBin _ S (wN rfl) rfl rfl rfl (bNe _ _ _ _ .i64 av 0) rfl (lb rfl) fun a S => ?_
 refine lT (aq _ _ ?_)
 rcases iS h with ⟨aa, h⟩ | ⟨aa, h⟩
 rotate_left
 ·refine sCondF S rfl aa ?_
  refine wp_skip (leafB (leafT (ap _ _ ?_)))
  refine sRegion (sM S fun a S => ?_)
  refine sBin _ S (wN rfl) rfl rfl rfl (bAdd _ _ _ _ ab 1) rfl (lb rfl) fun a S => ?_
  refine sN S fun a S => ?_
  exact lT (⟨w64 (ab + 1), (Option.some.inj h).symm, (S.fix [] [3] (by decide) rfl rfl rfl)⟩)
 refine sCondT S rfl aa ?_
 refine sSeq (fun aW ax => sRegion (sN S fun a S => ?_))
 refine lT (ax _ _ ?_)
 obtain rfl := tS h
 obtain rfl := ac _ rfl
 have h := ay
 try dsimp only at h
 obtain rfl := tS h
 have h := g9
 try dsimp only at h
 obtain rfl := tS h
 exact wp_ret (rBlock (rThen (rThen (rBlock (rThen (sRet (iv 8) S (rsl1 rfl (rvT (t := 2) (v := iv 8) S rfl)) ⟨(), rfl, S.mem.sel [] [] (by decide) rfl rfl⟩))))))
theorem loop_at {S σ τ : Type} {B : S → Option (S ⊕ τ)} (n : Nat) (st : Nat → σ → S) (I : Nat → σ → Prop) (Pt : τ → Prop) {s0 : σ} (h0 : I 0 s0)
 (step : ∀ k s, k < n → I k s → (∃ s', B (st k s) = some (.inl (st (k + 1) s')) ∧ I (k + 1) s') ∨ (∃ t, B (st k s) = some (.inr t) ∧ Pt t))
 (last : ∀ s, I n s → ∃ t, B (st n s) = some (.inr t) ∧ Pt t) : ∃ t, whileO B (st 0 s0) = some t ∧ Pt t := by
 have key : ∀ j k s, j + k = n → I k s → ∃ t, whileO B (st k s) = some t ∧ Pt t := by
  intro j
  induction j with
  | zero =>
   intro k s hk hI
   obtain rfl : k = n := by omega
   obtain ⟨t, h1, h2⟩ := last s hI
   exact ⟨t, whileO_done h1, h2⟩
  | succ j ih =>
   intro k s hk hI
   rcases step k s (by omega) hI with ⟨s', h1, h2⟩ | ⟨t, h1, h2⟩
   ·rw [whileO_step h1]; exact ih _ _ (by omega) h2
   ·exact ⟨t, whileO_done h1, h2⟩
 exact key n 0 s0 (by omega) h0
theorem whileO_none {σ τ : Type} {B : σ → Option (σ ⊕ τ)} {s : σ} (h : B s = none) : whileO B s = none := by
 cases hx : whileO B s with
 | none => rfl
 | some t =>
  obtain ⟨n, hn⟩ := whileO_some hx
  cases n with
  | zero => simp [iterO] at hn
  | succ n => rw [iterO, h] at hn; cases hn
theorem whileO_eq {σ τ : Type} (B : σ → Option (σ ⊕ τ)) (s : σ) : whileO B s = (B s).bind fun r => match r with | .inl s' => whileO B s' | .inr t => some t := by
 cases h : B s with
 | none => rw [whileO_none h]; rfl
 | some r =>
  cases r with
  | inl s' => rw [whileO_step h]; rfl
  | inr t => rw [whileO_done h]; rfl
def sm {α : Type} (f : α → Int) : List α → Int
 | [] => 0
 | x :: l => f x + sm f l
theorem sm_append {α : Type} (f : α → Int) (l k : List α) : sm f (l ++ k) = sm f l + sm f k := by
 induction l with
 | nil => simp [sm]
 | cons x l ih => simp only [List.cons_append, sm, ih]; omega
theorem sm_take {α : Type} (f : α → Int) (l : List α) {k : Nat} (h : k < l.length) : sm f (l.take (k + 1)) = sm f (l.take k) + f l[k] := by
 rw [List.take_succ_eq_append_getElem h, sm_append]
 simp [sm]
theorem sm_bd {α : Type} {f : α → Int} {b : Int} {l : List α} (h : ∀ x, x ∈ l → 0 ≤ f x ∧ f x ≤ b) : 0 ≤ sm f l ∧ sm f l ≤ b * l.length := by
 induction l with
 | nil => simp [sm]
 | cons x l ih =>
  have h1 := h x (by simp)
  have h2 := ih fun y hy => h y (by simp [hy])
  simp only [sm, List.length_cons]
  have e : b * ((l.length + 1 : Nat) : Int) = b * l.length + b := by rw [Int.natCast_add, Int.mul_add]; simp
  rw [e]
  omega
def usedS (p : api_Stitch) : Int := if p.Kind = 2 ∨ p.Kind = 9 then 0 else if p.Kind = 3 ∨ p.Kind = 4 ∨ p.Kind = 10 then p.A else if p.Kind = 6 ∨ p.Kind = 7 then p.A + p.B else 1
def madeS (p : api_Stitch) : Int := if p.Kind = 10 then 0 else if p.Kind = 5 ∨ p.Kind = 9 then p.A else if p.Kind = 6 ∨ p.Kind = 7 then p.A + p.B else 1
def okS (p : api_Stitch) : Prop :=
 (p.Kind = 1 ∨ p.Kind = 8) ∧ p.A = 0 ∧ p.B = 0 ∨ p.Kind = 2 ∧ p.A = 0 ∧ p.B = 0 ∧ p.Purl = false ∨ (p.Kind = 3 ∨ p.Kind = 4 ∨ p.Kind = 5) ∧ 2 ≤ p.A ∧ p.A ≤ 4 ∧ p.B = 0 ∨
 (p.Kind = 6 ∨ p.Kind = 7) ∧ 1 ≤ p.A ∧ p.A ≤ 6 ∧ 1 ≤ p.B ∧ p.B ≤ 6 ∨ p.Kind = 9 ∧ 1 ≤ p.A ∧ p.A ≤ 200 ∧ p.B = 0 ∧ p.Purl = false ∨ p.Kind = 10 ∧ 1 ≤ p.A ∧ p.A ≤ 200 ∧ p.B = 0
instance (p : api_Stitch) : Decidable (okS p) := by unfold okS; infer_instance
theorem okS_bd {p : api_Stitch} (h : okS p) : 1 ≤ p.Kind ∧ p.Kind ≤ 10 ∧ 0 ≤ p.A ∧ p.A ≤ 200 ∧ 0 ≤ p.B ∧ p.B ≤ 6 := by
 unfold okS at h
 omega
theorem usedS_bd {p : api_Stitch} (h : okS p) : 0 ≤ usedS p ∧ usedS p ≤ 200 := by
 have hb := okS_bd h
 unfold okS at h
 unfold usedS
 split
 ·omega
 ·split
  ·omega
  ·split <;> omega
theorem madeS_bd {p : api_Stitch} (h : okS p) : 0 ≤ madeS p ∧ madeS p ≤ 200 := by
 have hb := okS_bd h
 unfold okS at h
 unfold madeS
 split
 ·omega
 ·split
  ·omega
  ·split <;> omega
theorem check_form (p : api_Stitch) (f : stitch_form) (h : F_stitch_forms p.Kind = some (f, true)) :
 F_stitch_Check p = some (if (f.a.1 ≤ p.A ∧ p.A ≤ f.a.2) ∧ (f.b.1 ≤ p.B ∧ p.B ≤ f.b.2) ∧ (p.Purl = true → f.sided = true) then 0 else 8) := by
 unfold F_stitch_Check F_stitch_within
 rw [h]
 by_cases a1 : f.a.1 ≤ p.A <;> by_cases a2 : p.A ≤ f.a.2 <;> by_cases b1 : f.b.1 ≤ p.B <;> by_cases b2 : p.B ≤ f.b.2 <;> cases hp : p.Purl <;> cases hs : f.sided <;> simp [a1, a2, b1, b2, hs]
theorem ifc {α : Type} {c d : Prop} [Decidable c] [Decidable d] {a b : α} (h : c ↔ d) : (if c then a else b) = if d then a else b := by
 by_cases hc : c
 ·rw [if_pos hc, if_pos (h.1 hc)]
 ·rw [if_neg hc, if_neg (fun hd => hc (h.2 hd))]
theorem kinds {x : Int} (h : 0 ≤ x ∧ x ≤ 255) : x = 0 ∨ x = 1 ∨ x = 2 ∨ x = 3 ∨ x = 4 ∨ x = 5 ∨ x = 6 ∨ x = 7 ∨ x = 8 ∨ x = 9 ∨ x = 10 ∨ 10 < x := by omega
theorem forms_none {x : Int} (h : 10 < x ∧ x ≤ 255) : ∃ f, F_stitch_forms x = some (f, false) := by
 unfold F_stitch_forms
 have hw : IntKind.i64.wrap x = x := w64_of (by omega) (by omega)
 simp only [dF (show ¬ x < 1 by omega), hw, Bool.false_eq_true, if_false, Option.bind_some, List.length_cons, List.length_nil]
 rw [dT (show ((0 + 1 + 1 + 1 + 1 + 1 + 1 + 1 + 1 + 1 + 1 : Nat) : Int) < x by omega)]
 exact ⟨_, rfl⟩
theorem check_none {p : api_Stitch} {f : stitch_form} (h : F_stitch_forms p.Kind = some (f, false)) : F_stitch_Check p = some 8 := by
 unfold F_stitch_Check
 rw [h]
 simp
theorem check_eq (p : api_Stitch) (hk : 0 ≤ p.Kind ∧ p.Kind ≤ 255) : F_stitch_Check p = some (if okS p then 0 else 8) := by
 rcases kinds hk with h | h | h | h | h | h | h | h | h | h | h | h
 ·rw [check_none (f := ⟨⟨#[]⟩, (0, 0), (0, 0), false, 0, 0⟩) (by rw [h]; rfl), if_neg (by unfold okS; omega)]
 ·rw [check_form p _ (by rw [h]; rfl)]; cases hp : p.Purl <;> exact congrArg some (ifc (by simp [okS, h]; omega))
 ·rw [check_form p _ (by rw [h]; rfl)]; cases hp : p.Purl <;> exact congrArg some (ifc (by simp [okS, h, hp] <;> omega))
 ·rw [check_form p _ (by rw [h]; rfl)]; cases hp : p.Purl <;> exact congrArg some (ifc (by simp [okS, h]; omega))
 ·rw [check_form p _ (by rw [h]; rfl)]; cases hp : p.Purl <;> exact congrArg some (ifc (by simp [okS, h]; omega))
 ·rw [check_form p _ (by rw [h]; rfl)]; cases hp : p.Purl <;> exact congrArg some (ifc (by simp [okS, h]; omega))
 ·rw [check_form p _ (by rw [h]; rfl)]; cases hp : p.Purl <;> exact congrArg some (ifc (by simp [okS, h]; omega))
 ·rw [check_form p _ (by rw [h]; rfl)]; cases hp : p.Purl <;> exact congrArg some (ifc (by simp [okS, h]; omega))
 ·rw [check_form p _ (by rw [h]; rfl)]; cases hp : p.Purl <;> exact congrArg some (ifc (by simp [okS, h]; omega))
 ·rw [check_form p _ (by rw [h]; rfl)]; cases hp : p.Purl <;> exact congrArg some (ifc (by simp [okS, h, hp] <;> omega))
 ·rw [check_form p _ (by rw [h]; rfl)]; cases hp : p.Purl <;> exact congrArg some (ifc (by simp [okS, h]; omega))
 ·obtain ⟨f, hf⟩ := forms_none ⟨h, hk.2⟩
  rw [check_none hf, if_neg (by unfold okS; omega)]
theorem rstitch_eq (p : api_Stitch) : F_raddleref25_Check p = some (if okS p then 0 else 8) := by
 have e3 : (if (p.A == 0) = true then some (p.B == 0) else some false) = some (p.A == 0 && p.B == 0) := by cases h : (p.A == 0) <;> simp
 unfold F_raddleref25_Check
 rw [e3, Option.bind_some]
 by_cases k1 : p.Kind = 1
 ·by_cases hA : p.A = 0 <;> by_cases hB : p.B = 0 <;> simp [k1, hA, hB, okS]
 by_cases k8 : p.Kind = 8
 ·by_cases hA : p.A = 0 <;> by_cases hB : p.B = 0 <;> simp [k8, hA, hB, okS]
 by_cases k2 : p.Kind = 2
 ·by_cases hA : p.A = 0 <;> by_cases hB : p.B = 0 <;> cases hp : p.Purl <;> simp [k2, hA, hB, hp, okS]
 by_cases k3 : p.Kind = 3
 ·by_cases h1 : 2 ≤ p.A <;> by_cases h2 : p.A ≤ 4 <;> by_cases hB : p.B = 0 <;> simp [k3, h1, h2, hB, okS]
 by_cases k4 : p.Kind = 4
 ·by_cases h1 : 2 ≤ p.A <;> by_cases h2 : p.A ≤ 4 <;> by_cases hB : p.B = 0 <;> simp [k4, h1, h2, hB, okS]
 by_cases k5 : p.Kind = 5
 ·by_cases h1 : 2 ≤ p.A <;> by_cases h2 : p.A ≤ 4 <;> by_cases hB : p.B = 0 <;> simp [k5, h1, h2, hB, okS]
 by_cases k6 : p.Kind = 6
 ·by_cases h1 : 1 ≤ p.A <;> by_cases h2 : p.A ≤ 6 <;> by_cases h3 : 1 ≤ p.B <;> by_cases h4 : p.B ≤ 6 <;> simp [k6, h1, h2, h3, h4, okS]
 by_cases k7 : p.Kind = 7
 ·by_cases h1 : 1 ≤ p.A <;> by_cases h2 : p.A ≤ 6 <;> by_cases h3 : 1 ≤ p.B <;> by_cases h4 : p.B ≤ 6 <;> simp [k7, h1, h2, h3, h4, okS]
 by_cases k9 : p.Kind = 9
 ·by_cases h1 : 1 ≤ p.A <;> by_cases h2 : p.A ≤ 200 <;> by_cases hB : p.B = 0 <;> cases hp : p.Purl <;> simp [k9, h1, h2, hB, hp, okS]
 by_cases k10 : p.Kind = 10
 ·by_cases h1 : 1 ≤ p.A <;> by_cases h2 : p.A ≤ 200 <;> by_cases hB : p.B = 0 <;> simp [k10, h1, h2, hB, okS]
 have hn : ¬ okS p := by unfold okS; omega
 simp [k1, k2, k3, k4, k5, k6, k7, k8, k9, k10, hn]
theorem form_ok {p : api_Stitch} (h : okS p) : ∃ f, F_stitch_forms p.Kind = some (f, true) ∧ F_stitch_loops p f.uses = some (usedS p) ∧ F_stitch_loops p f.made = some (madeS p) := by
 have hb := okS_bd h
 have hw : w64 (p.A + p.B) = p.A + p.B := w64_of (by omega) (by omega)
 have l0 : F_stitch_loops p 0 = some 0 := rfl
 have l1 : F_stitch_loops p 1 = some 1 := rfl
 have l2 : F_stitch_loops p 2 = some p.A := rfl
 have l3 : F_stitch_loops p 3 = some (p.A + p.B) := by rw [← hw]; rfl
 rcases kinds (x := p.Kind) (by omega) with k | k | k | k | k | k | k | k | k | k | k | k
 ·omega
 ·exact ⟨⟨⟨#[]⟩, (0, 0), (0, 0), true, 1, 1⟩, by rw [k]; rfl, by rw [l1]; simp [usedS, k], by rw [l1]; simp [madeS, k]⟩
 ·exact ⟨⟨⟨#[]⟩, (0, 0), (0, 0), false, 0, 1⟩, by rw [k]; rfl, by rw [l0]; simp [usedS, k], by rw [l1]; simp [madeS, k]⟩
 ·exact ⟨⟨⟨#[102]⟩, (2, 4), (0, 0), true, 2, 1⟩, by rw [k]; rfl, by rw [l2]; simp [usedS, k], by rw [l1]; simp [madeS, k]⟩
 ·exact ⟨⟨⟨#[108]⟩, (2, 4), (0, 0), true, 2, 1⟩, by rw [k]; rfl, by rw [l2]; simp [usedS, k], by rw [l1]; simp [madeS, k]⟩
 ·exact ⟨⟨⟨#[109]⟩, (2, 4), (0, 0), true, 1, 2⟩, by rw [k]; rfl, by rw [l1]; simp [usedS, k], by rw [l2]; simp [madeS, k]⟩
 ·exact ⟨⟨⟨#[120]⟩, (1, 6), (1, 6), true, 3, 3⟩, by rw [k]; rfl, by rw [l3]; simp [usedS, k], by rw [l3]; simp [madeS, k]⟩
 ·exact ⟨⟨⟨#[121]⟩, (1, 6), (1, 6), true, 3, 3⟩, by rw [k]; rfl, by rw [l3]; simp [usedS, k], by rw [l3]; simp [madeS, k]⟩
 ·exact ⟨⟨⟨#[115]⟩, (0, 0), (0, 0), true, 1, 1⟩, by rw [k]; rfl, by rw [l1]; simp [usedS, k], by rw [l1]; simp [madeS, k]⟩
 ·exact ⟨⟨⟨#[]⟩, (1, 200), (0, 0), false, 0, 2⟩, by rw [k]; rfl, by rw [l0]; simp [usedS, k], by rw [l2]; simp [madeS, k]⟩
 ·exact ⟨⟨⟨#[111]⟩, (1, 200), (0, 0), true, 2, 0⟩, by rw [k]; rfl, by rw [l2]; simp [usedS, k], by rw [l0]; simp [madeS, k]⟩
 ·omega
theorem rused_eq {p : api_Stitch} (h : okS p) : F_raddleref25_Used p = some (usedS p) := by
 have hb := okS_bd h
 have hw : w64 (p.A + p.B) = p.A + p.B := w64_of (by omega) (by omega)
 unfold F_raddleref25_Used usedS
 rcases kinds (x := p.Kind) (by omega) with k | k | k | k | k | k | k | k | k | k | k | k <;> first | omega | simp [k, hw]
theorem rgives_eq {p : api_Stitch} (h : okS p) : F_raddleref25_Gives p = some (madeS p) := by
 have hb := okS_bd h
 have hw : w64 (p.A + p.B) = p.A + p.B := w64_of (by omega) (by omega)
 unfold F_raddleref25_Gives madeS
 rcases kinds (x := p.Kind) (by omega) with k | k | k | k | k | k | k | k | k | k | k | k <;> first | omega | simp [k, hw]
def allOk (l : List api_Stitch) : Prop := ∀ p, p ∈ l → okS p
instance (l : List api_Stitch) : Decidable (allOk l) := by unfold allOk; infer_instance
def wfS (p : api_Stitch) : Prop := 0 ≤ p.Kind ∧ p.Kind ≤ 255
theorem used_bd {l : List api_Stitch} (h : allOk l) : 0 ≤ sm usedS l ∧ sm usedS l ≤ 200 * l.length := sm_bd fun _ hx => usedS_bd (h _ hx)
theorem made_bd {l : List api_Stitch} (h : allOk l) : 0 ≤ sm madeS l ∧ sm madeS l ≤ 200 * l.length := sm_bd fun _ hx => madeS_bd (h _ hx)
theorem take_ok {l : List api_Stitch} (h : allOk l) (k : Nat) : allOk (l.take k) := fun _ hx => h _ (List.mem_of_mem_take hx)
theorem sum_step {l : List api_Stitch} (h : allOk l) (hl : l.length ≤ 100000) {k : Nat} (hk : k < l.length) :
 w64 (sm usedS (l.take k) + usedS l[k]) = sm usedS (l.take (k + 1)) ∧ w64 (sm madeS (l.take k) + madeS l[k]) = sm madeS (l.take (k + 1)) := by
 have h1 := used_bd (take_ok h k)
 have h2 := made_bd (take_ok h k)
 have h3 := usedS_bd (h _ (List.getElem_mem hk))
 have h4 := madeS_bd (h _ (List.getElem_mem hk))
 have hlen : (l.take k).length ≤ 100000 := by rw [List.length_take]; omega
 rw [sm_take _ _ hk, sm_take _ _ hk]
 exact ⟨w64_of (by omega) (by omega), w64_of (by omega) (by omega)⟩
theorem sum_eq {l : List api_Stitch} (h : allOk l) (hl : l.length ≤ 100000) : F_stitch_sum l = some (sm usedS l, sm madeS l) := by
 have key : ∃ t, whileO (stitch_sum_l1 l) (0, 0, 0) = some t ∧ t = (sm usedS l, sm madeS l) := by
  refine loop_at (σ := Unit) l.length (fun k _ => (sm usedS (l.take k), sm madeS (l.take k), (k : Int))) (fun _ _ => True) _ (s0 := ()) trivial ?_ ?_
  ·intro k _ hk _
   refine .inl ⟨(), ?_, trivial⟩
   obtain ⟨f, f1, f2, f3⟩ := form_ok (h _ (List.getElem_mem hk))
   have hs := sum_step h hl hk
   unfold stitch_sum_l1
   simp only [dT (show (k : Int) < (l.length : Int) by omega), if_true, idxO_nat hk, Option.bind_some, f1, f2, f3, hs.1, hs.2, w64_succ (show k < 9223372036854775807 by omega)]
  ·intro _ _
   refine ⟨_, ?_, rfl⟩
   unfold stitch_sum_l1
   simp only [dF (show ¬ (l.length : Int) < (l.length : Int) by omega), Bool.false_eq_true, if_false, List.take_length]
 obtain ⟨t, h1, rfl⟩ := key
 unfold F_stitch_sum
 rw [h1]; rfl
theorem rsums_eq {l : List api_Stitch} (h : allOk l) (hl : l.length ≤ 100000) : F_raddleref25_sums l = some (sm usedS l, sm madeS l) := by
 have key : ∃ t, whileO (raddleref25_sums_l1 l) (0, 0, 0) = some t ∧ t = (sm usedS l, sm madeS l) := by
  refine loop_at (σ := Unit) l.length (fun k _ => (sm usedS (l.take k), sm madeS (l.take k), (k : Int))) (fun _ _ => True) _ (s0 := ()) trivial ?_ ?_
  ·intro k _ hk _
   refine .inl ⟨(), ?_, trivial⟩
   have hs := sum_step h hl hk
   unfold raddleref25_sums_l1
   simp only [dT (show (k : Int) < (l.length : Int) by omega), if_true, idxO_nat hk, Option.bind_some, rused_eq (h _ (List.getElem_mem hk)), rgives_eq (h _ (List.getElem_mem hk)), hs.1, hs.2, w64_succ (show k < 9223372036854775807 by omega)]
  ·intro _ _
   refine ⟨_, ?_, rfl⟩
   unfold raddleref25_sums_l1
   simp only [dF (show ¬ (l.length : Int) < (l.length : Int) by omega), Bool.false_eq_true, if_false, List.take_length]
 obtain ⟨t, h1, rfl⟩ := key
 unfold F_raddleref25_sums
 rw [h1]; rfl
def allS (l : List api_Stitch) : Int := if 200 < l.length then 4 else if allOk l then (if 200 < sm usedS l ∨ 200 < sm madeS l then 4 else 0) else 8
theorem allOk_range {l : List api_Stitch} : (List.range l.length).all (fun k => decide (okS (l.getD k ⟨0, false, 0, 0⟩))) = true ↔ allOk l := by
 rw [List.all_eq_true]
 constructor
 ·intro h p hp
  obtain ⟨k, hk, rfl⟩ := List.getElem_of_mem hp
  have := h k (List.mem_range.2 hk)
  simpa [hk] using this
 ·intro h k hk
  have hk := List.mem_range.1 hk
  have := h _ (List.getElem_mem hk)
  simpa [hk] using this
theorem getD_of {α : Type} {l : List α} {k : Nat} (d : α) (h : k < l.length) : l.getD k d = l[k] := by simp [h]
theorem find_bad {l : List api_Stitch} (hw : ∀ p, p ∈ l → wfS p) (hl : l.length ≤ 100000) : ∃ j, F_slices_IndexFunc___api_Stitch_api_Stitch__s0 l = some j ∧ (0 ≤ j ↔ ¬ allOk l) := by
 have key : ∃ t, whileO (slices_IndexFunc___api_Stitch_api_Stitch__s0_l1 l) 0 = some t ∧ ((t = .inr () ∧ allOk l) ∨ (∃ k : Nat, t = .inl (k : Int) ∧ ¬ allOk l)) := by
  refine loop_ix l.length (fun k => allOk (l.take k)) _ (fun p hp => by simp at hp) ?_ ?_
  ·intro k hk hI
   have hc := check_eq l[k] (hw _ (List.getElem_mem hk))
   unfold slices_IndexFunc___api_Stitch_api_Stitch__s0_l1 F_stitch_All_1
   simp only [dT (show (k : Int) < (l.length : Int) by omega), if_true, idxO_nat hk, Option.bind_some, hc, w64_succ (show k < 9223372036854775807 by omega)]
   by_cases ho : okS l[k]
   ·refine .inl ⟨by simp [ho], fun p hp => ?_⟩
    rw [List.take_succ_eq_append_getElem hk, List.mem_append] at hp
    rcases hp with hp | hp
    ·exact hI p hp
    ·simp at hp; subst hp; exact ho
   ·exact .inr ⟨.inl (k : Int), by simp [ho], .inr ⟨k, rfl, fun h => ho (h _ (List.getElem_mem hk))⟩⟩
  ·intro hI
   refine ⟨.inr (), ?_, .inl ⟨rfl, by simpa using hI⟩⟩
   unfold slices_IndexFunc___api_Stitch_api_Stitch__s0_l1
   simp only [dF (show ¬ (l.length : Int) < (l.length : Int) by omega), Bool.false_eq_true, if_false]
 obtain ⟨t, h1, h2⟩ := key
 unfold F_slices_IndexFunc___api_Stitch_api_Stitch__s0
 rw [h1]
 rcases h2 with ⟨rfl, h⟩ | ⟨k, rfl, h⟩
 ·exact ⟨-1, rfl, by simp [h]⟩
 ·exact ⟨(k : Int), rfl, by simp [h]⟩
theorem all_eq {l : List api_Stitch} (hw : ∀ p, p ∈ l → wfS p) : F_stitch_All l = some (allS l) := by
 unfold F_stitch_All allS
 by_cases hl : 200 < l.length
 ·simp only [dT (show (200 : Int) < (l.length : Int) by omega), if_true, if_pos hl]
 simp only [dF (show ¬ (200 : Int) < (l.length : Int) by omega), Bool.false_eq_true, if_false, if_neg hl]
 obtain ⟨j, h1, h2⟩ := find_bad hw (by omega)
 unfold F_slices_ContainsFunc___api_Stitch_api_Stitch__s0
 rw [h1]
 by_cases ho : allOk l
 ·have : ¬ 0 ≤ j := fun h => h2.1 h ho
  simp only [Option.bind_some, dF this, Bool.false_eq_true, if_false, sum_eq ho (show l.length ≤ 100000 by omega), if_pos ho]
  by_cases hm : 200 < sm usedS l ∨ 200 < sm madeS l
  ·rw [dT (show (200 : Int) < if sm usedS l < sm madeS l then sm madeS l else sm usedS l by split <;> omega)]
   simp [hm]
  ·rw [dF (show ¬ (200 : Int) < if sm usedS l < sm madeS l then sm madeS l else sm usedS l by split <;> omega)]
   simp [hm]
 ·have : 0 ≤ j := h2.2 ho
  simp only [Option.bind_some, dT this, if_true, if_neg ho]
theorem rall_eq (l : List api_Stitch) : F_raddleref25_All l = some (allS l) := by
 unfold F_raddleref25_All allS
 by_cases hl : 200 < l.length
 ·simp only [dT (show (200 : Int) < (l.length : Int) by omega), if_true, if_pos hl]
 simp only [dF (show ¬ (200 : Int) < (l.length : Int) by omega), Bool.false_eq_true, if_false, if_neg hl]
 have hloop : whileO (raddleref25_All_l1 l) 0 = some (if (List.range l.length).all (fun k => decide (okS (l.getD k ⟨0, false, 0, 0⟩))) = true then .inr () else .inl 8) := by
  refine loop_all l.length _ _ _ ?_ ?_
  ·intro k hk
   unfold raddleref25_All_l1
   simp only [dT (show (k : Int) < (l.length : Int) by omega), if_true, idxO_nat hk, Option.bind_some, rstitch_eq, w64_succ (show k < 9223372036854775807 by omega), getD_of _ hk]
   by_cases ho : okS l[k] <;> simp [ho]
  ·unfold raddleref25_All_l1
   simp only [dF (show ¬ (l.length : Int) < (l.length : Int) by omega), Bool.false_eq_true, if_false]
 rw [hloop]
 by_cases ho : allOk l
 ·rw [if_pos (allOk_range.2 ho), if_pos ho]
  simp only [Option.bind_some, rsums_eq ho (show l.length ≤ 100000 by omega)]
  by_cases hu : 200 < sm usedS l
  ·simp [hu]
  ·by_cases hm : 200 < sm madeS l <;> simp [hu, hm]
 ·rw [if_neg (fun h => ho (allOk_range.1 h)), if_neg ho]
  rfl
theorem allS_ok {l : List api_Stitch} (h : allS l = 0) : l.length ≤ 200 ∧ allOk l ∧ sm usedS l ≤ 200 ∧ sm madeS l ≤ 200 := by
 unfold allS at h
 split at h
 ·omega
 ·split at h
  ·rename_i h1 h2
   split at h
   ·omega
   ·rename_i h3
    exact ⟨by omega, h2, by omega, by omega⟩
  ·omega
def fin3 {σ τ : Type} (z0 : (σ ⊕ τ) ⊕ σ) : Option (σ ⊕ τ) := match z0 with
 | .inl z => some z
 | .inr g => some (.inl g)
theorem take_one {α : Type} (l : List α) {k : Nat} (hk : k < l.length) : l.take (k + 1) = l.take k ++ [l[k]] := by
 rw [List.take_add_one, List.getElem?_eq_getElem hk]; rfl
def othS (p : api_Stitch) : api_Stitch := ⟨p.Kind, if p.Kind = 2 ∨ p.Kind = 9 then p.Purl else !p.Purl, if p.Kind = 6 ∨ p.Kind = 7 then p.B else p.A, if p.Kind = 6 ∨ p.Kind = 7 then p.A else p.B⟩
theorem purl_no {p : api_Stitch} (h : okS p) (k : p.Kind = 2 ∨ p.Kind = 9) : p.Purl = false := by
 rcases h with h | h | h | h | h | h
 ·omega
 ·exact h.2.2.2
 ·omega
 ·omega
 ·exact h.2.2.2.2
 ·omega
theorem turn_form {p : api_Stitch} (h : okS p) : ∃ f, F_stitch_forms p.Kind = some (f, true) ∧ (if f.sided = true then some (!p.Purl) else some false) = some (othS p).Purl ∧ (if decide (0 < f.b.2) = true then some (p.B, p.A) else some (p.A, p.B)) = some ((othS p).A, (othS p).B) := by
 have hb := okS_bd h
 unfold othS
 rcases kinds (x := p.Kind) (by omega) with k | k | k | k | k | k | k | k | k | k | k | k
 ·omega
 ·exact ⟨⟨⟨#[]⟩, (0, 0), (0, 0), true, 1, 1⟩, by rw [k]; rfl, by simp [k], by simp [k]⟩
 ·exact ⟨⟨⟨#[]⟩, (0, 0), (0, 0), false, 0, 1⟩, by rw [k]; rfl, by simp [k, purl_no h (.inl k)], by simp [k]⟩
 ·exact ⟨⟨⟨#[102]⟩, (2, 4), (0, 0), true, 2, 1⟩, by rw [k]; rfl, by simp [k], by simp [k]⟩
 ·exact ⟨⟨⟨#[108]⟩, (2, 4), (0, 0), true, 2, 1⟩, by rw [k]; rfl, by simp [k], by simp [k]⟩
 ·exact ⟨⟨⟨#[109]⟩, (2, 4), (0, 0), true, 1, 2⟩, by rw [k]; rfl, by simp [k], by simp [k]⟩
 ·exact ⟨⟨⟨#[120]⟩, (1, 6), (1, 6), true, 3, 3⟩, by rw [k]; rfl, by simp [k], by simp [k]⟩
 ·exact ⟨⟨⟨#[121]⟩, (1, 6), (1, 6), true, 3, 3⟩, by rw [k]; rfl, by simp [k], by simp [k]⟩
 ·exact ⟨⟨⟨#[115]⟩, (0, 0), (0, 0), true, 1, 1⟩, by rw [k]; rfl, by simp [k], by simp [k]⟩
 ·exact ⟨⟨⟨#[]⟩, (1, 200), (0, 0), false, 0, 2⟩, by rw [k]; rfl, by simp [k, purl_no h (.inr k)], by simp [k]⟩
 ·exact ⟨⟨⟨#[111]⟩, (1, 200), (0, 0), true, 2, 0⟩, by rw [k]; rfl, by simp [k], by simp [k]⟩
 ·omega
theorem turn_step {p : api_Stitch} (h : okS p) (s : List api_Stitch) (hs : s.length ≤ 1000000000) (i : Int) : stitch_Turn_l2 s (i, p) = some (.inl (s ++ [othS p])) := by
 obtain ⟨f, f1, f2, f3⟩ := turn_form h
 unfold stitch_Turn_l2
 simp only [f1, Option.bind_some, f2, f3]
 rw [appO_of (by simp; omega)]
 rfl
def bkw {α : Type} (l : List α) : Nat → List (Int × α)
 | 0 => []
 | k + 1 => match l[k]? with
  | some x => ((k : Int), x) :: bkw l k
  | none => bkw l k
theorem bkw_fold {α β τ : Type} {B : List β → (Int × α) → Option (List β ⊕ τ)} (l : List α) (g : α → β) (m : Nat) (hB : ∀ s x i, x ∈ l → s.length ≤ m → B s (i, x) = some (.inl (s ++ [g x]))) : ∀ (k : Nat) (s : List β), k ≤ l.length → s.length + k ≤ m → foldO B s (bkw l k) = some (.inl (s ++ ((l.take k).map g).reverse)) := by
 intro k
 induction k with
 | zero => intro s _ _; simp [bkw, foldO]
 | succ k ih =>
  intro s hk hs
  have hx : l[k]? = some (l[k]'(by omega)) := List.getElem?_eq_getElem (by omega)
  simp only [bkw, hx, foldO]
  rw [hB s _ _ (List.getElem_mem _) (by omega)]
  simp only [Option.bind_some]
  rw [ih _ (by omega) (by simp; omega), take_one l (by omega), List.map_append, List.reverse_append, List.append_assoc]
  rfl
theorem back_loop {σ τ : Type} (l : List api_Stitch) (hl : l.length ≤ 1000000000) (B : σ → (Int × api_Stitch) → Option (σ ⊕ τ)) : ∀ (k : Nat) (z : σ), k ≤ l.length → (whileO (slices_Backward___api_Stitch_api_Stitch__1_l1 l B) ((k : Int) - 1, z)).bind fin3 = foldO B z (bkw l k) := by
 intro k
 induction k with
 | zero =>
  intro z _
  have : slices_Backward___api_Stitch_api_Stitch__1_l1 l B (((0 : Nat) : Int) - 1, z) = some (.inr (.inr z)) := by
   unfold slices_Backward___api_Stitch_api_Stitch__1_l1
   simp only [dF (show ¬ (0 : Int) ≤ ((0 : Nat) : Int) - 1 by omega), Bool.false_eq_true, if_false]
  rw [whileO_done this]
  rfl
 | succ k ih =>
  intro z hk
  have e : ((k + 1 : Nat) : Int) - 1 = (k : Int) := by omega
  have hx : l[k]? = some (l[k]'(by omega)) := List.getElem?_eq_getElem (by omega)
  have e1 : slices_Backward___api_Stitch_api_Stitch__1_l1 l B ((k : Int), z) = (B z ((k : Int), l[k]'(by omega))).bind fun y => match y with | .inl z' => some (.inl ((k : Int) - 1, z')) | .inr t => some (.inr (.inl (.inr t))) := by
   unfold slices_Backward___api_Stitch_api_Stitch__1_l1
   simp only [dT (show (0 : Int) ≤ (k : Int) by omega), if_true, idxO_nat (show k < l.length by omega), Option.bind_some, w64_of (show (-9223372036854775808 : Int) ≤ (k : Int) - 1 by omega) (by omega)]
   try congr 1
  simp only [bkw, hx]
  rw [e, whileO_eq, e1, foldO]
  cases hb : B z ((k : Int), l[k]'(by omega)) with
  | none => rfl
  | some y =>
   cases y with
   | inl z' => exact ih z' (by omega)
   | inr t => rfl
theorem backI_eq {σ τ : Type} (l : List api_Stitch) (hl : l.length ≤ 1000000000) (B : σ → (Int × api_Stitch) → Option (σ ⊕ τ)) (z : σ) : I_slices_Backward___api_Stitch_api_Stitch__1 l σ τ B z = foldO B z (bkw l l.length) := by
 rw [← back_loop l hl B l.length z (Nat.le_refl _)]
 unfold I_slices_Backward___api_Stitch_api_Stitch__1
 rw [w64_of (show (-9223372036854775808 : Int) ≤ (l.length : Int) - 1 by omega) (by omega)]
 try congr 1
theorem turn_eq {l : List api_Stitch} (hw : ∀ p, p ∈ l → wfS p) : F_stitch_Turn l = some (if allS l = 0 then ((l.map othS).reverse, 0) else ([], allS l)) := by
 unfold F_stitch_Turn F_slices_Backward___api_Stitch_api_Stitch_
 rw [all_eq hw]
 by_cases h : allS l = 0
 case neg => simp only [Option.bind_some, nT h, if_true, if_neg h]
 have hk := allS_ok h
 simp only [Option.bind_some, nF h, Bool.false_eq_true, if_false, capO_of (n := (l.length : Int)) (k := l.length) rfl (by omega), if_pos h]
 rw [backI_eq l (by omega), bkw_fold l othS 1000000000 (fun s x i hx hs => turn_step (hk.2.1 x hx) s hs i) l.length [] (Nat.le_refl _) (by simp; omega), List.take_length]
 rfl
theorem oth_ok {p : api_Stitch} (h : okS p) : okS (othS p) ∧ usedS (othS p) = usedS p ∧ madeS (othS p) = madeS p := by
 have hb := okS_bd h
 have hk : (othS p).Kind = p.Kind := rfl
 rcases kinds (x := p.Kind) (by omega) with k | k | k | k | k | k | k | k | k | k | k | k
 ·omega
 ·refine ⟨?_, ?_, ?_⟩ <;> simp [okS, usedS, madeS, othS, k] at h ⊢ <;> omega
 ·refine ⟨?_, ?_, ?_⟩ <;> simp [okS, usedS, madeS, othS, k] at h ⊢ <;> exact h
 ·refine ⟨?_, ?_, ?_⟩ <;> simp [okS, usedS, madeS, othS, k] at h ⊢ <;> omega
 ·refine ⟨?_, ?_, ?_⟩ <;> simp [okS, usedS, madeS, othS, k] at h ⊢ <;> omega
 ·refine ⟨?_, ?_, ?_⟩ <;> simp [okS, usedS, madeS, othS, k] at h ⊢ <;> omega
 ·refine ⟨?_, ?_, ?_⟩ <;> simp [okS, usedS, madeS, othS, k] at h ⊢ <;> omega
 ·refine ⟨?_, ?_, ?_⟩ <;> simp [okS, usedS, madeS, othS, k] at h ⊢ <;> omega
 ·refine ⟨?_, ?_, ?_⟩ <;> simp [okS, usedS, madeS, othS, k] at h ⊢ <;> omega
 ·refine ⟨?_, ?_, ?_⟩ <;> simp [okS, usedS, madeS, othS, k] at h ⊢ <;> first | exact h | omega
 ·refine ⟨?_, ?_, ?_⟩ <;> simp [okS, usedS, madeS, othS, k] at h ⊢ <;> omega
 ·omega
theorem sm_reverse {α : Type} (f : α → Int) (l : List α) : sm f l.reverse = sm f l := by
 induction l with
 | nil => rfl
 | cons x l ih => rw [List.reverse_cons, sm_append, ih]; simp only [sm]; omega
theorem sm_oth {l : List api_Stitch} (h : allOk l) : sm usedS (l.map othS) = sm usedS l ∧ sm madeS (l.map othS) = sm madeS l := by
 induction l with
 | nil => exact ⟨rfl, rfl⟩
 | cons x l ih =>
  have hx := oth_ok (h x (by simp))
  have ih := ih fun y hy => h y (by simp [hy])
  simp only [List.map_cons, sm, hx.2.1, hx.2.2, ih.1, ih.2, and_self]
theorem turned_ok {l : List api_Stitch} (h : allS l = 0) : allS ((l.map othS).reverse) = 0 ∧ sm usedS ((l.map othS).reverse) = sm usedS l ∧ sm madeS ((l.map othS).reverse) = sm madeS l := by
 obtain ⟨h1, h2, h3, h4⟩ := allS_ok h
 have hs := sm_oth h2
 have hok : allOk ((l.map othS).reverse) := by
  intro p hp
  rw [List.mem_reverse] at hp
  obtain ⟨q, hq, rfl⟩ := List.mem_map.1 hp
  exact (oth_ok (h2 q hq)).1
 rw [sm_reverse, sm_reverse, hs.1, hs.2]
 refine ⟨?_, rfl, rfl⟩
 unfold allS
 rw [sm_reverse, sm_reverse, hs.1, hs.2, if_neg (by simp; omega), if_pos hok, if_neg (by omega)]
noncomputable def F_raddleref25_Uses (p0 : (List api_Stitch)) : Option (Int × Int) :=
 (F_raddleref25_All p0).bind fun r6 =>
 if r6 != 0 then
  some (0, r6)
 else
  (F_raddleref25_sums p0).bind fun a0 =>
  some (a0.1, 0)
theorem c_raddleref25_Uses (E : Nat → Prop) (w0 : World) (p0 : (List api_Stitch)) (v0 : Value) (r : (Int × Int)) (h : F_raddleref25_Uses p0 = some r) (S : St0 E [] w0 w0 [] [fRep (rL r_api_Stitch) (v0) p0]) :
 Calls Try.prog 35 #[v0] w0 (Ret (X := Unit) E [] w0 (fun _ => .tuple #[.int .i64 r.1, .int .i64 r.2]) (fun _ => []) (fun _ => [])) := by
 unfold F_raddleref25_Uses at h
 obtain ⟨a4, a5, _, rfl, _⟩ := S.know (i := 0) (e := fRep (rL r_api_Stitch) (v0) p0) rfl
 refine sEnter (args := [.slice a4 p0.length a5]) 17 Try.func35 rfl rfl (by simp) S (fun a S => ?_)
 refine sSeq (fun K3 ab => sRegion (sN S fun a S => ?_))
 refine sN S fun a S => ?_
 refine lT (ab _ _ (sSeq (fun K4 ac => sSeq (fun K5 ae => sRegion (sM S fun a S => ?_)))))
 obtain ⟨r6, aa, h⟩ := bS h
 have S1 := S.mem
 refine sCq [.slice a4 p0.length a5] (iv r6) S callee48 (S1.quiet [0] rfl) (fun E1 w1 S1 => c_raddleref25_All E1 w1 p0 (.slice a4 p0.length a5) r6 aa S1) fun a w S => ?_
 refine sBin _ S (wN rfl) rfl rfl rfl (bNe _ _ _ _ .i64 r6 0) rfl (lb rfl) fun a S => ?_
 refine lT (ae _ _ ?_)
 rcases iS h with ⟨a6, h⟩ | ⟨a6, h⟩
 ·refine sCondT S rfl a6 ?_
  refine sSeq (fun K9 af => sRegion (sM S fun a S => ?_))
  have S1 := S.mem
  refine sCq [.slice a4 p0.length a5] (iv r6) S callee48 (S1.quiet [0] rfl) (fun E1 w1 S1 => c_raddleref25_All E1 w1 p0 (.slice a4 p0.length a5) r6 aa S1) fun a w S => ?_
  refine sN S fun a S => ?_
  refine sN S fun a S => ?_
  refine lT (af _ _ ?_)
  obtain rfl := tS h
  exact wp_ret (rThen (sRet (.tuple #[iv 0, iv r6]) S (rsl2 rfl (rvT (t := 2) (v := iv 0) S rfl) (rvT (t := 3) (v := iv r6) S rfl)) ⟨(), rfl, S.mem.sel [] [] (by decide) rfl rfl⟩))
 refine sCondF S rfl a6 ?_
 refine wp_skip (leafT (ac _ _ ?_))
 refine sSeq (fun ag a7 => sRegion (sM S fun a S => ?_))
 obtain ⟨a0, a8, h⟩ := bS h
 have S1 := S.mem
 refine sCq [.slice a4 p0.length a5] (.tuple #[iv a0.1, iv a0.2]) S callee49 (S1.quiet [0] rfl) (fun E1 w1 S1 => c_raddleref25_sums E1 w1 p0 (.slice a4 p0.length a5) a0 a8 S1) fun a w S => ?_
 refine sM S fun a S => ?_
 refine sExtract (vs := [iv a0.1, iv a0.2]) (iv a0.1) S (wN rfl) rfl rfl rfl rfl (lb rfl) fun a S => ?_
 refine sExtract (vs := [iv a0.1, iv a0.2]) (iv a0.2) S (wN rfl) rfl rfl rfl rfl (lb rfl) fun a S => ?_
 refine sN S fun a S => ?_
 refine sN S fun a S => ?_
 refine lT (a7 _ _ (sSeq (fun ah a9 => sRegion (sM S fun a S => ?_))))
 refine sN S fun a S => ?_
 refine sN S fun a S => ?_
 refine lT (a9 _ _ ?_)
 obtain rfl := tS h
 exact wp_ret (sRet (.tuple #[iv a0.1, iv 0]) S (rsl2 rfl (rvT (t := 2) (v := iv a0.1) S rfl) (rvT (t := 3) (v := iv 0) S rfl)) ⟨(), rfl, S.mem.sel [] [] (by decide) rfl rfl⟩)
noncomputable def F_raddleref25_Makes (p0 : (List api_Stitch)) : Option (Int × Int) :=
 (F_raddleref25_All p0).bind fun r6 =>
 if r6 != 0 then
  some (0, r6)
 else
  (F_raddleref25_sums p0).bind fun a0 =>
  some (a0.2, 0)
theorem c_raddleref25_Makes (E : Nat → Prop) (w0 : World) (p0 : (List api_Stitch)) (v0 : Value) (r : (Int × Int)) (h : F_raddleref25_Makes p0 = some r) (S : St0 E [] w0 w0 [] [fRep (rL r_api_Stitch) (v0) p0]) :
 Calls Try.prog 36 #[v0] w0 (Ret (X := Unit) E [] w0 (fun _ => .tuple #[.int .i64 r.1, .int .i64 r.2]) (fun _ => []) (fun _ => [])) := by
 unfold F_raddleref25_Makes at h
 obtain ⟨a4, a5, _, rfl, _⟩ := S.know (i := 0) (e := fRep (rL r_api_Stitch) (v0) p0) rfl
 refine sEnter (args := [.slice a4 p0.length a5]) 17 Try.func36 rfl rfl (by simp) S (fun a S => ?_)
 refine sSeq (fun K3 ab => sRegion (sN S fun a S => ?_))
 refine sN S fun a S => ?_
 refine lT (ab _ _ (sSeq (fun K4 ac => sSeq (fun K5 ae => sRegion (sM S fun a S => ?_)))))
 obtain ⟨r6, aa, h⟩ := bS h
 have S1 := S.mem
 refine sCq [.slice a4 p0.length a5] (iv r6) S callee48 (S1.quiet [0] rfl) (fun E1 w1 S1 => c_raddleref25_All E1 w1 p0 (.slice a4 p0.length a5) r6 aa S1) fun a w S => ?_
 refine sBin _ S (wN rfl) rfl rfl rfl (bNe _ _ _ _ .i64 r6 0) rfl (lb rfl) fun a S => ?_
 refine lT (ae _ _ ?_)
 rcases iS h with ⟨a6, h⟩ | ⟨a6, h⟩
 ·refine sCondT S rfl a6 ?_
  refine sSeq (fun K9 af => sRegion (sM S fun a S => ?_))
  have S1 := S.mem
  refine sCq [.slice a4 p0.length a5] (iv r6) S callee48 (S1.quiet [0] rfl) (fun E1 w1 S1 => c_raddleref25_All E1 w1 p0 (.slice a4 p0.length a5) r6 aa S1) fun a w S => ?_
  refine sN S fun a S => ?_
  refine sN S fun a S => ?_
  refine lT (af _ _ ?_)
  obtain rfl := tS h
  exact wp_ret (rThen (sRet (.tuple #[iv 0, iv r6]) S (rsl2 rfl (rvT (t := 2) (v := iv 0) S rfl) (rvT (t := 3) (v := iv r6) S rfl)) ⟨(), rfl, S.mem.sel [] [] (by decide) rfl rfl⟩))
 refine sCondF S rfl a6 ?_
 refine wp_skip (leafT (ac _ _ ?_))
 refine sSeq (fun ag a7 => sRegion (sM S fun a S => ?_))
 obtain ⟨a0, a8, h⟩ := bS h
 have S1 := S.mem
 refine sCq [.slice a4 p0.length a5] (.tuple #[iv a0.1, iv a0.2]) S callee49 (S1.quiet [0] rfl) (fun E1 w1 S1 => c_raddleref25_sums E1 w1 p0 (.slice a4 p0.length a5) a0 a8 S1) fun a w S => ?_
 refine sM S fun a S => ?_
 refine sExtract (vs := [iv a0.1, iv a0.2]) (iv a0.1) S (wN rfl) rfl rfl rfl rfl (lb rfl) fun a S => ?_
 refine sExtract (vs := [iv a0.1, iv a0.2]) (iv a0.2) S (wN rfl) rfl rfl rfl rfl (lb rfl) fun a S => ?_
 refine sN S fun a S => ?_
 refine sN S fun a S => ?_
 refine lT (a7 _ _ (sSeq (fun ah a9 => sRegion (sM S fun a S => ?_))))
 refine sN S fun a S => ?_
 refine sN S fun a S => ?_
 refine lT (a9 _ _ ?_)
 obtain rfl := tS h
 exact wp_ret (sRet (.tuple #[iv a0.2, iv 0]) S (rsl2 rfl (rvT (t := 2) (v := iv a0.2) S rfl) (rvT (t := 3) (v := iv 0) S rfl)) ⟨(), rfl, S.mem.sel [] [] (by decide) rfl rfl⟩)
theorem uses_eq {l : List api_Stitch} (hw : ∀ p, p ∈ l → wfS p) : F_stitch_Uses l = some (if allS l = 0 then (sm usedS l, 0) else (0, allS l)) := by
 unfold F_stitch_Uses
 rw [all_eq hw, Option.bind_some]
 by_cases h : allS l = 0
 ·simp only [nF h, Bool.false_eq_true, if_false, sum_eq (allS_ok h).2.1 (show l.length ≤ 100000 by have := (allS_ok h).1; omega), Option.bind_some, if_pos h]
 ·simp only [nT h, if_true, if_neg h]
theorem makes_eq {l : List api_Stitch} (hw : ∀ p, p ∈ l → wfS p) : F_stitch_Makes l = some (if allS l = 0 then (sm madeS l, 0) else (0, allS l)) := by
 unfold F_stitch_Makes
 rw [all_eq hw, Option.bind_some]
 by_cases h : allS l = 0
 ·simp only [nF h, Bool.false_eq_true, if_false, sum_eq (allS_ok h).2.1 (show l.length ≤ 100000 by have := (allS_ok h).1; omega), Option.bind_some, if_pos h]
 ·simp only [nT h, if_true, if_neg h]
theorem ruses_eq (l : List api_Stitch) : F_raddleref25_Uses l = some (if allS l = 0 then (sm usedS l, 0) else (0, allS l)) := by
 unfold F_raddleref25_Uses
 rw [rall_eq, Option.bind_some]
 by_cases h : allS l = 0
 ·simp only [nF h, Bool.false_eq_true, if_false, rsums_eq (allS_ok h).2.1 (show l.length ≤ 100000 by have := (allS_ok h).1; omega), Option.bind_some, if_pos h]
 ·simp only [nT h, if_true, if_neg h]
theorem rmakes_eq (l : List api_Stitch) : F_raddleref25_Makes l = some (if allS l = 0 then (sm madeS l, 0) else (0, allS l)) := by
 unfold F_raddleref25_Makes
 rw [rall_eq, Option.bind_some]
 by_cases h : allS l = 0
 ·simp only [nF h, Bool.false_eq_true, if_false, rsums_eq (allS_ok h).2.1 (show l.length ≤ 100000 by have := (allS_ok h).1; omega), Option.bind_some, if_pos h]
 ·simp only [nT h, if_true, if_neg h]
noncomputable def raddleref26_Check_l1 (p0 : api_Chart) : (Int × Int) → Option ((Int × Int) ⊕ (Int ⊕ Unit)) := fun s0 => match s0 with
 | (a6, a0) =>
  if decide (a0 < (p0.Rows.length : Int)) then
   (idxO p0.Rows a0).bind fun a5 =>
   (F_raddleref25_Uses a5.Cells).bind fun a4 =>
   if a4.2 != 0 then
    some (.inr (.inl a4.2))
   else
    if a4.1 != a6 then
     some (.inr (.inl 26))
    else
     (F_raddleref25_Makes a5.Cells).bind fun a7 =>
     some (.inl (a7.1, w64 (a0 + 1)))
  else
   some (.inr (.inr ()))
noncomputable def F_raddleref26_Check (p0 : api_Chart) : Option Int :=
 if decide (100 < (p0.Rows.length : Int)) then
  some 4
 else
  Option.bind (α := Bool) (
   if decide (p0.Start < 0) then
    some true
   else
    some (decide (200 < p0.Start))) fun a0 =>
  if a0 then
   some 8
  else
   Option.bind (α := Unit ⊕ Int) (
    (whileO (raddleref26_Check_l1 p0) (p0.Start, 0)).bind fun z0 => match z0 with
     | .inl z =>
      some (.inr z)
     | .inr _ =>
      some (.inl ())) fun z0 => match z0 with
    | .inl _ =>
     some 0
    | .inr z =>
     some z
theorem c_raddleref26_Check (E : Nat → Prop) (w0 : World) (p0 : api_Chart) (v0 : Value) (r : Int) (h : F_raddleref26_Check p0 = some r) (S : St0 E [] w0 w0 [] [fRep r_api_Chart (v0) p0]) :
 Calls Try.prog 21 #[v0] w0 (Ret (X := Unit) E [] w0 (fun _ => .int .i64 r) (fun _ => []) (fun _ => [])) := by
 unfold F_raddleref26_Check at h
 obtain ⟨u1, rfl, aU⟩ := S.know (i := 0) (e := fRep r_api_Chart (v0) p0) rfl
 have S := S.learn (fRep (rL r_api_Row) u1 p0.Rows) aU
 obtain ⟨a5, a6, _, rfl, _⟩ := aU
 refine sEnter (args := [.agg #[iv p0.Start, .slice a5 p0.Rows.length a6]]) 54 Try.func21 rfl rfl (by simp) S (fun a S => ?_)
 refine sSeq (fun K5 ba => sRegion (sBox (v := .agg #[iv p0.Start, .slice a5 p0.Rows.length a6]) S (wN rfl) rfl rfl [iv p0.Start, .slice a5 p0.Rows.length a6] rfl rfl (lb rfl) fun a b6 w S => ?_))
 refine sN S fun a S => ?_
 refine lT (ba _ _ (sSeq (fun K7 bb => sSeq (fun K8 bc => sRegion (sField (b := b6) (off := 0) 1 1 S (wN rfl) rfl rfl rfl rfl rfl (lb rfl) fun a S => ?_)))))
 refine sLoad1 0 (.slice a5 p0.Rows.length a6) S (wN rfl) rfl rfl rfl rfl rfl rfl (lb rfl) fun a S => ?_
 refine sLen S (wN rfl) rfl Try.underlying22 rfl rfl (lb rfl) fun a S => ?_
 refine sBin _ S (wN rfl) rfl rfl rfl (bGt _ _ _ _ .i64 (p0.Rows.length : Int) 100) rfl (lb rfl) fun a S => ?_
 refine lT (bc _ _ ?_)
 rcases iS h with ⟨al, h⟩ | ⟨al, h⟩
 ·refine sCondT S rfl al ?_
  refine sSeq (fun bk am => sRegion (sN S fun a S => ?_))
  refine lT (am _ _ ?_)
  obtain rfl := tS h
  exact wp_ret (rThen (sRet (iv 4) S (rsl1 rfl (rvT (t := 2) (v := iv 4) S rfl)) ⟨(), rfl, S.mem.sel [] [] (by decide) rfl rfl⟩))
 refine sCondF S rfl al ?_
 refine wp_skip (leafT (bb _ _ ?_))
 refine sSeq (fun bl ao => ?_)
 obtain ⟨bf, h, bg⟩ := bS h
 refine sCut (fun a w => ∃ ap, ap = bf ∧ St [] E [] w0 54 a w [(1, .pointer (some ⟨b6, 0, none⟩)), (18, .bool ap)] [eBox b6 24 [iv p0.Start, .slice a5 p0.Rows.length a6]] [fRep (rL r_api_Row) (.slice a5 p0.Rows.length a6) p0.Rows]) ?_ (fun a w hI => ?_)
 ·refine sRegion (sField (b := b6) (off := 0) 0 0 S (wN rfl) rfl rfl rfl rfl rfl (lb rfl) fun a S => ?_)
  refine sLoad1 0 (iv p0.Start) S (wN rfl) rfl rfl rfl rfl rfl rfl (lb rfl) fun a S => ?_
  refine sBin _ S (wN rfl) rfl rfl rfl (bLt _ _ _ _ .i64 p0.Start 0) rfl (lb rfl) fun a S => ?_
  refine sM S fun a S => ?_
  rcases iS h with ⟨a0, h⟩ | ⟨a0, h⟩
  ·refine sSkN 3 3 false 14 S rfl rfl a0 rfl fun a S => ?_
   refine sPickT (.bool true) S (wN rfl) rfl rfl a0 rfl rfl (lb rfl) fun a S => ?_
   exact lT (⟨true, Option.some.inj h, S.fix [0] [0] (by decide) rfl rfl rfl⟩)
  refine sField (b := b6) (off := 0) 0 0 S (wG 3 false 14 rfl rfl rfl a0) rfl rfl rfl rfl rfl (lb rfl) fun a S => ?_
  refine sLoad1 0 (iv p0.Start) S (wG 3 false 14 rfl rfl rfl a0) rfl rfl rfl rfl rfl rfl (lb rfl) fun a S => ?_
  refine sBin _ S (wG 3 false 14 rfl rfl rfl a0) rfl rfl rfl (bGt _ _ _ _ .i64 p0.Start 200) rfl (lb rfl) fun a S => ?_
  refine sPickF (.bool (decide (200 < p0.Start))) S (wN rfl) rfl rfl a0 rfl rfl (lb rfl) fun a S => ?_
  exact lT (⟨decide (200 < p0.Start), Option.some.inj h, S.fix [0] [0] (by decide) rfl rfl rfl⟩)
 obtain ⟨ap, rfl, S⟩ := hI
 have h := bg
 try dsimp only at h
 rcases iS h with ⟨a9, h⟩ | ⟨a9, h⟩
 ·refine sCondT S rfl a9 ?_
  refine sSeq (fun bm aq => sRegion (sN S fun a S => ?_))
  refine lT (aq _ _ ?_)
  obtain rfl := tS h
  exact wp_ret (rThen (sRet (iv 8) S (rsl1 rfl (rvT (t := 2) (v := iv 8) S rfl)) ⟨(), rfl, S.mem.sel [] [] (by decide) rfl rfl⟩))
 refine sCondF S rfl a9 ?_
 refine wp_skip (leafT (ao _ _ ?_))
 refine sSeq (fun bn ar => sRegion (sField (b := b6) (off := 0) 0 0 S (wN rfl) rfl rfl rfl rfl rfl (lb rfl) fun a S => ?_))
 refine sLoad1 0 (iv p0.Start) S (wN rfl) rfl rfl rfl rfl rfl rfl (lb rfl) fun a S => ?_
 refine sN S fun a S => ?_
 refine lT (ar _ _ ?_)
 obtain ⟨bh, h, au⟩ := bS h
 refine sCut (fun a w => .inl () = bh ∧ St [] E [] w0 54 a w [] [] []) ?_ (fun a w hI => ?_)
 rotate_left
 ·obtain ⟨rfl, S⟩ := hI
  have h := au
  try dsimp only at h
  refine sSeq (fun bo av => sRegion (sN S fun a S => ?_))
  refine lT (av _ _ ?_)
  obtain rfl := tS h
  exact wp_ret (sRet (iv 0) S (rsl1 rfl (rvT (t := 2) (v := iv 0) S rfl)) ⟨(), rfl, S.mem.sel [] [] (by decide) rfl rfl⟩)
 refine sSeq (fun bp aw => sRegion (sN S fun a S => ?_))
 refine lT (aw _ _ (wp_block ?_))
 obtain ⟨bq, hl, ax⟩ := bS h
 refine sLoop hl (fun s0 a w => match s0 with | (ay, aa) => St [] E [] w0 54 a w [(1, .pointer (some ⟨b6, 0, none⟩)), (3, iv ay), (4, iv aa)] [eBox b6 24 [iv p0.Start, .slice a5 p0.Rows.length a6]] [fRep (rL r_api_Row) (.slice a5 p0.Rows.length a6) p0.Rows]) (S.fix [0] [0] (by decide) rfl rfl rfl) ?_
 clear hl h
 intro s0 a w c0 hI h ab
 obtain ⟨ay, aa⟩ := s0
 unfold raddleref26_Check_l1 at h
 dsimp only at h hI
 have S := hI
 refine sSeq (fun br az => sSeq (fun bt aA => sRegion (sM S fun a S => ?_)))
 refine sField (b := b6) (off := 0) 1 1 S (wN rfl) rfl rfl rfl rfl rfl (lb rfl) fun a S => ?_
 refine sLoad1 0 (.slice a5 p0.Rows.length a6) S (wN rfl) rfl rfl rfl rfl rfl rfl (lb rfl) fun a S => ?_
 refine sLen S (wN rfl) rfl Try.underlying22 rfl rfl (lb rfl) fun a S => ?_
 refine sBin _ S (wN rfl) rfl rfl rfl (bLt _ _ _ _ .i64 aa (p0.Rows.length : Int)) rfl (lb rfl) fun a S => ?_
 refine lT (aA _ _ ?_)
 rcases iS h with ⟨ac, h⟩ | ⟨ac, h⟩
 rotate_left
 ·refine sCondF S rfl ac ?_
  obtain rfl := tS h
  obtain rfl := ab _ rfl
  have h := ax
  try dsimp only at h
  exact wp_exit (xThen (xThen (xHit (leafT (⟨Option.some.inj h, S.fix [] [] (by decide) rfl rfl rfl⟩)))))
 refine sCondT S rfl ac ?_
 refine wp_skip (leafT (az _ _ ?_))
 refine sSeq (fun bu aC => wp_block ?_)
 refine sSeq (fun bv aG => sRegion (sField (b := b6) (off := 0) 1 1 S (wN rfl) rfl rfl rfl rfl rfl (lb rfl) fun a S => ?_))
 refine sLoad1 0 (.slice a5 p0.Rows.length a6) S (wN rfl) rfl rfl rfl rfl rfl rfl (lb rfl) fun a S => ?_
 refine sM S fun a S => ?_
 obtain ⟨a4, ak, h⟩ := bS h
 obtain ⟨aV, aH, S⟩ := pIdx (P := Try.prog) (r := r_api_Row) (v := .slice a5 p0.Rows.length a6) (xs := p0.Rows) (j := aa) 22 65 0 S Try.underlying22 rfl rfl ak
 refine sIdxV S (wN rfl) rfl rfl rfl aH rfl (lb rfl) fun a S => ?_
 obtain ⟨aW, aI, S⟩ := pFld (P := Try.prog) (r := r_api_Row) (s2 := (rL r_api_Stitch)) (g := (·.Cells)) (q := aV) (z := a4) 65 1 0 1 S rfl rfl comp_api_Row_Cells
 refine sFldV (q := aV) S (wN rfl) rfl rfl aI rfl (lb rfl) fun a S => ?_
 obtain ⟨bi, S⟩ := pLoad (r := (rL r_api_Stitch)) (q := aW) (x := a4.Cells) 0 S rfl
 obtain ⟨ae, af, _, rfl, _⟩ := S.mem.know (i := 1) (e := fRep (rL r_api_Stitch) (bi) a4.Cells) rfl
 refine sLoadV1 (vq := aW) 0 (.slice ae a4.Cells.length af) S (wN rfl) rfl rfl rfl rfl rfl (lb rfl) fun a S => ?_
 obtain ⟨a7, aJ, h⟩ := bS h
 have S1 := S.mem
 refine sCq [.slice ae a4.Cells.length af] (.tuple #[iv a7.1, iv a7.2]) S callee35 (S1.quiet [1] rfl) (fun E1 w1 S1 => c_raddleref25_Uses E1 w1 a4.Cells (.slice ae a4.Cells.length af) a7 aJ S1) fun a w S => ?_
 refine sM S fun a S => ?_
 refine sExtract (vs := [iv a7.1, iv a7.2]) (iv a7.1) S (wN rfl) rfl rfl rfl rfl (lb rfl) fun a S => ?_
 refine sExtract (vs := [iv a7.1, iv a7.2]) (iv a7.2) S (wN rfl) rfl rfl rfl rfl (lb rfl) fun a S => ?_
 refine sN S fun a S => ?_
 refine sN S fun a S => ?_
 refine lT (aG _ _ (sSeq (fun bw aK => sSeq (fun bx aL => sRegion (sM S fun a S => ?_)))))
 refine sBin _ S (wN rfl) rfl rfl rfl (bNe _ _ _ _ .i64 a7.2 0) rfl (lb rfl) fun a S => ?_
 refine lT (aL _ _ ?_)
 rcases iS h with ⟨ag, h⟩ | ⟨ag, h⟩
 ·refine sCondT S rfl ag ?_
  refine sSeq (fun bz aM => sRegion (sM S fun a S => ?_))
  refine sN S fun a S => ?_
  refine lT (aM _ _ ?_)
  obtain rfl := tS h
  obtain rfl := ab _ rfl
  have h := ax
  try dsimp only at h
  obtain rfl := tS h
  have h := au
  try dsimp only at h
  obtain rfl := tS h
  exact wp_ret (rThen (rBlock (rThen (rThen (rBlock (rThen (sRet (iv a7.2) S (rsl1 rfl (rvT (t := 2) (v := iv a7.2) S rfl)) ⟨(), rfl, S.mem.sel [] [] (by decide) rfl rfl⟩)))))))
 refine sCondF S rfl ag ?_
 refine wp_skip (leafT (aK _ _ ?_))
 refine sSeq (fun bA aO => sSeq (fun bB aP => sRegion (sM S fun a S => ?_)))
 refine sM S fun a S => ?_
 refine sBin _ S (wN rfl) rfl rfl rfl (bNe _ _ _ _ .i64 a7.1 ay) rfl (lb rfl) fun a S => ?_
 refine lT (aP _ _ ?_)
 rcases iS h with ⟨ah, h⟩ | ⟨ah, h⟩
 ·refine sCondT S rfl ah ?_
  refine sSeq (fun bC aQ => sRegion (sN S fun a S => ?_))
  refine lT (aQ _ _ ?_)
  obtain rfl := tS h
  obtain rfl := ab _ rfl
  have h := ax
  try dsimp only at h
  obtain rfl := tS h
  have h := au
  try dsimp only at h
  obtain rfl := tS h
  exact wp_ret (rThen (rBlock (rThen (rThen (rBlock (rThen (sRet (iv 26) S (rsl1 rfl (rvT (t := 2) (v := iv 26) S rfl)) ⟨(), rfl, S.mem.sel [] [] (by decide) rfl rfl⟩)))))))
 refine sCondF S rfl ah ?_
 refine wp_skip (leafT (aO _ _ ?_))
 refine sRegion (sField (b := b6) (off := 0) 1 1 S (wN rfl) rfl rfl rfl rfl rfl (lb rfl) fun a S => ?_)
 refine sLoad1 0 (.slice a5 p0.Rows.length a6) S (wN rfl) rfl rfl rfl rfl rfl rfl (lb rfl) fun a S => ?_
 refine sM S fun a S => ?_
 obtain ⟨aX, aR, S⟩ := pIdx (P := Try.prog) (r := r_api_Row) (v := .slice a5 p0.Rows.length a6) (xs := p0.Rows) (j := aa) 22 65 4 S Try.underlying22 rfl rfl ak
 refine sIdxV S (wN rfl) rfl rfl rfl aR rfl (lb rfl) fun a S => ?_
 obtain ⟨aZ, aS, S⟩ := pFld (P := Try.prog) (r := r_api_Row) (s2 := (rL r_api_Stitch)) (g := (·.Cells)) (q := aX) (z := a4) 65 1 0 1 S rfl rfl comp_api_Row_Cells
 refine sFldV (q := aX) S (wN rfl) rfl rfl aS rfl (lb rfl) fun a S => ?_
 obtain ⟨bj, S⟩ := pLoad (r := (rL r_api_Stitch)) (q := aZ) (x := a4.Cells) 0 S rfl
 obtain ⟨ai, aj, _, rfl, _⟩ := S.mem.know (i := 1) (e := fRep (rL r_api_Stitch) (bj) a4.Cells) rfl
 refine sLoadV1 (vq := aZ) 0 (.slice ai a4.Cells.length aj) S (wN rfl) rfl rfl rfl rfl rfl (lb rfl) fun a S => ?_
 obtain ⟨a8, aT, h⟩ := bS h
 have S1 := S.mem
 refine sCq [.slice ai a4.Cells.length aj] (.tuple #[iv a8.1, iv a8.2]) S callee36 (S1.quiet [1] rfl) (fun E1 w1 S1 => c_raddleref25_Makes E1 w1 a4.Cells (.slice ai a4.Cells.length aj) a8 aT S1) fun a w S => ?_
 refine sM S fun a S => ?_
 refine sExtract (vs := [iv a8.1, iv a8.2]) (iv a8.1) S (wN rfl) rfl rfl rfl rfl (lb rfl) fun a S => ?_
 refine sExtract (vs := [iv a8.1, iv a8.2]) (iv a8.2) S (wN rfl) rfl rfl rfl rfl (lb rfl) fun a S => ?_
 refine sN S fun a S => ?_
 refine leafL (leafB (leafT (aC _ _ ?_)))
 refine sRegion (sM S fun a S => ?_)
 refine sBin _ S (wN rfl) rfl rfl rfl (bAdd _ _ _ _ aa 1) rfl (lb rfl) fun a S => ?_
 refine sN S fun a S => ?_
 exact lT (⟨(a8.1, w64 (aa + 1)), (Option.some.inj h).symm, (S.fix [0] [8] (by decide) rfl rfl rfl)⟩)
def wfR (rows : List api_Row) : Prop := ∀ r, r ∈ rows → ∀ p, p ∈ r.Cells → wfS p
def chkR : Int → List api_Row → Int
 | _, [] => 0
 | n, r :: rs => if allS r.Cells ≠ 0 then allS r.Cells else if sm usedS r.Cells ≠ n then 26 else chkR (sm madeS r.Cells) rs
def ctl : Nat → Int → List api_Row → List (Int × chart_count)
 | _, _, [] => []
 | i, n, r :: rs => if allS r.Cells ≠ 0 then [((i : Int), ⟨n, 0, allS r.Cells⟩)] else if sm usedS r.Cells ≠ n then [((i : Int), ⟨n, 0, 26⟩)] else ((i : Int), ⟨n, sm madeS r.Cells, 0⟩) :: ctl (i + 1) (sm madeS r.Cells) rs
theorem counted_loop {σ τ : Type} (c : api_Chart) (hw : wfR c.Rows) (hl : c.Rows.length ≤ 1000000000) (B : σ → (Int × chart_count) → Option (σ ⊕ τ)) : ∀ (rs : List api_Row) (i : Nat) (n : Int) (z : σ), c.Rows.drop i = rs → (whileO (chart_counted_1_l1 c B) (n, (i : Int), z)).bind fin3 = foldO B z (ctl i n rs) := by
 intro rs
 induction rs with
 | nil =>
  intro i n z hd
  have hi : c.Rows.length ≤ i := by
   have := congrArg List.length hd
   simp at this; omega
  have : chart_counted_1_l1 c B (n, (i : Int), z) = some (.inr (.inr z)) := by
   unfold chart_counted_1_l1
   simp only [dF (show ¬ (i : Int) < (c.Rows.length : Int) by omega), Bool.false_eq_true, if_false]
  rw [whileO_done this]
  rfl
 | cons r rs ih =>
  intro i n z hd
  have hi : i < c.Rows.length := by
   have := congrArg List.length hd
   simp at this; omega
  have hr : c.Rows[i] = r := by
   have := List.getElem_drop (xs := c.Rows) (i := i) (j := 0) (h := by rw [hd]; simp)
   simp only [hd, List.getElem_cons_zero, Nat.add_zero] at this
   exact this.symm
  have hrs : c.Rows.drop (i + 1) = rs := by
   rw [← List.drop_drop, hd]; rfl
  have hwr : ∀ p, p ∈ r.Cells → wfS p := hw r (hr ▸ List.getElem_mem hi)
  have hs : w64 ((i : Int) + 1) = ((i + 1 : Nat) : Int) := w64_succ (by omega)
  simp only [ctl]
  by_cases ha : allS r.Cells = 0
  ·have eu : F_stitch_Uses r.Cells = some (sm usedS r.Cells, 0) := by rw [uses_eq hwr, if_pos ha]
   have em : F_stitch_Makes r.Cells = some (sm madeS r.Cells, 0) := by rw [makes_eq hwr, if_pos ha]
   rw [if_neg (by simp [ha])]
   by_cases hu : sm usedS r.Cells = n
   ·have e1 : chart_counted_1_l1 c B (n, (i : Int), z) = (B z ((i : Int), ⟨n, sm madeS r.Cells, 0⟩)).bind fun y => match y with | .inl z' => some (.inl (sm madeS r.Cells, ((i + 1 : Nat) : Int), z')) | .inr t => some (.inr (.inl (.inr t))) := by
     unfold chart_counted_1_l1
     simp only [dT (show (i : Int) < (c.Rows.length : Int) by omega), if_true, idxO_nat hi, hr, Option.bind_some, eu, em, bne_self_eq_false, Bool.false_eq_true, if_false, nF hu, hs]
     try congr 1
    rw [if_neg (by simp [hu]), whileO_eq, e1, foldO]
    cases hb : B z ((i : Int), ⟨n, sm madeS r.Cells, 0⟩) with
    | none => rfl
    | some y =>
     cases y with
     | inl z' => exact ih (i + 1) (sm madeS r.Cells) z' hrs
     | inr t => rfl
   ·have e1 : chart_counted_1_l1 c B (n, (i : Int), z) = (B z ((i : Int), ⟨n, 0, 26⟩)).bind fun y => match y with | .inl z' => some (.inr (.inl (.inl z'))) | .inr t => some (.inr (.inl (.inr t))) := by
     unfold chart_counted_1_l1
     simp only [dT (show (i : Int) < (c.Rows.length : Int) by omega), if_true, idxO_nat hi, hr, Option.bind_some, eu, em, bne_self_eq_false, Bool.false_eq_true, if_false, nT hu, nT (show ¬ (26 : Int) = 0 by omega)]
     try congr 1
    rw [if_pos (by simp [hu]), whileO_eq, e1, foldO]
    cases hb : B z ((i : Int), ⟨n, 0, 26⟩) with
    | none => rfl
    | some y => cases y <;> rfl
  ·have eu : F_stitch_Uses r.Cells = some (0, allS r.Cells) := by rw [uses_eq hwr, if_neg ha]
   have e1 : chart_counted_1_l1 c B (n, (i : Int), z) = (B z ((i : Int), ⟨n, 0, allS r.Cells⟩)).bind fun y => match y with | .inl z' => some (.inr (.inl (.inl z'))) | .inr t => some (.inr (.inl (.inr t))) := by
    unfold chart_counted_1_l1
    simp only [dT (show (i : Int) < (c.Rows.length : Int) by omega), if_true, idxO_nat hi, hr, Option.bind_some, eu, nT ha]
    try congr 1
   rw [if_pos (by simp [ha]), whileO_eq, e1, foldO]
   cases hb : B z ((i : Int), ⟨n, 0, allS r.Cells⟩) with
   | none => rfl
   | some y => cases y <;> rfl
theorem chcount_eq {σ τ : Type} (c : api_Chart) (hw : wfR c.Rows) (hl : c.Rows.length ≤ 1000000000) (B : σ → (Int × chart_count) → Option (σ ⊕ τ)) (z : σ) : I_chart_counted_1 c σ τ B z = foldO B z (ctl 0 c.Start c.Rows) := by
 rw [← counted_loop c hw hl B c.Rows 0 c.Start z rfl]
 unfold I_chart_counted_1
 try congr 1
def chk (c : api_Chart) : Int := if 100 < c.Rows.length then 4 else if c.Start < 0 ∨ 200 < c.Start then 8 else chkR c.Start c.Rows
theorem check_fold : ∀ (rs : List api_Row) (i : Nat) (n : Int), foldO chart_Check_l2 () (ctl i n rs) = some (if chkR n rs = 0 then .inl () else .inr (chkR n rs)) := by
 intro rs
 induction rs with
 | nil => intro i n; rfl
 | cons r rs ih =>
  intro i n
  simp only [ctl, chkR]
  by_cases ha : allS r.Cells = 0
  ·simp only [ha, ne_eq, not_true_eq_false, if_false]
   by_cases hu : sm usedS r.Cells = n
   ·simp only [hu, not_true_eq_false, if_false, foldO, chart_Check_l2, bne_self_eq_false, Bool.false_eq_true, Option.bind_some]
    exact ih _ _
   ·simp only [hu, not_false_eq_true, if_true, foldO, chart_Check_l2, nT (show ¬ (26 : Int) = 0 by omega), Option.bind_some]
    rfl
  ·simp only [ha, ne_eq, not_false_eq_true, if_true, foldO, chart_Check_l2, nT ha, Option.bind_some, if_false]
theorem chart_check_eq (c : api_Chart) (hw : wfR c.Rows) : F_chart_Check c = some (chk c) := by
 unfold F_chart_Check chk F_chart_counted
 by_cases h1 : 100 < c.Rows.length
 ·simp only [dT (show (100 : Int) < (c.Rows.length : Int) by omega), if_true, if_pos h1]
 simp only [dF (show ¬ (100 : Int) < (c.Rows.length : Int) by omega), Bool.false_eq_true, if_false, if_neg h1, Option.bind_some, chcount_eq c hw (show c.Rows.length ≤ 1000000000 by omega), check_fold]
 by_cases h2 : c.Start < 0
 ·simp [h2]
 by_cases h3 : 200 < c.Start
 ·simp [h2, h3]
 by_cases h4 : chkR c.Start c.Rows = 0 <;> simp [h2, h3, h4]
theorem rchart_loop (c : api_Chart) (hl : c.Rows.length ≤ 1000000000) : ∀ (rs : List api_Row) (i : Nat) (n : Int), c.Rows.drop i = rs → whileO (raddleref26_Check_l1 c) (n, (i : Int)) = some (if chkR n rs = 0 then .inr () else .inl (chkR n rs)) := by
 intro rs
 induction rs with
 | nil =>
  intro i n hd
  have hi : c.Rows.length ≤ i := by
   have := congrArg List.length hd
   simp at this; omega
  have : raddleref26_Check_l1 c (n, (i : Int)) = some (.inr (.inr ())) := by
   unfold raddleref26_Check_l1
   simp only [dF (show ¬ (i : Int) < (c.Rows.length : Int) by omega), Bool.false_eq_true, if_false]
  rw [whileO_done this]
  rfl
 | cons r rs ih =>
  intro i n hd
  have hi : i < c.Rows.length := by
   have := congrArg List.length hd
   simp at this; omega
  have hr : c.Rows[i] = r := by
   have := List.getElem_drop (xs := c.Rows) (i := i) (j := 0) (h := by rw [hd]; simp)
   simp only [hd, List.getElem_cons_zero, Nat.add_zero] at this
   exact this.symm
  have hrs : c.Rows.drop (i + 1) = rs := by
   rw [← List.drop_drop, hd]; rfl
  have hs : w64 ((i : Int) + 1) = ((i + 1 : Nat) : Int) := w64_succ (by omega)
  by_cases ha : allS r.Cells = 0
  ·have eu : F_raddleref25_Uses r.Cells = some (sm usedS r.Cells, 0) := by rw [ruses_eq, if_pos ha]
   have em : F_raddleref25_Makes r.Cells = some (sm madeS r.Cells, 0) := by rw [rmakes_eq, if_pos ha]
   by_cases hu : sm usedS r.Cells = n
   ·have e1 : raddleref26_Check_l1 c (n, (i : Int)) = some (.inl (sm madeS r.Cells, ((i + 1 : Nat) : Int))) := by
     unfold raddleref26_Check_l1
     simp only [dT (show (i : Int) < (c.Rows.length : Int) by omega), if_true, idxO_nat hi, hr, Option.bind_some, eu, em, bne_self_eq_false, Bool.false_eq_true, if_false, nF hu, hs]
    have hc : chkR n (r :: rs) = chkR (sm madeS r.Cells) rs := by simp [chkR, ha, hu]
    rw [whileO_step e1, ih (i + 1) (sm madeS r.Cells) hrs, hc]
   ·have e1 : raddleref26_Check_l1 c (n, (i : Int)) = some (.inr (.inl 26)) := by
     unfold raddleref26_Check_l1
     simp only [dT (show (i : Int) < (c.Rows.length : Int) by omega), if_true, idxO_nat hi, hr, Option.bind_some, eu, em, bne_self_eq_false, Bool.false_eq_true, if_false, nT hu]
    have hc : chkR n (r :: rs) = 26 := by simp [chkR, ha, hu]
    rw [whileO_done e1, hc]
    rfl
  ·have eu : F_raddleref25_Uses r.Cells = some (0, allS r.Cells) := by rw [ruses_eq, if_neg ha]
   have e1 : raddleref26_Check_l1 c (n, (i : Int)) = some (.inr (.inl (allS r.Cells))) := by
    unfold raddleref26_Check_l1
    simp only [dT (show (i : Int) < (c.Rows.length : Int) by omega), if_true, idxO_nat hi, hr, Option.bind_some, eu, nT ha]
   have hc : chkR n (r :: rs) = allS r.Cells := by simp [chkR, ha]
   rw [whileO_done e1, hc, if_neg ha]
theorem rchart_check_eq (c : api_Chart) : F_raddleref26_Check c = some (chk c) := by
 unfold F_raddleref26_Check chk
 by_cases h1 : 100 < c.Rows.length
 ·simp only [dT (show (100 : Int) < (c.Rows.length : Int) by omega), if_true, if_pos h1]
 simp only [dF (show ¬ (100 : Int) < (c.Rows.length : Int) by omega), Bool.false_eq_true, if_false, if_neg h1]
 have hloop := rchart_loop c (by omega) c.Rows 0 c.Start rfl
 have h0 : ((0 : Nat) : Int) = 0 := rfl
 rw [h0] at hloop
 rw [hloop]
 by_cases h2 : c.Start < 0
 ·simp [h2]
 by_cases h3 : 200 < c.Start
 ·simp [h2, h3]
 by_cases h4 : chkR c.Start c.Rows = 0 <;> simp [h2, h3, h4]
theorem chk_ok {c : api_Chart} (h : chk c = 0) : c.Rows.length ≤ 100 ∧ 0 ≤ c.Start ∧ c.Start ≤ 200 ∧ chkR c.Start c.Rows = 0 := by
 unfold chk at h
 split at h
 ·omega
 ·split at h
  ·omega
  ·rename_i h1 h2
   exact ⟨by omega, by omega, by omega, h⟩
theorem chkR_cons {n : Int} {r : api_Row} {rs : List api_Row} : chkR n (r :: rs) = 0 ↔ allS r.Cells = 0 ∧ sm usedS r.Cells = n ∧ chkR (sm madeS r.Cells) rs = 0 := by
 simp only [chkR]
 by_cases ha : allS r.Cells = 0
 ·by_cases hu : sm usedS r.Cells = n
  ·simp [ha, hu]
  ·simp [ha, hu]
 ·simp [ha]
theorem chkR_mem : ∀ {rs : List api_Row} {n : Int}, chkR n rs = 0 → ∀ r, r ∈ rs → allS r.Cells = 0 := by
 intro rs
 induction rs with
 | nil => intro n _ r hr; cases hr
 | cons x rs ih =>
  intro n h r hr
  obtain ⟨h1, h2, h3⟩ := chkR_cons.1 h
  rcases List.mem_cons.1 hr with rfl | hr
  ·exact h1
  ·exact ih h3 r hr
theorem wfR_of {c : api_Chart} (h : wf_api_Chart c) : wfR c.Rows := fun r hr p hp => inK_u8 ((((h.2.2 r hr).2).2 p hp).1)
theorem loop_seq {S τ : Type} {B : S → Option (S ⊕ τ)} (c : Nat → S) (n : Nat) {t : τ} (h : ∀ k, k < n → B (c k) = some (.inl (c (k + 1)))) (hn : B (c n) = some (.inr t)) : whileO B (c 0) = some t := by
 have key : ∀ j k, j + k = n → whileO B (c k) = some t := by
  intro j
  induction j with
  | zero =>
   intro k hk
   obtain rfl : k = n := by omega
   exact whileO_done hn
  | succ j ih =>
   intro k hk
   rw [whileO_step (h k (by omega))]
   exact ih _ (by omega)
 exact key n 0 (by omega)
theorem loop_idx {α τ : Type} {B : Int → Option (Int ⊕ τ)} (l : List α) (p : α → Bool) (hit : Nat → τ) (good : τ)
 (h : ∀ k (hk : k < l.length), B (k : Int) = some (if p l[k] = true then .inr (hit k) else .inl ((k + 1 : Nat) : Int))) (hn : B (l.length : Int) = some (.inr good)) : whileO B 0 = some (if l.findIdx p < l.length then hit (l.findIdx p) else good) := by
 have key : ∀ j k, j + k = l.length → k ≤ l.findIdx p → whileO B (k : Int) = some (if l.findIdx p < l.length then hit (l.findIdx p) else good) := by
  intro j
  induction j with
  | zero =>
   intro k hk hI
   obtain rfl : k = l.length := by omega
   rw [whileO_done hn, if_neg (by omega)]
  | succ j ih =>
   intro k hk hI
   have hk2 : k < l.length := by omega
   have hb := h k hk2
   cases hp : p l[k] with
   | true =>
    rw [hp, if_pos rfl] at hb
    have e : l.findIdx p = k := by
     rcases Nat.lt_or_ge k (l.findIdx p) with h1 | h1
     ·have := List.not_of_lt_findIdx h1
      rw [hp] at this; cases this
     ·omega
    rw [whileO_done hb, e, if_pos hk2]
   | false =>
    rw [hp, if_neg (by decide)] at hb
    rw [whileO_step hb]
    refine ih _ (by omega) ?_
    rcases Nat.eq_or_lt_of_le hI with h1 | h1
    ·have h2 : l.findIdx p < l.length := by omega
     have h3 : p (l[l.findIdx p]'h2) = true := List.findIdx_getElem
     have h4 : l[l.findIdx p]'h2 = l[k] := by congr 1; exact h1.symm
     rw [h4, hp] at h3; cases h3
    ·exact h1
 exact key l.length 0 (by omega) (Nat.zero_le _)
theorem loop_same {τ : Type} {B : Int → Option (Int ⊕ τ)} (n : Nat) (good : τ) (h : ∀ k, k < n → B (k : Int) = some (.inl ((k + 1 : Nat) : Int))) (hn : B (n : Int) = some (.inr good)) : whileO B 0 = some good :=
 loop_seq (fun k => (k : Int)) n h hn
def ups (u k : Nat) : List Int := (List.range k).map fun i => ((u + i : Nat) : Int)
theorem ups_len (u k : Nat) : (ups u k).length = k := by simp [ups]
theorem ups_mem {u k : Nat} {x : Int} : x ∈ ups u k ↔ (u : Int) ≤ x ∧ x < ((u + k : Nat) : Int) := by
 simp only [ups, List.mem_map, List.mem_range]
 constructor
 ·rintro ⟨i, hi, rfl⟩; omega
 ·intro h; exact ⟨(x - u).toNat, by omega, by omega⟩
theorem ups_get {u k j : Nat} (h : j < (ups u k).length) : (ups u k)[j] = ((u + j : Nat) : Int) := by simp [ups]
theorem ups_succ (u k : Nat) : ups u (k + 1) = ups u k ++ [((u + k : Nat) : Int)] := by simp [ups, List.range_succ]
theorem ups_nodup (u k : Nat) : (ups u k).Nodup := by
 rw [List.nodup_iff_pairwise_ne]
 refine List.pairwise_map.2 (List.Pairwise.imp ?_ (List.pairwise_lt_range (n := k)))
 intro a b h; omega
theorem knd {p : api_Stitch} (h : okS p) : (∃ b, p = ⟨1, b, 0, 0⟩) ∨ (∃ b, p = ⟨8, b, 0, 0⟩) ∨ p = ⟨2, false, 0, 0⟩ ∨ (∃ b, ∃ a : Nat, 2 ≤ a ∧ a ≤ 4 ∧ p = ⟨3, b, a, 0⟩) ∨ (∃ b, ∃ a : Nat, 2 ≤ a ∧ a ≤ 4 ∧ p = ⟨4, b, a, 0⟩) ∨
 (∃ b, ∃ a : Nat, 2 ≤ a ∧ a ≤ 4 ∧ p = ⟨5, b, a, 0⟩) ∨ (∃ k b, ∃ a c : Nat, (k = 6 ∨ k = 7) ∧ 1 ≤ a ∧ a ≤ 6 ∧ 1 ≤ c ∧ c ≤ 6 ∧ p = ⟨k, b, a, c⟩) ∨ (∃ a : Nat, 1 ≤ a ∧ a ≤ 200 ∧ p = ⟨9, false, a, 0⟩) ∨ (∃ b, ∃ a : Nat, 1 ≤ a ∧ a ≤ 200 ∧ p = ⟨10, b, a, 0⟩) := by
 obtain ⟨k, b, A, B⟩ := p
 unfold okS at h
 simp only at h
 rcases h with ⟨h | h, rfl, rfl⟩ | ⟨rfl, rfl, rfl, rfl⟩ | ⟨h | h | h, h1, h2, rfl⟩ | ⟨h, h1, h2, h3, h4⟩ | ⟨rfl, h1, h2, rfl, rfl⟩ | ⟨rfl, h1, h2, rfl⟩
 ·exact .inl ⟨b, by rw [h]⟩
 ·exact .inr (.inl ⟨b, by rw [h]⟩)
 ·exact .inr (.inr (.inl rfl))
 ·exact .inr (.inr (.inr (.inl ⟨b, A.toNat, by omega, by omega, by rw [h, Int.toNat_of_nonneg (by omega)]⟩)))
 ·exact .inr (.inr (.inr (.inr (.inl ⟨b, A.toNat, by omega, by omega, by rw [h, Int.toNat_of_nonneg (by omega)]⟩))))
 ·exact .inr (.inr (.inr (.inr (.inr (.inl ⟨b, A.toNat, by omega, by omega, by rw [h, Int.toNat_of_nonneg (by omega)]⟩)))))
 ·exact .inr (.inr (.inr (.inr (.inr (.inr (.inl ⟨k, b, A.toNat, B.toNat, h, by omega, by omega, by omega, by omega, by rw [Int.toNat_of_nonneg (by omega), Int.toNat_of_nonneg (by omega)]⟩))))))
 ·exact .inr (.inr (.inr (.inr (.inr (.inr (.inr (.inl ⟨A.toNat, by omega, by omega, by rw [Int.toNat_of_nonneg (by omega)]⟩)))))))
 ·exact .inr (.inr (.inr (.inr (.inr (.inr (.inr (.inr ⟨b, A.toNat, by omega, by omega, by rw [Int.toNat_of_nonneg (by omega)]⟩)))))))
def uN (s : api_Stitch) : Nat := (usedS s).toNat
def mN (s : api_Stitch) : Nat := (madeS s).toNat
def pars (s : api_Stitch) (u : Nat) : List (List Int) :=
 if s.Kind = 2 then [[]] else if s.Kind = 9 then List.replicate s.A.toNat []
 else if s.Kind = 3 then [ups u s.A.toNat] else if s.Kind = 4 then [(ups u s.A.toNat).reverse]
 else if s.Kind = 5 then List.replicate s.A.toNat [(u : Int)]
 else if s.Kind = 6 ∨ s.Kind = 7 then ((ups u (s.A.toNat + s.B.toNat)).drop s.A.toNat ++ (ups u (s.A.toNat + s.B.toNat)).take s.A.toNat).map fun x => [x]
 else if s.Kind = 10 then [] else [[(u : Int)]]
theorem pars_len {s : api_Stitch} (h : okS s) (u : Nat) : (pars s u).length = mN s := by
 rcases knd h with ⟨b, rfl⟩ | ⟨b, rfl⟩ | rfl | ⟨b, a, h1, h2, rfl⟩ | ⟨b, a, h1, h2, rfl⟩ | ⟨b, a, h1, h2, rfl⟩ | ⟨k, b, a, c, hk, h1, h2, h3, h4, rfl⟩ | ⟨a, h1, h2, rfl⟩ | ⟨b, a, h1, h2, rfl⟩
 ·rfl
 ·rfl
 ·rfl
 ·simp [pars, mN, madeS]
 ·simp [pars, mN, madeS]
 ·simp [pars, mN, madeS]
 ·rcases hk with rfl | rfl <;> simp [pars, mN, madeS, ups_len] <;> omega
 ·simp [pars, mN, madeS]
 ·simp [pars, mN, madeS]
theorem pars_bd {s : api_Stitch} (h : okS s) (u : Nat) : ∀ ps, ps ∈ pars s u → ps.Nodup ∧ ∀ p, p ∈ ps → (u : Int) ≤ p ∧ p < ((u + uN s : Nat) : Int) := by
 intro ps hps
 rcases knd h with ⟨b, rfl⟩ | ⟨b, rfl⟩ | rfl | ⟨b, a, h1, h2, rfl⟩ | ⟨b, a, h1, h2, rfl⟩ | ⟨b, a, h1, h2, rfl⟩ | ⟨k, b, a, c, hk, h1, h2, h3, h4, rfl⟩ | ⟨a, h1, h2, rfl⟩ | ⟨b, a, h1, h2, rfl⟩
 ·simp [pars] at hps; subst hps; simp [uN, usedS]; omega
 ·simp [pars] at hps; subst hps; simp [uN, usedS]; omega
 ·simp [pars] at hps; subst hps; simp
 ·simp [pars] at hps; subst hps; refine ⟨ups_nodup _ _, fun p hp => ?_⟩; have := ups_mem.1 hp; simpa [uN, usedS] using this
 ·simp [pars] at hps; subst hps; refine ⟨(List.reverse_perm _).nodup_iff.2 (ups_nodup _ _), fun p hp => ?_⟩; have := ups_mem.1 (List.mem_reverse.1 hp); simpa [uN, usedS] using this
 ·simp [pars] at hps; obtain ⟨_, rfl⟩ := hps; simp [uN, usedS]; omega
 ·have e : pars ⟨k, b, (a : Int), (c : Int)⟩ u = ((ups u (a + c)).drop a ++ (ups u (a + c)).take a).map fun x => [x] := by rcases hk with rfl | rfl <;> simp [pars]
  have e2 : uN ⟨k, b, (a : Int), (c : Int)⟩ = a + c := by rcases hk with rfl | rfl <;> simp [uN, usedS] <;> omega
  rw [e] at hps
  obtain ⟨x, hx, rfl⟩ := List.mem_map.1 hps
  have hx : x ∈ ups u (a + c) := by
   rcases List.mem_append.1 hx with hx | hx
   ·exact List.mem_of_mem_drop hx
   ·exact List.mem_of_mem_take hx
  rw [e2]
  refine ⟨by simp, fun p hp => ?_⟩
  simp at hp; subst hp
  exact ups_mem.1 hx
 ·simp [pars] at hps; obtain ⟨_, rfl⟩ := hps; simp
 ·simp [pars] at hps
def offB (s : api_Stitch) (u : Nat) : List Int := if s.Kind = 10 then ups u s.A.toNat else []
def crs (s : api_Stitch) (n : Nat) : List (Int × Int) :=
 if s.Kind = 6 ∨ s.Kind = 7 then ((List.range s.A.toNat).map fun a => (List.range s.B.toNat).map fun b => if s.Kind = 7 then (((n + b : Nat) : Int), ((n + s.B.toNat + a : Nat) : Int)) else (((n + s.B.toNat + a : Nat) : Int), ((n + b : Nat) : Int))).flatten else []
def mkL (R K : Nat) (pl : Bool) (ps : List (List Int)) : List api_Loop := ps.map fun p => ⟨(R : Int), (K : Int), p, pl⟩
def side (L : List api_Loop) (s : api_Stitch) (u : Nat) : Bool := if s.Kind = 8 then (L[u]?.map fun l => l.Purl).getD false else s.Purl
structure Wk where
 L : List api_Loop
 B : List Int
 C : List (Int × Int)
 u : Nat
def stepW (R K : Nat) (s : api_Stitch) (z : Wk) : Wk := ⟨z.L ++ mkL R K (side z.L s z.u) (pars s z.u), z.B ++ offB s z.u, z.C ++ crs s z.L.length, z.u + uN s⟩
def cellsW (R : Nat) : Nat → List api_Stitch → Wk → Wk
 | _, [], z => z
 | k, s :: l, z => cellsW R (k + 1) l (stepW R k s z)
def rowsW : Nat → List (List api_Stitch) → Wk × List Int → Wk × List Int
 | _, [], z => z
 | i, f :: fs, z => rowsW (i + 1) fs (cellsW (i + 1) 0 f z.1, z.2 ++ [((cellsW (i + 1) 0 f z.1).L.length : Int)])
def faceR (r : api_Row) : List api_Stitch := if r.Back = true then (r.Cells.map othS).reverse else r.Cells
def zeroL (n : Nat) : List api_Loop := (List.range n).map fun i : Nat => (⟨0, (i : Int), [], false⟩ : api_Loop)
def workC (c : api_Chart) : Wk × List Int := rowsW 0 (c.Rows.map faceR) (⟨zeroL c.Start.toNat, [], [], 0⟩, [0, c.Start])
def smN (f : api_Stitch → Nat) : List api_Stitch → Nat
 | [] => 0
 | s :: l => f s + smN f l
theorem smN_used {l : List api_Stitch} (h : allOk l) : (smN uN l : Int) = sm usedS l := by
 induction l with
 | nil => rfl
 | cons s l ih =>
  have h1 := (usedS_bd (h s (by simp))).1
  have h2 := ih fun p hp => h p (by simp [hp])
  simp only [smN, sm, uN] at h2 ⊢
  omega
theorem smN_made {l : List api_Stitch} (h : allOk l) : (smN mN l : Int) = sm madeS l := by
 induction l with
 | nil => rfl
 | cons s l ih =>
  have h1 := (madeS_bd (h s (by simp))).1
  have h2 := ih fun p hp => h p (by simp [hp])
  simp only [smN, sm, mN] at h2 ⊢
  omega
theorem mkL_len (R K : Nat) (pl : Bool) (ps : List (List Int)) : (mkL R K pl ps).length = ps.length := by simp [mkL]
theorem cellsW_snoc (R : Nat) : ∀ (l : List api_Stitch) (k : Nat) (z : Wk) (s : api_Stitch), cellsW R k (l ++ [s]) z = stepW R (k + l.length) s (cellsW R k l z)
 | [], k, z, s => rfl
 | t :: l, k, z, s => by
  simp only [List.cons_append, cellsW, List.length_cons]
  rw [cellsW_snoc R l (k + 1) _ s]
  congr 1; omega
theorem rowsW_snoc : ∀ (fs : List (List api_Stitch)) (i : Nat) (z : Wk × List Int) (f : List api_Stitch), rowsW i (fs ++ [f]) z = (cellsW (i + fs.length + 1) 0 f (rowsW i fs z).1, (rowsW i fs z).2 ++ [((cellsW (i + fs.length + 1) 0 f (rowsW i fs z).1).L.length : Int)])
 | [], i, z, f => rfl
 | g :: fs, i, z, f => by
  simp only [List.cons_append, rowsW, List.length_cons]
  rw [rowsW_snoc fs (i + 1) _ f]
  have e : i + 1 + fs.length + 1 = i + (fs.length + 1) + 1 := by omega
  rw [e]
theorem cells_ind {R : Nat} {l : List api_Stitch} {z : Wk} (P : Nat → Wk → Prop) (h0 : P 0 z) (step : ∀ (j : Nat) (hj : j < l.length) (y : Wk), P j y → P (j + 1) (stepW R j l[j] y)) : P l.length (cellsW R 0 l z) := by
 have key : ∀ k, k ≤ l.length → P k (cellsW R 0 (l.take k) z) := by
  intro k
  induction k with
  | zero => intro _; exact h0
  | succ k ih =>
   intro hk
   rw [List.take_succ_eq_append_getElem (by omega), cellsW_snoc]
   have := step k (by omega) _ (ih (by omega))
   rwa [Nat.zero_add, List.length_take, Nat.min_eq_left (by omega)]
 have := key l.length (Nat.le_refl _)
 rwa [List.take_length] at this
theorem smN_append (g : api_Stitch → Nat) (l k : List api_Stitch) : smN g (l ++ k) = smN g l + smN g k := by
 induction l with
 | nil => simp [smN]
 | cons s l ih => simp only [List.cons_append, smN, ih]; omega
theorem smN_take (g : api_Stitch → Nat) (l : List api_Stitch) {k : Nat} (h : k < l.length) : smN g (l.take (k + 1)) = smN g (l.take k) + g l[k] := by
 rw [List.take_succ_eq_append_getElem h, smN_append]; simp [smN]
theorem smN_take_le (g : api_Stitch → Nat) (l : List api_Stitch) (k : Nat) : smN g (l.take k) ≤ smN g l := by
 have h := smN_append g (l.take k) (l.drop k)
 rw [List.take_append_drop] at h
 omega
theorem smN_find (g : api_Stitch → Nat) : ∀ (l : List api_Stitch) (t : Nat), t < smN g l → ∃ (j : Nat) (hj : j < l.length) (x : Nat), x < g l[j] ∧ t = smN g (l.take j) + x
 | [], t, h => by simp [smN] at h
 | s :: l, t, h => by
  by_cases h1 : t < g s
  ·exact ⟨0, by simp, t, h1, by simp [smN]⟩
  ·simp only [smN] at h
   obtain ⟨j, hj, x, hx, e⟩ := smN_find g l (t - g s) (by omega)
   exact ⟨j + 1, by simp; omega, x, by simpa using hx, by simp only [List.take_succ_cons, smN]; omega⟩
def nR (S : Nat) (fs : List (List api_Stitch)) (i : Nat) : Nat := if i = 0 then S else smN mN (fs.getD (i - 1) [])
def off (S : Nat) (fs : List (List api_Stitch)) : Nat → Nat
 | 0 => 0
 | r + 1 => off S fs r + nR S fs r
def okF (S : Nat) (fs : List (List api_Stitch)) : Prop := S ≤ 200 ∧ ∀ (i : Nat) (h : i < fs.length), allOk fs[i] ∧ fs[i].length ≤ 200 ∧ smN mN fs[i] ≤ 200 ∧ smN uN fs[i] = nR S fs i
theorem off_mono {S : Nat} {fs : List (List api_Stitch)} {a b : Nat} (h : a ≤ b) : off S fs a ≤ off S fs b := by
 induction b with
 | zero => rw [show a = 0 by omega]; exact Nat.le_refl _
 | succ b ih =>
  by_cases e : a = b + 1
  ·rw [e]; exact Nat.le_refl _
  ·have := ih (by omega); simp only [off]; omega
theorem nR_le {S : Nat} {fs : List (List api_Stitch)} (h : okF S fs) {i : Nat} (hi : i ≤ fs.length) : nR S fs i ≤ 200 := by
 unfold nR
 split
 ·exact h.1
 ·have hl : i - 1 < fs.length := by omega
  have := (h.2 (i - 1) hl).2.2.1
  simpa [List.getD_eq_getElem?_getD, List.getElem?_eq_getElem hl] using this
theorem off_le {S : Nat} {fs : List (List api_Stitch)} (h : okF S fs) {r : Nat} (hr : r ≤ fs.length + 1) : off S fs r ≤ 200 * r := by
 induction r with
 | zero => exact Nat.le_refl _
 | succ r ih => have := ih (by omega); have := nR_le h (i := r) (by omega); simp only [off]; omega
theorem nR_succ {S : Nat} {fs : List (List api_Stitch)} {i : Nat} (hi : i < fs.length) : nR S fs (i + 1) = smN mN fs[i] := by
 simp [nR, List.getD_eq_getElem?_getD, List.getElem?_eq_getElem hi]
def pm (S : Nat) (fs : List (List api_Stitch)) (r j : Nat) : Nat := off S fs (r + 1) + smN mN ((fs.getD r []).take j)
def pu (S : Nat) (fs : List (List api_Stitch)) (r j : Nat) : Nat := off S fs r + smN uN ((fs.getD r []).take j)
def isL (l : Option api_Loop) (R K : Nat) (s : api_Stitch) (u x : Nat) : Prop := ∃ pl ps, (s.Kind ≠ 8 → pl = s.Purl) ∧ (pars s u)[x]? = some ps ∧ l = some ⟨(R : Int), (K : Int), ps, pl⟩
structure LInv (S : Nat) (fs : List (List api_Stitch)) (k j : Nat) (z : Wk) : Prop where
 len : z.L.length = pm S fs k j
 u : z.u = pu S fs k j
 zero : ∀ i, i < S → z.L[i]? = some ⟨0, (i : Int), [], false⟩
 old : ∀ (r t x : Nat) (h : r < fs.length) (ht : t < fs[r].length), r < k ∨ r = k ∧ t < j → x < mN (fs[r][t]) → isL z.L[pm S fs r t + x]? (r + 1) t (fs[r][t]) (pu S fs r t) x
theorem isL_left {l : List api_Loop} {m : List api_Loop} {i R K u x : Nat} {s : api_Stitch} (h : isL l[i]? R K s u x) : isL (l ++ m)[i]? R K s u x := by
 obtain ⟨pl, ps, h1, h2, h3⟩ := h
 refine ⟨pl, ps, h1, h2, ?_⟩
 rw [List.getElem?_append_left (List.getElem?_eq_some_iff.1 h3).1]; exact h3
theorem LInv.step {S : Nat} {fs : List (List api_Stitch)} {k j : Nat} {z : Wk} (hf : okF S fs) (hk : k < fs.length) (hj : j < fs[k].length) (h : LInv S fs k j z) : LInv S fs k (j + 1) (stepW (k + 1) j (fs[k][j]) z) := by
 have hg : fs.getD k [] = fs[k] := by simp [List.getD_eq_getElem?_getD, List.getElem?_eq_getElem hk]
 have hok : okS (fs[k][j]) := (hf.2 k hk).1 _ (List.getElem_mem _)
 have hlen := pars_len hok z.u
 refine ⟨?_, ?_, ?_, ?_⟩
 ·simp only [stepW, List.length_append, mkL_len, hlen, h.len, pm, hg]
  rw [smN_take mN _ hj]; omega
 ·simp only [stepW, h.u, pu, hg]
  rw [smN_take uN _ hj]; omega
 ·intro i hi
  have := h.zero i hi
  simp only [stepW]
  rw [List.getElem?_append_left (List.getElem?_eq_some_iff.1 this).1]; exact this
 ·intro r t x hr ht hlt hx
  by_cases e : r < k ∨ r = k ∧ t < j
  ·exact isL_left (h.old r t x hr ht e hx)
  ·obtain ⟨rfl, rfl⟩ : r = k ∧ t = j := by omega
   simp only [stepW]
   rw [← h.len, List.getElem?_append_right (by omega), Nat.add_sub_cancel_left, ← h.u]
   have hx' : x < (pars (fs[r][t]) z.u).length := by rw [hlen]; exact hx
   refine ⟨side z.L (fs[r][t]) z.u, (pars (fs[r][t]) z.u)[x], fun hn => by simp [side, hn], List.getElem?_eq_getElem hx', ?_⟩
   simp only [mkL, List.getElem?_map, List.getElem?_eq_getElem hx', Option.map_some]
theorem LInv.row {S : Nat} {fs : List (List api_Stitch)} {k : Nat} {z : Wk} (hf : okF S fs) (hk : k < fs.length) (h : LInv S fs k fs[k].length z) : LInv S fs (k + 1) 0 z := by
 have hg : fs.getD k [] = fs[k] := by simp [List.getD_eq_getElem?_getD, List.getElem?_eq_getElem hk]
 refine ⟨?_, ?_, h.zero, ?_⟩
 ·have e := nR_succ (S := S) hk
  rw [h.len]; simp only [pm, hg, List.take_length, off, e, List.take_zero, smN]; omega
 ·have e := (hf.2 k hk).2.2.2
  rw [h.u]; simp only [pu, hg, List.take_length, off, e, List.take_zero, smN]; omega
 ·intro r t x hr ht hlt hx
  refine h.old r t x hr ht ?_ hx
  rcases hlt with h1 | ⟨_, h1⟩
  ·by_cases e : r < k
   ·exact .inl e
   ·obtain rfl : r = k := by omega
    exact .inr ⟨rfl, ht⟩
  ·omega
theorem LInv.start (S : Nat) (fs : List (List api_Stitch)) : LInv S fs 0 0 ⟨zeroL S, [], [], 0⟩ := by
 refine ⟨?_, ?_, ?_, ?_⟩
 ·simp [zeroL, pm, off, smN, nR]
 ·simp [pu, off, smN]
 ·intro i hi; simp [zeroL, hi]
 ·intro r t x hr ht hlt; omega
theorem loop_sq {S τ : Type} {B : S → Option (S ⊕ τ)} {s0 : S} (c : Nat → S) (n : Nat) {t : τ} (h0 : s0 = c 0) (h : ∀ k, k < n → B (c k) = some (.inl (c (k + 1)))) (hn : B (c n) = some (.inr t)) : whileO B s0 = some t := by
 subst h0; exact loop_seq c n h hn
theorem take_snoc {α : Type} (l : List α) {k : Nat} (h : k < l.length) : l.take (k + 1) = l.take k ++ [l[k]] := List.take_succ_eq_append_getElem h
theorem add_eq (p : loops_piece) (l : api_Loop) (ps : List (List Int)) (h : p.loops.length + ps.length ≤ 1000000) : F_loops_piece_add_s1 p l ps = some ⟨p.loops ++ ps.map (fun q => ⟨l.Row, l.Cell, q, l.Purl⟩), p.rows, p.bound, p.cross, p.next⟩ := by
 have key : whileO (loops_piece_add_s1_l1 ps l) (0, p.loops, l.Parents) = some (p.loops ++ ps.map (fun q => (⟨l.Row, l.Cell, q, l.Purl⟩ : api_Loop))) := by
  refine loop_sq (fun k => ((k : Int), p.loops ++ (ps.take k).map (fun q => (⟨l.Row, l.Cell, q, l.Purl⟩ : api_Loop)), if k = 0 then l.Parents else ps.getD (k - 1) [])) ps.length (by simp) ?_ ?_
  ·intro k hk
   unfold loops_piece_add_s1_l1
   simp only [dT (show (k : Int) < (ps.length : Int) by omega), if_true, idxO_nat hk, Option.bind_some, w64_succ (show k < 9223372036854775807 by omega)]
   have e3 : (if k + 1 = 0 then l.Parents else ps.getD (k + 1 - 1) []) = ps[k] := by simp [List.getD_eq_getElem?_getD, List.getElem?_eq_getElem hk]
   rw [appO_of (by simp; omega), Option.bind_some, take_snoc _ hk, e3, List.map_append, List.append_assoc]; rfl
  ·unfold loops_piece_add_s1_l1
   simp only [dF (show ¬ (ps.length : Int) < (ps.length : Int) by omega), Bool.false_eq_true, if_false, List.take_length]
 unfold F_loops_piece_add_s1
 rw [key]; rfl
theorem set_ups (u k : Nat) {i : Nat} (hi : i < k) : (ups u i ++ List.replicate (k - i) (0 : Int)).set i ((u + i : Nat) : Int) = ups u (i + 1) ++ List.replicate (k - (i + 1)) 0 := by
 obtain ⟨m, hm⟩ : ∃ m, k - i = m + 1 := ⟨k - i - 1, by omega⟩
 rw [hm, List.replicate_succ, List.set_append_right _ _ (by rw [ups_len]; exact Nat.le_refl _), ups_len, Nat.sub_self, List.set_cons_zero, ups_succ, List.append_assoc, show k - (i + 1) = m by omega]
 rfl
theorem take_eq {p : loops_piece} {u k : Nat} (hu : p.next = (u : Int)) (hb : u + k ≤ 1000000) : F_loops_piece_take_s3 p (k : Int) = some (ups u k, ⟨p.loops, p.rows, p.bound, p.cross, ((u + k : Nat) : Int)⟩) := by
 have key : whileO (loops_piece_take_s3_l1 (List.replicate k 0) p) (List.replicate k 0, 0) = some (ups u k) := by
  refine loop_sq (fun i => (ups u i ++ List.replicate (k - i) (0 : Int), (i : Int))) k (by simp [ups]) ?_ ?_
  ·intro i hi
   unfold loops_piece_take_s3_l1
   have hlen : (ups u i ++ List.replicate (k - i) (0 : Int)).length = k := by simp [ups_len]; omega
   simp only [dT (show (i : Int) < ((List.replicate k (0 : Int)).length : Int) by rw [List.length_replicate]; omega), if_true]
   rw [idxO_nat (by rw [hlen]; exact hi), Option.bind_some, hu, show w64 ((u : Int) + (i : Int)) = ((u + i : Nat) : Int) by rw [w64_of (by omega) (by omega)]; omega, setO_nat (by rw [hlen]; exact hi), Option.bind_some, set_ups u k hi, w64_succ (by omega)]
  ·unfold loops_piece_take_s3_l1
   simp only [dF (show ¬ (k : Int) < ((List.replicate k (0 : Int)).length : Int) by rw [List.length_replicate]; omega), Bool.false_eq_true, if_false, Nat.sub_self, List.replicate_zero, List.append_nil]
 unfold F_loops_piece_take_s3
 rw [makeO_of rfl (by omega), Option.bind_some, key, hu, show w64 ((u : Int) + (k : Int)) = ((u + k : Nat) : Int) by rw [w64_of (by omega) (by omega)]; omega]
 rfl
theorem uses_one {p : api_Stitch} (hp : okS p) : F_stitch_Uses [p] = some (usedS p, 0) := by
 have hb := okS_bd hp
 have h0 : allS [p] = 0 := by
  have h1 := usedS_bd hp
  have h2 := madeS_bd hp
  have ho : allOk [p] := fun q hq => by simp at hq; subst hq; exact hp
  unfold allS
  rw [if_neg (by simp), if_pos ho, if_neg (by simp [sm]; omega)]
 rw [uses_eq (l := [p]) (fun q hq => by simp at hq; subst hq; unfold wfS; omega), if_pos h0]
 simp [sm]
theorem concat_eq (x y : List Int) (h : x.length + y.length ≤ 1000000) : F_slices_Concat___int_int_ [x, y] = some (x ++ y) := by
 have k1 : whileO (slices_Concat___int_int__l1 [x, y]) (0, 0) = some (((x.length + y.length : Nat) : Int)) := by
  rw [whileO_step (s' := (((x.length : Nat) : Int), ((0 + 1 : Nat) : Int))), whileO_step (s' := (((x.length + y.length : Nat) : Int), ((1 + 1 : Nat) : Int))), whileO_done]
  ·unfold slices_Concat___int_int__l1; simp
  ·unfold slices_Concat___int_int__l1
   dsimp only
   rw [dT (show ((0 + 1 : Nat) : Int) < (([x, y] : List (List Int)).length : Int) by simp), if_pos rfl, idxO_nat (show 0 + 1 < ([x, y] : List (List Int)).length by simp), Option.bind_some]
   simp only [List.getElem_cons_succ, List.getElem_cons_zero]
   simp only [show w64 ((x.length : Int) + (y.length : Int)) = ((x.length + y.length : Nat) : Int) by rw [w64_of (by omega) (by omega)]; omega, dF (show ¬ ((x.length + y.length : Nat) : Int) < 0 by omega), w64_succ (show 0 + 1 < 9223372036854775807 by omega), Bool.false_eq_true, if_false]
  ·unfold slices_Concat___int_int__l1
   dsimp only
   rw [dT (show (0 : Int) < (([x, y] : List (List Int)).length : Int) by simp), if_pos rfl, show (0 : Int) = ((0 : Nat) : Int) from rfl, idxO_nat (show 0 < ([x, y] : List (List Int)).length by simp), Option.bind_some]
   simp only [List.getElem_cons_zero]
   simp only [show w64 (((0 : Nat) : Int) + (x.length : Int)) = ((x.length : Nat) : Int) by rw [w64_of (by omega) (by omega)]; omega, dF (show ¬ ((x.length : Nat) : Int) < ((0 : Nat) : Int) by omega), w64_succ (show 0 < 9223372036854775807 by omega), Bool.false_eq_true, if_false]
 have k2 : F_slices_Grow___int_int__s1 ((x.length + y.length : Nat) : Int) = some [] := by
  unfold F_slices_Grow___int_int__s1
  rw [dF (by omega), show w64 (((x.length + y.length : Nat) : Int) - w64 ((0 : Int) - 0)) = ((x.length + y.length : Nat) : Int) by rw [show w64 ((0 : Int) - 0) = 0 from rfl, w64_of (by omega) (by omega)]; omega]
  by_cases h0 : (0 : Int) < ((x.length + y.length : Nat) : Int)
  ·rw [dT h0]
   simp only [Bool.false_eq_true, if_false, if_true]
   rw [show appZ ((x.length + y.length : Nat) : Int) (0 : Int) = some (List.replicate (x.length + y.length) 0) by unfold appZ lim; rw [if_pos (by omega)]; rfl, Option.bind_some, sliceO_of (lo := 0) (hi := 0) (l := 0) (k := 0) rfl rfl (Nat.le_refl _) (Nat.zero_le _)]; rfl
  ·rw [dF h0]; rfl
 have k3 : whileO (slices_Concat___int_int__l2 [x, y]) (([] : List Int), 0) = some (x ++ y) := by
  rw [whileO_step (s' := (x, ((0 + 1 : Nat) : Int))), whileO_step (s' := (x ++ y, ((1 + 1 : Nat) : Int))), whileO_done]
  ·unfold slices_Concat___int_int__l2; simp
  ·unfold slices_Concat___int_int__l2
   dsimp only
   rw [dT (show ((0 + 1 : Nat) : Int) < (([x, y] : List (List Int)).length : Int) by simp), if_pos rfl, idxO_nat (show 0 + 1 < ([x, y] : List (List Int)).length by simp), Option.bind_some]
   simp only [List.getElem_cons_succ, List.getElem_cons_zero]
   rw [appO_of (by omega), Option.bind_some, w64_succ (by omega)]
  ·unfold slices_Concat___int_int__l2
   dsimp only
   rw [dT (show (0 : Int) < (([x, y] : List (List Int)).length : Int) by simp), if_pos rfl, show (0 : Int) = ((0 : Nat) : Int) from rfl, idxO_nat (show 0 < ([x, y] : List (List Int)).length by simp), Option.bind_some]
   simp only [List.getElem_cons_zero]
   rw [appO_of (by simp; omega), Option.bind_some, w64_succ (by omega)]; rfl
 unfold F_slices_Concat___int_int_
 rw [k1, Option.bind_some, Option.bind_some, k2, Option.bind_some, k3]; rfl
theorem rev2_eq (a b : Int) : F_slices_Reverse___int_int__s1 (a, b) = some (b, a) := by
 have h1 : w64 (((2 : Nat) : Int) - 1) = 1 := rfl
 have i1 : idxO ([a, b] : List Int) 1 = some b := idxO_nat (k := 1) (by simp)
 have i0 : idxO ([a, b] : List Int) 0 = some a := idxO_nat (k := 0) (by simp)
 have i2 : idxO ([b, b] : List Int) 1 = some b := idxO_nat (k := 1) (by simp)
 have key : whileO slices_Reverse___int_int__s1_l1 (0, 1, a, b) = some (b, a) := by
  rw [whileO_step (s' := (1, 0, b, a)), whileO_done]
  ·unfold slices_Reverse___int_int__s1_l1; simp
  ·unfold slices_Reverse___int_int__s1_l1
   simp [i0, i1, i2]
   decide
 unfold F_slices_Reverse___int_int__s1
 rw [h1, key]; rfl
def rv (l : List Int) (i : Nat) : List Int := (List.range l.length).map fun k => if k < i ∨ l.length - 1 - i < k then l.getD (l.length - 1 - k) 0 else l.getD k 0
theorem rv_len (l : List Int) (i : Nat) : (rv l i).length = l.length := by simp [rv]
theorem rv_get {l : List Int} {i k : Nat} (h : k < (rv l i).length) : (rv l i)[k] = if k < i ∨ l.length - 1 - i < k then l.getD (l.length - 1 - k) 0 else l.getD k 0 := by simp [rv]
theorem rv_step {l : List Int} {i : Nat} (hi : 2 * i + 1 < l.length) : ((rv l i).set i (l.getD (l.length - 1 - i) 0)).set (l.length - 1 - i) (l.getD i 0) = rv l (i + 1) := by
 apply List.ext_getElem (by simp [rv])
 intro k h1 h2
 rw [rv_len] at h2
 rw [List.getElem_set, List.getElem_set, rv_get, rv_get]
 by_cases e1 : l.length - 1 - i = k
 ·rw [if_pos e1, if_pos (.inr (by omega)), show l.length - 1 - k = i by omega]
 ·rw [if_neg e1]
  by_cases e2 : i = k
  ·rw [if_pos e2, if_pos (.inl (by omega)), show l.length - 1 - k = l.length - 1 - i by omega]
  ·rw [if_neg e2]
   by_cases e3 : k < i ∨ l.length - 1 - i < k
   ·rw [if_pos e3, if_pos (by omega)]
   ·rw [if_neg e3, if_neg (by omega)]
theorem rv_zero (l : List Int) : rv l 0 = l := by
 apply List.ext_getElem (rv_len l 0)
 intro k h1 h2
 rw [rv_get, if_neg (by omega)]
 simp [h2]
theorem rv_end (l : List Int) : rv l (l.length / 2) = l.reverse := by
 apply List.ext_getElem (by simp [rv])
 intro k h1 h2
 rw [rv_len] at h1
 rw [rv_get, List.getElem_reverse]
 by_cases e : k < l.length / 2 ∨ l.length - 1 - l.length / 2 < k
 ·rw [if_pos e]
  simp [List.getD_eq_getElem?_getD, List.getElem?_eq_getElem (show l.length - 1 - k < l.length by omega)]
 ·rw [if_neg e]
  have e2 : l.length - 1 - k = k := by omega
  simp [List.getD_eq_getElem?_getD, List.getElem?_eq_getElem h1, e2]
theorem reverse_eq (l : List Int) (h : l.length ≤ 1000000) : F_slices_Reverse___int_int__s0 l = some l.reverse := by
 have key : whileO slices_Reverse___int_int__s0_l1 (l, 0, w64 ((l.length : Int) - 1)) = some l.reverse := by
  rw [← rv_end l]
  refine loop_sq (fun i => (rv l i, (i : Int), (l.length : Int) - 1 - (i : Int))) (l.length / 2) (by show (l, (0 : Int), w64 ((l.length : Int) - 1)) = (rv l 0, ((0 : Nat) : Int), (l.length : Int) - 1 - ((0 : Nat) : Int)); rw [rv_zero, w64_of (by omega) (by omega)]; simp) ?_ ?_
  ·intro i hi
   unfold slices_Reverse___int_int__s0_l1
   have hj : (l.length : Int) - 1 - (i : Int) = ((l.length - 1 - i : Nat) : Int) := by omega
   simp only [dT (show (i : Int) < (l.length : Int) - 1 - (i : Int) by omega), if_true]
   rw [idxO_of hj (by rw [rv_len]; omega), Option.bind_some, idxO_nat (by rw [rv_len]; omega), Option.bind_some, rv_get, rv_get, if_neg (by omega), if_neg (by omega), setO_nat (by rw [rv_len]; omega), Option.bind_some, hj,
    idxO_nat (by rw [List.length_set, rv_len]; omega), Option.bind_some, setO_nat (by rw [List.length_set, rv_len]; omega), Option.bind_some, rv_step (by omega), w64_succ (by omega), w64_of (by omega) (by omega)]
   congr 3
   simp only [Prod.mk.injEq, true_and]
   omega
  ·unfold slices_Reverse___int_int__s0_l1
   simp only [dF (show ¬ ((l.length / 2 : Nat) : Int) < (l.length : Int) - 1 - ((l.length / 2 : Nat) : Int) by omega), Bool.false_eq_true, if_false]
 unfold F_slices_Reverse___int_int__s0
 rw [key, Option.bind_some]
 simp [keepO]
def crow (k : Int) (n a c i : Nat) (m : Nat) : List (Int × Int) := (List.range m).map fun j => if k = 7 then (((n + j : Nat) : Int), ((n + c + i : Nat) : Int)) else (((n + c + i : Nat) : Int), ((n + j : Nat) : Int))
theorem crow_succ (k : Int) (n a c i m : Nat) : crow k n a c i (m + 1) = crow k n a c i m ++ [if k = 7 then (((n + m : Nat) : Int), ((n + c + i : Nat) : Int)) else (((n + c + i : Nat) : Int), ((n + m : Nat) : Int))] := by simp [crow, List.range_succ]
theorem crow_len (k : Int) (n a c i m : Nat) : (crow k n a c i m).length = m := by simp [crow]
theorem cable_eq {p : loops_piece} {l : api_Loop} {k : Int} {b : Bool} {a c u : Nat} (hk : k = 6 ∨ k = 7) (ha : a ≤ 6) (hc : c ≤ 6) (hl : p.loops.length ≤ 100000) (hx : p.cross.length ≤ 900000) :
 F_loops_piece_cable_s1 p l ⟨k, b, (a : Int), (c : Int)⟩ (ups u (a + c)) = some ⟨p.loops ++ (pars ⟨k, b, (a : Int), (c : Int)⟩ u).map (fun q => ⟨l.Row, l.Cell, q, l.Purl⟩), p.rows, p.bound, p.cross ++ crs ⟨k, b, (a : Int), (c : Int)⟩ p.loops.length, p.next⟩ := by
 have e : pars ⟨k, b, (a : Int), (c : Int)⟩ u = ((ups u (a + c)).drop a ++ (ups u (a + c)).take a).map fun x => [x] := by rcases hk with rfl | rfl <;> simp [pars]
 generalize hr : (ups u (a + c)).drop a ++ (ups u (a + c)).take a = r at e
 have hrl : r.length = a + c := by rw [← hr, List.length_append, List.length_drop, List.length_take, ups_len]; omega
 have k1 : whileO (loops_piece_cable_s1_l1 r l) (0, p.loops, p.rows, p.bound, p.cross, p.next) = some (p.loops ++ (r.map fun x => [x]).map (fun q => (⟨l.Row, l.Cell, q, l.Purl⟩ : api_Loop)), p.rows, p.bound, p.cross, p.next) := by
  refine loop_sq (fun i => ((i : Int), p.loops ++ ((r.take i).map fun x => [x]).map (fun q => (⟨l.Row, l.Cell, q, l.Purl⟩ : api_Loop)), p.rows, p.bound, p.cross, p.next)) r.length (by simp) ?_ ?_
  ·intro i hi
   unfold loops_piece_cable_s1_l1
   simp only [dT (show (i : Int) < (r.length : Int) by omega), if_true]
   rw [idxO_nat hi, Option.bind_some, add_eq _ _ _ (by simp; omega), Option.bind_some, w64_succ (by omega), take_snoc _ hi, List.map_append, List.map_append, List.append_assoc]
   rfl
  ·unfold loops_piece_cable_s1_l1
   simp only [dF (show ¬ (r.length : Int) < (r.length : Int) by omega), Bool.false_eq_true, if_false, List.take_length]
 generalize hn : p.loops.length = n at *
 have k2 : ∀ (i : Nat) (X : List (Int × Int)), i < a → X.length ≤ 950000 → whileO (loops_piece_cable_s1_l2 ⟨k, b, (a : Int), (c : Int)⟩ p (i : Int)) (0, X) = some (X ++ crow k n a c i c) := by
  intro i X hi hX
  refine loop_sq (fun j => ((j : Int), X ++ crow k n a c i j)) c (by simp [crow]) ?_ ?_
  ·intro j hj
   unfold loops_piece_cable_s1_l2
   rw [hn]
   simp only [dT (show (j : Int) < (c : Int) by omega), if_true]
   rw [show w64 ((n : Int) + (c : Int)) = ((n + c : Nat) : Int) by rw [w64_of (by omega) (by omega)]; omega, show w64 (((n + c : Nat) : Int) + (i : Int)) = ((n + c + i : Nat) : Int) by rw [w64_of (by omega) (by omega)]; omega, show w64 ((n : Int) + (j : Int)) = ((n + j : Nat) : Int) by rw [w64_of (by omega) (by omega)]; omega, rev2_eq, crow_succ, w64_succ (by omega)]
   rcases hk with rfl | rfl
   ·simp only [show ((6 : Int) == 7) = false from rfl, show ((6 : Int) = 7) = False by simp, Bool.false_eq_true, if_false, Option.bind_some]
    rw [appO_of (by simp [crow_len]; omega), Option.bind_some, List.append_assoc]
   ·simp only [show ((7 : Int) == 7) = true from rfl, if_true, Option.bind_some]
    rw [appO_of (by simp [crow_len]; omega), Option.bind_some, List.append_assoc]
  ·unfold loops_piece_cable_s1_l2
   simp only [dF (show ¬ (c : Int) < (c : Int) by omega), Bool.false_eq_true, if_false]
 have hlen : ∀ i, i ≤ a → ((List.range i).map fun x => crow k n a c x c).flatten.length = i * c := by
  intro i _
  induction i with
  | zero => simp
  | succ i ih => rw [List.range_succ, List.map_append, List.flatten_append, List.length_append, ih (by omega)]; simp [crow_len, Nat.add_mul]
 have k3 : whileO (loops_piece_cable_s1_l3 ⟨k, b, (a : Int), (c : Int)⟩ p) (0, p.cross) = some (p.cross ++ ((List.range a).map fun x => crow k n a c x c).flatten) := by
  refine loop_sq (fun i => ((i : Int), p.cross ++ ((List.range i).map fun x => crow k n a c x c).flatten)) a (by simp) ?_ ?_
  ·intro i hi
   have hm : i * c ≤ 6 * 6 := Nat.mul_le_mul (by omega) hc
   unfold loops_piece_cable_s1_l3
   simp only [dT (show (i : Int) < (a : Int) by omega), if_true]
   rw [k2 i _ hi (by rw [List.length_append, hlen i (by omega)]; omega), List.range_succ, w64_succ (by omega)]
   simp
  ·unfold loops_piece_cable_s1_l3
   simp only [dF (show ¬ (a : Int) < (a : Int) by omega), Bool.false_eq_true, if_false]
 have e2 : crs ⟨k, b, (a : Int), (c : Int)⟩ n = ((List.range a).map fun x => crow k n a c x c).flatten := by simp [crs, hk, crow]
 unfold F_loops_piece_cable_s1
 have hul : (ups u (a + c)).length = a + c := ups_len _ _
 rw [sliceO_of (l := a) (k := a + c) rfl (by rw [hul]) (by omega) (by omega), Option.bind_some, sliceO_of (lo := 0) (l := 0) (k := a) rfl rfl (Nat.zero_le _) (by omega), Option.bind_some]
 rw [List.take_of_length_le (show (ups u (a + c)).length ≤ a + c by omega), List.drop_zero, concat_eq _ _ (by simp [ups_len]; omega), Option.bind_some, hr, k1]
 simp only [Option.bind_some]
 rw [k3, e, e2]
 rfl
theorem work_eq {p : loops_piece} {s : api_Stitch} (R K u : Nat) (h : okS s) (hu : p.next = (u : Int)) (hl : p.loops.length ≤ 100000) (hb : p.bound.length ≤ 100000) (hx : p.cross.length ≤ 900000) (hul : u + uN s ≤ p.loops.length) :
 F_loops_piece_work_s1 p (R : Int) (K : Int) s = some ⟨p.loops ++ mkL R K (side p.loops s u) (pars s u), p.rows, p.bound ++ offB s u, p.cross ++ crs s p.loops.length, ((u + uN s : Nat) : Int)⟩ := by
 have hub := usedS_bd h
 have ht : F_loops_piece_take_s3 p (usedS s) = some (ups u (uN s), ⟨p.loops, p.rows, p.bound, p.cross, ((u + uN s : Nat) : Int)⟩) := by
  rw [show usedS s = ((uN s : Nat) : Int) by unfold uN; omega]
  exact take_eq hu (by omega)
 unfold F_loops_piece_work_s1
 rw [uses_one h, Option.bind_some, ht, Option.bind_some]
 have clone1 : F_slices_Clone___int_int__s0 (ups u 1) = some (ups u 1) := by
  unfold F_slices_Clone___int_int__s0
  rw [appO_of (by simp [ups_len]), Option.bind_some]; rfl
 rcases knd h with ⟨b, rfl⟩ | ⟨b, rfl⟩ | rfl | ⟨b, a, h1, h2, rfl⟩ | ⟨b, a, h1, h2, rfl⟩ | ⟨b, a, h1, h2, rfl⟩ | ⟨k, b, a, c, hk, h1, h2, h3, h4, rfl⟩ | ⟨a, h1, h2, rfl⟩ | ⟨b, a, h1, h2, rfl⟩
 ·have e : uN ⟨1, b, 0, 0⟩ = 1 := by simp [uN, usedS]
  rw [e]
  simp only [show ((1 : Int) == 2) = false from rfl, show ((1 : Int) == 9) = false from rfl, show ((1 : Int) == 1) = true from rfl, Bool.false_eq_true, if_false, if_true, Option.bind_some]
  rw [add_eq _ _ _ (by simp; omega), Option.bind_some]
  simp [mkL, pars, offB, crs, side, ups]
 ·have e : uN ⟨8, b, 0, 0⟩ = 1 := by simp [uN, usedS]
  rw [e] at hul ⊢
  have hlt : u < p.loops.length := by omega
  simp only [show ((8 : Int) == 2) = false from rfl, show ((8 : Int) == 9) = false from rfl, show ((8 : Int) == 1) = false from rfl, show ((8 : Int) == 8) = true from rfl, Bool.false_eq_true, if_false, if_true, Option.bind_some]
  rw [show idxO (ups u 1) 0 = some ((u : Nat) : Int) from rfl, Option.bind_some, idxO_nat hlt, Option.bind_some, add_eq _ _ _ (by simp; omega), Option.bind_some]
  simp [mkL, pars, offB, crs, side, ups, List.getElem?_eq_getElem hlt]
 ·have e : uN ⟨2, false, 0, 0⟩ = 0 := by simp [uN, usedS]
  rw [e]
  simp only [show ((2 : Int) == 2) = true from rfl, if_true, Option.bind_some, show ¬ ((1 : Int) < 0) by omega, if_false]
  rw [makeO_of (n := 1) (k := 1) rfl (by omega), Option.bind_some, add_eq _ _ _ (by simp; omega), Option.bind_some]
  simp [mkL, pars, offB, crs, side]
 ·have e : uN ⟨3, b, (a : Int), 0⟩ = a := by simp [uN, usedS]
  rw [e]
  simp only [show ((3 : Int) == 2) = false from rfl, show ((3 : Int) == 9) = false from rfl, show ((3 : Int) == 1) = false from rfl, show ((3 : Int) == 8) = false from rfl, show ((3 : Int) == 4) = false from rfl, show ((3 : Int) == 3) = true from rfl, Bool.false_eq_true, if_false, if_true, Option.bind_some]
  rw [add_eq _ _ _ (by simp; omega), Option.bind_some]
  simp [mkL, pars, offB, crs, side]
 ·have e : uN ⟨4, b, (a : Int), 0⟩ = a := by simp [uN, usedS]
  rw [e]
  simp only [show ((4 : Int) == 2) = false from rfl, show ((4 : Int) == 9) = false from rfl, show ((4 : Int) == 1) = false from rfl, show ((4 : Int) == 8) = false from rfl, show ((4 : Int) == 4) = true from rfl, Bool.false_eq_true, if_false, if_true, Option.bind_some]
  rw [reverse_eq _ (by rw [ups_len]; omega), Option.bind_some, add_eq _ _ _ (by simp; omega), Option.bind_some]
  simp [mkL, pars, offB, crs, side]
 ·have e : uN ⟨5, b, (a : Int), 0⟩ = 1 := by simp [uN, usedS]
  rw [e]
  simp only [show ((5 : Int) == 2) = false from rfl, show ((5 : Int) == 9) = false from rfl, show ((5 : Int) == 1) = false from rfl, show ((5 : Int) == 8) = false from rfl, show ((5 : Int) == 4) = false from rfl, show ((5 : Int) == 3) = false from rfl, show ((5 : Int) == 5) = true from rfl, Bool.false_eq_true, if_false, if_true, Option.bind_some]
  have key : whileO (loops_piece_work_s1_l1 ⟨5, b, (a : Int), 0⟩ (ups u 1, ⟨p.loops, p.rows, p.bound, p.cross, ((u + 1 : Nat) : Int)⟩) (R : Int) (K : Int)) (0, p.loops, p.rows, p.bound, p.cross, ((u + 1 : Nat) : Int)) = some (p.loops ++ List.replicate a ⟨(R : Int), (K : Int), ups u 1, b⟩, p.rows, p.bound, p.cross, ((u + 1 : Nat) : Int)) := by
   refine loop_sq (fun i => ((i : Int), p.loops ++ List.replicate i (⟨(R : Int), (K : Int), ups u 1, b⟩ : api_Loop), p.rows, p.bound, p.cross, ((u + 1 : Nat) : Int))) a (by simp) ?_ ?_
   ·intro i hi
    unfold loops_piece_work_s1_l1
    simp only [dT (show (i : Int) < (a : Int) by omega), if_true]
    rw [clone1, Option.bind_some, add_eq _ _ _ (by simp; omega), Option.bind_some, w64_succ (by omega), List.replicate_succ']
    simp
   ·unfold loops_piece_work_s1_l1
    simp only [dF (show ¬ (a : Int) < (a : Int) by omega), Bool.false_eq_true, if_false]
  rw [key]
  simp [mkL, pars, offB, crs, side, ups]
 ·have e : uN ⟨k, b, (a : Int), (c : Int)⟩ = a + c := by rcases hk with rfl | rfl <;> simp [uN, usedS] <;> omega
  rw [e]
  have ht : ∀ q : Int, q ≠ 6 → q ≠ 7 → (k == q) = false := by intro q h6 h7; rcases hk with rfl | rfl <;> simp <;> omega
  simp only [ht 2 (by omega) (by omega), ht 9 (by omega) (by omega), ht 1 (by omega) (by omega), ht 8 (by omega) (by omega), ht 4 (by omega) (by omega), ht 3 (by omega) (by omega), ht 5 (by omega) (by omega), ht 10 (by omega) (by omega), Bool.false_eq_true, if_false, Option.bind_some]
  rw [cable_eq hk h2 h4 (by simpa using hl) (by simpa using hx), Option.bind_some]
  have e1 : offB ⟨k, b, (a : Int), (c : Int)⟩ u = [] := by rcases hk with rfl | rfl <;> simp [offB]
  have e2 : side p.loops ⟨k, b, (a : Int), (c : Int)⟩ u = b := by rcases hk with rfl | rfl <;> simp [side]
  rw [e1, e2, List.append_nil]
  rfl
 ·have e : uN ⟨9, false, (a : Int), 0⟩ = 0 := by simp [uN, usedS]
  rw [e]
  simp only [show ((9 : Int) == 2) = false from rfl, show ((9 : Int) == 9) = true from rfl, Bool.false_eq_true, if_false, if_true, Option.bind_some]
  rw [makeO_of (k := a) (by split <;> omega) (by omega), Option.bind_some, add_eq _ _ _ (by simp; omega), Option.bind_some]
  simp [mkL, pars, offB, crs, side]
 ·have e : uN ⟨10, b, (a : Int), 0⟩ = a := by simp [uN, usedS]
  rw [e]
  simp only [show ((10 : Int) == 2) = false from rfl, show ((10 : Int) == 9) = false from rfl, show ((10 : Int) == 1) = false from rfl, show ((10 : Int) == 8) = false from rfl, show ((10 : Int) == 4) = false from rfl, show ((10 : Int) == 3) = false from rfl, show ((10 : Int) == 5) = false from rfl, show ((10 : Int) == 10) = true from rfl, Bool.false_eq_true, if_false, if_true, Option.bind_some]
  rw [appO_of (by simp [ups_len]; omega), Option.bind_some]
  simp [mkL, pars, offB, crs, side]
def kidsP : Nat → List (List Int) → Int → List Nat
 | _, [], _ => []
 | o, p :: P, i => (if i ∈ p then [o] else []) ++ kidsP (o + 1) P i
theorem kidsP_append (i : Int) (Q : List (List Int)) : ∀ (P : List (List Int)) (o : Nat), kidsP o (P ++ Q) i = kidsP o P i ++ kidsP (o + P.length) Q i
 | [], o => by simp [kidsP]
 | p :: P, o => by
  simp only [List.cons_append, kidsP, List.length_cons]
  rw [kidsP_append i Q P (o + 1), List.append_assoc]
  congr 3; omega
theorem kidsP_none {i : Int} : ∀ (P : List (List Int)) (o : Nat), (∀ p, p ∈ P → i ∉ p) → kidsP o P i = []
 | [], o, _ => rfl
 | p :: P, o, h => by
  simp only [kidsP]
  rw [if_neg (h p (by simp)), kidsP_none P (o + 1) fun q hq => h q (by simp [hq])]; rfl
theorem kidsP_rep (u : Int) : ∀ (n o : Nat), kidsP o (List.replicate n [u]) u = List.range' o n
 | 0, o => rfl
 | n + 1, o => by
  simp only [List.replicate_succ, kidsP, List.mem_singleton, if_true]
  rw [kidsP_rep u n (o + 1), List.range'_succ]; rfl
theorem kidsP_single {i : Int} : ∀ (Q : List Int) (o : Nat), Q.Nodup → i ∈ Q → ∃ x, x < Q.length ∧ kidsP o (Q.map fun x => [x]) i = List.range' (o + x) 1
 | [], o, _, h => by simp at h
 | q :: Q, o, hn, h => by
  simp only [List.map_cons, kidsP]
  rw [List.nodup_cons] at hn
  by_cases e : i = q
  ·subst e
   refine ⟨0, by simp, ?_⟩
   rw [if_pos (by simp), kidsP_none _ _ (by
    intro p hp
    obtain ⟨y, hy, rfl⟩ := List.mem_map.1 hp
    intro hi
    simp at hi
    exact hn.1 (hi ▸ hy))]
   rfl
  ·obtain ⟨x, hx, hk⟩ := kidsP_single Q (o + 1) hn.2 (by simpa [e] using h)
   refine ⟨x + 1, by simp; omega, ?_⟩
   rw [if_neg (by simpa using e), hk]
   simp only [List.nil_append]
   congr 1; omega
theorem kids_new {s : api_Stitch} (h : okS s) (u o : Nat) {i : Int} (h0 : (u : Int) ≤ i) (h1 : i < ((u + uN s : Nat) : Int)) :
 (s.Kind = 10 ∧ i ∈ offB s u) ∨ (s.Kind ≠ 10 ∧ ∃ a m, 1 ≤ m ∧ a + m ≤ mN s ∧ kidsP o (pars s u) i = List.range' (o + a) m) := by
 have one : ∀ p : List Int, i ∈ p → kidsP o [p] i = List.range' (o + 0) 1 := fun p hp => by simp [kidsP, hp, List.range'_succ]
 rcases knd h with ⟨b, rfl⟩ | ⟨b, rfl⟩ | rfl | ⟨b, a, h2, h3, rfl⟩ | ⟨b, a, h2, h3, rfl⟩ | ⟨b, a, h2, h3, rfl⟩ | ⟨k, b, a, c, hk, h2, h3, h4, h5, rfl⟩ | ⟨a, h2, h3, rfl⟩ | ⟨b, a, h2, h3, rfl⟩
 ·have e : i = (u : Int) := by simp [uN, usedS] at h1; omega
  exact .inr ⟨by simp, 0, 1, by omega, by simp [mN, madeS], one _ (by simp [e])⟩
 ·have e : i = (u : Int) := by simp [uN, usedS] at h1; omega
  exact .inr ⟨by simp, 0, 1, by omega, by simp [mN, madeS], one _ (by simp [e])⟩
 ·simp [uN, usedS] at h1; omega
 ·refine .inr ⟨by simp, 0, 1, by omega, by simp [mN, madeS], ?_⟩
  have e : pars ⟨3, b, (a : Int), 0⟩ u = [ups u a] := by simp [pars]
  rw [e]; exact one _ (ups_mem.2 ⟨h0, by simpa [uN, usedS] using h1⟩)
 ·refine .inr ⟨by simp, 0, 1, by omega, by simp [mN, madeS], ?_⟩
  have e : pars ⟨4, b, (a : Int), 0⟩ u = [(ups u a).reverse] := by simp [pars]
  rw [e]; exact one _ (List.mem_reverse.2 (ups_mem.2 ⟨h0, by simpa [uN, usedS] using h1⟩))
 ·have e : i = (u : Int) := by simp [uN, usedS] at h1; omega
  refine .inr ⟨by simp, 0, a, by omega, by simp [mN, madeS], ?_⟩
  have e2 : pars ⟨5, b, (a : Int), 0⟩ u = List.replicate a [(u : Int)] := by simp [pars]
  rw [e2, e]; exact kidsP_rep _ _ _
 ·have e : pars ⟨k, b, (a : Int), (c : Int)⟩ u = ((ups u (a + c)).drop a ++ (ups u (a + c)).take a).map fun x => [x] := by rcases hk with rfl | rfl <;> simp [pars]
  have e2 : uN ⟨k, b, (a : Int), (c : Int)⟩ = a + c := by rcases hk with rfl | rfl <;> simp [uN, usedS] <;> omega
  have e3 : mN ⟨k, b, (a : Int), (c : Int)⟩ = a + c := by rcases hk with rfl | rfl <;> simp [mN, madeS] <;> omega
  have hp : ((ups u (a + c)).drop a ++ (ups u (a + c)).take a).Perm (ups u (a + c)) := List.perm_append_comm.trans (by rw [List.take_append_drop])
  rw [e2] at h1
  obtain ⟨x, hx, hx2⟩ := kidsP_single (i := i) _ o (hp.nodup_iff.2 (ups_nodup _ _)) (hp.mem_iff.2 (ups_mem.2 ⟨h0, h1⟩))
  rw [hp.length_eq, ups_len] at hx
  refine .inr ⟨by rcases hk with rfl | rfl <;> simp, x, 1, by omega, by rw [e3]; omega, ?_⟩
  rw [e]; exact hx2
 ·simp [uN, usedS] at h1; omega
 ·exact .inl ⟨rfl, by simp only [offB, if_true]; exact ups_mem.2 ⟨h0, by simpa [uN, usedS] using h1⟩⟩
theorem offB_mem {s : api_Stitch} (h : okS s) {u : Nat} {i : Int} (hi : i ∈ offB s u) : s.Kind = 10 ∧ (u : Int) ≤ i ∧ i < ((u + uN s : Nat) : Int) := by
 unfold offB at hi
 split at hi
 ·rename_i hk
  refine ⟨hk, ?_⟩
  have hb := okS_bd h
  have := ups_mem.1 hi
  have e : uN s = s.A.toNat := by simp [uN, usedS, hk]
  rw [e]; exact this
 ·simp at hi
def parL (L : List api_Loop) : List (List Int) := L.map fun l => l.Parents
def kidsL (L : List api_Loop) (i : Int) : List Nat := kidsP 0 (parL L) i
theorem parL_mk (R K : Nat) (pl : Bool) (ps : List (List Int)) : parL (mkL R K pl ps) = ps := by simp [parL, mkL, List.map_map, Function.comp_def]
theorem parL_app (L M : List api_Loop) : parL (L ++ M) = parL L ++ parL M := by simp [parL]
structure once (L : List api_Loop) (B : List Int) (u : Nat) : Prop where
 below : ∀ i : Int, 0 ≤ i → i < (u : Int) → (i ∈ B ∧ kidsL L i = []) ∨ (i ∉ B ∧ ∃ a m, 1 ≤ m ∧ a + m ≤ L.length ∧ kidsL L i = List.range' a m ∧ ∃ K, ∀ j, a ≤ j → j < a + m → ∃ l, L[j]? = some l ∧ l.Cell = K)
 above : ∀ i : Int, (u : Int) ≤ i → i ∉ B ∧ kidsL L i = []
 lo : ∀ i : Int, i < 0 → i ∉ B ∧ kidsL L i = []
theorem once.step {R K : Nat} {s : api_Stitch} {z : Wk} (hs : okS s) (h : once z.L z.B z.u) : once (stepW R K s z).L (stepW R K s z).B (stepW R K s z).u := by
 have hk : ∀ i, kidsL (stepW R K s z).L i = kidsL z.L i ++ kidsP z.L.length (pars s z.u) i := by
  intro i
  simp only [kidsL, stepW, parL_app, parL_mk, kidsP_append]
  congr 2; simp [parL]
 have hp := pars_bd hs z.u
 have hno : ∀ i : Int, i < (z.u : Int) ∨ ((z.u + uN s : Nat) : Int) ≤ i → kidsP z.L.length (pars s z.u) i = [] := by
  intro i hi
  refine kidsP_none _ _ fun p hp1 hm => ?_
  have := (hp p hp1).2 i hm
  omega
 have hnb : ∀ i : Int, i < (z.u : Int) ∨ ((z.u + uN s : Nat) : Int) ≤ i → i ∉ offB s z.u := by
  intro i hi hm
  have := offB_mem hs hm
  omega
 refine ⟨?_, ?_, ?_⟩
 ·intro i h0 h1
  rw [hk]
  simp only [stepW] at h1 ⊢
  by_cases hlt : i < (z.u : Int)
  ·rw [hno i (.inl hlt), List.append_nil]
   rcases h.below i h0 hlt with ⟨h2, h3⟩ | ⟨h2, a, m, h3, h4, h5, Kc, h6⟩
   ·exact .inl ⟨List.mem_append_left _ h2, h3⟩
   ·refine .inr ⟨fun hm => ?_, a, m, h3, by simp; omega, h5, Kc, fun j hj1 hj2 => ?_⟩
    ·rcases List.mem_append.1 hm with hm | hm
     ·exact h2 hm
     ·exact hnb i (.inl hlt) hm
    ·obtain ⟨l, hl, hc⟩ := h6 j hj1 hj2
     exact ⟨l, by rw [List.getElem?_append_left (by omega)]; exact hl, hc⟩
  ·obtain ⟨h2, h3⟩ := h.above i (by omega)
   rw [h3, List.nil_append]
   rcases kids_new hs z.u z.L.length (i := i) (by omega) h1 with ⟨hk10, hm⟩ | ⟨hk10, a, m, h4, h5, h6⟩
   ·refine .inl ⟨List.mem_append_right _ hm, ?_⟩
    have : pars s z.u = [] := by
     have e := pars_len hs z.u
     have e2 : mN s = 0 := by simp [mN, madeS, hk10]
     exact List.eq_nil_of_length_eq_zero (by omega)
    rw [this]; rfl
   ·refine .inr ⟨fun hm => ?_, z.L.length + a, m, h4, by simp [mkL_len, pars_len hs]; omega, h6, (K : Int), fun j hj1 hj2 => ?_⟩
    ·rcases List.mem_append.1 hm with hm | hm
     ·exact h2 hm
     ·exact hk10 (offB_mem hs hm).1
    ·have hj : j - z.L.length < (pars s z.u).length := by rw [pars_len hs]; omega
     refine ⟨⟨(R : Int), (K : Int), (pars s z.u)[j - z.L.length], side z.L s z.u⟩, ?_, rfl⟩
     rw [List.getElem?_append_right (by omega)]
     simp only [mkL, List.getElem?_map, List.getElem?_eq_getElem hj, Option.map_some]
 ·intro i hi
  simp only [stepW] at hi
  obtain ⟨h2, h3⟩ := h.above i (by omega)
  rw [hk, h3, hno i (.inr (by omega))]
  refine ⟨fun hm => ?_, rfl⟩
  simp only [stepW] at hm
  rcases List.mem_append.1 hm with hm | hm
  ·exact h2 hm
  ·exact hnb i (.inr (by omega)) hm
 ·intro i hi
  obtain ⟨h2, h3⟩ := h.lo i hi
  rw [hk, h3, hno i (.inl (by omega))]
  refine ⟨fun hm => ?_, rfl⟩
  simp only [stepW] at hm
  rcases List.mem_append.1 hm with hm | hm
  ·exact h2 hm
  ·exact hnb i (.inl (by omega)) hm
theorem once.start (S : Nat) : once (zeroL S) [] 0 := by
 have h : ∀ i : Int, kidsL (zeroL S) i = [] := by
  intro i
  refine kidsP_none _ _ fun p hp hm => ?_
  simp only [parL, zeroL, List.map_map, List.mem_map] at hp
  obtain ⟨_, _, rfl⟩ := hp
  simp at hm
 exact ⟨fun i h0 h1 => by omega, fun i _ => ⟨by simp, h i⟩, fun i _ => ⟨by simp, h i⟩⟩
def norm (p : Int × Int) : Int × Int := if p.1 ≤ p.2 then p else (p.2, p.1)
theorem pars_x {k : Int} {b : Bool} {a c u i : Nat} (hk : k = 6 ∨ k = 7) (hi : i < a + c) : (pars ⟨k, b, (a : Int), (c : Int)⟩ u)[i]? = some [((u + (if i < c then a + i else i - c) : Nat) : Int)] := by
 have e : pars ⟨k, b, (a : Int), (c : Int)⟩ u = ((ups u (a + c)).drop a ++ (ups u (a + c)).take a).map fun x => [x] := by rcases hk with rfl | rfl <;> simp [pars]
 have hd : ((ups u (a + c)).drop a).length = c := by rw [List.length_drop, ups_len]; omega
 rw [e, List.getElem?_map]
 by_cases h : i < c
 ·rw [List.getElem?_append_left (by rw [hd]; exact h), List.getElem?_drop, List.getElem?_eq_getElem (by rw [ups_len]; omega), ups_get, if_pos h]; rfl
 ·rw [List.getElem?_append_right (by rw [hd]; omega), hd, List.getElem?_take_of_lt (by omega), List.getElem?_eq_getElem (by rw [ups_len]; omega), ups_get, if_neg h]; rfl
def inv (L : List api_Loop) (a b : Nat) : Prop := a < b ∧ ∃ l k x y, L[a]? = some l ∧ L[b]? = some k ∧ l.Parents = [x] ∧ k.Parents = [y] ∧ y < x
theorem crs_x {k : Int} {b : Bool} {a c n : Nat} (hk : k = 6 ∨ k = 7) : (crs ⟨k, b, (a : Int), (c : Int)⟩ n).map norm = ((List.range a).map fun i => (List.range c).map fun j => (((n + j : Nat) : Int), ((n + c + i : Nat) : Int))).flatten := by
 have e : crs ⟨k, b, (a : Int), (c : Int)⟩ n = ((List.range a).map fun i => (List.range c).map fun j => if k = 7 then (((n + j : Nat) : Int), ((n + c + i : Nat) : Int)) else (((n + c + i : Nat) : Int), ((n + j : Nat) : Int))).flatten := by
  simp [crs, hk]
 rw [e, List.map_flatten, List.map_map]
 congr 1
 apply List.map_congr_left
 intro i _
 simp only [Function.comp, List.map_map]
 apply List.map_congr_left
 intro j hj
 have hj := List.mem_range.1 hj
 simp only [Function.comp, norm]
 rcases hk with rfl | rfl
 ·simp only [show ((6 : Int) = 7) = False by simp, if_false]; rw [if_neg (by omega)]
 ·simp only [if_true]; rw [if_pos (by omega)]
theorem crs_mem {k : Int} {b : Bool} {a c n : Nat} (hk : k = 6 ∨ k = 7) {q : Int × Int} : q ∈ (crs ⟨k, b, (a : Int), (c : Int)⟩ n).map norm ↔ ∃ i j : Nat, i < a ∧ j < c ∧ q = (((n + j : Nat) : Int), ((n + c + i : Nat) : Int)) := by
 rw [crs_x hk]
 simp only [List.mem_flatten, List.mem_map, List.mem_range]
 constructor
 ·rintro ⟨_, ⟨i, hi, rfl⟩, h⟩
  simp only [List.mem_map, List.mem_range] at h
  obtain ⟨j, hj, rfl⟩ := h
  exact ⟨i, j, hi, hj, rfl⟩
 ·rintro ⟨i, j, hi, hj, rfl⟩
  exact ⟨_, ⟨i, hi, rfl⟩, by simp only [List.mem_map, List.mem_range]; exact ⟨j, hj, rfl⟩⟩
theorem nodup_grid {α : Type} (f : Nat → Nat → α) (hf : ∀ i j i' j', f i j = f i' j' → i = i' ∧ j = j') (c : Nat) : ∀ a, ((List.range a).map fun i => (List.range c).map fun j => f i j).flatten.Nodup
 | 0 => by simp
 | a + 1 => by
  rw [List.range_succ, List.map_append, List.flatten_append, List.nodup_append]
  refine ⟨nodup_grid f hf c a, ?_, ?_⟩
  ·simp only [List.map_cons, List.map_nil, List.flatten_cons, List.flatten_nil, List.append_nil]
   rw [List.nodup_iff_pairwise_ne]
   refine List.pairwise_map.2 (List.Pairwise.imp ?_ (List.pairwise_lt_range (n := c)))
   intro x y h e
   have := (hf _ _ _ _ e).2; omega
  ·intro x hx y hy e
   subst e
   simp only [List.mem_flatten, List.mem_map, List.mem_range] at hx hy
   obtain ⟨_, ⟨i, hi, rfl⟩, hx⟩ := hx
   obtain ⟨_, ⟨i', hi', rfl⟩, hy⟩ := hy
   simp only [List.mem_map, List.mem_range] at hx hy
   obtain ⟨j, _, rfl⟩ := hx
   obtain ⟨j', _, e⟩ := hy
   simp at hi'
   have := (hf _ _ _ _ e).1; omega
theorem cross_new {s : api_Stitch} (h : okS s) (u n : Nat) : ((crs s n).map norm).Nodup ∧ ∀ a b : Nat, (((n + a : Nat) : Int), ((n + b : Nat) : Int)) ∈ (crs s n).map norm ↔ a < b ∧ ∃ x y, (pars s u)[a]? = some [x] ∧ (pars s u)[b]? = some [y] ∧ y < x := by
 have short : (pars s u).length ≤ 1 → crs s n = [] → ((crs s n).map norm).Nodup ∧ ∀ a b : Nat, (((n + a : Nat) : Int), ((n + b : Nat) : Int)) ∈ (crs s n).map norm ↔ a < b ∧ ∃ x y, (pars s u)[a]? = some [x] ∧ (pars s u)[b]? = some [y] ∧ y < x := by
  intro hl hc
  rw [hc]
  refine ⟨by simp, fun a b => ⟨fun h => by simp at h, ?_⟩⟩
  rintro ⟨hab, x, y, _, h2, _⟩
  have := (List.getElem?_eq_some_iff.1 h2).1
  omega
 have hl := pars_len h u
 rcases knd h with ⟨b, rfl⟩ | ⟨b, rfl⟩ | rfl | ⟨b, a, h2, h3, rfl⟩ | ⟨b, a, h2, h3, rfl⟩ | ⟨b, a, h2, h3, rfl⟩ | ⟨k, b, a, c, hk, h2, h3, h4, h5, rfl⟩ | ⟨a, h2, h3, rfl⟩ | ⟨b, a, h2, h3, rfl⟩
 ·exact short (by simp [pars]) (by simp [crs])
 ·exact short (by simp [pars]) (by simp [crs])
 ·exact short (by simp [pars]) (by simp [crs])
 ·exact short (by simp [pars]) (by simp [crs])
 ·exact short (by simp [pars]) (by simp [crs])
 ·have e : crs ⟨5, b, (a : Int), 0⟩ n = [] := by simp [crs]
  have e2 : pars ⟨5, b, (a : Int), 0⟩ u = List.replicate a [(u : Int)] := by simp [pars]
  rw [e, e2]
  refine ⟨by simp, fun i j => ⟨fun h => by simp at h, ?_⟩⟩
  rintro ⟨_, x, y, h5, h6, h7⟩
  rw [List.getElem?_replicate] at h5 h6
  split at h5
  ·split at h6
   ·simp at h5 h6; omega
   ·cases h6
  ·cases h5
 ·have e3 : mN ⟨k, b, (a : Int), (c : Int)⟩ = a + c := by rcases hk with rfl | rfl <;> simp [mN, madeS] <;> omega
  refine ⟨?_, fun i j => ?_⟩
  ·rw [crs_x hk]
   refine nodup_grid _ (fun i j i' j' e => ?_) c a
   simp only [Prod.mk.injEq] at e
   omega
  ·rw [crs_mem hk]
   constructor
   ·rintro ⟨p, q, hp, hq, e⟩
    simp only [Prod.mk.injEq] at e
    obtain ⟨rfl, rfl⟩ : i = q ∧ j = c + p := by omega
    refine ⟨by omega, _, _, pars_x hk (by omega), pars_x hk (by omega), ?_⟩
    rw [if_pos hq, if_neg (by omega)]
    omega
   ·rintro ⟨hij, x, y, h6, h7, h8⟩
    have l1 := (List.getElem?_eq_some_iff.1 h7).1
    rw [hl, e3] at l1
    rw [pars_x hk (by omega)] at h6 h7
    simp only [Option.some.injEq, List.cons.injEq, and_true] at h6 h7
    subst h6 h7
    by_cases c1 : i < c
    ·by_cases c2 : j < c
     ·rw [if_pos c1, if_pos c2] at h8; omega
     ·exact ⟨j - c, i, by omega, c1, by rw [Prod.mk.injEq]; exact ⟨rfl, by omega⟩⟩
    ·rw [if_neg c1, if_neg (show ¬ j < c by omega)] at h8; omega
 ·have e : crs ⟨9, false, (a : Int), 0⟩ n = [] := by simp [crs]
  have e2 : pars ⟨9, false, (a : Int), 0⟩ u = List.replicate a [] := by simp [pars]
  rw [e, e2]
  refine ⟨by simp, fun i j => ⟨fun h => by simp at h, ?_⟩⟩
  rintro ⟨_, x, y, h5, _⟩
  rw [List.getElem?_replicate] at h5
  split at h5 <;> simp at h5
 ·exact short (by simp [pars]) (by simp [crs])
theorem crs_ge {s : api_Stitch} (h : okS s) {n : Nat} {q : Int × Int} (hq : q ∈ (crs s n).map norm) : ∃ a b : Nat, q = (((n + a : Nat) : Int), ((n + b : Nat) : Int)) ∧ a < b ∧ b < mN s := by
 rcases knd h with ⟨b, rfl⟩ | ⟨b, rfl⟩ | rfl | ⟨b, a, h2, h3, rfl⟩ | ⟨b, a, h2, h3, rfl⟩ | ⟨b, a, h2, h3, rfl⟩ | ⟨k, b, a, c, hk, h2, h3, h4, h5, rfl⟩ | ⟨a, h2, h3, rfl⟩ | ⟨b, a, h2, h3, rfl⟩
 ·simp [crs] at hq
 ·simp [crs] at hq
 ·simp [crs] at hq
 ·simp [crs] at hq
 ·simp [crs] at hq
 ·simp [crs] at hq
 ·have e3 : mN ⟨k, b, (a : Int), (c : Int)⟩ = a + c := by rcases hk with rfl | rfl <;> simp [mN, madeS] <;> omega
  obtain ⟨i, j, hi, hj, rfl⟩ := (crs_mem hk).1 hq
  exact ⟨j, c + i, by rw [Prod.mk.injEq]; exact ⟨rfl, by omega⟩, by omega, by rw [e3]; omega⟩
 ·simp [crs] at hq
 ·simp [crs] at hq
structure cinv (L : List api_Loop) (C : List (Int × Int)) (u : Nat) : Prop where
 par : ∀ l, l ∈ L → ∀ p, p ∈ l.Parents → 0 ≤ p ∧ p < (u : Int)
 nd : (C.map norm).Nodup
 bd : ∀ q, q ∈ C.map norm → ∃ a b : Nat, q = ((a : Int), (b : Int)) ∧ a < b ∧ b < L.length
 iff : ∀ a b : Nat, (((a : Nat) : Int), ((b : Nat) : Int)) ∈ C.map norm ↔ inv L a b
 cell : ∀ a b l k, inv L a b → L[a]? = some l → L[b]? = some k → l.Cell = k.Cell
theorem cinv.step {R K : Nat} {s : api_Stitch} {z : Wk} (hs : okS s) (h : cinv z.L z.C z.u) : cinv (stepW R K s z).L (stepW R K s z).C (stepW R K s z).u := by
 have hp := pars_bd hs z.u
 have hl := pars_len hs z.u
 have hget : ∀ b l, z.L.length ≤ b → (stepW R K s z).L[b]? = some l → ∃ ps, (pars s z.u)[b - z.L.length]? = some ps ∧ l.Parents = ps ∧ l.Cell = (K : Int) := by
  intro b l hb hg
  simp only [stepW] at hg
  rw [List.getElem?_append_right hb] at hg
  simp only [mkL, List.getElem?_map, Option.map_eq_some_iff] at hg
  obtain ⟨ps, h1, rfl⟩ := hg
  exact ⟨ps, h1, rfl, rfl⟩
 have hold : ∀ b, b < z.L.length → (stepW R K s z).L[b]? = z.L[b]? := fun b hb => by simp only [stepW]; rw [List.getElem?_append_left hb]
 obtain ⟨hn1, hn2⟩ := cross_new hs z.u z.L.length
 have hinv : ∀ a b, inv (stepW R K s z).L a b ↔ inv z.L a b ∨ ∃ i j, a = z.L.length + i ∧ b = z.L.length + j ∧ i < j ∧ ∃ x y, (pars s z.u)[i]? = some [x] ∧ (pars s z.u)[j]? = some [y] ∧ y < x := by
  intro a b
  constructor
  ·rintro ⟨hab, l, k, x, y, h1, h2, h3, h4, h5⟩
   by_cases hb : b < z.L.length
   ·rw [hold a (by omega)] at h1
    rw [hold b hb] at h2
    exact .inl ⟨hab, l, k, x, y, h1, h2, h3, h4, h5⟩
   ·obtain ⟨pb, g1, g2, _⟩ := hget b k (by omega) h2
    by_cases ha : a < z.L.length
    ·rw [hold a ha] at h1
     have e1 := (h.par l (List.mem_of_getElem? h1) x (by rw [h3]; simp)).2
     have e2 := (hp pb (List.mem_of_getElem? g1)).2 y (by rw [← g2, h4]; simp)
     omega
    ·obtain ⟨pa, f1, f2, _⟩ := hget a l (by omega) h1
     refine .inr ⟨a - z.L.length, b - z.L.length, by omega, by omega, by omega, x, y, ?_, ?_, h5⟩
     ·rw [f1, ← f2, h3]
     ·rw [g1, ← g2, h4]
  ·rintro (⟨hab, l, k, x, y, h1, h2, h3, h4, h5⟩ | ⟨i, j, rfl, rfl, hij, x, y, h1, h2, h3⟩)
   ·exact ⟨hab, l, k, x, y, by rw [hold a (List.getElem?_eq_some_iff.1 h1).1]; exact h1, by rw [hold b (List.getElem?_eq_some_iff.1 h2).1]; exact h2, h3, h4, h5⟩
   ·refine ⟨by omega, ⟨R, K, [x], side z.L s z.u⟩, ⟨R, K, [y], side z.L s z.u⟩, x, y, ?_, ?_, rfl, rfl, h3⟩
    ·simp only [stepW]; rw [List.getElem?_append_right (by omega), Nat.add_sub_cancel_left]; simp only [mkL, List.getElem?_map, h1, Option.map_some]
    ·simp only [stepW]; rw [List.getElem?_append_right (by omega), Nat.add_sub_cancel_left]; simp only [mkL, List.getElem?_map, h2, Option.map_some]
 refine ⟨?_, ?_, ?_, ?_, ?_⟩
 ·intro l hm p hpm
  simp only [stepW] at hm ⊢
  rcases List.mem_append.1 hm with hm | hm
  ·have := h.par l hm p hpm; omega
  ·simp only [mkL, List.mem_map] at hm
   obtain ⟨ps, h1, rfl⟩ := hm
   have := (hp ps h1).2 p hpm; omega
 ·simp only [stepW, List.map_append]
  rw [List.nodup_append]
  refine ⟨h.nd, hn1, fun x hx y hy e => ?_⟩
  subst e
  obtain ⟨a, b, rfl, _, hb⟩ := h.bd x hx
  obtain ⟨i, j, e, _, _⟩ := crs_ge hs hy
  simp only [Prod.mk.injEq] at e
  omega
 ·intro q hq
  simp only [stepW, List.map_append, List.mem_append, List.length_append, mkL_len, hl] at hq ⊢
  rcases hq with hq | hq
  ·obtain ⟨a, b, rfl, h1, h2⟩ := h.bd q hq; exact ⟨a, b, rfl, h1, by omega⟩
  ·obtain ⟨a, b, rfl, h1, h2⟩ := crs_ge hs hq; exact ⟨_, _, rfl, by omega, by omega⟩
 ·intro a b
  rw [hinv]
  simp only [stepW, List.map_append, List.mem_append]
  rw [h.iff a b]
  constructor
  ·rintro (h1 | h1)
   ·exact .inl h1
   ·obtain ⟨i, j, e, _, _⟩ := crs_ge hs h1
    simp only [Prod.mk.injEq] at e
    obtain ⟨rfl, rfl⟩ : a = z.L.length + i ∧ b = z.L.length + j := by omega
    obtain ⟨hij, hx⟩ := (hn2 i j).1 h1
    exact .inr ⟨i, j, rfl, rfl, hij, hx⟩
  ·rintro (h1 | ⟨i, j, rfl, rfl, hij, hx⟩)
   ·exact .inl h1
   ·exact .inr ((hn2 i j).2 ⟨hij, hx⟩)
 ·intro a b l k hi h1 h2
  rcases (hinv a b).1 hi with h3 | ⟨i, j, rfl, rfl, _, _⟩
  ·have hb : b < z.L.length := by obtain ⟨_, _, _, _, _, _, g, _⟩ := h3; exact (List.getElem?_eq_some_iff.1 g).1
   rw [hold a (by have := h3.1; omega)] at h1
   rw [hold b hb] at h2
   exact h.cell a b l k h3 h1 h2
  ·obtain ⟨_, _, _, e1⟩ := hget _ l (by omega) h1
   obtain ⟨_, _, _, e2⟩ := hget _ k (by omega) h2
   rw [e1, e2]
theorem cinv.start (S : Nat) : cinv (zeroL S) [] 0 := by
 have hp : ∀ l, l ∈ zeroL S → l.Parents = [] := by
  intro l hl
  simp only [zeroL, List.mem_map] at hl
  obtain ⟨_, _, rfl⟩ := hl; rfl
 have hi : ∀ a b, ¬ inv (zeroL S) a b := by
  rintro a b ⟨_, l, _, x, _, h1, _, h3, _⟩
  rw [hp l (List.mem_of_getElem? h1)] at h3; cases h3
 exact ⟨fun l hl p hpm => by rw [hp l hl] at hpm; simp at hpm, by simp, fun q hq => by simp at hq, fun a b => ⟨fun h => by simp at h, fun h => absurd h (hi a b)⟩, fun a b l k h => absurd h (hi a b)⟩
theorem cells_all {R : Nat} {l : List api_Stitch} {z : Wk} (P : Nat → Wk → Prop) (h0 : P 0 z) (step : ∀ (j : Nat) (hj : j < l.length) (y : Wk), P j y → P (j + 1) (stepW R j l[j] y)) : ∀ k, k ≤ l.length → P k (cellsW R 0 (l.take k) z) := by
 intro k
 induction k with
 | zero => intro _; exact h0
 | succ k ih =>
  intro hk
  rw [List.take_succ_eq_append_getElem (by omega), cellsW_snoc]
  have := step k (by omega) _ (ih (by omega))
  rwa [Nat.zero_add, List.length_take, Nat.min_eq_left (by omega)]
theorem rows_all {fs : List (List api_Stitch)} {z : Wk × List Int} (P : Nat → Wk × List Int → Prop) (h0 : P 0 z)
 (step : ∀ (i : Nat) (hi : i < fs.length) (y : Wk × List Int), P i y → P (i + 1) (cellsW (i + 1) 0 fs[i] y.1, y.2 ++ [((cellsW (i + 1) 0 fs[i] y.1).L.length : Int)])) : ∀ k, k ≤ fs.length → P k (rowsW 0 (fs.take k) z) := by
 intro k
 induction k with
 | zero => intro _; exact h0
 | succ k ih =>
  intro hk
  rw [List.take_succ_eq_append_getElem (by omega), rowsW_snoc]
  have := step k (by omega) _ (ih (by omega))
  rwa [Nat.zero_add, List.length_take, Nat.min_eq_left (by omega)]
theorem offs_snoc (S : Nat) (fs : List (List api_Stitch)) (k : Nat) : ((List.range (k + 2)).map fun r => (off S fs r : Int)) ++ [(off S fs (k + 2) : Int)] = (List.range (k + 1 + 2)).map fun r => (off S fs r : Int) := by
 rw [List.range_succ (n := k + 1 + 1), List.map_append]; rfl
structure Bd (k j : Nat) (z : Wk) : Prop where
 B : z.B.length ≤ z.u
 C : z.C.length ≤ 36 * (200 * k + j)
theorem offB_len {s : api_Stitch} (u : Nat) : (offB s u).length ≤ uN s := by
 unfold offB
 split
 ·rename_i h; rw [ups_len]; simp [uN, usedS, h]
 ·simp
theorem crs_len {s : api_Stitch} (h : okS s) (n : Nat) : (crs s n).length ≤ 36 := by
 rcases knd h with ⟨b, rfl⟩ | ⟨b, rfl⟩ | rfl | ⟨b, a, h2, h3, rfl⟩ | ⟨b, a, h2, h3, rfl⟩ | ⟨b, a, h2, h3, rfl⟩ | ⟨k, b, a, c, hk, h2, h3, h4, h5, rfl⟩ | ⟨a, h2, h3, rfl⟩ | ⟨b, a, h2, h3, rfl⟩
 ·simp [crs]
 ·simp [crs]
 ·simp [crs]
 ·simp [crs]
 ·simp [crs]
 ·simp [crs]
 ·have e : ((crs ⟨k, b, (a : Int), (c : Int)⟩ n).map norm).length = a * c := by
   rw [crs_x hk]
   have : ∀ m, ((List.range m).map fun i => (List.range c).map fun j => (((n + j : Nat) : Int), ((n + c + i : Nat) : Int))).flatten.length = m * c := by
    intro m
    induction m with
    | zero => simp
    | succ m ih => rw [List.range_succ, List.map_append, List.flatten_append, List.length_append, ih]; simp [Nat.add_mul]
   exact this a
  rw [List.length_map] at e
  have := Nat.mul_le_mul h3 h5
  omega
 ·simp [crs]
 ·simp [crs]
theorem Bd.step {k j R K : Nat} {s : api_Stitch} {z : Wk} (hs : okS s) (h : Bd k j z) : Bd k (j + 1) (stepW R K s z) := by
 have h1 := offB_len (s := s) z.u
 have h2 := crs_len hs z.L.length
 have := h.B
 have := h.C
 exact ⟨by simp only [stepW, List.length_append]; omega, by simp only [stepW, List.length_append]; omega⟩
def stC (S : Nat) (fs : List (List api_Stitch)) (k : Nat) : Wk × List Int := rowsW 0 (fs.take k) (⟨zeroL S, [], [], 0⟩, [0, (S : Int)])
theorem stC_all {S : Nat} {fs : List (List api_Stitch)} (hf : okF S fs) (P : Nat → Nat → Wk → Prop) (h0 : P 0 0 ⟨zeroL S, [], [], 0⟩)
 (step : ∀ (k j : Nat) (hk : k < fs.length) (hj : j < fs[k].length) (z : Wk), LInv S fs k j z → P k j z → P k (j + 1) (stepW (k + 1) j (fs[k][j]) z))
 (row : ∀ (k : Nat) (hk : k < fs.length) (z : Wk), LInv S fs (k + 1) 0 z → P k fs[k].length z → P (k + 1) 0 z) :
 ∀ k, k ≤ fs.length → LInv S fs k 0 (stC S fs k).1 ∧ P k 0 (stC S fs k).1 ∧ (stC S fs k).2 = (List.range (k + 2)).map fun r => (off S fs r : Int) := by
 refine rows_all (fun k z => LInv S fs k 0 z.1 ∧ P k 0 z.1 ∧ z.2 = (List.range (k + 2)).map fun r => (off S fs r : Int)) ⟨LInv.start S fs, h0, by simp [off, nR, List.range_succ]⟩ ?_
 rintro k hk ⟨z, rs⟩ ⟨h1, h2, h3⟩
 simp only at h1 h2 h3
 have hc : LInv S fs k fs[k].length (cellsW (k + 1) 0 fs[k] z) ∧ P k fs[k].length (cellsW (k + 1) 0 fs[k] z) :=
  cells_ind (fun j y => LInv S fs k j y ∧ P k j y) ⟨h1, h2⟩ fun j hj y hy => ⟨hy.1.step hf hk hj, step k j hk hj y hy.1 hy.2⟩
 have hr := hc.1.row hf hk
 refine ⟨hr, row k hk _ hr hc.2, ?_⟩
 simp only
 rw [h3, hr.len, ← offs_snoc]
 simp [pm, smN]
theorem stC_cells {S : Nat} {fs : List (List api_Stitch)} (hf : okF S fs) {k : Nat} (hk : k < fs.length) (P : Nat → Wk → Prop) (h0 : P 0 (stC S fs k).1)
 (step : ∀ (j : Nat) (hj : j < fs[k].length) (z : Wk), LInv S fs k j z → P j z → P (j + 1) (stepW (k + 1) j (fs[k][j]) z)) :
 ∀ j, j ≤ fs[k].length → LInv S fs k j (cellsW (k + 1) 0 (fs[k].take j) (stC S fs k).1) ∧ P j (cellsW (k + 1) 0 (fs[k].take j) (stC S fs k).1) := by
 have hz := (stC_all hf (fun _ _ _ => True) trivial (fun _ _ _ _ _ _ _ => trivial) (fun _ _ _ _ _ => trivial) k (by omega)).1
 exact cells_all (fun j y => LInv S fs k j y ∧ P j y) ⟨hz, h0⟩ fun j hj y hy => ⟨hy.1.step hf hk hj, step j hj y hy.1 hy.2⟩
theorem stC_succ {S : Nat} {fs : List (List api_Stitch)} {k : Nat} (hk : k < fs.length) : stC S fs (k + 1) = (cellsW (k + 1) 0 fs[k] (stC S fs k).1, (stC S fs k).2 ++ [((cellsW (k + 1) 0 fs[k] (stC S fs k).1).L.length : Int)]) := by
 unfold stC
 rw [List.take_succ_eq_append_getElem hk, rowsW_snoc, Nat.zero_add, List.length_take, Nat.min_eq_left (by omega)]
theorem stC_bd {S : Nat} {fs : List (List api_Stitch)} (hf : okF S fs) (k : Nat) (hk : k ≤ fs.length) : Bd k 0 (stC S fs k).1 := by
 refine (stC_all hf (fun k j z => Bd k j z) ⟨by simp, by simp⟩ ?_ ?_ k hk).2.1
 ·intro k j hk hj z _ h
  exact h.step ((hf.2 k hk).1 _ (List.getElem_mem _))
 ·intro k hk z _ h
  have := (hf.2 k hk).2.1
  exact ⟨h.B, Nat.le_trans h.C (by omega)⟩
theorem pu_le {S : Nat} {fs : List (List api_Stitch)} (hf : okF S fs) {k j : Nat} (hk : k < fs.length) (hj : j < fs[k].length) : pu S fs k j + uN (fs[k][j]) ≤ off S fs (k + 1) := by
 have hg : fs.getD k [] = fs[k] := by simp [List.getD_eq_getElem?_getD, List.getElem?_eq_getElem hk]
 have h1 := smN_take uN fs[k] hj
 have h2 := smN_take_le uN fs[k] (j + 1)
 have h3 := (hf.2 k hk).2.2.2
 simp only [pu, hg, off]
 omega
theorem pm_le {S : Nat} {fs : List (List api_Stitch)} (hf : okF S fs) {k j : Nat} (hk : k < fs.length) : off S fs (k + 1) ≤ pm S fs k j ∧ pm S fs k j ≤ off S fs (k + 2) := by
 have hg : fs.getD k [] = fs[k] := by simp [List.getD_eq_getElem?_getD, List.getElem?_eq_getElem hk]
 have h2 := smN_take_le mN fs[k] j
 have h3 := nR_succ (S := S) hk
 simp only [pm, hg, off, h3]
 omega
theorem cells_at (R : Nat) (l : List api_Stitch) (z : Wk) {j : Nat} (hj : j < l.length) : cellsW R 0 (l.take (j + 1)) z = stepW R j l[j] (cellsW R 0 (l.take j) z) := by
 rw [List.take_succ_eq_append_getElem hj, cellsW_snoc, Nat.zero_add, List.length_take, Nat.min_eq_left (by omega)]
theorem row_loop {S : Nat} {fs : List (List api_Stitch)} (hf : okF S fs) (hfl : fs.length ≤ 100) {k : Nat} (hk : k < fs.length) (e : Int) (rs : List Int) :
 whileO (loops_of_l2 (fs[k], e) (k : Int)) (0, (stC S fs k).1.L, rs, (stC S fs k).1.B, (stC S fs k).1.C, ((stC S fs k).1.u : Int)) =
  some ((stC S fs (k + 1)).1.L, rs, (stC S fs (k + 1)).1.B, (stC S fs (k + 1)).1.C, ((stC S fs (k + 1)).1.u : Int)) := by
 have hall := stC_cells hf hk (fun j z => Bd k j z) (stC_bd hf k (by omega)) fun j hj z _ h => h.step ((hf.2 k hk).1 _ (List.getElem_mem _))
 have hlen := (hf.2 k hk).2.1
 rw [stC_succ hk]
 generalize stC S fs k = z at hall
 refine loop_sq (fun j => ((j : Int), (cellsW (k + 1) 0 (fs[k].take j) z.1).L, rs, (cellsW (k + 1) 0 (fs[k].take j) z.1).B, (cellsW (k + 1) 0 (fs[k].take j) z.1).C, ((cellsW (k + 1) 0 (fs[k].take j) z.1).u : Int))) fs[k].length (by simp [cellsW]) ?_ ?_
 ·intro j hj
  obtain ⟨hL, hB⟩ := hall j (by omega)
  have h1 := pu_le hf hk hj
  have h2 := pm_le hf hk (j := j)
  have h3 := off_le hf (r := k + 2) (by omega)
  have h4 := off_mono (S := S) (fs := fs) (a := k + 1) (b := k + 2) (by omega)
  have h5 := hB.B
  have h6 := hB.C
  have h7 := hL.len
  have h8 := hL.u
  unfold loops_of_l2
  simp only [dT (show (j : Int) < (fs[k].length : Int) by omega), if_true]
  rw [idxO_nat hj, Option.bind_some, w64_succ (by omega), work_eq (k + 1) j (cellsW (k + 1) 0 (fs[k].take j) z.1).u ((hf.2 k hk).1 _ (List.getElem_mem _)) rfl (by simp only; omega) (by simp only; omega) (by simp only; omega) (by simp only; omega), Option.bind_some, w64_succ (by omega), cells_at (k + 1) fs[k] z.1 hj]
  rfl
 ·unfold loops_of_l2
  simp only [dF (show ¬ (fs[k].length : Int) < (fs[k].length : Int) by omega), Bool.false_eq_true, if_false, List.take_length]
theorem face_eq {c : api_Chart} (hw : wfR c.Rows) (hk : chk c = 0) {i : Nat} (hi : i < c.Rows.length) : F_chart_Face c (i : Int) = some (faceR c.Rows[i], 0) := by
 have hrows := chk_ok hk
 have hall := chkR_mem hrows.2.2.2 _ (List.getElem_mem hi)
 have hlen := (allS_ok hall).1
 unfold F_chart_Face
 rw [chart_check_eq c hw, Option.bind_some, hk]
 simp only [show ((0 : Int) != 0) = false from rfl, Bool.false_eq_true, if_false, dF (show ¬ (i : Int) < 0 by omega), dF (show ¬ (c.Rows.length : Int) ≤ (i : Int) by omega), Option.bind_some]
 rw [idxO_nat hi, Option.bind_some]
 unfold faceR
 by_cases hb : c.Rows[i].Back = true
 ·rw [if_pos hb, if_pos hb, turn_eq (hw _ (List.getElem_mem hi)), if_pos hall]; rfl
 ·rw [if_neg hb, if_neg hb]
  unfold F_slices_Clone___api_Stitch_api_Stitch_
  rw [appO_of (by simp; omega), Option.bind_some]; rfl
theorem okF_of {c : api_Chart} (hk : chk c = 0) : okF c.Start.toNat (c.Rows.map faceR) ∧ c.Rows.length ≤ 100 ∧ ((c.Start.toNat : Nat) : Int) = c.Start := by
 obtain ⟨h1, h2, h3, h4⟩ := chk_ok hk
 have hface : ∀ r : api_Row, allS r.Cells = 0 → allS (faceR r) = 0 ∧ sm usedS (faceR r) = sm usedS r.Cells ∧ sm madeS (faceR r) = sm madeS r.Cells := by
  intro r hr
  unfold faceR
  split
  ·exact turned_ok hr
  ·exact ⟨hr, rfl, rfl⟩
 have key : ∀ (rs : List api_Row) (S : Nat), S ≤ 200 → chkR (S : Int) rs = 0 → okF S (rs.map faceR) := by
  intro rs
  induction rs with
  | nil => intro S hS _; exact ⟨hS, fun i h => absurd h (by simp)⟩
  | cons r rs ih =>
   intro S hS hc
   obtain ⟨a1, a2, a3⟩ := chkR_cons.1 hc
   obtain ⟨b1, b2, b3⟩ := hface r a1
   obtain ⟨c1, c2, c3, c4⟩ := allS_ok b1
   have u1 := smN_used c2
   have m1 := smN_made c2
   have hm : ((smN mN (faceR r) : Nat) : Int) = sm madeS r.Cells := by omega
   have ih := ih (smN mN (faceR r)) (by omega) (by rw [hm]; exact a3)
   refine ⟨hS, fun i hi => ?_⟩
   cases i with
   | zero =>
    simp only [List.map_cons, List.getElem_cons_zero]
    refine ⟨c2, c1, by omega, ?_⟩
    simp only [nR, if_true]; omega
   | succ i =>
    have hi' : i < (rs.map faceR).length := by simpa using hi
    have := ih.2 i hi'
    simp only [List.map_cons, List.getElem_cons_succ]
    refine ⟨this.1, this.2.1, this.2.2.1, ?_⟩
    rw [this.2.2.2]
    unfold nR
    by_cases e : i = 0
    ·subst e; simp
    ·obtain ⟨m, rfl⟩ : ∃ m, i = m + 1 := ⟨i - 1, by omega⟩
     simp
 have e : ((c.Start.toNat : Nat) : Int) = c.Start := by omega
 exact ⟨key c.Rows c.Start.toNat (by omega) (by rw [e]; exact h4), h1, e⟩
theorem workC_eq {c : api_Chart} (hk : chk c = 0) : workC c = stC c.Start.toNat (c.Rows.map faceR) (c.Rows.map faceR).length := by
 have e := (okF_of hk).2.2
 unfold workC stC
 rw [List.take_length, e]
theorem zeroL_succ (i : Nat) : zeroL (i + 1) = zeroL i ++ [⟨0, (i : Int), [], false⟩] := by simp [zeroL, List.range_succ]
def pieceOf (z : Wk × List Int) : loops_piece := ⟨z.1.L, z.2, z.1.B, z.1.C, (z.1.u : Int)⟩
theorem of_eq (c : api_Chart) (hw : wfR c.Rows) : F_loops_of c = some (if chk c = 0 then (pieceOf (workC c), 0) else (⟨[], [], [], [], 0⟩, chk c)) := by
 unfold F_loops_of
 rw [chart_check_eq c hw, Option.bind_some]
 by_cases hk : chk c = 0
 ·rw [if_pos hk, hk]
  simp only [show ((0 : Int) != 0) = false from rfl, Bool.false_eq_true, if_false]
  obtain ⟨hf, hl, hs⟩ := okF_of hk
  rw [workC_eq hk]
  generalize hS : c.Start.toNat = S at *
  generalize hfs : c.Rows.map faceR = fs at *
  have hfl : fs.length = c.Rows.length := by rw [← hfs, List.length_map]
  have k1 : whileO (loops_of_l1 c) (0, ([] : List api_Loop)) = some (zeroL S) := by
   refine loop_sq (fun i => ((i : Int), zeroL i)) S (by simp [zeroL]) ?_ ?_
   ·intro i hi
    unfold loops_of_l1
    simp only [dT (show (i : Int) < c.Start by omega), if_true]
    have := hf.1
    rw [appO_of (by simp [zeroL]; omega), Option.bind_some, zeroL_succ, w64_succ (by omega)]
   ·unfold loops_of_l1
    simp only [dF (show ¬ (S : Int) < c.Start by omega), Bool.false_eq_true, if_false]
  have k3 : whileO (loops_of_l3 c) (0, zeroL S, ([0, c.Start] : List Int), ([] : List Int), ([] : List (Int × Int)), 0) =
   some ((stC S fs fs.length).1.L, (stC S fs fs.length).2, (stC S fs fs.length).1.B, (stC S fs fs.length).1.C, ((stC S fs fs.length).1.u : Int)) := by
   refine loop_sq (fun k => ((k : Int), (stC S fs k).1.L, (stC S fs k).2, (stC S fs k).1.B, (stC S fs k).1.C, ((stC S fs k).1.u : Int))) fs.length (by simp [stC, rowsW, hs]) ?_ ?_
   ·intro k hk'
    have hk2 : k < c.Rows.length := by omega
    have hfk : fs[k] = faceR c.Rows[k] := by simp [← hfs]
    have hrs := (stC_all hf (fun _ _ _ => True) trivial (fun _ _ _ _ _ _ _ => trivial) (fun _ _ _ _ _ => trivial) k (by omega)).2.2
    unfold loops_of_l3
    simp only [dT (show (k : Int) < (c.Rows.length : Int) by omega), if_true]
    rw [face_eq hw hk hk2, Option.bind_some, ← hfk, row_loop hf (by omega) hk' 0 _]
    simp only [Option.bind_some]
    rw [appO_of (by rw [hrs]; simp; omega), w64_succ (by omega)]
    simp only [Option.bind_some]
    rw [stC_succ hk']
   ·unfold loops_of_l3
    simp only [dF (show ¬ (fs.length : Int) < (c.Rows.length : Int) by omega), Bool.false_eq_true, if_false]
  rw [k1]
  simp only [Option.bind_some]
  rw [k3]
  rfl
 ·rw [if_neg hk, nT hk, if_pos rfl]
noncomputable def F_raddleref25_Great (p0 : (List api_Stitch)) : Option Bool :=
 Option.bind (α := Bool) (
  if decide (60 < (p0.length : Int)) then
   if decide ((p0.length : Int) ≤ 200) then
    some true
   else
    some (decide (300 < (p0.length : Int)))
  else
   some (decide (300 < (p0.length : Int)))) fun o4 =>
 some o4
theorem c_raddleref25_Great (E : Nat → Prop) (w0 : World) (p0 : (List api_Stitch)) (v0 : Value) (r : Bool) (h : F_raddleref25_Great p0 = some r) (S : St0 E [] w0 w0 [] [fRep (rL r_api_Stitch) (v0) p0]) :
 Calls Try.prog 32 #[v0] w0 (Ret (X := Unit) E [] w0 (fun _ => .bool r) (fun _ => []) (fun _ => [])) := by
 unfold F_raddleref25_Great at h
 obtain ⟨a5, a6, _, rfl, _⟩ := S.know (i := 0) (e := fRep (rL r_api_Stitch) (v0) p0) rfl
 refine sEnter (args := [.slice a5 p0.length a6]) 16 Try.func32 rfl rfl (by simp) S (fun a S => ?_)
 refine sSeq (fun K3 a7 => sRegion (sN S fun a S => ?_))
 refine lT (a7 _ _ ?_)
 obtain ⟨t5, h, g6⟩ := bS h
 refine sCut (fun a w => ∃ o4, o4 = t5 ∧ St [] E [] w0 16 a w [(2, .bool o4)] [] []) ?_ (fun a w hI => ?_)
 rotate_left
 ·obtain ⟨o4, rfl, S⟩ := hI
  have h := g6
  try dsimp only at h
  obtain rfl := tS h
  exact wp_ret (sRet (.bool o4) S (rsl1 rfl (rvT (t := 2) (v := .bool o4) S rfl)) ⟨(), rfl, S.mem.sel [] [] (by decide) rfl rfl⟩)
 refine sRegion (sM S fun a S => ?_)
 refine sLen S (wN rfl) rfl Try.underlying62 rfl rfl (lb rfl) fun a S => ?_
 refine sBin _ S (wN rfl) rfl rfl rfl (bGt _ _ _ _ .i64 (p0.length : Int) 60) rfl (lb rfl) fun a S => ?_
 refine sM S fun a S => ?_
 rcases iS h with ⟨a0, h⟩ | ⟨a0, h⟩
 rotate_left
 ·refine sSkN 3 3 true 6 S rfl rfl a0 rfl fun a S => ?_
  refine sPickF (.bool false) S (wN rfl) rfl rfl a0 rfl rfl (lb rfl) fun a S => ?_
  refine sM S fun a S => ?_
  refine sMove (.slice a5 p0.length a6) S (wG 8 false 11 rfl rfl rfl rfl) (.inl rfl) rfl rfl (lb rfl) fun a S => ?_
  refine sLen S (wG 8 false 11 rfl rfl rfl rfl) rfl Try.underlying62 rfl rfl (lb rfl) fun a S => ?_
  refine sBin _ S (wG 8 false 11 rfl rfl rfl rfl) rfl rfl rfl (bGt _ _ _ _ .i64 (p0.length : Int) 300) rfl (lb rfl) fun a S => ?_
  refine sPickF (.bool (decide (300 < (p0.length : Int)))) S (wN rfl) rfl rfl rfl rfl rfl (lb rfl) fun a S => ?_
  refine sN S fun a S => ?_
  exact lT (⟨decide (300 < (p0.length : Int)), Option.some.inj h, S.fix [] [] (by decide) rfl rfl rfl⟩)
 refine sMove (.slice a5 p0.length a6) S (wG 3 true 6 rfl rfl rfl a0) (.inl rfl) rfl rfl (lb rfl) fun a S => ?_
 refine sLen S (wG 3 true 6 rfl rfl rfl a0) rfl Try.underlying62 rfl rfl (lb rfl) fun a S => ?_
 refine sBin _ S (wG 3 true 6 rfl rfl rfl a0) rfl rfl rfl (bLe _ _ _ _ .i64 (p0.length : Int) 200) rfl (lb rfl) fun a S => ?_
 refine sPickT (.bool (decide ((p0.length : Int) ≤ 200))) S (wN rfl) rfl rfl a0 rfl rfl (lb rfl) fun a S => ?_
 refine sM S fun a S => ?_
 rcases iS h with ⟨a4, h⟩ | ⟨a4, h⟩
 ·refine sSkN 3 8 false 11 S rfl rfl a4 rfl fun a S => ?_
  refine sPickT (.bool true) S (wN rfl) rfl rfl a4 rfl rfl (lb rfl) fun a S => ?_
  refine sN S fun a S => ?_
  exact lT (⟨true, Option.some.inj h, S.fix [] [] (by decide) rfl rfl rfl⟩)
 refine sMove (.slice a5 p0.length a6) S (wG 8 false 11 rfl rfl rfl a4) (.inl rfl) rfl rfl (lb rfl) fun a S => ?_
 refine sLen S (wG 8 false 11 rfl rfl rfl a4) rfl Try.underlying62 rfl rfl (lb rfl) fun a S => ?_
 refine sBin _ S (wG 8 false 11 rfl rfl rfl a4) rfl rfl rfl (bGt _ _ _ _ .i64 (p0.length : Int) 300) rfl (lb rfl) fun a S => ?_
 refine sPickF (.bool (decide (300 < (p0.length : Int)))) S (wN rfl) rfl rfl a4 rfl rfl (lb rfl) fun a S => ?_
 refine sN S fun a S => ?_
 exact lT (⟨decide (300 < (p0.length : Int)), Option.some.inj h, S.fix [] [] (by decide) rfl rfl rfl⟩)
end Go.Proofs.Yticjoiolfibmlaa
