/- LoopsFlips: walks, tables, laws. -/
import Derived.Test.YticjoiolfibmlaaProg
import Derived.Test.YticjoiolfibmlaaRows
import Derived.Test.YticjoiolfibmlaaMLoopsFlips5
set_option linter.unusedVariables false
set_option linter.unusedSimpArgs false
set_option maxHeartbeats 4000000
set_option maxRecDepth 100000
namespace Go.Proofs.Yticjoiolfibmlaa
open Go.RowKit
def anc_raddlelaw27_LoopsFlips_0 : List (List Nat) := [[], [], [0, 1], [0, 1, 2], [], [], [], [5, 6], [5, 6, 7], [4, 5, 6, 7, 8], [4, 5, 6, 7, 8, 9], [], [], [0, 1, 2, 3, 11, 12], [0, 1, 2, 3, 4, 5, 6, 7, 8, 9, 10, 11, 12, 13]]
def anc_raddlelaw27_LoopsFlips_1 : List (List Nat) := [[], [0], [], [0, 1, 2], [0, 1, 2, 3], [0, 1, 2, 3, 4], [0, 1, 2, 3, 4, 5], [0, 1, 2, 3, 4, 5, 6], [0, 1, 2, 3, 4, 5, 6, 7], [0, 1, 2, 3, 4, 5, 6], [0, 1, 2, 3, 4, 5, 6, 7, 8, 9], [0, 1, 2, 3, 4, 5, 6, 7, 8, 9, 10], [0, 1, 2, 3, 4, 5, 6], [0, 1, 2, 3, 4, 5, 6, 7, 8, 9, 10, 11, 12], [0, 1, 2, 3, 4, 5, 6, 7, 8, 9, 10, 11, 12, 13], [0, 1, 2, 3, 4, 5, 6, 7, 8, 9, 10, 11, 12, 13, 14], [0, 1, 2, 3, 4, 5, 6, 7, 8, 9, 10, 11, 12, 13, 14, 15], [0, 1, 2, 3, 4, 5, 6, 7, 8, 9, 10, 11, 12, 13, 14, 15, 16], [0, 1, 2, 3, 4, 5, 6, 7, 8, 9, 10, 11, 12, 13, 14, 15], [0, 1, 2, 3, 4, 5, 6, 7, 8, 9, 10, 11, 12, 13, 14, 15], [0, 1, 2, 3, 4, 5, 6, 7, 8, 9, 10, 11, 12, 13, 14, 15, 19], [0, 1, 2, 3, 4, 5, 6, 7, 8, 9, 10, 11, 12, 13, 14, 15], [0, 1, 2, 3, 4, 5, 6, 7, 8, 9, 10, 11, 12, 13, 14, 15, 19, 20, 21], [0, 1, 2, 3, 4, 5, 6, 7, 8, 9, 10, 11, 12, 13, 14, 15, 19, 20, 21, 22], [0, 1, 2, 3, 4, 5, 6, 7, 8, 9, 10, 11, 12, 13, 14, 15, 18, 19, 20, 21, 22, 23], [0, 1, 2, 3, 4, 5, 6, 7, 8, 9, 10, 11, 12, 13, 14, 15, 18, 19, 20, 21, 22, 23, 24], [0, 1, 2, 3, 4, 5, 6, 7, 8, 9, 10, 11, 12, 13, 14, 15, 16, 17, 18, 19, 20, 21, 22, 23, 24, 25], [0, 1, 2, 3, 4, 5, 6, 7, 8, 9, 10, 11, 12, 13, 14, 15, 16, 17, 18, 19, 20, 21, 22, 23, 24, 25, 26], [0, 1, 2, 3, 4, 5, 6, 7, 8, 9, 10, 11, 12, 13, 14, 15, 16, 17, 18, 19, 20, 21, 22, 23, 24, 25, 26, 27]]
def anc_raddlelaw27_LoopsFlips_2 : List (List Nat) := [[], [0], [], [2], [2, 3], [0, 1, 2, 3, 4], [0, 1, 2, 3, 4, 5], [0, 1, 2, 3, 4, 5, 6], [], [8], [0, 1, 2, 3, 4, 5, 6, 7, 8, 9], [0, 1, 2, 3, 4, 5, 6, 7, 8, 9, 10], [0, 1, 2, 3, 4, 5, 6, 7, 8, 9, 10, 11], [0, 1, 2, 3, 4, 5, 6, 7, 8, 9, 10, 11, 12]]
def anc_raddlelaw27_LoopsFlips_3 : List (List Nat) := [[], [], [0, 1], [0, 1, 2], [0, 1, 2, 3], [], [], [5, 6], [5, 6, 7], [5, 6, 7, 8], [0, 1, 2, 3, 4], [0, 1, 2, 3, 4, 5, 6, 7, 8, 9, 10]]
def anc_raddlelaw27_LoopsFlips_4 : List (List Nat) := [[], [0], [0, 1], [0, 1], [0, 1, 2, 3], [0, 1, 2, 3, 4], [0, 1], [0, 1], [0, 1, 6, 7], [0, 1, 6, 7, 8], [0, 1], [0, 1], [0, 1, 10, 11], [0, 1, 10, 11, 12], [0, 1, 6, 7, 8, 9, 10, 11, 12, 13], [0, 1, 2, 3, 4, 5, 6, 7, 8, 9, 10, 11, 12, 13, 14], [0, 1, 2, 3, 4, 5, 6, 7, 8, 9, 10, 11, 12, 13, 14, 15], [0, 1, 2, 3, 4, 5, 6, 7, 8, 9, 10, 11, 12, 13, 14, 15, 16]]
noncomputable def raddlelaw27_LoopsFlips_l1 (a9 : (Int × Int × Int)) : (List Int × Int) → Option ((List Int × Int) ⊕ List Int) := fun s0 => match s0 with
 | (a8, a0) =>
  if decide (a0 < a9.2.1) then
   (appO a8 ([w64 ((w64 ((w64 (a9.1 + a9.2.1)) - 1)) - a0)] : List Int)).bind fun aa =>
   some (.inl (aa, w64 (a0 + 1)))
  else
   some (.inr a8)
noncomputable def raddlelaw27_LoopsFlips_l2 (p0 : api_Chart) (ab : ((List api_Loop) × Int)) : (List Int × Int) → Option ((List Int × Int) ⊕ (Bool ⊕ (List Int))) := fun s0 => match s0 with
 | (aa, a8) =>
  if decide (a8 ≤ (p0.Rows.length : Int)) then
   Option.bind (α := List Int ⊕ Bool) (
    (F_loops_Row p0 a8).bind fun a0 =>
    Option.bind (α := Bool) (
     if a0.2.2 != 0 then
      some true
     else
      if decide (a0.1 < 0) then
       some true
      else
       if decide (a0.2.1 < a0.1) then
        some true
       else
        some (decide ((ab.1.length : Int) < a0.2.1))) fun ac =>
    if ac then
     some (.inr false)
    else
     (whileO (raddlelaw27_LoopsFlips_l1 a0) (aa, a0.1)).bind fun a9 =>
      some (.inl a9)) fun z0 => match z0 with
    | .inl ae =>
     some (.inl (ae, w64 (a8 + 1)))
    | .inr z =>
     some (.inr (.inl z))
  else
   some (.inr (.inr aa))
noncomputable def raddlelaw27_LoopsFlips_l3 (a9 : api_Loop) (aa : Int) (ag : List Int) (ab : api_Loop) : Int → Option (Int ⊕ (Bool ⊕ Unit)) := fun s0 => match s0 with
 | a0 =>
  if decide (a0 < (a9.Parents.length : Int)) then
   Option.bind (α := Bool) (
    (idxO a9.Parents a0).bind fun a8 =>
    if decide (a8 < 0) then
     some true
    else
     if decide (aa ≤ a8) then
      some true
     else
      (idxO ag a8).bind fun ac =>
      (F_raddleref27_Has ab.Parents ac).bind fun ae =>
      some (!ae)) fun af =>
   if af then
    some (.inr (.inl false))
   else
    some (.inl (w64 (a0 + 1)))
  else
   some (.inr (.inr ()))
noncomputable def raddlelaw27_LoopsFlips_l4 (ah : ((List api_Loop) × Int)) (ai : List Int) (aj : ((List api_Loop) × Int)) (p0 : api_Chart) : Int → Option (Int ⊕ (Bool ⊕ Unit)) := fun s0 => match s0 with
 | a8 =>
  if decide (a8 < (ah.1.length : Int)) then
   Option.bind (α := Unit ⊕ Bool) (
    (idxO ah.1 a8).bind fun a0 =>
    (idxO ai a8).bind fun ab =>
    (idxO aj.1 ab).bind fun a9 =>
    Option.bind (α := Bool) (
     if a0.Row != a9.Row then
      some true
     else
      some ((a0.Parents.length : Int) != (a9.Parents.length : Int))) fun ac =>
    if ac then
     some (.inr false)
    else
     Option.bind (α := Unit ⊕ Bool) (
      (whileO (raddlelaw27_LoopsFlips_l3 a0 a8 ai a9) 0).bind fun z0 => match z0 with
       | .inl z =>
        some (.inr z)
       | .inr _ =>
        some (.inl ())) fun z0 => match z0 with
      | .inl _ =>
       if a0.Row == 0 then
        some (.inl ())
       else
        (idxO p0.Rows (w64 (a0.Row - 1))).bind fun ae =>
        (F_raddleref26_Seen ae).bind fun af =>
        (idxO af a0.Cell).bind fun aa =>
        Option.bind (α := Bool) (
         if aa.Kind != 8 then
          if aa.Kind == 2 then
           some ((a0.Purl == a9.Purl) != true)
          else
           some ((a0.Purl == a9.Purl) != (aa.Kind == 9))
         else
          some false) fun ag =>
        if ag then
         some (.inr false)
        else
         some (.inl ())
      | .inr z =>
       some (.inr z)) fun z0 => match z0 with
    | .inl _ =>
     some (.inl (w64 (a8 + 1)))
    | .inr z =>
     some (.inr (.inl z))
  else
   some (.inr (.inr ()))
noncomputable def raddlelaw27_LoopsFlips_l5 (af : ((List (Int × Int)) × Int)) (ag : List Int) (a8 : (Int × Int)) : (Bool × Int) → Option ((Bool × Int) ⊕ Bool) := fun s0 => match s0 with
 | (a9, a0) =>
  if decide (a0 < (af.1.length : Int)) then
   Option.bind (α := Bool) (
    if a9 then
     some true
    else
     (idxO af.1 a0).bind fun aa =>
     (idxO ag a8.2).bind fun ab =>
     (idxO ag a8.1).bind fun ac =>
     some ((aa.1 == ab) && ((aa.2 == ac) && true))) fun ae =>
   some (.inl (ae, w64 (a0 + 1)))
  else
   some (.inr a9)
noncomputable def raddlelaw27_LoopsFlips_l6 (ae : ((List (Int × Int)) × Int)) (a9 : List Int) (af : ((List (Int × Int)) × Int)) : Int → Option (Int ⊕ (Bool ⊕ Unit)) := fun s0 => match s0 with
 | a8 =>
  if decide (a8 < (ae.1.length : Int)) then
   Option.bind (α := Unit ⊕ Bool) (
    (idxO ae.1 a8).bind fun a0 =>
    Option.bind (α := Bool) (
     if decide (a0.1 < 0) then
      some true
     else
      if decide (a0.2 < 0) then
       some true
      else
       if decide ((a9.length : Int) ≤ a0.1) then
        some true
       else
        some (decide ((a9.length : Int) ≤ a0.2))) fun aa =>
    if aa then
     some (.inr false)
    else
     Option.bind (α := Bool) (
      (whileO (raddlelaw27_LoopsFlips_l5 af a9 a0) (false, 0)).bind fun ab =>
       some ab) fun ac =>
     if !ac then
      some (.inr false)
     else
      some (.inl ())) fun z0 => match z0 with
    | .inl _ =>
     some (.inl (w64 (a8 + 1)))
    | .inr z =>
     some (.inr (.inl z))
  else
   some (.inr (.inr ()))
noncomputable def F_raddlelaw27_LoopsFlips (p0 : api_Chart) : Option Bool :=
 (F_raddlelaw27_alive).bind fun r8 =>
 Option.bind (α := Bool) (
  (F_raddleref26_Great p0).bind fun ae =>
  if ae then
   some true
  else
   (F_raddleref26_Check p0).bind fun af =>
   if af != 0 then
    some true
   else
    some (!r8)) fun ag =>
 if ag then
  some r8
 else
  (F_chart_Flip p0).bind fun a9 =>
  (F_loops_Of p0).bind fun a0 =>
  (F_loops_Of a9.1).bind fun aa =>
  (F_loops_Crossings p0).bind fun a8 =>
  (F_loops_Crossings a9.1).bind fun ab =>
  Option.bind (α := Bool) (
   if a9.2 != 0 then
    some true
   else
    if a0.2 != 0 then
     some true
    else
     if aa.2 != 0 then
      some true
     else
      if a8.2 != 0 then
       some true
      else
       if ab.2 != 0 then
        some true
       else
        if (a0.1.length : Int) != (aa.1.length : Int) then
         some true
        else
         if (a8.1.length : Int) != (ab.1.length : Int) then
          some true
         else
          some (decide (3000 < (a8.1.length : Int)))) fun ah =>
  if ah then
   some (decide (3000 < (a8.1.length : Int)))
  else
   Option.bind (α := List Int ⊕ Bool) (
    (whileO (raddlelaw27_LoopsFlips_l2 p0 a0) (([] : List Int), 0)).bind fun z0 => match z0 with
     | .inl z =>
      some (.inr z)
     | .inr ai =>
      some (.inl ai)) fun z0 => match z0 with
    | .inl ac =>
     if (ac.length : Int) != (a0.1.length : Int) then
      some false
     else
      Option.bind (α := Unit ⊕ Bool) (
       (whileO (raddlelaw27_LoopsFlips_l4 a0 ac aa p0) 0).bind fun z0 => match z0 with
        | .inl z =>
         some (.inr z)
        | .inr _ =>
         some (.inl ())) fun z0 => match z0 with
       | .inl _ =>
        Option.bind (α := Unit ⊕ Bool) (
         (whileO (raddlelaw27_LoopsFlips_l6 a8 ac ab) 0).bind fun z0 => match z0 with
          | .inl z =>
           some (.inr z)
          | .inr _ =>
           some (.inl ())) fun z0 => match z0 with
         | .inl _ =>
          some r8
         | .inr z =>
          some z
       | .inr z =>
        some z
    | .inr z =>
     some z
theorem c_raddlelaw27_LoopsFlips (E : Nat → Prop) (w0 : World) (p0 : api_Chart) (v0 : Value) (r : Bool) (h : F_raddlelaw27_LoopsFlips p0 = some r) (S : St0 E [] w0 w0 [] [fRep r_api_Chart (v0) p0]) :
 Calls Try.prog 6 #[v0] w0 (Ret (X := Unit) E [] w0 (fun _ => .bool r) (fun _ => []) (fun _ => [])) := by
 unfold F_raddlelaw27_LoopsFlips at h
 obtain ⟨u1, rfl, fS⟩ := S.know (i := 0) (e := fRep r_api_Chart (v0) p0) rfl
 have S := S.learn (fRep (rL r_api_Row) u1 p0.Rows) fS
 obtain ⟨aC, aG, _, rfl, _⟩ := fS
 refine sEnter (args := [.agg #[iv p0.Start, .slice aC p0.Rows.length aG]]) 318 Try.func6 rfl rfl (by simp) S (fun a S => ?_)
 refine sSeq (fun K5 fX => sRegion (sBox (v := .agg #[iv p0.Start, .slice aC p0.Rows.length aG]) S (wN rfl) rfl rfl [iv p0.Start, .slice aC p0.Rows.length aG] rfl rfl (lb rfl) fun a b6 w S => ?_))
 refine sN S fun a S => ?_
 refine lT (fX _ _ (sSeq (fun K7 fZ => sRegion ?_)))
 obtain ⟨r8, g0, h⟩ := bS h
 have S1 := S.mem
 refine sCq [] (.bool r8) S callee20 (S1.quiet [] rfl) (fun E1 w1 S1 => c_raddlelaw27_alive E1 w1  r8 g0 S1) fun a w S => ?_
 refine sN S fun a S => ?_
 refine lT (fZ _ _ (sSeq (fun hU eL => ?_)))
 obtain ⟨ga, h, gb⟩ := bS h
 refine sCut (fun a w => ∃ eM, eM = ga ∧ St [] E [] w0 318 a w [(1, .pointer (some ⟨b6, 0, none⟩)), (3, .bool r8), (41, .bool eM)] [eBox b6 24 [iv p0.Start, .slice aC p0.Rows.length aG]] [fRep (rL r_api_Row) (.slice aC p0.Rows.length aG) p0.Rows]) ?_ (fun a w hI => ?_)
 ·refine sRegion (sLoadN (p := b6) (off := 0) (T := 24) (vs := [iv p0.Start, .slice aC p0.Rows.length aG]) 0 [iv p0.Start, .slice aC p0.Rows.length aG] S (wN rfl) rfl rfl rfl rfl rfl rfl rfl (lb rfl) fun a S => ?_)
  obtain ⟨fT, eN, h⟩ := bS h
  have S1 := S.mem
  refine sCq [.agg #[iv p0.Start, .slice aC p0.Rows.length aG]] (.bool fT) S callee10 (S1.quiet [1] rfl) (fun E1 w1 S1 => c_raddleref26_Great E1 w1 p0 (.agg #[iv p0.Start, .slice aC p0.Rows.length aG]) fT eN S1) fun a w S => ?_
  refine sM S fun a S => ?_
  rcases iS h with ⟨bz, h⟩ | ⟨bz, h⟩
  ·refine sSkN 3 2 false 33 S rfl rfl bz rfl fun a S => ?_
   refine sPickT (.bool true) S (wN rfl) rfl rfl bz rfl rfl (lb rfl) fun a S => ?_
   refine sM S fun a S => ?_
   refine sSkN 2 7 false 38 S rfl rfl rfl rfl fun a S => ?_
   refine sPickT (.bool true) S (wN rfl) rfl rfl rfl rfl rfl (lb rfl) fun a S => ?_
   exact lT (⟨true, Option.some.inj h, S.fix [0] [0] (by decide) rfl rfl rfl⟩)
  refine sLoadN (p := b6) (off := 0) (T := 24) (vs := [iv p0.Start, .slice aC p0.Rows.length aG]) 0 [iv p0.Start, .slice aC p0.Rows.length aG] S (wG 2 false 33 rfl rfl rfl bz) rfl rfl rfl rfl rfl rfl rfl (lb rfl) fun a S => ?_
  obtain ⟨eK, eO, h⟩ := bS h
  have S1 := S.mem
  refine sCallQ (X := Unit) (f := 21) (vs := [.agg #[iv p0.Start, .slice aC p0.Rows.length aG]]) (val := fun _ => iv eK) S (wG 2 false 33 rfl rfl rfl bz) rfl callee21 rfl (S1.quiet [1] rfl) (fun E1 w1 S1 => c_raddleref26_Check E1 w1 p0 (.agg #[iv p0.Start, .slice aC p0.Rows.length aG]) eK eO S1) rfl (lb rfl) fun _ a w S => ?_
  refine sBin _ S (wG 2 false 33 rfl rfl rfl bz) rfl rfl rfl (bNe _ _ _ _ .i64 eK 0) rfl (lb rfl) fun a S => ?_
  refine sPickF (.bool (eK != 0)) S (wN rfl) rfl rfl bz rfl rfl (lb rfl) fun a S => ?_
  refine sM S fun a S => ?_
  rcases iS h with ⟨bK, h⟩ | ⟨bK, h⟩
  ·refine sSkN 2 7 false 38 S rfl rfl bK rfl fun a S => ?_
   refine sPickT (.bool true) S (wN rfl) rfl rfl bK rfl rfl (lb rfl) fun a S => ?_
   exact lT (⟨true, Option.some.inj h, S.fix [0] [0] (by decide) rfl rfl rfl⟩)
  refine sMove (.bool r8) S (wG 7 false 38 rfl rfl rfl bK) (.inl rfl) rfl rfl (lb rfl) fun a S => ?_
  refine sNot (b := r8) S (wG 7 false 38 rfl rfl rfl bK) rfl rfl rfl (lb rfl) fun a S => ?_
  refine sPickF (.bool (!r8)) S (wN rfl) rfl rfl bK rfl rfl (lb rfl) fun a S => ?_
  exact lT (⟨!r8, Option.some.inj h, S.fix [0] [0] (by decide) rfl rfl rfl⟩)
 obtain ⟨eM, rfl, S⟩ := hI
 have h := gb
 try dsimp only at h
 rcases iS h with ⟨cC, h⟩ | ⟨cC, h⟩
 ·refine sCondT S rfl cC ?_
  refine sSeq (fun hZ eP => sRegion (sM S fun a S => ?_))
  refine sN S fun a S => ?_
  refine lT (eP _ _ ?_)
  obtain rfl := tS h
  exact wp_ret (rThen (sRet (.bool r8) S (rsl1 rfl (rvT (t := 2) (v := .bool r8) S rfl)) ⟨(), rfl, S.mem.sel [] [] (by decide) rfl rfl⟩))
 refine sCondF S rfl cC ?_
 refine wp_skip (leafT (eL _ _ ?_))
 refine sSeq (fun i3 eQ => sRegion (sLoadN (p := b6) (off := 0) (T := 24) (vs := [iv p0.Start, .slice aC p0.Rows.length aG]) 0 [iv p0.Start, .slice aC p0.Rows.length aG] S (wN rfl) rfl rfl rfl rfl rfl rfl rfl (lb rfl) fun a S => ?_))
 obtain ⟨aP, eR, h⟩ := bS h
 have S := S.learn (fRep r_api_Chart (.agg #[iv p0.Start, .slice aC p0.Rows.length aG]) p0) ⟨_, rfl, S.mem.know (i := 0) (e := fRep (rL r_api_Row) (.slice aC p0.Rows.length aG) p0.Rows) rfl⟩
 refine sCall (X := Value) (f := 26) (vs := [.agg #[iv p0.Start, .slice aC p0.Rows.length aG]]) (val := c_chart_Flip_val aP) (B' := fun _ => []) (D' := c_chart_Flip_D aP) [] [eBox b6 24 [iv p0.Start, .slice aC p0.Rows.length aG]] [fRep r_api_Chart (.agg #[iv p0.Start, .slice aC p0.Rows.length aG]) p0] [0] [0] S (wN rfl) rfl callee26 rfl (by decide) rfl rfl (fun E1 w1 S1 => c_chart_Flip E1 w1 p0 (.agg #[iv p0.Start, .slice aC p0.Rows.length aG]) aP eR S1) rfl (lb rfl) fun gc a w S => ?_
 obtain ⟨gd, rfl, d1⟩ := S.mem.know (i := 0) (e := fRep r_api_Chart (gc) aP.1) rfl
 have S := S.learn (fRep (rL r_api_Row) gd aP.1.Rows) d1
 obtain ⟨aQ, aR, _, rfl, _⟩ := d1
 refine sM S fun a S => ?_
 refine sExtract (vs := [.agg #[iv aP.1.Start, .slice aQ aP.1.Rows.length aR], iv aP.2]) (.agg #[iv aP.1.Start, .slice aQ aP.1.Rows.length aR]) S (wN rfl) rfl rfl rfl rfl (lb rfl) fun a S => ?_
 refine sExtract (vs := [.agg #[iv aP.1.Start, .slice aQ aP.1.Rows.length aR], iv aP.2]) (iv aP.2) S (wN rfl) rfl rfl rfl rfl (lb rfl) fun a S => ?_
 refine sAlloc (.agg #[iv 0, .slice none 0 0]) S (wN rfl) rfl rfl [iv 0, .slice none 0 0] rfl rfl (lb rfl) fun a cD w S => ?_
 refine sStore (p := cD) (off := 0) (T := 24) (vs := [iv 0, .slice none 0 0]) (v := .agg #[iv aP.1.Start, .slice aQ aP.1.Rows.length aR]) 0 [iv aP.1.Start, .slice aQ aP.1.Rows.length aR] S (wN rfl) rfl rfl rfl rfl rfl rfl rfl (by simp) rfl fun a w S => ?_
 refine sN S fun a S => ?_
 refine lT (eQ _ _ (sSeq (fun i4 eS => sRegion (sLoadN (p := b6) (off := 0) (T := 24) (vs := [iv p0.Start, .slice aC p0.Rows.length aG]) 1 [iv p0.Start, .slice aC p0.Rows.length aG] S (wN rfl) rfl rfl rfl rfl rfl rfl rfl (lb rfl) fun a S => ?_))))
 obtain ⟨aH, eT, h⟩ := bS h
 refine sCall (X := Value) (f := 11) (vs := [.agg #[iv p0.Start, .slice aC p0.Rows.length aG]]) (val := c_loops_Of_val aH) (B' := fun _ => []) (D' := c_loops_Of_D aH) [] [eBox cD 24 [iv aP.1.Start, .slice aQ aP.1.Rows.length aR], eBox b6 24 [iv p0.Start, .slice aC p0.Rows.length aG]] [fRep r_api_Chart (.agg #[iv p0.Start, .slice aC p0.Rows.length aG]) p0] [0, 1] [2] S (wN rfl) rfl callee11 rfl (by decide) rfl rfl (fun E1 w1 S1 => c_loops_Of E1 w1 p0 (.agg #[iv p0.Start, .slice aC p0.Rows.length aG]) aH eT S1) rfl (lb rfl) fun ge a w S => ?_
 obtain ⟨au, av, _, rfl, _⟩ := S.mem.know (i := 0) (e := fRep (rL r_api_Loop) (ge) aH.1) rfl
 refine sM S fun a S => ?_
 refine sExtract (vs := [.slice au aH.1.length av, iv aH.2]) (.slice au aH.1.length av) S (wN rfl) rfl rfl rfl rfl (lb rfl) fun a S => ?_
 refine sExtract (vs := [.slice au aH.1.length av, iv aH.2]) (iv aH.2) S (wN rfl) rfl rfl rfl rfl (lb rfl) fun a S => ?_
 refine sN S fun a S => ?_
 refine sN S fun a S => ?_
 refine lT (eS _ _ (sSeq (fun i5 eU => sRegion (sLoadN (p := cD) (off := 0) (T := 24) (vs := [iv aP.1.Start, .slice aQ aP.1.Rows.length aR]) 0 [iv aP.1.Start, .slice aQ aP.1.Rows.length aR] S (wN rfl) rfl rfl rfl rfl rfl rfl rfl (lb rfl) fun a S => ?_))))
 obtain ⟨aI, eV, h⟩ := bS h
 refine sCall (X := Value) (f := 11) (vs := [.agg #[iv aP.1.Start, .slice aQ aP.1.Rows.length aR]]) (val := c_loops_Of_val aI) (B' := fun _ => []) (D' := c_loops_Of_D aI) [] [eBox cD 24 [iv aP.1.Start, .slice aQ aP.1.Rows.length aR], eBox b6 24 [iv p0.Start, .slice aC p0.Rows.length aG]] [fRep r_api_Chart (.agg #[iv aP.1.Start, .slice aQ aP.1.Rows.length aR]) aP.1] [0, 1] [2] S (wN rfl) rfl callee11 rfl (by decide) rfl rfl (fun E1 w1 S1 => c_loops_Of E1 w1 aP.1 (.agg #[iv aP.1.Start, .slice aQ aP.1.Rows.length aR]) aI eV S1) rfl (lb rfl) fun gg a w S => ?_
 obtain ⟨ax, ay, _, rfl, _⟩ := S.mem.know (i := 0) (e := fRep (rL r_api_Loop) (gg) aI.1) rfl
 refine sM S fun a S => ?_
 refine sExtract (vs := [.slice ax aI.1.length ay, iv aI.2]) (.slice ax aI.1.length ay) S (wN rfl) rfl rfl rfl rfl (lb rfl) fun a S => ?_
 refine sExtract (vs := [.slice ax aI.1.length ay, iv aI.2]) (iv aI.2) S (wN rfl) rfl rfl rfl rfl (lb rfl) fun a S => ?_
 refine sN S fun a S => ?_
 refine sN S fun a S => ?_
 refine lT (eU _ _ (sSeq (fun i6 eW => sRegion (sLoadN (p := b6) (off := 0) (T := 24) (vs := [iv p0.Start, .slice aC p0.Rows.length aG]) 1 [iv p0.Start, .slice aC p0.Rows.length aG] S (wN rfl) rfl rfl rfl rfl rfl rfl rfl (lb rfl) fun a S => ?_))))
 obtain ⟨ak, eX, h⟩ := bS h
 refine sCall (X := Value) (f := 15) (vs := [.agg #[iv p0.Start, .slice aC p0.Rows.length aG]]) (val := c_loops_Crossings_val ak) (B' := fun _ => []) (D' := c_loops_Crossings_D ak) [] [eBox cD 24 [iv aP.1.Start, .slice aQ aP.1.Rows.length aR], eBox b6 24 [iv p0.Start, .slice aC p0.Rows.length aG]] [fRep r_api_Chart (.agg #[iv p0.Start, .slice aC p0.Rows.length aG]) p0] [0, 1] [4] S (wN rfl) rfl callee15 rfl (by decide) rfl rfl (fun E1 w1 S1 => c_loops_Crossings E1 w1 p0 (.agg #[iv p0.Start, .slice aC p0.Rows.length aG]) ak eX S1) rfl (lb rfl) fun gh a w S => ?_
 obtain ⟨ae, af, _, rfl, _⟩ := S.mem.know (i := 0) (e := fRep (rL r_A2_Int) (gh) ak.1) rfl
 refine sM S fun a S => ?_
 refine sExtract (vs := [.slice ae ak.1.length af, iv ak.2]) (.slice ae ak.1.length af) S (wN rfl) rfl rfl rfl rfl (lb rfl) fun a S => ?_
 refine sExtract (vs := [.slice ae ak.1.length af, iv ak.2]) (iv ak.2) S (wN rfl) rfl rfl rfl rfl (lb rfl) fun a S => ?_
 refine sN S fun a S => ?_
 refine sN S fun a S => ?_
 refine lT (eW _ _ (sSeq (fun i7 eY => sRegion (sLoadN (p := cD) (off := 0) (T := 24) (vs := [iv aP.1.Start, .slice aQ aP.1.Rows.length aR]) 0 [iv aP.1.Start, .slice aQ aP.1.Rows.length aR] S (wN rfl) rfl rfl rfl rfl rfl rfl rfl (lb rfl) fun a S => ?_))))
 obtain ⟨ap, eZ, h⟩ := bS h
 refine sCall (X := Value) (f := 15) (vs := [.agg #[iv aP.1.Start, .slice aQ aP.1.Rows.length aR]]) (val := c_loops_Crossings_val ap) (B' := fun _ => []) (D' := c_loops_Crossings_D ap) [] [eBox cD 24 [iv aP.1.Start, .slice aQ aP.1.Rows.length aR], eBox b6 24 [iv p0.Start, .slice aC p0.Rows.length aG]] [fRep r_api_Chart (.agg #[iv aP.1.Start, .slice aQ aP.1.Rows.length aR]) aP.1] [0, 1] [4] S (wN rfl) rfl callee15 rfl (by decide) rfl rfl (fun E1 w1 S1 => c_loops_Crossings E1 w1 aP.1 (.agg #[iv aP.1.Start, .slice aQ aP.1.Rows.length aR]) ap eZ S1) rfl (lb rfl) fun gi a w S => ?_
 obtain ⟨ag, ah, _, rfl, _⟩ := S.mem.know (i := 0) (e := fRep (rL r_A2_Int) (gi) ap.1) rfl
 refine sM S fun a S => ?_
 refine sExtract (vs := [.slice ag ap.1.length ah, iv ap.2]) (.slice ag ap.1.length ah) S (wN rfl) rfl rfl rfl rfl (lb rfl) fun a S => ?_
 refine sExtract (vs := [.slice ag ap.1.length ah, iv ap.2]) (iv ap.2) S (wN rfl) rfl rfl rfl rfl (lb rfl) fun a S => ?_
 refine sN S fun a S => ?_
 refine sN S fun a S => ?_
 refine lT (eY _ _ (sSeq (fun i8 f4 => ?_)))
 obtain ⟨gj, h, gk⟩ := bS h
 refine sCut (fun a w => ∃ f5, f5 = gj ∧ St [] E [] w0 318 a w [(1, .pointer (some ⟨b6, 0, none⟩)), (3, .bool r8), (6, .slice au aH.1.length av), (8, .slice ax aI.1.length ay), (10, .slice ae ak.1.length af), (12, .slice ag ap.1.length ah), (104, .bool f5)] [eBox b6 24 [iv p0.Start, .slice aC p0.Rows.length aG]] [fRep (rL r_api_Loop) (.slice au aH.1.length av) aH.1, fRep (rL r_api_Loop) (.slice ax aI.1.length ay) aI.1, fRep (rL r_A2_Int) (.slice ae ak.1.length af) ak.1, fRep (rL r_A2_Int) (.slice ag ap.1.length ah) ap.1, fRep (rL r_api_Row) (.slice aC p0.Rows.length aG) p0.Rows]) ?_ (fun a w hI => ?_)
 ·refine sRegion (sM S fun a S => ?_)
  refine sBin _ S (wN rfl) rfl rfl rfl (bNe _ _ _ _ .i64 aP.2 0) rfl (lb rfl) fun a S => ?_
  refine sM S fun a S => ?_
  rcases iS h with ⟨bL, h⟩ | ⟨bL, h⟩
  ·refine sSkN 2 2 false 70 S rfl rfl bL rfl fun a S => ?_
   refine sPickT (.bool true) S (wN rfl) rfl rfl bL rfl rfl (lb rfl) fun a S => ?_
   refine sM S fun a S => ?_
   refine sSkN 2 6 false 74 S rfl rfl rfl rfl fun a S => ?_
   refine sPickT (.bool true) S (wN rfl) rfl rfl rfl rfl rfl (lb rfl) fun a S => ?_
   refine sM S fun a S => ?_
   refine sSkN 2 10 false 78 S rfl rfl rfl rfl fun a S => ?_
   refine sPickT (.bool true) S (wN rfl) rfl rfl rfl rfl rfl (lb rfl) fun a S => ?_
   refine sM S fun a S => ?_
   refine sSkN 2 14 false 82 S rfl rfl rfl rfl fun a S => ?_
   refine sPickT (.bool true) S (wN rfl) rfl rfl rfl rfl rfl (lb rfl) fun a S => ?_
   refine sM S fun a S => ?_
   refine sSkN 5 18 false 86 S rfl rfl rfl rfl fun a S => ?_
   refine sPickT (.bool true) S (wN rfl) rfl rfl rfl rfl rfl (lb rfl) fun a S => ?_
   refine sM S fun a S => ?_
   refine sSkN 5 25 false 93 S rfl rfl rfl rfl fun a S => ?_
   refine sPickT (.bool true) S (wN rfl) rfl rfl rfl rfl rfl (lb rfl) fun a S => ?_
   refine sM S fun a S => ?_
   refine sSkN 3 32 false 100 S rfl rfl rfl rfl fun a S => ?_
   refine sPickT (.bool true) S (wN rfl) rfl rfl rfl rfl rfl (lb rfl) fun a S => ?_
   exact lT (⟨true, Option.some.inj h, S.fix [1] [3, 2, 1, 0, 7] (by decide) rfl rfl rfl⟩)
  refine sMove (iv aH.2) S (wG 2 false 70 rfl rfl rfl bL) (.inl rfl) rfl rfl (lb rfl) fun a S => ?_
  refine sBin _ S (wG 2 false 70 rfl rfl rfl bL) rfl rfl rfl (bNe _ _ _ _ .i64 aH.2 0) rfl (lb rfl) fun a S => ?_
  refine sPickF (.bool (aH.2 != 0)) S (wN rfl) rfl rfl bL rfl rfl (lb rfl) fun a S => ?_
  refine sM S fun a S => ?_
  rcases iS h with ⟨bM, h⟩ | ⟨bM, h⟩
  ·refine sSkN 2 6 false 74 S rfl rfl bM rfl fun a S => ?_
   refine sPickT (.bool true) S (wN rfl) rfl rfl bM rfl rfl (lb rfl) fun a S => ?_
   refine sM S fun a S => ?_
   refine sSkN 2 10 false 78 S rfl rfl rfl rfl fun a S => ?_
   refine sPickT (.bool true) S (wN rfl) rfl rfl rfl rfl rfl (lb rfl) fun a S => ?_
   refine sM S fun a S => ?_
   refine sSkN 2 14 false 82 S rfl rfl rfl rfl fun a S => ?_
   refine sPickT (.bool true) S (wN rfl) rfl rfl rfl rfl rfl (lb rfl) fun a S => ?_
   refine sM S fun a S => ?_
   refine sSkN 5 18 false 86 S rfl rfl rfl rfl fun a S => ?_
   refine sPickT (.bool true) S (wN rfl) rfl rfl rfl rfl rfl (lb rfl) fun a S => ?_
   refine sM S fun a S => ?_
   refine sSkN 5 25 false 93 S rfl rfl rfl rfl fun a S => ?_
   refine sPickT (.bool true) S (wN rfl) rfl rfl rfl rfl rfl (lb rfl) fun a S => ?_
   refine sM S fun a S => ?_
   refine sSkN 3 32 false 100 S rfl rfl rfl rfl fun a S => ?_
   refine sPickT (.bool true) S (wN rfl) rfl rfl rfl rfl rfl (lb rfl) fun a S => ?_
   exact lT (⟨true, Option.some.inj h, S.fix [1] [3, 2, 1, 0, 7] (by decide) rfl rfl rfl⟩)
  refine sMove (iv aI.2) S (wG 6 false 74 rfl rfl rfl bM) (.inl rfl) rfl rfl (lb rfl) fun a S => ?_
  refine sBin _ S (wG 6 false 74 rfl rfl rfl bM) rfl rfl rfl (bNe _ _ _ _ .i64 aI.2 0) rfl (lb rfl) fun a S => ?_
  refine sPickF (.bool (aI.2 != 0)) S (wN rfl) rfl rfl bM rfl rfl (lb rfl) fun a S => ?_
  refine sM S fun a S => ?_
  rcases iS h with ⟨bN, h⟩ | ⟨bN, h⟩
  ·refine sSkN 2 10 false 78 S rfl rfl bN rfl fun a S => ?_
   refine sPickT (.bool true) S (wN rfl) rfl rfl bN rfl rfl (lb rfl) fun a S => ?_
   refine sM S fun a S => ?_
   refine sSkN 2 14 false 82 S rfl rfl rfl rfl fun a S => ?_
   refine sPickT (.bool true) S (wN rfl) rfl rfl rfl rfl rfl (lb rfl) fun a S => ?_
   refine sM S fun a S => ?_
   refine sSkN 5 18 false 86 S rfl rfl rfl rfl fun a S => ?_
   refine sPickT (.bool true) S (wN rfl) rfl rfl rfl rfl rfl (lb rfl) fun a S => ?_
   refine sM S fun a S => ?_
   refine sSkN 5 25 false 93 S rfl rfl rfl rfl fun a S => ?_
   refine sPickT (.bool true) S (wN rfl) rfl rfl rfl rfl rfl (lb rfl) fun a S => ?_
   refine sM S fun a S => ?_
   refine sSkN 3 32 false 100 S rfl rfl rfl rfl fun a S => ?_
   refine sPickT (.bool true) S (wN rfl) rfl rfl rfl rfl rfl (lb rfl) fun a S => ?_
   exact lT (⟨true, Option.some.inj h, S.fix [1] [3, 2, 1, 0, 7] (by decide) rfl rfl rfl⟩)
  refine sMove (iv ak.2) S (wG 10 false 78 rfl rfl rfl bN) (.inl rfl) rfl rfl (lb rfl) fun a S => ?_
  refine sBin _ S (wG 10 false 78 rfl rfl rfl bN) rfl rfl rfl (bNe _ _ _ _ .i64 ak.2 0) rfl (lb rfl) fun a S => ?_
  refine sPickF (.bool (ak.2 != 0)) S (wN rfl) rfl rfl bN rfl rfl (lb rfl) fun a S => ?_
  refine sM S fun a S => ?_
  rcases iS h with ⟨bO, h⟩ | ⟨bO, h⟩
  ·refine sSkN 2 14 false 82 S rfl rfl bO rfl fun a S => ?_
   refine sPickT (.bool true) S (wN rfl) rfl rfl bO rfl rfl (lb rfl) fun a S => ?_
   refine sM S fun a S => ?_
   refine sSkN 5 18 false 86 S rfl rfl rfl rfl fun a S => ?_
   refine sPickT (.bool true) S (wN rfl) rfl rfl rfl rfl rfl (lb rfl) fun a S => ?_
   refine sM S fun a S => ?_
   refine sSkN 5 25 false 93 S rfl rfl rfl rfl fun a S => ?_
   refine sPickT (.bool true) S (wN rfl) rfl rfl rfl rfl rfl (lb rfl) fun a S => ?_
   refine sM S fun a S => ?_
   refine sSkN 3 32 false 100 S rfl rfl rfl rfl fun a S => ?_
   refine sPickT (.bool true) S (wN rfl) rfl rfl rfl rfl rfl (lb rfl) fun a S => ?_
   exact lT (⟨true, Option.some.inj h, S.fix [1] [3, 2, 1, 0, 7] (by decide) rfl rfl rfl⟩)
  refine sMove (iv ap.2) S (wG 14 false 82 rfl rfl rfl bO) (.inl rfl) rfl rfl (lb rfl) fun a S => ?_
  refine sBin _ S (wG 14 false 82 rfl rfl rfl bO) rfl rfl rfl (bNe _ _ _ _ .i64 ap.2 0) rfl (lb rfl) fun a S => ?_
  refine sPickF (.bool (ap.2 != 0)) S (wN rfl) rfl rfl bO rfl rfl (lb rfl) fun a S => ?_
  refine sM S fun a S => ?_
  rcases iS h with ⟨bq, h⟩ | ⟨bq, h⟩
  ·refine sSkN 5 18 false 86 S rfl rfl bq rfl fun a S => ?_
   refine sPickT (.bool true) S (wN rfl) rfl rfl bq rfl rfl (lb rfl) fun a S => ?_
   refine sM S fun a S => ?_
   refine sSkN 5 25 false 93 S rfl rfl rfl rfl fun a S => ?_
   refine sPickT (.bool true) S (wN rfl) rfl rfl rfl rfl rfl (lb rfl) fun a S => ?_
   refine sM S fun a S => ?_
   refine sSkN 3 32 false 100 S rfl rfl rfl rfl fun a S => ?_
   refine sPickT (.bool true) S (wN rfl) rfl rfl rfl rfl rfl (lb rfl) fun a S => ?_
   exact lT (⟨true, Option.some.inj h, S.fix [1] [3, 2, 1, 0, 7] (by decide) rfl rfl rfl⟩)
  refine sMove (.slice au aH.1.length av) S (wG 18 false 86 rfl rfl rfl bq) (.inl rfl) rfl rfl (lb rfl) fun a S => ?_
  refine sLen S (wG 18 false 86 rfl rfl rfl bq) rfl Try.underlying26 rfl rfl (lb rfl) fun a S => ?_
  refine sMove (.slice ax aI.1.length ay) S (wG 18 false 86 rfl rfl rfl bq) (.inl rfl) rfl rfl (lb rfl) fun a S => ?_
  refine sLen S (wG 18 false 86 rfl rfl rfl bq) rfl Try.underlying26 rfl rfl (lb rfl) fun a S => ?_
  refine sBin _ S (wG 18 false 86 rfl rfl rfl bq) rfl rfl rfl (bNe _ _ _ _ .i64 (aH.1.length : Int) (aI.1.length : Int)) rfl (lb rfl) fun a S => ?_
  refine sPickF (.bool ((aH.1.length : Int) != (aI.1.length : Int))) S (wN rfl) rfl rfl bq rfl rfl (lb rfl) fun a S => ?_
  refine sM S fun a S => ?_
  rcases iS h with ⟨br, h⟩ | ⟨br, h⟩
  ·refine sSkN 5 25 false 93 S rfl rfl br rfl fun a S => ?_
   refine sPickT (.bool true) S (wN rfl) rfl rfl br rfl rfl (lb rfl) fun a S => ?_
   refine sM S fun a S => ?_
   refine sSkN 3 32 false 100 S rfl rfl rfl rfl fun a S => ?_
   refine sPickT (.bool true) S (wN rfl) rfl rfl rfl rfl rfl (lb rfl) fun a S => ?_
   exact lT (⟨true, Option.some.inj h, S.fix [1] [3, 2, 1, 0, 7] (by decide) rfl rfl rfl⟩)
  refine sMove (.slice ae ak.1.length af) S (wG 25 false 93 rfl rfl rfl br) (.inl rfl) rfl rfl (lb rfl) fun a S => ?_
  refine sLen S (wG 25 false 93 rfl rfl rfl br) rfl Try.underlying37 rfl rfl (lb rfl) fun a S => ?_
  refine sMove (.slice ag ap.1.length ah) S (wG 25 false 93 rfl rfl rfl br) (.inl rfl) rfl rfl (lb rfl) fun a S => ?_
  refine sLen S (wG 25 false 93 rfl rfl rfl br) rfl Try.underlying37 rfl rfl (lb rfl) fun a S => ?_
  refine sBin _ S (wG 25 false 93 rfl rfl rfl br) rfl rfl rfl (bNe _ _ _ _ .i64 (ak.1.length : Int) (ap.1.length : Int)) rfl (lb rfl) fun a S => ?_
  refine sPickF (.bool ((ak.1.length : Int) != (ap.1.length : Int))) S (wN rfl) rfl rfl br rfl rfl (lb rfl) fun a S => ?_
  refine sM S fun a S => ?_
  rcases iS h with ⟨bA, h⟩ | ⟨bA, h⟩
  ·refine sSkN 3 32 false 100 S rfl rfl bA rfl fun a S => ?_
   refine sPickT (.bool true) S (wN rfl) rfl rfl bA rfl rfl (lb rfl) fun a S => ?_
   exact lT (⟨true, Option.some.inj h, S.fix [1] [3, 2, 1, 0, 7] (by decide) rfl rfl rfl⟩)
  refine sMove (.slice ae ak.1.length af) S (wG 32 false 100 rfl rfl rfl bA) (.inl rfl) rfl rfl (lb rfl) fun a S => ?_
  refine sLen S (wG 32 false 100 rfl rfl rfl bA) rfl Try.underlying37 rfl rfl (lb rfl) fun a S => ?_
  refine sBin _ S (wG 32 false 100 rfl rfl rfl bA) rfl rfl rfl (bGt _ _ _ _ .i64 (ak.1.length : Int) 3000) rfl (lb rfl) fun a S => ?_
  refine sPickF (.bool (decide (3000 < (ak.1.length : Int)))) S (wN rfl) rfl rfl bA rfl rfl (lb rfl) fun a S => ?_
  exact lT (⟨decide (3000 < (ak.1.length : Int)), Option.some.inj h, S.fix [1] [3, 2, 1, 0, 7] (by decide) rfl rfl rfl⟩)
 obtain ⟨f5, rfl, S⟩ := hI
 have h := gk
 try dsimp only at h
 rcases iS h with ⟨cE, h⟩ | ⟨cE, h⟩
 ·refine sCondT S rfl cE ?_
  refine sSeq (fun i9 f7 => sRegion (sM S fun a S => ?_))
  refine sLen S (wN rfl) rfl Try.underlying37 rfl rfl (lb rfl) fun a S => ?_
  refine sBin _ S (wN rfl) rfl rfl rfl (bGt _ _ _ _ .i64 (ak.1.length : Int) 3000) rfl (lb rfl) fun a S => ?_
  refine sN S fun a S => ?_
  refine lT (f7 _ _ ?_)
  obtain rfl := tS h
  exact wp_ret (rThen (sRet (.bool (decide (3000 < (ak.1.length : Int)))) S (rsl1 rfl (rvT (t := 2) (v := .bool (decide (3000 < (ak.1.length : Int)))) S rfl)) ⟨(), rfl, S.mem.sel [] [] (by decide) rfl rfl⟩))
 refine sCondF S rfl cE ?_
 refine wp_skip (leafT (f4 _ _ ?_))
 refine sSeq (fun ia f8 => sRegion (sN S fun a S => ?_))
 refine lT (f8 _ _ ?_)
 obtain ⟨gl, h, fU⟩ := bS h
 refine sCut (fun a w => ∃ aj, .inl aj = gl ∧ ∃ a9, ∃ aa, St [] E [] w0 318 a w [(1, .pointer (some ⟨b6, 0, none⟩)), (3, .bool r8), (6, .slice au aH.1.length av), (8, .slice ax aI.1.length ay), (10, .slice ae ak.1.length af), (12, .slice ag ap.1.length ah), (14, .slice a9 aj.length aa)] [eBox b6 24 [iv p0.Start, .slice aC p0.Rows.length aG], eRow (rI .i64) 3 (.slice a9 aj.length aa) aj] [fRep (rL r_api_Loop) (.slice au aH.1.length av) aH.1, fRep (rL r_api_Loop) (.slice ax aI.1.length ay) aI.1, fRep (rL r_A2_Int) (.slice ae ak.1.length af) ak.1, fRep (rL r_A2_Int) (.slice ag ap.1.length ah) ap.1, fRep (rL r_api_Row) (.slice aC p0.Rows.length aG) p0.Rows]) ?_ (fun a w hI => ?_)
 ·refine sSeq (fun ib f9 => sRegion (sN S fun a S => ?_))
  refine lT (f9 _ _ (wp_block ?_))
  have S := S.nilRow (rI .i64) 3 (α := Int)
  obtain ⟨ic, hl, fV⟩ := bS h
  refine sLoop hl (fun s0 a w => match s0 with | (cq, cd) => ∃ bB, ∃ bC, St [] E [] w0 318 a w [(1, .pointer (some ⟨b6, 0, none⟩)), (3, .bool r8), (6, .slice au aH.1.length av), (8, .slice ax aI.1.length ay), (10, .slice ae ak.1.length af), (12, .slice ag ap.1.length ah), (14, .slice bB cq.length bC), (15, iv cd)] [eBox b6 24 [iv p0.Start, .slice aC p0.Rows.length aG], eRow (rI .i64) 3 (.slice bB cq.length bC) cq] [fRep (rL r_api_Loop) (.slice au aH.1.length av) aH.1, fRep (rL r_api_Loop) (.slice ax aI.1.length ay) aI.1, fRep (rL r_A2_Int) (.slice ae ak.1.length af) ak.1, fRep (rL r_A2_Int) (.slice ag ap.1.length ah) ap.1, fRep (rL r_api_Row) (.slice aC p0.Rows.length aG) p0.Rows]) ⟨none, 0, S.fix [1, 0] [0, 1, 2, 3, 4] (by decide) rfl rfl rfl⟩ ?_
  clear hl h
  intro s0 a w c0 hI h d3
  obtain ⟨cq, cd⟩ := s0
  unfold raddlelaw27_LoopsFlips_l2 at h
  dsimp only at h hI
  obtain ⟨bB, bC, S⟩ := hI
  refine sSeq (fun ig fa => sSeq (fun ii fb => sRegion (sM S fun a S => ?_)))
  refine sField (b := b6) (off := 0) 1 1 S (wN rfl) rfl rfl rfl rfl rfl (lb rfl) fun a S => ?_
  refine sLoad1 0 (.slice aC p0.Rows.length aG) S (wN rfl) rfl rfl rfl rfl rfl rfl (lb rfl) fun a S => ?_
  refine sLen S (wN rfl) rfl Try.underlying22 rfl rfl (lb rfl) fun a S => ?_
  refine sBin _ S (wN rfl) rfl rfl rfl (bLe _ _ _ _ .i64 cd (p0.Rows.length : Int)) rfl (lb rfl) fun a S => ?_
  refine lT (fb _ _ ?_)
  rcases iS h with ⟨cF, h⟩ | ⟨cF, h⟩
  rotate_left
  ·refine sCondF S rfl cF ?_
   obtain rfl := tS h
   obtain rfl := d3 _ rfl
   have h := fV
   try dsimp only at h
   exact wp_exit (xThen (xThen (xHit (leafT (⟨cq, Option.some.inj h, bB, bC, S.fix [0, 1] [0, 1, 2, 3, 4] (by decide) rfl rfl rfl⟩)))))
  refine sCondT S rfl cF ?_
  refine wp_skip (leafT (fa _ _ ?_))
  obtain ⟨gm, h, fW⟩ := bS h
  refine sCut (fun a w => ∃ cZ, .inl cZ = gm ∧ ∃ ce, ∃ cf, St [] E [] w0 318 a w [(1, .pointer (some ⟨b6, 0, none⟩)), (3, .bool r8), (6, .slice au aH.1.length av), (8, .slice ax aI.1.length ay), (10, .slice ae ak.1.length af), (12, .slice ag ap.1.length ah), (14, .slice ce cZ.length cf), (15, iv cd)] [eBox b6 24 [iv p0.Start, .slice aC p0.Rows.length aG], eRow (rI .i64) 3 (.slice ce cZ.length cf) cZ] [fRep (rL r_api_Loop) (.slice au aH.1.length av) aH.1, fRep (rL r_api_Loop) (.slice ax aI.1.length ay) aI.1, fRep (rL r_A2_Int) (.slice ae ak.1.length af) ak.1, fRep (rL r_A2_Int) (.slice ag ap.1.length ah) ap.1, fRep (rL r_api_Row) (.slice aC p0.Rows.length aG) p0.Rows]) ?_ (fun a w hI => ?_)
  rotate_left
  ·obtain ⟨cZ, rfl, ce, cf, S⟩ := hI
   have h := fW
   try dsimp only at h
   refine sRegion (sM S fun a S => ?_)
   refine sBin _ S (wN rfl) rfl rfl rfl (bAdd _ _ _ _ cd 1) rfl (lb rfl) fun a S => ?_
   refine sN S fun a S => ?_
   exact lT (⟨(cZ, w64 (cd + 1)), (Option.some.inj h).symm, ⟨ce, cf, S.fix [0, 1] [0, 1, 2, 3, 4] (by decide) rfl rfl rfl⟩⟩)
  refine wp_block ?_
  refine sSeq (fun ij fc => sRegion (sLoadN (p := b6) (off := 0) (T := 24) (vs := [iv p0.Start, .slice aC p0.Rows.length aG]) 0 [iv p0.Start, .slice aC p0.Rows.length aG] S (wN rfl) rfl rfl rfl rfl rfl rfl rfl (lb rfl) fun a S => ?_))
  refine sM S fun a S => ?_
  obtain ⟨aO, fd, h⟩ := bS h
  have S1 := S.mem
  have S1 := S1.learn (fRep r_api_Chart (.agg #[iv p0.Start, .slice aC p0.Rows.length aG]) p0) ⟨_, rfl, S1.know (i := 4) (e := fRep (rL r_api_Row) (.slice aC p0.Rows.length aG) p0.Rows) rfl⟩
  refine sCq [.agg #[iv p0.Start, .slice aC p0.Rows.length aG], iv cd] (.tuple #[iv aO.1, iv aO.2.1, iv aO.2.2]) S callee22 (S1.quiet [0] rfl) (fun E1 w1 S1 => c_loops_Row E1 w1 p0 (.agg #[iv p0.Start, .slice aC p0.Rows.length aG]) cd aO fd S1) fun a w S => ?_
  refine sM S fun a S => ?_
  refine sExtract (vs := [iv aO.1, iv aO.2.1, iv aO.2.2]) (iv aO.1) S (wN rfl) rfl rfl rfl rfl (lb rfl) fun a S => ?_
  refine sExtract (vs := [iv aO.1, iv aO.2.1, iv aO.2.2]) (iv aO.2.1) S (wN rfl) rfl rfl rfl rfl (lb rfl) fun a S => ?_
  refine sExtract (vs := [iv aO.1, iv aO.2.1, iv aO.2.2]) (iv aO.2.2) S (wN rfl) rfl rfl rfl rfl (lb rfl) fun a S => ?_
  refine sN S fun a S => ?_
  refine sN S fun a S => ?_
  refine sN S fun a S => ?_
  refine lT (fc _ _ (sSeq (fun ik fe => ?_)))
  obtain ⟨gn, h, gp⟩ := bS h
  refine sCut (fun a w => ∃ ff, ff = gn ∧ St [] E [] w0 318 a w [(1, .pointer (some ⟨b6, 0, none⟩)), (3, .bool r8), (6, .slice au aH.1.length av), (8, .slice ax aI.1.length ay), (10, .slice ae ak.1.length af), (12, .slice ag ap.1.length ah), (14, .slice bB cq.length bC), (15, iv cd), (16, iv aO.1), (17, iv aO.2.1), (138, .bool ff)] [eBox b6 24 [iv p0.Start, .slice aC p0.Rows.length aG], eRow (rI .i64) 3 (.slice bB cq.length bC) cq] [fRep (rL r_api_Loop) (.slice au aH.1.length av) aH.1, fRep (rL r_api_Loop) (.slice ax aI.1.length ay) aI.1, fRep (rL r_A2_Int) (.slice ae ak.1.length af) ak.1, fRep (rL r_A2_Int) (.slice ag ap.1.length ah) ap.1, fRep (rL r_api_Row) (.slice aC p0.Rows.length aG) p0.Rows]) ?_ (fun a w hI => ?_)
  ·refine sRegion (sM S fun a S => ?_)
   refine sBin _ S (wN rfl) rfl rfl rfl (bNe _ _ _ _ .i64 aO.2.2 0) rfl (lb rfl) fun a S => ?_
   refine sM S fun a S => ?_
   rcases iS h with ⟨bj, h⟩ | ⟨bj, h⟩
   ·refine sSkN 2 2 false 124 S rfl rfl bj rfl fun a S => ?_
    refine sPickT (.bool true) S (wN rfl) rfl rfl bj rfl rfl (lb rfl) fun a S => ?_
    refine sM S fun a S => ?_
    refine sSkN 3 6 false 128 S rfl rfl rfl rfl fun a S => ?_
    refine sPickT (.bool true) S (wN rfl) rfl rfl rfl rfl rfl (lb rfl) fun a S => ?_
    refine sM S fun a S => ?_
    refine sSkN 4 11 false 133 S rfl rfl rfl rfl fun a S => ?_
    refine sPickT (.bool true) S (wN rfl) rfl rfl rfl rfl rfl (lb rfl) fun a S => ?_
    exact lT (⟨true, Option.some.inj h, S.fix [0, 1] [0, 1, 2, 3, 4] (by decide) rfl rfl rfl⟩)
   refine sMove (iv aO.1) S (wG 2 false 124 rfl rfl rfl bj) (.inl rfl) rfl rfl (lb rfl) fun a S => ?_
   refine sBin _ S (wG 2 false 124 rfl rfl rfl bj) rfl rfl rfl (bLt _ _ _ _ .i64 aO.1 0) rfl (lb rfl) fun a S => ?_
   refine sPickF (.bool (decide (aO.1 < 0))) S (wN rfl) rfl rfl bj rfl rfl (lb rfl) fun a S => ?_
   refine sM S fun a S => ?_
   rcases iS h with ⟨bh, h⟩ | ⟨bh, h⟩
   ·refine sSkN 3 6 false 128 S rfl rfl bh rfl fun a S => ?_
    refine sPickT (.bool true) S (wN rfl) rfl rfl bh rfl rfl (lb rfl) fun a S => ?_
    refine sM S fun a S => ?_
    refine sSkN 4 11 false 133 S rfl rfl rfl rfl fun a S => ?_
    refine sPickT (.bool true) S (wN rfl) rfl rfl rfl rfl rfl (lb rfl) fun a S => ?_
    exact lT (⟨true, Option.some.inj h, S.fix [0, 1] [0, 1, 2, 3, 4] (by decide) rfl rfl rfl⟩)
   refine sMove (iv aO.2.1) S (wG 6 false 128 rfl rfl rfl bh) (.inl rfl) rfl rfl (lb rfl) fun a S => ?_
   refine sMove (iv aO.1) S (wG 6 false 128 rfl rfl rfl bh) (.inl rfl) rfl rfl (lb rfl) fun a S => ?_
   refine sBin _ S (wG 6 false 128 rfl rfl rfl bh) rfl rfl rfl (bLt _ _ _ _ .i64 aO.2.1 aO.1) rfl (lb rfl) fun a S => ?_
   refine sPickF (.bool (decide (aO.2.1 < aO.1))) S (wN rfl) rfl rfl bh rfl rfl (lb rfl) fun a S => ?_
   refine sM S fun a S => ?_
   rcases iS h with ⟨aZ, h⟩ | ⟨aZ, h⟩
   ·refine sSkN 4 11 false 133 S rfl rfl aZ rfl fun a S => ?_
    refine sPickT (.bool true) S (wN rfl) rfl rfl aZ rfl rfl (lb rfl) fun a S => ?_
    exact lT (⟨true, Option.some.inj h, S.fix [0, 1] [0, 1, 2, 3, 4] (by decide) rfl rfl rfl⟩)
   refine sMove (iv aO.2.1) S (wG 11 false 133 rfl rfl rfl aZ) (.inl rfl) rfl rfl (lb rfl) fun a S => ?_
   refine sMove (.slice au aH.1.length av) S (wG 11 false 133 rfl rfl rfl aZ) (.inl rfl) rfl rfl (lb rfl) fun a S => ?_
   refine sLen S (wG 11 false 133 rfl rfl rfl aZ) rfl Try.underlying26 rfl rfl (lb rfl) fun a S => ?_
   refine sBin _ S (wG 11 false 133 rfl rfl rfl aZ) rfl rfl rfl (bGt _ _ _ _ .i64 aO.2.1 (aH.1.length : Int)) rfl (lb rfl) fun a S => ?_
   refine sPickF (.bool (decide ((aH.1.length : Int) < aO.2.1))) S (wN rfl) rfl rfl aZ rfl rfl (lb rfl) fun a S => ?_
   exact lT (⟨decide ((aH.1.length : Int) < aO.2.1), Option.some.inj h, S.fix [0, 1] [0, 1, 2, 3, 4] (by decide) rfl rfl rfl⟩)
  obtain ⟨ff, rfl, S⟩ := hI
  have h := gp
  try dsimp only at h
  rcases iS h with ⟨bU, h⟩ | ⟨bU, h⟩
  ·refine sCondT S rfl bU ?_
   refine sSeq (fun gq d4 => sRegion (sN S fun a S => ?_))
   refine lT (d4 _ _ ?_)
   obtain rfl := tS h
   have h := fW
   try dsimp only at h
   obtain rfl := tS h
   obtain rfl := d3 _ rfl
   have h := fV
   try dsimp only at h
   obtain rfl := tS h
   have h := fU
   try dsimp only at h
   obtain rfl := tS h
   exact wp_ret (rThen (rBlock (rThen (rThen (rBlock (rThen (sRet (.bool false) S (rsl1 rfl (rvT (t := 2) (v := .bool false) S rfl)) ⟨(), rfl, S.mem.sel [] [] (by decide) rfl rfl⟩)))))))
  refine sCondF S rfl bU ?_
  refine wp_skip (leafT (fe _ _ ?_))
  refine sSeq (fun gr d5 => sRegion (sM S fun a S => ?_))
  refine sN S fun a S => ?_
  refine lT (d5 _ _ (wp_block ?_))
  obtain ⟨gt, hl, fg⟩ := bS h
  refine sLoop hl (fun s0 a w => match s0 with | (bD, bc) => ∃ bt, ∃ bu, St [] E [] w0 318 a w [(1, .pointer (some ⟨b6, 0, none⟩)), (3, .bool r8), (6, .slice au aH.1.length av), (8, .slice ax aI.1.length ay), (10, .slice ae ak.1.length af), (12, .slice ag ap.1.length ah), (14, .slice bt bD.length bu), (15, iv cd), (16, iv aO.1), (17, iv aO.2.1), (19, iv bc)] [eBox b6 24 [iv p0.Start, .slice aC p0.Rows.length aG], eRow (rI .i64) 3 (.slice bt bD.length bu) bD] [fRep (rL r_api_Loop) (.slice au aH.1.length av) aH.1, fRep (rL r_api_Loop) (.slice ax aI.1.length ay) aI.1, fRep (rL r_A2_Int) (.slice ae ak.1.length af) ak.1, fRep (rL r_A2_Int) (.slice ag ap.1.length ah) ap.1, fRep (rL r_api_Row) (.slice aC p0.Rows.length aG) p0.Rows]) ⟨bB, bC, S.fix [0, 1] [0, 1, 2, 3, 4] (by decide) rfl rfl rfl⟩ ?_
  clear hl h
  intro s0 a w c0 hI h d6
  obtain ⟨bD, bc⟩ := s0
  unfold raddlelaw27_LoopsFlips_l1 at h
  dsimp only at h hI
  obtain ⟨bt, bu, S⟩ := hI
  refine sSeq (fun gu d7 => sSeq (fun gv d8 => sRegion (sM S fun a S => ?_)))
  refine sM S fun a S => ?_
  refine sBin _ S (wN rfl) rfl rfl rfl (bLt _ _ _ _ .i64 bc aO.2.1) rfl (lb rfl) fun a S => ?_
  refine lT (d8 _ _ ?_)
  rcases iS h with ⟨bV, h⟩ | ⟨bV, h⟩
  rotate_left
  ·refine sCondF S rfl bV ?_
   obtain rfl := tS h
   obtain rfl := d6 _ rfl
   have h := fg
   try dsimp only at h
   exact wp_exit (xThen (xThen (xHit (leafB (leafT (⟨bD, Option.some.inj h, bt, bu, S.fix [0, 1] [0, 1, 2, 3, 4] (by decide) rfl rfl rfl⟩))))))
  refine sCondT S rfl bV ?_
  refine wp_skip (leafT (d7 _ _ ?_))
  refine sSeq (fun gw d9 => wp_block ?_)
  refine sRegion (sM S fun a S => ?_)
  refine sM S fun a S => ?_
  refine sM S fun a S => ?_
  refine sBin _ S (wN rfl) rfl rfl rfl (bAdd _ _ _ _ aO.1 aO.2.1) rfl (lb rfl) fun a S => ?_
  refine sBin _ S (wN rfl) rfl rfl rfl (bSub _ _ _ _ (w64 (aO.1 + aO.2.1)) 1) rfl (lb rfl) fun a S => ?_
  refine sM S fun a S => ?_
  refine sBin _ S (wN rfl) rfl rfl rfl (bSub _ _ _ _ (w64 ((w64 (aO.1 + aO.2.1)) - 1)) bc) rfl (lb rfl) fun a S => ?_
  refine sLit (r := (rI .i64)) (T := 3) (xs := ([w64 ((w64 ((w64 (aO.1 + aO.2.1)) - 1)) - bc)] : List Int)) [(0, iv (w64 ((w64 ((w64 (aO.1 + aO.2.1)) - 1)) - bc)))] 1 [iv (w64 ((w64 ((w64 (aO.1 + aO.2.1)) - 1)) - bc))] [iv (w64 ((w64 ((w64 (aO.1 + aO.2.1)) - 1)) - bc))] (iv 0) 8 S (wN rfl) rfl rfl Try.underlying32 rfl (by decide) (by decide) (by kernel_rfl) rfl (fun E1 w1 hE => All.cons rfl (All.nil _ _ _)) rfl rfl (lb rfl) fun a w da db S => ?_
  obtain ⟨fh, dc, h⟩ := bS h
  refine sApp (r := (rI .i64)) (T := 3) (xs := bD) (ys := ([w64 ((w64 ((w64 (aO.1 + aO.2.1)) - 1)) - bc)] : List Int)) (v := .slice bt bD.length bu) (u := .slice da ([w64 ((w64 ((w64 (aO.1 + aO.2.1)) - 1)) - bc)] : List Int).length db) 2 (iv 0) 8 S (wN rfl) rfl Try.underlying32 rfl rfl (by decide) rfl rfl rfl (src_R (T := 3) 0 S.mem rfl) dc rfl (lb rfl) fun a w de df S => ?_
  refine sN S fun a S => ?_
  refine leafL (leafB (leafT (d9 _ _ ?_)))
  refine sRegion (sM S fun a S => ?_)
  refine sBin _ S (wN rfl) rfl rfl rfl (bAdd _ _ _ _ bc 1) rfl (lb rfl) fun a S => ?_
  refine sN S fun a S => ?_
  exact lT (⟨(fh, w64 (bc + 1)), (Option.some.inj h).symm, ⟨de, df, S.fix [2, 0] [0, 1, 2, 3, 4] (by decide) rfl rfl rfl⟩⟩)
 obtain ⟨aj, rfl, a9, aa, S⟩ := hI
 have h := fU
 try dsimp only at h
 refine sSeq (fun gx dg => sSeq (fun gy dh => sRegion (sM S fun a S => ?_)))
 refine sLen S (wN rfl) rfl Try.underlying32 rfl rfl (lb rfl) fun a S => ?_
 refine sM S fun a S => ?_
 refine sLen S (wN rfl) rfl Try.underlying26 rfl rfl (lb rfl) fun a S => ?_
 refine sBin _ S (wN rfl) rfl rfl rfl (bNe _ _ _ _ .i64 (aj.length : Int) (aH.1.length : Int)) rfl (lb rfl) fun a S => ?_
 refine lT (dh _ _ ?_)
 rcases iS h with ⟨bW, h⟩ | ⟨bW, h⟩
 ·refine sCondT S rfl bW ?_
  refine sSeq (fun gz di => sRegion (sN S fun a S => ?_))
  refine lT (di _ _ ?_)
  obtain rfl := tS h
  exact wp_ret (rThen (sRet (.bool false) S (rsl1 rfl (rvT (t := 2) (v := .bool false) S rfl)) ⟨(), rfl, S.mem.sel [] [] (by decide) rfl rfl⟩))
 refine sCondF S rfl bW ?_
 refine wp_skip (leafT (dg _ _ ?_))
 obtain ⟨fi, h, cg⟩ := bS h
 refine sCut (fun a w => .inl () = fi ∧ St [] E [] w0 318 a w [(3, .bool r8), (10, .slice ae ak.1.length af), (12, .slice ag ap.1.length ah), (14, .slice a9 aj.length aa)] [eRow (rI .i64) 3 (.slice a9 aj.length aa) aj] [fRep (rL r_A2_Int) (.slice ae ak.1.length af) ak.1, fRep (rL r_A2_Int) (.slice ag ap.1.length ah) ap.1]) ?_ (fun a w hI => ?_)
 rotate_left
 ·obtain ⟨rfl, S⟩ := hI
  have h := cg
  try dsimp only at h
  obtain ⟨fj, h, cG⟩ := bS h
  refine sCut (fun a w => .inl () = fj ∧ St [] E [] w0 318 a w [(3, .bool r8)] [] []) ?_ (fun a w hI => ?_)
  rotate_left
  ·obtain ⟨rfl, S⟩ := hI
   have h := cG
   try dsimp only at h
   refine sSeq (fun gA dj => sRegion (sM S fun a S => ?_))
   refine sN S fun a S => ?_
   refine lT (dj _ _ ?_)
   obtain rfl := tS h
   exact wp_ret (sRet (.bool r8) S (rsl1 rfl (rvT (t := 2) (v := .bool r8) S rfl)) ⟨(), rfl, S.mem.sel [] [] (by decide) rfl rfl⟩)
  refine sSeq (fun gB dk => sRegion (sN S fun a S => ?_))
  refine lT (dk _ _ (wp_block ?_))
  obtain ⟨gC, hl, cH⟩ := bS h
  refine sLoop hl (fun s0 a w => match s0 with | aT => St [] E [] w0 318 a w [(3, .bool r8), (10, .slice ae ak.1.length af), (12, .slice ag ap.1.length ah), (14, .slice a9 aj.length aa), (25, iv aT)] [eRow (rI .i64) 3 (.slice a9 aj.length aa) aj] [fRep (rL r_A2_Int) (.slice ae ak.1.length af) ak.1, fRep (rL r_A2_Int) (.slice ag ap.1.length ah) ap.1]) (S.fix [0] [0, 1] (by decide) rfl rfl rfl) ?_
  clear hl h
  intro aT a w c0 hI h bX
  unfold raddlelaw27_LoopsFlips_l6 at h
  dsimp only at h hI
  have S := hI
  refine sSeq (fun gD dl => sSeq (fun gE dm => sRegion (sM S fun a S => ?_)))
  refine sM S fun a S => ?_
  refine sLen S (wN rfl) rfl Try.underlying37 rfl rfl (lb rfl) fun a S => ?_
  refine sBin _ S (wN rfl) rfl rfl rfl (bLt _ _ _ _ .i64 aT (ak.1.length : Int)) rfl (lb rfl) fun a S => ?_
  refine lT (dm _ _ ?_)
  rcases iS h with ⟨bY, h⟩ | ⟨bY, h⟩
  rotate_left
  ·refine sCondF S rfl bY ?_
   obtain rfl := tS h
   obtain rfl := bX _ rfl
   have h := cH
   try dsimp only at h
   exact wp_exit (xThen (xThen (xHit (leafT (⟨Option.some.inj h, S.fix [] [] (by decide) rfl rfl rfl⟩)))))
  refine sCondT S rfl bY ?_
  refine wp_skip (leafT (dl _ _ ?_))
  obtain ⟨fk, h, cI⟩ := bS h
  refine sCut (fun a w => .inl () = fk ∧ St [] E [] w0 318 a w [(3, .bool r8), (10, .slice ae ak.1.length af), (12, .slice ag ap.1.length ah), (14, .slice a9 aj.length aa), (25, iv aT)] [eRow (rI .i64) 3 (.slice a9 aj.length aa) aj] [fRep (rL r_A2_Int) (.slice ae ak.1.length af) ak.1, fRep (rL r_A2_Int) (.slice ag ap.1.length ah) ap.1]) ?_ (fun a w hI => ?_)
  rotate_left
  ·obtain ⟨rfl, S⟩ := hI
   have h := cI
   try dsimp only at h
   refine sRegion (sM S fun a S => ?_)
   refine sBin _ S (wN rfl) rfl rfl rfl (bAdd _ _ _ _ aT 1) rfl (lb rfl) fun a S => ?_
   refine sN S fun a S => ?_
   exact lT (⟨w64 (aT + 1), (Option.some.inj h).symm, (S.fix [0] [0, 1] (by decide) rfl rfl rfl)⟩)
  refine wp_block ?_
  refine sSeq (fun gF dn => ?_)
  obtain ⟨al, cr, h⟩ := bS h
  obtain ⟨dp, dr, S⟩ := pIdx (P := Try.prog) (r := r_A2_Int) (v := .slice ae ak.1.length af) (xs := ak.1) (j := aT) 37 49 0 S Try.underlying37 rfl rfl cr
  obtain ⟨cJ, dt, S⟩ := pArr (P := Try.prog) (r := r_A2_Int) (s := (rI .i64)) (q := dp) (z := al) (j := 0) 49 3 0 0 S rfl Try.underlying49 rfl (by decide) (by decide) rfl comp_A2_Int_0
  obtain ⟨du, S⟩ := pLoad (r := (rI .i64)) (q := cJ) (x := al.1) 0 S rfl
  obtain rfl : du = iv al.1 := S.mem.know (i := 1) (e := fRep (rI .i64) (du) al.1) rfl
  obtain ⟨dv, dw, S⟩ := pIdx (P := Try.prog) (r := r_A2_Int) (v := .slice ae ak.1.length af) (xs := ak.1) (j := aT) 37 49 4 S Try.underlying37 rfl rfl cr
  obtain ⟨cK, dx, S⟩ := pArr (P := Try.prog) (r := r_A2_Int) (s := (rI .i64)) (q := dv) (z := al) (j := 1) 49 3 0 1 S rfl Try.underlying49 rfl (by decide) (by decide) rfl comp_A2_Int_1
  obtain ⟨dy, S⟩ := pLoad (r := (rI .i64)) (q := cK) (x := al.2) 0 S rfl
  obtain rfl : dy = iv al.2 := S.mem.know (i := 1) (e := fRep (rI .i64) (dy) al.2) rfl
  refine sDraw (nf := []) (W := [(0, 264, .slice ae ak.1.length af), (1, 265, iv aT), (2, 266, dp), (3, 267, cJ), (4, 268, iv al.1), (5, 269, .slice ae ak.1.length af), (6, 270, iv aT), (7, 271, dv), (8, 272, cK), (9, 273, iv al.2), (10, 26, iv al.1), (11, 27, iv al.2)]) rfl S ?_
  refine node_by (A := anc_raddlelaw27_LoopsFlips_3) 12 (by kernel_rfl) (by kernel_rfl) (by kernel_rfl) (by kernel_rfl) (by kernel_rfl) [0, 1, 2, 3, 4, 5, 6, 7, 8, 9, 10, 11] (by kernel_rfl) (by decide) (by decide) (fF ?_ (fF ?_ (fF ?_ (fF ?_ (fF ?_ (fF ?_ (fF ?_ (fF ?_ (fF ?_ (fF ?_ (fF ?_ (fF ?_ (trivial))))))))))))) [(3, .bool r8), (10, .slice ae ak.1.length af), (12, .slice ag ap.1.length ah), (14, .slice a9 aj.length aa), (25, iv aT), (26, iv al.1), (27, iv al.2)] (fin_of [none, none, none, none, none, some 10, some 11] rfl (by kernel_rfl) (by kernel_rfl)) (fun _ a w S => ?_)
  ·exact fM 0 none rfl rfl rfl rfl (.inl rfl) rfl rfl rfl
  ·exact fM 1 none rfl rfl rfl rfl (.inl rfl) rfl rfl rfl
  ·refine fJ [(264, _), (265, _)] 2 [some 0, some 1] fun G a w S => ?_
   exact sIdxV S (wN rfl) rfl rfl rfl dr rfl (lb rfl) fun a S => leafL ⟨rfl, S⟩
  ·refine fJ [(266, _)] 3 [some 2] fun G a w S => ?_
   exact sIdxV S (wN rfl) rfl rfl rfl dt rfl (lb rfl) fun a S => leafL ⟨rfl, S⟩
  ·refine fJ [(267, _)] 4 [some 3] fun G a w S => ?_
   exact sLoadV1 (vq := cJ) 4 (iv al.1) S (wN rfl) rfl rfl rfl rfl rfl (lb rfl) fun a S => leafL ⟨rfl, S⟩
  ·exact fM 5 none rfl rfl rfl rfl (.inl rfl) rfl rfl rfl
  ·exact fM 6 none rfl rfl rfl rfl (.inl rfl) rfl rfl rfl
  ·refine fJ [(269, _), (270, _)] 7 [some 5, some 6] fun G a w S => ?_
   exact sIdxV S (wN rfl) rfl rfl rfl dw rfl (lb rfl) fun a S => leafL ⟨rfl, S⟩
  ·refine fJ [(271, _)] 8 [some 7] fun G a w S => ?_
   exact sIdxV S (wN rfl) rfl rfl rfl dx rfl (lb rfl) fun a S => leafL ⟨rfl, S⟩
  ·refine fJ [(272, _)] 9 [some 8] fun G a w S => ?_
   exact sLoadV1 (vq := cK) 0 (iv al.2) S (wN rfl) rfl rfl rfl rfl rfl (lb rfl) fun a S => leafL ⟨rfl, S⟩
  ·exact fM 10 (some 4) rfl rfl rfl rfl (.inr rfl) rfl rfl rfl
  ·exact fM 11 (some 9) rfl rfl rfl rfl (.inr rfl) rfl rfl rfl
  refine leafT (dn _ _ ?_)
  refine sSeq (fun gG dz => ?_)
  obtain ⟨fm, h, fp⟩ := bS h
  refine sCut (fun a w => ∃ cL, cL = fm ∧ St [] E [] w0 318 a w [(3, .bool r8), (10, .slice ae ak.1.length af), (12, .slice ag ap.1.length ah), (14, .slice a9 aj.length aa), (25, iv aT), (26, iv al.1), (27, iv al.2), (291, .bool cL)] [eRow (rI .i64) 3 (.slice a9 aj.length aa) aj] [fRep (rL r_A2_Int) (.slice ae ak.1.length af) ak.1, fRep (rL r_A2_Int) (.slice ag ap.1.length ah) ap.1]) ?_ (fun a w hI => ?_)
  ·refine sRegion (sM S fun a S => ?_)
   refine sBin _ S (wN rfl) rfl rfl rfl (bLt _ _ _ _ .i64 al.1 0) rfl (lb rfl) fun a S => ?_
   refine sM S fun a S => ?_
   rcases iS h with ⟨bk, h⟩ | ⟨bk, h⟩
   ·refine sSkN 2 2 false 276 S rfl rfl bk rfl fun a S => ?_
    refine sPickT (.bool true) S (wN rfl) rfl rfl bk rfl rfl (lb rfl) fun a S => ?_
    refine sM S fun a S => ?_
    refine sSkN 4 6 false 280 S rfl rfl rfl rfl fun a S => ?_
    refine sPickT (.bool true) S (wN rfl) rfl rfl rfl rfl rfl (lb rfl) fun a S => ?_
    refine sM S fun a S => ?_
    refine sSkN 4 12 false 286 S rfl rfl rfl rfl fun a S => ?_
    refine sPickT (.bool true) S (wN rfl) rfl rfl rfl rfl rfl (lb rfl) fun a S => ?_
    exact lT (⟨true, Option.some.inj h, S.fix [0] [8, 9] (by decide) rfl rfl rfl⟩)
   refine sMove (iv al.2) S (wG 2 false 276 rfl rfl rfl bk) (.inl rfl) rfl rfl (lb rfl) fun a S => ?_
   refine sBin _ S (wG 2 false 276 rfl rfl rfl bk) rfl rfl rfl (bLt _ _ _ _ .i64 al.2 0) rfl (lb rfl) fun a S => ?_
   refine sPickF (.bool (decide (al.2 < 0))) S (wN rfl) rfl rfl bk rfl rfl (lb rfl) fun a S => ?_
   refine sM S fun a S => ?_
   rcases iS h with ⟨ba, h⟩ | ⟨ba, h⟩
   ·refine sSkN 4 6 false 280 S rfl rfl ba rfl fun a S => ?_
    refine sPickT (.bool true) S (wN rfl) rfl rfl ba rfl rfl (lb rfl) fun a S => ?_
    refine sM S fun a S => ?_
    refine sSkN 4 12 false 286 S rfl rfl rfl rfl fun a S => ?_
    refine sPickT (.bool true) S (wN rfl) rfl rfl rfl rfl rfl (lb rfl) fun a S => ?_
    exact lT (⟨true, Option.some.inj h, S.fix [0] [8, 9] (by decide) rfl rfl rfl⟩)
   refine sMove (iv al.1) S (wG 6 false 280 rfl rfl rfl ba) (.inl rfl) rfl rfl (lb rfl) fun a S => ?_
   refine sMove (.slice a9 aj.length aa) S (wG 6 false 280 rfl rfl rfl ba) (.inl rfl) rfl rfl (lb rfl) fun a S => ?_
   refine sLen S (wG 6 false 280 rfl rfl rfl ba) rfl Try.underlying32 rfl rfl (lb rfl) fun a S => ?_
   refine sBin _ S (wG 6 false 280 rfl rfl rfl ba) rfl rfl rfl (bGe _ _ _ _ .i64 al.1 (aj.length : Int)) rfl (lb rfl) fun a S => ?_
   refine sPickF (.bool (decide ((aj.length : Int) ≤ al.1))) S (wN rfl) rfl rfl ba rfl rfl (lb rfl) fun a S => ?_
   refine sM S fun a S => ?_
   rcases iS h with ⟨bb, h⟩ | ⟨bb, h⟩
   ·refine sSkN 4 12 false 286 S rfl rfl bb rfl fun a S => ?_
    refine sPickT (.bool true) S (wN rfl) rfl rfl bb rfl rfl (lb rfl) fun a S => ?_
    exact lT (⟨true, Option.some.inj h, S.fix [0] [8, 9] (by decide) rfl rfl rfl⟩)
   refine sMove (iv al.2) S (wG 12 false 286 rfl rfl rfl bb) (.inl rfl) rfl rfl (lb rfl) fun a S => ?_
   refine sMove (.slice a9 aj.length aa) S (wG 12 false 286 rfl rfl rfl bb) (.inl rfl) rfl rfl (lb rfl) fun a S => ?_
   refine sLen S (wG 12 false 286 rfl rfl rfl bb) rfl Try.underlying32 rfl rfl (lb rfl) fun a S => ?_
   refine sBin _ S (wG 12 false 286 rfl rfl rfl bb) rfl rfl rfl (bGe _ _ _ _ .i64 al.2 (aj.length : Int)) rfl (lb rfl) fun a S => ?_
   refine sPickF (.bool (decide ((aj.length : Int) ≤ al.2))) S (wN rfl) rfl rfl bb rfl rfl (lb rfl) fun a S => ?_
   exact lT (⟨decide ((aj.length : Int) ≤ al.2), Option.some.inj h, S.fix [0] [8, 9] (by decide) rfl rfl rfl⟩)
  obtain ⟨cL, rfl, S⟩ := hI
  have h := fp
  try dsimp only at h
  rcases iS h with ⟨bZ, h⟩ | ⟨bZ, h⟩
  ·refine sCondT S rfl bZ ?_
   refine sSeq (fun gH dA => sRegion (sN S fun a S => ?_))
   refine lT (dA _ _ ?_)
   obtain rfl := tS h
   have h := cI
   try dsimp only at h
   obtain rfl := tS h
   obtain rfl := bX _ rfl
   have h := cH
   try dsimp only at h
   obtain rfl := tS h
   have h := cG
   try dsimp only at h
   obtain rfl := tS h
   exact wp_ret (rThen (rBlock (rThen (rThen (rBlock (rThen (sRet (.bool false) S (rsl1 rfl (rvT (t := 2) (v := .bool false) S rfl)) ⟨(), rfl, S.mem.sel [] [] (by decide) rfl rfl⟩)))))))
  refine sCondF S rfl bZ ?_
  refine wp_skip (leafT (dz _ _ ?_))
  refine sSeq (fun gI dB => sRegion (sN S fun a S => ?_))
  refine lT (dB _ _ ?_)
  obtain ⟨fq, h, fr⟩ := bS h
  refine sCut (fun a w => ∃ ci, ci = fq ∧ St [] E [] w0 318 a w [(3, .bool r8), (10, .slice ae ak.1.length af), (12, .slice ag ap.1.length ah), (14, .slice a9 aj.length aa), (25, iv aT), (28, .bool ci)] [eRow (rI .i64) 3 (.slice a9 aj.length aa) aj] [fRep (rL r_A2_Int) (.slice ae ak.1.length af) ak.1, fRep (rL r_A2_Int) (.slice ag ap.1.length ah) ap.1]) ?_ (fun a w hI => ?_)
  rotate_left
  ·obtain ⟨ci, rfl, S⟩ := hI
   have h := fr
   try dsimp only at h
   refine sSeq (fun gJ dC => sRegion (sM S fun a S => ?_))
   refine sNot (b := ci) S (wN rfl) rfl rfl rfl (lb rfl) fun a S => ?_
   refine lT (dC _ _ ?_)
   rcases iS h with ⟨c5, h⟩ | ⟨c5, h⟩
   rotate_left
   ·refine sCondF S rfl c5 ?_
    exact wp_skip (leafB (leafT (⟨Option.some.inj h, S.fix [0] [0, 1] (by decide) rfl rfl rfl⟩)))
   refine sCondT S rfl c5 ?_
   refine sSeq (fun gK dD => sRegion (sN S fun a S => ?_))
   refine lT (dD _ _ ?_)
   obtain rfl := tS h
   have h := cI
   try dsimp only at h
   obtain rfl := tS h
   obtain rfl := bX _ rfl
   have h := cH
   try dsimp only at h
   obtain rfl := tS h
   have h := cG
   try dsimp only at h
   obtain rfl := tS h
   exact wp_ret (rBlock (rThen (rThen (rBlock (rThen (sRet (.bool false) S (rsl1 rfl (rvT (t := 2) (v := .bool false) S rfl)) ⟨(), rfl, S.mem.sel [] [] (by decide) rfl rfl⟩))))))
  refine sSeq (fun gL dE => sRegion (sN S fun a S => ?_))
  refine lT (dE _ _ (wp_block ?_))
  obtain ⟨gM, hl, ft⟩ := bS h
  refine sLoop hl (fun s0 a w => match s0 with | (bE, bf) => St [] E [] w0 318 a w [(3, .bool r8), (10, .slice ae ak.1.length af), (12, .slice ag ap.1.length ah), (14, .slice a9 aj.length aa), (25, iv aT), (26, iv al.1), (27, iv al.2), (28, .bool bE), (29, iv bf)] [eRow (rI .i64) 3 (.slice a9 aj.length aa) aj] [fRep (rL r_A2_Int) (.slice ae ak.1.length af) ak.1, fRep (rL r_A2_Int) (.slice ag ap.1.length ah) ap.1]) (S.fix [0] [0, 1] (by decide) rfl rfl rfl) ?_
  clear hl h
  intro s0 a w c0 hI h dG
  obtain ⟨bE, bf⟩ := s0
  unfold raddlelaw27_LoopsFlips_l5 at h
  dsimp only at h hI
  have S := hI
  refine sSeq (fun gN dH => sSeq (fun gO dI => sRegion (sM S fun a S => ?_)))
  refine sM S fun a S => ?_
  refine sLen S (wN rfl) rfl Try.underlying37 rfl rfl (lb rfl) fun a S => ?_
  refine sBin _ S (wN rfl) rfl rfl rfl (bLt _ _ _ _ .i64 bf (ap.1.length : Int)) rfl (lb rfl) fun a S => ?_
  refine lT (dI _ _ ?_)
  rcases iS h with ⟨c6, h⟩ | ⟨c6, h⟩
  rotate_left
  ·refine sCondF S rfl c6 ?_
   obtain rfl := tS h
   obtain rfl := dG _ rfl
   have h := ft
   try dsimp only at h
   exact wp_exit (xThen (xThen (xHit (leafT (⟨bE, Option.some.inj h, S.fix [0] [0, 1] (by decide) rfl rfl rfl⟩)))))
  refine sCondT S rfl c6 ?_
  refine wp_skip (leafT (dH _ _ ?_))
  obtain ⟨fu, h, fv⟩ := bS h
  refine sCut (fun a w => ∃ cj, cj = fu ∧ St [] E [] w0 318 a w [(3, .bool r8), (10, .slice ae ak.1.length af), (12, .slice ag ap.1.length ah), (14, .slice a9 aj.length aa), (25, iv aT), (26, iv al.1), (27, iv al.2), (28, .bool cj), (29, iv bf)] [eRow (rI .i64) 3 (.slice a9 aj.length aa) aj] [fRep (rL r_A2_Int) (.slice ae ak.1.length af) ak.1, fRep (rL r_A2_Int) (.slice ag ap.1.length ah) ap.1]) ?_ (fun a w hI => ?_)
  rotate_left
  ·obtain ⟨cj, rfl, S⟩ := hI
   have h := fv
   try dsimp only at h
   refine sRegion (sM S fun a S => ?_)
   refine sBin _ S (wN rfl) rfl rfl rfl (bAdd _ _ _ _ bf 1) rfl (lb rfl) fun a S => ?_
   refine sN S fun a S => ?_
   exact lT (⟨(cj, w64 (bf + 1)), (Option.some.inj h).symm, (S.fix [0] [0, 1] (by decide) rfl rfl rfl)⟩)
  refine wp_block ?_
  rcases iS h with ⟨am, h⟩ | ⟨am, h⟩
  ·refine sDraw (nf := []) (W := [(0, 298, .bool bE), (1, 299, .bool bE), (2, 300, undef), (3, 301, undef), (4, 302, undef), (5, 303, undef), (6, 304, undef), (7, 305, undef), (8, 306, undef), (9, 307, undef), (10, 308, undef), (11, 309, undef), (12, 310, undef), (13, 311, undef), (14, 312, undef), (15, 313, undef), (16, 314, .bool true), (17, 28, .bool true)]) rfl S ?_
   refine node_by (A := anc_raddlelaw27_LoopsFlips_4) 18 (by kernel_rfl) (by kernel_rfl) (by kernel_rfl) (by kernel_rfl) (by kernel_rfl) [0, 1, 2, 3, 4, 5, 6, 7, 8, 9, 10, 11, 12, 13, 14, 15, 16, 17] (by kernel_rfl) (by decide) (by decide) (fF ?_ (fF ?_ (fF ?_ (fF ?_ (fF ?_ (fF ?_ (fF ?_ (fF ?_ (fF ?_ (fF ?_ (fF ?_ (fF ?_ (fF ?_ (fF ?_ (fF ?_ (fF ?_ (fF ?_ (fF ?_ (trivial))))))))))))))))))) [(3, .bool r8), (10, .slice ae ak.1.length af), (12, .slice ag ap.1.length ah), (14, .slice a9 aj.length aa), (25, iv aT), (26, iv al.1), (27, iv al.2), (28, .bool true), (29, iv bf), (300, undef), (301, undef), (302, undef), (303, undef), (304, undef), (305, undef), (306, undef), (307, undef), (308, undef), (309, undef), (310, undef), (311, undef), (312, undef), (313, undef)] (fin_of [none, none, none, none, none, none, none, some 17, none, some 2, some 3, some 4, some 5, some 6, some 7, some 8, some 9, some 10, some 11, some 12, some 13, some 14, some 15] rfl (by kernel_rfl) (by kernel_rfl)) (fun _ a w S => ?_)
   ·exact fM 0 none rfl rfl rfl rfl (.inl rfl) rfl rfl rfl
   ·exact fM 1 (some 0) rfl rfl rfl rfl (.inl rfl) rfl rfl rfl
   ·refine fJ [(12, _), (299, _)] 2 [none, some 1] fun G a w S => ?_
    exact sSk S rfl rfl rfl am rfl rfl fun a S => leafL ⟨rfl, S⟩
   ·refine fJ [(29, _), (299, _)] 3 [none, some 1] fun G a w S => ?_
    exact sSk S rfl rfl rfl am rfl rfl fun a S => leafL ⟨rfl, S⟩
   ·refine fJ [(300, _), (301, _), (299, _)] 4 [some 2, some 3, some 1] fun G a w S => ?_
    exact sSk S rfl rfl rfl am rfl rfl fun a S => leafL ⟨rfl, S⟩
   ·refine fJ [(302, _), (299, _)] 5 [some 4, some 1] fun G a w S => ?_
    exact sSk S rfl rfl rfl am rfl rfl fun a S => leafL ⟨rfl, S⟩
   ·refine fJ [(14, _), (299, _)] 6 [none, some 1] fun G a w S => ?_
    exact sSk S rfl rfl rfl am rfl rfl fun a S => leafL ⟨rfl, S⟩
   ·refine fJ [(27, _), (299, _)] 7 [none, some 1] fun G a w S => ?_
    exact sSk S rfl rfl rfl am rfl rfl fun a S => leafL ⟨rfl, S⟩
   ·refine fJ [(304, _), (305, _), (299, _)] 8 [some 6, some 7, some 1] fun G a w S => ?_
    exact sSk S rfl rfl rfl am rfl rfl fun a S => leafL ⟨rfl, S⟩
   ·refine fJ [(306, _), (299, _)] 9 [some 8, some 1] fun G a w S => ?_
    exact sSk S rfl rfl rfl am rfl rfl fun a S => leafL ⟨rfl, S⟩
   ·refine fJ [(14, _), (299, _)] 10 [none, some 1] fun G a w S => ?_
    exact sSk S rfl rfl rfl am rfl rfl fun a S => leafL ⟨rfl, S⟩
   ·refine fJ [(26, _), (299, _)] 11 [none, some 1] fun G a w S => ?_
    exact sSk S rfl rfl rfl am rfl rfl fun a S => leafL ⟨rfl, S⟩
   ·refine fJ [(308, _), (309, _), (299, _)] 12 [some 10, some 11, some 1] fun G a w S => ?_
    exact sSk S rfl rfl rfl am rfl rfl fun a S => leafL ⟨rfl, S⟩
   ·refine fJ [(310, _), (299, _)] 13 [some 12, some 1] fun G a w S => ?_
    exact sSk S rfl rfl rfl am rfl rfl fun a S => leafL ⟨rfl, S⟩
   ·refine fJ [(307, _), (311, _), (299, _)] 14 [some 9, some 13, some 1] fun G a w S => ?_
    exact sSk S rfl rfl rfl am rfl rfl fun a S => leafL ⟨rfl, S⟩
   ·refine fJ [(303, _), (312, _), (299, _)] 15 [some 5, some 14, some 1] fun G a w S => ?_
    exact sSk S rfl rfl rfl am rfl rfl fun a S => leafL ⟨rfl, S⟩
   ·refine fJ [(299, _), (313, _)] 16 [some 1, some 15] fun G a w S => ?_
    exact sPickT (.bool true) S (wN rfl) rfl rfl am rfl rfl (lb rfl) fun a S => leafL ⟨rfl, S⟩
   ·exact fM 17 (some 16) rfl rfl rfl rfl (.inr rfl) rfl rfl rfl
   exact leafB (leafT (⟨true, Option.some.inj h, S.fix [0] [0, 1] (by decide) rfl rfl rfl⟩))
  obtain ⟨aJ, dJ, h⟩ := bS h
  obtain ⟨aU, ct, h⟩ := bS h
  obtain ⟨aV, cu, h⟩ := bS h
  obtain ⟨ck, dK, S⟩ := pIdx (P := Try.prog) (r := r_A2_Int) (v := .slice ag ap.1.length ah) (xs := ap.1) (j := bf) 37 49 1 S Try.underlying37 rfl rfl dJ
  obtain ⟨dL, S⟩ := pLoad (r := r_A2_Int) (q := ck) (x := aJ) 0 S rfl
  obtain rfl : dL = .agg #[iv aJ.1, iv aJ.2] := S.mem.know (i := 1) (e := fRep r_A2_Int (dL) aJ) rfl
  obtain ⟨cM, dM, dN⟩ := pIdxR (P := Try.prog) (r := (rI .i64)) (T := 3) (v := .slice a9 aj.length aa) (xs := aj) (j := al.2) 32 3 0 S Try.underlying32 rfl rfl ct
  obtain ⟨cN, dO, dP⟩ := pIdxR (P := Try.prog) (r := (rI .i64)) (T := 3) (v := .slice a9 aj.length aa) (xs := aj) (j := al.1) 32 3 0 S Try.underlying32 rfl rfl cu
  refine sDraw (nf := []) (W := [(0, 298, .bool bE), (1, 299, .bool bE), (2, 300, .slice ag ap.1.length ah), (3, 301, iv bf), (4, 302, ck), (5, 303, .agg #[iv aJ.1, iv aJ.2]), (6, 304, .slice a9 aj.length aa), (7, 305, iv al.2), (8, 306, cM), (9, 307, iv aU), (10, 308, .slice a9 aj.length aa), (11, 309, iv al.1), (12, 310, cN), (13, 311, iv aV), (14, 312, .agg #[iv aU, iv aV]), (15, 313, .bool ((aJ.1 == aU) && ((aJ.2 == aV) && true))), (16, 314, .bool ((aJ.1 == aU) && ((aJ.2 == aV) && true))), (17, 28, .bool ((aJ.1 == aU) && ((aJ.2 == aV) && true)))]) rfl S ?_
  refine node_by (A := anc_raddlelaw27_LoopsFlips_4) 18 (by kernel_rfl) (by kernel_rfl) (by kernel_rfl) (by kernel_rfl) (by kernel_rfl) [0, 1, 2, 3, 4, 5, 6, 7, 8, 9, 10, 11, 12, 13, 14, 15, 16, 17] (by kernel_rfl) (by decide) (by decide) (fF ?_ (fF ?_ (fF ?_ (fF ?_ (fF ?_ (fF ?_ (fF ?_ (fF ?_ (fF ?_ (fF ?_ (fF ?_ (fF ?_ (fF ?_ (fF ?_ (fF ?_ (fF ?_ (fF ?_ (fF ?_ (trivial))))))))))))))))))) [(3, .bool r8), (10, .slice ae ak.1.length af), (12, .slice ag ap.1.length ah), (14, .slice a9 aj.length aa), (25, iv aT), (26, iv al.1), (27, iv al.2), (28, .bool ((aJ.1 == aU) && ((aJ.2 == aV) && true))), (29, iv bf), (300, .slice ag ap.1.length ah), (301, iv bf), (302, ck), (303, .agg #[iv aJ.1, iv aJ.2]), (304, .slice a9 aj.length aa), (305, iv al.2), (306, cM), (307, iv aU), (308, .slice a9 aj.length aa), (309, iv al.1), (310, cN), (311, iv aV), (312, .agg #[iv aU, iv aV]), (313, .bool ((aJ.1 == aU) && ((aJ.2 == aV) && true)))] (fin_of [none, none, none, none, none, none, none, some 17, none, some 2, some 3, some 4, some 5, some 6, some 7, some 8, some 9, some 10, some 11, some 12, some 13, some 14, some 15] rfl (by kernel_rfl) (by kernel_rfl)) (fun _ a w S => ?_)
  ·exact fM 0 none rfl rfl rfl rfl (.inl rfl) rfl rfl rfl
  ·exact fM 1 (some 0) rfl rfl rfl rfl (.inl rfl) rfl rfl rfl
  ·refine fJ [(12, _), (299, _)] 2 [none, some 1] fun G a w S => ?_
   exact sMove (.slice ag ap.1.length ah) S (wG 1 false 299 rfl rfl rfl am) (.inl rfl) rfl rfl (lb rfl) fun a S => leafL ⟨rfl, S⟩
  ·refine fJ [(29, _), (299, _)] 3 [none, some 1] fun G a w S => ?_
   exact sMove (iv bf) S (wG 1 false 299 rfl rfl rfl am) (.inl rfl) rfl rfl (lb rfl) fun a S => leafL ⟨rfl, S⟩
  ·refine fJ [(300, _), (301, _), (299, _)] 4 [some 2, some 3, some 1] fun G a w S => ?_
   exact sIdxV S (wG 1 false 299 rfl rfl rfl am) rfl rfl rfl dK rfl (lb rfl) fun a S => leafL ⟨rfl, S⟩
  ·refine fJ [(302, _), (299, _)] 5 [some 4, some 1] fun G a w S => ?_
   exact sLoadVN (vq := ck) 0 [iv aJ.1, iv aJ.2] S (wG 1 false 299 rfl rfl rfl am) rfl rfl rfl rfl rfl rfl (lb rfl) fun a S => leafL ⟨rfl, S⟩
  ·refine fJ [(14, _), (299, _)] 6 [none, some 1] fun G a w S => ?_
   exact sMove (.slice a9 aj.length aa) S (wG 1 false 299 rfl rfl rfl am) (.inl rfl) rfl rfl (lb rfl) fun a S => leafL ⟨rfl, S⟩
  ·refine fJ [(27, _), (299, _)] 7 [none, some 1] fun G a w S => ?_
   exact sMove (iv al.2) S (wG 1 false 299 rfl rfl rfl am) (.inl rfl) rfl rfl (lb rfl) fun a S => leafL ⟨rfl, S⟩
  ·refine fJ [(304, _), (305, _), (299, _)] 8 [some 6, some 7, some 1] fun G a w S => ?_
   exact sIdxV S (wG 1 false 299 rfl rfl rfl am) rfl rfl rfl dM rfl (lb rfl) fun a S => leafL ⟨rfl, S⟩
  ·refine fJ [(306, _), (299, _)] 9 [some 8, some 1] fun G a w S => ?_
   exact sLoadR (r := (rI .i64)) (T := 3) (xs := aj) (x := aU) (v := .slice a9 aj.length aa) (vq := cM) (j := al.2) 0 (iv aU) S dN (wG 1 false 299 rfl rfl rfl am) rfl rfl rfl ct (fun _ _ _ h => h) (scal_I _) rfl rfl (lb rfl) fun a S => leafL ⟨rfl, S⟩
  ·refine fJ [(14, _), (299, _)] 10 [none, some 1] fun G a w S => ?_
   exact sMove (.slice a9 aj.length aa) S (wG 1 false 299 rfl rfl rfl am) (.inl rfl) rfl rfl (lb rfl) fun a S => leafL ⟨rfl, S⟩
  ·refine fJ [(26, _), (299, _)] 11 [none, some 1] fun G a w S => ?_
   exact sMove (iv al.1) S (wG 1 false 299 rfl rfl rfl am) (.inl rfl) rfl rfl (lb rfl) fun a S => leafL ⟨rfl, S⟩
  ·refine fJ [(308, _), (309, _), (299, _)] 12 [some 10, some 11, some 1] fun G a w S => ?_
   exact sIdxV S (wG 1 false 299 rfl rfl rfl am) rfl rfl rfl dO rfl (lb rfl) fun a S => leafL ⟨rfl, S⟩
  ·refine fJ [(310, _), (299, _)] 13 [some 12, some 1] fun G a w S => ?_
   exact sLoadR (r := (rI .i64)) (T := 3) (xs := aj) (x := aV) (v := .slice a9 aj.length aa) (vq := cN) (j := al.1) 0 (iv aV) S dP (wG 1 false 299 rfl rfl rfl am) rfl rfl rfl cu (fun _ _ _ h => h) (scal_I _) rfl rfl (lb rfl) fun a S => leafL ⟨rfl, S⟩
  ·refine fJ [(307, _), (311, _), (299, _)] 14 [some 9, some 13, some 1] fun G a w S => ?_
   exact sBuild [(0, iv aU), (1, iv aV)] [iv aU, iv aV] S (wG 1 false 299 rfl rfl rfl am) rfl rfl rfl rfl (lb rfl) fun a S => leafL ⟨rfl, S⟩
  ·refine fJ [(303, _), (312, _), (299, _)] 15 [some 5, some 14, some 1] fun G a w S => ?_
   exact sBin _ S (wG 1 false 299 rfl rfl rfl am) rfl rfl rfl (bEqV _ _ _ _ #[iv aJ.1, iv aJ.2] #[iv aU, iv aV] ((aJ.1 == aU) && ((aJ.2 == aV) && true)) (by kernel_rfl) (eqlV_of (by kernel_rfl))) rfl (lb rfl) fun a S => leafL ⟨rfl, S⟩
  ·refine fJ [(299, _), (313, _)] 16 [some 1, some 15] fun G a w S => ?_
   exact sPickF (.bool ((aJ.1 == aU) && ((aJ.2 == aV) && true))) S (wN rfl) rfl rfl am rfl rfl (lb rfl) fun a S => leafL ⟨rfl, S⟩
  ·exact fM 17 (some 16) rfl rfl rfl rfl (.inr rfl) rfl rfl rfl
  exact leafB (leafT (⟨((aJ.1 == aU) && ((aJ.2 == aV) && true)), Option.some.inj h, S.fix [0] [3, 4] (by decide) rfl rfl rfl⟩))
 refine sSeq (fun gP dQ => sRegion (sN S fun a S => ?_))
 refine lT (dQ _ _ (wp_block ?_))
 obtain ⟨gQ, hl, cl⟩ := bS h
 refine sLoop hl (fun s0 a w => match s0 with | aq => St [] E [] w0 318 a w [(1, .pointer (some ⟨b6, 0, none⟩)), (3, .bool r8), (6, .slice au aH.1.length av), (8, .slice ax aI.1.length ay), (10, .slice ae ak.1.length af), (12, .slice ag ap.1.length ah), (14, .slice a9 aj.length aa), (20, iv aq)] [eBox b6 24 [iv p0.Start, .slice aC p0.Rows.length aG], eRow (rI .i64) 3 (.slice a9 aj.length aa) aj] [fRep (rL r_api_Loop) (.slice au aH.1.length av) aH.1, fRep (rL r_api_Loop) (.slice ax aI.1.length ay) aI.1, fRep (rL r_A2_Int) (.slice ae ak.1.length af) ak.1, fRep (rL r_A2_Int) (.slice ag ap.1.length ah) ap.1, fRep (rL r_api_Row) (.slice aC p0.Rows.length aG) p0.Rows]) (S.fix [0, 1] [0, 1, 2, 3, 4] (by decide) rfl rfl rfl) ?_
 clear hl h
 intro aq a w c0 hI h bI
 unfold raddlelaw27_LoopsFlips_l4 at h
 dsimp only at h hI
 have S := hI
 refine sSeq (fun gR dR => sSeq (fun gS dS => sRegion (sM S fun a S => ?_)))
 refine sM S fun a S => ?_
 refine sLen S (wN rfl) rfl Try.underlying26 rfl rfl (lb rfl) fun a S => ?_
 refine sBin _ S (wN rfl) rfl rfl rfl (bLt _ _ _ _ .i64 aq (aH.1.length : Int)) rfl (lb rfl) fun a S => ?_
 refine lT (dS _ _ ?_)
 rcases iS h with ⟨c7, h⟩ | ⟨c7, h⟩
 rotate_left
 ·refine sCondF S rfl c7 ?_
  obtain rfl := tS h
  obtain rfl := bI _ rfl
  have h := cl
  try dsimp only at h
  exact wp_exit (xThen (xThen (xHit (leafT (⟨Option.some.inj h, S.fix [1] [2, 3] (by decide) rfl rfl rfl⟩)))))
 refine sCondT S rfl c7 ?_
 refine wp_skip (leafT (dR _ _ ?_))
 obtain ⟨fw, h, cm⟩ := bS h
 refine sCut (fun a w => .inl () = fw ∧ St [] E [] w0 318 a w [(1, .pointer (some ⟨b6, 0, none⟩)), (3, .bool r8), (6, .slice au aH.1.length av), (8, .slice ax aI.1.length ay), (10, .slice ae ak.1.length af), (12, .slice ag ap.1.length ah), (14, .slice a9 aj.length aa), (20, iv aq)] [eBox b6 24 [iv p0.Start, .slice aC p0.Rows.length aG], eRow (rI .i64) 3 (.slice a9 aj.length aa) aj] [fRep (rL r_api_Loop) (.slice au aH.1.length av) aH.1, fRep (rL r_api_Loop) (.slice ax aI.1.length ay) aI.1, fRep (rL r_A2_Int) (.slice ae ak.1.length af) ak.1, fRep (rL r_A2_Int) (.slice ag ap.1.length ah) ap.1, fRep (rL r_api_Row) (.slice aC p0.Rows.length aG) p0.Rows]) ?_ (fun a w hI => ?_)
 rotate_left
 ·obtain ⟨rfl, S⟩ := hI
  have h := cm
  try dsimp only at h
  refine sRegion (sM S fun a S => ?_)
  refine sBin _ S (wN rfl) rfl rfl rfl (bAdd _ _ _ _ aq 1) rfl (lb rfl) fun a S => ?_
  refine sN S fun a S => ?_
  exact lT (⟨w64 (aq + 1), (Option.some.inj h).symm, (S.fix [0, 1] [0, 1, 2, 3, 4] (by decide) rfl rfl rfl)⟩)
 refine wp_block ?_
 refine sSeq (fun gT dU => ?_)
 obtain ⟨a0, dV, h⟩ := bS h
 obtain ⟨bg, bl, h⟩ := bS h
 obtain ⟨a8, dW, h⟩ := bS h
 obtain ⟨bP, bJ, S⟩ := pIdx (P := Try.prog) (r := r_api_Loop) (v := .slice au aH.1.length av) (xs := aH.1) (j := aq) 26 48 0 S Try.underlying26 rfl rfl dV
 obtain ⟨fx, S⟩ := pLoad (r := r_api_Loop) (q := bP) (x := a0) 0 S rfl
 obtain ⟨fy, rfl, cv⟩ := S.mem.know (i := 1) (e := fRep r_api_Loop (fx) a0) rfl
 have S := S.learn (fRep (rL (rI .i64)) fy a0.Parents) cv
 obtain ⟨ab, ac, _, rfl, _⟩ := cv
 obtain ⟨bQ, bv, bw⟩ := pIdxR (P := Try.prog) (r := (rI .i64)) (T := 3) (v := .slice a9 aj.length aa) (xs := aj) (j := aq) 32 3 1 S Try.underlying32 rfl rfl bl
 obtain ⟨bG, bx, S⟩ := pIdx (P := Try.prog) (r := r_api_Loop) (v := .slice ax aI.1.length ay) (xs := aI.1) (j := bg) 26 48 5 S Try.underlying26 rfl rfl dW
 obtain ⟨fz, S⟩ := pLoad (r := r_api_Loop) (q := bG) (x := a8) 0 S rfl
 obtain ⟨fA, rfl, cw⟩ := S.mem.know (i := 1) (e := fRep r_api_Loop (fz) a8) rfl
 have S := S.learn (fRep (rL (rI .i64)) fA a8.Parents) cw
 obtain ⟨az, aA, _, rfl, _⟩ := cw
 refine sDraw (nf := [11, 12, 13, 14]) (W := [(0, 165, .slice au aH.1.length av), (1, 166, iv aq), (2, 167, bP), (3, 168, .agg #[iv a0.Row, iv a0.Cell, .slice ab a0.Parents.length ac, .bool a0.Purl]), (4, 169, .slice ax aI.1.length ay), (5, 170, .slice a9 aj.length aa), (6, 171, iv aq), (7, 172, bQ), (8, 173, iv bg), (9, 174, bG), (10, 175, .agg #[iv a8.Row, iv a8.Cell, .slice az a8.Parents.length aA, .bool a8.Purl])]) rfl S ?_
 refine nodeCut (fun N W L D => ∀ aK ao, N [12, 11] ((12, 22, .pointer (some ⟨aK, 0, none⟩)) :: (11, 21, .pointer (some ⟨ao, 0, none⟩)) :: W) ((eBox aK 48 [iv 0, iv 0, .slice none 0 0, .bool false]) :: (eBox ao 48 [iv 0, iv 0, .slice none 0 0, .bool false]) :: L) (D)) (fun aK ao => ?_) fun nd1 => ?_
 ·refine node_by (A := anc_raddlelaw27_LoopsFlips_0) 15 (by kernel_rfl) (by kernel_rfl) (by kernel_rfl) (by kernel_rfl) (by kernel_rfl) [12, 11, 0, 1, 2, 3, 4, 5, 6, 7, 8, 9, 10] (by kernel_rfl) (by decide) (by decide) (fF ?_ (fF ?_ (fF ?_ (fF ?_ (fF ?_ (fF ?_ (fF ?_ (fF ?_ (fF ?_ (fF ?_ (fF ?_ (fY (fY (fN ?_ (aB 14 0 13 (by decide) (trivial)))))))))))))))) [] (fun q hq => by cases hq) (fun hY => absurd (hY 13 (by decide)) (by decide))
  ·exact fM 2 none rfl rfl rfl rfl (.inl rfl) rfl rfl rfl
  ·exact fM 3 none rfl rfl rfl rfl (.inl rfl) rfl rfl rfl
  ·refine fJ [(165, _), (166, _)] 4 [some 2, some 3] fun G a w S => ?_
   exact sIdxV S (wN rfl) rfl rfl rfl bJ rfl (lb rfl) fun a S => leafL ⟨rfl, S⟩
  ·refine fJ [(167, _)] 5 [some 4] fun G a w S => ?_
   exact sLoadVN (vq := bP) 5 [iv a0.Row, iv a0.Cell, .slice ab a0.Parents.length ac, .bool a0.Purl] S (wN rfl) rfl rfl rfl rfl rfl rfl (lb rfl) fun a S => leafL ⟨rfl, S⟩
  ·exact fM 6 none rfl rfl rfl rfl (.inl rfl) rfl rfl rfl
  ·exact fM 7 none rfl rfl rfl rfl (.inl rfl) rfl rfl rfl
  ·exact fM 8 none rfl rfl rfl rfl (.inl rfl) rfl rfl rfl
  ·refine fJ [(170, _), (171, _)] 9 [some 7, some 8] fun G a w S => ?_
   exact sIdxV S (wN rfl) rfl rfl rfl bv rfl (lb rfl) fun a S => leafL ⟨rfl, S⟩
  ·refine fJ [(172, _)] 10 [some 9] fun G a w S => ?_
   exact sLoadR (r := (rI .i64)) (T := 3) (xs := aj) (x := bg) (v := .slice a9 aj.length aa) (vq := bQ) (j := aq) 3 (iv bg) S bw (wN rfl) rfl rfl rfl bl (fun _ _ _ h => h) (scal_I _) rfl rfl (lb rfl) fun a S => leafL ⟨rfl, S⟩
  ·refine fJ [(169, _), (173, _)] 11 [some 6, some 10] fun G a w S => ?_
   exact sIdxV S (wN rfl) rfl rfl rfl bx rfl (lb rfl) fun a S => leafL ⟨rfl, S⟩
  ·refine fJ [(174, _)] 12 [some 11] fun G a w S => ?_
   exact sLoadVN (vq := bG) 1 [iv a8.Row, iv a8.Cell, .slice az a8.Parents.length aA, .bool a8.Purl] S (wN rfl) rfl rfl rfl rfl rfl rfl (lb rfl) fun a S => leafL ⟨rfl, S⟩
  refine ⟨_, [(21, .pointer (some ⟨ao, 0, none⟩)), (168, .agg #[iv a0.Row, iv a0.Cell, .slice ab a0.Parents.length ac, .bool a0.Purl])], rfl, (srcs_of [some 1, some 5] rfl rfl rfl), fun G a w S => ?_⟩
  refine sStore (p := ao) (off := 0) (T := 48) (vs := [iv 0, iv 0, .slice none 0 0, .bool false]) (v := .agg #[iv a0.Row, iv a0.Cell, .slice ab a0.Parents.length ac, .bool a0.Purl]) 1 [iv a0.Row, iv a0.Cell, .slice ab a0.Parents.length ac, .bool a0.Purl] S (wN rfl) rfl rfl rfl rfl rfl rfl rfl (by simp) rfl fun a w S => ?_
  refine leafL ⟨rfl, _, _, .inr ⟨[], rfl, S, hz_of rfl, ?_⟩⟩
  refine node_by (A := anc_raddlelaw27_LoopsFlips_0) 15 (by kernel_rfl) (by kernel_rfl) (by kernel_rfl) (by kernel_rfl) (by kernel_rfl) [12, 11, 0, 1, 2, 3, 4, 5, 6, 7, 8, 9, 10] (by kernel_rfl) (by decide) (by decide) (fD 13 (fD 13 (fD 13 (fD 13 (fF ?_ (fF ?_ (fF ?_ (fF ?_ (fF ?_ (fF ?_ (fF ?_ (fY (fY (fY (fN ?_ (trivial)))))))))))))))) [] (fun q hq => by cases hq) (fun hY => absurd (hY 14 (by decide)) (by decide))
  ·exact fM 6 none rfl rfl rfl rfl (.inl rfl) rfl rfl rfl
  ·exact fM 7 none rfl rfl rfl rfl (.inl rfl) rfl rfl rfl
  ·exact fM 8 none rfl rfl rfl rfl (.inl rfl) rfl rfl rfl
  ·refine fJ [(170, _), (171, _)] 9 [some 7, some 8] fun G a w S => ?_
   exact sIdxV S (wN rfl) rfl rfl rfl bv rfl (lb rfl) fun a S => leafL ⟨rfl, S⟩
  ·refine fJ [(172, _)] 10 [some 9] fun G a w S => ?_
   exact sLoadR (r := (rI .i64)) (T := 3) (xs := aj) (x := bg) (v := .slice a9 aj.length aa) (vq := bQ) (j := aq) 3 (iv bg) S bw (wN rfl) rfl rfl rfl bl (fun _ _ _ h => h) (scal_I _) rfl rfl (lb rfl) fun a S => leafL ⟨rfl, S⟩
  ·refine fJ [(169, _), (173, _)] 11 [some 6, some 10] fun G a w S => ?_
   exact sIdxV S (wN rfl) rfl rfl rfl bx rfl (lb rfl) fun a S => leafL ⟨rfl, S⟩
  ·refine fJ [(174, _)] 12 [some 11] fun G a w S => ?_
   exact sLoadVN (vq := bG) 1 [iv a8.Row, iv a8.Cell, .slice az a8.Parents.length aA, .bool a8.Purl] S (wN rfl) rfl rfl rfl rfl rfl rfl (lb rfl) fun a S => leafL ⟨rfl, S⟩
  refine ⟨_, [(22, .pointer (some ⟨aK, 0, none⟩)), (175, .agg #[iv a8.Row, iv a8.Cell, .slice az a8.Parents.length aA, .bool a8.Purl])], rfl, (srcs_of [some 0, some 12] rfl rfl rfl), fun G a w S => ?_⟩
  refine sStore (p := aK) (off := 0) (T := 48) (vs := [iv 0, iv 0, .slice none 0 0, .bool false]) (v := .agg #[iv a8.Row, iv a8.Cell, .slice az a8.Parents.length aA, .bool a8.Purl]) 1 [iv a8.Row, iv a8.Cell, .slice az a8.Parents.length aA, .bool a8.Purl] S (wN rfl) rfl rfl rfl rfl rfl rfl rfl (by simp) rfl fun a w S => ?_
  refine leafL ⟨rfl, _, _, .inr ⟨[], rfl, S, hz_of rfl, ?_⟩⟩
  refine node_by (A := anc_raddlelaw27_LoopsFlips_0) 15 (by kernel_rfl) (by kernel_rfl) (by kernel_rfl) (by kernel_rfl) (by kernel_rfl) [12, 11, 0, 1, 2, 3, 4, 5, 6, 7, 8, 9, 10] (by kernel_rfl) (by decide) (by decide) (fD 14 (fD 14 (fD 14 (fD 14 (fD 14 (fD 14 (fD 14 (fD 14 (fD 14 (fD 14 (fD 14 (fY (fY (fY (fY (trivial)))))))))))))))) [(1, .pointer (some ⟨b6, 0, none⟩)), (3, .bool r8), (6, .slice au aH.1.length av), (8, .slice ax aI.1.length ay), (10, .slice ae ak.1.length af), (12, .slice ag ap.1.length ah), (14, .slice a9 aj.length aa), (20, iv aq), (21, .pointer (some ⟨ao, 0, none⟩)), (22, .pointer (some ⟨aK, 0, none⟩))] (fin_of [none, none, none, none, none, none, none, none, some 1, some 0] rfl (by kernel_rfl) (by kernel_rfl)) (fun _ a w S => ?_)
  refine leafT (dU _ _ ?_)
  refine sSeq (fun gU dX => ?_)
  obtain ⟨fB, h, fC⟩ := bS h
  refine sCut (fun a w => ∃ cO, cO = fB ∧ St [] E [] w0 318 a w [(1, .pointer (some ⟨b6, 0, none⟩)), (3, .bool r8), (6, .slice au aH.1.length av), (8, .slice ax aI.1.length ay), (10, .slice ae ak.1.length af), (12, .slice ag ap.1.length ah), (14, .slice a9 aj.length aa), (20, iv aq), (21, .pointer (some ⟨ao, 0, none⟩)), (22, .pointer (some ⟨aK, 0, none⟩)), (189, .bool cO)] [eBox b6 24 [iv p0.Start, .slice aC p0.Rows.length aG], eBox ao 48 [iv a0.Row, iv a0.Cell, .slice ab a0.Parents.length ac, .bool a0.Purl], eBox aK 48 [iv a8.Row, iv a8.Cell, .slice az a8.Parents.length aA, .bool a8.Purl], eRow (rI .i64) 3 (.slice a9 aj.length aa) aj] [fRep (rL r_api_Loop) (.slice au aH.1.length av) aH.1, fRep (rL r_api_Loop) (.slice ax aI.1.length ay) aI.1, fRep (rL r_A2_Int) (.slice ae ak.1.length af) ak.1, fRep (rL r_A2_Int) (.slice ag ap.1.length ah) ap.1, fRep (rL r_api_Row) (.slice aC p0.Rows.length aG) p0.Rows, fRep (rL (rI .i64)) (.slice ab a0.Parents.length ac) a0.Parents, fRep (rL (rI .i64)) (.slice az a8.Parents.length aA) a8.Parents]) ?_ (fun a w hI => ?_)
  ·refine sRegion (sField (b := ao) (off := 0) 0 0 S (wN rfl) rfl rfl rfl rfl rfl (lb rfl) fun a S => ?_)
   refine sLoad1 1 (iv a0.Row) S (wN rfl) rfl rfl rfl rfl rfl rfl (lb rfl) fun a S => ?_
   refine sField (b := aK) (off := 0) 0 0 S (wN rfl) rfl rfl rfl rfl rfl (lb rfl) fun a S => ?_
   refine sLoad1 0 (iv a8.Row) S (wN rfl) rfl rfl rfl rfl rfl rfl (lb rfl) fun a S => ?_
   refine sBin _ S (wN rfl) rfl rfl rfl (bNe _ _ _ _ .i64 a0.Row a8.Row) rfl (lb rfl) fun a S => ?_
   refine sM S fun a S => ?_
   rcases iS h with ⟨aW, h⟩ | ⟨aW, h⟩
   ·refine sSkN 7 5 false 181 S rfl rfl aW rfl fun a S => ?_
    refine sPickT (.bool true) S (wN rfl) rfl rfl aW rfl rfl (lb rfl) fun a S => ?_
    exact lT (⟨true, Option.some.inj h, S.fix [2, 1, 0, 3] [8, 9, 10, 11, 12, 4, 0] (by decide) rfl rfl rfl⟩)
   refine sField (b := ao) (off := 0) 2 2 S (wG 5 false 181 rfl rfl rfl aW) rfl rfl rfl rfl rfl (lb rfl) fun a S => ?_
   refine sLoad1 1 (.slice ab a0.Parents.length ac) S (wG 5 false 181 rfl rfl rfl aW) rfl rfl rfl rfl rfl rfl (lb rfl) fun a S => ?_
   refine sLen S (wG 5 false 181 rfl rfl rfl aW) rfl Try.underlying32 rfl rfl (lb rfl) fun a S => ?_
   refine sField (b := aK) (off := 0) 2 2 S (wG 5 false 181 rfl rfl rfl aW) rfl rfl rfl rfl rfl (lb rfl) fun a S => ?_
   refine sLoad1 0 (.slice az a8.Parents.length aA) S (wG 5 false 181 rfl rfl rfl aW) rfl rfl rfl rfl rfl rfl (lb rfl) fun a S => ?_
   refine sLen S (wG 5 false 181 rfl rfl rfl aW) rfl Try.underlying32 rfl rfl (lb rfl) fun a S => ?_
   refine sBin _ S (wG 5 false 181 rfl rfl rfl aW) rfl rfl rfl (bNe _ _ _ _ .i64 (a0.Parents.length : Int) (a8.Parents.length : Int)) rfl (lb rfl) fun a S => ?_
   refine sPickF (.bool ((a0.Parents.length : Int) != (a8.Parents.length : Int))) S (wN rfl) rfl rfl aW rfl rfl (lb rfl) fun a S => ?_
   exact lT (⟨(a0.Parents.length : Int) != (a8.Parents.length : Int), Option.some.inj h, S.fix [2, 1, 0, 3] [8, 9, 10, 11, 12, 4, 0] (by decide) rfl rfl rfl⟩)
  obtain ⟨cO, rfl, S⟩ := hI
  have h := fC
  try dsimp only at h
  rcases iS h with ⟨c8, h⟩ | ⟨c8, h⟩
  ·refine sCondT S rfl c8 ?_
   refine sSeq (fun gV dY => sRegion (sN S fun a S => ?_))
   refine lT (dY _ _ ?_)
   obtain rfl := tS h
   have h := cm
   try dsimp only at h
   obtain rfl := tS h
   obtain rfl := bI _ rfl
   have h := cl
   try dsimp only at h
   obtain rfl := tS h
   have h := cg
   try dsimp only at h
   obtain rfl := tS h
   exact wp_ret (rThen (rBlock (rThen (rThen (rBlock (rThen (sRet (.bool false) S (rsl1 rfl (rvT (t := 2) (v := .bool false) S rfl)) ⟨(), rfl, S.mem.sel [] [] (by decide) rfl rfl⟩)))))))
  refine sCondF S rfl c8 ?_
  refine wp_skip (leafT (dX _ _ ?_))
  obtain ⟨fG, h, dZ⟩ := bS h
  refine sCut (fun a w => .inl () = fG ∧ St [] E [] w0 318 a w [(1, .pointer (some ⟨b6, 0, none⟩)), (3, .bool r8), (6, .slice au aH.1.length av), (8, .slice ax aI.1.length ay), (10, .slice ae ak.1.length af), (12, .slice ag ap.1.length ah), (14, .slice a9 aj.length aa), (20, iv aq), (21, .pointer (some ⟨ao, 0, none⟩)), (22, .pointer (some ⟨aK, 0, none⟩))] [eBox b6 24 [iv p0.Start, .slice aC p0.Rows.length aG], eBox ao 48 [iv a0.Row, iv a0.Cell, .slice ab a0.Parents.length ac, .bool a0.Purl], eBox aK 48 [iv a8.Row, iv a8.Cell, .slice az a8.Parents.length aA, .bool a8.Purl], eRow (rI .i64) 3 (.slice a9 aj.length aa) aj] [fRep (rL r_api_Loop) (.slice au aH.1.length av) aH.1, fRep (rL r_api_Loop) (.slice ax aI.1.length ay) aI.1, fRep (rL r_A2_Int) (.slice ae ak.1.length af) ak.1, fRep (rL r_A2_Int) (.slice ag ap.1.length ah) ap.1, fRep (rL r_api_Row) (.slice aC p0.Rows.length aG) p0.Rows, fRep (rL (rI .i64)) (.slice ab a0.Parents.length ac) a0.Parents, fRep (rL (rI .i64)) (.slice az a8.Parents.length aA) a8.Parents]) ?_ (fun a w hI => ?_)
  rotate_left
  ·obtain ⟨rfl, S⟩ := hI
   have h := dZ
   try dsimp only at h
   refine sSeq (fun gW e7 => sSeq (fun gX ea => sRegion (sField (b := ao) (off := 0) 0 0 S (wN rfl) rfl rfl rfl rfl rfl (lb rfl) fun a S => ?_)))
   refine sLoad1 1 (iv a0.Row) S (wN rfl) rfl rfl rfl rfl rfl rfl (lb rfl) fun a S => ?_
   refine sBin _ S (wN rfl) rfl rfl rfl (bEq _ _ _ _ .i64 a0.Row 0) rfl (lb rfl) fun a S => ?_
   refine lT (ea _ _ ?_)
   rcases iS h with ⟨c9, h⟩ | ⟨c9, h⟩
   ·refine sCondT S rfl c9 ?_
    exact wp_exit (xThen (xHit (leafT (⟨Option.some.inj h, S.fix [0, 3] [0, 1, 2, 3, 4] (by decide) rfl rfl rfl⟩))))
   refine sCondF S rfl c9 ?_
   refine wp_skip (leafT (e7 _ _ ?_))
   refine sSeq (fun gY eb => ?_)
   obtain ⟨aX, ec, h⟩ := bS h
   obtain ⟨bH, ed, h⟩ := bS h
   obtain ⟨aS, ee, h⟩ := bS h
   obtain ⟨cP, ef, S⟩ := pIdx (P := Try.prog) (r := r_api_Row) (v := .slice aC p0.Rows.length aG) (xs := p0.Rows) (j := w64 (a0.Row - 1)) 22 65 4 S Try.underlying22 rfl rfl ec
   obtain ⟨fH, S⟩ := pLoad (r := r_api_Row) (q := cP) (x := aX) 0 S rfl
   obtain ⟨fK, rfl, cx⟩ := S.mem.know (i := 1) (e := fRep r_api_Row (fH) aX) rfl
   have S := S.learn (fRep (rL r_api_Stitch) fK aX.Cells) cx
   obtain ⟨bm, bn, _, rfl, _⟩ := cx
   refine sDraw (nf := [7]) (W := [(0, 229, .pointer (some ⟨b6, 1, none⟩)), (1, 230, .slice aC p0.Rows.length aG), (2, 231, .pointer (some ⟨ao, 0, none⟩)), (3, 232, iv a0.Row), (4, 233, iv (w64 (a0.Row - 1))), (5, 234, cP), (6, 235, .agg #[.bool aX.Back, .slice bm aX.Cells.length bn]), (8, 237, .pointer (some ⟨ao, 1, none⟩)), (9, 238, iv a0.Cell)]) rfl S ?_
   refine node_by (A := anc_raddlelaw27_LoopsFlips_2) 14 (by kernel_rfl) (by kernel_rfl) (by kernel_rfl) (by kernel_rfl) (by kernel_rfl) [0, 1, 2, 3, 4, 5, 6, 8, 9] (by kernel_rfl) (by decide) (by decide) (fF ?_ (fF ?_ (fF ?_ (fF ?_ (fF ?_ (fF ?_ (fF ?_ (fN ?_ (fF ?_ (fF ?_ (fE 7 (fE 7 (fE 7 (fE 7 (trivial))))))))))))))) [] (fun q hq => by cases hq) (fun hY => absurd (hY 7 (by decide)) (by decide))
   ·refine fJ [(1, _)] 0 [none] fun G a w S => ?_
    exact sField (b := b6) (off := 0) 1 1 S (wN rfl) rfl rfl rfl rfl rfl (lb rfl) fun a S => leafL ⟨rfl, S⟩
   ·refine fJ [(229, _)] 1 [some 0] fun G a w S => ?_
    exact sLoad1 0 (.slice aC p0.Rows.length aG) S (wN rfl) rfl rfl rfl rfl rfl rfl (lb rfl) fun a S => leafL ⟨rfl, S⟩
   ·refine fJ [(21, _)] 2 [none] fun G a w S => ?_
    exact sField (b := ao) (off := 0) 0 0 S (wN rfl) rfl rfl rfl rfl rfl (lb rfl) fun a S => leafL ⟨rfl, S⟩
   ·refine fJ [(231, _)] 3 [some 2] fun G a w S => ?_
    exact sLoad1 1 (iv a0.Row) S (wN rfl) rfl rfl rfl rfl rfl rfl (lb rfl) fun a S => leafL ⟨rfl, S⟩
   ·refine fJ [(232, _)] 4 [some 3] fun G a w S => ?_
    exact sBin _ S (wN rfl) rfl rfl rfl (bSub _ _ _ _ a0.Row 1) rfl (lb rfl) fun a S => leafL ⟨rfl, S⟩
   ·refine fJ [(230, _), (233, _)] 5 [some 1, some 4] fun G a w S => ?_
    exact sIdxV S (wN rfl) rfl rfl rfl ef rfl (lb rfl) fun a S => leafL ⟨rfl, S⟩
   ·refine fJ [(234, _)] 6 [some 5] fun G a w S => ?_
    exact sLoadVN (vq := cP) 1 [.bool aX.Back, .slice bm aX.Cells.length bn] S (wN rfl) rfl rfl rfl rfl rfl rfl (lb rfl) fun a S => leafL ⟨rfl, S⟩
   ·refine ⟨_, [(235, .agg #[.bool aX.Back, .slice bm aX.Cells.length bn])], rfl, (srcs_of [some 6] rfl rfl rfl), fun G a w S => ?_⟩
    refine sCall (X := Value) (f := 28) (vs := [.agg #[.bool aX.Back, .slice bm aX.Cells.length bn]]) (val := c_raddleref26_Seen_val bH) (B' := fun _ => []) (D' := c_raddleref26_Seen_D bH) [] [eBox b6 24 [iv p0.Start, .slice aC p0.Rows.length aG], eBox ao 48 [iv a0.Row, iv a0.Cell, .slice ab a0.Parents.length ac, .bool a0.Purl], eBox aK 48 [iv a8.Row, iv a8.Cell, .slice az a8.Parents.length aA, .bool a8.Purl], eRow (rI .i64) 3 (.slice a9 aj.length aa) aj] [fRep r_api_Row (.agg #[.bool aX.Back, .slice bm aX.Cells.length bn]) aX] [0, 1, 2, 3] [2] S (wN rfl) rfl callee28 rfl (by decide) rfl rfl (fun E1 w1 S1 => c_raddleref26_Seen E1 w1 aX (.agg #[.bool aX.Back, .slice bm aX.Cells.length bn]) bH ed S1) rfl (lb rfl) fun fL a w S => ?_
    obtain ⟨cy, cz, _, rfl, _⟩ := S.mem.know (i := 0) (e := fRep (rL r_api_Stitch) (fL) bH) rfl
    obtain ⟨cQ, eh, S⟩ := pIdx (P := Try.prog) (r := r_api_Stitch) (v := .slice cy bH.length cz) (xs := bH) (j := a0.Cell) 62 61 0 S Try.underlying62 rfl rfl ee
    obtain ⟨cR, ei, S⟩ := pFld (P := Try.prog) (r := r_api_Stitch) (s2 := (rI .u8)) (g := (·.Kind)) (q := cQ) (z := aS) 61 0 0 0 S rfl rfl comp_api_Stitch_Kind
    obtain ⟨ej, S⟩ := pLoad (r := (rI .u8)) (q := cR) (x := aS.Kind) 0 S rfl
    obtain rfl : ej = .int .u8 aS.Kind := S.mem.know (i := 1) (e := fRep (rI .u8) (ej) aS.Kind) rfl
    refine leafL ⟨rfl, _, _, .inl ⟨236, (.slice cy bH.length cz), [(10, 239, cQ), (11, 240, cR), (12, 241, .int .u8 aS.Kind), (13, 24, .int .u8 aS.Kind)], rfl, S, hz_of rfl, ?_⟩⟩
    refine node_by (A := anc_raddlelaw27_LoopsFlips_2) 14 (by kernel_rfl) (by kernel_rfl) (by kernel_rfl) (by kernel_rfl) (by kernel_rfl) [10, 11, 12, 13, 7, 0, 1, 2, 3, 4, 5, 6, 8, 9] (by kernel_rfl) (by decide) (by decide) (fD 7 (fD 7 (fD 7 (fD 7 (fD 7 (fD 7 (fD 7 (fY (fF ?_ (fF ?_ (fF ?_ (fF ?_ (fF ?_ (fF ?_ (trivial))))))))))))))) [(1, .pointer (some ⟨b6, 0, none⟩)), (3, .bool r8), (6, .slice au aH.1.length av), (8, .slice ax aI.1.length ay), (10, .slice ae ak.1.length af), (12, .slice ag ap.1.length ah), (14, .slice a9 aj.length aa), (20, iv aq), (21, .pointer (some ⟨ao, 0, none⟩)), (22, .pointer (some ⟨aK, 0, none⟩)), (24, .int .u8 aS.Kind)] (fin_of [none, none, none, none, none, none, none, none, none, none, some 3] rfl (by kernel_rfl) (by kernel_rfl)) (fun _ a w S => ?_)
    ·refine fJ [(21, _)] 12 [none] fun G a w S => ?_
     exact sField (b := ao) (off := 0) 1 1 S (wN rfl) rfl rfl rfl rfl rfl (lb rfl) fun a S => leafL ⟨rfl, S⟩
    ·refine fJ [(237, _)] 13 [some 12] fun G a w S => ?_
     exact sLoad1 1 (iv a0.Cell) S (wN rfl) rfl rfl rfl rfl rfl rfl (lb rfl) fun a S => leafL ⟨rfl, S⟩
    ·refine fJ [(236, _), (238, _)] 0 [some 4, some 13] fun G a w S => ?_
     exact sIdxV S (wN rfl) rfl rfl rfl eh rfl (lb rfl) fun a S => leafL ⟨rfl, S⟩
    ·refine fJ [(239, _)] 1 [some 0] fun G a w S => ?_
     exact sFldV (q := cQ) S (wN rfl) rfl rfl ei rfl (lb rfl) fun a S => leafL ⟨rfl, S⟩
    ·refine fJ [(240, _)] 2 [some 1] fun G a w S => ?_
     exact sLoadV1 (vq := cR) 0 (.int .u8 aS.Kind) S (wN rfl) rfl rfl rfl rfl rfl (lb rfl) fun a S => leafL ⟨rfl, S⟩
    ·exact fM 3 (some 2) rfl rfl rfl rfl (.inr rfl) rfl rfl rfl
    refine leafT (eb _ _ ?_)
    obtain ⟨fO, h, fP⟩ := bS h
    refine sCut (fun a w => ∃ cT, cT = fO ∧ St [] E [] w0 318 a w [(1, .pointer (some ⟨b6, 0, none⟩)), (3, .bool r8), (6, .slice au aH.1.length av), (8, .slice ax aI.1.length ay), (10, .slice ae ak.1.length af), (12, .slice ag ap.1.length ah), (14, .slice a9 aj.length aa), (20, iv aq), (257, .bool cT)] [eBox b6 24 [iv p0.Start, .slice aC p0.Rows.length aG], eRow (rI .i64) 3 (.slice a9 aj.length aa) aj] [fRep (rL r_api_Loop) (.slice au aH.1.length av) aH.1, fRep (rL r_api_Loop) (.slice ax aI.1.length ay) aI.1, fRep (rL r_A2_Int) (.slice ae ak.1.length af) ak.1, fRep (rL r_A2_Int) (.slice ag ap.1.length ah) ap.1, fRep (rL r_api_Row) (.slice aC p0.Rows.length aG) p0.Rows]) ?_ (fun a w hI => ?_)
    rotate_left
    ·obtain ⟨cT, rfl, S⟩ := hI
     have h := fP
     try dsimp only at h
     rcases iS h with ⟨ca, h⟩ | ⟨ca, h⟩
     rotate_left
     ·refine sCondF S rfl ca ?_
      exact wp_skip (leafB (leafT (⟨Option.some.inj h, S.fix [0, 1] [0, 1, 2, 3, 4] (by decide) rfl rfl rfl⟩)))
     refine sCondT S rfl ca ?_
     refine sSeq (fun gZ ek => sRegion (sN S fun a S => ?_))
     refine lT (ek _ _ ?_)
     obtain rfl := tS h
     have h := cm
     try dsimp only at h
     obtain rfl := tS h
     obtain rfl := bI _ rfl
     have h := cl
     try dsimp only at h
     obtain rfl := tS h
     have h := cg
     try dsimp only at h
     obtain rfl := tS h
     exact wp_ret (rBlock (rThen (rThen (rBlock (rThen (sRet (.bool false) S (rsl1 rfl (rvT (t := 2) (v := .bool false) S rfl)) ⟨(), rfl, S.mem.sel [] [] (by decide) rfl rfl⟩))))))
    refine sRegion (sM S fun a S => ?_)
    refine sBin _ S (wN rfl) rfl rfl rfl (bNe _ _ _ _ .u8 aS.Kind 8) rfl (lb rfl) fun a S => ?_
    refine sM S fun a S => ?_
    rcases iS h with ⟨aL, h⟩ | ⟨aL, h⟩
    rotate_left
    ·refine sSkN 8 2 true 244 S rfl rfl aL rfl fun a S => ?_
     refine sSkipU 10 false 252 253 S rfl rfl rfl rfl (lb rfl) fun a S => ?_
     refine sSkipU 10 false 252 254 S rfl rfl rfl rfl (lb rfl) fun a S => ?_
     refine sSkN 2 2 true 244 S rfl rfl aL rfl fun a S => ?_
     refine sPickF (.bool false) S (wN rfl) rfl rfl aL rfl rfl (lb rfl) fun a S => ?_
     exact lT (⟨false, Option.some.inj h, S.fix [0, 3] [9, 10, 11, 12, 13] (by decide) rfl rfl rfl⟩)
    refine sField (b := ao) (off := 0) 3 3 S (wG 2 true 244 rfl rfl rfl aL) rfl rfl rfl rfl rfl (lb rfl) fun a S => ?_
    refine sLoad1 1 (.bool a0.Purl) S (wG 2 true 244 rfl rfl rfl aL) rfl rfl rfl rfl rfl rfl (lb rfl) fun a S => ?_
    refine sField (b := aK) (off := 0) 3 3 S (wG 2 true 244 rfl rfl rfl aL) rfl rfl rfl rfl rfl (lb rfl) fun a S => ?_
    refine sLoad1 2 (.bool a8.Purl) S (wG 2 true 244 rfl rfl rfl aL) rfl rfl rfl rfl rfl rfl (lb rfl) fun a S => ?_
    refine sBin _ S (wG 2 true 244 rfl rfl rfl aL) rfl rfl rfl (bEqB _ _ _ _ Try.underlying4 a0.Purl a8.Purl) rfl (lb rfl) fun a S => ?_
    refine sMove (.int .u8 aS.Kind) S (wG 2 true 244 rfl rfl rfl aL) (.inl rfl) rfl rfl (lb rfl) fun a S => ?_
    refine sBin _ S (wG 2 true 244 rfl rfl rfl aL) rfl rfl rfl (bEq _ _ _ _ .u8 aS.Kind 2) rfl (lb rfl) fun a S => ?_
    refine sMove (.bool (aS.Kind == 2)) S (wG 2 true 244 rfl rfl rfl aL) (.inl rfl) rfl rfl (lb rfl) fun a S => ?_
    rcases iS h with ⟨bo, h⟩ | ⟨bo, h⟩
    ·refine sSkN 2 10 false 252 S rfl rfl bo rfl fun a S => ?_
     refine sPickT (.bool true) S (wG 2 true 244 rfl rfl rfl aL) rfl rfl bo rfl rfl (lb rfl) fun a S => ?_
     refine sBin _ S (wG 2 true 244 rfl rfl rfl aL) rfl rfl rfl (bNeB _ _ _ _ Try.underlying4 (a0.Purl == a8.Purl) true) rfl (lb rfl) fun a S => ?_
     refine sPickT (.bool ((a0.Purl == a8.Purl) != true)) S (wN rfl) rfl rfl aL rfl rfl (lb rfl) fun a S => ?_
     exact lT (⟨(a0.Purl == a8.Purl) != true, Option.some.inj h, S.fix [0, 3] [9, 10, 11, 12, 13] (by decide) rfl rfl rfl⟩)
    refine sMove (.int .u8 aS.Kind) S (wG 10 false 252 rfl rfl rfl bo) (.inl rfl) rfl rfl (lb rfl) fun a S => ?_
    refine sBin _ S (wG 10 false 252 rfl rfl rfl bo) rfl rfl rfl (bEq _ _ _ _ .u8 aS.Kind 9) rfl (lb rfl) fun a S => ?_
    refine sPickF (.bool (aS.Kind == 9)) S (wG 2 true 244 rfl rfl rfl aL) rfl rfl bo rfl rfl (lb rfl) fun a S => ?_
    refine sBin _ S (wG 2 true 244 rfl rfl rfl aL) rfl rfl rfl (bNeB _ _ _ _ Try.underlying4 (a0.Purl == a8.Purl) (aS.Kind == 9)) rfl (lb rfl) fun a S => ?_
    refine sPickT (.bool ((a0.Purl == a8.Purl) != (aS.Kind == 9))) S (wN rfl) rfl rfl aL rfl rfl (lb rfl) fun a S => ?_
    exact lT (⟨(a0.Purl == a8.Purl) != (aS.Kind == 9), Option.some.inj h, S.fix [0, 3] [9, 10, 11, 12, 13] (by decide) rfl rfl rfl⟩)
   ·refine fJ [(21, _)] 7 [none] fun G a w S => ?_
    exact sField (b := ao) (off := 0) 1 1 S (wN rfl) rfl rfl rfl rfl rfl (lb rfl) fun a S => leafL ⟨rfl, S⟩
   refine fJ [(237, _)] 8 [some 7] fun G a w S => ?_
   exact sLoad1 1 (iv a0.Cell) S (wN rfl) rfl rfl rfl rfl rfl rfl (lb rfl) fun a S => leafL ⟨rfl, S⟩
  refine sSeq (fun hG el => sRegion (sN S fun a S => ?_))
  refine lT (el _ _ (wp_block ?_))
  obtain ⟨hH, hl, en⟩ := bS h
  refine sLoop hl (fun s0 a w => match s0 with | aM => St [] E [] w0 318 a w [(1, .pointer (some ⟨b6, 0, none⟩)), (3, .bool r8), (6, .slice au aH.1.length av), (8, .slice ax aI.1.length ay), (10, .slice ae ak.1.length af), (12, .slice ag ap.1.length ah), (14, .slice a9 aj.length aa), (20, iv aq), (21, .pointer (some ⟨ao, 0, none⟩)), (22, .pointer (some ⟨aK, 0, none⟩)), (23, iv aM)] [eBox b6 24 [iv p0.Start, .slice aC p0.Rows.length aG], eBox ao 48 [iv a0.Row, iv a0.Cell, .slice ab a0.Parents.length ac, .bool a0.Purl], eBox aK 48 [iv a8.Row, iv a8.Cell, .slice az a8.Parents.length aA, .bool a8.Purl], eRow (rI .i64) 3 (.slice a9 aj.length aa) aj] [fRep (rL r_api_Loop) (.slice au aH.1.length av) aH.1, fRep (rL r_api_Loop) (.slice ax aI.1.length ay) aI.1, fRep (rL r_A2_Int) (.slice ae ak.1.length af) ak.1, fRep (rL r_A2_Int) (.slice ag ap.1.length ah) ap.1, fRep (rL r_api_Row) (.slice aC p0.Rows.length aG) p0.Rows, fRep (rL (rI .i64)) (.slice ab a0.Parents.length ac) a0.Parents, fRep (rL (rI .i64)) (.slice az a8.Parents.length aA) a8.Parents]) (S.fix [0, 1, 2, 3] [0, 1, 2, 3, 4, 5, 6] (by decide) rfl rfl rfl) ?_
  clear hl h
  intro aM a w c0 hI h cA
  unfold raddlelaw27_LoopsFlips_l3 at h
  dsimp only at h hI
  have S := hI
  refine sSeq (fun hM eo => sSeq (fun hO ep => sRegion (sM S fun a S => ?_)))
  refine sField (b := ao) (off := 0) 2 2 S (wN rfl) rfl rfl rfl rfl rfl (lb rfl) fun a S => ?_
  refine sLoad1 1 (.slice ab a0.Parents.length ac) S (wN rfl) rfl rfl rfl rfl rfl rfl (lb rfl) fun a S => ?_
  refine sLen S (wN rfl) rfl Try.underlying32 rfl rfl (lb rfl) fun a S => ?_
  refine sBin _ S (wN rfl) rfl rfl rfl (bLt _ _ _ _ .i64 aM (a0.Parents.length : Int)) rfl (lb rfl) fun a S => ?_
  refine lT (ep _ _ ?_)
  rcases iS h with ⟨cb, h⟩ | ⟨cb, h⟩
  rotate_left
  ·refine sCondF S rfl cb ?_
   obtain rfl := tS h
   obtain rfl := cA _ rfl
   have h := en
   try dsimp only at h
   exact wp_exit (xThen (xThen (xHit (leafT (⟨Option.some.inj h, S.fix [0, 1, 2, 3] [0, 1, 2, 3, 4, 5, 6] (by decide) rfl rfl rfl⟩)))))
  refine sCondT S rfl cb ?_
  refine wp_skip (leafT (eo _ _ ?_))
  refine sSeq (fun hP eq => wp_block ?_)
  obtain ⟨fQ, h, fR⟩ := bS h
  refine sCut (fun a w => ∃ cU, cU = fQ ∧ St [] E [] w0 318 a w [(1, .pointer (some ⟨b6, 0, none⟩)), (3, .bool r8), (6, .slice au aH.1.length av), (8, .slice ax aI.1.length ay), (10, .slice ae ak.1.length af), (12, .slice ag ap.1.length ah), (14, .slice a9 aj.length aa), (20, iv aq), (21, .pointer (some ⟨ao, 0, none⟩)), (22, .pointer (some ⟨aK, 0, none⟩)), (23, iv aM), (225, .bool cU)] [eBox b6 24 [iv p0.Start, .slice aC p0.Rows.length aG], eBox ao 48 [iv a0.Row, iv a0.Cell, .slice ab a0.Parents.length ac, .bool a0.Purl], eBox aK 48 [iv a8.Row, iv a8.Cell, .slice az a8.Parents.length aA, .bool a8.Purl], eRow (rI .i64) 3 (.slice a9 aj.length aa) aj] [fRep (rL r_api_Loop) (.slice au aH.1.length av) aH.1, fRep (rL r_api_Loop) (.slice ax aI.1.length ay) aI.1, fRep (rL r_A2_Int) (.slice ae ak.1.length af) ak.1, fRep (rL r_A2_Int) (.slice ag ap.1.length ah) ap.1, fRep (rL r_api_Row) (.slice aC p0.Rows.length aG) p0.Rows, fRep (rL (rI .i64)) (.slice ab a0.Parents.length ac) a0.Parents, fRep (rL (rI .i64)) (.slice az a8.Parents.length aA) a8.Parents]) ?_ (fun a w hI => ?_)
  rotate_left
  ·obtain ⟨cU, rfl, S⟩ := hI
   have h := fR
   try dsimp only at h
   rcases iS h with ⟨cc, h⟩ | ⟨cc, h⟩
   rotate_left
   ·refine sCondF S rfl cc ?_
    refine wp_skip (leafB (leafT (eq _ _ ?_)))
    refine sRegion (sM S fun a S => ?_)
    refine sBin _ S (wN rfl) rfl rfl rfl (bAdd _ _ _ _ aM 1) rfl (lb rfl) fun a S => ?_
    refine sN S fun a S => ?_
    exact lT (⟨w64 (aM + 1), (Option.some.inj h).symm, (S.fix [0, 1, 2, 3] [0, 1, 2, 3, 4, 5, 6] (by decide) rfl rfl rfl)⟩)
   refine sCondT S rfl cc ?_
   refine sSeq (fun hQ er => sRegion (sN S fun a S => ?_))
   refine lT (er _ _ ?_)
   obtain rfl := tS h
   obtain rfl := cA _ rfl
   have h := en
   try dsimp only at h
   obtain rfl := tS h
   have h := dZ
   try dsimp only at h
   obtain rfl := tS h
   have h := cm
   try dsimp only at h
   obtain rfl := tS h
   obtain rfl := bI _ rfl
   have h := cl
   try dsimp only at h
   obtain rfl := tS h
   have h := cg
   try dsimp only at h
   obtain rfl := tS h
   exact wp_ret (rBlock (rThen (rThen (rBlock (rThen (rBlock (rThen (rThen (rBlock (rThen (sRet (.bool false) S (rsl1 rfl (rvT (t := 2) (v := .bool false) S rfl)) ⟨(), rfl, S.mem.sel [] [] (by decide) rfl rfl⟩)))))))))))
  obtain ⟨ai, bp, h⟩ := bS h
  rcases iS h with ⟨aw, h⟩ | ⟨aw, h⟩
  ·obtain ⟨cV, es, S⟩ := pIdx (P := Try.prog) (r := (rI .i64)) (v := .slice ab a0.Parents.length ac) (xs := a0.Parents) (j := aM) 32 3 5 S Try.underlying32 rfl rfl bp
   obtain ⟨et, S⟩ := pLoad (r := (rI .i64)) (q := cV) (x := ai) 0 S rfl
   obtain rfl : et = iv ai := S.mem.know (i := 1) (e := fRep (rI .i64) (et) ai) rfl
   refine sDraw (nf := []) (W := [(0, 197, .pointer (some ⟨ao, 2, none⟩)), (1, 198, .slice ab a0.Parents.length ac), (2, 199, iv aM), (3, 200, cV), (4, 201, iv ai), (5, 202, .bool (decide (ai < 0))), (6, 203, .bool (decide (ai < 0))), (7, 204, undef), (8, 205, undef), (9, 206, undef), (10, 207, undef), (11, 208, undef), (12, 209, undef), (13, 210, undef), (14, 211, .bool true), (15, 212, .bool true), (16, 213, undef), (17, 214, undef), (18, 215, undef), (19, 216, undef), (20, 217, undef), (21, 218, undef), (22, 219, undef), (23, 220, undef), (24, 221, undef), (25, 222, undef), (26, 223, undef), (27, 224, undef), (28, 225, .bool true)]) rfl S ?_
   refine node_by (A := anc_raddlelaw27_LoopsFlips_1) 29 (by kernel_rfl) (by kernel_rfl) (by kernel_rfl) (by kernel_rfl) (by kernel_rfl) [0, 1, 2, 3, 4, 5, 6, 7, 8, 9, 10, 11, 12, 13, 14, 15, 16, 17, 18, 19, 20, 21, 22, 23, 24, 25, 26, 27, 28] (by kernel_rfl) (by decide) (by decide) (fF ?_ (fF ?_ (fF ?_ (fF ?_ (fF ?_ (fF ?_ (fF ?_ (fF ?_ (fF ?_ (fF ?_ (fF ?_ (fF ?_ (fF ?_ (fF ?_ (fF ?_ (fF ?_ (fF ?_ (fF ?_ (fF ?_ (fF ?_ (fF ?_ (fF ?_ (fF ?_ (fF ?_ (fF ?_ (fF ?_ (fF ?_ (fF ?_ (fF ?_ (trivial)))))))))))))))))))))))))))))) [(1, .pointer (some ⟨b6, 0, none⟩)), (3, .bool r8), (6, .slice au aH.1.length av), (8, .slice ax aI.1.length ay), (10, .slice ae ak.1.length af), (12, .slice ag ap.1.length ah), (14, .slice a9 aj.length aa), (20, iv aq), (21, .pointer (some ⟨ao, 0, none⟩)), (22, .pointer (some ⟨aK, 0, none⟩)), (23, iv aM), (204, undef), (205, undef), (206, undef), (207, undef), (208, undef), (209, undef), (210, undef), (213, undef), (214, undef), (215, undef), (216, undef), (217, undef), (218, undef), (219, undef), (220, undef), (221, undef), (222, undef), (223, undef), (224, undef), (225, .bool true)] (fin_of [none, none, none, none, none, none, none, none, none, none, none, some 7, some 8, some 9, some 10, some 11, some 12, some 13, some 16, some 17, some 18, some 19, some 20, some 21, some 22, some 23, some 24, some 25, some 26, some 27, some 28] rfl (by kernel_rfl) (by kernel_rfl)) (fun _ a w S => ?_)
   ·refine fJ [(21, _)] 0 [none] fun G a w S => ?_
    exact sField (b := ao) (off := 0) 2 2 S (wN rfl) rfl rfl rfl rfl rfl (lb rfl) fun a S => leafL ⟨rfl, S⟩
   ·refine fJ [(197, _)] 1 [some 0] fun G a w S => ?_
    exact sLoad1 1 (.slice ab a0.Parents.length ac) S (wN rfl) rfl rfl rfl rfl rfl rfl (lb rfl) fun a S => leafL ⟨rfl, S⟩
   ·exact fM 2 none rfl rfl rfl rfl (.inl rfl) rfl rfl rfl
   ·refine fJ [(198, _), (199, _)] 3 [some 1, some 2] fun G a w S => ?_
    exact sIdxV S (wN rfl) rfl rfl rfl es rfl (lb rfl) fun a S => leafL ⟨rfl, S⟩
   ·refine fJ [(200, _)] 4 [some 3] fun G a w S => ?_
    exact sLoadV1 (vq := cV) 0 (iv ai) S (wN rfl) rfl rfl rfl rfl rfl (lb rfl) fun a S => leafL ⟨rfl, S⟩
   ·refine fJ [(201, _)] 5 [some 4] fun G a w S => ?_
    exact sBin _ S (wN rfl) rfl rfl rfl (bLt _ _ _ _ .i64 ai 0) rfl (lb rfl) fun a S => leafL ⟨rfl, S⟩
   ·exact fM 6 (some 5) rfl rfl rfl rfl (.inl rfl) rfl rfl rfl
   ·refine fJ [(21, _), (203, _)] 7 [none, some 6] fun G a w S => ?_
    exact sSk S rfl rfl rfl aw rfl rfl fun a S => leafL ⟨rfl, S⟩
   ·refine fJ [(204, _), (203, _)] 8 [some 7, some 6] fun G a w S => ?_
    exact sSk S rfl rfl rfl aw rfl rfl fun a S => leafL ⟨rfl, S⟩
   ·refine fJ [(23, _), (203, _)] 9 [none, some 6] fun G a w S => ?_
    exact sSk S rfl rfl rfl aw rfl rfl fun a S => leafL ⟨rfl, S⟩
   ·refine fJ [(205, _), (206, _), (203, _)] 10 [some 8, some 9, some 6] fun G a w S => ?_
    exact sSk S rfl rfl rfl aw rfl rfl fun a S => leafL ⟨rfl, S⟩
   ·refine fJ [(207, _), (203, _)] 11 [some 10, some 6] fun G a w S => ?_
    exact sSk S rfl rfl rfl aw rfl rfl fun a S => leafL ⟨rfl, S⟩
   ·refine fJ [(20, _), (203, _)] 12 [none, some 6] fun G a w S => ?_
    exact sSk S rfl rfl rfl aw rfl rfl fun a S => leafL ⟨rfl, S⟩
   ·refine fJ [(208, _), (209, _), (203, _)] 13 [some 11, some 12, some 6] fun G a w S => ?_
    exact sSk S rfl rfl rfl aw rfl rfl fun a S => leafL ⟨rfl, S⟩
   ·refine fJ [(203, _), (210, _)] 14 [some 6, some 13] fun G a w S => ?_
    exact sPickT (.bool true) S (wN rfl) rfl rfl aw rfl rfl (lb rfl) fun a S => leafL ⟨rfl, S⟩
   ·exact fM 15 (some 14) rfl rfl rfl rfl (.inl rfl) rfl rfl rfl
   ·refine fJ [(22, _), (212, _)] 16 [none, some 15] fun G a w S => ?_
    exact sSk S rfl rfl rfl rfl rfl rfl fun a S => leafL ⟨rfl, S⟩
   ·refine fJ [(213, _), (212, _)] 17 [some 16, some 15] fun G a w S => ?_
    exact sSk S rfl rfl rfl rfl rfl rfl fun a S => leafL ⟨rfl, S⟩
   ·refine fJ [(14, _), (212, _)] 18 [none, some 15] fun G a w S => ?_
    exact sSk S rfl rfl rfl rfl rfl rfl fun a S => leafL ⟨rfl, S⟩
   ·refine fJ [(21, _), (212, _)] 19 [none, some 15] fun G a w S => ?_
    exact sSk S rfl rfl rfl rfl rfl rfl fun a S => leafL ⟨rfl, S⟩
   ·refine fJ [(216, _), (212, _)] 20 [some 19, some 15] fun G a w S => ?_
    exact sSk S rfl rfl rfl rfl rfl rfl fun a S => leafL ⟨rfl, S⟩
   ·refine fJ [(23, _), (212, _)] 21 [none, some 15] fun G a w S => ?_
    exact sSk S rfl rfl rfl rfl rfl rfl fun a S => leafL ⟨rfl, S⟩
   ·refine fJ [(217, _), (218, _), (212, _)] 22 [some 20, some 21, some 15] fun G a w S => ?_
    exact sSk S rfl rfl rfl rfl rfl rfl fun a S => leafL ⟨rfl, S⟩
   ·refine fJ [(219, _), (212, _)] 23 [some 22, some 15] fun G a w S => ?_
    exact sSk S rfl rfl rfl rfl rfl rfl fun a S => leafL ⟨rfl, S⟩
   ·refine fJ [(215, _), (220, _), (212, _)] 24 [some 18, some 23, some 15] fun G a w S => ?_
    exact sSk S rfl rfl rfl rfl rfl rfl fun a S => leafL ⟨rfl, S⟩
   ·refine fJ [(221, _), (212, _)] 25 [some 24, some 15] fun G a w S => ?_
    exact sSk S rfl rfl rfl rfl rfl rfl fun a S => leafL ⟨rfl, S⟩
   ·refine fJ [(214, _), (222, _), (212, _)] 26 [some 17, some 25, some 15] fun G a w S => ?_
    exact sSk S rfl rfl rfl rfl rfl rfl fun a S => leafL ⟨rfl, S⟩
   ·refine fJ [(223, _), (212, _)] 27 [some 26, some 15] fun G a w S => ?_
    exact sSk S rfl rfl rfl rfl rfl rfl fun a S => leafL ⟨rfl, S⟩
   ·refine fJ [(212, _), (224, _)] 28 [some 15, some 27] fun G a w S => ?_
    exact sPickT (.bool true) S (wN rfl) rfl rfl rfl rfl rfl (lb rfl) fun a S => leafL ⟨rfl, S⟩
   exact leafT (⟨true, Option.some.inj h, S.fix [0, 1, 2, 3] [3, 4, 5, 6, 7, 8, 9] (by decide) rfl rfl rfl⟩)
  rcases iS h with ⟨ar, h⟩ | ⟨ar, h⟩
  ·obtain ⟨cW, ev, S⟩ := pIdx (P := Try.prog) (r := (rI .i64)) (v := .slice ab a0.Parents.length ac) (xs := a0.Parents) (j := aM) 32 3 5 S Try.underlying32 rfl rfl bp
   obtain ⟨ew, S⟩ := pLoad (r := (rI .i64)) (q := cW) (x := ai) 0 S rfl
   obtain rfl : ew = iv ai := S.mem.know (i := 1) (e := fRep (rI .i64) (ew) ai) rfl
   obtain ⟨cn, ex, S⟩ := pIdx (P := Try.prog) (r := (rI .i64)) (v := .slice ab a0.Parents.length ac) (xs := a0.Parents) (j := aM) 32 3 8 S Try.underlying32 rfl rfl bp
   obtain ⟨ey, S⟩ := pLoad (r := (rI .i64)) (q := cn) (x := ai) 0 S rfl
   obtain rfl : ey = iv ai := S.mem.know (i := 1) (e := fRep (rI .i64) (ey) ai) rfl
   refine sDraw (nf := []) (W := [(0, 197, .pointer (some ⟨ao, 2, none⟩)), (1, 198, .slice ab a0.Parents.length ac), (2, 199, iv aM), (3, 200, cW), (4, 201, iv ai), (5, 202, .bool (decide (ai < 0))), (6, 203, .bool (decide (ai < 0))), (7, 204, .pointer (some ⟨ao, 2, none⟩)), (8, 205, .slice ab a0.Parents.length ac), (9, 206, iv aM), (10, 207, cn), (11, 208, iv ai), (12, 209, iv aq), (13, 210, .bool (decide (aq ≤ ai))), (14, 211, .bool (decide (aq ≤ ai))), (15, 212, .bool (decide (aq ≤ ai))), (16, 213, undef), (17, 214, undef), (18, 215, undef), (19, 216, undef), (20, 217, undef), (21, 218, undef), (22, 219, undef), (23, 220, undef), (24, 221, undef), (25, 222, undef), (26, 223, undef), (27, 224, undef), (28, 225, .bool true)]) rfl S ?_
   refine node_by (A := anc_raddlelaw27_LoopsFlips_1) 29 (by kernel_rfl) (by kernel_rfl) (by kernel_rfl) (by kernel_rfl) (by kernel_rfl) [0, 1, 2, 3, 4, 5, 6, 7, 8, 9, 10, 11, 12, 13, 14, 15, 16, 17, 18, 19, 20, 21, 22, 23, 24, 25, 26, 27, 28] (by kernel_rfl) (by decide) (by decide) (fF ?_ (fF ?_ (fF ?_ (fF ?_ (fF ?_ (fF ?_ (fF ?_ (fF ?_ (fF ?_ (fF ?_ (fF ?_ (fF ?_ (fF ?_ (fF ?_ (fF ?_ (fF ?_ (fF ?_ (fF ?_ (fF ?_ (fF ?_ (fF ?_ (fF ?_ (fF ?_ (fF ?_ (fF ?_ (fF ?_ (fF ?_ (fF ?_ (fF ?_ (trivial)))))))))))))))))))))))))))))) [(1, .pointer (some ⟨b6, 0, none⟩)), (3, .bool r8), (6, .slice au aH.1.length av), (8, .slice ax aI.1.length ay), (10, .slice ae ak.1.length af), (12, .slice ag ap.1.length ah), (14, .slice a9 aj.length aa), (20, iv aq), (21, .pointer (some ⟨ao, 0, none⟩)), (22, .pointer (some ⟨aK, 0, none⟩)), (23, iv aM), (204, .pointer (some ⟨ao, 2, none⟩)), (205, .slice ab a0.Parents.length ac), (206, iv aM), (207, cn), (208, iv ai), (209, iv aq), (210, .bool (decide (aq ≤ ai))), (213, undef), (214, undef), (215, undef), (216, undef), (217, undef), (218, undef), (219, undef), (220, undef), (221, undef), (222, undef), (223, undef), (224, undef), (225, .bool true)] (fin_of [none, none, none, none, none, none, none, none, none, none, none, some 7, some 8, some 9, some 10, some 11, some 12, some 13, some 16, some 17, some 18, some 19, some 20, some 21, some 22, some 23, some 24, some 25, some 26, some 27, some 28] rfl (by kernel_rfl) (by kernel_rfl)) (fun _ a w S => ?_)
   ·refine fJ [(21, _)] 0 [none] fun G a w S => ?_
    exact sField (b := ao) (off := 0) 2 2 S (wN rfl) rfl rfl rfl rfl rfl (lb rfl) fun a S => leafL ⟨rfl, S⟩
   ·refine fJ [(197, _)] 1 [some 0] fun G a w S => ?_
    exact sLoad1 1 (.slice ab a0.Parents.length ac) S (wN rfl) rfl rfl rfl rfl rfl rfl (lb rfl) fun a S => leafL ⟨rfl, S⟩
   ·exact fM 2 none rfl rfl rfl rfl (.inl rfl) rfl rfl rfl
   ·refine fJ [(198, _), (199, _)] 3 [some 1, some 2] fun G a w S => ?_
    exact sIdxV S (wN rfl) rfl rfl rfl ev rfl (lb rfl) fun a S => leafL ⟨rfl, S⟩
   ·refine fJ [(200, _)] 4 [some 3] fun G a w S => ?_
    exact sLoadV1 (vq := cW) 3 (iv ai) S (wN rfl) rfl rfl rfl rfl rfl (lb rfl) fun a S => leafL ⟨rfl, S⟩
   ·refine fJ [(201, _)] 5 [some 4] fun G a w S => ?_
    exact sBin _ S (wN rfl) rfl rfl rfl (bLt _ _ _ _ .i64 ai 0) rfl (lb rfl) fun a S => leafL ⟨rfl, S⟩
   ·exact fM 6 (some 5) rfl rfl rfl rfl (.inl rfl) rfl rfl rfl
   ·refine fJ [(21, _), (203, _)] 7 [none, some 6] fun G a w S => ?_
    exact sField (b := ao) (off := 0) 2 2 S (wG 6 false 203 rfl rfl rfl aw) rfl rfl rfl rfl rfl (lb rfl) fun a S => leafL ⟨rfl, S⟩
   ·refine fJ [(204, _), (203, _)] 8 [some 7, some 6] fun G a w S => ?_
    exact sLoad1 1 (.slice ab a0.Parents.length ac) S (wG 6 false 203 rfl rfl rfl aw) rfl rfl rfl rfl rfl rfl (lb rfl) fun a S => leafL ⟨rfl, S⟩
   ·refine fJ [(23, _), (203, _)] 9 [none, some 6] fun G a w S => ?_
    exact sMove (iv aM) S (wG 6 false 203 rfl rfl rfl aw) (.inl rfl) rfl rfl (lb rfl) fun a S => leafL ⟨rfl, S⟩
   ·refine fJ [(205, _), (206, _), (203, _)] 10 [some 8, some 9, some 6] fun G a w S => ?_
    exact sIdxV S (wG 6 false 203 rfl rfl rfl aw) rfl rfl rfl ex rfl (lb rfl) fun a S => leafL ⟨rfl, S⟩
   ·refine fJ [(207, _), (203, _)] 11 [some 10, some 6] fun G a w S => ?_
    exact sLoadV1 (vq := cn) 0 (iv ai) S (wG 6 false 203 rfl rfl rfl aw) rfl rfl rfl rfl rfl (lb rfl) fun a S => leafL ⟨rfl, S⟩
   ·refine fJ [(20, _), (203, _)] 12 [none, some 6] fun G a w S => ?_
    exact sMove (iv aq) S (wG 6 false 203 rfl rfl rfl aw) (.inl rfl) rfl rfl (lb rfl) fun a S => leafL ⟨rfl, S⟩
   ·refine fJ [(208, _), (209, _), (203, _)] 13 [some 11, some 12, some 6] fun G a w S => ?_
    exact sBin _ S (wG 6 false 203 rfl rfl rfl aw) rfl rfl rfl (bGe _ _ _ _ .i64 ai aq) rfl (lb rfl) fun a S => leafL ⟨rfl, S⟩
   ·refine fJ [(203, _), (210, _)] 14 [some 6, some 13] fun G a w S => ?_
    exact sPickF (.bool (decide (aq ≤ ai))) S (wN rfl) rfl rfl aw rfl rfl (lb rfl) fun a S => leafL ⟨rfl, S⟩
   ·exact fM 15 (some 14) rfl rfl rfl rfl (.inl rfl) rfl rfl rfl
   ·refine fJ [(22, _), (212, _)] 16 [none, some 15] fun G a w S => ?_
    exact sSk S rfl rfl rfl ar rfl rfl fun a S => leafL ⟨rfl, S⟩
   ·refine fJ [(213, _), (212, _)] 17 [some 16, some 15] fun G a w S => ?_
    exact sSk S rfl rfl rfl ar rfl rfl fun a S => leafL ⟨rfl, S⟩
   ·refine fJ [(14, _), (212, _)] 18 [none, some 15] fun G a w S => ?_
    exact sSk S rfl rfl rfl ar rfl rfl fun a S => leafL ⟨rfl, S⟩
   ·refine fJ [(21, _), (212, _)] 19 [none, some 15] fun G a w S => ?_
    exact sSk S rfl rfl rfl ar rfl rfl fun a S => leafL ⟨rfl, S⟩
   ·refine fJ [(216, _), (212, _)] 20 [some 19, some 15] fun G a w S => ?_
    exact sSk S rfl rfl rfl ar rfl rfl fun a S => leafL ⟨rfl, S⟩
   ·refine fJ [(23, _), (212, _)] 21 [none, some 15] fun G a w S => ?_
    exact sSk S rfl rfl rfl ar rfl rfl fun a S => leafL ⟨rfl, S⟩
   ·refine fJ [(217, _), (218, _), (212, _)] 22 [some 20, some 21, some 15] fun G a w S => ?_
    exact sSk S rfl rfl rfl ar rfl rfl fun a S => leafL ⟨rfl, S⟩
   ·refine fJ [(219, _), (212, _)] 23 [some 22, some 15] fun G a w S => ?_
    exact sSk S rfl rfl rfl ar rfl rfl fun a S => leafL ⟨rfl, S⟩
   ·refine fJ [(215, _), (220, _), (212, _)] 24 [some 18, some 23, some 15] fun G a w S => ?_
    exact sSk S rfl rfl rfl ar rfl rfl fun a S => leafL ⟨rfl, S⟩
   ·refine fJ [(221, _), (212, _)] 25 [some 24, some 15] fun G a w S => ?_
    exact sSk S rfl rfl rfl ar rfl rfl fun a S => leafL ⟨rfl, S⟩
   ·refine fJ [(214, _), (222, _), (212, _)] 26 [some 17, some 25, some 15] fun G a w S => ?_
    exact sSk S rfl rfl rfl ar rfl rfl fun a S => leafL ⟨rfl, S⟩
   ·refine fJ [(223, _), (212, _)] 27 [some 26, some 15] fun G a w S => ?_
    exact sSk S rfl rfl rfl ar rfl rfl fun a S => leafL ⟨rfl, S⟩
   ·refine fJ [(212, _), (224, _)] 28 [some 15, some 27] fun G a w S => ?_
    exact sPickT (.bool true) S (wN rfl) rfl rfl ar rfl rfl (lb rfl) fun a S => leafL ⟨rfl, S⟩
   exact leafT (⟨true, Option.some.inj h, S.fix [0, 1, 2, 3] [6, 7, 8, 9, 10, 11, 12] (by decide) rfl rfl rfl⟩)
  obtain ⟨bR, cB, h⟩ := bS h
  obtain ⟨bi, ez, h⟩ := bS h
  obtain ⟨cX, eA, S⟩ := pIdx (P := Try.prog) (r := (rI .i64)) (v := .slice ab a0.Parents.length ac) (xs := a0.Parents) (j := aM) 32 3 5 S Try.underlying32 rfl rfl bp
  obtain ⟨eB, S⟩ := pLoad (r := (rI .i64)) (q := cX) (x := ai) 0 S rfl
  obtain rfl : eB = iv ai := S.mem.know (i := 1) (e := fRep (rI .i64) (eB) ai) rfl
  obtain ⟨co, eC, S⟩ := pIdx (P := Try.prog) (r := (rI .i64)) (v := .slice ab a0.Parents.length ac) (xs := a0.Parents) (j := aM) 32 3 8 S Try.underlying32 rfl rfl bp
  obtain ⟨eD, S⟩ := pLoad (r := (rI .i64)) (q := co) (x := ai) 0 S rfl
  obtain rfl : eD = iv ai := S.mem.know (i := 1) (e := fRep (rI .i64) (eD) ai) rfl
  obtain ⟨cp, eE, S⟩ := pIdx (P := Try.prog) (r := (rI .i64)) (v := .slice ab a0.Parents.length ac) (xs := a0.Parents) (j := aM) 32 3 11 S Try.underlying32 rfl rfl bp
  obtain ⟨eF, S⟩ := pLoad (r := (rI .i64)) (q := cp) (x := ai) 0 S rfl
  obtain rfl : eF = iv ai := S.mem.know (i := 1) (e := fRep (rI .i64) (eF) ai) rfl
  obtain ⟨cY, eG, eH⟩ := pIdxR (P := Try.prog) (r := (rI .i64)) (T := 3) (v := .slice a9 aj.length aa) (xs := aj) (j := ai) 32 3 3 S Try.underlying32 rfl rfl cB
  refine sDraw (nf := []) (W := [(0, 197, .pointer (some ⟨ao, 2, none⟩)), (1, 198, .slice ab a0.Parents.length ac), (2, 199, iv aM), (3, 200, cX), (4, 201, iv ai), (5, 202, .bool (decide (ai < 0))), (6, 203, .bool (decide (ai < 0))), (7, 204, .pointer (some ⟨ao, 2, none⟩)), (8, 205, .slice ab a0.Parents.length ac), (9, 206, iv aM), (10, 207, co), (11, 208, iv ai), (12, 209, iv aq), (13, 210, .bool (decide (aq ≤ ai))), (14, 211, .bool (decide (aq ≤ ai))), (15, 212, .bool (decide (aq ≤ ai))), (16, 213, .pointer (some ⟨aK, 2, none⟩)), (17, 214, .slice az a8.Parents.length aA), (18, 215, .slice a9 aj.length aa), (19, 216, .pointer (some ⟨ao, 2, none⟩)), (20, 217, .slice ab a0.Parents.length ac), (21, 218, iv aM), (22, 219, cp), (23, 220, iv ai), (24, 221, cY), (25, 222, iv bR), (26, 223, .bool bi), (27, 224, .bool (!bi)), (28, 225, .bool (!bi))]) rfl S ?_
  refine node_by (A := anc_raddlelaw27_LoopsFlips_1) 29 (by kernel_rfl) (by kernel_rfl) (by kernel_rfl) (by kernel_rfl) (by kernel_rfl) [0, 1, 2, 3, 4, 5, 6, 7, 8, 9, 10, 11, 12, 13, 14, 15, 16, 17, 18, 19, 20, 21, 22, 23, 24, 25, 26, 27, 28] (by kernel_rfl) (by decide) (by decide) (fF ?_ (fF ?_ (fF ?_ (fF ?_ (fF ?_ (fF ?_ (fF ?_ (fF ?_ (fF ?_ (fF ?_ (fF ?_ (fF ?_ (fF ?_ (fF ?_ (fF ?_ (fF ?_ (fF ?_ (fF ?_ (fF ?_ (fF ?_ (fF ?_ (fF ?_ (fF ?_ (fF ?_ (fF ?_ (fF ?_ (fF ?_ (fF ?_ (fF ?_ (trivial)))))))))))))))))))))))))))))) [(1, .pointer (some ⟨b6, 0, none⟩)), (3, .bool r8), (6, .slice au aH.1.length av), (8, .slice ax aI.1.length ay), (10, .slice ae ak.1.length af), (12, .slice ag ap.1.length ah), (14, .slice a9 aj.length aa), (20, iv aq), (21, .pointer (some ⟨ao, 0, none⟩)), (22, .pointer (some ⟨aK, 0, none⟩)), (23, iv aM), (204, .pointer (some ⟨ao, 2, none⟩)), (205, .slice ab a0.Parents.length ac), (206, iv aM), (207, co), (208, iv ai), (209, iv aq), (210, .bool (decide (aq ≤ ai))), (213, .pointer (some ⟨aK, 2, none⟩)), (214, .slice az a8.Parents.length aA), (215, .slice a9 aj.length aa), (216, .pointer (some ⟨ao, 2, none⟩)), (217, .slice ab a0.Parents.length ac), (218, iv aM), (219, cp), (220, iv ai), (221, cY), (222, iv bR), (223, .bool bi), (224, .bool (!bi)), (225, .bool (!bi))] (fin_of [none, none, none, none, none, none, none, none, none, none, none, some 7, some 8, some 9, some 10, some 11, some 12, some 13, some 16, some 17, some 18, some 19, some 20, some 21, some 22, some 23, some 24, some 25, some 26, some 27, some 28] rfl (by kernel_rfl) (by kernel_rfl)) (fun _ a w S => ?_)
  ·refine fJ [(21, _)] 0 [none] fun G a w S => ?_
   exact sField (b := ao) (off := 0) 2 2 S (wN rfl) rfl rfl rfl rfl rfl (lb rfl) fun a S => leafL ⟨rfl, S⟩
  ·refine fJ [(197, _)] 1 [some 0] fun G a w S => ?_
   exact sLoad1 1 (.slice ab a0.Parents.length ac) S (wN rfl) rfl rfl rfl rfl rfl rfl (lb rfl) fun a S => leafL ⟨rfl, S⟩
  ·exact fM 2 none rfl rfl rfl rfl (.inl rfl) rfl rfl rfl
  ·refine fJ [(198, _), (199, _)] 3 [some 1, some 2] fun G a w S => ?_
   exact sIdxV S (wN rfl) rfl rfl rfl eA rfl (lb rfl) fun a S => leafL ⟨rfl, S⟩
  ·refine fJ [(200, _)] 4 [some 3] fun G a w S => ?_
   exact sLoadV1 (vq := cX) 6 (iv ai) S (wN rfl) rfl rfl rfl rfl rfl (lb rfl) fun a S => leafL ⟨rfl, S⟩
  ·refine fJ [(201, _)] 5 [some 4] fun G a w S => ?_
   exact sBin _ S (wN rfl) rfl rfl rfl (bLt _ _ _ _ .i64 ai 0) rfl (lb rfl) fun a S => leafL ⟨rfl, S⟩
  ·exact fM 6 (some 5) rfl rfl rfl rfl (.inl rfl) rfl rfl rfl
  ·refine fJ [(21, _), (203, _)] 7 [none, some 6] fun G a w S => ?_
   exact sField (b := ao) (off := 0) 2 2 S (wG 6 false 203 rfl rfl rfl aw) rfl rfl rfl rfl rfl (lb rfl) fun a S => leafL ⟨rfl, S⟩
  ·refine fJ [(204, _), (203, _)] 8 [some 7, some 6] fun G a w S => ?_
   exact sLoad1 1 (.slice ab a0.Parents.length ac) S (wG 6 false 203 rfl rfl rfl aw) rfl rfl rfl rfl rfl rfl (lb rfl) fun a S => leafL ⟨rfl, S⟩
  ·refine fJ [(23, _), (203, _)] 9 [none, some 6] fun G a w S => ?_
   exact sMove (iv aM) S (wG 6 false 203 rfl rfl rfl aw) (.inl rfl) rfl rfl (lb rfl) fun a S => leafL ⟨rfl, S⟩
  ·refine fJ [(205, _), (206, _), (203, _)] 10 [some 8, some 9, some 6] fun G a w S => ?_
   exact sIdxV S (wG 6 false 203 rfl rfl rfl aw) rfl rfl rfl eC rfl (lb rfl) fun a S => leafL ⟨rfl, S⟩
  ·refine fJ [(207, _), (203, _)] 11 [some 10, some 6] fun G a w S => ?_
   exact sLoadV1 (vq := co) 3 (iv ai) S (wG 6 false 203 rfl rfl rfl aw) rfl rfl rfl rfl rfl (lb rfl) fun a S => leafL ⟨rfl, S⟩
  ·refine fJ [(20, _), (203, _)] 12 [none, some 6] fun G a w S => ?_
   exact sMove (iv aq) S (wG 6 false 203 rfl rfl rfl aw) (.inl rfl) rfl rfl (lb rfl) fun a S => leafL ⟨rfl, S⟩
  ·refine fJ [(208, _), (209, _), (203, _)] 13 [some 11, some 12, some 6] fun G a w S => ?_
   exact sBin _ S (wG 6 false 203 rfl rfl rfl aw) rfl rfl rfl (bGe _ _ _ _ .i64 ai aq) rfl (lb rfl) fun a S => leafL ⟨rfl, S⟩
  ·refine fJ [(203, _), (210, _)] 14 [some 6, some 13] fun G a w S => ?_
   exact sPickF (.bool (decide (aq ≤ ai))) S (wN rfl) rfl rfl aw rfl rfl (lb rfl) fun a S => leafL ⟨rfl, S⟩
  ·exact fM 15 (some 14) rfl rfl rfl rfl (.inl rfl) rfl rfl rfl
  ·refine fJ [(22, _), (212, _)] 16 [none, some 15] fun G a w S => ?_
   exact sField (b := aK) (off := 0) 2 2 S (wG 15 false 212 rfl rfl rfl ar) rfl rfl rfl rfl rfl (lb rfl) fun a S => leafL ⟨rfl, S⟩
  ·refine fJ [(213, _), (212, _)] 17 [some 16, some 15] fun G a w S => ?_
   exact sLoad1 2 (.slice az a8.Parents.length aA) S (wG 15 false 212 rfl rfl rfl ar) rfl rfl rfl rfl rfl rfl (lb rfl) fun a S => leafL ⟨rfl, S⟩
  ·refine fJ [(14, _), (212, _)] 18 [none, some 15] fun G a w S => ?_
   exact sMove (.slice a9 aj.length aa) S (wG 15 false 212 rfl rfl rfl ar) (.inl rfl) rfl rfl (lb rfl) fun a S => leafL ⟨rfl, S⟩
  ·refine fJ [(21, _), (212, _)] 19 [none, some 15] fun G a w S => ?_
   exact sField (b := ao) (off := 0) 2 2 S (wG 15 false 212 rfl rfl rfl ar) rfl rfl rfl rfl rfl (lb rfl) fun a S => leafL ⟨rfl, S⟩
  ·refine fJ [(216, _), (212, _)] 20 [some 19, some 15] fun G a w S => ?_
   exact sLoad1 1 (.slice ab a0.Parents.length ac) S (wG 15 false 212 rfl rfl rfl ar) rfl rfl rfl rfl rfl rfl (lb rfl) fun a S => leafL ⟨rfl, S⟩
  ·refine fJ [(23, _), (212, _)] 21 [none, some 15] fun G a w S => ?_
   exact sMove (iv aM) S (wG 15 false 212 rfl rfl rfl ar) (.inl rfl) rfl rfl (lb rfl) fun a S => leafL ⟨rfl, S⟩
  ·refine fJ [(217, _), (218, _), (212, _)] 22 [some 20, some 21, some 15] fun G a w S => ?_
   exact sIdxV S (wG 15 false 212 rfl rfl rfl ar) rfl rfl rfl eE rfl (lb rfl) fun a S => leafL ⟨rfl, S⟩
  ·refine fJ [(219, _), (212, _)] 23 [some 22, some 15] fun G a w S => ?_
   exact sLoadV1 (vq := cp) 0 (iv ai) S (wG 15 false 212 rfl rfl rfl ar) rfl rfl rfl rfl rfl (lb rfl) fun a S => leafL ⟨rfl, S⟩
  ·refine fJ [(215, _), (220, _), (212, _)] 24 [some 18, some 23, some 15] fun G a w S => ?_
   exact sIdxV S (wG 15 false 212 rfl rfl rfl ar) rfl rfl rfl eG rfl (lb rfl) fun a S => leafL ⟨rfl, S⟩
  ·refine fJ [(221, _), (212, _)] 25 [some 24, some 15] fun G a w S => ?_
   exact sLoadR (r := (rI .i64)) (T := 3) (xs := aj) (x := bR) (v := .slice a9 aj.length aa) (vq := cY) (j := ai) 3 (iv bR) S eH (wG 15 false 212 rfl rfl rfl ar) rfl rfl rfl cB (fun _ _ _ h => h) (scal_I _) rfl rfl (lb rfl) fun a S => leafL ⟨rfl, S⟩
  ·refine fJ [(214, _), (222, _), (212, _)] 26 [some 17, some 25, some 15] fun G a w S => ?_
   have S1 := S.mem
   refine sCallQ (X := Unit) (f := 27) (vs := [.slice az a8.Parents.length aA, iv bR]) (val := fun _ => .bool bi) S (wG 15 false 212 rfl rfl rfl ar) rfl callee27 rfl (S1.quiet [15] rfl) (fun E1 w1 S1 => c_raddleref27_Has E1 w1 a8.Parents (.slice az a8.Parents.length aA) bR bi ez S1) rfl (lb rfl) fun _ a w S => ?_
   exact leafL ⟨rfl, S⟩
  ·refine fJ [(223, _), (212, _)] 27 [some 26, some 15] fun G a w S => ?_
   exact sNot (b := bi) S (wG 15 false 212 rfl rfl rfl ar) rfl rfl rfl (lb rfl) fun a S => leafL ⟨rfl, S⟩
  ·refine fJ [(212, _), (224, _)] 28 [some 15, some 27] fun G a w S => ?_
   exact sPickF (.bool (!bi)) S (wN rfl) rfl rfl ar rfl rfl (lb rfl) fun a S => leafL ⟨rfl, S⟩
  exact leafT (⟨!bi, Option.some.inj h, S.fix [0, 1, 2, 3] [9, 10, 11, 12, 13, 14, 15] (by decide) rfl rfl rfl⟩)
 refine node_by (A := anc_raddlelaw27_LoopsFlips_0) 15 (by kernel_rfl) (by kernel_rfl) (by kernel_rfl) (by kernel_rfl) (by kernel_rfl) [0, 1, 2, 3, 4, 5, 6, 7, 8, 9, 10] (by kernel_rfl) (by decide) (by decide) (fF ?_ (fF ?_ (fF ?_ (fF ?_ (fF ?_ (fF ?_ (fF ?_ (fF ?_ (fF ?_ (fF ?_ (fF ?_ (fN ?_ (fN ?_ (aB 13 1 11 (by decide) (aB 14 0 11 (by decide) (trivial)))))))))))))))) [] (fun q hq => by cases hq) (fun hY => absurd (hY 11 (by decide)) (by decide))
 ·exact fM 0 none rfl rfl rfl rfl (.inl rfl) rfl rfl rfl
 ·exact fM 1 none rfl rfl rfl rfl (.inl rfl) rfl rfl rfl
 ·refine fJ [(165, _), (166, _)] 2 [some 0, some 1] fun G a w S => ?_
  exact sIdxV S (wN rfl) rfl rfl rfl bJ rfl (lb rfl) fun a S => leafL ⟨rfl, S⟩
 ·refine fJ [(167, _)] 3 [some 2] fun G a w S => ?_
  exact sLoadVN (vq := bP) 5 [iv a0.Row, iv a0.Cell, .slice ab a0.Parents.length ac, .bool a0.Purl] S (wN rfl) rfl rfl rfl rfl rfl rfl (lb rfl) fun a S => leafL ⟨rfl, S⟩
 ·exact fM 4 none rfl rfl rfl rfl (.inl rfl) rfl rfl rfl
 ·exact fM 5 none rfl rfl rfl rfl (.inl rfl) rfl rfl rfl
 ·exact fM 6 none rfl rfl rfl rfl (.inl rfl) rfl rfl rfl
 ·refine fJ [(170, _), (171, _)] 7 [some 5, some 6] fun G a w S => ?_
  exact sIdxV S (wN rfl) rfl rfl rfl bv rfl (lb rfl) fun a S => leafL ⟨rfl, S⟩
 ·refine fJ [(172, _)] 8 [some 7] fun G a w S => ?_
  exact sLoadR (r := (rI .i64)) (T := 3) (xs := aj) (x := bg) (v := .slice a9 aj.length aa) (vq := bQ) (j := aq) 1 (iv bg) S bw (wN rfl) rfl rfl rfl bl (fun _ _ _ h => h) (scal_I _) rfl rfl (lb rfl) fun a S => leafL ⟨rfl, S⟩
 ·refine fJ [(169, _), (173, _)] 9 [some 4, some 8] fun G a w S => ?_
  exact sIdxV S (wN rfl) rfl rfl rfl bx rfl (lb rfl) fun a S => leafL ⟨rfl, S⟩
 ·refine fJ [(174, _)] 10 [some 9] fun G a w S => ?_
  exact sLoadVN (vq := bG) 1 [iv a8.Row, iv a8.Cell, .slice az a8.Parents.length aA, .bool a8.Purl] S (wN rfl) rfl rfl rfl rfl rfl rfl (lb rfl) fun a S => leafL ⟨rfl, S⟩
 ·refine ⟨_, [], rfl, (srcs_of [] rfl rfl rfl), fun G a w S => ?_⟩
  refine sAlloc (.agg #[iv 0, iv 0, .slice none 0 0, .bool false]) S (wN rfl) rfl rfl [iv 0, iv 0, .slice none 0 0, .bool false] rfl rfl (lb rfl) fun a ao w S => ?_
  refine leafL ⟨rfl, _, _, .inl ⟨21, (.pointer (some ⟨ao, 0, none⟩)), [], rfl, S, hz_of rfl, ?_⟩⟩
  refine node_by (A := anc_raddlelaw27_LoopsFlips_0) 15 (by kernel_rfl) (by kernel_rfl) (by kernel_rfl) (by kernel_rfl) (by kernel_rfl) [11, 0, 1, 2, 3, 4, 5, 6, 7, 8, 9, 10] (by kernel_rfl) (by decide) (by decide) (fF ?_ (fF ?_ (fF ?_ (fF ?_ (fF ?_ (fF ?_ (fF ?_ (fF ?_ (fF ?_ (fF ?_ (fF ?_ (fY (fN ?_ (aB 13 1 12 (by decide) (aB 14 0 12 (by decide) (trivial)))))))))))))))) [] (fun q hq => by cases hq) (fun hY => absurd (hY 12 (by decide)) (by decide))
  ·exact fM 1 none rfl rfl rfl rfl (.inl rfl) rfl rfl rfl
  ·exact fM 2 none rfl rfl rfl rfl (.inl rfl) rfl rfl rfl
  ·refine fJ [(165, _), (166, _)] 3 [some 1, some 2] fun G a w S => ?_
   exact sIdxV S (wN rfl) rfl rfl rfl bJ rfl (lb rfl) fun a S => leafL ⟨rfl, S⟩
  ·refine fJ [(167, _)] 4 [some 3] fun G a w S => ?_
   exact sLoadVN (vq := bP) 5 [iv a0.Row, iv a0.Cell, .slice ab a0.Parents.length ac, .bool a0.Purl] S (wN rfl) rfl rfl rfl rfl rfl rfl (lb rfl) fun a S => leafL ⟨rfl, S⟩
  ·exact fM 5 none rfl rfl rfl rfl (.inl rfl) rfl rfl rfl
  ·exact fM 6 none rfl rfl rfl rfl (.inl rfl) rfl rfl rfl
  ·exact fM 7 none rfl rfl rfl rfl (.inl rfl) rfl rfl rfl
  ·refine fJ [(170, _), (171, _)] 8 [some 6, some 7] fun G a w S => ?_
   exact sIdxV S (wN rfl) rfl rfl rfl bv rfl (lb rfl) fun a S => leafL ⟨rfl, S⟩
  ·refine fJ [(172, _)] 9 [some 8] fun G a w S => ?_
   exact sLoadR (r := (rI .i64)) (T := 3) (xs := aj) (x := bg) (v := .slice a9 aj.length aa) (vq := bQ) (j := aq) 2 (iv bg) S bw (wN rfl) rfl rfl rfl bl (fun _ _ _ h => h) (scal_I _) rfl rfl (lb rfl) fun a S => leafL ⟨rfl, S⟩
  ·refine fJ [(169, _), (173, _)] 10 [some 5, some 9] fun G a w S => ?_
   exact sIdxV S (wN rfl) rfl rfl rfl bx rfl (lb rfl) fun a S => leafL ⟨rfl, S⟩
  ·refine fJ [(174, _)] 11 [some 10] fun G a w S => ?_
   exact sLoadVN (vq := bG) 1 [iv a8.Row, iv a8.Cell, .slice az a8.Parents.length aA, .bool a8.Purl] S (wN rfl) rfl rfl rfl rfl rfl rfl (lb rfl) fun a S => leafL ⟨rfl, S⟩
  refine ⟨_, [], rfl, (srcs_of [] rfl rfl rfl), fun G a w S => ?_⟩
  refine sAlloc (.agg #[iv 0, iv 0, .slice none 0 0, .bool false]) S (wN rfl) rfl rfl [iv 0, iv 0, .slice none 0 0, .bool false] rfl rfl (lb rfl) fun a aK w S => ?_
  refine leafL ⟨rfl, _, _, .inl ⟨22, (.pointer (some ⟨aK, 0, none⟩)), [], rfl, S, hz_of rfl, ?_⟩⟩
  exact nd1 aK ao
 refine ⟨_, [], rfl, (srcs_of [] rfl rfl rfl), fun G a w S => ?_⟩
 refine sAlloc (.agg #[iv 0, iv 0, .slice none 0 0, .bool false]) S (wN rfl) rfl rfl [iv 0, iv 0, .slice none 0 0, .bool false] rfl rfl (lb rfl) fun a eI w S => ?_
 refine leafL ⟨rfl, _, _, .inl ⟨22, (.pointer (some ⟨eI, 0, none⟩)), [], rfl, S, hz_of rfl, ?_⟩⟩
 refine node_by (A := anc_raddlelaw27_LoopsFlips_0) 15 (by kernel_rfl) (by kernel_rfl) (by kernel_rfl) (by kernel_rfl) (by kernel_rfl) [12, 0, 1, 2, 3, 4, 5, 6, 7, 8, 9, 10] (by kernel_rfl) (by decide) (by decide) (fF ?_ (fF ?_ (fF ?_ (fF ?_ (fF ?_ (fF ?_ (fF ?_ (fF ?_ (fF ?_ (fF ?_ (fF ?_ (fN ?_ (fY (aB 13 1 11 (by decide) (aB 14 0 11 (by decide) (trivial)))))))))))))))) [] (fun q hq => by cases hq) (fun hY => absurd (hY 11 (by decide)) (by decide))
 ·exact fM 1 none rfl rfl rfl rfl (.inl rfl) rfl rfl rfl
 ·exact fM 2 none rfl rfl rfl rfl (.inl rfl) rfl rfl rfl
 ·refine fJ [(165, _), (166, _)] 3 [some 1, some 2] fun G a w S => ?_
  exact sIdxV S (wN rfl) rfl rfl rfl bJ rfl (lb rfl) fun a S => leafL ⟨rfl, S⟩
 ·refine fJ [(167, _)] 4 [some 3] fun G a w S => ?_
  exact sLoadVN (vq := bP) 5 [iv a0.Row, iv a0.Cell, .slice ab a0.Parents.length ac, .bool a0.Purl] S (wN rfl) rfl rfl rfl rfl rfl rfl (lb rfl) fun a S => leafL ⟨rfl, S⟩
 ·exact fM 5 none rfl rfl rfl rfl (.inl rfl) rfl rfl rfl
 ·exact fM 6 none rfl rfl rfl rfl (.inl rfl) rfl rfl rfl
 ·exact fM 7 none rfl rfl rfl rfl (.inl rfl) rfl rfl rfl
 ·refine fJ [(170, _), (171, _)] 8 [some 6, some 7] fun G a w S => ?_
  exact sIdxV S (wN rfl) rfl rfl rfl bv rfl (lb rfl) fun a S => leafL ⟨rfl, S⟩
 ·refine fJ [(172, _)] 9 [some 8] fun G a w S => ?_
  exact sLoadR (r := (rI .i64)) (T := 3) (xs := aj) (x := bg) (v := .slice a9 aj.length aa) (vq := bQ) (j := aq) 2 (iv bg) S bw (wN rfl) rfl rfl rfl bl (fun _ _ _ h => h) (scal_I _) rfl rfl (lb rfl) fun a S => leafL ⟨rfl, S⟩
 ·refine fJ [(169, _), (173, _)] 10 [some 5, some 9] fun G a w S => ?_
  exact sIdxV S (wN rfl) rfl rfl rfl bx rfl (lb rfl) fun a S => leafL ⟨rfl, S⟩
 ·refine fJ [(174, _)] 11 [some 10] fun G a w S => ?_
  exact sLoadVN (vq := bG) 1 [iv a8.Row, iv a8.Cell, .slice az a8.Parents.length aA, .bool a8.Purl] S (wN rfl) rfl rfl rfl rfl rfl rfl (lb rfl) fun a S => leafL ⟨rfl, S⟩
 refine ⟨_, [], rfl, (srcs_of [] rfl rfl rfl), fun G a w S => ?_⟩
 refine sAlloc (.agg #[iv 0, iv 0, .slice none 0 0, .bool false]) S (wN rfl) rfl rfl [iv 0, iv 0, .slice none 0 0, .bool false] rfl rfl (lb rfl) fun a eJ w S => ?_
 refine leafL ⟨rfl, _, _, .inl ⟨21, (.pointer (some ⟨eJ, 0, none⟩)), [], rfl, S, hz_of rfl, ?_⟩⟩
 exact nodePerm (nd1 eI eJ) [1, 0, 2, 3, 4, 5, 6, 7, 8, 9, 10, 11, 12] [1, 0, 2, 3] [0, 1, 2, 3, 4, 5, 6, 7, 8, 9, 10, 11, 12] (by decide) (by decide) rfl rfl rfl
theorem to_loop {c : api_Chart} (hw : wfR c.Rows) (hk : chk c = 0) : whileO (raddlelaw27_LoopsFlips_l2 c ((workC c).1.L, 0)) (([] : List Int), 0) = some (.inr (tl c.Start.toNat (c.Rows.map faceR) (c.Rows.length + 1))) := by
 obtain ⟨hI, _, hf, hnr, hs, hL, hB, hC, hpr, ho, hx⟩ := wfin_of hk
 have hfl : (c.Rows.map faceR).length = c.Rows.length := List.length_map _
 have hend : off c.Start.toNat (c.Rows.map faceR) (c.Rows.length + 1) = (workC c).1.L.length := by rw [hI.len]; simp [pm, smN]
 refine loop_sq (fun r => (tl c.Start.toNat (c.Rows.map faceR) r, (r : Int))) (c.Rows.length + 1) (by simp [tl]) ?_ ?_
 ·intro r hr
  have hrow : rowOf c (r : Int) = (((off c.Start.toNat (c.Rows.map faceR) r : Nat) : Int), ((off c.Start.toNat (c.Rows.map faceR) (r + 1) : Nat) : Int), 0) := by
   unfold rowOf; rw [if_pos hk, if_pos (by omega), Int.toNat_natCast]
  have hmono := off_mono (S := c.Start.toNat) (fs := c.Rows.map faceR) (a := r + 1) (b := c.Rows.length + 1) (by omega)
  have hle := off_le hf (r := r + 1) (by omega)
  have ho' : off c.Start.toNat (c.Rows.map faceR) (r + 1) = off c.Start.toNat (c.Rows.map faceR) r + nR c.Start.toNat (c.Rows.map faceR) r := rfl
  have htl := tl_len c.Start.toNat (c.Rows.map faceR) r
  unfold raddlelaw27_LoopsFlips_l2
  simp only [dT (show (r : Int) ≤ (c.Rows.length : Int) by omega), if_true]
  rw [row_eq hw, Option.bind_some, hrow]
  dsimp only
  rw [show ((0 : Int) != 0) = false from rfl, if_neg (by simp), dF (show ¬ ((off c.Start.toNat (c.Rows.map faceR) r : Nat) : Int) < 0 by omega), if_neg (by simp), dF (show ¬ ((off c.Start.toNat (c.Rows.map faceR) (r + 1) : Nat) : Int) < ((off c.Start.toNat (c.Rows.map faceR) r : Nat) : Int) by omega), if_neg (by simp), dF (show ¬ ((workC c).1.L.length : Int) < ((off c.Start.toNat (c.Rows.map faceR) (r + 1) : Nat) : Int) by omega), Option.bind_some, if_neg (by simp)]
  generalize c.Start.toNat = S at *
  generalize c.Rows.map faceR = fs at *
  have inner : whileO (raddlelaw27_LoopsFlips_l1 (((off S fs r : Nat) : Int), ((off S fs (r + 1) : Nat) : Int), 0)) (tl S fs r, ((off S fs r : Nat) : Int)) = some (tl S fs (r + 1)) := by
   refine loop_sq (fun t => (tl S fs r ++ blkT S fs r t, ((off S fs r + t : Nat) : Int))) (nR S fs r) (by simp [blkT]) ?_ ?_
   ·intro t ht
    unfold raddlelaw27_LoopsFlips_l1
    simp only [dT (show ((off S fs r + t : Nat) : Int) < ((off S fs (r + 1) : Nat) : Int) by omega), if_true]
    have e1 : w64 ((w64 ((w64 (((off S fs r : Nat) : Int) + ((off S fs (r + 1) : Nat) : Int))) - 1)) - ((off S fs r + t : Nat) : Int)) = ((off S fs r + (nR S fs r - 1 - t) : Nat) : Int) := by
     rw [w64_of (x := ((off S fs r : Nat) : Int) + ((off S fs (r + 1) : Nat) : Int)) (by omega) (by omega), w64_of (x := ((off S fs r : Nat) : Int) + ((off S fs (r + 1) : Nat) : Int) - 1) (by omega) (by omega), w64_of (by omega) (by omega)]; omega
    have e2 : blkT S fs r (t + 1) = blkT S fs r t ++ [((off S fs r + (nR S fs r - 1 - t) : Nat) : Int)] := by simp [blkT, List.range_succ]
    have e3 : (blkT S fs r t).length = t := by simp [blkT]
    rw [e1, appO_of (by rw [List.length_append, e3]; simp; omega), Option.bind_some, e2, List.append_assoc, w64_of (by omega) (by omega)]
    congr 2
   ·unfold raddlelaw27_LoopsFlips_l1
    simp only [dF (show ¬ ((off S fs r + nR S fs r : Nat) : Int) < ((off S fs (r + 1) : Nat) : Int) by omega), Bool.false_eq_true, if_false]
    rfl
  rw [inner]
  simp only [Option.bind_some]
  rw [w64_succ (by omega)]
 ·unfold raddlelaw27_LoopsFlips_l2
  simp only [dF (show ¬ ((c.Rows.length + 1 : Nat) : Int) ≤ (c.Rows.length : Int) by omega), Bool.false_eq_true, if_false]
theorem pairs_loop {C' : List (Int × Int)} {T : List Int} {q : Int × Int} {u v : Int} (hC : C'.length ≤ 1000000) (h1 : idxO T q.2 = some u) (h2 : idxO T q.1 = some v) (hm : (u, v) ∈ C') : whileO (raddlelaw27_LoopsFlips_l5 (C', 0) T q) (false, 0) = some true := by
 have e : C'.any (fun x => x == (u, v)) = true := List.any_eq_true.2 ⟨_, hm, by simp⟩
 rw [← e]
 refine loop_sq (fun n => ((C'.take n).any (fun x => x == (u, v)), (n : Int))) C'.length (by simp) ?_ ?_
 ·intro n hn
  unfold raddlelaw27_LoopsFlips_l5
  simp only [dT (show (n : Int) < (C'.length : Int) by omega), if_true]
  rw [idxO_nat hn, h1, h2, take_snoc _ hn, List.any_append, w64_succ (by omega)]
  simp only [Option.bind_some]
  cases hb : (C'.take n).any (fun x => x == (u, v)) with
  | true => simp
  | false =>
   have e2 : ((C'[n].1 == u) && ((C'[n].2 == v) && true)) = (C'[n] == (u, v)) := by
    obtain ⟨x, y⟩ := C'[n]
    simp only [Bool.and_true]; rfl
   simp only [Bool.false_eq_true, if_false, Option.bind_some, Bool.false_or, List.any_cons, List.any_nil, Bool.or_false, e2]
 ·unfold raddlelaw27_LoopsFlips_l5
  simp only [dF (show ¬ (C'.length : Int) < (C'.length : Int) by omega), Bool.false_eq_true, if_false, List.take_length]
theorem idx_some {α : Type} {l : List α} {i : Int} {x : α} (h0 : 0 ≤ i) (h : l[i.toNat]? = some x) : idxO l i = some x := by
 obtain ⟨k, rfl⟩ := Int.eq_ofNat_of_zero_le h0
 rw [Int.toNat_natCast] at h
 rw [idxO_nat (List.getElem?_eq_some_iff.1 h).1, (List.getElem?_eq_some_iff.1 h).2]
theorem purl_check {s : api_Stitch} (h : okS s) {a b : Bool} (hp : s.Kind ≠ 8 → a = s.Purl ∧ b = (othS s).Purl) :
 (if (s.Kind != 8) = true then (if (s.Kind == 2) = true then some ((a == b) != true) else some ((a == b) != (s.Kind == 9))) else some false) = some false := by
 by_cases h8 : s.Kind = 8
 ·rw [nF h8]; rfl
 ·obtain ⟨rfl, rfl⟩ := hp h8
  rw [nT h8, if_pos rfl]
  unfold othS
  by_cases h2 : s.Kind = 2
  ·rw [bT h2, if_pos rfl]; simp [h2]
  ·rw [bF h2, if_neg (by simp)]
   by_cases h9 : s.Kind = 9
   ·rw [bT h9]; simp [h9]
   ·rw [bF h9]; cases s.Purl <;> simp [h2, h9]
theorem law_LoopsFlips' (ha : F_raddlelaw27_alive = some true) (c : api_Chart) (wc : wf_api_Chart c) : F_raddlelaw27_LoopsFlips c = some true := by
 have hw := wfR_of wc
 obtain ⟨b, hb⟩ := rgreat26_eq c
 unfold F_raddlelaw27_LoopsFlips
 rw [ha, Option.bind_some, hb, Option.bind_some, rchart_check_eq, Option.bind_some]
 cases b with
 | true => rfl
 | false =>
  by_cases hk : chk c = 0
  ·have hkf : chk (flipC c) = 0 := by rw [chk_flip]; exact hk
   have hwf : wfR (flipC c).Rows := wfR_flip hw
   obtain ⟨hI, _, hf, hnr, hs, hL, hB, hC, hpr, ho, hx⟩ := wfin_of hk
   obtain ⟨hI', _, hf', _, _, hL', hB', hC', hpr', _, _⟩ := wfin_of hkf
   have hto := to_loop hw hk
   have hfl : (c.Rows.map faceR).length = c.Rows.length := List.length_map _
   have hflr : (flipC c).Rows.length = c.Rows.length := by simp [flipC]
   have hcm := cm_all hf
   have hcm' := cm_all hf'
   rw [← workC_eq hk] at hcm
   rw [← workC_eq hkf] at hcm'
   have hst : (flipC c).Start = c.Start := rfl
   rw [rows_flip, hst] at hI' hf' hcm'
   rw [hflr] at hI'
   have hgl : (flF (c.Rows.map faceR)).length = c.Rows.length := by simp [flF]
   have hend : off c.Start.toNat (c.Rows.map faceR) (c.Rows.length + 1) = (workC c).1.L.length := by rw [hI.len]; simp [pm, smN]
   have hend' : off c.Start.toNat (c.Rows.map faceR) (c.Rows.length + 1) = (workC (flipC c)).1.L.length := by
    rw [hI'.len, ← off_fl hf (by omega)]; simp [pm, smN]
   have hCC : (workC c).1.C.length = (workC (flipC c)).1.C.length := by
    rw [hcm.len, hcm'.len, hgl, hfl, ctot_fl]; simp [smN]
   rw [hk]
   simp only [Bool.false_eq_true, if_false, show ((0 : Int) != 0) = false from rfl, Bool.not_true, Option.bind_some]
   unfold F_loops_Of F_loops_Crossings
   rw [flip_eq c hw hk, of_eq c hw, if_pos hk]
   simp only [Option.bind_some]
   rw [of_eq _ hwf, if_pos hkf]
   unfold pieceOf
   simp only [Option.bind_some, show ((0 : Int) != 0) = false from rfl, Bool.false_eq_true, if_false]
   rw [← hCC, ← hend', hend, nF (show ((workC c).1.L.length : Int) = ((workC c).1.L.length : Int) from rfl), if_neg (by simp), nF (show ((workC c).1.C.length : Int) = ((workC c).1.C.length : Int) from rfl), if_neg (by simp), Option.bind_some]
   by_cases h3 : (3000 : Int) < ((workC c).1.C.length : Int)
   ·rw [dT h3]; rfl
   ·rw [dF h3, if_neg (by simp), hto]
    simp only [Option.bind_some]
    have htl := tl_len c.Start.toNat (c.Rows.map faceR) (c.Rows.length + 1)
    rw [htl, hend, nF rfl, if_neg (by simp)]
    rw [← hfl] at hI
    rw [← hgl] at hI'
    have hloop := fun k hk => flip_loop1 (k := k) hf hfl.symm hI hI' hk
    have hpair := fun q hq => flip_pair (q := q) hf hfl.symm hcm hcm' hq
    rw [hend] at hloop hpair
    have k4 : whileO (raddlelaw27_LoopsFlips_l4 ((workC c).1.L, 0) (tl c.Start.toNat (c.Rows.map faceR) (c.Rows.length + 1)) ((workC (flipC c)).1.L, 0) c) 0 = some (.inr ()) := by
     refine loop_same (workC c).1.L.length _ (fun k hk4 => ?_) ?_
     ·obtain ⟨q, l, m, t1, t2, t3, e1, e2, e3, e4⟩ := hloop k hk4
      have hll := List.getElem?_eq_some_iff.1 t2
      have hmm := List.getElem?_eq_some_iff.1 t3
      have htt := List.getElem?_eq_some_iff.1 t1
      have hml := (hpr' m (List.mem_of_getElem? t3)).1
      have hl4 := (hpr l (List.mem_of_getElem? t2)).1
      unfold raddlelaw27_LoopsFlips_l4
      simp only [dT (show (k : Int) < ((workC c).1.L.length : Int) by omega), if_true]
      rw [idxO_nat hll.1, hll.2, Option.bind_some, idxO_nat htt.1, htt.2, Option.bind_some, idxO_nat hmm.1, hmm.2, Option.bind_some, nF e1, if_neg (by simp), Option.bind_some, nF (by omega), if_neg (by simp)]
      have k3 : whileO (raddlelaw27_LoopsFlips_l3 l (k : Int) (tl c.Start.toNat (c.Rows.map faceR) (c.Rows.length + 1)) m) 0 = some (.inr ()) := by
       refine loop_same l.Parents.length _ (fun n hn => ?_) ?_
       ·obtain ⟨p1, p2, t, p3, p4⟩ := e3 _ (List.getElem_mem hn)
        unfold raddlelaw27_LoopsFlips_l3
        simp only [dT (show (n : Int) < (l.Parents.length : Int) by omega), if_true]
        rw [idxO_nat hn, Option.bind_some, dF (show ¬ l.Parents[n] < 0 by omega), if_neg (by simp), dF (show ¬ (k : Int) ≤ l.Parents[n] by omega), if_neg (by simp), idx_some p1 p3, Option.bind_some, has_eq _ _ (by omega), Option.bind_some, dT p4, Option.bind_some, if_neg (by simp), w64_succ (by omega)]
       ·unfold raddlelaw27_LoopsFlips_l3
        simp only [dF (show ¬ (l.Parents.length : Int) < (l.Parents.length : Int) by omega), Bool.false_eq_true, if_false]
      rw [k3]
      simp only [Option.bind_some]
      rcases e4 with h0 | ⟨r, j, hr, hj, g1, g2, g3⟩
      ·rw [bT h0, if_pos rfl]
       simp only [Option.bind_some]
       rw [w64_succ (by omega)]
      ·have hr2 : r < c.Rows.length := by omega
       have hrow : (c.Rows.map faceR)[r] = faceR c.Rows[r] := by simp
       have hok := (hf.2 r hr).1 _ (List.getElem_mem hj)
       have hall := chkR_mem (chk_ok hk).2.2.2 _ (List.getElem_mem hr2)
       rw [bF (show ¬ l.Row = 0 by omega), if_neg (by simp), g1, show w64 (((r + 1 : Nat) : Int) - 1) = ((r : Nat) : Int) by rw [w64_of (by omega) (by omega)]; omega, idxO_nat hr2, Option.bind_some, rseen_eq hall, Option.bind_some, g2, ← hrow, idxO_nat hj, Option.bind_some, purl_check hok g3]
       simp only [Option.bind_some, Bool.false_eq_true, if_false]
       rw [w64_succ (by omega)]
     ·unfold raddlelaw27_LoopsFlips_l4
      simp only [dF (show ¬ ((workC c).1.L.length : Int) < ((workC c).1.L.length : Int) by omega), Bool.false_eq_true, if_false]
    rw [k4]
    simp only [Option.bind_some]
    have k6 : whileO (raddlelaw27_LoopsFlips_l6 ((workC c).1.C, 0) (tl c.Start.toNat (c.Rows.map faceR) (c.Rows.length + 1)) ((workC (flipC c)).1.C, 0)) 0 = some (.inr ()) := by
     refine loop_same (workC c).1.C.length _ (fun k hk6 => ?_) ?_
     ·obtain ⟨a1, a2, a3, a4, u, v, a5, a6, a7⟩ := hpair _ (List.getElem_mem hk6)
      unfold raddlelaw27_LoopsFlips_l6
      simp only [dT (show (k : Int) < ((workC c).1.C.length : Int) by omega), if_true]
      rw [idxO_nat hk6, Option.bind_some, htl, hend, dF (show ¬ (workC c).1.C[k].1 < 0 by omega), if_neg (by simp), dF (show ¬ (workC c).1.C[k].2 < 0 by omega), if_neg (by simp), dF (show ¬ ((workC c).1.L.length : Int) ≤ (workC c).1.C[k].1 by omega), if_neg (by simp), dF (show ¬ ((workC c).1.L.length : Int) ≤ (workC c).1.C[k].2 by omega), Option.bind_some, if_neg (by simp), pairs_loop (by omega) (idx_some a3 a5) (idx_some a1 a6) a7]
      simp only [Option.bind_some, Bool.not_true, Bool.false_eq_true, if_false]
      rw [w64_succ (by omega)]
     ·unfold raddlelaw27_LoopsFlips_l6
      simp only [dF (show ¬ ((workC c).1.C.length : Int) < ((workC c).1.C.length : Int) by omega), Bool.false_eq_true, if_false]
    rw [k6]; rfl
  ·simp only [nT hk, if_true, Bool.false_eq_true, if_false, Option.bind_some]
theorem law_LoopsFlips (c : api_Chart) (wc : wf_api_Chart c) : F_raddlelaw27_LoopsFlips c = some true := law_LoopsFlips' k_raddlelaw27_alive c wc
namespace frameLoopsFlips
open Go.ChangeShapes Go.WideShapes Go.ChangeAt Go.Joins
theorem own : ownKnob Try.prog.godebug = none := by kernel_rfl
theorem laidOut : laidOutB Try.prog = true := by kernel_rfl
theorem lifted (os : Os) (started : os.Started) (H : Type) (enc : TypeId × Value → H) :
 ReturnsInHanded {} Try.checked os 6 .any (Rows.loopsFlipsSpec.pre6 enc Try.prog Try.f6 Rows.loopsFlipsRow.domain false) (Rows.loopsFlipsSpec.post enc Try.prog Try.f6 false true false false) := by
 refine returnsInHanded_of_change (C := Try.checked) own started (by kernel_rfl) Try.func6
  (ChangeSpec.witness6 (enc := enc) (C := Try.checked) false ⟨#[], #[.agg #[iv 0, .slice none 0 0]], []⟩ 8 (by kernel_rfl) (by kernel_rfl) (by kernel_rfl) (by kernel_rfl)) ?_
 intro W base args ds gs before hval0 hW hcnd _
 have hval : ∀ (j : Nat) t v, Try.f6.params[j]? = some t → args[j]? = some v → Value.okWide Try.prog W .any base t v := hval0
 have hW' := hW
 obtain ⟨p, q, hA0, hV, rfl, hfz, hnd⟩ := hW
 have hA : DataW.TrodAll enc Try.prog W 0 (fun _ => true) true Try.f6.params.toList args.toList ds p := hA0
 rw [Try.params6] at hA hval
 obtain ⟨v0, vs0, d0, ds0, p0, q0, hargs, rfl, rfl, h0, r0⟩ := trodAll_cons hA
 obtain ⟨rfl, rfl, rfl⟩ := trodAll_nil r0
 obtain rfl : args = #[v0] := by cases args; simp_all
 obtain ⟨rfl, rfl⟩ := trodVars_none hV
 have k0 := h0
 have lt0 : ∀ x ∈ p0, x.block < W.heap.size := by obtain ⟨m, hm⟩ := k0; exact DataW.trod_lt m _ _ _ hm
 obtain ⟨x0, rep0, wf0⟩ := top_agg Try.underlying24 aggr_api_Chart op_api_Chart (hval 0 _ v0 rfl rfl) h0
 clear hA0 hval0
 refine (c_raddlelaw27_LoopsFlips (fun _ => False) W x0 v0 true (law_LoopsFlips x0 wf0) (St0.start (by intro d hd; simp only [List.mem_cons, List.not_mem_nil, or_false] at hd; subst hd; exact rep0))).mono fun e W' hr => ?_
 obtain ⟨_, he, hS⟩ := hr
 have bel := hS.chg.below
 subst he
 exact ⟨_, rfl, _, _, _, [], _, [], hW', trodAll_mk1 (shut_bool Try.underlying4 _), (trodAll_cons_mk (Below.trod laidOut (by kernel_rfl) (of_decide_eq_true (by kernel_rfl)) k0 bel lt0) trodAll_mk0), rfl, bel.frame _, fun h => by cases h⟩
theorem over : Rows.loopsFlipsRow.holds Try.pinned (OpenSpec.ofChange Rows.loopsFlipsSpec) :=
 OpenClaim.holds_of_wide 6 Try.f6 rfl rfl rfl rfl rfl rfl rfl ⟨rfl, rfl, rfl, rfl, rfl⟩ rfl rfl rfl rfl rfl (by kernel_rfl) Try.func6 (by kernel_rfl)
  (of_decide_eq_true (by kernel_rfl)) (by unfold Func.isWrapper; first | (rw [if_pos (by decide +kernel)]; kernel_rfl) | (rw [if_neg (by decide +kernel)]; exact ⟨rfl, rfl⟩))
  (fun os started H enc _ => lifted os started H enc)
end frameLoopsFlips
theorem loopsFlips_holds : Rows.LoopsFlipsSaid := frameLoopsFlips.over
end Go.Proofs.Yticjoiolfibmlaa
