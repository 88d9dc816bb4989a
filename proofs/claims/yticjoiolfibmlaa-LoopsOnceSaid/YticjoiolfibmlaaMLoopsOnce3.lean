/- LoopsOnce: walks, tables, laws. -/
import Derived.Test.YticjoiolfibmlaaProg
import Derived.Test.YticjoiolfibmlaaRows
import Derived.Test.YticjoiolfibmlaaMLoopsOnce2
set_option linter.unusedVariables false
set_option linter.unusedSimpArgs false
set_option maxHeartbeats 4000000
set_option maxRecDepth 100000
namespace Go.Proofs.Yticjoiolfibmlaa
open Go.RowKit
noncomputable def slices_Concat___int_int__l1 (p0 : (List (List Int))) : (Int × Int) → Option ((Int × Int) ⊕ Int) := fun s0 => match s0 with
 | (s9, a0) =>
  if decide (a0 < (p0.length : Int)) then
   (idxO p0 a0).bind fun a4 =>
   if decide ((w64 (s9 + (a4.length : Int))) < 0) then
    none
   else
    some (.inl (w64 (s9 + (a4.length : Int)), w64 (a0 + 1)))
  else
   some (.inr s9)
noncomputable def slices_Concat___int_int__l2 (p0 : (List (List Int))) : (List Int × Int) → Option ((List Int × Int) ⊕ List Int) := fun s0 => match s0 with
 | (a4, a0) =>
  if decide (a0 < (p0.length : Int)) then
   (idxO p0 a0).bind fun a5 =>
   (appO a4 a5).bind fun a6 =>
   some (.inl (a6, w64 (a0 + 1)))
  else
   some (.inr a4)
noncomputable def F_slices_Concat___int_int_ (p0 : (List (List Int))) : Option (List Int) :=
 Option.bind (α := Int) (
  (whileO (slices_Concat___int_int__l1 p0) (0, 0)).bind fun a0 =>
   some a0) fun o5 =>
 (F_slices_Grow___int_int__s1 o5).bind fun a4 =>
 Option.bind (α := List Int) (
  (whileO (slices_Concat___int_int__l2 p0) (a4, 0)).bind fun a5 =>
   some a5) fun a6 =>
 some a6
def c_slices_Concat___int_int__val (r : (List Int)) (x : Value) : Value := x
def c_slices_Concat___int_int__D (r : (List Int)) (x : Value) : List Fact := [fRep (rL (rI .i64)) x r]
theorem c_slices_Concat___int_int_ (E : Nat → Prop) (w0 : World) (p0 : (List (List Int))) (v0 : Value) (r : (List Int)) (h : F_slices_Concat___int_int_ p0 = some r) (S : St0 E [] w0 w0 [] [fRep (rL (rL (rI .i64))) (v0) p0]) :
 Calls Try.prog 68 #[v0] w0 (Ret (X := Value) E [] w0 (c_slices_Concat___int_int__val r) (fun _ => []) (c_slices_Concat___int_int__D r)) := by
 unfold F_slices_Concat___int_int_ at h
 obtain ⟨a7, a8, _, rfl, _⟩ := S.know (i := 0) (e := fRep (rL (rL (rI .i64))) (v0) p0) rfl
 refine sEnter (args := [.slice a7 p0.length a8]) 36 Try.func68 rfl rfl (by simp) S (fun a S => ?_)
 refine sSeq (fun K3 aX => sRegion (sN S fun a S => ?_))
 refine lT (aX _ _ (sSeq (fun K4 aZ => sRegion (sN S fun a S => ?_))))
 refine lT (aZ _ _ ?_)
 obtain ⟨t6, h, g7⟩ := bS h
 refine sCut (fun a w => ∃ o5, o5 = t6 ∧ St [] E [] w0 36 a w [(0, .slice a7 p0.length a8), (3, iv o5)] [] [fRep (rL (rL (rI .i64))) (.slice a7 p0.length a8) p0]) ?_ (fun a w hI => ?_)
 ·refine sSeq (fun K8 ba => sRegion (sM S fun a S => ?_))
  refine sLen S (wN rfl) rfl Try.underlying69 rfl rfl (lb rfl) fun a S => ?_
  refine sM S fun a S => ?_
  refine lT (ba _ _ (wp_block ?_))
  obtain ⟨bk, hl, bb⟩ := bS h
  refine sLoop hl (fun s0 a w => match s0 with | (s9, af) => St [] E [] w0 36 a w [(0, .slice a7 p0.length a8), (3, iv s9), (9, .slice a7 p0.length a8), (10, iv (p0.length : Int)), (11, iv af)] [] [fRep (rL (rL (rI .i64))) (.slice a7 p0.length a8) p0]) (S.fix [] [0] (by decide) rfl rfl rfl) ?_
  clear hl h
  intro s0 a w c0 hI h am
  obtain ⟨s9, af⟩ := s0
  unfold slices_Concat___int_int__l1 at h
  dsimp only at h hI
  have S := hI
  refine sSeq (fun bl ao => sRegion (sBin _ S (wN rfl) rfl rfl rfl (bLt _ _ _ _ .i64 af (p0.length : Int)) rfl (lb rfl) fun a S => ?_))
  refine lT (ao _ _ (sSeq (fun bm ap => ?_)))
  rcases iS h with ⟨aa, h⟩ | ⟨aa, h⟩
  rotate_left
  ·refine sCondF S rfl aa ?_
   obtain rfl := tS h
   obtain rfl := am _ rfl
   have h := bb
   try dsimp only at h
   exact wp_exit (xThen (xThen (xHit (leafT (⟨s9, Option.some.inj h, S.fix [] [0] (by decide) rfl rfl rfl⟩)))))
  refine sCondT S rfl aa ?_
  refine wp_skip (leafT (ap _ _ ?_))
  refine sSeq (fun bn aq => wp_block ?_)
  refine sSeq (fun bo ar => sRegion ?_)
  obtain ⟨ag, au, h⟩ := bS h
  obtain ⟨aV, av, S⟩ := pIdx (P := Try.prog) (r := (rL (rI .i64))) (v := .slice a7 p0.length a8) (xs := p0) (j := af) 69 32 0 S Try.underlying69 rfl rfl au
  refine sIdxV S (wN rfl) rfl rfl rfl av rfl (lb rfl) fun a S => ?_
  obtain ⟨bc, S⟩ := pLoad (r := (rL (rI .i64))) (q := aV) (x := ag) 0 S rfl
  obtain ⟨aw, ax, _, rfl, _⟩ := S.mem.know (i := 1) (e := fRep (rL (rI .i64)) (bc) ag) rfl
  refine sLoadV1 (vq := aV) 0 (.slice aw ag.length ax) S (wN rfl) rfl rfl rfl rfl rfl (lb rfl) fun a S => ?_
  refine sN S fun a S => ?_
  refine lT (ar _ _ (sSeq (fun bp ay => sRegion (sM S fun a S => ?_))))
  refine sM S fun a S => ?_
  refine sLen S (wN rfl) rfl Try.underlying32 rfl rfl (lb rfl) fun a S => ?_
  refine sBin _ S (wN rfl) rfl rfl rfl (bAdd _ _ _ _ s9 (ag.length : Int)) rfl (lb rfl) fun a S => ?_
  refine sN S fun a S => ?_
  refine lT (ay _ _ (sSeq (fun bq az => sRegion (sM S fun a S => ?_))))
  refine sBin _ S (wN rfl) rfl rfl rfl (bLt _ _ _ _ .i64 (w64 (s9 + (ag.length : Int))) 0) rfl (lb rfl) fun a S => ?_
  refine lT (az _ _ ?_)
  rcases iS h with ⟨ab, h⟩ | ⟨ab, h⟩
  ·refine sCondT S rfl ab ?_
   refine sRegion ?_
   cases h
  refine sCondF S rfl ab ?_
  refine wp_skip (leafB (leafT (aq _ _ ?_)))
  refine sRegion (sBin _ S (wN rfl) rfl rfl rfl (bAdd _ _ _ _ af 1) rfl (lb rfl) fun a S => ?_)
  refine sM S fun a S => ?_
  exact lT (⟨(w64 (s9 + (ag.length : Int)), w64 (af + 1)), (Option.some.inj h).symm, (S.fix [] [3] (by decide) rfl rfl rfl)⟩)
 obtain ⟨o5, rfl, S⟩ := hI
 have h := g7
 try dsimp only at h
 refine sSeq (fun br aA => sRegion (sM S fun a S => ?_))
 obtain ⟨al, aC, h⟩ := bS h
 refine sCall (X := Option Addr × Nat) (f := 74) (vs := [.slice none 0 0, iv o5]) (val := fun x => .slice x.1 al.length x.2) (B' := fun x => [eRow (rI .i64) 3 (.slice x.1 al.length x.2) al]) (D' := fun _ => []) [] [] [] [] [] S (wN rfl) rfl callee74 rfl (by decide) rfl rfl (fun E1 w1 S1 => c_slices_Grow___int_int__s1 E1 w1 o5 al aC S1) rfl (lb rfl) fun xx a w S => ?_
 obtain ⟨aG, aH⟩ := xx
 dsimp only at S
 refine sN S fun a S => ?_
 refine lT (aA _ _ ?_)
 obtain ⟨bf, h, bg⟩ := bS h
 refine sCut (fun a w => ∃ a9, a9 = bf ∧ ∃ a0, ∃ a4, St [] E [] w0 36 a w [(6, .slice a0 a9.length a4)] [eRow (rI .i64) 3 (.slice a0 a9.length a4) a9] []) ?_ (fun a w hI => ?_)
 rotate_left
 ·obtain ⟨a9, rfl, a0, a4, S⟩ := hI
  have h := bg
  try dsimp only at h
  refine sSeq (fun bt aI => sRegion (sM S fun a S => ?_))
  refine sN S fun a S => ?_
  refine lT (aI _ _ ?_)
  obtain rfl := tS h
  have S := S.shutR (r := (rI .i64)) (T := 3) (v := .slice a0 a9.length a4) (xs := a9) 0 rfl
  exact wp_ret (sRet (.slice a0 a9.length a4) S (rsl1 rfl (rvT (t := 2) (v := .slice a0 a9.length a4) S rfl)) ⟨(.slice a0 a9.length a4), rfl, S.mem.sel [] [0] (by decide) rfl rfl⟩)
 refine sSeq (fun bu aJ => sRegion (sM S fun a S => ?_))
 refine sLen S (wN rfl) rfl Try.underlying69 rfl rfl (lb rfl) fun a S => ?_
 refine sM S fun a S => ?_
 refine lT (aJ _ _ (wp_block ?_))
 obtain ⟨bv, hl, bh⟩ := bS h
 refine sLoop hl (fun s0 a w => match s0 with | (ac, ah) => ∃ a5, ∃ a6, St [] E [] w0 36 a w [(6, .slice a5 ac.length a6), (25, .slice a7 p0.length a8), (26, iv (p0.length : Int)), (27, iv ah)] [eRow (rI .i64) 3 (.slice a5 ac.length a6) ac] [fRep (rL (rL (rI .i64))) (.slice a7 p0.length a8) p0]) ⟨aG, aH, S.fix [0] [0] (by decide) rfl rfl rfl⟩ ?_
 clear hl h
 intro s0 a w c0 hI h aK
 obtain ⟨ac, ah⟩ := s0
 unfold slices_Concat___int_int__l2 at h
 dsimp only at h hI
 obtain ⟨a5, a6, S⟩ := hI
 refine sSeq (fun bw aL => sRegion (sBin _ S (wN rfl) rfl rfl rfl (bLt _ _ _ _ .i64 ah (p0.length : Int)) rfl (lb rfl) fun a S => ?_))
 refine lT (aL _ _ (sSeq (fun bx aM => ?_)))
 rcases iS h with ⟨ae, h⟩ | ⟨ae, h⟩
 rotate_left
 ·refine sCondF S rfl ae ?_
  obtain rfl := tS h
  obtain rfl := aK _ rfl
  have h := bh
  try dsimp only at h
  exact wp_exit (xThen (xThen (xHit (leafT (⟨ac, Option.some.inj h, a5, a6, S.fix [0] [] (by decide) rfl rfl rfl⟩)))))
 refine sCondT S rfl ae ?_
 refine wp_skip (leafT (aM _ _ ?_))
 refine sSeq (fun bz aO => wp_block ?_)
 refine sSeq (fun bA aP => sRegion ?_)
 obtain ⟨ai, aQ, h⟩ := bS h
 obtain ⟨aW, aR, S⟩ := pIdx (P := Try.prog) (r := (rL (rI .i64))) (v := .slice a7 p0.length a8) (xs := p0) (j := ah) 69 32 0 S Try.underlying69 rfl rfl aQ
 refine sIdxV S (wN rfl) rfl rfl rfl aR rfl (lb rfl) fun a S => ?_
 obtain ⟨bi, S⟩ := pLoad (r := (rL (rI .i64))) (q := aW) (x := ai) 0 S rfl
 obtain ⟨aj, ak, _, rfl, _⟩ := S.mem.know (i := 1) (e := fRep (rL (rI .i64)) (bi) ai) rfl
 refine sLoadV1 (vq := aW) 0 (.slice aj ai.length ak) S (wN rfl) rfl rfl rfl rfl rfl (lb rfl) fun a S => ?_
 refine sN S fun a S => ?_
 refine lT (aP _ _ (sRegion (sM S fun a S => ?_)))
 refine sM S fun a S => ?_
 obtain ⟨bj, aS, h⟩ := bS h
 refine sApp (r := (rI .i64)) (T := 3) (xs := ac) (ys := ai) (v := .slice a5 ac.length a6) (u := .slice aj ai.length ak) 0 (iv 0) 8 S (wN rfl) rfl Try.underlying32 rfl rfl (by decide) rfl rfl rfl (src_D 1 S.mem rfl) aS rfl (lb rfl) fun a w aT aU S => ?_
 refine sN S fun a S => ?_
 refine leafL (leafB (leafT (aO _ _ ?_)))
 refine sRegion (sBin _ S (wN rfl) rfl rfl rfl (bAdd _ _ _ _ ah 1) rfl (lb rfl) fun a S => ?_)
 refine sM S fun a S => ?_
 exact lT (⟨(bj, w64 (ah + 1)), (Option.some.inj h).symm, ⟨aT, aU, S.fix [0] [3] (by decide) rfl rfl rfl⟩⟩)
def anc_loops_piece_cable_s1_0 : List (List Nat) := [[], [], [1], [0, 1, 2], [], [], [5], [4, 5, 6], [0, 1, 2, 3, 4, 5, 6, 7], [0, 1, 2, 3, 4, 5, 6, 7, 8], [0, 1, 2, 3, 4, 5, 6, 7, 8, 9], []]
def anc_loops_piece_cable_s1_1 : List (List Nat) := [[], [], [1], [1, 2], [1, 2, 3], [], [5], [1, 2, 3, 4, 5, 6], [0, 1, 2, 3, 4, 5, 6, 7], [0, 1, 2, 3, 4, 5, 6, 7, 8], [0, 1, 2, 3, 4, 5, 6, 7, 8, 9]]
noncomputable def loops_piece_cable_s1_l1 (a5 : (List Int)) (p1 : api_Loop) : (Int × List api_Loop × List Int × List Int × List (Int × Int) × Int) → Option ((Int × List api_Loop × List Int × List Int × List (Int × Int) × Int) ⊕ (List api_Loop × List Int × List Int × List (Int × Int) × Int)) := fun s0 => match s0 with
 | (a4, a6, a7, a8, a9, aa) =>
  if decide (a4 < (a5.length : Int)) then
   (idxO a5 a4).bind fun ab =>
   (F_loops_piece_add_s1 (loops_piece.mk a6 a7 a8 a9 aa) p1 [([ab] : List Int)]).bind fun a0 =>
   some (.inl (w64 (a4 + 1), a0.loops, a0.rows, a0.bound, a0.cross, a0.next))
  else
   some (.inr (a6, a7, a8, a9, aa))
noncomputable def loops_piece_cable_s1_l2 (p2 : api_Stitch) (p0 : loops_piece) (a4 : Int) : (Int × List (Int × Int)) → Option ((Int × List (Int × Int)) ⊕ List (Int × Int)) := fun s0 => match s0 with
 | (a0, a5) =>
  if decide (a0 < p2.B) then
   Option.bind (α := (Int × Int)) (
    if p2.Kind == 7 then
     (F_slices_Reverse___int_int__s1 (w64 ((w64 ((p0.loops.length : Int) + p2.B)) + a4), w64 ((p0.loops.length : Int) + a0))).bind fun a6 =>
     some (a6.1, a6.2)
    else
     some (w64 ((w64 ((p0.loops.length : Int) + p2.B)) + a4), w64 ((p0.loops.length : Int) + a0))) fun (a7, a8) =>
   (appO a5 [(a7, a8)]).bind fun a9 =>
   some (.inl (w64 (a0 + 1), a9))
  else
   some (.inr a5)
noncomputable def loops_piece_cable_s1_l3 (p2 : api_Stitch) (p0 : loops_piece) : (Int × List (Int × Int)) → Option ((Int × List (Int × Int)) ⊕ List (Int × Int)) := fun s0 => match s0 with
 | (a0, a4) =>
  if decide (a0 < p2.A) then
   Option.bind (α := List (Int × Int)) (
    (whileO (loops_piece_cable_s1_l2 p2 p0 a0) (0, a4)).bind fun a5 =>
     some a5) fun a6 =>
   some (.inl (w64 (a0 + 1), a6))
  else
   some (.inr a4)
noncomputable def F_loops_piece_cable_s1 (p0 : loops_piece) (p1 : api_Loop) (p2 : api_Stitch) (p3 : (List Int)) : Option loops_piece :=
 Option.bind (α := (List api_Loop × List Int × List Int × List (Int × Int) × Int)) (
  (sliceO p3 p2.A (p3.length : Int)).bind fun a4 =>
  (sliceO p3 0 p2.A).bind fun a5 =>
  (F_slices_Concat___int_int_ [a4, a5]).bind fun a6 =>
  (whileO (loops_piece_cable_s1_l1 a6 p1) (0, p0.loops, p0.rows, p0.bound, p0.cross, p0.next)).bind fun (a7, a8, a9, aa, ab) =>
   some (a7, a8, a9, aa, ab)) fun (ac, ae, af, ag, ah) =>
 (whileO (loops_piece_cable_s1_l3 p2 p0) (0, ag)).bind fun a0 =>
  some (loops_piece.mk ac ae af a0 ah)
theorem c_loops_piece_cable_s1 (E : Nat → Prop) (w0 : World) (p0 : loops_piece) (bb0 : Nat) (ad_0_0 : Option Addr) (cp_0_0 : Nat) (ad_0_1 : Option Addr) (cp_0_1 : Nat) (ad_0_2 : Option Addr) (cp_0_2 : Nat) (ad_0_3 : Option Addr) (cp_0_3 : Nat) (p1 : api_Loop) (v1 : Value) (p2 : api_Stitch) (v2 : Value) (p3 : (List Int)) (v3 : Value) (r : loops_piece) (h : F_loops_piece_cable_s1 p0 p1 p2 p3 = some r) (S : St0 E (keysL [eBox bb0 73 [.slice ad_0_0 p0.loops.length cp_0_0, .slice ad_0_1 p0.rows.length cp_0_1, .slice ad_0_2 p0.bound.length cp_0_2, .slice ad_0_3 p0.cross.length cp_0_3, iv p0.next], eRow r_api_Loop 48 (.slice ad_0_0 p0.loops.length cp_0_0) p0.loops, eRow (rI .i64) 3 (.slice ad_0_1 p0.rows.length cp_0_1) p0.rows, eRow (rI .i64) 3 (.slice ad_0_2 p0.bound.length cp_0_2) p0.bound, eRow r_A2_Int 49 (.slice ad_0_3 p0.cross.length cp_0_3) p0.cross]) w0 w0 [eBox bb0 73 [.slice ad_0_0 p0.loops.length cp_0_0, .slice ad_0_1 p0.rows.length cp_0_1, .slice ad_0_2 p0.bound.length cp_0_2, .slice ad_0_3 p0.cross.length cp_0_3, iv p0.next], eRow r_api_Loop 48 (.slice ad_0_0 p0.loops.length cp_0_0) p0.loops, eRow (rI .i64) 3 (.slice ad_0_1 p0.rows.length cp_0_1) p0.rows, eRow (rI .i64) 3 (.slice ad_0_2 p0.bound.length cp_0_2) p0.bound, eRow r_A2_Int 49 (.slice ad_0_3 p0.cross.length cp_0_3) p0.cross] [fRep r_api_Loop (v1) p1, fRep r_api_Stitch (v2) p2, fRep (rL (rI .i64)) (v3) p3]) :
 Calls Try.prog 61 #[.pointer (some ⟨bb0, 0, none⟩), v1, v2, v3] w0 (Ret (X := Option Addr × Nat × Option Addr × Nat × Option Addr × Nat × Option Addr × Nat) E (keysL [eBox bb0 73 [.slice ad_0_0 p0.loops.length cp_0_0, .slice ad_0_1 p0.rows.length cp_0_1, .slice ad_0_2 p0.bound.length cp_0_2, .slice ad_0_3 p0.cross.length cp_0_3, iv p0.next], eRow r_api_Loop 48 (.slice ad_0_0 p0.loops.length cp_0_0) p0.loops, eRow (rI .i64) 3 (.slice ad_0_1 p0.rows.length cp_0_1) p0.rows, eRow (rI .i64) 3 (.slice ad_0_2 p0.bound.length cp_0_2) p0.bound, eRow r_A2_Int 49 (.slice ad_0_3 p0.cross.length cp_0_3) p0.cross]) w0 (fun _ => .tuple #[]) (fun x => [eBox bb0 73 [.slice x.1 r.loops.length x.2.1, .slice x.2.2.1 r.rows.length x.2.2.2.1, .slice x.2.2.2.2.1 r.bound.length x.2.2.2.2.2.1, .slice x.2.2.2.2.2.2.1 r.cross.length x.2.2.2.2.2.2.2, iv r.next], eRow r_api_Loop 48 (.slice x.1 r.loops.length x.2.1) r.loops, eRow (rI .i64) 3 (.slice x.2.2.1 r.rows.length x.2.2.2.1) r.rows, eRow (rI .i64) 3 (.slice x.2.2.2.2.1 r.bound.length x.2.2.2.2.2.1) r.bound, eRow r_A2_Int 49 (.slice x.2.2.2.2.2.2.1 r.cross.length x.2.2.2.2.2.2.2) r.cross]) (fun _ => [])) := by
 unfold F_loops_piece_cable_s1 at h
 obtain ⟨u1, rfl, cv⟩ := S.know (i := 0) (e := fRep r_api_Loop (v1) p1) rfl
 have S := S.learn (fRep (rL (rI .i64)) u1 p1.Parents) cv
 obtain ⟨aO, aP, _, rfl, _⟩ := cv
 obtain rfl : v2 = .agg #[.int .u8 p2.Kind, .bool p2.Purl, iv p2.A, iv p2.B] := S.know (i := 2) (e := fRep r_api_Stitch (v2) p2) rfl
 obtain ⟨aV, aW, _, rfl, _⟩ := S.know (i := 3) (e := fRep (rL (rI .i64)) (v3) p3) rfl
 refine sEnter (args := [.pointer (some ⟨bb0, 0, none⟩), .agg #[iv p1.Row, iv p1.Cell, .slice aO p1.Parents.length aP, .bool p1.Purl], .agg #[.int .u8 p2.Kind, .bool p2.Purl, iv p2.A, iv p2.B], .slice aV p3.length aW]) 78 Try.func61 rfl rfl (by simp) S (fun a S => ?_)
 refine sSeq (fun K7 cy => sRegion (sBox (v := .agg #[iv p1.Row, iv p1.Cell, .slice aO p1.Parents.length aP, .bool p1.Purl]) S (wN rfl) rfl rfl [iv p1.Row, iv p1.Cell, .slice aO p1.Parents.length aP, .bool p1.Purl] rfl rfl (lb rfl) fun a b8 w S => ?_))
 refine sBox (v := .agg #[.int .u8 p2.Kind, .bool p2.Purl, iv p2.A, iv p2.B]) S (wN rfl) rfl rfl [.int .u8 p2.Kind, .bool p2.Purl, iv p2.A, iv p2.B] rfl rfl (lb rfl) fun a b9 w S => ?_
 refine lT (cy _ _ (sSeq (fun cQ c9 => sRegion (sM S fun a S => ?_))))
 refine nilCheck_ok (q := ⟨bb0, 0, none⟩) S (wN rfl) rfl rfl rfl (lb rfl) fun a S => ?_
 refine sField (b := bb0) (off := 0) 0 0 S (wN rfl) rfl rfl rfl rfl rfl (lb rfl) fun a S => ?_
 refine sLoad1 2 (.slice ad_0_0 p0.loops.length cp_0_0) S (wN rfl) rfl rfl rfl rfl rfl rfl (lb rfl) fun a S => ?_
 refine sLen S (wN rfl) rfl Try.underlying26 rfl rfl (lb rfl) fun a S => ?_
 refine sN S fun a S => ?_
 refine lT (c9 _ _ ?_)
 obtain ⟨cz, h, cA⟩ := bS h
 refine sCut (fun a w => ∃ am, ∃ ao, ∃ ap, ∃ bD, ∃ bl, (am, ao, ap, bD, bl) = cz ∧ ∃ a9, ∃ aa, ∃ ab, ∃ ac, ∃ ae, ∃ af, ∃ bm, ∃ bn, St [] E (keysL [eBox bb0 73 [.slice ad_0_0 p0.loops.length cp_0_0, .slice ad_0_1 p0.rows.length cp_0_1, .slice ad_0_2 p0.bound.length cp_0_2, .slice ad_0_3 p0.cross.length cp_0_3, iv p0.next], eRow r_api_Loop 48 (.slice ad_0_0 p0.loops.length cp_0_0) p0.loops, eRow (rI .i64) 3 (.slice ad_0_1 p0.rows.length cp_0_1) p0.rows, eRow (rI .i64) 3 (.slice ad_0_2 p0.bound.length cp_0_2) p0.bound, eRow r_A2_Int 49 (.slice ad_0_3 p0.cross.length cp_0_3) p0.cross]) w0 78 a w [(0, .pointer (some ⟨bb0, 0, none⟩)), (6, .pointer (some ⟨b9, 0, none⟩)), (8, iv (p0.loops.length : Int))] [eBox bb0 73 [.slice a9 am.length aa, .slice ab ao.length ac, .slice ae ap.length af, .slice bm bD.length bn, iv bl], eBox b9 61 [.int .u8 p2.Kind, .bool p2.Purl, iv p2.A, iv p2.B], eRow r_api_Loop 48 (.slice a9 am.length aa) am, eRow (rI .i64) 3 (.slice ab ao.length ac) ao, eRow (rI .i64) 3 (.slice ae ap.length af) ap, eRow r_A2_Int 49 (.slice bm bD.length bn) bD] []) ?_ (fun a w hI => ?_)
 ·refine sSeq (fun cR ca => ?_)
  obtain ⟨aq, bE, h⟩ := bS h
  obtain ⟨ar, bG, h⟩ := bS h
  obtain ⟨aA, cb, h⟩ := bS h
  refine sDraw (nf := [3, 7, 8, 9]) (W := [(0, 19, .slice aV p3.length aW), (1, 20, .pointer (some ⟨b9, 2, none⟩)), (2, 21, iv p2.A), (4, 23, .slice aV p3.length aW), (5, 24, .pointer (some ⟨b9, 2, none⟩)), (6, 25, iv p2.A), (11, 30, iv 0)]) rfl S ?_
  refine nodeCut (fun N W L D => ∀ ah ai aj ak, N [7, 3] ((7, 26, .slice ah ar.length ai) :: (3, 22, .slice aj aq.length ak) :: W) (L) ((fRep (rL (rI .i64)) (.slice ah ar.length ai) ar) :: (fRep (rL (rI .i64)) (.slice aj aq.length ak) aq) :: D)) (fun ah ai aj ak => ?_) fun nd1 => ?_
  ·refine node_by (A := anc_loops_piece_cable_s1_0) 12 (by kernel_rfl) (by kernel_rfl) (by kernel_rfl) (by kernel_rfl) (by kernel_rfl) [7, 3, 0, 1, 2, 4, 5, 6, 11] (by kernel_rfl) (by decide) (by decide) (fD 3 (fD 3 (fD 3 (fY (fD 7 (fD 7 (fD 7 (fY (fN ?_ (aB 9 2 8 (by decide) (fE 8 (fF ?_ (trivial))))))))))))) [] (fun q hq => by cases hq) (fun hY => absurd (hY 8 (by decide)) (by decide))
   ·refine ⟨_, [(22, .slice aj aq.length ak), (26, .slice ah ar.length ai)], rfl, (srcs_of [some 1, some 0] rfl rfl rfl), fun G a w S => ?_⟩
    refine sLit (r := (rL (rI .i64))) (T := 32) (xs := [aq, ar]) [(0, .slice aj aq.length ak), (1, .slice ah ar.length ai)] 2 [.slice aj aq.length ak, .slice ah ar.length ai] [.slice aj aq.length ak, .slice ah ar.length ai] (.slice none 0 0) 24 S (wN rfl) rfl rfl Try.underlying69 rfl (by decide) (by decide) (by kernel_rfl) rfl (fun E1 w1 hE => All.cons ((rL (rI .i64)).mono hE (S.mem.know (i := 1) (e := fRep (rL (rI .i64)) (.slice aj aq.length ak) aq) rfl)) (All.cons ((rL (rI .i64)).mono hE (S.mem.know (i := 0) (e := fRep (rL (rI .i64)) (.slice ah ar.length ai) ar) rfl)) (All.nil _ _ _))) rfl rfl (lb rfl) fun a w aS aT S => ?_
    refine leafL ⟨rfl, _, _, .inl ⟨27, (.slice aS [aq, ar].length aT), [], rfl, S, hz_of rfl, ?_⟩⟩
    refine node_by (A := anc_loops_piece_cable_s1_0) 12 (by kernel_rfl) (by kernel_rfl) (by kernel_rfl) (by kernel_rfl) (by kernel_rfl) [8, 7, 3, 0, 1, 2, 4, 5, 6, 11] (by kernel_rfl) (by decide) (by decide) (fD 8 (fD 8 (fD 8 (fY (fD 8 (fD 8 (fD 8 (fY (fY (fN ?_ (fE 9 (fF ?_ (trivial))))))))))))) [] (fun q hq => by cases hq) (fun hY => absurd (hY 9 (by decide)) (by decide))
    ·refine ⟨_, [(27, .slice aS [aq, ar].length aT)], rfl, (srcs_of [some 0] rfl rfl rfl), fun G a w S => ?_⟩
     have S := S.shutR (r := (rL (rI .i64))) (T := 32) (v := .slice aS [aq, ar].length aT) (xs := [aq, ar]) 0 rfl
     refine sCall (X := Value) (f := 68) (vs := [.slice aS [aq, ar].length aT]) (val := c_slices_Concat___int_int__val aA) (B' := fun _ => []) (D' := c_slices_Concat___int_int__D aA) [] [eBox b9 61 [.int .u8 p2.Kind, .bool p2.Purl, iv p2.A, iv p2.B], eBox b8 48 [iv p1.Row, iv p1.Cell, .slice aO p1.Parents.length aP, .bool p1.Purl], eBox bb0 73 [.slice ad_0_0 p0.loops.length cp_0_0, .slice ad_0_1 p0.rows.length cp_0_1, .slice ad_0_2 p0.bound.length cp_0_2, .slice ad_0_3 p0.cross.length cp_0_3, iv p0.next], eRow r_api_Loop 48 (.slice ad_0_0 p0.loops.length cp_0_0) p0.loops, eRow (rI .i64) 3 (.slice ad_0_1 p0.rows.length cp_0_1) p0.rows, eRow (rI .i64) 3 (.slice ad_0_2 p0.bound.length cp_0_2) p0.bound, eRow r_A2_Int 49 (.slice ad_0_3 p0.cross.length cp_0_3) p0.cross] [fRep (rL (rL (rI .i64))) (.slice aS [aq, ar].length aT) [aq, ar]] [0, 1, 2, 3, 4, 5, 6] [0] S (wN rfl) rfl callee68 rfl (by decide) rfl rfl (fun E1 w1 S1 => c_slices_Concat___int_int_ E1 w1 [aq, ar] (.slice aS [aq, ar].length aT) aA cb S1) rfl (lb rfl) fun cB a w S => ?_
     obtain ⟨aX, aZ, _, rfl, _⟩ := S.mem.know (i := 0) (e := fRep (rL (rI .i64)) (cB) aA) rfl
     refine leafL ⟨rfl, _, _, .inl ⟨28, (.slice aX aA.length aZ), [(10, 29, iv (aA.length : Int))], rfl, S, hz_of rfl, ?_⟩⟩
     refine node_by (A := anc_loops_piece_cable_s1_0) 12 (by kernel_rfl) (by kernel_rfl) (by kernel_rfl) (by kernel_rfl) (by kernel_rfl) [10, 9, 8, 7, 3, 0, 1, 2, 4, 5, 6, 11] (by kernel_rfl) (by decide) (by decide) (fD 9 (fD 9 (fD 9 (fY (fD 9 (fD 9 (fD 9 (fY (fY (fY (fF ?_ (fF ?_ (trivial))))))))))))) [(0, .pointer (some ⟨bb0, 0, none⟩)), (5, .pointer (some ⟨b8, 0, none⟩)), (6, .pointer (some ⟨b9, 0, none⟩)), (8, iv (p0.loops.length : Int)), (28, .slice aX aA.length aZ), (29, iv (aA.length : Int)), (30, iv 0)] (fin_of [none, none, none, none, some 1, some 0, some 11] rfl (by kernel_rfl) (by kernel_rfl)) (fun _ a w S => ?_)
     ·refine fJ [(28, _)] 0 [some 1] fun G a w S => ?_
      exact sLen S (wN rfl) rfl Try.underlying32 rfl rfl (lb rfl) fun a S => leafL ⟨rfl, S⟩
     ·refine fJ [] 11 [] fun G a w S => ?_
      exact sM S fun a S => leafL ⟨rfl, S⟩
     refine leafT (ca _ _ ?_)
     refine wp_block ?_
     obtain ⟨cS, hl, cC⟩ := bS h
     refine sLoop hl (fun s0 a w => match s0 with | (bC, bo, bp, bq, br, bH) => ∃ aC, ∃ aG, ∃ aH, ∃ aI, ∃ aJ, ∃ aK, ∃ aL, ∃ aM, St [] E (keysL [eBox bb0 73 [.slice ad_0_0 p0.loops.length cp_0_0, .slice ad_0_1 p0.rows.length cp_0_1, .slice ad_0_2 p0.bound.length cp_0_2, .slice ad_0_3 p0.cross.length cp_0_3, iv p0.next], eRow r_api_Loop 48 (.slice ad_0_0 p0.loops.length cp_0_0) p0.loops, eRow (rI .i64) 3 (.slice ad_0_1 p0.rows.length cp_0_1) p0.rows, eRow (rI .i64) 3 (.slice ad_0_2 p0.bound.length cp_0_2) p0.bound, eRow r_A2_Int 49 (.slice ad_0_3 p0.cross.length cp_0_3) p0.cross]) w0 78 a w [(0, .pointer (some ⟨bb0, 0, none⟩)), (5, .pointer (some ⟨b8, 0, none⟩)), (6, .pointer (some ⟨b9, 0, none⟩)), (8, iv (p0.loops.length : Int)), (28, .slice aX aA.length aZ), (29, iv (aA.length : Int)), (30, iv bC)] [eBox bb0 73 [.slice aC bo.length aG, .slice aH bp.length aI, .slice aJ bq.length aK, .slice aL br.length aM, iv bH], eBox b8 48 [iv p1.Row, iv p1.Cell, .slice aO p1.Parents.length aP, .bool p1.Purl], eBox b9 61 [.int .u8 p2.Kind, .bool p2.Purl, iv p2.A, iv p2.B], eRow r_api_Loop 48 (.slice aC bo.length aG) bo, eRow (rI .i64) 3 (.slice aH bp.length aI) bp, eRow (rI .i64) 3 (.slice aJ bq.length aK) bq, eRow r_A2_Int 49 (.slice aL br.length aM) br] [fRep (rL (rI .i64)) (.slice aX aA.length aZ) aA, fRep (rL (rI .i64)) (.slice aO p1.Parents.length aP) p1.Parents]) ⟨ad_0_0, cp_0_0, ad_0_1, cp_0_1, ad_0_2, cp_0_2, ad_0_3, cp_0_3, S.fix [2, 1, 0, 3, 4, 5, 6] [0, 4] (by decide) rfl rfl rfl⟩ ?_
     clear hl h
     intro s0 a w c0 hI h cc
     obtain ⟨bC, bo, bp, bq, br, bH⟩ := s0
     unfold loops_piece_cable_s1_l1 at h
     dsimp only at h hI
     obtain ⟨aC, aG, aH, aI, aJ, aK, aL, aM, S⟩ := hI
     refine sSeq (fun cT cd => sRegion (sBin _ S (wN rfl) rfl rfl rfl (bLt _ _ _ _ .i64 bC (aA.length : Int)) rfl (lb rfl) fun a S => ?_))
     refine lT (cd _ _ (sSeq (fun cU ce => ?_)))
     rcases iS h with ⟨bB, h⟩ | ⟨bB, h⟩
     rotate_left
     ·refine sCondF S rfl bB ?_
      obtain rfl := tS h
      obtain rfl := cc _ rfl
      have h := cC
      try dsimp only at h
      exact wp_exit (xThen (xThen (xHit (leafT (⟨bo, bp, bq, br, bH, Option.some.inj h, aC, aG, aH, aI, aJ, aK, aL, aM, S.fix [0, 2, 3, 4, 5, 6] [] (by decide) rfl rfl rfl⟩)))))
     refine sCondT S rfl bB ?_
     refine wp_skip (leafT (ce _ _ ?_))
     refine sSeq (fun cV cf => wp_block ?_)
     refine sSeq (fun cW cg => sRegion ?_)
     obtain ⟨al, ci, h⟩ := bS h
     obtain ⟨cw, cj, S⟩ := pIdx (P := Try.prog) (r := (rI .i64)) (v := .slice aX aA.length aZ) (xs := aA) (j := bC) 32 3 0 S Try.underlying32 rfl rfl ci
     refine sIdxV S (wN rfl) rfl rfl rfl cj rfl (lb rfl) fun a S => ?_
     obtain ⟨cx, S⟩ := pLoad (r := (rI .i64)) (q := cw) (x := al) 0 S rfl
     obtain rfl : cx = iv al := S.mem.know (i := 1) (e := fRep (rI .i64) (cx) al) rfl
     refine sLoadV1 (vq := cw) 0 (iv al) S (wN rfl) rfl rfl rfl rfl rfl (lb rfl) fun a S => ?_
     refine sN S fun a S => ?_
     refine lT (cg _ _ (sRegion (sM S fun a S => ?_)))
     refine sLoadN (p := b8) (off := 0) (T := 48) (vs := [iv p1.Row, iv p1.Cell, .slice aO p1.Parents.length aP, .bool p1.Purl]) 1 [iv p1.Row, iv p1.Cell, .slice aO p1.Parents.length aP, .bool p1.Purl] S (wN rfl) rfl rfl rfl rfl rfl rfl rfl (lb rfl) fun a S => ?_
     refine sM S fun a S => ?_
     refine sLit (r := (rI .i64)) (T := 3) (xs := ([al] : List Int)) [(0, iv al)] 1 [iv al] [iv al] (iv 0) 8 S (wN rfl) rfl rfl Try.underlying32 rfl (by decide) (by decide) (by kernel_rfl) rfl (fun E1 w1 hE => All.cons rfl (All.nil _ _ _)) rfl rfl (lb rfl) fun a w ba bb S => ?_
     have S := S.shutR (r := (rI .i64)) (T := 3) (v := .slice ba ([al] : List Int).length bb) (xs := ([al] : List Int)) 0 rfl
     refine sLit (r := (rL (rI .i64))) (T := 32) (xs := [([al] : List Int)]) [(0, .slice ba ([al] : List Int).length bb)] 1 [.slice ba ([al] : List Int).length bb] [.slice ba ([al] : List Int).length bb] (.slice none 0 0) 24 S (wN rfl) rfl rfl Try.underlying69 rfl (by decide) (by decide) (by kernel_rfl) rfl (fun E1 w1 hE => All.cons ((rL (rI .i64)).mono hE (S.mem.know (i := 0) (e := fRep (rL (rI .i64)) (.slice ba ([al] : List Int).length bb) ([al] : List Int)) rfl)) (All.nil _ _ _)) rfl rfl (lb rfl) fun a w bt bu S => ?_
     obtain ⟨au, ck, h⟩ := bS h
     have S := S.learn (fRep r_api_Loop (.agg #[iv p1.Row, iv p1.Cell, .slice aO p1.Parents.length aP, .bool p1.Purl]) p1) ⟨_, rfl, S.mem.know (i := 5) (e := fRep (rL (rI .i64)) (.slice aO p1.Parents.length aP) p1.Parents) rfl⟩
     have S := S.shutR (r := (rL (rI .i64))) (T := 32) (v := .slice bt [([al] : List Int)].length bu) (xs := [([al] : List Int)]) 0 rfl
     refine sCall (X := Option Addr × Nat × Option Addr × Nat × Option Addr × Nat × Option Addr × Nat) (f := 58) (vs := [.pointer (some ⟨bb0, 0, none⟩), .agg #[iv p1.Row, iv p1.Cell, .slice aO p1.Parents.length aP, .bool p1.Purl], .slice bt [([al] : List Int)].length bu]) (val := fun _ => .tuple #[]) (B' := fun x => [eBox bb0 73 [.slice x.1 au.loops.length x.2.1, .slice x.2.2.1 au.rows.length x.2.2.2.1, .slice x.2.2.2.2.1 au.bound.length x.2.2.2.2.2.1, .slice x.2.2.2.2.2.2.1 au.cross.length x.2.2.2.2.2.2.2, iv au.next], eRow r_api_Loop 48 (.slice x.1 au.loops.length x.2.1) au.loops, eRow (rI .i64) 3 (.slice x.2.2.1 au.rows.length x.2.2.2.1) au.rows, eRow (rI .i64) 3 (.slice x.2.2.2.2.1 au.bound.length x.2.2.2.2.2.1) au.bound, eRow r_A2_Int 49 (.slice x.2.2.2.2.2.2.1 au.cross.length x.2.2.2.2.2.2.2) au.cross]) (D' := fun _ => []) [eBox bb0 73 [.slice aC bo.length aG, .slice aH bp.length aI, .slice aJ bq.length aK, .slice aL br.length aM, iv bH], eRow r_api_Loop 48 (.slice aC bo.length aG) bo, eRow (rI .i64) 3 (.slice aH bp.length aI) bp, eRow (rI .i64) 3 (.slice aJ bq.length aK) bq, eRow r_A2_Int 49 (.slice aL br.length aM) br] [eBox b8 48 [iv p1.Row, iv p1.Cell, .slice aO p1.Parents.length aP, .bool p1.Purl], eBox b9 61 [.int .u8 p2.Kind, .bool p2.Purl, iv p2.A, iv p2.B]] [fRep r_api_Loop (.agg #[iv p1.Row, iv p1.Cell, .slice aO p1.Parents.length aP, .bool p1.Purl]) p1, fRep (rL (rL (rI .i64))) (.slice bt [([al] : List Int)].length bu) [([al] : List Int)]] [0, 3, 4, 5, 6, 1, 2] [1, 0] S (wN rfl) rfl callee58 rfl (by decide) rfl rfl (fun E1 w1 S1 => c_loops_piece_add_s1 E1 w1 (loops_piece.mk bo bp bq br bH) bb0 aC aG aH aI aJ aK aL aM p1 (.agg #[iv p1.Row, iv p1.Cell, .slice aO p1.Parents.length aP, .bool p1.Purl]) [([al] : List Int)] (.slice bt [([al] : List Int)].length bu) au ck S1) rfl (lb rfl) fun xx a w S => ?_
     obtain ⟨cl, cm, cn, bI, bJ, bK, bL, bM⟩ := xx
     dsimp only at S
     refine leafL (leafB (leafT (cf _ _ ?_)))
     refine sRegion (sBin _ S (wN rfl) rfl rfl rfl (bAdd _ _ _ _ bC 1) rfl (lb rfl) fun a S => ?_)
     refine sM S fun a S => ?_
     exact lT (⟨(w64 (bC + 1), au.loops, au.rows, au.bound, au.cross, au.next), (Option.some.inj h).symm, ⟨cl, cm, cn, bI, bJ, bK, bL, bM, S.fix [0, 5, 6, 1, 2, 3, 4] [6, 7] (by decide) rfl rfl rfl⟩⟩)
    refine fJ [] 9 [] fun G a w S => ?_
    exact sM S fun a S => leafL ⟨rfl, S⟩
   refine fJ [] 8 [] fun G a w S => ?_
   exact sM S fun a S => leafL ⟨rfl, S⟩
  refine node_by (A := anc_loops_piece_cable_s1_0) 12 (by kernel_rfl) (by kernel_rfl) (by kernel_rfl) (by kernel_rfl) (by kernel_rfl) [0, 1, 2, 4, 5, 6, 11] (by kernel_rfl) (by decide) (by decide) (fF ?_ (fF ?_ (fF ?_ (fN ?_ (fF ?_ (fF ?_ (fF ?_ (fN ?_ (aB 8 3 3 (by decide) (aB 9 2 3 (by decide) (fE 3 (fF ?_ (trivial))))))))))))) [] (fun q hq => by cases hq) (fun hY => absurd (hY 3 (by decide)) (by decide))
  ·exact fM 0 none rfl rfl rfl rfl (.inl rfl) rfl rfl rfl
  ·refine fJ [(6, _)] 1 [none] fun G a w S => ?_
   exact sField (b := b9) (off := 0) 2 2 S (wN rfl) rfl rfl rfl rfl rfl (lb rfl) fun a S => leafL ⟨rfl, S⟩
  ·refine fJ [(20, _)] 2 [some 1] fun G a w S => ?_
   exact sLoad1 0 (iv p2.A) S (wN rfl) rfl rfl rfl rfl rfl rfl (lb rfl) fun a S => leafL ⟨rfl, S⟩
  ·refine ⟨_, [(19, .slice aV p3.length aW), (21, iv p2.A)], rfl, (srcs_of [some 0, some 2] rfl rfl rfl), fun G a w S => ?_⟩
   refine sSlice (r := (rI .i64)) (v := .slice aV p3.length aW) (xs := p3) (vlo := (some (.int .i64 p2.A))) (vhi := none) (lo' := p2.A) (hi' := (p3.length : Int)) 3 S (wN rfl) rfl Try.underlying32 rfl rfl rfl rfl rfl (.inl rfl) (.inr ⟨rfl, rfl⟩) bE rfl (lb rfl) fun a aj ak S => ?_
   refine leafL ⟨rfl, _, _, .inl ⟨22, (.slice aj aq.length ak), [], rfl, S, hz_of rfl, ?_⟩⟩
   refine node_by (A := anc_loops_piece_cable_s1_0) 12 (by kernel_rfl) (by kernel_rfl) (by kernel_rfl) (by kernel_rfl) (by kernel_rfl) [3, 0, 1, 2, 4, 5, 6, 11] (by kernel_rfl) (by decide) (by decide) (fD 3 (fD 3 (fD 3 (fY (fF ?_ (fF ?_ (fF ?_ (fN ?_ (aB 8 3 7 (by decide) (aB 9 2 7 (by decide) (fE 7 (fF ?_ (trivial))))))))))))) [] (fun q hq => by cases hq) (fun hY => absurd (hY 7 (by decide)) (by decide))
   ·exact fM 4 none rfl rfl rfl rfl (.inl rfl) rfl rfl rfl
   ·refine fJ [(6, _)] 5 [none] fun G a w S => ?_
    exact sField (b := b9) (off := 0) 2 2 S (wN rfl) rfl rfl rfl rfl rfl (lb rfl) fun a S => leafL ⟨rfl, S⟩
   ·refine fJ [(24, _)] 6 [some 5] fun G a w S => ?_
    exact sLoad1 0 (iv p2.A) S (wN rfl) rfl rfl rfl rfl rfl rfl (lb rfl) fun a S => leafL ⟨rfl, S⟩
   ·refine ⟨_, [(23, .slice aV p3.length aW), (25, iv p2.A)], rfl, (srcs_of [some 4, some 6] rfl rfl rfl), fun G a w S => ?_⟩
    refine sSlice (r := (rI .i64)) (v := .slice aV p3.length aW) (xs := p3) (vlo := none) (vhi := (some (.int .i64 p2.A))) (lo' := 0) (hi' := p2.A) 4 S (wN rfl) rfl Try.underlying32 rfl rfl rfl rfl rfl (.inr ⟨rfl, rfl⟩) (.inl rfl) bG rfl (lb rfl) fun a ah ai S => ?_
    refine leafL ⟨rfl, _, _, .inl ⟨26, (.slice ah ar.length ai), [], rfl, S, hz_of rfl, ?_⟩⟩
    exact nd1 ah ai aj ak
   refine fJ [] 7 [] fun G a w S => ?_
   exact sM S fun a S => leafL ⟨rfl, S⟩
  ·exact fM 3 none rfl rfl rfl rfl (.inl rfl) rfl rfl rfl
  ·refine fJ [(6, _)] 4 [none] fun G a w S => ?_
   exact sField (b := b9) (off := 0) 2 2 S (wN rfl) rfl rfl rfl rfl rfl (lb rfl) fun a S => leafL ⟨rfl, S⟩
  ·refine fJ [(24, _)] 5 [some 4] fun G a w S => ?_
   exact sLoad1 0 (iv p2.A) S (wN rfl) rfl rfl rfl rfl rfl rfl (lb rfl) fun a S => leafL ⟨rfl, S⟩
  ·refine ⟨_, [(23, .slice aV p3.length aW), (25, iv p2.A)], rfl, (srcs_of [some 3, some 5] rfl rfl rfl), fun G a w S => ?_⟩
   refine sSlice (r := (rI .i64)) (v := .slice aV p3.length aW) (xs := p3) (vlo := none) (vhi := (some (.int .i64 p2.A))) (lo' := 0) (hi' := p2.A) 3 S (wN rfl) rfl Try.underlying32 rfl rfl rfl rfl rfl (.inr ⟨rfl, rfl⟩) (.inl rfl) bG rfl (lb rfl) fun a bw bx S => ?_
   refine leafL ⟨rfl, _, _, .inl ⟨26, (.slice bw ar.length bx), [], rfl, S, hz_of rfl, ?_⟩⟩
   refine node_by (A := anc_loops_piece_cable_s1_0) 12 (by kernel_rfl) (by kernel_rfl) (by kernel_rfl) (by kernel_rfl) (by kernel_rfl) [7, 0, 1, 2, 4, 5, 6, 11] (by kernel_rfl) (by decide) (by decide) (fF ?_ (fF ?_ (fF ?_ (fN ?_ (fD 7 (fD 7 (fD 7 (fY (aB 8 3 3 (by decide) (aB 9 2 3 (by decide) (fE 3 (fF ?_ (trivial))))))))))))) [] (fun q hq => by cases hq) (fun hY => absurd (hY 3 (by decide)) (by decide))
   ·exact fM 1 none rfl rfl rfl rfl (.inl rfl) rfl rfl rfl
   ·refine fJ [(6, _)] 2 [none] fun G a w S => ?_
    exact sField (b := b9) (off := 0) 2 2 S (wN rfl) rfl rfl rfl rfl rfl (lb rfl) fun a S => leafL ⟨rfl, S⟩
   ·refine fJ [(20, _)] 3 [some 2] fun G a w S => ?_
    exact sLoad1 0 (iv p2.A) S (wN rfl) rfl rfl rfl rfl rfl rfl (lb rfl) fun a S => leafL ⟨rfl, S⟩
   ·refine ⟨_, [(19, .slice aV p3.length aW), (21, iv p2.A)], rfl, (srcs_of [some 1, some 3] rfl rfl rfl), fun G a w S => ?_⟩
    refine sSlice (r := (rI .i64)) (v := .slice aV p3.length aW) (xs := p3) (vlo := (some (.int .i64 p2.A))) (vhi := none) (lo' := p2.A) (hi' := (p3.length : Int)) 4 S (wN rfl) rfl Try.underlying32 rfl rfl rfl rfl rfl (.inl rfl) (.inr ⟨rfl, rfl⟩) bE rfl (lb rfl) fun a bz bA S => ?_
    refine leafL ⟨rfl, _, _, .inl ⟨22, (.slice bz aq.length bA), [], rfl, S, hz_of rfl, ?_⟩⟩
    exact nodePerm (nd1 bw bx bz bA) [1, 0, 2, 3, 4, 5, 6, 7, 8] [0, 1, 2, 3, 4, 5, 6] [1, 0, 2, 3, 4, 5] (by decide) (by decide) rfl rfl rfl
   refine fJ [] 7 [] fun G a w S => ?_
   exact sM S fun a S => leafL ⟨rfl, S⟩
  refine fJ [] 6 [] fun G a w S => ?_
  exact sM S fun a S => leafL ⟨rfl, S⟩
 obtain ⟨am, ao, ap, bD, bl, rfl, a9, aa, ab, ac, ae, af, bm, bn, S⟩ := hI
 have h := cA
 try dsimp only at h
 refine sSeq (fun cD bN => sRegion (sField (b := b9) (off := 0) 2 2 S (wN rfl) rfl rfl rfl rfl rfl (lb rfl) fun a S => ?_))
 refine sLoad1 1 (iv p2.A) S (wN rfl) rfl rfl rfl rfl rfl rfl (lb rfl) fun a S => ?_
 refine sM S fun a S => ?_
 refine lT (bN _ _ (wp_block ?_))
 obtain ⟨cE, hl, co⟩ := bS h
 refine sLoop hl (fun s0 a w => match s0 with | (a5, bv) => ∃ aw, ∃ ax, St [] E (keysL [eBox bb0 73 [.slice ad_0_0 p0.loops.length cp_0_0, .slice ad_0_1 p0.rows.length cp_0_1, .slice ad_0_2 p0.bound.length cp_0_2, .slice ad_0_3 p0.cross.length cp_0_3, iv p0.next], eRow r_api_Loop 48 (.slice ad_0_0 p0.loops.length cp_0_0) p0.loops, eRow (rI .i64) 3 (.slice ad_0_1 p0.rows.length cp_0_1) p0.rows, eRow (rI .i64) 3 (.slice ad_0_2 p0.bound.length cp_0_2) p0.bound, eRow r_A2_Int 49 (.slice ad_0_3 p0.cross.length cp_0_3) p0.cross]) w0 78 a w [(0, .pointer (some ⟨bb0, 0, none⟩)), (6, .pointer (some ⟨b9, 0, none⟩)), (8, iv (p0.loops.length : Int)), (42, iv p2.A), (43, iv a5)] [eBox bb0 73 [.slice a9 am.length aa, .slice ab ao.length ac, .slice ae ap.length af, .slice aw bv.length ax, iv bl], eBox b9 61 [.int .u8 p2.Kind, .bool p2.Purl, iv p2.A, iv p2.B], eRow r_api_Loop 48 (.slice a9 am.length aa) am, eRow (rI .i64) 3 (.slice ab ao.length ac) ao, eRow (rI .i64) 3 (.slice ae ap.length af) ap, eRow r_A2_Int 49 (.slice aw bv.length ax) bv] []) ⟨bm, bn, S.fix [0, 1, 2, 3, 4, 5] [] (by decide) rfl rfl rfl⟩ ?_
 clear hl h
 intro s0 a w c0 hI h bO
 obtain ⟨a5, bv⟩ := s0
 unfold loops_piece_cable_s1_l3 at h
 dsimp only at h hI
 obtain ⟨aw, ax, S⟩ := hI
 refine sSeq (fun cF bP => sRegion (sBin _ S (wN rfl) rfl rfl rfl (bLt _ _ _ _ .i64 a5 p2.A) rfl (lb rfl) fun a S => ?_))
 refine lT (bP _ _ (sSeq (fun cG bQ => ?_)))
 rcases iS h with ⟨bc, h⟩ | ⟨bc, h⟩
 rotate_left
 ·refine sCondF S rfl bc ?_
  obtain rfl := tS h
  obtain rfl := bO _ rfl
  have h := co
  try dsimp only at h
  obtain rfl := tS h
  exact wp_exit (xThen (xThen (xHit (sEnd (.tuple #[]) S (rsl0 rfl ) ⟨(a9, aa, ab, ac, ae, af, aw, ax), rfl, S.mem.sel [0, 2, 3, 4, 5] [] (by decide) rfl rfl⟩))))
 refine sCondT S rfl bc ?_
 refine wp_skip (leafT (bQ _ _ ?_))
 obtain ⟨cp, h, cq⟩ := bS h
 refine sCut (fun a w => ∃ aU, aU = cp ∧ ∃ aQ, ∃ aR, St [] E (keysL [eBox bb0 73 [.slice ad_0_0 p0.loops.length cp_0_0, .slice ad_0_1 p0.rows.length cp_0_1, .slice ad_0_2 p0.bound.length cp_0_2, .slice ad_0_3 p0.cross.length cp_0_3, iv p0.next], eRow r_api_Loop 48 (.slice ad_0_0 p0.loops.length cp_0_0) p0.loops, eRow (rI .i64) 3 (.slice ad_0_1 p0.rows.length cp_0_1) p0.rows, eRow (rI .i64) 3 (.slice ad_0_2 p0.bound.length cp_0_2) p0.bound, eRow r_A2_Int 49 (.slice ad_0_3 p0.cross.length cp_0_3) p0.cross]) w0 78 a w [(0, .pointer (some ⟨bb0, 0, none⟩)), (6, .pointer (some ⟨b9, 0, none⟩)), (8, iv (p0.loops.length : Int)), (42, iv p2.A), (43, iv a5)] [eBox bb0 73 [.slice a9 am.length aa, .slice ab ao.length ac, .slice ae ap.length af, .slice aQ aU.length aR, iv bl], eBox b9 61 [.int .u8 p2.Kind, .bool p2.Purl, iv p2.A, iv p2.B], eRow r_api_Loop 48 (.slice a9 am.length aa) am, eRow (rI .i64) 3 (.slice ab ao.length ac) ao, eRow (rI .i64) 3 (.slice ae ap.length af) ap, eRow r_A2_Int 49 (.slice aQ aU.length aR) aU] []) ?_ (fun a w hI => ?_)
 rotate_left
 ·obtain ⟨aU, rfl, aQ, aR, S⟩ := hI
  have h := cq
  try dsimp only at h
  refine sRegion (sBin _ S (wN rfl) rfl rfl rfl (bAdd _ _ _ _ a5 1) rfl (lb rfl) fun a S => ?_)
  refine sM S fun a S => ?_
  exact lT (⟨(w64 (a5 + 1), aU), (Option.some.inj h).symm, ⟨aQ, aR, S.fix [0, 1, 2, 3, 4, 5] [] (by decide) rfl rfl rfl⟩⟩)
 refine wp_block ?_
 refine sSeq (fun cH bR => sRegion (sM S fun a S => ?_))
 refine sN S fun a S => ?_
 refine lT (bR _ _ (sSeq (fun cI bU => sRegion (sField (b := b9) (off := 0) 3 3 S (wN rfl) rfl rfl rfl rfl rfl (lb rfl) fun a S => ?_))))
 refine sLoad1 1 (iv p2.B) S (wN rfl) rfl rfl rfl rfl rfl rfl (lb rfl) fun a S => ?_
 refine sM S fun a S => ?_
 refine lT (bU _ _ (wp_block ?_))
 obtain ⟨cJ, hl, cr⟩ := bS h
 refine sLoop hl (fun s0 a w => match s0 with | (ag, a8) => ∃ a0, ∃ a4, St [] E (keysL [eBox bb0 73 [.slice ad_0_0 p0.loops.length cp_0_0, .slice ad_0_1 p0.rows.length cp_0_1, .slice ad_0_2 p0.bound.length cp_0_2, .slice ad_0_3 p0.cross.length cp_0_3, iv p0.next], eRow r_api_Loop 48 (.slice ad_0_0 p0.loops.length cp_0_0) p0.loops, eRow (rI .i64) 3 (.slice ad_0_1 p0.rows.length cp_0_1) p0.rows, eRow (rI .i64) 3 (.slice ad_0_2 p0.bound.length cp_0_2) p0.bound, eRow r_A2_Int 49 (.slice ad_0_3 p0.cross.length cp_0_3) p0.cross]) w0 78 a w [(0, .pointer (some ⟨bb0, 0, none⟩)), (6, .pointer (some ⟨b9, 0, none⟩)), (8, iv (p0.loops.length : Int)), (11, iv a5), (42, iv p2.A), (43, iv a5), (47, iv p2.B), (48, iv ag)] [eBox bb0 73 [.slice a9 am.length aa, .slice ab ao.length ac, .slice ae ap.length af, .slice a0 a8.length a4, iv bl], eBox b9 61 [.int .u8 p2.Kind, .bool p2.Purl, iv p2.A, iv p2.B], eRow r_api_Loop 48 (.slice a9 am.length aa) am, eRow (rI .i64) 3 (.slice ab ao.length ac) ao, eRow (rI .i64) 3 (.slice ae ap.length af) ap, eRow r_A2_Int 49 (.slice a0 a8.length a4) a8] []) ⟨aw, ax, S.fix [0, 1, 2, 3, 4, 5] [] (by decide) rfl rfl rfl⟩ ?_
 clear hl h
 intro s0 a w c0 hI h bV
 obtain ⟨ag, a8⟩ := s0
 unfold loops_piece_cable_s1_l2 at h
 dsimp only at h hI
 obtain ⟨a0, a4, S⟩ := hI
 refine sSeq (fun cK bW => sRegion (sBin _ S (wN rfl) rfl rfl rfl (bLt _ _ _ _ .i64 ag p2.B) rfl (lb rfl) fun a S => ?_))
 refine lT (bW _ _ (sSeq (fun cL bX => ?_)))
 rcases iS h with ⟨bf, h⟩ | ⟨bf, h⟩
 rotate_left
 ·refine sCondF S rfl bf ?_
  obtain rfl := tS h
  obtain rfl := bV _ rfl
  have h := cr
  try dsimp only at h
  exact wp_exit (xThen (xThen (xHit (leafB (leafT (⟨a8, Option.some.inj h, a0, a4, S.fix [0, 1, 2, 3, 4, 5] [] (by decide) rfl rfl rfl⟩))))))
 refine sCondT S rfl bf ?_
 refine wp_skip (leafT (bX _ _ ?_))
 refine sSeq (fun cM bY => wp_block ?_)
 refine sSeq (fun cN bZ => sRegion (sM S fun a S => ?_))
 refine sN S fun a S => ?_
 refine lT (bZ _ _ (sSeq (fun cO c5 => sRegion (sM S fun a S => ?_))))
 refine sField (b := b9) (off := 0) 3 3 S (wN rfl) rfl rfl rfl rfl rfl (lb rfl) fun a S => ?_
 refine sLoad1 1 (iv p2.B) S (wN rfl) rfl rfl rfl rfl rfl rfl (lb rfl) fun a S => ?_
 refine sBin _ S (wN rfl) rfl rfl rfl (bAdd _ _ _ _ (p0.loops.length : Int) p2.B) rfl (lb rfl) fun a S => ?_
 refine sM S fun a S => ?_
 refine sBin _ S (wN rfl) rfl rfl rfl (bAdd _ _ _ _ (w64 ((p0.loops.length : Int) + p2.B)) a5) rfl (lb rfl) fun a S => ?_
 refine sM S fun a S => ?_
 refine sM S fun a S => ?_
 refine sBin _ S (wN rfl) rfl rfl rfl (bAdd _ _ _ _ (p0.loops.length : Int) ag) rfl (lb rfl) fun a S => ?_
 refine sBuild [(0, iv (w64 ((w64 ((p0.loops.length : Int) + p2.B)) + a5))), (1, iv (w64 ((p0.loops.length : Int) + ag)))] [iv (w64 ((w64 ((p0.loops.length : Int) + p2.B)) + a5)), iv (w64 ((p0.loops.length : Int) + ag))] S (wN rfl) rfl rfl rfl rfl (lb rfl) fun a S => ?_
 refine sAlloc (.agg #[iv 0, iv 0]) S (wN rfl) rfl rfl [iv 0, iv 0] rfl rfl (lb rfl) fun a av w S => ?_
 refine sStore (p := av) (off := 0) (T := 49) (vs := [iv 0, iv 0]) (v := .agg #[iv (w64 ((w64 ((p0.loops.length : Int) + p2.B)) + a5)), iv (w64 ((p0.loops.length : Int) + ag))]) 0 [iv (w64 ((w64 ((p0.loops.length : Int) + p2.B)) + a5)), iv (w64 ((p0.loops.length : Int) + ag))] S (wN rfl) rfl rfl rfl rfl rfl rfl rfl (by simp) rfl fun a w S => ?_
 refine lT (c5 _ _ ?_)
 obtain ⟨ct, h, cu⟩ := bS h
 refine sCut (fun a w => ∃ a6, ∃ a7, (a6, a7) = ct ∧ St [] E (keysL [eBox bb0 73 [.slice ad_0_0 p0.loops.length cp_0_0, .slice ad_0_1 p0.rows.length cp_0_1, .slice ad_0_2 p0.bound.length cp_0_2, .slice ad_0_3 p0.cross.length cp_0_3, iv p0.next], eRow r_api_Loop 48 (.slice ad_0_0 p0.loops.length cp_0_0) p0.loops, eRow (rI .i64) 3 (.slice ad_0_1 p0.rows.length cp_0_1) p0.rows, eRow (rI .i64) 3 (.slice ad_0_2 p0.bound.length cp_0_2) p0.bound, eRow r_A2_Int 49 (.slice ad_0_3 p0.cross.length cp_0_3) p0.cross]) w0 78 a w [(0, .pointer (some ⟨bb0, 0, none⟩)), (6, .pointer (some ⟨b9, 0, none⟩)), (8, iv (p0.loops.length : Int)), (11, iv a5), (13, .pointer (some ⟨av, 0, none⟩)), (42, iv p2.A), (43, iv a5), (47, iv p2.B), (48, iv ag)] [eBox bb0 73 [.slice a9 am.length aa, .slice ab ao.length ac, .slice ae ap.length af, .slice a0 a8.length a4, iv bl], eBox b9 61 [.int .u8 p2.Kind, .bool p2.Purl, iv p2.A, iv p2.B], eBox av 49 [iv a6, iv a7], eRow r_api_Loop 48 (.slice a9 am.length aa) am, eRow (rI .i64) 3 (.slice ab ao.length ac) ao, eRow (rI .i64) 3 (.slice ae ap.length af) ap, eRow r_A2_Int 49 (.slice a0 a8.length a4) a8] []) ?_ (fun a w hI => ?_)
 ·refine sSeq (fun cP c6 => sRegion (sField (b := b9) (off := 0) 0 0 S (wN rfl) rfl rfl rfl rfl rfl (lb rfl) fun a S => ?_))
  refine sLoad1 2 (.int .u8 p2.Kind) S (wN rfl) rfl rfl rfl rfl rfl rfl (lb rfl) fun a S => ?_
  refine sBin _ S (wN rfl) rfl rfl rfl (bEq _ _ _ _ .u8 p2.Kind 7) rfl (lb rfl) fun a S => ?_
  refine lT (c6 _ _ ?_)
  rcases iS h with ⟨bg, h⟩ | ⟨bg, h⟩
  rotate_left
  ·refine sCondF S rfl bg ?_
   exact wp_skip (leafT (⟨w64 ((w64 ((p0.loops.length : Int) + p2.B)) + a5), w64 ((p0.loops.length : Int) + ag), Option.some.inj h, S.fix [1, 2, 0, 3, 4, 5, 6] [] (by decide) rfl rfl rfl⟩))
  refine sCondT S rfl bg ?_
  refine sRegion (sSliceA (m := 2) (sz := 1) (b := av) S (wN rfl) rfl Try.underlying49 rfl rfl (by decide) rfl (lb rfl) fun a S => ?_)
  obtain ⟨bh, c7, h⟩ := bS h
  refine sCall (X := Unit) (f := 59) (vs := [.slice (some ⟨av, 0, none⟩) 2 2]) (val := fun _ => .tuple #[]) (B' := fun _ => [eBox av 49 [iv bh.1, iv bh.2]]) (D' := fun _ => []) [eBox av 49 [iv (w64 ((w64 ((p0.loops.length : Int) + p2.B)) + a5)), iv (w64 ((p0.loops.length : Int) + ag))]] [eBox bb0 73 [.slice a9 am.length aa, .slice ab ao.length ac, .slice ae ap.length af, .slice a0 a8.length a4, iv bl], eBox b9 61 [.int .u8 p2.Kind, .bool p2.Purl, iv p2.A, iv p2.B], eRow r_api_Loop 48 (.slice a9 am.length aa) am, eRow (rI .i64) 3 (.slice ab ao.length ac) ao, eRow (rI .i64) 3 (.slice ae ap.length af) ap, eRow r_A2_Int 49 (.slice a0 a8.length a4) a8] [] [0, 1, 2, 3, 4, 5, 6] [] S (wN rfl) rfl callee59 rfl (by decide) rfl rfl (fun E1 w1 S1 => c_slices_Reverse___int_int__s1 E1 w1 (w64 ((w64 ((p0.loops.length : Int) + p2.B)) + a5), w64 ((p0.loops.length : Int) + ag)) av bh c7 S1) rfl (lb rfl) fun _ a w S => ?_
  exact lT (⟨bh.1, bh.2, Option.some.inj h, S.fix [1, 2, 0, 3, 4, 5, 6] [] (by decide) rfl rfl rfl⟩)
 obtain ⟨a6, a7, rfl, S⟩ := hI
 have h := cu
 try dsimp only at h
 obtain ⟨bi, c8, h⟩ := bS h
 refine sDraw (nf := [6, 7, 10]) (W := [(0, 66, .pointer (some ⟨bb0, 0, none⟩)), (1, 67, .pointer (some ⟨bb0, 0, none⟩)), (2, 68, .pointer (some ⟨bb0, 0, none⟩)), (3, 69, .pointer (some ⟨bb0, 3, none⟩)), (4, 70, .slice a0 a8.length a4), (5, 71, .agg #[iv a6, iv a7])]) rfl S ?_
 refine node_by (A := anc_loops_piece_cable_s1_1) 11 (by kernel_rfl) (by kernel_rfl) (by kernel_rfl) (by kernel_rfl) (by kernel_rfl) [0, 1, 2, 3, 4, 5] (by kernel_rfl) (by decide) (by decide) (fF ?_ (fF ?_ (fF ?_ (fF ?_ (fF ?_ (fF ?_ (fN ?_ (aB 7 3 6 (by decide) (fE 6 (fE 6 (aB 10 0 6 (by decide) (trivial)))))))))))) [] (fun q hq => by cases hq) (fun hY => absurd (hY 6 (by decide)) (by decide))
 ·exact fM 0 none rfl rfl rfl rfl (.inl rfl) rfl rfl rfl
 ·exact fM 1 none rfl rfl rfl rfl (.inl rfl) rfl rfl rfl
 ·refine fJ [(67, _)] 2 [some 1] fun G a w S => ?_
  exact nilCheck_ok (q := ⟨bb0, 0, none⟩) S (wN rfl) rfl rfl rfl (lb rfl) fun a S => leafL ⟨rfl, S⟩
 ·refine fJ [(68, _)] 3 [some 2] fun G a w S => ?_
  exact sField (b := bb0) (off := 0) 3 3 S (wN rfl) rfl rfl rfl rfl rfl (lb rfl) fun a S => leafL ⟨rfl, S⟩
 ·refine fJ [(69, _)] 4 [some 3] fun G a w S => ?_
  exact sLoad1 0 (.slice a0 a8.length a4) S (wN rfl) rfl rfl rfl rfl rfl rfl (lb rfl) fun a S => leafL ⟨rfl, S⟩
 ·refine fJ [(13, _)] 5 [none] fun G a w S => ?_
  exact sLoadN (p := av) (off := 0) (T := 49) (vs := [iv a6, iv a7]) 2 [iv a6, iv a7] S (wN rfl) rfl rfl rfl rfl rfl rfl rfl (lb rfl) fun a S => leafL ⟨rfl, S⟩
 refine ⟨_, [(71, .agg #[iv a6, iv a7])], rfl, (srcs_of [some 5] rfl rfl rfl), fun G a w S => ?_⟩
 have S := S.learn (fRep r_A2_Int (.agg #[iv a6, iv a7]) (a6, a7)) rfl
 refine sLit (r := r_A2_Int) (T := 49) (xs := [(a6, a7)]) [(0, .agg #[iv a6, iv a7])] 1 [.agg #[iv a6, iv a7]] [iv a6, iv a7] (.agg #[iv 0, iv 0]) 16 S (wN rfl) rfl rfl Try.underlying37 rfl (by decide) (by decide) (by kernel_rfl) rfl (fun E1 w1 hE => All.cons (r_A2_Int.mono hE (S.mem.know (i := 0) (e := fRep r_A2_Int (.agg #[iv a6, iv a7]) (a6, a7)) rfl)) (All.nil _ _ _)) rfl rfl (lb rfl) fun a w bj bk S => ?_
 refine leafL ⟨rfl, _, _, .inl ⟨72, (.slice bj [(a6, a7)].length bk), [], rfl, S, hz_of rfl, ?_⟩⟩
 refine node_by (A := anc_loops_piece_cable_s1_1) 11 (by kernel_rfl) (by kernel_rfl) (by kernel_rfl) (by kernel_rfl) (by kernel_rfl) [6, 0, 1, 2, 3, 4, 5] (by kernel_rfl) (by decide) (by decide) (fF ?_ (fF ?_ (fF ?_ (fF ?_ (fF ?_ (fD 6 (fY (fN ?_ (fE 7 (fE 7 (aB 10 0 7 (by decide) (trivial)))))))))))) [] (fun q hq => by cases hq) (fun hY => absurd (hY 7 (by decide)) (by decide))
 ·exact fM 1 none rfl rfl rfl rfl (.inl rfl) rfl rfl rfl
 ·exact fM 2 none rfl rfl rfl rfl (.inl rfl) rfl rfl rfl
 ·refine fJ [(67, _)] 3 [some 2] fun G a w S => ?_
  exact nilCheck_ok (q := ⟨bb0, 0, none⟩) S (wN rfl) rfl rfl rfl (lb rfl) fun a S => leafL ⟨rfl, S⟩
 ·refine fJ [(68, _)] 4 [some 3] fun G a w S => ?_
  exact sField (b := bb0) (off := 0) 3 3 S (wN rfl) rfl rfl rfl rfl rfl (lb rfl) fun a S => leafL ⟨rfl, S⟩
 ·refine fJ [(69, _)] 5 [some 4] fun G a w S => ?_
  exact sLoad1 1 (.slice a0 a8.length a4) S (wN rfl) rfl rfl rfl rfl rfl rfl (lb rfl) fun a S => leafL ⟨rfl, S⟩
 refine ⟨_, [(70, .slice a0 a8.length a4), (72, .slice bj [(a6, a7)].length bk)], rfl, (srcs_of [some 5, some 0] rfl rfl rfl), fun G a w S => ?_⟩
 refine sApp (r := r_A2_Int) (T := 49) (xs := a8) (ys := [(a6, a7)]) (v := .slice a0 a8.length a4) (u := .slice bj [(a6, a7)].length bk) 7 (.agg #[iv 0, iv 0]) 16 S (wN rfl) rfl Try.underlying37 rfl rfl (by decide) rfl rfl rfl (src_R (T := 49) 0 S.mem rfl) c8 rfl (lb rfl) fun a w ay az S => ?_
 refine leafL ⟨rfl, _, _, .inl ⟨73, (.slice ay bi.length az), [(8, 74, .pointer (some ⟨bb0, 0, none⟩)), (9, 75, .pointer (some ⟨bb0, 3, none⟩))], rfl, S, hz_of rfl, ?_⟩⟩
 refine node_by (A := anc_loops_piece_cable_s1_1) 11 (by kernel_rfl) (by kernel_rfl) (by kernel_rfl) (by kernel_rfl) (by kernel_rfl) [8, 9, 7, 6, 0, 1, 2, 3, 4, 5] (by kernel_rfl) (by decide) (by decide) (fF ?_ (fD 7 (fD 7 (fD 7 (fD 7 (fD 7 (fY (fY (fF ?_ (fF ?_ (fN ?_ (trivial)))))))))))) [] (fun q hq => by cases hq) (fun hY => absurd (hY 10 (by decide)) (by decide))
 ·exact fM 4 none rfl rfl rfl rfl (.inl rfl) rfl rfl rfl
 ·refine fJ [(66, _)] 0 [some 4] fun G a w S => ?_
  exact nilCheck_ok (q := ⟨bb0, 0, none⟩) S (wN rfl) rfl rfl rfl (lb rfl) fun a S => leafL ⟨rfl, S⟩
 ·refine fJ [(74, _)] 1 [some 0] fun G a w S => ?_
  exact sField (b := bb0) (off := 0) 3 3 S (wN rfl) rfl rfl rfl rfl rfl (lb rfl) fun a S => leafL ⟨rfl, S⟩
 refine ⟨_, [(73, .slice ay bi.length az), (75, .pointer (some ⟨bb0, 3, none⟩))], rfl, (srcs_of [some 2, some 1] rfl rfl rfl), fun G a w S => ?_⟩
 refine sStore (p := bb0) (off := 3) (T := 73) (vs := [.slice a9 am.length aa, .slice ab ao.length ac, .slice ae ap.length af, .slice a0 a8.length a4, iv bl]) (v := .slice ay bi.length az) 2 [.slice ay bi.length az] S (wN rfl) rfl rfl rfl rfl rfl rfl rfl (by simp) rfl fun a w S => ?_
 refine leafL ⟨rfl, _, _, .inr ⟨[], rfl, S, hz_of rfl, ?_⟩⟩
 refine node_by (A := anc_loops_piece_cable_s1_1) 11 (by kernel_rfl) (by kernel_rfl) (by kernel_rfl) (by kernel_rfl) (by kernel_rfl) [8, 9, 7, 6, 0, 1, 2, 3, 4, 5] (by kernel_rfl) (by decide) (by decide) (fD 10 (fD 10 (fD 10 (fD 10 (fD 10 (fD 10 (fY (fY (fD 10 (fD 10 (fY (trivial)))))))))))) [(0, .pointer (some ⟨bb0, 0, none⟩)), (6, .pointer (some ⟨b9, 0, none⟩)), (8, iv (p0.loops.length : Int)), (11, iv a5), (42, iv p2.A), (43, iv a5), (47, iv p2.B), (48, iv ag)] (fin_of [none, none, none, none, none, none, none, none] rfl (by kernel_rfl) (by kernel_rfl)) (fun _ a w S => ?_)
 refine leafB (leafT (bY _ _ ?_))
 refine sRegion (sBin _ S (wN rfl) rfl rfl rfl (bAdd _ _ _ _ ag 1) rfl (lb rfl) fun a S => ?_)
 refine sM S fun a S => ?_
 exact lT (⟨(w64 (ag + 1), bi), (Option.some.inj h).symm, ⟨ay, az, S.fix [0, 3, 5, 6, 7, 1] [] (by decide) rfl rfl rfl⟩⟩)
def anc_loops_piece_work_s1_0 : List (List Nat) := [[], [0], [0, 1], [0, 1, 2], [], [4], [4, 5], [0, 1, 2, 3, 4, 5, 6], [0, 1, 2, 3, 4, 5, 6, 7], [0, 1, 2, 3, 4, 5, 6, 7, 8], [0, 1, 2, 3, 4, 5, 6, 7, 8, 9], [0, 1, 2, 3, 4, 5, 6, 7, 8, 9, 10]]
noncomputable def loops_piece_work_s1_l1 (p3 : api_Stitch) (r9 : ((List Int) × loops_piece)) (p1 : Int) (p2 : Int) : (Int × List api_Loop × List Int × List Int × List (Int × Int) × Int) → Option ((Int × List api_Loop × List Int × List Int × List (Int × Int) × Int) ⊕ (List api_Loop × List Int × List Int × List (Int × Int) × Int)) := fun s0 => match s0 with
 | (a4, a5, a6, a7, a8, a9) =>
  if decide (a4 < p3.A) then
   (F_slices_Clone___int_int__s0 r9.1).bind fun aa =>
   (F_loops_piece_add_s1 (loops_piece.mk a5 a6 a7 a8 a9) (api_Loop.mk p1 p2 ([] : (List Int)) p3.Purl) [aa]).bind fun a0 =>
   some (.inl (w64 (a4 + 1), a0.loops, a0.rows, a0.bound, a0.cross, a0.next))
  else
   some (.inr (a5, a6, a7, a8, a9))
noncomputable def F_loops_piece_work_s1 (p0 : loops_piece) (p1 : Int) (p2 : Int) (p3 : api_Stitch) : Option loops_piece :=
 (F_stitch_Uses [p3]).bind fun r6 =>
 (F_loops_piece_take_s3 p0 r6.1).bind fun r9 =>
 Option.bind (α := Bool) (
  if p3.Kind == 2 then
   some (p3.Kind == 2)
  else
   some (p3.Kind == 9)) fun ae =>
 if ae then
  (makeO (if (1 : Int) < p3.A then p3.A else 1) ([] : (List Int))).bind fun af =>
  (F_loops_piece_add_s1 r9.2 (api_Loop.mk p1 p2 ([] : (List Int)) p3.Purl) af).bind fun ag =>
  some ag
 else
  if p3.Kind == 1 then
   (F_loops_piece_add_s1 r9.2 (api_Loop.mk p1 p2 ([] : (List Int)) p3.Purl) [r9.1]).bind fun ah =>
   some ah
  else
   if p3.Kind == 8 then
    (idxO r9.1 0).bind fun ai =>
    (idxO r9.2.loops ai).bind fun aj =>
    (F_loops_piece_add_s1 r9.2 (api_Loop.mk p1 p2 ([] : (List Int)) aj.Purl) [r9.1]).bind fun ak =>
    some ak
   else
    if p3.Kind == 4 then
     (F_slices_Reverse___int_int__s0 r9.1).bind fun a0 =>
     (F_loops_piece_add_s1 r9.2 (api_Loop.mk p1 p2 ([] : (List Int)) p3.Purl) [a0]).bind fun a4 =>
     some a4
    else
     if p3.Kind == 3 then
      (F_loops_piece_add_s1 r9.2 (api_Loop.mk p1 p2 ([] : (List Int)) p3.Purl) [r9.1]).bind fun a5 =>
      some a5
     else
      if p3.Kind == 5 then
       (whileO (loops_piece_work_s1_l1 p3 r9 p1 p2) (0, r9.2.loops, r9.2.rows, r9.2.bound, r9.2.cross, r9.2.next)).bind fun (a6, a7, a8, a9, aa) =>
        some (loops_piece.mk a6 a7 a8 a9 aa)
      else
       if p3.Kind == 10 then
        (appO r9.2.bound r9.1).bind fun ab =>
        some (loops_piece.mk r9.2.loops r9.2.rows ab r9.2.cross r9.2.next)
       else
        (F_loops_piece_cable_s1 r9.2 (api_Loop.mk p1 p2 ([] : (List Int)) p3.Purl) p3 r9.1).bind fun ac =>
        some ac
theorem c_loops_piece_work_s1 (E : Nat → Prop) (w0 : World) (p0 : loops_piece) (bb0 : Nat) (ad_0_0 : Option Addr) (cp_0_0 : Nat) (ad_0_1 : Option Addr) (cp_0_1 : Nat) (ad_0_2 : Option Addr) (cp_0_2 : Nat) (ad_0_3 : Option Addr) (cp_0_3 : Nat) (p1 : Int) (p2 : Int) (p3 : api_Stitch) (v3 : Value) (r : loops_piece) (h : F_loops_piece_work_s1 p0 p1 p2 p3 = some r) (S : St0 E (keysL [eBox bb0 73 [.slice ad_0_0 p0.loops.length cp_0_0, .slice ad_0_1 p0.rows.length cp_0_1, .slice ad_0_2 p0.bound.length cp_0_2, .slice ad_0_3 p0.cross.length cp_0_3, iv p0.next], eRow r_api_Loop 48 (.slice ad_0_0 p0.loops.length cp_0_0) p0.loops, eRow (rI .i64) 3 (.slice ad_0_1 p0.rows.length cp_0_1) p0.rows, eRow (rI .i64) 3 (.slice ad_0_2 p0.bound.length cp_0_2) p0.bound, eRow r_A2_Int 49 (.slice ad_0_3 p0.cross.length cp_0_3) p0.cross]) w0 w0 [eBox bb0 73 [.slice ad_0_0 p0.loops.length cp_0_0, .slice ad_0_1 p0.rows.length cp_0_1, .slice ad_0_2 p0.bound.length cp_0_2, .slice ad_0_3 p0.cross.length cp_0_3, iv p0.next], eRow r_api_Loop 48 (.slice ad_0_0 p0.loops.length cp_0_0) p0.loops, eRow (rI .i64) 3 (.slice ad_0_1 p0.rows.length cp_0_1) p0.rows, eRow (rI .i64) 3 (.slice ad_0_2 p0.bound.length cp_0_2) p0.bound, eRow r_A2_Int 49 (.slice ad_0_3 p0.cross.length cp_0_3) p0.cross] [fRep r_api_Stitch (v3) p3]) :
 Calls Try.prog 44 #[.pointer (some ⟨bb0, 0, none⟩), iv p1, iv p2, v3] w0 (Ret (X := Option Addr × Nat × Option Addr × Nat × Option Addr × Nat × Option Addr × Nat) E (keysL [eBox bb0 73 [.slice ad_0_0 p0.loops.length cp_0_0, .slice ad_0_1 p0.rows.length cp_0_1, .slice ad_0_2 p0.bound.length cp_0_2, .slice ad_0_3 p0.cross.length cp_0_3, iv p0.next], eRow r_api_Loop 48 (.slice ad_0_0 p0.loops.length cp_0_0) p0.loops, eRow (rI .i64) 3 (.slice ad_0_1 p0.rows.length cp_0_1) p0.rows, eRow (rI .i64) 3 (.slice ad_0_2 p0.bound.length cp_0_2) p0.bound, eRow r_A2_Int 49 (.slice ad_0_3 p0.cross.length cp_0_3) p0.cross]) w0 (fun _ => .tuple #[]) (fun x => [eBox bb0 73 [.slice x.1 r.loops.length x.2.1, .slice x.2.2.1 r.rows.length x.2.2.2.1, .slice x.2.2.2.2.1 r.bound.length x.2.2.2.2.2.1, .slice x.2.2.2.2.2.2.1 r.cross.length x.2.2.2.2.2.2.2, iv r.next], eRow r_api_Loop 48 (.slice x.1 r.loops.length x.2.1) r.loops, eRow (rI .i64) 3 (.slice x.2.2.1 r.rows.length x.2.2.2.1) r.rows, eRow (rI .i64) 3 (.slice x.2.2.2.2.1 r.bound.length x.2.2.2.2.2.1) r.bound, eRow r_A2_Int 49 (.slice x.2.2.2.2.2.2.1 r.cross.length x.2.2.2.2.2.2.2) r.cross]) (fun _ => [])) := by
 unfold F_loops_piece_work_s1 at h
 obtain rfl : v3 = .agg #[.int .u8 p3.Kind, .bool p3.Purl, iv p3.A, iv p3.B] := S.know (i := 0) (e := fRep r_api_Stitch (v3) p3) rfl
 refine sEnter (args := [.pointer (some ⟨bb0, 0, none⟩), iv p1, iv p2, .agg #[.int .u8 p3.Kind, .bool p3.Purl, iv p3.A, iv p3.B]]) 108 Try.func44 rfl rfl (by simp) S (fun a S => ?_)
 refine sSeq (fun K1 dh => sRegion (sBox (v := .agg #[.int .u8 p3.Kind, .bool p3.Purl, iv p3.A, iv p3.B]) S (wN rfl) rfl rfl [.int .u8 p3.Kind, .bool p3.Purl, iv p3.A, iv p3.B] rfl rfl (lb rfl) fun a b2 w S => ?_))
 refine lT (dh _ _ (sSeq (fun K3 di => sRegion (sLoadN (p := b2) (off := 0) (T := 61) (vs := [.int .u8 p3.Kind, .bool p3.Purl, iv p3.A, iv p3.B]) 0 [.int .u8 p3.Kind, .bool p3.Purl, iv p3.A, iv p3.B] S (wN rfl) rfl rfl rfl rfl rfl rfl rfl (lb rfl) fun a S => ?_))))
 refine sLit (r := r_api_Stitch) (T := 61) (xs := [p3]) [(0, .agg #[.int .u8 p3.Kind, .bool p3.Purl, iv p3.A, iv p3.B])] 1 [.agg #[.int .u8 p3.Kind, .bool p3.Purl, iv p3.A, iv p3.B]] [.int .u8 p3.Kind, .bool p3.Purl, iv p3.A, iv p3.B] (.agg #[.int .u8 0, .bool false, iv 0, iv 0]) 24 S (wN rfl) rfl rfl Try.underlying62 rfl (by decide) (by decide) (by kernel_rfl) rfl (fun E1 w1 hE => All.cons (r_api_Stitch.mono hE (S.mem.know (i := 0) (e := fRep r_api_Stitch (.agg #[.int .u8 p3.Kind, .bool p3.Purl, iv p3.A, iv p3.B]) p3) rfl)) (All.nil _ _ _)) rfl rfl (lb rfl) fun a w cx cy S => ?_
 obtain ⟨r6, dj, h⟩ := bS h
 have S1 := S.mem
 have S1 := S1.shutR (r := r_api_Stitch) (T := 61) (v := .slice cx [p3].length cy) (xs := [p3]) 0 rfl
 refine sCq [.slice cx [p3].length cy] (.tuple #[iv r6.1, iv r6.2]) S callee53 (S1.quiet [0] rfl) (fun E1 w1 S1 => c_stitch_Uses E1 w1 [p3] (.slice cx [p3].length cy) r6 dj S1) fun a w S => ?_
 refine sM S fun a S => ?_
 refine sExtract (vs := [iv r6.1, iv r6.2]) (iv r6.1) S (wN rfl) rfl rfl rfl rfl (lb rfl) fun a S => ?_
 refine sExtract (vs := [iv r6.1, iv r6.2]) (iv r6.2) S (wN rfl) rfl rfl rfl rfl (lb rfl) fun a S => ?_
 refine sN S fun a S => ?_
 refine sN S fun a S => ?_
 refine lT (di _ _ (sSeq (fun K8 dk => sRegion (sM S fun a S => ?_))))
 refine sM S fun a S => ?_
 obtain ⟨r9, cz, h⟩ := bS h
 refine sCall (X := Option Addr × Nat × Option Addr × Nat × Option Addr × Nat × Option Addr × Nat × Option Addr × Nat) (f := 57) (vs := [.pointer (some ⟨bb0, 0, none⟩), iv r6.1]) (val := fun x => .slice x.1 r9.1.length x.2.1) (B' := fun x => [eRow (rI .i64) 3 (.slice x.1 r9.1.length x.2.1) r9.1, eBox bb0 73 [.slice x.2.2.1 r9.2.loops.length x.2.2.2.1, .slice x.2.2.2.2.1 r9.2.rows.length x.2.2.2.2.2.1, .slice x.2.2.2.2.2.2.1 r9.2.bound.length x.2.2.2.2.2.2.2.1, .slice x.2.2.2.2.2.2.2.2.1 r9.2.cross.length x.2.2.2.2.2.2.2.2.2, iv r9.2.next], eRow r_api_Loop 48 (.slice x.2.2.1 r9.2.loops.length x.2.2.2.1) r9.2.loops, eRow (rI .i64) 3 (.slice x.2.2.2.2.1 r9.2.rows.length x.2.2.2.2.2.1) r9.2.rows, eRow (rI .i64) 3 (.slice x.2.2.2.2.2.2.1 r9.2.bound.length x.2.2.2.2.2.2.2.1) r9.2.bound, eRow r_A2_Int 49 (.slice x.2.2.2.2.2.2.2.2.1 r9.2.cross.length x.2.2.2.2.2.2.2.2.2) r9.2.cross]) (D' := fun _ => []) [eBox bb0 73 [.slice ad_0_0 p0.loops.length cp_0_0, .slice ad_0_1 p0.rows.length cp_0_1, .slice ad_0_2 p0.bound.length cp_0_2, .slice ad_0_3 p0.cross.length cp_0_3, iv p0.next], eRow r_api_Loop 48 (.slice ad_0_0 p0.loops.length cp_0_0) p0.loops, eRow (rI .i64) 3 (.slice ad_0_1 p0.rows.length cp_0_1) p0.rows, eRow (rI .i64) 3 (.slice ad_0_2 p0.bound.length cp_0_2) p0.bound, eRow r_A2_Int 49 (.slice ad_0_3 p0.cross.length cp_0_3) p0.cross] [eRow r_api_Stitch 61 (.slice cx [p3].length cy) [p3], eBox b2 61 [.int .u8 p3.Kind, .bool p3.Purl, iv p3.A, iv p3.B]] [] [2, 3, 4, 5, 6, 0, 1] [] S (wN rfl) rfl callee57 rfl (by decide) rfl rfl (fun E1 w1 S1 => c_loops_piece_take_s3 E1 w1 p0 bb0 ad_0_0 cp_0_0 ad_0_1 cp_0_1 ad_0_2 cp_0_2 ad_0_3 cp_0_3 r6.1 r9 cz S1) rfl (lb rfl) fun xx a w S => ?_
 obtain ⟨a0, a4, a5, a6, a9, aa, a7, a8, ab, ac⟩ := xx
 dsimp only at S
 refine sN S fun a S => ?_
 refine lT (dk _ _ (sSeq (fun dA cA => sRegion (sM S fun a S => ?_))))
 refine sM S fun a S => ?_
 refine sField (b := b2) (off := 0) 1 1 S (wN rfl) rfl rfl rfl rfl rfl (lb rfl) fun a S => ?_
 refine sLoad1 7 (.bool p3.Purl) S (wN rfl) rfl rfl rfl rfl rfl rfl (lb rfl) fun a S => ?_
 refine sBuild [(0, iv p1), (1, iv p2), (3, .bool p3.Purl)] [iv p1, iv p2, .slice none 0 0, .bool p3.Purl] S (wN rfl) rfl rfl rfl rfl (lb rfl) fun a S => ?_
 refine sAlloc (.agg #[iv 0, iv 0, .slice none 0 0, .bool false]) S (wN rfl) rfl rfl [iv 0, iv 0, .slice none 0 0, .bool false] rfl rfl (lb rfl) fun a ah w S => ?_
 refine sStore (p := ah) (off := 0) (T := 48) (vs := [iv 0, iv 0, .slice none 0 0, .bool false]) (v := .agg #[iv p1, iv p2, .slice none 0 0, .bool p3.Purl]) 0 [iv p1, iv p2, .slice none 0 0, .bool p3.Purl] S (wN rfl) rfl rfl rfl rfl rfl rfl rfl (by simp) rfl fun a w S => ?_
 refine lT (cA _ _ (sSeq (fun dB cB => sRegion (sField (b := b2) (off := 0) 0 0 S (wN rfl) rfl rfl rfl rfl rfl (lb rfl) fun a S => ?_))))
 refine sLoad1 8 (.int .u8 p3.Kind) S (wN rfl) rfl rfl rfl rfl rfl rfl (lb rfl) fun a S => ?_
 refine lT (cB _ _ (wp_block ?_))
 obtain ⟨dl, h, dm⟩ := bS h
 refine sCut (fun a w => ∃ cC, cC = dl ∧ St [] E (keysL [eBox bb0 73 [.slice ad_0_0 p0.loops.length cp_0_0, .slice ad_0_1 p0.rows.length cp_0_1, .slice ad_0_2 p0.bound.length cp_0_2, .slice ad_0_3 p0.cross.length cp_0_3, iv p0.next], eRow r_api_Loop 48 (.slice ad_0_0 p0.loops.length cp_0_0) p0.loops, eRow (rI .i64) 3 (.slice ad_0_1 p0.rows.length cp_0_1) p0.rows, eRow (rI .i64) 3 (.slice ad_0_2 p0.bound.length cp_0_2) p0.bound, eRow r_A2_Int 49 (.slice ad_0_3 p0.cross.length cp_0_3) p0.cross]) w0 108 a w [(0, .pointer (some ⟨bb0, 0, none⟩)), (7, .pointer (some ⟨b2, 0, none⟩)), (10, .slice a0 r9.1.length a4), (11, .pointer (some ⟨ah, 0, none⟩)), (27, .int .u8 p3.Kind), (33, .bool cC)] [eBox bb0 73 [.slice a5 r9.2.loops.length a6, .slice a9 r9.2.rows.length aa, .slice a7 r9.2.bound.length a8, .slice ab r9.2.cross.length ac, iv r9.2.next], eBox b2 61 [.int .u8 p3.Kind, .bool p3.Purl, iv p3.A, iv p3.B], eBox ah 48 [iv p1, iv p2, .slice none 0 0, .bool p3.Purl], eRow (rI .i64) 3 (.slice a0 r9.1.length a4) r9.1, eRow r_api_Loop 48 (.slice a5 r9.2.loops.length a6) r9.2.loops, eRow (rI .i64) 3 (.slice a9 r9.2.rows.length aa) r9.2.rows, eRow (rI .i64) 3 (.slice a7 r9.2.bound.length a8) r9.2.bound, eRow r_A2_Int 49 (.slice ab r9.2.cross.length ac) r9.2.cross] []) ?_ (fun a w hI => ?_)
 ·refine sSeq (fun dC cD => sRegion (sBin _ S (wN rfl) rfl rfl rfl (bEq _ _ _ _ .u8 p3.Kind 2) rfl (lb rfl) fun a S => ?_))
  refine sN S fun a S => ?_
  refine lT (cD _ _ ?_)
  rcases iS h with ⟨bk, h⟩ | ⟨bk, h⟩
  ·refine sCondT S rfl bk ?_
   exact wp_skip (leafT (⟨p3.Kind == 2, Option.some.inj h, S.fix [2, 8, 0, 1, 3, 4, 5, 6] [] (by decide) rfl rfl rfl⟩))
  refine sCondF S rfl bk ?_
  refine sRegion (sBin _ S (wN rfl) rfl rfl rfl (bEq _ _ _ _ .u8 p3.Kind 9) rfl (lb rfl) fun a S => ?_)
  refine sN S fun a S => ?_
  exact lT (⟨p3.Kind == 9, Option.some.inj h, S.fix [2, 8, 0, 1, 3, 4, 5, 6] [] (by decide) rfl rfl rfl⟩)
 obtain ⟨cC, rfl, S⟩ := hI
 have h := dm
 try dsimp only at h
 rcases iS h with ⟨bl, h⟩ | ⟨bl, h⟩
 ·refine sCondT S rfl bl ?_
  obtain ⟨bf, cE, h⟩ := bS h
  obtain ⟨aJ, cF, h⟩ := bS h
  refine sDraw (nf := [5, 6]) (W := [(0, 36, .pointer (some ⟨bb0, 0, none⟩)), (1, 37, .agg #[iv p1, iv p2, .slice none 0 0, .bool p3.Purl]), (2, 38, .pointer (some ⟨b2, 2, none⟩)), (3, 39, iv p3.A), (4, 40, iv (if (1 : Int) < p3.A then p3.A else 1))]) rfl S ?_
  refine node_by (A := [[], [], [], [2], [2, 3], [2, 3, 4], [0, 1, 2, 3, 4, 5]]) (nf := [5, 6]) (Y := []) (W := [(0, 36, .pointer (some ⟨bb0, 0, none⟩)), (1, 37, .agg #[iv p1, iv p2, .slice none 0 0, .bool p3.Purl]), (2, 38, .pointer (some ⟨b2, 2, none⟩)), (3, 39, iv p3.A), (4, 40, iv (if (1 : Int) < p3.A then p3.A else 1))]) 7 (by kernel_rfl) (by kernel_rfl) (by kernel_rfl) (by kernel_rfl) (by kernel_rfl) [0, 1, 2, 3, 4] (by kernel_rfl) (by decide) (by decide) (fF ?_ (fF ?_ (fF ?_ (fF ?_ (fF ?_ (fN ?_ (aB 6 0 5 (by decide) (trivial)))))))) [] (fun q hq => by cases hq) (fun hY => absurd (hY 5 (by decide)) (by decide))
  ·exact fM 0 none rfl rfl rfl rfl (.inl rfl) rfl rfl rfl
  ·refine fJ [(11, _)] 1 [none] fun G a w S => ?_
   exact sLoadN (p := ah) (off := 0) (T := 48) (vs := [iv p1, iv p2, .slice none 0 0, .bool p3.Purl]) 2 [iv p1, iv p2, .slice none 0 0, .bool p3.Purl] S (wN rfl) rfl rfl rfl rfl rfl rfl rfl (lb rfl) fun a S => leafL ⟨rfl, S⟩
  ·refine fJ [(7, _)] 2 [none] fun G a w S => ?_
   exact sField (b := b2) (off := 0) 2 2 S (wN rfl) rfl rfl rfl rfl rfl (lb rfl) fun a S => leafL ⟨rfl, S⟩
  ·refine fJ [(38, _)] 3 [some 2] fun G a w S => ?_
   exact sLoad1 1 (iv p3.A) S (wN rfl) rfl rfl rfl rfl rfl rfl (lb rfl) fun a S => leafL ⟨rfl, S⟩
  ·refine fJ [(39, _)] 4 [some 3] fun G a w S => ?_
   exact sMax2 (p := 1) (q := p3.A) S (wN rfl) rfl rfl rfl rfl (lb rfl) fun a S => leafL ⟨rfl, S⟩
  refine ⟨_, [(40, iv (if (1 : Int) < p3.A then p3.A else 1))], rfl, (srcs_of [some 4] rfl rfl rfl), fun G a w S => ?_⟩
  refine sMake (r := (rL (rI .i64))) (m := if (1 : Int) < p3.A then p3.A else 1) (xs := bf) (.slice none 0 0) ([] : (List Int)) 24 S (wN rfl) rfl Try.underlying69 rfl rfl (by decide) (fun E w => rL_nil _ E w) rfl rfl cE rfl (lb rfl) fun a w aR aS S => ?_
  refine leafL ⟨rfl, _, _, .inl ⟨41, (.slice aR bf.length aS), [], rfl, S, hz_of rfl, ?_⟩⟩
  refine node_by (A := [[], [], [], [2], [2, 3], [2, 3, 4], [0, 1, 2, 3, 4, 5]]) (nf := [5, 6]) (Y := [5]) 7 (by kernel_rfl) (by kernel_rfl) (by kernel_rfl) (by kernel_rfl) (by kernel_rfl) [5, 0, 1, 2, 3, 4] (by kernel_rfl) (by decide) (by decide) (fF ?_ (fF ?_ (fD 5 (fD 5 (fD 5 (fY (fN ?_ (trivial)))))))) [] (fun q hq => by cases hq) (fun hY => absurd (hY 6 (by decide)) (by decide))
  ·exact fM 1 none rfl rfl rfl rfl (.inl rfl) rfl rfl rfl
  ·refine fJ [(11, _)] 2 [none] fun G a w S => ?_
   exact sLoadN (p := ah) (off := 0) (T := 48) (vs := [iv p1, iv p2, .slice none 0 0, .bool p3.Purl]) 3 [iv p1, iv p2, .slice none 0 0, .bool p3.Purl] S (wN rfl) rfl rfl rfl rfl rfl rfl rfl (lb rfl) fun a S => leafL ⟨rfl, S⟩
  refine ⟨_, [(36, .pointer (some ⟨bb0, 0, none⟩)), (37, .agg #[iv p1, iv p2, .slice none 0 0, .bool p3.Purl]), (41, .slice aR bf.length aS)], rfl, (srcs_of [some 1, some 2, some 0] rfl rfl rfl), fun G a w S => ?_⟩
  have S := S.learn (fRep (rL (rI .i64)) (.slice none 0 0) ([] : (List Int))) (rL_nil _ _ _)
  have S := S.learn (fRep r_api_Loop (.agg #[iv p1, iv p2, .slice none 0 0, .bool p3.Purl]) (api_Loop.mk p1 p2 ([] : (List Int)) p3.Purl)) ⟨_, rfl, S.mem.know (i := 0) (e := fRep (rL (rI .i64)) (.slice none 0 0) ([] : (List Int))) rfl⟩
  have S := S.shutR (r := (rL (rI .i64))) (T := 32) (v := .slice aR bf.length aS) (xs := bf) 0 rfl
  refine sCall (X := Option Addr × Nat × Option Addr × Nat × Option Addr × Nat × Option Addr × Nat) (f := 58) (vs := [.pointer (some ⟨bb0, 0, none⟩), .agg #[iv p1, iv p2, .slice none 0 0, .bool p3.Purl], .slice aR bf.length aS]) (val := fun _ => .tuple #[]) (B' := fun x => [eBox bb0 73 [.slice x.1 aJ.loops.length x.2.1, .slice x.2.2.1 aJ.rows.length x.2.2.2.1, .slice x.2.2.2.2.1 aJ.bound.length x.2.2.2.2.2.1, .slice x.2.2.2.2.2.2.1 aJ.cross.length x.2.2.2.2.2.2.2, iv aJ.next], eRow r_api_Loop 48 (.slice x.1 aJ.loops.length x.2.1) aJ.loops, eRow (rI .i64) 3 (.slice x.2.2.1 aJ.rows.length x.2.2.2.1) aJ.rows, eRow (rI .i64) 3 (.slice x.2.2.2.2.1 aJ.bound.length x.2.2.2.2.2.1) aJ.bound, eRow r_A2_Int 49 (.slice x.2.2.2.2.2.2.1 aJ.cross.length x.2.2.2.2.2.2.2) aJ.cross]) (D' := fun _ => []) [eBox bb0 73 [.slice a5 r9.2.loops.length a6, .slice a9 r9.2.rows.length aa, .slice a7 r9.2.bound.length a8, .slice ab r9.2.cross.length ac, iv r9.2.next], eRow r_api_Loop 48 (.slice a5 r9.2.loops.length a6) r9.2.loops, eRow (rI .i64) 3 (.slice a9 r9.2.rows.length aa) r9.2.rows, eRow (rI .i64) 3 (.slice a7 r9.2.bound.length a8) r9.2.bound, eRow r_A2_Int 49 (.slice ab r9.2.cross.length ac) r9.2.cross] [eBox b2 61 [.int .u8 p3.Kind, .bool p3.Purl, iv p3.A, iv p3.B], eBox ah 48 [iv p1, iv p2, .slice none 0 0, .bool p3.Purl], eRow (rI .i64) 3 (.slice a0 r9.1.length a4) r9.1] [fRep r_api_Loop (.agg #[iv p1, iv p2, .slice none 0 0, .bool p3.Purl]) (api_Loop.mk p1 p2 ([] : (List Int)) p3.Purl), fRep (rL (rL (rI .i64))) (.slice aR bf.length aS) bf] [0, 4, 5, 6, 7, 1, 2, 3] [1, 0] S (wN rfl) rfl callee58 rfl (by decide) rfl rfl (fun E1 w1 S1 => c_loops_piece_add_s1 E1 w1 r9.2 bb0 a5 a6 a9 aa a7 a8 ab ac (api_Loop.mk p1 p2 ([] : (List Int)) p3.Purl) (.agg #[iv p1, iv p2, .slice none 0 0, .bool p3.Purl]) bf (.slice aR bf.length aS) aJ cF S1) rfl (lb rfl) fun xx a w S => ?_
  obtain ⟨cG, cH, cI, cJ, cK, cL, cM, cN⟩ := xx
  dsimp only at S
  refine leafL ⟨rfl, _, _, .inl ⟨42, (.tuple #[]), [], rfl, S, hz_of rfl, ?_⟩⟩
  refine node_by (A := [[], [], [], [2], [2, 3], [2, 3, 4], [0, 1, 2, 3, 4, 5]]) (nf := [5, 6]) (Y := [6, 5]) 7 (by kernel_rfl) (by kernel_rfl) (by kernel_rfl) (by kernel_rfl) (by kernel_rfl) [6, 5, 0, 1, 2, 3, 4] (by kernel_rfl) (by decide) (by decide) (fD 6 (fD 6 (fD 6 (fD 6 (fD 6 (fY (fY (trivial)))))))) [] (fin_of [] rfl (by kernel_rfl) (by kernel_rfl)) (fun _ a w S => ?_)
  obtain rfl := tS h
  exact leafB (sEnd (.tuple #[]) S (rsl0 rfl ) ⟨(cG, cH, cI, cJ, cK, cL, cM, cN), rfl, S.mem.sel [0, 1, 2, 3, 4] [] (by decide) rfl rfl⟩)
 refine sCondF S rfl bl ?_
 refine sSeq (fun dD cO => sRegion (sBin _ S (wN rfl) rfl rfl rfl (bEq _ _ _ _ .u8 p3.Kind 1) rfl (lb rfl) fun a S => ?_))
 refine sN S fun a S => ?_
 refine lT (cO _ _ ?_)
 rcases iS h with ⟨bm, h⟩ | ⟨bm, h⟩
 ·refine sCondT S rfl bm ?_
  refine sRegion (sM S fun a S => ?_)
  refine sLoadN (p := ah) (off := 0) (T := 48) (vs := [iv p1, iv p2, .slice none 0 0, .bool p3.Purl]) 2 [iv p1, iv p2, .slice none 0 0, .bool p3.Purl] S (wN rfl) rfl rfl rfl rfl rfl rfl rfl (lb rfl) fun a S => ?_
  refine sM S fun a S => ?_
  have S := S.shutR (r := (rI .i64)) (T := 3) (v := .slice a0 r9.1.length a4) (xs := r9.1) 3 rfl
  refine sLit (r := (rL (rI .i64))) (T := 32) (xs := [r9.1]) [(0, .slice a0 r9.1.length a4)] 1 [.slice a0 r9.1.length a4] [.slice a0 r9.1.length a4] (.slice none 0 0) 24 S (wN rfl) rfl rfl Try.underlying69 rfl (by decide) (by decide) (by kernel_rfl) rfl (fun E1 w1 hE => All.cons ((rL (rI .i64)).mono hE (S.mem.know (i := 0) (e := fRep (rL (rI .i64)) (.slice a0 r9.1.length a4) r9.1) rfl)) (All.nil _ _ _)) rfl rfl (lb rfl) fun a w bg bh S => ?_
  obtain ⟨aK, cP, h⟩ := bS h
  have S := S.learn (fRep (rL (rI .i64)) (.slice none 0 0) ([] : (List Int))) (rL_nil _ _ _)
  have S := S.learn (fRep r_api_Loop (.agg #[iv p1, iv p2, .slice none 0 0, .bool p3.Purl]) (api_Loop.mk p1 p2 ([] : (List Int)) p3.Purl)) ⟨_, rfl, S.mem.know (i := 0) (e := fRep (rL (rI .i64)) (.slice none 0 0) ([] : (List Int))) rfl⟩
  have S := S.shutR (r := (rL (rI .i64))) (T := 32) (v := .slice bg [r9.1].length bh) (xs := [r9.1]) 0 rfl
  refine sCall (X := Option Addr × Nat × Option Addr × Nat × Option Addr × Nat × Option Addr × Nat) (f := 58) (vs := [.pointer (some ⟨bb0, 0, none⟩), .agg #[iv p1, iv p2, .slice none 0 0, .bool p3.Purl], .slice bg [r9.1].length bh]) (val := fun _ => .tuple #[]) (B' := fun x => [eBox bb0 73 [.slice x.1 aK.loops.length x.2.1, .slice x.2.2.1 aK.rows.length x.2.2.2.1, .slice x.2.2.2.2.1 aK.bound.length x.2.2.2.2.2.1, .slice x.2.2.2.2.2.2.1 aK.cross.length x.2.2.2.2.2.2.2, iv aK.next], eRow r_api_Loop 48 (.slice x.1 aK.loops.length x.2.1) aK.loops, eRow (rI .i64) 3 (.slice x.2.2.1 aK.rows.length x.2.2.2.1) aK.rows, eRow (rI .i64) 3 (.slice x.2.2.2.2.1 aK.bound.length x.2.2.2.2.2.1) aK.bound, eRow r_A2_Int 49 (.slice x.2.2.2.2.2.2.1 aK.cross.length x.2.2.2.2.2.2.2) aK.cross]) (D' := fun _ => []) [eBox bb0 73 [.slice a5 r9.2.loops.length a6, .slice a9 r9.2.rows.length aa, .slice a7 r9.2.bound.length a8, .slice ab r9.2.cross.length ac, iv r9.2.next], eRow r_api_Loop 48 (.slice a5 r9.2.loops.length a6) r9.2.loops, eRow (rI .i64) 3 (.slice a9 r9.2.rows.length aa) r9.2.rows, eRow (rI .i64) 3 (.slice a7 r9.2.bound.length a8) r9.2.bound, eRow r_A2_Int 49 (.slice ab r9.2.cross.length ac) r9.2.cross] [eBox b2 61 [.int .u8 p3.Kind, .bool p3.Purl, iv p3.A, iv p3.B], eBox ah 48 [iv p1, iv p2, .slice none 0 0, .bool p3.Purl]] [fRep r_api_Loop (.agg #[iv p1, iv p2, .slice none 0 0, .bool p3.Purl]) (api_Loop.mk p1 p2 ([] : (List Int)) p3.Purl), fRep (rL (rL (rI .i64))) (.slice bg [r9.1].length bh) [r9.1]] [0, 3, 4, 5, 6, 1, 2] [1, 0] S (wN rfl) rfl callee58 rfl (by decide) rfl rfl (fun E1 w1 S1 => c_loops_piece_add_s1 E1 w1 r9.2 bb0 a5 a6 a9 aa a7 a8 ab ac (api_Loop.mk p1 p2 ([] : (List Int)) p3.Purl) (.agg #[iv p1, iv p2, .slice none 0 0, .bool p3.Purl]) [r9.1] (.slice bg [r9.1].length bh) aK cP S1) rfl (lb rfl) fun xx a w S => ?_
  obtain ⟨cQ, cR, cS, cT, cU, cV, cW, cX⟩ := xx
  dsimp only at S
  obtain rfl := tS h
  exact leafL (leafB (sEnd (.tuple #[]) S (rsl0 rfl ) ⟨(cQ, cR, cS, cT, cU, cV, cW, cX), rfl, S.mem.sel [0, 1, 2, 3, 4] [] (by decide) rfl rfl⟩))
 refine sCondF S rfl bm ?_
 refine sSeq (fun dE cY => sRegion (sBin _ S (wN rfl) rfl rfl rfl (bEq _ _ _ _ .u8 p3.Kind 8) rfl (lb rfl) fun a S => ?_))
 refine sN S fun a S => ?_
 refine lT (cY _ _ ?_)
 rcases iS h with ⟨bn, h⟩ | ⟨bn, h⟩
 ·refine sCondT S rfl bn ?_
  refine sSeq (fun dG cZ => ?_)
  obtain ⟨bo, bp, h⟩ := bS h
  obtain ⟨aI, bq, h⟩ := bS h
  obtain ⟨de, d1, d3⟩ := pIdxR (P := Try.prog) (r := (rI .i64)) (T := 3) (v := .slice a0 r9.1.length a4) (xs := r9.1) (j := 0) 32 3 3 S Try.underlying32 rfl rfl bp
  obtain ⟨df, d4, d5⟩ := pIdxR (P := Try.prog) (r := r_api_Loop) (T := 48) (v := .slice a5 r9.2.loops.length a6) (xs := r9.2.loops) (j := bo) 26 48 4 S Try.underlying26 rfl rfl bq
  obtain ⟨dg, d6, d7⟩ := pFldR (P := Try.prog) 48 3 3 d5 rfl
  refine sDraw (nf := [11]) (W := [(0, 52, .pointer (some ⟨bb0, 0, none⟩)), (1, 53, .pointer (some ⟨bb0, 0, none⟩)), (2, 54, .pointer (some ⟨bb0, 0, none⟩)), (3, 55, .slice a5 r9.2.loops.length a6), (4, 56, .slice a0 r9.1.length a4), (5, 57, de), (6, 58, iv bo), (7, 59, df), (8, 60, dg), (9, 61, .bool aI.Purl), (10, 62, .pointer (some ⟨ah, 3, none⟩))]) rfl S ?_
  refine node_by (A := anc_loops_piece_work_s1_0) 12 (by kernel_rfl) (by kernel_rfl) (by kernel_rfl) (by kernel_rfl) (by kernel_rfl) [0, 1, 2, 3, 4, 5, 6, 7, 8, 9, 10] (by kernel_rfl) (by decide) (by decide) (fF ?_ (fF ?_ (fF ?_ (fF ?_ (fF ?_ (fF ?_ (fF ?_ (fF ?_ (fF ?_ (fF ?_ (fF ?_ (fN ?_ (trivial))))))))))))) [] (fun q hq => by cases hq) (fun hY => absurd (hY 11 (by decide)) (by decide))
  ·exact fM 0 none rfl rfl rfl rfl (.inl rfl) rfl rfl rfl
  ·refine fJ [(52, _)] 1 [some 0] fun G a w S => ?_
   exact nilCheck_ok (q := ⟨bb0, 0, none⟩) S (wN rfl) rfl rfl rfl (lb rfl) fun a S => leafL ⟨rfl, S⟩
  ·refine fJ [(53, _)] 2 [some 1] fun G a w S => ?_
   exact sField (b := bb0) (off := 0) 0 0 S (wN rfl) rfl rfl rfl rfl rfl (lb rfl) fun a S => leafL ⟨rfl, S⟩
  ·refine fJ [(54, _)] 3 [some 2] fun G a w S => ?_
   exact sLoad1 0 (.slice a5 r9.2.loops.length a6) S (wN rfl) rfl rfl rfl rfl rfl rfl (lb rfl) fun a S => leafL ⟨rfl, S⟩
  ·exact fM 4 none rfl rfl rfl rfl (.inl rfl) rfl rfl rfl
  ·refine fJ [(56, _)] 5 [some 4] fun G a w S => ?_
   exact sIdxV S (wN rfl) rfl rfl rfl d1 rfl (lb rfl) fun a S => leafL ⟨rfl, S⟩
  ·refine fJ [(57, _)] 6 [some 5] fun G a w S => ?_
   exact sLoadR (r := (rI .i64)) (T := 3) (xs := r9.1) (x := bo) (v := .slice a0 r9.1.length a4) (vq := de) (j := 0) 3 (iv bo) S d3 (wN rfl) rfl rfl rfl bp (fun _ _ _ h => h) (scal_I _) rfl rfl (lb rfl) fun a S => leafL ⟨rfl, S⟩
  ·refine fJ [(55, _), (58, _)] 7 [some 3, some 6] fun G a w S => ?_
   exact sIdxV S (wN rfl) rfl rfl rfl d4 rfl (lb rfl) fun a S => leafL ⟨rfl, S⟩
  ·refine fJ [(59, _)] 8 [some 7] fun G a w S => ?_
   exact sFldV (q := df) S (wN rfl) rfl rfl d6 rfl (lb rfl) fun a S => leafL ⟨rfl, S⟩
  ·refine fJ [(60, _)] 9 [some 8] fun G a w S => ?_
   exact sLoadF (r := r_api_Loop) (s := rB) (g := (·.Purl)) (T := 48) (xs := r9.2.loops) (x := aI) (v := .slice a5 r9.2.loops.length a6) (vq := dg) (j := bo) 4 3 (.bool aI.Purl) S d7 (wN rfl) rfl rfl rfl bq comp_api_Loop_Purl (fun _ _ _ h => h) scal_B rfl rfl (lb rfl) fun a S => leafL ⟨rfl, S⟩
  ·refine fJ [(11, _)] 10 [none] fun G a w S => ?_
   exact sField (b := ah) (off := 0) 3 3 S (wN rfl) rfl rfl rfl rfl rfl (lb rfl) fun a S => leafL ⟨rfl, S⟩
  refine ⟨_, [(61, .bool aI.Purl), (62, .pointer (some ⟨ah, 3, none⟩))], rfl, (srcs_of [some 9, some 10] rfl rfl rfl), fun G a w S => ?_⟩
  refine sStore (p := ah) (off := 3) (T := 48) (vs := [iv p1, iv p2, .slice none 0 0, .bool p3.Purl]) (v := .bool aI.Purl) 2 [.bool aI.Purl] S (wN rfl) rfl rfl rfl rfl rfl rfl rfl (by simp) rfl fun a w S => ?_
  refine leafL ⟨rfl, _, _, .inr ⟨[], rfl, S, hz_of rfl, ?_⟩⟩
  refine node_by (A := anc_loops_piece_work_s1_0) 12 (by kernel_rfl) (by kernel_rfl) (by kernel_rfl) (by kernel_rfl) (by kernel_rfl) [0, 1, 2, 3, 4, 5, 6, 7, 8, 9, 10] (by kernel_rfl) (by decide) (by decide) (fD 11 (fD 11 (fD 11 (fD 11 (fD 11 (fD 11 (fD 11 (fD 11 (fD 11 (fD 11 (fD 11 (fY (trivial))))))))))))) [(0, .pointer (some ⟨bb0, 0, none⟩)), (10, .slice a0 r9.1.length a4), (11, .pointer (some ⟨ah, 0, none⟩))] (fin_of [none, none, none] rfl (by kernel_rfl) (by kernel_rfl)) (fun _ a w S => ?_)
  refine leafT (cZ _ _ ?_)
  refine sRegion (sM S fun a S => ?_)
  refine sLoadN (p := ah) (off := 0) (T := 48) (vs := [iv p1, iv p2, .slice none 0 0, .bool aI.Purl]) 0 [iv p1, iv p2, .slice none 0 0, .bool aI.Purl] S (wN rfl) rfl rfl rfl rfl rfl rfl rfl (lb rfl) fun a S => ?_
  refine sM S fun a S => ?_
  have S := S.shutR (r := (rI .i64)) (T := 3) (v := .slice a0 r9.1.length a4) (xs := r9.1) 3 rfl
  refine sLit (r := (rL (rI .i64))) (T := 32) (xs := [r9.1]) [(0, .slice a0 r9.1.length a4)] 1 [.slice a0 r9.1.length a4] [.slice a0 r9.1.length a4] (.slice none 0 0) 24 S (wN rfl) rfl rfl Try.underlying69 rfl (by decide) (by decide) (by kernel_rfl) rfl (fun E1 w1 hE => All.cons ((rL (rI .i64)).mono hE (S.mem.know (i := 0) (e := fRep (rL (rI .i64)) (.slice a0 r9.1.length a4) r9.1) rfl)) (All.nil _ _ _)) rfl rfl (lb rfl) fun a w bi bj S => ?_
  obtain ⟨aL, d8, h⟩ := bS h
  have S := S.learn (fRep (rL (rI .i64)) (.slice none 0 0) ([] : (List Int))) (rL_nil _ _ _)
  have S := S.learn (fRep r_api_Loop (.agg #[iv p1, iv p2, .slice none 0 0, .bool aI.Purl]) (api_Loop.mk p1 p2 ([] : (List Int)) aI.Purl)) ⟨_, rfl, S.mem.know (i := 0) (e := fRep (rL (rI .i64)) (.slice none 0 0) ([] : (List Int))) rfl⟩
  have S := S.shutR (r := (rL (rI .i64))) (T := 32) (v := .slice bi [r9.1].length bj) (xs := [r9.1]) 0 rfl
  refine sCall (X := Option Addr × Nat × Option Addr × Nat × Option Addr × Nat × Option Addr × Nat) (f := 58) (vs := [.pointer (some ⟨bb0, 0, none⟩), .agg #[iv p1, iv p2, .slice none 0 0, .bool aI.Purl], .slice bi [r9.1].length bj]) (val := fun _ => .tuple #[]) (B' := fun x => [eBox bb0 73 [.slice x.1 aL.loops.length x.2.1, .slice x.2.2.1 aL.rows.length x.2.2.2.1, .slice x.2.2.2.2.1 aL.bound.length x.2.2.2.2.2.1, .slice x.2.2.2.2.2.2.1 aL.cross.length x.2.2.2.2.2.2.2, iv aL.next], eRow r_api_Loop 48 (.slice x.1 aL.loops.length x.2.1) aL.loops, eRow (rI .i64) 3 (.slice x.2.2.1 aL.rows.length x.2.2.2.1) aL.rows, eRow (rI .i64) 3 (.slice x.2.2.2.2.1 aL.bound.length x.2.2.2.2.2.1) aL.bound, eRow r_A2_Int 49 (.slice x.2.2.2.2.2.2.1 aL.cross.length x.2.2.2.2.2.2.2) aL.cross]) (D' := fun _ => []) [eBox bb0 73 [.slice a5 r9.2.loops.length a6, .slice a9 r9.2.rows.length aa, .slice a7 r9.2.bound.length a8, .slice ab r9.2.cross.length ac, iv r9.2.next], eRow r_api_Loop 48 (.slice a5 r9.2.loops.length a6) r9.2.loops, eRow (rI .i64) 3 (.slice a9 r9.2.rows.length aa) r9.2.rows, eRow (rI .i64) 3 (.slice a7 r9.2.bound.length a8) r9.2.bound, eRow r_A2_Int 49 (.slice ab r9.2.cross.length ac) r9.2.cross] [eBox ah 48 [iv p1, iv p2, .slice none 0 0, .bool aI.Purl], eBox b2 61 [.int .u8 p3.Kind, .bool p3.Purl, iv p3.A, iv p3.B]] [fRep r_api_Loop (.agg #[iv p1, iv p2, .slice none 0 0, .bool aI.Purl]) (api_Loop.mk p1 p2 ([] : (List Int)) aI.Purl), fRep (rL (rL (rI .i64))) (.slice bi [r9.1].length bj) [r9.1]] [1, 3, 4, 5, 6, 0, 2] [1, 0] S (wN rfl) rfl callee58 rfl (by decide) rfl rfl (fun E1 w1 S1 => c_loops_piece_add_s1 E1 w1 r9.2 bb0 a5 a6 a9 aa a7 a8 ab ac (api_Loop.mk p1 p2 ([] : (List Int)) aI.Purl) (.agg #[iv p1, iv p2, .slice none 0 0, .bool aI.Purl]) [r9.1] (.slice bi [r9.1].length bj) aL d8 S1) rfl (lb rfl) fun xx a w S => ?_
  obtain ⟨d9, da, db, br, bt, bu, bv, bw⟩ := xx
  dsimp only at S
  obtain rfl := tS h
  exact leafL (leafB (sEnd (.tuple #[]) S (rsl0 rfl ) ⟨(d9, da, db, br, bt, bu, bv, bw), rfl, S.mem.sel [0, 1, 2, 3, 4] [] (by decide) rfl rfl⟩))
 refine sCondF S rfl bn ?_
 refine sSeq (fun dn bx => sRegion (sBin _ S (wN rfl) rfl rfl rfl (bEq _ _ _ _ .u8 p3.Kind 4) rfl (lb rfl) fun a S => ?_))
 refine sN S fun a S => ?_
 refine lT (bx _ _ ?_)
 rcases iS h with ⟨aU, h⟩ | ⟨aU, h⟩
 ·refine sCondT S rfl aU ?_
  refine sSeq (fun dp bz => sRegion (sM S fun a S => ?_))
  obtain ⟨ag, bA, h⟩ := bS h
  refine sCall (X := Unit) (f := 59) (vs := [.slice a0 r9.1.length a4]) (val := fun _ => .tuple #[]) (B' := fun _ => [eRow (rI .i64) 3 (.slice a0 r9.1.length a4) ag]) (D' := fun _ => []) [eRow (rI .i64) 3 (.slice a0 r9.1.length a4) r9.1] [eBox bb0 73 [.slice a5 r9.2.loops.length a6, .slice a9 r9.2.rows.length aa, .slice a7 r9.2.bound.length a8, .slice ab r9.2.cross.length ac, iv r9.2.next], eBox b2 61 [.int .u8 p3.Kind, .bool p3.Purl, iv p3.A, iv p3.B], eBox ah 48 [iv p1, iv p2, .slice none 0 0, .bool p3.Purl], eRow r_api_Loop 48 (.slice a5 r9.2.loops.length a6) r9.2.loops, eRow (rI .i64) 3 (.slice a9 r9.2.rows.length aa) r9.2.rows, eRow (rI .i64) 3 (.slice a7 r9.2.bound.length a8) r9.2.bound, eRow r_A2_Int 49 (.slice ab r9.2.cross.length ac) r9.2.cross] [] [3, 0, 1, 2, 4, 5, 6, 7] [] S (wN rfl) rfl callee59 rfl (by decide) rfl rfl (fun E1 w1 S1 => c_slices_Reverse___int_int__s0 E1 w1 r9.1 a0 a4 ag bA S1) rfl (lb rfl) fun _ a w S => ?_
  have bB := row_v (S.mem.hold (i := 0) (e := eRow (rI .i64) 3 (.slice a0 r9.1.length a4) ag) rfl)
  rw [bB] at S
  refine lT (bz _ _ (sRegion (sM S fun a S => ?_)))
  refine sLoadN (p := ah) (off := 0) (T := 48) (vs := [iv p1, iv p2, .slice none 0 0, .bool p3.Purl]) 3 [iv p1, iv p2, .slice none 0 0, .bool p3.Purl] S (wN rfl) rfl rfl rfl rfl rfl rfl rfl (lb rfl) fun a S => ?_
  refine sM S fun a S => ?_
  have S := S.shutR (r := (rI .i64)) (T := 3) (v := .slice a0 ag.length a4) (xs := ag) 0 rfl
  refine sLit (r := (rL (rI .i64))) (T := 32) (xs := [ag]) [(0, .slice a0 ag.length a4)] 1 [.slice a0 ag.length a4] [.slice a0 ag.length a4] (.slice none 0 0) 24 S (wN rfl) rfl rfl Try.underlying69 rfl (by decide) (by decide) (by kernel_rfl) rfl (fun E1 w1 hE => All.cons ((rL (rI .i64)).mono hE (S.mem.know (i := 0) (e := fRep (rL (rI .i64)) (.slice a0 ag.length a4) ag) rfl)) (All.nil _ _ _)) rfl rfl (lb rfl) fun a w aM aO S => ?_
  obtain ⟨ai, bC, h⟩ := bS h
  have S := S.learn (fRep (rL (rI .i64)) (.slice none 0 0) ([] : (List Int))) (rL_nil _ _ _)
  have S := S.learn (fRep r_api_Loop (.agg #[iv p1, iv p2, .slice none 0 0, .bool p3.Purl]) (api_Loop.mk p1 p2 ([] : (List Int)) p3.Purl)) ⟨_, rfl, S.mem.know (i := 0) (e := fRep (rL (rI .i64)) (.slice none 0 0) ([] : (List Int))) rfl⟩
  have S := S.shutR (r := (rL (rI .i64))) (T := 32) (v := .slice aM [ag].length aO) (xs := [ag]) 0 rfl
  refine sCall (X := Option Addr × Nat × Option Addr × Nat × Option Addr × Nat × Option Addr × Nat) (f := 58) (vs := [.pointer (some ⟨bb0, 0, none⟩), .agg #[iv p1, iv p2, .slice none 0 0, .bool p3.Purl], .slice aM [ag].length aO]) (val := fun _ => .tuple #[]) (B' := fun x => [eBox bb0 73 [.slice x.1 ai.loops.length x.2.1, .slice x.2.2.1 ai.rows.length x.2.2.2.1, .slice x.2.2.2.2.1 ai.bound.length x.2.2.2.2.2.1, .slice x.2.2.2.2.2.2.1 ai.cross.length x.2.2.2.2.2.2.2, iv ai.next], eRow r_api_Loop 48 (.slice x.1 ai.loops.length x.2.1) ai.loops, eRow (rI .i64) 3 (.slice x.2.2.1 ai.rows.length x.2.2.2.1) ai.rows, eRow (rI .i64) 3 (.slice x.2.2.2.2.1 ai.bound.length x.2.2.2.2.2.1) ai.bound, eRow r_A2_Int 49 (.slice x.2.2.2.2.2.2.1 ai.cross.length x.2.2.2.2.2.2.2) ai.cross]) (D' := fun _ => []) [eBox bb0 73 [.slice a5 r9.2.loops.length a6, .slice a9 r9.2.rows.length aa, .slice a7 r9.2.bound.length a8, .slice ab r9.2.cross.length ac, iv r9.2.next], eRow r_api_Loop 48 (.slice a5 r9.2.loops.length a6) r9.2.loops, eRow (rI .i64) 3 (.slice a9 r9.2.rows.length aa) r9.2.rows, eRow (rI .i64) 3 (.slice a7 r9.2.bound.length a8) r9.2.bound, eRow r_A2_Int 49 (.slice ab r9.2.cross.length ac) r9.2.cross] [eBox b2 61 [.int .u8 p3.Kind, .bool p3.Purl, iv p3.A, iv p3.B], eBox ah 48 [iv p1, iv p2, .slice none 0 0, .bool p3.Purl]] [fRep r_api_Loop (.agg #[iv p1, iv p2, .slice none 0 0, .bool p3.Purl]) (api_Loop.mk p1 p2 ([] : (List Int)) p3.Purl), fRep (rL (rL (rI .i64))) (.slice aM [ag].length aO) [ag]] [0, 3, 4, 5, 6, 1, 2] [1, 0] S (wN rfl) rfl callee58 rfl (by decide) rfl rfl (fun E1 w1 S1 => c_loops_piece_add_s1 E1 w1 r9.2 bb0 a5 a6 a9 aa a7 a8 ab ac (api_Loop.mk p1 p2 ([] : (List Int)) p3.Purl) (.agg #[iv p1, iv p2, .slice none 0 0, .bool p3.Purl]) [ag] (.slice aM [ag].length aO) ai bC S1) rfl (lb rfl) fun xx a w S => ?_
  obtain ⟨bD, bE, bG, bH, bI, bJ, bK, bL⟩ := xx
  dsimp only at S
  obtain rfl := tS h
  exact leafL (leafB (sEnd (.tuple #[]) S (rsl0 rfl ) ⟨(bD, bE, bG, bH, bI, bJ, bK, bL), rfl, S.mem.sel [0, 1, 2, 3, 4] [] (by decide) rfl rfl⟩))
 refine sCondF S rfl aU ?_
 refine sSeq (fun dr bM => sRegion (sBin _ S (wN rfl) rfl rfl rfl (bEq _ _ _ _ .u8 p3.Kind 3) rfl (lb rfl) fun a S => ?_))
 refine sN S fun a S => ?_
 refine lT (bM _ _ ?_)
 rcases iS h with ⟨aV, h⟩ | ⟨aV, h⟩
 ·refine sCondT S rfl aV ?_
  refine sRegion (sM S fun a S => ?_)
  refine sLoadN (p := ah) (off := 0) (T := 48) (vs := [iv p1, iv p2, .slice none 0 0, .bool p3.Purl]) 2 [iv p1, iv p2, .slice none 0 0, .bool p3.Purl] S (wN rfl) rfl rfl rfl rfl rfl rfl rfl (lb rfl) fun a S => ?_
  refine sM S fun a S => ?_
  have S := S.shutR (r := (rI .i64)) (T := 3) (v := .slice a0 r9.1.length a4) (xs := r9.1) 3 rfl
  refine sLit (r := (rL (rI .i64))) (T := 32) (xs := [r9.1]) [(0, .slice a0 r9.1.length a4)] 1 [.slice a0 r9.1.length a4] [.slice a0 r9.1.length a4] (.slice none 0 0) 24 S (wN rfl) rfl rfl Try.underlying69 rfl (by decide) (by decide) (by kernel_rfl) rfl (fun E1 w1 hE => All.cons ((rL (rI .i64)).mono hE (S.mem.know (i := 0) (e := fRep (rL (rI .i64)) (.slice a0 r9.1.length a4) r9.1) rfl)) (All.nil _ _ _)) rfl rfl (lb rfl) fun a w aP aQ S => ?_
  obtain ⟨aj, bN, h⟩ := bS h
  have S := S.learn (fRep (rL (rI .i64)) (.slice none 0 0) ([] : (List Int))) (rL_nil _ _ _)
  have S := S.learn (fRep r_api_Loop (.agg #[iv p1, iv p2, .slice none 0 0, .bool p3.Purl]) (api_Loop.mk p1 p2 ([] : (List Int)) p3.Purl)) ⟨_, rfl, S.mem.know (i := 0) (e := fRep (rL (rI .i64)) (.slice none 0 0) ([] : (List Int))) rfl⟩
  have S := S.shutR (r := (rL (rI .i64))) (T := 32) (v := .slice aP [r9.1].length aQ) (xs := [r9.1]) 0 rfl
  refine sCall (X := Option Addr × Nat × Option Addr × Nat × Option Addr × Nat × Option Addr × Nat) (f := 58) (vs := [.pointer (some ⟨bb0, 0, none⟩), .agg #[iv p1, iv p2, .slice none 0 0, .bool p3.Purl], .slice aP [r9.1].length aQ]) (val := fun _ => .tuple #[]) (B' := fun x => [eBox bb0 73 [.slice x.1 aj.loops.length x.2.1, .slice x.2.2.1 aj.rows.length x.2.2.2.1, .slice x.2.2.2.2.1 aj.bound.length x.2.2.2.2.2.1, .slice x.2.2.2.2.2.2.1 aj.cross.length x.2.2.2.2.2.2.2, iv aj.next], eRow r_api_Loop 48 (.slice x.1 aj.loops.length x.2.1) aj.loops, eRow (rI .i64) 3 (.slice x.2.2.1 aj.rows.length x.2.2.2.1) aj.rows, eRow (rI .i64) 3 (.slice x.2.2.2.2.1 aj.bound.length x.2.2.2.2.2.1) aj.bound, eRow r_A2_Int 49 (.slice x.2.2.2.2.2.2.1 aj.cross.length x.2.2.2.2.2.2.2) aj.cross]) (D' := fun _ => []) [eBox bb0 73 [.slice a5 r9.2.loops.length a6, .slice a9 r9.2.rows.length aa, .slice a7 r9.2.bound.length a8, .slice ab r9.2.cross.length ac, iv r9.2.next], eRow r_api_Loop 48 (.slice a5 r9.2.loops.length a6) r9.2.loops, eRow (rI .i64) 3 (.slice a9 r9.2.rows.length aa) r9.2.rows, eRow (rI .i64) 3 (.slice a7 r9.2.bound.length a8) r9.2.bound, eRow r_A2_Int 49 (.slice ab r9.2.cross.length ac) r9.2.cross] [eBox b2 61 [.int .u8 p3.Kind, .bool p3.Purl, iv p3.A, iv p3.B], eBox ah 48 [iv p1, iv p2, .slice none 0 0, .bool p3.Purl]] [fRep r_api_Loop (.agg #[iv p1, iv p2, .slice none 0 0, .bool p3.Purl]) (api_Loop.mk p1 p2 ([] : (List Int)) p3.Purl), fRep (rL (rL (rI .i64))) (.slice aP [r9.1].length aQ) [r9.1]] [0, 3, 4, 5, 6, 1, 2] [1, 0] S (wN rfl) rfl callee58 rfl (by decide) rfl rfl (fun E1 w1 S1 => c_loops_piece_add_s1 E1 w1 r9.2 bb0 a5 a6 a9 aa a7 a8 ab ac (api_Loop.mk p1 p2 ([] : (List Int)) p3.Purl) (.agg #[iv p1, iv p2, .slice none 0 0, .bool p3.Purl]) [r9.1] (.slice aP [r9.1].length aQ) aj bN S1) rfl (lb rfl) fun xx a w S => ?_
  obtain ⟨bO, bP, bQ, bR, bU, bV, bW, bX⟩ := xx
  dsimp only at S
  obtain rfl := tS h
  exact leafL (leafB (sEnd (.tuple #[]) S (rsl0 rfl ) ⟨(bO, bP, bQ, bR, bU, bV, bW, bX), rfl, S.mem.sel [0, 1, 2, 3, 4] [] (by decide) rfl rfl⟩))
 refine sCondF S rfl aV ?_
 refine sSeq (fun dt bY => sRegion (sBin _ S (wN rfl) rfl rfl rfl (bEq _ _ _ _ .u8 p3.Kind 5) rfl (lb rfl) fun a S => ?_))
 refine sN S fun a S => ?_
 refine lT (bY _ _ ?_)
 rcases iS h with ⟨aW, h⟩ | ⟨aW, h⟩
 rotate_left
 ·refine sCondF S rfl aW ?_
  refine sSeq (fun du bZ => sRegion (sBin _ S (wN rfl) rfl rfl rfl (bEq _ _ _ _ .u8 p3.Kind 10) rfl (lb rfl) fun a S => ?_))
  refine sN S fun a S => ?_
  refine lT (bZ _ _ ?_)
  rcases iS h with ⟨aX, h⟩ | ⟨aX, h⟩
  ·refine sCondT S rfl aX ?_
   refine sRegion (sM S fun a S => ?_)
   refine sM S fun a S => ?_
   refine nilCheck_ok (q := ⟨bb0, 0, none⟩) S (wN rfl) rfl rfl rfl (lb rfl) fun a S => ?_
   refine sField (b := bb0) (off := 0) 2 2 S (wN rfl) rfl rfl rfl rfl rfl (lb rfl) fun a S => ?_
   refine sLoad1 0 (.slice a7 r9.2.bound.length a8) S (wN rfl) rfl rfl rfl rfl rfl rfl (lb rfl) fun a S => ?_
   refine sM S fun a S => ?_
   obtain ⟨c5, c6, h⟩ := bS h
   refine sApp (r := (rI .i64)) (T := 3) (xs := r9.2.bound) (ys := r9.1) (v := .slice a7 r9.2.bound.length a8) (u := .slice a0 r9.1.length a4) 6 (iv 0) 8 S (wN rfl) rfl Try.underlying32 rfl rfl (by decide) rfl rfl rfl (src_R (T := 3) 3 S.mem rfl) c6 rfl (lb rfl) fun a w aZ ba S => ?_
   refine nilCheck_ok (q := ⟨bb0, 0, none⟩) S (wN rfl) rfl rfl rfl (lb rfl) fun a S => ?_
   refine sField (b := bb0) (off := 0) 2 2 S (wN rfl) rfl rfl rfl rfl rfl (lb rfl) fun a S => ?_
   refine sStore (p := bb0) (off := 2) (T := 73) (vs := [.slice a5 r9.2.loops.length a6, .slice a9 r9.2.rows.length aa, .slice a7 r9.2.bound.length a8, .slice ab r9.2.cross.length ac, iv r9.2.next]) (v := .slice aZ c5.length ba) 1 [.slice aZ c5.length ba] S (wN rfl) rfl rfl rfl rfl rfl rfl rfl (by simp) rfl fun a w S => ?_
   obtain rfl := tS h
   exact leafL (leafB (sEnd (.tuple #[]) S (rsl0 rfl ) ⟨(a5, a6, a9, aa, aZ, ba, ab, ac), rfl, S.mem.sel [0, 5, 6, 1, 7] [] (by decide) rfl rfl⟩))
  refine sCondF S rfl aX ?_
  refine sRegion (sM S fun a S => ?_)
  refine sLoadN (p := ah) (off := 0) (T := 48) (vs := [iv p1, iv p2, .slice none 0 0, .bool p3.Purl]) 2 [iv p1, iv p2, .slice none 0 0, .bool p3.Purl] S (wN rfl) rfl rfl rfl rfl rfl rfl rfl (lb rfl) fun a S => ?_
  refine sLoadN (p := b2) (off := 0) (T := 61) (vs := [.int .u8 p3.Kind, .bool p3.Purl, iv p3.A, iv p3.B]) 1 [.int .u8 p3.Kind, .bool p3.Purl, iv p3.A, iv p3.B] S (wN rfl) rfl rfl rfl rfl rfl rfl rfl (lb rfl) fun a S => ?_
  refine sM S fun a S => ?_
  obtain ⟨ak, c7, h⟩ := bS h
  have S := S.learn (fRep (rL (rI .i64)) (.slice none 0 0) ([] : (List Int))) (rL_nil _ _ _)
  have S := S.learn (fRep r_api_Loop (.agg #[iv p1, iv p2, .slice none 0 0, .bool p3.Purl]) (api_Loop.mk p1 p2 ([] : (List Int)) p3.Purl)) ⟨_, rfl, S.mem.know (i := 0) (e := fRep (rL (rI .i64)) (.slice none 0 0) ([] : (List Int))) rfl⟩
  have S := S.learn (fRep r_api_Stitch (.agg #[.int .u8 p3.Kind, .bool p3.Purl, iv p3.A, iv p3.B]) p3) rfl
  have S := S.shutR (r := (rI .i64)) (T := 3) (v := .slice a0 r9.1.length a4) (xs := r9.1) 3 rfl
  refine sCall (X := Option Addr × Nat × Option Addr × Nat × Option Addr × Nat × Option Addr × Nat) (f := 61) (vs := [.pointer (some ⟨bb0, 0, none⟩), .agg #[iv p1, iv p2, .slice none 0 0, .bool p3.Purl], .agg #[.int .u8 p3.Kind, .bool p3.Purl, iv p3.A, iv p3.B], .slice a0 r9.1.length a4]) (val := fun _ => .tuple #[]) (B' := fun x => [eBox bb0 73 [.slice x.1 ak.loops.length x.2.1, .slice x.2.2.1 ak.rows.length x.2.2.2.1, .slice x.2.2.2.2.1 ak.bound.length x.2.2.2.2.2.1, .slice x.2.2.2.2.2.2.1 ak.cross.length x.2.2.2.2.2.2.2, iv ak.next], eRow r_api_Loop 48 (.slice x.1 ak.loops.length x.2.1) ak.loops, eRow (rI .i64) 3 (.slice x.2.2.1 ak.rows.length x.2.2.2.1) ak.rows, eRow (rI .i64) 3 (.slice x.2.2.2.2.1 ak.bound.length x.2.2.2.2.2.1) ak.bound, eRow r_A2_Int 49 (.slice x.2.2.2.2.2.2.1 ak.cross.length x.2.2.2.2.2.2.2) ak.cross]) (D' := fun _ => []) [eBox bb0 73 [.slice a5 r9.2.loops.length a6, .slice a9 r9.2.rows.length aa, .slice a7 r9.2.bound.length a8, .slice ab r9.2.cross.length ac, iv r9.2.next], eRow r_api_Loop 48 (.slice a5 r9.2.loops.length a6) r9.2.loops, eRow (rI .i64) 3 (.slice a9 r9.2.rows.length aa) r9.2.rows, eRow (rI .i64) 3 (.slice a7 r9.2.bound.length a8) r9.2.bound, eRow r_A2_Int 49 (.slice ab r9.2.cross.length ac) r9.2.cross] [eBox b2 61 [.int .u8 p3.Kind, .bool p3.Purl, iv p3.A, iv p3.B], eBox ah 48 [iv p1, iv p2, .slice none 0 0, .bool p3.Purl]] [fRep r_api_Loop (.agg #[iv p1, iv p2, .slice none 0 0, .bool p3.Purl]) (api_Loop.mk p1 p2 ([] : (List Int)) p3.Purl), fRep r_api_Stitch (.agg #[.int .u8 p3.Kind, .bool p3.Purl, iv p3.A, iv p3.B]) p3, fRep (rL (rI .i64)) (.slice a0 r9.1.length a4) r9.1] [0, 3, 4, 5, 6, 1, 2] [2, 1, 0] S (wN rfl) rfl callee61 rfl (by decide) rfl rfl (fun E1 w1 S1 => c_loops_piece_cable_s1 E1 w1 r9.2 bb0 a5 a6 a9 aa a7 a8 ab ac (api_Loop.mk p1 p2 ([] : (List Int)) p3.Purl) (.agg #[iv p1, iv p2, .slice none 0 0, .bool p3.Purl]) p3 (.agg #[.int .u8 p3.Kind, .bool p3.Purl, iv p3.A, iv p3.B]) r9.1 (.slice a0 r9.1.length a4) ak c7 S1) rfl (lb rfl) fun xx a w S => ?_
  obtain ⟨c8, c9, ca, cb, cc, cd, ce, cf⟩ := xx
  dsimp only at S
  obtain rfl := tS h
  exact leafL (leafB (sEnd (.tuple #[]) S (rsl0 rfl ) ⟨(c8, c9, ca, cb, cc, cd, ce, cf), rfl, S.mem.sel [0, 1, 2, 3, 4] [] (by decide) rfl rfl⟩))
 refine sCondT S rfl aW ?_
 refine sSeq (fun dv cg => sRegion (sField (b := b2) (off := 0) 2 2 S (wN rfl) rfl rfl rfl rfl rfl (lb rfl) fun a S => ?_))
 refine sLoad1 1 (iv p3.A) S (wN rfl) rfl rfl rfl rfl rfl rfl (lb rfl) fun a S => ?_
 refine sM S fun a S => ?_
 refine lT (cg _ _ (wp_block ?_))
 have S := S.shutR (r := (rI .i64)) (T := 3) (v := .slice a0 r9.1.length a4) (xs := r9.1) 3 rfl
 obtain ⟨dw, hl, dc⟩ := bS h
 refine sLoop hl (fun s0 a w => match s0 with | (aT, aw, ax, ay, az, bb) => ∃ al, ∃ am, ∃ ao, ∃ ap, ∃ aq, ∃ ar, ∃ au, ∃ av, St [] E (keysL [eBox bb0 73 [.slice ad_0_0 p0.loops.length cp_0_0, .slice ad_0_1 p0.rows.length cp_0_1, .slice ad_0_2 p0.bound.length cp_0_2, .slice ad_0_3 p0.cross.length cp_0_3, iv p0.next], eRow r_api_Loop 48 (.slice ad_0_0 p0.loops.length cp_0_0) p0.loops, eRow (rI .i64) 3 (.slice ad_0_1 p0.rows.length cp_0_1) p0.rows, eRow (rI .i64) 3 (.slice ad_0_2 p0.bound.length cp_0_2) p0.bound, eRow r_A2_Int 49 (.slice ad_0_3 p0.cross.length cp_0_3) p0.cross]) w0 108 a w [(0, .pointer (some ⟨bb0, 0, none⟩)), (10, .slice a0 r9.1.length a4), (11, .pointer (some ⟨ah, 0, none⟩)), (87, iv p3.A), (88, iv aT)] [eBox bb0 73 [.slice al aw.length am, .slice ao ax.length ap, .slice aq ay.length ar, .slice au az.length av, iv bb], eBox ah 48 [iv p1, iv p2, .slice none 0 0, .bool p3.Purl], eRow r_api_Loop 48 (.slice al aw.length am) aw, eRow (rI .i64) 3 (.slice ao ax.length ap) ax, eRow (rI .i64) 3 (.slice aq ay.length ar) ay, eRow r_A2_Int 49 (.slice au az.length av) az] [fRep (rL (rI .i64)) (.slice a0 r9.1.length a4) r9.1]) ⟨a5, a6, a9, aa, a7, a8, ab, ac, S.fix [0, 2, 3, 4, 5, 6] [0] (by decide) rfl rfl rfl⟩ ?_
 clear hl h
 intro s0 a w c0 hI h ci
 obtain ⟨aT, aw, ax, ay, az, bb⟩ := s0
 unfold loops_piece_work_s1_l1 at h
 dsimp only at h hI
 obtain ⟨al, am, ao, ap, aq, ar, au, av, S⟩ := hI
 refine sSeq (fun dx cj => sRegion (sBin _ S (wN rfl) rfl rfl rfl (bLt _ _ _ _ .i64 aT p3.A) rfl (lb rfl) fun a S => ?_))
 refine lT (cj _ _ (sSeq (fun dy ck => ?_)))
 rcases iS h with ⟨bc, h⟩ | ⟨bc, h⟩
 rotate_left
 ·refine sCondF S rfl bc ?_
  obtain rfl := tS h
  obtain rfl := ci _ rfl
  have h := dc
  try dsimp only at h
  obtain rfl := tS h
  exact wp_exit (xThen (xThen (xHit (leafB (sEnd (.tuple #[]) S (rsl0 rfl ) ⟨(al, am, ao, ap, aq, ar, au, av), rfl, S.mem.sel [0, 2, 3, 4, 5] [] (by decide) rfl rfl⟩)))))
 refine sCondT S rfl bc ?_
 refine wp_skip (leafT (ck _ _ ?_))
 refine sSeq (fun dz cl => wp_block ?_)
 obtain ⟨ae, cm, h⟩ := bS h
 obtain ⟨af, cn, h⟩ := bS h
 refine sDraw (nf := [3, 4, 5]) (W := [(0, 90, .pointer (some ⟨bb0, 0, none⟩)), (1, 91, .agg #[iv p1, iv p2, .slice none 0 0, .bool p3.Purl]), (2, 92, .slice a0 r9.1.length a4)]) rfl S ?_
 refine node_by (A := [[], [], [], [2], [2, 3], [0, 1, 2, 3, 4]]) (nf := [3, 4, 5]) (Y := []) (W := [(0, 90, .pointer (some ⟨bb0, 0, none⟩)), (1, 91, .agg #[iv p1, iv p2, .slice none 0 0, .bool p3.Purl]), (2, 92, .slice a0 r9.1.length a4)]) 6 (by kernel_rfl) (by kernel_rfl) (by kernel_rfl) (by kernel_rfl) (by kernel_rfl) [0, 1, 2] (by kernel_rfl) (by decide) (by decide) (fF ?_ (fF ?_ (fF ?_ (fN ?_ (aB 4 1 3 (by decide) (aB 5 0 3 (by decide) (trivial))))))) [] (fun q hq => by cases hq) (fun hY => absurd (hY 3 (by decide)) (by decide))
 ·exact fM 0 none rfl rfl rfl rfl (.inl rfl) rfl rfl rfl
 ·refine fJ [(11, _)] 1 [none] fun G a w S => ?_
  exact sLoadN (p := ah) (off := 0) (T := 48) (vs := [iv p1, iv p2, .slice none 0 0, .bool p3.Purl]) 1 [iv p1, iv p2, .slice none 0 0, .bool p3.Purl] S (wN rfl) rfl rfl rfl rfl rfl rfl rfl (lb rfl) fun a S => leafL ⟨rfl, S⟩
 ·exact fM 2 none rfl rfl rfl rfl (.inl rfl) rfl rfl rfl
 refine ⟨_, [(92, .slice a0 r9.1.length a4)], rfl, (srcs_of [some 2] rfl rfl rfl), fun G a w S => ?_⟩
 refine sCall (X := Option Addr × Nat) (f := 60) (vs := [.slice a0 r9.1.length a4]) (val := fun x => .slice x.1 ae.length x.2) (B' := fun x => [eRow (rI .i64) 3 (.slice x.1 ae.length x.2) ae]) (D' := fun _ => []) [] [eBox bb0 73 [.slice al aw.length am, .slice ao ax.length ap, .slice aq ay.length ar, .slice au az.length av, iv bb], eBox ah 48 [iv p1, iv p2, .slice none 0 0, .bool p3.Purl], eRow r_api_Loop 48 (.slice al aw.length am) aw, eRow (rI .i64) 3 (.slice ao ax.length ap) ax, eRow (rI .i64) 3 (.slice aq ay.length ar) ay, eRow r_A2_Int 49 (.slice au az.length av) az] [fRep (rL (rI .i64)) (.slice a0 r9.1.length a4) r9.1] [0, 1, 2, 3, 4, 5] [0] S (wN rfl) rfl callee60 rfl (by decide) rfl rfl (fun E1 w1 S1 => c_slices_Clone___int_int__s0 E1 w1 r9.1 (.slice a0 r9.1.length a4) ae cm S1) rfl (lb rfl) fun xx a w S => ?_
 obtain ⟨aA, aC⟩ := xx
 dsimp only at S
 refine leafL ⟨rfl, _, _, .inl ⟨93, (.slice aA ae.length aC), [], rfl, S, hz_of rfl, ?_⟩⟩
 refine node_by (A := [[], [], [], [2], [2, 3], [0, 1, 2, 3, 4]]) (nf := [3, 4, 5]) (Y := [3]) 6 (by kernel_rfl) (by kernel_rfl) (by kernel_rfl) (by kernel_rfl) (by kernel_rfl) [3, 0, 1, 2] (by kernel_rfl) (by decide) (by decide) (fF ?_ (fF ?_ (fD 3 (fY (fN ?_ (aB 5 0 4 (by decide) (trivial))))))) [] (fun q hq => by cases hq) (fun hY => absurd (hY 4 (by decide)) (by decide))
 ·exact fM 1 none rfl rfl rfl rfl (.inl rfl) rfl rfl rfl
 ·refine fJ [(11, _)] 2 [none] fun G a w S => ?_
  exact sLoadN (p := ah) (off := 0) (T := 48) (vs := [iv p1, iv p2, .slice none 0 0, .bool p3.Purl]) 2 [iv p1, iv p2, .slice none 0 0, .bool p3.Purl] S (wN rfl) rfl rfl rfl rfl rfl rfl rfl (lb rfl) fun a S => leafL ⟨rfl, S⟩
 refine ⟨_, [(93, .slice aA ae.length aC)], rfl, (srcs_of [some 0] rfl rfl rfl), fun G a w S => ?_⟩
 have S := S.shutR (r := (rI .i64)) (T := 3) (v := .slice aA ae.length aC) (xs := ae) 0 rfl
 refine sLit (r := (rL (rI .i64))) (T := 32) (xs := [ae]) [(0, .slice aA ae.length aC)] 1 [.slice aA ae.length aC] [.slice aA ae.length aC] (.slice none 0 0) 24 S (wN rfl) rfl rfl Try.underlying69 rfl (by decide) (by decide) (by kernel_rfl) rfl (fun E1 w1 hE => All.cons ((rL (rI .i64)).mono hE (S.mem.know (i := 0) (e := fRep (rL (rI .i64)) (.slice aA ae.length aC) ae) rfl)) (All.nil _ _ _)) rfl rfl (lb rfl) fun a w aG aH S => ?_
 refine leafL ⟨rfl, _, _, .inl ⟨94, (.slice aG [ae].length aH), [], rfl, S, hz_of rfl, ?_⟩⟩
 refine node_by (A := [[], [], [], [2], [2, 3], [0, 1, 2, 3, 4]]) (nf := [3, 4, 5]) (Y := [4, 3]) 6 (by kernel_rfl) (by kernel_rfl) (by kernel_rfl) (by kernel_rfl) (by kernel_rfl) [4, 3, 0, 1, 2] (by kernel_rfl) (by decide) (by decide) (fF ?_ (fF ?_ (fD 4 (fY (fY (fN ?_ (trivial))))))) [] (fun q hq => by cases hq) (fun hY => absurd (hY 5 (by decide)) (by decide))
 ·exact fM 2 none rfl rfl rfl rfl (.inl rfl) rfl rfl rfl
 ·refine fJ [(11, _)] 3 [none] fun G a w S => ?_
  exact sLoadN (p := ah) (off := 0) (T := 48) (vs := [iv p1, iv p2, .slice none 0 0, .bool p3.Purl]) 2 [iv p1, iv p2, .slice none 0 0, .bool p3.Purl] S (wN rfl) rfl rfl rfl rfl rfl rfl rfl (lb rfl) fun a S => leafL ⟨rfl, S⟩
 refine ⟨_, [(90, .pointer (some ⟨bb0, 0, none⟩)), (91, .agg #[iv p1, iv p2, .slice none 0 0, .bool p3.Purl]), (94, .slice aG [ae].length aH)], rfl, (srcs_of [some 2, some 3, some 0] rfl rfl rfl), fun G a w S => ?_⟩
 have S := S.learn (fRep (rL (rI .i64)) (.slice none 0 0) ([] : (List Int))) (rL_nil _ _ _)
 have S := S.learn (fRep r_api_Loop (.agg #[iv p1, iv p2, .slice none 0 0, .bool p3.Purl]) (api_Loop.mk p1 p2 ([] : (List Int)) p3.Purl)) ⟨_, rfl, S.mem.know (i := 0) (e := fRep (rL (rI .i64)) (.slice none 0 0) ([] : (List Int))) rfl⟩
 have S := S.shutR (r := (rL (rI .i64))) (T := 32) (v := .slice aG [ae].length aH) (xs := [ae]) 0 rfl
 refine sCall (X := Option Addr × Nat × Option Addr × Nat × Option Addr × Nat × Option Addr × Nat) (f := 58) (vs := [.pointer (some ⟨bb0, 0, none⟩), .agg #[iv p1, iv p2, .slice none 0 0, .bool p3.Purl], .slice aG [ae].length aH]) (val := fun _ => .tuple #[]) (B' := fun x => [eBox bb0 73 [.slice x.1 af.loops.length x.2.1, .slice x.2.2.1 af.rows.length x.2.2.2.1, .slice x.2.2.2.2.1 af.bound.length x.2.2.2.2.2.1, .slice x.2.2.2.2.2.2.1 af.cross.length x.2.2.2.2.2.2.2, iv af.next], eRow r_api_Loop 48 (.slice x.1 af.loops.length x.2.1) af.loops, eRow (rI .i64) 3 (.slice x.2.2.1 af.rows.length x.2.2.2.1) af.rows, eRow (rI .i64) 3 (.slice x.2.2.2.2.1 af.bound.length x.2.2.2.2.2.1) af.bound, eRow r_A2_Int 49 (.slice x.2.2.2.2.2.2.1 af.cross.length x.2.2.2.2.2.2.2) af.cross]) (D' := fun _ => []) [eBox bb0 73 [.slice al aw.length am, .slice ao ax.length ap, .slice aq ay.length ar, .slice au az.length av, iv bb], eRow r_api_Loop 48 (.slice al aw.length am) aw, eRow (rI .i64) 3 (.slice ao ax.length ap) ax, eRow (rI .i64) 3 (.slice aq ay.length ar) ay, eRow r_A2_Int 49 (.slice au az.length av) az] [eBox ah 48 [iv p1, iv p2, .slice none 0 0, .bool p3.Purl]] [fRep r_api_Loop (.agg #[iv p1, iv p2, .slice none 0 0, .bool p3.Purl]) (api_Loop.mk p1 p2 ([] : (List Int)) p3.Purl), fRep (rL (rL (rI .i64))) (.slice aG [ae].length aH) [ae]] [0, 2, 3, 4, 5, 1] [1, 0] S (wN rfl) rfl callee58 rfl (by decide) rfl rfl (fun E1 w1 S1 => c_loops_piece_add_s1 E1 w1 (loops_piece.mk aw ax ay az bb) bb0 al am ao ap aq ar au av (api_Loop.mk p1 p2 ([] : (List Int)) p3.Purl) (.agg #[iv p1, iv p2, .slice none 0 0, .bool p3.Purl]) [ae] (.slice aG [ae].length aH) af cn S1) rfl (lb rfl) fun xx a w S => ?_
 obtain ⟨co, cp, cq, cr, ct, cu, cv, cw⟩ := xx
 dsimp only at S
 refine leafL ⟨rfl, _, _, .inl ⟨95, (.tuple #[]), [], rfl, S, hz_of rfl, ?_⟩⟩
 refine node_by (A := [[], [], [], [2], [2, 3], [0, 1, 2, 3, 4]]) (nf := [3, 4, 5]) (Y := [5, 4, 3]) 6 (by kernel_rfl) (by kernel_rfl) (by kernel_rfl) (by kernel_rfl) (by kernel_rfl) [5, 4, 3, 0, 1, 2] (by kernel_rfl) (by decide) (by decide) (fD 5 (fD 5 (fD 5 (fY (fY (fY (trivial))))))) [(0, .pointer (some ⟨bb0, 0, none⟩)), (10, .slice a0 r9.1.length a4), (11, .pointer (some ⟨ah, 0, none⟩)), (87, iv p3.A), (88, iv aT)] (fin_of [none, none, none, none, none] rfl (by kernel_rfl) (by kernel_rfl)) (fun _ a w S => ?_)
 refine leafB (leafT (cl _ _ ?_))
 refine sRegion (sBin _ S (wN rfl) rfl rfl rfl (bAdd _ _ _ _ aT 1) rfl (lb rfl) fun a S => ?_)
 refine sM S fun a S => ?_
 exact lT (⟨(w64 (aT + 1), af.loops, af.rows, af.bound, af.cross, af.next), (Option.some.inj h).symm, ⟨co, cp, cq, cr, ct, cu, cv, cw, S.fix [0, 5, 1, 2, 3, 4] [4] (by decide) rfl rfl rfl⟩⟩)
noncomputable def loops_of_l1 (p0 : api_Chart) : (Int × List api_Loop) → Option ((Int × List api_Loop) ⊕ List api_Loop) := fun s0 => match s0 with
 | (a0, a4) =>
  if decide (a0 < p0.Start) then
   (appO a4 [(api_Loop.mk 0 a0 ([] : (List Int)) false)]).bind fun a5 =>
   some (.inl (w64 (a0 + 1), a5))
  else
   some (.inr a4)
noncomputable def loops_of_l2 (a5 : ((List api_Stitch) × Int)) (ac : Int) : (Int × List api_Loop × List Int × List Int × List (Int × Int) × Int) → Option ((Int × List api_Loop × List Int × List Int × List (Int × Int) × Int) ⊕ (List api_Loop × List Int × List Int × List (Int × Int) × Int)) := fun s0 => match s0 with
 | (a4, a6, a7, a8, a9, aa) =>
  if decide (a4 < (a5.1.length : Int)) then
   (idxO a5.1 a4).bind fun ab =>
   (F_loops_piece_work_s1 (loops_piece.mk a6 a7 a8 a9 aa) (w64 (ac + 1)) a4 ab).bind fun a0 =>
   some (.inl (w64 (a4 + 1), a0.loops, a0.rows, a0.bound, a0.cross, a0.next))
  else
   some (.inr (a6, a7, a8, a9, aa))
noncomputable def loops_of_l3 (p0 : api_Chart) : (Int × List api_Loop × List Int × List Int × List (Int × Int) × Int) → Option ((Int × List api_Loop × List Int × List Int × List (Int × Int) × Int) ⊕ (List api_Loop × List Int × List Int × List (Int × Int) × Int)) := fun s0 => match s0 with
 | (a4, ak, al, am, ao, ap) =>
  if decide (a4 < (p0.Rows.length : Int)) then
   Option.bind (α := (List api_Loop × List Int × List Int × List (Int × Int) × Int)) (
    (F_chart_Face p0 a4).bind fun a5 =>
    Option.bind (α := (List api_Loop × List Int × List Int × List (Int × Int) × Int)) (
     (whileO (loops_of_l2 a5 a4) (0, ak, al, am, ao, ap)).bind fun (a6, a7, a8, a9, aa) =>
      some (a6, a7, a8, a9, aa)) fun (a0, ab, ac, ae, af) =>
    (appO ab ([(a0.length : Int)] : List Int)).bind fun ag =>
    some (a0, ag, ac, ae, af)) fun (aq, ar, ah, ai, aj) =>
   some (.inl (w64 (a4 + 1), aq, ar, ah, ai, aj))
  else
   some (.inr (ak, al, am, ao, ap))
noncomputable def F_loops_of (p0 : api_Chart) : Option (loops_piece × Int) :=
 (F_chart_Check p0).bind fun a0 =>
 if a0 != 0 then
  some ((loops_piece.mk ([] : (List api_Loop)) ([] : (List Int)) ([] : (List Int)) ([] : (List (Int × Int))) 0), a0)
 else
  Option.bind (α := List api_Loop) (
   (whileO (loops_of_l1 p0) (0, ([] : List api_Loop))).bind fun a4 =>
    some a4) fun a5 =>
  Option.bind (α := (List api_Loop × List Int × List Int × List (Int × Int) × Int)) (
   (whileO (loops_of_l3 p0) (0, a5, ([0, p0.Start] : List Int), ([] : List Int), ([] : List (Int × Int)), 0)).bind fun (a6, a7, a8, a9, aa) =>
    some (a6, a7, a8, a9, aa)) fun (ab, ac, ae, af, ag) =>
  some ((loops_piece.mk ab ac ae af ag), 0)
def c_loops_of_val (r : (loops_piece × Int)) (x : Value) : Value := .tuple #[x, .int .i64 r.2]
def c_loops_of_D (r : (loops_piece × Int)) (x : Value) : List Fact := [fRep r_loops_piece x r.1]
theorem c_loops_of (E : Nat → Prop) (w0 : World) (p0 : api_Chart) (v0 : Value) (r : (loops_piece × Int)) (h : F_loops_of p0 = some r) (S : St0 E [] w0 w0 [] [fRep r_api_Chart (v0) p0]) :
 Calls Try.prog 33 #[v0] w0 (Ret (X := Value) E [] w0 (c_loops_of_val r) (fun _ => []) (c_loops_of_D r)) := by
 unfold F_loops_of at h
 obtain ⟨u1, rfl, cV⟩ := S.know (i := 0) (e := fRep r_api_Chart (v0) p0) rfl
 have S := S.learn (fRep (rL r_api_Row) u1 p0.Rows) cV
 obtain ⟨a6, a7, _, rfl, _⟩ := cV
 refine sEnter (args := [.agg #[iv p0.Start, .slice a6 p0.Rows.length a7]]) 69 Try.func33 rfl rfl (by simp) S (fun a S => ?_)
 refine sSeq (fun K5 cW => sRegion (sBox (v := .agg #[iv p0.Start, .slice a6 p0.Rows.length a7]) S (wN rfl) rfl rfl [iv p0.Start, .slice a6 p0.Rows.length a7] rfl rfl (lb rfl) fun a b6 w S => ?_))
 refine sAlloc (.agg #[.slice none 0 0, .slice none 0 0, .slice none 0 0, .slice none 0 0, iv 0]) S (wN rfl) rfl rfl [.slice none 0 0, .slice none 0 0, .slice none 0 0, .slice none 0 0, iv 0] rfl rfl (lb rfl) fun a b7 w S => ?_
 refine sN S fun a S => ?_
 refine lT (cW _ _ (sSeq (fun K8 cX => sSeq (fun K9 cY => sRegion (sLoadN (p := b6) (off := 0) (T := 24) (vs := [iv p0.Start, .slice a6 p0.Rows.length a7]) 1 [iv p0.Start, .slice a6 p0.Rows.length a7] S (wN rfl) rfl rfl rfl rfl rfl rfl rfl (lb rfl) fun a S => ?_)))))
 obtain ⟨bY, cx, h⟩ := bS h
 have S1 := S.mem
 refine sCq [.agg #[iv p0.Start, .slice a6 p0.Rows.length a7]] (iv bY) S callee39 (S1.quiet [1] rfl) (fun E1 w1 S1 => c_chart_Check E1 w1 p0 (.agg #[iv p0.Start, .slice a6 p0.Rows.length a7]) bY cx S1) fun a w S => ?_
 refine sN S fun a S => ?_
 refine lT (cY _ _ (sSeq (fun dh cy => sRegion (sM S fun a S => ?_))))
 refine sBin _ S (wN rfl) rfl rfl rfl (bNe _ _ _ _ .i64 bY 0) rfl (lb rfl) fun a S => ?_
 refine lT (cy _ _ ?_)
 rcases iS h with ⟨bK, h⟩ | ⟨bK, h⟩
 ·refine sCondT S rfl bK ?_
  refine sSeq (fun di cz => sRegion (sBuild [] [.slice none 0 0, .slice none 0 0, .slice none 0 0, .slice none 0 0, iv 0] S (wN rfl) rfl rfl rfl rfl (lb rfl) fun a S => ?_))
  refine sM S fun a S => ?_
  refine sStore (p := b7) (off := 0) (T := 73) (vs := [.slice none 0 0, .slice none 0 0, .slice none 0 0, .slice none 0 0, iv 0]) (v := .agg #[.slice none 0 0, .slice none 0 0, .slice none 0 0, .slice none 0 0, iv 0]) 0 [.slice none 0 0, .slice none 0 0, .slice none 0 0, .slice none 0 0, iv 0] S (wN rfl) rfl rfl rfl rfl rfl rfl rfl (by simp) rfl fun a w S => ?_
  refine sN S fun a S => ?_
  refine lT (cz _ _ ?_)
  obtain rfl := tS h
  have S := S.learn (fRep (rL r_api_Loop) (.slice none 0 0) ([] : (List api_Loop))) (rL_nil _ _ _)
  have S := S.learn (fRep (rL (rI .i64)) (.slice none 0 0) ([] : (List Int))) (rL_nil _ _ _)
  have S := S.learn (fRep (rL r_A2_Int) (.slice none 0 0) ([] : (List (Int × Int)))) (rL_nil _ _ _)
  have S := S.learn (fRep r_loops_piece (.agg #[.slice none 0 0, .slice none 0 0, .slice none 0 0, .slice none 0 0, iv 0]) (loops_piece.mk ([] : (List api_Loop)) ([] : (List Int)) ([] : (List Int)) ([] : (List (Int × Int))) 0)) ⟨_, _, _, _, rfl, S.mem.know (i := 2) (e := fRep (rL r_api_Loop) (.slice none 0 0) ([] : (List api_Loop))) rfl, S.mem.know (i := 1) (e := fRep (rL (rI .i64)) (.slice none 0 0) ([] : (List Int))) rfl, S.mem.know (i := 1) (e := fRep (rL (rI .i64)) (.slice none 0 0) ([] : (List Int))) rfl, S.mem.know (i := 0) (e := fRep (rL r_A2_Int) (.slice none 0 0) ([] : (List (Int × Int)))) rfl⟩
  exact wp_ret (rThen (sRet (.tuple #[.agg #[.slice none 0 0, .slice none 0 0, .slice none 0 0, .slice none 0 0, iv 0], iv bY]) S (rsl2 rfl (rvN (c := 2) (t := 73) (T := 73) (p := b7) 0 [.slice none 0 0, .slice none 0 0, .slice none 0 0, .slice none 0 0, iv 0] S rfl rfl rfl rfl) (rvT (t := 3) (v := iv bY) S rfl)) ⟨(.agg #[.slice none 0 0, .slice none 0 0, .slice none 0 0, .slice none 0 0, iv 0]), rfl, S.mem.sel [] [0] (by decide) rfl rfl⟩))
 refine sCondF S rfl bK ?_
 refine wp_skip (leafT (cX _ _ ?_))
 obtain ⟨cZ, h, d1⟩ := bS h
 refine sCut (fun a w => ∃ bV, bV = cZ ∧ ∃ bq, ∃ br, St [] E [] w0 69 a w [(1, .pointer (some ⟨b6, 0, none⟩)), (2, .pointer (some ⟨b7, 0, none⟩))] [eBox b6 24 [iv p0.Start, .slice a6 p0.Rows.length a7], eBox b7 73 [.slice bq bV.length br, .slice none 0 0, .slice none 0 0, .slice none 0 0, iv 0], eRow r_api_Loop 48 (.slice bq bV.length br) bV] [fRep (rL r_api_Row) (.slice a6 p0.Rows.length a7) p0.Rows]) ?_ (fun a w hI => ?_)
 ·refine sSeq (fun dj cA => sRegion (sField (b := b6) (off := 0) 0 0 S (wN rfl) rfl rfl rfl rfl rfl (lb rfl) fun a S => ?_))
  refine sLoad1 1 (iv p0.Start) S (wN rfl) rfl rfl rfl rfl rfl rfl (lb rfl) fun a S => ?_
  refine sM S fun a S => ?_
  refine lT (cA _ _ (wp_block ?_))
  have S := S.nilRow r_api_Loop 48 (α := api_Loop)
  obtain ⟨dk, hl, d3⟩ := bS h
  refine sLoop hl (fun s0 a w => match s0 with | (aM, bz) => ∃ aT, ∃ aU, St [] E [] w0 69 a w [(1, .pointer (some ⟨b6, 0, none⟩)), (2, .pointer (some ⟨b7, 0, none⟩)), (18, iv p0.Start), (19, iv aM)] [eBox b6 24 [iv p0.Start, .slice a6 p0.Rows.length a7], eBox b7 73 [.slice aT bz.length aU, .slice none 0 0, .slice none 0 0, .slice none 0 0, iv 0], eRow r_api_Loop 48 (.slice aT bz.length aU) bz] [fRep (rL r_api_Row) (.slice a6 p0.Rows.length a7) p0.Rows]) ⟨none, 0, S.fix [2, 1, 0] [0] (by decide) rfl rfl rfl⟩ ?_
  clear hl h
  intro s0 a w c0 hI h cB
  obtain ⟨aM, bz⟩ := s0
  unfold loops_of_l1 at h
  dsimp only at h hI
  obtain ⟨aT, aU, S⟩ := hI
  refine sSeq (fun dl cC => sRegion (sBin _ S (wN rfl) rfl rfl rfl (bLt _ _ _ _ .i64 aM p0.Start) rfl (lb rfl) fun a S => ?_))
  refine lT (cC _ _ (sSeq (fun dm cD => ?_)))
  rcases iS h with ⟨bL, h⟩ | ⟨bL, h⟩
  rotate_left
  ·refine sCondF S rfl bL ?_
   obtain rfl := tS h
   obtain rfl := cB _ rfl
   have h := d3
   try dsimp only at h
   exact wp_exit (xThen (xThen (xHit (leafT (⟨bz, Option.some.inj h, aT, aU, S.fix [0, 1, 2] [0] (by decide) rfl rfl rfl⟩)))))
  refine sCondT S rfl bL ?_
  refine wp_skip (leafT (cD _ _ ?_))
  refine sSeq (fun dn cE => wp_block ?_)
  refine sSeq (fun dp cF => sRegion (sM S fun a S => ?_))
  refine sN S fun a S => ?_
  refine lT (cF _ _ (sRegion (sField (b := b7) (off := 0) 0 0 S (wN rfl) rfl rfl rfl rfl rfl (lb rfl) fun a S => ?_)))
  refine sLoad1 1 (.slice aT bz.length aU) S (wN rfl) rfl rfl rfl rfl rfl rfl (lb rfl) fun a S => ?_
  refine sM S fun a S => ?_
  refine sBuild [(1, iv aM)] [iv 0, iv aM, .slice none 0 0, .bool false] S (wN rfl) rfl rfl rfl rfl (lb rfl) fun a S => ?_
  have S := S.learn (fRep (rL (rI .i64)) (.slice none 0 0) ([] : (List Int))) (rL_nil _ _ _)
  have S := S.learn (fRep r_api_Loop (.agg #[iv 0, iv aM, .slice none 0 0, .bool false]) (api_Loop.mk 0 aM ([] : (List Int)) false)) ⟨_, rfl, S.mem.know (i := 0) (e := fRep (rL (rI .i64)) (.slice none 0 0) ([] : (List Int))) rfl⟩
  refine sLit (r := r_api_Loop) (T := 48) (xs := [(api_Loop.mk 0 aM ([] : (List Int)) false)]) [(0, .agg #[iv 0, iv aM, .slice none 0 0, .bool false])] 1 [.agg #[iv 0, iv aM, .slice none 0 0, .bool false]] [iv 0, iv aM, .slice none 0 0, .bool false] (.agg #[iv 0, iv 0, .slice none 0 0, .bool false]) 48 S (wN rfl) rfl rfl Try.underlying26 rfl (by decide) (by decide) (by kernel_rfl) rfl (fun E1 w1 hE => All.cons (r_api_Loop.mono hE (S.mem.know (i := 0) (e := fRep r_api_Loop (.agg #[iv 0, iv aM, .slice none 0 0, .bool false]) (api_Loop.mk 0 aM ([] : (List Int)) false)) rfl)) (All.nil _ _ _)) rfl rfl (lb rfl) fun a w cG cH S => ?_
  obtain ⟨cI, cJ, h⟩ := bS h
  refine sApp (r := r_api_Loop) (T := 48) (xs := bz) (ys := [(api_Loop.mk 0 aM ([] : (List Int)) false)]) (v := .slice aT bz.length aU) (u := .slice cG [(api_Loop.mk 0 aM ([] : (List Int)) false)].length cH) 3 (.agg #[iv 0, iv 0, .slice none 0 0, .bool false]) 48 S (wN rfl) rfl Try.underlying26 rfl rfl (by decide) rfl rfl rfl (src_R (T := 48) 0 S.mem rfl) cJ rfl (lb rfl) fun a w bM bN S => ?_
  refine sField (b := b7) (off := 0) 0 0 S (wN rfl) rfl rfl rfl rfl rfl (lb rfl) fun a S => ?_
  refine sStore (p := b7) (off := 0) (T := 73) (vs := [.slice aT bz.length aU, .slice none 0 0, .slice none 0 0, .slice none 0 0, iv 0]) (v := .slice bM cI.length bN) 3 [.slice bM cI.length bN] S (wN rfl) rfl rfl rfl rfl rfl rfl rfl (by simp) rfl fun a w S => ?_
  refine leafL (leafB (leafT (cE _ _ ?_)))
  refine sRegion (sBin _ S (wN rfl) rfl rfl rfl (bAdd _ _ _ _ aM 1) rfl (lb rfl) fun a S => ?_)
  refine sM S fun a S => ?_
  exact lT (⟨(w64 (aM + 1), cI), (Option.some.inj h).symm, ⟨bM, bN, S.fix [3, 0, 1] [2] (by decide) rfl rfl rfl⟩⟩)
 obtain ⟨bV, rfl, bq, br, S⟩ := hI
 have h := d1
 try dsimp only at h
 refine sSeq (fun dr cK => sRegion (sField (b := b6) (off := 0) 0 0 S (wN rfl) rfl rfl rfl rfl rfl (lb rfl) fun a S => ?_))
 refine sLoad1 0 (iv p0.Start) S (wN rfl) rfl rfl rfl rfl rfl rfl (lb rfl) fun a S => ?_
 refine sLit (r := (rI .i64)) (T := 3) (xs := ([0, p0.Start] : List Int)) [(0, iv 0), (1, iv p0.Start)] 2 [iv 0, iv p0.Start] [iv 0, iv p0.Start] (iv 0) 8 S (wN rfl) rfl rfl Try.underlying32 rfl (by decide) (by decide) (by kernel_rfl) rfl (fun E1 w1 hE => All.cons rfl (All.cons rfl (All.nil _ _ _))) rfl rfl (lb rfl) fun a w bO bP S => ?_
 refine sField (b := b7) (off := 0) 1 1 S (wN rfl) rfl rfl rfl rfl rfl (lb rfl) fun a S => ?_
 refine sStore (p := b7) (off := 1) (T := 73) (vs := [.slice bq bV.length br, .slice none 0 0, .slice none 0 0, .slice none 0 0, iv 0]) (v := .slice bO ([0, p0.Start] : List Int).length bP) 2 [.slice bO ([0, p0.Start] : List Int).length bP] S (wN rfl) rfl rfl rfl rfl rfl rfl rfl (by simp) rfl fun a w S => ?_
 refine lT (cK _ _ ?_)
 obtain ⟨d4, h, d5⟩ := bS h
 refine sCut (fun a w => ∃ az, ∃ aA, ∃ aC, ∃ aG, ∃ bn, (az, aA, aC, aG, bn) = d4 ∧ ∃ a8, ∃ a9, ∃ aa, ∃ ab, ∃ ac, ∃ ae, ∃ af, ∃ ag, St [] E [] w0 69 a w [(2, .pointer (some ⟨b7, 0, none⟩))] [eBox b7 73 [.slice a8 az.length a9, .slice aa aA.length ab, .slice ac aC.length ae, .slice af aG.length ag, iv bn], eRow r_api_Loop 48 (.slice a8 az.length a9) az, eRow (rI .i64) 3 (.slice aa aA.length ab) aA, eRow (rI .i64) 3 (.slice ac aC.length ae) aC, eRow r_A2_Int 49 (.slice af aG.length ag) aG] []) ?_ (fun a w hI => ?_)
 rotate_left
 ·obtain ⟨az, aA, aC, aG, bn, rfl, a8, a9, aa, ab, ac, ae, af, ag, S⟩ := hI
  have h := d5
  try dsimp only at h
  refine sSeq (fun d6 bZ => sRegion (sLoadN (p := b7) (off := 0) (T := 73) (vs := [.slice a8 az.length a9, .slice aa aA.length ab, .slice ac aC.length ae, .slice af aG.length ag, iv bn]) 0 [.slice a8 az.length a9, .slice aa aA.length ab, .slice ac aC.length ae, .slice af aG.length ag, iv bn] S (wN rfl) rfl rfl rfl rfl rfl rfl rfl (lb rfl) fun a S => ?_))
  refine sStore (p := b7) (off := 0) (T := 73) (vs := [.slice a8 az.length a9, .slice aa aA.length ab, .slice ac aC.length ae, .slice af aG.length ag, iv bn]) (v := .agg #[.slice a8 az.length a9, .slice aa aA.length ab, .slice ac aC.length ae, .slice af aG.length ag, iv bn]) 0 [.slice a8 az.length a9, .slice aa aA.length ab, .slice ac aC.length ae, .slice af aG.length ag, iv bn] S (wN rfl) rfl rfl rfl rfl rfl rfl rfl (by simp) rfl fun a w S => ?_
  refine sN S fun a S => ?_
  refine lT (bZ _ _ ?_)
  obtain rfl := tS h
  have S := S.shutR (r := r_api_Loop) (T := 48) (v := .slice a8 az.length a9) (xs := az) 1 rfl
  have S := S.shutR (r := (rI .i64)) (T := 3) (v := .slice aa aA.length ab) (xs := aA) 1 rfl
  have S := S.shutR (r := (rI .i64)) (T := 3) (v := .slice ac aC.length ae) (xs := aC) 1 rfl
  have S := S.shutR (r := r_A2_Int) (T := 49) (v := .slice af aG.length ag) (xs := aG) 1 rfl
  have S := S.learn (fRep r_loops_piece (.agg #[.slice a8 az.length a9, .slice aa aA.length ab, .slice ac aC.length ae, .slice af aG.length ag, iv bn]) (loops_piece.mk az aA aC aG bn)) ⟨_, _, _, _, rfl, S.mem.know (i := 3) (e := fRep (rL r_api_Loop) (.slice a8 az.length a9) az) rfl, S.mem.know (i := 2) (e := fRep (rL (rI .i64)) (.slice aa aA.length ab) aA) rfl, S.mem.know (i := 1) (e := fRep (rL (rI .i64)) (.slice ac aC.length ae) aC) rfl, S.mem.know (i := 0) (e := fRep (rL r_A2_Int) (.slice af aG.length ag) aG) rfl⟩
  exact wp_ret (sRet (.tuple #[.agg #[.slice a8 az.length a9, .slice aa aA.length ab, .slice ac aC.length ae, .slice af aG.length ag, iv bn], iv 0]) S (rsl2 rfl (rvN (c := 2) (t := 73) (T := 73) (p := b7) 0 [.slice a8 az.length a9, .slice aa aA.length ab, .slice ac aC.length ae, .slice af aG.length ag, iv bn] S rfl rfl rfl rfl) (rvT (t := 3) (v := iv 0) S rfl)) ⟨(.agg #[.slice a8 az.length a9, .slice aa aA.length ab, .slice ac aC.length ae, .slice af aG.length ag, iv bn]), rfl, S.mem.sel [] [0] (by decide) rfl rfl⟩)
 refine sSeq (fun dt cL => sRegion (sField (b := b6) (off := 0) 1 1 S (wN rfl) rfl rfl rfl rfl rfl (lb rfl) fun a S => ?_))
 refine sLoad1 2 (.slice a6 p0.Rows.length a7) S (wN rfl) rfl rfl rfl rfl rfl rfl (lb rfl) fun a S => ?_
 refine sLen S (wN rfl) rfl Try.underlying22 rfl rfl (lb rfl) fun a S => ?_
 refine sM S fun a S => ?_
 refine lT (cL _ _ (wp_block ?_))
 have S := S.nilRow (rI .i64) 3 (α := Int)
 have S := S.nilRow r_A2_Int 49 (α := (Int × Int))
 obtain ⟨du, hl, d7⟩ := bS h
 refine sLoop hl (fun s0 a w => match s0 with | (bi, bG, bH, bI, bJ, cw) => ∃ aV, ∃ aW, ∃ aX, ∃ aZ, ∃ ba, ∃ bb, ∃ bc, ∃ bf, St [] E [] w0 69 a w [(1, .pointer (some ⟨b6, 0, none⟩)), (2, .pointer (some ⟨b7, 0, none⟩)), (36, iv (p0.Rows.length : Int)), (37, iv bi)] [eBox b6 24 [iv p0.Start, .slice a6 p0.Rows.length a7], eBox b7 73 [.slice aV bG.length aW, .slice aX bH.length aZ, .slice ba bI.length bb, .slice bc bJ.length bf, iv cw], eRow r_api_Loop 48 (.slice aV bG.length aW) bG, eRow (rI .i64) 3 (.slice aX bH.length aZ) bH, eRow (rI .i64) 3 (.slice ba bI.length bb) bI, eRow r_A2_Int 49 (.slice bc bJ.length bf) bJ] [fRep (rL r_api_Row) (.slice a6 p0.Rows.length a7) p0.Rows]) ⟨bq, br, bO, bP, none, 0, none, 0, S.fix [4, 2, 5, 3, 1, 0] [0] (by decide) rfl rfl rfl⟩ ?_
 clear hl h
 intro s0 a w c0 hI h cM
 obtain ⟨bi, bG, bH, bI, bJ, cw⟩ := s0
 unfold loops_of_l3 at h
 dsimp only at h hI
 obtain ⟨aV, aW, aX, aZ, ba, bb, bc, bf, S⟩ := hI
 refine sSeq (fun dv cN => sRegion (sBin _ S (wN rfl) rfl rfl rfl (bLt _ _ _ _ .i64 bi (p0.Rows.length : Int)) rfl (lb rfl) fun a S => ?_))
 refine lT (cN _ _ (sSeq (fun dw cO => ?_)))
 rcases iS h with ⟨bQ, h⟩ | ⟨bQ, h⟩
 rotate_left
 ·refine sCondF S rfl bQ ?_
  obtain rfl := tS h
  obtain rfl := cM _ rfl
  have h := d7
  try dsimp only at h
  exact wp_exit (xThen (xThen (xHit (leafT (⟨bG, bH, bI, bJ, cw, Option.some.inj h, aV, aW, aX, aZ, ba, bb, bc, bf, S.fix [1, 2, 3, 4, 5] [] (by decide) rfl rfl rfl⟩)))))
 refine sCondT S rfl bQ ?_
 refine wp_skip (leafT (cO _ _ ?_))
 obtain ⟨cP, h, cQ⟩ := bS h
 refine sCut (fun a w => ∃ bW, ∃ bX, ∃ bo, ∃ bp, ∃ bA, (bW, bX, bo, bp, bA) = cP ∧ ∃ bB, ∃ bC, ∃ bD, ∃ bE, ∃ bj, ∃ bk, ∃ bl, ∃ bm, St [] E [] w0 69 a w [(1, .pointer (some ⟨b6, 0, none⟩)), (2, .pointer (some ⟨b7, 0, none⟩)), (36, iv (p0.Rows.length : Int)), (37, iv bi)] [eBox b6 24 [iv p0.Start, .slice a6 p0.Rows.length a7], eBox b7 73 [.slice bB bW.length bC, .slice bD bX.length bE, .slice bj bo.length bk, .slice bl bp.length bm, iv bA], eRow r_api_Loop 48 (.slice bB bW.length bC) bW, eRow (rI .i64) 3 (.slice bD bX.length bE) bX, eRow (rI .i64) 3 (.slice bj bo.length bk) bo, eRow r_A2_Int 49 (.slice bl bp.length bm) bp] [fRep (rL r_api_Row) (.slice a6 p0.Rows.length a7) p0.Rows]) ?_ (fun a w hI => ?_)
 rotate_left
 ·obtain ⟨bW, bX, bo, bp, bA, rfl, bB, bC, bD, bE, bj, bk, bl, bm, S⟩ := hI
  have h := cQ
  try dsimp only at h
  refine sRegion (sBin _ S (wN rfl) rfl rfl rfl (bAdd _ _ _ _ bi 1) rfl (lb rfl) fun a S => ?_)
  refine sM S fun a S => ?_
  exact lT (⟨(w64 (bi + 1), bW, bX, bo, bp, bA), (Option.some.inj h).symm, ⟨bB, bC, bD, bE, bj, bk, bl, bm, S.fix [0, 1, 2, 3, 4, 5] [0] (by decide) rfl rfl rfl⟩⟩)
 refine wp_block ?_
 refine sSeq (fun d8 c5 => sRegion (sM S fun a S => ?_))
 refine sN S fun a S => ?_
 refine lT (c5 _ _ (sSeq (fun d9 c6 => sRegion (sLoadN (p := b6) (off := 0) (T := 24) (vs := [iv p0.Start, .slice a6 p0.Rows.length a7]) 0 [iv p0.Start, .slice a6 p0.Rows.length a7] S (wN rfl) rfl rfl rfl rfl rfl rfl rfl (lb rfl) fun a S => ?_))))
 refine sM S fun a S => ?_
 obtain ⟨a5, c7, h⟩ := bS h
 have S := S.learn (fRep r_api_Chart (.agg #[iv p0.Start, .slice a6 p0.Rows.length a7]) p0) ⟨_, rfl, S.mem.know (i := 0) (e := fRep (rL r_api_Row) (.slice a6 p0.Rows.length a7) p0.Rows) rfl⟩
 refine sCall (X := Value) (f := 43) (vs := [.agg #[iv p0.Start, .slice a6 p0.Rows.length a7], iv bi]) (val := c_chart_Face_val a5) (B' := fun _ => []) (D' := c_chart_Face_D a5) [] [eBox b6 24 [iv p0.Start, .slice a6 p0.Rows.length a7], eBox b7 73 [.slice aV bG.length aW, .slice aX bH.length aZ, .slice ba bI.length bb, .slice bc bJ.length bf, iv cw], eRow r_api_Loop 48 (.slice aV bG.length aW) bG, eRow (rI .i64) 3 (.slice aX bH.length aZ) bH, eRow (rI .i64) 3 (.slice ba bI.length bb) bI, eRow r_A2_Int 49 (.slice bc bJ.length bf) bJ] [fRep r_api_Chart (.agg #[iv p0.Start, .slice a6 p0.Rows.length a7]) p0] [0, 1, 2, 3, 4, 5] [0] S (wN rfl) rfl callee43 rfl (by decide) rfl rfl (fun E1 w1 S1 => c_chart_Face E1 w1 p0 (.agg #[iv p0.Start, .slice a6 p0.Rows.length a7]) bi a5 c7 S1) rfl (lb rfl) fun cR a w S => ?_
 obtain ⟨ar, au, _, rfl, _⟩ := S.mem.know (i := 0) (e := fRep (rL r_api_Stitch) (cR) a5.1) rfl
 refine sM S fun a S => ?_
 refine sExtract (vs := [.slice ar a5.1.length au, iv a5.2]) (.slice ar a5.1.length au) S (wN rfl) rfl rfl rfl rfl (lb rfl) fun a S => ?_
 refine sExtract (vs := [.slice ar a5.1.length au, iv a5.2]) (iv a5.2) S (wN rfl) rfl rfl rfl rfl (lb rfl) fun a S => ?_
 refine sN S fun a S => ?_
 refine sN S fun a S => ?_
 refine lT (c6 _ _ ?_)
 obtain ⟨cS, h, cT⟩ := bS h
 refine sCut (fun a w => ∃ ah, ∃ aH, ∃ bg, ∃ bh, ∃ bt, (ah, aH, bg, bh, bt) = cS ∧ ∃ av, ∃ aw, ∃ ax, ∃ ay, ∃ aO, ∃ aP, ∃ aQ, ∃ aR, St [] E [] w0 69 a w [(1, .pointer (some ⟨b6, 0, none⟩)), (2, .pointer (some ⟨b7, 0, none⟩)), (36, iv (p0.Rows.length : Int)), (37, iv bi)] [eBox b6 24 [iv p0.Start, .slice a6 p0.Rows.length a7], eBox b7 73 [.slice av ah.length aw, .slice ax aH.length ay, .slice aO bg.length aP, .slice aQ bh.length aR, iv bt], eRow r_api_Loop 48 (.slice av ah.length aw) ah, eRow (rI .i64) 3 (.slice ax aH.length ay) aH, eRow (rI .i64) 3 (.slice aO bg.length aP) bg, eRow r_A2_Int 49 (.slice aQ bh.length aR) bh] [fRep (rL r_api_Row) (.slice a6 p0.Rows.length a7) p0.Rows]) ?_ (fun a w hI => ?_)
 rotate_left
 ·obtain ⟨ah, aH, bg, bh, bt, rfl, av, aw, ax, ay, aO, aP, aQ, aR, S⟩ := hI
  have h := cT
  try dsimp only at h
  refine sRegion (sField (b := b7) (off := 0) 1 1 S (wN rfl) rfl rfl rfl rfl rfl (lb rfl) fun a S => ?_)
  refine sLoad1 1 (.slice ax aH.length ay) S (wN rfl) rfl rfl rfl rfl rfl rfl (lb rfl) fun a S => ?_
  refine sField (b := b7) (off := 0) 0 0 S (wN rfl) rfl rfl rfl rfl rfl (lb rfl) fun a S => ?_
  refine sLoad1 1 (.slice av ah.length aw) S (wN rfl) rfl rfl rfl rfl rfl rfl (lb rfl) fun a S => ?_
  refine sLen S (wN rfl) rfl Try.underlying26 rfl rfl (lb rfl) fun a S => ?_
  refine sLit (r := (rI .i64)) (T := 3) (xs := ([(ah.length : Int)] : List Int)) [(0, iv (ah.length : Int))] 1 [iv (ah.length : Int)] [iv (ah.length : Int)] (iv 0) 8 S (wN rfl) rfl rfl Try.underlying32 rfl (by decide) (by decide) (by kernel_rfl) rfl (fun E1 w1 hE => All.cons rfl (All.nil _ _ _)) rfl rfl (lb rfl) fun a w c8 c9 S => ?_
  obtain ⟨bR, ca, h⟩ := bS h
  refine sApp (r := (rI .i64)) (T := 3) (xs := aH) (ys := ([(ah.length : Int)] : List Int)) (v := .slice ax aH.length ay) (u := .slice c8 ([(ah.length : Int)] : List Int).length c9) 4 (iv 0) 8 S (wN rfl) rfl Try.underlying32 rfl rfl (by decide) rfl rfl rfl (src_R (T := 3) 0 S.mem rfl) ca rfl (lb rfl) fun a w bu bv S => ?_
  refine sField (b := b7) (off := 0) 1 1 S (wN rfl) rfl rfl rfl rfl rfl (lb rfl) fun a S => ?_
  refine sStore (p := b7) (off := 1) (T := 73) (vs := [.slice av ah.length aw, .slice ax aH.length ay, .slice aO bg.length aP, .slice aQ bh.length aR, iv bt]) (v := .slice bu bR.length bv) 3 [.slice bu bR.length bv] S (wN rfl) rfl rfl rfl rfl rfl rfl rfl (by simp) rfl fun a w S => ?_
  exact leafL (leafB (leafT (⟨ah, bR, bg, bh, bt, Option.some.inj h, av, aw, bu, bv, aO, aP, aQ, aR, S.fix [3, 0, 4, 1, 5, 6] [0] (by decide) rfl rfl rfl⟩)))
 refine sSeq (fun da cb => sRegion (sM S fun a S => ?_))
 refine sLen S (wN rfl) rfl Try.underlying62 rfl rfl (lb rfl) fun a S => ?_
 refine sM S fun a S => ?_
 refine lT (cb _ _ (wp_block ?_))
 obtain ⟨db, hl, cU⟩ := bS h
 refine sLoop hl (fun s0 a w => match s0 with | (aS, aI, aJ, aK, aL, bw) => ∃ ai, ∃ aj, ∃ ak, ∃ al, ∃ am, ∃ ao, ∃ ap, ∃ aq, St [] E [] w0 69 a w [(1, .pointer (some ⟨b6, 0, none⟩)), (2, .pointer (some ⟨b7, 0, none⟩)), (6, iv bi), (36, iv (p0.Rows.length : Int)), (37, iv bi), (46, .slice ar a5.1.length au), (47, iv (a5.1.length : Int)), (48, iv aS)] [eBox b6 24 [iv p0.Start, .slice a6 p0.Rows.length a7], eBox b7 73 [.slice ai aI.length aj, .slice ak aJ.length al, .slice am aK.length ao, .slice ap aL.length aq, iv bw], eRow r_api_Loop 48 (.slice ai aI.length aj) aI, eRow (rI .i64) 3 (.slice ak aJ.length al) aJ, eRow (rI .i64) 3 (.slice am aK.length ao) aK, eRow r_A2_Int 49 (.slice ap aL.length aq) aL] [fRep (rL r_api_Stitch) (.slice ar a5.1.length au) a5.1, fRep (rL r_api_Row) (.slice a6 p0.Rows.length a7) p0.Rows]) ⟨aV, aW, aX, aZ, ba, bb, bc, bf, S.fix [0, 1, 2, 3, 4, 5] [0, 2] (by decide) rfl rfl rfl⟩ ?_
 clear hl h
 intro s0 a w c0 hI h cc
 obtain ⟨aS, aI, aJ, aK, aL, bw⟩ := s0
 unfold loops_of_l2 at h
 dsimp only at h hI
 obtain ⟨ai, aj, ak, al, am, ao, ap, aq, S⟩ := hI
 refine sSeq (fun dc cd => sRegion (sBin _ S (wN rfl) rfl rfl rfl (bLt _ _ _ _ .i64 aS (a5.1.length : Int)) rfl (lb rfl) fun a S => ?_))
 refine lT (cd _ _ (sSeq (fun de ce => ?_)))
 rcases iS h with ⟨bx, h⟩ | ⟨bx, h⟩
 rotate_left
 ·refine sCondF S rfl bx ?_
  obtain rfl := tS h
  obtain rfl := cc _ rfl
  have h := cU
  try dsimp only at h
  exact wp_exit (xThen (xThen (xHit (leafT (⟨aI, aJ, aK, aL, bw, Option.some.inj h, ai, aj, ak, al, am, ao, ap, aq, S.fix [0, 1, 2, 3, 4, 5] [1] (by decide) rfl rfl rfl⟩)))))
 refine sCondT S rfl bx ?_
 refine wp_skip (leafT (ce _ _ ?_))
 refine sSeq (fun df cf => wp_block ?_)
 refine sSeq (fun dg cg => sRegion (sM S fun a S => ?_))
 obtain ⟨a0, ci, h⟩ := bS h
 obtain ⟨cj, ck, S⟩ := pIdx (P := Try.prog) (r := r_api_Stitch) (v := .slice ar a5.1.length au) (xs := a5.1) (j := aS) 62 61 0 S Try.underlying62 rfl rfl ci
 refine sIdxV S (wN rfl) rfl rfl rfl ck rfl (lb rfl) fun a S => ?_
 obtain ⟨cl, S⟩ := pLoad (r := r_api_Stitch) (q := cj) (x := a0) 0 S rfl
 obtain rfl : cl = .agg #[.int .u8 a0.Kind, .bool a0.Purl, iv a0.A, iv a0.B] := S.mem.know (i := 1) (e := fRep r_api_Stitch (cl) a0) rfl
 refine sLoadVN (vq := cj) 0 [.int .u8 a0.Kind, .bool a0.Purl, iv a0.A, iv a0.B] S (wN rfl) rfl rfl rfl rfl rfl rfl (lb rfl) fun a S => ?_
 refine sAlloc (.agg #[.int .u8 0, .bool false, iv 0, iv 0]) S (wN rfl) rfl rfl [.int .u8 0, .bool false, iv 0, iv 0] rfl rfl (lb rfl) fun a bU w S => ?_
 refine sN S fun a S => ?_
 refine sStore (p := bU) (off := 0) (T := 61) (vs := [.int .u8 0, .bool false, iv 0, iv 0]) (v := .agg #[.int .u8 a0.Kind, .bool a0.Purl, iv a0.A, iv a0.B]) 0 [.int .u8 a0.Kind, .bool a0.Purl, iv a0.A, iv a0.B] S (wN rfl) rfl rfl rfl rfl rfl rfl rfl (by simp) rfl fun a w S => ?_
 refine lT (cg _ _ (sRegion (sM S fun a S => ?_)))
 refine sBin _ S (wN rfl) rfl rfl rfl (bAdd _ _ _ _ bi 1) rfl (lb rfl) fun a S => ?_
 refine sM S fun a S => ?_
 refine sLoadN (p := bU) (off := 0) (T := 61) (vs := [.int .u8 a0.Kind, .bool a0.Purl, iv a0.A, iv a0.B]) 0 [.int .u8 a0.Kind, .bool a0.Purl, iv a0.A, iv a0.B] S (wN rfl) rfl rfl rfl rfl rfl rfl rfl (lb rfl) fun a S => ?_
 obtain ⟨a4, cm, h⟩ := bS h
 refine sCall (X := Option Addr × Nat × Option Addr × Nat × Option Addr × Nat × Option Addr × Nat) (f := 44) (vs := [.pointer (some ⟨b7, 0, none⟩), iv (w64 (bi + 1)), iv aS, .agg #[.int .u8 a0.Kind, .bool a0.Purl, iv a0.A, iv a0.B]]) (val := fun _ => .tuple #[]) (B' := fun x => [eBox b7 73 [.slice x.1 a4.loops.length x.2.1, .slice x.2.2.1 a4.rows.length x.2.2.2.1, .slice x.2.2.2.2.1 a4.bound.length x.2.2.2.2.2.1, .slice x.2.2.2.2.2.2.1 a4.cross.length x.2.2.2.2.2.2.2, iv a4.next], eRow r_api_Loop 48 (.slice x.1 a4.loops.length x.2.1) a4.loops, eRow (rI .i64) 3 (.slice x.2.2.1 a4.rows.length x.2.2.2.1) a4.rows, eRow (rI .i64) 3 (.slice x.2.2.2.2.1 a4.bound.length x.2.2.2.2.2.1) a4.bound, eRow r_A2_Int 49 (.slice x.2.2.2.2.2.2.1 a4.cross.length x.2.2.2.2.2.2.2) a4.cross]) (D' := fun _ => []) [eBox b7 73 [.slice ai aI.length aj, .slice ak aJ.length al, .slice am aK.length ao, .slice ap aL.length aq, iv bw], eRow r_api_Loop 48 (.slice ai aI.length aj) aI, eRow (rI .i64) 3 (.slice ak aJ.length al) aJ, eRow (rI .i64) 3 (.slice am aK.length ao) aK, eRow r_A2_Int 49 (.slice ap aL.length aq) aL] [eBox bU 61 [.int .u8 a0.Kind, .bool a0.Purl, iv a0.A, iv a0.B], eBox b6 24 [iv p0.Start, .slice a6 p0.Rows.length a7]] [fRep r_api_Stitch (.agg #[.int .u8 a0.Kind, .bool a0.Purl, iv a0.A, iv a0.B]) a0] [2, 3, 4, 5, 6, 0, 1] [1] S (wN rfl) rfl callee44 rfl (by decide) rfl rfl (fun E1 w1 S1 => c_loops_piece_work_s1 E1 w1 (loops_piece.mk aI aJ aK aL bw) b7 ai aj ak al am ao ap aq (w64 (bi + 1)) aS a0 (.agg #[.int .u8 a0.Kind, .bool a0.Purl, iv a0.A, iv a0.B]) a4 cm S1) rfl (lb rfl) fun xx a w S => ?_
 obtain ⟨cn, co, cp, cq, cr, ct, cu, cv⟩ := xx
 dsimp only at S
 refine leafL (leafB (leafT (cf _ _ ?_)))
 refine sRegion (sBin _ S (wN rfl) rfl rfl rfl (bAdd _ _ _ _ aS 1) rfl (lb rfl) fun a S => ?_)
 refine sM S fun a S => ?_
 exact lT (⟨(w64 (aS + 1), a4.loops, a4.rows, a4.bound, a4.cross, a4.next), (Option.some.inj h).symm, ⟨cn, co, cp, cq, cr, ct, cu, cv, S.fix [6, 0, 1, 2, 3, 4] [3, 4] (by decide) rfl rfl rfl⟩⟩)
noncomputable def F_loops_Of (p0 : api_Chart) : Option ((List api_Loop) × Int) :=
 (F_loops_of p0).bind fun r8 =>
 some (r8.1.loops, r8.2)
def c_loops_Of_val (r : ((List api_Loop) × Int)) (x : Value) : Value := .tuple #[x, .int .i64 r.2]
def c_loops_Of_D (r : ((List api_Loop) × Int)) (x : Value) : List Fact := [fRep (rL r_api_Loop) x r.1]
theorem c_loops_Of (E : Nat → Prop) (w0 : World) (p0 : api_Chart) (v0 : Value) (r : ((List api_Loop) × Int)) (h : F_loops_Of p0 = some r) (S : St0 E [] w0 w0 [] [fRep r_api_Chart (v0) p0]) :
 Calls Try.prog 11 #[v0] w0 (Ret (X := Value) E [] w0 (c_loops_Of_val r) (fun _ => []) (c_loops_Of_D r)) := by
 unfold F_loops_Of at h
 obtain ⟨u1, rfl, aj⟩ := S.know (i := 0) (e := fRep r_api_Chart (v0) p0) rfl
 have S := S.learn (fRep (rL r_api_Row) u1 p0.Rows) aj
 obtain ⟨ab, ac, _, rfl, _⟩ := aj
 refine sEnter (args := [.agg #[iv p0.Start, .slice ab p0.Rows.length ac]]) 14 Try.func11 rfl rfl (by simp) S (fun a S => ?_)
 refine sSeq (fun K5 al => sRegion (sBox (v := .agg #[iv p0.Start, .slice ab p0.Rows.length ac]) S (wN rfl) rfl rfl [iv p0.Start, .slice ab p0.Rows.length ac] rfl rfl (lb rfl) fun a b6 w S => ?_))
 refine sN S fun a S => ?_
 refine sN S fun a S => ?_
 refine lT (al _ _ (sSeq (fun K7 am => sRegion (sLoadN (p := b6) (off := 0) (T := 24) (vs := [iv p0.Start, .slice ab p0.Rows.length ac]) 0 [iv p0.Start, .slice ab p0.Rows.length ac] S (wN rfl) rfl rfl rfl rfl rfl rfl rfl (lb rfl) fun a S => ?_))))
 obtain ⟨r8, ao, h⟩ := bS h
 refine sCall (X := Value) (f := 33) (vs := [.agg #[iv p0.Start, .slice ab p0.Rows.length ac]]) (val := c_loops_of_val r8) (B' := fun _ => []) (D' := c_loops_of_D r8) [] [eBox b6 24 [iv p0.Start, .slice ab p0.Rows.length ac]] [fRep r_api_Chart (.agg #[iv p0.Start, .slice ab p0.Rows.length ac]) p0] [0] [1] S (wN rfl) rfl callee33 rfl (by decide) rfl rfl (fun E1 w1 S1 => c_loops_of E1 w1 p0 (.agg #[iv p0.Start, .slice ab p0.Rows.length ac]) r8 ao S1) rfl (lb rfl) fun ap a w S => ?_
 obtain ⟨aq, ar, au, av, rfl, ae, af, ag, ah⟩ := S.mem.know (i := 0) (e := fRep r_loops_piece (ap) r8.1) rfl
 have S := S.learn (fRep (rL r_api_Loop) aq r8.1.loops) ae
 obtain ⟨a0, a4, _, rfl, _⟩ := ae
 have S := S.learn (fRep (rL (rI .i64)) ar r8.1.rows) af
 obtain ⟨a5, a6, _, rfl, _⟩ := af
 have S := S.learn (fRep (rL (rI .i64)) au r8.1.bound) ag
 obtain ⟨a7, a8, _, rfl, _⟩ := ag
 have S := S.learn (fRep (rL r_A2_Int) av r8.1.cross) ah
 obtain ⟨a9, aa, _, rfl, _⟩ := ah
 refine sM S fun a S => ?_
 refine sExtract (vs := [.agg #[.slice a0 r8.1.loops.length a4, .slice a5 r8.1.rows.length a6, .slice a7 r8.1.bound.length a8, .slice a9 r8.1.cross.length aa, iv r8.1.next], iv r8.2]) (.agg #[.slice a0 r8.1.loops.length a4, .slice a5 r8.1.rows.length a6, .slice a7 r8.1.bound.length a8, .slice a9 r8.1.cross.length aa, iv r8.1.next]) S (wN rfl) rfl rfl rfl rfl (lb rfl) fun a S => ?_
 refine sExtract (vs := [.agg #[.slice a0 r8.1.loops.length a4, .slice a5 r8.1.rows.length a6, .slice a7 r8.1.bound.length a8, .slice a9 r8.1.cross.length aa, iv r8.1.next], iv r8.2]) (iv r8.2) S (wN rfl) rfl rfl rfl rfl (lb rfl) fun a S => ?_
 refine sAlloc (.agg #[.slice none 0 0, .slice none 0 0, .slice none 0 0, .slice none 0 0, iv 0]) S (wN rfl) rfl rfl [.slice none 0 0, .slice none 0 0, .slice none 0 0, .slice none 0 0, iv 0] rfl rfl (lb rfl) fun a ak w S => ?_
 refine sStore (p := ak) (off := 0) (T := 73) (vs := [.slice none 0 0, .slice none 0 0, .slice none 0 0, .slice none 0 0, iv 0]) (v := .agg #[.slice a0 r8.1.loops.length a4, .slice a5 r8.1.rows.length a6, .slice a7 r8.1.bound.length a8, .slice a9 r8.1.cross.length aa, iv r8.1.next]) 0 [.slice a0 r8.1.loops.length a4, .slice a5 r8.1.rows.length a6, .slice a7 r8.1.bound.length a8, .slice a9 r8.1.cross.length aa, iv r8.1.next] S (wN rfl) rfl rfl rfl rfl rfl rfl rfl (by simp) rfl fun a w S => ?_
 refine sN S fun a S => ?_
 refine lT (am _ _ (sSeq (fun aw ai => sRegion (sField (b := ak) (off := 0) 0 0 S (wN rfl) rfl rfl rfl rfl rfl (lb rfl) fun a S => ?_))))
 refine sLoad1 0 (.slice a0 r8.1.loops.length a4) S (wN rfl) rfl rfl rfl rfl rfl rfl (lb rfl) fun a S => ?_
 refine sM S fun a S => ?_
 refine sN S fun a S => ?_
 refine sN S fun a S => ?_
 refine lT (ai _ _ ?_)
 obtain rfl := tS h
 exact wp_ret (sRet (.tuple #[.slice a0 r8.1.loops.length a4, iv r8.2]) S (rsl2 rfl (rvT (t := 2) (v := .slice a0 r8.1.loops.length a4) S rfl) (rvT (t := 3) (v := iv r8.2) S rfl)) ⟨(.slice a0 r8.1.loops.length a4), rfl, S.mem.sel [] [3] (by decide) rfl rfl⟩)
noncomputable def F_loops_Bound (p0 : api_Chart) : Option ((List Int) × Int) :=
 (F_loops_of p0).bind fun r8 =>
 some (r8.1.bound, r8.2)
def c_loops_Bound_val (r : ((List Int) × Int)) (x : Value) : Value := .tuple #[x, .int .i64 r.2]
def c_loops_Bound_D (r : ((List Int) × Int)) (x : Value) : List Fact := [fRep (rL (rI .i64)) x r.1]
theorem c_loops_Bound (E : Nat → Prop) (w0 : World) (p0 : api_Chart) (v0 : Value) (r : ((List Int) × Int)) (h : F_loops_Bound p0 = some r) (S : St0 E [] w0 w0 [] [fRep r_api_Chart (v0) p0]) :
 Calls Try.prog 13 #[v0] w0 (Ret (X := Value) E [] w0 (c_loops_Bound_val r) (fun _ => []) (c_loops_Bound_D r)) := by
 unfold F_loops_Bound at h
 obtain ⟨u1, rfl, aj⟩ := S.know (i := 0) (e := fRep r_api_Chart (v0) p0) rfl
 have S := S.learn (fRep (rL r_api_Row) u1 p0.Rows) aj
 obtain ⟨ab, ac, _, rfl, _⟩ := aj
 refine sEnter (args := [.agg #[iv p0.Start, .slice ab p0.Rows.length ac]]) 14 Try.func13 rfl rfl (by simp) S (fun a S => ?_)
 refine sSeq (fun K5 al => sRegion (sBox (v := .agg #[iv p0.Start, .slice ab p0.Rows.length ac]) S (wN rfl) rfl rfl [iv p0.Start, .slice ab p0.Rows.length ac] rfl rfl (lb rfl) fun a b6 w S => ?_))
 refine sN S fun a S => ?_
 refine sN S fun a S => ?_
 refine lT (al _ _ (sSeq (fun K7 am => sRegion (sLoadN (p := b6) (off := 0) (T := 24) (vs := [iv p0.Start, .slice ab p0.Rows.length ac]) 0 [iv p0.Start, .slice ab p0.Rows.length ac] S (wN rfl) rfl rfl rfl rfl rfl rfl rfl (lb rfl) fun a S => ?_))))
 obtain ⟨r8, ao, h⟩ := bS h
 refine sCall (X := Value) (f := 33) (vs := [.agg #[iv p0.Start, .slice ab p0.Rows.length ac]]) (val := c_loops_of_val r8) (B' := fun _ => []) (D' := c_loops_of_D r8) [] [eBox b6 24 [iv p0.Start, .slice ab p0.Rows.length ac]] [fRep r_api_Chart (.agg #[iv p0.Start, .slice ab p0.Rows.length ac]) p0] [0] [1] S (wN rfl) rfl callee33 rfl (by decide) rfl rfl (fun E1 w1 S1 => c_loops_of E1 w1 p0 (.agg #[iv p0.Start, .slice ab p0.Rows.length ac]) r8 ao S1) rfl (lb rfl) fun ap a w S => ?_
 obtain ⟨aq, ar, au, av, rfl, ae, af, ag, ah⟩ := S.mem.know (i := 0) (e := fRep r_loops_piece (ap) r8.1) rfl
 have S := S.learn (fRep (rL r_api_Loop) aq r8.1.loops) ae
 obtain ⟨a5, a6, _, rfl, _⟩ := ae
 have S := S.learn (fRep (rL (rI .i64)) ar r8.1.rows) af
 obtain ⟨a7, a8, _, rfl, _⟩ := af
 have S := S.learn (fRep (rL (rI .i64)) au r8.1.bound) ag
 obtain ⟨a0, a4, _, rfl, _⟩ := ag
 have S := S.learn (fRep (rL r_A2_Int) av r8.1.cross) ah
 obtain ⟨a9, aa, _, rfl, _⟩ := ah
 refine sM S fun a S => ?_
 refine sExtract (vs := [.agg #[.slice a5 r8.1.loops.length a6, .slice a7 r8.1.rows.length a8, .slice a0 r8.1.bound.length a4, .slice a9 r8.1.cross.length aa, iv r8.1.next], iv r8.2]) (.agg #[.slice a5 r8.1.loops.length a6, .slice a7 r8.1.rows.length a8, .slice a0 r8.1.bound.length a4, .slice a9 r8.1.cross.length aa, iv r8.1.next]) S (wN rfl) rfl rfl rfl rfl (lb rfl) fun a S => ?_
 refine sExtract (vs := [.agg #[.slice a5 r8.1.loops.length a6, .slice a7 r8.1.rows.length a8, .slice a0 r8.1.bound.length a4, .slice a9 r8.1.cross.length aa, iv r8.1.next], iv r8.2]) (iv r8.2) S (wN rfl) rfl rfl rfl rfl (lb rfl) fun a S => ?_
 refine sAlloc (.agg #[.slice none 0 0, .slice none 0 0, .slice none 0 0, .slice none 0 0, iv 0]) S (wN rfl) rfl rfl [.slice none 0 0, .slice none 0 0, .slice none 0 0, .slice none 0 0, iv 0] rfl rfl (lb rfl) fun a ak w S => ?_
 refine sStore (p := ak) (off := 0) (T := 73) (vs := [.slice none 0 0, .slice none 0 0, .slice none 0 0, .slice none 0 0, iv 0]) (v := .agg #[.slice a5 r8.1.loops.length a6, .slice a7 r8.1.rows.length a8, .slice a0 r8.1.bound.length a4, .slice a9 r8.1.cross.length aa, iv r8.1.next]) 0 [.slice a5 r8.1.loops.length a6, .slice a7 r8.1.rows.length a8, .slice a0 r8.1.bound.length a4, .slice a9 r8.1.cross.length aa, iv r8.1.next] S (wN rfl) rfl rfl rfl rfl rfl rfl rfl (by simp) rfl fun a w S => ?_
 refine sN S fun a S => ?_
 refine lT (am _ _ (sSeq (fun aw ai => sRegion (sField (b := ak) (off := 0) 2 2 S (wN rfl) rfl rfl rfl rfl rfl (lb rfl) fun a S => ?_))))
 refine sLoad1 0 (.slice a0 r8.1.bound.length a4) S (wN rfl) rfl rfl rfl rfl rfl rfl (lb rfl) fun a S => ?_
 refine sM S fun a S => ?_
 refine sN S fun a S => ?_
 refine sN S fun a S => ?_
 refine lT (ai _ _ ?_)
 obtain rfl := tS h
 exact wp_ret (sRet (.tuple #[.slice a0 r8.1.bound.length a4, iv r8.2]) S (rsl2 rfl (rvT (t := 2) (v := .slice a0 r8.1.bound.length a4) S rfl) (rvT (t := 3) (v := iv r8.2) S rfl)) ⟨(.slice a0 r8.1.bound.length a4), rfl, S.mem.sel [] [1] (by decide) rfl rfl⟩)
noncomputable def F_loops_Crossings (p0 : api_Chart) : Option ((List (Int × Int)) × Int) :=
 (F_loops_of p0).bind fun r8 =>
 some (r8.1.cross, r8.2)
def c_loops_Crossings_val (r : ((List (Int × Int)) × Int)) (x : Value) : Value := .tuple #[x, .int .i64 r.2]
def c_loops_Crossings_D (r : ((List (Int × Int)) × Int)) (x : Value) : List Fact := [fRep (rL r_A2_Int) x r.1]
theorem c_loops_Crossings (E : Nat → Prop) (w0 : World) (p0 : api_Chart) (v0 : Value) (r : ((List (Int × Int)) × Int)) (h : F_loops_Crossings p0 = some r) (S : St0 E [] w0 w0 [] [fRep r_api_Chart (v0) p0]) :
 Calls Try.prog 15 #[v0] w0 (Ret (X := Value) E [] w0 (c_loops_Crossings_val r) (fun _ => []) (c_loops_Crossings_D r)) := by
 unfold F_loops_Crossings at h
 obtain ⟨u1, rfl, aj⟩ := S.know (i := 0) (e := fRep r_api_Chart (v0) p0) rfl
 have S := S.learn (fRep (rL r_api_Row) u1 p0.Rows) aj
 obtain ⟨ab, ac, _, rfl, _⟩ := aj
 refine sEnter (args := [.agg #[iv p0.Start, .slice ab p0.Rows.length ac]]) 14 Try.func15 rfl rfl (by simp) S (fun a S => ?_)
 refine sSeq (fun K5 al => sRegion (sBox (v := .agg #[iv p0.Start, .slice ab p0.Rows.length ac]) S (wN rfl) rfl rfl [iv p0.Start, .slice ab p0.Rows.length ac] rfl rfl (lb rfl) fun a b6 w S => ?_))
 refine sN S fun a S => ?_
 refine sN S fun a S => ?_
 refine lT (al _ _ (sSeq (fun K7 am => sRegion (sLoadN (p := b6) (off := 0) (T := 24) (vs := [iv p0.Start, .slice ab p0.Rows.length ac]) 0 [iv p0.Start, .slice ab p0.Rows.length ac] S (wN rfl) rfl rfl rfl rfl rfl rfl rfl (lb rfl) fun a S => ?_))))
 obtain ⟨r8, ao, h⟩ := bS h
 refine sCall (X := Value) (f := 33) (vs := [.agg #[iv p0.Start, .slice ab p0.Rows.length ac]]) (val := c_loops_of_val r8) (B' := fun _ => []) (D' := c_loops_of_D r8) [] [eBox b6 24 [iv p0.Start, .slice ab p0.Rows.length ac]] [fRep r_api_Chart (.agg #[iv p0.Start, .slice ab p0.Rows.length ac]) p0] [0] [1] S (wN rfl) rfl callee33 rfl (by decide) rfl rfl (fun E1 w1 S1 => c_loops_of E1 w1 p0 (.agg #[iv p0.Start, .slice ab p0.Rows.length ac]) r8 ao S1) rfl (lb rfl) fun ap a w S => ?_
 obtain ⟨aq, ar, au, av, rfl, ae, af, ag, ah⟩ := S.mem.know (i := 0) (e := fRep r_loops_piece (ap) r8.1) rfl
 have S := S.learn (fRep (rL r_api_Loop) aq r8.1.loops) ae
 obtain ⟨a5, a6, _, rfl, _⟩ := ae
 have S := S.learn (fRep (rL (rI .i64)) ar r8.1.rows) af
 obtain ⟨a7, a8, _, rfl, _⟩ := af
 have S := S.learn (fRep (rL (rI .i64)) au r8.1.bound) ag
 obtain ⟨a9, aa, _, rfl, _⟩ := ag
 have S := S.learn (fRep (rL r_A2_Int) av r8.1.cross) ah
 obtain ⟨a0, a4, _, rfl, _⟩ := ah
 refine sM S fun a S => ?_
 refine sExtract (vs := [.agg #[.slice a5 r8.1.loops.length a6, .slice a7 r8.1.rows.length a8, .slice a9 r8.1.bound.length aa, .slice a0 r8.1.cross.length a4, iv r8.1.next], iv r8.2]) (.agg #[.slice a5 r8.1.loops.length a6, .slice a7 r8.1.rows.length a8, .slice a9 r8.1.bound.length aa, .slice a0 r8.1.cross.length a4, iv r8.1.next]) S (wN rfl) rfl rfl rfl rfl (lb rfl) fun a S => ?_
 refine sExtract (vs := [.agg #[.slice a5 r8.1.loops.length a6, .slice a7 r8.1.rows.length a8, .slice a9 r8.1.bound.length aa, .slice a0 r8.1.cross.length a4, iv r8.1.next], iv r8.2]) (iv r8.2) S (wN rfl) rfl rfl rfl rfl (lb rfl) fun a S => ?_
 refine sAlloc (.agg #[.slice none 0 0, .slice none 0 0, .slice none 0 0, .slice none 0 0, iv 0]) S (wN rfl) rfl rfl [.slice none 0 0, .slice none 0 0, .slice none 0 0, .slice none 0 0, iv 0] rfl rfl (lb rfl) fun a ak w S => ?_
 refine sStore (p := ak) (off := 0) (T := 73) (vs := [.slice none 0 0, .slice none 0 0, .slice none 0 0, .slice none 0 0, iv 0]) (v := .agg #[.slice a5 r8.1.loops.length a6, .slice a7 r8.1.rows.length a8, .slice a9 r8.1.bound.length aa, .slice a0 r8.1.cross.length a4, iv r8.1.next]) 0 [.slice a5 r8.1.loops.length a6, .slice a7 r8.1.rows.length a8, .slice a9 r8.1.bound.length aa, .slice a0 r8.1.cross.length a4, iv r8.1.next] S (wN rfl) rfl rfl rfl rfl rfl rfl rfl (by simp) rfl fun a w S => ?_
 refine sN S fun a S => ?_
 refine lT (am _ _ (sSeq (fun aw ai => sRegion (sField (b := ak) (off := 0) 3 3 S (wN rfl) rfl rfl rfl rfl rfl (lb rfl) fun a S => ?_))))
 refine sLoad1 0 (.slice a0 r8.1.cross.length a4) S (wN rfl) rfl rfl rfl rfl rfl rfl (lb rfl) fun a S => ?_
 refine sM S fun a S => ?_
 refine sN S fun a S => ?_
 refine sN S fun a S => ?_
 refine lT (ai _ _ ?_)
 obtain rfl := tS h
 exact wp_ret (sRet (.tuple #[.slice a0 r8.1.cross.length a4, iv r8.2]) S (rsl2 rfl (rvT (t := 2) (v := .slice a0 r8.1.cross.length a4) S rfl) (rvT (t := 3) (v := iv r8.2) S rfl)) ⟨(.slice a0 r8.1.cross.length a4), rfl, S.mem.sel [] [0] (by decide) rfl rfl⟩)
def anc_raddleref26_SameInts_0 : List (List Nat) := [[], [], [0, 1], [0, 1, 2], [], [], [4, 5], [4, 5, 6], [0, 1, 2, 3, 4, 5, 6, 7]]
noncomputable def raddleref26_SameInts_l1 (p0 : (List Int)) (p1 : (List Int)) : Int → Option (Int ⊕ (Bool ⊕ Unit)) := fun s0 => match s0 with
 | a0 =>
  if decide (a0 < (p0.length : Int)) then
   (idxO p0 a0).bind fun a4 =>
   (idxO p1 a0).bind fun a5 =>
   if a4 != a5 then
    some (.inr (.inl false))
   else
    some (.inl (w64 (a0 + 1)))
  else
   some (.inr (.inr ()))
noncomputable def F_raddleref26_SameInts (p0 : (List Int)) (p1 : (List Int)) : Option Bool :=
 if (p0.length : Int) != (p1.length : Int) then
  some false
 else
  Option.bind (α := Unit ⊕ Bool) (
   (whileO (raddleref26_SameInts_l1 p0 p1) 0).bind fun z0 => match z0 with
    | .inl z =>
     some (.inr z)
    | .inr _ =>
     some (.inl ())) fun z0 => match z0 with
   | .inl _ =>
    some true
   | .inr z =>
    some z
theorem c_raddleref26_SameInts (E : Nat → Prop) (w0 : World) (p0 : (List Int)) (v0 : Value) (p1 : (List Int)) (v1 : Value) (r : Bool) (h : F_raddleref26_SameInts p0 p1 = some r) (S : St0 E [] w0 w0 [] [fRep (rL (rI .i64)) (v0) p0, fRep (rL (rI .i64)) (v1) p1]) :
 Calls Try.prog 18 #[v0, v1] w0 (Ret (X := Unit) E [] w0 (fun _ => .bool r) (fun _ => []) (fun _ => [])) := by
 unfold F_raddleref26_SameInts at h
 obtain ⟨a8, a9, _, rfl, _⟩ := S.know (i := 0) (e := fRep (rL (rI .i64)) (v0) p0) rfl
 obtain ⟨aa, ab, _, rfl, _⟩ := S.know (i := 1) (e := fRep (rL (rI .i64)) (v1) p1) rfl
 refine sEnter (args := [.slice a8 p0.length a9, .slice aa p1.length ab]) 26 Try.func18 rfl rfl (by simp) S (fun a S => ?_)
 refine sSeq (fun K5 az => sRegion (sN S fun a S => ?_))
 refine lT (az _ _ (sSeq (fun K6 aA => sSeq (fun K7 aC => sRegion (sM S fun a S => ?_)))))
 refine sLen S (wN rfl) rfl Try.underlying32 rfl rfl (lb rfl) fun a S => ?_
 refine sM S fun a S => ?_
 refine sLen S (wN rfl) rfl Try.underlying32 rfl rfl (lb rfl) fun a S => ?_
 refine sBin _ S (wN rfl) rfl rfl rfl (bNe _ _ _ _ .i64 (p0.length : Int) (p1.length : Int)) rfl (lb rfl) fun a S => ?_
 refine lT (aC _ _ ?_)
 rcases iS h with ⟨ae, h⟩ | ⟨ae, h⟩
 ·refine sCondT S rfl ae ?_
  refine sSeq (fun K9 aG => sRegion (sN S fun a S => ?_))
  refine lT (aG _ _ ?_)
  obtain rfl := tS h
  exact wp_ret (rThen (sRet (.bool false) S (rsl1 rfl (rvT (t := 4) (v := .bool false) S rfl)) ⟨(), rfl, S.mem.sel [] [] (by decide) rfl rfl⟩))
 refine sCondF S rfl ae ?_
 refine wp_skip (leafT (aA _ _ ?_))
 obtain ⟨aH, h, av⟩ := bS h
 refine sCut (fun a w => .inl () = aH ∧ St [] E [] w0 26 a w [] [] []) ?_ (fun a w hI => ?_)
 rotate_left
 ·obtain ⟨rfl, S⟩ := hI
  have h := av
  try dsimp only at h
  refine sSeq (fun aI af => sRegion (sN S fun a S => ?_))
  refine lT (af _ _ ?_)
  obtain rfl := tS h
  exact wp_ret (sRet (.bool true) S (rsl1 rfl (rvT (t := 4) (v := .bool true) S rfl)) ⟨(), rfl, S.mem.sel [] [] (by decide) rfl rfl⟩)
 refine sSeq (fun aJ ag => sRegion (sN S fun a S => ?_))
 refine lT (ag _ _ (wp_block ?_))
 obtain ⟨aK, hl, aw⟩ := bS h
 refine sLoop hl (fun s0 a w => match s0 with | a0 => St [] E [] w0 26 a w [(0, .slice a8 p0.length a9), (1, .slice aa p1.length ab), (5, iv a0)] [] [fRep (rL (rI .i64)) (.slice a8 p0.length a9) p0, fRep (rL (rI .i64)) (.slice aa p1.length ab) p1]) (S.fix [] [0, 1] (by decide) rfl rfl rfl) ?_
 clear hl h
 intro a0 a w c0 hI h ac
 unfold raddleref26_SameInts_l1 at h
 dsimp only at h hI
 have S := hI
 refine sSeq (fun aL ah => sSeq (fun aM ai => sRegion (sM S fun a S => ?_)))
 refine sM S fun a S => ?_
 refine sLen S (wN rfl) rfl Try.underlying32 rfl rfl (lb rfl) fun a S => ?_
 refine sBin _ S (wN rfl) rfl rfl rfl (bLt _ _ _ _ .i64 a0 (p0.length : Int)) rfl (lb rfl) fun a S => ?_
 refine lT (ai _ _ ?_)
 rcases iS h with ⟨a6, h⟩ | ⟨a6, h⟩
 rotate_left
 ·refine sCondF S rfl a6 ?_
  obtain rfl := tS h
  obtain rfl := ac _ rfl
  have h := aw
  try dsimp only at h
  exact wp_exit (xThen (xThen (xHit (leafT (⟨Option.some.inj h, S.fix [] [] (by decide) rfl rfl rfl⟩)))))
 refine sCondT S rfl a6 ?_
 refine wp_skip (leafT (ah _ _ ?_))
 refine sSeq (fun aO aj => wp_block ?_)
 refine sSeq (fun aP ak => ?_)
 obtain ⟨a4, al, h⟩ := bS h
 obtain ⟨a5, am, h⟩ := bS h
 obtain ⟨ao, ap, S⟩ := pIdx (P := Try.prog) (r := (rI .i64)) (v := .slice a8 p0.length a9) (xs := p0) (j := a0) 32 3 0 S Try.underlying32 rfl rfl al
 obtain ⟨ax, S⟩ := pLoad (r := (rI .i64)) (q := ao) (x := a4) 0 S rfl
 obtain rfl : ax = iv a4 := S.mem.know (i := 1) (e := fRep (rI .i64) (ax) a4) rfl
 obtain ⟨aq, ar, S⟩ := pIdx (P := Try.prog) (r := (rI .i64)) (v := .slice aa p1.length ab) (xs := p1) (j := a0) 32 3 4 S Try.underlying32 rfl rfl am
 obtain ⟨ay, S⟩ := pLoad (r := (rI .i64)) (q := aq) (x := a5) 0 S rfl
 obtain rfl : ay = iv a5 := S.mem.know (i := 1) (e := fRep (rI .i64) (ay) a5) rfl
 refine sDraw (nf := []) (W := [(0, 17, .slice a8 p0.length a9), (1, 18, iv a0), (2, 19, ao), (3, 20, iv a4), (4, 21, .slice aa p1.length ab), (5, 22, iv a0), (6, 23, aq), (7, 24, iv a5), (8, 25, .bool (a4 != a5))]) rfl S ?_
 refine node_by (A := anc_raddleref26_SameInts_0) 9 (by kernel_rfl) (by kernel_rfl) (by kernel_rfl) (by kernel_rfl) (by kernel_rfl) [0, 1, 2, 3, 4, 5, 6, 7, 8] (by kernel_rfl) (by decide) (by decide) (fF ?_ (fF ?_ (fF ?_ (fF ?_ (fF ?_ (fF ?_ (fF ?_ (fF ?_ (fF ?_ (trivial)))))))))) [(0, .slice a8 p0.length a9), (1, .slice aa p1.length ab), (5, iv a0), (25, .bool (a4 != a5))] (fin_of [none, none, none, some 8] rfl (by kernel_rfl) (by kernel_rfl)) (fun _ a w S => ?_)
 ·exact fM 0 none rfl rfl rfl rfl (.inl rfl) rfl rfl rfl
 ·exact fM 1 none rfl rfl rfl rfl (.inl rfl) rfl rfl rfl
 ·refine fJ [(17, _), (18, _)] 2 [some 0, some 1] fun G a w S => ?_
  exact sIdxV S (wN rfl) rfl rfl rfl ap rfl (lb rfl) fun a S => leafL ⟨rfl, S⟩
 ·refine fJ [(19, _)] 3 [some 2] fun G a w S => ?_
  exact sLoadV1 (vq := ao) 3 (iv a4) S (wN rfl) rfl rfl rfl rfl rfl (lb rfl) fun a S => leafL ⟨rfl, S⟩
 ·exact fM 4 none rfl rfl rfl rfl (.inl rfl) rfl rfl rfl
 ·exact fM 5 none rfl rfl rfl rfl (.inl rfl) rfl rfl rfl
 ·refine fJ [(21, _), (22, _)] 6 [some 4, some 5] fun G a w S => ?_
  exact sIdxV S (wN rfl) rfl rfl rfl ar rfl (lb rfl) fun a S => leafL ⟨rfl, S⟩
 ·refine fJ [(23, _)] 7 [some 6] fun G a w S => ?_
  exact sLoadV1 (vq := aq) 0 (iv a5) S (wN rfl) rfl rfl rfl rfl rfl (lb rfl) fun a S => leafL ⟨rfl, S⟩
 ·refine fJ [(20, _), (24, _)] 8 [some 3, some 7] fun G a w S => ?_
  exact sBin _ S (wN rfl) rfl rfl rfl (bNe _ _ _ _ .i64 a4 a5) rfl (lb rfl) fun a S => leafL ⟨rfl, S⟩
 refine leafT (ak _ _ ?_)
 rcases iS h with ⟨a7, h⟩ | ⟨a7, h⟩
 rotate_left
 ·refine sCondF S rfl a7 ?_
  refine wp_skip (leafB (leafT (aj _ _ ?_)))
  refine sRegion (sM S fun a S => ?_)
  refine sBin _ S (wN rfl) rfl rfl rfl (bAdd _ _ _ _ a0 1) rfl (lb rfl) fun a S => ?_
  refine sN S fun a S => ?_
  exact lT (⟨w64 (a0 + 1), (Option.some.inj h).symm, (S.fix [] [6, 7] (by decide) rfl rfl rfl)⟩)
 refine sCondT S rfl a7 ?_
 refine sSeq (fun aQ au => sRegion (sN S fun a S => ?_))
 refine lT (au _ _ ?_)
 obtain rfl := tS h
 obtain rfl := ac _ rfl
 have h := aw
 try dsimp only at h
 obtain rfl := tS h
 have h := av
 try dsimp only at h
 obtain rfl := tS h
 exact wp_ret (rBlock (rThen (rThen (rBlock (rThen (sRet (.bool false) S (rsl1 rfl (rvT (t := 4) (v := .bool false) S rfl)) ⟨(), rfl, S.mem.sel [] [] (by decide) rfl rfl⟩))))))
def anc_raddleref27_SamePairs_0 : List (List Nat) := [[], [], [0, 1], [0, 1, 2], [], [], [4, 5], [4, 5, 6], [0, 1, 2, 3, 4, 5, 6, 7]]
noncomputable def raddleref27_SamePairs_l1 (p0 : (List (Int × Int))) (p1 : (List (Int × Int))) : Int → Option (Int ⊕ (Bool ⊕ Unit)) := fun s0 => match s0 with
 | a0 =>
  if decide (a0 < (p0.length : Int)) then
   (idxO p0 a0).bind fun a4 =>
   (idxO p1 a0).bind fun a5 =>
   if !((a4.1 == a5.1) && ((a4.2 == a5.2) && true)) then
    some (.inr (.inl false))
   else
    some (.inl (w64 (a0 + 1)))
  else
   some (.inr (.inr ()))
noncomputable def F_raddleref27_SamePairs (p0 : (List (Int × Int))) (p1 : (List (Int × Int))) : Option Bool :=
 if (p0.length : Int) != (p1.length : Int) then
  some false
 else
  Option.bind (α := Unit ⊕ Bool) (
   (whileO (raddleref27_SamePairs_l1 p0 p1) 0).bind fun z0 => match z0 with
    | .inl z =>
     some (.inr z)
    | .inr _ =>
     some (.inl ())) fun z0 => match z0 with
   | .inl _ =>
    some true
   | .inr z =>
    some z
theorem c_raddleref27_SamePairs (E : Nat → Prop) (w0 : World) (p0 : (List (Int × Int))) (v0 : Value) (p1 : (List (Int × Int))) (v1 : Value) (r : Bool) (h : F_raddleref27_SamePairs p0 p1 = some r) (S : St0 E [] w0 w0 [] [fRep (rL r_A2_Int) (v0) p0, fRep (rL r_A2_Int) (v1) p1]) :
 Calls Try.prog 19 #[v0, v1] w0 (Ret (X := Unit) E [] w0 (fun _ => .bool r) (fun _ => []) (fun _ => [])) := by
 unfold F_raddleref27_SamePairs at h
 obtain ⟨a8, a9, _, rfl, _⟩ := S.know (i := 0) (e := fRep (rL r_A2_Int) (v0) p0) rfl
 obtain ⟨aa, ab, _, rfl, _⟩ := S.know (i := 1) (e := fRep (rL r_A2_Int) (v1) p1) rfl
 refine sEnter (args := [.slice a8 p0.length a9, .slice aa p1.length ab]) 26 Try.func19 rfl rfl (by simp) S (fun a S => ?_)
 refine sSeq (fun K5 az => sRegion (sN S fun a S => ?_))
 refine lT (az _ _ (sSeq (fun K6 aA => sSeq (fun K7 aC => sRegion (sM S fun a S => ?_)))))
 refine sLen S (wN rfl) rfl Try.underlying37 rfl rfl (lb rfl) fun a S => ?_
 refine sM S fun a S => ?_
 refine sLen S (wN rfl) rfl Try.underlying37 rfl rfl (lb rfl) fun a S => ?_
 refine sBin _ S (wN rfl) rfl rfl rfl (bNe _ _ _ _ .i64 (p0.length : Int) (p1.length : Int)) rfl (lb rfl) fun a S => ?_
 refine lT (aC _ _ ?_)
 rcases iS h with ⟨ae, h⟩ | ⟨ae, h⟩
 ·refine sCondT S rfl ae ?_
  refine sSeq (fun K9 aG => sRegion (sN S fun a S => ?_))
  refine lT (aG _ _ ?_)
  obtain rfl := tS h
  exact wp_ret (rThen (sRet (.bool false) S (rsl1 rfl (rvT (t := 4) (v := .bool false) S rfl)) ⟨(), rfl, S.mem.sel [] [] (by decide) rfl rfl⟩))
 refine sCondF S rfl ae ?_
 refine wp_skip (leafT (aA _ _ ?_))
 obtain ⟨aH, h, av⟩ := bS h
 refine sCut (fun a w => .inl () = aH ∧ St [] E [] w0 26 a w [] [] []) ?_ (fun a w hI => ?_)
 rotate_left
 ·obtain ⟨rfl, S⟩ := hI
  have h := av
  try dsimp only at h
  refine sSeq (fun aI af => sRegion (sN S fun a S => ?_))
  refine lT (af _ _ ?_)
  obtain rfl := tS h
  exact wp_ret (sRet (.bool true) S (rsl1 rfl (rvT (t := 4) (v := .bool true) S rfl)) ⟨(), rfl, S.mem.sel [] [] (by decide) rfl rfl⟩)
 refine sSeq (fun aJ ag => sRegion (sN S fun a S => ?_))
 refine lT (ag _ _ (wp_block ?_))
 obtain ⟨aK, hl, aw⟩ := bS h
 refine sLoop hl (fun s0 a w => match s0 with | a5 => St [] E [] w0 26 a w [(0, .slice a8 p0.length a9), (1, .slice aa p1.length ab), (5, iv a5)] [] [fRep (rL r_A2_Int) (.slice a8 p0.length a9) p0, fRep (rL r_A2_Int) (.slice aa p1.length ab) p1]) (S.fix [] [0, 1] (by decide) rfl rfl rfl) ?_
 clear hl h
 intro a5 a w c0 hI h ac
 unfold raddleref27_SamePairs_l1 at h
 dsimp only at h hI
 have S := hI
 refine sSeq (fun aL ah => sSeq (fun aM ai => sRegion (sM S fun a S => ?_)))
 refine sM S fun a S => ?_
 refine sLen S (wN rfl) rfl Try.underlying37 rfl rfl (lb rfl) fun a S => ?_
 refine sBin _ S (wN rfl) rfl rfl rfl (bLt _ _ _ _ .i64 a5 (p0.length : Int)) rfl (lb rfl) fun a S => ?_
 refine lT (ai _ _ ?_)
 rcases iS h with ⟨a6, h⟩ | ⟨a6, h⟩
 rotate_left
 ·refine sCondF S rfl a6 ?_
  obtain rfl := tS h
  obtain rfl := ac _ rfl
  have h := aw
  try dsimp only at h
  exact wp_exit (xThen (xThen (xHit (leafT (⟨Option.some.inj h, S.fix [] [] (by decide) rfl rfl rfl⟩)))))
 refine sCondT S rfl a6 ?_
 refine wp_skip (leafT (ah _ _ ?_))
 refine sSeq (fun aO aj => wp_block ?_)
 refine sSeq (fun aP ak => ?_)
 obtain ⟨a0, al, h⟩ := bS h
 obtain ⟨a4, am, h⟩ := bS h
 obtain ⟨ao, ap, S⟩ := pIdx (P := Try.prog) (r := r_A2_Int) (v := .slice a8 p0.length a9) (xs := p0) (j := a5) 37 49 0 S Try.underlying37 rfl rfl al
 obtain ⟨ax, S⟩ := pLoad (r := r_A2_Int) (q := ao) (x := a0) 0 S rfl
 obtain rfl : ax = .agg #[iv a0.1, iv a0.2] := S.mem.know (i := 1) (e := fRep r_A2_Int (ax) a0) rfl
 obtain ⟨aq, ar, S⟩ := pIdx (P := Try.prog) (r := r_A2_Int) (v := .slice aa p1.length ab) (xs := p1) (j := a5) 37 49 4 S Try.underlying37 rfl rfl am
 obtain ⟨ay, S⟩ := pLoad (r := r_A2_Int) (q := aq) (x := a4) 0 S rfl
 obtain rfl : ay = .agg #[iv a4.1, iv a4.2] := S.mem.know (i := 1) (e := fRep r_A2_Int (ay) a4) rfl
 refine sDraw (nf := []) (W := [(0, 17, .slice a8 p0.length a9), (1, 18, iv a5), (2, 19, ao), (3, 20, .agg #[iv a0.1, iv a0.2]), (4, 21, .slice aa p1.length ab), (5, 22, iv a5), (6, 23, aq), (7, 24, .agg #[iv a4.1, iv a4.2]), (8, 25, .bool (!((a0.1 == a4.1) && ((a0.2 == a4.2) && true))))]) rfl S ?_
 refine node_by (A := anc_raddleref27_SamePairs_0) 9 (by kernel_rfl) (by kernel_rfl) (by kernel_rfl) (by kernel_rfl) (by kernel_rfl) [0, 1, 2, 3, 4, 5, 6, 7, 8] (by kernel_rfl) (by decide) (by decide) (fF ?_ (fF ?_ (fF ?_ (fF ?_ (fF ?_ (fF ?_ (fF ?_ (fF ?_ (fF ?_ (trivial)))))))))) [(0, .slice a8 p0.length a9), (1, .slice aa p1.length ab), (5, iv a5), (25, .bool (!((a0.1 == a4.1) && ((a0.2 == a4.2) && true))))] (fin_of [none, none, none, some 8] rfl (by kernel_rfl) (by kernel_rfl)) (fun _ a w S => ?_)
 ·exact fM 0 none rfl rfl rfl rfl (.inl rfl) rfl rfl rfl
 ·exact fM 1 none rfl rfl rfl rfl (.inl rfl) rfl rfl rfl
 ·refine fJ [(17, _), (18, _)] 2 [some 0, some 1] fun G a w S => ?_
  exact sIdxV S (wN rfl) rfl rfl rfl ap rfl (lb rfl) fun a S => leafL ⟨rfl, S⟩
 ·refine fJ [(19, _)] 3 [some 2] fun G a w S => ?_
  exact sLoadVN (vq := ao) 3 [iv a0.1, iv a0.2] S (wN rfl) rfl rfl rfl rfl rfl rfl (lb rfl) fun a S => leafL ⟨rfl, S⟩
 ·exact fM 4 none rfl rfl rfl rfl (.inl rfl) rfl rfl rfl
 ·exact fM 5 none rfl rfl rfl rfl (.inl rfl) rfl rfl rfl
 ·refine fJ [(21, _), (22, _)] 6 [some 4, some 5] fun G a w S => ?_
  exact sIdxV S (wN rfl) rfl rfl rfl ar rfl (lb rfl) fun a S => leafL ⟨rfl, S⟩
 ·refine fJ [(23, _)] 7 [some 6] fun G a w S => ?_
  exact sLoadVN (vq := aq) 0 [iv a4.1, iv a4.2] S (wN rfl) rfl rfl rfl rfl rfl rfl (lb rfl) fun a S => leafL ⟨rfl, S⟩
 ·refine fJ [(20, _), (24, _)] 8 [some 3, some 7] fun G a w S => ?_
  exact sBin _ S (wN rfl) rfl rfl rfl (bNeV _ _ _ _ #[iv a0.1, iv a0.2] #[iv a4.1, iv a4.2] ((a0.1 == a4.1) && ((a0.2 == a4.2) && true)) (by kernel_rfl) (eqlV_of (by kernel_rfl))) rfl (lb rfl) fun a S => leafL ⟨rfl, S⟩
 refine leafT (ak _ _ ?_)
 rcases iS h with ⟨a7, h⟩ | ⟨a7, h⟩
 rotate_left
 ·refine sCondF S rfl a7 ?_
  refine wp_skip (leafB (leafT (aj _ _ ?_)))
  refine sRegion (sM S fun a S => ?_)
  refine sBin _ S (wN rfl) rfl rfl rfl (bAdd _ _ _ _ a5 1) rfl (lb rfl) fun a S => ?_
  refine sN S fun a S => ?_
  exact lT (⟨w64 (a5 + 1), (Option.some.inj h).symm, (S.fix [] [6, 7] (by decide) rfl rfl rfl)⟩)
 refine sCondT S rfl a7 ?_
 refine sSeq (fun aQ au => sRegion (sN S fun a S => ?_))
 refine lT (au _ _ ?_)
 obtain rfl := tS h
 obtain rfl := ac _ rfl
 have h := aw
 try dsimp only at h
 obtain rfl := tS h
 have h := av
 try dsimp only at h
 obtain rfl := tS h
 exact wp_ret (rBlock (rThen (rThen (rBlock (rThen (sRet (.bool false) S (rsl1 rfl (rvT (t := 4) (v := .bool false) S rfl)) ⟨(), rfl, S.mem.sel [] [] (by decide) rfl rfl⟩))))))
noncomputable def F_raddlelaw27_one (p0 : Int) (p1 : (List api_Stitch)) : Option api_Chart :=
 some (api_Chart.mk p0 [(api_Row.mk false p1)])
def c_raddlelaw27_one_val (r : api_Chart) (x : Value) : Value := x
def c_raddlelaw27_one_D (r : api_Chart) (x : Value) : List Fact := [fRep r_api_Chart x r]
theorem c_raddlelaw27_one (E : Nat → Prop) (w0 : World) (p0 : Int) (p1 : (List api_Stitch)) (v1 : Value) (r : api_Chart) (h : F_raddlelaw27_one p0 p1 = some r) (S : St0 E [] w0 w0 [] [fRep (rL r_api_Stitch) (v1) p1]) :
 Calls Try.prog 30 #[iv p0, v1] w0 (Ret (X := Value) E [] w0 (c_raddlelaw27_one_val r) (fun _ => []) (c_raddlelaw27_one_D r)) := by
 unfold F_raddlelaw27_one at h
 obtain ⟨a5, a6, _, rfl, _⟩ := S.know (i := 0) (e := fRep (rL r_api_Stitch) (v1) p1) rfl
 refine sEnter (args := [iv p0, .slice a5 p1.length a6]) 10 Try.func30 rfl rfl (by simp) S (fun a S => ?_)
 refine sSeq (fun K3 a7 => sRegion (sAlloc (.agg #[iv 0, .slice none 0 0]) S (wN rfl) rfl rfl [iv 0, .slice none 0 0] rfl rfl (lb rfl) fun a b4 w S => ?_))
 refine lT (a7 _ _ (sSeq (fun K5 a8 => sRegion (sM S fun a S => ?_))))
 refine sM S fun a S => ?_
 refine sBuild [(1, .slice a5 p1.length a6)] [.bool false, .slice a5 p1.length a6] S (wN rfl) rfl rfl rfl rfl (lb rfl) fun a S => ?_
 have S := S.learn (fRep r_api_Row (.agg #[.bool false, .slice a5 p1.length a6]) (api_Row.mk false p1)) ⟨_, rfl, S.mem.know (i := 0) (e := fRep (rL r_api_Stitch) (.slice a5 p1.length a6) p1) rfl⟩
 refine sLit (r := r_api_Row) (T := 65) (xs := [(api_Row.mk false p1)]) [(0, .agg #[.bool false, .slice a5 p1.length a6])] 1 [.agg #[.bool false, .slice a5 p1.length a6]] [.bool false, .slice a5 p1.length a6] (.agg #[.bool false, .slice none 0 0]) 32 S (wN rfl) rfl rfl Try.underlying22 rfl (by decide) (by decide) (by kernel_rfl) rfl (fun E1 w1 hE => All.cons (r_api_Row.mono hE (S.mem.know (i := 0) (e := fRep r_api_Row (.agg #[.bool false, .slice a5 p1.length a6]) (api_Row.mk false p1)) rfl)) (All.nil _ _ _)) rfl rfl (lb rfl) fun a w a0 a4 S => ?_
 refine sBuild [(0, iv p0), (1, .slice a0 [(api_Row.mk false p1)].length a4)] [iv p0, .slice a0 [(api_Row.mk false p1)].length a4] S (wN rfl) rfl rfl rfl rfl (lb rfl) fun a S => ?_
 refine sStore (p := b4) (off := 0) (T := 24) (vs := [iv 0, .slice none 0 0]) (v := .agg #[iv p0, .slice a0 [(api_Row.mk false p1)].length a4]) 1 [iv p0, .slice a0 [(api_Row.mk false p1)].length a4] S (wN rfl) rfl rfl rfl rfl rfl rfl rfl (by simp) rfl fun a w S => ?_
 refine lT (a8 _ _ ?_)
 obtain rfl := tS h
 have S := S.shutR (r := r_api_Row) (T := 65) (v := .slice a0 [(api_Row.mk false p1)].length a4) (xs := [(api_Row.mk false p1)]) 1 rfl
 have S := S.learn (fRep r_api_Chart (.agg #[iv p0, .slice a0 [(api_Row.mk false p1)].length a4]) (api_Chart.mk p0 [(api_Row.mk false p1)])) ⟨_, rfl, S.mem.know (i := 0) (e := fRep (rL r_api_Row) (.slice a0 [(api_Row.mk false p1)].length a4) [(api_Row.mk false p1)]) rfl⟩
 exact wp_ret (sRet (.agg #[iv p0, .slice a0 [(api_Row.mk false p1)].length a4]) S (rsl1 rfl (rvN (c := 4) (t := 24) (T := 24) (p := b4) 0 [iv p0, .slice a0 [(api_Row.mk false p1)].length a4] S rfl rfl rfl rfl)) ⟨(.agg #[iv p0, .slice a0 [(api_Row.mk false p1)].length a4]), rfl, S.mem.sel [] [0] (by decide) rfl rfl⟩)
def K_raddlelaw27_one (p0 : Int) (p1 : (List api_Stitch)) : Option api_Chart :=
 some (api_Chart.mk p0 [(api_Row.mk false p1)])
def K_chart_counted (p0 : api_Chart) : Option api_Chart :=
 some p0
def K_stitch_forms (p0 : Int) : Option (stitch_form × Bool) :=
 Option.bind (α := Bool) (
  if decide (p0 < 1) then
   some true
  else
   some (decide (([(stitch_form.mk (⟨#[]⟩ : ByteArray) (0, 0) (0, 0) true 1 1), (stitch_form.mk (⟨#[]⟩ : ByteArray) (0, 0) (0, 0) false 0 1), (stitch_form.mk (⟨#[102]⟩ : ByteArray) (2, 4) (0, 0) true 2 1), (stitch_form.mk (⟨#[108]⟩ : ByteArray) (2, 4) (0, 0) true 2 1), (stitch_form.mk (⟨#[109]⟩ : ByteArray) (2, 4) (0, 0) true 1 2), (stitch_form.mk (⟨#[120]⟩ : ByteArray) (1, 6) (1, 6) true 3 3), (stitch_form.mk (⟨#[121]⟩ : ByteArray) (1, 6) (1, 6) true 3 3), (stitch_form.mk (⟨#[115]⟩ : ByteArray) (0, 0) (0, 0) true 1 1), (stitch_form.mk (⟨#[]⟩ : ByteArray) (1, 200) (0, 0) false 0 2), (stitch_form.mk (⟨#[111]⟩ : ByteArray) (1, 200) (0, 0) true 2 0)].length : Int) < (IntKind.i64.wrap p0)))) fun o12 =>
 if o12 then
  some ((stitch_form.mk (⟨#[]⟩ : ByteArray) (0, 0) (0, 0) false 0 0), false)
 else
  Option.bind (idxO [(stitch_form.mk (⟨#[]⟩ : ByteArray) (0, 0) (0, 0) true 1 1), (stitch_form.mk (⟨#[]⟩ : ByteArray) (0, 0) (0, 0) false 0 1), (stitch_form.mk (⟨#[102]⟩ : ByteArray) (2, 4) (0, 0) true 2 1), (stitch_form.mk (⟨#[108]⟩ : ByteArray) (2, 4) (0, 0) true 2 1), (stitch_form.mk (⟨#[109]⟩ : ByteArray) (2, 4) (0, 0) true 1 2), (stitch_form.mk (⟨#[120]⟩ : ByteArray) (1, 6) (1, 6) true 3 3), (stitch_form.mk (⟨#[121]⟩ : ByteArray) (1, 6) (1, 6) true 3 3), (stitch_form.mk (⟨#[115]⟩ : ByteArray) (0, 0) (0, 0) true 1 1), (stitch_form.mk (⟨#[]⟩ : ByteArray) (1, 200) (0, 0) false 0 2), (stitch_form.mk (⟨#[111]⟩ : ByteArray) (1, 200) (0, 0) true 2 0)] (IntKind.u8.wrap (p0 - 1))) fun x19 =>
  some (x19, true)
def K_stitch_within (p0 : Int) (p1 : (Int × Int)) : Option Bool :=
 Option.bind (α := Bool) (
  if decide (p1.1 ≤ p0) then
   some (decide (p0 ≤ p1.2))
  else
   some false) fun o3 =>
 some o3
def K_stitch_Check (p0 : api_Stitch) : Option Int :=
 Option.bind (K_stitch_forms p0.Kind) fun r4 =>
 Option.bind (α := Bool) (
  if !r4.2 then
   some true
  else
   Option.bind (K_stitch_within p0.A r4.1.a) fun r13 =>
   if !r13 then
    some true
   else
    Option.bind (K_stitch_within p0.B r4.1.b) fun r16 =>
    if !r16 then
     some true
    else
     if p0.Purl then
      some (!r4.1.sided)
     else
      some false) fun o9 =>
 if o9 then
  some 8
 else
  some 0
def K_stitch_All_1 (p0 : api_Stitch) : Option Bool :=
 Option.bind (K_stitch_Check p0) fun r4 =>
 some (r4 != 0)
def K_slices_IndexFunc___api_Stitch_api_Stitch__s0_l1 (p0 : (List api_Stitch)) : Int → Option (Int ⊕ (Int ⊕ Unit)) := fun s0 => match s0 with
 | s7 =>
  if decide (s7 < (p0.length : Int)) then
   Option.bind (idxO p0 s7) fun x17 =>
   Option.bind (K_stitch_All_1 x17) fun r22 =>
   if r22 then
    some (.inr (.inl s7))
   else
    some (.inl (w64 (s7 + 1)))
  else
   some (.inr (.inr ()))
def K_slices_IndexFunc___api_Stitch_api_Stitch__s0 (p0 : (List api_Stitch)) : Option Int :=
 Option.bind (α := Unit ⊕ Int) (
  Option.bind (whileK (K_slices_IndexFunc___api_Stitch_api_Stitch__s0_l1 p0) 0) fun z0 => match z0 with
   | .inl z =>
    some (.inr z)
   | .inr _ =>
    some (.inl ())) fun z0 => match z0 with
  | .inl _ =>
   some (-1)
  | .inr z =>
   some z
def K_slices_ContainsFunc___api_Stitch_api_Stitch__s0 (p0 : (List api_Stitch)) : Option Bool :=
 Option.bind (K_slices_IndexFunc___api_Stitch_api_Stitch__s0 p0) fun r5 =>
 some (decide (0 ≤ r5))
def K_stitch_loops (p0 : api_Stitch) (p1 : Int) : Option Int :=
 Option.bind (idxO ([0, 1, p0.A, w64 (p0.A + p0.B)] : List Int) p1) fun x4 =>
 some x4
def K_stitch_sum_l1 (p0 : (List api_Stitch)) : (Int × Int × Int) → Option ((Int × Int × Int) ⊕ (Int × Int)) := fun s0 => match s0 with
 | (s9, s10, s11) =>
  if decide (s11 < (p0.length : Int)) then
   Option.bind (idxO p0 s11) fun x22 =>
   Option.bind (K_stitch_forms x22.Kind) fun r29 =>
   Option.bind (K_stitch_loops x22 r29.1.uses) fun r34 =>
   Option.bind (K_stitch_loops x22 r29.1.made) fun r36 =>
   some (.inl (w64 (s9 + r34), w64 (s10 + r36), w64 (s11 + 1)))
  else
   some (.inr (s9, s10))
def K_stitch_sum (p0 : (List api_Stitch)) : Option (Int × Int) :=
 Option.bind (α := (Int × Int)) (
  Option.bind (whileK (K_stitch_sum_l1 p0) (0, 0, 0)) fun (e15, e16) =>
   some (e15, e16)) fun (o4, o5) =>
 some (o4, o5)
def K_stitch_All (p0 : (List api_Stitch)) : Option Int :=
 if decide (200 < (p0.length : Int)) then
  some 4
 else
  Option.bind (K_slices_ContainsFunc___api_Stitch_api_Stitch__s0 p0) fun r10 =>
  if r10 then
   some 8
  else
   Option.bind (K_stitch_sum p0) fun r16 =>
   if decide (200 < (if r16.1 < r16.2 then r16.2 else r16.1)) then
    some 4
   else
    some 0
def K_stitch_Uses (p0 : (List api_Stitch)) : Option (Int × Int) :=
 Option.bind (K_stitch_All p0) fun r6 =>
 if r6 != 0 then
  some (0, r6)
 else
  Option.bind (K_stitch_sum p0) fun r12 =>
  some (r12.1, 0)
def K_stitch_Makes (p0 : (List api_Stitch)) : Option (Int × Int) :=
 Option.bind (K_stitch_All p0) fun r6 =>
 if r6 != 0 then
  some (0, r6)
 else
  Option.bind (K_stitch_sum p0) fun r12 =>
  some (r12.2, 0)
def K_chart_counted_1_l1 {σ τ : Type} (p0 : api_Chart) (B : σ → (Int × chart_count) → Option (σ ⊕ τ)) : (Int × Int × σ) → Option ((Int × Int × σ) ⊕ ((σ ⊕ τ) ⊕ (σ))) := fun s0 => match s0 with
 | (s11, s12, gz13) =>
  if decide (s12 < (p0.Rows.length : Int)) then
   Option.bind (idxO p0.Rows s12) fun x23 =>
   Option.bind (K_stitch_Uses x23.Cells) fun r36 =>
   Option.bind (α := (Int × Int)) (
    if r36.2 != 0 then
     some (0, r36.2)
    else
     if r36.1 != s11 then
      some (0, 26)
     else
      Option.bind (K_stitch_Makes x23.Cells) fun r46 =>
      some (r46.1, 0)) fun (o38, o39) =>
   Option.bind (B gz13 (s12, (chart_count.mk s11 o38 o39))) fun y51 =>
   match y51 with
   | .inl gz53 =>
    if ((chart_count.mk s11 o38 o39).e) != 0 then
     some (.inr (.inl (.inl gz53)))
    else
     some (.inl ((chart_count.mk s11 o38 o39).after, w64 (s12 + 1), gz53))
   | .inr tz54 =>
    some (.inr (.inl (.inr tz54)))
  else
   some (.inr (.inr gz13))
def K_I_chart_counted_1 (p0 : api_Chart) (σ τ : Type) (B : σ → (Int × chart_count) → Option (σ ⊕ τ)) (gz0 : σ) : Option (σ ⊕ τ) :=
 Option.bind (whileK (K_chart_counted_1_l1 p0 B) (p0.Start, 0, gz0)) fun z0 => match z0 with
  | .inl z =>
   some z
  | .inr gz17 =>
   some (.inl gz17)
def K_chart_Check_l2  : Unit → (Int × chart_count) → Option (Unit ⊕ Int) := fun s0 x0 => match s0, x0 with
 | _, (x25, x27) =>
  if x27.e != 0 then
   some (.inr x27.e)
  else
   some (.inl ())
def K_chart_Check (p0 : api_Chart) : Option Int :=
 if decide (100 < (p0.Rows.length : Int)) then
  some 4
 else
  Option.bind (α := Bool) (
   if decide (p0.Start < 0) then
    some true
   else
    some (decide (200 < p0.Start))) fun o13 =>
  if o13 then
   some 8
  else
   Option.bind (K_chart_counted p0) fun r21 =>
   Option.bind (K_I_chart_counted_1 r21 _ _ (K_chart_Check_l2) ()) fun z0 => match z0 with
    | .inl _ =>
     some 0
    | .inr e24 =>
     some e24
def K_loops_of_l1 (p0 : api_Chart) : (Int × List api_Loop) → Option ((Int × List api_Loop) ⊕ List api_Loop) := fun s0 => match s0 with
 | (s21, s22) =>
  if decide (s21 < p0.Start) then
   Option.bind (appO s22 [(api_Loop.mk 0 s21 ([] : (List Int)) false)]) fun l38 =>
   some (.inl (w64 (s21 + 1), l38))
  else
   some (.inr s22)
def K_slices_Backward___api_Stitch_api_Stitch_ (p0 : (List api_Stitch)) : Option (List api_Stitch) :=
 some p0
def K_slices_Backward___api_Stitch_api_Stitch__1_l1 {σ τ : Type} (p0 : (List api_Stitch)) (B : σ → (Int × api_Stitch) → Option (σ ⊕ τ)) : (Int × σ) → Option ((Int × σ) ⊕ ((σ ⊕ τ) ⊕ (σ))) := fun s0 => match s0 with
 | (s5, gz6) =>
  if decide (0 ≤ s5) then
   Option.bind (idxO p0 s5) fun x20 =>
   Option.bind (B gz6 (s5, x20)) fun y25 =>
   match y25 with
   | .inl gz27 =>
    some (.inl (w64 (s5 - 1), gz27))
   | .inr tz28 =>
    some (.inr (.inl (.inr tz28)))
  else
   some (.inr (.inr gz6))
def K_I_slices_Backward___api_Stitch_api_Stitch__1 (p0 : (List api_Stitch)) (σ τ : Type) (B : σ → (Int × api_Stitch) → Option (σ ⊕ τ)) (gz0 : σ) : Option (σ ⊕ τ) :=
 Option.bind (whileK (K_slices_Backward___api_Stitch_api_Stitch__1_l1 p0 B) (w64 ((p0.length : Int) - 1), gz0)) fun z0 => match z0 with
  | .inl z =>
   some z
  | .inr gz10 =>
   some (.inl gz10)
def K_stitch_Turn_l2  : List api_Stitch → (Int × api_Stitch) → Option (List api_Stitch ⊕ Empty) := fun s0 x0 => match s0, x0 with
 | s22, (x25, x27) =>
  Option.bind (K_stitch_forms x27.Kind) fun r31 =>
  Option.bind (α := Bool) (
   if r31.1.sided then
    some (!x27.Purl)
   else
    some false) fun o35 =>
  Option.bind (α := (Int × Int)) (
   if decide (0 < r31.1.b.2) then
    some (x27.B, x27.A)
   else
    some (x27.A, x27.B)) fun (o39, o40) =>
  Option.bind (appO s22 [(api_Stitch.mk x27.Kind o35 o39 o40)]) fun l47 =>
  some (.inl l47)
def K_stitch_Turn (p0 : (List api_Stitch)) : Option ((List api_Stitch) × Int) :=
 Option.bind (K_stitch_All p0) fun r6 =>
 if r6 != 0 then
  some (([] : (List api_Stitch)), r6)
 else
  Option.bind (capO (p0.length : Int)) fun z14 =>
  Option.bind (K_slices_Backward___api_Stitch_api_Stitch_ p0) fun r19 =>
  Option.bind (K_I_slices_Backward___api_Stitch_api_Stitch__1 r19 _ _ (K_stitch_Turn_l2) ([] : List api_Stitch)) fun z0 => match z0 with
   | .inl s22 =>
    some (s22, 0)
   | .inr z0 =>
    nomatch z0
def K_slices_Clone___api_Stitch_api_Stitch_ (p0 : (List api_Stitch)) : Option (List api_Stitch) :=
 Option.bind (appO ([] : List api_Stitch) p0) fun l12 =>
 some l12
def K_chart_Face (p0 : api_Chart) (p1 : Int) : Option ((List api_Stitch) × Int) :=
 Option.bind (K_chart_Check p0) fun r9 =>
 if r9 != 0 then
  some (([] : (List api_Stitch)), r9)
 else
  Option.bind (α := Bool) (
   if decide (p1 < 0) then
    some true
   else
    some (decide ((p0.Rows.length : Int) ≤ p1))) fun o15 =>
  if o15 then
   some (([] : (List api_Stitch)), 2)
  else
   Option.bind (idxO p0.Rows p1) fun x23 =>
   if x23.Back then
    Option.bind (K_stitch_Turn x23.Cells) fun r39 =>
    some (r39.1, r39.2)
   else
    Option.bind (K_slices_Clone___api_Stitch_api_Stitch_ x23.Cells) fun r52 =>
    some (r52, 0)
def K_loops_piece_take_s3_l1 (m5 : List Int) (p0 : loops_piece) : (List Int × Int) → Option ((List Int × Int) ⊕ List Int) := fun s0 => match s0 with
 | (s19, s20) =>
  if decide (s20 < (m5.length : Int)) then
   Option.bind (idxO s19 s20) fun x46 =>
   Option.bind (setO s19 s20 (w64 (p0.next + s20))) fun l51 =>
   some (.inl (l51, w64 (s20 + 1)))
  else
   some (.inr s19)
def K_loops_piece_take_s3 (p0 : loops_piece) (p1 : Int) : Option ((List Int) × loops_piece) :=
 Option.bind (makeO p1 (0 : Int)) fun m5 =>
 Option.bind (α := List Int) (
  Option.bind (whileK (K_loops_piece_take_s3_l1 m5 p0) (m5, 0)) fun e32 =>
   some e32) fun o7 =>
 some (o7, (loops_piece.mk p0.loops p0.rows p0.bound p0.cross (w64 (p0.next + p1))))
def K_loops_piece_add_s1_l1 (p2 : (List (List Int))) (p1 : api_Loop) : (Int × List api_Loop × List Int) → Option ((Int × List api_Loop × List Int) ⊕ List api_Loop) := fun s0 => match s0 with
 | (s10, s11, s20) =>
  if decide (s10 < (p2.length : Int)) then
   Option.bind (idxO p2 s10) fun x40 =>
   Option.bind (appO s11 [(api_Loop.mk p1.Row p1.Cell x40 p1.Purl)]) fun l50 =>
   some (.inl (w64 (s10 + 1), l50, x40))
  else
   some (.inr s11)
def K_loops_piece_add_s1 (p0 : loops_piece) (p1 : api_Loop) (p2 : (List (List Int))) : Option loops_piece :=
 Option.bind (whileK (K_loops_piece_add_s1_l1 p2 p1) (0, p0.loops, p1.Parents)) fun e26 =>
  some (loops_piece.mk e26 p0.rows p0.bound p0.cross p0.next)
def K_slices_Reverse___int_int__s0_l1  : (List Int × Int × Int) → Option ((List Int × Int × Int) ⊕ List Int) := fun s0 => match s0 with
 | (s2, s3, s4) =>
  if decide (s3 < s4) then
   Option.bind (idxO s2 s4) fun x13 =>
   Option.bind (idxO s2 s3) fun x18 =>
   Option.bind (setO s2 s3 x13) fun l26 =>
   Option.bind (idxO l26 s4) fun x28 =>
   Option.bind (setO l26 s4 x18) fun l33 =>
   some (.inl (l33, w64 (s3 + 1), w64 (s4 - 1)))
  else
   some (.inr s2)
def K_slices_Reverse___int_int__s0 (p0 : (List Int)) : Option (List Int) :=
 Option.bind (whileK (K_slices_Reverse___int_int__s0_l1) (p0, 0, w64 ((p0.length : Int) - 1))) fun e8 =>
  (keepO p0 e8).bind fun _ =>
  some e8
def K_slices_Clone___int_int__s0 (p0 : (List Int)) : Option (List Int) :=
 Option.bind (appO ([] : List Int) p0) fun l12 =>
 some l12
def K_loops_piece_work_s1_l1 (p3 : api_Stitch) (r9 : ((List Int) × loops_piece)) (p1 : Int) (p2 : Int) : (Int × List api_Loop × List Int × List Int × List (Int × Int) × Int) → Option ((Int × List api_Loop × List Int × List Int × List (Int × Int) × Int) ⊕ (List api_Loop × List Int × List Int × List (Int × Int) × Int)) := fun s0 => match s0 with
 | (s140, s141, s144, s147, s150, s153) =>
  if decide (s140 < p3.A) then
   Option.bind (K_slices_Clone___int_int__s0 r9.1) fun r174 =>
   Option.bind (K_loops_piece_add_s1 (loops_piece.mk s141 s144 s147 s150 s153) (api_Loop.mk p1 p2 ([] : (List Int)) p3.Purl) [r174]) fun r180 =>
   some (.inl (w64 (s140 + 1), r180.loops, r180.rows, r180.bound, r180.cross, r180.next))
  else
   some (.inr (s141, s144, s147, s150, s153))
def K_slices_Concat___int_int__l1 (p0 : (List (List Int))) : (Int × Int) → Option ((Int × Int) ⊕ Int) := fun s0 => match s0 with
 | (s9, s10) =>
  if decide (s10 < (p0.length : Int)) then
   Option.bind (idxO p0 s10) fun x20 =>
   if decide ((w64 (s9 + (x20.length : Int))) < 0) then
    none
   else
    some (.inl (w64 (s9 + (x20.length : Int)), w64 (s10 + 1)))
  else
   some (.inr s9)
def K_slices_Grow___int_int__s1 (p0 : Int) : Option (List Int) :=
 if decide (p0 < 0) then
  none
 else
  Option.bind (α := List Int) (
   if decide (0 < (w64 (p0 - (w64 ((0 : Int) - 0))))) then
    Option.bind (appZ (w64 (p0 - (w64 ((0 : Int) - 0)))) (0 : Int)) fun m15 =>
    Option.bind (sliceO m15 0 0) fun y17 =>
    some y17
   else
    some ([] : List Int)) fun o5 =>
  some o5
def K_slices_Concat___int_int__l2 (p0 : (List (List Int))) : (List Int × Int) → Option ((List Int × Int) ⊕ List Int) := fun s0 => match s0 with
 | (s41, s44) =>
  if decide (s44 < (p0.length : Int)) then
   Option.bind (idxO p0 s44) fun x56 =>
   Option.bind (appO s41 x56) fun l63 =>
   some (.inl (l63, w64 (s44 + 1)))
  else
   some (.inr s41)
def K_slices_Concat___int_int_ (p0 : (List (List Int))) : Option (List Int) :=
 Option.bind (α := Int) (
  Option.bind (whileK (K_slices_Concat___int_int__l1 p0) (0, 0)) fun e14 =>
   some e14) fun o5 =>
 Option.bind (K_slices_Grow___int_int__s1 o5) fun r31 =>
 Option.bind (α := List Int) (
  Option.bind (whileK (K_slices_Concat___int_int__l2 p0) (r31, 0)) fun e48 =>
   some e48) fun o35 =>
 some o35
def K_loops_piece_cable_s1_l1 (r37 : (List Int)) (p1 : api_Loop) : (Int × List api_Loop × List Int × List Int × List (Int × Int) × Int) → Option ((Int × List api_Loop × List Int × List Int × List (Int × Int) × Int) ⊕ (List api_Loop × List Int × List Int × List (Int × Int) × Int)) := fun s0 => match s0 with
 | (s51, s52, s55, s58, s61, s64) =>
  if decide (s51 < (r37.length : Int)) then
   Option.bind (idxO r37 s51) fun x86 =>
   Option.bind (K_loops_piece_add_s1 (loops_piece.mk s52 s55 s58 s61 s64) p1 [([x86] : List Int)]) fun r95 =>
   some (.inl (w64 (s51 + 1), r95.loops, r95.rows, r95.bound, r95.cross, r95.next))
  else
   some (.inr (s52, s55, s58, s61, s64))
def K_slices_Reverse___int_int__s1_l1  : (Int × Int × Int × Int) → Option ((Int × Int × Int × Int) ⊕ (Int × Int)) := fun s0 => match s0 with
 | (s2, s3, s4, s5) =>
  if decide (s2 < s3) then
   Option.bind (idxO ([s4, s5] : List Int) s3) fun x15 =>
   Option.bind (idxO ([s4, s5] : List Int) s2) fun x17 =>
   Option.bind (idxO ([(if s2 = 0 then x15 else s4), (if s2 = 1 then x15 else s5)] : List Int) s3) fun x20 =>
   some (.inl (w64 (s2 + 1), w64 (s3 - 1), (if s3 = 0 then x17 else (if s2 = 0 then x15 else s4)), (if s3 = 1 then x17 else (if s2 = 1 then x15 else s5))))
  else
   some (.inr (s4, s5))
def K_slices_Reverse___int_int__s1 (p0 : (Int × Int)) : Option (Int × Int) :=
 Option.bind (whileK (K_slices_Reverse___int_int__s1_l1) (0, w64 (((2 : Nat) : Int) - 1), p0.1, p0.2)) fun (e9, e10) =>
  some (e9, e10)
def K_loops_piece_cable_s1_l2 (p2 : api_Stitch) (p0 : loops_piece) (s110 : Int) : (Int × List (Int × Int)) → Option ((Int × List (Int × Int)) ⊕ List (Int × Int)) := fun s0 => match s0 with
 | (s130, s131) =>
  if decide (s130 < p2.B) then
   Option.bind (α := (Int × Int)) (
    if p2.Kind == 7 then
     Option.bind (K_slices_Reverse___int_int__s1 (w64 ((w64 ((p0.loops.length : Int) + p2.B)) + s110), w64 ((p0.loops.length : Int) + s130))) fun r153 =>
     some (r153.1, r153.2)
    else
     some (w64 ((w64 ((p0.loops.length : Int) + p2.B)) + s110), w64 ((p0.loops.length : Int) + s130))) fun (o147, o148) =>
   Option.bind (appO s131 [(o147, o148)]) fun l157 =>
   some (.inl (w64 (s130 + 1), l157))
  else
   some (.inr s131)
def K_loops_piece_cable_s1_l3 (p2 : api_Stitch) (p0 : loops_piece) : (Int × List (Int × Int)) → Option ((Int × List (Int × Int)) ⊕ List (Int × Int)) := fun s0 => match s0 with
 | (s110, s111) =>
  if decide (s110 < p2.A) then
   Option.bind (α := List (Int × Int)) (
    Option.bind (whileK (K_loops_piece_cable_s1_l2 p2 p0 s110) (0, s111)) fun e137 =>
     some e137) fun o123 =>
   some (.inl (w64 (s110 + 1), o123))
  else
   some (.inr s111)
def K_loops_piece_cable_s1 (p0 : loops_piece) (p1 : api_Loop) (p2 : api_Stitch) (p3 : (List Int)) : Option loops_piece :=
 Option.bind (α := (List api_Loop × List Int × List Int × List (Int × Int) × Int)) (
  Option.bind (sliceO p3 p2.A (p3.length : Int)) fun y27 =>
  Option.bind (sliceO p3 0 p2.A) fun y31 =>
  Option.bind (K_slices_Concat___int_int_ [y27, y31]) fun r37 =>
  Option.bind (whileK (K_loops_piece_cable_s1_l1 r37 p1) (0, p0.loops, p0.rows, p0.bound, p0.cross, p0.next)) fun (e68, e71, e74, e77, e80) =>
   some (e68, e71, e74, e77, e80)) fun (o11, o14, o17, o20, o23) =>
 Option.bind (whileK (K_loops_piece_cable_s1_l3 p2 p0) (0, o20)) fun e117 =>
  some (loops_piece.mk o11 o14 o17 e117 o23)
def K_loops_piece_work_s1 (p0 : loops_piece) (p1 : Int) (p2 : Int) (p3 : api_Stitch) : Option loops_piece :=
 Option.bind (K_stitch_Uses [p3]) fun r6 =>
 Option.bind (K_loops_piece_take_s3 p0 r6.1) fun r9 =>
 Option.bind (α := Bool) (
  if p3.Kind == 2 then
   some (p3.Kind == 2)
  else
   some (p3.Kind == 9)) fun o24 =>
 if o24 then
  Option.bind (makeO (if (1 : Int) < p3.A then p3.A else 1) ([] : (List Int))) fun m32 =>
  Option.bind (K_loops_piece_add_s1 r9.2 (api_Loop.mk p1 p2 ([] : (List Int)) p3.Purl) m32) fun r34 =>
  some r34
 else
  if p3.Kind == 1 then
   Option.bind (K_loops_piece_add_s1 r9.2 (api_Loop.mk p1 p2 ([] : (List Int)) p3.Purl) [r9.1]) fun r58 =>
   some r58
  else
   if p3.Kind == 8 then
    Option.bind (idxO r9.1 0) fun x71 =>
    Option.bind (idxO r9.2.loops x71) fun x76 =>
    Option.bind (K_loops_piece_add_s1 r9.2 (api_Loop.mk p1 p2 ([] : (List Int)) x76.Purl) [r9.1]) fun r95 =>
    some r95
   else
    if p3.Kind == 4 then
     Option.bind (K_slices_Reverse___int_int__s0 r9.1) fun r108 =>
     Option.bind (K_loops_piece_add_s1 r9.2 (api_Loop.mk p1 p2 ([] : (List Int)) p3.Purl) [r108]) fun r113 =>
     some r113
    else
     if p3.Kind == 3 then
      Option.bind (K_loops_piece_add_s1 r9.2 (api_Loop.mk p1 p2 ([] : (List Int)) p3.Purl) [r9.1]) fun r127 =>
      some r127
     else
      if p3.Kind == 5 then
       Option.bind (whileK (K_loops_piece_work_s1_l1 p3 r9 p1 p2) (0, r9.2.loops, r9.2.rows, r9.2.bound, r9.2.cross, r9.2.next)) fun (e157, e160, e163, e166, e169) =>
        some (loops_piece.mk e157 e160 e163 e166 e169)
      else
       if p3.Kind == 10 then
        Option.bind (appO r9.2.bound r9.1) fun l204 =>
        some (loops_piece.mk r9.2.loops r9.2.rows l204 r9.2.cross r9.2.next)
       else
        Option.bind (K_loops_piece_cable_s1 r9.2 (api_Loop.mk p1 p2 ([] : (List Int)) p3.Purl) p3 r9.1) fun r208 =>
        some r208
def K_loops_of_l2 (r111 : ((List api_Stitch) × Int)) (s61 : Int) : (Int × List api_Loop × List Int × List Int × List (Int × Int) × Int) → Option ((Int × List api_Loop × List Int × List Int × List (Int × Int) × Int) ⊕ (List api_Loop × List Int × List Int × List (Int × Int) × Int)) := fun s0 => match s0 with
 | (s132, s133, s136, s139, s142, s145) =>
  if decide (s132 < (r111.1.length : Int)) then
   Option.bind (idxO r111.1 s132) fun x167 =>
   Option.bind (K_loops_piece_work_s1 (loops_piece.mk s133 s136 s139 s142 s145) (w64 (s61 + 1)) s132 x167) fun r173 =>
   some (.inl (w64 (s132 + 1), r173.loops, r173.rows, r173.bound, r173.cross, r173.next))
  else
   some (.inr (s133, s136, s139, s142, s145))
def K_loops_of_l3 (p0 : api_Chart) : (Int × List api_Loop × List Int × List Int × List (Int × Int) × Int) → Option ((Int × List api_Loop × List Int × List Int × List (Int × Int) × Int) ⊕ (List api_Loop × List Int × List Int × List (Int × Int) × Int)) := fun s0 => match s0 with
 | (s61, s62, s65, s68, s71, s74) =>
  if decide (s61 < (p0.Rows.length : Int)) then
   Option.bind (α := (List api_Loop × List Int × List Int × List (Int × Int) × Int)) (
    Option.bind (K_chart_Face p0 s61) fun r111 =>
    Option.bind (α := (List api_Loop × List Int × List Int × List (Int × Int) × Int)) (
     Option.bind (whileK (K_loops_of_l2 r111 s61) (0, s62, s65, s68, s71, s74)) fun (e149, e152, e155, e158, e161) =>
      some (e149, e152, e155, e158, e161)) fun (o116, o119, o122, o125, o128) =>
    Option.bind (appO o119 ([(o116.length : Int)] : List Int)) fun l185 =>
    some (o116, l185, o122, o125, o128)) fun (o94, o97, o100, o103, o106) =>
   some (.inl (w64 (s61 + 1), o94, o97, o100, o103, o106))
  else
   some (.inr (s62, s65, s68, s71, s74))
def K_loops_of (p0 : api_Chart) : Option (loops_piece × Int) :=
 Option.bind (K_chart_Check p0) fun r10 =>
 if r10 != 0 then
  some ((loops_piece.mk ([] : (List api_Loop)) ([] : (List Int)) ([] : (List Int)) ([] : (List (Int × Int))) 0), r10)
 else
  Option.bind (α := List api_Loop) (
   Option.bind (whileK (K_loops_of_l1 p0) (0, ([] : List api_Loop))) fun e28 =>
    some e28) fun o15 =>
  Option.bind (α := (List api_Loop × List Int × List Int × List (Int × Int) × Int)) (
   Option.bind (whileK (K_loops_of_l3 p0) (0, o15, ([0, p0.Start] : List Int), ([] : List Int), ([] : List (Int × Int)), 0)) fun (e78, e81, e84, e87, e90) =>
    some (e78, e81, e84, e87, e90)) fun (o45, o48, o51, o54, o57) =>
  some ((loops_piece.mk o45 o48 o51 o54 o57), 0)
def K_loops_Of (p0 : api_Chart) : Option ((List api_Loop) × Int) :=
 Option.bind (K_loops_of p0) fun r8 =>
 some (r8.1.loops, r8.2)
def K_loops_Crossings (p0 : api_Chart) : Option ((List (Int × Int)) × Int) :=
 Option.bind (K_loops_of p0) fun r8 =>
 some (r8.1.cross, r8.2)
def K_loops_Bound (p0 : api_Chart) : Option ((List Int) × Int) :=
 Option.bind (K_loops_of p0) fun r8 =>
 some (r8.1.bound, r8.2)
def K_raddleref26_SameInts_l1 (p0 : (List Int)) (p1 : (List Int)) : Int → Option (Int ⊕ (Bool ⊕ Unit)) := fun s0 => match s0 with
 | s13 =>
  if decide (s13 < (p0.length : Int)) then
   Option.bind (idxO p0 s13) fun x22 =>
   Option.bind (idxO p1 s13) fun x27 =>
   if x22 != x27 then
    some (.inr (.inl false))
   else
    some (.inl (w64 (s13 + 1)))
  else
   some (.inr (.inr ()))
def K_raddleref26_SameInts (p0 : (List Int)) (p1 : (List Int)) : Option Bool :=
 if (p0.length : Int) != (p1.length : Int) then
  some false
 else
  Option.bind (α := Unit ⊕ Bool) (
   Option.bind (whileK (K_raddleref26_SameInts_l1 p0 p1) 0) fun z0 => match z0 with
    | .inl z =>
     some (.inr z)
    | .inr _ =>
     some (.inl ())) fun z0 => match z0 with
   | .inl _ =>
    some true
   | .inr z =>
    some z
def K_raddleref27_SamePairs_l1 (p0 : (List (Int × Int))) (p1 : (List (Int × Int))) : Int → Option (Int ⊕ (Bool ⊕ Unit)) := fun s0 => match s0 with
 | s13 =>
  if decide (s13 < (p0.length : Int)) then
   Option.bind (idxO p0 s13) fun x22 =>
   Option.bind (idxO p1 s13) fun x27 =>
   if !((x22.1 == x27.1) && ((x22.2 == x27.2) && true)) then
    some (.inr (.inl false))
   else
    some (.inl (w64 (s13 + 1)))
  else
   some (.inr (.inr ()))
def K_raddleref27_SamePairs (p0 : (List (Int × Int))) (p1 : (List (Int × Int))) : Option Bool :=
 if (p0.length : Int) != (p1.length : Int) then
  some false
 else
  Option.bind (α := Unit ⊕ Bool) (
   Option.bind (whileK (K_raddleref27_SamePairs_l1 p0 p1) 0) fun z0 => match z0 with
    | .inl z =>
     some (.inr z)
    | .inr _ =>
     some (.inl ())) fun z0 => match z0 with
   | .inl _ =>
    some true
   | .inr z =>
    some z
theorem m_F_raddlelaw27_one (p0 : Int) (p1 : (List api_Stitch)) : Le (K_raddlelaw27_one p0 p1) (F_raddlelaw27_one p0 p1) := by
 unfold K_raddlelaw27_one F_raddlelaw27_one
 with_reducible repeat' (first | exact Le.rfl _ | refine Le.loop _ ?_ | refine Le.bind ?_ ?_ | refine Le.ite ?_ ?_ | refine Le.sum ?_ ?_ | refine Le.prod ?_ | intro _ | exact Empty.elim (by assumption) | dsimp only)
theorem m_F_chart_counted (p0 : api_Chart) : Le (K_chart_counted p0) (F_chart_counted p0) := by
 unfold K_chart_counted F_chart_counted
 with_reducible repeat' (first | exact Le.rfl _ | refine Le.loop _ ?_ | refine Le.bind ?_ ?_ | refine Le.ite ?_ ?_ | refine Le.sum ?_ ?_ | refine Le.prod ?_ | intro _ | exact Empty.elim (by assumption) | dsimp only)
theorem m_F_stitch_forms (p0 : Int) : Le (K_stitch_forms p0) (F_stitch_forms p0) := by
 unfold K_stitch_forms F_stitch_forms
 with_reducible repeat' (first | exact Le.rfl _ | refine Le.loop _ ?_ | refine Le.bind ?_ ?_ | refine Le.ite ?_ ?_ | refine Le.sum ?_ ?_ | refine Le.prod ?_ | intro _ | exact Empty.elim (by assumption) | dsimp only)
theorem m_F_stitch_within (p0 : Int) (p1 : (Int × Int)) : Le (K_stitch_within p0 p1) (F_stitch_within p0 p1) := by
 unfold K_stitch_within F_stitch_within
 with_reducible repeat' (first | exact Le.rfl _ | refine Le.loop _ ?_ | refine Le.bind ?_ ?_ | refine Le.ite ?_ ?_ | refine Le.sum ?_ ?_ | refine Le.prod ?_ | intro _ | exact Empty.elim (by assumption) | dsimp only)
theorem m_F_stitch_Check (p0 : api_Stitch) : Le (K_stitch_Check p0) (F_stitch_Check p0) := by
 unfold K_stitch_Check F_stitch_Check
 with_reducible repeat' (first | exact m_F_stitch_forms _ | exact m_F_stitch_within _ _ | exact Le.rfl _ | refine Le.loop _ ?_ | refine Le.bind ?_ ?_ | refine Le.ite ?_ ?_ | refine Le.sum ?_ ?_ | refine Le.prod ?_ | intro _ | exact Empty.elim (by assumption) | dsimp only)
theorem m_F_stitch_All_1 (p0 : api_Stitch) : Le (K_stitch_All_1 p0) (F_stitch_All_1 p0) := by
 unfold K_stitch_All_1 F_stitch_All_1
 with_reducible repeat' (first | exact m_F_stitch_Check _ | exact Le.rfl _ | refine Le.loop _ ?_ | refine Le.bind ?_ ?_ | refine Le.ite ?_ ?_ | refine Le.sum ?_ ?_ | refine Le.prod ?_ | intro _ | exact Empty.elim (by assumption) | dsimp only)
theorem m_slices_IndexFunc___api_Stitch_api_Stitch__s0_l1 (p0 : (List api_Stitch)) : ∀ s, Le (K_slices_IndexFunc___api_Stitch_api_Stitch__s0_l1 p0 s) (slices_IndexFunc___api_Stitch_api_Stitch__s0_l1 p0 s) := by
 unfold K_slices_IndexFunc___api_Stitch_api_Stitch__s0_l1 slices_IndexFunc___api_Stitch_api_Stitch__s0_l1
 with_reducible repeat' (first | exact m_F_stitch_All_1 _ | exact Le.rfl _ | refine Le.loop _ ?_ | refine Le.bind ?_ ?_ | refine Le.ite ?_ ?_ | refine Le.sum ?_ ?_ | refine Le.prod ?_ | intro _ | exact Empty.elim (by assumption) | dsimp only)
theorem m_F_slices_IndexFunc___api_Stitch_api_Stitch__s0 (p0 : (List api_Stitch)) : Le (K_slices_IndexFunc___api_Stitch_api_Stitch__s0 p0) (F_slices_IndexFunc___api_Stitch_api_Stitch__s0 p0) := by
 unfold K_slices_IndexFunc___api_Stitch_api_Stitch__s0 F_slices_IndexFunc___api_Stitch_api_Stitch__s0
 with_reducible repeat' (first | exact m_slices_IndexFunc___api_Stitch_api_Stitch__s0_l1 _ | exact Le.rfl _ | refine Le.loop _ ?_ | refine Le.bind ?_ ?_ | refine Le.ite ?_ ?_ | refine Le.sum ?_ ?_ | refine Le.prod ?_ | intro _ | exact Empty.elim (by assumption) | dsimp only)
theorem m_F_slices_ContainsFunc___api_Stitch_api_Stitch__s0 (p0 : (List api_Stitch)) : Le (K_slices_ContainsFunc___api_Stitch_api_Stitch__s0 p0) (F_slices_ContainsFunc___api_Stitch_api_Stitch__s0 p0) := by
 unfold K_slices_ContainsFunc___api_Stitch_api_Stitch__s0 F_slices_ContainsFunc___api_Stitch_api_Stitch__s0
 with_reducible repeat' (first | exact m_F_slices_IndexFunc___api_Stitch_api_Stitch__s0 _ | exact Le.rfl _ | refine Le.loop _ ?_ | refine Le.bind ?_ ?_ | refine Le.ite ?_ ?_ | refine Le.sum ?_ ?_ | refine Le.prod ?_ | intro _ | exact Empty.elim (by assumption) | dsimp only)
theorem m_F_stitch_loops (p0 : api_Stitch) (p1 : Int) : Le (K_stitch_loops p0 p1) (F_stitch_loops p0 p1) := by
 unfold K_stitch_loops F_stitch_loops
 with_reducible repeat' (first | exact Le.rfl _ | refine Le.loop _ ?_ | refine Le.bind ?_ ?_ | refine Le.ite ?_ ?_ | refine Le.sum ?_ ?_ | refine Le.prod ?_ | intro _ | exact Empty.elim (by assumption) | dsimp only)
theorem m_stitch_sum_l1 (p0 : (List api_Stitch)) : ∀ s, Le (K_stitch_sum_l1 p0 s) (stitch_sum_l1 p0 s) := by
 unfold K_stitch_sum_l1 stitch_sum_l1
 with_reducible repeat' (first | exact m_F_stitch_forms _ | exact m_F_stitch_loops _ _ | exact Le.rfl _ | refine Le.loop _ ?_ | refine Le.bind ?_ ?_ | refine Le.ite ?_ ?_ | refine Le.sum ?_ ?_ | refine Le.prod ?_ | intro _ | exact Empty.elim (by assumption) | dsimp only)
theorem m_F_stitch_sum (p0 : (List api_Stitch)) : Le (K_stitch_sum p0) (F_stitch_sum p0) := by
 unfold K_stitch_sum F_stitch_sum
 with_reducible repeat' (first | exact m_stitch_sum_l1 _ | exact Le.rfl _ | refine Le.loop _ ?_ | refine Le.bind ?_ ?_ | refine Le.ite ?_ ?_ | refine Le.sum ?_ ?_ | refine Le.prod ?_ | intro _ | exact Empty.elim (by assumption) | dsimp only)
theorem m_F_stitch_All (p0 : (List api_Stitch)) : Le (K_stitch_All p0) (F_stitch_All p0) := by
 unfold K_stitch_All F_stitch_All
 with_reducible repeat' (first | exact m_F_slices_ContainsFunc___api_Stitch_api_Stitch__s0 _ | exact m_F_stitch_sum _ | exact Le.rfl _ | refine Le.loop _ ?_ | refine Le.bind ?_ ?_ | refine Le.ite ?_ ?_ | refine Le.sum ?_ ?_ | refine Le.prod ?_ | intro _ | exact Empty.elim (by assumption) | dsimp only)
theorem m_F_stitch_Uses (p0 : (List api_Stitch)) : Le (K_stitch_Uses p0) (F_stitch_Uses p0) := by
 unfold K_stitch_Uses F_stitch_Uses
 with_reducible repeat' (first | exact m_F_stitch_All _ | exact m_F_stitch_sum _ | exact Le.rfl _ | refine Le.loop _ ?_ | refine Le.bind ?_ ?_ | refine Le.ite ?_ ?_ | refine Le.sum ?_ ?_ | refine Le.prod ?_ | intro _ | exact Empty.elim (by assumption) | dsimp only)
theorem m_F_stitch_Makes (p0 : (List api_Stitch)) : Le (K_stitch_Makes p0) (F_stitch_Makes p0) := by
 unfold K_stitch_Makes F_stitch_Makes
 with_reducible repeat' (first | exact m_F_stitch_All _ | exact m_F_stitch_sum _ | exact Le.rfl _ | refine Le.loop _ ?_ | refine Le.bind ?_ ?_ | refine Le.ite ?_ ?_ | refine Le.sum ?_ ?_ | refine Le.prod ?_ | intro _ | exact Empty.elim (by assumption) | dsimp only)
theorem m_chart_counted_1_l1 {σ τ : Type} (p0 : api_Chart) (B B' : σ → (Int × chart_count) → Option (σ ⊕ τ)) (hB : ∀ s x, Le (B s x) (B' s x)) : ∀ s, Le (K_chart_counted_1_l1 p0 B s) (chart_counted_1_l1 p0 B' s) := by
 unfold K_chart_counted_1_l1 chart_counted_1_l1
 with_reducible repeat' (first | exact hB _ _ | exact m_F_stitch_Uses _ | exact m_F_stitch_Makes _ | exact Le.rfl _ | refine Le.loop _ ?_ | refine Le.bind ?_ ?_ | refine Le.ite ?_ ?_ | refine Le.sum ?_ ?_ | refine Le.prod ?_ | intro _ | exact Empty.elim (by assumption) | dsimp only)
theorem m_I_chart_counted_1 (p0 : api_Chart) (σ τ : Type) (B B' : σ → (Int × chart_count) → Option (σ ⊕ τ)) (hB : ∀ s x, Le (B s x) (B' s x)) (gz0 : σ) : Le (K_I_chart_counted_1 p0 σ τ B gz0) (I_chart_counted_1 p0 σ τ B' gz0) := by
 unfold K_I_chart_counted_1 I_chart_counted_1
 with_reducible repeat' (first | exact hB _ _ | exact m_chart_counted_1_l1 _ _ _ hB | exact Le.rfl _ | refine Le.loop _ ?_ | refine Le.bind ?_ ?_ | refine Le.ite ?_ ?_ | refine Le.sum ?_ ?_ | refine Le.prod ?_ | intro _ | exact Empty.elim (by assumption) | dsimp only)
theorem m_chart_Check_l2  : ∀ s x, Le (K_chart_Check_l2 s x) (chart_Check_l2 s x) := by
 unfold K_chart_Check_l2 chart_Check_l2
 with_reducible repeat' (first | exact Le.rfl _ | refine Le.loop _ ?_ | refine Le.bind ?_ ?_ | refine Le.ite ?_ ?_ | refine Le.sum ?_ ?_ | refine Le.prod ?_ | intro _ | exact Empty.elim (by assumption) | dsimp only)
theorem m_F_chart_Check (p0 : api_Chart) : Le (K_chart_Check p0) (F_chart_Check p0) := by
 unfold K_chart_Check F_chart_Check
 with_reducible repeat' (first | exact m_F_chart_counted _ | refine m_I_chart_counted_1 _ _ _ _ _ ?_ _ | exact m_chart_Check_l2 | exact Le.rfl _ | refine Le.loop _ ?_ | refine Le.bind ?_ ?_ | refine Le.ite ?_ ?_ | refine Le.sum ?_ ?_ | refine Le.prod ?_ | intro _ | exact Empty.elim (by assumption) | dsimp only)
theorem m_loops_of_l1 (p0 : api_Chart) : ∀ s, Le (K_loops_of_l1 p0 s) (loops_of_l1 p0 s) := by
 unfold K_loops_of_l1 loops_of_l1
 with_reducible repeat' (first | exact Le.rfl _ | refine Le.loop _ ?_ | refine Le.bind ?_ ?_ | refine Le.ite ?_ ?_ | refine Le.sum ?_ ?_ | refine Le.prod ?_ | intro _ | exact Empty.elim (by assumption) | dsimp only)
theorem m_F_slices_Backward___api_Stitch_api_Stitch_ (p0 : (List api_Stitch)) : Le (K_slices_Backward___api_Stitch_api_Stitch_ p0) (F_slices_Backward___api_Stitch_api_Stitch_ p0) := by
 unfold K_slices_Backward___api_Stitch_api_Stitch_ F_slices_Backward___api_Stitch_api_Stitch_
 with_reducible repeat' (first | exact Le.rfl _ | refine Le.loop _ ?_ | refine Le.bind ?_ ?_ | refine Le.ite ?_ ?_ | refine Le.sum ?_ ?_ | refine Le.prod ?_ | intro _ | exact Empty.elim (by assumption) | dsimp only)
theorem m_slices_Backward___api_Stitch_api_Stitch__1_l1 {σ τ : Type} (p0 : (List api_Stitch)) (B B' : σ → (Int × api_Stitch) → Option (σ ⊕ τ)) (hB : ∀ s x, Le (B s x) (B' s x)) : ∀ s, Le (K_slices_Backward___api_Stitch_api_Stitch__1_l1 p0 B s) (slices_Backward___api_Stitch_api_Stitch__1_l1 p0 B' s) := by
 unfold K_slices_Backward___api_Stitch_api_Stitch__1_l1 slices_Backward___api_Stitch_api_Stitch__1_l1
 with_reducible repeat' (first | exact hB _ _ | exact Le.rfl _ | refine Le.loop _ ?_ | refine Le.bind ?_ ?_ | refine Le.ite ?_ ?_ | refine Le.sum ?_ ?_ | refine Le.prod ?_ | intro _ | exact Empty.elim (by assumption) | dsimp only)
theorem m_I_slices_Backward___api_Stitch_api_Stitch__1 (p0 : (List api_Stitch)) (σ τ : Type) (B B' : σ → (Int × api_Stitch) → Option (σ ⊕ τ)) (hB : ∀ s x, Le (B s x) (B' s x)) (gz0 : σ) : Le (K_I_slices_Backward___api_Stitch_api_Stitch__1 p0 σ τ B gz0) (I_slices_Backward___api_Stitch_api_Stitch__1 p0 σ τ B' gz0) := by
 unfold K_I_slices_Backward___api_Stitch_api_Stitch__1 I_slices_Backward___api_Stitch_api_Stitch__1
 with_reducible repeat' (first | exact hB _ _ | exact m_slices_Backward___api_Stitch_api_Stitch__1_l1 _ _ _ hB | exact Le.rfl _ | refine Le.loop _ ?_ | refine Le.bind ?_ ?_ | refine Le.ite ?_ ?_ | refine Le.sum ?_ ?_ | refine Le.prod ?_ | intro _ | exact Empty.elim (by assumption) | dsimp only)
theorem m_stitch_Turn_l2  : ∀ s x, Le (K_stitch_Turn_l2 s x) (stitch_Turn_l2 s x) := by
 unfold K_stitch_Turn_l2 stitch_Turn_l2
 with_reducible repeat' (first | exact m_F_stitch_forms _ | exact Le.rfl _ | refine Le.loop _ ?_ | refine Le.bind ?_ ?_ | refine Le.ite ?_ ?_ | refine Le.sum ?_ ?_ | refine Le.prod ?_ | intro _ | exact Empty.elim (by assumption) | dsimp only)
theorem m_F_stitch_Turn (p0 : (List api_Stitch)) : Le (K_stitch_Turn p0) (F_stitch_Turn p0) := by
 unfold K_stitch_Turn F_stitch_Turn
 with_reducible repeat' (first | exact m_F_stitch_All _ | exact m_F_slices_Backward___api_Stitch_api_Stitch_ _ | refine m_I_slices_Backward___api_Stitch_api_Stitch__1 _ _ _ _ _ ?_ _ | exact m_stitch_Turn_l2 | exact Le.rfl _ | refine Le.loop _ ?_ | refine Le.bind ?_ ?_ | refine Le.ite ?_ ?_ | refine Le.sum ?_ ?_ | refine Le.prod ?_ | intro _ | exact Empty.elim (by assumption) | dsimp only)
theorem m_F_slices_Clone___api_Stitch_api_Stitch_ (p0 : (List api_Stitch)) : Le (K_slices_Clone___api_Stitch_api_Stitch_ p0) (F_slices_Clone___api_Stitch_api_Stitch_ p0) := by
 unfold K_slices_Clone___api_Stitch_api_Stitch_ F_slices_Clone___api_Stitch_api_Stitch_
 with_reducible repeat' (first | exact Le.rfl _ | refine Le.loop _ ?_ | refine Le.bind ?_ ?_ | refine Le.ite ?_ ?_ | refine Le.sum ?_ ?_ | refine Le.prod ?_ | intro _ | exact Empty.elim (by assumption) | dsimp only)
theorem m_F_chart_Face (p0 : api_Chart) (p1 : Int) : Le (K_chart_Face p0 p1) (F_chart_Face p0 p1) := by
 unfold K_chart_Face F_chart_Face
 with_reducible repeat' (first | exact m_F_chart_Check _ | exact m_F_stitch_Turn _ | exact m_F_slices_Clone___api_Stitch_api_Stitch_ _ | exact Le.rfl _ | refine Le.loop _ ?_ | refine Le.bind ?_ ?_ | refine Le.ite ?_ ?_ | refine Le.sum ?_ ?_ | refine Le.prod ?_ | intro _ | exact Empty.elim (by assumption) | dsimp only)
theorem m_loops_piece_take_s3_l1 (m5 : List Int) (p0 : loops_piece) : ∀ s, Le (K_loops_piece_take_s3_l1 m5 p0 s) (loops_piece_take_s3_l1 m5 p0 s) := by
 unfold K_loops_piece_take_s3_l1 loops_piece_take_s3_l1
 with_reducible repeat' (first | exact Le.rfl _ | refine Le.loop _ ?_ | refine Le.bind ?_ ?_ | refine Le.ite ?_ ?_ | refine Le.sum ?_ ?_ | refine Le.prod ?_ | intro _ | exact Empty.elim (by assumption) | dsimp only)
theorem m_F_loops_piece_take_s3 (p0 : loops_piece) (p1 : Int) : Le (K_loops_piece_take_s3 p0 p1) (F_loops_piece_take_s3 p0 p1) := by
 unfold K_loops_piece_take_s3 F_loops_piece_take_s3
 with_reducible repeat' (first | exact m_loops_piece_take_s3_l1 _ _ | exact Le.rfl _ | refine Le.loop _ ?_ | refine Le.bind ?_ ?_ | refine Le.ite ?_ ?_ | refine Le.sum ?_ ?_ | refine Le.prod ?_ | intro _ | exact Empty.elim (by assumption) | dsimp only)
theorem m_loops_piece_add_s1_l1 (p2 : (List (List Int))) (p1 : api_Loop) : ∀ s, Le (K_loops_piece_add_s1_l1 p2 p1 s) (loops_piece_add_s1_l1 p2 p1 s) := by
 unfold K_loops_piece_add_s1_l1 loops_piece_add_s1_l1
 with_reducible repeat' (first | exact Le.rfl _ | refine Le.loop _ ?_ | refine Le.bind ?_ ?_ | refine Le.ite ?_ ?_ | refine Le.sum ?_ ?_ | refine Le.prod ?_ | intro _ | exact Empty.elim (by assumption) | dsimp only)
theorem m_F_loops_piece_add_s1 (p0 : loops_piece) (p1 : api_Loop) (p2 : (List (List Int))) : Le (K_loops_piece_add_s1 p0 p1 p2) (F_loops_piece_add_s1 p0 p1 p2) := by
 unfold K_loops_piece_add_s1 F_loops_piece_add_s1
 with_reducible repeat' (first | exact m_loops_piece_add_s1_l1 _ _ | exact Le.rfl _ | refine Le.loop _ ?_ | refine Le.bind ?_ ?_ | refine Le.ite ?_ ?_ | refine Le.sum ?_ ?_ | refine Le.prod ?_ | intro _ | exact Empty.elim (by assumption) | dsimp only)
theorem m_slices_Reverse___int_int__s0_l1  : ∀ s, Le (K_slices_Reverse___int_int__s0_l1 s) (slices_Reverse___int_int__s0_l1 s) := by
 unfold K_slices_Reverse___int_int__s0_l1 slices_Reverse___int_int__s0_l1
 with_reducible repeat' (first | exact Le.rfl _ | refine Le.loop _ ?_ | refine Le.bind ?_ ?_ | refine Le.ite ?_ ?_ | refine Le.sum ?_ ?_ | refine Le.prod ?_ | intro _ | exact Empty.elim (by assumption) | dsimp only)
theorem m_F_slices_Reverse___int_int__s0 (p0 : (List Int)) : Le (K_slices_Reverse___int_int__s0 p0) (F_slices_Reverse___int_int__s0 p0) := by
 unfold K_slices_Reverse___int_int__s0 F_slices_Reverse___int_int__s0
 with_reducible repeat' (first | exact m_slices_Reverse___int_int__s0_l1 | exact Le.rfl _ | refine Le.loop _ ?_ | refine Le.bind ?_ ?_ | refine Le.ite ?_ ?_ | refine Le.sum ?_ ?_ | refine Le.prod ?_ | intro _ | exact Empty.elim (by assumption) | dsimp only)
theorem m_F_slices_Clone___int_int__s0 (p0 : (List Int)) : Le (K_slices_Clone___int_int__s0 p0) (F_slices_Clone___int_int__s0 p0) := by
 unfold K_slices_Clone___int_int__s0 F_slices_Clone___int_int__s0
 with_reducible repeat' (first | exact Le.rfl _ | refine Le.loop _ ?_ | refine Le.bind ?_ ?_ | refine Le.ite ?_ ?_ | refine Le.sum ?_ ?_ | refine Le.prod ?_ | intro _ | exact Empty.elim (by assumption) | dsimp only)
theorem m_loops_piece_work_s1_l1 (p3 : api_Stitch) (r9 : ((List Int) × loops_piece)) (p1 : Int) (p2 : Int) : ∀ s, Le (K_loops_piece_work_s1_l1 p3 r9 p1 p2 s) (loops_piece_work_s1_l1 p3 r9 p1 p2 s) := by
 unfold K_loops_piece_work_s1_l1 loops_piece_work_s1_l1
 with_reducible repeat' (first | exact m_F_slices_Clone___int_int__s0 _ | exact m_F_loops_piece_add_s1 _ _ _ | exact Le.rfl _ | refine Le.loop _ ?_ | refine Le.bind ?_ ?_ | refine Le.ite ?_ ?_ | refine Le.sum ?_ ?_ | refine Le.prod ?_ | intro _ | exact Empty.elim (by assumption) | dsimp only)
theorem m_slices_Concat___int_int__l1 (p0 : (List (List Int))) : ∀ s, Le (K_slices_Concat___int_int__l1 p0 s) (slices_Concat___int_int__l1 p0 s) := by
 unfold K_slices_Concat___int_int__l1 slices_Concat___int_int__l1
 with_reducible repeat' (first | exact Le.rfl _ | refine Le.loop _ ?_ | refine Le.bind ?_ ?_ | refine Le.ite ?_ ?_ | refine Le.sum ?_ ?_ | refine Le.prod ?_ | intro _ | exact Empty.elim (by assumption) | dsimp only)
theorem m_F_slices_Grow___int_int__s1 (p0 : Int) : Le (K_slices_Grow___int_int__s1 p0) (F_slices_Grow___int_int__s1 p0) := by
 unfold K_slices_Grow___int_int__s1 F_slices_Grow___int_int__s1
 with_reducible repeat' (first | exact Le.rfl _ | refine Le.loop _ ?_ | refine Le.bind ?_ ?_ | refine Le.ite ?_ ?_ | refine Le.sum ?_ ?_ | refine Le.prod ?_ | intro _ | exact Empty.elim (by assumption) | dsimp only)
theorem m_slices_Concat___int_int__l2 (p0 : (List (List Int))) : ∀ s, Le (K_slices_Concat___int_int__l2 p0 s) (slices_Concat___int_int__l2 p0 s) := by
 unfold K_slices_Concat___int_int__l2 slices_Concat___int_int__l2
 with_reducible repeat' (first | exact Le.rfl _ | refine Le.loop _ ?_ | refine Le.bind ?_ ?_ | refine Le.ite ?_ ?_ | refine Le.sum ?_ ?_ | refine Le.prod ?_ | intro _ | exact Empty.elim (by assumption) | dsimp only)
theorem m_F_slices_Concat___int_int_ (p0 : (List (List Int))) : Le (K_slices_Concat___int_int_ p0) (F_slices_Concat___int_int_ p0) := by
 unfold K_slices_Concat___int_int_ F_slices_Concat___int_int_
 with_reducible repeat' (first | exact m_slices_Concat___int_int__l1 _ | exact m_F_slices_Grow___int_int__s1 _ | exact m_slices_Concat___int_int__l2 _ | exact Le.rfl _ | refine Le.loop _ ?_ | refine Le.bind ?_ ?_ | refine Le.ite ?_ ?_ | refine Le.sum ?_ ?_ | refine Le.prod ?_ | intro _ | exact Empty.elim (by assumption) | dsimp only)
theorem m_loops_piece_cable_s1_l1 (r37 : (List Int)) (p1 : api_Loop) : ∀ s, Le (K_loops_piece_cable_s1_l1 r37 p1 s) (loops_piece_cable_s1_l1 r37 p1 s) := by
 unfold K_loops_piece_cable_s1_l1 loops_piece_cable_s1_l1
 with_reducible repeat' (first | exact m_F_loops_piece_add_s1 _ _ _ | exact Le.rfl _ | refine Le.loop _ ?_ | refine Le.bind ?_ ?_ | refine Le.ite ?_ ?_ | refine Le.sum ?_ ?_ | refine Le.prod ?_ | intro _ | exact Empty.elim (by assumption) | dsimp only)
theorem m_slices_Reverse___int_int__s1_l1  : ∀ s, Le (K_slices_Reverse___int_int__s1_l1 s) (slices_Reverse___int_int__s1_l1 s) := by
 unfold K_slices_Reverse___int_int__s1_l1 slices_Reverse___int_int__s1_l1
 with_reducible repeat' (first | exact Le.rfl _ | refine Le.loop _ ?_ | refine Le.bind ?_ ?_ | refine Le.ite ?_ ?_ | refine Le.sum ?_ ?_ | refine Le.prod ?_ | intro _ | exact Empty.elim (by assumption) | dsimp only)
theorem m_F_slices_Reverse___int_int__s1 (p0 : (Int × Int)) : Le (K_slices_Reverse___int_int__s1 p0) (F_slices_Reverse___int_int__s1 p0) := by
 unfold K_slices_Reverse___int_int__s1 F_slices_Reverse___int_int__s1
 with_reducible repeat' (first | exact m_slices_Reverse___int_int__s1_l1 | exact Le.rfl _ | refine Le.loop _ ?_ | refine Le.bind ?_ ?_ | refine Le.ite ?_ ?_ | refine Le.sum ?_ ?_ | refine Le.prod ?_ | intro _ | exact Empty.elim (by assumption) | dsimp only)
theorem m_loops_piece_cable_s1_l2 (p2 : api_Stitch) (p0 : loops_piece) (s110 : Int) : ∀ s, Le (K_loops_piece_cable_s1_l2 p2 p0 s110 s) (loops_piece_cable_s1_l2 p2 p0 s110 s) := by
 unfold K_loops_piece_cable_s1_l2 loops_piece_cable_s1_l2
 with_reducible repeat' (first | exact m_F_slices_Reverse___int_int__s1 _ | exact Le.rfl _ | refine Le.loop _ ?_ | refine Le.bind ?_ ?_ | refine Le.ite ?_ ?_ | refine Le.sum ?_ ?_ | refine Le.prod ?_ | intro _ | exact Empty.elim (by assumption) | dsimp only)
theorem m_loops_piece_cable_s1_l3 (p2 : api_Stitch) (p0 : loops_piece) : ∀ s, Le (K_loops_piece_cable_s1_l3 p2 p0 s) (loops_piece_cable_s1_l3 p2 p0 s) := by
 unfold K_loops_piece_cable_s1_l3 loops_piece_cable_s1_l3
 with_reducible repeat' (first | exact m_loops_piece_cable_s1_l2 _ _ _ | exact Le.rfl _ | refine Le.loop _ ?_ | refine Le.bind ?_ ?_ | refine Le.ite ?_ ?_ | refine Le.sum ?_ ?_ | refine Le.prod ?_ | intro _ | exact Empty.elim (by assumption) | dsimp only)
theorem m_F_loops_piece_cable_s1 (p0 : loops_piece) (p1 : api_Loop) (p2 : api_Stitch) (p3 : (List Int)) : Le (K_loops_piece_cable_s1 p0 p1 p2 p3) (F_loops_piece_cable_s1 p0 p1 p2 p3) := by
 unfold K_loops_piece_cable_s1 F_loops_piece_cable_s1
 with_reducible repeat' (first | exact m_F_slices_Concat___int_int_ _ | exact m_loops_piece_cable_s1_l1 _ _ | exact m_loops_piece_cable_s1_l3 _ _ | exact Le.rfl _ | refine Le.loop _ ?_ | refine Le.bind ?_ ?_ | refine Le.ite ?_ ?_ | refine Le.sum ?_ ?_ | refine Le.prod ?_ | intro _ | exact Empty.elim (by assumption) | dsimp only)
theorem m_F_loops_piece_work_s1 (p0 : loops_piece) (p1 : Int) (p2 : Int) (p3 : api_Stitch) : Le (K_loops_piece_work_s1 p0 p1 p2 p3) (F_loops_piece_work_s1 p0 p1 p2 p3) := by
 unfold K_loops_piece_work_s1 F_loops_piece_work_s1
 with_reducible repeat' (first | exact m_F_stitch_Uses _ | exact m_F_loops_piece_take_s3 _ _ | exact m_F_loops_piece_add_s1 _ _ _ | exact m_F_slices_Reverse___int_int__s0 _ | exact m_loops_piece_work_s1_l1 _ _ _ _ | exact m_F_loops_piece_cable_s1 _ _ _ _ | exact Le.rfl _ | refine Le.loop _ ?_ | refine Le.bind ?_ ?_ | refine Le.ite ?_ ?_ | refine Le.sum ?_ ?_ | refine Le.prod ?_ | intro _ | exact Empty.elim (by assumption) | dsimp only)
theorem m_loops_of_l2 (r111 : ((List api_Stitch) × Int)) (s61 : Int) : ∀ s, Le (K_loops_of_l2 r111 s61 s) (loops_of_l2 r111 s61 s) := by
 unfold K_loops_of_l2 loops_of_l2
 with_reducible repeat' (first | exact m_F_loops_piece_work_s1 _ _ _ _ | exact Le.rfl _ | refine Le.loop _ ?_ | refine Le.bind ?_ ?_ | refine Le.ite ?_ ?_ | refine Le.sum ?_ ?_ | refine Le.prod ?_ | intro _ | exact Empty.elim (by assumption) | dsimp only)
theorem m_loops_of_l3 (p0 : api_Chart) : ∀ s, Le (K_loops_of_l3 p0 s) (loops_of_l3 p0 s) := by
 unfold K_loops_of_l3 loops_of_l3
 with_reducible repeat' (first | exact m_F_chart_Face _ _ | exact m_loops_of_l2 _ _ | exact Le.rfl _ | refine Le.loop _ ?_ | refine Le.bind ?_ ?_ | refine Le.ite ?_ ?_ | refine Le.sum ?_ ?_ | refine Le.prod ?_ | intro _ | exact Empty.elim (by assumption) | dsimp only)
theorem m_F_loops_of (p0 : api_Chart) : Le (K_loops_of p0) (F_loops_of p0) := by
 unfold K_loops_of F_loops_of
 with_reducible repeat' (first | exact m_F_chart_Check _ | exact m_loops_of_l1 _ | exact m_loops_of_l3 _ | exact Le.rfl _ | refine Le.loop _ ?_ | refine Le.bind ?_ ?_ | refine Le.ite ?_ ?_ | refine Le.sum ?_ ?_ | refine Le.prod ?_ | intro _ | exact Empty.elim (by assumption) | dsimp only)
theorem m_F_loops_Of (p0 : api_Chart) : Le (K_loops_Of p0) (F_loops_Of p0) := by
 unfold K_loops_Of F_loops_Of
 with_reducible repeat' (first | exact m_F_loops_of _ | exact Le.rfl _ | refine Le.loop _ ?_ | refine Le.bind ?_ ?_ | refine Le.ite ?_ ?_ | refine Le.sum ?_ ?_ | refine Le.prod ?_ | intro _ | exact Empty.elim (by assumption) | dsimp only)
theorem m_F_loops_Crossings (p0 : api_Chart) : Le (K_loops_Crossings p0) (F_loops_Crossings p0) := by
 unfold K_loops_Crossings F_loops_Crossings
 with_reducible repeat' (first | exact m_F_loops_of _ | exact Le.rfl _ | refine Le.loop _ ?_ | refine Le.bind ?_ ?_ | refine Le.ite ?_ ?_ | refine Le.sum ?_ ?_ | refine Le.prod ?_ | intro _ | exact Empty.elim (by assumption) | dsimp only)
theorem m_F_loops_Bound (p0 : api_Chart) : Le (K_loops_Bound p0) (F_loops_Bound p0) := by
 unfold K_loops_Bound F_loops_Bound
 with_reducible repeat' (first | exact m_F_loops_of _ | exact Le.rfl _ | refine Le.loop _ ?_ | refine Le.bind ?_ ?_ | refine Le.ite ?_ ?_ | refine Le.sum ?_ ?_ | refine Le.prod ?_ | intro _ | exact Empty.elim (by assumption) | dsimp only)
theorem m_raddleref26_SameInts_l1 (p0 : (List Int)) (p1 : (List Int)) : ∀ s, Le (K_raddleref26_SameInts_l1 p0 p1 s) (raddleref26_SameInts_l1 p0 p1 s) := by
 unfold K_raddleref26_SameInts_l1 raddleref26_SameInts_l1
 with_reducible repeat' (first | exact Le.rfl _ | refine Le.loop _ ?_ | refine Le.bind ?_ ?_ | refine Le.ite ?_ ?_ | refine Le.sum ?_ ?_ | refine Le.prod ?_ | intro _ | exact Empty.elim (by assumption) | dsimp only)
theorem m_F_raddleref26_SameInts (p0 : (List Int)) (p1 : (List Int)) : Le (K_raddleref26_SameInts p0 p1) (F_raddleref26_SameInts p0 p1) := by
 unfold K_raddleref26_SameInts F_raddleref26_SameInts
 with_reducible repeat' (first | exact m_raddleref26_SameInts_l1 _ _ | exact Le.rfl _ | refine Le.loop _ ?_ | refine Le.bind ?_ ?_ | refine Le.ite ?_ ?_ | refine Le.sum ?_ ?_ | refine Le.prod ?_ | intro _ | exact Empty.elim (by assumption) | dsimp only)
theorem m_raddleref27_SamePairs_l1 (p0 : (List (Int × Int))) (p1 : (List (Int × Int))) : ∀ s, Le (K_raddleref27_SamePairs_l1 p0 p1 s) (raddleref27_SamePairs_l1 p0 p1 s) := by
 unfold K_raddleref27_SamePairs_l1 raddleref27_SamePairs_l1
 with_reducible repeat' (first | exact Le.rfl _ | refine Le.loop _ ?_ | refine Le.bind ?_ ?_ | refine Le.ite ?_ ?_ | refine Le.sum ?_ ?_ | refine Le.prod ?_ | intro _ | exact Empty.elim (by assumption) | dsimp only)
theorem m_F_raddleref27_SamePairs (p0 : (List (Int × Int))) (p1 : (List (Int × Int))) : Le (K_raddleref27_SamePairs p0 p1) (F_raddleref27_SamePairs p0 p1) := by
 unfold K_raddleref27_SamePairs F_raddleref27_SamePairs
 with_reducible repeat' (first | exact m_raddleref27_SamePairs_l1 _ _ | exact Le.rfl _ | refine Le.loop _ ?_ | refine Le.bind ?_ ?_ | refine Le.ite ?_ ?_ | refine Le.sum ?_ ?_ | refine Le.prod ?_ | intro _ | exact Empty.elim (by assumption) | dsimp only)
set_option maxRecDepth 1000000 in
theorem kc_raddlelaw27_alive_0 : F_raddlelaw27_one 3 [(api_Stitch.mk 6 false 1 2)] = some (api_Chart.mk 3 [(api_Row.mk false [(api_Stitch.mk 6 false 1 2)])]) := m_F_raddlelaw27_one _ _ _ (by kernel_rfl)
set_option maxRecDepth 1000000 in
theorem kc_raddlelaw27_alive_1 : F_loops_Of ((api_Chart.mk 3 [(api_Row.mk false [(api_Stitch.mk 6 false 1 2)])])) = some ([(api_Loop.mk 0 0 [] false), (api_Loop.mk 0 1 [] false), (api_Loop.mk 0 2 [] false), (api_Loop.mk 1 0 [1] false), (api_Loop.mk 1 0 [2] false), (api_Loop.mk 1 0 [0] false)], 0) := m_F_loops_Of _ _ (by kernel_rfl)
set_option maxRecDepth 1000000 in
theorem kc_raddlelaw27_alive_2 : F_loops_Crossings ((api_Chart.mk 3 [(api_Row.mk false [(api_Stitch.mk 6 false 1 2)])])) = some ([(5, 3), (5, 4)], 0) := m_F_loops_Crossings _ _ (by kernel_rfl)
set_option maxRecDepth 1000000 in
theorem kc_raddlelaw27_alive_3 : F_raddlelaw27_one 3 [(api_Stitch.mk 3 false 2 0), (api_Stitch.mk 2 false 0 0), (api_Stitch.mk 10 false 1 0)] = some (api_Chart.mk 3 [(api_Row.mk false [(api_Stitch.mk 3 false 2 0), (api_Stitch.mk 2 false 0 0), (api_Stitch.mk 10 false 1 0)])]) := m_F_raddlelaw27_one _ _ _ (by kernel_rfl)
set_option maxRecDepth 1000000 in
theorem kc_raddlelaw27_alive_4 : F_loops_Of ((api_Chart.mk 3 [(api_Row.mk false [(api_Stitch.mk 3 false 2 0), (api_Stitch.mk 2 false 0 0), (api_Stitch.mk 10 false 1 0)])])) = some ([(api_Loop.mk 0 0 [] false), (api_Loop.mk 0 1 [] false), (api_Loop.mk 0 2 [] false), (api_Loop.mk 1 0 [0, 1] false), (api_Loop.mk 1 1 [] false)], 0) := m_F_loops_Of _ _ (by kernel_rfl)
set_option maxRecDepth 1000000 in
theorem kc_raddlelaw27_alive_5 : F_loops_Bound ((api_Chart.mk 3 [(api_Row.mk false [(api_Stitch.mk 3 false 2 0), (api_Stitch.mk 2 false 0 0), (api_Stitch.mk 10 false 1 0)])])) = some ([2], 0) := m_F_loops_Bound _ _ (by kernel_rfl)
set_option maxRecDepth 1000000 in
theorem kc_raddlelaw27_alive_6 : F_raddleref26_SameInts ((api_Loop.mk 1 0 [1] false)).Parents ([1] : List Int) = some true := m_F_raddleref26_SameInts _ _ _ (by kernel_rfl)
set_option maxRecDepth 1000000 in
theorem kc_raddlelaw27_alive_7 : F_raddleref26_SameInts ((api_Loop.mk 1 0 [2] false)).Parents ([2] : List Int) = some true := m_F_raddleref26_SameInts _ _ _ (by kernel_rfl)
set_option maxRecDepth 1000000 in
theorem kc_raddlelaw27_alive_8 : F_raddleref26_SameInts ((api_Loop.mk 1 0 [0] false)).Parents ([0] : List Int) = some true := m_F_raddleref26_SameInts _ _ _ (by kernel_rfl)
set_option maxRecDepth 1000000 in
theorem kc_raddlelaw27_alive_9 : F_raddleref27_SamePairs (([(5, 3), (5, 4)], 0)).1 [(5, 3), (5, 4)] = some true := m_F_raddleref27_SamePairs _ _ _ (by kernel_rfl)
set_option maxRecDepth 1000000 in
theorem kc_raddlelaw27_alive_10 : F_raddleref26_SameInts ((api_Loop.mk 1 0 [0, 1] false)).Parents ([0, 1] : List Int) = some true := m_F_raddleref26_SameInts _ _ _ (by kernel_rfl)
set_option maxRecDepth 1000000 in
theorem kc_raddlelaw27_alive_11 : F_raddleref26_SameInts (([2], 0)).1 ([2] : List Int) = some true := m_F_raddleref26_SameInts _ _ _ (by kernel_rfl)
end Go.Proofs.Yticjoiolfibmlaa
