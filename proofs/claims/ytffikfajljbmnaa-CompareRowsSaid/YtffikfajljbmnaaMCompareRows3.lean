/- CompareRows: walks, tables, laws. -/
import Derived.Test.YtffikfajljbmnaaProg
import Derived.Test.YtffikfajljbmnaaRows
import Derived.Test.YtffikfajljbmnaaMCompareRows2
namespace Go.Proofs.Ytffikfajljbmnaa
open Go.RowKit
noncomputable def F_symmetry_Apply (p0 : api_Grid) (p1 : Int) : Option (api_Grid × Int) :=
 Option.bind (F_symmetry_check [p0]) fun r12 =>
 if r12 != 0 then
  some ((api_Grid.mk 0 0 ([] : (List Bool))), r12)
 else
  Option.bind (F_symmetry_is p1) fun r19 =>
  if !r19 then
   some ((api_Grid.mk 0 0 ([] : (List Bool))), 2)
  else
   Option.bind (F_symmetry_applied p0 p1) fun r24 =>
   some (r24, 0)
def c_symmetry_Apply_val (r : (api_Grid × Int)) (x : Value) : Value := .tuple #[x, .int .i64 r.2]
def c_symmetry_Apply_D (r : (api_Grid × Int)) (x : Value) : List Fact := [fRep r_api_Grid x r.1]
set_option maxHeartbeats 4000000 in
set_option maxRecDepth 100000 in
theorem c_symmetry_Apply (E : Nat → Prop) (w0 : World) (p0 : api_Grid) (v0 : Value) (p1 : Int) (r : (api_Grid × Int)) (h : F_symmetry_Apply p0 p1 = some r) (S : St0 E [] w0 w0 [] [fRep r_api_Grid (v0) p0]) :
 Calls Try.prog 33 #[v0, iv p1] w0 (Ret (X := Value) E [] w0 (c_symmetry_Apply_val r) (fun _ => []) (c_symmetry_Apply_D r)) := by
 unfold F_symmetry_Apply at h
 obtain ⟨u1, rfl, hu2⟩ := S.know (i := 0) (e := fRep r_api_Grid (v0) p0) rfl
 have S := S.learn (fRep (rL rB) u1 p0.Bits) hu2
 obtain ⟨ad3, cp4, _, rfl, _⟩ := hu2
 refine sEnter (args := [.agg #[iv p0.W, iv p0.H, .slice ad3 p0.Bits.length cp4], iv p1]) 21 Try.func33 rfl rfl (by simp) S (fun a S => ?_)
 refine sSeq (fun K5 hK5 => ?_)
 refine sRegion ?_
 refine sBox (v := .agg #[iv p0.W, iv p0.H, .slice ad3 p0.Bits.length cp4]) S (wN rfl) rfl rfl [iv p0.W, iv p0.H, .slice ad3 p0.Bits.length cp4] rfl rfl (lb rfl) fun a b6 w S => ?_
 refine sAlloc (.agg #[iv 0, iv 0, .slice none 0 0]) S (wN rfl) rfl rfl [iv 0, iv 0, .slice none 0 0] rfl rfl (lb rfl) fun a b7 w S => ?_
 refine sMa S rfl rfl rfl rfl rfl fun a S => ?_
 refine lT (hK5 _ _ ?_)
 refine sSeq (fun K8 hK8 => ?_)
 refine sSeq (fun K9 hK9 => ?_)
 refine sRegion ?_
 refine sLoadN (p := b6) (off := 0) (T := 24) (vs := [iv p0.W, iv p0.H, .slice ad3 p0.Bits.length cp4]) 1 [iv p0.W, iv p0.H, .slice ad3 p0.Bits.length cp4] S (wN rfl) rfl rfl rfl rfl rfl rfl rfl (lb rfl) fun a S => ?_
 refine sLit (r := r_api_Grid) (T := 24) (xs := [p0]) [(0, .agg #[iv p0.W, iv p0.H, .slice ad3 p0.Bits.length cp4])] 1 [.agg #[iv p0.W, iv p0.H, .slice ad3 p0.Bits.length cp4]] [iv p0.W, iv p0.H, .slice ad3 p0.Bits.length cp4] (.agg #[iv 0, iv 0, .slice none 0 0]) 40 S (wN rfl) rfl rfl Try.underlying141 rfl (by decide) (by decide) (by kernel_rfl) rfl (fun E1 w1 hE => All.cons (r_api_Grid.mono hE (S.mem.know (i := 1) (e := fRep r_api_Grid (.agg #[iv p0.W, iv p0.H, .slice ad3 p0.Bits.length cp4]) p0) rfl)) (All.nil _ _ _)) rfl rfl (lb rfl) fun a w ad10 cp11 S => ?_
 obtain ⟨r12, hx13, h⟩ := bindSome h
 have S1 := S.mem
 have S1 := S1.shutR (r := r_api_Grid) (T := 24) (v := .slice ad10 [p0].length cp11) (xs := [p0]) 0 rfl
 refine sCallQ (X := Unit) (f := 60) (vs := [.slice ad10 [p0].length cp11]) (val := fun _ => iv r12) S (wN rfl) rfl callee60 rfl (S1.quiet [0] rfl) (fun E1 w1 S1 => c_symmetry_check E1 w1 [p0] (.slice ad10 [p0].length cp11) r12 hx13 S1) rfl (lb rfl) fun _ a w S => ?_
 refine sMa S rfl rfl rfl rfl rfl fun a S => ?_
 refine lT (hK9 _ _ ?_)
 refine sSeq (fun K14 hK14 => ?_)
 refine sRegion ?_
 refine sMm S rfl rfl rfl rfl rfl fun a S => ?_
 refine sBin _ S (wN rfl) rfl rfl rfl (bNe _ _ _ _ .i64 r12 0) rfl (lb rfl) fun a S => ?_
 refine lT (hK14 _ _ ?_)
 rcases iteSome h with ⟨hc15, h⟩ | ⟨hc15, h⟩
 ·refine sCondT S rfl hc15 ?_
  refine sSeq (fun K16 hK16 => ?_)
  refine sRegion ?_
  refine sBuild [] [iv 0, iv 0, .slice none 0 0] S (wN rfl) rfl rfl rfl rfl (lb rfl) fun a S => ?_
  refine sMm S rfl rfl rfl rfl rfl fun a S => ?_
  refine sStore (p := b7) (off := 0) (T := 24) (vs := [iv 0, iv 0, .slice none 0 0]) (v := .agg #[iv 0, iv 0, .slice none 0 0]) 1 [iv 0, iv 0, .slice none 0 0] S (wN rfl) rfl rfl rfl rfl rfl rfl rfl (by simp) rfl fun a w S => ?_
  refine sMa S rfl rfl rfl rfl rfl fun a S => ?_
  refine lT (hK16 _ _ ?_)
  obtain rfl := Option.some.inj h
  have S := S.learn (fRep (rL rB) (.slice none 0 0) ([] : (List Bool))) (rL_nil _ _ _)
  have S := S.learn (fRep r_api_Grid (.agg #[iv 0, iv 0, .slice none 0 0]) (api_Grid.mk 0 0 ([] : (List Bool)))) ⟨_, rfl, S.mem.know (i := 0) (e := fRep (rL rB) (.slice none 0 0) ([] : (List Bool))) rfl⟩
  exact wp_ret (rThen (sRet (.tuple #[.agg #[iv 0, iv 0, .slice none 0 0], iv r12]) S (rsl2 rfl (rvN (c := 4) (t := 24) (T := 24) (p := b7) 0 [iv 0, iv 0, .slice none 0 0] S rfl rfl rfl rfl) (rvT (t := 5) (v := iv r12) S rfl)) ⟨(.agg #[iv 0, iv 0, .slice none 0 0]), rfl, S.mem.sel [] [0] (by decide) rfl rfl⟩))
 refine sCondF S rfl hc15 ?_
 refine wp_skip (leafT (hK8 _ _ ?_))
 refine sSeq (fun K17 hK17 => ?_)
 refine sSeq (fun K18 hK18 => ?_)
 refine sRegion ?_
 refine sMm S rfl rfl rfl rfl rfl fun a S => ?_
 obtain ⟨r19, hx20, h⟩ := bindSome h
 have S1 := S.mem
 refine sCallQ (X := Unit) (f := 61) (vs := [iv p1]) (val := fun _ => .bool r19) S (wN rfl) rfl callee61 rfl (S1.quiet [] rfl) (fun E1 w1 S1 => c_symmetry_is E1 w1 p1 r19 hx20 S1) rfl (lb rfl) fun _ a w S => ?_
 refine sNot (b := r19) S (wN rfl) rfl rfl rfl (lb rfl) fun a S => ?_
 refine lT (hK18 _ _ ?_)
 rcases iteSome h with ⟨hc21, h⟩ | ⟨hc21, h⟩
 ·refine sCondT S rfl hc21 ?_
  refine sSeq (fun K22 hK22 => ?_)
  refine sRegion ?_
  refine sBuild [] [iv 0, iv 0, .slice none 0 0] S (wN rfl) rfl rfl rfl rfl (lb rfl) fun a S => ?_
  refine sStore (p := b7) (off := 0) (T := 24) (vs := [iv 0, iv 0, .slice none 0 0]) (v := .agg #[iv 0, iv 0, .slice none 0 0]) 1 [iv 0, iv 0, .slice none 0 0] S (wN rfl) rfl rfl rfl rfl rfl rfl rfl (by simp) rfl fun a w S => ?_
  refine sMa S rfl rfl rfl rfl rfl fun a S => ?_
  refine lT (hK22 _ _ ?_)
  obtain rfl := Option.some.inj h
  have S := S.learn (fRep (rL rB) (.slice none 0 0) ([] : (List Bool))) (rL_nil _ _ _)
  have S := S.learn (fRep r_api_Grid (.agg #[iv 0, iv 0, .slice none 0 0]) (api_Grid.mk 0 0 ([] : (List Bool)))) ⟨_, rfl, S.mem.know (i := 0) (e := fRep (rL rB) (.slice none 0 0) ([] : (List Bool))) rfl⟩
  exact wp_ret (rThen (sRet (.tuple #[.agg #[iv 0, iv 0, .slice none 0 0], iv 2]) S (rsl2 rfl (rvN (c := 4) (t := 24) (T := 24) (p := b7) 0 [iv 0, iv 0, .slice none 0 0] S rfl rfl rfl rfl) (rvT (t := 5) (v := iv 2) S rfl)) ⟨(.agg #[iv 0, iv 0, .slice none 0 0]), rfl, S.mem.sel [] [0] (by decide) rfl rfl⟩))
 refine sCondF S rfl hc21 ?_
 refine wp_skip (leafT (hK17 _ _ ?_))
 refine sSeq (fun K23 hK23 => ?_)
 refine sRegion ?_
 refine sLoadN (p := b6) (off := 0) (T := 24) (vs := [iv p0.W, iv p0.H, .slice ad3 p0.Bits.length cp4]) 2 [iv p0.W, iv p0.H, .slice ad3 p0.Bits.length cp4] S (wN rfl) rfl rfl rfl rfl rfl rfl rfl (lb rfl) fun a S => ?_
 refine sMm S rfl rfl rfl rfl rfl fun a S => ?_
 obtain ⟨r24, hx25, h⟩ := bindSome h
 refine sCall (X := Value) (f := 62) (vs := [.agg #[iv p0.W, iv p0.H, .slice ad3 p0.Bits.length cp4], iv p1]) (val := c_symmetry_applied_val r24) (B' := fun _ => []) (D' := c_symmetry_applied_D r24) [] [eRow r_api_Grid 24 (.slice ad10 [p0].length cp11) [p0], eBox b7 24 [iv 0, iv 0, .slice none 0 0], eBox b6 24 [iv p0.W, iv p0.H, .slice ad3 p0.Bits.length cp4]] [fRep r_api_Grid (.agg #[iv p0.W, iv p0.H, .slice ad3 p0.Bits.length cp4]) p0] [0, 1, 2] [1] S (wN rfl) rfl callee62 rfl (by decide) rfl rfl (fun E1 w1 S1 => c_symmetry_applied E1 w1 p0 (.agg #[iv p0.W, iv p0.H, .slice ad3 p0.Bits.length cp4]) p1 r24 hx25 S1) rfl (lb rfl) fun u26 a w S => ?_
 obtain ⟨u27, rfl, hu28⟩ := S.mem.know (i := 0) (e := fRep r_api_Grid (u26) r24) rfl
 have S := S.learn (fRep (rL rB) u27 r24.Bits) hu28
 obtain ⟨ad29, cp30, _, rfl, _⟩ := hu28
 refine sStore (p := b7) (off := 0) (T := 24) (vs := [iv 0, iv 0, .slice none 0 0]) (v := .agg #[iv r24.W, iv r24.H, .slice ad29 r24.Bits.length cp30]) 1 [iv r24.W, iv r24.H, .slice ad29 r24.Bits.length cp30] S (wN rfl) rfl rfl rfl rfl rfl rfl rfl (by simp) rfl fun a w S => ?_
 refine sMa S rfl rfl rfl rfl rfl fun a S => ?_
 refine lT (hK23 _ _ ?_)
 obtain rfl := Option.some.inj h
 exact wp_ret (sRet (.tuple #[.agg #[iv r24.W, iv r24.H, .slice ad29 r24.Bits.length cp30], iv 0]) S (rsl2 rfl (rvN (c := 4) (t := 24) (T := 24) (p := b7) 0 [iv r24.W, iv r24.H, .slice ad29 r24.Bits.length cp30] S rfl rfl rfl rfl) (rvT (t := 5) (v := iv 0) S rfl)) ⟨(.agg #[iv r24.W, iv r24.H, .slice ad29 r24.Bits.length cp30]), rfl, S.mem.sel [] [1] (by decide) rfl rfl⟩)
end Go.Proofs.Ytffikfajljbmnaa
namespace Go.Proofs.Ytffikfajljbmnaa
open Go.RowKit
noncomputable def F_grid_around (p0 : Int) (p1 : Int) : Option Int :=
 Option.bind (α := Int) (
  Option.bind (remI p0 p1) fun z6 =>
  if decide (z6 < 0) then
   some (w64 (z6 + p1))
  else
   some z6) fun o2 =>
 some o2
set_option maxHeartbeats 4000000 in
set_option maxRecDepth 100000 in
theorem c_grid_around (E : Nat → Prop) (w0 : World) (p0 : Int) (p1 : Int) (r : Int) (h : F_grid_around p0 p1 = some r) (S : St0 E [] w0 w0 [] []) :
 Calls Try.prog 63 #[iv p0, iv p1] w0 (Ret (X := Unit) E [] w0 (fun _ => .int .i64 r) (fun _ => []) (fun _ => [])) := by
 unfold F_grid_around at h
 refine sEnter (args := [iv p0, iv p1]) 14 Try.func63 rfl rfl (by simp) S (fun a S => ?_)
 refine sSeq (fun K1 hK1 => ?_)
 refine sRegion ?_
 refine sMa S rfl rfl rfl rfl rfl fun a S => ?_
 refine lT (hK1 _ _ ?_)
 obtain ⟨t3, h, g4⟩ := bindSome h
 refine sCut (fun a w => ∃ o2, o2 = t3 ∧ St [] E [] w0 14 a w [(0, iv o2)] [] []) ?_ (fun a w hI => ?_)
 rotate_left
 ·obtain ⟨o2, rfl, S⟩ := hI
  have h := g4
  clear g4
  try dsimp only at h
  refine sSeq (fun K10 hK10 => ?_)
  refine sRegion ?_
  refine sMm S rfl rfl rfl rfl rfl fun a S => ?_
  refine sMa S rfl rfl rfl rfl rfl fun a S => ?_
  refine lT (hK10 _ _ ?_)
  obtain rfl := Option.some.inj h
  exact wp_ret (sRet (iv o2) S (rsl1 rfl (rvT (t := 4) (v := iv o2) S rfl)) ⟨(), rfl, S.mem.sel [] [] (by decide) rfl rfl⟩)
 refine sSeq (fun K5 hK5 => ?_)
 refine sRegion ?_
 refine sMm S rfl rfl rfl rfl rfl fun a S => ?_
 refine sMm S rfl rfl rfl rfl rfl fun a S => ?_
 obtain ⟨z6, hx7, h⟩ := bindSome h
 refine sBin _ S (wN rfl) rfl rfl rfl (bRem _ _ _ _ (x := p0) (y := p1) hx7) rfl (lb rfl) fun a S => ?_
 refine sMa S rfl rfl rfl rfl rfl fun a S => ?_
 refine lT (hK5 _ _ ?_)
 refine sSeq (fun K8 hK8 => ?_)
 refine sRegion ?_
 refine sMm S rfl rfl rfl rfl rfl fun a S => ?_
 refine sBin _ S (wN rfl) rfl rfl rfl (bLt _ _ _ _ .i64 z6 0) rfl (lb rfl) fun a S => ?_
 refine lT (hK8 _ _ ?_)
 rcases iteSome h with ⟨hc9, h⟩ | ⟨hc9, h⟩
 rotate_left
 ·refine sCondF S rfl hc9 ?_
  exact wp_skip (leafT (⟨z6, Option.some.inj h, S.fix [] [] (by decide) rfl rfl rfl⟩))
 refine sCondT S rfl hc9 ?_
 refine sRegion ?_
 refine sMm S rfl rfl rfl rfl rfl fun a S => ?_
 refine sMm S rfl rfl rfl rfl rfl fun a S => ?_
 refine sBin _ S (wN rfl) rfl rfl rfl (bAdd _ _ _ _ z6 p1) rfl (lb rfl) fun a S => ?_
 refine sMa S rfl rfl rfl rfl rfl fun a S => ?_
 exact lT (⟨w64 (z6 + p1), Option.some.inj h, S.fix [] [] (by decide) rfl rfl rfl⟩)
end Go.Proofs.Ytffikfajljbmnaa
namespace Go.Proofs.Ytffikfajljbmnaa
open Go.RowKit
def anc_grid_Shift_1_s0_0 : List (List Nat) := [[], [0], [], [], [2, 3], [], [5], [2, 3, 4, 5, 6], [], [8], [2, 3, 4, 5, 6, 7, 8, 9], [], [], [11, 12], [], [14], [2, 3, 4, 5, 6, 7, 11, 12, 13, 14, 15], [2, 3, 4, 5, 6, 7, 8, 9, 10, 11, 12, 13, 14, 15, 16], [0, 1, 2, 3, 4, 5, 6, 7, 8, 9, 10, 11, 12, 13, 14, 15, 16, 17], [0, 1, 2, 3, 4, 5, 6, 7, 8, 9, 10, 11, 12, 13, 14, 15, 16, 17, 18], [0, 1, 2, 3, 4, 5, 6, 7, 8, 9, 10, 11, 12, 13, 14, 15, 16, 17, 18, 19]]
noncomputable def F_grid_Shift_1_s0 (p0 : Int) (p1 : Int) (p2 : api_Grid) (p3 : Int) (p4 : Int) : Option Bool :=
 Option.bind (F_grid_around (w64 (p1 - p3)) p2.H) fun r12 =>
 Option.bind (F_grid_around (w64 (p0 - p4)) p2.W) fun r21 =>
 Option.bind (idxO p2.Bits (w64 ((w64 (r12 * p2.W)) + r21))) fun x23 =>
 some x23
set_option maxHeartbeats 4000000 in
set_option maxRecDepth 100000 in
theorem c_grid_Shift_1_s0 (E : Nat → Prop) (w0 : World) (p0 : Int) (p1 : Int) (p2 : api_Grid) (v2 : Value) (p3 : Int) (v3 : Value) (p4 : Int) (v4 : Value) (r : Bool) (h : F_grid_Shift_1_s0 p0 p1 p2 p3 p4 = some r) (S : St0 E [] w0 w0 [] [fPtr r_api_Grid (v2) p2, fPtr (rI .i64) (v3) p3, fPtr (rI .i64) (v4) p4]) :
 Calls Try.prog 65 #[iv p0, iv p1, v2, v3, v4] w0 (Ret (X := Unit) E [] w0 (fun _ => .bool r) (fun _ => []) (fun _ => [])) := by
 unfold F_grid_Shift_1_s0 at h
 refine sEnter (args := [iv p0, iv p1, v2, v3, v4]) 28 Try.func65 rfl rfl (by simp) S (fun a S => ?_)
 refine sSeq (fun K1 hK1 => ?_)
 refine sRegion ?_
 refine sMa S rfl rfl rfl rfl rfl fun a S => ?_
 refine lT (hK1 _ _ ?_)
 refine sSeq (fun K2 hK2 => ?_)
 obtain ⟨r12, hx13, h⟩ := bindSome h
 obtain ⟨r21, hx22, h⟩ := bindSome h
 obtain ⟨x23, hx24, h⟩ := bindSome h
 obtain ⟨q28, hq29, S⟩ := pFld (P := Try.prog) (r := r_api_Grid) (s2 := (rL rB)) (g := (·.Bits)) (q := v2) (z := p2) 24 2 0 2 S rfl rfl comp_api_Grid_Bits
 obtain ⟨u30, S⟩ := pLoad (r := (rL rB)) (q := q28) (x := p2.Bits) 0 S rfl
 obtain ⟨ad31, cp32, _, rfl, _⟩ := S.mem.know (i := 1) (e := fRep (rL rB) (u30) p2.Bits) rfl
 obtain ⟨u33, S⟩ := pLoad (r := (rI .i64)) (q := v3) (x := p3) 4 S rfl
 obtain rfl : u33 = iv p3 := S.mem.know (i := 1) (e := fRep (rI .i64) (u33) p3) rfl
 obtain ⟨q34, hq35, S⟩ := pFld (P := Try.prog) (r := r_api_Grid) (s2 := (rI .i64)) (g := (·.H)) (q := v2) (z := p2) 24 1 5 1 S rfl rfl comp_api_Grid_H
 obtain ⟨u36, S⟩ := pLoad (r := (rI .i64)) (q := q34) (x := p2.H) 0 S rfl
 obtain rfl : u36 = iv p2.H := S.mem.know (i := 1) (e := fRep (rI .i64) (u36) p2.H) rfl
 obtain ⟨q37, hq38, S⟩ := pFld (P := Try.prog) (r := r_api_Grid) (s2 := (rI .i64)) (g := (·.W)) (q := v2) (z := p2) 24 0 8 0 S rfl rfl comp_api_Grid_W
 obtain ⟨u39, S⟩ := pLoad (r := (rI .i64)) (q := q37) (x := p2.W) 0 S rfl
 obtain rfl : u39 = iv p2.W := S.mem.know (i := 1) (e := fRep (rI .i64) (u39) p2.W) rfl
 obtain ⟨u40, S⟩ := pLoad (r := (rI .i64)) (q := v4) (x := p4) 13 S rfl
 obtain rfl : u40 = iv p4 := S.mem.know (i := 1) (e := fRep (rI .i64) (u40) p4) rfl
 obtain ⟨q41, hq42, S⟩ := pFld (P := Try.prog) (r := r_api_Grid) (s2 := (rI .i64)) (g := (·.W)) (q := v2) (z := p2) 24 0 13 0 S rfl rfl comp_api_Grid_W
 obtain ⟨u43, S⟩ := pLoad (r := (rI .i64)) (q := q41) (x := p2.W) 0 S rfl
 obtain rfl : u43 = iv p2.W := S.mem.know (i := 1) (e := fRep (rI .i64) (u43) p2.W) rfl
 obtain ⟨q44, hq45, S⟩ := pIdx (P := Try.prog) (r := rB) (v := .slice ad31 p2.Bits.length cp32) (xs := p2.Bits) (j := w64 ((w64 (r12 * p2.W)) + r21)) 22 4 14 S Try.underlying22 rfl rfl hx24
 obtain ⟨u46, S⟩ := pLoad (r := rB) (q := q44) (x := x23) 0 S rfl
 obtain rfl : u46 = .bool x23 := S.mem.know (i := 1) (e := fRep rB (u46) x23) rfl
 refine sDraw (nf := []) (W := [(0, 8, q28), (1, 9, .slice ad31 p2.Bits.length cp32), (2, 10, iv p1), (3, 11, iv p3), (4, 12, iv (w64 (p1 - p3))), (5, 13, q34), (6, 14, iv p2.H), (7, 15, iv r12), (8, 16, q37), (9, 17, iv p2.W), (10, 18, iv (w64 (r12 * p2.W))), (11, 19, iv p0), (12, 20, iv p4), (13, 21, iv (w64 (p0 - p4))), (14, 22, q41), (15, 23, iv p2.W), (16, 24, iv r21), (17, 25, iv (w64 ((w64 (r12 * p2.W)) + r21))), (18, 26, q44), (19, 27, .bool x23), (20, 7, .bool x23)]) rfl S ?_
 refine node_by (A := anc_grid_Shift_1_s0_0) 21 (by kernel_rfl) (by kernel_rfl) (by kernel_rfl) (by kernel_rfl) (by kernel_rfl) [0, 1, 2, 3, 4, 5, 6, 7, 8, 9, 10, 11, 12, 13, 14, 15, 16, 17, 18, 19, 20] (by kernel_rfl) (by decide) (by decide) (fF ?_ (fF ?_ (fF ?_ (fF ?_ (fF ?_ (fF ?_ (fF ?_ (fF ?_ (fF ?_ (fF ?_ (fF ?_ (fF ?_ (fF ?_ (fF ?_ (fF ?_ (fF ?_ (fF ?_ (fF ?_ (fF ?_ (fF ?_ (fF ?_ (trivial)))))))))))))))))))))) [(7, .bool x23)] (fin_of [some 20] rfl (by kernel_rfl) (by kernel_rfl)) (fun _ a w S => ?_)
 ·refine fJ [(2, _)] 0 [none] fun G a w S => ?_
  exact sFldV (q := v2) S (wN rfl) rfl rfl hq29 rfl (lb rfl) fun a S => leafL ⟨rfl, S⟩
 ·refine fJ [(8, _)] 1 [some 0] fun G a w S => ?_
  exact sLoadV1 (vq := q28) 16 (.slice ad31 p2.Bits.length cp32) S (wN rfl) rfl rfl rfl rfl rfl (lb rfl) fun a S => leafL ⟨rfl, S⟩
 ·exact fM 2 none rfl rfl rfl rfl (.inl rfl) rfl rfl rfl
 ·refine fJ [(3, _)] 3 [none] fun G a w S => ?_
  exact sLoadV1 (vq := v3) 14 (iv p3) S (wN rfl) rfl rfl rfl rfl rfl (lb rfl) fun a S => leafL ⟨rfl, S⟩
 ·refine fJ [(10, _), (11, _)] 4 [some 2, some 3] fun G a w S => ?_
  exact sBin _ S (wN rfl) rfl rfl rfl (bSub _ _ _ _ p1 p3) rfl (lb rfl) fun a S => leafL ⟨rfl, S⟩
 ·refine fJ [(2, _)] 5 [none] fun G a w S => ?_
  exact sFldV (q := v2) S (wN rfl) rfl rfl hq35 rfl (lb rfl) fun a S => leafL ⟨rfl, S⟩
 ·refine fJ [(13, _)] 6 [some 5] fun G a w S => ?_
  exact sLoadV1 (vq := q34) 11 (iv p2.H) S (wN rfl) rfl rfl rfl rfl rfl (lb rfl) fun a S => leafL ⟨rfl, S⟩
 ·refine fJ [(12, _), (14, _)] 7 [some 4, some 6] fun G a w S => ?_
  have S1 := S.mem
  refine sCallQ (X := Unit) (f := 63) (vs := [iv (w64 (p1 - p3)), iv p2.H]) (val := fun _ => iv r12) S (wN rfl) rfl callee63 rfl (S1.quiet [] rfl) (fun E1 w1 S1 => c_grid_around E1 w1 (w64 (p1 - p3)) p2.H r12 hx13 S1) rfl (lb rfl) fun _ a w S => ?_
  exact leafL ⟨rfl, S⟩
 ·refine fJ [(2, _)] 8 [none] fun G a w S => ?_
  exact sFldV (q := v2) S (wN rfl) rfl rfl hq38 rfl (lb rfl) fun a S => leafL ⟨rfl, S⟩
 ·refine fJ [(16, _)] 9 [some 8] fun G a w S => ?_
  exact sLoadV1 (vq := q37) 8 (iv p2.W) S (wN rfl) rfl rfl rfl rfl rfl (lb rfl) fun a S => leafL ⟨rfl, S⟩
 ·refine fJ [(15, _), (17, _)] 10 [some 7, some 9] fun G a w S => ?_
  exact sBin _ S (wN rfl) rfl rfl rfl (bMul _ _ _ _ r12 p2.W) rfl (lb rfl) fun a S => leafL ⟨rfl, S⟩
 ·exact fM 11 none rfl rfl rfl rfl (.inl rfl) rfl rfl rfl
 ·refine fJ [(4, _)] 12 [none] fun G a w S => ?_
  exact sLoadV1 (vq := v4) 6 (iv p4) S (wN rfl) rfl rfl rfl rfl rfl (lb rfl) fun a S => leafL ⟨rfl, S⟩
 ·refine fJ [(19, _), (20, _)] 13 [some 11, some 12] fun G a w S => ?_
  exact sBin _ S (wN rfl) rfl rfl rfl (bSub _ _ _ _ p0 p4) rfl (lb rfl) fun a S => leafL ⟨rfl, S⟩
 ·refine fJ [(2, _)] 14 [none] fun G a w S => ?_
  exact sFldV (q := v2) S (wN rfl) rfl rfl hq42 rfl (lb rfl) fun a S => leafL ⟨rfl, S⟩
 ·refine fJ [(22, _)] 15 [some 14] fun G a w S => ?_
  exact sLoadV1 (vq := q41) 3 (iv p2.W) S (wN rfl) rfl rfl rfl rfl rfl (lb rfl) fun a S => leafL ⟨rfl, S⟩
 ·refine fJ [(21, _), (23, _)] 16 [some 13, some 15] fun G a w S => ?_
  have S1 := S.mem
  refine sCallQ (X := Unit) (f := 63) (vs := [iv (w64 (p0 - p4)), iv p2.W]) (val := fun _ => iv r21) S (wN rfl) rfl callee63 rfl (S1.quiet [] rfl) (fun E1 w1 S1 => c_grid_around E1 w1 (w64 (p0 - p4)) p2.W r21 hx22 S1) rfl (lb rfl) fun _ a w S => ?_
  exact leafL ⟨rfl, S⟩
 ·refine fJ [(18, _), (24, _)] 17 [some 10, some 16] fun G a w S => ?_
  exact sBin _ S (wN rfl) rfl rfl rfl (bAdd _ _ _ _ (w64 (r12 * p2.W)) r21) rfl (lb rfl) fun a S => leafL ⟨rfl, S⟩
 ·refine fJ [(9, _), (25, _)] 18 [some 1, some 17] fun G a w S => ?_
  exact sIdxV S (wN rfl) rfl rfl rfl hq45 rfl (lb rfl) fun a S => leafL ⟨rfl, S⟩
 ·refine fJ [(26, _)] 19 [some 18] fun G a w S => ?_
  exact sLoadV1 (vq := q44) 0 (.bool x23) S (wN rfl) rfl rfl rfl rfl rfl (lb rfl) fun a S => leafL ⟨rfl, S⟩
 ·exact fM 20 (some 19) rfl rfl rfl rfl (.inr rfl) rfl rfl rfl
 refine leafT (hK2 _ _ ?_)
 obtain rfl := Option.some.inj h
 exact wp_ret (sRet (.bool x23) S (rsl1 rfl (rvT (t := 7) (v := .bool x23) S rfl)) ⟨(), rfl, S.mem.sel [] [] (by decide) rfl rfl⟩)
end Go.Proofs.Ytffikfajljbmnaa
namespace Go.Proofs.Ytffikfajljbmnaa
open Go.RowKit
def anc_grid_build_s0_0 : List (List Nat) := [[], [0], [], [], [], [2, 3, 4], [2, 3, 4, 5], [0, 1, 2, 3, 4, 5, 6], [0, 1, 2, 3, 4, 5, 6, 7], [0, 1, 2, 3, 4, 5, 6, 7, 8]]
noncomputable def grid_build_s0_l1 (p0 : Int) (s15 : Int) (p2 : api_Grid) (p3 : Int) (p4 : Int) : (Int × List Bool) → Option ((Int × List Bool) ⊕ List Bool) := fun s0 => match s0 with
 | (s35, s36) =>
  if decide (s35 < p0) then
   Option.bind (F_grid_Shift_1_s0 s35 s15 p2 p3 p4) fun r50 =>
   Option.bind (appO s36 [r50]) fun l54 =>
   some (.inl (w64 (s35 + 1), l54))
  else
   some (.inr s36)
noncomputable def grid_build_s0_l2 (p1 : Int) (p0 : Int) (p2 : api_Grid) (p3 : Int) (p4 : Int) : (Int × List Bool) → Option ((Int × List Bool) ⊕ List Bool) := fun s0 => match s0 with
 | (s15, s16) =>
  if decide (s15 < p1) then
   Option.bind (α := List Bool) (
    Option.bind (whileO (grid_build_s0_l1 p0 s15 p2 p3 p4) (0, s16)) fun e42 =>
     some e42) fun o28 =>
   some (.inl (w64 (s15 + 1), o28))
  else
   some (.inr s16)
noncomputable def F_grid_build_s0 (p0 : Int) (p1 : Int) (p2 : api_Grid) (p3 : Int) (p4 : Int) : Option api_Grid :=
 Option.bind (capO (w64 (p0 * p1))) fun z6 =>
 Option.bind (α := List Bool) (
  Option.bind (whileO (grid_build_s0_l2 p1 p0 p2 p3 p4) (0, ([] : List Bool))) fun e22 =>
   some e22) fun o9 =>
 some (api_Grid.mk p0 p1 o9)
def c_grid_build_s0_val (r : api_Grid) (x : Value) : Value := x
def c_grid_build_s0_D (r : api_Grid) (x : Value) : List Fact := [fRep r_api_Grid x r]
set_option maxHeartbeats 4000000 in
set_option maxRecDepth 100000 in
theorem c_grid_build_s0 (E : Nat → Prop) (w0 : World) (p0 : Int) (p1 : Int) (p2 : api_Grid) (v2 : Value) (p3 : Int) (v3 : Value) (p4 : Int) (v4 : Value) (r : api_Grid) (h : F_grid_build_s0 p0 p1 p2 p3 p4 = some r) (S : St0 E [] w0 w0 [] [fPtr r_api_Grid (v2) p2, fPtr (rI .i64) (v3) p3, fPtr (rI .i64) (v4) p4]) :
 Calls Try.prog 64 #[iv p0, iv p1, .func (.func 65) #[] #[v2, v3, v4]] w0 (Ret (X := Value) E [] w0 (c_grid_build_s0_val r) (fun _ => []) (c_grid_build_s0_D r)) := by
 unfold F_grid_build_s0 at h
 refine sEnter (args := [iv p0, iv p1, .func (.func 65) #[] #[v2, v3, v4]]) 37 Try.func64 rfl rfl (by simp) S (fun a S => ?_)
 refine sSeq (fun K1 hK1 => ?_)
 refine sRegion ?_
 refine sAlloc (.agg #[iv 0, iv 0, .slice none 0 0]) S (wN rfl) rfl rfl [iv 0, iv 0, .slice none 0 0] rfl rfl (lb rfl) fun a b2 w S => ?_
 refine lT (hK1 _ _ ?_)
 refine sSeq (fun K3 hK3 => ?_)
 refine sRegion ?_
 refine sMm S rfl rfl rfl rfl rfl fun a S => ?_
 refine sMm S rfl rfl rfl rfl rfl fun a S => ?_
 refine sMm S rfl rfl rfl rfl rfl fun a S => ?_
 refine sMm S rfl rfl rfl rfl rfl fun a S => ?_
 refine sBin _ S (wN rfl) rfl rfl rfl (bMul _ _ _ _ p0 p1) rfl (lb rfl) fun a S => ?_
 obtain ⟨z6, hx7, h⟩ := bindSome h
 refine sMake0 rB (m := w64 (p0 * p1)) (u := z6) (.bool false) 1 S (wN rfl) rfl Try.underlying22 rfl (by decide) rfl rfl hx7 rfl (lb rfl) fun a w ad4 cp5 S => ?_
 refine sBuild [(0, iv p0), (1, iv p1), (2, .slice ad4 ([] : List Bool).length cp5)] [iv p0, iv p1, .slice ad4 ([] : List Bool).length cp5] S (wN rfl) rfl rfl rfl rfl (lb rfl) fun a S => ?_
 refine sAlloc (.agg #[iv 0, iv 0, .slice none 0 0]) S (wN rfl) rfl rfl [iv 0, iv 0, .slice none 0 0] rfl rfl (lb rfl) fun a b8 w S => ?_
 refine sStore (p := b8) (off := 0) (T := 24) (vs := [iv 0, iv 0, .slice none 0 0]) (v := .agg #[iv p0, iv p1, .slice ad4 ([] : List Bool).length cp5]) 0 [iv p0, iv p1, .slice ad4 ([] : List Bool).length cp5] S (wN rfl) rfl rfl rfl rfl rfl rfl rfl (by simp) rfl fun a w S => ?_
 refine lT (hK3 _ _ ?_)
 obtain ⟨t12, h, g13⟩ := bindSome h
 refine sCut (fun a w => ∃ o9, o9 = t12 ∧ ∃ ad10, ∃ cp11, St [] E [] w0 37 a w [(6, .pointer (some ⟨b2, 0, none⟩)), (7, .pointer (some ⟨b8, 0, none⟩))] [eBox b2 24 [iv 0, iv 0, .slice none 0 0], eBox b8 24 [iv p0, iv p1, .slice ad10 o9.length cp11], eRow rB 4 (.slice ad10 o9.length cp11) o9] []) ?_ (fun a w hI => ?_)
 rotate_left
 ·obtain ⟨o9, rfl, ad10, cp11, S⟩ := hI
  have h := g13
  clear g13
  try dsimp only at h
  refine sSeq (fun K62 hK62 => ?_)
  refine sRegion ?_
  refine sLoadN (p := b8) (off := 0) (T := 24) (vs := [iv p0, iv p1, .slice ad10 o9.length cp11]) 1 [iv p0, iv p1, .slice ad10 o9.length cp11] S (wN rfl) rfl rfl rfl rfl rfl rfl rfl (lb rfl) fun a S => ?_
  refine sStore (p := b2) (off := 0) (T := 24) (vs := [iv 0, iv 0, .slice none 0 0]) (v := .agg #[iv p0, iv p1, .slice ad10 o9.length cp11]) 0 [iv p0, iv p1, .slice ad10 o9.length cp11] S (wN rfl) rfl rfl rfl rfl rfl rfl rfl (by simp) rfl fun a w S => ?_
  refine lT (hK62 _ _ ?_)
  obtain rfl := Option.some.inj h
  have S := S.shutR (r := rB) (T := 4) (v := .slice ad10 o9.length cp11) (xs := o9) 2 rfl
  have S := S.learn (fRep r_api_Grid (.agg #[iv p0, iv p1, .slice ad10 o9.length cp11]) (api_Grid.mk p0 p1 o9)) ⟨_, rfl, S.mem.know (i := 0) (e := fRep (rL rB) (.slice ad10 o9.length cp11) o9) rfl⟩
  exact wp_ret (sRet (.agg #[iv p0, iv p1, .slice ad10 o9.length cp11]) S (rsl1 rfl (rvN (c := 6) (t := 24) (T := 24) (p := b2) 0 [iv p0, iv p1, .slice ad10 o9.length cp11] S rfl rfl rfl rfl)) ⟨(.agg #[iv p0, iv p1, .slice ad10 o9.length cp11]), rfl, S.mem.sel [] [0] (by decide) rfl rfl⟩)
 refine sSeq (fun K14 hK14 => ?_)
 refine sRegion ?_
 refine sMm S rfl rfl rfl rfl rfl fun a S => ?_
 refine sMm S rfl rfl rfl rfl rfl fun a S => ?_
 refine lT (hK14 _ _ ?_)
 refine wp_block ?_
 obtain ⟨t21, hl, g20⟩ := bindSome h
 refine sLoop hl (fun s0 a w => match s0 with | (s15, s16) => ∃ ad17, ∃ cp18, St [] E [] w0 37 a w [(0, iv p0), (2, .func (.func 65) #[] #[v2, v3, v4]), (6, .pointer (some ⟨b2, 0, none⟩)), (7, .pointer (some ⟨b8, 0, none⟩)), (17, iv p1), (18, iv s15)] [eBox b2 24 [iv 0, iv 0, .slice none 0 0], eBox b8 24 [iv p0, iv p1, .slice ad17 s16.length cp18], eRow rB 4 (.slice ad17 s16.length cp18) s16] [fPtr r_api_Grid (v2) p2, fPtr (rI .i64) (v3) p3, fPtr (rI .i64) (v4) p4]) ⟨ad4, cp5, S.fix [2, 0, 1] [0, 1, 2] (by decide) rfl rfl rfl⟩ ?_
 clear hl h
 intro s0 a w c0 hI h hu19
 obtain ⟨s15, s16⟩ := s0
 unfold grid_build_s0_l2 at h
 dsimp only at h hI
 obtain ⟨ad17, cp18, S⟩ := hI
 refine sSeq (fun K25 hK25 => ?_)
 refine sRegion ?_
 refine sBin _ S (wN rfl) rfl rfl rfl (bLt _ _ _ _ .i64 s15 p1) rfl (lb rfl) fun a S => ?_
 refine lT (hK25 _ _ ?_)
 refine sSeq (fun K26 hK26 => ?_)
 rcases iteSome h with ⟨hc27, h⟩ | ⟨hc27, h⟩
 rotate_left
 ·refine sCondF S rfl hc27 ?_
  obtain rfl := Option.some.inj h
  obtain rfl := hu19 _ rfl
  have h := g20
  clear g20
  try dsimp only at h
  exact wp_exit (xThen (xThen (xHit (leafT (⟨s16, Option.some.inj h, ad17, cp18, S.fix [0, 1, 2] [] (by decide) rfl rfl rfl⟩)))))
 refine sCondT S rfl hc27 ?_
 refine wp_skip (leafT (hK26 _ _ ?_))
 obtain ⟨t31, h, g32⟩ := bindSome h
 refine sCut (fun a w => ∃ o28, o28 = t31 ∧ ∃ ad29, ∃ cp30, St [] E [] w0 37 a w [(0, iv p0), (2, .func (.func 65) #[] #[v2, v3, v4]), (6, .pointer (some ⟨b2, 0, none⟩)), (7, .pointer (some ⟨b8, 0, none⟩)), (17, iv p1), (18, iv s15)] [eBox b2 24 [iv 0, iv 0, .slice none 0 0], eBox b8 24 [iv p0, iv p1, .slice ad29 o28.length cp30], eRow rB 4 (.slice ad29 o28.length cp30) o28] [fPtr r_api_Grid (v2) p2, fPtr (rI .i64) (v3) p3, fPtr (rI .i64) (v4) p4]) ?_ (fun a w hI => ?_)
 rotate_left
 ·obtain ⟨o28, rfl, ad29, cp30, S⟩ := hI
  have h := g32
  clear g32
  try dsimp only at h
  refine sRegion ?_
  refine sBin _ S (wN rfl) rfl rfl rfl (bAdd _ _ _ _ s15 1) rfl (lb rfl) fun a S => ?_
  refine sMm S rfl rfl rfl rfl rfl fun a S => ?_
  exact lT (⟨(w64 (s15 + 1), o28), (Option.some.inj h).symm, ⟨ad29, cp30, S.fix [0, 1, 2] [0, 1, 2] (by decide) rfl rfl rfl⟩⟩)
 refine wp_block ?_
 refine sSeq (fun K33 hK33 => ?_)
 refine sRegion ?_
 refine sMm S rfl rfl rfl rfl rfl fun a S => ?_
 refine sMa S rfl rfl rfl rfl rfl fun a S => ?_
 refine lT (hK33 _ _ ?_)
 refine sSeq (fun K34 hK34 => ?_)
 refine sRegion ?_
 refine sMm S rfl rfl rfl rfl rfl fun a S => ?_
 refine sMm S rfl rfl rfl rfl rfl fun a S => ?_
 refine lT (hK34 _ _ ?_)
 refine wp_block ?_
 obtain ⟨t41, hl, g40⟩ := bindSome h
 refine sLoop hl (fun s0 a w => match s0 with | (s35, s36) => ∃ ad37, ∃ cp38, St [] E [] w0 37 a w [(0, iv p0), (2, .func (.func 65) #[] #[v2, v3, v4]), (6, .pointer (some ⟨b2, 0, none⟩)), (7, .pointer (some ⟨b8, 0, none⟩)), (8, iv s15), (17, iv p1), (18, iv s15), (21, iv p0), (22, iv s35)] [eBox b2 24 [iv 0, iv 0, .slice none 0 0], eBox b8 24 [iv p0, iv p1, .slice ad37 s36.length cp38], eRow rB 4 (.slice ad37 s36.length cp38) s36] [fPtr r_api_Grid (v2) p2, fPtr (rI .i64) (v3) p3, fPtr (rI .i64) (v4) p4]) ⟨ad17, cp18, S.fix [0, 1, 2] [0, 1, 2] (by decide) rfl rfl rfl⟩ ?_
 clear hl h
 intro s0 a w c0 hI h hu39
 obtain ⟨s35, s36⟩ := s0
 unfold grid_build_s0_l1 at h
 dsimp only at h hI
 obtain ⟨ad37, cp38, S⟩ := hI
 refine sSeq (fun K45 hK45 => ?_)
 refine sRegion ?_
 refine sBin _ S (wN rfl) rfl rfl rfl (bLt _ _ _ _ .i64 s35 p0) rfl (lb rfl) fun a S => ?_
 refine lT (hK45 _ _ ?_)
 refine sSeq (fun K46 hK46 => ?_)
 rcases iteSome h with ⟨hc47, h⟩ | ⟨hc47, h⟩
 rotate_left
 ·refine sCondF S rfl hc47 ?_
  obtain rfl := Option.some.inj h
  obtain rfl := hu39 _ rfl
  have h := g40
  clear g40
  try dsimp only at h
  exact wp_exit (xThen (xThen (xHit (leafB (leafT (⟨s36, Option.some.inj h, ad37, cp38, S.fix [0, 1, 2] [0, 1, 2] (by decide) rfl rfl rfl⟩))))))
 refine sCondT S rfl hc47 ?_
 refine wp_skip (leafT (hK46 _ _ ?_))
 refine sSeq (fun K48 hK48 => ?_)
 refine wp_block ?_
 refine sSeq (fun K49 hK49 => ?_)
 refine sRegion ?_
 refine sMm S rfl rfl rfl rfl rfl fun a S => ?_
 refine sMa S rfl rfl rfl rfl rfl fun a S => ?_
 refine lT (hK49 _ _ ?_)
 obtain ⟨r50, hx51, h⟩ := bindSome h
 obtain ⟨l54, hx55, h⟩ := bindSome h
 refine sDraw (nf := [6, 7, 9]) (W := [(0, 25, .pointer (some ⟨b8, 2, none⟩)), (1, 26, .slice ad37 s36.length cp38), (2, 27, .func (.func 65) #[] #[v2, v3, v4]), (3, 28, iv s35), (4, 29, iv s15), (5, 30, .bool r50)]) rfl S ?_
 refine node_by (A := anc_grid_build_s0_0) 10 (by kernel_rfl) (by kernel_rfl) (by kernel_rfl) (by kernel_rfl) (by kernel_rfl) [0, 1, 2, 3, 4, 5] (by kernel_rfl) (by decide) (by decide) (fF ?_ (fF ?_ (fF ?_ (fF ?_ (fF ?_ (fF ?_ (fN ?_ (aB 7 2 6 (by decide) (fE 6 (aB 9 0 6 (by decide) (trivial))))))))))) [] (fun q hq => by cases hq) (fun hY => absurd (hY 6 (by decide)) (by decide))
 ·refine fJ [(7, _)] 0 [none] fun G a w S => ?_
  exact sField (b := b8) (off := 0) 2 2 S (wN rfl) rfl rfl rfl rfl rfl (lb rfl) fun a S => leafL ⟨rfl, S⟩
 ·refine fJ [(25, _)] 1 [some 0] fun G a w S => ?_
  exact sLoad1 1 (.slice ad37 s36.length cp38) S (wN rfl) rfl rfl rfl rfl rfl rfl (lb rfl) fun a S => leafL ⟨rfl, S⟩
 ·exact fM 2 none rfl rfl rfl rfl (.inl rfl) rfl rfl rfl
 ·exact fM 3 none rfl rfl rfl rfl (.inl rfl) rfl rfl rfl
 ·exact fM 4 none rfl rfl rfl rfl (.inl rfl) rfl rfl rfl
 ·refine fJ [(27, _), (28, _), (29, _)] 5 [some 2, some 3, some 4] fun G a w S => ?_
  have S1 := S.mem
  refine sCallVQ (X := Unit) (g := 65) (vs := [iv s35, iv s15]) (caps := [v2, v3, v4]) (val := fun _ => .bool r50) S (wN rfl) rfl rfl callee65 rfl (S1.quiet [0, 1, 2] rfl) (fun E1 w1 S1 => c_grid_Shift_1_s0 E1 w1 s35 s15 p2 v2 p3 v3 p4 v4 r50 hx51 S1) rfl (lb rfl) fun _ a w S => ?_
  exact leafL ⟨rfl, S⟩
 refine ⟨_, [(30, .bool r50)], rfl, (srcs_of [some 5] rfl rfl rfl), fun G a w S => ?_⟩
 refine sLit (r := rB) (T := 4) (xs := [r50]) [(0, .bool r50)] 1 [.bool r50] [.bool r50] (.bool false) 1 S (wN rfl) rfl rfl Try.underlying22 rfl (by decide) (by decide) (by kernel_rfl) rfl (fun E1 w1 hE => All.cons rfl (All.nil _ _ _)) rfl rfl (lb rfl) fun a w ad58 cp59 S => ?_
 refine leafL ⟨rfl, _, _, .inl ⟨31, (.slice ad58 [r50].length cp59), [], rfl, S, hz_of rfl, ?_⟩⟩
 refine node_by (A := anc_grid_build_s0_0) 10 (by kernel_rfl) (by kernel_rfl) (by kernel_rfl) (by kernel_rfl) (by kernel_rfl) [6, 0, 1, 2, 3, 4, 5] (by kernel_rfl) (by decide) (by decide) (fF ?_ (fF ?_ (fD 6 (fD 6 (fD 6 (fD 6 (fY (fN ?_ (fE 7 (aB 9 0 7 (by decide) (trivial))))))))))) [] (fun q hq => by cases hq) (fun hY => absurd (hY 7 (by decide)) (by decide))
 ·refine fJ [(7, _)] 1 [none] fun G a w S => ?_
  exact sField (b := b8) (off := 0) 2 2 S (wN rfl) rfl rfl rfl rfl rfl (lb rfl) fun a S => leafL ⟨rfl, S⟩
 ·refine fJ [(25, _)] 2 [some 1] fun G a w S => ?_
  exact sLoad1 2 (.slice ad37 s36.length cp38) S (wN rfl) rfl rfl rfl rfl rfl rfl (lb rfl) fun a S => leafL ⟨rfl, S⟩
 refine ⟨_, [(26, .slice ad37 s36.length cp38), (31, .slice ad58 [r50].length cp59)], rfl, (srcs_of [some 2, some 0] rfl rfl rfl), fun G a w S => ?_⟩
 refine sApp (r := rB) (T := 4) (xs := s36) (ys := [r50]) (v := .slice ad37 s36.length cp38) (u := .slice ad58 [r50].length cp59) 3 (.bool false) 1 S (wN rfl) rfl Try.underlying22 rfl rfl (by decide) rfl rfl rfl (src_R (T := 4) 0 S.mem rfl) hx55 rfl (lb rfl) fun a w ad60 cp61 S => ?_
 refine leafL ⟨rfl, _, _, .inl ⟨32, (.slice ad60 l54.length cp61), [(8, 33, .pointer (some ⟨b8, 2, none⟩))], rfl, S, hz_of rfl, ?_⟩⟩
 refine node_by (A := anc_grid_build_s0_0) 10 (by kernel_rfl) (by kernel_rfl) (by kernel_rfl) (by kernel_rfl) (by kernel_rfl) [8, 7, 6, 0, 1, 2, 3, 4, 5] (by kernel_rfl) (by decide) (by decide) (fD 7 (fD 7 (fD 7 (fD 7 (fD 7 (fD 7 (fY (fY (fF ?_ (fN ?_ (trivial))))))))))) [] (fun q hq => by cases hq) (fun hY => absurd (hY 9 (by decide)) (by decide))
 ·refine fJ [(7, _)] 0 [none] fun G a w S => ?_
  exact sField (b := b8) (off := 0) 2 2 S (wN rfl) rfl rfl rfl rfl rfl (lb rfl) fun a S => leafL ⟨rfl, S⟩
 refine ⟨_, [(32, .slice ad60 l54.length cp61), (33, .pointer (some ⟨b8, 2, none⟩))], rfl, (srcs_of [some 1, some 0] rfl rfl rfl), fun G a w S => ?_⟩
 refine sStore (p := b8) (off := 2) (T := 24) (vs := [iv p0, iv p1, .slice ad37 s36.length cp38]) (v := .slice ad60 l54.length cp61) 3 [.slice ad60 l54.length cp61] S (wN rfl) rfl rfl rfl rfl rfl rfl rfl (by simp) rfl fun a w S => ?_
 refine leafL ⟨rfl, _, _, .inr ⟨[], rfl, S, hz_of rfl, ?_⟩⟩
 refine node_by (A := anc_grid_build_s0_0) 10 (by kernel_rfl) (by kernel_rfl) (by kernel_rfl) (by kernel_rfl) (by kernel_rfl) [8, 7, 6, 0, 1, 2, 3, 4, 5] (by kernel_rfl) (by decide) (by decide) (fD 9 (fD 9 (fD 9 (fD 9 (fD 9 (fD 9 (fY (fY (fD 9 (fY (trivial))))))))))) [(0, iv p0), (2, .func (.func 65) #[] #[v2, v3, v4]), (6, .pointer (some ⟨b2, 0, none⟩)), (7, .pointer (some ⟨b8, 0, none⟩)), (8, iv s15), (17, iv p1), (18, iv s15), (21, iv p0), (22, iv s35)] (fin_of [none, none, none, none, none, none, none, none, none] rfl (by kernel_rfl) (by kernel_rfl)) (fun _ a w S => ?_)
 refine leafB (leafT (hK48 _ _ ?_))
 refine sRegion ?_
 refine sBin _ S (wN rfl) rfl rfl rfl (bAdd _ _ _ _ s35 1) rfl (lb rfl) fun a S => ?_
 refine sMm S rfl rfl rfl rfl rfl fun a S => ?_
 exact lT (⟨(w64 (s35 + 1), l54), (Option.some.inj h).symm, ⟨ad60, cp61, S.fix [3, 0, 1] [0, 1, 2] (by decide) rfl rfl rfl⟩⟩)
end Go.Proofs.Ytffikfajljbmnaa
namespace Go.Proofs.Ytffikfajljbmnaa
open Go.RowKit
def anc_grid_Shift_0 : List (List Nat) := [[], [], [1], [0, 1, 2], [], [], [5], [0, 1, 2, 3, 4, 5, 6], [0, 1, 2, 3, 4, 5, 6, 7], [0, 1, 2, 3, 4, 5, 6, 7, 8]]
noncomputable def F_grid_Shift (p0 : api_Grid) (p1 : Int) (p2 : Int) : Option (api_Grid × Int) :=
 Option.bind (F_grid_Check p0) fun r12 =>
 if r12 != 0 then
  some ((api_Grid.mk 0 0 ([] : (List Bool))), r12)
 else
  Option.bind (F_grid_around p1 p0.W) fun r18 =>
  Option.bind (F_grid_around p2 p0.H) fun r20 =>
  Option.bind (F_grid_build_s0 p0.W p0.H p0 r20 r18) fun r23 =>
  some (r23, 0)
def c_grid_Shift_val (r : (api_Grid × Int)) (x : Value) : Value := .tuple #[x, .int .i64 r.2]
def c_grid_Shift_D (r : (api_Grid × Int)) (x : Value) : List Fact := [fRep r_api_Grid x r.1]
set_option maxHeartbeats 4000000 in
set_option maxRecDepth 100000 in
theorem c_grid_Shift (E : Nat → Prop) (w0 : World) (p0 : api_Grid) (v0 : Value) (p1 : Int) (p2 : Int) (r : (api_Grid × Int)) (h : F_grid_Shift p0 p1 p2 = some r) (S : St0 E [] w0 w0 [] [fRep r_api_Grid (v0) p0]) :
 Calls Try.prog 34 #[v0, iv p1, iv p2] w0 (Ret (X := Value) E [] w0 (c_grid_Shift_val r) (fun _ => []) (c_grid_Shift_D r)) := by
 unfold F_grid_Shift at h
 obtain ⟨u1, rfl, hu2⟩ := S.know (i := 0) (e := fRep r_api_Grid (v0) p0) rfl
 have S := S.learn (fRep (rL rB) u1 p0.Bits) hu2
 obtain ⟨ad3, cp4, _, rfl, _⟩ := hu2
 refine sEnter (args := [.agg #[iv p0.W, iv p0.H, .slice ad3 p0.Bits.length cp4], iv p1, iv p2]) 29 Try.func34 rfl rfl (by simp) S (fun a S => ?_)
 refine sSeq (fun K5 hK5 => ?_)
 refine sRegion ?_
 refine sBox (v := .agg #[iv p0.W, iv p0.H, .slice ad3 p0.Bits.length cp4]) S (wN rfl) rfl rfl [iv p0.W, iv p0.H, .slice ad3 p0.Bits.length cp4] rfl rfl (lb rfl) fun a b6 w S => ?_
 refine sBox (v := iv p1) S (wN rfl) rfl rfl [iv p1] rfl rfl (lb rfl) fun a b7 w S => ?_
 refine sBox (v := iv p2) S (wN rfl) rfl rfl [iv p2] rfl rfl (lb rfl) fun a b8 w S => ?_
 refine sAlloc (.agg #[iv 0, iv 0, .slice none 0 0]) S (wN rfl) rfl rfl [iv 0, iv 0, .slice none 0 0] rfl rfl (lb rfl) fun a b9 w S => ?_
 refine sMa S rfl rfl rfl rfl rfl fun a S => ?_
 refine lT (hK5 _ _ ?_)
 refine sSeq (fun K10 hK10 => ?_)
 refine sSeq (fun K11 hK11 => ?_)
 refine sRegion ?_
 refine sLoadN (p := b6) (off := 0) (T := 24) (vs := [iv p0.W, iv p0.H, .slice ad3 p0.Bits.length cp4]) 3 [iv p0.W, iv p0.H, .slice ad3 p0.Bits.length cp4] S (wN rfl) rfl rfl rfl rfl rfl rfl rfl (lb rfl) fun a S => ?_
 obtain ⟨r12, hx13, h⟩ := bindSome h
 have S1 := S.mem
 refine sCallQ (X := Unit) (f := 45) (vs := [.agg #[iv p0.W, iv p0.H, .slice ad3 p0.Bits.length cp4]]) (val := fun _ => iv r12) S (wN rfl) rfl callee45 rfl (S1.quiet [1] rfl) (fun E1 w1 S1 => c_grid_Check E1 w1 p0 (.agg #[iv p0.W, iv p0.H, .slice ad3 p0.Bits.length cp4]) r12 hx13 S1) rfl (lb rfl) fun _ a w S => ?_
 refine sMa S rfl rfl rfl rfl rfl fun a S => ?_
 refine lT (hK11 _ _ ?_)
 refine sSeq (fun K14 hK14 => ?_)
 refine sRegion ?_
 refine sMm S rfl rfl rfl rfl rfl fun a S => ?_
 refine sBin _ S (wN rfl) rfl rfl rfl (bNe _ _ _ _ .i64 r12 0) rfl (lb rfl) fun a S => ?_
 refine lT (hK14 _ _ ?_)
 rcases iteSome h with ⟨hc15, h⟩ | ⟨hc15, h⟩
 ·refine sCondT S rfl hc15 ?_
  refine sSeq (fun K16 hK16 => ?_)
  refine sRegion ?_
  refine sBuild [] [iv 0, iv 0, .slice none 0 0] S (wN rfl) rfl rfl rfl rfl (lb rfl) fun a S => ?_
  refine sMm S rfl rfl rfl rfl rfl fun a S => ?_
  refine sStore (p := b9) (off := 0) (T := 24) (vs := [iv 0, iv 0, .slice none 0 0]) (v := .agg #[iv 0, iv 0, .slice none 0 0]) 0 [iv 0, iv 0, .slice none 0 0] S (wN rfl) rfl rfl rfl rfl rfl rfl rfl (by simp) rfl fun a w S => ?_
  refine sMa S rfl rfl rfl rfl rfl fun a S => ?_
  refine lT (hK16 _ _ ?_)
  obtain rfl := Option.some.inj h
  have S := S.learn (fRep (rL rB) (.slice none 0 0) ([] : (List Bool))) (rL_nil _ _ _)
  have S := S.learn (fRep r_api_Grid (.agg #[iv 0, iv 0, .slice none 0 0]) (api_Grid.mk 0 0 ([] : (List Bool)))) ⟨_, rfl, S.mem.know (i := 0) (e := fRep (rL rB) (.slice none 0 0) ([] : (List Bool))) rfl⟩
  exact wp_ret (rThen (sRet (.tuple #[.agg #[iv 0, iv 0, .slice none 0 0], iv r12]) S (rsl2 rfl (rvN (c := 6) (t := 24) (T := 24) (p := b9) 0 [iv 0, iv 0, .slice none 0 0] S rfl rfl rfl rfl) (rvT (t := 7) (v := iv r12) S rfl)) ⟨(.agg #[iv 0, iv 0, .slice none 0 0]), rfl, S.mem.sel [] [0] (by decide) rfl rfl⟩))
 refine sCondF S rfl hc15 ?_
 refine wp_skip (leafT (hK10 _ _ ?_))
 refine sSeq (fun K17 hK17 => ?_)
 obtain ⟨r18, hx19, h⟩ := bindSome h
 obtain ⟨r20, hx21, h⟩ := bindSome h
 refine sDraw (nf := [8, 9]) (W := [(0, 15, iv p1), (1, 16, .pointer (some ⟨b6, 0, none⟩)), (2, 17, iv p0.W), (3, 18, iv r18), (4, 19, iv p2), (5, 20, .pointer (some ⟨b6, 1, none⟩)), (6, 21, iv p0.H), (7, 22, iv r20)]) rfl S ?_
 refine node_by (A := anc_grid_Shift_0) 10 (by kernel_rfl) (by kernel_rfl) (by kernel_rfl) (by kernel_rfl) (by kernel_rfl) [0, 1, 2, 3, 4, 5, 6, 7] (by kernel_rfl) (by decide) (by decide) (fF ?_ (fF ?_ (fF ?_ (fF ?_ (fF ?_ (fF ?_ (fF ?_ (fF ?_ (fN ?_ (aB 9 0 8 (by decide) (trivial))))))))))) [] (fun q hq => by cases hq) (fun hY => absurd (hY 8 (by decide)) (by decide))
 ·refine fJ [(4, _)] 0 [none] fun G a w S => ?_
  exact sLoad1 2 (iv p1) S (wN rfl) rfl rfl rfl rfl rfl rfl (lb rfl) fun a S => leafL ⟨rfl, S⟩
 ·refine fJ [(3, _)] 1 [none] fun G a w S => ?_
  exact sField (b := b6) (off := 0) 0 0 S (wN rfl) rfl rfl rfl rfl rfl (lb rfl) fun a S => leafL ⟨rfl, S⟩
 ·refine fJ [(16, _)] 2 [some 1] fun G a w S => ?_
  exact sLoad1 3 (iv p0.W) S (wN rfl) rfl rfl rfl rfl rfl rfl (lb rfl) fun a S => leafL ⟨rfl, S⟩
 ·refine fJ [(15, _), (17, _)] 3 [some 0, some 2] fun G a w S => ?_
  have S1 := S.mem
  refine sCallQ (X := Unit) (f := 63) (vs := [iv p1, iv p0.W]) (val := fun _ => iv r18) S (wN rfl) rfl callee63 rfl (S1.quiet [] rfl) (fun E1 w1 S1 => c_grid_around E1 w1 p1 p0.W r18 hx19 S1) rfl (lb rfl) fun _ a w S => ?_
  exact leafL ⟨rfl, S⟩
 ·refine fJ [(5, _)] 4 [none] fun G a w S => ?_
  exact sLoad1 1 (iv p2) S (wN rfl) rfl rfl rfl rfl rfl rfl (lb rfl) fun a S => leafL ⟨rfl, S⟩
 ·refine fJ [(3, _)] 5 [none] fun G a w S => ?_
  exact sField (b := b6) (off := 0) 1 1 S (wN rfl) rfl rfl rfl rfl rfl (lb rfl) fun a S => leafL ⟨rfl, S⟩
 ·refine fJ [(20, _)] 6 [some 5] fun G a w S => ?_
  exact sLoad1 3 (iv p0.H) S (wN rfl) rfl rfl rfl rfl rfl rfl (lb rfl) fun a S => leafL ⟨rfl, S⟩
 ·refine fJ [(19, _), (21, _)] 7 [some 4, some 6] fun G a w S => ?_
  have S1 := S.mem
  refine sCallQ (X := Unit) (f := 63) (vs := [iv p2, iv p0.H]) (val := fun _ => iv r20) S (wN rfl) rfl callee63 rfl (S1.quiet [] rfl) (fun E1 w1 S1 => c_grid_around E1 w1 p2 p0.H r20 hx21 S1) rfl (lb rfl) fun _ a w S => ?_
  exact leafL ⟨rfl, S⟩
 refine ⟨_, [(4, .pointer (some ⟨b7, 0, none⟩)), (18, iv r18)], rfl, (srcs_of [none, some 3] rfl rfl rfl), fun G a w S => ?_⟩
 refine sStore (p := b7) (off := 0) (T := 3) (vs := [iv p1]) (v := iv r18) 2 [iv r18] S (wN rfl) rfl rfl rfl rfl rfl rfl rfl (by simp) rfl fun a w S => ?_
 refine leafL ⟨rfl, _, _, .inr ⟨[], rfl, S, hz_of rfl, ?_⟩⟩
 refine node_by (A := anc_grid_Shift_0) 10 (by kernel_rfl) (by kernel_rfl) (by kernel_rfl) (by kernel_rfl) (by kernel_rfl) [0, 1, 2, 3, 4, 5, 6, 7] (by kernel_rfl) (by decide) (by decide) (fD 8 (fD 8 (fD 8 (fD 8 (fD 8 (fD 8 (fD 8 (fD 8 (fY (fN ?_ (trivial))))))))))) [] (fun q hq => by cases hq) (fun hY => absurd (hY 9 (by decide)) (by decide))
 refine ⟨_, [(5, .pointer (some ⟨b8, 0, none⟩)), (22, iv r20)], rfl, (srcs_of [none, some 7] rfl rfl rfl), fun G a w S => ?_⟩
 refine sStore (p := b8) (off := 0) (T := 3) (vs := [iv p2]) (v := iv r20) 2 [iv r20] S (wN rfl) rfl rfl rfl rfl rfl rfl rfl (by simp) rfl fun a w S => ?_
 refine leafL ⟨rfl, _, _, .inr ⟨[], rfl, S, hz_of rfl, ?_⟩⟩
 refine node_by (A := anc_grid_Shift_0) 10 (by kernel_rfl) (by kernel_rfl) (by kernel_rfl) (by kernel_rfl) (by kernel_rfl) [0, 1, 2, 3, 4, 5, 6, 7] (by kernel_rfl) (by decide) (by decide) (fD 9 (fD 9 (fD 9 (fD 9 (fD 9 (fD 9 (fD 9 (fD 9 (fY (fY (trivial))))))))))) [(3, .pointer (some ⟨b6, 0, none⟩)), (4, .pointer (some ⟨b7, 0, none⟩)), (5, .pointer (some ⟨b8, 0, none⟩)), (6, .pointer (some ⟨b9, 0, none⟩))] (fin_of [none, none, none, none] rfl (by kernel_rfl) (by kernel_rfl)) (fun _ a w S => ?_)
 refine leafT (hK17 _ _ ?_)
 refine sSeq (fun K22 hK22 => ?_)
 refine sRegion ?_
 refine sField (b := b6) (off := 0) 0 0 S (wN rfl) rfl rfl rfl rfl rfl (lb rfl) fun a S => ?_
 refine sLoad1 3 (iv p0.W) S (wN rfl) rfl rfl rfl rfl rfl rfl (lb rfl) fun a S => ?_
 refine sField (b := b6) (off := 0) 1 1 S (wN rfl) rfl rfl rfl rfl rfl (lb rfl) fun a S => ?_
 refine sLoad1 3 (iv p0.H) S (wN rfl) rfl rfl rfl rfl rfl rfl (lb rfl) fun a S => ?_
 refine sFunc (g := 65) (vs := [.pointer (some ⟨b6, 0, none⟩), .pointer (some ⟨b8, 0, none⟩), .pointer (some ⟨b7, 0, none⟩)]) S (wN rfl) rfl rfl rfl (lb rfl) fun a S => ?_
 obtain ⟨r23, hx24, h⟩ := bindSome h
 have S := S.shutB (r := r_api_Grid) (T := 24) (b := b6) (cs := [iv p0.W, iv p0.H, .slice ad3 p0.Bits.length cp4]) 3 (.agg #[iv p0.W, iv p0.H, .slice ad3 p0.Bits.length cp4]) p0 rfl rfl (S.mem.know (i := 1) (e := fRep r_api_Grid (.agg #[iv p0.W, iv p0.H, .slice ad3 p0.Bits.length cp4]) p0) rfl)
 have S := S.shutB (r := (rI .i64)) (T := 3) (b := b8) (cs := [iv r20]) 0 (iv r20) r20 rfl rfl (rfl)
 have S := S.shutB (r := (rI .i64)) (T := 3) (b := b7) (cs := [iv r18]) 0 (iv r18) r18 rfl rfl (rfl)
 refine sCall (X := Value) (f := 64) (vs := [iv p0.W, iv p0.H, .func (.func 65) #[] #[.pointer (some ⟨b6, 0, none⟩), .pointer (some ⟨b8, 0, none⟩), .pointer (some ⟨b7, 0, none⟩)]]) (val := c_grid_build_s0_val r23) (B' := fun _ => []) (D' := c_grid_build_s0_D r23) [] [eBox b9 24 [iv 0, iv 0, .slice none 0 0]] [fPtr r_api_Grid (.pointer (some ⟨b6, 0, none⟩)) p0, fPtr (rI .i64) (.pointer (some ⟨b8, 0, none⟩)) r20, fPtr (rI .i64) (.pointer (some ⟨b7, 0, none⟩)) r18] [0] [2, 1, 0] S (wN rfl) rfl callee64 rfl (by decide) rfl rfl (fun E1 w1 S1 => c_grid_build_s0 E1 w1 p0.W p0.H p0 (.pointer (some ⟨b6, 0, none⟩)) r20 (.pointer (some ⟨b8, 0, none⟩)) r18 (.pointer (some ⟨b7, 0, none⟩)) r23 hx24 S1) rfl (lb rfl) fun u25 a w S => ?_
 obtain ⟨u26, rfl, hu27⟩ := S.mem.know (i := 0) (e := fRep r_api_Grid (u25) r23) rfl
 have S := S.learn (fRep (rL rB) u26 r23.Bits) hu27
 obtain ⟨ad28, cp29, _, rfl, _⟩ := hu27
 refine sStore (p := b9) (off := 0) (T := 24) (vs := [iv 0, iv 0, .slice none 0 0]) (v := .agg #[iv r23.W, iv r23.H, .slice ad28 r23.Bits.length cp29]) 0 [iv r23.W, iv r23.H, .slice ad28 r23.Bits.length cp29] S (wN rfl) rfl rfl rfl rfl rfl rfl rfl (by simp) rfl fun a w S => ?_
 refine sMa S rfl rfl rfl rfl rfl fun a S => ?_
 refine lT (hK22 _ _ ?_)
 obtain rfl := Option.some.inj h
 exact wp_ret (sRet (.tuple #[.agg #[iv r23.W, iv r23.H, .slice ad28 r23.Bits.length cp29], iv 0]) S (rsl2 rfl (rvN (c := 6) (t := 24) (T := 24) (p := b9) 0 [iv r23.W, iv r23.H, .slice ad28 r23.Bits.length cp29] S rfl rfl rfl rfl) (rvT (t := 7) (v := iv 0) S rfl)) ⟨(.agg #[iv r23.W, iv r23.H, .slice ad28 r23.Bits.length cp29]), rfl, S.mem.sel [] [1] (by decide) rfl rfl⟩)
end Go.Proofs.Ytffikfajljbmnaa
namespace Go.Proofs.Ytffikfajljbmnaa
open Go.RowKit
noncomputable def compare_ways_1_l1 {σ τ : Type} (p1 : api_Grid) (r24 : (api_Grid × Int)) (s36 : Int) (B : σ → (compare_way × api_Grid) → Option (σ ⊕ τ)) (s6 : Int) : (Int × σ) → Option ((Int × σ) ⊕ ((σ ⊕ τ) ⊕ (σ))) := fun s0 => match s0 with
 | (s53, gz54) =>
  if decide (s53 < p1.W) then
   Option.bind (F_grid_Shift r24.1 s53 s36) fun r70 =>
   Option.bind (B gz54 ((compare_way.mk s6 (api_Point.mk s53 s36)), r70.1)) fun y80 =>
   match y80 with
   | .inl gz82 =>
    some (.inl (w64 (s53 + 1), gz82))
   | .inr tz83 =>
    some (.inr (.inl (.inr tz83)))
  else
   some (.inr (.inr gz54))
noncomputable def compare_ways_1_l2 {σ τ : Type} (p1 : api_Grid) (r24 : (api_Grid × Int)) (B : σ → (compare_way × api_Grid) → Option (σ ⊕ τ)) (s6 : Int) : (Int × σ) → Option ((Int × σ) ⊕ ((σ ⊕ τ) ⊕ (σ))) := fun s0 => match s0 with
 | (s36, gz37) =>
  if decide (s36 < p1.H) then
   Option.bind (α := σ ⊕ (σ ⊕ τ)) (
    Option.bind (whileO (compare_ways_1_l1 p1 r24 s36 B s6) (0, gz37)) fun z0 => match z0 with
     | .inl z =>
      some (.inr z)
     | .inr gz58 =>
      some (.inl gz58)) fun z0 => match z0 with
    | .inl gz45 =>
     some (.inl (w64 (s36 + 1), gz45))
    | .inr z =>
     some (.inr (.inl z))
  else
   some (.inr (.inr gz37))
noncomputable def compare_ways_1_l3 {σ τ : Type} (x3 : Int) (p1 : api_Grid) (B : σ → (compare_way × api_Grid) → Option (σ ⊕ τ)) : (Int × σ) → Option ((Int × σ) ⊕ ((σ ⊕ τ) ⊕ (σ))) := fun s0 => match s0 with
 | (s6, gz7) =>
  if decide (s6 ≤ x3) then
   Option.bind (α := σ ⊕ (σ ⊕ τ)) (
    Option.bind (F_symmetry_Apply p1 s6) fun r24 =>
    Option.bind (whileO (compare_ways_1_l2 p1 r24 B s6) (0, gz7)) fun z0 => match z0 with
     | .inl z =>
      some (.inr z)
     | .inr gz41 =>
      some (.inl gz41)) fun z0 => match z0 with
    | .inl gz15 =>
     some (.inl (w64 (s6 + 1), gz15))
    | .inr z =>
     some (.inr (.inl z))
  else
   some (.inr (.inr gz7))
noncomputable def I_compare_ways_1 (p0 : Int) (p1 : api_Grid) (σ τ : Type) (B : σ → (compare_way × api_Grid) → Option (σ ⊕ τ)) (gz0 : σ) : Option (σ ⊕ τ) :=
 Option.bind (idxO ([0, 3, 7, 15] : List Int) p0) fun x3 =>
 Option.bind (whileO (compare_ways_1_l3 x3 p1 B) (0, gz0)) fun z0 => match z0 with
  | .inl z =>
   some z
  | .inr gz11 =>
   some (.inl gz11)
set_option maxHeartbeats 4000000 in
set_option maxRecDepth 100000 in
theorem it_compare_ways_1 (p0 : Int) (v0 : Value) (p1 : api_Grid) (v1 : Value) : SeqF Try.prog 81 #[v0, v1] (fA2 r_compare_way r_api_Grid) (I_compare_ways_1 p0 p1) [fPtr (rI .i64) (v0) p0, fPtr r_api_Grid (v1) p1] := by
 refine seqF_of (lb := [v0, v1]) (fun σ τ B gz0 r h l J Jx E w0 hC S hJ => ?_)
 unfold I_compare_ways_1 at h
 refine sEnterI (args := [.func (.yield l) #[] #[], v0, v1]) 54 Try.func81 rfl rfl (by simp) S (fun a S => ?_)
 refine sSeq (fun K1 hK1 => ?_)
 refine sRegion ?_
 refine sBuild [(0, iv 0), (1, iv 3), (2, iv 7), (3, iv 15)] [iv 0, iv 3, iv 7, iv 15] S (wN rfl) rfl rfl rfl rfl (lb rfl) fun a S => ?_
 obtain ⟨u2, S⟩ := pLoad (r := (rI .i64)) (q := v0) (x := p0) 0 S rfl
 obtain rfl : u2 = iv p0 := S.mem.know (i := 1) (e := fRep (rI .i64) (u2) p0) rfl
 refine sLoadV1 (vq := v0) 0 (iv p0) S (wN rfl) rfl rfl rfl rfl rfl (lb rfl) fun a S => ?_
 obtain ⟨x3, hx4, h⟩ := bindSome h
 refine sIndexA (g := fun z => .int .i64 z) (xs := ([0, 3, 7, 15] : List Int)) (j := p0) (k := .i64) 4 [iv 0, iv 3, iv 7, iv 15] S (wN rfl) rfl Try.underlying129 rfl rfl rfl rfl rfl rfl hx4 rfl (lb rfl) fun a S => ?_
 refine sMa S rfl rfl rfl rfl rfl fun a S => ?_
 refine lT (hK1 _ _ ?_)
 refine sSeq (fun K5 hK5 => ?_)
 refine sRegion ?_
 refine sMa S rfl rfl rfl rfl rfl fun a S => ?_
 refine lT (hK5 _ _ ?_)
 refine wp_block ?_
 obtain ⟨t10, hl, g9⟩ := bindSome h
 refine sLoop hl (fun s0 a w => match s0 with | (s6, gz7) => ∃ E w0, J gz7 E w0 ∧ St [] E [] w0 54 a w [(0, .func (.yield l) #[] #[]), (2, v1), (4, iv x3), (5, iv s6)] [] [fPtr r_api_Grid (v1) p1]) ⟨_, _, hJ, S.fix [] [3] (by decide) rfl rfl rfl⟩ ?_
 clear hl h
 intro s0 a w c0 hI h hu8
 obtain ⟨s6, gz7⟩ := s0
 unfold compare_ways_1_l3 at h
 dsimp only at h hI
 obtain ⟨E, w0, hJ, S⟩ := hI
 refine sSeq (fun K12 hK12 => ?_)
 refine sSeq (fun K13 hK13 => ?_)
 refine sRegion ?_
 refine sMm S rfl rfl rfl rfl rfl fun a S => ?_
 refine sMm S rfl rfl rfl rfl rfl fun a S => ?_
 refine sBin _ S (wN rfl) rfl rfl rfl (bLe _ _ _ _ .i64 s6 x3) rfl (lb rfl) fun a S => ?_
 refine lT (hK13 _ _ ?_)
 rcases iteSome h with ⟨hc14, h⟩ | ⟨hc14, h⟩
 rotate_left
 ·refine sCondF S rfl hc14 ?_
  obtain rfl := Option.some.inj h
  obtain rfl := hu8 _ rfl
  have h := g9
  clear g9
  try dsimp only at h
  exact wp_exit (xThen (xThen (xHit (sEnd (.tuple #[]) S (res0 rfl) (sGoI S hC hJ (Option.some.inj h) _)))))
 refine sCondT S rfl hc14 ?_
 refine wp_skip (leafT (hK12 _ _ ?_))
 obtain ⟨t16, h, g17⟩ := bindSome h
 refine sCut (fun a w => ∃ gz15, .inl gz15 = t16 ∧ ∃ E w0, J gz15 E w0 ∧ St [] E [] w0 54 a w [(0, .func (.yield l) #[] #[]), (2, v1), (4, iv x3), (5, iv s6)] [] [fPtr r_api_Grid (v1) p1]) ?_ (fun a w hI => ?_)
 rotate_left
 ·obtain ⟨gz15, rfl, E, w0, hJ, S⟩ := hI
  have h := g17
  clear g17
  try dsimp only at h
  refine sRegion ?_
  refine sMm S rfl rfl rfl rfl rfl fun a S => ?_
  refine sBin _ S (wN rfl) rfl rfl rfl (bAdd _ _ _ _ s6 1) rfl (lb rfl) fun a S => ?_
  refine sMa S rfl rfl rfl rfl rfl fun a S => ?_
  exact lT (⟨(w64 (s6 + 1), gz15), (Option.some.inj h).symm, ⟨_, _, hJ, S.fix [] [0] (by decide) rfl rfl rfl⟩⟩)
 refine wp_block ?_
 refine sSeq (fun K18 hK18 => ?_)
 refine sRegion ?_
 obtain ⟨u19, S⟩ := pLoad (r := r_api_Grid) (q := v1) (x := p1) 0 S rfl
 obtain ⟨u20, rfl, hu21⟩ := S.mem.know (i := 1) (e := fRep r_api_Grid (u19) p1) rfl
 have S := S.learn (fRep (rL rB) u20 p1.Bits) hu21
 obtain ⟨ad22, cp23, _, rfl, _⟩ := hu21
 refine sLoadVN (vq := v1) 1 [iv p1.W, iv p1.H, .slice ad22 p1.Bits.length cp23] S (wN rfl) rfl rfl rfl rfl rfl rfl (lb rfl) fun a S => ?_
 refine sMm S rfl rfl rfl rfl rfl fun a S => ?_
 obtain ⟨r24, hx25, h⟩ := bindSome h
 refine sCall (X := Value) (f := 33) (vs := [.agg #[iv p1.W, iv p1.H, .slice ad22 p1.Bits.length cp23], iv s6]) (val := c_symmetry_Apply_val r24) (B' := fun _ => []) (D' := c_symmetry_Apply_D r24) [] [] [fRep r_api_Grid (.agg #[iv p1.W, iv p1.H, .slice ad22 p1.Bits.length cp23]) p1] [] [2] S (wN rfl) rfl callee33 rfl (by decide) rfl rfl (fun E1 w1 S1 => c_symmetry_Apply E1 w1 p1 (.agg #[iv p1.W, iv p1.H, .slice ad22 p1.Bits.length cp23]) s6 r24 hx25 S1) rfl (lb rfl) fun u26 a w S => ?_
 obtain ⟨u27, rfl, hu28⟩ := S.mem.know (i := 0) (e := fRep r_api_Grid (u26) r24.1) rfl
 have S := S.learn (fRep (rL rB) u27 r24.1.Bits) hu28
 obtain ⟨ad29, cp30, _, rfl, _⟩ := hu28
 refine sMm S rfl rfl rfl rfl rfl fun a S => ?_
 refine sExtract (vs := [.agg #[iv r24.1.W, iv r24.1.H, .slice ad29 r24.1.Bits.length cp30], iv r24.2]) (.agg #[iv r24.1.W, iv r24.1.H, .slice ad29 r24.1.Bits.length cp30]) S (wN rfl) rfl rfl rfl rfl (lb rfl) fun a S => ?_
 refine sExtract (vs := [.agg #[iv r24.1.W, iv r24.1.H, .slice ad29 r24.1.Bits.length cp30], iv r24.2]) (iv r24.2) S (wN rfl) rfl rfl rfl rfl (lb rfl) fun a S => ?_
 refine sAlloc (.agg #[iv 0, iv 0, .slice none 0 0]) S (wN rfl) rfl rfl [iv 0, iv 0, .slice none 0 0] rfl rfl (lb rfl) fun a b31 w S => ?_
 refine sStore (p := b31) (off := 0) (T := 24) (vs := [iv 0, iv 0, .slice none 0 0]) (v := .agg #[iv r24.1.W, iv r24.1.H, .slice ad29 r24.1.Bits.length cp30]) 0 [iv r24.1.W, iv r24.1.H, .slice ad29 r24.1.Bits.length cp30] S (wN rfl) rfl rfl rfl rfl rfl rfl rfl (by simp) rfl fun a w S => ?_
 refine sMa S rfl rfl rfl rfl rfl fun a S => ?_
 refine lT (hK18 _ _ ?_)
 refine sSeq (fun K32 hK32 => ?_)
 refine sRegion ?_
 obtain ⟨q33, hq34, S⟩ := pFld (P := Try.prog) (r := r_api_Grid) (s2 := (rI .i64)) (g := (·.H)) (q := v1) (z := p1) 24 1 5 1 S rfl rfl comp_api_Grid_H
 refine sFldV (q := v1) S (wN rfl) rfl rfl hq34 rfl (lb rfl) fun a S => ?_
 obtain ⟨u35, S⟩ := pLoad (r := (rI .i64)) (q := q33) (x := p1.H) 0 S rfl
 obtain rfl : u35 = iv p1.H := S.mem.know (i := 1) (e := fRep (rI .i64) (u35) p1.H) rfl
 refine sLoadV1 (vq := q33) 0 (iv p1.H) S (wN rfl) rfl rfl rfl rfl rfl (lb rfl) fun a S => ?_
 refine sMm S rfl rfl rfl rfl rfl fun a S => ?_
 refine lT (hK32 _ _ ?_)
 refine wp_block ?_
 have S := S.shutB (r := r_api_Grid) (T := 24) (b := b31) (cs := [iv r24.1.W, iv r24.1.H, .slice ad29 r24.1.Bits.length cp30]) 0 (.agg #[iv r24.1.W, iv r24.1.H, .slice ad29 r24.1.Bits.length cp30]) r24.1 rfl rfl (S.mem.know (i := 4) (e := fRep r_api_Grid (.agg #[iv r24.1.W, iv r24.1.H, .slice ad29 r24.1.Bits.length cp30]) r24.1) rfl)
 obtain ⟨t40, hl, g39⟩ := bindSome h
 refine sLoop hl (fun s0 a w => match s0 with | (s36, gz37) => ∃ E w0, J gz37 E w0 ∧ St [] E [] w0 54 a w [(0, .func (.yield l) #[] #[]), (2, v1), (4, iv x3), (5, iv s6), (6, .pointer (some ⟨b31, 0, none⟩)), (27, iv p1.H), (28, iv s36)] [] [fPtr r_api_Grid (v1) p1, fPtr r_api_Grid (.pointer (some ⟨b31, 0, none⟩)) r24.1]) ⟨_, _, hJ, S.fix [] [9, 0] (by decide) rfl rfl rfl⟩ ?_
 clear hl h
 intro s0 a w c0 hI h hu38
 obtain ⟨s36, gz37⟩ := s0
 unfold compare_ways_1_l2 at h
 dsimp only at h hI
 obtain ⟨E, w0, hJ, S⟩ := hI
 refine sSeq (fun K42 hK42 => ?_)
 refine sRegion ?_
 refine sBin _ S (wN rfl) rfl rfl rfl (bLt _ _ _ _ .i64 s36 p1.H) rfl (lb rfl) fun a S => ?_
 refine lT (hK42 _ _ ?_)
 refine sSeq (fun K43 hK43 => ?_)
 rcases iteSome h with ⟨hc44, h⟩ | ⟨hc44, h⟩
 rotate_left
 ·refine sCondF S rfl hc44 ?_
  obtain rfl := Option.some.inj h
  obtain rfl := hu38 _ rfl
  have h := g39
  clear g39
  try dsimp only at h
  exact wp_exit (xThen (xThen (xHit (leafB (leafT (⟨gz37, Option.some.inj h, _, _, hJ, S.fix [] [0] (by decide) rfl rfl rfl⟩))))))
 refine sCondT S rfl hc44 ?_
 refine wp_skip (leafT (hK43 _ _ ?_))
 obtain ⟨t46, h, g47⟩ := bindSome h
 refine sCut (fun a w => ∃ gz45, .inl gz45 = t46 ∧ ∃ E w0, J gz45 E w0 ∧ St [] E [] w0 54 a w [(0, .func (.yield l) #[] #[]), (2, v1), (4, iv x3), (5, iv s6), (6, .pointer (some ⟨b31, 0, none⟩)), (27, iv p1.H), (28, iv s36)] [] [fPtr r_api_Grid (v1) p1, fPtr r_api_Grid (.pointer (some ⟨b31, 0, none⟩)) r24.1]) ?_ (fun a w hI => ?_)
 rotate_left
 ·obtain ⟨gz45, rfl, E, w0, hJ, S⟩ := hI
  have h := g47
  clear g47
  try dsimp only at h
  refine sRegion ?_
  refine sBin _ S (wN rfl) rfl rfl rfl (bAdd _ _ _ _ s36 1) rfl (lb rfl) fun a S => ?_
  refine sMm S rfl rfl rfl rfl rfl fun a S => ?_
  exact lT (⟨(w64 (s36 + 1), gz45), (Option.some.inj h).symm, ⟨_, _, hJ, S.fix [] [0, 1] (by decide) rfl rfl rfl⟩⟩)
 refine wp_block ?_
 refine sSeq (fun K48 hK48 => ?_)
 refine sRegion ?_
 refine sMm S rfl rfl rfl rfl rfl fun a S => ?_
 refine sMa S rfl rfl rfl rfl rfl fun a S => ?_
 refine lT (hK48 _ _ ?_)
 refine sSeq (fun K49 hK49 => ?_)
 refine sRegion ?_
 obtain ⟨q50, hq51, S⟩ := pFld (P := Try.prog) (r := r_api_Grid) (s2 := (rI .i64)) (g := (·.W)) (q := v1) (z := p1) 24 0 0 0 S rfl rfl comp_api_Grid_W
 refine sFldV (q := v1) S (wN rfl) rfl rfl hq51 rfl (lb rfl) fun a S => ?_
 obtain ⟨u52, S⟩ := pLoad (r := (rI .i64)) (q := q50) (x := p1.W) 0 S rfl
 obtain rfl : u52 = iv p1.W := S.mem.know (i := 1) (e := fRep (rI .i64) (u52) p1.W) rfl
 refine sLoadV1 (vq := q50) 0 (iv p1.W) S (wN rfl) rfl rfl rfl rfl rfl (lb rfl) fun a S => ?_
 refine sMm S rfl rfl rfl rfl rfl fun a S => ?_
 refine lT (hK49 _ _ ?_)
 refine wp_block ?_
 obtain ⟨t57, hl, g56⟩ := bindSome h
 refine sLoop hl (fun s0 a w => match s0 with | (s53, gz54) => ∃ E w0, J gz54 E w0 ∧ St [] E [] w0 54 a w [(0, .func (.yield l) #[] #[]), (2, v1), (4, iv x3), (5, iv s6), (6, .pointer (some ⟨b31, 0, none⟩)), (8, iv s36), (27, iv p1.H), (28, iv s36), (32, iv p1.W), (33, iv s53)] [] [fPtr r_api_Grid (v1) p1, fPtr r_api_Grid (.pointer (some ⟨b31, 0, none⟩)) r24.1]) ⟨_, _, hJ, S.fix [] [3, 4] (by decide) rfl rfl rfl⟩ ?_
 clear hl h
 intro s0 a w c0 hI h hu55
 obtain ⟨s53, gz54⟩ := s0
 unfold compare_ways_1_l1 at h
 dsimp only at h hI
 obtain ⟨E, w0, hJ, S⟩ := hI
 refine sSeq (fun K59 hK59 => ?_)
 refine sRegion ?_
 refine sBin _ S (wN rfl) rfl rfl rfl (bLt _ _ _ _ .i64 s53 p1.W) rfl (lb rfl) fun a S => ?_
 refine lT (hK59 _ _ ?_)
 refine sSeq (fun K60 hK60 => ?_)
 rcases iteSome h with ⟨hc61, h⟩ | ⟨hc61, h⟩
 rotate_left
 ·refine sCondF S rfl hc61 ?_
  obtain rfl := Option.some.inj h
  obtain rfl := hu55 _ rfl
  have h := g56
  clear g56
  try dsimp only at h
  exact wp_exit (xThen (xThen (xHit (leafB (leafT (⟨gz54, Option.some.inj h, _, _, hJ, S.fix [] [0, 1] (by decide) rfl rfl rfl⟩))))))
 refine sCondT S rfl hc61 ?_
 refine wp_skip (leafT (hK60 _ _ ?_))
 refine sSeq (fun K62 hK62 => ?_)
 refine wp_block ?_
 refine sSeq (fun K63 hK63 => ?_)
 refine sRegion ?_
 refine sMm S rfl rfl rfl rfl rfl fun a S => ?_
 refine sMa S rfl rfl rfl rfl rfl fun a S => ?_
 refine lT (hK63 _ _ ?_)
 refine sSeq (fun K64 hK64 => ?_)
 refine sRegion ?_
 obtain ⟨u65, S⟩ := pLoad (r := r_api_Grid) (q := .pointer (some ⟨b31, 0, none⟩)) (x := r24.1) 1 S rfl
 obtain ⟨u66, rfl, hu67⟩ := S.mem.know (i := 1) (e := fRep r_api_Grid (u65) r24.1) rfl
 have S := S.learn (fRep (rL rB) u66 r24.1.Bits) hu67
 obtain ⟨ad68, cp69, _, rfl, _⟩ := hu67
 refine sLoadVN (vq := .pointer (some ⟨b31, 0, none⟩)) 1 [iv r24.1.W, iv r24.1.H, .slice ad68 r24.1.Bits.length cp69] S (wN rfl) rfl rfl rfl rfl rfl rfl (lb rfl) fun a S => ?_
 refine sMm S rfl rfl rfl rfl rfl fun a S => ?_
 refine sMm S rfl rfl rfl rfl rfl fun a S => ?_
 obtain ⟨r70, hx71, h⟩ := bindSome h
 refine sCall (X := Value) (f := 34) (vs := [.agg #[iv r24.1.W, iv r24.1.H, .slice ad68 r24.1.Bits.length cp69], iv s53, iv s36]) (val := c_grid_Shift_val r70) (B' := fun _ => []) (D' := c_grid_Shift_D r70) [] [] [fRep r_api_Grid (.agg #[iv r24.1.W, iv r24.1.H, .slice ad68 r24.1.Bits.length cp69]) r24.1] [] [2] S (wN rfl) rfl callee34 rfl (by decide) rfl rfl (fun E1 w1 S1 => c_grid_Shift E1 w1 r24.1 (.agg #[iv r24.1.W, iv r24.1.H, .slice ad68 r24.1.Bits.length cp69]) s53 s36 r70 hx71 S1) rfl (lb rfl) fun u72 a w S => ?_
 obtain ⟨u73, rfl, hu74⟩ := S.mem.know (i := 0) (e := fRep r_api_Grid (u72) r70.1) rfl
 have S := S.learn (fRep (rL rB) u73 r70.1.Bits) hu74
 obtain ⟨ad75, cp76, _, rfl, _⟩ := hu74
 refine sMm S rfl rfl rfl rfl rfl fun a S => ?_
 refine sExtract (vs := [.agg #[iv r70.1.W, iv r70.1.H, .slice ad75 r70.1.Bits.length cp76], iv r70.2]) (.agg #[iv r70.1.W, iv r70.1.H, .slice ad75 r70.1.Bits.length cp76]) S (wN rfl) rfl rfl rfl rfl (lb rfl) fun a S => ?_
 refine sExtract (vs := [.agg #[iv r70.1.W, iv r70.1.H, .slice ad75 r70.1.Bits.length cp76], iv r70.2]) (iv r70.2) S (wN rfl) rfl rfl rfl rfl (lb rfl) fun a S => ?_
 refine sAlloc (.agg #[iv 0, iv 0, .slice none 0 0]) S (wN rfl) rfl rfl [iv 0, iv 0, .slice none 0 0] rfl rfl (lb rfl) fun a b77 w S => ?_
 refine sStore (p := b77) (off := 0) (T := 24) (vs := [iv 0, iv 0, .slice none 0 0]) (v := .agg #[iv r70.1.W, iv r70.1.H, .slice ad75 r70.1.Bits.length cp76]) 0 [iv r70.1.W, iv r70.1.H, .slice ad75 r70.1.Bits.length cp76] S (wN rfl) rfl rfl rfl rfl rfl rfl rfl (by simp) rfl fun a w S => ?_
 refine sMa S rfl rfl rfl rfl rfl fun a S => ?_
 refine lT (hK64 _ _ ?_)
 refine sSeq (fun K78 hK78 => ?_)
 refine sRegionY ?_
 refine sSplitR (by repeat (first | exact roundU_out | exact it_out | exact lo_false | refine lo_then ?_ | refine lo_block ?_)) 7 rfl (fun K79 hK79 => ?_)
 refine sMm S rfl rfl rfl rfl rfl fun a S => ?_
 refine sMm S rfl rfl rfl rfl rfl fun a S => ?_
 refine sMm S rfl rfl rfl rfl rfl fun a S => ?_
 refine sMm S rfl rfl rfl rfl rfl fun a S => ?_
 refine sBuild [(0, iv s53), (1, iv s36)] [iv s53, iv s36] S (wN rfl) rfl rfl rfl rfl (lb rfl) fun a S => ?_
 refine sBuild [(0, iv s6), (1, .agg #[iv s53, iv s36])] [iv s6, iv s53, iv s36] S (wN rfl) rfl rfl rfl rfl (lb rfl) fun a S => ?_
 refine sLoadN (p := b77) (off := 0) (T := 24) (vs := [iv r70.1.W, iv r70.1.H, .slice ad75 r70.1.Bits.length cp76]) 0 [iv r70.1.W, iv r70.1.H, .slice ad75 r70.1.Bits.length cp76] S (wN rfl) rfl rfl rfl rfl rfl rfl rfl (lb rfl) fun a S => ?_
 refine leafL ⟨rfl, hK79 _ _ ?_⟩
 have S := S.shutB (r := r_api_Grid) (T := 24) (b := b77) (cs := [iv r70.1.W, iv r70.1.H, .slice ad75 r70.1.Bits.length cp76]) 0 (.agg #[iv r70.1.W, iv r70.1.H, .slice ad75 r70.1.Bits.length cp76]) r70.1 rfl rfl (S.mem.know (i := 1) (e := fRep r_api_Grid (.agg #[iv r70.1.W, iv r70.1.H, .slice ad75 r70.1.Bits.length cp76]) r70.1) rfl)
 have S := S.learn (fRep r_compare_way (.agg #[iv s6, iv s53, iv s36]) (compare_way.mk s6 (api_Point.mk s53 s36))) rfl
 obtain ⟨y80, hy81, h⟩ := bindSome h
 refine sYieldI ((compare_way.mk s6 (api_Point.mk s53 s36)), r70.1) [.agg #[iv s6, iv s53, iv s36], .agg #[iv r70.1.W, iv r70.1.H, .slice ad75 r70.1.Bits.length cp76]] S hC hJ hy81 (fA2_mk (S.mem.know (i := 0) (e := fRep r_compare_way (.agg #[iv s6, iv s53, iv s36]) (compare_way.mk s6 (api_Point.mk s53 s36))) rfl) (S.mem.know (i := 3) (e := fRep r_api_Grid (.agg #[iv r70.1.W, iv r70.1.H, .slice ad75 r70.1.Bits.length cp76]) r70.1) rfl)) (wN rfl) rfl rfl rfl rfl (by decide) (fun gz82 E a w hb hJ S => ?_) (fun tz83 a w hb hJ S => ?_)
 ·obtain rfl := hb
  dsimp only at h
  refine list_inR (by repeat (first | exact roundU_out | exact it_out | exact lo_false | refine lo_then ?_ | refine lo_block ?_)) _ rfl _ _ ?_
  refine sNot (b := true) S (wN rfl) rfl rfl rfl (lb rfl) fun a S => ?_
  refine lT (hK78 _ _ ?_)
  refine sCondF S rfl rfl ?_
  refine wp_skip (leafB (leafT (hK62 _ _ ?_)))
  refine sRegion ?_
  refine sBin _ S (wN rfl) rfl rfl rfl (bAdd _ _ _ _ s53 1) rfl (lb rfl) fun a S => ?_
  refine sMm S rfl rfl rfl rfl rfl fun a S => ?_
  exact lT (⟨(w64 (s53 + 1), gz82), (Option.some.inj h).symm, ⟨_, _, hJ, S.fix [] [7, 8] (by decide) rfl rfl rfl⟩⟩)
 ·obtain rfl := hb
  dsimp only at h
  refine list_inR (by repeat (first | exact roundU_out | exact it_out | exact lo_false | refine lo_then ?_ | refine lo_block ?_)) _ rfl _ _ ?_
  refine sNot (b := false) S (wN rfl) rfl rfl rfl (lb rfl) fun a S => ?_
  refine lT (hK78 _ _ ?_)
  refine sCondT S rfl rfl ?_
  obtain rfl := Option.some.inj h
  obtain rfl := hu55 _ rfl
  have h := g56
  clear g56
  try dsimp only at h
  obtain rfl := Option.some.inj h
  have h := g47
  clear g47
  try dsimp only at h
  obtain rfl := Option.some.inj h
  obtain rfl := hu38 _ rfl
  have h := g39
  clear g39
  try dsimp only at h
  obtain rfl := Option.some.inj h
  have h := g17
  clear g17
  try dsimp only at h
  obtain rfl := Option.some.inj h
  obtain rfl := hu8 _ rfl
  have h := g9
  clear g9
  try dsimp only at h
  exact wp_ret (rBlock (rThen (rThen (rBlock (rBlock (rThen (rThen (rBlock (rBlock (rThen (rThen (rBlock (sRet (.tuple #[]) S (res0 rfl) (sStopI S hC hJ (Option.some.inj h) _))))))))))))))
end Go.Proofs.Ytffikfajljbmnaa
namespace Go.Proofs.Ytffikfajljbmnaa
open Go.RowKit
def anc_compare_Nearest_0 : List (List Nat) := [[], [], [1], [], [3], [0], [0, 1, 2, 5], [0, 1, 2, 3, 4, 5, 6], [0, 1, 2, 3, 4, 5, 6, 7]]
noncomputable def compare_Nearest_l2 (p1 : api_Grid) : (Int × Int × Int × Int) → (compare_way × api_Grid) → Option ((Int × Int × Int × Int) ⊕ (Int × Int × Int × Int)) := fun s0 x0 => match s0, x0 with
 | (s57, s58, s59, s60), (x65, x67) =>
  Option.bind (α := (Int × Int × Int × Int)) (
   Option.bind (F_compare_differ x67.Bits p1.Bits) fun r83 =>
   if decide (r83 < s57) then
    some (r83, x65.op, x65.at_.X, x65.at_.Y)
   else
    some (s57, s58, s59, s60)) fun (o76, o77, o78, o79) =>
  if o76 == 0 then
   some (.inr (o76, o77, o78, o79))
  else
   some (.inl (o76, o77, o78, o79))
noncomputable def F_compare_Nearest (p0 : api_Grid) (p1 : api_Grid) (p2 : Int) : Option (Int × Int × api_Point × Int) :=
 Option.bind (F_grid_Check p0) fun r15 =>
 if r15 != 0 then
  some (0, 0, (api_Point.mk 0 0), r15)
 else
  Option.bind (F_grid_Check p1) fun r22 =>
  if r22 != 0 then
   some (0, 0, (api_Point.mk 0 0), r22)
  else
   if decide (16 < (max4 p0.W p0.H p1.W p1.H)) then
    some (0, 0, (api_Point.mk 0 0), 4)
   else
    Option.bind (α := Bool) (
     if decide (p2 < 0) then
      some true
     else
      if decide (3 < p2) then
       some true
      else
       if p0.W != p1.W then
        some true
       else
        if p0.H != p1.H then
         some true
        else
         if decide (1 < p2) then
          some (p0.W != p0.H)
         else
          some false) fun o32 =>
    if o32 then
     some (0, 0, (api_Point.mk 0 0), 2)
    else
     Option.bind (α := (Int × Int × Int × Int)) (
      Option.bind (F_compare_ways p0 p2) fun r53 =>
      Option.bind (I_compare_ways_1 r53.1 r53.2 _ _ (compare_Nearest_l2 p1) (w64 ((p0.Bits.length : Int) + 1), 0, 0, 0)) fun z0 => match z0 with
       | .inl (s57, s58, s59, s60) =>
        some (s57, s58, s59, s60)
       | .inr (e61, e62, e63, e64) =>
        some (e61, e62, e63, e64)) fun (o45, o46, o47, o48) =>
     some (o45, o46, (api_Point.mk o47 o48), 0)
def c_compare_Nearest_val (r : (Int × Int × api_Point × Int)) (x : Value) : Value := .tuple #[.int .i64 r.1, .int .i64 r.2.1, x, .int .i64 r.2.2.2]
def c_compare_Nearest_D (r : (Int × Int × api_Point × Int)) (x : Value) : List Fact := [fRep r_api_Point x r.2.2.1]
set_option maxHeartbeats 4000000 in
set_option maxRecDepth 100000 in
theorem c_compare_Nearest (E : Nat → Prop) (w0 : World) (p0 : api_Grid) (v0 : Value) (p1 : api_Grid) (v1 : Value) (p2 : Int) (r : (Int × Int × api_Point × Int)) (h : F_compare_Nearest p0 p1 p2 = some r) (S : St0 E [] w0 w0 [] [fRep r_api_Grid (v0) p0, fRep r_api_Grid (v1) p1]) :
 Calls Try.prog 16 #[v0, v1, iv p2] w0 (Ret (X := Value) E [] w0 (c_compare_Nearest_val r) (fun _ => []) (c_compare_Nearest_D r)) := by
 unfold F_compare_Nearest at h
 obtain ⟨u1, rfl, hu2⟩ := S.know (i := 0) (e := fRep r_api_Grid (v0) p0) rfl
 have S := S.learn (fRep (rL rB) u1 p0.Bits) hu2
 obtain ⟨ad3, cp4, _, rfl, _⟩ := hu2
 obtain ⟨u5, rfl, hu6⟩ := S.know (i := 2) (e := fRep r_api_Grid (v1) p1) rfl
 have S := S.learn (fRep (rL rB) u5 p1.Bits) hu6
 obtain ⟨ad7, cp8, _, rfl, _⟩ := hu6
 refine sEnterM (args := [.agg #[iv p0.W, iv p0.H, .slice ad3 p0.Bits.length cp4], .agg #[iv p1.W, iv p1.H, .slice ad7 p1.Bits.length cp8], iv p2]) 99 Try.func16 rfl rfl (by simp) S (fun a S => ?_)
 refine sSeq (fun K9 hK9 => ?_)
 refine sRegion ?_
 refine sBox (v := .agg #[iv p0.W, iv p0.H, .slice ad3 p0.Bits.length cp4]) S (wN rfl) rfl rfl [iv p0.W, iv p0.H, .slice ad3 p0.Bits.length cp4] rfl rfl (lb rfl) fun a b10 w S => ?_
 refine sBox (v := .agg #[iv p1.W, iv p1.H, .slice ad7 p1.Bits.length cp8]) S (wN rfl) rfl rfl [iv p1.W, iv p1.H, .slice ad7 p1.Bits.length cp8] rfl rfl (lb rfl) fun a b11 w S => ?_
 refine sMa S rfl rfl rfl rfl rfl fun a S => ?_
 refine sMa S rfl rfl rfl rfl rfl fun a S => ?_
 refine sAlloc (.agg #[iv 0, iv 0]) S (wN rfl) rfl rfl [iv 0, iv 0] rfl rfl (lb rfl) fun a b12 w S => ?_
 refine sMa S rfl rfl rfl rfl rfl fun a S => ?_
 refine lT (hK9 _ _ ?_)
 refine sSeq (fun K13 hK13 => ?_)
 refine sSeq (fun K14 hK14 => ?_)
 refine sRegion ?_
 refine sLoadN (p := b10) (off := 0) (T := 24) (vs := [iv p0.W, iv p0.H, .slice ad3 p0.Bits.length cp4]) 2 [iv p0.W, iv p0.H, .slice ad3 p0.Bits.length cp4] S (wN rfl) rfl rfl rfl rfl rfl rfl rfl (lb rfl) fun a S => ?_
 obtain ⟨r15, hx16, h⟩ := bindSome h
 have S1 := S.mem
 refine sCallQ (X := Unit) (f := 45) (vs := [.agg #[iv p0.W, iv p0.H, .slice ad3 p0.Bits.length cp4]]) (val := fun _ => iv r15) S (wN rfl) rfl callee45 rfl (S1.quiet [2] rfl) (fun E1 w1 S1 => c_grid_Check E1 w1 p0 (.agg #[iv p0.W, iv p0.H, .slice ad3 p0.Bits.length cp4]) r15 hx16 S1) rfl (lb rfl) fun _ a w S => ?_
 refine sMa S rfl rfl rfl rfl rfl fun a S => ?_
 refine lT (hK14 _ _ ?_)
 refine sSeq (fun K17 hK17 => ?_)
 refine sRegion ?_
 refine sMm S rfl rfl rfl rfl rfl fun a S => ?_
 refine sBin _ S (wN rfl) rfl rfl rfl (bNe _ _ _ _ .i64 r15 0) rfl (lb rfl) fun a S => ?_
 refine lT (hK17 _ _ ?_)
 rcases iteSome h with ⟨hc18, h⟩ | ⟨hc18, h⟩
 ·refine sCondT S rfl hc18 ?_
  refine sSeq (fun K19 hK19 => ?_)
  refine sRegion ?_
  refine sBuild [] [iv 0, iv 0] S (wN rfl) rfl rfl rfl rfl (lb rfl) fun a S => ?_
  refine sMm S rfl rfl rfl rfl rfl fun a S => ?_
  refine sMa S rfl rfl rfl rfl rfl fun a S => ?_
  refine sMa S rfl rfl rfl rfl rfl fun a S => ?_
  refine sStore (p := b12) (off := 0) (T := 33) (vs := [iv 0, iv 0]) (v := .agg #[iv 0, iv 0]) 0 [iv 0, iv 0] S (wN rfl) rfl rfl rfl rfl rfl rfl rfl (by simp) rfl fun a w S => ?_
  refine sMa S rfl rfl rfl rfl rfl fun a S => ?_
  refine lT (hK19 _ _ ?_)
  obtain rfl := Option.some.inj h
  have S := S.learn (fRep r_api_Point (.agg #[iv 0, iv 0]) (api_Point.mk 0 0)) rfl
  exact wp_ret (rThen (sRetM0 (.tuple #[iv 0, iv 0, .agg #[iv 0, iv 0], iv r15]) S (rsl4 rfl (rvT (t := 6) (v := iv 0) S rfl) (rvT (t := 7) (v := iv 0) S rfl) (rvN (c := 8) (t := 33) (T := 33) (p := b12) 0 [iv 0, iv 0] S rfl rfl rfl rfl) (rvT (t := 9) (v := iv r15) S rfl)) ⟨(.agg #[iv 0, iv 0]), rfl, S.mem.sel [] [0] (by decide) rfl rfl⟩))
 refine sCondF S rfl hc18 ?_
 refine wp_skip (leafT (hK13 _ _ ?_))
 refine sSeq (fun K20 hK20 => ?_)
 refine sSeq (fun K21 hK21 => ?_)
 refine sRegion ?_
 refine sLoadN (p := b11) (off := 0) (T := 24) (vs := [iv p1.W, iv p1.H, .slice ad7 p1.Bits.length cp8]) 1 [iv p1.W, iv p1.H, .slice ad7 p1.Bits.length cp8] S (wN rfl) rfl rfl rfl rfl rfl rfl rfl (lb rfl) fun a S => ?_
 obtain ⟨r22, hx23, h⟩ := bindSome h
 have S1 := S.mem
 refine sCallQ (X := Unit) (f := 45) (vs := [.agg #[iv p1.W, iv p1.H, .slice ad7 p1.Bits.length cp8]]) (val := fun _ => iv r22) S (wN rfl) rfl callee45 rfl (S1.quiet [3] rfl) (fun E1 w1 S1 => c_grid_Check E1 w1 p1 (.agg #[iv p1.W, iv p1.H, .slice ad7 p1.Bits.length cp8]) r22 hx23 S1) rfl (lb rfl) fun _ a w S => ?_
 refine sMa S rfl rfl rfl rfl rfl fun a S => ?_
 refine lT (hK21 _ _ ?_)
 refine sSeq (fun K24 hK24 => ?_)
 refine sRegion ?_
 refine sMm S rfl rfl rfl rfl rfl fun a S => ?_
 refine sBin _ S (wN rfl) rfl rfl rfl (bNe _ _ _ _ .i64 r22 0) rfl (lb rfl) fun a S => ?_
 refine lT (hK24 _ _ ?_)
 rcases iteSome h with ⟨hc25, h⟩ | ⟨hc25, h⟩
 ·refine sCondT S rfl hc25 ?_
  refine sSeq (fun K26 hK26 => ?_)
  refine sRegion ?_
  refine sBuild [] [iv 0, iv 0] S (wN rfl) rfl rfl rfl rfl (lb rfl) fun a S => ?_
  refine sMm S rfl rfl rfl rfl rfl fun a S => ?_
  refine sMa S rfl rfl rfl rfl rfl fun a S => ?_
  refine sMa S rfl rfl rfl rfl rfl fun a S => ?_
  refine sStore (p := b12) (off := 0) (T := 33) (vs := [iv 0, iv 0]) (v := .agg #[iv 0, iv 0]) 0 [iv 0, iv 0] S (wN rfl) rfl rfl rfl rfl rfl rfl rfl (by simp) rfl fun a w S => ?_
  refine sMa S rfl rfl rfl rfl rfl fun a S => ?_
  refine lT (hK26 _ _ ?_)
  obtain rfl := Option.some.inj h
  have S := S.learn (fRep r_api_Point (.agg #[iv 0, iv 0]) (api_Point.mk 0 0)) rfl
  exact wp_ret (rThen (sRetM0 (.tuple #[iv 0, iv 0, .agg #[iv 0, iv 0], iv r22]) S (rsl4 rfl (rvT (t := 6) (v := iv 0) S rfl) (rvT (t := 7) (v := iv 0) S rfl) (rvN (c := 8) (t := 33) (T := 33) (p := b12) 0 [iv 0, iv 0] S rfl rfl rfl rfl) (rvT (t := 9) (v := iv r22) S rfl)) ⟨(.agg #[iv 0, iv 0]), rfl, S.mem.sel [] [0] (by decide) rfl rfl⟩))
 refine sCondF S rfl hc25 ?_
 refine wp_skip (leafT (hK20 _ _ ?_))
 refine sSeq (fun K27 hK27 => ?_)
 refine sSeq (fun K28 hK28 => ?_)
 refine sRegion ?_
 refine sField (b := b10) (off := 0) 0 0 S (wN rfl) rfl rfl rfl rfl rfl (lb rfl) fun a S => ?_
 refine sLoad1 2 (iv p0.W) S (wN rfl) rfl rfl rfl rfl rfl rfl (lb rfl) fun a S => ?_
 refine sField (b := b10) (off := 0) 1 1 S (wN rfl) rfl rfl rfl rfl rfl (lb rfl) fun a S => ?_
 refine sLoad1 2 (iv p0.H) S (wN rfl) rfl rfl rfl rfl rfl rfl (lb rfl) fun a S => ?_
 refine sField (b := b11) (off := 0) 0 0 S (wN rfl) rfl rfl rfl rfl rfl (lb rfl) fun a S => ?_
 refine sLoad1 1 (iv p1.W) S (wN rfl) rfl rfl rfl rfl rfl rfl (lb rfl) fun a S => ?_
 refine sField (b := b11) (off := 0) 1 1 S (wN rfl) rfl rfl rfl rfl rfl (lb rfl) fun a S => ?_
 refine sLoad1 1 (iv p1.H) S (wN rfl) rfl rfl rfl rfl rfl rfl (lb rfl) fun a S => ?_
 refine sMax4 (p := p0.W) (q := p0.H) (r := p1.W) (s := p1.H) S (wN rfl) rfl rfl rfl rfl rfl rfl (lb rfl) fun a S => ?_
 refine sBin _ S (wN rfl) rfl rfl rfl (bGt _ _ _ _ .i64 (max4 p0.W p0.H p1.W p1.H) 16) rfl (lb rfl) fun a S => ?_
 refine lT (hK28 _ _ ?_)
 rcases iteSome h with ⟨hc29, h⟩ | ⟨hc29, h⟩
 ·refine sCondT S rfl hc29 ?_
  refine sSeq (fun K30 hK30 => ?_)
  refine sRegion ?_
  refine sBuild [] [iv 0, iv 0] S (wN rfl) rfl rfl rfl rfl (lb rfl) fun a S => ?_
  refine sMa S rfl rfl rfl rfl rfl fun a S => ?_
  refine sMa S rfl rfl rfl rfl rfl fun a S => ?_
  refine sStore (p := b12) (off := 0) (T := 33) (vs := [iv 0, iv 0]) (v := .agg #[iv 0, iv 0]) 0 [iv 0, iv 0] S (wN rfl) rfl rfl rfl rfl rfl rfl rfl (by simp) rfl fun a w S => ?_
  refine sMa S rfl rfl rfl rfl rfl fun a S => ?_
  refine lT (hK30 _ _ ?_)
  obtain rfl := Option.some.inj h
  have S := S.learn (fRep r_api_Point (.agg #[iv 0, iv 0]) (api_Point.mk 0 0)) rfl
  exact wp_ret (rThen (sRetM0 (.tuple #[iv 0, iv 0, .agg #[iv 0, iv 0], iv 4]) S (rsl4 rfl (rvT (t := 6) (v := iv 0) S rfl) (rvT (t := 7) (v := iv 0) S rfl) (rvN (c := 8) (t := 33) (T := 33) (p := b12) 0 [iv 0, iv 0] S rfl rfl rfl rfl) (rvT (t := 9) (v := iv 4) S rfl)) ⟨(.agg #[iv 0, iv 0]), rfl, S.mem.sel [] [0] (by decide) rfl rfl⟩))
 refine sCondF S rfl hc29 ?_
 refine wp_skip (leafT (hK27 _ _ ?_))
 refine sSeq (fun K31 hK31 => ?_)
 obtain ⟨t33, h, g34⟩ := bindSome h
 refine sCut (fun a w => ∃ o32, o32 = t33 ∧ St [] E [] w0 99 a w [(2, iv p2), (3, .pointer (some ⟨b10, 0, none⟩)), (4, .pointer (some ⟨b11, 0, none⟩)), (8, .pointer (some ⟨b12, 0, none⟩)), (70, .bool o32)] [eBox b10 24 [iv p0.W, iv p0.H, .slice ad3 p0.Bits.length cp4], eBox b11 24 [iv p1.W, iv p1.H, .slice ad7 p1.Bits.length cp8], eBox b12 33 [iv 0, iv 0]] [fRep (rL rB) (.slice ad3 p0.Bits.length cp4) p0.Bits, fRep (rL rB) (.slice ad7 p1.Bits.length cp8) p1.Bits]) ?_ (fun a w hI => ?_)
 ·refine sRegion ?_
  refine sMm S rfl rfl rfl rfl rfl fun a S => ?_
  refine sBin _ S (wN rfl) rfl rfl rfl (bLt _ _ _ _ .i64 p2 0) rfl (lb rfl) fun a S => ?_
  refine sMm S rfl rfl rfl rfl rfl fun a S => ?_
  rcases iteSome h with ⟨hc35, h⟩ | ⟨hc35, h⟩
  ·refine sSkN 2 2 false 42 S rfl rfl hc35 rfl fun a S => ?_
   refine sPickT (.bool true) S (wN rfl) rfl rfl hc35 rfl rfl (lb rfl) fun a S => ?_
   refine sMm S rfl rfl rfl rfl rfl fun a S => ?_
   refine sSkN 5 6 false 46 S rfl rfl rfl rfl fun a S => ?_
   refine sPickT (.bool true) S (wN rfl) rfl rfl rfl rfl rfl (lb rfl) fun a S => ?_
   refine sMm S rfl rfl rfl rfl rfl fun a S => ?_
   refine sSkN 5 13 false 53 S rfl rfl rfl rfl fun a S => ?_
   refine sPickT (.bool true) S (wN rfl) rfl rfl rfl rfl rfl (lb rfl) fun a S => ?_
   refine sMm S rfl rfl rfl rfl rfl fun a S => ?_
   refine sSkN 3 20 false 60 S rfl rfl rfl rfl fun a S => ?_
   refine sSkipU 23 true 63 64 S rfl rfl rfl rfl (lb rfl) fun a S => ?_
   refine sSkipU 23 true 63 65 S rfl rfl rfl rfl (lb rfl) fun a S => ?_
   refine sSkipU 23 true 63 66 S rfl rfl rfl rfl (lb rfl) fun a S => ?_
   refine sSkipU 23 true 63 67 S rfl rfl rfl rfl (lb rfl) fun a S => ?_
   refine sSkipU 23 true 63 68 S rfl rfl rfl rfl (lb rfl) fun a S => ?_
   refine sSk S rfl rfl rfl rfl rfl rfl fun a S => ?_
   refine sPickT (.bool true) S (wN rfl) rfl rfl rfl rfl rfl (lb rfl) fun a S => ?_
   exact lT (⟨true, Option.some.inj h, S.fix [2, 1, 0] [1, 0] (by decide) rfl rfl rfl⟩)
  refine sMove (iv p2) S (wG 2 false 42 rfl rfl rfl hc35) (.inl rfl) rfl rfl (lb rfl) fun a S => ?_
  refine sBin _ S (wG 2 false 42 rfl rfl rfl hc35) rfl rfl rfl (bGt _ _ _ _ .i64 p2 3) rfl (lb rfl) fun a S => ?_
  refine sPickF (.bool (decide (3 < p2))) S (wN rfl) rfl rfl hc35 rfl rfl (lb rfl) fun a S => ?_
  refine sMm S rfl rfl rfl rfl rfl fun a S => ?_
  rcases iteSome h with ⟨hc36, h⟩ | ⟨hc36, h⟩
  ·refine sSkN 5 6 false 46 S rfl rfl hc36 rfl fun a S => ?_
   refine sPickT (.bool true) S (wN rfl) rfl rfl hc36 rfl rfl (lb rfl) fun a S => ?_
   refine sMm S rfl rfl rfl rfl rfl fun a S => ?_
   refine sSkN 5 13 false 53 S rfl rfl rfl rfl fun a S => ?_
   refine sPickT (.bool true) S (wN rfl) rfl rfl rfl rfl rfl (lb rfl) fun a S => ?_
   refine sMm S rfl rfl rfl rfl rfl fun a S => ?_
   refine sSkN 3 20 false 60 S rfl rfl rfl rfl fun a S => ?_
   refine sSkipU 23 true 63 64 S rfl rfl rfl rfl (lb rfl) fun a S => ?_
   refine sSkipU 23 true 63 65 S rfl rfl rfl rfl (lb rfl) fun a S => ?_
   refine sSkipU 23 true 63 66 S rfl rfl rfl rfl (lb rfl) fun a S => ?_
   refine sSkipU 23 true 63 67 S rfl rfl rfl rfl (lb rfl) fun a S => ?_
   refine sSkipU 23 true 63 68 S rfl rfl rfl rfl (lb rfl) fun a S => ?_
   refine sSk S rfl rfl rfl rfl rfl rfl fun a S => ?_
   refine sPickT (.bool true) S (wN rfl) rfl rfl rfl rfl rfl (lb rfl) fun a S => ?_
   exact lT (⟨true, Option.some.inj h, S.fix [2, 1, 0] [1, 0] (by decide) rfl rfl rfl⟩)
  refine sField (b := b10) (off := 0) 0 0 S (wG 6 false 46 rfl rfl rfl hc36) rfl rfl rfl rfl rfl (lb rfl) fun a S => ?_
  refine sLoad1 2 (iv p0.W) S (wG 6 false 46 rfl rfl rfl hc36) rfl rfl rfl rfl rfl rfl (lb rfl) fun a S => ?_
  refine sField (b := b11) (off := 0) 0 0 S (wG 6 false 46 rfl rfl rfl hc36) rfl rfl rfl rfl rfl (lb rfl) fun a S => ?_
  refine sLoad1 1 (iv p1.W) S (wG 6 false 46 rfl rfl rfl hc36) rfl rfl rfl rfl rfl rfl (lb rfl) fun a S => ?_
  refine sBin _ S (wG 6 false 46 rfl rfl rfl hc36) rfl rfl rfl (bNe _ _ _ _ .i64 p0.W p1.W) rfl (lb rfl) fun a S => ?_
  refine sPickF (.bool (p0.W != p1.W)) S (wN rfl) rfl rfl hc36 rfl rfl (lb rfl) fun a S => ?_
  refine sMm S rfl rfl rfl rfl rfl fun a S => ?_
  rcases iteSome h with ⟨hc37, h⟩ | ⟨hc37, h⟩
  ·refine sSkN 5 13 false 53 S rfl rfl hc37 rfl fun a S => ?_
   refine sPickT (.bool true) S (wN rfl) rfl rfl hc37 rfl rfl (lb rfl) fun a S => ?_
   refine sMm S rfl rfl rfl rfl rfl fun a S => ?_
   refine sSkN 3 20 false 60 S rfl rfl rfl rfl fun a S => ?_
   refine sSkipU 23 true 63 64 S rfl rfl rfl rfl (lb rfl) fun a S => ?_
   refine sSkipU 23 true 63 65 S rfl rfl rfl rfl (lb rfl) fun a S => ?_
   refine sSkipU 23 true 63 66 S rfl rfl rfl rfl (lb rfl) fun a S => ?_
   refine sSkipU 23 true 63 67 S rfl rfl rfl rfl (lb rfl) fun a S => ?_
   refine sSkipU 23 true 63 68 S rfl rfl rfl rfl (lb rfl) fun a S => ?_
   refine sSk S rfl rfl rfl rfl rfl rfl fun a S => ?_
   refine sPickT (.bool true) S (wN rfl) rfl rfl rfl rfl rfl (lb rfl) fun a S => ?_
   exact lT (⟨true, Option.some.inj h, S.fix [2, 1, 0] [1, 0] (by decide) rfl rfl rfl⟩)
  refine sField (b := b10) (off := 0) 1 1 S (wG 13 false 53 rfl rfl rfl hc37) rfl rfl rfl rfl rfl (lb rfl) fun a S => ?_
  refine sLoad1 2 (iv p0.H) S (wG 13 false 53 rfl rfl rfl hc37) rfl rfl rfl rfl rfl rfl (lb rfl) fun a S => ?_
  refine sField (b := b11) (off := 0) 1 1 S (wG 13 false 53 rfl rfl rfl hc37) rfl rfl rfl rfl rfl (lb rfl) fun a S => ?_
  refine sLoad1 1 (iv p1.H) S (wG 13 false 53 rfl rfl rfl hc37) rfl rfl rfl rfl rfl rfl (lb rfl) fun a S => ?_
  refine sBin _ S (wG 13 false 53 rfl rfl rfl hc37) rfl rfl rfl (bNe _ _ _ _ .i64 p0.H p1.H) rfl (lb rfl) fun a S => ?_
  refine sPickF (.bool (p0.H != p1.H)) S (wN rfl) rfl rfl hc37 rfl rfl (lb rfl) fun a S => ?_
  refine sMm S rfl rfl rfl rfl rfl fun a S => ?_
  rcases iteSome h with ⟨hc38, h⟩ | ⟨hc38, h⟩
  ·refine sSkN 3 20 false 60 S rfl rfl hc38 rfl fun a S => ?_
   refine sSkipU 23 true 63 64 S rfl rfl rfl rfl (lb rfl) fun a S => ?_
   refine sSkipU 23 true 63 65 S rfl rfl rfl rfl (lb rfl) fun a S => ?_
   refine sSkipU 23 true 63 66 S rfl rfl rfl rfl (lb rfl) fun a S => ?_
   refine sSkipU 23 true 63 67 S rfl rfl rfl rfl (lb rfl) fun a S => ?_
   refine sSkipU 23 true 63 68 S rfl rfl rfl rfl (lb rfl) fun a S => ?_
   refine sSk S rfl rfl rfl hc38 rfl rfl fun a S => ?_
   refine sPickT (.bool true) S (wN rfl) rfl rfl hc38 rfl rfl (lb rfl) fun a S => ?_
   exact lT (⟨true, Option.some.inj h, S.fix [2, 1, 0] [1, 0] (by decide) rfl rfl rfl⟩)
  refine sMove (iv p2) S (wG 20 false 60 rfl rfl rfl hc38) (.inl rfl) rfl rfl (lb rfl) fun a S => ?_
  refine sBin _ S (wG 20 false 60 rfl rfl rfl hc38) rfl rfl rfl (bGt _ _ _ _ .i64 p2 1) rfl (lb rfl) fun a S => ?_
  refine sMove (.bool (decide (1 < p2))) S (wG 20 false 60 rfl rfl rfl hc38) (.inl rfl) rfl rfl (lb rfl) fun a S => ?_
  rcases iteSome h with ⟨hc39, h⟩ | ⟨hc39, h⟩
  rotate_left
  ·refine sSkN 5 23 true 63 S rfl rfl hc39 rfl fun a S => ?_
   refine sPickF (.bool false) S (wG 20 false 60 rfl rfl rfl hc38) rfl rfl hc39 rfl rfl (lb rfl) fun a S => ?_
   refine sPickF (.bool false) S (wN rfl) rfl rfl hc38 rfl rfl (lb rfl) fun a S => ?_
   exact lT (⟨false, Option.some.inj h, S.fix [2, 1, 0] [1, 0] (by decide) rfl rfl rfl⟩)
  refine sField (b := b10) (off := 0) 0 0 S (wG 23 true 63 rfl rfl rfl hc39) rfl rfl rfl rfl rfl (lb rfl) fun a S => ?_
  refine sLoad1 2 (iv p0.W) S (wG 23 true 63 rfl rfl rfl hc39) rfl rfl rfl rfl rfl rfl (lb rfl) fun a S => ?_
  refine sField (b := b10) (off := 0) 1 1 S (wG 23 true 63 rfl rfl rfl hc39) rfl rfl rfl rfl rfl (lb rfl) fun a S => ?_
  refine sLoad1 2 (iv p0.H) S (wG 23 true 63 rfl rfl rfl hc39) rfl rfl rfl rfl rfl rfl (lb rfl) fun a S => ?_
  refine sBin _ S (wG 23 true 63 rfl rfl rfl hc39) rfl rfl rfl (bNe _ _ _ _ .i64 p0.W p0.H) rfl (lb rfl) fun a S => ?_
  refine sPickT (.bool (p0.W != p0.H)) S (wG 20 false 60 rfl rfl rfl hc38) rfl rfl hc39 rfl rfl (lb rfl) fun a S => ?_
  refine sPickF (.bool (p0.W != p0.H)) S (wN rfl) rfl rfl hc38 rfl rfl (lb rfl) fun a S => ?_
  exact lT (⟨p0.W != p0.H, Option.some.inj h, S.fix [2, 1, 0] [1, 0] (by decide) rfl rfl rfl⟩)
 obtain ⟨o32, rfl, S⟩ := hI
 have h := g34
 clear g34
 try dsimp only at h
 rcases iteSome h with ⟨hc40, h⟩ | ⟨hc40, h⟩
 ·refine sCondT S rfl hc40 ?_
  refine sSeq (fun K41 hK41 => ?_)
  refine sRegion ?_
  refine sBuild [] [iv 0, iv 0] S (wN rfl) rfl rfl rfl rfl (lb rfl) fun a S => ?_
  refine sMa S rfl rfl rfl rfl rfl fun a S => ?_
  refine sMa S rfl rfl rfl rfl rfl fun a S => ?_
  refine sStore (p := b12) (off := 0) (T := 33) (vs := [iv 0, iv 0]) (v := .agg #[iv 0, iv 0]) 2 [iv 0, iv 0] S (wN rfl) rfl rfl rfl rfl rfl rfl rfl (by simp) rfl fun a w S => ?_
  refine sMa S rfl rfl rfl rfl rfl fun a S => ?_
  refine lT (hK41 _ _ ?_)
  obtain rfl := Option.some.inj h
  have S := S.learn (fRep r_api_Point (.agg #[iv 0, iv 0]) (api_Point.mk 0 0)) rfl
  exact wp_ret (rThen (sRetM0 (.tuple #[iv 0, iv 0, .agg #[iv 0, iv 0], iv 2]) S (rsl4 rfl (rvT (t := 6) (v := iv 0) S rfl) (rvT (t := 7) (v := iv 0) S rfl) (rvN (c := 8) (t := 33) (T := 33) (p := b12) 0 [iv 0, iv 0] S rfl rfl rfl rfl) (rvT (t := 9) (v := iv 2) S rfl)) ⟨(.agg #[iv 0, iv 0]), rfl, S.mem.sel [] [0] (by decide) rfl rfl⟩))
 refine sCondF S rfl hc40 ?_
 refine wp_skip (leafT (hK31 _ _ ?_))
 refine sSeq (fun K42 hK42 => ?_)
 refine sRegion ?_
 refine sField (b := b10) (off := 0) 2 2 S (wN rfl) rfl rfl rfl rfl rfl (lb rfl) fun a S => ?_
 refine sLoad1 0 (.slice ad3 p0.Bits.length cp4) S (wN rfl) rfl rfl rfl rfl rfl rfl (lb rfl) fun a S => ?_
 refine sLen S (wN rfl) rfl Try.underlying22 rfl rfl (lb rfl) fun a S => ?_
 refine sBin _ S (wN rfl) rfl rfl rfl (bAdd _ _ _ _ (p0.Bits.length : Int) 1) rfl (lb rfl) fun a S => ?_
 refine sBuild [] [iv 0, iv 0, iv 0] S (wN rfl) rfl rfl rfl rfl (lb rfl) fun a S => ?_
 refine sAlloc (iv 0) S (wN rfl) rfl rfl [iv 0] rfl rfl (lb rfl) fun a b43 w S => ?_
 refine sAlloc (.agg #[iv 0, iv 0, iv 0]) S (wN rfl) rfl rfl [iv 0, iv 0, iv 0] rfl rfl (lb rfl) fun a b44 w S => ?_
 refine sStore (p := b43) (off := 0) (T := 3) (vs := [iv 0]) (v := iv (w64 ((p0.Bits.length : Int) + 1))) 1 [iv (w64 ((p0.Bits.length : Int) + 1))] S (wN rfl) rfl rfl rfl rfl rfl rfl rfl (by simp) rfl fun a w S => ?_
 refine sStore (p := b44) (off := 0) (T := 93) (vs := [iv 0, iv 0, iv 0]) (v := .agg #[iv 0, iv 0, iv 0]) 1 [iv 0, iv 0, iv 0] S (wN rfl) rfl rfl rfl rfl rfl rfl rfl (by simp) rfl fun a w S => ?_
 refine lT (hK42 _ _ ?_)
 obtain ⟨t50, h, g51⟩ := bindSome h
 refine sCut (fun a w => ∃ o45, ∃ o46, ∃ o47, ∃ o48, (o45, o46, o47, o48) = t50 ∧ ∃ dk49, St [mark dk49] E [] w0 99 a w [(8, .pointer (some ⟨b12, 0, none⟩)), (12, .pointer (some ⟨b43, 0, none⟩)), (13, .pointer (some ⟨b44, 0, none⟩))] [eBox b12 33 [iv 0, iv 0], eBox b43 3 [iv o45], eBox b44 93 [iv o46, iv o47, iv o48], eDef dk49] []) ?_ (fun a w hI => ?_)
 rotate_left
 ·obtain ⟨o45, o46, o47, o48, rfl, dk49, S⟩ := hI
  have h := g51
  clear g51
  try dsimp only at h
  refine sSeq (fun K93 hK93 => ?_)
  refine sDraw (nf := [7]) (W := [(0, 94, iv o45), (1, 95, .pointer (some ⟨b44, 0, none⟩)), (2, 96, iv o46), (3, 97, .pointer (some ⟨b44, 1, none⟩)), (4, 98, .agg #[iv o47, iv o48]), (5, 6, iv o45), (6, 7, iv o46)]) rfl S ?_
  refine node_by (A := anc_compare_Nearest_0) 9 (by kernel_rfl) (by kernel_rfl) (by kernel_rfl) (by kernel_rfl) (by kernel_rfl) [0, 1, 2, 3, 4, 5, 6] (by kernel_rfl) (by decide) (by decide) (fF ?_ (fF ?_ (fF ?_ (fF ?_ (fF ?_ (fF ?_ (fF ?_ (fN ?_ (fE 7 (trivial)))))))))) [] (fun q hq => by cases hq) (fun hY => absurd (hY 7 (by decide)) (by decide))
  ·refine fJ [(12, _)] 0 [none] fun G a w S => ?_
   exact sLoad1 1 (iv o45) S (wN rfl) rfl rfl rfl rfl rfl rfl (lb rfl) fun a S => leafL ⟨rfl, S⟩
  ·refine fJ [(13, _)] 1 [none] fun G a w S => ?_
   exact sField (b := b44) (off := 0) 0 0 S (wN rfl) rfl rfl rfl rfl rfl (lb rfl) fun a S => leafL ⟨rfl, S⟩
  ·refine fJ [(95, _)] 2 [some 1] fun G a w S => ?_
   exact sLoad1 2 (iv o46) S (wN rfl) rfl rfl rfl rfl rfl rfl (lb rfl) fun a S => leafL ⟨rfl, S⟩
  ·refine fJ [(13, _)] 3 [none] fun G a w S => ?_
   exact sField (b := b44) (off := 0) 1 1 S (wN rfl) rfl rfl rfl rfl rfl (lb rfl) fun a S => leafL ⟨rfl, S⟩
  ·refine fJ [(97, _)] 4 [some 3] fun G a w S => ?_
   exact sLoadN (p := b44) (off := 1) (T := 93) (vs := [iv o46, iv o47, iv o48]) 2 [iv o47, iv o48] S (wN rfl) rfl rfl rfl rfl rfl rfl rfl (lb rfl) fun a S => leafL ⟨rfl, S⟩
  ·exact fM 5 (some 0) rfl rfl rfl rfl (.inr rfl) rfl rfl rfl
  ·exact fM 6 (some 2) rfl rfl rfl rfl (.inr rfl) rfl rfl rfl
  refine ⟨_, [(8, .pointer (some ⟨b12, 0, none⟩)), (98, .agg #[iv o47, iv o48])], rfl, (srcs_of [none, some 4] rfl rfl rfl), fun G a w S => ?_⟩
  refine sStore (p := b12) (off := 0) (T := 33) (vs := [iv 0, iv 0]) (v := .agg #[iv o47, iv o48]) 0 [iv o47, iv o48] S (wN rfl) rfl rfl rfl rfl rfl rfl rfl (by simp) rfl fun a w S => ?_
  refine leafL ⟨rfl, _, _, .inr ⟨[(8, 9, iv 0)], rfl, S, hz_of rfl, ?_⟩⟩
  refine node_by (A := anc_compare_Nearest_0) 9 (by kernel_rfl) (by kernel_rfl) (by kernel_rfl) (by kernel_rfl) (by kernel_rfl) [8, 0, 1, 2, 3, 4, 5, 6] (by kernel_rfl) (by decide) (by decide) (fD 7 (fD 7 (fD 7 (fD 7 (fD 7 (fD 7 (fD 7 (fY (fF ?_ (trivial)))))))))) [(6, iv o45), (7, iv o46), (8, .pointer (some ⟨b12, 0, none⟩)), (9, iv 0)] (fin_of [some 6, some 7, none, some 0] rfl (by kernel_rfl) (by kernel_rfl)) (fun _ a w S => ?_)
  ·refine fJ [] 0 [] fun G a w S => ?_
   exact sMa S rfl rfl rfl rfl rfl fun a S => leafL ⟨rfl, S⟩
  refine leafT (hK93 _ _ ?_)
  refine wp_ret (sRetM1 3 S rfl (fun a w S => ?_))
  obtain rfl := Option.some.inj h
  have S := S.learn (fRep r_api_Point (.agg #[iv o47, iv o48]) (api_Point.mk o47 o48)) rfl
  exact sFin (.tuple #[iv o45, iv o46, .agg #[iv o47, iv o48], iv 0]) S (rsl4 rfl (rvT (t := 6) (v := iv o45) S rfl) (rvT (t := 7) (v := iv o46) S rfl) (rvN (c := 8) (t := 33) (T := 33) (p := b12) 0 [iv o47, iv o48] S rfl rfl rfl rfl) (rvT (t := 9) (v := iv 0) S rfl)) ⟨(.agg #[iv o47, iv o48]), rfl, S.mem.sel [] [0] (by decide) rfl rfl⟩
 refine sSeq (fun K52 hK52 => ?_)
 refine sRegion ?_
 refine sLoadN (p := b10) (off := 0) (T := 24) (vs := [iv p0.W, iv p0.H, .slice ad3 p0.Bits.length cp4]) 2 [iv p0.W, iv p0.H, .slice ad3 p0.Bits.length cp4] S (wN rfl) rfl rfl rfl rfl rfl rfl rfl (lb rfl) fun a S => ?_
 refine sMm S rfl rfl rfl rfl rfl fun a S => ?_
 obtain ⟨r53, hx54, h⟩ := bindSome h
 have S := S.learn (fRep r_api_Grid (.agg #[iv p0.W, iv p0.H, .slice ad3 p0.Bits.length cp4]) p0) ⟨_, rfl, S.mem.know (i := 0) (e := fRep (rL rB) (.slice ad3 p0.Bits.length cp4) p0.Bits) rfl⟩
 refine sCall (X := Value × Value) (f := 49) (vs := [.agg #[iv p0.W, iv p0.H, .slice ad3 p0.Bits.length cp4], iv p2]) (val := c_compare_ways_val r53) (B' := fun _ => []) (D' := c_compare_ways_D r53) [] [eBox b44 93 [iv 0, iv 0, iv 0], eBox b43 3 [iv (w64 ((p0.Bits.length : Int) + 1))], eBox b10 24 [iv p0.W, iv p0.H, .slice ad3 p0.Bits.length cp4], eBox b11 24 [iv p1.W, iv p1.H, .slice ad7 p1.Bits.length cp8], eBox b12 33 [iv 0, iv 0]] [fRep r_api_Grid (.agg #[iv p0.W, iv p0.H, .slice ad3 p0.Bits.length cp4]) p0] [0, 1, 2, 3, 4] [0] S (wN rfl) rfl callee49 rfl (by decide) rfl rfl (fun E1 w1 S1 => c_compare_ways E1 w1 p0 (.agg #[iv p0.W, iv p0.H, .slice ad3 p0.Bits.length cp4]) p2 r53 hx54 S1) rfl (lb rfl) fun xx a w S => ?_
 obtain ⟨u55, u56⟩ := xx
 refine lT (hK52 _ _ ?_)
 refine wp_block ?_
 obtain ⟨t91, hl92, g90⟩ := bindSome h
 replace S : St [] E [] w0 99 a w [(4, .pointer (some ⟨b11, 0, none⟩)), (8, .pointer (some ⟨b12, 0, none⟩)), (12, .pointer (some ⟨b43, 0, none⟩)), (13, .pointer (some ⟨b44, 0, none⟩)), (79, .func (.func 81) #[] #[u55, u56])] [eBox b11 24 [iv p1.W, iv p1.H, .slice ad7 p1.Bits.length cp8], eBox b12 33 [iv 0, iv 0], eBox b43 3 [iv (w64 ((p0.Bits.length : Int) + 1))], eBox b44 93 [iv 0, iv 0, iv 0]] [fPtr (rI .i64) (u55) r53.1, fPtr r_api_Grid (u56) r53.2, fRep (rL rB) (.slice ad7 p1.Bits.length cp8) p1.Bits] := S.fix [3, 4, 1, 0] [0, 1, 4] (by decide) rfl rfl rfl
 refine sRange2 (B := compare_Nearest_l2 p1) (fun s0 L D => match s0 with | (s57, s58, s59, s60) => L = [eBox b11 24 [iv p1.W, iv p1.H, .slice ad7 p1.Bits.length cp8], eBox b12 33 [iv 0, iv 0], eBox b43 3 [iv s57], eBox b44 93 [iv s58, iv s59, iv s60]] ∧ D = [fPtr (rI .i64) (u55) r53.1, fPtr r_api_Grid (u56) r53.2, fRep (rL rB) (.slice ad7 p1.Bits.length cp8) p1.Bits]) (fun t0 c L D => match t0 with | (e61, e62, e63, e64) => c = .exit 0 ∧ L = [eBox b12 33 [iv 0, iv 0], eBox b43 3 [iv e61], eBox b44 93 [iv e62, iv e63, iv e64]] ∧ D = []) [0, 1] S hl92 rfl callee81 (it_compare_ways_1 r53.1 u55 r53.2 u56) rfl (by decide) (by decide) ⟨rfl, rfl⟩ ?_ ?_ ?_
 ·intro E l0 s0 x65 x67 u66 u68 b L D K a w0 hK hIL hB S
  clear hl92 g90 h hK
  obtain ⟨s57, s58, s59, s60⟩ := s0
  unfold compare_Nearest_l2 at hB
  dsimp only at hB hIL
  obtain ⟨rfl, rfl⟩ := hIL
  have h := hB
  clear hB
  obtain rfl : u66 = .agg #[iv x65.op, iv x65.at_.X, iv x65.at_.Y] := S.mem.know (i := 0) (e := fRep r_compare_way (u66) x65) rfl
  obtain ⟨u69, rfl, hu70⟩ := S.mem.know (i := 1) (e := fRep r_api_Grid (u68) x67) rfl
  have S := S.learn (fRep (rL rB) u69 x67.Bits) hu70
  obtain ⟨ad71, cp72, _, rfl, _⟩ := hu70
  refine sSeqR (fun K73 hK73 => ?_)
  refine sRegionR (by repeat (first | exact roundU_out | exact it_out | exact lo_false | refine lo_then ?_ | refine lo_block ?_)) rfl ?_
  refine sAlloc (.agg #[iv 0, iv 0, iv 0]) S (wN rfl) rfl rfl [iv 0, iv 0, iv 0] rfl rfl (lb rfl) fun a b74 w S => ?_
  refine sStore (p := b74) (off := 0) (T := 93) (vs := [iv 0, iv 0, iv 0]) (v := .agg #[iv x65.op, iv x65.at_.X, iv x65.at_.Y]) 0 [iv x65.op, iv x65.at_.X, iv x65.at_.Y] S (wN rfl) rfl rfl rfl rfl rfl rfl rfl (by simp) rfl fun a w S => ?_
  refine lT (hK73 _ _ ?_)
  refine sRegionR (by repeat (first | exact roundU_out | exact it_out | exact lo_false | refine lo_then ?_ | refine lo_block ?_)) rfl ?_
  refine sAlloc (.agg #[iv 0, iv 0, .slice none 0 0]) S (wN rfl) rfl rfl [iv 0, iv 0, .slice none 0 0] rfl rfl (lb rfl) fun a b75 w S => ?_
  refine sStore (p := b75) (off := 0) (T := 24) (vs := [iv 0, iv 0, .slice none 0 0]) (v := .agg #[iv x67.W, iv x67.H, .slice ad71 x67.Bits.length cp72]) 0 [iv x67.W, iv x67.H, .slice ad71 x67.Bits.length cp72] S (wN rfl) rfl rfl rfl rfl rfl rfl rfl (by simp) rfl fun a w S => ?_
  refine lT (⟨_, _, _, S, fun K a w0 hK S => ?_⟩)
  refine wpIn_block ?_
  obtain ⟨t80, h, g81⟩ := bindSome h
  refine sCutR (fun a w => ∃ o76, ∃ o77, ∃ o78, ∃ o79, (o76, o77, o78, o79) = t80 ∧ St [] E K w0 99 a w [(4, .pointer (some ⟨b11, 0, none⟩)), (8, .pointer (some ⟨b12, 0, none⟩)), (12, .pointer (some ⟨b43, 0, none⟩)), (13, .pointer (some ⟨b44, 0, none⟩)), (79, .func (.func 81) #[] #[u55, u56]), (80, .agg #[iv x65.op, iv x65.at_.X, iv x65.at_.Y]), (81, .agg #[iv x67.W, iv x67.H, .slice ad71 x67.Bits.length cp72])] [eBox b11 24 [iv p1.W, iv p1.H, .slice ad7 p1.Bits.length cp8], eBox b12 33 [iv 0, iv 0], eBox b43 3 [iv o76], eBox b44 93 [iv o77, iv o78, iv o79]] [fPtr (rI .i64) (u55) r53.1, fPtr r_api_Grid (u56) r53.2, fRep (rL rB) (.slice ad71 x67.Bits.length cp72) x67.Bits, fRep (rL rB) (.slice ad7 p1.Bits.length cp8) p1.Bits]) ?_ (fun a w hI => ?_)
  rotate_left
  ·obtain ⟨o76, o77, o78, o79, rfl, S⟩ := hI
   have h := g81
   clear g81
   try dsimp only at h
   refine sSeqR (fun K87 hK87 => ?_)
   refine sRegionR (by repeat (first | exact roundU_out | exact it_out | exact lo_false | refine lo_then ?_ | refine lo_block ?_)) rfl ?_
   refine sLoad1 2 (iv o76) S (wN rfl) rfl rfl rfl rfl rfl rfl (lb rfl) fun a S => ?_
   refine sBin _ S (wN rfl) rfl rfl rfl (bEq _ _ _ _ .i64 o76 0) rfl (lb rfl) fun a S => ?_
   refine lT (hK87 _ _ ?_)
   rcases iteSome h with ⟨hc88, h⟩ | ⟨hc88, h⟩
   ·refine sCondTR S rfl hc88 ?_
    exact wpIn_exit (xMiss rfl (rnX (o76, o77, o78, o79) _ _ [] (Option.some.inj h) ⟨rfl, rfl, rfl⟩ (S.fix [1, 2, 3] [] (by decide) rfl rfl rfl)))
   refine sCondFR S rfl hc88 ?_
   exact wpIn_skip (leafB (rnN (o76, o77, o78, o79) _ _ [] (Option.some.inj h) ⟨rfl, rfl⟩ (S.fix [0, 1, 2, 3] [0, 1, 3] (by decide) rfl rfl rfl)))
  refine sSeqR (fun K82 hK82 => ?_)
  refine sRegionR (by repeat (first | exact roundU_out | exact it_out | exact lo_false | refine lo_then ?_ | refine lo_block ?_)) rfl ?_
  refine sField (b := b75) (off := 0) 2 2 S (wN rfl) rfl rfl rfl rfl rfl (lb rfl) fun a S => ?_
  refine sLoad1 0 (.slice ad71 x67.Bits.length cp72) S (wN rfl) rfl rfl rfl rfl rfl rfl (lb rfl) fun a S => ?_
  refine sField (b := b11) (off := 0) 2 2 S (wN rfl) rfl rfl rfl rfl rfl (lb rfl) fun a S => ?_
  refine sLoad1 2 (.slice ad7 p1.Bits.length cp8) S (wN rfl) rfl rfl rfl rfl rfl rfl (lb rfl) fun a S => ?_
  obtain ⟨r83, hx84, h⟩ := bindSome h
  have S1 := S.mem
  refine sCallQ (X := Unit) (f := 46) (vs := [.slice ad71 x67.Bits.length cp72, .slice ad7 p1.Bits.length cp8]) (val := fun _ => iv r83) S (wN rfl) rfl callee46 rfl (S1.quiet [0, 5] rfl) (fun E1 w1 S1 => c_compare_differ E1 w1 x67.Bits (.slice ad71 x67.Bits.length cp72) p1.Bits (.slice ad7 p1.Bits.length cp8) r83 hx84 S1) rfl (lb rfl) fun _ a w S => ?_
  refine sMa S rfl rfl rfl rfl rfl fun a S => ?_
  refine lT (hK82 _ _ ?_)
  refine sSeqR (fun K85 hK85 => ?_)
  refine sRegionR (by repeat (first | exact roundU_out | exact it_out | exact lo_false | refine lo_then ?_ | refine lo_block ?_)) rfl ?_
  refine sMm S rfl rfl rfl rfl rfl fun a S => ?_
  refine sLoad1 4 (iv s57) S (wN rfl) rfl rfl rfl rfl rfl rfl (lb rfl) fun a S => ?_
  refine sBin _ S (wN rfl) rfl rfl rfl (bLt _ _ _ _ .i64 r83 s57) rfl (lb rfl) fun a S => ?_
  refine lT (hK85 _ _ ?_)
  rcases iteSome h with ⟨hc86, h⟩ | ⟨hc86, h⟩
  rotate_left
  ·refine sCondFR S rfl hc86 ?_
   exact wpIn_skip (leafT (⟨s57, s58, s59, s60, Option.some.inj h, S.fix [2, 3, 4, 5] [3, 4, 0, 5] (by decide) rfl rfl rfl⟩))
  refine sCondTR S rfl hc86 ?_
  refine sDrawR (A := []) (nf := [2, 3]) (W := [(0, 90, iv r83), (1, 91, .agg #[iv x65.op, iv x65.at_.X, iv x65.at_.Y])]) (by repeat (first | exact roundU_out | exact it_out | exact lo_false | refine lo_then ?_ | refine lo_block ?_)) rfl rfl S ?_
  refine node_by (A := [[], [], [0], [0, 1, 2]]) (nf := [2, 3]) (Y := []) (W := [(0, 90, iv r83), (1, 91, .agg #[iv x65.op, iv x65.at_.X, iv x65.at_.Y])]) 4 (by kernel_rfl) (by kernel_rfl) (by kernel_rfl) (by kernel_rfl) (by kernel_rfl) [0, 1] (by kernel_rfl) (by decide) (by decide) (fF ?_ (fF ?_ (fN ?_ (aB 3 0 2 (by decide) (trivial))))) [] (fun q hq => by cases hq) (fun hY => absurd (hY 2 (by decide)) (by decide))
  ·exact fM 0 none rfl rfl rfl rfl (.inl rfl) rfl rfl rfl
  ·refine fJ [(14, _)] 1 [none] fun G a w S => ?_
   exact sLoadN (p := b74) (off := 0) (T := 93) (vs := [iv x65.op, iv x65.at_.X, iv x65.at_.Y]) 1 [iv x65.op, iv x65.at_.X, iv x65.at_.Y] S (wN rfl) rfl rfl rfl rfl rfl rfl rfl (lb rfl) fun a S => leafL ⟨rfl, S⟩
  refine ⟨_, [(12, .pointer (some ⟨b43, 0, none⟩)), (90, iv r83)], rfl, (srcs_of [none, some 0] rfl rfl rfl), fun G a w S => ?_⟩
  refine sStore (p := b43) (off := 0) (T := 3) (vs := [iv s57]) (v := iv r83) 4 [iv r83] S (wN rfl) rfl rfl rfl rfl rfl rfl rfl (by simp) rfl fun a w S => ?_
  refine leafL ⟨rfl, _, _, .inr ⟨[], rfl, S, hz_of rfl, ?_⟩⟩
  refine node_by (A := [[], [], [0], [0, 1, 2]]) (nf := [2, 3]) (Y := [2]) 4 (by kernel_rfl) (by kernel_rfl) (by kernel_rfl) (by kernel_rfl) (by kernel_rfl) [0, 1] (by kernel_rfl) (by decide) (by decide) (fD 2 (fF ?_ (fY (fN ?_ (trivial))))) [] (fun q hq => by cases hq) (fun hY => absurd (hY 3 (by decide)) (by decide))
  ·refine fJ [(14, _)] 1 [none] fun G a w S => ?_
   exact sLoadN (p := b74) (off := 0) (T := 93) (vs := [iv x65.op, iv x65.at_.X, iv x65.at_.Y]) 2 [iv x65.op, iv x65.at_.X, iv x65.at_.Y] S (wN rfl) rfl rfl rfl rfl rfl rfl rfl (lb rfl) fun a S => leafL ⟨rfl, S⟩
  refine ⟨_, [(13, .pointer (some ⟨b44, 0, none⟩)), (91, .agg #[iv x65.op, iv x65.at_.X, iv x65.at_.Y])], rfl, (srcs_of [none, some 1] rfl rfl rfl), fun G a w S => ?_⟩
  refine sStore (p := b44) (off := 0) (T := 93) (vs := [iv s58, iv s59, iv s60]) (v := .agg #[iv x65.op, iv x65.at_.X, iv x65.at_.Y]) 5 [iv x65.op, iv x65.at_.X, iv x65.at_.Y] S (wN rfl) rfl rfl rfl rfl rfl rfl rfl (by simp) rfl fun a w S => ?_
  refine leafL ⟨rfl, _, _, .inr ⟨[], rfl, S, hz_of rfl, ?_⟩⟩
  refine node_by (A := [[], [], [0], [0, 1, 2]]) (nf := [2, 3]) (Y := [3, 2]) 4 (by kernel_rfl) (by kernel_rfl) (by kernel_rfl) (by kernel_rfl) (by kernel_rfl) [0, 1] (by kernel_rfl) (by decide) (by decide) (fD 3 (fD 3 (fY (fY (trivial))))) [(4, .pointer (some ⟨b11, 0, none⟩)), (8, .pointer (some ⟨b12, 0, none⟩)), (12, .pointer (some ⟨b43, 0, none⟩)), (13, .pointer (some ⟨b44, 0, none⟩)), (79, .func (.func 81) #[] #[u55, u56]), (80, .agg #[iv x65.op, iv x65.at_.X, iv x65.at_.Y]), (81, .agg #[iv x67.W, iv x67.H, .slice ad71 x67.Bits.length cp72])] (fin_of [none, none, none, none, none, none, none] rfl (by kernel_rfl) (by kernel_rfl)) (fun _ a w S => ?_)
  exact leafT (⟨r83, x65.op, x65.at_.X, x65.at_.Y, Option.some.inj h, S.fix [4, 5, 1, 0] [3, 4, 0, 5] (by decide) rfl rfl rfl⟩)
 ·intro dk89 s0 L D a w hr hIL S
  clear h
  obtain ⟨s57, s58, s59, s60⟩ := s0
  obtain rfl := hr
  dsimp only at g90 hIL
  obtain ⟨rfl, rfl⟩ := hIL
  have h := g90
  clear g90 hl92
  replace S : St [mark dk89] E [] w0 99 a w [(4, .pointer (some ⟨b11, 0, none⟩)), (8, .pointer (some ⟨b12, 0, none⟩)), (12, .pointer (some ⟨b43, 0, none⟩)), (13, .pointer (some ⟨b44, 0, none⟩)), (79, .func (.func 81) #[] #[u55, u56])] [eBox b11 24 [iv p1.W, iv p1.H, .slice ad7 p1.Bits.length cp8], eBox b12 33 [iv 0, iv 0], eBox b43 3 [iv s57], eBox b44 93 [iv s58, iv s59, iv s60], eDef dk89] [fPtr (rI .i64) (u55) r53.1, fPtr r_api_Grid (u56) r53.2, fRep (rL rB) (.slice ad7 p1.Bits.length cp8) p1.Bits] := S
  exact leafB (leafT (⟨s57, s58, s59, s60, Option.some.inj h, dk89, S.fix [1, 2, 3, 4] [] (by decide) rfl rfl rfl⟩))
 ·intro dk89 c0 t0 L D a w hr hIX S
  clear h
  obtain rfl := hr
  obtain ⟨e61, e62, e63, e64⟩ := t0
  dsimp only at g90 hIX
  obtain ⟨rfl, rfl, rfl⟩ := hIX
  have h := g90
  clear g90 hl92
  replace S : St [mark dk89] E [] w0 99 a w [(4, .pointer (some ⟨b11, 0, none⟩)), (8, .pointer (some ⟨b12, 0, none⟩)), (12, .pointer (some ⟨b43, 0, none⟩)), (13, .pointer (some ⟨b44, 0, none⟩)), (79, .func (.func 81) #[] #[u55, u56])] [eBox b12 33 [iv 0, iv 0], eBox b43 3 [iv e61], eBox b44 93 [iv e62, iv e63, iv e64], eDef dk89] [] := S
  exact wp_exit (xHit (leafT (⟨e61, e62, e63, e64, Option.some.inj h, dk89, S.fix [0, 1, 2, 3] [] (by decide) rfl rfl rfl⟩)))
end Go.Proofs.Ytffikfajljbmnaa
namespace Go.Proofs.Ytffikfajljbmnaa
open Go.RowKit
noncomputable def F_chart_counted (p0 : api_Chart) : Option api_Chart :=
 some p0
def c_chart_counted_val (r : api_Chart) (x : Value) : Value := .func (.func 99) #[] #[x]
def c_chart_counted_D (r : api_Chart) (x : Value) : List Fact := [fPtr r_api_Chart x r]
set_option maxHeartbeats 4000000 in
set_option maxRecDepth 100000 in
theorem c_chart_counted (E : Nat → Prop) (w0 : World) (p0 : api_Chart) (v0 : Value) (r : api_Chart) (h : F_chart_counted p0 = some r) (S : St0 E [] w0 w0 [] [fRep r_api_Chart (v0) p0]) :
 Calls Try.prog 82 #[v0] w0 (Ret (X := Value) E [] w0 (c_chart_counted_val r) (fun _ => []) (c_chart_counted_D r)) := by
 unfold F_chart_counted at h
 obtain ⟨u1, rfl, hu2⟩ := S.know (i := 0) (e := fRep r_api_Chart (v0) p0) rfl
 have S := S.learn (fRep (rL r_api_Row) u1 p0.Rows) hu2
 obtain ⟨ad3, cp4, _, rfl, _⟩ := hu2
 refine sEnter (args := [.agg #[iv p0.Start, .slice ad3 p0.Rows.length cp4]]) 4 Try.func82 rfl rfl (by simp) S (fun a S => ?_)
 refine sSeq (fun K5 hK5 => ?_)
 refine sRegion ?_
 refine sBox (v := .agg #[iv p0.Start, .slice ad3 p0.Rows.length cp4]) S (wN rfl) rfl rfl [iv p0.Start, .slice ad3 p0.Rows.length cp4] rfl rfl (lb rfl) fun a b6 w S => ?_
 refine sMa S rfl rfl rfl rfl rfl fun a S => ?_
 refine lT (hK5 _ _ ?_)
 refine sSeq (fun K7 hK7 => ?_)
 refine sRegion ?_
 refine sFunc (g := 99) (vs := [.pointer (some ⟨b6, 0, none⟩)]) S (wN rfl) rfl rfl rfl (lb rfl) fun a S => ?_
 refine sMa S rfl rfl rfl rfl rfl fun a S => ?_
 refine lT (hK7 _ _ ?_)
 have S := S.shutB (r := r_api_Chart) (T := 42) (b := b6) (cs := [iv p0.Start, .slice ad3 p0.Rows.length cp4]) 0 (.agg #[iv p0.Start, .slice ad3 p0.Rows.length cp4]) p0 rfl rfl (S.mem.know (i := 1) (e := fRep r_api_Chart (.agg #[iv p0.Start, .slice ad3 p0.Rows.length cp4]) p0) rfl)
 obtain rfl := Option.some.inj h
 exact wp_ret (sRet (.func (.func 99) #[] #[.pointer (some ⟨b6, 0, none⟩)]) S (rsl1 rfl (rvT (t := 2) (v := .func (.func 99) #[] #[.pointer (some ⟨b6, 0, none⟩)]) S rfl)) ⟨(.pointer (some ⟨b6, 0, none⟩)), rfl, S.mem.sel [] [0] (by decide) rfl rfl⟩)
end Go.Proofs.Ytffikfajljbmnaa
namespace Go.Proofs.Ytffikfajljbmnaa
open Go.RowKit
noncomputable def chart_counted_1_l1 {σ τ : Type} (p0 : api_Chart) (B : σ → (Int × chart_count) → Option (σ ⊕ τ)) : (Int × Int × σ) → Option ((Int × Int × σ) ⊕ ((σ ⊕ τ) ⊕ (σ))) := fun s0 => match s0 with
 | (s11, s12, gz13) =>
  if decide (s12 < (p0.Rows.length : Int)) then
   Option.bind (idxO p0.Rows s12) fun x23 =>
   Option.bind (F_stitch_Uses x23.Cells) fun r36 =>
   Option.bind (α := (Int × Int)) (
    if r36.2 != 0 then
     some (0, r36.2)
    else
     if r36.1 != s11 then
      some (0, 26)
     else
      Option.bind (F_stitch_Makes x23.Cells) fun r46 =>
      some (r46.1, 0)) fun (o38, o39) =>
   Option.bind (B gz13 (s12, (chart_count.mk s11 o38 o39))) fun y51 =>
   match y51 with
   | .inl gz53 =>
    if ((chart_count.mk s11 o38 o39).e) != 0 then
     some (.inr (.inl (.inl gz53)))
    else
     some (.inl ((chart_count.mk s11 o38 o39).after, w64 (s12 + 1), gz53))
   | .inr tz54 =>
    some (.inr (.inl (.inr tz54)))
  else
   some (.inr (.inr gz13))
noncomputable def I_chart_counted_1 (p0 : api_Chart) (σ τ : Type) (B : σ → (Int × chart_count) → Option (σ ⊕ τ)) (gz0 : σ) : Option (σ ⊕ τ) :=
 Option.bind (whileO (chart_counted_1_l1 p0 B) (p0.Start, 0, gz0)) fun z0 => match z0 with
  | .inl z =>
   some z
  | .inr gz17 =>
   some (.inl gz17)
set_option maxHeartbeats 4000000 in
set_option maxRecDepth 100000 in
theorem it_chart_counted_1 (p0 : api_Chart) (v0 : Value) : SeqF Try.prog 99 #[v0] (fA2 (rI .i64) r_chart_count) (I_chart_counted_1 p0) [fPtr r_api_Chart (v0) p0] := by
 refine seqF_of (lb := [v0]) (fun σ τ B gz0 r h l J Jx E w0 hC S hJ => ?_)
 unfold I_chart_counted_1 at h
 refine sEnterI (args := [.func (.yield l) #[] #[], v0]) 57 Try.func99 rfl rfl (by simp) S (fun a S => ?_)
 refine sSeq (fun K1 hK1 => ?_)
 refine sRegion ?_
 obtain ⟨q2, hq3, S⟩ := pFld (P := Try.prog) (r := r_api_Chart) (s2 := (rI .i64)) (g := (·.Start)) (q := v0) (z := p0) 42 0 0 0 S rfl rfl comp_api_Chart_Start
 refine sFldV (q := v0) S (wN rfl) rfl rfl hq3 rfl (lb rfl) fun a S => ?_
 obtain ⟨u4, S⟩ := pLoad (r := (rI .i64)) (q := q2) (x := p0.Start) 0 S rfl
 obtain rfl : u4 = iv p0.Start := S.mem.know (i := 1) (e := fRep (rI .i64) (u4) p0.Start) rfl
 refine sLoadV1 (vq := q2) 0 (iv p0.Start) S (wN rfl) rfl rfl rfl rfl rfl (lb rfl) fun a S => ?_
 refine sMa S rfl rfl rfl rfl rfl fun a S => ?_
 refine lT (hK1 _ _ ?_)
 refine sSeq (fun K5 hK5 => ?_)
 refine sRegion ?_
 obtain ⟨q6, hq7, S⟩ := pFld (P := Try.prog) (r := r_api_Chart) (s2 := (rL r_api_Row)) (g := (·.Rows)) (q := v0) (z := p0) 42 1 3 1 S rfl rfl comp_api_Chart_Rows
 refine sFldV (q := v0) S (wN rfl) rfl rfl hq7 rfl (lb rfl) fun a S => ?_
 obtain ⟨u8, S⟩ := pLoad (r := (rL r_api_Row)) (q := q6) (x := p0.Rows) 0 S rfl
 obtain ⟨ad9, cp10, _, rfl, _⟩ := S.mem.know (i := 1) (e := fRep (rL r_api_Row) (u8) p0.Rows) rfl
 refine sLoadV1 (vq := q6) 0 (.slice ad9 p0.Rows.length cp10) S (wN rfl) rfl rfl rfl rfl rfl (lb rfl) fun a S => ?_
 refine sLen S (wN rfl) rfl Try.underlying40 rfl rfl (lb rfl) fun a S => ?_
 refine sMm S rfl rfl rfl rfl rfl fun a S => ?_
 refine lT (hK5 _ _ ?_)
 refine wp_block ?_
 obtain ⟨t16, hl, g15⟩ := bindSome h
 refine sLoop hl (fun s0 a w => match s0 with | (s11, s12, gz13) => ∃ E w0, J gz13 E w0 ∧ St [] E [] w0 57 a w [(0, .func (.yield l) #[] #[]), (3, iv s11), (12, .slice ad9 p0.Rows.length cp10), (13, iv (p0.Rows.length : Int)), (14, iv s12)] [] [fRep (rL r_api_Row) (.slice ad9 p0.Rows.length cp10) p0.Rows]) ⟨_, _, hJ, S.fix [] [1] (by decide) rfl rfl rfl⟩ ?_
 clear hl h
 intro s0 a w c0 hI h hu14
 obtain ⟨s11, s12, gz13⟩ := s0
 unfold chart_counted_1_l1 at h
 dsimp only at h hI
 obtain ⟨E, w0, hJ, S⟩ := hI
 refine sSeq (fun K18 hK18 => ?_)
 refine sRegion ?_
 refine sBin _ S (wN rfl) rfl rfl rfl (bLt _ _ _ _ .i64 s12 (p0.Rows.length : Int)) rfl (lb rfl) fun a S => ?_
 refine lT (hK18 _ _ ?_)
 refine sSeq (fun K19 hK19 => ?_)
 rcases iteSome h with ⟨hc20, h⟩ | ⟨hc20, h⟩
 rotate_left
 ·refine sCondF S rfl hc20 ?_
  obtain rfl := Option.some.inj h
  obtain rfl := hu14 _ rfl
  have h := g15
  clear g15
  try dsimp only at h
  exact wp_exit (xThen (xThen (xHit (sEnd (.tuple #[]) S (res0 rfl) (sGoI S hC hJ (Option.some.inj h) _)))))
 refine sCondT S rfl hc20 ?_
 refine wp_skip (leafT (hK19 _ _ ?_))
 refine sSeq (fun K21 hK21 => ?_)
 refine wp_block ?_
 refine sSeq (fun K22 hK22 => ?_)
 refine sRegion ?_
 refine sMm S rfl rfl rfl rfl rfl fun a S => ?_
 obtain ⟨x23, hx24, h⟩ := bindSome h
 obtain ⟨q25, hq26, S⟩ := pIdx (P := Try.prog) (r := r_api_Row) (v := .slice ad9 p0.Rows.length cp10) (xs := p0.Rows) (j := s12) 40 87 0 S Try.underlying40 rfl rfl hx24
 refine sIdxV S (wN rfl) rfl rfl rfl hq26 rfl (lb rfl) fun a S => ?_
 obtain ⟨u27, S⟩ := pLoad (r := r_api_Row) (q := q25) (x := x23) 0 S rfl
 obtain ⟨u28, rfl, hu29⟩ := S.mem.know (i := 1) (e := fRep r_api_Row (u27) x23) rfl
 have S := S.learn (fRep (rL r_api_Stitch) u28 x23.Cells) hu29
 obtain ⟨ad30, cp31, _, rfl, _⟩ := hu29
 refine sLoadVN (vq := q25) 1 [.bool x23.Back, .slice ad30 x23.Cells.length cp31] S (wN rfl) rfl rfl rfl rfl rfl rfl (lb rfl) fun a S => ?_
 refine sAlloc (.agg #[.bool false, .slice none 0 0]) S (wN rfl) rfl rfl [.bool false, .slice none 0 0] rfl rfl (lb rfl) fun a b32 w S => ?_
 refine sMa S rfl rfl rfl rfl rfl fun a S => ?_
 refine sStore (p := b32) (off := 0) (T := 87) (vs := [.bool false, .slice none 0 0]) (v := .agg #[.bool x23.Back, .slice ad30 x23.Cells.length cp31]) 0 [.bool x23.Back, .slice ad30 x23.Cells.length cp31] S (wN rfl) rfl rfl rfl rfl rfl rfl rfl (by simp) rfl fun a w S => ?_
 refine lT (hK22 _ _ ?_)
 refine sSeq (fun K33 hK33 => ?_)
 refine sRegion ?_
 refine sMm S rfl rfl rfl rfl rfl fun a S => ?_
 refine sBuild [(0, iv s11)] [iv s11, iv 0, iv 0] S (wN rfl) rfl rfl rfl rfl (lb rfl) fun a S => ?_
 refine sAlloc (.agg #[iv 0, iv 0, iv 0]) S (wN rfl) rfl rfl [iv 0, iv 0, iv 0] rfl rfl (lb rfl) fun a b34 w S => ?_
 refine sStore (p := b34) (off := 0) (T := 134) (vs := [iv 0, iv 0, iv 0]) (v := .agg #[iv s11, iv 0, iv 0]) 0 [iv s11, iv 0, iv 0] S (wN rfl) rfl rfl rfl rfl rfl rfl rfl (by simp) rfl fun a w S => ?_
 refine lT (hK33 _ _ ?_)
 refine sSeq (fun K35 hK35 => ?_)
 refine sRegion ?_
 refine sField (b := b32) (off := 0) 1 1 S (wN rfl) rfl rfl rfl rfl rfl (lb rfl) fun a S => ?_
 refine sLoad1 1 (.slice ad30 x23.Cells.length cp31) S (wN rfl) rfl rfl rfl rfl rfl rfl (lb rfl) fun a S => ?_
 obtain ⟨r36, hx37, h⟩ := bindSome h
 have S1 := S.mem
 refine sCallQ (X := Unit) (f := 100) (vs := [.slice ad30 x23.Cells.length cp31]) (val := fun _ => .tuple #[iv r36.1, iv r36.2]) S (wN rfl) rfl callee100 rfl (S1.quiet [0] rfl) (fun E1 w1 S1 => c_stitch_Uses E1 w1 x23.Cells (.slice ad30 x23.Cells.length cp31) r36 hx37 S1) rfl (lb rfl) fun _ a w S => ?_
 refine sMm S rfl rfl rfl rfl rfl fun a S => ?_
 refine sExtract (vs := [iv r36.1, iv r36.2]) (iv r36.1) S (wN rfl) rfl rfl rfl rfl (lb rfl) fun a S => ?_
 refine sExtract (vs := [iv r36.1, iv r36.2]) (iv r36.2) S (wN rfl) rfl rfl rfl rfl (lb rfl) fun a S => ?_
 refine sMa S rfl rfl rfl rfl rfl fun a S => ?_
 refine sMa S rfl rfl rfl rfl rfl fun a S => ?_
 refine lT (hK35 _ _ ?_)
 obtain ⟨t40, h, g41⟩ := bindSome h
 refine sCut (fun a w => ∃ o38, ∃ o39, (o38, o39) = t40 ∧ ∃ E w0, J gz13 E w0 ∧ St [] E [] w0 57 a w [(0, .func (.yield l) #[] #[]), (4, iv s12), (6, .pointer (some ⟨b34, 0, none⟩)), (12, .slice ad9 p0.Rows.length cp10), (13, iv (p0.Rows.length : Int)), (14, iv s12)] [eBox b34 134 [iv s11, iv o38, iv o39]] [fRep (rL r_api_Row) (.slice ad9 p0.Rows.length cp10) p0.Rows]) ?_ (fun a w hI => ?_)
 ·refine wp_block ?_
  refine sSeq (fun K42 hK42 => ?_)
  refine sRegion ?_
  refine sMm S rfl rfl rfl rfl rfl fun a S => ?_
  refine sBin _ S (wN rfl) rfl rfl rfl (bNe _ _ _ _ .i64 r36.2 0) rfl (lb rfl) fun a S => ?_
  refine sMa S rfl rfl rfl rfl rfl fun a S => ?_
  refine lT (hK42 _ _ ?_)
  rcases iteSome h with ⟨hc43, h⟩ | ⟨hc43, h⟩
  ·refine sCondT S rfl hc43 ?_
   refine sRegion ?_
   refine sMm S rfl rfl rfl rfl rfl fun a S => ?_
   refine sField (b := b34) (off := 0) 2 2 S (wN rfl) rfl rfl rfl rfl rfl (lb rfl) fun a S => ?_
   refine sStore (p := b34) (off := 2) (T := 134) (vs := [iv s11, iv 0, iv 0]) (v := iv r36.2) 0 [iv r36.2] S (wN rfl) rfl rfl rfl rfl rfl rfl rfl (by simp) rfl fun a w S => ?_
   exact leafL (leafB (leafT (⟨0, r36.2, Option.some.inj h, _, _, hJ, S.fix [0] [4] (by decide) rfl rfl rfl⟩)))
  refine sCondF S rfl hc43 ?_
  refine sSeq (fun K44 hK44 => ?_)
  refine sRegion ?_
  refine sMm S rfl rfl rfl rfl rfl fun a S => ?_
  refine sMm S rfl rfl rfl rfl rfl fun a S => ?_
  refine sBin _ S (wN rfl) rfl rfl rfl (bNe _ _ _ _ .i64 r36.1 s11) rfl (lb rfl) fun a S => ?_
  refine sMa S rfl rfl rfl rfl rfl fun a S => ?_
  refine lT (hK44 _ _ ?_)
  rcases iteSome h with ⟨hc45, h⟩ | ⟨hc45, h⟩
  ·refine sCondT S rfl hc45 ?_
   refine sRegion ?_
   refine sField (b := b34) (off := 0) 2 2 S (wN rfl) rfl rfl rfl rfl rfl (lb rfl) fun a S => ?_
   refine sStore (p := b34) (off := 2) (T := 134) (vs := [iv s11, iv 0, iv 0]) (v := iv 26) 0 [iv 26] S (wN rfl) rfl rfl rfl rfl rfl rfl rfl (by simp) rfl fun a w S => ?_
   exact leafL (leafB (leafT (⟨0, 26, Option.some.inj h, _, _, hJ, S.fix [0] [4] (by decide) rfl rfl rfl⟩)))
  refine sCondF S rfl hc45 ?_
  refine sRegion ?_
  refine sField (b := b32) (off := 0) 1 1 S (wN rfl) rfl rfl rfl rfl rfl (lb rfl) fun a S => ?_
  refine sLoad1 1 (.slice ad30 x23.Cells.length cp31) S (wN rfl) rfl rfl rfl rfl rfl rfl (lb rfl) fun a S => ?_
  obtain ⟨r46, hx47, h⟩ := bindSome h
  have S1 := S.mem
  refine sCallQ (X := Unit) (f := 101) (vs := [.slice ad30 x23.Cells.length cp31]) (val := fun _ => .tuple #[iv r46.1, iv r46.2]) S (wN rfl) rfl callee101 rfl (S1.quiet [0] rfl) (fun E1 w1 S1 => c_stitch_Makes E1 w1 x23.Cells (.slice ad30 x23.Cells.length cp31) r46 hx47 S1) rfl (lb rfl) fun _ a w S => ?_
  refine sMm S rfl rfl rfl rfl rfl fun a S => ?_
  refine sExtract (vs := [iv r46.1, iv r46.2]) (iv r46.1) S (wN rfl) rfl rfl rfl rfl (lb rfl) fun a S => ?_
  refine sExtract (vs := [iv r46.1, iv r46.2]) (iv r46.2) S (wN rfl) rfl rfl rfl rfl (lb rfl) fun a S => ?_
  refine sField (b := b34) (off := 0) 1 1 S (wN rfl) rfl rfl rfl rfl rfl (lb rfl) fun a S => ?_
  refine sStore (p := b34) (off := 1) (T := 134) (vs := [iv s11, iv 0, iv 0]) (v := iv r46.1) 0 [iv r46.1] S (wN rfl) rfl rfl rfl rfl rfl rfl rfl (by simp) rfl fun a w S => ?_
  exact leafL (leafB (leafT (⟨r46.1, 0, Option.some.inj h, _, _, hJ, S.fix [0] [4] (by decide) rfl rfl rfl⟩)))
 obtain ⟨o38, o39, rfl, E, w0, hJ, S⟩ := hI
 have h := g41
 clear g41
 try dsimp only at h
 refine sSeq (fun K48 hK48 => ?_)
 refine sSeq (fun K49 hK49 => ?_)
 refine sRegionY ?_
 refine sSplitR (by repeat (first | exact roundU_out | exact it_out | exact lo_false | refine lo_then ?_ | refine lo_block ?_)) 3 rfl (fun K50 hK50 => ?_)
 refine sMm S rfl rfl rfl rfl rfl fun a S => ?_
 refine sMm S rfl rfl rfl rfl rfl fun a S => ?_
 refine sLoadN (p := b34) (off := 0) (T := 134) (vs := [iv s11, iv o38, iv o39]) 0 [iv s11, iv o38, iv o39] S (wN rfl) rfl rfl rfl rfl rfl rfl rfl (lb rfl) fun a S => ?_
 refine leafL ⟨rfl, hK50 _ _ ?_⟩
 have S := S.learn (fRep r_chart_count (.agg #[iv s11, iv o38, iv o39]) (chart_count.mk s11 o38 o39)) rfl
 have S := S.shutB (r := r_chart_count) (T := 134) (b := b34) (cs := [iv s11, iv o38, iv o39]) 0 (.agg #[iv s11, iv o38, iv o39]) (chart_count.mk s11 o38 o39) rfl rfl (S.mem.know (i := 0) (e := fRep r_chart_count (.agg #[iv s11, iv o38, iv o39]) (chart_count.mk s11 o38 o39)) rfl)
 obtain ⟨y51, hy52, h⟩ := bindSome h
 refine sYieldI (s12, (chart_count.mk s11 o38 o39)) [iv s12, .agg #[iv s11, iv o38, iv o39]] S hC hJ hy52 (fA2_mk (rfl) (S.mem.know (i := 1) (e := fRep r_chart_count (.agg #[iv s11, iv o38, iv o39]) (chart_count.mk s11 o38 o39)) rfl)) (wN rfl) rfl rfl rfl rfl (by decide) (fun gz53 E a w hb hJ S => ?_) (fun tz54 a w hb hJ S => ?_)
 ·obtain rfl := hb
  dsimp only at h
  refine list_inR (by repeat (first | exact roundU_out | exact it_out | exact lo_false | refine lo_then ?_ | refine lo_block ?_)) _ rfl _ _ ?_
  refine sNot (b := true) S (wN rfl) rfl rfl rfl (lb rfl) fun a S => ?_
  refine sMm S rfl rfl rfl rfl rfl fun a S => ?_
  obtain ⟨q55, hq56, S⟩ := pFld (P := Try.prog) (r := r_chart_count) (s2 := (rI .i64)) (g := (·.e)) (q := .pointer (some ⟨b34, 0, none⟩)) (z := (chart_count.mk s11 o38 o39)) 134 2 0 2 S rfl rfl comp_chart_count_e
  refine sFldV (q := .pointer (some ⟨b34, 0, none⟩)) S (wG 5 false 49 rfl rfl rfl rfl) rfl rfl hq56 rfl (lb rfl) fun a S => ?_
  obtain ⟨u57, S⟩ := pLoad (r := (rI .i64)) (q := q55) (x := (chart_count.mk s11 o38 o39).e) 0 S rfl
  obtain rfl : u57 = iv ((chart_count.mk s11 o38 o39).e) := S.mem.know (i := 1) (e := fRep (rI .i64) (u57) ((chart_count.mk s11 o38 o39).e)) rfl
  refine sLoadV1 (vq := q55) 0 (iv ((chart_count.mk s11 o38 o39).e)) S (wG 5 false 49 rfl rfl rfl rfl) rfl rfl rfl rfl rfl (lb rfl) fun a S => ?_
  refine sBin _ S (wG 5 false 49 rfl rfl rfl rfl) rfl rfl rfl (bNe _ _ _ _ .i64 ((chart_count.mk s11 o38 o39).e) 0) rfl (lb rfl) fun a S => ?_
  refine sPickF (.bool (((chart_count.mk s11 o38 o39).e) != 0)) S (wN rfl) rfl rfl rfl rfl rfl (lb rfl) fun a S => ?_
  refine lT (hK49 _ _ ?_)
  rcases iteSome h with ⟨hc58, h⟩ | ⟨hc58, h⟩
  ·refine sCondT S rfl hc58 ?_
   obtain rfl := Option.some.inj h
   obtain rfl := hu14 _ rfl
   have h := g15
   clear g15
   try dsimp only at h
   exact wp_ret (rThen (rBlock (rThen (rThen (rBlock (sRet (.tuple #[]) S (res0 rfl) (sGoI S hC hJ (Option.some.inj h) _)))))))
  refine sCondF S rfl hc58 ?_
  refine wp_skip (leafT (hK48 _ _ ?_))
  refine sRegion ?_
  obtain ⟨q59, hq60, S⟩ := pFld (P := Try.prog) (r := r_chart_count) (s2 := (rI .i64)) (g := (·.after)) (q := .pointer (some ⟨b34, 0, none⟩)) (z := (chart_count.mk s11 o38 o39)) 134 1 3 1 S rfl rfl comp_chart_count_after
  refine sFldV (q := .pointer (some ⟨b34, 0, none⟩)) S (wN rfl) rfl rfl hq60 rfl (lb rfl) fun a S => ?_
  obtain ⟨u61, S⟩ := pLoad (r := (rI .i64)) (q := q59) (x := (chart_count.mk s11 o38 o39).after) 0 S rfl
  obtain rfl : u61 = iv ((chart_count.mk s11 o38 o39).after) := S.mem.know (i := 1) (e := fRep (rI .i64) (u61) ((chart_count.mk s11 o38 o39).after)) rfl
  refine sLoadV1 (vq := q59) 0 (iv ((chart_count.mk s11 o38 o39).after)) S (wN rfl) rfl rfl rfl rfl rfl (lb rfl) fun a S => ?_
  refine sMa S rfl rfl rfl rfl rfl fun a S => ?_
  refine leafL (leafB (leafT (hK21 _ _ ?_)))
  refine sRegion ?_
  refine sBin _ S (wN rfl) rfl rfl rfl (bAdd _ _ _ _ s12 1) rfl (lb rfl) fun a S => ?_
  refine sMm S rfl rfl rfl rfl rfl fun a S => ?_
  exact lT (⟨((chart_count.mk s11 o38 o39).after, w64 (s12 + 1), gz53), (Option.some.inj h).symm, ⟨_, _, hJ, S.fix [] [8] (by decide) rfl rfl rfl⟩⟩)
 ·obtain rfl := hb
  dsimp only at h
  refine list_inR (by repeat (first | exact roundU_out | exact it_out | exact lo_false | refine lo_then ?_ | refine lo_block ?_)) _ rfl _ _ ?_
  refine sNot (b := false) S (wN rfl) rfl rfl rfl (lb rfl) fun a S => ?_
  refine sMm S rfl rfl rfl rfl rfl fun a S => ?_
  refine sSkN 3 5 false 49 S rfl rfl rfl rfl fun a S => ?_
  refine sPickT (.bool true) S (wN rfl) rfl rfl rfl rfl rfl (lb rfl) fun a S => ?_
  refine lT (hK49 _ _ ?_)
  refine sCondT S rfl rfl ?_
  obtain rfl := Option.some.inj h
  obtain rfl := hu14 _ rfl
  have h := g15
  clear g15
  try dsimp only at h
  exact wp_ret (rThen (rBlock (rThen (rThen (rBlock (sRet (.tuple #[]) S (res0 rfl) (sStopI S hC hJ (Option.some.inj h) _)))))))
end Go.Proofs.Ytffikfajljbmnaa
namespace Go.Proofs.Ytffikfajljbmnaa
open Go.RowKit
noncomputable def chart_Check_l2  : Unit → (Int × chart_count) → Option (Unit ⊕ Int) := fun s0 x0 => match s0, x0 with
 | _, (x25, x27) =>
  if x27.e != 0 then
   some (.inr x27.e)
  else
   some (.inl ())
noncomputable def F_chart_Check (p0 : api_Chart) : Option Int :=
 if decide (100 < (p0.Rows.length : Int)) then
  some 4
 else
  Option.bind (α := Bool) (
   if decide (p0.Start < 0) then
    some true
   else
    some (decide (200 < p0.Start))) fun o13 =>
  if o13 then
   some 8
  else
   Option.bind (F_chart_counted p0) fun r21 =>
   Option.bind (I_chart_counted_1 r21 _ _ (chart_Check_l2) ()) fun z0 => match z0 with
    | .inl _ =>
     some 0
    | .inr e24 =>
     some e24
set_option maxHeartbeats 4000000 in
set_option maxRecDepth 100000 in
theorem c_chart_Check (E : Nat → Prop) (w0 : World) (p0 : api_Chart) (v0 : Value) (r : Int) (h : F_chart_Check p0 = some r) (S : St0 E [] w0 w0 [] [fRep r_api_Chart (v0) p0]) :
 Calls Try.prog 50 #[v0] w0 (Ret (X := Unit) E [] w0 (fun _ => .int .i64 r) (fun _ => []) (fun _ => [])) := by
 unfold F_chart_Check at h
 obtain ⟨u1, rfl, hu2⟩ := S.know (i := 0) (e := fRep r_api_Chart (v0) p0) rfl
 have S := S.learn (fRep (rL r_api_Row) u1 p0.Rows) hu2
 obtain ⟨ad3, cp4, _, rfl, _⟩ := hu2
 refine sEnterM (args := [.agg #[iv p0.Start, .slice ad3 p0.Rows.length cp4]]) 26 Try.func50 rfl rfl (by simp) S (fun a S => ?_)
 refine sSeq (fun K5 hK5 => ?_)
 refine sRegion ?_
 refine sBox (v := .agg #[iv p0.Start, .slice ad3 p0.Rows.length cp4]) S (wN rfl) rfl rfl [iv p0.Start, .slice ad3 p0.Rows.length cp4] rfl rfl (lb rfl) fun a b6 w S => ?_
 refine sAlloc (iv 0) S (wN rfl) rfl rfl [iv 0] rfl rfl (lb rfl) fun a b7 w S => ?_
 refine lT (hK5 _ _ ?_)
 refine sSeq (fun K8 hK8 => ?_)
 refine sSeq (fun K9 hK9 => ?_)
 refine sRegion ?_
 refine sField (b := b6) (off := 0) 1 1 S (wN rfl) rfl rfl rfl rfl rfl (lb rfl) fun a S => ?_
 refine sLoad1 1 (.slice ad3 p0.Rows.length cp4) S (wN rfl) rfl rfl rfl rfl rfl rfl (lb rfl) fun a S => ?_
 refine sLen S (wN rfl) rfl Try.underlying40 rfl rfl (lb rfl) fun a S => ?_
 refine sBin _ S (wN rfl) rfl rfl rfl (bGt _ _ _ _ .i64 (p0.Rows.length : Int) 100) rfl (lb rfl) fun a S => ?_
 refine lT (hK9 _ _ ?_)
 rcases iteSome h with ⟨hc10, h⟩ | ⟨hc10, h⟩
 ·refine sCondT S rfl hc10 ?_
  refine sSeq (fun K11 hK11 => ?_)
  refine sRegion ?_
  refine sStore (p := b7) (off := 0) (T := 27) (vs := [iv 0]) (v := iv 4) 0 [iv 4] S (wN rfl) rfl rfl rfl rfl rfl rfl rfl (by simp) rfl fun a w S => ?_
  refine lT (hK11 _ _ ?_)
  obtain rfl := Option.some.inj h
  exact wp_ret (rThen (sRetM0 (iv 4) S (rsl1 rfl (rv1 (c := 2) (t := 27) (T := 27) (p := b7) 0 (iv 4) S rfl rfl rfl)) ⟨(), rfl, S.mem.sel [] [] (by decide) rfl rfl⟩))
 refine sCondF S rfl hc10 ?_
 refine wp_skip (leafT (hK8 _ _ ?_))
 refine sSeq (fun K12 hK12 => ?_)
 obtain ⟨t14, h, g15⟩ := bindSome h
 refine sCut (fun a w => ∃ o13, o13 = t14 ∧ St [] E [] w0 26 a w [(1, .pointer (some ⟨b6, 0, none⟩)), (2, .pointer (some ⟨b7, 0, none⟩)), (16, .bool o13)] [eBox b6 42 [iv p0.Start, .slice ad3 p0.Rows.length cp4], eBox b7 27 [iv 0]] [fRep (rL r_api_Row) (.slice ad3 p0.Rows.length cp4) p0.Rows]) ?_ (fun a w hI => ?_)
 ·refine sRegion ?_
  refine sField (b := b6) (off := 0) 0 0 S (wN rfl) rfl rfl rfl rfl rfl (lb rfl) fun a S => ?_
  refine sLoad1 1 (iv p0.Start) S (wN rfl) rfl rfl rfl rfl rfl rfl (lb rfl) fun a S => ?_
  refine sBin _ S (wN rfl) rfl rfl rfl (bLt _ _ _ _ .i64 p0.Start 0) rfl (lb rfl) fun a S => ?_
  refine sMm S rfl rfl rfl rfl rfl fun a S => ?_
  rcases iteSome h with ⟨hc16, h⟩ | ⟨hc16, h⟩
  ·refine sSkN 3 3 false 12 S rfl rfl hc16 rfl fun a S => ?_
   refine sPickT (.bool true) S (wN rfl) rfl rfl hc16 rfl rfl (lb rfl) fun a S => ?_
   exact lT (⟨true, Option.some.inj h, S.fix [1, 0] [0] (by decide) rfl rfl rfl⟩)
  refine sField (b := b6) (off := 0) 0 0 S (wG 3 false 12 rfl rfl rfl hc16) rfl rfl rfl rfl rfl (lb rfl) fun a S => ?_
  refine sLoad1 1 (iv p0.Start) S (wG 3 false 12 rfl rfl rfl hc16) rfl rfl rfl rfl rfl rfl (lb rfl) fun a S => ?_
  refine sBin _ S (wG 3 false 12 rfl rfl rfl hc16) rfl rfl rfl (bGt _ _ _ _ .i64 p0.Start 200) rfl (lb rfl) fun a S => ?_
  refine sPickF (.bool (decide (200 < p0.Start))) S (wN rfl) rfl rfl hc16 rfl rfl (lb rfl) fun a S => ?_
  exact lT (⟨decide (200 < p0.Start), Option.some.inj h, S.fix [1, 0] [0] (by decide) rfl rfl rfl⟩)
 obtain ⟨o13, rfl, S⟩ := hI
 have h := g15
 clear g15
 try dsimp only at h
 rcases iteSome h with ⟨hc17, h⟩ | ⟨hc17, h⟩
 ·refine sCondT S rfl hc17 ?_
  refine sSeq (fun K18 hK18 => ?_)
  refine sRegion ?_
  refine sStore (p := b7) (off := 0) (T := 27) (vs := [iv 0]) (v := iv 8) 1 [iv 8] S (wN rfl) rfl rfl rfl rfl rfl rfl rfl (by simp) rfl fun a w S => ?_
  refine lT (hK18 _ _ ?_)
  obtain rfl := Option.some.inj h
  exact wp_ret (rThen (sRetM0 (iv 8) S (rsl1 rfl (rv1 (c := 2) (t := 27) (T := 27) (p := b7) 0 (iv 8) S rfl rfl rfl)) ⟨(), rfl, S.mem.sel [] [] (by decide) rfl rfl⟩))
 refine sCondF S rfl hc17 ?_
 refine wp_skip (leafT (hK12 _ _ ?_))
 refine sSeq (fun K19 hK19 => ?_)
 refine sSeq (fun K20 hK20 => ?_)
 refine sRegion ?_
 refine sLoadN (p := b6) (off := 0) (T := 42) (vs := [iv p0.Start, .slice ad3 p0.Rows.length cp4]) 0 [iv p0.Start, .slice ad3 p0.Rows.length cp4] S (wN rfl) rfl rfl rfl rfl rfl rfl rfl (lb rfl) fun a S => ?_
 obtain ⟨r21, hx22, h⟩ := bindSome h
 have S := S.learn (fRep r_api_Chart (.agg #[iv p0.Start, .slice ad3 p0.Rows.length cp4]) p0) ⟨_, rfl, S.mem.know (i := 0) (e := fRep (rL r_api_Row) (.slice ad3 p0.Rows.length cp4) p0.Rows) rfl⟩
 refine sCall (X := Value) (f := 82) (vs := [.agg #[iv p0.Start, .slice ad3 p0.Rows.length cp4]]) (val := c_chart_counted_val r21) (B' := fun _ => []) (D' := c_chart_counted_D r21) [] [eBox b6 42 [iv p0.Start, .slice ad3 p0.Rows.length cp4], eBox b7 27 [iv 0]] [fRep r_api_Chart (.agg #[iv p0.Start, .slice ad3 p0.Rows.length cp4]) p0] [0, 1] [0] S (wN rfl) rfl callee82 rfl (by decide) rfl rfl (fun E1 w1 S1 => c_chart_counted E1 w1 p0 (.agg #[iv p0.Start, .slice ad3 p0.Rows.length cp4]) r21 hx22 S1) rfl (lb rfl) fun u23 a w S => ?_
 refine lT (hK20 _ _ ?_)
 refine wp_block ?_
 obtain ⟨t35, hl36, g34⟩ := bindSome h
 replace S : St [] E [] w0 26 a w [(2, .pointer (some ⟨b7, 0, none⟩)), (18, .func (.func 99) #[] #[u23])] [eBox b7 27 [iv 0]] [fPtr r_api_Chart (u23) r21] := S.fix [1] [0] (by decide) rfl rfl rfl
 refine sRange2 (B := chart_Check_l2) (fun s0 L D => match s0 with | _ => L = [eBox b7 27 [iv 0]] ∧ D = [fPtr r_api_Chart (u23) r21]) (fun t0 c L D => match t0 with | e24 => c = .ret ∧ L = [eBox b7 27 [iv e24]] ∧ D = []) [0] S hl36 rfl callee99 (it_chart_counted_1 r21 u23) rfl (by decide) (by decide) ⟨rfl, rfl⟩ ?_ ?_ ?_
 ·intro E l0 s0 x25 x27 u26 u28 b L D K a w0 hK hIL hB S
  clear hl36 g34 h hK
  unfold chart_Check_l2 at hB
  dsimp only at hB hIL
  obtain ⟨rfl, rfl⟩ := hIL
  have h := hB
  clear hB
  obtain rfl : u26 = iv x25 := S.mem.know (i := 0) (e := fRep (rI .i64) (u26) x25) rfl
  obtain rfl : u28 = .agg #[iv x27.before, iv x27.after, iv x27.e] := S.mem.know (i := 1) (e := fRep r_chart_count (u28) x27) rfl
  refine sRegionR (by repeat (first | exact roundU_out | exact it_out | exact lo_false | refine lo_then ?_ | refine lo_block ?_)) rfl ?_
  refine sAlloc (.agg #[iv 0, iv 0, iv 0]) S (wN rfl) rfl rfl [iv 0, iv 0, iv 0] rfl rfl (lb rfl) fun a b29 w S => ?_
  refine sStore (p := b29) (off := 0) (T := 134) (vs := [iv 0, iv 0, iv 0]) (v := .agg #[iv x27.before, iv x27.after, iv x27.e]) 0 [iv x27.before, iv x27.after, iv x27.e] S (wN rfl) rfl rfl rfl rfl rfl rfl rfl (by simp) rfl fun a w S => ?_
  refine lT (⟨_, _, _, S, fun K a w0 hK S => ?_⟩)
  refine wpIn_block ?_
  refine sSeqR (fun K30 hK30 => ?_)
  refine sRegionR (by repeat (first | exact roundU_out | exact it_out | exact lo_false | refine lo_then ?_ | refine lo_block ?_)) rfl ?_
  refine sField (b := b29) (off := 0) 2 2 S (wN rfl) rfl rfl rfl rfl rfl (lb rfl) fun a S => ?_
  refine sLoad1 0 (iv x27.e) S (wN rfl) rfl rfl rfl rfl rfl rfl (lb rfl) fun a S => ?_
  refine sBin _ S (wN rfl) rfl rfl rfl (bNe _ _ _ _ .i64 x27.e 0) rfl (lb rfl) fun a S => ?_
  refine lT (hK30 _ _ ?_)
  rcases iteSome h with ⟨hc31, h⟩ | ⟨hc31, h⟩
  rotate_left
  ·refine sCondFR S rfl hc31 ?_
   exact wpIn_skip (leafB (rnN () _ _ [] (Option.some.inj h) ⟨rfl, rfl⟩ (S.fix [1] [2] (by decide) rfl rfl rfl)))
  refine sCondTR S rfl hc31 ?_
  refine sSeqR (fun K32 hK32 => ?_)
  refine sRegionR (by repeat (first | exact roundU_out | exact it_out | exact lo_false | refine lo_then ?_ | refine lo_block ?_)) rfl ?_
  refine sField (b := b29) (off := 0) 2 2 S (wN rfl) rfl rfl rfl rfl rfl (lb rfl) fun a S => ?_
  refine sLoad1 0 (iv x27.e) S (wN rfl) rfl rfl rfl rfl rfl rfl (lb rfl) fun a S => ?_
  refine sStore (p := b7) (off := 0) (T := 27) (vs := [iv 0]) (v := iv x27.e) 1 [iv x27.e] S (wN rfl) rfl rfl rfl rfl rfl rfl rfl (by simp) rfl fun a w S => ?_
  refine lT (hK32 _ _ ?_)
  exact wpIn_ret (rBlock (rnR x27.e _ _ [] (Option.some.inj h) ⟨rfl, rfl, rfl⟩ (S.fix [0] [] (by decide) rfl rfl rfl)))
 ·intro dk33 s0 L D a w hr hIL S
  clear h
  obtain rfl := hr
  dsimp only at g34 hIL
  obtain ⟨rfl, rfl⟩ := hIL
  have h := g34
  clear g34 hl36
  replace S : St [mark dk33] E [] w0 26 a w [(2, .pointer (some ⟨b7, 0, none⟩)), (18, .func (.func 99) #[] #[u23])] [eBox b7 27 [iv 0], eDef dk33] [fPtr r_api_Chart (u23) r21] := S
  refine leafB (leafT (hK19 _ _ ?_))
  refine sSeq (fun K37 hK37 => ?_)
  refine sRegion ?_
  refine sStore (p := b7) (off := 0) (T := 27) (vs := [iv 0]) (v := iv 0) 0 [iv 0] S (wN rfl) rfl rfl rfl rfl rfl rfl rfl (by simp) rfl fun a w S => ?_
  refine lT (hK37 _ _ ?_)
  refine wp_ret (sRetM1 1 S rfl (fun a w S => ?_))
  obtain rfl := Option.some.inj h
  exact sFin (iv 0) S (rsl1 rfl (rv1 (c := 2) (t := 27) (T := 27) (p := b7) 0 (iv 0) S rfl rfl rfl)) ⟨(), rfl, S.mem.sel [] [] (by decide) rfl rfl⟩
 ·intro dk33 c0 e24 L D a w hr hIX S
  clear h
  obtain rfl := hr
  dsimp only at g34 hIX
  obtain ⟨rfl, rfl, rfl⟩ := hIX
  have h := g34
  clear g34 hl36
  replace S : St [mark dk33] E [] w0 26 a w [(2, .pointer (some ⟨b7, 0, none⟩)), (18, .func (.func 99) #[] #[u23])] [eBox b7 27 [iv e24], eDef dk33] [] := S
  refine wp_ret (rBlock (rThen (sRetM1 1 S rfl (fun a w S => ?_))))
  obtain rfl := Option.some.inj h
  exact sFin (iv e24) S (rsl1 rfl (rv1 (c := 2) (t := 27) (T := 27) (p := b7) 0 (iv e24) S rfl rfl rfl)) ⟨(), rfl, S.mem.sel [] [] (by decide) rfl rfl⟩
end Go.Proofs.Ytffikfajljbmnaa
namespace Go.Proofs.Ytffikfajljbmnaa
open Go.RowKit
theorem set_v {α : Type} (xs : List α) (i : Nat) (y : α) (ad : Option Addr) (c : Nat) : Value.slice ad xs.length c = Value.slice ad (xs.set i y).length c := by rw [List.length_set]
theorem St.closeHN {dq : List Deferred} {E : Nat → Prop} {M : List Nat} {w0 : World} {n : Nat} {a : Act} {w : World} {F : List (Nat × Value)} {L : List Ent} {D : List Fact} {α : Type} {r : R α} {T : TypeId} {xs : List α} {y : α} {v u : Value} {j : Int} (i : Nat) (S : St dq E M w0 n a w F L D) (hL : L[i]? = some (eHole r T v xs (j.toNat * r.sz + 0) u)) (hu0 : (fRep r u y).p (tot E L) w) (hc : u.cells.toList = [u]) (hr : Scal r) :
 St dq E M w0 n a w F (eRow r T v (xs.set j.toNat y) :: L.eraseIdx i) D := by
 have hlt : j.toNat < xs.length := by
  obtain ⟨vs, ha, hm, hp, hl⟩ := S.mem.at hL
  exact Nat.lt_of_mul_lt_mul_right (a := r.sz) (by simpa using hp)
 have h1 : ∀ k : Nat, ∀ hk : k < xs.length, idxO xs (k : Int) = some xs[k] := fun k hk => by simp [idxO, hk]
 have h2 : ∀ k : Nat, k < xs.length → setO xs (k : Int) y = some (xs.set k y) := fun k hk => by simp [setO, hk]
 exact S.closeHE (j := (j.toNat : Int)) (x := xs[j.toNat]) i hL hu0 hc hr (h1 _ hlt) (h2 _ hlt)
end Go.Proofs.Ytffikfajljbmnaa
namespace Go.Proofs.Ytffikfajljbmnaa
open Go.RowKit
noncomputable def F_compare_Charts_1 (p0 : api_Row) : Option Int :=
 some (w64 (1 + (p0.Cells.length : Int)))
set_option maxHeartbeats 4000000 in
set_option maxRecDepth 100000 in
theorem c_compare_Charts_1 (E : Nat → Prop) (w0 : World) (p0 : api_Row) (v0 : Value) (r : Int) (h : F_compare_Charts_1 p0 = some r) (S : St0 E [] w0 w0 [] [fRep r_api_Row (v0) p0]) :
 Calls Try.prog 52 #[v0] w0 (Ret (X := Unit) E [] w0 (fun _ => .int .i64 r) (fun _ => []) (fun _ => [])) := by
 unfold F_compare_Charts_1 at h
 obtain ⟨u1, rfl, hu2⟩ := S.know (i := 0) (e := fRep r_api_Row (v0) p0) rfl
 have S := S.learn (fRep (rL r_api_Stitch) u1 p0.Cells) hu2
 obtain ⟨ad3, cp4, _, rfl, _⟩ := hu2
 refine sEnter (args := [.agg #[.bool p0.Back, .slice ad3 p0.Cells.length cp4]]) 7 Try.func52 rfl rfl (by simp) S (fun a S => ?_)
 refine sSeq (fun K5 hK5 => ?_)
 refine sRegion ?_
 refine sBox (v := .agg #[.bool p0.Back, .slice ad3 p0.Cells.length cp4]) S (wN rfl) rfl rfl [.bool p0.Back, .slice ad3 p0.Cells.length cp4] rfl rfl (lb rfl) fun a b6 w S => ?_
 refine sMa S rfl rfl rfl rfl rfl fun a S => ?_
 refine lT (hK5 _ _ ?_)
 refine sSeq (fun K7 hK7 => ?_)
 refine sRegion ?_
 refine sField (b := b6) (off := 0) 1 1 S (wN rfl) rfl rfl rfl rfl rfl (lb rfl) fun a S => ?_
 refine sLoad1 0 (.slice ad3 p0.Cells.length cp4) S (wN rfl) rfl rfl rfl rfl rfl rfl (lb rfl) fun a S => ?_
 refine sLen S (wN rfl) rfl Try.underlying47 rfl rfl (lb rfl) fun a S => ?_
 refine sBin _ S (wN rfl) rfl rfl rfl (bAdd _ _ _ _ 1 (p0.Cells.length : Int)) rfl (lb rfl) fun a S => ?_
 refine sMa S rfl rfl rfl rfl rfl fun a S => ?_
 refine lT (hK7 _ _ ?_)
 obtain rfl := Option.some.inj h
 exact wp_ret (sRet (iv (w64 (1 + (p0.Cells.length : Int)))) S (rsl1 rfl (rvT (t := 2) (v := iv (w64 (1 + (p0.Cells.length : Int)))) S rfl)) ⟨(), rfl, S.mem.sel [] [] (by decide) rfl rfl⟩)
end Go.Proofs.Ytffikfajljbmnaa
namespace Go.Proofs.Ytffikfajljbmnaa
open Go.RowKit
noncomputable def F_compare_cellTable_1 (p0 : api_Stitch) : Option Int :=
 some 1
set_option maxHeartbeats 4000000 in
set_option maxRecDepth 100000 in
theorem c_compare_cellTable_1 (E : Nat → Prop) (w0 : World) (p0 : api_Stitch) (v0 : Value) (r : Int) (h : F_compare_cellTable_1 p0 = some r) (S : St0 E [] w0 w0 [] [fRep r_api_Stitch (v0) p0]) :
 Calls Try.prog 84 #[v0] w0 (Ret (X := Unit) E [] w0 (fun _ => .int .i64 r) (fun _ => []) (fun _ => [])) := by
 unfold F_compare_cellTable_1 at h
 obtain rfl : v0 = .agg #[.int .u8 p0.Kind, .bool p0.Purl, iv p0.A, iv p0.B] := S.know (i := 0) (e := fRep r_api_Stitch (v0) p0) rfl
 refine sEnter (args := [.agg #[.int .u8 p0.Kind, .bool p0.Purl, iv p0.A, iv p0.B]]) 3 Try.func84 rfl rfl (by simp) S (fun a S => ?_)
 refine sSeq (fun K1 hK1 => ?_)
 refine sRegion ?_
 refine sBox (v := .agg #[.int .u8 p0.Kind, .bool p0.Purl, iv p0.A, iv p0.B]) S (wN rfl) rfl rfl [.int .u8 p0.Kind, .bool p0.Purl, iv p0.A, iv p0.B] rfl rfl (lb rfl) fun a b2 w S => ?_
 refine sMa S rfl rfl rfl rfl rfl fun a S => ?_
 refine lT (hK1 _ _ ?_)
 refine sSeq (fun K3 hK3 => ?_)
 refine sRegion ?_
 refine sMa S rfl rfl rfl rfl rfl fun a S => ?_
 refine lT (hK3 _ _ ?_)
 obtain rfl := Option.some.inj h
 exact wp_ret (sRet (iv 1) S (rsl1 rfl (rvT (t := 2) (v := iv 1) S rfl)) ⟨(), rfl, S.mem.sel [] [] (by decide) rfl rfl⟩)
end Go.Proofs.Ytffikfajljbmnaa
namespace Go.Proofs.Ytffikfajljbmnaa
open Go.RowKit
noncomputable def F_compare_cellTable_2 (p0 : api_Stitch) (p1 : api_Stitch) : Option Int :=
 if ((p0.Kind == p1.Kind) && ((p0.Purl == p1.Purl) && ((p0.A == p1.A) && ((p0.B == p1.B) && true)))) then
  some 0
 else
  some 1
set_option maxHeartbeats 4000000 in
set_option maxRecDepth 100000 in
theorem c_compare_cellTable_2 (E : Nat → Prop) (w0 : World) (p0 : api_Stitch) (v0 : Value) (p1 : api_Stitch) (v1 : Value) (r : Int) (h : F_compare_cellTable_2 p0 p1 = some r) (S : St0 E [] w0 w0 [] [fRep r_api_Stitch (v0) p0, fRep r_api_Stitch (v1) p1]) :
 Calls Try.prog 85 #[v0, v1] w0 (Ret (X := Unit) E [] w0 (fun _ => .int .i64 r) (fun _ => []) (fun _ => [])) := by
 unfold F_compare_cellTable_2 at h
 obtain rfl : v0 = .agg #[.int .u8 p0.Kind, .bool p0.Purl, iv p0.A, iv p0.B] := S.know (i := 0) (e := fRep r_api_Stitch (v0) p0) rfl
 obtain rfl : v1 = .agg #[.int .u8 p1.Kind, .bool p1.Purl, iv p1.A, iv p1.B] := S.know (i := 1) (e := fRep r_api_Stitch (v1) p1) rfl
 refine sEnter (args := [.agg #[.int .u8 p0.Kind, .bool p0.Purl, iv p0.A, iv p0.B], .agg #[.int .u8 p1.Kind, .bool p1.Purl, iv p1.A, iv p1.B]]) 8 Try.func85 rfl rfl (by simp) S (fun a S => ?_)
 refine sSeq (fun K1 hK1 => ?_)
 refine sRegion ?_
 refine sBox (v := .agg #[.int .u8 p0.Kind, .bool p0.Purl, iv p0.A, iv p0.B]) S (wN rfl) rfl rfl [.int .u8 p0.Kind, .bool p0.Purl, iv p0.A, iv p0.B] rfl rfl (lb rfl) fun a b2 w S => ?_
 refine sBox (v := .agg #[.int .u8 p1.Kind, .bool p1.Purl, iv p1.A, iv p1.B]) S (wN rfl) rfl rfl [.int .u8 p1.Kind, .bool p1.Purl, iv p1.A, iv p1.B] rfl rfl (lb rfl) fun a b3 w S => ?_
 refine sMa S rfl rfl rfl rfl rfl fun a S => ?_
 refine lT (hK1 _ _ ?_)
 refine sSeq (fun K4 hK4 => ?_)
 refine sSeq (fun K5 hK5 => ?_)
 refine sRegion ?_
 refine sLoadN (p := b2) (off := 0) (T := 81) (vs := [.int .u8 p0.Kind, .bool p0.Purl, iv p0.A, iv p0.B]) 1 [.int .u8 p0.Kind, .bool p0.Purl, iv p0.A, iv p0.B] S (wN rfl) rfl rfl rfl rfl rfl rfl rfl (lb rfl) fun a S => ?_
 refine sLoadN (p := b3) (off := 0) (T := 81) (vs := [.int .u8 p1.Kind, .bool p1.Purl, iv p1.A, iv p1.B]) 0 [.int .u8 p1.Kind, .bool p1.Purl, iv p1.A, iv p1.B] S (wN rfl) rfl rfl rfl rfl rfl rfl rfl (lb rfl) fun a S => ?_
 refine sBin _ S (wN rfl) rfl rfl rfl (bEqV _ _ _ _ #[.int .u8 p0.Kind, .bool p0.Purl, iv p0.A, iv p0.B] #[.int .u8 p1.Kind, .bool p1.Purl, iv p1.A, iv p1.B] ((p0.Kind == p1.Kind) && ((p0.Purl == p1.Purl) && ((p0.A == p1.A) && ((p0.B == p1.B) && true)))) (by kernel_rfl) (eqlV_of (by kernel_rfl))) rfl (lb rfl) fun a S => ?_
 refine lT (hK5 _ _ ?_)
 rcases iteSome h with ⟨hc6, h⟩ | ⟨hc6, h⟩
 ·refine sCondT S rfl hc6 ?_
  refine sSeq (fun K7 hK7 => ?_)
  refine sRegion ?_
  refine sMa S rfl rfl rfl rfl rfl fun a S => ?_
  refine lT (hK7 _ _ ?_)
  obtain rfl := Option.some.inj h
  exact wp_ret (rThen (sRet (iv 0) S (rsl1 rfl (rvT (t := 4) (v := iv 0) S rfl)) ⟨(), rfl, S.mem.sel [] [] (by decide) rfl rfl⟩))
 refine sCondF S rfl hc6 ?_
 refine wp_skip (leafT (hK4 _ _ ?_))
 refine sSeq (fun K8 hK8 => ?_)
 refine sRegion ?_
 refine sMa S rfl rfl rfl rfl rfl fun a S => ?_
 refine lT (hK8 _ _ ?_)
 obtain rfl := Option.some.inj h
 exact wp_ret (sRet (iv 1) S (rsl1 rfl (rvT (t := 4) (v := iv 1) S rfl)) ⟨(), rfl, S.mem.sel [] [] (by decide) rfl rfl⟩)
end Go.Proofs.Ytffikfajljbmnaa
namespace Go.Proofs.Ytffikfajljbmnaa
open Go.RowKit
def anc_compare_table_api_Stitch__s0_0 : List (List Nat) := [[], [], [0, 1], [0, 1, 2], [], [], [], [5, 6], [5, 6, 7], [], [9], [5, 6, 7, 8, 9, 10], [5, 6, 7, 8, 9, 10, 11], [], [], [], [14, 15], [14, 15, 16], [13, 14, 15, 16, 17], [5, 6, 7, 8, 9, 10, 11, 12, 13, 14, 15, 16, 17, 18], [0, 1, 2, 3, 4, 5, 6, 7, 8, 9, 10, 11, 12, 13, 14, 15, 16, 17, 18, 19], [0, 1, 2, 3, 4, 5, 6, 7, 8, 9, 10, 11, 12, 13, 14, 15, 16, 17, 18, 19, 20]]
def anc_compare_table_api_Stitch__s0_1 : List (List Nat) := [[], [], [0, 1], [0, 1, 2], [], [], [], [6], [5, 6, 7], [5, 6, 7, 8], [], [5, 6, 7, 8, 9, 10], [5, 6, 7, 8, 9, 10, 11], [], [], [], [14, 15], [14, 15, 16], [13, 14, 15, 16, 17], [5, 6, 7, 8, 9, 10, 11, 12, 13, 14, 15, 16, 17, 18], [0, 1, 2, 3, 4, 5, 6, 7, 8, 9, 10, 11, 12, 13, 14, 15, 16, 17, 18, 19], [0, 1, 2, 3, 4, 5, 6, 7, 8, 9, 10, 11, 12, 13, 14, 15, 16, 17, 18, 19, 20]]
def anc_compare_table_api_Stitch__s0_2 : List (List Nat) := [[], [], [0, 1], [0, 1, 2], [], [], [], [6], [5, 6, 7], [5, 6, 7, 8], [], [5, 6, 7, 8, 9, 10], [5, 6, 7, 8, 9, 10, 11], [], [], [], [14, 15], [14, 15, 16], [13, 14, 15, 16, 17], [5, 6, 7, 8, 9, 10, 11, 12, 13, 14, 15, 16, 17, 18], [], [], [20, 21], [20, 21, 22], [], [24], [20, 21, 22, 23, 24, 25], [20, 21, 22, 23, 24, 25, 26], [], [], [], [29, 30], [29, 30, 31], [13, 14, 15, 16, 17, 18, 28, 29, 30, 31, 32], [13, 14, 15, 16, 17, 18, 20, 21, 22, 23, 24, 25, 26, 27, 28, 29, 30, 31, 32, 33], [], [], [36], [35, 36, 37], [35, 36, 37, 38], [], [40], [35, 36, 37, 38, 39, 40, 41], [35, 36, 37, 38, 39, 40, 41, 42], [], [], [], [45, 46], [45, 46, 47], [], [], [49, 50], [49, 50, 51], [13, 14, 15, 16, 17, 18, 28, 29, 30, 31, 32, 33, 44, 45, 46, 47, 48, 49, 50, 51, 52], [13, 14, 15, 16, 17, 18, 28, 29, 30, 31, 32, 33, 35, 36, 37, 38, 39, 40, 41, 42, 43, 44, 45, 46, 47, 48, 49, 50, 51, 52, 53], [5, 6, 7, 8, 9, 10, 11, 12, 13, 14, 15, 16, 17, 18, 19, 20, 21, 22, 23, 24, 25, 26, 27, 28, 29, 30, 31, 32, 33, 34, 35, 36, 37, 38, 39, 40, 41, 42, 43, 44, 45, 46, 47, 48, 49, 50, 51, 52, 53, 54], [0, 1, 2, 3, 4, 5, 6, 7, 8, 9, 10, 11, 12, 13, 14, 15, 16, 17, 18, 19, 20, 21, 22, 23, 24, 25, 26, 27, 28, 29, 30, 31, 32, 33, 34, 35, 36, 37, 38, 39, 40, 41, 42, 43, 44, 45, 46, 47, 48, 49, 50, 51, 52, 53, 54, 55], [0, 1, 2, 3, 4, 5, 6, 7, 8, 9, 10, 11, 12, 13, 14, 15, 16, 17, 18, 19, 20, 21, 22, 23, 24, 25, 26, 27, 28, 29, 30, 31, 32, 33, 34, 35, 36, 37, 38, 39, 40, 41, 42, 43, 44, 45, 46, 47, 48, 49, 50, 51, 52, 53, 54, 55, 56]]
noncomputable def compare_table_api_Stitch__s0_l1 (s16 : Int) (p0 : (List api_Stitch)) (p1 : (List api_Stitch)) (s15 : List (List Int)) : (Int × List Int) → Option ((Int × List Int) ⊕ List Int) := fun s0 => match s0 with
 | (s40, s41) =>
  if decide (0 ≤ s40) then
   Option.bind (α := List Int) (
    Option.bind (α := Bool) (
     if s16 == (p0.length : Int) then
      some (s40 == (p1.length : Int))
     else
      some false) fun o52 =>
    if o52 then
     some s41
    else
     if s16 == (p0.length : Int) then
      Option.bind (idxO s41 (w64 (s40 + 1))) fun x65 =>
      Option.bind (idxO p1 s40) fun x70 =>
      Option.bind (F_compare_cellTable_1 x70) fun r75 =>
      Option.bind (idxO s41 s40) fun x77 =>
      Option.bind (setO s41 s40 (w64 (x65 + r75))) fun l82 =>
      some l82
     else
      if s40 == (p1.length : Int) then
       Option.bind (idxO s15 (w64 (s16 + 1))) fun x104 =>
       Option.bind (idxO x104 s40) fun x112 =>
       Option.bind (idxO p0 s16) fun x117 =>
       Option.bind (F_compare_cellTable_1 x117) fun r122 =>
       Option.bind (idxO s41 s40) fun x124 =>
       Option.bind (setO s41 s40 (w64 (x112 + r122))) fun l129 =>
       some l129
      else
       Option.bind (idxO s15 (w64 (s16 + 1))) fun x152 =>
       Option.bind (idxO x152 s40) fun x160 =>
       Option.bind (idxO p0 s16) fun x165 =>
       Option.bind (F_compare_cellTable_1 x165) fun r170 =>
       Option.bind (idxO s41 (w64 (s40 + 1))) fun x175 =>
       Option.bind (idxO p1 s40) fun x180 =>
       Option.bind (F_compare_cellTable_1 x180) fun r185 =>
       Option.bind (idxO x152 (w64 (s40 + 1))) fun x193 =>
       Option.bind (F_compare_cellTable_2 x165 x180) fun r204 =>
       Option.bind (idxO s41 s40) fun x206 =>
       Option.bind (setO s41 s40 (min3 (w64 (x160 + r170)) (w64 (x175 + r185)) (w64 (x193 + r204)))) fun l211 =>
       some l211) fun o49 =>
   some (.inl (w64 (s40 - 1), o49))
  else
   some (.inr s41)
noncomputable def compare_table_api_Stitch__s0_l2 (p1 : (List api_Stitch)) (p0 : (List api_Stitch)) : (List (List Int) × Int) → Option ((List (List Int) × Int) ⊕ List (List Int)) := fun s0 => match s0 with
 | (s15, s16) =>
  if decide (0 ≤ s16) then
   Option.bind (α := List Int) (
    Option.bind (makeO (w64 ((p1.length : Int) + 1)) (0 : Int)) fun m32 =>
    Option.bind (idxO s15 s16) fun x34 =>
    Option.bind (whileO (compare_table_api_Stitch__s0_l1 s16 p0 p1 s15) ((p1.length : Int), m32)) fun e45 =>
     some e45) fun o24 =>
   some (.inl ((s15.set (s16).toNat o24), w64 (s16 - 1)))
  else
   some (.inr s15)
noncomputable def F_compare_table_api_Stitch__s0 (p0 : (List api_Stitch)) (p1 : (List api_Stitch)) : Option (List (List Int)) :=
 Option.bind (makeO (w64 ((p0.length : Int) + 1)) ([] : (List Int))) fun m9 =>
 Option.bind (α := List (List Int)) (
  Option.bind (whileO (compare_table_api_Stitch__s0_l2 p1 p0) (m9, (p0.length : Int))) fun e20 =>
   some e20) fun o11 =>
 some o11
def c_compare_table_api_Stitch__s0_val (r : (List (List Int))) (x : Value) : Value := x
def c_compare_table_api_Stitch__s0_D (r : (List (List Int))) (x : Value) : List Fact := [fRep (rL (rL (rI .i64))) x r]
set_option maxHeartbeats 4000000 in
set_option maxRecDepth 100000 in
theorem c_compare_table_api_Stitch__s0 (E : Nat → Prop) (w0 : World) (p0 : (List api_Stitch)) (v0 : Value) (p1 : (List api_Stitch)) (v1 : Value) (r : (List (List Int))) (h : F_compare_table_api_Stitch__s0 p0 p1 = some r) (S : St0 E [] w0 w0 [] [fRep (rL r_api_Stitch) (v0) p0, fRep (rL r_api_Stitch) (v1) p1]) :
 Calls Try.prog 83 #[v0, v1, .func (.func 84) #[] #[], .func (.func 85) #[] #[]] w0 (Ret (X := Value) E [] w0 (c_compare_table_api_Stitch__s0_val r) (fun _ => []) (c_compare_table_api_Stitch__s0_D r)) := by
 unfold F_compare_table_api_Stitch__s0 at h
 obtain ⟨ad1, cp2, _, rfl, _⟩ := S.know (i := 0) (e := fRep (rL r_api_Stitch) (v0) p0) rfl
 obtain ⟨ad3, cp4, _, rfl, _⟩ := S.know (i := 1) (e := fRep (rL r_api_Stitch) (v1) p1) rfl
 refine sEnter (args := [.slice ad1 p0.length cp2, .slice ad3 p1.length cp4, .func (.func 84) #[] #[], .func (.func 85) #[] #[]]) 156 Try.func83 rfl rfl (by simp) S (fun a S => ?_)
 refine sSeq (fun K5 hK5 => ?_)
 refine sRegion ?_
 refine sMa S rfl rfl rfl rfl rfl fun a S => ?_
 refine lT (hK5 _ _ ?_)
 refine sSeq (fun K6 hK6 => ?_)
 refine sRegion ?_
 refine sMm S rfl rfl rfl rfl rfl fun a S => ?_
 refine sLen S (wN rfl) rfl Try.underlying47 rfl rfl (lb rfl) fun a S => ?_
 refine sBin _ S (wN rfl) rfl rfl rfl (bAdd _ _ _ _ (p0.length : Int) 1) rfl (lb rfl) fun a S => ?_
 obtain ⟨m9, hx10, h⟩ := bindSome h
 refine sMake (r := (rL (rI .i64))) (m := w64 ((p0.length : Int) + 1)) (xs := m9) (.slice none 0 0) ([] : (List Int)) 24 S (wN rfl) rfl Try.underlying98 rfl rfl (by decide) (fun E w => rL_nil _ E w) rfl rfl hx10 rfl (lb rfl) fun a w ad7 cp8 S => ?_
 refine sMa S rfl rfl rfl rfl rfl fun a S => ?_
 refine lT (hK6 _ _ ?_)
 obtain ⟨t12, h, g13⟩ := bindSome h
 refine sCut (fun a w => ∃ o11, o11 = t12 ∧ St [] E [] w0 156 a w [(9, .slice ad7 o11.length cp8)] [eRow (rL (rI .i64)) 101 (.slice ad7 o11.length cp8) o11] []) ?_ (fun a w hI => ?_)
 rotate_left
 ·obtain ⟨o11, rfl, S⟩ := hI
  have h := g13
  clear g13
  try dsimp only at h
  refine sSeq (fun K270 hK270 => ?_)
  refine sRegion ?_
  refine sMm S rfl rfl rfl rfl rfl fun a S => ?_
  refine sMa S rfl rfl rfl rfl rfl fun a S => ?_
  refine lT (hK270 _ _ ?_)
  obtain rfl := Option.some.inj h
  have S := S.shutR (r := (rL (rI .i64))) (T := 101) (v := .slice ad7 o11.length cp8) (xs := o11) 0 rfl
  exact wp_ret (sRet (.slice ad7 o11.length cp8) S (rsl1 rfl (rvT (t := 8) (v := .slice ad7 o11.length cp8) S rfl)) ⟨(.slice ad7 o11.length cp8), rfl, S.mem.sel [] [0] (by decide) rfl rfl⟩)
 refine sSeq (fun K14 hK14 => ?_)
 refine sRegion ?_
 refine sMm S rfl rfl rfl rfl rfl fun a S => ?_
 refine sLen S (wN rfl) rfl Try.underlying47 rfl rfl (lb rfl) fun a S => ?_
 refine sMa S rfl rfl rfl rfl rfl fun a S => ?_
 refine lT (hK14 _ _ ?_)
 refine wp_block ?_
 obtain ⟨t19, hl, g18⟩ := bindSome h
 refine sLoop hl (fun s0 a w => match s0 with | (s15, s16) => St [] E [] w0 156 a w [(0, .slice ad1 p0.length cp2), (1, .slice ad3 p1.length cp4), (2, .func (.func 84) #[] #[]), (3, .func (.func 85) #[] #[]), (9, .slice ad7 s15.length cp8), (10, iv s16)] [eRow (rL (rI .i64)) 101 (.slice ad7 s15.length cp8) s15] [fRep (rL r_api_Stitch) (.slice ad1 p0.length cp2) p0, fRep (rL r_api_Stitch) (.slice ad3 p1.length cp4) p1]) (S.fix [0] [0, 1] (by decide) rfl rfl rfl) ?_
 clear hl h
 intro s0 a w c0 hI h hu17
 obtain ⟨s15, s16⟩ := s0
 unfold compare_table_api_Stitch__s0_l2 at h
 dsimp only at h hI
 have S := hI
 refine sSeq (fun K21 hK21 => ?_)
 refine sSeq (fun K22 hK22 => ?_)
 refine sRegion ?_
 refine sMm S rfl rfl rfl rfl rfl fun a S => ?_
 refine sBin _ S (wN rfl) rfl rfl rfl (bGe _ _ _ _ .i64 s16 0) rfl (lb rfl) fun a S => ?_
 refine lT (hK22 _ _ ?_)
 rcases iteSome h with ⟨hc23, h⟩ | ⟨hc23, h⟩
 rotate_left
 ·refine sCondF S rfl hc23 ?_
  obtain rfl := Option.some.inj h
  obtain rfl := hu17 _ rfl
  have h := g18
  clear g18
  try dsimp only at h
  exact wp_exit (xThen (xThen (xHit (leafT (⟨s15, Option.some.inj h, S.fix [0] [] (by decide) rfl rfl rfl⟩)))))
 refine sCondT S rfl hc23 ?_
 refine wp_skip (leafT (hK21 _ _ ?_))
 obtain ⟨t27, h, g28⟩ := bindSome h
 refine sCut (fun a w => ∃ o24, o24 = t27 ∧ ∃ ad25, ∃ cp26, St [] E [] w0 156 a w [(0, .slice ad1 p0.length cp2), (1, .slice ad3 p1.length cp4), (2, .func (.func 84) #[] #[]), (3, .func (.func 85) #[] #[]), (9, .slice ad7 s15.length cp8), (10, iv s16)] [eHole (rL (rI .i64)) 101 (.slice ad7 s15.length cp8) s15 ((s16).toNat * (rL (rI .i64)).sz + 0) (.slice ad25 o24.length cp26), eRow (rI .i64) 3 (.slice ad25 o24.length cp26) o24] [fRep (rL r_api_Stitch) (.slice ad1 p0.length cp2) p0, fRep (rL r_api_Stitch) (.slice ad3 p1.length cp4) p1]) ?_ (fun a w hI => ?_)
 rotate_left
 ·obtain ⟨o24, rfl, ad25, cp26, S⟩ := hI
  have h := g28
  clear g28
  try dsimp only at h
  refine sRegion ?_
  refine sMm S rfl rfl rfl rfl rfl fun a S => ?_
  refine sBin _ S (wN rfl) rfl rfl rfl (bSub _ _ _ _ s16 1) rfl (lb rfl) fun a S => ?_
  refine sMa S rfl rfl rfl rfl rfl fun a S => ?_
  have S := S.shutR (r := (rI .i64)) (T := 3) (v := .slice ad25 o24.length cp26) (xs := o24) 1 rfl
  have S := S.closeHN (r := (rL (rI .i64))) (T := 101) (xs := s15) (y := o24) (v := .slice ad7 s15.length cp8) (u := .slice ad25 o24.length cp26) (j := s16) 0 rfl (S.mem.know (i := 0) (e := fRep (rL (rI .i64)) (.slice ad25 o24.length cp26) o24) rfl) rfl (scal_L _)
  rw [set_v s15 (s16).toNat o24 ad7 cp8] at S
  exact lT (⟨((s15.set (s16).toNat o24), w64 (s16 - 1)), (Option.some.inj h).symm, (S.fix [0] [1, 2] (by decide) rfl rfl rfl)⟩)
 refine wp_block ?_
 refine sSeq (fun K29 hK29 => ?_)
 refine sRegion ?_
 refine sMm S rfl rfl rfl rfl rfl fun a S => ?_
 refine sMm S rfl rfl rfl rfl rfl fun a S => ?_
 refine sMm S rfl rfl rfl rfl rfl fun a S => ?_
 refine sLen S (wN rfl) rfl Try.underlying47 rfl rfl (lb rfl) fun a S => ?_
 refine sBin _ S (wN rfl) rfl rfl rfl (bAdd _ _ _ _ (p1.length : Int) 1) rfl (lb rfl) fun a S => ?_
 obtain ⟨m32, hx33, h⟩ := bindSome h
 refine sMake (r := (rI .i64)) (m := w64 ((p1.length : Int) + 1)) (xs := m32) (iv 0) (0 : Int) 8 S (wN rfl) rfl Try.underlying101 rfl rfl (by decide) (fun _ _ => rfl) rfl rfl hx33 rfl (lb rfl) fun a w ad30 cp31 S => ?_
 obtain ⟨x34, hx35, h⟩ := bindSome h
 obtain ⟨q36, hq37, hp38⟩ := pIdxR (P := Try.prog) (r := (rL (rI .i64))) (T := 101) (v := .slice ad7 s15.length cp8) (xs := s15) (j := s16) 98 101 1 S Try.underlying98 rfl rfl hx35
 refine sIdxV S (wN rfl) rfl rfl rfl hq37 rfl (lb rfl) fun a S => ?_
 refine sStoreHE (r := (rL (rI .i64))) (T := 101) (xs := s15) (x := x34) (v := .slice ad7 s15.length cp8) (vq := q36) (u := .slice ad30 m32.length cp31) (j := s16) 1 S hp38 (wN rfl) rfl rfl rfl rfl hx35 rfl rfl rfl rfl fun a w S => ?_
 refine lT (hK29 _ _ ?_)
 refine sSeq (fun K39 hK39 => ?_)
 refine sRegion ?_
 refine sMm S rfl rfl rfl rfl rfl fun a S => ?_
 refine sLen S (wN rfl) rfl Try.underlying47 rfl rfl (lb rfl) fun a S => ?_
 refine sMa S rfl rfl rfl rfl rfl fun a S => ?_
 refine lT (hK39 _ _ ?_)
 refine wp_block ?_
 obtain ⟨t44, hl, g43⟩ := bindSome h
 refine sLoop hl (fun s0 a w => match s0 with | (s40, s41) => St [] E [] w0 156 a w [(0, .slice ad1 p0.length cp2), (1, .slice ad3 p1.length cp4), (2, .func (.func 84) #[] #[]), (3, .func (.func 85) #[] #[]), (9, .slice ad7 s15.length cp8), (10, iv s16), (11, iv s40)] [eHole (rL (rI .i64)) 101 (.slice ad7 s15.length cp8) s15 ((s16).toNat * (rL (rI .i64)).sz + 0) (.slice ad30 s41.length cp31), eRow (rI .i64) 3 (.slice ad30 s41.length cp31) s41] [fRep (rL r_api_Stitch) (.slice ad1 p0.length cp2) p0, fRep (rL r_api_Stitch) (.slice ad3 p1.length cp4) p1]) (S.fix [0, 1] [0, 1] (by decide) rfl rfl rfl) ?_
 clear hl h
 intro s0 a w c0 hI h hu42
 obtain ⟨s40, s41⟩ := s0
 unfold compare_table_api_Stitch__s0_l1 at h
 dsimp only at h hI
 have S := hI
 refine sSeq (fun K46 hK46 => ?_)
 refine sSeq (fun K47 hK47 => ?_)
 refine sRegion ?_
 refine sMm S rfl rfl rfl rfl rfl fun a S => ?_
 refine sBin _ S (wN rfl) rfl rfl rfl (bGe _ _ _ _ .i64 s40 0) rfl (lb rfl) fun a S => ?_
 refine lT (hK47 _ _ ?_)
 rcases iteSome h with ⟨hc48, h⟩ | ⟨hc48, h⟩
 rotate_left
 ·refine sCondF S rfl hc48 ?_
  obtain rfl := Option.some.inj h
  obtain rfl := hu42 _ rfl
  have h := g43
  clear g43
  try dsimp only at h
  exact wp_exit (xThen (xThen (xHit (leafB (leafT (⟨s41, Option.some.inj h, ad30, cp31, S.fix [0, 1] [0, 1] (by decide) rfl rfl rfl⟩))))))
 refine sCondT S rfl hc48 ?_
 refine wp_skip (leafT (hK46 _ _ ?_))
 obtain ⟨t50, h, g51⟩ := bindSome h
 refine sCut (fun a w => ∃ o49, o49 = t50 ∧ St [] E [] w0 156 a w [(0, .slice ad1 p0.length cp2), (1, .slice ad3 p1.length cp4), (2, .func (.func 84) #[] #[]), (3, .func (.func 85) #[] #[]), (9, .slice ad7 s15.length cp8), (10, iv s16), (11, iv s40)] [eHole (rL (rI .i64)) 101 (.slice ad7 s15.length cp8) s15 ((s16).toNat * (rL (rI .i64)).sz + 0) (.slice ad30 o49.length cp31), eRow (rI .i64) 3 (.slice ad30 o49.length cp31) o49] [fRep (rL r_api_Stitch) (.slice ad1 p0.length cp2) p0, fRep (rL r_api_Stitch) (.slice ad3 p1.length cp4) p1]) ?_ (fun a w hI => ?_)
 rotate_left
 ·obtain ⟨o49, rfl, S⟩ := hI
  have h := g51
  clear g51
  try dsimp only at h
  refine sRegion ?_
  refine sMm S rfl rfl rfl rfl rfl fun a S => ?_
  refine sBin _ S (wN rfl) rfl rfl rfl (bSub _ _ _ _ s40 1) rfl (lb rfl) fun a S => ?_
  refine sMa S rfl rfl rfl rfl rfl fun a S => ?_
  exact lT (⟨(w64 (s40 - 1), o49), (Option.some.inj h).symm, (S.fix [0, 1] [0, 1] (by decide) rfl rfl rfl)⟩)
 refine wp_block ?_
 refine wp_block ?_
 obtain ⟨t53, h, g54⟩ := bindSome h
 refine sCut (fun a w => ∃ o52, o52 = t53 ∧ St [] E [] w0 156 a w [(0, .slice ad1 p0.length cp2), (1, .slice ad3 p1.length cp4), (2, .func (.func 84) #[] #[]), (3, .func (.func 85) #[] #[]), (9, .slice ad7 s15.length cp8), (10, iv s16), (11, iv s40), (92, .bool o52)] [eHole (rL (rI .i64)) 101 (.slice ad7 s15.length cp8) s15 ((s16).toNat * (rL (rI .i64)).sz + 0) (.slice ad30 s41.length cp31), eRow (rI .i64) 3 (.slice ad30 s41.length cp31) s41] [fRep (rL r_api_Stitch) (.slice ad1 p0.length cp2) p0, fRep (rL r_api_Stitch) (.slice ad3 p1.length cp4) p1]) ?_ (fun a w hI => ?_)
 ·refine sRegion ?_
  refine sMm S rfl rfl rfl rfl rfl fun a S => ?_
  refine sMm S rfl rfl rfl rfl rfl fun a S => ?_
  refine sLen S (wN rfl) rfl Try.underlying47 rfl rfl (lb rfl) fun a S => ?_
  refine sBin _ S (wN rfl) rfl rfl rfl (bEq _ _ _ _ .i64 s16 (p0.length : Int)) rfl (lb rfl) fun a S => ?_
  refine sMm S rfl rfl rfl rfl rfl fun a S => ?_
  rcases iteSome h with ⟨hc55, h⟩ | ⟨hc55, h⟩
  rotate_left
  ·refine sSkN 4 4 true 97 S rfl rfl hc55 rfl fun a S => ?_
   refine sPickF (.bool false) S (wN rfl) rfl rfl hc55 rfl rfl (lb rfl) fun a S => ?_
   refine sMa S rfl rfl rfl rfl rfl fun a S => ?_
   exact lT (⟨false, Option.some.inj h, S.fix [0, 1] [0, 1] (by decide) rfl rfl rfl⟩)
  refine sMove (iv s40) S (wG 4 true 97 rfl rfl rfl hc55) (.inl rfl) rfl rfl (lb rfl) fun a S => ?_
  refine sMove (.slice ad3 p1.length cp4) S (wG 4 true 97 rfl rfl rfl hc55) (.inl rfl) rfl rfl (lb rfl) fun a S => ?_
  refine sLen S (wG 4 true 97 rfl rfl rfl hc55) rfl Try.underlying47 rfl rfl (lb rfl) fun a S => ?_
  refine sBin _ S (wG 4 true 97 rfl rfl rfl hc55) rfl rfl rfl (bEq _ _ _ _ .i64 s40 (p1.length : Int)) rfl (lb rfl) fun a S => ?_
  refine sPickT (.bool (s40 == (p1.length : Int))) S (wN rfl) rfl rfl hc55 rfl rfl (lb rfl) fun a S => ?_
  refine sMa S rfl rfl rfl rfl rfl fun a S => ?_
  exact lT (⟨s40 == (p1.length : Int), Option.some.inj h, S.fix [0, 1] [0, 1] (by decide) rfl rfl rfl⟩)
 obtain ⟨o52, rfl, S⟩ := hI
 have h := g54
 clear g54
 try dsimp only at h
 rcases iteSome h with ⟨hc56, h⟩ | ⟨hc56, h⟩
 ·refine sCondT S rfl hc56 ?_
  exact wp_skip (leafB (leafB (leafT (⟨s41, Option.some.inj h, S.fix [0, 1] [0, 1] (by decide) rfl rfl rfl⟩))))
 refine sCondF S rfl hc56 ?_
 refine sSeq (fun K57 hK57 => ?_)
 refine sRegion ?_
 refine sMm S rfl rfl rfl rfl rfl fun a S => ?_
 refine sMm S rfl rfl rfl rfl rfl fun a S => ?_
 refine sLen S (wN rfl) rfl Try.underlying47 rfl rfl (lb rfl) fun a S => ?_
 refine sBin _ S (wN rfl) rfl rfl rfl (bEq _ _ _ _ .i64 s16 (p0.length : Int)) rfl (lb rfl) fun a S => ?_
 refine sMa S rfl rfl rfl rfl rfl fun a S => ?_
 refine lT (hK57 _ _ ?_)
 rcases iteSome h with ⟨hc58, h⟩ | ⟨hc58, h⟩
 ·refine sCondT S rfl hc58 ?_
  obtain ⟨x65, hx66, h⟩ := bindSome h
  obtain ⟨x70, hx71, h⟩ := bindSome h
  obtain ⟨r75, hx76, h⟩ := bindSome h
  obtain ⟨x77, hx78, h⟩ := bindSome h
  obtain ⟨l82, hx83, h⟩ := bindSome h
  obtain ⟨q84, hq85, hp86⟩ := pIdxH (P := Try.prog) (r := (rL (rI .i64))) (T := 101) (v := .slice ad7 s15.length cp8) (xs := s15) (j := s16) 98 101 0 S Try.underlying98 rfl rfl hx35
  obtain ⟨q87, hq88, hp89⟩ := pIdxH (P := Try.prog) (r := (rL (rI .i64))) (T := 101) (v := .slice ad7 s15.length cp8) (xs := s15) (j := s16) 98 101 0 S Try.underlying98 rfl rfl hx35
  obtain ⟨q90, hq91, hp92⟩ := pIdxR (P := Try.prog) (r := (rI .i64)) (T := 3) (v := .slice ad30 s41.length cp31) (xs := s41) (j := w64 (s40 + 1)) 101 3 1 S Try.underlying101 rfl rfl hx66
  obtain ⟨q93, hq94, S⟩ := pIdx (P := Try.prog) (r := r_api_Stitch) (v := .slice ad3 p1.length cp4) (xs := p1) (j := s40) 47 81 1 S Try.underlying47 rfl rfl hx71
  obtain ⟨u95, S⟩ := pLoad (r := r_api_Stitch) (q := q93) (x := x70) 0 S rfl
  obtain rfl : u95 = .agg #[.int .u8 x70.Kind, .bool x70.Purl, iv x70.A, iv x70.B] := S.mem.know (i := 1) (e := fRep r_api_Stitch (u95) x70) rfl
  obtain ⟨q96, hq97, hp98⟩ := pIdxR (P := Try.prog) (r := (rI .i64)) (T := 3) (v := .slice ad30 s41.length cp31) (xs := s41) (j := s40) 101 3 1 S Try.underlying101 rfl rfl hx78
  refine sDraw (nf := [21]) (W := [(0, 108, .slice ad7 s15.length cp8), (1, 109, iv s16), (2, 110, q84), (3, 111, .slice ad30 s41.length cp31), (4, 112, iv s40), (5, 113, .slice ad7 s15.length cp8), (6, 114, iv s16), (7, 115, q87), (8, 116, .slice ad30 s41.length cp31), (9, 117, iv s40), (10, 118, iv (w64 (s40 + 1))), (11, 119, q90), (12, 120, iv x65), (13, 121, .func (.func 84) #[] #[]), (14, 122, .slice ad3 p1.length cp4), (15, 123, iv s40), (16, 124, q93), (17, 125, .agg #[.int .u8 x70.Kind, .bool x70.Purl, iv x70.A, iv x70.B]), (18, 126, iv r75), (19, 127, iv (w64 (x65 + r75))), (20, 128, q96)]) rfl S ?_
  refine node_by (A := anc_compare_table_api_Stitch__s0_0) 22 (by kernel_rfl) (by kernel_rfl) (by kernel_rfl) (by kernel_rfl) (by kernel_rfl) [0, 1, 2, 3, 4, 5, 6, 7, 8, 9, 10, 11, 12, 13, 14, 15, 16, 17, 18, 19, 20] (by kernel_rfl) (by decide) (by decide) (fF ?_ (fF ?_ (fF ?_ (fF ?_ (fF ?_ (fF ?_ (fF ?_ (fF ?_ (fF ?_ (fF ?_ (fF ?_ (fF ?_ (fF ?_ (fF ?_ (fF ?_ (fF ?_ (fF ?_ (fF ?_ (fF ?_ (fF ?_ (fF ?_ (fN ?_ (trivial))))))))))))))))))))))) [] (fun q hq => by cases hq) (fun hY => absurd (hY 21 (by decide)) (by decide))
  ·exact fM 0 none rfl rfl rfl rfl (.inl rfl) rfl rfl rfl
  ·exact fM 1 none rfl rfl rfl rfl (.inl rfl) rfl rfl rfl
  ·refine fJ [(108, _), (109, _)] 2 [some 0, some 1] fun G a w S => ?_
   exact sIdxV S (wN rfl) rfl rfl rfl hq85 rfl (lb rfl) fun a S => leafL ⟨rfl, S⟩
  ·refine fJ [(110, _)] 3 [some 2] fun G a w S => ?_
   exact sLoadHE (r := (rL (rI .i64))) (T := 101) (xs := s15) (u := .slice ad30 s41.length cp31) (v := .slice ad7 s15.length cp8) (vq := q84) (j := s16) 0 S hp86 (wN rfl) rfl rfl rfl rfl rfl (lb rfl) fun a S => leafL ⟨rfl, S⟩
  ·exact fM 4 none rfl rfl rfl rfl (.inl rfl) rfl rfl rfl
  ·exact fM 5 none rfl rfl rfl rfl (.inl rfl) rfl rfl rfl
  ·exact fM 6 none rfl rfl rfl rfl (.inl rfl) rfl rfl rfl
  ·refine fJ [(113, _), (114, _)] 7 [some 5, some 6] fun G a w S => ?_
   exact sIdxV S (wN rfl) rfl rfl rfl hq88 rfl (lb rfl) fun a S => leafL ⟨rfl, S⟩
  ·refine fJ [(115, _)] 8 [some 7] fun G a w S => ?_
   exact sLoadHE (r := (rL (rI .i64))) (T := 101) (xs := s15) (u := .slice ad30 s41.length cp31) (v := .slice ad7 s15.length cp8) (vq := q87) (j := s16) 0 S hp89 (wN rfl) rfl rfl rfl rfl rfl (lb rfl) fun a S => leafL ⟨rfl, S⟩
  ·exact fM 9 none rfl rfl rfl rfl (.inl rfl) rfl rfl rfl
  ·refine fJ [(117, _)] 10 [some 9] fun G a w S => ?_
   exact sBin _ S (wN rfl) rfl rfl rfl (bAdd _ _ _ _ s40 1) rfl (lb rfl) fun a S => leafL ⟨rfl, S⟩
  ·refine fJ [(116, _), (118, _)] 11 [some 8, some 10] fun G a w S => ?_
   exact sIdxV S (wN rfl) rfl rfl rfl hq91 rfl (lb rfl) fun a S => leafL ⟨rfl, S⟩
  ·refine fJ [(119, _)] 12 [some 11] fun G a w S => ?_
   exact sLoadR (r := (rI .i64)) (T := 3) (xs := s41) (x := x65) (v := .slice ad30 s41.length cp31) (vq := q90) (j := w64 (s40 + 1)) 1 (iv x65) S hp92 (wN rfl) rfl rfl rfl hx66 (fun _ _ _ h => h) (scal_I _) rfl rfl (lb rfl) fun a S => leafL ⟨rfl, S⟩
  ·exact fM 13 none rfl rfl rfl rfl (.inl rfl) rfl rfl rfl
  ·exact fM 14 none rfl rfl rfl rfl (.inl rfl) rfl rfl rfl
  ·exact fM 15 none rfl rfl rfl rfl (.inl rfl) rfl rfl rfl
  ·refine fJ [(122, _), (123, _)] 16 [some 14, some 15] fun G a w S => ?_
   exact sIdxV S (wN rfl) rfl rfl rfl hq94 rfl (lb rfl) fun a S => leafL ⟨rfl, S⟩
  ·refine fJ [(124, _)] 17 [some 16] fun G a w S => ?_
   exact sLoadVN (vq := q93) 0 [.int .u8 x70.Kind, .bool x70.Purl, iv x70.A, iv x70.B] S (wN rfl) rfl rfl rfl rfl rfl rfl (lb rfl) fun a S => leafL ⟨rfl, S⟩
  ·refine fJ [(121, _), (125, _)] 18 [some 13, some 17] fun G a w S => ?_
   have S1 := S.mem
   refine sCallVQ (X := Unit) (g := 84) (vs := [.agg #[.int .u8 x70.Kind, .bool x70.Purl, iv x70.A, iv x70.B]]) (caps := []) (val := fun _ => iv r75) S (wN rfl) rfl rfl callee84 rfl (S1.quiet [1] rfl) (fun E1 w1 S1 => c_compare_cellTable_1 E1 w1 x70 (.agg #[.int .u8 x70.Kind, .bool x70.Purl, iv x70.A, iv x70.B]) r75 hx76 S1) rfl (lb rfl) fun _ a w S => ?_
   exact leafL ⟨rfl, S⟩
  ·refine fJ [(120, _), (126, _)] 19 [some 12, some 18] fun G a w S => ?_
   exact sBin _ S (wN rfl) rfl rfl rfl (bAdd _ _ _ _ x65 r75) rfl (lb rfl) fun a S => leafL ⟨rfl, S⟩
  ·refine fJ [(111, _), (112, _)] 20 [some 3, some 4] fun G a w S => ?_
   exact sIdxV S (wN rfl) rfl rfl rfl hq97 rfl (lb rfl) fun a S => leafL ⟨rfl, S⟩
  refine ⟨_, [(127, iv (w64 (x65 + r75))), (128, q96)], rfl, (srcs_of [some 19, some 20] rfl rfl rfl), fun G a w S => ?_⟩
  refine sStoreR (r := (rI .i64)) (T := 3) (xs := s41) (ys := l82) (y := (w64 (x65 + r75))) (v := .slice ad30 s41.length cp31) (vq := q96) (u := iv (w64 (x65 + r75))) (j := s40) 1 S hp98 (wN rfl) rfl rfl rfl rfl rfl hx83 rfl rfl fun a w S => ?_
  refine leafL ⟨rfl, _, _, .inr ⟨[], rfl, S, hz_of rfl, ?_⟩⟩
  refine node_by (A := anc_compare_table_api_Stitch__s0_0) 22 (by kernel_rfl) (by kernel_rfl) (by kernel_rfl) (by kernel_rfl) (by kernel_rfl) [0, 1, 2, 3, 4, 5, 6, 7, 8, 9, 10, 11, 12, 13, 14, 15, 16, 17, 18, 19, 20] (by kernel_rfl) (by decide) (by decide) (fD 21 (fD 21 (fD 21 (fD 21 (fD 21 (fD 21 (fD 21 (fD 21 (fD 21 (fD 21 (fD 21 (fD 21 (fD 21 (fD 21 (fD 21 (fD 21 (fD 21 (fD 21 (fD 21 (fD 21 (fD 21 (fY (trivial))))))))))))))))))))))) [(0, .slice ad1 p0.length cp2), (1, .slice ad3 p1.length cp4), (2, .func (.func 84) #[] #[]), (3, .func (.func 85) #[] #[]), (9, .slice ad7 s15.length cp8), (10, iv s16), (11, iv s40)] (fin_of [none, none, none, none, none, none, none] rfl (by kernel_rfl) (by kernel_rfl)) (fun _ a w S => ?_)
  rw [setO_v hx83 ad30 cp31] at S
  exact leafB (leafB (leafT (⟨l82, Option.some.inj h, S.fix [1, 0] [3, 4] (by decide) rfl rfl rfl⟩)))
 refine sCondF S rfl hc58 ?_
 refine sSeq (fun K99 hK99 => ?_)
 refine sRegion ?_
 refine sMm S rfl rfl rfl rfl rfl fun a S => ?_
 refine sMm S rfl rfl rfl rfl rfl fun a S => ?_
 refine sLen S (wN rfl) rfl Try.underlying47 rfl rfl (lb rfl) fun a S => ?_
 refine sBin _ S (wN rfl) rfl rfl rfl (bEq _ _ _ _ .i64 s40 (p1.length : Int)) rfl (lb rfl) fun a S => ?_
 refine sMa S rfl rfl rfl rfl rfl fun a S => ?_
 refine lT (hK99 _ _ ?_)
 rcases iteSome h with ⟨hc100, h⟩ | ⟨hc100, h⟩
 ·refine sCondT S rfl hc100 ?_
  obtain ⟨x104, hx105, h⟩ := bindSome h
  obtain ⟨x112, hx113, h⟩ := bindSome h
  obtain ⟨x117, hx118, h⟩ := bindSome h
  obtain ⟨r122, hx123, h⟩ := bindSome h
  obtain ⟨x124, hx125, h⟩ := bindSome h
  obtain ⟨l129, hx130, h⟩ := bindSome h
  obtain ⟨q131, hq132, hp133⟩ := pIdxH (P := Try.prog) (r := (rL (rI .i64))) (T := 101) (v := .slice ad7 s15.length cp8) (xs := s15) (j := s16) 98 101 0 S Try.underlying98 rfl rfl hx35
  obtain ⟨q134, hq135, hp136⟩ := pIdxH (P := Try.prog) (r := (rL (rI .i64))) (T := 101) (v := .slice ad7 s15.length cp8) (xs := s15) (j := w64 (s16 + 1)) 98 101 0 S Try.underlying98 rfl rfl hx105
  obtain ⟨q137, hq138, S⟩ := pIdx (P := Try.prog) (r := r_api_Stitch) (v := .slice ad1 p0.length cp2) (xs := p0) (j := s16) 47 81 0 S Try.underlying47 rfl rfl hx118
  obtain ⟨u139, S⟩ := pLoad (r := r_api_Stitch) (q := q137) (x := x117) 0 S rfl
  obtain rfl : u139 = .agg #[.int .u8 x117.Kind, .bool x117.Purl, iv x117.A, iv x117.B] := S.mem.know (i := 1) (e := fRep r_api_Stitch (u139) x117) rfl
  refine sDraw (nf := [9, 21]) (W := [(0, 134, .slice ad7 s15.length cp8), (1, 135, iv s16), (2, 136, q131), (3, 137, .slice ad30 s41.length cp31), (4, 138, iv s40), (5, 139, .slice ad7 s15.length cp8), (6, 140, iv s16), (7, 141, iv (w64 (s16 + 1))), (8, 142, q134), (10, 144, iv s40), (13, 147, .func (.func 84) #[] #[]), (14, 148, .slice ad1 p0.length cp2), (15, 149, iv s16), (16, 150, q137), (17, 151, .agg #[.int .u8 x117.Kind, .bool x117.Purl, iv x117.A, iv x117.B]), (18, 152, iv r122)]) rfl S ?_
  refine node_by (A := anc_compare_table_api_Stitch__s0_1) 22 (by kernel_rfl) (by kernel_rfl) (by kernel_rfl) (by kernel_rfl) (by kernel_rfl) [0, 1, 2, 3, 4, 5, 6, 7, 8, 10, 13, 14, 15, 16, 17, 18] (by kernel_rfl) (by decide) (by decide) (fF ?_ (fF ?_ (fF ?_ (fF ?_ (fF ?_ (fF ?_ (fF ?_ (fF ?_ (fF ?_ (fN ?_ (fF ?_ (fE 9 (fE 9 (fF ?_ (fF ?_ (fF ?_ (fF ?_ (fF ?_ (fF ?_ (fE 9 (fE 9 (aB 21 0 9 (by decide) (trivial))))))))))))))))))))))) [] (fun q hq => by cases hq) (fun hY => absurd (hY 9 (by decide)) (by decide))
  ·exact fM 0 none rfl rfl rfl rfl (.inl rfl) rfl rfl rfl
  ·exact fM 1 none rfl rfl rfl rfl (.inl rfl) rfl rfl rfl
  ·refine fJ [(134, _), (135, _)] 2 [some 0, some 1] fun G a w S => ?_
   exact sIdxV S (wN rfl) rfl rfl rfl hq132 rfl (lb rfl) fun a S => leafL ⟨rfl, S⟩
  ·refine fJ [(136, _)] 3 [some 2] fun G a w S => ?_
   exact sLoadHE (r := (rL (rI .i64))) (T := 101) (xs := s15) (u := .slice ad30 s41.length cp31) (v := .slice ad7 s15.length cp8) (vq := q131) (j := s16) 0 S hp133 (wN rfl) rfl rfl rfl rfl rfl (lb rfl) fun a S => leafL ⟨rfl, S⟩
  ·exact fM 4 none rfl rfl rfl rfl (.inl rfl) rfl rfl rfl
  ·exact fM 5 none rfl rfl rfl rfl (.inl rfl) rfl rfl rfl
  ·exact fM 6 none rfl rfl rfl rfl (.inl rfl) rfl rfl rfl
  ·refine fJ [(140, _)] 7 [some 6] fun G a w S => ?_
   exact sBin _ S (wN rfl) rfl rfl rfl (bAdd _ _ _ _ s16 1) rfl (lb rfl) fun a S => leafL ⟨rfl, S⟩
  ·refine fJ [(139, _), (141, _)] 8 [some 5, some 7] fun G a w S => ?_
   exact sIdxV S (wN rfl) rfl rfl rfl hq135 rfl (lb rfl) fun a S => leafL ⟨rfl, S⟩
  ·refine ⟨_, [(142, q134)], rfl, (srcs_of [some 8] rfl rfl rfl), fun G a w S => ?_⟩
   refine sLoadHo (r := (rL (rI .i64))) (T := 101) (xs := s15) (x := x104) (p := (s16).toNat * (rL (rI .i64)).sz + 0) (u := .slice ad30 s41.length cp31) (v := .slice ad7 s15.length cp8) (vq := q134) (j := w64 (s16 + 1)) 0 S hp136 (wN rfl) rfl rfl rfl hx105 (idx_next (by decide) (hole_lim 0 S.mem rfl) hx35 hx105) (scal_L _) rfl rfl (lb rfl) fun a u140 S => ?_
   obtain ⟨ad141, cp142, _, rfl, _⟩ := S.mem.know (i := 0) (e := fRep (rL (rI .i64)) (u140) x104) rfl
   obtain ⟨q143, hq144, S⟩ := pIdx (P := Try.prog) (r := (rI .i64)) (v := .slice ad141 x104.length cp142) (xs := x104) (j := s40) 101 3 0 S Try.underlying101 rfl rfl hx113
   obtain ⟨u145, S⟩ := pLoad (r := (rI .i64)) (q := q143) (x := x112) 0 S rfl
   obtain rfl : u145 = iv x112 := S.mem.know (i := 1) (e := fRep (rI .i64) (u145) x112) rfl
   obtain ⟨q146, hq147, hp148⟩ := pIdxR (P := Try.prog) (r := (rI .i64)) (T := 3) (v := .slice ad30 s41.length cp31) (xs := s41) (j := s40) 101 3 1 S Try.underlying101 rfl rfl hx125
   refine leafL ⟨rfl, _, _, .inl ⟨143, (.slice ad141 x104.length cp142), [(11, 145, q143), (12, 146, iv x112), (19, 153, iv (w64 (x112 + r122))), (20, 154, q146)], rfl, S, hz_of rfl, ?_⟩⟩
   refine node_by (A := anc_compare_table_api_Stitch__s0_1) 22 (by kernel_rfl) (by kernel_rfl) (by kernel_rfl) (by kernel_rfl) (by kernel_rfl) [11, 12, 19, 20, 9, 0, 1, 2, 3, 4, 5, 6, 7, 8, 10, 13, 14, 15, 16, 17, 18] (by kernel_rfl) (by decide) (by decide) (fF ?_ (fF ?_ (fF ?_ (fF ?_ (fF ?_ (fD 9 (fD 9 (fD 9 (fD 9 (fY (fF ?_ (fF ?_ (fF ?_ (fF ?_ (fF ?_ (fF ?_ (fF ?_ (fF ?_ (fF ?_ (fF ?_ (fF ?_ (fN ?_ (trivial))))))))))))))))))))))) [] (fun q hq => by cases hq) (fun hY => absurd (hY 21 (by decide)) (by decide))
   ·exact fM 5 none rfl rfl rfl rfl (.inl rfl) rfl rfl rfl
   ·exact fM 6 none rfl rfl rfl rfl (.inl rfl) rfl rfl rfl
   ·refine fJ [(134, _), (135, _)] 7 [some 5, some 6] fun G a w S => ?_
    exact sIdxV S (wN rfl) rfl rfl rfl hq132 rfl (lb rfl) fun a S => leafL ⟨rfl, S⟩
   ·refine fJ [(136, _)] 8 [some 7] fun G a w S => ?_
    exact sLoadHE (r := (rL (rI .i64))) (T := 101) (xs := s15) (u := .slice ad30 s41.length cp31) (v := .slice ad7 s15.length cp8) (vq := q131) (j := s16) 0 S hp133 (wN rfl) rfl rfl rfl rfl rfl (lb rfl) fun a S => leafL ⟨rfl, S⟩
   ·exact fM 9 none rfl rfl rfl rfl (.inl rfl) rfl rfl rfl
   ·exact fM 14 none rfl rfl rfl rfl (.inl rfl) rfl rfl rfl
   ·refine fJ [(143, _), (144, _)] 0 [some 4, some 14] fun G a w S => ?_
    exact sIdxV S (wN rfl) rfl rfl rfl hq144 rfl (lb rfl) fun a S => leafL ⟨rfl, S⟩
   ·refine fJ [(145, _)] 1 [some 0] fun G a w S => ?_
    exact sLoadV1 (vq := q143) 0 (iv x112) S (wN rfl) rfl rfl rfl rfl rfl (lb rfl) fun a S => leafL ⟨rfl, S⟩
   ·exact fM 15 none rfl rfl rfl rfl (.inl rfl) rfl rfl rfl
   ·exact fM 16 none rfl rfl rfl rfl (.inl rfl) rfl rfl rfl
   ·exact fM 17 none rfl rfl rfl rfl (.inl rfl) rfl rfl rfl
   ·refine fJ [(148, _), (149, _)] 18 [some 16, some 17] fun G a w S => ?_
    exact sIdxV S (wN rfl) rfl rfl rfl hq138 rfl (lb rfl) fun a S => leafL ⟨rfl, S⟩
   ·refine fJ [(150, _)] 19 [some 18] fun G a w S => ?_
    exact sLoadVN (vq := q137) 4 [.int .u8 x117.Kind, .bool x117.Purl, iv x117.A, iv x117.B] S (wN rfl) rfl rfl rfl rfl rfl rfl (lb rfl) fun a S => leafL ⟨rfl, S⟩
   ·refine fJ [(147, _), (151, _)] 20 [some 15, some 19] fun G a w S => ?_
    have S1 := S.mem
    refine sCallVQ (X := Unit) (g := 84) (vs := [.agg #[.int .u8 x117.Kind, .bool x117.Purl, iv x117.A, iv x117.B]]) (caps := []) (val := fun _ => iv r122) S (wN rfl) rfl rfl callee84 rfl (S1.quiet [5] rfl) (fun E1 w1 S1 => c_compare_cellTable_1 E1 w1 x117 (.agg #[.int .u8 x117.Kind, .bool x117.Purl, iv x117.A, iv x117.B]) r122 hx123 S1) rfl (lb rfl) fun _ a w S => ?_
    exact leafL ⟨rfl, S⟩
   ·refine fJ [(146, _), (152, _)] 2 [some 1, some 20] fun G a w S => ?_
    exact sBin _ S (wN rfl) rfl rfl rfl (bAdd _ _ _ _ x112 r122) rfl (lb rfl) fun a S => leafL ⟨rfl, S⟩
   ·refine fJ [(137, _), (138, _)] 3 [some 8, some 9] fun G a w S => ?_
    exact sIdxV S (wN rfl) rfl rfl rfl hq147 rfl (lb rfl) fun a S => leafL ⟨rfl, S⟩
   refine ⟨_, [(153, iv (w64 (x112 + r122))), (154, q146)], rfl, (srcs_of [some 2, some 3] rfl rfl rfl), fun G a w S => ?_⟩
   refine sStoreR (r := (rI .i64)) (T := 3) (xs := s41) (ys := l129) (y := (w64 (x112 + r122))) (v := .slice ad30 s41.length cp31) (vq := q146) (u := iv (w64 (x112 + r122))) (j := s40) 1 S hp148 (wN rfl) rfl rfl rfl rfl rfl hx130 rfl rfl fun a w S => ?_
   refine leafL ⟨rfl, _, _, .inr ⟨[], rfl, S, hz_of rfl, ?_⟩⟩
   refine node_by (A := anc_compare_table_api_Stitch__s0_1) 22 (by kernel_rfl) (by kernel_rfl) (by kernel_rfl) (by kernel_rfl) (by kernel_rfl) [11, 12, 19, 20, 9, 0, 1, 2, 3, 4, 5, 6, 7, 8, 10, 13, 14, 15, 16, 17, 18] (by kernel_rfl) (by decide) (by decide) (fD 21 (fD 21 (fD 21 (fD 21 (fD 21 (fD 21 (fD 21 (fD 21 (fD 21 (fY (fD 21 (fD 21 (fD 21 (fD 21 (fD 21 (fD 21 (fD 21 (fD 21 (fD 21 (fD 21 (fD 21 (fY (trivial))))))))))))))))))))))) [(0, .slice ad1 p0.length cp2), (1, .slice ad3 p1.length cp4), (2, .func (.func 84) #[] #[]), (3, .func (.func 85) #[] #[]), (9, .slice ad7 s15.length cp8), (10, iv s16), (11, iv s40)] (fin_of [none, none, none, none, none, none, none] rfl (by kernel_rfl) (by kernel_rfl)) (fun _ a w S => ?_)
   rw [setO_v hx130 ad30 cp31] at S
   exact leafB (leafB (leafT (⟨l129, Option.some.inj h, S.fix [1, 0] [7, 8] (by decide) rfl rfl rfl⟩)))
  ·exact fM 9 none rfl rfl rfl rfl (.inl rfl) rfl rfl rfl
  ·exact fM 10 none rfl rfl rfl rfl (.inl rfl) rfl rfl rfl
  ·exact fM 11 none rfl rfl rfl rfl (.inl rfl) rfl rfl rfl
  ·exact fM 12 none rfl rfl rfl rfl (.inl rfl) rfl rfl rfl
  ·refine fJ [(148, _), (149, _)] 13 [some 11, some 12] fun G a w S => ?_
   exact sIdxV S (wN rfl) rfl rfl rfl hq138 rfl (lb rfl) fun a S => leafL ⟨rfl, S⟩
  ·refine fJ [(150, _)] 14 [some 13] fun G a w S => ?_
   exact sLoadVN (vq := q137) 0 [.int .u8 x117.Kind, .bool x117.Purl, iv x117.A, iv x117.B] S (wN rfl) rfl rfl rfl rfl rfl rfl (lb rfl) fun a S => leafL ⟨rfl, S⟩
  refine fJ [(147, _), (151, _)] 15 [some 10, some 14] fun G a w S => ?_
  have S1 := S.mem
  refine sCallVQ (X := Unit) (g := 84) (vs := [.agg #[.int .u8 x117.Kind, .bool x117.Purl, iv x117.A, iv x117.B]]) (caps := []) (val := fun _ => iv r122) S (wN rfl) rfl rfl callee84 rfl (S1.quiet [1] rfl) (fun E1 w1 S1 => c_compare_cellTable_1 E1 w1 x117 (.agg #[.int .u8 x117.Kind, .bool x117.Purl, iv x117.A, iv x117.B]) r122 hx123 S1) rfl (lb rfl) fun _ a w S => ?_
  exact leafL ⟨rfl, S⟩
 refine sCondF S rfl hc100 ?_
 obtain ⟨x152, hx153, h⟩ := bindSome h
 obtain ⟨x160, hx161, h⟩ := bindSome h
 obtain ⟨x165, hx166, h⟩ := bindSome h
 obtain ⟨r170, hx171, h⟩ := bindSome h
 obtain ⟨x175, hx176, h⟩ := bindSome h
 obtain ⟨x180, hx181, h⟩ := bindSome h
 obtain ⟨r185, hx186, h⟩ := bindSome h
 obtain ⟨x193, hx194, h⟩ := bindSome h
 obtain ⟨r204, hx205, h⟩ := bindSome h
 obtain ⟨x206, hx207, h⟩ := bindSome h
 obtain ⟨l211, hx212, h⟩ := bindSome h
 obtain ⟨q213, hq214, hp215⟩ := pIdxH (P := Try.prog) (r := (rL (rI .i64))) (T := 101) (v := .slice ad7 s15.length cp8) (xs := s15) (j := s16) 98 101 0 S Try.underlying98 rfl rfl hx35
 obtain ⟨q216, hq217, hp218⟩ := pIdxH (P := Try.prog) (r := (rL (rI .i64))) (T := 101) (v := .slice ad7 s15.length cp8) (xs := s15) (j := w64 (s16 + 1)) 98 101 0 S Try.underlying98 rfl rfl hx153
 obtain ⟨q219, hq220, S⟩ := pIdx (P := Try.prog) (r := r_api_Stitch) (v := .slice ad1 p0.length cp2) (xs := p0) (j := s16) 47 81 0 S Try.underlying47 rfl rfl hx166
 obtain ⟨u221, S⟩ := pLoad (r := r_api_Stitch) (q := q219) (x := x165) 0 S rfl
 obtain rfl : u221 = .agg #[.int .u8 x165.Kind, .bool x165.Purl, iv x165.A, iv x165.B] := S.mem.know (i := 1) (e := fRep r_api_Stitch (u221) x165) rfl
 obtain ⟨q222, hq223, hp224⟩ := pIdxH (P := Try.prog) (r := (rL (rI .i64))) (T := 101) (v := .slice ad7 s15.length cp8) (xs := s15) (j := s16) 98 101 0 S Try.underlying98 rfl rfl hx35
 obtain ⟨q225, hq226, hp227⟩ := pIdxR (P := Try.prog) (r := (rI .i64)) (T := 3) (v := .slice ad30 s41.length cp31) (xs := s41) (j := w64 (s40 + 1)) 101 3 1 S Try.underlying101 rfl rfl hx176
 obtain ⟨q228, hq229, S⟩ := pIdx (P := Try.prog) (r := r_api_Stitch) (v := .slice ad3 p1.length cp4) (xs := p1) (j := s40) 47 81 4 S Try.underlying47 rfl rfl hx181
 obtain ⟨u230, S⟩ := pLoad (r := r_api_Stitch) (q := q228) (x := x180) 0 S rfl
 obtain rfl : u230 = .agg #[.int .u8 x180.Kind, .bool x180.Purl, iv x180.A, iv x180.B] := S.mem.know (i := 1) (e := fRep r_api_Stitch (u230) x180) rfl
 obtain ⟨q231, hq232, hp233⟩ := pIdxH (P := Try.prog) (r := (rL (rI .i64))) (T := 101) (v := .slice ad7 s15.length cp8) (xs := s15) (j := w64 (s16 + 1)) 98 101 0 S Try.underlying98 rfl rfl hx153
 obtain ⟨q234, hq235, S⟩ := pIdx (P := Try.prog) (r := r_api_Stitch) (v := .slice ad1 p0.length cp2) (xs := p0) (j := s16) 47 81 6 S Try.underlying47 rfl rfl hx166
 obtain ⟨u236, S⟩ := pLoad (r := r_api_Stitch) (q := q234) (x := x165) 0 S rfl
 obtain rfl : u236 = .agg #[.int .u8 x165.Kind, .bool x165.Purl, iv x165.A, iv x165.B] := S.mem.know (i := 1) (e := fRep r_api_Stitch (u236) x165) rfl
 obtain ⟨q237, hq238, S⟩ := pIdx (P := Try.prog) (r := r_api_Stitch) (v := .slice ad3 p1.length cp4) (xs := p1) (j := s40) 47 81 10 S Try.underlying47 rfl rfl hx181
 obtain ⟨u239, S⟩ := pLoad (r := r_api_Stitch) (q := q237) (x := x180) 0 S rfl
 obtain rfl : u239 = .agg #[.int .u8 x180.Kind, .bool x180.Purl, iv x180.A, iv x180.B] := S.mem.know (i := 1) (e := fRep r_api_Stitch (u239) x180) rfl
 refine sDraw (nf := [9, 39, 57]) (W := [(0, 35, .slice ad7 s15.length cp8), (1, 36, iv s16), (2, 37, q213), (3, 38, .slice ad30 s41.length cp31), (4, 39, iv s40), (5, 40, .slice ad7 s15.length cp8), (6, 41, iv s16), (7, 42, iv (w64 (s16 + 1))), (8, 43, q216), (10, 45, iv s40), (13, 48, .func (.func 84) #[] #[]), (14, 49, .slice ad1 p0.length cp2), (15, 50, iv s16), (16, 51, q219), (17, 52, .agg #[.int .u8 x165.Kind, .bool x165.Purl, iv x165.A, iv x165.B]), (18, 53, iv r170), (20, 55, .slice ad7 s15.length cp8), (21, 56, iv s16), (22, 57, q222), (23, 58, .slice ad30 s41.length cp31), (24, 59, iv s40), (25, 60, iv (w64 (s40 + 1))), (26, 61, q225), (27, 62, iv x175), (28, 63, .func (.func 84) #[] #[]), (29, 64, .slice ad3 p1.length cp4), (30, 65, iv s40), (31, 66, q228), (32, 67, .agg #[.int .u8 x180.Kind, .bool x180.Purl, iv x180.A, iv x180.B]), (33, 68, iv r185), (34, 69, iv (w64 (x175 + r185))), (35, 70, .slice ad7 s15.length cp8), (36, 71, iv s16), (37, 72, iv (w64 (s16 + 1))), (38, 73, q231), (40, 75, iv s40), (41, 76, iv (w64 (s40 + 1))), (44, 79, .func (.func 85) #[] #[]), (45, 80, .slice ad1 p0.length cp2), (46, 81, iv s16), (47, 82, q234), (48, 83, .agg #[.int .u8 x165.Kind, .bool x165.Purl, iv x165.A, iv x165.B]), (49, 84, .slice ad3 p1.length cp4), (50, 85, iv s40), (51, 86, q237), (52, 87, .agg #[.int .u8 x180.Kind, .bool x180.Purl, iv x180.A, iv x180.B]), (53, 88, iv r204)]) rfl S ?_
 refine node_by (A := anc_compare_table_api_Stitch__s0_2) 58 (by kernel_rfl) (by kernel_rfl) (by kernel_rfl) (by kernel_rfl) (by kernel_rfl) [0, 1, 2, 3, 4, 5, 6, 7, 8, 10, 13, 14, 15, 16, 17, 18, 20, 21, 22, 23, 24, 25, 26, 27, 28, 29, 30, 31, 32, 33, 34, 35, 36, 37, 38, 40, 41, 44, 45, 46, 47, 48, 49, 50, 51, 52, 53] (by kernel_rfl) (by decide) (by decide) (fF ?_ (fF ?_ (fF ?_ (fF ?_ (fF ?_ (fF ?_ (fF ?_ (fF ?_ (fF ?_ (fN ?_ (fF ?_ (fE 9 (fE 9 (fF ?_ (fF ?_ (fF ?_ (fF ?_ (fF ?_ (fF ?_ (fE 9 (fF ?_ (fF ?_ (fF ?_ (fF ?_ (fF ?_ (fF ?_ (fF ?_ (fF ?_ (fF ?_ (fF ?_ (fF ?_ (fF ?_ (fF ?_ (fF ?_ (fF ?_ (fF ?_ (fF ?_ (fF ?_ (fF ?_ (fN ?_ (fF ?_ (fF ?_ (fE 39 (fE 39 (fF ?_ (fF ?_ (fF ?_ (fF ?_ (fF ?_ (fF ?_ (fF ?_ (fF ?_ (fF ?_ (fF ?_ (fE 39 (fE 9 (fE 9 (aB 57 0 9 (by decide) (trivial))))))))))))))))))))))))))))))))))))))))))))))))))))))))))) [] (fun q hq => by cases hq) (fun hY => absurd (hY 9 (by decide)) (by decide))
 ·exact fM 0 none rfl rfl rfl rfl (.inl rfl) rfl rfl rfl
 ·exact fM 1 none rfl rfl rfl rfl (.inl rfl) rfl rfl rfl
 ·refine fJ [(35, _), (36, _)] 2 [some 0, some 1] fun G a w S => ?_
  exact sIdxV S (wN rfl) rfl rfl rfl hq214 rfl (lb rfl) fun a S => leafL ⟨rfl, S⟩
 ·refine fJ [(37, _)] 3 [some 2] fun G a w S => ?_
  exact sLoadHE (r := (rL (rI .i64))) (T := 101) (xs := s15) (u := .slice ad30 s41.length cp31) (v := .slice ad7 s15.length cp8) (vq := q213) (j := s16) 0 S hp215 (wN rfl) rfl rfl rfl rfl rfl (lb rfl) fun a S => leafL ⟨rfl, S⟩
 ·exact fM 4 none rfl rfl rfl rfl (.inl rfl) rfl rfl rfl
 ·exact fM 5 none rfl rfl rfl rfl (.inl rfl) rfl rfl rfl
 ·exact fM 6 none rfl rfl rfl rfl (.inl rfl) rfl rfl rfl
 ·refine fJ [(41, _)] 7 [some 6] fun G a w S => ?_
  exact sBin _ S (wN rfl) rfl rfl rfl (bAdd _ _ _ _ s16 1) rfl (lb rfl) fun a S => leafL ⟨rfl, S⟩
 ·refine fJ [(40, _), (42, _)] 8 [some 5, some 7] fun G a w S => ?_
  exact sIdxV S (wN rfl) rfl rfl rfl hq217 rfl (lb rfl) fun a S => leafL ⟨rfl, S⟩
 ·refine ⟨_, [(43, q216)], rfl, (srcs_of [some 8] rfl rfl rfl), fun G a w S => ?_⟩
  refine sLoadHo (r := (rL (rI .i64))) (T := 101) (xs := s15) (x := x152) (p := (s16).toNat * (rL (rI .i64)).sz + 0) (u := .slice ad30 s41.length cp31) (v := .slice ad7 s15.length cp8) (vq := q216) (j := w64 (s16 + 1)) 0 S hp218 (wN rfl) rfl rfl rfl hx153 (idx_next (by decide) (hole_lim 0 S.mem rfl) hx35 hx153) (scal_L _) rfl rfl (lb rfl) fun a u240 S => ?_
  obtain ⟨ad241, cp242, _, rfl, _⟩ := S.mem.know (i := 0) (e := fRep (rL (rI .i64)) (u240) x152) rfl
  obtain ⟨q243, hq244, S⟩ := pIdx (P := Try.prog) (r := (rI .i64)) (v := .slice ad241 x152.length cp242) (xs := x152) (j := s40) 101 3 0 S Try.underlying101 rfl rfl hx161
  obtain ⟨u245, S⟩ := pLoad (r := (rI .i64)) (q := q243) (x := x160) 0 S rfl
  obtain rfl : u245 = iv x160 := S.mem.know (i := 1) (e := fRep (rI .i64) (u245) x160) rfl
  refine leafL ⟨rfl, _, _, .inl ⟨44, (.slice ad241 x152.length cp242), [(11, 46, q243), (12, 47, iv x160), (19, 54, iv (w64 (x160 + r170)))], rfl, S, hz_of rfl, ?_⟩⟩
  refine node_by (A := anc_compare_table_api_Stitch__s0_2) 58 (by kernel_rfl) (by kernel_rfl) (by kernel_rfl) (by kernel_rfl) (by kernel_rfl) [11, 12, 19, 9, 0, 1, 2, 3, 4, 5, 6, 7, 8, 10, 13, 14, 15, 16, 17, 18, 20, 21, 22, 23, 24, 25, 26, 27, 28, 29, 30, 31, 32, 33, 34, 35, 36, 37, 38, 40, 41, 44, 45, 46, 47, 48, 49, 50, 51, 52, 53] (by kernel_rfl) (by decide) (by decide) (fF ?_ (fF ?_ (fF ?_ (fF ?_ (fF ?_ (fD 9 (fD 9 (fD 9 (fD 9 (fY (fF ?_ (fF ?_ (fF ?_ (fF ?_ (fF ?_ (fF ?_ (fF ?_ (fF ?_ (fF ?_ (fF ?_ (fF ?_ (fF ?_ (fF ?_ (fF ?_ (fF ?_ (fF ?_ (fF ?_ (fF ?_ (fF ?_ (fF ?_ (fF ?_ (fF ?_ (fF ?_ (fF ?_ (fF ?_ (fF ?_ (fF ?_ (fF ?_ (fF ?_ (fN ?_ (fF ?_ (fF ?_ (fE 39 (fE 39 (fF ?_ (fF ?_ (fF ?_ (fF ?_ (fF ?_ (fF ?_ (fF ?_ (fF ?_ (fF ?_ (fF ?_ (fE 39 (fE 39 (fE 39 (aB 57 0 39 (by decide) (trivial))))))))))))))))))))))))))))))))))))))))))))))))))))))))))) [] (fun q hq => by cases hq) (fun hY => absurd (hY 39 (by decide)) (by decide))
  ·exact fM 4 none rfl rfl rfl rfl (.inl rfl) rfl rfl rfl
  ·exact fM 5 none rfl rfl rfl rfl (.inl rfl) rfl rfl rfl
  ·refine fJ [(35, _), (36, _)] 6 [some 4, some 5] fun G a w S => ?_
   exact sIdxV S (wN rfl) rfl rfl rfl hq214 rfl (lb rfl) fun a S => leafL ⟨rfl, S⟩
  ·refine fJ [(37, _)] 7 [some 6] fun G a w S => ?_
   exact sLoadHE (r := (rL (rI .i64))) (T := 101) (xs := s15) (u := .slice ad30 s41.length cp31) (v := .slice ad7 s15.length cp8) (vq := q213) (j := s16) 0 S hp215 (wN rfl) rfl rfl rfl rfl rfl (lb rfl) fun a S => leafL ⟨rfl, S⟩
  ·exact fM 8 none rfl rfl rfl rfl (.inl rfl) rfl rfl rfl
  ·exact fM 13 none rfl rfl rfl rfl (.inl rfl) rfl rfl rfl
  ·refine fJ [(44, _), (45, _)] 0 [some 3, some 13] fun G a w S => ?_
   exact sIdxV S (wN rfl) rfl rfl rfl hq244 rfl (lb rfl) fun a S => leafL ⟨rfl, S⟩
  ·refine fJ [(46, _)] 1 [some 0] fun G a w S => ?_
   exact sLoadV1 (vq := q243) 0 (iv x160) S (wN rfl) rfl rfl rfl rfl rfl (lb rfl) fun a S => leafL ⟨rfl, S⟩
  ·exact fM 14 none rfl rfl rfl rfl (.inl rfl) rfl rfl rfl
  ·exact fM 15 none rfl rfl rfl rfl (.inl rfl) rfl rfl rfl
  ·exact fM 16 none rfl rfl rfl rfl (.inl rfl) rfl rfl rfl
  ·refine fJ [(49, _), (50, _)] 17 [some 15, some 16] fun G a w S => ?_
   exact sIdxV S (wN rfl) rfl rfl rfl hq220 rfl (lb rfl) fun a S => leafL ⟨rfl, S⟩
  ·refine fJ [(51, _)] 18 [some 17] fun G a w S => ?_
   exact sLoadVN (vq := q219) 13 [.int .u8 x165.Kind, .bool x165.Purl, iv x165.A, iv x165.B] S (wN rfl) rfl rfl rfl rfl rfl rfl (lb rfl) fun a S => leafL ⟨rfl, S⟩
  ·refine fJ [(48, _), (52, _)] 19 [some 14, some 18] fun G a w S => ?_
   have S1 := S.mem
   refine sCallVQ (X := Unit) (g := 84) (vs := [.agg #[.int .u8 x165.Kind, .bool x165.Purl, iv x165.A, iv x165.B]]) (caps := []) (val := fun _ => iv r170) S (wN rfl) rfl rfl callee84 rfl (S1.quiet [8] rfl) (fun E1 w1 S1 => c_compare_cellTable_1 E1 w1 x165 (.agg #[.int .u8 x165.Kind, .bool x165.Purl, iv x165.A, iv x165.B]) r170 hx171 S1) rfl (lb rfl) fun _ a w S => ?_
   exact leafL ⟨rfl, S⟩
  ·refine fJ [(47, _), (53, _)] 2 [some 1, some 19] fun G a w S => ?_
   exact sBin _ S (wN rfl) rfl rfl rfl (bAdd _ _ _ _ x160 r170) rfl (lb rfl) fun a S => leafL ⟨rfl, S⟩
  ·exact fM 20 none rfl rfl rfl rfl (.inl rfl) rfl rfl rfl
  ·exact fM 21 none rfl rfl rfl rfl (.inl rfl) rfl rfl rfl
  ·refine fJ [(55, _), (56, _)] 22 [some 20, some 21] fun G a w S => ?_
   exact sIdxV S (wN rfl) rfl rfl rfl hq223 rfl (lb rfl) fun a S => leafL ⟨rfl, S⟩
  ·refine fJ [(57, _)] 23 [some 22] fun G a w S => ?_
   exact sLoadHE (r := (rL (rI .i64))) (T := 101) (xs := s15) (u := .slice ad30 s41.length cp31) (v := .slice ad7 s15.length cp8) (vq := q222) (j := s16) 0 S hp224 (wN rfl) rfl rfl rfl rfl rfl (lb rfl) fun a S => leafL ⟨rfl, S⟩
  ·exact fM 24 none rfl rfl rfl rfl (.inl rfl) rfl rfl rfl
  ·refine fJ [(59, _)] 25 [some 24] fun G a w S => ?_
   exact sBin _ S (wN rfl) rfl rfl rfl (bAdd _ _ _ _ s40 1) rfl (lb rfl) fun a S => leafL ⟨rfl, S⟩
  ·refine fJ [(58, _), (60, _)] 26 [some 23, some 25] fun G a w S => ?_
   exact sIdxV S (wN rfl) rfl rfl rfl hq226 rfl (lb rfl) fun a S => leafL ⟨rfl, S⟩
  ·refine fJ [(61, _)] 27 [some 26] fun G a w S => ?_
   exact sLoadR (r := (rI .i64)) (T := 3) (xs := s41) (x := x175) (v := .slice ad30 s41.length cp31) (vq := q225) (j := w64 (s40 + 1)) 1 (iv x175) S hp227 (wN rfl) rfl rfl rfl hx176 (fun _ _ _ h => h) (scal_I _) rfl rfl (lb rfl) fun a S => leafL ⟨rfl, S⟩
  ·exact fM 28 none rfl rfl rfl rfl (.inl rfl) rfl rfl rfl
  ·exact fM 29 none rfl rfl rfl rfl (.inl rfl) rfl rfl rfl
  ·exact fM 30 none rfl rfl rfl rfl (.inl rfl) rfl rfl rfl
  ·refine fJ [(64, _), (65, _)] 31 [some 29, some 30] fun G a w S => ?_
   exact sIdxV S (wN rfl) rfl rfl rfl hq229 rfl (lb rfl) fun a S => leafL ⟨rfl, S⟩
  ·refine fJ [(66, _)] 32 [some 31] fun G a w S => ?_
   exact sLoadVN (vq := q228) 10 [.int .u8 x180.Kind, .bool x180.Purl, iv x180.A, iv x180.B] S (wN rfl) rfl rfl rfl rfl rfl rfl (lb rfl) fun a S => leafL ⟨rfl, S⟩
  ·refine fJ [(63, _), (67, _)] 33 [some 28, some 32] fun G a w S => ?_
   have S1 := S.mem
   refine sCallVQ (X := Unit) (g := 84) (vs := [.agg #[.int .u8 x180.Kind, .bool x180.Purl, iv x180.A, iv x180.B]]) (caps := []) (val := fun _ => iv r185) S (wN rfl) rfl rfl callee84 rfl (S1.quiet [5] rfl) (fun E1 w1 S1 => c_compare_cellTable_1 E1 w1 x180 (.agg #[.int .u8 x180.Kind, .bool x180.Purl, iv x180.A, iv x180.B]) r185 hx186 S1) rfl (lb rfl) fun _ a w S => ?_
   exact leafL ⟨rfl, S⟩
  ·refine fJ [(62, _), (68, _)] 34 [some 27, some 33] fun G a w S => ?_
   exact sBin _ S (wN rfl) rfl rfl rfl (bAdd _ _ _ _ x175 r185) rfl (lb rfl) fun a S => leafL ⟨rfl, S⟩
  ·exact fM 35 none rfl rfl rfl rfl (.inl rfl) rfl rfl rfl
  ·exact fM 36 none rfl rfl rfl rfl (.inl rfl) rfl rfl rfl
  ·refine fJ [(71, _)] 37 [some 36] fun G a w S => ?_
   exact sBin _ S (wN rfl) rfl rfl rfl (bAdd _ _ _ _ s16 1) rfl (lb rfl) fun a S => leafL ⟨rfl, S⟩
  ·refine fJ [(70, _), (72, _)] 38 [some 35, some 37] fun G a w S => ?_
   exact sIdxV S (wN rfl) rfl rfl rfl hq232 rfl (lb rfl) fun a S => leafL ⟨rfl, S⟩
  ·refine ⟨_, [(73, q231)], rfl, (srcs_of [some 38] rfl rfl rfl), fun G a w S => ?_⟩
   refine sLoadHo (r := (rL (rI .i64))) (T := 101) (xs := s15) (x := x152) (p := (s16).toNat * (rL (rI .i64)).sz + 0) (u := .slice ad30 s41.length cp31) (v := .slice ad7 s15.length cp8) (vq := q231) (j := w64 (s16 + 1)) 0 S hp233 (wN rfl) rfl rfl rfl hx153 (idx_next (by decide) (hole_lim 0 S.mem rfl) hx35 hx153) (scal_L _) rfl rfl (lb rfl) fun a u246 S => ?_
   obtain ⟨ad247, cp248, _, rfl, _⟩ := S.mem.know (i := 0) (e := fRep (rL (rI .i64)) (u246) x152) rfl
   obtain ⟨q249, hq250, S⟩ := pIdx (P := Try.prog) (r := (rI .i64)) (v := .slice ad247 x152.length cp248) (xs := x152) (j := w64 (s40 + 1)) 101 3 0 S Try.underlying101 rfl rfl hx194
   obtain ⟨u251, S⟩ := pLoad (r := (rI .i64)) (q := q249) (x := x193) 0 S rfl
   obtain rfl : u251 = iv x193 := S.mem.know (i := 1) (e := fRep (rI .i64) (u251) x193) rfl
   obtain ⟨q252, hq253, hp254⟩ := pIdxR (P := Try.prog) (r := (rI .i64)) (T := 3) (v := .slice ad30 s41.length cp31) (xs := s41) (j := s40) 101 3 1 S Try.underlying101 rfl rfl hx207
   refine leafL ⟨rfl, _, _, .inl ⟨74, (.slice ad247 x152.length cp248), [(42, 77, q249), (43, 78, iv x193), (54, 89, iv (w64 (x193 + r204))), (55, 90, iv (min3 (w64 (x160 + r170)) (w64 (x175 + r185)) (w64 (x193 + r204)))), (56, 91, q252)], rfl, S, hz_of rfl, ?_⟩⟩
   refine node_by (A := anc_compare_table_api_Stitch__s0_2) 58 (by kernel_rfl) (by kernel_rfl) (by kernel_rfl) (by kernel_rfl) (by kernel_rfl) [42, 43, 54, 55, 56, 39, 11, 12, 19, 9, 0, 1, 2, 3, 4, 5, 6, 7, 8, 10, 13, 14, 15, 16, 17, 18, 20, 21, 22, 23, 24, 25, 26, 27, 28, 29, 30, 31, 32, 33, 34, 35, 36, 37, 38, 40, 41, 44, 45, 46, 47, 48, 49, 50, 51, 52, 53] (by kernel_rfl) (by decide) (by decide) (fF ?_ (fF ?_ (fF ?_ (fF ?_ (fF ?_ (fD 9 (fD 9 (fD 9 (fD 9 (fY (fF ?_ (fF ?_ (fF ?_ (fF ?_ (fF ?_ (fF ?_ (fF ?_ (fF ?_ (fF ?_ (fF ?_ (fF ?_ (fF ?_ (fF ?_ (fF ?_ (fF ?_ (fF ?_ (fF ?_ (fF ?_ (fF ?_ (fF ?_ (fF ?_ (fF ?_ (fF ?_ (fF ?_ (fF ?_ (fD 39 (fD 39 (fD 39 (fD 39 (fY (fF ?_ (fF ?_ (fF ?_ (fF ?_ (fF ?_ (fF ?_ (fF ?_ (fF ?_ (fF ?_ (fF ?_ (fF ?_ (fF ?_ (fF ?_ (fF ?_ (fF ?_ (fF ?_ (fF ?_ (fN ?_ (trivial))))))))))))))))))))))))))))))))))))))))))))))))))))))))))) [] (fun q hq => by cases hq) (fun hY => absurd (hY 57 (by decide)) (by decide))
   ·exact fM 10 none rfl rfl rfl rfl (.inl rfl) rfl rfl rfl
   ·exact fM 11 none rfl rfl rfl rfl (.inl rfl) rfl rfl rfl
   ·refine fJ [(35, _), (36, _)] 12 [some 10, some 11] fun G a w S => ?_
    exact sIdxV S (wN rfl) rfl rfl rfl hq214 rfl (lb rfl) fun a S => leafL ⟨rfl, S⟩
   ·refine fJ [(37, _)] 13 [some 12] fun G a w S => ?_
    exact sLoadHE (r := (rL (rI .i64))) (T := 101) (xs := s15) (u := .slice ad30 s41.length cp31) (v := .slice ad7 s15.length cp8) (vq := q213) (j := s16) 0 S hp215 (wN rfl) rfl rfl rfl rfl rfl (lb rfl) fun a S => leafL ⟨rfl, S⟩
   ·exact fM 14 none rfl rfl rfl rfl (.inl rfl) rfl rfl rfl
   ·exact fM 19 none rfl rfl rfl rfl (.inl rfl) rfl rfl rfl
   ·refine fJ [(44, _), (45, _)] 6 [some 9, some 19] fun G a w S => ?_
    exact sIdxV S (wN rfl) rfl rfl rfl hq244 rfl (lb rfl) fun a S => leafL ⟨rfl, S⟩
   ·refine fJ [(46, _)] 7 [some 6] fun G a w S => ?_
    exact sLoadV1 (vq := q243) 4 (iv x160) S (wN rfl) rfl rfl rfl rfl rfl (lb rfl) fun a S => leafL ⟨rfl, S⟩
   ·exact fM 20 none rfl rfl rfl rfl (.inl rfl) rfl rfl rfl
   ·exact fM 21 none rfl rfl rfl rfl (.inl rfl) rfl rfl rfl
   ·exact fM 22 none rfl rfl rfl rfl (.inl rfl) rfl rfl rfl
   ·refine fJ [(49, _), (50, _)] 23 [some 21, some 22] fun G a w S => ?_
    exact sIdxV S (wN rfl) rfl rfl rfl hq220 rfl (lb rfl) fun a S => leafL ⟨rfl, S⟩
   ·refine fJ [(51, _)] 24 [some 23] fun G a w S => ?_
    exact sLoadVN (vq := q219) 17 [.int .u8 x165.Kind, .bool x165.Purl, iv x165.A, iv x165.B] S (wN rfl) rfl rfl rfl rfl rfl rfl (lb rfl) fun a S => leafL ⟨rfl, S⟩
   ·refine fJ [(48, _), (52, _)] 25 [some 20, some 24] fun G a w S => ?_
    have S1 := S.mem
    refine sCallVQ (X := Unit) (g := 84) (vs := [.agg #[.int .u8 x165.Kind, .bool x165.Purl, iv x165.A, iv x165.B]]) (caps := []) (val := fun _ => iv r170) S (wN rfl) rfl rfl callee84 rfl (S1.quiet [12] rfl) (fun E1 w1 S1 => c_compare_cellTable_1 E1 w1 x165 (.agg #[.int .u8 x165.Kind, .bool x165.Purl, iv x165.A, iv x165.B]) r170 hx171 S1) rfl (lb rfl) fun _ a w S => ?_
    exact leafL ⟨rfl, S⟩
   ·refine fJ [(47, _), (53, _)] 8 [some 7, some 25] fun G a w S => ?_
    exact sBin _ S (wN rfl) rfl rfl rfl (bAdd _ _ _ _ x160 r170) rfl (lb rfl) fun a S => leafL ⟨rfl, S⟩
   ·exact fM 26 none rfl rfl rfl rfl (.inl rfl) rfl rfl rfl
   ·exact fM 27 none rfl rfl rfl rfl (.inl rfl) rfl rfl rfl
   ·refine fJ [(55, _), (56, _)] 28 [some 26, some 27] fun G a w S => ?_
    exact sIdxV S (wN rfl) rfl rfl rfl hq223 rfl (lb rfl) fun a S => leafL ⟨rfl, S⟩
   ·refine fJ [(57, _)] 29 [some 28] fun G a w S => ?_
    exact sLoadHE (r := (rL (rI .i64))) (T := 101) (xs := s15) (u := .slice ad30 s41.length cp31) (v := .slice ad7 s15.length cp8) (vq := q222) (j := s16) 0 S hp224 (wN rfl) rfl rfl rfl rfl rfl (lb rfl) fun a S => leafL ⟨rfl, S⟩
   ·exact fM 30 none rfl rfl rfl rfl (.inl rfl) rfl rfl rfl
   ·refine fJ [(59, _)] 31 [some 30] fun G a w S => ?_
    exact sBin _ S (wN rfl) rfl rfl rfl (bAdd _ _ _ _ s40 1) rfl (lb rfl) fun a S => leafL ⟨rfl, S⟩
   ·refine fJ [(58, _), (60, _)] 32 [some 29, some 31] fun G a w S => ?_
    exact sIdxV S (wN rfl) rfl rfl rfl hq226 rfl (lb rfl) fun a S => leafL ⟨rfl, S⟩
   ·refine fJ [(61, _)] 33 [some 32] fun G a w S => ?_
    exact sLoadR (r := (rI .i64)) (T := 3) (xs := s41) (x := x175) (v := .slice ad30 s41.length cp31) (vq := q225) (j := w64 (s40 + 1)) 1 (iv x175) S hp227 (wN rfl) rfl rfl rfl hx176 (fun _ _ _ h => h) (scal_I _) rfl rfl (lb rfl) fun a S => leafL ⟨rfl, S⟩
   ·exact fM 34 none rfl rfl rfl rfl (.inl rfl) rfl rfl rfl
   ·exact fM 35 none rfl rfl rfl rfl (.inl rfl) rfl rfl rfl
   ·exact fM 36 none rfl rfl rfl rfl (.inl rfl) rfl rfl rfl
   ·refine fJ [(64, _), (65, _)] 37 [some 35, some 36] fun G a w S => ?_
    exact sIdxV S (wN rfl) rfl rfl rfl hq229 rfl (lb rfl) fun a S => leafL ⟨rfl, S⟩
   ·refine fJ [(66, _)] 38 [some 37] fun G a w S => ?_
    exact sLoadVN (vq := q228) 14 [.int .u8 x180.Kind, .bool x180.Purl, iv x180.A, iv x180.B] S (wN rfl) rfl rfl rfl rfl rfl rfl (lb rfl) fun a S => leafL ⟨rfl, S⟩
   ·refine fJ [(63, _), (67, _)] 39 [some 34, some 38] fun G a w S => ?_
    have S1 := S.mem
    refine sCallVQ (X := Unit) (g := 84) (vs := [.agg #[.int .u8 x180.Kind, .bool x180.Purl, iv x180.A, iv x180.B]]) (caps := []) (val := fun _ => iv r185) S (wN rfl) rfl rfl callee84 rfl (S1.quiet [9] rfl) (fun E1 w1 S1 => c_compare_cellTable_1 E1 w1 x180 (.agg #[.int .u8 x180.Kind, .bool x180.Purl, iv x180.A, iv x180.B]) r185 hx186 S1) rfl (lb rfl) fun _ a w S => ?_
    exact leafL ⟨rfl, S⟩
   ·refine fJ [(62, _), (68, _)] 40 [some 33, some 39] fun G a w S => ?_
    exact sBin _ S (wN rfl) rfl rfl rfl (bAdd _ _ _ _ x175 r185) rfl (lb rfl) fun a S => leafL ⟨rfl, S⟩
   ·exact fM 45 none rfl rfl rfl rfl (.inl rfl) rfl rfl rfl
   ·refine fJ [(75, _)] 46 [some 45] fun G a w S => ?_
    exact sBin _ S (wN rfl) rfl rfl rfl (bAdd _ _ _ _ s40 1) rfl (lb rfl) fun a S => leafL ⟨rfl, S⟩
   ·refine fJ [(74, _), (76, _)] 0 [some 5, some 46] fun G a w S => ?_
    exact sIdxV S (wN rfl) rfl rfl rfl hq250 rfl (lb rfl) fun a S => leafL ⟨rfl, S⟩
   ·refine fJ [(77, _)] 1 [some 0] fun G a w S => ?_
    exact sLoadV1 (vq := q249) 0 (iv x193) S (wN rfl) rfl rfl rfl rfl rfl (lb rfl) fun a S => leafL ⟨rfl, S⟩
   ·exact fM 47 none rfl rfl rfl rfl (.inl rfl) rfl rfl rfl
   ·exact fM 48 none rfl rfl rfl rfl (.inl rfl) rfl rfl rfl
   ·exact fM 49 none rfl rfl rfl rfl (.inl rfl) rfl rfl rfl
   ·refine fJ [(80, _), (81, _)] 50 [some 48, some 49] fun G a w S => ?_
    exact sIdxV S (wN rfl) rfl rfl rfl hq235 rfl (lb rfl) fun a S => leafL ⟨rfl, S⟩
   ·refine fJ [(82, _)] 51 [some 50] fun G a w S => ?_
    exact sLoadVN (vq := q234) 11 [.int .u8 x165.Kind, .bool x165.Purl, iv x165.A, iv x165.B] S (wN rfl) rfl rfl rfl rfl rfl rfl (lb rfl) fun a S => leafL ⟨rfl, S⟩
   ·exact fM 52 none rfl rfl rfl rfl (.inl rfl) rfl rfl rfl
   ·exact fM 53 none rfl rfl rfl rfl (.inl rfl) rfl rfl rfl
   ·refine fJ [(84, _), (85, _)] 54 [some 52, some 53] fun G a w S => ?_
    exact sIdxV S (wN rfl) rfl rfl rfl hq238 rfl (lb rfl) fun a S => leafL ⟨rfl, S⟩
   ·refine fJ [(86, _)] 55 [some 54] fun G a w S => ?_
    exact sLoadVN (vq := q237) 8 [.int .u8 x180.Kind, .bool x180.Purl, iv x180.A, iv x180.B] S (wN rfl) rfl rfl rfl rfl rfl rfl (lb rfl) fun a S => leafL ⟨rfl, S⟩
   ·refine fJ [(79, _), (83, _), (87, _)] 56 [some 47, some 51, some 55] fun G a w S => ?_
    have S1 := S.mem
    refine sCallVQ (X := Unit) (g := 85) (vs := [.agg #[.int .u8 x165.Kind, .bool x165.Purl, iv x165.A, iv x165.B], .agg #[.int .u8 x180.Kind, .bool x180.Purl, iv x180.A, iv x180.B]]) (caps := []) (val := fun _ => iv r204) S (wN rfl) rfl rfl callee85 rfl (S1.quiet [12, 9] rfl) (fun E1 w1 S1 => c_compare_cellTable_2 E1 w1 x165 (.agg #[.int .u8 x165.Kind, .bool x165.Purl, iv x165.A, iv x165.B]) x180 (.agg #[.int .u8 x180.Kind, .bool x180.Purl, iv x180.A, iv x180.B]) r204 hx205 S1) rfl (lb rfl) fun _ a w S => ?_
    exact leafL ⟨rfl, S⟩
   ·refine fJ [(78, _), (88, _)] 2 [some 1, some 56] fun G a w S => ?_
    exact sBin _ S (wN rfl) rfl rfl rfl (bAdd _ _ _ _ x193 r204) rfl (lb rfl) fun a S => leafL ⟨rfl, S⟩
   ·refine fJ [(54, _), (69, _), (89, _)] 3 [some 8, some 40, some 2] fun G a w S => ?_
    exact sMin3 (p := w64 (x160 + r170)) (q := w64 (x175 + r185)) (r := w64 (x193 + r204)) S (wN rfl) rfl rfl rfl rfl rfl (lb rfl) fun a S => leafL ⟨rfl, S⟩
   ·refine fJ [(38, _), (39, _)] 4 [some 13, some 14] fun G a w S => ?_
    exact sIdxV S (wN rfl) rfl rfl rfl hq253 rfl (lb rfl) fun a S => leafL ⟨rfl, S⟩
   refine ⟨_, [(90, iv (min3 (w64 (x160 + r170)) (w64 (x175 + r185)) (w64 (x193 + r204)))), (91, q252)], rfl, (srcs_of [some 3, some 4] rfl rfl rfl), fun G a w S => ?_⟩
   refine sStoreR (r := (rI .i64)) (T := 3) (xs := s41) (ys := l211) (y := (min3 (w64 (x160 + r170)) (w64 (x175 + r185)) (w64 (x193 + r204)))) (v := .slice ad30 s41.length cp31) (vq := q252) (u := iv (min3 (w64 (x160 + r170)) (w64 (x175 + r185)) (w64 (x193 + r204)))) (j := s40) 1 S hp254 (wN rfl) rfl rfl rfl rfl rfl hx212 rfl rfl fun a w S => ?_
   refine leafL ⟨rfl, _, _, .inr ⟨[], rfl, S, hz_of rfl, ?_⟩⟩
   refine node_by (A := anc_compare_table_api_Stitch__s0_2) 58 (by kernel_rfl) (by kernel_rfl) (by kernel_rfl) (by kernel_rfl) (by kernel_rfl) [42, 43, 54, 55, 56, 39, 11, 12, 19, 9, 0, 1, 2, 3, 4, 5, 6, 7, 8, 10, 13, 14, 15, 16, 17, 18, 20, 21, 22, 23, 24, 25, 26, 27, 28, 29, 30, 31, 32, 33, 34, 35, 36, 37, 38, 40, 41, 44, 45, 46, 47, 48, 49, 50, 51, 52, 53] (by kernel_rfl) (by decide) (by decide) (fD 57 (fD 57 (fD 57 (fD 57 (fD 57 (fD 57 (fD 57 (fD 57 (fD 57 (fY (fD 57 (fD 57 (fD 57 (fD 57 (fD 57 (fD 57 (fD 57 (fD 57 (fD 57 (fD 57 (fD 57 (fD 57 (fD 57 (fD 57 (fD 57 (fD 57 (fD 57 (fD 57 (fD 57 (fD 57 (fD 57 (fD 57 (fD 57 (fD 57 (fD 57 (fD 57 (fD 57 (fD 57 (fD 57 (fY (fD 57 (fD 57 (fD 57 (fD 57 (fD 57 (fD 57 (fD 57 (fD 57 (fD 57 (fD 57 (fD 57 (fD 57 (fD 57 (fD 57 (fD 57 (fD 57 (fD 57 (fY (trivial))))))))))))))))))))))))))))))))))))))))))))))))))))))))))) [(0, .slice ad1 p0.length cp2), (1, .slice ad3 p1.length cp4), (2, .func (.func 84) #[] #[]), (3, .func (.func 85) #[] #[]), (9, .slice ad7 s15.length cp8), (10, iv s16), (11, iv s40)] (fin_of [none, none, none, none, none, none, none] rfl (by kernel_rfl) (by kernel_rfl)) (fun _ a w S => ?_)
   rw [setO_v hx212 ad30 cp31] at S
   exact leafB (leafB (leafT (⟨l211, Option.some.inj h, S.fix [1, 0] [20, 21] (by decide) rfl rfl rfl⟩)))
  ·exact fM 39 none rfl rfl rfl rfl (.inl rfl) rfl rfl rfl
  ·refine fJ [(75, _)] 40 [some 39] fun G a w S => ?_
   exact sBin _ S (wN rfl) rfl rfl rfl (bAdd _ _ _ _ s40 1) rfl (lb rfl) fun a S => leafL ⟨rfl, S⟩
  ·exact fM 41 none rfl rfl rfl rfl (.inl rfl) rfl rfl rfl
  ·exact fM 42 none rfl rfl rfl rfl (.inl rfl) rfl rfl rfl
  ·exact fM 43 none rfl rfl rfl rfl (.inl rfl) rfl rfl rfl
  ·refine fJ [(80, _), (81, _)] 44 [some 42, some 43] fun G a w S => ?_
   exact sIdxV S (wN rfl) rfl rfl rfl hq235 rfl (lb rfl) fun a S => leafL ⟨rfl, S⟩
  ·refine fJ [(82, _)] 45 [some 44] fun G a w S => ?_
   exact sLoadVN (vq := q234) 7 [.int .u8 x165.Kind, .bool x165.Purl, iv x165.A, iv x165.B] S (wN rfl) rfl rfl rfl rfl rfl rfl (lb rfl) fun a S => leafL ⟨rfl, S⟩
  ·exact fM 46 none rfl rfl rfl rfl (.inl rfl) rfl rfl rfl
  ·exact fM 47 none rfl rfl rfl rfl (.inl rfl) rfl rfl rfl
  ·refine fJ [(84, _), (85, _)] 48 [some 46, some 47] fun G a w S => ?_
   exact sIdxV S (wN rfl) rfl rfl rfl hq238 rfl (lb rfl) fun a S => leafL ⟨rfl, S⟩
  ·refine fJ [(86, _)] 49 [some 48] fun G a w S => ?_
   exact sLoadVN (vq := q237) 4 [.int .u8 x180.Kind, .bool x180.Purl, iv x180.A, iv x180.B] S (wN rfl) rfl rfl rfl rfl rfl rfl (lb rfl) fun a S => leafL ⟨rfl, S⟩
  refine fJ [(79, _), (83, _), (87, _)] 50 [some 41, some 45, some 49] fun G a w S => ?_
  have S1 := S.mem
  refine sCallVQ (X := Unit) (g := 85) (vs := [.agg #[.int .u8 x165.Kind, .bool x165.Purl, iv x165.A, iv x165.B], .agg #[.int .u8 x180.Kind, .bool x180.Purl, iv x180.A, iv x180.B]]) (caps := []) (val := fun _ => iv r204) S (wN rfl) rfl rfl callee85 rfl (S1.quiet [8, 5] rfl) (fun E1 w1 S1 => c_compare_cellTable_2 E1 w1 x165 (.agg #[.int .u8 x165.Kind, .bool x165.Purl, iv x165.A, iv x165.B]) x180 (.agg #[.int .u8 x180.Kind, .bool x180.Purl, iv x180.A, iv x180.B]) r204 hx205 S1) rfl (lb rfl) fun _ a w S => ?_
  exact leafL ⟨rfl, S⟩
 ·exact fM 9 none rfl rfl rfl rfl (.inl rfl) rfl rfl rfl
 ·exact fM 10 none rfl rfl rfl rfl (.inl rfl) rfl rfl rfl
 ·exact fM 11 none rfl rfl rfl rfl (.inl rfl) rfl rfl rfl
 ·exact fM 12 none rfl rfl rfl rfl (.inl rfl) rfl rfl rfl
 ·refine fJ [(49, _), (50, _)] 13 [some 11, some 12] fun G a w S => ?_
  exact sIdxV S (wN rfl) rfl rfl rfl hq220 rfl (lb rfl) fun a S => leafL ⟨rfl, S⟩
 ·refine fJ [(51, _)] 14 [some 13] fun G a w S => ?_
  exact sLoadVN (vq := q219) 9 [.int .u8 x165.Kind, .bool x165.Purl, iv x165.A, iv x165.B] S (wN rfl) rfl rfl rfl rfl rfl rfl (lb rfl) fun a S => leafL ⟨rfl, S⟩
 ·refine fJ [(48, _), (52, _)] 15 [some 10, some 14] fun G a w S => ?_
  have S1 := S.mem
  refine sCallVQ (X := Unit) (g := 84) (vs := [.agg #[.int .u8 x165.Kind, .bool x165.Purl, iv x165.A, iv x165.B]]) (caps := []) (val := fun _ => iv r170) S (wN rfl) rfl rfl callee84 rfl (S1.quiet [4] rfl) (fun E1 w1 S1 => c_compare_cellTable_1 E1 w1 x165 (.agg #[.int .u8 x165.Kind, .bool x165.Purl, iv x165.A, iv x165.B]) r170 hx171 S1) rfl (lb rfl) fun _ a w S => ?_
  exact leafL ⟨rfl, S⟩
 ·exact fM 16 none rfl rfl rfl rfl (.inl rfl) rfl rfl rfl
 ·exact fM 17 none rfl rfl rfl rfl (.inl rfl) rfl rfl rfl
 ·refine fJ [(55, _), (56, _)] 18 [some 16, some 17] fun G a w S => ?_
  exact sIdxV S (wN rfl) rfl rfl rfl hq223 rfl (lb rfl) fun a S => leafL ⟨rfl, S⟩
 ·refine fJ [(57, _)] 19 [some 18] fun G a w S => ?_
  exact sLoadHE (r := (rL (rI .i64))) (T := 101) (xs := s15) (u := .slice ad30 s41.length cp31) (v := .slice ad7 s15.length cp8) (vq := q222) (j := s16) 0 S hp224 (wN rfl) rfl rfl rfl rfl rfl (lb rfl) fun a S => leafL ⟨rfl, S⟩
 ·exact fM 20 none rfl rfl rfl rfl (.inl rfl) rfl rfl rfl
 ·refine fJ [(59, _)] 21 [some 20] fun G a w S => ?_
  exact sBin _ S (wN rfl) rfl rfl rfl (bAdd _ _ _ _ s40 1) rfl (lb rfl) fun a S => leafL ⟨rfl, S⟩
 ·refine fJ [(58, _), (60, _)] 22 [some 19, some 21] fun G a w S => ?_
  exact sIdxV S (wN rfl) rfl rfl rfl hq226 rfl (lb rfl) fun a S => leafL ⟨rfl, S⟩
 ·refine fJ [(61, _)] 23 [some 22] fun G a w S => ?_
  exact sLoadR (r := (rI .i64)) (T := 3) (xs := s41) (x := x175) (v := .slice ad30 s41.length cp31) (vq := q225) (j := w64 (s40 + 1)) 1 (iv x175) S hp227 (wN rfl) rfl rfl rfl hx176 (fun _ _ _ h => h) (scal_I _) rfl rfl (lb rfl) fun a S => leafL ⟨rfl, S⟩
 ·exact fM 24 none rfl rfl rfl rfl (.inl rfl) rfl rfl rfl
 ·exact fM 25 none rfl rfl rfl rfl (.inl rfl) rfl rfl rfl
 ·exact fM 26 none rfl rfl rfl rfl (.inl rfl) rfl rfl rfl
 ·refine fJ [(64, _), (65, _)] 27 [some 25, some 26] fun G a w S => ?_
  exact sIdxV S (wN rfl) rfl rfl rfl hq229 rfl (lb rfl) fun a S => leafL ⟨rfl, S⟩
 ·refine fJ [(66, _)] 28 [some 27] fun G a w S => ?_
  exact sLoadVN (vq := q228) 6 [.int .u8 x180.Kind, .bool x180.Purl, iv x180.A, iv x180.B] S (wN rfl) rfl rfl rfl rfl rfl rfl (lb rfl) fun a S => leafL ⟨rfl, S⟩
 ·refine fJ [(63, _), (67, _)] 29 [some 24, some 28] fun G a w S => ?_
  have S1 := S.mem
  refine sCallVQ (X := Unit) (g := 84) (vs := [.agg #[.int .u8 x180.Kind, .bool x180.Purl, iv x180.A, iv x180.B]]) (caps := []) (val := fun _ => iv r185) S (wN rfl) rfl rfl callee84 rfl (S1.quiet [1] rfl) (fun E1 w1 S1 => c_compare_cellTable_1 E1 w1 x180 (.agg #[.int .u8 x180.Kind, .bool x180.Purl, iv x180.A, iv x180.B]) r185 hx186 S1) rfl (lb rfl) fun _ a w S => ?_
  exact leafL ⟨rfl, S⟩
 ·refine fJ [(62, _), (68, _)] 30 [some 23, some 29] fun G a w S => ?_
  exact sBin _ S (wN rfl) rfl rfl rfl (bAdd _ _ _ _ x175 r185) rfl (lb rfl) fun a S => leafL ⟨rfl, S⟩
 ·exact fM 31 none rfl rfl rfl rfl (.inl rfl) rfl rfl rfl
 ·exact fM 32 none rfl rfl rfl rfl (.inl rfl) rfl rfl rfl
 ·refine fJ [(71, _)] 33 [some 32] fun G a w S => ?_
  exact sBin _ S (wN rfl) rfl rfl rfl (bAdd _ _ _ _ s16 1) rfl (lb rfl) fun a S => leafL ⟨rfl, S⟩
 ·refine fJ [(70, _), (72, _)] 34 [some 31, some 33] fun G a w S => ?_
  exact sIdxV S (wN rfl) rfl rfl rfl hq232 rfl (lb rfl) fun a S => leafL ⟨rfl, S⟩
 ·refine ⟨_, [(73, q231)], rfl, (srcs_of [some 34] rfl rfl rfl), fun G a w S => ?_⟩
  refine sLoadHo (r := (rL (rI .i64))) (T := 101) (xs := s15) (x := x152) (p := (s16).toNat * (rL (rI .i64)).sz + 0) (u := .slice ad30 s41.length cp31) (v := .slice ad7 s15.length cp8) (vq := q231) (j := w64 (s16 + 1)) 0 S hp233 (wN rfl) rfl rfl rfl hx153 (idx_next (by decide) (hole_lim 0 S.mem rfl) hx35 hx153) (scal_L _) rfl rfl (lb rfl) fun a u255 S => ?_
  obtain ⟨ad256, cp257, _, rfl, _⟩ := S.mem.know (i := 0) (e := fRep (rL (rI .i64)) (u255) x152) rfl
  obtain ⟨q258, hq259, S⟩ := pIdx (P := Try.prog) (r := (rI .i64)) (v := .slice ad256 x152.length cp257) (xs := x152) (j := w64 (s40 + 1)) 101 3 0 S Try.underlying101 rfl rfl hx194
  obtain ⟨u260, S⟩ := pLoad (r := (rI .i64)) (q := q258) (x := x193) 0 S rfl
  obtain rfl : u260 = iv x193 := S.mem.know (i := 1) (e := fRep (rI .i64) (u260) x193) rfl
  refine leafL ⟨rfl, _, _, .inl ⟨74, (.slice ad256 x152.length cp257), [(42, 77, q258), (43, 78, iv x193), (54, 89, iv (w64 (x193 + r204)))], rfl, S, hz_of rfl, ?_⟩⟩
  refine node_by (A := anc_compare_table_api_Stitch__s0_2) 58 (by kernel_rfl) (by kernel_rfl) (by kernel_rfl) (by kernel_rfl) (by kernel_rfl) [42, 43, 54, 39, 0, 1, 2, 3, 4, 5, 6, 7, 8, 10, 13, 14, 15, 16, 17, 18, 20, 21, 22, 23, 24, 25, 26, 27, 28, 29, 30, 31, 32, 33, 34, 35, 36, 37, 38, 40, 41, 44, 45, 46, 47, 48, 49, 50, 51, 52, 53] (by kernel_rfl) (by decide) (by decide) (fF ?_ (fF ?_ (fF ?_ (fF ?_ (fF ?_ (fF ?_ (fF ?_ (fF ?_ (fF ?_ (fN ?_ (fF ?_ (fE 9 (fE 9 (fF ?_ (fF ?_ (fF ?_ (fF ?_ (fF ?_ (fF ?_ (fE 9 (fF ?_ (fF ?_ (fF ?_ (fF ?_ (fF ?_ (fF ?_ (fF ?_ (fF ?_ (fF ?_ (fF ?_ (fF ?_ (fF ?_ (fF ?_ (fF ?_ (fF ?_ (fD 39 (fD 39 (fD 39 (fD 39 (fY (fF ?_ (fF ?_ (fF ?_ (fF ?_ (fF ?_ (fF ?_ (fF ?_ (fF ?_ (fF ?_ (fF ?_ (fF ?_ (fF ?_ (fF ?_ (fF ?_ (fF ?_ (fE 9 (fE 9 (aB 57 0 9 (by decide) (trivial))))))))))))))))))))))))))))))))))))))))))))))))))))))))))) [] (fun q hq => by cases hq) (fun hY => absurd (hY 9 (by decide)) (by decide))
  ·exact fM 4 none rfl rfl rfl rfl (.inl rfl) rfl rfl rfl
  ·exact fM 5 none rfl rfl rfl rfl (.inl rfl) rfl rfl rfl
  ·refine fJ [(35, _), (36, _)] 6 [some 4, some 5] fun G a w S => ?_
   exact sIdxV S (wN rfl) rfl rfl rfl hq214 rfl (lb rfl) fun a S => leafL ⟨rfl, S⟩
  ·refine fJ [(37, _)] 7 [some 6] fun G a w S => ?_
   exact sLoadHE (r := (rL (rI .i64))) (T := 101) (xs := s15) (u := .slice ad30 s41.length cp31) (v := .slice ad7 s15.length cp8) (vq := q213) (j := s16) 0 S hp215 (wN rfl) rfl rfl rfl rfl rfl (lb rfl) fun a S => leafL ⟨rfl, S⟩
  ·exact fM 8 none rfl rfl rfl rfl (.inl rfl) rfl rfl rfl
  ·exact fM 9 none rfl rfl rfl rfl (.inl rfl) rfl rfl rfl
  ·exact fM 10 none rfl rfl rfl rfl (.inl rfl) rfl rfl rfl
  ·refine fJ [(41, _)] 11 [some 10] fun G a w S => ?_
   exact sBin _ S (wN rfl) rfl rfl rfl (bAdd _ _ _ _ s16 1) rfl (lb rfl) fun a S => leafL ⟨rfl, S⟩
  ·refine fJ [(40, _), (42, _)] 12 [some 9, some 11] fun G a w S => ?_
   exact sIdxV S (wN rfl) rfl rfl rfl hq217 rfl (lb rfl) fun a S => leafL ⟨rfl, S⟩
  ·refine ⟨_, [(43, q216)], rfl, (srcs_of [some 12] rfl rfl rfl), fun G a w S => ?_⟩
   refine sLoadHo (r := (rL (rI .i64))) (T := 101) (xs := s15) (x := x152) (p := (s16).toNat * (rL (rI .i64)).sz + 0) (u := .slice ad30 s41.length cp31) (v := .slice ad7 s15.length cp8) (vq := q216) (j := w64 (s16 + 1)) 0 S hp218 (wN rfl) rfl rfl rfl hx153 (idx_next (by decide) (hole_lim 0 S.mem rfl) hx35 hx153) (scal_L _) rfl rfl (lb rfl) fun a u261 S => ?_
   obtain ⟨ad262, cp263, _, rfl, _⟩ := S.mem.know (i := 0) (e := fRep (rL (rI .i64)) (u261) x152) rfl
   obtain ⟨q264, hq265, S⟩ := pIdx (P := Try.prog) (r := (rI .i64)) (v := .slice ad262 x152.length cp263) (xs := x152) (j := s40) 101 3 0 S Try.underlying101 rfl rfl hx161
   obtain ⟨u266, S⟩ := pLoad (r := (rI .i64)) (q := q264) (x := x160) 0 S rfl
   obtain rfl : u266 = iv x160 := S.mem.know (i := 1) (e := fRep (rI .i64) (u266) x160) rfl
   obtain ⟨q267, hq268, hp269⟩ := pIdxR (P := Try.prog) (r := (rI .i64)) (T := 3) (v := .slice ad30 s41.length cp31) (xs := s41) (j := s40) 101 3 1 S Try.underlying101 rfl rfl hx207
   refine leafL ⟨rfl, _, _, .inl ⟨44, (.slice ad262 x152.length cp263), [(11, 46, q264), (12, 47, iv x160), (19, 54, iv (w64 (x160 + r170))), (55, 90, iv (min3 (w64 (x160 + r170)) (w64 (x175 + r185)) (w64 (x193 + r204)))), (56, 91, q267)], rfl, S, hz_of rfl, ?_⟩⟩
   refine node_by (A := anc_compare_table_api_Stitch__s0_2) 58 (by kernel_rfl) (by kernel_rfl) (by kernel_rfl) (by kernel_rfl) (by kernel_rfl) [11, 12, 19, 55, 56, 9, 42, 43, 54, 39, 0, 1, 2, 3, 4, 5, 6, 7, 8, 10, 13, 14, 15, 16, 17, 18, 20, 21, 22, 23, 24, 25, 26, 27, 28, 29, 30, 31, 32, 33, 34, 35, 36, 37, 38, 40, 41, 44, 45, 46, 47, 48, 49, 50, 51, 52, 53] (by kernel_rfl) (by decide) (by decide) (fF ?_ (fF ?_ (fF ?_ (fF ?_ (fF ?_ (fD 9 (fD 9 (fD 9 (fD 9 (fY (fF ?_ (fF ?_ (fF ?_ (fF ?_ (fF ?_ (fF ?_ (fF ?_ (fF ?_ (fF ?_ (fF ?_ (fF ?_ (fF ?_ (fF ?_ (fF ?_ (fF ?_ (fF ?_ (fF ?_ (fF ?_ (fF ?_ (fF ?_ (fF ?_ (fF ?_ (fF ?_ (fF ?_ (fF ?_ (fD 39 (fD 39 (fD 39 (fD 39 (fY (fF ?_ (fF ?_ (fF ?_ (fF ?_ (fF ?_ (fF ?_ (fF ?_ (fF ?_ (fF ?_ (fF ?_ (fF ?_ (fF ?_ (fF ?_ (fF ?_ (fF ?_ (fF ?_ (fF ?_ (fN ?_ (trivial))))))))))))))))))))))))))))))))))))))))))))))))))))))))))) [] (fun q hq => by cases hq) (fun hY => absurd (hY 57 (by decide)) (by decide))
   ·exact fM 10 none rfl rfl rfl rfl (.inl rfl) rfl rfl rfl
   ·exact fM 11 none rfl rfl rfl rfl (.inl rfl) rfl rfl rfl
   ·refine fJ [(35, _), (36, _)] 12 [some 10, some 11] fun G a w S => ?_
    exact sIdxV S (wN rfl) rfl rfl rfl hq214 rfl (lb rfl) fun a S => leafL ⟨rfl, S⟩
   ·refine fJ [(37, _)] 13 [some 12] fun G a w S => ?_
    exact sLoadHE (r := (rL (rI .i64))) (T := 101) (xs := s15) (u := .slice ad30 s41.length cp31) (v := .slice ad7 s15.length cp8) (vq := q213) (j := s16) 0 S hp215 (wN rfl) rfl rfl rfl rfl rfl (lb rfl) fun a S => leafL ⟨rfl, S⟩
   ·exact fM 14 none rfl rfl rfl rfl (.inl rfl) rfl rfl rfl
   ·exact fM 19 none rfl rfl rfl rfl (.inl rfl) rfl rfl rfl
   ·refine fJ [(44, _), (45, _)] 0 [some 5, some 19] fun G a w S => ?_
    exact sIdxV S (wN rfl) rfl rfl rfl hq265 rfl (lb rfl) fun a S => leafL ⟨rfl, S⟩
   ·refine fJ [(46, _)] 1 [some 0] fun G a w S => ?_
    exact sLoadV1 (vq := q264) 0 (iv x160) S (wN rfl) rfl rfl rfl rfl rfl (lb rfl) fun a S => leafL ⟨rfl, S⟩
   ·exact fM 20 none rfl rfl rfl rfl (.inl rfl) rfl rfl rfl
   ·exact fM 21 none rfl rfl rfl rfl (.inl rfl) rfl rfl rfl
   ·exact fM 22 none rfl rfl rfl rfl (.inl rfl) rfl rfl rfl
   ·refine fJ [(49, _), (50, _)] 23 [some 21, some 22] fun G a w S => ?_
    exact sIdxV S (wN rfl) rfl rfl rfl hq220 rfl (lb rfl) fun a S => leafL ⟨rfl, S⟩
   ·refine fJ [(51, _)] 24 [some 23] fun G a w S => ?_
    exact sLoadVN (vq := q219) 17 [.int .u8 x165.Kind, .bool x165.Purl, iv x165.A, iv x165.B] S (wN rfl) rfl rfl rfl rfl rfl rfl (lb rfl) fun a S => leafL ⟨rfl, S⟩
   ·refine fJ [(48, _), (52, _)] 25 [some 20, some 24] fun G a w S => ?_
    have S1 := S.mem
    refine sCallVQ (X := Unit) (g := 84) (vs := [.agg #[.int .u8 x165.Kind, .bool x165.Purl, iv x165.A, iv x165.B]]) (caps := []) (val := fun _ => iv r170) S (wN rfl) rfl rfl callee84 rfl (S1.quiet [12] rfl) (fun E1 w1 S1 => c_compare_cellTable_1 E1 w1 x165 (.agg #[.int .u8 x165.Kind, .bool x165.Purl, iv x165.A, iv x165.B]) r170 hx171 S1) rfl (lb rfl) fun _ a w S => ?_
    exact leafL ⟨rfl, S⟩
   ·refine fJ [(47, _), (53, _)] 2 [some 1, some 25] fun G a w S => ?_
    exact sBin _ S (wN rfl) rfl rfl rfl (bAdd _ _ _ _ x160 r170) rfl (lb rfl) fun a S => leafL ⟨rfl, S⟩
   ·exact fM 26 none rfl rfl rfl rfl (.inl rfl) rfl rfl rfl
   ·exact fM 27 none rfl rfl rfl rfl (.inl rfl) rfl rfl rfl
   ·refine fJ [(55, _), (56, _)] 28 [some 26, some 27] fun G a w S => ?_
    exact sIdxV S (wN rfl) rfl rfl rfl hq223 rfl (lb rfl) fun a S => leafL ⟨rfl, S⟩
   ·refine fJ [(57, _)] 29 [some 28] fun G a w S => ?_
    exact sLoadHE (r := (rL (rI .i64))) (T := 101) (xs := s15) (u := .slice ad30 s41.length cp31) (v := .slice ad7 s15.length cp8) (vq := q222) (j := s16) 0 S hp224 (wN rfl) rfl rfl rfl rfl rfl (lb rfl) fun a S => leafL ⟨rfl, S⟩
   ·exact fM 30 none rfl rfl rfl rfl (.inl rfl) rfl rfl rfl
   ·refine fJ [(59, _)] 31 [some 30] fun G a w S => ?_
    exact sBin _ S (wN rfl) rfl rfl rfl (bAdd _ _ _ _ s40 1) rfl (lb rfl) fun a S => leafL ⟨rfl, S⟩
   ·refine fJ [(58, _), (60, _)] 32 [some 29, some 31] fun G a w S => ?_
    exact sIdxV S (wN rfl) rfl rfl rfl hq226 rfl (lb rfl) fun a S => leafL ⟨rfl, S⟩
   ·refine fJ [(61, _)] 33 [some 32] fun G a w S => ?_
    exact sLoadR (r := (rI .i64)) (T := 3) (xs := s41) (x := x175) (v := .slice ad30 s41.length cp31) (vq := q225) (j := w64 (s40 + 1)) 1 (iv x175) S hp227 (wN rfl) rfl rfl rfl hx176 (fun _ _ _ h => h) (scal_I _) rfl rfl (lb rfl) fun a S => leafL ⟨rfl, S⟩
   ·exact fM 34 none rfl rfl rfl rfl (.inl rfl) rfl rfl rfl
   ·exact fM 35 none rfl rfl rfl rfl (.inl rfl) rfl rfl rfl
   ·exact fM 36 none rfl rfl rfl rfl (.inl rfl) rfl rfl rfl
   ·refine fJ [(64, _), (65, _)] 37 [some 35, some 36] fun G a w S => ?_
    exact sIdxV S (wN rfl) rfl rfl rfl hq229 rfl (lb rfl) fun a S => leafL ⟨rfl, S⟩
   ·refine fJ [(66, _)] 38 [some 37] fun G a w S => ?_
    exact sLoadVN (vq := q228) 14 [.int .u8 x180.Kind, .bool x180.Purl, iv x180.A, iv x180.B] S (wN rfl) rfl rfl rfl rfl rfl rfl (lb rfl) fun a S => leafL ⟨rfl, S⟩
   ·refine fJ [(63, _), (67, _)] 39 [some 34, some 38] fun G a w S => ?_
    have S1 := S.mem
    refine sCallVQ (X := Unit) (g := 84) (vs := [.agg #[.int .u8 x180.Kind, .bool x180.Purl, iv x180.A, iv x180.B]]) (caps := []) (val := fun _ => iv r185) S (wN rfl) rfl rfl callee84 rfl (S1.quiet [9] rfl) (fun E1 w1 S1 => c_compare_cellTable_1 E1 w1 x180 (.agg #[.int .u8 x180.Kind, .bool x180.Purl, iv x180.A, iv x180.B]) r185 hx186 S1) rfl (lb rfl) fun _ a w S => ?_
    exact leafL ⟨rfl, S⟩
   ·refine fJ [(62, _), (68, _)] 40 [some 33, some 39] fun G a w S => ?_
    exact sBin _ S (wN rfl) rfl rfl rfl (bAdd _ _ _ _ x175 r185) rfl (lb rfl) fun a S => leafL ⟨rfl, S⟩
   ·exact fM 45 none rfl rfl rfl rfl (.inl rfl) rfl rfl rfl
   ·refine fJ [(75, _)] 46 [some 45] fun G a w S => ?_
    exact sBin _ S (wN rfl) rfl rfl rfl (bAdd _ _ _ _ s40 1) rfl (lb rfl) fun a S => leafL ⟨rfl, S⟩
   ·refine fJ [(74, _), (76, _)] 6 [some 9, some 46] fun G a w S => ?_
    exact sIdxV S (wN rfl) rfl rfl rfl hq259 rfl (lb rfl) fun a S => leafL ⟨rfl, S⟩
   ·refine fJ [(77, _)] 7 [some 6] fun G a w S => ?_
    exact sLoadV1 (vq := q258) 4 (iv x193) S (wN rfl) rfl rfl rfl rfl rfl (lb rfl) fun a S => leafL ⟨rfl, S⟩
   ·exact fM 47 none rfl rfl rfl rfl (.inl rfl) rfl rfl rfl
   ·exact fM 48 none rfl rfl rfl rfl (.inl rfl) rfl rfl rfl
   ·exact fM 49 none rfl rfl rfl rfl (.inl rfl) rfl rfl rfl
   ·refine fJ [(80, _), (81, _)] 50 [some 48, some 49] fun G a w S => ?_
    exact sIdxV S (wN rfl) rfl rfl rfl hq235 rfl (lb rfl) fun a S => leafL ⟨rfl, S⟩
   ·refine fJ [(82, _)] 51 [some 50] fun G a w S => ?_
    exact sLoadVN (vq := q234) 11 [.int .u8 x165.Kind, .bool x165.Purl, iv x165.A, iv x165.B] S (wN rfl) rfl rfl rfl rfl rfl rfl (lb rfl) fun a S => leafL ⟨rfl, S⟩
   ·exact fM 52 none rfl rfl rfl rfl (.inl rfl) rfl rfl rfl
   ·exact fM 53 none rfl rfl rfl rfl (.inl rfl) rfl rfl rfl
   ·refine fJ [(84, _), (85, _)] 54 [some 52, some 53] fun G a w S => ?_
    exact sIdxV S (wN rfl) rfl rfl rfl hq238 rfl (lb rfl) fun a S => leafL ⟨rfl, S⟩
   ·refine fJ [(86, _)] 55 [some 54] fun G a w S => ?_
    exact sLoadVN (vq := q237) 8 [.int .u8 x180.Kind, .bool x180.Purl, iv x180.A, iv x180.B] S (wN rfl) rfl rfl rfl rfl rfl rfl (lb rfl) fun a S => leafL ⟨rfl, S⟩
   ·refine fJ [(79, _), (83, _), (87, _)] 56 [some 47, some 51, some 55] fun G a w S => ?_
    have S1 := S.mem
    refine sCallVQ (X := Unit) (g := 85) (vs := [.agg #[.int .u8 x165.Kind, .bool x165.Purl, iv x165.A, iv x165.B], .agg #[.int .u8 x180.Kind, .bool x180.Purl, iv x180.A, iv x180.B]]) (caps := []) (val := fun _ => iv r204) S (wN rfl) rfl rfl callee85 rfl (S1.quiet [12, 9] rfl) (fun E1 w1 S1 => c_compare_cellTable_2 E1 w1 x165 (.agg #[.int .u8 x165.Kind, .bool x165.Purl, iv x165.A, iv x165.B]) x180 (.agg #[.int .u8 x180.Kind, .bool x180.Purl, iv x180.A, iv x180.B]) r204 hx205 S1) rfl (lb rfl) fun _ a w S => ?_
    exact leafL ⟨rfl, S⟩
   ·refine fJ [(78, _), (88, _)] 8 [some 7, some 56] fun G a w S => ?_
    exact sBin _ S (wN rfl) rfl rfl rfl (bAdd _ _ _ _ x193 r204) rfl (lb rfl) fun a S => leafL ⟨rfl, S⟩
   ·refine fJ [(54, _), (69, _), (89, _)] 3 [some 2, some 40, some 8] fun G a w S => ?_
    exact sMin3 (p := w64 (x160 + r170)) (q := w64 (x175 + r185)) (r := w64 (x193 + r204)) S (wN rfl) rfl rfl rfl rfl rfl (lb rfl) fun a S => leafL ⟨rfl, S⟩
   ·refine fJ [(38, _), (39, _)] 4 [some 13, some 14] fun G a w S => ?_
    exact sIdxV S (wN rfl) rfl rfl rfl hq268 rfl (lb rfl) fun a S => leafL ⟨rfl, S⟩
   refine ⟨_, [(90, iv (min3 (w64 (x160 + r170)) (w64 (x175 + r185)) (w64 (x193 + r204)))), (91, q267)], rfl, (srcs_of [some 3, some 4] rfl rfl rfl), fun G a w S => ?_⟩
   refine sStoreR (r := (rI .i64)) (T := 3) (xs := s41) (ys := l211) (y := (min3 (w64 (x160 + r170)) (w64 (x175 + r185)) (w64 (x193 + r204)))) (v := .slice ad30 s41.length cp31) (vq := q267) (u := iv (min3 (w64 (x160 + r170)) (w64 (x175 + r185)) (w64 (x193 + r204)))) (j := s40) 1 S hp269 (wN rfl) rfl rfl rfl rfl rfl hx212 rfl rfl fun a w S => ?_
   refine leafL ⟨rfl, _, _, .inr ⟨[], rfl, S, hz_of rfl, ?_⟩⟩
   refine node_by (A := anc_compare_table_api_Stitch__s0_2) 58 (by kernel_rfl) (by kernel_rfl) (by kernel_rfl) (by kernel_rfl) (by kernel_rfl) [11, 12, 19, 55, 56, 9, 42, 43, 54, 39, 0, 1, 2, 3, 4, 5, 6, 7, 8, 10, 13, 14, 15, 16, 17, 18, 20, 21, 22, 23, 24, 25, 26, 27, 28, 29, 30, 31, 32, 33, 34, 35, 36, 37, 38, 40, 41, 44, 45, 46, 47, 48, 49, 50, 51, 52, 53] (by kernel_rfl) (by decide) (by decide) (fD 57 (fD 57 (fD 57 (fD 57 (fD 57 (fD 57 (fD 57 (fD 57 (fD 57 (fY (fD 57 (fD 57 (fD 57 (fD 57 (fD 57 (fD 57 (fD 57 (fD 57 (fD 57 (fD 57 (fD 57 (fD 57 (fD 57 (fD 57 (fD 57 (fD 57 (fD 57 (fD 57 (fD 57 (fD 57 (fD 57 (fD 57 (fD 57 (fD 57 (fD 57 (fD 57 (fD 57 (fD 57 (fD 57 (fY (fD 57 (fD 57 (fD 57 (fD 57 (fD 57 (fD 57 (fD 57 (fD 57 (fD 57 (fD 57 (fD 57 (fD 57 (fD 57 (fD 57 (fD 57 (fD 57 (fD 57 (fY (trivial))))))))))))))))))))))))))))))))))))))))))))))))))))))))))) [(0, .slice ad1 p0.length cp2), (1, .slice ad3 p1.length cp4), (2, .func (.func 84) #[] #[]), (3, .func (.func 85) #[] #[]), (9, .slice ad7 s15.length cp8), (10, iv s16), (11, iv s40)] (fin_of [none, none, none, none, none, none, none] rfl (by kernel_rfl) (by kernel_rfl)) (fun _ a w S => ?_)
   rw [setO_v hx212 ad30 cp31] at S
   exact leafB (leafB (leafT (⟨l211, Option.some.inj h, S.fix [1, 0] [20, 21] (by decide) rfl rfl rfl⟩)))
  ·exact fM 13 none rfl rfl rfl rfl (.inl rfl) rfl rfl rfl
  ·exact fM 14 none rfl rfl rfl rfl (.inl rfl) rfl rfl rfl
  ·exact fM 15 none rfl rfl rfl rfl (.inl rfl) rfl rfl rfl
  ·exact fM 16 none rfl rfl rfl rfl (.inl rfl) rfl rfl rfl
  ·refine fJ [(49, _), (50, _)] 17 [some 15, some 16] fun G a w S => ?_
   exact sIdxV S (wN rfl) rfl rfl rfl hq220 rfl (lb rfl) fun a S => leafL ⟨rfl, S⟩
  ·refine fJ [(51, _)] 18 [some 17] fun G a w S => ?_
   exact sLoadVN (vq := q219) 13 [.int .u8 x165.Kind, .bool x165.Purl, iv x165.A, iv x165.B] S (wN rfl) rfl rfl rfl rfl rfl rfl (lb rfl) fun a S => leafL ⟨rfl, S⟩
  ·refine fJ [(48, _), (52, _)] 19 [some 14, some 18] fun G a w S => ?_
   have S1 := S.mem
   refine sCallVQ (X := Unit) (g := 84) (vs := [.agg #[.int .u8 x165.Kind, .bool x165.Purl, iv x165.A, iv x165.B]]) (caps := []) (val := fun _ => iv r170) S (wN rfl) rfl rfl callee84 rfl (S1.quiet [8] rfl) (fun E1 w1 S1 => c_compare_cellTable_1 E1 w1 x165 (.agg #[.int .u8 x165.Kind, .bool x165.Purl, iv x165.A, iv x165.B]) r170 hx171 S1) rfl (lb rfl) fun _ a w S => ?_
   exact leafL ⟨rfl, S⟩
  ·exact fM 20 none rfl rfl rfl rfl (.inl rfl) rfl rfl rfl
  ·exact fM 21 none rfl rfl rfl rfl (.inl rfl) rfl rfl rfl
  ·refine fJ [(55, _), (56, _)] 22 [some 20, some 21] fun G a w S => ?_
   exact sIdxV S (wN rfl) rfl rfl rfl hq223 rfl (lb rfl) fun a S => leafL ⟨rfl, S⟩
  ·refine fJ [(57, _)] 23 [some 22] fun G a w S => ?_
   exact sLoadHE (r := (rL (rI .i64))) (T := 101) (xs := s15) (u := .slice ad30 s41.length cp31) (v := .slice ad7 s15.length cp8) (vq := q222) (j := s16) 0 S hp224 (wN rfl) rfl rfl rfl rfl rfl (lb rfl) fun a S => leafL ⟨rfl, S⟩
  ·exact fM 24 none rfl rfl rfl rfl (.inl rfl) rfl rfl rfl
  ·refine fJ [(59, _)] 25 [some 24] fun G a w S => ?_
   exact sBin _ S (wN rfl) rfl rfl rfl (bAdd _ _ _ _ s40 1) rfl (lb rfl) fun a S => leafL ⟨rfl, S⟩
  ·refine fJ [(58, _), (60, _)] 26 [some 23, some 25] fun G a w S => ?_
   exact sIdxV S (wN rfl) rfl rfl rfl hq226 rfl (lb rfl) fun a S => leafL ⟨rfl, S⟩
  ·refine fJ [(61, _)] 27 [some 26] fun G a w S => ?_
   exact sLoadR (r := (rI .i64)) (T := 3) (xs := s41) (x := x175) (v := .slice ad30 s41.length cp31) (vq := q225) (j := w64 (s40 + 1)) 1 (iv x175) S hp227 (wN rfl) rfl rfl rfl hx176 (fun _ _ _ h => h) (scal_I _) rfl rfl (lb rfl) fun a S => leafL ⟨rfl, S⟩
  ·exact fM 28 none rfl rfl rfl rfl (.inl rfl) rfl rfl rfl
  ·exact fM 29 none rfl rfl rfl rfl (.inl rfl) rfl rfl rfl
  ·exact fM 30 none rfl rfl rfl rfl (.inl rfl) rfl rfl rfl
  ·refine fJ [(64, _), (65, _)] 31 [some 29, some 30] fun G a w S => ?_
   exact sIdxV S (wN rfl) rfl rfl rfl hq229 rfl (lb rfl) fun a S => leafL ⟨rfl, S⟩
  ·refine fJ [(66, _)] 32 [some 31] fun G a w S => ?_
   exact sLoadVN (vq := q228) 10 [.int .u8 x180.Kind, .bool x180.Purl, iv x180.A, iv x180.B] S (wN rfl) rfl rfl rfl rfl rfl rfl (lb rfl) fun a S => leafL ⟨rfl, S⟩
  ·refine fJ [(63, _), (67, _)] 33 [some 28, some 32] fun G a w S => ?_
   have S1 := S.mem
   refine sCallVQ (X := Unit) (g := 84) (vs := [.agg #[.int .u8 x180.Kind, .bool x180.Purl, iv x180.A, iv x180.B]]) (caps := []) (val := fun _ => iv r185) S (wN rfl) rfl rfl callee84 rfl (S1.quiet [5] rfl) (fun E1 w1 S1 => c_compare_cellTable_1 E1 w1 x180 (.agg #[.int .u8 x180.Kind, .bool x180.Purl, iv x180.A, iv x180.B]) r185 hx186 S1) rfl (lb rfl) fun _ a w S => ?_
   exact leafL ⟨rfl, S⟩
  ·refine fJ [(62, _), (68, _)] 34 [some 27, some 33] fun G a w S => ?_
   exact sBin _ S (wN rfl) rfl rfl rfl (bAdd _ _ _ _ x175 r185) rfl (lb rfl) fun a S => leafL ⟨rfl, S⟩
  ·exact fM 39 none rfl rfl rfl rfl (.inl rfl) rfl rfl rfl
  ·refine fJ [(75, _)] 40 [some 39] fun G a w S => ?_
   exact sBin _ S (wN rfl) rfl rfl rfl (bAdd _ _ _ _ s40 1) rfl (lb rfl) fun a S => leafL ⟨rfl, S⟩
  ·refine fJ [(74, _), (76, _)] 0 [some 3, some 40] fun G a w S => ?_
   exact sIdxV S (wN rfl) rfl rfl rfl hq259 rfl (lb rfl) fun a S => leafL ⟨rfl, S⟩
  ·refine fJ [(77, _)] 1 [some 0] fun G a w S => ?_
   exact sLoadV1 (vq := q258) 0 (iv x193) S (wN rfl) rfl rfl rfl rfl rfl (lb rfl) fun a S => leafL ⟨rfl, S⟩
  ·exact fM 41 none rfl rfl rfl rfl (.inl rfl) rfl rfl rfl
  ·exact fM 42 none rfl rfl rfl rfl (.inl rfl) rfl rfl rfl
  ·exact fM 43 none rfl rfl rfl rfl (.inl rfl) rfl rfl rfl
  ·refine fJ [(80, _), (81, _)] 44 [some 42, some 43] fun G a w S => ?_
   exact sIdxV S (wN rfl) rfl rfl rfl hq235 rfl (lb rfl) fun a S => leafL ⟨rfl, S⟩
  ·refine fJ [(82, _)] 45 [some 44] fun G a w S => ?_
   exact sLoadVN (vq := q234) 7 [.int .u8 x165.Kind, .bool x165.Purl, iv x165.A, iv x165.B] S (wN rfl) rfl rfl rfl rfl rfl rfl (lb rfl) fun a S => leafL ⟨rfl, S⟩
  ·exact fM 46 none rfl rfl rfl rfl (.inl rfl) rfl rfl rfl
  ·exact fM 47 none rfl rfl rfl rfl (.inl rfl) rfl rfl rfl
  ·refine fJ [(84, _), (85, _)] 48 [some 46, some 47] fun G a w S => ?_
   exact sIdxV S (wN rfl) rfl rfl rfl hq238 rfl (lb rfl) fun a S => leafL ⟨rfl, S⟩
  ·refine fJ [(86, _)] 49 [some 48] fun G a w S => ?_
   exact sLoadVN (vq := q237) 4 [.int .u8 x180.Kind, .bool x180.Purl, iv x180.A, iv x180.B] S (wN rfl) rfl rfl rfl rfl rfl rfl (lb rfl) fun a S => leafL ⟨rfl, S⟩
  ·refine fJ [(79, _), (83, _), (87, _)] 50 [some 41, some 45, some 49] fun G a w S => ?_
   have S1 := S.mem
   refine sCallVQ (X := Unit) (g := 85) (vs := [.agg #[.int .u8 x165.Kind, .bool x165.Purl, iv x165.A, iv x165.B], .agg #[.int .u8 x180.Kind, .bool x180.Purl, iv x180.A, iv x180.B]]) (caps := []) (val := fun _ => iv r204) S (wN rfl) rfl rfl callee85 rfl (S1.quiet [8, 5] rfl) (fun E1 w1 S1 => c_compare_cellTable_2 E1 w1 x165 (.agg #[.int .u8 x165.Kind, .bool x165.Purl, iv x165.A, iv x165.B]) x180 (.agg #[.int .u8 x180.Kind, .bool x180.Purl, iv x180.A, iv x180.B]) r204 hx205 S1) rfl (lb rfl) fun _ a w S => ?_
   exact leafL ⟨rfl, S⟩
  refine fJ [(78, _), (88, _)] 2 [some 1, some 50] fun G a w S => ?_
  exact sBin _ S (wN rfl) rfl rfl rfl (bAdd _ _ _ _ x193 r204) rfl (lb rfl) fun a S => leafL ⟨rfl, S⟩
 ·exact fM 35 none rfl rfl rfl rfl (.inl rfl) rfl rfl rfl
 ·refine fJ [(75, _)] 36 [some 35] fun G a w S => ?_
  exact sBin _ S (wN rfl) rfl rfl rfl (bAdd _ _ _ _ s40 1) rfl (lb rfl) fun a S => leafL ⟨rfl, S⟩
 ·exact fM 37 none rfl rfl rfl rfl (.inl rfl) rfl rfl rfl
 ·exact fM 38 none rfl rfl rfl rfl (.inl rfl) rfl rfl rfl
 ·exact fM 39 none rfl rfl rfl rfl (.inl rfl) rfl rfl rfl
 ·refine fJ [(80, _), (81, _)] 40 [some 38, some 39] fun G a w S => ?_
  exact sIdxV S (wN rfl) rfl rfl rfl hq235 rfl (lb rfl) fun a S => leafL ⟨rfl, S⟩
 ·refine fJ [(82, _)] 41 [some 40] fun G a w S => ?_
  exact sLoadVN (vq := q234) 3 [.int .u8 x165.Kind, .bool x165.Purl, iv x165.A, iv x165.B] S (wN rfl) rfl rfl rfl rfl rfl rfl (lb rfl) fun a S => leafL ⟨rfl, S⟩
 ·exact fM 42 none rfl rfl rfl rfl (.inl rfl) rfl rfl rfl
 ·exact fM 43 none rfl rfl rfl rfl (.inl rfl) rfl rfl rfl
 ·refine fJ [(84, _), (85, _)] 44 [some 42, some 43] fun G a w S => ?_
  exact sIdxV S (wN rfl) rfl rfl rfl hq238 rfl (lb rfl) fun a S => leafL ⟨rfl, S⟩
 ·refine fJ [(86, _)] 45 [some 44] fun G a w S => ?_
  exact sLoadVN (vq := q237) 0 [.int .u8 x180.Kind, .bool x180.Purl, iv x180.A, iv x180.B] S (wN rfl) rfl rfl rfl rfl rfl rfl (lb rfl) fun a S => leafL ⟨rfl, S⟩
 refine fJ [(79, _), (83, _), (87, _)] 46 [some 37, some 41, some 45] fun G a w S => ?_
 have S1 := S.mem
 refine sCallVQ (X := Unit) (g := 85) (vs := [.agg #[.int .u8 x165.Kind, .bool x165.Purl, iv x165.A, iv x165.B], .agg #[.int .u8 x180.Kind, .bool x180.Purl, iv x180.A, iv x180.B]]) (caps := []) (val := fun _ => iv r204) S (wN rfl) rfl rfl callee85 rfl (S1.quiet [4, 1] rfl) (fun E1 w1 S1 => c_compare_cellTable_2 E1 w1 x165 (.agg #[.int .u8 x165.Kind, .bool x165.Purl, iv x165.A, iv x165.B]) x180 (.agg #[.int .u8 x180.Kind, .bool x180.Purl, iv x180.A, iv x180.B]) r204 hx205 S1) rfl (lb rfl) fun _ a w S => ?_
 exact leafL ⟨rfl, S⟩
end Go.Proofs.Ytffikfajljbmnaa
