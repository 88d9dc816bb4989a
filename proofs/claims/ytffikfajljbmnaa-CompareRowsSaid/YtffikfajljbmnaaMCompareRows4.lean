/- CompareRows: walks, tables, laws. -/
import Derived.Test.YtffikfajljbmnaaProg
import Derived.Test.YtffikfajljbmnaaRows
import Derived.Test.YtffikfajljbmnaaMCompareRows3
namespace Go.Proofs.Ytffikfajljbmnaa
open Go.RowKit
noncomputable def F_compare_cellTable (p0 : (List api_Stitch)) (p1 : (List api_Stitch)) : Option (List (List Int)) :=
 Option.bind (F_compare_table_api_Stitch__s0 p0 p1) fun r7 =>
 some r7
def c_compare_cellTable_val (r : (List (List Int))) (x : Value) : Value := x
def c_compare_cellTable_D (r : (List (List Int))) (x : Value) : List Fact := [fRep (rL (rL (rI .i64))) x r]
set_option maxHeartbeats 4000000 in
set_option maxRecDepth 100000 in
theorem c_compare_cellTable (E : Nat → Prop) (w0 : World) (p0 : (List api_Stitch)) (v0 : Value) (p1 : (List api_Stitch)) (v1 : Value) (r : (List (List Int))) (h : F_compare_cellTable p0 p1 = some r) (S : St0 E [] w0 w0 [] [fRep (rL r_api_Stitch) (v0) p0, fRep (rL r_api_Stitch) (v1) p1]) :
 Calls Try.prog 54 #[v0, v1] w0 (Ret (X := Value) E [] w0 (c_compare_cellTable_val r) (fun _ => []) (c_compare_cellTable_D r)) := by
 unfold F_compare_cellTable at h
 obtain ⟨ad1, cp2, _, rfl, _⟩ := S.know (i := 0) (e := fRep (rL r_api_Stitch) (v0) p0) rfl
 obtain ⟨ad3, cp4, _, rfl, _⟩ := S.know (i := 1) (e := fRep (rL r_api_Stitch) (v1) p1) rfl
 refine sEnter (args := [.slice ad1 p0.length cp2, .slice ad3 p1.length cp4]) 8 Try.func54 rfl rfl (by simp) S (fun a S => ?_)
 refine sSeq (fun K5 hK5 => ?_)
 refine sRegion ?_
 refine sMa S rfl rfl rfl rfl rfl fun a S => ?_
 refine lT (hK5 _ _ ?_)
 refine sSeq (fun K6 hK6 => ?_)
 refine sRegion ?_
 refine sMm S rfl rfl rfl rfl rfl fun a S => ?_
 refine sMm S rfl rfl rfl rfl rfl fun a S => ?_
 obtain ⟨r7, hx8, h⟩ := bindSome h
 refine sCall (X := Value) (f := 83) (vs := [.slice ad1 p0.length cp2, .slice ad3 p1.length cp4, .func (.func 84) #[] #[], .func (.func 85) #[] #[]]) (val := c_compare_table_api_Stitch__s0_val r7) (B' := fun _ => []) (D' := c_compare_table_api_Stitch__s0_D r7) [] [] [fRep (rL r_api_Stitch) (.slice ad1 p0.length cp2) p0, fRep (rL r_api_Stitch) (.slice ad3 p1.length cp4) p1] [] [0, 1] S (wN rfl) rfl callee83 rfl (by decide) rfl rfl (fun E1 w1 S1 => c_compare_table_api_Stitch__s0 E1 w1 p0 (.slice ad1 p0.length cp2) p1 (.slice ad3 p1.length cp4) r7 hx8 S1) rfl (lb rfl) fun u9 a w S => ?_
 obtain ⟨ad10, cp11, _, rfl, _⟩ := S.mem.know (i := 0) (e := fRep (rL (rL (rI .i64))) (u9) r7) rfl
 refine sMa S rfl rfl rfl rfl rfl fun a S => ?_
 refine lT (hK6 _ _ ?_)
 obtain rfl := Option.some.inj h
 exact wp_ret (sRet (.slice ad10 r7.length cp11) S (rsl1 rfl (rvT (t := 4) (v := .slice ad10 r7.length cp11) S rfl)) ⟨(.slice ad10 r7.length cp11), rfl, S.mem.sel [] [0] (by decide) rfl rfl⟩)
end Go.Proofs.Ytffikfajljbmnaa
namespace Go.Proofs.Ytffikfajljbmnaa
open Go.RowKit
noncomputable def F_compare_Charts_2 (p0 : api_Row) (p1 : api_Row) : Option Int :=
 Option.bind (F_compare_cellTable p0.Cells p1.Cells) fun r13 =>
 Option.bind (idxO r13 0) fun x18 =>
 Option.bind (idxO x18 0) fun x25 =>
 Option.bind (α := Int) (
  if p0.Back != p1.Back then
   some (w64 (x25 + 1))
  else
   some x25) fun o30 =>
 some o30
set_option maxHeartbeats 4000000 in
set_option maxRecDepth 100000 in
theorem c_compare_Charts_2 (E : Nat → Prop) (w0 : World) (p0 : api_Row) (v0 : Value) (p1 : api_Row) (v1 : Value) (r : Int) (h : F_compare_Charts_2 p0 p1 = some r) (S : St0 E [] w0 w0 [] [fRep r_api_Row (v0) p0, fRep r_api_Row (v1) p1]) :
 Calls Try.prog 53 #[v0, v1] w0 (Ret (X := Unit) E [] w0 (fun _ => .int .i64 r) (fun _ => []) (fun _ => [])) := by
 unfold F_compare_Charts_2 at h
 obtain ⟨u1, rfl, hu2⟩ := S.know (i := 0) (e := fRep r_api_Row (v0) p0) rfl
 have S := S.learn (fRep (rL r_api_Stitch) u1 p0.Cells) hu2
 obtain ⟨ad3, cp4, _, rfl, _⟩ := hu2
 obtain ⟨u5, rfl, hu6⟩ := S.know (i := 2) (e := fRep r_api_Row (v1) p1) rfl
 have S := S.learn (fRep (rL r_api_Stitch) u5 p1.Cells) hu6
 obtain ⟨ad7, cp8, _, rfl, _⟩ := hu6
 refine sEnter (args := [.agg #[.bool p0.Back, .slice ad3 p0.Cells.length cp4], .agg #[.bool p1.Back, .slice ad7 p1.Cells.length cp8]]) 23 Try.func53 rfl rfl (by simp) S (fun a S => ?_)
 refine sSeq (fun K9 hK9 => ?_)
 refine sRegion ?_
 refine sBox (v := .agg #[.bool p0.Back, .slice ad3 p0.Cells.length cp4]) S (wN rfl) rfl rfl [.bool p0.Back, .slice ad3 p0.Cells.length cp4] rfl rfl (lb rfl) fun a b10 w S => ?_
 refine sBox (v := .agg #[.bool p1.Back, .slice ad7 p1.Cells.length cp8]) S (wN rfl) rfl rfl [.bool p1.Back, .slice ad7 p1.Cells.length cp8] rfl rfl (lb rfl) fun a b11 w S => ?_
 refine sMa S rfl rfl rfl rfl rfl fun a S => ?_
 refine lT (hK9 _ _ ?_)
 refine sSeq (fun K12 hK12 => ?_)
 refine sRegion ?_
 refine sField (b := b10) (off := 0) 1 1 S (wN rfl) rfl rfl rfl rfl rfl (lb rfl) fun a S => ?_
 refine sLoad1 1 (.slice ad3 p0.Cells.length cp4) S (wN rfl) rfl rfl rfl rfl rfl rfl (lb rfl) fun a S => ?_
 refine sField (b := b11) (off := 0) 1 1 S (wN rfl) rfl rfl rfl rfl rfl (lb rfl) fun a S => ?_
 refine sLoad1 0 (.slice ad7 p1.Cells.length cp8) S (wN rfl) rfl rfl rfl rfl rfl rfl (lb rfl) fun a S => ?_
 obtain ⟨r13, hx14, h⟩ := bindSome h
 refine sCall (X := Value) (f := 54) (vs := [.slice ad3 p0.Cells.length cp4, .slice ad7 p1.Cells.length cp8]) (val := c_compare_cellTable_val r13) (B' := fun _ => []) (D' := c_compare_cellTable_D r13) [] [eBox b11 87 [.bool p1.Back, .slice ad7 p1.Cells.length cp8], eBox b10 87 [.bool p0.Back, .slice ad3 p0.Cells.length cp4]] [fRep (rL r_api_Stitch) (.slice ad3 p0.Cells.length cp4) p0.Cells, fRep (rL r_api_Stitch) (.slice ad7 p1.Cells.length cp8) p1.Cells] [0, 1] [1, 0] S (wN rfl) rfl callee54 rfl (by decide) rfl rfl (fun E1 w1 S1 => c_compare_cellTable E1 w1 p0.Cells (.slice ad3 p0.Cells.length cp4) p1.Cells (.slice ad7 p1.Cells.length cp8) r13 hx14 S1) rfl (lb rfl) fun u15 a w S => ?_
 obtain ⟨ad16, cp17, _, rfl, _⟩ := S.mem.know (i := 0) (e := fRep (rL (rL (rI .i64))) (u15) r13) rfl
 obtain ⟨x18, hx19, h⟩ := bindSome h
 obtain ⟨q20, hq21, S⟩ := pIdx (P := Try.prog) (r := (rL (rI .i64))) (v := .slice ad16 r13.length cp17) (xs := r13) (j := 0) 98 101 0 S Try.underlying98 rfl rfl hx19
 refine sIdxV S (wN rfl) rfl rfl rfl hq21 rfl (lb rfl) fun a S => ?_
 obtain ⟨u22, S⟩ := pLoad (r := (rL (rI .i64))) (q := q20) (x := x18) 0 S rfl
 obtain ⟨ad23, cp24, _, rfl, _⟩ := S.mem.know (i := 1) (e := fRep (rL (rI .i64)) (u22) x18) rfl
 refine sLoadV1 (vq := q20) 0 (.slice ad23 x18.length cp24) S (wN rfl) rfl rfl rfl rfl rfl (lb rfl) fun a S => ?_
 obtain ⟨x25, hx26, h⟩ := bindSome h
 obtain ⟨q27, hq28, S⟩ := pIdx (P := Try.prog) (r := (rI .i64)) (v := .slice ad23 x18.length cp24) (xs := x18) (j := 0) 101 3 1 S Try.underlying101 rfl rfl hx26
 refine sIdxV S (wN rfl) rfl rfl rfl hq28 rfl (lb rfl) fun a S => ?_
 obtain ⟨u29, S⟩ := pLoad (r := (rI .i64)) (q := q27) (x := x25) 0 S rfl
 obtain rfl : u29 = iv x25 := S.mem.know (i := 1) (e := fRep (rI .i64) (u29) x25) rfl
 refine sLoadV1 (vq := q27) 0 (iv x25) S (wN rfl) rfl rfl rfl rfl rfl (lb rfl) fun a S => ?_
 refine sMa S rfl rfl rfl rfl rfl fun a S => ?_
 refine lT (hK12 _ _ ?_)
 obtain ⟨t31, h, g32⟩ := bindSome h
 refine sCut (fun a w => ∃ o30, o30 = t31 ∧ St [] E [] w0 23 a w [(5, iv o30)] [] []) ?_ (fun a w hI => ?_)
 rotate_left
 ·obtain ⟨o30, rfl, S⟩ := hI
  have h := g32
  clear g32
  try dsimp only at h
  refine sSeq (fun K35 hK35 => ?_)
  refine sRegion ?_
  refine sMm S rfl rfl rfl rfl rfl fun a S => ?_
  refine sMa S rfl rfl rfl rfl rfl fun a S => ?_
  refine lT (hK35 _ _ ?_)
  obtain rfl := Option.some.inj h
  exact wp_ret (sRet (iv o30) S (rsl1 rfl (rvT (t := 4) (v := iv o30) S rfl)) ⟨(), rfl, S.mem.sel [] [] (by decide) rfl rfl⟩)
 refine sSeq (fun K33 hK33 => ?_)
 refine sRegion ?_
 refine sField (b := b10) (off := 0) 0 0 S (wN rfl) rfl rfl rfl rfl rfl (lb rfl) fun a S => ?_
 refine sLoad1 1 (.bool p0.Back) S (wN rfl) rfl rfl rfl rfl rfl rfl (lb rfl) fun a S => ?_
 refine sField (b := b11) (off := 0) 0 0 S (wN rfl) rfl rfl rfl rfl rfl (lb rfl) fun a S => ?_
 refine sLoad1 0 (.bool p1.Back) S (wN rfl) rfl rfl rfl rfl rfl rfl (lb rfl) fun a S => ?_
 refine sBin _ S (wN rfl) rfl rfl rfl (bNeB _ _ _ _ Try.underlying4 p0.Back p1.Back) rfl (lb rfl) fun a S => ?_
 refine lT (hK33 _ _ ?_)
 rcases iteSome h with ⟨hc34, h⟩ | ⟨hc34, h⟩
 rotate_left
 ·refine sCondF S rfl hc34 ?_
  exact wp_skip (leafT (⟨x25, Option.some.inj h, S.fix [] [] (by decide) rfl rfl rfl⟩))
 refine sCondT S rfl hc34 ?_
 refine sRegion ?_
 refine sMm S rfl rfl rfl rfl rfl fun a S => ?_
 refine sBin _ S (wN rfl) rfl rfl rfl (bAdd _ _ _ _ x25 1) rfl (lb rfl) fun a S => ?_
 refine sMa S rfl rfl rfl rfl rfl fun a S => ?_
 exact lT (⟨w64 (x25 + 1), Option.some.inj h, S.fix [] [] (by decide) rfl rfl rfl⟩)
end Go.Proofs.Ytffikfajljbmnaa
namespace Go.Proofs.Ytffikfajljbmnaa
open Go.RowKit
def anc_compare_table_api_Row__s0_0 : List (List Nat) := [[], [], [0, 1], [0, 1, 2], [], [], [], [5, 6], [5, 6, 7], [], [9], [5, 6, 7, 8, 9, 10], [5, 6, 7, 8, 9, 10, 11], [], [], [], [14, 15], [14, 15, 16], [13, 14, 15, 16, 17], [5, 6, 7, 8, 9, 10, 11, 12, 13, 14, 15, 16, 17, 18], [0, 1, 2, 3, 4, 5, 6, 7, 8, 9, 10, 11, 12, 13, 14, 15, 16, 17, 18, 19], [0, 1, 2, 3, 4, 5, 6, 7, 8, 9, 10, 11, 12, 13, 14, 15, 16, 17, 18, 19, 20]]
def anc_compare_table_api_Row__s0_1 : List (List Nat) := [[], [], [0, 1], [0, 1, 2], [], [], [], [6], [5, 6, 7], [5, 6, 7, 8], [], [5, 6, 7, 8, 9, 10], [5, 6, 7, 8, 9, 10, 11], [], [], [], [14, 15], [14, 15, 16], [13, 14, 15, 16, 17], [5, 6, 7, 8, 9, 10, 11, 12, 13, 14, 15, 16, 17, 18], [0, 1, 2, 3, 4, 5, 6, 7, 8, 9, 10, 11, 12, 13, 14, 15, 16, 17, 18, 19], [0, 1, 2, 3, 4, 5, 6, 7, 8, 9, 10, 11, 12, 13, 14, 15, 16, 17, 18, 19, 20]]
def anc_compare_table_api_Row__s0_2 : List (List Nat) := [[], [], [0, 1], [0, 1, 2], [], [], [], [6], [5, 6, 7], [5, 6, 7, 8], [], [5, 6, 7, 8, 9, 10], [5, 6, 7, 8, 9, 10, 11], [], [], [], [14, 15], [14, 15, 16], [13, 14, 15, 16, 17], [5, 6, 7, 8, 9, 10, 11, 12, 13, 14, 15, 16, 17, 18], [], [], [20, 21], [20, 21, 22], [], [24], [20, 21, 22, 23, 24, 25], [20, 21, 22, 23, 24, 25, 26], [], [], [], [29, 30], [29, 30, 31], [13, 14, 15, 16, 17, 18, 28, 29, 30, 31, 32], [13, 14, 15, 16, 17, 18, 20, 21, 22, 23, 24, 25, 26, 27, 28, 29, 30, 31, 32, 33], [], [], [36], [35, 36, 37], [35, 36, 37, 38], [], [40], [35, 36, 37, 38, 39, 40, 41], [35, 36, 37, 38, 39, 40, 41, 42], [], [], [], [45, 46], [45, 46, 47], [], [], [49, 50], [49, 50, 51], [13, 14, 15, 16, 17, 18, 28, 29, 30, 31, 32, 33, 44, 45, 46, 47, 48, 49, 50, 51, 52], [13, 14, 15, 16, 17, 18, 28, 29, 30, 31, 32, 33, 35, 36, 37, 38, 39, 40, 41, 42, 43, 44, 45, 46, 47, 48, 49, 50, 51, 52, 53], [5, 6, 7, 8, 9, 10, 11, 12, 13, 14, 15, 16, 17, 18, 19, 20, 21, 22, 23, 24, 25, 26, 27, 28, 29, 30, 31, 32, 33, 34, 35, 36, 37, 38, 39, 40, 41, 42, 43, 44, 45, 46, 47, 48, 49, 50, 51, 52, 53, 54], [0, 1, 2, 3, 4, 5, 6, 7, 8, 9, 10, 11, 12, 13, 14, 15, 16, 17, 18, 19, 20, 21, 22, 23, 24, 25, 26, 27, 28, 29, 30, 31, 32, 33, 34, 35, 36, 37, 38, 39, 40, 41, 42, 43, 44, 45, 46, 47, 48, 49, 50, 51, 52, 53, 54, 55], [0, 1, 2, 3, 4, 5, 6, 7, 8, 9, 10, 11, 12, 13, 14, 15, 16, 17, 18, 19, 20, 21, 22, 23, 24, 25, 26, 27, 28, 29, 30, 31, 32, 33, 34, 35, 36, 37, 38, 39, 40, 41, 42, 43, 44, 45, 46, 47, 48, 49, 50, 51, 52, 53, 54, 55, 56]]
noncomputable def compare_table_api_Row__s0_l1 (s16 : Int) (p0 : (List api_Row)) (p1 : (List api_Row)) (s15 : List (List Int)) : (Int × List Int) → Option ((Int × List Int) ⊕ List Int) := fun s0 => match s0 with
 | (s40, s41) =>
  if decide (0 ≤ s40) then
   Option.bind (α := List Int) (
    Option.bind (α := Bool) (
     if s16 == (p0.length : Int) then
      some (s40 == (p1.length : Int))
     else
      some false) fun o52 =>
    if o52 then
     some s41
    else
     if s16 == (p0.length : Int) then
      Option.bind (idxO s41 (w64 (s40 + 1))) fun x65 =>
      Option.bind (idxO p1 s40) fun x70 =>
      Option.bind (F_compare_Charts_1 x70) fun r79 =>
      Option.bind (idxO s41 s40) fun x81 =>
      Option.bind (setO s41 s40 (w64 (x65 + r79))) fun l86 =>
      some l86
     else
      if s40 == (p1.length : Int) then
       Option.bind (idxO s15 (w64 (s16 + 1))) fun x112 =>
       Option.bind (idxO x112 s40) fun x120 =>
       Option.bind (idxO p0 s16) fun x125 =>
       Option.bind (F_compare_Charts_1 x125) fun r134 =>
       Option.bind (idxO s41 s40) fun x136 =>
       Option.bind (setO s41 s40 (w64 (x120 + r134))) fun l141 =>
       some l141
      else
       Option.bind (idxO s15 (w64 (s16 + 1))) fun x168 =>
       Option.bind (idxO x168 s40) fun x176 =>
       Option.bind (idxO p0 s16) fun x181 =>
       Option.bind (F_compare_Charts_1 x181) fun r190 =>
       Option.bind (idxO s41 (w64 (s40 + 1))) fun x195 =>
       Option.bind (idxO p1 s40) fun x200 =>
       Option.bind (F_compare_Charts_1 x200) fun r209 =>
       Option.bind (idxO x168 (w64 (s40 + 1))) fun x217 =>
       Option.bind (F_compare_Charts_2 x181 x200) fun r236 =>
       Option.bind (idxO s41 s40) fun x238 =>
       Option.bind (setO s41 s40 (min3 (w64 (x176 + r190)) (w64 (x195 + r209)) (w64 (x217 + r236)))) fun l243 =>
       some l243) fun o49 =>
   some (.inl (w64 (s40 - 1), o49))
  else
   some (.inr s41)
noncomputable def compare_table_api_Row__s0_l2 (p1 : (List api_Row)) (p0 : (List api_Row)) : (List (List Int) × Int) → Option ((List (List Int) × Int) ⊕ List (List Int)) := fun s0 => match s0 with
 | (s15, s16) =>
  if decide (0 ≤ s16) then
   Option.bind (α := List Int) (
    Option.bind (makeO (w64 ((p1.length : Int) + 1)) (0 : Int)) fun m32 =>
    Option.bind (idxO s15 s16) fun x34 =>
    Option.bind (whileO (compare_table_api_Row__s0_l1 s16 p0 p1 s15) ((p1.length : Int), m32)) fun e45 =>
     some e45) fun o24 =>
   some (.inl ((s15.set (s16).toNat o24), w64 (s16 - 1)))
  else
   some (.inr s15)
noncomputable def F_compare_table_api_Row__s0 (p0 : (List api_Row)) (p1 : (List api_Row)) : Option (List (List Int)) :=
 Option.bind (makeO (w64 ((p0.length : Int) + 1)) ([] : (List Int))) fun m9 =>
 Option.bind (α := List (List Int)) (
  Option.bind (whileO (compare_table_api_Row__s0_l2 p1 p0) (m9, (p0.length : Int))) fun e20 =>
   some e20) fun o11 =>
 some o11
def c_compare_table_api_Row__s0_val (r : (List (List Int))) (x : Value) : Value := x
def c_compare_table_api_Row__s0_D (r : (List (List Int))) (x : Value) : List Fact := [fRep (rL (rL (rI .i64))) x r]
set_option maxHeartbeats 4000000 in
set_option maxRecDepth 100000 in
theorem c_compare_table_api_Row__s0 (E : Nat → Prop) (w0 : World) (p0 : (List api_Row)) (v0 : Value) (p1 : (List api_Row)) (v1 : Value) (r : (List (List Int))) (h : F_compare_table_api_Row__s0 p0 p1 = some r) (S : St0 E [] w0 w0 [] [fRep (rL r_api_Row) (v0) p0, fRep (rL r_api_Row) (v1) p1]) :
 Calls Try.prog 51 #[v0, v1, .func (.func 52) #[] #[], .func (.func 53) #[] #[]] w0 (Ret (X := Value) E [] w0 (c_compare_table_api_Row__s0_val r) (fun _ => []) (c_compare_table_api_Row__s0_D r)) := by
 unfold F_compare_table_api_Row__s0 at h
 obtain ⟨ad1, cp2, _, rfl, _⟩ := S.know (i := 0) (e := fRep (rL r_api_Row) (v0) p0) rfl
 obtain ⟨ad3, cp4, _, rfl, _⟩ := S.know (i := 1) (e := fRep (rL r_api_Row) (v1) p1) rfl
 refine sEnter (args := [.slice ad1 p0.length cp2, .slice ad3 p1.length cp4, .func (.func 52) #[] #[], .func (.func 53) #[] #[]]) 156 Try.func51 rfl rfl (by simp) S (fun a S => ?_)
 refine sSeq (fun K5 hK5 => ?_)
 refine sRegion ?_
 refine sMa S rfl rfl rfl rfl rfl fun a S => ?_
 refine lT (hK5 _ _ ?_)
 refine sSeq (fun K6 hK6 => ?_)
 refine sRegion ?_
 refine sMm S rfl rfl rfl rfl rfl fun a S => ?_
 refine sLen S (wN rfl) rfl Try.underlying40 rfl rfl (lb rfl) fun a S => ?_
 refine sBin _ S (wN rfl) rfl rfl rfl (bAdd _ _ _ _ (p0.length : Int) 1) rfl (lb rfl) fun a S => ?_
 obtain ⟨m9, hx10, h⟩ := bindSome h
 refine sMake (r := (rL (rI .i64))) (m := w64 ((p0.length : Int) + 1)) (xs := m9) (.slice none 0 0) ([] : (List Int)) 24 S (wN rfl) rfl Try.underlying98 rfl rfl (by decide) (fun E w => rL_nil _ E w) rfl rfl hx10 rfl (lb rfl) fun a w ad7 cp8 S => ?_
 refine sMa S rfl rfl rfl rfl rfl fun a S => ?_
 refine lT (hK6 _ _ ?_)
 obtain ⟨t12, h, g13⟩ := bindSome h
 refine sCut (fun a w => ∃ o11, o11 = t12 ∧ St [] E [] w0 156 a w [(9, .slice ad7 o11.length cp8)] [eRow (rL (rI .i64)) 101 (.slice ad7 o11.length cp8) o11] []) ?_ (fun a w hI => ?_)
 rotate_left
 ·obtain ⟨o11, rfl, S⟩ := hI
  have h := g13
  clear g13
  try dsimp only at h
  refine sSeq (fun K318 hK318 => ?_)
  refine sRegion ?_
  refine sMm S rfl rfl rfl rfl rfl fun a S => ?_
  refine sMa S rfl rfl rfl rfl rfl fun a S => ?_
  refine lT (hK318 _ _ ?_)
  obtain rfl := Option.some.inj h
  have S := S.shutR (r := (rL (rI .i64))) (T := 101) (v := .slice ad7 o11.length cp8) (xs := o11) 0 rfl
  exact wp_ret (sRet (.slice ad7 o11.length cp8) S (rsl1 rfl (rvT (t := 8) (v := .slice ad7 o11.length cp8) S rfl)) ⟨(.slice ad7 o11.length cp8), rfl, S.mem.sel [] [0] (by decide) rfl rfl⟩)
 refine sSeq (fun K14 hK14 => ?_)
 refine sRegion ?_
 refine sMm S rfl rfl rfl rfl rfl fun a S => ?_
 refine sLen S (wN rfl) rfl Try.underlying40 rfl rfl (lb rfl) fun a S => ?_
 refine sMa S rfl rfl rfl rfl rfl fun a S => ?_
 refine lT (hK14 _ _ ?_)
 refine wp_block ?_
 obtain ⟨t19, hl, g18⟩ := bindSome h
 refine sLoop hl (fun s0 a w => match s0 with | (s15, s16) => St [] E [] w0 156 a w [(0, .slice ad1 p0.length cp2), (1, .slice ad3 p1.length cp4), (2, .func (.func 52) #[] #[]), (3, .func (.func 53) #[] #[]), (9, .slice ad7 s15.length cp8), (10, iv s16)] [eRow (rL (rI .i64)) 101 (.slice ad7 s15.length cp8) s15] [fRep (rL r_api_Row) (.slice ad1 p0.length cp2) p0, fRep (rL r_api_Row) (.slice ad3 p1.length cp4) p1]) (S.fix [0] [0, 1] (by decide) rfl rfl rfl) ?_
 clear hl h
 intro s0 a w c0 hI h hu17
 obtain ⟨s15, s16⟩ := s0
 unfold compare_table_api_Row__s0_l2 at h
 dsimp only at h hI
 have S := hI
 refine sSeq (fun K21 hK21 => ?_)
 refine sSeq (fun K22 hK22 => ?_)
 refine sRegion ?_
 refine sMm S rfl rfl rfl rfl rfl fun a S => ?_
 refine sBin _ S (wN rfl) rfl rfl rfl (bGe _ _ _ _ .i64 s16 0) rfl (lb rfl) fun a S => ?_
 refine lT (hK22 _ _ ?_)
 rcases iteSome h with ⟨hc23, h⟩ | ⟨hc23, h⟩
 rotate_left
 ·refine sCondF S rfl hc23 ?_
  obtain rfl := Option.some.inj h
  obtain rfl := hu17 _ rfl
  have h := g18
  clear g18
  try dsimp only at h
  exact wp_exit (xThen (xThen (xHit (leafT (⟨s15, Option.some.inj h, S.fix [0] [] (by decide) rfl rfl rfl⟩)))))
 refine sCondT S rfl hc23 ?_
 refine wp_skip (leafT (hK21 _ _ ?_))
 obtain ⟨t27, h, g28⟩ := bindSome h
 refine sCut (fun a w => ∃ o24, o24 = t27 ∧ ∃ ad25, ∃ cp26, St [] E [] w0 156 a w [(0, .slice ad1 p0.length cp2), (1, .slice ad3 p1.length cp4), (2, .func (.func 52) #[] #[]), (3, .func (.func 53) #[] #[]), (9, .slice ad7 s15.length cp8), (10, iv s16)] [eHole (rL (rI .i64)) 101 (.slice ad7 s15.length cp8) s15 ((s16).toNat * (rL (rI .i64)).sz + 0) (.slice ad25 o24.length cp26), eRow (rI .i64) 3 (.slice ad25 o24.length cp26) o24] [fRep (rL r_api_Row) (.slice ad1 p0.length cp2) p0, fRep (rL r_api_Row) (.slice ad3 p1.length cp4) p1]) ?_ (fun a w hI => ?_)
 rotate_left
 ·obtain ⟨o24, rfl, ad25, cp26, S⟩ := hI
  have h := g28
  clear g28
  try dsimp only at h
  refine sRegion ?_
  refine sMm S rfl rfl rfl rfl rfl fun a S => ?_
  refine sBin _ S (wN rfl) rfl rfl rfl (bSub _ _ _ _ s16 1) rfl (lb rfl) fun a S => ?_
  refine sMa S rfl rfl rfl rfl rfl fun a S => ?_
  have S := S.shutR (r := (rI .i64)) (T := 3) (v := .slice ad25 o24.length cp26) (xs := o24) 1 rfl
  have S := S.closeHN (r := (rL (rI .i64))) (T := 101) (xs := s15) (y := o24) (v := .slice ad7 s15.length cp8) (u := .slice ad25 o24.length cp26) (j := s16) 0 rfl (S.mem.know (i := 0) (e := fRep (rL (rI .i64)) (.slice ad25 o24.length cp26) o24) rfl) rfl (scal_L _)
  rw [set_v s15 (s16).toNat o24 ad7 cp8] at S
  exact lT (⟨((s15.set (s16).toNat o24), w64 (s16 - 1)), (Option.some.inj h).symm, (S.fix [0] [1, 2] (by decide) rfl rfl rfl)⟩)
 refine wp_block ?_
 refine sSeq (fun K29 hK29 => ?_)
 refine sRegion ?_
 refine sMm S rfl rfl rfl rfl rfl fun a S => ?_
 refine sMm S rfl rfl rfl rfl rfl fun a S => ?_
 refine sMm S rfl rfl rfl rfl rfl fun a S => ?_
 refine sLen S (wN rfl) rfl Try.underlying40 rfl rfl (lb rfl) fun a S => ?_
 refine sBin _ S (wN rfl) rfl rfl rfl (bAdd _ _ _ _ (p1.length : Int) 1) rfl (lb rfl) fun a S => ?_
 obtain ⟨m32, hx33, h⟩ := bindSome h
 refine sMake (r := (rI .i64)) (m := w64 ((p1.length : Int) + 1)) (xs := m32) (iv 0) (0 : Int) 8 S (wN rfl) rfl Try.underlying101 rfl rfl (by decide) (fun _ _ => rfl) rfl rfl hx33 rfl (lb rfl) fun a w ad30 cp31 S => ?_
 obtain ⟨x34, hx35, h⟩ := bindSome h
 obtain ⟨q36, hq37, hp38⟩ := pIdxR (P := Try.prog) (r := (rL (rI .i64))) (T := 101) (v := .slice ad7 s15.length cp8) (xs := s15) (j := s16) 98 101 1 S Try.underlying98 rfl rfl hx35
 refine sIdxV S (wN rfl) rfl rfl rfl hq37 rfl (lb rfl) fun a S => ?_
 refine sStoreHE (r := (rL (rI .i64))) (T := 101) (xs := s15) (x := x34) (v := .slice ad7 s15.length cp8) (vq := q36) (u := .slice ad30 m32.length cp31) (j := s16) 1 S hp38 (wN rfl) rfl rfl rfl rfl hx35 rfl rfl rfl rfl fun a w S => ?_
 refine lT (hK29 _ _ ?_)
 refine sSeq (fun K39 hK39 => ?_)
 refine sRegion ?_
 refine sMm S rfl rfl rfl rfl rfl fun a S => ?_
 refine sLen S (wN rfl) rfl Try.underlying40 rfl rfl (lb rfl) fun a S => ?_
 refine sMa S rfl rfl rfl rfl rfl fun a S => ?_
 refine lT (hK39 _ _ ?_)
 refine wp_block ?_
 obtain ⟨t44, hl, g43⟩ := bindSome h
 refine sLoop hl (fun s0 a w => match s0 with | (s40, s41) => St [] E [] w0 156 a w [(0, .slice ad1 p0.length cp2), (1, .slice ad3 p1.length cp4), (2, .func (.func 52) #[] #[]), (3, .func (.func 53) #[] #[]), (9, .slice ad7 s15.length cp8), (10, iv s16), (11, iv s40)] [eHole (rL (rI .i64)) 101 (.slice ad7 s15.length cp8) s15 ((s16).toNat * (rL (rI .i64)).sz + 0) (.slice ad30 s41.length cp31), eRow (rI .i64) 3 (.slice ad30 s41.length cp31) s41] [fRep (rL r_api_Row) (.slice ad1 p0.length cp2) p0, fRep (rL r_api_Row) (.slice ad3 p1.length cp4) p1]) (S.fix [0, 1] [0, 1] (by decide) rfl rfl rfl) ?_
 clear hl h
 intro s0 a w c0 hI h hu42
 obtain ⟨s40, s41⟩ := s0
 unfold compare_table_api_Row__s0_l1 at h
 dsimp only at h hI
 have S := hI
 refine sSeq (fun K46 hK46 => ?_)
 refine sSeq (fun K47 hK47 => ?_)
 refine sRegion ?_
 refine sMm S rfl rfl rfl rfl rfl fun a S => ?_
 refine sBin _ S (wN rfl) rfl rfl rfl (bGe _ _ _ _ .i64 s40 0) rfl (lb rfl) fun a S => ?_
 refine lT (hK47 _ _ ?_)
 rcases iteSome h with ⟨hc48, h⟩ | ⟨hc48, h⟩
 rotate_left
 ·refine sCondF S rfl hc48 ?_
  obtain rfl := Option.some.inj h
  obtain rfl := hu42 _ rfl
  have h := g43
  clear g43
  try dsimp only at h
  exact wp_exit (xThen (xThen (xHit (leafB (leafT (⟨s41, Option.some.inj h, ad30, cp31, S.fix [0, 1] [0, 1] (by decide) rfl rfl rfl⟩))))))
 refine sCondT S rfl hc48 ?_
 refine wp_skip (leafT (hK46 _ _ ?_))
 obtain ⟨t50, h, g51⟩ := bindSome h
 refine sCut (fun a w => ∃ o49, o49 = t50 ∧ St [] E [] w0 156 a w [(0, .slice ad1 p0.length cp2), (1, .slice ad3 p1.length cp4), (2, .func (.func 52) #[] #[]), (3, .func (.func 53) #[] #[]), (9, .slice ad7 s15.length cp8), (10, iv s16), (11, iv s40)] [eHole (rL (rI .i64)) 101 (.slice ad7 s15.length cp8) s15 ((s16).toNat * (rL (rI .i64)).sz + 0) (.slice ad30 o49.length cp31), eRow (rI .i64) 3 (.slice ad30 o49.length cp31) o49] [fRep (rL r_api_Row) (.slice ad1 p0.length cp2) p0, fRep (rL r_api_Row) (.slice ad3 p1.length cp4) p1]) ?_ (fun a w hI => ?_)
 rotate_left
 ·obtain ⟨o49, rfl, S⟩ := hI
  have h := g51
  clear g51
  try dsimp only at h
  refine sRegion ?_
  refine sMm S rfl rfl rfl rfl rfl fun a S => ?_
  refine sBin _ S (wN rfl) rfl rfl rfl (bSub _ _ _ _ s40 1) rfl (lb rfl) fun a S => ?_
  refine sMa S rfl rfl rfl rfl rfl fun a S => ?_
  exact lT (⟨(w64 (s40 - 1), o49), (Option.some.inj h).symm, (S.fix [0, 1] [0, 1] (by decide) rfl rfl rfl)⟩)
 refine wp_block ?_
 refine wp_block ?_
 obtain ⟨t53, h, g54⟩ := bindSome h
 refine sCut (fun a w => ∃ o52, o52 = t53 ∧ St [] E [] w0 156 a w [(0, .slice ad1 p0.length cp2), (1, .slice ad3 p1.length cp4), (2, .func (.func 52) #[] #[]), (3, .func (.func 53) #[] #[]), (9, .slice ad7 s15.length cp8), (10, iv s16), (11, iv s40), (92, .bool o52)] [eHole (rL (rI .i64)) 101 (.slice ad7 s15.length cp8) s15 ((s16).toNat * (rL (rI .i64)).sz + 0) (.slice ad30 s41.length cp31), eRow (rI .i64) 3 (.slice ad30 s41.length cp31) s41] [fRep (rL r_api_Row) (.slice ad1 p0.length cp2) p0, fRep (rL r_api_Row) (.slice ad3 p1.length cp4) p1]) ?_ (fun a w hI => ?_)
 ·refine sRegion ?_
  refine sMm S rfl rfl rfl rfl rfl fun a S => ?_
  refine sMm S rfl rfl rfl rfl rfl fun a S => ?_
  refine sLen S (wN rfl) rfl Try.underlying40 rfl rfl (lb rfl) fun a S => ?_
  refine sBin _ S (wN rfl) rfl rfl rfl (bEq _ _ _ _ .i64 s16 (p0.length : Int)) rfl (lb rfl) fun a S => ?_
  refine sMm S rfl rfl rfl rfl rfl fun a S => ?_
  rcases iteSome h with ⟨hc55, h⟩ | ⟨hc55, h⟩
  rotate_left
  ·refine sSkN 4 4 true 97 S rfl rfl hc55 rfl fun a S => ?_
   refine sPickF (.bool false) S (wN rfl) rfl rfl hc55 rfl rfl (lb rfl) fun a S => ?_
   refine sMa S rfl rfl rfl rfl rfl fun a S => ?_
   exact lT (⟨false, Option.some.inj h, S.fix [0, 1] [0, 1] (by decide) rfl rfl rfl⟩)
  refine sMove (iv s40) S (wG 4 true 97 rfl rfl rfl hc55) (.inl rfl) rfl rfl (lb rfl) fun a S => ?_
  refine sMove (.slice ad3 p1.length cp4) S (wG 4 true 97 rfl rfl rfl hc55) (.inl rfl) rfl rfl (lb rfl) fun a S => ?_
  refine sLen S (wG 4 true 97 rfl rfl rfl hc55) rfl Try.underlying40 rfl rfl (lb rfl) fun a S => ?_
  refine sBin _ S (wG 4 true 97 rfl rfl rfl hc55) rfl rfl rfl (bEq _ _ _ _ .i64 s40 (p1.length : Int)) rfl (lb rfl) fun a S => ?_
  refine sPickT (.bool (s40 == (p1.length : Int))) S (wN rfl) rfl rfl hc55 rfl rfl (lb rfl) fun a S => ?_
  refine sMa S rfl rfl rfl rfl rfl fun a S => ?_
  exact lT (⟨s40 == (p1.length : Int), Option.some.inj h, S.fix [0, 1] [0, 1] (by decide) rfl rfl rfl⟩)
 obtain ⟨o52, rfl, S⟩ := hI
 have h := g54
 clear g54
 try dsimp only at h
 rcases iteSome h with ⟨hc56, h⟩ | ⟨hc56, h⟩
 ·refine sCondT S rfl hc56 ?_
  exact wp_skip (leafB (leafB (leafT (⟨s41, Option.some.inj h, S.fix [0, 1] [0, 1] (by decide) rfl rfl rfl⟩))))
 refine sCondF S rfl hc56 ?_
 refine sSeq (fun K57 hK57 => ?_)
 refine sRegion ?_
 refine sMm S rfl rfl rfl rfl rfl fun a S => ?_
 refine sMm S rfl rfl rfl rfl rfl fun a S => ?_
 refine sLen S (wN rfl) rfl Try.underlying40 rfl rfl (lb rfl) fun a S => ?_
 refine sBin _ S (wN rfl) rfl rfl rfl (bEq _ _ _ _ .i64 s16 (p0.length : Int)) rfl (lb rfl) fun a S => ?_
 refine sMa S rfl rfl rfl rfl rfl fun a S => ?_
 refine lT (hK57 _ _ ?_)
 rcases iteSome h with ⟨hc58, h⟩ | ⟨hc58, h⟩
 ·refine sCondT S rfl hc58 ?_
  obtain ⟨x65, hx66, h⟩ := bindSome h
  obtain ⟨x70, hx71, h⟩ := bindSome h
  obtain ⟨r79, hx80, h⟩ := bindSome h
  obtain ⟨x81, hx82, h⟩ := bindSome h
  obtain ⟨l86, hx87, h⟩ := bindSome h
  obtain ⟨q88, hq89, hp90⟩ := pIdxH (P := Try.prog) (r := (rL (rI .i64))) (T := 101) (v := .slice ad7 s15.length cp8) (xs := s15) (j := s16) 98 101 0 S Try.underlying98 rfl rfl hx35
  obtain ⟨q91, hq92, hp93⟩ := pIdxH (P := Try.prog) (r := (rL (rI .i64))) (T := 101) (v := .slice ad7 s15.length cp8) (xs := s15) (j := s16) 98 101 0 S Try.underlying98 rfl rfl hx35
  obtain ⟨q94, hq95, hp96⟩ := pIdxR (P := Try.prog) (r := (rI .i64)) (T := 3) (v := .slice ad30 s41.length cp31) (xs := s41) (j := w64 (s40 + 1)) 101 3 1 S Try.underlying101 rfl rfl hx66
  obtain ⟨q97, hq98, S⟩ := pIdx (P := Try.prog) (r := r_api_Row) (v := .slice ad3 p1.length cp4) (xs := p1) (j := s40) 40 87 1 S Try.underlying40 rfl rfl hx71
  obtain ⟨u99, S⟩ := pLoad (r := r_api_Row) (q := q97) (x := x70) 0 S rfl
  obtain ⟨u100, rfl, hu101⟩ := S.mem.know (i := 1) (e := fRep r_api_Row (u99) x70) rfl
  have S := S.learn (fRep (rL r_api_Stitch) u100 x70.Cells) hu101
  obtain ⟨ad102, cp103, _, rfl, _⟩ := hu101
  obtain ⟨q104, hq105, hp106⟩ := pIdxR (P := Try.prog) (r := (rI .i64)) (T := 3) (v := .slice ad30 s41.length cp31) (xs := s41) (j := s40) 101 3 1 S Try.underlying101 rfl rfl hx82
  refine sDraw (nf := [21]) (W := [(0, 108, .slice ad7 s15.length cp8), (1, 109, iv s16), (2, 110, q88), (3, 111, .slice ad30 s41.length cp31), (4, 112, iv s40), (5, 113, .slice ad7 s15.length cp8), (6, 114, iv s16), (7, 115, q91), (8, 116, .slice ad30 s41.length cp31), (9, 117, iv s40), (10, 118, iv (w64 (s40 + 1))), (11, 119, q94), (12, 120, iv x65), (13, 121, .func (.func 52) #[] #[]), (14, 122, .slice ad3 p1.length cp4), (15, 123, iv s40), (16, 124, q97), (17, 125, .agg #[.bool x70.Back, .slice ad102 x70.Cells.length cp103]), (18, 126, iv r79), (19, 127, iv (w64 (x65 + r79))), (20, 128, q104)]) rfl S ?_
  refine node_by (A := anc_compare_table_api_Row__s0_0) 22 (by kernel_rfl) (by kernel_rfl) (by kernel_rfl) (by kernel_rfl) (by kernel_rfl) [0, 1, 2, 3, 4, 5, 6, 7, 8, 9, 10, 11, 12, 13, 14, 15, 16, 17, 18, 19, 20] (by kernel_rfl) (by decide) (by decide) (fF ?_ (fF ?_ (fF ?_ (fF ?_ (fF ?_ (fF ?_ (fF ?_ (fF ?_ (fF ?_ (fF ?_ (fF ?_ (fF ?_ (fF ?_ (fF ?_ (fF ?_ (fF ?_ (fF ?_ (fF ?_ (fF ?_ (fF ?_ (fF ?_ (fN ?_ (trivial))))))))))))))))))))))) [] (fun q hq => by cases hq) (fun hY => absurd (hY 21 (by decide)) (by decide))
  ·exact fM 0 none rfl rfl rfl rfl (.inl rfl) rfl rfl rfl
  ·exact fM 1 none rfl rfl rfl rfl (.inl rfl) rfl rfl rfl
  ·refine fJ [(108, _), (109, _)] 2 [some 0, some 1] fun G a w S => ?_
   exact sIdxV S (wN rfl) rfl rfl rfl hq89 rfl (lb rfl) fun a S => leafL ⟨rfl, S⟩
  ·refine fJ [(110, _)] 3 [some 2] fun G a w S => ?_
   exact sLoadHE (r := (rL (rI .i64))) (T := 101) (xs := s15) (u := .slice ad30 s41.length cp31) (v := .slice ad7 s15.length cp8) (vq := q88) (j := s16) 0 S hp90 (wN rfl) rfl rfl rfl rfl rfl (lb rfl) fun a S => leafL ⟨rfl, S⟩
  ·exact fM 4 none rfl rfl rfl rfl (.inl rfl) rfl rfl rfl
  ·exact fM 5 none rfl rfl rfl rfl (.inl rfl) rfl rfl rfl
  ·exact fM 6 none rfl rfl rfl rfl (.inl rfl) rfl rfl rfl
  ·refine fJ [(113, _), (114, _)] 7 [some 5, some 6] fun G a w S => ?_
   exact sIdxV S (wN rfl) rfl rfl rfl hq92 rfl (lb rfl) fun a S => leafL ⟨rfl, S⟩
  ·refine fJ [(115, _)] 8 [some 7] fun G a w S => ?_
   exact sLoadHE (r := (rL (rI .i64))) (T := 101) (xs := s15) (u := .slice ad30 s41.length cp31) (v := .slice ad7 s15.length cp8) (vq := q91) (j := s16) 0 S hp93 (wN rfl) rfl rfl rfl rfl rfl (lb rfl) fun a S => leafL ⟨rfl, S⟩
  ·exact fM 9 none rfl rfl rfl rfl (.inl rfl) rfl rfl rfl
  ·refine fJ [(117, _)] 10 [some 9] fun G a w S => ?_
   exact sBin _ S (wN rfl) rfl rfl rfl (bAdd _ _ _ _ s40 1) rfl (lb rfl) fun a S => leafL ⟨rfl, S⟩
  ·refine fJ [(116, _), (118, _)] 11 [some 8, some 10] fun G a w S => ?_
   exact sIdxV S (wN rfl) rfl rfl rfl hq95 rfl (lb rfl) fun a S => leafL ⟨rfl, S⟩
  ·refine fJ [(119, _)] 12 [some 11] fun G a w S => ?_
   exact sLoadR (r := (rI .i64)) (T := 3) (xs := s41) (x := x65) (v := .slice ad30 s41.length cp31) (vq := q94) (j := w64 (s40 + 1)) 1 (iv x65) S hp96 (wN rfl) rfl rfl rfl hx66 (fun _ _ _ h => h) (scal_I _) rfl rfl (lb rfl) fun a S => leafL ⟨rfl, S⟩
  ·exact fM 13 none rfl rfl rfl rfl (.inl rfl) rfl rfl rfl
  ·exact fM 14 none rfl rfl rfl rfl (.inl rfl) rfl rfl rfl
  ·exact fM 15 none rfl rfl rfl rfl (.inl rfl) rfl rfl rfl
  ·refine fJ [(122, _), (123, _)] 16 [some 14, some 15] fun G a w S => ?_
   exact sIdxV S (wN rfl) rfl rfl rfl hq98 rfl (lb rfl) fun a S => leafL ⟨rfl, S⟩
  ·refine fJ [(124, _)] 17 [some 16] fun G a w S => ?_
   exact sLoadVN (vq := q97) 1 [.bool x70.Back, .slice ad102 x70.Cells.length cp103] S (wN rfl) rfl rfl rfl rfl rfl rfl (lb rfl) fun a S => leafL ⟨rfl, S⟩
  ·refine fJ [(121, _), (125, _)] 18 [some 13, some 17] fun G a w S => ?_
   have S1 := S.mem
   refine sCallVQ (X := Unit) (g := 52) (vs := [.agg #[.bool x70.Back, .slice ad102 x70.Cells.length cp103]]) (caps := []) (val := fun _ => iv r79) S (wN rfl) rfl rfl callee52 rfl (S1.quiet [2] rfl) (fun E1 w1 S1 => c_compare_Charts_1 E1 w1 x70 (.agg #[.bool x70.Back, .slice ad102 x70.Cells.length cp103]) r79 hx80 S1) rfl (lb rfl) fun _ a w S => ?_
   exact leafL ⟨rfl, S⟩
  ·refine fJ [(120, _), (126, _)] 19 [some 12, some 18] fun G a w S => ?_
   exact sBin _ S (wN rfl) rfl rfl rfl (bAdd _ _ _ _ x65 r79) rfl (lb rfl) fun a S => leafL ⟨rfl, S⟩
  ·refine fJ [(111, _), (112, _)] 20 [some 3, some 4] fun G a w S => ?_
   exact sIdxV S (wN rfl) rfl rfl rfl hq105 rfl (lb rfl) fun a S => leafL ⟨rfl, S⟩
  refine ⟨_, [(127, iv (w64 (x65 + r79))), (128, q104)], rfl, (srcs_of [some 19, some 20] rfl rfl rfl), fun G a w S => ?_⟩
  refine sStoreR (r := (rI .i64)) (T := 3) (xs := s41) (ys := l86) (y := (w64 (x65 + r79))) (v := .slice ad30 s41.length cp31) (vq := q104) (u := iv (w64 (x65 + r79))) (j := s40) 1 S hp106 (wN rfl) rfl rfl rfl rfl rfl hx87 rfl rfl fun a w S => ?_
  refine leafL ⟨rfl, _, _, .inr ⟨[], rfl, S, hz_of rfl, ?_⟩⟩
  refine node_by (A := anc_compare_table_api_Row__s0_0) 22 (by kernel_rfl) (by kernel_rfl) (by kernel_rfl) (by kernel_rfl) (by kernel_rfl) [0, 1, 2, 3, 4, 5, 6, 7, 8, 9, 10, 11, 12, 13, 14, 15, 16, 17, 18, 19, 20] (by kernel_rfl) (by decide) (by decide) (fD 21 (fD 21 (fD 21 (fD 21 (fD 21 (fD 21 (fD 21 (fD 21 (fD 21 (fD 21 (fD 21 (fD 21 (fD 21 (fD 21 (fD 21 (fD 21 (fD 21 (fD 21 (fD 21 (fD 21 (fD 21 (fY (trivial))))))))))))))))))))))) [(0, .slice ad1 p0.length cp2), (1, .slice ad3 p1.length cp4), (2, .func (.func 52) #[] #[]), (3, .func (.func 53) #[] #[]), (9, .slice ad7 s15.length cp8), (10, iv s16), (11, iv s40)] (fin_of [none, none, none, none, none, none, none] rfl (by kernel_rfl) (by kernel_rfl)) (fun _ a w S => ?_)
  rw [setO_v hx87 ad30 cp31] at S
  exact leafB (leafB (leafT (⟨l86, Option.some.inj h, S.fix [1, 0] [4, 5] (by decide) rfl rfl rfl⟩)))
 refine sCondF S rfl hc58 ?_
 refine sSeq (fun K107 hK107 => ?_)
 refine sRegion ?_
 refine sMm S rfl rfl rfl rfl rfl fun a S => ?_
 refine sMm S rfl rfl rfl rfl rfl fun a S => ?_
 refine sLen S (wN rfl) rfl Try.underlying40 rfl rfl (lb rfl) fun a S => ?_
 refine sBin _ S (wN rfl) rfl rfl rfl (bEq _ _ _ _ .i64 s40 (p1.length : Int)) rfl (lb rfl) fun a S => ?_
 refine sMa S rfl rfl rfl rfl rfl fun a S => ?_
 refine lT (hK107 _ _ ?_)
 rcases iteSome h with ⟨hc108, h⟩ | ⟨hc108, h⟩
 ·refine sCondT S rfl hc108 ?_
  obtain ⟨x112, hx113, h⟩ := bindSome h
  obtain ⟨x120, hx121, h⟩ := bindSome h
  obtain ⟨x125, hx126, h⟩ := bindSome h
  obtain ⟨r134, hx135, h⟩ := bindSome h
  obtain ⟨x136, hx137, h⟩ := bindSome h
  obtain ⟨l141, hx142, h⟩ := bindSome h
  obtain ⟨q143, hq144, hp145⟩ := pIdxH (P := Try.prog) (r := (rL (rI .i64))) (T := 101) (v := .slice ad7 s15.length cp8) (xs := s15) (j := s16) 98 101 0 S Try.underlying98 rfl rfl hx35
  obtain ⟨q146, hq147, hp148⟩ := pIdxH (P := Try.prog) (r := (rL (rI .i64))) (T := 101) (v := .slice ad7 s15.length cp8) (xs := s15) (j := w64 (s16 + 1)) 98 101 0 S Try.underlying98 rfl rfl hx113
  obtain ⟨q149, hq150, S⟩ := pIdx (P := Try.prog) (r := r_api_Row) (v := .slice ad1 p0.length cp2) (xs := p0) (j := s16) 40 87 0 S Try.underlying40 rfl rfl hx126
  obtain ⟨u151, S⟩ := pLoad (r := r_api_Row) (q := q149) (x := x125) 0 S rfl
  obtain ⟨u152, rfl, hu153⟩ := S.mem.know (i := 1) (e := fRep r_api_Row (u151) x125) rfl
  have S := S.learn (fRep (rL r_api_Stitch) u152 x125.Cells) hu153
  obtain ⟨ad154, cp155, _, rfl, _⟩ := hu153
  refine sDraw (nf := [9, 21]) (W := [(0, 134, .slice ad7 s15.length cp8), (1, 135, iv s16), (2, 136, q143), (3, 137, .slice ad30 s41.length cp31), (4, 138, iv s40), (5, 139, .slice ad7 s15.length cp8), (6, 140, iv s16), (7, 141, iv (w64 (s16 + 1))), (8, 142, q146), (10, 144, iv s40), (13, 147, .func (.func 52) #[] #[]), (14, 148, .slice ad1 p0.length cp2), (15, 149, iv s16), (16, 150, q149), (17, 151, .agg #[.bool x125.Back, .slice ad154 x125.Cells.length cp155]), (18, 152, iv r134)]) rfl S ?_
  refine node_by (A := anc_compare_table_api_Row__s0_1) 22 (by kernel_rfl) (by kernel_rfl) (by kernel_rfl) (by kernel_rfl) (by kernel_rfl) [0, 1, 2, 3, 4, 5, 6, 7, 8, 10, 13, 14, 15, 16, 17, 18] (by kernel_rfl) (by decide) (by decide) (fF ?_ (fF ?_ (fF ?_ (fF ?_ (fF ?_ (fF ?_ (fF ?_ (fF ?_ (fF ?_ (fN ?_ (fF ?_ (fE 9 (fE 9 (fF ?_ (fF ?_ (fF ?_ (fF ?_ (fF ?_ (fF ?_ (fE 9 (fE 9 (aB 21 0 9 (by decide) (trivial))))))))))))))))))))))) [] (fun q hq => by cases hq) (fun hY => absurd (hY 9 (by decide)) (by decide))
  ·exact fM 0 none rfl rfl rfl rfl (.inl rfl) rfl rfl rfl
  ·exact fM 1 none rfl rfl rfl rfl (.inl rfl) rfl rfl rfl
  ·refine fJ [(134, _), (135, _)] 2 [some 0, some 1] fun G a w S => ?_
   exact sIdxV S (wN rfl) rfl rfl rfl hq144 rfl (lb rfl) fun a S => leafL ⟨rfl, S⟩
  ·refine fJ [(136, _)] 3 [some 2] fun G a w S => ?_
   exact sLoadHE (r := (rL (rI .i64))) (T := 101) (xs := s15) (u := .slice ad30 s41.length cp31) (v := .slice ad7 s15.length cp8) (vq := q143) (j := s16) 0 S hp145 (wN rfl) rfl rfl rfl rfl rfl (lb rfl) fun a S => leafL ⟨rfl, S⟩
  ·exact fM 4 none rfl rfl rfl rfl (.inl rfl) rfl rfl rfl
  ·exact fM 5 none rfl rfl rfl rfl (.inl rfl) rfl rfl rfl
  ·exact fM 6 none rfl rfl rfl rfl (.inl rfl) rfl rfl rfl
  ·refine fJ [(140, _)] 7 [some 6] fun G a w S => ?_
   exact sBin _ S (wN rfl) rfl rfl rfl (bAdd _ _ _ _ s16 1) rfl (lb rfl) fun a S => leafL ⟨rfl, S⟩
  ·refine fJ [(139, _), (141, _)] 8 [some 5, some 7] fun G a w S => ?_
   exact sIdxV S (wN rfl) rfl rfl rfl hq147 rfl (lb rfl) fun a S => leafL ⟨rfl, S⟩
  ·refine ⟨_, [(142, q146)], rfl, (srcs_of [some 8] rfl rfl rfl), fun G a w S => ?_⟩
   refine sLoadHo (r := (rL (rI .i64))) (T := 101) (xs := s15) (x := x112) (p := (s16).toNat * (rL (rI .i64)).sz + 0) (u := .slice ad30 s41.length cp31) (v := .slice ad7 s15.length cp8) (vq := q146) (j := w64 (s16 + 1)) 0 S hp148 (wN rfl) rfl rfl rfl hx113 (idx_next (by decide) (hole_lim 0 S.mem rfl) hx35 hx113) (scal_L _) rfl rfl (lb rfl) fun a u156 S => ?_
   obtain ⟨ad157, cp158, _, rfl, _⟩ := S.mem.know (i := 0) (e := fRep (rL (rI .i64)) (u156) x112) rfl
   obtain ⟨q159, hq160, S⟩ := pIdx (P := Try.prog) (r := (rI .i64)) (v := .slice ad157 x112.length cp158) (xs := x112) (j := s40) 101 3 0 S Try.underlying101 rfl rfl hx121
   obtain ⟨u161, S⟩ := pLoad (r := (rI .i64)) (q := q159) (x := x120) 0 S rfl
   obtain rfl : u161 = iv x120 := S.mem.know (i := 1) (e := fRep (rI .i64) (u161) x120) rfl
   obtain ⟨q162, hq163, hp164⟩ := pIdxR (P := Try.prog) (r := (rI .i64)) (T := 3) (v := .slice ad30 s41.length cp31) (xs := s41) (j := s40) 101 3 1 S Try.underlying101 rfl rfl hx137
   refine leafL ⟨rfl, _, _, .inl ⟨143, (.slice ad157 x112.length cp158), [(11, 145, q159), (12, 146, iv x120), (19, 153, iv (w64 (x120 + r134))), (20, 154, q162)], rfl, S, hz_of rfl, ?_⟩⟩
   refine node_by (A := anc_compare_table_api_Row__s0_1) 22 (by kernel_rfl) (by kernel_rfl) (by kernel_rfl) (by kernel_rfl) (by kernel_rfl) [11, 12, 19, 20, 9, 0, 1, 2, 3, 4, 5, 6, 7, 8, 10, 13, 14, 15, 16, 17, 18] (by kernel_rfl) (by decide) (by decide) (fF ?_ (fF ?_ (fF ?_ (fF ?_ (fF ?_ (fD 9 (fD 9 (fD 9 (fD 9 (fY (fF ?_ (fF ?_ (fF ?_ (fF ?_ (fF ?_ (fF ?_ (fF ?_ (fF ?_ (fF ?_ (fF ?_ (fF ?_ (fN ?_ (trivial))))))))))))))))))))))) [] (fun q hq => by cases hq) (fun hY => absurd (hY 21 (by decide)) (by decide))
   ·exact fM 5 none rfl rfl rfl rfl (.inl rfl) rfl rfl rfl
   ·exact fM 6 none rfl rfl rfl rfl (.inl rfl) rfl rfl rfl
   ·refine fJ [(134, _), (135, _)] 7 [some 5, some 6] fun G a w S => ?_
    exact sIdxV S (wN rfl) rfl rfl rfl hq144 rfl (lb rfl) fun a S => leafL ⟨rfl, S⟩
   ·refine fJ [(136, _)] 8 [some 7] fun G a w S => ?_
    exact sLoadHE (r := (rL (rI .i64))) (T := 101) (xs := s15) (u := .slice ad30 s41.length cp31) (v := .slice ad7 s15.length cp8) (vq := q143) (j := s16) 0 S hp145 (wN rfl) rfl rfl rfl rfl rfl (lb rfl) fun a S => leafL ⟨rfl, S⟩
   ·exact fM 9 none rfl rfl rfl rfl (.inl rfl) rfl rfl rfl
   ·exact fM 14 none rfl rfl rfl rfl (.inl rfl) rfl rfl rfl
   ·refine fJ [(143, _), (144, _)] 0 [some 4, some 14] fun G a w S => ?_
    exact sIdxV S (wN rfl) rfl rfl rfl hq160 rfl (lb rfl) fun a S => leafL ⟨rfl, S⟩
   ·refine fJ [(145, _)] 1 [some 0] fun G a w S => ?_
    exact sLoadV1 (vq := q159) 0 (iv x120) S (wN rfl) rfl rfl rfl rfl rfl (lb rfl) fun a S => leafL ⟨rfl, S⟩
   ·exact fM 15 none rfl rfl rfl rfl (.inl rfl) rfl rfl rfl
   ·exact fM 16 none rfl rfl rfl rfl (.inl rfl) rfl rfl rfl
   ·exact fM 17 none rfl rfl rfl rfl (.inl rfl) rfl rfl rfl
   ·refine fJ [(148, _), (149, _)] 18 [some 16, some 17] fun G a w S => ?_
    exact sIdxV S (wN rfl) rfl rfl rfl hq150 rfl (lb rfl) fun a S => leafL ⟨rfl, S⟩
   ·refine fJ [(150, _)] 19 [some 18] fun G a w S => ?_
    exact sLoadVN (vq := q149) 5 [.bool x125.Back, .slice ad154 x125.Cells.length cp155] S (wN rfl) rfl rfl rfl rfl rfl rfl (lb rfl) fun a S => leafL ⟨rfl, S⟩
   ·refine fJ [(147, _), (151, _)] 20 [some 15, some 19] fun G a w S => ?_
    have S1 := S.mem
    refine sCallVQ (X := Unit) (g := 52) (vs := [.agg #[.bool x125.Back, .slice ad154 x125.Cells.length cp155]]) (caps := []) (val := fun _ => iv r134) S (wN rfl) rfl rfl callee52 rfl (S1.quiet [6] rfl) (fun E1 w1 S1 => c_compare_Charts_1 E1 w1 x125 (.agg #[.bool x125.Back, .slice ad154 x125.Cells.length cp155]) r134 hx135 S1) rfl (lb rfl) fun _ a w S => ?_
    exact leafL ⟨rfl, S⟩
   ·refine fJ [(146, _), (152, _)] 2 [some 1, some 20] fun G a w S => ?_
    exact sBin _ S (wN rfl) rfl rfl rfl (bAdd _ _ _ _ x120 r134) rfl (lb rfl) fun a S => leafL ⟨rfl, S⟩
   ·refine fJ [(137, _), (138, _)] 3 [some 8, some 9] fun G a w S => ?_
    exact sIdxV S (wN rfl) rfl rfl rfl hq163 rfl (lb rfl) fun a S => leafL ⟨rfl, S⟩
   refine ⟨_, [(153, iv (w64 (x120 + r134))), (154, q162)], rfl, (srcs_of [some 2, some 3] rfl rfl rfl), fun G a w S => ?_⟩
   refine sStoreR (r := (rI .i64)) (T := 3) (xs := s41) (ys := l141) (y := (w64 (x120 + r134))) (v := .slice ad30 s41.length cp31) (vq := q162) (u := iv (w64 (x120 + r134))) (j := s40) 1 S hp164 (wN rfl) rfl rfl rfl rfl rfl hx142 rfl rfl fun a w S => ?_
   refine leafL ⟨rfl, _, _, .inr ⟨[], rfl, S, hz_of rfl, ?_⟩⟩
   refine node_by (A := anc_compare_table_api_Row__s0_1) 22 (by kernel_rfl) (by kernel_rfl) (by kernel_rfl) (by kernel_rfl) (by kernel_rfl) [11, 12, 19, 20, 9, 0, 1, 2, 3, 4, 5, 6, 7, 8, 10, 13, 14, 15, 16, 17, 18] (by kernel_rfl) (by decide) (by decide) (fD 21 (fD 21 (fD 21 (fD 21 (fD 21 (fD 21 (fD 21 (fD 21 (fD 21 (fY (fD 21 (fD 21 (fD 21 (fD 21 (fD 21 (fD 21 (fD 21 (fD 21 (fD 21 (fD 21 (fD 21 (fY (trivial))))))))))))))))))))))) [(0, .slice ad1 p0.length cp2), (1, .slice ad3 p1.length cp4), (2, .func (.func 52) #[] #[]), (3, .func (.func 53) #[] #[]), (9, .slice ad7 s15.length cp8), (10, iv s16), (11, iv s40)] (fin_of [none, none, none, none, none, none, none] rfl (by kernel_rfl) (by kernel_rfl)) (fun _ a w S => ?_)
   rw [setO_v hx142 ad30 cp31] at S
   exact leafB (leafB (leafT (⟨l141, Option.some.inj h, S.fix [1, 0] [8, 9] (by decide) rfl rfl rfl⟩)))
  ·exact fM 9 none rfl rfl rfl rfl (.inl rfl) rfl rfl rfl
  ·exact fM 10 none rfl rfl rfl rfl (.inl rfl) rfl rfl rfl
  ·exact fM 11 none rfl rfl rfl rfl (.inl rfl) rfl rfl rfl
  ·exact fM 12 none rfl rfl rfl rfl (.inl rfl) rfl rfl rfl
  ·refine fJ [(148, _), (149, _)] 13 [some 11, some 12] fun G a w S => ?_
   exact sIdxV S (wN rfl) rfl rfl rfl hq150 rfl (lb rfl) fun a S => leafL ⟨rfl, S⟩
  ·refine fJ [(150, _)] 14 [some 13] fun G a w S => ?_
   exact sLoadVN (vq := q149) 1 [.bool x125.Back, .slice ad154 x125.Cells.length cp155] S (wN rfl) rfl rfl rfl rfl rfl rfl (lb rfl) fun a S => leafL ⟨rfl, S⟩
  refine fJ [(147, _), (151, _)] 15 [some 10, some 14] fun G a w S => ?_
  have S1 := S.mem
  refine sCallVQ (X := Unit) (g := 52) (vs := [.agg #[.bool x125.Back, .slice ad154 x125.Cells.length cp155]]) (caps := []) (val := fun _ => iv r134) S (wN rfl) rfl rfl callee52 rfl (S1.quiet [2] rfl) (fun E1 w1 S1 => c_compare_Charts_1 E1 w1 x125 (.agg #[.bool x125.Back, .slice ad154 x125.Cells.length cp155]) r134 hx135 S1) rfl (lb rfl) fun _ a w S => ?_
  exact leafL ⟨rfl, S⟩
 refine sCondF S rfl hc108 ?_
 obtain ⟨x168, hx169, h⟩ := bindSome h
 obtain ⟨x176, hx177, h⟩ := bindSome h
 obtain ⟨x181, hx182, h⟩ := bindSome h
 obtain ⟨r190, hx191, h⟩ := bindSome h
 obtain ⟨x195, hx196, h⟩ := bindSome h
 obtain ⟨x200, hx201, h⟩ := bindSome h
 obtain ⟨r209, hx210, h⟩ := bindSome h
 obtain ⟨x217, hx218, h⟩ := bindSome h
 obtain ⟨r236, hx237, h⟩ := bindSome h
 obtain ⟨x238, hx239, h⟩ := bindSome h
 obtain ⟨l243, hx244, h⟩ := bindSome h
 obtain ⟨q245, hq246, hp247⟩ := pIdxH (P := Try.prog) (r := (rL (rI .i64))) (T := 101) (v := .slice ad7 s15.length cp8) (xs := s15) (j := s16) 98 101 0 S Try.underlying98 rfl rfl hx35
 obtain ⟨q248, hq249, hp250⟩ := pIdxH (P := Try.prog) (r := (rL (rI .i64))) (T := 101) (v := .slice ad7 s15.length cp8) (xs := s15) (j := w64 (s16 + 1)) 98 101 0 S Try.underlying98 rfl rfl hx169
 obtain ⟨q251, hq252, S⟩ := pIdx (P := Try.prog) (r := r_api_Row) (v := .slice ad1 p0.length cp2) (xs := p0) (j := s16) 40 87 0 S Try.underlying40 rfl rfl hx182
 obtain ⟨u253, S⟩ := pLoad (r := r_api_Row) (q := q251) (x := x181) 0 S rfl
 obtain ⟨u254, rfl, hu255⟩ := S.mem.know (i := 1) (e := fRep r_api_Row (u253) x181) rfl
 have S := S.learn (fRep (rL r_api_Stitch) u254 x181.Cells) hu255
 obtain ⟨ad256, cp257, _, rfl, _⟩ := hu255
 obtain ⟨q258, hq259, hp260⟩ := pIdxH (P := Try.prog) (r := (rL (rI .i64))) (T := 101) (v := .slice ad7 s15.length cp8) (xs := s15) (j := s16) 98 101 0 S Try.underlying98 rfl rfl hx35
 obtain ⟨q261, hq262, hp263⟩ := pIdxR (P := Try.prog) (r := (rI .i64)) (T := 3) (v := .slice ad30 s41.length cp31) (xs := s41) (j := w64 (s40 + 1)) 101 3 1 S Try.underlying101 rfl rfl hx196
 obtain ⟨q264, hq265, S⟩ := pIdx (P := Try.prog) (r := r_api_Row) (v := .slice ad3 p1.length cp4) (xs := p1) (j := s40) 40 87 5 S Try.underlying40 rfl rfl hx201
 obtain ⟨u266, S⟩ := pLoad (r := r_api_Row) (q := q264) (x := x200) 0 S rfl
 obtain ⟨u267, rfl, hu268⟩ := S.mem.know (i := 1) (e := fRep r_api_Row (u266) x200) rfl
 have S := S.learn (fRep (rL r_api_Stitch) u267 x200.Cells) hu268
 obtain ⟨ad269, cp270, _, rfl, _⟩ := hu268
 obtain ⟨q271, hq272, hp273⟩ := pIdxH (P := Try.prog) (r := (rL (rI .i64))) (T := 101) (v := .slice ad7 s15.length cp8) (xs := s15) (j := w64 (s16 + 1)) 98 101 0 S Try.underlying98 rfl rfl hx169
 obtain ⟨q274, hq275, S⟩ := pIdx (P := Try.prog) (r := r_api_Row) (v := .slice ad1 p0.length cp2) (xs := p0) (j := s16) 40 87 8 S Try.underlying40 rfl rfl hx182
 obtain ⟨u276, S⟩ := pLoad (r := r_api_Row) (q := q274) (x := x181) 0 S rfl
 obtain ⟨u277, rfl, hu278⟩ := S.mem.know (i := 1) (e := fRep r_api_Row (u276) x181) rfl
 have S := S.learn (fRep (rL r_api_Stitch) u277 x181.Cells) hu278
 obtain ⟨ad279, cp280, _, rfl, _⟩ := hu278
 obtain ⟨q281, hq282, S⟩ := pIdx (P := Try.prog) (r := r_api_Row) (v := .slice ad3 p1.length cp4) (xs := p1) (j := s40) 40 87 13 S Try.underlying40 rfl rfl hx201
 obtain ⟨u283, S⟩ := pLoad (r := r_api_Row) (q := q281) (x := x200) 0 S rfl
 obtain ⟨u284, rfl, hu285⟩ := S.mem.know (i := 1) (e := fRep r_api_Row (u283) x200) rfl
 have S := S.learn (fRep (rL r_api_Stitch) u284 x200.Cells) hu285
 obtain ⟨ad286, cp287, _, rfl, _⟩ := hu285
 refine sDraw (nf := [9, 39, 57]) (W := [(0, 35, .slice ad7 s15.length cp8), (1, 36, iv s16), (2, 37, q245), (3, 38, .slice ad30 s41.length cp31), (4, 39, iv s40), (5, 40, .slice ad7 s15.length cp8), (6, 41, iv s16), (7, 42, iv (w64 (s16 + 1))), (8, 43, q248), (10, 45, iv s40), (13, 48, .func (.func 52) #[] #[]), (14, 49, .slice ad1 p0.length cp2), (15, 50, iv s16), (16, 51, q251), (17, 52, .agg #[.bool x181.Back, .slice ad256 x181.Cells.length cp257]), (18, 53, iv r190), (20, 55, .slice ad7 s15.length cp8), (21, 56, iv s16), (22, 57, q258), (23, 58, .slice ad30 s41.length cp31), (24, 59, iv s40), (25, 60, iv (w64 (s40 + 1))), (26, 61, q261), (27, 62, iv x195), (28, 63, .func (.func 52) #[] #[]), (29, 64, .slice ad3 p1.length cp4), (30, 65, iv s40), (31, 66, q264), (32, 67, .agg #[.bool x200.Back, .slice ad269 x200.Cells.length cp270]), (33, 68, iv r209), (34, 69, iv (w64 (x195 + r209))), (35, 70, .slice ad7 s15.length cp8), (36, 71, iv s16), (37, 72, iv (w64 (s16 + 1))), (38, 73, q271), (40, 75, iv s40), (41, 76, iv (w64 (s40 + 1))), (44, 79, .func (.func 53) #[] #[]), (45, 80, .slice ad1 p0.length cp2), (46, 81, iv s16), (47, 82, q274), (48, 83, .agg #[.bool x181.Back, .slice ad279 x181.Cells.length cp280]), (49, 84, .slice ad3 p1.length cp4), (50, 85, iv s40), (51, 86, q281), (52, 87, .agg #[.bool x200.Back, .slice ad286 x200.Cells.length cp287]), (53, 88, iv r236)]) rfl S ?_
 refine node_by (A := anc_compare_table_api_Row__s0_2) 58 (by kernel_rfl) (by kernel_rfl) (by kernel_rfl) (by kernel_rfl) (by kernel_rfl) [0, 1, 2, 3, 4, 5, 6, 7, 8, 10, 13, 14, 15, 16, 17, 18, 20, 21, 22, 23, 24, 25, 26, 27, 28, 29, 30, 31, 32, 33, 34, 35, 36, 37, 38, 40, 41, 44, 45, 46, 47, 48, 49, 50, 51, 52, 53] (by kernel_rfl) (by decide) (by decide) (fF ?_ (fF ?_ (fF ?_ (fF ?_ (fF ?_ (fF ?_ (fF ?_ (fF ?_ (fF ?_ (fN ?_ (fF ?_ (fE 9 (fE 9 (fF ?_ (fF ?_ (fF ?_ (fF ?_ (fF ?_ (fF ?_ (fE 9 (fF ?_ (fF ?_ (fF ?_ (fF ?_ (fF ?_ (fF ?_ (fF ?_ (fF ?_ (fF ?_ (fF ?_ (fF ?_ (fF ?_ (fF ?_ (fF ?_ (fF ?_ (fF ?_ (fF ?_ (fF ?_ (fF ?_ (fN ?_ (fF ?_ (fF ?_ (fE 39 (fE 39 (fF ?_ (fF ?_ (fF ?_ (fF ?_ (fF ?_ (fF ?_ (fF ?_ (fF ?_ (fF ?_ (fF ?_ (fE 39 (fE 9 (fE 9 (aB 57 0 9 (by decide) (trivial))))))))))))))))))))))))))))))))))))))))))))))))))))))))))) [] (fun q hq => by cases hq) (fun hY => absurd (hY 9 (by decide)) (by decide))
 ·exact fM 0 none rfl rfl rfl rfl (.inl rfl) rfl rfl rfl
 ·exact fM 1 none rfl rfl rfl rfl (.inl rfl) rfl rfl rfl
 ·refine fJ [(35, _), (36, _)] 2 [some 0, some 1] fun G a w S => ?_
  exact sIdxV S (wN rfl) rfl rfl rfl hq246 rfl (lb rfl) fun a S => leafL ⟨rfl, S⟩
 ·refine fJ [(37, _)] 3 [some 2] fun G a w S => ?_
  exact sLoadHE (r := (rL (rI .i64))) (T := 101) (xs := s15) (u := .slice ad30 s41.length cp31) (v := .slice ad7 s15.length cp8) (vq := q245) (j := s16) 0 S hp247 (wN rfl) rfl rfl rfl rfl rfl (lb rfl) fun a S => leafL ⟨rfl, S⟩
 ·exact fM 4 none rfl rfl rfl rfl (.inl rfl) rfl rfl rfl
 ·exact fM 5 none rfl rfl rfl rfl (.inl rfl) rfl rfl rfl
 ·exact fM 6 none rfl rfl rfl rfl (.inl rfl) rfl rfl rfl
 ·refine fJ [(41, _)] 7 [some 6] fun G a w S => ?_
  exact sBin _ S (wN rfl) rfl rfl rfl (bAdd _ _ _ _ s16 1) rfl (lb rfl) fun a S => leafL ⟨rfl, S⟩
 ·refine fJ [(40, _), (42, _)] 8 [some 5, some 7] fun G a w S => ?_
  exact sIdxV S (wN rfl) rfl rfl rfl hq249 rfl (lb rfl) fun a S => leafL ⟨rfl, S⟩
 ·refine ⟨_, [(43, q248)], rfl, (srcs_of [some 8] rfl rfl rfl), fun G a w S => ?_⟩
  refine sLoadHo (r := (rL (rI .i64))) (T := 101) (xs := s15) (x := x168) (p := (s16).toNat * (rL (rI .i64)).sz + 0) (u := .slice ad30 s41.length cp31) (v := .slice ad7 s15.length cp8) (vq := q248) (j := w64 (s16 + 1)) 0 S hp250 (wN rfl) rfl rfl rfl hx169 (idx_next (by decide) (hole_lim 0 S.mem rfl) hx35 hx169) (scal_L _) rfl rfl (lb rfl) fun a u288 S => ?_
  obtain ⟨ad289, cp290, _, rfl, _⟩ := S.mem.know (i := 0) (e := fRep (rL (rI .i64)) (u288) x168) rfl
  obtain ⟨q291, hq292, S⟩ := pIdx (P := Try.prog) (r := (rI .i64)) (v := .slice ad289 x168.length cp290) (xs := x168) (j := s40) 101 3 0 S Try.underlying101 rfl rfl hx177
  obtain ⟨u293, S⟩ := pLoad (r := (rI .i64)) (q := q291) (x := x176) 0 S rfl
  obtain rfl : u293 = iv x176 := S.mem.know (i := 1) (e := fRep (rI .i64) (u293) x176) rfl
  refine leafL ⟨rfl, _, _, .inl ⟨44, (.slice ad289 x168.length cp290), [(11, 46, q291), (12, 47, iv x176), (19, 54, iv (w64 (x176 + r190)))], rfl, S, hz_of rfl, ?_⟩⟩
  refine node_by (A := anc_compare_table_api_Row__s0_2) 58 (by kernel_rfl) (by kernel_rfl) (by kernel_rfl) (by kernel_rfl) (by kernel_rfl) [11, 12, 19, 9, 0, 1, 2, 3, 4, 5, 6, 7, 8, 10, 13, 14, 15, 16, 17, 18, 20, 21, 22, 23, 24, 25, 26, 27, 28, 29, 30, 31, 32, 33, 34, 35, 36, 37, 38, 40, 41, 44, 45, 46, 47, 48, 49, 50, 51, 52, 53] (by kernel_rfl) (by decide) (by decide) (fF ?_ (fF ?_ (fF ?_ (fF ?_ (fF ?_ (fD 9 (fD 9 (fD 9 (fD 9 (fY (fF ?_ (fF ?_ (fF ?_ (fF ?_ (fF ?_ (fF ?_ (fF ?_ (fF ?_ (fF ?_ (fF ?_ (fF ?_ (fF ?_ (fF ?_ (fF ?_ (fF ?_ (fF ?_ (fF ?_ (fF ?_ (fF ?_ (fF ?_ (fF ?_ (fF ?_ (fF ?_ (fF ?_ (fF ?_ (fF ?_ (fF ?_ (fF ?_ (fF ?_ (fN ?_ (fF ?_ (fF ?_ (fE 39 (fE 39 (fF ?_ (fF ?_ (fF ?_ (fF ?_ (fF ?_ (fF ?_ (fF ?_ (fF ?_ (fF ?_ (fF ?_ (fE 39 (fE 39 (fE 39 (aB 57 0 39 (by decide) (trivial))))))))))))))))))))))))))))))))))))))))))))))))))))))))))) [] (fun q hq => by cases hq) (fun hY => absurd (hY 39 (by decide)) (by decide))
  ·exact fM 4 none rfl rfl rfl rfl (.inl rfl) rfl rfl rfl
  ·exact fM 5 none rfl rfl rfl rfl (.inl rfl) rfl rfl rfl
  ·refine fJ [(35, _), (36, _)] 6 [some 4, some 5] fun G a w S => ?_
   exact sIdxV S (wN rfl) rfl rfl rfl hq246 rfl (lb rfl) fun a S => leafL ⟨rfl, S⟩
  ·refine fJ [(37, _)] 7 [some 6] fun G a w S => ?_
   exact sLoadHE (r := (rL (rI .i64))) (T := 101) (xs := s15) (u := .slice ad30 s41.length cp31) (v := .slice ad7 s15.length cp8) (vq := q245) (j := s16) 0 S hp247 (wN rfl) rfl rfl rfl rfl rfl (lb rfl) fun a S => leafL ⟨rfl, S⟩
  ·exact fM 8 none rfl rfl rfl rfl (.inl rfl) rfl rfl rfl
  ·exact fM 13 none rfl rfl rfl rfl (.inl rfl) rfl rfl rfl
  ·refine fJ [(44, _), (45, _)] 0 [some 3, some 13] fun G a w S => ?_
   exact sIdxV S (wN rfl) rfl rfl rfl hq292 rfl (lb rfl) fun a S => leafL ⟨rfl, S⟩
  ·refine fJ [(46, _)] 1 [some 0] fun G a w S => ?_
   exact sLoadV1 (vq := q291) 0 (iv x176) S (wN rfl) rfl rfl rfl rfl rfl (lb rfl) fun a S => leafL ⟨rfl, S⟩
  ·exact fM 14 none rfl rfl rfl rfl (.inl rfl) rfl rfl rfl
  ·exact fM 15 none rfl rfl rfl rfl (.inl rfl) rfl rfl rfl
  ·exact fM 16 none rfl rfl rfl rfl (.inl rfl) rfl rfl rfl
  ·refine fJ [(49, _), (50, _)] 17 [some 15, some 16] fun G a w S => ?_
   exact sIdxV S (wN rfl) rfl rfl rfl hq252 rfl (lb rfl) fun a S => leafL ⟨rfl, S⟩
  ·refine fJ [(51, _)] 18 [some 17] fun G a w S => ?_
   exact sLoadVN (vq := q251) 17 [.bool x181.Back, .slice ad256 x181.Cells.length cp257] S (wN rfl) rfl rfl rfl rfl rfl rfl (lb rfl) fun a S => leafL ⟨rfl, S⟩
  ·refine fJ [(48, _), (52, _)] 19 [some 14, some 18] fun G a w S => ?_
   have S1 := S.mem
   refine sCallVQ (X := Unit) (g := 52) (vs := [.agg #[.bool x181.Back, .slice ad256 x181.Cells.length cp257]]) (caps := []) (val := fun _ => iv r190) S (wN rfl) rfl rfl callee52 rfl (S1.quiet [18] rfl) (fun E1 w1 S1 => c_compare_Charts_1 E1 w1 x181 (.agg #[.bool x181.Back, .slice ad256 x181.Cells.length cp257]) r190 hx191 S1) rfl (lb rfl) fun _ a w S => ?_
   exact leafL ⟨rfl, S⟩
  ·refine fJ [(47, _), (53, _)] 2 [some 1, some 19] fun G a w S => ?_
   exact sBin _ S (wN rfl) rfl rfl rfl (bAdd _ _ _ _ x176 r190) rfl (lb rfl) fun a S => leafL ⟨rfl, S⟩
  ·exact fM 20 none rfl rfl rfl rfl (.inl rfl) rfl rfl rfl
  ·exact fM 21 none rfl rfl rfl rfl (.inl rfl) rfl rfl rfl
  ·refine fJ [(55, _), (56, _)] 22 [some 20, some 21] fun G a w S => ?_
   exact sIdxV S (wN rfl) rfl rfl rfl hq259 rfl (lb rfl) fun a S => leafL ⟨rfl, S⟩
  ·refine fJ [(57, _)] 23 [some 22] fun G a w S => ?_
   exact sLoadHE (r := (rL (rI .i64))) (T := 101) (xs := s15) (u := .slice ad30 s41.length cp31) (v := .slice ad7 s15.length cp8) (vq := q258) (j := s16) 0 S hp260 (wN rfl) rfl rfl rfl rfl rfl (lb rfl) fun a S => leafL ⟨rfl, S⟩
  ·exact fM 24 none rfl rfl rfl rfl (.inl rfl) rfl rfl rfl
  ·refine fJ [(59, _)] 25 [some 24] fun G a w S => ?_
   exact sBin _ S (wN rfl) rfl rfl rfl (bAdd _ _ _ _ s40 1) rfl (lb rfl) fun a S => leafL ⟨rfl, S⟩
  ·refine fJ [(58, _), (60, _)] 26 [some 23, some 25] fun G a w S => ?_
   exact sIdxV S (wN rfl) rfl rfl rfl hq262 rfl (lb rfl) fun a S => leafL ⟨rfl, S⟩
  ·refine fJ [(61, _)] 27 [some 26] fun G a w S => ?_
   exact sLoadR (r := (rI .i64)) (T := 3) (xs := s41) (x := x195) (v := .slice ad30 s41.length cp31) (vq := q261) (j := w64 (s40 + 1)) 1 (iv x195) S hp263 (wN rfl) rfl rfl rfl hx196 (fun _ _ _ h => h) (scal_I _) rfl rfl (lb rfl) fun a S => leafL ⟨rfl, S⟩
  ·exact fM 28 none rfl rfl rfl rfl (.inl rfl) rfl rfl rfl
  ·exact fM 29 none rfl rfl rfl rfl (.inl rfl) rfl rfl rfl
  ·exact fM 30 none rfl rfl rfl rfl (.inl rfl) rfl rfl rfl
  ·refine fJ [(64, _), (65, _)] 31 [some 29, some 30] fun G a w S => ?_
   exact sIdxV S (wN rfl) rfl rfl rfl hq265 rfl (lb rfl) fun a S => leafL ⟨rfl, S⟩
  ·refine fJ [(66, _)] 32 [some 31] fun G a w S => ?_
   exact sLoadVN (vq := q264) 13 [.bool x200.Back, .slice ad269 x200.Cells.length cp270] S (wN rfl) rfl rfl rfl rfl rfl rfl (lb rfl) fun a S => leafL ⟨rfl, S⟩
  ·refine fJ [(63, _), (67, _)] 33 [some 28, some 32] fun G a w S => ?_
   have S1 := S.mem
   refine sCallVQ (X := Unit) (g := 52) (vs := [.agg #[.bool x200.Back, .slice ad269 x200.Cells.length cp270]]) (caps := []) (val := fun _ => iv r209) S (wN rfl) rfl rfl callee52 rfl (S1.quiet [14] rfl) (fun E1 w1 S1 => c_compare_Charts_1 E1 w1 x200 (.agg #[.bool x200.Back, .slice ad269 x200.Cells.length cp270]) r209 hx210 S1) rfl (lb rfl) fun _ a w S => ?_
   exact leafL ⟨rfl, S⟩
  ·refine fJ [(62, _), (68, _)] 34 [some 27, some 33] fun G a w S => ?_
   exact sBin _ S (wN rfl) rfl rfl rfl (bAdd _ _ _ _ x195 r209) rfl (lb rfl) fun a S => leafL ⟨rfl, S⟩
  ·exact fM 35 none rfl rfl rfl rfl (.inl rfl) rfl rfl rfl
  ·exact fM 36 none rfl rfl rfl rfl (.inl rfl) rfl rfl rfl
  ·refine fJ [(71, _)] 37 [some 36] fun G a w S => ?_
   exact sBin _ S (wN rfl) rfl rfl rfl (bAdd _ _ _ _ s16 1) rfl (lb rfl) fun a S => leafL ⟨rfl, S⟩
  ·refine fJ [(70, _), (72, _)] 38 [some 35, some 37] fun G a w S => ?_
   exact sIdxV S (wN rfl) rfl rfl rfl hq272 rfl (lb rfl) fun a S => leafL ⟨rfl, S⟩
  ·refine ⟨_, [(73, q271)], rfl, (srcs_of [some 38] rfl rfl rfl), fun G a w S => ?_⟩
   refine sLoadHo (r := (rL (rI .i64))) (T := 101) (xs := s15) (x := x168) (p := (s16).toNat * (rL (rI .i64)).sz + 0) (u := .slice ad30 s41.length cp31) (v := .slice ad7 s15.length cp8) (vq := q271) (j := w64 (s16 + 1)) 0 S hp273 (wN rfl) rfl rfl rfl hx169 (idx_next (by decide) (hole_lim 0 S.mem rfl) hx35 hx169) (scal_L _) rfl rfl (lb rfl) fun a u294 S => ?_
   obtain ⟨ad295, cp296, _, rfl, _⟩ := S.mem.know (i := 0) (e := fRep (rL (rI .i64)) (u294) x168) rfl
   obtain ⟨q297, hq298, S⟩ := pIdx (P := Try.prog) (r := (rI .i64)) (v := .slice ad295 x168.length cp296) (xs := x168) (j := w64 (s40 + 1)) 101 3 0 S Try.underlying101 rfl rfl hx218
   obtain ⟨u299, S⟩ := pLoad (r := (rI .i64)) (q := q297) (x := x217) 0 S rfl
   obtain rfl : u299 = iv x217 := S.mem.know (i := 1) (e := fRep (rI .i64) (u299) x217) rfl
   obtain ⟨q300, hq301, hp302⟩ := pIdxR (P := Try.prog) (r := (rI .i64)) (T := 3) (v := .slice ad30 s41.length cp31) (xs := s41) (j := s40) 101 3 1 S Try.underlying101 rfl rfl hx239
   refine leafL ⟨rfl, _, _, .inl ⟨74, (.slice ad295 x168.length cp296), [(42, 77, q297), (43, 78, iv x217), (54, 89, iv (w64 (x217 + r236))), (55, 90, iv (min3 (w64 (x176 + r190)) (w64 (x195 + r209)) (w64 (x217 + r236)))), (56, 91, q300)], rfl, S, hz_of rfl, ?_⟩⟩
   refine node_by (A := anc_compare_table_api_Row__s0_2) 58 (by kernel_rfl) (by kernel_rfl) (by kernel_rfl) (by kernel_rfl) (by kernel_rfl) [42, 43, 54, 55, 56, 39, 11, 12, 19, 9, 0, 1, 2, 3, 4, 5, 6, 7, 8, 10, 13, 14, 15, 16, 17, 18, 20, 21, 22, 23, 24, 25, 26, 27, 28, 29, 30, 31, 32, 33, 34, 35, 36, 37, 38, 40, 41, 44, 45, 46, 47, 48, 49, 50, 51, 52, 53] (by kernel_rfl) (by decide) (by decide) (fF ?_ (fF ?_ (fF ?_ (fF ?_ (fF ?_ (fD 9 (fD 9 (fD 9 (fD 9 (fY (fF ?_ (fF ?_ (fF ?_ (fF ?_ (fF ?_ (fF ?_ (fF ?_ (fF ?_ (fF ?_ (fF ?_ (fF ?_ (fF ?_ (fF ?_ (fF ?_ (fF ?_ (fF ?_ (fF ?_ (fF ?_ (fF ?_ (fF ?_ (fF ?_ (fF ?_ (fF ?_ (fF ?_ (fF ?_ (fD 39 (fD 39 (fD 39 (fD 39 (fY (fF ?_ (fF ?_ (fF ?_ (fF ?_ (fF ?_ (fF ?_ (fF ?_ (fF ?_ (fF ?_ (fF ?_ (fF ?_ (fF ?_ (fF ?_ (fF ?_ (fF ?_ (fF ?_ (fF ?_ (fN ?_ (trivial))))))))))))))))))))))))))))))))))))))))))))))))))))))))))) [] (fun q hq => by cases hq) (fun hY => absurd (hY 57 (by decide)) (by decide))
   ·exact fM 10 none rfl rfl rfl rfl (.inl rfl) rfl rfl rfl
   ·exact fM 11 none rfl rfl rfl rfl (.inl rfl) rfl rfl rfl
   ·refine fJ [(35, _), (36, _)] 12 [some 10, some 11] fun G a w S => ?_
    exact sIdxV S (wN rfl) rfl rfl rfl hq246 rfl (lb rfl) fun a S => leafL ⟨rfl, S⟩
   ·refine fJ [(37, _)] 13 [some 12] fun G a w S => ?_
    exact sLoadHE (r := (rL (rI .i64))) (T := 101) (xs := s15) (u := .slice ad30 s41.length cp31) (v := .slice ad7 s15.length cp8) (vq := q245) (j := s16) 0 S hp247 (wN rfl) rfl rfl rfl rfl rfl (lb rfl) fun a S => leafL ⟨rfl, S⟩
   ·exact fM 14 none rfl rfl rfl rfl (.inl rfl) rfl rfl rfl
   ·exact fM 19 none rfl rfl rfl rfl (.inl rfl) rfl rfl rfl
   ·refine fJ [(44, _), (45, _)] 6 [some 9, some 19] fun G a w S => ?_
    exact sIdxV S (wN rfl) rfl rfl rfl hq292 rfl (lb rfl) fun a S => leafL ⟨rfl, S⟩
   ·refine fJ [(46, _)] 7 [some 6] fun G a w S => ?_
    exact sLoadV1 (vq := q291) 4 (iv x176) S (wN rfl) rfl rfl rfl rfl rfl (lb rfl) fun a S => leafL ⟨rfl, S⟩
   ·exact fM 20 none rfl rfl rfl rfl (.inl rfl) rfl rfl rfl
   ·exact fM 21 none rfl rfl rfl rfl (.inl rfl) rfl rfl rfl
   ·exact fM 22 none rfl rfl rfl rfl (.inl rfl) rfl rfl rfl
   ·refine fJ [(49, _), (50, _)] 23 [some 21, some 22] fun G a w S => ?_
    exact sIdxV S (wN rfl) rfl rfl rfl hq252 rfl (lb rfl) fun a S => leafL ⟨rfl, S⟩
   ·refine fJ [(51, _)] 24 [some 23] fun G a w S => ?_
    exact sLoadVN (vq := q251) 21 [.bool x181.Back, .slice ad256 x181.Cells.length cp257] S (wN rfl) rfl rfl rfl rfl rfl rfl (lb rfl) fun a S => leafL ⟨rfl, S⟩
   ·refine fJ [(48, _), (52, _)] 25 [some 20, some 24] fun G a w S => ?_
    have S1 := S.mem
    refine sCallVQ (X := Unit) (g := 52) (vs := [.agg #[.bool x181.Back, .slice ad256 x181.Cells.length cp257]]) (caps := []) (val := fun _ => iv r190) S (wN rfl) rfl rfl callee52 rfl (S1.quiet [22] rfl) (fun E1 w1 S1 => c_compare_Charts_1 E1 w1 x181 (.agg #[.bool x181.Back, .slice ad256 x181.Cells.length cp257]) r190 hx191 S1) rfl (lb rfl) fun _ a w S => ?_
    exact leafL ⟨rfl, S⟩
   ·refine fJ [(47, _), (53, _)] 8 [some 7, some 25] fun G a w S => ?_
    exact sBin _ S (wN rfl) rfl rfl rfl (bAdd _ _ _ _ x176 r190) rfl (lb rfl) fun a S => leafL ⟨rfl, S⟩
   ·exact fM 26 none rfl rfl rfl rfl (.inl rfl) rfl rfl rfl
   ·exact fM 27 none rfl rfl rfl rfl (.inl rfl) rfl rfl rfl
   ·refine fJ [(55, _), (56, _)] 28 [some 26, some 27] fun G a w S => ?_
    exact sIdxV S (wN rfl) rfl rfl rfl hq259 rfl (lb rfl) fun a S => leafL ⟨rfl, S⟩
   ·refine fJ [(57, _)] 29 [some 28] fun G a w S => ?_
    exact sLoadHE (r := (rL (rI .i64))) (T := 101) (xs := s15) (u := .slice ad30 s41.length cp31) (v := .slice ad7 s15.length cp8) (vq := q258) (j := s16) 0 S hp260 (wN rfl) rfl rfl rfl rfl rfl (lb rfl) fun a S => leafL ⟨rfl, S⟩
   ·exact fM 30 none rfl rfl rfl rfl (.inl rfl) rfl rfl rfl
   ·refine fJ [(59, _)] 31 [some 30] fun G a w S => ?_
    exact sBin _ S (wN rfl) rfl rfl rfl (bAdd _ _ _ _ s40 1) rfl (lb rfl) fun a S => leafL ⟨rfl, S⟩
   ·refine fJ [(58, _), (60, _)] 32 [some 29, some 31] fun G a w S => ?_
    exact sIdxV S (wN rfl) rfl rfl rfl hq262 rfl (lb rfl) fun a S => leafL ⟨rfl, S⟩
   ·refine fJ [(61, _)] 33 [some 32] fun G a w S => ?_
    exact sLoadR (r := (rI .i64)) (T := 3) (xs := s41) (x := x195) (v := .slice ad30 s41.length cp31) (vq := q261) (j := w64 (s40 + 1)) 1 (iv x195) S hp263 (wN rfl) rfl rfl rfl hx196 (fun _ _ _ h => h) (scal_I _) rfl rfl (lb rfl) fun a S => leafL ⟨rfl, S⟩
   ·exact fM 34 none rfl rfl rfl rfl (.inl rfl) rfl rfl rfl
   ·exact fM 35 none rfl rfl rfl rfl (.inl rfl) rfl rfl rfl
   ·exact fM 36 none rfl rfl rfl rfl (.inl rfl) rfl rfl rfl
   ·refine fJ [(64, _), (65, _)] 37 [some 35, some 36] fun G a w S => ?_
    exact sIdxV S (wN rfl) rfl rfl rfl hq265 rfl (lb rfl) fun a S => leafL ⟨rfl, S⟩
   ·refine fJ [(66, _)] 38 [some 37] fun G a w S => ?_
    exact sLoadVN (vq := q264) 17 [.bool x200.Back, .slice ad269 x200.Cells.length cp270] S (wN rfl) rfl rfl rfl rfl rfl rfl (lb rfl) fun a S => leafL ⟨rfl, S⟩
   ·refine fJ [(63, _), (67, _)] 39 [some 34, some 38] fun G a w S => ?_
    have S1 := S.mem
    refine sCallVQ (X := Unit) (g := 52) (vs := [.agg #[.bool x200.Back, .slice ad269 x200.Cells.length cp270]]) (caps := []) (val := fun _ => iv r209) S (wN rfl) rfl rfl callee52 rfl (S1.quiet [18] rfl) (fun E1 w1 S1 => c_compare_Charts_1 E1 w1 x200 (.agg #[.bool x200.Back, .slice ad269 x200.Cells.length cp270]) r209 hx210 S1) rfl (lb rfl) fun _ a w S => ?_
    exact leafL ⟨rfl, S⟩
   ·refine fJ [(62, _), (68, _)] 40 [some 33, some 39] fun G a w S => ?_
    exact sBin _ S (wN rfl) rfl rfl rfl (bAdd _ _ _ _ x195 r209) rfl (lb rfl) fun a S => leafL ⟨rfl, S⟩
   ·exact fM 45 none rfl rfl rfl rfl (.inl rfl) rfl rfl rfl
   ·refine fJ [(75, _)] 46 [some 45] fun G a w S => ?_
    exact sBin _ S (wN rfl) rfl rfl rfl (bAdd _ _ _ _ s40 1) rfl (lb rfl) fun a S => leafL ⟨rfl, S⟩
   ·refine fJ [(74, _), (76, _)] 0 [some 5, some 46] fun G a w S => ?_
    exact sIdxV S (wN rfl) rfl rfl rfl hq298 rfl (lb rfl) fun a S => leafL ⟨rfl, S⟩
   ·refine fJ [(77, _)] 1 [some 0] fun G a w S => ?_
    exact sLoadV1 (vq := q297) 0 (iv x217) S (wN rfl) rfl rfl rfl rfl rfl (lb rfl) fun a S => leafL ⟨rfl, S⟩
   ·exact fM 47 none rfl rfl rfl rfl (.inl rfl) rfl rfl rfl
   ·exact fM 48 none rfl rfl rfl rfl (.inl rfl) rfl rfl rfl
   ·exact fM 49 none rfl rfl rfl rfl (.inl rfl) rfl rfl rfl
   ·refine fJ [(80, _), (81, _)] 50 [some 48, some 49] fun G a w S => ?_
    exact sIdxV S (wN rfl) rfl rfl rfl hq275 rfl (lb rfl) fun a S => leafL ⟨rfl, S⟩
   ·refine fJ [(82, _)] 51 [some 50] fun G a w S => ?_
    exact sLoadVN (vq := q274) 13 [.bool x181.Back, .slice ad279 x181.Cells.length cp280] S (wN rfl) rfl rfl rfl rfl rfl rfl (lb rfl) fun a S => leafL ⟨rfl, S⟩
   ·exact fM 52 none rfl rfl rfl rfl (.inl rfl) rfl rfl rfl
   ·exact fM 53 none rfl rfl rfl rfl (.inl rfl) rfl rfl rfl
   ·refine fJ [(84, _), (85, _)] 54 [some 52, some 53] fun G a w S => ?_
    exact sIdxV S (wN rfl) rfl rfl rfl hq282 rfl (lb rfl) fun a S => leafL ⟨rfl, S⟩
   ·refine fJ [(86, _)] 55 [some 54] fun G a w S => ?_
    exact sLoadVN (vq := q281) 9 [.bool x200.Back, .slice ad286 x200.Cells.length cp287] S (wN rfl) rfl rfl rfl rfl rfl rfl (lb rfl) fun a S => leafL ⟨rfl, S⟩
   ·refine fJ [(79, _), (83, _), (87, _)] 56 [some 47, some 51, some 55] fun G a w S => ?_
    have S1 := S.mem
    refine sCallVQ (X := Unit) (g := 53) (vs := [.agg #[.bool x181.Back, .slice ad279 x181.Cells.length cp280], .agg #[.bool x200.Back, .slice ad286 x200.Cells.length cp287]]) (caps := []) (val := fun _ => iv r236) S (wN rfl) rfl rfl callee53 rfl (S1.quiet [14, 10] rfl) (fun E1 w1 S1 => c_compare_Charts_2 E1 w1 x181 (.agg #[.bool x181.Back, .slice ad279 x181.Cells.length cp280]) x200 (.agg #[.bool x200.Back, .slice ad286 x200.Cells.length cp287]) r236 hx237 S1) rfl (lb rfl) fun _ a w S => ?_
    exact leafL ⟨rfl, S⟩
   ·refine fJ [(78, _), (88, _)] 2 [some 1, some 56] fun G a w S => ?_
    exact sBin _ S (wN rfl) rfl rfl rfl (bAdd _ _ _ _ x217 r236) rfl (lb rfl) fun a S => leafL ⟨rfl, S⟩
   ·refine fJ [(54, _), (69, _), (89, _)] 3 [some 8, some 40, some 2] fun G a w S => ?_
    exact sMin3 (p := w64 (x176 + r190)) (q := w64 (x195 + r209)) (r := w64 (x217 + r236)) S (wN rfl) rfl rfl rfl rfl rfl (lb rfl) fun a S => leafL ⟨rfl, S⟩
   ·refine fJ [(38, _), (39, _)] 4 [some 13, some 14] fun G a w S => ?_
    exact sIdxV S (wN rfl) rfl rfl rfl hq301 rfl (lb rfl) fun a S => leafL ⟨rfl, S⟩
   refine ⟨_, [(90, iv (min3 (w64 (x176 + r190)) (w64 (x195 + r209)) (w64 (x217 + r236)))), (91, q300)], rfl, (srcs_of [some 3, some 4] rfl rfl rfl), fun G a w S => ?_⟩
   refine sStoreR (r := (rI .i64)) (T := 3) (xs := s41) (ys := l243) (y := (min3 (w64 (x176 + r190)) (w64 (x195 + r209)) (w64 (x217 + r236)))) (v := .slice ad30 s41.length cp31) (vq := q300) (u := iv (min3 (w64 (x176 + r190)) (w64 (x195 + r209)) (w64 (x217 + r236)))) (j := s40) 1 S hp302 (wN rfl) rfl rfl rfl rfl rfl hx244 rfl rfl fun a w S => ?_
   refine leafL ⟨rfl, _, _, .inr ⟨[], rfl, S, hz_of rfl, ?_⟩⟩
   refine node_by (A := anc_compare_table_api_Row__s0_2) 58 (by kernel_rfl) (by kernel_rfl) (by kernel_rfl) (by kernel_rfl) (by kernel_rfl) [42, 43, 54, 55, 56, 39, 11, 12, 19, 9, 0, 1, 2, 3, 4, 5, 6, 7, 8, 10, 13, 14, 15, 16, 17, 18, 20, 21, 22, 23, 24, 25, 26, 27, 28, 29, 30, 31, 32, 33, 34, 35, 36, 37, 38, 40, 41, 44, 45, 46, 47, 48, 49, 50, 51, 52, 53] (by kernel_rfl) (by decide) (by decide) (fD 57 (fD 57 (fD 57 (fD 57 (fD 57 (fD 57 (fD 57 (fD 57 (fD 57 (fY (fD 57 (fD 57 (fD 57 (fD 57 (fD 57 (fD 57 (fD 57 (fD 57 (fD 57 (fD 57 (fD 57 (fD 57 (fD 57 (fD 57 (fD 57 (fD 57 (fD 57 (fD 57 (fD 57 (fD 57 (fD 57 (fD 57 (fD 57 (fD 57 (fD 57 (fD 57 (fD 57 (fD 57 (fD 57 (fY (fD 57 (fD 57 (fD 57 (fD 57 (fD 57 (fD 57 (fD 57 (fD 57 (fD 57 (fD 57 (fD 57 (fD 57 (fD 57 (fD 57 (fD 57 (fD 57 (fD 57 (fY (trivial))))))))))))))))))))))))))))))))))))))))))))))))))))))))))) [(0, .slice ad1 p0.length cp2), (1, .slice ad3 p1.length cp4), (2, .func (.func 52) #[] #[]), (3, .func (.func 53) #[] #[]), (9, .slice ad7 s15.length cp8), (10, iv s16), (11, iv s40)] (fin_of [none, none, none, none, none, none, none] rfl (by kernel_rfl) (by kernel_rfl)) (fun _ a w S => ?_)
   rw [setO_v hx244 ad30 cp31] at S
   exact leafB (leafB (leafT (⟨l243, Option.some.inj h, S.fix [1, 0] [24, 25] (by decide) rfl rfl rfl⟩)))
  ·exact fM 39 none rfl rfl rfl rfl (.inl rfl) rfl rfl rfl
  ·refine fJ [(75, _)] 40 [some 39] fun G a w S => ?_
   exact sBin _ S (wN rfl) rfl rfl rfl (bAdd _ _ _ _ s40 1) rfl (lb rfl) fun a S => leafL ⟨rfl, S⟩
  ·exact fM 41 none rfl rfl rfl rfl (.inl rfl) rfl rfl rfl
  ·exact fM 42 none rfl rfl rfl rfl (.inl rfl) rfl rfl rfl
  ·exact fM 43 none rfl rfl rfl rfl (.inl rfl) rfl rfl rfl
  ·refine fJ [(80, _), (81, _)] 44 [some 42, some 43] fun G a w S => ?_
   exact sIdxV S (wN rfl) rfl rfl rfl hq275 rfl (lb rfl) fun a S => leafL ⟨rfl, S⟩
  ·refine fJ [(82, _)] 45 [some 44] fun G a w S => ?_
   exact sLoadVN (vq := q274) 9 [.bool x181.Back, .slice ad279 x181.Cells.length cp280] S (wN rfl) rfl rfl rfl rfl rfl rfl (lb rfl) fun a S => leafL ⟨rfl, S⟩
  ·exact fM 46 none rfl rfl rfl rfl (.inl rfl) rfl rfl rfl
  ·exact fM 47 none rfl rfl rfl rfl (.inl rfl) rfl rfl rfl
  ·refine fJ [(84, _), (85, _)] 48 [some 46, some 47] fun G a w S => ?_
   exact sIdxV S (wN rfl) rfl rfl rfl hq282 rfl (lb rfl) fun a S => leafL ⟨rfl, S⟩
  ·refine fJ [(86, _)] 49 [some 48] fun G a w S => ?_
   exact sLoadVN (vq := q281) 5 [.bool x200.Back, .slice ad286 x200.Cells.length cp287] S (wN rfl) rfl rfl rfl rfl rfl rfl (lb rfl) fun a S => leafL ⟨rfl, S⟩
  refine fJ [(79, _), (83, _), (87, _)] 50 [some 41, some 45, some 49] fun G a w S => ?_
  have S1 := S.mem
  refine sCallVQ (X := Unit) (g := 53) (vs := [.agg #[.bool x181.Back, .slice ad279 x181.Cells.length cp280], .agg #[.bool x200.Back, .slice ad286 x200.Cells.length cp287]]) (caps := []) (val := fun _ => iv r236) S (wN rfl) rfl rfl callee53 rfl (S1.quiet [10, 6] rfl) (fun E1 w1 S1 => c_compare_Charts_2 E1 w1 x181 (.agg #[.bool x181.Back, .slice ad279 x181.Cells.length cp280]) x200 (.agg #[.bool x200.Back, .slice ad286 x200.Cells.length cp287]) r236 hx237 S1) rfl (lb rfl) fun _ a w S => ?_
  exact leafL ⟨rfl, S⟩
 ·exact fM 9 none rfl rfl rfl rfl (.inl rfl) rfl rfl rfl
 ·exact fM 10 none rfl rfl rfl rfl (.inl rfl) rfl rfl rfl
 ·exact fM 11 none rfl rfl rfl rfl (.inl rfl) rfl rfl rfl
 ·exact fM 12 none rfl rfl rfl rfl (.inl rfl) rfl rfl rfl
 ·refine fJ [(49, _), (50, _)] 13 [some 11, some 12] fun G a w S => ?_
  exact sIdxV S (wN rfl) rfl rfl rfl hq252 rfl (lb rfl) fun a S => leafL ⟨rfl, S⟩
 ·refine fJ [(51, _)] 14 [some 13] fun G a w S => ?_
  exact sLoadVN (vq := q251) 13 [.bool x181.Back, .slice ad256 x181.Cells.length cp257] S (wN rfl) rfl rfl rfl rfl rfl rfl (lb rfl) fun a S => leafL ⟨rfl, S⟩
 ·refine fJ [(48, _), (52, _)] 15 [some 10, some 14] fun G a w S => ?_
  have S1 := S.mem
  refine sCallVQ (X := Unit) (g := 52) (vs := [.agg #[.bool x181.Back, .slice ad256 x181.Cells.length cp257]]) (caps := []) (val := fun _ => iv r190) S (wN rfl) rfl rfl callee52 rfl (S1.quiet [14] rfl) (fun E1 w1 S1 => c_compare_Charts_1 E1 w1 x181 (.agg #[.bool x181.Back, .slice ad256 x181.Cells.length cp257]) r190 hx191 S1) rfl (lb rfl) fun _ a w S => ?_
  exact leafL ⟨rfl, S⟩
 ·exact fM 16 none rfl rfl rfl rfl (.inl rfl) rfl rfl rfl
 ·exact fM 17 none rfl rfl rfl rfl (.inl rfl) rfl rfl rfl
 ·refine fJ [(55, _), (56, _)] 18 [some 16, some 17] fun G a w S => ?_
  exact sIdxV S (wN rfl) rfl rfl rfl hq259 rfl (lb rfl) fun a S => leafL ⟨rfl, S⟩
 ·refine fJ [(57, _)] 19 [some 18] fun G a w S => ?_
  exact sLoadHE (r := (rL (rI .i64))) (T := 101) (xs := s15) (u := .slice ad30 s41.length cp31) (v := .slice ad7 s15.length cp8) (vq := q258) (j := s16) 0 S hp260 (wN rfl) rfl rfl rfl rfl rfl (lb rfl) fun a S => leafL ⟨rfl, S⟩
 ·exact fM 20 none rfl rfl rfl rfl (.inl rfl) rfl rfl rfl
 ·refine fJ [(59, _)] 21 [some 20] fun G a w S => ?_
  exact sBin _ S (wN rfl) rfl rfl rfl (bAdd _ _ _ _ s40 1) rfl (lb rfl) fun a S => leafL ⟨rfl, S⟩
 ·refine fJ [(58, _), (60, _)] 22 [some 19, some 21] fun G a w S => ?_
  exact sIdxV S (wN rfl) rfl rfl rfl hq262 rfl (lb rfl) fun a S => leafL ⟨rfl, S⟩
 ·refine fJ [(61, _)] 23 [some 22] fun G a w S => ?_
  exact sLoadR (r := (rI .i64)) (T := 3) (xs := s41) (x := x195) (v := .slice ad30 s41.length cp31) (vq := q261) (j := w64 (s40 + 1)) 1 (iv x195) S hp263 (wN rfl) rfl rfl rfl hx196 (fun _ _ _ h => h) (scal_I _) rfl rfl (lb rfl) fun a S => leafL ⟨rfl, S⟩
 ·exact fM 24 none rfl rfl rfl rfl (.inl rfl) rfl rfl rfl
 ·exact fM 25 none rfl rfl rfl rfl (.inl rfl) rfl rfl rfl
 ·exact fM 26 none rfl rfl rfl rfl (.inl rfl) rfl rfl rfl
 ·refine fJ [(64, _), (65, _)] 27 [some 25, some 26] fun G a w S => ?_
  exact sIdxV S (wN rfl) rfl rfl rfl hq265 rfl (lb rfl) fun a S => leafL ⟨rfl, S⟩
 ·refine fJ [(66, _)] 28 [some 27] fun G a w S => ?_
  exact sLoadVN (vq := q264) 9 [.bool x200.Back, .slice ad269 x200.Cells.length cp270] S (wN rfl) rfl rfl rfl rfl rfl rfl (lb rfl) fun a S => leafL ⟨rfl, S⟩
 ·refine fJ [(63, _), (67, _)] 29 [some 24, some 28] fun G a w S => ?_
  have S1 := S.mem
  refine sCallVQ (X := Unit) (g := 52) (vs := [.agg #[.bool x200.Back, .slice ad269 x200.Cells.length cp270]]) (caps := []) (val := fun _ => iv r209) S (wN rfl) rfl rfl callee52 rfl (S1.quiet [10] rfl) (fun E1 w1 S1 => c_compare_Charts_1 E1 w1 x200 (.agg #[.bool x200.Back, .slice ad269 x200.Cells.length cp270]) r209 hx210 S1) rfl (lb rfl) fun _ a w S => ?_
  exact leafL ⟨rfl, S⟩
 ·refine fJ [(62, _), (68, _)] 30 [some 23, some 29] fun G a w S => ?_
  exact sBin _ S (wN rfl) rfl rfl rfl (bAdd _ _ _ _ x195 r209) rfl (lb rfl) fun a S => leafL ⟨rfl, S⟩
 ·exact fM 31 none rfl rfl rfl rfl (.inl rfl) rfl rfl rfl
 ·exact fM 32 none rfl rfl rfl rfl (.inl rfl) rfl rfl rfl
 ·refine fJ [(71, _)] 33 [some 32] fun G a w S => ?_
  exact sBin _ S (wN rfl) rfl rfl rfl (bAdd _ _ _ _ s16 1) rfl (lb rfl) fun a S => leafL ⟨rfl, S⟩
 ·refine fJ [(70, _), (72, _)] 34 [some 31, some 33] fun G a w S => ?_
  exact sIdxV S (wN rfl) rfl rfl rfl hq272 rfl (lb rfl) fun a S => leafL ⟨rfl, S⟩
 ·refine ⟨_, [(73, q271)], rfl, (srcs_of [some 34] rfl rfl rfl), fun G a w S => ?_⟩
  refine sLoadHo (r := (rL (rI .i64))) (T := 101) (xs := s15) (x := x168) (p := (s16).toNat * (rL (rI .i64)).sz + 0) (u := .slice ad30 s41.length cp31) (v := .slice ad7 s15.length cp8) (vq := q271) (j := w64 (s16 + 1)) 0 S hp273 (wN rfl) rfl rfl rfl hx169 (idx_next (by decide) (hole_lim 0 S.mem rfl) hx35 hx169) (scal_L _) rfl rfl (lb rfl) fun a u303 S => ?_
  obtain ⟨ad304, cp305, _, rfl, _⟩ := S.mem.know (i := 0) (e := fRep (rL (rI .i64)) (u303) x168) rfl
  obtain ⟨q306, hq307, S⟩ := pIdx (P := Try.prog) (r := (rI .i64)) (v := .slice ad304 x168.length cp305) (xs := x168) (j := w64 (s40 + 1)) 101 3 0 S Try.underlying101 rfl rfl hx218
  obtain ⟨u308, S⟩ := pLoad (r := (rI .i64)) (q := q306) (x := x217) 0 S rfl
  obtain rfl : u308 = iv x217 := S.mem.know (i := 1) (e := fRep (rI .i64) (u308) x217) rfl
  refine leafL ⟨rfl, _, _, .inl ⟨74, (.slice ad304 x168.length cp305), [(42, 77, q306), (43, 78, iv x217), (54, 89, iv (w64 (x217 + r236)))], rfl, S, hz_of rfl, ?_⟩⟩
  refine node_by (A := anc_compare_table_api_Row__s0_2) 58 (by kernel_rfl) (by kernel_rfl) (by kernel_rfl) (by kernel_rfl) (by kernel_rfl) [42, 43, 54, 39, 0, 1, 2, 3, 4, 5, 6, 7, 8, 10, 13, 14, 15, 16, 17, 18, 20, 21, 22, 23, 24, 25, 26, 27, 28, 29, 30, 31, 32, 33, 34, 35, 36, 37, 38, 40, 41, 44, 45, 46, 47, 48, 49, 50, 51, 52, 53] (by kernel_rfl) (by decide) (by decide) (fF ?_ (fF ?_ (fF ?_ (fF ?_ (fF ?_ (fF ?_ (fF ?_ (fF ?_ (fF ?_ (fN ?_ (fF ?_ (fE 9 (fE 9 (fF ?_ (fF ?_ (fF ?_ (fF ?_ (fF ?_ (fF ?_ (fE 9 (fF ?_ (fF ?_ (fF ?_ (fF ?_ (fF ?_ (fF ?_ (fF ?_ (fF ?_ (fF ?_ (fF ?_ (fF ?_ (fF ?_ (fF ?_ (fF ?_ (fF ?_ (fD 39 (fD 39 (fD 39 (fD 39 (fY (fF ?_ (fF ?_ (fF ?_ (fF ?_ (fF ?_ (fF ?_ (fF ?_ (fF ?_ (fF ?_ (fF ?_ (fF ?_ (fF ?_ (fF ?_ (fF ?_ (fF ?_ (fE 9 (fE 9 (aB 57 0 9 (by decide) (trivial))))))))))))))))))))))))))))))))))))))))))))))))))))))))))) [] (fun q hq => by cases hq) (fun hY => absurd (hY 9 (by decide)) (by decide))
  ·exact fM 4 none rfl rfl rfl rfl (.inl rfl) rfl rfl rfl
  ·exact fM 5 none rfl rfl rfl rfl (.inl rfl) rfl rfl rfl
  ·refine fJ [(35, _), (36, _)] 6 [some 4, some 5] fun G a w S => ?_
   exact sIdxV S (wN rfl) rfl rfl rfl hq246 rfl (lb rfl) fun a S => leafL ⟨rfl, S⟩
  ·refine fJ [(37, _)] 7 [some 6] fun G a w S => ?_
   exact sLoadHE (r := (rL (rI .i64))) (T := 101) (xs := s15) (u := .slice ad30 s41.length cp31) (v := .slice ad7 s15.length cp8) (vq := q245) (j := s16) 0 S hp247 (wN rfl) rfl rfl rfl rfl rfl (lb rfl) fun a S => leafL ⟨rfl, S⟩
  ·exact fM 8 none rfl rfl rfl rfl (.inl rfl) rfl rfl rfl
  ·exact fM 9 none rfl rfl rfl rfl (.inl rfl) rfl rfl rfl
  ·exact fM 10 none rfl rfl rfl rfl (.inl rfl) rfl rfl rfl
  ·refine fJ [(41, _)] 11 [some 10] fun G a w S => ?_
   exact sBin _ S (wN rfl) rfl rfl rfl (bAdd _ _ _ _ s16 1) rfl (lb rfl) fun a S => leafL ⟨rfl, S⟩
  ·refine fJ [(40, _), (42, _)] 12 [some 9, some 11] fun G a w S => ?_
   exact sIdxV S (wN rfl) rfl rfl rfl hq249 rfl (lb rfl) fun a S => leafL ⟨rfl, S⟩
  ·refine ⟨_, [(43, q248)], rfl, (srcs_of [some 12] rfl rfl rfl), fun G a w S => ?_⟩
   refine sLoadHo (r := (rL (rI .i64))) (T := 101) (xs := s15) (x := x168) (p := (s16).toNat * (rL (rI .i64)).sz + 0) (u := .slice ad30 s41.length cp31) (v := .slice ad7 s15.length cp8) (vq := q248) (j := w64 (s16 + 1)) 0 S hp250 (wN rfl) rfl rfl rfl hx169 (idx_next (by decide) (hole_lim 0 S.mem rfl) hx35 hx169) (scal_L _) rfl rfl (lb rfl) fun a u309 S => ?_
   obtain ⟨ad310, cp311, _, rfl, _⟩ := S.mem.know (i := 0) (e := fRep (rL (rI .i64)) (u309) x168) rfl
   obtain ⟨q312, hq313, S⟩ := pIdx (P := Try.prog) (r := (rI .i64)) (v := .slice ad310 x168.length cp311) (xs := x168) (j := s40) 101 3 0 S Try.underlying101 rfl rfl hx177
   obtain ⟨u314, S⟩ := pLoad (r := (rI .i64)) (q := q312) (x := x176) 0 S rfl
   obtain rfl : u314 = iv x176 := S.mem.know (i := 1) (e := fRep (rI .i64) (u314) x176) rfl
   obtain ⟨q315, hq316, hp317⟩ := pIdxR (P := Try.prog) (r := (rI .i64)) (T := 3) (v := .slice ad30 s41.length cp31) (xs := s41) (j := s40) 101 3 1 S Try.underlying101 rfl rfl hx239
   refine leafL ⟨rfl, _, _, .inl ⟨44, (.slice ad310 x168.length cp311), [(11, 46, q312), (12, 47, iv x176), (19, 54, iv (w64 (x176 + r190))), (55, 90, iv (min3 (w64 (x176 + r190)) (w64 (x195 + r209)) (w64 (x217 + r236)))), (56, 91, q315)], rfl, S, hz_of rfl, ?_⟩⟩
   refine node_by (A := anc_compare_table_api_Row__s0_2) 58 (by kernel_rfl) (by kernel_rfl) (by kernel_rfl) (by kernel_rfl) (by kernel_rfl) [11, 12, 19, 55, 56, 9, 42, 43, 54, 39, 0, 1, 2, 3, 4, 5, 6, 7, 8, 10, 13, 14, 15, 16, 17, 18, 20, 21, 22, 23, 24, 25, 26, 27, 28, 29, 30, 31, 32, 33, 34, 35, 36, 37, 38, 40, 41, 44, 45, 46, 47, 48, 49, 50, 51, 52, 53] (by kernel_rfl) (by decide) (by decide) (fF ?_ (fF ?_ (fF ?_ (fF ?_ (fF ?_ (fD 9 (fD 9 (fD 9 (fD 9 (fY (fF ?_ (fF ?_ (fF ?_ (fF ?_ (fF ?_ (fF ?_ (fF ?_ (fF ?_ (fF ?_ (fF ?_ (fF ?_ (fF ?_ (fF ?_ (fF ?_ (fF ?_ (fF ?_ (fF ?_ (fF ?_ (fF ?_ (fF ?_ (fF ?_ (fF ?_ (fF ?_ (fF ?_ (fF ?_ (fD 39 (fD 39 (fD 39 (fD 39 (fY (fF ?_ (fF ?_ (fF ?_ (fF ?_ (fF ?_ (fF ?_ (fF ?_ (fF ?_ (fF ?_ (fF ?_ (fF ?_ (fF ?_ (fF ?_ (fF ?_ (fF ?_ (fF ?_ (fF ?_ (fN ?_ (trivial))))))))))))))))))))))))))))))))))))))))))))))))))))))))))) [] (fun q hq => by cases hq) (fun hY => absurd (hY 57 (by decide)) (by decide))
   ·exact fM 10 none rfl rfl rfl rfl (.inl rfl) rfl rfl rfl
   ·exact fM 11 none rfl rfl rfl rfl (.inl rfl) rfl rfl rfl
   ·refine fJ [(35, _), (36, _)] 12 [some 10, some 11] fun G a w S => ?_
    exact sIdxV S (wN rfl) rfl rfl rfl hq246 rfl (lb rfl) fun a S => leafL ⟨rfl, S⟩
   ·refine fJ [(37, _)] 13 [some 12] fun G a w S => ?_
    exact sLoadHE (r := (rL (rI .i64))) (T := 101) (xs := s15) (u := .slice ad30 s41.length cp31) (v := .slice ad7 s15.length cp8) (vq := q245) (j := s16) 0 S hp247 (wN rfl) rfl rfl rfl rfl rfl (lb rfl) fun a S => leafL ⟨rfl, S⟩
   ·exact fM 14 none rfl rfl rfl rfl (.inl rfl) rfl rfl rfl
   ·exact fM 19 none rfl rfl rfl rfl (.inl rfl) rfl rfl rfl
   ·refine fJ [(44, _), (45, _)] 0 [some 5, some 19] fun G a w S => ?_
    exact sIdxV S (wN rfl) rfl rfl rfl hq313 rfl (lb rfl) fun a S => leafL ⟨rfl, S⟩
   ·refine fJ [(46, _)] 1 [some 0] fun G a w S => ?_
    exact sLoadV1 (vq := q312) 0 (iv x176) S (wN rfl) rfl rfl rfl rfl rfl (lb rfl) fun a S => leafL ⟨rfl, S⟩
   ·exact fM 20 none rfl rfl rfl rfl (.inl rfl) rfl rfl rfl
   ·exact fM 21 none rfl rfl rfl rfl (.inl rfl) rfl rfl rfl
   ·exact fM 22 none rfl rfl rfl rfl (.inl rfl) rfl rfl rfl
   ·refine fJ [(49, _), (50, _)] 23 [some 21, some 22] fun G a w S => ?_
    exact sIdxV S (wN rfl) rfl rfl rfl hq252 rfl (lb rfl) fun a S => leafL ⟨rfl, S⟩
   ·refine fJ [(51, _)] 24 [some 23] fun G a w S => ?_
    exact sLoadVN (vq := q251) 21 [.bool x181.Back, .slice ad256 x181.Cells.length cp257] S (wN rfl) rfl rfl rfl rfl rfl rfl (lb rfl) fun a S => leafL ⟨rfl, S⟩
   ·refine fJ [(48, _), (52, _)] 25 [some 20, some 24] fun G a w S => ?_
    have S1 := S.mem
    refine sCallVQ (X := Unit) (g := 52) (vs := [.agg #[.bool x181.Back, .slice ad256 x181.Cells.length cp257]]) (caps := []) (val := fun _ => iv r190) S (wN rfl) rfl rfl callee52 rfl (S1.quiet [22] rfl) (fun E1 w1 S1 => c_compare_Charts_1 E1 w1 x181 (.agg #[.bool x181.Back, .slice ad256 x181.Cells.length cp257]) r190 hx191 S1) rfl (lb rfl) fun _ a w S => ?_
    exact leafL ⟨rfl, S⟩
   ·refine fJ [(47, _), (53, _)] 2 [some 1, some 25] fun G a w S => ?_
    exact sBin _ S (wN rfl) rfl rfl rfl (bAdd _ _ _ _ x176 r190) rfl (lb rfl) fun a S => leafL ⟨rfl, S⟩
   ·exact fM 26 none rfl rfl rfl rfl (.inl rfl) rfl rfl rfl
   ·exact fM 27 none rfl rfl rfl rfl (.inl rfl) rfl rfl rfl
   ·refine fJ [(55, _), (56, _)] 28 [some 26, some 27] fun G a w S => ?_
    exact sIdxV S (wN rfl) rfl rfl rfl hq259 rfl (lb rfl) fun a S => leafL ⟨rfl, S⟩
   ·refine fJ [(57, _)] 29 [some 28] fun G a w S => ?_
    exact sLoadHE (r := (rL (rI .i64))) (T := 101) (xs := s15) (u := .slice ad30 s41.length cp31) (v := .slice ad7 s15.length cp8) (vq := q258) (j := s16) 0 S hp260 (wN rfl) rfl rfl rfl rfl rfl (lb rfl) fun a S => leafL ⟨rfl, S⟩
   ·exact fM 30 none rfl rfl rfl rfl (.inl rfl) rfl rfl rfl
   ·refine fJ [(59, _)] 31 [some 30] fun G a w S => ?_
    exact sBin _ S (wN rfl) rfl rfl rfl (bAdd _ _ _ _ s40 1) rfl (lb rfl) fun a S => leafL ⟨rfl, S⟩
   ·refine fJ [(58, _), (60, _)] 32 [some 29, some 31] fun G a w S => ?_
    exact sIdxV S (wN rfl) rfl rfl rfl hq262 rfl (lb rfl) fun a S => leafL ⟨rfl, S⟩
   ·refine fJ [(61, _)] 33 [some 32] fun G a w S => ?_
    exact sLoadR (r := (rI .i64)) (T := 3) (xs := s41) (x := x195) (v := .slice ad30 s41.length cp31) (vq := q261) (j := w64 (s40 + 1)) 1 (iv x195) S hp263 (wN rfl) rfl rfl rfl hx196 (fun _ _ _ h => h) (scal_I _) rfl rfl (lb rfl) fun a S => leafL ⟨rfl, S⟩
   ·exact fM 34 none rfl rfl rfl rfl (.inl rfl) rfl rfl rfl
   ·exact fM 35 none rfl rfl rfl rfl (.inl rfl) rfl rfl rfl
   ·exact fM 36 none rfl rfl rfl rfl (.inl rfl) rfl rfl rfl
   ·refine fJ [(64, _), (65, _)] 37 [some 35, some 36] fun G a w S => ?_
    exact sIdxV S (wN rfl) rfl rfl rfl hq265 rfl (lb rfl) fun a S => leafL ⟨rfl, S⟩
   ·refine fJ [(66, _)] 38 [some 37] fun G a w S => ?_
    exact sLoadVN (vq := q264) 17 [.bool x200.Back, .slice ad269 x200.Cells.length cp270] S (wN rfl) rfl rfl rfl rfl rfl rfl (lb rfl) fun a S => leafL ⟨rfl, S⟩
   ·refine fJ [(63, _), (67, _)] 39 [some 34, some 38] fun G a w S => ?_
    have S1 := S.mem
    refine sCallVQ (X := Unit) (g := 52) (vs := [.agg #[.bool x200.Back, .slice ad269 x200.Cells.length cp270]]) (caps := []) (val := fun _ => iv r209) S (wN rfl) rfl rfl callee52 rfl (S1.quiet [18] rfl) (fun E1 w1 S1 => c_compare_Charts_1 E1 w1 x200 (.agg #[.bool x200.Back, .slice ad269 x200.Cells.length cp270]) r209 hx210 S1) rfl (lb rfl) fun _ a w S => ?_
    exact leafL ⟨rfl, S⟩
   ·refine fJ [(62, _), (68, _)] 40 [some 33, some 39] fun G a w S => ?_
    exact sBin _ S (wN rfl) rfl rfl rfl (bAdd _ _ _ _ x195 r209) rfl (lb rfl) fun a S => leafL ⟨rfl, S⟩
   ·exact fM 45 none rfl rfl rfl rfl (.inl rfl) rfl rfl rfl
   ·refine fJ [(75, _)] 46 [some 45] fun G a w S => ?_
    exact sBin _ S (wN rfl) rfl rfl rfl (bAdd _ _ _ _ s40 1) rfl (lb rfl) fun a S => leafL ⟨rfl, S⟩
   ·refine fJ [(74, _), (76, _)] 6 [some 9, some 46] fun G a w S => ?_
    exact sIdxV S (wN rfl) rfl rfl rfl hq307 rfl (lb rfl) fun a S => leafL ⟨rfl, S⟩
   ·refine fJ [(77, _)] 7 [some 6] fun G a w S => ?_
    exact sLoadV1 (vq := q306) 4 (iv x217) S (wN rfl) rfl rfl rfl rfl rfl (lb rfl) fun a S => leafL ⟨rfl, S⟩
   ·exact fM 47 none rfl rfl rfl rfl (.inl rfl) rfl rfl rfl
   ·exact fM 48 none rfl rfl rfl rfl (.inl rfl) rfl rfl rfl
   ·exact fM 49 none rfl rfl rfl rfl (.inl rfl) rfl rfl rfl
   ·refine fJ [(80, _), (81, _)] 50 [some 48, some 49] fun G a w S => ?_
    exact sIdxV S (wN rfl) rfl rfl rfl hq275 rfl (lb rfl) fun a S => leafL ⟨rfl, S⟩
   ·refine fJ [(82, _)] 51 [some 50] fun G a w S => ?_
    exact sLoadVN (vq := q274) 13 [.bool x181.Back, .slice ad279 x181.Cells.length cp280] S (wN rfl) rfl rfl rfl rfl rfl rfl (lb rfl) fun a S => leafL ⟨rfl, S⟩
   ·exact fM 52 none rfl rfl rfl rfl (.inl rfl) rfl rfl rfl
   ·exact fM 53 none rfl rfl rfl rfl (.inl rfl) rfl rfl rfl
   ·refine fJ [(84, _), (85, _)] 54 [some 52, some 53] fun G a w S => ?_
    exact sIdxV S (wN rfl) rfl rfl rfl hq282 rfl (lb rfl) fun a S => leafL ⟨rfl, S⟩
   ·refine fJ [(86, _)] 55 [some 54] fun G a w S => ?_
    exact sLoadVN (vq := q281) 9 [.bool x200.Back, .slice ad286 x200.Cells.length cp287] S (wN rfl) rfl rfl rfl rfl rfl rfl (lb rfl) fun a S => leafL ⟨rfl, S⟩
   ·refine fJ [(79, _), (83, _), (87, _)] 56 [some 47, some 51, some 55] fun G a w S => ?_
    have S1 := S.mem
    refine sCallVQ (X := Unit) (g := 53) (vs := [.agg #[.bool x181.Back, .slice ad279 x181.Cells.length cp280], .agg #[.bool x200.Back, .slice ad286 x200.Cells.length cp287]]) (caps := []) (val := fun _ => iv r236) S (wN rfl) rfl rfl callee53 rfl (S1.quiet [14, 10] rfl) (fun E1 w1 S1 => c_compare_Charts_2 E1 w1 x181 (.agg #[.bool x181.Back, .slice ad279 x181.Cells.length cp280]) x200 (.agg #[.bool x200.Back, .slice ad286 x200.Cells.length cp287]) r236 hx237 S1) rfl (lb rfl) fun _ a w S => ?_
    exact leafL ⟨rfl, S⟩
   ·refine fJ [(78, _), (88, _)] 8 [some 7, some 56] fun G a w S => ?_
    exact sBin _ S (wN rfl) rfl rfl rfl (bAdd _ _ _ _ x217 r236) rfl (lb rfl) fun a S => leafL ⟨rfl, S⟩
   ·refine fJ [(54, _), (69, _), (89, _)] 3 [some 2, some 40, some 8] fun G a w S => ?_
    exact sMin3 (p := w64 (x176 + r190)) (q := w64 (x195 + r209)) (r := w64 (x217 + r236)) S (wN rfl) rfl rfl rfl rfl rfl (lb rfl) fun a S => leafL ⟨rfl, S⟩
   ·refine fJ [(38, _), (39, _)] 4 [some 13, some 14] fun G a w S => ?_
    exact sIdxV S (wN rfl) rfl rfl rfl hq316 rfl (lb rfl) fun a S => leafL ⟨rfl, S⟩
   refine ⟨_, [(90, iv (min3 (w64 (x176 + r190)) (w64 (x195 + r209)) (w64 (x217 + r236)))), (91, q315)], rfl, (srcs_of [some 3, some 4] rfl rfl rfl), fun G a w S => ?_⟩
   refine sStoreR (r := (rI .i64)) (T := 3) (xs := s41) (ys := l243) (y := (min3 (w64 (x176 + r190)) (w64 (x195 + r209)) (w64 (x217 + r236)))) (v := .slice ad30 s41.length cp31) (vq := q315) (u := iv (min3 (w64 (x176 + r190)) (w64 (x195 + r209)) (w64 (x217 + r236)))) (j := s40) 1 S hp317 (wN rfl) rfl rfl rfl rfl rfl hx244 rfl rfl fun a w S => ?_
   refine leafL ⟨rfl, _, _, .inr ⟨[], rfl, S, hz_of rfl, ?_⟩⟩
   refine node_by (A := anc_compare_table_api_Row__s0_2) 58 (by kernel_rfl) (by kernel_rfl) (by kernel_rfl) (by kernel_rfl) (by kernel_rfl) [11, 12, 19, 55, 56, 9, 42, 43, 54, 39, 0, 1, 2, 3, 4, 5, 6, 7, 8, 10, 13, 14, 15, 16, 17, 18, 20, 21, 22, 23, 24, 25, 26, 27, 28, 29, 30, 31, 32, 33, 34, 35, 36, 37, 38, 40, 41, 44, 45, 46, 47, 48, 49, 50, 51, 52, 53] (by kernel_rfl) (by decide) (by decide) (fD 57 (fD 57 (fD 57 (fD 57 (fD 57 (fD 57 (fD 57 (fD 57 (fD 57 (fY (fD 57 (fD 57 (fD 57 (fD 57 (fD 57 (fD 57 (fD 57 (fD 57 (fD 57 (fD 57 (fD 57 (fD 57 (fD 57 (fD 57 (fD 57 (fD 57 (fD 57 (fD 57 (fD 57 (fD 57 (fD 57 (fD 57 (fD 57 (fD 57 (fD 57 (fD 57 (fD 57 (fD 57 (fD 57 (fY (fD 57 (fD 57 (fD 57 (fD 57 (fD 57 (fD 57 (fD 57 (fD 57 (fD 57 (fD 57 (fD 57 (fD 57 (fD 57 (fD 57 (fD 57 (fD 57 (fD 57 (fY (trivial))))))))))))))))))))))))))))))))))))))))))))))))))))))))))) [(0, .slice ad1 p0.length cp2), (1, .slice ad3 p1.length cp4), (2, .func (.func 52) #[] #[]), (3, .func (.func 53) #[] #[]), (9, .slice ad7 s15.length cp8), (10, iv s16), (11, iv s40)] (fin_of [none, none, none, none, none, none, none] rfl (by kernel_rfl) (by kernel_rfl)) (fun _ a w S => ?_)
   rw [setO_v hx244 ad30 cp31] at S
   exact leafB (leafB (leafT (⟨l243, Option.some.inj h, S.fix [1, 0] [24, 25] (by decide) rfl rfl rfl⟩)))
  ·exact fM 13 none rfl rfl rfl rfl (.inl rfl) rfl rfl rfl
  ·exact fM 14 none rfl rfl rfl rfl (.inl rfl) rfl rfl rfl
  ·exact fM 15 none rfl rfl rfl rfl (.inl rfl) rfl rfl rfl
  ·exact fM 16 none rfl rfl rfl rfl (.inl rfl) rfl rfl rfl
  ·refine fJ [(49, _), (50, _)] 17 [some 15, some 16] fun G a w S => ?_
   exact sIdxV S (wN rfl) rfl rfl rfl hq252 rfl (lb rfl) fun a S => leafL ⟨rfl, S⟩
  ·refine fJ [(51, _)] 18 [some 17] fun G a w S => ?_
   exact sLoadVN (vq := q251) 17 [.bool x181.Back, .slice ad256 x181.Cells.length cp257] S (wN rfl) rfl rfl rfl rfl rfl rfl (lb rfl) fun a S => leafL ⟨rfl, S⟩
  ·refine fJ [(48, _), (52, _)] 19 [some 14, some 18] fun G a w S => ?_
   have S1 := S.mem
   refine sCallVQ (X := Unit) (g := 52) (vs := [.agg #[.bool x181.Back, .slice ad256 x181.Cells.length cp257]]) (caps := []) (val := fun _ => iv r190) S (wN rfl) rfl rfl callee52 rfl (S1.quiet [18] rfl) (fun E1 w1 S1 => c_compare_Charts_1 E1 w1 x181 (.agg #[.bool x181.Back, .slice ad256 x181.Cells.length cp257]) r190 hx191 S1) rfl (lb rfl) fun _ a w S => ?_
   exact leafL ⟨rfl, S⟩
  ·exact fM 20 none rfl rfl rfl rfl (.inl rfl) rfl rfl rfl
  ·exact fM 21 none rfl rfl rfl rfl (.inl rfl) rfl rfl rfl
  ·refine fJ [(55, _), (56, _)] 22 [some 20, some 21] fun G a w S => ?_
   exact sIdxV S (wN rfl) rfl rfl rfl hq259 rfl (lb rfl) fun a S => leafL ⟨rfl, S⟩
  ·refine fJ [(57, _)] 23 [some 22] fun G a w S => ?_
   exact sLoadHE (r := (rL (rI .i64))) (T := 101) (xs := s15) (u := .slice ad30 s41.length cp31) (v := .slice ad7 s15.length cp8) (vq := q258) (j := s16) 0 S hp260 (wN rfl) rfl rfl rfl rfl rfl (lb rfl) fun a S => leafL ⟨rfl, S⟩
  ·exact fM 24 none rfl rfl rfl rfl (.inl rfl) rfl rfl rfl
  ·refine fJ [(59, _)] 25 [some 24] fun G a w S => ?_
   exact sBin _ S (wN rfl) rfl rfl rfl (bAdd _ _ _ _ s40 1) rfl (lb rfl) fun a S => leafL ⟨rfl, S⟩
  ·refine fJ [(58, _), (60, _)] 26 [some 23, some 25] fun G a w S => ?_
   exact sIdxV S (wN rfl) rfl rfl rfl hq262 rfl (lb rfl) fun a S => leafL ⟨rfl, S⟩
  ·refine fJ [(61, _)] 27 [some 26] fun G a w S => ?_
   exact sLoadR (r := (rI .i64)) (T := 3) (xs := s41) (x := x195) (v := .slice ad30 s41.length cp31) (vq := q261) (j := w64 (s40 + 1)) 1 (iv x195) S hp263 (wN rfl) rfl rfl rfl hx196 (fun _ _ _ h => h) (scal_I _) rfl rfl (lb rfl) fun a S => leafL ⟨rfl, S⟩
  ·exact fM 28 none rfl rfl rfl rfl (.inl rfl) rfl rfl rfl
  ·exact fM 29 none rfl rfl rfl rfl (.inl rfl) rfl rfl rfl
  ·exact fM 30 none rfl rfl rfl rfl (.inl rfl) rfl rfl rfl
  ·refine fJ [(64, _), (65, _)] 31 [some 29, some 30] fun G a w S => ?_
   exact sIdxV S (wN rfl) rfl rfl rfl hq265 rfl (lb rfl) fun a S => leafL ⟨rfl, S⟩
  ·refine fJ [(66, _)] 32 [some 31] fun G a w S => ?_
   exact sLoadVN (vq := q264) 13 [.bool x200.Back, .slice ad269 x200.Cells.length cp270] S (wN rfl) rfl rfl rfl rfl rfl rfl (lb rfl) fun a S => leafL ⟨rfl, S⟩
  ·refine fJ [(63, _), (67, _)] 33 [some 28, some 32] fun G a w S => ?_
   have S1 := S.mem
   refine sCallVQ (X := Unit) (g := 52) (vs := [.agg #[.bool x200.Back, .slice ad269 x200.Cells.length cp270]]) (caps := []) (val := fun _ => iv r209) S (wN rfl) rfl rfl callee52 rfl (S1.quiet [14] rfl) (fun E1 w1 S1 => c_compare_Charts_1 E1 w1 x200 (.agg #[.bool x200.Back, .slice ad269 x200.Cells.length cp270]) r209 hx210 S1) rfl (lb rfl) fun _ a w S => ?_
   exact leafL ⟨rfl, S⟩
  ·refine fJ [(62, _), (68, _)] 34 [some 27, some 33] fun G a w S => ?_
   exact sBin _ S (wN rfl) rfl rfl rfl (bAdd _ _ _ _ x195 r209) rfl (lb rfl) fun a S => leafL ⟨rfl, S⟩
  ·exact fM 39 none rfl rfl rfl rfl (.inl rfl) rfl rfl rfl
  ·refine fJ [(75, _)] 40 [some 39] fun G a w S => ?_
   exact sBin _ S (wN rfl) rfl rfl rfl (bAdd _ _ _ _ s40 1) rfl (lb rfl) fun a S => leafL ⟨rfl, S⟩
  ·refine fJ [(74, _), (76, _)] 0 [some 3, some 40] fun G a w S => ?_
   exact sIdxV S (wN rfl) rfl rfl rfl hq307 rfl (lb rfl) fun a S => leafL ⟨rfl, S⟩
  ·refine fJ [(77, _)] 1 [some 0] fun G a w S => ?_
   exact sLoadV1 (vq := q306) 0 (iv x217) S (wN rfl) rfl rfl rfl rfl rfl (lb rfl) fun a S => leafL ⟨rfl, S⟩
  ·exact fM 41 none rfl rfl rfl rfl (.inl rfl) rfl rfl rfl
  ·exact fM 42 none rfl rfl rfl rfl (.inl rfl) rfl rfl rfl
  ·exact fM 43 none rfl rfl rfl rfl (.inl rfl) rfl rfl rfl
  ·refine fJ [(80, _), (81, _)] 44 [some 42, some 43] fun G a w S => ?_
   exact sIdxV S (wN rfl) rfl rfl rfl hq275 rfl (lb rfl) fun a S => leafL ⟨rfl, S⟩
  ·refine fJ [(82, _)] 45 [some 44] fun G a w S => ?_
   exact sLoadVN (vq := q274) 9 [.bool x181.Back, .slice ad279 x181.Cells.length cp280] S (wN rfl) rfl rfl rfl rfl rfl rfl (lb rfl) fun a S => leafL ⟨rfl, S⟩
  ·exact fM 46 none rfl rfl rfl rfl (.inl rfl) rfl rfl rfl
  ·exact fM 47 none rfl rfl rfl rfl (.inl rfl) rfl rfl rfl
  ·refine fJ [(84, _), (85, _)] 48 [some 46, some 47] fun G a w S => ?_
   exact sIdxV S (wN rfl) rfl rfl rfl hq282 rfl (lb rfl) fun a S => leafL ⟨rfl, S⟩
  ·refine fJ [(86, _)] 49 [some 48] fun G a w S => ?_
   exact sLoadVN (vq := q281) 5 [.bool x200.Back, .slice ad286 x200.Cells.length cp287] S (wN rfl) rfl rfl rfl rfl rfl rfl (lb rfl) fun a S => leafL ⟨rfl, S⟩
  ·refine fJ [(79, _), (83, _), (87, _)] 50 [some 41, some 45, some 49] fun G a w S => ?_
   have S1 := S.mem
   refine sCallVQ (X := Unit) (g := 53) (vs := [.agg #[.bool x181.Back, .slice ad279 x181.Cells.length cp280], .agg #[.bool x200.Back, .slice ad286 x200.Cells.length cp287]]) (caps := []) (val := fun _ => iv r236) S (wN rfl) rfl rfl callee53 rfl (S1.quiet [10, 6] rfl) (fun E1 w1 S1 => c_compare_Charts_2 E1 w1 x181 (.agg #[.bool x181.Back, .slice ad279 x181.Cells.length cp280]) x200 (.agg #[.bool x200.Back, .slice ad286 x200.Cells.length cp287]) r236 hx237 S1) rfl (lb rfl) fun _ a w S => ?_
   exact leafL ⟨rfl, S⟩
  refine fJ [(78, _), (88, _)] 2 [some 1, some 50] fun G a w S => ?_
  exact sBin _ S (wN rfl) rfl rfl rfl (bAdd _ _ _ _ x217 r236) rfl (lb rfl) fun a S => leafL ⟨rfl, S⟩
 ·exact fM 35 none rfl rfl rfl rfl (.inl rfl) rfl rfl rfl
 ·refine fJ [(75, _)] 36 [some 35] fun G a w S => ?_
  exact sBin _ S (wN rfl) rfl rfl rfl (bAdd _ _ _ _ s40 1) rfl (lb rfl) fun a S => leafL ⟨rfl, S⟩
 ·exact fM 37 none rfl rfl rfl rfl (.inl rfl) rfl rfl rfl
 ·exact fM 38 none rfl rfl rfl rfl (.inl rfl) rfl rfl rfl
 ·exact fM 39 none rfl rfl rfl rfl (.inl rfl) rfl rfl rfl
 ·refine fJ [(80, _), (81, _)] 40 [some 38, some 39] fun G a w S => ?_
  exact sIdxV S (wN rfl) rfl rfl rfl hq275 rfl (lb rfl) fun a S => leafL ⟨rfl, S⟩
 ·refine fJ [(82, _)] 41 [some 40] fun G a w S => ?_
  exact sLoadVN (vq := q274) 5 [.bool x181.Back, .slice ad279 x181.Cells.length cp280] S (wN rfl) rfl rfl rfl rfl rfl rfl (lb rfl) fun a S => leafL ⟨rfl, S⟩
 ·exact fM 42 none rfl rfl rfl rfl (.inl rfl) rfl rfl rfl
 ·exact fM 43 none rfl rfl rfl rfl (.inl rfl) rfl rfl rfl
 ·refine fJ [(84, _), (85, _)] 44 [some 42, some 43] fun G a w S => ?_
  exact sIdxV S (wN rfl) rfl rfl rfl hq282 rfl (lb rfl) fun a S => leafL ⟨rfl, S⟩
 ·refine fJ [(86, _)] 45 [some 44] fun G a w S => ?_
  exact sLoadVN (vq := q281) 1 [.bool x200.Back, .slice ad286 x200.Cells.length cp287] S (wN rfl) rfl rfl rfl rfl rfl rfl (lb rfl) fun a S => leafL ⟨rfl, S⟩
 refine fJ [(79, _), (83, _), (87, _)] 46 [some 37, some 41, some 45] fun G a w S => ?_
 have S1 := S.mem
 refine sCallVQ (X := Unit) (g := 53) (vs := [.agg #[.bool x181.Back, .slice ad279 x181.Cells.length cp280], .agg #[.bool x200.Back, .slice ad286 x200.Cells.length cp287]]) (caps := []) (val := fun _ => iv r236) S (wN rfl) rfl rfl callee53 rfl (S1.quiet [6, 2] rfl) (fun E1 w1 S1 => c_compare_Charts_2 E1 w1 x181 (.agg #[.bool x181.Back, .slice ad279 x181.Cells.length cp280]) x200 (.agg #[.bool x200.Back, .slice ad286 x200.Cells.length cp287]) r236 hx237 S1) rfl (lb rfl) fun _ a w S => ?_
 exact leafL ⟨rfl, S⟩
end Go.Proofs.Ytffikfajljbmnaa
namespace Go.Proofs.Ytffikfajljbmnaa
open Go.RowKit
noncomputable def F_compare_Charts (p0 : api_Chart) (p1 : api_Chart) : Option (Int × Int) :=
 Option.bind (F_chart_Check p0) fun r14 =>
 if r14 != 0 then
  some (0, r14)
 else
  Option.bind (F_chart_Check p1) fun r21 =>
  if r21 != 0 then
   some (0, r21)
  else
   Option.bind (F_compare_table_api_Row__s0 p0.Rows p1.Rows) fun r27 =>
   Option.bind (idxO r27 0) fun x33 =>
   Option.bind (idxO x33 0) fun x40 =>
   Option.bind (α := Int) (
    if p0.Start != p1.Start then
     some (w64 (x40 + 1))
    else
     some x40) fun o45 =>
   some (o45, 0)
set_option maxHeartbeats 4000000 in
set_option maxRecDepth 100000 in
theorem c_compare_Charts (E : Nat → Prop) (w0 : World) (p0 : api_Chart) (v0 : Value) (p1 : api_Chart) (v1 : Value) (r : (Int × Int)) (h : F_compare_Charts p0 p1 = some r) (S : St0 E [] w0 w0 [] [fRep r_api_Chart (v0) p0, fRep r_api_Chart (v1) p1]) :
 Calls Try.prog 20 #[v0, v1] w0 (Ret (X := Unit) E [] w0 (fun _ => .tuple #[.int .i64 r.1, .int .i64 r.2]) (fun _ => []) (fun _ => [])) := by
 unfold F_compare_Charts at h
 obtain ⟨u1, rfl, hu2⟩ := S.know (i := 0) (e := fRep r_api_Chart (v0) p0) rfl
 have S := S.learn (fRep (rL r_api_Row) u1 p0.Rows) hu2
 obtain ⟨ad3, cp4, _, rfl, _⟩ := hu2
 obtain ⟨u5, rfl, hu6⟩ := S.know (i := 2) (e := fRep r_api_Chart (v1) p1) rfl
 have S := S.learn (fRep (rL r_api_Row) u5 p1.Rows) hu6
 obtain ⟨ad7, cp8, _, rfl, _⟩ := hu6
 refine sEnter (args := [.agg #[iv p0.Start, .slice ad3 p0.Rows.length cp4], .agg #[iv p1.Start, .slice ad7 p1.Rows.length cp8]]) 38 Try.func20 rfl rfl (by simp) S (fun a S => ?_)
 refine sSeq (fun K9 hK9 => ?_)
 refine sRegion ?_
 refine sBox (v := .agg #[iv p0.Start, .slice ad3 p0.Rows.length cp4]) S (wN rfl) rfl rfl [iv p0.Start, .slice ad3 p0.Rows.length cp4] rfl rfl (lb rfl) fun a b10 w S => ?_
 refine sBox (v := .agg #[iv p1.Start, .slice ad7 p1.Rows.length cp8]) S (wN rfl) rfl rfl [iv p1.Start, .slice ad7 p1.Rows.length cp8] rfl rfl (lb rfl) fun a b11 w S => ?_
 refine sMa S rfl rfl rfl rfl rfl fun a S => ?_
 refine sMa S rfl rfl rfl rfl rfl fun a S => ?_
 refine lT (hK9 _ _ ?_)
 refine sSeq (fun K12 hK12 => ?_)
 refine sSeq (fun K13 hK13 => ?_)
 refine sRegion ?_
 refine sLoadN (p := b10) (off := 0) (T := 42) (vs := [iv p0.Start, .slice ad3 p0.Rows.length cp4]) 1 [iv p0.Start, .slice ad3 p0.Rows.length cp4] S (wN rfl) rfl rfl rfl rfl rfl rfl rfl (lb rfl) fun a S => ?_
 obtain ⟨r14, hx15, h⟩ := bindSome h
 have S1 := S.mem
 refine sCallQ (X := Unit) (f := 50) (vs := [.agg #[iv p0.Start, .slice ad3 p0.Rows.length cp4]]) (val := fun _ => iv r14) S (wN rfl) rfl callee50 rfl (S1.quiet [2] rfl) (fun E1 w1 S1 => c_chart_Check E1 w1 p0 (.agg #[iv p0.Start, .slice ad3 p0.Rows.length cp4]) r14 hx15 S1) rfl (lb rfl) fun _ a w S => ?_
 refine sMa S rfl rfl rfl rfl rfl fun a S => ?_
 refine lT (hK13 _ _ ?_)
 refine sSeq (fun K16 hK16 => ?_)
 refine sRegion ?_
 refine sMm S rfl rfl rfl rfl rfl fun a S => ?_
 refine sBin _ S (wN rfl) rfl rfl rfl (bNe _ _ _ _ .i64 r14 0) rfl (lb rfl) fun a S => ?_
 refine lT (hK16 _ _ ?_)
 rcases iteSome h with ⟨hc17, h⟩ | ⟨hc17, h⟩
 ·refine sCondT S rfl hc17 ?_
  refine sSeq (fun K18 hK18 => ?_)
  refine sRegion ?_
  refine sMm S rfl rfl rfl rfl rfl fun a S => ?_
  refine sMa S rfl rfl rfl rfl rfl fun a S => ?_
  refine sMa S rfl rfl rfl rfl rfl fun a S => ?_
  refine lT (hK18 _ _ ?_)
  obtain rfl := Option.some.inj h
  exact wp_ret (rThen (sRet (.tuple #[iv 0, iv r14]) S (rsl2 rfl (rvT (t := 4) (v := iv 0) S rfl) (rvT (t := 5) (v := iv r14) S rfl)) ⟨(), rfl, S.mem.sel [] [] (by decide) rfl rfl⟩))
 refine sCondF S rfl hc17 ?_
 refine wp_skip (leafT (hK12 _ _ ?_))
 refine sSeq (fun K19 hK19 => ?_)
 refine sSeq (fun K20 hK20 => ?_)
 refine sRegion ?_
 refine sLoadN (p := b11) (off := 0) (T := 42) (vs := [iv p1.Start, .slice ad7 p1.Rows.length cp8]) 0 [iv p1.Start, .slice ad7 p1.Rows.length cp8] S (wN rfl) rfl rfl rfl rfl rfl rfl rfl (lb rfl) fun a S => ?_
 obtain ⟨r21, hx22, h⟩ := bindSome h
 have S1 := S.mem
 refine sCallQ (X := Unit) (f := 50) (vs := [.agg #[iv p1.Start, .slice ad7 p1.Rows.length cp8]]) (val := fun _ => iv r21) S (wN rfl) rfl callee50 rfl (S1.quiet [3] rfl) (fun E1 w1 S1 => c_chart_Check E1 w1 p1 (.agg #[iv p1.Start, .slice ad7 p1.Rows.length cp8]) r21 hx22 S1) rfl (lb rfl) fun _ a w S => ?_
 refine sMa S rfl rfl rfl rfl rfl fun a S => ?_
 refine lT (hK20 _ _ ?_)
 refine sSeq (fun K23 hK23 => ?_)
 refine sRegion ?_
 refine sMm S rfl rfl rfl rfl rfl fun a S => ?_
 refine sBin _ S (wN rfl) rfl rfl rfl (bNe _ _ _ _ .i64 r21 0) rfl (lb rfl) fun a S => ?_
 refine lT (hK23 _ _ ?_)
 rcases iteSome h with ⟨hc24, h⟩ | ⟨hc24, h⟩
 ·refine sCondT S rfl hc24 ?_
  refine sSeq (fun K25 hK25 => ?_)
  refine sRegion ?_
  refine sMm S rfl rfl rfl rfl rfl fun a S => ?_
  refine sMa S rfl rfl rfl rfl rfl fun a S => ?_
  refine sMa S rfl rfl rfl rfl rfl fun a S => ?_
  refine lT (hK25 _ _ ?_)
  obtain rfl := Option.some.inj h
  exact wp_ret (rThen (sRet (.tuple #[iv 0, iv r21]) S (rsl2 rfl (rvT (t := 4) (v := iv 0) S rfl) (rvT (t := 5) (v := iv r21) S rfl)) ⟨(), rfl, S.mem.sel [] [] (by decide) rfl rfl⟩))
 refine sCondF S rfl hc24 ?_
 refine wp_skip (leafT (hK19 _ _ ?_))
 refine sSeq (fun K26 hK26 => ?_)
 refine sRegion ?_
 refine sField (b := b10) (off := 0) 1 1 S (wN rfl) rfl rfl rfl rfl rfl (lb rfl) fun a S => ?_
 refine sLoad1 1 (.slice ad3 p0.Rows.length cp4) S (wN rfl) rfl rfl rfl rfl rfl rfl (lb rfl) fun a S => ?_
 refine sField (b := b11) (off := 0) 1 1 S (wN rfl) rfl rfl rfl rfl rfl (lb rfl) fun a S => ?_
 refine sLoad1 0 (.slice ad7 p1.Rows.length cp8) S (wN rfl) rfl rfl rfl rfl rfl rfl (lb rfl) fun a S => ?_
 obtain ⟨r27, hx28, h⟩ := bindSome h
 refine sCall (X := Value) (f := 51) (vs := [.slice ad3 p0.Rows.length cp4, .slice ad7 p1.Rows.length cp8, .func (.func 52) #[] #[], .func (.func 53) #[] #[]]) (val := c_compare_table_api_Row__s0_val r27) (B' := fun _ => []) (D' := c_compare_table_api_Row__s0_D r27) [] [eBox b11 42 [iv p1.Start, .slice ad7 p1.Rows.length cp8], eBox b10 42 [iv p0.Start, .slice ad3 p0.Rows.length cp4]] [fRep (rL r_api_Row) (.slice ad3 p0.Rows.length cp4) p0.Rows, fRep (rL r_api_Row) (.slice ad7 p1.Rows.length cp8) p1.Rows] [0, 1] [1, 0] S (wN rfl) rfl callee51 rfl (by decide) rfl rfl (fun E1 w1 S1 => c_compare_table_api_Row__s0 E1 w1 p0.Rows (.slice ad3 p0.Rows.length cp4) p1.Rows (.slice ad7 p1.Rows.length cp8) r27 hx28 S1) rfl (lb rfl) fun u29 a w S => ?_
 obtain ⟨ad30, cp31, _, rfl, _⟩ := S.mem.know (i := 0) (e := fRep (rL (rL (rI .i64))) (u29) r27) rfl
 refine sMa S rfl rfl rfl rfl rfl fun a S => ?_
 refine lT (hK26 _ _ ?_)
 refine sSeq (fun K32 hK32 => ?_)
 refine sRegion ?_
 refine sMm S rfl rfl rfl rfl rfl fun a S => ?_
 obtain ⟨x33, hx34, h⟩ := bindSome h
 obtain ⟨q35, hq36, S⟩ := pIdx (P := Try.prog) (r := (rL (rI .i64))) (v := .slice ad30 r27.length cp31) (xs := r27) (j := 0) 98 101 0 S Try.underlying98 rfl rfl hx34
 refine sIdxV S (wN rfl) rfl rfl rfl hq36 rfl (lb rfl) fun a S => ?_
 obtain ⟨u37, S⟩ := pLoad (r := (rL (rI .i64))) (q := q35) (x := x33) 0 S rfl
 obtain ⟨ad38, cp39, _, rfl, _⟩ := S.mem.know (i := 1) (e := fRep (rL (rI .i64)) (u37) x33) rfl
 refine sLoadV1 (vq := q35) 0 (.slice ad38 x33.length cp39) S (wN rfl) rfl rfl rfl rfl rfl (lb rfl) fun a S => ?_
 obtain ⟨x40, hx41, h⟩ := bindSome h
 obtain ⟨q42, hq43, S⟩ := pIdx (P := Try.prog) (r := (rI .i64)) (v := .slice ad38 x33.length cp39) (xs := x33) (j := 0) 101 3 1 S Try.underlying101 rfl rfl hx41
 refine sIdxV S (wN rfl) rfl rfl rfl hq43 rfl (lb rfl) fun a S => ?_
 obtain ⟨u44, S⟩ := pLoad (r := (rI .i64)) (q := q42) (x := x40) 0 S rfl
 obtain rfl : u44 = iv x40 := S.mem.know (i := 1) (e := fRep (rI .i64) (u44) x40) rfl
 refine sLoadV1 (vq := q42) 0 (iv x40) S (wN rfl) rfl rfl rfl rfl rfl (lb rfl) fun a S => ?_
 refine sMa S rfl rfl rfl rfl rfl fun a S => ?_
 refine lT (hK32 _ _ ?_)
 obtain ⟨t46, h, g47⟩ := bindSome h
 refine sCut (fun a w => ∃ o45, o45 = t46 ∧ St [] E [] w0 38 a w [(9, iv o45)] [] []) ?_ (fun a w hI => ?_)
 rotate_left
 ·obtain ⟨o45, rfl, S⟩ := hI
  have h := g47
  clear g47
  try dsimp only at h
  refine sSeq (fun K50 hK50 => ?_)
  refine sRegion ?_
  refine sMm S rfl rfl rfl rfl rfl fun a S => ?_
  refine sMa S rfl rfl rfl rfl rfl fun a S => ?_
  refine sMa S rfl rfl rfl rfl rfl fun a S => ?_
  refine lT (hK50 _ _ ?_)
  obtain rfl := Option.some.inj h
  exact wp_ret (sRet (.tuple #[iv o45, iv 0]) S (rsl2 rfl (rvT (t := 4) (v := iv o45) S rfl) (rvT (t := 5) (v := iv 0) S rfl)) ⟨(), rfl, S.mem.sel [] [] (by decide) rfl rfl⟩)
 refine sSeq (fun K48 hK48 => ?_)
 refine sRegion ?_
 refine sField (b := b10) (off := 0) 0 0 S (wN rfl) rfl rfl rfl rfl rfl (lb rfl) fun a S => ?_
 refine sLoad1 1 (iv p0.Start) S (wN rfl) rfl rfl rfl rfl rfl rfl (lb rfl) fun a S => ?_
 refine sField (b := b11) (off := 0) 0 0 S (wN rfl) rfl rfl rfl rfl rfl (lb rfl) fun a S => ?_
 refine sLoad1 0 (iv p1.Start) S (wN rfl) rfl rfl rfl rfl rfl rfl (lb rfl) fun a S => ?_
 refine sBin _ S (wN rfl) rfl rfl rfl (bNe _ _ _ _ .i64 p0.Start p1.Start) rfl (lb rfl) fun a S => ?_
 refine lT (hK48 _ _ ?_)
 rcases iteSome h with ⟨hc49, h⟩ | ⟨hc49, h⟩
 rotate_left
 ·refine sCondF S rfl hc49 ?_
  exact wp_skip (leafT (⟨x40, Option.some.inj h, S.fix [] [] (by decide) rfl rfl rfl⟩))
 refine sCondT S rfl hc49 ?_
 refine sRegion ?_
 refine sMm S rfl rfl rfl rfl rfl fun a S => ?_
 refine sBin _ S (wN rfl) rfl rfl rfl (bAdd _ _ _ _ x40 1) rfl (lb rfl) fun a S => ?_
 refine sMa S rfl rfl rfl rfl rfl fun a S => ?_
 exact lT (⟨w64 (x40 + 1), Option.some.inj h, S.fix [] [] (by decide) rfl rfl rfl⟩)
end Go.Proofs.Ytffikfajljbmnaa
namespace Go.Proofs.Ytffikfajljbmnaa
open Go.RowKit
def anc_compare_Edits_0 : List (List Nat) := [[], [], [1], [0, 1, 2], [0, 1, 2, 3], [0, 1, 2, 3, 4], [0, 1, 2, 3, 4], [0, 1, 2, 3, 4, 6], [0, 1, 2, 3, 4, 5, 6, 7], [0, 1, 2, 3, 4, 5, 6, 7, 8], [0, 1, 2, 3, 4, 5, 6, 7, 8, 9], [0, 1, 2, 3, 4, 5, 6, 7, 8, 9, 10], [0, 1, 2, 3, 4, 5, 6, 7, 8, 9, 10], [0, 1, 2, 3, 4, 5, 6, 7, 8, 9, 10, 11, 12], [0, 1, 2, 3, 4, 5, 6, 7, 8, 9, 10, 11, 12, 13], [0, 1, 2, 3, 4, 5, 6, 7, 8, 9, 10], [0, 1, 2, 3, 4, 5, 6, 7, 8, 9, 10], [0, 1, 2, 3, 4, 5, 6, 7, 8, 9, 10, 15, 16], [0, 1, 2, 3, 4, 5, 6, 7, 8, 9, 10, 15, 16, 17], [0, 1, 2, 3, 4, 5, 6, 7, 8, 9, 10, 11, 12, 13, 14, 15, 16, 17, 18], [0, 1, 2, 3, 4, 5, 6, 7, 8, 9, 10, 11, 12, 13, 14, 15, 16, 17, 18, 19], [0, 1, 2, 3, 4, 5, 6, 7, 8, 9, 10, 11, 12, 13, 14, 15, 16, 17, 18, 19, 20], [0, 1, 2, 3, 4, 5, 6, 7, 8, 9, 10, 11, 12, 13, 14, 15, 16, 17, 18, 19, 20, 21], [0, 1, 2, 3, 4, 5, 6, 7, 8, 9, 10, 11, 12, 13, 14, 15, 16, 17, 18, 19, 20, 21], [0, 1, 2, 3, 4, 5, 6, 7, 8, 9, 10, 11, 12, 13, 14, 15, 16, 17, 18, 19, 20, 21], [0, 1, 2, 3, 4, 5, 6, 7, 8, 9, 10, 11, 12, 13, 14, 15, 16, 17, 18, 19, 20, 21, 24], [0, 1, 2, 3, 4, 5, 6, 7, 8, 9, 10, 11, 12, 13, 14, 15, 16, 17, 18, 19, 20, 21, 23, 24, 25], [0, 1, 2, 3, 4, 5, 6, 7, 8, 9, 10, 11, 12, 13, 14, 15, 16, 17, 18, 19, 20, 21, 23, 24, 25, 26], [0, 1, 2, 3, 4, 5, 6, 7, 8, 9, 10, 11, 12, 13, 14, 15, 16, 17, 18, 19, 20, 21], [0, 1, 2, 3, 4, 5, 6, 7, 8, 9, 10, 11, 12, 13, 14, 15, 16, 17, 18, 19, 20, 21, 28], [0, 1, 2, 3, 4, 5, 6, 7, 8, 9, 10, 11, 12, 13, 14, 15, 16, 17, 18, 19, 20, 21, 23, 24, 25, 26, 27, 28, 29], [0, 1, 2, 3, 4, 5, 6, 7, 8, 9, 10, 11, 12, 13, 14, 15, 16, 17, 18, 19, 20, 21, 23, 24, 25, 26, 27, 28, 29, 30], [0, 1, 2, 3, 4, 5, 6, 7, 8, 9, 10, 11, 12, 13, 14, 15, 16, 17, 18, 19, 20, 21, 22, 23, 24, 25, 26, 27, 28, 29, 30, 31], [0, 1, 2, 3, 4, 5, 6, 7, 8, 9, 10, 11, 12, 13, 14, 15, 16, 17, 18, 19, 20, 21, 22, 23, 24, 25, 26, 27, 28, 29, 30, 31, 32], [0, 1, 2, 3, 4, 5, 6, 7, 8, 9, 10, 11, 12, 13, 14, 15, 16, 17, 18, 19, 20, 21, 22, 23, 24, 25, 26, 27, 28, 29, 30, 31, 32, 33]]
def anc_compare_Edits_1 : List (List Nat) := [[], [], [1], [0, 1, 2], [0, 1, 2, 3], [0, 1, 2, 3, 4], [0, 1, 2, 3, 4], [0, 1, 2, 3, 4, 6], [0, 1, 2, 3, 4, 5, 6, 7], [0, 1, 2, 3, 4, 5, 6, 7, 8], [0, 1, 2, 3, 4, 5, 6, 7, 8, 9], [0, 1, 2, 3, 4, 5, 6, 7, 8, 9, 10], [0, 1, 2, 3, 4, 5, 6, 7, 8, 9, 10], [0, 1, 2, 3, 4, 5, 6, 7, 8, 9, 10, 11, 12], [0, 1, 2, 3, 4, 5, 6, 7, 8, 9, 10, 11, 12, 13], [0, 1, 2, 3, 4, 5, 6, 7, 8, 9, 10], [0, 1, 2, 3, 4, 5, 6, 7, 8, 9, 10], [0, 1, 2, 3, 4, 5, 6, 7, 8, 9, 10, 15, 16], [0, 1, 2, 3, 4, 5, 6, 7, 8, 9, 10, 15, 16, 17], [0, 1, 2, 3, 4, 5, 6, 7, 8, 9, 10, 11, 12, 13, 14, 15, 16, 17, 18], [0, 1, 2, 3, 4, 5, 6, 7, 8, 9, 10, 11, 12, 13, 14, 15, 16, 17, 18, 19], [0, 1, 2, 3, 4, 5, 6, 7, 8, 9, 10, 11, 12, 13, 14, 15, 16, 17, 18, 19, 20], [0, 1, 2, 3, 4, 5, 6, 7, 8, 9, 10, 11, 12, 13, 14, 15, 16, 17, 18, 19, 20, 21], [0, 1, 2, 3, 4, 5, 6, 7, 8, 9, 10, 11, 12, 13, 14, 15, 16, 17, 18, 19, 20, 21], [0, 1, 2, 3, 4, 5, 6, 7, 8, 9, 10, 11, 12, 13, 14, 15, 16, 17, 18, 19, 20, 21], [0, 1, 2, 3, 4, 5, 6, 7, 8, 9, 10, 11, 12, 13, 14, 15, 16, 17, 18, 19, 20, 21, 24], [0, 1, 2, 3, 4, 5, 6, 7, 8, 9, 10, 11, 12, 13, 14, 15, 16, 17, 18, 19, 20, 21, 23, 24, 25], [0, 1, 2, 3, 4, 5, 6, 7, 8, 9, 10, 11, 12, 13, 14, 15, 16, 17, 18, 19, 20, 21, 23, 24, 25, 26], [0, 1, 2, 3, 4, 5, 6, 7, 8, 9, 10, 11, 12, 13, 14, 15, 16, 17, 18, 19, 20, 21], [0, 1, 2, 3, 4, 5, 6, 7, 8, 9, 10, 11, 12, 13, 14, 15, 16, 17, 18, 19, 20, 21, 28], [0, 1, 2, 3, 4, 5, 6, 7, 8, 9, 10, 11, 12, 13, 14, 15, 16, 17, 18, 19, 20, 21, 23, 24, 25, 26, 27, 28, 29], [0, 1, 2, 3, 4, 5, 6, 7, 8, 9, 10, 11, 12, 13, 14, 15, 16, 17, 18, 19, 20, 21, 23, 24, 25, 26, 27, 28, 29, 30], [0, 1, 2, 3, 4, 5, 6, 7, 8, 9, 10, 11, 12, 13, 14, 15, 16, 17, 18, 19, 20, 21, 23, 24, 25, 26, 27, 28, 29, 30, 31], [0, 1, 2, 3, 4, 5, 6, 7, 8, 9, 10, 11, 12, 13, 14, 15, 16, 17, 18, 19, 20, 21, 22, 23, 24, 25, 26, 27, 28, 29, 30, 31, 32], [0, 1, 2, 3, 4, 5, 6, 7, 8, 9, 10, 11, 12, 13, 14, 15, 16, 17, 18, 19, 20, 21, 22, 23, 24, 25, 26, 27, 28, 29, 30, 31, 32, 33], [0, 1, 2, 3, 4, 5, 6, 7, 8, 9, 10, 11, 12, 13, 14, 15, 16, 17, 18, 19, 20, 21, 22, 23, 24, 25, 26, 27, 28, 29, 30, 31, 32, 33, 34]]
def anc_compare_Edits_2 : List (List Nat) := [[], [], [1], [1, 2], [1, 2, 3], [1, 2, 3, 4], [0], [0, 1, 2, 3, 4, 5, 6], [0, 1, 2, 3, 4, 5, 6, 7]]
noncomputable def compare_Edits_l1 (p0 : (List api_Stitch)) (p1 : (List api_Stitch)) : Int → Option (Int ⊕ (((List api_CellStep) × Int × Int) ⊕ Unit)) := fun s0 => match s0 with
 | s9 =>
  if decide (s9 < 2) then
   Option.bind (idxO ([p0, p1] : List (List api_Stitch)) s9) fun x19 =>
   Option.bind (F_stitch_All x19) fun r24 =>
   if r24 != 0 then
    some (.inr (.inl (([] : (List api_CellStep)), 0, r24)))
   else
    some (.inl (w64 (s9 + 1)))
  else
   some (.inr (.inr ()))
noncomputable def compare_Edits_l2 (p0 : (List api_Stitch)) (p1 : (List api_Stitch)) (r30 : (List (List Int))) : (List api_CellStep × Int × Int) → Option ((List api_CellStep × Int × Int) ⊕ List api_CellStep) := fun s0 => match s0 with
 | (s42, s45, s46) =>
  Option.bind (α := Bool) (
   if decide (s45 < (p0.length : Int)) then
    some true
   else
    some (decide (s46 < (p1.length : Int)))) fun o54 =>
  if o54 then
   Option.bind (idxO r30 s45) fun x60 =>
   Option.bind (idxO x60 s46) fun x67 =>
   Option.bind (α := Bool) (
    if decide (s45 < (p0.length : Int)) then
     if decide (s46 < (p1.length : Int)) then
      Option.bind (idxO p0 s45) fun x77 =>
      Option.bind (idxO p1 s46) fun x82 =>
      if ((x77.Kind == x82.Kind) && ((x77.Purl == x82.Purl) && ((x77.A == x82.A) && ((x77.B == x82.B) && true)))) then
       Option.bind (idxO r30 (w64 (s45 + 1))) fun x88 =>
       Option.bind (idxO x88 (w64 (s46 + 1))) fun x95 =>
       some (x67 == x95)
      else
       some false
     else
      some false
    else
     some false) fun o72 =>
   if o72 then
    Option.bind (appO s42 [(api_CellStep.mk 1 (api_Stitch.mk 0 false 0 0))]) fun l124 =>
    some (.inl (l124, w64 (s45 + 1), w64 (s46 + 1)))
   else
    Option.bind (α := Bool) (
     if decide (s45 < (p0.length : Int)) then
      if decide (s46 < (p1.length : Int)) then
       Option.bind (idxO p0 s45) fun x134 =>
       Option.bind (idxO p1 s46) fun x139 =>
       if !((x134.Kind == x139.Kind) && ((x134.Purl == x139.Purl) && ((x134.A == x139.A) && ((x134.B == x139.B) && true)))) then
        Option.bind (idxO r30 (w64 (s45 + 1))) fun x145 =>
        Option.bind (idxO x145 (w64 (s46 + 1))) fun x152 =>
        some (x67 == (w64 (1 + x152)))
       else
        some false
      else
       some false
     else
      some false) fun o129 =>
    if o129 then
     Option.bind (idxO p1 s46) fun x179 =>
     Option.bind (appO s42 [(api_CellStep.mk 2 x179)]) fun l186 =>
     some (.inl (l186, w64 (s45 + 1), w64 (s46 + 1)))
    else
     Option.bind (α := Bool) (
      if decide (s45 < (p0.length : Int)) then
       Option.bind (idxO r30 (w64 (s45 + 1))) fun x195 =>
       Option.bind (idxO x195 s46) fun x202 =>
       some (x67 == (w64 (1 + x202)))
      else
       some false) fun o191 =>
     if o191 then
      Option.bind (appO s42 [(api_CellStep.mk 4 (api_Stitch.mk 0 false 0 0))]) fun l211 =>
      some (.inl (l211, w64 (s45 + 1), s46))
     else
      Option.bind (idxO p1 s46) fun x216 =>
      Option.bind (appO s42 [(api_CellStep.mk 3 x216)]) fun l223 =>
      some (.inl (l223, s45, w64 (s46 + 1)))
  else
   some (.inr s42)
noncomputable def F_compare_Edits (p0 : (List api_Stitch)) (p1 : (List api_Stitch)) : Option ((List api_CellStep) × Int × Int) :=
 Option.bind (α := Unit ⊕ ((List api_CellStep) × Int × Int)) (
  Option.bind (whileO (compare_Edits_l1 p0 p1) 0) fun z0 => match z0 with
   | .inl z =>
    some (.inr z)
   | .inr _ =>
    some (.inl ())) fun z0 => match z0 with
  | .inl _ =>
   Option.bind (F_compare_cellTable p0 p1) fun r30 =>
   Option.bind (α := List api_CellStep) (
    Option.bind (whileO (compare_Edits_l2 p0 p1 r30) (([] : List api_CellStep), 0, 0)) fun e50 =>
     some e50) fun o37 =>
   Option.bind (idxO r30 0) fun x228 =>
   Option.bind (idxO x228 0) fun x235 =>
   some (o37, x235, 0)
  | .inr z =>
   some z
def c_compare_Edits_val (r : ((List api_CellStep) × Int × Int)) (x : Value) : Value := .tuple #[x, .int .i64 r.2.1, .int .i64 r.2.2]
def c_compare_Edits_D (r : ((List api_CellStep) × Int × Int)) (x : Value) : List Fact := [fRep (rL r_api_CellStep) x r.1]
set_option maxHeartbeats 4000000 in
set_option maxRecDepth 100000 in
theorem c_compare_Edits (E : Nat → Prop) (w0 : World) (p0 : (List api_Stitch)) (v0 : Value) (p1 : (List api_Stitch)) (v1 : Value) (r : ((List api_CellStep) × Int × Int)) (h : F_compare_Edits p0 p1 = some r) (S : St0 E [] w0 w0 [] [fRep (rL r_api_Stitch) (v0) p0, fRep (rL r_api_Stitch) (v1) p1]) :
 Calls Try.prog 23 #[v0, v1] w0 (Ret (X := Value) E [] w0 (c_compare_Edits_val r) (fun _ => []) (c_compare_Edits_D r)) := by
 unfold F_compare_Edits at h
 obtain ⟨ad1, cp2, _, rfl, _⟩ := S.know (i := 0) (e := fRep (rL r_api_Stitch) (v0) p0) rfl
 obtain ⟨ad3, cp4, _, rfl, _⟩ := S.know (i := 1) (e := fRep (rL r_api_Stitch) (v1) p1) rfl
 refine sEnter (args := [.slice ad1 p0.length cp2, .slice ad3 p1.length cp4]) 178 Try.func23 rfl rfl (by simp) S (fun a S => ?_)
 refine sSeq (fun K5 hK5 => ?_)
 refine sRegion ?_
 refine sMa S rfl rfl rfl rfl rfl fun a S => ?_
 refine sMa S rfl rfl rfl rfl rfl fun a S => ?_
 refine sMa S rfl rfl rfl rfl rfl fun a S => ?_
 refine lT (hK5 _ _ ?_)
 obtain ⟨t6, h, g7⟩ := bindSome h
 refine sCut (fun a w => .inl () = t6 ∧ St [] E [] w0 178 a w [(0, .slice ad1 p0.length cp2), (1, .slice ad3 p1.length cp4)] [] [fRep (rL r_api_Stitch) (.slice ad1 p0.length cp2) p0, fRep (rL r_api_Stitch) (.slice ad3 p1.length cp4) p1]) ?_ (fun a w hI => ?_)
 ·refine sSeq (fun K8 hK8 => ?_)
  refine sRegion ?_
  refine sMm S rfl rfl rfl rfl rfl fun a S => ?_
  refine sMm S rfl rfl rfl rfl rfl fun a S => ?_
  refine sBuild [(0, .slice ad1 p0.length cp2), (1, .slice ad3 p1.length cp4)] [.slice ad1 p0.length cp2, .slice ad3 p1.length cp4] S (wN rfl) rfl rfl rfl rfl (lb rfl) fun a S => ?_
  refine sMm S rfl rfl rfl rfl rfl fun a S => ?_
  refine lT (hK8 _ _ ?_)
  refine wp_block ?_
  obtain ⟨t12, hl, g11⟩ := bindSome h
  refine sLoop hl (fun s0 a w => match s0 with | s9 => St [] E [] w0 178 a w [(0, .slice ad1 p0.length cp2), (1, .slice ad3 p1.length cp4), (17, .agg #[.slice ad1 p0.length cp2, .slice ad3 p1.length cp4]), (18, iv s9)] [] [fRep (rL r_api_Stitch) (.slice ad1 p0.length cp2) p0, fRep (rL r_api_Stitch) (.slice ad3 p1.length cp4) p1]) (S.fix [] [0, 1] (by decide) rfl rfl rfl) ?_
  clear hl h
  intro s9 a w c0 hI h hu10
  unfold compare_Edits_l1 at h
  dsimp only at h hI
  have S := hI
  refine sSeq (fun K13 hK13 => ?_)
  refine sRegion ?_
  refine sBin _ S (wN rfl) rfl rfl rfl (bLt _ _ _ _ .i64 s9 2) rfl (lb rfl) fun a S => ?_
  refine lT (hK13 _ _ ?_)
  refine sSeq (fun K14 hK14 => ?_)
  rcases iteSome h with ⟨hc15, h⟩ | ⟨hc15, h⟩
  rotate_left
  ·refine sCondF S rfl hc15 ?_
   obtain rfl := Option.some.inj h
   obtain rfl := hu10 _ rfl
   have h := g11
   clear g11
   try dsimp only at h
   exact wp_exit (xThen (xThen (xHit (leafT (⟨Option.some.inj h, S.fix [] [0, 1] (by decide) rfl rfl rfl⟩)))))
  refine sCondT S rfl hc15 ?_
  refine wp_skip (leafT (hK14 _ _ ?_))
  refine sSeq (fun K16 hK16 => ?_)
  refine wp_block ?_
  refine sSeq (fun K17 hK17 => ?_)
  refine sRegion ?_
  obtain ⟨x19, hx20, h⟩ := bindSome h
  refine sIndexAL (r := (rL r_api_Stitch)) (xs := ([p0, p1] : List (List api_Stitch))) (j := s9) (k := .i64) 2 [.slice ad1 p0.length cp2, .slice ad3 p1.length cp4] [0, 1] S (wN rfl) rfl Try.underlying104 rfl rfl rfl rfl rfl hx20 rfl rfl rfl (lb rfl) fun a u18 S => ?_
  obtain ⟨ad21, cp22, _, rfl, _⟩ := S.mem.know (i := 0) (e := fRep (rL r_api_Stitch) (u18) x19) rfl
  refine sMa S rfl rfl rfl rfl rfl fun a S => ?_
  refine lT (hK17 _ _ ?_)
  refine sSeq (fun K23 hK23 => ?_)
  refine sRegion ?_
  refine sMm S rfl rfl rfl rfl rfl fun a S => ?_
  obtain ⟨r24, hx25, h⟩ := bindSome h
  have S1 := S.mem
  refine sCallQ (X := Unit) (f := 56) (vs := [.slice ad21 x19.length cp22]) (val := fun _ => iv r24) S (wN rfl) rfl callee56 rfl (S1.quiet [0] rfl) (fun E1 w1 S1 => c_stitch_All E1 w1 x19 (.slice ad21 x19.length cp22) r24 hx25 S1) rfl (lb rfl) fun _ a w S => ?_
  refine sMa S rfl rfl rfl rfl rfl fun a S => ?_
  refine lT (hK23 _ _ ?_)
  refine sSeq (fun K26 hK26 => ?_)
  refine sRegion ?_
  refine sMm S rfl rfl rfl rfl rfl fun a S => ?_
  refine sBin _ S (wN rfl) rfl rfl rfl (bNe _ _ _ _ .i64 r24 0) rfl (lb rfl) fun a S => ?_
  refine lT (hK26 _ _ ?_)
  rcases iteSome h with ⟨hc27, h⟩ | ⟨hc27, h⟩
  rotate_left
  ·refine sCondF S rfl hc27 ?_
   refine wp_skip (leafB (leafT (hK16 _ _ ?_)))
   refine sRegion ?_
   refine sBin _ S (wN rfl) rfl rfl rfl (bAdd _ _ _ _ s9 1) rfl (lb rfl) fun a S => ?_
   refine sMm S rfl rfl rfl rfl rfl fun a S => ?_
   exact lT (⟨w64 (s9 + 1), (Option.some.inj h).symm, (S.fix [] [1, 2] (by decide) rfl rfl rfl)⟩)
  refine sCondT S rfl hc27 ?_
  refine sSeq (fun K28 hK28 => ?_)
  refine sRegion ?_
  refine sMm S rfl rfl rfl rfl rfl fun a S => ?_
  refine sMa S rfl rfl rfl rfl rfl fun a S => ?_
  refine sMa S rfl rfl rfl rfl rfl fun a S => ?_
  refine sMa S rfl rfl rfl rfl rfl fun a S => ?_
  refine lT (hK28 _ _ ?_)
  obtain rfl := Option.some.inj h
  obtain rfl := hu10 _ rfl
  have h := g11
  clear g11
  try dsimp only at h
  obtain rfl := Option.some.inj h
  have h := g7
  clear g7
  try dsimp only at h
  obtain rfl := Option.some.inj h
  have S := S.learn (fRep (rL r_api_CellStep) (.slice none 0 0) ([] : (List api_CellStep))) (rL_nil _ _ _)
  exact wp_ret (rBlock (rThen (rThen (rBlock (rThen (sRet (.tuple #[.slice none 0 0, iv 0, iv r24]) S (rsl3 rfl (rvT (t := 4) (v := .slice none 0 0) S rfl) (rvT (t := 5) (v := iv 0) S rfl) (rvT (t := 6) (v := iv r24) S rfl)) ⟨(.slice none 0 0), rfl, S.mem.sel [] [0] (by decide) rfl rfl⟩))))))
 obtain ⟨rfl, S⟩ := hI
 have h := g7
 clear g7
 try dsimp only at h
 refine sSeq (fun K29 hK29 => ?_)
 refine sRegion ?_
 refine sMm S rfl rfl rfl rfl rfl fun a S => ?_
 refine sMm S rfl rfl rfl rfl rfl fun a S => ?_
 obtain ⟨r30, hx31, h⟩ := bindSome h
 refine sCall (X := Value) (f := 54) (vs := [.slice ad1 p0.length cp2, .slice ad3 p1.length cp4]) (val := c_compare_cellTable_val r30) (B' := fun _ => []) (D' := c_compare_cellTable_D r30) [] [] [fRep (rL r_api_Stitch) (.slice ad1 p0.length cp2) p0, fRep (rL r_api_Stitch) (.slice ad3 p1.length cp4) p1] [] [0, 1] S (wN rfl) rfl callee54 rfl (by decide) rfl rfl (fun E1 w1 S1 => c_compare_cellTable E1 w1 p0 (.slice ad1 p0.length cp2) p1 (.slice ad3 p1.length cp4) r30 hx31 S1) rfl (lb rfl) fun u32 a w S => ?_
 obtain ⟨ad33, cp34, _, rfl, _⟩ := S.mem.know (i := 0) (e := fRep (rL (rL (rI .i64))) (u32) r30) rfl
 refine sMa S rfl rfl rfl rfl rfl fun a S => ?_
 refine lT (hK29 _ _ ?_)
 refine sSeq (fun K35 hK35 => ?_)
 refine sRegion ?_
 refine sMa S rfl rfl rfl rfl rfl fun a S => ?_
 refine lT (hK35 _ _ ?_)
 refine sSeq (fun K36 hK36 => ?_)
 refine sRegion ?_
 refine sMa S rfl rfl rfl rfl rfl fun a S => ?_
 refine sMa S rfl rfl rfl rfl rfl fun a S => ?_
 refine lT (hK36 _ _ ?_)
 obtain ⟨t40, h, g41⟩ := bindSome h
 refine sCut (fun a w => ∃ o37, o37 = t40 ∧ ∃ ad38, ∃ cp39, St [] E [] w0 178 a w [(10, .slice ad33 r30.length cp34), (11, .slice ad38 o37.length cp39)] [eRow r_api_CellStep 83 (.slice ad38 o37.length cp39) o37] [fRep (rL (rL (rI .i64))) (.slice ad33 r30.length cp34) r30]) ?_ (fun a w hI => ?_)
 rotate_left
 ·obtain ⟨o37, rfl, ad38, cp39, S⟩ := hI
  have h := g41
  clear g41
  try dsimp only at h
  refine sSeq (fun K227 hK227 => ?_)
  obtain ⟨x228, hx229, h⟩ := bindSome h
  obtain ⟨x235, hx236, h⟩ := bindSome h
  obtain ⟨q240, hq241, S⟩ := pIdx (P := Try.prog) (r := (rL (rI .i64))) (v := .slice ad33 r30.length cp34) (xs := r30) (j := 0) 98 101 0 S Try.underlying98 rfl rfl hx229
  obtain ⟨u242, S⟩ := pLoad (r := (rL (rI .i64))) (q := q240) (x := x228) 0 S rfl
  obtain ⟨ad243, cp244, _, rfl, _⟩ := S.mem.know (i := 1) (e := fRep (rL (rI .i64)) (u242) x228) rfl
  obtain ⟨q245, hq246, S⟩ := pIdx (P := Try.prog) (r := (rI .i64)) (v := .slice ad243 x228.length cp244) (xs := x228) (j := 0) 101 3 1 S Try.underlying101 rfl rfl hx236
  obtain ⟨u247, S⟩ := pLoad (r := (rI .i64)) (q := q245) (x := x235) 0 S rfl
  obtain rfl : u247 = iv x235 := S.mem.know (i := 1) (e := fRep (rI .i64) (u247) x235) rfl
  refine sDraw (nf := []) (W := [(0, 172, .slice ad38 o37.length cp39), (1, 173, .slice ad33 r30.length cp34), (2, 174, q240), (3, 175, .slice ad243 x228.length cp244), (4, 176, q245), (5, 177, iv x235), (6, 4, .slice ad38 o37.length cp39), (7, 5, iv x235), (8, 6, iv 0)]) rfl S ?_
  refine node_by (A := anc_compare_Edits_2) 9 (by kernel_rfl) (by kernel_rfl) (by kernel_rfl) (by kernel_rfl) (by kernel_rfl) [0, 1, 2, 3, 4, 5, 6, 7, 8] (by kernel_rfl) (by decide) (by decide) (fF ?_ (fF ?_ (fF ?_ (fF ?_ (fF ?_ (fF ?_ (fF ?_ (fF ?_ (fF ?_ (trivial)))))))))) [(4, .slice ad38 o37.length cp39), (5, iv x235), (6, iv 0)] (fin_of [some 6, some 7, some 8] rfl (by kernel_rfl) (by kernel_rfl)) (fun _ a w S => ?_)
  ·exact fM 0 none rfl rfl rfl rfl (.inl rfl) rfl rfl rfl
  ·exact fM 1 none rfl rfl rfl rfl (.inl rfl) rfl rfl rfl
  ·refine fJ [(173, _)] 2 [some 1] fun G a w S => ?_
   exact sIdxV S (wN rfl) rfl rfl rfl hq241 rfl (lb rfl) fun a S => leafL ⟨rfl, S⟩
  ·refine fJ [(174, _)] 3 [some 2] fun G a w S => ?_
   exact sLoadV1 (vq := q240) 3 (.slice ad243 x228.length cp244) S (wN rfl) rfl rfl rfl rfl rfl (lb rfl) fun a S => leafL ⟨rfl, S⟩
  ·refine fJ [(175, _)] 4 [some 3] fun G a w S => ?_
   exact sIdxV S (wN rfl) rfl rfl rfl hq246 rfl (lb rfl) fun a S => leafL ⟨rfl, S⟩
  ·refine fJ [(176, _)] 5 [some 4] fun G a w S => ?_
   exact sLoadV1 (vq := q245) 0 (iv x235) S (wN rfl) rfl rfl rfl rfl rfl (lb rfl) fun a S => leafL ⟨rfl, S⟩
  ·exact fM 6 (some 0) rfl rfl rfl rfl (.inr rfl) rfl rfl rfl
  ·exact fM 7 (some 5) rfl rfl rfl rfl (.inr rfl) rfl rfl rfl
  ·refine fJ [] 8 [] fun G a w S => ?_
   exact sMa S rfl rfl rfl rfl rfl fun a S => leafL ⟨rfl, S⟩
  refine leafT (hK227 _ _ ?_)
  obtain rfl := Option.some.inj h
  have S := S.shutR (r := r_api_CellStep) (T := 83) (v := .slice ad38 o37.length cp39) (xs := o37) 0 rfl
  exact wp_ret (sRet (.tuple #[.slice ad38 o37.length cp39, iv x235, iv 0]) S (rsl3 rfl (rvT (t := 4) (v := .slice ad38 o37.length cp39) S rfl) (rvT (t := 5) (v := iv x235) S rfl) (rvT (t := 6) (v := iv 0) S rfl)) ⟨(.slice ad38 o37.length cp39), rfl, S.mem.sel [] [0] (by decide) rfl rfl⟩)
 refine wp_block ?_
 have S := S.nilRow r_api_CellStep 83 (α := api_CellStep)
 obtain ⟨t49, hl, g48⟩ := bindSome h
 refine sLoop hl (fun s0 a w => match s0 with | (s42, s45, s46) => ∃ ad43, ∃ cp44, St [] E [] w0 178 a w [(0, .slice ad1 p0.length cp2), (1, .slice ad3 p1.length cp4), (10, .slice ad33 r30.length cp34), (11, .slice ad43 s42.length cp44), (12, iv s45), (13, iv s46)] [eRow r_api_CellStep 83 (.slice ad43 s42.length cp44) s42] [fRep (rL r_api_Stitch) (.slice ad1 p0.length cp2) p0, fRep (rL r_api_Stitch) (.slice ad3 p1.length cp4) p1, fRep (rL (rL (rI .i64))) (.slice ad33 r30.length cp34) r30]) ⟨none, 0, S.fix [0] [1, 2, 0] (by decide) rfl rfl rfl⟩ ?_
 clear hl h
 intro s0 a w c0 hI h hu47
 obtain ⟨s42, s45, s46⟩ := s0
 unfold compare_Edits_l2 at h
 dsimp only at h hI
 obtain ⟨ad43, cp44, S⟩ := hI
 refine sSeq (fun K53 hK53 => ?_)
 obtain ⟨t55, h, g56⟩ := bindSome h
 refine sCut (fun a w => ∃ o54, o54 = t55 ∧ St [] E [] w0 178 a w [(0, .slice ad1 p0.length cp2), (1, .slice ad3 p1.length cp4), (10, .slice ad33 r30.length cp34), (11, .slice ad43 s42.length cp44), (12, iv s45), (13, iv s46), (39, .bool o54)] [eRow r_api_CellStep 83 (.slice ad43 s42.length cp44) s42] [fRep (rL r_api_Stitch) (.slice ad1 p0.length cp2) p0, fRep (rL r_api_Stitch) (.slice ad3 p1.length cp4) p1, fRep (rL (rL (rI .i64))) (.slice ad33 r30.length cp34) r30]) ?_ (fun a w hI => ?_)
 ·refine sRegion ?_
  refine sMm S rfl rfl rfl rfl rfl fun a S => ?_
  refine sMm S rfl rfl rfl rfl rfl fun a S => ?_
  refine sLen S (wN rfl) rfl Try.underlying47 rfl rfl (lb rfl) fun a S => ?_
  refine sBin _ S (wN rfl) rfl rfl rfl (bLt _ _ _ _ .i64 s45 (p0.length : Int)) rfl (lb rfl) fun a S => ?_
  refine sMm S rfl rfl rfl rfl rfl fun a S => ?_
  rcases iteSome h with ⟨hc57, h⟩ | ⟨hc57, h⟩
  ·refine sSkN 4 4 false 34 S rfl rfl hc57 rfl fun a S => ?_
   refine sPickT (.bool true) S (wN rfl) rfl rfl hc57 rfl rfl (lb rfl) fun a S => ?_
   exact lT (⟨true, Option.some.inj h, S.fix [0] [0, 1, 2] (by decide) rfl rfl rfl⟩)
  refine sMove (iv s46) S (wG 4 false 34 rfl rfl rfl hc57) (.inl rfl) rfl rfl (lb rfl) fun a S => ?_
  refine sMove (.slice ad3 p1.length cp4) S (wG 4 false 34 rfl rfl rfl hc57) (.inl rfl) rfl rfl (lb rfl) fun a S => ?_
  refine sLen S (wG 4 false 34 rfl rfl rfl hc57) rfl Try.underlying47 rfl rfl (lb rfl) fun a S => ?_
  refine sBin _ S (wG 4 false 34 rfl rfl rfl hc57) rfl rfl rfl (bLt _ _ _ _ .i64 s46 (p1.length : Int)) rfl (lb rfl) fun a S => ?_
  refine sPickF (.bool (decide (s46 < (p1.length : Int)))) S (wN rfl) rfl rfl hc57 rfl rfl (lb rfl) fun a S => ?_
  exact lT (⟨decide (s46 < (p1.length : Int)), Option.some.inj h, S.fix [0] [0, 1, 2] (by decide) rfl rfl rfl⟩)
 obtain ⟨o54, rfl, S⟩ := hI
 have h := g56
 clear g56
 try dsimp only at h
 rcases iteSome h with ⟨hc58, h⟩ | ⟨hc58, h⟩
 rotate_left
 ·refine sCondF S rfl hc58 ?_
  obtain rfl := Option.some.inj h
  obtain rfl := hu47 _ rfl
  have h := g48
  clear g48
  try dsimp only at h
  exact wp_exit (xThen (xThen (xHit (leafT (⟨s42, Option.some.inj h, ad43, cp44, S.fix [0] [2] (by decide) rfl rfl rfl⟩)))))
 refine sCondT S rfl hc58 ?_
 refine wp_skip (leafT (hK53 _ _ ?_))
 refine wp_block ?_
 refine sSeq (fun K59 hK59 => ?_)
 refine sRegion ?_
 refine sMm S rfl rfl rfl rfl rfl fun a S => ?_
 refine sMm S rfl rfl rfl rfl rfl fun a S => ?_
 obtain ⟨x60, hx61, h⟩ := bindSome h
 obtain ⟨q62, hq63, S⟩ := pIdx (P := Try.prog) (r := (rL (rI .i64))) (v := .slice ad33 r30.length cp34) (xs := r30) (j := s45) 98 101 2 S Try.underlying98 rfl rfl hx61
 refine sIdxV S (wN rfl) rfl rfl rfl hq63 rfl (lb rfl) fun a S => ?_
 obtain ⟨u64, S⟩ := pLoad (r := (rL (rI .i64))) (q := q62) (x := x60) 0 S rfl
 obtain ⟨ad65, cp66, _, rfl, _⟩ := S.mem.know (i := 1) (e := fRep (rL (rI .i64)) (u64) x60) rfl
 refine sLoadV1 (vq := q62) 0 (.slice ad65 x60.length cp66) S (wN rfl) rfl rfl rfl rfl rfl (lb rfl) fun a S => ?_
 refine sMm S rfl rfl rfl rfl rfl fun a S => ?_
 obtain ⟨x67, hx68, h⟩ := bindSome h
 obtain ⟨q69, hq70, S⟩ := pIdx (P := Try.prog) (r := (rI .i64)) (v := .slice ad65 x60.length cp66) (xs := x60) (j := s46) 101 3 1 S Try.underlying101 rfl rfl hx68
 refine sIdxV S (wN rfl) rfl rfl rfl hq70 rfl (lb rfl) fun a S => ?_
 obtain ⟨u71, S⟩ := pLoad (r := (rI .i64)) (q := q69) (x := x67) 0 S rfl
 obtain rfl : u71 = iv x67 := S.mem.know (i := 1) (e := fRep (rI .i64) (u71) x67) rfl
 refine sLoadV1 (vq := q69) 0 (iv x67) S (wN rfl) rfl rfl rfl rfl rfl (lb rfl) fun a S => ?_
 refine sMa S rfl rfl rfl rfl rfl fun a S => ?_
 refine lT (hK59 _ _ ?_)
 refine wp_block ?_
 obtain ⟨t73, h, g74⟩ := bindSome h
 refine sCut (fun a w => ∃ o72, o72 = t73 ∧ St [] E [] w0 178 a w [(0, .slice ad1 p0.length cp2), (1, .slice ad3 p1.length cp4), (10, .slice ad33 r30.length cp34), (11, .slice ad43 s42.length cp44), (12, iv s45), (13, iv s46), (14, iv x67), (57, .bool o72)] [eRow r_api_CellStep 83 (.slice ad43 s42.length cp44) s42] [fRep (rL r_api_Stitch) (.slice ad1 p0.length cp2) p0, fRep (rL r_api_Stitch) (.slice ad3 p1.length cp4) p1, fRep (rL (rL (rI .i64))) (.slice ad33 r30.length cp34) r30]) ?_ (fun a w hI => ?_)
 ·rcases iteSome h with ⟨hc75, h⟩ | ⟨hc75, h⟩
  rotate_left
  ·refine sDraw (nf := []) (W := [(0, 58, iv s45), (1, 59, .slice ad1 p0.length cp2), (2, 60, iv (p0.length : Int)), (3, 61, .bool (decide (s45 < (p0.length : Int)))), (4, 62, .bool (decide (s45 < (p0.length : Int)))), (5, 63, undef), (6, 64, undef), (7, 65, undef), (8, 66, undef), (9, 67, .bool false), (10, 68, .bool false), (11, 69, undef), (12, 70, undef), (13, 71, undef), (14, 72, undef), (15, 73, undef), (16, 74, undef), (17, 75, undef), (18, 76, undef), (19, 77, undef), (20, 78, .bool false), (21, 79, .bool false), (22, 80, undef), (23, 81, undef), (24, 82, undef), (25, 83, undef), (26, 84, undef), (27, 85, undef), (28, 86, undef), (29, 87, undef), (30, 88, undef), (31, 89, undef), (32, 90, undef), (33, 91, .bool false), (34, 57, .bool false)]) rfl S ?_
   refine node_by (A := anc_compare_Edits_0) 35 (by kernel_rfl) (by kernel_rfl) (by kernel_rfl) (by kernel_rfl) (by kernel_rfl) [0, 1, 2, 3, 4, 5, 6, 7, 8, 9, 10, 11, 12, 13, 14, 15, 16, 17, 18, 19, 20, 21, 22, 23, 24, 25, 26, 27, 28, 29, 30, 31, 32, 33, 34] (by kernel_rfl) (by decide) (by decide) (fF ?_ (fF ?_ (fF ?_ (fF ?_ (fF ?_ (fF ?_ (fF ?_ (fF ?_ (fF ?_ (fF ?_ (fF ?_ (fF ?_ (fF ?_ (fF ?_ (fF ?_ (fF ?_ (fF ?_ (fF ?_ (fF ?_ (fF ?_ (fF ?_ (fF ?_ (fF ?_ (fF ?_ (fF ?_ (fF ?_ (fF ?_ (fF ?_ (fF ?_ (fF ?_ (fF ?_ (fF ?_ (fF ?_ (fF ?_ (fF ?_ (trivial)))))))))))))))))))))))))))))))))))) [(0, .slice ad1 p0.length cp2), (1, .slice ad3 p1.length cp4), (10, .slice ad33 r30.length cp34), (11, .slice ad43 s42.length cp44), (12, iv s45), (13, iv s46), (14, iv x67), (57, .bool false), (63, undef), (64, undef), (65, undef), (66, undef), (69, undef), (70, undef), (71, undef), (72, undef), (73, undef), (74, undef), (75, undef), (76, undef), (77, undef), (80, undef), (81, undef), (82, undef), (83, undef), (84, undef), (85, undef), (86, undef), (87, undef), (88, undef), (89, undef), (90, undef)] (fin_of [none, none, none, none, none, none, none, some 34, some 5, some 6, some 7, some 8, some 11, some 12, some 13, some 14, some 15, some 16, some 17, some 18, some 19, some 22, some 23, some 24, some 25, some 26, some 27, some 28, some 29, some 30, some 31, some 32] rfl (by kernel_rfl) (by kernel_rfl)) (fun _ a w S => ?_)
   ·exact fM 0 none rfl rfl rfl rfl (.inl rfl) rfl rfl rfl
   ·exact fM 1 none rfl rfl rfl rfl (.inl rfl) rfl rfl rfl
   ·refine fJ [(59, _)] 2 [some 1] fun G a w S => ?_
    exact sLen S (wN rfl) rfl Try.underlying47 rfl rfl (lb rfl) fun a S => leafL ⟨rfl, S⟩
   ·refine fJ [(58, _), (60, _)] 3 [some 0, some 2] fun G a w S => ?_
    exact sBin _ S (wN rfl) rfl rfl rfl (bLt _ _ _ _ .i64 s45 (p0.length : Int)) rfl (lb rfl) fun a S => leafL ⟨rfl, S⟩
   ·exact fM 4 (some 3) rfl rfl rfl rfl (.inl rfl) rfl rfl rfl
   ·refine fJ [(13, _), (62, _)] 5 [none, some 4] fun G a w S => ?_
    exact sSk S rfl rfl rfl hc75 rfl rfl fun a S => leafL ⟨rfl, S⟩
   ·refine fJ [(1, _), (62, _)] 6 [none, some 4] fun G a w S => ?_
    exact sSk S rfl rfl rfl hc75 rfl rfl fun a S => leafL ⟨rfl, S⟩
   ·refine fJ [(64, _), (62, _)] 7 [some 6, some 4] fun G a w S => ?_
    exact sSk S rfl rfl rfl hc75 rfl rfl fun a S => leafL ⟨rfl, S⟩
   ·refine fJ [(63, _), (65, _), (62, _)] 8 [some 5, some 7, some 4] fun G a w S => ?_
    exact sSk S rfl rfl rfl hc75 rfl rfl fun a S => leafL ⟨rfl, S⟩
   ·refine fJ [(62, _), (66, _)] 9 [some 4, some 8] fun G a w S => ?_
    exact sPickF (.bool false) S (wN rfl) rfl rfl hc75 rfl rfl (lb rfl) fun a S => leafL ⟨rfl, S⟩
   ·exact fM 10 (some 9) rfl rfl rfl rfl (.inl rfl) rfl rfl rfl
   ·refine fJ [(0, _), (68, _)] 11 [none, some 10] fun G a w S => ?_
    exact sSk S rfl rfl rfl rfl rfl rfl fun a S => leafL ⟨rfl, S⟩
   ·refine fJ [(12, _), (68, _)] 12 [none, some 10] fun G a w S => ?_
    exact sSk S rfl rfl rfl rfl rfl rfl fun a S => leafL ⟨rfl, S⟩
   ·refine fJ [(69, _), (70, _), (68, _)] 13 [some 11, some 12, some 10] fun G a w S => ?_
    exact sSk S rfl rfl rfl rfl rfl rfl fun a S => leafL ⟨rfl, S⟩
   ·refine fJ [(71, _), (68, _)] 14 [some 13, some 10] fun G a w S => ?_
    exact sSk S rfl rfl rfl rfl rfl rfl fun a S => leafL ⟨rfl, S⟩
   ·refine fJ [(1, _), (68, _)] 15 [none, some 10] fun G a w S => ?_
    exact sSk S rfl rfl rfl rfl rfl rfl fun a S => leafL ⟨rfl, S⟩
   ·refine fJ [(13, _), (68, _)] 16 [none, some 10] fun G a w S => ?_
    exact sSk S rfl rfl rfl rfl rfl rfl fun a S => leafL ⟨rfl, S⟩
   ·refine fJ [(73, _), (74, _), (68, _)] 17 [some 15, some 16, some 10] fun G a w S => ?_
    exact sSk S rfl rfl rfl rfl rfl rfl fun a S => leafL ⟨rfl, S⟩
   ·refine fJ [(75, _), (68, _)] 18 [some 17, some 10] fun G a w S => ?_
    exact sSk S rfl rfl rfl rfl rfl rfl fun a S => leafL ⟨rfl, S⟩
   ·refine fJ [(72, _), (76, _), (68, _)] 19 [some 14, some 18, some 10] fun G a w S => ?_
    exact sSk S rfl rfl rfl rfl rfl rfl fun a S => leafL ⟨rfl, S⟩
   ·refine fJ [(68, _), (77, _)] 20 [some 10, some 19] fun G a w S => ?_
    exact sPickF (.bool false) S (wN rfl) rfl rfl rfl rfl rfl (lb rfl) fun a S => leafL ⟨rfl, S⟩
   ·exact fM 21 (some 20) rfl rfl rfl rfl (.inl rfl) rfl rfl rfl
   ·refine fJ [(14, _), (79, _)] 22 [none, some 21] fun G a w S => ?_
    exact sSk S rfl rfl rfl rfl rfl rfl fun a S => leafL ⟨rfl, S⟩
   ·refine fJ [(10, _), (79, _)] 23 [none, some 21] fun G a w S => ?_
    exact sSk S rfl rfl rfl rfl rfl rfl fun a S => leafL ⟨rfl, S⟩
   ·refine fJ [(12, _), (79, _)] 24 [none, some 21] fun G a w S => ?_
    exact sSk S rfl rfl rfl rfl rfl rfl fun a S => leafL ⟨rfl, S⟩
   ·refine fJ [(82, _), (79, _)] 25 [some 24, some 21] fun G a w S => ?_
    exact sSk S rfl rfl rfl rfl rfl rfl fun a S => leafL ⟨rfl, S⟩
   ·refine fJ [(81, _), (83, _), (79, _)] 26 [some 23, some 25, some 21] fun G a w S => ?_
    exact sSk S rfl rfl rfl rfl rfl rfl fun a S => leafL ⟨rfl, S⟩
   ·refine fJ [(84, _), (79, _)] 27 [some 26, some 21] fun G a w S => ?_
    exact sSk S rfl rfl rfl rfl rfl rfl fun a S => leafL ⟨rfl, S⟩
   ·refine fJ [(13, _), (79, _)] 28 [none, some 21] fun G a w S => ?_
    exact sSk S rfl rfl rfl rfl rfl rfl fun a S => leafL ⟨rfl, S⟩
   ·refine fJ [(86, _), (79, _)] 29 [some 28, some 21] fun G a w S => ?_
    exact sSk S rfl rfl rfl rfl rfl rfl fun a S => leafL ⟨rfl, S⟩
   ·refine fJ [(85, _), (87, _), (79, _)] 30 [some 27, some 29, some 21] fun G a w S => ?_
    exact sSk S rfl rfl rfl rfl rfl rfl fun a S => leafL ⟨rfl, S⟩
   ·refine fJ [(88, _), (79, _)] 31 [some 30, some 21] fun G a w S => ?_
    exact sSk S rfl rfl rfl rfl rfl rfl fun a S => leafL ⟨rfl, S⟩
   ·refine fJ [(80, _), (89, _), (79, _)] 32 [some 22, some 31, some 21] fun G a w S => ?_
    exact sSk S rfl rfl rfl rfl rfl rfl fun a S => leafL ⟨rfl, S⟩
   ·refine fJ [(79, _), (90, _)] 33 [some 21, some 32] fun G a w S => ?_
    exact sPickF (.bool false) S (wN rfl) rfl rfl rfl rfl rfl (lb rfl) fun a S => leafL ⟨rfl, S⟩
   ·exact fM 34 (some 33) rfl rfl rfl rfl (.inr rfl) rfl rfl rfl
   exact leafT (⟨false, Option.some.inj h, S.fix [0] [6, 7, 8] (by decide) rfl rfl rfl⟩)
  rcases iteSome h with ⟨hc76, h⟩ | ⟨hc76, h⟩
  rotate_left
  ·refine sDraw (nf := []) (W := [(0, 58, iv s45), (1, 59, .slice ad1 p0.length cp2), (2, 60, iv (p0.length : Int)), (3, 61, .bool (decide (s45 < (p0.length : Int)))), (4, 62, .bool (decide (s45 < (p0.length : Int)))), (5, 63, iv s46), (6, 64, .slice ad3 p1.length cp4), (7, 65, iv (p1.length : Int)), (8, 66, .bool (decide (s46 < (p1.length : Int)))), (9, 67, .bool (decide (s46 < (p1.length : Int)))), (10, 68, .bool (decide (s46 < (p1.length : Int)))), (11, 69, undef), (12, 70, undef), (13, 71, undef), (14, 72, undef), (15, 73, undef), (16, 74, undef), (17, 75, undef), (18, 76, undef), (19, 77, undef), (20, 78, .bool false), (21, 79, .bool false), (22, 80, undef), (23, 81, undef), (24, 82, undef), (25, 83, undef), (26, 84, undef), (27, 85, undef), (28, 86, undef), (29, 87, undef), (30, 88, undef), (31, 89, undef), (32, 90, undef), (33, 91, .bool false), (34, 57, .bool false)]) rfl S ?_
   refine node_by (A := anc_compare_Edits_0) 35 (by kernel_rfl) (by kernel_rfl) (by kernel_rfl) (by kernel_rfl) (by kernel_rfl) [0, 1, 2, 3, 4, 5, 6, 7, 8, 9, 10, 11, 12, 13, 14, 15, 16, 17, 18, 19, 20, 21, 22, 23, 24, 25, 26, 27, 28, 29, 30, 31, 32, 33, 34] (by kernel_rfl) (by decide) (by decide) (fF ?_ (fF ?_ (fF ?_ (fF ?_ (fF ?_ (fF ?_ (fF ?_ (fF ?_ (fF ?_ (fF ?_ (fF ?_ (fF ?_ (fF ?_ (fF ?_ (fF ?_ (fF ?_ (fF ?_ (fF ?_ (fF ?_ (fF ?_ (fF ?_ (fF ?_ (fF ?_ (fF ?_ (fF ?_ (fF ?_ (fF ?_ (fF ?_ (fF ?_ (fF ?_ (fF ?_ (fF ?_ (fF ?_ (fF ?_ (fF ?_ (trivial)))))))))))))))))))))))))))))))))))) [(0, .slice ad1 p0.length cp2), (1, .slice ad3 p1.length cp4), (10, .slice ad33 r30.length cp34), (11, .slice ad43 s42.length cp44), (12, iv s45), (13, iv s46), (14, iv x67), (57, .bool false), (63, iv s46), (64, .slice ad3 p1.length cp4), (65, iv (p1.length : Int)), (66, .bool (decide (s46 < (p1.length : Int)))), (69, undef), (70, undef), (71, undef), (72, undef), (73, undef), (74, undef), (75, undef), (76, undef), (77, undef), (80, undef), (81, undef), (82, undef), (83, undef), (84, undef), (85, undef), (86, undef), (87, undef), (88, undef), (89, undef), (90, undef)] (fin_of [none, none, none, none, none, none, none, some 34, some 5, some 6, some 7, some 8, some 11, some 12, some 13, some 14, some 15, some 16, some 17, some 18, some 19, some 22, some 23, some 24, some 25, some 26, some 27, some 28, some 29, some 30, some 31, some 32] rfl (by kernel_rfl) (by kernel_rfl)) (fun _ a w S => ?_)
   ·exact fM 0 none rfl rfl rfl rfl (.inl rfl) rfl rfl rfl
   ·exact fM 1 none rfl rfl rfl rfl (.inl rfl) rfl rfl rfl
   ·refine fJ [(59, _)] 2 [some 1] fun G a w S => ?_
    exact sLen S (wN rfl) rfl Try.underlying47 rfl rfl (lb rfl) fun a S => leafL ⟨rfl, S⟩
   ·refine fJ [(58, _), (60, _)] 3 [some 0, some 2] fun G a w S => ?_
    exact sBin _ S (wN rfl) rfl rfl rfl (bLt _ _ _ _ .i64 s45 (p0.length : Int)) rfl (lb rfl) fun a S => leafL ⟨rfl, S⟩
   ·exact fM 4 (some 3) rfl rfl rfl rfl (.inl rfl) rfl rfl rfl
   ·refine fJ [(13, _), (62, _)] 5 [none, some 4] fun G a w S => ?_
    exact sMove (iv s46) S (wG 4 true 62 rfl rfl rfl hc75) (.inl rfl) rfl rfl (lb rfl) fun a S => leafL ⟨rfl, S⟩
   ·refine fJ [(1, _), (62, _)] 6 [none, some 4] fun G a w S => ?_
    exact sMove (.slice ad3 p1.length cp4) S (wG 4 true 62 rfl rfl rfl hc75) (.inl rfl) rfl rfl (lb rfl) fun a S => leafL ⟨rfl, S⟩
   ·refine fJ [(64, _), (62, _)] 7 [some 6, some 4] fun G a w S => ?_
    exact sLen S (wG 4 true 62 rfl rfl rfl hc75) rfl Try.underlying47 rfl rfl (lb rfl) fun a S => leafL ⟨rfl, S⟩
   ·refine fJ [(63, _), (65, _), (62, _)] 8 [some 5, some 7, some 4] fun G a w S => ?_
    exact sBin _ S (wG 4 true 62 rfl rfl rfl hc75) rfl rfl rfl (bLt _ _ _ _ .i64 s46 (p1.length : Int)) rfl (lb rfl) fun a S => leafL ⟨rfl, S⟩
   ·refine fJ [(62, _), (66, _)] 9 [some 4, some 8] fun G a w S => ?_
    exact sPickT (.bool (decide (s46 < (p1.length : Int)))) S (wN rfl) rfl rfl hc75 rfl rfl (lb rfl) fun a S => leafL ⟨rfl, S⟩
   ·exact fM 10 (some 9) rfl rfl rfl rfl (.inl rfl) rfl rfl rfl
   ·refine fJ [(0, _), (68, _)] 11 [none, some 10] fun G a w S => ?_
    exact sSk S rfl rfl rfl hc76 rfl rfl fun a S => leafL ⟨rfl, S⟩
   ·refine fJ [(12, _), (68, _)] 12 [none, some 10] fun G a w S => ?_
    exact sSk S rfl rfl rfl hc76 rfl rfl fun a S => leafL ⟨rfl, S⟩
   ·refine fJ [(69, _), (70, _), (68, _)] 13 [some 11, some 12, some 10] fun G a w S => ?_
    exact sSk S rfl rfl rfl hc76 rfl rfl fun a S => leafL ⟨rfl, S⟩
   ·refine fJ [(71, _), (68, _)] 14 [some 13, some 10] fun G a w S => ?_
    exact sSk S rfl rfl rfl hc76 rfl rfl fun a S => leafL ⟨rfl, S⟩
   ·refine fJ [(1, _), (68, _)] 15 [none, some 10] fun G a w S => ?_
    exact sSk S rfl rfl rfl hc76 rfl rfl fun a S => leafL ⟨rfl, S⟩
   ·refine fJ [(13, _), (68, _)] 16 [none, some 10] fun G a w S => ?_
    exact sSk S rfl rfl rfl hc76 rfl rfl fun a S => leafL ⟨rfl, S⟩
   ·refine fJ [(73, _), (74, _), (68, _)] 17 [some 15, some 16, some 10] fun G a w S => ?_
    exact sSk S rfl rfl rfl hc76 rfl rfl fun a S => leafL ⟨rfl, S⟩
   ·refine fJ [(75, _), (68, _)] 18 [some 17, some 10] fun G a w S => ?_
    exact sSk S rfl rfl rfl hc76 rfl rfl fun a S => leafL ⟨rfl, S⟩
   ·refine fJ [(72, _), (76, _), (68, _)] 19 [some 14, some 18, some 10] fun G a w S => ?_
    exact sSk S rfl rfl rfl hc76 rfl rfl fun a S => leafL ⟨rfl, S⟩
   ·refine fJ [(68, _), (77, _)] 20 [some 10, some 19] fun G a w S => ?_
    exact sPickF (.bool false) S (wN rfl) rfl rfl hc76 rfl rfl (lb rfl) fun a S => leafL ⟨rfl, S⟩
   ·exact fM 21 (some 20) rfl rfl rfl rfl (.inl rfl) rfl rfl rfl
   ·refine fJ [(14, _), (79, _)] 22 [none, some 21] fun G a w S => ?_
    exact sSk S rfl rfl rfl rfl rfl rfl fun a S => leafL ⟨rfl, S⟩
   ·refine fJ [(10, _), (79, _)] 23 [none, some 21] fun G a w S => ?_
    exact sSk S rfl rfl rfl rfl rfl rfl fun a S => leafL ⟨rfl, S⟩
   ·refine fJ [(12, _), (79, _)] 24 [none, some 21] fun G a w S => ?_
    exact sSk S rfl rfl rfl rfl rfl rfl fun a S => leafL ⟨rfl, S⟩
   ·refine fJ [(82, _), (79, _)] 25 [some 24, some 21] fun G a w S => ?_
    exact sSk S rfl rfl rfl rfl rfl rfl fun a S => leafL ⟨rfl, S⟩
   ·refine fJ [(81, _), (83, _), (79, _)] 26 [some 23, some 25, some 21] fun G a w S => ?_
    exact sSk S rfl rfl rfl rfl rfl rfl fun a S => leafL ⟨rfl, S⟩
   ·refine fJ [(84, _), (79, _)] 27 [some 26, some 21] fun G a w S => ?_
    exact sSk S rfl rfl rfl rfl rfl rfl fun a S => leafL ⟨rfl, S⟩
   ·refine fJ [(13, _), (79, _)] 28 [none, some 21] fun G a w S => ?_
    exact sSk S rfl rfl rfl rfl rfl rfl fun a S => leafL ⟨rfl, S⟩
   ·refine fJ [(86, _), (79, _)] 29 [some 28, some 21] fun G a w S => ?_
    exact sSk S rfl rfl rfl rfl rfl rfl fun a S => leafL ⟨rfl, S⟩
   ·refine fJ [(85, _), (87, _), (79, _)] 30 [some 27, some 29, some 21] fun G a w S => ?_
    exact sSk S rfl rfl rfl rfl rfl rfl fun a S => leafL ⟨rfl, S⟩
   ·refine fJ [(88, _), (79, _)] 31 [some 30, some 21] fun G a w S => ?_
    exact sSk S rfl rfl rfl rfl rfl rfl fun a S => leafL ⟨rfl, S⟩
   ·refine fJ [(80, _), (89, _), (79, _)] 32 [some 22, some 31, some 21] fun G a w S => ?_
    exact sSk S rfl rfl rfl rfl rfl rfl fun a S => leafL ⟨rfl, S⟩
   ·refine fJ [(79, _), (90, _)] 33 [some 21, some 32] fun G a w S => ?_
    exact sPickF (.bool false) S (wN rfl) rfl rfl rfl rfl rfl (lb rfl) fun a S => leafL ⟨rfl, S⟩
   ·exact fM 34 (some 33) rfl rfl rfl rfl (.inr rfl) rfl rfl rfl
   exact leafT (⟨false, Option.some.inj h, S.fix [0] [6, 7, 8] (by decide) rfl rfl rfl⟩)
  obtain ⟨x77, hx78, h⟩ := bindSome h
  obtain ⟨x82, hx83, h⟩ := bindSome h
  rcases iteSome h with ⟨hc87, h⟩ | ⟨hc87, h⟩
  rotate_left
  ·obtain ⟨q114, hq115, S⟩ := pIdx (P := Try.prog) (r := r_api_Stitch) (v := .slice ad1 p0.length cp2) (xs := p0) (j := s45) 47 81 6 S Try.underlying47 rfl rfl hx78
   obtain ⟨u116, S⟩ := pLoad (r := r_api_Stitch) (q := q114) (x := x77) 0 S rfl
   obtain rfl : u116 = .agg #[.int .u8 x77.Kind, .bool x77.Purl, iv x77.A, iv x77.B] := S.mem.know (i := 1) (e := fRep r_api_Stitch (u116) x77) rfl
   obtain ⟨q117, hq118, S⟩ := pIdx (P := Try.prog) (r := r_api_Stitch) (v := .slice ad3 p1.length cp4) (xs := p1) (j := s46) 47 81 10 S Try.underlying47 rfl rfl hx83
   obtain ⟨u119, S⟩ := pLoad (r := r_api_Stitch) (q := q117) (x := x82) 0 S rfl
   obtain rfl : u119 = .agg #[.int .u8 x82.Kind, .bool x82.Purl, iv x82.A, iv x82.B] := S.mem.know (i := 1) (e := fRep r_api_Stitch (u119) x82) rfl
   refine sDraw (nf := []) (W := [(0, 58, iv s45), (1, 59, .slice ad1 p0.length cp2), (2, 60, iv (p0.length : Int)), (3, 61, .bool (decide (s45 < (p0.length : Int)))), (4, 62, .bool (decide (s45 < (p0.length : Int)))), (5, 63, iv s46), (6, 64, .slice ad3 p1.length cp4), (7, 65, iv (p1.length : Int)), (8, 66, .bool (decide (s46 < (p1.length : Int)))), (9, 67, .bool (decide (s46 < (p1.length : Int)))), (10, 68, .bool (decide (s46 < (p1.length : Int)))), (11, 69, .slice ad1 p0.length cp2), (12, 70, iv s45), (13, 71, q114), (14, 72, .agg #[.int .u8 x77.Kind, .bool x77.Purl, iv x77.A, iv x77.B]), (15, 73, .slice ad3 p1.length cp4), (16, 74, iv s46), (17, 75, q117), (18, 76, .agg #[.int .u8 x82.Kind, .bool x82.Purl, iv x82.A, iv x82.B]), (19, 77, .bool ((x77.Kind == x82.Kind) && ((x77.Purl == x82.Purl) && ((x77.A == x82.A) && ((x77.B == x82.B) && true))))), (20, 78, .bool ((x77.Kind == x82.Kind) && ((x77.Purl == x82.Purl) && ((x77.A == x82.A) && ((x77.B == x82.B) && true))))), (21, 79, .bool ((x77.Kind == x82.Kind) && ((x77.Purl == x82.Purl) && ((x77.A == x82.A) && ((x77.B == x82.B) && true))))), (22, 80, undef), (23, 81, undef), (24, 82, undef), (25, 83, undef), (26, 84, undef), (27, 85, undef), (28, 86, undef), (29, 87, undef), (30, 88, undef), (31, 89, undef), (32, 90, undef), (33, 91, .bool false), (34, 57, .bool false)]) rfl S ?_
   refine node_by (A := anc_compare_Edits_0) 35 (by kernel_rfl) (by kernel_rfl) (by kernel_rfl) (by kernel_rfl) (by kernel_rfl) [0, 1, 2, 3, 4, 5, 6, 7, 8, 9, 10, 11, 12, 13, 14, 15, 16, 17, 18, 19, 20, 21, 22, 23, 24, 25, 26, 27, 28, 29, 30, 31, 32, 33, 34] (by kernel_rfl) (by decide) (by decide) (fF ?_ (fF ?_ (fF ?_ (fF ?_ (fF ?_ (fF ?_ (fF ?_ (fF ?_ (fF ?_ (fF ?_ (fF ?_ (fF ?_ (fF ?_ (fF ?_ (fF ?_ (fF ?_ (fF ?_ (fF ?_ (fF ?_ (fF ?_ (fF ?_ (fF ?_ (fF ?_ (fF ?_ (fF ?_ (fF ?_ (fF ?_ (fF ?_ (fF ?_ (fF ?_ (fF ?_ (fF ?_ (fF ?_ (fF ?_ (fF ?_ (trivial)))))))))))))))))))))))))))))))))))) [(0, .slice ad1 p0.length cp2), (1, .slice ad3 p1.length cp4), (10, .slice ad33 r30.length cp34), (11, .slice ad43 s42.length cp44), (12, iv s45), (13, iv s46), (14, iv x67), (57, .bool false), (63, iv s46), (64, .slice ad3 p1.length cp4), (65, iv (p1.length : Int)), (66, .bool (decide (s46 < (p1.length : Int)))), (69, .slice ad1 p0.length cp2), (70, iv s45), (71, q114), (72, .agg #[.int .u8 x77.Kind, .bool x77.Purl, iv x77.A, iv x77.B]), (73, .slice ad3 p1.length cp4), (74, iv s46), (75, q117), (76, .agg #[.int .u8 x82.Kind, .bool x82.Purl, iv x82.A, iv x82.B]), (77, .bool ((x77.Kind == x82.Kind) && ((x77.Purl == x82.Purl) && ((x77.A == x82.A) && ((x77.B == x82.B) && true))))), (80, undef), (81, undef), (82, undef), (83, undef), (84, undef), (85, undef), (86, undef), (87, undef), (88, undef), (89, undef), (90, undef)] (fin_of [none, none, none, none, none, none, none, some 34, some 5, some 6, some 7, some 8, some 11, some 12, some 13, some 14, some 15, some 16, some 17, some 18, some 19, some 22, some 23, some 24, some 25, some 26, some 27, some 28, some 29, some 30, some 31, some 32] rfl (by kernel_rfl) (by kernel_rfl)) (fun _ a w S => ?_)
   ·exact fM 0 none rfl rfl rfl rfl (.inl rfl) rfl rfl rfl
   ·exact fM 1 none rfl rfl rfl rfl (.inl rfl) rfl rfl rfl
   ·refine fJ [(59, _)] 2 [some 1] fun G a w S => ?_
    exact sLen S (wN rfl) rfl Try.underlying47 rfl rfl (lb rfl) fun a S => leafL ⟨rfl, S⟩
   ·refine fJ [(58, _), (60, _)] 3 [some 0, some 2] fun G a w S => ?_
    exact sBin _ S (wN rfl) rfl rfl rfl (bLt _ _ _ _ .i64 s45 (p0.length : Int)) rfl (lb rfl) fun a S => leafL ⟨rfl, S⟩
   ·exact fM 4 (some 3) rfl rfl rfl rfl (.inl rfl) rfl rfl rfl
   ·refine fJ [(13, _), (62, _)] 5 [none, some 4] fun G a w S => ?_
    exact sMove (iv s46) S (wG 4 true 62 rfl rfl rfl hc75) (.inl rfl) rfl rfl (lb rfl) fun a S => leafL ⟨rfl, S⟩
   ·refine fJ [(1, _), (62, _)] 6 [none, some 4] fun G a w S => ?_
    exact sMove (.slice ad3 p1.length cp4) S (wG 4 true 62 rfl rfl rfl hc75) (.inl rfl) rfl rfl (lb rfl) fun a S => leafL ⟨rfl, S⟩
   ·refine fJ [(64, _), (62, _)] 7 [some 6, some 4] fun G a w S => ?_
    exact sLen S (wG 4 true 62 rfl rfl rfl hc75) rfl Try.underlying47 rfl rfl (lb rfl) fun a S => leafL ⟨rfl, S⟩
   ·refine fJ [(63, _), (65, _), (62, _)] 8 [some 5, some 7, some 4] fun G a w S => ?_
    exact sBin _ S (wG 4 true 62 rfl rfl rfl hc75) rfl rfl rfl (bLt _ _ _ _ .i64 s46 (p1.length : Int)) rfl (lb rfl) fun a S => leafL ⟨rfl, S⟩
   ·refine fJ [(62, _), (66, _)] 9 [some 4, some 8] fun G a w S => ?_
    exact sPickT (.bool (decide (s46 < (p1.length : Int)))) S (wN rfl) rfl rfl hc75 rfl rfl (lb rfl) fun a S => leafL ⟨rfl, S⟩
   ·exact fM 10 (some 9) rfl rfl rfl rfl (.inl rfl) rfl rfl rfl
   ·refine fJ [(0, _), (68, _)] 11 [none, some 10] fun G a w S => ?_
    exact sMove (.slice ad1 p0.length cp2) S (wG 10 true 68 rfl rfl rfl hc76) (.inl rfl) rfl rfl (lb rfl) fun a S => leafL ⟨rfl, S⟩
   ·refine fJ [(12, _), (68, _)] 12 [none, some 10] fun G a w S => ?_
    exact sMove (iv s45) S (wG 10 true 68 rfl rfl rfl hc76) (.inl rfl) rfl rfl (lb rfl) fun a S => leafL ⟨rfl, S⟩
   ·refine fJ [(69, _), (70, _), (68, _)] 13 [some 11, some 12, some 10] fun G a w S => ?_
    exact sIdxV S (wG 10 true 68 rfl rfl rfl hc76) rfl rfl rfl hq115 rfl (lb rfl) fun a S => leafL ⟨rfl, S⟩
   ·refine fJ [(71, _), (68, _)] 14 [some 13, some 10] fun G a w S => ?_
    exact sLoadVN (vq := q114) 3 [.int .u8 x77.Kind, .bool x77.Purl, iv x77.A, iv x77.B] S (wG 10 true 68 rfl rfl rfl hc76) rfl rfl rfl rfl rfl rfl (lb rfl) fun a S => leafL ⟨rfl, S⟩
   ·refine fJ [(1, _), (68, _)] 15 [none, some 10] fun G a w S => ?_
    exact sMove (.slice ad3 p1.length cp4) S (wG 10 true 68 rfl rfl rfl hc76) (.inl rfl) rfl rfl (lb rfl) fun a S => leafL ⟨rfl, S⟩
   ·refine fJ [(13, _), (68, _)] 16 [none, some 10] fun G a w S => ?_
    exact sMove (iv s46) S (wG 10 true 68 rfl rfl rfl hc76) (.inl rfl) rfl rfl (lb rfl) fun a S => leafL ⟨rfl, S⟩
   ·refine fJ [(73, _), (74, _), (68, _)] 17 [some 15, some 16, some 10] fun G a w S => ?_
    exact sIdxV S (wG 10 true 68 rfl rfl rfl hc76) rfl rfl rfl hq118 rfl (lb rfl) fun a S => leafL ⟨rfl, S⟩
   ·refine fJ [(75, _), (68, _)] 18 [some 17, some 10] fun G a w S => ?_
    exact sLoadVN (vq := q117) 0 [.int .u8 x82.Kind, .bool x82.Purl, iv x82.A, iv x82.B] S (wG 10 true 68 rfl rfl rfl hc76) rfl rfl rfl rfl rfl rfl (lb rfl) fun a S => leafL ⟨rfl, S⟩
   ·refine fJ [(72, _), (76, _), (68, _)] 19 [some 14, some 18, some 10] fun G a w S => ?_
    exact sBin _ S (wG 10 true 68 rfl rfl rfl hc76) rfl rfl rfl (bEqV _ _ _ _ #[.int .u8 x77.Kind, .bool x77.Purl, iv x77.A, iv x77.B] #[.int .u8 x82.Kind, .bool x82.Purl, iv x82.A, iv x82.B] ((x77.Kind == x82.Kind) && ((x77.Purl == x82.Purl) && ((x77.A == x82.A) && ((x77.B == x82.B) && true)))) (by kernel_rfl) (eqlV_of (by kernel_rfl))) rfl (lb rfl) fun a S => leafL ⟨rfl, S⟩
   ·refine fJ [(68, _), (77, _)] 20 [some 10, some 19] fun G a w S => ?_
    exact sPickT (.bool ((x77.Kind == x82.Kind) && ((x77.Purl == x82.Purl) && ((x77.A == x82.A) && ((x77.B == x82.B) && true))))) S (wN rfl) rfl rfl hc76 rfl rfl (lb rfl) fun a S => leafL ⟨rfl, S⟩
   ·exact fM 21 (some 20) rfl rfl rfl rfl (.inl rfl) rfl rfl rfl
   ·refine fJ [(14, _), (79, _)] 22 [none, some 21] fun G a w S => ?_
    exact sSk S rfl rfl rfl hc87 rfl rfl fun a S => leafL ⟨rfl, S⟩
   ·refine fJ [(10, _), (79, _)] 23 [none, some 21] fun G a w S => ?_
    exact sSk S rfl rfl rfl hc87 rfl rfl fun a S => leafL ⟨rfl, S⟩
   ·refine fJ [(12, _), (79, _)] 24 [none, some 21] fun G a w S => ?_
    exact sSk S rfl rfl rfl hc87 rfl rfl fun a S => leafL ⟨rfl, S⟩
   ·refine fJ [(82, _), (79, _)] 25 [some 24, some 21] fun G a w S => ?_
    exact sSk S rfl rfl rfl hc87 rfl rfl fun a S => leafL ⟨rfl, S⟩
   ·refine fJ [(81, _), (83, _), (79, _)] 26 [some 23, some 25, some 21] fun G a w S => ?_
    exact sSk S rfl rfl rfl hc87 rfl rfl fun a S => leafL ⟨rfl, S⟩
   ·refine fJ [(84, _), (79, _)] 27 [some 26, some 21] fun G a w S => ?_
    exact sSk S rfl rfl rfl hc87 rfl rfl fun a S => leafL ⟨rfl, S⟩
   ·refine fJ [(13, _), (79, _)] 28 [none, some 21] fun G a w S => ?_
    exact sSk S rfl rfl rfl hc87 rfl rfl fun a S => leafL ⟨rfl, S⟩
   ·refine fJ [(86, _), (79, _)] 29 [some 28, some 21] fun G a w S => ?_
    exact sSk S rfl rfl rfl hc87 rfl rfl fun a S => leafL ⟨rfl, S⟩
   ·refine fJ [(85, _), (87, _), (79, _)] 30 [some 27, some 29, some 21] fun G a w S => ?_
    exact sSk S rfl rfl rfl hc87 rfl rfl fun a S => leafL ⟨rfl, S⟩
   ·refine fJ [(88, _), (79, _)] 31 [some 30, some 21] fun G a w S => ?_
    exact sSk S rfl rfl rfl hc87 rfl rfl fun a S => leafL ⟨rfl, S⟩
   ·refine fJ [(80, _), (89, _), (79, _)] 32 [some 22, some 31, some 21] fun G a w S => ?_
    exact sSk S rfl rfl rfl hc87 rfl rfl fun a S => leafL ⟨rfl, S⟩
   ·refine fJ [(79, _), (90, _)] 33 [some 21, some 32] fun G a w S => ?_
    exact sPickF (.bool false) S (wN rfl) rfl rfl hc87 rfl rfl (lb rfl) fun a S => leafL ⟨rfl, S⟩
   ·exact fM 34 (some 33) rfl rfl rfl rfl (.inr rfl) rfl rfl rfl
   exact leafT (⟨false, Option.some.inj h, S.fix [0] [12, 13, 14] (by decide) rfl rfl rfl⟩)
  obtain ⟨x88, hx89, h⟩ := bindSome h
  obtain ⟨x95, hx96, h⟩ := bindSome h
  obtain ⟨q100, hq101, S⟩ := pIdx (P := Try.prog) (r := r_api_Stitch) (v := .slice ad1 p0.length cp2) (xs := p0) (j := s45) 47 81 6 S Try.underlying47 rfl rfl hx78
  obtain ⟨u102, S⟩ := pLoad (r := r_api_Stitch) (q := q100) (x := x77) 0 S rfl
  obtain rfl : u102 = .agg #[.int .u8 x77.Kind, .bool x77.Purl, iv x77.A, iv x77.B] := S.mem.know (i := 1) (e := fRep r_api_Stitch (u102) x77) rfl
  obtain ⟨q103, hq104, S⟩ := pIdx (P := Try.prog) (r := r_api_Stitch) (v := .slice ad3 p1.length cp4) (xs := p1) (j := s46) 47 81 10 S Try.underlying47 rfl rfl hx83
  obtain ⟨u105, S⟩ := pLoad (r := r_api_Stitch) (q := q103) (x := x82) 0 S rfl
  obtain rfl : u105 = .agg #[.int .u8 x82.Kind, .bool x82.Purl, iv x82.A, iv x82.B] := S.mem.know (i := 1) (e := fRep r_api_Stitch (u105) x82) rfl
  obtain ⟨q106, hq107, S⟩ := pIdx (P := Try.prog) (r := (rL (rI .i64))) (v := .slice ad33 r30.length cp34) (xs := r30) (j := w64 (s45 + 1)) 98 101 14 S Try.underlying98 rfl rfl hx89
  obtain ⟨u108, S⟩ := pLoad (r := (rL (rI .i64))) (q := q106) (x := x88) 0 S rfl
  obtain ⟨ad109, cp110, _, rfl, _⟩ := S.mem.know (i := 1) (e := fRep (rL (rI .i64)) (u108) x88) rfl
  obtain ⟨q111, hq112, S⟩ := pIdx (P := Try.prog) (r := (rI .i64)) (v := .slice ad109 x88.length cp110) (xs := x88) (j := w64 (s46 + 1)) 101 3 1 S Try.underlying101 rfl rfl hx96
  obtain ⟨u113, S⟩ := pLoad (r := (rI .i64)) (q := q111) (x := x95) 0 S rfl
  obtain rfl : u113 = iv x95 := S.mem.know (i := 1) (e := fRep (rI .i64) (u113) x95) rfl
  refine sDraw (nf := []) (W := [(0, 58, iv s45), (1, 59, .slice ad1 p0.length cp2), (2, 60, iv (p0.length : Int)), (3, 61, .bool (decide (s45 < (p0.length : Int)))), (4, 62, .bool (decide (s45 < (p0.length : Int)))), (5, 63, iv s46), (6, 64, .slice ad3 p1.length cp4), (7, 65, iv (p1.length : Int)), (8, 66, .bool (decide (s46 < (p1.length : Int)))), (9, 67, .bool (decide (s46 < (p1.length : Int)))), (10, 68, .bool (decide (s46 < (p1.length : Int)))), (11, 69, .slice ad1 p0.length cp2), (12, 70, iv s45), (13, 71, q100), (14, 72, .agg #[.int .u8 x77.Kind, .bool x77.Purl, iv x77.A, iv x77.B]), (15, 73, .slice ad3 p1.length cp4), (16, 74, iv s46), (17, 75, q103), (18, 76, .agg #[.int .u8 x82.Kind, .bool x82.Purl, iv x82.A, iv x82.B]), (19, 77, .bool ((x77.Kind == x82.Kind) && ((x77.Purl == x82.Purl) && ((x77.A == x82.A) && ((x77.B == x82.B) && true))))), (20, 78, .bool ((x77.Kind == x82.Kind) && ((x77.Purl == x82.Purl) && ((x77.A == x82.A) && ((x77.B == x82.B) && true))))), (21, 79, .bool ((x77.Kind == x82.Kind) && ((x77.Purl == x82.Purl) && ((x77.A == x82.A) && ((x77.B == x82.B) && true))))), (22, 80, iv x67), (23, 81, .slice ad33 r30.length cp34), (24, 82, iv s45), (25, 83, iv (w64 (s45 + 1))), (26, 84, q106), (27, 85, .slice ad109 x88.length cp110), (28, 86, iv s46), (29, 87, iv (w64 (s46 + 1))), (30, 88, q111), (31, 89, iv x95), (32, 90, .bool (x67 == x95)), (33, 91, .bool (x67 == x95)), (34, 57, .bool (x67 == x95))]) rfl S ?_
  refine node_by (A := anc_compare_Edits_0) 35 (by kernel_rfl) (by kernel_rfl) (by kernel_rfl) (by kernel_rfl) (by kernel_rfl) [0, 1, 2, 3, 4, 5, 6, 7, 8, 9, 10, 11, 12, 13, 14, 15, 16, 17, 18, 19, 20, 21, 22, 23, 24, 25, 26, 27, 28, 29, 30, 31, 32, 33, 34] (by kernel_rfl) (by decide) (by decide) (fF ?_ (fF ?_ (fF ?_ (fF ?_ (fF ?_ (fF ?_ (fF ?_ (fF ?_ (fF ?_ (fF ?_ (fF ?_ (fF ?_ (fF ?_ (fF ?_ (fF ?_ (fF ?_ (fF ?_ (fF ?_ (fF ?_ (fF ?_ (fF ?_ (fF ?_ (fF ?_ (fF ?_ (fF ?_ (fF ?_ (fF ?_ (fF ?_ (fF ?_ (fF ?_ (fF ?_ (fF ?_ (fF ?_ (fF ?_ (fF ?_ (trivial)))))))))))))))))))))))))))))))))))) [(0, .slice ad1 p0.length cp2), (1, .slice ad3 p1.length cp4), (10, .slice ad33 r30.length cp34), (11, .slice ad43 s42.length cp44), (12, iv s45), (13, iv s46), (14, iv x67), (57, .bool (x67 == x95)), (63, iv s46), (64, .slice ad3 p1.length cp4), (65, iv (p1.length : Int)), (66, .bool (decide (s46 < (p1.length : Int)))), (69, .slice ad1 p0.length cp2), (70, iv s45), (71, q100), (72, .agg #[.int .u8 x77.Kind, .bool x77.Purl, iv x77.A, iv x77.B]), (73, .slice ad3 p1.length cp4), (74, iv s46), (75, q103), (76, .agg #[.int .u8 x82.Kind, .bool x82.Purl, iv x82.A, iv x82.B]), (77, .bool ((x77.Kind == x82.Kind) && ((x77.Purl == x82.Purl) && ((x77.A == x82.A) && ((x77.B == x82.B) && true))))), (80, iv x67), (81, .slice ad33 r30.length cp34), (82, iv s45), (83, iv (w64 (s45 + 1))), (84, q106), (85, .slice ad109 x88.length cp110), (86, iv s46), (87, iv (w64 (s46 + 1))), (88, q111), (89, iv x95), (90, .bool (x67 == x95))] (fin_of [none, none, none, none, none, none, none, some 34, some 5, some 6, some 7, some 8, some 11, some 12, some 13, some 14, some 15, some 16, some 17, some 18, some 19, some 22, some 23, some 24, some 25, some 26, some 27, some 28, some 29, some 30, some 31, some 32] rfl (by kernel_rfl) (by kernel_rfl)) (fun _ a w S => ?_)
  ·exact fM 0 none rfl rfl rfl rfl (.inl rfl) rfl rfl rfl
  ·exact fM 1 none rfl rfl rfl rfl (.inl rfl) rfl rfl rfl
  ·refine fJ [(59, _)] 2 [some 1] fun G a w S => ?_
   exact sLen S (wN rfl) rfl Try.underlying47 rfl rfl (lb rfl) fun a S => leafL ⟨rfl, S⟩
  ·refine fJ [(58, _), (60, _)] 3 [some 0, some 2] fun G a w S => ?_
   exact sBin _ S (wN rfl) rfl rfl rfl (bLt _ _ _ _ .i64 s45 (p0.length : Int)) rfl (lb rfl) fun a S => leafL ⟨rfl, S⟩
  ·exact fM 4 (some 3) rfl rfl rfl rfl (.inl rfl) rfl rfl rfl
  ·refine fJ [(13, _), (62, _)] 5 [none, some 4] fun G a w S => ?_
   exact sMove (iv s46) S (wG 4 true 62 rfl rfl rfl hc75) (.inl rfl) rfl rfl (lb rfl) fun a S => leafL ⟨rfl, S⟩
  ·refine fJ [(1, _), (62, _)] 6 [none, some 4] fun G a w S => ?_
   exact sMove (.slice ad3 p1.length cp4) S (wG 4 true 62 rfl rfl rfl hc75) (.inl rfl) rfl rfl (lb rfl) fun a S => leafL ⟨rfl, S⟩
  ·refine fJ [(64, _), (62, _)] 7 [some 6, some 4] fun G a w S => ?_
   exact sLen S (wG 4 true 62 rfl rfl rfl hc75) rfl Try.underlying47 rfl rfl (lb rfl) fun a S => leafL ⟨rfl, S⟩
  ·refine fJ [(63, _), (65, _), (62, _)] 8 [some 5, some 7, some 4] fun G a w S => ?_
   exact sBin _ S (wG 4 true 62 rfl rfl rfl hc75) rfl rfl rfl (bLt _ _ _ _ .i64 s46 (p1.length : Int)) rfl (lb rfl) fun a S => leafL ⟨rfl, S⟩
  ·refine fJ [(62, _), (66, _)] 9 [some 4, some 8] fun G a w S => ?_
   exact sPickT (.bool (decide (s46 < (p1.length : Int)))) S (wN rfl) rfl rfl hc75 rfl rfl (lb rfl) fun a S => leafL ⟨rfl, S⟩
  ·exact fM 10 (some 9) rfl rfl rfl rfl (.inl rfl) rfl rfl rfl
  ·refine fJ [(0, _), (68, _)] 11 [none, some 10] fun G a w S => ?_
   exact sMove (.slice ad1 p0.length cp2) S (wG 10 true 68 rfl rfl rfl hc76) (.inl rfl) rfl rfl (lb rfl) fun a S => leafL ⟨rfl, S⟩
  ·refine fJ [(12, _), (68, _)] 12 [none, some 10] fun G a w S => ?_
   exact sMove (iv s45) S (wG 10 true 68 rfl rfl rfl hc76) (.inl rfl) rfl rfl (lb rfl) fun a S => leafL ⟨rfl, S⟩
  ·refine fJ [(69, _), (70, _), (68, _)] 13 [some 11, some 12, some 10] fun G a w S => ?_
   exact sIdxV S (wG 10 true 68 rfl rfl rfl hc76) rfl rfl rfl hq101 rfl (lb rfl) fun a S => leafL ⟨rfl, S⟩
  ·refine fJ [(71, _), (68, _)] 14 [some 13, some 10] fun G a w S => ?_
   exact sLoadVN (vq := q100) 9 [.int .u8 x77.Kind, .bool x77.Purl, iv x77.A, iv x77.B] S (wG 10 true 68 rfl rfl rfl hc76) rfl rfl rfl rfl rfl rfl (lb rfl) fun a S => leafL ⟨rfl, S⟩
  ·refine fJ [(1, _), (68, _)] 15 [none, some 10] fun G a w S => ?_
   exact sMove (.slice ad3 p1.length cp4) S (wG 10 true 68 rfl rfl rfl hc76) (.inl rfl) rfl rfl (lb rfl) fun a S => leafL ⟨rfl, S⟩
  ·refine fJ [(13, _), (68, _)] 16 [none, some 10] fun G a w S => ?_
   exact sMove (iv s46) S (wG 10 true 68 rfl rfl rfl hc76) (.inl rfl) rfl rfl (lb rfl) fun a S => leafL ⟨rfl, S⟩
  ·refine fJ [(73, _), (74, _), (68, _)] 17 [some 15, some 16, some 10] fun G a w S => ?_
   exact sIdxV S (wG 10 true 68 rfl rfl rfl hc76) rfl rfl rfl hq104 rfl (lb rfl) fun a S => leafL ⟨rfl, S⟩
  ·refine fJ [(75, _), (68, _)] 18 [some 17, some 10] fun G a w S => ?_
   exact sLoadVN (vq := q103) 6 [.int .u8 x82.Kind, .bool x82.Purl, iv x82.A, iv x82.B] S (wG 10 true 68 rfl rfl rfl hc76) rfl rfl rfl rfl rfl rfl (lb rfl) fun a S => leafL ⟨rfl, S⟩
  ·refine fJ [(72, _), (76, _), (68, _)] 19 [some 14, some 18, some 10] fun G a w S => ?_
   exact sBin _ S (wG 10 true 68 rfl rfl rfl hc76) rfl rfl rfl (bEqV _ _ _ _ #[.int .u8 x77.Kind, .bool x77.Purl, iv x77.A, iv x77.B] #[.int .u8 x82.Kind, .bool x82.Purl, iv x82.A, iv x82.B] ((x77.Kind == x82.Kind) && ((x77.Purl == x82.Purl) && ((x77.A == x82.A) && ((x77.B == x82.B) && true)))) (by kernel_rfl) (eqlV_of (by kernel_rfl))) rfl (lb rfl) fun a S => leafL ⟨rfl, S⟩
  ·refine fJ [(68, _), (77, _)] 20 [some 10, some 19] fun G a w S => ?_
   exact sPickT (.bool ((x77.Kind == x82.Kind) && ((x77.Purl == x82.Purl) && ((x77.A == x82.A) && ((x77.B == x82.B) && true))))) S (wN rfl) rfl rfl hc76 rfl rfl (lb rfl) fun a S => leafL ⟨rfl, S⟩
  ·exact fM 21 (some 20) rfl rfl rfl rfl (.inl rfl) rfl rfl rfl
  ·refine fJ [(14, _), (79, _)] 22 [none, some 21] fun G a w S => ?_
   exact sMove (iv x67) S (wG 21 true 79 rfl rfl rfl hc87) (.inl rfl) rfl rfl (lb rfl) fun a S => leafL ⟨rfl, S⟩
  ·refine fJ [(10, _), (79, _)] 23 [none, some 21] fun G a w S => ?_
   exact sMove (.slice ad33 r30.length cp34) S (wG 21 true 79 rfl rfl rfl hc87) (.inl rfl) rfl rfl (lb rfl) fun a S => leafL ⟨rfl, S⟩
  ·refine fJ [(12, _), (79, _)] 24 [none, some 21] fun G a w S => ?_
   exact sMove (iv s45) S (wG 21 true 79 rfl rfl rfl hc87) (.inl rfl) rfl rfl (lb rfl) fun a S => leafL ⟨rfl, S⟩
  ·refine fJ [(82, _), (79, _)] 25 [some 24, some 21] fun G a w S => ?_
   exact sBin _ S (wG 21 true 79 rfl rfl rfl hc87) rfl rfl rfl (bAdd _ _ _ _ s45 1) rfl (lb rfl) fun a S => leafL ⟨rfl, S⟩
  ·refine fJ [(81, _), (83, _), (79, _)] 26 [some 23, some 25, some 21] fun G a w S => ?_
   exact sIdxV S (wG 21 true 79 rfl rfl rfl hc87) rfl rfl rfl hq107 rfl (lb rfl) fun a S => leafL ⟨rfl, S⟩
  ·refine fJ [(84, _), (79, _)] 27 [some 26, some 21] fun G a w S => ?_
   exact sLoadV1 (vq := q106) 3 (.slice ad109 x88.length cp110) S (wG 21 true 79 rfl rfl rfl hc87) rfl rfl rfl rfl rfl (lb rfl) fun a S => leafL ⟨rfl, S⟩
  ·refine fJ [(13, _), (79, _)] 28 [none, some 21] fun G a w S => ?_
   exact sMove (iv s46) S (wG 21 true 79 rfl rfl rfl hc87) (.inl rfl) rfl rfl (lb rfl) fun a S => leafL ⟨rfl, S⟩
  ·refine fJ [(86, _), (79, _)] 29 [some 28, some 21] fun G a w S => ?_
   exact sBin _ S (wG 21 true 79 rfl rfl rfl hc87) rfl rfl rfl (bAdd _ _ _ _ s46 1) rfl (lb rfl) fun a S => leafL ⟨rfl, S⟩
  ·refine fJ [(85, _), (87, _), (79, _)] 30 [some 27, some 29, some 21] fun G a w S => ?_
   exact sIdxV S (wG 21 true 79 rfl rfl rfl hc87) rfl rfl rfl hq112 rfl (lb rfl) fun a S => leafL ⟨rfl, S⟩
  ·refine fJ [(88, _), (79, _)] 31 [some 30, some 21] fun G a w S => ?_
   exact sLoadV1 (vq := q111) 0 (iv x95) S (wG 21 true 79 rfl rfl rfl hc87) rfl rfl rfl rfl rfl (lb rfl) fun a S => leafL ⟨rfl, S⟩
  ·refine fJ [(80, _), (89, _), (79, _)] 32 [some 22, some 31, some 21] fun G a w S => ?_
   exact sBin _ S (wG 21 true 79 rfl rfl rfl hc87) rfl rfl rfl (bEq _ _ _ _ .i64 x67 x95) rfl (lb rfl) fun a S => leafL ⟨rfl, S⟩
  ·refine fJ [(79, _), (90, _)] 33 [some 21, some 32] fun G a w S => ?_
   exact sPickT (.bool (x67 == x95)) S (wN rfl) rfl rfl hc87 rfl rfl (lb rfl) fun a S => leafL ⟨rfl, S⟩
  ·exact fM 34 (some 33) rfl rfl rfl rfl (.inr rfl) rfl rfl rfl
  exact leafT (⟨x67 == x95, Option.some.inj h, S.fix [0] [18, 19, 20] (by decide) rfl rfl rfl⟩)
 obtain ⟨o72, rfl, S⟩ := hI
 have h := g74
 clear g74
 try dsimp only at h
 rcases iteSome h with ⟨hc120, h⟩ | ⟨hc120, h⟩
 ·refine sCondT S rfl hc120 ?_
  refine sSeq (fun K121 hK121 => ?_)
  refine sRegion ?_
  refine sMm S rfl rfl rfl rfl rfl fun a S => ?_
  refine sBuild [(0, .int .u8 1)] [.int .u8 1, .int .u8 0, .bool false, iv 0, iv 0] S (wN rfl) rfl rfl rfl rfl (lb rfl) fun a S => ?_
  have S := S.learn (fRep r_api_CellStep (.agg #[.int .u8 1, .int .u8 0, .bool false, iv 0, iv 0]) (api_CellStep.mk 1 (api_Stitch.mk 0 false 0 0))) rfl
  refine sLit (r := r_api_CellStep) (T := 83) (xs := [(api_CellStep.mk 1 (api_Stitch.mk 0 false 0 0))]) [(0, .agg #[.int .u8 1, .int .u8 0, .bool false, iv 0, iv 0])] 1 [.agg #[.int .u8 1, .int .u8 0, .bool false, iv 0, iv 0]] [.int .u8 1, .int .u8 0, .bool false, iv 0, iv 0] (.agg #[.int .u8 0, .int .u8 0, .bool false, iv 0, iv 0]) 32 S (wN rfl) rfl rfl Try.underlying48 rfl (by decide) (by decide) (by kernel_rfl) rfl (fun E1 w1 hE => All.cons (r_api_CellStep.mono hE (S.mem.know (i := 0) (e := fRep r_api_CellStep (.agg #[.int .u8 1, .int .u8 0, .bool false, iv 0, iv 0]) (api_CellStep.mk 1 (api_Stitch.mk 0 false 0 0))) rfl)) (All.nil _ _ _)) rfl rfl (lb rfl) fun a w ad122 cp123 S => ?_
  obtain ⟨l124, hx125, h⟩ := bindSome h
  refine sApp (r := r_api_CellStep) (T := 83) (xs := s42) (ys := [(api_CellStep.mk 1 (api_Stitch.mk 0 false 0 0))]) (v := .slice ad43 s42.length cp44) (u := .slice ad122 [(api_CellStep.mk 1 (api_Stitch.mk 0 false 0 0))].length cp123) 1 (.agg #[.int .u8 0, .int .u8 0, .bool false, iv 0, iv 0]) 32 S (wN rfl) rfl Try.underlying48 rfl rfl (by decide) rfl rfl rfl (src_R (T := 83) 0 S.mem rfl) hx125 rfl (lb rfl) fun a w ad126 cp127 S => ?_
  refine sMa S rfl rfl rfl rfl rfl fun a S => ?_
  refine lT (hK121 _ _ ?_)
  refine sSeq (fun K128 hK128 => ?_)
  refine sRegion ?_
  refine sMm S rfl rfl rfl rfl rfl fun a S => ?_
  refine sBin _ S (wN rfl) rfl rfl rfl (bAdd _ _ _ _ s45 1) rfl (lb rfl) fun a S => ?_
  refine sMa S rfl rfl rfl rfl rfl fun a S => ?_
  refine lT (hK128 _ _ ?_)
  refine sRegion ?_
  refine sMm S rfl rfl rfl rfl rfl fun a S => ?_
  refine sBin _ S (wN rfl) rfl rfl rfl (bAdd _ _ _ _ s46 1) rfl (lb rfl) fun a S => ?_
  refine sMa S rfl rfl rfl rfl rfl fun a S => ?_
  exact leafL (leafB (leafB (leafT (⟨(l124, w64 (s45 + 1), w64 (s46 + 1)), (Option.some.inj h).symm, ⟨ad126, cp127, S.fix [0] [1, 2, 3] (by decide) rfl rfl rfl⟩⟩))))
 refine sCondF S rfl hc120 ?_
 obtain ⟨t130, h, g131⟩ := bindSome h
 refine sCut (fun a w => ∃ o129, o129 = t130 ∧ St [] E [] w0 178 a w [(0, .slice ad1 p0.length cp2), (1, .slice ad3 p1.length cp4), (10, .slice ad33 r30.length cp34), (11, .slice ad43 s42.length cp44), (12, iv s45), (13, iv s46), (14, iv x67), (100, .bool o129)] [eRow r_api_CellStep 83 (.slice ad43 s42.length cp44) s42] [fRep (rL r_api_Stitch) (.slice ad1 p0.length cp2) p0, fRep (rL r_api_Stitch) (.slice ad3 p1.length cp4) p1, fRep (rL (rL (rI .i64))) (.slice ad33 r30.length cp34) r30]) ?_ (fun a w hI => ?_)
 rotate_left
 ·obtain ⟨o129, rfl, S⟩ := hI
  have h := g131
  clear g131
  try dsimp only at h
  rcases iteSome h with ⟨hc177, h⟩ | ⟨hc177, h⟩
  ·refine sCondT S rfl hc177 ?_
   refine sSeq (fun K178 hK178 => ?_)
   refine sRegion ?_
   refine sMm S rfl rfl rfl rfl rfl fun a S => ?_
   refine sMm S rfl rfl rfl rfl rfl fun a S => ?_
   refine sMm S rfl rfl rfl rfl rfl fun a S => ?_
   obtain ⟨x179, hx180, h⟩ := bindSome h
   obtain ⟨q181, hq182, S⟩ := pIdx (P := Try.prog) (r := r_api_Stitch) (v := .slice ad3 p1.length cp4) (xs := p1) (j := s46) 47 81 1 S Try.underlying47 rfl rfl hx180
   refine sIdxV S (wN rfl) rfl rfl rfl hq182 rfl (lb rfl) fun a S => ?_
   obtain ⟨u183, S⟩ := pLoad (r := r_api_Stitch) (q := q181) (x := x179) 0 S rfl
   obtain rfl : u183 = .agg #[.int .u8 x179.Kind, .bool x179.Purl, iv x179.A, iv x179.B] := S.mem.know (i := 1) (e := fRep r_api_Stitch (u183) x179) rfl
   refine sLoadVN (vq := q181) 0 [.int .u8 x179.Kind, .bool x179.Purl, iv x179.A, iv x179.B] S (wN rfl) rfl rfl rfl rfl rfl rfl (lb rfl) fun a S => ?_
   refine sBuild [(0, .int .u8 2), (1, .agg #[.int .u8 x179.Kind, .bool x179.Purl, iv x179.A, iv x179.B])] [.int .u8 2, .int .u8 x179.Kind, .bool x179.Purl, iv x179.A, iv x179.B] S (wN rfl) rfl rfl rfl rfl (lb rfl) fun a S => ?_
   have S := S.learn (fRep r_api_CellStep (.agg #[.int .u8 2, .int .u8 x179.Kind, .bool x179.Purl, iv x179.A, iv x179.B]) (api_CellStep.mk 2 x179)) rfl
   refine sLit (r := r_api_CellStep) (T := 83) (xs := [(api_CellStep.mk 2 x179)]) [(0, .agg #[.int .u8 2, .int .u8 x179.Kind, .bool x179.Purl, iv x179.A, iv x179.B])] 1 [.agg #[.int .u8 2, .int .u8 x179.Kind, .bool x179.Purl, iv x179.A, iv x179.B]] [.int .u8 2, .int .u8 x179.Kind, .bool x179.Purl, iv x179.A, iv x179.B] (.agg #[.int .u8 0, .int .u8 0, .bool false, iv 0, iv 0]) 32 S (wN rfl) rfl rfl Try.underlying48 rfl (by decide) (by decide) (by kernel_rfl) rfl (fun E1 w1 hE => All.cons (r_api_CellStep.mono hE (S.mem.know (i := 0) (e := fRep r_api_CellStep (.agg #[.int .u8 2, .int .u8 x179.Kind, .bool x179.Purl, iv x179.A, iv x179.B]) (api_CellStep.mk 2 x179)) rfl)) (All.nil _ _ _)) rfl rfl (lb rfl) fun a w ad184 cp185 S => ?_
   obtain ⟨l186, hx187, h⟩ := bindSome h
   refine sApp (r := r_api_CellStep) (T := 83) (xs := s42) (ys := [(api_CellStep.mk 2 x179)]) (v := .slice ad43 s42.length cp44) (u := .slice ad184 [(api_CellStep.mk 2 x179)].length cp185) 1 (.agg #[.int .u8 0, .int .u8 0, .bool false, iv 0, iv 0]) 32 S (wN rfl) rfl Try.underlying48 rfl rfl (by decide) rfl rfl rfl (src_R (T := 83) 0 S.mem rfl) hx187 rfl (lb rfl) fun a w ad188 cp189 S => ?_
   refine sMa S rfl rfl rfl rfl rfl fun a S => ?_
   refine lT (hK178 _ _ ?_)
   refine sSeq (fun K190 hK190 => ?_)
   refine sRegion ?_
   refine sMm S rfl rfl rfl rfl rfl fun a S => ?_
   refine sBin _ S (wN rfl) rfl rfl rfl (bAdd _ _ _ _ s45 1) rfl (lb rfl) fun a S => ?_
   refine sMa S rfl rfl rfl rfl rfl fun a S => ?_
   refine lT (hK190 _ _ ?_)
   refine sRegion ?_
   refine sMm S rfl rfl rfl rfl rfl fun a S => ?_
   refine sBin _ S (wN rfl) rfl rfl rfl (bAdd _ _ _ _ s46 1) rfl (lb rfl) fun a S => ?_
   refine sMa S rfl rfl rfl rfl rfl fun a S => ?_
   exact leafL (leafB (leafB (leafT (⟨(l186, w64 (s45 + 1), w64 (s46 + 1)), (Option.some.inj h).symm, ⟨ad188, cp189, S.fix [0] [4, 5, 6] (by decide) rfl rfl rfl⟩⟩))))
  refine sCondF S rfl hc177 ?_
  obtain ⟨t192, h, g193⟩ := bindSome h
  refine sCut (fun a w => ∃ o191, o191 = t192 ∧ St [] E [] w0 178 a w [(0, .slice ad1 p0.length cp2), (1, .slice ad3 p1.length cp4), (10, .slice ad33 r30.length cp34), (11, .slice ad43 s42.length cp44), (12, iv s45), (13, iv s46), (148, .bool o191)] [eRow r_api_CellStep 83 (.slice ad43 s42.length cp44) s42] [fRep (rL r_api_Stitch) (.slice ad1 p0.length cp2) p0, fRep (rL r_api_Stitch) (.slice ad3 p1.length cp4) p1, fRep (rL (rL (rI .i64))) (.slice ad33 r30.length cp34) r30]) ?_ (fun a w hI => ?_)
  ·refine sRegion ?_
   refine sMm S rfl rfl rfl rfl rfl fun a S => ?_
   refine sMm S rfl rfl rfl rfl rfl fun a S => ?_
   refine sLen S (wN rfl) rfl Try.underlying47 rfl rfl (lb rfl) fun a S => ?_
   refine sBin _ S (wN rfl) rfl rfl rfl (bLt _ _ _ _ .i64 s45 (p0.length : Int)) rfl (lb rfl) fun a S => ?_
   refine sMm S rfl rfl rfl rfl rfl fun a S => ?_
   rcases iteSome h with ⟨hc194, h⟩ | ⟨hc194, h⟩
   rotate_left
   ·refine sSkN 11 4 true 153 S rfl rfl hc194 rfl fun a S => ?_
    refine sPickF (.bool false) S (wN rfl) rfl rfl hc194 rfl rfl (lb rfl) fun a S => ?_
    refine sMa S rfl rfl rfl rfl rfl fun a S => ?_
    exact lT (⟨false, Option.some.inj h, S.fix [0] [0, 1, 2] (by decide) rfl rfl rfl⟩)
   refine sMove (iv x67) S (wG 4 true 153 rfl rfl rfl hc194) (.inl rfl) rfl rfl (lb rfl) fun a S => ?_
   refine sMove (.slice ad33 r30.length cp34) S (wG 4 true 153 rfl rfl rfl hc194) (.inl rfl) rfl rfl (lb rfl) fun a S => ?_
   refine sMove (iv s45) S (wG 4 true 153 rfl rfl rfl hc194) (.inl rfl) rfl rfl (lb rfl) fun a S => ?_
   refine sBin _ S (wG 4 true 153 rfl rfl rfl hc194) rfl rfl rfl (bAdd _ _ _ _ s45 1) rfl (lb rfl) fun a S => ?_
   obtain ⟨x195, hx196, h⟩ := bindSome h
   obtain ⟨q197, hq198, S⟩ := pIdx (P := Try.prog) (r := (rL (rI .i64))) (v := .slice ad33 r30.length cp34) (xs := r30) (j := w64 (s45 + 1)) 98 101 2 S Try.underlying98 rfl rfl hx196
   refine sIdxV S (wG 4 true 153 rfl rfl rfl hc194) rfl rfl rfl hq198 rfl (lb rfl) fun a S => ?_
   obtain ⟨u199, S⟩ := pLoad (r := (rL (rI .i64))) (q := q197) (x := x195) 0 S rfl
   obtain ⟨ad200, cp201, _, rfl, _⟩ := S.mem.know (i := 1) (e := fRep (rL (rI .i64)) (u199) x195) rfl
   refine sLoadV1 (vq := q197) 0 (.slice ad200 x195.length cp201) S (wG 4 true 153 rfl rfl rfl hc194) rfl rfl rfl rfl rfl (lb rfl) fun a S => ?_
   refine sMove (iv s46) S (wG 4 true 153 rfl rfl rfl hc194) (.inl rfl) rfl rfl (lb rfl) fun a S => ?_
   obtain ⟨x202, hx203, h⟩ := bindSome h
   obtain ⟨q204, hq205, S⟩ := pIdx (P := Try.prog) (r := (rI .i64)) (v := .slice ad200 x195.length cp201) (xs := x195) (j := s46) 101 3 1 S Try.underlying101 rfl rfl hx203
   refine sIdxV S (wG 4 true 153 rfl rfl rfl hc194) rfl rfl rfl hq205 rfl (lb rfl) fun a S => ?_
   obtain ⟨u206, S⟩ := pLoad (r := (rI .i64)) (q := q204) (x := x202) 0 S rfl
   obtain rfl : u206 = iv x202 := S.mem.know (i := 1) (e := fRep (rI .i64) (u206) x202) rfl
   refine sLoadV1 (vq := q204) 0 (iv x202) S (wG 4 true 153 rfl rfl rfl hc194) rfl rfl rfl rfl rfl (lb rfl) fun a S => ?_
   refine sBin _ S (wG 4 true 153 rfl rfl rfl hc194) rfl rfl rfl (bAdd _ _ _ _ 1 x202) rfl (lb rfl) fun a S => ?_
   refine sBin _ S (wG 4 true 153 rfl rfl rfl hc194) rfl rfl rfl (bEq _ _ _ _ .i64 x67 (w64 (1 + x202))) rfl (lb rfl) fun a S => ?_
   refine sPickT (.bool (x67 == (w64 (1 + x202)))) S (wN rfl) rfl rfl hc194 rfl rfl (lb rfl) fun a S => ?_
   refine sMa S rfl rfl rfl rfl rfl fun a S => ?_
   exact lT (⟨x67 == (w64 (1 + x202)), Option.some.inj h, S.fix [0] [6, 7, 8] (by decide) rfl rfl rfl⟩)
  obtain ⟨o191, rfl, S⟩ := hI
  have h := g193
  clear g193
  try dsimp only at h
  rcases iteSome h with ⟨hc207, h⟩ | ⟨hc207, h⟩
  ·refine sCondT S rfl hc207 ?_
   refine sSeq (fun K208 hK208 => ?_)
   refine sRegion ?_
   refine sMm S rfl rfl rfl rfl rfl fun a S => ?_
   refine sBuild [(0, .int .u8 4)] [.int .u8 4, .int .u8 0, .bool false, iv 0, iv 0] S (wN rfl) rfl rfl rfl rfl (lb rfl) fun a S => ?_
   have S := S.learn (fRep r_api_CellStep (.agg #[.int .u8 4, .int .u8 0, .bool false, iv 0, iv 0]) (api_CellStep.mk 4 (api_Stitch.mk 0 false 0 0))) rfl
   refine sLit (r := r_api_CellStep) (T := 83) (xs := [(api_CellStep.mk 4 (api_Stitch.mk 0 false 0 0))]) [(0, .agg #[.int .u8 4, .int .u8 0, .bool false, iv 0, iv 0])] 1 [.agg #[.int .u8 4, .int .u8 0, .bool false, iv 0, iv 0]] [.int .u8 4, .int .u8 0, .bool false, iv 0, iv 0] (.agg #[.int .u8 0, .int .u8 0, .bool false, iv 0, iv 0]) 32 S (wN rfl) rfl rfl Try.underlying48 rfl (by decide) (by decide) (by kernel_rfl) rfl (fun E1 w1 hE => All.cons (r_api_CellStep.mono hE (S.mem.know (i := 0) (e := fRep r_api_CellStep (.agg #[.int .u8 4, .int .u8 0, .bool false, iv 0, iv 0]) (api_CellStep.mk 4 (api_Stitch.mk 0 false 0 0))) rfl)) (All.nil _ _ _)) rfl rfl (lb rfl) fun a w ad209 cp210 S => ?_
   obtain ⟨l211, hx212, h⟩ := bindSome h
   refine sApp (r := r_api_CellStep) (T := 83) (xs := s42) (ys := [(api_CellStep.mk 4 (api_Stitch.mk 0 false 0 0))]) (v := .slice ad43 s42.length cp44) (u := .slice ad209 [(api_CellStep.mk 4 (api_Stitch.mk 0 false 0 0))].length cp210) 1 (.agg #[.int .u8 0, .int .u8 0, .bool false, iv 0, iv 0]) 32 S (wN rfl) rfl Try.underlying48 rfl rfl (by decide) rfl rfl rfl (src_R (T := 83) 0 S.mem rfl) hx212 rfl (lb rfl) fun a w ad213 cp214 S => ?_
   refine sMa S rfl rfl rfl rfl rfl fun a S => ?_
   refine lT (hK208 _ _ ?_)
   refine sRegion ?_
   refine sMm S rfl rfl rfl rfl rfl fun a S => ?_
   refine sBin _ S (wN rfl) rfl rfl rfl (bAdd _ _ _ _ s45 1) rfl (lb rfl) fun a S => ?_
   refine sMa S rfl rfl rfl rfl rfl fun a S => ?_
   exact leafL (leafB (leafB (leafT (⟨(l211, w64 (s45 + 1), s46), (Option.some.inj h).symm, ⟨ad213, cp214, S.fix [0] [1, 2, 3] (by decide) rfl rfl rfl⟩⟩))))
  refine sCondF S rfl hc207 ?_
  refine sSeq (fun K215 hK215 => ?_)
  refine sRegion ?_
  refine sMm S rfl rfl rfl rfl rfl fun a S => ?_
  refine sMm S rfl rfl rfl rfl rfl fun a S => ?_
  refine sMm S rfl rfl rfl rfl rfl fun a S => ?_
  obtain ⟨x216, hx217, h⟩ := bindSome h
  obtain ⟨q218, hq219, S⟩ := pIdx (P := Try.prog) (r := r_api_Stitch) (v := .slice ad3 p1.length cp4) (xs := p1) (j := s46) 47 81 1 S Try.underlying47 rfl rfl hx217
  refine sIdxV S (wN rfl) rfl rfl rfl hq219 rfl (lb rfl) fun a S => ?_
  obtain ⟨u220, S⟩ := pLoad (r := r_api_Stitch) (q := q218) (x := x216) 0 S rfl
  obtain rfl : u220 = .agg #[.int .u8 x216.Kind, .bool x216.Purl, iv x216.A, iv x216.B] := S.mem.know (i := 1) (e := fRep r_api_Stitch (u220) x216) rfl
  refine sLoadVN (vq := q218) 0 [.int .u8 x216.Kind, .bool x216.Purl, iv x216.A, iv x216.B] S (wN rfl) rfl rfl rfl rfl rfl rfl (lb rfl) fun a S => ?_
  refine sBuild [(0, .int .u8 3), (1, .agg #[.int .u8 x216.Kind, .bool x216.Purl, iv x216.A, iv x216.B])] [.int .u8 3, .int .u8 x216.Kind, .bool x216.Purl, iv x216.A, iv x216.B] S (wN rfl) rfl rfl rfl rfl (lb rfl) fun a S => ?_
  have S := S.learn (fRep r_api_CellStep (.agg #[.int .u8 3, .int .u8 x216.Kind, .bool x216.Purl, iv x216.A, iv x216.B]) (api_CellStep.mk 3 x216)) rfl
  refine sLit (r := r_api_CellStep) (T := 83) (xs := [(api_CellStep.mk 3 x216)]) [(0, .agg #[.int .u8 3, .int .u8 x216.Kind, .bool x216.Purl, iv x216.A, iv x216.B])] 1 [.agg #[.int .u8 3, .int .u8 x216.Kind, .bool x216.Purl, iv x216.A, iv x216.B]] [.int .u8 3, .int .u8 x216.Kind, .bool x216.Purl, iv x216.A, iv x216.B] (.agg #[.int .u8 0, .int .u8 0, .bool false, iv 0, iv 0]) 32 S (wN rfl) rfl rfl Try.underlying48 rfl (by decide) (by decide) (by kernel_rfl) rfl (fun E1 w1 hE => All.cons (r_api_CellStep.mono hE (S.mem.know (i := 0) (e := fRep r_api_CellStep (.agg #[.int .u8 3, .int .u8 x216.Kind, .bool x216.Purl, iv x216.A, iv x216.B]) (api_CellStep.mk 3 x216)) rfl)) (All.nil _ _ _)) rfl rfl (lb rfl) fun a w ad221 cp222 S => ?_
  obtain ⟨l223, hx224, h⟩ := bindSome h
  refine sApp (r := r_api_CellStep) (T := 83) (xs := s42) (ys := [(api_CellStep.mk 3 x216)]) (v := .slice ad43 s42.length cp44) (u := .slice ad221 [(api_CellStep.mk 3 x216)].length cp222) 1 (.agg #[.int .u8 0, .int .u8 0, .bool false, iv 0, iv 0]) 32 S (wN rfl) rfl Try.underlying48 rfl rfl (by decide) rfl rfl rfl (src_R (T := 83) 0 S.mem rfl) hx224 rfl (lb rfl) fun a w ad225 cp226 S => ?_
  refine sMa S rfl rfl rfl rfl rfl fun a S => ?_
  refine lT (hK215 _ _ ?_)
  refine sRegion ?_
  refine sMm S rfl rfl rfl rfl rfl fun a S => ?_
  refine sBin _ S (wN rfl) rfl rfl rfl (bAdd _ _ _ _ s46 1) rfl (lb rfl) fun a S => ?_
  refine sMa S rfl rfl rfl rfl rfl fun a S => ?_
  exact leafL (leafB (leafB (leafT (⟨(l223, s45, w64 (s46 + 1)), (Option.some.inj h).symm, ⟨ad225, cp226, S.fix [0] [4, 5, 6] (by decide) rfl rfl rfl⟩⟩))))
 rcases iteSome h with ⟨hc132, h⟩ | ⟨hc132, h⟩
 rotate_left
 ·refine sDraw (nf := []) (W := [(0, 101, iv s45), (1, 102, .slice ad1 p0.length cp2), (2, 103, iv (p0.length : Int)), (3, 104, .bool (decide (s45 < (p0.length : Int)))), (4, 105, .bool (decide (s45 < (p0.length : Int)))), (5, 106, undef), (6, 107, undef), (7, 108, undef), (8, 109, undef), (9, 110, .bool false), (10, 111, .bool false), (11, 112, undef), (12, 113, undef), (13, 114, undef), (14, 115, undef), (15, 116, undef), (16, 117, undef), (17, 118, undef), (18, 119, undef), (19, 120, undef), (20, 121, .bool false), (21, 122, .bool false), (22, 123, undef), (23, 124, undef), (24, 125, undef), (25, 126, undef), (26, 127, undef), (27, 128, undef), (28, 129, undef), (29, 130, undef), (30, 131, undef), (31, 132, undef), (32, 133, undef), (33, 134, undef), (34, 135, .bool false), (35, 100, .bool false)]) rfl S ?_
  refine node_by (A := anc_compare_Edits_1) 36 (by kernel_rfl) (by kernel_rfl) (by kernel_rfl) (by kernel_rfl) (by kernel_rfl) [0, 1, 2, 3, 4, 5, 6, 7, 8, 9, 10, 11, 12, 13, 14, 15, 16, 17, 18, 19, 20, 21, 22, 23, 24, 25, 26, 27, 28, 29, 30, 31, 32, 33, 34, 35] (by kernel_rfl) (by decide) (by decide) (fF ?_ (fF ?_ (fF ?_ (fF ?_ (fF ?_ (fF ?_ (fF ?_ (fF ?_ (fF ?_ (fF ?_ (fF ?_ (fF ?_ (fF ?_ (fF ?_ (fF ?_ (fF ?_ (fF ?_ (fF ?_ (fF ?_ (fF ?_ (fF ?_ (fF ?_ (fF ?_ (fF ?_ (fF ?_ (fF ?_ (fF ?_ (fF ?_ (fF ?_ (fF ?_ (fF ?_ (fF ?_ (fF ?_ (fF ?_ (fF ?_ (fF ?_ (trivial))))))))))))))))))))))))))))))))))))) [(0, .slice ad1 p0.length cp2), (1, .slice ad3 p1.length cp4), (10, .slice ad33 r30.length cp34), (11, .slice ad43 s42.length cp44), (12, iv s45), (13, iv s46), (14, iv x67), (100, .bool false), (106, undef), (107, undef), (108, undef), (109, undef), (112, undef), (113, undef), (114, undef), (115, undef), (116, undef), (117, undef), (118, undef), (119, undef), (120, undef), (123, undef), (124, undef), (125, undef), (126, undef), (127, undef), (128, undef), (129, undef), (130, undef), (131, undef), (132, undef), (133, undef), (134, undef)] (fin_of [none, none, none, none, none, none, none, some 35, some 5, some 6, some 7, some 8, some 11, some 12, some 13, some 14, some 15, some 16, some 17, some 18, some 19, some 22, some 23, some 24, some 25, some 26, some 27, some 28, some 29, some 30, some 31, some 32, some 33] rfl (by kernel_rfl) (by kernel_rfl)) (fun _ a w S => ?_)
  ·exact fM 0 none rfl rfl rfl rfl (.inl rfl) rfl rfl rfl
  ·exact fM 1 none rfl rfl rfl rfl (.inl rfl) rfl rfl rfl
  ·refine fJ [(102, _)] 2 [some 1] fun G a w S => ?_
   exact sLen S (wN rfl) rfl Try.underlying47 rfl rfl (lb rfl) fun a S => leafL ⟨rfl, S⟩
  ·refine fJ [(101, _), (103, _)] 3 [some 0, some 2] fun G a w S => ?_
   exact sBin _ S (wN rfl) rfl rfl rfl (bLt _ _ _ _ .i64 s45 (p0.length : Int)) rfl (lb rfl) fun a S => leafL ⟨rfl, S⟩
  ·exact fM 4 (some 3) rfl rfl rfl rfl (.inl rfl) rfl rfl rfl
  ·refine fJ [(13, _), (105, _)] 5 [none, some 4] fun G a w S => ?_
   exact sSk S rfl rfl rfl hc132 rfl rfl fun a S => leafL ⟨rfl, S⟩
  ·refine fJ [(1, _), (105, _)] 6 [none, some 4] fun G a w S => ?_
   exact sSk S rfl rfl rfl hc132 rfl rfl fun a S => leafL ⟨rfl, S⟩
  ·refine fJ [(107, _), (105, _)] 7 [some 6, some 4] fun G a w S => ?_
   exact sSk S rfl rfl rfl hc132 rfl rfl fun a S => leafL ⟨rfl, S⟩
  ·refine fJ [(106, _), (108, _), (105, _)] 8 [some 5, some 7, some 4] fun G a w S => ?_
   exact sSk S rfl rfl rfl hc132 rfl rfl fun a S => leafL ⟨rfl, S⟩
  ·refine fJ [(105, _), (109, _)] 9 [some 4, some 8] fun G a w S => ?_
   exact sPickF (.bool false) S (wN rfl) rfl rfl hc132 rfl rfl (lb rfl) fun a S => leafL ⟨rfl, S⟩
  ·exact fM 10 (some 9) rfl rfl rfl rfl (.inl rfl) rfl rfl rfl
  ·refine fJ [(0, _), (111, _)] 11 [none, some 10] fun G a w S => ?_
   exact sSk S rfl rfl rfl rfl rfl rfl fun a S => leafL ⟨rfl, S⟩
  ·refine fJ [(12, _), (111, _)] 12 [none, some 10] fun G a w S => ?_
   exact sSk S rfl rfl rfl rfl rfl rfl fun a S => leafL ⟨rfl, S⟩
  ·refine fJ [(112, _), (113, _), (111, _)] 13 [some 11, some 12, some 10] fun G a w S => ?_
   exact sSk S rfl rfl rfl rfl rfl rfl fun a S => leafL ⟨rfl, S⟩
  ·refine fJ [(114, _), (111, _)] 14 [some 13, some 10] fun G a w S => ?_
   exact sSk S rfl rfl rfl rfl rfl rfl fun a S => leafL ⟨rfl, S⟩
  ·refine fJ [(1, _), (111, _)] 15 [none, some 10] fun G a w S => ?_
   exact sSk S rfl rfl rfl rfl rfl rfl fun a S => leafL ⟨rfl, S⟩
  ·refine fJ [(13, _), (111, _)] 16 [none, some 10] fun G a w S => ?_
   exact sSk S rfl rfl rfl rfl rfl rfl fun a S => leafL ⟨rfl, S⟩
  ·refine fJ [(116, _), (117, _), (111, _)] 17 [some 15, some 16, some 10] fun G a w S => ?_
   exact sSk S rfl rfl rfl rfl rfl rfl fun a S => leafL ⟨rfl, S⟩
  ·refine fJ [(118, _), (111, _)] 18 [some 17, some 10] fun G a w S => ?_
   exact sSk S rfl rfl rfl rfl rfl rfl fun a S => leafL ⟨rfl, S⟩
  ·refine fJ [(115, _), (119, _), (111, _)] 19 [some 14, some 18, some 10] fun G a w S => ?_
   exact sSk S rfl rfl rfl rfl rfl rfl fun a S => leafL ⟨rfl, S⟩
  ·refine fJ [(111, _), (120, _)] 20 [some 10, some 19] fun G a w S => ?_
   exact sPickF (.bool false) S (wN rfl) rfl rfl rfl rfl rfl (lb rfl) fun a S => leafL ⟨rfl, S⟩
  ·exact fM 21 (some 20) rfl rfl rfl rfl (.inl rfl) rfl rfl rfl
  ·refine fJ [(14, _), (122, _)] 22 [none, some 21] fun G a w S => ?_
   exact sSk S rfl rfl rfl rfl rfl rfl fun a S => leafL ⟨rfl, S⟩
  ·refine fJ [(10, _), (122, _)] 23 [none, some 21] fun G a w S => ?_
   exact sSk S rfl rfl rfl rfl rfl rfl fun a S => leafL ⟨rfl, S⟩
  ·refine fJ [(12, _), (122, _)] 24 [none, some 21] fun G a w S => ?_
   exact sSk S rfl rfl rfl rfl rfl rfl fun a S => leafL ⟨rfl, S⟩
  ·refine fJ [(125, _), (122, _)] 25 [some 24, some 21] fun G a w S => ?_
   exact sSk S rfl rfl rfl rfl rfl rfl fun a S => leafL ⟨rfl, S⟩
  ·refine fJ [(124, _), (126, _), (122, _)] 26 [some 23, some 25, some 21] fun G a w S => ?_
   exact sSk S rfl rfl rfl rfl rfl rfl fun a S => leafL ⟨rfl, S⟩
  ·refine fJ [(127, _), (122, _)] 27 [some 26, some 21] fun G a w S => ?_
   exact sSk S rfl rfl rfl rfl rfl rfl fun a S => leafL ⟨rfl, S⟩
  ·refine fJ [(13, _), (122, _)] 28 [none, some 21] fun G a w S => ?_
   exact sSk S rfl rfl rfl rfl rfl rfl fun a S => leafL ⟨rfl, S⟩
  ·refine fJ [(129, _), (122, _)] 29 [some 28, some 21] fun G a w S => ?_
   exact sSk S rfl rfl rfl rfl rfl rfl fun a S => leafL ⟨rfl, S⟩
  ·refine fJ [(128, _), (130, _), (122, _)] 30 [some 27, some 29, some 21] fun G a w S => ?_
   exact sSk S rfl rfl rfl rfl rfl rfl fun a S => leafL ⟨rfl, S⟩
  ·refine fJ [(131, _), (122, _)] 31 [some 30, some 21] fun G a w S => ?_
   exact sSk S rfl rfl rfl rfl rfl rfl fun a S => leafL ⟨rfl, S⟩
  ·refine fJ [(132, _), (122, _)] 32 [some 31, some 21] fun G a w S => ?_
   exact sSk S rfl rfl rfl rfl rfl rfl fun a S => leafL ⟨rfl, S⟩
  ·refine fJ [(123, _), (133, _), (122, _)] 33 [some 22, some 32, some 21] fun G a w S => ?_
   exact sSk S rfl rfl rfl rfl rfl rfl fun a S => leafL ⟨rfl, S⟩
  ·refine fJ [(122, _), (134, _)] 34 [some 21, some 33] fun G a w S => ?_
   exact sPickF (.bool false) S (wN rfl) rfl rfl rfl rfl rfl (lb rfl) fun a S => leafL ⟨rfl, S⟩
  ·exact fM 35 (some 34) rfl rfl rfl rfl (.inr rfl) rfl rfl rfl
  exact leafT (⟨false, Option.some.inj h, S.fix [0] [0, 1, 2] (by decide) rfl rfl rfl⟩)
 rcases iteSome h with ⟨hc133, h⟩ | ⟨hc133, h⟩
 rotate_left
 ·refine sDraw (nf := []) (W := [(0, 101, iv s45), (1, 102, .slice ad1 p0.length cp2), (2, 103, iv (p0.length : Int)), (3, 104, .bool (decide (s45 < (p0.length : Int)))), (4, 105, .bool (decide (s45 < (p0.length : Int)))), (5, 106, iv s46), (6, 107, .slice ad3 p1.length cp4), (7, 108, iv (p1.length : Int)), (8, 109, .bool (decide (s46 < (p1.length : Int)))), (9, 110, .bool (decide (s46 < (p1.length : Int)))), (10, 111, .bool (decide (s46 < (p1.length : Int)))), (11, 112, undef), (12, 113, undef), (13, 114, undef), (14, 115, undef), (15, 116, undef), (16, 117, undef), (17, 118, undef), (18, 119, undef), (19, 120, undef), (20, 121, .bool false), (21, 122, .bool false), (22, 123, undef), (23, 124, undef), (24, 125, undef), (25, 126, undef), (26, 127, undef), (27, 128, undef), (28, 129, undef), (29, 130, undef), (30, 131, undef), (31, 132, undef), (32, 133, undef), (33, 134, undef), (34, 135, .bool false), (35, 100, .bool false)]) rfl S ?_
  refine node_by (A := anc_compare_Edits_1) 36 (by kernel_rfl) (by kernel_rfl) (by kernel_rfl) (by kernel_rfl) (by kernel_rfl) [0, 1, 2, 3, 4, 5, 6, 7, 8, 9, 10, 11, 12, 13, 14, 15, 16, 17, 18, 19, 20, 21, 22, 23, 24, 25, 26, 27, 28, 29, 30, 31, 32, 33, 34, 35] (by kernel_rfl) (by decide) (by decide) (fF ?_ (fF ?_ (fF ?_ (fF ?_ (fF ?_ (fF ?_ (fF ?_ (fF ?_ (fF ?_ (fF ?_ (fF ?_ (fF ?_ (fF ?_ (fF ?_ (fF ?_ (fF ?_ (fF ?_ (fF ?_ (fF ?_ (fF ?_ (fF ?_ (fF ?_ (fF ?_ (fF ?_ (fF ?_ (fF ?_ (fF ?_ (fF ?_ (fF ?_ (fF ?_ (fF ?_ (fF ?_ (fF ?_ (fF ?_ (fF ?_ (fF ?_ (trivial))))))))))))))))))))))))))))))))))))) [(0, .slice ad1 p0.length cp2), (1, .slice ad3 p1.length cp4), (10, .slice ad33 r30.length cp34), (11, .slice ad43 s42.length cp44), (12, iv s45), (13, iv s46), (14, iv x67), (100, .bool false), (106, iv s46), (107, .slice ad3 p1.length cp4), (108, iv (p1.length : Int)), (109, .bool (decide (s46 < (p1.length : Int)))), (112, undef), (113, undef), (114, undef), (115, undef), (116, undef), (117, undef), (118, undef), (119, undef), (120, undef), (123, undef), (124, undef), (125, undef), (126, undef), (127, undef), (128, undef), (129, undef), (130, undef), (131, undef), (132, undef), (133, undef), (134, undef)] (fin_of [none, none, none, none, none, none, none, some 35, some 5, some 6, some 7, some 8, some 11, some 12, some 13, some 14, some 15, some 16, some 17, some 18, some 19, some 22, some 23, some 24, some 25, some 26, some 27, some 28, some 29, some 30, some 31, some 32, some 33] rfl (by kernel_rfl) (by kernel_rfl)) (fun _ a w S => ?_)
  ·exact fM 0 none rfl rfl rfl rfl (.inl rfl) rfl rfl rfl
  ·exact fM 1 none rfl rfl rfl rfl (.inl rfl) rfl rfl rfl
  ·refine fJ [(102, _)] 2 [some 1] fun G a w S => ?_
   exact sLen S (wN rfl) rfl Try.underlying47 rfl rfl (lb rfl) fun a S => leafL ⟨rfl, S⟩
  ·refine fJ [(101, _), (103, _)] 3 [some 0, some 2] fun G a w S => ?_
   exact sBin _ S (wN rfl) rfl rfl rfl (bLt _ _ _ _ .i64 s45 (p0.length : Int)) rfl (lb rfl) fun a S => leafL ⟨rfl, S⟩
  ·exact fM 4 (some 3) rfl rfl rfl rfl (.inl rfl) rfl rfl rfl
  ·refine fJ [(13, _), (105, _)] 5 [none, some 4] fun G a w S => ?_
   exact sMove (iv s46) S (wG 4 true 105 rfl rfl rfl hc132) (.inl rfl) rfl rfl (lb rfl) fun a S => leafL ⟨rfl, S⟩
  ·refine fJ [(1, _), (105, _)] 6 [none, some 4] fun G a w S => ?_
   exact sMove (.slice ad3 p1.length cp4) S (wG 4 true 105 rfl rfl rfl hc132) (.inl rfl) rfl rfl (lb rfl) fun a S => leafL ⟨rfl, S⟩
  ·refine fJ [(107, _), (105, _)] 7 [some 6, some 4] fun G a w S => ?_
   exact sLen S (wG 4 true 105 rfl rfl rfl hc132) rfl Try.underlying47 rfl rfl (lb rfl) fun a S => leafL ⟨rfl, S⟩
  ·refine fJ [(106, _), (108, _), (105, _)] 8 [some 5, some 7, some 4] fun G a w S => ?_
   exact sBin _ S (wG 4 true 105 rfl rfl rfl hc132) rfl rfl rfl (bLt _ _ _ _ .i64 s46 (p1.length : Int)) rfl (lb rfl) fun a S => leafL ⟨rfl, S⟩
  ·refine fJ [(105, _), (109, _)] 9 [some 4, some 8] fun G a w S => ?_
   exact sPickT (.bool (decide (s46 < (p1.length : Int)))) S (wN rfl) rfl rfl hc132 rfl rfl (lb rfl) fun a S => leafL ⟨rfl, S⟩
  ·exact fM 10 (some 9) rfl rfl rfl rfl (.inl rfl) rfl rfl rfl
  ·refine fJ [(0, _), (111, _)] 11 [none, some 10] fun G a w S => ?_
   exact sSk S rfl rfl rfl hc133 rfl rfl fun a S => leafL ⟨rfl, S⟩
  ·refine fJ [(12, _), (111, _)] 12 [none, some 10] fun G a w S => ?_
   exact sSk S rfl rfl rfl hc133 rfl rfl fun a S => leafL ⟨rfl, S⟩
  ·refine fJ [(112, _), (113, _), (111, _)] 13 [some 11, some 12, some 10] fun G a w S => ?_
   exact sSk S rfl rfl rfl hc133 rfl rfl fun a S => leafL ⟨rfl, S⟩
  ·refine fJ [(114, _), (111, _)] 14 [some 13, some 10] fun G a w S => ?_
   exact sSk S rfl rfl rfl hc133 rfl rfl fun a S => leafL ⟨rfl, S⟩
  ·refine fJ [(1, _), (111, _)] 15 [none, some 10] fun G a w S => ?_
   exact sSk S rfl rfl rfl hc133 rfl rfl fun a S => leafL ⟨rfl, S⟩
  ·refine fJ [(13, _), (111, _)] 16 [none, some 10] fun G a w S => ?_
   exact sSk S rfl rfl rfl hc133 rfl rfl fun a S => leafL ⟨rfl, S⟩
  ·refine fJ [(116, _), (117, _), (111, _)] 17 [some 15, some 16, some 10] fun G a w S => ?_
   exact sSk S rfl rfl rfl hc133 rfl rfl fun a S => leafL ⟨rfl, S⟩
  ·refine fJ [(118, _), (111, _)] 18 [some 17, some 10] fun G a w S => ?_
   exact sSk S rfl rfl rfl hc133 rfl rfl fun a S => leafL ⟨rfl, S⟩
  ·refine fJ [(115, _), (119, _), (111, _)] 19 [some 14, some 18, some 10] fun G a w S => ?_
   exact sSk S rfl rfl rfl hc133 rfl rfl fun a S => leafL ⟨rfl, S⟩
  ·refine fJ [(111, _), (120, _)] 20 [some 10, some 19] fun G a w S => ?_
   exact sPickF (.bool false) S (wN rfl) rfl rfl hc133 rfl rfl (lb rfl) fun a S => leafL ⟨rfl, S⟩
  ·exact fM 21 (some 20) rfl rfl rfl rfl (.inl rfl) rfl rfl rfl
  ·refine fJ [(14, _), (122, _)] 22 [none, some 21] fun G a w S => ?_
   exact sSk S rfl rfl rfl rfl rfl rfl fun a S => leafL ⟨rfl, S⟩
  ·refine fJ [(10, _), (122, _)] 23 [none, some 21] fun G a w S => ?_
   exact sSk S rfl rfl rfl rfl rfl rfl fun a S => leafL ⟨rfl, S⟩
  ·refine fJ [(12, _), (122, _)] 24 [none, some 21] fun G a w S => ?_
   exact sSk S rfl rfl rfl rfl rfl rfl fun a S => leafL ⟨rfl, S⟩
  ·refine fJ [(125, _), (122, _)] 25 [some 24, some 21] fun G a w S => ?_
   exact sSk S rfl rfl rfl rfl rfl rfl fun a S => leafL ⟨rfl, S⟩
  ·refine fJ [(124, _), (126, _), (122, _)] 26 [some 23, some 25, some 21] fun G a w S => ?_
   exact sSk S rfl rfl rfl rfl rfl rfl fun a S => leafL ⟨rfl, S⟩
  ·refine fJ [(127, _), (122, _)] 27 [some 26, some 21] fun G a w S => ?_
   exact sSk S rfl rfl rfl rfl rfl rfl fun a S => leafL ⟨rfl, S⟩
  ·refine fJ [(13, _), (122, _)] 28 [none, some 21] fun G a w S => ?_
   exact sSk S rfl rfl rfl rfl rfl rfl fun a S => leafL ⟨rfl, S⟩
  ·refine fJ [(129, _), (122, _)] 29 [some 28, some 21] fun G a w S => ?_
   exact sSk S rfl rfl rfl rfl rfl rfl fun a S => leafL ⟨rfl, S⟩
  ·refine fJ [(128, _), (130, _), (122, _)] 30 [some 27, some 29, some 21] fun G a w S => ?_
   exact sSk S rfl rfl rfl rfl rfl rfl fun a S => leafL ⟨rfl, S⟩
  ·refine fJ [(131, _), (122, _)] 31 [some 30, some 21] fun G a w S => ?_
   exact sSk S rfl rfl rfl rfl rfl rfl fun a S => leafL ⟨rfl, S⟩
  ·refine fJ [(132, _), (122, _)] 32 [some 31, some 21] fun G a w S => ?_
   exact sSk S rfl rfl rfl rfl rfl rfl fun a S => leafL ⟨rfl, S⟩
  ·refine fJ [(123, _), (133, _), (122, _)] 33 [some 22, some 32, some 21] fun G a w S => ?_
   exact sSk S rfl rfl rfl rfl rfl rfl fun a S => leafL ⟨rfl, S⟩
  ·refine fJ [(122, _), (134, _)] 34 [some 21, some 33] fun G a w S => ?_
   exact sPickF (.bool false) S (wN rfl) rfl rfl rfl rfl rfl (lb rfl) fun a S => leafL ⟨rfl, S⟩
  ·exact fM 35 (some 34) rfl rfl rfl rfl (.inr rfl) rfl rfl rfl
  exact leafT (⟨false, Option.some.inj h, S.fix [0] [0, 1, 2] (by decide) rfl rfl rfl⟩)
 obtain ⟨x134, hx135, h⟩ := bindSome h
 obtain ⟨x139, hx140, h⟩ := bindSome h
 rcases iteSome h with ⟨hc144, h⟩ | ⟨hc144, h⟩
 rotate_left
 ·obtain ⟨q171, hq172, S⟩ := pIdx (P := Try.prog) (r := r_api_Stitch) (v := .slice ad1 p0.length cp2) (xs := p0) (j := s45) 47 81 0 S Try.underlying47 rfl rfl hx135
  obtain ⟨u173, S⟩ := pLoad (r := r_api_Stitch) (q := q171) (x := x134) 0 S rfl
  obtain rfl : u173 = .agg #[.int .u8 x134.Kind, .bool x134.Purl, iv x134.A, iv x134.B] := S.mem.know (i := 1) (e := fRep r_api_Stitch (u173) x134) rfl
  obtain ⟨q174, hq175, S⟩ := pIdx (P := Try.prog) (r := r_api_Stitch) (v := .slice ad3 p1.length cp4) (xs := p1) (j := s46) 47 81 4 S Try.underlying47 rfl rfl hx140
  obtain ⟨u176, S⟩ := pLoad (r := r_api_Stitch) (q := q174) (x := x139) 0 S rfl
  obtain rfl : u176 = .agg #[.int .u8 x139.Kind, .bool x139.Purl, iv x139.A, iv x139.B] := S.mem.know (i := 1) (e := fRep r_api_Stitch (u176) x139) rfl
  refine sDraw (nf := []) (W := [(0, 101, iv s45), (1, 102, .slice ad1 p0.length cp2), (2, 103, iv (p0.length : Int)), (3, 104, .bool (decide (s45 < (p0.length : Int)))), (4, 105, .bool (decide (s45 < (p0.length : Int)))), (5, 106, iv s46), (6, 107, .slice ad3 p1.length cp4), (7, 108, iv (p1.length : Int)), (8, 109, .bool (decide (s46 < (p1.length : Int)))), (9, 110, .bool (decide (s46 < (p1.length : Int)))), (10, 111, .bool (decide (s46 < (p1.length : Int)))), (11, 112, .slice ad1 p0.length cp2), (12, 113, iv s45), (13, 114, q171), (14, 115, .agg #[.int .u8 x134.Kind, .bool x134.Purl, iv x134.A, iv x134.B]), (15, 116, .slice ad3 p1.length cp4), (16, 117, iv s46), (17, 118, q174), (18, 119, .agg #[.int .u8 x139.Kind, .bool x139.Purl, iv x139.A, iv x139.B]), (19, 120, .bool (!((x134.Kind == x139.Kind) && ((x134.Purl == x139.Purl) && ((x134.A == x139.A) && ((x134.B == x139.B) && true)))))), (20, 121, .bool (!((x134.Kind == x139.Kind) && ((x134.Purl == x139.Purl) && ((x134.A == x139.A) && ((x134.B == x139.B) && true)))))), (21, 122, .bool (!((x134.Kind == x139.Kind) && ((x134.Purl == x139.Purl) && ((x134.A == x139.A) && ((x134.B == x139.B) && true)))))), (22, 123, undef), (23, 124, undef), (24, 125, undef), (25, 126, undef), (26, 127, undef), (27, 128, undef), (28, 129, undef), (29, 130, undef), (30, 131, undef), (31, 132, undef), (32, 133, undef), (33, 134, undef), (34, 135, .bool false), (35, 100, .bool false)]) rfl S ?_
  refine node_by (A := anc_compare_Edits_1) 36 (by kernel_rfl) (by kernel_rfl) (by kernel_rfl) (by kernel_rfl) (by kernel_rfl) [0, 1, 2, 3, 4, 5, 6, 7, 8, 9, 10, 11, 12, 13, 14, 15, 16, 17, 18, 19, 20, 21, 22, 23, 24, 25, 26, 27, 28, 29, 30, 31, 32, 33, 34, 35] (by kernel_rfl) (by decide) (by decide) (fF ?_ (fF ?_ (fF ?_ (fF ?_ (fF ?_ (fF ?_ (fF ?_ (fF ?_ (fF ?_ (fF ?_ (fF ?_ (fF ?_ (fF ?_ (fF ?_ (fF ?_ (fF ?_ (fF ?_ (fF ?_ (fF ?_ (fF ?_ (fF ?_ (fF ?_ (fF ?_ (fF ?_ (fF ?_ (fF ?_ (fF ?_ (fF ?_ (fF ?_ (fF ?_ (fF ?_ (fF ?_ (fF ?_ (fF ?_ (fF ?_ (fF ?_ (trivial))))))))))))))))))))))))))))))))))))) [(0, .slice ad1 p0.length cp2), (1, .slice ad3 p1.length cp4), (10, .slice ad33 r30.length cp34), (11, .slice ad43 s42.length cp44), (12, iv s45), (13, iv s46), (14, iv x67), (100, .bool false), (106, iv s46), (107, .slice ad3 p1.length cp4), (108, iv (p1.length : Int)), (109, .bool (decide (s46 < (p1.length : Int)))), (112, .slice ad1 p0.length cp2), (113, iv s45), (114, q171), (115, .agg #[.int .u8 x134.Kind, .bool x134.Purl, iv x134.A, iv x134.B]), (116, .slice ad3 p1.length cp4), (117, iv s46), (118, q174), (119, .agg #[.int .u8 x139.Kind, .bool x139.Purl, iv x139.A, iv x139.B]), (120, .bool (!((x134.Kind == x139.Kind) && ((x134.Purl == x139.Purl) && ((x134.A == x139.A) && ((x134.B == x139.B) && true)))))), (123, undef), (124, undef), (125, undef), (126, undef), (127, undef), (128, undef), (129, undef), (130, undef), (131, undef), (132, undef), (133, undef), (134, undef)] (fin_of [none, none, none, none, none, none, none, some 35, some 5, some 6, some 7, some 8, some 11, some 12, some 13, some 14, some 15, some 16, some 17, some 18, some 19, some 22, some 23, some 24, some 25, some 26, some 27, some 28, some 29, some 30, some 31, some 32, some 33] rfl (by kernel_rfl) (by kernel_rfl)) (fun _ a w S => ?_)
  ·exact fM 0 none rfl rfl rfl rfl (.inl rfl) rfl rfl rfl
  ·exact fM 1 none rfl rfl rfl rfl (.inl rfl) rfl rfl rfl
  ·refine fJ [(102, _)] 2 [some 1] fun G a w S => ?_
   exact sLen S (wN rfl) rfl Try.underlying47 rfl rfl (lb rfl) fun a S => leafL ⟨rfl, S⟩
  ·refine fJ [(101, _), (103, _)] 3 [some 0, some 2] fun G a w S => ?_
   exact sBin _ S (wN rfl) rfl rfl rfl (bLt _ _ _ _ .i64 s45 (p0.length : Int)) rfl (lb rfl) fun a S => leafL ⟨rfl, S⟩
  ·exact fM 4 (some 3) rfl rfl rfl rfl (.inl rfl) rfl rfl rfl
  ·refine fJ [(13, _), (105, _)] 5 [none, some 4] fun G a w S => ?_
   exact sMove (iv s46) S (wG 4 true 105 rfl rfl rfl hc132) (.inl rfl) rfl rfl (lb rfl) fun a S => leafL ⟨rfl, S⟩
  ·refine fJ [(1, _), (105, _)] 6 [none, some 4] fun G a w S => ?_
   exact sMove (.slice ad3 p1.length cp4) S (wG 4 true 105 rfl rfl rfl hc132) (.inl rfl) rfl rfl (lb rfl) fun a S => leafL ⟨rfl, S⟩
  ·refine fJ [(107, _), (105, _)] 7 [some 6, some 4] fun G a w S => ?_
   exact sLen S (wG 4 true 105 rfl rfl rfl hc132) rfl Try.underlying47 rfl rfl (lb rfl) fun a S => leafL ⟨rfl, S⟩
  ·refine fJ [(106, _), (108, _), (105, _)] 8 [some 5, some 7, some 4] fun G a w S => ?_
   exact sBin _ S (wG 4 true 105 rfl rfl rfl hc132) rfl rfl rfl (bLt _ _ _ _ .i64 s46 (p1.length : Int)) rfl (lb rfl) fun a S => leafL ⟨rfl, S⟩
  ·refine fJ [(105, _), (109, _)] 9 [some 4, some 8] fun G a w S => ?_
   exact sPickT (.bool (decide (s46 < (p1.length : Int)))) S (wN rfl) rfl rfl hc132 rfl rfl (lb rfl) fun a S => leafL ⟨rfl, S⟩
  ·exact fM 10 (some 9) rfl rfl rfl rfl (.inl rfl) rfl rfl rfl
  ·refine fJ [(0, _), (111, _)] 11 [none, some 10] fun G a w S => ?_
   exact sMove (.slice ad1 p0.length cp2) S (wG 10 true 111 rfl rfl rfl hc133) (.inl rfl) rfl rfl (lb rfl) fun a S => leafL ⟨rfl, S⟩
  ·refine fJ [(12, _), (111, _)] 12 [none, some 10] fun G a w S => ?_
   exact sMove (iv s45) S (wG 10 true 111 rfl rfl rfl hc133) (.inl rfl) rfl rfl (lb rfl) fun a S => leafL ⟨rfl, S⟩
  ·refine fJ [(112, _), (113, _), (111, _)] 13 [some 11, some 12, some 10] fun G a w S => ?_
   exact sIdxV S (wG 10 true 111 rfl rfl rfl hc133) rfl rfl rfl hq172 rfl (lb rfl) fun a S => leafL ⟨rfl, S⟩
  ·refine fJ [(114, _), (111, _)] 14 [some 13, some 10] fun G a w S => ?_
   exact sLoadVN (vq := q171) 3 [.int .u8 x134.Kind, .bool x134.Purl, iv x134.A, iv x134.B] S (wG 10 true 111 rfl rfl rfl hc133) rfl rfl rfl rfl rfl rfl (lb rfl) fun a S => leafL ⟨rfl, S⟩
  ·refine fJ [(1, _), (111, _)] 15 [none, some 10] fun G a w S => ?_
   exact sMove (.slice ad3 p1.length cp4) S (wG 10 true 111 rfl rfl rfl hc133) (.inl rfl) rfl rfl (lb rfl) fun a S => leafL ⟨rfl, S⟩
  ·refine fJ [(13, _), (111, _)] 16 [none, some 10] fun G a w S => ?_
   exact sMove (iv s46) S (wG 10 true 111 rfl rfl rfl hc133) (.inl rfl) rfl rfl (lb rfl) fun a S => leafL ⟨rfl, S⟩
  ·refine fJ [(116, _), (117, _), (111, _)] 17 [some 15, some 16, some 10] fun G a w S => ?_
   exact sIdxV S (wG 10 true 111 rfl rfl rfl hc133) rfl rfl rfl hq175 rfl (lb rfl) fun a S => leafL ⟨rfl, S⟩
  ·refine fJ [(118, _), (111, _)] 18 [some 17, some 10] fun G a w S => ?_
   exact sLoadVN (vq := q174) 0 [.int .u8 x139.Kind, .bool x139.Purl, iv x139.A, iv x139.B] S (wG 10 true 111 rfl rfl rfl hc133) rfl rfl rfl rfl rfl rfl (lb rfl) fun a S => leafL ⟨rfl, S⟩
  ·refine fJ [(115, _), (119, _), (111, _)] 19 [some 14, some 18, some 10] fun G a w S => ?_
   exact sBin _ S (wG 10 true 111 rfl rfl rfl hc133) rfl rfl rfl (bNeV _ _ _ _ #[.int .u8 x134.Kind, .bool x134.Purl, iv x134.A, iv x134.B] #[.int .u8 x139.Kind, .bool x139.Purl, iv x139.A, iv x139.B] ((x134.Kind == x139.Kind) && ((x134.Purl == x139.Purl) && ((x134.A == x139.A) && ((x134.B == x139.B) && true)))) (by kernel_rfl) (eqlV_of (by kernel_rfl))) rfl (lb rfl) fun a S => leafL ⟨rfl, S⟩
  ·refine fJ [(111, _), (120, _)] 20 [some 10, some 19] fun G a w S => ?_
   exact sPickT (.bool (!((x134.Kind == x139.Kind) && ((x134.Purl == x139.Purl) && ((x134.A == x139.A) && ((x134.B == x139.B) && true)))))) S (wN rfl) rfl rfl hc133 rfl rfl (lb rfl) fun a S => leafL ⟨rfl, S⟩
  ·exact fM 21 (some 20) rfl rfl rfl rfl (.inl rfl) rfl rfl rfl
  ·refine fJ [(14, _), (122, _)] 22 [none, some 21] fun G a w S => ?_
   exact sSk S rfl rfl rfl hc144 rfl rfl fun a S => leafL ⟨rfl, S⟩
  ·refine fJ [(10, _), (122, _)] 23 [none, some 21] fun G a w S => ?_
   exact sSk S rfl rfl rfl hc144 rfl rfl fun a S => leafL ⟨rfl, S⟩
  ·refine fJ [(12, _), (122, _)] 24 [none, some 21] fun G a w S => ?_
   exact sSk S rfl rfl rfl hc144 rfl rfl fun a S => leafL ⟨rfl, S⟩
  ·refine fJ [(125, _), (122, _)] 25 [some 24, some 21] fun G a w S => ?_
   exact sSk S rfl rfl rfl hc144 rfl rfl fun a S => leafL ⟨rfl, S⟩
  ·refine fJ [(124, _), (126, _), (122, _)] 26 [some 23, some 25, some 21] fun G a w S => ?_
   exact sSk S rfl rfl rfl hc144 rfl rfl fun a S => leafL ⟨rfl, S⟩
  ·refine fJ [(127, _), (122, _)] 27 [some 26, some 21] fun G a w S => ?_
   exact sSk S rfl rfl rfl hc144 rfl rfl fun a S => leafL ⟨rfl, S⟩
  ·refine fJ [(13, _), (122, _)] 28 [none, some 21] fun G a w S => ?_
   exact sSk S rfl rfl rfl hc144 rfl rfl fun a S => leafL ⟨rfl, S⟩
  ·refine fJ [(129, _), (122, _)] 29 [some 28, some 21] fun G a w S => ?_
   exact sSk S rfl rfl rfl hc144 rfl rfl fun a S => leafL ⟨rfl, S⟩
  ·refine fJ [(128, _), (130, _), (122, _)] 30 [some 27, some 29, some 21] fun G a w S => ?_
   exact sSk S rfl rfl rfl hc144 rfl rfl fun a S => leafL ⟨rfl, S⟩
  ·refine fJ [(131, _), (122, _)] 31 [some 30, some 21] fun G a w S => ?_
   exact sSk S rfl rfl rfl hc144 rfl rfl fun a S => leafL ⟨rfl, S⟩
  ·refine fJ [(132, _), (122, _)] 32 [some 31, some 21] fun G a w S => ?_
   exact sSk S rfl rfl rfl hc144 rfl rfl fun a S => leafL ⟨rfl, S⟩
  ·refine fJ [(123, _), (133, _), (122, _)] 33 [some 22, some 32, some 21] fun G a w S => ?_
   exact sSk S rfl rfl rfl hc144 rfl rfl fun a S => leafL ⟨rfl, S⟩
  ·refine fJ [(122, _), (134, _)] 34 [some 21, some 33] fun G a w S => ?_
   exact sPickF (.bool false) S (wN rfl) rfl rfl hc144 rfl rfl (lb rfl) fun a S => leafL ⟨rfl, S⟩
  ·exact fM 35 (some 34) rfl rfl rfl rfl (.inr rfl) rfl rfl rfl
  exact leafT (⟨false, Option.some.inj h, S.fix [0] [6, 7, 8] (by decide) rfl rfl rfl⟩)
 obtain ⟨x145, hx146, h⟩ := bindSome h
 obtain ⟨x152, hx153, h⟩ := bindSome h
 obtain ⟨q157, hq158, S⟩ := pIdx (P := Try.prog) (r := r_api_Stitch) (v := .slice ad1 p0.length cp2) (xs := p0) (j := s45) 47 81 0 S Try.underlying47 rfl rfl hx135
 obtain ⟨u159, S⟩ := pLoad (r := r_api_Stitch) (q := q157) (x := x134) 0 S rfl
 obtain rfl : u159 = .agg #[.int .u8 x134.Kind, .bool x134.Purl, iv x134.A, iv x134.B] := S.mem.know (i := 1) (e := fRep r_api_Stitch (u159) x134) rfl
 obtain ⟨q160, hq161, S⟩ := pIdx (P := Try.prog) (r := r_api_Stitch) (v := .slice ad3 p1.length cp4) (xs := p1) (j := s46) 47 81 4 S Try.underlying47 rfl rfl hx140
 obtain ⟨u162, S⟩ := pLoad (r := r_api_Stitch) (q := q160) (x := x139) 0 S rfl
 obtain rfl : u162 = .agg #[.int .u8 x139.Kind, .bool x139.Purl, iv x139.A, iv x139.B] := S.mem.know (i := 1) (e := fRep r_api_Stitch (u162) x139) rfl
 obtain ⟨q163, hq164, S⟩ := pIdx (P := Try.prog) (r := (rL (rI .i64))) (v := .slice ad33 r30.length cp34) (xs := r30) (j := w64 (s45 + 1)) 98 101 8 S Try.underlying98 rfl rfl hx146
 obtain ⟨u165, S⟩ := pLoad (r := (rL (rI .i64))) (q := q163) (x := x145) 0 S rfl
 obtain ⟨ad166, cp167, _, rfl, _⟩ := S.mem.know (i := 1) (e := fRep (rL (rI .i64)) (u165) x145) rfl
 obtain ⟨q168, hq169, S⟩ := pIdx (P := Try.prog) (r := (rI .i64)) (v := .slice ad166 x145.length cp167) (xs := x145) (j := w64 (s46 + 1)) 101 3 1 S Try.underlying101 rfl rfl hx153
 obtain ⟨u170, S⟩ := pLoad (r := (rI .i64)) (q := q168) (x := x152) 0 S rfl
 obtain rfl : u170 = iv x152 := S.mem.know (i := 1) (e := fRep (rI .i64) (u170) x152) rfl
 refine sDraw (nf := []) (W := [(0, 101, iv s45), (1, 102, .slice ad1 p0.length cp2), (2, 103, iv (p0.length : Int)), (3, 104, .bool (decide (s45 < (p0.length : Int)))), (4, 105, .bool (decide (s45 < (p0.length : Int)))), (5, 106, iv s46), (6, 107, .slice ad3 p1.length cp4), (7, 108, iv (p1.length : Int)), (8, 109, .bool (decide (s46 < (p1.length : Int)))), (9, 110, .bool (decide (s46 < (p1.length : Int)))), (10, 111, .bool (decide (s46 < (p1.length : Int)))), (11, 112, .slice ad1 p0.length cp2), (12, 113, iv s45), (13, 114, q157), (14, 115, .agg #[.int .u8 x134.Kind, .bool x134.Purl, iv x134.A, iv x134.B]), (15, 116, .slice ad3 p1.length cp4), (16, 117, iv s46), (17, 118, q160), (18, 119, .agg #[.int .u8 x139.Kind, .bool x139.Purl, iv x139.A, iv x139.B]), (19, 120, .bool (!((x134.Kind == x139.Kind) && ((x134.Purl == x139.Purl) && ((x134.A == x139.A) && ((x134.B == x139.B) && true)))))), (20, 121, .bool (!((x134.Kind == x139.Kind) && ((x134.Purl == x139.Purl) && ((x134.A == x139.A) && ((x134.B == x139.B) && true)))))), (21, 122, .bool (!((x134.Kind == x139.Kind) && ((x134.Purl == x139.Purl) && ((x134.A == x139.A) && ((x134.B == x139.B) && true)))))), (22, 123, iv x67), (23, 124, .slice ad33 r30.length cp34), (24, 125, iv s45), (25, 126, iv (w64 (s45 + 1))), (26, 127, q163), (27, 128, .slice ad166 x145.length cp167), (28, 129, iv s46), (29, 130, iv (w64 (s46 + 1))), (30, 131, q168), (31, 132, iv x152), (32, 133, iv (w64 (1 + x152))), (33, 134, .bool (x67 == (w64 (1 + x152)))), (34, 135, .bool (x67 == (w64 (1 + x152)))), (35, 100, .bool (x67 == (w64 (1 + x152))))]) rfl S ?_
 refine node_by (A := anc_compare_Edits_1) 36 (by kernel_rfl) (by kernel_rfl) (by kernel_rfl) (by kernel_rfl) (by kernel_rfl) [0, 1, 2, 3, 4, 5, 6, 7, 8, 9, 10, 11, 12, 13, 14, 15, 16, 17, 18, 19, 20, 21, 22, 23, 24, 25, 26, 27, 28, 29, 30, 31, 32, 33, 34, 35] (by kernel_rfl) (by decide) (by decide) (fF ?_ (fF ?_ (fF ?_ (fF ?_ (fF ?_ (fF ?_ (fF ?_ (fF ?_ (fF ?_ (fF ?_ (fF ?_ (fF ?_ (fF ?_ (fF ?_ (fF ?_ (fF ?_ (fF ?_ (fF ?_ (fF ?_ (fF ?_ (fF ?_ (fF ?_ (fF ?_ (fF ?_ (fF ?_ (fF ?_ (fF ?_ (fF ?_ (fF ?_ (fF ?_ (fF ?_ (fF ?_ (fF ?_ (fF ?_ (fF ?_ (fF ?_ (trivial))))))))))))))))))))))))))))))))))))) [(0, .slice ad1 p0.length cp2), (1, .slice ad3 p1.length cp4), (10, .slice ad33 r30.length cp34), (11, .slice ad43 s42.length cp44), (12, iv s45), (13, iv s46), (14, iv x67), (100, .bool (x67 == (w64 (1 + x152)))), (106, iv s46), (107, .slice ad3 p1.length cp4), (108, iv (p1.length : Int)), (109, .bool (decide (s46 < (p1.length : Int)))), (112, .slice ad1 p0.length cp2), (113, iv s45), (114, q157), (115, .agg #[.int .u8 x134.Kind, .bool x134.Purl, iv x134.A, iv x134.B]), (116, .slice ad3 p1.length cp4), (117, iv s46), (118, q160), (119, .agg #[.int .u8 x139.Kind, .bool x139.Purl, iv x139.A, iv x139.B]), (120, .bool (!((x134.Kind == x139.Kind) && ((x134.Purl == x139.Purl) && ((x134.A == x139.A) && ((x134.B == x139.B) && true)))))), (123, iv x67), (124, .slice ad33 r30.length cp34), (125, iv s45), (126, iv (w64 (s45 + 1))), (127, q163), (128, .slice ad166 x145.length cp167), (129, iv s46), (130, iv (w64 (s46 + 1))), (131, q168), (132, iv x152), (133, iv (w64 (1 + x152))), (134, .bool (x67 == (w64 (1 + x152))))] (fin_of [none, none, none, none, none, none, none, some 35, some 5, some 6, some 7, some 8, some 11, some 12, some 13, some 14, some 15, some 16, some 17, some 18, some 19, some 22, some 23, some 24, some 25, some 26, some 27, some 28, some 29, some 30, some 31, some 32, some 33] rfl (by kernel_rfl) (by kernel_rfl)) (fun _ a w S => ?_)
 ·exact fM 0 none rfl rfl rfl rfl (.inl rfl) rfl rfl rfl
 ·exact fM 1 none rfl rfl rfl rfl (.inl rfl) rfl rfl rfl
 ·refine fJ [(102, _)] 2 [some 1] fun G a w S => ?_
  exact sLen S (wN rfl) rfl Try.underlying47 rfl rfl (lb rfl) fun a S => leafL ⟨rfl, S⟩
 ·refine fJ [(101, _), (103, _)] 3 [some 0, some 2] fun G a w S => ?_
  exact sBin _ S (wN rfl) rfl rfl rfl (bLt _ _ _ _ .i64 s45 (p0.length : Int)) rfl (lb rfl) fun a S => leafL ⟨rfl, S⟩
 ·exact fM 4 (some 3) rfl rfl rfl rfl (.inl rfl) rfl rfl rfl
 ·refine fJ [(13, _), (105, _)] 5 [none, some 4] fun G a w S => ?_
  exact sMove (iv s46) S (wG 4 true 105 rfl rfl rfl hc132) (.inl rfl) rfl rfl (lb rfl) fun a S => leafL ⟨rfl, S⟩
 ·refine fJ [(1, _), (105, _)] 6 [none, some 4] fun G a w S => ?_
  exact sMove (.slice ad3 p1.length cp4) S (wG 4 true 105 rfl rfl rfl hc132) (.inl rfl) rfl rfl (lb rfl) fun a S => leafL ⟨rfl, S⟩
 ·refine fJ [(107, _), (105, _)] 7 [some 6, some 4] fun G a w S => ?_
  exact sLen S (wG 4 true 105 rfl rfl rfl hc132) rfl Try.underlying47 rfl rfl (lb rfl) fun a S => leafL ⟨rfl, S⟩
 ·refine fJ [(106, _), (108, _), (105, _)] 8 [some 5, some 7, some 4] fun G a w S => ?_
  exact sBin _ S (wG 4 true 105 rfl rfl rfl hc132) rfl rfl rfl (bLt _ _ _ _ .i64 s46 (p1.length : Int)) rfl (lb rfl) fun a S => leafL ⟨rfl, S⟩
 ·refine fJ [(105, _), (109, _)] 9 [some 4, some 8] fun G a w S => ?_
  exact sPickT (.bool (decide (s46 < (p1.length : Int)))) S (wN rfl) rfl rfl hc132 rfl rfl (lb rfl) fun a S => leafL ⟨rfl, S⟩
 ·exact fM 10 (some 9) rfl rfl rfl rfl (.inl rfl) rfl rfl rfl
 ·refine fJ [(0, _), (111, _)] 11 [none, some 10] fun G a w S => ?_
  exact sMove (.slice ad1 p0.length cp2) S (wG 10 true 111 rfl rfl rfl hc133) (.inl rfl) rfl rfl (lb rfl) fun a S => leafL ⟨rfl, S⟩
 ·refine fJ [(12, _), (111, _)] 12 [none, some 10] fun G a w S => ?_
  exact sMove (iv s45) S (wG 10 true 111 rfl rfl rfl hc133) (.inl rfl) rfl rfl (lb rfl) fun a S => leafL ⟨rfl, S⟩
 ·refine fJ [(112, _), (113, _), (111, _)] 13 [some 11, some 12, some 10] fun G a w S => ?_
  exact sIdxV S (wG 10 true 111 rfl rfl rfl hc133) rfl rfl rfl hq158 rfl (lb rfl) fun a S => leafL ⟨rfl, S⟩
 ·refine fJ [(114, _), (111, _)] 14 [some 13, some 10] fun G a w S => ?_
  exact sLoadVN (vq := q157) 9 [.int .u8 x134.Kind, .bool x134.Purl, iv x134.A, iv x134.B] S (wG 10 true 111 rfl rfl rfl hc133) rfl rfl rfl rfl rfl rfl (lb rfl) fun a S => leafL ⟨rfl, S⟩
 ·refine fJ [(1, _), (111, _)] 15 [none, some 10] fun G a w S => ?_
  exact sMove (.slice ad3 p1.length cp4) S (wG 10 true 111 rfl rfl rfl hc133) (.inl rfl) rfl rfl (lb rfl) fun a S => leafL ⟨rfl, S⟩
 ·refine fJ [(13, _), (111, _)] 16 [none, some 10] fun G a w S => ?_
  exact sMove (iv s46) S (wG 10 true 111 rfl rfl rfl hc133) (.inl rfl) rfl rfl (lb rfl) fun a S => leafL ⟨rfl, S⟩
 ·refine fJ [(116, _), (117, _), (111, _)] 17 [some 15, some 16, some 10] fun G a w S => ?_
  exact sIdxV S (wG 10 true 111 rfl rfl rfl hc133) rfl rfl rfl hq161 rfl (lb rfl) fun a S => leafL ⟨rfl, S⟩
 ·refine fJ [(118, _), (111, _)] 18 [some 17, some 10] fun G a w S => ?_
  exact sLoadVN (vq := q160) 6 [.int .u8 x139.Kind, .bool x139.Purl, iv x139.A, iv x139.B] S (wG 10 true 111 rfl rfl rfl hc133) rfl rfl rfl rfl rfl rfl (lb rfl) fun a S => leafL ⟨rfl, S⟩
 ·refine fJ [(115, _), (119, _), (111, _)] 19 [some 14, some 18, some 10] fun G a w S => ?_
  exact sBin _ S (wG 10 true 111 rfl rfl rfl hc133) rfl rfl rfl (bNeV _ _ _ _ #[.int .u8 x134.Kind, .bool x134.Purl, iv x134.A, iv x134.B] #[.int .u8 x139.Kind, .bool x139.Purl, iv x139.A, iv x139.B] ((x134.Kind == x139.Kind) && ((x134.Purl == x139.Purl) && ((x134.A == x139.A) && ((x134.B == x139.B) && true)))) (by kernel_rfl) (eqlV_of (by kernel_rfl))) rfl (lb rfl) fun a S => leafL ⟨rfl, S⟩
 ·refine fJ [(111, _), (120, _)] 20 [some 10, some 19] fun G a w S => ?_
  exact sPickT (.bool (!((x134.Kind == x139.Kind) && ((x134.Purl == x139.Purl) && ((x134.A == x139.A) && ((x134.B == x139.B) && true)))))) S (wN rfl) rfl rfl hc133 rfl rfl (lb rfl) fun a S => leafL ⟨rfl, S⟩
 ·exact fM 21 (some 20) rfl rfl rfl rfl (.inl rfl) rfl rfl rfl
 ·refine fJ [(14, _), (122, _)] 22 [none, some 21] fun G a w S => ?_
  exact sMove (iv x67) S (wG 21 true 122 rfl rfl rfl hc144) (.inl rfl) rfl rfl (lb rfl) fun a S => leafL ⟨rfl, S⟩
 ·refine fJ [(10, _), (122, _)] 23 [none, some 21] fun G a w S => ?_
  exact sMove (.slice ad33 r30.length cp34) S (wG 21 true 122 rfl rfl rfl hc144) (.inl rfl) rfl rfl (lb rfl) fun a S => leafL ⟨rfl, S⟩
 ·refine fJ [(12, _), (122, _)] 24 [none, some 21] fun G a w S => ?_
  exact sMove (iv s45) S (wG 21 true 122 rfl rfl rfl hc144) (.inl rfl) rfl rfl (lb rfl) fun a S => leafL ⟨rfl, S⟩
 ·refine fJ [(125, _), (122, _)] 25 [some 24, some 21] fun G a w S => ?_
  exact sBin _ S (wG 21 true 122 rfl rfl rfl hc144) rfl rfl rfl (bAdd _ _ _ _ s45 1) rfl (lb rfl) fun a S => leafL ⟨rfl, S⟩
 ·refine fJ [(124, _), (126, _), (122, _)] 26 [some 23, some 25, some 21] fun G a w S => ?_
  exact sIdxV S (wG 21 true 122 rfl rfl rfl hc144) rfl rfl rfl hq164 rfl (lb rfl) fun a S => leafL ⟨rfl, S⟩
 ·refine fJ [(127, _), (122, _)] 27 [some 26, some 21] fun G a w S => ?_
  exact sLoadV1 (vq := q163) 3 (.slice ad166 x145.length cp167) S (wG 21 true 122 rfl rfl rfl hc144) rfl rfl rfl rfl rfl (lb rfl) fun a S => leafL ⟨rfl, S⟩
 ·refine fJ [(13, _), (122, _)] 28 [none, some 21] fun G a w S => ?_
  exact sMove (iv s46) S (wG 21 true 122 rfl rfl rfl hc144) (.inl rfl) rfl rfl (lb rfl) fun a S => leafL ⟨rfl, S⟩
 ·refine fJ [(129, _), (122, _)] 29 [some 28, some 21] fun G a w S => ?_
  exact sBin _ S (wG 21 true 122 rfl rfl rfl hc144) rfl rfl rfl (bAdd _ _ _ _ s46 1) rfl (lb rfl) fun a S => leafL ⟨rfl, S⟩
 ·refine fJ [(128, _), (130, _), (122, _)] 30 [some 27, some 29, some 21] fun G a w S => ?_
  exact sIdxV S (wG 21 true 122 rfl rfl rfl hc144) rfl rfl rfl hq169 rfl (lb rfl) fun a S => leafL ⟨rfl, S⟩
 ·refine fJ [(131, _), (122, _)] 31 [some 30, some 21] fun G a w S => ?_
  exact sLoadV1 (vq := q168) 0 (iv x152) S (wG 21 true 122 rfl rfl rfl hc144) rfl rfl rfl rfl rfl (lb rfl) fun a S => leafL ⟨rfl, S⟩
 ·refine fJ [(132, _), (122, _)] 32 [some 31, some 21] fun G a w S => ?_
  exact sBin _ S (wG 21 true 122 rfl rfl rfl hc144) rfl rfl rfl (bAdd _ _ _ _ 1 x152) rfl (lb rfl) fun a S => leafL ⟨rfl, S⟩
 ·refine fJ [(123, _), (133, _), (122, _)] 33 [some 22, some 32, some 21] fun G a w S => ?_
  exact sBin _ S (wG 21 true 122 rfl rfl rfl hc144) rfl rfl rfl (bEq _ _ _ _ .i64 x67 (w64 (1 + x152))) rfl (lb rfl) fun a S => leafL ⟨rfl, S⟩
 ·refine fJ [(122, _), (134, _)] 34 [some 21, some 33] fun G a w S => ?_
  exact sPickT (.bool (x67 == (w64 (1 + x152)))) S (wN rfl) rfl rfl hc144 rfl rfl (lb rfl) fun a S => leafL ⟨rfl, S⟩
 ·exact fM 35 (some 34) rfl rfl rfl rfl (.inr rfl) rfl rfl rfl
 exact leafT (⟨x67 == (w64 (1 + x152)), Option.some.inj h, S.fix [0] [12, 13, 14] (by decide) rfl rfl rfl⟩)
end Go.Proofs.Ytffikfajljbmnaa
