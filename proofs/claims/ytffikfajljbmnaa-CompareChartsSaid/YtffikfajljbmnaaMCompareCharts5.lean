/- Several texts in one: G20 G55 G21 G4 PlCq LCC FrCompareCharts -/
import Derived.WalkKit
import Derived.Maps.AppendAt
import Derived.Deep.AppendLies
import Derived.KernelRfl
import Derived.Laws.OwnMore
import Derived.Great.BuildSlice
import Derived.Orders
import Derived.Laws.StructEq
import Derived.ChangeKeysEq
import Derived.Defers
import Derived.Laws.BytesString
import Derived.RangeFuncNested
import Derived.RangeFuncBound
import Derived.RangeFuncCalls
import Derived.RangeFuncLeaves
import Derived.OrdersIn
import Derived.LoopNIn
import Derived.ArgAppend
import Derived.Test.YtffikfajljbmnaaProg
import Derived.ProofKit
import Derived.OpenShut
import Derived.ChangeOld
import Derived.Deep.Slices
import Derived.Lib.SmallJoins
import Derived.JoinedOf
import Derived.JoinedAt
import Derived.Below
import Derived.Test.YtffikfajljbmnaaRows
import Derived.Test.YtffikfajljbmnaaMCompareCharts4
namespace Go.Proofs.Ytffikfajljbmnaa
open Go.RowKit
set_option linter.unusedVariables false

noncomputable def F_compare_Charts (p0 : api_Chart) (p1 : api_Chart) : Option (Int × Int) :=
  Option.bind (F_chart_Check p0) fun r14 =>
  if r14 != 0 then
    some (0, r14)
  else
    Option.bind (F_chart_Check p1) fun r21 =>
    if r21 != 0 then
      some (0, r21)
    else
      Option.bind (F_compare_table_api_Row__s0 p0.Rows p1.Rows) fun r27 =>
      Option.bind (idxO r27 0) fun x33 =>
      Option.bind (idxO x33 0) fun x40 =>
      Option.bind (α := Int) (
        if p0.Start != p1.Start then
          some (w64 (x40 + 1))
        else
          some x40) fun o45 =>
      some (o45, 0)
set_option maxHeartbeats 4000000 in
set_option maxRecDepth 100000 in
theorem c_compare_Charts (E : Nat → Prop) (w0 : World) (p0 : api_Chart) (v0 : Value) (p1 : api_Chart) (v1 : Value) (r : (Int × Int)) (h : F_compare_Charts p0 p1 = some r) (S : St0 E [] w0 w0 [] [fRep r_api_Chart (v0) p0, fRep r_api_Chart (v1) p1]) :
    Calls Try.prog 20 #[v0, v1] w0 (Ret (X := Unit) E [] w0 (fun _ => .tuple #[.int .i64 r.1, .int .i64 r.2]) (fun _ => []) (fun _ => [])) := by
  unfold F_compare_Charts at h
  obtain ⟨u1, rfl, hu2⟩ := S.know (i := 0) (e := fRep r_api_Chart (v0) p0) rfl
  have S := S.learn (fRep (rL r_api_Row) u1 p0.Rows) hu2
  obtain ⟨ad3, cp4, _, rfl, _⟩ := hu2
  obtain ⟨u5, rfl, hu6⟩ := S.know (i := 2) (e := fRep r_api_Chart (v1) p1) rfl
  have S := S.learn (fRep (rL r_api_Row) u5 p1.Rows) hu6
  obtain ⟨ad7, cp8, _, rfl, _⟩ := hu6
  refine sEnter (args := [.agg #[iv p0.Start, .slice ad3 p0.Rows.length cp4], .agg #[iv p1.Start, .slice ad7 p1.Rows.length cp8]]) 38 Try.func20 rfl rfl (by simp) S (fun a S => ?_)
  refine sSeq (fun K9 hK9 => ?_)
  refine sRegion ?_
  refine sBox (v := .agg #[iv p0.Start, .slice ad3 p0.Rows.length cp4]) S (wN rfl) rfl rfl [iv p0.Start, .slice ad3 p0.Rows.length cp4] rfl rfl (lb rfl) fun a b10 w S => ?_
  refine sBox (v := .agg #[iv p1.Start, .slice ad7 p1.Rows.length cp8]) S (wN rfl) rfl rfl [iv p1.Start, .slice ad7 p1.Rows.length cp8] rfl rfl (lb rfl) fun a b11 w S => ?_
  refine sMove (iv 0) S (wN rfl) (.inr rfl) rfl rfl (lb rfl) fun a S => ?_
  refine sMove (iv 0) S (wN rfl) (.inr rfl) rfl rfl (lb rfl) fun a S => ?_
  refine leafL (leafT (hK9 _ _ ?_))
  refine sSeq (fun K12 hK12 => ?_)
  refine sSeq (fun K13 hK13 => ?_)
  refine sRegion ?_
  refine sLoadN (p := b10) (off := 0) (T := 42) (vs := [iv p0.Start, .slice ad3 p0.Rows.length cp4]) 1 [iv p0.Start, .slice ad3 p0.Rows.length cp4] S (wN rfl) rfl rfl rfl rfl rfl rfl rfl (lb rfl) fun a S => ?_
  obtain ⟨r14, hx15, h⟩ := bindSome h
  have S1 := S.mem
  refine sCallQ (X := Unit) (f := 50) (vs := [.agg #[iv p0.Start, .slice ad3 p0.Rows.length cp4]]) (val := fun _ => iv r14) S (wN rfl) rfl callee50 rfl (S1.quiet [2] rfl) (fun E1 w1 S1 => c_chart_Check E1 w1 p0 (.agg #[iv p0.Start, .slice ad3 p0.Rows.length cp4]) r14 hx15 S1) rfl (lb rfl) fun _ a w S => ?_
  refine sMove (iv r14) S (wN rfl) (.inr rfl) rfl rfl (lb rfl) fun a S => ?_
  refine leafL (leafT (hK13 _ _ ?_))
  refine sSeq (fun K16 hK16 => ?_)
  refine sRegion ?_
  refine sMove (iv r14) S (wN rfl) (.inl rfl) rfl rfl (lb rfl) fun a S => ?_
  refine sBin (.bool (r14 != 0)) S (wN rfl) rfl rfl rfl (bNe _ _ _ _ .i64 r14 0) rfl (lb rfl) fun a S => ?_
  refine leafL (leafT (hK16 _ _ ?_))
  rcases iteSome h with ⟨hc17, h⟩ | ⟨hc17, h⟩
  · refine sCondT S rfl hc17 ?_
    refine sSeq (fun K18 hK18 => ?_)
    refine sRegion ?_
    refine sMove (iv r14) S (wN rfl) (.inl rfl) rfl rfl (lb rfl) fun a S => ?_
    refine sMove (iv 0) S (wN rfl) (.inr rfl) rfl rfl (lb rfl) fun a S => ?_
    refine sMove (iv r14) S (wN rfl) (.inr rfl) rfl rfl (lb rfl) fun a S => ?_
    refine leafL (leafT (hK18 _ _ ?_))
    obtain rfl := Option.some.inj h
    exact wp_ret (rThen (sRet (.tuple #[iv 0, iv r14]) S (rsl2 rfl (rvT (t := 4) (v := iv 0) S rfl) (rvT (t := 5) (v := iv r14) S rfl)) ⟨(), rfl, S.mem.sel [] [] (by decide) rfl rfl⟩))
  refine sCondF S rfl hc17 ?_
  refine wp_skip (leafT (hK12 _ _ ?_))
  refine sSeq (fun K19 hK19 => ?_)
  refine sSeq (fun K20 hK20 => ?_)
  refine sRegion ?_
  refine sLoadN (p := b11) (off := 0) (T := 42) (vs := [iv p1.Start, .slice ad7 p1.Rows.length cp8]) 0 [iv p1.Start, .slice ad7 p1.Rows.length cp8] S (wN rfl) rfl rfl rfl rfl rfl rfl rfl (lb rfl) fun a S => ?_
  obtain ⟨r21, hx22, h⟩ := bindSome h
  have S1 := S.mem
  refine sCallQ (X := Unit) (f := 50) (vs := [.agg #[iv p1.Start, .slice ad7 p1.Rows.length cp8]]) (val := fun _ => iv r21) S (wN rfl) rfl callee50 rfl (S1.quiet [3] rfl) (fun E1 w1 S1 => c_chart_Check E1 w1 p1 (.agg #[iv p1.Start, .slice ad7 p1.Rows.length cp8]) r21 hx22 S1) rfl (lb rfl) fun _ a w S => ?_
  refine sMove (iv r21) S (wN rfl) (.inr rfl) rfl rfl (lb rfl) fun a S => ?_
  refine leafL (leafT (hK20 _ _ ?_))
  refine sSeq (fun K23 hK23 => ?_)
  refine sRegion ?_
  refine sMove (iv r21) S (wN rfl) (.inl rfl) rfl rfl (lb rfl) fun a S => ?_
  refine sBin (.bool (r21 != 0)) S (wN rfl) rfl rfl rfl (bNe _ _ _ _ .i64 r21 0) rfl (lb rfl) fun a S => ?_
  refine leafL (leafT (hK23 _ _ ?_))
  rcases iteSome h with ⟨hc24, h⟩ | ⟨hc24, h⟩
  · refine sCondT S rfl hc24 ?_
    refine sSeq (fun K25 hK25 => ?_)
    refine sRegion ?_
    refine sMove (iv r21) S (wN rfl) (.inl rfl) rfl rfl (lb rfl) fun a S => ?_
    refine sMove (iv 0) S (wN rfl) (.inr rfl) rfl rfl (lb rfl) fun a S => ?_
    refine sMove (iv r21) S (wN rfl) (.inr rfl) rfl rfl (lb rfl) fun a S => ?_
    refine leafL (leafT (hK25 _ _ ?_))
    obtain rfl := Option.some.inj h
    exact wp_ret (rThen (sRet (.tuple #[iv 0, iv r21]) S (rsl2 rfl (rvT (t := 4) (v := iv 0) S rfl) (rvT (t := 5) (v := iv r21) S rfl)) ⟨(), rfl, S.mem.sel [] [] (by decide) rfl rfl⟩))
  refine sCondF S rfl hc24 ?_
  refine wp_skip (leafT (hK19 _ _ ?_))
  refine sSeq (fun K26 hK26 => ?_)
  refine sRegion ?_
  refine sField (b := b10) (off := 0) 1 1 S (wN rfl) rfl rfl rfl rfl rfl (lb rfl) fun a S => ?_
  refine sLoad1 (p := b10) (off := 1) (T := 42) (vs := [iv p0.Start, .slice ad3 p0.Rows.length cp4]) 1 (.slice ad3 p0.Rows.length cp4) S (wN rfl) rfl rfl rfl rfl rfl rfl (lb rfl) fun a S => ?_
  refine sField (b := b11) (off := 0) 1 1 S (wN rfl) rfl rfl rfl rfl rfl (lb rfl) fun a S => ?_
  refine sLoad1 (p := b11) (off := 1) (T := 42) (vs := [iv p1.Start, .slice ad7 p1.Rows.length cp8]) 0 (.slice ad7 p1.Rows.length cp8) S (wN rfl) rfl rfl rfl rfl rfl rfl (lb rfl) fun a S => ?_
  obtain ⟨r27, hx28, h⟩ := bindSome h
  refine sCall (X := Value) (f := 51) (vs := [.slice ad3 p0.Rows.length cp4, .slice ad7 p1.Rows.length cp8, .func (.func 52) #[] #[], .func (.func 53) #[] #[]]) (val := c_compare_table_api_Row__s0_val r27) (B' := fun _ => []) (D' := c_compare_table_api_Row__s0_D r27) [] [eBox b11 42 [iv p1.Start, .slice ad7 p1.Rows.length cp8], eBox b10 42 [iv p0.Start, .slice ad3 p0.Rows.length cp4]] [fRep (rL r_api_Row) (.slice ad3 p0.Rows.length cp4) p0.Rows, fRep (rL r_api_Row) (.slice ad7 p1.Rows.length cp8) p1.Rows] [0, 1] [1, 0] S (wN rfl) rfl callee51 rfl (by decide) rfl rfl (fun E1 w1 S1 => c_compare_table_api_Row__s0 E1 w1 p0.Rows (.slice ad3 p0.Rows.length cp4) p1.Rows (.slice ad7 p1.Rows.length cp8) r27 hx28 S1) rfl (lb rfl) fun u29 a w S => ?_
  obtain ⟨ad30, cp31, _, rfl, _⟩ := S.mem.know (i := 0) (e := fRep (rL (rL (rI .i64))) (u29) r27) rfl
  refine sMove (.slice ad30 r27.length cp31) S (wN rfl) (.inr rfl) rfl rfl (lb rfl) fun a S => ?_
  refine leafL (leafT (hK26 _ _ ?_))
  refine sSeq (fun K32 hK32 => ?_)
  refine sRegion ?_
  refine sMove (.slice ad30 r27.length cp31) S (wN rfl) (.inl rfl) rfl rfl (lb rfl) fun a S => ?_
  obtain ⟨x33, hx34, h⟩ := bindSome h
  obtain ⟨q35, hq36, S⟩ := pIdx (P := Try.prog) (r := (rL (rI .i64))) (v := .slice ad30 r27.length cp31) (xs := r27) (j := 0) 98 101 0 S Try.underlying98 rfl rfl hx34
  refine sIdxV (v := .slice ad30 r27.length cp31) (k := .i64) (j := 0) S (wN rfl) rfl rfl rfl hq36 rfl (lb rfl) fun a S => ?_
  obtain ⟨u37, S⟩ := pLoad (r := (rL (rI .i64))) (q := q35) (x := x33) 0 S rfl
  obtain ⟨ad38, cp39, _, rfl, _⟩ := S.mem.know (i := 1) (e := fRep (rL (rI .i64)) (u37) x33) rfl
  refine sLoadV1 (vq := q35) 0 (.slice ad38 x33.length cp39) S (wN rfl) rfl rfl rfl rfl rfl (lb rfl) fun a S => ?_
  obtain ⟨x40, hx41, h⟩ := bindSome h
  obtain ⟨q42, hq43, S⟩ := pIdx (P := Try.prog) (r := (rI .i64)) (v := .slice ad38 x33.length cp39) (xs := x33) (j := 0) 101 3 1 S Try.underlying101 rfl rfl hx41
  refine sIdxV (v := .slice ad38 x33.length cp39) (k := .i64) (j := 0) S (wN rfl) rfl rfl rfl hq43 rfl (lb rfl) fun a S => ?_
  obtain ⟨u44, S⟩ := pLoad (r := (rI .i64)) (q := q42) (x := x40) 0 S rfl
  obtain rfl : u44 = iv x40 := S.mem.know (i := 1) (e := fRep (rI .i64) (u44) x40) rfl
  refine sLoadV1 (vq := q42) 0 (iv x40) S (wN rfl) rfl rfl rfl rfl rfl (lb rfl) fun a S => ?_
  refine sMove (iv x40) S (wN rfl) (.inr rfl) rfl rfl (lb rfl) fun a S => ?_
  refine leafL (leafT (hK32 _ _ ?_))
  obtain ⟨t46, h, g47⟩ := bindSome h
  refine sCut (fun a w => ∃ o45, o45 = t46 ∧ St [] E [] w0 38 a w [(9, iv o45)] [] []) ?_ (fun a w hI => ?_)
  rotate_left
  · obtain ⟨o45, rfl, S⟩ := hI
    have h := g47
    clear g47
    try dsimp only at h
    refine sSeq (fun K50 hK50 => ?_)
    refine sRegion ?_
    refine sMove (iv o45) S (wN rfl) (.inl rfl) rfl rfl (lb rfl) fun a S => ?_
    refine sMove (iv o45) S (wN rfl) (.inr rfl) rfl rfl (lb rfl) fun a S => ?_
    refine sMove (iv 0) S (wN rfl) (.inr rfl) rfl rfl (lb rfl) fun a S => ?_
    refine leafL (leafT (hK50 _ _ ?_))
    obtain rfl := Option.some.inj h
    exact wp_ret (sRet (.tuple #[iv o45, iv 0]) S (rsl2 rfl (rvT (t := 4) (v := iv o45) S rfl) (rvT (t := 5) (v := iv 0) S rfl)) ⟨(), rfl, S.mem.sel [] [] (by decide) rfl rfl⟩)
  refine sSeq (fun K48 hK48 => ?_)
  refine sRegion ?_
  refine sField (b := b10) (off := 0) 0 0 S (wN rfl) rfl rfl rfl rfl rfl (lb rfl) fun a S => ?_
  refine sLoad1 (p := b10) (off := 0) (T := 42) (vs := [iv p0.Start, .slice ad3 p0.Rows.length cp4]) 1 (iv p0.Start) S (wN rfl) rfl rfl rfl rfl rfl rfl (lb rfl) fun a S => ?_
  refine sField (b := b11) (off := 0) 0 0 S (wN rfl) rfl rfl rfl rfl rfl (lb rfl) fun a S => ?_
  refine sLoad1 (p := b11) (off := 0) (T := 42) (vs := [iv p1.Start, .slice ad7 p1.Rows.length cp8]) 0 (iv p1.Start) S (wN rfl) rfl rfl rfl rfl rfl rfl (lb rfl) fun a S => ?_
  refine sBin (.bool (p0.Start != p1.Start)) S (wN rfl) rfl rfl rfl (bNe _ _ _ _ .i64 p0.Start p1.Start) rfl (lb rfl) fun a S => ?_
  refine leafL (leafT (hK48 _ _ ?_))
  rcases iteSome h with ⟨hc49, h⟩ | ⟨hc49, h⟩
  rotate_left
  · refine sCondF S rfl hc49 ?_
    exact wp_skip (leafT (⟨x40, Option.some.inj h, S.fix [] [] (by decide) rfl rfl rfl⟩))
  refine sCondT S rfl hc49 ?_
  refine sRegion ?_
  refine sMove (iv x40) S (wN rfl) (.inl rfl) rfl rfl (lb rfl) fun a S => ?_
  refine sBin (iv (w64 (x40 + 1))) S (wN rfl) rfl rfl rfl (bAdd _ _ _ _ x40 1) rfl (lb rfl) fun a S => ?_
  refine sMove (iv (w64 (x40 + 1))) S (wN rfl) (.inr rfl) rfl rfl (lb rfl) fun a S => ?_
  exact leafL (leafT (⟨w64 (x40 + 1), Option.some.inj h, S.fix [] [] (by decide) rfl rfl rfl⟩))

end Go.Proofs.Ytffikfajljbmnaa
namespace Go.Proofs.Ytffikfajljbmnaa
open Go.RowKit
set_option linter.unusedVariables false

noncomputable def F_raddleref46_beside (p0 : api_Row) (p1 : api_Row) : Option Int :=
  Option.bind (F_raddleref46_Table p0.Cells p1.Cells) fun r13 =>
  Option.bind (idxO r13 0) fun x18 =>
  Option.bind (idxO x18 0) fun x25 =>
  Option.bind (α := Int) (
    if p0.Back != p1.Back then
      some (w64 (x25 + 1))
    else
      some x25) fun o30 =>
  some o30
set_option maxHeartbeats 4000000 in
set_option maxRecDepth 100000 in
theorem c_raddleref46_beside (E : Nat → Prop) (w0 : World) (p0 : api_Row) (v0 : Value) (p1 : api_Row) (v1 : Value) (r : Int) (h : F_raddleref46_beside p0 p1 = some r) (S : St0 E [] w0 w0 [] [fRep r_api_Row (v0) p0, fRep r_api_Row (v1) p1]) :
    Calls Try.prog 55 #[v0, v1] w0 (Ret (X := Unit) E [] w0 (fun _ => .int .i64 r) (fun _ => []) (fun _ => [])) := by
  unfold F_raddleref46_beside at h
  obtain ⟨u1, rfl, hu2⟩ := S.know (i := 0) (e := fRep r_api_Row (v0) p0) rfl
  have S := S.learn (fRep (rL r_api_Stitch) u1 p0.Cells) hu2
  obtain ⟨ad3, cp4, _, rfl, _⟩ := hu2
  obtain ⟨u5, rfl, hu6⟩ := S.know (i := 2) (e := fRep r_api_Row (v1) p1) rfl
  have S := S.learn (fRep (rL r_api_Stitch) u5 p1.Cells) hu6
  obtain ⟨ad7, cp8, _, rfl, _⟩ := hu6
  refine sEnter (args := [.agg #[.bool p0.Back, .slice ad3 p0.Cells.length cp4], .agg #[.bool p1.Back, .slice ad7 p1.Cells.length cp8]]) 23 Try.func55 rfl rfl (by simp) S (fun a S => ?_)
  refine sSeq (fun K9 hK9 => ?_)
  refine sRegion ?_
  refine sBox (v := .agg #[.bool p0.Back, .slice ad3 p0.Cells.length cp4]) S (wN rfl) rfl rfl [.bool p0.Back, .slice ad3 p0.Cells.length cp4] rfl rfl (lb rfl) fun a b10 w S => ?_
  refine sBox (v := .agg #[.bool p1.Back, .slice ad7 p1.Cells.length cp8]) S (wN rfl) rfl rfl [.bool p1.Back, .slice ad7 p1.Cells.length cp8] rfl rfl (lb rfl) fun a b11 w S => ?_
  refine sMove (iv 0) S (wN rfl) (.inr rfl) rfl rfl (lb rfl) fun a S => ?_
  refine leafL (leafT (hK9 _ _ ?_))
  refine sSeq (fun K12 hK12 => ?_)
  refine sRegion ?_
  refine sField (b := b10) (off := 0) 1 1 S (wN rfl) rfl rfl rfl rfl rfl (lb rfl) fun a S => ?_
  refine sLoad1 (p := b10) (off := 1) (T := 87) (vs := [.bool p0.Back, .slice ad3 p0.Cells.length cp4]) 1 (.slice ad3 p0.Cells.length cp4) S (wN rfl) rfl rfl rfl rfl rfl rfl (lb rfl) fun a S => ?_
  refine sField (b := b11) (off := 0) 1 1 S (wN rfl) rfl rfl rfl rfl rfl (lb rfl) fun a S => ?_
  refine sLoad1 (p := b11) (off := 1) (T := 87) (vs := [.bool p1.Back, .slice ad7 p1.Cells.length cp8]) 0 (.slice ad7 p1.Cells.length cp8) S (wN rfl) rfl rfl rfl rfl rfl rfl (lb rfl) fun a S => ?_
  obtain ⟨r13, hx14, h⟩ := bindSome h
  refine sCall (X := Value) (f := 57) (vs := [.slice ad3 p0.Cells.length cp4, .slice ad7 p1.Cells.length cp8]) (val := c_raddleref46_Table_val r13) (B' := fun _ => []) (D' := c_raddleref46_Table_D r13) [] [eBox b11 87 [.bool p1.Back, .slice ad7 p1.Cells.length cp8], eBox b10 87 [.bool p0.Back, .slice ad3 p0.Cells.length cp4]] [fRep (rL r_api_Stitch) (.slice ad3 p0.Cells.length cp4) p0.Cells, fRep (rL r_api_Stitch) (.slice ad7 p1.Cells.length cp8) p1.Cells] [0, 1] [1, 0] S (wN rfl) rfl callee57 rfl (by decide) rfl rfl (fun E1 w1 S1 => c_raddleref46_Table E1 w1 p0.Cells (.slice ad3 p0.Cells.length cp4) p1.Cells (.slice ad7 p1.Cells.length cp8) r13 hx14 S1) rfl (lb rfl) fun u15 a w S => ?_
  obtain ⟨ad16, cp17, _, rfl, _⟩ := S.mem.know (i := 0) (e := fRep (rL (rL (rI .i64))) (u15) r13) rfl
  obtain ⟨x18, hx19, h⟩ := bindSome h
  obtain ⟨q20, hq21, S⟩ := pIdx (P := Try.prog) (r := (rL (rI .i64))) (v := .slice ad16 r13.length cp17) (xs := r13) (j := 0) 98 101 0 S Try.underlying98 rfl rfl hx19
  refine sIdxV (v := .slice ad16 r13.length cp17) (k := .i64) (j := 0) S (wN rfl) rfl rfl rfl hq21 rfl (lb rfl) fun a S => ?_
  obtain ⟨u22, S⟩ := pLoad (r := (rL (rI .i64))) (q := q20) (x := x18) 0 S rfl
  obtain ⟨ad23, cp24, _, rfl, _⟩ := S.mem.know (i := 1) (e := fRep (rL (rI .i64)) (u22) x18) rfl
  refine sLoadV1 (vq := q20) 0 (.slice ad23 x18.length cp24) S (wN rfl) rfl rfl rfl rfl rfl (lb rfl) fun a S => ?_
  obtain ⟨x25, hx26, h⟩ := bindSome h
  obtain ⟨q27, hq28, S⟩ := pIdx (P := Try.prog) (r := (rI .i64)) (v := .slice ad23 x18.length cp24) (xs := x18) (j := 0) 101 3 1 S Try.underlying101 rfl rfl hx26
  refine sIdxV (v := .slice ad23 x18.length cp24) (k := .i64) (j := 0) S (wN rfl) rfl rfl rfl hq28 rfl (lb rfl) fun a S => ?_
  obtain ⟨u29, S⟩ := pLoad (r := (rI .i64)) (q := q27) (x := x25) 0 S rfl
  obtain rfl : u29 = iv x25 := S.mem.know (i := 1) (e := fRep (rI .i64) (u29) x25) rfl
  refine sLoadV1 (vq := q27) 0 (iv x25) S (wN rfl) rfl rfl rfl rfl rfl (lb rfl) fun a S => ?_
  refine sMove (iv x25) S (wN rfl) (.inr rfl) rfl rfl (lb rfl) fun a S => ?_
  refine leafL (leafT (hK12 _ _ ?_))
  obtain ⟨t31, h, g32⟩ := bindSome h
  refine sCut (fun a w => ∃ o30, o30 = t31 ∧ St [] E [] w0 23 a w [(5, iv o30)] [] []) ?_ (fun a w hI => ?_)
  rotate_left
  · obtain ⟨o30, rfl, S⟩ := hI
    have h := g32
    clear g32
    try dsimp only at h
    refine sSeq (fun K35 hK35 => ?_)
    refine sRegion ?_
    refine sMove (iv o30) S (wN rfl) (.inl rfl) rfl rfl (lb rfl) fun a S => ?_
    refine sMove (iv o30) S (wN rfl) (.inr rfl) rfl rfl (lb rfl) fun a S => ?_
    refine leafL (leafT (hK35 _ _ ?_))
    obtain rfl := Option.some.inj h
    exact wp_ret (sRet (iv o30) S (rsl1 rfl (rvT (t := 4) (v := iv o30) S rfl)) ⟨(), rfl, S.mem.sel [] [] (by decide) rfl rfl⟩)
  refine sSeq (fun K33 hK33 => ?_)
  refine sRegion ?_
  refine sField (b := b10) (off := 0) 0 0 S (wN rfl) rfl rfl rfl rfl rfl (lb rfl) fun a S => ?_
  refine sLoad1 (p := b10) (off := 0) (T := 87) (vs := [.bool p0.Back, .slice ad3 p0.Cells.length cp4]) 1 (.bool p0.Back) S (wN rfl) rfl rfl rfl rfl rfl rfl (lb rfl) fun a S => ?_
  refine sField (b := b11) (off := 0) 0 0 S (wN rfl) rfl rfl rfl rfl rfl (lb rfl) fun a S => ?_
  refine sLoad1 (p := b11) (off := 0) (T := 87) (vs := [.bool p1.Back, .slice ad7 p1.Cells.length cp8]) 0 (.bool p1.Back) S (wN rfl) rfl rfl rfl rfl rfl rfl (lb rfl) fun a S => ?_
  refine sBin (.bool (p0.Back != p1.Back)) S (wN rfl) rfl rfl rfl (bNeB _ _ _ _ Try.underlying4 p0.Back p1.Back) rfl (lb rfl) fun a S => ?_
  refine leafL (leafT (hK33 _ _ ?_))
  rcases iteSome h with ⟨hc34, h⟩ | ⟨hc34, h⟩
  rotate_left
  · refine sCondF S rfl hc34 ?_
    exact wp_skip (leafT (⟨x25, Option.some.inj h, S.fix [] [] (by decide) rfl rfl rfl⟩))
  refine sCondT S rfl hc34 ?_
  refine sRegion ?_
  refine sMove (iv x25) S (wN rfl) (.inl rfl) rfl rfl (lb rfl) fun a S => ?_
  refine sBin (iv (w64 (x25 + 1))) S (wN rfl) rfl rfl rfl (bAdd _ _ _ _ x25 1) rfl (lb rfl) fun a S => ?_
  refine sMove (iv (w64 (x25 + 1))) S (wN rfl) (.inr rfl) rfl rfl (lb rfl) fun a S => ?_
  exact leafL (leafT (⟨w64 (x25 + 1), Option.some.inj h, S.fix [] [] (by decide) rfl rfl rfl⟩))

end Go.Proofs.Ytffikfajljbmnaa
namespace Go.Proofs.Ytffikfajljbmnaa
open Go.RowKit
set_option linter.unusedVariables false

def anc_raddleref46_Charts_0 : List (List Nat) := [[], [], [0, 1], [0, 1, 2], [0, 1, 2, 3], [], [5], [], [5, 6, 7], [5, 6, 7, 8], [5, 6, 7, 8, 9], [5, 6, 7, 8, 9, 10], [0, 1, 2, 3, 4, 5, 6, 7, 8, 9, 10, 11], [0, 1, 2, 3, 4, 5, 6, 7, 8, 9, 10, 11, 12]]
def anc_raddleref46_Charts_1 : List (List Nat) := [[], [], [1], [0, 1, 2], [0, 1, 2, 3], [0, 1, 2, 3, 4], [], [6], [], [6, 7, 8], [6, 7, 8, 9], [6, 7, 8, 9, 10], [6, 7, 8, 9, 10, 11], [0, 1, 2, 3, 4, 5, 6, 7, 8, 9, 10, 11, 12], [0, 1, 2, 3, 4, 5, 6, 7, 8, 9, 10, 11, 12, 13]]
def anc_raddleref46_Charts_2 : List (List Nat) := [[], [], [], [2], [1, 2, 3], [1, 2, 3, 4], [], [6], [], [6, 7, 8], [6, 7, 8, 9], [], [11], [], [11, 12, 13], [11, 12, 13, 14], [6, 7, 8, 9, 10, 11, 12, 13, 14, 15], [1, 2, 3, 4, 5, 6, 7, 8, 9, 10, 11, 12, 13, 14, 15, 16], [0, 1, 2, 3, 4, 5, 6, 7, 8, 9, 10, 11, 12, 13, 14, 15, 16, 17], [0, 1, 2, 3, 4, 5, 6, 7, 8, 9, 10, 11, 12, 13, 14, 15, 16, 17, 18]]
noncomputable def raddleref46_Charts_l1 (s40 : Int) (p0 : api_Chart) (s37 : List Int) (p1 : api_Chart) : (List Int × Int) → Option ((List Int × Int) ⊕ List Int) := fun s0 => match s0 with
  | (s62, s63) =>
    if decide (0 ≤ s63) then
      Option.bind (α := Int) (
        if decide (s40 < (p0.Rows.length : Int)) then
          Option.bind (idxO s37 s63) fun x78 =>
          Option.bind (idxO p0.Rows s40) fun x83 =>
          some (w64 ((w64 (x78 + 1)) + (x83.Cells.length : Int)))
        else
          some (-1)) fun o73 =>
      Option.bind (α := Int) (
        if decide (s63 < (p1.Rows.length : Int)) then
          Option.bind (idxO s62 (w64 (s63 + 1))) fun x108 =>
          Option.bind (idxO p1.Rows s63) fun x113 =>
          Option.bind (α := Bool) (
            if decide (o73 < 0) then
              some true
            else
              some (decide ((w64 ((w64 (x108 + 1)) + (x113.Cells.length : Int))) < o73))) fun o132 =>
          if o132 then
            some (w64 ((w64 (x108 + 1)) + (x113.Cells.length : Int)))
          else
            some o73
        else
          some o73) fun o102 =>
      Option.bind (α := Int) (
        Option.bind (α := Bool) (
          if decide (s40 < (p0.Rows.length : Int)) then
            some (decide (s63 < (p1.Rows.length : Int)))
          else
            some false) fun o140 =>
        if o140 then
          Option.bind (idxO s37 (w64 (s63 + 1))) fun x145 =>
          Option.bind (idxO p0.Rows s40) fun x150 =>
          Option.bind (idxO p1.Rows s63) fun x159 =>
          Option.bind (F_raddleref46_beside x150 x159) fun r168 =>
          some (if (w64 (x145 + r168)) < o102 then w64 (x145 + r168) else o102)
        else
          some o102) fun o137 =>
      Option.bind (idxO s62 s63) fun x187 =>
      Option.bind (setO s62 s63 (if o137 < 0 then 0 else o137)) fun l192 =>
      some (.inl (l192, w64 (s63 - 1)))
    else
      some (.inr s62)
noncomputable def raddleref46_Charts_l2 (p0 : api_Chart) (p1 : api_Chart) (m29 : List Int) : (List Int × Int) → Option ((List Int × Int) ⊕ List Int) := fun s0 => match s0 with
  | (s37, s40) =>
    if decide (0 ≤ s40) then
      Option.bind (α := List Int) (
        Option.bind (α := List Int) (
          Option.bind (whileO (raddleref46_Charts_l1 s40 p0 s37 p1) (m29, (p1.Rows.length : Int))) fun e67 =>
            some e67) fun o58 =>
        some o58) fun o50 =>
      some (.inl (o50, w64 (s40 - 1)))
    else
      some (.inr s37)
noncomputable def F_raddleref46_Charts (p0 : api_Chart) (p1 : api_Chart) : Option (Int × Int) :=
  Option.bind (F_raddleref26_Check p0) fun r14 =>
  if r14 != 0 then
    some (0, r14)
  else
    Option.bind (F_raddleref26_Check p1) fun r21 =>
    if r21 != 0 then
      some (0, r21)
    else
      Option.bind (makeO (w64 ((p1.Rows.length : Int) + 1)) (0 : Int)) fun m29 =>
      Option.bind (α := List Int) (
        Option.bind (whileO (raddleref46_Charts_l2 p0 p1 m29) (m29, (p0.Rows.length : Int))) fun e44 =>
          some e44) fun o31 =>
      if p0.Start != p1.Start then
        Option.bind (idxO o31 0) fun x198 =>
        some (w64 (x198 + 1), 0)
      else
        Option.bind (idxO o31 0) fun x204 =>
        some (x204, 0)
set_option maxHeartbeats 4000000 in
set_option maxRecDepth 100000 in
theorem c_raddleref46_Charts (E : Nat → Prop) (w0 : World) (p0 : api_Chart) (v0 : Value) (p1 : api_Chart) (v1 : Value) (r : (Int × Int)) (h : F_raddleref46_Charts p0 p1 = some r) (S : St0 E [] w0 w0 [] [fRep r_api_Chart (v0) p0, fRep r_api_Chart (v1) p1]) :
    Calls Try.prog 21 #[v0, v1] w0 (Ret (X := Unit) E [] w0 (fun _ => .tuple #[.int .i64 r.1, .int .i64 r.2]) (fun _ => []) (fun _ => [])) := by
  unfold F_raddleref46_Charts at h
  obtain ⟨u1, rfl, hu2⟩ := S.know (i := 0) (e := fRep r_api_Chart (v0) p0) rfl
  have S := S.learn (fRep (rL r_api_Row) u1 p0.Rows) hu2
  obtain ⟨ad3, cp4, _, rfl, _⟩ := hu2
  obtain ⟨u5, rfl, hu6⟩ := S.know (i := 2) (e := fRep r_api_Chart (v1) p1) rfl
  have S := S.learn (fRep (rL r_api_Row) u5 p1.Rows) hu6
  obtain ⟨ad7, cp8, _, rfl, _⟩ := hu6
  refine sEnter (args := [.agg #[iv p0.Start, .slice ad3 p0.Rows.length cp4], .agg #[iv p1.Start, .slice ad7 p1.Rows.length cp8]]) 142 Try.func21 rfl rfl (by simp) S (fun a S => ?_)
  refine sSeq (fun K9 hK9 => ?_)
  refine sRegion ?_
  refine sBox (v := .agg #[iv p0.Start, .slice ad3 p0.Rows.length cp4]) S (wN rfl) rfl rfl [iv p0.Start, .slice ad3 p0.Rows.length cp4] rfl rfl (lb rfl) fun a b10 w S => ?_
  refine sBox (v := .agg #[iv p1.Start, .slice ad7 p1.Rows.length cp8]) S (wN rfl) rfl rfl [iv p1.Start, .slice ad7 p1.Rows.length cp8] rfl rfl (lb rfl) fun a b11 w S => ?_
  refine sMove (iv 0) S (wN rfl) (.inr rfl) rfl rfl (lb rfl) fun a S => ?_
  refine sMove (iv 0) S (wN rfl) (.inr rfl) rfl rfl (lb rfl) fun a S => ?_
  refine leafL (leafT (hK9 _ _ ?_))
  refine sSeq (fun K12 hK12 => ?_)
  refine sSeq (fun K13 hK13 => ?_)
  refine sRegion ?_
  refine sLoadN (p := b10) (off := 0) (T := 42) (vs := [iv p0.Start, .slice ad3 p0.Rows.length cp4]) 1 [iv p0.Start, .slice ad3 p0.Rows.length cp4] S (wN rfl) rfl rfl rfl rfl rfl rfl rfl (lb rfl) fun a S => ?_
  obtain ⟨r14, hx15, h⟩ := bindSome h
  have S1 := S.mem
  refine sCallQ (X := Unit) (f := 39) (vs := [.agg #[iv p0.Start, .slice ad3 p0.Rows.length cp4]]) (val := fun _ => iv r14) S (wN rfl) rfl callee39 rfl (S1.quiet [2] rfl) (fun E1 w1 S1 => c_raddleref26_Check E1 w1 p0 (.agg #[iv p0.Start, .slice ad3 p0.Rows.length cp4]) r14 hx15 S1) rfl (lb rfl) fun _ a w S => ?_
  refine sMove (iv r14) S (wN rfl) (.inr rfl) rfl rfl (lb rfl) fun a S => ?_
  refine leafL (leafT (hK13 _ _ ?_))
  refine sSeq (fun K16 hK16 => ?_)
  refine sRegion ?_
  refine sMove (iv r14) S (wN rfl) (.inl rfl) rfl rfl (lb rfl) fun a S => ?_
  refine sBin (.bool (r14 != 0)) S (wN rfl) rfl rfl rfl (bNe _ _ _ _ .i64 r14 0) rfl (lb rfl) fun a S => ?_
  refine leafL (leafT (hK16 _ _ ?_))
  rcases iteSome h with ⟨hc17, h⟩ | ⟨hc17, h⟩
  · refine sCondT S rfl hc17 ?_
    refine sSeq (fun K18 hK18 => ?_)
    refine sRegion ?_
    refine sMove (iv r14) S (wN rfl) (.inl rfl) rfl rfl (lb rfl) fun a S => ?_
    refine sMove (iv 0) S (wN rfl) (.inr rfl) rfl rfl (lb rfl) fun a S => ?_
    refine sMove (iv r14) S (wN rfl) (.inr rfl) rfl rfl (lb rfl) fun a S => ?_
    refine leafL (leafT (hK18 _ _ ?_))
    obtain rfl := Option.some.inj h
    exact wp_ret (rThen (sRet (.tuple #[iv 0, iv r14]) S (rsl2 rfl (rvT (t := 4) (v := iv 0) S rfl) (rvT (t := 5) (v := iv r14) S rfl)) ⟨(), rfl, S.mem.sel [] [] (by decide) rfl rfl⟩))
  refine sCondF S rfl hc17 ?_
  refine wp_skip (leafT (hK12 _ _ ?_))
  refine sSeq (fun K19 hK19 => ?_)
  refine sSeq (fun K20 hK20 => ?_)
  refine sRegion ?_
  refine sLoadN (p := b11) (off := 0) (T := 42) (vs := [iv p1.Start, .slice ad7 p1.Rows.length cp8]) 0 [iv p1.Start, .slice ad7 p1.Rows.length cp8] S (wN rfl) rfl rfl rfl rfl rfl rfl rfl (lb rfl) fun a S => ?_
  obtain ⟨r21, hx22, h⟩ := bindSome h
  have S1 := S.mem
  refine sCallQ (X := Unit) (f := 39) (vs := [.agg #[iv p1.Start, .slice ad7 p1.Rows.length cp8]]) (val := fun _ => iv r21) S (wN rfl) rfl callee39 rfl (S1.quiet [3] rfl) (fun E1 w1 S1 => c_raddleref26_Check E1 w1 p1 (.agg #[iv p1.Start, .slice ad7 p1.Rows.length cp8]) r21 hx22 S1) rfl (lb rfl) fun _ a w S => ?_
  refine sMove (iv r21) S (wN rfl) (.inr rfl) rfl rfl (lb rfl) fun a S => ?_
  refine leafL (leafT (hK20 _ _ ?_))
  refine sSeq (fun K23 hK23 => ?_)
  refine sRegion ?_
  refine sMove (iv r21) S (wN rfl) (.inl rfl) rfl rfl (lb rfl) fun a S => ?_
  refine sBin (.bool (r21 != 0)) S (wN rfl) rfl rfl rfl (bNe _ _ _ _ .i64 r21 0) rfl (lb rfl) fun a S => ?_
  refine leafL (leafT (hK23 _ _ ?_))
  rcases iteSome h with ⟨hc24, h⟩ | ⟨hc24, h⟩
  · refine sCondT S rfl hc24 ?_
    refine sSeq (fun K25 hK25 => ?_)
    refine sRegion ?_
    refine sMove (iv r21) S (wN rfl) (.inl rfl) rfl rfl (lb rfl) fun a S => ?_
    refine sMove (iv 0) S (wN rfl) (.inr rfl) rfl rfl (lb rfl) fun a S => ?_
    refine sMove (iv r21) S (wN rfl) (.inr rfl) rfl rfl (lb rfl) fun a S => ?_
    refine leafL (leafT (hK25 _ _ ?_))
    obtain rfl := Option.some.inj h
    exact wp_ret (rThen (sRet (.tuple #[iv 0, iv r21]) S (rsl2 rfl (rvT (t := 4) (v := iv 0) S rfl) (rvT (t := 5) (v := iv r21) S rfl)) ⟨(), rfl, S.mem.sel [] [] (by decide) rfl rfl⟩))
  refine sCondF S rfl hc24 ?_
  refine wp_skip (leafT (hK19 _ _ ?_))
  refine sSeq (fun K26 hK26 => ?_)
  refine sRegion ?_
  refine sField (b := b11) (off := 0) 1 1 S (wN rfl) rfl rfl rfl rfl rfl (lb rfl) fun a S => ?_
  refine sLoad1 (p := b11) (off := 1) (T := 42) (vs := [iv p1.Start, .slice ad7 p1.Rows.length cp8]) 0 (.slice ad7 p1.Rows.length cp8) S (wN rfl) rfl rfl rfl rfl rfl rfl (lb rfl) fun a S => ?_
  refine sLen (ad := ad7) (m := p1.Rows.length) (c := cp8) S (wN rfl) rfl Try.underlying40 rfl rfl (lb rfl) fun a S => ?_
  refine sBin (iv (w64 ((p1.Rows.length : Int) + 1))) S (wN rfl) rfl rfl rfl (bAdd _ _ _ _ (p1.Rows.length : Int) 1) rfl (lb rfl) fun a S => ?_
  obtain ⟨m29, hx30, h⟩ := bindSome h
  refine sMake (r := (rI .i64)) (m := w64 ((p1.Rows.length : Int) + 1)) (xs := m29) (iv 0) (0 : Int) 8 S (wN rfl) rfl Try.underlying101 rfl rfl (by decide) (fun _ _ => rfl) rfl rfl hx30 rfl (lb rfl) fun a w ad27 cp28 S => ?_
  refine sMove (.slice ad27 m29.length cp28) S (wN rfl) (.inr rfl) rfl rfl (lb rfl) fun a S => ?_
  refine leafL (leafT (hK26 _ _ ?_))
  obtain ⟨t34, h, g35⟩ := bindSome h
  refine sCut (fun a w => ∃ o31, o31 = t34 ∧ ∃ ad32, ∃ cp33, St [] E [] w0 142 a w [(2, .pointer (some ⟨b10, 0, none⟩)), (3, .pointer (some ⟨b11, 0, none⟩)), (8, .slice ad32 o31.length cp33)] [eBox b10 42 [iv p0.Start, .slice ad3 p0.Rows.length cp4], eBox b11 42 [iv p1.Start, .slice ad7 p1.Rows.length cp8], eRow (rI .i64) 3 (.slice ad32 o31.length cp33) o31] [fRep (rL r_api_Row) (.slice ad3 p0.Rows.length cp4) p0.Rows, fRep (rL r_api_Row) (.slice ad7 p1.Rows.length cp8) p1.Rows]) ?_ (fun a w hI => ?_)
  rotate_left
  · obtain ⟨o31, rfl, ad32, cp33, S⟩ := hI
    have h := g35
    clear g35
    try dsimp only at h
    refine sSeq (fun K194 hK194 => ?_)
    refine sSeq (fun K195 hK195 => ?_)
    refine sRegion ?_
    refine sField (b := b10) (off := 0) 0 0 S (wN rfl) rfl rfl rfl rfl rfl (lb rfl) fun a S => ?_
    refine sLoad1 (p := b10) (off := 0) (T := 42) (vs := [iv p0.Start, .slice ad3 p0.Rows.length cp4]) 0 (iv p0.Start) S (wN rfl) rfl rfl rfl rfl rfl rfl (lb rfl) fun a S => ?_
    refine sField (b := b11) (off := 0) 0 0 S (wN rfl) rfl rfl rfl rfl rfl (lb rfl) fun a S => ?_
    refine sLoad1 (p := b11) (off := 0) (T := 42) (vs := [iv p1.Start, .slice ad7 p1.Rows.length cp8]) 1 (iv p1.Start) S (wN rfl) rfl rfl rfl rfl rfl rfl (lb rfl) fun a S => ?_
    refine sBin (.bool (p0.Start != p1.Start)) S (wN rfl) rfl rfl rfl (bNe _ _ _ _ .i64 p0.Start p1.Start) rfl (lb rfl) fun a S => ?_
    refine leafL (leafT (hK195 _ _ ?_))
    rcases iteSome h with ⟨hc196, h⟩ | ⟨hc196, h⟩
    rotate_left
    · refine sCondF S rfl hc196 ?_
      refine wp_skip (leafT (hK194 _ _ ?_))
      refine sSeq (fun K203 hK203 => ?_)
      refine sRegion ?_
      refine sMove (.slice ad32 o31.length cp33) S (wN rfl) (.inl rfl) rfl rfl (lb rfl) fun a S => ?_
      obtain ⟨x204, hx205, h⟩ := bindSome h
      obtain ⟨q206, hq207, hp208⟩ := pIdxR (P := Try.prog) (r := (rI .i64)) (T := 3) (v := .slice ad32 o31.length cp33) (xs := o31) (j := 0) 101 3 2 S Try.underlying101 rfl rfl hx205
      refine sIdxV (v := .slice ad32 o31.length cp33) (k := .i64) (j := 0) S (wN rfl) rfl rfl rfl hq207 rfl (lb rfl) fun a S => ?_
      refine sLoadR (r := (rI .i64)) (T := 3) (xs := o31) (x := x204) (v := .slice ad32 o31.length cp33) (vq := q206) (j := 0) 2 (iv x204) S hp208 (wN rfl) rfl rfl rfl hx205 (fun _ _ _ h => h) (scal_I _) rfl rfl (lb rfl) fun a S => ?_
      refine sMove (iv x204) S (wN rfl) (.inr rfl) rfl rfl (lb rfl) fun a S => ?_
      refine sMove (iv 0) S (wN rfl) (.inr rfl) rfl rfl (lb rfl) fun a S => ?_
      refine leafL (leafT (hK203 _ _ ?_))
      obtain rfl := Option.some.inj h
      exact wp_ret (sRet (.tuple #[iv x204, iv 0]) S (rsl2 rfl (rvT (t := 4) (v := iv x204) S rfl) (rvT (t := 5) (v := iv 0) S rfl)) ⟨(), rfl, S.mem.sel [] [] (by decide) rfl rfl⟩)
    refine sCondT S rfl hc196 ?_
    refine sSeq (fun K197 hK197 => ?_)
    refine sRegion ?_
    refine sMove (.slice ad32 o31.length cp33) S (wN rfl) (.inl rfl) rfl rfl (lb rfl) fun a S => ?_
    obtain ⟨x198, hx199, h⟩ := bindSome h
    obtain ⟨q200, hq201, hp202⟩ := pIdxR (P := Try.prog) (r := (rI .i64)) (T := 3) (v := .slice ad32 o31.length cp33) (xs := o31) (j := 0) 101 3 2 S Try.underlying101 rfl rfl hx199
    refine sIdxV (v := .slice ad32 o31.length cp33) (k := .i64) (j := 0) S (wN rfl) rfl rfl rfl hq201 rfl (lb rfl) fun a S => ?_
    refine sLoadR (r := (rI .i64)) (T := 3) (xs := o31) (x := x198) (v := .slice ad32 o31.length cp33) (vq := q200) (j := 0) 2 (iv x198) S hp202 (wN rfl) rfl rfl rfl hx199 (fun _ _ _ h => h) (scal_I _) rfl rfl (lb rfl) fun a S => ?_
    refine sBin (iv (w64 (x198 + 1))) S (wN rfl) rfl rfl rfl (bAdd _ _ _ _ x198 1) rfl (lb rfl) fun a S => ?_
    refine sMove (iv (w64 (x198 + 1))) S (wN rfl) (.inr rfl) rfl rfl (lb rfl) fun a S => ?_
    refine sMove (iv 0) S (wN rfl) (.inr rfl) rfl rfl (lb rfl) fun a S => ?_
    refine leafL (leafT (hK197 _ _ ?_))
    obtain rfl := Option.some.inj h
    exact wp_ret (rThen (sRet (.tuple #[iv (w64 (x198 + 1)), iv 0]) S (rsl2 rfl (rvT (t := 4) (v := iv (w64 (x198 + 1))) S rfl) (rvT (t := 5) (v := iv 0) S rfl)) ⟨(), rfl, S.mem.sel [] [] (by decide) rfl rfl⟩))
  refine sSeq (fun K36 hK36 => ?_)
  refine sRegion ?_
  refine sField (b := b10) (off := 0) 1 1 S (wN rfl) rfl rfl rfl rfl rfl (lb rfl) fun a S => ?_
  refine sLoad1 (p := b10) (off := 1) (T := 42) (vs := [iv p0.Start, .slice ad3 p0.Rows.length cp4]) 2 (.slice ad3 p0.Rows.length cp4) S (wN rfl) rfl rfl rfl rfl rfl rfl (lb rfl) fun a S => ?_
  refine sLen (ad := ad3) (m := p0.Rows.length) (c := cp4) S (wN rfl) rfl Try.underlying40 rfl rfl (lb rfl) fun a S => ?_
  refine sMove (iv (p0.Rows.length : Int)) S (wN rfl) (.inr rfl) rfl rfl (lb rfl) fun a S => ?_
  refine leafL (leafT (hK36 _ _ ?_))
  refine wp_block ?_
  obtain ⟨t43, hl, g42⟩ := bindSome h
  refine sLoop hl (fun s0 a w => match s0 with | (s37, s40) => ∃ ad38, ∃ cp39, St [] E [] w0 142 a w [(2, .pointer (some ⟨b10, 0, none⟩)), (3, .pointer (some ⟨b11, 0, none⟩)), (8, .slice ad38 s37.length cp39), (9, iv s40)] [eBox b10 42 [iv p0.Start, .slice ad3 p0.Rows.length cp4], eBox b11 42 [iv p1.Start, .slice ad7 p1.Rows.length cp8], eRow (rI .i64) 3 (.slice ad38 s37.length cp39) s37] [fRep (rL r_api_Row) (.slice ad3 p0.Rows.length cp4) p0.Rows, fRep (rL r_api_Row) (.slice ad7 p1.Rows.length cp8) p1.Rows]) ⟨ad27, cp28, S.fix [2, 1, 0] [1, 0] (by decide) rfl rfl rfl⟩ ?_
  clear hl h
  intro s0 a w c0 hI h hu41
  obtain ⟨s37, s40⟩ := s0
  unfold raddleref46_Charts_l2 at h
  dsimp only at h hI
  obtain ⟨ad38, cp39, S⟩ := hI
  refine sSeq (fun K47 hK47 => ?_)
  refine sSeq (fun K48 hK48 => ?_)
  refine sRegion ?_
  refine sMove (iv s40) S (wN rfl) (.inl rfl) rfl rfl (lb rfl) fun a S => ?_
  refine sBin (.bool (decide (0 ≤ s40))) S (wN rfl) rfl rfl rfl (bGe _ _ _ _ .i64 s40 0) rfl (lb rfl) fun a S => ?_
  refine leafL (leafT (hK48 _ _ ?_))
  rcases iteSome h with ⟨hc49, h⟩ | ⟨hc49, h⟩
  rotate_left
  · refine sCondF S rfl hc49 ?_
    obtain rfl := Option.some.inj h
    obtain rfl := hu41 _ rfl
    have h := g42
    clear g42
    try dsimp only at h
    exact wp_exit (xThen (xThen (xHit (leafT (⟨s37, Option.some.inj h, ad38, cp39, S.fix [0, 1, 2] [0, 1] (by decide) rfl rfl rfl⟩)))))
  refine sCondT S rfl hc49 ?_
  refine wp_skip (leafT (hK47 _ _ ?_))
  obtain ⟨t53, h, g54⟩ := bindSome h
  refine sCut (fun a w => ∃ o50, o50 = t53 ∧ ∃ ad51, ∃ cp52, St [] E [] w0 142 a w [(2, .pointer (some ⟨b10, 0, none⟩)), (3, .pointer (some ⟨b11, 0, none⟩)), (8, .slice ad51 o50.length cp52), (9, iv s40)] [eBox b10 42 [iv p0.Start, .slice ad3 p0.Rows.length cp4], eBox b11 42 [iv p1.Start, .slice ad7 p1.Rows.length cp8], eRow (rI .i64) 3 (.slice ad51 o50.length cp52) o50] [fRep (rL r_api_Row) (.slice ad3 p0.Rows.length cp4) p0.Rows, fRep (rL r_api_Row) (.slice ad7 p1.Rows.length cp8) p1.Rows]) ?_ (fun a w hI => ?_)
  rotate_left
  · obtain ⟨o50, rfl, ad51, cp52, S⟩ := hI
    have h := g54
    clear g54
    try dsimp only at h
    refine sRegion ?_
    refine sMove (iv s40) S (wN rfl) (.inl rfl) rfl rfl (lb rfl) fun a S => ?_
    refine sBin (iv (w64 (s40 - 1))) S (wN rfl) rfl rfl rfl (bSub _ _ _ _ s40 1) rfl (lb rfl) fun a S => ?_
    refine sMove (iv (w64 (s40 - 1))) S (wN rfl) (.inr rfl) rfl rfl (lb rfl) fun a S => ?_
    exact leafL (leafT (⟨(o50, w64 (s40 - 1)), (Option.some.inj h).symm, ⟨ad51, cp52, S.fix [0, 1, 2] [0, 1] (by decide) rfl rfl rfl⟩⟩))
  refine wp_block ?_
  refine sSeq (fun K55 hK55 => ?_)
  refine sRegion ?_
  refine sField (b := b11) (off := 0) 1 1 S (wN rfl) rfl rfl rfl rfl rfl (lb rfl) fun a S => ?_
  refine sLoad1 (p := b11) (off := 1) (T := 42) (vs := [iv p1.Start, .slice ad7 p1.Rows.length cp8]) 1 (.slice ad7 p1.Rows.length cp8) S (wN rfl) rfl rfl rfl rfl rfl rfl (lb rfl) fun a S => ?_
  refine sLen (ad := ad7) (m := p1.Rows.length) (c := cp8) S (wN rfl) rfl Try.underlying40 rfl rfl (lb rfl) fun a S => ?_
  refine sBin (iv (w64 ((p1.Rows.length : Int) + 1))) S (wN rfl) rfl rfl rfl (bAdd _ _ _ _ (p1.Rows.length : Int) 1) rfl (lb rfl) fun a S => ?_
  refine sMake (r := (rI .i64)) (m := w64 ((p1.Rows.length : Int) + 1)) (xs := m29) (iv 0) (0 : Int) 8 S (wN rfl) rfl Try.underlying101 rfl rfl (by decide) (fun _ _ => rfl) rfl rfl hx30 rfl (lb rfl) fun a w ad56 cp57 S => ?_
  refine sMove (.slice ad56 m29.length cp57) S (wN rfl) (.inr rfl) rfl rfl (lb rfl) fun a S => ?_
  refine leafL (leafT (hK55 _ _ ?_))
  obtain ⟨t59, h, g60⟩ := bindSome h
  refine sCut (fun a w => ∃ o58, o58 = t59 ∧ St [] E [] w0 142 a w [(2, .pointer (some ⟨b10, 0, none⟩)), (3, .pointer (some ⟨b11, 0, none⟩)), (9, iv s40), (10, .slice ad56 o58.length cp57)] [eBox b10 42 [iv p0.Start, .slice ad3 p0.Rows.length cp4], eBox b11 42 [iv p1.Start, .slice ad7 p1.Rows.length cp8], eRow (rI .i64) 3 (.slice ad56 o58.length cp57) o58] [fRep (rL r_api_Row) (.slice ad3 p0.Rows.length cp4) p0.Rows, fRep (rL r_api_Row) (.slice ad7 p1.Rows.length cp8) p1.Rows]) ?_ (fun a w hI => ?_)
  rotate_left
  · obtain ⟨o58, rfl, S⟩ := hI
    have h := g60
    clear g60
    try dsimp only at h
    refine sRegion ?_
    refine sMove (.slice ad56 o58.length cp57) S (wN rfl) (.inl rfl) rfl rfl (lb rfl) fun a S => ?_
    refine sMove (.slice ad56 o58.length cp57) S (wN rfl) (.inr rfl) rfl rfl (lb rfl) fun a S => ?_
    exact leafL (leafB (leafT (⟨o58, Option.some.inj h, ad56, cp57, S.fix [0, 1, 2] [0, 1] (by decide) rfl rfl rfl⟩)))
  refine sSeq (fun K61 hK61 => ?_)
  refine sRegion ?_
  refine sField (b := b11) (off := 0) 1 1 S (wN rfl) rfl rfl rfl rfl rfl (lb rfl) fun a S => ?_
  refine sLoad1 (p := b11) (off := 1) (T := 42) (vs := [iv p1.Start, .slice ad7 p1.Rows.length cp8]) 2 (.slice ad7 p1.Rows.length cp8) S (wN rfl) rfl rfl rfl rfl rfl rfl (lb rfl) fun a S => ?_
  refine sLen (ad := ad7) (m := p1.Rows.length) (c := cp8) S (wN rfl) rfl Try.underlying40 rfl rfl (lb rfl) fun a S => ?_
  refine sMove (iv (p1.Rows.length : Int)) S (wN rfl) (.inr rfl) rfl rfl (lb rfl) fun a S => ?_
  refine leafL (leafT (hK61 _ _ ?_))
  refine wp_block ?_
  obtain ⟨t66, hl, g65⟩ := bindSome h
  refine sLoop hl (fun s0 a w => match s0 with | (s62, s63) => St [] E [] w0 142 a w [(2, .pointer (some ⟨b10, 0, none⟩)), (3, .pointer (some ⟨b11, 0, none⟩)), (8, .slice ad38 s37.length cp39), (9, iv s40), (10, .slice ad56 s62.length cp57), (11, iv s63)] [eBox b10 42 [iv p0.Start, .slice ad3 p0.Rows.length cp4], eBox b11 42 [iv p1.Start, .slice ad7 p1.Rows.length cp8], eRow (rI .i64) 3 (.slice ad38 s37.length cp39) s37, eRow (rI .i64) 3 (.slice ad56 s62.length cp57) s62] [fRep (rL r_api_Row) (.slice ad3 p0.Rows.length cp4) p0.Rows, fRep (rL r_api_Row) (.slice ad7 p1.Rows.length cp8) p1.Rows]) (S.fix [1, 2, 3, 0] [0, 1] (by decide) rfl rfl rfl) ?_
  clear hl h
  intro s0 a w c0 hI h hu64
  obtain ⟨s62, s63⟩ := s0
  unfold raddleref46_Charts_l1 at h
  dsimp only at h hI
  have S := hI
  refine sSeq (fun K68 hK68 => ?_)
  refine sSeq (fun K69 hK69 => ?_)
  refine sRegion ?_
  refine sMove (iv s63) S (wN rfl) (.inl rfl) rfl rfl (lb rfl) fun a S => ?_
  refine sBin (.bool (decide (0 ≤ s63))) S (wN rfl) rfl rfl rfl (bGe _ _ _ _ .i64 s63 0) rfl (lb rfl) fun a S => ?_
  refine leafL (leafT (hK69 _ _ ?_))
  rcases iteSome h with ⟨hc70, h⟩ | ⟨hc70, h⟩
  rotate_left
  · refine sCondF S rfl hc70 ?_
    obtain rfl := Option.some.inj h
    obtain rfl := hu64 _ rfl
    have h := g65
    clear g65
    try dsimp only at h
    exact wp_exit (xThen (xThen (xHit (leafT (⟨s62, Option.some.inj h, S.fix [0, 1, 3] [0, 1] (by decide) rfl rfl rfl⟩)))))
  refine sCondT S rfl hc70 ?_
  refine wp_skip (leafT (hK68 _ _ ?_))
  refine sSeq (fun K71 hK71 => ?_)
  refine wp_block ?_
  refine sSeq (fun K72 hK72 => ?_)
  refine sRegion ?_
  refine sMove (iv (-1)) S (wN rfl) (.inr rfl) rfl rfl (lb rfl) fun a S => ?_
  refine leafL (leafT (hK72 _ _ ?_))
  obtain ⟨t74, h, g75⟩ := bindSome h
  refine sCut (fun a w => ∃ o73, o73 = t74 ∧ St [] E [] w0 142 a w [(2, .pointer (some ⟨b10, 0, none⟩)), (3, .pointer (some ⟨b11, 0, none⟩)), (8, .slice ad38 s37.length cp39), (9, iv s40), (10, .slice ad56 s62.length cp57), (11, iv s63), (12, iv o73)] [eBox b10 42 [iv p0.Start, .slice ad3 p0.Rows.length cp4], eBox b11 42 [iv p1.Start, .slice ad7 p1.Rows.length cp8], eRow (rI .i64) 3 (.slice ad38 s37.length cp39) s37, eRow (rI .i64) 3 (.slice ad56 s62.length cp57) s62] [fRep (rL r_api_Row) (.slice ad3 p0.Rows.length cp4) p0.Rows, fRep (rL r_api_Row) (.slice ad7 p1.Rows.length cp8) p1.Rows]) ?_ (fun a w hI => ?_)
  · refine sSeq (fun K76 hK76 => ?_)
    refine sRegion ?_
    refine sMove (iv s40) S (wN rfl) (.inl rfl) rfl rfl (lb rfl) fun a S => ?_
    refine sField (b := b10) (off := 0) 1 1 S (wN rfl) rfl rfl rfl rfl rfl (lb rfl) fun a S => ?_
    refine sLoad1 (p := b10) (off := 1) (T := 42) (vs := [iv p0.Start, .slice ad3 p0.Rows.length cp4]) 0 (.slice ad3 p0.Rows.length cp4) S (wN rfl) rfl rfl rfl rfl rfl rfl (lb rfl) fun a S => ?_
    refine sLen (ad := ad3) (m := p0.Rows.length) (c := cp4) S (wN rfl) rfl Try.underlying40 rfl rfl (lb rfl) fun a S => ?_
    refine sBin (.bool (decide (s40 < (p0.Rows.length : Int)))) S (wN rfl) rfl rfl rfl (bLt _ _ _ _ .i64 s40 (p0.Rows.length : Int)) rfl (lb rfl) fun a S => ?_
    refine leafL (leafT (hK76 _ _ ?_))
    rcases iteSome h with ⟨hc77, h⟩ | ⟨hc77, h⟩
    rotate_left
    · refine sCondF S rfl hc77 ?_
      exact wp_skip (leafT (⟨(-1), Option.some.inj h, S.fix [0, 1, 2, 3] [0, 1] (by decide) rfl rfl rfl⟩))
    refine sCondT S rfl hc77 ?_
    obtain ⟨x78, hx79, h⟩ := bindSome h
    obtain ⟨x83, hx84, h⟩ := bindSome h
    obtain ⟨q92, hq93, hp94⟩ := pIdxR (P := Try.prog) (r := (rI .i64)) (T := 3) (v := .slice ad38 s37.length cp39) (xs := s37) (j := s63) 101 3 2 S Try.underlying101 rfl rfl hx79
    obtain ⟨q95, hq96, S⟩ := pIdx (P := Try.prog) (r := r_api_Row) (v := .slice ad3 p0.Rows.length cp4) (xs := p0.Rows) (j := s40) 40 87 0 S Try.underlying40 rfl rfl hx84
    obtain ⟨q97, hq98, S⟩ := pFld (P := Try.prog) (r := r_api_Row) (s2 := (rL r_api_Stitch)) (g := (·.Cells)) (q := q95) (z := x83) 87 1 0 1 S rfl rfl comp_api_Row_Cells
    obtain ⟨u99, S⟩ := pLoad (r := (rL r_api_Stitch)) (q := q97) (x := x83.Cells) 0 S rfl
    obtain ⟨ad100, cp101, _, rfl, _⟩ := S.mem.know (i := 1) (e := fRep (rL r_api_Stitch) (u99) x83.Cells) rfl
    refine sDraw (nf := []) (W := [(0, 53, .slice ad38 s37.length cp39), (1, 54, iv s63), (2, 55, q92), (3, 56, iv x78), (4, 57, iv (w64 (x78 + 1))), (5, 58, .pointer (some ⟨b10, 1, none⟩)), (6, 59, .slice ad3 p0.Rows.length cp4), (7, 60, iv s40), (8, 61, q95), (9, 62, q97), (10, 63, .slice ad100 x83.Cells.length cp101), (11, 64, iv (x83.Cells.length : Int)), (12, 65, iv (w64 ((w64 (x78 + 1)) + (x83.Cells.length : Int)))), (13, 12, iv (w64 ((w64 (x78 + 1)) + (x83.Cells.length : Int))))]) rfl S ?_
    refine node_by (A := anc_raddleref46_Charts_0) (nf := []) (Y := []) (W := [(0, 53, .slice ad38 s37.length cp39), (1, 54, iv s63), (2, 55, q92), (3, 56, iv x78), (4, 57, iv (w64 (x78 + 1))), (5, 58, .pointer (some ⟨b10, 1, none⟩)), (6, 59, .slice ad3 p0.Rows.length cp4), (7, 60, iv s40), (8, 61, q95), (9, 62, q97), (10, 63, .slice ad100 x83.Cells.length cp101), (11, 64, iv (x83.Cells.length : Int)), (12, 65, iv (w64 ((w64 (x78 + 1)) + (x83.Cells.length : Int)))), (13, 12, iv (w64 ((w64 (x78 + 1)) + (x83.Cells.length : Int))))]) 14 (by kernel_rfl) (by kernel_rfl) (by kernel_rfl) (by kernel_rfl) (by kernel_rfl) [0, 1, 2, 3, 4, 5, 6, 7, 8, 9, 10, 11, 12, 13] (by kernel_rfl) (by decide) (by decide) (aF 0 13 (by decide) ?_ (aF 1 12 (by decide) ?_ (aF 2 11 (by decide) ?_ (aF 3 10 (by decide) ?_ (aF 4 9 (by decide) ?_ (aF 5 8 (by decide) ?_ (aF 6 7 (by decide) ?_ (aF 7 6 (by decide) ?_ (aF 8 5 (by decide) ?_ (aF 9 4 (by decide) ?_ (aF 10 3 (by decide) ?_ (aF 11 2 (by decide) ?_ (aF 12 1 (by decide) ?_ (aF 13 0 (by decide) ?_ (trivial))))))))))))))) [(2, .pointer (some ⟨b10, 0, none⟩)), (3, .pointer (some ⟨b11, 0, none⟩)), (8, .slice ad38 s37.length cp39), (9, iv s40), (10, .slice ad56 s62.length cp57), (11, iv s63), (12, iv (w64 ((w64 (x78 + 1)) + (x83.Cells.length : Int))))] (fin_of [none, none, none, none, none, none, some 13] rfl (by kernel_rfl) (by kernel_rfl)) (fun _ a w S => ?_)
    · refine fI 53 (.slice ad38 s37.length cp39) [(8, .slice ad38 s37.length cp39)] 0 [none] rfl rfl rfl rfl rfl rfl fun G a w S => ?_
      refine sMove (.slice ad38 s37.length cp39) S (wN rfl) (.inl rfl) rfl rfl (lb rfl) fun a S => ?_
      exact leafL ⟨rfl, S⟩
    · refine fI 54 (iv s63) [(11, iv s63)] 1 [none] rfl rfl rfl rfl rfl rfl fun G a w S => ?_
      refine sMove (iv s63) S (wN rfl) (.inl rfl) rfl rfl (lb rfl) fun a S => ?_
      exact leafL ⟨rfl, S⟩
    · refine fI 55 q92 [(53, .slice ad38 s37.length cp39), (54, iv s63)] 2 [some 0, some 1] rfl rfl rfl rfl rfl rfl fun G a w S => ?_
      refine sIdxV (v := .slice ad38 s37.length cp39) (k := .i64) (j := s63) S (wN rfl) rfl rfl rfl hq93 rfl (lb rfl) fun a S => ?_
      exact leafL ⟨rfl, S⟩
    · refine fI 56 (iv x78) [(55, q92)] 3 [some 2] rfl rfl rfl rfl rfl rfl fun G a w S => ?_
      refine sLoadR (r := (rI .i64)) (T := 3) (xs := s37) (x := x78) (v := .slice ad38 s37.length cp39) (vq := q92) (j := s63) 2 (iv x78) S hp94 (wN rfl) rfl rfl rfl hx79 (fun _ _ _ h => h) (scal_I _) rfl rfl (lb rfl) fun a S => ?_
      exact leafL ⟨rfl, S⟩
    · refine fI 57 (iv (w64 (x78 + 1))) [(56, iv x78)] 4 [some 3] rfl rfl rfl rfl rfl rfl fun G a w S => ?_
      refine sBin (iv (w64 (x78 + 1))) S (wN rfl) rfl rfl rfl (bAdd _ _ _ _ x78 1) rfl (lb rfl) fun a S => ?_
      exact leafL ⟨rfl, S⟩
    · refine fI 58 (.pointer (some ⟨b10, 1, none⟩)) [(2, .pointer (some ⟨b10, 0, none⟩))] 5 [none] rfl rfl rfl rfl rfl rfl fun G a w S => ?_
      refine sField (b := b10) (off := 0) 1 1 S (wN rfl) rfl rfl rfl rfl rfl (lb rfl) fun a S => ?_
      exact leafL ⟨rfl, S⟩
    · refine fI 59 (.slice ad3 p0.Rows.length cp4) [(58, .pointer (some ⟨b10, 1, none⟩))] 6 [some 5] rfl rfl rfl rfl rfl rfl fun G a w S => ?_
      refine sLoad1 (p := b10) (off := 1) (T := 42) (vs := [iv p0.Start, .slice ad3 p0.Rows.length cp4]) 0 (.slice ad3 p0.Rows.length cp4) S (wN rfl) rfl rfl rfl rfl rfl rfl (lb rfl) fun a S => ?_
      exact leafL ⟨rfl, S⟩
    · refine fI 60 (iv s40) [(9, iv s40)] 7 [none] rfl rfl rfl rfl rfl rfl fun G a w S => ?_
      refine sMove (iv s40) S (wN rfl) (.inl rfl) rfl rfl (lb rfl) fun a S => ?_
      exact leafL ⟨rfl, S⟩
    · refine fI 61 q95 [(59, .slice ad3 p0.Rows.length cp4), (60, iv s40)] 8 [some 6, some 7] rfl rfl rfl rfl rfl rfl fun G a w S => ?_
      refine sIdxV (v := .slice ad3 p0.Rows.length cp4) (k := .i64) (j := s40) S (wN rfl) rfl rfl rfl hq96 rfl (lb rfl) fun a S => ?_
      exact leafL ⟨rfl, S⟩
    · refine fI 62 q97 [(61, q95)] 9 [some 8] rfl rfl rfl rfl rfl rfl fun G a w S => ?_
      refine sFldV (q := q95) S (wN rfl) rfl rfl hq98 rfl (lb rfl) fun a S => ?_
      exact leafL ⟨rfl, S⟩
    · refine fI 63 (.slice ad100 x83.Cells.length cp101) [(62, q97)] 10 [some 9] rfl rfl rfl rfl rfl rfl fun G a w S => ?_
      refine sLoadV1 (vq := q97) 0 (.slice ad100 x83.Cells.length cp101) S (wN rfl) rfl rfl rfl rfl rfl (lb rfl) fun a S => ?_
      exact leafL ⟨rfl, S⟩
    · refine fI 64 (iv (x83.Cells.length : Int)) [(63, .slice ad100 x83.Cells.length cp101)] 11 [some 10] rfl rfl rfl rfl rfl rfl fun G a w S => ?_
      refine sLen (ad := ad100) (m := x83.Cells.length) (c := cp101) S (wN rfl) rfl Try.underlying47 rfl rfl (lb rfl) fun a S => ?_
      exact leafL ⟨rfl, S⟩
    · refine fI 65 (iv (w64 ((w64 (x78 + 1)) + (x83.Cells.length : Int)))) [(57, iv (w64 (x78 + 1))), (64, iv (x83.Cells.length : Int))] 12 [some 4, some 11] rfl rfl rfl rfl rfl rfl fun G a w S => ?_
      refine sBin (iv (w64 ((w64 (x78 + 1)) + (x83.Cells.length : Int)))) S (wN rfl) rfl rfl rfl (bAdd _ _ _ _ (w64 (x78 + 1)) (x83.Cells.length : Int)) rfl (lb rfl) fun a S => ?_
      exact leafL ⟨rfl, S⟩
    · refine fI 12 (iv (w64 ((w64 (x78 + 1)) + (x83.Cells.length : Int)))) [(65, iv (w64 ((w64 (x78 + 1)) + (x83.Cells.length : Int))))] 13 [some 12] rfl rfl rfl rfl rfl rfl fun G a w S => ?_
      refine sMove (iv (w64 ((w64 (x78 + 1)) + (x83.Cells.length : Int)))) S (wN rfl) (.inr rfl) rfl rfl (lb rfl) fun a S => ?_
      exact leafL ⟨rfl, S⟩
    exact leafT (⟨w64 ((w64 (x78 + 1)) + (x83.Cells.length : Int)), Option.some.inj h, S.fix [0, 1, 2, 3] [4, 5] (by decide) rfl rfl rfl⟩)
  obtain ⟨o73, rfl, S⟩ := hI
  have h := g75
  clear g75
  try dsimp only at h
  obtain ⟨t103, h, g104⟩ := bindSome h
  refine sCut (fun a w => ∃ o102, o102 = t103 ∧ St [] E [] w0 142 a w [(2, .pointer (some ⟨b10, 0, none⟩)), (3, .pointer (some ⟨b11, 0, none⟩)), (8, .slice ad38 s37.length cp39), (9, iv s40), (10, .slice ad56 s62.length cp57), (11, iv s63), (12, iv o102)] [eBox b10 42 [iv p0.Start, .slice ad3 p0.Rows.length cp4], eBox b11 42 [iv p1.Start, .slice ad7 p1.Rows.length cp8], eRow (rI .i64) 3 (.slice ad38 s37.length cp39) s37, eRow (rI .i64) 3 (.slice ad56 s62.length cp57) s62] [fRep (rL r_api_Row) (.slice ad3 p0.Rows.length cp4) p0.Rows, fRep (rL r_api_Row) (.slice ad7 p1.Rows.length cp8) p1.Rows]) ?_ (fun a w hI => ?_)
  · refine sSeq (fun K105 hK105 => ?_)
    refine sRegion ?_
    refine sMove (iv s63) S (wN rfl) (.inl rfl) rfl rfl (lb rfl) fun a S => ?_
    refine sField (b := b11) (off := 0) 1 1 S (wN rfl) rfl rfl rfl rfl rfl (lb rfl) fun a S => ?_
    refine sLoad1 (p := b11) (off := 1) (T := 42) (vs := [iv p1.Start, .slice ad7 p1.Rows.length cp8]) 1 (.slice ad7 p1.Rows.length cp8) S (wN rfl) rfl rfl rfl rfl rfl rfl (lb rfl) fun a S => ?_
    refine sLen (ad := ad7) (m := p1.Rows.length) (c := cp8) S (wN rfl) rfl Try.underlying40 rfl rfl (lb rfl) fun a S => ?_
    refine sBin (.bool (decide (s63 < (p1.Rows.length : Int)))) S (wN rfl) rfl rfl rfl (bLt _ _ _ _ .i64 s63 (p1.Rows.length : Int)) rfl (lb rfl) fun a S => ?_
    refine leafL (leafT (hK105 _ _ ?_))
    rcases iteSome h with ⟨hc106, h⟩ | ⟨hc106, h⟩
    rotate_left
    · refine sCondF S rfl hc106 ?_
      exact wp_skip (leafT (⟨o73, Option.some.inj h, S.fix [0, 1, 2, 3] [0, 1] (by decide) rfl rfl rfl⟩))
    refine sCondT S rfl hc106 ?_
    refine sSeq (fun K107 hK107 => ?_)
    obtain ⟨x108, hx109, h⟩ := bindSome h
    obtain ⟨x113, hx114, h⟩ := bindSome h
    obtain ⟨q122, hq123, hp124⟩ := pIdxR (P := Try.prog) (r := (rI .i64)) (T := 3) (v := .slice ad56 s62.length cp57) (xs := s62) (j := w64 (s63 + 1)) 101 3 3 S Try.underlying101 rfl rfl hx109
    obtain ⟨q125, hq126, S⟩ := pIdx (P := Try.prog) (r := r_api_Row) (v := .slice ad7 p1.Rows.length cp8) (xs := p1.Rows) (j := s63) 40 87 1 S Try.underlying40 rfl rfl hx114
    obtain ⟨q127, hq128, S⟩ := pFld (P := Try.prog) (r := r_api_Row) (s2 := (rL r_api_Stitch)) (g := (·.Cells)) (q := q125) (z := x113) 87 1 0 1 S rfl rfl comp_api_Row_Cells
    obtain ⟨u129, S⟩ := pLoad (r := (rL r_api_Stitch)) (q := q127) (x := x113.Cells) 0 S rfl
    obtain ⟨ad130, cp131, _, rfl, _⟩ := S.mem.know (i := 1) (e := fRep (rL r_api_Stitch) (u129) x113.Cells) rfl
    refine sDraw (nf := []) (W := [(0, 71, .slice ad56 s62.length cp57), (1, 72, iv s63), (2, 73, iv (w64 (s63 + 1))), (3, 74, q122), (4, 75, iv x108), (5, 76, iv (w64 (x108 + 1))), (6, 77, .pointer (some ⟨b11, 1, none⟩)), (7, 78, .slice ad7 p1.Rows.length cp8), (8, 79, iv s63), (9, 80, q125), (10, 81, q127), (11, 82, .slice ad130 x113.Cells.length cp131), (12, 83, iv (x113.Cells.length : Int)), (13, 84, iv (w64 ((w64 (x108 + 1)) + (x113.Cells.length : Int)))), (14, 13, iv (w64 ((w64 (x108 + 1)) + (x113.Cells.length : Int))))]) rfl S ?_
    refine node_by (A := anc_raddleref46_Charts_1) (nf := []) (Y := []) (W := [(0, 71, .slice ad56 s62.length cp57), (1, 72, iv s63), (2, 73, iv (w64 (s63 + 1))), (3, 74, q122), (4, 75, iv x108), (5, 76, iv (w64 (x108 + 1))), (6, 77, .pointer (some ⟨b11, 1, none⟩)), (7, 78, .slice ad7 p1.Rows.length cp8), (8, 79, iv s63), (9, 80, q125), (10, 81, q127), (11, 82, .slice ad130 x113.Cells.length cp131), (12, 83, iv (x113.Cells.length : Int)), (13, 84, iv (w64 ((w64 (x108 + 1)) + (x113.Cells.length : Int)))), (14, 13, iv (w64 ((w64 (x108 + 1)) + (x113.Cells.length : Int))))]) 15 (by kernel_rfl) (by kernel_rfl) (by kernel_rfl) (by kernel_rfl) (by kernel_rfl) [0, 1, 2, 3, 4, 5, 6, 7, 8, 9, 10, 11, 12, 13, 14] (by kernel_rfl) (by decide) (by decide) (aF 0 14 (by decide) ?_ (aF 1 13 (by decide) ?_ (aF 2 12 (by decide) ?_ (aF 3 11 (by decide) ?_ (aF 4 10 (by decide) ?_ (aF 5 9 (by decide) ?_ (aF 6 8 (by decide) ?_ (aF 7 7 (by decide) ?_ (aF 8 6 (by decide) ?_ (aF 9 5 (by decide) ?_ (aF 10 4 (by decide) ?_ (aF 11 3 (by decide) ?_ (aF 12 2 (by decide) ?_ (aF 13 1 (by decide) ?_ (aF 14 0 (by decide) ?_ (trivial)))))))))))))))) [(2, .pointer (some ⟨b10, 0, none⟩)), (3, .pointer (some ⟨b11, 0, none⟩)), (8, .slice ad38 s37.length cp39), (9, iv s40), (10, .slice ad56 s62.length cp57), (11, iv s63), (12, iv o73), (13, iv (w64 ((w64 (x108 + 1)) + (x113.Cells.length : Int))))] (fin_of [none, none, none, none, none, none, none, some 14] rfl (by kernel_rfl) (by kernel_rfl)) (fun _ a w S => ?_)
    · refine fI 71 (.slice ad56 s62.length cp57) [(10, .slice ad56 s62.length cp57)] 0 [none] rfl rfl rfl rfl rfl rfl fun G a w S => ?_
      refine sMove (.slice ad56 s62.length cp57) S (wN rfl) (.inl rfl) rfl rfl (lb rfl) fun a S => ?_
      exact leafL ⟨rfl, S⟩
    · refine fI 72 (iv s63) [(11, iv s63)] 1 [none] rfl rfl rfl rfl rfl rfl fun G a w S => ?_
      refine sMove (iv s63) S (wN rfl) (.inl rfl) rfl rfl (lb rfl) fun a S => ?_
      exact leafL ⟨rfl, S⟩
    · refine fI 73 (iv (w64 (s63 + 1))) [(72, iv s63)] 2 [some 1] rfl rfl rfl rfl rfl rfl fun G a w S => ?_
      refine sBin (iv (w64 (s63 + 1))) S (wN rfl) rfl rfl rfl (bAdd _ _ _ _ s63 1) rfl (lb rfl) fun a S => ?_
      exact leafL ⟨rfl, S⟩
    · refine fI 74 q122 [(71, .slice ad56 s62.length cp57), (73, iv (w64 (s63 + 1)))] 3 [some 0, some 2] rfl rfl rfl rfl rfl rfl fun G a w S => ?_
      refine sIdxV (v := .slice ad56 s62.length cp57) (k := .i64) (j := w64 (s63 + 1)) S (wN rfl) rfl rfl rfl hq123 rfl (lb rfl) fun a S => ?_
      exact leafL ⟨rfl, S⟩
    · refine fI 75 (iv x108) [(74, q122)] 4 [some 3] rfl rfl rfl rfl rfl rfl fun G a w S => ?_
      refine sLoadR (r := (rI .i64)) (T := 3) (xs := s62) (x := x108) (v := .slice ad56 s62.length cp57) (vq := q122) (j := w64 (s63 + 1)) 3 (iv x108) S hp124 (wN rfl) rfl rfl rfl hx109 (fun _ _ _ h => h) (scal_I _) rfl rfl (lb rfl) fun a S => ?_
      exact leafL ⟨rfl, S⟩
    · refine fI 76 (iv (w64 (x108 + 1))) [(75, iv x108)] 5 [some 4] rfl rfl rfl rfl rfl rfl fun G a w S => ?_
      refine sBin (iv (w64 (x108 + 1))) S (wN rfl) rfl rfl rfl (bAdd _ _ _ _ x108 1) rfl (lb rfl) fun a S => ?_
      exact leafL ⟨rfl, S⟩
    · refine fI 77 (.pointer (some ⟨b11, 1, none⟩)) [(3, .pointer (some ⟨b11, 0, none⟩))] 6 [none] rfl rfl rfl rfl rfl rfl fun G a w S => ?_
      refine sField (b := b11) (off := 0) 1 1 S (wN rfl) rfl rfl rfl rfl rfl (lb rfl) fun a S => ?_
      exact leafL ⟨rfl, S⟩
    · refine fI 78 (.slice ad7 p1.Rows.length cp8) [(77, .pointer (some ⟨b11, 1, none⟩))] 7 [some 6] rfl rfl rfl rfl rfl rfl fun G a w S => ?_
      refine sLoad1 (p := b11) (off := 1) (T := 42) (vs := [iv p1.Start, .slice ad7 p1.Rows.length cp8]) 1 (.slice ad7 p1.Rows.length cp8) S (wN rfl) rfl rfl rfl rfl rfl rfl (lb rfl) fun a S => ?_
      exact leafL ⟨rfl, S⟩
    · refine fI 79 (iv s63) [(11, iv s63)] 8 [none] rfl rfl rfl rfl rfl rfl fun G a w S => ?_
      refine sMove (iv s63) S (wN rfl) (.inl rfl) rfl rfl (lb rfl) fun a S => ?_
      exact leafL ⟨rfl, S⟩
    · refine fI 80 q125 [(78, .slice ad7 p1.Rows.length cp8), (79, iv s63)] 9 [some 7, some 8] rfl rfl rfl rfl rfl rfl fun G a w S => ?_
      refine sIdxV (v := .slice ad7 p1.Rows.length cp8) (k := .i64) (j := s63) S (wN rfl) rfl rfl rfl hq126 rfl (lb rfl) fun a S => ?_
      exact leafL ⟨rfl, S⟩
    · refine fI 81 q127 [(80, q125)] 10 [some 9] rfl rfl rfl rfl rfl rfl fun G a w S => ?_
      refine sFldV (q := q125) S (wN rfl) rfl rfl hq128 rfl (lb rfl) fun a S => ?_
      exact leafL ⟨rfl, S⟩
    · refine fI 82 (.slice ad130 x113.Cells.length cp131) [(81, q127)] 11 [some 10] rfl rfl rfl rfl rfl rfl fun G a w S => ?_
      refine sLoadV1 (vq := q127) 0 (.slice ad130 x113.Cells.length cp131) S (wN rfl) rfl rfl rfl rfl rfl (lb rfl) fun a S => ?_
      exact leafL ⟨rfl, S⟩
    · refine fI 83 (iv (x113.Cells.length : Int)) [(82, .slice ad130 x113.Cells.length cp131)] 12 [some 11] rfl rfl rfl rfl rfl rfl fun G a w S => ?_
      refine sLen (ad := ad130) (m := x113.Cells.length) (c := cp131) S (wN rfl) rfl Try.underlying47 rfl rfl (lb rfl) fun a S => ?_
      exact leafL ⟨rfl, S⟩
    · refine fI 84 (iv (w64 ((w64 (x108 + 1)) + (x113.Cells.length : Int)))) [(76, iv (w64 (x108 + 1))), (83, iv (x113.Cells.length : Int))] 13 [some 5, some 12] rfl rfl rfl rfl rfl rfl fun G a w S => ?_
      refine sBin (iv (w64 ((w64 (x108 + 1)) + (x113.Cells.length : Int)))) S (wN rfl) rfl rfl rfl (bAdd _ _ _ _ (w64 (x108 + 1)) (x113.Cells.length : Int)) rfl (lb rfl) fun a S => ?_
      exact leafL ⟨rfl, S⟩
    · refine fI 13 (iv (w64 ((w64 (x108 + 1)) + (x113.Cells.length : Int)))) [(84, iv (w64 ((w64 (x108 + 1)) + (x113.Cells.length : Int))))] 14 [some 13] rfl rfl rfl rfl rfl rfl fun G a w S => ?_
      refine sMove (iv (w64 ((w64 (x108 + 1)) + (x113.Cells.length : Int)))) S (wN rfl) (.inr rfl) rfl rfl (lb rfl) fun a S => ?_
      exact leafL ⟨rfl, S⟩
    refine leafT (hK107 _ _ ?_)
    obtain ⟨t133, h, g134⟩ := bindSome h
    refine sCut (fun a w => ∃ o132, o132 = t133 ∧ St [] E [] w0 142 a w [(2, .pointer (some ⟨b10, 0, none⟩)), (3, .pointer (some ⟨b11, 0, none⟩)), (8, .slice ad38 s37.length cp39), (9, iv s40), (10, .slice ad56 s62.length cp57), (11, iv s63), (12, iv o73), (13, iv (w64 ((w64 (x108 + 1)) + (x113.Cells.length : Int)))), (91, .bool o132)] [eBox b10 42 [iv p0.Start, .slice ad3 p0.Rows.length cp4], eBox b11 42 [iv p1.Start, .slice ad7 p1.Rows.length cp8], eRow (rI .i64) 3 (.slice ad38 s37.length cp39) s37, eRow (rI .i64) 3 (.slice ad56 s62.length cp57) s62] [fRep (rL r_api_Row) (.slice ad3 p0.Rows.length cp4) p0.Rows, fRep (rL r_api_Row) (.slice ad7 p1.Rows.length cp8) p1.Rows]) ?_ (fun a w hI => ?_)
    rotate_left
    · obtain ⟨o132, rfl, S⟩ := hI
      have h := g134
      clear g134
      try dsimp only at h
      rcases iteSome h with ⟨hc136, h⟩ | ⟨hc136, h⟩
      rotate_left
      · refine sCondF S rfl hc136 ?_
        exact wp_skip (leafT (⟨o73, Option.some.inj h, S.fix [0, 1, 2, 3] [0, 1] (by decide) rfl rfl rfl⟩))
      refine sCondT S rfl hc136 ?_
      refine sRegion ?_
      refine sMove (iv (w64 ((w64 (x108 + 1)) + (x113.Cells.length : Int)))) S (wN rfl) (.inl rfl) rfl rfl (lb rfl) fun a S => ?_
      refine sMove (iv (w64 ((w64 (x108 + 1)) + (x113.Cells.length : Int)))) S (wN rfl) (.inr rfl) rfl rfl (lb rfl) fun a S => ?_
      exact leafL (leafT (⟨w64 ((w64 (x108 + 1)) + (x113.Cells.length : Int)), Option.some.inj h, S.fix [0, 1, 2, 3] [0, 1] (by decide) rfl rfl rfl⟩))
    refine sRegion ?_
    refine sMove (iv o73) S (wN rfl) (.inl rfl) rfl rfl (lb rfl) fun a S => ?_
    refine sBin (.bool (decide (o73 < 0))) S (wN rfl) rfl rfl rfl (bLt _ _ _ _ .i64 o73 0) rfl (lb rfl) fun a S => ?_
    refine sMove (.bool (decide (o73 < 0))) S (wN rfl) (.inl rfl) rfl rfl (lb rfl) fun a S => ?_
    rcases iteSome h with ⟨hc135, h⟩ | ⟨hc135, h⟩
    · refine sSkip 2 false 87 88 S rfl rfl rfl hc135 rfl (lb rfl) fun a S => ?_
      refine sSkip 2 false 87 89 S rfl rfl rfl hc135 rfl (lb rfl) fun a S => ?_
      refine sSkip 2 false 87 90 S rfl rfl rfl hc135 rfl (lb rfl) fun a S => ?_
      refine sPickT (.bool true) S (wN rfl) rfl rfl hc135 rfl rfl (lb rfl) fun a S => ?_
      exact leafL (leafT (⟨true, Option.some.inj h, S.fix [0, 1, 2, 3] [4, 5] (by decide) rfl rfl rfl⟩))
    refine sMove (iv (w64 ((w64 (x108 + 1)) + (x113.Cells.length : Int)))) S (wG 2 false 87 rfl rfl rfl hc135) (.inl rfl) rfl rfl (lb rfl) fun a S => ?_
    refine sMove (iv o73) S (wG 2 false 87 rfl rfl rfl hc135) (.inl rfl) rfl rfl (lb rfl) fun a S => ?_
    refine sBin (.bool (decide ((w64 ((w64 (x108 + 1)) + (x113.Cells.length : Int))) < o73))) S (wG 2 false 87 rfl rfl rfl hc135) rfl rfl rfl (bLt _ _ _ _ .i64 (w64 ((w64 (x108 + 1)) + (x113.Cells.length : Int))) o73) rfl (lb rfl) fun a S => ?_
    refine sPickF (.bool (decide ((w64 ((w64 (x108 + 1)) + (x113.Cells.length : Int))) < o73))) S (wN rfl) rfl rfl hc135 rfl rfl (lb rfl) fun a S => ?_
    exact leafL (leafT (⟨decide ((w64 ((w64 (x108 + 1)) + (x113.Cells.length : Int))) < o73), Option.some.inj h, S.fix [0, 1, 2, 3] [4, 5] (by decide) rfl rfl rfl⟩))
  obtain ⟨o102, rfl, S⟩ := hI
  have h := g104
  clear g104
  try dsimp only at h
  obtain ⟨t138, h, g139⟩ := bindSome h
  refine sCut (fun a w => ∃ o137, o137 = t138 ∧ St [] E [] w0 142 a w [(2, .pointer (some ⟨b10, 0, none⟩)), (3, .pointer (some ⟨b11, 0, none⟩)), (8, .slice ad38 s37.length cp39), (9, iv s40), (10, .slice ad56 s62.length cp57), (11, iv s63), (12, iv o137)] [eBox b10 42 [iv p0.Start, .slice ad3 p0.Rows.length cp4], eBox b11 42 [iv p1.Start, .slice ad7 p1.Rows.length cp8], eRow (rI .i64) 3 (.slice ad38 s37.length cp39) s37, eRow (rI .i64) 3 (.slice ad56 s62.length cp57) s62] [fRep (rL r_api_Row) (.slice ad3 p0.Rows.length cp4) p0.Rows, fRep (rL r_api_Row) (.slice ad7 p1.Rows.length cp8) p1.Rows]) ?_ (fun a w hI => ?_)
  rotate_left
  · obtain ⟨o137, rfl, S⟩ := hI
    have h := g139
    clear g139
    try dsimp only at h
    refine sRegion ?_
    refine sMove (.slice ad56 s62.length cp57) S (wN rfl) (.inl rfl) rfl rfl (lb rfl) fun a S => ?_
    refine sMove (iv s63) S (wN rfl) (.inl rfl) rfl rfl (lb rfl) fun a S => ?_
    refine sMove (iv o137) S (wN rfl) (.inl rfl) rfl rfl (lb rfl) fun a S => ?_
    refine sMax2 (p := o137) (q := 0) S (wN rfl) rfl rfl rfl rfl (lb rfl) fun a S => ?_
    obtain ⟨x187, hx188, h⟩ := bindSome h
    obtain ⟨q189, hq190, hp191⟩ := pIdxR (P := Try.prog) (r := (rI .i64)) (T := 3) (v := .slice ad56 s62.length cp57) (xs := s62) (j := s63) 101 3 3 S Try.underlying101 rfl rfl hx188
    refine sIdxV (v := .slice ad56 s62.length cp57) (k := .i64) (j := s63) S (wN rfl) rfl rfl rfl hq190 rfl (lb rfl) fun a S => ?_
    obtain ⟨l192, hx193, h⟩ := bindSome h
    refine sStoreR (r := (rI .i64)) (T := 3) (xs := s62) (ys := l192) (y := (if o137 < 0 then 0 else o137)) (v := .slice ad56 s62.length cp57) (vq := q189) (u := iv (if o137 < 0 then 0 else o137)) (j := s63) 3 S hp191 (wN rfl) rfl rfl rfl rfl rfl hx193 rfl rfl fun a w S => ?_
    rw [setO_v hx193 ad56 cp57] at S
    refine leafL (leafB (leafT (hK71 _ _ ?_)))
    refine sRegion ?_
    refine sMove (iv s63) S (wN rfl) (.inl rfl) rfl rfl (lb rfl) fun a S => ?_
    refine sBin (iv (w64 (s63 - 1))) S (wN rfl) rfl rfl rfl (bSub _ _ _ _ s63 1) rfl (lb rfl) fun a S => ?_
    refine sMove (iv (w64 (s63 - 1))) S (wN rfl) (.inr rfl) rfl rfl (lb rfl) fun a S => ?_
    exact leafL (leafT (⟨(l192, w64 (s63 - 1)), (Option.some.inj h).symm, (S.fix [1, 2, 3, 0] [0, 1] (by decide) rfl rfl rfl)⟩))
  obtain ⟨t141, h, g142⟩ := bindSome h
  refine sCut (fun a w => ∃ o140, o140 = t141 ∧ St [] E [] w0 142 a w [(2, .pointer (some ⟨b10, 0, none⟩)), (3, .pointer (some ⟨b11, 0, none⟩)), (8, .slice ad38 s37.length cp39), (9, iv s40), (10, .slice ad56 s62.length cp57), (11, iv s63), (12, iv o102), (104, .bool o140)] [eBox b10 42 [iv p0.Start, .slice ad3 p0.Rows.length cp4], eBox b11 42 [iv p1.Start, .slice ad7 p1.Rows.length cp8], eRow (rI .i64) 3 (.slice ad38 s37.length cp39) s37, eRow (rI .i64) 3 (.slice ad56 s62.length cp57) s62] [fRep (rL r_api_Row) (.slice ad3 p0.Rows.length cp4) p0.Rows, fRep (rL r_api_Row) (.slice ad7 p1.Rows.length cp8) p1.Rows]) ?_ (fun a w hI => ?_)
  · refine sRegion ?_
    refine sMove (iv s40) S (wN rfl) (.inl rfl) rfl rfl (lb rfl) fun a S => ?_
    refine sField (b := b10) (off := 0) 1 1 S (wN rfl) rfl rfl rfl rfl rfl (lb rfl) fun a S => ?_
    refine sLoad1 (p := b10) (off := 1) (T := 42) (vs := [iv p0.Start, .slice ad3 p0.Rows.length cp4]) 0 (.slice ad3 p0.Rows.length cp4) S (wN rfl) rfl rfl rfl rfl rfl rfl (lb rfl) fun a S => ?_
    refine sLen (ad := ad3) (m := p0.Rows.length) (c := cp4) S (wN rfl) rfl Try.underlying40 rfl rfl (lb rfl) fun a S => ?_
    refine sBin (.bool (decide (s40 < (p0.Rows.length : Int)))) S (wN rfl) rfl rfl rfl (bLt _ _ _ _ .i64 s40 (p0.Rows.length : Int)) rfl (lb rfl) fun a S => ?_
    refine sMove (.bool (decide (s40 < (p0.Rows.length : Int)))) S (wN rfl) (.inl rfl) rfl rfl (lb rfl) fun a S => ?_
    rcases iteSome h with ⟨hc143, h⟩ | ⟨hc143, h⟩
    rotate_left
    · refine sSkip 5 true 98 99 S rfl rfl rfl hc143 rfl (lb rfl) fun a S => ?_
      refine sSkip 5 true 98 100 S rfl rfl rfl hc143 rfl (lb rfl) fun a S => ?_
      refine sSkip 5 true 98 101 S rfl rfl rfl hc143 rfl (lb rfl) fun a S => ?_
      refine sSkip 5 true 98 102 S rfl rfl rfl hc143 rfl (lb rfl) fun a S => ?_
      refine sSkip 5 true 98 103 S rfl rfl rfl hc143 rfl (lb rfl) fun a S => ?_
      refine sPickF (.bool false) S (wN rfl) rfl rfl hc143 rfl rfl (lb rfl) fun a S => ?_
      exact leafL (leafT (⟨false, Option.some.inj h, S.fix [0, 1, 2, 3] [0, 1] (by decide) rfl rfl rfl⟩))
    refine sMove (iv s63) S (wG 5 true 98 rfl rfl rfl hc143) (.inl rfl) rfl rfl (lb rfl) fun a S => ?_
    refine sField (b := b11) (off := 0) 1 1 S (wG 5 true 98 rfl rfl rfl hc143) rfl rfl rfl rfl rfl (lb rfl) fun a S => ?_
    refine sLoad1 (p := b11) (off := 1) (T := 42) (vs := [iv p1.Start, .slice ad7 p1.Rows.length cp8]) 1 (.slice ad7 p1.Rows.length cp8) S (wG 5 true 98 rfl rfl rfl hc143) rfl rfl rfl rfl rfl rfl (lb rfl) fun a S => ?_
    refine sLen (ad := ad7) (m := p1.Rows.length) (c := cp8) S (wG 5 true 98 rfl rfl rfl hc143) rfl Try.underlying40 rfl rfl (lb rfl) fun a S => ?_
    refine sBin (.bool (decide (s63 < (p1.Rows.length : Int)))) S (wG 5 true 98 rfl rfl rfl hc143) rfl rfl rfl (bLt _ _ _ _ .i64 s63 (p1.Rows.length : Int)) rfl (lb rfl) fun a S => ?_
    refine sPickT (.bool (decide (s63 < (p1.Rows.length : Int)))) S (wN rfl) rfl rfl hc143 rfl rfl (lb rfl) fun a S => ?_
    exact leafL (leafT (⟨decide (s63 < (p1.Rows.length : Int)), Option.some.inj h, S.fix [0, 1, 2, 3] [0, 1] (by decide) rfl rfl rfl⟩))
  obtain ⟨o140, rfl, S⟩ := hI
  have h := g142
  clear g142
  try dsimp only at h
  rcases iteSome h with ⟨hc144, h⟩ | ⟨hc144, h⟩
  rotate_left
  · refine sCondF S rfl hc144 ?_
    exact wp_skip (leafT (⟨o102, Option.some.inj h, S.fix [0, 1, 2, 3] [0, 1] (by decide) rfl rfl rfl⟩))
  refine sCondT S rfl hc144 ?_
  obtain ⟨x145, hx146, h⟩ := bindSome h
  obtain ⟨x150, hx151, h⟩ := bindSome h
  obtain ⟨x159, hx160, h⟩ := bindSome h
  obtain ⟨r168, hx169, h⟩ := bindSome h
  obtain ⟨q170, hq171, hp172⟩ := pIdxR (P := Try.prog) (r := (rI .i64)) (T := 3) (v := .slice ad38 s37.length cp39) (xs := s37) (j := w64 (s63 + 1)) 101 3 2 S Try.underlying101 rfl rfl hx146
  obtain ⟨q173, hq174, S⟩ := pIdx (P := Try.prog) (r := r_api_Row) (v := .slice ad3 p0.Rows.length cp4) (xs := p0.Rows) (j := s40) 40 87 0 S Try.underlying40 rfl rfl hx151
  obtain ⟨u175, S⟩ := pLoad (r := r_api_Row) (q := q173) (x := x150) 0 S rfl
  obtain ⟨u176, rfl, hu177⟩ := S.mem.know (i := 1) (e := fRep r_api_Row (u175) x150) rfl
  have S := S.learn (fRep (rL r_api_Stitch) u176 x150.Cells) hu177
  obtain ⟨ad178, cp179, _, rfl, _⟩ := hu177
  obtain ⟨q180, hq181, S⟩ := pIdx (P := Try.prog) (r := r_api_Row) (v := .slice ad7 p1.Rows.length cp8) (xs := p1.Rows) (j := s63) 40 87 5 S Try.underlying40 rfl rfl hx160
  obtain ⟨u182, S⟩ := pLoad (r := r_api_Row) (q := q180) (x := x159) 0 S rfl
  obtain ⟨u183, rfl, hu184⟩ := S.mem.know (i := 1) (e := fRep r_api_Row (u182) x159) rfl
  have S := S.learn (fRep (rL r_api_Stitch) u183 x159.Cells) hu184
  obtain ⟨ad185, cp186, _, rfl, _⟩ := hu184
  refine sDraw (nf := []) (W := [(0, 105, iv o102), (1, 106, .slice ad38 s37.length cp39), (2, 107, iv s63), (3, 108, iv (w64 (s63 + 1))), (4, 109, q170), (5, 110, iv x145), (6, 111, .pointer (some ⟨b10, 1, none⟩)), (7, 112, .slice ad3 p0.Rows.length cp4), (8, 113, iv s40), (9, 114, q173), (10, 115, .agg #[.bool x150.Back, .slice ad178 x150.Cells.length cp179]), (11, 116, .pointer (some ⟨b11, 1, none⟩)), (12, 117, .slice ad7 p1.Rows.length cp8), (13, 118, iv s63), (14, 119, q180), (15, 120, .agg #[.bool x159.Back, .slice ad185 x159.Cells.length cp186]), (16, 121, iv r168), (17, 122, iv (w64 (x145 + r168))), (18, 123, iv (if (w64 (x145 + r168)) < o102 then w64 (x145 + r168) else o102)), (19, 12, iv (if (w64 (x145 + r168)) < o102 then w64 (x145 + r168) else o102))]) rfl S ?_
  refine node_by (A := anc_raddleref46_Charts_2) (nf := []) (Y := []) (W := [(0, 105, iv o102), (1, 106, .slice ad38 s37.length cp39), (2, 107, iv s63), (3, 108, iv (w64 (s63 + 1))), (4, 109, q170), (5, 110, iv x145), (6, 111, .pointer (some ⟨b10, 1, none⟩)), (7, 112, .slice ad3 p0.Rows.length cp4), (8, 113, iv s40), (9, 114, q173), (10, 115, .agg #[.bool x150.Back, .slice ad178 x150.Cells.length cp179]), (11, 116, .pointer (some ⟨b11, 1, none⟩)), (12, 117, .slice ad7 p1.Rows.length cp8), (13, 118, iv s63), (14, 119, q180), (15, 120, .agg #[.bool x159.Back, .slice ad185 x159.Cells.length cp186]), (16, 121, iv r168), (17, 122, iv (w64 (x145 + r168))), (18, 123, iv (if (w64 (x145 + r168)) < o102 then w64 (x145 + r168) else o102)), (19, 12, iv (if (w64 (x145 + r168)) < o102 then w64 (x145 + r168) else o102))]) 20 (by kernel_rfl) (by kernel_rfl) (by kernel_rfl) (by kernel_rfl) (by kernel_rfl) [0, 1, 2, 3, 4, 5, 6, 7, 8, 9, 10, 11, 12, 13, 14, 15, 16, 17, 18, 19] (by kernel_rfl) (by decide) (by decide) (aF 0 19 (by decide) ?_ (aF 1 18 (by decide) ?_ (aF 2 17 (by decide) ?_ (aF 3 16 (by decide) ?_ (aF 4 15 (by decide) ?_ (aF 5 14 (by decide) ?_ (aF 6 13 (by decide) ?_ (aF 7 12 (by decide) ?_ (aF 8 11 (by decide) ?_ (aF 9 10 (by decide) ?_ (aF 10 9 (by decide) ?_ (aF 11 8 (by decide) ?_ (aF 12 7 (by decide) ?_ (aF 13 6 (by decide) ?_ (aF 14 5 (by decide) ?_ (aF 15 4 (by decide) ?_ (aF 16 3 (by decide) ?_ (aF 17 2 (by decide) ?_ (aF 18 1 (by decide) ?_ (aF 19 0 (by decide) ?_ (trivial))))))))))))))))))))) [(2, .pointer (some ⟨b10, 0, none⟩)), (3, .pointer (some ⟨b11, 0, none⟩)), (8, .slice ad38 s37.length cp39), (9, iv s40), (10, .slice ad56 s62.length cp57), (11, iv s63), (12, iv (if (w64 (x145 + r168)) < o102 then w64 (x145 + r168) else o102))] (fin_of [none, none, none, none, none, none, some 19] rfl (by kernel_rfl) (by kernel_rfl)) (fun _ a w S => ?_)
  · refine fI 105 (iv o102) [(12, iv o102)] 0 [none] rfl rfl rfl rfl rfl rfl fun G a w S => ?_
    refine sMove (iv o102) S (wN rfl) (.inl rfl) rfl rfl (lb rfl) fun a S => ?_
    exact leafL ⟨rfl, S⟩
  · refine fI 106 (.slice ad38 s37.length cp39) [(8, .slice ad38 s37.length cp39)] 1 [none] rfl rfl rfl rfl rfl rfl fun G a w S => ?_
    refine sMove (.slice ad38 s37.length cp39) S (wN rfl) (.inl rfl) rfl rfl (lb rfl) fun a S => ?_
    exact leafL ⟨rfl, S⟩
  · refine fI 107 (iv s63) [(11, iv s63)] 2 [none] rfl rfl rfl rfl rfl rfl fun G a w S => ?_
    refine sMove (iv s63) S (wN rfl) (.inl rfl) rfl rfl (lb rfl) fun a S => ?_
    exact leafL ⟨rfl, S⟩
  · refine fI 108 (iv (w64 (s63 + 1))) [(107, iv s63)] 3 [some 2] rfl rfl rfl rfl rfl rfl fun G a w S => ?_
    refine sBin (iv (w64 (s63 + 1))) S (wN rfl) rfl rfl rfl (bAdd _ _ _ _ s63 1) rfl (lb rfl) fun a S => ?_
    exact leafL ⟨rfl, S⟩
  · refine fI 109 q170 [(106, .slice ad38 s37.length cp39), (108, iv (w64 (s63 + 1)))] 4 [some 1, some 3] rfl rfl rfl rfl rfl rfl fun G a w S => ?_
    refine sIdxV (v := .slice ad38 s37.length cp39) (k := .i64) (j := w64 (s63 + 1)) S (wN rfl) rfl rfl rfl hq171 rfl (lb rfl) fun a S => ?_
    exact leafL ⟨rfl, S⟩
  · refine fI 110 (iv x145) [(109, q170)] 5 [some 4] rfl rfl rfl rfl rfl rfl fun G a w S => ?_
    refine sLoadR (r := (rI .i64)) (T := 3) (xs := s37) (x := x145) (v := .slice ad38 s37.length cp39) (vq := q170) (j := w64 (s63 + 1)) 2 (iv x145) S hp172 (wN rfl) rfl rfl rfl hx146 (fun _ _ _ h => h) (scal_I _) rfl rfl (lb rfl) fun a S => ?_
    exact leafL ⟨rfl, S⟩
  · refine fI 111 (.pointer (some ⟨b10, 1, none⟩)) [(2, .pointer (some ⟨b10, 0, none⟩))] 6 [none] rfl rfl rfl rfl rfl rfl fun G a w S => ?_
    refine sField (b := b10) (off := 0) 1 1 S (wN rfl) rfl rfl rfl rfl rfl (lb rfl) fun a S => ?_
    exact leafL ⟨rfl, S⟩
  · refine fI 112 (.slice ad3 p0.Rows.length cp4) [(111, .pointer (some ⟨b10, 1, none⟩))] 7 [some 6] rfl rfl rfl rfl rfl rfl fun G a w S => ?_
    refine sLoad1 (p := b10) (off := 1) (T := 42) (vs := [iv p0.Start, .slice ad3 p0.Rows.length cp4]) 0 (.slice ad3 p0.Rows.length cp4) S (wN rfl) rfl rfl rfl rfl rfl rfl (lb rfl) fun a S => ?_
    exact leafL ⟨rfl, S⟩
  · refine fI 113 (iv s40) [(9, iv s40)] 8 [none] rfl rfl rfl rfl rfl rfl fun G a w S => ?_
    refine sMove (iv s40) S (wN rfl) (.inl rfl) rfl rfl (lb rfl) fun a S => ?_
    exact leafL ⟨rfl, S⟩
  · refine fI 114 q173 [(112, .slice ad3 p0.Rows.length cp4), (113, iv s40)] 9 [some 7, some 8] rfl rfl rfl rfl rfl rfl fun G a w S => ?_
    refine sIdxV (v := .slice ad3 p0.Rows.length cp4) (k := .i64) (j := s40) S (wN rfl) rfl rfl rfl hq174 rfl (lb rfl) fun a S => ?_
    exact leafL ⟨rfl, S⟩
  · refine fI 115 (.agg #[.bool x150.Back, .slice ad178 x150.Cells.length cp179]) [(114, q173)] 10 [some 9] rfl rfl rfl rfl rfl rfl fun G a w S => ?_
    refine sLoadVN (vq := q173) 5 [.bool x150.Back, .slice ad178 x150.Cells.length cp179] S (wN rfl) rfl rfl rfl rfl rfl rfl (lb rfl) fun a S => ?_
    exact leafL ⟨rfl, S⟩
  · refine fI 116 (.pointer (some ⟨b11, 1, none⟩)) [(3, .pointer (some ⟨b11, 0, none⟩))] 11 [none] rfl rfl rfl rfl rfl rfl fun G a w S => ?_
    refine sField (b := b11) (off := 0) 1 1 S (wN rfl) rfl rfl rfl rfl rfl (lb rfl) fun a S => ?_
    exact leafL ⟨rfl, S⟩
  · refine fI 117 (.slice ad7 p1.Rows.length cp8) [(116, .pointer (some ⟨b11, 1, none⟩))] 12 [some 11] rfl rfl rfl rfl rfl rfl fun G a w S => ?_
    refine sLoad1 (p := b11) (off := 1) (T := 42) (vs := [iv p1.Start, .slice ad7 p1.Rows.length cp8]) 1 (.slice ad7 p1.Rows.length cp8) S (wN rfl) rfl rfl rfl rfl rfl rfl (lb rfl) fun a S => ?_
    exact leafL ⟨rfl, S⟩
  · refine fI 118 (iv s63) [(11, iv s63)] 13 [none] rfl rfl rfl rfl rfl rfl fun G a w S => ?_
    refine sMove (iv s63) S (wN rfl) (.inl rfl) rfl rfl (lb rfl) fun a S => ?_
    exact leafL ⟨rfl, S⟩
  · refine fI 119 q180 [(117, .slice ad7 p1.Rows.length cp8), (118, iv s63)] 14 [some 12, some 13] rfl rfl rfl rfl rfl rfl fun G a w S => ?_
    refine sIdxV (v := .slice ad7 p1.Rows.length cp8) (k := .i64) (j := s63) S (wN rfl) rfl rfl rfl hq181 rfl (lb rfl) fun a S => ?_
    exact leafL ⟨rfl, S⟩
  · refine fI 120 (.agg #[.bool x159.Back, .slice ad185 x159.Cells.length cp186]) [(119, q180)] 15 [some 14] rfl rfl rfl rfl rfl rfl fun G a w S => ?_
    refine sLoadVN (vq := q180) 1 [.bool x159.Back, .slice ad185 x159.Cells.length cp186] S (wN rfl) rfl rfl rfl rfl rfl rfl (lb rfl) fun a S => ?_
    exact leafL ⟨rfl, S⟩
  · refine fI 121 (iv r168) [(115, .agg #[.bool x150.Back, .slice ad178 x150.Cells.length cp179]), (120, .agg #[.bool x159.Back, .slice ad185 x159.Cells.length cp186])] 16 [some 10, some 15] rfl rfl rfl rfl rfl rfl fun G a w S => ?_
    have S1 := S.mem
    refine sCallQ (X := Unit) (f := 55) (vs := [.agg #[.bool x150.Back, .slice ad178 x150.Cells.length cp179], .agg #[.bool x159.Back, .slice ad185 x159.Cells.length cp186]]) (val := fun _ => iv r168) S (wN rfl) rfl callee55 rfl (S1.quiet [6, 2] rfl) (fun E1 w1 S1 => c_raddleref46_beside E1 w1 x150 (.agg #[.bool x150.Back, .slice ad178 x150.Cells.length cp179]) x159 (.agg #[.bool x159.Back, .slice ad185 x159.Cells.length cp186]) r168 hx169 S1) rfl (lb rfl) fun _ a w S => ?_
    exact leafL ⟨rfl, S⟩
  · refine fI 122 (iv (w64 (x145 + r168))) [(110, iv x145), (121, iv r168)] 17 [some 5, some 16] rfl rfl rfl rfl rfl rfl fun G a w S => ?_
    refine sBin (iv (w64 (x145 + r168))) S (wN rfl) rfl rfl rfl (bAdd _ _ _ _ x145 r168) rfl (lb rfl) fun a S => ?_
    exact leafL ⟨rfl, S⟩
  · refine fI 123 (iv (if (w64 (x145 + r168)) < o102 then w64 (x145 + r168) else o102)) [(105, iv o102), (122, iv (w64 (x145 + r168)))] 18 [some 0, some 17] rfl rfl rfl rfl rfl rfl fun G a w S => ?_
    refine sMin2 (p := o102) (q := w64 (x145 + r168)) S (wN rfl) rfl rfl rfl rfl (lb rfl) fun a S => ?_
    exact leafL ⟨rfl, S⟩
  · refine fI 12 (iv (if (w64 (x145 + r168)) < o102 then w64 (x145 + r168) else o102)) [(123, iv (if (w64 (x145 + r168)) < o102 then w64 (x145 + r168) else o102))] 19 [some 18] rfl rfl rfl rfl rfl rfl fun G a w S => ?_
    refine sMove (iv (if (w64 (x145 + r168)) < o102 then w64 (x145 + r168) else o102)) S (wN rfl) (.inr rfl) rfl rfl (lb rfl) fun a S => ?_
    exact leafL ⟨rfl, S⟩
  exact leafT (⟨if (w64 (x145 + r168)) < o102 then w64 (x145 + r168) else o102, Option.some.inj h, S.fix [0, 1, 2, 3] [8, 9] (by decide) rfl rfl rfl⟩)

end Go.Proofs.Ytffikfajljbmnaa
namespace Go.Proofs.Ytffikfajljbmnaa
open Go.RowKit
set_option linter.unusedVariables false

noncomputable def F_raddlelaw46_CompareCharts (p0 : api_Chart) (p1 : api_Chart) : Option Bool :=
  Option.bind (α := Bool) (
    Option.bind (F_raddleref46_GreatChart p0) fun r16 =>
    if r16 then
      some true
    else
      Option.bind (F_raddleref46_GreatChart p1) fun r19 =>
      some r19) fun o13 =>
  if o13 then
    some true
  else
    Option.bind (F_compare_Charts p0 p1) fun r24 =>
    Option.bind (F_raddleref46_Charts p0 p1) fun r27 =>
    Option.bind (α := Bool) (
      if r24.1 == r27.1 then
        some (r24.2 == r27.2)
      else
        some false) fun o29 =>
    some o29
set_option maxHeartbeats 4000000 in
set_option maxRecDepth 100000 in
theorem c_raddlelaw46_CompareCharts (E : Nat → Prop) (w0 : World) (p0 : api_Chart) (v0 : Value) (p1 : api_Chart) (v1 : Value) (r : Bool) (h : F_raddlelaw46_CompareCharts p0 p1 = some r) (S : St0 E [] w0 w0 [] [fRep r_api_Chart (v0) p0, fRep r_api_Chart (v1) p1]) :
    Calls Try.prog 4 #[v0, v1] w0 (Ret (X := Unit) E [] w0 (fun _ => .bool r) (fun _ => []) (fun _ => [])) := by
  unfold F_raddlelaw46_CompareCharts at h
  obtain ⟨u1, rfl, hu2⟩ := S.know (i := 0) (e := fRep r_api_Chart (v0) p0) rfl
  have S := S.learn (fRep (rL r_api_Row) u1 p0.Rows) hu2
  obtain ⟨ad3, cp4, _, rfl, _⟩ := hu2
  obtain ⟨u5, rfl, hu6⟩ := S.know (i := 2) (e := fRep r_api_Chart (v1) p1) rfl
  have S := S.learn (fRep (rL r_api_Row) u5 p1.Rows) hu6
  obtain ⟨ad7, cp8, _, rfl, _⟩ := hu6
  refine sEnter (args := [.agg #[iv p0.Start, .slice ad3 p0.Rows.length cp4], .agg #[iv p1.Start, .slice ad7 p1.Rows.length cp8]]) 35 Try.func4 rfl rfl (by simp) S (fun a S => ?_)
  refine sSeq (fun K9 hK9 => ?_)
  refine sRegion ?_
  refine sBox (v := .agg #[iv p0.Start, .slice ad3 p0.Rows.length cp4]) S (wN rfl) rfl rfl [iv p0.Start, .slice ad3 p0.Rows.length cp4] rfl rfl (lb rfl) fun a b10 w S => ?_
  refine sBox (v := .agg #[iv p1.Start, .slice ad7 p1.Rows.length cp8]) S (wN rfl) rfl rfl [iv p1.Start, .slice ad7 p1.Rows.length cp8] rfl rfl (lb rfl) fun a b11 w S => ?_
  refine sMove (.bool false) S (wN rfl) (.inr rfl) rfl rfl (lb rfl) fun a S => ?_
  refine leafL (leafT (hK9 _ _ ?_))
  refine sSeq (fun K12 hK12 => ?_)
  obtain ⟨t14, h, g15⟩ := bindSome h
  refine sCut (fun a w => ∃ o13, o13 = t14 ∧ St [] E [] w0 35 a w [(2, .pointer (some ⟨b10, 0, none⟩)), (3, .pointer (some ⟨b11, 0, none⟩)), (14, .bool o13)] [eBox b10 42 [iv p0.Start, .slice ad3 p0.Rows.length cp4], eBox b11 42 [iv p1.Start, .slice ad7 p1.Rows.length cp8]] [fRep (rL r_api_Row) (.slice ad3 p0.Rows.length cp4) p0.Rows, fRep (rL r_api_Row) (.slice ad7 p1.Rows.length cp8) p1.Rows]) ?_ (fun a w hI => ?_)
  · refine sRegion ?_
    refine sLoadN (p := b10) (off := 0) (T := 42) (vs := [iv p0.Start, .slice ad3 p0.Rows.length cp4]) 1 [iv p0.Start, .slice ad3 p0.Rows.length cp4] S (wN rfl) rfl rfl rfl rfl rfl rfl rfl (lb rfl) fun a S => ?_
    obtain ⟨r16, hx17, h⟩ := bindSome h
    have S1 := S.mem
    refine sCallQ (X := Unit) (f := 19) (vs := [.agg #[iv p0.Start, .slice ad3 p0.Rows.length cp4]]) (val := fun _ => .bool r16) S (wN rfl) rfl callee19 rfl (S1.quiet [2] rfl) (fun E1 w1 S1 => c_raddleref46_GreatChart E1 w1 p0 (.agg #[iv p0.Start, .slice ad3 p0.Rows.length cp4]) r16 hx17 S1) rfl (lb rfl) fun _ a w S => ?_
    refine sMove (.bool r16) S (wN rfl) (.inl rfl) rfl rfl (lb rfl) fun a S => ?_
    rcases iteSome h with ⟨hc18, h⟩ | ⟨hc18, h⟩
    · refine sSkip 2 false 11 12 S rfl rfl rfl hc18 rfl (lb rfl) fun a S => ?_
      refine sSkip 2 false 11 13 S rfl rfl rfl hc18 rfl (lb rfl) fun a S => ?_
      refine sPickT (.bool true) S (wN rfl) rfl rfl hc18 rfl rfl (lb rfl) fun a S => ?_
      exact leafL (leafT (⟨true, Option.some.inj h, S.fix [1, 0] [1, 0] (by decide) rfl rfl rfl⟩))
    refine sLoadN (p := b11) (off := 0) (T := 42) (vs := [iv p1.Start, .slice ad7 p1.Rows.length cp8]) 0 [iv p1.Start, .slice ad7 p1.Rows.length cp8] S (wG 2 false 11 rfl rfl rfl hc18) rfl rfl rfl rfl rfl rfl rfl (lb rfl) fun a S => ?_
    obtain ⟨r19, hx20, h⟩ := bindSome h
    have S1 := S.mem
    refine sCallQ (X := Unit) (f := 19) (vs := [.agg #[iv p1.Start, .slice ad7 p1.Rows.length cp8]]) (val := fun _ => .bool r19) S (wG 2 false 11 rfl rfl rfl hc18) rfl callee19 rfl (S1.quiet [3] rfl) (fun E1 w1 S1 => c_raddleref46_GreatChart E1 w1 p1 (.agg #[iv p1.Start, .slice ad7 p1.Rows.length cp8]) r19 hx20 S1) rfl (lb rfl) fun _ a w S => ?_
    refine sPickF (.bool r19) S (wN rfl) rfl rfl hc18 rfl rfl (lb rfl) fun a S => ?_
    exact leafL (leafT (⟨r19, Option.some.inj h, S.fix [1, 0] [1, 0] (by decide) rfl rfl rfl⟩))
  obtain ⟨o13, rfl, S⟩ := hI
  have h := g15
  clear g15
  try dsimp only at h
  rcases iteSome h with ⟨hc21, h⟩ | ⟨hc21, h⟩
  · refine sCondT S rfl hc21 ?_
    refine sSeq (fun K22 hK22 => ?_)
    refine sRegion ?_
    refine sMove (.bool true) S (wN rfl) (.inr rfl) rfl rfl (lb rfl) fun a S => ?_
    refine leafL (leafT (hK22 _ _ ?_))
    obtain rfl := Option.some.inj h
    exact wp_ret (rThen (sRet (.bool true) S (rsl1 rfl (rvT (t := 4) (v := .bool true) S rfl)) ⟨(), rfl, S.mem.sel [] [] (by decide) rfl rfl⟩))
  refine sCondF S rfl hc21 ?_
  refine wp_skip (leafT (hK12 _ _ ?_))
  refine sSeq (fun K23 hK23 => ?_)
  refine sRegion ?_
  refine sLoadN (p := b10) (off := 0) (T := 42) (vs := [iv p0.Start, .slice ad3 p0.Rows.length cp4]) 0 [iv p0.Start, .slice ad3 p0.Rows.length cp4] S (wN rfl) rfl rfl rfl rfl rfl rfl rfl (lb rfl) fun a S => ?_
  refine sLoadN (p := b11) (off := 0) (T := 42) (vs := [iv p1.Start, .slice ad7 p1.Rows.length cp8]) 1 [iv p1.Start, .slice ad7 p1.Rows.length cp8] S (wN rfl) rfl rfl rfl rfl rfl rfl rfl (lb rfl) fun a S => ?_
  obtain ⟨r24, hx25, h⟩ := bindSome h
  have S1 := S.mem
  have S1 := S1.learn (fRep r_api_Chart (.agg #[iv p0.Start, .slice ad3 p0.Rows.length cp4]) p0) ⟨_, rfl, S1.know (i := 0) (e := fRep (rL r_api_Row) (.slice ad3 p0.Rows.length cp4) p0.Rows) rfl⟩
  have S1 := S1.learn (fRep r_api_Chart (.agg #[iv p1.Start, .slice ad7 p1.Rows.length cp8]) p1) ⟨_, rfl, S1.know (i := 2) (e := fRep (rL r_api_Row) (.slice ad7 p1.Rows.length cp8) p1.Rows) rfl⟩
  refine sCallQ (X := Unit) (f := 20) (vs := [.agg #[iv p0.Start, .slice ad3 p0.Rows.length cp4], .agg #[iv p1.Start, .slice ad7 p1.Rows.length cp8]]) (val := fun _ => .tuple #[iv r24.1, iv r24.2]) S (wN rfl) rfl callee20 rfl (S1.quiet [1, 0] rfl) (fun E1 w1 S1 => c_compare_Charts E1 w1 p0 (.agg #[iv p0.Start, .slice ad3 p0.Rows.length cp4]) p1 (.agg #[iv p1.Start, .slice ad7 p1.Rows.length cp8]) r24 hx25 S1) rfl (lb rfl) fun _ a w S => ?_
  refine sMove (.tuple #[iv r24.1, iv r24.2]) S (wN rfl) (.inl rfl) rfl rfl (lb rfl) fun a S => ?_
  refine sExtract (vs := [iv r24.1, iv r24.2]) (iv r24.1) S (wN rfl) rfl rfl rfl rfl (lb rfl) fun a S => ?_
  refine sExtract (vs := [iv r24.1, iv r24.2]) (iv r24.2) S (wN rfl) rfl rfl rfl rfl (lb rfl) fun a S => ?_
  refine sMove (iv r24.1) S (wN rfl) (.inr rfl) rfl rfl (lb rfl) fun a S => ?_
  refine sMove (iv r24.2) S (wN rfl) (.inr rfl) rfl rfl (lb rfl) fun a S => ?_
  refine leafL (leafT (hK23 _ _ ?_))
  refine sSeq (fun K26 hK26 => ?_)
  refine sRegion ?_
  refine sLoadN (p := b10) (off := 0) (T := 42) (vs := [iv p0.Start, .slice ad3 p0.Rows.length cp4]) 0 [iv p0.Start, .slice ad3 p0.Rows.length cp4] S (wN rfl) rfl rfl rfl rfl rfl rfl rfl (lb rfl) fun a S => ?_
  refine sLoadN (p := b11) (off := 0) (T := 42) (vs := [iv p1.Start, .slice ad7 p1.Rows.length cp8]) 1 [iv p1.Start, .slice ad7 p1.Rows.length cp8] S (wN rfl) rfl rfl rfl rfl rfl rfl rfl (lb rfl) fun a S => ?_
  obtain ⟨r27, hx28, h⟩ := bindSome h
  have S1 := S.mem
  have S1 := S1.learn (fRep r_api_Chart (.agg #[iv p0.Start, .slice ad3 p0.Rows.length cp4]) p0) ⟨_, rfl, S1.know (i := 0) (e := fRep (rL r_api_Row) (.slice ad3 p0.Rows.length cp4) p0.Rows) rfl⟩
  have S1 := S1.learn (fRep r_api_Chart (.agg #[iv p1.Start, .slice ad7 p1.Rows.length cp8]) p1) ⟨_, rfl, S1.know (i := 2) (e := fRep (rL r_api_Row) (.slice ad7 p1.Rows.length cp8) p1.Rows) rfl⟩
  refine sCallQ (X := Unit) (f := 21) (vs := [.agg #[iv p0.Start, .slice ad3 p0.Rows.length cp4], .agg #[iv p1.Start, .slice ad7 p1.Rows.length cp8]]) (val := fun _ => .tuple #[iv r27.1, iv r27.2]) S (wN rfl) rfl callee21 rfl (S1.quiet [1, 0] rfl) (fun E1 w1 S1 => c_raddleref46_Charts E1 w1 p0 (.agg #[iv p0.Start, .slice ad3 p0.Rows.length cp4]) p1 (.agg #[iv p1.Start, .slice ad7 p1.Rows.length cp8]) r27 hx28 S1) rfl (lb rfl) fun _ a w S => ?_
  refine sMove (.tuple #[iv r27.1, iv r27.2]) S (wN rfl) (.inl rfl) rfl rfl (lb rfl) fun a S => ?_
  refine sExtract (vs := [iv r27.1, iv r27.2]) (iv r27.1) S (wN rfl) rfl rfl rfl rfl (lb rfl) fun a S => ?_
  refine sExtract (vs := [iv r27.1, iv r27.2]) (iv r27.2) S (wN rfl) rfl rfl rfl rfl (lb rfl) fun a S => ?_
  refine sMove (iv r27.1) S (wN rfl) (.inr rfl) rfl rfl (lb rfl) fun a S => ?_
  refine sMove (iv r27.2) S (wN rfl) (.inr rfl) rfl rfl (lb rfl) fun a S => ?_
  refine leafL (leafT (hK26 _ _ ?_))
  obtain ⟨t30, h, g31⟩ := bindSome h
  refine sCut (fun a w => ∃ o29, o29 = t30 ∧ St [] E [] w0 35 a w [(4, .bool o29)] [] []) ?_ (fun a w hI => ?_)
  rotate_left
  · obtain ⟨o29, rfl, S⟩ := hI
    have h := g31
    clear g31
    try dsimp only at h
    obtain rfl := Option.some.inj h
    exact wp_ret (sRet (.bool o29) S (rsl1 rfl (rvT (t := 4) (v := .bool o29) S rfl)) ⟨(), rfl, S.mem.sel [] [] (by decide) rfl rfl⟩)
  refine sRegion ?_
  refine sMove (iv r24.1) S (wN rfl) (.inl rfl) rfl rfl (lb rfl) fun a S => ?_
  refine sMove (iv r27.1) S (wN rfl) (.inl rfl) rfl rfl (lb rfl) fun a S => ?_
  refine sBin (.bool (r24.1 == r27.1)) S (wN rfl) rfl rfl rfl (bEq _ _ _ _ .i64 r24.1 r27.1) rfl (lb rfl) fun a S => ?_
  refine sMove (.bool (r24.1 == r27.1)) S (wN rfl) (.inl rfl) rfl rfl (lb rfl) fun a S => ?_
  rcases iteSome h with ⟨hc32, h⟩ | ⟨hc32, h⟩
  rotate_left
  · refine sSkip 3 true 30 31 S rfl rfl rfl hc32 rfl (lb rfl) fun a S => ?_
    refine sSkip 3 true 30 32 S rfl rfl rfl hc32 rfl (lb rfl) fun a S => ?_
    refine sSkip 3 true 30 33 S rfl rfl rfl hc32 rfl (lb rfl) fun a S => ?_
    refine sPickF (.bool false) S (wN rfl) rfl rfl hc32 rfl rfl (lb rfl) fun a S => ?_
    refine sMove (.bool false) S (wN rfl) (.inr rfl) rfl rfl (lb rfl) fun a S => ?_
    exact leafL (leafT (⟨false, Option.some.inj h, S.fix [] [] (by decide) rfl rfl rfl⟩))
  refine sMove (iv r24.2) S (wG 3 true 30 rfl rfl rfl hc32) (.inl rfl) rfl rfl (lb rfl) fun a S => ?_
  refine sMove (iv r27.2) S (wG 3 true 30 rfl rfl rfl hc32) (.inl rfl) rfl rfl (lb rfl) fun a S => ?_
  refine sBin (.bool (r24.2 == r27.2)) S (wG 3 true 30 rfl rfl rfl hc32) rfl rfl rfl (bEq _ _ _ _ .i64 r24.2 r27.2) rfl (lb rfl) fun a S => ?_
  refine sPickT (.bool (r24.2 == r27.2)) S (wN rfl) rfl rfl hc32 rfl rfl (lb rfl) fun a S => ?_
  refine sMove (.bool (r24.2 == r27.2)) S (wN rfl) (.inr rfl) rfl rfl (lb rfl) fun a S => ?_
  exact leafL (leafT (⟨r24.2 == r27.2, Option.some.inj h, S.fix [] [] (by decide) rfl rfl rfl⟩))

end Go.Proofs.Ytffikfajljbmnaa
namespace Go.Proofs.Ytffikfajljbmnaa
open Go.RowKit
set_option linter.unusedVariables false

theorem alR_bd {r : api_Row} (h : r.Cells.length ≤ 200) : alR r ≤ 201 := by unfold alR; omega
theorem boR_bd {x y : api_Row} (hx : x.Cells.length ≤ 200) (hy : y.Cells.length ≤ 200) : boR x y ≤ 201 := by
  have := D1_max x.Cells y.Cells
  unfold boR
  split <;> omega
theorem DR_bd {a b : List api_Row} (ha : a.length ≤ 100) (hb : b.length ≤ 100) (ca : ∀ r, r ∈ a → r.Cells.length ≤ 200) (cb : ∀ r, r ∈ b → r.Cells.length ≤ 200) (i k : Nat) : Wg alR boR a b i k ≤ 50000 := by
  have h1 := Wg_bd (al := alR) (bo := boR) (a := a) (b := b) i k
  have h2 := sumA_bd a ca
  have h3 := sumA_bd b cb
  have h4 : a.length * 201 ≤ 100 * 201 := Nat.mul_le_mul_right _ ha
  have h5 : b.length * 201 ≤ 100 * 201 := Nat.mul_le_mul_right _ hb
  omega
theorem row1_eq {r : api_Row} (h : r.Cells.length ≤ 200) : F_compare_Charts_1 r = some ((alR r : Nat) : Int) := by
  unfold F_compare_Charts_1 alR
  rw [w64_of (by omega) (by omega)]
  exact congrArg some (by omega)
theorem back_ne (p q : Bool) (d : Nat) (hd : d ≤ 1000) : (if (p != q) = true then some (w64 ((d : Int) + 1)) else some (d : Int)) = some ((d + (if p = q then 0 else 1) : Nat) : Int) := by
  rw [w64_succ (by omega)]
  cases p <;> cases q <;> rfl
theorem row2_eq {x y : api_Row} (hx : x.Cells.length ≤ 200) (hy : y.Cells.length ≤ 200) : F_compare_Charts_2 x y = some ((boR x y : Nat) : Int) := by
  obtain ⟨r, h1, h2⟩ := tb_at x.Cells y.Cells (Nat.zero_le _) (Nat.zero_le _)
  have h0 : ((0 : Nat) : Int) = 0 := rfl
  rw [h0] at h1 h2
  simp only [List.drop_zero] at h2
  have := D1_max x.Cells y.Cells
  unfold F_compare_Charts_2 boR
  simp only [ctable_eq x.Cells y.Cells (by omega) (by omega), h1, h2, Option.bind_some, back_ne x.Back y.Back (D1 x.Cells y.Cells) (by omega)]
theorem beside_eq {x y : api_Row} (hx : x.Cells.length ≤ 200) (hy : y.Cells.length ≤ 200) : F_raddleref46_beside x y = some ((boR x y : Nat) : Int) := by
  obtain ⟨r, h1, h2⟩ := tb_at x.Cells y.Cells (Nat.zero_le _) (Nat.zero_le _)
  have h0 : ((0 : Nat) : Int) = 0 := rfl
  rw [h0] at h1 h2
  simp only [List.drop_zero] at h2
  have := D1_max x.Cells y.Cells
  unfold F_raddleref46_beside boR
  simp only [rtable_eq x.Cells y.Cells (by omega) (by omega), h1, h2, Option.bind_some, back_ne x.Back y.Back (D1 x.Cells y.Cells) (by omega)]
theorem rowtab_eq (a b : List api_Row) (ha : a.length ≤ 100) (hb : b.length ≤ 100) (ca : ∀ r, r ∈ a → r.Cells.length ≤ 200) (cb : ∀ r, r ∈ b → r.Cells.length ≤ 200) : F_compare_table_api_Row__s0 a b = some (tbS alR boR a b 0) := by
  have hbd : ∀ i k, Wg alR boR a b i k ≤ 50000 := fun i k => DR_bd ha hb ca cb i k
  have hrow : ∀ i, i ≤ a.length → whileO (compare_table_api_Row__s0_l1 (i : Int) a b (tbS alR boR a b (i + 1))) ((b.length : Int), List.replicate (b.length + 1) 0) = some (stS 0 (fun k => ((Wg alR boR a b i k : Nat) : Int)) b.length 0) := by
    intro i hi
    have h := loop_dn (B := compare_table_api_Row__s0_l1 (i : Int) a b (tbS alR boR a b (i + 1))) b.length (fun k => stS 0 (fun k => ((Wg alR boR a b i k : Nat) : Int)) b.length k) (t := stS 0 (fun k => ((Wg alR boR a b i k : Nat) : Int)) b.length 0)
      (fun k hk => by
        have b1 := hbd i (k + 1)
        have b2 := hbd (i + 1) k
        have b3 := hbd (i + 1) (k + 1)
        obtain ⟨y, hy⟩ := stS_idx (0 : Int) (fun k => ((Wg alR boR a b i k : Nat) : Int)) (k := k + 1) hk
        unfold compare_table_api_Row__s0_l1
        simp only [dT (show (0 : Int) ≤ (k : Int) by omega), if_true]
        by_cases e1 : i = a.length
        · by_cases e2 : k = b.length
          · simp only [bT (show (i : Int) = (a.length : Int) by omega), bT (show (k : Int) = (b.length : Int) by omega), if_true, Option.bind_some, w64_pred (show k ≤ 9223372036854775807 by omega)]
            rw [stS_same (0 : Int) (fun k => ((Wg alR boR a b i k : Nat) : Int)) (by rw [e1, e2, Wg_end]; rfl)]
          · have hk2 : k < b.length := by omega
            have m2 := row1_eq (cb _ (List.getElem_mem hk2))
            have n2 := alR_bd (cb _ (List.getElem_mem hk2))
            simp only [bT (show (i : Int) = (a.length : Int) by omega), bF (show ¬ (k : Int) = (b.length : Int) by omega), if_true, Bool.false_eq_true, if_false, Option.bind_some, w64_succ (show k < 9223372036854775807 by omega), stS_get (0 : Int) (fun k => ((Wg alR boR a b i k : Nat) : Int)) (show k + 1 ≤ b.length by omega) (Nat.le_refl _), idxO_nat hk2, m2, hy, w64_pred (show k ≤ 9223372036854775807 by omega)]
            have hv : w64 (((Wg alR boR a b i (k + 1) : Nat) : Int) + ((alR b[k] : Nat) : Int)) = ((Wg alR boR a b i k : Nat) : Int) := by rw [wadd (by omega), e1, Wg_b hk2]
            rw [hv, rowS_set alR boR a b i hk]
            rfl
        · have hi2 : i < a.length := by omega
          have m1 := row1_eq (ca _ (List.getElem_mem hi2))
          have n1 := alR_bd (ca _ (List.getElem_mem hi2))
          by_cases e2 : k = b.length
          · simp only [bF (show ¬ (i : Int) = (a.length : Int) by omega), bT (show (k : Int) = (b.length : Int) by omega), if_true, Bool.false_eq_true, if_false, Option.bind_some, w64_succ (show i < 9223372036854775807 by omega), tb_row alR boR a b (show i + 1 ≤ a.length by omega) (Nat.le_refl _), tb_val alR boR a b (i + 1) hk, idxO_nat hi2, m1, hy, w64_pred (show k ≤ 9223372036854775807 by omega)]
            have hv : w64 (((Wg alR boR a b (i + 1) k : Nat) : Int) + ((alR a[i] : Nat) : Int)) = ((Wg alR boR a b i k : Nat) : Int) := by rw [wadd (by omega), e2, Wg_a hi2]
            rw [hv, rowS_set alR boR a b i hk]
            rfl
          · have hk2 : k < b.length := by omega
            have m2 := row1_eq (cb _ (List.getElem_mem hk2))
            have n2 := alR_bd (cb _ (List.getElem_mem hk2))
            have b4 := boR_bd (ca _ (List.getElem_mem hi2)) (cb _ (List.getElem_mem hk2))
            have m3 := row2_eq (ca _ (List.getElem_mem hi2)) (cb _ (List.getElem_mem hk2))
            simp only [bF (show ¬ (i : Int) = (a.length : Int) by omega), bF (show ¬ (k : Int) = (b.length : Int) by omega), Bool.false_eq_true, if_false, Option.bind_some, w64_succ (show i < 9223372036854775807 by omega), w64_succ (show k < 9223372036854775807 by omega), tb_row alR boR a b (show i + 1 ≤ a.length by omega) (Nat.le_refl _), tb_val alR boR a b (i + 1) hk, tb_val alR boR a b (i + 1) (show k + 1 ≤ b.length by omega), stS_get (0 : Int) (fun k => ((Wg alR boR a b i k : Nat) : Int)) (show k + 1 ≤ b.length by omega) (Nat.le_refl _), idxO_nat hi2, idxO_nat hk2, m1, m2, m3, hy, w64_pred (show k ≤ 9223372036854775807 by omega)]
            have hv : min3 (w64 (((Wg alR boR a b (i + 1) k : Nat) : Int) + ((alR a[i] : Nat) : Int))) (w64 (((Wg alR boR a b i (k + 1) : Nat) : Int) + ((alR b[k] : Nat) : Int))) (w64 (((Wg alR boR a b (i + 1) (k + 1) : Nat) : Int) + ((boR a[i] b[k] : Nat) : Int))) = ((Wg alR boR a b i k : Nat) : Int) := by
              rw [wadd (a := Wg alR boR a b (i + 1) k) (by omega), wadd (a := Wg alR boR a b i (k + 1)) (by omega), wadd (by omega), min3_nat, Wg_ab hi2 hk2]
            rw [hv, rowS_set alR boR a b i hk]
            rfl)
      (by
        unfold compare_table_api_Row__s0_l1
        simp only [dF (show ¬ (0 : Int) ≤ -1 by decide), Bool.false_eq_true, if_false])
    rw [stS_top] at h
    exact h
  have h := loop_dn2 (B := compare_table_api_Row__s0_l2 b a) a.length (fun i => tbS alR boR a b i) (t := tbS alR boR a b 0)
    (fun i hi => by
      obtain ⟨y, hy⟩ := stS_idx ([] : List Int) (fun i => stS 0 (fun k => ((Wg alR boR a b i k : Nat) : Int)) b.length 0) (k := i + 1) hi
      have hy2 : idxO (tbS alR boR a b (i + 1)) (i : Int) = some y := hy
      unfold compare_table_api_Row__s0_l2
      simp only [dT (show (0 : Int) ≤ (i : Int) by omega), if_true, w64_succ (show b.length < 9223372036854775807 by omega)]
      rw [makeO_of (k := b.length + 1) rfl (by omega)]
      simp only [Option.bind_some, hy2, hrow i hi, w64_pred (show i ≤ 9223372036854775807 by omega), Int.toNat_natCast]
      rw [show (tbS alR boR a b (i + 1)).set i (stS 0 (fun k => ((Wg alR boR a b i k : Nat) : Int)) b.length 0) = tbS alR boR a b i from stS_list _ _ _ _])
    (by
      unfold compare_table_api_Row__s0_l2
      simp only [dF (show ¬ (0 : Int) ≤ -1 by decide), Bool.false_eq_true, if_false])
  have ht : tbS alR boR a b (a.length + 1) = List.replicate (a.length + 1) [] := stS_top _ _ _
  rw [ht] at h
  unfold F_compare_table_api_Row__s0
  simp only [w64_succ (show a.length < 9223372036854775807 by omega)]
  rw [makeO_of (k := a.length + 1) rfl (by omega)]
  simp only [Option.bind_some, h]
theorem rcharts_loop (a b : api_Chart) (ha : a.Rows.length ≤ 100) (hb : b.Rows.length ≤ 100) (ca : ∀ r, r ∈ a.Rows → r.Cells.length ≤ 200) (cb : ∀ r, r ∈ b.Rows → r.Cells.length ≤ 200) :
    whileO (raddleref46_Charts_l2 a b (List.replicate (b.Rows.length + 1) 0)) (List.replicate (b.Rows.length + 1) 0, (a.Rows.length : Int)) = some (stS 0 (fun k => ((Wg alR boR a.Rows b.Rows 0 k : Nat) : Int)) b.Rows.length 0) := by
  have hbd : ∀ i k, Wg alR boR a.Rows b.Rows i k ≤ 50000 := fun i k => DR_bd ha hb ca cb i k
  have hrow : ∀ i (below : List Int), i ≤ a.Rows.length → (i < a.Rows.length → below = stS 0 (fun k => ((Wg alR boR a.Rows b.Rows (i + 1) k : Nat) : Int)) b.Rows.length 0) → whileO (raddleref46_Charts_l1 (i : Int) a below b) (List.replicate (b.Rows.length + 1) 0, (b.Rows.length : Int)) = some (stS 0 (fun k => ((Wg alR boR a.Rows b.Rows i k : Nat) : Int)) b.Rows.length 0) := by
    intro i below hi hbl
    have h := loop_dn2 (B := raddleref46_Charts_l1 (i : Int) a below b) b.Rows.length (fun k => stS 0 (fun k => ((Wg alR boR a.Rows b.Rows i k : Nat) : Int)) b.Rows.length k) (t := stS 0 (fun k => ((Wg alR boR a.Rows b.Rows i k : Nat) : Int)) b.Rows.length 0)
      (fun k hk => by
        have b0 := hbd i k
        have b1 := hbd i (k + 1)
        have b2 := hbd (i + 1) k
        have b3 := hbd (i + 1) (k + 1)
        obtain ⟨y, hy⟩ := stS_idx (0 : Int) (fun k => ((Wg alR boR a.Rows b.Rows i k : Nat) : Int)) (k := k + 1) hk
        have hr := rowS_set alR boR a.Rows b.Rows i hk
        have hnn : ∀ x : Nat, (if (x : Int) < 0 then (0 : Int) else (x : Int)) = (x : Int) := fun x => if_neg (by omega)
        unfold raddleref46_Charts_l1
        simp only [dT (show (0 : Int) ≤ (k : Int) by omega), if_true]
        by_cases e1 : i < a.Rows.length
        · have n1 := alR_bd (ca _ (List.getElem_mem e1))
          have hx := tb_val alR boR a.Rows b.Rows (i + 1) hk
          rw [← hbl e1] at hx
          have q1 : w64 (w64 (((Wg alR boR a.Rows b.Rows (i + 1) k : Nat) : Int) + 1) + (a.Rows[i].Cells.length : Int)) = ((Wg alR boR a.Rows b.Rows (i + 1) k + alR a.Rows[i] : Nat) : Int) := by
            have hal : alR a.Rows[i] = 1 + a.Rows[i].Cells.length := rfl
            rw [w64_succ (by omega), wadd (by omega)]
            omega
          by_cases e2 : k < b.Rows.length
          · have n2 := alR_bd (cb _ (List.getElem_mem e2))
            have hx2 := tb_val alR boR a.Rows b.Rows (i + 1) (show k + 1 ≤ b.Rows.length by omega)
            rw [← hbl e1] at hx2
            have b4 := boR_bd (ca _ (List.getElem_mem e1)) (cb _ (List.getElem_mem e2))
            have q2 : w64 (w64 (((Wg alR boR a.Rows b.Rows i (k + 1) : Nat) : Int) + 1) + (b.Rows[k].Cells.length : Int)) = ((Wg alR boR a.Rows b.Rows i (k + 1) + alR b.Rows[k] : Nat) : Int) := by
              have hal : alR b.Rows[k] = 1 + b.Rows[k].Cells.length := rfl
              rw [w64_succ (by omega), wadd (by omega)]
              omega
            have hab := Wg_ab (al := alR) (bo := boR) e1 e2
            simp only [dT (show (i : Int) < (a.Rows.length : Int) by omega), dT (show (k : Int) < (b.Rows.length : Int) by omega), if_true, Option.bind_some, hx, hx2, idxO_nat e1, idxO_nat e2, q1, q2, w64_succ (show k < 9223372036854775807 by omega), stS_get (0 : Int) (fun k => ((Wg alR boR a.Rows b.Rows i k : Nat) : Int)) (show k + 1 ≤ b.Rows.length by omega) (Nat.le_refl _), beside_eq (ca _ (List.getElem_mem e1)) (cb _ (List.getElem_mem e2)), hy, w64_pred (show k ≤ 9223372036854775807 by omega), wadd (show Wg alR boR a.Rows b.Rows (i + 1) (k + 1) + boR a.Rows[i] b.Rows[k] ≤ 9223372036854775807 by omega)]
            generalize Wg alR boR a.Rows b.Rows (i + 1) k + alR a.Rows[i] = A at *
            generalize Wg alR boR a.Rows b.Rows i (k + 1) + alR b.Rows[k] = B at *
            generalize Wg alR boR a.Rows b.Rows (i + 1) (k + 1) + boR a.Rows[i] b.Rows[k] = C at *
            have hs1 : (if decide ((A : Int) < 0) = true then some true else some (decide ((B : Int) < (A : Int)))) = some (decide ((B : Int) < (A : Int))) := by rw [dF (show ¬ (A : Int) < 0 by omega)]; rfl
            rw [hs1]
            simp only [Option.bind_some]
            have hs2 : (if decide ((B : Int) < (A : Int)) = true then some (B : Int) else some (A : Int)) = some ((min A B : Nat) : Int) := by
              by_cases c : (B : Int) < (A : Int)
              · rw [dT c, if_pos rfl]; congr 1; omega
              · rw [dF c, if_neg (by decide)]; congr 1; omega
            rw [hs2]
            simp only [Option.bind_some]
            have hs3 : (if (C : Int) < ((min A B : Nat) : Int) then (C : Int) else ((min A B : Nat) : Int)) = ((Wg alR boR a.Rows b.Rows i k : Nat) : Int) := by
              rw [hab]
              split <;> omega
            rw [hs3, hnn, hr]
            rfl
          · have e2' : k = b.Rows.length := by omega
            have hw : Wg alR boR a.Rows b.Rows (i + 1) k + alR a.Rows[i] = Wg alR boR a.Rows b.Rows i k := by rw [e2', Wg_a e1]
            simp only [dT (show (i : Int) < (a.Rows.length : Int) by omega), dF (show ¬ (k : Int) < (b.Rows.length : Int) by omega), if_true, Bool.false_eq_true, if_false, Option.bind_some, hx, idxO_nat e1, q1, hy, w64_pred (show k ≤ 9223372036854775807 by omega), hw, hnn, hr]
        · have e1' : i = a.Rows.length := by omega
          by_cases e2 : k < b.Rows.length
          · have n2 := alR_bd (cb _ (List.getElem_mem e2))
            have q2 : w64 (w64 (((Wg alR boR a.Rows b.Rows i (k + 1) : Nat) : Int) + 1) + (b.Rows[k].Cells.length : Int)) = ((Wg alR boR a.Rows b.Rows i k : Nat) : Int) := by
              have hw : Wg alR boR a.Rows b.Rows i k = Wg alR boR a.Rows b.Rows i (k + 1) + alR b.Rows[k] := by rw [e1', Wg_b e2]
              rw [hw]
              have hal : alR b.Rows[k] = 1 + b.Rows[k].Cells.length := rfl
              rw [w64_succ (by omega), wadd (by omega)]
              omega
            simp only [dF (show ¬ (i : Int) < (a.Rows.length : Int) by omega), dT (show (k : Int) < (b.Rows.length : Int) by omega), if_true, Bool.false_eq_true, if_false, Option.bind_some, idxO_nat e2, q2, w64_succ (show k < 9223372036854775807 by omega), stS_get (0 : Int) (fun k => ((Wg alR boR a.Rows b.Rows i k : Nat) : Int)) (show k + 1 ≤ b.Rows.length by omega) (Nat.le_refl _), show decide ((-1 : Int) < 0) = true from rfl, hy, w64_pred (show k ≤ 9223372036854775807 by omega), hnn, hr]
          · have e2' : k = b.Rows.length := by omega
            have hw : Wg alR boR a.Rows b.Rows i k = 0 := by rw [e1', e2', Wg_end]
            rw [hw] at hr
            simp only [dF (show ¬ (i : Int) < (a.Rows.length : Int) by omega), dF (show ¬ (k : Int) < (b.Rows.length : Int) by omega), Bool.false_eq_true, if_false, Option.bind_some, hy, w64_pred (show k ≤ 9223372036854775807 by omega), if_pos (show (-1 : Int) < 0 by decide)]
            have hr2 : setO (stS (0 : Int) (fun k => ((Wg alR boR a.Rows b.Rows i k : Nat) : Int)) b.Rows.length (k + 1)) (k : Int) (0 : Int) = some (stS 0 (fun k => ((Wg alR boR a.Rows b.Rows i k : Nat) : Int)) b.Rows.length k) := hr
            rw [hr2]
            rfl)
      (by
        unfold raddleref46_Charts_l1
        simp only [dF (show ¬ (0 : Int) ≤ -1 by decide), Bool.false_eq_true, if_false])
    rw [stS_top] at h
    exact h
  have h := loop_dn2 (B := raddleref46_Charts_l2 a b (List.replicate (b.Rows.length + 1) 0)) a.Rows.length (fun i => if i ≤ a.Rows.length then stS 0 (fun k => ((Wg alR boR a.Rows b.Rows i k : Nat) : Int)) b.Rows.length 0 else List.replicate (b.Rows.length + 1) 0) (t := stS 0 (fun k => ((Wg alR boR a.Rows b.Rows 0 k : Nat) : Int)) b.Rows.length 0)
    (fun i hi => by
      have hr := hrow i (if i + 1 ≤ a.Rows.length then stS 0 (fun k => ((Wg alR boR a.Rows b.Rows (i + 1) k : Nat) : Int)) b.Rows.length 0 else List.replicate (b.Rows.length + 1) 0) hi (fun hi2 => if_pos (by omega))
      unfold raddleref46_Charts_l2
      simp only [dT (show (0 : Int) ≤ (i : Int) by omega), if_true, hr, Option.bind_some, w64_pred (show i ≤ 9223372036854775807 by omega), if_pos hi])
    (by
      unfold raddleref46_Charts_l2
      simp only [dF (show ¬ (0 : Int) ≤ -1 by decide), Bool.false_eq_true, if_false, if_pos (Nat.zero_le _)])
  rw [if_neg (show ¬ a.Rows.length + 1 ≤ a.Rows.length by omega)] at h
  exact h
/-- what Charts answers -/
def chartsS (a b : api_Chart) : Int × Int := if chk a = 0 then (if chk b = 0 then (((DC a b : Nat) : Int), 0) else (0, chk b)) else (0, chk a)
theorem chk_cells {c : api_Chart} (h : chk c = 0) : c.Rows.length ≤ 100 ∧ ∀ r, r ∈ c.Rows → r.Cells.length ≤ 200 := by
  obtain ⟨h1, _, _, h4⟩ := chk_ok h
  exact ⟨h1, fun r hr => (allS_ok (chkR_mem h4 r hr)).1⟩
theorem start_ne (p q : Int) (d : Nat) (hd : d ≤ 100000) : (if (p != q) = true then some (w64 ((d : Int) + 1)) else some (d : Int)) = some ((d + (if p = q then 0 else 1) : Nat) : Int) := by
  rw [w64_succ (by omega)]
  by_cases h : p = q
  · rw [nF h, if_pos h]; rfl
  · rw [nT h, if_neg h]; rfl
theorem charts_eq {a b : api_Chart} (wa : wfR a.Rows) (wb : wfR b.Rows) : F_compare_Charts a b = some (chartsS a b) := by
  unfold F_compare_Charts chartsS
  rw [chart_check_eq a wa, chart_check_eq b wb]
  by_cases h1 : chk a = 0
  case neg => rw [if_neg h1]; simp only [Option.bind_some, nT h1, if_true]
  by_cases h2 : chk b = 0
  case neg => rw [if_pos h1, if_neg h2]; simp only [Option.bind_some, nF h1, nT h2, Bool.false_eq_true, if_false, if_true]
  rw [if_pos h1, if_pos h2]
  obtain ⟨la, ca⟩ := chk_cells h1
  obtain ⟨lb, cb⟩ := chk_cells h2
  have t1 := tb_row alR boR a.Rows b.Rows (Nat.zero_le _) (Nat.le_refl 0)
  have t2 := tb_val alR boR a.Rows b.Rows 0 (Nat.zero_le _)
  have h0 : ((0 : Nat) : Int) = 0 := rfl
  rw [h0] at t1 t2
  have hd := DR_bd la lb ca cb 0 0
  have hD : Wg alR boR a.Rows b.Rows 0 0 = DR a.Rows b.Rows := rfl
  rw [hD] at hd t2
  simp only [Option.bind_some, nF h1, nF h2, Bool.false_eq_true, if_false, rowtab_eq a.Rows b.Rows la lb ca cb, t1, t2, start_ne a.Start b.Start (DR a.Rows b.Rows) (by omega)]
  rfl
theorem rcharts_eq (a b : api_Chart) : F_raddleref46_Charts a b = some (chartsS a b) := by
  unfold F_raddleref46_Charts chartsS
  rw [rchart_check_eq a, rchart_check_eq b]
  by_cases h1 : chk a = 0
  case neg => rw [if_neg h1]; simp only [Option.bind_some, nT h1, if_true]
  by_cases h2 : chk b = 0
  case neg => rw [if_pos h1, if_neg h2]; simp only [Option.bind_some, nF h1, nT h2, Bool.false_eq_true, if_false, if_true]
  rw [if_pos h1, if_pos h2]
  obtain ⟨la, ca⟩ := chk_cells h1
  obtain ⟨lb, cb⟩ := chk_cells h2
  have t2 := tb_val alR boR a.Rows b.Rows 0 (Nat.zero_le _)
  have h0 : ((0 : Nat) : Int) = 0 := rfl
  rw [h0] at t2
  have hd := DR_bd la lb ca cb 0 0
  have hD : Wg alR boR a.Rows b.Rows 0 0 = DR a.Rows b.Rows := rfl
  rw [hD] at hd t2
  simp only [Option.bind_some, nF h1, nF h2, Bool.false_eq_true, if_false, w64_succ (show b.Rows.length < 9223372036854775807 by omega)]
  rw [makeO_of (k := b.Rows.length + 1) rfl (by omega)]
  simp only [Option.bind_some, rcharts_loop a b la lb ca cb, t2]
  unfold DC
  by_cases h : a.Start = b.Start
  · simp only [nF h, Bool.false_eq_true, if_false, if_pos h]; rfl
  · simp only [nT h, if_true, if_neg h]
    rw [w64_succ (by omega)]
theorem rgreatC_eq (c : api_Chart) (hl : c.Rows.length ≤ 9223372036854775807) : ∃ b, F_raddleref46_GreatChart c = some b := by
  have hw : whileO (raddleref46_GreatChart_l1 c) 0 = some (if c.Rows.all (fun r => !decide (24 < r.Cells.length)) = true then .inr () else .inl true) := by
    refine loop_allL c.Rows _ _ _ (fun k hk => ?_) ?_
    · unfold raddleref46_GreatChart_l1
      simp only [dT (show (k : Int) < (c.Rows.length : Int) by omega), if_true, idxO_nat hk, Option.bind_some, w64_succ (show k < 9223372036854775807 by omega)]
      by_cases h : 24 < c.Rows[k].Cells.length
      · simp only [dT (show (24 : Int) < (c.Rows[k].Cells.length : Int) by omega), dT h, if_true, Bool.not_true, Bool.false_eq_true, if_false]
      · simp only [dF (show ¬ (24 : Int) < (c.Rows[k].Cells.length : Int) by omega), dF h, Bool.false_eq_true, if_false, Bool.not_false, if_true]
    · unfold raddleref46_GreatChart_l1
      simp only [dF (show ¬ (c.Rows.length : Int) < (c.Rows.length : Int) by omega), Bool.false_eq_true, if_false]
  unfold F_raddleref46_GreatChart
  rw [hw]
  by_cases h : c.Rows.all (fun r => !decide (24 < r.Cells.length)) = true
  · rw [if_pos h]
    simp only [Option.bind_some]
    by_cases h1 : (8 : Int) < (c.Rows.length : Int)
    · by_cases h2 : (c.Rows.length : Int) ≤ 100
      · simp only [dT h1, dT h2, if_true, Option.bind_some]; exact ⟨_, rfl⟩
      · simp only [dT h1, dF h2, if_true, Bool.false_eq_true, if_false, Option.bind_some]; exact ⟨_, rfl⟩
    · simp only [dF h1, Bool.false_eq_true, if_false, Option.bind_some]; exact ⟨_, rfl⟩
  · rw [if_neg h]; exact ⟨_, rfl⟩

end Go.Proofs.Ytffikfajljbmnaa
namespace Go.Proofs.Ytffikfajljbmnaa
open Go.RowKit
set_option linter.unusedVariables false

theorem law_CompareCharts (a b : api_Chart) (wa : wf_api_Chart a) (wb : wf_api_Chart b) : F_raddlelaw46_CompareCharts a b = some true := by
  unfold F_raddlelaw46_CompareCharts
  obtain ⟨b1, h1⟩ := rgreatC_eq a wa.2.1
  obtain ⟨b2, h2⟩ := rgreatC_eq b wb.2.1
  rw [h1, h2]
  cases b1 with
  | true => rfl
  | false =>
    cases b2 with
    | true => rfl
    | false => simp only [Bool.false_eq_true, if_false, Option.bind_some, charts_eq (wfR_of wa) (wfR_of wb), rcharts_eq, beq_self_eq_true, if_true]

end Go.Proofs.Ytffikfajljbmnaa
namespace Go.Proofs.Ytffikfajljbmnaa
open Go.RowKit
set_option linter.unusedVariables false

namespace frameCompareCharts
open Go.ChangeShapes Go.WideShapes Go.ChangeAt Go.Joins
theorem own : ownKnob Try.prog.godebug = none := by kernel_rfl
theorem laidOut : laidOutB Try.prog = true := by kernel_rfl
set_option maxRecDepth 100000 in
theorem lifted (os : Os) (started : os.Started) (H : Type) (enc : TypeId × Value → H) :
    ReturnsInHanded {} Try.checked os 4 .any (Rows.compareChartsSpec.pre6 enc Try.prog Try.f4 Rows.compareChartsRow.domain false) (Rows.compareChartsSpec.post enc Try.prog Try.f4 false true false false) := by
  refine returnsInHanded_of_change (C := Try.checked) own started (by kernel_rfl) Try.func4
    (ChangeSpec.witness6 (enc := enc) (C := Try.checked) false ⟨#[], #[.agg #[iv 0, .slice none 0 0], .agg #[iv 0, .slice none 0 0]], []⟩ 8 (by kernel_rfl) (by kernel_rfl) (by kernel_rfl) (by kernel_rfl)) ?_
  intro W base args ds gs before hval0 hW hcnd _
  have hval : ∀ (j : Nat) t v, Try.f4.params[j]? = some t → args[j]? = some v → Value.okWide Try.prog W .any base t v := hval0
  have hW' := hW
  obtain ⟨p, q, hA0, hV, rfl, hfz, hnd⟩ := hW
  have hA : DataW.TrodAll enc Try.prog W 0 (fun _ => true) true Try.f4.params.toList args.toList ds p := hA0
  rw [Try.params4] at hA hval
  obtain ⟨v0, vs0, d0, ds0, p0, q0, hargs, rfl, rfl, h0, r0⟩ := trodAll_cons hA
  obtain ⟨v1, vs1, d1, ds1, p1, q1, rfl, rfl, rfl, h1, r1⟩ := trodAll_cons r0
  obtain ⟨rfl, rfl, rfl⟩ := trodAll_nil r1
  obtain rfl : args = #[v0, v1] := by cases args; simp_all
  obtain ⟨rfl, rfl⟩ := trodVars_none hV
  have k0 := h0
  have lt0 : ∀ x ∈ p0, x.block < W.heap.size := by obtain ⟨m, hm⟩ := k0; exact DataW.trod_lt m _ _ _ hm
  have k1 := h1
  have lt1 : ∀ x ∈ p1, x.block < W.heap.size := by obtain ⟨m, hm⟩ := k1; exact DataW.trod_lt m _ _ _ hm
  obtain ⟨x0, rep0, wf0⟩ := top_agg Try.underlying42 aggr_api_Chart op_api_Chart (hval 0 _ v0 rfl rfl) h0
  obtain ⟨x1, rep1, wf1⟩ := top_agg Try.underlying42 aggr_api_Chart op_api_Chart (hval 1 _ v1 rfl rfl) h1
  clear hA0 hval0
  refine (c_raddlelaw46_CompareCharts (fun _ => False) W x0 v0 x1 v1 true (law_CompareCharts x0 x1 wf0 wf1) (St0.start (by intro d hd; simp only [List.mem_cons, List.not_mem_nil, or_false] at hd; rcases hd with rfl | rfl; exact rep0; exact rep1))).mono fun e W' hr => ?_
  obtain ⟨_, he, hS⟩ := hr
  have bel := hS.chg.below
  subst he
  exact ⟨_, rfl, _, _, _, [], _, [], hW', trodAll_mk1 (shut_bool Try.underlying4 _), (trodAll_cons_mk (Below.trod laidOut (by kernel_rfl) (of_decide_eq_true (by kernel_rfl)) k0 bel lt0) (trodAll_cons_mk (Below.trod laidOut (by kernel_rfl) (of_decide_eq_true (by kernel_rfl)) k1 bel lt1) trodAll_mk0)), rfl, bel.frame _, fun h => by cases h⟩
theorem over : Rows.compareChartsRow.holds Try.pinned (OpenSpec.ofChange Rows.compareChartsSpec) :=
  OpenClaim.holds_of_wide 4 Try.f4 rfl rfl rfl rfl rfl rfl rfl ⟨rfl, rfl, rfl, rfl, rfl⟩ rfl rfl rfl rfl rfl (by kernel_rfl) Try.func4 (by kernel_rfl)
    (of_decide_eq_true (by kernel_rfl)) (by unfold Func.isWrapper; first | (rw [if_pos (by decide +kernel)]; kernel_rfl) | (rw [if_neg (by decide +kernel)]; exact ⟨rfl, rfl⟩))
    (fun os started H enc _ => lifted os started H enc)
end frameCompareCharts
theorem compareCharts_holds : Rows.CompareChartsSaid := frameCompareCharts.over

end Go.Proofs.Ytffikfajljbmnaa
