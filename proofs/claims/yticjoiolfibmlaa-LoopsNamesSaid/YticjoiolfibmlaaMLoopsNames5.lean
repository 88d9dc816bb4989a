/- Several texts in one: G22 G50 G37 G24s0 G30s0 KvAlive KeLoopsNames G8 KvLoopsNames FrLoopsNames -/
import Derived.WalkKit
import Derived.Maps.AppendAt
import Derived.Deep.AppendLies
import Derived.KernelRfl
import Derived.Laws.OwnMore
import Derived.Great.BuildSlice
import Derived.Orders
import Derived.Laws.StructEq
import Derived.ChangeKeysEq
import Derived.Defers
import Derived.Laws.BytesString
import Derived.RangeFuncNested
import Derived.RangeFuncBound
import Derived.RangeFuncCalls
import Derived.RangeFuncLeaves
import Derived.OrdersIn
import Derived.LoopNIn
import Derived.ArgAppend
import Derived.Lib.AppendZeros
import Derived.Test.YticjoiolfibmlaaProg
import Derived.ProofKit
import Derived.OpenShut
import Derived.ChangeOld
import Derived.Deep.Slices
import Derived.Lib.SmallJoins
import Derived.JoinedOf
import Derived.JoinedAt
import Derived.Below
import Derived.Test.YticjoiolfibmlaaRows
import Derived.Test.YticjoiolfibmlaaMLoopsNames4
namespace Go.Proofs.Yticjoiolfibmlaa
open Go.RowKit
set_option linter.unusedVariables false

def anc_loops_Row_0 : List (List Nat) := [[], [0], [], [0, 1, 2], [0, 1, 2, 3], [], [5], [], [7], [5, 6, 7, 8], [5, 6, 7, 8, 9], [0, 1, 2, 3, 4], [0, 1, 2, 3, 4, 5, 6, 7, 8, 9, 10, 11], [0, 1, 2, 3, 4, 5, 6, 7, 8, 9, 10, 11, 12]]
noncomputable def F_loops_Row (p0 : api_Chart) (p1 : Int) : Option (Int × Int × Int) :=
  Option.bind (F_loops_of p0) fun r8 =>
  if r8.2 != 0 then
    some (0, 0, r8.2)
  else
    Option.bind (α := Bool) (
      if decide (p1 < 0) then
        some true
      else
        some (decide ((p0.Rows.length : Int) < p1))) fun o33 =>
    if o33 then
      some (0, 0, 2)
    else
      Option.bind (idxO r8.1.rows p1) fun x40 =>
      Option.bind (idxO r8.1.rows (w64 (p1 + 1))) fun x45 =>
      some (x40, x45, 0)
set_option maxHeartbeats 4000000 in
set_option maxRecDepth 100000 in
theorem c_loops_Row (E : Nat → Prop) (w0 : World) (p0 : api_Chart) (v0 : Value) (p1 : Int) (r : (Int × Int × Int)) (h : F_loops_Row p0 p1 = some r) (S : St0 E [] w0 w0 [] [fRep r_api_Chart (v0) p0]) :
    Calls Try.prog 22 #[v0, iv p1] w0 (Ret (X := Unit) E [] w0 (fun _ => .tuple #[.int .i64 r.1, .int .i64 r.2.1, .int .i64 r.2.2]) (fun _ => []) (fun _ => [])) := by
  unfold F_loops_Row at h
  obtain ⟨u1, rfl, hu2⟩ := S.know (i := 0) (e := fRep r_api_Chart (v0) p0) rfl
  have S := S.learn (fRep (rL r_api_Row) u1 p0.Rows) hu2
  obtain ⟨ad3, cp4, _, rfl, _⟩ := hu2
  refine sEnter (args := [.agg #[iv p0.Start, .slice ad3 p0.Rows.length cp4], iv p1]) 36 Try.func22 rfl rfl (by simp) S (fun a S => ?_)
  refine sSeq (fun K5 hK5 => ?_)
  refine sRegion ?_
  refine sBox (v := .agg #[iv p0.Start, .slice ad3 p0.Rows.length cp4]) S (wN rfl) rfl rfl [iv p0.Start, .slice ad3 p0.Rows.length cp4] rfl rfl (lb rfl) fun a b6 w S => ?_
  refine sMove (iv 0) S (wN rfl) (.inr rfl) rfl rfl (lb rfl) fun a S => ?_
  refine sMove (iv 0) S (wN rfl) (.inr rfl) rfl rfl (lb rfl) fun a S => ?_
  refine sMove (iv 0) S (wN rfl) (.inr rfl) rfl rfl (lb rfl) fun a S => ?_
  refine leafL (leafT (hK5 _ _ ?_))
  refine sSeq (fun K7 hK7 => ?_)
  refine sRegion ?_
  refine sLoadN (p := b6) (off := 0) (T := 24) (vs := [iv p0.Start, .slice ad3 p0.Rows.length cp4]) 0 [iv p0.Start, .slice ad3 p0.Rows.length cp4] S (wN rfl) rfl rfl rfl rfl rfl rfl rfl (lb rfl) fun a S => ?_
  obtain ⟨r8, hx9, h⟩ := bindSome h
  refine sCall (X := Value) (f := 33) (vs := [.agg #[iv p0.Start, .slice ad3 p0.Rows.length cp4]]) (val := c_loops_of_val r8) (B' := fun _ => []) (D' := c_loops_of_D r8) [] [eBox b6 24 [iv p0.Start, .slice ad3 p0.Rows.length cp4]] [fRep r_api_Chart (.agg #[iv p0.Start, .slice ad3 p0.Rows.length cp4]) p0] [0] [1] S (wN rfl) rfl callee33 rfl (by decide) rfl rfl (fun E1 w1 S1 => c_loops_of E1 w1 p0 (.agg #[iv p0.Start, .slice ad3 p0.Rows.length cp4]) r8 hx9 S1) rfl (lb rfl) fun u10 a w S => ?_
  obtain ⟨u11, u12, u13, u14, rfl, hu15, hu16, hu17, hu18⟩ := S.mem.know (i := 0) (e := fRep r_loops_piece (u10) r8.1) rfl
  have S := S.learn (fRep (rL r_api_Loop) u11 r8.1.loops) hu15
  obtain ⟨ad19, cp20, _, rfl, _⟩ := hu15
  have S := S.learn (fRep (rL (rI .i64)) u12 r8.1.rows) hu16
  obtain ⟨ad21, cp22, _, rfl, _⟩ := hu16
  have S := S.learn (fRep (rL (rI .i64)) u13 r8.1.bound) hu17
  obtain ⟨ad23, cp24, _, rfl, _⟩ := hu17
  have S := S.learn (fRep (rL r_A2_Int) u14 r8.1.cross) hu18
  obtain ⟨ad25, cp26, _, rfl, _⟩ := hu18
  refine sMove (.tuple #[.agg #[.slice ad19 r8.1.loops.length cp20, .slice ad21 r8.1.rows.length cp22, .slice ad23 r8.1.bound.length cp24, .slice ad25 r8.1.cross.length cp26, iv r8.1.next], iv r8.2]) S (wN rfl) (.inl rfl) rfl rfl (lb rfl) fun a S => ?_
  refine sExtract (vs := [.agg #[.slice ad19 r8.1.loops.length cp20, .slice ad21 r8.1.rows.length cp22, .slice ad23 r8.1.bound.length cp24, .slice ad25 r8.1.cross.length cp26, iv r8.1.next], iv r8.2]) (.agg #[.slice ad19 r8.1.loops.length cp20, .slice ad21 r8.1.rows.length cp22, .slice ad23 r8.1.bound.length cp24, .slice ad25 r8.1.cross.length cp26, iv r8.1.next]) S (wN rfl) rfl rfl rfl rfl (lb rfl) fun a S => ?_
  refine sExtract (vs := [.agg #[.slice ad19 r8.1.loops.length cp20, .slice ad21 r8.1.rows.length cp22, .slice ad23 r8.1.bound.length cp24, .slice ad25 r8.1.cross.length cp26, iv r8.1.next], iv r8.2]) (iv r8.2) S (wN rfl) rfl rfl rfl rfl (lb rfl) fun a S => ?_
  refine sAlloc (.agg #[.slice none 0 0, .slice none 0 0, .slice none 0 0, .slice none 0 0, iv 0]) S (wN rfl) rfl rfl [.slice none 0 0, .slice none 0 0, .slice none 0 0, .slice none 0 0, iv 0] rfl rfl (lb rfl) fun a b27 w S => ?_
  refine sStore (p := b27) (off := 0) (T := 73) (vs := [.slice none 0 0, .slice none 0 0, .slice none 0 0, .slice none 0 0, iv 0]) (v := .agg #[.slice ad19 r8.1.loops.length cp20, .slice ad21 r8.1.rows.length cp22, .slice ad23 r8.1.bound.length cp24, .slice ad25 r8.1.cross.length cp26, iv r8.1.next]) 0 [.slice ad19 r8.1.loops.length cp20, .slice ad21 r8.1.rows.length cp22, .slice ad23 r8.1.bound.length cp24, .slice ad25 r8.1.cross.length cp26, iv r8.1.next] S (wN rfl) rfl rfl rfl rfl rfl rfl rfl (by simp) rfl fun a w S => ?_
  refine sMove (iv r8.2) S (wN rfl) (.inr rfl) rfl rfl (lb rfl) fun a S => ?_
  refine leafL (leafT (hK7 _ _ ?_))
  refine sSeq (fun K28 hK28 => ?_)
  refine sSeq (fun K29 hK29 => ?_)
  refine sRegion ?_
  refine sMove (iv r8.2) S (wN rfl) (.inl rfl) rfl rfl (lb rfl) fun a S => ?_
  refine sBin (.bool (r8.2 != 0)) S (wN rfl) rfl rfl rfl (bNe _ _ _ _ .i64 r8.2 0) rfl (lb rfl) fun a S => ?_
  refine leafL (leafT (hK29 _ _ ?_))
  rcases iteSome h with ⟨hc30, h⟩ | ⟨hc30, h⟩
  · refine sCondT S rfl hc30 ?_
    refine sSeq (fun K31 hK31 => ?_)
    refine sRegion ?_
    refine sMove (iv r8.2) S (wN rfl) (.inl rfl) rfl rfl (lb rfl) fun a S => ?_
    refine sMove (iv 0) S (wN rfl) (.inr rfl) rfl rfl (lb rfl) fun a S => ?_
    refine sMove (iv 0) S (wN rfl) (.inr rfl) rfl rfl (lb rfl) fun a S => ?_
    refine sMove (iv r8.2) S (wN rfl) (.inr rfl) rfl rfl (lb rfl) fun a S => ?_
    refine leafL (leafT (hK31 _ _ ?_))
    obtain rfl := Option.some.inj h
    exact wp_ret (rThen (sRet (.tuple #[iv 0, iv 0, iv r8.2]) S (rsl3 rfl (rvT (t := 4) (v := iv 0) S rfl) (rvT (t := 5) (v := iv 0) S rfl) (rvT (t := 6) (v := iv r8.2) S rfl)) ⟨(), rfl, S.mem.sel [] [] (by decide) rfl rfl⟩))
  refine sCondF S rfl hc30 ?_
  refine wp_skip (leafT (hK28 _ _ ?_))
  refine sSeq (fun K32 hK32 => ?_)
  obtain ⟨t34, h, g35⟩ := bindSome h
  refine sCut (fun a w => ∃ o33, o33 = t34 ∧ St [] E [] w0 36 a w [(1, iv p1), (7, .pointer (some ⟨b27, 0, none⟩)), (24, .bool o33)] [eBox b27 73 [.slice ad19 r8.1.loops.length cp20, .slice ad21 r8.1.rows.length cp22, .slice ad23 r8.1.bound.length cp24, .slice ad25 r8.1.cross.length cp26, iv r8.1.next]] [fRep (rL r_api_Loop) (.slice ad19 r8.1.loops.length cp20) r8.1.loops, fRep (rL (rI .i64)) (.slice ad21 r8.1.rows.length cp22) r8.1.rows, fRep (rL (rI .i64)) (.slice ad23 r8.1.bound.length cp24) r8.1.bound, fRep (rL r_A2_Int) (.slice ad25 r8.1.cross.length cp26) r8.1.cross]) ?_ (fun a w hI => ?_)
  · refine sRegion ?_
    refine sMove (iv p1) S (wN rfl) (.inl rfl) rfl rfl (lb rfl) fun a S => ?_
    refine sBin (.bool (decide (p1 < 0))) S (wN rfl) rfl rfl rfl (bLt _ _ _ _ .i64 p1 0) rfl (lb rfl) fun a S => ?_
    refine sMove (.bool (decide (p1 < 0))) S (wN rfl) (.inl rfl) rfl rfl (lb rfl) fun a S => ?_
    rcases iteSome h with ⟨hc36, h⟩ | ⟨hc36, h⟩
    · refine sSkip 2 false 18 19 S rfl rfl rfl hc36 rfl (lb rfl) fun a S => ?_
      refine sSkip 2 false 18 20 S rfl rfl rfl hc36 rfl (lb rfl) fun a S => ?_
      refine sSkip 2 false 18 21 S rfl rfl rfl hc36 rfl (lb rfl) fun a S => ?_
      refine sSkip 2 false 18 22 S rfl rfl rfl hc36 rfl (lb rfl) fun a S => ?_
      refine sSkip 2 false 18 23 S rfl rfl rfl hc36 rfl (lb rfl) fun a S => ?_
      refine sPickT (.bool true) S (wN rfl) rfl rfl hc36 rfl rfl (lb rfl) fun a S => ?_
      exact leafL (leafT (⟨true, Option.some.inj h, S.fix [0] [3, 2, 1, 0] (by decide) rfl rfl rfl⟩))
    refine sMove (iv p1) S (wG 2 false 18 rfl rfl rfl hc36) (.inl rfl) rfl rfl (lb rfl) fun a S => ?_
    refine sField (b := b6) (off := 0) 1 1 S (wG 2 false 18 rfl rfl rfl hc36) rfl rfl rfl rfl rfl (lb rfl) fun a S => ?_
    refine sLoad1 (p := b6) (off := 1) (T := 24) (vs := [iv p0.Start, .slice ad3 p0.Rows.length cp4]) 1 (.slice ad3 p0.Rows.length cp4) S (wG 2 false 18 rfl rfl rfl hc36) rfl rfl rfl rfl rfl rfl (lb rfl) fun a S => ?_
    refine sLen (ad := ad3) (m := p0.Rows.length) (c := cp4) S (wG 2 false 18 rfl rfl rfl hc36) rfl Try.underlying22 rfl rfl (lb rfl) fun a S => ?_
    refine sBin (.bool (decide ((p0.Rows.length : Int) < p1))) S (wG 2 false 18 rfl rfl rfl hc36) rfl rfl rfl (bGt _ _ _ _ .i64 p1 (p0.Rows.length : Int)) rfl (lb rfl) fun a S => ?_
    refine sPickF (.bool (decide ((p0.Rows.length : Int) < p1))) S (wN rfl) rfl rfl hc36 rfl rfl (lb rfl) fun a S => ?_
    exact leafL (leafT (⟨decide ((p0.Rows.length : Int) < p1), Option.some.inj h, S.fix [0] [3, 2, 1, 0] (by decide) rfl rfl rfl⟩))
  obtain ⟨o33, rfl, S⟩ := hI
  have h := g35
  clear g35
  try dsimp only at h
  rcases iteSome h with ⟨hc37, h⟩ | ⟨hc37, h⟩
  · refine sCondT S rfl hc37 ?_
    refine sSeq (fun K38 hK38 => ?_)
    refine sRegion ?_
    refine sMove (iv 0) S (wN rfl) (.inr rfl) rfl rfl (lb rfl) fun a S => ?_
    refine sMove (iv 0) S (wN rfl) (.inr rfl) rfl rfl (lb rfl) fun a S => ?_
    refine sMove (iv 2) S (wN rfl) (.inr rfl) rfl rfl (lb rfl) fun a S => ?_
    refine leafL (leafT (hK38 _ _ ?_))
    obtain rfl := Option.some.inj h
    exact wp_ret (rThen (sRet (.tuple #[iv 0, iv 0, iv 2]) S (rsl3 rfl (rvT (t := 4) (v := iv 0) S rfl) (rvT (t := 5) (v := iv 0) S rfl) (rvT (t := 6) (v := iv 2) S rfl)) ⟨(), rfl, S.mem.sel [] [] (by decide) rfl rfl⟩))
  refine sCondF S rfl hc37 ?_
  refine wp_skip (leafT (hK32 _ _ ?_))
  refine sSeq (fun K39 hK39 => ?_)
  obtain ⟨x40, hx41, h⟩ := bindSome h
  obtain ⟨x45, hx46, h⟩ := bindSome h
  obtain ⟨q50, hq51, S⟩ := pIdx (P := Try.prog) (r := (rI .i64)) (v := .slice ad21 r8.1.rows.length cp22) (xs := r8.1.rows) (j := p1) 32 3 1 S Try.underlying32 rfl rfl hx41
  obtain ⟨u52, S⟩ := pLoad (r := (rI .i64)) (q := q50) (x := x40) 0 S rfl
  obtain rfl : u52 = iv x40 := S.mem.know (i := 1) (e := fRep (rI .i64) (u52) x40) rfl
  obtain ⟨q53, hq54, S⟩ := pIdx (P := Try.prog) (r := (rI .i64)) (v := .slice ad21 r8.1.rows.length cp22) (xs := r8.1.rows) (j := w64 (p1 + 1)) 32 3 4 S Try.underlying32 rfl rfl hx46
  obtain ⟨u55, S⟩ := pLoad (r := (rI .i64)) (q := q53) (x := x45) 0 S rfl
  obtain rfl : u55 = iv x45 := S.mem.know (i := 1) (e := fRep (rI .i64) (u55) x45) rfl
  refine sDraw (nf := []) (W := [(0, 25, .pointer (some ⟨b27, 1, none⟩)), (1, 26, .slice ad21 r8.1.rows.length cp22), (2, 27, iv p1), (3, 28, q50), (4, 29, iv x40), (5, 30, .pointer (some ⟨b27, 1, none⟩)), (6, 31, .slice ad21 r8.1.rows.length cp22), (7, 32, iv p1), (8, 33, iv (w64 (p1 + 1))), (9, 34, q53), (10, 35, iv x45), (11, 4, iv x40), (12, 5, iv x45), (13, 6, iv 0)]) rfl S ?_
  refine node_by (A := anc_loops_Row_0) (nf := []) (Y := []) (W := [(0, 25, .pointer (some ⟨b27, 1, none⟩)), (1, 26, .slice ad21 r8.1.rows.length cp22), (2, 27, iv p1), (3, 28, q50), (4, 29, iv x40), (5, 30, .pointer (some ⟨b27, 1, none⟩)), (6, 31, .slice ad21 r8.1.rows.length cp22), (7, 32, iv p1), (8, 33, iv (w64 (p1 + 1))), (9, 34, q53), (10, 35, iv x45), (11, 4, iv x40), (12, 5, iv x45), (13, 6, iv 0)]) 14 (by kernel_rfl) (by kernel_rfl) (by kernel_rfl) (by kernel_rfl) (by kernel_rfl) [0, 1, 2, 3, 4, 5, 6, 7, 8, 9, 10, 11, 12, 13] (by kernel_rfl) (by decide) (by decide) (aF 0 13 (by decide) ?_ (aF 1 12 (by decide) ?_ (aF 2 11 (by decide) ?_ (aF 3 10 (by decide) ?_ (aF 4 9 (by decide) ?_ (aF 5 8 (by decide) ?_ (aF 6 7 (by decide) ?_ (aF 7 6 (by decide) ?_ (aF 8 5 (by decide) ?_ (aF 9 4 (by decide) ?_ (aF 10 3 (by decide) ?_ (aF 11 2 (by decide) ?_ (aF 12 1 (by decide) ?_ (aF 13 0 (by decide) ?_ (trivial))))))))))))))) [(4, iv x40), (5, iv x45), (6, iv 0)] (fin_of [some 11, some 12, some 13] rfl (by kernel_rfl) (by kernel_rfl)) (fun _ a w S => ?_)
  · refine fI 25 (.pointer (some ⟨b27, 1, none⟩)) [(7, .pointer (some ⟨b27, 0, none⟩))] 0 [none] rfl rfl rfl rfl rfl rfl fun G a w S => ?_
    refine sField (b := b27) (off := 0) 1 1 S (wN rfl) rfl rfl rfl rfl rfl (lb rfl) fun a S => ?_
    exact leafL ⟨rfl, S⟩
  · refine fI 26 (.slice ad21 r8.1.rows.length cp22) [(25, .pointer (some ⟨b27, 1, none⟩))] 1 [some 0] rfl rfl rfl rfl rfl rfl fun G a w S => ?_
    refine sLoad1 (p := b27) (off := 1) (T := 73) (vs := [.slice ad19 r8.1.loops.length cp20, .slice ad21 r8.1.rows.length cp22, .slice ad23 r8.1.bound.length cp24, .slice ad25 r8.1.cross.length cp26, iv r8.1.next]) 0 (.slice ad21 r8.1.rows.length cp22) S (wN rfl) rfl rfl rfl rfl rfl rfl (lb rfl) fun a S => ?_
    exact leafL ⟨rfl, S⟩
  · refine fI 27 (iv p1) [(1, iv p1)] 2 [none] rfl rfl rfl rfl rfl rfl fun G a w S => ?_
    refine sMove (iv p1) S (wN rfl) (.inl rfl) rfl rfl (lb rfl) fun a S => ?_
    exact leafL ⟨rfl, S⟩
  · refine fI 28 q50 [(26, .slice ad21 r8.1.rows.length cp22), (27, iv p1)] 3 [some 1, some 2] rfl rfl rfl rfl rfl rfl fun G a w S => ?_
    refine sIdxV (v := .slice ad21 r8.1.rows.length cp22) (k := .i64) (j := p1) S (wN rfl) rfl rfl rfl hq51 rfl (lb rfl) fun a S => ?_
    exact leafL ⟨rfl, S⟩
  · refine fI 29 (iv x40) [(28, q50)] 4 [some 3] rfl rfl rfl rfl rfl rfl fun G a w S => ?_
    refine sLoadV1 (vq := q50) 3 (iv x40) S (wN rfl) rfl rfl rfl rfl rfl (lb rfl) fun a S => ?_
    exact leafL ⟨rfl, S⟩
  · refine fI 30 (.pointer (some ⟨b27, 1, none⟩)) [(7, .pointer (some ⟨b27, 0, none⟩))] 5 [none] rfl rfl rfl rfl rfl rfl fun G a w S => ?_
    refine sField (b := b27) (off := 0) 1 1 S (wN rfl) rfl rfl rfl rfl rfl (lb rfl) fun a S => ?_
    exact leafL ⟨rfl, S⟩
  · refine fI 31 (.slice ad21 r8.1.rows.length cp22) [(30, .pointer (some ⟨b27, 1, none⟩))] 6 [some 5] rfl rfl rfl rfl rfl rfl fun G a w S => ?_
    refine sLoad1 (p := b27) (off := 1) (T := 73) (vs := [.slice ad19 r8.1.loops.length cp20, .slice ad21 r8.1.rows.length cp22, .slice ad23 r8.1.bound.length cp24, .slice ad25 r8.1.cross.length cp26, iv r8.1.next]) 0 (.slice ad21 r8.1.rows.length cp22) S (wN rfl) rfl rfl rfl rfl rfl rfl (lb rfl) fun a S => ?_
    exact leafL ⟨rfl, S⟩
  · refine fI 32 (iv p1) [(1, iv p1)] 7 [none] rfl rfl rfl rfl rfl rfl fun G a w S => ?_
    refine sMove (iv p1) S (wN rfl) (.inl rfl) rfl rfl (lb rfl) fun a S => ?_
    exact leafL ⟨rfl, S⟩
  · refine fI 33 (iv (w64 (p1 + 1))) [(32, iv p1)] 8 [some 7] rfl rfl rfl rfl rfl rfl fun G a w S => ?_
    refine sBin (iv (w64 (p1 + 1))) S (wN rfl) rfl rfl rfl (bAdd _ _ _ _ p1 1) rfl (lb rfl) fun a S => ?_
    exact leafL ⟨rfl, S⟩
  · refine fI 34 q53 [(31, .slice ad21 r8.1.rows.length cp22), (33, iv (w64 (p1 + 1)))] 9 [some 6, some 8] rfl rfl rfl rfl rfl rfl fun G a w S => ?_
    refine sIdxV (v := .slice ad21 r8.1.rows.length cp22) (k := .i64) (j := w64 (p1 + 1)) S (wN rfl) rfl rfl rfl hq54 rfl (lb rfl) fun a S => ?_
    exact leafL ⟨rfl, S⟩
  · refine fI 35 (iv x45) [(34, q53)] 10 [some 9] rfl rfl rfl rfl rfl rfl fun G a w S => ?_
    refine sLoadV1 (vq := q53) 0 (iv x45) S (wN rfl) rfl rfl rfl rfl rfl (lb rfl) fun a S => ?_
    exact leafL ⟨rfl, S⟩
  · refine fI 4 (iv x40) [(29, iv x40)] 11 [some 4] rfl rfl rfl rfl rfl rfl fun G a w S => ?_
    refine sMove (iv x40) S (wN rfl) (.inr rfl) rfl rfl (lb rfl) fun a S => ?_
    exact leafL ⟨rfl, S⟩
  · refine fI 5 (iv x45) [(35, iv x45)] 12 [some 10] rfl rfl rfl rfl rfl rfl fun G a w S => ?_
    refine sMove (iv x45) S (wN rfl) (.inr rfl) rfl rfl (lb rfl) fun a S => ?_
    exact leafL ⟨rfl, S⟩
  · refine fI 6 (iv 0) [] 13 [] rfl rfl rfl rfl rfl rfl fun G a w S => ?_
    refine sMove (iv 0) S (wN rfl) (.inr rfl) rfl rfl (lb rfl) fun a S => ?_
    exact leafL ⟨rfl, S⟩
  refine leafT (hK39 _ _ ?_)
  obtain rfl := Option.some.inj h
  exact wp_ret (sRet (.tuple #[iv x40, iv x45, iv 0]) S (rsl3 rfl (rvT (t := 4) (v := iv x40) S rfl) (rvT (t := 5) (v := iv x45) S rfl) (rvT (t := 6) (v := iv 0) S rfl)) ⟨(), rfl, S.mem.sel [] [] (by decide) rfl rfl⟩)

end Go.Proofs.Yticjoiolfibmlaa
namespace Go.Proofs.Yticjoiolfibmlaa
open Go.RowKit
set_option linter.unusedVariables false

noncomputable def slices_Index___int_int__l1 (p0 : (List Int)) (p1 : Int) : Int → Option (Int ⊕ (Int ⊕ Unit)) := fun s0 => match s0 with
  | s7 =>
    if decide (s7 < (p0.length : Int)) then
      Option.bind (idxO p0 s7) fun x17 =>
      if p1 == x17 then
        some (.inr (.inl s7))
      else
        some (.inl (w64 (s7 + 1)))
    else
      some (.inr (.inr ()))
noncomputable def F_slices_Index___int_int_ (p0 : (List Int)) (p1 : Int) : Option Int :=
  Option.bind (α := Unit ⊕ Int) (
    Option.bind (whileO (slices_Index___int_int__l1 p0 p1) 0) fun z0 => match z0 with
      | .inl z =>
        some (.inr z)
      | .inr _ =>
        some (.inl ())) fun z0 => match z0 with
    | .inl _ =>
      some (-1)
    | .inr z =>
      some z
set_option maxHeartbeats 4000000 in
set_option maxRecDepth 100000 in
theorem c_slices_Index___int_int_ (E : Nat → Prop) (w0 : World) (p0 : (List Int)) (v0 : Value) (p1 : Int) (r : Int) (h : F_slices_Index___int_int_ p0 p1 = some r) (S : St0 E [] w0 w0 [] [fRep (rL (rI .i64)) (v0) p0]) :
    Calls Try.prog 50 #[v0, iv p1] w0 (Ret (X := Unit) E [] w0 (fun _ => .int .i64 r) (fun _ => []) (fun _ => [])) := by
  unfold F_slices_Index___int_int_ at h
  obtain ⟨ad1, cp2, _, rfl, _⟩ := S.know (i := 0) (e := fRep (rL (rI .i64)) (v0) p0) rfl
  refine sEnter (args := [.slice ad1 p0.length cp2, iv p1]) 19 Try.func50 rfl rfl (by simp) S (fun a S => ?_)
  refine sSeq (fun K3 hK3 => ?_)
  refine sRegion ?_
  refine sMove (iv 0) S (wN rfl) (.inr rfl) rfl rfl (lb rfl) fun a S => ?_
  refine leafL (leafT (hK3 _ _ ?_))
  obtain ⟨t4, h, g5⟩ := bindSome h
  refine sCut (fun a w => .inl () = t4 ∧ St [] E [] w0 19 a w [] [] []) ?_ (fun a w hI => ?_)
  rotate_left
  · obtain ⟨rfl, S⟩ := hI
    have h := g5
    clear g5
    try dsimp only at h
    refine sSeq (fun K24 hK24 => ?_)
    refine sRegion ?_
    refine sMove (iv (-1)) S (wN rfl) (.inr rfl) rfl rfl (lb rfl) fun a S => ?_
    refine leafL (leafT (hK24 _ _ ?_))
    obtain rfl := Option.some.inj h
    exact wp_ret (sRet (iv (-1)) S (rsl1 rfl (rvT (t := 4) (v := iv (-1)) S rfl)) ⟨(), rfl, S.mem.sel [] [] (by decide) rfl rfl⟩)
  refine sSeq (fun K6 hK6 => ?_)
  refine sRegion ?_
  refine sMove (.slice ad1 p0.length cp2) S (wN rfl) (.inl rfl) rfl rfl (lb rfl) fun a S => ?_
  refine sLen (ad := ad1) (m := p0.length) (c := cp2) S (wN rfl) rfl Try.underlying32 rfl rfl (lb rfl) fun a S => ?_
  refine sMove (iv 0) S (wN rfl) (.inl rfl) rfl rfl (lb rfl) fun a S => ?_
  refine leafL (leafT (hK6 _ _ ?_))
  refine wp_block ?_
  obtain ⟨t10, hl, g9⟩ := bindSome h
  refine sLoop hl (fun s0 a w => match s0 with | s7 => St [] E [] w0 19 a w [(0, .slice ad1 p0.length cp2), (1, iv p1), (7, iv (p0.length : Int)), (8, iv s7)] [] [fRep (rL (rI .i64)) (.slice ad1 p0.length cp2) p0]) (S.fix [] [0] (by decide) rfl rfl rfl) ?_
  clear hl h
  intro s7 a w c0 hI h hu8
  unfold slices_Index___int_int__l1 at h
  dsimp only at h hI
  have S := hI
  refine sSeq (fun K11 hK11 => ?_)
  refine sRegion ?_
  refine sBin (.bool (decide (s7 < (p0.length : Int)))) S (wN rfl) rfl rfl rfl (bLt _ _ _ _ .i64 s7 (p0.length : Int)) rfl (lb rfl) fun a S => ?_
  refine leafL (leafT (hK11 _ _ ?_))
  refine sSeq (fun K12 hK12 => ?_)
  rcases iteSome h with ⟨hc13, h⟩ | ⟨hc13, h⟩
  rotate_left
  · refine sCondF S rfl hc13 ?_
    obtain rfl := Option.some.inj h
    obtain rfl := hu8 _ rfl
    have h := g9
    clear g9
    try dsimp only at h
    exact wp_exit (xThen (xThen (xHit (leafT (⟨Option.some.inj h, S.fix [] [] (by decide) rfl rfl rfl⟩)))))
  refine sCondT S rfl hc13 ?_
  refine wp_skip (leafT (hK12 _ _ ?_))
  refine sSeq (fun K14 hK14 => ?_)
  refine wp_block ?_
  refine sSeq (fun K15 hK15 => ?_)
  refine sRegion ?_
  refine sMove (iv s7) S (wN rfl) (.inl rfl) rfl rfl (lb rfl) fun a S => ?_
  refine sMove (iv s7) S (wN rfl) (.inr rfl) rfl rfl (lb rfl) fun a S => ?_
  refine leafL (leafT (hK15 _ _ ?_))
  refine sSeq (fun K16 hK16 => ?_)
  refine sRegion ?_
  refine sMove (iv p1) S (wN rfl) (.inl rfl) rfl rfl (lb rfl) fun a S => ?_
  refine sMove (.slice ad1 p0.length cp2) S (wN rfl) (.inl rfl) rfl rfl (lb rfl) fun a S => ?_
  refine sMove (iv s7) S (wN rfl) (.inl rfl) rfl rfl (lb rfl) fun a S => ?_
  obtain ⟨x17, hx18, h⟩ := bindSome h
  obtain ⟨q19, hq20, S⟩ := pIdx (P := Try.prog) (r := (rI .i64)) (v := .slice ad1 p0.length cp2) (xs := p0) (j := s7) 32 3 0 S Try.underlying32 rfl rfl hx18
  refine sIdxV (v := .slice ad1 p0.length cp2) (k := .i64) (j := s7) S (wN rfl) rfl rfl rfl hq20 rfl (lb rfl) fun a S => ?_
  obtain ⟨u21, S⟩ := pLoad (r := (rI .i64)) (q := q19) (x := x17) 0 S rfl
  obtain rfl : u21 = iv x17 := S.mem.know (i := 1) (e := fRep (rI .i64) (u21) x17) rfl
  refine sLoadV1 (vq := q19) 0 (iv x17) S (wN rfl) rfl rfl rfl rfl rfl (lb rfl) fun a S => ?_
  refine sBin (.bool (p1 == x17)) S (wN rfl) rfl rfl rfl (bEq _ _ _ _ .i64 p1 x17) rfl (lb rfl) fun a S => ?_
  refine leafL (leafT (hK16 _ _ ?_))
  rcases iteSome h with ⟨hc22, h⟩ | ⟨hc22, h⟩
  rotate_left
  · refine sCondF S rfl hc22 ?_
    refine wp_skip (leafB (leafT (hK14 _ _ ?_)))
    refine sRegion ?_
    refine sBin (iv (w64 (s7 + 1))) S (wN rfl) rfl rfl rfl (bAdd _ _ _ _ s7 1) rfl (lb rfl) fun a S => ?_
    refine sMove (iv (w64 (s7 + 1))) S (wN rfl) (.inl rfl) rfl rfl (lb rfl) fun a S => ?_
    exact leafL (leafT (⟨w64 (s7 + 1), (Option.some.inj h).symm, (S.fix [] [3] (by decide) rfl rfl rfl)⟩))
  refine sCondT S rfl hc22 ?_
  refine sSeq (fun K23 hK23 => ?_)
  refine sRegion ?_
  refine sMove (iv s7) S (wN rfl) (.inl rfl) rfl rfl (lb rfl) fun a S => ?_
  refine sMove (iv s7) S (wN rfl) (.inr rfl) rfl rfl (lb rfl) fun a S => ?_
  refine leafL (leafT (hK23 _ _ ?_))
  obtain rfl := Option.some.inj h
  obtain rfl := hu8 _ rfl
  have h := g9
  clear g9
  try dsimp only at h
  obtain rfl := Option.some.inj h
  have h := g5
  clear g5
  try dsimp only at h
  obtain rfl := Option.some.inj h
  exact wp_ret (rBlock (rThen (rThen (rBlock (rThen (sRet (iv s7) S (rsl1 rfl (rvT (t := 4) (v := iv s7) S rfl)) ⟨(), rfl, S.mem.sel [] [] (by decide) rfl rfl⟩))))))

end Go.Proofs.Yticjoiolfibmlaa
namespace Go.Proofs.Yticjoiolfibmlaa
open Go.RowKit
set_option linter.unusedVariables false

noncomputable def F_slices_Contains___int_int_ (p0 : (List Int)) (p1 : Int) : Option Bool :=
  Option.bind (F_slices_Index___int_int_ p0 p1) fun r5 =>
  some (decide (0 ≤ r5))
set_option maxHeartbeats 4000000 in
set_option maxRecDepth 100000 in
theorem c_slices_Contains___int_int_ (E : Nat → Prop) (w0 : World) (p0 : (List Int)) (v0 : Value) (p1 : Int) (r : Bool) (h : F_slices_Contains___int_int_ p0 p1 = some r) (S : St0 E [] w0 w0 [] [fRep (rL (rI .i64)) (v0) p0]) :
    Calls Try.prog 37 #[v0, iv p1] w0 (Ret (X := Unit) E [] w0 (fun _ => .bool r) (fun _ => []) (fun _ => [])) := by
  unfold F_slices_Contains___int_int_ at h
  obtain ⟨ad1, cp2, _, rfl, _⟩ := S.know (i := 0) (e := fRep (rL (rI .i64)) (v0) p0) rfl
  refine sEnter (args := [.slice ad1 p0.length cp2, iv p1]) 9 Try.func37 rfl rfl (by simp) S (fun a S => ?_)
  refine sSeq (fun K3 hK3 => ?_)
  refine sRegion ?_
  refine sMove (.bool false) S (wN rfl) (.inr rfl) rfl rfl (lb rfl) fun a S => ?_
  refine leafL (leafT (hK3 _ _ ?_))
  refine sSeq (fun K4 hK4 => ?_)
  refine sRegion ?_
  refine sMove (.slice ad1 p0.length cp2) S (wN rfl) (.inl rfl) rfl rfl (lb rfl) fun a S => ?_
  refine sMove (iv p1) S (wN rfl) (.inl rfl) rfl rfl (lb rfl) fun a S => ?_
  obtain ⟨r5, hx6, h⟩ := bindSome h
  have S1 := S.mem
  refine sCallQ (X := Unit) (f := 50) (vs := [.slice ad1 p0.length cp2, iv p1]) (val := fun _ => iv r5) S (wN rfl) rfl callee50 rfl (S1.quiet [0] rfl) (fun E1 w1 S1 => c_slices_Index___int_int_ E1 w1 p0 (.slice ad1 p0.length cp2) p1 r5 hx6 S1) rfl (lb rfl) fun _ a w S => ?_
  refine sBin (.bool (decide (0 ≤ r5))) S (wN rfl) rfl rfl rfl (bGe _ _ _ _ .i64 r5 0) rfl (lb rfl) fun a S => ?_
  refine sMove (.bool (decide (0 ≤ r5))) S (wN rfl) (.inr rfl) rfl rfl (lb rfl) fun a S => ?_
  refine leafL (leafT (hK4 _ _ ?_))
  obtain rfl := Option.some.inj h
  exact wp_ret (sRet (.bool (decide (0 ≤ r5))) S (rsl1 rfl (rvT (t := 4) (v := .bool (decide (0 ≤ r5))) S rfl)) ⟨(), rfl, S.mem.sel [] [] (by decide) rfl rfl⟩)

end Go.Proofs.Yticjoiolfibmlaa
namespace Go.Proofs.Yticjoiolfibmlaa
open Go.RowKit
set_option linter.unusedVariables false

noncomputable def loops_Kids_s0_l1 (r8 : (loops_piece × Int)) (p1 : Int) : (List Int × Int) → Option ((List Int × Int) ⊕ List Int) := fun s0 => match s0 with
  | (s37, s40) =>
    if decide (s40 < (r8.1.loops.length : Int)) then
      Option.bind (α := List Int) (
        Option.bind (idxO r8.1.loops s40) fun x56 =>
        Option.bind (F_slices_Contains___int_int_ x56.Parents p1) fun r67 =>
        if r67 then
          Option.bind (appO s37 ([s40] : List Int)) fun l72 =>
          some l72
        else
          some s37) fun o50 =>
      some (.inl (o50, w64 (s40 + 1)))
    else
      some (.inr s37)
noncomputable def F_loops_Kids_s0 (p0 : api_Chart) (p1 : Int) : Option ((List Int) × Int) :=
  Option.bind (F_loops_of_s0 p0) fun r8 =>
  if r8.2 != 0 then
    some (([] : (List Int)), r8.2)
  else
    Option.bind (α := Bool) (
      if decide (p1 < 0) then
        some true
      else
        some (decide ((r8.1.loops.length : Int) ≤ p1))) fun o24 =>
    if o24 then
      some (([] : (List Int)), 2)
    else
      Option.bind (α := List Int) (
        Option.bind (whileO (loops_Kids_s0_l1 r8 p1) (([] : List Int), 0)) fun e44 =>
          some e44) fun o31 =>
      some (o31, 0)
set_option maxHeartbeats 4000000 in
set_option maxRecDepth 100000 in
theorem c_loops_Kids_s0 (E : Nat → Prop) (w0 : World) (p0 : api_Chart) (v0 : Value) (p1 : Int) (r : ((List Int) × Int)) (h : F_loops_Kids_s0 p0 p1 = some r) (S : St0 E [] w0 w0 [] [fRep r_api_Chart (v0) p0]) :
    Calls Try.prog 24 #[v0, iv p1] w0 (Ret (X := Option Addr × Nat) E [] w0 (fun x => .tuple #[.slice x.1 r.1.length x.2, iv r.2]) (fun x => [eRow (rI .i64) 3 (.slice x.1 r.1.length x.2) r.1]) (fun _ => [])) := by
  unfold F_loops_Kids_s0 at h
  obtain ⟨u1, rfl, hu2⟩ := S.know (i := 0) (e := fRep r_api_Chart (v0) p0) rfl
  have S := S.learn (fRep (rL r_api_Row) u1 p0.Rows) hu2
  obtain ⟨ad3, cp4, _, rfl, _⟩ := hu2
  refine sEnter (args := [.agg #[iv p0.Start, .slice ad3 p0.Rows.length cp4], iv p1]) 46 Try.func24 rfl rfl (by simp) S (fun a S => ?_)
  refine sSeq (fun K5 hK5 => ?_)
  refine sRegion ?_
  refine sBox (v := .agg #[iv p0.Start, .slice ad3 p0.Rows.length cp4]) S (wN rfl) rfl rfl [iv p0.Start, .slice ad3 p0.Rows.length cp4] rfl rfl (lb rfl) fun a b6 w S => ?_
  refine sMove (.slice none 0 0) S (wN rfl) (.inr rfl) rfl rfl (lb rfl) fun a S => ?_
  refine sMove (iv 0) S (wN rfl) (.inr rfl) rfl rfl (lb rfl) fun a S => ?_
  refine leafL (leafT (hK5 _ _ ?_))
  refine sSeq (fun K7 hK7 => ?_)
  refine sRegion ?_
  refine sLoadN (p := b6) (off := 0) (T := 24) (vs := [iv p0.Start, .slice ad3 p0.Rows.length cp4]) 0 [iv p0.Start, .slice ad3 p0.Rows.length cp4] S (wN rfl) rfl rfl rfl rfl rfl rfl rfl (lb rfl) fun a S => ?_
  obtain ⟨r8, hx9, h⟩ := bindSome h
  refine sCall (X := Option Addr × Nat × Option Addr × Nat × Option Addr × Nat × Option Addr × Nat) (f := 33) (vs := [.agg #[iv p0.Start, .slice ad3 p0.Rows.length cp4]]) (val := fun x => .tuple #[.agg #[.slice x.1 r8.1.loops.length x.2.1, .slice x.2.2.1 r8.1.rows.length x.2.2.2.1, .slice x.2.2.2.2.1 r8.1.bound.length x.2.2.2.2.2.1, .slice x.2.2.2.2.2.2.1 r8.1.cross.length x.2.2.2.2.2.2.2, iv r8.1.next], iv r8.2]) (B' := fun x => [eRow r_api_Loop 48 (.slice x.1 r8.1.loops.length x.2.1) r8.1.loops, eRow (rI .i64) 3 (.slice x.2.2.1 r8.1.rows.length x.2.2.2.1) r8.1.rows, eRow (rI .i64) 3 (.slice x.2.2.2.2.1 r8.1.bound.length x.2.2.2.2.2.1) r8.1.bound, eRow r_A2_Int 49 (.slice x.2.2.2.2.2.2.1 r8.1.cross.length x.2.2.2.2.2.2.2) r8.1.cross]) (D' := fun _ => []) [] [eBox b6 24 [iv p0.Start, .slice ad3 p0.Rows.length cp4]] [fRep r_api_Chart (.agg #[iv p0.Start, .slice ad3 p0.Rows.length cp4]) p0] [0] [1] S (wN rfl) rfl callee33 rfl (by decide) rfl rfl (fun E1 w1 S1 => c_loops_of_s0 E1 w1 p0 (.agg #[iv p0.Start, .slice ad3 p0.Rows.length cp4]) r8 hx9 S1) rfl (lb rfl) fun xx a w S => ?_
  obtain ⟨ad10, cp11, ad12, cp13, ad14, cp15, ad16, cp17⟩ := xx
  dsimp only at S
  refine sMove (.tuple #[.agg #[.slice ad10 r8.1.loops.length cp11, .slice ad12 r8.1.rows.length cp13, .slice ad14 r8.1.bound.length cp15, .slice ad16 r8.1.cross.length cp17, iv r8.1.next], iv r8.2]) S (wN rfl) (.inl rfl) rfl rfl (lb rfl) fun a S => ?_
  refine sExtract (vs := [.agg #[.slice ad10 r8.1.loops.length cp11, .slice ad12 r8.1.rows.length cp13, .slice ad14 r8.1.bound.length cp15, .slice ad16 r8.1.cross.length cp17, iv r8.1.next], iv r8.2]) (.agg #[.slice ad10 r8.1.loops.length cp11, .slice ad12 r8.1.rows.length cp13, .slice ad14 r8.1.bound.length cp15, .slice ad16 r8.1.cross.length cp17, iv r8.1.next]) S (wN rfl) rfl rfl rfl rfl (lb rfl) fun a S => ?_
  refine sExtract (vs := [.agg #[.slice ad10 r8.1.loops.length cp11, .slice ad12 r8.1.rows.length cp13, .slice ad14 r8.1.bound.length cp15, .slice ad16 r8.1.cross.length cp17, iv r8.1.next], iv r8.2]) (iv r8.2) S (wN rfl) rfl rfl rfl rfl (lb rfl) fun a S => ?_
  refine sAlloc (.agg #[.slice none 0 0, .slice none 0 0, .slice none 0 0, .slice none 0 0, iv 0]) S (wN rfl) rfl rfl [.slice none 0 0, .slice none 0 0, .slice none 0 0, .slice none 0 0, iv 0] rfl rfl (lb rfl) fun a b18 w S => ?_
  refine sStore (p := b18) (off := 0) (T := 73) (vs := [.slice none 0 0, .slice none 0 0, .slice none 0 0, .slice none 0 0, iv 0]) (v := .agg #[.slice ad10 r8.1.loops.length cp11, .slice ad12 r8.1.rows.length cp13, .slice ad14 r8.1.bound.length cp15, .slice ad16 r8.1.cross.length cp17, iv r8.1.next]) 0 [.slice ad10 r8.1.loops.length cp11, .slice ad12 r8.1.rows.length cp13, .slice ad14 r8.1.bound.length cp15, .slice ad16 r8.1.cross.length cp17, iv r8.1.next] S (wN rfl) rfl rfl rfl rfl rfl rfl rfl (by simp) rfl fun a w S => ?_
  refine sMove (iv r8.2) S (wN rfl) (.inr rfl) rfl rfl (lb rfl) fun a S => ?_
  refine leafL (leafT (hK7 _ _ ?_))
  refine sSeq (fun K19 hK19 => ?_)
  refine sSeq (fun K20 hK20 => ?_)
  refine sRegion ?_
  refine sMove (iv r8.2) S (wN rfl) (.inl rfl) rfl rfl (lb rfl) fun a S => ?_
  refine sBin (.bool (r8.2 != 0)) S (wN rfl) rfl rfl rfl (bNe _ _ _ _ .i64 r8.2 0) rfl (lb rfl) fun a S => ?_
  refine leafL (leafT (hK20 _ _ ?_))
  rcases iteSome h with ⟨hc21, h⟩ | ⟨hc21, h⟩
  · refine sCondT S rfl hc21 ?_
    refine sSeq (fun K22 hK22 => ?_)
    refine sRegion ?_
    refine sMove (iv r8.2) S (wN rfl) (.inl rfl) rfl rfl (lb rfl) fun a S => ?_
    refine sMove (.slice none 0 0) S (wN rfl) (.inr rfl) rfl rfl (lb rfl) fun a S => ?_
    refine sMove (iv r8.2) S (wN rfl) (.inr rfl) rfl rfl (lb rfl) fun a S => ?_
    refine leafL (leafT (hK22 _ _ ?_))
    obtain rfl := Option.some.inj h
    have S := S.nilRow (rI .i64) 3 (α := Int)
    exact wp_ret (rThen (sRet (.tuple #[.slice none 0 0, iv r8.2]) S (rsl2 rfl (rvT (t := 4) (v := .slice none 0 0) S rfl) (rvT (t := 5) (v := iv r8.2) S rfl)) ⟨(none, 0), rfl, S.mem.sel [0] [] (by decide) rfl rfl⟩))
  refine sCondF S rfl hc21 ?_
  refine wp_skip (leafT (hK19 _ _ ?_))
  refine sSeq (fun K23 hK23 => ?_)
  obtain ⟨t25, h, g26⟩ := bindSome h
  refine sCut (fun a w => ∃ o24, o24 = t25 ∧ St [] E [] w0 46 a w [(1, iv p1), (6, .pointer (some ⟨b18, 0, none⟩)), (27, .bool o24)] [eBox b18 73 [.slice ad10 r8.1.loops.length cp11, .slice ad12 r8.1.rows.length cp13, .slice ad14 r8.1.bound.length cp15, .slice ad16 r8.1.cross.length cp17, iv r8.1.next], eRow r_api_Loop 48 (.slice ad10 r8.1.loops.length cp11) r8.1.loops, eRow (rI .i64) 3 (.slice ad12 r8.1.rows.length cp13) r8.1.rows, eRow (rI .i64) 3 (.slice ad14 r8.1.bound.length cp15) r8.1.bound, eRow r_A2_Int 49 (.slice ad16 r8.1.cross.length cp17) r8.1.cross] []) ?_ (fun a w hI => ?_)
  · refine sRegion ?_
    refine sMove (iv p1) S (wN rfl) (.inl rfl) rfl rfl (lb rfl) fun a S => ?_
    refine sBin (.bool (decide (p1 < 0))) S (wN rfl) rfl rfl rfl (bLt _ _ _ _ .i64 p1 0) rfl (lb rfl) fun a S => ?_
    refine sMove (.bool (decide (p1 < 0))) S (wN rfl) (.inl rfl) rfl rfl (lb rfl) fun a S => ?_
    rcases iteSome h with ⟨hc27, h⟩ | ⟨hc27, h⟩
    · refine sSkip 2 false 21 22 S rfl rfl rfl hc27 rfl (lb rfl) fun a S => ?_
      refine sSkip 2 false 21 23 S rfl rfl rfl hc27 rfl (lb rfl) fun a S => ?_
      refine sSkip 2 false 21 24 S rfl rfl rfl hc27 rfl (lb rfl) fun a S => ?_
      refine sSkip 2 false 21 25 S rfl rfl rfl hc27 rfl (lb rfl) fun a S => ?_
      refine sSkip 2 false 21 26 S rfl rfl rfl hc27 rfl (lb rfl) fun a S => ?_
      refine sPickT (.bool true) S (wN rfl) rfl rfl hc27 rfl rfl (lb rfl) fun a S => ?_
      exact leafL (leafT (⟨true, Option.some.inj h, S.fix [0, 1, 2, 3, 4] [] (by decide) rfl rfl rfl⟩))
    refine sMove (iv p1) S (wG 2 false 21 rfl rfl rfl hc27) (.inl rfl) rfl rfl (lb rfl) fun a S => ?_
    refine sField (b := b18) (off := 0) 0 0 S (wG 2 false 21 rfl rfl rfl hc27) rfl rfl rfl rfl rfl (lb rfl) fun a S => ?_
    refine sLoad1 (p := b18) (off := 0) (T := 73) (vs := [.slice ad10 r8.1.loops.length cp11, .slice ad12 r8.1.rows.length cp13, .slice ad14 r8.1.bound.length cp15, .slice ad16 r8.1.cross.length cp17, iv r8.1.next]) 0 (.slice ad10 r8.1.loops.length cp11) S (wG 2 false 21 rfl rfl rfl hc27) rfl rfl rfl rfl rfl rfl (lb rfl) fun a S => ?_
    refine sLen (ad := ad10) (m := r8.1.loops.length) (c := cp11) S (wG 2 false 21 rfl rfl rfl hc27) rfl Try.underlying26 rfl rfl (lb rfl) fun a S => ?_
    refine sBin (.bool (decide ((r8.1.loops.length : Int) ≤ p1))) S (wG 2 false 21 rfl rfl rfl hc27) rfl rfl rfl (bGe _ _ _ _ .i64 p1 (r8.1.loops.length : Int)) rfl (lb rfl) fun a S => ?_
    refine sPickF (.bool (decide ((r8.1.loops.length : Int) ≤ p1))) S (wN rfl) rfl rfl hc27 rfl rfl (lb rfl) fun a S => ?_
    exact leafL (leafT (⟨decide ((r8.1.loops.length : Int) ≤ p1), Option.some.inj h, S.fix [0, 1, 2, 3, 4] [] (by decide) rfl rfl rfl⟩))
  obtain ⟨o24, rfl, S⟩ := hI
  have h := g26
  clear g26
  try dsimp only at h
  rcases iteSome h with ⟨hc28, h⟩ | ⟨hc28, h⟩
  · refine sCondT S rfl hc28 ?_
    refine sSeq (fun K29 hK29 => ?_)
    refine sRegion ?_
    refine sMove (.slice none 0 0) S (wN rfl) (.inr rfl) rfl rfl (lb rfl) fun a S => ?_
    refine sMove (iv 2) S (wN rfl) (.inr rfl) rfl rfl (lb rfl) fun a S => ?_
    refine leafL (leafT (hK29 _ _ ?_))
    obtain rfl := Option.some.inj h
    have S := S.nilRow (rI .i64) 3 (α := Int)
    exact wp_ret (rThen (sRet (.tuple #[.slice none 0 0, iv 2]) S (rsl2 rfl (rvT (t := 4) (v := .slice none 0 0) S rfl) (rvT (t := 5) (v := iv 2) S rfl)) ⟨(none, 0), rfl, S.mem.sel [0] [] (by decide) rfl rfl⟩))
  refine sCondF S rfl hc28 ?_
  refine wp_skip (leafT (hK23 _ _ ?_))
  refine sSeq (fun K30 hK30 => ?_)
  refine sRegion ?_
  refine sMove (.slice none 0 0) S (wN rfl) (.inr rfl) rfl rfl (lb rfl) fun a S => ?_
  refine leafL (leafT (hK30 _ _ ?_))
  obtain ⟨t34, h, g35⟩ := bindSome h
  refine sCut (fun a w => ∃ o31, o31 = t34 ∧ ∃ ad32, ∃ cp33, St [] E [] w0 46 a w [(8, .slice ad32 o31.length cp33)] [eRow (rI .i64) 3 (.slice ad32 o31.length cp33) o31] []) ?_ (fun a w hI => ?_)
  rotate_left
  · obtain ⟨o31, rfl, ad32, cp33, S⟩ := hI
    have h := g35
    clear g35
    try dsimp only at h
    refine sSeq (fun K76 hK76 => ?_)
    refine sRegion ?_
    refine sMove (.slice ad32 o31.length cp33) S (wN rfl) (.inl rfl) rfl rfl (lb rfl) fun a S => ?_
    refine sMove (.slice ad32 o31.length cp33) S (wN rfl) (.inr rfl) rfl rfl (lb rfl) fun a S => ?_
    refine sMove (iv 0) S (wN rfl) (.inr rfl) rfl rfl (lb rfl) fun a S => ?_
    refine leafL (leafT (hK76 _ _ ?_))
    obtain rfl := Option.some.inj h
    exact wp_ret (sRet (.tuple #[.slice ad32 o31.length cp33, iv 0]) S (rsl2 rfl (rvT (t := 4) (v := .slice ad32 o31.length cp33) S rfl) (rvT (t := 5) (v := iv 0) S rfl)) ⟨(ad32, cp33), rfl, S.mem.sel [0] [] (by decide) rfl rfl⟩)
  refine sSeq (fun K36 hK36 => ?_)
  refine sRegion ?_
  refine sField (b := b18) (off := 0) 0 0 S (wN rfl) rfl rfl rfl rfl rfl (lb rfl) fun a S => ?_
  refine sLoad1 (p := b18) (off := 0) (T := 73) (vs := [.slice ad10 r8.1.loops.length cp11, .slice ad12 r8.1.rows.length cp13, .slice ad14 r8.1.bound.length cp15, .slice ad16 r8.1.cross.length cp17, iv r8.1.next]) 0 (.slice ad10 r8.1.loops.length cp11) S (wN rfl) rfl rfl rfl rfl rfl rfl (lb rfl) fun a S => ?_
  refine sLen (ad := ad10) (m := r8.1.loops.length) (c := cp11) S (wN rfl) rfl Try.underlying26 rfl rfl (lb rfl) fun a S => ?_
  refine sMove (iv 0) S (wN rfl) (.inl rfl) rfl rfl (lb rfl) fun a S => ?_
  refine leafL (leafT (hK36 _ _ ?_))
  refine wp_block ?_
  have S := S.shutR (r := r_api_Loop) (T := 48) (v := .slice ad10 r8.1.loops.length cp11) (xs := r8.1.loops) 1 rfl
  have S := S.nilRow (rI .i64) 3 (α := Int)
  obtain ⟨t43, hl, g42⟩ := bindSome h
  refine sLoop hl (fun s0 a w => match s0 with | (s37, s40) => ∃ ad38, ∃ cp39, St [] E [] w0 46 a w [(1, iv p1), (8, .slice ad38 s37.length cp39), (29, .slice ad10 r8.1.loops.length cp11), (30, iv (r8.1.loops.length : Int)), (31, iv s40)] [eRow (rI .i64) 3 (.slice ad38 s37.length cp39) s37] [fRep (rL r_api_Loop) (.slice ad10 r8.1.loops.length cp11) r8.1.loops]) ⟨none, 0, S.fix [0] [0] (by decide) rfl rfl rfl⟩ ?_
  clear hl h
  intro s0 a w c0 hI h hu41
  obtain ⟨s37, s40⟩ := s0
  unfold loops_Kids_s0_l1 at h
  dsimp only at h hI
  obtain ⟨ad38, cp39, S⟩ := hI
  refine sSeq (fun K47 hK47 => ?_)
  refine sRegion ?_
  refine sBin (.bool (decide (s40 < (r8.1.loops.length : Int)))) S (wN rfl) rfl rfl rfl (bLt _ _ _ _ .i64 s40 (r8.1.loops.length : Int)) rfl (lb rfl) fun a S => ?_
  refine leafL (leafT (hK47 _ _ ?_))
  refine sSeq (fun K48 hK48 => ?_)
  rcases iteSome h with ⟨hc49, h⟩ | ⟨hc49, h⟩
  rotate_left
  · refine sCondF S rfl hc49 ?_
    obtain rfl := Option.some.inj h
    obtain rfl := hu41 _ rfl
    have h := g42
    clear g42
    try dsimp only at h
    exact wp_exit (xThen (xThen (xHit (leafT (⟨s37, Option.some.inj h, ad38, cp39, S.fix [0] [] (by decide) rfl rfl rfl⟩)))))
  refine sCondT S rfl hc49 ?_
  refine wp_skip (leafT (hK48 _ _ ?_))
  obtain ⟨t53, h, g54⟩ := bindSome h
  refine sCut (fun a w => ∃ o50, o50 = t53 ∧ ∃ ad51, ∃ cp52, St [] E [] w0 46 a w [(1, iv p1), (8, .slice ad51 o50.length cp52), (29, .slice ad10 r8.1.loops.length cp11), (30, iv (r8.1.loops.length : Int)), (31, iv s40)] [eRow (rI .i64) 3 (.slice ad51 o50.length cp52) o50] [fRep (rL r_api_Loop) (.slice ad10 r8.1.loops.length cp11) r8.1.loops]) ?_ (fun a w hI => ?_)
  rotate_left
  · obtain ⟨o50, rfl, ad51, cp52, S⟩ := hI
    have h := g54
    clear g54
    try dsimp only at h
    refine sRegion ?_
    refine sBin (iv (w64 (s40 + 1))) S (wN rfl) rfl rfl rfl (bAdd _ _ _ _ s40 1) rfl (lb rfl) fun a S => ?_
    refine sMove (iv (w64 (s40 + 1))) S (wN rfl) (.inl rfl) rfl rfl (lb rfl) fun a S => ?_
    exact leafL (leafT (⟨(o50, w64 (s40 + 1)), (Option.some.inj h).symm, ⟨ad51, cp52, S.fix [0] [0] (by decide) rfl rfl rfl⟩⟩))
  refine wp_block ?_
  refine sSeq (fun K55 hK55 => ?_)
  refine sRegion ?_
  refine sMove (iv s40) S (wN rfl) (.inl rfl) rfl rfl (lb rfl) fun a S => ?_
  obtain ⟨x56, hx57, h⟩ := bindSome h
  obtain ⟨q58, hq59, S⟩ := pIdx (P := Try.prog) (r := r_api_Loop) (v := .slice ad10 r8.1.loops.length cp11) (xs := r8.1.loops) (j := s40) 26 48 0 S Try.underlying26 rfl rfl hx57
  refine sIdxV (v := .slice ad10 r8.1.loops.length cp11) (k := .i64) (j := s40) S (wN rfl) rfl rfl rfl hq59 rfl (lb rfl) fun a S => ?_
  obtain ⟨u60, S⟩ := pLoad (r := r_api_Loop) (q := q58) (x := x56) 0 S rfl
  obtain ⟨u61, rfl, hu62⟩ := S.mem.know (i := 1) (e := fRep r_api_Loop (u60) x56) rfl
  have S := S.learn (fRep (rL (rI .i64)) u61 x56.Parents) hu62
  obtain ⟨ad63, cp64, _, rfl, _⟩ := hu62
  refine sLoadVN (vq := q58) 1 [iv x56.Row, iv x56.Cell, .slice ad63 x56.Parents.length cp64, .bool x56.Purl] S (wN rfl) rfl rfl rfl rfl rfl rfl (lb rfl) fun a S => ?_
  refine sAlloc (.agg #[iv 0, iv 0, .slice none 0 0, .bool false]) S (wN rfl) rfl rfl [iv 0, iv 0, .slice none 0 0, .bool false] rfl rfl (lb rfl) fun a b65 w S => ?_
  refine sMove (iv s40) S (wN rfl) (.inr rfl) rfl rfl (lb rfl) fun a S => ?_
  refine sStore (p := b65) (off := 0) (T := 48) (vs := [iv 0, iv 0, .slice none 0 0, .bool false]) (v := .agg #[iv x56.Row, iv x56.Cell, .slice ad63 x56.Parents.length cp64, .bool x56.Purl]) 0 [iv x56.Row, iv x56.Cell, .slice ad63 x56.Parents.length cp64, .bool x56.Purl] S (wN rfl) rfl rfl rfl rfl rfl rfl rfl (by simp) rfl fun a w S => ?_
  refine leafL (leafT (hK55 _ _ ?_))
  refine sSeq (fun K66 hK66 => ?_)
  refine sRegion ?_
  refine sField (b := b65) (off := 0) 2 2 S (wN rfl) rfl rfl rfl rfl rfl (lb rfl) fun a S => ?_
  refine sLoad1 (p := b65) (off := 2) (T := 48) (vs := [iv x56.Row, iv x56.Cell, .slice ad63 x56.Parents.length cp64, .bool x56.Purl]) 0 (.slice ad63 x56.Parents.length cp64) S (wN rfl) rfl rfl rfl rfl rfl rfl (lb rfl) fun a S => ?_
  refine sMove (iv p1) S (wN rfl) (.inl rfl) rfl rfl (lb rfl) fun a S => ?_
  obtain ⟨r67, hx68, h⟩ := bindSome h
  have S1 := S.mem
  refine sCallQ (X := Unit) (f := 37) (vs := [.slice ad63 x56.Parents.length cp64, iv p1]) (val := fun _ => .bool r67) S (wN rfl) rfl callee37 rfl (S1.quiet [0] rfl) (fun E1 w1 S1 => c_slices_Contains___int_int_ E1 w1 x56.Parents (.slice ad63 x56.Parents.length cp64) p1 r67 hx68 S1) rfl (lb rfl) fun _ a w S => ?_
  refine leafL (leafT (hK66 _ _ ?_))
  rcases iteSome h with ⟨hc69, h⟩ | ⟨hc69, h⟩
  rotate_left
  · refine sCondF S rfl hc69 ?_
    exact wp_skip (leafB (leafT (⟨s37, Option.some.inj h, ad38, cp39, S.fix [1] [4] (by decide) rfl rfl rfl⟩)))
  refine sCondT S rfl hc69 ?_
  refine sRegion ?_
  refine sMove (.slice ad38 s37.length cp39) S (wN rfl) (.inl rfl) rfl rfl (lb rfl) fun a S => ?_
  refine sMove (iv s40) S (wN rfl) (.inl rfl) rfl rfl (lb rfl) fun a S => ?_
  refine sLit (r := (rI .i64)) (T := 3) (xs := ([s40] : List Int)) [(0, iv s40)] 1 [iv s40] [iv s40] (iv 0) 8 S (wN rfl) rfl rfl Try.underlying32 rfl (by decide) (by decide) (by kernel_rfl) rfl (fun E1 w1 hE => All.cons rfl (All.nil _ _ _)) rfl rfl (lb rfl) fun a w ad70 cp71 S => ?_
  obtain ⟨l72, hx73, h⟩ := bindSome h
  refine sApp (r := (rI .i64)) (T := 3) (xs := s37) (ys := ([s40] : List Int)) (v := .slice ad38 s37.length cp39) (u := .slice ad70 ([s40] : List Int).length cp71) 2 (iv 0) 8 S (wN rfl) rfl Try.underlying32 rfl rfl (by decide) rfl rfl rfl (src_R (T := 3) 0 S.mem rfl) hx73 rfl (lb rfl) fun a w ad74 cp75 S => ?_
  refine sMove (.slice ad74 l72.length cp75) S (wN rfl) (.inr rfl) rfl rfl (lb rfl) fun a S => ?_
  exact leafL (leafB (leafT (⟨l72, Option.some.inj h, ad74, cp75, S.fix [0] [4] (by decide) rfl rfl rfl⟩)))

end Go.Proofs.Yticjoiolfibmlaa
namespace Go.Proofs.Yticjoiolfibmlaa
open Go.RowKit
set_option linter.unusedVariables false

noncomputable def F_raddlelaw27_one_s0 (p0 : Int) (p1 : (List api_Stitch)) : Option api_Chart :=
  some (api_Chart.mk p0 [(api_Row.mk false p1)])
set_option maxHeartbeats 4000000 in
set_option maxRecDepth 100000 in
theorem c_raddlelaw27_one_s0 (E : Nat → Prop) (w0 : World) (p0 : Int) (p1 : (List api_Stitch)) (v1 : Value) (r : api_Chart) (h : F_raddlelaw27_one_s0 p0 p1 = some r) (S : St0 E [] w0 w0 [] [fRep (rL r_api_Stitch) (v1) p1]) :
    Calls Try.prog 30 #[iv p0, v1] w0 (Ret (X := Option Addr × Nat) E [] w0 (fun x => .agg #[iv r.Start, .slice x.1 r.Rows.length x.2]) (fun x => [eRow r_api_Row 65 (.slice x.1 r.Rows.length x.2) r.Rows]) (fun _ => [])) := by
  unfold F_raddlelaw27_one_s0 at h
  obtain ⟨ad1, cp2, _, rfl, _⟩ := S.know (i := 0) (e := fRep (rL r_api_Stitch) (v1) p1) rfl
  refine sEnter (args := [iv p0, .slice ad1 p1.length cp2]) 10 Try.func30 rfl rfl (by simp) S (fun a S => ?_)
  refine sSeq (fun K3 hK3 => ?_)
  refine sRegion ?_
  refine sAlloc (.agg #[iv 0, .slice none 0 0]) S (wN rfl) rfl rfl [iv 0, .slice none 0 0] rfl rfl (lb rfl) fun a b4 w S => ?_
  refine leafL (leafT (hK3 _ _ ?_))
  refine sSeq (fun K5 hK5 => ?_)
  refine sRegion ?_
  refine sMove (iv p0) S (wN rfl) (.inl rfl) rfl rfl (lb rfl) fun a S => ?_
  refine sMove (.slice ad1 p1.length cp2) S (wN rfl) (.inl rfl) rfl rfl (lb rfl) fun a S => ?_
  refine sBuild [(1, .slice ad1 p1.length cp2)] [.bool false, .slice ad1 p1.length cp2] S (wN rfl) rfl rfl rfl rfl (lb rfl) fun a S => ?_
  have S := S.learn (fRep r_api_Row (.agg #[.bool false, .slice ad1 p1.length cp2]) (api_Row.mk false p1)) ⟨_, rfl, S.mem.know (i := 0) (e := fRep (rL r_api_Stitch) (.slice ad1 p1.length cp2) p1) rfl⟩
  refine sLit (r := r_api_Row) (T := 65) (xs := [(api_Row.mk false p1)]) [(0, .agg #[.bool false, .slice ad1 p1.length cp2])] 1 [.agg #[.bool false, .slice ad1 p1.length cp2]] [.bool false, .slice ad1 p1.length cp2] (.agg #[.bool false, .slice none 0 0]) 32 S (wN rfl) rfl rfl Try.underlying22 rfl (by decide) (by decide) (by kernel_rfl) rfl (fun E1 w1 hE => All.cons (r_api_Row.mono hE (S.mem.know (i := 0) (e := fRep r_api_Row (.agg #[.bool false, .slice ad1 p1.length cp2]) (api_Row.mk false p1)) rfl)) (All.nil _ _ _)) rfl rfl (lb rfl) fun a w ad6 cp7 S => ?_
  refine sBuild [(0, iv p0), (1, .slice ad6 [(api_Row.mk false p1)].length cp7)] [iv p0, .slice ad6 [(api_Row.mk false p1)].length cp7] S (wN rfl) rfl rfl rfl rfl (lb rfl) fun a S => ?_
  refine sStore (p := b4) (off := 0) (T := 24) (vs := [iv 0, .slice none 0 0]) (v := .agg #[iv p0, .slice ad6 [(api_Row.mk false p1)].length cp7]) 1 [iv p0, .slice ad6 [(api_Row.mk false p1)].length cp7] S (wN rfl) rfl rfl rfl rfl rfl rfl rfl (by simp) rfl fun a w S => ?_
  refine leafL (leafT (hK5 _ _ ?_))
  obtain rfl := Option.some.inj h
  exact wp_ret (sRet (.agg #[iv p0, .slice ad6 [(api_Row.mk false p1)].length cp7]) S (rsl1 rfl (rvN (c := 4) (t := 24) (T := 24) (p := b4) 0 [iv p0, .slice ad6 [(api_Row.mk false p1)].length cp7] S rfl rfl rfl rfl)) ⟨(ad6, cp7), rfl, S.mem.sel [1] [] (by decide) rfl rfl⟩)

end Go.Proofs.Yticjoiolfibmlaa
namespace Go.Proofs.Yticjoiolfibmlaa
open Go.RowKit
set_option linter.unusedVariables false

def K_raddlelaw27_alive  : Option Bool :=
  Option.bind (K_raddlelaw27_one 3 [(api_Stitch.mk 6 false 1 2)]) fun r5 =>
  Option.bind (K_loops_Of r5) fun r14 =>
  Option.bind (K_loops_Crossings r5) fun r20 =>
  Option.bind (K_raddlelaw27_one 3 [(api_Stitch.mk 3 false 2 0), (api_Stitch.mk 2 false 0 0), (api_Stitch.mk 10 false 1 0)]) fun r28 =>
  Option.bind (K_loops_Of r28) fun r37 =>
  Option.bind (K_loops_Bound r28) fun r43 =>
  if r14.2 != 0 then
    none
  else
    if r20.2 != 0 then
      none
    else
      if r37.2 != 0 then
        none
      else
        if r43.2 != 0 then
          none
        else
          if (r14.1.length : Int) != 6 then
            none
          else
            if (r37.1.length : Int) != 5 then
              some false
            else
              Option.bind (idxO r14.1 3) fun x58 =>
              Option.bind (K_raddleref26_SameInts x58.Parents ([1] : List Int)) fun r69 =>
              if r69 then
                Option.bind (idxO r14.1 4) fun x72 =>
                Option.bind (K_raddleref26_SameInts x72.Parents ([2] : List Int)) fun r83 =>
                if r83 then
                  Option.bind (idxO r14.1 5) fun x86 =>
                  Option.bind (K_raddleref26_SameInts x86.Parents ([0] : List Int)) fun r97 =>
                  if r97 then
                    Option.bind (K_raddleref27_SamePairs r20.1 [(5, 3), (5, 4)]) fun r102 =>
                    if r102 then
                      Option.bind (idxO r37.1 3) fun x106 =>
                      Option.bind (K_raddleref26_SameInts x106.Parents ([0, 1] : List Int)) fun r117 =>
                      if r117 then
                        Option.bind (idxO r37.1 4) fun x120 =>
                        if (x120.Parents.length : Int) == 0 then
                          Option.bind (K_raddleref26_SameInts r43.1 ([2] : List Int)) fun r132 =>
                          some r132
                        else
                          none
                      else
                        none
                    else
                      none
                  else
                    none
                else
                  none
              else
                none
theorem m_F_raddlelaw27_alive  : Le (K_raddlelaw27_alive) (F_raddlelaw27_alive) := by
  unfold K_raddlelaw27_alive F_raddlelaw27_alive
  with_reducible repeat' (first | exact m_F_raddlelaw27_one _ _ | exact m_F_loops_Of _ | exact m_F_loops_Crossings _ | exact m_F_loops_Bound _ | exact m_F_raddleref26_SameInts _ _ | exact m_F_raddleref27_SamePairs _ _ | exact Le.rfl _ | refine Le.loop _ ?_ | refine Le.bind ?_ ?_ | refine Le.ite ?_ ?_ | refine Le.sum ?_ ?_ | refine Le.prod ?_ | intro _ | exact Empty.elim (by assumption) | dsimp only)
end Go.Proofs.Yticjoiolfibmlaa
namespace Go.Proofs.Yticjoiolfibmlaa
open Go.RowKit
set_option linter.unusedVariables false

def K_raddlelaw27_one_s0 (p0 : Int) (p1 : (List api_Stitch)) : Option api_Chart :=
  some (api_Chart.mk p0 [(api_Row.mk false p1)])
def K_loops_of_s0_l1 (p0 : api_Chart) : (Int × List api_Loop) → Option ((Int × List api_Loop) ⊕ List api_Loop) := fun s0 => match s0 with
  | (s21, s22) =>
    if decide (s21 < p0.Start) then
      Option.bind (appO s22 [(api_Loop.mk 0 s21 ([] : (List Int)) false)]) fun l38 =>
      some (.inl (w64 (s21 + 1), l38))
    else
      some (.inr s22)
def K_slices_Backward___api_Stitch_api_Stitch__s0 (p0 : (List api_Stitch)) : Option (List api_Stitch) :=
  some p0
def K_stitch_Turn_s0_l2  : List api_Stitch → (Int × api_Stitch) → Option (List api_Stitch ⊕ Empty) := fun s0 x0 => match s0, x0 with
  | s22, (x25, x27) =>
    Option.bind (K_stitch_forms x27.Kind) fun r31 =>
    Option.bind (α := Bool) (
      if r31.1.sided then
        some (!x27.Purl)
      else
        some false) fun o35 =>
    Option.bind (α := (Int × Int)) (
      if decide (0 < r31.1.b.2) then
        some (x27.B, x27.A)
      else
        some (x27.A, x27.B)) fun (o39, o40) =>
    Option.bind (appO s22 [(api_Stitch.mk x27.Kind o35 o39 o40)]) fun l47 =>
    some (.inl l47)
def K_stitch_Turn_s0 (p0 : (List api_Stitch)) : Option ((List api_Stitch) × Int) :=
  Option.bind (K_stitch_All p0) fun r6 =>
  if r6 != 0 then
    some (([] : (List api_Stitch)), r6)
  else
    Option.bind (capO (p0.length : Int)) fun z14 =>
    Option.bind (K_slices_Backward___api_Stitch_api_Stitch__s0 p0) fun r19 =>
    Option.bind (K_I_slices_Backward___api_Stitch_api_Stitch__1 r19 _ _ (K_stitch_Turn_s0_l2) ([] : List api_Stitch)) fun z0 => match z0 with
      | .inl s22 =>
        some (s22, 0)
      | .inr z0 =>
        nomatch z0
def K_slices_Clone___api_Stitch_api_Stitch__s0 (p0 : (List api_Stitch)) : Option (List api_Stitch) :=
  Option.bind (appO ([] : List api_Stitch) p0) fun l12 =>
  some l12
def K_chart_Face_s0 (p0 : api_Chart) (p1 : Int) : Option ((List api_Stitch) × Int) :=
  Option.bind (K_chart_Check p0) fun r9 =>
  if r9 != 0 then
    some (([] : (List api_Stitch)), r9)
  else
    Option.bind (α := Bool) (
      if decide (p1 < 0) then
        some true
      else
        some (decide ((p0.Rows.length : Int) ≤ p1))) fun o15 =>
    if o15 then
      some (([] : (List api_Stitch)), 2)
    else
      Option.bind (idxO p0.Rows p1) fun x23 =>
      if x23.Back then
        Option.bind (K_stitch_Turn_s0 x23.Cells) fun r39 =>
        some (r39.1, r39.2)
      else
        Option.bind (K_slices_Clone___api_Stitch_api_Stitch__s0 x23.Cells) fun r51 =>
        some (r51, 0)
def K_loops_of_s0_l2 (r111 : ((List api_Stitch) × Int)) (s61 : Int) : (Int × List api_Loop × List Int × List Int × List (Int × Int) × Int) → Option ((Int × List api_Loop × List Int × List Int × List (Int × Int) × Int) ⊕ (List api_Loop × List Int × List Int × List (Int × Int) × Int)) := fun s0 => match s0 with
  | (s131, s132, s135, s138, s141, s144) =>
    if decide (s131 < (r111.1.length : Int)) then
      Option.bind (idxO r111.1 s131) fun x166 =>
      Option.bind (K_loops_piece_work_s1 (loops_piece.mk s132 s135 s138 s141 s144) (w64 (s61 + 1)) s131 x166) fun r172 =>
      some (.inl (w64 (s131 + 1), r172.loops, r172.rows, r172.bound, r172.cross, r172.next))
    else
      some (.inr (s132, s135, s138, s141, s144))
def K_loops_of_s0_l3 (p0 : api_Chart) : (Int × List api_Loop × List Int × List Int × List (Int × Int) × Int) → Option ((Int × List api_Loop × List Int × List Int × List (Int × Int) × Int) ⊕ (List api_Loop × List Int × List Int × List (Int × Int) × Int)) := fun s0 => match s0 with
  | (s61, s62, s65, s68, s71, s74) =>
    if decide (s61 < (p0.Rows.length : Int)) then
      Option.bind (α := (List api_Loop × List Int × List Int × List (Int × Int) × Int)) (
        Option.bind (K_chart_Face_s0 p0 s61) fun r111 =>
        Option.bind (α := (List api_Loop × List Int × List Int × List (Int × Int) × Int)) (
          Option.bind (whileK (K_loops_of_s0_l2 r111 s61) (0, s62, s65, s68, s71, s74)) fun (e148, e151, e154, e157, e160) =>
            some (e148, e151, e154, e157, e160)) fun (o115, o118, o121, o124, o127) =>
        Option.bind (appO o118 ([(o115.length : Int)] : List Int)) fun l184 =>
        some (o115, l184, o121, o124, o127)) fun (o94, o97, o100, o103, o106) =>
      some (.inl (w64 (s61 + 1), o94, o97, o100, o103, o106))
    else
      some (.inr (s62, s65, s68, s71, s74))
def K_loops_of_s0 (p0 : api_Chart) : Option (loops_piece × Int) :=
  Option.bind (K_chart_Check p0) fun r10 =>
  if r10 != 0 then
    some ((loops_piece.mk ([] : (List api_Loop)) ([] : (List Int)) ([] : (List Int)) ([] : (List (Int × Int))) 0), r10)
  else
    Option.bind (α := List api_Loop) (
      Option.bind (whileK (K_loops_of_s0_l1 p0) (0, ([] : List api_Loop))) fun e28 =>
        some e28) fun o15 =>
    Option.bind (α := (List api_Loop × List Int × List Int × List (Int × Int) × Int)) (
      Option.bind (whileK (K_loops_of_s0_l3 p0) (0, o15, ([0, p0.Start] : List Int), ([] : List Int), ([] : List (Int × Int)), 0)) fun (e78, e81, e84, e87, e90) =>
        some (e78, e81, e84, e87, e90)) fun (o45, o48, o51, o54, o57) =>
    some ((loops_piece.mk o45 o48 o51 o54 o57), 0)
def K_loops_Of_s0 (p0 : api_Chart) : Option ((List api_Loop) × Int) :=
  Option.bind (K_loops_of_s0 p0) fun r8 =>
  some (r8.1.loops, r8.2)
def K_slices_Index___int_int__l1 (p0 : (List Int)) (p1 : Int) : Int → Option (Int ⊕ (Int ⊕ Unit)) := fun s0 => match s0 with
  | s7 =>
    if decide (s7 < (p0.length : Int)) then
      Option.bind (idxO p0 s7) fun x17 =>
      if p1 == x17 then
        some (.inr (.inl s7))
      else
        some (.inl (w64 (s7 + 1)))
    else
      some (.inr (.inr ()))
def K_slices_Index___int_int_ (p0 : (List Int)) (p1 : Int) : Option Int :=
  Option.bind (α := Unit ⊕ Int) (
    Option.bind (whileK (K_slices_Index___int_int__l1 p0 p1) 0) fun z0 => match z0 with
      | .inl z =>
        some (.inr z)
      | .inr _ =>
        some (.inl ())) fun z0 => match z0 with
    | .inl _ =>
      some (-1)
    | .inr z =>
      some z
def K_slices_Contains___int_int_ (p0 : (List Int)) (p1 : Int) : Option Bool :=
  Option.bind (K_slices_Index___int_int_ p0 p1) fun r5 =>
  some (decide (0 ≤ r5))
def K_loops_Kids_s0_l1 (r8 : (loops_piece × Int)) (p1 : Int) : (List Int × Int) → Option ((List Int × Int) ⊕ List Int) := fun s0 => match s0 with
  | (s37, s40) =>
    if decide (s40 < (r8.1.loops.length : Int)) then
      Option.bind (α := List Int) (
        Option.bind (idxO r8.1.loops s40) fun x56 =>
        Option.bind (K_slices_Contains___int_int_ x56.Parents p1) fun r67 =>
        if r67 then
          Option.bind (appO s37 ([s40] : List Int)) fun l72 =>
          some l72
        else
          some s37) fun o50 =>
      some (.inl (o50, w64 (s40 + 1)))
    else
      some (.inr s37)
def K_loops_Kids_s0 (p0 : api_Chart) (p1 : Int) : Option ((List Int) × Int) :=
  Option.bind (K_loops_of_s0 p0) fun r8 =>
  if r8.2 != 0 then
    some (([] : (List Int)), r8.2)
  else
    Option.bind (α := Bool) (
      if decide (p1 < 0) then
        some true
      else
        some (decide ((r8.1.loops.length : Int) ≤ p1))) fun o24 =>
    if o24 then
      some (([] : (List Int)), 2)
    else
      Option.bind (α := List Int) (
        Option.bind (whileK (K_loops_Kids_s0_l1 r8 p1) (([] : List Int), 0)) fun e44 =>
          some e44) fun o31 =>
      some (o31, 0)
def K_loops_Crossings_s0 (p0 : api_Chart) : Option ((List (Int × Int)) × Int) :=
  Option.bind (K_loops_of_s0 p0) fun r8 =>
  some (r8.1.cross, r8.2)
def K_loops_Row (p0 : api_Chart) (p1 : Int) : Option (Int × Int × Int) :=
  Option.bind (K_loops_of p0) fun r8 =>
  if r8.2 != 0 then
    some (0, 0, r8.2)
  else
    Option.bind (α := Bool) (
      if decide (p1 < 0) then
        some true
      else
        some (decide ((p0.Rows.length : Int) < p1))) fun o33 =>
    if o33 then
      some (0, 0, 2)
    else
      Option.bind (idxO r8.1.rows p1) fun x40 =>
      Option.bind (idxO r8.1.rows (w64 (p1 + 1))) fun x45 =>
      some (x40, x45, 0)
theorem m_F_raddlelaw27_one_s0 (p0 : Int) (p1 : (List api_Stitch)) : Le (K_raddlelaw27_one_s0 p0 p1) (F_raddlelaw27_one_s0 p0 p1) := by
  unfold K_raddlelaw27_one_s0 F_raddlelaw27_one_s0
  with_reducible repeat' (first | exact Le.rfl _ | refine Le.loop _ ?_ | refine Le.bind ?_ ?_ | refine Le.ite ?_ ?_ | refine Le.sum ?_ ?_ | refine Le.prod ?_ | intro _ | exact Empty.elim (by assumption) | dsimp only)
theorem m_loops_of_s0_l1 (p0 : api_Chart) : ∀ s, Le (K_loops_of_s0_l1 p0 s) (loops_of_s0_l1 p0 s) := by
  unfold K_loops_of_s0_l1 loops_of_s0_l1
  with_reducible repeat' (first | exact Le.rfl _ | refine Le.loop _ ?_ | refine Le.bind ?_ ?_ | refine Le.ite ?_ ?_ | refine Le.sum ?_ ?_ | refine Le.prod ?_ | intro _ | exact Empty.elim (by assumption) | dsimp only)
theorem m_F_slices_Backward___api_Stitch_api_Stitch__s0 (p0 : (List api_Stitch)) : Le (K_slices_Backward___api_Stitch_api_Stitch__s0 p0) (F_slices_Backward___api_Stitch_api_Stitch__s0 p0) := by
  unfold K_slices_Backward___api_Stitch_api_Stitch__s0 F_slices_Backward___api_Stitch_api_Stitch__s0
  with_reducible repeat' (first | exact Le.rfl _ | refine Le.loop _ ?_ | refine Le.bind ?_ ?_ | refine Le.ite ?_ ?_ | refine Le.sum ?_ ?_ | refine Le.prod ?_ | intro _ | exact Empty.elim (by assumption) | dsimp only)
theorem m_stitch_Turn_s0_l2  : ∀ s x, Le (K_stitch_Turn_s0_l2 s x) (stitch_Turn_s0_l2 s x) := by
  unfold K_stitch_Turn_s0_l2 stitch_Turn_s0_l2
  with_reducible repeat' (first | exact m_F_stitch_forms _ | exact Le.rfl _ | refine Le.loop _ ?_ | refine Le.bind ?_ ?_ | refine Le.ite ?_ ?_ | refine Le.sum ?_ ?_ | refine Le.prod ?_ | intro _ | exact Empty.elim (by assumption) | dsimp only)
theorem m_F_stitch_Turn_s0 (p0 : (List api_Stitch)) : Le (K_stitch_Turn_s0 p0) (F_stitch_Turn_s0 p0) := by
  unfold K_stitch_Turn_s0 F_stitch_Turn_s0
  with_reducible repeat' (first | exact m_F_stitch_All _ | exact m_F_slices_Backward___api_Stitch_api_Stitch__s0 _ | refine m_I_slices_Backward___api_Stitch_api_Stitch__1 _ _ _ _ _ ?_ _ | exact m_stitch_Turn_s0_l2 | exact Le.rfl _ | refine Le.loop _ ?_ | refine Le.bind ?_ ?_ | refine Le.ite ?_ ?_ | refine Le.sum ?_ ?_ | refine Le.prod ?_ | intro _ | exact Empty.elim (by assumption) | dsimp only)
theorem m_F_slices_Clone___api_Stitch_api_Stitch__s0 (p0 : (List api_Stitch)) : Le (K_slices_Clone___api_Stitch_api_Stitch__s0 p0) (F_slices_Clone___api_Stitch_api_Stitch__s0 p0) := by
  unfold K_slices_Clone___api_Stitch_api_Stitch__s0 F_slices_Clone___api_Stitch_api_Stitch__s0
  with_reducible repeat' (first | exact Le.rfl _ | refine Le.loop _ ?_ | refine Le.bind ?_ ?_ | refine Le.ite ?_ ?_ | refine Le.sum ?_ ?_ | refine Le.prod ?_ | intro _ | exact Empty.elim (by assumption) | dsimp only)
theorem m_F_chart_Face_s0 (p0 : api_Chart) (p1 : Int) : Le (K_chart_Face_s0 p0 p1) (F_chart_Face_s0 p0 p1) := by
  unfold K_chart_Face_s0 F_chart_Face_s0
  with_reducible repeat' (first | exact m_F_chart_Check _ | exact m_F_stitch_Turn_s0 _ | exact m_F_slices_Clone___api_Stitch_api_Stitch__s0 _ | exact Le.rfl _ | refine Le.loop _ ?_ | refine Le.bind ?_ ?_ | refine Le.ite ?_ ?_ | refine Le.sum ?_ ?_ | refine Le.prod ?_ | intro _ | exact Empty.elim (by assumption) | dsimp only)
theorem m_loops_of_s0_l2 (r111 : ((List api_Stitch) × Int)) (s61 : Int) : ∀ s, Le (K_loops_of_s0_l2 r111 s61 s) (loops_of_s0_l2 r111 s61 s) := by
  unfold K_loops_of_s0_l2 loops_of_s0_l2
  with_reducible repeat' (first | exact m_F_loops_piece_work_s1 _ _ _ _ | exact Le.rfl _ | refine Le.loop _ ?_ | refine Le.bind ?_ ?_ | refine Le.ite ?_ ?_ | refine Le.sum ?_ ?_ | refine Le.prod ?_ | intro _ | exact Empty.elim (by assumption) | dsimp only)
theorem m_loops_of_s0_l3 (p0 : api_Chart) : ∀ s, Le (K_loops_of_s0_l3 p0 s) (loops_of_s0_l3 p0 s) := by
  unfold K_loops_of_s0_l3 loops_of_s0_l3
  with_reducible repeat' (first | exact m_F_chart_Face_s0 _ _ | exact m_loops_of_s0_l2 _ _ | exact Le.rfl _ | refine Le.loop _ ?_ | refine Le.bind ?_ ?_ | refine Le.ite ?_ ?_ | refine Le.sum ?_ ?_ | refine Le.prod ?_ | intro _ | exact Empty.elim (by assumption) | dsimp only)
theorem m_F_loops_of_s0 (p0 : api_Chart) : Le (K_loops_of_s0 p0) (F_loops_of_s0 p0) := by
  unfold K_loops_of_s0 F_loops_of_s0
  with_reducible repeat' (first | exact m_F_chart_Check _ | exact m_loops_of_s0_l1 _ | exact m_loops_of_s0_l3 _ | exact Le.rfl _ | refine Le.loop _ ?_ | refine Le.bind ?_ ?_ | refine Le.ite ?_ ?_ | refine Le.sum ?_ ?_ | refine Le.prod ?_ | intro _ | exact Empty.elim (by assumption) | dsimp only)
theorem m_F_loops_Of_s0 (p0 : api_Chart) : Le (K_loops_Of_s0 p0) (F_loops_Of_s0 p0) := by
  unfold K_loops_Of_s0 F_loops_Of_s0
  with_reducible repeat' (first | exact m_F_loops_of_s0 _ | exact Le.rfl _ | refine Le.loop _ ?_ | refine Le.bind ?_ ?_ | refine Le.ite ?_ ?_ | refine Le.sum ?_ ?_ | refine Le.prod ?_ | intro _ | exact Empty.elim (by assumption) | dsimp only)
theorem m_slices_Index___int_int__l1 (p0 : (List Int)) (p1 : Int) : ∀ s, Le (K_slices_Index___int_int__l1 p0 p1 s) (slices_Index___int_int__l1 p0 p1 s) := by
  unfold K_slices_Index___int_int__l1 slices_Index___int_int__l1
  with_reducible repeat' (first | exact Le.rfl _ | refine Le.loop _ ?_ | refine Le.bind ?_ ?_ | refine Le.ite ?_ ?_ | refine Le.sum ?_ ?_ | refine Le.prod ?_ | intro _ | exact Empty.elim (by assumption) | dsimp only)
theorem m_F_slices_Index___int_int_ (p0 : (List Int)) (p1 : Int) : Le (K_slices_Index___int_int_ p0 p1) (F_slices_Index___int_int_ p0 p1) := by
  unfold K_slices_Index___int_int_ F_slices_Index___int_int_
  with_reducible repeat' (first | exact m_slices_Index___int_int__l1 _ _ | exact Le.rfl _ | refine Le.loop _ ?_ | refine Le.bind ?_ ?_ | refine Le.ite ?_ ?_ | refine Le.sum ?_ ?_ | refine Le.prod ?_ | intro _ | exact Empty.elim (by assumption) | dsimp only)
theorem m_F_slices_Contains___int_int_ (p0 : (List Int)) (p1 : Int) : Le (K_slices_Contains___int_int_ p0 p1) (F_slices_Contains___int_int_ p0 p1) := by
  unfold K_slices_Contains___int_int_ F_slices_Contains___int_int_
  with_reducible repeat' (first | exact m_F_slices_Index___int_int_ _ _ | exact Le.rfl _ | refine Le.loop _ ?_ | refine Le.bind ?_ ?_ | refine Le.ite ?_ ?_ | refine Le.sum ?_ ?_ | refine Le.prod ?_ | intro _ | exact Empty.elim (by assumption) | dsimp only)
theorem m_loops_Kids_s0_l1 (r8 : (loops_piece × Int)) (p1 : Int) : ∀ s, Le (K_loops_Kids_s0_l1 r8 p1 s) (loops_Kids_s0_l1 r8 p1 s) := by
  unfold K_loops_Kids_s0_l1 loops_Kids_s0_l1
  with_reducible repeat' (first | exact m_F_slices_Contains___int_int_ _ _ | exact Le.rfl _ | refine Le.loop _ ?_ | refine Le.bind ?_ ?_ | refine Le.ite ?_ ?_ | refine Le.sum ?_ ?_ | refine Le.prod ?_ | intro _ | exact Empty.elim (by assumption) | dsimp only)
theorem m_F_loops_Kids_s0 (p0 : api_Chart) (p1 : Int) : Le (K_loops_Kids_s0 p0 p1) (F_loops_Kids_s0 p0 p1) := by
  unfold K_loops_Kids_s0 F_loops_Kids_s0
  with_reducible repeat' (first | exact m_F_loops_of_s0 _ | exact m_loops_Kids_s0_l1 _ _ | exact Le.rfl _ | refine Le.loop _ ?_ | refine Le.bind ?_ ?_ | refine Le.ite ?_ ?_ | refine Le.sum ?_ ?_ | refine Le.prod ?_ | intro _ | exact Empty.elim (by assumption) | dsimp only)
theorem m_F_loops_Crossings_s0 (p0 : api_Chart) : Le (K_loops_Crossings_s0 p0) (F_loops_Crossings_s0 p0) := by
  unfold K_loops_Crossings_s0 F_loops_Crossings_s0
  with_reducible repeat' (first | exact m_F_loops_of_s0 _ | exact Le.rfl _ | refine Le.loop _ ?_ | refine Le.bind ?_ ?_ | refine Le.ite ?_ ?_ | refine Le.sum ?_ ?_ | refine Le.prod ?_ | intro _ | exact Empty.elim (by assumption) | dsimp only)
theorem m_F_loops_Row (p0 : api_Chart) (p1 : Int) : Le (K_loops_Row p0 p1) (F_loops_Row p0 p1) := by
  unfold K_loops_Row F_loops_Row
  with_reducible repeat' (first | exact m_F_loops_of _ | exact Le.rfl _ | refine Le.loop _ ?_ | refine Le.bind ?_ ?_ | refine Le.ite ?_ ?_ | refine Le.sum ?_ ?_ | refine Le.prod ?_ | intro _ | exact Empty.elim (by assumption) | dsimp only)
set_option maxRecDepth 1000000 in
theorem kc_raddlelaw27_LoopsNames_0 : F_raddlelaw27_one_s0 5 [(api_Stitch.mk 4 true 2 0), (api_Stitch.mk 5 false 3 0), (api_Stitch.mk 8 true 0 0), (api_Stitch.mk 1 true 0 0), (api_Stitch.mk 9 false 2 0)] = some (api_Chart.mk 5 [(api_Row.mk false [(api_Stitch.mk 4 true 2 0), (api_Stitch.mk 5 false 3 0), (api_Stitch.mk 8 true 0 0), (api_Stitch.mk 1 true 0 0), (api_Stitch.mk 9 false 2 0)])]) := m_F_raddlelaw27_one_s0 _ _ _ (by kernel_rfl)
set_option maxRecDepth 1000000 in
theorem kc_raddlelaw27_LoopsNames_1 : F_loops_Of_s0 ((api_Chart.mk 5 [(api_Row.mk false [(api_Stitch.mk 4 true 2 0), (api_Stitch.mk 5 false 3 0), (api_Stitch.mk 8 true 0 0), (api_Stitch.mk 1 true 0 0), (api_Stitch.mk 9 false 2 0)])])) = some ([(api_Loop.mk 0 0 [] false), (api_Loop.mk 0 1 [] false), (api_Loop.mk 0 2 [] false), (api_Loop.mk 0 3 [] false), (api_Loop.mk 0 4 [] false), (api_Loop.mk 1 0 [1, 0] true), (api_Loop.mk 1 1 [2] false), (api_Loop.mk 1 1 [2] false), (api_Loop.mk 1 1 [2] false), (api_Loop.mk 1 2 [3] false), (api_Loop.mk 1 3 [4] true), (api_Loop.mk 1 4 [] false), (api_Loop.mk 1 4 [] false)], 0) := m_F_loops_Of_s0 _ _ (by kernel_rfl)
set_option maxRecDepth 1000000 in
theorem kc_raddlelaw27_LoopsNames_2 : F_loops_Kids_s0 ((api_Chart.mk 5 [(api_Row.mk false [(api_Stitch.mk 4 true 2 0), (api_Stitch.mk 5 false 3 0), (api_Stitch.mk 8 true 0 0), (api_Stitch.mk 1 true 0 0), (api_Stitch.mk 9 false 2 0)])])) 2 = some ([6, 7, 8], 0) := m_F_loops_Kids_s0 _ _ _ (by kernel_rfl)
set_option maxRecDepth 1000000 in
theorem kc_raddlelaw27_LoopsNames_3 : F_raddlelaw27_one_s0 3 [(api_Stitch.mk 7 false 2 1)] = some (api_Chart.mk 3 [(api_Row.mk false [(api_Stitch.mk 7 false 2 1)])]) := m_F_raddlelaw27_one_s0 _ _ _ (by kernel_rfl)
set_option maxRecDepth 1000000 in
theorem kc_raddlelaw27_LoopsNames_4 : F_loops_Of_s0 (api_Chart.mk ((api_Chart.mk 3 [(api_Row.mk false [(api_Stitch.mk 7 false 2 1)])])).Start ([(api_Row.mk true [(api_Stitch.mk 7 false 2 1)])])) = some ([(api_Loop.mk 0 0 [] false), (api_Loop.mk 0 1 [] false), (api_Loop.mk 0 2 [] false), (api_Loop.mk 1 0 [1] true), (api_Loop.mk 1 0 [2] true), (api_Loop.mk 1 0 [0] true)], 0) := m_F_loops_Of_s0 _ _ (by kernel_rfl)
set_option maxRecDepth 1000000 in
theorem kc_raddlelaw27_LoopsNames_5 : F_loops_Crossings_s0 (api_Chart.mk ((api_Chart.mk 3 [(api_Row.mk false [(api_Stitch.mk 7 false 2 1)])])).Start ([(api_Row.mk true [(api_Stitch.mk 7 false 2 1)])])) = some ([(3, 5), (4, 5)], 0) := m_F_loops_Crossings_s0 _ _ (by kernel_rfl)
set_option maxRecDepth 1000000 in
theorem kc_raddlelaw27_LoopsNames_6 : F_loops_Row ((api_Chart.mk 5 [(api_Row.mk false [(api_Stitch.mk 4 true 2 0), (api_Stitch.mk 5 false 3 0), (api_Stitch.mk 8 true 0 0), (api_Stitch.mk 1 true 0 0), (api_Stitch.mk 9 false 2 0)])])) 1 = some (5, (13, 0)) := m_F_loops_Row _ _ _ (by kernel_rfl)
set_option maxRecDepth 1000000 in
theorem kc_raddlelaw27_LoopsNames_7 : F_loops_Row ((api_Chart.mk 5 [(api_Row.mk false [(api_Stitch.mk 4 true 2 0), (api_Stitch.mk 5 false 3 0), (api_Stitch.mk 8 true 0 0), (api_Stitch.mk 1 true 0 0), (api_Stitch.mk 9 false 2 0)])])) 2 = some (0, (0, 2)) := m_F_loops_Row _ _ _ (by kernel_rfl)
set_option maxRecDepth 1000000 in
theorem kc_raddlelaw27_LoopsNames_8 : F_loops_Kids_s0 ((api_Chart.mk 5 [(api_Row.mk false [(api_Stitch.mk 4 true 2 0), (api_Stitch.mk 5 false 3 0), (api_Stitch.mk 8 true 0 0), (api_Stitch.mk 1 true 0 0), (api_Stitch.mk 9 false 2 0)])])) 13 = some ([], 2) := m_F_loops_Kids_s0 _ _ _ (by kernel_rfl)
set_option maxRecDepth 1000000 in
theorem kc_raddlelaw27_LoopsNames_9 : F_loops_Kids_s0 ((api_Chart.mk 5 [(api_Row.mk false [(api_Stitch.mk 4 true 2 0), (api_Stitch.mk 5 false 3 0), (api_Stitch.mk 8 true 0 0), (api_Stitch.mk 1 true 0 0), (api_Stitch.mk 9 false 2 0)])])) (-1) = some ([], 2) := m_F_loops_Kids_s0 _ _ _ (by kernel_rfl)
set_option maxRecDepth 1000000 in
theorem kc_raddlelaw27_LoopsNames_10 : F_raddlelaw27_one_s0 1 ([] : (List api_Stitch)) = some (api_Chart.mk 1 [(api_Row.mk false [])]) := m_F_raddlelaw27_one_s0 _ _ _ (by kernel_rfl)
set_option maxRecDepth 1000000 in
theorem kc_raddlelaw27_LoopsNames_11 : F_loops_Of_s0 ((api_Chart.mk 1 [(api_Row.mk false [])])) = some ([], 26) := m_F_loops_Of_s0 _ _ (by kernel_rfl)
set_option maxRecDepth 1000000 in
theorem kc_raddlelaw27_LoopsNames_12 : F_loops_Row ((api_Chart.mk 5 [(api_Row.mk false [(api_Stitch.mk 4 true 2 0), (api_Stitch.mk 5 false 3 0), (api_Stitch.mk 8 true 0 0), (api_Stitch.mk 1 true 0 0), (api_Stitch.mk 9 false 2 0)])])) (-1) = some (0, (0, 2)) := m_F_loops_Row _ _ _ (by kernel_rfl)
set_option maxRecDepth 1000000 in
theorem kc_raddlelaw27_LoopsNames_13 : F_raddlelaw27_alive = some true := m_F_raddlelaw27_alive _ (by kernel_rfl)
set_option maxRecDepth 1000000 in
theorem kc_raddlelaw27_LoopsNames_14 : F_raddleref26_SameInts (([6, 7, 8], 0)).1 ([6, 7, 8] : List Int) = some true := m_F_raddleref26_SameInts _ _ _ (by kernel_rfl)
set_option maxRecDepth 1000000 in
theorem kc_raddlelaw27_LoopsNames_15 : F_raddleref27_SamePairs (([(3, 5), (4, 5)], 0)).1 [(3, 5), (4, 5)] = some true := m_F_raddleref27_SamePairs _ _ _ (by kernel_rfl)
end Go.Proofs.Yticjoiolfibmlaa
namespace Go.Proofs.Yticjoiolfibmlaa
open Go.RowKit
set_option linter.unusedVariables false

def anc_raddlelaw27_LoopsNames_0 : List (List Nat) := [[], [0], [0, 1], [0, 1, 2], [0, 1, 2, 3], [0, 1, 2, 3, 4], [0, 1, 2, 3], [0, 1, 2, 3], [0, 1, 2, 3, 6, 7], [0, 1, 2, 3, 6, 7, 8], [0, 1, 2, 3, 4, 5, 6, 7, 8, 9], [0, 1, 2, 3, 4, 5, 6, 7, 8, 9, 10], [0, 1, 2, 3, 4, 5, 6, 7, 8, 9, 10, 11], [0, 1, 2, 3, 4, 5, 6, 7, 8, 9, 10, 11, 12], [0, 1, 2, 3, 4, 5, 6, 7, 8, 9, 10, 11, 12, 13], [0, 1, 2, 3, 4, 5, 6, 7, 8, 9, 10, 11, 12], [0, 1, 2, 3, 4, 5, 6, 7, 8, 9, 10, 11, 12], [0, 1, 2, 3, 4, 5, 6, 7, 8, 9, 10, 11, 12, 15, 16], [0, 1, 2, 3, 4, 5, 6, 7, 8, 9, 10, 11, 12, 15, 16, 17], [0, 1, 2, 3, 4, 5, 6, 7, 8, 9, 10, 11, 12, 13, 14, 15, 16, 17, 18], [0, 1, 2, 3, 4, 5, 6, 7, 8, 9, 10, 11, 12, 13, 14, 15, 16, 17, 18, 19], [0, 1, 2, 3, 4, 5, 6, 7, 8, 9, 10, 11, 12, 13, 14, 15, 16, 17, 18, 19, 20], [0, 1, 2, 3, 4, 5, 6, 7, 8, 9, 10, 11, 12, 13, 14, 15, 16, 17, 18, 19, 20, 21], [0, 1, 2, 3, 4, 5, 6, 7, 8, 9, 10, 11, 12, 13, 14, 15, 16, 17, 18, 19, 20, 21, 22], [0, 1, 2, 3, 4, 5, 6, 7, 8, 9, 10, 11, 12, 13, 14, 15, 16, 17, 18, 19, 20, 21], [0, 1, 2, 3, 4, 5, 6, 7, 8, 9, 10, 11, 12, 13, 14, 15, 16, 17, 18, 19, 20, 21], [0, 1, 2, 3, 4, 5, 6, 7, 8, 9, 10, 11, 12, 13, 14, 15, 16, 17, 18, 19, 20, 21, 24, 25], [0, 1, 2, 3, 4, 5, 6, 7, 8, 9, 10, 11, 12, 13, 14, 15, 16, 17, 18, 19, 20, 21, 24, 25, 26], [0, 1, 2, 3, 4, 5, 6, 7, 8, 9, 10, 11, 12, 13, 14, 15, 16, 17, 18, 19, 20, 21, 22, 23, 24, 25, 26, 27], [0, 1, 2, 3, 4, 5, 6, 7, 8, 9, 10, 11, 12, 13, 14, 15, 16, 17, 18, 19, 20, 21, 22, 23, 24, 25, 26, 27, 28], [0, 1, 2, 3, 4, 5, 6, 7, 8, 9, 10, 11, 12, 13, 14, 15, 16, 17, 18, 19, 20, 21, 22, 23, 24, 25, 26, 27, 28, 29]]
noncomputable def raddlelaw27_LoopsNames_l1 (r11 : ((List api_Loop) × Int)) : Int → Option (Int ⊕ (Bool ⊕ Unit)) := fun s0 => match s0 with
  | s44 =>
    if decide (s44 < 8) then
      Option.bind (idxO r11.1 (w64 (5 + s44))) fun x53 =>
      Option.bind (α := Bool) (
        if x53.Row != 1 then
          some true
        else
          Option.bind (idxO ([0, 1, 1, 1, 2, 3, 4, 4] : List Int) s44) fun x68 =>
          if x53.Cell != x68 then
            some true
          else
            Option.bind (idxO [true, false, false, false, false, true, false, false] s44) fun x77 =>
            if x53.Purl != x77 then
              some true
            else
              Option.bind (idxO [([1, 0] : List Int), ([2] : List Int), ([2] : List Int), ([2] : List Int), ([3] : List Int), ([4] : List Int), ([] : (List Int)), ([] : (List Int))] s44) fun x89 =>
              Option.bind (F_raddleref26_SameInts x53.Parents x89) fun r97 =>
              some (!r97)) fun o64 =>
      if o64 then
        some (.inr (.inl false))
      else
        some (.inl (w64 (s44 + 1)))
    else
      some (.inr (.inr ()))
noncomputable def F_raddlelaw27_LoopsNames  : Option Bool :=
  Option.bind (F_raddlelaw27_one_s0 5 [(api_Stitch.mk 4 true 2 0), (api_Stitch.mk 5 false 3 0), (api_Stitch.mk 8 true 0 0), (api_Stitch.mk 1 true 0 0), (api_Stitch.mk 9 false 2 0)]) fun r5 =>
  Option.bind (F_loops_Of_s0 r5) fun r11 =>
  if r11.2 != 0 then
    none
  else
    if (r11.1.length : Int) != 13 then
      some false
    else
      Option.bind (α := Unit ⊕ Bool) (
        Option.bind (whileO (raddlelaw27_LoopsNames_l1 r11) 0) fun z0 => match z0 with
          | .inl z =>
            some (.inr z)
          | .inr _ =>
            some (.inl ())) fun z0 => match z0 with
        | .inl _ =>
          Option.bind (F_loops_Kids_s0 r5 2) fun r114 =>
          Option.bind (F_raddlelaw27_one_s0 3 [(api_Stitch.mk 7 false 2 1)]) fun r121 =>
          Option.bind (idxO r121.Rows 0) fun x127 =>
          Option.bind (setO r121.Rows 0 (api_Row.mk true x127.Cells)) fun l135 =>
          Option.bind (F_loops_Of_s0 (api_Chart.mk r121.Start l135)) fun r138 =>
          Option.bind (F_loops_Crossings_s0 (api_Chart.mk r121.Start l135)) fun r143 =>
          if r138.2 != 0 then
            none
          else
            if (r138.1.length : Int) != 6 then
              some false
            else
              Option.bind (F_loops_Row r5 1) fun r153 =>
              Option.bind (F_loops_Row r5 2) fun r156 =>
              Option.bind (F_loops_Kids_s0 r5 13) fun r159 =>
              Option.bind (F_loops_Kids_s0 r5 (-1)) fun r164 =>
              Option.bind (F_raddlelaw27_one_s0 1 ([] : (List api_Stitch))) fun r169 =>
              Option.bind (F_loops_Of_s0 r169) fun r173 =>
              Option.bind (F_loops_Row r5 (-1)) fun r178 =>
              Option.bind (F_raddlelaw27_alive) fun r181 =>
              if r181 then
                if r114.2 == 0 then
                  Option.bind (F_raddleref26_SameInts r114.1 ([6, 7, 8] : List Int)) fun r187 =>
                  if r187 then
                    if r143.2 == 0 then
                      Option.bind (idxO r138.1 3) fun x191 =>
                      Option.bind (idxO x191.Parents 0) fun x202 =>
                      if x202 == 1 then
                        Option.bind (idxO r138.1 5) fun x208 =>
                        Option.bind (idxO x208.Parents 0) fun x219 =>
                        if x219 == 0 then
                          if x191.Purl then
                            Option.bind (F_raddleref27_SamePairs r143.1 [(3, 5), (4, 5)]) fun r234 =>
                            if r234 then
                              if r153.2.2 == 0 then
                                if r153.1 == 5 then
                                  if r153.2.1 == 13 then
                                    if r156.2.2 == 2 then
                                      if r159.2 == 2 then
                                        if r164.2 == 2 then
                                          if r173.2 == 26 then
                                            some (r178.2.2 == 2)
                                          else
                                            none
                                        else
                                          none
                                      else
                                        none
                                    else
                                      none
                                  else
                                    none
                                else
                                  none
                              else
                                none
                            else
                              none
                          else
                            none
                        else
                          none
                      else
                        none
                    else
                      none
                  else
                    none
                else
                  none
              else
                none
        | .inr z =>
          some z
set_option maxHeartbeats 4000000 in
set_option maxRecDepth 100000 in
theorem c_raddlelaw27_LoopsNames (E : Nat → Prop) (w0 : World)  (r : Bool) (h : F_raddlelaw27_LoopsNames  = some r) (S : St0 E [] w0 w0 [] []) :
    Calls Try.prog 8 #[] w0 (Ret (X := Unit) E [] w0 (fun _ => .bool r) (fun _ => []) (fun _ => [])) := by
  unfold F_raddlelaw27_LoopsNames at h
  refine sEnter (args := []) 240 Try.func8 rfl rfl (by simp) S (fun a S => ?_)
  refine sSeq (fun K1 hK1 => ?_)
  refine sRegion ?_
  refine sMove (.bool false) S (wN rfl) (.inr rfl) rfl rfl (lb rfl) fun a S => ?_
  refine leafL (leafT (hK1 _ _ ?_))
  refine sSeq (fun K2 hK2 => ?_)
  refine sRegion ?_
  refine sBuild [(0, .int .u8 4), (2, iv 2), (1, .bool true)] [.int .u8 4, .bool true, iv 2, iv 0] S (wN rfl) rfl rfl rfl rfl (lb rfl) fun a S => ?_
  refine sBuild [(0, .int .u8 5), (2, iv 3)] [.int .u8 5, .bool false, iv 3, iv 0] S (wN rfl) rfl rfl rfl rfl (lb rfl) fun a S => ?_
  refine sBuild [(0, .int .u8 8), (1, .bool true)] [.int .u8 8, .bool true, iv 0, iv 0] S (wN rfl) rfl rfl rfl rfl (lb rfl) fun a S => ?_
  refine sBuild [(0, .int .u8 1), (1, .bool true)] [.int .u8 1, .bool true, iv 0, iv 0] S (wN rfl) rfl rfl rfl rfl (lb rfl) fun a S => ?_
  refine sBuild [(0, .int .u8 9), (2, iv 2)] [.int .u8 9, .bool false, iv 2, iv 0] S (wN rfl) rfl rfl rfl rfl (lb rfl) fun a S => ?_
  have S := S.learn (fRep r_api_Stitch (.agg #[.int .u8 4, .bool true, iv 2, iv 0]) (api_Stitch.mk 4 true 2 0)) rfl
  have S := S.learn (fRep r_api_Stitch (.agg #[.int .u8 5, .bool false, iv 3, iv 0]) (api_Stitch.mk 5 false 3 0)) rfl
  have S := S.learn (fRep r_api_Stitch (.agg #[.int .u8 8, .bool true, iv 0, iv 0]) (api_Stitch.mk 8 true 0 0)) rfl
  have S := S.learn (fRep r_api_Stitch (.agg #[.int .u8 1, .bool true, iv 0, iv 0]) (api_Stitch.mk 1 true 0 0)) rfl
  have S := S.learn (fRep r_api_Stitch (.agg #[.int .u8 9, .bool false, iv 2, iv 0]) (api_Stitch.mk 9 false 2 0)) rfl
  refine sLit (r := r_api_Stitch) (T := 61) (xs := [(api_Stitch.mk 4 true 2 0), (api_Stitch.mk 5 false 3 0), (api_Stitch.mk 8 true 0 0), (api_Stitch.mk 1 true 0 0), (api_Stitch.mk 9 false 2 0)]) [(0, .agg #[.int .u8 4, .bool true, iv 2, iv 0]), (1, .agg #[.int .u8 5, .bool false, iv 3, iv 0]), (2, .agg #[.int .u8 8, .bool true, iv 0, iv 0]), (3, .agg #[.int .u8 1, .bool true, iv 0, iv 0]), (4, .agg #[.int .u8 9, .bool false, iv 2, iv 0])] 5 [.agg #[.int .u8 4, .bool true, iv 2, iv 0], .agg #[.int .u8 5, .bool false, iv 3, iv 0], .agg #[.int .u8 8, .bool true, iv 0, iv 0], .agg #[.int .u8 1, .bool true, iv 0, iv 0], .agg #[.int .u8 9, .bool false, iv 2, iv 0]] [.int .u8 4, .bool true, iv 2, iv 0, .int .u8 5, .bool false, iv 3, iv 0, .int .u8 8, .bool true, iv 0, iv 0, .int .u8 1, .bool true, iv 0, iv 0, .int .u8 9, .bool false, iv 2, iv 0] (.agg #[.int .u8 0, .bool false, iv 0, iv 0]) 24 S (wN rfl) rfl rfl Try.underlying62 rfl (by decide) (by decide) (by kernel_rfl) rfl (fun E1 w1 hE => All.cons (r_api_Stitch.mono hE (S.mem.know (i := 4) (e := fRep r_api_Stitch (.agg #[.int .u8 4, .bool true, iv 2, iv 0]) (api_Stitch.mk 4 true 2 0)) rfl)) (All.cons (r_api_Stitch.mono hE (S.mem.know (i := 3) (e := fRep r_api_Stitch (.agg #[.int .u8 5, .bool false, iv 3, iv 0]) (api_Stitch.mk 5 false 3 0)) rfl)) (All.cons (r_api_Stitch.mono hE (S.mem.know (i := 2) (e := fRep r_api_Stitch (.agg #[.int .u8 8, .bool true, iv 0, iv 0]) (api_Stitch.mk 8 true 0 0)) rfl)) (All.cons (r_api_Stitch.mono hE (S.mem.know (i := 1) (e := fRep r_api_Stitch (.agg #[.int .u8 1, .bool true, iv 0, iv 0]) (api_Stitch.mk 1 true 0 0)) rfl)) (All.cons (r_api_Stitch.mono hE (S.mem.know (i := 0) (e := fRep r_api_Stitch (.agg #[.int .u8 9, .bool false, iv 2, iv 0]) (api_Stitch.mk 9 false 2 0)) rfl)) (All.nil _ _ _)))))) rfl rfl (lb rfl) fun a w ad3 cp4 S => ?_
  obtain ⟨r5, hx6, h⟩ := bindSome h
  have hv_r5 : r5 = (api_Chart.mk 5 [(api_Row.mk false [(api_Stitch.mk 4 true 2 0), (api_Stitch.mk 5 false 3 0), (api_Stitch.mk 8 true 0 0), (api_Stitch.mk 1 true 0 0), (api_Stitch.mk 9 false 2 0)])]) := Option.some.inj (hx6.symm.trans (by exact kc_raddlelaw27_LoopsNames_0))
  have S := S.shutR (r := r_api_Stitch) (T := 61) (v := .slice ad3 [(api_Stitch.mk 4 true 2 0), (api_Stitch.mk 5 false 3 0), (api_Stitch.mk 8 true 0 0), (api_Stitch.mk 1 true 0 0), (api_Stitch.mk 9 false 2 0)].length cp4) (xs := [(api_Stitch.mk 4 true 2 0), (api_Stitch.mk 5 false 3 0), (api_Stitch.mk 8 true 0 0), (api_Stitch.mk 1 true 0 0), (api_Stitch.mk 9 false 2 0)]) 0 rfl
  refine sCall (X := Option Addr × Nat) (f := 30) (vs := [iv 5, .slice ad3 [(api_Stitch.mk 4 true 2 0), (api_Stitch.mk 5 false 3 0), (api_Stitch.mk 8 true 0 0), (api_Stitch.mk 1 true 0 0), (api_Stitch.mk 9 false 2 0)].length cp4]) (val := fun x => .agg #[iv r5.Start, .slice x.1 r5.Rows.length x.2]) (B' := fun x => [eRow r_api_Row 65 (.slice x.1 r5.Rows.length x.2) r5.Rows]) (D' := fun _ => []) [] [] [fRep (rL r_api_Stitch) (.slice ad3 [(api_Stitch.mk 4 true 2 0), (api_Stitch.mk 5 false 3 0), (api_Stitch.mk 8 true 0 0), (api_Stitch.mk 1 true 0 0), (api_Stitch.mk 9 false 2 0)].length cp4) [(api_Stitch.mk 4 true 2 0), (api_Stitch.mk 5 false 3 0), (api_Stitch.mk 8 true 0 0), (api_Stitch.mk 1 true 0 0), (api_Stitch.mk 9 false 2 0)]] [] [0] S (wN rfl) rfl callee30 rfl (by decide) rfl rfl (fun E1 w1 S1 => c_raddlelaw27_one_s0 E1 w1 5 [(api_Stitch.mk 4 true 2 0), (api_Stitch.mk 5 false 3 0), (api_Stitch.mk 8 true 0 0), (api_Stitch.mk 1 true 0 0), (api_Stitch.mk 9 false 2 0)] (.slice ad3 [(api_Stitch.mk 4 true 2 0), (api_Stitch.mk 5 false 3 0), (api_Stitch.mk 8 true 0 0), (api_Stitch.mk 1 true 0 0), (api_Stitch.mk 9 false 2 0)].length cp4) r5 hx6 S1) rfl (lb rfl) fun xx a w S => ?_
  obtain ⟨ad7, cp8⟩ := xx
  dsimp only at S
  refine sAlloc (.agg #[iv 0, .slice none 0 0]) S (wN rfl) rfl rfl [iv 0, .slice none 0 0] rfl rfl (lb rfl) fun a b9 w S => ?_
  refine sStore (p := b9) (off := 0) (T := 24) (vs := [iv 0, .slice none 0 0]) (v := .agg #[iv r5.Start, .slice ad7 r5.Rows.length cp8]) 0 [iv r5.Start, .slice ad7 r5.Rows.length cp8] S (wN rfl) rfl rfl rfl rfl rfl rfl rfl (by simp) rfl fun a w S => ?_
  refine leafL (leafT (hK2 _ _ ?_))
  refine sSeq (fun K10 hK10 => ?_)
  refine sRegion ?_
  refine sLoadN (p := b9) (off := 0) (T := 24) (vs := [iv r5.Start, .slice ad7 r5.Rows.length cp8]) 0 [iv r5.Start, .slice ad7 r5.Rows.length cp8] S (wN rfl) rfl rfl rfl rfl rfl rfl rfl (lb rfl) fun a S => ?_
  obtain ⟨r11, hx12, h⟩ := bindSome h
  have hv_r11 : r11 = ([(api_Loop.mk 0 0 [] false), (api_Loop.mk 0 1 [] false), (api_Loop.mk 0 2 [] false), (api_Loop.mk 0 3 [] false), (api_Loop.mk 0 4 [] false), (api_Loop.mk 1 0 [1, 0] true), (api_Loop.mk 1 1 [2] false), (api_Loop.mk 1 1 [2] false), (api_Loop.mk 1 1 [2] false), (api_Loop.mk 1 2 [3] false), (api_Loop.mk 1 3 [4] true), (api_Loop.mk 1 4 [] false), (api_Loop.mk 1 4 [] false)], 0) := Option.some.inj (hx12.symm.trans (by rw [hv_r5]; exact kc_raddlelaw27_LoopsNames_1))
  have S := S.shutR (r := r_api_Row) (T := 65) (v := .slice ad7 r5.Rows.length cp8) (xs := r5.Rows) 1 rfl
  have S := S.learn (fRep r_api_Chart (.agg #[iv r5.Start, .slice ad7 r5.Rows.length cp8]) r5) ⟨_, rfl, S.mem.know (i := 0) (e := fRep (rL r_api_Row) (.slice ad7 r5.Rows.length cp8) r5.Rows) rfl⟩
  refine sCall (X := Option Addr × Nat) (f := 11) (vs := [.agg #[iv r5.Start, .slice ad7 r5.Rows.length cp8]]) (val := fun x => .tuple #[.slice x.1 r11.1.length x.2, iv r11.2]) (B' := fun x => [eRow r_api_Loop 48 (.slice x.1 r11.1.length x.2) r11.1]) (D' := fun _ => []) [] [eBox b9 24 [iv r5.Start, .slice ad7 r5.Rows.length cp8]] [fRep r_api_Chart (.agg #[iv r5.Start, .slice ad7 r5.Rows.length cp8]) r5] [0] [0] S (wN rfl) rfl callee11 rfl (by decide) rfl rfl (fun E1 w1 S1 => c_loops_Of_s0 E1 w1 r5 (.agg #[iv r5.Start, .slice ad7 r5.Rows.length cp8]) r11 hx12 S1) rfl (lb rfl) fun xx a w S => ?_
  obtain ⟨ad13, cp14⟩ := xx
  dsimp only at S
  refine sMove (.tuple #[.slice ad13 r11.1.length cp14, iv r11.2]) S (wN rfl) (.inl rfl) rfl rfl (lb rfl) fun a S => ?_
  refine sExtract (vs := [.slice ad13 r11.1.length cp14, iv r11.2]) (.slice ad13 r11.1.length cp14) S (wN rfl) rfl rfl rfl rfl (lb rfl) fun a S => ?_
  refine sExtract (vs := [.slice ad13 r11.1.length cp14, iv r11.2]) (iv r11.2) S (wN rfl) rfl rfl rfl rfl (lb rfl) fun a S => ?_
  refine sMove (.slice ad13 r11.1.length cp14) S (wN rfl) (.inr rfl) rfl rfl (lb rfl) fun a S => ?_
  refine sMove (iv r11.2) S (wN rfl) (.inr rfl) rfl rfl (lb rfl) fun a S => ?_
  refine leafL (leafT (hK10 _ _ ?_))
  refine sSeq (fun K15 hK15 => ?_)
  refine sSeq (fun K16 hK16 => ?_)
  refine sRegion ?_
  refine sMove (iv r11.2) S (wN rfl) (.inl rfl) rfl rfl (lb rfl) fun a S => ?_
  refine sBin (.bool (r11.2 != 0)) S (wN rfl) rfl rfl rfl (bNe _ _ _ _ .i64 r11.2 0) rfl (lb rfl) fun a S => ?_
  refine sMove (.bool (r11.2 != 0)) S (wN rfl) (.inl rfl) rfl rfl (lb rfl) fun a S => ?_
  rcases iteSome h with ⟨hc17, h⟩ | ⟨hc17, h⟩
  · exact absurd hc17 (by rw [hv_r11]; decide)
  refine sMove (.slice ad13 r11.1.length cp14) S (wG 2 false 46 rfl rfl rfl hc17) (.inl rfl) rfl rfl (lb rfl) fun a S => ?_
  refine sLen (ad := ad13) (m := r11.1.length) (c := cp14) S (wG 2 false 46 rfl rfl rfl hc17) rfl Try.underlying26 rfl rfl (lb rfl) fun a S => ?_
  refine sBin (.bool ((r11.1.length : Int) != 13)) S (wG 2 false 46 rfl rfl rfl hc17) rfl rfl rfl (bNe _ _ _ _ .i64 (r11.1.length : Int) 13) rfl (lb rfl) fun a S => ?_
  refine sPickF (.bool ((r11.1.length : Int) != 13)) S (wN rfl) rfl rfl hc17 rfl rfl (lb rfl) fun a S => ?_
  refine leafL (leafT (hK16 _ _ ?_))
  rcases iteSome h with ⟨hc18, h⟩ | ⟨hc18, h⟩
  · refine sCondT S rfl hc18 ?_
    refine sSeq (fun K19 hK19 => ?_)
    refine sRegion ?_
    refine sMove (.bool false) S (wN rfl) (.inr rfl) rfl rfl (lb rfl) fun a S => ?_
    refine leafL (leafT (hK19 _ _ ?_))
    obtain rfl := Option.some.inj h
    exact wp_ret (rThen (sRet (.bool false) S (rsl1 rfl (rvT (t := 0) (v := .bool false) S rfl)) ⟨(), rfl, S.mem.sel [] [] (by decide) rfl rfl⟩))
  refine sCondF S rfl hc18 ?_
  refine wp_skip (leafT (hK15 _ _ ?_))
  refine sSeq (fun K20 hK20 => ?_)
  refine sRegion ?_
  refine sLit (r := (rI .i64)) (T := 3) (xs := ([1, 0] : List Int)) [(0, iv 1), (1, iv 0)] 2 [iv 1, iv 0] [iv 1, iv 0] (iv 0) 8 S (wN rfl) rfl rfl Try.underlying32 rfl (by decide) (by decide) (by kernel_rfl) rfl (fun E1 w1 hE => All.cons rfl (All.cons rfl (All.nil _ _ _))) rfl rfl (lb rfl) fun a w ad21 cp22 S => ?_
  refine sLit (r := (rI .i64)) (T := 3) (xs := ([2] : List Int)) [(0, iv 2)] 1 [iv 2] [iv 2] (iv 0) 8 S (wN rfl) rfl rfl Try.underlying32 rfl (by decide) (by decide) (by kernel_rfl) rfl (fun E1 w1 hE => All.cons rfl (All.nil _ _ _)) rfl rfl (lb rfl) fun a w ad23 cp24 S => ?_
  refine sLit (r := (rI .i64)) (T := 3) (xs := ([2] : List Int)) [(0, iv 2)] 1 [iv 2] [iv 2] (iv 0) 8 S (wN rfl) rfl rfl Try.underlying32 rfl (by decide) (by decide) (by kernel_rfl) rfl (fun E1 w1 hE => All.cons rfl (All.nil _ _ _)) rfl rfl (lb rfl) fun a w ad25 cp26 S => ?_
  refine sLit (r := (rI .i64)) (T := 3) (xs := ([2] : List Int)) [(0, iv 2)] 1 [iv 2] [iv 2] (iv 0) 8 S (wN rfl) rfl rfl Try.underlying32 rfl (by decide) (by decide) (by kernel_rfl) rfl (fun E1 w1 hE => All.cons rfl (All.nil _ _ _)) rfl rfl (lb rfl) fun a w ad27 cp28 S => ?_
  refine sLit (r := (rI .i64)) (T := 3) (xs := ([3] : List Int)) [(0, iv 3)] 1 [iv 3] [iv 3] (iv 0) 8 S (wN rfl) rfl rfl Try.underlying32 rfl (by decide) (by decide) (by kernel_rfl) rfl (fun E1 w1 hE => All.cons rfl (All.nil _ _ _)) rfl rfl (lb rfl) fun a w ad29 cp30 S => ?_
  refine sLit (r := (rI .i64)) (T := 3) (xs := ([4] : List Int)) [(0, iv 4)] 1 [iv 4] [iv 4] (iv 0) 8 S (wN rfl) rfl rfl Try.underlying32 rfl (by decide) (by decide) (by kernel_rfl) rfl (fun E1 w1 hE => All.cons rfl (All.nil _ _ _)) rfl rfl (lb rfl) fun a w ad31 cp32 S => ?_
  have S := S.shutR (r := (rI .i64)) (T := 3) (v := .slice ad21 ([1, 0] : List Int).length cp22) (xs := ([1, 0] : List Int)) 5 rfl
  have S := S.shutR (r := (rI .i64)) (T := 3) (v := .slice ad23 ([2] : List Int).length cp24) (xs := ([2] : List Int)) 4 rfl
  have S := S.shutR (r := (rI .i64)) (T := 3) (v := .slice ad25 ([2] : List Int).length cp26) (xs := ([2] : List Int)) 3 rfl
  have S := S.shutR (r := (rI .i64)) (T := 3) (v := .slice ad27 ([2] : List Int).length cp28) (xs := ([2] : List Int)) 2 rfl
  have S := S.shutR (r := (rI .i64)) (T := 3) (v := .slice ad29 ([3] : List Int).length cp30) (xs := ([3] : List Int)) 1 rfl
  have S := S.shutR (r := (rI .i64)) (T := 3) (v := .slice ad31 ([4] : List Int).length cp32) (xs := ([4] : List Int)) 0 rfl
  have S := S.learn (fRep (rL (rI .i64)) (.slice none 0 0) ([] : (List Int))) (rL_nil _ _ _)
  refine sLit (r := (rL (rI .i64))) (T := 32) (xs := [([1, 0] : List Int), ([2] : List Int), ([2] : List Int), ([2] : List Int), ([3] : List Int), ([4] : List Int), ([] : (List Int)), ([] : (List Int))]) [(0, .slice ad21 ([1, 0] : List Int).length cp22), (1, .slice ad23 ([2] : List Int).length cp24), (2, .slice ad25 ([2] : List Int).length cp26), (3, .slice ad27 ([2] : List Int).length cp28), (4, .slice ad29 ([3] : List Int).length cp30), (5, .slice ad31 ([4] : List Int).length cp32), (6, .slice none 0 0), (7, .slice none 0 0)] 8 [.slice ad21 ([1, 0] : List Int).length cp22, .slice ad23 ([2] : List Int).length cp24, .slice ad25 ([2] : List Int).length cp26, .slice ad27 ([2] : List Int).length cp28, .slice ad29 ([3] : List Int).length cp30, .slice ad31 ([4] : List Int).length cp32, .slice none 0 0, .slice none 0 0] [.slice ad21 ([1, 0] : List Int).length cp22, .slice ad23 ([2] : List Int).length cp24, .slice ad25 ([2] : List Int).length cp26, .slice ad27 ([2] : List Int).length cp28, .slice ad29 ([3] : List Int).length cp30, .slice ad31 ([4] : List Int).length cp32, .slice none 0 0, .slice none 0 0] (.slice none 0 0) 24 S (wN rfl) rfl rfl Try.underlying69 rfl (by decide) (by decide) (by kernel_rfl) rfl (fun E1 w1 hE => All.cons ((rL (rI .i64)).mono hE (S.mem.know (i := 6) (e := fRep (rL (rI .i64)) (.slice ad21 ([1, 0] : List Int).length cp22) ([1, 0] : List Int)) rfl)) (All.cons ((rL (rI .i64)).mono hE (S.mem.know (i := 5) (e := fRep (rL (rI .i64)) (.slice ad23 ([2] : List Int).length cp24) ([2] : List Int)) rfl)) (All.cons ((rL (rI .i64)).mono hE (S.mem.know (i := 4) (e := fRep (rL (rI .i64)) (.slice ad25 ([2] : List Int).length cp26) ([2] : List Int)) rfl)) (All.cons ((rL (rI .i64)).mono hE (S.mem.know (i := 3) (e := fRep (rL (rI .i64)) (.slice ad27 ([2] : List Int).length cp28) ([2] : List Int)) rfl)) (All.cons ((rL (rI .i64)).mono hE (S.mem.know (i := 2) (e := fRep (rL (rI .i64)) (.slice ad29 ([3] : List Int).length cp30) ([3] : List Int)) rfl)) (All.cons ((rL (rI .i64)).mono hE (S.mem.know (i := 1) (e := fRep (rL (rI .i64)) (.slice ad31 ([4] : List Int).length cp32) ([4] : List Int)) rfl)) (All.cons ((rL (rI .i64)).mono hE (S.mem.know (i := 0) (e := fRep (rL (rI .i64)) (.slice none 0 0) ([] : (List Int))) rfl)) (All.cons ((rL (rI .i64)).mono hE (S.mem.know (i := 0) (e := fRep (rL (rI .i64)) (.slice none 0 0) ([] : (List Int))) rfl)) (All.nil _ _ _))))))))) rfl rfl (lb rfl) fun a w ad33 cp34 S => ?_
  refine sMove (.slice ad33 [([1, 0] : List Int), ([2] : List Int), ([2] : List Int), ([2] : List Int), ([3] : List Int), ([4] : List Int), ([] : (List Int)), ([] : (List Int))].length cp34) S (wN rfl) (.inr rfl) rfl rfl (lb rfl) fun a S => ?_
  refine leafL (leafT (hK20 _ _ ?_))
  refine sSeq (fun K35 hK35 => ?_)
  refine sRegion ?_
  refine sLit (r := rB) (T := 4) (xs := [true, false, false, false, false, true, false, false]) [(0, .bool true), (1, .bool false), (2, .bool false), (3, .bool false), (4, .bool false), (5, .bool true), (6, .bool false), (7, .bool false)] 8 [.bool true, .bool false, .bool false, .bool false, .bool false, .bool true, .bool false, .bool false] [.bool true, .bool false, .bool false, .bool false, .bool false, .bool true, .bool false, .bool false] (.bool false) 1 S (wN rfl) rfl rfl Try.underlying70 rfl (by decide) (by decide) (by kernel_rfl) rfl (fun E1 w1 hE => All.cons rfl (All.cons rfl (All.cons rfl (All.cons rfl (All.cons rfl (All.cons rfl (All.cons rfl (All.cons rfl (All.nil _ _ _))))))))) rfl rfl (lb rfl) fun a w ad36 cp37 S => ?_
  refine sMove (.slice ad36 [true, false, false, false, false, true, false, false].length cp37) S (wN rfl) (.inr rfl) rfl rfl (lb rfl) fun a S => ?_
  refine leafL (leafT (hK35 _ _ ?_))
  refine sSeq (fun K38 hK38 => ?_)
  refine sRegion ?_
  refine sLit (r := (rI .i64)) (T := 3) (xs := ([0, 1, 1, 1, 2, 3, 4, 4] : List Int)) [(0, iv 0), (1, iv 1), (2, iv 1), (3, iv 1), (4, iv 2), (5, iv 3), (6, iv 4), (7, iv 4)] 8 [iv 0, iv 1, iv 1, iv 1, iv 2, iv 3, iv 4, iv 4] [iv 0, iv 1, iv 1, iv 1, iv 2, iv 3, iv 4, iv 4] (iv 0) 8 S (wN rfl) rfl rfl Try.underlying32 rfl (by decide) (by decide) (by kernel_rfl) rfl (fun E1 w1 hE => All.cons rfl (All.cons rfl (All.cons rfl (All.cons rfl (All.cons rfl (All.cons rfl (All.cons rfl (All.cons rfl (All.nil _ _ _))))))))) rfl rfl (lb rfl) fun a w ad39 cp40 S => ?_
  refine sMove (.slice ad39 ([0, 1, 1, 1, 2, 3, 4, 4] : List Int).length cp40) S (wN rfl) (.inr rfl) rfl rfl (lb rfl) fun a S => ?_
  refine leafL (leafT (hK38 _ _ ?_))
  obtain ⟨t41, h, g42⟩ := bindSome h
  refine sCut (fun a w => .inl () = t41 ∧ St [] E [] w0 240 a w [(1, .pointer (some ⟨b9, 0, none⟩))] [eBox b9 24 [iv r5.Start, .slice ad7 r5.Rows.length cp8]] [fRep (rL r_api_Row) (.slice ad7 r5.Rows.length cp8) r5.Rows]) ?_ (fun a w hI => ?_)
  rotate_left
  · obtain ⟨rfl, S⟩ := hI
    have h := g42
    clear g42
    try dsimp only at h
    refine sSeq (fun K113 hK113 => ?_)
    refine sRegion ?_
    refine sLoadN (p := b9) (off := 0) (T := 24) (vs := [iv r5.Start, .slice ad7 r5.Rows.length cp8]) 0 [iv r5.Start, .slice ad7 r5.Rows.length cp8] S (wN rfl) rfl rfl rfl rfl rfl rfl rfl (lb rfl) fun a S => ?_
    obtain ⟨r114, hx115, h⟩ := bindSome h
    have hv_r114 : r114 = ([6, 7, 8], 0) := Option.some.inj (hx115.symm.trans (by rw [hv_r5]; exact kc_raddlelaw27_LoopsNames_2))
    have S := S.learn (fRep r_api_Chart (.agg #[iv r5.Start, .slice ad7 r5.Rows.length cp8]) r5) ⟨_, rfl, S.mem.know (i := 0) (e := fRep (rL r_api_Row) (.slice ad7 r5.Rows.length cp8) r5.Rows) rfl⟩
    refine sCall (X := Option Addr × Nat) (f := 24) (vs := [.agg #[iv r5.Start, .slice ad7 r5.Rows.length cp8], iv 2]) (val := fun x => .tuple #[.slice x.1 r114.1.length x.2, iv r114.2]) (B' := fun x => [eRow (rI .i64) 3 (.slice x.1 r114.1.length x.2) r114.1]) (D' := fun _ => []) [] [eBox b9 24 [iv r5.Start, .slice ad7 r5.Rows.length cp8]] [fRep r_api_Chart (.agg #[iv r5.Start, .slice ad7 r5.Rows.length cp8]) r5] [0] [0] S (wN rfl) rfl callee24 rfl (by decide) rfl rfl (fun E1 w1 S1 => c_loops_Kids_s0 E1 w1 r5 (.agg #[iv r5.Start, .slice ad7 r5.Rows.length cp8]) 2 r114 hx115 S1) rfl (lb rfl) fun xx a w S => ?_
    obtain ⟨ad116, cp117⟩ := xx
    dsimp only at S
    refine sMove (.tuple #[.slice ad116 r114.1.length cp117, iv r114.2]) S (wN rfl) (.inl rfl) rfl rfl (lb rfl) fun a S => ?_
    refine sExtract (vs := [.slice ad116 r114.1.length cp117, iv r114.2]) (.slice ad116 r114.1.length cp117) S (wN rfl) rfl rfl rfl rfl (lb rfl) fun a S => ?_
    refine sExtract (vs := [.slice ad116 r114.1.length cp117, iv r114.2]) (iv r114.2) S (wN rfl) rfl rfl rfl rfl (lb rfl) fun a S => ?_
    refine sMove (.slice ad116 r114.1.length cp117) S (wN rfl) (.inr rfl) rfl rfl (lb rfl) fun a S => ?_
    refine sMove (iv r114.2) S (wN rfl) (.inr rfl) rfl rfl (lb rfl) fun a S => ?_
    refine leafL (leafT (hK113 _ _ ?_))
    refine sSeq (fun K118 hK118 => ?_)
    refine sRegion ?_
    refine sBuild [(0, .int .u8 7), (2, iv 2), (3, iv 1)] [.int .u8 7, .bool false, iv 2, iv 1] S (wN rfl) rfl rfl rfl rfl (lb rfl) fun a S => ?_
    have S := S.learn (fRep r_api_Stitch (.agg #[.int .u8 7, .bool false, iv 2, iv 1]) (api_Stitch.mk 7 false 2 1)) rfl
    refine sLit (r := r_api_Stitch) (T := 61) (xs := [(api_Stitch.mk 7 false 2 1)]) [(0, .agg #[.int .u8 7, .bool false, iv 2, iv 1])] 1 [.agg #[.int .u8 7, .bool false, iv 2, iv 1]] [.int .u8 7, .bool false, iv 2, iv 1] (.agg #[.int .u8 0, .bool false, iv 0, iv 0]) 24 S (wN rfl) rfl rfl Try.underlying62 rfl (by decide) (by decide) (by kernel_rfl) rfl (fun E1 w1 hE => All.cons (r_api_Stitch.mono hE (S.mem.know (i := 0) (e := fRep r_api_Stitch (.agg #[.int .u8 7, .bool false, iv 2, iv 1]) (api_Stitch.mk 7 false 2 1)) rfl)) (All.nil _ _ _)) rfl rfl (lb rfl) fun a w ad119 cp120 S => ?_
    obtain ⟨r121, hx122, h⟩ := bindSome h
    have hv_r121 : r121 = (api_Chart.mk 3 [(api_Row.mk false [(api_Stitch.mk 7 false 2 1)])]) := Option.some.inj (hx122.symm.trans (by exact kc_raddlelaw27_LoopsNames_3))
    have S := S.shutR (r := r_api_Stitch) (T := 61) (v := .slice ad119 [(api_Stitch.mk 7 false 2 1)].length cp120) (xs := [(api_Stitch.mk 7 false 2 1)]) 0 rfl
    refine sCall (X := Option Addr × Nat) (f := 30) (vs := [iv 3, .slice ad119 [(api_Stitch.mk 7 false 2 1)].length cp120]) (val := fun x => .agg #[iv r121.Start, .slice x.1 r121.Rows.length x.2]) (B' := fun x => [eRow r_api_Row 65 (.slice x.1 r121.Rows.length x.2) r121.Rows]) (D' := fun _ => []) [] [eRow (rI .i64) 3 (.slice ad116 r114.1.length cp117) r114.1, eBox b9 24 [iv r5.Start, .slice ad7 r5.Rows.length cp8]] [fRep (rL r_api_Stitch) (.slice ad119 [(api_Stitch.mk 7 false 2 1)].length cp120) [(api_Stitch.mk 7 false 2 1)]] [0, 1] [0] S (wN rfl) rfl callee30 rfl (by decide) rfl rfl (fun E1 w1 S1 => c_raddlelaw27_one_s0 E1 w1 3 [(api_Stitch.mk 7 false 2 1)] (.slice ad119 [(api_Stitch.mk 7 false 2 1)].length cp120) r121 hx122 S1) rfl (lb rfl) fun xx a w S => ?_
    obtain ⟨ad123, cp124⟩ := xx
    dsimp only at S
    refine sAlloc (.agg #[iv 0, .slice none 0 0]) S (wN rfl) rfl rfl [iv 0, .slice none 0 0] rfl rfl (lb rfl) fun a b125 w S => ?_
    refine sStore (p := b125) (off := 0) (T := 24) (vs := [iv 0, .slice none 0 0]) (v := .agg #[iv r121.Start, .slice ad123 r121.Rows.length cp124]) 0 [iv r121.Start, .slice ad123 r121.Rows.length cp124] S (wN rfl) rfl rfl rfl rfl rfl rfl rfl (by simp) rfl fun a w S => ?_
    refine leafL (leafT (hK118 _ _ ?_))
    refine sSeq (fun K126 hK126 => ?_)
    refine sRegion ?_
    refine sField (b := b125) (off := 0) 1 1 S (wN rfl) rfl rfl rfl rfl rfl (lb rfl) fun a S => ?_
    refine sLoad1 (p := b125) (off := 1) (T := 24) (vs := [iv r121.Start, .slice ad123 r121.Rows.length cp124]) 0 (.slice ad123 r121.Rows.length cp124) S (wN rfl) rfl rfl rfl rfl rfl rfl (lb rfl) fun a S => ?_
    obtain ⟨x127, hx128, h⟩ := bindSome h
    have hv_x127 : x127 = (api_Row.mk false [(api_Stitch.mk 7 false 2 1)]) := Option.some.inj (hx128.symm.trans (by rw [hv_r121]; kernel_rfl))
    obtain ⟨q129, hq130, hp131⟩ := pIdxR (P := Try.prog) (r := r_api_Row) (T := 65) (v := .slice ad123 r121.Rows.length cp124) (xs := r121.Rows) (j := 0) 22 65 1 S Try.underlying22 rfl rfl hx128
    refine sIdxV (v := .slice ad123 r121.Rows.length cp124) (k := .i64) (j := 0) S (wN rfl) rfl rfl rfl hq130 rfl (lb rfl) fun a S => ?_
    obtain ⟨q132, hq133, hp134⟩ := pFldR (P := Try.prog) 65 0 0 hp131 rfl
    refine sFldV (q := q129) S (wN rfl) rfl rfl hq133 rfl (lb rfl) fun a S => ?_
    obtain ⟨l135, hx136, h⟩ := bindSome h
    have hv_l135 : l135 = [(api_Row.mk true [(api_Stitch.mk 7 false 2 1)])] := Option.some.inj (hx136.symm.trans (by rw [hv_r121, hv_x127]; kernel_rfl))
    refine sStoreF (r := r_api_Row) (s := rB) (T := 65) (xs := r121.Rows) (ys := l135) (x := x127) (y := (api_Row.mk true x127.Cells)) (z := true) (v := .slice ad123 r121.Rows.length cp124) (vq := q132) (u := .bool true) (j := 0) 1 0 S hp134 (wN rfl) rfl rfl rfl rfl rfl hx128 (upd_api_Row_Back _ _) hx136 rfl rfl fun a w S => ?_
    rw [setO_v hx136 ad123 cp124] at S
    refine leafL (leafT (hK126 _ _ ?_))
    refine sSeq (fun K137 hK137 => ?_)
    refine sRegion ?_
    refine sLoadN (p := b125) (off := 0) (T := 24) (vs := [iv r121.Start, .slice ad123 l135.length cp124]) 1 [iv r121.Start, .slice ad123 l135.length cp124] S (wN rfl) rfl rfl rfl rfl rfl rfl rfl (lb rfl) fun a S => ?_
    obtain ⟨r138, hx139, h⟩ := bindSome h
    have hv_r138 : r138 = ([(api_Loop.mk 0 0 [] false), (api_Loop.mk 0 1 [] false), (api_Loop.mk 0 2 [] false), (api_Loop.mk 1 0 [1] true), (api_Loop.mk 1 0 [2] true), (api_Loop.mk 1 0 [0] true)], 0) := Option.some.inj (hx139.symm.trans (by rw [hv_r121, hv_l135]; exact kc_raddlelaw27_LoopsNames_4))
    have S := S.shutR (r := r_api_Row) (T := 65) (v := .slice ad123 l135.length cp124) (xs := l135) 0 rfl
    have S := S.learn (fRep r_api_Chart (.agg #[iv r121.Start, .slice ad123 l135.length cp124]) (api_Chart.mk r121.Start l135)) ⟨_, rfl, S.mem.know (i := 0) (e := fRep (rL r_api_Row) (.slice ad123 l135.length cp124) l135) rfl⟩
    refine sCall (X := Option Addr × Nat) (f := 11) (vs := [.agg #[iv r121.Start, .slice ad123 l135.length cp124]]) (val := fun x => .tuple #[.slice x.1 r138.1.length x.2, iv r138.2]) (B' := fun x => [eRow r_api_Loop 48 (.slice x.1 r138.1.length x.2) r138.1]) (D' := fun _ => []) [] [eBox b125 24 [iv r121.Start, .slice ad123 l135.length cp124], eRow (rI .i64) 3 (.slice ad116 r114.1.length cp117) r114.1, eBox b9 24 [iv r5.Start, .slice ad7 r5.Rows.length cp8]] [fRep r_api_Chart (.agg #[iv r121.Start, .slice ad123 l135.length cp124]) (api_Chart.mk r121.Start l135)] [0, 1, 2] [0] S (wN rfl) rfl callee11 rfl (by decide) rfl rfl (fun E1 w1 S1 => c_loops_Of_s0 E1 w1 (api_Chart.mk r121.Start l135) (.agg #[iv r121.Start, .slice ad123 l135.length cp124]) r138 hx139 S1) rfl (lb rfl) fun xx a w S => ?_
    obtain ⟨ad140, cp141⟩ := xx
    dsimp only at S
    refine sMove (.tuple #[.slice ad140 r138.1.length cp141, iv r138.2]) S (wN rfl) (.inl rfl) rfl rfl (lb rfl) fun a S => ?_
    refine sExtract (vs := [.slice ad140 r138.1.length cp141, iv r138.2]) (.slice ad140 r138.1.length cp141) S (wN rfl) rfl rfl rfl rfl (lb rfl) fun a S => ?_
    refine sExtract (vs := [.slice ad140 r138.1.length cp141, iv r138.2]) (iv r138.2) S (wN rfl) rfl rfl rfl rfl (lb rfl) fun a S => ?_
    refine sMove (.slice ad140 r138.1.length cp141) S (wN rfl) (.inr rfl) rfl rfl (lb rfl) fun a S => ?_
    refine sMove (iv r138.2) S (wN rfl) (.inr rfl) rfl rfl (lb rfl) fun a S => ?_
    refine leafL (leafT (hK137 _ _ ?_))
    refine sSeq (fun K142 hK142 => ?_)
    refine sRegion ?_
    refine sLoadN (p := b125) (off := 0) (T := 24) (vs := [iv r121.Start, .slice ad123 l135.length cp124]) 1 [iv r121.Start, .slice ad123 l135.length cp124] S (wN rfl) rfl rfl rfl rfl rfl rfl rfl (lb rfl) fun a S => ?_
    obtain ⟨r143, hx144, h⟩ := bindSome h
    have hv_r143 : r143 = ([(3, 5), (4, 5)], 0) := Option.some.inj (hx144.symm.trans (by rw [hv_r121, hv_l135]; exact kc_raddlelaw27_LoopsNames_5))
    refine sCall (X := Option Addr × Nat) (f := 15) (vs := [.agg #[iv r121.Start, .slice ad123 l135.length cp124]]) (val := fun x => .tuple #[.slice x.1 r143.1.length x.2, iv r143.2]) (B' := fun x => [eRow r_A2_Int 49 (.slice x.1 r143.1.length x.2) r143.1]) (D' := fun _ => []) [] [eRow r_api_Loop 48 (.slice ad140 r138.1.length cp141) r138.1, eBox b125 24 [iv r121.Start, .slice ad123 l135.length cp124], eRow (rI .i64) 3 (.slice ad116 r114.1.length cp117) r114.1, eBox b9 24 [iv r5.Start, .slice ad7 r5.Rows.length cp8]] [fRep r_api_Chart (.agg #[iv r121.Start, .slice ad123 l135.length cp124]) (api_Chart.mk r121.Start l135)] [0, 1, 2, 3] [0] S (wN rfl) rfl callee15 rfl (by decide) rfl rfl (fun E1 w1 S1 => c_loops_Crossings_s0 E1 w1 (api_Chart.mk r121.Start l135) (.agg #[iv r121.Start, .slice ad123 l135.length cp124]) r143 hx144 S1) rfl (lb rfl) fun xx a w S => ?_
    obtain ⟨ad145, cp146⟩ := xx
    dsimp only at S
    refine sMove (.tuple #[.slice ad145 r143.1.length cp146, iv r143.2]) S (wN rfl) (.inl rfl) rfl rfl (lb rfl) fun a S => ?_
    refine sExtract (vs := [.slice ad145 r143.1.length cp146, iv r143.2]) (.slice ad145 r143.1.length cp146) S (wN rfl) rfl rfl rfl rfl (lb rfl) fun a S => ?_
    refine sExtract (vs := [.slice ad145 r143.1.length cp146, iv r143.2]) (iv r143.2) S (wN rfl) rfl rfl rfl rfl (lb rfl) fun a S => ?_
    refine sMove (.slice ad145 r143.1.length cp146) S (wN rfl) (.inr rfl) rfl rfl (lb rfl) fun a S => ?_
    refine sMove (iv r143.2) S (wN rfl) (.inr rfl) rfl rfl (lb rfl) fun a S => ?_
    refine leafL (leafT (hK142 _ _ ?_))
    refine sSeq (fun K147 hK147 => ?_)
    refine sSeq (fun K148 hK148 => ?_)
    refine sRegion ?_
    refine sMove (iv r138.2) S (wN rfl) (.inl rfl) rfl rfl (lb rfl) fun a S => ?_
    refine sBin (.bool (r138.2 != 0)) S (wN rfl) rfl rfl rfl (bNe _ _ _ _ .i64 r138.2 0) rfl (lb rfl) fun a S => ?_
    refine sMove (.bool (r138.2 != 0)) S (wN rfl) (.inl rfl) rfl rfl (lb rfl) fun a S => ?_
    rcases iteSome h with ⟨hc149, h⟩ | ⟨hc149, h⟩
    · exact absurd hc149 (by rw [hv_r138]; decide)
    refine sMove (.slice ad140 r138.1.length cp141) S (wG 2 false 124 rfl rfl rfl hc149) (.inl rfl) rfl rfl (lb rfl) fun a S => ?_
    refine sLen (ad := ad140) (m := r138.1.length) (c := cp141) S (wG 2 false 124 rfl rfl rfl hc149) rfl Try.underlying26 rfl rfl (lb rfl) fun a S => ?_
    refine sBin (.bool ((r138.1.length : Int) != 6)) S (wG 2 false 124 rfl rfl rfl hc149) rfl rfl rfl (bNe _ _ _ _ .i64 (r138.1.length : Int) 6) rfl (lb rfl) fun a S => ?_
    refine sPickF (.bool ((r138.1.length : Int) != 6)) S (wN rfl) rfl rfl hc149 rfl rfl (lb rfl) fun a S => ?_
    refine leafL (leafT (hK148 _ _ ?_))
    rcases iteSome h with ⟨hc150, h⟩ | ⟨hc150, h⟩
    · refine sCondT S rfl hc150 ?_
      refine sSeq (fun K151 hK151 => ?_)
      refine sRegion ?_
      refine sMove (.bool false) S (wN rfl) (.inr rfl) rfl rfl (lb rfl) fun a S => ?_
      refine leafL (leafT (hK151 _ _ ?_))
      obtain rfl := Option.some.inj h
      exact wp_ret (rThen (sRet (.bool false) S (rsl1 rfl (rvT (t := 0) (v := .bool false) S rfl)) ⟨(), rfl, S.mem.sel [] [] (by decide) rfl rfl⟩))
    refine sCondF S rfl hc150 ?_
    refine wp_skip (leafT (hK147 _ _ ?_))
    refine sSeq (fun K152 hK152 => ?_)
    refine sRegion ?_
    refine sLoadN (p := b9) (off := 0) (T := 24) (vs := [iv r5.Start, .slice ad7 r5.Rows.length cp8]) 4 [iv r5.Start, .slice ad7 r5.Rows.length cp8] S (wN rfl) rfl rfl rfl rfl rfl rfl rfl (lb rfl) fun a S => ?_
    obtain ⟨r153, hx154, h⟩ := bindSome h
    have hv_r153 : r153 = (5, (13, 0)) := Option.some.inj (hx154.symm.trans (by rw [hv_r5]; exact kc_raddlelaw27_LoopsNames_6))
    have S1 := S.mem
    refine sCallQ (X := Unit) (f := 22) (vs := [.agg #[iv r5.Start, .slice ad7 r5.Rows.length cp8], iv 1]) (val := fun _ => .tuple #[iv r153.1, iv r153.2.1, iv r153.2.2]) S (wN rfl) rfl callee22 rfl (S1.quiet [4] rfl) (fun E1 w1 S1 => c_loops_Row E1 w1 r5 (.agg #[iv r5.Start, .slice ad7 r5.Rows.length cp8]) 1 r153 hx154 S1) rfl (lb rfl) fun _ a w S => ?_
    refine sMove (.tuple #[iv r153.1, iv r153.2.1, iv r153.2.2]) S (wN rfl) (.inl rfl) rfl rfl (lb rfl) fun a S => ?_
    refine sExtract (vs := [iv r153.1, iv r153.2.1, iv r153.2.2]) (iv r153.1) S (wN rfl) rfl rfl rfl rfl (lb rfl) fun a S => ?_
    refine sExtract (vs := [iv r153.1, iv r153.2.1, iv r153.2.2]) (iv r153.2.1) S (wN rfl) rfl rfl rfl rfl (lb rfl) fun a S => ?_
    refine sExtract (vs := [iv r153.1, iv r153.2.1, iv r153.2.2]) (iv r153.2.2) S (wN rfl) rfl rfl rfl rfl (lb rfl) fun a S => ?_
    refine sMove (iv r153.1) S (wN rfl) (.inr rfl) rfl rfl (lb rfl) fun a S => ?_
    refine sMove (iv r153.2.1) S (wN rfl) (.inr rfl) rfl rfl (lb rfl) fun a S => ?_
    refine sMove (iv r153.2.2) S (wN rfl) (.inr rfl) rfl rfl (lb rfl) fun a S => ?_
    refine leafL (leafT (hK152 _ _ ?_))
    refine sSeq (fun K155 hK155 => ?_)
    refine sRegion ?_
    refine sLoadN (p := b9) (off := 0) (T := 24) (vs := [iv r5.Start, .slice ad7 r5.Rows.length cp8]) 4 [iv r5.Start, .slice ad7 r5.Rows.length cp8] S (wN rfl) rfl rfl rfl rfl rfl rfl rfl (lb rfl) fun a S => ?_
    obtain ⟨r156, hx157, h⟩ := bindSome h
    have hv_r156 : r156 = (0, (0, 2)) := Option.some.inj (hx157.symm.trans (by rw [hv_r5]; exact kc_raddlelaw27_LoopsNames_7))
    have S1 := S.mem
    refine sCallQ (X := Unit) (f := 22) (vs := [.agg #[iv r5.Start, .slice ad7 r5.Rows.length cp8], iv 2]) (val := fun _ => .tuple #[iv r156.1, iv r156.2.1, iv r156.2.2]) S (wN rfl) rfl callee22 rfl (S1.quiet [4] rfl) (fun E1 w1 S1 => c_loops_Row E1 w1 r5 (.agg #[iv r5.Start, .slice ad7 r5.Rows.length cp8]) 2 r156 hx157 S1) rfl (lb rfl) fun _ a w S => ?_
    refine sMove (.tuple #[iv r156.1, iv r156.2.1, iv r156.2.2]) S (wN rfl) (.inl rfl) rfl rfl (lb rfl) fun a S => ?_
    refine sExtract (vs := [iv r156.1, iv r156.2.1, iv r156.2.2]) (iv r156.1) S (wN rfl) rfl rfl rfl rfl (lb rfl) fun a S => ?_
    refine sExtract (vs := [iv r156.1, iv r156.2.1, iv r156.2.2]) (iv r156.2.1) S (wN rfl) rfl rfl rfl rfl (lb rfl) fun a S => ?_
    refine sExtract (vs := [iv r156.1, iv r156.2.1, iv r156.2.2]) (iv r156.2.2) S (wN rfl) rfl rfl rfl rfl (lb rfl) fun a S => ?_
    refine sMove (iv r156.1) S (wN rfl) (.inr rfl) rfl rfl (lb rfl) fun a S => ?_
    refine sMove (iv r156.2.1) S (wN rfl) (.inr rfl) rfl rfl (lb rfl) fun a S => ?_
    refine sMove (iv r156.2.2) S (wN rfl) (.inr rfl) rfl rfl (lb rfl) fun a S => ?_
    refine leafL (leafT (hK155 _ _ ?_))
    refine sSeq (fun K158 hK158 => ?_)
    refine sRegion ?_
    refine sLoadN (p := b9) (off := 0) (T := 24) (vs := [iv r5.Start, .slice ad7 r5.Rows.length cp8]) 4 [iv r5.Start, .slice ad7 r5.Rows.length cp8] S (wN rfl) rfl rfl rfl rfl rfl rfl rfl (lb rfl) fun a S => ?_
    obtain ⟨r159, hx160, h⟩ := bindSome h
    have hv_r159 : r159 = ([], 2) := Option.some.inj (hx160.symm.trans (by rw [hv_r5]; exact kc_raddlelaw27_LoopsNames_8))
    refine sCall (X := Option Addr × Nat) (f := 24) (vs := [.agg #[iv r5.Start, .slice ad7 r5.Rows.length cp8], iv 13]) (val := fun x => .tuple #[.slice x.1 r159.1.length x.2, iv r159.2]) (B' := fun x => [eRow (rI .i64) 3 (.slice x.1 r159.1.length x.2) r159.1]) (D' := fun _ => []) [] [eRow r_A2_Int 49 (.slice ad145 r143.1.length cp146) r143.1, eRow r_api_Loop 48 (.slice ad140 r138.1.length cp141) r138.1, eBox b125 24 [iv r121.Start, .slice ad123 l135.length cp124], eRow (rI .i64) 3 (.slice ad116 r114.1.length cp117) r114.1, eBox b9 24 [iv r5.Start, .slice ad7 r5.Rows.length cp8]] [fRep r_api_Chart (.agg #[iv r5.Start, .slice ad7 r5.Rows.length cp8]) r5] [0, 1, 2, 3, 4] [4] S (wN rfl) rfl callee24 rfl (by decide) rfl rfl (fun E1 w1 S1 => c_loops_Kids_s0 E1 w1 r5 (.agg #[iv r5.Start, .slice ad7 r5.Rows.length cp8]) 13 r159 hx160 S1) rfl (lb rfl) fun xx a w S => ?_
    obtain ⟨ad161, cp162⟩ := xx
    dsimp only at S
    refine sMove (.tuple #[.slice ad161 r159.1.length cp162, iv r159.2]) S (wN rfl) (.inl rfl) rfl rfl (lb rfl) fun a S => ?_
    refine sExtract (vs := [.slice ad161 r159.1.length cp162, iv r159.2]) (.slice ad161 r159.1.length cp162) S (wN rfl) rfl rfl rfl rfl (lb rfl) fun a S => ?_
    refine sExtract (vs := [.slice ad161 r159.1.length cp162, iv r159.2]) (iv r159.2) S (wN rfl) rfl rfl rfl rfl (lb rfl) fun a S => ?_
    refine sMove (.slice ad161 r159.1.length cp162) S (wN rfl) (.inr rfl) rfl rfl (lb rfl) fun a S => ?_
    refine sMove (iv r159.2) S (wN rfl) (.inr rfl) rfl rfl (lb rfl) fun a S => ?_
    refine leafL (leafT (hK158 _ _ ?_))
    refine sSeq (fun K163 hK163 => ?_)
    refine sRegion ?_
    refine sLoadN (p := b9) (off := 0) (T := 24) (vs := [iv r5.Start, .slice ad7 r5.Rows.length cp8]) 5 [iv r5.Start, .slice ad7 r5.Rows.length cp8] S (wN rfl) rfl rfl rfl rfl rfl rfl rfl (lb rfl) fun a S => ?_
    obtain ⟨r164, hx165, h⟩ := bindSome h
    have hv_r164 : r164 = ([], 2) := Option.some.inj (hx165.symm.trans (by rw [hv_r5]; exact kc_raddlelaw27_LoopsNames_9))
    refine sCall (X := Option Addr × Nat) (f := 24) (vs := [.agg #[iv r5.Start, .slice ad7 r5.Rows.length cp8], iv (-1)]) (val := fun x => .tuple #[.slice x.1 r164.1.length x.2, iv r164.2]) (B' := fun x => [eRow (rI .i64) 3 (.slice x.1 r164.1.length x.2) r164.1]) (D' := fun _ => []) [] [eRow (rI .i64) 3 (.slice ad161 r159.1.length cp162) r159.1, eRow r_A2_Int 49 (.slice ad145 r143.1.length cp146) r143.1, eRow r_api_Loop 48 (.slice ad140 r138.1.length cp141) r138.1, eBox b125 24 [iv r121.Start, .slice ad123 l135.length cp124], eRow (rI .i64) 3 (.slice ad116 r114.1.length cp117) r114.1, eBox b9 24 [iv r5.Start, .slice ad7 r5.Rows.length cp8]] [fRep r_api_Chart (.agg #[iv r5.Start, .slice ad7 r5.Rows.length cp8]) r5] [0, 1, 2, 3, 4, 5] [4] S (wN rfl) rfl callee24 rfl (by decide) rfl rfl (fun E1 w1 S1 => c_loops_Kids_s0 E1 w1 r5 (.agg #[iv r5.Start, .slice ad7 r5.Rows.length cp8]) (-1) r164 hx165 S1) rfl (lb rfl) fun xx a w S => ?_
    obtain ⟨ad166, cp167⟩ := xx
    dsimp only at S
    refine sMove (.tuple #[.slice ad166 r164.1.length cp167, iv r164.2]) S (wN rfl) (.inl rfl) rfl rfl (lb rfl) fun a S => ?_
    refine sExtract (vs := [.slice ad166 r164.1.length cp167, iv r164.2]) (.slice ad166 r164.1.length cp167) S (wN rfl) rfl rfl rfl rfl (lb rfl) fun a S => ?_
    refine sExtract (vs := [.slice ad166 r164.1.length cp167, iv r164.2]) (iv r164.2) S (wN rfl) rfl rfl rfl rfl (lb rfl) fun a S => ?_
    refine sMove (.slice ad166 r164.1.length cp167) S (wN rfl) (.inr rfl) rfl rfl (lb rfl) fun a S => ?_
    refine sMove (iv r164.2) S (wN rfl) (.inr rfl) rfl rfl (lb rfl) fun a S => ?_
    refine leafL (leafT (hK163 _ _ ?_))
    refine sSeq (fun K168 hK168 => ?_)
    refine sRegion ?_
    obtain ⟨r169, hx170, h⟩ := bindSome h
    have hv_r169 : r169 = (api_Chart.mk 1 [(api_Row.mk false [])]) := Option.some.inj (hx170.symm.trans (by exact kc_raddlelaw27_LoopsNames_10))
    have S := S.learn (fRep (rL r_api_Stitch) (.slice none 0 0) ([] : (List api_Stitch))) (rL_nil _ _ _)
    refine sCall (X := Option Addr × Nat) (f := 30) (vs := [iv 1, .slice none 0 0]) (val := fun x => .agg #[iv r169.Start, .slice x.1 r169.Rows.length x.2]) (B' := fun x => [eRow r_api_Row 65 (.slice x.1 r169.Rows.length x.2) r169.Rows]) (D' := fun _ => []) [] [eRow (rI .i64) 3 (.slice ad166 r164.1.length cp167) r164.1, eRow (rI .i64) 3 (.slice ad161 r159.1.length cp162) r159.1, eRow r_A2_Int 49 (.slice ad145 r143.1.length cp146) r143.1, eRow r_api_Loop 48 (.slice ad140 r138.1.length cp141) r138.1, eBox b125 24 [iv r121.Start, .slice ad123 l135.length cp124], eRow (rI .i64) 3 (.slice ad116 r114.1.length cp117) r114.1, eBox b9 24 [iv r5.Start, .slice ad7 r5.Rows.length cp8]] [fRep (rL r_api_Stitch) (.slice none 0 0) ([] : (List api_Stitch))] [0, 1, 2, 3, 4, 5, 6] [0] S (wN rfl) rfl callee30 rfl (by decide) rfl rfl (fun E1 w1 S1 => c_raddlelaw27_one_s0 E1 w1 1 ([] : (List api_Stitch)) (.slice none 0 0) r169 hx170 S1) rfl (lb rfl) fun xx a w S => ?_
    obtain ⟨ad171, cp172⟩ := xx
    dsimp only at S
    obtain ⟨r173, hx174, h⟩ := bindSome h
    have hv_r173 : r173 = ([], 26) := Option.some.inj (hx174.symm.trans (by rw [hv_r169]; exact kc_raddlelaw27_LoopsNames_11))
    have S := S.shutR (r := r_api_Row) (T := 65) (v := .slice ad171 r169.Rows.length cp172) (xs := r169.Rows) 0 rfl
    have S := S.learn (fRep r_api_Chart (.agg #[iv r169.Start, .slice ad171 r169.Rows.length cp172]) r169) ⟨_, rfl, S.mem.know (i := 0) (e := fRep (rL r_api_Row) (.slice ad171 r169.Rows.length cp172) r169.Rows) rfl⟩
    refine sCall (X := Option Addr × Nat) (f := 11) (vs := [.agg #[iv r169.Start, .slice ad171 r169.Rows.length cp172]]) (val := fun x => .tuple #[.slice x.1 r173.1.length x.2, iv r173.2]) (B' := fun x => [eRow r_api_Loop 48 (.slice x.1 r173.1.length x.2) r173.1]) (D' := fun _ => []) [] [eRow (rI .i64) 3 (.slice ad166 r164.1.length cp167) r164.1, eRow (rI .i64) 3 (.slice ad161 r159.1.length cp162) r159.1, eRow r_A2_Int 49 (.slice ad145 r143.1.length cp146) r143.1, eRow r_api_Loop 48 (.slice ad140 r138.1.length cp141) r138.1, eBox b125 24 [iv r121.Start, .slice ad123 l135.length cp124], eRow (rI .i64) 3 (.slice ad116 r114.1.length cp117) r114.1, eBox b9 24 [iv r5.Start, .slice ad7 r5.Rows.length cp8]] [fRep r_api_Chart (.agg #[iv r169.Start, .slice ad171 r169.Rows.length cp172]) r169] [0, 1, 2, 3, 4, 5, 6] [0] S (wN rfl) rfl callee11 rfl (by decide) rfl rfl (fun E1 w1 S1 => c_loops_Of_s0 E1 w1 r169 (.agg #[iv r169.Start, .slice ad171 r169.Rows.length cp172]) r173 hx174 S1) rfl (lb rfl) fun xx a w S => ?_
    obtain ⟨ad175, cp176⟩ := xx
    dsimp only at S
    refine sMove (.tuple #[.slice ad175 r173.1.length cp176, iv r173.2]) S (wN rfl) (.inl rfl) rfl rfl (lb rfl) fun a S => ?_
    refine sExtract (vs := [.slice ad175 r173.1.length cp176, iv r173.2]) (.slice ad175 r173.1.length cp176) S (wN rfl) rfl rfl rfl rfl (lb rfl) fun a S => ?_
    refine sExtract (vs := [.slice ad175 r173.1.length cp176, iv r173.2]) (iv r173.2) S (wN rfl) rfl rfl rfl rfl (lb rfl) fun a S => ?_
    refine sMove (.slice ad175 r173.1.length cp176) S (wN rfl) (.inr rfl) rfl rfl (lb rfl) fun a S => ?_
    refine sMove (iv r173.2) S (wN rfl) (.inr rfl) rfl rfl (lb rfl) fun a S => ?_
    refine leafL (leafT (hK168 _ _ ?_))
    refine sSeq (fun K177 hK177 => ?_)
    refine sRegion ?_
    refine sLoadN (p := b9) (off := 0) (T := 24) (vs := [iv r5.Start, .slice ad7 r5.Rows.length cp8]) 7 [iv r5.Start, .slice ad7 r5.Rows.length cp8] S (wN rfl) rfl rfl rfl rfl rfl rfl rfl (lb rfl) fun a S => ?_
    obtain ⟨r178, hx179, h⟩ := bindSome h
    have hv_r178 : r178 = (0, (0, 2)) := Option.some.inj (hx179.symm.trans (by rw [hv_r5]; exact kc_raddlelaw27_LoopsNames_12))
    have S1 := S.mem
    refine sCallQ (X := Unit) (f := 22) (vs := [.agg #[iv r5.Start, .slice ad7 r5.Rows.length cp8], iv (-1)]) (val := fun _ => .tuple #[iv r178.1, iv r178.2.1, iv r178.2.2]) S (wN rfl) rfl callee22 rfl (S1.quiet [7] rfl) (fun E1 w1 S1 => c_loops_Row E1 w1 r5 (.agg #[iv r5.Start, .slice ad7 r5.Rows.length cp8]) (-1) r178 hx179 S1) rfl (lb rfl) fun _ a w S => ?_
    refine sMove (.tuple #[iv r178.1, iv r178.2.1, iv r178.2.2]) S (wN rfl) (.inl rfl) rfl rfl (lb rfl) fun a S => ?_
    refine sExtract (vs := [iv r178.1, iv r178.2.1, iv r178.2.2]) (iv r178.1) S (wN rfl) rfl rfl rfl rfl (lb rfl) fun a S => ?_
    refine sExtract (vs := [iv r178.1, iv r178.2.1, iv r178.2.2]) (iv r178.2.1) S (wN rfl) rfl rfl rfl rfl (lb rfl) fun a S => ?_
    refine sExtract (vs := [iv r178.1, iv r178.2.1, iv r178.2.2]) (iv r178.2.2) S (wN rfl) rfl rfl rfl rfl (lb rfl) fun a S => ?_
    refine sMove (iv r178.1) S (wN rfl) (.inr rfl) rfl rfl (lb rfl) fun a S => ?_
    refine sMove (iv r178.2.1) S (wN rfl) (.inr rfl) rfl rfl (lb rfl) fun a S => ?_
    refine sMove (iv r178.2.2) S (wN rfl) (.inr rfl) rfl rfl (lb rfl) fun a S => ?_
    refine leafL (leafT (hK177 _ _ ?_))
    refine sSeq (fun K180 hK180 => ?_)
    refine sRegion ?_
    obtain ⟨r181, hx182, h⟩ := bindSome h
    have hv_r181 : r181 = true := Option.some.inj (hx182.symm.trans (by exact kc_raddlelaw27_LoopsNames_13))
    have S1 := S.mem
    refine sCallQ (X := Unit) (f := 20) (vs := []) (val := fun _ => .bool r181) S (wN rfl) rfl callee20 rfl (S1.quiet [] rfl) (fun E1 w1 S1 => c_raddlelaw27_alive E1 w1  r181 hx182 S1) rfl (lb rfl) fun _ a w S => ?_
    refine sMove (.bool r181) S (wN rfl) (.inl rfl) rfl rfl (lb rfl) fun a S => ?_
    rcases iteSome h with ⟨hc183, h⟩ | ⟨hc183, h⟩
    rotate_left
    · exact absurd hc183 (by rw [hv_r181]; decide)
    refine sMove (iv r114.2) S (wG 1 true 163 rfl rfl rfl hc183) (.inl rfl) rfl rfl (lb rfl) fun a S => ?_
    refine sBin (.bool (r114.2 == 0)) S (wG 1 true 163 rfl rfl rfl hc183) rfl rfl rfl (bEq _ _ _ _ .i64 r114.2 0) rfl (lb rfl) fun a S => ?_
    refine sPickT (.bool (r114.2 == 0)) S (wN rfl) rfl rfl hc183 rfl rfl (lb rfl) fun a S => ?_
    refine sMove (.bool (r114.2 == 0)) S (wN rfl) (.inl rfl) rfl rfl (lb rfl) fun a S => ?_
    rcases iteSome h with ⟨hc184, h⟩ | ⟨hc184, h⟩
    rotate_left
    · exact absurd hc184 (by rw [hv_r114]; decide)
    refine sMove (.slice ad116 r114.1.length cp117) S (wG 5 true 167 rfl rfl rfl hc184) (.inl rfl) rfl rfl (lb rfl) fun a S => ?_
    refine sLit (r := (rI .i64)) (T := 3) (xs := ([6, 7, 8] : List Int)) [(0, iv 6), (1, iv 7), (2, iv 8)] 3 [iv 6, iv 7, iv 8] [iv 6, iv 7, iv 8] (iv 0) 8 S (wG 5 true 167 rfl rfl rfl hc184) rfl rfl Try.underlying32 rfl (by decide) (by decide) (by kernel_rfl) rfl (fun E1 w1 hE => All.cons rfl (All.cons rfl (All.cons rfl (All.nil _ _ _)))) rfl rfl (lb rfl) fun a w ad185 cp186 S => ?_
    obtain ⟨r187, hx188, h⟩ := bindSome h
    have hv_r187 : r187 = true := Option.some.inj (hx188.symm.trans (by rw [hv_r114]; exact kc_raddlelaw27_LoopsNames_14))
    have S1 := S.mem
    have S1 := S1.shutR (r := (rI .i64)) (T := 3) (v := .slice ad116 r114.1.length cp117) (xs := r114.1) 7 rfl
    have S1 := S1.shutR (r := (rI .i64)) (T := 3) (v := .slice ad185 ([6, 7, 8] : List Int).length cp186) (xs := ([6, 7, 8] : List Int)) 0 rfl
    refine sCallQ (X := Unit) (f := 18) (vs := [.slice ad116 r114.1.length cp117, .slice ad185 ([6, 7, 8] : List Int).length cp186]) (val := fun _ => .bool r187) S (wG 5 true 167 rfl rfl rfl hc184) rfl callee18 rfl (S1.quiet [1, 0] rfl) (fun E1 w1 S1 => c_raddleref26_SameInts E1 w1 r114.1 (.slice ad116 r114.1.length cp117) ([6, 7, 8] : List Int) (.slice ad185 ([6, 7, 8] : List Int).length cp186) r187 hx188 S1) rfl (lb rfl) fun _ a w S => ?_
    refine sPickT (.bool r187) S (wN rfl) rfl rfl hc184 rfl rfl (lb rfl) fun a S => ?_
    refine sMove (.bool r187) S (wN rfl) (.inl rfl) rfl rfl (lb rfl) fun a S => ?_
    rcases iteSome h with ⟨hc189, h⟩ | ⟨hc189, h⟩
    rotate_left
    · exact absurd hc189 (by rw [hv_r187]; decide)
    refine sMove (iv r143.2) S (wG 10 true 172 rfl rfl rfl hc189) (.inl rfl) rfl rfl (lb rfl) fun a S => ?_
    refine sBin (.bool (r143.2 == 0)) S (wG 10 true 172 rfl rfl rfl hc189) rfl rfl rfl (bEq _ _ _ _ .i64 r143.2 0) rfl (lb rfl) fun a S => ?_
    refine sPickT (.bool (r143.2 == 0)) S (wN rfl) rfl rfl hc189 rfl rfl (lb rfl) fun a S => ?_
    refine sMove (.bool (r143.2 == 0)) S (wN rfl) (.inl rfl) rfl rfl (lb rfl) fun a S => ?_
    rcases iteSome h with ⟨hc190, h⟩ | ⟨hc190, h⟩
    rotate_left
    · exact absurd hc190 (by rw [hv_r143]; decide)
    refine sMove (.slice ad140 r138.1.length cp141) S (wG 14 true 176 rfl rfl rfl hc190) (.inl rfl) rfl rfl (lb rfl) fun a S => ?_
    obtain ⟨x191, hx192, h⟩ := bindSome h
    have hv_x191 : x191 = (api_Loop.mk 1 0 [1] true) := Option.some.inj (hx192.symm.trans (by rw [hv_r138]; kernel_rfl))
    obtain ⟨q193, hq194, hp195⟩ := pIdxR (P := Try.prog) (r := r_api_Loop) (T := 48) (v := .slice ad140 r138.1.length cp141) (xs := r138.1) (j := 3) 26 48 5 S Try.underlying26 rfl rfl hx192
    refine sIdxV (v := .slice ad140 r138.1.length cp141) (k := .i64) (j := 3) S (wG 14 true 176 rfl rfl rfl hc190) rfl rfl rfl hq194 rfl (lb rfl) fun a S => ?_
    obtain ⟨q196, hq197, hp198⟩ := pFldR (P := Try.prog) 48 2 2 hp195 rfl
    refine sFldV (q := q193) S (wG 14 true 176 rfl rfl rfl hc190) rfl rfl hq197 rfl (lb rfl) fun a S => ?_
    refine sLoadFS (r := r_api_Loop) (s := (rL (rI .i64))) (g := (·.Parents)) (T := 48) (xs := r138.1) (x := x191) (v := .slice ad140 r138.1.length cp141) (vq := q196) (j := 3) 5 2 S hp198 (wG 14 true 176 rfl rfl rfl hc190) rfl rfl rfl hx192 comp_api_Loop_Parents (scal_L _) rfl rfl (lb rfl) fun a u199 S => ?_
    obtain ⟨ad200, cp201, _, rfl, _⟩ := S.mem.know (i := 0) (e := fRep (rL (rI .i64)) (u199) x191.Parents) rfl
    obtain ⟨x202, hx203, h⟩ := bindSome h
    have hv_x202 : x202 = 1 := Option.some.inj (hx203.symm.trans (by rw [hv_x191]; kernel_rfl))
    obtain ⟨q204, hq205, S⟩ := pIdx (P := Try.prog) (r := (rI .i64)) (v := .slice ad200 x191.Parents.length cp201) (xs := x191.Parents) (j := 0) 32 3 0 S Try.underlying32 rfl rfl hx203
    refine sIdxV (v := .slice ad200 x191.Parents.length cp201) (k := .i64) (j := 0) S (wG 14 true 176 rfl rfl rfl hc190) rfl rfl rfl hq205 rfl (lb rfl) fun a S => ?_
    obtain ⟨u206, S⟩ := pLoad (r := (rI .i64)) (q := q204) (x := x202) 0 S rfl
    obtain rfl : u206 = iv x202 := S.mem.know (i := 1) (e := fRep (rI .i64) (u206) x202) rfl
    refine sLoadV1 (vq := q204) 0 (iv x202) S (wG 14 true 176 rfl rfl rfl hc190) rfl rfl rfl rfl rfl (lb rfl) fun a S => ?_
    refine sBin (.bool (x202 == 1)) S (wG 14 true 176 rfl rfl rfl hc190) rfl rfl rfl (bEq _ _ _ _ .i64 x202 1) rfl (lb rfl) fun a S => ?_
    refine sPickT (.bool (x202 == 1)) S (wN rfl) rfl rfl hc190 rfl rfl (lb rfl) fun a S => ?_
    refine sMove (.bool (x202 == 1)) S (wN rfl) (.inl rfl) rfl rfl (lb rfl) fun a S => ?_
    rcases iteSome h with ⟨hc207, h⟩ | ⟨hc207, h⟩
    rotate_left
    · exact absurd hc207 (by rw [hv_x202]; decide)
    refine sMove (.slice ad140 r138.1.length cp141) S (wG 23 true 185 rfl rfl rfl hc207) (.inl rfl) rfl rfl (lb rfl) fun a S => ?_
    obtain ⟨x208, hx209, h⟩ := bindSome h
    have hv_x208 : x208 = (api_Loop.mk 1 0 [0] true) := Option.some.inj (hx209.symm.trans (by rw [hv_r138]; kernel_rfl))
    obtain ⟨q210, hq211, hp212⟩ := pIdxR (P := Try.prog) (r := r_api_Loop) (T := 48) (v := .slice ad140 r138.1.length cp141) (xs := r138.1) (j := 5) 26 48 5 S Try.underlying26 rfl rfl hx209
    refine sIdxV (v := .slice ad140 r138.1.length cp141) (k := .i64) (j := 5) S (wG 23 true 185 rfl rfl rfl hc207) rfl rfl rfl hq211 rfl (lb rfl) fun a S => ?_
    obtain ⟨q213, hq214, hp215⟩ := pFldR (P := Try.prog) 48 2 2 hp212 rfl
    refine sFldV (q := q210) S (wG 23 true 185 rfl rfl rfl hc207) rfl rfl hq214 rfl (lb rfl) fun a S => ?_
    refine sLoadFS (r := r_api_Loop) (s := (rL (rI .i64))) (g := (·.Parents)) (T := 48) (xs := r138.1) (x := x208) (v := .slice ad140 r138.1.length cp141) (vq := q213) (j := 5) 5 2 S hp215 (wG 23 true 185 rfl rfl rfl hc207) rfl rfl rfl hx209 comp_api_Loop_Parents (scal_L _) rfl rfl (lb rfl) fun a u216 S => ?_
    obtain ⟨ad217, cp218, _, rfl, _⟩ := S.mem.know (i := 0) (e := fRep (rL (rI .i64)) (u216) x208.Parents) rfl
    obtain ⟨x219, hx220, h⟩ := bindSome h
    have hv_x219 : x219 = 0 := Option.some.inj (hx220.symm.trans (by rw [hv_x208]; kernel_rfl))
    obtain ⟨q221, hq222, S⟩ := pIdx (P := Try.prog) (r := (rI .i64)) (v := .slice ad217 x208.Parents.length cp218) (xs := x208.Parents) (j := 0) 32 3 0 S Try.underlying32 rfl rfl hx220
    refine sIdxV (v := .slice ad217 x208.Parents.length cp218) (k := .i64) (j := 0) S (wG 23 true 185 rfl rfl rfl hc207) rfl rfl rfl hq222 rfl (lb rfl) fun a S => ?_
    obtain ⟨u223, S⟩ := pLoad (r := (rI .i64)) (q := q221) (x := x219) 0 S rfl
    obtain rfl : u223 = iv x219 := S.mem.know (i := 1) (e := fRep (rI .i64) (u223) x219) rfl
    refine sLoadV1 (vq := q221) 0 (iv x219) S (wG 23 true 185 rfl rfl rfl hc207) rfl rfl rfl rfl rfl (lb rfl) fun a S => ?_
    refine sBin (.bool (x219 == 0)) S (wG 23 true 185 rfl rfl rfl hc207) rfl rfl rfl (bEq _ _ _ _ .i64 x219 0) rfl (lb rfl) fun a S => ?_
    refine sPickT (.bool (x219 == 0)) S (wN rfl) rfl rfl hc207 rfl rfl (lb rfl) fun a S => ?_
    refine sMove (.bool (x219 == 0)) S (wN rfl) (.inl rfl) rfl rfl (lb rfl) fun a S => ?_
    rcases iteSome h with ⟨hc224, h⟩ | ⟨hc224, h⟩
    rotate_left
    · exact absurd hc224 (by rw [hv_x219]; decide)
    refine sMove (.slice ad140 r138.1.length cp141) S (wG 32 true 194 rfl rfl rfl hc224) (.inl rfl) rfl rfl (lb rfl) fun a S => ?_
    obtain ⟨q225, hq226, hp227⟩ := pIdxR (P := Try.prog) (r := r_api_Loop) (T := 48) (v := .slice ad140 r138.1.length cp141) (xs := r138.1) (j := 3) 26 48 5 S Try.underlying26 rfl rfl hx192
    refine sIdxV (v := .slice ad140 r138.1.length cp141) (k := .i64) (j := 3) S (wG 32 true 194 rfl rfl rfl hc224) rfl rfl rfl hq226 rfl (lb rfl) fun a S => ?_
    obtain ⟨q228, hq229, hp230⟩ := pFldR (P := Try.prog) 48 3 3 hp227 rfl
    refine sFldV (q := q225) S (wG 32 true 194 rfl rfl rfl hc224) rfl rfl hq229 rfl (lb rfl) fun a S => ?_
    refine sLoadF (r := r_api_Loop) (s := rB) (g := (·.Purl)) (T := 48) (xs := r138.1) (x := x191) (v := .slice ad140 r138.1.length cp141) (vq := q228) (j := 3) 5 3 (.bool x191.Purl) S hp230 (wG 32 true 194 rfl rfl rfl hc224) rfl rfl rfl hx192 comp_api_Loop_Purl (fun _ _ _ h => h) scal_B rfl rfl (lb rfl) fun a S => ?_
    refine sPickT (.bool x191.Purl) S (wN rfl) rfl rfl hc224 rfl rfl (lb rfl) fun a S => ?_
    refine sMove (.bool x191.Purl) S (wN rfl) (.inl rfl) rfl rfl (lb rfl) fun a S => ?_
    rcases iteSome h with ⟨hc231, h⟩ | ⟨hc231, h⟩
    rotate_left
    · exact absurd hc231 (by rw [hv_x191]; decide)
    refine sMove (.slice ad145 r143.1.length cp146) S (wG 38 true 200 rfl rfl rfl hc231) (.inl rfl) rfl rfl (lb rfl) fun a S => ?_
    refine sBuild [(0, iv 3), (1, iv 5)] [iv 3, iv 5] S (wG 38 true 200 rfl rfl rfl hc231) rfl rfl rfl rfl (lb rfl) fun a S => ?_
    refine sBuild [(0, iv 4), (1, iv 5)] [iv 4, iv 5] S (wG 38 true 200 rfl rfl rfl hc231) rfl rfl rfl rfl (lb rfl) fun a S => ?_
    have S := S.learn (fRep r_A2_Int (.agg #[iv 3, iv 5]) (3, 5)) rfl
    have S := S.learn (fRep r_A2_Int (.agg #[iv 4, iv 5]) (4, 5)) rfl
    refine sLit (r := r_A2_Int) (T := 49) (xs := [(3, 5), (4, 5)]) [(0, .agg #[iv 3, iv 5]), (1, .agg #[iv 4, iv 5])] 2 [.agg #[iv 3, iv 5], .agg #[iv 4, iv 5]] [iv 3, iv 5, iv 4, iv 5] (.agg #[iv 0, iv 0]) 16 S (wG 38 true 200 rfl rfl rfl hc231) rfl rfl Try.underlying37 rfl (by decide) (by decide) (by kernel_rfl) rfl (fun E1 w1 hE => All.cons (r_A2_Int.mono hE (S.mem.know (i := 1) (e := fRep r_A2_Int (.agg #[iv 3, iv 5]) (3, 5)) rfl)) (All.cons (r_A2_Int.mono hE (S.mem.know (i := 0) (e := fRep r_A2_Int (.agg #[iv 4, iv 5]) (4, 5)) rfl)) (All.nil _ _ _))) rfl rfl (lb rfl) fun a w ad232 cp233 S => ?_
    obtain ⟨r234, hx235, h⟩ := bindSome h
    have hv_r234 : r234 = true := Option.some.inj (hx235.symm.trans (by rw [hv_r143]; exact kc_raddlelaw27_LoopsNames_15))
    have S1 := S.mem
    have S1 := S1.shutR (r := r_A2_Int) (T := 49) (v := .slice ad145 r143.1.length cp146) (xs := r143.1) 5 rfl
    have S1 := S1.shutR (r := r_A2_Int) (T := 49) (v := .slice ad232 [(3, 5), (4, 5)].length cp233) (xs := [(3, 5), (4, 5)]) 0 rfl
    refine sCallQ (X := Unit) (f := 19) (vs := [.slice ad145 r143.1.length cp146, .slice ad232 [(3, 5), (4, 5)].length cp233]) (val := fun _ => .bool r234) S (wG 38 true 200 rfl rfl rfl hc231) rfl callee19 rfl (S1.quiet [1, 0] rfl) (fun E1 w1 S1 => c_raddleref27_SamePairs E1 w1 r143.1 (.slice ad145 r143.1.length cp146) [(3, 5), (4, 5)] (.slice ad232 [(3, 5), (4, 5)].length cp233) r234 hx235 S1) rfl (lb rfl) fun _ a w S => ?_
    refine sPickT (.bool r234) S (wN rfl) rfl rfl hc231 rfl rfl (lb rfl) fun a S => ?_
    refine sMove (.bool r234) S (wN rfl) (.inr rfl) rfl rfl (lb rfl) fun a S => ?_
    refine leafL (leafT (hK180 _ _ ?_))
    refine sSeq (fun K236 hK236 => ?_)
    refine sRegion ?_
    refine sMove (.bool r234) S (wN rfl) (.inl rfl) rfl rfl (lb rfl) fun a S => ?_
    refine sMove (.bool r234) S (wN rfl) (.inl rfl) rfl rfl (lb rfl) fun a S => ?_
    rcases iteSome h with ⟨hc237, h⟩ | ⟨hc237, h⟩
    rotate_left
    · exact absurd hc237 (by rw [hv_r234]; decide)
    refine sMove (iv r153.2.2) S (wG 1 true 208 rfl rfl rfl hc237) (.inl rfl) rfl rfl (lb rfl) fun a S => ?_
    refine sBin (.bool (r153.2.2 == 0)) S (wG 1 true 208 rfl rfl rfl hc237) rfl rfl rfl (bEq _ _ _ _ .i64 r153.2.2 0) rfl (lb rfl) fun a S => ?_
    refine sPickT (.bool (r153.2.2 == 0)) S (wN rfl) rfl rfl hc237 rfl rfl (lb rfl) fun a S => ?_
    refine sMove (.bool (r153.2.2 == 0)) S (wN rfl) (.inl rfl) rfl rfl (lb rfl) fun a S => ?_
    rcases iteSome h with ⟨hc238, h⟩ | ⟨hc238, h⟩
    rotate_left
    · exact absurd hc238 (by rw [hv_r153]; decide)
    refine sMove (iv r153.1) S (wG 5 true 212 rfl rfl rfl hc238) (.inl rfl) rfl rfl (lb rfl) fun a S => ?_
    refine sBin (.bool (r153.1 == 5)) S (wG 5 true 212 rfl rfl rfl hc238) rfl rfl rfl (bEq _ _ _ _ .i64 r153.1 5) rfl (lb rfl) fun a S => ?_
    refine sPickT (.bool (r153.1 == 5)) S (wN rfl) rfl rfl hc238 rfl rfl (lb rfl) fun a S => ?_
    refine sMove (.bool (r153.1 == 5)) S (wN rfl) (.inl rfl) rfl rfl (lb rfl) fun a S => ?_
    rcases iteSome h with ⟨hc239, h⟩ | ⟨hc239, h⟩
    rotate_left
    · exact absurd hc239 (by rw [hv_r153]; decide)
    refine sMove (iv r153.2.1) S (wG 9 true 216 rfl rfl rfl hc239) (.inl rfl) rfl rfl (lb rfl) fun a S => ?_
    refine sBin (.bool (r153.2.1 == 13)) S (wG 9 true 216 rfl rfl rfl hc239) rfl rfl rfl (bEq _ _ _ _ .i64 r153.2.1 13) rfl (lb rfl) fun a S => ?_
    refine sPickT (.bool (r153.2.1 == 13)) S (wN rfl) rfl rfl hc239 rfl rfl (lb rfl) fun a S => ?_
    refine sMove (.bool (r153.2.1 == 13)) S (wN rfl) (.inl rfl) rfl rfl (lb rfl) fun a S => ?_
    rcases iteSome h with ⟨hc240, h⟩ | ⟨hc240, h⟩
    rotate_left
    · exact absurd hc240 (by rw [hv_r153]; decide)
    refine sMove (iv r156.2.2) S (wG 13 true 220 rfl rfl rfl hc240) (.inl rfl) rfl rfl (lb rfl) fun a S => ?_
    refine sBin (.bool (r156.2.2 == 2)) S (wG 13 true 220 rfl rfl rfl hc240) rfl rfl rfl (bEq _ _ _ _ .i64 r156.2.2 2) rfl (lb rfl) fun a S => ?_
    refine sPickT (.bool (r156.2.2 == 2)) S (wN rfl) rfl rfl hc240 rfl rfl (lb rfl) fun a S => ?_
    refine sMove (.bool (r156.2.2 == 2)) S (wN rfl) (.inl rfl) rfl rfl (lb rfl) fun a S => ?_
    rcases iteSome h with ⟨hc241, h⟩ | ⟨hc241, h⟩
    rotate_left
    · exact absurd hc241 (by rw [hv_r156]; decide)
    refine sMove (iv r159.2) S (wG 17 true 224 rfl rfl rfl hc241) (.inl rfl) rfl rfl (lb rfl) fun a S => ?_
    refine sBin (.bool (r159.2 == 2)) S (wG 17 true 224 rfl rfl rfl hc241) rfl rfl rfl (bEq _ _ _ _ .i64 r159.2 2) rfl (lb rfl) fun a S => ?_
    refine sPickT (.bool (r159.2 == 2)) S (wN rfl) rfl rfl hc241 rfl rfl (lb rfl) fun a S => ?_
    refine sMove (.bool (r159.2 == 2)) S (wN rfl) (.inl rfl) rfl rfl (lb rfl) fun a S => ?_
    rcases iteSome h with ⟨hc242, h⟩ | ⟨hc242, h⟩
    rotate_left
    · exact absurd hc242 (by rw [hv_r159]; decide)
    refine sMove (iv r164.2) S (wG 21 true 228 rfl rfl rfl hc242) (.inl rfl) rfl rfl (lb rfl) fun a S => ?_
    refine sBin (.bool (r164.2 == 2)) S (wG 21 true 228 rfl rfl rfl hc242) rfl rfl rfl (bEq _ _ _ _ .i64 r164.2 2) rfl (lb rfl) fun a S => ?_
    refine sPickT (.bool (r164.2 == 2)) S (wN rfl) rfl rfl hc242 rfl rfl (lb rfl) fun a S => ?_
    refine sMove (.bool (r164.2 == 2)) S (wN rfl) (.inl rfl) rfl rfl (lb rfl) fun a S => ?_
    rcases iteSome h with ⟨hc243, h⟩ | ⟨hc243, h⟩
    rotate_left
    · exact absurd hc243 (by rw [hv_r164]; decide)
    refine sMove (iv r173.2) S (wG 25 true 232 rfl rfl rfl hc243) (.inl rfl) rfl rfl (lb rfl) fun a S => ?_
    refine sBin (.bool (r173.2 == 26)) S (wG 25 true 232 rfl rfl rfl hc243) rfl rfl rfl (bEq _ _ _ _ .i64 r173.2 26) rfl (lb rfl) fun a S => ?_
    refine sPickT (.bool (r173.2 == 26)) S (wN rfl) rfl rfl hc243 rfl rfl (lb rfl) fun a S => ?_
    refine sMove (.bool (r173.2 == 26)) S (wN rfl) (.inl rfl) rfl rfl (lb rfl) fun a S => ?_
    rcases iteSome h with ⟨hc244, h⟩ | ⟨hc244, h⟩
    rotate_left
    · exact absurd hc244 (by rw [hv_r173]; decide)
    refine sMove (iv r178.2.2) S (wG 29 true 236 rfl rfl rfl hc244) (.inl rfl) rfl rfl (lb rfl) fun a S => ?_
    refine sBin (.bool (r178.2.2 == 2)) S (wG 29 true 236 rfl rfl rfl hc244) rfl rfl rfl (bEq _ _ _ _ .i64 r178.2.2 2) rfl (lb rfl) fun a S => ?_
    refine sPickT (.bool (r178.2.2 == 2)) S (wN rfl) rfl rfl hc244 rfl rfl (lb rfl) fun a S => ?_
    refine sMove (.bool (r178.2.2 == 2)) S (wN rfl) (.inr rfl) rfl rfl (lb rfl) fun a S => ?_
    refine leafL (leafT (hK236 _ _ ?_))
    obtain rfl := Option.some.inj h
    exact wp_ret (sRet (.bool (r178.2.2 == 2)) S (rsl1 rfl (rvT (t := 0) (v := .bool (r178.2.2 == 2)) S rfl)) ⟨(), rfl, S.mem.sel [] [] (by decide) rfl rfl⟩)
  refine sSeq (fun K43 hK43 => ?_)
  refine sRegion ?_
  refine sMove (iv 0) S (wN rfl) (.inr rfl) rfl rfl (lb rfl) fun a S => ?_
  refine leafL (leafT (hK43 _ _ ?_))
  refine wp_block ?_
  obtain ⟨t47, hl, g46⟩ := bindSome h
  refine sLoop hl (fun s0 a w => match s0 with | s44 => St [] E [] w0 240 a w [(1, .pointer (some ⟨b9, 0, none⟩)), (2, .slice ad13 r11.1.length cp14), (4, .slice ad33 [([1, 0] : List Int), ([2] : List Int), ([2] : List Int), ([2] : List Int), ([3] : List Int), ([4] : List Int), ([] : (List Int)), ([] : (List Int))].length cp34), (5, .slice ad36 [true, false, false, false, false, true, false, false].length cp37), (6, .slice ad39 ([0, 1, 1, 1, 2, 3, 4, 4] : List Int).length cp40), (7, iv s44)] [eBox b9 24 [iv r5.Start, .slice ad7 r5.Rows.length cp8], eRow r_api_Loop 48 (.slice ad13 r11.1.length cp14) r11.1, eRow (rL (rI .i64)) 32 (.slice ad33 [([1, 0] : List Int), ([2] : List Int), ([2] : List Int), ([2] : List Int), ([3] : List Int), ([4] : List Int), ([] : (List Int)), ([] : (List Int))].length cp34) [([1, 0] : List Int), ([2] : List Int), ([2] : List Int), ([2] : List Int), ([3] : List Int), ([4] : List Int), ([] : (List Int)), ([] : (List Int))], eRow rB 4 (.slice ad36 [true, false, false, false, false, true, false, false].length cp37) [true, false, false, false, false, true, false, false], eRow (rI .i64) 3 (.slice ad39 ([0, 1, 1, 1, 2, 3, 4, 4] : List Int).length cp40) ([0, 1, 1, 1, 2, 3, 4, 4] : List Int)] [fRep (rL r_api_Row) (.slice ad7 r5.Rows.length cp8) r5.Rows]) (S.fix [4, 3, 2, 1, 0] [8] (by decide) rfl rfl rfl) ?_
  clear hl h
  intro s44 a w c0 hI h hu45
  unfold raddlelaw27_LoopsNames_l1 at h
  dsimp only at h hI
  have S := hI
  refine sSeq (fun K48 hK48 => ?_)
  refine sSeq (fun K49 hK49 => ?_)
  refine sRegion ?_
  refine sMove (iv s44) S (wN rfl) (.inl rfl) rfl rfl (lb rfl) fun a S => ?_
  refine sBin (.bool (decide (s44 < 8))) S (wN rfl) rfl rfl rfl (bLt _ _ _ _ .i64 s44 8) rfl (lb rfl) fun a S => ?_
  refine leafL (leafT (hK49 _ _ ?_))
  rcases iteSome h with ⟨hc50, h⟩ | ⟨hc50, h⟩
  rotate_left
  · refine sCondF S rfl hc50 ?_
    obtain rfl := Option.some.inj h
    obtain rfl := hu45 _ rfl
    have h := g46
    clear g46
    try dsimp only at h
    exact wp_exit (xThen (xThen (xHit (leafT (⟨Option.some.inj h, S.fix [0] [0] (by decide) rfl rfl rfl⟩)))))
  refine sCondT S rfl hc50 ?_
  refine wp_skip (leafT (hK48 _ _ ?_))
  refine sSeq (fun K51 hK51 => ?_)
  refine wp_block ?_
  refine sSeq (fun K52 hK52 => ?_)
  refine sRegion ?_
  refine sMove (.slice ad13 r11.1.length cp14) S (wN rfl) (.inl rfl) rfl rfl (lb rfl) fun a S => ?_
  refine sMove (iv s44) S (wN rfl) (.inl rfl) rfl rfl (lb rfl) fun a S => ?_
  refine sBin (iv (w64 (5 + s44))) S (wN rfl) rfl rfl rfl (bAdd _ _ _ _ 5 s44) rfl (lb rfl) fun a S => ?_
  obtain ⟨x53, hx54, h⟩ := bindSome h
  obtain ⟨q55, hq56, hp57⟩ := pIdxR (P := Try.prog) (r := r_api_Loop) (T := 48) (v := .slice ad13 r11.1.length cp14) (xs := r11.1) (j := w64 (5 + s44)) 26 48 1 S Try.underlying26 rfl rfl hx54
  refine sIdxV (v := .slice ad13 r11.1.length cp14) (k := .i64) (j := w64 (5 + s44)) S (wN rfl) rfl rfl rfl hq56 rfl (lb rfl) fun a S => ?_
  refine sLoadRN (r := r_api_Loop) (T := 48) (xs := r11.1) (x := x53) (v := .slice ad13 r11.1.length cp14) (vq := q55) (j := w64 (5 + s44)) 1 S hp57 (wN rfl) rfl rfl rfl hx54 aggr_api_Loop rfl rfl rfl (lb rfl) fun a u58 S => ?_
  obtain ⟨u59, rfl, hu60⟩ := S.mem.know (i := 0) (e := fRep r_api_Loop (u58) x53) rfl
  have S := S.learn (fRep (rL (rI .i64)) u59 x53.Parents) hu60
  obtain ⟨ad61, cp62, _, rfl, _⟩ := hu60
  refine sAlloc (.agg #[iv 0, iv 0, .slice none 0 0, .bool false]) S (wN rfl) rfl rfl [iv 0, iv 0, .slice none 0 0, .bool false] rfl rfl (lb rfl) fun a b63 w S => ?_
  refine sStore (p := b63) (off := 0) (T := 48) (vs := [iv 0, iv 0, .slice none 0 0, .bool false]) (v := .agg #[iv x53.Row, iv x53.Cell, .slice ad61 x53.Parents.length cp62, .bool x53.Purl]) 0 [iv x53.Row, iv x53.Cell, .slice ad61 x53.Parents.length cp62, .bool x53.Purl] S (wN rfl) rfl rfl rfl rfl rfl rfl rfl (by simp) rfl fun a w S => ?_
  refine leafL (leafT (hK52 _ _ ?_))
  obtain ⟨t65, h, g66⟩ := bindSome h
  refine sCut (fun a w => ∃ o64, o64 = t65 ∧ St [] E [] w0 240 a w [(1, .pointer (some ⟨b9, 0, none⟩)), (2, .slice ad13 r11.1.length cp14), (4, .slice ad33 [([1, 0] : List Int), ([2] : List Int), ([2] : List Int), ([2] : List Int), ([3] : List Int), ([4] : List Int), ([] : (List Int)), ([] : (List Int))].length cp34), (5, .slice ad36 [true, false, false, false, false, true, false, false].length cp37), (6, .slice ad39 ([0, 1, 1, 1, 2, 3, 4, 4] : List Int).length cp40), (7, iv s44), (99, .bool o64)] [eBox b9 24 [iv r5.Start, .slice ad7 r5.Rows.length cp8], eRow r_api_Loop 48 (.slice ad13 r11.1.length cp14) r11.1, eRow (rL (rI .i64)) 32 (.slice ad33 [([1, 0] : List Int), ([2] : List Int), ([2] : List Int), ([2] : List Int), ([3] : List Int), ([4] : List Int), ([] : (List Int)), ([] : (List Int))].length cp34) [([1, 0] : List Int), ([2] : List Int), ([2] : List Int), ([2] : List Int), ([3] : List Int), ([4] : List Int), ([] : (List Int)), ([] : (List Int))], eRow rB 4 (.slice ad36 [true, false, false, false, false, true, false, false].length cp37) [true, false, false, false, false, true, false, false], eRow (rI .i64) 3 (.slice ad39 ([0, 1, 1, 1, 2, 3, 4, 4] : List Int).length cp40) ([0, 1, 1, 1, 2, 3, 4, 4] : List Int)] [fRep (rL r_api_Row) (.slice ad7 r5.Rows.length cp8) r5.Rows]) ?_ (fun a w hI => ?_)
  rotate_left
  · obtain ⟨o64, rfl, S⟩ := hI
    have h := g66
    clear g66
    try dsimp only at h
    rcases iteSome h with ⟨hc111, h⟩ | ⟨hc111, h⟩
    rotate_left
    · refine sCondF S rfl hc111 ?_
      refine wp_skip (leafB (leafT (hK51 _ _ ?_)))
      refine sRegion ?_
      refine sMove (iv s44) S (wN rfl) (.inl rfl) rfl rfl (lb rfl) fun a S => ?_
      refine sBin (iv (w64 (s44 + 1))) S (wN rfl) rfl rfl rfl (bAdd _ _ _ _ s44 1) rfl (lb rfl) fun a S => ?_
      refine sMove (iv (w64 (s44 + 1))) S (wN rfl) (.inr rfl) rfl rfl (lb rfl) fun a S => ?_
      exact leafL (leafT (⟨w64 (s44 + 1), (Option.some.inj h).symm, (S.fix [0, 1, 2, 3, 4] [0] (by decide) rfl rfl rfl)⟩))
    refine sCondT S rfl hc111 ?_
    refine sSeq (fun K112 hK112 => ?_)
    refine sRegion ?_
    refine sMove (.bool false) S (wN rfl) (.inr rfl) rfl rfl (lb rfl) fun a S => ?_
    refine leafL (leafT (hK112 _ _ ?_))
    obtain rfl := Option.some.inj h
    obtain rfl := hu45 _ rfl
    have h := g46
    clear g46
    try dsimp only at h
    obtain rfl := Option.some.inj h
    have h := g42
    clear g42
    try dsimp only at h
    obtain rfl := Option.some.inj h
    exact wp_ret (rBlock (rThen (rThen (rBlock (rThen (sRet (.bool false) S (rsl1 rfl (rvT (t := 0) (v := .bool false) S rfl)) ⟨(), rfl, S.mem.sel [] [] (by decide) rfl rfl⟩))))))
  rcases iteSome h with ⟨hc67, h⟩ | ⟨hc67, h⟩
  · refine sDraw (nf := []) (W := [(0, 69, .pointer (some ⟨b63, 0, none⟩)), (1, 70, iv x53.Row), (2, 71, .bool (x53.Row != 1)), (3, 72, .bool (x53.Row != 1)), (4, 73, undef), (5, 74, undef), (6, 75, undef), (7, 76, undef), (8, 77, undef), (9, 78, undef), (10, 79, undef), (11, 80, .bool true), (12, 81, .bool true), (13, 82, undef), (14, 83, undef), (15, 84, undef), (16, 85, undef), (17, 86, undef), (18, 87, undef), (19, 88, undef), (20, 89, .bool true), (21, 90, .bool true), (22, 91, undef), (23, 92, undef), (24, 93, undef), (25, 94, undef), (26, 95, undef), (27, 96, undef), (28, 97, undef), (29, 98, undef), (30, 99, .bool true)]) rfl S ?_
    refine node_by (A := anc_raddlelaw27_LoopsNames_0) (nf := []) (Y := []) (W := [(0, 69, .pointer (some ⟨b63, 0, none⟩)), (1, 70, iv x53.Row), (2, 71, .bool (x53.Row != 1)), (3, 72, .bool (x53.Row != 1)), (4, 73, undef), (5, 74, undef), (6, 75, undef), (7, 76, undef), (8, 77, undef), (9, 78, undef), (10, 79, undef), (11, 80, .bool true), (12, 81, .bool true), (13, 82, undef), (14, 83, undef), (15, 84, undef), (16, 85, undef), (17, 86, undef), (18, 87, undef), (19, 88, undef), (20, 89, .bool true), (21, 90, .bool true), (22, 91, undef), (23, 92, undef), (24, 93, undef), (25, 94, undef), (26, 95, undef), (27, 96, undef), (28, 97, undef), (29, 98, undef), (30, 99, .bool true)]) 31 (by kernel_rfl) (by kernel_rfl) (by kernel_rfl) (by kernel_rfl) (by kernel_rfl) [0, 1, 2, 3, 4, 5, 6, 7, 8, 9, 10, 11, 12, 13, 14, 15, 16, 17, 18, 19, 20, 21, 22, 23, 24, 25, 26, 27, 28, 29, 30] (by kernel_rfl) (by decide) (by decide) (aF 0 30 (by decide) ?_ (aF 1 29 (by decide) ?_ (aF 2 28 (by decide) ?_ (aF 3 27 (by decide) ?_ (aF 4 26 (by decide) ?_ (aF 5 25 (by decide) ?_ (aF 6 24 (by decide) ?_ (aF 7 23 (by decide) ?_ (aF 8 22 (by decide) ?_ (aF 9 21 (by decide) ?_ (aF 10 20 (by decide) ?_ (aF 11 19 (by decide) ?_ (aF 12 18 (by decide) ?_ (aF 13 17 (by decide) ?_ (aF 14 16 (by decide) ?_ (aF 15 15 (by decide) ?_ (aF 16 14 (by decide) ?_ (aF 17 13 (by decide) ?_ (aF 18 12 (by decide) ?_ (aF 19 11 (by decide) ?_ (aF 20 10 (by decide) ?_ (aF 21 9 (by decide) ?_ (aF 22 8 (by decide) ?_ (aF 23 7 (by decide) ?_ (aF 24 6 (by decide) ?_ (aF 25 5 (by decide) ?_ (aF 26 4 (by decide) ?_ (aF 27 3 (by decide) ?_ (aF 28 2 (by decide) ?_ (aF 29 1 (by decide) ?_ (aF 30 0 (by decide) ?_ (trivial)))))))))))))))))))))))))))))))) [(1, .pointer (some ⟨b9, 0, none⟩)), (2, .slice ad13 r11.1.length cp14), (4, .slice ad33 [([1, 0] : List Int), ([2] : List Int), ([2] : List Int), ([2] : List Int), ([3] : List Int), ([4] : List Int), ([] : (List Int)), ([] : (List Int))].length cp34), (5, .slice ad36 [true, false, false, false, false, true, false, false].length cp37), (6, .slice ad39 ([0, 1, 1, 1, 2, 3, 4, 4] : List Int).length cp40), (7, iv s44), (73, undef), (74, undef), (75, undef), (76, undef), (77, undef), (78, undef), (79, undef), (82, undef), (83, undef), (84, undef), (85, undef), (86, undef), (87, undef), (88, undef), (91, undef), (92, undef), (93, undef), (94, undef), (95, undef), (96, undef), (97, undef), (98, undef), (99, .bool true)] (fin_of [none, none, none, none, none, none, some 4, some 5, some 6, some 7, some 8, some 9, some 10, some 13, some 14, some 15, some 16, some 17, some 18, some 19, some 22, some 23, some 24, some 25, some 26, some 27, some 28, some 29, some 30] rfl (by kernel_rfl) (by kernel_rfl)) (fun _ a w S => ?_)
    · refine fI 69 (.pointer (some ⟨b63, 0, none⟩)) [(8, .pointer (some ⟨b63, 0, none⟩))] 0 [none] rfl rfl rfl rfl rfl rfl fun G a w S => ?_
      refine sField (b := b63) (off := 0) 0 0 S (wN rfl) rfl rfl rfl rfl rfl (lb rfl) fun a S => ?_
      exact leafL ⟨rfl, S⟩
    · refine fI 70 (iv x53.Row) [(69, .pointer (some ⟨b63, 0, none⟩))] 1 [some 0] rfl rfl rfl rfl rfl rfl fun G a w S => ?_
      refine sLoad1 (p := b63) (off := 0) (T := 48) (vs := [iv x53.Row, iv x53.Cell, .slice ad61 x53.Parents.length cp62, .bool x53.Purl]) 0 (iv x53.Row) S (wN rfl) rfl rfl rfl rfl rfl rfl (lb rfl) fun a S => ?_
      exact leafL ⟨rfl, S⟩
    · refine fI 71 (.bool (x53.Row != 1)) [(70, iv x53.Row)] 2 [some 1] rfl rfl rfl rfl rfl rfl fun G a w S => ?_
      refine sBin (.bool (x53.Row != 1)) S (wN rfl) rfl rfl rfl (bNe _ _ _ _ .i64 x53.Row 1) rfl (lb rfl) fun a S => ?_
      exact leafL ⟨rfl, S⟩
    · refine fI 72 (.bool (x53.Row != 1)) [(71, .bool (x53.Row != 1))] 3 [some 2] rfl rfl rfl rfl rfl rfl fun G a w S => ?_
      refine sMove (.bool (x53.Row != 1)) S (wN rfl) (.inl rfl) rfl rfl (lb rfl) fun a S => ?_
      exact leafL ⟨rfl, S⟩
    · refine fI 73 undef [(8, .pointer (some ⟨b63, 0, none⟩)), (72, .bool (x53.Row != 1))] 4 [none, some 3] rfl rfl rfl rfl rfl rfl fun G a w S => ?_
      refine sSkip 3 false 72 73 S rfl rfl rfl hc67 rfl (lb rfl) fun a S => ?_
      exact leafL ⟨rfl, S⟩
    · refine fI 74 undef [(73, undef), (72, .bool (x53.Row != 1))] 5 [some 4, some 3] rfl rfl rfl rfl rfl rfl fun G a w S => ?_
      refine sSkip 3 false 72 74 S rfl rfl rfl hc67 rfl (lb rfl) fun a S => ?_
      exact leafL ⟨rfl, S⟩
    · refine fI 75 undef [(6, .slice ad39 ([0, 1, 1, 1, 2, 3, 4, 4] : List Int).length cp40), (72, .bool (x53.Row != 1))] 6 [none, some 3] rfl rfl rfl rfl rfl rfl fun G a w S => ?_
      refine sSkip 3 false 72 75 S rfl rfl rfl hc67 rfl (lb rfl) fun a S => ?_
      exact leafL ⟨rfl, S⟩
    · refine fI 76 undef [(7, iv s44), (72, .bool (x53.Row != 1))] 7 [none, some 3] rfl rfl rfl rfl rfl rfl fun G a w S => ?_
      refine sSkip 3 false 72 76 S rfl rfl rfl hc67 rfl (lb rfl) fun a S => ?_
      exact leafL ⟨rfl, S⟩
    · refine fI 77 undef [(75, undef), (76, undef), (72, .bool (x53.Row != 1))] 8 [some 6, some 7, some 3] rfl rfl rfl rfl rfl rfl fun G a w S => ?_
      refine sSkip 3 false 72 77 S rfl rfl rfl hc67 rfl (lb rfl) fun a S => ?_
      exact leafL ⟨rfl, S⟩
    · refine fI 78 undef [(77, undef), (72, .bool (x53.Row != 1))] 9 [some 8, some 3] rfl rfl rfl rfl rfl rfl fun G a w S => ?_
      refine sSkip 3 false 72 78 S rfl rfl rfl hc67 rfl (lb rfl) fun a S => ?_
      exact leafL ⟨rfl, S⟩
    · refine fI 79 undef [(74, undef), (78, undef), (72, .bool (x53.Row != 1))] 10 [some 5, some 9, some 3] rfl rfl rfl rfl rfl rfl fun G a w S => ?_
      refine sSkip 3 false 72 79 S rfl rfl rfl hc67 rfl (lb rfl) fun a S => ?_
      exact leafL ⟨rfl, S⟩
    · refine fI 80 (.bool true) [(72, .bool (x53.Row != 1)), (79, undef)] 11 [some 3, some 10] rfl rfl rfl rfl rfl rfl fun G a w S => ?_
      refine sPickT (.bool true) S (wN rfl) rfl rfl hc67 rfl rfl (lb rfl) fun a S => ?_
      exact leafL ⟨rfl, S⟩
    · refine fI 81 (.bool true) [(80, .bool true)] 12 [some 11] rfl rfl rfl rfl rfl rfl fun G a w S => ?_
      refine sMove (.bool true) S (wN rfl) (.inl rfl) rfl rfl (lb rfl) fun a S => ?_
      exact leafL ⟨rfl, S⟩
    · refine fI 82 undef [(8, .pointer (some ⟨b63, 0, none⟩)), (81, .bool true)] 13 [none, some 12] rfl rfl rfl rfl rfl rfl fun G a w S => ?_
      refine sSkip 12 false 81 82 S rfl rfl rfl rfl rfl (lb rfl) fun a S => ?_
      exact leafL ⟨rfl, S⟩
    · refine fI 83 undef [(82, undef), (81, .bool true)] 14 [some 13, some 12] rfl rfl rfl rfl rfl rfl fun G a w S => ?_
      refine sSkip 12 false 81 83 S rfl rfl rfl rfl rfl (lb rfl) fun a S => ?_
      exact leafL ⟨rfl, S⟩
    · refine fI 84 undef [(5, .slice ad36 [true, false, false, false, false, true, false, false].length cp37), (81, .bool true)] 15 [none, some 12] rfl rfl rfl rfl rfl rfl fun G a w S => ?_
      refine sSkip 12 false 81 84 S rfl rfl rfl rfl rfl (lb rfl) fun a S => ?_
      exact leafL ⟨rfl, S⟩
    · refine fI 85 undef [(7, iv s44), (81, .bool true)] 16 [none, some 12] rfl rfl rfl rfl rfl rfl fun G a w S => ?_
      refine sSkip 12 false 81 85 S rfl rfl rfl rfl rfl (lb rfl) fun a S => ?_
      exact leafL ⟨rfl, S⟩
    · refine fI 86 undef [(84, undef), (85, undef), (81, .bool true)] 17 [some 15, some 16, some 12] rfl rfl rfl rfl rfl rfl fun G a w S => ?_
      refine sSkip 12 false 81 86 S rfl rfl rfl rfl rfl (lb rfl) fun a S => ?_
      exact leafL ⟨rfl, S⟩
    · refine fI 87 undef [(86, undef), (81, .bool true)] 18 [some 17, some 12] rfl rfl rfl rfl rfl rfl fun G a w S => ?_
      refine sSkip 12 false 81 87 S rfl rfl rfl rfl rfl (lb rfl) fun a S => ?_
      exact leafL ⟨rfl, S⟩
    · refine fI 88 undef [(83, undef), (87, undef), (81, .bool true)] 19 [some 14, some 18, some 12] rfl rfl rfl rfl rfl rfl fun G a w S => ?_
      refine sSkip 12 false 81 88 S rfl rfl rfl rfl rfl (lb rfl) fun a S => ?_
      exact leafL ⟨rfl, S⟩
    · refine fI 89 (.bool true) [(81, .bool true), (88, undef)] 20 [some 12, some 19] rfl rfl rfl rfl rfl rfl fun G a w S => ?_
      refine sPickT (.bool true) S (wN rfl) rfl rfl rfl rfl rfl (lb rfl) fun a S => ?_
      exact leafL ⟨rfl, S⟩
    · refine fI 90 (.bool true) [(89, .bool true)] 21 [some 20] rfl rfl rfl rfl rfl rfl fun G a w S => ?_
      refine sMove (.bool true) S (wN rfl) (.inl rfl) rfl rfl (lb rfl) fun a S => ?_
      exact leafL ⟨rfl, S⟩
    · refine fI 91 undef [(8, .pointer (some ⟨b63, 0, none⟩)), (90, .bool true)] 22 [none, some 21] rfl rfl rfl rfl rfl rfl fun G a w S => ?_
      refine sSkip 21 false 90 91 S rfl rfl rfl rfl rfl (lb rfl) fun a S => ?_
      exact leafL ⟨rfl, S⟩
    · refine fI 92 undef [(91, undef), (90, .bool true)] 23 [some 22, some 21] rfl rfl rfl rfl rfl rfl fun G a w S => ?_
      refine sSkip 21 false 90 92 S rfl rfl rfl rfl rfl (lb rfl) fun a S => ?_
      exact leafL ⟨rfl, S⟩
    · refine fI 93 undef [(4, .slice ad33 [([1, 0] : List Int), ([2] : List Int), ([2] : List Int), ([2] : List Int), ([3] : List Int), ([4] : List Int), ([] : (List Int)), ([] : (List Int))].length cp34), (90, .bool true)] 24 [none, some 21] rfl rfl rfl rfl rfl rfl fun G a w S => ?_
      refine sSkip 21 false 90 93 S rfl rfl rfl rfl rfl (lb rfl) fun a S => ?_
      exact leafL ⟨rfl, S⟩
    · refine fI 94 undef [(7, iv s44), (90, .bool true)] 25 [none, some 21] rfl rfl rfl rfl rfl rfl fun G a w S => ?_
      refine sSkip 21 false 90 94 S rfl rfl rfl rfl rfl (lb rfl) fun a S => ?_
      exact leafL ⟨rfl, S⟩
    · refine fI 95 undef [(93, undef), (94, undef), (90, .bool true)] 26 [some 24, some 25, some 21] rfl rfl rfl rfl rfl rfl fun G a w S => ?_
      refine sSkip 21 false 90 95 S rfl rfl rfl rfl rfl (lb rfl) fun a S => ?_
      exact leafL ⟨rfl, S⟩
    · refine fI 96 undef [(95, undef), (90, .bool true)] 27 [some 26, some 21] rfl rfl rfl rfl rfl rfl fun G a w S => ?_
      refine sSkip 21 false 90 96 S rfl rfl rfl rfl rfl (lb rfl) fun a S => ?_
      exact leafL ⟨rfl, S⟩
    · refine fI 97 undef [(92, undef), (96, undef), (90, .bool true)] 28 [some 23, some 27, some 21] rfl rfl rfl rfl rfl rfl fun G a w S => ?_
      refine sSkip 21 false 90 97 S rfl rfl rfl rfl rfl (lb rfl) fun a S => ?_
      exact leafL ⟨rfl, S⟩
    · refine fI 98 undef [(97, undef), (90, .bool true)] 29 [some 28, some 21] rfl rfl rfl rfl rfl rfl fun G a w S => ?_
      refine sSkip 21 false 90 98 S rfl rfl rfl rfl rfl (lb rfl) fun a S => ?_
      exact leafL ⟨rfl, S⟩
    · refine fI 99 (.bool true) [(90, .bool true), (98, undef)] 30 [some 21, some 29] rfl rfl rfl rfl rfl rfl fun G a w S => ?_
      refine sPickT (.bool true) S (wN rfl) rfl rfl rfl rfl rfl (lb rfl) fun a S => ?_
      exact leafL ⟨rfl, S⟩
    exact leafT (⟨true, Option.some.inj h, S.fix [1, 2, 3, 4, 5] [2] (by decide) rfl rfl rfl⟩)
  obtain ⟨x68, hx69, h⟩ := bindSome h
  rcases iteSome h with ⟨hc73, h⟩ | ⟨hc73, h⟩
  · obtain ⟨q74, hq75, hp76⟩ := pIdxR (P := Try.prog) (r := (rI .i64)) (T := 3) (v := .slice ad39 ([0, 1, 1, 1, 2, 3, 4, 4] : List Int).length cp40) (xs := ([0, 1, 1, 1, 2, 3, 4, 4] : List Int)) (j := s44) 32 3 5 S Try.underlying32 rfl rfl hx69
    refine sDraw (nf := []) (W := [(0, 69, .pointer (some ⟨b63, 0, none⟩)), (1, 70, iv x53.Row), (2, 71, .bool (x53.Row != 1)), (3, 72, .bool (x53.Row != 1)), (4, 73, .pointer (some ⟨b63, 1, none⟩)), (5, 74, iv x53.Cell), (6, 75, .slice ad39 ([0, 1, 1, 1, 2, 3, 4, 4] : List Int).length cp40), (7, 76, iv s44), (8, 77, q74), (9, 78, iv x68), (10, 79, .bool (x53.Cell != x68)), (11, 80, .bool (x53.Cell != x68)), (12, 81, .bool (x53.Cell != x68)), (13, 82, undef), (14, 83, undef), (15, 84, undef), (16, 85, undef), (17, 86, undef), (18, 87, undef), (19, 88, undef), (20, 89, .bool true), (21, 90, .bool true), (22, 91, undef), (23, 92, undef), (24, 93, undef), (25, 94, undef), (26, 95, undef), (27, 96, undef), (28, 97, undef), (29, 98, undef), (30, 99, .bool true)]) rfl S ?_
    refine node_by (A := anc_raddlelaw27_LoopsNames_0) (nf := []) (Y := []) (W := [(0, 69, .pointer (some ⟨b63, 0, none⟩)), (1, 70, iv x53.Row), (2, 71, .bool (x53.Row != 1)), (3, 72, .bool (x53.Row != 1)), (4, 73, .pointer (some ⟨b63, 1, none⟩)), (5, 74, iv x53.Cell), (6, 75, .slice ad39 ([0, 1, 1, 1, 2, 3, 4, 4] : List Int).length cp40), (7, 76, iv s44), (8, 77, q74), (9, 78, iv x68), (10, 79, .bool (x53.Cell != x68)), (11, 80, .bool (x53.Cell != x68)), (12, 81, .bool (x53.Cell != x68)), (13, 82, undef), (14, 83, undef), (15, 84, undef), (16, 85, undef), (17, 86, undef), (18, 87, undef), (19, 88, undef), (20, 89, .bool true), (21, 90, .bool true), (22, 91, undef), (23, 92, undef), (24, 93, undef), (25, 94, undef), (26, 95, undef), (27, 96, undef), (28, 97, undef), (29, 98, undef), (30, 99, .bool true)]) 31 (by kernel_rfl) (by kernel_rfl) (by kernel_rfl) (by kernel_rfl) (by kernel_rfl) [0, 1, 2, 3, 4, 5, 6, 7, 8, 9, 10, 11, 12, 13, 14, 15, 16, 17, 18, 19, 20, 21, 22, 23, 24, 25, 26, 27, 28, 29, 30] (by kernel_rfl) (by decide) (by decide) (aF 0 30 (by decide) ?_ (aF 1 29 (by decide) ?_ (aF 2 28 (by decide) ?_ (aF 3 27 (by decide) ?_ (aF 4 26 (by decide) ?_ (aF 5 25 (by decide) ?_ (aF 6 24 (by decide) ?_ (aF 7 23 (by decide) ?_ (aF 8 22 (by decide) ?_ (aF 9 21 (by decide) ?_ (aF 10 20 (by decide) ?_ (aF 11 19 (by decide) ?_ (aF 12 18 (by decide) ?_ (aF 13 17 (by decide) ?_ (aF 14 16 (by decide) ?_ (aF 15 15 (by decide) ?_ (aF 16 14 (by decide) ?_ (aF 17 13 (by decide) ?_ (aF 18 12 (by decide) ?_ (aF 19 11 (by decide) ?_ (aF 20 10 (by decide) ?_ (aF 21 9 (by decide) ?_ (aF 22 8 (by decide) ?_ (aF 23 7 (by decide) ?_ (aF 24 6 (by decide) ?_ (aF 25 5 (by decide) ?_ (aF 26 4 (by decide) ?_ (aF 27 3 (by decide) ?_ (aF 28 2 (by decide) ?_ (aF 29 1 (by decide) ?_ (aF 30 0 (by decide) ?_ (trivial)))))))))))))))))))))))))))))))) [(1, .pointer (some ⟨b9, 0, none⟩)), (2, .slice ad13 r11.1.length cp14), (4, .slice ad33 [([1, 0] : List Int), ([2] : List Int), ([2] : List Int), ([2] : List Int), ([3] : List Int), ([4] : List Int), ([] : (List Int)), ([] : (List Int))].length cp34), (5, .slice ad36 [true, false, false, false, false, true, false, false].length cp37), (6, .slice ad39 ([0, 1, 1, 1, 2, 3, 4, 4] : List Int).length cp40), (7, iv s44), (73, .pointer (some ⟨b63, 1, none⟩)), (74, iv x53.Cell), (75, .slice ad39 ([0, 1, 1, 1, 2, 3, 4, 4] : List Int).length cp40), (76, iv s44), (77, q74), (78, iv x68), (79, .bool (x53.Cell != x68)), (82, undef), (83, undef), (84, undef), (85, undef), (86, undef), (87, undef), (88, undef), (91, undef), (92, undef), (93, undef), (94, undef), (95, undef), (96, undef), (97, undef), (98, undef), (99, .bool true)] (fin_of [none, none, none, none, none, none, some 4, some 5, some 6, some 7, some 8, some 9, some 10, some 13, some 14, some 15, some 16, some 17, some 18, some 19, some 22, some 23, some 24, some 25, some 26, some 27, some 28, some 29, some 30] rfl (by kernel_rfl) (by kernel_rfl)) (fun _ a w S => ?_)
    · refine fI 69 (.pointer (some ⟨b63, 0, none⟩)) [(8, .pointer (some ⟨b63, 0, none⟩))] 0 [none] rfl rfl rfl rfl rfl rfl fun G a w S => ?_
      refine sField (b := b63) (off := 0) 0 0 S (wN rfl) rfl rfl rfl rfl rfl (lb rfl) fun a S => ?_
      exact leafL ⟨rfl, S⟩
    · refine fI 70 (iv x53.Row) [(69, .pointer (some ⟨b63, 0, none⟩))] 1 [some 0] rfl rfl rfl rfl rfl rfl fun G a w S => ?_
      refine sLoad1 (p := b63) (off := 0) (T := 48) (vs := [iv x53.Row, iv x53.Cell, .slice ad61 x53.Parents.length cp62, .bool x53.Purl]) 0 (iv x53.Row) S (wN rfl) rfl rfl rfl rfl rfl rfl (lb rfl) fun a S => ?_
      exact leafL ⟨rfl, S⟩
    · refine fI 71 (.bool (x53.Row != 1)) [(70, iv x53.Row)] 2 [some 1] rfl rfl rfl rfl rfl rfl fun G a w S => ?_
      refine sBin (.bool (x53.Row != 1)) S (wN rfl) rfl rfl rfl (bNe _ _ _ _ .i64 x53.Row 1) rfl (lb rfl) fun a S => ?_
      exact leafL ⟨rfl, S⟩
    · refine fI 72 (.bool (x53.Row != 1)) [(71, .bool (x53.Row != 1))] 3 [some 2] rfl rfl rfl rfl rfl rfl fun G a w S => ?_
      refine sMove (.bool (x53.Row != 1)) S (wN rfl) (.inl rfl) rfl rfl (lb rfl) fun a S => ?_
      exact leafL ⟨rfl, S⟩
    · refine fI 73 (.pointer (some ⟨b63, 1, none⟩)) [(8, .pointer (some ⟨b63, 0, none⟩)), (72, .bool (x53.Row != 1))] 4 [none, some 3] rfl rfl rfl rfl rfl rfl fun G a w S => ?_
      refine sField (b := b63) (off := 0) 1 1 S (wG 3 false 72 rfl rfl rfl hc67) rfl rfl rfl rfl rfl (lb rfl) fun a S => ?_
      exact leafL ⟨rfl, S⟩
    · refine fI 74 (iv x53.Cell) [(73, .pointer (some ⟨b63, 1, none⟩)), (72, .bool (x53.Row != 1))] 5 [some 4, some 3] rfl rfl rfl rfl rfl rfl fun G a w S => ?_
      refine sLoad1 (p := b63) (off := 1) (T := 48) (vs := [iv x53.Row, iv x53.Cell, .slice ad61 x53.Parents.length cp62, .bool x53.Purl]) 0 (iv x53.Cell) S (wG 3 false 72 rfl rfl rfl hc67) rfl rfl rfl rfl rfl rfl (lb rfl) fun a S => ?_
      exact leafL ⟨rfl, S⟩
    · refine fI 75 (.slice ad39 ([0, 1, 1, 1, 2, 3, 4, 4] : List Int).length cp40) [(6, .slice ad39 ([0, 1, 1, 1, 2, 3, 4, 4] : List Int).length cp40), (72, .bool (x53.Row != 1))] 6 [none, some 3] rfl rfl rfl rfl rfl rfl fun G a w S => ?_
      refine sMove (.slice ad39 ([0, 1, 1, 1, 2, 3, 4, 4] : List Int).length cp40) S (wG 3 false 72 rfl rfl rfl hc67) (.inl rfl) rfl rfl (lb rfl) fun a S => ?_
      exact leafL ⟨rfl, S⟩
    · refine fI 76 (iv s44) [(7, iv s44), (72, .bool (x53.Row != 1))] 7 [none, some 3] rfl rfl rfl rfl rfl rfl fun G a w S => ?_
      refine sMove (iv s44) S (wG 3 false 72 rfl rfl rfl hc67) (.inl rfl) rfl rfl (lb rfl) fun a S => ?_
      exact leafL ⟨rfl, S⟩
    · refine fI 77 q74 [(75, .slice ad39 ([0, 1, 1, 1, 2, 3, 4, 4] : List Int).length cp40), (76, iv s44), (72, .bool (x53.Row != 1))] 8 [some 6, some 7, some 3] rfl rfl rfl rfl rfl rfl fun G a w S => ?_
      refine sIdxV (v := .slice ad39 ([0, 1, 1, 1, 2, 3, 4, 4] : List Int).length cp40) (k := .i64) (j := s44) S (wG 3 false 72 rfl rfl rfl hc67) rfl rfl rfl hq75 rfl (lb rfl) fun a S => ?_
      exact leafL ⟨rfl, S⟩
    · refine fI 78 (iv x68) [(77, q74), (72, .bool (x53.Row != 1))] 9 [some 8, some 3] rfl rfl rfl rfl rfl rfl fun G a w S => ?_
      refine sLoadR (r := (rI .i64)) (T := 3) (xs := ([0, 1, 1, 1, 2, 3, 4, 4] : List Int)) (x := x68) (v := .slice ad39 ([0, 1, 1, 1, 2, 3, 4, 4] : List Int).length cp40) (vq := q74) (j := s44) 5 (iv x68) S hp76 (wG 3 false 72 rfl rfl rfl hc67) rfl rfl rfl hx69 (fun _ _ _ h => h) (scal_I _) rfl rfl (lb rfl) fun a S => ?_
      exact leafL ⟨rfl, S⟩
    · refine fI 79 (.bool (x53.Cell != x68)) [(74, iv x53.Cell), (78, iv x68), (72, .bool (x53.Row != 1))] 10 [some 5, some 9, some 3] rfl rfl rfl rfl rfl rfl fun G a w S => ?_
      refine sBin (.bool (x53.Cell != x68)) S (wG 3 false 72 rfl rfl rfl hc67) rfl rfl rfl (bNe _ _ _ _ .i64 x53.Cell x68) rfl (lb rfl) fun a S => ?_
      exact leafL ⟨rfl, S⟩
    · refine fI 80 (.bool (x53.Cell != x68)) [(72, .bool (x53.Row != 1)), (79, .bool (x53.Cell != x68))] 11 [some 3, some 10] rfl rfl rfl rfl rfl rfl fun G a w S => ?_
      refine sPickF (.bool (x53.Cell != x68)) S (wN rfl) rfl rfl hc67 rfl rfl (lb rfl) fun a S => ?_
      exact leafL ⟨rfl, S⟩
    · refine fI 81 (.bool (x53.Cell != x68)) [(80, .bool (x53.Cell != x68))] 12 [some 11] rfl rfl rfl rfl rfl rfl fun G a w S => ?_
      refine sMove (.bool (x53.Cell != x68)) S (wN rfl) (.inl rfl) rfl rfl (lb rfl) fun a S => ?_
      exact leafL ⟨rfl, S⟩
    · refine fI 82 undef [(8, .pointer (some ⟨b63, 0, none⟩)), (81, .bool (x53.Cell != x68))] 13 [none, some 12] rfl rfl rfl rfl rfl rfl fun G a w S => ?_
      refine sSkip 12 false 81 82 S rfl rfl rfl hc73 rfl (lb rfl) fun a S => ?_
      exact leafL ⟨rfl, S⟩
    · refine fI 83 undef [(82, undef), (81, .bool (x53.Cell != x68))] 14 [some 13, some 12] rfl rfl rfl rfl rfl rfl fun G a w S => ?_
      refine sSkip 12 false 81 83 S rfl rfl rfl hc73 rfl (lb rfl) fun a S => ?_
      exact leafL ⟨rfl, S⟩
    · refine fI 84 undef [(5, .slice ad36 [true, false, false, false, false, true, false, false].length cp37), (81, .bool (x53.Cell != x68))] 15 [none, some 12] rfl rfl rfl rfl rfl rfl fun G a w S => ?_
      refine sSkip 12 false 81 84 S rfl rfl rfl hc73 rfl (lb rfl) fun a S => ?_
      exact leafL ⟨rfl, S⟩
    · refine fI 85 undef [(7, iv s44), (81, .bool (x53.Cell != x68))] 16 [none, some 12] rfl rfl rfl rfl rfl rfl fun G a w S => ?_
      refine sSkip 12 false 81 85 S rfl rfl rfl hc73 rfl (lb rfl) fun a S => ?_
      exact leafL ⟨rfl, S⟩
    · refine fI 86 undef [(84, undef), (85, undef), (81, .bool (x53.Cell != x68))] 17 [some 15, some 16, some 12] rfl rfl rfl rfl rfl rfl fun G a w S => ?_
      refine sSkip 12 false 81 86 S rfl rfl rfl hc73 rfl (lb rfl) fun a S => ?_
      exact leafL ⟨rfl, S⟩
    · refine fI 87 undef [(86, undef), (81, .bool (x53.Cell != x68))] 18 [some 17, some 12] rfl rfl rfl rfl rfl rfl fun G a w S => ?_
      refine sSkip 12 false 81 87 S rfl rfl rfl hc73 rfl (lb rfl) fun a S => ?_
      exact leafL ⟨rfl, S⟩
    · refine fI 88 undef [(83, undef), (87, undef), (81, .bool (x53.Cell != x68))] 19 [some 14, some 18, some 12] rfl rfl rfl rfl rfl rfl fun G a w S => ?_
      refine sSkip 12 false 81 88 S rfl rfl rfl hc73 rfl (lb rfl) fun a S => ?_
      exact leafL ⟨rfl, S⟩
    · refine fI 89 (.bool true) [(81, .bool (x53.Cell != x68)), (88, undef)] 20 [some 12, some 19] rfl rfl rfl rfl rfl rfl fun G a w S => ?_
      refine sPickT (.bool true) S (wN rfl) rfl rfl hc73 rfl rfl (lb rfl) fun a S => ?_
      exact leafL ⟨rfl, S⟩
    · refine fI 90 (.bool true) [(89, .bool true)] 21 [some 20] rfl rfl rfl rfl rfl rfl fun G a w S => ?_
      refine sMove (.bool true) S (wN rfl) (.inl rfl) rfl rfl (lb rfl) fun a S => ?_
      exact leafL ⟨rfl, S⟩
    · refine fI 91 undef [(8, .pointer (some ⟨b63, 0, none⟩)), (90, .bool true)] 22 [none, some 21] rfl rfl rfl rfl rfl rfl fun G a w S => ?_
      refine sSkip 21 false 90 91 S rfl rfl rfl rfl rfl (lb rfl) fun a S => ?_
      exact leafL ⟨rfl, S⟩
    · refine fI 92 undef [(91, undef), (90, .bool true)] 23 [some 22, some 21] rfl rfl rfl rfl rfl rfl fun G a w S => ?_
      refine sSkip 21 false 90 92 S rfl rfl rfl rfl rfl (lb rfl) fun a S => ?_
      exact leafL ⟨rfl, S⟩
    · refine fI 93 undef [(4, .slice ad33 [([1, 0] : List Int), ([2] : List Int), ([2] : List Int), ([2] : List Int), ([3] : List Int), ([4] : List Int), ([] : (List Int)), ([] : (List Int))].length cp34), (90, .bool true)] 24 [none, some 21] rfl rfl rfl rfl rfl rfl fun G a w S => ?_
      refine sSkip 21 false 90 93 S rfl rfl rfl rfl rfl (lb rfl) fun a S => ?_
      exact leafL ⟨rfl, S⟩
    · refine fI 94 undef [(7, iv s44), (90, .bool true)] 25 [none, some 21] rfl rfl rfl rfl rfl rfl fun G a w S => ?_
      refine sSkip 21 false 90 94 S rfl rfl rfl rfl rfl (lb rfl) fun a S => ?_
      exact leafL ⟨rfl, S⟩
    · refine fI 95 undef [(93, undef), (94, undef), (90, .bool true)] 26 [some 24, some 25, some 21] rfl rfl rfl rfl rfl rfl fun G a w S => ?_
      refine sSkip 21 false 90 95 S rfl rfl rfl rfl rfl (lb rfl) fun a S => ?_
      exact leafL ⟨rfl, S⟩
    · refine fI 96 undef [(95, undef), (90, .bool true)] 27 [some 26, some 21] rfl rfl rfl rfl rfl rfl fun G a w S => ?_
      refine sSkip 21 false 90 96 S rfl rfl rfl rfl rfl (lb rfl) fun a S => ?_
      exact leafL ⟨rfl, S⟩
    · refine fI 97 undef [(92, undef), (96, undef), (90, .bool true)] 28 [some 23, some 27, some 21] rfl rfl rfl rfl rfl rfl fun G a w S => ?_
      refine sSkip 21 false 90 97 S rfl rfl rfl rfl rfl (lb rfl) fun a S => ?_
      exact leafL ⟨rfl, S⟩
    · refine fI 98 undef [(97, undef), (90, .bool true)] 29 [some 28, some 21] rfl rfl rfl rfl rfl rfl fun G a w S => ?_
      refine sSkip 21 false 90 98 S rfl rfl rfl rfl rfl (lb rfl) fun a S => ?_
      exact leafL ⟨rfl, S⟩
    · refine fI 99 (.bool true) [(90, .bool true), (98, undef)] 30 [some 21, some 29] rfl rfl rfl rfl rfl rfl fun G a w S => ?_
      refine sPickT (.bool true) S (wN rfl) rfl rfl rfl rfl rfl (lb rfl) fun a S => ?_
      exact leafL ⟨rfl, S⟩
    exact leafT (⟨true, Option.some.inj h, S.fix [1, 2, 3, 4, 5] [2] (by decide) rfl rfl rfl⟩)
  obtain ⟨x77, hx78, h⟩ := bindSome h
  rcases iteSome h with ⟨hc82, h⟩ | ⟨hc82, h⟩
  · obtain ⟨q83, hq84, hp85⟩ := pIdxR (P := Try.prog) (r := (rI .i64)) (T := 3) (v := .slice ad39 ([0, 1, 1, 1, 2, 3, 4, 4] : List Int).length cp40) (xs := ([0, 1, 1, 1, 2, 3, 4, 4] : List Int)) (j := s44) 32 3 5 S Try.underlying32 rfl rfl hx69
    obtain ⟨q86, hq87, hp88⟩ := pIdxR (P := Try.prog) (r := rB) (T := 4) (v := .slice ad36 [true, false, false, false, false, true, false, false].length cp37) (xs := [true, false, false, false, false, true, false, false]) (j := s44) 70 4 4 S Try.underlying70 rfl rfl hx78
    refine sDraw (nf := []) (W := [(0, 69, .pointer (some ⟨b63, 0, none⟩)), (1, 70, iv x53.Row), (2, 71, .bool (x53.Row != 1)), (3, 72, .bool (x53.Row != 1)), (4, 73, .pointer (some ⟨b63, 1, none⟩)), (5, 74, iv x53.Cell), (6, 75, .slice ad39 ([0, 1, 1, 1, 2, 3, 4, 4] : List Int).length cp40), (7, 76, iv s44), (8, 77, q83), (9, 78, iv x68), (10, 79, .bool (x53.Cell != x68)), (11, 80, .bool (x53.Cell != x68)), (12, 81, .bool (x53.Cell != x68)), (13, 82, .pointer (some ⟨b63, 3, none⟩)), (14, 83, .bool x53.Purl), (15, 84, .slice ad36 [true, false, false, false, false, true, false, false].length cp37), (16, 85, iv s44), (17, 86, q86), (18, 87, .bool x77), (19, 88, .bool (x53.Purl != x77)), (20, 89, .bool (x53.Purl != x77)), (21, 90, .bool (x53.Purl != x77)), (22, 91, undef), (23, 92, undef), (24, 93, undef), (25, 94, undef), (26, 95, undef), (27, 96, undef), (28, 97, undef), (29, 98, undef), (30, 99, .bool true)]) rfl S ?_
    refine node_by (A := anc_raddlelaw27_LoopsNames_0) (nf := []) (Y := []) (W := [(0, 69, .pointer (some ⟨b63, 0, none⟩)), (1, 70, iv x53.Row), (2, 71, .bool (x53.Row != 1)), (3, 72, .bool (x53.Row != 1)), (4, 73, .pointer (some ⟨b63, 1, none⟩)), (5, 74, iv x53.Cell), (6, 75, .slice ad39 ([0, 1, 1, 1, 2, 3, 4, 4] : List Int).length cp40), (7, 76, iv s44), (8, 77, q83), (9, 78, iv x68), (10, 79, .bool (x53.Cell != x68)), (11, 80, .bool (x53.Cell != x68)), (12, 81, .bool (x53.Cell != x68)), (13, 82, .pointer (some ⟨b63, 3, none⟩)), (14, 83, .bool x53.Purl), (15, 84, .slice ad36 [true, false, false, false, false, true, false, false].length cp37), (16, 85, iv s44), (17, 86, q86), (18, 87, .bool x77), (19, 88, .bool (x53.Purl != x77)), (20, 89, .bool (x53.Purl != x77)), (21, 90, .bool (x53.Purl != x77)), (22, 91, undef), (23, 92, undef), (24, 93, undef), (25, 94, undef), (26, 95, undef), (27, 96, undef), (28, 97, undef), (29, 98, undef), (30, 99, .bool true)]) 31 (by kernel_rfl) (by kernel_rfl) (by kernel_rfl) (by kernel_rfl) (by kernel_rfl) [0, 1, 2, 3, 4, 5, 6, 7, 8, 9, 10, 11, 12, 13, 14, 15, 16, 17, 18, 19, 20, 21, 22, 23, 24, 25, 26, 27, 28, 29, 30] (by kernel_rfl) (by decide) (by decide) (aF 0 30 (by decide) ?_ (aF 1 29 (by decide) ?_ (aF 2 28 (by decide) ?_ (aF 3 27 (by decide) ?_ (aF 4 26 (by decide) ?_ (aF 5 25 (by decide) ?_ (aF 6 24 (by decide) ?_ (aF 7 23 (by decide) ?_ (aF 8 22 (by decide) ?_ (aF 9 21 (by decide) ?_ (aF 10 20 (by decide) ?_ (aF 11 19 (by decide) ?_ (aF 12 18 (by decide) ?_ (aF 13 17 (by decide) ?_ (aF 14 16 (by decide) ?_ (aF 15 15 (by decide) ?_ (aF 16 14 (by decide) ?_ (aF 17 13 (by decide) ?_ (aF 18 12 (by decide) ?_ (aF 19 11 (by decide) ?_ (aF 20 10 (by decide) ?_ (aF 21 9 (by decide) ?_ (aF 22 8 (by decide) ?_ (aF 23 7 (by decide) ?_ (aF 24 6 (by decide) ?_ (aF 25 5 (by decide) ?_ (aF 26 4 (by decide) ?_ (aF 27 3 (by decide) ?_ (aF 28 2 (by decide) ?_ (aF 29 1 (by decide) ?_ (aF 30 0 (by decide) ?_ (trivial)))))))))))))))))))))))))))))))) [(1, .pointer (some ⟨b9, 0, none⟩)), (2, .slice ad13 r11.1.length cp14), (4, .slice ad33 [([1, 0] : List Int), ([2] : List Int), ([2] : List Int), ([2] : List Int), ([3] : List Int), ([4] : List Int), ([] : (List Int)), ([] : (List Int))].length cp34), (5, .slice ad36 [true, false, false, false, false, true, false, false].length cp37), (6, .slice ad39 ([0, 1, 1, 1, 2, 3, 4, 4] : List Int).length cp40), (7, iv s44), (73, .pointer (some ⟨b63, 1, none⟩)), (74, iv x53.Cell), (75, .slice ad39 ([0, 1, 1, 1, 2, 3, 4, 4] : List Int).length cp40), (76, iv s44), (77, q83), (78, iv x68), (79, .bool (x53.Cell != x68)), (82, .pointer (some ⟨b63, 3, none⟩)), (83, .bool x53.Purl), (84, .slice ad36 [true, false, false, false, false, true, false, false].length cp37), (85, iv s44), (86, q86), (87, .bool x77), (88, .bool (x53.Purl != x77)), (91, undef), (92, undef), (93, undef), (94, undef), (95, undef), (96, undef), (97, undef), (98, undef), (99, .bool true)] (fin_of [none, none, none, none, none, none, some 4, some 5, some 6, some 7, some 8, some 9, some 10, some 13, some 14, some 15, some 16, some 17, some 18, some 19, some 22, some 23, some 24, some 25, some 26, some 27, some 28, some 29, some 30] rfl (by kernel_rfl) (by kernel_rfl)) (fun _ a w S => ?_)
    · refine fI 69 (.pointer (some ⟨b63, 0, none⟩)) [(8, .pointer (some ⟨b63, 0, none⟩))] 0 [none] rfl rfl rfl rfl rfl rfl fun G a w S => ?_
      refine sField (b := b63) (off := 0) 0 0 S (wN rfl) rfl rfl rfl rfl rfl (lb rfl) fun a S => ?_
      exact leafL ⟨rfl, S⟩
    · refine fI 70 (iv x53.Row) [(69, .pointer (some ⟨b63, 0, none⟩))] 1 [some 0] rfl rfl rfl rfl rfl rfl fun G a w S => ?_
      refine sLoad1 (p := b63) (off := 0) (T := 48) (vs := [iv x53.Row, iv x53.Cell, .slice ad61 x53.Parents.length cp62, .bool x53.Purl]) 0 (iv x53.Row) S (wN rfl) rfl rfl rfl rfl rfl rfl (lb rfl) fun a S => ?_
      exact leafL ⟨rfl, S⟩
    · refine fI 71 (.bool (x53.Row != 1)) [(70, iv x53.Row)] 2 [some 1] rfl rfl rfl rfl rfl rfl fun G a w S => ?_
      refine sBin (.bool (x53.Row != 1)) S (wN rfl) rfl rfl rfl (bNe _ _ _ _ .i64 x53.Row 1) rfl (lb rfl) fun a S => ?_
      exact leafL ⟨rfl, S⟩
    · refine fI 72 (.bool (x53.Row != 1)) [(71, .bool (x53.Row != 1))] 3 [some 2] rfl rfl rfl rfl rfl rfl fun G a w S => ?_
      refine sMove (.bool (x53.Row != 1)) S (wN rfl) (.inl rfl) rfl rfl (lb rfl) fun a S => ?_
      exact leafL ⟨rfl, S⟩
    · refine fI 73 (.pointer (some ⟨b63, 1, none⟩)) [(8, .pointer (some ⟨b63, 0, none⟩)), (72, .bool (x53.Row != 1))] 4 [none, some 3] rfl rfl rfl rfl rfl rfl fun G a w S => ?_
      refine sField (b := b63) (off := 0) 1 1 S (wG 3 false 72 rfl rfl rfl hc67) rfl rfl rfl rfl rfl (lb rfl) fun a S => ?_
      exact leafL ⟨rfl, S⟩
    · refine fI 74 (iv x53.Cell) [(73, .pointer (some ⟨b63, 1, none⟩)), (72, .bool (x53.Row != 1))] 5 [some 4, some 3] rfl rfl rfl rfl rfl rfl fun G a w S => ?_
      refine sLoad1 (p := b63) (off := 1) (T := 48) (vs := [iv x53.Row, iv x53.Cell, .slice ad61 x53.Parents.length cp62, .bool x53.Purl]) 0 (iv x53.Cell) S (wG 3 false 72 rfl rfl rfl hc67) rfl rfl rfl rfl rfl rfl (lb rfl) fun a S => ?_
      exact leafL ⟨rfl, S⟩
    · refine fI 75 (.slice ad39 ([0, 1, 1, 1, 2, 3, 4, 4] : List Int).length cp40) [(6, .slice ad39 ([0, 1, 1, 1, 2, 3, 4, 4] : List Int).length cp40), (72, .bool (x53.Row != 1))] 6 [none, some 3] rfl rfl rfl rfl rfl rfl fun G a w S => ?_
      refine sMove (.slice ad39 ([0, 1, 1, 1, 2, 3, 4, 4] : List Int).length cp40) S (wG 3 false 72 rfl rfl rfl hc67) (.inl rfl) rfl rfl (lb rfl) fun a S => ?_
      exact leafL ⟨rfl, S⟩
    · refine fI 76 (iv s44) [(7, iv s44), (72, .bool (x53.Row != 1))] 7 [none, some 3] rfl rfl rfl rfl rfl rfl fun G a w S => ?_
      refine sMove (iv s44) S (wG 3 false 72 rfl rfl rfl hc67) (.inl rfl) rfl rfl (lb rfl) fun a S => ?_
      exact leafL ⟨rfl, S⟩
    · refine fI 77 q83 [(75, .slice ad39 ([0, 1, 1, 1, 2, 3, 4, 4] : List Int).length cp40), (76, iv s44), (72, .bool (x53.Row != 1))] 8 [some 6, some 7, some 3] rfl rfl rfl rfl rfl rfl fun G a w S => ?_
      refine sIdxV (v := .slice ad39 ([0, 1, 1, 1, 2, 3, 4, 4] : List Int).length cp40) (k := .i64) (j := s44) S (wG 3 false 72 rfl rfl rfl hc67) rfl rfl rfl hq84 rfl (lb rfl) fun a S => ?_
      exact leafL ⟨rfl, S⟩
    · refine fI 78 (iv x68) [(77, q83), (72, .bool (x53.Row != 1))] 9 [some 8, some 3] rfl rfl rfl rfl rfl rfl fun G a w S => ?_
      refine sLoadR (r := (rI .i64)) (T := 3) (xs := ([0, 1, 1, 1, 2, 3, 4, 4] : List Int)) (x := x68) (v := .slice ad39 ([0, 1, 1, 1, 2, 3, 4, 4] : List Int).length cp40) (vq := q83) (j := s44) 5 (iv x68) S hp85 (wG 3 false 72 rfl rfl rfl hc67) rfl rfl rfl hx69 (fun _ _ _ h => h) (scal_I _) rfl rfl (lb rfl) fun a S => ?_
      exact leafL ⟨rfl, S⟩
    · refine fI 79 (.bool (x53.Cell != x68)) [(74, iv x53.Cell), (78, iv x68), (72, .bool (x53.Row != 1))] 10 [some 5, some 9, some 3] rfl rfl rfl rfl rfl rfl fun G a w S => ?_
      refine sBin (.bool (x53.Cell != x68)) S (wG 3 false 72 rfl rfl rfl hc67) rfl rfl rfl (bNe _ _ _ _ .i64 x53.Cell x68) rfl (lb rfl) fun a S => ?_
      exact leafL ⟨rfl, S⟩
    · refine fI 80 (.bool (x53.Cell != x68)) [(72, .bool (x53.Row != 1)), (79, .bool (x53.Cell != x68))] 11 [some 3, some 10] rfl rfl rfl rfl rfl rfl fun G a w S => ?_
      refine sPickF (.bool (x53.Cell != x68)) S (wN rfl) rfl rfl hc67 rfl rfl (lb rfl) fun a S => ?_
      exact leafL ⟨rfl, S⟩
    · refine fI 81 (.bool (x53.Cell != x68)) [(80, .bool (x53.Cell != x68))] 12 [some 11] rfl rfl rfl rfl rfl rfl fun G a w S => ?_
      refine sMove (.bool (x53.Cell != x68)) S (wN rfl) (.inl rfl) rfl rfl (lb rfl) fun a S => ?_
      exact leafL ⟨rfl, S⟩
    · refine fI 82 (.pointer (some ⟨b63, 3, none⟩)) [(8, .pointer (some ⟨b63, 0, none⟩)), (81, .bool (x53.Cell != x68))] 13 [none, some 12] rfl rfl rfl rfl rfl rfl fun G a w S => ?_
      refine sField (b := b63) (off := 0) 3 3 S (wG 12 false 81 rfl rfl rfl hc73) rfl rfl rfl rfl rfl (lb rfl) fun a S => ?_
      exact leafL ⟨rfl, S⟩
    · refine fI 83 (.bool x53.Purl) [(82, .pointer (some ⟨b63, 3, none⟩)), (81, .bool (x53.Cell != x68))] 14 [some 13, some 12] rfl rfl rfl rfl rfl rfl fun G a w S => ?_
      refine sLoad1 (p := b63) (off := 3) (T := 48) (vs := [iv x53.Row, iv x53.Cell, .slice ad61 x53.Parents.length cp62, .bool x53.Purl]) 0 (.bool x53.Purl) S (wG 12 false 81 rfl rfl rfl hc73) rfl rfl rfl rfl rfl rfl (lb rfl) fun a S => ?_
      exact leafL ⟨rfl, S⟩
    · refine fI 84 (.slice ad36 [true, false, false, false, false, true, false, false].length cp37) [(5, .slice ad36 [true, false, false, false, false, true, false, false].length cp37), (81, .bool (x53.Cell != x68))] 15 [none, some 12] rfl rfl rfl rfl rfl rfl fun G a w S => ?_
      refine sMove (.slice ad36 [true, false, false, false, false, true, false, false].length cp37) S (wG 12 false 81 rfl rfl rfl hc73) (.inl rfl) rfl rfl (lb rfl) fun a S => ?_
      exact leafL ⟨rfl, S⟩
    · refine fI 85 (iv s44) [(7, iv s44), (81, .bool (x53.Cell != x68))] 16 [none, some 12] rfl rfl rfl rfl rfl rfl fun G a w S => ?_
      refine sMove (iv s44) S (wG 12 false 81 rfl rfl rfl hc73) (.inl rfl) rfl rfl (lb rfl) fun a S => ?_
      exact leafL ⟨rfl, S⟩
    · refine fI 86 q86 [(84, .slice ad36 [true, false, false, false, false, true, false, false].length cp37), (85, iv s44), (81, .bool (x53.Cell != x68))] 17 [some 15, some 16, some 12] rfl rfl rfl rfl rfl rfl fun G a w S => ?_
      refine sIdxV (v := .slice ad36 [true, false, false, false, false, true, false, false].length cp37) (k := .i64) (j := s44) S (wG 12 false 81 rfl rfl rfl hc73) rfl rfl rfl hq87 rfl (lb rfl) fun a S => ?_
      exact leafL ⟨rfl, S⟩
    · refine fI 87 (.bool x77) [(86, q86), (81, .bool (x53.Cell != x68))] 18 [some 17, some 12] rfl rfl rfl rfl rfl rfl fun G a w S => ?_
      refine sLoadR (r := rB) (T := 4) (xs := [true, false, false, false, false, true, false, false]) (x := x77) (v := .slice ad36 [true, false, false, false, false, true, false, false].length cp37) (vq := q86) (j := s44) 4 (.bool x77) S hp88 (wG 12 false 81 rfl rfl rfl hc73) rfl rfl rfl hx78 (fun _ _ _ h => h) scal_B rfl rfl (lb rfl) fun a S => ?_
      exact leafL ⟨rfl, S⟩
    · refine fI 88 (.bool (x53.Purl != x77)) [(83, .bool x53.Purl), (87, .bool x77), (81, .bool (x53.Cell != x68))] 19 [some 14, some 18, some 12] rfl rfl rfl rfl rfl rfl fun G a w S => ?_
      refine sBin (.bool (x53.Purl != x77)) S (wG 12 false 81 rfl rfl rfl hc73) rfl rfl rfl (bNeB _ _ _ _ Try.underlying4 x53.Purl x77) rfl (lb rfl) fun a S => ?_
      exact leafL ⟨rfl, S⟩
    · refine fI 89 (.bool (x53.Purl != x77)) [(81, .bool (x53.Cell != x68)), (88, .bool (x53.Purl != x77))] 20 [some 12, some 19] rfl rfl rfl rfl rfl rfl fun G a w S => ?_
      refine sPickF (.bool (x53.Purl != x77)) S (wN rfl) rfl rfl hc73 rfl rfl (lb rfl) fun a S => ?_
      exact leafL ⟨rfl, S⟩
    · refine fI 90 (.bool (x53.Purl != x77)) [(89, .bool (x53.Purl != x77))] 21 [some 20] rfl rfl rfl rfl rfl rfl fun G a w S => ?_
      refine sMove (.bool (x53.Purl != x77)) S (wN rfl) (.inl rfl) rfl rfl (lb rfl) fun a S => ?_
      exact leafL ⟨rfl, S⟩
    · refine fI 91 undef [(8, .pointer (some ⟨b63, 0, none⟩)), (90, .bool (x53.Purl != x77))] 22 [none, some 21] rfl rfl rfl rfl rfl rfl fun G a w S => ?_
      refine sSkip 21 false 90 91 S rfl rfl rfl hc82 rfl (lb rfl) fun a S => ?_
      exact leafL ⟨rfl, S⟩
    · refine fI 92 undef [(91, undef), (90, .bool (x53.Purl != x77))] 23 [some 22, some 21] rfl rfl rfl rfl rfl rfl fun G a w S => ?_
      refine sSkip 21 false 90 92 S rfl rfl rfl hc82 rfl (lb rfl) fun a S => ?_
      exact leafL ⟨rfl, S⟩
    · refine fI 93 undef [(4, .slice ad33 [([1, 0] : List Int), ([2] : List Int), ([2] : List Int), ([2] : List Int), ([3] : List Int), ([4] : List Int), ([] : (List Int)), ([] : (List Int))].length cp34), (90, .bool (x53.Purl != x77))] 24 [none, some 21] rfl rfl rfl rfl rfl rfl fun G a w S => ?_
      refine sSkip 21 false 90 93 S rfl rfl rfl hc82 rfl (lb rfl) fun a S => ?_
      exact leafL ⟨rfl, S⟩
    · refine fI 94 undef [(7, iv s44), (90, .bool (x53.Purl != x77))] 25 [none, some 21] rfl rfl rfl rfl rfl rfl fun G a w S => ?_
      refine sSkip 21 false 90 94 S rfl rfl rfl hc82 rfl (lb rfl) fun a S => ?_
      exact leafL ⟨rfl, S⟩
    · refine fI 95 undef [(93, undef), (94, undef), (90, .bool (x53.Purl != x77))] 26 [some 24, some 25, some 21] rfl rfl rfl rfl rfl rfl fun G a w S => ?_
      refine sSkip 21 false 90 95 S rfl rfl rfl hc82 rfl (lb rfl) fun a S => ?_
      exact leafL ⟨rfl, S⟩
    · refine fI 96 undef [(95, undef), (90, .bool (x53.Purl != x77))] 27 [some 26, some 21] rfl rfl rfl rfl rfl rfl fun G a w S => ?_
      refine sSkip 21 false 90 96 S rfl rfl rfl hc82 rfl (lb rfl) fun a S => ?_
      exact leafL ⟨rfl, S⟩
    · refine fI 97 undef [(92, undef), (96, undef), (90, .bool (x53.Purl != x77))] 28 [some 23, some 27, some 21] rfl rfl rfl rfl rfl rfl fun G a w S => ?_
      refine sSkip 21 false 90 97 S rfl rfl rfl hc82 rfl (lb rfl) fun a S => ?_
      exact leafL ⟨rfl, S⟩
    · refine fI 98 undef [(97, undef), (90, .bool (x53.Purl != x77))] 29 [some 28, some 21] rfl rfl rfl rfl rfl rfl fun G a w S => ?_
      refine sSkip 21 false 90 98 S rfl rfl rfl hc82 rfl (lb rfl) fun a S => ?_
      exact leafL ⟨rfl, S⟩
    · refine fI 99 (.bool true) [(90, .bool (x53.Purl != x77)), (98, undef)] 30 [some 21, some 29] rfl rfl rfl rfl rfl rfl fun G a w S => ?_
      refine sPickT (.bool true) S (wN rfl) rfl rfl hc82 rfl rfl (lb rfl) fun a S => ?_
      exact leafL ⟨rfl, S⟩
    exact leafT (⟨true, Option.some.inj h, S.fix [1, 2, 3, 4, 5] [2] (by decide) rfl rfl rfl⟩)
  obtain ⟨x89, hx90, h⟩ := bindSome h
  obtain ⟨r97, hx98, h⟩ := bindSome h
  obtain ⟨q99, hq100, hp101⟩ := pIdxR (P := Try.prog) (r := (rI .i64)) (T := 3) (v := .slice ad39 ([0, 1, 1, 1, 2, 3, 4, 4] : List Int).length cp40) (xs := ([0, 1, 1, 1, 2, 3, 4, 4] : List Int)) (j := s44) 32 3 5 S Try.underlying32 rfl rfl hx69
  obtain ⟨q102, hq103, hp104⟩ := pIdxR (P := Try.prog) (r := rB) (T := 4) (v := .slice ad36 [true, false, false, false, false, true, false, false].length cp37) (xs := [true, false, false, false, false, true, false, false]) (j := s44) 70 4 4 S Try.underlying70 rfl rfl hx78
  obtain ⟨q105, hq106, hp107⟩ := pIdxR (P := Try.prog) (r := (rL (rI .i64))) (T := 32) (v := .slice ad33 [([1, 0] : List Int), ([2] : List Int), ([2] : List Int), ([2] : List Int), ([3] : List Int), ([4] : List Int), ([] : (List Int)), ([] : (List Int))].length cp34) (xs := [([1, 0] : List Int), ([2] : List Int), ([2] : List Int), ([2] : List Int), ([3] : List Int), ([4] : List Int), ([] : (List Int)), ([] : (List Int))]) (j := s44) 69 32 3 S Try.underlying69 rfl rfl hx90
  refine sDraw (nf := [27]) (W := [(0, 69, .pointer (some ⟨b63, 0, none⟩)), (1, 70, iv x53.Row), (2, 71, .bool (x53.Row != 1)), (3, 72, .bool (x53.Row != 1)), (4, 73, .pointer (some ⟨b63, 1, none⟩)), (5, 74, iv x53.Cell), (6, 75, .slice ad39 ([0, 1, 1, 1, 2, 3, 4, 4] : List Int).length cp40), (7, 76, iv s44), (8, 77, q99), (9, 78, iv x68), (10, 79, .bool (x53.Cell != x68)), (11, 80, .bool (x53.Cell != x68)), (12, 81, .bool (x53.Cell != x68)), (13, 82, .pointer (some ⟨b63, 3, none⟩)), (14, 83, .bool x53.Purl), (15, 84, .slice ad36 [true, false, false, false, false, true, false, false].length cp37), (16, 85, iv s44), (17, 86, q102), (18, 87, .bool x77), (19, 88, .bool (x53.Purl != x77)), (20, 89, .bool (x53.Purl != x77)), (21, 90, .bool (x53.Purl != x77)), (22, 91, .pointer (some ⟨b63, 2, none⟩)), (23, 92, .slice ad61 x53.Parents.length cp62), (24, 93, .slice ad33 [([1, 0] : List Int), ([2] : List Int), ([2] : List Int), ([2] : List Int), ([3] : List Int), ([4] : List Int), ([] : (List Int)), ([] : (List Int))].length cp34), (25, 94, iv s44), (26, 95, q105)]) rfl S ?_
  refine node_by (A := anc_raddlelaw27_LoopsNames_0) (nf := [27]) (Y := []) (W := [(0, 69, .pointer (some ⟨b63, 0, none⟩)), (1, 70, iv x53.Row), (2, 71, .bool (x53.Row != 1)), (3, 72, .bool (x53.Row != 1)), (4, 73, .pointer (some ⟨b63, 1, none⟩)), (5, 74, iv x53.Cell), (6, 75, .slice ad39 ([0, 1, 1, 1, 2, 3, 4, 4] : List Int).length cp40), (7, 76, iv s44), (8, 77, q99), (9, 78, iv x68), (10, 79, .bool (x53.Cell != x68)), (11, 80, .bool (x53.Cell != x68)), (12, 81, .bool (x53.Cell != x68)), (13, 82, .pointer (some ⟨b63, 3, none⟩)), (14, 83, .bool x53.Purl), (15, 84, .slice ad36 [true, false, false, false, false, true, false, false].length cp37), (16, 85, iv s44), (17, 86, q102), (18, 87, .bool x77), (19, 88, .bool (x53.Purl != x77)), (20, 89, .bool (x53.Purl != x77)), (21, 90, .bool (x53.Purl != x77)), (22, 91, .pointer (some ⟨b63, 2, none⟩)), (23, 92, .slice ad61 x53.Parents.length cp62), (24, 93, .slice ad33 [([1, 0] : List Int), ([2] : List Int), ([2] : List Int), ([2] : List Int), ([3] : List Int), ([4] : List Int), ([] : (List Int)), ([] : (List Int))].length cp34), (25, 94, iv s44), (26, 95, q105)]) 31 (by kernel_rfl) (by kernel_rfl) (by kernel_rfl) (by kernel_rfl) (by kernel_rfl) [0, 1, 2, 3, 4, 5, 6, 7, 8, 9, 10, 11, 12, 13, 14, 15, 16, 17, 18, 19, 20, 21, 22, 23, 24, 25, 26] (by kernel_rfl) (by decide) (by decide) (aF 0 30 (by decide) ?_ (aF 1 29 (by decide) ?_ (aF 2 28 (by decide) ?_ (aF 3 27 (by decide) ?_ (aF 4 26 (by decide) ?_ (aF 5 25 (by decide) ?_ (aF 6 24 (by decide) ?_ (aF 7 23 (by decide) ?_ (aF 8 22 (by decide) ?_ (aF 9 21 (by decide) ?_ (aF 10 20 (by decide) ?_ (aF 11 19 (by decide) ?_ (aF 12 18 (by decide) ?_ (aF 13 17 (by decide) ?_ (aF 14 16 (by decide) ?_ (aF 15 15 (by decide) ?_ (aF 16 14 (by decide) ?_ (aF 17 13 (by decide) ?_ (aF 18 12 (by decide) ?_ (aF 19 11 (by decide) ?_ (aF 20 10 (by decide) ?_ (aF 21 9 (by decide) ?_ (aF 22 8 (by decide) ?_ (aF 23 7 (by decide) ?_ (aF 24 6 (by decide) ?_ (aF 25 5 (by decide) ?_ (aF 26 4 (by decide) ?_ (aN 27 3 (by decide) ?_ (aE 28 2 27 (by decide) (aE 29 1 27 (by decide) (aE 30 0 27 (by decide) (trivial)))))))))))))))))))))))))))))))) [] (fun q hq => by cases hq) (fun hY => absurd (hY 27 (by decide)) (by decide))
  · refine fI 69 (.pointer (some ⟨b63, 0, none⟩)) [(8, .pointer (some ⟨b63, 0, none⟩))] 0 [none] rfl rfl rfl rfl rfl rfl fun G a w S => ?_
    refine sField (b := b63) (off := 0) 0 0 S (wN rfl) rfl rfl rfl rfl rfl (lb rfl) fun a S => ?_
    exact leafL ⟨rfl, S⟩
  · refine fI 70 (iv x53.Row) [(69, .pointer (some ⟨b63, 0, none⟩))] 1 [some 0] rfl rfl rfl rfl rfl rfl fun G a w S => ?_
    refine sLoad1 (p := b63) (off := 0) (T := 48) (vs := [iv x53.Row, iv x53.Cell, .slice ad61 x53.Parents.length cp62, .bool x53.Purl]) 0 (iv x53.Row) S (wN rfl) rfl rfl rfl rfl rfl rfl (lb rfl) fun a S => ?_
    exact leafL ⟨rfl, S⟩
  · refine fI 71 (.bool (x53.Row != 1)) [(70, iv x53.Row)] 2 [some 1] rfl rfl rfl rfl rfl rfl fun G a w S => ?_
    refine sBin (.bool (x53.Row != 1)) S (wN rfl) rfl rfl rfl (bNe _ _ _ _ .i64 x53.Row 1) rfl (lb rfl) fun a S => ?_
    exact leafL ⟨rfl, S⟩
  · refine fI 72 (.bool (x53.Row != 1)) [(71, .bool (x53.Row != 1))] 3 [some 2] rfl rfl rfl rfl rfl rfl fun G a w S => ?_
    refine sMove (.bool (x53.Row != 1)) S (wN rfl) (.inl rfl) rfl rfl (lb rfl) fun a S => ?_
    exact leafL ⟨rfl, S⟩
  · refine fI 73 (.pointer (some ⟨b63, 1, none⟩)) [(8, .pointer (some ⟨b63, 0, none⟩)), (72, .bool (x53.Row != 1))] 4 [none, some 3] rfl rfl rfl rfl rfl rfl fun G a w S => ?_
    refine sField (b := b63) (off := 0) 1 1 S (wG 3 false 72 rfl rfl rfl hc67) rfl rfl rfl rfl rfl (lb rfl) fun a S => ?_
    exact leafL ⟨rfl, S⟩
  · refine fI 74 (iv x53.Cell) [(73, .pointer (some ⟨b63, 1, none⟩)), (72, .bool (x53.Row != 1))] 5 [some 4, some 3] rfl rfl rfl rfl rfl rfl fun G a w S => ?_
    refine sLoad1 (p := b63) (off := 1) (T := 48) (vs := [iv x53.Row, iv x53.Cell, .slice ad61 x53.Parents.length cp62, .bool x53.Purl]) 0 (iv x53.Cell) S (wG 3 false 72 rfl rfl rfl hc67) rfl rfl rfl rfl rfl rfl (lb rfl) fun a S => ?_
    exact leafL ⟨rfl, S⟩
  · refine fI 75 (.slice ad39 ([0, 1, 1, 1, 2, 3, 4, 4] : List Int).length cp40) [(6, .slice ad39 ([0, 1, 1, 1, 2, 3, 4, 4] : List Int).length cp40), (72, .bool (x53.Row != 1))] 6 [none, some 3] rfl rfl rfl rfl rfl rfl fun G a w S => ?_
    refine sMove (.slice ad39 ([0, 1, 1, 1, 2, 3, 4, 4] : List Int).length cp40) S (wG 3 false 72 rfl rfl rfl hc67) (.inl rfl) rfl rfl (lb rfl) fun a S => ?_
    exact leafL ⟨rfl, S⟩
  · refine fI 76 (iv s44) [(7, iv s44), (72, .bool (x53.Row != 1))] 7 [none, some 3] rfl rfl rfl rfl rfl rfl fun G a w S => ?_
    refine sMove (iv s44) S (wG 3 false 72 rfl rfl rfl hc67) (.inl rfl) rfl rfl (lb rfl) fun a S => ?_
    exact leafL ⟨rfl, S⟩
  · refine fI 77 q99 [(75, .slice ad39 ([0, 1, 1, 1, 2, 3, 4, 4] : List Int).length cp40), (76, iv s44), (72, .bool (x53.Row != 1))] 8 [some 6, some 7, some 3] rfl rfl rfl rfl rfl rfl fun G a w S => ?_
    refine sIdxV (v := .slice ad39 ([0, 1, 1, 1, 2, 3, 4, 4] : List Int).length cp40) (k := .i64) (j := s44) S (wG 3 false 72 rfl rfl rfl hc67) rfl rfl rfl hq100 rfl (lb rfl) fun a S => ?_
    exact leafL ⟨rfl, S⟩
  · refine fI 78 (iv x68) [(77, q99), (72, .bool (x53.Row != 1))] 9 [some 8, some 3] rfl rfl rfl rfl rfl rfl fun G a w S => ?_
    refine sLoadR (r := (rI .i64)) (T := 3) (xs := ([0, 1, 1, 1, 2, 3, 4, 4] : List Int)) (x := x68) (v := .slice ad39 ([0, 1, 1, 1, 2, 3, 4, 4] : List Int).length cp40) (vq := q99) (j := s44) 5 (iv x68) S hp101 (wG 3 false 72 rfl rfl rfl hc67) rfl rfl rfl hx69 (fun _ _ _ h => h) (scal_I _) rfl rfl (lb rfl) fun a S => ?_
    exact leafL ⟨rfl, S⟩
  · refine fI 79 (.bool (x53.Cell != x68)) [(74, iv x53.Cell), (78, iv x68), (72, .bool (x53.Row != 1))] 10 [some 5, some 9, some 3] rfl rfl rfl rfl rfl rfl fun G a w S => ?_
    refine sBin (.bool (x53.Cell != x68)) S (wG 3 false 72 rfl rfl rfl hc67) rfl rfl rfl (bNe _ _ _ _ .i64 x53.Cell x68) rfl (lb rfl) fun a S => ?_
    exact leafL ⟨rfl, S⟩
  · refine fI 80 (.bool (x53.Cell != x68)) [(72, .bool (x53.Row != 1)), (79, .bool (x53.Cell != x68))] 11 [some 3, some 10] rfl rfl rfl rfl rfl rfl fun G a w S => ?_
    refine sPickF (.bool (x53.Cell != x68)) S (wN rfl) rfl rfl hc67 rfl rfl (lb rfl) fun a S => ?_
    exact leafL ⟨rfl, S⟩
  · refine fI 81 (.bool (x53.Cell != x68)) [(80, .bool (x53.Cell != x68))] 12 [some 11] rfl rfl rfl rfl rfl rfl fun G a w S => ?_
    refine sMove (.bool (x53.Cell != x68)) S (wN rfl) (.inl rfl) rfl rfl (lb rfl) fun a S => ?_
    exact leafL ⟨rfl, S⟩
  · refine fI 82 (.pointer (some ⟨b63, 3, none⟩)) [(8, .pointer (some ⟨b63, 0, none⟩)), (81, .bool (x53.Cell != x68))] 13 [none, some 12] rfl rfl rfl rfl rfl rfl fun G a w S => ?_
    refine sField (b := b63) (off := 0) 3 3 S (wG 12 false 81 rfl rfl rfl hc73) rfl rfl rfl rfl rfl (lb rfl) fun a S => ?_
    exact leafL ⟨rfl, S⟩
  · refine fI 83 (.bool x53.Purl) [(82, .pointer (some ⟨b63, 3, none⟩)), (81, .bool (x53.Cell != x68))] 14 [some 13, some 12] rfl rfl rfl rfl rfl rfl fun G a w S => ?_
    refine sLoad1 (p := b63) (off := 3) (T := 48) (vs := [iv x53.Row, iv x53.Cell, .slice ad61 x53.Parents.length cp62, .bool x53.Purl]) 0 (.bool x53.Purl) S (wG 12 false 81 rfl rfl rfl hc73) rfl rfl rfl rfl rfl rfl (lb rfl) fun a S => ?_
    exact leafL ⟨rfl, S⟩
  · refine fI 84 (.slice ad36 [true, false, false, false, false, true, false, false].length cp37) [(5, .slice ad36 [true, false, false, false, false, true, false, false].length cp37), (81, .bool (x53.Cell != x68))] 15 [none, some 12] rfl rfl rfl rfl rfl rfl fun G a w S => ?_
    refine sMove (.slice ad36 [true, false, false, false, false, true, false, false].length cp37) S (wG 12 false 81 rfl rfl rfl hc73) (.inl rfl) rfl rfl (lb rfl) fun a S => ?_
    exact leafL ⟨rfl, S⟩
  · refine fI 85 (iv s44) [(7, iv s44), (81, .bool (x53.Cell != x68))] 16 [none, some 12] rfl rfl rfl rfl rfl rfl fun G a w S => ?_
    refine sMove (iv s44) S (wG 12 false 81 rfl rfl rfl hc73) (.inl rfl) rfl rfl (lb rfl) fun a S => ?_
    exact leafL ⟨rfl, S⟩
  · refine fI 86 q102 [(84, .slice ad36 [true, false, false, false, false, true, false, false].length cp37), (85, iv s44), (81, .bool (x53.Cell != x68))] 17 [some 15, some 16, some 12] rfl rfl rfl rfl rfl rfl fun G a w S => ?_
    refine sIdxV (v := .slice ad36 [true, false, false, false, false, true, false, false].length cp37) (k := .i64) (j := s44) S (wG 12 false 81 rfl rfl rfl hc73) rfl rfl rfl hq103 rfl (lb rfl) fun a S => ?_
    exact leafL ⟨rfl, S⟩
  · refine fI 87 (.bool x77) [(86, q102), (81, .bool (x53.Cell != x68))] 18 [some 17, some 12] rfl rfl rfl rfl rfl rfl fun G a w S => ?_
    refine sLoadR (r := rB) (T := 4) (xs := [true, false, false, false, false, true, false, false]) (x := x77) (v := .slice ad36 [true, false, false, false, false, true, false, false].length cp37) (vq := q102) (j := s44) 4 (.bool x77) S hp104 (wG 12 false 81 rfl rfl rfl hc73) rfl rfl rfl hx78 (fun _ _ _ h => h) scal_B rfl rfl (lb rfl) fun a S => ?_
    exact leafL ⟨rfl, S⟩
  · refine fI 88 (.bool (x53.Purl != x77)) [(83, .bool x53.Purl), (87, .bool x77), (81, .bool (x53.Cell != x68))] 19 [some 14, some 18, some 12] rfl rfl rfl rfl rfl rfl fun G a w S => ?_
    refine sBin (.bool (x53.Purl != x77)) S (wG 12 false 81 rfl rfl rfl hc73) rfl rfl rfl (bNeB _ _ _ _ Try.underlying4 x53.Purl x77) rfl (lb rfl) fun a S => ?_
    exact leafL ⟨rfl, S⟩
  · refine fI 89 (.bool (x53.Purl != x77)) [(81, .bool (x53.Cell != x68)), (88, .bool (x53.Purl != x77))] 20 [some 12, some 19] rfl rfl rfl rfl rfl rfl fun G a w S => ?_
    refine sPickF (.bool (x53.Purl != x77)) S (wN rfl) rfl rfl hc73 rfl rfl (lb rfl) fun a S => ?_
    exact leafL ⟨rfl, S⟩
  · refine fI 90 (.bool (x53.Purl != x77)) [(89, .bool (x53.Purl != x77))] 21 [some 20] rfl rfl rfl rfl rfl rfl fun G a w S => ?_
    refine sMove (.bool (x53.Purl != x77)) S (wN rfl) (.inl rfl) rfl rfl (lb rfl) fun a S => ?_
    exact leafL ⟨rfl, S⟩
  · refine fI 91 (.pointer (some ⟨b63, 2, none⟩)) [(8, .pointer (some ⟨b63, 0, none⟩)), (90, .bool (x53.Purl != x77))] 22 [none, some 21] rfl rfl rfl rfl rfl rfl fun G a w S => ?_
    refine sField (b := b63) (off := 0) 2 2 S (wG 21 false 90 rfl rfl rfl hc82) rfl rfl rfl rfl rfl (lb rfl) fun a S => ?_
    exact leafL ⟨rfl, S⟩
  · refine fI 92 (.slice ad61 x53.Parents.length cp62) [(91, .pointer (some ⟨b63, 2, none⟩)), (90, .bool (x53.Purl != x77))] 23 [some 22, some 21] rfl rfl rfl rfl rfl rfl fun G a w S => ?_
    refine sLoad1 (p := b63) (off := 2) (T := 48) (vs := [iv x53.Row, iv x53.Cell, .slice ad61 x53.Parents.length cp62, .bool x53.Purl]) 0 (.slice ad61 x53.Parents.length cp62) S (wG 21 false 90 rfl rfl rfl hc82) rfl rfl rfl rfl rfl rfl (lb rfl) fun a S => ?_
    exact leafL ⟨rfl, S⟩
  · refine fI 93 (.slice ad33 [([1, 0] : List Int), ([2] : List Int), ([2] : List Int), ([2] : List Int), ([3] : List Int), ([4] : List Int), ([] : (List Int)), ([] : (List Int))].length cp34) [(4, .slice ad33 [([1, 0] : List Int), ([2] : List Int), ([2] : List Int), ([2] : List Int), ([3] : List Int), ([4] : List Int), ([] : (List Int)), ([] : (List Int))].length cp34), (90, .bool (x53.Purl != x77))] 24 [none, some 21] rfl rfl rfl rfl rfl rfl fun G a w S => ?_
    refine sMove (.slice ad33 [([1, 0] : List Int), ([2] : List Int), ([2] : List Int), ([2] : List Int), ([3] : List Int), ([4] : List Int), ([] : (List Int)), ([] : (List Int))].length cp34) S (wG 21 false 90 rfl rfl rfl hc82) (.inl rfl) rfl rfl (lb rfl) fun a S => ?_
    exact leafL ⟨rfl, S⟩
  · refine fI 94 (iv s44) [(7, iv s44), (90, .bool (x53.Purl != x77))] 25 [none, some 21] rfl rfl rfl rfl rfl rfl fun G a w S => ?_
    refine sMove (iv s44) S (wG 21 false 90 rfl rfl rfl hc82) (.inl rfl) rfl rfl (lb rfl) fun a S => ?_
    exact leafL ⟨rfl, S⟩
  · refine fI 95 q105 [(93, .slice ad33 [([1, 0] : List Int), ([2] : List Int), ([2] : List Int), ([2] : List Int), ([3] : List Int), ([4] : List Int), ([] : (List Int)), ([] : (List Int))].length cp34), (94, iv s44), (90, .bool (x53.Purl != x77))] 26 [some 24, some 25, some 21] rfl rfl rfl rfl rfl rfl fun G a w S => ?_
    refine sIdxV (v := .slice ad33 [([1, 0] : List Int), ([2] : List Int), ([2] : List Int), ([2] : List Int), ([3] : List Int), ([4] : List Int), ([] : (List Int)), ([] : (List Int))].length cp34) (k := .i64) (j := s44) S (wG 21 false 90 rfl rfl rfl hc82) rfl rfl rfl hq106 rfl (lb rfl) fun a S => ?_
    exact leafL ⟨rfl, S⟩
  refine ⟨_, [(95, q105), (90, .bool (x53.Purl != x77))], rfl, (srcs_of [some 26, some 21] rfl rfl rfl), fun G a w S => ?_⟩
  refine sLoadRS (r := (rL (rI .i64))) (T := 32) (xs := [([1, 0] : List Int), ([2] : List Int), ([2] : List Int), ([2] : List Int), ([3] : List Int), ([4] : List Int), ([] : (List Int)), ([] : (List Int))]) (x := x89) (v := .slice ad33 [([1, 0] : List Int), ([2] : List Int), ([2] : List Int), ([2] : List Int), ([3] : List Int), ([4] : List Int), ([] : (List Int)), ([] : (List Int))].length cp34) (vq := q105) (j := s44) 3 S hp107 (wG 21 false 90 rfl rfl rfl hc82) rfl rfl rfl hx90 (scal_L _) rfl rfl (lb rfl) fun a u108 S => ?_
  obtain ⟨ad109, cp110, _, rfl, _⟩ := S.mem.know (i := 0) (e := fRep (rL (rI .i64)) (u108) x89) rfl
  refine leafL ⟨rfl, _, _, .inl ⟨96, (.slice ad109 x89.length cp110), [(28, 97, .bool r97), (29, 98, .bool (!r97)), (30, 99, .bool (!r97))], rfl, S, hz_of rfl, ?_⟩⟩
  refine node_by (A := anc_raddlelaw27_LoopsNames_0) (nf := [27]) (Y := [27]) 31 (by kernel_rfl) (by kernel_rfl) (by kernel_rfl) (by kernel_rfl) (by kernel_rfl) [28, 29, 30, 27, 0, 1, 2, 3, 4, 5, 6, 7, 8, 9, 10, 11, 12, 13, 14, 15, 16, 17, 18, 19, 20, 21, 22, 23, 24, 25, 26] (by kernel_rfl) (by decide) (by decide) (aD 0 30 27 (by decide) (aD 1 29 27 (by decide) (aD 2 28 27 (by decide) (aD 3 27 27 (by decide) (aD 4 26 27 (by decide) (aD 5 25 27 (by decide) (aD 6 24 27 (by decide) (aD 7 23 27 (by decide) (aD 8 22 27 (by decide) (aD 9 21 27 (by decide) (aD 10 20 27 (by decide) (aD 11 19 27 (by decide) (aD 12 18 27 (by decide) (aD 13 17 27 (by decide) (aD 14 16 27 (by decide) (aD 15 15 27 (by decide) (aD 16 14 27 (by decide) (aD 17 13 27 (by decide) (aD 18 12 27 (by decide) (aD 19 11 27 (by decide) (aD 20 10 27 (by decide) (aD 21 9 27 (by decide) (aF 22 8 (by decide) ?_ (aF 23 7 (by decide) ?_ (aD 24 6 27 (by decide) (aD 25 5 27 (by decide) (aD 26 4 27 (by decide) (aY 27 3 (by decide) (aF 28 2 (by decide) ?_ (aF 29 1 (by decide) ?_ (aF 30 0 (by decide) ?_ (trivial)))))))))))))))))))))))))))))))) [(1, .pointer (some ⟨b9, 0, none⟩)), (2, .slice ad13 r11.1.length cp14), (4, .slice ad33 [([1, 0] : List Int), ([2] : List Int), ([2] : List Int), ([2] : List Int), ([3] : List Int), ([4] : List Int), ([] : (List Int)), ([] : (List Int))].length cp34), (5, .slice ad36 [true, false, false, false, false, true, false, false].length cp37), (6, .slice ad39 ([0, 1, 1, 1, 2, 3, 4, 4] : List Int).length cp40), (7, iv s44), (73, .pointer (some ⟨b63, 1, none⟩)), (74, iv x53.Cell), (75, .slice ad39 ([0, 1, 1, 1, 2, 3, 4, 4] : List Int).length cp40), (76, iv s44), (77, q99), (78, iv x68), (79, .bool (x53.Cell != x68)), (82, .pointer (some ⟨b63, 3, none⟩)), (83, .bool x53.Purl), (84, .slice ad36 [true, false, false, false, false, true, false, false].length cp37), (85, iv s44), (86, q102), (87, .bool x77), (88, .bool (x53.Purl != x77)), (91, .pointer (some ⟨b63, 2, none⟩)), (92, .slice ad61 x53.Parents.length cp62), (93, .slice ad33 [([1, 0] : List Int), ([2] : List Int), ([2] : List Int), ([2] : List Int), ([3] : List Int), ([4] : List Int), ([] : (List Int)), ([] : (List Int))].length cp34), (94, iv s44), (95, q105), (96, .slice ad109 x89.length cp110), (97, .bool r97), (98, .bool (!r97)), (99, .bool (!r97))] (fin_of [none, none, none, none, none, none, some 8, some 9, some 10, some 11, some 12, some 13, some 14, some 17, some 18, some 19, some 20, some 21, some 22, some 23, some 26, some 27, some 28, some 29, some 30, some 3, some 0, some 1, some 2] rfl (by kernel_rfl) (by kernel_rfl)) (fun _ a w S => ?_)
  · refine fI 91 (.pointer (some ⟨b63, 2, none⟩)) [(8, .pointer (some ⟨b63, 0, none⟩)), (90, .bool (x53.Purl != x77))] 26 [none, some 25] rfl rfl rfl rfl rfl rfl fun G a w S => ?_
    refine sField (b := b63) (off := 0) 2 2 S (wG 21 false 90 rfl rfl rfl hc82) rfl rfl rfl rfl rfl (lb rfl) fun a S => ?_
    exact leafL ⟨rfl, S⟩
  · refine fI 92 (.slice ad61 x53.Parents.length cp62) [(91, .pointer (some ⟨b63, 2, none⟩)), (90, .bool (x53.Purl != x77))] 27 [some 26, some 25] rfl rfl rfl rfl rfl rfl fun G a w S => ?_
    refine sLoad1 (p := b63) (off := 2) (T := 48) (vs := [iv x53.Row, iv x53.Cell, .slice ad61 x53.Parents.length cp62, .bool x53.Purl]) 0 (.slice ad61 x53.Parents.length cp62) S (wG 21 false 90 rfl rfl rfl hc82) rfl rfl rfl rfl rfl rfl (lb rfl) fun a S => ?_
    exact leafL ⟨rfl, S⟩
  · refine fI 97 (.bool r97) [(92, .slice ad61 x53.Parents.length cp62), (96, .slice ad109 x89.length cp110), (90, .bool (x53.Purl != x77))] 0 [some 27, some 3, some 25] rfl rfl rfl rfl rfl rfl fun G a w S => ?_
    have S1 := S.mem
    refine sCallQ (X := Unit) (f := 18) (vs := [.slice ad61 x53.Parents.length cp62, .slice ad109 x89.length cp110]) (val := fun _ => .bool r97) S (wG 21 false 90 rfl rfl rfl hc82) rfl callee18 rfl (S1.quiet [1, 0] rfl) (fun E1 w1 S1 => c_raddleref26_SameInts E1 w1 x53.Parents (.slice ad61 x53.Parents.length cp62) x89 (.slice ad109 x89.length cp110) r97 hx98 S1) rfl (lb rfl) fun _ a w S => ?_
    exact leafL ⟨rfl, S⟩
  · refine fI 98 (.bool (!r97)) [(97, .bool r97), (90, .bool (x53.Purl != x77))] 1 [some 0, some 25] rfl rfl rfl rfl rfl rfl fun G a w S => ?_
    refine sNot (b := r97) S (wG 21 false 90 rfl rfl rfl hc82) rfl rfl rfl (lb rfl) fun a S => ?_
    exact leafL ⟨rfl, S⟩
  · refine fI 99 (.bool (!r97)) [(90, .bool (x53.Purl != x77)), (98, .bool (!r97))] 2 [some 25, some 1] rfl rfl rfl rfl rfl rfl fun G a w S => ?_
    refine sPickF (.bool (!r97)) S (wN rfl) rfl rfl hc82 rfl rfl (lb rfl) fun a S => ?_
    exact leafL ⟨rfl, S⟩
  exact leafT (⟨!r97, Option.some.inj h, S.fix [1, 2, 3, 4, 5] [3] (by decide) rfl rfl rfl⟩)

end Go.Proofs.Yticjoiolfibmlaa
namespace Go.Proofs.Yticjoiolfibmlaa
open Go.RowKit
set_option linter.unusedVariables false

def K_raddlelaw27_LoopsNames_l1 (r11 : ((List api_Loop) × Int)) : Int → Option (Int ⊕ (Bool ⊕ Unit)) := fun s0 => match s0 with
  | s44 =>
    if decide (s44 < 8) then
      Option.bind (idxO r11.1 (w64 (5 + s44))) fun x53 =>
      Option.bind (α := Bool) (
        if x53.Row != 1 then
          some true
        else
          Option.bind (idxO ([0, 1, 1, 1, 2, 3, 4, 4] : List Int) s44) fun x68 =>
          if x53.Cell != x68 then
            some true
          else
            Option.bind (idxO [true, false, false, false, false, true, false, false] s44) fun x77 =>
            if x53.Purl != x77 then
              some true
            else
              Option.bind (idxO [([1, 0] : List Int), ([2] : List Int), ([2] : List Int), ([2] : List Int), ([3] : List Int), ([4] : List Int), ([] : (List Int)), ([] : (List Int))] s44) fun x89 =>
              Option.bind (K_raddleref26_SameInts x53.Parents x89) fun r97 =>
              some (!r97)) fun o64 =>
      if o64 then
        some (.inr (.inl false))
      else
        some (.inl (w64 (s44 + 1)))
    else
      some (.inr (.inr ()))
def K_raddlelaw27_LoopsNames  : Option Bool :=
  Option.bind (K_raddlelaw27_one_s0 5 [(api_Stitch.mk 4 true 2 0), (api_Stitch.mk 5 false 3 0), (api_Stitch.mk 8 true 0 0), (api_Stitch.mk 1 true 0 0), (api_Stitch.mk 9 false 2 0)]) fun r5 =>
  Option.bind (K_loops_Of_s0 r5) fun r11 =>
  if r11.2 != 0 then
    none
  else
    if (r11.1.length : Int) != 13 then
      some false
    else
      Option.bind (α := Unit ⊕ Bool) (
        Option.bind (whileK (K_raddlelaw27_LoopsNames_l1 r11) 0) fun z0 => match z0 with
          | .inl z =>
            some (.inr z)
          | .inr _ =>
            some (.inl ())) fun z0 => match z0 with
        | .inl _ =>
          Option.bind (K_loops_Kids_s0 r5 2) fun r114 =>
          Option.bind (K_raddlelaw27_one_s0 3 [(api_Stitch.mk 7 false 2 1)]) fun r121 =>
          Option.bind (idxO r121.Rows 0) fun x127 =>
          Option.bind (setO r121.Rows 0 (api_Row.mk true x127.Cells)) fun l135 =>
          Option.bind (K_loops_Of_s0 (api_Chart.mk r121.Start l135)) fun r138 =>
          Option.bind (K_loops_Crossings_s0 (api_Chart.mk r121.Start l135)) fun r143 =>
          if r138.2 != 0 then
            none
          else
            if (r138.1.length : Int) != 6 then
              some false
            else
              Option.bind (K_loops_Row r5 1) fun r153 =>
              Option.bind (K_loops_Row r5 2) fun r156 =>
              Option.bind (K_loops_Kids_s0 r5 13) fun r159 =>
              Option.bind (K_loops_Kids_s0 r5 (-1)) fun r164 =>
              Option.bind (K_raddlelaw27_one_s0 1 ([] : (List api_Stitch))) fun r169 =>
              Option.bind (K_loops_Of_s0 r169) fun r173 =>
              Option.bind (K_loops_Row r5 (-1)) fun r178 =>
              Option.bind (K_raddlelaw27_alive) fun r181 =>
              if r181 then
                if r114.2 == 0 then
                  Option.bind (K_raddleref26_SameInts r114.1 ([6, 7, 8] : List Int)) fun r187 =>
                  if r187 then
                    if r143.2 == 0 then
                      Option.bind (idxO r138.1 3) fun x191 =>
                      Option.bind (idxO x191.Parents 0) fun x202 =>
                      if x202 == 1 then
                        Option.bind (idxO r138.1 5) fun x208 =>
                        Option.bind (idxO x208.Parents 0) fun x219 =>
                        if x219 == 0 then
                          if x191.Purl then
                            Option.bind (K_raddleref27_SamePairs r143.1 [(3, 5), (4, 5)]) fun r234 =>
                            if r234 then
                              if r153.2.2 == 0 then
                                if r153.1 == 5 then
                                  if r153.2.1 == 13 then
                                    if r156.2.2 == 2 then
                                      if r159.2 == 2 then
                                        if r164.2 == 2 then
                                          if r173.2 == 26 then
                                            some (r178.2.2 == 2)
                                          else
                                            none
                                        else
                                          none
                                      else
                                        none
                                    else
                                      none
                                  else
                                    none
                                else
                                  none
                              else
                                none
                            else
                              none
                          else
                            none
                        else
                          none
                      else
                        none
                    else
                      none
                  else
                    none
                else
                  none
              else
                none
        | .inr z =>
          some z
theorem m_raddlelaw27_LoopsNames_l1 (r11 : ((List api_Loop) × Int)) : ∀ s, Le (K_raddlelaw27_LoopsNames_l1 r11 s) (raddlelaw27_LoopsNames_l1 r11 s) := by
  unfold K_raddlelaw27_LoopsNames_l1 raddlelaw27_LoopsNames_l1
  with_reducible repeat' (first | exact m_F_raddleref26_SameInts _ _ | exact Le.rfl _ | refine Le.loop _ ?_ | refine Le.bind ?_ ?_ | refine Le.ite ?_ ?_ | refine Le.sum ?_ ?_ | refine Le.prod ?_ | intro _ | exact Empty.elim (by assumption) | dsimp only)
theorem m_F_raddlelaw27_LoopsNames  : Le (K_raddlelaw27_LoopsNames) (F_raddlelaw27_LoopsNames) := by
  unfold K_raddlelaw27_LoopsNames F_raddlelaw27_LoopsNames
  with_reducible repeat' (first | exact m_F_raddlelaw27_one_s0 _ _ | exact m_F_loops_Of_s0 _ | exact m_raddlelaw27_LoopsNames_l1 _ | exact m_F_loops_Kids_s0 _ _ | exact m_F_loops_Crossings_s0 _ | exact m_F_loops_Row _ _ | exact m_F_raddlelaw27_alive | exact m_F_raddleref26_SameInts _ _ | exact m_F_raddleref27_SamePairs _ _ | exact Le.rfl _ | refine Le.loop _ ?_ | refine Le.bind ?_ ?_ | refine Le.ite ?_ ?_ | refine Le.sum ?_ ?_ | refine Le.prod ?_ | intro _ | exact Empty.elim (by assumption) | dsimp only)
set_option maxRecDepth 1000000 in
theorem k_raddlelaw27_LoopsNames : F_raddlelaw27_LoopsNames = some true := m_F_raddlelaw27_LoopsNames _ (by kernel_rfl)
theorem law_LoopsNames : F_raddlelaw27_LoopsNames = some true := k_raddlelaw27_LoopsNames
end Go.Proofs.Yticjoiolfibmlaa
namespace Go.Proofs.Yticjoiolfibmlaa
open Go.RowKit
set_option linter.unusedVariables false

namespace frameLoopsNames
open Go.ChangeShapes Go.WideShapes Go.ChangeAt Go.Joins
theorem own : ownKnob Try.prog.godebug = none := by kernel_rfl
theorem laidOut : laidOutB Try.prog = true := by kernel_rfl
set_option maxRecDepth 100000 in
theorem lifted (os : Os) (started : os.Started) (H : Type) (enc : TypeId × Value → H) :
    ReturnsInHanded {} Try.checked os 8 .any (Rows.loopsNamesSpec.pre6 enc Try.prog Try.f8 Rows.loopsNamesRow.domain false) (Rows.loopsNamesSpec.post enc Try.prog Try.f8 false true false false) := by
  refine returnsInHanded_of_change (C := Try.checked) own started (by kernel_rfl) Try.func8
    (ChangeSpec.witness6 (enc := enc) (C := Try.checked) false ⟨#[], #[], []⟩ 8 (by kernel_rfl) (by kernel_rfl) (by kernel_rfl) (by kernel_rfl)) ?_
  intro W base args ds gs before hval0 hW hcnd _
  have hval : ∀ (j : Nat) t v, Try.f8.params[j]? = some t → args[j]? = some v → Value.okWide Try.prog W .any base t v := hval0
  have hW' := hW
  obtain ⟨p, q, hA0, hV, rfl, hfz, hnd⟩ := hW
  have hA : DataW.TrodAll enc Try.prog W 0 (fun _ => true) true Try.f8.params.toList args.toList ds p := hA0
  rw [Try.params8] at hA hval
  obtain ⟨rfl, rfl, rfl⟩ := trodAll_none hA
  obtain ⟨rfl, rfl⟩ := trodVars_none hV
  clear hA0 hval0
  refine (c_raddlelaw27_LoopsNames (fun _ => False) W  true (law_LoopsNames  ) (St0.start (by intro d hd; cases hd))).mono fun e W' hr => ?_
  obtain ⟨_, he, hS⟩ := hr
  have bel := hS.chg.below
  subst he
  exact ⟨_, rfl, _, _, _, [], _, [], hW', trodAll_mk1 (shut_bool Try.underlying4 _), trodAll_mk0, rfl, bel.frame _, fun h => by cases h⟩
theorem over : Rows.loopsNamesRow.holds Try.pinned (OpenSpec.ofChange Rows.loopsNamesSpec) :=
  OpenClaim.holds_of_wide 8 Try.f8 rfl rfl rfl rfl rfl rfl rfl ⟨rfl, rfl, rfl, rfl, rfl⟩ rfl rfl rfl rfl rfl (by kernel_rfl) Try.func8 (by kernel_rfl)
    (of_decide_eq_true (by kernel_rfl)) (by unfold Func.isWrapper; first | (rw [if_pos (by decide +kernel)]; kernel_rfl) | (rw [if_neg (by decide +kernel)]; exact ⟨rfl, rfl⟩))
    (fun os started H enc _ => lifted os started H enc)
end frameLoopsNames
theorem loopsNames_holds : Rows.LoopsNamesSaid := frameLoopsNames.over

end Go.Proofs.Yticjoiolfibmlaa
