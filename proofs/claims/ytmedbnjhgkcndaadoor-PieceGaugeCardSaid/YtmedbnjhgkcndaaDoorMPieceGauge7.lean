/- Several texts in one: G8 LPG LPGv FrPieceGauge -/
import Derived.WalkKit
import Derived.Maps.AppendAt
import Derived.Deep.AppendLies
import Derived.KernelRfl
import Derived.Laws.OwnMore
import Derived.Great.BuildSlice
import Derived.Orders
import Derived.Laws.StructEq
import Derived.ChangeKeysEq
import Derived.Defers
import Derived.Laws.BytesString
import Derived.RangeFuncNested
import Derived.RangeFuncBound
import Derived.RangeFuncCalls
import Derived.RangeFuncLeaves
import Derived.OrdersIn
import Derived.LoopNIn
import Derived.Test.YtmedbnjhgkcndaaDoorProg
import Derived.ProofKit
import Derived.OpenShut
import Derived.ChangeOld
import Derived.Deep.Slices
import Derived.Lib.SmallJoins
import Derived.JoinedOf
import Derived.JoinedAt
import Derived.Below
import Derived.Shelf.Strings.Builder1
import Derived.Shelf.Strings.Builder2
import Derived.Shelf.Strings.OnBuilder
import Derived.Test.YtmedbnjhgkcndaaDoorRows
import Derived.LaidMore
import Derived.SevenTiedAt
import Derived.Test.YtmedbnjhgkcndaaDoorCards
import Derived.Test.YtmedbnjhgkcndaaDoorTie
import Derived.Test.YtmedbnjhgkcndaaDoorMPieceGauge6
namespace Go.Proofs.YtmedbnjhgkcndaaDoor
open Go.RowKit
set_option linter.unusedVariables false

def anc_raddlelaw37_PieceGauge_0 : List (List Nat) := [[], [0], [0, 1], [0, 1, 2], [0, 1, 2, 3], [0, 1, 2, 3, 4], [0, 1, 2, 3, 4, 5], [0, 1, 2, 3, 4, 5, 6], [0, 1, 2, 3, 4, 5, 6, 7], [0, 1, 2, 3, 4, 5, 6, 7, 8], [0, 1, 2, 3, 4, 5, 6, 7, 8, 9], [0, 1, 2, 3, 4, 5, 6, 7, 8, 9, 10], [0, 1, 2, 3, 4, 5, 6, 7, 8, 9, 10, 11], [0, 1, 2, 3, 4, 5, 6, 7, 8, 9, 10, 11, 12], [0, 1, 2, 3, 4, 5, 6, 7, 8, 9, 10, 11, 12, 13], [0, 1, 2, 3, 4, 5, 6, 7, 8, 9, 10, 11, 12, 13, 14], [0, 1, 2, 3, 4, 5, 6, 7, 8, 9, 10], [0, 1, 2, 3, 4, 5, 6, 7, 8, 9, 10, 16], [0, 1, 2, 3, 4, 5, 6, 7, 8, 9, 10, 16, 17], [0, 1, 2, 3, 4, 5, 6, 7, 8, 9, 10, 16, 17, 18], [0, 1, 2, 3, 4, 5, 6, 7, 8, 9, 10, 16, 17, 18, 19], [0, 1, 2, 3, 4, 5, 6, 7, 8, 9, 10, 11, 12, 13, 14, 15, 16, 17, 18, 19, 20], [0, 1, 2, 3, 4, 5, 6, 7, 8, 9, 10, 11, 12, 13, 14, 15, 16, 17, 18, 19, 20, 21], [0, 1, 2, 3, 4, 5, 6, 7, 8, 9, 10, 11, 12, 13, 14, 15, 16, 17, 18, 19, 20, 21, 22], [0, 1, 2, 3, 4, 5, 6, 7, 8, 9, 10, 11, 12, 13, 14, 15, 16, 17, 18, 19, 20, 21, 22, 23], [0, 1, 2, 3, 4, 5, 6, 7, 8, 9, 10, 11, 12, 13, 14, 15, 16, 17, 18, 19, 20, 21, 22, 23, 24], [0, 1, 2, 3, 4, 5, 6, 7, 8, 9, 10, 11, 12, 13, 14, 15, 16, 17, 18, 19, 20, 21, 22, 23, 24, 25], [0, 1, 2, 3, 4, 5, 6, 7, 8, 9, 10, 11, 12, 13, 14, 15, 16, 17, 18, 19, 20, 21, 22, 23, 24, 25, 26], [0, 1, 2, 3, 4, 5, 6, 7, 8, 9, 10, 11, 12, 13, 14, 15, 16, 17, 18, 19, 20, 21, 22, 23, 24, 25, 26, 27], [0, 1, 2, 3, 4, 5, 6, 7, 8, 9, 10, 11, 12, 13, 14, 15, 16, 17, 18, 19, 20, 21, 22, 23], [0, 1, 2, 3, 4, 5, 6, 7, 8, 9, 10, 11, 12, 13, 14, 15, 16, 17, 18, 19, 20, 21, 22, 23, 29], [0, 1, 2, 3, 4, 5, 6, 7, 8, 9, 10, 11, 12, 13, 14, 15, 16, 17, 18, 19, 20, 21, 22, 23, 29, 30], [0, 1, 2, 3, 4, 5, 6, 7, 8, 9, 10, 11, 12, 13, 14, 15, 16, 17, 18, 19, 20, 21, 22, 23, 29, 30, 31], [0, 1, 2, 3, 4, 5, 6, 7, 8, 9, 10, 11, 12, 13, 14, 15, 16, 17, 18, 19, 20, 21, 22, 23, 29, 30, 31, 32], [0, 1, 2, 3, 4, 5, 6, 7, 8, 9, 10, 11, 12, 13, 14, 15, 16, 17, 18, 19, 20, 21, 22, 23, 29, 30, 31, 32, 33], [0, 1, 2, 3, 4, 5, 6, 7, 8, 9, 10, 11, 12, 13, 14, 15, 16, 17, 18, 19, 20, 21, 22, 23, 24, 25, 26, 27, 28, 29, 30, 31, 32, 33, 34], [0, 1, 2, 3, 4, 5, 6, 7, 8, 9, 10, 11, 12, 13, 14, 15, 16, 17, 18, 19, 20, 21, 22, 23, 24, 25, 26, 27, 28, 29, 30, 31, 32, 33, 34, 35], [0, 1, 2, 3, 4, 5, 6, 7, 8, 9, 10, 11, 12, 13, 14, 15, 16, 17, 18, 19, 20, 21, 22, 23, 24, 25, 26, 27, 28, 29, 30, 31, 32, 33, 34, 35, 36], [0, 1, 2, 3, 4, 5, 6, 7, 8, 9, 10, 11, 12, 13, 14, 15, 16, 17, 18, 19, 20, 21, 22, 23, 24, 25, 26, 27, 28, 29, 30, 31, 32, 33, 34, 35, 36, 37], [0, 1, 2, 3, 4, 5, 6, 7, 8, 9, 10, 11, 12, 13, 14, 15, 16, 17, 18, 19, 20, 21, 22, 23, 24, 25, 26, 27, 28, 29, 30, 31, 32, 33, 34, 35, 36, 37, 38], [0, 1, 2, 3, 4, 5, 6, 7, 8, 9, 10, 11, 12, 13, 14, 15, 16, 17, 18, 19, 20, 21, 22, 23, 24, 25, 26, 27, 28, 29, 30, 31, 32, 33, 34, 35, 36, 37, 38, 39], [0, 1, 2, 3, 4, 5, 6, 7, 8, 9, 10, 11, 12, 13, 14, 15, 16, 17, 18, 19, 20, 21, 22, 23, 24, 25, 26, 27, 28, 29, 30, 31, 32, 33, 34, 35, 36, 37, 38, 39, 40], [0, 1, 2, 3, 4, 5, 6, 7, 8, 9, 10, 11, 12, 13, 14, 15, 16, 17, 18, 19, 20, 21, 22, 23, 24, 25, 26, 27, 28, 29, 30, 31, 32, 33, 34, 35, 36, 37, 38, 39, 40, 41], [0, 1, 2, 3, 4, 5, 6, 7, 8, 9, 10, 11, 12, 13, 14, 15, 16, 17, 18, 19, 20, 21, 22, 23, 24, 25, 26, 27, 28, 29, 30, 31, 32, 33, 34, 35, 36, 37], [0, 1, 2, 3, 4, 5, 6, 7, 8, 9, 10, 11, 12, 13, 14, 15, 16, 17, 18, 19, 20, 21, 22, 23, 24, 25, 26, 27, 28, 29, 30, 31, 32, 33, 34, 35, 36, 37, 43], [0, 1, 2, 3, 4, 5, 6, 7, 8, 9, 10, 11, 12, 13, 14, 15, 16, 17, 18, 19, 20, 21, 22, 23, 24, 25, 26, 27, 28, 29, 30, 31, 32, 33, 34, 35, 36, 37, 43, 44], [0, 1, 2, 3, 4, 5, 6, 7, 8, 9, 10, 11, 12, 13, 14, 15, 16, 17, 18, 19, 20, 21, 22, 23, 24, 25, 26, 27, 28, 29, 30, 31, 32, 33, 34, 35, 36, 37, 43, 44, 45], [0, 1, 2, 3, 4, 5, 6, 7, 8, 9, 10, 11, 12, 13, 14, 15, 16, 17, 18, 19, 20, 21, 22, 23, 24, 25, 26, 27, 28, 29, 30, 31, 32, 33, 34, 35, 36, 37, 43, 44, 45, 46], [0, 1, 2, 3, 4, 5, 6, 7, 8, 9, 10, 11, 12, 13, 14, 15, 16, 17, 18, 19, 20, 21, 22, 23, 24, 25, 26, 27, 28, 29, 30, 31, 32, 33, 34, 35, 36, 37, 38, 39, 40, 41, 42, 43, 44, 45, 46, 47], [0, 1, 2, 3, 4, 5, 6, 7, 8, 9, 10, 11, 12, 13, 14, 15, 16, 17, 18, 19, 20, 21, 22, 23, 24, 25, 26, 27, 28, 29, 30, 31, 32, 33, 34, 35, 36, 37, 38, 39, 40, 41, 42, 43, 44, 45, 46, 47, 48]]
def anc_raddlelaw37_PieceGauge_1 : List (List Nat) := [[], [0], [0, 1], [0, 1, 2], [0, 1, 2, 3], [], [5], [0, 1, 2, 3, 4, 5, 6], [], [], [9], [8, 9, 10], [0, 1, 2, 3, 4, 5, 6, 7, 8, 9, 10, 11], [0, 1, 2, 3, 4, 5, 6, 7, 8, 9, 10, 11, 12]]
noncomputable def F_raddlelaw37_PieceGauge (p0 : api_Gauge) (p1 : Int) (p2 : Int) : Option Bool :=
  Option.bind (F_raddlelaw37_alive) fun r4 =>
  Option.bind (α := Bool) (
    Option.bind (F_raddleref35_Check p0) fun r10 =>
    if r10 != 0 then
      some true
    else
      if decide (p1 < 1) then
        some true
      else
        if decide (10000 < p1) then
          some true
        else
          if decide (p2 < 1) then
            some true
          else
            if decide (10000 < p2) then
              some true
            else
              some (!r4)) fun o7 =>
  if o7 then
    some r4
  else
    Option.bind (F_piece_Measure p0 [(api_Point.mk (w64 (0 - p1)) 0), (api_Point.mk (w64 (0 - p1)) p2)] [(api_Point.mk p1 0), (api_Point.mk p1 p2)]) fun r24 =>
    if r24.2 != 0 then
      Option.bind (α := Bool) (
        if r4 then
          if r24.2 == 8 then
            some true
          else
            some (r24.2 == 16)
        else
          some false) fun o39 =>
      some o39
    else
      Option.bind (α := Bool) (
        if (r24.1.Left.length : Int) != 2 then
          some true
        else
          if (r24.1.Right.length : Int) != 2 then
            some true
          else
            Option.bind (idxO r24.1.Left 1) fun x50 =>
            Option.bind (idxO r24.1.Right 1) fun x57 =>
            if x50.Y != x57.Y then
              some true
            else
              if x50.X != (w64 (0 - x57.X)) then
                some true
              else
                Option.bind (idxO r24.1.Left 0) fun x106 =>
                some (x106.X != x50.X)) fun o45 =>
      if o45 then
        some false
      else
        Option.bind (idxO r24.1.Right 1) fun x151 =>
        Option.bind (α := Bool) (
          if r4 then
            if decide ((w64 (2 * (if (w64 ((w64 (x151.X * p0.Width)) - (w64 (p1 * p0.Stitches)))) < (w64 (0 - (w64 ((w64 (x151.X * p0.Width)) - (w64 (p1 * p0.Stitches)))))) then w64 (0 - (w64 ((w64 (x151.X * p0.Width)) - (w64 (p1 * p0.Stitches))))) else w64 ((w64 (x151.X * p0.Width)) - (w64 (p1 * p0.Stitches)))))) ≤ p0.Width) then
              some (decide ((w64 (2 * (if (w64 ((w64 (x151.Y * p0.Height)) - (w64 (p2 * p0.Rows)))) < (w64 (0 - (w64 ((w64 (x151.Y * p0.Height)) - (w64 (p2 * p0.Rows)))))) then w64 (0 - (w64 ((w64 (x151.Y * p0.Height)) - (w64 (p2 * p0.Rows))))) else w64 ((w64 (x151.Y * p0.Height)) - (w64 (p2 * p0.Rows)))))) ≤ p0.Height))
            else
              some false
          else
            some false) fun o174 =>
        some o174
set_option maxHeartbeats 4000000 in
set_option maxRecDepth 100000 in
theorem c_raddlelaw37_PieceGauge (E : Nat → Prop) (w0 : World) (p0 : api_Gauge) (v0 : Value) (p1 : Int) (p2 : Int) (r : Bool) (h : F_raddlelaw37_PieceGauge p0 p1 p2 = some r) (S : St0 E [] w0 w0 [] [fRep r_api_Gauge (v0) p0]) :
    Calls Tryd.prog 8 #[v0, iv p1, iv p2] w0 (Ret (X := Unit) E [] w0 (fun _ => .bool r) (fun _ => []) (fun _ => [])) := by
  unfold F_raddlelaw37_PieceGauge at h
  obtain rfl : v0 = .agg #[iv p0.Stitches, iv p0.Width, iv p0.Rows, iv p0.Height] := S.know (i := 0) (e := fRep r_api_Gauge (v0) p0) rfl
  refine sEnter (args := [.agg #[iv p0.Stitches, iv p0.Width, iv p0.Rows, iv p0.Height], iv p1, iv p2]) 164 Tryd.func8 rfl rfl (by simp) S (fun a S => ?_)
  refine sSeq (fun K1 hK1 => ?_)
  refine sRegion ?_
  refine sBox (v := .agg #[iv p0.Stitches, iv p0.Width, iv p0.Rows, iv p0.Height]) S (wN rfl) rfl rfl [iv p0.Stitches, iv p0.Width, iv p0.Rows, iv p0.Height] rfl rfl (lb rfl) fun a b2 w S => ?_
  refine sMove (.bool false) S (wN rfl) (.inr rfl) rfl rfl (lb rfl) fun a S => ?_
  refine leafL (leafT (hK1 _ _ ?_))
  refine sSeq (fun K3 hK3 => ?_)
  refine sRegion ?_
  obtain ⟨r4, hx5, h⟩ := bindSome h
  have S1 := S.mem
  refine sCallQ (X := Unit) (f := 9) (vs := []) (val := fun _ => .bool r4) S (wN rfl) rfl callee9 rfl (S1.quiet [] rfl) (fun E1 w1 S1 => c_raddlelaw37_alive E1 w1  r4 hx5 S1) rfl (lb rfl) fun _ a w S => ?_
  refine sMove (.bool r4) S (wN rfl) (.inr rfl) rfl rfl (lb rfl) fun a S => ?_
  refine leafL (leafT (hK3 _ _ ?_))
  refine sSeq (fun K6 hK6 => ?_)
  obtain ⟨t8, h, g9⟩ := bindSome h
  refine sCut (fun a w => ∃ o7, o7 = t8 ∧ St [] E [] w0 164 a w [(1, iv p1), (2, iv p2), (3, .pointer (some ⟨b2, 0, none⟩)), (7, .bool r4), (35, .bool o7)] [eBox b2 65 [iv p0.Stitches, iv p0.Width, iv p0.Rows, iv p0.Height]] []) ?_ (fun a w hI => ?_)
  · refine sRegion ?_
    refine sLoadN (p := b2) (off := 0) (T := 65) (vs := [iv p0.Stitches, iv p0.Width, iv p0.Rows, iv p0.Height]) 0 [iv p0.Stitches, iv p0.Width, iv p0.Rows, iv p0.Height] S (wN rfl) rfl rfl rfl rfl rfl rfl rfl (lb rfl) fun a S => ?_
    obtain ⟨r10, hx11, h⟩ := bindSome h
    have S1 := S.mem
    refine sCallQ (X := Unit) (f := 31) (vs := [.agg #[iv p0.Stitches, iv p0.Width, iv p0.Rows, iv p0.Height]]) (val := fun _ => iv r10) S (wN rfl) rfl callee31 rfl (S1.quiet [0] rfl) (fun E1 w1 S1 => c_raddleref35_Check E1 w1 p0 (.agg #[iv p0.Stitches, iv p0.Width, iv p0.Rows, iv p0.Height]) r10 hx11 S1) rfl (lb rfl) fun _ a w S => ?_
    refine sBin (.bool (r10 != 0)) S (wN rfl) rfl rfl rfl (bNe _ _ _ _ .i64 r10 0) rfl (lb rfl) fun a S => ?_
    refine sMove (.bool (r10 != 0)) S (wN rfl) (.inl rfl) rfl rfl (lb rfl) fun a S => ?_
    rcases iteSome h with ⟨hc12, h⟩ | ⟨hc12, h⟩
    · refine sSkip 3 false 16 17 S rfl rfl rfl hc12 rfl (lb rfl) fun a S => ?_
      refine sSkip 3 false 16 18 S rfl rfl rfl hc12 rfl (lb rfl) fun a S => ?_
      refine sPickT (.bool true) S (wN rfl) rfl rfl hc12 rfl rfl (lb rfl) fun a S => ?_
      refine sMove (.bool true) S (wN rfl) (.inl rfl) rfl rfl (lb rfl) fun a S => ?_
      refine sSkip 7 false 20 21 S rfl rfl rfl rfl rfl (lb rfl) fun a S => ?_
      refine sSkip 7 false 20 22 S rfl rfl rfl rfl rfl (lb rfl) fun a S => ?_
      refine sPickT (.bool true) S (wN rfl) rfl rfl rfl rfl rfl (lb rfl) fun a S => ?_
      refine sMove (.bool true) S (wN rfl) (.inl rfl) rfl rfl (lb rfl) fun a S => ?_
      refine sSkip 11 false 24 25 S rfl rfl rfl rfl rfl (lb rfl) fun a S => ?_
      refine sSkip 11 false 24 26 S rfl rfl rfl rfl rfl (lb rfl) fun a S => ?_
      refine sPickT (.bool true) S (wN rfl) rfl rfl rfl rfl rfl (lb rfl) fun a S => ?_
      refine sMove (.bool true) S (wN rfl) (.inl rfl) rfl rfl (lb rfl) fun a S => ?_
      refine sSkip 15 false 28 29 S rfl rfl rfl rfl rfl (lb rfl) fun a S => ?_
      refine sSkip 15 false 28 30 S rfl rfl rfl rfl rfl (lb rfl) fun a S => ?_
      refine sPickT (.bool true) S (wN rfl) rfl rfl rfl rfl rfl (lb rfl) fun a S => ?_
      refine sMove (.bool true) S (wN rfl) (.inl rfl) rfl rfl (lb rfl) fun a S => ?_
      refine sSkip 19 false 32 33 S rfl rfl rfl rfl rfl (lb rfl) fun a S => ?_
      refine sSkip 19 false 32 34 S rfl rfl rfl rfl rfl (lb rfl) fun a S => ?_
      refine sPickT (.bool true) S (wN rfl) rfl rfl rfl rfl rfl (lb rfl) fun a S => ?_
      exact leafL (leafT (⟨true, Option.some.inj h, S.fix [0] [] (by decide) rfl rfl rfl⟩))
    refine sMove (iv p1) S (wG 3 false 16 rfl rfl rfl hc12) (.inl rfl) rfl rfl (lb rfl) fun a S => ?_
    refine sBin (.bool (decide (p1 < 1))) S (wG 3 false 16 rfl rfl rfl hc12) rfl rfl rfl (bLt _ _ _ _ .i64 p1 1) rfl (lb rfl) fun a S => ?_
    refine sPickF (.bool (decide (p1 < 1))) S (wN rfl) rfl rfl hc12 rfl rfl (lb rfl) fun a S => ?_
    refine sMove (.bool (decide (p1 < 1))) S (wN rfl) (.inl rfl) rfl rfl (lb rfl) fun a S => ?_
    rcases iteSome h with ⟨hc13, h⟩ | ⟨hc13, h⟩
    · refine sSkip 7 false 20 21 S rfl rfl rfl hc13 rfl (lb rfl) fun a S => ?_
      refine sSkip 7 false 20 22 S rfl rfl rfl hc13 rfl (lb rfl) fun a S => ?_
      refine sPickT (.bool true) S (wN rfl) rfl rfl hc13 rfl rfl (lb rfl) fun a S => ?_
      refine sMove (.bool true) S (wN rfl) (.inl rfl) rfl rfl (lb rfl) fun a S => ?_
      refine sSkip 11 false 24 25 S rfl rfl rfl rfl rfl (lb rfl) fun a S => ?_
      refine sSkip 11 false 24 26 S rfl rfl rfl rfl rfl (lb rfl) fun a S => ?_
      refine sPickT (.bool true) S (wN rfl) rfl rfl rfl rfl rfl (lb rfl) fun a S => ?_
      refine sMove (.bool true) S (wN rfl) (.inl rfl) rfl rfl (lb rfl) fun a S => ?_
      refine sSkip 15 false 28 29 S rfl rfl rfl rfl rfl (lb rfl) fun a S => ?_
      refine sSkip 15 false 28 30 S rfl rfl rfl rfl rfl (lb rfl) fun a S => ?_
      refine sPickT (.bool true) S (wN rfl) rfl rfl rfl rfl rfl (lb rfl) fun a S => ?_
      refine sMove (.bool true) S (wN rfl) (.inl rfl) rfl rfl (lb rfl) fun a S => ?_
      refine sSkip 19 false 32 33 S rfl rfl rfl rfl rfl (lb rfl) fun a S => ?_
      refine sSkip 19 false 32 34 S rfl rfl rfl rfl rfl (lb rfl) fun a S => ?_
      refine sPickT (.bool true) S (wN rfl) rfl rfl rfl rfl rfl (lb rfl) fun a S => ?_
      exact leafL (leafT (⟨true, Option.some.inj h, S.fix [0] [] (by decide) rfl rfl rfl⟩))
    refine sMove (iv p1) S (wG 7 false 20 rfl rfl rfl hc13) (.inl rfl) rfl rfl (lb rfl) fun a S => ?_
    refine sBin (.bool (decide (10000 < p1))) S (wG 7 false 20 rfl rfl rfl hc13) rfl rfl rfl (bGt _ _ _ _ .i64 p1 10000) rfl (lb rfl) fun a S => ?_
    refine sPickF (.bool (decide (10000 < p1))) S (wN rfl) rfl rfl hc13 rfl rfl (lb rfl) fun a S => ?_
    refine sMove (.bool (decide (10000 < p1))) S (wN rfl) (.inl rfl) rfl rfl (lb rfl) fun a S => ?_
    rcases iteSome h with ⟨hc14, h⟩ | ⟨hc14, h⟩
    · refine sSkip 11 false 24 25 S rfl rfl rfl hc14 rfl (lb rfl) fun a S => ?_
      refine sSkip 11 false 24 26 S rfl rfl rfl hc14 rfl (lb rfl) fun a S => ?_
      refine sPickT (.bool true) S (wN rfl) rfl rfl hc14 rfl rfl (lb rfl) fun a S => ?_
      refine sMove (.bool true) S (wN rfl) (.inl rfl) rfl rfl (lb rfl) fun a S => ?_
      refine sSkip 15 false 28 29 S rfl rfl rfl rfl rfl (lb rfl) fun a S => ?_
      refine sSkip 15 false 28 30 S rfl rfl rfl rfl rfl (lb rfl) fun a S => ?_
      refine sPickT (.bool true) S (wN rfl) rfl rfl rfl rfl rfl (lb rfl) fun a S => ?_
      refine sMove (.bool true) S (wN rfl) (.inl rfl) rfl rfl (lb rfl) fun a S => ?_
      refine sSkip 19 false 32 33 S rfl rfl rfl rfl rfl (lb rfl) fun a S => ?_
      refine sSkip 19 false 32 34 S rfl rfl rfl rfl rfl (lb rfl) fun a S => ?_
      refine sPickT (.bool true) S (wN rfl) rfl rfl rfl rfl rfl (lb rfl) fun a S => ?_
      exact leafL (leafT (⟨true, Option.some.inj h, S.fix [0] [] (by decide) rfl rfl rfl⟩))
    refine sMove (iv p2) S (wG 11 false 24 rfl rfl rfl hc14) (.inl rfl) rfl rfl (lb rfl) fun a S => ?_
    refine sBin (.bool (decide (p2 < 1))) S (wG 11 false 24 rfl rfl rfl hc14) rfl rfl rfl (bLt _ _ _ _ .i64 p2 1) rfl (lb rfl) fun a S => ?_
    refine sPickF (.bool (decide (p2 < 1))) S (wN rfl) rfl rfl hc14 rfl rfl (lb rfl) fun a S => ?_
    refine sMove (.bool (decide (p2 < 1))) S (wN rfl) (.inl rfl) rfl rfl (lb rfl) fun a S => ?_
    rcases iteSome h with ⟨hc15, h⟩ | ⟨hc15, h⟩
    · refine sSkip 15 false 28 29 S rfl rfl rfl hc15 rfl (lb rfl) fun a S => ?_
      refine sSkip 15 false 28 30 S rfl rfl rfl hc15 rfl (lb rfl) fun a S => ?_
      refine sPickT (.bool true) S (wN rfl) rfl rfl hc15 rfl rfl (lb rfl) fun a S => ?_
      refine sMove (.bool true) S (wN rfl) (.inl rfl) rfl rfl (lb rfl) fun a S => ?_
      refine sSkip 19 false 32 33 S rfl rfl rfl rfl rfl (lb rfl) fun a S => ?_
      refine sSkip 19 false 32 34 S rfl rfl rfl rfl rfl (lb rfl) fun a S => ?_
      refine sPickT (.bool true) S (wN rfl) rfl rfl rfl rfl rfl (lb rfl) fun a S => ?_
      exact leafL (leafT (⟨true, Option.some.inj h, S.fix [0] [] (by decide) rfl rfl rfl⟩))
    refine sMove (iv p2) S (wG 15 false 28 rfl rfl rfl hc15) (.inl rfl) rfl rfl (lb rfl) fun a S => ?_
    refine sBin (.bool (decide (10000 < p2))) S (wG 15 false 28 rfl rfl rfl hc15) rfl rfl rfl (bGt _ _ _ _ .i64 p2 10000) rfl (lb rfl) fun a S => ?_
    refine sPickF (.bool (decide (10000 < p2))) S (wN rfl) rfl rfl hc15 rfl rfl (lb rfl) fun a S => ?_
    refine sMove (.bool (decide (10000 < p2))) S (wN rfl) (.inl rfl) rfl rfl (lb rfl) fun a S => ?_
    rcases iteSome h with ⟨hc16, h⟩ | ⟨hc16, h⟩
    · refine sSkip 19 false 32 33 S rfl rfl rfl hc16 rfl (lb rfl) fun a S => ?_
      refine sSkip 19 false 32 34 S rfl rfl rfl hc16 rfl (lb rfl) fun a S => ?_
      refine sPickT (.bool true) S (wN rfl) rfl rfl hc16 rfl rfl (lb rfl) fun a S => ?_
      exact leafL (leafT (⟨true, Option.some.inj h, S.fix [0] [] (by decide) rfl rfl rfl⟩))
    refine sMove (.bool r4) S (wG 19 false 32 rfl rfl rfl hc16) (.inl rfl) rfl rfl (lb rfl) fun a S => ?_
    refine sNot (b := r4) S (wG 19 false 32 rfl rfl rfl hc16) rfl rfl rfl (lb rfl) fun a S => ?_
    refine sPickF (.bool (!r4)) S (wN rfl) rfl rfl hc16 rfl rfl (lb rfl) fun a S => ?_
    exact leafL (leafT (⟨!r4, Option.some.inj h, S.fix [0] [] (by decide) rfl rfl rfl⟩))
  obtain ⟨o7, rfl, S⟩ := hI
  have h := g9
  clear g9
  try dsimp only at h
  rcases iteSome h with ⟨hc17, h⟩ | ⟨hc17, h⟩
  · refine sCondT S rfl hc17 ?_
    refine sSeq (fun K18 hK18 => ?_)
    refine sRegion ?_
    refine sMove (.bool r4) S (wN rfl) (.inl rfl) rfl rfl (lb rfl) fun a S => ?_
    refine sMove (.bool r4) S (wN rfl) (.inr rfl) rfl rfl (lb rfl) fun a S => ?_
    refine leafL (leafT (hK18 _ _ ?_))
    obtain rfl := Option.some.inj h
    exact wp_ret (rThen (sRet (.bool r4) S (rsl1 rfl (rvT (t := 6) (v := .bool r4) S rfl)) ⟨(), rfl, S.mem.sel [] [] (by decide) rfl rfl⟩))
  refine sCondF S rfl hc17 ?_
  refine wp_skip (leafT (hK6 _ _ ?_))
  refine sSeq (fun K19 hK19 => ?_)
  refine sRegion ?_
  refine sLoadN (p := b2) (off := 0) (T := 65) (vs := [iv p0.Stitches, iv p0.Width, iv p0.Rows, iv p0.Height]) 0 [iv p0.Stitches, iv p0.Width, iv p0.Rows, iv p0.Height] S (wN rfl) rfl rfl rfl rfl rfl rfl rfl (lb rfl) fun a S => ?_
  refine sMove (iv p1) S (wN rfl) (.inl rfl) rfl rfl (lb rfl) fun a S => ?_
  refine sNeg (b := p1) S (wN rfl) rfl rfl rfl (lb rfl) fun a S => ?_
  refine sBuild [(0, iv (w64 (0 - p1)))] [iv (w64 (0 - p1)), iv 0] S (wN rfl) rfl rfl rfl rfl (lb rfl) fun a S => ?_
  refine sMove (iv p1) S (wN rfl) (.inl rfl) rfl rfl (lb rfl) fun a S => ?_
  refine sNeg (b := p1) S (wN rfl) rfl rfl rfl (lb rfl) fun a S => ?_
  refine sMove (iv p2) S (wN rfl) (.inl rfl) rfl rfl (lb rfl) fun a S => ?_
  refine sBuild [(0, iv (w64 (0 - p1))), (1, iv p2)] [iv (w64 (0 - p1)), iv p2] S (wN rfl) rfl rfl rfl rfl (lb rfl) fun a S => ?_
  have S := S.learn (fRep r_api_Point (.agg #[iv (w64 (0 - p1)), iv 0]) (api_Point.mk (w64 (0 - p1)) 0)) rfl
  have S := S.learn (fRep r_api_Point (.agg #[iv (w64 (0 - p1)), iv p2]) (api_Point.mk (w64 (0 - p1)) p2)) rfl
  refine sLit (r := r_api_Point) (T := 35) (xs := [(api_Point.mk (w64 (0 - p1)) 0), (api_Point.mk (w64 (0 - p1)) p2)]) [(0, .agg #[iv (w64 (0 - p1)), iv 0]), (1, .agg #[iv (w64 (0 - p1)), iv p2])] 2 [.agg #[iv (w64 (0 - p1)), iv 0], .agg #[iv (w64 (0 - p1)), iv p2]] [iv (w64 (0 - p1)), iv 0, iv (w64 (0 - p1)), iv p2] (.agg #[iv 0, iv 0]) 16 S (wN rfl) rfl rfl Tryd.underlying22 rfl (by decide) (by decide) (by kernel_rfl) rfl (fun E1 w1 hE => All.cons (r_api_Point.mono hE (S.mem.know (i := 1) (e := fRep r_api_Point (.agg #[iv (w64 (0 - p1)), iv 0]) (api_Point.mk (w64 (0 - p1)) 0)) rfl)) (All.cons (r_api_Point.mono hE (S.mem.know (i := 0) (e := fRep r_api_Point (.agg #[iv (w64 (0 - p1)), iv p2]) (api_Point.mk (w64 (0 - p1)) p2)) rfl)) (All.nil _ _ _))) rfl rfl (lb rfl) fun a w ad20 cp21 S => ?_
  refine sMove (iv p1) S (wN rfl) (.inl rfl) rfl rfl (lb rfl) fun a S => ?_
  refine sBuild [(0, iv p1)] [iv p1, iv 0] S (wN rfl) rfl rfl rfl rfl (lb rfl) fun a S => ?_
  refine sMove (iv p1) S (wN rfl) (.inl rfl) rfl rfl (lb rfl) fun a S => ?_
  refine sMove (iv p2) S (wN rfl) (.inl rfl) rfl rfl (lb rfl) fun a S => ?_
  refine sBuild [(0, iv p1), (1, iv p2)] [iv p1, iv p2] S (wN rfl) rfl rfl rfl rfl (lb rfl) fun a S => ?_
  have S := S.learn (fRep r_api_Point (.agg #[iv p1, iv 0]) (api_Point.mk p1 0)) rfl
  have S := S.learn (fRep r_api_Point (.agg #[iv p1, iv p2]) (api_Point.mk p1 p2)) rfl
  refine sLit (r := r_api_Point) (T := 35) (xs := [(api_Point.mk p1 0), (api_Point.mk p1 p2)]) [(0, .agg #[iv p1, iv 0]), (1, .agg #[iv p1, iv p2])] 2 [.agg #[iv p1, iv 0], .agg #[iv p1, iv p2]] [iv p1, iv 0, iv p1, iv p2] (.agg #[iv 0, iv 0]) 16 S (wN rfl) rfl rfl Tryd.underlying22 rfl (by decide) (by decide) (by kernel_rfl) rfl (fun E1 w1 hE => All.cons (r_api_Point.mono hE (S.mem.know (i := 1) (e := fRep r_api_Point (.agg #[iv p1, iv 0]) (api_Point.mk p1 0)) rfl)) (All.cons (r_api_Point.mono hE (S.mem.know (i := 0) (e := fRep r_api_Point (.agg #[iv p1, iv p2]) (api_Point.mk p1 p2)) rfl)) (All.nil _ _ _))) rfl rfl (lb rfl) fun a w ad22 cp23 S => ?_
  obtain ⟨r24, hx25, h⟩ := bindSome h
  have S := S.learn (fRep r_api_Gauge (.agg #[iv p0.Stitches, iv p0.Width, iv p0.Rows, iv p0.Height]) p0) rfl
  have S := S.shutR (r := r_api_Point) (T := 35) (v := .slice ad20 [(api_Point.mk (w64 (0 - p1)) 0), (api_Point.mk (w64 (0 - p1)) p2)].length cp21) (xs := [(api_Point.mk (w64 (0 - p1)) 0), (api_Point.mk (w64 (0 - p1)) p2)]) 1 rfl
  have S := S.shutR (r := r_api_Point) (T := 35) (v := .slice ad22 [(api_Point.mk p1 0), (api_Point.mk p1 p2)].length cp23) (xs := [(api_Point.mk p1 0), (api_Point.mk p1 p2)]) 0 rfl
  refine sCall (X := Value) (f := 28) (vs := [.agg #[iv p0.Stitches, iv p0.Width, iv p0.Rows, iv p0.Height], .slice ad20 [(api_Point.mk (w64 (0 - p1)) 0), (api_Point.mk (w64 (0 - p1)) p2)].length cp21, .slice ad22 [(api_Point.mk p1 0), (api_Point.mk p1 p2)].length cp23]) (val := c_piece_Measure_val r24) (B' := fun _ => []) (D' := c_piece_Measure_D r24) [] [eBox b2 65 [iv p0.Stitches, iv p0.Width, iv p0.Rows, iv p0.Height]] [fRep r_api_Gauge (.agg #[iv p0.Stitches, iv p0.Width, iv p0.Rows, iv p0.Height]) p0, fRep (rL r_api_Point) (.slice ad20 [(api_Point.mk (w64 (0 - p1)) 0), (api_Point.mk (w64 (0 - p1)) p2)].length cp21) [(api_Point.mk (w64 (0 - p1)) 0), (api_Point.mk (w64 (0 - p1)) p2)], fRep (rL r_api_Point) (.slice ad22 [(api_Point.mk p1 0), (api_Point.mk p1 p2)].length cp23) [(api_Point.mk p1 0), (api_Point.mk p1 p2)]] [0] [2, 1, 0] S (wN rfl) rfl callee28 rfl (by decide) rfl rfl (fun E1 w1 S1 => c_piece_Measure E1 w1 p0 (.agg #[iv p0.Stitches, iv p0.Width, iv p0.Rows, iv p0.Height]) [(api_Point.mk (w64 (0 - p1)) 0), (api_Point.mk (w64 (0 - p1)) p2)] (.slice ad20 [(api_Point.mk (w64 (0 - p1)) 0), (api_Point.mk (w64 (0 - p1)) p2)].length cp21) [(api_Point.mk p1 0), (api_Point.mk p1 p2)] (.slice ad22 [(api_Point.mk p1 0), (api_Point.mk p1 p2)].length cp23) r24 hx25 S1) rfl (lb rfl) fun u26 a w S => ?_
  obtain ⟨u27, u28, rfl, hu29, hu30⟩ := S.mem.know (i := 0) (e := fRep r_api_Shape (u26) r24.1) rfl
  have S := S.learn (fRep (rL r_api_Point) u27 r24.1.Left) hu29
  obtain ⟨ad31, cp32, _, rfl, _⟩ := hu29
  have S := S.learn (fRep (rL r_api_Point) u28 r24.1.Right) hu30
  obtain ⟨ad33, cp34, _, rfl, _⟩ := hu30
  refine sMove (.tuple #[.agg #[.slice ad31 r24.1.Left.length cp32, .slice ad33 r24.1.Right.length cp34], iv r24.2]) S (wN rfl) (.inl rfl) rfl rfl (lb rfl) fun a S => ?_
  refine sExtract (vs := [.agg #[.slice ad31 r24.1.Left.length cp32, .slice ad33 r24.1.Right.length cp34], iv r24.2]) (.agg #[.slice ad31 r24.1.Left.length cp32, .slice ad33 r24.1.Right.length cp34]) S (wN rfl) rfl rfl rfl rfl (lb rfl) fun a S => ?_
  refine sExtract (vs := [.agg #[.slice ad31 r24.1.Left.length cp32, .slice ad33 r24.1.Right.length cp34], iv r24.2]) (iv r24.2) S (wN rfl) rfl rfl rfl rfl (lb rfl) fun a S => ?_
  refine sAlloc (.agg #[.slice none 0 0, .slice none 0 0]) S (wN rfl) rfl rfl [.slice none 0 0, .slice none 0 0] rfl rfl (lb rfl) fun a b35 w S => ?_
  refine sStore (p := b35) (off := 0) (T := 24) (vs := [.slice none 0 0, .slice none 0 0]) (v := .agg #[.slice ad31 r24.1.Left.length cp32, .slice ad33 r24.1.Right.length cp34]) 0 [.slice ad31 r24.1.Left.length cp32, .slice ad33 r24.1.Right.length cp34] S (wN rfl) rfl rfl rfl rfl rfl rfl rfl (by simp) rfl fun a w S => ?_
  refine sMove (iv r24.2) S (wN rfl) (.inr rfl) rfl rfl (lb rfl) fun a S => ?_
  refine leafL (leafT (hK19 _ _ ?_))
  refine sSeq (fun K36 hK36 => ?_)
  refine sSeq (fun K37 hK37 => ?_)
  refine sRegion ?_
  refine sMove (iv r24.2) S (wN rfl) (.inl rfl) rfl rfl (lb rfl) fun a S => ?_
  refine sBin (.bool (r24.2 != 0)) S (wN rfl) rfl rfl rfl (bNe _ _ _ _ .i64 r24.2 0) rfl (lb rfl) fun a S => ?_
  refine leafL (leafT (hK37 _ _ ?_))
  rcases iteSome h with ⟨hc38, h⟩ | ⟨hc38, h⟩
  · refine sCondT S rfl hc38 ?_
    obtain ⟨t40, h, g41⟩ := bindSome h
    refine sCut (fun a w => ∃ o39, o39 = t40 ∧ St [] E [] w0 164 a w [(6, .bool o39)] [] []) ?_ (fun a w hI => ?_)
    rotate_left
    · obtain ⟨o39, rfl, S⟩ := hI
      have h := g41
      clear g41
      try dsimp only at h
      obtain rfl := Option.some.inj h
      exact wp_ret (rThen (sRet (.bool o39) S (rsl1 rfl (rvT (t := 6) (v := .bool o39) S rfl)) ⟨(), rfl, S.mem.sel [] [] (by decide) rfl rfl⟩))
    refine sRegion ?_
    refine sMove (.bool r4) S (wN rfl) (.inl rfl) rfl rfl (lb rfl) fun a S => ?_
    refine sMove (.bool r4) S (wN rfl) (.inl rfl) rfl rfl (lb rfl) fun a S => ?_
    rcases iteSome h with ⟨hc42, h⟩ | ⟨hc42, h⟩
    rotate_left
    · refine sSkip 1 true 59 60 S rfl rfl rfl hc42 rfl (lb rfl) fun a S => ?_
      refine sSkip 1 true 59 61 S rfl rfl rfl hc42 rfl (lb rfl) fun a S => ?_
      refine sSkip 1 true 59 62 S rfl rfl rfl hc42 rfl (lb rfl) fun a S => ?_
      refine sSkipU 4 false 62 63 S rfl rfl rfl rfl (lb rfl) fun a S => ?_
      refine sSkipU 4 false 62 64 S rfl rfl rfl rfl (lb rfl) fun a S => ?_
      refine sSkip 1 true 59 65 S rfl rfl rfl hc42 rfl (lb rfl) fun a S => ?_
      refine sPickF (.bool false) S (wN rfl) rfl rfl hc42 rfl rfl (lb rfl) fun a S => ?_
      refine sMove (.bool false) S (wN rfl) (.inr rfl) rfl rfl (lb rfl) fun a S => ?_
      exact leafL (leafT (⟨false, Option.some.inj h, S.fix [] [] (by decide) rfl rfl rfl⟩))
    refine sMove (iv r24.2) S (wG 1 true 59 rfl rfl rfl hc42) (.inl rfl) rfl rfl (lb rfl) fun a S => ?_
    refine sBin (.bool (r24.2 == 8)) S (wG 1 true 59 rfl rfl rfl hc42) rfl rfl rfl (bEq _ _ _ _ .i64 r24.2 8) rfl (lb rfl) fun a S => ?_
    refine sMove (.bool (r24.2 == 8)) S (wG 1 true 59 rfl rfl rfl hc42) (.inl rfl) rfl rfl (lb rfl) fun a S => ?_
    rcases iteSome h with ⟨hc43, h⟩ | ⟨hc43, h⟩
    · refine sSkip 4 false 62 63 S rfl rfl rfl hc43 rfl (lb rfl) fun a S => ?_
      refine sSkip 4 false 62 64 S rfl rfl rfl hc43 rfl (lb rfl) fun a S => ?_
      refine sPickT (.bool true) S (wG 1 true 59 rfl rfl rfl hc42) rfl rfl hc43 rfl rfl (lb rfl) fun a S => ?_
      refine sPickT (.bool true) S (wN rfl) rfl rfl hc42 rfl rfl (lb rfl) fun a S => ?_
      refine sMove (.bool true) S (wN rfl) (.inr rfl) rfl rfl (lb rfl) fun a S => ?_
      exact leafL (leafT (⟨true, Option.some.inj h, S.fix [] [] (by decide) rfl rfl rfl⟩))
    refine sMove (iv r24.2) S (wG 4 false 62 rfl rfl rfl hc43) (.inl rfl) rfl rfl (lb rfl) fun a S => ?_
    refine sBin (.bool (r24.2 == 16)) S (wG 4 false 62 rfl rfl rfl hc43) rfl rfl rfl (bEq _ _ _ _ .i64 r24.2 16) rfl (lb rfl) fun a S => ?_
    refine sPickF (.bool (r24.2 == 16)) S (wG 1 true 59 rfl rfl rfl hc42) rfl rfl hc43 rfl rfl (lb rfl) fun a S => ?_
    refine sPickT (.bool (r24.2 == 16)) S (wN rfl) rfl rfl hc42 rfl rfl (lb rfl) fun a S => ?_
    refine sMove (.bool (r24.2 == 16)) S (wN rfl) (.inr rfl) rfl rfl (lb rfl) fun a S => ?_
    exact leafL (leafT (⟨r24.2 == 16, Option.some.inj h, S.fix [] [] (by decide) rfl rfl rfl⟩))
  refine sCondF S rfl hc38 ?_
  refine wp_skip (leafT (hK36 _ _ ?_))
  refine sSeq (fun K44 hK44 => ?_)
  obtain ⟨t46, h, g47⟩ := bindSome h
  refine sCut (fun a w => ∃ o45, o45 = t46 ∧ St [] E [] w0 164 a w [(1, iv p1), (2, iv p2), (3, .pointer (some ⟨b2, 0, none⟩)), (7, .bool r4), (8, .pointer (some ⟨b35, 0, none⟩)), (116, .bool o45)] [eBox b2 65 [iv p0.Stitches, iv p0.Width, iv p0.Rows, iv p0.Height], eBox b35 24 [.slice ad31 r24.1.Left.length cp32, .slice ad33 r24.1.Right.length cp34]] [fRep (rL r_api_Point) (.slice ad31 r24.1.Left.length cp32) r24.1.Left, fRep (rL r_api_Point) (.slice ad33 r24.1.Right.length cp34) r24.1.Right]) ?_ (fun a w hI => ?_)
  rotate_left
  · obtain ⟨o45, rfl, S⟩ := hI
    have h := g47
    clear g47
    try dsimp only at h
    rcases iteSome h with ⟨hc148, h⟩ | ⟨hc148, h⟩
    · refine sCondT S rfl hc148 ?_
      refine sSeq (fun K149 hK149 => ?_)
      refine sRegion ?_
      refine sMove (.bool false) S (wN rfl) (.inr rfl) rfl rfl (lb rfl) fun a S => ?_
      refine leafL (leafT (hK149 _ _ ?_))
      obtain rfl := Option.some.inj h
      exact wp_ret (rThen (sRet (.bool false) S (rsl1 rfl (rvT (t := 6) (v := .bool false) S rfl)) ⟨(), rfl, S.mem.sel [] [] (by decide) rfl rfl⟩))
    refine sCondF S rfl hc148 ?_
    refine wp_skip (leafT (hK44 _ _ ?_))
    refine sSeq (fun K150 hK150 => ?_)
    obtain ⟨x151, hx152, h⟩ := bindSome h
    obtain ⟨q158, hq159, S⟩ := pIdx (P := Tryd.prog) (r := r_api_Point) (v := .slice ad33 r24.1.Right.length cp34) (xs := r24.1.Right) (j := 1) 22 35 1 S Tryd.underlying22 rfl rfl hx152
    obtain ⟨q160, hq161, S⟩ := pFld (P := Tryd.prog) (r := r_api_Point) (s2 := (rI .i64)) (g := (·.X)) (q := q158) (z := x151) 35 0 0 0 S rfl rfl comp_api_Point_X
    obtain ⟨u162, S⟩ := pLoad (r := (rI .i64)) (q := q160) (x := x151.X) 0 S rfl
    obtain rfl : u162 = iv x151.X := S.mem.know (i := 1) (e := fRep (rI .i64) (u162) x151.X) rfl
    refine sDraw (nf := []) (W := [(0, 117, .pointer (some ⟨b35, 1, none⟩)), (1, 118, .slice ad33 r24.1.Right.length cp34), (2, 119, q158), (3, 120, q160), (4, 121, iv x151.X), (5, 122, .pointer (some ⟨b2, 1, none⟩)), (6, 123, iv p0.Width), (7, 124, iv (w64 (x151.X * p0.Width))), (8, 125, iv p1), (9, 126, .pointer (some ⟨b2, 0, none⟩)), (10, 127, iv p0.Stitches), (11, 128, iv (w64 (p1 * p0.Stitches))), (12, 129, iv (w64 ((w64 (x151.X * p0.Width)) - (w64 (p1 * p0.Stitches))))), (13, 10, iv (w64 ((w64 (x151.X * p0.Width)) - (w64 (p1 * p0.Stitches)))))]) rfl S ?_
    refine node_by (A := anc_raddlelaw37_PieceGauge_1) (nf := []) (Y := []) (W := [(0, 117, .pointer (some ⟨b35, 1, none⟩)), (1, 118, .slice ad33 r24.1.Right.length cp34), (2, 119, q158), (3, 120, q160), (4, 121, iv x151.X), (5, 122, .pointer (some ⟨b2, 1, none⟩)), (6, 123, iv p0.Width), (7, 124, iv (w64 (x151.X * p0.Width))), (8, 125, iv p1), (9, 126, .pointer (some ⟨b2, 0, none⟩)), (10, 127, iv p0.Stitches), (11, 128, iv (w64 (p1 * p0.Stitches))), (12, 129, iv (w64 ((w64 (x151.X * p0.Width)) - (w64 (p1 * p0.Stitches))))), (13, 10, iv (w64 ((w64 (x151.X * p0.Width)) - (w64 (p1 * p0.Stitches)))))]) 14 (by kernel_rfl) (by kernel_rfl) (by kernel_rfl) (by kernel_rfl) (by kernel_rfl) [0, 1, 2, 3, 4, 5, 6, 7, 8, 9, 10, 11, 12, 13] (by kernel_rfl) (by decide) (by decide) (aF 0 13 (by decide) ?_ (aF 1 12 (by decide) ?_ (aF 2 11 (by decide) ?_ (aF 3 10 (by decide) ?_ (aF 4 9 (by decide) ?_ (aF 5 8 (by decide) ?_ (aF 6 7 (by decide) ?_ (aF 7 6 (by decide) ?_ (aF 8 5 (by decide) ?_ (aF 9 4 (by decide) ?_ (aF 10 3 (by decide) ?_ (aF 11 2 (by decide) ?_ (aF 12 1 (by decide) ?_ (aF 13 0 (by decide) ?_ (trivial))))))))))))))) [(2, iv p2), (3, .pointer (some ⟨b2, 0, none⟩)), (7, .bool r4), (8, .pointer (some ⟨b35, 0, none⟩)), (10, iv (w64 ((w64 (x151.X * p0.Width)) - (w64 (p1 * p0.Stitches)))))] (fin_of [none, none, none, none, some 13] rfl (by kernel_rfl) (by kernel_rfl)) (fun _ a w S => ?_)
    · refine fI 117 (.pointer (some ⟨b35, 1, none⟩)) [(8, .pointer (some ⟨b35, 0, none⟩))] 0 [none] rfl rfl rfl rfl rfl rfl fun G a w S => ?_
      refine sField (b := b35) (off := 0) 1 1 S (wN rfl) rfl rfl rfl rfl rfl (lb rfl) fun a S => ?_
      exact leafL ⟨rfl, S⟩
    · refine fI 118 (.slice ad33 r24.1.Right.length cp34) [(117, .pointer (some ⟨b35, 1, none⟩))] 1 [some 0] rfl rfl rfl rfl rfl rfl fun G a w S => ?_
      refine sLoad1 (p := b35) (off := 1) (T := 24) (vs := [.slice ad31 r24.1.Left.length cp32, .slice ad33 r24.1.Right.length cp34]) 1 (.slice ad33 r24.1.Right.length cp34) S (wN rfl) rfl rfl rfl rfl rfl rfl (lb rfl) fun a S => ?_
      exact leafL ⟨rfl, S⟩
    · refine fI 119 q158 [(118, .slice ad33 r24.1.Right.length cp34)] 2 [some 1] rfl rfl rfl rfl rfl rfl fun G a w S => ?_
      refine sIdxV (v := .slice ad33 r24.1.Right.length cp34) (k := .i64) (j := 1) S (wN rfl) rfl rfl rfl hq159 rfl (lb rfl) fun a S => ?_
      exact leafL ⟨rfl, S⟩
    · refine fI 120 q160 [(119, q158)] 3 [some 2] rfl rfl rfl rfl rfl rfl fun G a w S => ?_
      refine sFldV (q := q158) S (wN rfl) rfl rfl hq161 rfl (lb rfl) fun a S => ?_
      exact leafL ⟨rfl, S⟩
    · refine fI 121 (iv x151.X) [(120, q160)] 4 [some 3] rfl rfl rfl rfl rfl rfl fun G a w S => ?_
      refine sLoadV1 (vq := q160) 0 (iv x151.X) S (wN rfl) rfl rfl rfl rfl rfl (lb rfl) fun a S => ?_
      exact leafL ⟨rfl, S⟩
    · refine fI 122 (.pointer (some ⟨b2, 1, none⟩)) [(3, .pointer (some ⟨b2, 0, none⟩))] 5 [none] rfl rfl rfl rfl rfl rfl fun G a w S => ?_
      refine sField (b := b2) (off := 0) 1 1 S (wN rfl) rfl rfl rfl rfl rfl (lb rfl) fun a S => ?_
      exact leafL ⟨rfl, S⟩
    · refine fI 123 (iv p0.Width) [(122, .pointer (some ⟨b2, 1, none⟩))] 6 [some 5] rfl rfl rfl rfl rfl rfl fun G a w S => ?_
      refine sLoad1 (p := b2) (off := 1) (T := 65) (vs := [iv p0.Stitches, iv p0.Width, iv p0.Rows, iv p0.Height]) 0 (iv p0.Width) S (wN rfl) rfl rfl rfl rfl rfl rfl (lb rfl) fun a S => ?_
      exact leafL ⟨rfl, S⟩
    · refine fI 124 (iv (w64 (x151.X * p0.Width))) [(121, iv x151.X), (123, iv p0.Width)] 7 [some 4, some 6] rfl rfl rfl rfl rfl rfl fun G a w S => ?_
      refine sBin (iv (w64 (x151.X * p0.Width))) S (wN rfl) rfl rfl rfl (bMul _ _ _ _ x151.X p0.Width) rfl (lb rfl) fun a S => ?_
      exact leafL ⟨rfl, S⟩
    · refine fI 125 (iv p1) [(1, iv p1)] 8 [none] rfl rfl rfl rfl rfl rfl fun G a w S => ?_
      refine sMove (iv p1) S (wN rfl) (.inl rfl) rfl rfl (lb rfl) fun a S => ?_
      exact leafL ⟨rfl, S⟩
    · refine fI 126 (.pointer (some ⟨b2, 0, none⟩)) [(3, .pointer (some ⟨b2, 0, none⟩))] 9 [none] rfl rfl rfl rfl rfl rfl fun G a w S => ?_
      refine sField (b := b2) (off := 0) 0 0 S (wN rfl) rfl rfl rfl rfl rfl (lb rfl) fun a S => ?_
      exact leafL ⟨rfl, S⟩
    · refine fI 127 (iv p0.Stitches) [(126, .pointer (some ⟨b2, 0, none⟩))] 10 [some 9] rfl rfl rfl rfl rfl rfl fun G a w S => ?_
      refine sLoad1 (p := b2) (off := 0) (T := 65) (vs := [iv p0.Stitches, iv p0.Width, iv p0.Rows, iv p0.Height]) 0 (iv p0.Stitches) S (wN rfl) rfl rfl rfl rfl rfl rfl (lb rfl) fun a S => ?_
      exact leafL ⟨rfl, S⟩
    · refine fI 128 (iv (w64 (p1 * p0.Stitches))) [(125, iv p1), (127, iv p0.Stitches)] 11 [some 8, some 10] rfl rfl rfl rfl rfl rfl fun G a w S => ?_
      refine sBin (iv (w64 (p1 * p0.Stitches))) S (wN rfl) rfl rfl rfl (bMul _ _ _ _ p1 p0.Stitches) rfl (lb rfl) fun a S => ?_
      exact leafL ⟨rfl, S⟩
    · refine fI 129 (iv (w64 ((w64 (x151.X * p0.Width)) - (w64 (p1 * p0.Stitches))))) [(124, iv (w64 (x151.X * p0.Width))), (128, iv (w64 (p1 * p0.Stitches)))] 12 [some 7, some 11] rfl rfl rfl rfl rfl rfl fun G a w S => ?_
      refine sBin (iv (w64 ((w64 (x151.X * p0.Width)) - (w64 (p1 * p0.Stitches))))) S (wN rfl) rfl rfl rfl (bSub _ _ _ _ (w64 (x151.X * p0.Width)) (w64 (p1 * p0.Stitches))) rfl (lb rfl) fun a S => ?_
      exact leafL ⟨rfl, S⟩
    · refine fI 10 (iv (w64 ((w64 (x151.X * p0.Width)) - (w64 (p1 * p0.Stitches))))) [(129, iv (w64 ((w64 (x151.X * p0.Width)) - (w64 (p1 * p0.Stitches)))))] 13 [some 12] rfl rfl rfl rfl rfl rfl fun G a w S => ?_
      refine sMove (iv (w64 ((w64 (x151.X * p0.Width)) - (w64 (p1 * p0.Stitches))))) S (wN rfl) (.inr rfl) rfl rfl (lb rfl) fun a S => ?_
      exact leafL ⟨rfl, S⟩
    refine leafT (hK150 _ _ ?_)
    refine sSeq (fun K163 hK163 => ?_)
    obtain ⟨q169, hq170, S⟩ := pIdx (P := Tryd.prog) (r := r_api_Point) (v := .slice ad33 r24.1.Right.length cp34) (xs := r24.1.Right) (j := 1) 22 35 5 S Tryd.underlying22 rfl rfl hx152
    obtain ⟨q171, hq172, S⟩ := pFld (P := Tryd.prog) (r := r_api_Point) (s2 := (rI .i64)) (g := (·.Y)) (q := q169) (z := x151) 35 1 0 1 S rfl rfl comp_api_Point_Y
    obtain ⟨u173, S⟩ := pLoad (r := (rI .i64)) (q := q171) (x := x151.Y) 0 S rfl
    obtain rfl : u173 = iv x151.Y := S.mem.know (i := 1) (e := fRep (rI .i64) (u173) x151.Y) rfl
    refine sDraw (nf := []) (W := [(0, 130, .pointer (some ⟨b35, 1, none⟩)), (1, 131, .slice ad33 r24.1.Right.length cp34), (2, 132, q169), (3, 133, q171), (4, 134, iv x151.Y), (5, 135, .pointer (some ⟨b2, 3, none⟩)), (6, 136, iv p0.Height), (7, 137, iv (w64 (x151.Y * p0.Height))), (8, 138, iv p2), (9, 139, .pointer (some ⟨b2, 2, none⟩)), (10, 140, iv p0.Rows), (11, 141, iv (w64 (p2 * p0.Rows))), (12, 142, iv (w64 ((w64 (x151.Y * p0.Height)) - (w64 (p2 * p0.Rows))))), (13, 11, iv (w64 ((w64 (x151.Y * p0.Height)) - (w64 (p2 * p0.Rows)))))]) rfl S ?_
    refine node_by (A := anc_raddlelaw37_PieceGauge_1) (nf := []) (Y := []) (W := [(0, 130, .pointer (some ⟨b35, 1, none⟩)), (1, 131, .slice ad33 r24.1.Right.length cp34), (2, 132, q169), (3, 133, q171), (4, 134, iv x151.Y), (5, 135, .pointer (some ⟨b2, 3, none⟩)), (6, 136, iv p0.Height), (7, 137, iv (w64 (x151.Y * p0.Height))), (8, 138, iv p2), (9, 139, .pointer (some ⟨b2, 2, none⟩)), (10, 140, iv p0.Rows), (11, 141, iv (w64 (p2 * p0.Rows))), (12, 142, iv (w64 ((w64 (x151.Y * p0.Height)) - (w64 (p2 * p0.Rows))))), (13, 11, iv (w64 ((w64 (x151.Y * p0.Height)) - (w64 (p2 * p0.Rows)))))]) 14 (by kernel_rfl) (by kernel_rfl) (by kernel_rfl) (by kernel_rfl) (by kernel_rfl) [0, 1, 2, 3, 4, 5, 6, 7, 8, 9, 10, 11, 12, 13] (by kernel_rfl) (by decide) (by decide) (aF 0 13 (by decide) ?_ (aF 1 12 (by decide) ?_ (aF 2 11 (by decide) ?_ (aF 3 10 (by decide) ?_ (aF 4 9 (by decide) ?_ (aF 5 8 (by decide) ?_ (aF 6 7 (by decide) ?_ (aF 7 6 (by decide) ?_ (aF 8 5 (by decide) ?_ (aF 9 4 (by decide) ?_ (aF 10 3 (by decide) ?_ (aF 11 2 (by decide) ?_ (aF 12 1 (by decide) ?_ (aF 13 0 (by decide) ?_ (trivial))))))))))))))) [(3, .pointer (some ⟨b2, 0, none⟩)), (7, .bool r4), (10, iv (w64 ((w64 (x151.X * p0.Width)) - (w64 (p1 * p0.Stitches))))), (11, iv (w64 ((w64 (x151.Y * p0.Height)) - (w64 (p2 * p0.Rows)))))] (fin_of [none, none, none, some 13] rfl (by kernel_rfl) (by kernel_rfl)) (fun _ a w S => ?_)
    · refine fI 130 (.pointer (some ⟨b35, 1, none⟩)) [(8, .pointer (some ⟨b35, 0, none⟩))] 0 [none] rfl rfl rfl rfl rfl rfl fun G a w S => ?_
      refine sField (b := b35) (off := 0) 1 1 S (wN rfl) rfl rfl rfl rfl rfl (lb rfl) fun a S => ?_
      exact leafL ⟨rfl, S⟩
    · refine fI 131 (.slice ad33 r24.1.Right.length cp34) [(130, .pointer (some ⟨b35, 1, none⟩))] 1 [some 0] rfl rfl rfl rfl rfl rfl fun G a w S => ?_
      refine sLoad1 (p := b35) (off := 1) (T := 24) (vs := [.slice ad31 r24.1.Left.length cp32, .slice ad33 r24.1.Right.length cp34]) 1 (.slice ad33 r24.1.Right.length cp34) S (wN rfl) rfl rfl rfl rfl rfl rfl (lb rfl) fun a S => ?_
      exact leafL ⟨rfl, S⟩
    · refine fI 132 q169 [(131, .slice ad33 r24.1.Right.length cp34)] 2 [some 1] rfl rfl rfl rfl rfl rfl fun G a w S => ?_
      refine sIdxV (v := .slice ad33 r24.1.Right.length cp34) (k := .i64) (j := 1) S (wN rfl) rfl rfl rfl hq170 rfl (lb rfl) fun a S => ?_
      exact leafL ⟨rfl, S⟩
    · refine fI 133 q171 [(132, q169)] 3 [some 2] rfl rfl rfl rfl rfl rfl fun G a w S => ?_
      refine sFldV (q := q169) S (wN rfl) rfl rfl hq172 rfl (lb rfl) fun a S => ?_
      exact leafL ⟨rfl, S⟩
    · refine fI 134 (iv x151.Y) [(133, q171)] 4 [some 3] rfl rfl rfl rfl rfl rfl fun G a w S => ?_
      refine sLoadV1 (vq := q171) 0 (iv x151.Y) S (wN rfl) rfl rfl rfl rfl rfl (lb rfl) fun a S => ?_
      exact leafL ⟨rfl, S⟩
    · refine fI 135 (.pointer (some ⟨b2, 3, none⟩)) [(3, .pointer (some ⟨b2, 0, none⟩))] 5 [none] rfl rfl rfl rfl rfl rfl fun G a w S => ?_
      refine sField (b := b2) (off := 0) 3 3 S (wN rfl) rfl rfl rfl rfl rfl (lb rfl) fun a S => ?_
      exact leafL ⟨rfl, S⟩
    · refine fI 136 (iv p0.Height) [(135, .pointer (some ⟨b2, 3, none⟩))] 6 [some 5] rfl rfl rfl rfl rfl rfl fun G a w S => ?_
      refine sLoad1 (p := b2) (off := 3) (T := 65) (vs := [iv p0.Stitches, iv p0.Width, iv p0.Rows, iv p0.Height]) 0 (iv p0.Height) S (wN rfl) rfl rfl rfl rfl rfl rfl (lb rfl) fun a S => ?_
      exact leafL ⟨rfl, S⟩
    · refine fI 137 (iv (w64 (x151.Y * p0.Height))) [(134, iv x151.Y), (136, iv p0.Height)] 7 [some 4, some 6] rfl rfl rfl rfl rfl rfl fun G a w S => ?_
      refine sBin (iv (w64 (x151.Y * p0.Height))) S (wN rfl) rfl rfl rfl (bMul _ _ _ _ x151.Y p0.Height) rfl (lb rfl) fun a S => ?_
      exact leafL ⟨rfl, S⟩
    · refine fI 138 (iv p2) [(2, iv p2)] 8 [none] rfl rfl rfl rfl rfl rfl fun G a w S => ?_
      refine sMove (iv p2) S (wN rfl) (.inl rfl) rfl rfl (lb rfl) fun a S => ?_
      exact leafL ⟨rfl, S⟩
    · refine fI 139 (.pointer (some ⟨b2, 2, none⟩)) [(3, .pointer (some ⟨b2, 0, none⟩))] 9 [none] rfl rfl rfl rfl rfl rfl fun G a w S => ?_
      refine sField (b := b2) (off := 0) 2 2 S (wN rfl) rfl rfl rfl rfl rfl (lb rfl) fun a S => ?_
      exact leafL ⟨rfl, S⟩
    · refine fI 140 (iv p0.Rows) [(139, .pointer (some ⟨b2, 2, none⟩))] 10 [some 9] rfl rfl rfl rfl rfl rfl fun G a w S => ?_
      refine sLoad1 (p := b2) (off := 2) (T := 65) (vs := [iv p0.Stitches, iv p0.Width, iv p0.Rows, iv p0.Height]) 0 (iv p0.Rows) S (wN rfl) rfl rfl rfl rfl rfl rfl (lb rfl) fun a S => ?_
      exact leafL ⟨rfl, S⟩
    · refine fI 141 (iv (w64 (p2 * p0.Rows))) [(138, iv p2), (140, iv p0.Rows)] 11 [some 8, some 10] rfl rfl rfl rfl rfl rfl fun G a w S => ?_
      refine sBin (iv (w64 (p2 * p0.Rows))) S (wN rfl) rfl rfl rfl (bMul _ _ _ _ p2 p0.Rows) rfl (lb rfl) fun a S => ?_
      exact leafL ⟨rfl, S⟩
    · refine fI 142 (iv (w64 ((w64 (x151.Y * p0.Height)) - (w64 (p2 * p0.Rows))))) [(137, iv (w64 (x151.Y * p0.Height))), (141, iv (w64 (p2 * p0.Rows)))] 12 [some 7, some 11] rfl rfl rfl rfl rfl rfl fun G a w S => ?_
      refine sBin (iv (w64 ((w64 (x151.Y * p0.Height)) - (w64 (p2 * p0.Rows))))) S (wN rfl) rfl rfl rfl (bSub _ _ _ _ (w64 (x151.Y * p0.Height)) (w64 (p2 * p0.Rows))) rfl (lb rfl) fun a S => ?_
      exact leafL ⟨rfl, S⟩
    · refine fI 11 (iv (w64 ((w64 (x151.Y * p0.Height)) - (w64 (p2 * p0.Rows))))) [(142, iv (w64 ((w64 (x151.Y * p0.Height)) - (w64 (p2 * p0.Rows)))))] 13 [some 12] rfl rfl rfl rfl rfl rfl fun G a w S => ?_
      refine sMove (iv (w64 ((w64 (x151.Y * p0.Height)) - (w64 (p2 * p0.Rows))))) S (wN rfl) (.inr rfl) rfl rfl (lb rfl) fun a S => ?_
      exact leafL ⟨rfl, S⟩
    refine leafT (hK163 _ _ ?_)
    obtain ⟨t175, h, g176⟩ := bindSome h
    refine sCut (fun a w => ∃ o174, o174 = t175 ∧ St [] E [] w0 164 a w [(6, .bool o174)] [] []) ?_ (fun a w hI => ?_)
    rotate_left
    · obtain ⟨o174, rfl, S⟩ := hI
      have h := g176
      clear g176
      try dsimp only at h
      obtain rfl := Option.some.inj h
      exact wp_ret (sRet (.bool o174) S (rsl1 rfl (rvT (t := 6) (v := .bool o174) S rfl)) ⟨(), rfl, S.mem.sel [] [] (by decide) rfl rfl⟩)
    refine sRegion ?_
    refine sMove (.bool r4) S (wN rfl) (.inl rfl) rfl rfl (lb rfl) fun a S => ?_
    refine sMove (.bool r4) S (wN rfl) (.inl rfl) rfl rfl (lb rfl) fun a S => ?_
    rcases iteSome h with ⟨hc177, h⟩ | ⟨hc177, h⟩
    rotate_left
    · refine sSkip 1 true 144 145 S rfl rfl rfl hc177 rfl (lb rfl) fun a S => ?_
      refine sSkip 1 true 144 146 S rfl rfl rfl hc177 rfl (lb rfl) fun a S => ?_
      refine sSkip 1 true 144 147 S rfl rfl rfl hc177 rfl (lb rfl) fun a S => ?_
      refine sSkip 1 true 144 148 S rfl rfl rfl hc177 rfl (lb rfl) fun a S => ?_
      refine sSkip 1 true 144 149 S rfl rfl rfl hc177 rfl (lb rfl) fun a S => ?_
      refine sSkip 1 true 144 150 S rfl rfl rfl hc177 rfl (lb rfl) fun a S => ?_
      refine sSkip 1 true 144 151 S rfl rfl rfl hc177 rfl (lb rfl) fun a S => ?_
      refine sSkip 1 true 144 152 S rfl rfl rfl hc177 rfl (lb rfl) fun a S => ?_
      refine sPickF (.bool false) S (wN rfl) rfl rfl hc177 rfl rfl (lb rfl) fun a S => ?_
      refine sMove (.bool false) S (wN rfl) (.inl rfl) rfl rfl (lb rfl) fun a S => ?_
      refine sSkip 11 true 154 155 S rfl rfl rfl rfl rfl (lb rfl) fun a S => ?_
      refine sSkip 11 true 154 156 S rfl rfl rfl rfl rfl (lb rfl) fun a S => ?_
      refine sSkip 11 true 154 157 S rfl rfl rfl rfl rfl (lb rfl) fun a S => ?_
      refine sSkip 11 true 154 158 S rfl rfl rfl rfl rfl (lb rfl) fun a S => ?_
      refine sSkip 11 true 154 159 S rfl rfl rfl rfl rfl (lb rfl) fun a S => ?_
      refine sSkip 11 true 154 160 S rfl rfl rfl rfl rfl (lb rfl) fun a S => ?_
      refine sSkip 11 true 154 161 S rfl rfl rfl rfl rfl (lb rfl) fun a S => ?_
      refine sSkip 11 true 154 162 S rfl rfl rfl rfl rfl (lb rfl) fun a S => ?_
      refine sPickF (.bool false) S (wN rfl) rfl rfl rfl rfl rfl (lb rfl) fun a S => ?_
      refine sMove (.bool false) S (wN rfl) (.inr rfl) rfl rfl (lb rfl) fun a S => ?_
      exact leafL (leafT (⟨false, Option.some.inj h, S.fix [] [] (by decide) rfl rfl rfl⟩))
    refine sMove (iv (w64 ((w64 (x151.X * p0.Width)) - (w64 (p1 * p0.Stitches))))) S (wG 1 true 144 rfl rfl rfl hc177) (.inl rfl) rfl rfl (lb rfl) fun a S => ?_
    refine sMove (iv (w64 ((w64 (x151.X * p0.Width)) - (w64 (p1 * p0.Stitches))))) S (wG 1 true 144 rfl rfl rfl hc177) (.inl rfl) rfl rfl (lb rfl) fun a S => ?_
    refine sNeg (b := w64 ((w64 (x151.X * p0.Width)) - (w64 (p1 * p0.Stitches)))) S (wG 1 true 144 rfl rfl rfl hc177) rfl rfl rfl (lb rfl) fun a S => ?_
    refine sMax2 (p := w64 ((w64 (x151.X * p0.Width)) - (w64 (p1 * p0.Stitches)))) (q := w64 (0 - (w64 ((w64 (x151.X * p0.Width)) - (w64 (p1 * p0.Stitches)))))) S (wG 1 true 144 rfl rfl rfl hc177) rfl rfl rfl rfl (lb rfl) fun a S => ?_
    refine sBin (iv (w64 (2 * (if (w64 ((w64 (x151.X * p0.Width)) - (w64 (p1 * p0.Stitches)))) < (w64 (0 - (w64 ((w64 (x151.X * p0.Width)) - (w64 (p1 * p0.Stitches)))))) then w64 (0 - (w64 ((w64 (x151.X * p0.Width)) - (w64 (p1 * p0.Stitches))))) else w64 ((w64 (x151.X * p0.Width)) - (w64 (p1 * p0.Stitches))))))) S (wG 1 true 144 rfl rfl rfl hc177) rfl rfl rfl (bMul _ _ _ _ 2 (if (w64 ((w64 (x151.X * p0.Width)) - (w64 (p1 * p0.Stitches)))) < (w64 (0 - (w64 ((w64 (x151.X * p0.Width)) - (w64 (p1 * p0.Stitches)))))) then w64 (0 - (w64 ((w64 (x151.X * p0.Width)) - (w64 (p1 * p0.Stitches))))) else w64 ((w64 (x151.X * p0.Width)) - (w64 (p1 * p0.Stitches))))) rfl (lb rfl) fun a S => ?_
    refine sField (b := b2) (off := 0) 1 1 S (wG 1 true 144 rfl rfl rfl hc177) rfl rfl rfl rfl rfl (lb rfl) fun a S => ?_
    refine sLoad1 (p := b2) (off := 1) (T := 65) (vs := [iv p0.Stitches, iv p0.Width, iv p0.Rows, iv p0.Height]) 0 (iv p0.Width) S (wG 1 true 144 rfl rfl rfl hc177) rfl rfl rfl rfl rfl rfl (lb rfl) fun a S => ?_
    refine sBin (.bool (decide ((w64 (2 * (if (w64 ((w64 (x151.X * p0.Width)) - (w64 (p1 * p0.Stitches)))) < (w64 (0 - (w64 ((w64 (x151.X * p0.Width)) - (w64 (p1 * p0.Stitches)))))) then w64 (0 - (w64 ((w64 (x151.X * p0.Width)) - (w64 (p1 * p0.Stitches))))) else w64 ((w64 (x151.X * p0.Width)) - (w64 (p1 * p0.Stitches)))))) ≤ p0.Width))) S (wG 1 true 144 rfl rfl rfl hc177) rfl rfl rfl (bLe _ _ _ _ .i64 (w64 (2 * (if (w64 ((w64 (x151.X * p0.Width)) - (w64 (p1 * p0.Stitches)))) < (w64 (0 - (w64 ((w64 (x151.X * p0.Width)) - (w64 (p1 * p0.Stitches)))))) then w64 (0 - (w64 ((w64 (x151.X * p0.Width)) - (w64 (p1 * p0.Stitches))))) else w64 ((w64 (x151.X * p0.Width)) - (w64 (p1 * p0.Stitches)))))) p0.Width) rfl (lb rfl) fun a S => ?_
    refine sPickT (.bool (decide ((w64 (2 * (if (w64 ((w64 (x151.X * p0.Width)) - (w64 (p1 * p0.Stitches)))) < (w64 (0 - (w64 ((w64 (x151.X * p0.Width)) - (w64 (p1 * p0.Stitches)))))) then w64 (0 - (w64 ((w64 (x151.X * p0.Width)) - (w64 (p1 * p0.Stitches))))) else w64 ((w64 (x151.X * p0.Width)) - (w64 (p1 * p0.Stitches)))))) ≤ p0.Width))) S (wN rfl) rfl rfl hc177 rfl rfl (lb rfl) fun a S => ?_
    refine sMove (.bool (decide ((w64 (2 * (if (w64 ((w64 (x151.X * p0.Width)) - (w64 (p1 * p0.Stitches)))) < (w64 (0 - (w64 ((w64 (x151.X * p0.Width)) - (w64 (p1 * p0.Stitches)))))) then w64 (0 - (w64 ((w64 (x151.X * p0.Width)) - (w64 (p1 * p0.Stitches))))) else w64 ((w64 (x151.X * p0.Width)) - (w64 (p1 * p0.Stitches)))))) ≤ p0.Width))) S (wN rfl) (.inl rfl) rfl rfl (lb rfl) fun a S => ?_
    rcases iteSome h with ⟨hc178, h⟩ | ⟨hc178, h⟩
    rotate_left
    · refine sSkip 11 true 154 155 S rfl rfl rfl hc178 rfl (lb rfl) fun a S => ?_
      refine sSkip 11 true 154 156 S rfl rfl rfl hc178 rfl (lb rfl) fun a S => ?_
      refine sSkip 11 true 154 157 S rfl rfl rfl hc178 rfl (lb rfl) fun a S => ?_
      refine sSkip 11 true 154 158 S rfl rfl rfl hc178 rfl (lb rfl) fun a S => ?_
      refine sSkip 11 true 154 159 S rfl rfl rfl hc178 rfl (lb rfl) fun a S => ?_
      refine sSkip 11 true 154 160 S rfl rfl rfl hc178 rfl (lb rfl) fun a S => ?_
      refine sSkip 11 true 154 161 S rfl rfl rfl hc178 rfl (lb rfl) fun a S => ?_
      refine sSkip 11 true 154 162 S rfl rfl rfl hc178 rfl (lb rfl) fun a S => ?_
      refine sPickF (.bool false) S (wN rfl) rfl rfl hc178 rfl rfl (lb rfl) fun a S => ?_
      refine sMove (.bool false) S (wN rfl) (.inr rfl) rfl rfl (lb rfl) fun a S => ?_
      exact leafL (leafT (⟨false, Option.some.inj h, S.fix [] [] (by decide) rfl rfl rfl⟩))
    refine sMove (iv (w64 ((w64 (x151.Y * p0.Height)) - (w64 (p2 * p0.Rows))))) S (wG 11 true 154 rfl rfl rfl hc178) (.inl rfl) rfl rfl (lb rfl) fun a S => ?_
    refine sMove (iv (w64 ((w64 (x151.Y * p0.Height)) - (w64 (p2 * p0.Rows))))) S (wG 11 true 154 rfl rfl rfl hc178) (.inl rfl) rfl rfl (lb rfl) fun a S => ?_
    refine sNeg (b := w64 ((w64 (x151.Y * p0.Height)) - (w64 (p2 * p0.Rows)))) S (wG 11 true 154 rfl rfl rfl hc178) rfl rfl rfl (lb rfl) fun a S => ?_
    refine sMax2 (p := w64 ((w64 (x151.Y * p0.Height)) - (w64 (p2 * p0.Rows)))) (q := w64 (0 - (w64 ((w64 (x151.Y * p0.Height)) - (w64 (p2 * p0.Rows)))))) S (wG 11 true 154 rfl rfl rfl hc178) rfl rfl rfl rfl (lb rfl) fun a S => ?_
    refine sBin (iv (w64 (2 * (if (w64 ((w64 (x151.Y * p0.Height)) - (w64 (p2 * p0.Rows)))) < (w64 (0 - (w64 ((w64 (x151.Y * p0.Height)) - (w64 (p2 * p0.Rows)))))) then w64 (0 - (w64 ((w64 (x151.Y * p0.Height)) - (w64 (p2 * p0.Rows))))) else w64 ((w64 (x151.Y * p0.Height)) - (w64 (p2 * p0.Rows))))))) S (wG 11 true 154 rfl rfl rfl hc178) rfl rfl rfl (bMul _ _ _ _ 2 (if (w64 ((w64 (x151.Y * p0.Height)) - (w64 (p2 * p0.Rows)))) < (w64 (0 - (w64 ((w64 (x151.Y * p0.Height)) - (w64 (p2 * p0.Rows)))))) then w64 (0 - (w64 ((w64 (x151.Y * p0.Height)) - (w64 (p2 * p0.Rows))))) else w64 ((w64 (x151.Y * p0.Height)) - (w64 (p2 * p0.Rows))))) rfl (lb rfl) fun a S => ?_
    refine sField (b := b2) (off := 0) 3 3 S (wG 11 true 154 rfl rfl rfl hc178) rfl rfl rfl rfl rfl (lb rfl) fun a S => ?_
    refine sLoad1 (p := b2) (off := 3) (T := 65) (vs := [iv p0.Stitches, iv p0.Width, iv p0.Rows, iv p0.Height]) 0 (iv p0.Height) S (wG 11 true 154 rfl rfl rfl hc178) rfl rfl rfl rfl rfl rfl (lb rfl) fun a S => ?_
    refine sBin (.bool (decide ((w64 (2 * (if (w64 ((w64 (x151.Y * p0.Height)) - (w64 (p2 * p0.Rows)))) < (w64 (0 - (w64 ((w64 (x151.Y * p0.Height)) - (w64 (p2 * p0.Rows)))))) then w64 (0 - (w64 ((w64 (x151.Y * p0.Height)) - (w64 (p2 * p0.Rows))))) else w64 ((w64 (x151.Y * p0.Height)) - (w64 (p2 * p0.Rows)))))) ≤ p0.Height))) S (wG 11 true 154 rfl rfl rfl hc178) rfl rfl rfl (bLe _ _ _ _ .i64 (w64 (2 * (if (w64 ((w64 (x151.Y * p0.Height)) - (w64 (p2 * p0.Rows)))) < (w64 (0 - (w64 ((w64 (x151.Y * p0.Height)) - (w64 (p2 * p0.Rows)))))) then w64 (0 - (w64 ((w64 (x151.Y * p0.Height)) - (w64 (p2 * p0.Rows))))) else w64 ((w64 (x151.Y * p0.Height)) - (w64 (p2 * p0.Rows)))))) p0.Height) rfl (lb rfl) fun a S => ?_
    refine sPickT (.bool (decide ((w64 (2 * (if (w64 ((w64 (x151.Y * p0.Height)) - (w64 (p2 * p0.Rows)))) < (w64 (0 - (w64 ((w64 (x151.Y * p0.Height)) - (w64 (p2 * p0.Rows)))))) then w64 (0 - (w64 ((w64 (x151.Y * p0.Height)) - (w64 (p2 * p0.Rows))))) else w64 ((w64 (x151.Y * p0.Height)) - (w64 (p2 * p0.Rows)))))) ≤ p0.Height))) S (wN rfl) rfl rfl hc178 rfl rfl (lb rfl) fun a S => ?_
    refine sMove (.bool (decide ((w64 (2 * (if (w64 ((w64 (x151.Y * p0.Height)) - (w64 (p2 * p0.Rows)))) < (w64 (0 - (w64 ((w64 (x151.Y * p0.Height)) - (w64 (p2 * p0.Rows)))))) then w64 (0 - (w64 ((w64 (x151.Y * p0.Height)) - (w64 (p2 * p0.Rows))))) else w64 ((w64 (x151.Y * p0.Height)) - (w64 (p2 * p0.Rows)))))) ≤ p0.Height))) S (wN rfl) (.inr rfl) rfl rfl (lb rfl) fun a S => ?_
    exact leafL (leafT (⟨decide ((w64 (2 * (if (w64 ((w64 (x151.Y * p0.Height)) - (w64 (p2 * p0.Rows)))) < (w64 (0 - (w64 ((w64 (x151.Y * p0.Height)) - (w64 (p2 * p0.Rows)))))) then w64 (0 - (w64 ((w64 (x151.Y * p0.Height)) - (w64 (p2 * p0.Rows))))) else w64 ((w64 (x151.Y * p0.Height)) - (w64 (p2 * p0.Rows)))))) ≤ p0.Height), Option.some.inj h, S.fix [] [] (by decide) rfl rfl rfl⟩))
  rcases iteSome h with ⟨hc48, h⟩ | ⟨hc48, h⟩
  · refine sDraw (nf := []) (W := [(0, 67, .pointer (some ⟨b35, 0, none⟩)), (1, 68, .slice ad31 r24.1.Left.length cp32), (2, 69, iv (r24.1.Left.length : Int)), (3, 70, .bool ((r24.1.Left.length : Int) != 2)), (4, 71, .bool ((r24.1.Left.length : Int) != 2)), (5, 72, undef), (6, 73, undef), (7, 74, undef), (8, 75, undef), (9, 76, .bool true), (10, 77, .bool true), (11, 78, undef), (12, 79, undef), (13, 80, undef), (14, 81, undef), (15, 82, undef), (16, 83, undef), (17, 84, undef), (18, 85, undef), (19, 86, undef), (20, 87, undef), (21, 88, undef), (22, 89, .bool true), (23, 90, .bool true), (24, 91, undef), (25, 92, undef), (26, 93, undef), (27, 94, undef), (28, 95, undef), (29, 96, undef), (30, 97, undef), (31, 98, undef), (32, 99, undef), (33, 100, undef), (34, 101, undef), (35, 102, undef), (36, 103, .bool true), (37, 104, .bool true), (38, 105, undef), (39, 106, undef), (40, 107, undef), (41, 108, undef), (42, 109, undef), (43, 110, undef), (44, 111, undef), (45, 112, undef), (46, 113, undef), (47, 114, undef), (48, 115, undef), (49, 116, .bool true)]) rfl S ?_
    refine node_by (A := anc_raddlelaw37_PieceGauge_0) (nf := []) (Y := []) (W := [(0, 67, .pointer (some ⟨b35, 0, none⟩)), (1, 68, .slice ad31 r24.1.Left.length cp32), (2, 69, iv (r24.1.Left.length : Int)), (3, 70, .bool ((r24.1.Left.length : Int) != 2)), (4, 71, .bool ((r24.1.Left.length : Int) != 2)), (5, 72, undef), (6, 73, undef), (7, 74, undef), (8, 75, undef), (9, 76, .bool true), (10, 77, .bool true), (11, 78, undef), (12, 79, undef), (13, 80, undef), (14, 81, undef), (15, 82, undef), (16, 83, undef), (17, 84, undef), (18, 85, undef), (19, 86, undef), (20, 87, undef), (21, 88, undef), (22, 89, .bool true), (23, 90, .bool true), (24, 91, undef), (25, 92, undef), (26, 93, undef), (27, 94, undef), (28, 95, undef), (29, 96, undef), (30, 97, undef), (31, 98, undef), (32, 99, undef), (33, 100, undef), (34, 101, undef), (35, 102, undef), (36, 103, .bool true), (37, 104, .bool true), (38, 105, undef), (39, 106, undef), (40, 107, undef), (41, 108, undef), (42, 109, undef), (43, 110, undef), (44, 111, undef), (45, 112, undef), (46, 113, undef), (47, 114, undef), (48, 115, undef), (49, 116, .bool true)]) 50 (by kernel_rfl) (by kernel_rfl) (by kernel_rfl) (by kernel_rfl) (by kernel_rfl) [0, 1, 2, 3, 4, 5, 6, 7, 8, 9, 10, 11, 12, 13, 14, 15, 16, 17, 18, 19, 20, 21, 22, 23, 24, 25, 26, 27, 28, 29, 30, 31, 32, 33, 34, 35, 36, 37, 38, 39, 40, 41, 42, 43, 44, 45, 46, 47, 48, 49] (by kernel_rfl) (by decide) (by decide) (aF 0 49 (by decide) ?_ (aF 1 48 (by decide) ?_ (aF 2 47 (by decide) ?_ (aF 3 46 (by decide) ?_ (aF 4 45 (by decide) ?_ (aF 5 44 (by decide) ?_ (aF 6 43 (by decide) ?_ (aF 7 42 (by decide) ?_ (aF 8 41 (by decide) ?_ (aF 9 40 (by decide) ?_ (aF 10 39 (by decide) ?_ (aF 11 38 (by decide) ?_ (aF 12 37 (by decide) ?_ (aF 13 36 (by decide) ?_ (aF 14 35 (by decide) ?_ (aF 15 34 (by decide) ?_ (aF 16 33 (by decide) ?_ (aF 17 32 (by decide) ?_ (aF 18 31 (by decide) ?_ (aF 19 30 (by decide) ?_ (aF 20 29 (by decide) ?_ (aF 21 28 (by decide) ?_ (aF 22 27 (by decide) ?_ (aF 23 26 (by decide) ?_ (aF 24 25 (by decide) ?_ (aF 25 24 (by decide) ?_ (aF 26 23 (by decide) ?_ (aF 27 22 (by decide) ?_ (aF 28 21 (by decide) ?_ (aF 29 20 (by decide) ?_ (aF 30 19 (by decide) ?_ (aF 31 18 (by decide) ?_ (aF 32 17 (by decide) ?_ (aF 33 16 (by decide) ?_ (aF 34 15 (by decide) ?_ (aF 35 14 (by decide) ?_ (aF 36 13 (by decide) ?_ (aF 37 12 (by decide) ?_ (aF 38 11 (by decide) ?_ (aF 39 10 (by decide) ?_ (aF 40 9 (by decide) ?_ (aF 41 8 (by decide) ?_ (aF 42 7 (by decide) ?_ (aF 43 6 (by decide) ?_ (aF 44 5 (by decide) ?_ (aF 45 4 (by decide) ?_ (aF 46 3 (by decide) ?_ (aF 47 2 (by decide) ?_ (aF 48 1 (by decide) ?_ (aF 49 0 (by decide) ?_ (trivial))))))))))))))))))))))))))))))))))))))))))))))))))) [(1, iv p1), (2, iv p2), (3, .pointer (some ⟨b2, 0, none⟩)), (7, .bool r4), (8, .pointer (some ⟨b35, 0, none⟩)), (116, .bool true)] (fin_of [none, none, none, none, none, some 49] rfl (by kernel_rfl) (by kernel_rfl)) (fun _ a w S => ?_)
    · refine fI 67 (.pointer (some ⟨b35, 0, none⟩)) [(8, .pointer (some ⟨b35, 0, none⟩))] 0 [none] rfl rfl rfl rfl rfl rfl fun G a w S => ?_
      refine sField (b := b35) (off := 0) 0 0 S (wN rfl) rfl rfl rfl rfl rfl (lb rfl) fun a S => ?_
      exact leafL ⟨rfl, S⟩
    · refine fI 68 (.slice ad31 r24.1.Left.length cp32) [(67, .pointer (some ⟨b35, 0, none⟩))] 1 [some 0] rfl rfl rfl rfl rfl rfl fun G a w S => ?_
      refine sLoad1 (p := b35) (off := 0) (T := 24) (vs := [.slice ad31 r24.1.Left.length cp32, .slice ad33 r24.1.Right.length cp34]) 0 (.slice ad31 r24.1.Left.length cp32) S (wN rfl) rfl rfl rfl rfl rfl rfl (lb rfl) fun a S => ?_
      exact leafL ⟨rfl, S⟩
    · refine fI 69 (iv (r24.1.Left.length : Int)) [(68, .slice ad31 r24.1.Left.length cp32)] 2 [some 1] rfl rfl rfl rfl rfl rfl fun G a w S => ?_
      refine sLen (ad := ad31) (m := r24.1.Left.length) (c := cp32) S (wN rfl) rfl Tryd.underlying22 rfl rfl (lb rfl) fun a S => ?_
      exact leafL ⟨rfl, S⟩
    · refine fI 70 (.bool ((r24.1.Left.length : Int) != 2)) [(69, iv (r24.1.Left.length : Int))] 3 [some 2] rfl rfl rfl rfl rfl rfl fun G a w S => ?_
      refine sBin (.bool ((r24.1.Left.length : Int) != 2)) S (wN rfl) rfl rfl rfl (bNe _ _ _ _ .i64 (r24.1.Left.length : Int) 2) rfl (lb rfl) fun a S => ?_
      exact leafL ⟨rfl, S⟩
    · refine fI 71 (.bool ((r24.1.Left.length : Int) != 2)) [(70, .bool ((r24.1.Left.length : Int) != 2))] 4 [some 3] rfl rfl rfl rfl rfl rfl fun G a w S => ?_
      refine sMove (.bool ((r24.1.Left.length : Int) != 2)) S (wN rfl) (.inl rfl) rfl rfl (lb rfl) fun a S => ?_
      exact leafL ⟨rfl, S⟩
    · refine fI 72 undef [(8, .pointer (some ⟨b35, 0, none⟩)), (71, .bool ((r24.1.Left.length : Int) != 2))] 5 [none, some 4] rfl rfl rfl rfl rfl rfl fun G a w S => ?_
      refine sSkip 4 false 71 72 S rfl rfl rfl hc48 rfl (lb rfl) fun a S => ?_
      exact leafL ⟨rfl, S⟩
    · refine fI 73 undef [(72, undef), (71, .bool ((r24.1.Left.length : Int) != 2))] 6 [some 5, some 4] rfl rfl rfl rfl rfl rfl fun G a w S => ?_
      refine sSkip 4 false 71 73 S rfl rfl rfl hc48 rfl (lb rfl) fun a S => ?_
      exact leafL ⟨rfl, S⟩
    · refine fI 74 undef [(73, undef), (71, .bool ((r24.1.Left.length : Int) != 2))] 7 [some 6, some 4] rfl rfl rfl rfl rfl rfl fun G a w S => ?_
      refine sSkip 4 false 71 74 S rfl rfl rfl hc48 rfl (lb rfl) fun a S => ?_
      exact leafL ⟨rfl, S⟩
    · refine fI 75 undef [(74, undef), (71, .bool ((r24.1.Left.length : Int) != 2))] 8 [some 7, some 4] rfl rfl rfl rfl rfl rfl fun G a w S => ?_
      refine sSkip 4 false 71 75 S rfl rfl rfl hc48 rfl (lb rfl) fun a S => ?_
      exact leafL ⟨rfl, S⟩
    · refine fI 76 (.bool true) [(71, .bool ((r24.1.Left.length : Int) != 2)), (75, undef)] 9 [some 4, some 8] rfl rfl rfl rfl rfl rfl fun G a w S => ?_
      refine sPickT (.bool true) S (wN rfl) rfl rfl hc48 rfl rfl (lb rfl) fun a S => ?_
      exact leafL ⟨rfl, S⟩
    · refine fI 77 (.bool true) [(76, .bool true)] 10 [some 9] rfl rfl rfl rfl rfl rfl fun G a w S => ?_
      refine sMove (.bool true) S (wN rfl) (.inl rfl) rfl rfl (lb rfl) fun a S => ?_
      exact leafL ⟨rfl, S⟩
    · refine fI 78 undef [(8, .pointer (some ⟨b35, 0, none⟩)), (77, .bool true)] 11 [none, some 10] rfl rfl rfl rfl rfl rfl fun G a w S => ?_
      refine sSkip 10 false 77 78 S rfl rfl rfl rfl rfl (lb rfl) fun a S => ?_
      exact leafL ⟨rfl, S⟩
    · refine fI 79 undef [(78, undef), (77, .bool true)] 12 [some 11, some 10] rfl rfl rfl rfl rfl rfl fun G a w S => ?_
      refine sSkip 10 false 77 79 S rfl rfl rfl rfl rfl (lb rfl) fun a S => ?_
      exact leafL ⟨rfl, S⟩
    · refine fI 80 undef [(79, undef), (77, .bool true)] 13 [some 12, some 10] rfl rfl rfl rfl rfl rfl fun G a w S => ?_
      refine sSkip 10 false 77 80 S rfl rfl rfl rfl rfl (lb rfl) fun a S => ?_
      exact leafL ⟨rfl, S⟩
    · refine fI 81 undef [(80, undef), (77, .bool true)] 14 [some 13, some 10] rfl rfl rfl rfl rfl rfl fun G a w S => ?_
      refine sSkip 10 false 77 81 S rfl rfl rfl rfl rfl (lb rfl) fun a S => ?_
      exact leafL ⟨rfl, S⟩
    · refine fI 82 undef [(81, undef), (77, .bool true)] 15 [some 14, some 10] rfl rfl rfl rfl rfl rfl fun G a w S => ?_
      refine sSkip 10 false 77 82 S rfl rfl rfl rfl rfl (lb rfl) fun a S => ?_
      exact leafL ⟨rfl, S⟩
    · refine fI 83 undef [(8, .pointer (some ⟨b35, 0, none⟩)), (77, .bool true)] 16 [none, some 10] rfl rfl rfl rfl rfl rfl fun G a w S => ?_
      refine sSkip 10 false 77 83 S rfl rfl rfl rfl rfl (lb rfl) fun a S => ?_
      exact leafL ⟨rfl, S⟩
    · refine fI 84 undef [(83, undef), (77, .bool true)] 17 [some 16, some 10] rfl rfl rfl rfl rfl rfl fun G a w S => ?_
      refine sSkip 10 false 77 84 S rfl rfl rfl rfl rfl (lb rfl) fun a S => ?_
      exact leafL ⟨rfl, S⟩
    · refine fI 85 undef [(84, undef), (77, .bool true)] 18 [some 17, some 10] rfl rfl rfl rfl rfl rfl fun G a w S => ?_
      refine sSkip 10 false 77 85 S rfl rfl rfl rfl rfl (lb rfl) fun a S => ?_
      exact leafL ⟨rfl, S⟩
    · refine fI 86 undef [(85, undef), (77, .bool true)] 19 [some 18, some 10] rfl rfl rfl rfl rfl rfl fun G a w S => ?_
      refine sSkip 10 false 77 86 S rfl rfl rfl rfl rfl (lb rfl) fun a S => ?_
      exact leafL ⟨rfl, S⟩
    · refine fI 87 undef [(86, undef), (77, .bool true)] 20 [some 19, some 10] rfl rfl rfl rfl rfl rfl fun G a w S => ?_
      refine sSkip 10 false 77 87 S rfl rfl rfl rfl rfl (lb rfl) fun a S => ?_
      exact leafL ⟨rfl, S⟩
    · refine fI 88 undef [(82, undef), (87, undef), (77, .bool true)] 21 [some 15, some 20, some 10] rfl rfl rfl rfl rfl rfl fun G a w S => ?_
      refine sSkip 10 false 77 88 S rfl rfl rfl rfl rfl (lb rfl) fun a S => ?_
      exact leafL ⟨rfl, S⟩
    · refine fI 89 (.bool true) [(77, .bool true), (88, undef)] 22 [some 10, some 21] rfl rfl rfl rfl rfl rfl fun G a w S => ?_
      refine sPickT (.bool true) S (wN rfl) rfl rfl rfl rfl rfl (lb rfl) fun a S => ?_
      exact leafL ⟨rfl, S⟩
    · refine fI 90 (.bool true) [(89, .bool true)] 23 [some 22] rfl rfl rfl rfl rfl rfl fun G a w S => ?_
      refine sMove (.bool true) S (wN rfl) (.inl rfl) rfl rfl (lb rfl) fun a S => ?_
      exact leafL ⟨rfl, S⟩
    · refine fI 91 undef [(8, .pointer (some ⟨b35, 0, none⟩)), (90, .bool true)] 24 [none, some 23] rfl rfl rfl rfl rfl rfl fun G a w S => ?_
      refine sSkip 23 false 90 91 S rfl rfl rfl rfl rfl (lb rfl) fun a S => ?_
      exact leafL ⟨rfl, S⟩
    · refine fI 92 undef [(91, undef), (90, .bool true)] 25 [some 24, some 23] rfl rfl rfl rfl rfl rfl fun G a w S => ?_
      refine sSkip 23 false 90 92 S rfl rfl rfl rfl rfl (lb rfl) fun a S => ?_
      exact leafL ⟨rfl, S⟩
    · refine fI 93 undef [(92, undef), (90, .bool true)] 26 [some 25, some 23] rfl rfl rfl rfl rfl rfl fun G a w S => ?_
      refine sSkip 23 false 90 93 S rfl rfl rfl rfl rfl (lb rfl) fun a S => ?_
      exact leafL ⟨rfl, S⟩
    · refine fI 94 undef [(93, undef), (90, .bool true)] 27 [some 26, some 23] rfl rfl rfl rfl rfl rfl fun G a w S => ?_
      refine sSkip 23 false 90 94 S rfl rfl rfl rfl rfl (lb rfl) fun a S => ?_
      exact leafL ⟨rfl, S⟩
    · refine fI 95 undef [(94, undef), (90, .bool true)] 28 [some 27, some 23] rfl rfl rfl rfl rfl rfl fun G a w S => ?_
      refine sSkip 23 false 90 95 S rfl rfl rfl rfl rfl (lb rfl) fun a S => ?_
      exact leafL ⟨rfl, S⟩
    · refine fI 96 undef [(8, .pointer (some ⟨b35, 0, none⟩)), (90, .bool true)] 29 [none, some 23] rfl rfl rfl rfl rfl rfl fun G a w S => ?_
      refine sSkip 23 false 90 96 S rfl rfl rfl rfl rfl (lb rfl) fun a S => ?_
      exact leafL ⟨rfl, S⟩
    · refine fI 97 undef [(96, undef), (90, .bool true)] 30 [some 29, some 23] rfl rfl rfl rfl rfl rfl fun G a w S => ?_
      refine sSkip 23 false 90 97 S rfl rfl rfl rfl rfl (lb rfl) fun a S => ?_
      exact leafL ⟨rfl, S⟩
    · refine fI 98 undef [(97, undef), (90, .bool true)] 31 [some 30, some 23] rfl rfl rfl rfl rfl rfl fun G a w S => ?_
      refine sSkip 23 false 90 98 S rfl rfl rfl rfl rfl (lb rfl) fun a S => ?_
      exact leafL ⟨rfl, S⟩
    · refine fI 99 undef [(98, undef), (90, .bool true)] 32 [some 31, some 23] rfl rfl rfl rfl rfl rfl fun G a w S => ?_
      refine sSkip 23 false 90 99 S rfl rfl rfl rfl rfl (lb rfl) fun a S => ?_
      exact leafL ⟨rfl, S⟩
    · refine fI 100 undef [(99, undef), (90, .bool true)] 33 [some 32, some 23] rfl rfl rfl rfl rfl rfl fun G a w S => ?_
      refine sSkip 23 false 90 100 S rfl rfl rfl rfl rfl (lb rfl) fun a S => ?_
      exact leafL ⟨rfl, S⟩
    · refine fI 101 undef [(100, undef), (90, .bool true)] 34 [some 33, some 23] rfl rfl rfl rfl rfl rfl fun G a w S => ?_
      refine sSkip 23 false 90 101 S rfl rfl rfl rfl rfl (lb rfl) fun a S => ?_
      exact leafL ⟨rfl, S⟩
    · refine fI 102 undef [(95, undef), (101, undef), (90, .bool true)] 35 [some 28, some 34, some 23] rfl rfl rfl rfl rfl rfl fun G a w S => ?_
      refine sSkip 23 false 90 102 S rfl rfl rfl rfl rfl (lb rfl) fun a S => ?_
      exact leafL ⟨rfl, S⟩
    · refine fI 103 (.bool true) [(90, .bool true), (102, undef)] 36 [some 23, some 35] rfl rfl rfl rfl rfl rfl fun G a w S => ?_
      refine sPickT (.bool true) S (wN rfl) rfl rfl rfl rfl rfl (lb rfl) fun a S => ?_
      exact leafL ⟨rfl, S⟩
    · refine fI 104 (.bool true) [(103, .bool true)] 37 [some 36] rfl rfl rfl rfl rfl rfl fun G a w S => ?_
      refine sMove (.bool true) S (wN rfl) (.inl rfl) rfl rfl (lb rfl) fun a S => ?_
      exact leafL ⟨rfl, S⟩
    · refine fI 105 undef [(8, .pointer (some ⟨b35, 0, none⟩)), (104, .bool true)] 38 [none, some 37] rfl rfl rfl rfl rfl rfl fun G a w S => ?_
      refine sSkip 37 false 104 105 S rfl rfl rfl rfl rfl (lb rfl) fun a S => ?_
      exact leafL ⟨rfl, S⟩
    · refine fI 106 undef [(105, undef), (104, .bool true)] 39 [some 38, some 37] rfl rfl rfl rfl rfl rfl fun G a w S => ?_
      refine sSkip 37 false 104 106 S rfl rfl rfl rfl rfl (lb rfl) fun a S => ?_
      exact leafL ⟨rfl, S⟩
    · refine fI 107 undef [(106, undef), (104, .bool true)] 40 [some 39, some 37] rfl rfl rfl rfl rfl rfl fun G a w S => ?_
      refine sSkip 37 false 104 107 S rfl rfl rfl rfl rfl (lb rfl) fun a S => ?_
      exact leafL ⟨rfl, S⟩
    · refine fI 108 undef [(107, undef), (104, .bool true)] 41 [some 40, some 37] rfl rfl rfl rfl rfl rfl fun G a w S => ?_
      refine sSkip 37 false 104 108 S rfl rfl rfl rfl rfl (lb rfl) fun a S => ?_
      exact leafL ⟨rfl, S⟩
    · refine fI 109 undef [(108, undef), (104, .bool true)] 42 [some 41, some 37] rfl rfl rfl rfl rfl rfl fun G a w S => ?_
      refine sSkip 37 false 104 109 S rfl rfl rfl rfl rfl (lb rfl) fun a S => ?_
      exact leafL ⟨rfl, S⟩
    · refine fI 110 undef [(8, .pointer (some ⟨b35, 0, none⟩)), (104, .bool true)] 43 [none, some 37] rfl rfl rfl rfl rfl rfl fun G a w S => ?_
      refine sSkip 37 false 104 110 S rfl rfl rfl rfl rfl (lb rfl) fun a S => ?_
      exact leafL ⟨rfl, S⟩
    · refine fI 111 undef [(110, undef), (104, .bool true)] 44 [some 43, some 37] rfl rfl rfl rfl rfl rfl fun G a w S => ?_
      refine sSkip 37 false 104 111 S rfl rfl rfl rfl rfl (lb rfl) fun a S => ?_
      exact leafL ⟨rfl, S⟩
    · refine fI 112 undef [(111, undef), (104, .bool true)] 45 [some 44, some 37] rfl rfl rfl rfl rfl rfl fun G a w S => ?_
      refine sSkip 37 false 104 112 S rfl rfl rfl rfl rfl (lb rfl) fun a S => ?_
      exact leafL ⟨rfl, S⟩
    · refine fI 113 undef [(112, undef), (104, .bool true)] 46 [some 45, some 37] rfl rfl rfl rfl rfl rfl fun G a w S => ?_
      refine sSkip 37 false 104 113 S rfl rfl rfl rfl rfl (lb rfl) fun a S => ?_
      exact leafL ⟨rfl, S⟩
    · refine fI 114 undef [(113, undef), (104, .bool true)] 47 [some 46, some 37] rfl rfl rfl rfl rfl rfl fun G a w S => ?_
      refine sSkip 37 false 104 114 S rfl rfl rfl rfl rfl (lb rfl) fun a S => ?_
      exact leafL ⟨rfl, S⟩
    · refine fI 115 undef [(109, undef), (114, undef), (104, .bool true)] 48 [some 42, some 47, some 37] rfl rfl rfl rfl rfl rfl fun G a w S => ?_
      refine sSkip 37 false 104 115 S rfl rfl rfl rfl rfl (lb rfl) fun a S => ?_
      exact leafL ⟨rfl, S⟩
    · refine fI 116 (.bool true) [(104, .bool true), (115, undef)] 49 [some 37, some 48] rfl rfl rfl rfl rfl rfl fun G a w S => ?_
      refine sPickT (.bool true) S (wN rfl) rfl rfl rfl rfl rfl (lb rfl) fun a S => ?_
      exact leafL ⟨rfl, S⟩
    exact leafT (⟨true, Option.some.inj h, S.fix [1, 0] [1, 0] (by decide) rfl rfl rfl⟩)
  rcases iteSome h with ⟨hc49, h⟩ | ⟨hc49, h⟩
  · refine sDraw (nf := []) (W := [(0, 67, .pointer (some ⟨b35, 0, none⟩)), (1, 68, .slice ad31 r24.1.Left.length cp32), (2, 69, iv (r24.1.Left.length : Int)), (3, 70, .bool ((r24.1.Left.length : Int) != 2)), (4, 71, .bool ((r24.1.Left.length : Int) != 2)), (5, 72, .pointer (some ⟨b35, 1, none⟩)), (6, 73, .slice ad33 r24.1.Right.length cp34), (7, 74, iv (r24.1.Right.length : Int)), (8, 75, .bool ((r24.1.Right.length : Int) != 2)), (9, 76, .bool ((r24.1.Right.length : Int) != 2)), (10, 77, .bool ((r24.1.Right.length : Int) != 2)), (11, 78, undef), (12, 79, undef), (13, 80, undef), (14, 81, undef), (15, 82, undef), (16, 83, undef), (17, 84, undef), (18, 85, undef), (19, 86, undef), (20, 87, undef), (21, 88, undef), (22, 89, .bool true), (23, 90, .bool true), (24, 91, undef), (25, 92, undef), (26, 93, undef), (27, 94, undef), (28, 95, undef), (29, 96, undef), (30, 97, undef), (31, 98, undef), (32, 99, undef), (33, 100, undef), (34, 101, undef), (35, 102, undef), (36, 103, .bool true), (37, 104, .bool true), (38, 105, undef), (39, 106, undef), (40, 107, undef), (41, 108, undef), (42, 109, undef), (43, 110, undef), (44, 111, undef), (45, 112, undef), (46, 113, undef), (47, 114, undef), (48, 115, undef), (49, 116, .bool true)]) rfl S ?_
    refine node_by (A := anc_raddlelaw37_PieceGauge_0) (nf := []) (Y := []) (W := [(0, 67, .pointer (some ⟨b35, 0, none⟩)), (1, 68, .slice ad31 r24.1.Left.length cp32), (2, 69, iv (r24.1.Left.length : Int)), (3, 70, .bool ((r24.1.Left.length : Int) != 2)), (4, 71, .bool ((r24.1.Left.length : Int) != 2)), (5, 72, .pointer (some ⟨b35, 1, none⟩)), (6, 73, .slice ad33 r24.1.Right.length cp34), (7, 74, iv (r24.1.Right.length : Int)), (8, 75, .bool ((r24.1.Right.length : Int) != 2)), (9, 76, .bool ((r24.1.Right.length : Int) != 2)), (10, 77, .bool ((r24.1.Right.length : Int) != 2)), (11, 78, undef), (12, 79, undef), (13, 80, undef), (14, 81, undef), (15, 82, undef), (16, 83, undef), (17, 84, undef), (18, 85, undef), (19, 86, undef), (20, 87, undef), (21, 88, undef), (22, 89, .bool true), (23, 90, .bool true), (24, 91, undef), (25, 92, undef), (26, 93, undef), (27, 94, undef), (28, 95, undef), (29, 96, undef), (30, 97, undef), (31, 98, undef), (32, 99, undef), (33, 100, undef), (34, 101, undef), (35, 102, undef), (36, 103, .bool true), (37, 104, .bool true), (38, 105, undef), (39, 106, undef), (40, 107, undef), (41, 108, undef), (42, 109, undef), (43, 110, undef), (44, 111, undef), (45, 112, undef), (46, 113, undef), (47, 114, undef), (48, 115, undef), (49, 116, .bool true)]) 50 (by kernel_rfl) (by kernel_rfl) (by kernel_rfl) (by kernel_rfl) (by kernel_rfl) [0, 1, 2, 3, 4, 5, 6, 7, 8, 9, 10, 11, 12, 13, 14, 15, 16, 17, 18, 19, 20, 21, 22, 23, 24, 25, 26, 27, 28, 29, 30, 31, 32, 33, 34, 35, 36, 37, 38, 39, 40, 41, 42, 43, 44, 45, 46, 47, 48, 49] (by kernel_rfl) (by decide) (by decide) (aF 0 49 (by decide) ?_ (aF 1 48 (by decide) ?_ (aF 2 47 (by decide) ?_ (aF 3 46 (by decide) ?_ (aF 4 45 (by decide) ?_ (aF 5 44 (by decide) ?_ (aF 6 43 (by decide) ?_ (aF 7 42 (by decide) ?_ (aF 8 41 (by decide) ?_ (aF 9 40 (by decide) ?_ (aF 10 39 (by decide) ?_ (aF 11 38 (by decide) ?_ (aF 12 37 (by decide) ?_ (aF 13 36 (by decide) ?_ (aF 14 35 (by decide) ?_ (aF 15 34 (by decide) ?_ (aF 16 33 (by decide) ?_ (aF 17 32 (by decide) ?_ (aF 18 31 (by decide) ?_ (aF 19 30 (by decide) ?_ (aF 20 29 (by decide) ?_ (aF 21 28 (by decide) ?_ (aF 22 27 (by decide) ?_ (aF 23 26 (by decide) ?_ (aF 24 25 (by decide) ?_ (aF 25 24 (by decide) ?_ (aF 26 23 (by decide) ?_ (aF 27 22 (by decide) ?_ (aF 28 21 (by decide) ?_ (aF 29 20 (by decide) ?_ (aF 30 19 (by decide) ?_ (aF 31 18 (by decide) ?_ (aF 32 17 (by decide) ?_ (aF 33 16 (by decide) ?_ (aF 34 15 (by decide) ?_ (aF 35 14 (by decide) ?_ (aF 36 13 (by decide) ?_ (aF 37 12 (by decide) ?_ (aF 38 11 (by decide) ?_ (aF 39 10 (by decide) ?_ (aF 40 9 (by decide) ?_ (aF 41 8 (by decide) ?_ (aF 42 7 (by decide) ?_ (aF 43 6 (by decide) ?_ (aF 44 5 (by decide) ?_ (aF 45 4 (by decide) ?_ (aF 46 3 (by decide) ?_ (aF 47 2 (by decide) ?_ (aF 48 1 (by decide) ?_ (aF 49 0 (by decide) ?_ (trivial))))))))))))))))))))))))))))))))))))))))))))))))))) [(1, iv p1), (2, iv p2), (3, .pointer (some ⟨b2, 0, none⟩)), (7, .bool r4), (8, .pointer (some ⟨b35, 0, none⟩)), (116, .bool true)] (fin_of [none, none, none, none, none, some 49] rfl (by kernel_rfl) (by kernel_rfl)) (fun _ a w S => ?_)
    · refine fI 67 (.pointer (some ⟨b35, 0, none⟩)) [(8, .pointer (some ⟨b35, 0, none⟩))] 0 [none] rfl rfl rfl rfl rfl rfl fun G a w S => ?_
      refine sField (b := b35) (off := 0) 0 0 S (wN rfl) rfl rfl rfl rfl rfl (lb rfl) fun a S => ?_
      exact leafL ⟨rfl, S⟩
    · refine fI 68 (.slice ad31 r24.1.Left.length cp32) [(67, .pointer (some ⟨b35, 0, none⟩))] 1 [some 0] rfl rfl rfl rfl rfl rfl fun G a w S => ?_
      refine sLoad1 (p := b35) (off := 0) (T := 24) (vs := [.slice ad31 r24.1.Left.length cp32, .slice ad33 r24.1.Right.length cp34]) 0 (.slice ad31 r24.1.Left.length cp32) S (wN rfl) rfl rfl rfl rfl rfl rfl (lb rfl) fun a S => ?_
      exact leafL ⟨rfl, S⟩
    · refine fI 69 (iv (r24.1.Left.length : Int)) [(68, .slice ad31 r24.1.Left.length cp32)] 2 [some 1] rfl rfl rfl rfl rfl rfl fun G a w S => ?_
      refine sLen (ad := ad31) (m := r24.1.Left.length) (c := cp32) S (wN rfl) rfl Tryd.underlying22 rfl rfl (lb rfl) fun a S => ?_
      exact leafL ⟨rfl, S⟩
    · refine fI 70 (.bool ((r24.1.Left.length : Int) != 2)) [(69, iv (r24.1.Left.length : Int))] 3 [some 2] rfl rfl rfl rfl rfl rfl fun G a w S => ?_
      refine sBin (.bool ((r24.1.Left.length : Int) != 2)) S (wN rfl) rfl rfl rfl (bNe _ _ _ _ .i64 (r24.1.Left.length : Int) 2) rfl (lb rfl) fun a S => ?_
      exact leafL ⟨rfl, S⟩
    · refine fI 71 (.bool ((r24.1.Left.length : Int) != 2)) [(70, .bool ((r24.1.Left.length : Int) != 2))] 4 [some 3] rfl rfl rfl rfl rfl rfl fun G a w S => ?_
      refine sMove (.bool ((r24.1.Left.length : Int) != 2)) S (wN rfl) (.inl rfl) rfl rfl (lb rfl) fun a S => ?_
      exact leafL ⟨rfl, S⟩
    · refine fI 72 (.pointer (some ⟨b35, 1, none⟩)) [(8, .pointer (some ⟨b35, 0, none⟩)), (71, .bool ((r24.1.Left.length : Int) != 2))] 5 [none, some 4] rfl rfl rfl rfl rfl rfl fun G a w S => ?_
      refine sField (b := b35) (off := 0) 1 1 S (wG 4 false 71 rfl rfl rfl hc48) rfl rfl rfl rfl rfl (lb rfl) fun a S => ?_
      exact leafL ⟨rfl, S⟩
    · refine fI 73 (.slice ad33 r24.1.Right.length cp34) [(72, .pointer (some ⟨b35, 1, none⟩)), (71, .bool ((r24.1.Left.length : Int) != 2))] 6 [some 5, some 4] rfl rfl rfl rfl rfl rfl fun G a w S => ?_
      refine sLoad1 (p := b35) (off := 1) (T := 24) (vs := [.slice ad31 r24.1.Left.length cp32, .slice ad33 r24.1.Right.length cp34]) 0 (.slice ad33 r24.1.Right.length cp34) S (wG 4 false 71 rfl rfl rfl hc48) rfl rfl rfl rfl rfl rfl (lb rfl) fun a S => ?_
      exact leafL ⟨rfl, S⟩
    · refine fI 74 (iv (r24.1.Right.length : Int)) [(73, .slice ad33 r24.1.Right.length cp34), (71, .bool ((r24.1.Left.length : Int) != 2))] 7 [some 6, some 4] rfl rfl rfl rfl rfl rfl fun G a w S => ?_
      refine sLen (ad := ad33) (m := r24.1.Right.length) (c := cp34) S (wG 4 false 71 rfl rfl rfl hc48) rfl Tryd.underlying22 rfl rfl (lb rfl) fun a S => ?_
      exact leafL ⟨rfl, S⟩
    · refine fI 75 (.bool ((r24.1.Right.length : Int) != 2)) [(74, iv (r24.1.Right.length : Int)), (71, .bool ((r24.1.Left.length : Int) != 2))] 8 [some 7, some 4] rfl rfl rfl rfl rfl rfl fun G a w S => ?_
      refine sBin (.bool ((r24.1.Right.length : Int) != 2)) S (wG 4 false 71 rfl rfl rfl hc48) rfl rfl rfl (bNe _ _ _ _ .i64 (r24.1.Right.length : Int) 2) rfl (lb rfl) fun a S => ?_
      exact leafL ⟨rfl, S⟩
    · refine fI 76 (.bool ((r24.1.Right.length : Int) != 2)) [(71, .bool ((r24.1.Left.length : Int) != 2)), (75, .bool ((r24.1.Right.length : Int) != 2))] 9 [some 4, some 8] rfl rfl rfl rfl rfl rfl fun G a w S => ?_
      refine sPickF (.bool ((r24.1.Right.length : Int) != 2)) S (wN rfl) rfl rfl hc48 rfl rfl (lb rfl) fun a S => ?_
      exact leafL ⟨rfl, S⟩
    · refine fI 77 (.bool ((r24.1.Right.length : Int) != 2)) [(76, .bool ((r24.1.Right.length : Int) != 2))] 10 [some 9] rfl rfl rfl rfl rfl rfl fun G a w S => ?_
      refine sMove (.bool ((r24.1.Right.length : Int) != 2)) S (wN rfl) (.inl rfl) rfl rfl (lb rfl) fun a S => ?_
      exact leafL ⟨rfl, S⟩
    · refine fI 78 undef [(8, .pointer (some ⟨b35, 0, none⟩)), (77, .bool ((r24.1.Right.length : Int) != 2))] 11 [none, some 10] rfl rfl rfl rfl rfl rfl fun G a w S => ?_
      refine sSkip 10 false 77 78 S rfl rfl rfl hc49 rfl (lb rfl) fun a S => ?_
      exact leafL ⟨rfl, S⟩
    · refine fI 79 undef [(78, undef), (77, .bool ((r24.1.Right.length : Int) != 2))] 12 [some 11, some 10] rfl rfl rfl rfl rfl rfl fun G a w S => ?_
      refine sSkip 10 false 77 79 S rfl rfl rfl hc49 rfl (lb rfl) fun a S => ?_
      exact leafL ⟨rfl, S⟩
    · refine fI 80 undef [(79, undef), (77, .bool ((r24.1.Right.length : Int) != 2))] 13 [some 12, some 10] rfl rfl rfl rfl rfl rfl fun G a w S => ?_
      refine sSkip 10 false 77 80 S rfl rfl rfl hc49 rfl (lb rfl) fun a S => ?_
      exact leafL ⟨rfl, S⟩
    · refine fI 81 undef [(80, undef), (77, .bool ((r24.1.Right.length : Int) != 2))] 14 [some 13, some 10] rfl rfl rfl rfl rfl rfl fun G a w S => ?_
      refine sSkip 10 false 77 81 S rfl rfl rfl hc49 rfl (lb rfl) fun a S => ?_
      exact leafL ⟨rfl, S⟩
    · refine fI 82 undef [(81, undef), (77, .bool ((r24.1.Right.length : Int) != 2))] 15 [some 14, some 10] rfl rfl rfl rfl rfl rfl fun G a w S => ?_
      refine sSkip 10 false 77 82 S rfl rfl rfl hc49 rfl (lb rfl) fun a S => ?_
      exact leafL ⟨rfl, S⟩
    · refine fI 83 undef [(8, .pointer (some ⟨b35, 0, none⟩)), (77, .bool ((r24.1.Right.length : Int) != 2))] 16 [none, some 10] rfl rfl rfl rfl rfl rfl fun G a w S => ?_
      refine sSkip 10 false 77 83 S rfl rfl rfl hc49 rfl (lb rfl) fun a S => ?_
      exact leafL ⟨rfl, S⟩
    · refine fI 84 undef [(83, undef), (77, .bool ((r24.1.Right.length : Int) != 2))] 17 [some 16, some 10] rfl rfl rfl rfl rfl rfl fun G a w S => ?_
      refine sSkip 10 false 77 84 S rfl rfl rfl hc49 rfl (lb rfl) fun a S => ?_
      exact leafL ⟨rfl, S⟩
    · refine fI 85 undef [(84, undef), (77, .bool ((r24.1.Right.length : Int) != 2))] 18 [some 17, some 10] rfl rfl rfl rfl rfl rfl fun G a w S => ?_
      refine sSkip 10 false 77 85 S rfl rfl rfl hc49 rfl (lb rfl) fun a S => ?_
      exact leafL ⟨rfl, S⟩
    · refine fI 86 undef [(85, undef), (77, .bool ((r24.1.Right.length : Int) != 2))] 19 [some 18, some 10] rfl rfl rfl rfl rfl rfl fun G a w S => ?_
      refine sSkip 10 false 77 86 S rfl rfl rfl hc49 rfl (lb rfl) fun a S => ?_
      exact leafL ⟨rfl, S⟩
    · refine fI 87 undef [(86, undef), (77, .bool ((r24.1.Right.length : Int) != 2))] 20 [some 19, some 10] rfl rfl rfl rfl rfl rfl fun G a w S => ?_
      refine sSkip 10 false 77 87 S rfl rfl rfl hc49 rfl (lb rfl) fun a S => ?_
      exact leafL ⟨rfl, S⟩
    · refine fI 88 undef [(82, undef), (87, undef), (77, .bool ((r24.1.Right.length : Int) != 2))] 21 [some 15, some 20, some 10] rfl rfl rfl rfl rfl rfl fun G a w S => ?_
      refine sSkip 10 false 77 88 S rfl rfl rfl hc49 rfl (lb rfl) fun a S => ?_
      exact leafL ⟨rfl, S⟩
    · refine fI 89 (.bool true) [(77, .bool ((r24.1.Right.length : Int) != 2)), (88, undef)] 22 [some 10, some 21] rfl rfl rfl rfl rfl rfl fun G a w S => ?_
      refine sPickT (.bool true) S (wN rfl) rfl rfl hc49 rfl rfl (lb rfl) fun a S => ?_
      exact leafL ⟨rfl, S⟩
    · refine fI 90 (.bool true) [(89, .bool true)] 23 [some 22] rfl rfl rfl rfl rfl rfl fun G a w S => ?_
      refine sMove (.bool true) S (wN rfl) (.inl rfl) rfl rfl (lb rfl) fun a S => ?_
      exact leafL ⟨rfl, S⟩
    · refine fI 91 undef [(8, .pointer (some ⟨b35, 0, none⟩)), (90, .bool true)] 24 [none, some 23] rfl rfl rfl rfl rfl rfl fun G a w S => ?_
      refine sSkip 23 false 90 91 S rfl rfl rfl rfl rfl (lb rfl) fun a S => ?_
      exact leafL ⟨rfl, S⟩
    · refine fI 92 undef [(91, undef), (90, .bool true)] 25 [some 24, some 23] rfl rfl rfl rfl rfl rfl fun G a w S => ?_
      refine sSkip 23 false 90 92 S rfl rfl rfl rfl rfl (lb rfl) fun a S => ?_
      exact leafL ⟨rfl, S⟩
    · refine fI 93 undef [(92, undef), (90, .bool true)] 26 [some 25, some 23] rfl rfl rfl rfl rfl rfl fun G a w S => ?_
      refine sSkip 23 false 90 93 S rfl rfl rfl rfl rfl (lb rfl) fun a S => ?_
      exact leafL ⟨rfl, S⟩
    · refine fI 94 undef [(93, undef), (90, .bool true)] 27 [some 26, some 23] rfl rfl rfl rfl rfl rfl fun G a w S => ?_
      refine sSkip 23 false 90 94 S rfl rfl rfl rfl rfl (lb rfl) fun a S => ?_
      exact leafL ⟨rfl, S⟩
    · refine fI 95 undef [(94, undef), (90, .bool true)] 28 [some 27, some 23] rfl rfl rfl rfl rfl rfl fun G a w S => ?_
      refine sSkip 23 false 90 95 S rfl rfl rfl rfl rfl (lb rfl) fun a S => ?_
      exact leafL ⟨rfl, S⟩
    · refine fI 96 undef [(8, .pointer (some ⟨b35, 0, none⟩)), (90, .bool true)] 29 [none, some 23] rfl rfl rfl rfl rfl rfl fun G a w S => ?_
      refine sSkip 23 false 90 96 S rfl rfl rfl rfl rfl (lb rfl) fun a S => ?_
      exact leafL ⟨rfl, S⟩
    · refine fI 97 undef [(96, undef), (90, .bool true)] 30 [some 29, some 23] rfl rfl rfl rfl rfl rfl fun G a w S => ?_
      refine sSkip 23 false 90 97 S rfl rfl rfl rfl rfl (lb rfl) fun a S => ?_
      exact leafL ⟨rfl, S⟩
    · refine fI 98 undef [(97, undef), (90, .bool true)] 31 [some 30, some 23] rfl rfl rfl rfl rfl rfl fun G a w S => ?_
      refine sSkip 23 false 90 98 S rfl rfl rfl rfl rfl (lb rfl) fun a S => ?_
      exact leafL ⟨rfl, S⟩
    · refine fI 99 undef [(98, undef), (90, .bool true)] 32 [some 31, some 23] rfl rfl rfl rfl rfl rfl fun G a w S => ?_
      refine sSkip 23 false 90 99 S rfl rfl rfl rfl rfl (lb rfl) fun a S => ?_
      exact leafL ⟨rfl, S⟩
    · refine fI 100 undef [(99, undef), (90, .bool true)] 33 [some 32, some 23] rfl rfl rfl rfl rfl rfl fun G a w S => ?_
      refine sSkip 23 false 90 100 S rfl rfl rfl rfl rfl (lb rfl) fun a S => ?_
      exact leafL ⟨rfl, S⟩
    · refine fI 101 undef [(100, undef), (90, .bool true)] 34 [some 33, some 23] rfl rfl rfl rfl rfl rfl fun G a w S => ?_
      refine sSkip 23 false 90 101 S rfl rfl rfl rfl rfl (lb rfl) fun a S => ?_
      exact leafL ⟨rfl, S⟩
    · refine fI 102 undef [(95, undef), (101, undef), (90, .bool true)] 35 [some 28, some 34, some 23] rfl rfl rfl rfl rfl rfl fun G a w S => ?_
      refine sSkip 23 false 90 102 S rfl rfl rfl rfl rfl (lb rfl) fun a S => ?_
      exact leafL ⟨rfl, S⟩
    · refine fI 103 (.bool true) [(90, .bool true), (102, undef)] 36 [some 23, some 35] rfl rfl rfl rfl rfl rfl fun G a w S => ?_
      refine sPickT (.bool true) S (wN rfl) rfl rfl rfl rfl rfl (lb rfl) fun a S => ?_
      exact leafL ⟨rfl, S⟩
    · refine fI 104 (.bool true) [(103, .bool true)] 37 [some 36] rfl rfl rfl rfl rfl rfl fun G a w S => ?_
      refine sMove (.bool true) S (wN rfl) (.inl rfl) rfl rfl (lb rfl) fun a S => ?_
      exact leafL ⟨rfl, S⟩
    · refine fI 105 undef [(8, .pointer (some ⟨b35, 0, none⟩)), (104, .bool true)] 38 [none, some 37] rfl rfl rfl rfl rfl rfl fun G a w S => ?_
      refine sSkip 37 false 104 105 S rfl rfl rfl rfl rfl (lb rfl) fun a S => ?_
      exact leafL ⟨rfl, S⟩
    · refine fI 106 undef [(105, undef), (104, .bool true)] 39 [some 38, some 37] rfl rfl rfl rfl rfl rfl fun G a w S => ?_
      refine sSkip 37 false 104 106 S rfl rfl rfl rfl rfl (lb rfl) fun a S => ?_
      exact leafL ⟨rfl, S⟩
    · refine fI 107 undef [(106, undef), (104, .bool true)] 40 [some 39, some 37] rfl rfl rfl rfl rfl rfl fun G a w S => ?_
      refine sSkip 37 false 104 107 S rfl rfl rfl rfl rfl (lb rfl) fun a S => ?_
      exact leafL ⟨rfl, S⟩
    · refine fI 108 undef [(107, undef), (104, .bool true)] 41 [some 40, some 37] rfl rfl rfl rfl rfl rfl fun G a w S => ?_
      refine sSkip 37 false 104 108 S rfl rfl rfl rfl rfl (lb rfl) fun a S => ?_
      exact leafL ⟨rfl, S⟩
    · refine fI 109 undef [(108, undef), (104, .bool true)] 42 [some 41, some 37] rfl rfl rfl rfl rfl rfl fun G a w S => ?_
      refine sSkip 37 false 104 109 S rfl rfl rfl rfl rfl (lb rfl) fun a S => ?_
      exact leafL ⟨rfl, S⟩
    · refine fI 110 undef [(8, .pointer (some ⟨b35, 0, none⟩)), (104, .bool true)] 43 [none, some 37] rfl rfl rfl rfl rfl rfl fun G a w S => ?_
      refine sSkip 37 false 104 110 S rfl rfl rfl rfl rfl (lb rfl) fun a S => ?_
      exact leafL ⟨rfl, S⟩
    · refine fI 111 undef [(110, undef), (104, .bool true)] 44 [some 43, some 37] rfl rfl rfl rfl rfl rfl fun G a w S => ?_
      refine sSkip 37 false 104 111 S rfl rfl rfl rfl rfl (lb rfl) fun a S => ?_
      exact leafL ⟨rfl, S⟩
    · refine fI 112 undef [(111, undef), (104, .bool true)] 45 [some 44, some 37] rfl rfl rfl rfl rfl rfl fun G a w S => ?_
      refine sSkip 37 false 104 112 S rfl rfl rfl rfl rfl (lb rfl) fun a S => ?_
      exact leafL ⟨rfl, S⟩
    · refine fI 113 undef [(112, undef), (104, .bool true)] 46 [some 45, some 37] rfl rfl rfl rfl rfl rfl fun G a w S => ?_
      refine sSkip 37 false 104 113 S rfl rfl rfl rfl rfl (lb rfl) fun a S => ?_
      exact leafL ⟨rfl, S⟩
    · refine fI 114 undef [(113, undef), (104, .bool true)] 47 [some 46, some 37] rfl rfl rfl rfl rfl rfl fun G a w S => ?_
      refine sSkip 37 false 104 114 S rfl rfl rfl rfl rfl (lb rfl) fun a S => ?_
      exact leafL ⟨rfl, S⟩
    · refine fI 115 undef [(109, undef), (114, undef), (104, .bool true)] 48 [some 42, some 47, some 37] rfl rfl rfl rfl rfl rfl fun G a w S => ?_
      refine sSkip 37 false 104 115 S rfl rfl rfl rfl rfl (lb rfl) fun a S => ?_
      exact leafL ⟨rfl, S⟩
    · refine fI 116 (.bool true) [(104, .bool true), (115, undef)] 49 [some 37, some 48] rfl rfl rfl rfl rfl rfl fun G a w S => ?_
      refine sPickT (.bool true) S (wN rfl) rfl rfl rfl rfl rfl (lb rfl) fun a S => ?_
      exact leafL ⟨rfl, S⟩
    exact leafT (⟨true, Option.some.inj h, S.fix [1, 0] [1, 0] (by decide) rfl rfl rfl⟩)
  obtain ⟨x50, hx51, h⟩ := bindSome h
  obtain ⟨x57, hx58, h⟩ := bindSome h
  rcases iteSome h with ⟨hc64, h⟩ | ⟨hc64, h⟩
  · obtain ⟨q65, hq66, S⟩ := pIdx (P := Tryd.prog) (r := r_api_Point) (v := .slice ad31 r24.1.Left.length cp32) (xs := r24.1.Left) (j := 1) 22 35 1 S Tryd.underlying22 rfl rfl hx51
    obtain ⟨q67, hq68, S⟩ := pFld (P := Tryd.prog) (r := r_api_Point) (s2 := (rI .i64)) (g := (·.Y)) (q := q65) (z := x50) 35 1 0 1 S rfl rfl comp_api_Point_Y
    obtain ⟨u69, S⟩ := pLoad (r := (rI .i64)) (q := q67) (x := x50.Y) 0 S rfl
    obtain rfl : u69 = iv x50.Y := S.mem.know (i := 1) (e := fRep (rI .i64) (u69) x50.Y) rfl
    obtain ⟨q70, hq71, S⟩ := pIdx (P := Tryd.prog) (r := r_api_Point) (v := .slice ad33 r24.1.Right.length cp34) (xs := r24.1.Right) (j := 1) 22 35 4 S Tryd.underlying22 rfl rfl hx58
    obtain ⟨q72, hq73, S⟩ := pFld (P := Tryd.prog) (r := r_api_Point) (s2 := (rI .i64)) (g := (·.Y)) (q := q70) (z := x57) 35 1 0 1 S rfl rfl comp_api_Point_Y
    obtain ⟨u74, S⟩ := pLoad (r := (rI .i64)) (q := q72) (x := x57.Y) 0 S rfl
    obtain rfl : u74 = iv x57.Y := S.mem.know (i := 1) (e := fRep (rI .i64) (u74) x57.Y) rfl
    refine sDraw (nf := []) (W := [(0, 67, .pointer (some ⟨b35, 0, none⟩)), (1, 68, .slice ad31 r24.1.Left.length cp32), (2, 69, iv (r24.1.Left.length : Int)), (3, 70, .bool ((r24.1.Left.length : Int) != 2)), (4, 71, .bool ((r24.1.Left.length : Int) != 2)), (5, 72, .pointer (some ⟨b35, 1, none⟩)), (6, 73, .slice ad33 r24.1.Right.length cp34), (7, 74, iv (r24.1.Right.length : Int)), (8, 75, .bool ((r24.1.Right.length : Int) != 2)), (9, 76, .bool ((r24.1.Right.length : Int) != 2)), (10, 77, .bool ((r24.1.Right.length : Int) != 2)), (11, 78, .pointer (some ⟨b35, 0, none⟩)), (12, 79, .slice ad31 r24.1.Left.length cp32), (13, 80, q65), (14, 81, q67), (15, 82, iv x50.Y), (16, 83, .pointer (some ⟨b35, 1, none⟩)), (17, 84, .slice ad33 r24.1.Right.length cp34), (18, 85, q70), (19, 86, q72), (20, 87, iv x57.Y), (21, 88, .bool (x50.Y != x57.Y)), (22, 89, .bool (x50.Y != x57.Y)), (23, 90, .bool (x50.Y != x57.Y)), (24, 91, undef), (25, 92, undef), (26, 93, undef), (27, 94, undef), (28, 95, undef), (29, 96, undef), (30, 97, undef), (31, 98, undef), (32, 99, undef), (33, 100, undef), (34, 101, undef), (35, 102, undef), (36, 103, .bool true), (37, 104, .bool true), (38, 105, undef), (39, 106, undef), (40, 107, undef), (41, 108, undef), (42, 109, undef), (43, 110, undef), (44, 111, undef), (45, 112, undef), (46, 113, undef), (47, 114, undef), (48, 115, undef), (49, 116, .bool true)]) rfl S ?_
    refine node_by (A := anc_raddlelaw37_PieceGauge_0) (nf := []) (Y := []) (W := [(0, 67, .pointer (some ⟨b35, 0, none⟩)), (1, 68, .slice ad31 r24.1.Left.length cp32), (2, 69, iv (r24.1.Left.length : Int)), (3, 70, .bool ((r24.1.Left.length : Int) != 2)), (4, 71, .bool ((r24.1.Left.length : Int) != 2)), (5, 72, .pointer (some ⟨b35, 1, none⟩)), (6, 73, .slice ad33 r24.1.Right.length cp34), (7, 74, iv (r24.1.Right.length : Int)), (8, 75, .bool ((r24.1.Right.length : Int) != 2)), (9, 76, .bool ((r24.1.Right.length : Int) != 2)), (10, 77, .bool ((r24.1.Right.length : Int) != 2)), (11, 78, .pointer (some ⟨b35, 0, none⟩)), (12, 79, .slice ad31 r24.1.Left.length cp32), (13, 80, q65), (14, 81, q67), (15, 82, iv x50.Y), (16, 83, .pointer (some ⟨b35, 1, none⟩)), (17, 84, .slice ad33 r24.1.Right.length cp34), (18, 85, q70), (19, 86, q72), (20, 87, iv x57.Y), (21, 88, .bool (x50.Y != x57.Y)), (22, 89, .bool (x50.Y != x57.Y)), (23, 90, .bool (x50.Y != x57.Y)), (24, 91, undef), (25, 92, undef), (26, 93, undef), (27, 94, undef), (28, 95, undef), (29, 96, undef), (30, 97, undef), (31, 98, undef), (32, 99, undef), (33, 100, undef), (34, 101, undef), (35, 102, undef), (36, 103, .bool true), (37, 104, .bool true), (38, 105, undef), (39, 106, undef), (40, 107, undef), (41, 108, undef), (42, 109, undef), (43, 110, undef), (44, 111, undef), (45, 112, undef), (46, 113, undef), (47, 114, undef), (48, 115, undef), (49, 116, .bool true)]) 50 (by kernel_rfl) (by kernel_rfl) (by kernel_rfl) (by kernel_rfl) (by kernel_rfl) [0, 1, 2, 3, 4, 5, 6, 7, 8, 9, 10, 11, 12, 13, 14, 15, 16, 17, 18, 19, 20, 21, 22, 23, 24, 25, 26, 27, 28, 29, 30, 31, 32, 33, 34, 35, 36, 37, 38, 39, 40, 41, 42, 43, 44, 45, 46, 47, 48, 49] (by kernel_rfl) (by decide) (by decide) (aF 0 49 (by decide) ?_ (aF 1 48 (by decide) ?_ (aF 2 47 (by decide) ?_ (aF 3 46 (by decide) ?_ (aF 4 45 (by decide) ?_ (aF 5 44 (by decide) ?_ (aF 6 43 (by decide) ?_ (aF 7 42 (by decide) ?_ (aF 8 41 (by decide) ?_ (aF 9 40 (by decide) ?_ (aF 10 39 (by decide) ?_ (aF 11 38 (by decide) ?_ (aF 12 37 (by decide) ?_ (aF 13 36 (by decide) ?_ (aF 14 35 (by decide) ?_ (aF 15 34 (by decide) ?_ (aF 16 33 (by decide) ?_ (aF 17 32 (by decide) ?_ (aF 18 31 (by decide) ?_ (aF 19 30 (by decide) ?_ (aF 20 29 (by decide) ?_ (aF 21 28 (by decide) ?_ (aF 22 27 (by decide) ?_ (aF 23 26 (by decide) ?_ (aF 24 25 (by decide) ?_ (aF 25 24 (by decide) ?_ (aF 26 23 (by decide) ?_ (aF 27 22 (by decide) ?_ (aF 28 21 (by decide) ?_ (aF 29 20 (by decide) ?_ (aF 30 19 (by decide) ?_ (aF 31 18 (by decide) ?_ (aF 32 17 (by decide) ?_ (aF 33 16 (by decide) ?_ (aF 34 15 (by decide) ?_ (aF 35 14 (by decide) ?_ (aF 36 13 (by decide) ?_ (aF 37 12 (by decide) ?_ (aF 38 11 (by decide) ?_ (aF 39 10 (by decide) ?_ (aF 40 9 (by decide) ?_ (aF 41 8 (by decide) ?_ (aF 42 7 (by decide) ?_ (aF 43 6 (by decide) ?_ (aF 44 5 (by decide) ?_ (aF 45 4 (by decide) ?_ (aF 46 3 (by decide) ?_ (aF 47 2 (by decide) ?_ (aF 48 1 (by decide) ?_ (aF 49 0 (by decide) ?_ (trivial))))))))))))))))))))))))))))))))))))))))))))))))))) [(1, iv p1), (2, iv p2), (3, .pointer (some ⟨b2, 0, none⟩)), (7, .bool r4), (8, .pointer (some ⟨b35, 0, none⟩)), (116, .bool true)] (fin_of [none, none, none, none, none, some 49] rfl (by kernel_rfl) (by kernel_rfl)) (fun _ a w S => ?_)
    · refine fI 67 (.pointer (some ⟨b35, 0, none⟩)) [(8, .pointer (some ⟨b35, 0, none⟩))] 0 [none] rfl rfl rfl rfl rfl rfl fun G a w S => ?_
      refine sField (b := b35) (off := 0) 0 0 S (wN rfl) rfl rfl rfl rfl rfl (lb rfl) fun a S => ?_
      exact leafL ⟨rfl, S⟩
    · refine fI 68 (.slice ad31 r24.1.Left.length cp32) [(67, .pointer (some ⟨b35, 0, none⟩))] 1 [some 0] rfl rfl rfl rfl rfl rfl fun G a w S => ?_
      refine sLoad1 (p := b35) (off := 0) (T := 24) (vs := [.slice ad31 r24.1.Left.length cp32, .slice ad33 r24.1.Right.length cp34]) 0 (.slice ad31 r24.1.Left.length cp32) S (wN rfl) rfl rfl rfl rfl rfl rfl (lb rfl) fun a S => ?_
      exact leafL ⟨rfl, S⟩
    · refine fI 69 (iv (r24.1.Left.length : Int)) [(68, .slice ad31 r24.1.Left.length cp32)] 2 [some 1] rfl rfl rfl rfl rfl rfl fun G a w S => ?_
      refine sLen (ad := ad31) (m := r24.1.Left.length) (c := cp32) S (wN rfl) rfl Tryd.underlying22 rfl rfl (lb rfl) fun a S => ?_
      exact leafL ⟨rfl, S⟩
    · refine fI 70 (.bool ((r24.1.Left.length : Int) != 2)) [(69, iv (r24.1.Left.length : Int))] 3 [some 2] rfl rfl rfl rfl rfl rfl fun G a w S => ?_
      refine sBin (.bool ((r24.1.Left.length : Int) != 2)) S (wN rfl) rfl rfl rfl (bNe _ _ _ _ .i64 (r24.1.Left.length : Int) 2) rfl (lb rfl) fun a S => ?_
      exact leafL ⟨rfl, S⟩
    · refine fI 71 (.bool ((r24.1.Left.length : Int) != 2)) [(70, .bool ((r24.1.Left.length : Int) != 2))] 4 [some 3] rfl rfl rfl rfl rfl rfl fun G a w S => ?_
      refine sMove (.bool ((r24.1.Left.length : Int) != 2)) S (wN rfl) (.inl rfl) rfl rfl (lb rfl) fun a S => ?_
      exact leafL ⟨rfl, S⟩
    · refine fI 72 (.pointer (some ⟨b35, 1, none⟩)) [(8, .pointer (some ⟨b35, 0, none⟩)), (71, .bool ((r24.1.Left.length : Int) != 2))] 5 [none, some 4] rfl rfl rfl rfl rfl rfl fun G a w S => ?_
      refine sField (b := b35) (off := 0) 1 1 S (wG 4 false 71 rfl rfl rfl hc48) rfl rfl rfl rfl rfl (lb rfl) fun a S => ?_
      exact leafL ⟨rfl, S⟩
    · refine fI 73 (.slice ad33 r24.1.Right.length cp34) [(72, .pointer (some ⟨b35, 1, none⟩)), (71, .bool ((r24.1.Left.length : Int) != 2))] 6 [some 5, some 4] rfl rfl rfl rfl rfl rfl fun G a w S => ?_
      refine sLoad1 (p := b35) (off := 1) (T := 24) (vs := [.slice ad31 r24.1.Left.length cp32, .slice ad33 r24.1.Right.length cp34]) 0 (.slice ad33 r24.1.Right.length cp34) S (wG 4 false 71 rfl rfl rfl hc48) rfl rfl rfl rfl rfl rfl (lb rfl) fun a S => ?_
      exact leafL ⟨rfl, S⟩
    · refine fI 74 (iv (r24.1.Right.length : Int)) [(73, .slice ad33 r24.1.Right.length cp34), (71, .bool ((r24.1.Left.length : Int) != 2))] 7 [some 6, some 4] rfl rfl rfl rfl rfl rfl fun G a w S => ?_
      refine sLen (ad := ad33) (m := r24.1.Right.length) (c := cp34) S (wG 4 false 71 rfl rfl rfl hc48) rfl Tryd.underlying22 rfl rfl (lb rfl) fun a S => ?_
      exact leafL ⟨rfl, S⟩
    · refine fI 75 (.bool ((r24.1.Right.length : Int) != 2)) [(74, iv (r24.1.Right.length : Int)), (71, .bool ((r24.1.Left.length : Int) != 2))] 8 [some 7, some 4] rfl rfl rfl rfl rfl rfl fun G a w S => ?_
      refine sBin (.bool ((r24.1.Right.length : Int) != 2)) S (wG 4 false 71 rfl rfl rfl hc48) rfl rfl rfl (bNe _ _ _ _ .i64 (r24.1.Right.length : Int) 2) rfl (lb rfl) fun a S => ?_
      exact leafL ⟨rfl, S⟩
    · refine fI 76 (.bool ((r24.1.Right.length : Int) != 2)) [(71, .bool ((r24.1.Left.length : Int) != 2)), (75, .bool ((r24.1.Right.length : Int) != 2))] 9 [some 4, some 8] rfl rfl rfl rfl rfl rfl fun G a w S => ?_
      refine sPickF (.bool ((r24.1.Right.length : Int) != 2)) S (wN rfl) rfl rfl hc48 rfl rfl (lb rfl) fun a S => ?_
      exact leafL ⟨rfl, S⟩
    · refine fI 77 (.bool ((r24.1.Right.length : Int) != 2)) [(76, .bool ((r24.1.Right.length : Int) != 2))] 10 [some 9] rfl rfl rfl rfl rfl rfl fun G a w S => ?_
      refine sMove (.bool ((r24.1.Right.length : Int) != 2)) S (wN rfl) (.inl rfl) rfl rfl (lb rfl) fun a S => ?_
      exact leafL ⟨rfl, S⟩
    · refine fI 78 (.pointer (some ⟨b35, 0, none⟩)) [(8, .pointer (some ⟨b35, 0, none⟩)), (77, .bool ((r24.1.Right.length : Int) != 2))] 11 [none, some 10] rfl rfl rfl rfl rfl rfl fun G a w S => ?_
      refine sField (b := b35) (off := 0) 0 0 S (wG 10 false 77 rfl rfl rfl hc49) rfl rfl rfl rfl rfl (lb rfl) fun a S => ?_
      exact leafL ⟨rfl, S⟩
    · refine fI 79 (.slice ad31 r24.1.Left.length cp32) [(78, .pointer (some ⟨b35, 0, none⟩)), (77, .bool ((r24.1.Right.length : Int) != 2))] 12 [some 11, some 10] rfl rfl rfl rfl rfl rfl fun G a w S => ?_
      refine sLoad1 (p := b35) (off := 0) (T := 24) (vs := [.slice ad31 r24.1.Left.length cp32, .slice ad33 r24.1.Right.length cp34]) 0 (.slice ad31 r24.1.Left.length cp32) S (wG 10 false 77 rfl rfl rfl hc49) rfl rfl rfl rfl rfl rfl (lb rfl) fun a S => ?_
      exact leafL ⟨rfl, S⟩
    · refine fI 80 q65 [(79, .slice ad31 r24.1.Left.length cp32), (77, .bool ((r24.1.Right.length : Int) != 2))] 13 [some 12, some 10] rfl rfl rfl rfl rfl rfl fun G a w S => ?_
      refine sIdxV (v := .slice ad31 r24.1.Left.length cp32) (k := .i64) (j := 1) S (wG 10 false 77 rfl rfl rfl hc49) rfl rfl rfl hq66 rfl (lb rfl) fun a S => ?_
      exact leafL ⟨rfl, S⟩
    · refine fI 81 q67 [(80, q65), (77, .bool ((r24.1.Right.length : Int) != 2))] 14 [some 13, some 10] rfl rfl rfl rfl rfl rfl fun G a w S => ?_
      refine sFldV (q := q65) S (wG 10 false 77 rfl rfl rfl hc49) rfl rfl hq68 rfl (lb rfl) fun a S => ?_
      exact leafL ⟨rfl, S⟩
    · refine fI 82 (iv x50.Y) [(81, q67), (77, .bool ((r24.1.Right.length : Int) != 2))] 15 [some 14, some 10] rfl rfl rfl rfl rfl rfl fun G a w S => ?_
      refine sLoadV1 (vq := q67) 4 (iv x50.Y) S (wG 10 false 77 rfl rfl rfl hc49) rfl rfl rfl rfl rfl (lb rfl) fun a S => ?_
      exact leafL ⟨rfl, S⟩
    · refine fI 83 (.pointer (some ⟨b35, 1, none⟩)) [(8, .pointer (some ⟨b35, 0, none⟩)), (77, .bool ((r24.1.Right.length : Int) != 2))] 16 [none, some 10] rfl rfl rfl rfl rfl rfl fun G a w S => ?_
      refine sField (b := b35) (off := 0) 1 1 S (wG 10 false 77 rfl rfl rfl hc49) rfl rfl rfl rfl rfl (lb rfl) fun a S => ?_
      exact leafL ⟨rfl, S⟩
    · refine fI 84 (.slice ad33 r24.1.Right.length cp34) [(83, .pointer (some ⟨b35, 1, none⟩)), (77, .bool ((r24.1.Right.length : Int) != 2))] 17 [some 16, some 10] rfl rfl rfl rfl rfl rfl fun G a w S => ?_
      refine sLoad1 (p := b35) (off := 1) (T := 24) (vs := [.slice ad31 r24.1.Left.length cp32, .slice ad33 r24.1.Right.length cp34]) 0 (.slice ad33 r24.1.Right.length cp34) S (wG 10 false 77 rfl rfl rfl hc49) rfl rfl rfl rfl rfl rfl (lb rfl) fun a S => ?_
      exact leafL ⟨rfl, S⟩
    · refine fI 85 q70 [(84, .slice ad33 r24.1.Right.length cp34), (77, .bool ((r24.1.Right.length : Int) != 2))] 18 [some 17, some 10] rfl rfl rfl rfl rfl rfl fun G a w S => ?_
      refine sIdxV (v := .slice ad33 r24.1.Right.length cp34) (k := .i64) (j := 1) S (wG 10 false 77 rfl rfl rfl hc49) rfl rfl rfl hq71 rfl (lb rfl) fun a S => ?_
      exact leafL ⟨rfl, S⟩
    · refine fI 86 q72 [(85, q70), (77, .bool ((r24.1.Right.length : Int) != 2))] 19 [some 18, some 10] rfl rfl rfl rfl rfl rfl fun G a w S => ?_
      refine sFldV (q := q70) S (wG 10 false 77 rfl rfl rfl hc49) rfl rfl hq73 rfl (lb rfl) fun a S => ?_
      exact leafL ⟨rfl, S⟩
    · refine fI 87 (iv x57.Y) [(86, q72), (77, .bool ((r24.1.Right.length : Int) != 2))] 20 [some 19, some 10] rfl rfl rfl rfl rfl rfl fun G a w S => ?_
      refine sLoadV1 (vq := q72) 0 (iv x57.Y) S (wG 10 false 77 rfl rfl rfl hc49) rfl rfl rfl rfl rfl (lb rfl) fun a S => ?_
      exact leafL ⟨rfl, S⟩
    · refine fI 88 (.bool (x50.Y != x57.Y)) [(82, iv x50.Y), (87, iv x57.Y), (77, .bool ((r24.1.Right.length : Int) != 2))] 21 [some 15, some 20, some 10] rfl rfl rfl rfl rfl rfl fun G a w S => ?_
      refine sBin (.bool (x50.Y != x57.Y)) S (wG 10 false 77 rfl rfl rfl hc49) rfl rfl rfl (bNe _ _ _ _ .i64 x50.Y x57.Y) rfl (lb rfl) fun a S => ?_
      exact leafL ⟨rfl, S⟩
    · refine fI 89 (.bool (x50.Y != x57.Y)) [(77, .bool ((r24.1.Right.length : Int) != 2)), (88, .bool (x50.Y != x57.Y))] 22 [some 10, some 21] rfl rfl rfl rfl rfl rfl fun G a w S => ?_
      refine sPickF (.bool (x50.Y != x57.Y)) S (wN rfl) rfl rfl hc49 rfl rfl (lb rfl) fun a S => ?_
      exact leafL ⟨rfl, S⟩
    · refine fI 90 (.bool (x50.Y != x57.Y)) [(89, .bool (x50.Y != x57.Y))] 23 [some 22] rfl rfl rfl rfl rfl rfl fun G a w S => ?_
      refine sMove (.bool (x50.Y != x57.Y)) S (wN rfl) (.inl rfl) rfl rfl (lb rfl) fun a S => ?_
      exact leafL ⟨rfl, S⟩
    · refine fI 91 undef [(8, .pointer (some ⟨b35, 0, none⟩)), (90, .bool (x50.Y != x57.Y))] 24 [none, some 23] rfl rfl rfl rfl rfl rfl fun G a w S => ?_
      refine sSkip 23 false 90 91 S rfl rfl rfl hc64 rfl (lb rfl) fun a S => ?_
      exact leafL ⟨rfl, S⟩
    · refine fI 92 undef [(91, undef), (90, .bool (x50.Y != x57.Y))] 25 [some 24, some 23] rfl rfl rfl rfl rfl rfl fun G a w S => ?_
      refine sSkip 23 false 90 92 S rfl rfl rfl hc64 rfl (lb rfl) fun a S => ?_
      exact leafL ⟨rfl, S⟩
    · refine fI 93 undef [(92, undef), (90, .bool (x50.Y != x57.Y))] 26 [some 25, some 23] rfl rfl rfl rfl rfl rfl fun G a w S => ?_
      refine sSkip 23 false 90 93 S rfl rfl rfl hc64 rfl (lb rfl) fun a S => ?_
      exact leafL ⟨rfl, S⟩
    · refine fI 94 undef [(93, undef), (90, .bool (x50.Y != x57.Y))] 27 [some 26, some 23] rfl rfl rfl rfl rfl rfl fun G a w S => ?_
      refine sSkip 23 false 90 94 S rfl rfl rfl hc64 rfl (lb rfl) fun a S => ?_
      exact leafL ⟨rfl, S⟩
    · refine fI 95 undef [(94, undef), (90, .bool (x50.Y != x57.Y))] 28 [some 27, some 23] rfl rfl rfl rfl rfl rfl fun G a w S => ?_
      refine sSkip 23 false 90 95 S rfl rfl rfl hc64 rfl (lb rfl) fun a S => ?_
      exact leafL ⟨rfl, S⟩
    · refine fI 96 undef [(8, .pointer (some ⟨b35, 0, none⟩)), (90, .bool (x50.Y != x57.Y))] 29 [none, some 23] rfl rfl rfl rfl rfl rfl fun G a w S => ?_
      refine sSkip 23 false 90 96 S rfl rfl rfl hc64 rfl (lb rfl) fun a S => ?_
      exact leafL ⟨rfl, S⟩
    · refine fI 97 undef [(96, undef), (90, .bool (x50.Y != x57.Y))] 30 [some 29, some 23] rfl rfl rfl rfl rfl rfl fun G a w S => ?_
      refine sSkip 23 false 90 97 S rfl rfl rfl hc64 rfl (lb rfl) fun a S => ?_
      exact leafL ⟨rfl, S⟩
    · refine fI 98 undef [(97, undef), (90, .bool (x50.Y != x57.Y))] 31 [some 30, some 23] rfl rfl rfl rfl rfl rfl fun G a w S => ?_
      refine sSkip 23 false 90 98 S rfl rfl rfl hc64 rfl (lb rfl) fun a S => ?_
      exact leafL ⟨rfl, S⟩
    · refine fI 99 undef [(98, undef), (90, .bool (x50.Y != x57.Y))] 32 [some 31, some 23] rfl rfl rfl rfl rfl rfl fun G a w S => ?_
      refine sSkip 23 false 90 99 S rfl rfl rfl hc64 rfl (lb rfl) fun a S => ?_
      exact leafL ⟨rfl, S⟩
    · refine fI 100 undef [(99, undef), (90, .bool (x50.Y != x57.Y))] 33 [some 32, some 23] rfl rfl rfl rfl rfl rfl fun G a w S => ?_
      refine sSkip 23 false 90 100 S rfl rfl rfl hc64 rfl (lb rfl) fun a S => ?_
      exact leafL ⟨rfl, S⟩
    · refine fI 101 undef [(100, undef), (90, .bool (x50.Y != x57.Y))] 34 [some 33, some 23] rfl rfl rfl rfl rfl rfl fun G a w S => ?_
      refine sSkip 23 false 90 101 S rfl rfl rfl hc64 rfl (lb rfl) fun a S => ?_
      exact leafL ⟨rfl, S⟩
    · refine fI 102 undef [(95, undef), (101, undef), (90, .bool (x50.Y != x57.Y))] 35 [some 28, some 34, some 23] rfl rfl rfl rfl rfl rfl fun G a w S => ?_
      refine sSkip 23 false 90 102 S rfl rfl rfl hc64 rfl (lb rfl) fun a S => ?_
      exact leafL ⟨rfl, S⟩
    · refine fI 103 (.bool true) [(90, .bool (x50.Y != x57.Y)), (102, undef)] 36 [some 23, some 35] rfl rfl rfl rfl rfl rfl fun G a w S => ?_
      refine sPickT (.bool true) S (wN rfl) rfl rfl hc64 rfl rfl (lb rfl) fun a S => ?_
      exact leafL ⟨rfl, S⟩
    · refine fI 104 (.bool true) [(103, .bool true)] 37 [some 36] rfl rfl rfl rfl rfl rfl fun G a w S => ?_
      refine sMove (.bool true) S (wN rfl) (.inl rfl) rfl rfl (lb rfl) fun a S => ?_
      exact leafL ⟨rfl, S⟩
    · refine fI 105 undef [(8, .pointer (some ⟨b35, 0, none⟩)), (104, .bool true)] 38 [none, some 37] rfl rfl rfl rfl rfl rfl fun G a w S => ?_
      refine sSkip 37 false 104 105 S rfl rfl rfl rfl rfl (lb rfl) fun a S => ?_
      exact leafL ⟨rfl, S⟩
    · refine fI 106 undef [(105, undef), (104, .bool true)] 39 [some 38, some 37] rfl rfl rfl rfl rfl rfl fun G a w S => ?_
      refine sSkip 37 false 104 106 S rfl rfl rfl rfl rfl (lb rfl) fun a S => ?_
      exact leafL ⟨rfl, S⟩
    · refine fI 107 undef [(106, undef), (104, .bool true)] 40 [some 39, some 37] rfl rfl rfl rfl rfl rfl fun G a w S => ?_
      refine sSkip 37 false 104 107 S rfl rfl rfl rfl rfl (lb rfl) fun a S => ?_
      exact leafL ⟨rfl, S⟩
    · refine fI 108 undef [(107, undef), (104, .bool true)] 41 [some 40, some 37] rfl rfl rfl rfl rfl rfl fun G a w S => ?_
      refine sSkip 37 false 104 108 S rfl rfl rfl rfl rfl (lb rfl) fun a S => ?_
      exact leafL ⟨rfl, S⟩
    · refine fI 109 undef [(108, undef), (104, .bool true)] 42 [some 41, some 37] rfl rfl rfl rfl rfl rfl fun G a w S => ?_
      refine sSkip 37 false 104 109 S rfl rfl rfl rfl rfl (lb rfl) fun a S => ?_
      exact leafL ⟨rfl, S⟩
    · refine fI 110 undef [(8, .pointer (some ⟨b35, 0, none⟩)), (104, .bool true)] 43 [none, some 37] rfl rfl rfl rfl rfl rfl fun G a w S => ?_
      refine sSkip 37 false 104 110 S rfl rfl rfl rfl rfl (lb rfl) fun a S => ?_
      exact leafL ⟨rfl, S⟩
    · refine fI 111 undef [(110, undef), (104, .bool true)] 44 [some 43, some 37] rfl rfl rfl rfl rfl rfl fun G a w S => ?_
      refine sSkip 37 false 104 111 S rfl rfl rfl rfl rfl (lb rfl) fun a S => ?_
      exact leafL ⟨rfl, S⟩
    · refine fI 112 undef [(111, undef), (104, .bool true)] 45 [some 44, some 37] rfl rfl rfl rfl rfl rfl fun G a w S => ?_
      refine sSkip 37 false 104 112 S rfl rfl rfl rfl rfl (lb rfl) fun a S => ?_
      exact leafL ⟨rfl, S⟩
    · refine fI 113 undef [(112, undef), (104, .bool true)] 46 [some 45, some 37] rfl rfl rfl rfl rfl rfl fun G a w S => ?_
      refine sSkip 37 false 104 113 S rfl rfl rfl rfl rfl (lb rfl) fun a S => ?_
      exact leafL ⟨rfl, S⟩
    · refine fI 114 undef [(113, undef), (104, .bool true)] 47 [some 46, some 37] rfl rfl rfl rfl rfl rfl fun G a w S => ?_
      refine sSkip 37 false 104 114 S rfl rfl rfl rfl rfl (lb rfl) fun a S => ?_
      exact leafL ⟨rfl, S⟩
    · refine fI 115 undef [(109, undef), (114, undef), (104, .bool true)] 48 [some 42, some 47, some 37] rfl rfl rfl rfl rfl rfl fun G a w S => ?_
      refine sSkip 37 false 104 115 S rfl rfl rfl rfl rfl (lb rfl) fun a S => ?_
      exact leafL ⟨rfl, S⟩
    · refine fI 116 (.bool true) [(104, .bool true), (115, undef)] 49 [some 37, some 48] rfl rfl rfl rfl rfl rfl fun G a w S => ?_
      refine sPickT (.bool true) S (wN rfl) rfl rfl rfl rfl rfl (lb rfl) fun a S => ?_
      exact leafL ⟨rfl, S⟩
    exact leafT (⟨true, Option.some.inj h, S.fix [1, 0] [9, 8] (by decide) rfl rfl rfl⟩)
  rcases iteSome h with ⟨hc85, h⟩ | ⟨hc85, h⟩
  · obtain ⟨q86, hq87, S⟩ := pIdx (P := Tryd.prog) (r := r_api_Point) (v := .slice ad31 r24.1.Left.length cp32) (xs := r24.1.Left) (j := 1) 22 35 1 S Tryd.underlying22 rfl rfl hx51
    obtain ⟨q88, hq89, S⟩ := pFld (P := Tryd.prog) (r := r_api_Point) (s2 := (rI .i64)) (g := (·.Y)) (q := q86) (z := x50) 35 1 0 1 S rfl rfl comp_api_Point_Y
    obtain ⟨u90, S⟩ := pLoad (r := (rI .i64)) (q := q88) (x := x50.Y) 0 S rfl
    obtain rfl : u90 = iv x50.Y := S.mem.know (i := 1) (e := fRep (rI .i64) (u90) x50.Y) rfl
    obtain ⟨q91, hq92, S⟩ := pIdx (P := Tryd.prog) (r := r_api_Point) (v := .slice ad33 r24.1.Right.length cp34) (xs := r24.1.Right) (j := 1) 22 35 4 S Tryd.underlying22 rfl rfl hx58
    obtain ⟨q93, hq94, S⟩ := pFld (P := Tryd.prog) (r := r_api_Point) (s2 := (rI .i64)) (g := (·.Y)) (q := q91) (z := x57) 35 1 0 1 S rfl rfl comp_api_Point_Y
    obtain ⟨u95, S⟩ := pLoad (r := (rI .i64)) (q := q93) (x := x57.Y) 0 S rfl
    obtain rfl : u95 = iv x57.Y := S.mem.know (i := 1) (e := fRep (rI .i64) (u95) x57.Y) rfl
    obtain ⟨q96, hq97, S⟩ := pIdx (P := Tryd.prog) (r := r_api_Point) (v := .slice ad31 r24.1.Left.length cp32) (xs := r24.1.Left) (j := 1) 22 35 9 S Tryd.underlying22 rfl rfl hx51
    obtain ⟨q98, hq99, S⟩ := pFld (P := Tryd.prog) (r := r_api_Point) (s2 := (rI .i64)) (g := (·.X)) (q := q96) (z := x50) 35 0 0 0 S rfl rfl comp_api_Point_X
    obtain ⟨u100, S⟩ := pLoad (r := (rI .i64)) (q := q98) (x := x50.X) 0 S rfl
    obtain rfl : u100 = iv x50.X := S.mem.know (i := 1) (e := fRep (rI .i64) (u100) x50.X) rfl
    obtain ⟨q101, hq102, S⟩ := pIdx (P := Tryd.prog) (r := r_api_Point) (v := .slice ad33 r24.1.Right.length cp34) (xs := r24.1.Right) (j := 1) 22 35 12 S Tryd.underlying22 rfl rfl hx58
    obtain ⟨q103, hq104, S⟩ := pFld (P := Tryd.prog) (r := r_api_Point) (s2 := (rI .i64)) (g := (·.X)) (q := q101) (z := x57) 35 0 0 0 S rfl rfl comp_api_Point_X
    obtain ⟨u105, S⟩ := pLoad (r := (rI .i64)) (q := q103) (x := x57.X) 0 S rfl
    obtain rfl : u105 = iv x57.X := S.mem.know (i := 1) (e := fRep (rI .i64) (u105) x57.X) rfl
    refine sDraw (nf := []) (W := [(0, 67, .pointer (some ⟨b35, 0, none⟩)), (1, 68, .slice ad31 r24.1.Left.length cp32), (2, 69, iv (r24.1.Left.length : Int)), (3, 70, .bool ((r24.1.Left.length : Int) != 2)), (4, 71, .bool ((r24.1.Left.length : Int) != 2)), (5, 72, .pointer (some ⟨b35, 1, none⟩)), (6, 73, .slice ad33 r24.1.Right.length cp34), (7, 74, iv (r24.1.Right.length : Int)), (8, 75, .bool ((r24.1.Right.length : Int) != 2)), (9, 76, .bool ((r24.1.Right.length : Int) != 2)), (10, 77, .bool ((r24.1.Right.length : Int) != 2)), (11, 78, .pointer (some ⟨b35, 0, none⟩)), (12, 79, .slice ad31 r24.1.Left.length cp32), (13, 80, q86), (14, 81, q88), (15, 82, iv x50.Y), (16, 83, .pointer (some ⟨b35, 1, none⟩)), (17, 84, .slice ad33 r24.1.Right.length cp34), (18, 85, q91), (19, 86, q93), (20, 87, iv x57.Y), (21, 88, .bool (x50.Y != x57.Y)), (22, 89, .bool (x50.Y != x57.Y)), (23, 90, .bool (x50.Y != x57.Y)), (24, 91, .pointer (some ⟨b35, 0, none⟩)), (25, 92, .slice ad31 r24.1.Left.length cp32), (26, 93, q96), (27, 94, q98), (28, 95, iv x50.X), (29, 96, .pointer (some ⟨b35, 1, none⟩)), (30, 97, .slice ad33 r24.1.Right.length cp34), (31, 98, q101), (32, 99, q103), (33, 100, iv x57.X), (34, 101, iv (w64 (0 - x57.X))), (35, 102, .bool (x50.X != (w64 (0 - x57.X)))), (36, 103, .bool (x50.X != (w64 (0 - x57.X)))), (37, 104, .bool (x50.X != (w64 (0 - x57.X)))), (38, 105, undef), (39, 106, undef), (40, 107, undef), (41, 108, undef), (42, 109, undef), (43, 110, undef), (44, 111, undef), (45, 112, undef), (46, 113, undef), (47, 114, undef), (48, 115, undef), (49, 116, .bool true)]) rfl S ?_
    refine node_by (A := anc_raddlelaw37_PieceGauge_0) (nf := []) (Y := []) (W := [(0, 67, .pointer (some ⟨b35, 0, none⟩)), (1, 68, .slice ad31 r24.1.Left.length cp32), (2, 69, iv (r24.1.Left.length : Int)), (3, 70, .bool ((r24.1.Left.length : Int) != 2)), (4, 71, .bool ((r24.1.Left.length : Int) != 2)), (5, 72, .pointer (some ⟨b35, 1, none⟩)), (6, 73, .slice ad33 r24.1.Right.length cp34), (7, 74, iv (r24.1.Right.length : Int)), (8, 75, .bool ((r24.1.Right.length : Int) != 2)), (9, 76, .bool ((r24.1.Right.length : Int) != 2)), (10, 77, .bool ((r24.1.Right.length : Int) != 2)), (11, 78, .pointer (some ⟨b35, 0, none⟩)), (12, 79, .slice ad31 r24.1.Left.length cp32), (13, 80, q86), (14, 81, q88), (15, 82, iv x50.Y), (16, 83, .pointer (some ⟨b35, 1, none⟩)), (17, 84, .slice ad33 r24.1.Right.length cp34), (18, 85, q91), (19, 86, q93), (20, 87, iv x57.Y), (21, 88, .bool (x50.Y != x57.Y)), (22, 89, .bool (x50.Y != x57.Y)), (23, 90, .bool (x50.Y != x57.Y)), (24, 91, .pointer (some ⟨b35, 0, none⟩)), (25, 92, .slice ad31 r24.1.Left.length cp32), (26, 93, q96), (27, 94, q98), (28, 95, iv x50.X), (29, 96, .pointer (some ⟨b35, 1, none⟩)), (30, 97, .slice ad33 r24.1.Right.length cp34), (31, 98, q101), (32, 99, q103), (33, 100, iv x57.X), (34, 101, iv (w64 (0 - x57.X))), (35, 102, .bool (x50.X != (w64 (0 - x57.X)))), (36, 103, .bool (x50.X != (w64 (0 - x57.X)))), (37, 104, .bool (x50.X != (w64 (0 - x57.X)))), (38, 105, undef), (39, 106, undef), (40, 107, undef), (41, 108, undef), (42, 109, undef), (43, 110, undef), (44, 111, undef), (45, 112, undef), (46, 113, undef), (47, 114, undef), (48, 115, undef), (49, 116, .bool true)]) 50 (by kernel_rfl) (by kernel_rfl) (by kernel_rfl) (by kernel_rfl) (by kernel_rfl) [0, 1, 2, 3, 4, 5, 6, 7, 8, 9, 10, 11, 12, 13, 14, 15, 16, 17, 18, 19, 20, 21, 22, 23, 24, 25, 26, 27, 28, 29, 30, 31, 32, 33, 34, 35, 36, 37, 38, 39, 40, 41, 42, 43, 44, 45, 46, 47, 48, 49] (by kernel_rfl) (by decide) (by decide) (aF 0 49 (by decide) ?_ (aF 1 48 (by decide) ?_ (aF 2 47 (by decide) ?_ (aF 3 46 (by decide) ?_ (aF 4 45 (by decide) ?_ (aF 5 44 (by decide) ?_ (aF 6 43 (by decide) ?_ (aF 7 42 (by decide) ?_ (aF 8 41 (by decide) ?_ (aF 9 40 (by decide) ?_ (aF 10 39 (by decide) ?_ (aF 11 38 (by decide) ?_ (aF 12 37 (by decide) ?_ (aF 13 36 (by decide) ?_ (aF 14 35 (by decide) ?_ (aF 15 34 (by decide) ?_ (aF 16 33 (by decide) ?_ (aF 17 32 (by decide) ?_ (aF 18 31 (by decide) ?_ (aF 19 30 (by decide) ?_ (aF 20 29 (by decide) ?_ (aF 21 28 (by decide) ?_ (aF 22 27 (by decide) ?_ (aF 23 26 (by decide) ?_ (aF 24 25 (by decide) ?_ (aF 25 24 (by decide) ?_ (aF 26 23 (by decide) ?_ (aF 27 22 (by decide) ?_ (aF 28 21 (by decide) ?_ (aF 29 20 (by decide) ?_ (aF 30 19 (by decide) ?_ (aF 31 18 (by decide) ?_ (aF 32 17 (by decide) ?_ (aF 33 16 (by decide) ?_ (aF 34 15 (by decide) ?_ (aF 35 14 (by decide) ?_ (aF 36 13 (by decide) ?_ (aF 37 12 (by decide) ?_ (aF 38 11 (by decide) ?_ (aF 39 10 (by decide) ?_ (aF 40 9 (by decide) ?_ (aF 41 8 (by decide) ?_ (aF 42 7 (by decide) ?_ (aF 43 6 (by decide) ?_ (aF 44 5 (by decide) ?_ (aF 45 4 (by decide) ?_ (aF 46 3 (by decide) ?_ (aF 47 2 (by decide) ?_ (aF 48 1 (by decide) ?_ (aF 49 0 (by decide) ?_ (trivial))))))))))))))))))))))))))))))))))))))))))))))))))) [(1, iv p1), (2, iv p2), (3, .pointer (some ⟨b2, 0, none⟩)), (7, .bool r4), (8, .pointer (some ⟨b35, 0, none⟩)), (116, .bool true)] (fin_of [none, none, none, none, none, some 49] rfl (by kernel_rfl) (by kernel_rfl)) (fun _ a w S => ?_)
    · refine fI 67 (.pointer (some ⟨b35, 0, none⟩)) [(8, .pointer (some ⟨b35, 0, none⟩))] 0 [none] rfl rfl rfl rfl rfl rfl fun G a w S => ?_
      refine sField (b := b35) (off := 0) 0 0 S (wN rfl) rfl rfl rfl rfl rfl (lb rfl) fun a S => ?_
      exact leafL ⟨rfl, S⟩
    · refine fI 68 (.slice ad31 r24.1.Left.length cp32) [(67, .pointer (some ⟨b35, 0, none⟩))] 1 [some 0] rfl rfl rfl rfl rfl rfl fun G a w S => ?_
      refine sLoad1 (p := b35) (off := 0) (T := 24) (vs := [.slice ad31 r24.1.Left.length cp32, .slice ad33 r24.1.Right.length cp34]) 0 (.slice ad31 r24.1.Left.length cp32) S (wN rfl) rfl rfl rfl rfl rfl rfl (lb rfl) fun a S => ?_
      exact leafL ⟨rfl, S⟩
    · refine fI 69 (iv (r24.1.Left.length : Int)) [(68, .slice ad31 r24.1.Left.length cp32)] 2 [some 1] rfl rfl rfl rfl rfl rfl fun G a w S => ?_
      refine sLen (ad := ad31) (m := r24.1.Left.length) (c := cp32) S (wN rfl) rfl Tryd.underlying22 rfl rfl (lb rfl) fun a S => ?_
      exact leafL ⟨rfl, S⟩
    · refine fI 70 (.bool ((r24.1.Left.length : Int) != 2)) [(69, iv (r24.1.Left.length : Int))] 3 [some 2] rfl rfl rfl rfl rfl rfl fun G a w S => ?_
      refine sBin (.bool ((r24.1.Left.length : Int) != 2)) S (wN rfl) rfl rfl rfl (bNe _ _ _ _ .i64 (r24.1.Left.length : Int) 2) rfl (lb rfl) fun a S => ?_
      exact leafL ⟨rfl, S⟩
    · refine fI 71 (.bool ((r24.1.Left.length : Int) != 2)) [(70, .bool ((r24.1.Left.length : Int) != 2))] 4 [some 3] rfl rfl rfl rfl rfl rfl fun G a w S => ?_
      refine sMove (.bool ((r24.1.Left.length : Int) != 2)) S (wN rfl) (.inl rfl) rfl rfl (lb rfl) fun a S => ?_
      exact leafL ⟨rfl, S⟩
    · refine fI 72 (.pointer (some ⟨b35, 1, none⟩)) [(8, .pointer (some ⟨b35, 0, none⟩)), (71, .bool ((r24.1.Left.length : Int) != 2))] 5 [none, some 4] rfl rfl rfl rfl rfl rfl fun G a w S => ?_
      refine sField (b := b35) (off := 0) 1 1 S (wG 4 false 71 rfl rfl rfl hc48) rfl rfl rfl rfl rfl (lb rfl) fun a S => ?_
      exact leafL ⟨rfl, S⟩
    · refine fI 73 (.slice ad33 r24.1.Right.length cp34) [(72, .pointer (some ⟨b35, 1, none⟩)), (71, .bool ((r24.1.Left.length : Int) != 2))] 6 [some 5, some 4] rfl rfl rfl rfl rfl rfl fun G a w S => ?_
      refine sLoad1 (p := b35) (off := 1) (T := 24) (vs := [.slice ad31 r24.1.Left.length cp32, .slice ad33 r24.1.Right.length cp34]) 0 (.slice ad33 r24.1.Right.length cp34) S (wG 4 false 71 rfl rfl rfl hc48) rfl rfl rfl rfl rfl rfl (lb rfl) fun a S => ?_
      exact leafL ⟨rfl, S⟩
    · refine fI 74 (iv (r24.1.Right.length : Int)) [(73, .slice ad33 r24.1.Right.length cp34), (71, .bool ((r24.1.Left.length : Int) != 2))] 7 [some 6, some 4] rfl rfl rfl rfl rfl rfl fun G a w S => ?_
      refine sLen (ad := ad33) (m := r24.1.Right.length) (c := cp34) S (wG 4 false 71 rfl rfl rfl hc48) rfl Tryd.underlying22 rfl rfl (lb rfl) fun a S => ?_
      exact leafL ⟨rfl, S⟩
    · refine fI 75 (.bool ((r24.1.Right.length : Int) != 2)) [(74, iv (r24.1.Right.length : Int)), (71, .bool ((r24.1.Left.length : Int) != 2))] 8 [some 7, some 4] rfl rfl rfl rfl rfl rfl fun G a w S => ?_
      refine sBin (.bool ((r24.1.Right.length : Int) != 2)) S (wG 4 false 71 rfl rfl rfl hc48) rfl rfl rfl (bNe _ _ _ _ .i64 (r24.1.Right.length : Int) 2) rfl (lb rfl) fun a S => ?_
      exact leafL ⟨rfl, S⟩
    · refine fI 76 (.bool ((r24.1.Right.length : Int) != 2)) [(71, .bool ((r24.1.Left.length : Int) != 2)), (75, .bool ((r24.1.Right.length : Int) != 2))] 9 [some 4, some 8] rfl rfl rfl rfl rfl rfl fun G a w S => ?_
      refine sPickF (.bool ((r24.1.Right.length : Int) != 2)) S (wN rfl) rfl rfl hc48 rfl rfl (lb rfl) fun a S => ?_
      exact leafL ⟨rfl, S⟩
    · refine fI 77 (.bool ((r24.1.Right.length : Int) != 2)) [(76, .bool ((r24.1.Right.length : Int) != 2))] 10 [some 9] rfl rfl rfl rfl rfl rfl fun G a w S => ?_
      refine sMove (.bool ((r24.1.Right.length : Int) != 2)) S (wN rfl) (.inl rfl) rfl rfl (lb rfl) fun a S => ?_
      exact leafL ⟨rfl, S⟩
    · refine fI 78 (.pointer (some ⟨b35, 0, none⟩)) [(8, .pointer (some ⟨b35, 0, none⟩)), (77, .bool ((r24.1.Right.length : Int) != 2))] 11 [none, some 10] rfl rfl rfl rfl rfl rfl fun G a w S => ?_
      refine sField (b := b35) (off := 0) 0 0 S (wG 10 false 77 rfl rfl rfl hc49) rfl rfl rfl rfl rfl (lb rfl) fun a S => ?_
      exact leafL ⟨rfl, S⟩
    · refine fI 79 (.slice ad31 r24.1.Left.length cp32) [(78, .pointer (some ⟨b35, 0, none⟩)), (77, .bool ((r24.1.Right.length : Int) != 2))] 12 [some 11, some 10] rfl rfl rfl rfl rfl rfl fun G a w S => ?_
      refine sLoad1 (p := b35) (off := 0) (T := 24) (vs := [.slice ad31 r24.1.Left.length cp32, .slice ad33 r24.1.Right.length cp34]) 0 (.slice ad31 r24.1.Left.length cp32) S (wG 10 false 77 rfl rfl rfl hc49) rfl rfl rfl rfl rfl rfl (lb rfl) fun a S => ?_
      exact leafL ⟨rfl, S⟩
    · refine fI 80 q86 [(79, .slice ad31 r24.1.Left.length cp32), (77, .bool ((r24.1.Right.length : Int) != 2))] 13 [some 12, some 10] rfl rfl rfl rfl rfl rfl fun G a w S => ?_
      refine sIdxV (v := .slice ad31 r24.1.Left.length cp32) (k := .i64) (j := 1) S (wG 10 false 77 rfl rfl rfl hc49) rfl rfl rfl hq87 rfl (lb rfl) fun a S => ?_
      exact leafL ⟨rfl, S⟩
    · refine fI 81 q88 [(80, q86), (77, .bool ((r24.1.Right.length : Int) != 2))] 14 [some 13, some 10] rfl rfl rfl rfl rfl rfl fun G a w S => ?_
      refine sFldV (q := q86) S (wG 10 false 77 rfl rfl rfl hc49) rfl rfl hq89 rfl (lb rfl) fun a S => ?_
      exact leafL ⟨rfl, S⟩
    · refine fI 82 (iv x50.Y) [(81, q88), (77, .bool ((r24.1.Right.length : Int) != 2))] 15 [some 14, some 10] rfl rfl rfl rfl rfl rfl fun G a w S => ?_
      refine sLoadV1 (vq := q88) 12 (iv x50.Y) S (wG 10 false 77 rfl rfl rfl hc49) rfl rfl rfl rfl rfl (lb rfl) fun a S => ?_
      exact leafL ⟨rfl, S⟩
    · refine fI 83 (.pointer (some ⟨b35, 1, none⟩)) [(8, .pointer (some ⟨b35, 0, none⟩)), (77, .bool ((r24.1.Right.length : Int) != 2))] 16 [none, some 10] rfl rfl rfl rfl rfl rfl fun G a w S => ?_
      refine sField (b := b35) (off := 0) 1 1 S (wG 10 false 77 rfl rfl rfl hc49) rfl rfl rfl rfl rfl (lb rfl) fun a S => ?_
      exact leafL ⟨rfl, S⟩
    · refine fI 84 (.slice ad33 r24.1.Right.length cp34) [(83, .pointer (some ⟨b35, 1, none⟩)), (77, .bool ((r24.1.Right.length : Int) != 2))] 17 [some 16, some 10] rfl rfl rfl rfl rfl rfl fun G a w S => ?_
      refine sLoad1 (p := b35) (off := 1) (T := 24) (vs := [.slice ad31 r24.1.Left.length cp32, .slice ad33 r24.1.Right.length cp34]) 0 (.slice ad33 r24.1.Right.length cp34) S (wG 10 false 77 rfl rfl rfl hc49) rfl rfl rfl rfl rfl rfl (lb rfl) fun a S => ?_
      exact leafL ⟨rfl, S⟩
    · refine fI 85 q91 [(84, .slice ad33 r24.1.Right.length cp34), (77, .bool ((r24.1.Right.length : Int) != 2))] 18 [some 17, some 10] rfl rfl rfl rfl rfl rfl fun G a w S => ?_
      refine sIdxV (v := .slice ad33 r24.1.Right.length cp34) (k := .i64) (j := 1) S (wG 10 false 77 rfl rfl rfl hc49) rfl rfl rfl hq92 rfl (lb rfl) fun a S => ?_
      exact leafL ⟨rfl, S⟩
    · refine fI 86 q93 [(85, q91), (77, .bool ((r24.1.Right.length : Int) != 2))] 19 [some 18, some 10] rfl rfl rfl rfl rfl rfl fun G a w S => ?_
      refine sFldV (q := q91) S (wG 10 false 77 rfl rfl rfl hc49) rfl rfl hq94 rfl (lb rfl) fun a S => ?_
      exact leafL ⟨rfl, S⟩
    · refine fI 87 (iv x57.Y) [(86, q93), (77, .bool ((r24.1.Right.length : Int) != 2))] 20 [some 19, some 10] rfl rfl rfl rfl rfl rfl fun G a w S => ?_
      refine sLoadV1 (vq := q93) 8 (iv x57.Y) S (wG 10 false 77 rfl rfl rfl hc49) rfl rfl rfl rfl rfl (lb rfl) fun a S => ?_
      exact leafL ⟨rfl, S⟩
    · refine fI 88 (.bool (x50.Y != x57.Y)) [(82, iv x50.Y), (87, iv x57.Y), (77, .bool ((r24.1.Right.length : Int) != 2))] 21 [some 15, some 20, some 10] rfl rfl rfl rfl rfl rfl fun G a w S => ?_
      refine sBin (.bool (x50.Y != x57.Y)) S (wG 10 false 77 rfl rfl rfl hc49) rfl rfl rfl (bNe _ _ _ _ .i64 x50.Y x57.Y) rfl (lb rfl) fun a S => ?_
      exact leafL ⟨rfl, S⟩
    · refine fI 89 (.bool (x50.Y != x57.Y)) [(77, .bool ((r24.1.Right.length : Int) != 2)), (88, .bool (x50.Y != x57.Y))] 22 [some 10, some 21] rfl rfl rfl rfl rfl rfl fun G a w S => ?_
      refine sPickF (.bool (x50.Y != x57.Y)) S (wN rfl) rfl rfl hc49 rfl rfl (lb rfl) fun a S => ?_
      exact leafL ⟨rfl, S⟩
    · refine fI 90 (.bool (x50.Y != x57.Y)) [(89, .bool (x50.Y != x57.Y))] 23 [some 22] rfl rfl rfl rfl rfl rfl fun G a w S => ?_
      refine sMove (.bool (x50.Y != x57.Y)) S (wN rfl) (.inl rfl) rfl rfl (lb rfl) fun a S => ?_
      exact leafL ⟨rfl, S⟩
    · refine fI 91 (.pointer (some ⟨b35, 0, none⟩)) [(8, .pointer (some ⟨b35, 0, none⟩)), (90, .bool (x50.Y != x57.Y))] 24 [none, some 23] rfl rfl rfl rfl rfl rfl fun G a w S => ?_
      refine sField (b := b35) (off := 0) 0 0 S (wG 23 false 90 rfl rfl rfl hc64) rfl rfl rfl rfl rfl (lb rfl) fun a S => ?_
      exact leafL ⟨rfl, S⟩
    · refine fI 92 (.slice ad31 r24.1.Left.length cp32) [(91, .pointer (some ⟨b35, 0, none⟩)), (90, .bool (x50.Y != x57.Y))] 25 [some 24, some 23] rfl rfl rfl rfl rfl rfl fun G a w S => ?_
      refine sLoad1 (p := b35) (off := 0) (T := 24) (vs := [.slice ad31 r24.1.Left.length cp32, .slice ad33 r24.1.Right.length cp34]) 0 (.slice ad31 r24.1.Left.length cp32) S (wG 23 false 90 rfl rfl rfl hc64) rfl rfl rfl rfl rfl rfl (lb rfl) fun a S => ?_
      exact leafL ⟨rfl, S⟩
    · refine fI 93 q96 [(92, .slice ad31 r24.1.Left.length cp32), (90, .bool (x50.Y != x57.Y))] 26 [some 25, some 23] rfl rfl rfl rfl rfl rfl fun G a w S => ?_
      refine sIdxV (v := .slice ad31 r24.1.Left.length cp32) (k := .i64) (j := 1) S (wG 23 false 90 rfl rfl rfl hc64) rfl rfl rfl hq97 rfl (lb rfl) fun a S => ?_
      exact leafL ⟨rfl, S⟩
    · refine fI 94 q98 [(93, q96), (90, .bool (x50.Y != x57.Y))] 27 [some 26, some 23] rfl rfl rfl rfl rfl rfl fun G a w S => ?_
      refine sFldV (q := q96) S (wG 23 false 90 rfl rfl rfl hc64) rfl rfl hq99 rfl (lb rfl) fun a S => ?_
      exact leafL ⟨rfl, S⟩
    · refine fI 95 (iv x50.X) [(94, q98), (90, .bool (x50.Y != x57.Y))] 28 [some 27, some 23] rfl rfl rfl rfl rfl rfl fun G a w S => ?_
      refine sLoadV1 (vq := q98) 4 (iv x50.X) S (wG 23 false 90 rfl rfl rfl hc64) rfl rfl rfl rfl rfl (lb rfl) fun a S => ?_
      exact leafL ⟨rfl, S⟩
    · refine fI 96 (.pointer (some ⟨b35, 1, none⟩)) [(8, .pointer (some ⟨b35, 0, none⟩)), (90, .bool (x50.Y != x57.Y))] 29 [none, some 23] rfl rfl rfl rfl rfl rfl fun G a w S => ?_
      refine sField (b := b35) (off := 0) 1 1 S (wG 23 false 90 rfl rfl rfl hc64) rfl rfl rfl rfl rfl (lb rfl) fun a S => ?_
      exact leafL ⟨rfl, S⟩
    · refine fI 97 (.slice ad33 r24.1.Right.length cp34) [(96, .pointer (some ⟨b35, 1, none⟩)), (90, .bool (x50.Y != x57.Y))] 30 [some 29, some 23] rfl rfl rfl rfl rfl rfl fun G a w S => ?_
      refine sLoad1 (p := b35) (off := 1) (T := 24) (vs := [.slice ad31 r24.1.Left.length cp32, .slice ad33 r24.1.Right.length cp34]) 0 (.slice ad33 r24.1.Right.length cp34) S (wG 23 false 90 rfl rfl rfl hc64) rfl rfl rfl rfl rfl rfl (lb rfl) fun a S => ?_
      exact leafL ⟨rfl, S⟩
    · refine fI 98 q101 [(97, .slice ad33 r24.1.Right.length cp34), (90, .bool (x50.Y != x57.Y))] 31 [some 30, some 23] rfl rfl rfl rfl rfl rfl fun G a w S => ?_
      refine sIdxV (v := .slice ad33 r24.1.Right.length cp34) (k := .i64) (j := 1) S (wG 23 false 90 rfl rfl rfl hc64) rfl rfl rfl hq102 rfl (lb rfl) fun a S => ?_
      exact leafL ⟨rfl, S⟩
    · refine fI 99 q103 [(98, q101), (90, .bool (x50.Y != x57.Y))] 32 [some 31, some 23] rfl rfl rfl rfl rfl rfl fun G a w S => ?_
      refine sFldV (q := q101) S (wG 23 false 90 rfl rfl rfl hc64) rfl rfl hq104 rfl (lb rfl) fun a S => ?_
      exact leafL ⟨rfl, S⟩
    · refine fI 100 (iv x57.X) [(99, q103), (90, .bool (x50.Y != x57.Y))] 33 [some 32, some 23] rfl rfl rfl rfl rfl rfl fun G a w S => ?_
      refine sLoadV1 (vq := q103) 0 (iv x57.X) S (wG 23 false 90 rfl rfl rfl hc64) rfl rfl rfl rfl rfl (lb rfl) fun a S => ?_
      exact leafL ⟨rfl, S⟩
    · refine fI 101 (iv (w64 (0 - x57.X))) [(100, iv x57.X), (90, .bool (x50.Y != x57.Y))] 34 [some 33, some 23] rfl rfl rfl rfl rfl rfl fun G a w S => ?_
      refine sNeg (b := x57.X) S (wG 23 false 90 rfl rfl rfl hc64) rfl rfl rfl (lb rfl) fun a S => ?_
      exact leafL ⟨rfl, S⟩
    · refine fI 102 (.bool (x50.X != (w64 (0 - x57.X)))) [(95, iv x50.X), (101, iv (w64 (0 - x57.X))), (90, .bool (x50.Y != x57.Y))] 35 [some 28, some 34, some 23] rfl rfl rfl rfl rfl rfl fun G a w S => ?_
      refine sBin (.bool (x50.X != (w64 (0 - x57.X)))) S (wG 23 false 90 rfl rfl rfl hc64) rfl rfl rfl (bNe _ _ _ _ .i64 x50.X (w64 (0 - x57.X))) rfl (lb rfl) fun a S => ?_
      exact leafL ⟨rfl, S⟩
    · refine fI 103 (.bool (x50.X != (w64 (0 - x57.X)))) [(90, .bool (x50.Y != x57.Y)), (102, .bool (x50.X != (w64 (0 - x57.X))))] 36 [some 23, some 35] rfl rfl rfl rfl rfl rfl fun G a w S => ?_
      refine sPickF (.bool (x50.X != (w64 (0 - x57.X)))) S (wN rfl) rfl rfl hc64 rfl rfl (lb rfl) fun a S => ?_
      exact leafL ⟨rfl, S⟩
    · refine fI 104 (.bool (x50.X != (w64 (0 - x57.X)))) [(103, .bool (x50.X != (w64 (0 - x57.X))))] 37 [some 36] rfl rfl rfl rfl rfl rfl fun G a w S => ?_
      refine sMove (.bool (x50.X != (w64 (0 - x57.X)))) S (wN rfl) (.inl rfl) rfl rfl (lb rfl) fun a S => ?_
      exact leafL ⟨rfl, S⟩
    · refine fI 105 undef [(8, .pointer (some ⟨b35, 0, none⟩)), (104, .bool (x50.X != (w64 (0 - x57.X))))] 38 [none, some 37] rfl rfl rfl rfl rfl rfl fun G a w S => ?_
      refine sSkip 37 false 104 105 S rfl rfl rfl hc85 rfl (lb rfl) fun a S => ?_
      exact leafL ⟨rfl, S⟩
    · refine fI 106 undef [(105, undef), (104, .bool (x50.X != (w64 (0 - x57.X))))] 39 [some 38, some 37] rfl rfl rfl rfl rfl rfl fun G a w S => ?_
      refine sSkip 37 false 104 106 S rfl rfl rfl hc85 rfl (lb rfl) fun a S => ?_
      exact leafL ⟨rfl, S⟩
    · refine fI 107 undef [(106, undef), (104, .bool (x50.X != (w64 (0 - x57.X))))] 40 [some 39, some 37] rfl rfl rfl rfl rfl rfl fun G a w S => ?_
      refine sSkip 37 false 104 107 S rfl rfl rfl hc85 rfl (lb rfl) fun a S => ?_
      exact leafL ⟨rfl, S⟩
    · refine fI 108 undef [(107, undef), (104, .bool (x50.X != (w64 (0 - x57.X))))] 41 [some 40, some 37] rfl rfl rfl rfl rfl rfl fun G a w S => ?_
      refine sSkip 37 false 104 108 S rfl rfl rfl hc85 rfl (lb rfl) fun a S => ?_
      exact leafL ⟨rfl, S⟩
    · refine fI 109 undef [(108, undef), (104, .bool (x50.X != (w64 (0 - x57.X))))] 42 [some 41, some 37] rfl rfl rfl rfl rfl rfl fun G a w S => ?_
      refine sSkip 37 false 104 109 S rfl rfl rfl hc85 rfl (lb rfl) fun a S => ?_
      exact leafL ⟨rfl, S⟩
    · refine fI 110 undef [(8, .pointer (some ⟨b35, 0, none⟩)), (104, .bool (x50.X != (w64 (0 - x57.X))))] 43 [none, some 37] rfl rfl rfl rfl rfl rfl fun G a w S => ?_
      refine sSkip 37 false 104 110 S rfl rfl rfl hc85 rfl (lb rfl) fun a S => ?_
      exact leafL ⟨rfl, S⟩
    · refine fI 111 undef [(110, undef), (104, .bool (x50.X != (w64 (0 - x57.X))))] 44 [some 43, some 37] rfl rfl rfl rfl rfl rfl fun G a w S => ?_
      refine sSkip 37 false 104 111 S rfl rfl rfl hc85 rfl (lb rfl) fun a S => ?_
      exact leafL ⟨rfl, S⟩
    · refine fI 112 undef [(111, undef), (104, .bool (x50.X != (w64 (0 - x57.X))))] 45 [some 44, some 37] rfl rfl rfl rfl rfl rfl fun G a w S => ?_
      refine sSkip 37 false 104 112 S rfl rfl rfl hc85 rfl (lb rfl) fun a S => ?_
      exact leafL ⟨rfl, S⟩
    · refine fI 113 undef [(112, undef), (104, .bool (x50.X != (w64 (0 - x57.X))))] 46 [some 45, some 37] rfl rfl rfl rfl rfl rfl fun G a w S => ?_
      refine sSkip 37 false 104 113 S rfl rfl rfl hc85 rfl (lb rfl) fun a S => ?_
      exact leafL ⟨rfl, S⟩
    · refine fI 114 undef [(113, undef), (104, .bool (x50.X != (w64 (0 - x57.X))))] 47 [some 46, some 37] rfl rfl rfl rfl rfl rfl fun G a w S => ?_
      refine sSkip 37 false 104 114 S rfl rfl rfl hc85 rfl (lb rfl) fun a S => ?_
      exact leafL ⟨rfl, S⟩
    · refine fI 115 undef [(109, undef), (114, undef), (104, .bool (x50.X != (w64 (0 - x57.X))))] 48 [some 42, some 47, some 37] rfl rfl rfl rfl rfl rfl fun G a w S => ?_
      refine sSkip 37 false 104 115 S rfl rfl rfl hc85 rfl (lb rfl) fun a S => ?_
      exact leafL ⟨rfl, S⟩
    · refine fI 116 (.bool true) [(104, .bool (x50.X != (w64 (0 - x57.X)))), (115, undef)] 49 [some 37, some 48] rfl rfl rfl rfl rfl rfl fun G a w S => ?_
      refine sPickT (.bool true) S (wN rfl) rfl rfl hc85 rfl rfl (lb rfl) fun a S => ?_
      exact leafL ⟨rfl, S⟩
    exact leafT (⟨true, Option.some.inj h, S.fix [1, 0] [17, 16] (by decide) rfl rfl rfl⟩)
  obtain ⟨x106, hx107, h⟩ := bindSome h
  obtain ⟨q118, hq119, S⟩ := pIdx (P := Tryd.prog) (r := r_api_Point) (v := .slice ad31 r24.1.Left.length cp32) (xs := r24.1.Left) (j := 1) 22 35 1 S Tryd.underlying22 rfl rfl hx51
  obtain ⟨q120, hq121, S⟩ := pFld (P := Tryd.prog) (r := r_api_Point) (s2 := (rI .i64)) (g := (·.Y)) (q := q118) (z := x50) 35 1 0 1 S rfl rfl comp_api_Point_Y
  obtain ⟨u122, S⟩ := pLoad (r := (rI .i64)) (q := q120) (x := x50.Y) 0 S rfl
  obtain rfl : u122 = iv x50.Y := S.mem.know (i := 1) (e := fRep (rI .i64) (u122) x50.Y) rfl
  obtain ⟨q123, hq124, S⟩ := pIdx (P := Tryd.prog) (r := r_api_Point) (v := .slice ad33 r24.1.Right.length cp34) (xs := r24.1.Right) (j := 1) 22 35 4 S Tryd.underlying22 rfl rfl hx58
  obtain ⟨q125, hq126, S⟩ := pFld (P := Tryd.prog) (r := r_api_Point) (s2 := (rI .i64)) (g := (·.Y)) (q := q123) (z := x57) 35 1 0 1 S rfl rfl comp_api_Point_Y
  obtain ⟨u127, S⟩ := pLoad (r := (rI .i64)) (q := q125) (x := x57.Y) 0 S rfl
  obtain rfl : u127 = iv x57.Y := S.mem.know (i := 1) (e := fRep (rI .i64) (u127) x57.Y) rfl
  obtain ⟨q128, hq129, S⟩ := pIdx (P := Tryd.prog) (r := r_api_Point) (v := .slice ad31 r24.1.Left.length cp32) (xs := r24.1.Left) (j := 1) 22 35 9 S Tryd.underlying22 rfl rfl hx51
  obtain ⟨q130, hq131, S⟩ := pFld (P := Tryd.prog) (r := r_api_Point) (s2 := (rI .i64)) (g := (·.X)) (q := q128) (z := x50) 35 0 0 0 S rfl rfl comp_api_Point_X
  obtain ⟨u132, S⟩ := pLoad (r := (rI .i64)) (q := q130) (x := x50.X) 0 S rfl
  obtain rfl : u132 = iv x50.X := S.mem.know (i := 1) (e := fRep (rI .i64) (u132) x50.X) rfl
  obtain ⟨q133, hq134, S⟩ := pIdx (P := Tryd.prog) (r := r_api_Point) (v := .slice ad33 r24.1.Right.length cp34) (xs := r24.1.Right) (j := 1) 22 35 12 S Tryd.underlying22 rfl rfl hx58
  obtain ⟨q135, hq136, S⟩ := pFld (P := Tryd.prog) (r := r_api_Point) (s2 := (rI .i64)) (g := (·.X)) (q := q133) (z := x57) 35 0 0 0 S rfl rfl comp_api_Point_X
  obtain ⟨u137, S⟩ := pLoad (r := (rI .i64)) (q := q135) (x := x57.X) 0 S rfl
  obtain rfl : u137 = iv x57.X := S.mem.know (i := 1) (e := fRep (rI .i64) (u137) x57.X) rfl
  obtain ⟨q138, hq139, S⟩ := pIdx (P := Tryd.prog) (r := r_api_Point) (v := .slice ad31 r24.1.Left.length cp32) (xs := r24.1.Left) (j := 0) 22 35 17 S Tryd.underlying22 rfl rfl hx107
  obtain ⟨q140, hq141, S⟩ := pFld (P := Tryd.prog) (r := r_api_Point) (s2 := (rI .i64)) (g := (·.X)) (q := q138) (z := x106) 35 0 0 0 S rfl rfl comp_api_Point_X
  obtain ⟨u142, S⟩ := pLoad (r := (rI .i64)) (q := q140) (x := x106.X) 0 S rfl
  obtain rfl : u142 = iv x106.X := S.mem.know (i := 1) (e := fRep (rI .i64) (u142) x106.X) rfl
  obtain ⟨q143, hq144, S⟩ := pIdx (P := Tryd.prog) (r := r_api_Point) (v := .slice ad31 r24.1.Left.length cp32) (xs := r24.1.Left) (j := 1) 22 35 21 S Tryd.underlying22 rfl rfl hx51
  obtain ⟨q145, hq146, S⟩ := pFld (P := Tryd.prog) (r := r_api_Point) (s2 := (rI .i64)) (g := (·.X)) (q := q143) (z := x50) 35 0 0 0 S rfl rfl comp_api_Point_X
  obtain ⟨u147, S⟩ := pLoad (r := (rI .i64)) (q := q145) (x := x50.X) 0 S rfl
  obtain rfl : u147 = iv x50.X := S.mem.know (i := 1) (e := fRep (rI .i64) (u147) x50.X) rfl
  refine sDraw (nf := []) (W := [(0, 67, .pointer (some ⟨b35, 0, none⟩)), (1, 68, .slice ad31 r24.1.Left.length cp32), (2, 69, iv (r24.1.Left.length : Int)), (3, 70, .bool ((r24.1.Left.length : Int) != 2)), (4, 71, .bool ((r24.1.Left.length : Int) != 2)), (5, 72, .pointer (some ⟨b35, 1, none⟩)), (6, 73, .slice ad33 r24.1.Right.length cp34), (7, 74, iv (r24.1.Right.length : Int)), (8, 75, .bool ((r24.1.Right.length : Int) != 2)), (9, 76, .bool ((r24.1.Right.length : Int) != 2)), (10, 77, .bool ((r24.1.Right.length : Int) != 2)), (11, 78, .pointer (some ⟨b35, 0, none⟩)), (12, 79, .slice ad31 r24.1.Left.length cp32), (13, 80, q118), (14, 81, q120), (15, 82, iv x50.Y), (16, 83, .pointer (some ⟨b35, 1, none⟩)), (17, 84, .slice ad33 r24.1.Right.length cp34), (18, 85, q123), (19, 86, q125), (20, 87, iv x57.Y), (21, 88, .bool (x50.Y != x57.Y)), (22, 89, .bool (x50.Y != x57.Y)), (23, 90, .bool (x50.Y != x57.Y)), (24, 91, .pointer (some ⟨b35, 0, none⟩)), (25, 92, .slice ad31 r24.1.Left.length cp32), (26, 93, q128), (27, 94, q130), (28, 95, iv x50.X), (29, 96, .pointer (some ⟨b35, 1, none⟩)), (30, 97, .slice ad33 r24.1.Right.length cp34), (31, 98, q133), (32, 99, q135), (33, 100, iv x57.X), (34, 101, iv (w64 (0 - x57.X))), (35, 102, .bool (x50.X != (w64 (0 - x57.X)))), (36, 103, .bool (x50.X != (w64 (0 - x57.X)))), (37, 104, .bool (x50.X != (w64 (0 - x57.X)))), (38, 105, .pointer (some ⟨b35, 0, none⟩)), (39, 106, .slice ad31 r24.1.Left.length cp32), (40, 107, q138), (41, 108, q140), (42, 109, iv x106.X), (43, 110, .pointer (some ⟨b35, 0, none⟩)), (44, 111, .slice ad31 r24.1.Left.length cp32), (45, 112, q143), (46, 113, q145), (47, 114, iv x50.X), (48, 115, .bool (x106.X != x50.X)), (49, 116, .bool (x106.X != x50.X))]) rfl S ?_
  refine node_by (A := anc_raddlelaw37_PieceGauge_0) (nf := []) (Y := []) (W := [(0, 67, .pointer (some ⟨b35, 0, none⟩)), (1, 68, .slice ad31 r24.1.Left.length cp32), (2, 69, iv (r24.1.Left.length : Int)), (3, 70, .bool ((r24.1.Left.length : Int) != 2)), (4, 71, .bool ((r24.1.Left.length : Int) != 2)), (5, 72, .pointer (some ⟨b35, 1, none⟩)), (6, 73, .slice ad33 r24.1.Right.length cp34), (7, 74, iv (r24.1.Right.length : Int)), (8, 75, .bool ((r24.1.Right.length : Int) != 2)), (9, 76, .bool ((r24.1.Right.length : Int) != 2)), (10, 77, .bool ((r24.1.Right.length : Int) != 2)), (11, 78, .pointer (some ⟨b35, 0, none⟩)), (12, 79, .slice ad31 r24.1.Left.length cp32), (13, 80, q118), (14, 81, q120), (15, 82, iv x50.Y), (16, 83, .pointer (some ⟨b35, 1, none⟩)), (17, 84, .slice ad33 r24.1.Right.length cp34), (18, 85, q123), (19, 86, q125), (20, 87, iv x57.Y), (21, 88, .bool (x50.Y != x57.Y)), (22, 89, .bool (x50.Y != x57.Y)), (23, 90, .bool (x50.Y != x57.Y)), (24, 91, .pointer (some ⟨b35, 0, none⟩)), (25, 92, .slice ad31 r24.1.Left.length cp32), (26, 93, q128), (27, 94, q130), (28, 95, iv x50.X), (29, 96, .pointer (some ⟨b35, 1, none⟩)), (30, 97, .slice ad33 r24.1.Right.length cp34), (31, 98, q133), (32, 99, q135), (33, 100, iv x57.X), (34, 101, iv (w64 (0 - x57.X))), (35, 102, .bool (x50.X != (w64 (0 - x57.X)))), (36, 103, .bool (x50.X != (w64 (0 - x57.X)))), (37, 104, .bool (x50.X != (w64 (0 - x57.X)))), (38, 105, .pointer (some ⟨b35, 0, none⟩)), (39, 106, .slice ad31 r24.1.Left.length cp32), (40, 107, q138), (41, 108, q140), (42, 109, iv x106.X), (43, 110, .pointer (some ⟨b35, 0, none⟩)), (44, 111, .slice ad31 r24.1.Left.length cp32), (45, 112, q143), (46, 113, q145), (47, 114, iv x50.X), (48, 115, .bool (x106.X != x50.X)), (49, 116, .bool (x106.X != x50.X))]) 50 (by kernel_rfl) (by kernel_rfl) (by kernel_rfl) (by kernel_rfl) (by kernel_rfl) [0, 1, 2, 3, 4, 5, 6, 7, 8, 9, 10, 11, 12, 13, 14, 15, 16, 17, 18, 19, 20, 21, 22, 23, 24, 25, 26, 27, 28, 29, 30, 31, 32, 33, 34, 35, 36, 37, 38, 39, 40, 41, 42, 43, 44, 45, 46, 47, 48, 49] (by kernel_rfl) (by decide) (by decide) (aF 0 49 (by decide) ?_ (aF 1 48 (by decide) ?_ (aF 2 47 (by decide) ?_ (aF 3 46 (by decide) ?_ (aF 4 45 (by decide) ?_ (aF 5 44 (by decide) ?_ (aF 6 43 (by decide) ?_ (aF 7 42 (by decide) ?_ (aF 8 41 (by decide) ?_ (aF 9 40 (by decide) ?_ (aF 10 39 (by decide) ?_ (aF 11 38 (by decide) ?_ (aF 12 37 (by decide) ?_ (aF 13 36 (by decide) ?_ (aF 14 35 (by decide) ?_ (aF 15 34 (by decide) ?_ (aF 16 33 (by decide) ?_ (aF 17 32 (by decide) ?_ (aF 18 31 (by decide) ?_ (aF 19 30 (by decide) ?_ (aF 20 29 (by decide) ?_ (aF 21 28 (by decide) ?_ (aF 22 27 (by decide) ?_ (aF 23 26 (by decide) ?_ (aF 24 25 (by decide) ?_ (aF 25 24 (by decide) ?_ (aF 26 23 (by decide) ?_ (aF 27 22 (by decide) ?_ (aF 28 21 (by decide) ?_ (aF 29 20 (by decide) ?_ (aF 30 19 (by decide) ?_ (aF 31 18 (by decide) ?_ (aF 32 17 (by decide) ?_ (aF 33 16 (by decide) ?_ (aF 34 15 (by decide) ?_ (aF 35 14 (by decide) ?_ (aF 36 13 (by decide) ?_ (aF 37 12 (by decide) ?_ (aF 38 11 (by decide) ?_ (aF 39 10 (by decide) ?_ (aF 40 9 (by decide) ?_ (aF 41 8 (by decide) ?_ (aF 42 7 (by decide) ?_ (aF 43 6 (by decide) ?_ (aF 44 5 (by decide) ?_ (aF 45 4 (by decide) ?_ (aF 46 3 (by decide) ?_ (aF 47 2 (by decide) ?_ (aF 48 1 (by decide) ?_ (aF 49 0 (by decide) ?_ (trivial))))))))))))))))))))))))))))))))))))))))))))))))))) [(1, iv p1), (2, iv p2), (3, .pointer (some ⟨b2, 0, none⟩)), (7, .bool r4), (8, .pointer (some ⟨b35, 0, none⟩)), (116, .bool (x106.X != x50.X))] (fin_of [none, none, none, none, none, some 49] rfl (by kernel_rfl) (by kernel_rfl)) (fun _ a w S => ?_)
  · refine fI 67 (.pointer (some ⟨b35, 0, none⟩)) [(8, .pointer (some ⟨b35, 0, none⟩))] 0 [none] rfl rfl rfl rfl rfl rfl fun G a w S => ?_
    refine sField (b := b35) (off := 0) 0 0 S (wN rfl) rfl rfl rfl rfl rfl (lb rfl) fun a S => ?_
    exact leafL ⟨rfl, S⟩
  · refine fI 68 (.slice ad31 r24.1.Left.length cp32) [(67, .pointer (some ⟨b35, 0, none⟩))] 1 [some 0] rfl rfl rfl rfl rfl rfl fun G a w S => ?_
    refine sLoad1 (p := b35) (off := 0) (T := 24) (vs := [.slice ad31 r24.1.Left.length cp32, .slice ad33 r24.1.Right.length cp34]) 0 (.slice ad31 r24.1.Left.length cp32) S (wN rfl) rfl rfl rfl rfl rfl rfl (lb rfl) fun a S => ?_
    exact leafL ⟨rfl, S⟩
  · refine fI 69 (iv (r24.1.Left.length : Int)) [(68, .slice ad31 r24.1.Left.length cp32)] 2 [some 1] rfl rfl rfl rfl rfl rfl fun G a w S => ?_
    refine sLen (ad := ad31) (m := r24.1.Left.length) (c := cp32) S (wN rfl) rfl Tryd.underlying22 rfl rfl (lb rfl) fun a S => ?_
    exact leafL ⟨rfl, S⟩
  · refine fI 70 (.bool ((r24.1.Left.length : Int) != 2)) [(69, iv (r24.1.Left.length : Int))] 3 [some 2] rfl rfl rfl rfl rfl rfl fun G a w S => ?_
    refine sBin (.bool ((r24.1.Left.length : Int) != 2)) S (wN rfl) rfl rfl rfl (bNe _ _ _ _ .i64 (r24.1.Left.length : Int) 2) rfl (lb rfl) fun a S => ?_
    exact leafL ⟨rfl, S⟩
  · refine fI 71 (.bool ((r24.1.Left.length : Int) != 2)) [(70, .bool ((r24.1.Left.length : Int) != 2))] 4 [some 3] rfl rfl rfl rfl rfl rfl fun G a w S => ?_
    refine sMove (.bool ((r24.1.Left.length : Int) != 2)) S (wN rfl) (.inl rfl) rfl rfl (lb rfl) fun a S => ?_
    exact leafL ⟨rfl, S⟩
  · refine fI 72 (.pointer (some ⟨b35, 1, none⟩)) [(8, .pointer (some ⟨b35, 0, none⟩)), (71, .bool ((r24.1.Left.length : Int) != 2))] 5 [none, some 4] rfl rfl rfl rfl rfl rfl fun G a w S => ?_
    refine sField (b := b35) (off := 0) 1 1 S (wG 4 false 71 rfl rfl rfl hc48) rfl rfl rfl rfl rfl (lb rfl) fun a S => ?_
    exact leafL ⟨rfl, S⟩
  · refine fI 73 (.slice ad33 r24.1.Right.length cp34) [(72, .pointer (some ⟨b35, 1, none⟩)), (71, .bool ((r24.1.Left.length : Int) != 2))] 6 [some 5, some 4] rfl rfl rfl rfl rfl rfl fun G a w S => ?_
    refine sLoad1 (p := b35) (off := 1) (T := 24) (vs := [.slice ad31 r24.1.Left.length cp32, .slice ad33 r24.1.Right.length cp34]) 0 (.slice ad33 r24.1.Right.length cp34) S (wG 4 false 71 rfl rfl rfl hc48) rfl rfl rfl rfl rfl rfl (lb rfl) fun a S => ?_
    exact leafL ⟨rfl, S⟩
  · refine fI 74 (iv (r24.1.Right.length : Int)) [(73, .slice ad33 r24.1.Right.length cp34), (71, .bool ((r24.1.Left.length : Int) != 2))] 7 [some 6, some 4] rfl rfl rfl rfl rfl rfl fun G a w S => ?_
    refine sLen (ad := ad33) (m := r24.1.Right.length) (c := cp34) S (wG 4 false 71 rfl rfl rfl hc48) rfl Tryd.underlying22 rfl rfl (lb rfl) fun a S => ?_
    exact leafL ⟨rfl, S⟩
  · refine fI 75 (.bool ((r24.1.Right.length : Int) != 2)) [(74, iv (r24.1.Right.length : Int)), (71, .bool ((r24.1.Left.length : Int) != 2))] 8 [some 7, some 4] rfl rfl rfl rfl rfl rfl fun G a w S => ?_
    refine sBin (.bool ((r24.1.Right.length : Int) != 2)) S (wG 4 false 71 rfl rfl rfl hc48) rfl rfl rfl (bNe _ _ _ _ .i64 (r24.1.Right.length : Int) 2) rfl (lb rfl) fun a S => ?_
    exact leafL ⟨rfl, S⟩
  · refine fI 76 (.bool ((r24.1.Right.length : Int) != 2)) [(71, .bool ((r24.1.Left.length : Int) != 2)), (75, .bool ((r24.1.Right.length : Int) != 2))] 9 [some 4, some 8] rfl rfl rfl rfl rfl rfl fun G a w S => ?_
    refine sPickF (.bool ((r24.1.Right.length : Int) != 2)) S (wN rfl) rfl rfl hc48 rfl rfl (lb rfl) fun a S => ?_
    exact leafL ⟨rfl, S⟩
  · refine fI 77 (.bool ((r24.1.Right.length : Int) != 2)) [(76, .bool ((r24.1.Right.length : Int) != 2))] 10 [some 9] rfl rfl rfl rfl rfl rfl fun G a w S => ?_
    refine sMove (.bool ((r24.1.Right.length : Int) != 2)) S (wN rfl) (.inl rfl) rfl rfl (lb rfl) fun a S => ?_
    exact leafL ⟨rfl, S⟩
  · refine fI 78 (.pointer (some ⟨b35, 0, none⟩)) [(8, .pointer (some ⟨b35, 0, none⟩)), (77, .bool ((r24.1.Right.length : Int) != 2))] 11 [none, some 10] rfl rfl rfl rfl rfl rfl fun G a w S => ?_
    refine sField (b := b35) (off := 0) 0 0 S (wG 10 false 77 rfl rfl rfl hc49) rfl rfl rfl rfl rfl (lb rfl) fun a S => ?_
    exact leafL ⟨rfl, S⟩
  · refine fI 79 (.slice ad31 r24.1.Left.length cp32) [(78, .pointer (some ⟨b35, 0, none⟩)), (77, .bool ((r24.1.Right.length : Int) != 2))] 12 [some 11, some 10] rfl rfl rfl rfl rfl rfl fun G a w S => ?_
    refine sLoad1 (p := b35) (off := 0) (T := 24) (vs := [.slice ad31 r24.1.Left.length cp32, .slice ad33 r24.1.Right.length cp34]) 0 (.slice ad31 r24.1.Left.length cp32) S (wG 10 false 77 rfl rfl rfl hc49) rfl rfl rfl rfl rfl rfl (lb rfl) fun a S => ?_
    exact leafL ⟨rfl, S⟩
  · refine fI 80 q118 [(79, .slice ad31 r24.1.Left.length cp32), (77, .bool ((r24.1.Right.length : Int) != 2))] 13 [some 12, some 10] rfl rfl rfl rfl rfl rfl fun G a w S => ?_
    refine sIdxV (v := .slice ad31 r24.1.Left.length cp32) (k := .i64) (j := 1) S (wG 10 false 77 rfl rfl rfl hc49) rfl rfl rfl hq119 rfl (lb rfl) fun a S => ?_
    exact leafL ⟨rfl, S⟩
  · refine fI 81 q120 [(80, q118), (77, .bool ((r24.1.Right.length : Int) != 2))] 14 [some 13, some 10] rfl rfl rfl rfl rfl rfl fun G a w S => ?_
    refine sFldV (q := q118) S (wG 10 false 77 rfl rfl rfl hc49) rfl rfl hq121 rfl (lb rfl) fun a S => ?_
    exact leafL ⟨rfl, S⟩
  · refine fI 82 (iv x50.Y) [(81, q120), (77, .bool ((r24.1.Right.length : Int) != 2))] 15 [some 14, some 10] rfl rfl rfl rfl rfl rfl fun G a w S => ?_
    refine sLoadV1 (vq := q120) 20 (iv x50.Y) S (wG 10 false 77 rfl rfl rfl hc49) rfl rfl rfl rfl rfl (lb rfl) fun a S => ?_
    exact leafL ⟨rfl, S⟩
  · refine fI 83 (.pointer (some ⟨b35, 1, none⟩)) [(8, .pointer (some ⟨b35, 0, none⟩)), (77, .bool ((r24.1.Right.length : Int) != 2))] 16 [none, some 10] rfl rfl rfl rfl rfl rfl fun G a w S => ?_
    refine sField (b := b35) (off := 0) 1 1 S (wG 10 false 77 rfl rfl rfl hc49) rfl rfl rfl rfl rfl (lb rfl) fun a S => ?_
    exact leafL ⟨rfl, S⟩
  · refine fI 84 (.slice ad33 r24.1.Right.length cp34) [(83, .pointer (some ⟨b35, 1, none⟩)), (77, .bool ((r24.1.Right.length : Int) != 2))] 17 [some 16, some 10] rfl rfl rfl rfl rfl rfl fun G a w S => ?_
    refine sLoad1 (p := b35) (off := 1) (T := 24) (vs := [.slice ad31 r24.1.Left.length cp32, .slice ad33 r24.1.Right.length cp34]) 0 (.slice ad33 r24.1.Right.length cp34) S (wG 10 false 77 rfl rfl rfl hc49) rfl rfl rfl rfl rfl rfl (lb rfl) fun a S => ?_
    exact leafL ⟨rfl, S⟩
  · refine fI 85 q123 [(84, .slice ad33 r24.1.Right.length cp34), (77, .bool ((r24.1.Right.length : Int) != 2))] 18 [some 17, some 10] rfl rfl rfl rfl rfl rfl fun G a w S => ?_
    refine sIdxV (v := .slice ad33 r24.1.Right.length cp34) (k := .i64) (j := 1) S (wG 10 false 77 rfl rfl rfl hc49) rfl rfl rfl hq124 rfl (lb rfl) fun a S => ?_
    exact leafL ⟨rfl, S⟩
  · refine fI 86 q125 [(85, q123), (77, .bool ((r24.1.Right.length : Int) != 2))] 19 [some 18, some 10] rfl rfl rfl rfl rfl rfl fun G a w S => ?_
    refine sFldV (q := q123) S (wG 10 false 77 rfl rfl rfl hc49) rfl rfl hq126 rfl (lb rfl) fun a S => ?_
    exact leafL ⟨rfl, S⟩
  · refine fI 87 (iv x57.Y) [(86, q125), (77, .bool ((r24.1.Right.length : Int) != 2))] 20 [some 19, some 10] rfl rfl rfl rfl rfl rfl fun G a w S => ?_
    refine sLoadV1 (vq := q125) 16 (iv x57.Y) S (wG 10 false 77 rfl rfl rfl hc49) rfl rfl rfl rfl rfl (lb rfl) fun a S => ?_
    exact leafL ⟨rfl, S⟩
  · refine fI 88 (.bool (x50.Y != x57.Y)) [(82, iv x50.Y), (87, iv x57.Y), (77, .bool ((r24.1.Right.length : Int) != 2))] 21 [some 15, some 20, some 10] rfl rfl rfl rfl rfl rfl fun G a w S => ?_
    refine sBin (.bool (x50.Y != x57.Y)) S (wG 10 false 77 rfl rfl rfl hc49) rfl rfl rfl (bNe _ _ _ _ .i64 x50.Y x57.Y) rfl (lb rfl) fun a S => ?_
    exact leafL ⟨rfl, S⟩
  · refine fI 89 (.bool (x50.Y != x57.Y)) [(77, .bool ((r24.1.Right.length : Int) != 2)), (88, .bool (x50.Y != x57.Y))] 22 [some 10, some 21] rfl rfl rfl rfl rfl rfl fun G a w S => ?_
    refine sPickF (.bool (x50.Y != x57.Y)) S (wN rfl) rfl rfl hc49 rfl rfl (lb rfl) fun a S => ?_
    exact leafL ⟨rfl, S⟩
  · refine fI 90 (.bool (x50.Y != x57.Y)) [(89, .bool (x50.Y != x57.Y))] 23 [some 22] rfl rfl rfl rfl rfl rfl fun G a w S => ?_
    refine sMove (.bool (x50.Y != x57.Y)) S (wN rfl) (.inl rfl) rfl rfl (lb rfl) fun a S => ?_
    exact leafL ⟨rfl, S⟩
  · refine fI 91 (.pointer (some ⟨b35, 0, none⟩)) [(8, .pointer (some ⟨b35, 0, none⟩)), (90, .bool (x50.Y != x57.Y))] 24 [none, some 23] rfl rfl rfl rfl rfl rfl fun G a w S => ?_
    refine sField (b := b35) (off := 0) 0 0 S (wG 23 false 90 rfl rfl rfl hc64) rfl rfl rfl rfl rfl (lb rfl) fun a S => ?_
    exact leafL ⟨rfl, S⟩
  · refine fI 92 (.slice ad31 r24.1.Left.length cp32) [(91, .pointer (some ⟨b35, 0, none⟩)), (90, .bool (x50.Y != x57.Y))] 25 [some 24, some 23] rfl rfl rfl rfl rfl rfl fun G a w S => ?_
    refine sLoad1 (p := b35) (off := 0) (T := 24) (vs := [.slice ad31 r24.1.Left.length cp32, .slice ad33 r24.1.Right.length cp34]) 0 (.slice ad31 r24.1.Left.length cp32) S (wG 23 false 90 rfl rfl rfl hc64) rfl rfl rfl rfl rfl rfl (lb rfl) fun a S => ?_
    exact leafL ⟨rfl, S⟩
  · refine fI 93 q128 [(92, .slice ad31 r24.1.Left.length cp32), (90, .bool (x50.Y != x57.Y))] 26 [some 25, some 23] rfl rfl rfl rfl rfl rfl fun G a w S => ?_
    refine sIdxV (v := .slice ad31 r24.1.Left.length cp32) (k := .i64) (j := 1) S (wG 23 false 90 rfl rfl rfl hc64) rfl rfl rfl hq129 rfl (lb rfl) fun a S => ?_
    exact leafL ⟨rfl, S⟩
  · refine fI 94 q130 [(93, q128), (90, .bool (x50.Y != x57.Y))] 27 [some 26, some 23] rfl rfl rfl rfl rfl rfl fun G a w S => ?_
    refine sFldV (q := q128) S (wG 23 false 90 rfl rfl rfl hc64) rfl rfl hq131 rfl (lb rfl) fun a S => ?_
    exact leafL ⟨rfl, S⟩
  · refine fI 95 (iv x50.X) [(94, q130), (90, .bool (x50.Y != x57.Y))] 28 [some 27, some 23] rfl rfl rfl rfl rfl rfl fun G a w S => ?_
    refine sLoadV1 (vq := q130) 12 (iv x50.X) S (wG 23 false 90 rfl rfl rfl hc64) rfl rfl rfl rfl rfl (lb rfl) fun a S => ?_
    exact leafL ⟨rfl, S⟩
  · refine fI 96 (.pointer (some ⟨b35, 1, none⟩)) [(8, .pointer (some ⟨b35, 0, none⟩)), (90, .bool (x50.Y != x57.Y))] 29 [none, some 23] rfl rfl rfl rfl rfl rfl fun G a w S => ?_
    refine sField (b := b35) (off := 0) 1 1 S (wG 23 false 90 rfl rfl rfl hc64) rfl rfl rfl rfl rfl (lb rfl) fun a S => ?_
    exact leafL ⟨rfl, S⟩
  · refine fI 97 (.slice ad33 r24.1.Right.length cp34) [(96, .pointer (some ⟨b35, 1, none⟩)), (90, .bool (x50.Y != x57.Y))] 30 [some 29, some 23] rfl rfl rfl rfl rfl rfl fun G a w S => ?_
    refine sLoad1 (p := b35) (off := 1) (T := 24) (vs := [.slice ad31 r24.1.Left.length cp32, .slice ad33 r24.1.Right.length cp34]) 0 (.slice ad33 r24.1.Right.length cp34) S (wG 23 false 90 rfl rfl rfl hc64) rfl rfl rfl rfl rfl rfl (lb rfl) fun a S => ?_
    exact leafL ⟨rfl, S⟩
  · refine fI 98 q133 [(97, .slice ad33 r24.1.Right.length cp34), (90, .bool (x50.Y != x57.Y))] 31 [some 30, some 23] rfl rfl rfl rfl rfl rfl fun G a w S => ?_
    refine sIdxV (v := .slice ad33 r24.1.Right.length cp34) (k := .i64) (j := 1) S (wG 23 false 90 rfl rfl rfl hc64) rfl rfl rfl hq134 rfl (lb rfl) fun a S => ?_
    exact leafL ⟨rfl, S⟩
  · refine fI 99 q135 [(98, q133), (90, .bool (x50.Y != x57.Y))] 32 [some 31, some 23] rfl rfl rfl rfl rfl rfl fun G a w S => ?_
    refine sFldV (q := q133) S (wG 23 false 90 rfl rfl rfl hc64) rfl rfl hq136 rfl (lb rfl) fun a S => ?_
    exact leafL ⟨rfl, S⟩
  · refine fI 100 (iv x57.X) [(99, q135), (90, .bool (x50.Y != x57.Y))] 33 [some 32, some 23] rfl rfl rfl rfl rfl rfl fun G a w S => ?_
    refine sLoadV1 (vq := q135) 8 (iv x57.X) S (wG 23 false 90 rfl rfl rfl hc64) rfl rfl rfl rfl rfl (lb rfl) fun a S => ?_
    exact leafL ⟨rfl, S⟩
  · refine fI 101 (iv (w64 (0 - x57.X))) [(100, iv x57.X), (90, .bool (x50.Y != x57.Y))] 34 [some 33, some 23] rfl rfl rfl rfl rfl rfl fun G a w S => ?_
    refine sNeg (b := x57.X) S (wG 23 false 90 rfl rfl rfl hc64) rfl rfl rfl (lb rfl) fun a S => ?_
    exact leafL ⟨rfl, S⟩
  · refine fI 102 (.bool (x50.X != (w64 (0 - x57.X)))) [(95, iv x50.X), (101, iv (w64 (0 - x57.X))), (90, .bool (x50.Y != x57.Y))] 35 [some 28, some 34, some 23] rfl rfl rfl rfl rfl rfl fun G a w S => ?_
    refine sBin (.bool (x50.X != (w64 (0 - x57.X)))) S (wG 23 false 90 rfl rfl rfl hc64) rfl rfl rfl (bNe _ _ _ _ .i64 x50.X (w64 (0 - x57.X))) rfl (lb rfl) fun a S => ?_
    exact leafL ⟨rfl, S⟩
  · refine fI 103 (.bool (x50.X != (w64 (0 - x57.X)))) [(90, .bool (x50.Y != x57.Y)), (102, .bool (x50.X != (w64 (0 - x57.X))))] 36 [some 23, some 35] rfl rfl rfl rfl rfl rfl fun G a w S => ?_
    refine sPickF (.bool (x50.X != (w64 (0 - x57.X)))) S (wN rfl) rfl rfl hc64 rfl rfl (lb rfl) fun a S => ?_
    exact leafL ⟨rfl, S⟩
  · refine fI 104 (.bool (x50.X != (w64 (0 - x57.X)))) [(103, .bool (x50.X != (w64 (0 - x57.X))))] 37 [some 36] rfl rfl rfl rfl rfl rfl fun G a w S => ?_
    refine sMove (.bool (x50.X != (w64 (0 - x57.X)))) S (wN rfl) (.inl rfl) rfl rfl (lb rfl) fun a S => ?_
    exact leafL ⟨rfl, S⟩
  · refine fI 105 (.pointer (some ⟨b35, 0, none⟩)) [(8, .pointer (some ⟨b35, 0, none⟩)), (104, .bool (x50.X != (w64 (0 - x57.X))))] 38 [none, some 37] rfl rfl rfl rfl rfl rfl fun G a w S => ?_
    refine sField (b := b35) (off := 0) 0 0 S (wG 37 false 104 rfl rfl rfl hc85) rfl rfl rfl rfl rfl (lb rfl) fun a S => ?_
    exact leafL ⟨rfl, S⟩
  · refine fI 106 (.slice ad31 r24.1.Left.length cp32) [(105, .pointer (some ⟨b35, 0, none⟩)), (104, .bool (x50.X != (w64 (0 - x57.X))))] 39 [some 38, some 37] rfl rfl rfl rfl rfl rfl fun G a w S => ?_
    refine sLoad1 (p := b35) (off := 0) (T := 24) (vs := [.slice ad31 r24.1.Left.length cp32, .slice ad33 r24.1.Right.length cp34]) 0 (.slice ad31 r24.1.Left.length cp32) S (wG 37 false 104 rfl rfl rfl hc85) rfl rfl rfl rfl rfl rfl (lb rfl) fun a S => ?_
    exact leafL ⟨rfl, S⟩
  · refine fI 107 q138 [(106, .slice ad31 r24.1.Left.length cp32), (104, .bool (x50.X != (w64 (0 - x57.X))))] 40 [some 39, some 37] rfl rfl rfl rfl rfl rfl fun G a w S => ?_
    refine sIdxV (v := .slice ad31 r24.1.Left.length cp32) (k := .i64) (j := 0) S (wG 37 false 104 rfl rfl rfl hc85) rfl rfl rfl hq139 rfl (lb rfl) fun a S => ?_
    exact leafL ⟨rfl, S⟩
  · refine fI 108 q140 [(107, q138), (104, .bool (x50.X != (w64 (0 - x57.X))))] 41 [some 40, some 37] rfl rfl rfl rfl rfl rfl fun G a w S => ?_
    refine sFldV (q := q138) S (wG 37 false 104 rfl rfl rfl hc85) rfl rfl hq141 rfl (lb rfl) fun a S => ?_
    exact leafL ⟨rfl, S⟩
  · refine fI 109 (iv x106.X) [(108, q140), (104, .bool (x50.X != (w64 (0 - x57.X))))] 42 [some 41, some 37] rfl rfl rfl rfl rfl rfl fun G a w S => ?_
    refine sLoadV1 (vq := q140) 4 (iv x106.X) S (wG 37 false 104 rfl rfl rfl hc85) rfl rfl rfl rfl rfl (lb rfl) fun a S => ?_
    exact leafL ⟨rfl, S⟩
  · refine fI 110 (.pointer (some ⟨b35, 0, none⟩)) [(8, .pointer (some ⟨b35, 0, none⟩)), (104, .bool (x50.X != (w64 (0 - x57.X))))] 43 [none, some 37] rfl rfl rfl rfl rfl rfl fun G a w S => ?_
    refine sField (b := b35) (off := 0) 0 0 S (wG 37 false 104 rfl rfl rfl hc85) rfl rfl rfl rfl rfl (lb rfl) fun a S => ?_
    exact leafL ⟨rfl, S⟩
  · refine fI 111 (.slice ad31 r24.1.Left.length cp32) [(110, .pointer (some ⟨b35, 0, none⟩)), (104, .bool (x50.X != (w64 (0 - x57.X))))] 44 [some 43, some 37] rfl rfl rfl rfl rfl rfl fun G a w S => ?_
    refine sLoad1 (p := b35) (off := 0) (T := 24) (vs := [.slice ad31 r24.1.Left.length cp32, .slice ad33 r24.1.Right.length cp34]) 0 (.slice ad31 r24.1.Left.length cp32) S (wG 37 false 104 rfl rfl rfl hc85) rfl rfl rfl rfl rfl rfl (lb rfl) fun a S => ?_
    exact leafL ⟨rfl, S⟩
  · refine fI 112 q143 [(111, .slice ad31 r24.1.Left.length cp32), (104, .bool (x50.X != (w64 (0 - x57.X))))] 45 [some 44, some 37] rfl rfl rfl rfl rfl rfl fun G a w S => ?_
    refine sIdxV (v := .slice ad31 r24.1.Left.length cp32) (k := .i64) (j := 1) S (wG 37 false 104 rfl rfl rfl hc85) rfl rfl rfl hq144 rfl (lb rfl) fun a S => ?_
    exact leafL ⟨rfl, S⟩
  · refine fI 113 q145 [(112, q143), (104, .bool (x50.X != (w64 (0 - x57.X))))] 46 [some 45, some 37] rfl rfl rfl rfl rfl rfl fun G a w S => ?_
    refine sFldV (q := q143) S (wG 37 false 104 rfl rfl rfl hc85) rfl rfl hq146 rfl (lb rfl) fun a S => ?_
    exact leafL ⟨rfl, S⟩
  · refine fI 114 (iv x50.X) [(113, q145), (104, .bool (x50.X != (w64 (0 - x57.X))))] 47 [some 46, some 37] rfl rfl rfl rfl rfl rfl fun G a w S => ?_
    refine sLoadV1 (vq := q145) 0 (iv x50.X) S (wG 37 false 104 rfl rfl rfl hc85) rfl rfl rfl rfl rfl (lb rfl) fun a S => ?_
    exact leafL ⟨rfl, S⟩
  · refine fI 115 (.bool (x106.X != x50.X)) [(109, iv x106.X), (114, iv x50.X), (104, .bool (x50.X != (w64 (0 - x57.X))))] 48 [some 42, some 47, some 37] rfl rfl rfl rfl rfl rfl fun G a w S => ?_
    refine sBin (.bool (x106.X != x50.X)) S (wG 37 false 104 rfl rfl rfl hc85) rfl rfl rfl (bNe _ _ _ _ .i64 x106.X x50.X) rfl (lb rfl) fun a S => ?_
    exact leafL ⟨rfl, S⟩
  · refine fI 116 (.bool (x106.X != x50.X)) [(104, .bool (x50.X != (w64 (0 - x57.X)))), (115, .bool (x106.X != x50.X))] 49 [some 37, some 48] rfl rfl rfl rfl rfl rfl fun G a w S => ?_
    refine sPickF (.bool (x106.X != x50.X)) S (wN rfl) rfl rfl hc85 rfl rfl (lb rfl) fun a S => ?_
    exact leafL ⟨rfl, S⟩
  exact leafT (⟨x106.X != x50.X, Option.some.inj h, S.fix [1, 0] [25, 24] (by decide) rfl rfl rfl⟩)

end Go.Proofs.YtmedbnjhgkcndaaDoor
namespace Go.Proofs.YtmedbnjhgkcndaaDoor
open Go.RowKit
set_option linter.unusedVariables false

def gok (g : api_Gauge) : Bool := decide (1 ≤ g.Stitches) && decide (g.Stitches ≤ 10000) && decide (1 ≤ g.Width) && decide (g.Width ≤ 10000) && decide (1 ≤ g.Rows) && decide (g.Rows ≤ 10000) && decide (1 ≤ g.Height) && decide (g.Height ≤ 10000)
theorem gok_spec {g : api_Gauge} (h : gok g = true) : 1 ≤ g.Stitches ∧ g.Stitches ≤ 10000 ∧ 1 ≤ g.Width ∧ g.Width ≤ 10000 ∧ 1 ≤ g.Rows ∧ g.Rows ≤ 10000 ∧ 1 ≤ g.Height ∧ g.Height ≤ 10000 := by
  simp only [gok, Bool.and_eq_true, decide_eq_true_eq] at h
  omega
theorem gwithin_eq (a b c : Int) : F_gauge_within a b c = some (decide (b ≤ a) && decide (a ≤ c)) := by
  unfold F_gauge_within
  by_cases h : b ≤ a <;> simp [h]
theorem gcheck_eq (g : api_Gauge) : F_gauge_Check g = some (if gok g then 0 else 8) := by
  have key : ∃ t, whileO (gauge_Check_l1 g) 0 = some t ∧ t = (if gok g then .inr () else .inl 8) := by
    refine loop_ix 4 (fun k => ∀ j, j < k → ∀ x, ([g.Stitches, g.Width, g.Rows, g.Height] : List Int)[j]? = some x → 1 ≤ x ∧ x ≤ 10000) _ (fun j h => absurd h (Nat.not_lt_zero j)) ?_ ?_
    · intro k hk hI
      have hx : idxO ([g.Stitches, g.Width, g.Rows, g.Height] : List Int) (k : Int) = some ([g.Stitches, g.Width, g.Rows, g.Height][k]'hk) := idxO_nat hk
      have hk' : decide ((k : Int) < 4) = true := by simp; omega
      by_cases h : 1 ≤ [g.Stitches, g.Width, g.Rows, g.Height][k]'hk ∧ [g.Stitches, g.Width, g.Rows, g.Height][k]'hk ≤ 10000
      · refine .inl ⟨?_, fun j hj x hxx => ?_⟩
        · unfold gauge_Check_l1
          simp only [hk', if_true, hx, Option.bind_some, gwithin_eq, h.1, h.2, decide_true, Bool.and_self, Bool.not_true, Bool.false_eq_true, if_false, w64_succ (show k < 9223372036854775807 by omega)]
        · by_cases e : j = k
          · subst e
            rw [List.getElem?_eq_getElem hk] at hxx
            cases hxx; exact h
          · exact hI j (by omega) x hxx
      · refine .inr ⟨.inl 8, ?_, ?_⟩
        · unfold gauge_Check_l1
          have hb : (decide (1 ≤ [g.Stitches, g.Width, g.Rows, g.Height][k]'hk) && decide ([g.Stitches, g.Width, g.Rows, g.Height][k]'hk ≤ 10000)) = false := by
            simpa using h
          simp only [hk', if_true, hx, Option.bind_some, gwithin_eq, hb, Bool.not_false]
        · have : gok g = false := by
            cases hg : gok g with
            | false => rfl
            | true =>
              have := gok_spec hg
              exfalso; apply h
              match k, hk with
              | 0, _ => exact ⟨this.1, this.2.1⟩
              | 1, _ => exact ⟨this.2.2.1, this.2.2.2.1⟩
              | 2, _ => exact ⟨this.2.2.2.2.1, this.2.2.2.2.2.1⟩
              | 3, _ => exact this.2.2.2.2.2.2
          rw [this]; rfl
    · intro hI
      refine ⟨.inr (), by unfold gauge_Check_l1; rfl, ?_⟩
      have h0 := hI 0 (by omega) _ rfl
      have h1 := hI 1 (by omega) _ rfl
      have h2 := hI 2 (by omega) _ rfl
      have h3 := hI 3 (by omega) _ rfl
      have : gok g = true := by simp only [gok, Bool.and_eq_true, decide_eq_true_eq]; omega
      rw [this]; rfl
  obtain ⟨t, h1, h2⟩ := key
  unfold F_gauge_Check
  rw [h1, h2]
  cases gok g <;> rfl
theorem rcheck_eq (g : api_Gauge) : F_raddleref35_Check g = some (if gok g then 0 else 8) := by
  unfold F_raddleref35_Check
  cases hg : gok g with
  | true =>
    have := gok_spec hg
    have e1 : ¬ g.Stitches < 1 := by omega
    have e2 : ¬ 10000 < g.Stitches := by omega
    have e3 : ¬ g.Width < 1 := by omega
    have e4 : ¬ 10000 < g.Width := by omega
    have e5 : ¬ g.Rows < 1 := by omega
    have e6 : ¬ 10000 < g.Rows := by omega
    have e7 : ¬ g.Height < 1 := by omega
    have e8 : ¬ 10000 < g.Height := by omega
    simp [e1, e2, e3, e4, e5, e6, e7, e8]
  | false =>
    have hn : g.Stitches < 1 ∨ 10000 < g.Stitches ∨ g.Width < 1 ∨ 10000 < g.Width ∨ g.Rows < 1 ∨ 10000 < g.Rows ∨ g.Height < 1 ∨ 10000 < g.Height := by
      simp only [gok, Bool.and_eq_false_iff, decide_eq_false_iff_not] at hg
      omega
    by_cases e1 : g.Stitches < 1
    · simp [e1]
    by_cases e2 : 10000 < g.Stitches
    · simp [e1, e2]
    by_cases e3 : g.Width < 1
    · simp [e1, e2, e3]
    by_cases e4 : 10000 < g.Width
    · simp [e1, e2, e3, e4]
    by_cases e5 : g.Rows < 1
    · simp [e1, e2, e3, e4, e5]
    by_cases e6 : 10000 < g.Rows
    · simp [e1, e2, e3, e4, e5, e6]
    by_cases e7 : g.Height < 1
    · simp [e1, e2, e3, e4, e5, e6, e7]
    · have e8 : 10000 < g.Height := by omega
      simp [e1, e2, e3, e4, e5, e6, e7, e8]
/-- the nearest number of stitches, of rows -/
def near (v num den : Int) : Int := (2 * v * num + den) / (2 * den)
theorem near_eq {v num den : Int} (h0 : 0 ≤ v) (h1 : v ≤ 1000000) (n1 : 1 ≤ num) (n2 : num ≤ 10000) (d1 : 1 ≤ den) (d2 : den ≤ 10000) :
    F_gauge_ratio_of (gauge_ratio.mk num den) v = some (near v num den) := by
  have hp0 : 0 ≤ v * num := Int.mul_nonneg h0 (by omega)
  have hp1 : v * num ≤ 10000000000 := by
    have := Int.mul_le_mul h1 n2 (by omega) (by omega : (0 : Int) ≤ 1000000)
    omega
  have e1 : 2 * v * num = 2 * (v * num) := Int.mul_assoc _ _ _
  unfold near
  rw [e1]
  generalize v * num = p at *
  · unfold F_gauge_ratio_of
    have a1 : w64 (2 * v) = 2 * v := w64_of (by omega) (by omega)
    have a4 : w64 (2 * den) = 2 * den := w64_of (by omega) (by omega)
    simp only [a1, e1, a4, quoI]
    have a2 : w64 (2 * p) = 2 * p := w64_of (by omega) (by omega)
    have a3 : w64 (2 * p + den) = 2 * p + den := w64_of (by omega) (by omega)
    have a5 : ¬ 2 * den = 0 := by omega
    simp only [a2, a3, a5, if_false, Option.bind_some]
    rw [Int.tdiv_eq_ediv_of_nonneg (by omega)]
    have b0 : 0 ≤ (2 * p + den) / (2 * den) := Int.ediv_nonneg (by omega) (by omega)
    have b1 : (2 * p + den) / (2 * den) ≤ 2 * p + den := Int.ediv_le_self _ (by omega)
    rw [w64_of (by omega) (by omega)]
/-- a measure in stitches, in rows: the number, the error -/
def sc (ok : Bool) (num den v : Int) : Int × Int := if ok then (if 0 ≤ v ∧ v ≤ 1000000 then (if 1000000 < near v num den then (0, 16) else (near v num den, 0)) else (0, 2)) else (0, 8)
theorem stitches_eq (g : api_Gauge) (v : Int) : F_gauge_Stitches g v = some (sc (gok g) g.Stitches g.Width v) := by
  unfold F_gauge_Stitches F_gauge_scale sc
  rw [gcheck_eq]
  cases hg : gok g with
  | false => simp
  | true =>
    have := gok_spec hg
    simp only [if_true, Option.bind_some, gwithin_eq]
    by_cases hv : 0 ≤ v ∧ v ≤ 1000000
    · have e1 := near_eq hv.1 hv.2 this.1 this.2.1 this.2.2.1 this.2.2.2.1
      have c1 : ¬ v < 0 := by omega
      have c2 : ¬ 1000000 < v := by omega
      by_cases hn : 1000000 < near v g.Stitches g.Width <;> simp [hv, e1, c1, c2, hn]
    · have c : (decide (0 ≤ v) && decide (v ≤ 1000000)) = false := by simpa using hv
      have c2 : v < 0 ∨ 1000000 < v := by omega
      by_cases c1 : v < 0
      · simp [hv, c1, c]
      · have c3 : 1000000 < v := by omega
        simp [hv, c1, c, c3]
theorem rows_eq (g : api_Gauge) (v : Int) : F_gauge_Rows g v = some (sc (gok g) g.Rows g.Height v) := by
  unfold F_gauge_Rows F_gauge_scale sc
  rw [gcheck_eq]
  cases hg : gok g with
  | false => simp
  | true =>
    have := gok_spec hg
    simp only [if_true, Option.bind_some, gwithin_eq]
    by_cases hv : 0 ≤ v ∧ v ≤ 1000000
    · have e1 := near_eq hv.1 hv.2 this.2.2.2.2.1 this.2.2.2.2.2.1 this.2.2.2.2.2.2.1 this.2.2.2.2.2.2.2
      have c1 : ¬ v < 0 := by omega
      have c2 : ¬ 1000000 < v := by omega
      by_cases hn : 1000000 < near v g.Rows g.Height <;> simp [hv, e1, c1, c2, hn]
    · have c : (decide (0 ≤ v) && decide (v ≤ 1000000)) = false := by simpa using hv
      by_cases c1 : v < 0
      · simp [hv, c1, c]
      · have c3 : 1000000 < v := by omega
        simp [hv, c1, c, c3]
theorem sc_le {ok : Bool} {num den v : Int} (n1 : 1 ≤ num) (d1 : 1 ≤ den) : 0 ≤ (sc ok num den v).1 ∧ (sc ok num den v).1 ≤ 1000000 := by
  unfold sc
  split
  · split
    · split
      · simp
      · rename_i h1 h2
        have : 0 ≤ near v num den := Int.ediv_nonneg (by have := Int.mul_nonneg (Int.mul_nonneg (show (0 : Int) ≤ 2 by omega) h1.1) (show 0 ≤ num by omega); omega) (by omega)
        exact ⟨this, by omega⟩
    · simp
  · simp
theorem sc_bad {num den v : Int} : (sc false num den v) = (0, 8) := rfl
def neg (x : Int) : Bool := decide (x < 0) && decide (-1000000 ≤ x)
def plx (g : api_Gauge) (x : Int) : Int × Int := sc (gok g) g.Stitches g.Width (if neg x then -x else x)
/-- a point placed: the point, the error -/
def pl (g : api_Gauge) (p : api_Point) : api_Point × Int :=
  if (plx g p.X).2 = 0 then (if (sc (gok g) g.Rows g.Height p.Y).2 = 0 then (⟨if neg p.X then -(plx g p.X).1 else (plx g p.X).1, (sc (gok g) g.Rows g.Height p.Y).1⟩, 0) else (⟨0, 0⟩, (sc (gok g) g.Rows g.Height p.Y).2)) else (⟨0, 0⟩, (plx g p.X).2)
theorem plx_le (g : api_Gauge) (x : Int) : 0 ≤ (plx g x).1 ∧ (plx g x).1 ≤ 1000000 := by
  unfold plx
  cases hg : gok g with
  | false => rw [sc_bad]; simp
  | true => have := gok_spec hg; exact sc_le this.1 this.2.2.1
/-- what the loops over points come to -/
def PlOut (g : api_Gauge) (l : List api_Point) (t : ((List api_Point) × Int) ⊕ (List api_Point)) : Prop :=
  (∃ (k : Nat) (h : k < l.length), (∀ (j : Nat) (hj : j < k), (pl g (l[j]'(by omega))).2 = 0) ∧ (pl g l[k]).2 ≠ 0 ∧ t = .inl ([], (pl g l[k]).2)) ∨
  ((∀ (j : Nat) (hj : j < l.length), (pl g l[j]).2 = 0) ∧ t = .inr (l.map fun p => (pl g p).1))
theorem take_map_snoc {g : api_Gauge} {l : List api_Point} {k : Nat} (hk : k < l.length) : (l.take (k + 1)).map (fun p => (pl g p).1) = (l.take k).map (fun p => (pl g p).1) ++ [(pl g l[k]).1] := by
  rw [List.take_succ_eq_append_getElem hk, List.map_append]; rfl
theorem place_loop (g : api_Gauge) (l : List api_Point) (hl : l.length ≤ 55) (hw : ∀ p, p ∈ l → -9223372036854775808 ≤ p.X ∧ p.X ≤ 9223372036854775807) : ∃ t, whileO (piece_place_l1 l g) (([] : List api_Point), 0) = some t ∧ PlOut g l t := by
  refine loop_st l.length (fun k acc => acc = (l.take k).map (fun p => (pl g p).1) ∧ ∀ (j : Nat) (hj : j < k) (hl : j < l.length), (pl g l[j]).2 = 0) _ ⟨by simp, fun j hj => absurd hj (Nat.not_lt_zero j)⟩ ?_ ?_
  · rintro k acc hk ⟨rfl, hI⟩
    have hx := idxO_nat hk
    have hkk : decide ((k : Int) < (l.length : Int)) = true := by simp; omega
    have hb := hw l[k] (List.getElem_mem hk)
    have hpx := plx_le g (l[k]).X
    have hstep : piece_place_l1 l g ((l.take k).map (fun p => (pl g p).1), (k : Int)) = if (pl g l[k]).2 = 0 then some (.inl ((l.take (k + 1)).map (fun p => (pl g p).1), ((k + 1 : Nat) : Int))) else some (.inr (.inl ([], (pl g l[k]).2))) := by
      unfold piece_place_l1
      simp only [hkk, if_true, hx, Option.bind_some]
      generalize hp : l[k] = p at hb hpx ⊢
      have hsucc : w64 ((k : Int) + 1) = ((k + 1 : Nat) : Int) := w64_succ (by omega)
      have hsnoc := take_map_snoc (g := g) hk
      rw [hp] at hsnoc
      rw [hsnoc]
      have hlen : ((l.take k).map (fun p => (pl g p).1)).length ≤ 55 := by simp; omega
      clear hsnoc
      generalize (l.take k).map (fun p => (pl g p).1) = acc at hlen ⊢
      have hap : ∀ q : api_Point, appO acc [q] = some (acc ++ [q]) := fun q => appO_of (by simp; omega)
      have hc : (if decide (p.X < 0) = true then some (decide (-1000000 ≤ p.X)) else some false) = some (neg p.X) := by
        unfold neg
        cases h1 : decide (p.X < 0) <;> simp
      simp only [hc, Option.bind_some]
      unfold pl
      cases hn : neg p.X with
      | true =>
        have h1 : p.X < 0 ∧ -1000000 ≤ p.X := by simpa [neg] using hn
        have e1 : w64 (-1 * p.X) = -p.X := by rw [w64_of (by omega) (by omega)]; omega
        have e2 : w64 (-1 * (plx g p.X).1) = -(plx g p.X).1 := by rw [w64_of (by omega) (by omega)]; omega
        have e3 : sc (gok g) g.Stitches g.Width (-p.X) = plx g p.X := by simp [plx, hn]
        simp only [if_true, Option.bind_some, e1, stitches_eq g _, rows_eq g _, e3, e2, hap, hsucc]
        by_cases c1 : (plx g p.X).2 = 0
        · by_cases c2 : (sc (gok g) g.Rows g.Height p.Y).2 = 0 <;> simp [c1, c2]
        · simp [c1]
      | false =>
        have e1 : w64 (1 * p.X) = p.X := by rw [w64_of (by omega) (by omega)]; omega
        have e2 : w64 (1 * (plx g p.X).1) = (plx g p.X).1 := by rw [w64_of (by omega) (by omega)]; omega
        have e3 : sc (gok g) g.Stitches g.Width p.X = plx g p.X := by simp [plx, hn]
        simp only [Bool.false_eq_true, if_false, Option.bind_some, e1, stitches_eq g _, rows_eq g _, e3, e2, hap, hsucc]
        by_cases c1 : (plx g p.X).2 = 0
        · by_cases c2 : (sc (gok g) g.Rows g.Height p.Y).2 = 0 <;> simp [c1, c2]
        · simp [c1]
    rw [hstep]
    by_cases hz : (pl g l[k]).2 = 0
    · refine .inl ⟨_, by rw [if_pos hz], rfl, fun j hj hjl => ?_⟩
      by_cases e : j = k
      · subst e; exact hz
      · exact hI j (by omega) hjl
    · exact .inr ⟨_, by rw [if_neg hz], .inl ⟨k, hk, fun j hj => hI j hj _, hz, rfl⟩⟩
  · rintro acc ⟨rfl, hI⟩
    refine ⟨.inr (l.map fun p => (pl g p).1), ?_, .inr ⟨fun j hj => hI j hj hj, rfl⟩⟩
    unfold piece_place_l1
    simp
theorem place_eq (g : api_Gauge) (l : List api_Point) (hl : l.length ≤ 55) (hw : ∀ p, p ∈ l → -9223372036854775808 ≤ p.X ∧ p.X ≤ 9223372036854775807) : ∃ t, F_piece_place g l = some (match t with | .inl z => z | .inr z => (z, 0)) ∧ PlOut g l t := by
  obtain ⟨t, h1, h2⟩ := place_loop g l hl hw
  refine ⟨t, ?_, h2⟩
  unfold F_piece_place
  rw [h1, capO_of (k := l.length) rfl (by omega)]
  cases t <;> rfl
theorem col_eq (x : Int) : F_piece_column x = some (decide (-500 ≤ x) && decide (x ≤ 500)) := by
  unfold F_piece_column
  by_cases h : -500 ≤ x <;> simp [h]
theorem side_some (l : List api_Point) (hl : l.length ≤ 50) : ∃ b, F_piece_side l = some b := by
  have hw : ∃ t, whileO (piece_side_l1 l) 0 = some t ∧ (t = .inl false ∨ t = .inr ()) := by
    refine loop_ix l.length (fun _ => True) _ trivial ?_ ?_
    · intro k hk _
      have hs : w64 ((k : Int) + 1) = ((k + 1 : Nat) : Int) := w64_succ (by omega)
      have hb : ∀ b : Bool, ((if b = true then some (.inr (.inl false)) else some (.inl (w64 ((k : Int) + 1)))) : Option (Int ⊕ (Bool ⊕ Unit))) = some (.inl ((k + 1 : Nat) : Int)) ∧ True ∨ ∃ t, ((if b = true then some (.inr (.inl false)) else some (.inl (w64 ((k : Int) + 1)))) : Option (Int ⊕ (Bool ⊕ Unit))) = some (.inr t) ∧ (t = .inl false ∨ t = .inr ()) := by
        intro b
        cases b
        · exact .inl ⟨by rw [hs]; rfl, trivial⟩
        · exact .inr ⟨_, rfl, .inl rfl⟩
      unfold piece_side_l1
      simp only [dT (show (k : Int) < (l.length : Int) by omega), if_true, idxO_nat hk, Option.bind_some, col_eq]
      cases hc : (decide (-500 ≤ (l[k]).X) && decide ((l[k]).X ≤ 500)) with
      | false => simp
      | true =>
        by_cases h0 : 0 < k
        · have hp : idxO l (w64 ((k : Int) - 1)) = some (l[k - 1]'(by omega)) := idxO_of (by rw [w64_of (by omega) (by omega)]; omega) (by omega)
          simp only [Bool.not_true, Bool.false_eq_true, if_false, dT (show (0 : Int) < (k : Int) by omega), if_true, hp, Option.bind_some]
          exact hb _
        · simp only [Bool.not_true, Bool.false_eq_true, if_false, dF (show ¬ (0 : Int) < (k : Int) by omega), Option.bind_some]
          exact hb false
    · intro _
      refine ⟨.inr (), ?_, .inr rfl⟩
      unfold piece_side_l1
      simp
  obtain ⟨t, h1, h2⟩ := hw
  unfold F_piece_side
  rw [h1]
  have hb : ∀ b : Bool, ∃ c, (if b = true then some false else Option.bind (α := Unit ⊕ Bool) (Option.bind (some t) fun z0 => match z0 with | .inl z => some (.inr z) | .inr _ => some (.inl ())) fun z0 => match z0 with | .inl _ => some true | .inr z => some z) = some c := by
    intro b
    rcases h2 with rfl | rfl <;> cases b <;> exact ⟨_, rfl⟩
  by_cases c1 : l.length = 0
  · exact ⟨_, by simp [c1]; rfl⟩
  have d1 : ((l.length : Int) == 0) = false := bF (by omega)
  have i1 : idxO l ((0 : Nat) : Int) = some (l[0]'(by omega)) := idxO_nat (by omega)
  have i2 : idxO l (w64 ((l.length : Int) - 1)) = some (l[l.length - 1]'(by omega)) := idxO_of (by rw [w64_of (by omega) (by omega)]; omega) (by omega)
  have i1 : idxO l 0 = some (l[0]'(by omega)) := i1
  simp only [d1, Bool.false_eq_true, if_false, dF (show ¬ (50 : Int) < (l.length : Int) by omega), i1, i2, Option.bind_some]
  by_cases c2 : ((l[0]'(by omega)).Y != 0) = true
  · simp only [c2, if_true, Option.bind_some]; exact ⟨_, rfl⟩
  · simp only [eq_false_of_ne_true c2, Bool.false_eq_true, if_false, Option.bind_some]; exact hb _
theorem near_zero {num den : Int} (h : 1 ≤ den) : near 0 num den = 0 := by
  unfold near
  rw [show 2 * 0 * num + den = den by simp]
  exact Int.ediv_eq_zero_of_lt (by omega) (by omega)
theorem near_bd {v num den : Int} (h : 1 ≤ den) : -den ≤ 2 * (near v num den * den - v * num) ∧ 2 * (near v num den * den - v * num) ≤ den := by
  unfold near
  have h1 := Int.emod_add_mul_ediv (2 * v * num + den) (2 * den)
  have h2 := Int.emod_nonneg (2 * v * num + den) (show 2 * den ≠ 0 by omega)
  have h3 := Int.emod_lt_of_pos (2 * v * num + den) (show 0 < 2 * den by omega)
  generalize (2 * v * num + den) / (2 * den) = q at *
  generalize (2 * v * num + den) % (2 * den) = r at *
  rw [Int.mul_assoc 2 v num, Int.mul_assoc 2 den q, Int.mul_comm den q] at h1
  generalize v * num = x at *
  generalize q * den = y at *
  omega
theorem shape_two (a b c d : api_Point) (hy : b.Y = d.Y) : ∃ e, F_piece_shape ⟨[a, b], [c, d]⟩ = some e ∧ (e = 0 ∨ e = 8) := by
  obtain ⟨x, hx⟩ := side_some [a, b] (by simp)
  obtain ⟨y, hy'⟩ := side_some [c, d] (by simp)
  unfold F_piece_shape
  simp only [hx, hy', Option.bind_some]
  cases x
  · exact ⟨8, rfl, .inr rfl⟩
  cases y
  · exact ⟨8, rfl, .inr rfl⟩
  have i1 : ∀ u v : api_Point, idxO [u, v] (w64 (([u, v].length : Int) - 1)) = some v := fun u v => rfl
  simp only [Bool.not_true, Bool.false_eq_true, if_false, i1, Option.bind_some, hy, bne_self_eq_false]
  exact ⟨0, rfl, .inl rfl⟩
theorem two_eq (g : api_Gauge) (hg : gok g = true) (x y : Int) (hx0 : -10000 ≤ x) (hx1 : x ≤ 10000) (hy0 : 1 ≤ y) (hy1 : y ≤ 10000) (X : Int) (hX : X = near (if x < 0 then -x else x) g.Stitches g.Width) :
    F_piece_place g [⟨x, 0⟩, ⟨x, y⟩] = some (if 1000000 < X ∨ 1000000 < near y g.Rows g.Height then ([], 16) else ([⟨if x < 0 then -X else X, 0⟩, ⟨if x < 0 then -X else X, near y g.Rows g.Height⟩], 0)) := by
  obtain ⟨t, t1, t2⟩ := place_eq g [⟨x, 0⟩, ⟨x, y⟩] (by simp) (by
    intro p hp
    have hp : p = ⟨x, 0⟩ ∨ p = ⟨x, y⟩ := by simpa using hp
    have hp : p.X = x := by rcases hp with rfl | rfl <;> rfl
    rw [hp]
    omega)
  have gs := gok_spec hg
  have hn : neg x = decide (x < 0) := by
    unfold neg
    rw [dT (show -1000000 ≤ x by omega), Bool.and_true]
  have hv : plx g x = if 1000000 < X then (0, 16) else (X, 0) := by
    unfold plx sc
    rw [hg, hn]
    have : (if decide (x < 0) = true then -x else x) = if x < 0 then -x else x := by simp
    rw [this, ← hX]
    rw [if_pos rfl, if_pos (by split <;> omega)]
  have h0 : sc (gok g) g.Rows g.Height 0 = (0, 0) := by
    unfold sc
    rw [hg, near_zero gs.2.2.2.2.2.2.1]
    rfl
  have h1 : sc (gok g) g.Rows g.Height y = if 1000000 < near y g.Rows g.Height then (0, 16) else (near y g.Rows g.Height, 0) := by
    unfold sc
    rw [hg, if_pos rfl, if_pos (by omega)]
  have p0 : pl g ⟨x, 0⟩ = if 1000000 < X then (⟨0, 0⟩, 16) else (⟨if x < 0 then -X else X, 0⟩, 0) := by
    unfold pl
    simp only [hv, h0, hn]
    by_cases c : 1000000 < X <;> simp [c]
  have p1 : pl g ⟨x, y⟩ = if 1000000 < X then (⟨0, 0⟩, 16) else if 1000000 < near y g.Rows g.Height then (⟨0, 0⟩, 16) else (⟨if x < 0 then -X else X, near y g.Rows g.Height⟩, 0) := by
    unfold pl
    simp only [hv, h1, hn]
    by_cases c : 1000000 < X <;> by_cases d : 1000000 < near y g.Rows g.Height <;> simp [c, d]
  rw [t1]
  generalize near y g.Rows g.Height = Y at *
  rcases t2 with ⟨k, hk, e1, e2, rfl⟩ | ⟨e1, rfl⟩
  · match k, hk with
    | 0, _ =>
      have e2 : (pl g ⟨x, 0⟩).2 ≠ 0 := e2
      show some (([] : List api_Point), (pl g ⟨x, 0⟩).2) = _
      rw [p0] at e2 ⊢
      by_cases c : 1000000 < X
      · simp [c]
      · simp [c] at e2
    | 1, _ =>
      have e2 : (pl g ⟨x, y⟩).2 ≠ 0 := e2
      show some (([] : List api_Point), (pl g ⟨x, y⟩).2) = _
      rw [p1] at e2 ⊢
      by_cases c : 1000000 < X <;> by_cases d : 1000000 < Y <;> simp [c, d] at e2 ⊢
  · have f0 : (pl g ⟨x, 0⟩).2 = 0 := e1 0 (by simp)
    have f1 : (pl g ⟨x, y⟩).2 = 0 := e1 1 (by simp)
    show some ([(pl g ⟨x, 0⟩).1, (pl g ⟨x, y⟩).1], (0 : Int)) = _
    rw [p0] at f0 ⊢
    rw [p1] at f1 ⊢
    by_cases c : 1000000 < X <;> by_cases d : 1000000 < Y <;> simp [c, d] at f0 f1 ⊢
theorem abs_le {x : Int} {b : Int} (h0 : -b ≤ 2 * x) (h1 : 2 * x ≤ b) (hb : b ≤ 10000) : w64 (2 * (if w64 x < w64 (0 - w64 x) then w64 (0 - w64 x) else w64 x)) ≤ b := by
  rw [w64_of (x := x) (by omega) (by omega), w64_of (x := 0 - x) (by omega) (by omega)]
  split <;> rw [w64_of (by omega) (by omega)] <;> omega
theorem law_PieceGauge' (ha : F_raddlelaw37_alive = some true) (g : api_Gauge) (w h : Int) : F_raddlelaw37_PieceGauge g w h = some true := by
  unfold F_raddlelaw37_PieceGauge
  rw [ha, rcheck_eq]
  cases hg : gok g with
  | false => simp
  | true =>
    by_cases w0 : w < 1
    · simp [w0]
    by_cases w1 : 10000 < w
    · simp [w0, w1]
    by_cases h0 : h < 1
    · simp [w0, w1, h0]
    by_cases h1 : 10000 < h
    · simp [w0, w1, h0, h1]
    have gs := gok_spec hg
    have e1 : w64 (0 - w) = -w := by rw [w64_of (by omega) (by omega)]; omega
    have t1 := two_eq g hg (-w) h (by omega) (by omega) (by omega) (by omega) (near w g.Stitches g.Width) (by rw [if_pos (by omega)]; simp)
    have t2 := two_eq g hg w h (by omega) (by omega) (by omega) (by omega) (near w g.Stitches g.Width) (by rw [if_neg (by omega)])
    rw [if_pos (show -w < 0 by omega)] at t1
    rw [if_neg (show ¬ w < 0 by omega)] at t2
    have b1 := near_bd (v := w) (num := g.Stitches) (den := g.Width) (by omega)
    have b2 := near_bd (v := h) (num := g.Rows) (den := g.Height) (by omega)
    have u1 := mul_bd (u := w) (v := g.Stitches) (a := 10000) (b := 10000) (by omega) (by omega) (by omega) (by omega)
    have u2 := mul_bd (u := h) (v := g.Rows) (a := 10000) (b := 10000) (by omega) (by omega) (by omega) (by omega)
    have x0 : 0 ≤ near w g.Stitches g.Width := Int.ediv_nonneg (by rw [Int.mul_assoc]; omega) (by omega)
    generalize near w g.Stitches g.Width = X at *
    generalize near h g.Rows g.Height = Y at *
    have hM : ∃ r : api_Shape × Int, F_piece_Measure g [⟨-w, 0⟩, ⟨-w, h⟩] [⟨w, 0⟩, ⟨w, h⟩] = some r ∧ (r.2 = 8 ∨ r.2 = 16 ∨ (r = (⟨[⟨-X, 0⟩, ⟨-X, Y⟩], [⟨X, 0⟩, ⟨X, Y⟩]⟩, 0) ∧ X ≤ 1000000)) := by
      unfold F_piece_Measure
      rw [t1, t2]
      by_cases c : 1000000 < X ∨ 1000000 < Y
      · simp [c]
      · obtain ⟨e, s1, s2⟩ := shape_two ⟨-X, 0⟩ ⟨-X, Y⟩ ⟨X, 0⟩ ⟨X, Y⟩ rfl
        simp only [c, if_false, Option.bind_some, bne_self_eq_false, Bool.false_eq_true, s1]
        rcases s2 with rfl | rfl
        · exact ⟨_, rfl, .inr (.inr ⟨rfl, by omega⟩)⟩
        · exact ⟨_, rfl, .inl rfl⟩
    obtain ⟨r, r1, r2⟩ := hM
    simp only [w0, w1, h0, h1, decide_false, Bool.false_eq_true, if_false, if_true, Option.bind_some, bne_self_eq_false, Bool.not_true, e1, r1]
    rcases r2 with r2 | r2 | ⟨rfl, x1⟩
    · simp [r2]
    · simp [r2]
    · have m1 : w64 (X * g.Width) = X * g.Width := by
        generalize X * g.Width = z at *
        generalize w * g.Stitches = y at *
        exact w64_of (by omega) (by omega)
      have m2 : w64 (Y * g.Height) = Y * g.Height := by
        generalize Y * g.Height = z at *
        generalize h * g.Rows = y at *
        exact w64_of (by omega) (by omega)
      have m3 : w64 (w * g.Stitches) = w * g.Stitches := w64_of (by omega) (by omega)
      have m4 : w64 (h * g.Rows) = h * g.Rows := w64_of (by omega) (by omega)
      have i1 : ∀ u v : api_Point, idxO [u, v] 1 = some v := fun u v => rfl
      have i0 : ∀ u v : api_Point, idxO [u, v] 0 = some u := fun u v => rfl
      have q1 := abs_le b1.1 b1.2 (by omega)
      have q2 := abs_le b2.1 b2.2 (by omega)
      simp only [i1, i0, Option.bind_some, m1, m2, m3, m4]
      have hX : w64 (0 - X) = -X := by rw [w64_of (by omega) (by omega)]; omega
      have hY : w64 (-X) = -X := w64_of (by omega) (by omega)
      simp only [Int.zero_sub] at q1 q2
      simp [hX, hY, q1, q2]

end Go.Proofs.YtmedbnjhgkcndaaDoor
namespace Go.Proofs.YtmedbnjhgkcndaaDoor
open Go.RowKit
set_option linter.unusedVariables false

theorem law_PieceGauge (g : api_Gauge) (w h : Int) (_ : wf_api_Gauge g) (_ : InK .i64 w) (_ : InK .i64 h) : F_raddlelaw37_PieceGauge g w h = some true := law_PieceGauge' k_raddlelaw37_alive g w h

end Go.Proofs.YtmedbnjhgkcndaaDoor
namespace Go.Proofs.YtmedbnjhgkcndaaDoor
open Go.RowKit
set_option linter.unusedVariables false

namespace framePieceGauge
open Go.ChangeShapes Go.WideShapes Go.ChangeAt Go.Joins
theorem own : ownKnob Tryd.prog.godebug = none := by kernel_rfl
theorem laidOut : laidOutB Tryd.prog = true := by kernel_rfl
set_option maxRecDepth 100000 in
theorem door_met (os : Os) (args : Array Value) : laidMetH Tryd.prog Rows.pieceGaugeRow.laid ((World.doorLaid Tryd.prog 400 os).forCall (fun _ _ => 0) ⟨#[], args, []⟩).memory :=
  laidMetH_of_parts3 (fuel := 8) (laidMet_of_run' 8 (by kernel_rfl) (by kernel_rfl)) (by kernel_rfl) (by kernel_rfl)
set_option maxRecDepth 100000 in
theorem lifted (os : Os) (started : os.Started) (H : Type) (enc : TypeId × Value → H) :
    ReturnsInHanded {} Tryd.checked os 8 .any (fun w args => (Rows.pieceGaugeSpec.pre enc Tryd.prog Tryd.f8 Rows.pieceGaugeRow.domain false w args ∧ laidMetH Tryd.prog Rows.pieceGaugeRow.laid w) ∧ sizedMet enc Tryd.prog Tryd.f8 (OpenSpec.ofChange Rows.pieceGaugeSpec) false w args) (Rows.pieceGaugeSpec.post enc Tryd.prog Tryd.f8 false true false false) := by
  refine returnsInHanded_of_change_and (C := Tryd.checked) (X := fun w _ => laidMetH Tryd.prog Rows.pieceGaugeRow.laid w) (fun _ _ _ hh h => h.of_heap hh) own started (by kernel_rfl) Tryd.func8
    (ChangeSpec.witness_shaped (enc := enc) (C := Tryd.checked) (os := os) (X := fun w _ => laidMetH Tryd.prog Rows.pieceGaugeRow.laid w) false (World.doorLaid Tryd.prog 400 os) #[.agg #[iv 0, iv 0, iv 0, iv 0], .int .i64 0, .int .i64 0] 8 rfl (World.shaped_of_RefB (by kernel_rfl) (by kernel_rfl)) (by kernel_rfl) (by kernel_rfl) (by kernel_rfl) (door_met os _)) ?_
  intro W base args ds gs before hval0 hW _ _ _ _
  have hval : ∀ (j : Nat) t v, Tryd.f8.params[j]? = some t → args[j]? = some v → Value.okWide Tryd.prog W .any base t v := hval0
  have hW' := hW
  obtain ⟨p, q, hA0, hV, rfl, hfz, hnd⟩ := hW
  have hA : DataW.TrodAll enc Tryd.prog W 0 (fun _ => true) true Tryd.f8.params.toList args.toList ds p := hA0
  rw [Tryd.params8] at hA hval
  obtain ⟨v0, vs0, d0, ds0, p0, q0, hargs, rfl, rfl, h0, r0⟩ := trodAll_cons hA
  obtain ⟨v1, vs1, d1, ds1, p1, q1, rfl, rfl, rfl, h1, r1⟩ := trodAll_cons r0
  obtain ⟨v2, vs2, d2, ds2, p2, q2, rfl, rfl, rfl, h2, r2⟩ := trodAll_cons r1
  obtain ⟨rfl, rfl, rfl⟩ := trodAll_nil r2
  obtain rfl : args = #[v0, v1, v2] := by cases args; simp_all
  obtain ⟨rfl, rfl⟩ := trodVars_none hV
  have k0 := h0
  have lt0 : ∀ x ∈ p0, x.block < W.heap.size := by obtain ⟨m, hm⟩ := k0; exact DataW.trod_lt m _ _ _ hm
  have k1 := h1
  have lt1 : ∀ x ∈ p1, x.block < W.heap.size := by obtain ⟨m, hm⟩ := k1; exact DataW.trod_lt m _ _ _ hm
  have k2 := h2
  have lt2 : ∀ x ∈ p2, x.block < W.heap.size := by obtain ⟨m, hm⟩ := k2; exact DataW.trod_lt m _ _ _ hm
  obtain ⟨x0, rep0, wf0⟩ := top_agg Tryd.underlying65 aggr_api_Gauge op_api_Gauge (hval 0 _ v0 rfl rfl) h0
  obtain ⟨x1, rfl, rfl, rfl, wf1⟩ := open_int Tryd.underlying3 (hval 1 _ v1 rfl rfl) h1
  obtain ⟨x2, rfl, rfl, rfl, wf2⟩ := open_int Tryd.underlying3 (hval 2 _ v2 rfl rfl) h2
  clear hA0 hval0
  refine (c_raddlelaw37_PieceGauge (fun _ => False) W x0 v0 x1 x2 true (law_PieceGauge x0 x1 x2 wf0 wf1 wf2) (St0.start (by intro d hd; simp only [List.mem_cons, List.not_mem_nil, or_false] at hd; subst hd; exact rep0))).mono fun e W' hr => ?_
  obtain ⟨_, he, hS⟩ := hr
  have bel := hS.chg.below
  subst he
  exact ⟨_, rfl, _, _, _, [], _, [], hW', trodAll_mk1 (shut_bool Tryd.underlying4 _), (trodAll_cons_mk (Below.trod laidOut (by kernel_rfl) (of_decide_eq_true (by kernel_rfl)) k0 bel lt0) (trodAll_cons_mk (Below.trod laidOut (by kernel_rfl) (of_decide_eq_true (by kernel_rfl)) k1 bel lt1) (trodAll_cons_mk (Below.trod laidOut (by kernel_rfl) (of_decide_eq_true (by kernel_rfl)) k2 bel lt2) trodAll_mk0))), rfl, bel.frame _, fun h => by cases h⟩
theorem over : Rows.pieceGaugeRow.holds Tryd.pinned (OpenSpec.ofChange Rows.pieceGaugeSpec) :=
  OpenClaim.holds_of_wide 8 Tryd.f8 rfl rfl rfl rfl rfl rfl rfl ⟨rfl, rfl, rfl, rfl, rfl⟩ rfl rfl rfl rfl rfl (by kernel_rfl) Tryd.func8 (by kernel_rfl)
    (of_decide_eq_true (by kernel_rfl)) (by unfold Func.isWrapper; first | (rw [if_pos (by decide +kernel)]; kernel_rfl) | (rw [if_neg (by decide +kernel)]; exact ⟨rfl, rfl⟩))
    (fun os started H enc _ => lifted os started H enc)
theorem card : Rows.PieceGaugeCardSaid :=
  Claim7.holds_tied_plain_at .later [] [.data, .data, .data] true (true, "307e61196d3f4886c0049f613c394b681f3254770779ea132fb8ea05f59173ca") false
    over (fun _ h => by cases h) (by kernel_rfl) (fun _ h => by cases h) pieceGauge_row_tie rfl ⟨rfl, rfl⟩ (by kernel_rfl) rfl
    (fun f fn hf hfn => by
      obtain rfl : f = 8 := Option.some.inj ((show Tryd.prog.funcNamed "raddle/raddlelaw37.PieceGauge" = some 8 by kernel_rfl).symm.trans hf) |>.symm
      obtain rfl : fn = Tryd.f8 := (Option.some.inj (Tryd.func8.symm.trans hfn)).symm
      exact ⟨by kernel_rfl, fun j t ht => by
        rw [Tryd.params8] at ht
        have hm : t ∈ [65, 3, 3] := by simpa using Array.mem_of_getElem? ht
        have hall : ([65, 3, 3].all fun u => !Tryd.prog.wantsStandIn u) = true := by kernel_rfl
        exact (show Tryd.prog.wantsStandIn t = false by simpa using List.all_eq_true.1 hall t hm)⟩)
    (by kernel_rfl)
end framePieceGauge
theorem pieceGauge_holds : Rows.PieceGaugeCardSaid := framePieceGauge.card

end Go.Proofs.YtmedbnjhgkcndaaDoor
