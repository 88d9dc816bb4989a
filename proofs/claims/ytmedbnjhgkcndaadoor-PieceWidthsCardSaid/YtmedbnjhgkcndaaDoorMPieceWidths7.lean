/- Several texts in one: G5 LPW LPWv FrPieceWidths -/
import Derived.WalkKit
import Derived.Maps.AppendAt
import Derived.Deep.AppendLies
import Derived.KernelRfl
import Derived.Laws.OwnMore
import Derived.Great.BuildSlice
import Derived.Orders
import Derived.Laws.StructEq
import Derived.ChangeKeysEq
import Derived.Defers
import Derived.Laws.BytesString
import Derived.RangeFuncNested
import Derived.RangeFuncBound
import Derived.RangeFuncCalls
import Derived.RangeFuncLeaves
import Derived.OrdersIn
import Derived.LoopNIn
import Derived.Test.YtmedbnjhgkcndaaDoorProg
import Derived.ProofKit
import Derived.OpenShut
import Derived.ChangeOld
import Derived.Deep.Slices
import Derived.Lib.SmallJoins
import Derived.JoinedOf
import Derived.JoinedAt
import Derived.Below
import Derived.Shelf.Strings.Builder1
import Derived.Shelf.Strings.Builder2
import Derived.Shelf.Strings.OnBuilder
import Derived.Test.YtmedbnjhgkcndaaDoorRows
import Derived.LaidMore
import Derived.SevenTiedAt
import Derived.Test.YtmedbnjhgkcndaaDoorCards
import Derived.Test.YtmedbnjhgkcndaaDoorTie
import Derived.Test.YtmedbnjhgkcndaaDoorMPieceWidths6
namespace Go.Proofs.YtmedbnjhgkcndaaDoor
open Go.RowKit
set_option linter.unusedVariables false

def anc_raddlelaw37_PieceWidths_0 : List (List Nat) := [[], [0], [], [2], [2, 3], [2, 3, 4], [], [6], [6, 7], [6, 7, 8], [2, 3, 4, 5, 6, 7, 8, 9], [0, 1, 2, 3, 4, 5, 6, 7, 8, 9, 10], [0, 1, 2, 3, 4, 5, 6, 7, 8, 9, 10, 11], [0, 1, 2, 3, 4, 5, 6, 7, 8, 9, 10, 11, 12], [0, 1, 2, 3, 4, 5, 6, 7, 8, 9, 10, 11, 12, 13], [0, 1, 2, 3, 4, 5, 6, 7, 8, 9, 10, 11, 12, 13, 14], [0, 1, 2, 3, 4, 5, 6, 7, 8, 9, 10, 11, 12], [0, 1, 2, 3, 4, 5, 6, 7, 8, 9, 10, 11, 12, 16], [0, 1, 2, 3, 4, 5, 6, 7, 8, 9, 10, 11, 12, 16, 17], [0, 1, 2, 3, 4, 5, 6, 7, 8, 9, 10, 11, 12, 16, 17, 18], [0, 1, 2, 3, 4, 5, 6, 7, 8, 9, 10, 11, 12, 13, 14, 15, 16, 17, 18, 19], [0, 1, 2, 3, 4, 5, 6, 7, 8, 9, 10, 11, 12, 13, 14, 15, 16, 17, 18, 19, 20]]
def anc_raddlelaw37_PieceWidths_1 : List (List Nat) := [[], [0], [0, 1], [0, 1, 2], [0, 1, 2, 3], [0, 1, 2, 3, 4], [0, 1, 2, 3, 4, 5], [0, 1, 2, 3, 4, 5, 6], [0, 1, 2, 3, 4, 5, 6], [0, 1, 2, 3, 4, 5, 6, 8], [0, 1, 2, 3, 4, 5, 6], [0, 1, 2, 3, 4, 5, 6, 8, 9, 10], [0, 1, 2, 3, 4, 5, 6, 8, 9, 10, 11], [0, 1, 2, 3, 4, 5, 6], [0, 1, 2, 3, 4, 5, 6, 13], [0, 1, 2, 3, 4, 5, 6], [0, 1, 2, 3, 4, 5, 6, 13, 14, 15], [0, 1, 2, 3, 4, 5, 6, 13, 14, 15, 16], [0, 1, 2, 3, 4, 5, 6, 8, 9, 10, 11, 12, 13, 14, 15, 16, 17], [0, 1, 2, 3, 4, 5, 6, 7, 8, 9, 10, 11, 12, 13, 14, 15, 16, 17, 18], [0, 1, 2, 3, 4, 5, 6, 7, 8, 9, 10, 11, 12, 13, 14, 15, 16, 17, 18, 19], [0, 1, 2, 3, 4, 5, 6, 7, 8, 9, 10, 11, 12, 13, 14, 15, 16, 17, 18, 19, 20], [0, 1, 2, 3, 4, 5, 6, 7, 8, 9, 10, 11, 12, 13, 14, 15, 16, 17, 18, 19, 20, 21], [0, 1, 2, 3, 4, 5, 6, 7, 8, 9, 10, 11, 12, 13, 14, 15, 16, 17, 18, 19, 20, 21], [0, 1, 2, 3, 4, 5, 6, 7, 8, 9, 10, 11, 12, 13, 14, 15, 16, 17, 18, 19, 20, 21, 23], [0, 1, 2, 3, 4, 5, 6, 7, 8, 9, 10, 11, 12, 13, 14, 15, 16, 17, 18, 19, 20, 21], [0, 1, 2, 3, 4, 5, 6, 7, 8, 9, 10, 11, 12, 13, 14, 15, 16, 17, 18, 19, 20, 21, 25], [0, 1, 2, 3, 4, 5, 6, 7, 8, 9, 10, 11, 12, 13, 14, 15, 16, 17, 18, 19, 20, 21, 23, 24, 25, 26], [0, 1, 2, 3, 4, 5, 6, 7, 8, 9, 10, 11, 12, 13, 14, 15, 16, 17, 18, 19, 20, 21, 23, 24, 25, 26, 27], [0, 1, 2, 3, 4, 5, 6, 7, 8, 9, 10, 11, 12, 13, 14, 15, 16, 17, 18, 19, 20, 21], [0, 1, 2, 3, 4, 5, 6, 7, 8, 9, 10, 11, 12, 13, 14, 15, 16, 17, 18, 19, 20, 21, 29], [0, 1, 2, 3, 4, 5, 6, 7, 8, 9, 10, 11, 12, 13, 14, 15, 16, 17, 18, 19, 20, 21], [0, 1, 2, 3, 4, 5, 6, 7, 8, 9, 10, 11, 12, 13, 14, 15, 16, 17, 18, 19, 20, 21, 31], [0, 1, 2, 3, 4, 5, 6, 7, 8, 9, 10, 11, 12, 13, 14, 15, 16, 17, 18, 19, 20, 21, 29, 30, 31, 32], [0, 1, 2, 3, 4, 5, 6, 7, 8, 9, 10, 11, 12, 13, 14, 15, 16, 17, 18, 19, 20, 21, 29, 30, 31, 32, 33], [0, 1, 2, 3, 4, 5, 6, 7, 8, 9, 10, 11, 12, 13, 14, 15, 16, 17, 18, 19, 20, 21, 23, 24, 25, 26, 27, 28, 29, 30, 31, 32, 33, 34], [0, 1, 2, 3, 4, 5, 6, 7, 8, 9, 10, 11, 12, 13, 14, 15, 16, 17, 18, 19, 20, 21, 22, 23, 24, 25, 26, 27, 28, 29, 30, 31, 32, 33, 34, 35], [0, 1, 2, 3, 4, 5, 6, 7, 8, 9, 10, 11, 12, 13, 14, 15, 16, 17, 18, 19, 20, 21, 22, 23, 24, 25, 26, 27, 28, 29, 30, 31, 32, 33, 34, 35, 36], [0, 1, 2, 3, 4, 5, 6, 7, 8, 9, 10, 11, 12, 13, 14, 15, 16, 17, 18, 19, 20, 21, 22, 23, 24, 25, 26, 27, 28, 29, 30, 31, 32, 33, 34, 35, 36, 37], [0, 1, 2, 3, 4, 5, 6, 7, 8, 9, 10, 11, 12, 13, 14, 15, 16, 17, 18, 19, 20, 21, 22, 23, 24, 25, 26, 27, 28, 29, 30, 31, 32, 33, 34, 35, 36, 37, 38], [0, 1, 2, 3, 4, 5, 6, 7, 8, 9, 10, 11, 12, 13, 14, 15, 16, 17, 18, 19, 20, 21, 22, 23, 24, 25, 26, 27, 28, 29, 30, 31, 32, 33, 34, 35, 36, 37, 38, 39], [0, 1, 2, 3, 4, 5, 6, 7, 8, 9, 10, 11, 12, 13, 14, 15, 16, 17, 18, 19, 20, 21, 22, 23, 24, 25, 26, 27, 28, 29, 30, 31, 32, 33, 34, 35, 36, 37, 38], [0, 1, 2, 3, 4, 5, 6, 7, 8, 9, 10, 11, 12, 13, 14, 15, 16, 17, 18, 19, 20, 21, 22, 23, 24, 25, 26, 27, 28, 29, 30, 31, 32, 33, 34, 35, 36, 37, 38, 39, 40, 41], [0, 1, 2, 3, 4, 5, 6, 7, 8, 9, 10, 11, 12, 13, 14, 15, 16, 17, 18, 19, 20, 21, 22, 23, 24, 25, 26, 27, 28, 29, 30, 31, 32, 33, 34, 35, 36, 37, 38, 39, 40, 41, 42], [0, 1, 2, 3, 4, 5, 6, 7, 8, 9, 10, 11, 12, 13, 14, 15, 16, 17, 18, 19, 20, 21, 22, 23, 24, 25, 26, 27, 28, 29, 30, 31, 32, 33, 34, 35, 36, 37, 38, 39, 40, 41, 42, 43], [0, 1, 2, 3, 4, 5, 6, 7, 8, 9, 10, 11, 12, 13, 14, 15, 16, 17, 18, 19, 20, 21, 22, 23, 24, 25, 26, 27, 28, 29, 30, 31, 32, 33, 34, 35, 36, 37, 38], [0, 1, 2, 3, 4, 5, 6, 7, 8, 9, 10, 11, 12, 13, 14, 15, 16, 17, 18, 19, 20, 21, 22, 23, 24, 25, 26, 27, 28, 29, 30, 31, 32, 33, 34, 35, 36, 37, 38, 45], [0, 1, 2, 3, 4, 5, 6, 7, 8, 9, 10, 11, 12, 13, 14, 15, 16, 17, 18, 19, 20, 21, 22, 23, 24, 25, 26, 27, 28, 29, 30, 31, 32, 33, 34, 35, 36, 37, 38, 45, 46], [0, 1, 2, 3, 4, 5, 6, 7, 8, 9, 10, 11, 12, 13, 14, 15, 16, 17, 18, 19, 20, 21, 22, 23, 24, 25, 26, 27, 28, 29, 30, 31, 32, 33, 34, 35, 36, 37, 38, 39, 40, 41, 42, 43, 44, 45, 46, 47], [0, 1, 2, 3, 4, 5, 6, 7, 8, 9, 10, 11, 12, 13, 14, 15, 16, 17, 18, 19, 20, 21, 22, 23, 24, 25, 26, 27, 28, 29, 30, 31, 32, 33, 34, 35, 36, 37, 38, 39, 40, 41, 42, 43, 44, 45, 46, 47, 48]]
def anc_raddlelaw37_PieceWidths_2 : List (List Nat) := [[], [0], [0, 1], [0, 1, 2], [0, 1, 2, 3], [0, 1, 2, 3, 4], [0, 1, 2, 3], [0, 1, 2, 3, 6], [0, 1, 2, 3], [0, 1, 2, 3, 6, 7, 8], [0, 1, 2, 3, 6, 7, 8, 9], [0, 1, 2, 3, 6, 7, 8, 9, 10], [0, 1, 2, 3, 4, 5, 6, 7, 8, 9, 10, 11], [0, 1, 2, 3, 4, 5, 6, 7, 8, 9, 10, 11, 12]]
noncomputable def raddlelaw37_PieceWidths_l1 (x84 : api_Row) : (Int × Int) → Option ((Int × Int) ⊕ (Bool ⊕ Int)) := fun s0 => match s0 with
  | (s182, s183) =>
    if decide (s183 < (x84.Cells.length : Int)) then
      Option.bind (idxO x84.Cells s183) fun x207 =>
      Option.bind (α := Int) (
        if x207.Kind == 1 then
          some (w64 (s182 + 1))
        else
          some s182) fun o213 =>
      Option.bind (α := Bool) (
        if x207.Kind != 9 then
          some (x207.Purl != x84.Back)
        else
          some false) fun o218 =>
      if o218 then
        some (.inr (.inl false))
      else
        some (.inl (o213, w64 (s183 + 1)))
    else
      some (.inr (.inr s182))
noncomputable def raddlelaw37_PieceWidths_l2 (r27 : (api_Chart × Int)) (p0 : api_Piece) : Int → Option (Int ⊕ (Bool ⊕ Unit)) := fun s0 => match s0 with
  | s74 =>
    if decide (s74 < (r27.1.Rows.length : Int)) then
      Option.bind (α := Unit ⊕ Bool) (
        Option.bind (idxO r27.1.Rows s74) fun x84 =>
        Option.bind (F_stitch_Uses x84.Cells) fun r93 =>
        Option.bind (F_stitch_Makes x84.Cells) fun r103 =>
        Option.bind (α := Bool) (
          if r93.2 != 0 then
            some true
          else
            if r103.2 != 0 then
              some true
            else
              Option.bind (idxO p0.Right s74) fun x111 =>
              Option.bind (idxO p0.Left s74) fun x116 =>
              if r93.1 != (w64 (x111 - x116)) then
                some true
              else
                Option.bind (idxO p0.Right (w64 (s74 + 1))) fun x128 =>
                Option.bind (idxO p0.Left (w64 (s74 + 1))) fun x133 =>
                if r103.1 != (w64 (x128 - x133)) then
                  some true
                else
                  Option.bind (remI s74 2) fun z156 =>
                  some (x84.Back != (z156 == 0))) fun o106 =>
        if o106 then
          some (.inr false)
        else
          Option.bind (α := Int ⊕ Bool) (
            Option.bind (whileO (raddlelaw37_PieceWidths_l1 x84) (0, 0)) fun z0 => match z0 with
              | .inl z =>
                some (.inr z)
              | .inr e187 =>
                some (.inl e187)) fun z0 => match z0 with
            | .inl o178 =>
              Option.bind (α := Bool) (
                if decide (o178 < 1) then
                  some true
                else
                  some (decide (o178 < (w64 ((x84.Cells.length : Int) - 2))))) fun o234 =>
              if o234 then
                some (.inr false)
              else
                some (.inl ())
            | .inr z =>
              some (.inr z)) fun z0 => match z0 with
        | .inl _ =>
          some (.inl (w64 (s74 + 1)))
        | .inr z =>
          some (.inr (.inl z))
    else
      some (.inr (.inr ()))
noncomputable def F_raddlelaw37_PieceWidths (p0 : api_Piece) : Option Bool :=
  Option.bind (F_raddlelaw37_alive) fun r12 =>
  Option.bind (α := Bool) (
    Option.bind (F_raddleref37_Great p0) fun r18 =>
    if r18 then
      some true
    else
      Option.bind (F_raddleref37_Check p0) fun r21 =>
      if r21 != 0 then
        some true
      else
        some (!r12)) fun o15 =>
  if o15 then
    some r12
  else
    Option.bind (F_piece_Chart p0) fun r27 =>
    if r27.2 != 0 then
      Option.bind (α := Bool) (
        if r12 then
          some (r27.2 == 22)
        else
          some false) fun o38 =>
      some o38
    else
      Option.bind (α := Bool) (
        Option.bind (idxO p0.Right 0) fun x46 =>
        Option.bind (idxO p0.Left 0) fun x51 =>
        if r27.1.Start != (w64 (x46 - x51)) then
          some true
        else
          some ((r27.1.Rows.length : Int) != (w64 ((p0.Left.length : Int) - 1)))) fun o43 =>
      if o43 then
        some false
      else
        Option.bind (α := Unit ⊕ Bool) (
          Option.bind (whileO (raddlelaw37_PieceWidths_l2 r27 p0) 0) fun z0 => match z0 with
            | .inl z =>
              some (.inr z)
            | .inr _ =>
              some (.inl ())) fun z0 => match z0 with
          | .inl _ =>
            some r12
          | .inr z =>
            some z
set_option maxHeartbeats 4000000 in
set_option maxRecDepth 100000 in
theorem c_raddlelaw37_PieceWidths (E : Nat → Prop) (w0 : World) (p0 : api_Piece) (v0 : Value) (r : Bool) (h : F_raddlelaw37_PieceWidths p0 = some r) (S : St0 E [] w0 w0 [] [fRep r_api_Piece (v0) p0]) :
    Calls Tryd.prog 5 #[v0] w0 (Ret (X := Unit) E [] w0 (fun _ => .bool r) (fun _ => []) (fun _ => [])) := by
  unfold F_raddlelaw37_PieceWidths at h
  obtain ⟨u1, u2, rfl, hu3, hu4⟩ := S.know (i := 0) (e := fRep r_api_Piece (v0) p0) rfl
  have S := S.learn (fRep (rL (rI .i64)) u1 p0.Left) hu3
  obtain ⟨ad5, cp6, _, rfl, _⟩ := hu3
  have S := S.learn (fRep (rL (rI .i64)) u2 p0.Right) hu4
  obtain ⟨ad7, cp8, _, rfl, _⟩ := hu4
  refine sEnter (args := [.agg #[.slice ad5 p0.Left.length cp6, .slice ad7 p0.Right.length cp8]]) 192 Tryd.func5 rfl rfl (by simp) S (fun a S => ?_)
  refine sSeq (fun K9 hK9 => ?_)
  refine sRegion ?_
  refine sBox (v := .agg #[.slice ad5 p0.Left.length cp6, .slice ad7 p0.Right.length cp8]) S (wN rfl) rfl rfl [.slice ad5 p0.Left.length cp6, .slice ad7 p0.Right.length cp8] rfl rfl (lb rfl) fun a b10 w S => ?_
  refine sMove (.bool false) S (wN rfl) (.inr rfl) rfl rfl (lb rfl) fun a S => ?_
  refine leafL (leafT (hK9 _ _ ?_))
  refine sSeq (fun K11 hK11 => ?_)
  refine sRegion ?_
  obtain ⟨r12, hx13, h⟩ := bindSome h
  have S1 := S.mem
  refine sCallQ (X := Unit) (f := 9) (vs := []) (val := fun _ => .bool r12) S (wN rfl) rfl callee9 rfl (S1.quiet [] rfl) (fun E1 w1 S1 => c_raddlelaw37_alive E1 w1  r12 hx13 S1) rfl (lb rfl) fun _ a w S => ?_
  refine sMove (.bool r12) S (wN rfl) (.inr rfl) rfl rfl (lb rfl) fun a S => ?_
  refine leafL (leafT (hK11 _ _ ?_))
  refine sSeq (fun K14 hK14 => ?_)
  obtain ⟨t16, h, g17⟩ := bindSome h
  refine sCut (fun a w => ∃ o15, o15 = t16 ∧ St [] E [] w0 192 a w [(1, .pointer (some ⟨b10, 0, none⟩)), (3, .bool r12), (25, .bool o15)] [eBox b10 30 [.slice ad5 p0.Left.length cp6, .slice ad7 p0.Right.length cp8]] [fRep (rL (rI .i64)) (.slice ad5 p0.Left.length cp6) p0.Left, fRep (rL (rI .i64)) (.slice ad7 p0.Right.length cp8) p0.Right]) ?_ (fun a w hI => ?_)
  · refine sRegion ?_
    refine sLoadN (p := b10) (off := 0) (T := 30) (vs := [.slice ad5 p0.Left.length cp6, .slice ad7 p0.Right.length cp8]) 0 [.slice ad5 p0.Left.length cp6, .slice ad7 p0.Right.length cp8] S (wN rfl) rfl rfl rfl rfl rfl rfl rfl (lb rfl) fun a S => ?_
    obtain ⟨r18, hx19, h⟩ := bindSome h
    have S1 := S.mem
    refine sCallQ (X := Unit) (f := 15) (vs := [.agg #[.slice ad5 p0.Left.length cp6, .slice ad7 p0.Right.length cp8]]) (val := fun _ => .bool r18) S (wN rfl) rfl callee15 rfl (S1.quiet [2] rfl) (fun E1 w1 S1 => c_raddleref37_Great E1 w1 p0 (.agg #[.slice ad5 p0.Left.length cp6, .slice ad7 p0.Right.length cp8]) r18 hx19 S1) rfl (lb rfl) fun _ a w S => ?_
    refine sMove (.bool r18) S (wN rfl) (.inl rfl) rfl rfl (lb rfl) fun a S => ?_
    rcases iteSome h with ⟨hc20, h⟩ | ⟨hc20, h⟩
    · refine sSkip 2 false 17 18 S rfl rfl rfl hc20 rfl (lb rfl) fun a S => ?_
      refine sSkip 2 false 17 19 S rfl rfl rfl hc20 rfl (lb rfl) fun a S => ?_
      refine sSkip 2 false 17 20 S rfl rfl rfl hc20 rfl (lb rfl) fun a S => ?_
      refine sPickT (.bool true) S (wN rfl) rfl rfl hc20 rfl rfl (lb rfl) fun a S => ?_
      refine sMove (.bool true) S (wN rfl) (.inl rfl) rfl rfl (lb rfl) fun a S => ?_
      refine sSkip 7 false 22 23 S rfl rfl rfl rfl rfl (lb rfl) fun a S => ?_
      refine sSkip 7 false 22 24 S rfl rfl rfl rfl rfl (lb rfl) fun a S => ?_
      refine sPickT (.bool true) S (wN rfl) rfl rfl rfl rfl rfl (lb rfl) fun a S => ?_
      exact leafL (leafT (⟨true, Option.some.inj h, S.fix [0] [1, 0] (by decide) rfl rfl rfl⟩))
    refine sLoadN (p := b10) (off := 0) (T := 30) (vs := [.slice ad5 p0.Left.length cp6, .slice ad7 p0.Right.length cp8]) 0 [.slice ad5 p0.Left.length cp6, .slice ad7 p0.Right.length cp8] S (wG 2 false 17 rfl rfl rfl hc20) rfl rfl rfl rfl rfl rfl rfl (lb rfl) fun a S => ?_
    obtain ⟨r21, hx22, h⟩ := bindSome h
    have S1 := S.mem
    refine sCallQ (X := Unit) (f := 21) (vs := [.agg #[.slice ad5 p0.Left.length cp6, .slice ad7 p0.Right.length cp8]]) (val := fun _ => iv r21) S (wG 2 false 17 rfl rfl rfl hc20) rfl callee21 rfl (S1.quiet [2] rfl) (fun E1 w1 S1 => c_raddleref37_Check E1 w1 p0 (.agg #[.slice ad5 p0.Left.length cp6, .slice ad7 p0.Right.length cp8]) r21 hx22 S1) rfl (lb rfl) fun _ a w S => ?_
    refine sBin (.bool (r21 != 0)) S (wG 2 false 17 rfl rfl rfl hc20) rfl rfl rfl (bNe _ _ _ _ .i64 r21 0) rfl (lb rfl) fun a S => ?_
    refine sPickF (.bool (r21 != 0)) S (wN rfl) rfl rfl hc20 rfl rfl (lb rfl) fun a S => ?_
    refine sMove (.bool (r21 != 0)) S (wN rfl) (.inl rfl) rfl rfl (lb rfl) fun a S => ?_
    rcases iteSome h with ⟨hc23, h⟩ | ⟨hc23, h⟩
    · refine sSkip 7 false 22 23 S rfl rfl rfl hc23 rfl (lb rfl) fun a S => ?_
      refine sSkip 7 false 22 24 S rfl rfl rfl hc23 rfl (lb rfl) fun a S => ?_
      refine sPickT (.bool true) S (wN rfl) rfl rfl hc23 rfl rfl (lb rfl) fun a S => ?_
      exact leafL (leafT (⟨true, Option.some.inj h, S.fix [0] [1, 0] (by decide) rfl rfl rfl⟩))
    refine sMove (.bool r12) S (wG 7 false 22 rfl rfl rfl hc23) (.inl rfl) rfl rfl (lb rfl) fun a S => ?_
    refine sNot (b := r12) S (wG 7 false 22 rfl rfl rfl hc23) rfl rfl rfl (lb rfl) fun a S => ?_
    refine sPickF (.bool (!r12)) S (wN rfl) rfl rfl hc23 rfl rfl (lb rfl) fun a S => ?_
    exact leafL (leafT (⟨!r12, Option.some.inj h, S.fix [0] [1, 0] (by decide) rfl rfl rfl⟩))
  obtain ⟨o15, rfl, S⟩ := hI
  have h := g17
  clear g17
  try dsimp only at h
  rcases iteSome h with ⟨hc24, h⟩ | ⟨hc24, h⟩
  · refine sCondT S rfl hc24 ?_
    refine sSeq (fun K25 hK25 => ?_)
    refine sRegion ?_
    refine sMove (.bool r12) S (wN rfl) (.inl rfl) rfl rfl (lb rfl) fun a S => ?_
    refine sMove (.bool r12) S (wN rfl) (.inr rfl) rfl rfl (lb rfl) fun a S => ?_
    refine leafL (leafT (hK25 _ _ ?_))
    obtain rfl := Option.some.inj h
    exact wp_ret (rThen (sRet (.bool r12) S (rsl1 rfl (rvT (t := 2) (v := .bool r12) S rfl)) ⟨(), rfl, S.mem.sel [] [] (by decide) rfl rfl⟩))
  refine sCondF S rfl hc24 ?_
  refine wp_skip (leafT (hK14 _ _ ?_))
  refine sSeq (fun K26 hK26 => ?_)
  refine sRegion ?_
  refine sLoadN (p := b10) (off := 0) (T := 30) (vs := [.slice ad5 p0.Left.length cp6, .slice ad7 p0.Right.length cp8]) 0 [.slice ad5 p0.Left.length cp6, .slice ad7 p0.Right.length cp8] S (wN rfl) rfl rfl rfl rfl rfl rfl rfl (lb rfl) fun a S => ?_
  obtain ⟨r27, hx28, h⟩ := bindSome h
  have S := S.learn (fRep r_api_Piece (.agg #[.slice ad5 p0.Left.length cp6, .slice ad7 p0.Right.length cp8]) p0) ⟨_, _, rfl, S.mem.know (i := 0) (e := fRep (rL (rI .i64)) (.slice ad5 p0.Left.length cp6) p0.Left) rfl, S.mem.know (i := 1) (e := fRep (rL (rI .i64)) (.slice ad7 p0.Right.length cp8) p0.Right) rfl⟩
  refine sCall (X := Value) (f := 17) (vs := [.agg #[.slice ad5 p0.Left.length cp6, .slice ad7 p0.Right.length cp8]]) (val := c_piece_Chart_val r27) (B' := fun _ => []) (D' := c_piece_Chart_D r27) [] [eBox b10 30 [.slice ad5 p0.Left.length cp6, .slice ad7 p0.Right.length cp8]] [fRep r_api_Piece (.agg #[.slice ad5 p0.Left.length cp6, .slice ad7 p0.Right.length cp8]) p0] [0] [0] S (wN rfl) rfl callee17 rfl (by decide) rfl rfl (fun E1 w1 S1 => c_piece_Chart E1 w1 p0 (.agg #[.slice ad5 p0.Left.length cp6, .slice ad7 p0.Right.length cp8]) r27 hx28 S1) rfl (lb rfl) fun u29 a w S => ?_
  obtain ⟨u30, rfl, hu31⟩ := S.mem.know (i := 0) (e := fRep r_api_Chart (u29) r27.1) rfl
  have S := S.learn (fRep (rL r_api_Row) u30 r27.1.Rows) hu31
  obtain ⟨ad32, cp33, _, rfl, _⟩ := hu31
  refine sMove (.tuple #[.agg #[iv r27.1.Start, .slice ad32 r27.1.Rows.length cp33], iv r27.2]) S (wN rfl) (.inl rfl) rfl rfl (lb rfl) fun a S => ?_
  refine sExtract (vs := [.agg #[iv r27.1.Start, .slice ad32 r27.1.Rows.length cp33], iv r27.2]) (.agg #[iv r27.1.Start, .slice ad32 r27.1.Rows.length cp33]) S (wN rfl) rfl rfl rfl rfl (lb rfl) fun a S => ?_
  refine sExtract (vs := [.agg #[iv r27.1.Start, .slice ad32 r27.1.Rows.length cp33], iv r27.2]) (iv r27.2) S (wN rfl) rfl rfl rfl rfl (lb rfl) fun a S => ?_
  refine sAlloc (.agg #[iv 0, .slice none 0 0]) S (wN rfl) rfl rfl [iv 0, .slice none 0 0] rfl rfl (lb rfl) fun a b34 w S => ?_
  refine sStore (p := b34) (off := 0) (T := 40) (vs := [iv 0, .slice none 0 0]) (v := .agg #[iv r27.1.Start, .slice ad32 r27.1.Rows.length cp33]) 0 [iv r27.1.Start, .slice ad32 r27.1.Rows.length cp33] S (wN rfl) rfl rfl rfl rfl rfl rfl rfl (by simp) rfl fun a w S => ?_
  refine sMove (iv r27.2) S (wN rfl) (.inr rfl) rfl rfl (lb rfl) fun a S => ?_
  refine leafL (leafT (hK26 _ _ ?_))
  refine sSeq (fun K35 hK35 => ?_)
  refine sSeq (fun K36 hK36 => ?_)
  refine sRegion ?_
  refine sMove (iv r27.2) S (wN rfl) (.inl rfl) rfl rfl (lb rfl) fun a S => ?_
  refine sBin (.bool (r27.2 != 0)) S (wN rfl) rfl rfl rfl (bNe _ _ _ _ .i64 r27.2 0) rfl (lb rfl) fun a S => ?_
  refine leafL (leafT (hK36 _ _ ?_))
  rcases iteSome h with ⟨hc37, h⟩ | ⟨hc37, h⟩
  · refine sCondT S rfl hc37 ?_
    obtain ⟨t39, h, g40⟩ := bindSome h
    refine sCut (fun a w => ∃ o38, o38 = t39 ∧ St [] E [] w0 192 a w [(2, .bool o38)] [] []) ?_ (fun a w hI => ?_)
    rotate_left
    · obtain ⟨o38, rfl, S⟩ := hI
      have h := g40
      clear g40
      try dsimp only at h
      obtain rfl := Option.some.inj h
      exact wp_ret (rThen (sRet (.bool o38) S (rsl1 rfl (rvT (t := 2) (v := .bool o38) S rfl)) ⟨(), rfl, S.mem.sel [] [] (by decide) rfl rfl⟩))
    refine sRegion ?_
    refine sMove (.bool r12) S (wN rfl) (.inl rfl) rfl rfl (lb rfl) fun a S => ?_
    refine sMove (.bool r12) S (wN rfl) (.inl rfl) rfl rfl (lb rfl) fun a S => ?_
    rcases iteSome h with ⟨hc41, h⟩ | ⟨hc41, h⟩
    rotate_left
    · refine sSkip 1 true 35 36 S rfl rfl rfl hc41 rfl (lb rfl) fun a S => ?_
      refine sSkip 1 true 35 37 S rfl rfl rfl hc41 rfl (lb rfl) fun a S => ?_
      refine sPickF (.bool false) S (wN rfl) rfl rfl hc41 rfl rfl (lb rfl) fun a S => ?_
      refine sMove (.bool false) S (wN rfl) (.inr rfl) rfl rfl (lb rfl) fun a S => ?_
      exact leafL (leafT (⟨false, Option.some.inj h, S.fix [] [] (by decide) rfl rfl rfl⟩))
    refine sMove (iv r27.2) S (wG 1 true 35 rfl rfl rfl hc41) (.inl rfl) rfl rfl (lb rfl) fun a S => ?_
    refine sBin (.bool (r27.2 == 22)) S (wG 1 true 35 rfl rfl rfl hc41) rfl rfl rfl (bEq _ _ _ _ .i64 r27.2 22) rfl (lb rfl) fun a S => ?_
    refine sPickT (.bool (r27.2 == 22)) S (wN rfl) rfl rfl hc41 rfl rfl (lb rfl) fun a S => ?_
    refine sMove (.bool (r27.2 == 22)) S (wN rfl) (.inr rfl) rfl rfl (lb rfl) fun a S => ?_
    exact leafL (leafT (⟨r27.2 == 22, Option.some.inj h, S.fix [] [] (by decide) rfl rfl rfl⟩))
  refine sCondF S rfl hc37 ?_
  refine wp_skip (leafT (hK35 _ _ ?_))
  refine sSeq (fun K42 hK42 => ?_)
  obtain ⟨t44, h, g45⟩ := bindSome h
  refine sCut (fun a w => ∃ o43, o43 = t44 ∧ St [] E [] w0 192 a w [(1, .pointer (some ⟨b10, 0, none⟩)), (3, .bool r12), (4, .pointer (some ⟨b34, 0, none⟩)), (60, .bool o43)] [eBox b10 30 [.slice ad5 p0.Left.length cp6, .slice ad7 p0.Right.length cp8], eBox b34 40 [iv r27.1.Start, .slice ad32 r27.1.Rows.length cp33]] [fRep (rL (rI .i64)) (.slice ad5 p0.Left.length cp6) p0.Left, fRep (rL (rI .i64)) (.slice ad7 p0.Right.length cp8) p0.Right, fRep (rL r_api_Row) (.slice ad32 r27.1.Rows.length cp33) r27.1.Rows]) ?_ (fun a w hI => ?_)
  · obtain ⟨x46, hx47, h⟩ := bindSome h
    obtain ⟨x51, hx52, h⟩ := bindSome h
    rcases iteSome h with ⟨hc56, h⟩ | ⟨hc56, h⟩
    · obtain ⟨q57, hq58, S⟩ := pIdx (P := Tryd.prog) (r := (rI .i64)) (v := .slice ad7 p0.Right.length cp8) (xs := p0.Right) (j := 0) 28 3 4 S Tryd.underlying28 rfl rfl hx47
      obtain ⟨u59, S⟩ := pLoad (r := (rI .i64)) (q := q57) (x := x46) 0 S rfl
      obtain rfl : u59 = iv x46 := S.mem.know (i := 1) (e := fRep (rI .i64) (u59) x46) rfl
      obtain ⟨q60, hq61, S⟩ := pIdx (P := Tryd.prog) (r := (rI .i64)) (v := .slice ad5 p0.Left.length cp6) (xs := p0.Left) (j := 0) 28 3 6 S Tryd.underlying28 rfl rfl hx52
      obtain ⟨u62, S⟩ := pLoad (r := (rI .i64)) (q := q60) (x := x51) 0 S rfl
      obtain rfl : u62 = iv x51 := S.mem.know (i := 1) (e := fRep (rI .i64) (u62) x51) rfl
      refine sDraw (nf := []) (W := [(0, 39, .pointer (some ⟨b34, 0, none⟩)), (1, 40, iv r27.1.Start), (2, 41, .pointer (some ⟨b10, 1, none⟩)), (3, 42, .slice ad7 p0.Right.length cp8), (4, 43, q57), (5, 44, iv x46), (6, 45, .pointer (some ⟨b10, 0, none⟩)), (7, 46, .slice ad5 p0.Left.length cp6), (8, 47, q60), (9, 48, iv x51), (10, 49, iv (w64 (x46 - x51))), (11, 50, .bool (r27.1.Start != (w64 (x46 - x51)))), (12, 51, .bool (r27.1.Start != (w64 (x46 - x51)))), (13, 52, undef), (14, 53, undef), (15, 54, undef), (16, 55, undef), (17, 56, undef), (18, 57, undef), (19, 58, undef), (20, 59, undef), (21, 60, .bool true)]) rfl S ?_
      refine node_by (A := anc_raddlelaw37_PieceWidths_0) (nf := []) (Y := []) (W := [(0, 39, .pointer (some ⟨b34, 0, none⟩)), (1, 40, iv r27.1.Start), (2, 41, .pointer (some ⟨b10, 1, none⟩)), (3, 42, .slice ad7 p0.Right.length cp8), (4, 43, q57), (5, 44, iv x46), (6, 45, .pointer (some ⟨b10, 0, none⟩)), (7, 46, .slice ad5 p0.Left.length cp6), (8, 47, q60), (9, 48, iv x51), (10, 49, iv (w64 (x46 - x51))), (11, 50, .bool (r27.1.Start != (w64 (x46 - x51)))), (12, 51, .bool (r27.1.Start != (w64 (x46 - x51)))), (13, 52, undef), (14, 53, undef), (15, 54, undef), (16, 55, undef), (17, 56, undef), (18, 57, undef), (19, 58, undef), (20, 59, undef), (21, 60, .bool true)]) 22 (by kernel_rfl) (by kernel_rfl) (by kernel_rfl) (by kernel_rfl) (by kernel_rfl) [0, 1, 2, 3, 4, 5, 6, 7, 8, 9, 10, 11, 12, 13, 14, 15, 16, 17, 18, 19, 20, 21] (by kernel_rfl) (by decide) (by decide) (aF 0 21 (by decide) ?_ (aF 1 20 (by decide) ?_ (aF 2 19 (by decide) ?_ (aF 3 18 (by decide) ?_ (aF 4 17 (by decide) ?_ (aF 5 16 (by decide) ?_ (aF 6 15 (by decide) ?_ (aF 7 14 (by decide) ?_ (aF 8 13 (by decide) ?_ (aF 9 12 (by decide) ?_ (aF 10 11 (by decide) ?_ (aF 11 10 (by decide) ?_ (aF 12 9 (by decide) ?_ (aF 13 8 (by decide) ?_ (aF 14 7 (by decide) ?_ (aF 15 6 (by decide) ?_ (aF 16 5 (by decide) ?_ (aF 17 4 (by decide) ?_ (aF 18 3 (by decide) ?_ (aF 19 2 (by decide) ?_ (aF 20 1 (by decide) ?_ (aF 21 0 (by decide) ?_ (trivial))))))))))))))))))))))) [(1, .pointer (some ⟨b10, 0, none⟩)), (3, .bool r12), (4, .pointer (some ⟨b34, 0, none⟩)), (60, .bool true)] (fin_of [none, none, none, some 21] rfl (by kernel_rfl) (by kernel_rfl)) (fun _ a w S => ?_)
      · refine fI 39 (.pointer (some ⟨b34, 0, none⟩)) [(4, .pointer (some ⟨b34, 0, none⟩))] 0 [none] rfl rfl rfl rfl rfl rfl fun G a w S => ?_
        refine sField (b := b34) (off := 0) 0 0 S (wN rfl) rfl rfl rfl rfl rfl (lb rfl) fun a S => ?_
        exact leafL ⟨rfl, S⟩
      · refine fI 40 (iv r27.1.Start) [(39, .pointer (some ⟨b34, 0, none⟩))] 1 [some 0] rfl rfl rfl rfl rfl rfl fun G a w S => ?_
        refine sLoad1 (p := b34) (off := 0) (T := 40) (vs := [iv r27.1.Start, .slice ad32 r27.1.Rows.length cp33]) 0 (iv r27.1.Start) S (wN rfl) rfl rfl rfl rfl rfl rfl (lb rfl) fun a S => ?_
        exact leafL ⟨rfl, S⟩
      · refine fI 41 (.pointer (some ⟨b10, 1, none⟩)) [(1, .pointer (some ⟨b10, 0, none⟩))] 2 [none] rfl rfl rfl rfl rfl rfl fun G a w S => ?_
        refine sField (b := b10) (off := 0) 1 1 S (wN rfl) rfl rfl rfl rfl rfl (lb rfl) fun a S => ?_
        exact leafL ⟨rfl, S⟩
      · refine fI 42 (.slice ad7 p0.Right.length cp8) [(41, .pointer (some ⟨b10, 1, none⟩))] 3 [some 2] rfl rfl rfl rfl rfl rfl fun G a w S => ?_
        refine sLoad1 (p := b10) (off := 1) (T := 30) (vs := [.slice ad5 p0.Left.length cp6, .slice ad7 p0.Right.length cp8]) 1 (.slice ad7 p0.Right.length cp8) S (wN rfl) rfl rfl rfl rfl rfl rfl (lb rfl) fun a S => ?_
        exact leafL ⟨rfl, S⟩
      · refine fI 43 q57 [(42, .slice ad7 p0.Right.length cp8)] 4 [some 3] rfl rfl rfl rfl rfl rfl fun G a w S => ?_
        refine sIdxV (v := .slice ad7 p0.Right.length cp8) (k := .i64) (j := 0) S (wN rfl) rfl rfl rfl hq58 rfl (lb rfl) fun a S => ?_
        exact leafL ⟨rfl, S⟩
      · refine fI 44 (iv x46) [(43, q57)] 5 [some 4] rfl rfl rfl rfl rfl rfl fun G a w S => ?_
        refine sLoadV1 (vq := q57) 3 (iv x46) S (wN rfl) rfl rfl rfl rfl rfl (lb rfl) fun a S => ?_
        exact leafL ⟨rfl, S⟩
      · refine fI 45 (.pointer (some ⟨b10, 0, none⟩)) [(1, .pointer (some ⟨b10, 0, none⟩))] 6 [none] rfl rfl rfl rfl rfl rfl fun G a w S => ?_
        refine sField (b := b10) (off := 0) 0 0 S (wN rfl) rfl rfl rfl rfl rfl (lb rfl) fun a S => ?_
        exact leafL ⟨rfl, S⟩
      · refine fI 46 (.slice ad5 p0.Left.length cp6) [(45, .pointer (some ⟨b10, 0, none⟩))] 7 [some 6] rfl rfl rfl rfl rfl rfl fun G a w S => ?_
        refine sLoad1 (p := b10) (off := 0) (T := 30) (vs := [.slice ad5 p0.Left.length cp6, .slice ad7 p0.Right.length cp8]) 1 (.slice ad5 p0.Left.length cp6) S (wN rfl) rfl rfl rfl rfl rfl rfl (lb rfl) fun a S => ?_
        exact leafL ⟨rfl, S⟩
      · refine fI 47 q60 [(46, .slice ad5 p0.Left.length cp6)] 8 [some 7] rfl rfl rfl rfl rfl rfl fun G a w S => ?_
        refine sIdxV (v := .slice ad5 p0.Left.length cp6) (k := .i64) (j := 0) S (wN rfl) rfl rfl rfl hq61 rfl (lb rfl) fun a S => ?_
        exact leafL ⟨rfl, S⟩
      · refine fI 48 (iv x51) [(47, q60)] 9 [some 8] rfl rfl rfl rfl rfl rfl fun G a w S => ?_
        refine sLoadV1 (vq := q60) 0 (iv x51) S (wN rfl) rfl rfl rfl rfl rfl (lb rfl) fun a S => ?_
        exact leafL ⟨rfl, S⟩
      · refine fI 49 (iv (w64 (x46 - x51))) [(44, iv x46), (48, iv x51)] 10 [some 5, some 9] rfl rfl rfl rfl rfl rfl fun G a w S => ?_
        refine sBin (iv (w64 (x46 - x51))) S (wN rfl) rfl rfl rfl (bSub _ _ _ _ x46 x51) rfl (lb rfl) fun a S => ?_
        exact leafL ⟨rfl, S⟩
      · refine fI 50 (.bool (r27.1.Start != (w64 (x46 - x51)))) [(40, iv r27.1.Start), (49, iv (w64 (x46 - x51)))] 11 [some 1, some 10] rfl rfl rfl rfl rfl rfl fun G a w S => ?_
        refine sBin (.bool (r27.1.Start != (w64 (x46 - x51)))) S (wN rfl) rfl rfl rfl (bNe _ _ _ _ .i64 r27.1.Start (w64 (x46 - x51))) rfl (lb rfl) fun a S => ?_
        exact leafL ⟨rfl, S⟩
      · refine fI 51 (.bool (r27.1.Start != (w64 (x46 - x51)))) [(50, .bool (r27.1.Start != (w64 (x46 - x51))))] 12 [some 11] rfl rfl rfl rfl rfl rfl fun G a w S => ?_
        refine sMove (.bool (r27.1.Start != (w64 (x46 - x51)))) S (wN rfl) (.inl rfl) rfl rfl (lb rfl) fun a S => ?_
        exact leafL ⟨rfl, S⟩
      · refine fI 52 undef [(4, .pointer (some ⟨b34, 0, none⟩)), (51, .bool (r27.1.Start != (w64 (x46 - x51))))] 13 [none, some 12] rfl rfl rfl rfl rfl rfl fun G a w S => ?_
        refine sSkip 12 false 51 52 S rfl rfl rfl hc56 rfl (lb rfl) fun a S => ?_
        exact leafL ⟨rfl, S⟩
      · refine fI 53 undef [(52, undef), (51, .bool (r27.1.Start != (w64 (x46 - x51))))] 14 [some 13, some 12] rfl rfl rfl rfl rfl rfl fun G a w S => ?_
        refine sSkip 12 false 51 53 S rfl rfl rfl hc56 rfl (lb rfl) fun a S => ?_
        exact leafL ⟨rfl, S⟩
      · refine fI 54 undef [(53, undef), (51, .bool (r27.1.Start != (w64 (x46 - x51))))] 15 [some 14, some 12] rfl rfl rfl rfl rfl rfl fun G a w S => ?_
        refine sSkip 12 false 51 54 S rfl rfl rfl hc56 rfl (lb rfl) fun a S => ?_
        exact leafL ⟨rfl, S⟩
      · refine fI 55 undef [(1, .pointer (some ⟨b10, 0, none⟩)), (51, .bool (r27.1.Start != (w64 (x46 - x51))))] 16 [none, some 12] rfl rfl rfl rfl rfl rfl fun G a w S => ?_
        refine sSkip 12 false 51 55 S rfl rfl rfl hc56 rfl (lb rfl) fun a S => ?_
        exact leafL ⟨rfl, S⟩
      · refine fI 56 undef [(55, undef), (51, .bool (r27.1.Start != (w64 (x46 - x51))))] 17 [some 16, some 12] rfl rfl rfl rfl rfl rfl fun G a w S => ?_
        refine sSkip 12 false 51 56 S rfl rfl rfl hc56 rfl (lb rfl) fun a S => ?_
        exact leafL ⟨rfl, S⟩
      · refine fI 57 undef [(56, undef), (51, .bool (r27.1.Start != (w64 (x46 - x51))))] 18 [some 17, some 12] rfl rfl rfl rfl rfl rfl fun G a w S => ?_
        refine sSkip 12 false 51 57 S rfl rfl rfl hc56 rfl (lb rfl) fun a S => ?_
        exact leafL ⟨rfl, S⟩
      · refine fI 58 undef [(57, undef), (51, .bool (r27.1.Start != (w64 (x46 - x51))))] 19 [some 18, some 12] rfl rfl rfl rfl rfl rfl fun G a w S => ?_
        refine sSkip 12 false 51 58 S rfl rfl rfl hc56 rfl (lb rfl) fun a S => ?_
        exact leafL ⟨rfl, S⟩
      · refine fI 59 undef [(54, undef), (58, undef), (51, .bool (r27.1.Start != (w64 (x46 - x51))))] 20 [some 15, some 19, some 12] rfl rfl rfl rfl rfl rfl fun G a w S => ?_
        refine sSkip 12 false 51 59 S rfl rfl rfl hc56 rfl (lb rfl) fun a S => ?_
        exact leafL ⟨rfl, S⟩
      · refine fI 60 (.bool true) [(51, .bool (r27.1.Start != (w64 (x46 - x51)))), (59, undef)] 21 [some 12, some 20] rfl rfl rfl rfl rfl rfl fun G a w S => ?_
        refine sPickT (.bool true) S (wN rfl) rfl rfl hc56 rfl rfl (lb rfl) fun a S => ?_
        exact leafL ⟨rfl, S⟩
      exact leafT (⟨true, Option.some.inj h, S.fix [1, 0] [9, 10, 6] (by decide) rfl rfl rfl⟩)
    obtain ⟨q63, hq64, S⟩ := pIdx (P := Tryd.prog) (r := (rI .i64)) (v := .slice ad7 p0.Right.length cp8) (xs := p0.Right) (j := 0) 28 3 4 S Tryd.underlying28 rfl rfl hx47
    obtain ⟨u65, S⟩ := pLoad (r := (rI .i64)) (q := q63) (x := x46) 0 S rfl
    obtain rfl : u65 = iv x46 := S.mem.know (i := 1) (e := fRep (rI .i64) (u65) x46) rfl
    obtain ⟨q66, hq67, S⟩ := pIdx (P := Tryd.prog) (r := (rI .i64)) (v := .slice ad5 p0.Left.length cp6) (xs := p0.Left) (j := 0) 28 3 6 S Tryd.underlying28 rfl rfl hx52
    obtain ⟨u68, S⟩ := pLoad (r := (rI .i64)) (q := q66) (x := x51) 0 S rfl
    obtain rfl : u68 = iv x51 := S.mem.know (i := 1) (e := fRep (rI .i64) (u68) x51) rfl
    refine sDraw (nf := []) (W := [(0, 39, .pointer (some ⟨b34, 0, none⟩)), (1, 40, iv r27.1.Start), (2, 41, .pointer (some ⟨b10, 1, none⟩)), (3, 42, .slice ad7 p0.Right.length cp8), (4, 43, q63), (5, 44, iv x46), (6, 45, .pointer (some ⟨b10, 0, none⟩)), (7, 46, .slice ad5 p0.Left.length cp6), (8, 47, q66), (9, 48, iv x51), (10, 49, iv (w64 (x46 - x51))), (11, 50, .bool (r27.1.Start != (w64 (x46 - x51)))), (12, 51, .bool (r27.1.Start != (w64 (x46 - x51)))), (13, 52, .pointer (some ⟨b34, 1, none⟩)), (14, 53, .slice ad32 r27.1.Rows.length cp33), (15, 54, iv (r27.1.Rows.length : Int)), (16, 55, .pointer (some ⟨b10, 0, none⟩)), (17, 56, .slice ad5 p0.Left.length cp6), (18, 57, iv (p0.Left.length : Int)), (19, 58, iv (w64 ((p0.Left.length : Int) - 1))), (20, 59, .bool ((r27.1.Rows.length : Int) != (w64 ((p0.Left.length : Int) - 1)))), (21, 60, .bool ((r27.1.Rows.length : Int) != (w64 ((p0.Left.length : Int) - 1))))]) rfl S ?_
    refine node_by (A := anc_raddlelaw37_PieceWidths_0) (nf := []) (Y := []) (W := [(0, 39, .pointer (some ⟨b34, 0, none⟩)), (1, 40, iv r27.1.Start), (2, 41, .pointer (some ⟨b10, 1, none⟩)), (3, 42, .slice ad7 p0.Right.length cp8), (4, 43, q63), (5, 44, iv x46), (6, 45, .pointer (some ⟨b10, 0, none⟩)), (7, 46, .slice ad5 p0.Left.length cp6), (8, 47, q66), (9, 48, iv x51), (10, 49, iv (w64 (x46 - x51))), (11, 50, .bool (r27.1.Start != (w64 (x46 - x51)))), (12, 51, .bool (r27.1.Start != (w64 (x46 - x51)))), (13, 52, .pointer (some ⟨b34, 1, none⟩)), (14, 53, .slice ad32 r27.1.Rows.length cp33), (15, 54, iv (r27.1.Rows.length : Int)), (16, 55, .pointer (some ⟨b10, 0, none⟩)), (17, 56, .slice ad5 p0.Left.length cp6), (18, 57, iv (p0.Left.length : Int)), (19, 58, iv (w64 ((p0.Left.length : Int) - 1))), (20, 59, .bool ((r27.1.Rows.length : Int) != (w64 ((p0.Left.length : Int) - 1)))), (21, 60, .bool ((r27.1.Rows.length : Int) != (w64 ((p0.Left.length : Int) - 1))))]) 22 (by kernel_rfl) (by kernel_rfl) (by kernel_rfl) (by kernel_rfl) (by kernel_rfl) [0, 1, 2, 3, 4, 5, 6, 7, 8, 9, 10, 11, 12, 13, 14, 15, 16, 17, 18, 19, 20, 21] (by kernel_rfl) (by decide) (by decide) (aF 0 21 (by decide) ?_ (aF 1 20 (by decide) ?_ (aF 2 19 (by decide) ?_ (aF 3 18 (by decide) ?_ (aF 4 17 (by decide) ?_ (aF 5 16 (by decide) ?_ (aF 6 15 (by decide) ?_ (aF 7 14 (by decide) ?_ (aF 8 13 (by decide) ?_ (aF 9 12 (by decide) ?_ (aF 10 11 (by decide) ?_ (aF 11 10 (by decide) ?_ (aF 12 9 (by decide) ?_ (aF 13 8 (by decide) ?_ (aF 14 7 (by decide) ?_ (aF 15 6 (by decide) ?_ (aF 16 5 (by decide) ?_ (aF 17 4 (by decide) ?_ (aF 18 3 (by decide) ?_ (aF 19 2 (by decide) ?_ (aF 20 1 (by decide) ?_ (aF 21 0 (by decide) ?_ (trivial))))))))))))))))))))))) [(1, .pointer (some ⟨b10, 0, none⟩)), (3, .bool r12), (4, .pointer (some ⟨b34, 0, none⟩)), (60, .bool ((r27.1.Rows.length : Int) != (w64 ((p0.Left.length : Int) - 1))))] (fin_of [none, none, none, some 21] rfl (by kernel_rfl) (by kernel_rfl)) (fun _ a w S => ?_)
    · refine fI 39 (.pointer (some ⟨b34, 0, none⟩)) [(4, .pointer (some ⟨b34, 0, none⟩))] 0 [none] rfl rfl rfl rfl rfl rfl fun G a w S => ?_
      refine sField (b := b34) (off := 0) 0 0 S (wN rfl) rfl rfl rfl rfl rfl (lb rfl) fun a S => ?_
      exact leafL ⟨rfl, S⟩
    · refine fI 40 (iv r27.1.Start) [(39, .pointer (some ⟨b34, 0, none⟩))] 1 [some 0] rfl rfl rfl rfl rfl rfl fun G a w S => ?_
      refine sLoad1 (p := b34) (off := 0) (T := 40) (vs := [iv r27.1.Start, .slice ad32 r27.1.Rows.length cp33]) 0 (iv r27.1.Start) S (wN rfl) rfl rfl rfl rfl rfl rfl (lb rfl) fun a S => ?_
      exact leafL ⟨rfl, S⟩
    · refine fI 41 (.pointer (some ⟨b10, 1, none⟩)) [(1, .pointer (some ⟨b10, 0, none⟩))] 2 [none] rfl rfl rfl rfl rfl rfl fun G a w S => ?_
      refine sField (b := b10) (off := 0) 1 1 S (wN rfl) rfl rfl rfl rfl rfl (lb rfl) fun a S => ?_
      exact leafL ⟨rfl, S⟩
    · refine fI 42 (.slice ad7 p0.Right.length cp8) [(41, .pointer (some ⟨b10, 1, none⟩))] 3 [some 2] rfl rfl rfl rfl rfl rfl fun G a w S => ?_
      refine sLoad1 (p := b10) (off := 1) (T := 30) (vs := [.slice ad5 p0.Left.length cp6, .slice ad7 p0.Right.length cp8]) 1 (.slice ad7 p0.Right.length cp8) S (wN rfl) rfl rfl rfl rfl rfl rfl (lb rfl) fun a S => ?_
      exact leafL ⟨rfl, S⟩
    · refine fI 43 q63 [(42, .slice ad7 p0.Right.length cp8)] 4 [some 3] rfl rfl rfl rfl rfl rfl fun G a w S => ?_
      refine sIdxV (v := .slice ad7 p0.Right.length cp8) (k := .i64) (j := 0) S (wN rfl) rfl rfl rfl hq64 rfl (lb rfl) fun a S => ?_
      exact leafL ⟨rfl, S⟩
    · refine fI 44 (iv x46) [(43, q63)] 5 [some 4] rfl rfl rfl rfl rfl rfl fun G a w S => ?_
      refine sLoadV1 (vq := q63) 3 (iv x46) S (wN rfl) rfl rfl rfl rfl rfl (lb rfl) fun a S => ?_
      exact leafL ⟨rfl, S⟩
    · refine fI 45 (.pointer (some ⟨b10, 0, none⟩)) [(1, .pointer (some ⟨b10, 0, none⟩))] 6 [none] rfl rfl rfl rfl rfl rfl fun G a w S => ?_
      refine sField (b := b10) (off := 0) 0 0 S (wN rfl) rfl rfl rfl rfl rfl (lb rfl) fun a S => ?_
      exact leafL ⟨rfl, S⟩
    · refine fI 46 (.slice ad5 p0.Left.length cp6) [(45, .pointer (some ⟨b10, 0, none⟩))] 7 [some 6] rfl rfl rfl rfl rfl rfl fun G a w S => ?_
      refine sLoad1 (p := b10) (off := 0) (T := 30) (vs := [.slice ad5 p0.Left.length cp6, .slice ad7 p0.Right.length cp8]) 1 (.slice ad5 p0.Left.length cp6) S (wN rfl) rfl rfl rfl rfl rfl rfl (lb rfl) fun a S => ?_
      exact leafL ⟨rfl, S⟩
    · refine fI 47 q66 [(46, .slice ad5 p0.Left.length cp6)] 8 [some 7] rfl rfl rfl rfl rfl rfl fun G a w S => ?_
      refine sIdxV (v := .slice ad5 p0.Left.length cp6) (k := .i64) (j := 0) S (wN rfl) rfl rfl rfl hq67 rfl (lb rfl) fun a S => ?_
      exact leafL ⟨rfl, S⟩
    · refine fI 48 (iv x51) [(47, q66)] 9 [some 8] rfl rfl rfl rfl rfl rfl fun G a w S => ?_
      refine sLoadV1 (vq := q66) 0 (iv x51) S (wN rfl) rfl rfl rfl rfl rfl (lb rfl) fun a S => ?_
      exact leafL ⟨rfl, S⟩
    · refine fI 49 (iv (w64 (x46 - x51))) [(44, iv x46), (48, iv x51)] 10 [some 5, some 9] rfl rfl rfl rfl rfl rfl fun G a w S => ?_
      refine sBin (iv (w64 (x46 - x51))) S (wN rfl) rfl rfl rfl (bSub _ _ _ _ x46 x51) rfl (lb rfl) fun a S => ?_
      exact leafL ⟨rfl, S⟩
    · refine fI 50 (.bool (r27.1.Start != (w64 (x46 - x51)))) [(40, iv r27.1.Start), (49, iv (w64 (x46 - x51)))] 11 [some 1, some 10] rfl rfl rfl rfl rfl rfl fun G a w S => ?_
      refine sBin (.bool (r27.1.Start != (w64 (x46 - x51)))) S (wN rfl) rfl rfl rfl (bNe _ _ _ _ .i64 r27.1.Start (w64 (x46 - x51))) rfl (lb rfl) fun a S => ?_
      exact leafL ⟨rfl, S⟩
    · refine fI 51 (.bool (r27.1.Start != (w64 (x46 - x51)))) [(50, .bool (r27.1.Start != (w64 (x46 - x51))))] 12 [some 11] rfl rfl rfl rfl rfl rfl fun G a w S => ?_
      refine sMove (.bool (r27.1.Start != (w64 (x46 - x51)))) S (wN rfl) (.inl rfl) rfl rfl (lb rfl) fun a S => ?_
      exact leafL ⟨rfl, S⟩
    · refine fI 52 (.pointer (some ⟨b34, 1, none⟩)) [(4, .pointer (some ⟨b34, 0, none⟩)), (51, .bool (r27.1.Start != (w64 (x46 - x51))))] 13 [none, some 12] rfl rfl rfl rfl rfl rfl fun G a w S => ?_
      refine sField (b := b34) (off := 0) 1 1 S (wG 12 false 51 rfl rfl rfl hc56) rfl rfl rfl rfl rfl (lb rfl) fun a S => ?_
      exact leafL ⟨rfl, S⟩
    · refine fI 53 (.slice ad32 r27.1.Rows.length cp33) [(52, .pointer (some ⟨b34, 1, none⟩)), (51, .bool (r27.1.Start != (w64 (x46 - x51))))] 14 [some 13, some 12] rfl rfl rfl rfl rfl rfl fun G a w S => ?_
      refine sLoad1 (p := b34) (off := 1) (T := 40) (vs := [iv r27.1.Start, .slice ad32 r27.1.Rows.length cp33]) 0 (.slice ad32 r27.1.Rows.length cp33) S (wG 12 false 51 rfl rfl rfl hc56) rfl rfl rfl rfl rfl rfl (lb rfl) fun a S => ?_
      exact leafL ⟨rfl, S⟩
    · refine fI 54 (iv (r27.1.Rows.length : Int)) [(53, .slice ad32 r27.1.Rows.length cp33), (51, .bool (r27.1.Start != (w64 (x46 - x51))))] 15 [some 14, some 12] rfl rfl rfl rfl rfl rfl fun G a w S => ?_
      refine sLen (ad := ad32) (m := r27.1.Rows.length) (c := cp33) S (wG 12 false 51 rfl rfl rfl hc56) rfl Tryd.underlying38 rfl rfl (lb rfl) fun a S => ?_
      exact leafL ⟨rfl, S⟩
    · refine fI 55 (.pointer (some ⟨b10, 0, none⟩)) [(1, .pointer (some ⟨b10, 0, none⟩)), (51, .bool (r27.1.Start != (w64 (x46 - x51))))] 16 [none, some 12] rfl rfl rfl rfl rfl rfl fun G a w S => ?_
      refine sField (b := b10) (off := 0) 0 0 S (wG 12 false 51 rfl rfl rfl hc56) rfl rfl rfl rfl rfl (lb rfl) fun a S => ?_
      exact leafL ⟨rfl, S⟩
    · refine fI 56 (.slice ad5 p0.Left.length cp6) [(55, .pointer (some ⟨b10, 0, none⟩)), (51, .bool (r27.1.Start != (w64 (x46 - x51))))] 17 [some 16, some 12] rfl rfl rfl rfl rfl rfl fun G a w S => ?_
      refine sLoad1 (p := b10) (off := 0) (T := 30) (vs := [.slice ad5 p0.Left.length cp6, .slice ad7 p0.Right.length cp8]) 1 (.slice ad5 p0.Left.length cp6) S (wG 12 false 51 rfl rfl rfl hc56) rfl rfl rfl rfl rfl rfl (lb rfl) fun a S => ?_
      exact leafL ⟨rfl, S⟩
    · refine fI 57 (iv (p0.Left.length : Int)) [(56, .slice ad5 p0.Left.length cp6), (51, .bool (r27.1.Start != (w64 (x46 - x51))))] 18 [some 17, some 12] rfl rfl rfl rfl rfl rfl fun G a w S => ?_
      refine sLen (ad := ad5) (m := p0.Left.length) (c := cp6) S (wG 12 false 51 rfl rfl rfl hc56) rfl Tryd.underlying28 rfl rfl (lb rfl) fun a S => ?_
      exact leafL ⟨rfl, S⟩
    · refine fI 58 (iv (w64 ((p0.Left.length : Int) - 1))) [(57, iv (p0.Left.length : Int)), (51, .bool (r27.1.Start != (w64 (x46 - x51))))] 19 [some 18, some 12] rfl rfl rfl rfl rfl rfl fun G a w S => ?_
      refine sBin (iv (w64 ((p0.Left.length : Int) - 1))) S (wG 12 false 51 rfl rfl rfl hc56) rfl rfl rfl (bSub _ _ _ _ (p0.Left.length : Int) 1) rfl (lb rfl) fun a S => ?_
      exact leafL ⟨rfl, S⟩
    · refine fI 59 (.bool ((r27.1.Rows.length : Int) != (w64 ((p0.Left.length : Int) - 1)))) [(54, iv (r27.1.Rows.length : Int)), (58, iv (w64 ((p0.Left.length : Int) - 1))), (51, .bool (r27.1.Start != (w64 (x46 - x51))))] 20 [some 15, some 19, some 12] rfl rfl rfl rfl rfl rfl fun G a w S => ?_
      refine sBin (.bool ((r27.1.Rows.length : Int) != (w64 ((p0.Left.length : Int) - 1)))) S (wG 12 false 51 rfl rfl rfl hc56) rfl rfl rfl (bNe _ _ _ _ .i64 (r27.1.Rows.length : Int) (w64 ((p0.Left.length : Int) - 1))) rfl (lb rfl) fun a S => ?_
      exact leafL ⟨rfl, S⟩
    · refine fI 60 (.bool ((r27.1.Rows.length : Int) != (w64 ((p0.Left.length : Int) - 1)))) [(51, .bool (r27.1.Start != (w64 (x46 - x51)))), (59, .bool ((r27.1.Rows.length : Int) != (w64 ((p0.Left.length : Int) - 1))))] 21 [some 12, some 20] rfl rfl rfl rfl rfl rfl fun G a w S => ?_
      refine sPickF (.bool ((r27.1.Rows.length : Int) != (w64 ((p0.Left.length : Int) - 1)))) S (wN rfl) rfl rfl hc56 rfl rfl (lb rfl) fun a S => ?_
      exact leafL ⟨rfl, S⟩
    exact leafT (⟨(r27.1.Rows.length : Int) != (w64 ((p0.Left.length : Int) - 1)), Option.some.inj h, S.fix [1, 0] [9, 10, 6] (by decide) rfl rfl rfl⟩)
  obtain ⟨o43, rfl, S⟩ := hI
  have h := g45
  clear g45
  try dsimp only at h
  rcases iteSome h with ⟨hc69, h⟩ | ⟨hc69, h⟩
  · refine sCondT S rfl hc69 ?_
    refine sSeq (fun K70 hK70 => ?_)
    refine sRegion ?_
    refine sMove (.bool false) S (wN rfl) (.inr rfl) rfl rfl (lb rfl) fun a S => ?_
    refine leafL (leafT (hK70 _ _ ?_))
    obtain rfl := Option.some.inj h
    exact wp_ret (rThen (sRet (.bool false) S (rsl1 rfl (rvT (t := 2) (v := .bool false) S rfl)) ⟨(), rfl, S.mem.sel [] [] (by decide) rfl rfl⟩))
  refine sCondF S rfl hc69 ?_
  refine wp_skip (leafT (hK42 _ _ ?_))
  obtain ⟨t71, h, g72⟩ := bindSome h
  refine sCut (fun a w => .inl () = t71 ∧ St [] E [] w0 192 a w [(3, .bool r12)] [] []) ?_ (fun a w hI => ?_)
  rotate_left
  · obtain ⟨rfl, S⟩ := hI
    have h := g72
    clear g72
    try dsimp only at h
    refine sSeq (fun K247 hK247 => ?_)
    refine sRegion ?_
    refine sMove (.bool r12) S (wN rfl) (.inl rfl) rfl rfl (lb rfl) fun a S => ?_
    refine sMove (.bool r12) S (wN rfl) (.inr rfl) rfl rfl (lb rfl) fun a S => ?_
    refine leafL (leafT (hK247 _ _ ?_))
    obtain rfl := Option.some.inj h
    exact wp_ret (sRet (.bool r12) S (rsl1 rfl (rvT (t := 2) (v := .bool r12) S rfl)) ⟨(), rfl, S.mem.sel [] [] (by decide) rfl rfl⟩)
  refine sSeq (fun K73 hK73 => ?_)
  refine sRegion ?_
  refine sMove (iv 0) S (wN rfl) (.inr rfl) rfl rfl (lb rfl) fun a S => ?_
  refine leafL (leafT (hK73 _ _ ?_))
  refine wp_block ?_
  obtain ⟨t77, hl, g76⟩ := bindSome h
  refine sLoop hl (fun s0 a w => match s0 with | s74 => St [] E [] w0 192 a w [(1, .pointer (some ⟨b10, 0, none⟩)), (3, .bool r12), (4, .pointer (some ⟨b34, 0, none⟩)), (6, iv s74)] [eBox b10 30 [.slice ad5 p0.Left.length cp6, .slice ad7 p0.Right.length cp8], eBox b34 40 [iv r27.1.Start, .slice ad32 r27.1.Rows.length cp33]] [fRep (rL (rI .i64)) (.slice ad5 p0.Left.length cp6) p0.Left, fRep (rL (rI .i64)) (.slice ad7 p0.Right.length cp8) p0.Right, fRep (rL r_api_Row) (.slice ad32 r27.1.Rows.length cp33) r27.1.Rows]) (S.fix [0, 1] [0, 1, 2] (by decide) rfl rfl rfl) ?_
  clear hl h
  intro s74 a w c0 hI h hu75
  unfold raddlelaw37_PieceWidths_l2 at h
  dsimp only at h hI
  have S := hI
  refine sSeq (fun K78 hK78 => ?_)
  refine sSeq (fun K79 hK79 => ?_)
  refine sRegion ?_
  refine sMove (iv s74) S (wN rfl) (.inl rfl) rfl rfl (lb rfl) fun a S => ?_
  refine sField (b := b34) (off := 0) 1 1 S (wN rfl) rfl rfl rfl rfl rfl (lb rfl) fun a S => ?_
  refine sLoad1 (p := b34) (off := 1) (T := 40) (vs := [iv r27.1.Start, .slice ad32 r27.1.Rows.length cp33]) 1 (.slice ad32 r27.1.Rows.length cp33) S (wN rfl) rfl rfl rfl rfl rfl rfl (lb rfl) fun a S => ?_
  refine sLen (ad := ad32) (m := r27.1.Rows.length) (c := cp33) S (wN rfl) rfl Tryd.underlying38 rfl rfl (lb rfl) fun a S => ?_
  refine sBin (.bool (decide (s74 < (r27.1.Rows.length : Int)))) S (wN rfl) rfl rfl rfl (bLt _ _ _ _ .i64 s74 (r27.1.Rows.length : Int)) rfl (lb rfl) fun a S => ?_
  refine leafL (leafT (hK79 _ _ ?_))
  rcases iteSome h with ⟨hc80, h⟩ | ⟨hc80, h⟩
  rotate_left
  · refine sCondF S rfl hc80 ?_
    obtain rfl := Option.some.inj h
    obtain rfl := hu75 _ rfl
    have h := g76
    clear g76
    try dsimp only at h
    exact wp_exit (xThen (xThen (xHit (leafT (⟨Option.some.inj h, S.fix [] [] (by decide) rfl rfl rfl⟩)))))
  refine sCondT S rfl hc80 ?_
  refine wp_skip (leafT (hK78 _ _ ?_))
  obtain ⟨t81, h, g82⟩ := bindSome h
  refine sCut (fun a w => .inl () = t81 ∧ St [] E [] w0 192 a w [(1, .pointer (some ⟨b10, 0, none⟩)), (3, .bool r12), (4, .pointer (some ⟨b34, 0, none⟩)), (6, iv s74)] [eBox b10 30 [.slice ad5 p0.Left.length cp6, .slice ad7 p0.Right.length cp8], eBox b34 40 [iv r27.1.Start, .slice ad32 r27.1.Rows.length cp33]] [fRep (rL (rI .i64)) (.slice ad5 p0.Left.length cp6) p0.Left, fRep (rL (rI .i64)) (.slice ad7 p0.Right.length cp8) p0.Right, fRep (rL r_api_Row) (.slice ad32 r27.1.Rows.length cp33) r27.1.Rows]) ?_ (fun a w hI => ?_)
  rotate_left
  · obtain ⟨rfl, S⟩ := hI
    have h := g82
    clear g82
    try dsimp only at h
    refine sRegion ?_
    refine sMove (iv s74) S (wN rfl) (.inl rfl) rfl rfl (lb rfl) fun a S => ?_
    refine sBin (iv (w64 (s74 + 1))) S (wN rfl) rfl rfl rfl (bAdd _ _ _ _ s74 1) rfl (lb rfl) fun a S => ?_
    refine sMove (iv (w64 (s74 + 1))) S (wN rfl) (.inr rfl) rfl rfl (lb rfl) fun a S => ?_
    exact leafL (leafT (⟨w64 (s74 + 1), (Option.some.inj h).symm, (S.fix [0, 1] [0, 1, 2] (by decide) rfl rfl rfl)⟩))
  refine wp_block ?_
  refine sSeq (fun K83 hK83 => ?_)
  refine sRegion ?_
  refine sField (b := b34) (off := 0) 1 1 S (wN rfl) rfl rfl rfl rfl rfl (lb rfl) fun a S => ?_
  refine sLoad1 (p := b34) (off := 1) (T := 40) (vs := [iv r27.1.Start, .slice ad32 r27.1.Rows.length cp33]) 1 (.slice ad32 r27.1.Rows.length cp33) S (wN rfl) rfl rfl rfl rfl rfl rfl (lb rfl) fun a S => ?_
  refine sMove (iv s74) S (wN rfl) (.inl rfl) rfl rfl (lb rfl) fun a S => ?_
  obtain ⟨x84, hx85, h⟩ := bindSome h
  obtain ⟨q86, hq87, S⟩ := pIdx (P := Tryd.prog) (r := r_api_Row) (v := .slice ad32 r27.1.Rows.length cp33) (xs := r27.1.Rows) (j := s74) 38 54 2 S Tryd.underlying38 rfl rfl hx85
  refine sIdxV (v := .slice ad32 r27.1.Rows.length cp33) (k := .i64) (j := s74) S (wN rfl) rfl rfl rfl hq87 rfl (lb rfl) fun a S => ?_
  obtain ⟨q88, hq89, S⟩ := pFld (P := Tryd.prog) (r := r_api_Row) (s2 := (rL r_api_Stitch)) (g := (·.Cells)) (q := q86) (z := x84) 54 1 0 1 S rfl rfl comp_api_Row_Cells
  refine sFldV (q := q86) S (wN rfl) rfl rfl hq89 rfl (lb rfl) fun a S => ?_
  obtain ⟨u90, S⟩ := pLoad (r := (rL r_api_Stitch)) (q := q88) (x := x84.Cells) 0 S rfl
  obtain ⟨ad91, cp92, _, rfl, _⟩ := S.mem.know (i := 1) (e := fRep (rL r_api_Stitch) (u90) x84.Cells) rfl
  refine sLoadV1 (vq := q88) 0 (.slice ad91 x84.Cells.length cp92) S (wN rfl) rfl rfl rfl rfl rfl (lb rfl) fun a S => ?_
  obtain ⟨r93, hx94, h⟩ := bindSome h
  have S1 := S.mem
  refine sCallQ (X := Unit) (f := 22) (vs := [.slice ad91 x84.Cells.length cp92]) (val := fun _ => .tuple #[iv r93.1, iv r93.2]) S (wN rfl) rfl callee22 rfl (S1.quiet [1] rfl) (fun E1 w1 S1 => c_stitch_Uses E1 w1 x84.Cells (.slice ad91 x84.Cells.length cp92) r93 hx94 S1) rfl (lb rfl) fun _ a w S => ?_
  refine sMove (.tuple #[iv r93.1, iv r93.2]) S (wN rfl) (.inl rfl) rfl rfl (lb rfl) fun a S => ?_
  refine sExtract (vs := [iv r93.1, iv r93.2]) (iv r93.1) S (wN rfl) rfl rfl rfl rfl (lb rfl) fun a S => ?_
  refine sExtract (vs := [iv r93.1, iv r93.2]) (iv r93.2) S (wN rfl) rfl rfl rfl rfl (lb rfl) fun a S => ?_
  refine sMove (iv r93.1) S (wN rfl) (.inr rfl) rfl rfl (lb rfl) fun a S => ?_
  refine sMove (iv r93.2) S (wN rfl) (.inr rfl) rfl rfl (lb rfl) fun a S => ?_
  refine leafL (leafT (hK83 _ _ ?_))
  refine sSeq (fun K95 hK95 => ?_)
  refine sRegion ?_
  refine sField (b := b34) (off := 0) 1 1 S (wN rfl) rfl rfl rfl rfl rfl (lb rfl) fun a S => ?_
  refine sLoad1 (p := b34) (off := 1) (T := 40) (vs := [iv r27.1.Start, .slice ad32 r27.1.Rows.length cp33]) 1 (.slice ad32 r27.1.Rows.length cp33) S (wN rfl) rfl rfl rfl rfl rfl rfl (lb rfl) fun a S => ?_
  refine sMove (iv s74) S (wN rfl) (.inl rfl) rfl rfl (lb rfl) fun a S => ?_
  obtain ⟨q96, hq97, S⟩ := pIdx (P := Tryd.prog) (r := r_api_Row) (v := .slice ad32 r27.1.Rows.length cp33) (xs := r27.1.Rows) (j := s74) 38 54 6 S Tryd.underlying38 rfl rfl hx85
  refine sIdxV (v := .slice ad32 r27.1.Rows.length cp33) (k := .i64) (j := s74) S (wN rfl) rfl rfl rfl hq97 rfl (lb rfl) fun a S => ?_
  obtain ⟨q98, hq99, S⟩ := pFld (P := Tryd.prog) (r := r_api_Row) (s2 := (rL r_api_Stitch)) (g := (·.Cells)) (q := q96) (z := x84) 54 1 0 1 S rfl rfl comp_api_Row_Cells
  refine sFldV (q := q96) S (wN rfl) rfl rfl hq99 rfl (lb rfl) fun a S => ?_
  obtain ⟨u100, S⟩ := pLoad (r := (rL r_api_Stitch)) (q := q98) (x := x84.Cells) 0 S rfl
  obtain ⟨ad101, cp102, _, rfl, _⟩ := S.mem.know (i := 1) (e := fRep (rL r_api_Stitch) (u100) x84.Cells) rfl
  refine sLoadV1 (vq := q98) 0 (.slice ad101 x84.Cells.length cp102) S (wN rfl) rfl rfl rfl rfl rfl (lb rfl) fun a S => ?_
  obtain ⟨r103, hx104, h⟩ := bindSome h
  have S1 := S.mem
  refine sCallQ (X := Unit) (f := 23) (vs := [.slice ad101 x84.Cells.length cp102]) (val := fun _ => .tuple #[iv r103.1, iv r103.2]) S (wN rfl) rfl callee23 rfl (S1.quiet [1] rfl) (fun E1 w1 S1 => c_stitch_Makes E1 w1 x84.Cells (.slice ad101 x84.Cells.length cp102) r103 hx104 S1) rfl (lb rfl) fun _ a w S => ?_
  refine sMove (.tuple #[iv r103.1, iv r103.2]) S (wN rfl) (.inl rfl) rfl rfl (lb rfl) fun a S => ?_
  refine sExtract (vs := [iv r103.1, iv r103.2]) (iv r103.1) S (wN rfl) rfl rfl rfl rfl (lb rfl) fun a S => ?_
  refine sExtract (vs := [iv r103.1, iv r103.2]) (iv r103.2) S (wN rfl) rfl rfl rfl rfl (lb rfl) fun a S => ?_
  refine sMove (iv r103.1) S (wN rfl) (.inr rfl) rfl rfl (lb rfl) fun a S => ?_
  refine sMove (iv r103.2) S (wN rfl) (.inr rfl) rfl rfl (lb rfl) fun a S => ?_
  refine leafL (leafT (hK95 _ _ ?_))
  refine sSeq (fun K105 hK105 => ?_)
  obtain ⟨t107, h, g108⟩ := bindSome h
  refine sCut (fun a w => ∃ o106, o106 = t107 ∧ St [] E [] w0 192 a w [(1, .pointer (some ⟨b10, 0, none⟩)), (3, .bool r12), (4, .pointer (some ⟨b34, 0, none⟩)), (6, iv s74), (137, .bool o106)] [eBox b10 30 [.slice ad5 p0.Left.length cp6, .slice ad7 p0.Right.length cp8], eBox b34 40 [iv r27.1.Start, .slice ad32 r27.1.Rows.length cp33]] [fRep (rL (rI .i64)) (.slice ad5 p0.Left.length cp6) p0.Left, fRep (rL (rI .i64)) (.slice ad7 p0.Right.length cp8) p0.Right, fRep (rL r_api_Row) (.slice ad32 r27.1.Rows.length cp33) r27.1.Rows]) ?_ (fun a w hI => ?_)
  rotate_left
  · obtain ⟨o106, rfl, S⟩ := hI
    have h := g108
    clear g108
    try dsimp only at h
    rcases iteSome h with ⟨hc175, h⟩ | ⟨hc175, h⟩
    · refine sCondT S rfl hc175 ?_
      refine sSeq (fun K176 hK176 => ?_)
      refine sRegion ?_
      refine sMove (.bool false) S (wN rfl) (.inr rfl) rfl rfl (lb rfl) fun a S => ?_
      refine leafL (leafT (hK176 _ _ ?_))
      obtain rfl := Option.some.inj h
      have h := g82
      clear g82
      try dsimp only at h
      obtain rfl := Option.some.inj h
      obtain rfl := hu75 _ rfl
      have h := g76
      clear g76
      try dsimp only at h
      obtain rfl := Option.some.inj h
      have h := g72
      clear g72
      try dsimp only at h
      obtain rfl := Option.some.inj h
      exact wp_ret (rThen (rBlock (rThen (rThen (rBlock (rThen (sRet (.bool false) S (rsl1 rfl (rvT (t := 2) (v := .bool false) S rfl)) ⟨(), rfl, S.mem.sel [] [] (by decide) rfl rfl⟩)))))))
    refine sCondF S rfl hc175 ?_
    refine wp_skip (leafT (hK105 _ _ ?_))
    refine sSeq (fun K177 hK177 => ?_)
    refine sRegion ?_
    refine sMove (iv 0) S (wN rfl) (.inr rfl) rfl rfl (lb rfl) fun a S => ?_
    refine leafL (leafT (hK177 _ _ ?_))
    obtain ⟨t179, h, g180⟩ := bindSome h
    refine sCut (fun a w => ∃ o178, .inl o178 = t179 ∧ St [] E [] w0 192 a w [(1, .pointer (some ⟨b10, 0, none⟩)), (3, .bool r12), (4, .pointer (some ⟨b34, 0, none⟩)), (6, iv s74), (11, iv o178)] [eBox b10 30 [.slice ad5 p0.Left.length cp6, .slice ad7 p0.Right.length cp8], eBox b34 40 [iv r27.1.Start, .slice ad32 r27.1.Rows.length cp33]] [fRep (rL (rI .i64)) (.slice ad5 p0.Left.length cp6) p0.Left, fRep (rL (rI .i64)) (.slice ad7 p0.Right.length cp8) p0.Right, fRep (rL r_api_Row) (.slice ad32 r27.1.Rows.length cp33) r27.1.Rows]) ?_ (fun a w hI => ?_)
    rotate_left
    · obtain ⟨o178, rfl, S⟩ := hI
      have h := g180
      clear g180
      try dsimp only at h
      obtain ⟨t235, h, g236⟩ := bindSome h
      refine sCut (fun a w => ∃ o234, o234 = t235 ∧ St [] E [] w0 192 a w [(1, .pointer (some ⟨b10, 0, none⟩)), (3, .bool r12), (4, .pointer (some ⟨b34, 0, none⟩)), (6, iv s74), (190, .bool o234)] [eBox b10 30 [.slice ad5 p0.Left.length cp6, .slice ad7 p0.Right.length cp8], eBox b34 40 [iv r27.1.Start, .slice ad32 r27.1.Rows.length cp33]] [fRep (rL (rI .i64)) (.slice ad5 p0.Left.length cp6) p0.Left, fRep (rL (rI .i64)) (.slice ad7 p0.Right.length cp8) p0.Right, fRep (rL r_api_Row) (.slice ad32 r27.1.Rows.length cp33) r27.1.Rows]) ?_ (fun a w hI => ?_)
      rotate_left
      · obtain ⟨o234, rfl, S⟩ := hI
        have h := g236
        clear g236
        try dsimp only at h
        rcases iteSome h with ⟨hc245, h⟩ | ⟨hc245, h⟩
        rotate_left
        · refine sCondF S rfl hc245 ?_
          exact wp_skip (leafB (leafT (⟨Option.some.inj h, S.fix [0, 1] [0, 1, 2] (by decide) rfl rfl rfl⟩)))
        refine sCondT S rfl hc245 ?_
        refine sSeq (fun K246 hK246 => ?_)
        refine sRegion ?_
        refine sMove (.bool false) S (wN rfl) (.inr rfl) rfl rfl (lb rfl) fun a S => ?_
        refine leafL (leafT (hK246 _ _ ?_))
        obtain rfl := Option.some.inj h
        have h := g82
        clear g82
        try dsimp only at h
        obtain rfl := Option.some.inj h
        obtain rfl := hu75 _ rfl
        have h := g76
        clear g76
        try dsimp only at h
        obtain rfl := Option.some.inj h
        have h := g72
        clear g72
        try dsimp only at h
        obtain rfl := Option.some.inj h
        exact wp_ret (rBlock (rThen (rThen (rBlock (rThen (sRet (.bool false) S (rsl1 rfl (rvT (t := 2) (v := .bool false) S rfl)) ⟨(), rfl, S.mem.sel [] [] (by decide) rfl rfl⟩))))))
      refine sRegion ?_
      refine sMove (iv o178) S (wN rfl) (.inl rfl) rfl rfl (lb rfl) fun a S => ?_
      refine sBin (.bool (decide (o178 < 1))) S (wN rfl) rfl rfl rfl (bLt _ _ _ _ .i64 o178 1) rfl (lb rfl) fun a S => ?_
      refine sMove (.bool (decide (o178 < 1))) S (wN rfl) (.inl rfl) rfl rfl (lb rfl) fun a S => ?_
      rcases iteSome h with ⟨hc237, h⟩ | ⟨hc237, h⟩
      · refine sSkip 2 false 179 180 S rfl rfl rfl hc237 rfl (lb rfl) fun a S => ?_
        refine sSkip 2 false 179 181 S rfl rfl rfl hc237 rfl (lb rfl) fun a S => ?_
        refine sSkip 2 false 179 182 S rfl rfl rfl hc237 rfl (lb rfl) fun a S => ?_
        refine sSkip 2 false 179 183 S rfl rfl rfl hc237 rfl (lb rfl) fun a S => ?_
        refine sSkip 2 false 179 184 S rfl rfl rfl hc237 rfl (lb rfl) fun a S => ?_
        refine sSkip 2 false 179 185 S rfl rfl rfl hc237 rfl (lb rfl) fun a S => ?_
        refine sSkip 2 false 179 186 S rfl rfl rfl hc237 rfl (lb rfl) fun a S => ?_
        refine sSkip 2 false 179 187 S rfl rfl rfl hc237 rfl (lb rfl) fun a S => ?_
        refine sSkip 2 false 179 188 S rfl rfl rfl hc237 rfl (lb rfl) fun a S => ?_
        refine sSkip 2 false 179 189 S rfl rfl rfl hc237 rfl (lb rfl) fun a S => ?_
        refine sPickT (.bool true) S (wN rfl) rfl rfl hc237 rfl rfl (lb rfl) fun a S => ?_
        exact leafL (leafT (⟨true, Option.some.inj h, S.fix [0, 1] [0, 1, 2] (by decide) rfl rfl rfl⟩))
      refine sMove (iv o178) S (wG 2 false 179 rfl rfl rfl hc237) (.inl rfl) rfl rfl (lb rfl) fun a S => ?_
      refine sField (b := b34) (off := 0) 1 1 S (wG 2 false 179 rfl rfl rfl hc237) rfl rfl rfl rfl rfl (lb rfl) fun a S => ?_
      refine sLoad1 (p := b34) (off := 1) (T := 40) (vs := [iv r27.1.Start, .slice ad32 r27.1.Rows.length cp33]) 1 (.slice ad32 r27.1.Rows.length cp33) S (wG 2 false 179 rfl rfl rfl hc237) rfl rfl rfl rfl rfl rfl (lb rfl) fun a S => ?_
      refine sMove (iv s74) S (wG 2 false 179 rfl rfl rfl hc237) (.inl rfl) rfl rfl (lb rfl) fun a S => ?_
      obtain ⟨q238, hq239, S⟩ := pIdx (P := Tryd.prog) (r := r_api_Row) (v := .slice ad32 r27.1.Rows.length cp33) (xs := r27.1.Rows) (j := s74) 38 54 2 S Tryd.underlying38 rfl rfl hx85
      refine sIdxV (v := .slice ad32 r27.1.Rows.length cp33) (k := .i64) (j := s74) S (wG 2 false 179 rfl rfl rfl hc237) rfl rfl rfl hq239 rfl (lb rfl) fun a S => ?_
      obtain ⟨q240, hq241, S⟩ := pFld (P := Tryd.prog) (r := r_api_Row) (s2 := (rL r_api_Stitch)) (g := (·.Cells)) (q := q238) (z := x84) 54 1 0 1 S rfl rfl comp_api_Row_Cells
      refine sFldV (q := q238) S (wG 2 false 179 rfl rfl rfl hc237) rfl rfl hq241 rfl (lb rfl) fun a S => ?_
      obtain ⟨u242, S⟩ := pLoad (r := (rL r_api_Stitch)) (q := q240) (x := x84.Cells) 0 S rfl
      obtain ⟨ad243, cp244, _, rfl, _⟩ := S.mem.know (i := 1) (e := fRep (rL r_api_Stitch) (u242) x84.Cells) rfl
      refine sLoadV1 (vq := q240) 0 (.slice ad243 x84.Cells.length cp244) S (wG 2 false 179 rfl rfl rfl hc237) rfl rfl rfl rfl rfl (lb rfl) fun a S => ?_
      refine sLen (ad := ad243) (m := x84.Cells.length) (c := cp244) S (wG 2 false 179 rfl rfl rfl hc237) rfl Tryd.underlying52 rfl rfl (lb rfl) fun a S => ?_
      refine sBin (iv (w64 ((x84.Cells.length : Int) - 2))) S (wG 2 false 179 rfl rfl rfl hc237) rfl rfl rfl (bSub _ _ _ _ (x84.Cells.length : Int) 2) rfl (lb rfl) fun a S => ?_
      refine sBin (.bool (decide (o178 < (w64 ((x84.Cells.length : Int) - 2))))) S (wG 2 false 179 rfl rfl rfl hc237) rfl rfl rfl (bLt _ _ _ _ .i64 o178 (w64 ((x84.Cells.length : Int) - 2))) rfl (lb rfl) fun a S => ?_
      refine sPickF (.bool (decide (o178 < (w64 ((x84.Cells.length : Int) - 2))))) S (wN rfl) rfl rfl hc237 rfl rfl (lb rfl) fun a S => ?_
      exact leafL (leafT (⟨decide (o178 < (w64 ((x84.Cells.length : Int) - 2))), Option.some.inj h, S.fix [0, 1] [4, 5, 6] (by decide) rfl rfl rfl⟩))
    refine sSeq (fun K181 hK181 => ?_)
    refine sRegion ?_
    refine sMove (iv 0) S (wN rfl) (.inr rfl) rfl rfl (lb rfl) fun a S => ?_
    refine leafL (leafT (hK181 _ _ ?_))
    refine wp_block ?_
    obtain ⟨t186, hl, g185⟩ := bindSome h
    refine sLoop hl (fun s0 a w => match s0 with | (s182, s183) => St [] E [] w0 192 a w [(1, .pointer (some ⟨b10, 0, none⟩)), (3, .bool r12), (4, .pointer (some ⟨b34, 0, none⟩)), (6, iv s74), (11, iv s182), (12, iv s183)] [eBox b10 30 [.slice ad5 p0.Left.length cp6, .slice ad7 p0.Right.length cp8], eBox b34 40 [iv r27.1.Start, .slice ad32 r27.1.Rows.length cp33]] [fRep (rL (rI .i64)) (.slice ad5 p0.Left.length cp6) p0.Left, fRep (rL (rI .i64)) (.slice ad7 p0.Right.length cp8) p0.Right, fRep (rL r_api_Row) (.slice ad32 r27.1.Rows.length cp33) r27.1.Rows]) (S.fix [0, 1] [0, 1, 2] (by decide) rfl rfl rfl) ?_
    clear hl h
    intro s0 a w c0 hI h hu184
    obtain ⟨s182, s183⟩ := s0
    unfold raddlelaw37_PieceWidths_l1 at h
    dsimp only at h hI
    have S := hI
    refine sSeq (fun K188 hK188 => ?_)
    refine sSeq (fun K189 hK189 => ?_)
    refine sRegion ?_
    refine sMove (iv s183) S (wN rfl) (.inl rfl) rfl rfl (lb rfl) fun a S => ?_
    refine sField (b := b34) (off := 0) 1 1 S (wN rfl) rfl rfl rfl rfl rfl (lb rfl) fun a S => ?_
    refine sLoad1 (p := b34) (off := 1) (T := 40) (vs := [iv r27.1.Start, .slice ad32 r27.1.Rows.length cp33]) 1 (.slice ad32 r27.1.Rows.length cp33) S (wN rfl) rfl rfl rfl rfl rfl rfl (lb rfl) fun a S => ?_
    refine sMove (iv s74) S (wN rfl) (.inl rfl) rfl rfl (lb rfl) fun a S => ?_
    obtain ⟨q190, hq191, S⟩ := pIdx (P := Tryd.prog) (r := r_api_Row) (v := .slice ad32 r27.1.Rows.length cp33) (xs := r27.1.Rows) (j := s74) 38 54 2 S Tryd.underlying38 rfl rfl hx85
    refine sIdxV (v := .slice ad32 r27.1.Rows.length cp33) (k := .i64) (j := s74) S (wN rfl) rfl rfl rfl hq191 rfl (lb rfl) fun a S => ?_
    obtain ⟨q192, hq193, S⟩ := pFld (P := Tryd.prog) (r := r_api_Row) (s2 := (rL r_api_Stitch)) (g := (·.Cells)) (q := q190) (z := x84) 54 1 0 1 S rfl rfl comp_api_Row_Cells
    refine sFldV (q := q190) S (wN rfl) rfl rfl hq193 rfl (lb rfl) fun a S => ?_
    obtain ⟨u194, S⟩ := pLoad (r := (rL r_api_Stitch)) (q := q192) (x := x84.Cells) 0 S rfl
    obtain ⟨ad195, cp196, _, rfl, _⟩ := S.mem.know (i := 1) (e := fRep (rL r_api_Stitch) (u194) x84.Cells) rfl
    refine sLoadV1 (vq := q192) 0 (.slice ad195 x84.Cells.length cp196) S (wN rfl) rfl rfl rfl rfl rfl (lb rfl) fun a S => ?_
    refine sLen (ad := ad195) (m := x84.Cells.length) (c := cp196) S (wN rfl) rfl Tryd.underlying52 rfl rfl (lb rfl) fun a S => ?_
    refine sBin (.bool (decide (s183 < (x84.Cells.length : Int)))) S (wN rfl) rfl rfl rfl (bLt _ _ _ _ .i64 s183 (x84.Cells.length : Int)) rfl (lb rfl) fun a S => ?_
    refine leafL (leafT (hK189 _ _ ?_))
    rcases iteSome h with ⟨hc197, h⟩ | ⟨hc197, h⟩
    rotate_left
    · refine sCondF S rfl hc197 ?_
      obtain rfl := Option.some.inj h
      obtain rfl := hu184 _ rfl
      have h := g185
      clear g185
      try dsimp only at h
      exact wp_exit (xThen (xThen (xHit (leafT (⟨s182, Option.some.inj h, S.fix [0, 1] [4, 5, 6] (by decide) rfl rfl rfl⟩)))))
    refine sCondT S rfl hc197 ?_
    refine wp_skip (leafT (hK188 _ _ ?_))
    refine sSeq (fun K198 hK198 => ?_)
    refine wp_block ?_
    refine sSeq (fun K199 hK199 => ?_)
    refine sRegion ?_
    refine sField (b := b34) (off := 0) 1 1 S (wN rfl) rfl rfl rfl rfl rfl (lb rfl) fun a S => ?_
    refine sLoad1 (p := b34) (off := 1) (T := 40) (vs := [iv r27.1.Start, .slice ad32 r27.1.Rows.length cp33]) 1 (.slice ad32 r27.1.Rows.length cp33) S (wN rfl) rfl rfl rfl rfl rfl rfl (lb rfl) fun a S => ?_
    refine sMove (iv s74) S (wN rfl) (.inl rfl) rfl rfl (lb rfl) fun a S => ?_
    obtain ⟨q200, hq201, S⟩ := pIdx (P := Tryd.prog) (r := r_api_Row) (v := .slice ad32 r27.1.Rows.length cp33) (xs := r27.1.Rows) (j := s74) 38 54 6 S Tryd.underlying38 rfl rfl hx85
    refine sIdxV (v := .slice ad32 r27.1.Rows.length cp33) (k := .i64) (j := s74) S (wN rfl) rfl rfl rfl hq201 rfl (lb rfl) fun a S => ?_
    obtain ⟨q202, hq203, S⟩ := pFld (P := Tryd.prog) (r := r_api_Row) (s2 := (rL r_api_Stitch)) (g := (·.Cells)) (q := q200) (z := x84) 54 1 0 1 S rfl rfl comp_api_Row_Cells
    refine sFldV (q := q200) S (wN rfl) rfl rfl hq203 rfl (lb rfl) fun a S => ?_
    obtain ⟨u204, S⟩ := pLoad (r := (rL r_api_Stitch)) (q := q202) (x := x84.Cells) 0 S rfl
    obtain ⟨ad205, cp206, _, rfl, _⟩ := S.mem.know (i := 1) (e := fRep (rL r_api_Stitch) (u204) x84.Cells) rfl
    refine sLoadV1 (vq := q202) 0 (.slice ad205 x84.Cells.length cp206) S (wN rfl) rfl rfl rfl rfl rfl (lb rfl) fun a S => ?_
    refine sMove (iv s183) S (wN rfl) (.inl rfl) rfl rfl (lb rfl) fun a S => ?_
    obtain ⟨x207, hx208, h⟩ := bindSome h
    obtain ⟨q209, hq210, S⟩ := pIdx (P := Tryd.prog) (r := r_api_Stitch) (v := .slice ad205 x84.Cells.length cp206) (xs := x84.Cells) (j := s183) 52 56 1 S Tryd.underlying52 rfl rfl hx208
    refine sIdxV (v := .slice ad205 x84.Cells.length cp206) (k := .i64) (j := s183) S (wN rfl) rfl rfl rfl hq210 rfl (lb rfl) fun a S => ?_
    obtain ⟨u211, S⟩ := pLoad (r := r_api_Stitch) (q := q209) (x := x207) 0 S rfl
    obtain rfl : u211 = .agg #[.int .u8 x207.Kind, .bool x207.Purl, iv x207.A, iv x207.B] := S.mem.know (i := 1) (e := fRep r_api_Stitch (u211) x207) rfl
    refine sLoadVN (vq := q209) 0 [.int .u8 x207.Kind, .bool x207.Purl, iv x207.A, iv x207.B] S (wN rfl) rfl rfl rfl rfl rfl rfl (lb rfl) fun a S => ?_
    refine sAlloc (.agg #[.int .u8 0, .bool false, iv 0, iv 0]) S (wN rfl) rfl rfl [.int .u8 0, .bool false, iv 0, iv 0] rfl rfl (lb rfl) fun a b212 w S => ?_
    refine sStore (p := b212) (off := 0) (T := 56) (vs := [.int .u8 0, .bool false, iv 0, iv 0]) (v := .agg #[.int .u8 x207.Kind, .bool x207.Purl, iv x207.A, iv x207.B]) 0 [.int .u8 x207.Kind, .bool x207.Purl, iv x207.A, iv x207.B] S (wN rfl) rfl rfl rfl rfl rfl rfl rfl (by simp) rfl fun a w S => ?_
    refine leafL (leafT (hK199 _ _ ?_))
    obtain ⟨t214, h, g215⟩ := bindSome h
    refine sCut (fun a w => ∃ o213, o213 = t214 ∧ St [] E [] w0 192 a w [(1, .pointer (some ⟨b10, 0, none⟩)), (3, .bool r12), (4, .pointer (some ⟨b34, 0, none⟩)), (6, iv s74), (11, iv o213), (12, iv s183), (13, .pointer (some ⟨b212, 0, none⟩))] [eBox b10 30 [.slice ad5 p0.Left.length cp6, .slice ad7 p0.Right.length cp8], eBox b34 40 [iv r27.1.Start, .slice ad32 r27.1.Rows.length cp33], eBox b212 56 [.int .u8 x207.Kind, .bool x207.Purl, iv x207.A, iv x207.B]] [fRep (rL (rI .i64)) (.slice ad5 p0.Left.length cp6) p0.Left, fRep (rL (rI .i64)) (.slice ad7 p0.Right.length cp8) p0.Right, fRep (rL r_api_Row) (.slice ad32 r27.1.Rows.length cp33) r27.1.Rows]) ?_ (fun a w hI => ?_)
    · refine sSeq (fun K216 hK216 => ?_)
      refine sRegion ?_
      refine sField (b := b212) (off := 0) 0 0 S (wN rfl) rfl rfl rfl rfl rfl (lb rfl) fun a S => ?_
      refine sLoad1 (p := b212) (off := 0) (T := 56) (vs := [.int .u8 x207.Kind, .bool x207.Purl, iv x207.A, iv x207.B]) 0 (.int .u8 x207.Kind) S (wN rfl) rfl rfl rfl rfl rfl rfl (lb rfl) fun a S => ?_
      refine sBin (.bool (x207.Kind == 1)) S (wN rfl) rfl rfl rfl (bEq _ _ _ _ .u8 x207.Kind 1) rfl (lb rfl) fun a S => ?_
      refine leafL (leafT (hK216 _ _ ?_))
      rcases iteSome h with ⟨hc217, h⟩ | ⟨hc217, h⟩
      rotate_left
      · refine sCondF S rfl hc217 ?_
        exact wp_skip (leafT (⟨s182, Option.some.inj h, S.fix [1, 2, 0] [11, 12, 13] (by decide) rfl rfl rfl⟩))
      refine sCondT S rfl hc217 ?_
      refine sRegion ?_
      refine sMove (iv s182) S (wN rfl) (.inl rfl) rfl rfl (lb rfl) fun a S => ?_
      refine sBin (iv (w64 (s182 + 1))) S (wN rfl) rfl rfl rfl (bAdd _ _ _ _ s182 1) rfl (lb rfl) fun a S => ?_
      refine sMove (iv (w64 (s182 + 1))) S (wN rfl) (.inr rfl) rfl rfl (lb rfl) fun a S => ?_
      exact leafL (leafT (⟨w64 (s182 + 1), Option.some.inj h, S.fix [1, 2, 0] [11, 12, 13] (by decide) rfl rfl rfl⟩))
    obtain ⟨o213, rfl, S⟩ := hI
    have h := g215
    clear g215
    try dsimp only at h
    obtain ⟨t219, h, g220⟩ := bindSome h
    refine sCut (fun a w => ∃ o218, o218 = t219 ∧ St [] E [] w0 192 a w [(1, .pointer (some ⟨b10, 0, none⟩)), (3, .bool r12), (4, .pointer (some ⟨b34, 0, none⟩)), (6, iv s74), (11, iv o213), (12, iv s183), (176, .bool o218)] [eBox b10 30 [.slice ad5 p0.Left.length cp6, .slice ad7 p0.Right.length cp8], eBox b34 40 [iv r27.1.Start, .slice ad32 r27.1.Rows.length cp33]] [fRep (rL (rI .i64)) (.slice ad5 p0.Left.length cp6) p0.Left, fRep (rL (rI .i64)) (.slice ad7 p0.Right.length cp8) p0.Right, fRep (rL r_api_Row) (.slice ad32 r27.1.Rows.length cp33) r27.1.Rows]) ?_ (fun a w hI => ?_)
    rotate_left
    · obtain ⟨o218, rfl, S⟩ := hI
      have h := g220
      clear g220
      try dsimp only at h
      rcases iteSome h with ⟨hc232, h⟩ | ⟨hc232, h⟩
      rotate_left
      · refine sCondF S rfl hc232 ?_
        refine wp_skip (leafB (leafT (hK198 _ _ ?_)))
        refine sRegion ?_
        refine sMove (iv s183) S (wN rfl) (.inl rfl) rfl rfl (lb rfl) fun a S => ?_
        refine sBin (iv (w64 (s183 + 1))) S (wN rfl) rfl rfl rfl (bAdd _ _ _ _ s183 1) rfl (lb rfl) fun a S => ?_
        refine sMove (iv (w64 (s183 + 1))) S (wN rfl) (.inr rfl) rfl rfl (lb rfl) fun a S => ?_
        exact leafL (leafT (⟨(o213, w64 (s183 + 1)), (Option.some.inj h).symm, (S.fix [0, 1] [0, 1, 2] (by decide) rfl rfl rfl)⟩))
      refine sCondT S rfl hc232 ?_
      refine sSeq (fun K233 hK233 => ?_)
      refine sRegion ?_
      refine sMove (.bool false) S (wN rfl) (.inr rfl) rfl rfl (lb rfl) fun a S => ?_
      refine leafL (leafT (hK233 _ _ ?_))
      obtain rfl := Option.some.inj h
      obtain rfl := hu184 _ rfl
      have h := g185
      clear g185
      try dsimp only at h
      obtain rfl := Option.some.inj h
      have h := g180
      clear g180
      try dsimp only at h
      obtain rfl := Option.some.inj h
      have h := g82
      clear g82
      try dsimp only at h
      obtain rfl := Option.some.inj h
      obtain rfl := hu75 _ rfl
      have h := g76
      clear g76
      try dsimp only at h
      obtain rfl := Option.some.inj h
      have h := g72
      clear g72
      try dsimp only at h
      obtain rfl := Option.some.inj h
      exact wp_ret (rBlock (rThen (rThen (rBlock (rThen (rBlock (rThen (rThen (rBlock (rThen (sRet (.bool false) S (rsl1 rfl (rvT (t := 2) (v := .bool false) S rfl)) ⟨(), rfl, S.mem.sel [] [] (by decide) rfl rfl⟩)))))))))))
    rcases iteSome h with ⟨hc221, h⟩ | ⟨hc221, h⟩
    rotate_left
    · refine sDraw (nf := []) (W := [(0, 163, .pointer (some ⟨b212, 0, none⟩)), (1, 164, .int .u8 x207.Kind), (2, 165, .bool (x207.Kind != 9)), (3, 166, .bool (x207.Kind != 9)), (4, 167, undef), (5, 168, undef), (6, 169, undef), (7, 170, undef), (8, 171, undef), (9, 172, undef), (10, 173, undef), (11, 174, undef), (12, 175, undef), (13, 176, .bool false)]) rfl S ?_
      refine node_by (A := anc_raddlelaw37_PieceWidths_2) (nf := []) (Y := []) (W := [(0, 163, .pointer (some ⟨b212, 0, none⟩)), (1, 164, .int .u8 x207.Kind), (2, 165, .bool (x207.Kind != 9)), (3, 166, .bool (x207.Kind != 9)), (4, 167, undef), (5, 168, undef), (6, 169, undef), (7, 170, undef), (8, 171, undef), (9, 172, undef), (10, 173, undef), (11, 174, undef), (12, 175, undef), (13, 176, .bool false)]) 14 (by kernel_rfl) (by kernel_rfl) (by kernel_rfl) (by kernel_rfl) (by kernel_rfl) [0, 1, 2, 3, 4, 5, 6, 7, 8, 9, 10, 11, 12, 13] (by kernel_rfl) (by decide) (by decide) (aF 0 13 (by decide) ?_ (aF 1 12 (by decide) ?_ (aF 2 11 (by decide) ?_ (aF 3 10 (by decide) ?_ (aF 4 9 (by decide) ?_ (aF 5 8 (by decide) ?_ (aF 6 7 (by decide) ?_ (aF 7 6 (by decide) ?_ (aF 8 5 (by decide) ?_ (aF 9 4 (by decide) ?_ (aF 10 3 (by decide) ?_ (aF 11 2 (by decide) ?_ (aF 12 1 (by decide) ?_ (aF 13 0 (by decide) ?_ (trivial))))))))))))))) [(1, .pointer (some ⟨b10, 0, none⟩)), (3, .bool r12), (4, .pointer (some ⟨b34, 0, none⟩)), (6, iv s74), (11, iv o213), (12, iv s183), (167, undef), (168, undef), (169, undef), (170, undef), (171, undef), (172, undef), (173, undef), (174, undef), (175, undef), (176, .bool false)] (fin_of [none, none, none, none, none, none, some 4, some 5, some 6, some 7, some 8, some 9, some 10, some 11, some 12, some 13] rfl (by kernel_rfl) (by kernel_rfl)) (fun _ a w S => ?_)
      · refine fI 163 (.pointer (some ⟨b212, 0, none⟩)) [(13, .pointer (some ⟨b212, 0, none⟩))] 0 [none] rfl rfl rfl rfl rfl rfl fun G a w S => ?_
        refine sField (b := b212) (off := 0) 0 0 S (wN rfl) rfl rfl rfl rfl rfl (lb rfl) fun a S => ?_
        exact leafL ⟨rfl, S⟩
      · refine fI 164 (.int .u8 x207.Kind) [(163, .pointer (some ⟨b212, 0, none⟩))] 1 [some 0] rfl rfl rfl rfl rfl rfl fun G a w S => ?_
        refine sLoad1 (p := b212) (off := 0) (T := 56) (vs := [.int .u8 x207.Kind, .bool x207.Purl, iv x207.A, iv x207.B]) 2 (.int .u8 x207.Kind) S (wN rfl) rfl rfl rfl rfl rfl rfl (lb rfl) fun a S => ?_
        exact leafL ⟨rfl, S⟩
      · refine fI 165 (.bool (x207.Kind != 9)) [(164, .int .u8 x207.Kind)] 2 [some 1] rfl rfl rfl rfl rfl rfl fun G a w S => ?_
        refine sBin (.bool (x207.Kind != 9)) S (wN rfl) rfl rfl rfl (bNe _ _ _ _ .u8 x207.Kind 9) rfl (lb rfl) fun a S => ?_
        exact leafL ⟨rfl, S⟩
      · refine fI 166 (.bool (x207.Kind != 9)) [(165, .bool (x207.Kind != 9))] 3 [some 2] rfl rfl rfl rfl rfl rfl fun G a w S => ?_
        refine sMove (.bool (x207.Kind != 9)) S (wN rfl) (.inl rfl) rfl rfl (lb rfl) fun a S => ?_
        exact leafL ⟨rfl, S⟩
      · refine fI 167 undef [(13, .pointer (some ⟨b212, 0, none⟩)), (166, .bool (x207.Kind != 9))] 4 [none, some 3] rfl rfl rfl rfl rfl rfl fun G a w S => ?_
        refine sSkip 3 true 166 167 S rfl rfl rfl hc221 rfl (lb rfl) fun a S => ?_
        exact leafL ⟨rfl, S⟩
      · refine fI 168 undef [(167, undef), (166, .bool (x207.Kind != 9))] 5 [some 4, some 3] rfl rfl rfl rfl rfl rfl fun G a w S => ?_
        refine sSkip 3 true 166 168 S rfl rfl rfl hc221 rfl (lb rfl) fun a S => ?_
        exact leafL ⟨rfl, S⟩
      · refine fI 169 undef [(4, .pointer (some ⟨b34, 0, none⟩)), (166, .bool (x207.Kind != 9))] 6 [none, some 3] rfl rfl rfl rfl rfl rfl fun G a w S => ?_
        refine sSkip 3 true 166 169 S rfl rfl rfl hc221 rfl (lb rfl) fun a S => ?_
        exact leafL ⟨rfl, S⟩
      · refine fI 170 undef [(169, undef), (166, .bool (x207.Kind != 9))] 7 [some 6, some 3] rfl rfl rfl rfl rfl rfl fun G a w S => ?_
        refine sSkip 3 true 166 170 S rfl rfl rfl hc221 rfl (lb rfl) fun a S => ?_
        exact leafL ⟨rfl, S⟩
      · refine fI 171 undef [(6, iv s74), (166, .bool (x207.Kind != 9))] 8 [none, some 3] rfl rfl rfl rfl rfl rfl fun G a w S => ?_
        refine sSkip 3 true 166 171 S rfl rfl rfl hc221 rfl (lb rfl) fun a S => ?_
        exact leafL ⟨rfl, S⟩
      · refine fI 172 undef [(170, undef), (171, undef), (166, .bool (x207.Kind != 9))] 9 [some 7, some 8, some 3] rfl rfl rfl rfl rfl rfl fun G a w S => ?_
        refine sSkip 3 true 166 172 S rfl rfl rfl hc221 rfl (lb rfl) fun a S => ?_
        exact leafL ⟨rfl, S⟩
      · refine fI 173 undef [(172, undef), (166, .bool (x207.Kind != 9))] 10 [some 9, some 3] rfl rfl rfl rfl rfl rfl fun G a w S => ?_
        refine sSkip 3 true 166 173 S rfl rfl rfl hc221 rfl (lb rfl) fun a S => ?_
        exact leafL ⟨rfl, S⟩
      · refine fI 174 undef [(173, undef), (166, .bool (x207.Kind != 9))] 11 [some 10, some 3] rfl rfl rfl rfl rfl rfl fun G a w S => ?_
        refine sSkip 3 true 166 174 S rfl rfl rfl hc221 rfl (lb rfl) fun a S => ?_
        exact leafL ⟨rfl, S⟩
      · refine fI 175 undef [(168, undef), (174, undef), (166, .bool (x207.Kind != 9))] 12 [some 5, some 11, some 3] rfl rfl rfl rfl rfl rfl fun G a w S => ?_
        refine sSkip 3 true 166 175 S rfl rfl rfl hc221 rfl (lb rfl) fun a S => ?_
        exact leafL ⟨rfl, S⟩
      · refine fI 176 (.bool false) [(166, .bool (x207.Kind != 9)), (175, undef)] 13 [some 3, some 12] rfl rfl rfl rfl rfl rfl fun G a w S => ?_
        refine sPickF (.bool false) S (wN rfl) rfl rfl hc221 rfl rfl (lb rfl) fun a S => ?_
        exact leafL ⟨rfl, S⟩
      exact leafT (⟨false, Option.some.inj h, S.fix [0, 1] [0, 1, 2] (by decide) rfl rfl rfl⟩)
    obtain ⟨q227, hq228, S⟩ := pIdx (P := Tryd.prog) (r := r_api_Row) (v := .slice ad32 r27.1.Rows.length cp33) (xs := r27.1.Rows) (j := s74) 38 54 2 S Tryd.underlying38 rfl rfl hx85
    obtain ⟨q229, hq230, S⟩ := pFld (P := Tryd.prog) (r := r_api_Row) (s2 := rB) (g := (·.Back)) (q := q227) (z := x84) 54 0 0 0 S rfl rfl comp_api_Row_Back
    obtain ⟨u231, S⟩ := pLoad (r := rB) (q := q229) (x := x84.Back) 0 S rfl
    obtain rfl : u231 = .bool x84.Back := S.mem.know (i := 1) (e := fRep rB (u231) x84.Back) rfl
    refine sDraw (nf := []) (W := [(0, 163, .pointer (some ⟨b212, 0, none⟩)), (1, 164, .int .u8 x207.Kind), (2, 165, .bool (x207.Kind != 9)), (3, 166, .bool (x207.Kind != 9)), (4, 167, .pointer (some ⟨b212, 1, none⟩)), (5, 168, .bool x207.Purl), (6, 169, .pointer (some ⟨b34, 1, none⟩)), (7, 170, .slice ad32 r27.1.Rows.length cp33), (8, 171, iv s74), (9, 172, q227), (10, 173, q229), (11, 174, .bool x84.Back), (12, 175, .bool (x207.Purl != x84.Back)), (13, 176, .bool (x207.Purl != x84.Back))]) rfl S ?_
    refine node_by (A := anc_raddlelaw37_PieceWidths_2) (nf := []) (Y := []) (W := [(0, 163, .pointer (some ⟨b212, 0, none⟩)), (1, 164, .int .u8 x207.Kind), (2, 165, .bool (x207.Kind != 9)), (3, 166, .bool (x207.Kind != 9)), (4, 167, .pointer (some ⟨b212, 1, none⟩)), (5, 168, .bool x207.Purl), (6, 169, .pointer (some ⟨b34, 1, none⟩)), (7, 170, .slice ad32 r27.1.Rows.length cp33), (8, 171, iv s74), (9, 172, q227), (10, 173, q229), (11, 174, .bool x84.Back), (12, 175, .bool (x207.Purl != x84.Back)), (13, 176, .bool (x207.Purl != x84.Back))]) 14 (by kernel_rfl) (by kernel_rfl) (by kernel_rfl) (by kernel_rfl) (by kernel_rfl) [0, 1, 2, 3, 4, 5, 6, 7, 8, 9, 10, 11, 12, 13] (by kernel_rfl) (by decide) (by decide) (aF 0 13 (by decide) ?_ (aF 1 12 (by decide) ?_ (aF 2 11 (by decide) ?_ (aF 3 10 (by decide) ?_ (aF 4 9 (by decide) ?_ (aF 5 8 (by decide) ?_ (aF 6 7 (by decide) ?_ (aF 7 6 (by decide) ?_ (aF 8 5 (by decide) ?_ (aF 9 4 (by decide) ?_ (aF 10 3 (by decide) ?_ (aF 11 2 (by decide) ?_ (aF 12 1 (by decide) ?_ (aF 13 0 (by decide) ?_ (trivial))))))))))))))) [(1, .pointer (some ⟨b10, 0, none⟩)), (3, .bool r12), (4, .pointer (some ⟨b34, 0, none⟩)), (6, iv s74), (11, iv o213), (12, iv s183), (167, .pointer (some ⟨b212, 1, none⟩)), (168, .bool x207.Purl), (169, .pointer (some ⟨b34, 1, none⟩)), (170, .slice ad32 r27.1.Rows.length cp33), (171, iv s74), (172, q227), (173, q229), (174, .bool x84.Back), (175, .bool (x207.Purl != x84.Back)), (176, .bool (x207.Purl != x84.Back))] (fin_of [none, none, none, none, none, none, some 4, some 5, some 6, some 7, some 8, some 9, some 10, some 11, some 12, some 13] rfl (by kernel_rfl) (by kernel_rfl)) (fun _ a w S => ?_)
    · refine fI 163 (.pointer (some ⟨b212, 0, none⟩)) [(13, .pointer (some ⟨b212, 0, none⟩))] 0 [none] rfl rfl rfl rfl rfl rfl fun G a w S => ?_
      refine sField (b := b212) (off := 0) 0 0 S (wN rfl) rfl rfl rfl rfl rfl (lb rfl) fun a S => ?_
      exact leafL ⟨rfl, S⟩
    · refine fI 164 (.int .u8 x207.Kind) [(163, .pointer (some ⟨b212, 0, none⟩))] 1 [some 0] rfl rfl rfl rfl rfl rfl fun G a w S => ?_
      refine sLoad1 (p := b212) (off := 0) (T := 56) (vs := [.int .u8 x207.Kind, .bool x207.Purl, iv x207.A, iv x207.B]) 2 (.int .u8 x207.Kind) S (wN rfl) rfl rfl rfl rfl rfl rfl (lb rfl) fun a S => ?_
      exact leafL ⟨rfl, S⟩
    · refine fI 165 (.bool (x207.Kind != 9)) [(164, .int .u8 x207.Kind)] 2 [some 1] rfl rfl rfl rfl rfl rfl fun G a w S => ?_
      refine sBin (.bool (x207.Kind != 9)) S (wN rfl) rfl rfl rfl (bNe _ _ _ _ .u8 x207.Kind 9) rfl (lb rfl) fun a S => ?_
      exact leafL ⟨rfl, S⟩
    · refine fI 166 (.bool (x207.Kind != 9)) [(165, .bool (x207.Kind != 9))] 3 [some 2] rfl rfl rfl rfl rfl rfl fun G a w S => ?_
      refine sMove (.bool (x207.Kind != 9)) S (wN rfl) (.inl rfl) rfl rfl (lb rfl) fun a S => ?_
      exact leafL ⟨rfl, S⟩
    · refine fI 167 (.pointer (some ⟨b212, 1, none⟩)) [(13, .pointer (some ⟨b212, 0, none⟩)), (166, .bool (x207.Kind != 9))] 4 [none, some 3] rfl rfl rfl rfl rfl rfl fun G a w S => ?_
      refine sField (b := b212) (off := 0) 1 1 S (wG 3 true 166 rfl rfl rfl hc221) rfl rfl rfl rfl rfl (lb rfl) fun a S => ?_
      exact leafL ⟨rfl, S⟩
    · refine fI 168 (.bool x207.Purl) [(167, .pointer (some ⟨b212, 1, none⟩)), (166, .bool (x207.Kind != 9))] 5 [some 4, some 3] rfl rfl rfl rfl rfl rfl fun G a w S => ?_
      refine sLoad1 (p := b212) (off := 1) (T := 56) (vs := [.int .u8 x207.Kind, .bool x207.Purl, iv x207.A, iv x207.B]) 2 (.bool x207.Purl) S (wG 3 true 166 rfl rfl rfl hc221) rfl rfl rfl rfl rfl rfl (lb rfl) fun a S => ?_
      exact leafL ⟨rfl, S⟩
    · refine fI 169 (.pointer (some ⟨b34, 1, none⟩)) [(4, .pointer (some ⟨b34, 0, none⟩)), (166, .bool (x207.Kind != 9))] 6 [none, some 3] rfl rfl rfl rfl rfl rfl fun G a w S => ?_
      refine sField (b := b34) (off := 0) 1 1 S (wG 3 true 166 rfl rfl rfl hc221) rfl rfl rfl rfl rfl (lb rfl) fun a S => ?_
      exact leafL ⟨rfl, S⟩
    · refine fI 170 (.slice ad32 r27.1.Rows.length cp33) [(169, .pointer (some ⟨b34, 1, none⟩)), (166, .bool (x207.Kind != 9))] 7 [some 6, some 3] rfl rfl rfl rfl rfl rfl fun G a w S => ?_
      refine sLoad1 (p := b34) (off := 1) (T := 40) (vs := [iv r27.1.Start, .slice ad32 r27.1.Rows.length cp33]) 1 (.slice ad32 r27.1.Rows.length cp33) S (wG 3 true 166 rfl rfl rfl hc221) rfl rfl rfl rfl rfl rfl (lb rfl) fun a S => ?_
      exact leafL ⟨rfl, S⟩
    · refine fI 171 (iv s74) [(6, iv s74), (166, .bool (x207.Kind != 9))] 8 [none, some 3] rfl rfl rfl rfl rfl rfl fun G a w S => ?_
      refine sMove (iv s74) S (wG 3 true 166 rfl rfl rfl hc221) (.inl rfl) rfl rfl (lb rfl) fun a S => ?_
      exact leafL ⟨rfl, S⟩
    · refine fI 172 q227 [(170, .slice ad32 r27.1.Rows.length cp33), (171, iv s74), (166, .bool (x207.Kind != 9))] 9 [some 7, some 8, some 3] rfl rfl rfl rfl rfl rfl fun G a w S => ?_
      refine sIdxV (v := .slice ad32 r27.1.Rows.length cp33) (k := .i64) (j := s74) S (wG 3 true 166 rfl rfl rfl hc221) rfl rfl rfl hq228 rfl (lb rfl) fun a S => ?_
      exact leafL ⟨rfl, S⟩
    · refine fI 173 q229 [(172, q227), (166, .bool (x207.Kind != 9))] 10 [some 9, some 3] rfl rfl rfl rfl rfl rfl fun G a w S => ?_
      refine sFldV (q := q227) S (wG 3 true 166 rfl rfl rfl hc221) rfl rfl hq230 rfl (lb rfl) fun a S => ?_
      exact leafL ⟨rfl, S⟩
    · refine fI 174 (.bool x84.Back) [(173, q229), (166, .bool (x207.Kind != 9))] 11 [some 10, some 3] rfl rfl rfl rfl rfl rfl fun G a w S => ?_
      refine sLoadV1 (vq := q229) 0 (.bool x84.Back) S (wG 3 true 166 rfl rfl rfl hc221) rfl rfl rfl rfl rfl (lb rfl) fun a S => ?_
      exact leafL ⟨rfl, S⟩
    · refine fI 175 (.bool (x207.Purl != x84.Back)) [(168, .bool x207.Purl), (174, .bool x84.Back), (166, .bool (x207.Kind != 9))] 12 [some 5, some 11, some 3] rfl rfl rfl rfl rfl rfl fun G a w S => ?_
      refine sBin (.bool (x207.Purl != x84.Back)) S (wG 3 true 166 rfl rfl rfl hc221) rfl rfl rfl (bNeB _ _ _ _ Tryd.underlying4 x207.Purl x84.Back) rfl (lb rfl) fun a S => ?_
      exact leafL ⟨rfl, S⟩
    · refine fI 176 (.bool (x207.Purl != x84.Back)) [(166, .bool (x207.Kind != 9)), (175, .bool (x207.Purl != x84.Back))] 13 [some 3, some 12] rfl rfl rfl rfl rfl rfl fun G a w S => ?_
      refine sPickT (.bool (x207.Purl != x84.Back)) S (wN rfl) rfl rfl hc221 rfl rfl (lb rfl) fun a S => ?_
      exact leafL ⟨rfl, S⟩
    exact leafT (⟨x207.Purl != x84.Back, Option.some.inj h, S.fix [0, 1] [4, 5, 6] (by decide) rfl rfl rfl⟩)
  rcases iteSome h with ⟨hc109, h⟩ | ⟨hc109, h⟩
  · refine sDraw (nf := []) (W := [(0, 88, iv r93.2), (1, 89, .bool (r93.2 != 0)), (2, 90, .bool (r93.2 != 0)), (3, 91, undef), (4, 92, undef), (5, 93, .bool true), (6, 94, .bool true), (7, 95, undef), (8, 96, undef), (9, 97, undef), (10, 98, undef), (11, 99, undef), (12, 100, undef), (13, 101, undef), (14, 102, undef), (15, 103, undef), (16, 104, undef), (17, 105, undef), (18, 106, undef), (19, 107, undef), (20, 108, .bool true), (21, 109, .bool true), (22, 110, undef), (23, 111, undef), (24, 112, undef), (25, 113, undef), (26, 114, undef), (27, 115, undef), (28, 116, undef), (29, 117, undef), (30, 118, undef), (31, 119, undef), (32, 120, undef), (33, 121, undef), (34, 122, undef), (35, 123, undef), (36, 124, undef), (37, 125, .bool true), (38, 126, .bool true), (39, 127, undef), (40, 128, undef), (41, 129, undef), (42, 130, undef), (43, 131, undef), (44, 132, undef), (45, 133, undef), (46, 134, undef), (47, 135, undef), (48, 136, undef), (49, 137, .bool true)]) rfl S ?_
    refine node_by (A := anc_raddlelaw37_PieceWidths_1) (nf := []) (Y := []) (W := [(0, 88, iv r93.2), (1, 89, .bool (r93.2 != 0)), (2, 90, .bool (r93.2 != 0)), (3, 91, undef), (4, 92, undef), (5, 93, .bool true), (6, 94, .bool true), (7, 95, undef), (8, 96, undef), (9, 97, undef), (10, 98, undef), (11, 99, undef), (12, 100, undef), (13, 101, undef), (14, 102, undef), (15, 103, undef), (16, 104, undef), (17, 105, undef), (18, 106, undef), (19, 107, undef), (20, 108, .bool true), (21, 109, .bool true), (22, 110, undef), (23, 111, undef), (24, 112, undef), (25, 113, undef), (26, 114, undef), (27, 115, undef), (28, 116, undef), (29, 117, undef), (30, 118, undef), (31, 119, undef), (32, 120, undef), (33, 121, undef), (34, 122, undef), (35, 123, undef), (36, 124, undef), (37, 125, .bool true), (38, 126, .bool true), (39, 127, undef), (40, 128, undef), (41, 129, undef), (42, 130, undef), (43, 131, undef), (44, 132, undef), (45, 133, undef), (46, 134, undef), (47, 135, undef), (48, 136, undef), (49, 137, .bool true)]) 50 (by kernel_rfl) (by kernel_rfl) (by kernel_rfl) (by kernel_rfl) (by kernel_rfl) [0, 1, 2, 3, 4, 5, 6, 7, 8, 9, 10, 11, 12, 13, 14, 15, 16, 17, 18, 19, 20, 21, 22, 23, 24, 25, 26, 27, 28, 29, 30, 31, 32, 33, 34, 35, 36, 37, 38, 39, 40, 41, 42, 43, 44, 45, 46, 47, 48, 49] (by kernel_rfl) (by decide) (by decide) (aF 0 49 (by decide) ?_ (aF 1 48 (by decide) ?_ (aF 2 47 (by decide) ?_ (aF 3 46 (by decide) ?_ (aF 4 45 (by decide) ?_ (aF 5 44 (by decide) ?_ (aF 6 43 (by decide) ?_ (aF 7 42 (by decide) ?_ (aF 8 41 (by decide) ?_ (aF 9 40 (by decide) ?_ (aF 10 39 (by decide) ?_ (aF 11 38 (by decide) ?_ (aF 12 37 (by decide) ?_ (aF 13 36 (by decide) ?_ (aF 14 35 (by decide) ?_ (aF 15 34 (by decide) ?_ (aF 16 33 (by decide) ?_ (aF 17 32 (by decide) ?_ (aF 18 31 (by decide) ?_ (aF 19 30 (by decide) ?_ (aF 20 29 (by decide) ?_ (aF 21 28 (by decide) ?_ (aF 22 27 (by decide) ?_ (aF 23 26 (by decide) ?_ (aF 24 25 (by decide) ?_ (aF 25 24 (by decide) ?_ (aF 26 23 (by decide) ?_ (aF 27 22 (by decide) ?_ (aF 28 21 (by decide) ?_ (aF 29 20 (by decide) ?_ (aF 30 19 (by decide) ?_ (aF 31 18 (by decide) ?_ (aF 32 17 (by decide) ?_ (aF 33 16 (by decide) ?_ (aF 34 15 (by decide) ?_ (aF 35 14 (by decide) ?_ (aF 36 13 (by decide) ?_ (aF 37 12 (by decide) ?_ (aF 38 11 (by decide) ?_ (aF 39 10 (by decide) ?_ (aF 40 9 (by decide) ?_ (aF 41 8 (by decide) ?_ (aF 42 7 (by decide) ?_ (aF 43 6 (by decide) ?_ (aF 44 5 (by decide) ?_ (aF 45 4 (by decide) ?_ (aF 46 3 (by decide) ?_ (aF 47 2 (by decide) ?_ (aF 48 1 (by decide) ?_ (aF 49 0 (by decide) ?_ (trivial))))))))))))))))))))))))))))))))))))))))))))))))))) [(1, .pointer (some ⟨b10, 0, none⟩)), (3, .bool r12), (4, .pointer (some ⟨b34, 0, none⟩)), (6, iv s74), (91, undef), (92, undef), (95, undef), (96, undef), (97, undef), (98, undef), (99, undef), (100, undef), (101, undef), (102, undef), (103, undef), (104, undef), (105, undef), (106, undef), (107, undef), (110, undef), (111, undef), (112, undef), (113, undef), (114, undef), (115, undef), (116, undef), (117, undef), (118, undef), (119, undef), (120, undef), (121, undef), (122, undef), (123, undef), (124, undef), (127, undef), (128, undef), (129, undef), (130, undef), (131, undef), (132, undef), (133, undef), (134, undef), (135, undef), (136, undef), (137, .bool true)] (fin_of [none, none, none, none, some 3, some 4, some 7, some 8, some 9, some 10, some 11, some 12, some 13, some 14, some 15, some 16, some 17, some 18, some 19, some 22, some 23, some 24, some 25, some 26, some 27, some 28, some 29, some 30, some 31, some 32, some 33, some 34, some 35, some 36, some 39, some 40, some 41, some 42, some 43, some 44, some 45, some 46, some 47, some 48, some 49] rfl (by kernel_rfl) (by kernel_rfl)) (fun _ a w S => ?_)
    · refine fI 88 (iv r93.2) [(8, iv r93.2)] 0 [none] rfl rfl rfl rfl rfl rfl fun G a w S => ?_
      refine sMove (iv r93.2) S (wN rfl) (.inl rfl) rfl rfl (lb rfl) fun a S => ?_
      exact leafL ⟨rfl, S⟩
    · refine fI 89 (.bool (r93.2 != 0)) [(88, iv r93.2)] 1 [some 0] rfl rfl rfl rfl rfl rfl fun G a w S => ?_
      refine sBin (.bool (r93.2 != 0)) S (wN rfl) rfl rfl rfl (bNe _ _ _ _ .i64 r93.2 0) rfl (lb rfl) fun a S => ?_
      exact leafL ⟨rfl, S⟩
    · refine fI 90 (.bool (r93.2 != 0)) [(89, .bool (r93.2 != 0))] 2 [some 1] rfl rfl rfl rfl rfl rfl fun G a w S => ?_
      refine sMove (.bool (r93.2 != 0)) S (wN rfl) (.inl rfl) rfl rfl (lb rfl) fun a S => ?_
      exact leafL ⟨rfl, S⟩
    · refine fI 91 undef [(10, iv r103.2), (90, .bool (r93.2 != 0))] 3 [none, some 2] rfl rfl rfl rfl rfl rfl fun G a w S => ?_
      refine sSkip 2 false 90 91 S rfl rfl rfl hc109 rfl (lb rfl) fun a S => ?_
      exact leafL ⟨rfl, S⟩
    · refine fI 92 undef [(91, undef), (90, .bool (r93.2 != 0))] 4 [some 3, some 2] rfl rfl rfl rfl rfl rfl fun G a w S => ?_
      refine sSkip 2 false 90 92 S rfl rfl rfl hc109 rfl (lb rfl) fun a S => ?_
      exact leafL ⟨rfl, S⟩
    · refine fI 93 (.bool true) [(90, .bool (r93.2 != 0)), (92, undef)] 5 [some 2, some 4] rfl rfl rfl rfl rfl rfl fun G a w S => ?_
      refine sPickT (.bool true) S (wN rfl) rfl rfl hc109 rfl rfl (lb rfl) fun a S => ?_
      exact leafL ⟨rfl, S⟩
    · refine fI 94 (.bool true) [(93, .bool true)] 6 [some 5] rfl rfl rfl rfl rfl rfl fun G a w S => ?_
      refine sMove (.bool true) S (wN rfl) (.inl rfl) rfl rfl (lb rfl) fun a S => ?_
      exact leafL ⟨rfl, S⟩
    · refine fI 95 undef [(7, iv r93.1), (94, .bool true)] 7 [none, some 6] rfl rfl rfl rfl rfl rfl fun G a w S => ?_
      refine sSkip 6 false 94 95 S rfl rfl rfl rfl rfl (lb rfl) fun a S => ?_
      exact leafL ⟨rfl, S⟩
    · refine fI 96 undef [(1, .pointer (some ⟨b10, 0, none⟩)), (94, .bool true)] 8 [none, some 6] rfl rfl rfl rfl rfl rfl fun G a w S => ?_
      refine sSkip 6 false 94 96 S rfl rfl rfl rfl rfl (lb rfl) fun a S => ?_
      exact leafL ⟨rfl, S⟩
    · refine fI 97 undef [(96, undef), (94, .bool true)] 9 [some 8, some 6] rfl rfl rfl rfl rfl rfl fun G a w S => ?_
      refine sSkip 6 false 94 97 S rfl rfl rfl rfl rfl (lb rfl) fun a S => ?_
      exact leafL ⟨rfl, S⟩
    · refine fI 98 undef [(6, iv s74), (94, .bool true)] 10 [none, some 6] rfl rfl rfl rfl rfl rfl fun G a w S => ?_
      refine sSkip 6 false 94 98 S rfl rfl rfl rfl rfl (lb rfl) fun a S => ?_
      exact leafL ⟨rfl, S⟩
    · refine fI 99 undef [(97, undef), (98, undef), (94, .bool true)] 11 [some 9, some 10, some 6] rfl rfl rfl rfl rfl rfl fun G a w S => ?_
      refine sSkip 6 false 94 99 S rfl rfl rfl rfl rfl (lb rfl) fun a S => ?_
      exact leafL ⟨rfl, S⟩
    · refine fI 100 undef [(99, undef), (94, .bool true)] 12 [some 11, some 6] rfl rfl rfl rfl rfl rfl fun G a w S => ?_
      refine sSkip 6 false 94 100 S rfl rfl rfl rfl rfl (lb rfl) fun a S => ?_
      exact leafL ⟨rfl, S⟩
    · refine fI 101 undef [(1, .pointer (some ⟨b10, 0, none⟩)), (94, .bool true)] 13 [none, some 6] rfl rfl rfl rfl rfl rfl fun G a w S => ?_
      refine sSkip 6 false 94 101 S rfl rfl rfl rfl rfl (lb rfl) fun a S => ?_
      exact leafL ⟨rfl, S⟩
    · refine fI 102 undef [(101, undef), (94, .bool true)] 14 [some 13, some 6] rfl rfl rfl rfl rfl rfl fun G a w S => ?_
      refine sSkip 6 false 94 102 S rfl rfl rfl rfl rfl (lb rfl) fun a S => ?_
      exact leafL ⟨rfl, S⟩
    · refine fI 103 undef [(6, iv s74), (94, .bool true)] 15 [none, some 6] rfl rfl rfl rfl rfl rfl fun G a w S => ?_
      refine sSkip 6 false 94 103 S rfl rfl rfl rfl rfl (lb rfl) fun a S => ?_
      exact leafL ⟨rfl, S⟩
    · refine fI 104 undef [(102, undef), (103, undef), (94, .bool true)] 16 [some 14, some 15, some 6] rfl rfl rfl rfl rfl rfl fun G a w S => ?_
      refine sSkip 6 false 94 104 S rfl rfl rfl rfl rfl (lb rfl) fun a S => ?_
      exact leafL ⟨rfl, S⟩
    · refine fI 105 undef [(104, undef), (94, .bool true)] 17 [some 16, some 6] rfl rfl rfl rfl rfl rfl fun G a w S => ?_
      refine sSkip 6 false 94 105 S rfl rfl rfl rfl rfl (lb rfl) fun a S => ?_
      exact leafL ⟨rfl, S⟩
    · refine fI 106 undef [(100, undef), (105, undef), (94, .bool true)] 18 [some 12, some 17, some 6] rfl rfl rfl rfl rfl rfl fun G a w S => ?_
      refine sSkip 6 false 94 106 S rfl rfl rfl rfl rfl (lb rfl) fun a S => ?_
      exact leafL ⟨rfl, S⟩
    · refine fI 107 undef [(95, undef), (106, undef), (94, .bool true)] 19 [some 7, some 18, some 6] rfl rfl rfl rfl rfl rfl fun G a w S => ?_
      refine sSkip 6 false 94 107 S rfl rfl rfl rfl rfl (lb rfl) fun a S => ?_
      exact leafL ⟨rfl, S⟩
    · refine fI 108 (.bool true) [(94, .bool true), (107, undef)] 20 [some 6, some 19] rfl rfl rfl rfl rfl rfl fun G a w S => ?_
      refine sPickT (.bool true) S (wN rfl) rfl rfl rfl rfl rfl (lb rfl) fun a S => ?_
      exact leafL ⟨rfl, S⟩
    · refine fI 109 (.bool true) [(108, .bool true)] 21 [some 20] rfl rfl rfl rfl rfl rfl fun G a w S => ?_
      refine sMove (.bool true) S (wN rfl) (.inl rfl) rfl rfl (lb rfl) fun a S => ?_
      exact leafL ⟨rfl, S⟩
    · refine fI 110 undef [(9, iv r103.1), (109, .bool true)] 22 [none, some 21] rfl rfl rfl rfl rfl rfl fun G a w S => ?_
      refine sSkip 21 false 109 110 S rfl rfl rfl rfl rfl (lb rfl) fun a S => ?_
      exact leafL ⟨rfl, S⟩
    · refine fI 111 undef [(1, .pointer (some ⟨b10, 0, none⟩)), (109, .bool true)] 23 [none, some 21] rfl rfl rfl rfl rfl rfl fun G a w S => ?_
      refine sSkip 21 false 109 111 S rfl rfl rfl rfl rfl (lb rfl) fun a S => ?_
      exact leafL ⟨rfl, S⟩
    · refine fI 112 undef [(111, undef), (109, .bool true)] 24 [some 23, some 21] rfl rfl rfl rfl rfl rfl fun G a w S => ?_
      refine sSkip 21 false 109 112 S rfl rfl rfl rfl rfl (lb rfl) fun a S => ?_
      exact leafL ⟨rfl, S⟩
    · refine fI 113 undef [(6, iv s74), (109, .bool true)] 25 [none, some 21] rfl rfl rfl rfl rfl rfl fun G a w S => ?_
      refine sSkip 21 false 109 113 S rfl rfl rfl rfl rfl (lb rfl) fun a S => ?_
      exact leafL ⟨rfl, S⟩
    · refine fI 114 undef [(113, undef), (109, .bool true)] 26 [some 25, some 21] rfl rfl rfl rfl rfl rfl fun G a w S => ?_
      refine sSkip 21 false 109 114 S rfl rfl rfl rfl rfl (lb rfl) fun a S => ?_
      exact leafL ⟨rfl, S⟩
    · refine fI 115 undef [(112, undef), (114, undef), (109, .bool true)] 27 [some 24, some 26, some 21] rfl rfl rfl rfl rfl rfl fun G a w S => ?_
      refine sSkip 21 false 109 115 S rfl rfl rfl rfl rfl (lb rfl) fun a S => ?_
      exact leafL ⟨rfl, S⟩
    · refine fI 116 undef [(115, undef), (109, .bool true)] 28 [some 27, some 21] rfl rfl rfl rfl rfl rfl fun G a w S => ?_
      refine sSkip 21 false 109 116 S rfl rfl rfl rfl rfl (lb rfl) fun a S => ?_
      exact leafL ⟨rfl, S⟩
    · refine fI 117 undef [(1, .pointer (some ⟨b10, 0, none⟩)), (109, .bool true)] 29 [none, some 21] rfl rfl rfl rfl rfl rfl fun G a w S => ?_
      refine sSkip 21 false 109 117 S rfl rfl rfl rfl rfl (lb rfl) fun a S => ?_
      exact leafL ⟨rfl, S⟩
    · refine fI 118 undef [(117, undef), (109, .bool true)] 30 [some 29, some 21] rfl rfl rfl rfl rfl rfl fun G a w S => ?_
      refine sSkip 21 false 109 118 S rfl rfl rfl rfl rfl (lb rfl) fun a S => ?_
      exact leafL ⟨rfl, S⟩
    · refine fI 119 undef [(6, iv s74), (109, .bool true)] 31 [none, some 21] rfl rfl rfl rfl rfl rfl fun G a w S => ?_
      refine sSkip 21 false 109 119 S rfl rfl rfl rfl rfl (lb rfl) fun a S => ?_
      exact leafL ⟨rfl, S⟩
    · refine fI 120 undef [(119, undef), (109, .bool true)] 32 [some 31, some 21] rfl rfl rfl rfl rfl rfl fun G a w S => ?_
      refine sSkip 21 false 109 120 S rfl rfl rfl rfl rfl (lb rfl) fun a S => ?_
      exact leafL ⟨rfl, S⟩
    · refine fI 121 undef [(118, undef), (120, undef), (109, .bool true)] 33 [some 30, some 32, some 21] rfl rfl rfl rfl rfl rfl fun G a w S => ?_
      refine sSkip 21 false 109 121 S rfl rfl rfl rfl rfl (lb rfl) fun a S => ?_
      exact leafL ⟨rfl, S⟩
    · refine fI 122 undef [(121, undef), (109, .bool true)] 34 [some 33, some 21] rfl rfl rfl rfl rfl rfl fun G a w S => ?_
      refine sSkip 21 false 109 122 S rfl rfl rfl rfl rfl (lb rfl) fun a S => ?_
      exact leafL ⟨rfl, S⟩
    · refine fI 123 undef [(116, undef), (122, undef), (109, .bool true)] 35 [some 28, some 34, some 21] rfl rfl rfl rfl rfl rfl fun G a w S => ?_
      refine sSkip 21 false 109 123 S rfl rfl rfl rfl rfl (lb rfl) fun a S => ?_
      exact leafL ⟨rfl, S⟩
    · refine fI 124 undef [(110, undef), (123, undef), (109, .bool true)] 36 [some 22, some 35, some 21] rfl rfl rfl rfl rfl rfl fun G a w S => ?_
      refine sSkip 21 false 109 124 S rfl rfl rfl rfl rfl (lb rfl) fun a S => ?_
      exact leafL ⟨rfl, S⟩
    · refine fI 125 (.bool true) [(109, .bool true), (124, undef)] 37 [some 21, some 36] rfl rfl rfl rfl rfl rfl fun G a w S => ?_
      refine sPickT (.bool true) S (wN rfl) rfl rfl rfl rfl rfl (lb rfl) fun a S => ?_
      exact leafL ⟨rfl, S⟩
    · refine fI 126 (.bool true) [(125, .bool true)] 38 [some 37] rfl rfl rfl rfl rfl rfl fun G a w S => ?_
      refine sMove (.bool true) S (wN rfl) (.inl rfl) rfl rfl (lb rfl) fun a S => ?_
      exact leafL ⟨rfl, S⟩
    · refine fI 127 undef [(4, .pointer (some ⟨b34, 0, none⟩)), (126, .bool true)] 39 [none, some 38] rfl rfl rfl rfl rfl rfl fun G a w S => ?_
      refine sSkip 38 false 126 127 S rfl rfl rfl rfl rfl (lb rfl) fun a S => ?_
      exact leafL ⟨rfl, S⟩
    · refine fI 128 undef [(127, undef), (126, .bool true)] 40 [some 39, some 38] rfl rfl rfl rfl rfl rfl fun G a w S => ?_
      refine sSkip 38 false 126 128 S rfl rfl rfl rfl rfl (lb rfl) fun a S => ?_
      exact leafL ⟨rfl, S⟩
    · refine fI 129 undef [(6, iv s74), (126, .bool true)] 41 [none, some 38] rfl rfl rfl rfl rfl rfl fun G a w S => ?_
      refine sSkip 38 false 126 129 S rfl rfl rfl rfl rfl (lb rfl) fun a S => ?_
      exact leafL ⟨rfl, S⟩
    · refine fI 130 undef [(128, undef), (129, undef), (126, .bool true)] 42 [some 40, some 41, some 38] rfl rfl rfl rfl rfl rfl fun G a w S => ?_
      refine sSkip 38 false 126 130 S rfl rfl rfl rfl rfl (lb rfl) fun a S => ?_
      exact leafL ⟨rfl, S⟩
    · refine fI 131 undef [(130, undef), (126, .bool true)] 43 [some 42, some 38] rfl rfl rfl rfl rfl rfl fun G a w S => ?_
      refine sSkip 38 false 126 131 S rfl rfl rfl rfl rfl (lb rfl) fun a S => ?_
      exact leafL ⟨rfl, S⟩
    · refine fI 132 undef [(131, undef), (126, .bool true)] 44 [some 43, some 38] rfl rfl rfl rfl rfl rfl fun G a w S => ?_
      refine sSkip 38 false 126 132 S rfl rfl rfl rfl rfl (lb rfl) fun a S => ?_
      exact leafL ⟨rfl, S⟩
    · refine fI 133 undef [(6, iv s74), (126, .bool true)] 45 [none, some 38] rfl rfl rfl rfl rfl rfl fun G a w S => ?_
      refine sSkip 38 false 126 133 S rfl rfl rfl rfl rfl (lb rfl) fun a S => ?_
      exact leafL ⟨rfl, S⟩
    · refine fI 134 undef [(133, undef), (126, .bool true)] 46 [some 45, some 38] rfl rfl rfl rfl rfl rfl fun G a w S => ?_
      refine sSkip 38 false 126 134 S rfl rfl rfl rfl rfl (lb rfl) fun a S => ?_
      exact leafL ⟨rfl, S⟩
    · refine fI 135 undef [(134, undef), (126, .bool true)] 47 [some 46, some 38] rfl rfl rfl rfl rfl rfl fun G a w S => ?_
      refine sSkip 38 false 126 135 S rfl rfl rfl rfl rfl (lb rfl) fun a S => ?_
      exact leafL ⟨rfl, S⟩
    · refine fI 136 undef [(132, undef), (135, undef), (126, .bool true)] 48 [some 44, some 47, some 38] rfl rfl rfl rfl rfl rfl fun G a w S => ?_
      refine sSkip 38 false 126 136 S rfl rfl rfl rfl rfl (lb rfl) fun a S => ?_
      exact leafL ⟨rfl, S⟩
    · refine fI 137 (.bool true) [(126, .bool true), (136, undef)] 49 [some 38, some 48] rfl rfl rfl rfl rfl rfl fun G a w S => ?_
      refine sPickT (.bool true) S (wN rfl) rfl rfl rfl rfl rfl (lb rfl) fun a S => ?_
      exact leafL ⟨rfl, S⟩
    exact leafT (⟨true, Option.some.inj h, S.fix [0, 1] [8, 9, 10] (by decide) rfl rfl rfl⟩)
  rcases iteSome h with ⟨hc110, h⟩ | ⟨hc110, h⟩
  · refine sDraw (nf := []) (W := [(0, 88, iv r93.2), (1, 89, .bool (r93.2 != 0)), (2, 90, .bool (r93.2 != 0)), (3, 91, iv r103.2), (4, 92, .bool (r103.2 != 0)), (5, 93, .bool (r103.2 != 0)), (6, 94, .bool (r103.2 != 0)), (7, 95, undef), (8, 96, undef), (9, 97, undef), (10, 98, undef), (11, 99, undef), (12, 100, undef), (13, 101, undef), (14, 102, undef), (15, 103, undef), (16, 104, undef), (17, 105, undef), (18, 106, undef), (19, 107, undef), (20, 108, .bool true), (21, 109, .bool true), (22, 110, undef), (23, 111, undef), (24, 112, undef), (25, 113, undef), (26, 114, undef), (27, 115, undef), (28, 116, undef), (29, 117, undef), (30, 118, undef), (31, 119, undef), (32, 120, undef), (33, 121, undef), (34, 122, undef), (35, 123, undef), (36, 124, undef), (37, 125, .bool true), (38, 126, .bool true), (39, 127, undef), (40, 128, undef), (41, 129, undef), (42, 130, undef), (43, 131, undef), (44, 132, undef), (45, 133, undef), (46, 134, undef), (47, 135, undef), (48, 136, undef), (49, 137, .bool true)]) rfl S ?_
    refine node_by (A := anc_raddlelaw37_PieceWidths_1) (nf := []) (Y := []) (W := [(0, 88, iv r93.2), (1, 89, .bool (r93.2 != 0)), (2, 90, .bool (r93.2 != 0)), (3, 91, iv r103.2), (4, 92, .bool (r103.2 != 0)), (5, 93, .bool (r103.2 != 0)), (6, 94, .bool (r103.2 != 0)), (7, 95, undef), (8, 96, undef), (9, 97, undef), (10, 98, undef), (11, 99, undef), (12, 100, undef), (13, 101, undef), (14, 102, undef), (15, 103, undef), (16, 104, undef), (17, 105, undef), (18, 106, undef), (19, 107, undef), (20, 108, .bool true), (21, 109, .bool true), (22, 110, undef), (23, 111, undef), (24, 112, undef), (25, 113, undef), (26, 114, undef), (27, 115, undef), (28, 116, undef), (29, 117, undef), (30, 118, undef), (31, 119, undef), (32, 120, undef), (33, 121, undef), (34, 122, undef), (35, 123, undef), (36, 124, undef), (37, 125, .bool true), (38, 126, .bool true), (39, 127, undef), (40, 128, undef), (41, 129, undef), (42, 130, undef), (43, 131, undef), (44, 132, undef), (45, 133, undef), (46, 134, undef), (47, 135, undef), (48, 136, undef), (49, 137, .bool true)]) 50 (by kernel_rfl) (by kernel_rfl) (by kernel_rfl) (by kernel_rfl) (by kernel_rfl) [0, 1, 2, 3, 4, 5, 6, 7, 8, 9, 10, 11, 12, 13, 14, 15, 16, 17, 18, 19, 20, 21, 22, 23, 24, 25, 26, 27, 28, 29, 30, 31, 32, 33, 34, 35, 36, 37, 38, 39, 40, 41, 42, 43, 44, 45, 46, 47, 48, 49] (by kernel_rfl) (by decide) (by decide) (aF 0 49 (by decide) ?_ (aF 1 48 (by decide) ?_ (aF 2 47 (by decide) ?_ (aF 3 46 (by decide) ?_ (aF 4 45 (by decide) ?_ (aF 5 44 (by decide) ?_ (aF 6 43 (by decide) ?_ (aF 7 42 (by decide) ?_ (aF 8 41 (by decide) ?_ (aF 9 40 (by decide) ?_ (aF 10 39 (by decide) ?_ (aF 11 38 (by decide) ?_ (aF 12 37 (by decide) ?_ (aF 13 36 (by decide) ?_ (aF 14 35 (by decide) ?_ (aF 15 34 (by decide) ?_ (aF 16 33 (by decide) ?_ (aF 17 32 (by decide) ?_ (aF 18 31 (by decide) ?_ (aF 19 30 (by decide) ?_ (aF 20 29 (by decide) ?_ (aF 21 28 (by decide) ?_ (aF 22 27 (by decide) ?_ (aF 23 26 (by decide) ?_ (aF 24 25 (by decide) ?_ (aF 25 24 (by decide) ?_ (aF 26 23 (by decide) ?_ (aF 27 22 (by decide) ?_ (aF 28 21 (by decide) ?_ (aF 29 20 (by decide) ?_ (aF 30 19 (by decide) ?_ (aF 31 18 (by decide) ?_ (aF 32 17 (by decide) ?_ (aF 33 16 (by decide) ?_ (aF 34 15 (by decide) ?_ (aF 35 14 (by decide) ?_ (aF 36 13 (by decide) ?_ (aF 37 12 (by decide) ?_ (aF 38 11 (by decide) ?_ (aF 39 10 (by decide) ?_ (aF 40 9 (by decide) ?_ (aF 41 8 (by decide) ?_ (aF 42 7 (by decide) ?_ (aF 43 6 (by decide) ?_ (aF 44 5 (by decide) ?_ (aF 45 4 (by decide) ?_ (aF 46 3 (by decide) ?_ (aF 47 2 (by decide) ?_ (aF 48 1 (by decide) ?_ (aF 49 0 (by decide) ?_ (trivial))))))))))))))))))))))))))))))))))))))))))))))))))) [(1, .pointer (some ⟨b10, 0, none⟩)), (3, .bool r12), (4, .pointer (some ⟨b34, 0, none⟩)), (6, iv s74), (91, iv r103.2), (92, .bool (r103.2 != 0)), (95, undef), (96, undef), (97, undef), (98, undef), (99, undef), (100, undef), (101, undef), (102, undef), (103, undef), (104, undef), (105, undef), (106, undef), (107, undef), (110, undef), (111, undef), (112, undef), (113, undef), (114, undef), (115, undef), (116, undef), (117, undef), (118, undef), (119, undef), (120, undef), (121, undef), (122, undef), (123, undef), (124, undef), (127, undef), (128, undef), (129, undef), (130, undef), (131, undef), (132, undef), (133, undef), (134, undef), (135, undef), (136, undef), (137, .bool true)] (fin_of [none, none, none, none, some 3, some 4, some 7, some 8, some 9, some 10, some 11, some 12, some 13, some 14, some 15, some 16, some 17, some 18, some 19, some 22, some 23, some 24, some 25, some 26, some 27, some 28, some 29, some 30, some 31, some 32, some 33, some 34, some 35, some 36, some 39, some 40, some 41, some 42, some 43, some 44, some 45, some 46, some 47, some 48, some 49] rfl (by kernel_rfl) (by kernel_rfl)) (fun _ a w S => ?_)
    · refine fI 88 (iv r93.2) [(8, iv r93.2)] 0 [none] rfl rfl rfl rfl rfl rfl fun G a w S => ?_
      refine sMove (iv r93.2) S (wN rfl) (.inl rfl) rfl rfl (lb rfl) fun a S => ?_
      exact leafL ⟨rfl, S⟩
    · refine fI 89 (.bool (r93.2 != 0)) [(88, iv r93.2)] 1 [some 0] rfl rfl rfl rfl rfl rfl fun G a w S => ?_
      refine sBin (.bool (r93.2 != 0)) S (wN rfl) rfl rfl rfl (bNe _ _ _ _ .i64 r93.2 0) rfl (lb rfl) fun a S => ?_
      exact leafL ⟨rfl, S⟩
    · refine fI 90 (.bool (r93.2 != 0)) [(89, .bool (r93.2 != 0))] 2 [some 1] rfl rfl rfl rfl rfl rfl fun G a w S => ?_
      refine sMove (.bool (r93.2 != 0)) S (wN rfl) (.inl rfl) rfl rfl (lb rfl) fun a S => ?_
      exact leafL ⟨rfl, S⟩
    · refine fI 91 (iv r103.2) [(10, iv r103.2), (90, .bool (r93.2 != 0))] 3 [none, some 2] rfl rfl rfl rfl rfl rfl fun G a w S => ?_
      refine sMove (iv r103.2) S (wG 2 false 90 rfl rfl rfl hc109) (.inl rfl) rfl rfl (lb rfl) fun a S => ?_
      exact leafL ⟨rfl, S⟩
    · refine fI 92 (.bool (r103.2 != 0)) [(91, iv r103.2), (90, .bool (r93.2 != 0))] 4 [some 3, some 2] rfl rfl rfl rfl rfl rfl fun G a w S => ?_
      refine sBin (.bool (r103.2 != 0)) S (wG 2 false 90 rfl rfl rfl hc109) rfl rfl rfl (bNe _ _ _ _ .i64 r103.2 0) rfl (lb rfl) fun a S => ?_
      exact leafL ⟨rfl, S⟩
    · refine fI 93 (.bool (r103.2 != 0)) [(90, .bool (r93.2 != 0)), (92, .bool (r103.2 != 0))] 5 [some 2, some 4] rfl rfl rfl rfl rfl rfl fun G a w S => ?_
      refine sPickF (.bool (r103.2 != 0)) S (wN rfl) rfl rfl hc109 rfl rfl (lb rfl) fun a S => ?_
      exact leafL ⟨rfl, S⟩
    · refine fI 94 (.bool (r103.2 != 0)) [(93, .bool (r103.2 != 0))] 6 [some 5] rfl rfl rfl rfl rfl rfl fun G a w S => ?_
      refine sMove (.bool (r103.2 != 0)) S (wN rfl) (.inl rfl) rfl rfl (lb rfl) fun a S => ?_
      exact leafL ⟨rfl, S⟩
    · refine fI 95 undef [(7, iv r93.1), (94, .bool (r103.2 != 0))] 7 [none, some 6] rfl rfl rfl rfl rfl rfl fun G a w S => ?_
      refine sSkip 6 false 94 95 S rfl rfl rfl hc110 rfl (lb rfl) fun a S => ?_
      exact leafL ⟨rfl, S⟩
    · refine fI 96 undef [(1, .pointer (some ⟨b10, 0, none⟩)), (94, .bool (r103.2 != 0))] 8 [none, some 6] rfl rfl rfl rfl rfl rfl fun G a w S => ?_
      refine sSkip 6 false 94 96 S rfl rfl rfl hc110 rfl (lb rfl) fun a S => ?_
      exact leafL ⟨rfl, S⟩
    · refine fI 97 undef [(96, undef), (94, .bool (r103.2 != 0))] 9 [some 8, some 6] rfl rfl rfl rfl rfl rfl fun G a w S => ?_
      refine sSkip 6 false 94 97 S rfl rfl rfl hc110 rfl (lb rfl) fun a S => ?_
      exact leafL ⟨rfl, S⟩
    · refine fI 98 undef [(6, iv s74), (94, .bool (r103.2 != 0))] 10 [none, some 6] rfl rfl rfl rfl rfl rfl fun G a w S => ?_
      refine sSkip 6 false 94 98 S rfl rfl rfl hc110 rfl (lb rfl) fun a S => ?_
      exact leafL ⟨rfl, S⟩
    · refine fI 99 undef [(97, undef), (98, undef), (94, .bool (r103.2 != 0))] 11 [some 9, some 10, some 6] rfl rfl rfl rfl rfl rfl fun G a w S => ?_
      refine sSkip 6 false 94 99 S rfl rfl rfl hc110 rfl (lb rfl) fun a S => ?_
      exact leafL ⟨rfl, S⟩
    · refine fI 100 undef [(99, undef), (94, .bool (r103.2 != 0))] 12 [some 11, some 6] rfl rfl rfl rfl rfl rfl fun G a w S => ?_
      refine sSkip 6 false 94 100 S rfl rfl rfl hc110 rfl (lb rfl) fun a S => ?_
      exact leafL ⟨rfl, S⟩
    · refine fI 101 undef [(1, .pointer (some ⟨b10, 0, none⟩)), (94, .bool (r103.2 != 0))] 13 [none, some 6] rfl rfl rfl rfl rfl rfl fun G a w S => ?_
      refine sSkip 6 false 94 101 S rfl rfl rfl hc110 rfl (lb rfl) fun a S => ?_
      exact leafL ⟨rfl, S⟩
    · refine fI 102 undef [(101, undef), (94, .bool (r103.2 != 0))] 14 [some 13, some 6] rfl rfl rfl rfl rfl rfl fun G a w S => ?_
      refine sSkip 6 false 94 102 S rfl rfl rfl hc110 rfl (lb rfl) fun a S => ?_
      exact leafL ⟨rfl, S⟩
    · refine fI 103 undef [(6, iv s74), (94, .bool (r103.2 != 0))] 15 [none, some 6] rfl rfl rfl rfl rfl rfl fun G a w S => ?_
      refine sSkip 6 false 94 103 S rfl rfl rfl hc110 rfl (lb rfl) fun a S => ?_
      exact leafL ⟨rfl, S⟩
    · refine fI 104 undef [(102, undef), (103, undef), (94, .bool (r103.2 != 0))] 16 [some 14, some 15, some 6] rfl rfl rfl rfl rfl rfl fun G a w S => ?_
      refine sSkip 6 false 94 104 S rfl rfl rfl hc110 rfl (lb rfl) fun a S => ?_
      exact leafL ⟨rfl, S⟩
    · refine fI 105 undef [(104, undef), (94, .bool (r103.2 != 0))] 17 [some 16, some 6] rfl rfl rfl rfl rfl rfl fun G a w S => ?_
      refine sSkip 6 false 94 105 S rfl rfl rfl hc110 rfl (lb rfl) fun a S => ?_
      exact leafL ⟨rfl, S⟩
    · refine fI 106 undef [(100, undef), (105, undef), (94, .bool (r103.2 != 0))] 18 [some 12, some 17, some 6] rfl rfl rfl rfl rfl rfl fun G a w S => ?_
      refine sSkip 6 false 94 106 S rfl rfl rfl hc110 rfl (lb rfl) fun a S => ?_
      exact leafL ⟨rfl, S⟩
    · refine fI 107 undef [(95, undef), (106, undef), (94, .bool (r103.2 != 0))] 19 [some 7, some 18, some 6] rfl rfl rfl rfl rfl rfl fun G a w S => ?_
      refine sSkip 6 false 94 107 S rfl rfl rfl hc110 rfl (lb rfl) fun a S => ?_
      exact leafL ⟨rfl, S⟩
    · refine fI 108 (.bool true) [(94, .bool (r103.2 != 0)), (107, undef)] 20 [some 6, some 19] rfl rfl rfl rfl rfl rfl fun G a w S => ?_
      refine sPickT (.bool true) S (wN rfl) rfl rfl hc110 rfl rfl (lb rfl) fun a S => ?_
      exact leafL ⟨rfl, S⟩
    · refine fI 109 (.bool true) [(108, .bool true)] 21 [some 20] rfl rfl rfl rfl rfl rfl fun G a w S => ?_
      refine sMove (.bool true) S (wN rfl) (.inl rfl) rfl rfl (lb rfl) fun a S => ?_
      exact leafL ⟨rfl, S⟩
    · refine fI 110 undef [(9, iv r103.1), (109, .bool true)] 22 [none, some 21] rfl rfl rfl rfl rfl rfl fun G a w S => ?_
      refine sSkip 21 false 109 110 S rfl rfl rfl rfl rfl (lb rfl) fun a S => ?_
      exact leafL ⟨rfl, S⟩
    · refine fI 111 undef [(1, .pointer (some ⟨b10, 0, none⟩)), (109, .bool true)] 23 [none, some 21] rfl rfl rfl rfl rfl rfl fun G a w S => ?_
      refine sSkip 21 false 109 111 S rfl rfl rfl rfl rfl (lb rfl) fun a S => ?_
      exact leafL ⟨rfl, S⟩
    · refine fI 112 undef [(111, undef), (109, .bool true)] 24 [some 23, some 21] rfl rfl rfl rfl rfl rfl fun G a w S => ?_
      refine sSkip 21 false 109 112 S rfl rfl rfl rfl rfl (lb rfl) fun a S => ?_
      exact leafL ⟨rfl, S⟩
    · refine fI 113 undef [(6, iv s74), (109, .bool true)] 25 [none, some 21] rfl rfl rfl rfl rfl rfl fun G a w S => ?_
      refine sSkip 21 false 109 113 S rfl rfl rfl rfl rfl (lb rfl) fun a S => ?_
      exact leafL ⟨rfl, S⟩
    · refine fI 114 undef [(113, undef), (109, .bool true)] 26 [some 25, some 21] rfl rfl rfl rfl rfl rfl fun G a w S => ?_
      refine sSkip 21 false 109 114 S rfl rfl rfl rfl rfl (lb rfl) fun a S => ?_
      exact leafL ⟨rfl, S⟩
    · refine fI 115 undef [(112, undef), (114, undef), (109, .bool true)] 27 [some 24, some 26, some 21] rfl rfl rfl rfl rfl rfl fun G a w S => ?_
      refine sSkip 21 false 109 115 S rfl rfl rfl rfl rfl (lb rfl) fun a S => ?_
      exact leafL ⟨rfl, S⟩
    · refine fI 116 undef [(115, undef), (109, .bool true)] 28 [some 27, some 21] rfl rfl rfl rfl rfl rfl fun G a w S => ?_
      refine sSkip 21 false 109 116 S rfl rfl rfl rfl rfl (lb rfl) fun a S => ?_
      exact leafL ⟨rfl, S⟩
    · refine fI 117 undef [(1, .pointer (some ⟨b10, 0, none⟩)), (109, .bool true)] 29 [none, some 21] rfl rfl rfl rfl rfl rfl fun G a w S => ?_
      refine sSkip 21 false 109 117 S rfl rfl rfl rfl rfl (lb rfl) fun a S => ?_
      exact leafL ⟨rfl, S⟩
    · refine fI 118 undef [(117, undef), (109, .bool true)] 30 [some 29, some 21] rfl rfl rfl rfl rfl rfl fun G a w S => ?_
      refine sSkip 21 false 109 118 S rfl rfl rfl rfl rfl (lb rfl) fun a S => ?_
      exact leafL ⟨rfl, S⟩
    · refine fI 119 undef [(6, iv s74), (109, .bool true)] 31 [none, some 21] rfl rfl rfl rfl rfl rfl fun G a w S => ?_
      refine sSkip 21 false 109 119 S rfl rfl rfl rfl rfl (lb rfl) fun a S => ?_
      exact leafL ⟨rfl, S⟩
    · refine fI 120 undef [(119, undef), (109, .bool true)] 32 [some 31, some 21] rfl rfl rfl rfl rfl rfl fun G a w S => ?_
      refine sSkip 21 false 109 120 S rfl rfl rfl rfl rfl (lb rfl) fun a S => ?_
      exact leafL ⟨rfl, S⟩
    · refine fI 121 undef [(118, undef), (120, undef), (109, .bool true)] 33 [some 30, some 32, some 21] rfl rfl rfl rfl rfl rfl fun G a w S => ?_
      refine sSkip 21 false 109 121 S rfl rfl rfl rfl rfl (lb rfl) fun a S => ?_
      exact leafL ⟨rfl, S⟩
    · refine fI 122 undef [(121, undef), (109, .bool true)] 34 [some 33, some 21] rfl rfl rfl rfl rfl rfl fun G a w S => ?_
      refine sSkip 21 false 109 122 S rfl rfl rfl rfl rfl (lb rfl) fun a S => ?_
      exact leafL ⟨rfl, S⟩
    · refine fI 123 undef [(116, undef), (122, undef), (109, .bool true)] 35 [some 28, some 34, some 21] rfl rfl rfl rfl rfl rfl fun G a w S => ?_
      refine sSkip 21 false 109 123 S rfl rfl rfl rfl rfl (lb rfl) fun a S => ?_
      exact leafL ⟨rfl, S⟩
    · refine fI 124 undef [(110, undef), (123, undef), (109, .bool true)] 36 [some 22, some 35, some 21] rfl rfl rfl rfl rfl rfl fun G a w S => ?_
      refine sSkip 21 false 109 124 S rfl rfl rfl rfl rfl (lb rfl) fun a S => ?_
      exact leafL ⟨rfl, S⟩
    · refine fI 125 (.bool true) [(109, .bool true), (124, undef)] 37 [some 21, some 36] rfl rfl rfl rfl rfl rfl fun G a w S => ?_
      refine sPickT (.bool true) S (wN rfl) rfl rfl rfl rfl rfl (lb rfl) fun a S => ?_
      exact leafL ⟨rfl, S⟩
    · refine fI 126 (.bool true) [(125, .bool true)] 38 [some 37] rfl rfl rfl rfl rfl rfl fun G a w S => ?_
      refine sMove (.bool true) S (wN rfl) (.inl rfl) rfl rfl (lb rfl) fun a S => ?_
      exact leafL ⟨rfl, S⟩
    · refine fI 127 undef [(4, .pointer (some ⟨b34, 0, none⟩)), (126, .bool true)] 39 [none, some 38] rfl rfl rfl rfl rfl rfl fun G a w S => ?_
      refine sSkip 38 false 126 127 S rfl rfl rfl rfl rfl (lb rfl) fun a S => ?_
      exact leafL ⟨rfl, S⟩
    · refine fI 128 undef [(127, undef), (126, .bool true)] 40 [some 39, some 38] rfl rfl rfl rfl rfl rfl fun G a w S => ?_
      refine sSkip 38 false 126 128 S rfl rfl rfl rfl rfl (lb rfl) fun a S => ?_
      exact leafL ⟨rfl, S⟩
    · refine fI 129 undef [(6, iv s74), (126, .bool true)] 41 [none, some 38] rfl rfl rfl rfl rfl rfl fun G a w S => ?_
      refine sSkip 38 false 126 129 S rfl rfl rfl rfl rfl (lb rfl) fun a S => ?_
      exact leafL ⟨rfl, S⟩
    · refine fI 130 undef [(128, undef), (129, undef), (126, .bool true)] 42 [some 40, some 41, some 38] rfl rfl rfl rfl rfl rfl fun G a w S => ?_
      refine sSkip 38 false 126 130 S rfl rfl rfl rfl rfl (lb rfl) fun a S => ?_
      exact leafL ⟨rfl, S⟩
    · refine fI 131 undef [(130, undef), (126, .bool true)] 43 [some 42, some 38] rfl rfl rfl rfl rfl rfl fun G a w S => ?_
      refine sSkip 38 false 126 131 S rfl rfl rfl rfl rfl (lb rfl) fun a S => ?_
      exact leafL ⟨rfl, S⟩
    · refine fI 132 undef [(131, undef), (126, .bool true)] 44 [some 43, some 38] rfl rfl rfl rfl rfl rfl fun G a w S => ?_
      refine sSkip 38 false 126 132 S rfl rfl rfl rfl rfl (lb rfl) fun a S => ?_
      exact leafL ⟨rfl, S⟩
    · refine fI 133 undef [(6, iv s74), (126, .bool true)] 45 [none, some 38] rfl rfl rfl rfl rfl rfl fun G a w S => ?_
      refine sSkip 38 false 126 133 S rfl rfl rfl rfl rfl (lb rfl) fun a S => ?_
      exact leafL ⟨rfl, S⟩
    · refine fI 134 undef [(133, undef), (126, .bool true)] 46 [some 45, some 38] rfl rfl rfl rfl rfl rfl fun G a w S => ?_
      refine sSkip 38 false 126 134 S rfl rfl rfl rfl rfl (lb rfl) fun a S => ?_
      exact leafL ⟨rfl, S⟩
    · refine fI 135 undef [(134, undef), (126, .bool true)] 47 [some 46, some 38] rfl rfl rfl rfl rfl rfl fun G a w S => ?_
      refine sSkip 38 false 126 135 S rfl rfl rfl rfl rfl (lb rfl) fun a S => ?_
      exact leafL ⟨rfl, S⟩
    · refine fI 136 undef [(132, undef), (135, undef), (126, .bool true)] 48 [some 44, some 47, some 38] rfl rfl rfl rfl rfl rfl fun G a w S => ?_
      refine sSkip 38 false 126 136 S rfl rfl rfl rfl rfl (lb rfl) fun a S => ?_
      exact leafL ⟨rfl, S⟩
    · refine fI 137 (.bool true) [(126, .bool true), (136, undef)] 49 [some 38, some 48] rfl rfl rfl rfl rfl rfl fun G a w S => ?_
      refine sPickT (.bool true) S (wN rfl) rfl rfl rfl rfl rfl (lb rfl) fun a S => ?_
      exact leafL ⟨rfl, S⟩
    exact leafT (⟨true, Option.some.inj h, S.fix [0, 1] [8, 9, 10] (by decide) rfl rfl rfl⟩)
  obtain ⟨x111, hx112, h⟩ := bindSome h
  obtain ⟨x116, hx117, h⟩ := bindSome h
  rcases iteSome h with ⟨hc121, h⟩ | ⟨hc121, h⟩
  · obtain ⟨q122, hq123, S⟩ := pIdx (P := Tryd.prog) (r := (rI .i64)) (v := .slice ad7 p0.Right.length cp8) (xs := p0.Right) (j := s74) 28 3 9 S Tryd.underlying28 rfl rfl hx112
    obtain ⟨u124, S⟩ := pLoad (r := (rI .i64)) (q := q122) (x := x111) 0 S rfl
    obtain rfl : u124 = iv x111 := S.mem.know (i := 1) (e := fRep (rI .i64) (u124) x111) rfl
    obtain ⟨q125, hq126, S⟩ := pIdx (P := Tryd.prog) (r := (rI .i64)) (v := .slice ad5 p0.Left.length cp6) (xs := p0.Left) (j := s74) 28 3 11 S Tryd.underlying28 rfl rfl hx117
    obtain ⟨u127, S⟩ := pLoad (r := (rI .i64)) (q := q125) (x := x116) 0 S rfl
    obtain rfl : u127 = iv x116 := S.mem.know (i := 1) (e := fRep (rI .i64) (u127) x116) rfl
    refine sDraw (nf := []) (W := [(0, 88, iv r93.2), (1, 89, .bool (r93.2 != 0)), (2, 90, .bool (r93.2 != 0)), (3, 91, iv r103.2), (4, 92, .bool (r103.2 != 0)), (5, 93, .bool (r103.2 != 0)), (6, 94, .bool (r103.2 != 0)), (7, 95, iv r93.1), (8, 96, .pointer (some ⟨b10, 1, none⟩)), (9, 97, .slice ad7 p0.Right.length cp8), (10, 98, iv s74), (11, 99, q122), (12, 100, iv x111), (13, 101, .pointer (some ⟨b10, 0, none⟩)), (14, 102, .slice ad5 p0.Left.length cp6), (15, 103, iv s74), (16, 104, q125), (17, 105, iv x116), (18, 106, iv (w64 (x111 - x116))), (19, 107, .bool (r93.1 != (w64 (x111 - x116)))), (20, 108, .bool (r93.1 != (w64 (x111 - x116)))), (21, 109, .bool (r93.1 != (w64 (x111 - x116)))), (22, 110, undef), (23, 111, undef), (24, 112, undef), (25, 113, undef), (26, 114, undef), (27, 115, undef), (28, 116, undef), (29, 117, undef), (30, 118, undef), (31, 119, undef), (32, 120, undef), (33, 121, undef), (34, 122, undef), (35, 123, undef), (36, 124, undef), (37, 125, .bool true), (38, 126, .bool true), (39, 127, undef), (40, 128, undef), (41, 129, undef), (42, 130, undef), (43, 131, undef), (44, 132, undef), (45, 133, undef), (46, 134, undef), (47, 135, undef), (48, 136, undef), (49, 137, .bool true)]) rfl S ?_
    refine node_by (A := anc_raddlelaw37_PieceWidths_1) (nf := []) (Y := []) (W := [(0, 88, iv r93.2), (1, 89, .bool (r93.2 != 0)), (2, 90, .bool (r93.2 != 0)), (3, 91, iv r103.2), (4, 92, .bool (r103.2 != 0)), (5, 93, .bool (r103.2 != 0)), (6, 94, .bool (r103.2 != 0)), (7, 95, iv r93.1), (8, 96, .pointer (some ⟨b10, 1, none⟩)), (9, 97, .slice ad7 p0.Right.length cp8), (10, 98, iv s74), (11, 99, q122), (12, 100, iv x111), (13, 101, .pointer (some ⟨b10, 0, none⟩)), (14, 102, .slice ad5 p0.Left.length cp6), (15, 103, iv s74), (16, 104, q125), (17, 105, iv x116), (18, 106, iv (w64 (x111 - x116))), (19, 107, .bool (r93.1 != (w64 (x111 - x116)))), (20, 108, .bool (r93.1 != (w64 (x111 - x116)))), (21, 109, .bool (r93.1 != (w64 (x111 - x116)))), (22, 110, undef), (23, 111, undef), (24, 112, undef), (25, 113, undef), (26, 114, undef), (27, 115, undef), (28, 116, undef), (29, 117, undef), (30, 118, undef), (31, 119, undef), (32, 120, undef), (33, 121, undef), (34, 122, undef), (35, 123, undef), (36, 124, undef), (37, 125, .bool true), (38, 126, .bool true), (39, 127, undef), (40, 128, undef), (41, 129, undef), (42, 130, undef), (43, 131, undef), (44, 132, undef), (45, 133, undef), (46, 134, undef), (47, 135, undef), (48, 136, undef), (49, 137, .bool true)]) 50 (by kernel_rfl) (by kernel_rfl) (by kernel_rfl) (by kernel_rfl) (by kernel_rfl) [0, 1, 2, 3, 4, 5, 6, 7, 8, 9, 10, 11, 12, 13, 14, 15, 16, 17, 18, 19, 20, 21, 22, 23, 24, 25, 26, 27, 28, 29, 30, 31, 32, 33, 34, 35, 36, 37, 38, 39, 40, 41, 42, 43, 44, 45, 46, 47, 48, 49] (by kernel_rfl) (by decide) (by decide) (aF 0 49 (by decide) ?_ (aF 1 48 (by decide) ?_ (aF 2 47 (by decide) ?_ (aF 3 46 (by decide) ?_ (aF 4 45 (by decide) ?_ (aF 5 44 (by decide) ?_ (aF 6 43 (by decide) ?_ (aF 7 42 (by decide) ?_ (aF 8 41 (by decide) ?_ (aF 9 40 (by decide) ?_ (aF 10 39 (by decide) ?_ (aF 11 38 (by decide) ?_ (aF 12 37 (by decide) ?_ (aF 13 36 (by decide) ?_ (aF 14 35 (by decide) ?_ (aF 15 34 (by decide) ?_ (aF 16 33 (by decide) ?_ (aF 17 32 (by decide) ?_ (aF 18 31 (by decide) ?_ (aF 19 30 (by decide) ?_ (aF 20 29 (by decide) ?_ (aF 21 28 (by decide) ?_ (aF 22 27 (by decide) ?_ (aF 23 26 (by decide) ?_ (aF 24 25 (by decide) ?_ (aF 25 24 (by decide) ?_ (aF 26 23 (by decide) ?_ (aF 27 22 (by decide) ?_ (aF 28 21 (by decide) ?_ (aF 29 20 (by decide) ?_ (aF 30 19 (by decide) ?_ (aF 31 18 (by decide) ?_ (aF 32 17 (by decide) ?_ (aF 33 16 (by decide) ?_ (aF 34 15 (by decide) ?_ (aF 35 14 (by decide) ?_ (aF 36 13 (by decide) ?_ (aF 37 12 (by decide) ?_ (aF 38 11 (by decide) ?_ (aF 39 10 (by decide) ?_ (aF 40 9 (by decide) ?_ (aF 41 8 (by decide) ?_ (aF 42 7 (by decide) ?_ (aF 43 6 (by decide) ?_ (aF 44 5 (by decide) ?_ (aF 45 4 (by decide) ?_ (aF 46 3 (by decide) ?_ (aF 47 2 (by decide) ?_ (aF 48 1 (by decide) ?_ (aF 49 0 (by decide) ?_ (trivial))))))))))))))))))))))))))))))))))))))))))))))))))) [(1, .pointer (some ⟨b10, 0, none⟩)), (3, .bool r12), (4, .pointer (some ⟨b34, 0, none⟩)), (6, iv s74), (91, iv r103.2), (92, .bool (r103.2 != 0)), (95, iv r93.1), (96, .pointer (some ⟨b10, 1, none⟩)), (97, .slice ad7 p0.Right.length cp8), (98, iv s74), (99, q122), (100, iv x111), (101, .pointer (some ⟨b10, 0, none⟩)), (102, .slice ad5 p0.Left.length cp6), (103, iv s74), (104, q125), (105, iv x116), (106, iv (w64 (x111 - x116))), (107, .bool (r93.1 != (w64 (x111 - x116)))), (110, undef), (111, undef), (112, undef), (113, undef), (114, undef), (115, undef), (116, undef), (117, undef), (118, undef), (119, undef), (120, undef), (121, undef), (122, undef), (123, undef), (124, undef), (127, undef), (128, undef), (129, undef), (130, undef), (131, undef), (132, undef), (133, undef), (134, undef), (135, undef), (136, undef), (137, .bool true)] (fin_of [none, none, none, none, some 3, some 4, some 7, some 8, some 9, some 10, some 11, some 12, some 13, some 14, some 15, some 16, some 17, some 18, some 19, some 22, some 23, some 24, some 25, some 26, some 27, some 28, some 29, some 30, some 31, some 32, some 33, some 34, some 35, some 36, some 39, some 40, some 41, some 42, some 43, some 44, some 45, some 46, some 47, some 48, some 49] rfl (by kernel_rfl) (by kernel_rfl)) (fun _ a w S => ?_)
    · refine fI 88 (iv r93.2) [(8, iv r93.2)] 0 [none] rfl rfl rfl rfl rfl rfl fun G a w S => ?_
      refine sMove (iv r93.2) S (wN rfl) (.inl rfl) rfl rfl (lb rfl) fun a S => ?_
      exact leafL ⟨rfl, S⟩
    · refine fI 89 (.bool (r93.2 != 0)) [(88, iv r93.2)] 1 [some 0] rfl rfl rfl rfl rfl rfl fun G a w S => ?_
      refine sBin (.bool (r93.2 != 0)) S (wN rfl) rfl rfl rfl (bNe _ _ _ _ .i64 r93.2 0) rfl (lb rfl) fun a S => ?_
      exact leafL ⟨rfl, S⟩
    · refine fI 90 (.bool (r93.2 != 0)) [(89, .bool (r93.2 != 0))] 2 [some 1] rfl rfl rfl rfl rfl rfl fun G a w S => ?_
      refine sMove (.bool (r93.2 != 0)) S (wN rfl) (.inl rfl) rfl rfl (lb rfl) fun a S => ?_
      exact leafL ⟨rfl, S⟩
    · refine fI 91 (iv r103.2) [(10, iv r103.2), (90, .bool (r93.2 != 0))] 3 [none, some 2] rfl rfl rfl rfl rfl rfl fun G a w S => ?_
      refine sMove (iv r103.2) S (wG 2 false 90 rfl rfl rfl hc109) (.inl rfl) rfl rfl (lb rfl) fun a S => ?_
      exact leafL ⟨rfl, S⟩
    · refine fI 92 (.bool (r103.2 != 0)) [(91, iv r103.2), (90, .bool (r93.2 != 0))] 4 [some 3, some 2] rfl rfl rfl rfl rfl rfl fun G a w S => ?_
      refine sBin (.bool (r103.2 != 0)) S (wG 2 false 90 rfl rfl rfl hc109) rfl rfl rfl (bNe _ _ _ _ .i64 r103.2 0) rfl (lb rfl) fun a S => ?_
      exact leafL ⟨rfl, S⟩
    · refine fI 93 (.bool (r103.2 != 0)) [(90, .bool (r93.2 != 0)), (92, .bool (r103.2 != 0))] 5 [some 2, some 4] rfl rfl rfl rfl rfl rfl fun G a w S => ?_
      refine sPickF (.bool (r103.2 != 0)) S (wN rfl) rfl rfl hc109 rfl rfl (lb rfl) fun a S => ?_
      exact leafL ⟨rfl, S⟩
    · refine fI 94 (.bool (r103.2 != 0)) [(93, .bool (r103.2 != 0))] 6 [some 5] rfl rfl rfl rfl rfl rfl fun G a w S => ?_
      refine sMove (.bool (r103.2 != 0)) S (wN rfl) (.inl rfl) rfl rfl (lb rfl) fun a S => ?_
      exact leafL ⟨rfl, S⟩
    · refine fI 95 (iv r93.1) [(7, iv r93.1), (94, .bool (r103.2 != 0))] 7 [none, some 6] rfl rfl rfl rfl rfl rfl fun G a w S => ?_
      refine sMove (iv r93.1) S (wG 6 false 94 rfl rfl rfl hc110) (.inl rfl) rfl rfl (lb rfl) fun a S => ?_
      exact leafL ⟨rfl, S⟩
    · refine fI 96 (.pointer (some ⟨b10, 1, none⟩)) [(1, .pointer (some ⟨b10, 0, none⟩)), (94, .bool (r103.2 != 0))] 8 [none, some 6] rfl rfl rfl rfl rfl rfl fun G a w S => ?_
      refine sField (b := b10) (off := 0) 1 1 S (wG 6 false 94 rfl rfl rfl hc110) rfl rfl rfl rfl rfl (lb rfl) fun a S => ?_
      exact leafL ⟨rfl, S⟩
    · refine fI 97 (.slice ad7 p0.Right.length cp8) [(96, .pointer (some ⟨b10, 1, none⟩)), (94, .bool (r103.2 != 0))] 9 [some 8, some 6] rfl rfl rfl rfl rfl rfl fun G a w S => ?_
      refine sLoad1 (p := b10) (off := 1) (T := 30) (vs := [.slice ad5 p0.Left.length cp6, .slice ad7 p0.Right.length cp8]) 0 (.slice ad7 p0.Right.length cp8) S (wG 6 false 94 rfl rfl rfl hc110) rfl rfl rfl rfl rfl rfl (lb rfl) fun a S => ?_
      exact leafL ⟨rfl, S⟩
    · refine fI 98 (iv s74) [(6, iv s74), (94, .bool (r103.2 != 0))] 10 [none, some 6] rfl rfl rfl rfl rfl rfl fun G a w S => ?_
      refine sMove (iv s74) S (wG 6 false 94 rfl rfl rfl hc110) (.inl rfl) rfl rfl (lb rfl) fun a S => ?_
      exact leafL ⟨rfl, S⟩
    · refine fI 99 q122 [(97, .slice ad7 p0.Right.length cp8), (98, iv s74), (94, .bool (r103.2 != 0))] 11 [some 9, some 10, some 6] rfl rfl rfl rfl rfl rfl fun G a w S => ?_
      refine sIdxV (v := .slice ad7 p0.Right.length cp8) (k := .i64) (j := s74) S (wG 6 false 94 rfl rfl rfl hc110) rfl rfl rfl hq123 rfl (lb rfl) fun a S => ?_
      exact leafL ⟨rfl, S⟩
    · refine fI 100 (iv x111) [(99, q122), (94, .bool (r103.2 != 0))] 12 [some 11, some 6] rfl rfl rfl rfl rfl rfl fun G a w S => ?_
      refine sLoadV1 (vq := q122) 3 (iv x111) S (wG 6 false 94 rfl rfl rfl hc110) rfl rfl rfl rfl rfl (lb rfl) fun a S => ?_
      exact leafL ⟨rfl, S⟩
    · refine fI 101 (.pointer (some ⟨b10, 0, none⟩)) [(1, .pointer (some ⟨b10, 0, none⟩)), (94, .bool (r103.2 != 0))] 13 [none, some 6] rfl rfl rfl rfl rfl rfl fun G a w S => ?_
      refine sField (b := b10) (off := 0) 0 0 S (wG 6 false 94 rfl rfl rfl hc110) rfl rfl rfl rfl rfl (lb rfl) fun a S => ?_
      exact leafL ⟨rfl, S⟩
    · refine fI 102 (.slice ad5 p0.Left.length cp6) [(101, .pointer (some ⟨b10, 0, none⟩)), (94, .bool (r103.2 != 0))] 14 [some 13, some 6] rfl rfl rfl rfl rfl rfl fun G a w S => ?_
      refine sLoad1 (p := b10) (off := 0) (T := 30) (vs := [.slice ad5 p0.Left.length cp6, .slice ad7 p0.Right.length cp8]) 0 (.slice ad5 p0.Left.length cp6) S (wG 6 false 94 rfl rfl rfl hc110) rfl rfl rfl rfl rfl rfl (lb rfl) fun a S => ?_
      exact leafL ⟨rfl, S⟩
    · refine fI 103 (iv s74) [(6, iv s74), (94, .bool (r103.2 != 0))] 15 [none, some 6] rfl rfl rfl rfl rfl rfl fun G a w S => ?_
      refine sMove (iv s74) S (wG 6 false 94 rfl rfl rfl hc110) (.inl rfl) rfl rfl (lb rfl) fun a S => ?_
      exact leafL ⟨rfl, S⟩
    · refine fI 104 q125 [(102, .slice ad5 p0.Left.length cp6), (103, iv s74), (94, .bool (r103.2 != 0))] 16 [some 14, some 15, some 6] rfl rfl rfl rfl rfl rfl fun G a w S => ?_
      refine sIdxV (v := .slice ad5 p0.Left.length cp6) (k := .i64) (j := s74) S (wG 6 false 94 rfl rfl rfl hc110) rfl rfl rfl hq126 rfl (lb rfl) fun a S => ?_
      exact leafL ⟨rfl, S⟩
    · refine fI 105 (iv x116) [(104, q125), (94, .bool (r103.2 != 0))] 17 [some 16, some 6] rfl rfl rfl rfl rfl rfl fun G a w S => ?_
      refine sLoadV1 (vq := q125) 0 (iv x116) S (wG 6 false 94 rfl rfl rfl hc110) rfl rfl rfl rfl rfl (lb rfl) fun a S => ?_
      exact leafL ⟨rfl, S⟩
    · refine fI 106 (iv (w64 (x111 - x116))) [(100, iv x111), (105, iv x116), (94, .bool (r103.2 != 0))] 18 [some 12, some 17, some 6] rfl rfl rfl rfl rfl rfl fun G a w S => ?_
      refine sBin (iv (w64 (x111 - x116))) S (wG 6 false 94 rfl rfl rfl hc110) rfl rfl rfl (bSub _ _ _ _ x111 x116) rfl (lb rfl) fun a S => ?_
      exact leafL ⟨rfl, S⟩
    · refine fI 107 (.bool (r93.1 != (w64 (x111 - x116)))) [(95, iv r93.1), (106, iv (w64 (x111 - x116))), (94, .bool (r103.2 != 0))] 19 [some 7, some 18, some 6] rfl rfl rfl rfl rfl rfl fun G a w S => ?_
      refine sBin (.bool (r93.1 != (w64 (x111 - x116)))) S (wG 6 false 94 rfl rfl rfl hc110) rfl rfl rfl (bNe _ _ _ _ .i64 r93.1 (w64 (x111 - x116))) rfl (lb rfl) fun a S => ?_
      exact leafL ⟨rfl, S⟩
    · refine fI 108 (.bool (r93.1 != (w64 (x111 - x116)))) [(94, .bool (r103.2 != 0)), (107, .bool (r93.1 != (w64 (x111 - x116))))] 20 [some 6, some 19] rfl rfl rfl rfl rfl rfl fun G a w S => ?_
      refine sPickF (.bool (r93.1 != (w64 (x111 - x116)))) S (wN rfl) rfl rfl hc110 rfl rfl (lb rfl) fun a S => ?_
      exact leafL ⟨rfl, S⟩
    · refine fI 109 (.bool (r93.1 != (w64 (x111 - x116)))) [(108, .bool (r93.1 != (w64 (x111 - x116))))] 21 [some 20] rfl rfl rfl rfl rfl rfl fun G a w S => ?_
      refine sMove (.bool (r93.1 != (w64 (x111 - x116)))) S (wN rfl) (.inl rfl) rfl rfl (lb rfl) fun a S => ?_
      exact leafL ⟨rfl, S⟩
    · refine fI 110 undef [(9, iv r103.1), (109, .bool (r93.1 != (w64 (x111 - x116))))] 22 [none, some 21] rfl rfl rfl rfl rfl rfl fun G a w S => ?_
      refine sSkip 21 false 109 110 S rfl rfl rfl hc121 rfl (lb rfl) fun a S => ?_
      exact leafL ⟨rfl, S⟩
    · refine fI 111 undef [(1, .pointer (some ⟨b10, 0, none⟩)), (109, .bool (r93.1 != (w64 (x111 - x116))))] 23 [none, some 21] rfl rfl rfl rfl rfl rfl fun G a w S => ?_
      refine sSkip 21 false 109 111 S rfl rfl rfl hc121 rfl (lb rfl) fun a S => ?_
      exact leafL ⟨rfl, S⟩
    · refine fI 112 undef [(111, undef), (109, .bool (r93.1 != (w64 (x111 - x116))))] 24 [some 23, some 21] rfl rfl rfl rfl rfl rfl fun G a w S => ?_
      refine sSkip 21 false 109 112 S rfl rfl rfl hc121 rfl (lb rfl) fun a S => ?_
      exact leafL ⟨rfl, S⟩
    · refine fI 113 undef [(6, iv s74), (109, .bool (r93.1 != (w64 (x111 - x116))))] 25 [none, some 21] rfl rfl rfl rfl rfl rfl fun G a w S => ?_
      refine sSkip 21 false 109 113 S rfl rfl rfl hc121 rfl (lb rfl) fun a S => ?_
      exact leafL ⟨rfl, S⟩
    · refine fI 114 undef [(113, undef), (109, .bool (r93.1 != (w64 (x111 - x116))))] 26 [some 25, some 21] rfl rfl rfl rfl rfl rfl fun G a w S => ?_
      refine sSkip 21 false 109 114 S rfl rfl rfl hc121 rfl (lb rfl) fun a S => ?_
      exact leafL ⟨rfl, S⟩
    · refine fI 115 undef [(112, undef), (114, undef), (109, .bool (r93.1 != (w64 (x111 - x116))))] 27 [some 24, some 26, some 21] rfl rfl rfl rfl rfl rfl fun G a w S => ?_
      refine sSkip 21 false 109 115 S rfl rfl rfl hc121 rfl (lb rfl) fun a S => ?_
      exact leafL ⟨rfl, S⟩
    · refine fI 116 undef [(115, undef), (109, .bool (r93.1 != (w64 (x111 - x116))))] 28 [some 27, some 21] rfl rfl rfl rfl rfl rfl fun G a w S => ?_
      refine sSkip 21 false 109 116 S rfl rfl rfl hc121 rfl (lb rfl) fun a S => ?_
      exact leafL ⟨rfl, S⟩
    · refine fI 117 undef [(1, .pointer (some ⟨b10, 0, none⟩)), (109, .bool (r93.1 != (w64 (x111 - x116))))] 29 [none, some 21] rfl rfl rfl rfl rfl rfl fun G a w S => ?_
      refine sSkip 21 false 109 117 S rfl rfl rfl hc121 rfl (lb rfl) fun a S => ?_
      exact leafL ⟨rfl, S⟩
    · refine fI 118 undef [(117, undef), (109, .bool (r93.1 != (w64 (x111 - x116))))] 30 [some 29, some 21] rfl rfl rfl rfl rfl rfl fun G a w S => ?_
      refine sSkip 21 false 109 118 S rfl rfl rfl hc121 rfl (lb rfl) fun a S => ?_
      exact leafL ⟨rfl, S⟩
    · refine fI 119 undef [(6, iv s74), (109, .bool (r93.1 != (w64 (x111 - x116))))] 31 [none, some 21] rfl rfl rfl rfl rfl rfl fun G a w S => ?_
      refine sSkip 21 false 109 119 S rfl rfl rfl hc121 rfl (lb rfl) fun a S => ?_
      exact leafL ⟨rfl, S⟩
    · refine fI 120 undef [(119, undef), (109, .bool (r93.1 != (w64 (x111 - x116))))] 32 [some 31, some 21] rfl rfl rfl rfl rfl rfl fun G a w S => ?_
      refine sSkip 21 false 109 120 S rfl rfl rfl hc121 rfl (lb rfl) fun a S => ?_
      exact leafL ⟨rfl, S⟩
    · refine fI 121 undef [(118, undef), (120, undef), (109, .bool (r93.1 != (w64 (x111 - x116))))] 33 [some 30, some 32, some 21] rfl rfl rfl rfl rfl rfl fun G a w S => ?_
      refine sSkip 21 false 109 121 S rfl rfl rfl hc121 rfl (lb rfl) fun a S => ?_
      exact leafL ⟨rfl, S⟩
    · refine fI 122 undef [(121, undef), (109, .bool (r93.1 != (w64 (x111 - x116))))] 34 [some 33, some 21] rfl rfl rfl rfl rfl rfl fun G a w S => ?_
      refine sSkip 21 false 109 122 S rfl rfl rfl hc121 rfl (lb rfl) fun a S => ?_
      exact leafL ⟨rfl, S⟩
    · refine fI 123 undef [(116, undef), (122, undef), (109, .bool (r93.1 != (w64 (x111 - x116))))] 35 [some 28, some 34, some 21] rfl rfl rfl rfl rfl rfl fun G a w S => ?_
      refine sSkip 21 false 109 123 S rfl rfl rfl hc121 rfl (lb rfl) fun a S => ?_
      exact leafL ⟨rfl, S⟩
    · refine fI 124 undef [(110, undef), (123, undef), (109, .bool (r93.1 != (w64 (x111 - x116))))] 36 [some 22, some 35, some 21] rfl rfl rfl rfl rfl rfl fun G a w S => ?_
      refine sSkip 21 false 109 124 S rfl rfl rfl hc121 rfl (lb rfl) fun a S => ?_
      exact leafL ⟨rfl, S⟩
    · refine fI 125 (.bool true) [(109, .bool (r93.1 != (w64 (x111 - x116)))), (124, undef)] 37 [some 21, some 36] rfl rfl rfl rfl rfl rfl fun G a w S => ?_
      refine sPickT (.bool true) S (wN rfl) rfl rfl hc121 rfl rfl (lb rfl) fun a S => ?_
      exact leafL ⟨rfl, S⟩
    · refine fI 126 (.bool true) [(125, .bool true)] 38 [some 37] rfl rfl rfl rfl rfl rfl fun G a w S => ?_
      refine sMove (.bool true) S (wN rfl) (.inl rfl) rfl rfl (lb rfl) fun a S => ?_
      exact leafL ⟨rfl, S⟩
    · refine fI 127 undef [(4, .pointer (some ⟨b34, 0, none⟩)), (126, .bool true)] 39 [none, some 38] rfl rfl rfl rfl rfl rfl fun G a w S => ?_
      refine sSkip 38 false 126 127 S rfl rfl rfl rfl rfl (lb rfl) fun a S => ?_
      exact leafL ⟨rfl, S⟩
    · refine fI 128 undef [(127, undef), (126, .bool true)] 40 [some 39, some 38] rfl rfl rfl rfl rfl rfl fun G a w S => ?_
      refine sSkip 38 false 126 128 S rfl rfl rfl rfl rfl (lb rfl) fun a S => ?_
      exact leafL ⟨rfl, S⟩
    · refine fI 129 undef [(6, iv s74), (126, .bool true)] 41 [none, some 38] rfl rfl rfl rfl rfl rfl fun G a w S => ?_
      refine sSkip 38 false 126 129 S rfl rfl rfl rfl rfl (lb rfl) fun a S => ?_
      exact leafL ⟨rfl, S⟩
    · refine fI 130 undef [(128, undef), (129, undef), (126, .bool true)] 42 [some 40, some 41, some 38] rfl rfl rfl rfl rfl rfl fun G a w S => ?_
      refine sSkip 38 false 126 130 S rfl rfl rfl rfl rfl (lb rfl) fun a S => ?_
      exact leafL ⟨rfl, S⟩
    · refine fI 131 undef [(130, undef), (126, .bool true)] 43 [some 42, some 38] rfl rfl rfl rfl rfl rfl fun G a w S => ?_
      refine sSkip 38 false 126 131 S rfl rfl rfl rfl rfl (lb rfl) fun a S => ?_
      exact leafL ⟨rfl, S⟩
    · refine fI 132 undef [(131, undef), (126, .bool true)] 44 [some 43, some 38] rfl rfl rfl rfl rfl rfl fun G a w S => ?_
      refine sSkip 38 false 126 132 S rfl rfl rfl rfl rfl (lb rfl) fun a S => ?_
      exact leafL ⟨rfl, S⟩
    · refine fI 133 undef [(6, iv s74), (126, .bool true)] 45 [none, some 38] rfl rfl rfl rfl rfl rfl fun G a w S => ?_
      refine sSkip 38 false 126 133 S rfl rfl rfl rfl rfl (lb rfl) fun a S => ?_
      exact leafL ⟨rfl, S⟩
    · refine fI 134 undef [(133, undef), (126, .bool true)] 46 [some 45, some 38] rfl rfl rfl rfl rfl rfl fun G a w S => ?_
      refine sSkip 38 false 126 134 S rfl rfl rfl rfl rfl (lb rfl) fun a S => ?_
      exact leafL ⟨rfl, S⟩
    · refine fI 135 undef [(134, undef), (126, .bool true)] 47 [some 46, some 38] rfl rfl rfl rfl rfl rfl fun G a w S => ?_
      refine sSkip 38 false 126 135 S rfl rfl rfl rfl rfl (lb rfl) fun a S => ?_
      exact leafL ⟨rfl, S⟩
    · refine fI 136 undef [(132, undef), (135, undef), (126, .bool true)] 48 [some 44, some 47, some 38] rfl rfl rfl rfl rfl rfl fun G a w S => ?_
      refine sSkip 38 false 126 136 S rfl rfl rfl rfl rfl (lb rfl) fun a S => ?_
      exact leafL ⟨rfl, S⟩
    · refine fI 137 (.bool true) [(126, .bool true), (136, undef)] 49 [some 38, some 48] rfl rfl rfl rfl rfl rfl fun G a w S => ?_
      refine sPickT (.bool true) S (wN rfl) rfl rfl rfl rfl rfl (lb rfl) fun a S => ?_
      exact leafL ⟨rfl, S⟩
    exact leafT (⟨true, Option.some.inj h, S.fix [0, 1] [14, 15, 16] (by decide) rfl rfl rfl⟩)
  obtain ⟨x128, hx129, h⟩ := bindSome h
  obtain ⟨x133, hx134, h⟩ := bindSome h
  rcases iteSome h with ⟨hc138, h⟩ | ⟨hc138, h⟩
  · obtain ⟨q139, hq140, S⟩ := pIdx (P := Tryd.prog) (r := (rI .i64)) (v := .slice ad7 p0.Right.length cp8) (xs := p0.Right) (j := s74) 28 3 9 S Tryd.underlying28 rfl rfl hx112
    obtain ⟨u141, S⟩ := pLoad (r := (rI .i64)) (q := q139) (x := x111) 0 S rfl
    obtain rfl : u141 = iv x111 := S.mem.know (i := 1) (e := fRep (rI .i64) (u141) x111) rfl
    obtain ⟨q142, hq143, S⟩ := pIdx (P := Tryd.prog) (r := (rI .i64)) (v := .slice ad5 p0.Left.length cp6) (xs := p0.Left) (j := s74) 28 3 11 S Tryd.underlying28 rfl rfl hx117
    obtain ⟨u144, S⟩ := pLoad (r := (rI .i64)) (q := q142) (x := x116) 0 S rfl
    obtain rfl : u144 = iv x116 := S.mem.know (i := 1) (e := fRep (rI .i64) (u144) x116) rfl
    obtain ⟨q145, hq146, S⟩ := pIdx (P := Tryd.prog) (r := (rI .i64)) (v := .slice ad7 p0.Right.length cp8) (xs := p0.Right) (j := w64 (s74 + 1)) 28 3 15 S Tryd.underlying28 rfl rfl hx129
    obtain ⟨u147, S⟩ := pLoad (r := (rI .i64)) (q := q145) (x := x128) 0 S rfl
    obtain rfl : u147 = iv x128 := S.mem.know (i := 1) (e := fRep (rI .i64) (u147) x128) rfl
    obtain ⟨q148, hq149, S⟩ := pIdx (P := Tryd.prog) (r := (rI .i64)) (v := .slice ad5 p0.Left.length cp6) (xs := p0.Left) (j := w64 (s74 + 1)) 28 3 17 S Tryd.underlying28 rfl rfl hx134
    obtain ⟨u150, S⟩ := pLoad (r := (rI .i64)) (q := q148) (x := x133) 0 S rfl
    obtain rfl : u150 = iv x133 := S.mem.know (i := 1) (e := fRep (rI .i64) (u150) x133) rfl
    refine sDraw (nf := []) (W := [(0, 88, iv r93.2), (1, 89, .bool (r93.2 != 0)), (2, 90, .bool (r93.2 != 0)), (3, 91, iv r103.2), (4, 92, .bool (r103.2 != 0)), (5, 93, .bool (r103.2 != 0)), (6, 94, .bool (r103.2 != 0)), (7, 95, iv r93.1), (8, 96, .pointer (some ⟨b10, 1, none⟩)), (9, 97, .slice ad7 p0.Right.length cp8), (10, 98, iv s74), (11, 99, q139), (12, 100, iv x111), (13, 101, .pointer (some ⟨b10, 0, none⟩)), (14, 102, .slice ad5 p0.Left.length cp6), (15, 103, iv s74), (16, 104, q142), (17, 105, iv x116), (18, 106, iv (w64 (x111 - x116))), (19, 107, .bool (r93.1 != (w64 (x111 - x116)))), (20, 108, .bool (r93.1 != (w64 (x111 - x116)))), (21, 109, .bool (r93.1 != (w64 (x111 - x116)))), (22, 110, iv r103.1), (23, 111, .pointer (some ⟨b10, 1, none⟩)), (24, 112, .slice ad7 p0.Right.length cp8), (25, 113, iv s74), (26, 114, iv (w64 (s74 + 1))), (27, 115, q145), (28, 116, iv x128), (29, 117, .pointer (some ⟨b10, 0, none⟩)), (30, 118, .slice ad5 p0.Left.length cp6), (31, 119, iv s74), (32, 120, iv (w64 (s74 + 1))), (33, 121, q148), (34, 122, iv x133), (35, 123, iv (w64 (x128 - x133))), (36, 124, .bool (r103.1 != (w64 (x128 - x133)))), (37, 125, .bool (r103.1 != (w64 (x128 - x133)))), (38, 126, .bool (r103.1 != (w64 (x128 - x133)))), (39, 127, undef), (40, 128, undef), (41, 129, undef), (42, 130, undef), (43, 131, undef), (44, 132, undef), (45, 133, undef), (46, 134, undef), (47, 135, undef), (48, 136, undef), (49, 137, .bool true)]) rfl S ?_
    refine node_by (A := anc_raddlelaw37_PieceWidths_1) (nf := []) (Y := []) (W := [(0, 88, iv r93.2), (1, 89, .bool (r93.2 != 0)), (2, 90, .bool (r93.2 != 0)), (3, 91, iv r103.2), (4, 92, .bool (r103.2 != 0)), (5, 93, .bool (r103.2 != 0)), (6, 94, .bool (r103.2 != 0)), (7, 95, iv r93.1), (8, 96, .pointer (some ⟨b10, 1, none⟩)), (9, 97, .slice ad7 p0.Right.length cp8), (10, 98, iv s74), (11, 99, q139), (12, 100, iv x111), (13, 101, .pointer (some ⟨b10, 0, none⟩)), (14, 102, .slice ad5 p0.Left.length cp6), (15, 103, iv s74), (16, 104, q142), (17, 105, iv x116), (18, 106, iv (w64 (x111 - x116))), (19, 107, .bool (r93.1 != (w64 (x111 - x116)))), (20, 108, .bool (r93.1 != (w64 (x111 - x116)))), (21, 109, .bool (r93.1 != (w64 (x111 - x116)))), (22, 110, iv r103.1), (23, 111, .pointer (some ⟨b10, 1, none⟩)), (24, 112, .slice ad7 p0.Right.length cp8), (25, 113, iv s74), (26, 114, iv (w64 (s74 + 1))), (27, 115, q145), (28, 116, iv x128), (29, 117, .pointer (some ⟨b10, 0, none⟩)), (30, 118, .slice ad5 p0.Left.length cp6), (31, 119, iv s74), (32, 120, iv (w64 (s74 + 1))), (33, 121, q148), (34, 122, iv x133), (35, 123, iv (w64 (x128 - x133))), (36, 124, .bool (r103.1 != (w64 (x128 - x133)))), (37, 125, .bool (r103.1 != (w64 (x128 - x133)))), (38, 126, .bool (r103.1 != (w64 (x128 - x133)))), (39, 127, undef), (40, 128, undef), (41, 129, undef), (42, 130, undef), (43, 131, undef), (44, 132, undef), (45, 133, undef), (46, 134, undef), (47, 135, undef), (48, 136, undef), (49, 137, .bool true)]) 50 (by kernel_rfl) (by kernel_rfl) (by kernel_rfl) (by kernel_rfl) (by kernel_rfl) [0, 1, 2, 3, 4, 5, 6, 7, 8, 9, 10, 11, 12, 13, 14, 15, 16, 17, 18, 19, 20, 21, 22, 23, 24, 25, 26, 27, 28, 29, 30, 31, 32, 33, 34, 35, 36, 37, 38, 39, 40, 41, 42, 43, 44, 45, 46, 47, 48, 49] (by kernel_rfl) (by decide) (by decide) (aF 0 49 (by decide) ?_ (aF 1 48 (by decide) ?_ (aF 2 47 (by decide) ?_ (aF 3 46 (by decide) ?_ (aF 4 45 (by decide) ?_ (aF 5 44 (by decide) ?_ (aF 6 43 (by decide) ?_ (aF 7 42 (by decide) ?_ (aF 8 41 (by decide) ?_ (aF 9 40 (by decide) ?_ (aF 10 39 (by decide) ?_ (aF 11 38 (by decide) ?_ (aF 12 37 (by decide) ?_ (aF 13 36 (by decide) ?_ (aF 14 35 (by decide) ?_ (aF 15 34 (by decide) ?_ (aF 16 33 (by decide) ?_ (aF 17 32 (by decide) ?_ (aF 18 31 (by decide) ?_ (aF 19 30 (by decide) ?_ (aF 20 29 (by decide) ?_ (aF 21 28 (by decide) ?_ (aF 22 27 (by decide) ?_ (aF 23 26 (by decide) ?_ (aF 24 25 (by decide) ?_ (aF 25 24 (by decide) ?_ (aF 26 23 (by decide) ?_ (aF 27 22 (by decide) ?_ (aF 28 21 (by decide) ?_ (aF 29 20 (by decide) ?_ (aF 30 19 (by decide) ?_ (aF 31 18 (by decide) ?_ (aF 32 17 (by decide) ?_ (aF 33 16 (by decide) ?_ (aF 34 15 (by decide) ?_ (aF 35 14 (by decide) ?_ (aF 36 13 (by decide) ?_ (aF 37 12 (by decide) ?_ (aF 38 11 (by decide) ?_ (aF 39 10 (by decide) ?_ (aF 40 9 (by decide) ?_ (aF 41 8 (by decide) ?_ (aF 42 7 (by decide) ?_ (aF 43 6 (by decide) ?_ (aF 44 5 (by decide) ?_ (aF 45 4 (by decide) ?_ (aF 46 3 (by decide) ?_ (aF 47 2 (by decide) ?_ (aF 48 1 (by decide) ?_ (aF 49 0 (by decide) ?_ (trivial))))))))))))))))))))))))))))))))))))))))))))))))))) [(1, .pointer (some ⟨b10, 0, none⟩)), (3, .bool r12), (4, .pointer (some ⟨b34, 0, none⟩)), (6, iv s74), (91, iv r103.2), (92, .bool (r103.2 != 0)), (95, iv r93.1), (96, .pointer (some ⟨b10, 1, none⟩)), (97, .slice ad7 p0.Right.length cp8), (98, iv s74), (99, q139), (100, iv x111), (101, .pointer (some ⟨b10, 0, none⟩)), (102, .slice ad5 p0.Left.length cp6), (103, iv s74), (104, q142), (105, iv x116), (106, iv (w64 (x111 - x116))), (107, .bool (r93.1 != (w64 (x111 - x116)))), (110, iv r103.1), (111, .pointer (some ⟨b10, 1, none⟩)), (112, .slice ad7 p0.Right.length cp8), (113, iv s74), (114, iv (w64 (s74 + 1))), (115, q145), (116, iv x128), (117, .pointer (some ⟨b10, 0, none⟩)), (118, .slice ad5 p0.Left.length cp6), (119, iv s74), (120, iv (w64 (s74 + 1))), (121, q148), (122, iv x133), (123, iv (w64 (x128 - x133))), (124, .bool (r103.1 != (w64 (x128 - x133)))), (127, undef), (128, undef), (129, undef), (130, undef), (131, undef), (132, undef), (133, undef), (134, undef), (135, undef), (136, undef), (137, .bool true)] (fin_of [none, none, none, none, some 3, some 4, some 7, some 8, some 9, some 10, some 11, some 12, some 13, some 14, some 15, some 16, some 17, some 18, some 19, some 22, some 23, some 24, some 25, some 26, some 27, some 28, some 29, some 30, some 31, some 32, some 33, some 34, some 35, some 36, some 39, some 40, some 41, some 42, some 43, some 44, some 45, some 46, some 47, some 48, some 49] rfl (by kernel_rfl) (by kernel_rfl)) (fun _ a w S => ?_)
    · refine fI 88 (iv r93.2) [(8, iv r93.2)] 0 [none] rfl rfl rfl rfl rfl rfl fun G a w S => ?_
      refine sMove (iv r93.2) S (wN rfl) (.inl rfl) rfl rfl (lb rfl) fun a S => ?_
      exact leafL ⟨rfl, S⟩
    · refine fI 89 (.bool (r93.2 != 0)) [(88, iv r93.2)] 1 [some 0] rfl rfl rfl rfl rfl rfl fun G a w S => ?_
      refine sBin (.bool (r93.2 != 0)) S (wN rfl) rfl rfl rfl (bNe _ _ _ _ .i64 r93.2 0) rfl (lb rfl) fun a S => ?_
      exact leafL ⟨rfl, S⟩
    · refine fI 90 (.bool (r93.2 != 0)) [(89, .bool (r93.2 != 0))] 2 [some 1] rfl rfl rfl rfl rfl rfl fun G a w S => ?_
      refine sMove (.bool (r93.2 != 0)) S (wN rfl) (.inl rfl) rfl rfl (lb rfl) fun a S => ?_
      exact leafL ⟨rfl, S⟩
    · refine fI 91 (iv r103.2) [(10, iv r103.2), (90, .bool (r93.2 != 0))] 3 [none, some 2] rfl rfl rfl rfl rfl rfl fun G a w S => ?_
      refine sMove (iv r103.2) S (wG 2 false 90 rfl rfl rfl hc109) (.inl rfl) rfl rfl (lb rfl) fun a S => ?_
      exact leafL ⟨rfl, S⟩
    · refine fI 92 (.bool (r103.2 != 0)) [(91, iv r103.2), (90, .bool (r93.2 != 0))] 4 [some 3, some 2] rfl rfl rfl rfl rfl rfl fun G a w S => ?_
      refine sBin (.bool (r103.2 != 0)) S (wG 2 false 90 rfl rfl rfl hc109) rfl rfl rfl (bNe _ _ _ _ .i64 r103.2 0) rfl (lb rfl) fun a S => ?_
      exact leafL ⟨rfl, S⟩
    · refine fI 93 (.bool (r103.2 != 0)) [(90, .bool (r93.2 != 0)), (92, .bool (r103.2 != 0))] 5 [some 2, some 4] rfl rfl rfl rfl rfl rfl fun G a w S => ?_
      refine sPickF (.bool (r103.2 != 0)) S (wN rfl) rfl rfl hc109 rfl rfl (lb rfl) fun a S => ?_
      exact leafL ⟨rfl, S⟩
    · refine fI 94 (.bool (r103.2 != 0)) [(93, .bool (r103.2 != 0))] 6 [some 5] rfl rfl rfl rfl rfl rfl fun G a w S => ?_
      refine sMove (.bool (r103.2 != 0)) S (wN rfl) (.inl rfl) rfl rfl (lb rfl) fun a S => ?_
      exact leafL ⟨rfl, S⟩
    · refine fI 95 (iv r93.1) [(7, iv r93.1), (94, .bool (r103.2 != 0))] 7 [none, some 6] rfl rfl rfl rfl rfl rfl fun G a w S => ?_
      refine sMove (iv r93.1) S (wG 6 false 94 rfl rfl rfl hc110) (.inl rfl) rfl rfl (lb rfl) fun a S => ?_
      exact leafL ⟨rfl, S⟩
    · refine fI 96 (.pointer (some ⟨b10, 1, none⟩)) [(1, .pointer (some ⟨b10, 0, none⟩)), (94, .bool (r103.2 != 0))] 8 [none, some 6] rfl rfl rfl rfl rfl rfl fun G a w S => ?_
      refine sField (b := b10) (off := 0) 1 1 S (wG 6 false 94 rfl rfl rfl hc110) rfl rfl rfl rfl rfl (lb rfl) fun a S => ?_
      exact leafL ⟨rfl, S⟩
    · refine fI 97 (.slice ad7 p0.Right.length cp8) [(96, .pointer (some ⟨b10, 1, none⟩)), (94, .bool (r103.2 != 0))] 9 [some 8, some 6] rfl rfl rfl rfl rfl rfl fun G a w S => ?_
      refine sLoad1 (p := b10) (off := 1) (T := 30) (vs := [.slice ad5 p0.Left.length cp6, .slice ad7 p0.Right.length cp8]) 0 (.slice ad7 p0.Right.length cp8) S (wG 6 false 94 rfl rfl rfl hc110) rfl rfl rfl rfl rfl rfl (lb rfl) fun a S => ?_
      exact leafL ⟨rfl, S⟩
    · refine fI 98 (iv s74) [(6, iv s74), (94, .bool (r103.2 != 0))] 10 [none, some 6] rfl rfl rfl rfl rfl rfl fun G a w S => ?_
      refine sMove (iv s74) S (wG 6 false 94 rfl rfl rfl hc110) (.inl rfl) rfl rfl (lb rfl) fun a S => ?_
      exact leafL ⟨rfl, S⟩
    · refine fI 99 q139 [(97, .slice ad7 p0.Right.length cp8), (98, iv s74), (94, .bool (r103.2 != 0))] 11 [some 9, some 10, some 6] rfl rfl rfl rfl rfl rfl fun G a w S => ?_
      refine sIdxV (v := .slice ad7 p0.Right.length cp8) (k := .i64) (j := s74) S (wG 6 false 94 rfl rfl rfl hc110) rfl rfl rfl hq140 rfl (lb rfl) fun a S => ?_
      exact leafL ⟨rfl, S⟩
    · refine fI 100 (iv x111) [(99, q139), (94, .bool (r103.2 != 0))] 12 [some 11, some 6] rfl rfl rfl rfl rfl rfl fun G a w S => ?_
      refine sLoadV1 (vq := q139) 9 (iv x111) S (wG 6 false 94 rfl rfl rfl hc110) rfl rfl rfl rfl rfl (lb rfl) fun a S => ?_
      exact leafL ⟨rfl, S⟩
    · refine fI 101 (.pointer (some ⟨b10, 0, none⟩)) [(1, .pointer (some ⟨b10, 0, none⟩)), (94, .bool (r103.2 != 0))] 13 [none, some 6] rfl rfl rfl rfl rfl rfl fun G a w S => ?_
      refine sField (b := b10) (off := 0) 0 0 S (wG 6 false 94 rfl rfl rfl hc110) rfl rfl rfl rfl rfl (lb rfl) fun a S => ?_
      exact leafL ⟨rfl, S⟩
    · refine fI 102 (.slice ad5 p0.Left.length cp6) [(101, .pointer (some ⟨b10, 0, none⟩)), (94, .bool (r103.2 != 0))] 14 [some 13, some 6] rfl rfl rfl rfl rfl rfl fun G a w S => ?_
      refine sLoad1 (p := b10) (off := 0) (T := 30) (vs := [.slice ad5 p0.Left.length cp6, .slice ad7 p0.Right.length cp8]) 0 (.slice ad5 p0.Left.length cp6) S (wG 6 false 94 rfl rfl rfl hc110) rfl rfl rfl rfl rfl rfl (lb rfl) fun a S => ?_
      exact leafL ⟨rfl, S⟩
    · refine fI 103 (iv s74) [(6, iv s74), (94, .bool (r103.2 != 0))] 15 [none, some 6] rfl rfl rfl rfl rfl rfl fun G a w S => ?_
      refine sMove (iv s74) S (wG 6 false 94 rfl rfl rfl hc110) (.inl rfl) rfl rfl (lb rfl) fun a S => ?_
      exact leafL ⟨rfl, S⟩
    · refine fI 104 q142 [(102, .slice ad5 p0.Left.length cp6), (103, iv s74), (94, .bool (r103.2 != 0))] 16 [some 14, some 15, some 6] rfl rfl rfl rfl rfl rfl fun G a w S => ?_
      refine sIdxV (v := .slice ad5 p0.Left.length cp6) (k := .i64) (j := s74) S (wG 6 false 94 rfl rfl rfl hc110) rfl rfl rfl hq143 rfl (lb rfl) fun a S => ?_
      exact leafL ⟨rfl, S⟩
    · refine fI 105 (iv x116) [(104, q142), (94, .bool (r103.2 != 0))] 17 [some 16, some 6] rfl rfl rfl rfl rfl rfl fun G a w S => ?_
      refine sLoadV1 (vq := q142) 6 (iv x116) S (wG 6 false 94 rfl rfl rfl hc110) rfl rfl rfl rfl rfl (lb rfl) fun a S => ?_
      exact leafL ⟨rfl, S⟩
    · refine fI 106 (iv (w64 (x111 - x116))) [(100, iv x111), (105, iv x116), (94, .bool (r103.2 != 0))] 18 [some 12, some 17, some 6] rfl rfl rfl rfl rfl rfl fun G a w S => ?_
      refine sBin (iv (w64 (x111 - x116))) S (wG 6 false 94 rfl rfl rfl hc110) rfl rfl rfl (bSub _ _ _ _ x111 x116) rfl (lb rfl) fun a S => ?_
      exact leafL ⟨rfl, S⟩
    · refine fI 107 (.bool (r93.1 != (w64 (x111 - x116)))) [(95, iv r93.1), (106, iv (w64 (x111 - x116))), (94, .bool (r103.2 != 0))] 19 [some 7, some 18, some 6] rfl rfl rfl rfl rfl rfl fun G a w S => ?_
      refine sBin (.bool (r93.1 != (w64 (x111 - x116)))) S (wG 6 false 94 rfl rfl rfl hc110) rfl rfl rfl (bNe _ _ _ _ .i64 r93.1 (w64 (x111 - x116))) rfl (lb rfl) fun a S => ?_
      exact leafL ⟨rfl, S⟩
    · refine fI 108 (.bool (r93.1 != (w64 (x111 - x116)))) [(94, .bool (r103.2 != 0)), (107, .bool (r93.1 != (w64 (x111 - x116))))] 20 [some 6, some 19] rfl rfl rfl rfl rfl rfl fun G a w S => ?_
      refine sPickF (.bool (r93.1 != (w64 (x111 - x116)))) S (wN rfl) rfl rfl hc110 rfl rfl (lb rfl) fun a S => ?_
      exact leafL ⟨rfl, S⟩
    · refine fI 109 (.bool (r93.1 != (w64 (x111 - x116)))) [(108, .bool (r93.1 != (w64 (x111 - x116))))] 21 [some 20] rfl rfl rfl rfl rfl rfl fun G a w S => ?_
      refine sMove (.bool (r93.1 != (w64 (x111 - x116)))) S (wN rfl) (.inl rfl) rfl rfl (lb rfl) fun a S => ?_
      exact leafL ⟨rfl, S⟩
    · refine fI 110 (iv r103.1) [(9, iv r103.1), (109, .bool (r93.1 != (w64 (x111 - x116))))] 22 [none, some 21] rfl rfl rfl rfl rfl rfl fun G a w S => ?_
      refine sMove (iv r103.1) S (wG 21 false 109 rfl rfl rfl hc121) (.inl rfl) rfl rfl (lb rfl) fun a S => ?_
      exact leafL ⟨rfl, S⟩
    · refine fI 111 (.pointer (some ⟨b10, 1, none⟩)) [(1, .pointer (some ⟨b10, 0, none⟩)), (109, .bool (r93.1 != (w64 (x111 - x116))))] 23 [none, some 21] rfl rfl rfl rfl rfl rfl fun G a w S => ?_
      refine sField (b := b10) (off := 0) 1 1 S (wG 21 false 109 rfl rfl rfl hc121) rfl rfl rfl rfl rfl (lb rfl) fun a S => ?_
      exact leafL ⟨rfl, S⟩
    · refine fI 112 (.slice ad7 p0.Right.length cp8) [(111, .pointer (some ⟨b10, 1, none⟩)), (109, .bool (r93.1 != (w64 (x111 - x116))))] 24 [some 23, some 21] rfl rfl rfl rfl rfl rfl fun G a w S => ?_
      refine sLoad1 (p := b10) (off := 1) (T := 30) (vs := [.slice ad5 p0.Left.length cp6, .slice ad7 p0.Right.length cp8]) 0 (.slice ad7 p0.Right.length cp8) S (wG 21 false 109 rfl rfl rfl hc121) rfl rfl rfl rfl rfl rfl (lb rfl) fun a S => ?_
      exact leafL ⟨rfl, S⟩
    · refine fI 113 (iv s74) [(6, iv s74), (109, .bool (r93.1 != (w64 (x111 - x116))))] 25 [none, some 21] rfl rfl rfl rfl rfl rfl fun G a w S => ?_
      refine sMove (iv s74) S (wG 21 false 109 rfl rfl rfl hc121) (.inl rfl) rfl rfl (lb rfl) fun a S => ?_
      exact leafL ⟨rfl, S⟩
    · refine fI 114 (iv (w64 (s74 + 1))) [(113, iv s74), (109, .bool (r93.1 != (w64 (x111 - x116))))] 26 [some 25, some 21] rfl rfl rfl rfl rfl rfl fun G a w S => ?_
      refine sBin (iv (w64 (s74 + 1))) S (wG 21 false 109 rfl rfl rfl hc121) rfl rfl rfl (bAdd _ _ _ _ s74 1) rfl (lb rfl) fun a S => ?_
      exact leafL ⟨rfl, S⟩
    · refine fI 115 q145 [(112, .slice ad7 p0.Right.length cp8), (114, iv (w64 (s74 + 1))), (109, .bool (r93.1 != (w64 (x111 - x116))))] 27 [some 24, some 26, some 21] rfl rfl rfl rfl rfl rfl fun G a w S => ?_
      refine sIdxV (v := .slice ad7 p0.Right.length cp8) (k := .i64) (j := w64 (s74 + 1)) S (wG 21 false 109 rfl rfl rfl hc121) rfl rfl rfl hq146 rfl (lb rfl) fun a S => ?_
      exact leafL ⟨rfl, S⟩
    · refine fI 116 (iv x128) [(115, q145), (109, .bool (r93.1 != (w64 (x111 - x116))))] 28 [some 27, some 21] rfl rfl rfl rfl rfl rfl fun G a w S => ?_
      refine sLoadV1 (vq := q145) 3 (iv x128) S (wG 21 false 109 rfl rfl rfl hc121) rfl rfl rfl rfl rfl (lb rfl) fun a S => ?_
      exact leafL ⟨rfl, S⟩
    · refine fI 117 (.pointer (some ⟨b10, 0, none⟩)) [(1, .pointer (some ⟨b10, 0, none⟩)), (109, .bool (r93.1 != (w64 (x111 - x116))))] 29 [none, some 21] rfl rfl rfl rfl rfl rfl fun G a w S => ?_
      refine sField (b := b10) (off := 0) 0 0 S (wG 21 false 109 rfl rfl rfl hc121) rfl rfl rfl rfl rfl (lb rfl) fun a S => ?_
      exact leafL ⟨rfl, S⟩
    · refine fI 118 (.slice ad5 p0.Left.length cp6) [(117, .pointer (some ⟨b10, 0, none⟩)), (109, .bool (r93.1 != (w64 (x111 - x116))))] 30 [some 29, some 21] rfl rfl rfl rfl rfl rfl fun G a w S => ?_
      refine sLoad1 (p := b10) (off := 0) (T := 30) (vs := [.slice ad5 p0.Left.length cp6, .slice ad7 p0.Right.length cp8]) 0 (.slice ad5 p0.Left.length cp6) S (wG 21 false 109 rfl rfl rfl hc121) rfl rfl rfl rfl rfl rfl (lb rfl) fun a S => ?_
      exact leafL ⟨rfl, S⟩
    · refine fI 119 (iv s74) [(6, iv s74), (109, .bool (r93.1 != (w64 (x111 - x116))))] 31 [none, some 21] rfl rfl rfl rfl rfl rfl fun G a w S => ?_
      refine sMove (iv s74) S (wG 21 false 109 rfl rfl rfl hc121) (.inl rfl) rfl rfl (lb rfl) fun a S => ?_
      exact leafL ⟨rfl, S⟩
    · refine fI 120 (iv (w64 (s74 + 1))) [(119, iv s74), (109, .bool (r93.1 != (w64 (x111 - x116))))] 32 [some 31, some 21] rfl rfl rfl rfl rfl rfl fun G a w S => ?_
      refine sBin (iv (w64 (s74 + 1))) S (wG 21 false 109 rfl rfl rfl hc121) rfl rfl rfl (bAdd _ _ _ _ s74 1) rfl (lb rfl) fun a S => ?_
      exact leafL ⟨rfl, S⟩
    · refine fI 121 q148 [(118, .slice ad5 p0.Left.length cp6), (120, iv (w64 (s74 + 1))), (109, .bool (r93.1 != (w64 (x111 - x116))))] 33 [some 30, some 32, some 21] rfl rfl rfl rfl rfl rfl fun G a w S => ?_
      refine sIdxV (v := .slice ad5 p0.Left.length cp6) (k := .i64) (j := w64 (s74 + 1)) S (wG 21 false 109 rfl rfl rfl hc121) rfl rfl rfl hq149 rfl (lb rfl) fun a S => ?_
      exact leafL ⟨rfl, S⟩
    · refine fI 122 (iv x133) [(121, q148), (109, .bool (r93.1 != (w64 (x111 - x116))))] 34 [some 33, some 21] rfl rfl rfl rfl rfl rfl fun G a w S => ?_
      refine sLoadV1 (vq := q148) 0 (iv x133) S (wG 21 false 109 rfl rfl rfl hc121) rfl rfl rfl rfl rfl (lb rfl) fun a S => ?_
      exact leafL ⟨rfl, S⟩
    · refine fI 123 (iv (w64 (x128 - x133))) [(116, iv x128), (122, iv x133), (109, .bool (r93.1 != (w64 (x111 - x116))))] 35 [some 28, some 34, some 21] rfl rfl rfl rfl rfl rfl fun G a w S => ?_
      refine sBin (iv (w64 (x128 - x133))) S (wG 21 false 109 rfl rfl rfl hc121) rfl rfl rfl (bSub _ _ _ _ x128 x133) rfl (lb rfl) fun a S => ?_
      exact leafL ⟨rfl, S⟩
    · refine fI 124 (.bool (r103.1 != (w64 (x128 - x133)))) [(110, iv r103.1), (123, iv (w64 (x128 - x133))), (109, .bool (r93.1 != (w64 (x111 - x116))))] 36 [some 22, some 35, some 21] rfl rfl rfl rfl rfl rfl fun G a w S => ?_
      refine sBin (.bool (r103.1 != (w64 (x128 - x133)))) S (wG 21 false 109 rfl rfl rfl hc121) rfl rfl rfl (bNe _ _ _ _ .i64 r103.1 (w64 (x128 - x133))) rfl (lb rfl) fun a S => ?_
      exact leafL ⟨rfl, S⟩
    · refine fI 125 (.bool (r103.1 != (w64 (x128 - x133)))) [(109, .bool (r93.1 != (w64 (x111 - x116)))), (124, .bool (r103.1 != (w64 (x128 - x133))))] 37 [some 21, some 36] rfl rfl rfl rfl rfl rfl fun G a w S => ?_
      refine sPickF (.bool (r103.1 != (w64 (x128 - x133)))) S (wN rfl) rfl rfl hc121 rfl rfl (lb rfl) fun a S => ?_
      exact leafL ⟨rfl, S⟩
    · refine fI 126 (.bool (r103.1 != (w64 (x128 - x133)))) [(125, .bool (r103.1 != (w64 (x128 - x133))))] 38 [some 37] rfl rfl rfl rfl rfl rfl fun G a w S => ?_
      refine sMove (.bool (r103.1 != (w64 (x128 - x133)))) S (wN rfl) (.inl rfl) rfl rfl (lb rfl) fun a S => ?_
      exact leafL ⟨rfl, S⟩
    · refine fI 127 undef [(4, .pointer (some ⟨b34, 0, none⟩)), (126, .bool (r103.1 != (w64 (x128 - x133))))] 39 [none, some 38] rfl rfl rfl rfl rfl rfl fun G a w S => ?_
      refine sSkip 38 false 126 127 S rfl rfl rfl hc138 rfl (lb rfl) fun a S => ?_
      exact leafL ⟨rfl, S⟩
    · refine fI 128 undef [(127, undef), (126, .bool (r103.1 != (w64 (x128 - x133))))] 40 [some 39, some 38] rfl rfl rfl rfl rfl rfl fun G a w S => ?_
      refine sSkip 38 false 126 128 S rfl rfl rfl hc138 rfl (lb rfl) fun a S => ?_
      exact leafL ⟨rfl, S⟩
    · refine fI 129 undef [(6, iv s74), (126, .bool (r103.1 != (w64 (x128 - x133))))] 41 [none, some 38] rfl rfl rfl rfl rfl rfl fun G a w S => ?_
      refine sSkip 38 false 126 129 S rfl rfl rfl hc138 rfl (lb rfl) fun a S => ?_
      exact leafL ⟨rfl, S⟩
    · refine fI 130 undef [(128, undef), (129, undef), (126, .bool (r103.1 != (w64 (x128 - x133))))] 42 [some 40, some 41, some 38] rfl rfl rfl rfl rfl rfl fun G a w S => ?_
      refine sSkip 38 false 126 130 S rfl rfl rfl hc138 rfl (lb rfl) fun a S => ?_
      exact leafL ⟨rfl, S⟩
    · refine fI 131 undef [(130, undef), (126, .bool (r103.1 != (w64 (x128 - x133))))] 43 [some 42, some 38] rfl rfl rfl rfl rfl rfl fun G a w S => ?_
      refine sSkip 38 false 126 131 S rfl rfl rfl hc138 rfl (lb rfl) fun a S => ?_
      exact leafL ⟨rfl, S⟩
    · refine fI 132 undef [(131, undef), (126, .bool (r103.1 != (w64 (x128 - x133))))] 44 [some 43, some 38] rfl rfl rfl rfl rfl rfl fun G a w S => ?_
      refine sSkip 38 false 126 132 S rfl rfl rfl hc138 rfl (lb rfl) fun a S => ?_
      exact leafL ⟨rfl, S⟩
    · refine fI 133 undef [(6, iv s74), (126, .bool (r103.1 != (w64 (x128 - x133))))] 45 [none, some 38] rfl rfl rfl rfl rfl rfl fun G a w S => ?_
      refine sSkip 38 false 126 133 S rfl rfl rfl hc138 rfl (lb rfl) fun a S => ?_
      exact leafL ⟨rfl, S⟩
    · refine fI 134 undef [(133, undef), (126, .bool (r103.1 != (w64 (x128 - x133))))] 46 [some 45, some 38] rfl rfl rfl rfl rfl rfl fun G a w S => ?_
      refine sSkip 38 false 126 134 S rfl rfl rfl hc138 rfl (lb rfl) fun a S => ?_
      exact leafL ⟨rfl, S⟩
    · refine fI 135 undef [(134, undef), (126, .bool (r103.1 != (w64 (x128 - x133))))] 47 [some 46, some 38] rfl rfl rfl rfl rfl rfl fun G a w S => ?_
      refine sSkip 38 false 126 135 S rfl rfl rfl hc138 rfl (lb rfl) fun a S => ?_
      exact leafL ⟨rfl, S⟩
    · refine fI 136 undef [(132, undef), (135, undef), (126, .bool (r103.1 != (w64 (x128 - x133))))] 48 [some 44, some 47, some 38] rfl rfl rfl rfl rfl rfl fun G a w S => ?_
      refine sSkip 38 false 126 136 S rfl rfl rfl hc138 rfl (lb rfl) fun a S => ?_
      exact leafL ⟨rfl, S⟩
    · refine fI 137 (.bool true) [(126, .bool (r103.1 != (w64 (x128 - x133)))), (136, undef)] 49 [some 38, some 48] rfl rfl rfl rfl rfl rfl fun G a w S => ?_
      refine sPickT (.bool true) S (wN rfl) rfl rfl hc138 rfl rfl (lb rfl) fun a S => ?_
      exact leafL ⟨rfl, S⟩
    exact leafT (⟨true, Option.some.inj h, S.fix [0, 1] [20, 21, 22] (by decide) rfl rfl rfl⟩)
  obtain ⟨z156, hx157, h⟩ := bindSome h
  obtain ⟨q158, hq159, S⟩ := pIdx (P := Tryd.prog) (r := (rI .i64)) (v := .slice ad7 p0.Right.length cp8) (xs := p0.Right) (j := s74) 28 3 9 S Tryd.underlying28 rfl rfl hx112
  obtain ⟨u160, S⟩ := pLoad (r := (rI .i64)) (q := q158) (x := x111) 0 S rfl
  obtain rfl : u160 = iv x111 := S.mem.know (i := 1) (e := fRep (rI .i64) (u160) x111) rfl
  obtain ⟨q161, hq162, S⟩ := pIdx (P := Tryd.prog) (r := (rI .i64)) (v := .slice ad5 p0.Left.length cp6) (xs := p0.Left) (j := s74) 28 3 11 S Tryd.underlying28 rfl rfl hx117
  obtain ⟨u163, S⟩ := pLoad (r := (rI .i64)) (q := q161) (x := x116) 0 S rfl
  obtain rfl : u163 = iv x116 := S.mem.know (i := 1) (e := fRep (rI .i64) (u163) x116) rfl
  obtain ⟨q164, hq165, S⟩ := pIdx (P := Tryd.prog) (r := (rI .i64)) (v := .slice ad7 p0.Right.length cp8) (xs := p0.Right) (j := w64 (s74 + 1)) 28 3 15 S Tryd.underlying28 rfl rfl hx129
  obtain ⟨u166, S⟩ := pLoad (r := (rI .i64)) (q := q164) (x := x128) 0 S rfl
  obtain rfl : u166 = iv x128 := S.mem.know (i := 1) (e := fRep (rI .i64) (u166) x128) rfl
  obtain ⟨q167, hq168, S⟩ := pIdx (P := Tryd.prog) (r := (rI .i64)) (v := .slice ad5 p0.Left.length cp6) (xs := p0.Left) (j := w64 (s74 + 1)) 28 3 17 S Tryd.underlying28 rfl rfl hx134
  obtain ⟨u169, S⟩ := pLoad (r := (rI .i64)) (q := q167) (x := x133) 0 S rfl
  obtain rfl : u169 = iv x133 := S.mem.know (i := 1) (e := fRep (rI .i64) (u169) x133) rfl
  obtain ⟨q170, hq171, S⟩ := pIdx (P := Tryd.prog) (r := r_api_Row) (v := .slice ad32 r27.1.Rows.length cp33) (xs := r27.1.Rows) (j := s74) 38 54 22 S Tryd.underlying38 rfl rfl hx85
  obtain ⟨q172, hq173, S⟩ := pFld (P := Tryd.prog) (r := r_api_Row) (s2 := rB) (g := (·.Back)) (q := q170) (z := x84) 54 0 0 0 S rfl rfl comp_api_Row_Back
  obtain ⟨u174, S⟩ := pLoad (r := rB) (q := q172) (x := x84.Back) 0 S rfl
  obtain rfl : u174 = .bool x84.Back := S.mem.know (i := 1) (e := fRep rB (u174) x84.Back) rfl
  refine sDraw (nf := []) (W := [(0, 88, iv r93.2), (1, 89, .bool (r93.2 != 0)), (2, 90, .bool (r93.2 != 0)), (3, 91, iv r103.2), (4, 92, .bool (r103.2 != 0)), (5, 93, .bool (r103.2 != 0)), (6, 94, .bool (r103.2 != 0)), (7, 95, iv r93.1), (8, 96, .pointer (some ⟨b10, 1, none⟩)), (9, 97, .slice ad7 p0.Right.length cp8), (10, 98, iv s74), (11, 99, q158), (12, 100, iv x111), (13, 101, .pointer (some ⟨b10, 0, none⟩)), (14, 102, .slice ad5 p0.Left.length cp6), (15, 103, iv s74), (16, 104, q161), (17, 105, iv x116), (18, 106, iv (w64 (x111 - x116))), (19, 107, .bool (r93.1 != (w64 (x111 - x116)))), (20, 108, .bool (r93.1 != (w64 (x111 - x116)))), (21, 109, .bool (r93.1 != (w64 (x111 - x116)))), (22, 110, iv r103.1), (23, 111, .pointer (some ⟨b10, 1, none⟩)), (24, 112, .slice ad7 p0.Right.length cp8), (25, 113, iv s74), (26, 114, iv (w64 (s74 + 1))), (27, 115, q164), (28, 116, iv x128), (29, 117, .pointer (some ⟨b10, 0, none⟩)), (30, 118, .slice ad5 p0.Left.length cp6), (31, 119, iv s74), (32, 120, iv (w64 (s74 + 1))), (33, 121, q167), (34, 122, iv x133), (35, 123, iv (w64 (x128 - x133))), (36, 124, .bool (r103.1 != (w64 (x128 - x133)))), (37, 125, .bool (r103.1 != (w64 (x128 - x133)))), (38, 126, .bool (r103.1 != (w64 (x128 - x133)))), (39, 127, .pointer (some ⟨b34, 1, none⟩)), (40, 128, .slice ad32 r27.1.Rows.length cp33), (41, 129, iv s74), (42, 130, q170), (43, 131, q172), (44, 132, .bool x84.Back), (45, 133, iv s74), (46, 134, iv z156), (47, 135, .bool (z156 == 0)), (48, 136, .bool (x84.Back != (z156 == 0))), (49, 137, .bool (x84.Back != (z156 == 0)))]) rfl S ?_
  refine node_by (A := anc_raddlelaw37_PieceWidths_1) (nf := []) (Y := []) (W := [(0, 88, iv r93.2), (1, 89, .bool (r93.2 != 0)), (2, 90, .bool (r93.2 != 0)), (3, 91, iv r103.2), (4, 92, .bool (r103.2 != 0)), (5, 93, .bool (r103.2 != 0)), (6, 94, .bool (r103.2 != 0)), (7, 95, iv r93.1), (8, 96, .pointer (some ⟨b10, 1, none⟩)), (9, 97, .slice ad7 p0.Right.length cp8), (10, 98, iv s74), (11, 99, q158), (12, 100, iv x111), (13, 101, .pointer (some ⟨b10, 0, none⟩)), (14, 102, .slice ad5 p0.Left.length cp6), (15, 103, iv s74), (16, 104, q161), (17, 105, iv x116), (18, 106, iv (w64 (x111 - x116))), (19, 107, .bool (r93.1 != (w64 (x111 - x116)))), (20, 108, .bool (r93.1 != (w64 (x111 - x116)))), (21, 109, .bool (r93.1 != (w64 (x111 - x116)))), (22, 110, iv r103.1), (23, 111, .pointer (some ⟨b10, 1, none⟩)), (24, 112, .slice ad7 p0.Right.length cp8), (25, 113, iv s74), (26, 114, iv (w64 (s74 + 1))), (27, 115, q164), (28, 116, iv x128), (29, 117, .pointer (some ⟨b10, 0, none⟩)), (30, 118, .slice ad5 p0.Left.length cp6), (31, 119, iv s74), (32, 120, iv (w64 (s74 + 1))), (33, 121, q167), (34, 122, iv x133), (35, 123, iv (w64 (x128 - x133))), (36, 124, .bool (r103.1 != (w64 (x128 - x133)))), (37, 125, .bool (r103.1 != (w64 (x128 - x133)))), (38, 126, .bool (r103.1 != (w64 (x128 - x133)))), (39, 127, .pointer (some ⟨b34, 1, none⟩)), (40, 128, .slice ad32 r27.1.Rows.length cp33), (41, 129, iv s74), (42, 130, q170), (43, 131, q172), (44, 132, .bool x84.Back), (45, 133, iv s74), (46, 134, iv z156), (47, 135, .bool (z156 == 0)), (48, 136, .bool (x84.Back != (z156 == 0))), (49, 137, .bool (x84.Back != (z156 == 0)))]) 50 (by kernel_rfl) (by kernel_rfl) (by kernel_rfl) (by kernel_rfl) (by kernel_rfl) [0, 1, 2, 3, 4, 5, 6, 7, 8, 9, 10, 11, 12, 13, 14, 15, 16, 17, 18, 19, 20, 21, 22, 23, 24, 25, 26, 27, 28, 29, 30, 31, 32, 33, 34, 35, 36, 37, 38, 39, 40, 41, 42, 43, 44, 45, 46, 47, 48, 49] (by kernel_rfl) (by decide) (by decide) (aF 0 49 (by decide) ?_ (aF 1 48 (by decide) ?_ (aF 2 47 (by decide) ?_ (aF 3 46 (by decide) ?_ (aF 4 45 (by decide) ?_ (aF 5 44 (by decide) ?_ (aF 6 43 (by decide) ?_ (aF 7 42 (by decide) ?_ (aF 8 41 (by decide) ?_ (aF 9 40 (by decide) ?_ (aF 10 39 (by decide) ?_ (aF 11 38 (by decide) ?_ (aF 12 37 (by decide) ?_ (aF 13 36 (by decide) ?_ (aF 14 35 (by decide) ?_ (aF 15 34 (by decide) ?_ (aF 16 33 (by decide) ?_ (aF 17 32 (by decide) ?_ (aF 18 31 (by decide) ?_ (aF 19 30 (by decide) ?_ (aF 20 29 (by decide) ?_ (aF 21 28 (by decide) ?_ (aF 22 27 (by decide) ?_ (aF 23 26 (by decide) ?_ (aF 24 25 (by decide) ?_ (aF 25 24 (by decide) ?_ (aF 26 23 (by decide) ?_ (aF 27 22 (by decide) ?_ (aF 28 21 (by decide) ?_ (aF 29 20 (by decide) ?_ (aF 30 19 (by decide) ?_ (aF 31 18 (by decide) ?_ (aF 32 17 (by decide) ?_ (aF 33 16 (by decide) ?_ (aF 34 15 (by decide) ?_ (aF 35 14 (by decide) ?_ (aF 36 13 (by decide) ?_ (aF 37 12 (by decide) ?_ (aF 38 11 (by decide) ?_ (aF 39 10 (by decide) ?_ (aF 40 9 (by decide) ?_ (aF 41 8 (by decide) ?_ (aF 42 7 (by decide) ?_ (aF 43 6 (by decide) ?_ (aF 44 5 (by decide) ?_ (aF 45 4 (by decide) ?_ (aF 46 3 (by decide) ?_ (aF 47 2 (by decide) ?_ (aF 48 1 (by decide) ?_ (aF 49 0 (by decide) ?_ (trivial))))))))))))))))))))))))))))))))))))))))))))))))))) [(1, .pointer (some ⟨b10, 0, none⟩)), (3, .bool r12), (4, .pointer (some ⟨b34, 0, none⟩)), (6, iv s74), (91, iv r103.2), (92, .bool (r103.2 != 0)), (95, iv r93.1), (96, .pointer (some ⟨b10, 1, none⟩)), (97, .slice ad7 p0.Right.length cp8), (98, iv s74), (99, q158), (100, iv x111), (101, .pointer (some ⟨b10, 0, none⟩)), (102, .slice ad5 p0.Left.length cp6), (103, iv s74), (104, q161), (105, iv x116), (106, iv (w64 (x111 - x116))), (107, .bool (r93.1 != (w64 (x111 - x116)))), (110, iv r103.1), (111, .pointer (some ⟨b10, 1, none⟩)), (112, .slice ad7 p0.Right.length cp8), (113, iv s74), (114, iv (w64 (s74 + 1))), (115, q164), (116, iv x128), (117, .pointer (some ⟨b10, 0, none⟩)), (118, .slice ad5 p0.Left.length cp6), (119, iv s74), (120, iv (w64 (s74 + 1))), (121, q167), (122, iv x133), (123, iv (w64 (x128 - x133))), (124, .bool (r103.1 != (w64 (x128 - x133)))), (127, .pointer (some ⟨b34, 1, none⟩)), (128, .slice ad32 r27.1.Rows.length cp33), (129, iv s74), (130, q170), (131, q172), (132, .bool x84.Back), (133, iv s74), (134, iv z156), (135, .bool (z156 == 0)), (136, .bool (x84.Back != (z156 == 0))), (137, .bool (x84.Back != (z156 == 0)))] (fin_of [none, none, none, none, some 3, some 4, some 7, some 8, some 9, some 10, some 11, some 12, some 13, some 14, some 15, some 16, some 17, some 18, some 19, some 22, some 23, some 24, some 25, some 26, some 27, some 28, some 29, some 30, some 31, some 32, some 33, some 34, some 35, some 36, some 39, some 40, some 41, some 42, some 43, some 44, some 45, some 46, some 47, some 48, some 49] rfl (by kernel_rfl) (by kernel_rfl)) (fun _ a w S => ?_)
  · refine fI 88 (iv r93.2) [(8, iv r93.2)] 0 [none] rfl rfl rfl rfl rfl rfl fun G a w S => ?_
    refine sMove (iv r93.2) S (wN rfl) (.inl rfl) rfl rfl (lb rfl) fun a S => ?_
    exact leafL ⟨rfl, S⟩
  · refine fI 89 (.bool (r93.2 != 0)) [(88, iv r93.2)] 1 [some 0] rfl rfl rfl rfl rfl rfl fun G a w S => ?_
    refine sBin (.bool (r93.2 != 0)) S (wN rfl) rfl rfl rfl (bNe _ _ _ _ .i64 r93.2 0) rfl (lb rfl) fun a S => ?_
    exact leafL ⟨rfl, S⟩
  · refine fI 90 (.bool (r93.2 != 0)) [(89, .bool (r93.2 != 0))] 2 [some 1] rfl rfl rfl rfl rfl rfl fun G a w S => ?_
    refine sMove (.bool (r93.2 != 0)) S (wN rfl) (.inl rfl) rfl rfl (lb rfl) fun a S => ?_
    exact leafL ⟨rfl, S⟩
  · refine fI 91 (iv r103.2) [(10, iv r103.2), (90, .bool (r93.2 != 0))] 3 [none, some 2] rfl rfl rfl rfl rfl rfl fun G a w S => ?_
    refine sMove (iv r103.2) S (wG 2 false 90 rfl rfl rfl hc109) (.inl rfl) rfl rfl (lb rfl) fun a S => ?_
    exact leafL ⟨rfl, S⟩
  · refine fI 92 (.bool (r103.2 != 0)) [(91, iv r103.2), (90, .bool (r93.2 != 0))] 4 [some 3, some 2] rfl rfl rfl rfl rfl rfl fun G a w S => ?_
    refine sBin (.bool (r103.2 != 0)) S (wG 2 false 90 rfl rfl rfl hc109) rfl rfl rfl (bNe _ _ _ _ .i64 r103.2 0) rfl (lb rfl) fun a S => ?_
    exact leafL ⟨rfl, S⟩
  · refine fI 93 (.bool (r103.2 != 0)) [(90, .bool (r93.2 != 0)), (92, .bool (r103.2 != 0))] 5 [some 2, some 4] rfl rfl rfl rfl rfl rfl fun G a w S => ?_
    refine sPickF (.bool (r103.2 != 0)) S (wN rfl) rfl rfl hc109 rfl rfl (lb rfl) fun a S => ?_
    exact leafL ⟨rfl, S⟩
  · refine fI 94 (.bool (r103.2 != 0)) [(93, .bool (r103.2 != 0))] 6 [some 5] rfl rfl rfl rfl rfl rfl fun G a w S => ?_
    refine sMove (.bool (r103.2 != 0)) S (wN rfl) (.inl rfl) rfl rfl (lb rfl) fun a S => ?_
    exact leafL ⟨rfl, S⟩
  · refine fI 95 (iv r93.1) [(7, iv r93.1), (94, .bool (r103.2 != 0))] 7 [none, some 6] rfl rfl rfl rfl rfl rfl fun G a w S => ?_
    refine sMove (iv r93.1) S (wG 6 false 94 rfl rfl rfl hc110) (.inl rfl) rfl rfl (lb rfl) fun a S => ?_
    exact leafL ⟨rfl, S⟩
  · refine fI 96 (.pointer (some ⟨b10, 1, none⟩)) [(1, .pointer (some ⟨b10, 0, none⟩)), (94, .bool (r103.2 != 0))] 8 [none, some 6] rfl rfl rfl rfl rfl rfl fun G a w S => ?_
    refine sField (b := b10) (off := 0) 1 1 S (wG 6 false 94 rfl rfl rfl hc110) rfl rfl rfl rfl rfl (lb rfl) fun a S => ?_
    exact leafL ⟨rfl, S⟩
  · refine fI 97 (.slice ad7 p0.Right.length cp8) [(96, .pointer (some ⟨b10, 1, none⟩)), (94, .bool (r103.2 != 0))] 9 [some 8, some 6] rfl rfl rfl rfl rfl rfl fun G a w S => ?_
    refine sLoad1 (p := b10) (off := 1) (T := 30) (vs := [.slice ad5 p0.Left.length cp6, .slice ad7 p0.Right.length cp8]) 0 (.slice ad7 p0.Right.length cp8) S (wG 6 false 94 rfl rfl rfl hc110) rfl rfl rfl rfl rfl rfl (lb rfl) fun a S => ?_
    exact leafL ⟨rfl, S⟩
  · refine fI 98 (iv s74) [(6, iv s74), (94, .bool (r103.2 != 0))] 10 [none, some 6] rfl rfl rfl rfl rfl rfl fun G a w S => ?_
    refine sMove (iv s74) S (wG 6 false 94 rfl rfl rfl hc110) (.inl rfl) rfl rfl (lb rfl) fun a S => ?_
    exact leafL ⟨rfl, S⟩
  · refine fI 99 q158 [(97, .slice ad7 p0.Right.length cp8), (98, iv s74), (94, .bool (r103.2 != 0))] 11 [some 9, some 10, some 6] rfl rfl rfl rfl rfl rfl fun G a w S => ?_
    refine sIdxV (v := .slice ad7 p0.Right.length cp8) (k := .i64) (j := s74) S (wG 6 false 94 rfl rfl rfl hc110) rfl rfl rfl hq159 rfl (lb rfl) fun a S => ?_
    exact leafL ⟨rfl, S⟩
  · refine fI 100 (iv x111) [(99, q158), (94, .bool (r103.2 != 0))] 12 [some 11, some 6] rfl rfl rfl rfl rfl rfl fun G a w S => ?_
    refine sLoadV1 (vq := q158) 13 (iv x111) S (wG 6 false 94 rfl rfl rfl hc110) rfl rfl rfl rfl rfl (lb rfl) fun a S => ?_
    exact leafL ⟨rfl, S⟩
  · refine fI 101 (.pointer (some ⟨b10, 0, none⟩)) [(1, .pointer (some ⟨b10, 0, none⟩)), (94, .bool (r103.2 != 0))] 13 [none, some 6] rfl rfl rfl rfl rfl rfl fun G a w S => ?_
    refine sField (b := b10) (off := 0) 0 0 S (wG 6 false 94 rfl rfl rfl hc110) rfl rfl rfl rfl rfl (lb rfl) fun a S => ?_
    exact leafL ⟨rfl, S⟩
  · refine fI 102 (.slice ad5 p0.Left.length cp6) [(101, .pointer (some ⟨b10, 0, none⟩)), (94, .bool (r103.2 != 0))] 14 [some 13, some 6] rfl rfl rfl rfl rfl rfl fun G a w S => ?_
    refine sLoad1 (p := b10) (off := 0) (T := 30) (vs := [.slice ad5 p0.Left.length cp6, .slice ad7 p0.Right.length cp8]) 0 (.slice ad5 p0.Left.length cp6) S (wG 6 false 94 rfl rfl rfl hc110) rfl rfl rfl rfl rfl rfl (lb rfl) fun a S => ?_
    exact leafL ⟨rfl, S⟩
  · refine fI 103 (iv s74) [(6, iv s74), (94, .bool (r103.2 != 0))] 15 [none, some 6] rfl rfl rfl rfl rfl rfl fun G a w S => ?_
    refine sMove (iv s74) S (wG 6 false 94 rfl rfl rfl hc110) (.inl rfl) rfl rfl (lb rfl) fun a S => ?_
    exact leafL ⟨rfl, S⟩
  · refine fI 104 q161 [(102, .slice ad5 p0.Left.length cp6), (103, iv s74), (94, .bool (r103.2 != 0))] 16 [some 14, some 15, some 6] rfl rfl rfl rfl rfl rfl fun G a w S => ?_
    refine sIdxV (v := .slice ad5 p0.Left.length cp6) (k := .i64) (j := s74) S (wG 6 false 94 rfl rfl rfl hc110) rfl rfl rfl hq162 rfl (lb rfl) fun a S => ?_
    exact leafL ⟨rfl, S⟩
  · refine fI 105 (iv x116) [(104, q161), (94, .bool (r103.2 != 0))] 17 [some 16, some 6] rfl rfl rfl rfl rfl rfl fun G a w S => ?_
    refine sLoadV1 (vq := q161) 10 (iv x116) S (wG 6 false 94 rfl rfl rfl hc110) rfl rfl rfl rfl rfl (lb rfl) fun a S => ?_
    exact leafL ⟨rfl, S⟩
  · refine fI 106 (iv (w64 (x111 - x116))) [(100, iv x111), (105, iv x116), (94, .bool (r103.2 != 0))] 18 [some 12, some 17, some 6] rfl rfl rfl rfl rfl rfl fun G a w S => ?_
    refine sBin (iv (w64 (x111 - x116))) S (wG 6 false 94 rfl rfl rfl hc110) rfl rfl rfl (bSub _ _ _ _ x111 x116) rfl (lb rfl) fun a S => ?_
    exact leafL ⟨rfl, S⟩
  · refine fI 107 (.bool (r93.1 != (w64 (x111 - x116)))) [(95, iv r93.1), (106, iv (w64 (x111 - x116))), (94, .bool (r103.2 != 0))] 19 [some 7, some 18, some 6] rfl rfl rfl rfl rfl rfl fun G a w S => ?_
    refine sBin (.bool (r93.1 != (w64 (x111 - x116)))) S (wG 6 false 94 rfl rfl rfl hc110) rfl rfl rfl (bNe _ _ _ _ .i64 r93.1 (w64 (x111 - x116))) rfl (lb rfl) fun a S => ?_
    exact leafL ⟨rfl, S⟩
  · refine fI 108 (.bool (r93.1 != (w64 (x111 - x116)))) [(94, .bool (r103.2 != 0)), (107, .bool (r93.1 != (w64 (x111 - x116))))] 20 [some 6, some 19] rfl rfl rfl rfl rfl rfl fun G a w S => ?_
    refine sPickF (.bool (r93.1 != (w64 (x111 - x116)))) S (wN rfl) rfl rfl hc110 rfl rfl (lb rfl) fun a S => ?_
    exact leafL ⟨rfl, S⟩
  · refine fI 109 (.bool (r93.1 != (w64 (x111 - x116)))) [(108, .bool (r93.1 != (w64 (x111 - x116))))] 21 [some 20] rfl rfl rfl rfl rfl rfl fun G a w S => ?_
    refine sMove (.bool (r93.1 != (w64 (x111 - x116)))) S (wN rfl) (.inl rfl) rfl rfl (lb rfl) fun a S => ?_
    exact leafL ⟨rfl, S⟩
  · refine fI 110 (iv r103.1) [(9, iv r103.1), (109, .bool (r93.1 != (w64 (x111 - x116))))] 22 [none, some 21] rfl rfl rfl rfl rfl rfl fun G a w S => ?_
    refine sMove (iv r103.1) S (wG 21 false 109 rfl rfl rfl hc121) (.inl rfl) rfl rfl (lb rfl) fun a S => ?_
    exact leafL ⟨rfl, S⟩
  · refine fI 111 (.pointer (some ⟨b10, 1, none⟩)) [(1, .pointer (some ⟨b10, 0, none⟩)), (109, .bool (r93.1 != (w64 (x111 - x116))))] 23 [none, some 21] rfl rfl rfl rfl rfl rfl fun G a w S => ?_
    refine sField (b := b10) (off := 0) 1 1 S (wG 21 false 109 rfl rfl rfl hc121) rfl rfl rfl rfl rfl (lb rfl) fun a S => ?_
    exact leafL ⟨rfl, S⟩
  · refine fI 112 (.slice ad7 p0.Right.length cp8) [(111, .pointer (some ⟨b10, 1, none⟩)), (109, .bool (r93.1 != (w64 (x111 - x116))))] 24 [some 23, some 21] rfl rfl rfl rfl rfl rfl fun G a w S => ?_
    refine sLoad1 (p := b10) (off := 1) (T := 30) (vs := [.slice ad5 p0.Left.length cp6, .slice ad7 p0.Right.length cp8]) 0 (.slice ad7 p0.Right.length cp8) S (wG 21 false 109 rfl rfl rfl hc121) rfl rfl rfl rfl rfl rfl (lb rfl) fun a S => ?_
    exact leafL ⟨rfl, S⟩
  · refine fI 113 (iv s74) [(6, iv s74), (109, .bool (r93.1 != (w64 (x111 - x116))))] 25 [none, some 21] rfl rfl rfl rfl rfl rfl fun G a w S => ?_
    refine sMove (iv s74) S (wG 21 false 109 rfl rfl rfl hc121) (.inl rfl) rfl rfl (lb rfl) fun a S => ?_
    exact leafL ⟨rfl, S⟩
  · refine fI 114 (iv (w64 (s74 + 1))) [(113, iv s74), (109, .bool (r93.1 != (w64 (x111 - x116))))] 26 [some 25, some 21] rfl rfl rfl rfl rfl rfl fun G a w S => ?_
    refine sBin (iv (w64 (s74 + 1))) S (wG 21 false 109 rfl rfl rfl hc121) rfl rfl rfl (bAdd _ _ _ _ s74 1) rfl (lb rfl) fun a S => ?_
    exact leafL ⟨rfl, S⟩
  · refine fI 115 q164 [(112, .slice ad7 p0.Right.length cp8), (114, iv (w64 (s74 + 1))), (109, .bool (r93.1 != (w64 (x111 - x116))))] 27 [some 24, some 26, some 21] rfl rfl rfl rfl rfl rfl fun G a w S => ?_
    refine sIdxV (v := .slice ad7 p0.Right.length cp8) (k := .i64) (j := w64 (s74 + 1)) S (wG 21 false 109 rfl rfl rfl hc121) rfl rfl rfl hq165 rfl (lb rfl) fun a S => ?_
    exact leafL ⟨rfl, S⟩
  · refine fI 116 (iv x128) [(115, q164), (109, .bool (r93.1 != (w64 (x111 - x116))))] 28 [some 27, some 21] rfl rfl rfl rfl rfl rfl fun G a w S => ?_
    refine sLoadV1 (vq := q164) 7 (iv x128) S (wG 21 false 109 rfl rfl rfl hc121) rfl rfl rfl rfl rfl (lb rfl) fun a S => ?_
    exact leafL ⟨rfl, S⟩
  · refine fI 117 (.pointer (some ⟨b10, 0, none⟩)) [(1, .pointer (some ⟨b10, 0, none⟩)), (109, .bool (r93.1 != (w64 (x111 - x116))))] 29 [none, some 21] rfl rfl rfl rfl rfl rfl fun G a w S => ?_
    refine sField (b := b10) (off := 0) 0 0 S (wG 21 false 109 rfl rfl rfl hc121) rfl rfl rfl rfl rfl (lb rfl) fun a S => ?_
    exact leafL ⟨rfl, S⟩
  · refine fI 118 (.slice ad5 p0.Left.length cp6) [(117, .pointer (some ⟨b10, 0, none⟩)), (109, .bool (r93.1 != (w64 (x111 - x116))))] 30 [some 29, some 21] rfl rfl rfl rfl rfl rfl fun G a w S => ?_
    refine sLoad1 (p := b10) (off := 0) (T := 30) (vs := [.slice ad5 p0.Left.length cp6, .slice ad7 p0.Right.length cp8]) 0 (.slice ad5 p0.Left.length cp6) S (wG 21 false 109 rfl rfl rfl hc121) rfl rfl rfl rfl rfl rfl (lb rfl) fun a S => ?_
    exact leafL ⟨rfl, S⟩
  · refine fI 119 (iv s74) [(6, iv s74), (109, .bool (r93.1 != (w64 (x111 - x116))))] 31 [none, some 21] rfl rfl rfl rfl rfl rfl fun G a w S => ?_
    refine sMove (iv s74) S (wG 21 false 109 rfl rfl rfl hc121) (.inl rfl) rfl rfl (lb rfl) fun a S => ?_
    exact leafL ⟨rfl, S⟩
  · refine fI 120 (iv (w64 (s74 + 1))) [(119, iv s74), (109, .bool (r93.1 != (w64 (x111 - x116))))] 32 [some 31, some 21] rfl rfl rfl rfl rfl rfl fun G a w S => ?_
    refine sBin (iv (w64 (s74 + 1))) S (wG 21 false 109 rfl rfl rfl hc121) rfl rfl rfl (bAdd _ _ _ _ s74 1) rfl (lb rfl) fun a S => ?_
    exact leafL ⟨rfl, S⟩
  · refine fI 121 q167 [(118, .slice ad5 p0.Left.length cp6), (120, iv (w64 (s74 + 1))), (109, .bool (r93.1 != (w64 (x111 - x116))))] 33 [some 30, some 32, some 21] rfl rfl rfl rfl rfl rfl fun G a w S => ?_
    refine sIdxV (v := .slice ad5 p0.Left.length cp6) (k := .i64) (j := w64 (s74 + 1)) S (wG 21 false 109 rfl rfl rfl hc121) rfl rfl rfl hq168 rfl (lb rfl) fun a S => ?_
    exact leafL ⟨rfl, S⟩
  · refine fI 122 (iv x133) [(121, q167), (109, .bool (r93.1 != (w64 (x111 - x116))))] 34 [some 33, some 21] rfl rfl rfl rfl rfl rfl fun G a w S => ?_
    refine sLoadV1 (vq := q167) 4 (iv x133) S (wG 21 false 109 rfl rfl rfl hc121) rfl rfl rfl rfl rfl (lb rfl) fun a S => ?_
    exact leafL ⟨rfl, S⟩
  · refine fI 123 (iv (w64 (x128 - x133))) [(116, iv x128), (122, iv x133), (109, .bool (r93.1 != (w64 (x111 - x116))))] 35 [some 28, some 34, some 21] rfl rfl rfl rfl rfl rfl fun G a w S => ?_
    refine sBin (iv (w64 (x128 - x133))) S (wG 21 false 109 rfl rfl rfl hc121) rfl rfl rfl (bSub _ _ _ _ x128 x133) rfl (lb rfl) fun a S => ?_
    exact leafL ⟨rfl, S⟩
  · refine fI 124 (.bool (r103.1 != (w64 (x128 - x133)))) [(110, iv r103.1), (123, iv (w64 (x128 - x133))), (109, .bool (r93.1 != (w64 (x111 - x116))))] 36 [some 22, some 35, some 21] rfl rfl rfl rfl rfl rfl fun G a w S => ?_
    refine sBin (.bool (r103.1 != (w64 (x128 - x133)))) S (wG 21 false 109 rfl rfl rfl hc121) rfl rfl rfl (bNe _ _ _ _ .i64 r103.1 (w64 (x128 - x133))) rfl (lb rfl) fun a S => ?_
    exact leafL ⟨rfl, S⟩
  · refine fI 125 (.bool (r103.1 != (w64 (x128 - x133)))) [(109, .bool (r93.1 != (w64 (x111 - x116)))), (124, .bool (r103.1 != (w64 (x128 - x133))))] 37 [some 21, some 36] rfl rfl rfl rfl rfl rfl fun G a w S => ?_
    refine sPickF (.bool (r103.1 != (w64 (x128 - x133)))) S (wN rfl) rfl rfl hc121 rfl rfl (lb rfl) fun a S => ?_
    exact leafL ⟨rfl, S⟩
  · refine fI 126 (.bool (r103.1 != (w64 (x128 - x133)))) [(125, .bool (r103.1 != (w64 (x128 - x133))))] 38 [some 37] rfl rfl rfl rfl rfl rfl fun G a w S => ?_
    refine sMove (.bool (r103.1 != (w64 (x128 - x133)))) S (wN rfl) (.inl rfl) rfl rfl (lb rfl) fun a S => ?_
    exact leafL ⟨rfl, S⟩
  · refine fI 127 (.pointer (some ⟨b34, 1, none⟩)) [(4, .pointer (some ⟨b34, 0, none⟩)), (126, .bool (r103.1 != (w64 (x128 - x133))))] 39 [none, some 38] rfl rfl rfl rfl rfl rfl fun G a w S => ?_
    refine sField (b := b34) (off := 0) 1 1 S (wG 38 false 126 rfl rfl rfl hc138) rfl rfl rfl rfl rfl (lb rfl) fun a S => ?_
    exact leafL ⟨rfl, S⟩
  · refine fI 128 (.slice ad32 r27.1.Rows.length cp33) [(127, .pointer (some ⟨b34, 1, none⟩)), (126, .bool (r103.1 != (w64 (x128 - x133))))] 40 [some 39, some 38] rfl rfl rfl rfl rfl rfl fun G a w S => ?_
    refine sLoad1 (p := b34) (off := 1) (T := 40) (vs := [iv r27.1.Start, .slice ad32 r27.1.Rows.length cp33]) 1 (.slice ad32 r27.1.Rows.length cp33) S (wG 38 false 126 rfl rfl rfl hc138) rfl rfl rfl rfl rfl rfl (lb rfl) fun a S => ?_
    exact leafL ⟨rfl, S⟩
  · refine fI 129 (iv s74) [(6, iv s74), (126, .bool (r103.1 != (w64 (x128 - x133))))] 41 [none, some 38] rfl rfl rfl rfl rfl rfl fun G a w S => ?_
    refine sMove (iv s74) S (wG 38 false 126 rfl rfl rfl hc138) (.inl rfl) rfl rfl (lb rfl) fun a S => ?_
    exact leafL ⟨rfl, S⟩
  · refine fI 130 q170 [(128, .slice ad32 r27.1.Rows.length cp33), (129, iv s74), (126, .bool (r103.1 != (w64 (x128 - x133))))] 42 [some 40, some 41, some 38] rfl rfl rfl rfl rfl rfl fun G a w S => ?_
    refine sIdxV (v := .slice ad32 r27.1.Rows.length cp33) (k := .i64) (j := s74) S (wG 38 false 126 rfl rfl rfl hc138) rfl rfl rfl hq171 rfl (lb rfl) fun a S => ?_
    exact leafL ⟨rfl, S⟩
  · refine fI 131 q172 [(130, q170), (126, .bool (r103.1 != (w64 (x128 - x133))))] 43 [some 42, some 38] rfl rfl rfl rfl rfl rfl fun G a w S => ?_
    refine sFldV (q := q170) S (wG 38 false 126 rfl rfl rfl hc138) rfl rfl hq173 rfl (lb rfl) fun a S => ?_
    exact leafL ⟨rfl, S⟩
  · refine fI 132 (.bool x84.Back) [(131, q172), (126, .bool (r103.1 != (w64 (x128 - x133))))] 44 [some 43, some 38] rfl rfl rfl rfl rfl rfl fun G a w S => ?_
    refine sLoadV1 (vq := q172) 0 (.bool x84.Back) S (wG 38 false 126 rfl rfl rfl hc138) rfl rfl rfl rfl rfl (lb rfl) fun a S => ?_
    exact leafL ⟨rfl, S⟩
  · refine fI 133 (iv s74) [(6, iv s74), (126, .bool (r103.1 != (w64 (x128 - x133))))] 45 [none, some 38] rfl rfl rfl rfl rfl rfl fun G a w S => ?_
    refine sMove (iv s74) S (wG 38 false 126 rfl rfl rfl hc138) (.inl rfl) rfl rfl (lb rfl) fun a S => ?_
    exact leafL ⟨rfl, S⟩
  · refine fI 134 (iv z156) [(133, iv s74), (126, .bool (r103.1 != (w64 (x128 - x133))))] 46 [some 45, some 38] rfl rfl rfl rfl rfl rfl fun G a w S => ?_
    refine sBin (iv z156) S (wG 38 false 126 rfl rfl rfl hc138) rfl rfl rfl (bRem _ _ _ _ (x := s74) (y := 2) hx157) rfl (lb rfl) fun a S => ?_
    exact leafL ⟨rfl, S⟩
  · refine fI 135 (.bool (z156 == 0)) [(134, iv z156), (126, .bool (r103.1 != (w64 (x128 - x133))))] 47 [some 46, some 38] rfl rfl rfl rfl rfl rfl fun G a w S => ?_
    refine sBin (.bool (z156 == 0)) S (wG 38 false 126 rfl rfl rfl hc138) rfl rfl rfl (bEq _ _ _ _ .i64 z156 0) rfl (lb rfl) fun a S => ?_
    exact leafL ⟨rfl, S⟩
  · refine fI 136 (.bool (x84.Back != (z156 == 0))) [(132, .bool x84.Back), (135, .bool (z156 == 0)), (126, .bool (r103.1 != (w64 (x128 - x133))))] 48 [some 44, some 47, some 38] rfl rfl rfl rfl rfl rfl fun G a w S => ?_
    refine sBin (.bool (x84.Back != (z156 == 0))) S (wG 38 false 126 rfl rfl rfl hc138) rfl rfl rfl (bNeB _ _ _ _ Tryd.underlying4 x84.Back (z156 == 0)) rfl (lb rfl) fun a S => ?_
    exact leafL ⟨rfl, S⟩
  · refine fI 137 (.bool (x84.Back != (z156 == 0))) [(126, .bool (r103.1 != (w64 (x128 - x133)))), (136, .bool (x84.Back != (z156 == 0)))] 49 [some 38, some 48] rfl rfl rfl rfl rfl rfl fun G a w S => ?_
    refine sPickF (.bool (x84.Back != (z156 == 0))) S (wN rfl) rfl rfl hc138 rfl rfl (lb rfl) fun a S => ?_
    exact leafL ⟨rfl, S⟩
  exact leafT (⟨x84.Back != (z156 == 0), Option.some.inj h, S.fix [0, 1] [24, 25, 26] (by decide) rfl rfl rfl⟩)

end Go.Proofs.YtmedbnjhgkcndaaDoor
namespace Go.Proofs.YtmedbnjhgkcndaaDoor
open Go.RowKit
set_option linter.unusedVariables false

def kf (c : api_Stitch) : Int := if c.Kind = 1 then 1 else 0
theorem kf_bd (c : api_Stitch) : 0 ≤ kf c ∧ kf c ≤ 1 := by unfold kf; split <;> omega
theorem count_loop (r : api_Row) (hl : r.Cells.length ≤ 1000) (hP : ∀ c, c ∈ r.Cells → c.Kind ≠ 9 → c.Purl = r.Back) :
    whileO (raddlelaw37_PieceWidths_l1 r) (0, 0) = some (.inr (sm kf r.Cells)) := by
  have key : ∃ t, whileO (raddlelaw37_PieceWidths_l1 r) (0, 0) = some t ∧ t = .inr (sm kf r.Cells) := by
    refine loop_st r.Cells.length (fun k s => s = sm kf (r.Cells.take k)) _ rfl ?_ ?_
    · rintro k s hk rfl
      have hb := sm_bd (f := kf) (b := 1) (l := r.Cells.take k) fun c _ => kf_bd c
      have hlt : (r.Cells.take k).length ≤ 1000 := by simp; omega
      have hc := hP _ (List.getElem_mem hk)
      have e := sm_take kf r.Cells hk
      have hkf : kf r.Cells[k] = if r.Cells[k].Kind = 1 then 1 else 0 := rfl
      refine .inl ⟨sm kf (r.Cells.take (k + 1)), ?_, rfl⟩
      rw [e, hkf]
      generalize sm kf (r.Cells.take k) = n at *
      generalize hx : r.Cells[k] = x at *
      have hx' : idxO r.Cells (k : Int) = some x := by rw [← hx]; exact idxO_nat hk
      unfold raddlelaw37_PieceWidths_l1
      simp only [dT (show (k : Int) < (r.Cells.length : Int) by omega), if_true, hx', Option.bind_some, w64_succ (show k < 9223372036854775807 by omega)]
      have e1 : (if (x.Kind == 1) = true then some (w64 (n + 1)) else some n) = some (n + if x.Kind = 1 then 1 else 0) := by
        by_cases h1 : x.Kind = 1
        · rw [bT h1, if_pos rfl, if_pos h1, w64_of (by omega) (by omega)]
        · rw [bF h1, if_neg (by simp), if_neg h1, Int.add_zero]
      have e2 : (if (x.Kind != 9) = true then some (x.Purl != r.Back) else some false) = some false := by
        by_cases h9 : x.Kind = 9
        · rw [nF h9]; rfl
        · rw [nT h9, if_pos rfl, hc h9, bne_self_eq_false]
      simp only [e1, e2, Option.bind_some, Bool.false_eq_true, if_false]
    · rintro s rfl
      refine ⟨_, ?_, rfl⟩
      unfold raddlelaw37_PieceWidths_l1
      simp
  obtain ⟨t, t1, rfl⟩ := key
  exact t1
theorem sm_zero {f : api_Stitch → Int} {l : List api_Stitch} (h : ∀ c, c ∈ l → f c = 0) : sm f l = 0 := by
  induction l with
  | nil => rfl
  | cons x l ih => simp only [sm, h x (by simp), ih fun c hc => h c (by simp [hc])]; omega
theorem sm_kf_oth (l : List api_Stitch) : sm kf (l.map othS) = sm kf l := by
  induction l with
  | nil => rfl
  | cons x l ih => simp only [List.map_cons, sm, ih]; rfl
theorem cel_kf {p : api_Piece} {k : Nat} (hn : 1 ≤ nk p k) : sm kf (cel p k) = nk p k := by
  unfold cel
  have z1 : sm kf (edge (dR p k) 3) = 0 := sm_zero fun c hc => if_neg (edge_plain (.inl rfl) c hc).2
  have z2 : sm kf (edge (dL p k) 4) = 0 := sm_zero fun c hc => if_neg (edge_plain (.inr rfl) c hc).2
  have : kf kns = 1 := rfl
  rw [sm_append, sm_append, z1, z2, sm_rep, this]
  omega
theorem crow_kf {p : api_Piece} {k : Nat} (hn : 1 ≤ nk p k) : sm kf (crow p k).Cells = nk p k := by
  unfold crow
  by_cases g : k % 2 = 0
  · simp only [g, if_true]
    rw [sm_reverse, sm_kf_oth, cel_kf hn]
  · simp only [g, if_false]
    exact cel_kf hn
theorem crow_purl (p : api_Piece) (k : Nat) : ∀ c, c ∈ (crow p k).Cells → c.Kind ≠ 9 → c.Purl = (crow p k).Back := by
  intro c hc h9
  unfold crow at hc ⊢
  by_cases g : k % 2 = 0
  · simp only [g, if_true, decide_true] at hc ⊢
    rw [List.mem_reverse] at hc
    obtain ⟨q, hq, rfl⟩ := List.mem_map.1 hc
    have hp := cel_plain p k q hq
    have h9 : q.Kind ≠ 9 := h9
    show (if q.Kind = 2 ∨ q.Kind = 9 then q.Purl else !q.Purl) = true
    rw [if_neg (by intro h; rcases h with h | h; exact hp.2.1 h; exact h9 h), hp.1]
    rfl
  · simp only [g, if_false, decide_false] at hc ⊢
    exact (cel_plain p k c hc).1
theorem law_PieceWidths' (ha : F_raddlelaw37_alive = some true) (p : api_Piece) (wp : wf_api_Piece p) : F_raddlelaw37_PieceWidths p = some true := by
  obtain ⟨gb, g1, g2⟩ := great_eq p wp.1.1 wp.2.1
  unfold F_raddlelaw37_PieceWidths
  rw [ha]
  cases gb with
  | true => simp [g1]
  | false =>
    obtain ⟨n1, n2⟩ := g2 rfl
    obtain ⟨c1, c2⟩ := pcheck_eq p (by omega) (by omega)
    have hch := chart_eq p (by omega) (by omega)
    cases hp : pok p with
    | false => simp [g1, c2, hp]
    | true =>
      rw [hp, if_pos rfl] at c2 hch
      by_cases ho : chOk p
      case neg =>
        rw [if_neg ho] at hch
        simp [g1, c2, hch]
      rw [if_pos ho] at hch
      obtain ⟨a, b, c, d⟩ := pok_iff.1 hp
      have d0 := d 0 (by omega)
      have i0 : idxO p.Right 0 = some (p.Right.getD 0 0) := idxO_D (k := 0) (0 : Int) (by omega)
      have i1 : idxO p.Left 0 = some (p.Left.getD 0 0) := idxO_D (k := 0) (0 : Int) (by omega)
      have e0 : w64 (p.Right.getD 0 0 - p.Left.getD 0 0) = wd p 0 := w64_of (by omega) (by omega)
      have l1 : (chart p).Rows.length = p.Left.length - 1 := by simp [chart]
      have e1 : w64 ((p.Left.length : Int) - 1) = ((p.Left.length - 1 : Nat) : Int) := by rw [w64_of (by omega) (by omega)]; omega
      have hS : (chart p).Start = wd p 0 := rfl
      have hl : whileO (raddlelaw37_PieceWidths_l2 (chart p, 0) p) 0 = some (if (List.range (p.Left.length - 1)).all (fun _ => true) = true then .inr () else .inl false) := by
        refine loop_all _ _ _ _ (fun k hk => ?_) ?_
        · have hn := ho k hk
          have k1 := d k (by omega)
          have k2 := d (k + 1) (by omega)
          obtain ⟨o1, o2, o3, o4⟩ := crow_ok hp (show k + 1 < p.Left.length by omega) hn
          obtain ⟨p1, p2, p3, p4, p5⟩ := cel_ok hp (show k + 1 < p.Left.length by omega) hn
          have hw := ok_wf (allS_ok o1).2.1
          have hx : idxO (chart p).Rows (k : Int) = some (crow p k) := by
            rw [idxO_nat (show k < (chart p).Rows.length by omega)]
            simp only [chart, List.getElem_map, List.getElem_range]
          have u := uses_eq hw
          have m := makes_eq hw
          rw [if_pos o1, o2] at u
          rw [if_pos o1, o3] at m
          have hcl := count_loop (crow p k) (by omega) (crow_purl p k)
          rw [crow_kf hn] at hcl
          have w1 : w64 (p.Right.getD k 0 - p.Left.getD k 0) = wd p k := w64_of (by omega) (by omega)
          have w2 : w64 (p.Right.getD (k + 1) 0 - p.Left.getD (k + 1) 0) = wd p (k + 1) := w64_of (by omega) (by omega)
          have hb : ((crow p k).Back != (((k % 2 : Nat) : Int) == 0)) = false := by
            have : (crow p k).Back = decide (k % 2 = 0) := rfl
            rw [this]
            by_cases g : k % 2 = 0
            · simp [g]
            · rw [bF (show ¬ ((k % 2 : Nat) : Int) = 0 by omega)]; simp [g]
          have hs : w64 (((crow p k).Cells.length : Int) - 2) = ((crow p k).Cells.length : Int) - 2 := w64_of (by omega) (by omega)
          unfold raddlelaw37_PieceWidths_l2
          simp only [dT (show (k : Int) < ((chart p).Rows.length : Int) by omega), if_true, hx, Option.bind_some, u, m, bne_self_eq_false, Bool.false_eq_true, if_false, idxO_D (0 : Int) (show k < p.Left.length by omega), idxO_D (0 : Int) (show k < p.Right.length by omega), idxO_D (0 : Int) (show k + 1 < p.Left.length by omega), idxO_D (0 : Int) (show k + 1 < p.Right.length by omega), w1, w2, w64_succ (show k < 9223372036854775807 by omega), rem_two, hb, hcl, dF (show ¬ nk p k < 1 by omega), hs, dF (show ¬ nk p k < ((crow p k).Cells.length : Int) - 2 by omega)]
        · unfold raddlelaw37_PieceWidths_l2
          simp [l1]
      have : (List.range (p.Left.length - 1)).all (fun _ => true) = true := by simp
      rw [this, if_pos rfl] at hl
      simp only [g1, c2, hch, Bool.false_eq_true, if_false, bne_self_eq_false, Bool.not_true, Option.bind_some, i0, i1, e0, hS, l1, e1, hl]

end Go.Proofs.YtmedbnjhgkcndaaDoor
namespace Go.Proofs.YtmedbnjhgkcndaaDoor
open Go.RowKit
set_option linter.unusedVariables false

theorem law_PieceWidths (p : api_Piece) (wp : wf_api_Piece p) : F_raddlelaw37_PieceWidths p = some true := law_PieceWidths' k_raddlelaw37_alive p wp

end Go.Proofs.YtmedbnjhgkcndaaDoor
namespace Go.Proofs.YtmedbnjhgkcndaaDoor
open Go.RowKit
set_option linter.unusedVariables false

namespace framePieceWidths
open Go.ChangeShapes Go.WideShapes Go.ChangeAt Go.Joins
theorem own : ownKnob Tryd.prog.godebug = none := by kernel_rfl
theorem laidOut : laidOutB Tryd.prog = true := by kernel_rfl
set_option maxRecDepth 100000 in
theorem door_met (os : Os) (args : Array Value) : laidMetH Tryd.prog Rows.pieceWidthsRow.laid ((World.doorLaid Tryd.prog 400 os).forCall (fun _ _ => 0) ⟨#[], args, []⟩).memory :=
  laidMetH_of_parts3 (fuel := 8) (laidMet_of_run' 8 (by kernel_rfl) (by kernel_rfl)) (by kernel_rfl) (by kernel_rfl)
set_option maxRecDepth 100000 in
theorem lifted (os : Os) (started : os.Started) (H : Type) (enc : TypeId × Value → H) :
    ReturnsInHanded {} Tryd.checked os 5 .any (fun w args => (Rows.pieceWidthsSpec.pre enc Tryd.prog Tryd.f5 Rows.pieceWidthsRow.domain false w args ∧ laidMetH Tryd.prog Rows.pieceWidthsRow.laid w) ∧ sizedMet enc Tryd.prog Tryd.f5 (OpenSpec.ofChange Rows.pieceWidthsSpec) false w args) (Rows.pieceWidthsSpec.post enc Tryd.prog Tryd.f5 false true false false) := by
  refine returnsInHanded_of_change_and (C := Tryd.checked) (X := fun w _ => laidMetH Tryd.prog Rows.pieceWidthsRow.laid w) (fun _ _ _ hh h => h.of_heap hh) own started (by kernel_rfl) Tryd.func5
    (ChangeSpec.witness_shaped (enc := enc) (C := Tryd.checked) (os := os) (X := fun w _ => laidMetH Tryd.prog Rows.pieceWidthsRow.laid w) false (World.doorLaid Tryd.prog 400 os) #[.agg #[.slice none 0 0, .slice none 0 0]] 8 rfl (World.shaped_of_RefB (by kernel_rfl) (by kernel_rfl)) (by kernel_rfl) (by kernel_rfl) (by kernel_rfl) (door_met os _)) ?_
  intro W base args ds gs before hval0 hW _ _ _ _
  have hval : ∀ (j : Nat) t v, Tryd.f5.params[j]? = some t → args[j]? = some v → Value.okWide Tryd.prog W .any base t v := hval0
  have hW' := hW
  obtain ⟨p, q, hA0, hV, rfl, hfz, hnd⟩ := hW
  have hA : DataW.TrodAll enc Tryd.prog W 0 (fun _ => true) true Tryd.f5.params.toList args.toList ds p := hA0
  rw [Tryd.params5] at hA hval
  obtain ⟨v0, vs0, d0, ds0, p0, q0, hargs, rfl, rfl, h0, r0⟩ := trodAll_cons hA
  obtain ⟨rfl, rfl, rfl⟩ := trodAll_nil r0
  obtain rfl : args = #[v0] := by cases args; simp_all
  obtain ⟨rfl, rfl⟩ := trodVars_none hV
  have k0 := h0
  have lt0 : ∀ x ∈ p0, x.block < W.heap.size := by obtain ⟨m, hm⟩ := k0; exact DataW.trod_lt m _ _ _ hm
  obtain ⟨x0, rep0, wf0⟩ := top_agg Tryd.underlying30 aggr_api_Piece op_api_Piece (hval 0 _ v0 rfl rfl) h0
  clear hA0 hval0
  refine (c_raddlelaw37_PieceWidths (fun _ => False) W x0 v0 true (law_PieceWidths x0 wf0) (St0.start (by intro d hd; simp only [List.mem_cons, List.not_mem_nil, or_false] at hd; subst hd; exact rep0))).mono fun e W' hr => ?_
  obtain ⟨_, he, hS⟩ := hr
  have bel := hS.chg.below
  subst he
  exact ⟨_, rfl, _, _, _, [], _, [], hW', trodAll_mk1 (shut_bool Tryd.underlying4 _), (trodAll_cons_mk (Below.trod laidOut (by kernel_rfl) (of_decide_eq_true (by kernel_rfl)) k0 bel lt0) trodAll_mk0), rfl, bel.frame _, fun h => by cases h⟩
theorem over : Rows.pieceWidthsRow.holds Tryd.pinned (OpenSpec.ofChange Rows.pieceWidthsSpec) :=
  OpenClaim.holds_of_wide 5 Tryd.f5 rfl rfl rfl rfl rfl rfl rfl ⟨rfl, rfl, rfl, rfl, rfl⟩ rfl rfl rfl rfl rfl (by kernel_rfl) Tryd.func5 (by kernel_rfl)
    (of_decide_eq_true (by kernel_rfl)) (by unfold Func.isWrapper; first | (rw [if_pos (by decide +kernel)]; kernel_rfl) | (rw [if_neg (by decide +kernel)]; exact ⟨rfl, rfl⟩))
    (fun os started H enc _ => lifted os started H enc)
theorem card : Rows.PieceWidthsCardSaid :=
  Claim7.holds_tied_plain_at .later [] [.data, .data, .data] true (true, "307e61196d3f4886c0049f613c394b681f3254770779ea132fb8ea05f59173ca") false
    over (fun _ h => by cases h) (by kernel_rfl) (fun _ h => by cases h) pieceWidths_row_tie rfl ⟨rfl, rfl⟩ (by kernel_rfl) rfl
    (fun f fn hf hfn => by
      obtain rfl : f = 5 := Option.some.inj ((show Tryd.prog.funcNamed "raddle/raddlelaw37.PieceWidths" = some 5 by kernel_rfl).symm.trans hf) |>.symm
      obtain rfl : fn = Tryd.f5 := (Option.some.inj (Tryd.func5.symm.trans hfn)).symm
      exact ⟨by kernel_rfl, fun j t ht => by
        rw [Tryd.params5] at ht
        have hm : t ∈ [30] := by simpa using Array.mem_of_getElem? ht
        have hall : ([30].all fun u => !Tryd.prog.wantsStandIn u) = true := by kernel_rfl
        exact (show Tryd.prog.wantsStandIn t = false by simpa using List.all_eq_true.1 hall t hm)⟩)
    (by kernel_rfl)
end framePieceWidths
theorem pieceWidths_holds : Rows.PieceWidthsCardSaid := framePieceWidths.card

end Go.Proofs.YtmedbnjhgkcndaaDoor
