/- Several texts in one: KeAlive G9 KvAlive PlA PlB G45 G21 G15 PlP PlS PlU PlUo PlC PlCr -/
import Derived.WalkKit
import Derived.Maps.AppendAt
import Derived.Deep.AppendLies
import Derived.KernelRfl
import Derived.Laws.OwnMore
import Derived.Great.BuildSlice
import Derived.Orders
import Derived.Laws.StructEq
import Derived.ChangeKeysEq
import Derived.Defers
import Derived.Laws.BytesString
import Derived.RangeFuncNested
import Derived.RangeFuncBound
import Derived.RangeFuncCalls
import Derived.RangeFuncLeaves
import Derived.OrdersIn
import Derived.LoopNIn
import Derived.Test.YtmedbnjhgkcndaaDoorProg
import Derived.ProofKit
import Derived.OpenShut
import Derived.ChangeOld
import Derived.Deep.Slices
import Derived.Lib.SmallJoins
import Derived.JoinedOf
import Derived.JoinedAt
import Derived.Below
import Derived.Shelf.Strings.Builder1
import Derived.Shelf.Strings.Builder2
import Derived.Shelf.Strings.OnBuilder
import Derived.Test.YtmedbnjhgkcndaaDoorRows
import Derived.LaidMore
import Derived.SevenTiedAt
import Derived.Test.YtmedbnjhgkcndaaDoorCards
import Derived.Test.YtmedbnjhgkcndaaDoorTie
import Derived.Test.YtmedbnjhgkcndaaDoorMPieceBack4
namespace Go.Proofs.YtmedbnjhgkcndaaDoor
open Go.RowKit
set_option linter.unusedVariables false

def K_raddlelaw37_given  : Option api_Shape :=
  some (api_Shape.mk [(api_Point.mk 0 0), (api_Point.mk 2 4)] [(api_Point.mk 10 0), (api_Point.mk 8 4)])
def K_piece_column (p0 : Int) : Option Bool :=
  Option.bind (α := Bool) (
    if decide ((-500) ≤ p0) then
      some (decide (p0 ≤ 500))
    else
      some false) fun o2 =>
  some o2
def K_piece_side_l1 (p0 : (List api_Point)) : Int → Option (Int ⊕ (Bool ⊕ Unit)) := fun s0 => match s0 with
  | s30 =>
    if decide (s30 < (p0.length : Int)) then
      Option.bind (idxO p0 s30) fun x39 =>
      Option.bind (α := Bool) (
        Option.bind (K_piece_column x39.X) fun r48 =>
        if !r48 then
          some true
        else
          if decide (0 < s30) then
            Option.bind (idxO p0 (w64 (s30 - 1))) fun x52 =>
            some (decide (x39.Y ≤ x52.Y))
          else
            some false) fun o45 =>
      if o45 then
        some (.inr (.inl false))
      else
        some (.inl (w64 (s30 + 1)))
    else
      some (.inr (.inr ()))
def K_piece_side (p0 : (List api_Point)) : Option Bool :=
  Option.bind (α := Bool) (
    if (p0.length : Int) == 0 then
      some true
    else
      if decide (50 < (p0.length : Int)) then
        some true
      else
        Option.bind (idxO p0 0) fun x10 =>
        if x10.Y != 0 then
          some true
        else
          Option.bind (idxO p0 (w64 ((p0.length : Int) - 1))) fun x18 =>
          some (decide (100 ≤ x18.Y))) fun o5 =>
  if o5 then
    some false
  else
    Option.bind (α := Unit ⊕ Bool) (
      Option.bind (whileK (K_piece_side_l1 p0) 0) fun z0 => match z0 with
        | .inl z =>
          some (.inr z)
        | .inr _ =>
          some (.inl ())) fun z0 => match z0 with
      | .inl _ =>
        some true
      | .inr z =>
        some z
def K_piece_shape (p0 : api_Shape) : Option Int :=
  Option.bind (α := Bool) (
    Option.bind (K_piece_side p0.Left) fun r15 =>
    if !r15 then
      some true
    else
      Option.bind (K_piece_side p0.Right) fun r18 =>
      if !r18 then
        some true
      else
        Option.bind (idxO p0.Left (w64 ((p0.Left.length : Int) - 1))) fun x21 =>
        Option.bind (idxO p0.Right (w64 ((p0.Right.length : Int) - 1))) fun x28 =>
        some (x21.Y != x28.Y)) fun o12 =>
  if o12 then
    some 8
  else
    some 0
def K_slope_within (p0 : Int) (p1 : Int) (p2 : Int) : Option Bool :=
  Option.bind (α := Bool) (
    if decide (p1 ≤ p0) then
      some (decide (p0 ≤ p2))
    else
      some false) fun o2 =>
  some o2
def K_slope_check (p0 : Int) (p1 : Int) (p2 : Int) : Option Int :=
  Option.bind (α := Bool) (
    Option.bind (K_slope_within p0 (-1000) 1000) fun r6 =>
    if !r6 then
      some true
    else
      Option.bind (K_slope_within p1 (-1000) 1000) fun r9 =>
      if !r9 then
        some true
      else
        Option.bind (K_slope_within p2 1 1000) fun r12 =>
        some (!r12)) fun o3 =>
  if o3 then
    some 2
  else
    some 0
def K_slope_at (p0 : Int) (p1 : Int) (p2 : Int) (p3 : Int) : Option Int :=
  Option.bind (quoI (w64 ((w64 (2 * (w64 ((w64 ((w64 (p0 + 1000)) * (w64 (p2 - p3)))) + (w64 ((w64 (p1 + 1000)) * p3)))))) + p2)) (w64 (2 * p2))) fun z4 =>
  some (w64 (z4 - 1000))
def K_slope_Line_1_s0 (p0 : Int) (p1 : Int) (p2 : Int) (p3 : Int) : Option Int :=
  Option.bind (K_slope_at p1 p2 p3 p0) fun r6 =>
  some r6
def K_slope_list_int__s0_l1 (p0 : Int) (p1 : Int) (p2 : Int) (p3 : Int) : (List Int × Int) → Option ((List Int × Int) ⊕ List Int) := fun s0 => match s0 with
  | (s13, s16) =>
    if decide (s16 < p0) then
      Option.bind (K_slope_Line_1_s0 s16 p1 p2 p3) fun r28 =>
      Option.bind (idxO s13 s16) fun x30 =>
      Option.bind (setO s13 s16 r28) fun l35 =>
      some (.inl (l35, w64 (s16 + 1)))
    else
      some (.inr s13)
def K_slope_list_int__s0 (p0 : Int) (p1 : Int) (p2 : Int) (p3 : Int) : Option (List Int) :=
  Option.bind (makeO p0 (0 : Int)) fun m5 =>
  Option.bind (α := List Int) (
    Option.bind (whileK (K_slope_list_int__s0_l1 p0 p1 p2 p3) (m5, 0)) fun e20 =>
      some e20) fun o7 =>
  some o7
def K_slope_Line (p0 : Int) (p1 : Int) (p2 : Int) : Option ((List Int) × Int) :=
  Option.bind (K_slope_check p0 p1 p2) fun r7 =>
  if r7 != 0 then
    some (([] : (List Int)), r7)
  else
    Option.bind (K_slope_list_int__s0 (w64 (p2 + 1)) p0 p1 p2) fun r13 =>
    some (r13, 0)
def K_piece_columns_l1 (y20 : List api_Point) (p0 : (List api_Point)) : (List Int × Int) → Option ((List Int × Int) ⊕ List Int) := fun s0 => match s0 with
  | (s24, s27) =>
    if decide (s27 < (y20.length : Int)) then
      Option.bind (idxO y20 s27) fun x39 =>
      Option.bind (idxO p0 s27) fun x46 =>
      Option.bind (K_slope_Line x46.X x39.X (w64 (x39.Y - x46.Y))) fun r58 =>
      Option.bind (sliceO r58.1 1 (r58.1.length : Int)) fun y76 =>
      Option.bind (appO s24 y76) fun l80 =>
      some (.inl (l80, w64 (s27 + 1)))
    else
      some (.inr s24)
def K_piece_columns (p0 : (List api_Point)) : Option (List Int) :=
  Option.bind (idxO p0 0) fun x5 =>
  Option.bind (α := List Int) (
    Option.bind (sliceO p0 1 (p0.length : Int)) fun y20 =>
    Option.bind (whileK (K_piece_columns_l1 y20 p0) (([x5.X] : List Int), 0)) fun e31 =>
      some e31) fun o14 =>
  some o14
def K_piece_Check_l1 (p0 : api_Piece) : Int → Option (Int ⊕ (Int ⊕ Unit)) := fun s0 => match s0 with
  | s22 =>
    if decide (s22 < (p0.Left.length : Int)) then
      Option.bind (idxO p0.Left s22) fun x31 =>
      Option.bind (idxO p0.Right s22) fun x37 =>
      Option.bind (α := Bool) (
        Option.bind (K_piece_column x31) fun r45 =>
        if !r45 then
          some true
        else
          Option.bind (K_piece_column x37) fun r48 =>
          if !r48 then
            some true
          else
            if decide (x37 ≤ x31) then
              some true
            else
              some (decide (200 < (w64 (x37 - x31))))) fun o42 =>
      if o42 then
        some (.inr (.inl 8))
      else
        some (.inl (w64 (s22 + 1)))
    else
      some (.inr (.inr ()))
def K_piece_Check (p0 : api_Piece) : Option Int :=
  Option.bind (α := Bool) (
    if (p0.Left.length : Int) != (p0.Right.length : Int) then
      some true
    else
      if (p0.Left.length : Int) == 0 then
        some true
      else
        some (decide (100 < (p0.Left.length : Int)))) fun o12 =>
  if o12 then
    some 8
  else
    Option.bind (α := Unit ⊕ Int) (
      Option.bind (whileK (K_piece_Check_l1 p0) 0) fun z0 => match z0 with
        | .inl z =>
          some (.inr z)
        | .inr _ =>
          some (.inl ())) fun z0 => match z0 with
      | .inl _ =>
        some 0
      | .inr z =>
        some z
def K_piece_Make (p0 : api_Shape) : Option (api_Piece × Int) :=
  Option.bind (K_piece_shape p0) fun r14 =>
  if r14 != 0 then
    some ((api_Piece.mk ([] : (List Int)) ([] : (List Int))), r14)
  else
    Option.bind (α := (List Int × List Int)) (
      Option.bind (K_piece_columns p0.Left) fun r28 =>
      Option.bind (K_piece_columns p0.Right) fun r33 =>
      some (r28, r33)) fun (o20, o23) =>
    Option.bind (K_piece_Check (api_Piece.mk o20 o23)) fun r59 =>
    if r59 != 0 then
      some ((api_Piece.mk ([] : (List Int)) ([] : (List Int))), 16)
    else
      some ((api_Piece.mk o20 o23), 0)
def K_raddlelaw37_made  : Option api_Piece :=
  some (api_Piece.mk ([0, 1, 1, 2, 2] : List Int) ([10, 10, 9, 9, 8] : List Int))
def K_piece_bend (p0 : Int) (p1 : Int) : Option piece_edge :=
  if p0 == 0 then
    some (piece_edge.mk (api_Stitch.mk 0 false 0 0) 0)
  else
    if decide (4 ≤ p0) then
      some (piece_edge.mk (api_Stitch.mk 9 false p0 0) 0)
    else
      if decide (0 < p0) then
        some (piece_edge.mk (api_Stitch.mk 5 false (w64 (p0 + 1)) 0) 1)
      else
        if decide ((-4) < p0) then
          some (piece_edge.mk (api_Stitch.mk p1 false (w64 (1 - p0)) 0) (w64 (1 - p0)))
        else
          some (piece_edge.mk (api_Stitch.mk 10 false (w64 (0 - p0)) 0) (w64 (0 - p0)))
def K_piece_Chart_l1 (x127 : Int) (x132 : Int) (o67 : Int) (o99 : Int) : (List api_Stitch × Int) → Option ((List api_Stitch × Int) ⊕ List api_Stitch) := fun s0 => match s0 with
  | (s167, s170) =>
    if decide (s170 < (w64 ((w64 ((w64 (x127 - x132)) - o67)) - o99))) then
      Option.bind (appO s167 [(api_Stitch.mk 1 false 0 0)]) fun l183 =>
      some (.inl (l183, w64 (s170 + 1)))
    else
      some (.inr s167)
def K_stitch_forms (p0 : Int) : Option (stitch_form × Bool) :=
  Option.bind (α := Bool) (
    if decide (p0 < 1) then
      some true
    else
      some (decide (([(stitch_form.mk (⟨#[]⟩ : ByteArray) (0, 0) (0, 0) true 1 1), (stitch_form.mk (⟨#[]⟩ : ByteArray) (0, 0) (0, 0) false 0 1), (stitch_form.mk (⟨#[102]⟩ : ByteArray) (2, 4) (0, 0) true 2 1), (stitch_form.mk (⟨#[108]⟩ : ByteArray) (2, 4) (0, 0) true 2 1), (stitch_form.mk (⟨#[109]⟩ : ByteArray) (2, 4) (0, 0) true 1 2), (stitch_form.mk (⟨#[120]⟩ : ByteArray) (1, 6) (1, 6) true 3 3), (stitch_form.mk (⟨#[121]⟩ : ByteArray) (1, 6) (1, 6) true 3 3), (stitch_form.mk (⟨#[115]⟩ : ByteArray) (0, 0) (0, 0) true 1 1), (stitch_form.mk (⟨#[]⟩ : ByteArray) (1, 200) (0, 0) false 0 2), (stitch_form.mk (⟨#[111]⟩ : ByteArray) (1, 200) (0, 0) true 2 0)].length : Int) < (IntKind.i64.wrap p0)))) fun o12 =>
  if o12 then
    some ((stitch_form.mk (⟨#[]⟩ : ByteArray) (0, 0) (0, 0) false 0 0), false)
  else
    Option.bind (idxO [(stitch_form.mk (⟨#[]⟩ : ByteArray) (0, 0) (0, 0) true 1 1), (stitch_form.mk (⟨#[]⟩ : ByteArray) (0, 0) (0, 0) false 0 1), (stitch_form.mk (⟨#[102]⟩ : ByteArray) (2, 4) (0, 0) true 2 1), (stitch_form.mk (⟨#[108]⟩ : ByteArray) (2, 4) (0, 0) true 2 1), (stitch_form.mk (⟨#[109]⟩ : ByteArray) (2, 4) (0, 0) true 1 2), (stitch_form.mk (⟨#[120]⟩ : ByteArray) (1, 6) (1, 6) true 3 3), (stitch_form.mk (⟨#[121]⟩ : ByteArray) (1, 6) (1, 6) true 3 3), (stitch_form.mk (⟨#[115]⟩ : ByteArray) (0, 0) (0, 0) true 1 1), (stitch_form.mk (⟨#[]⟩ : ByteArray) (1, 200) (0, 0) false 0 2), (stitch_form.mk (⟨#[111]⟩ : ByteArray) (1, 200) (0, 0) true 2 0)] (IntKind.u8.wrap (p0 - 1))) fun x19 =>
    some (x19, true)
def K_stitch_within (p0 : Int) (p1 : (Int × Int)) : Option Bool :=
  Option.bind (α := Bool) (
    if decide (p1.1 ≤ p0) then
      some (decide (p0 ≤ p1.2))
    else
      some false) fun o3 =>
  some o3
def K_stitch_Check (p0 : api_Stitch) : Option Int :=
  Option.bind (K_stitch_forms p0.Kind) fun r4 =>
  Option.bind (α := Bool) (
    if !r4.2 then
      some true
    else
      Option.bind (K_stitch_within p0.A r4.1.a) fun r13 =>
      if !r13 then
        some true
      else
        Option.bind (K_stitch_within p0.B r4.1.b) fun r16 =>
        if !r16 then
          some true
        else
          if p0.Purl then
            some (!r4.1.sided)
          else
            some false) fun o9 =>
  if o9 then
    some 8
  else
    some 0
def K_stitch_All_1 (p0 : api_Stitch) : Option Bool :=
  Option.bind (K_stitch_Check p0) fun r4 =>
  some (r4 != 0)
def K_slices_IndexFunc___api_Stitch_api_Stitch__s0_l1 (p0 : (List api_Stitch)) : Int → Option (Int ⊕ (Int ⊕ Unit)) := fun s0 => match s0 with
  | s7 =>
    if decide (s7 < (p0.length : Int)) then
      Option.bind (idxO p0 s7) fun x17 =>
      Option.bind (K_stitch_All_1 x17) fun r22 =>
      if r22 then
        some (.inr (.inl s7))
      else
        some (.inl (w64 (s7 + 1)))
    else
      some (.inr (.inr ()))
def K_slices_IndexFunc___api_Stitch_api_Stitch__s0 (p0 : (List api_Stitch)) : Option Int :=
  Option.bind (α := Unit ⊕ Int) (
    Option.bind (whileK (K_slices_IndexFunc___api_Stitch_api_Stitch__s0_l1 p0) 0) fun z0 => match z0 with
      | .inl z =>
        some (.inr z)
      | .inr _ =>
        some (.inl ())) fun z0 => match z0 with
    | .inl _ =>
      some (-1)
    | .inr z =>
      some z
def K_slices_ContainsFunc___api_Stitch_api_Stitch__s0 (p0 : (List api_Stitch)) : Option Bool :=
  Option.bind (K_slices_IndexFunc___api_Stitch_api_Stitch__s0 p0) fun r5 =>
  some (decide (0 ≤ r5))
def K_stitch_loops (p0 : api_Stitch) (p1 : Int) : Option Int :=
  Option.bind (idxO ([0, 1, p0.A, w64 (p0.A + p0.B)] : List Int) p1) fun x4 =>
  some x4
def K_stitch_sum_l1 (p0 : (List api_Stitch)) : (Int × Int × Int) → Option ((Int × Int × Int) ⊕ (Int × Int)) := fun s0 => match s0 with
  | (s9, s10, s11) =>
    if decide (s11 < (p0.length : Int)) then
      Option.bind (idxO p0 s11) fun x22 =>
      Option.bind (K_stitch_forms x22.Kind) fun r29 =>
      Option.bind (K_stitch_loops x22 r29.1.uses) fun r34 =>
      Option.bind (K_stitch_loops x22 r29.1.made) fun r36 =>
      some (.inl (w64 (s9 + r34), w64 (s10 + r36), w64 (s11 + 1)))
    else
      some (.inr (s9, s10))
def K_stitch_sum (p0 : (List api_Stitch)) : Option (Int × Int) :=
  Option.bind (α := (Int × Int)) (
    Option.bind (whileK (K_stitch_sum_l1 p0) (0, 0, 0)) fun (e15, e16) =>
      some (e15, e16)) fun (o4, o5) =>
  some (o4, o5)
def K_stitch_All (p0 : (List api_Stitch)) : Option Int :=
  if decide (200 < (p0.length : Int)) then
    some 4
  else
    Option.bind (K_slices_ContainsFunc___api_Stitch_api_Stitch__s0 p0) fun r10 =>
    if r10 then
      some 8
    else
      Option.bind (K_stitch_sum p0) fun r16 =>
      if decide (200 < (if r16.1 < r16.2 then r16.2 else r16.1)) then
        some 4
      else
        some 0
def K_slices_Backward___api_Stitch_api_Stitch_ (p0 : (List api_Stitch)) : Option (List api_Stitch) :=
  some p0
def K_slices_Backward___api_Stitch_api_Stitch__1_l1 {σ τ : Type} (p0 : (List api_Stitch)) (B : σ → (Int × api_Stitch) → Option (σ ⊕ τ)) : (Int × σ) → Option ((Int × σ) ⊕ ((σ ⊕ τ) ⊕ (σ))) := fun s0 => match s0 with
  | (s5, gz6) =>
    if decide (0 ≤ s5) then
      Option.bind (idxO p0 s5) fun x20 =>
      Option.bind (B gz6 (s5, x20)) fun y25 =>
      match y25 with
      | .inl gz27 =>
        some (.inl (w64 (s5 - 1), gz27))
      | .inr tz28 =>
        some (.inr (.inl (.inr tz28)))
    else
      some (.inr (.inr gz6))
def K_I_slices_Backward___api_Stitch_api_Stitch__1 (p0 : (List api_Stitch)) (σ τ : Type) (B : σ → (Int × api_Stitch) → Option (σ ⊕ τ)) (gz0 : σ) : Option (σ ⊕ τ) :=
  Option.bind (whileK (K_slices_Backward___api_Stitch_api_Stitch__1_l1 p0 B) (w64 ((p0.length : Int) - 1), gz0)) fun z0 => match z0 with
    | .inl z =>
      some z
    | .inr gz10 =>
      some (.inl gz10)
def K_stitch_Turn_l2  : List api_Stitch → (Int × api_Stitch) → Option (List api_Stitch ⊕ Empty) := fun s0 x0 => match s0, x0 with
  | s22, (x25, x27) =>
    Option.bind (K_stitch_forms x27.Kind) fun r31 =>
    Option.bind (α := Bool) (
      if r31.1.sided then
        some (!x27.Purl)
      else
        some false) fun o35 =>
    Option.bind (α := (Int × Int)) (
      if decide (0 < r31.1.b.2) then
        some (x27.B, x27.A)
      else
        some (x27.A, x27.B)) fun (o39, o40) =>
    Option.bind (appO s22 [(api_Stitch.mk x27.Kind o35 o39 o40)]) fun l47 =>
    some (.inl l47)
def K_stitch_Turn (p0 : (List api_Stitch)) : Option ((List api_Stitch) × Int) :=
  Option.bind (K_stitch_All p0) fun r6 =>
  if r6 != 0 then
    some (([] : (List api_Stitch)), r6)
  else
    Option.bind (capO (p0.length : Int)) fun z14 =>
    Option.bind (K_slices_Backward___api_Stitch_api_Stitch_ p0) fun r19 =>
    Option.bind (K_I_slices_Backward___api_Stitch_api_Stitch__1 r19 _ _ (K_stitch_Turn_l2) ([] : List api_Stitch)) fun z0 => match z0 with
      | .inl s22 =>
        some (s22, 0)
      | .inr z0 =>
        nomatch z0
def K_piece_Chart_l2 (p0 : api_Piece) : (Int × List api_Row) → Option ((Int × List api_Row) ⊕ ((api_Chart × Int) ⊕ (List api_Row))) := fun s0 => match s0 with
  | (s44, s45) =>
    if decide (s44 < (p0.Left.length : Int)) then
      Option.bind (α := List api_Row ⊕ (api_Chart × Int)) (
        Option.bind (α := (Int × Bool × Int × Int × Int)) (
          Option.bind (idxO p0.Right s44) fun x70 =>
          Option.bind (idxO p0.Right (w64 (s44 - 1))) fun x75 =>
          Option.bind (K_piece_bend (w64 (x70 - x75)) 3) fun r80 =>
          some (r80.s.Kind, r80.s.Purl, r80.s.A, r80.s.B, r80.uses)) fun (o63, o64, o65, o66, o67) =>
        Option.bind (α := (Int × Bool × Int × Int × Int)) (
          Option.bind (idxO p0.Left (w64 (s44 - 1))) fun x102 =>
          Option.bind (idxO p0.Left s44) fun x107 =>
          Option.bind (K_piece_bend (w64 (x102 - x107)) 4) fun r112 =>
          some (r112.s.Kind, r112.s.Purl, r112.s.A, r112.s.B, r112.uses)) fun (o95, o96, o97, o98, o99) =>
        Option.bind (idxO p0.Right (w64 (s44 - 1))) fun x127 =>
        Option.bind (idxO p0.Left (w64 (s44 - 1))) fun x132 =>
        if decide ((w64 ((w64 ((w64 (x127 - x132)) - o67)) - o99)) < 1) then
          some (.inr ((api_Chart.mk 0 ([] : (List api_Row))), 22))
        else
          Option.bind (α := List api_Stitch) (
            if o63 != 0 then
              Option.bind (appO ([] : List api_Stitch) [(api_Stitch.mk o63 o64 o65 o66)]) fun l157 =>
              some l157
            else
              some ([] : List api_Stitch)) fun o148 =>
          Option.bind (α := List api_Stitch) (
            Option.bind (whileK (K_piece_Chart_l1 x127 x132 o67 o99) (o148, 0)) fun e174 =>
              some e174) fun o161 =>
          Option.bind (α := List api_Stitch) (
            if o95 != 0 then
              Option.bind (appO o161 [(api_Stitch.mk o95 o96 o97 o98)]) fun l196 =>
              some l196
            else
              some o161) fun o187 =>
          Option.bind (remI s44 2) fun z201 =>
          Option.bind (α := List api_Stitch) (
            if z201 == 1 then
              Option.bind (K_stitch_Turn o187) fun r210 =>
              some r210.1
            else
              some o187) fun o203 =>
          Option.bind (appO s45 [(api_Row.mk (z201 == 1) o203)]) fun l217 =>
          some (.inl l217)) fun z0 => match z0 with
        | .inl o57 =>
          some (.inl (w64 (s44 + 1), o57))
        | .inr z =>
          some (.inr (.inl z))
    else
      some (.inr (.inr s45))
def K_piece_Chart (p0 : api_Piece) : Option (api_Chart × Int) :=
  Option.bind (K_piece_Check p0) fun r14 =>
  if r14 != 0 then
    some ((api_Chart.mk 0 ([] : (List api_Row))), r14)
  else
    Option.bind (idxO p0.Right 0) fun x20 =>
    Option.bind (idxO p0.Left 0) fun x25 =>
    Option.bind (α := List api_Row ⊕ (api_Chart × Int)) (
      Option.bind (whileK (K_piece_Chart_l2 p0) (1, ([] : List api_Row))) fun z0 => match z0 with
        | .inl z =>
          some (.inr z)
        | .inr e51 =>
          some (.inl e51)) fun z0 => match z0 with
      | .inl o38 =>
        some ((api_Chart.mk (w64 (x20 - x25)) o38), 0)
      | .inr z =>
        some z
def K_piece_grows (p0 : api_Stitch) : Option Int :=
  if p0.Kind == 5 then
    some (w64 (p0.A - 1))
  else
    if p0.Kind == 9 then
      some p0.A
    else
      Option.bind (α := Bool) (
        if p0.Kind == 3 then
          some (p0.Kind == 3)
        else
          some (p0.Kind == 4)) fun o11 =>
      if o11 then
        some (w64 (1 - p0.A))
      else
        if p0.Kind == 10 then
          some (w64 (0 - p0.A))
        else
          some 0
def K_piece_Read_l1 (p0 : api_Chart) : (Int × List Int × List Int) → Option ((Int × List Int × List Int) ⊕ ((api_Piece × Int) ⊕ (List Int × List Int))) := fun s0 => match s0 with
  | (s34, s35, s38) =>
    if decide (s34 < (p0.Rows.length : Int)) then
      Option.bind (idxO p0.Rows s34) fun x55 =>
      Option.bind (α := Bool) (
        if (x55.Cells.length : Int) == 0 then
          some true
        else
          Option.bind (K_stitch_All x55.Cells) fun r71 =>
          some (r71 != 0)) fun o67 =>
      if o67 then
        some (.inr (.inl ((api_Piece.mk ([] : (List Int)) ([] : (List Int))), 8)))
      else
        Option.bind (idxO x55.Cells 0) fun x76 =>
        Option.bind (K_piece_grows x76) fun r81 =>
        Option.bind (idxO x55.Cells (w64 ((x55.Cells.length : Int) - 1))) fun x83 =>
        Option.bind (K_piece_grows x83) fun r88 =>
        Option.bind (α := (Int × Int)) (
          if x55.Back then
            some (r88, r81)
          else
            some (r81, r88)) fun (o96, o97) =>
        Option.bind (idxO s35 s34) fun x103 =>
        Option.bind (appO s35 ([w64 (x103 - o97)] : List Int)) fun l110 =>
        Option.bind (idxO s38 s34) fun x121 =>
        Option.bind (appO s38 ([w64 (x121 + o96)] : List Int)) fun l128 =>
        some (.inl (w64 (s34 + 1), l110, l128))
    else
      some (.inr (.inr (s35, s38)))
def K_slices_Equal___api_Stitch_api_Stitch__l1 (p0 : (List api_Stitch)) (p1 : (List api_Stitch)) : Int → Option (Int ⊕ (Bool ⊕ Unit)) := fun s0 => match s0 with
  | s13 =>
    if decide (s13 < (p0.length : Int)) then
      Option.bind (idxO p0 s13) fun x23 =>
      Option.bind (idxO p1 s13) fun x28 =>
      if !((x23.Kind == x28.Kind) && ((x23.Purl == x28.Purl) && ((x23.A == x28.A) && ((x23.B == x28.B) && true)))) then
        some (.inr (.inl false))
      else
        some (.inl (w64 (s13 + 1)))
    else
      some (.inr (.inr ()))
def K_slices_Equal___api_Stitch_api_Stitch_ (p0 : (List api_Stitch)) (p1 : (List api_Stitch)) : Option Bool :=
  if (p0.length : Int) != (p1.length : Int) then
    some false
  else
    Option.bind (α := Unit ⊕ Bool) (
      Option.bind (whileK (K_slices_Equal___api_Stitch_api_Stitch__l1 p0 p1) 0) fun z0 => match z0 with
        | .inl z =>
          some (.inr z)
        | .inr _ =>
          some (.inl ())) fun z0 => match z0 with
      | .inl _ =>
        some true
      | .inr z =>
        some z
def K_stitch_Same (p0 : (List api_Stitch)) (p1 : (List api_Stitch)) : Option Bool :=
  Option.bind (K_slices_Equal___api_Stitch_api_Stitch_ p0 p1) fun r7 =>
  some r7
def K_piece_Read_l2 (p0 : api_Chart) (r140 : (api_Chart × Int)) : Int → Option (Int ⊕ ((api_Piece × Int) ⊕ Unit)) := fun s0 => match s0 with
  | s155 =>
    if decide (s155 < (p0.Rows.length : Int)) then
      Option.bind (idxO p0.Rows s155) fun x164 =>
      Option.bind (α := Bool) (
        Option.bind (idxO r140.1.Rows s155) fun x177 =>
        if x164.Back != x177.Back then
          some true
        else
          Option.bind (K_stitch_Same x164.Cells x177.Cells) fun r197 =>
          some (!r197)) fun o174 =>
      if o174 then
        some (.inr (.inl ((api_Piece.mk ([] : (List Int)) ([] : (List Int))), 8)))
      else
        some (.inl (w64 (s155 + 1)))
    else
      some (.inr (.inr ()))
def K_piece_Read (p0 : api_Chart) (p1 : Int) : Option (api_Piece × Int) :=
  Option.bind (α := Bool) (
    Option.bind (K_piece_column p1) fun r12 =>
    if !r12 then
      some true
    else
      if decide (p0.Start < 1) then
        some true
      else
        if decide (200 < p0.Start) then
          some true
        else
          some (decide (100 ≤ (p0.Rows.length : Int)))) fun o9 =>
  if o9 then
    some ((api_Piece.mk ([] : (List Int)) ([] : (List Int))), 8)
  else
    Option.bind (α := (List Int × List Int) ⊕ (api_Piece × Int)) (
      Option.bind (whileK (K_piece_Read_l1 p0) (0, ([p1] : List Int), ([w64 (p1 + p0.Start)] : List Int))) fun z0 => match z0 with
        | .inl z =>
          some (.inr z)
        | .inr (e44, e47) =>
          some (.inl (e44, e47))) fun z0 => match z0 with
      | .inl (o25, o28) =>
        Option.bind (K_piece_Chart (api_Piece.mk o25 o28)) fun r140 =>
        if r140.2 != 0 then
          some ((api_Piece.mk ([] : (List Int)) ([] : (List Int))), 8)
        else
          Option.bind (α := Unit ⊕ (api_Piece × Int)) (
            Option.bind (whileK (K_piece_Read_l2 p0 r140) 0) fun z0 => match z0 with
              | .inl z =>
                some (.inr z)
              | .inr _ =>
                some (.inl ())) fun z0 => match z0 with
            | .inl _ =>
              some ((api_Piece.mk o25 o28), 0)
            | .inr z =>
              some z
      | .inr z =>
        some z
def K_raddleref36_Same_l1 (p0 : (List Int)) (p1 : (List Int)) : Int → Option (Int ⊕ (Bool ⊕ Unit)) := fun s0 => match s0 with
  | s13 =>
    if decide (s13 < (p0.length : Int)) then
      Option.bind (idxO p0 s13) fun x22 =>
      Option.bind (idxO p1 s13) fun x27 =>
      if x22 != x27 then
        some (.inr (.inl false))
      else
        some (.inl (w64 (s13 + 1)))
    else
      some (.inr (.inr ()))
def K_raddleref36_Same (p0 : (List Int)) (p1 : (List Int)) : Option Bool :=
  if (p0.length : Int) != (p1.length : Int) then
    some false
  else
    Option.bind (α := Unit ⊕ Bool) (
      Option.bind (whileK (K_raddleref36_Same_l1 p0 p1) 0) fun z0 => match z0 with
        | .inl z =>
          some (.inr z)
        | .inr _ =>
          some (.inl ())) fun z0 => match z0 with
      | .inl _ =>
        some true
      | .inr z =>
        some z
def K_raddleref37_Same (p0 : api_Piece) (p1 : api_Piece) : Option Bool :=
  Option.bind (α := Bool) (
    Option.bind (K_raddleref36_Same p0.Left p1.Left) fun r23 =>
    if r23 then
      Option.bind (K_raddleref36_Same p0.Right p1.Right) fun r26 =>
      some r26
    else
      some false) fun o20 =>
  some o20
def K_stitch_text_l1 (p0 : (List api_Stitch)) (s14 : Int) : Int → Option (Int ⊕ Int) := fun s0 => match s0 with
  | s28 =>
    Option.bind (α := Bool) (
      Option.bind (idxO p0 s14) fun x37 =>
      if x37.Kind == 1 then
        if decide ((w64 (s14 + s28)) < (p0.length : Int)) then
          Option.bind (idxO p0 (w64 (s14 + s28))) fun x46 =>
          some ((x46.Kind == x37.Kind) && ((x46.Purl == x37.Purl) && ((x46.A == x37.A) && ((x46.B == x37.B) && true))))
        else
          some false
      else
        some false) fun o34 =>
    if o34 then
      some (.inl (w64 (s28 + 1)))
    else
      some (.inr s28)
def K_internal_strconv_small (p0 : Int) : Option ByteArray :=
  if decide (p0 < 10) then
    Option.bind (sliceS (⟨#[48, 49, 50, 51, 52, 53, 54, 55, 56, 57, 97, 98, 99, 100, 101, 102, 103, 104, 105, 106, 107, 108, 109, 110, 111, 112, 113, 114, 115, 116, 117, 118, 119, 120, 121, 122]⟩ : ByteArray) p0 (w64 (p0 + 1))) fun y6 =>
    some y6
  else
    Option.bind (sliceS (⟨#[48, 48, 48, 49, 48, 50, 48, 51, 48, 52, 48, 53, 48, 54, 48, 55, 48, 56, 48, 57, 49, 48, 49, 49, 49, 50, 49, 51, 49, 52, 49, 53, 49, 54, 49, 55, 49, 56, 49, 57, 50, 48, 50, 49, 50, 50, 50, 51, 50, 52, 50, 53, 50, 54, 50, 55, 50, 56, 50, 57, 51, 48, 51, 49, 51, 50, 51, 51, 51, 52, 51, 53, 51, 54, 51, 55, 51, 56, 51, 57, 52, 48, 52, 49, 52, 50, 52, 51, 52, 52, 52, 53, 52, 54, 52, 55, 52, 56, 52, 57, 53, 48, 53, 49, 53, 50, 53, 51, 53, 52, 53, 53, 53, 54, 53, 55, 53, 56, 53, 57, 54, 48, 54, 49, 54, 50, 54, 51, 54, 52, 54, 53, 54, 54, 54, 55, 54, 56, 54, 57, 55, 48, 55, 49, 55, 50, 55, 51, 55, 52, 55, 53, 55, 54, 55, 55, 55, 56, 55, 57, 56, 48, 56, 49, 56, 50, 56, 51, 56, 52, 56, 53, 56, 54, 56, 55, 56, 56, 56, 57, 57, 48, 57, 49, 57, 50, 57, 51, 57, 52, 57, 53, 57, 54, 57, 55, 57, 56, 57, 57]⟩ : ByteArray) (w64 (p0 * 2)) (w64 ((w64 (p0 * 2)) + 2))) fun y9 =>
    some y9
def K_math_bits_Len64 (p0 : Int) : Option Int :=
  Option.bind (α := (Int × Int)) (
    if decide (4294967296 ≤ p0) then
      Option.bind (shrI .u64 p0 32) fun z9 =>
      some (z9, 32)
    else
      some (p0, 0)) fun (o2, o3) =>
  Option.bind (α := (Int × Int)) (
    if decide (65536 ≤ o2) then
      Option.bind (shrI .u64 o2 16) fun z18 =>
      some (z18, w64 (o3 + 16))
    else
      some (o2, o3)) fun (o11, o12) =>
  Option.bind (α := (Int × Int)) (
    if decide (256 ≤ o11) then
      Option.bind (shrI .u64 o11 8) fun z27 =>
      some (z27, w64 (o12 + 8))
    else
      some (o11, o12)) fun (o20, o21) =>
  Option.bind (idxS (⟨#[0, 1, 2, 2, 3, 3, 3, 3, 4, 4, 4, 4, 4, 4, 4, 4, 5, 5, 5, 5, 5, 5, 5, 5, 5, 5, 5, 5, 5, 5, 5, 5, 6, 6, 6, 6, 6, 6, 6, 6, 6, 6, 6, 6, 6, 6, 6, 6, 6, 6, 6, 6, 6, 6, 6, 6, 6, 6, 6, 6, 6, 6, 6, 6, 7, 7, 7, 7, 7, 7, 7, 7, 7, 7, 7, 7, 7, 7, 7, 7, 7, 7, 7, 7, 7, 7, 7, 7, 7, 7, 7, 7, 7, 7, 7, 7, 7, 7, 7, 7, 7, 7, 7, 7, 7, 7, 7, 7, 7, 7, 7, 7, 7, 7, 7, 7, 7, 7, 7, 7, 7, 7, 7, 7, 7, 7, 7, 7, 8, 8, 8, 8, 8, 8, 8, 8, 8, 8, 8, 8, 8, 8, 8, 8, 8, 8, 8, 8, 8, 8, 8, 8, 8, 8, 8, 8, 8, 8, 8, 8, 8, 8, 8, 8, 8, 8, 8, 8, 8, 8, 8, 8, 8, 8, 8, 8, 8, 8, 8, 8, 8, 8, 8, 8, 8, 8, 8, 8, 8, 8, 8, 8, 8, 8, 8, 8, 8, 8, 8, 8, 8, 8, 8, 8, 8, 8, 8, 8, 8, 8, 8, 8, 8, 8, 8, 8, 8, 8, 8, 8, 8, 8, 8, 8, 8, 8, 8, 8, 8, 8, 8, 8, 8, 8, 8, 8, 8, 8, 8, 8, 8, 8, 8, 8, 8, 8, 8, 8, 8, 8, 8, 8, 8, 8, 8, 8]⟩ : ByteArray) (IntKind.u8.wrap o20)) fun x30 =>
  some (w64 (o21 + (IntKind.i64.wrap x30)))
def K_internal_strconv_log10Pow2 (p0 : Int) : Option Int :=
  Option.bind (shrI .i64 (w64 (p0 * 78913)) 18) fun z3 =>
  some z3
def K_internal_strconv_numDigits (p0 : Int) : Option Int :=
  Option.bind (K_math_bits_Len64 p0) fun r3 =>
  Option.bind (K_internal_strconv_log10Pow2 r3) fun r5 =>
  none
def K_internal_strconv_FormatInt (p0 : Int) (p1 : Int) : Option ByteArray :=
  if p1 == 10 then
    Option.bind (α := Bool) (
      if decide (0 ≤ p0) then
        some (decide (p0 < 100))
      else
        some false) fun o6 =>
    if o6 then
      Option.bind (K_internal_strconv_small p0) fun r12 =>
      some r12
    else
      Option.bind (α := Int) (
        if decide (p0 < 0) then
          some (IntKind.u64.wrap (0 - (IntKind.u64.wrap p0)))
        else
          some (IntKind.u64.wrap p0)) fun o17 =>
      Option.bind (K_internal_strconv_numDigits o17) fun r23 =>
      none
  else
    none
def K_internal_strconv_Itoa (p0 : Int) : Option ByteArray :=
  Option.bind (K_internal_strconv_FormatInt p0 10) fun r3 =>
  some r3
def K_strconv_Itoa (p0 : Int) : Option ByteArray :=
  Option.bind (K_internal_strconv_Itoa p0) fun r3 =>
  some r3
def K_stitch_word (p0 : api_Stitch) : Option ByteArray :=
  if p0.Kind == 2 then
    some (⟨#[121, 111]⟩ : ByteArray)
  else
    if p0.Kind == 9 then
      Option.bind (K_strconv_Itoa p0.A) fun r11 =>
      Option.bind (addS (⟨#[111, 110]⟩ : ByteArray) r11) fun z13 =>
      some z13
    else
      Option.bind (K_stitch_forms p0.Kind) fun r16 =>
      Option.bind (α := ByteArray) (
        if p0.Purl then
          some (⟨#[112]⟩ : ByteArray)
        else
          some (⟨#[107]⟩ : ByteArray)) fun o21 =>
      Option.bind (addS o21 r16.1.letter) fun z27 =>
      Option.bind (α := ByteArray) (
        if decide (0 < r16.1.a.2) then
          Option.bind (K_strconv_Itoa p0.A) fun r34 =>
          Option.bind (addS z27 r34) fun z36 =>
          some z36
        else
          some z27) fun o29 =>
      Option.bind (α := ByteArray) (
        if decide (0 < r16.1.b.2) then
          Option.bind (K_strconv_Itoa p0.B) fun r43 =>
          Option.bind (addS (⟨#[47]⟩ : ByteArray) r43) fun z45 =>
          Option.bind (addS o29 z45) fun z47 =>
          some z47
        else
          some o29) fun o38 =>
      some o38
def K_stitch_text_l2 (p0 : (List api_Stitch)) : (List ByteArray × Int) → Option ((List ByteArray × Int) ⊕ List ByteArray) := fun s0 => match s0 with
  | (s11, s14) =>
    if decide (s14 < (p0.length : Int)) then
      Option.bind (α := Int) (
        Option.bind (whileK (K_stitch_text_l1 p0 s14) 1) fun e32 =>
          some e32) fun o25 =>
      Option.bind (idxO p0 s14) fun x77 =>
      Option.bind (K_stitch_word x77) fun r82 =>
      Option.bind (α := ByteArray) (
        if decide (1 < o25) then
          Option.bind (K_strconv_Itoa o25) fun r89 =>
          Option.bind (addS r82 r89) fun z91 =>
          some z91
        else
          some r82) fun o84 =>
      Option.bind (appO s11 [o84]) fun l96 =>
      some (.inl (l96, w64 (s14 + o25)))
    else
      some (.inr s11)
def K_strings_Join (p0 : List ByteArray) (p1 : ByteArray) : Option ByteArray :=
  if decide (p0.length ≤ 140737488355328 ∧ (Lib.join (p0.map (·.data.toList)) p1.data.toList).length ≤ 140737488355328) then
    some ⟨(Lib.join (p0.map (·.data.toList)) p1.data.toList).toArray⟩
  else
    none
def K_stitch_text (p0 : (List api_Stitch)) : Option ByteArray :=
  Option.bind (α := List ByteArray) (
    Option.bind (whileK (K_stitch_text_l2 p0) (([] : List ByteArray), 0)) fun e18 =>
      some e18) fun o5 =>
  Option.bind (K_strings_Join o5 (⟨#[32]⟩ : ByteArray)) fun r101 =>
  some r101
def K_stitch_Text (p0 : (List api_Stitch)) : Option (ByteArray × Int) :=
  Option.bind (K_stitch_All p0) fun r6 =>
  if r6 != 0 then
    some ((⟨#[]⟩ : ByteArray), r6)
  else
    Option.bind (K_stitch_text p0) fun r12 =>
    if decide (3000 < (r12.size : Int)) then
      some ((⟨#[]⟩ : ByteArray), 4)
    else
      some (r12, 0)
theorem m_F_raddlelaw37_given  : Le (K_raddlelaw37_given) (F_raddlelaw37_given) := by
  unfold K_raddlelaw37_given F_raddlelaw37_given
  with_reducible repeat' (first | exact Le.rfl _ | refine Le.loop _ ?_ | refine Le.bind ?_ ?_ | refine Le.ite ?_ ?_ | refine Le.sum ?_ ?_ | refine Le.prod ?_ | intro _ | exact Empty.elim (by assumption) | dsimp only)
theorem m_F_piece_column (p0 : Int) : Le (K_piece_column p0) (F_piece_column p0) := by
  unfold K_piece_column F_piece_column
  with_reducible repeat' (first | exact Le.rfl _ | refine Le.loop _ ?_ | refine Le.bind ?_ ?_ | refine Le.ite ?_ ?_ | refine Le.sum ?_ ?_ | refine Le.prod ?_ | intro _ | exact Empty.elim (by assumption) | dsimp only)
theorem m_piece_side_l1 (p0 : (List api_Point)) : ∀ s, Le (K_piece_side_l1 p0 s) (piece_side_l1 p0 s) := by
  unfold K_piece_side_l1 piece_side_l1
  with_reducible repeat' (first | exact m_F_piece_column _ | exact Le.rfl _ | refine Le.loop _ ?_ | refine Le.bind ?_ ?_ | refine Le.ite ?_ ?_ | refine Le.sum ?_ ?_ | refine Le.prod ?_ | intro _ | exact Empty.elim (by assumption) | dsimp only)
theorem m_F_piece_side (p0 : (List api_Point)) : Le (K_piece_side p0) (F_piece_side p0) := by
  unfold K_piece_side F_piece_side
  with_reducible repeat' (first | exact m_piece_side_l1 _ | exact Le.rfl _ | refine Le.loop _ ?_ | refine Le.bind ?_ ?_ | refine Le.ite ?_ ?_ | refine Le.sum ?_ ?_ | refine Le.prod ?_ | intro _ | exact Empty.elim (by assumption) | dsimp only)
theorem m_F_piece_shape (p0 : api_Shape) : Le (K_piece_shape p0) (F_piece_shape p0) := by
  unfold K_piece_shape F_piece_shape
  with_reducible repeat' (first | exact m_F_piece_side _ | exact Le.rfl _ | refine Le.loop _ ?_ | refine Le.bind ?_ ?_ | refine Le.ite ?_ ?_ | refine Le.sum ?_ ?_ | refine Le.prod ?_ | intro _ | exact Empty.elim (by assumption) | dsimp only)
theorem m_F_slope_within (p0 : Int) (p1 : Int) (p2 : Int) : Le (K_slope_within p0 p1 p2) (F_slope_within p0 p1 p2) := by
  unfold K_slope_within F_slope_within
  with_reducible repeat' (first | exact Le.rfl _ | refine Le.loop _ ?_ | refine Le.bind ?_ ?_ | refine Le.ite ?_ ?_ | refine Le.sum ?_ ?_ | refine Le.prod ?_ | intro _ | exact Empty.elim (by assumption) | dsimp only)
theorem m_F_slope_check (p0 : Int) (p1 : Int) (p2 : Int) : Le (K_slope_check p0 p1 p2) (F_slope_check p0 p1 p2) := by
  unfold K_slope_check F_slope_check
  with_reducible repeat' (first | exact m_F_slope_within _ _ _ | exact Le.rfl _ | refine Le.loop _ ?_ | refine Le.bind ?_ ?_ | refine Le.ite ?_ ?_ | refine Le.sum ?_ ?_ | refine Le.prod ?_ | intro _ | exact Empty.elim (by assumption) | dsimp only)
theorem m_F_slope_at (p0 : Int) (p1 : Int) (p2 : Int) (p3 : Int) : Le (K_slope_at p0 p1 p2 p3) (F_slope_at p0 p1 p2 p3) := by
  unfold K_slope_at F_slope_at
  with_reducible repeat' (first | exact Le.rfl _ | refine Le.loop _ ?_ | refine Le.bind ?_ ?_ | refine Le.ite ?_ ?_ | refine Le.sum ?_ ?_ | refine Le.prod ?_ | intro _ | exact Empty.elim (by assumption) | dsimp only)
theorem m_F_slope_Line_1_s0 (p0 : Int) (p1 : Int) (p2 : Int) (p3 : Int) : Le (K_slope_Line_1_s0 p0 p1 p2 p3) (F_slope_Line_1_s0 p0 p1 p2 p3) := by
  unfold K_slope_Line_1_s0 F_slope_Line_1_s0
  with_reducible repeat' (first | exact m_F_slope_at _ _ _ _ | exact Le.rfl _ | refine Le.loop _ ?_ | refine Le.bind ?_ ?_ | refine Le.ite ?_ ?_ | refine Le.sum ?_ ?_ | refine Le.prod ?_ | intro _ | exact Empty.elim (by assumption) | dsimp only)
theorem m_slope_list_int__s0_l1 (p0 : Int) (p1 : Int) (p2 : Int) (p3 : Int) : ∀ s, Le (K_slope_list_int__s0_l1 p0 p1 p2 p3 s) (slope_list_int__s0_l1 p0 p1 p2 p3 s) := by
  unfold K_slope_list_int__s0_l1 slope_list_int__s0_l1
  with_reducible repeat' (first | exact m_F_slope_Line_1_s0 _ _ _ _ | exact Le.rfl _ | refine Le.loop _ ?_ | refine Le.bind ?_ ?_ | refine Le.ite ?_ ?_ | refine Le.sum ?_ ?_ | refine Le.prod ?_ | intro _ | exact Empty.elim (by assumption) | dsimp only)
theorem m_F_slope_list_int__s0 (p0 : Int) (p1 : Int) (p2 : Int) (p3 : Int) : Le (K_slope_list_int__s0 p0 p1 p2 p3) (F_slope_list_int__s0 p0 p1 p2 p3) := by
  unfold K_slope_list_int__s0 F_slope_list_int__s0
  with_reducible repeat' (first | exact m_slope_list_int__s0_l1 _ _ _ _ | exact Le.rfl _ | refine Le.loop _ ?_ | refine Le.bind ?_ ?_ | refine Le.ite ?_ ?_ | refine Le.sum ?_ ?_ | refine Le.prod ?_ | intro _ | exact Empty.elim (by assumption) | dsimp only)
theorem m_F_slope_Line (p0 : Int) (p1 : Int) (p2 : Int) : Le (K_slope_Line p0 p1 p2) (F_slope_Line p0 p1 p2) := by
  unfold K_slope_Line F_slope_Line
  with_reducible repeat' (first | exact m_F_slope_check _ _ _ | exact m_F_slope_list_int__s0 _ _ _ _ | exact Le.rfl _ | refine Le.loop _ ?_ | refine Le.bind ?_ ?_ | refine Le.ite ?_ ?_ | refine Le.sum ?_ ?_ | refine Le.prod ?_ | intro _ | exact Empty.elim (by assumption) | dsimp only)
theorem m_piece_columns_l1 (y20 : List api_Point) (p0 : (List api_Point)) : ∀ s, Le (K_piece_columns_l1 y20 p0 s) (piece_columns_l1 y20 p0 s) := by
  unfold K_piece_columns_l1 piece_columns_l1
  with_reducible repeat' (first | exact m_F_slope_Line _ _ _ | exact Le.rfl _ | refine Le.loop _ ?_ | refine Le.bind ?_ ?_ | refine Le.ite ?_ ?_ | refine Le.sum ?_ ?_ | refine Le.prod ?_ | intro _ | exact Empty.elim (by assumption) | dsimp only)
theorem m_F_piece_columns (p0 : (List api_Point)) : Le (K_piece_columns p0) (F_piece_columns p0) := by
  unfold K_piece_columns F_piece_columns
  with_reducible repeat' (first | exact m_piece_columns_l1 _ _ | exact Le.rfl _ | refine Le.loop _ ?_ | refine Le.bind ?_ ?_ | refine Le.ite ?_ ?_ | refine Le.sum ?_ ?_ | refine Le.prod ?_ | intro _ | exact Empty.elim (by assumption) | dsimp only)
theorem m_piece_Check_l1 (p0 : api_Piece) : ∀ s, Le (K_piece_Check_l1 p0 s) (piece_Check_l1 p0 s) := by
  unfold K_piece_Check_l1 piece_Check_l1
  with_reducible repeat' (first | exact m_F_piece_column _ | exact Le.rfl _ | refine Le.loop _ ?_ | refine Le.bind ?_ ?_ | refine Le.ite ?_ ?_ | refine Le.sum ?_ ?_ | refine Le.prod ?_ | intro _ | exact Empty.elim (by assumption) | dsimp only)
theorem m_F_piece_Check (p0 : api_Piece) : Le (K_piece_Check p0) (F_piece_Check p0) := by
  unfold K_piece_Check F_piece_Check
  with_reducible repeat' (first | exact m_piece_Check_l1 _ | exact Le.rfl _ | refine Le.loop _ ?_ | refine Le.bind ?_ ?_ | refine Le.ite ?_ ?_ | refine Le.sum ?_ ?_ | refine Le.prod ?_ | intro _ | exact Empty.elim (by assumption) | dsimp only)
theorem m_F_piece_Make (p0 : api_Shape) : Le (K_piece_Make p0) (F_piece_Make p0) := by
  unfold K_piece_Make F_piece_Make
  with_reducible repeat' (first | exact m_F_piece_shape _ | exact m_F_piece_columns _ | exact m_F_piece_Check _ | exact Le.rfl _ | refine Le.loop _ ?_ | refine Le.bind ?_ ?_ | refine Le.ite ?_ ?_ | refine Le.sum ?_ ?_ | refine Le.prod ?_ | intro _ | exact Empty.elim (by assumption) | dsimp only)
theorem m_F_raddlelaw37_made  : Le (K_raddlelaw37_made) (F_raddlelaw37_made) := by
  unfold K_raddlelaw37_made F_raddlelaw37_made
  with_reducible repeat' (first | exact Le.rfl _ | refine Le.loop _ ?_ | refine Le.bind ?_ ?_ | refine Le.ite ?_ ?_ | refine Le.sum ?_ ?_ | refine Le.prod ?_ | intro _ | exact Empty.elim (by assumption) | dsimp only)
theorem m_F_piece_bend (p0 : Int) (p1 : Int) : Le (K_piece_bend p0 p1) (F_piece_bend p0 p1) := by
  unfold K_piece_bend F_piece_bend
  with_reducible repeat' (first | exact Le.rfl _ | refine Le.loop _ ?_ | refine Le.bind ?_ ?_ | refine Le.ite ?_ ?_ | refine Le.sum ?_ ?_ | refine Le.prod ?_ | intro _ | exact Empty.elim (by assumption) | dsimp only)
theorem m_piece_Chart_l1 (x127 : Int) (x132 : Int) (o67 : Int) (o99 : Int) : ∀ s, Le (K_piece_Chart_l1 x127 x132 o67 o99 s) (piece_Chart_l1 x127 x132 o67 o99 s) := by
  unfold K_piece_Chart_l1 piece_Chart_l1
  with_reducible repeat' (first | exact Le.rfl _ | refine Le.loop _ ?_ | refine Le.bind ?_ ?_ | refine Le.ite ?_ ?_ | refine Le.sum ?_ ?_ | refine Le.prod ?_ | intro _ | exact Empty.elim (by assumption) | dsimp only)
theorem m_F_stitch_forms (p0 : Int) : Le (K_stitch_forms p0) (F_stitch_forms p0) := by
  unfold K_stitch_forms F_stitch_forms
  with_reducible repeat' (first | exact Le.rfl _ | refine Le.loop _ ?_ | refine Le.bind ?_ ?_ | refine Le.ite ?_ ?_ | refine Le.sum ?_ ?_ | refine Le.prod ?_ | intro _ | exact Empty.elim (by assumption) | dsimp only)
theorem m_F_stitch_within (p0 : Int) (p1 : (Int × Int)) : Le (K_stitch_within p0 p1) (F_stitch_within p0 p1) := by
  unfold K_stitch_within F_stitch_within
  with_reducible repeat' (first | exact Le.rfl _ | refine Le.loop _ ?_ | refine Le.bind ?_ ?_ | refine Le.ite ?_ ?_ | refine Le.sum ?_ ?_ | refine Le.prod ?_ | intro _ | exact Empty.elim (by assumption) | dsimp only)
theorem m_F_stitch_Check (p0 : api_Stitch) : Le (K_stitch_Check p0) (F_stitch_Check p0) := by
  unfold K_stitch_Check F_stitch_Check
  with_reducible repeat' (first | exact m_F_stitch_forms _ | exact m_F_stitch_within _ _ | exact Le.rfl _ | refine Le.loop _ ?_ | refine Le.bind ?_ ?_ | refine Le.ite ?_ ?_ | refine Le.sum ?_ ?_ | refine Le.prod ?_ | intro _ | exact Empty.elim (by assumption) | dsimp only)
theorem m_F_stitch_All_1 (p0 : api_Stitch) : Le (K_stitch_All_1 p0) (F_stitch_All_1 p0) := by
  unfold K_stitch_All_1 F_stitch_All_1
  with_reducible repeat' (first | exact m_F_stitch_Check _ | exact Le.rfl _ | refine Le.loop _ ?_ | refine Le.bind ?_ ?_ | refine Le.ite ?_ ?_ | refine Le.sum ?_ ?_ | refine Le.prod ?_ | intro _ | exact Empty.elim (by assumption) | dsimp only)
theorem m_slices_IndexFunc___api_Stitch_api_Stitch__s0_l1 (p0 : (List api_Stitch)) : ∀ s, Le (K_slices_IndexFunc___api_Stitch_api_Stitch__s0_l1 p0 s) (slices_IndexFunc___api_Stitch_api_Stitch__s0_l1 p0 s) := by
  unfold K_slices_IndexFunc___api_Stitch_api_Stitch__s0_l1 slices_IndexFunc___api_Stitch_api_Stitch__s0_l1
  with_reducible repeat' (first | exact m_F_stitch_All_1 _ | exact Le.rfl _ | refine Le.loop _ ?_ | refine Le.bind ?_ ?_ | refine Le.ite ?_ ?_ | refine Le.sum ?_ ?_ | refine Le.prod ?_ | intro _ | exact Empty.elim (by assumption) | dsimp only)
theorem m_F_slices_IndexFunc___api_Stitch_api_Stitch__s0 (p0 : (List api_Stitch)) : Le (K_slices_IndexFunc___api_Stitch_api_Stitch__s0 p0) (F_slices_IndexFunc___api_Stitch_api_Stitch__s0 p0) := by
  unfold K_slices_IndexFunc___api_Stitch_api_Stitch__s0 F_slices_IndexFunc___api_Stitch_api_Stitch__s0
  with_reducible repeat' (first | exact m_slices_IndexFunc___api_Stitch_api_Stitch__s0_l1 _ | exact Le.rfl _ | refine Le.loop _ ?_ | refine Le.bind ?_ ?_ | refine Le.ite ?_ ?_ | refine Le.sum ?_ ?_ | refine Le.prod ?_ | intro _ | exact Empty.elim (by assumption) | dsimp only)
theorem m_F_slices_ContainsFunc___api_Stitch_api_Stitch__s0 (p0 : (List api_Stitch)) : Le (K_slices_ContainsFunc___api_Stitch_api_Stitch__s0 p0) (F_slices_ContainsFunc___api_Stitch_api_Stitch__s0 p0) := by
  unfold K_slices_ContainsFunc___api_Stitch_api_Stitch__s0 F_slices_ContainsFunc___api_Stitch_api_Stitch__s0
  with_reducible repeat' (first | exact m_F_slices_IndexFunc___api_Stitch_api_Stitch__s0 _ | exact Le.rfl _ | refine Le.loop _ ?_ | refine Le.bind ?_ ?_ | refine Le.ite ?_ ?_ | refine Le.sum ?_ ?_ | refine Le.prod ?_ | intro _ | exact Empty.elim (by assumption) | dsimp only)
theorem m_F_stitch_loops (p0 : api_Stitch) (p1 : Int) : Le (K_stitch_loops p0 p1) (F_stitch_loops p0 p1) := by
  unfold K_stitch_loops F_stitch_loops
  with_reducible repeat' (first | exact Le.rfl _ | refine Le.loop _ ?_ | refine Le.bind ?_ ?_ | refine Le.ite ?_ ?_ | refine Le.sum ?_ ?_ | refine Le.prod ?_ | intro _ | exact Empty.elim (by assumption) | dsimp only)
theorem m_stitch_sum_l1 (p0 : (List api_Stitch)) : ∀ s, Le (K_stitch_sum_l1 p0 s) (stitch_sum_l1 p0 s) := by
  unfold K_stitch_sum_l1 stitch_sum_l1
  with_reducible repeat' (first | exact m_F_stitch_forms _ | exact m_F_stitch_loops _ _ | exact Le.rfl _ | refine Le.loop _ ?_ | refine Le.bind ?_ ?_ | refine Le.ite ?_ ?_ | refine Le.sum ?_ ?_ | refine Le.prod ?_ | intro _ | exact Empty.elim (by assumption) | dsimp only)
theorem m_F_stitch_sum (p0 : (List api_Stitch)) : Le (K_stitch_sum p0) (F_stitch_sum p0) := by
  unfold K_stitch_sum F_stitch_sum
  with_reducible repeat' (first | exact m_stitch_sum_l1 _ | exact Le.rfl _ | refine Le.loop _ ?_ | refine Le.bind ?_ ?_ | refine Le.ite ?_ ?_ | refine Le.sum ?_ ?_ | refine Le.prod ?_ | intro _ | exact Empty.elim (by assumption) | dsimp only)
theorem m_F_stitch_All (p0 : (List api_Stitch)) : Le (K_stitch_All p0) (F_stitch_All p0) := by
  unfold K_stitch_All F_stitch_All
  with_reducible repeat' (first | exact m_F_slices_ContainsFunc___api_Stitch_api_Stitch__s0 _ | exact m_F_stitch_sum _ | exact Le.rfl _ | refine Le.loop _ ?_ | refine Le.bind ?_ ?_ | refine Le.ite ?_ ?_ | refine Le.sum ?_ ?_ | refine Le.prod ?_ | intro _ | exact Empty.elim (by assumption) | dsimp only)
theorem m_F_slices_Backward___api_Stitch_api_Stitch_ (p0 : (List api_Stitch)) : Le (K_slices_Backward___api_Stitch_api_Stitch_ p0) (F_slices_Backward___api_Stitch_api_Stitch_ p0) := by
  unfold K_slices_Backward___api_Stitch_api_Stitch_ F_slices_Backward___api_Stitch_api_Stitch_
  with_reducible repeat' (first | exact Le.rfl _ | refine Le.loop _ ?_ | refine Le.bind ?_ ?_ | refine Le.ite ?_ ?_ | refine Le.sum ?_ ?_ | refine Le.prod ?_ | intro _ | exact Empty.elim (by assumption) | dsimp only)
theorem m_slices_Backward___api_Stitch_api_Stitch__1_l1 {σ τ : Type} (p0 : (List api_Stitch)) (B B' : σ → (Int × api_Stitch) → Option (σ ⊕ τ)) (hB : ∀ s x, Le (B s x) (B' s x)) : ∀ s, Le (K_slices_Backward___api_Stitch_api_Stitch__1_l1 p0 B s) (slices_Backward___api_Stitch_api_Stitch__1_l1 p0 B' s) := by
  unfold K_slices_Backward___api_Stitch_api_Stitch__1_l1 slices_Backward___api_Stitch_api_Stitch__1_l1
  with_reducible repeat' (first | exact hB _ _ | exact Le.rfl _ | refine Le.loop _ ?_ | refine Le.bind ?_ ?_ | refine Le.ite ?_ ?_ | refine Le.sum ?_ ?_ | refine Le.prod ?_ | intro _ | exact Empty.elim (by assumption) | dsimp only)
theorem m_I_slices_Backward___api_Stitch_api_Stitch__1 (p0 : (List api_Stitch)) (σ τ : Type) (B B' : σ → (Int × api_Stitch) → Option (σ ⊕ τ)) (hB : ∀ s x, Le (B s x) (B' s x)) (gz0 : σ) : Le (K_I_slices_Backward___api_Stitch_api_Stitch__1 p0 σ τ B gz0) (I_slices_Backward___api_Stitch_api_Stitch__1 p0 σ τ B' gz0) := by
  unfold K_I_slices_Backward___api_Stitch_api_Stitch__1 I_slices_Backward___api_Stitch_api_Stitch__1
  with_reducible repeat' (first | exact hB _ _ | exact m_slices_Backward___api_Stitch_api_Stitch__1_l1 _ _ _ hB | exact Le.rfl _ | refine Le.loop _ ?_ | refine Le.bind ?_ ?_ | refine Le.ite ?_ ?_ | refine Le.sum ?_ ?_ | refine Le.prod ?_ | intro _ | exact Empty.elim (by assumption) | dsimp only)
theorem m_stitch_Turn_l2  : ∀ s x, Le (K_stitch_Turn_l2 s x) (stitch_Turn_l2 s x) := by
  unfold K_stitch_Turn_l2 stitch_Turn_l2
  with_reducible repeat' (first | exact m_F_stitch_forms _ | exact Le.rfl _ | refine Le.loop _ ?_ | refine Le.bind ?_ ?_ | refine Le.ite ?_ ?_ | refine Le.sum ?_ ?_ | refine Le.prod ?_ | intro _ | exact Empty.elim (by assumption) | dsimp only)
theorem m_F_stitch_Turn (p0 : (List api_Stitch)) : Le (K_stitch_Turn p0) (F_stitch_Turn p0) := by
  unfold K_stitch_Turn F_stitch_Turn
  with_reducible repeat' (first | exact m_F_stitch_All _ | exact m_F_slices_Backward___api_Stitch_api_Stitch_ _ | refine m_I_slices_Backward___api_Stitch_api_Stitch__1 _ _ _ _ _ ?_ _ | exact m_stitch_Turn_l2 | exact Le.rfl _ | refine Le.loop _ ?_ | refine Le.bind ?_ ?_ | refine Le.ite ?_ ?_ | refine Le.sum ?_ ?_ | refine Le.prod ?_ | intro _ | exact Empty.elim (by assumption) | dsimp only)
theorem m_piece_Chart_l2 (p0 : api_Piece) : ∀ s, Le (K_piece_Chart_l2 p0 s) (piece_Chart_l2 p0 s) := by
  unfold K_piece_Chart_l2 piece_Chart_l2
  with_reducible repeat' (first | exact m_F_piece_bend _ _ | exact m_piece_Chart_l1 _ _ _ _ | exact m_F_stitch_Turn _ | exact Le.rfl _ | refine Le.loop _ ?_ | refine Le.bind ?_ ?_ | refine Le.ite ?_ ?_ | refine Le.sum ?_ ?_ | refine Le.prod ?_ | intro _ | exact Empty.elim (by assumption) | dsimp only)
theorem m_F_piece_Chart (p0 : api_Piece) : Le (K_piece_Chart p0) (F_piece_Chart p0) := by
  unfold K_piece_Chart F_piece_Chart
  with_reducible repeat' (first | exact m_F_piece_Check _ | exact m_piece_Chart_l2 _ | exact Le.rfl _ | refine Le.loop _ ?_ | refine Le.bind ?_ ?_ | refine Le.ite ?_ ?_ | refine Le.sum ?_ ?_ | refine Le.prod ?_ | intro _ | exact Empty.elim (by assumption) | dsimp only)
theorem m_F_piece_grows (p0 : api_Stitch) : Le (K_piece_grows p0) (F_piece_grows p0) := by
  unfold K_piece_grows F_piece_grows
  with_reducible repeat' (first | exact Le.rfl _ | refine Le.loop _ ?_ | refine Le.bind ?_ ?_ | refine Le.ite ?_ ?_ | refine Le.sum ?_ ?_ | refine Le.prod ?_ | intro _ | exact Empty.elim (by assumption) | dsimp only)
theorem m_piece_Read_l1 (p0 : api_Chart) : ∀ s, Le (K_piece_Read_l1 p0 s) (piece_Read_l1 p0 s) := by
  unfold K_piece_Read_l1 piece_Read_l1
  with_reducible repeat' (first | exact m_F_stitch_All _ | exact m_F_piece_grows _ | exact Le.rfl _ | refine Le.loop _ ?_ | refine Le.bind ?_ ?_ | refine Le.ite ?_ ?_ | refine Le.sum ?_ ?_ | refine Le.prod ?_ | intro _ | exact Empty.elim (by assumption) | dsimp only)
theorem m_slices_Equal___api_Stitch_api_Stitch__l1 (p0 : (List api_Stitch)) (p1 : (List api_Stitch)) : ∀ s, Le (K_slices_Equal___api_Stitch_api_Stitch__l1 p0 p1 s) (slices_Equal___api_Stitch_api_Stitch__l1 p0 p1 s) := by
  unfold K_slices_Equal___api_Stitch_api_Stitch__l1 slices_Equal___api_Stitch_api_Stitch__l1
  with_reducible repeat' (first | exact Le.rfl _ | refine Le.loop _ ?_ | refine Le.bind ?_ ?_ | refine Le.ite ?_ ?_ | refine Le.sum ?_ ?_ | refine Le.prod ?_ | intro _ | exact Empty.elim (by assumption) | dsimp only)
theorem m_F_slices_Equal___api_Stitch_api_Stitch_ (p0 : (List api_Stitch)) (p1 : (List api_Stitch)) : Le (K_slices_Equal___api_Stitch_api_Stitch_ p0 p1) (F_slices_Equal___api_Stitch_api_Stitch_ p0 p1) := by
  unfold K_slices_Equal___api_Stitch_api_Stitch_ F_slices_Equal___api_Stitch_api_Stitch_
  with_reducible repeat' (first | exact m_slices_Equal___api_Stitch_api_Stitch__l1 _ _ | exact Le.rfl _ | refine Le.loop _ ?_ | refine Le.bind ?_ ?_ | refine Le.ite ?_ ?_ | refine Le.sum ?_ ?_ | refine Le.prod ?_ | intro _ | exact Empty.elim (by assumption) | dsimp only)
theorem m_F_stitch_Same (p0 : (List api_Stitch)) (p1 : (List api_Stitch)) : Le (K_stitch_Same p0 p1) (F_stitch_Same p0 p1) := by
  unfold K_stitch_Same F_stitch_Same
  with_reducible repeat' (first | exact m_F_slices_Equal___api_Stitch_api_Stitch_ _ _ | exact Le.rfl _ | refine Le.loop _ ?_ | refine Le.bind ?_ ?_ | refine Le.ite ?_ ?_ | refine Le.sum ?_ ?_ | refine Le.prod ?_ | intro _ | exact Empty.elim (by assumption) | dsimp only)
theorem m_piece_Read_l2 (p0 : api_Chart) (r140 : (api_Chart × Int)) : ∀ s, Le (K_piece_Read_l2 p0 r140 s) (piece_Read_l2 p0 r140 s) := by
  unfold K_piece_Read_l2 piece_Read_l2
  with_reducible repeat' (first | exact m_F_stitch_Same _ _ | exact Le.rfl _ | refine Le.loop _ ?_ | refine Le.bind ?_ ?_ | refine Le.ite ?_ ?_ | refine Le.sum ?_ ?_ | refine Le.prod ?_ | intro _ | exact Empty.elim (by assumption) | dsimp only)
theorem m_F_piece_Read (p0 : api_Chart) (p1 : Int) : Le (K_piece_Read p0 p1) (F_piece_Read p0 p1) := by
  unfold K_piece_Read F_piece_Read
  with_reducible repeat' (first | exact m_F_piece_column _ | exact m_piece_Read_l1 _ | exact m_F_piece_Chart _ | exact m_piece_Read_l2 _ _ | exact Le.rfl _ | refine Le.loop _ ?_ | refine Le.bind ?_ ?_ | refine Le.ite ?_ ?_ | refine Le.sum ?_ ?_ | refine Le.prod ?_ | intro _ | exact Empty.elim (by assumption) | dsimp only)
theorem m_raddleref36_Same_l1 (p0 : (List Int)) (p1 : (List Int)) : ∀ s, Le (K_raddleref36_Same_l1 p0 p1 s) (raddleref36_Same_l1 p0 p1 s) := by
  unfold K_raddleref36_Same_l1 raddleref36_Same_l1
  with_reducible repeat' (first | exact Le.rfl _ | refine Le.loop _ ?_ | refine Le.bind ?_ ?_ | refine Le.ite ?_ ?_ | refine Le.sum ?_ ?_ | refine Le.prod ?_ | intro _ | exact Empty.elim (by assumption) | dsimp only)
theorem m_F_raddleref36_Same (p0 : (List Int)) (p1 : (List Int)) : Le (K_raddleref36_Same p0 p1) (F_raddleref36_Same p0 p1) := by
  unfold K_raddleref36_Same F_raddleref36_Same
  with_reducible repeat' (first | exact m_raddleref36_Same_l1 _ _ | exact Le.rfl _ | refine Le.loop _ ?_ | refine Le.bind ?_ ?_ | refine Le.ite ?_ ?_ | refine Le.sum ?_ ?_ | refine Le.prod ?_ | intro _ | exact Empty.elim (by assumption) | dsimp only)
theorem m_F_raddleref37_Same (p0 : api_Piece) (p1 : api_Piece) : Le (K_raddleref37_Same p0 p1) (F_raddleref37_Same p0 p1) := by
  unfold K_raddleref37_Same F_raddleref37_Same
  with_reducible repeat' (first | exact m_F_raddleref36_Same _ _ | exact Le.rfl _ | refine Le.loop _ ?_ | refine Le.bind ?_ ?_ | refine Le.ite ?_ ?_ | refine Le.sum ?_ ?_ | refine Le.prod ?_ | intro _ | exact Empty.elim (by assumption) | dsimp only)
theorem m_stitch_text_l1 (p0 : (List api_Stitch)) (s14 : Int) : ∀ s, Le (K_stitch_text_l1 p0 s14 s) (stitch_text_l1 p0 s14 s) := by
  unfold K_stitch_text_l1 stitch_text_l1
  with_reducible repeat' (first | exact Le.rfl _ | refine Le.loop _ ?_ | refine Le.bind ?_ ?_ | refine Le.ite ?_ ?_ | refine Le.sum ?_ ?_ | refine Le.prod ?_ | intro _ | exact Empty.elim (by assumption) | dsimp only)
theorem m_F_internal_strconv_small (p0 : Int) : Le (K_internal_strconv_small p0) (F_internal_strconv_small p0) := by
  unfold K_internal_strconv_small F_internal_strconv_small
  with_reducible repeat' (first | exact Le.rfl _ | refine Le.loop _ ?_ | refine Le.bind ?_ ?_ | refine Le.ite ?_ ?_ | refine Le.sum ?_ ?_ | refine Le.prod ?_ | intro _ | exact Empty.elim (by assumption) | dsimp only)
theorem m_F_math_bits_Len64 (p0 : Int) : Le (K_math_bits_Len64 p0) (F_math_bits_Len64 p0) := by
  unfold K_math_bits_Len64 F_math_bits_Len64
  with_reducible repeat' (first | exact Le.rfl _ | refine Le.loop _ ?_ | refine Le.bind ?_ ?_ | refine Le.ite ?_ ?_ | refine Le.sum ?_ ?_ | refine Le.prod ?_ | intro _ | exact Empty.elim (by assumption) | dsimp only)
theorem m_F_internal_strconv_log10Pow2 (p0 : Int) : Le (K_internal_strconv_log10Pow2 p0) (F_internal_strconv_log10Pow2 p0) := by
  unfold K_internal_strconv_log10Pow2 F_internal_strconv_log10Pow2
  with_reducible repeat' (first | exact Le.rfl _ | refine Le.loop _ ?_ | refine Le.bind ?_ ?_ | refine Le.ite ?_ ?_ | refine Le.sum ?_ ?_ | refine Le.prod ?_ | intro _ | exact Empty.elim (by assumption) | dsimp only)
theorem m_F_internal_strconv_numDigits (p0 : Int) : Le (K_internal_strconv_numDigits p0) (F_internal_strconv_numDigits p0) := by
  unfold K_internal_strconv_numDigits F_internal_strconv_numDigits
  with_reducible repeat' (first | exact m_F_math_bits_Len64 _ | exact m_F_internal_strconv_log10Pow2 _ | exact Le.rfl _ | refine Le.loop _ ?_ | refine Le.bind ?_ ?_ | refine Le.ite ?_ ?_ | refine Le.sum ?_ ?_ | refine Le.prod ?_ | intro _ | exact Empty.elim (by assumption) | dsimp only)
theorem m_F_internal_strconv_FormatInt (p0 : Int) (p1 : Int) : Le (K_internal_strconv_FormatInt p0 p1) (F_internal_strconv_FormatInt p0 p1) := by
  unfold K_internal_strconv_FormatInt F_internal_strconv_FormatInt
  with_reducible repeat' (first | exact m_F_internal_strconv_small _ | exact m_F_internal_strconv_numDigits _ | exact Le.rfl _ | refine Le.loop _ ?_ | refine Le.bind ?_ ?_ | refine Le.ite ?_ ?_ | refine Le.sum ?_ ?_ | refine Le.prod ?_ | intro _ | exact Empty.elim (by assumption) | dsimp only)
theorem m_F_internal_strconv_Itoa (p0 : Int) : Le (K_internal_strconv_Itoa p0) (F_internal_strconv_Itoa p0) := by
  unfold K_internal_strconv_Itoa F_internal_strconv_Itoa
  with_reducible repeat' (first | exact m_F_internal_strconv_FormatInt _ _ | exact Le.rfl _ | refine Le.loop _ ?_ | refine Le.bind ?_ ?_ | refine Le.ite ?_ ?_ | refine Le.sum ?_ ?_ | refine Le.prod ?_ | intro _ | exact Empty.elim (by assumption) | dsimp only)
theorem m_F_strconv_Itoa (p0 : Int) : Le (K_strconv_Itoa p0) (F_strconv_Itoa p0) := by
  unfold K_strconv_Itoa F_strconv_Itoa
  with_reducible repeat' (first | exact m_F_internal_strconv_Itoa _ | exact Le.rfl _ | refine Le.loop _ ?_ | refine Le.bind ?_ ?_ | refine Le.ite ?_ ?_ | refine Le.sum ?_ ?_ | refine Le.prod ?_ | intro _ | exact Empty.elim (by assumption) | dsimp only)
theorem m_F_stitch_word (p0 : api_Stitch) : Le (K_stitch_word p0) (F_stitch_word p0) := by
  unfold K_stitch_word F_stitch_word
  with_reducible repeat' (first | exact m_F_strconv_Itoa _ | exact m_F_stitch_forms _ | exact Le.rfl _ | refine Le.loop _ ?_ | refine Le.bind ?_ ?_ | refine Le.ite ?_ ?_ | refine Le.sum ?_ ?_ | refine Le.prod ?_ | intro _ | exact Empty.elim (by assumption) | dsimp only)
theorem m_stitch_text_l2 (p0 : (List api_Stitch)) : ∀ s, Le (K_stitch_text_l2 p0 s) (stitch_text_l2 p0 s) := by
  unfold K_stitch_text_l2 stitch_text_l2
  with_reducible repeat' (first | exact m_stitch_text_l1 _ _ | exact m_F_stitch_word _ | exact m_F_strconv_Itoa _ | exact Le.rfl _ | refine Le.loop _ ?_ | refine Le.bind ?_ ?_ | refine Le.ite ?_ ?_ | refine Le.sum ?_ ?_ | refine Le.prod ?_ | intro _ | exact Empty.elim (by assumption) | dsimp only)
theorem m_F_strings_Join (p0 : List ByteArray) (p1 : ByteArray) : Le (K_strings_Join p0 p1) (F_strings_Join p0 p1) := by
  unfold K_strings_Join F_strings_Join
  with_reducible repeat' (first | exact Le.rfl _ | refine Le.loop _ ?_ | refine Le.bind ?_ ?_ | refine Le.ite ?_ ?_ | refine Le.sum ?_ ?_ | refine Le.prod ?_ | intro _ | exact Empty.elim (by assumption) | dsimp only)
theorem m_F_stitch_text (p0 : (List api_Stitch)) : Le (K_stitch_text p0) (F_stitch_text p0) := by
  unfold K_stitch_text F_stitch_text
  with_reducible repeat' (first | exact m_stitch_text_l2 _ | exact m_F_strings_Join _ _ | exact Le.rfl _ | refine Le.loop _ ?_ | refine Le.bind ?_ ?_ | refine Le.ite ?_ ?_ | refine Le.sum ?_ ?_ | refine Le.prod ?_ | intro _ | exact Empty.elim (by assumption) | dsimp only)
theorem m_F_stitch_Text (p0 : (List api_Stitch)) : Le (K_stitch_Text p0) (F_stitch_Text p0) := by
  unfold K_stitch_Text F_stitch_Text
  with_reducible repeat' (first | exact m_F_stitch_All _ | exact m_F_stitch_text _ | exact Le.rfl _ | refine Le.loop _ ?_ | refine Le.bind ?_ ?_ | refine Le.ite ?_ ?_ | refine Le.sum ?_ ?_ | refine Le.prod ?_ | intro _ | exact Empty.elim (by assumption) | dsimp only)
set_option maxRecDepth 1000000 in
theorem kc_raddlelaw37_alive_0 : F_raddlelaw37_given = some (api_Shape.mk [(api_Point.mk 0 0), (api_Point.mk 2 4)] [(api_Point.mk 10 0), (api_Point.mk 8 4)]) := m_F_raddlelaw37_given _ (by kernel_rfl)
set_option maxRecDepth 1000000 in
theorem kc_raddlelaw37_alive_1 : F_piece_Make ((api_Shape.mk [(api_Point.mk 0 0), (api_Point.mk 2 4)] [(api_Point.mk 10 0), (api_Point.mk 8 4)])) = some ((api_Piece.mk [0, 1, 1, 2, 2] [10, 10, 9, 9, 8]), 0) := m_F_piece_Make _ _ (by kernel_rfl)
set_option maxRecDepth 1000000 in
theorem kc_raddlelaw37_alive_2 : F_raddlelaw37_made = some (api_Piece.mk [0, 1, 1, 2, 2] [10, 10, 9, 9, 8]) := m_F_raddlelaw37_made _ (by kernel_rfl)
set_option maxRecDepth 1000000 in
theorem kc_raddlelaw37_alive_3 : F_piece_Chart ((api_Piece.mk [0, 1, 1, 2, 2] [10, 10, 9, 9, 8])) = some ((api_Chart.mk 10 [(api_Row.mk true [(api_Stitch.mk 4 true 2 0), (api_Stitch.mk 1 true 0 0), (api_Stitch.mk 1 true 0 0), (api_Stitch.mk 1 true 0 0), (api_Stitch.mk 1 true 0 0), (api_Stitch.mk 1 true 0 0), (api_Stitch.mk 1 true 0 0), (api_Stitch.mk 1 true 0 0), (api_Stitch.mk 1 true 0 0)]), (api_Row.mk false [(api_Stitch.mk 3 false 2 0), (api_Stitch.mk 1 false 0 0), (api_Stitch.mk 1 false 0 0), (api_Stitch.mk 1 false 0 0), (api_Stitch.mk 1 false 0 0), (api_Stitch.mk 1 false 0 0), (api_Stitch.mk 1 false 0 0), (api_Stitch.mk 1 false 0 0)]), (api_Row.mk true [(api_Stitch.mk 4 true 2 0), (api_Stitch.mk 1 true 0 0), (api_Stitch.mk 1 true 0 0), (api_Stitch.mk 1 true 0 0), (api_Stitch.mk 1 true 0 0), (api_Stitch.mk 1 true 0 0), (api_Stitch.mk 1 true 0 0)]), (api_Row.mk false [(api_Stitch.mk 3 false 2 0), (api_Stitch.mk 1 false 0 0), (api_Stitch.mk 1 false 0 0), (api_Stitch.mk 1 false 0 0), (api_Stitch.mk 1 false 0 0), (api_Stitch.mk 1 false 0 0)])]), 0) := m_F_piece_Chart _ _ (by kernel_rfl)
set_option maxRecDepth 1000000 in
theorem kc_raddlelaw37_alive_4 : F_piece_Read (((api_Chart.mk 10 [(api_Row.mk true [(api_Stitch.mk 4 true 2 0), (api_Stitch.mk 1 true 0 0), (api_Stitch.mk 1 true 0 0), (api_Stitch.mk 1 true 0 0), (api_Stitch.mk 1 true 0 0), (api_Stitch.mk 1 true 0 0), (api_Stitch.mk 1 true 0 0), (api_Stitch.mk 1 true 0 0), (api_Stitch.mk 1 true 0 0)]), (api_Row.mk false [(api_Stitch.mk 3 false 2 0), (api_Stitch.mk 1 false 0 0), (api_Stitch.mk 1 false 0 0), (api_Stitch.mk 1 false 0 0), (api_Stitch.mk 1 false 0 0), (api_Stitch.mk 1 false 0 0), (api_Stitch.mk 1 false 0 0), (api_Stitch.mk 1 false 0 0)]), (api_Row.mk true [(api_Stitch.mk 4 true 2 0), (api_Stitch.mk 1 true 0 0), (api_Stitch.mk 1 true 0 0), (api_Stitch.mk 1 true 0 0), (api_Stitch.mk 1 true 0 0), (api_Stitch.mk 1 true 0 0), (api_Stitch.mk 1 true 0 0)]), (api_Row.mk false [(api_Stitch.mk 3 false 2 0), (api_Stitch.mk 1 false 0 0), (api_Stitch.mk 1 false 0 0), (api_Stitch.mk 1 false 0 0), (api_Stitch.mk 1 false 0 0), (api_Stitch.mk 1 false 0 0)])]), 0)).1 0 = some ((api_Piece.mk [0, 1, 1, 2, 2] [10, 10, 9, 9, 8]), 0) := m_F_piece_Read _ _ _ (by kernel_rfl)
set_option maxRecDepth 1000000 in
theorem kc_raddlelaw37_alive_5 : F_raddleref37_Same (((api_Piece.mk [0, 1, 1, 2, 2] [10, 10, 9, 9, 8]), 0)).1 ((api_Piece.mk [0, 1, 1, 2, 2] [10, 10, 9, 9, 8])) = some true := m_F_raddleref37_Same _ _ _ (by kernel_rfl)
set_option maxRecDepth 1000000 in
theorem kc_raddlelaw37_alive_6 : F_raddleref37_Same (((api_Piece.mk [0, 1, 1, 2, 2] [10, 10, 9, 9, 8]), 0)).1 (((api_Piece.mk [0, 1, 1, 2, 2] [10, 10, 9, 9, 8]), 0)).1 = some true := m_F_raddleref37_Same _ _ _ (by kernel_rfl)
end Go.Proofs.YtmedbnjhgkcndaaDoor
namespace Go.Proofs.YtmedbnjhgkcndaaDoor
open Go.RowKit
set_option linter.unusedVariables false

def anc_raddlelaw37_alive_0 : List (List Nat) := [[], [0], [0, 1], [0, 1, 2], [0, 1, 2], [0, 1, 2, 3, 4], [0, 1, 2, 3, 4, 5], [0, 1, 2, 3, 4, 5, 6], [0, 1, 2, 3, 4, 5, 6, 7], [0, 1, 2, 3, 4, 5, 6, 7, 8], [0, 1, 2, 3, 4, 5, 6, 7, 8, 9], [0, 1, 2, 3, 4, 5, 6, 7, 8, 9, 10], [0, 1, 2, 3, 4, 5, 6, 7, 8, 9, 10, 11], [0, 1, 2, 3, 4, 5, 6, 7, 8, 9, 10, 11, 12], [0, 1, 2, 3, 4, 5, 6, 7, 8, 9, 10, 11, 12, 13], [0, 1, 2, 3, 4, 5, 6, 7, 8, 9, 10, 11, 12, 13, 14], [0, 1, 2, 3, 4, 5, 6, 7, 8, 9, 10, 11, 12, 13, 14, 15], [0, 1, 2, 3, 4, 5, 6, 7, 8, 9, 10, 11, 12, 13, 14, 15, 16], [0, 1, 2, 3, 4, 5, 6, 7, 8, 9, 10, 11, 12, 13, 14, 15, 16, 17], [0, 1, 2, 3, 4, 5, 6, 7, 8, 9, 10, 11, 12, 13, 14, 15, 16, 17, 18], [0, 1, 2, 3, 4, 5, 6, 7, 8, 9, 10, 11, 12, 13, 14, 15, 16, 17, 18, 19], [0, 1, 2, 3, 4, 5, 6, 7, 8, 9, 10, 11, 12, 13, 14, 15, 16, 17, 18, 19, 20], [0, 1, 2, 3, 4, 5, 6, 7, 8, 9, 10, 11, 12, 13, 14, 15, 16, 17, 18, 19, 20, 21], [0, 1, 2, 3, 4, 5, 6, 7, 8, 9, 10, 11, 12, 13, 14, 15, 16, 17, 18, 19, 20, 21, 22], [0, 1, 2, 3, 4, 5, 6, 7, 8, 9, 10, 11, 12, 13, 14, 15, 16, 17, 18, 19, 20, 21, 22, 23], [0, 1, 2, 3, 4, 5, 6, 7, 8, 9, 10, 11, 12, 13, 14, 15, 16, 17, 18, 19, 20, 21, 22, 23, 24], [0, 1, 2, 3, 4, 5, 6, 7, 8, 9, 10, 11, 12, 13, 14, 15, 16, 17, 18, 19, 20, 21, 22, 23, 24, 25], [0, 1, 2, 3, 4, 5, 6, 7, 8, 9, 10, 11, 12, 13, 14, 15, 16, 17, 18, 19, 20, 21, 22, 23, 24, 25, 26], [0, 1, 2, 3, 4, 5, 6, 7, 8, 9, 10, 11, 12, 13, 14, 15, 16, 17, 18, 19, 20, 21, 22, 23, 24, 25, 26, 27], [0, 1, 2, 3, 4, 5, 6, 7, 8, 9, 10, 11, 12, 13, 14, 15, 16, 17, 18, 19, 20, 21, 22, 23, 24, 25, 26, 27], [0, 1, 2, 3, 4, 5, 6, 7, 8, 9, 10, 11, 12, 13, 14, 15, 16, 17, 18, 19, 20, 21, 22, 23, 24, 25, 26, 27, 28, 29], [0, 1, 2, 3, 4, 5, 6, 7, 8, 9, 10, 11, 12, 13, 14, 15, 16, 17, 18, 19, 20, 21, 22, 23, 24, 25, 26, 27, 28, 29, 30], [0, 1, 2, 3, 4, 5, 6, 7, 8, 9, 10, 11, 12, 13, 14, 15, 16, 17, 18, 19, 20, 21, 22, 23, 24, 25, 26, 27, 28, 29, 30, 31]]
noncomputable def raddlelaw37_alive_l1 (r38 : (api_Chart × Int)) : Int → Option (Int ⊕ (Bool ⊕ Unit)) := fun s0 => match s0 with
  | s95 =>
    if decide (s95 < 4) then
      Option.bind (idxO r38.1.Rows s95) fun x104 =>
      Option.bind (F_stitch_Text x104.Cells) fun r113 =>
      Option.bind (α := Bool) (
        if r113.2 != 0 then
          some true
        else
          Option.bind (idxO ([(⟨#[112, 108, 50, 32, 112, 56]⟩ : ByteArray), (⟨#[107, 102, 50, 32, 107, 55]⟩ : ByteArray), (⟨#[112, 108, 50, 32, 112, 54]⟩ : ByteArray), (⟨#[107, 102, 50, 32, 107, 53]⟩ : ByteArray)] : List ByteArray) s95) fun x119 =>
          if r113.1 != x119 then
            some true
          else
            Option.bind (remI s95 2) fun z127 =>
            some (x104.Back != (z127 == 0))) fun o115 =>
      if o115 then
        some (.inr (.inl false))
      else
        some (.inl (w64 (s95 + 1)))
    else
      some (.inr (.inr ()))
noncomputable def F_raddlelaw37_alive  : Option Bool :=
  Option.bind (F_raddlelaw37_given) fun r3 =>
  Option.bind (F_piece_Make r3) fun r14 =>
  Option.bind (F_raddlelaw37_made) fun r27 =>
  Option.bind (F_piece_Chart r27) fun r38 =>
  Option.bind (F_piece_Read r38.1 0) fun r47 =>
  if r14.2 != 0 then
    none
  else
    Option.bind (F_raddleref37_Same r14.1 r27) fun r73 =>
    if !r73 then
      none
    else
      if r38.2 != 0 then
        none
      else
        if r38.1.Start != 10 then
          none
        else
          if (r38.1.Rows.length : Int) != 4 then
            none
          else
            if r47.2 != 0 then
              none
            else
              Option.bind (F_raddleref37_Same r47.1 r14.1) fun r80 =>
              if !r80 then
                none
              else
                Option.bind (α := Unit ⊕ Bool) (
                  Option.bind (whileO (raddlelaw37_alive_l1 r38) 0) fun z0 => match z0 with
                    | .inl z =>
                      some (.inr z)
                    | .inr _ =>
                      some (.inl ())) fun z0 => match z0 with
                  | .inl _ =>
                    some true
                  | .inr z =>
                    some z
set_option maxHeartbeats 4000000 in
set_option maxRecDepth 100000 in
theorem c_raddlelaw37_alive (E : Nat → Prop) (w0 : World)  (r : Bool) (h : F_raddlelaw37_alive  = some r) (S : St0 E [] w0 w0 [] []) :
    Calls Tryd.prog 9 #[] w0 (Ret (X := Unit) E [] w0 (fun _ => .bool r) (fun _ => []) (fun _ => [])) := by
  unfold F_raddlelaw37_alive at h
  refine sEnter (args := []) 95 Tryd.func9 rfl rfl (by simp) S (fun a S => ?_)
  refine sSeq (fun K1 hK1 => ?_)
  refine sRegion ?_
  refine sMove (.bool false) S (wN rfl) (.inr rfl) rfl rfl (lb rfl) fun a S => ?_
  refine leafL (leafT (hK1 _ _ ?_))
  refine sSeq (fun K2 hK2 => ?_)
  refine sRegion ?_
  obtain ⟨r3, hx4, h⟩ := bindSome h
  have hv_r3 : r3 = (api_Shape.mk [(api_Point.mk 0 0), (api_Point.mk 2 4)] [(api_Point.mk 10 0), (api_Point.mk 8 4)]) := Option.some.inj (hx4.symm.trans (by exact kc_raddlelaw37_alive_0))
  refine sCall (X := Value) (f := 32) (vs := []) (val := c_raddlelaw37_given_val r3) (B' := fun _ => []) (D' := c_raddlelaw37_given_D r3) [] [] [] [] [] S (wN rfl) rfl callee32 rfl (by decide) rfl rfl (fun E1 w1 S1 => c_raddlelaw37_given E1 w1  r3 hx4 S1) rfl (lb rfl) fun u5 a w S => ?_
  obtain ⟨u6, u7, rfl, hu8, hu9⟩ := S.mem.know (i := 0) (e := fRep r_api_Shape (u5) r3) rfl
  have S := S.learn (fRep (rL r_api_Point) u6 r3.Left) hu8
  obtain ⟨ad10, cp11, _, rfl, _⟩ := hu8
  have S := S.learn (fRep (rL r_api_Point) u7 r3.Right) hu9
  obtain ⟨ad12, cp13, _, rfl, _⟩ := hu9
  obtain ⟨r14, hx15, h⟩ := bindSome h
  have hv_r14 : r14 = ((api_Piece.mk [0, 1, 1, 2, 2] [10, 10, 9, 9, 8]), 0) := Option.some.inj (hx15.symm.trans (by rw [hv_r3]; exact kc_raddlelaw37_alive_1))
  refine sCall (X := Value) (f := 12) (vs := [.agg #[.slice ad10 r3.Left.length cp11, .slice ad12 r3.Right.length cp13]]) (val := c_piece_Make_val r14) (B' := fun _ => []) (D' := c_piece_Make_D r14) [] [] [fRep r_api_Shape (.agg #[.slice ad10 r3.Left.length cp11, .slice ad12 r3.Right.length cp13]) r3] [] [2] S (wN rfl) rfl callee12 rfl (by decide) rfl rfl (fun E1 w1 S1 => c_piece_Make E1 w1 r3 (.agg #[.slice ad10 r3.Left.length cp11, .slice ad12 r3.Right.length cp13]) r14 hx15 S1) rfl (lb rfl) fun u16 a w S => ?_
  obtain ⟨u17, u18, rfl, hu19, hu20⟩ := S.mem.know (i := 0) (e := fRep r_api_Piece (u16) r14.1) rfl
  have S := S.learn (fRep (rL (rI .i64)) u17 r14.1.Left) hu19
  obtain ⟨ad21, cp22, _, rfl, _⟩ := hu19
  have S := S.learn (fRep (rL (rI .i64)) u18 r14.1.Right) hu20
  obtain ⟨ad23, cp24, _, rfl, _⟩ := hu20
  refine sMove (.tuple #[.agg #[.slice ad21 r14.1.Left.length cp22, .slice ad23 r14.1.Right.length cp24], iv r14.2]) S (wN rfl) (.inl rfl) rfl rfl (lb rfl) fun a S => ?_
  refine sExtract (vs := [.agg #[.slice ad21 r14.1.Left.length cp22, .slice ad23 r14.1.Right.length cp24], iv r14.2]) (.agg #[.slice ad21 r14.1.Left.length cp22, .slice ad23 r14.1.Right.length cp24]) S (wN rfl) rfl rfl rfl rfl (lb rfl) fun a S => ?_
  refine sExtract (vs := [.agg #[.slice ad21 r14.1.Left.length cp22, .slice ad23 r14.1.Right.length cp24], iv r14.2]) (iv r14.2) S (wN rfl) rfl rfl rfl rfl (lb rfl) fun a S => ?_
  refine sAlloc (.agg #[.slice none 0 0, .slice none 0 0]) S (wN rfl) rfl rfl [.slice none 0 0, .slice none 0 0] rfl rfl (lb rfl) fun a b25 w S => ?_
  refine sStore (p := b25) (off := 0) (T := 30) (vs := [.slice none 0 0, .slice none 0 0]) (v := .agg #[.slice ad21 r14.1.Left.length cp22, .slice ad23 r14.1.Right.length cp24]) 0 [.slice ad21 r14.1.Left.length cp22, .slice ad23 r14.1.Right.length cp24] S (wN rfl) rfl rfl rfl rfl rfl rfl rfl (by simp) rfl fun a w S => ?_
  refine sMove (iv r14.2) S (wN rfl) (.inr rfl) rfl rfl (lb rfl) fun a S => ?_
  refine leafL (leafT (hK2 _ _ ?_))
  refine sSeq (fun K26 hK26 => ?_)
  refine sRegion ?_
  obtain ⟨r27, hx28, h⟩ := bindSome h
  have hv_r27 : r27 = (api_Piece.mk [0, 1, 1, 2, 2] [10, 10, 9, 9, 8]) := Option.some.inj (hx28.symm.trans (by exact kc_raddlelaw37_alive_2))
  refine sCall (X := Value) (f := 29) (vs := []) (val := c_raddlelaw37_made_val r27) (B' := fun _ => []) (D' := c_raddlelaw37_made_D r27) [] [eBox b25 30 [.slice ad21 r14.1.Left.length cp22, .slice ad23 r14.1.Right.length cp24]] [] [0] [] S (wN rfl) rfl callee29 rfl (by decide) rfl rfl (fun E1 w1 S1 => c_raddlelaw37_made E1 w1  r27 hx28 S1) rfl (lb rfl) fun u29 a w S => ?_
  obtain ⟨u30, u31, rfl, hu32, hu33⟩ := S.mem.know (i := 0) (e := fRep r_api_Piece (u29) r27) rfl
  have S := S.learn (fRep (rL (rI .i64)) u30 r27.Left) hu32
  obtain ⟨ad34, cp35, _, rfl, _⟩ := hu32
  have S := S.learn (fRep (rL (rI .i64)) u31 r27.Right) hu33
  obtain ⟨ad36, cp37, _, rfl, _⟩ := hu33
  obtain ⟨r38, hx39, h⟩ := bindSome h
  have hv_r38 : r38 = ((api_Chart.mk 10 [(api_Row.mk true [(api_Stitch.mk 4 true 2 0), (api_Stitch.mk 1 true 0 0), (api_Stitch.mk 1 true 0 0), (api_Stitch.mk 1 true 0 0), (api_Stitch.mk 1 true 0 0), (api_Stitch.mk 1 true 0 0), (api_Stitch.mk 1 true 0 0), (api_Stitch.mk 1 true 0 0), (api_Stitch.mk 1 true 0 0)]), (api_Row.mk false [(api_Stitch.mk 3 false 2 0), (api_Stitch.mk 1 false 0 0), (api_Stitch.mk 1 false 0 0), (api_Stitch.mk 1 false 0 0), (api_Stitch.mk 1 false 0 0), (api_Stitch.mk 1 false 0 0), (api_Stitch.mk 1 false 0 0), (api_Stitch.mk 1 false 0 0)]), (api_Row.mk true [(api_Stitch.mk 4 true 2 0), (api_Stitch.mk 1 true 0 0), (api_Stitch.mk 1 true 0 0), (api_Stitch.mk 1 true 0 0), (api_Stitch.mk 1 true 0 0), (api_Stitch.mk 1 true 0 0), (api_Stitch.mk 1 true 0 0)]), (api_Row.mk false [(api_Stitch.mk 3 false 2 0), (api_Stitch.mk 1 false 0 0), (api_Stitch.mk 1 false 0 0), (api_Stitch.mk 1 false 0 0), (api_Stitch.mk 1 false 0 0), (api_Stitch.mk 1 false 0 0)])]), 0) := Option.some.inj (hx39.symm.trans (by rw [hv_r27]; exact kc_raddlelaw37_alive_3))
  refine sCall (X := Value) (f := 17) (vs := [.agg #[.slice ad34 r27.Left.length cp35, .slice ad36 r27.Right.length cp37]]) (val := c_piece_Chart_val r38) (B' := fun _ => []) (D' := c_piece_Chart_D r38) [] [eBox b25 30 [.slice ad21 r14.1.Left.length cp22, .slice ad23 r14.1.Right.length cp24]] [fRep r_api_Piece (.agg #[.slice ad34 r27.Left.length cp35, .slice ad36 r27.Right.length cp37]) r27] [0] [2] S (wN rfl) rfl callee17 rfl (by decide) rfl rfl (fun E1 w1 S1 => c_piece_Chart E1 w1 r27 (.agg #[.slice ad34 r27.Left.length cp35, .slice ad36 r27.Right.length cp37]) r38 hx39 S1) rfl (lb rfl) fun u40 a w S => ?_
  obtain ⟨u41, rfl, hu42⟩ := S.mem.know (i := 0) (e := fRep r_api_Chart (u40) r38.1) rfl
  have S := S.learn (fRep (rL r_api_Row) u41 r38.1.Rows) hu42
  obtain ⟨ad43, cp44, _, rfl, _⟩ := hu42
  refine sMove (.tuple #[.agg #[iv r38.1.Start, .slice ad43 r38.1.Rows.length cp44], iv r38.2]) S (wN rfl) (.inl rfl) rfl rfl (lb rfl) fun a S => ?_
  refine sExtract (vs := [.agg #[iv r38.1.Start, .slice ad43 r38.1.Rows.length cp44], iv r38.2]) (.agg #[iv r38.1.Start, .slice ad43 r38.1.Rows.length cp44]) S (wN rfl) rfl rfl rfl rfl (lb rfl) fun a S => ?_
  refine sExtract (vs := [.agg #[iv r38.1.Start, .slice ad43 r38.1.Rows.length cp44], iv r38.2]) (iv r38.2) S (wN rfl) rfl rfl rfl rfl (lb rfl) fun a S => ?_
  refine sAlloc (.agg #[iv 0, .slice none 0 0]) S (wN rfl) rfl rfl [iv 0, .slice none 0 0] rfl rfl (lb rfl) fun a b45 w S => ?_
  refine sStore (p := b45) (off := 0) (T := 40) (vs := [iv 0, .slice none 0 0]) (v := .agg #[iv r38.1.Start, .slice ad43 r38.1.Rows.length cp44]) 0 [iv r38.1.Start, .slice ad43 r38.1.Rows.length cp44] S (wN rfl) rfl rfl rfl rfl rfl rfl rfl (by simp) rfl fun a w S => ?_
  refine sMove (iv r38.2) S (wN rfl) (.inr rfl) rfl rfl (lb rfl) fun a S => ?_
  refine leafL (leafT (hK26 _ _ ?_))
  refine sSeq (fun K46 hK46 => ?_)
  refine sRegion ?_
  refine sLoadN (p := b45) (off := 0) (T := 40) (vs := [iv r38.1.Start, .slice ad43 r38.1.Rows.length cp44]) 0 [iv r38.1.Start, .slice ad43 r38.1.Rows.length cp44] S (wN rfl) rfl rfl rfl rfl rfl rfl rfl (lb rfl) fun a S => ?_
  obtain ⟨r47, hx48, h⟩ := bindSome h
  have hv_r47 : r47 = ((api_Piece.mk [0, 1, 1, 2, 2] [10, 10, 9, 9, 8]), 0) := Option.some.inj (hx48.symm.trans (by rw [hv_r38]; exact kc_raddlelaw37_alive_4))
  refine sCall (X := Value) (f := 18) (vs := [.agg #[iv r38.1.Start, .slice ad43 r38.1.Rows.length cp44], iv 0]) (val := c_piece_Read_val r47) (B' := fun _ => []) (D' := c_piece_Read_D r47) [] [eBox b45 40 [iv r38.1.Start, .slice ad43 r38.1.Rows.length cp44], eBox b25 30 [.slice ad21 r14.1.Left.length cp22, .slice ad23 r14.1.Right.length cp24]] [fRep r_api_Chart (.agg #[iv r38.1.Start, .slice ad43 r38.1.Rows.length cp44]) r38.1] [0, 1] [1] S (wN rfl) rfl callee18 rfl (by decide) rfl rfl (fun E1 w1 S1 => c_piece_Read E1 w1 r38.1 (.agg #[iv r38.1.Start, .slice ad43 r38.1.Rows.length cp44]) 0 r47 hx48 S1) rfl (lb rfl) fun u49 a w S => ?_
  obtain ⟨u50, u51, rfl, hu52, hu53⟩ := S.mem.know (i := 0) (e := fRep r_api_Piece (u49) r47.1) rfl
  have S := S.learn (fRep (rL (rI .i64)) u50 r47.1.Left) hu52
  obtain ⟨ad54, cp55, _, rfl, _⟩ := hu52
  have S := S.learn (fRep (rL (rI .i64)) u51 r47.1.Right) hu53
  obtain ⟨ad56, cp57, _, rfl, _⟩ := hu53
  refine sMove (.tuple #[.agg #[.slice ad54 r47.1.Left.length cp55, .slice ad56 r47.1.Right.length cp57], iv r47.2]) S (wN rfl) (.inl rfl) rfl rfl (lb rfl) fun a S => ?_
  refine sExtract (vs := [.agg #[.slice ad54 r47.1.Left.length cp55, .slice ad56 r47.1.Right.length cp57], iv r47.2]) (.agg #[.slice ad54 r47.1.Left.length cp55, .slice ad56 r47.1.Right.length cp57]) S (wN rfl) rfl rfl rfl rfl (lb rfl) fun a S => ?_
  refine sExtract (vs := [.agg #[.slice ad54 r47.1.Left.length cp55, .slice ad56 r47.1.Right.length cp57], iv r47.2]) (iv r47.2) S (wN rfl) rfl rfl rfl rfl (lb rfl) fun a S => ?_
  refine sAlloc (.agg #[.slice none 0 0, .slice none 0 0]) S (wN rfl) rfl rfl [.slice none 0 0, .slice none 0 0] rfl rfl (lb rfl) fun a b58 w S => ?_
  refine sStore (p := b58) (off := 0) (T := 30) (vs := [.slice none 0 0, .slice none 0 0]) (v := .agg #[.slice ad54 r47.1.Left.length cp55, .slice ad56 r47.1.Right.length cp57]) 0 [.slice ad54 r47.1.Left.length cp55, .slice ad56 r47.1.Right.length cp57] S (wN rfl) rfl rfl rfl rfl rfl rfl rfl (by simp) rfl fun a w S => ?_
  refine sMove (iv r47.2) S (wN rfl) (.inr rfl) rfl rfl (lb rfl) fun a S => ?_
  refine leafL (leafT (hK46 _ _ ?_))
  refine sSeq (fun K59 hK59 => ?_)
  refine sRegion ?_
  refine sBuild [(0, .string (⟨#[112, 108, 50, 32, 112, 56]⟩ : ByteArray)), (1, .string (⟨#[107, 102, 50, 32, 107, 55]⟩ : ByteArray)), (2, .string (⟨#[112, 108, 50, 32, 112, 54]⟩ : ByteArray)), (3, .string (⟨#[107, 102, 50, 32, 107, 53]⟩ : ByteArray))] [.string (⟨#[112, 108, 50, 32, 112, 56]⟩ : ByteArray), .string (⟨#[107, 102, 50, 32, 107, 55]⟩ : ByteArray), .string (⟨#[112, 108, 50, 32, 112, 54]⟩ : ByteArray), .string (⟨#[107, 102, 50, 32, 107, 53]⟩ : ByteArray)] S (wN rfl) rfl rfl rfl rfl (lb rfl) fun a S => ?_
  refine sAlloc (.agg #[.string (⟨#[]⟩ : ByteArray), .string (⟨#[]⟩ : ByteArray), .string (⟨#[]⟩ : ByteArray), .string (⟨#[]⟩ : ByteArray)]) S (wN rfl) rfl rfl [.string (⟨#[]⟩ : ByteArray), .string (⟨#[]⟩ : ByteArray), .string (⟨#[]⟩ : ByteArray), .string (⟨#[]⟩ : ByteArray)] rfl rfl (lb rfl) fun a b60 w S => ?_
  refine sStore (p := b60) (off := 0) (T := 73) (vs := [.string (⟨#[]⟩ : ByteArray), .string (⟨#[]⟩ : ByteArray), .string (⟨#[]⟩ : ByteArray), .string (⟨#[]⟩ : ByteArray)]) (v := .agg #[.string (⟨#[112, 108, 50, 32, 112, 56]⟩ : ByteArray), .string (⟨#[107, 102, 50, 32, 107, 55]⟩ : ByteArray), .string (⟨#[112, 108, 50, 32, 112, 54]⟩ : ByteArray), .string (⟨#[107, 102, 50, 32, 107, 53]⟩ : ByteArray)]) 0 [.string (⟨#[112, 108, 50, 32, 112, 56]⟩ : ByteArray), .string (⟨#[107, 102, 50, 32, 107, 55]⟩ : ByteArray), .string (⟨#[112, 108, 50, 32, 112, 54]⟩ : ByteArray), .string (⟨#[107, 102, 50, 32, 107, 53]⟩ : ByteArray)] S (wN rfl) rfl rfl rfl rfl rfl rfl rfl (by simp) rfl fun a w S => ?_
  refine leafL (leafT (hK59 _ _ ?_))
  refine sSeq (fun K61 hK61 => ?_)
  refine sSeq (fun K62 hK62 => ?_)
  rcases iteSome h with ⟨hc63, h⟩ | ⟨hc63, h⟩
  · exact absurd hc63 (by rw [hv_r14]; decide)
  obtain ⟨r73, hx74, h⟩ := bindSome h
  have hv_r73 : r73 = true := Option.some.inj (hx74.symm.trans (by rw [hv_r14, hv_r27]; exact kc_raddlelaw37_alive_5))
  rcases iteSome h with ⟨hc75, h⟩ | ⟨hc75, h⟩
  · exact absurd hc75 (by rw [hv_r73]; decide)
  rcases iteSome h with ⟨hc76, h⟩ | ⟨hc76, h⟩
  · exact absurd hc76 (by rw [hv_r38]; decide)
  rcases iteSome h with ⟨hc77, h⟩ | ⟨hc77, h⟩
  · exact absurd hc77 (by rw [hv_r38]; decide)
  rcases iteSome h with ⟨hc78, h⟩ | ⟨hc78, h⟩
  · exact absurd hc78 (by rw [hv_r38]; decide)
  rcases iteSome h with ⟨hc79, h⟩ | ⟨hc79, h⟩
  · exact absurd hc79 (by rw [hv_r47]; decide)
  obtain ⟨r80, hx81, h⟩ := bindSome h
  have hv_r80 : r80 = true := Option.some.inj (hx81.symm.trans (by rw [hv_r47, hv_r14]; exact kc_raddlelaw37_alive_6))
  refine sDraw (nf := [4]) (W := [(0, 27, iv r14.2), (1, 28, .bool (r14.2 != 0)), (2, 29, .bool (r14.2 != 0)), (3, 30, .agg #[.slice ad21 r14.1.Left.length cp22, .slice ad23 r14.1.Right.length cp24])]) rfl S ?_
  refine node_by (A := anc_raddlelaw37_alive_0) (nf := [4]) (Y := []) (W := [(0, 27, iv r14.2), (1, 28, .bool (r14.2 != 0)), (2, 29, .bool (r14.2 != 0)), (3, 30, .agg #[.slice ad21 r14.1.Left.length cp22, .slice ad23 r14.1.Right.length cp24])]) 33 (by kernel_rfl) (by kernel_rfl) (by kernel_rfl) (by kernel_rfl) (by kernel_rfl) [0, 1, 2, 3] (by kernel_rfl) (by decide) (by decide) (aF 0 32 (by decide) ?_ (aF 1 31 (by decide) ?_ (aF 2 30 (by decide) ?_ (aF 3 29 (by decide) ?_ (aN 4 28 (by decide) ?_ (aE 5 27 4 (by decide) (aE 6 26 4 (by decide) (aE 7 25 4 (by decide) (aE 8 24 4 (by decide) (aE 9 23 4 (by decide) (aE 10 22 4 (by decide) (aE 11 21 4 (by decide) (aE 12 20 4 (by decide) (aE 13 19 4 (by decide) (aE 14 18 4 (by decide) (aE 15 17 4 (by decide) (aE 16 16 4 (by decide) (aE 17 15 4 (by decide) (aE 18 14 4 (by decide) (aE 19 13 4 (by decide) (aE 20 12 4 (by decide) (aE 21 11 4 (by decide) (aE 22 10 4 (by decide) (aE 23 9 4 (by decide) (aE 24 8 4 (by decide) (aE 25 7 4 (by decide) (aE 26 6 4 (by decide) (aE 27 5 4 (by decide) (aE 28 4 4 (by decide) (aE 29 3 4 (by decide) (aE 30 2 4 (by decide) (aE 31 1 4 (by decide) (aE 32 0 4 (by decide) (trivial)))))))))))))))))))))))))))))))))) [] (fun q hq => by cases hq) (fun hY => absurd (hY 4 (by decide)) (by decide))
  · refine fI 27 (iv r14.2) [(2, iv r14.2)] 0 [none] rfl rfl rfl rfl rfl rfl fun G a w S => ?_
    refine sMove (iv r14.2) S (wN rfl) (.inl rfl) rfl rfl (lb rfl) fun a S => ?_
    exact leafL ⟨rfl, S⟩
  · refine fI 28 (.bool (r14.2 != 0)) [(27, iv r14.2)] 1 [some 0] rfl rfl rfl rfl rfl rfl fun G a w S => ?_
    refine sBin (.bool (r14.2 != 0)) S (wN rfl) rfl rfl rfl (bNe _ _ _ _ .i64 r14.2 0) rfl (lb rfl) fun a S => ?_
    exact leafL ⟨rfl, S⟩
  · refine fI 29 (.bool (r14.2 != 0)) [(28, .bool (r14.2 != 0))] 2 [some 1] rfl rfl rfl rfl rfl rfl fun G a w S => ?_
    refine sMove (.bool (r14.2 != 0)) S (wN rfl) (.inl rfl) rfl rfl (lb rfl) fun a S => ?_
    exact leafL ⟨rfl, S⟩
  · refine fI 30 (.agg #[.slice ad21 r14.1.Left.length cp22, .slice ad23 r14.1.Right.length cp24]) [(1, .pointer (some ⟨b25, 0, none⟩)), (29, .bool (r14.2 != 0))] 3 [none, some 2] rfl rfl rfl rfl rfl rfl fun G a w S => ?_
    refine sLoadN (p := b25) (off := 0) (T := 30) (vs := [.slice ad21 r14.1.Left.length cp22, .slice ad23 r14.1.Right.length cp24]) 3 [.slice ad21 r14.1.Left.length cp22, .slice ad23 r14.1.Right.length cp24] S (wG 2 false 29 rfl rfl rfl hc63) rfl rfl rfl rfl rfl rfl rfl (lb rfl) fun a S => ?_
    exact leafL ⟨rfl, S⟩
  refine ⟨_, [(29, .bool (r14.2 != 0))], rfl, (srcs_of [some 2] rfl rfl rfl), fun G a w S => ?_⟩
  refine sCall (X := Value) (f := 29) (vs := []) (val := c_raddlelaw37_made_val r27) (B' := fun _ => []) (D' := c_raddlelaw37_made_D r27) [] [eBox b60 73 [.string (⟨#[112, 108, 50, 32, 112, 56]⟩ : ByteArray), .string (⟨#[107, 102, 50, 32, 107, 55]⟩ : ByteArray), .string (⟨#[112, 108, 50, 32, 112, 54]⟩ : ByteArray), .string (⟨#[107, 102, 50, 32, 107, 53]⟩ : ByteArray)], eBox b58 30 [.slice ad54 r47.1.Left.length cp55, .slice ad56 r47.1.Right.length cp57], eBox b45 40 [iv r38.1.Start, .slice ad43 r38.1.Rows.length cp44], eBox b25 30 [.slice ad21 r14.1.Left.length cp22, .slice ad23 r14.1.Right.length cp24]] [] [0, 1, 2, 3] [] S (wG 2 false 29 rfl rfl rfl hc63) rfl callee29 rfl (by decide) rfl rfl (fun E1 w1 S1 => c_raddlelaw37_made E1 w1  r27 hx28 S1) rfl (lb rfl) fun u82 a w S => ?_
  obtain ⟨u83, u84, rfl, hu85, hu86⟩ := S.mem.know (i := 0) (e := fRep r_api_Piece (u82) r27) rfl
  have S := S.learn (fRep (rL (rI .i64)) u83 r27.Left) hu85
  obtain ⟨ad87, cp88, _, rfl, _⟩ := hu85
  have S := S.learn (fRep (rL (rI .i64)) u84 r27.Right) hu86
  obtain ⟨ad89, cp90, _, rfl, _⟩ := hu86
  refine leafL ⟨rfl, _, _, .inl ⟨31, (.agg #[.slice ad87 r27.Left.length cp88, .slice ad89 r27.Right.length cp90]), [(5, 32, .bool r73), (6, 33, .bool (!r73)), (7, 34, .bool (!r73)), (8, 35, .bool (!r73)), (9, 36, iv r38.2), (10, 37, .bool (r38.2 != 0)), (11, 38, .bool (r38.2 != 0)), (12, 39, .bool (r38.2 != 0)), (13, 40, .pointer (some ⟨b45, 0, none⟩)), (14, 41, iv r38.1.Start), (15, 42, .bool (r38.1.Start != 10)), (16, 43, .bool (r38.1.Start != 10)), (17, 44, .bool (r38.1.Start != 10)), (18, 45, .pointer (some ⟨b45, 1, none⟩)), (19, 46, .slice ad43 r38.1.Rows.length cp44), (20, 47, iv (r38.1.Rows.length : Int)), (21, 48, .bool ((r38.1.Rows.length : Int) != 4)), (22, 49, .bool ((r38.1.Rows.length : Int) != 4)), (23, 50, .bool ((r38.1.Rows.length : Int) != 4)), (24, 51, iv r47.2), (25, 52, .bool (r47.2 != 0)), (26, 53, .bool (r47.2 != 0)), (27, 54, .bool (r47.2 != 0)), (28, 55, .agg #[.slice ad54 r47.1.Left.length cp55, .slice ad56 r47.1.Right.length cp57]), (29, 56, .agg #[.slice ad21 r14.1.Left.length cp22, .slice ad23 r14.1.Right.length cp24]), (30, 57, .bool r80), (31, 58, .bool (!r80)), (32, 59, .bool (!r80))], rfl, S, hz_of rfl, ?_⟩⟩
  refine node_by (A := anc_raddlelaw37_alive_0) (nf := [4]) (Y := [4]) 33 (by kernel_rfl) (by kernel_rfl) (by kernel_rfl) (by kernel_rfl) (by kernel_rfl) [5, 6, 7, 8, 9, 10, 11, 12, 13, 14, 15, 16, 17, 18, 19, 20, 21, 22, 23, 24, 25, 26, 27, 28, 29, 30, 31, 32, 4, 0, 1, 2, 3] (by kernel_rfl) (by decide) (by decide) (aD 0 32 4 (by decide) (aD 1 31 4 (by decide) (aD 2 30 4 (by decide) (aF 3 29 (by decide) ?_ (aY 4 28 (by decide) (aF 5 27 (by decide) ?_ (aF 6 26 (by decide) ?_ (aF 7 25 (by decide) ?_ (aF 8 24 (by decide) ?_ (aF 9 23 (by decide) ?_ (aF 10 22 (by decide) ?_ (aF 11 21 (by decide) ?_ (aF 12 20 (by decide) ?_ (aF 13 19 (by decide) ?_ (aF 14 18 (by decide) ?_ (aF 15 17 (by decide) ?_ (aF 16 16 (by decide) ?_ (aF 17 15 (by decide) ?_ (aF 18 14 (by decide) ?_ (aF 19 13 (by decide) ?_ (aF 20 12 (by decide) ?_ (aF 21 11 (by decide) ?_ (aF 22 10 (by decide) ?_ (aF 23 9 (by decide) ?_ (aF 24 8 (by decide) ?_ (aF 25 7 (by decide) ?_ (aF 26 6 (by decide) ?_ (aF 27 5 (by decide) ?_ (aF 28 4 (by decide) ?_ (aF 29 3 (by decide) ?_ (aF 30 2 (by decide) ?_ (aF 31 1 (by decide) ?_ (aF 32 0 (by decide) ?_ (trivial)))))))))))))))))))))))))))))))))) [(3, .pointer (some ⟨b45, 0, none⟩)), (7, .pointer (some ⟨b60, 0, none⟩)), (59, .bool (!r80))] (fin_of [none, none, some 27] rfl (by kernel_rfl) (by kernel_rfl)) (fun _ a w S => ?_)
  · refine fI 30 (.agg #[.slice ad21 r14.1.Left.length cp22, .slice ad23 r14.1.Right.length cp24]) [(1, .pointer (some ⟨b25, 0, none⟩)), (29, .bool (r14.2 != 0))] 32 [none, some 31] rfl rfl rfl rfl rfl rfl fun G a w S => ?_
    refine sLoadN (p := b25) (off := 0) (T := 30) (vs := [.slice ad21 r14.1.Left.length cp22, .slice ad23 r14.1.Right.length cp24]) 3 [.slice ad21 r14.1.Left.length cp22, .slice ad23 r14.1.Right.length cp24] S (wG 2 false 29 rfl rfl rfl hc63) rfl rfl rfl rfl rfl rfl rfl (lb rfl) fun a S => ?_
    exact leafL ⟨rfl, S⟩
  · refine fI 32 (.bool r73) [(30, .agg #[.slice ad21 r14.1.Left.length cp22, .slice ad23 r14.1.Right.length cp24]), (31, .agg #[.slice ad87 r27.Left.length cp88, .slice ad89 r27.Right.length cp90]), (29, .bool (r14.2 != 0))] 0 [some 32, some 28, some 31] rfl rfl rfl rfl rfl rfl fun G a w S => ?_
    have S1 := S.mem
    refine sCallQ (X := Unit) (f := 19) (vs := [.agg #[.slice ad21 r14.1.Left.length cp22, .slice ad23 r14.1.Right.length cp24], .agg #[.slice ad87 r27.Left.length cp88, .slice ad89 r27.Right.length cp90]]) (val := fun _ => .bool r73) S (wG 2 false 29 rfl rfl rfl hc63) rfl callee19 rfl (S1.quiet [13, 2] rfl) (fun E1 w1 S1 => c_raddleref37_Same E1 w1 r14.1 (.agg #[.slice ad21 r14.1.Left.length cp22, .slice ad23 r14.1.Right.length cp24]) r27 (.agg #[.slice ad87 r27.Left.length cp88, .slice ad89 r27.Right.length cp90]) r73 hx74 S1) rfl (lb rfl) fun _ a w S => ?_
    exact leafL ⟨rfl, S⟩
  · refine fI 33 (.bool (!r73)) [(32, .bool r73), (29, .bool (r14.2 != 0))] 1 [some 0, some 31] rfl rfl rfl rfl rfl rfl fun G a w S => ?_
    refine sNot (b := r73) S (wG 2 false 29 rfl rfl rfl hc63) rfl rfl rfl (lb rfl) fun a S => ?_
    exact leafL ⟨rfl, S⟩
  · refine fI 34 (.bool (!r73)) [(29, .bool (r14.2 != 0)), (33, .bool (!r73))] 2 [some 31, some 1] rfl rfl rfl rfl rfl rfl fun G a w S => ?_
    refine sPickF (.bool (!r73)) S (wN rfl) rfl rfl hc63 rfl rfl (lb rfl) fun a S => ?_
    exact leafL ⟨rfl, S⟩
  · refine fI 35 (.bool (!r73)) [(34, .bool (!r73))] 3 [some 2] rfl rfl rfl rfl rfl rfl fun G a w S => ?_
    refine sMove (.bool (!r73)) S (wN rfl) (.inl rfl) rfl rfl (lb rfl) fun a S => ?_
    exact leafL ⟨rfl, S⟩
  · refine fI 36 (iv r38.2) [(4, iv r38.2), (35, .bool (!r73))] 4 [none, some 3] rfl rfl rfl rfl rfl rfl fun G a w S => ?_
    refine sMove (iv r38.2) S (wG 8 false 35 rfl rfl rfl hc75) (.inl rfl) rfl rfl (lb rfl) fun a S => ?_
    exact leafL ⟨rfl, S⟩
  · refine fI 37 (.bool (r38.2 != 0)) [(36, iv r38.2), (35, .bool (!r73))] 5 [some 4, some 3] rfl rfl rfl rfl rfl rfl fun G a w S => ?_
    refine sBin (.bool (r38.2 != 0)) S (wG 8 false 35 rfl rfl rfl hc75) rfl rfl rfl (bNe _ _ _ _ .i64 r38.2 0) rfl (lb rfl) fun a S => ?_
    exact leafL ⟨rfl, S⟩
  · refine fI 38 (.bool (r38.2 != 0)) [(35, .bool (!r73)), (37, .bool (r38.2 != 0))] 6 [some 3, some 5] rfl rfl rfl rfl rfl rfl fun G a w S => ?_
    refine sPickF (.bool (r38.2 != 0)) S (wN rfl) rfl rfl hc75 rfl rfl (lb rfl) fun a S => ?_
    exact leafL ⟨rfl, S⟩
  · refine fI 39 (.bool (r38.2 != 0)) [(38, .bool (r38.2 != 0))] 7 [some 6] rfl rfl rfl rfl rfl rfl fun G a w S => ?_
    refine sMove (.bool (r38.2 != 0)) S (wN rfl) (.inl rfl) rfl rfl (lb rfl) fun a S => ?_
    exact leafL ⟨rfl, S⟩
  · refine fI 40 (.pointer (some ⟨b45, 0, none⟩)) [(3, .pointer (some ⟨b45, 0, none⟩)), (39, .bool (r38.2 != 0))] 8 [none, some 7] rfl rfl rfl rfl rfl rfl fun G a w S => ?_
    refine sField (b := b45) (off := 0) 0 0 S (wG 12 false 39 rfl rfl rfl hc76) rfl rfl rfl rfl rfl (lb rfl) fun a S => ?_
    exact leafL ⟨rfl, S⟩
  · refine fI 41 (iv r38.1.Start) [(40, .pointer (some ⟨b45, 0, none⟩)), (39, .bool (r38.2 != 0))] 9 [some 8, some 7] rfl rfl rfl rfl rfl rfl fun G a w S => ?_
    refine sLoad1 (p := b45) (off := 0) (T := 40) (vs := [iv r38.1.Start, .slice ad43 r38.1.Rows.length cp44]) 2 (iv r38.1.Start) S (wG 12 false 39 rfl rfl rfl hc76) rfl rfl rfl rfl rfl rfl (lb rfl) fun a S => ?_
    exact leafL ⟨rfl, S⟩
  · refine fI 42 (.bool (r38.1.Start != 10)) [(41, iv r38.1.Start), (39, .bool (r38.2 != 0))] 10 [some 9, some 7] rfl rfl rfl rfl rfl rfl fun G a w S => ?_
    refine sBin (.bool (r38.1.Start != 10)) S (wG 12 false 39 rfl rfl rfl hc76) rfl rfl rfl (bNe _ _ _ _ .i64 r38.1.Start 10) rfl (lb rfl) fun a S => ?_
    exact leafL ⟨rfl, S⟩
  · refine fI 43 (.bool (r38.1.Start != 10)) [(39, .bool (r38.2 != 0)), (42, .bool (r38.1.Start != 10))] 11 [some 7, some 10] rfl rfl rfl rfl rfl rfl fun G a w S => ?_
    refine sPickF (.bool (r38.1.Start != 10)) S (wN rfl) rfl rfl hc76 rfl rfl (lb rfl) fun a S => ?_
    exact leafL ⟨rfl, S⟩
  · refine fI 44 (.bool (r38.1.Start != 10)) [(43, .bool (r38.1.Start != 10))] 12 [some 11] rfl rfl rfl rfl rfl rfl fun G a w S => ?_
    refine sMove (.bool (r38.1.Start != 10)) S (wN rfl) (.inl rfl) rfl rfl (lb rfl) fun a S => ?_
    exact leafL ⟨rfl, S⟩
  · refine fI 45 (.pointer (some ⟨b45, 1, none⟩)) [(3, .pointer (some ⟨b45, 0, none⟩)), (44, .bool (r38.1.Start != 10))] 13 [none, some 12] rfl rfl rfl rfl rfl rfl fun G a w S => ?_
    refine sField (b := b45) (off := 0) 1 1 S (wG 17 false 44 rfl rfl rfl hc77) rfl rfl rfl rfl rfl (lb rfl) fun a S => ?_
    exact leafL ⟨rfl, S⟩
  · refine fI 46 (.slice ad43 r38.1.Rows.length cp44) [(45, .pointer (some ⟨b45, 1, none⟩)), (44, .bool (r38.1.Start != 10))] 14 [some 13, some 12] rfl rfl rfl rfl rfl rfl fun G a w S => ?_
    refine sLoad1 (p := b45) (off := 1) (T := 40) (vs := [iv r38.1.Start, .slice ad43 r38.1.Rows.length cp44]) 2 (.slice ad43 r38.1.Rows.length cp44) S (wG 17 false 44 rfl rfl rfl hc77) rfl rfl rfl rfl rfl rfl (lb rfl) fun a S => ?_
    exact leafL ⟨rfl, S⟩
  · refine fI 47 (iv (r38.1.Rows.length : Int)) [(46, .slice ad43 r38.1.Rows.length cp44), (44, .bool (r38.1.Start != 10))] 15 [some 14, some 12] rfl rfl rfl rfl rfl rfl fun G a w S => ?_
    refine sLen (ad := ad43) (m := r38.1.Rows.length) (c := cp44) S (wG 17 false 44 rfl rfl rfl hc77) rfl Tryd.underlying38 rfl rfl (lb rfl) fun a S => ?_
    exact leafL ⟨rfl, S⟩
  · refine fI 48 (.bool ((r38.1.Rows.length : Int) != 4)) [(47, iv (r38.1.Rows.length : Int)), (44, .bool (r38.1.Start != 10))] 16 [some 15, some 12] rfl rfl rfl rfl rfl rfl fun G a w S => ?_
    refine sBin (.bool ((r38.1.Rows.length : Int) != 4)) S (wG 17 false 44 rfl rfl rfl hc77) rfl rfl rfl (bNe _ _ _ _ .i64 (r38.1.Rows.length : Int) 4) rfl (lb rfl) fun a S => ?_
    exact leafL ⟨rfl, S⟩
  · refine fI 49 (.bool ((r38.1.Rows.length : Int) != 4)) [(44, .bool (r38.1.Start != 10)), (48, .bool ((r38.1.Rows.length : Int) != 4))] 17 [some 12, some 16] rfl rfl rfl rfl rfl rfl fun G a w S => ?_
    refine sPickF (.bool ((r38.1.Rows.length : Int) != 4)) S (wN rfl) rfl rfl hc77 rfl rfl (lb rfl) fun a S => ?_
    exact leafL ⟨rfl, S⟩
  · refine fI 50 (.bool ((r38.1.Rows.length : Int) != 4)) [(49, .bool ((r38.1.Rows.length : Int) != 4))] 18 [some 17] rfl rfl rfl rfl rfl rfl fun G a w S => ?_
    refine sMove (.bool ((r38.1.Rows.length : Int) != 4)) S (wN rfl) (.inl rfl) rfl rfl (lb rfl) fun a S => ?_
    exact leafL ⟨rfl, S⟩
  · refine fI 51 (iv r47.2) [(6, iv r47.2), (50, .bool ((r38.1.Rows.length : Int) != 4))] 19 [none, some 18] rfl rfl rfl rfl rfl rfl fun G a w S => ?_
    refine sMove (iv r47.2) S (wG 23 false 50 rfl rfl rfl hc78) (.inl rfl) rfl rfl (lb rfl) fun a S => ?_
    exact leafL ⟨rfl, S⟩
  · refine fI 52 (.bool (r47.2 != 0)) [(51, iv r47.2), (50, .bool ((r38.1.Rows.length : Int) != 4))] 20 [some 19, some 18] rfl rfl rfl rfl rfl rfl fun G a w S => ?_
    refine sBin (.bool (r47.2 != 0)) S (wG 23 false 50 rfl rfl rfl hc78) rfl rfl rfl (bNe _ _ _ _ .i64 r47.2 0) rfl (lb rfl) fun a S => ?_
    exact leafL ⟨rfl, S⟩
  · refine fI 53 (.bool (r47.2 != 0)) [(50, .bool ((r38.1.Rows.length : Int) != 4)), (52, .bool (r47.2 != 0))] 21 [some 18, some 20] rfl rfl rfl rfl rfl rfl fun G a w S => ?_
    refine sPickF (.bool (r47.2 != 0)) S (wN rfl) rfl rfl hc78 rfl rfl (lb rfl) fun a S => ?_
    exact leafL ⟨rfl, S⟩
  · refine fI 54 (.bool (r47.2 != 0)) [(53, .bool (r47.2 != 0))] 22 [some 21] rfl rfl rfl rfl rfl rfl fun G a w S => ?_
    refine sMove (.bool (r47.2 != 0)) S (wN rfl) (.inl rfl) rfl rfl (lb rfl) fun a S => ?_
    exact leafL ⟨rfl, S⟩
  · refine fI 55 (.agg #[.slice ad54 r47.1.Left.length cp55, .slice ad56 r47.1.Right.length cp57]) [(5, .pointer (some ⟨b58, 0, none⟩)), (54, .bool (r47.2 != 0))] 23 [none, some 22] rfl rfl rfl rfl rfl rfl fun G a w S => ?_
    refine sLoadN (p := b58) (off := 0) (T := 30) (vs := [.slice ad54 r47.1.Left.length cp55, .slice ad56 r47.1.Right.length cp57]) 1 [.slice ad54 r47.1.Left.length cp55, .slice ad56 r47.1.Right.length cp57] S (wG 27 false 54 rfl rfl rfl hc79) rfl rfl rfl rfl rfl rfl rfl (lb rfl) fun a S => ?_
    exact leafL ⟨rfl, S⟩
  · refine fI 56 (.agg #[.slice ad21 r14.1.Left.length cp22, .slice ad23 r14.1.Right.length cp24]) [(1, .pointer (some ⟨b25, 0, none⟩)), (54, .bool (r47.2 != 0))] 24 [none, some 22] rfl rfl rfl rfl rfl rfl fun G a w S => ?_
    refine sLoadN (p := b25) (off := 0) (T := 30) (vs := [.slice ad21 r14.1.Left.length cp22, .slice ad23 r14.1.Right.length cp24]) 3 [.slice ad21 r14.1.Left.length cp22, .slice ad23 r14.1.Right.length cp24] S (wG 27 false 54 rfl rfl rfl hc79) rfl rfl rfl rfl rfl rfl rfl (lb rfl) fun a S => ?_
    exact leafL ⟨rfl, S⟩
  · refine fI 57 (.bool r80) [(55, .agg #[.slice ad54 r47.1.Left.length cp55, .slice ad56 r47.1.Right.length cp57]), (56, .agg #[.slice ad21 r14.1.Left.length cp22, .slice ad23 r14.1.Right.length cp24]), (54, .bool (r47.2 != 0))] 25 [some 23, some 24, some 22] rfl rfl rfl rfl rfl rfl fun G a w S => ?_
    have S1 := S.mem
    refine sCallQ (X := Unit) (f := 19) (vs := [.agg #[.slice ad54 r47.1.Left.length cp55, .slice ad56 r47.1.Right.length cp57], .agg #[.slice ad21 r14.1.Left.length cp22, .slice ad23 r14.1.Right.length cp24]]) (val := fun _ => .bool r80) S (wG 27 false 54 rfl rfl rfl hc79) rfl callee19 rfl (S1.quiet [5, 13] rfl) (fun E1 w1 S1 => c_raddleref37_Same E1 w1 r47.1 (.agg #[.slice ad54 r47.1.Left.length cp55, .slice ad56 r47.1.Right.length cp57]) r14.1 (.agg #[.slice ad21 r14.1.Left.length cp22, .slice ad23 r14.1.Right.length cp24]) r80 hx81 S1) rfl (lb rfl) fun _ a w S => ?_
    exact leafL ⟨rfl, S⟩
  · refine fI 58 (.bool (!r80)) [(57, .bool r80), (54, .bool (r47.2 != 0))] 26 [some 25, some 22] rfl rfl rfl rfl rfl rfl fun G a w S => ?_
    refine sNot (b := r80) S (wG 27 false 54 rfl rfl rfl hc79) rfl rfl rfl (lb rfl) fun a S => ?_
    exact leafL ⟨rfl, S⟩
  · refine fI 59 (.bool (!r80)) [(54, .bool (r47.2 != 0)), (58, .bool (!r80))] 27 [some 22, some 26] rfl rfl rfl rfl rfl rfl fun G a w S => ?_
    refine sPickF (.bool (!r80)) S (wN rfl) rfl rfl hc79 rfl rfl (lb rfl) fun a S => ?_
    exact leafL ⟨rfl, S⟩
  refine leafT (hK62 _ _ ?_)
  rcases iteSome h with ⟨hc91, h⟩ | ⟨hc91, h⟩
  · exact absurd hc91 (by rw [hv_r80]; decide)
  refine sCondF S rfl hc91 ?_
  refine wp_skip (leafT (hK61 _ _ ?_))
  obtain ⟨t92, h, g93⟩ := bindSome h
  refine sCut (fun a w => .inl () = t92 ∧ St [] E [] w0 95 a w [] [] []) ?_ (fun a w hI => ?_)
  rotate_left
  · obtain ⟨rfl, S⟩ := hI
    have h := g93
    clear g93
    try dsimp only at h
    refine sSeq (fun K131 hK131 => ?_)
    refine sRegion ?_
    refine sMove (.bool true) S (wN rfl) (.inr rfl) rfl rfl (lb rfl) fun a S => ?_
    refine leafL (leafT (hK131 _ _ ?_))
    obtain rfl := Option.some.inj h
    exact wp_ret (sRet (.bool true) S (rsl1 rfl (rvT (t := 0) (v := .bool true) S rfl)) ⟨(), rfl, S.mem.sel [] [] (by decide) rfl rfl⟩)
  refine sSeq (fun K94 hK94 => ?_)
  refine sRegion ?_
  refine sMove (iv 0) S (wN rfl) (.inr rfl) rfl rfl (lb rfl) fun a S => ?_
  refine leafL (leafT (hK94 _ _ ?_))
  refine wp_block ?_
  obtain ⟨t98, hl, g97⟩ := bindSome h
  refine sLoop hl (fun s0 a w => match s0 with | s95 => St [] E [] w0 95 a w [(3, .pointer (some ⟨b45, 0, none⟩)), (7, .pointer (some ⟨b60, 0, none⟩)), (8, iv s95)] [eBox b45 40 [iv r38.1.Start, .slice ad43 r38.1.Rows.length cp44], eBox b60 73 [.string (⟨#[112, 108, 50, 32, 112, 56]⟩ : ByteArray), .string (⟨#[107, 102, 50, 32, 107, 55]⟩ : ByteArray), .string (⟨#[112, 108, 50, 32, 112, 54]⟩ : ByteArray), .string (⟨#[107, 102, 50, 32, 107, 53]⟩ : ByteArray)]] [fRep (rL r_api_Row) (.slice ad43 r38.1.Rows.length cp44) r38.1.Rows]) (S.fix [2, 0] [6] (by decide) rfl rfl rfl) ?_
  clear hl h
  intro s95 a w c0 hI h hu96
  unfold raddlelaw37_alive_l1 at h
  dsimp only at h hI
  have S := hI
  refine sSeq (fun K99 hK99 => ?_)
  refine sSeq (fun K100 hK100 => ?_)
  refine sRegion ?_
  refine sMove (iv s95) S (wN rfl) (.inl rfl) rfl rfl (lb rfl) fun a S => ?_
  refine sBin (.bool (decide (s95 < 4))) S (wN rfl) rfl rfl rfl (bLt _ _ _ _ .i64 s95 4) rfl (lb rfl) fun a S => ?_
  refine leafL (leafT (hK100 _ _ ?_))
  rcases iteSome h with ⟨hc101, h⟩ | ⟨hc101, h⟩
  rotate_left
  · refine sCondF S rfl hc101 ?_
    obtain rfl := Option.some.inj h
    obtain rfl := hu96 _ rfl
    have h := g97
    clear g97
    try dsimp only at h
    exact wp_exit (xThen (xThen (xHit (leafT (⟨Option.some.inj h, S.fix [] [] (by decide) rfl rfl rfl⟩)))))
  refine sCondT S rfl hc101 ?_
  refine wp_skip (leafT (hK99 _ _ ?_))
  refine sSeq (fun K102 hK102 => ?_)
  refine wp_block ?_
  refine sSeq (fun K103 hK103 => ?_)
  refine sRegion ?_
  refine sField (b := b45) (off := 0) 1 1 S (wN rfl) rfl rfl rfl rfl rfl (lb rfl) fun a S => ?_
  refine sLoad1 (p := b45) (off := 1) (T := 40) (vs := [iv r38.1.Start, .slice ad43 r38.1.Rows.length cp44]) 0 (.slice ad43 r38.1.Rows.length cp44) S (wN rfl) rfl rfl rfl rfl rfl rfl (lb rfl) fun a S => ?_
  refine sMove (iv s95) S (wN rfl) (.inl rfl) rfl rfl (lb rfl) fun a S => ?_
  obtain ⟨x104, hx105, h⟩ := bindSome h
  obtain ⟨q106, hq107, S⟩ := pIdx (P := Tryd.prog) (r := r_api_Row) (v := .slice ad43 r38.1.Rows.length cp44) (xs := r38.1.Rows) (j := s95) 38 54 0 S Tryd.underlying38 rfl rfl hx105
  refine sIdxV (v := .slice ad43 r38.1.Rows.length cp44) (k := .i64) (j := s95) S (wN rfl) rfl rfl rfl hq107 rfl (lb rfl) fun a S => ?_
  obtain ⟨q108, hq109, S⟩ := pFld (P := Tryd.prog) (r := r_api_Row) (s2 := (rL r_api_Stitch)) (g := (·.Cells)) (q := q106) (z := x104) 54 1 0 1 S rfl rfl comp_api_Row_Cells
  refine sFldV (q := q106) S (wN rfl) rfl rfl hq109 rfl (lb rfl) fun a S => ?_
  obtain ⟨u110, S⟩ := pLoad (r := (rL r_api_Stitch)) (q := q108) (x := x104.Cells) 0 S rfl
  obtain ⟨ad111, cp112, _, rfl, _⟩ := S.mem.know (i := 1) (e := fRep (rL r_api_Stitch) (u110) x104.Cells) rfl
  refine sLoadV1 (vq := q108) 0 (.slice ad111 x104.Cells.length cp112) S (wN rfl) rfl rfl rfl rfl rfl (lb rfl) fun a S => ?_
  obtain ⟨r113, hx114, h⟩ := bindSome h
  have S1 := S.mem
  refine sCallQ (X := Unit) (f := 33) (vs := [.slice ad111 x104.Cells.length cp112]) (val := fun _ => .tuple #[.string r113.1, iv r113.2]) S (wN rfl) rfl callee33 rfl (S1.quiet [1] rfl) (fun E1 w1 S1 => c_stitch_Text E1 w1 x104.Cells (.slice ad111 x104.Cells.length cp112) r113 hx114 S1) rfl (lb rfl) fun _ a w S => ?_
  refine sMove (.tuple #[.string r113.1, iv r113.2]) S (wN rfl) (.inl rfl) rfl rfl (lb rfl) fun a S => ?_
  refine sExtract (vs := [.string r113.1, iv r113.2]) (.string r113.1) S (wN rfl) rfl rfl rfl rfl (lb rfl) fun a S => ?_
  refine sExtract (vs := [.string r113.1, iv r113.2]) (iv r113.2) S (wN rfl) rfl rfl rfl rfl (lb rfl) fun a S => ?_
  refine sMove (.string r113.1) S (wN rfl) (.inr rfl) rfl rfl (lb rfl) fun a S => ?_
  refine sMove (iv r113.2) S (wN rfl) (.inr rfl) rfl rfl (lb rfl) fun a S => ?_
  refine leafL (leafT (hK103 _ _ ?_))
  obtain ⟨t116, h, g117⟩ := bindSome h
  refine sCut (fun a w => ∃ o115, o115 = t116 ∧ St [] E [] w0 95 a w [(3, .pointer (some ⟨b45, 0, none⟩)), (7, .pointer (some ⟨b60, 0, none⟩)), (8, iv s95), (94, .bool o115)] [eBox b45 40 [iv r38.1.Start, .slice ad43 r38.1.Rows.length cp44], eBox b60 73 [.string (⟨#[112, 108, 50, 32, 112, 56]⟩ : ByteArray), .string (⟨#[107, 102, 50, 32, 107, 55]⟩ : ByteArray), .string (⟨#[112, 108, 50, 32, 112, 54]⟩ : ByteArray), .string (⟨#[107, 102, 50, 32, 107, 53]⟩ : ByteArray)]] [fRep (rL r_api_Row) (.slice ad43 r38.1.Rows.length cp44) r38.1.Rows]) ?_ (fun a w hI => ?_)
  rotate_left
  · obtain ⟨o115, rfl, S⟩ := hI
    have h := g117
    clear g117
    try dsimp only at h
    rcases iteSome h with ⟨hc129, h⟩ | ⟨hc129, h⟩
    rotate_left
    · refine sCondF S rfl hc129 ?_
      refine wp_skip (leafB (leafT (hK102 _ _ ?_)))
      refine sRegion ?_
      refine sMove (iv s95) S (wN rfl) (.inl rfl) rfl rfl (lb rfl) fun a S => ?_
      refine sBin (iv (w64 (s95 + 1))) S (wN rfl) rfl rfl rfl (bAdd _ _ _ _ s95 1) rfl (lb rfl) fun a S => ?_
      refine sMove (iv (w64 (s95 + 1))) S (wN rfl) (.inr rfl) rfl rfl (lb rfl) fun a S => ?_
      exact leafL (leafT (⟨w64 (s95 + 1), (Option.some.inj h).symm, (S.fix [0, 1] [0] (by decide) rfl rfl rfl)⟩))
    refine sCondT S rfl hc129 ?_
    refine sSeq (fun K130 hK130 => ?_)
    refine sRegion ?_
    refine sMove (.bool false) S (wN rfl) (.inr rfl) rfl rfl (lb rfl) fun a S => ?_
    refine leafL (leafT (hK130 _ _ ?_))
    obtain rfl := Option.some.inj h
    obtain rfl := hu96 _ rfl
    have h := g97
    clear g97
    try dsimp only at h
    obtain rfl := Option.some.inj h
    have h := g93
    clear g93
    try dsimp only at h
    obtain rfl := Option.some.inj h
    exact wp_ret (rBlock (rThen (rThen (rBlock (rThen (sRet (.bool false) S (rsl1 rfl (rvT (t := 0) (v := .bool false) S rfl)) ⟨(), rfl, S.mem.sel [] [] (by decide) rfl rfl⟩))))))
  refine sRegion ?_
  refine sMove (iv r113.2) S (wN rfl) (.inl rfl) rfl rfl (lb rfl) fun a S => ?_
  refine sBin (.bool (r113.2 != 0)) S (wN rfl) rfl rfl rfl (bNe _ _ _ _ .i64 r113.2 0) rfl (lb rfl) fun a S => ?_
  refine sMove (.bool (r113.2 != 0)) S (wN rfl) (.inl rfl) rfl rfl (lb rfl) fun a S => ?_
  rcases iteSome h with ⟨hc118, h⟩ | ⟨hc118, h⟩
  · refine sSkip 2 false 76 77 S rfl rfl rfl hc118 rfl (lb rfl) fun a S => ?_
    refine sSkip 2 false 76 78 S rfl rfl rfl hc118 rfl (lb rfl) fun a S => ?_
    refine sSkip 2 false 76 79 S rfl rfl rfl hc118 rfl (lb rfl) fun a S => ?_
    refine sSkip 2 false 76 80 S rfl rfl rfl hc118 rfl (lb rfl) fun a S => ?_
    refine sSkip 2 false 76 81 S rfl rfl rfl hc118 rfl (lb rfl) fun a S => ?_
    refine sPickT (.bool true) S (wN rfl) rfl rfl hc118 rfl rfl (lb rfl) fun a S => ?_
    refine sMove (.bool true) S (wN rfl) (.inl rfl) rfl rfl (lb rfl) fun a S => ?_
    refine sSkip 9 false 83 84 S rfl rfl rfl rfl rfl (lb rfl) fun a S => ?_
    refine sSkip 9 false 83 85 S rfl rfl rfl rfl rfl (lb rfl) fun a S => ?_
    refine sSkip 9 false 83 86 S rfl rfl rfl rfl rfl (lb rfl) fun a S => ?_
    refine sSkip 9 false 83 87 S rfl rfl rfl rfl rfl (lb rfl) fun a S => ?_
    refine sSkip 9 false 83 88 S rfl rfl rfl rfl rfl (lb rfl) fun a S => ?_
    refine sSkip 9 false 83 89 S rfl rfl rfl rfl rfl (lb rfl) fun a S => ?_
    refine sSkip 9 false 83 90 S rfl rfl rfl rfl rfl (lb rfl) fun a S => ?_
    refine sSkip 9 false 83 91 S rfl rfl rfl rfl rfl (lb rfl) fun a S => ?_
    refine sSkip 9 false 83 92 S rfl rfl rfl rfl rfl (lb rfl) fun a S => ?_
    refine sSkip 9 false 83 93 S rfl rfl rfl rfl rfl (lb rfl) fun a S => ?_
    refine sPickT (.bool true) S (wN rfl) rfl rfl rfl rfl rfl (lb rfl) fun a S => ?_
    exact leafL (leafT (⟨true, Option.some.inj h, S.fix [0, 1] [4] (by decide) rfl rfl rfl⟩))
  refine sMove (.string r113.1) S (wG 2 false 76 rfl rfl rfl hc118) (.inl rfl) rfl rfl (lb rfl) fun a S => ?_
  refine sMove (iv s95) S (wG 2 false 76 rfl rfl rfl hc118) (.inl rfl) rfl rfl (lb rfl) fun a S => ?_
  obtain ⟨x119, hx120, h⟩ := bindSome h
  refine sIdxV (v := .pointer (some ⟨b60, 0, none⟩)) (k := .i64) (j := s95) (q := .pointer (some ⟨b60, 0 + (s95).toNat * 1, none⟩)) S (wG 2 false 76 rfl rfl rfl hc118) rfl rfl rfl (idxV_arr (m := 4) (sz := 1) Tryd.underlying73 rfl (idxO_rng (m := 4) hx120 rfl).1 (idxO_rng (m := 4) hx120 rfl).2 0) rfl (lb rfl) fun a S => ?_
  refine sLoad1 (p := b60) (off := 0 + (s95).toNat * 1) (T := 73) (vs := [.string (⟨#[112, 108, 50, 32, 112, 56]⟩ : ByteArray), .string (⟨#[107, 102, 50, 32, 107, 55]⟩ : ByteArray), .string (⟨#[112, 108, 50, 32, 112, 54]⟩ : ByteArray), .string (⟨#[107, 102, 50, 32, 107, 53]⟩ : ByteArray)]) 1 (.string x119) S (wG 2 false 76 rfl rfl rfl hc118) rfl rfl rfl rfl (box_at (g := (fun z => .string z)) [] [] 0 hx120 rfl rfl) rfl (lb rfl) fun a S => ?_
  refine sBin (.bool (r113.1 != x119)) S (wG 2 false 76 rfl rfl rfl hc118) rfl rfl rfl (bNeS _ _ _ _ r113.1 x119) rfl (lb rfl) fun a S => ?_
  refine sPickF (.bool (r113.1 != x119)) S (wN rfl) rfl rfl hc118 rfl rfl (lb rfl) fun a S => ?_
  refine sMove (.bool (r113.1 != x119)) S (wN rfl) (.inl rfl) rfl rfl (lb rfl) fun a S => ?_
  rcases iteSome h with ⟨hc121, h⟩ | ⟨hc121, h⟩
  · refine sSkip 9 false 83 84 S rfl rfl rfl hc121 rfl (lb rfl) fun a S => ?_
    refine sSkip 9 false 83 85 S rfl rfl rfl hc121 rfl (lb rfl) fun a S => ?_
    refine sSkip 9 false 83 86 S rfl rfl rfl hc121 rfl (lb rfl) fun a S => ?_
    refine sSkip 9 false 83 87 S rfl rfl rfl hc121 rfl (lb rfl) fun a S => ?_
    refine sSkip 9 false 83 88 S rfl rfl rfl hc121 rfl (lb rfl) fun a S => ?_
    refine sSkip 9 false 83 89 S rfl rfl rfl hc121 rfl (lb rfl) fun a S => ?_
    refine sSkip 9 false 83 90 S rfl rfl rfl hc121 rfl (lb rfl) fun a S => ?_
    refine sSkip 9 false 83 91 S rfl rfl rfl hc121 rfl (lb rfl) fun a S => ?_
    refine sSkip 9 false 83 92 S rfl rfl rfl hc121 rfl (lb rfl) fun a S => ?_
    refine sSkip 9 false 83 93 S rfl rfl rfl hc121 rfl (lb rfl) fun a S => ?_
    refine sPickT (.bool true) S (wN rfl) rfl rfl hc121 rfl rfl (lb rfl) fun a S => ?_
    exact leafL (leafT (⟨true, Option.some.inj h, S.fix [0, 1] [4] (by decide) rfl rfl rfl⟩))
  refine sField (b := b45) (off := 0) 1 1 S (wG 9 false 83 rfl rfl rfl hc121) rfl rfl rfl rfl rfl (lb rfl) fun a S => ?_
  refine sLoad1 (p := b45) (off := 1) (T := 40) (vs := [iv r38.1.Start, .slice ad43 r38.1.Rows.length cp44]) 0 (.slice ad43 r38.1.Rows.length cp44) S (wG 9 false 83 rfl rfl rfl hc121) rfl rfl rfl rfl rfl rfl (lb rfl) fun a S => ?_
  refine sMove (iv s95) S (wG 9 false 83 rfl rfl rfl hc121) (.inl rfl) rfl rfl (lb rfl) fun a S => ?_
  obtain ⟨q122, hq123, S⟩ := pIdx (P := Tryd.prog) (r := r_api_Row) (v := .slice ad43 r38.1.Rows.length cp44) (xs := r38.1.Rows) (j := s95) 38 54 4 S Tryd.underlying38 rfl rfl hx105
  refine sIdxV (v := .slice ad43 r38.1.Rows.length cp44) (k := .i64) (j := s95) S (wG 9 false 83 rfl rfl rfl hc121) rfl rfl rfl hq123 rfl (lb rfl) fun a S => ?_
  obtain ⟨q124, hq125, S⟩ := pFld (P := Tryd.prog) (r := r_api_Row) (s2 := rB) (g := (·.Back)) (q := q122) (z := x104) 54 0 0 0 S rfl rfl comp_api_Row_Back
  refine sFldV (q := q122) S (wG 9 false 83 rfl rfl rfl hc121) rfl rfl hq125 rfl (lb rfl) fun a S => ?_
  obtain ⟨u126, S⟩ := pLoad (r := rB) (q := q124) (x := x104.Back) 0 S rfl
  obtain rfl : u126 = .bool x104.Back := S.mem.know (i := 1) (e := fRep rB (u126) x104.Back) rfl
  refine sLoadV1 (vq := q124) 0 (.bool x104.Back) S (wG 9 false 83 rfl rfl rfl hc121) rfl rfl rfl rfl rfl (lb rfl) fun a S => ?_
  refine sMove (iv s95) S (wG 9 false 83 rfl rfl rfl hc121) (.inl rfl) rfl rfl (lb rfl) fun a S => ?_
  obtain ⟨z127, hx128, h⟩ := bindSome h
  refine sBin (iv z127) S (wG 9 false 83 rfl rfl rfl hc121) rfl rfl rfl (bRem _ _ _ _ (x := s95) (y := 2) hx128) rfl (lb rfl) fun a S => ?_
  refine sBin (.bool (z127 == 0)) S (wG 9 false 83 rfl rfl rfl hc121) rfl rfl rfl (bEq _ _ _ _ .i64 z127 0) rfl (lb rfl) fun a S => ?_
  refine sBin (.bool (x104.Back != (z127 == 0))) S (wG 9 false 83 rfl rfl rfl hc121) rfl rfl rfl (bNeB _ _ _ _ Tryd.underlying4 x104.Back (z127 == 0)) rfl (lb rfl) fun a S => ?_
  refine sPickF (.bool (x104.Back != (z127 == 0))) S (wN rfl) rfl rfl hc121 rfl rfl (lb rfl) fun a S => ?_
  exact leafL (leafT (⟨x104.Back != (z127 == 0), Option.some.inj h, S.fix [0, 1] [8] (by decide) rfl rfl rfl⟩))

end Go.Proofs.YtmedbnjhgkcndaaDoor
namespace Go.Proofs.YtmedbnjhgkcndaaDoor
open Go.RowKit
set_option linter.unusedVariables false

def K_raddlelaw37_alive_l1 (r38 : (api_Chart × Int)) : Int → Option (Int ⊕ (Bool ⊕ Unit)) := fun s0 => match s0 with
  | s95 =>
    if decide (s95 < 4) then
      Option.bind (idxO r38.1.Rows s95) fun x104 =>
      Option.bind (K_stitch_Text x104.Cells) fun r113 =>
      Option.bind (α := Bool) (
        if r113.2 != 0 then
          some true
        else
          Option.bind (idxO ([(⟨#[112, 108, 50, 32, 112, 56]⟩ : ByteArray), (⟨#[107, 102, 50, 32, 107, 55]⟩ : ByteArray), (⟨#[112, 108, 50, 32, 112, 54]⟩ : ByteArray), (⟨#[107, 102, 50, 32, 107, 53]⟩ : ByteArray)] : List ByteArray) s95) fun x119 =>
          if r113.1 != x119 then
            some true
          else
            Option.bind (remI s95 2) fun z127 =>
            some (x104.Back != (z127 == 0))) fun o115 =>
      if o115 then
        some (.inr (.inl false))
      else
        some (.inl (w64 (s95 + 1)))
    else
      some (.inr (.inr ()))
def K_raddlelaw37_alive  : Option Bool :=
  Option.bind (K_raddlelaw37_given) fun r3 =>
  Option.bind (K_piece_Make r3) fun r14 =>
  Option.bind (K_raddlelaw37_made) fun r27 =>
  Option.bind (K_piece_Chart r27) fun r38 =>
  Option.bind (K_piece_Read r38.1 0) fun r47 =>
  if r14.2 != 0 then
    none
  else
    Option.bind (K_raddleref37_Same r14.1 r27) fun r73 =>
    if !r73 then
      none
    else
      if r38.2 != 0 then
        none
      else
        if r38.1.Start != 10 then
          none
        else
          if (r38.1.Rows.length : Int) != 4 then
            none
          else
            if r47.2 != 0 then
              none
            else
              Option.bind (K_raddleref37_Same r47.1 r14.1) fun r80 =>
              if !r80 then
                none
              else
                Option.bind (α := Unit ⊕ Bool) (
                  Option.bind (whileK (K_raddlelaw37_alive_l1 r38) 0) fun z0 => match z0 with
                    | .inl z =>
                      some (.inr z)
                    | .inr _ =>
                      some (.inl ())) fun z0 => match z0 with
                  | .inl _ =>
                    some true
                  | .inr z =>
                    some z
theorem m_raddlelaw37_alive_l1 (r38 : (api_Chart × Int)) : ∀ s, Le (K_raddlelaw37_alive_l1 r38 s) (raddlelaw37_alive_l1 r38 s) := by
  unfold K_raddlelaw37_alive_l1 raddlelaw37_alive_l1
  with_reducible repeat' (first | exact m_F_stitch_Text _ | exact Le.rfl _ | refine Le.loop _ ?_ | refine Le.bind ?_ ?_ | refine Le.ite ?_ ?_ | refine Le.sum ?_ ?_ | refine Le.prod ?_ | intro _ | exact Empty.elim (by assumption) | dsimp only)
theorem m_F_raddlelaw37_alive  : Le (K_raddlelaw37_alive) (F_raddlelaw37_alive) := by
  unfold K_raddlelaw37_alive F_raddlelaw37_alive
  with_reducible repeat' (first | exact m_F_raddlelaw37_given | exact m_F_piece_Make _ | exact m_F_raddlelaw37_made | exact m_F_piece_Chart _ | exact m_F_piece_Read _ _ | exact m_F_raddleref37_Same _ _ | exact m_raddlelaw37_alive_l1 _ | exact Le.rfl _ | refine Le.loop _ ?_ | refine Le.bind ?_ ?_ | refine Le.ite ?_ ?_ | refine Le.sum ?_ ?_ | refine Le.prod ?_ | intro _ | exact Empty.elim (by assumption) | dsimp only)
set_option maxRecDepth 1000000 in
theorem k_raddlelaw37_alive : F_raddlelaw37_alive = some true := m_F_raddlelaw37_alive _ (by kernel_rfl)
end Go.Proofs.YtmedbnjhgkcndaaDoor
namespace Go.Proofs.YtmedbnjhgkcndaaDoor
open Go.RowKit
set_option linter.unusedVariables false

theorem w64_of {x : Int} (h0 : -9223372036854775808 ≤ x) (h1 : x ≤ 9223372036854775807) : w64 x = x := w64_id ⟨h0, h1⟩
theorem w64_succ {k : Nat} (h : k < 9223372036854775807) : w64 ((k : Int) + 1) = ((k + 1 : Nat) : Int) := by
  rw [w64_of (by omega) (by omega)]; omega
theorem idxO_nat {α : Type} {xs : List α} {k : Nat} (h : k < xs.length) : idxO xs (k : Int) = some xs[k] := by
  simp [idxO, h]
theorem idxO_of {α : Type} {xs : List α} {i : Int} {k : Nat} (hi : i = (k : Int)) (h : k < xs.length) : idxO xs i = some xs[k] := by subst hi; exact idxO_nat h
theorem appO_of {α : Type} {xs ys : List α} (h : xs.length + ys.length ≤ 68719476736) : appO xs ys = some (xs ++ ys) := by
  simp [appO, lim, h]
theorem capO_of {n : Int} {k : Nat} (h : n = (k : Int)) (hk : k ≤ 68719476736) : capO n = some () := by
  subst h; simp [capO, lim, hk]
/-- a loop over an index, with a state beside it -/
theorem loop_st {σ τ : Type} {B : σ × Int → Option ((σ × Int) ⊕ τ)} (n : Nat) (I : Nat → σ → Prop) (Pt : τ → Prop) {s0 : σ} (h0 : I 0 s0)
    (step : ∀ k s, k < n → I k s → (∃ s', B (s, (k : Int)) = some (.inl (s', ((k + 1 : Nat) : Int))) ∧ I (k + 1) s') ∨ (∃ t, B (s, (k : Int)) = some (.inr t) ∧ Pt t))
    (last : ∀ s, I n s → ∃ t, B (s, (n : Int)) = some (.inr t) ∧ Pt t) : ∃ t, whileO B (s0, 0) = some t ∧ Pt t := by
  refine whileO_inv (fun s => ∃ k : Nat, k ≤ n ∧ s.2 = (k : Int) ∧ I k s.1) (fun s => ((n : Int) - s.2).toNat) Pt ⟨0, Nat.zero_le _, rfl, h0⟩ ?_
  rintro ⟨s, i⟩ ⟨k, hk, rfl, hI⟩
  by_cases hlt : k < n
  · rcases step k s hlt hI with ⟨s', h1, h2⟩ | h
    · exact .inl ⟨_, h1, ⟨k + 1, hlt, rfl, h2⟩, by simp; omega⟩
    · exact .inr h
  · obtain rfl : k = n := by omega
    exact .inr (last s hI)
/-- a loop over an index alone -/
theorem loop_ix {τ : Type} {B : Int → Option (Int ⊕ τ)} (n : Nat) (I : Nat → Prop) (Pt : τ → Prop) (h0 : I 0)
    (step : ∀ k, k < n → I k → (B (k : Int) = some (.inl ((k + 1 : Nat) : Int)) ∧ I (k + 1)) ∨ (∃ t, B (k : Int) = some (.inr t) ∧ Pt t))
    (last : I n → ∃ t, B (n : Int) = some (.inr t) ∧ Pt t) : ∃ t, whileO B 0 = some t ∧ Pt t := by
  refine whileO_inv (fun s => ∃ k : Nat, k ≤ n ∧ s = (k : Int) ∧ I k) (fun s => ((n : Int) - s).toNat) Pt ⟨0, Nat.zero_le _, rfl, h0⟩ ?_
  rintro i ⟨k, hk, rfl, hI⟩
  by_cases hlt : k < n
  · rcases step k hlt hI with ⟨h1, h2⟩ | h
    · exact .inl ⟨_, h1, ⟨k + 1, hlt, rfl, h2⟩, by simp; omega⟩
    · exact .inr h
  · obtain rfl : k = n := by omega
    exact .inr (last hI)

end Go.Proofs.YtmedbnjhgkcndaaDoor
namespace Go.Proofs.YtmedbnjhgkcndaaDoor
open Go.RowKit
set_option linter.unusedVariables false

/-- a loop that tests all, and says bad at the first that fails -/
theorem loop_all {τ : Type} {B : Int → Option (Int ⊕ τ)} (n : Nat) (p : Nat → Bool) (good bad : τ)
    (h : ∀ k, k < n → B (k : Int) = some (if p k = true then .inl ((k + 1 : Nat) : Int) else .inr bad)) (hn : B (n : Int) = some (.inr good)) :
    whileO B 0 = some (if (List.range n).all p = true then good else bad) := by
  have key : ∃ t, whileO B 0 = some t ∧ t = if (List.range n).all p = true then good else bad := by
    refine loop_ix n (fun k => ∀ j, j < k → p j = true) _ (fun j h => absurd h (Nat.not_lt_zero j)) ?_ ?_
    · intro k hk hI
      cases hf : p k with
      | true =>
        refine .inl ⟨by rw [h k hk, if_pos hf], fun j hj => ?_⟩
        by_cases e : j = k
        · rw [e]; exact hf
        · exact hI j (by omega)
      | false =>
        refine .inr ⟨bad, by rw [h k hk, hf]; simp, ?_⟩
        rw [if_neg]
        intro hc
        rw [List.all_eq_true] at hc
        have := hc k (List.mem_range.2 hk)
        rw [hf] at this; cases this
    · intro hI
      refine ⟨good, hn, ?_⟩
      rw [if_pos]
      rw [List.all_eq_true]
      exact fun j hj => hI j (List.mem_range.1 hj)
  obtain ⟨t, h1, rfl⟩ := key
  exact h1
theorem dT {p : Prop} [Decidable p] (h : p) : decide p = true := decide_eq_true h
theorem dF {p : Prop} [Decidable p] (h : ¬ p) : decide p = false := decide_eq_false h
theorem bT {a b : Int} (h : a = b) : (a == b) = true := by simp [h]
theorem bF {a b : Int} (h : ¬ a = b) : (a == b) = false := by simp [h]
theorem nT {a b : Int} (h : ¬ a = b) : (a != b) = true := by simp [h]
theorem nF {a b : Int} (h : a = b) : (a != b) = false := by simp [h]
/-- a loop whose index comes first in its state -/
theorem loop_ts {σ τ : Type} {B : Int × σ → Option ((Int × σ) ⊕ τ)} (n : Nat) (I : Nat → σ → Prop) (Pt : τ → Prop) {s0 : σ} (h0 : I 0 s0)
    (step : ∀ k s, k < n → I k s → (∃ s', B ((k : Int), s) = some (.inl (((k + 1 : Nat) : Int), s')) ∧ I (k + 1) s') ∨ (∃ t, B ((k : Int), s) = some (.inr t) ∧ Pt t))
    (last : ∀ s, I n s → ∃ t, B ((n : Int), s) = some (.inr t) ∧ Pt t) : ∃ t, whileO B (0, s0) = some t ∧ Pt t := by
  refine whileO_inv (fun s => ∃ k : Nat, k ≤ n ∧ s.1 = (k : Int) ∧ I k s.2) (fun s => ((n : Int) - s.1).toNat) Pt ⟨0, Nat.zero_le _, rfl, h0⟩ ?_
  rintro ⟨i, s⟩ ⟨k, hk, rfl, hI⟩
  by_cases hlt : k < n
  · rcases step k s hlt hI with ⟨s', h1, h2⟩ | h
    · exact .inl ⟨_, h1, ⟨k + 1, hlt, rfl, h2⟩, by simp; omega⟩
    · exact .inr h
  · obtain rfl : k = n := by omega
    exact .inr (last s hI)
/-- a row filled from its start on -/
def Fill {α : Type} (n : Nat) (f : Nat → α) (k : Nat) (s : List α) : Prop := s.length = n ∧ ∀ j, j < k → s[j]? = some (f j)
theorem Fill.zero {α : Type} (n : Nat) (f : Nat → α) (z : α) : Fill n f 0 (List.replicate n z) := ⟨by simp, fun j hj => absurd hj (Nat.not_lt_zero j)⟩
theorem Fill.set {α : Type} {n : Nat} {f : Nat → α} {k : Nat} {s : List α} (h : Fill n f k s) (hk : k < n) : Fill n f (k + 1) (s.set k (f k)) := by
  refine ⟨by simp [h.1], fun j hj => ?_⟩
  by_cases e : j = k
  · subst e; simp [h.1, hk]
  · rw [List.getElem?_set_ne (fun h => e h.symm)]; exact h.2 j (by omega)
theorem Fill.all {α : Type} {n : Nat} {f : Nat → α} {s : List α} (h : Fill n f n s) : s = (List.range n).map f := by
  apply List.ext_getElem?
  intro j
  by_cases hj : j < n
  · rw [h.2 j hj]; simp [hj]
  · rw [List.getElem?_eq_none (by rw [h.1]; omega), List.getElem?_eq_none (by simp; omega)]
theorem idxO_D {α : Type} {xs : List α} {k : Nat} (d : α) (h : k < xs.length) : idxO xs (k : Int) = some (xs.getD k d) := by
  rw [idxO_nat h]; simp [h]
end Go.Proofs.YtmedbnjhgkcndaaDoor
namespace Go.Proofs.YtmedbnjhgkcndaaDoor
open Go.RowKit
set_option linter.unusedVariables false

noncomputable def F_raddleref37_in (p0 : Int) : Option Bool :=
  Option.bind (α := Bool) (
    if decide ((-500) ≤ p0) then
      some (decide (p0 ≤ 500))
    else
      some false) fun o2 =>
  some o2
end Go.Proofs.YtmedbnjhgkcndaaDoor
namespace Go.Proofs.YtmedbnjhgkcndaaDoor
open Go.RowKit
set_option linter.unusedVariables false

noncomputable def raddleref37_Check_l1 (p0 : api_Piece) : Int → Option (Int ⊕ (Int ⊕ Unit)) := fun s0 => match s0 with
  | s22 =>
    if decide (s22 < (p0.Left.length : Int)) then
      Option.bind (α := Bool) (
        Option.bind (idxO p0.Left s22) fun x33 =>
        Option.bind (F_raddleref37_in x33) fun r38 =>
        if !r38 then
          some true
        else
          Option.bind (idxO p0.Right s22) fun x44 =>
          Option.bind (F_raddleref37_in x44) fun r49 =>
          if !r49 then
            some true
          else
            if decide (x44 ≤ x33) then
              some true
            else
              some (decide (200 < (w64 (x44 - x33))))) fun o30 =>
      if o30 then
        some (.inr (.inl 8))
      else
        some (.inl (w64 (s22 + 1)))
    else
      some (.inr (.inr ()))
noncomputable def F_raddleref37_Check (p0 : api_Piece) : Option Int :=
  Option.bind (α := Bool) (
    if (p0.Left.length : Int) != (p0.Right.length : Int) then
      some true
    else
      if decide ((p0.Left.length : Int) < 1) then
        some true
      else
        some (decide (100 < (p0.Left.length : Int)))) fun o12 =>
  if o12 then
    some 8
  else
    Option.bind (α := Unit ⊕ Int) (
      Option.bind (whileO (raddleref37_Check_l1 p0) 0) fun z0 => match z0 with
        | .inl z =>
          some (.inr z)
        | .inr _ =>
          some (.inl ())) fun z0 => match z0 with
      | .inl _ =>
        some 0
      | .inr z =>
        some z
end Go.Proofs.YtmedbnjhgkcndaaDoor
namespace Go.Proofs.YtmedbnjhgkcndaaDoor
open Go.RowKit
set_option linter.unusedVariables false

def anc_raddleref37_Great_0 : List (List Nat) := [[], [0], [], [0, 1, 2], [0, 1, 2, 3], [], [5], [], [5, 6, 7], [5, 6, 7, 8], [0, 1, 2, 3, 4, 5, 6, 7, 8, 9], [0, 1, 2, 3, 4, 5, 6, 7, 8, 9, 10], [0, 1, 2, 3, 4, 5, 6, 7, 8, 9, 10, 11], [0, 1, 2, 3, 4, 5, 6, 7, 8, 9, 10, 11, 12], [0, 1, 2, 3, 4, 5, 6, 7, 8, 9, 10, 11, 12, 13], [0, 1, 2, 3, 4, 5, 6, 7, 8, 9, 10, 11, 12], [0, 1, 2, 3, 4, 5, 6, 7, 8, 9, 10, 11, 12, 13, 14, 15], [0, 1, 2, 3, 4, 5, 6, 7, 8, 9, 10, 11, 12, 13, 14, 15, 16], [0, 1, 2, 3, 4, 5, 6, 7, 8, 9, 10, 11, 12], [0, 1, 2, 3, 4, 5, 6, 7, 8, 9, 10, 11, 12, 18], [0, 1, 2, 3, 4, 5, 6, 7, 8, 9, 10, 11, 12], [0, 1, 2, 3, 4, 5, 6, 7, 8, 9, 10, 11, 12, 18, 19, 20], [0, 1, 2, 3, 4, 5, 6, 7, 8, 9, 10, 11, 12, 18, 19, 20, 21], [0, 1, 2, 3, 4, 5, 6, 7, 8, 9, 10, 11, 12, 13, 14, 15, 16, 17, 18, 19, 20, 21, 22], [0, 1, 2, 3, 4, 5, 6, 7, 8, 9, 10, 11, 12, 13, 14, 15, 16, 17, 18, 19, 20, 21, 22, 23], [0, 1, 2, 3, 4, 5, 6, 7, 8, 9, 10, 11, 12, 13, 14, 15, 16, 17, 18, 19, 20, 21, 22, 23, 24]]
noncomputable def raddleref37_Great_l1 (p0 : api_Piece) : Int → Option (Int ⊕ (Bool ⊕ Unit)) := fun s0 => match s0 with
  | s14 =>
    Option.bind (α := Bool) (
      if decide (s14 < (p0.Left.length : Int)) then
        some (decide (s14 < (p0.Right.length : Int)))
      else
        some false) fun o19 =>
    if o19 then
      Option.bind (α := Bool) (
        Option.bind (idxO p0.Right s14) fun x28 =>
        Option.bind (idxO p0.Left s14) fun x33 =>
        if decide (40 < (w64 (x28 - x33))) then
          some (decide ((w64 (x28 - x33)) ≤ 200))
        else
          some false) fun o25 =>
      if o25 then
        some (.inr (.inl true))
      else
        some (.inl (w64 (s14 + 1)))
    else
      some (.inr (.inr ()))
noncomputable def F_raddleref37_Great (p0 : api_Piece) : Option Bool :=
  Option.bind (α := Unit ⊕ Bool) (
    Option.bind (whileO (raddleref37_Great_l1 p0) 0) fun z0 => match z0 with
      | .inl z =>
        some (.inr z)
      | .inr _ =>
        some (.inl ())) fun z0 => match z0 with
    | .inl _ =>
      Option.bind (α := Bool) (
        if decide (20 < (p0.Left.length : Int)) then
          if decide ((p0.Left.length : Int) ≤ 100) then
            some true
          else
            if decide (110 < (p0.Left.length : Int)) then
              some true
            else
              some (decide (110 < (p0.Right.length : Int)))
        else
          if decide (110 < (p0.Left.length : Int)) then
            some true
          else
            some (decide (110 < (p0.Right.length : Int)))) fun o65 =>
      some o65
    | .inr z =>
      some z
set_option maxHeartbeats 4000000 in
set_option maxRecDepth 100000 in
theorem c_raddleref37_Great (E : Nat → Prop) (w0 : World) (p0 : api_Piece) (v0 : Value) (r : Bool) (h : F_raddleref37_Great p0 = some r) (S : St0 E [] w0 w0 [] [fRep r_api_Piece (v0) p0]) :
    Calls Tryd.prog 15 #[v0] w0 (Ret (X := Unit) E [] w0 (fun _ => .bool r) (fun _ => []) (fun _ => [])) := by
  unfold F_raddleref37_Great at h
  obtain ⟨u1, u2, rfl, hu3, hu4⟩ := S.know (i := 0) (e := fRep r_api_Piece (v0) p0) rfl
  have S := S.learn (fRep (rL (rI .i64)) u1 p0.Left) hu3
  obtain ⟨ad5, cp6, _, rfl, _⟩ := hu3
  have S := S.learn (fRep (rL (rI .i64)) u2 p0.Right) hu4
  obtain ⟨ad7, cp8, _, rfl, _⟩ := hu4
  refine sEnter (args := [.agg #[.slice ad5 p0.Left.length cp6, .slice ad7 p0.Right.length cp8]]) 66 Tryd.func15 rfl rfl (by simp) S (fun a S => ?_)
  refine sSeq (fun K9 hK9 => ?_)
  refine sRegion ?_
  refine sBox (v := .agg #[.slice ad5 p0.Left.length cp6, .slice ad7 p0.Right.length cp8]) S (wN rfl) rfl rfl [.slice ad5 p0.Left.length cp6, .slice ad7 p0.Right.length cp8] rfl rfl (lb rfl) fun a b10 w S => ?_
  refine sMove (.bool false) S (wN rfl) (.inr rfl) rfl rfl (lb rfl) fun a S => ?_
  refine leafL (leafT (hK9 _ _ ?_))
  obtain ⟨t11, h, g12⟩ := bindSome h
  refine sCut (fun a w => .inl () = t11 ∧ St [] E [] w0 66 a w [(1, .pointer (some ⟨b10, 0, none⟩))] [eBox b10 30 [.slice ad5 p0.Left.length cp6, .slice ad7 p0.Right.length cp8]] [fRep (rL (rI .i64)) (.slice ad5 p0.Left.length cp6) p0.Left, fRep (rL (rI .i64)) (.slice ad7 p0.Right.length cp8) p0.Right]) ?_ (fun a w hI => ?_)
  rotate_left
  · obtain ⟨rfl, S⟩ := hI
    have h := g12
    clear g12
    try dsimp only at h
    obtain ⟨t66, h, g67⟩ := bindSome h
    refine sCut (fun a w => ∃ o65, o65 = t66 ∧ St [] E [] w0 66 a w [(2, .bool o65)] [] []) ?_ (fun a w hI => ?_)
    rotate_left
    · obtain ⟨o65, rfl, S⟩ := hI
      have h := g67
      clear g67
      try dsimp only at h
      obtain rfl := Option.some.inj h
      exact wp_ret (sRet (.bool o65) S (rsl1 rfl (rvT (t := 2) (v := .bool o65) S rfl)) ⟨(), rfl, S.mem.sel [] [] (by decide) rfl rfl⟩)
    refine sRegion ?_
    refine sField (b := b10) (off := 0) 0 0 S (wN rfl) rfl rfl rfl rfl rfl (lb rfl) fun a S => ?_
    refine sLoad1 (p := b10) (off := 0) (T := 30) (vs := [.slice ad5 p0.Left.length cp6, .slice ad7 p0.Right.length cp8]) 0 (.slice ad5 p0.Left.length cp6) S (wN rfl) rfl rfl rfl rfl rfl rfl (lb rfl) fun a S => ?_
    refine sLen (ad := ad5) (m := p0.Left.length) (c := cp6) S (wN rfl) rfl Tryd.underlying28 rfl rfl (lb rfl) fun a S => ?_
    refine sBin (.bool (decide (20 < (p0.Left.length : Int)))) S (wN rfl) rfl rfl rfl (bGt _ _ _ _ .i64 (p0.Left.length : Int) 20) rfl (lb rfl) fun a S => ?_
    refine sMove (.bool (decide (20 < (p0.Left.length : Int)))) S (wN rfl) (.inl rfl) rfl rfl (lb rfl) fun a S => ?_
    rcases iteSome h with ⟨hc68, h⟩ | ⟨hc68, h⟩
    rotate_left
    · refine sSkip 4 true 48 49 S rfl rfl rfl hc68 rfl (lb rfl) fun a S => ?_
      refine sSkip 4 true 48 50 S rfl rfl rfl hc68 rfl (lb rfl) fun a S => ?_
      refine sSkip 4 true 48 51 S rfl rfl rfl hc68 rfl (lb rfl) fun a S => ?_
      refine sSkip 4 true 48 52 S rfl rfl rfl hc68 rfl (lb rfl) fun a S => ?_
      refine sPickF (.bool false) S (wN rfl) rfl rfl hc68 rfl rfl (lb rfl) fun a S => ?_
      refine sMove (.bool false) S (wN rfl) (.inl rfl) rfl rfl (lb rfl) fun a S => ?_
      refine sField (b := b10) (off := 0) 0 0 S (wG 10 false 54 rfl rfl rfl rfl) rfl rfl rfl rfl rfl (lb rfl) fun a S => ?_
      refine sLoad1 (p := b10) (off := 0) (T := 30) (vs := [.slice ad5 p0.Left.length cp6, .slice ad7 p0.Right.length cp8]) 0 (.slice ad5 p0.Left.length cp6) S (wG 10 false 54 rfl rfl rfl rfl) rfl rfl rfl rfl rfl rfl (lb rfl) fun a S => ?_
      refine sLen (ad := ad5) (m := p0.Left.length) (c := cp6) S (wG 10 false 54 rfl rfl rfl rfl) rfl Tryd.underlying28 rfl rfl (lb rfl) fun a S => ?_
      refine sBin (.bool (decide (110 < (p0.Left.length : Int)))) S (wG 10 false 54 rfl rfl rfl rfl) rfl rfl rfl (bGt _ _ _ _ .i64 (p0.Left.length : Int) 110) rfl (lb rfl) fun a S => ?_
      refine sPickF (.bool (decide (110 < (p0.Left.length : Int)))) S (wN rfl) rfl rfl rfl rfl rfl (lb rfl) fun a S => ?_
      refine sMove (.bool (decide (110 < (p0.Left.length : Int)))) S (wN rfl) (.inl rfl) rfl rfl (lb rfl) fun a S => ?_
      rcases iteSome h with ⟨hc71, h⟩ | ⟨hc71, h⟩
      · refine sSkip 16 false 60 61 S rfl rfl rfl hc71 rfl (lb rfl) fun a S => ?_
        refine sSkip 16 false 60 62 S rfl rfl rfl hc71 rfl (lb rfl) fun a S => ?_
        refine sSkip 16 false 60 63 S rfl rfl rfl hc71 rfl (lb rfl) fun a S => ?_
        refine sSkip 16 false 60 64 S rfl rfl rfl hc71 rfl (lb rfl) fun a S => ?_
        refine sPickT (.bool true) S (wN rfl) rfl rfl hc71 rfl rfl (lb rfl) fun a S => ?_
        refine sMove (.bool true) S (wN rfl) (.inr rfl) rfl rfl (lb rfl) fun a S => ?_
        exact leafL (leafT (⟨true, Option.some.inj h, S.fix [] [] (by decide) rfl rfl rfl⟩))
      refine sField (b := b10) (off := 0) 1 1 S (wG 16 false 60 rfl rfl rfl hc71) rfl rfl rfl rfl rfl (lb rfl) fun a S => ?_
      refine sLoad1 (p := b10) (off := 1) (T := 30) (vs := [.slice ad5 p0.Left.length cp6, .slice ad7 p0.Right.length cp8]) 0 (.slice ad7 p0.Right.length cp8) S (wG 16 false 60 rfl rfl rfl hc71) rfl rfl rfl rfl rfl rfl (lb rfl) fun a S => ?_
      refine sLen (ad := ad7) (m := p0.Right.length) (c := cp8) S (wG 16 false 60 rfl rfl rfl hc71) rfl Tryd.underlying28 rfl rfl (lb rfl) fun a S => ?_
      refine sBin (.bool (decide (110 < (p0.Right.length : Int)))) S (wG 16 false 60 rfl rfl rfl hc71) rfl rfl rfl (bGt _ _ _ _ .i64 (p0.Right.length : Int) 110) rfl (lb rfl) fun a S => ?_
      refine sPickF (.bool (decide (110 < (p0.Right.length : Int)))) S (wN rfl) rfl rfl hc71 rfl rfl (lb rfl) fun a S => ?_
      refine sMove (.bool (decide (110 < (p0.Right.length : Int)))) S (wN rfl) (.inr rfl) rfl rfl (lb rfl) fun a S => ?_
      exact leafL (leafT (⟨decide (110 < (p0.Right.length : Int)), Option.some.inj h, S.fix [] [] (by decide) rfl rfl rfl⟩))
    refine sField (b := b10) (off := 0) 0 0 S (wG 4 true 48 rfl rfl rfl hc68) rfl rfl rfl rfl rfl (lb rfl) fun a S => ?_
    refine sLoad1 (p := b10) (off := 0) (T := 30) (vs := [.slice ad5 p0.Left.length cp6, .slice ad7 p0.Right.length cp8]) 0 (.slice ad5 p0.Left.length cp6) S (wG 4 true 48 rfl rfl rfl hc68) rfl rfl rfl rfl rfl rfl (lb rfl) fun a S => ?_
    refine sLen (ad := ad5) (m := p0.Left.length) (c := cp6) S (wG 4 true 48 rfl rfl rfl hc68) rfl Tryd.underlying28 rfl rfl (lb rfl) fun a S => ?_
    refine sBin (.bool (decide ((p0.Left.length : Int) ≤ 100))) S (wG 4 true 48 rfl rfl rfl hc68) rfl rfl rfl (bLe _ _ _ _ .i64 (p0.Left.length : Int) 100) rfl (lb rfl) fun a S => ?_
    refine sPickT (.bool (decide ((p0.Left.length : Int) ≤ 100))) S (wN rfl) rfl rfl hc68 rfl rfl (lb rfl) fun a S => ?_
    refine sMove (.bool (decide ((p0.Left.length : Int) ≤ 100))) S (wN rfl) (.inl rfl) rfl rfl (lb rfl) fun a S => ?_
    rcases iteSome h with ⟨hc69, h⟩ | ⟨hc69, h⟩
    · refine sSkip 10 false 54 55 S rfl rfl rfl hc69 rfl (lb rfl) fun a S => ?_
      refine sSkip 10 false 54 56 S rfl rfl rfl hc69 rfl (lb rfl) fun a S => ?_
      refine sSkip 10 false 54 57 S rfl rfl rfl hc69 rfl (lb rfl) fun a S => ?_
      refine sSkip 10 false 54 58 S rfl rfl rfl hc69 rfl (lb rfl) fun a S => ?_
      refine sPickT (.bool true) S (wN rfl) rfl rfl hc69 rfl rfl (lb rfl) fun a S => ?_
      refine sMove (.bool true) S (wN rfl) (.inl rfl) rfl rfl (lb rfl) fun a S => ?_
      refine sSkip 16 false 60 61 S rfl rfl rfl rfl rfl (lb rfl) fun a S => ?_
      refine sSkip 16 false 60 62 S rfl rfl rfl rfl rfl (lb rfl) fun a S => ?_
      refine sSkip 16 false 60 63 S rfl rfl rfl rfl rfl (lb rfl) fun a S => ?_
      refine sSkip 16 false 60 64 S rfl rfl rfl rfl rfl (lb rfl) fun a S => ?_
      refine sPickT (.bool true) S (wN rfl) rfl rfl rfl rfl rfl (lb rfl) fun a S => ?_
      refine sMove (.bool true) S (wN rfl) (.inr rfl) rfl rfl (lb rfl) fun a S => ?_
      exact leafL (leafT (⟨true, Option.some.inj h, S.fix [] [] (by decide) rfl rfl rfl⟩))
    refine sField (b := b10) (off := 0) 0 0 S (wG 10 false 54 rfl rfl rfl hc69) rfl rfl rfl rfl rfl (lb rfl) fun a S => ?_
    refine sLoad1 (p := b10) (off := 0) (T := 30) (vs := [.slice ad5 p0.Left.length cp6, .slice ad7 p0.Right.length cp8]) 0 (.slice ad5 p0.Left.length cp6) S (wG 10 false 54 rfl rfl rfl hc69) rfl rfl rfl rfl rfl rfl (lb rfl) fun a S => ?_
    refine sLen (ad := ad5) (m := p0.Left.length) (c := cp6) S (wG 10 false 54 rfl rfl rfl hc69) rfl Tryd.underlying28 rfl rfl (lb rfl) fun a S => ?_
    refine sBin (.bool (decide (110 < (p0.Left.length : Int)))) S (wG 10 false 54 rfl rfl rfl hc69) rfl rfl rfl (bGt _ _ _ _ .i64 (p0.Left.length : Int) 110) rfl (lb rfl) fun a S => ?_
    refine sPickF (.bool (decide (110 < (p0.Left.length : Int)))) S (wN rfl) rfl rfl hc69 rfl rfl (lb rfl) fun a S => ?_
    refine sMove (.bool (decide (110 < (p0.Left.length : Int)))) S (wN rfl) (.inl rfl) rfl rfl (lb rfl) fun a S => ?_
    rcases iteSome h with ⟨hc70, h⟩ | ⟨hc70, h⟩
    · refine sSkip 16 false 60 61 S rfl rfl rfl hc70 rfl (lb rfl) fun a S => ?_
      refine sSkip 16 false 60 62 S rfl rfl rfl hc70 rfl (lb rfl) fun a S => ?_
      refine sSkip 16 false 60 63 S rfl rfl rfl hc70 rfl (lb rfl) fun a S => ?_
      refine sSkip 16 false 60 64 S rfl rfl rfl hc70 rfl (lb rfl) fun a S => ?_
      refine sPickT (.bool true) S (wN rfl) rfl rfl hc70 rfl rfl (lb rfl) fun a S => ?_
      refine sMove (.bool true) S (wN rfl) (.inr rfl) rfl rfl (lb rfl) fun a S => ?_
      exact leafL (leafT (⟨true, Option.some.inj h, S.fix [] [] (by decide) rfl rfl rfl⟩))
    refine sField (b := b10) (off := 0) 1 1 S (wG 16 false 60 rfl rfl rfl hc70) rfl rfl rfl rfl rfl (lb rfl) fun a S => ?_
    refine sLoad1 (p := b10) (off := 1) (T := 30) (vs := [.slice ad5 p0.Left.length cp6, .slice ad7 p0.Right.length cp8]) 0 (.slice ad7 p0.Right.length cp8) S (wG 16 false 60 rfl rfl rfl hc70) rfl rfl rfl rfl rfl rfl (lb rfl) fun a S => ?_
    refine sLen (ad := ad7) (m := p0.Right.length) (c := cp8) S (wG 16 false 60 rfl rfl rfl hc70) rfl Tryd.underlying28 rfl rfl (lb rfl) fun a S => ?_
    refine sBin (.bool (decide (110 < (p0.Right.length : Int)))) S (wG 16 false 60 rfl rfl rfl hc70) rfl rfl rfl (bGt _ _ _ _ .i64 (p0.Right.length : Int) 110) rfl (lb rfl) fun a S => ?_
    refine sPickF (.bool (decide (110 < (p0.Right.length : Int)))) S (wN rfl) rfl rfl hc70 rfl rfl (lb rfl) fun a S => ?_
    refine sMove (.bool (decide (110 < (p0.Right.length : Int)))) S (wN rfl) (.inr rfl) rfl rfl (lb rfl) fun a S => ?_
    exact leafL (leafT (⟨decide (110 < (p0.Right.length : Int)), Option.some.inj h, S.fix [] [] (by decide) rfl rfl rfl⟩))
  refine sSeq (fun K13 hK13 => ?_)
  refine sRegion ?_
  refine sMove (iv 0) S (wN rfl) (.inr rfl) rfl rfl (lb rfl) fun a S => ?_
  refine leafL (leafT (hK13 _ _ ?_))
  refine wp_block ?_
  obtain ⟨t17, hl, g16⟩ := bindSome h
  refine sLoop hl (fun s0 a w => match s0 with | s14 => St [] E [] w0 66 a w [(1, .pointer (some ⟨b10, 0, none⟩)), (3, iv s14)] [eBox b10 30 [.slice ad5 p0.Left.length cp6, .slice ad7 p0.Right.length cp8]] [fRep (rL (rI .i64)) (.slice ad5 p0.Left.length cp6) p0.Left, fRep (rL (rI .i64)) (.slice ad7 p0.Right.length cp8) p0.Right]) (S.fix [0] [1, 0] (by decide) rfl rfl rfl) ?_
  clear hl h
  intro s14 a w c0 hI h hu15
  unfold raddleref37_Great_l1 at h
  dsimp only at h hI
  have S := hI
  refine sSeq (fun K18 hK18 => ?_)
  obtain ⟨t20, h, g21⟩ := bindSome h
  refine sCut (fun a w => ∃ o19, o19 = t20 ∧ St [] E [] w0 66 a w [(1, .pointer (some ⟨b10, 0, none⟩)), (3, iv s14), (15, .bool o19)] [eBox b10 30 [.slice ad5 p0.Left.length cp6, .slice ad7 p0.Right.length cp8]] [fRep (rL (rI .i64)) (.slice ad5 p0.Left.length cp6) p0.Left, fRep (rL (rI .i64)) (.slice ad7 p0.Right.length cp8) p0.Right]) ?_ (fun a w hI => ?_)
  · refine sRegion ?_
    refine sMove (iv s14) S (wN rfl) (.inl rfl) rfl rfl (lb rfl) fun a S => ?_
    refine sField (b := b10) (off := 0) 0 0 S (wN rfl) rfl rfl rfl rfl rfl (lb rfl) fun a S => ?_
    refine sLoad1 (p := b10) (off := 0) (T := 30) (vs := [.slice ad5 p0.Left.length cp6, .slice ad7 p0.Right.length cp8]) 0 (.slice ad5 p0.Left.length cp6) S (wN rfl) rfl rfl rfl rfl rfl rfl (lb rfl) fun a S => ?_
    refine sLen (ad := ad5) (m := p0.Left.length) (c := cp6) S (wN rfl) rfl Tryd.underlying28 rfl rfl (lb rfl) fun a S => ?_
    refine sBin (.bool (decide (s14 < (p0.Left.length : Int)))) S (wN rfl) rfl rfl rfl (bLt _ _ _ _ .i64 s14 (p0.Left.length : Int)) rfl (lb rfl) fun a S => ?_
    refine sMove (.bool (decide (s14 < (p0.Left.length : Int)))) S (wN rfl) (.inl rfl) rfl rfl (lb rfl) fun a S => ?_
    rcases iteSome h with ⟨hc22, h⟩ | ⟨hc22, h⟩
    rotate_left
    · refine sSkip 5 true 9 10 S rfl rfl rfl hc22 rfl (lb rfl) fun a S => ?_
      refine sSkip 5 true 9 11 S rfl rfl rfl hc22 rfl (lb rfl) fun a S => ?_
      refine sSkip 5 true 9 12 S rfl rfl rfl hc22 rfl (lb rfl) fun a S => ?_
      refine sSkip 5 true 9 13 S rfl rfl rfl hc22 rfl (lb rfl) fun a S => ?_
      refine sSkip 5 true 9 14 S rfl rfl rfl hc22 rfl (lb rfl) fun a S => ?_
      refine sPickF (.bool false) S (wN rfl) rfl rfl hc22 rfl rfl (lb rfl) fun a S => ?_
      exact leafL (leafT (⟨false, Option.some.inj h, S.fix [0] [0, 1] (by decide) rfl rfl rfl⟩))
    refine sMove (iv s14) S (wG 5 true 9 rfl rfl rfl hc22) (.inl rfl) rfl rfl (lb rfl) fun a S => ?_
    refine sField (b := b10) (off := 0) 1 1 S (wG 5 true 9 rfl rfl rfl hc22) rfl rfl rfl rfl rfl (lb rfl) fun a S => ?_
    refine sLoad1 (p := b10) (off := 1) (T := 30) (vs := [.slice ad5 p0.Left.length cp6, .slice ad7 p0.Right.length cp8]) 0 (.slice ad7 p0.Right.length cp8) S (wG 5 true 9 rfl rfl rfl hc22) rfl rfl rfl rfl rfl rfl (lb rfl) fun a S => ?_
    refine sLen (ad := ad7) (m := p0.Right.length) (c := cp8) S (wG 5 true 9 rfl rfl rfl hc22) rfl Tryd.underlying28 rfl rfl (lb rfl) fun a S => ?_
    refine sBin (.bool (decide (s14 < (p0.Right.length : Int)))) S (wG 5 true 9 rfl rfl rfl hc22) rfl rfl rfl (bLt _ _ _ _ .i64 s14 (p0.Right.length : Int)) rfl (lb rfl) fun a S => ?_
    refine sPickT (.bool (decide (s14 < (p0.Right.length : Int)))) S (wN rfl) rfl rfl hc22 rfl rfl (lb rfl) fun a S => ?_
    exact leafL (leafT (⟨decide (s14 < (p0.Right.length : Int)), Option.some.inj h, S.fix [0] [0, 1] (by decide) rfl rfl rfl⟩))
  obtain ⟨o19, rfl, S⟩ := hI
  have h := g21
  clear g21
  try dsimp only at h
  rcases iteSome h with ⟨hc23, h⟩ | ⟨hc23, h⟩
  rotate_left
  · refine sCondF S rfl hc23 ?_
    obtain rfl := Option.some.inj h
    obtain rfl := hu15 _ rfl
    have h := g16
    clear g16
    try dsimp only at h
    exact wp_exit (xThen (xThen (xHit (leafT (⟨Option.some.inj h, S.fix [0] [0, 1] (by decide) rfl rfl rfl⟩)))))
  refine sCondT S rfl hc23 ?_
  refine wp_skip (leafT (hK18 _ _ ?_))
  refine sSeq (fun K24 hK24 => ?_)
  refine wp_block ?_
  obtain ⟨t26, h, g27⟩ := bindSome h
  refine sCut (fun a w => ∃ o25, o25 = t26 ∧ St [] E [] w0 66 a w [(1, .pointer (some ⟨b10, 0, none⟩)), (3, iv s14), (43, .bool o25)] [eBox b10 30 [.slice ad5 p0.Left.length cp6, .slice ad7 p0.Right.length cp8]] [fRep (rL (rI .i64)) (.slice ad5 p0.Left.length cp6) p0.Left, fRep (rL (rI .i64)) (.slice ad7 p0.Right.length cp8) p0.Right]) ?_ (fun a w hI => ?_)
  rotate_left
  · obtain ⟨o25, rfl, S⟩ := hI
    have h := g27
    clear g27
    try dsimp only at h
    rcases iteSome h with ⟨hc63, h⟩ | ⟨hc63, h⟩
    rotate_left
    · refine sCondF S rfl hc63 ?_
      refine wp_skip (leafB (leafT (hK24 _ _ ?_)))
      refine sRegion ?_
      refine sMove (iv s14) S (wN rfl) (.inl rfl) rfl rfl (lb rfl) fun a S => ?_
      refine sBin (iv (w64 (s14 + 1))) S (wN rfl) rfl rfl rfl (bAdd _ _ _ _ s14 1) rfl (lb rfl) fun a S => ?_
      refine sMove (iv (w64 (s14 + 1))) S (wN rfl) (.inr rfl) rfl rfl (lb rfl) fun a S => ?_
      exact leafL (leafT (⟨w64 (s14 + 1), (Option.some.inj h).symm, (S.fix [0] [0, 1] (by decide) rfl rfl rfl)⟩))
    refine sCondT S rfl hc63 ?_
    refine sSeq (fun K64 hK64 => ?_)
    refine sRegion ?_
    refine sMove (.bool true) S (wN rfl) (.inr rfl) rfl rfl (lb rfl) fun a S => ?_
    refine leafL (leafT (hK64 _ _ ?_))
    obtain rfl := Option.some.inj h
    obtain rfl := hu15 _ rfl
    have h := g16
    clear g16
    try dsimp only at h
    obtain rfl := Option.some.inj h
    have h := g12
    clear g12
    try dsimp only at h
    obtain rfl := Option.some.inj h
    exact wp_ret (rBlock (rThen (rThen (rBlock (rThen (sRet (.bool true) S (rsl1 rfl (rvT (t := 2) (v := .bool true) S rfl)) ⟨(), rfl, S.mem.sel [] [] (by decide) rfl rfl⟩))))))
  obtain ⟨x28, hx29, h⟩ := bindSome h
  obtain ⟨x33, hx34, h⟩ := bindSome h
  rcases iteSome h with ⟨hc38, h⟩ | ⟨hc38, h⟩
  rotate_left
  · obtain ⟨q57, hq58, S⟩ := pIdx (P := Tryd.prog) (r := (rI .i64)) (v := .slice ad7 p0.Right.length cp8) (xs := p0.Right) (j := s14) 28 3 1 S Tryd.underlying28 rfl rfl hx29
    obtain ⟨u59, S⟩ := pLoad (r := (rI .i64)) (q := q57) (x := x28) 0 S rfl
    obtain rfl : u59 = iv x28 := S.mem.know (i := 1) (e := fRep (rI .i64) (u59) x28) rfl
    obtain ⟨q60, hq61, S⟩ := pIdx (P := Tryd.prog) (r := (rI .i64)) (v := .slice ad5 p0.Left.length cp6) (xs := p0.Left) (j := s14) 28 3 3 S Tryd.underlying28 rfl rfl hx34
    obtain ⟨u62, S⟩ := pLoad (r := (rI .i64)) (q := q60) (x := x33) 0 S rfl
    obtain rfl : u62 = iv x33 := S.mem.know (i := 1) (e := fRep (rI .i64) (u62) x33) rfl
    refine sDraw (nf := []) (W := [(0, 18, .pointer (some ⟨b10, 1, none⟩)), (1, 19, .slice ad7 p0.Right.length cp8), (2, 20, iv s14), (3, 21, q57), (4, 22, iv x28), (5, 23, .pointer (some ⟨b10, 0, none⟩)), (6, 24, .slice ad5 p0.Left.length cp6), (7, 25, iv s14), (8, 26, q60), (9, 27, iv x33), (10, 28, iv (w64 (x28 - x33))), (11, 29, .bool (decide (40 < (w64 (x28 - x33))))), (12, 30, .bool (decide (40 < (w64 (x28 - x33))))), (13, 31, undef), (14, 32, undef), (15, 33, undef), (16, 34, undef), (17, 35, undef), (18, 36, undef), (19, 37, undef), (20, 38, undef), (21, 39, undef), (22, 40, undef), (23, 41, undef), (24, 42, undef), (25, 43, .bool false)]) rfl S ?_
    refine node_by (A := anc_raddleref37_Great_0) (nf := []) (Y := []) (W := [(0, 18, .pointer (some ⟨b10, 1, none⟩)), (1, 19, .slice ad7 p0.Right.length cp8), (2, 20, iv s14), (3, 21, q57), (4, 22, iv x28), (5, 23, .pointer (some ⟨b10, 0, none⟩)), (6, 24, .slice ad5 p0.Left.length cp6), (7, 25, iv s14), (8, 26, q60), (9, 27, iv x33), (10, 28, iv (w64 (x28 - x33))), (11, 29, .bool (decide (40 < (w64 (x28 - x33))))), (12, 30, .bool (decide (40 < (w64 (x28 - x33))))), (13, 31, undef), (14, 32, undef), (15, 33, undef), (16, 34, undef), (17, 35, undef), (18, 36, undef), (19, 37, undef), (20, 38, undef), (21, 39, undef), (22, 40, undef), (23, 41, undef), (24, 42, undef), (25, 43, .bool false)]) 26 (by kernel_rfl) (by kernel_rfl) (by kernel_rfl) (by kernel_rfl) (by kernel_rfl) [0, 1, 2, 3, 4, 5, 6, 7, 8, 9, 10, 11, 12, 13, 14, 15, 16, 17, 18, 19, 20, 21, 22, 23, 24, 25] (by kernel_rfl) (by decide) (by decide) (aF 0 25 (by decide) ?_ (aF 1 24 (by decide) ?_ (aF 2 23 (by decide) ?_ (aF 3 22 (by decide) ?_ (aF 4 21 (by decide) ?_ (aF 5 20 (by decide) ?_ (aF 6 19 (by decide) ?_ (aF 7 18 (by decide) ?_ (aF 8 17 (by decide) ?_ (aF 9 16 (by decide) ?_ (aF 10 15 (by decide) ?_ (aF 11 14 (by decide) ?_ (aF 12 13 (by decide) ?_ (aF 13 12 (by decide) ?_ (aF 14 11 (by decide) ?_ (aF 15 10 (by decide) ?_ (aF 16 9 (by decide) ?_ (aF 17 8 (by decide) ?_ (aF 18 7 (by decide) ?_ (aF 19 6 (by decide) ?_ (aF 20 5 (by decide) ?_ (aF 21 4 (by decide) ?_ (aF 22 3 (by decide) ?_ (aF 23 2 (by decide) ?_ (aF 24 1 (by decide) ?_ (aF 25 0 (by decide) ?_ (trivial))))))))))))))))))))))))))) [(1, .pointer (some ⟨b10, 0, none⟩)), (3, iv s14), (31, undef), (32, undef), (33, undef), (34, undef), (35, undef), (36, undef), (37, undef), (38, undef), (39, undef), (40, undef), (41, undef), (42, undef), (43, .bool false)] (fin_of [none, none, some 13, some 14, some 15, some 16, some 17, some 18, some 19, some 20, some 21, some 22, some 23, some 24, some 25] rfl (by kernel_rfl) (by kernel_rfl)) (fun _ a w S => ?_)
    · refine fI 18 (.pointer (some ⟨b10, 1, none⟩)) [(1, .pointer (some ⟨b10, 0, none⟩))] 0 [none] rfl rfl rfl rfl rfl rfl fun G a w S => ?_
      refine sField (b := b10) (off := 0) 1 1 S (wN rfl) rfl rfl rfl rfl rfl (lb rfl) fun a S => ?_
      exact leafL ⟨rfl, S⟩
    · refine fI 19 (.slice ad7 p0.Right.length cp8) [(18, .pointer (some ⟨b10, 1, none⟩))] 1 [some 0] rfl rfl rfl rfl rfl rfl fun G a w S => ?_
      refine sLoad1 (p := b10) (off := 1) (T := 30) (vs := [.slice ad5 p0.Left.length cp6, .slice ad7 p0.Right.length cp8]) 0 (.slice ad7 p0.Right.length cp8) S (wN rfl) rfl rfl rfl rfl rfl rfl (lb rfl) fun a S => ?_
      exact leafL ⟨rfl, S⟩
    · refine fI 20 (iv s14) [(3, iv s14)] 2 [none] rfl rfl rfl rfl rfl rfl fun G a w S => ?_
      refine sMove (iv s14) S (wN rfl) (.inl rfl) rfl rfl (lb rfl) fun a S => ?_
      exact leafL ⟨rfl, S⟩
    · refine fI 21 q57 [(19, .slice ad7 p0.Right.length cp8), (20, iv s14)] 3 [some 1, some 2] rfl rfl rfl rfl rfl rfl fun G a w S => ?_
      refine sIdxV (v := .slice ad7 p0.Right.length cp8) (k := .i64) (j := s14) S (wN rfl) rfl rfl rfl hq58 rfl (lb rfl) fun a S => ?_
      exact leafL ⟨rfl, S⟩
    · refine fI 22 (iv x28) [(21, q57)] 4 [some 3] rfl rfl rfl rfl rfl rfl fun G a w S => ?_
      refine sLoadV1 (vq := q57) 3 (iv x28) S (wN rfl) rfl rfl rfl rfl rfl (lb rfl) fun a S => ?_
      exact leafL ⟨rfl, S⟩
    · refine fI 23 (.pointer (some ⟨b10, 0, none⟩)) [(1, .pointer (some ⟨b10, 0, none⟩))] 5 [none] rfl rfl rfl rfl rfl rfl fun G a w S => ?_
      refine sField (b := b10) (off := 0) 0 0 S (wN rfl) rfl rfl rfl rfl rfl (lb rfl) fun a S => ?_
      exact leafL ⟨rfl, S⟩
    · refine fI 24 (.slice ad5 p0.Left.length cp6) [(23, .pointer (some ⟨b10, 0, none⟩))] 6 [some 5] rfl rfl rfl rfl rfl rfl fun G a w S => ?_
      refine sLoad1 (p := b10) (off := 0) (T := 30) (vs := [.slice ad5 p0.Left.length cp6, .slice ad7 p0.Right.length cp8]) 0 (.slice ad5 p0.Left.length cp6) S (wN rfl) rfl rfl rfl rfl rfl rfl (lb rfl) fun a S => ?_
      exact leafL ⟨rfl, S⟩
    · refine fI 25 (iv s14) [(3, iv s14)] 7 [none] rfl rfl rfl rfl rfl rfl fun G a w S => ?_
      refine sMove (iv s14) S (wN rfl) (.inl rfl) rfl rfl (lb rfl) fun a S => ?_
      exact leafL ⟨rfl, S⟩
    · refine fI 26 q60 [(24, .slice ad5 p0.Left.length cp6), (25, iv s14)] 8 [some 6, some 7] rfl rfl rfl rfl rfl rfl fun G a w S => ?_
      refine sIdxV (v := .slice ad5 p0.Left.length cp6) (k := .i64) (j := s14) S (wN rfl) rfl rfl rfl hq61 rfl (lb rfl) fun a S => ?_
      exact leafL ⟨rfl, S⟩
    · refine fI 27 (iv x33) [(26, q60)] 9 [some 8] rfl rfl rfl rfl rfl rfl fun G a w S => ?_
      refine sLoadV1 (vq := q60) 0 (iv x33) S (wN rfl) rfl rfl rfl rfl rfl (lb rfl) fun a S => ?_
      exact leafL ⟨rfl, S⟩
    · refine fI 28 (iv (w64 (x28 - x33))) [(22, iv x28), (27, iv x33)] 10 [some 4, some 9] rfl rfl rfl rfl rfl rfl fun G a w S => ?_
      refine sBin (iv (w64 (x28 - x33))) S (wN rfl) rfl rfl rfl (bSub _ _ _ _ x28 x33) rfl (lb rfl) fun a S => ?_
      exact leafL ⟨rfl, S⟩
    · refine fI 29 (.bool (decide (40 < (w64 (x28 - x33))))) [(28, iv (w64 (x28 - x33)))] 11 [some 10] rfl rfl rfl rfl rfl rfl fun G a w S => ?_
      refine sBin (.bool (decide (40 < (w64 (x28 - x33))))) S (wN rfl) rfl rfl rfl (bGt _ _ _ _ .i64 (w64 (x28 - x33)) 40) rfl (lb rfl) fun a S => ?_
      exact leafL ⟨rfl, S⟩
    · refine fI 30 (.bool (decide (40 < (w64 (x28 - x33))))) [(29, .bool (decide (40 < (w64 (x28 - x33)))))] 12 [some 11] rfl rfl rfl rfl rfl rfl fun G a w S => ?_
      refine sMove (.bool (decide (40 < (w64 (x28 - x33))))) S (wN rfl) (.inl rfl) rfl rfl (lb rfl) fun a S => ?_
      exact leafL ⟨rfl, S⟩
    · refine fI 31 undef [(1, .pointer (some ⟨b10, 0, none⟩)), (30, .bool (decide (40 < (w64 (x28 - x33)))))] 13 [none, some 12] rfl rfl rfl rfl rfl rfl fun G a w S => ?_
      refine sSkip 12 true 30 31 S rfl rfl rfl hc38 rfl (lb rfl) fun a S => ?_
      exact leafL ⟨rfl, S⟩
    · refine fI 32 undef [(31, undef), (30, .bool (decide (40 < (w64 (x28 - x33)))))] 14 [some 13, some 12] rfl rfl rfl rfl rfl rfl fun G a w S => ?_
      refine sSkip 12 true 30 32 S rfl rfl rfl hc38 rfl (lb rfl) fun a S => ?_
      exact leafL ⟨rfl, S⟩
    · refine fI 33 undef [(3, iv s14), (30, .bool (decide (40 < (w64 (x28 - x33)))))] 15 [none, some 12] rfl rfl rfl rfl rfl rfl fun G a w S => ?_
      refine sSkip 12 true 30 33 S rfl rfl rfl hc38 rfl (lb rfl) fun a S => ?_
      exact leafL ⟨rfl, S⟩
    · refine fI 34 undef [(32, undef), (33, undef), (30, .bool (decide (40 < (w64 (x28 - x33)))))] 16 [some 14, some 15, some 12] rfl rfl rfl rfl rfl rfl fun G a w S => ?_
      refine sSkip 12 true 30 34 S rfl rfl rfl hc38 rfl (lb rfl) fun a S => ?_
      exact leafL ⟨rfl, S⟩
    · refine fI 35 undef [(34, undef), (30, .bool (decide (40 < (w64 (x28 - x33)))))] 17 [some 16, some 12] rfl rfl rfl rfl rfl rfl fun G a w S => ?_
      refine sSkip 12 true 30 35 S rfl rfl rfl hc38 rfl (lb rfl) fun a S => ?_
      exact leafL ⟨rfl, S⟩
    · refine fI 36 undef [(1, .pointer (some ⟨b10, 0, none⟩)), (30, .bool (decide (40 < (w64 (x28 - x33)))))] 18 [none, some 12] rfl rfl rfl rfl rfl rfl fun G a w S => ?_
      refine sSkip 12 true 30 36 S rfl rfl rfl hc38 rfl (lb rfl) fun a S => ?_
      exact leafL ⟨rfl, S⟩
    · refine fI 37 undef [(36, undef), (30, .bool (decide (40 < (w64 (x28 - x33)))))] 19 [some 18, some 12] rfl rfl rfl rfl rfl rfl fun G a w S => ?_
      refine sSkip 12 true 30 37 S rfl rfl rfl hc38 rfl (lb rfl) fun a S => ?_
      exact leafL ⟨rfl, S⟩
    · refine fI 38 undef [(3, iv s14), (30, .bool (decide (40 < (w64 (x28 - x33)))))] 20 [none, some 12] rfl rfl rfl rfl rfl rfl fun G a w S => ?_
      refine sSkip 12 true 30 38 S rfl rfl rfl hc38 rfl (lb rfl) fun a S => ?_
      exact leafL ⟨rfl, S⟩
    · refine fI 39 undef [(37, undef), (38, undef), (30, .bool (decide (40 < (w64 (x28 - x33)))))] 21 [some 19, some 20, some 12] rfl rfl rfl rfl rfl rfl fun G a w S => ?_
      refine sSkip 12 true 30 39 S rfl rfl rfl hc38 rfl (lb rfl) fun a S => ?_
      exact leafL ⟨rfl, S⟩
    · refine fI 40 undef [(39, undef), (30, .bool (decide (40 < (w64 (x28 - x33)))))] 22 [some 21, some 12] rfl rfl rfl rfl rfl rfl fun G a w S => ?_
      refine sSkip 12 true 30 40 S rfl rfl rfl hc38 rfl (lb rfl) fun a S => ?_
      exact leafL ⟨rfl, S⟩
    · refine fI 41 undef [(35, undef), (40, undef), (30, .bool (decide (40 < (w64 (x28 - x33)))))] 23 [some 17, some 22, some 12] rfl rfl rfl rfl rfl rfl fun G a w S => ?_
      refine sSkip 12 true 30 41 S rfl rfl rfl hc38 rfl (lb rfl) fun a S => ?_
      exact leafL ⟨rfl, S⟩
    · refine fI 42 undef [(41, undef), (30, .bool (decide (40 < (w64 (x28 - x33)))))] 24 [some 23, some 12] rfl rfl rfl rfl rfl rfl fun G a w S => ?_
      refine sSkip 12 true 30 42 S rfl rfl rfl hc38 rfl (lb rfl) fun a S => ?_
      exact leafL ⟨rfl, S⟩
    · refine fI 43 (.bool false) [(30, .bool (decide (40 < (w64 (x28 - x33))))), (42, undef)] 25 [some 12, some 24] rfl rfl rfl rfl rfl rfl fun G a w S => ?_
      refine sPickF (.bool false) S (wN rfl) rfl rfl hc38 rfl rfl (lb rfl) fun a S => ?_
      exact leafL ⟨rfl, S⟩
    exact leafT (⟨false, Option.some.inj h, S.fix [0] [6, 7] (by decide) rfl rfl rfl⟩)
  obtain ⟨q45, hq46, S⟩ := pIdx (P := Tryd.prog) (r := (rI .i64)) (v := .slice ad7 p0.Right.length cp8) (xs := p0.Right) (j := s14) 28 3 1 S Tryd.underlying28 rfl rfl hx29
  obtain ⟨u47, S⟩ := pLoad (r := (rI .i64)) (q := q45) (x := x28) 0 S rfl
  obtain rfl : u47 = iv x28 := S.mem.know (i := 1) (e := fRep (rI .i64) (u47) x28) rfl
  obtain ⟨q48, hq49, S⟩ := pIdx (P := Tryd.prog) (r := (rI .i64)) (v := .slice ad5 p0.Left.length cp6) (xs := p0.Left) (j := s14) 28 3 3 S Tryd.underlying28 rfl rfl hx34
  obtain ⟨u50, S⟩ := pLoad (r := (rI .i64)) (q := q48) (x := x33) 0 S rfl
  obtain rfl : u50 = iv x33 := S.mem.know (i := 1) (e := fRep (rI .i64) (u50) x33) rfl
  obtain ⟨q51, hq52, S⟩ := pIdx (P := Tryd.prog) (r := (rI .i64)) (v := .slice ad7 p0.Right.length cp8) (xs := p0.Right) (j := s14) 28 3 7 S Tryd.underlying28 rfl rfl hx29
  obtain ⟨u53, S⟩ := pLoad (r := (rI .i64)) (q := q51) (x := x28) 0 S rfl
  obtain rfl : u53 = iv x28 := S.mem.know (i := 1) (e := fRep (rI .i64) (u53) x28) rfl
  obtain ⟨q54, hq55, S⟩ := pIdx (P := Tryd.prog) (r := (rI .i64)) (v := .slice ad5 p0.Left.length cp6) (xs := p0.Left) (j := s14) 28 3 9 S Tryd.underlying28 rfl rfl hx34
  obtain ⟨u56, S⟩ := pLoad (r := (rI .i64)) (q := q54) (x := x33) 0 S rfl
  obtain rfl : u56 = iv x33 := S.mem.know (i := 1) (e := fRep (rI .i64) (u56) x33) rfl
  refine sDraw (nf := []) (W := [(0, 18, .pointer (some ⟨b10, 1, none⟩)), (1, 19, .slice ad7 p0.Right.length cp8), (2, 20, iv s14), (3, 21, q45), (4, 22, iv x28), (5, 23, .pointer (some ⟨b10, 0, none⟩)), (6, 24, .slice ad5 p0.Left.length cp6), (7, 25, iv s14), (8, 26, q48), (9, 27, iv x33), (10, 28, iv (w64 (x28 - x33))), (11, 29, .bool (decide (40 < (w64 (x28 - x33))))), (12, 30, .bool (decide (40 < (w64 (x28 - x33))))), (13, 31, .pointer (some ⟨b10, 1, none⟩)), (14, 32, .slice ad7 p0.Right.length cp8), (15, 33, iv s14), (16, 34, q51), (17, 35, iv x28), (18, 36, .pointer (some ⟨b10, 0, none⟩)), (19, 37, .slice ad5 p0.Left.length cp6), (20, 38, iv s14), (21, 39, q54), (22, 40, iv x33), (23, 41, iv (w64 (x28 - x33))), (24, 42, .bool (decide ((w64 (x28 - x33)) ≤ 200))), (25, 43, .bool (decide ((w64 (x28 - x33)) ≤ 200)))]) rfl S ?_
  refine node_by (A := anc_raddleref37_Great_0) (nf := []) (Y := []) (W := [(0, 18, .pointer (some ⟨b10, 1, none⟩)), (1, 19, .slice ad7 p0.Right.length cp8), (2, 20, iv s14), (3, 21, q45), (4, 22, iv x28), (5, 23, .pointer (some ⟨b10, 0, none⟩)), (6, 24, .slice ad5 p0.Left.length cp6), (7, 25, iv s14), (8, 26, q48), (9, 27, iv x33), (10, 28, iv (w64 (x28 - x33))), (11, 29, .bool (decide (40 < (w64 (x28 - x33))))), (12, 30, .bool (decide (40 < (w64 (x28 - x33))))), (13, 31, .pointer (some ⟨b10, 1, none⟩)), (14, 32, .slice ad7 p0.Right.length cp8), (15, 33, iv s14), (16, 34, q51), (17, 35, iv x28), (18, 36, .pointer (some ⟨b10, 0, none⟩)), (19, 37, .slice ad5 p0.Left.length cp6), (20, 38, iv s14), (21, 39, q54), (22, 40, iv x33), (23, 41, iv (w64 (x28 - x33))), (24, 42, .bool (decide ((w64 (x28 - x33)) ≤ 200))), (25, 43, .bool (decide ((w64 (x28 - x33)) ≤ 200)))]) 26 (by kernel_rfl) (by kernel_rfl) (by kernel_rfl) (by kernel_rfl) (by kernel_rfl) [0, 1, 2, 3, 4, 5, 6, 7, 8, 9, 10, 11, 12, 13, 14, 15, 16, 17, 18, 19, 20, 21, 22, 23, 24, 25] (by kernel_rfl) (by decide) (by decide) (aF 0 25 (by decide) ?_ (aF 1 24 (by decide) ?_ (aF 2 23 (by decide) ?_ (aF 3 22 (by decide) ?_ (aF 4 21 (by decide) ?_ (aF 5 20 (by decide) ?_ (aF 6 19 (by decide) ?_ (aF 7 18 (by decide) ?_ (aF 8 17 (by decide) ?_ (aF 9 16 (by decide) ?_ (aF 10 15 (by decide) ?_ (aF 11 14 (by decide) ?_ (aF 12 13 (by decide) ?_ (aF 13 12 (by decide) ?_ (aF 14 11 (by decide) ?_ (aF 15 10 (by decide) ?_ (aF 16 9 (by decide) ?_ (aF 17 8 (by decide) ?_ (aF 18 7 (by decide) ?_ (aF 19 6 (by decide) ?_ (aF 20 5 (by decide) ?_ (aF 21 4 (by decide) ?_ (aF 22 3 (by decide) ?_ (aF 23 2 (by decide) ?_ (aF 24 1 (by decide) ?_ (aF 25 0 (by decide) ?_ (trivial))))))))))))))))))))))))))) [(1, .pointer (some ⟨b10, 0, none⟩)), (3, iv s14), (31, .pointer (some ⟨b10, 1, none⟩)), (32, .slice ad7 p0.Right.length cp8), (33, iv s14), (34, q51), (35, iv x28), (36, .pointer (some ⟨b10, 0, none⟩)), (37, .slice ad5 p0.Left.length cp6), (38, iv s14), (39, q54), (40, iv x33), (41, iv (w64 (x28 - x33))), (42, .bool (decide ((w64 (x28 - x33)) ≤ 200))), (43, .bool (decide ((w64 (x28 - x33)) ≤ 200)))] (fin_of [none, none, some 13, some 14, some 15, some 16, some 17, some 18, some 19, some 20, some 21, some 22, some 23, some 24, some 25] rfl (by kernel_rfl) (by kernel_rfl)) (fun _ a w S => ?_)
  · refine fI 18 (.pointer (some ⟨b10, 1, none⟩)) [(1, .pointer (some ⟨b10, 0, none⟩))] 0 [none] rfl rfl rfl rfl rfl rfl fun G a w S => ?_
    refine sField (b := b10) (off := 0) 1 1 S (wN rfl) rfl rfl rfl rfl rfl (lb rfl) fun a S => ?_
    exact leafL ⟨rfl, S⟩
  · refine fI 19 (.slice ad7 p0.Right.length cp8) [(18, .pointer (some ⟨b10, 1, none⟩))] 1 [some 0] rfl rfl rfl rfl rfl rfl fun G a w S => ?_
    refine sLoad1 (p := b10) (off := 1) (T := 30) (vs := [.slice ad5 p0.Left.length cp6, .slice ad7 p0.Right.length cp8]) 0 (.slice ad7 p0.Right.length cp8) S (wN rfl) rfl rfl rfl rfl rfl rfl (lb rfl) fun a S => ?_
    exact leafL ⟨rfl, S⟩
  · refine fI 20 (iv s14) [(3, iv s14)] 2 [none] rfl rfl rfl rfl rfl rfl fun G a w S => ?_
    refine sMove (iv s14) S (wN rfl) (.inl rfl) rfl rfl (lb rfl) fun a S => ?_
    exact leafL ⟨rfl, S⟩
  · refine fI 21 q45 [(19, .slice ad7 p0.Right.length cp8), (20, iv s14)] 3 [some 1, some 2] rfl rfl rfl rfl rfl rfl fun G a w S => ?_
    refine sIdxV (v := .slice ad7 p0.Right.length cp8) (k := .i64) (j := s14) S (wN rfl) rfl rfl rfl hq46 rfl (lb rfl) fun a S => ?_
    exact leafL ⟨rfl, S⟩
  · refine fI 22 (iv x28) [(21, q45)] 4 [some 3] rfl rfl rfl rfl rfl rfl fun G a w S => ?_
    refine sLoadV1 (vq := q45) 9 (iv x28) S (wN rfl) rfl rfl rfl rfl rfl (lb rfl) fun a S => ?_
    exact leafL ⟨rfl, S⟩
  · refine fI 23 (.pointer (some ⟨b10, 0, none⟩)) [(1, .pointer (some ⟨b10, 0, none⟩))] 5 [none] rfl rfl rfl rfl rfl rfl fun G a w S => ?_
    refine sField (b := b10) (off := 0) 0 0 S (wN rfl) rfl rfl rfl rfl rfl (lb rfl) fun a S => ?_
    exact leafL ⟨rfl, S⟩
  · refine fI 24 (.slice ad5 p0.Left.length cp6) [(23, .pointer (some ⟨b10, 0, none⟩))] 6 [some 5] rfl rfl rfl rfl rfl rfl fun G a w S => ?_
    refine sLoad1 (p := b10) (off := 0) (T := 30) (vs := [.slice ad5 p0.Left.length cp6, .slice ad7 p0.Right.length cp8]) 0 (.slice ad5 p0.Left.length cp6) S (wN rfl) rfl rfl rfl rfl rfl rfl (lb rfl) fun a S => ?_
    exact leafL ⟨rfl, S⟩
  · refine fI 25 (iv s14) [(3, iv s14)] 7 [none] rfl rfl rfl rfl rfl rfl fun G a w S => ?_
    refine sMove (iv s14) S (wN rfl) (.inl rfl) rfl rfl (lb rfl) fun a S => ?_
    exact leafL ⟨rfl, S⟩
  · refine fI 26 q48 [(24, .slice ad5 p0.Left.length cp6), (25, iv s14)] 8 [some 6, some 7] rfl rfl rfl rfl rfl rfl fun G a w S => ?_
    refine sIdxV (v := .slice ad5 p0.Left.length cp6) (k := .i64) (j := s14) S (wN rfl) rfl rfl rfl hq49 rfl (lb rfl) fun a S => ?_
    exact leafL ⟨rfl, S⟩
  · refine fI 27 (iv x33) [(26, q48)] 9 [some 8] rfl rfl rfl rfl rfl rfl fun G a w S => ?_
    refine sLoadV1 (vq := q48) 6 (iv x33) S (wN rfl) rfl rfl rfl rfl rfl (lb rfl) fun a S => ?_
    exact leafL ⟨rfl, S⟩
  · refine fI 28 (iv (w64 (x28 - x33))) [(22, iv x28), (27, iv x33)] 10 [some 4, some 9] rfl rfl rfl rfl rfl rfl fun G a w S => ?_
    refine sBin (iv (w64 (x28 - x33))) S (wN rfl) rfl rfl rfl (bSub _ _ _ _ x28 x33) rfl (lb rfl) fun a S => ?_
    exact leafL ⟨rfl, S⟩
  · refine fI 29 (.bool (decide (40 < (w64 (x28 - x33))))) [(28, iv (w64 (x28 - x33)))] 11 [some 10] rfl rfl rfl rfl rfl rfl fun G a w S => ?_
    refine sBin (.bool (decide (40 < (w64 (x28 - x33))))) S (wN rfl) rfl rfl rfl (bGt _ _ _ _ .i64 (w64 (x28 - x33)) 40) rfl (lb rfl) fun a S => ?_
    exact leafL ⟨rfl, S⟩
  · refine fI 30 (.bool (decide (40 < (w64 (x28 - x33))))) [(29, .bool (decide (40 < (w64 (x28 - x33)))))] 12 [some 11] rfl rfl rfl rfl rfl rfl fun G a w S => ?_
    refine sMove (.bool (decide (40 < (w64 (x28 - x33))))) S (wN rfl) (.inl rfl) rfl rfl (lb rfl) fun a S => ?_
    exact leafL ⟨rfl, S⟩
  · refine fI 31 (.pointer (some ⟨b10, 1, none⟩)) [(1, .pointer (some ⟨b10, 0, none⟩)), (30, .bool (decide (40 < (w64 (x28 - x33)))))] 13 [none, some 12] rfl rfl rfl rfl rfl rfl fun G a w S => ?_
    refine sField (b := b10) (off := 0) 1 1 S (wG 12 true 30 rfl rfl rfl hc38) rfl rfl rfl rfl rfl (lb rfl) fun a S => ?_
    exact leafL ⟨rfl, S⟩
  · refine fI 32 (.slice ad7 p0.Right.length cp8) [(31, .pointer (some ⟨b10, 1, none⟩)), (30, .bool (decide (40 < (w64 (x28 - x33)))))] 14 [some 13, some 12] rfl rfl rfl rfl rfl rfl fun G a w S => ?_
    refine sLoad1 (p := b10) (off := 1) (T := 30) (vs := [.slice ad5 p0.Left.length cp6, .slice ad7 p0.Right.length cp8]) 0 (.slice ad7 p0.Right.length cp8) S (wG 12 true 30 rfl rfl rfl hc38) rfl rfl rfl rfl rfl rfl (lb rfl) fun a S => ?_
    exact leafL ⟨rfl, S⟩
  · refine fI 33 (iv s14) [(3, iv s14), (30, .bool (decide (40 < (w64 (x28 - x33)))))] 15 [none, some 12] rfl rfl rfl rfl rfl rfl fun G a w S => ?_
    refine sMove (iv s14) S (wG 12 true 30 rfl rfl rfl hc38) (.inl rfl) rfl rfl (lb rfl) fun a S => ?_
    exact leafL ⟨rfl, S⟩
  · refine fI 34 q51 [(32, .slice ad7 p0.Right.length cp8), (33, iv s14), (30, .bool (decide (40 < (w64 (x28 - x33)))))] 16 [some 14, some 15, some 12] rfl rfl rfl rfl rfl rfl fun G a w S => ?_
    refine sIdxV (v := .slice ad7 p0.Right.length cp8) (k := .i64) (j := s14) S (wG 12 true 30 rfl rfl rfl hc38) rfl rfl rfl hq52 rfl (lb rfl) fun a S => ?_
    exact leafL ⟨rfl, S⟩
  · refine fI 35 (iv x28) [(34, q51), (30, .bool (decide (40 < (w64 (x28 - x33)))))] 17 [some 16, some 12] rfl rfl rfl rfl rfl rfl fun G a w S => ?_
    refine sLoadV1 (vq := q51) 3 (iv x28) S (wG 12 true 30 rfl rfl rfl hc38) rfl rfl rfl rfl rfl (lb rfl) fun a S => ?_
    exact leafL ⟨rfl, S⟩
  · refine fI 36 (.pointer (some ⟨b10, 0, none⟩)) [(1, .pointer (some ⟨b10, 0, none⟩)), (30, .bool (decide (40 < (w64 (x28 - x33)))))] 18 [none, some 12] rfl rfl rfl rfl rfl rfl fun G a w S => ?_
    refine sField (b := b10) (off := 0) 0 0 S (wG 12 true 30 rfl rfl rfl hc38) rfl rfl rfl rfl rfl (lb rfl) fun a S => ?_
    exact leafL ⟨rfl, S⟩
  · refine fI 37 (.slice ad5 p0.Left.length cp6) [(36, .pointer (some ⟨b10, 0, none⟩)), (30, .bool (decide (40 < (w64 (x28 - x33)))))] 19 [some 18, some 12] rfl rfl rfl rfl rfl rfl fun G a w S => ?_
    refine sLoad1 (p := b10) (off := 0) (T := 30) (vs := [.slice ad5 p0.Left.length cp6, .slice ad7 p0.Right.length cp8]) 0 (.slice ad5 p0.Left.length cp6) S (wG 12 true 30 rfl rfl rfl hc38) rfl rfl rfl rfl rfl rfl (lb rfl) fun a S => ?_
    exact leafL ⟨rfl, S⟩
  · refine fI 38 (iv s14) [(3, iv s14), (30, .bool (decide (40 < (w64 (x28 - x33)))))] 20 [none, some 12] rfl rfl rfl rfl rfl rfl fun G a w S => ?_
    refine sMove (iv s14) S (wG 12 true 30 rfl rfl rfl hc38) (.inl rfl) rfl rfl (lb rfl) fun a S => ?_
    exact leafL ⟨rfl, S⟩
  · refine fI 39 q54 [(37, .slice ad5 p0.Left.length cp6), (38, iv s14), (30, .bool (decide (40 < (w64 (x28 - x33)))))] 21 [some 19, some 20, some 12] rfl rfl rfl rfl rfl rfl fun G a w S => ?_
    refine sIdxV (v := .slice ad5 p0.Left.length cp6) (k := .i64) (j := s14) S (wG 12 true 30 rfl rfl rfl hc38) rfl rfl rfl hq55 rfl (lb rfl) fun a S => ?_
    exact leafL ⟨rfl, S⟩
  · refine fI 40 (iv x33) [(39, q54), (30, .bool (decide (40 < (w64 (x28 - x33)))))] 22 [some 21, some 12] rfl rfl rfl rfl rfl rfl fun G a w S => ?_
    refine sLoadV1 (vq := q54) 0 (iv x33) S (wG 12 true 30 rfl rfl rfl hc38) rfl rfl rfl rfl rfl (lb rfl) fun a S => ?_
    exact leafL ⟨rfl, S⟩
  · refine fI 41 (iv (w64 (x28 - x33))) [(35, iv x28), (40, iv x33), (30, .bool (decide (40 < (w64 (x28 - x33)))))] 23 [some 17, some 22, some 12] rfl rfl rfl rfl rfl rfl fun G a w S => ?_
    refine sBin (iv (w64 (x28 - x33))) S (wG 12 true 30 rfl rfl rfl hc38) rfl rfl rfl (bSub _ _ _ _ x28 x33) rfl (lb rfl) fun a S => ?_
    exact leafL ⟨rfl, S⟩
  · refine fI 42 (.bool (decide ((w64 (x28 - x33)) ≤ 200))) [(41, iv (w64 (x28 - x33))), (30, .bool (decide (40 < (w64 (x28 - x33)))))] 24 [some 23, some 12] rfl rfl rfl rfl rfl rfl fun G a w S => ?_
    refine sBin (.bool (decide ((w64 (x28 - x33)) ≤ 200))) S (wG 12 true 30 rfl rfl rfl hc38) rfl rfl rfl (bLe _ _ _ _ .i64 (w64 (x28 - x33)) 200) rfl (lb rfl) fun a S => ?_
    exact leafL ⟨rfl, S⟩
  · refine fI 43 (.bool (decide ((w64 (x28 - x33)) ≤ 200))) [(30, .bool (decide (40 < (w64 (x28 - x33))))), (42, .bool (decide ((w64 (x28 - x33)) ≤ 200)))] 25 [some 12, some 24] rfl rfl rfl rfl rfl rfl fun G a w S => ?_
    refine sPickT (.bool (decide ((w64 (x28 - x33)) ≤ 200))) S (wN rfl) rfl rfl hc38 rfl rfl (lb rfl) fun a S => ?_
    exact leafL ⟨rfl, S⟩
  exact leafT (⟨decide ((w64 (x28 - x33)) ≤ 200), Option.some.inj h, S.fix [0] [12, 13] (by decide) rfl rfl rfl⟩)

end Go.Proofs.YtmedbnjhgkcndaaDoor
namespace Go.Proofs.YtmedbnjhgkcndaaDoor
open Go.RowKit
set_option linter.unusedVariables false

theorem col_eq (x : Int) : F_piece_column x = some (decide (-500 ≤ x) && decide (x ≤ 500)) ∧ F_raddleref37_in x = some (decide (-500 ≤ x) && decide (x ≤ 500)) := by
  unfold F_piece_column F_raddleref37_in
  by_cases h : -500 ≤ x <;> simp [h]
def col (x : Int) : Bool := decide (-500 ≤ x) && decide (x ≤ 500)
def pokAt (p : api_Piece) (k : Nat) : Bool := col (p.Left.getD k 0) && (col (p.Right.getD k 0) && (decide (p.Left.getD k 0 < p.Right.getD k 0) && decide (p.Right.getD k 0 - p.Left.getD k 0 ≤ 200)))
def pok (p : api_Piece) : Bool := decide (p.Left.length = p.Right.length) && (decide (1 ≤ p.Left.length) && (decide (p.Left.length ≤ 100) && (List.range p.Left.length).all (pokAt p)))
theorem col_spec {x : Int} : col x = true ↔ -500 ≤ x ∧ x ≤ 500 := by simp [col]
theorem pcheck_eq (p : api_Piece) (h1 : p.Left.length ≤ 1000000) (h2 : p.Right.length ≤ 1000000) : F_piece_Check p = some (if pok p = true then 0 else 8) ∧ F_raddleref37_Check p = some (if pok p = true then 0 else 8) := by
  unfold F_piece_Check F_raddleref37_Check
  by_cases e1 : p.Left.length = p.Right.length
  case neg =>
    have hb : ((p.Left.length : Int) != (p.Right.length : Int)) = true := nT (by omega)
    have hp : pok p = false := by simp [pok, e1]
    simp [hb, hp]
  have hb : ((p.Left.length : Int) != (p.Right.length : Int)) = false := nF (by omega)
  by_cases e2 : 1 ≤ p.Left.length
  case neg =>
    have hc : ((p.Left.length : Int) == 0) = true := bT (by omega)
    have hd : decide ((p.Left.length : Int) < 1) = true := dT (by omega)
    have hp : pok p = false := by simp [pok, e2]
    simp [hb, hc, hd, hp]
  have hc : ((p.Left.length : Int) == 0) = false := bF (by omega)
  have hd : decide ((p.Left.length : Int) < 1) = false := dF (by omega)
  by_cases e3 : p.Left.length ≤ 100
  case neg =>
    have he : decide (100 < (p.Left.length : Int)) = true := dT (by omega)
    have hp : pok p = false := by simp [pok, e3]
    simp [hb, hc, hd, he, hp]
  have he : decide (100 < (p.Left.length : Int)) = false := dF (by omega)
  have hp : pok p = (List.range p.Left.length).all (pokAt p) := by simp only [pok, e1, e2, e3, decide_true, Bool.true_and]; rw [← e1]; simp [e2, e3]
  have hl1 : whileO (piece_Check_l1 p) 0 = some (if (List.range p.Left.length).all (pokAt p) = true then .inr () else .inl 8) := by
    refine loop_all _ _ _ _ (fun k hk => ?_) ?_
    · have hx := idxO_D (0 : Int) hk
      have hy := idxO_D (0 : Int) (show k < p.Right.length by omega)
      have hs : w64 ((k : Int) + 1) = ((k + 1 : Nat) : Int) := w64_succ (by omega)
      have hk' : decide ((k : Int) < (p.Left.length : Int)) = true := dT (by omega)
      unfold piece_Check_l1 pokAt
      simp only [hk', if_true, hx, hy, hs, Option.bind_some, (col_eq _).1, ← col.eq_1]
      generalize p.Left.getD k 0 = x
      generalize p.Right.getD k 0 = y
      cases hcx : col x with
      | false => simp
      | true =>
        cases hcy : col y with
        | false => simp
        | true =>
          rw [col_spec] at hcx hcy
          have hw : w64 (y - x) = y - x := w64_of (by omega) (by omega)
          by_cases g1 : x < y
          · by_cases g2 : y - x ≤ 200
            · simp [g1, g2, hw, show ¬ y ≤ x by omega, show ¬ 200 < y - x by omega]
            · simp [g1, g2, hw, show ¬ y ≤ x by omega, show 200 < y - x by omega]
          · simp [g1, hw, show y ≤ x by omega]
    · unfold piece_Check_l1; simp
  have hl2 : whileO (raddleref37_Check_l1 p) 0 = some (if (List.range p.Left.length).all (pokAt p) = true then .inr () else .inl 8) := by
    refine loop_all _ _ _ _ (fun k hk => ?_) ?_
    · have hx := idxO_D (0 : Int) hk
      have hy := idxO_D (0 : Int) (show k < p.Right.length by omega)
      have hs : w64 ((k : Int) + 1) = ((k + 1 : Nat) : Int) := w64_succ (by omega)
      have hk' : decide ((k : Int) < (p.Left.length : Int)) = true := dT (by omega)
      unfold raddleref37_Check_l1 pokAt
      simp only [hk', if_true, hx, hy, hs, Option.bind_some, (col_eq _).2, ← col.eq_1]
      generalize p.Left.getD k 0 = x
      generalize p.Right.getD k 0 = y
      cases hcx : col x with
      | false => simp
      | true =>
        cases hcy : col y with
        | false => simp
        | true =>
          rw [col_spec] at hcx hcy
          have hw : w64 (y - x) = y - x := w64_of (by omega) (by omega)
          by_cases g1 : x < y
          · by_cases g2 : y - x ≤ 200
            · simp [g1, g2, hw, show ¬ y ≤ x by omega, show ¬ 200 < y - x by omega]
            · simp [g1, g2, hw, show ¬ y ≤ x by omega, show 200 < y - x by omega]
          · simp [g1, hw, show y ≤ x by omega]
    · unfold raddleref37_Check_l1; simp
  rw [hl1, hl2, ← hp]
  cases pok p <;> simp [hb, hc, hd, he]
theorem same_self (l : List Int) (hl : l.length ≤ 1000000) : F_raddleref36_Same l l = some true := by
  have hw : whileO (raddleref36_Same_l1 l l) 0 = some (if (List.range l.length).all (fun _ => true) = true then .inr () else .inl false) := by
    refine loop_all _ _ _ _ (fun k hk => ?_) ?_
    · unfold raddleref36_Same_l1
      simp only [dT (show (k : Int) < (l.length : Int) by omega), if_true, idxO_nat hk, Option.bind_some, bne_self_eq_false, Bool.false_eq_true, if_false, w64_succ (show k < 9223372036854775807 by omega)]
    · unfold raddleref36_Same_l1; simp
  have : (List.range l.length).all (fun _ => true) = true := by simp
  rw [this] at hw
  unfold F_raddleref36_Same
  simp [hw]
theorem samep_self (p : api_Piece) (h1 : p.Left.length ≤ 1000000) (h2 : p.Right.length ≤ 1000000) : F_raddleref37_Same p p = some true := by
  unfold F_raddleref37_Same
  simp [same_self _ h1, same_self _ h2]
theorem great_eq (p : api_Piece) (h1 : p.Left.length ≤ 9223372036854775807) (h2 : p.Right.length ≤ 9223372036854775807) : ∃ b, F_raddleref37_Great p = some b ∧ (b = false → p.Left.length ≤ 1000 ∧ p.Right.length ≤ 1000) := by
  have hw : ∃ t, whileO (raddleref37_Great_l1 p) 0 = some t ∧ (t = .inl true ∨ t = .inr ()) := by
    refine loop_ix (min p.Left.length p.Right.length) (fun _ => True) _ trivial ?_ ?_
    · intro k hk _
      have ha : decide ((k : Int) < (p.Left.length : Int)) = true := dT (by omega)
      have hb : decide ((k : Int) < (p.Right.length : Int)) = true := dT (by omega)
      have hs : w64 ((k : Int) + 1) = ((k + 1 : Nat) : Int) := w64_succ (by omega)
      have hst : raddleref37_Great_l1 p (k : Int) = (if (decide (40 < w64 (p.Right.getD k 0 - p.Left.getD k 0)) && decide (w64 (p.Right.getD k 0 - p.Left.getD k 0) ≤ 200)) = true then some (.inr (.inl true)) else some (.inl ((k + 1 : Nat) : Int))) := by
        unfold raddleref37_Great_l1
        simp only [ha, hb, if_true, Option.bind_some, idxO_D (0 : Int) (show k < p.Left.length by omega), idxO_D (0 : Int) (show k < p.Right.length by omega), hs]
        generalize w64 (p.Right.getD k 0 - p.Left.getD k 0) = d
        by_cases g1 : 40 < d
        · simp [g1]
        · simp [g1]
      rw [hst]
      split
      · exact .inr ⟨_, rfl, .inl rfl⟩
      · exact .inl ⟨rfl, trivial⟩
    · intro _
      refine ⟨.inr (), ?_, .inr rfl⟩
      unfold raddleref37_Great_l1
      by_cases g : p.Left.length ≤ p.Right.length
      · have ha : decide (((min p.Left.length p.Right.length : Nat) : Int) < (p.Left.length : Int)) = false := dF (by omega)
        simp only [ha, Bool.false_eq_true, if_false, Option.bind_some]
      · have ha : decide (((min p.Left.length p.Right.length : Nat) : Int) < (p.Left.length : Int)) = true := dT (by omega)
        have hb : decide (((min p.Left.length p.Right.length : Nat) : Int) < (p.Right.length : Int)) = false := dF (by omega)
        simp only [ha, hb, Bool.false_eq_true, if_true, if_false, Option.bind_some]
  obtain ⟨t, t1, t2⟩ := hw
  unfold F_raddleref37_Great
  rw [t1]
  rcases t2 with rfl | rfl
  · exact ⟨true, rfl, fun h => by cases h⟩
  · simp only [Option.bind_some]
    by_cases g1 : 110 < p.Left.length
    · refine ⟨true, ?_, fun h => by cases h⟩
      simp [show (20 : Int) < (p.Left.length : Int) by omega, show ¬ (p.Left.length : Int) ≤ 100 by omega, show (110 : Int) < (p.Left.length : Int) by omega]
    by_cases g2 : 110 < p.Right.length
    · by_cases g3 : 20 < p.Left.length
      · by_cases g4 : p.Left.length ≤ 100
        · exact ⟨true, by simp [show (20 : Int) < (p.Left.length : Int) by omega, show (p.Left.length : Int) ≤ 100 by omega], fun h => by cases h⟩
        · exact ⟨true, by simp [show (20 : Int) < (p.Left.length : Int) by omega, show ¬ (p.Left.length : Int) ≤ 100 by omega, show ¬ (110 : Int) < (p.Left.length : Int) by omega, show (110 : Int) < (p.Right.length : Int) by omega], fun h => by cases h⟩
      · exact ⟨true, by simp [show ¬ (20 : Int) < (p.Left.length : Int) by omega, show ¬ (110 : Int) < (p.Left.length : Int) by omega, show (110 : Int) < (p.Right.length : Int) by omega], fun h => by cases h⟩
    · by_cases g3 : 20 < p.Left.length
      · by_cases g4 : p.Left.length ≤ 100
        · exact ⟨true, by simp [show (20 : Int) < (p.Left.length : Int) by omega, show (p.Left.length : Int) ≤ 100 by omega], fun h => by cases h⟩
        · exact ⟨false, by simp [show (20 : Int) < (p.Left.length : Int) by omega, show ¬ (p.Left.length : Int) ≤ 100 by omega, show ¬ (110 : Int) < (p.Left.length : Int) by omega, show ¬ (110 : Int) < (p.Right.length : Int) by omega], fun _ => ⟨by omega, by omega⟩⟩
      · exact ⟨false, by simp [show ¬ (20 : Int) < (p.Left.length : Int) by omega, show ¬ (110 : Int) < (p.Left.length : Int) by omega, show ¬ (110 : Int) < (p.Right.length : Int) by omega], fun _ => ⟨by omega, by omega⟩⟩

end Go.Proofs.YtmedbnjhgkcndaaDoor
namespace Go.Proofs.YtmedbnjhgkcndaaDoor
open Go.RowKit
set_option linter.unusedVariables false

/-- a loop by a count, whatever its state looks like -/
theorem loop_at {S σ τ : Type} {B : S → Option (S ⊕ τ)} (n : Nat) (st : Nat → σ → S) (I : Nat → σ → Prop) (Pt : τ → Prop) {s0 : σ} (h0 : I 0 s0)
    (step : ∀ k s, k < n → I k s → (∃ s', B (st k s) = some (.inl (st (k + 1) s')) ∧ I (k + 1) s') ∨ (∃ t, B (st k s) = some (.inr t) ∧ Pt t))
    (last : ∀ s, I n s → ∃ t, B (st n s) = some (.inr t) ∧ Pt t) : ∃ t, whileO B (st 0 s0) = some t ∧ Pt t := by
  have key : ∀ j k s, j + k = n → I k s → ∃ t, whileO B (st k s) = some t ∧ Pt t := by
    intro j
    induction j with
    | zero =>
      intro k s hk hI
      obtain rfl : k = n := by omega
      obtain ⟨t, h1, h2⟩ := last s hI
      exact ⟨t, whileO_done h1, h2⟩
    | succ j ih =>
      intro k s hk hI
      rcases step k s (by omega) hI with ⟨s', h1, h2⟩ | ⟨t, h1, h2⟩
      · rw [whileO_step h1]; exact ih _ _ (by omega) h2
      · exact ⟨t, whileO_done h1, h2⟩
  exact key n 0 s0 (by omega) h0
theorem whileO_none {σ τ : Type} {B : σ → Option (σ ⊕ τ)} {s : σ} (h : B s = none) : whileO B s = none := by
  cases hx : whileO B s with
  | none => rfl
  | some t =>
    obtain ⟨n, hn⟩ := whileO_some hx
    cases n with
    | zero => simp [iterO] at hn
    | succ n => rw [iterO, h] at hn; cases hn
theorem whileO_eq {σ τ : Type} (B : σ → Option (σ ⊕ τ)) (s : σ) : whileO B s = (B s).bind fun r => match r with | .inl s' => whileO B s' | .inr t => some t := by
  cases h : B s with
  | none => rw [whileO_none h]; rfl
  | some r =>
    cases r with
    | inl s' => rw [whileO_step h]; rfl
    | inr t => rw [whileO_done h]; rfl
/-- sums over a list -/
def sm {α : Type} (f : α → Int) : List α → Int
  | [] => 0
  | x :: l => f x + sm f l
theorem sm_append {α : Type} (f : α → Int) (l k : List α) : sm f (l ++ k) = sm f l + sm f k := by
  induction l with
  | nil => simp [sm]
  | cons x l ih => simp only [List.cons_append, sm, ih]; omega
theorem sm_take {α : Type} (f : α → Int) (l : List α) {k : Nat} (h : k < l.length) : sm f (l.take (k + 1)) = sm f (l.take k) + f l[k] := by
  rw [List.take_succ_eq_append_getElem h, sm_append]
  simp [sm]
theorem sm_bd {α : Type} {f : α → Int} {b : Int} {l : List α} (h : ∀ x, x ∈ l → 0 ≤ f x ∧ f x ≤ b) : 0 ≤ sm f l ∧ sm f l ≤ b * l.length := by
  induction l with
  | nil => simp [sm]
  | cons x l ih =>
    have h1 := h x (by simp)
    have h2 := ih fun y hy => h y (by simp [hy])
    simp only [sm, List.length_cons]
    have e : b * ((l.length + 1 : Nat) : Int) = b * l.length + b := by rw [Int.natCast_add, Int.mul_add]; simp
    rw [e]
    omega
def usedS (p : api_Stitch) : Int := if p.Kind = 2 ∨ p.Kind = 9 then 0 else if p.Kind = 3 ∨ p.Kind = 4 ∨ p.Kind = 10 then p.A else if p.Kind = 6 ∨ p.Kind = 7 then p.A + p.B else 1
def madeS (p : api_Stitch) : Int := if p.Kind = 10 then 0 else if p.Kind = 5 ∨ p.Kind = 9 then p.A else if p.Kind = 6 ∨ p.Kind = 7 then p.A + p.B else 1
def okS (p : api_Stitch) : Prop :=
  (p.Kind = 1 ∨ p.Kind = 8) ∧ p.A = 0 ∧ p.B = 0 ∨ p.Kind = 2 ∧ p.A = 0 ∧ p.B = 0 ∧ p.Purl = false ∨ (p.Kind = 3 ∨ p.Kind = 4 ∨ p.Kind = 5) ∧ 2 ≤ p.A ∧ p.A ≤ 4 ∧ p.B = 0 ∨
  (p.Kind = 6 ∨ p.Kind = 7) ∧ 1 ≤ p.A ∧ p.A ≤ 6 ∧ 1 ≤ p.B ∧ p.B ≤ 6 ∨ p.Kind = 9 ∧ 1 ≤ p.A ∧ p.A ≤ 200 ∧ p.B = 0 ∧ p.Purl = false ∨ p.Kind = 10 ∧ 1 ≤ p.A ∧ p.A ≤ 200 ∧ p.B = 0
instance (p : api_Stitch) : Decidable (okS p) := by unfold okS; infer_instance
theorem okS_bd {p : api_Stitch} (h : okS p) : 1 ≤ p.Kind ∧ p.Kind ≤ 10 ∧ 0 ≤ p.A ∧ p.A ≤ 200 ∧ 0 ≤ p.B ∧ p.B ≤ 6 := by
  unfold okS at h
  omega
theorem usedS_bd {p : api_Stitch} (h : okS p) : 0 ≤ usedS p ∧ usedS p ≤ 200 := by
  have hb := okS_bd h
  unfold okS at h
  unfold usedS
  split
  · omega
  · split
    · omega
    · split <;> omega
theorem madeS_bd {p : api_Stitch} (h : okS p) : 0 ≤ madeS p ∧ madeS p ≤ 200 := by
  have hb := okS_bd h
  unfold okS at h
  unfold madeS
  split
  · omega
  · split
    · omega
    · split <;> omega
theorem check_form (p : api_Stitch) (f : stitch_form) (h : F_stitch_forms p.Kind = some (f, true)) :
    F_stitch_Check p = some (if (f.a.1 ≤ p.A ∧ p.A ≤ f.a.2) ∧ (f.b.1 ≤ p.B ∧ p.B ≤ f.b.2) ∧ (p.Purl = true → f.sided = true) then 0 else 8) := by
  unfold F_stitch_Check F_stitch_within
  rw [h]
  by_cases a1 : f.a.1 ≤ p.A <;> by_cases a2 : p.A ≤ f.a.2 <;> by_cases b1 : f.b.1 ≤ p.B <;> by_cases b2 : p.B ≤ f.b.2 <;> cases hp : p.Purl <;> cases hs : f.sided <;> simp [a1, a2, b1, b2, hs]
theorem ifc {α : Type} {c d : Prop} [Decidable c] [Decidable d] {a b : α} (h : c ↔ d) : (if c then a else b) = if d then a else b := by
  by_cases hc : c
  · rw [if_pos hc, if_pos (h.1 hc)]
  · rw [if_neg hc, if_neg (fun hd => hc (h.2 hd))]
theorem kinds {x : Int} (h : 0 ≤ x ∧ x ≤ 255) : x = 0 ∨ x = 1 ∨ x = 2 ∨ x = 3 ∨ x = 4 ∨ x = 5 ∨ x = 6 ∨ x = 7 ∨ x = 8 ∨ x = 9 ∨ x = 10 ∨ 10 < x := by omega
theorem forms_none {x : Int} (h : 10 < x ∧ x ≤ 255) : ∃ f, F_stitch_forms x = some (f, false) := by
  unfold F_stitch_forms
  have hw : IntKind.i64.wrap x = x := w64_of (by omega) (by omega)
  simp only [dF (show ¬ x < 1 by omega), hw, Bool.false_eq_true, if_false, Option.bind_some, List.length_cons, List.length_nil]
  rw [dT (show ((0 + 1 + 1 + 1 + 1 + 1 + 1 + 1 + 1 + 1 + 1 : Nat) : Int) < x by omega)]
  exact ⟨_, rfl⟩
theorem check_none {p : api_Stitch} {f : stitch_form} (h : F_stitch_forms p.Kind = some (f, false)) : F_stitch_Check p = some 8 := by
  unfold F_stitch_Check
  rw [h]
  simp
theorem check_eq (p : api_Stitch) (hk : 0 ≤ p.Kind ∧ p.Kind ≤ 255) : F_stitch_Check p = some (if okS p then 0 else 8) := by
  rcases kinds hk with h | h | h | h | h | h | h | h | h | h | h | h
  · rw [check_none (f := ⟨⟨#[]⟩, (0, 0), (0, 0), false, 0, 0⟩) (by rw [h]; rfl), if_neg (by unfold okS; omega)]
  · rw [check_form p _ (by rw [h]; rfl)]; cases hp : p.Purl <;> exact congrArg some (ifc (by simp [okS, h]; omega))
  · rw [check_form p _ (by rw [h]; rfl)]; cases hp : p.Purl <;> exact congrArg some (ifc (by simp [okS, h, hp] <;> omega))
  · rw [check_form p _ (by rw [h]; rfl)]; cases hp : p.Purl <;> exact congrArg some (ifc (by simp [okS, h]; omega))
  · rw [check_form p _ (by rw [h]; rfl)]; cases hp : p.Purl <;> exact congrArg some (ifc (by simp [okS, h]; omega))
  · rw [check_form p _ (by rw [h]; rfl)]; cases hp : p.Purl <;> exact congrArg some (ifc (by simp [okS, h]; omega))
  · rw [check_form p _ (by rw [h]; rfl)]; cases hp : p.Purl <;> exact congrArg some (ifc (by simp [okS, h]; omega))
  · rw [check_form p _ (by rw [h]; rfl)]; cases hp : p.Purl <;> exact congrArg some (ifc (by simp [okS, h]; omega))
  · rw [check_form p _ (by rw [h]; rfl)]; cases hp : p.Purl <;> exact congrArg some (ifc (by simp [okS, h]; omega))
  · rw [check_form p _ (by rw [h]; rfl)]; cases hp : p.Purl <;> exact congrArg some (ifc (by simp [okS, h, hp] <;> omega))
  · rw [check_form p _ (by rw [h]; rfl)]; cases hp : p.Purl <;> exact congrArg some (ifc (by simp [okS, h]; omega))
  · obtain ⟨f, hf⟩ := forms_none ⟨h, hk.2⟩
    rw [check_none hf, if_neg (by unfold okS; omega)]
theorem form_ok {p : api_Stitch} (h : okS p) : ∃ f, F_stitch_forms p.Kind = some (f, true) ∧ F_stitch_loops p f.uses = some (usedS p) ∧ F_stitch_loops p f.made = some (madeS p) := by
  have hb := okS_bd h
  have hw : w64 (p.A + p.B) = p.A + p.B := w64_of (by omega) (by omega)
  have l0 : F_stitch_loops p 0 = some 0 := rfl
  have l1 : F_stitch_loops p 1 = some 1 := rfl
  have l2 : F_stitch_loops p 2 = some p.A := rfl
  have l3 : F_stitch_loops p 3 = some (p.A + p.B) := by rw [← hw]; rfl
  rcases kinds (x := p.Kind) (by omega) with k | k | k | k | k | k | k | k | k | k | k | k
  · omega
  · exact ⟨⟨⟨#[]⟩, (0, 0), (0, 0), true, 1, 1⟩, by rw [k]; rfl, by rw [l1]; simp [usedS, k], by rw [l1]; simp [madeS, k]⟩
  · exact ⟨⟨⟨#[]⟩, (0, 0), (0, 0), false, 0, 1⟩, by rw [k]; rfl, by rw [l0]; simp [usedS, k], by rw [l1]; simp [madeS, k]⟩
  · exact ⟨⟨⟨#[102]⟩, (2, 4), (0, 0), true, 2, 1⟩, by rw [k]; rfl, by rw [l2]; simp [usedS, k], by rw [l1]; simp [madeS, k]⟩
  · exact ⟨⟨⟨#[108]⟩, (2, 4), (0, 0), true, 2, 1⟩, by rw [k]; rfl, by rw [l2]; simp [usedS, k], by rw [l1]; simp [madeS, k]⟩
  · exact ⟨⟨⟨#[109]⟩, (2, 4), (0, 0), true, 1, 2⟩, by rw [k]; rfl, by rw [l1]; simp [usedS, k], by rw [l2]; simp [madeS, k]⟩
  · exact ⟨⟨⟨#[120]⟩, (1, 6), (1, 6), true, 3, 3⟩, by rw [k]; rfl, by rw [l3]; simp [usedS, k], by rw [l3]; simp [madeS, k]⟩
  · exact ⟨⟨⟨#[121]⟩, (1, 6), (1, 6), true, 3, 3⟩, by rw [k]; rfl, by rw [l3]; simp [usedS, k], by rw [l3]; simp [madeS, k]⟩
  · exact ⟨⟨⟨#[115]⟩, (0, 0), (0, 0), true, 1, 1⟩, by rw [k]; rfl, by rw [l1]; simp [usedS, k], by rw [l1]; simp [madeS, k]⟩
  · exact ⟨⟨⟨#[]⟩, (1, 200), (0, 0), false, 0, 2⟩, by rw [k]; rfl, by rw [l0]; simp [usedS, k], by rw [l2]; simp [madeS, k]⟩
  · exact ⟨⟨⟨#[111]⟩, (1, 200), (0, 0), true, 2, 0⟩, by rw [k]; rfl, by rw [l2]; simp [usedS, k], by rw [l0]; simp [madeS, k]⟩
  · omega
/-- lists of stitches -/
def allOk (l : List api_Stitch) : Prop := ∀ p, p ∈ l → okS p
instance (l : List api_Stitch) : Decidable (allOk l) := by unfold allOk; infer_instance
def wfS (p : api_Stitch) : Prop := 0 ≤ p.Kind ∧ p.Kind ≤ 255
theorem used_bd {l : List api_Stitch} (h : allOk l) : 0 ≤ sm usedS l ∧ sm usedS l ≤ 200 * l.length := sm_bd fun _ hx => usedS_bd (h _ hx)
theorem made_bd {l : List api_Stitch} (h : allOk l) : 0 ≤ sm madeS l ∧ sm madeS l ≤ 200 * l.length := sm_bd fun _ hx => madeS_bd (h _ hx)
theorem take_ok {l : List api_Stitch} (h : allOk l) (k : Nat) : allOk (l.take k) := fun _ hx => h _ (List.mem_of_mem_take hx)
theorem sum_step {l : List api_Stitch} (h : allOk l) (hl : l.length ≤ 100000) {k : Nat} (hk : k < l.length) :
    w64 (sm usedS (l.take k) + usedS l[k]) = sm usedS (l.take (k + 1)) ∧ w64 (sm madeS (l.take k) + madeS l[k]) = sm madeS (l.take (k + 1)) := by
  have h1 := used_bd (take_ok h k)
  have h2 := made_bd (take_ok h k)
  have h3 := usedS_bd (h _ (List.getElem_mem hk))
  have h4 := madeS_bd (h _ (List.getElem_mem hk))
  have hlen : (l.take k).length ≤ 100000 := by rw [List.length_take]; omega
  rw [sm_take _ _ hk, sm_take _ _ hk]
  exact ⟨w64_of (by omega) (by omega), w64_of (by omega) (by omega)⟩
theorem sum_eq {l : List api_Stitch} (h : allOk l) (hl : l.length ≤ 100000) : F_stitch_sum l = some (sm usedS l, sm madeS l) := by
  have key : ∃ t, whileO (stitch_sum_l1 l) (0, 0, 0) = some t ∧ t = (sm usedS l, sm madeS l) := by
    refine loop_at (σ := Unit) l.length (fun k _ => (sm usedS (l.take k), sm madeS (l.take k), (k : Int))) (fun _ _ => True) _ (s0 := ()) trivial ?_ ?_
    · intro k _ hk _
      refine .inl ⟨(), ?_, trivial⟩
      obtain ⟨f, f1, f2, f3⟩ := form_ok (h _ (List.getElem_mem hk))
      have hs := sum_step h hl hk
      unfold stitch_sum_l1
      simp only [dT (show (k : Int) < (l.length : Int) by omega), if_true, idxO_nat hk, Option.bind_some, f1, f2, f3, hs.1, hs.2, w64_succ (show k < 9223372036854775807 by omega)]
    · intro _ _
      refine ⟨_, ?_, rfl⟩
      unfold stitch_sum_l1
      simp only [dF (show ¬ (l.length : Int) < (l.length : Int) by omega), Bool.false_eq_true, if_false, List.take_length]
  obtain ⟨t, h1, rfl⟩ := key
  unfold F_stitch_sum
  rw [h1]; rfl
/-- the error of a list -/
def allS (l : List api_Stitch) : Int := if 200 < l.length then 4 else if allOk l then (if 200 < sm usedS l ∨ 200 < sm madeS l then 4 else 0) else 8
theorem find_bad {l : List api_Stitch} (hw : ∀ p, p ∈ l → wfS p) (hl : l.length ≤ 100000) : ∃ j, F_slices_IndexFunc___api_Stitch_api_Stitch__s0 l = some j ∧ (0 ≤ j ↔ ¬ allOk l) := by
  have key : ∃ t, whileO (slices_IndexFunc___api_Stitch_api_Stitch__s0_l1 l) 0 = some t ∧ ((t = .inr () ∧ allOk l) ∨ (∃ k : Nat, t = .inl (k : Int) ∧ ¬ allOk l)) := by
    refine loop_ix l.length (fun k => allOk (l.take k)) _ (fun p hp => by simp at hp) ?_ ?_
    · intro k hk hI
      have hc := check_eq l[k] (hw _ (List.getElem_mem hk))
      unfold slices_IndexFunc___api_Stitch_api_Stitch__s0_l1 F_stitch_All_1
      simp only [dT (show (k : Int) < (l.length : Int) by omega), if_true, idxO_nat hk, Option.bind_some, hc, w64_succ (show k < 9223372036854775807 by omega)]
      by_cases ho : okS l[k]
      · refine .inl ⟨by simp [ho], fun p hp => ?_⟩
        rw [List.take_succ_eq_append_getElem hk, List.mem_append] at hp
        rcases hp with hp | hp
        · exact hI p hp
        · simp at hp; subst hp; exact ho
      · exact .inr ⟨.inl (k : Int), by simp [ho], .inr ⟨k, rfl, fun h => ho (h _ (List.getElem_mem hk))⟩⟩
    · intro hI
      refine ⟨.inr (), ?_, .inl ⟨rfl, by simpa using hI⟩⟩
      unfold slices_IndexFunc___api_Stitch_api_Stitch__s0_l1
      simp only [dF (show ¬ (l.length : Int) < (l.length : Int) by omega), Bool.false_eq_true, if_false]
  obtain ⟨t, h1, h2⟩ := key
  unfold F_slices_IndexFunc___api_Stitch_api_Stitch__s0
  rw [h1]
  rcases h2 with ⟨rfl, h⟩ | ⟨k, rfl, h⟩
  · exact ⟨-1, rfl, by simp [h]⟩
  · exact ⟨(k : Int), rfl, by simp [h]⟩
theorem all_eq {l : List api_Stitch} (hw : ∀ p, p ∈ l → wfS p) : F_stitch_All l = some (allS l) := by
  unfold F_stitch_All allS
  by_cases hl : 200 < l.length
  · simp only [dT (show (200 : Int) < (l.length : Int) by omega), if_true, if_pos hl]
  simp only [dF (show ¬ (200 : Int) < (l.length : Int) by omega), Bool.false_eq_true, if_false, if_neg hl]
  obtain ⟨j, h1, h2⟩ := find_bad hw (by omega)
  unfold F_slices_ContainsFunc___api_Stitch_api_Stitch__s0
  rw [h1]
  by_cases ho : allOk l
  · have : ¬ 0 ≤ j := fun h => h2.1 h ho
    simp only [Option.bind_some, dF this, Bool.false_eq_true, if_false, sum_eq ho (show l.length ≤ 100000 by omega), if_pos ho]
    by_cases hm : 200 < sm usedS l ∨ 200 < sm madeS l
    · rw [dT (show (200 : Int) < if sm usedS l < sm madeS l then sm madeS l else sm usedS l by split <;> omega)]
      simp [hm]
    · rw [dF (show ¬ (200 : Int) < if sm usedS l < sm madeS l then sm madeS l else sm usedS l by split <;> omega)]
      simp [hm]
  · have : 0 ≤ j := h2.2 ho
    simp only [Option.bind_some, dT this, if_true, if_neg ho]
theorem allS_ok {l : List api_Stitch} (h : allS l = 0) : l.length ≤ 200 ∧ allOk l ∧ sm usedS l ≤ 200 ∧ sm madeS l ≤ 200 := by
  unfold allS at h
  split at h
  · omega
  · split at h
    · rename_i h1 h2
      split at h
      · omega
      · rename_i h3
        exact ⟨by omega, h2, by omega, by omega⟩
    · omega
def fin3 {σ τ : Type} (z0 : (σ ⊕ τ) ⊕ σ) : Option (σ ⊕ τ) := match z0 with
  | .inl z => some z
  | .inr g => some (.inl g)

end Go.Proofs.YtmedbnjhgkcndaaDoor
namespace Go.Proofs.YtmedbnjhgkcndaaDoor
open Go.RowKit
set_option linter.unusedVariables false

theorem take_one {α : Type} (l : List α) {k : Nat} (hk : k < l.length) : l.take (k + 1) = l.take k ++ [l[k]] := by
  rw [List.take_add_one, List.getElem?_eq_getElem hk]; rfl
def othS (p : api_Stitch) : api_Stitch := ⟨p.Kind, if p.Kind = 2 ∨ p.Kind = 9 then p.Purl else !p.Purl, if p.Kind = 6 ∨ p.Kind = 7 then p.B else p.A, if p.Kind = 6 ∨ p.Kind = 7 then p.A else p.B⟩
theorem purl_no {p : api_Stitch} (h : okS p) (k : p.Kind = 2 ∨ p.Kind = 9) : p.Purl = false := by
  rcases h with h | h | h | h | h | h
  · omega
  · exact h.2.2.2
  · omega
  · omega
  · exact h.2.2.2.2
  · omega
theorem turn_form {p : api_Stitch} (h : okS p) : ∃ f, F_stitch_forms p.Kind = some (f, true) ∧ (if f.sided = true then some (!p.Purl) else some false) = some (othS p).Purl ∧ (if decide (0 < f.b.2) = true then some (p.B, p.A) else some (p.A, p.B)) = some ((othS p).A, (othS p).B) := by
  have hb := okS_bd h
  unfold othS
  rcases kinds (x := p.Kind) (by omega) with k | k | k | k | k | k | k | k | k | k | k | k
  · omega
  · exact ⟨⟨⟨#[]⟩, (0, 0), (0, 0), true, 1, 1⟩, by rw [k]; rfl, by simp [k], by simp [k]⟩
  · exact ⟨⟨⟨#[]⟩, (0, 0), (0, 0), false, 0, 1⟩, by rw [k]; rfl, by simp [k, purl_no h (.inl k)], by simp [k]⟩
  · exact ⟨⟨⟨#[102]⟩, (2, 4), (0, 0), true, 2, 1⟩, by rw [k]; rfl, by simp [k], by simp [k]⟩
  · exact ⟨⟨⟨#[108]⟩, (2, 4), (0, 0), true, 2, 1⟩, by rw [k]; rfl, by simp [k], by simp [k]⟩
  · exact ⟨⟨⟨#[109]⟩, (2, 4), (0, 0), true, 1, 2⟩, by rw [k]; rfl, by simp [k], by simp [k]⟩
  · exact ⟨⟨⟨#[120]⟩, (1, 6), (1, 6), true, 3, 3⟩, by rw [k]; rfl, by simp [k], by simp [k]⟩
  · exact ⟨⟨⟨#[121]⟩, (1, 6), (1, 6), true, 3, 3⟩, by rw [k]; rfl, by simp [k], by simp [k]⟩
  · exact ⟨⟨⟨#[115]⟩, (0, 0), (0, 0), true, 1, 1⟩, by rw [k]; rfl, by simp [k], by simp [k]⟩
  · exact ⟨⟨⟨#[]⟩, (1, 200), (0, 0), false, 0, 2⟩, by rw [k]; rfl, by simp [k, purl_no h (.inr k)], by simp [k]⟩
  · exact ⟨⟨⟨#[111]⟩, (1, 200), (0, 0), true, 2, 0⟩, by rw [k]; rfl, by simp [k], by simp [k]⟩
  · omega
theorem turn_step {p : api_Stitch} (h : okS p) (s : List api_Stitch) (hs : s.length ≤ 1000000000) (i : Int) : stitch_Turn_l2 s (i, p) = some (.inl (s ++ [othS p])) := by
  obtain ⟨f, f1, f2, f3⟩ := turn_form h
  unfold stitch_Turn_l2
  simp only [f1, Option.bind_some, f2, f3]
  rw [appO_of (by simp; omega)]
  rfl
/-- a list from its end on -/
def bkw {α : Type} (l : List α) : Nat → List (Int × α)
  | 0 => []
  | k + 1 => match l[k]? with
    | some x => ((k : Int), x) :: bkw l k
    | none => bkw l k
theorem bkw_fold {α β τ : Type} {B : List β → (Int × α) → Option (List β ⊕ τ)} (l : List α) (g : α → β) (m : Nat) (hB : ∀ s x i, x ∈ l → s.length ≤ m → B s (i, x) = some (.inl (s ++ [g x]))) : ∀ (k : Nat) (s : List β), k ≤ l.length → s.length + k ≤ m → foldO B s (bkw l k) = some (.inl (s ++ ((l.take k).map g).reverse)) := by
  intro k
  induction k with
  | zero => intro s _ _; simp [bkw, foldO]
  | succ k ih =>
    intro s hk hs
    have hx : l[k]? = some (l[k]'(by omega)) := List.getElem?_eq_getElem (by omega)
    simp only [bkw, hx, foldO]
    rw [hB s _ _ (List.getElem_mem _) (by omega)]
    simp only [Option.bind_some]
    rw [ih _ (by omega) (by simp; omega), take_one l (by omega), List.map_append, List.reverse_append, List.append_assoc]
    rfl
theorem back_loop {σ τ : Type} (l : List api_Stitch) (hl : l.length ≤ 1000000000) (B : σ → (Int × api_Stitch) → Option (σ ⊕ τ)) : ∀ (k : Nat) (z : σ), k ≤ l.length → (whileO (slices_Backward___api_Stitch_api_Stitch__1_l1 l B) ((k : Int) - 1, z)).bind fin3 = foldO B z (bkw l k) := by
  intro k
  induction k with
  | zero =>
    intro z _
    have : slices_Backward___api_Stitch_api_Stitch__1_l1 l B (((0 : Nat) : Int) - 1, z) = some (.inr (.inr z)) := by
      unfold slices_Backward___api_Stitch_api_Stitch__1_l1
      simp only [dF (show ¬ (0 : Int) ≤ ((0 : Nat) : Int) - 1 by omega), Bool.false_eq_true, if_false]
    rw [whileO_done this]
    rfl
  | succ k ih =>
    intro z hk
    have e : ((k + 1 : Nat) : Int) - 1 = (k : Int) := by omega
    have hx : l[k]? = some (l[k]'(by omega)) := List.getElem?_eq_getElem (by omega)
    have e1 : slices_Backward___api_Stitch_api_Stitch__1_l1 l B ((k : Int), z) = (B z ((k : Int), l[k]'(by omega))).bind fun y => match y with | .inl z' => some (.inl ((k : Int) - 1, z')) | .inr t => some (.inr (.inl (.inr t))) := by
      unfold slices_Backward___api_Stitch_api_Stitch__1_l1
      simp only [dT (show (0 : Int) ≤ (k : Int) by omega), if_true, idxO_nat (show k < l.length by omega), Option.bind_some, w64_of (show (-9223372036854775808 : Int) ≤ (k : Int) - 1 by omega) (by omega)]
      try congr 1
    simp only [bkw, hx]
    rw [e, whileO_eq, e1, foldO]
    cases hb : B z ((k : Int), l[k]'(by omega)) with
    | none => rfl
    | some y =>
      cases y with
      | inl z' => exact ih z' (by omega)
      | inr t => rfl
theorem backI_eq {σ τ : Type} (l : List api_Stitch) (hl : l.length ≤ 1000000000) (B : σ → (Int × api_Stitch) → Option (σ ⊕ τ)) (z : σ) : I_slices_Backward___api_Stitch_api_Stitch__1 l σ τ B z = foldO B z (bkw l l.length) := by
  rw [← back_loop l hl B l.length z (Nat.le_refl _)]
  unfold I_slices_Backward___api_Stitch_api_Stitch__1
  rw [w64_of (show (-9223372036854775808 : Int) ≤ (l.length : Int) - 1 by omega) (by omega)]
  try congr 1
theorem turn_eq {l : List api_Stitch} (hw : ∀ p, p ∈ l → wfS p) : F_stitch_Turn l = some (if allS l = 0 then ((l.map othS).reverse, 0) else ([], allS l)) := by
  unfold F_stitch_Turn F_slices_Backward___api_Stitch_api_Stitch_
  rw [all_eq hw]
  by_cases h : allS l = 0
  case neg => simp only [Option.bind_some, nT h, if_true, if_neg h]
  have hk := allS_ok h
  simp only [Option.bind_some, nF h, Bool.false_eq_true, if_false, capO_of (n := (l.length : Int)) (k := l.length) rfl (by omega), if_pos h]
  rw [backI_eq l (by omega), bkw_fold l othS 1000000000 (fun s x i hx hs => turn_step (hk.2.1 x hx) s hs i) l.length [] (Nat.le_refl _) (by simp; omega), List.take_length]
  rfl

end Go.Proofs.YtmedbnjhgkcndaaDoor
namespace Go.Proofs.YtmedbnjhgkcndaaDoor
open Go.RowKit
set_option linter.unusedVariables false

theorem oth_ok {p : api_Stitch} (h : okS p) : okS (othS p) ∧ usedS (othS p) = usedS p ∧ madeS (othS p) = madeS p := by
  have hb := okS_bd h
  have hk : (othS p).Kind = p.Kind := rfl
  rcases kinds (x := p.Kind) (by omega) with k | k | k | k | k | k | k | k | k | k | k | k
  · omega
  · refine ⟨?_, ?_, ?_⟩ <;> simp [okS, usedS, madeS, othS, k] at h ⊢ <;> omega
  · refine ⟨?_, ?_, ?_⟩ <;> simp [okS, usedS, madeS, othS, k] at h ⊢ <;> exact h
  · refine ⟨?_, ?_, ?_⟩ <;> simp [okS, usedS, madeS, othS, k] at h ⊢ <;> omega
  · refine ⟨?_, ?_, ?_⟩ <;> simp [okS, usedS, madeS, othS, k] at h ⊢ <;> omega
  · refine ⟨?_, ?_, ?_⟩ <;> simp [okS, usedS, madeS, othS, k] at h ⊢ <;> omega
  · refine ⟨?_, ?_, ?_⟩ <;> simp [okS, usedS, madeS, othS, k] at h ⊢ <;> omega
  · refine ⟨?_, ?_, ?_⟩ <;> simp [okS, usedS, madeS, othS, k] at h ⊢ <;> omega
  · refine ⟨?_, ?_, ?_⟩ <;> simp [okS, usedS, madeS, othS, k] at h ⊢ <;> omega
  · refine ⟨?_, ?_, ?_⟩ <;> simp [okS, usedS, madeS, othS, k] at h ⊢ <;> first | exact h | omega
  · refine ⟨?_, ?_, ?_⟩ <;> simp [okS, usedS, madeS, othS, k] at h ⊢ <;> omega
  · omega
theorem sm_reverse {α : Type} (f : α → Int) (l : List α) : sm f l.reverse = sm f l := by
  induction l with
  | nil => rfl
  | cons x l ih => rw [List.reverse_cons, sm_append, ih]; simp only [sm]; omega
theorem sm_oth {l : List api_Stitch} (h : allOk l) : sm usedS (l.map othS) = sm usedS l ∧ sm madeS (l.map othS) = sm madeS l := by
  induction l with
  | nil => exact ⟨rfl, rfl⟩
  | cons x l ih =>
    have hx := oth_ok (h x (by simp))
    have ih := ih fun y hy => h y (by simp [hy])
    simp only [List.map_cons, sm, hx.2.1, hx.2.2, ih.1, ih.2, and_self]
theorem turned_ok {l : List api_Stitch} (h : allS l = 0) : allS ((l.map othS).reverse) = 0 ∧ sm usedS ((l.map othS).reverse) = sm usedS l ∧ sm madeS ((l.map othS).reverse) = sm madeS l := by
  obtain ⟨h1, h2, h3, h4⟩ := allS_ok h
  have hs := sm_oth h2
  have hok : allOk ((l.map othS).reverse) := by
    intro p hp
    rw [List.mem_reverse] at hp
    obtain ⟨q, hq, rfl⟩ := List.mem_map.1 hp
    exact (oth_ok (h2 q hq)).1
  rw [sm_reverse, sm_reverse, hs.1, hs.2]
  refine ⟨?_, rfl, rfl⟩
  unfold allS
  rw [sm_reverse, sm_reverse, hs.1, hs.2, if_neg (by simp; omega), if_pos hok, if_neg (by omega)]
end Go.Proofs.YtmedbnjhgkcndaaDoor
namespace Go.Proofs.YtmedbnjhgkcndaaDoor
open Go.RowKit
set_option linter.unusedVariables false

theorem pok_iff {p : api_Piece} : pok p = true ↔ p.Left.length = p.Right.length ∧ 1 ≤ p.Left.length ∧ p.Left.length ≤ 100 ∧ ∀ k, k < p.Left.length → (-500 ≤ p.Left.getD k 0 ∧ p.Left.getD k 0 ≤ 500) ∧ (-500 ≤ p.Right.getD k 0 ∧ p.Right.getD k 0 ≤ 500) ∧ p.Left.getD k 0 < p.Right.getD k 0 ∧ p.Right.getD k 0 - p.Left.getD k 0 ≤ 200 := by
  simp only [pok, pokAt, Bool.and_eq_true, decide_eq_true_eq, List.all_eq_true, List.mem_range, col_spec]
def bS (d kd : Int) : api_Stitch := if d = 0 then ⟨0, false, 0, 0⟩ else if 4 ≤ d then ⟨9, false, d, 0⟩ else if 0 < d then ⟨5, false, d + 1, 0⟩ else if -4 < d then ⟨kd, false, 1 - d, 0⟩ else ⟨10, false, -d, 0⟩
def bU (d : Int) : Int := if d = 0 then 0 else if 4 ≤ d then 0 else if 0 < d then 1 else if -4 < d then 1 - d else -d
theorem bend_cases (d : Int) : d = 0 ∨ 4 ≤ d ∨ (0 < d ∧ d < 4) ∨ (-4 < d ∧ d < 0) ∨ d ≤ -4 := by omega
theorem bend_eq {d : Int} (kd : Int) (h0 : -1000 ≤ d) (h1 : d ≤ 1000) : F_piece_bend d kd = some ⟨bS d kd, bU d⟩ := by
  unfold F_piece_bend bS bU
  rcases bend_cases d with h | h | h | h | h
  · simp [h]
  · rw [bF (show ¬ d = 0 by omega), dT h, if_neg (show ¬ d = 0 by omega), if_neg (show ¬ d = 0 by omega), if_pos h, if_pos h]; rfl
  · rw [bF (show ¬ d = 0 by omega), dF (show ¬ 4 ≤ d by omega), dT h.1, if_neg (show ¬ d = 0 by omega), if_neg (show ¬ d = 0 by omega), if_neg (show ¬ 4 ≤ d by omega), if_neg (show ¬ 4 ≤ d by omega), if_pos h.1, if_pos h.1, w64_of (by omega) (by omega)]; rfl
  · rw [bF (show ¬ d = 0 by omega), dF (show ¬ 4 ≤ d by omega), dF (show ¬ 0 < d by omega), dT h.1, if_neg (show ¬ d = 0 by omega), if_neg (show ¬ d = 0 by omega), if_neg (show ¬ 4 ≤ d by omega), if_neg (show ¬ 4 ≤ d by omega), if_neg (show ¬ 0 < d by omega), if_neg (show ¬ 0 < d by omega), if_pos h.1, if_pos h.1, w64_of (x := 1 - d) (by omega) (by omega)]; rfl
  · rw [bF (show ¬ d = 0 by omega), dF (show ¬ 4 ≤ d by omega), dF (show ¬ 0 < d by omega), dF (show ¬ -4 < d by omega), if_neg (show ¬ d = 0 by omega), if_neg (show ¬ d = 0 by omega), if_neg (show ¬ 4 ≤ d by omega), if_neg (show ¬ 4 ≤ d by omega), if_neg (show ¬ 0 < d by omega), if_neg (show ¬ 0 < d by omega), if_neg (show ¬ -4 < d by omega), if_neg (show ¬ -4 < d by omega), w64_of (x := 0 - d) (by omega) (by omega), show 0 - d = -d by omega]; rfl
theorem bU_bd (d : Int) : 0 ≤ bU d ∧ 0 ≤ bU d + d ∧ (d ≠ 0 → 1 ≤ bU d ∨ 4 ≤ bU d + d) := by
  unfold bU
  rcases bend_cases d with h | h | h | h | h
  · simp [h]
  · rw [if_neg (by omega), if_pos h]; omega
  · rw [if_neg (by omega), if_neg (by omega), if_pos h.1]; omega
  · rw [if_neg (by omega), if_neg (by omega), if_neg (by omega), if_pos h.1]; omega
  · rw [if_neg (by omega), if_neg (by omega), if_neg (by omega), if_neg (by omega)]; omega
theorem bU_le {d : Int} (h0 : -1000 ≤ d) (h1 : d ≤ 1000) : 0 ≤ bU d ∧ bU d ≤ 1001 := by
  unfold bU
  rcases bend_cases d with h | h | h | h | h
  · simp [h]
  · rw [if_neg (by omega), if_pos h]; omega
  · rw [if_neg (by omega), if_neg (by omega), if_pos h.1]; omega
  · rw [if_neg (by omega), if_neg (by omega), if_neg (by omega), if_pos h.1]; omega
  · rw [if_neg (by omega), if_neg (by omega), if_neg (by omega), if_neg (by omega)]; omega
theorem bS_ok {d kd : Int} (hd : d ≠ 0) (hk : kd = 3 ∨ kd = 4) (h0 : -200 ≤ d) (h1 : d ≤ 200) : okS (bS d kd) ∧ usedS (bS d kd) = bU d ∧ madeS (bS d kd) = bU d + d ∧ (bS d kd).Purl = false ∧ (bS d kd).Kind ≠ 1 ∧ (bS d kd).Kind ≠ 0 := by
  unfold bS bU
  rcases bend_cases d with h | h | h | h | h
  · exact absurd h hd
  · rw [if_neg hd, if_neg hd, if_pos h, if_pos h]
    refine ⟨?_, ?_, ?_, rfl, ?_, ?_⟩ <;> simp [okS, usedS, madeS] <;> omega
  · rw [if_neg hd, if_neg hd, if_neg (show ¬ 4 ≤ d by omega), if_neg (show ¬ 4 ≤ d by omega), if_pos h.1, if_pos h.1]
    refine ⟨?_, ?_, ?_, rfl, ?_, ?_⟩ <;> simp [okS, usedS, madeS] <;> omega
  · rw [if_neg hd, if_neg hd, if_neg (show ¬ 4 ≤ d by omega), if_neg (show ¬ 4 ≤ d by omega), if_neg (show ¬ 0 < d by omega), if_neg (show ¬ 0 < d by omega), if_pos h.1, if_pos h.1]
    rcases hk with rfl | rfl <;> refine ⟨?_, ?_, ?_, rfl, ?_, ?_⟩ <;> simp [okS, usedS, madeS] <;> omega
  · rw [if_neg hd, if_neg hd, if_neg (show ¬ 4 ≤ d by omega), if_neg (show ¬ 4 ≤ d by omega), if_neg (show ¬ 0 < d by omega), if_neg (show ¬ 0 < d by omega), if_neg (show ¬ -4 < d by omega), if_neg (show ¬ -4 < d by omega)]
    refine ⟨?_, ?_, ?_, rfl, ?_, ?_⟩ <;> simp [okS, usedS, madeS] <;> omega
def edge (d kd : Int) : List api_Stitch := if d = 0 then [] else [bS d kd]
def kns : api_Stitch := ⟨1, false, 0, 0⟩
theorem edge_spec {d kd : Int} (hk : kd = 3 ∨ kd = 4) (h0 : -200 ≤ d) (h1 : d ≤ 200) : allOk (edge d kd) ∧ sm usedS (edge d kd) = bU d ∧ sm madeS (edge d kd) = bU d + d ∧ (edge d kd).length = (if d = 0 then 0 else 1) := by
  unfold edge
  by_cases h : d = 0
  · subst h
    exact ⟨fun p hp => (by cases hp), rfl, rfl, rfl⟩
  · have := bS_ok h hk h0 h1
    rw [if_neg h]
    refine ⟨fun p hp => ?_, ?_, ?_, by simp [h]⟩
    · have hp : p = bS d kd := by simpa using hp
      rw [hp]; exact this.1
    · simp only [sm, this.2.1]; omega
    · simp only [sm, this.2.2.1]; omega
theorem edge_app {d kd : Int} (s : List api_Stitch) (hk : kd = 3 ∨ kd = 4) (hs : s.length ≤ 1000) :
    (if ((bS d kd).Kind != 0) = true then Option.bind (appO s [api_Stitch.mk (bS d kd).Kind (bS d kd).Purl (bS d kd).A (bS d kd).B]) fun l => some l else some s) = some (s ++ edge d kd) := by
  unfold edge
  by_cases h : d = 0
  · subst h
    rw [if_pos rfl, List.append_nil]
    rfl
  · have hK : (bS d kd).Kind ≠ 0 := by
      unfold bS
      rcases bend_cases d with g | g | g | g | g
      · exact absurd g h
      · rw [if_neg h, if_pos g]; simp
      · rw [if_neg h, if_neg (by omega), if_pos g.1]; simp
      · rw [if_neg h, if_neg (by omega), if_neg (by omega), if_pos g.1]; rcases hk with rfl | rfl <;> simp
      · rw [if_neg h, if_neg (by omega), if_neg (by omega), if_neg (by omega)]; simp
    rw [if_pos (nT hK), if_neg h, appO_of (by simp; omega)]
    rfl
def dR (p : api_Piece) (k : Nat) : Int := p.Right.getD (k + 1) 0 - p.Right.getD k 0
def dL (p : api_Piece) (k : Nat) : Int := p.Left.getD k 0 - p.Left.getD (k + 1) 0
def wd (p : api_Piece) (k : Nat) : Int := p.Right.getD k 0 - p.Left.getD k 0
def nk (p : api_Piece) (k : Nat) : Int := wd p k - bU (dR p k) - bU (dL p k)
def cel (p : api_Piece) (k : Nat) : List api_Stitch := edge (dR p k) 3 ++ List.replicate (nk p k).toNat kns ++ edge (dL p k) 4
def crow (p : api_Piece) (k : Nat) : api_Row := ⟨decide (k % 2 = 0), if k % 2 = 0 then ((cel p k).map othS).reverse else cel p k⟩
theorem sm_rep (f : api_Stitch → Int) (x : api_Stitch) (n : Nat) : sm f (List.replicate n x) = n * f x := by
  induction n with
  | zero => simp [sm]
  | succ n ih => rw [List.replicate_succ]; simp only [sm, ih]; rw [Int.natCast_add, Int.add_mul]; simp; omega
theorem wd_succ (p : api_Piece) (k : Nat) : wd p (k + 1) = wd p k + dR p k + dL p k := by unfold wd dR dL; omega
theorem cel_bd {p : api_Piece} (hp : pok p = true) {k : Nat} (hk : k + 1 < p.Left.length) (hn : 1 ≤ nk p k) :
    (-200 ≤ dR p k ∧ dR p k ≤ 200) ∧ (-200 ≤ dL p k ∧ dL p k ≤ 200) ∧ 1 ≤ wd p k ∧ wd p k ≤ 200 ∧ 1 ≤ wd p (k + 1) ∧ wd p (k + 1) ≤ 200 ∧ bU (dR p k) + bU (dL p k) + nk p k = wd p k := by
  obtain ⟨a, b, c, d⟩ := pok_iff.1 hp
  have d0 := d k (by omega)
  have d1 := d (k + 1) hk
  have w0 : 1 ≤ wd p k ∧ wd p k ≤ 200 := by unfold wd; omega
  have w1 : 1 ≤ wd p (k + 1) ∧ wd p (k + 1) ≤ 200 := by unfold wd; omega
  have ws := wd_succ p k
  have hnk : nk p k = wd p k - bU (dR p k) - bU (dL p k) := rfl
  have r := bU_bd (dR p k)
  have l := bU_bd (dL p k)
  omega
theorem cel_ok {p : api_Piece} (hp : pok p = true) {k : Nat} (hk : k + 1 < p.Left.length) (hn : 1 ≤ nk p k) :
    allS (cel p k) = 0 ∧ sm usedS (cel p k) = wd p k ∧ sm madeS (cel p k) = wd p (k + 1) ∧ ((cel p k).length : Int) ≤ nk p k + 2 ∧ (cel p k).length ≤ 200 := by
  obtain ⟨r, l, a0, a1, b0, b1, e⟩ := cel_bd hp hk hn
  have er := edge_spec (kd := 3) (.inl rfl) r.1 r.2
  have el := edge_spec (kd := 4) (.inr rfl) l.1 l.2
  have ws := wd_succ p k
  have ub := bU_bd (dR p k)
  have lb := bU_bd (dL p k)
  have hN : ((nk p k).toNat : Int) = nk p k := by omega
  have hu : sm usedS (cel p k) = wd p k := by
    unfold cel
    rw [sm_append, sm_append, er.2.1, el.2.1, sm_rep, hN]
    have : usedS kns = 1 := rfl
    rw [this]; omega
  have hm : sm madeS (cel p k) = wd p (k + 1) := by
    unfold cel
    rw [sm_append, sm_append, er.2.2.1, el.2.2.1, sm_rep, hN]
    have : madeS kns = 1 := rfl
    rw [this]; omega
  have hlen : (cel p k).length = (edge (dR p k) 3).length + (nk p k).toNat + (edge (dL p k) 4).length := by unfold cel; simp; omega
  rw [er.2.2.2, el.2.2.2] at hlen
  have hlen2 : (cel p k).length ≤ 200 := by
    by_cases c1 : dR p k = 0
    · by_cases c2 : dL p k = 0
      · rw [if_pos c1, if_pos c2] at hlen; omega
      · have := lb.2.2 c2; rw [if_pos c1, if_neg c2] at hlen; omega
    · have c1' := ub.2.2 c1
      by_cases c2 : dL p k = 0
      · rw [if_neg c1, if_pos c2] at hlen; omega
      · have := lb.2.2 c2; rw [if_neg c1, if_neg c2] at hlen; omega
  have hok : allOk (cel p k) := by
    intro x hx
    unfold cel at hx
    rw [List.mem_append, List.mem_append] at hx
    rcases hx with (hx | hx) | hx
    · exact er.1 x hx
    · rw [List.eq_of_mem_replicate hx]; exact .inl ⟨.inl rfl, rfl, rfl⟩
    · exact el.1 x hx
  refine ⟨?_, hu, hm, ?_, hlen2⟩
  · unfold allS
    rw [if_neg (by omega), if_pos hok, if_neg (by omega)]
  · by_cases c1 : dR p k = 0 <;> by_cases c2 : dL p k = 0 <;> simp only [c1, c2, if_true, if_false] at hlen <;> omega
theorem ok_wf {l : List api_Stitch} (h : allOk l) : ∀ p, p ∈ l → wfS p := by
  intro p hp
  have := okS_bd (h p hp)
  unfold wfS
  omega
theorem rem_two (n : Nat) : remI (n : Int) 2 = some ((n % 2 : Nat) : Int) := by unfold remI; rw [if_neg (by omega)]; rfl
theorem chart_step {p : api_Piece} (hp : pok p = true) {k : Nat} (hk : k + 1 < p.Left.length) {s : List api_Row} (hs : s.length ≤ 1000) :
    piece_Chart_l2 p (((k + 1 : Nat) : Int), s) = some (if 1 ≤ nk p k then .inl (((k + 1 + 1 : Nat) : Int), s ++ [crow p k]) else .inr (.inl (⟨0, []⟩, 22))) := by
  obtain ⟨a, b, c, d⟩ := pok_iff.1 hp
  have d0 := d k (by omega)
  have d1 := d (k + 1) hk
  have hj : w64 (((k + 1 : Nat) : Int) - 1) = (k : Int) := by rw [w64_of (by omega) (by omega)]; omega
  have e1 : w64 (p.Right.getD (k + 1) 0 - p.Right.getD k 0) = dR p k := w64_of (by omega) (by omega)
  have e2 : w64 (p.Left.getD k 0 - p.Left.getD (k + 1) 0) = dL p k := w64_of (by omega) (by omega)
  have e3 : w64 (p.Right.getD k 0 - p.Left.getD k 0) = wd p k := w64_of (by omega) (by omega)
  have rb : -1000 ≤ dR p k ∧ dR p k ≤ 1000 := by unfold dR; omega
  have lb : -1000 ≤ dL p k ∧ dL p k ≤ 1000 := by unfold dL; omega
  have ub := bU_le rb.1 rb.2
  have vb := bU_le lb.1 lb.2
  have wb : 0 ≤ wd p k ∧ wd p k ≤ 200 := by unfold wd; omega
  have e4 : w64 (w64 (wd p k - bU (dR p k)) - bU (dL p k)) = nk p k := by
    unfold nk
    rw [w64_of (x := wd p k - bU (dR p k)) (by omega) (by omega), w64_of (by omega) (by omega)]
  unfold piece_Chart_l2
  simp only [dT (show ((k + 1 : Nat) : Int) < (p.Left.length : Int) by omega), if_true, hj, idxO_D (0 : Int) hk, idxO_D (0 : Int) (show k < p.Left.length by omega), idxO_D (0 : Int) (show k + 1 < p.Right.length by omega), idxO_D (0 : Int) (show k < p.Right.length by omega), Option.bind_some, e1, e2, e3, bend_eq _ rb.1 rb.2, bend_eq _ lb.1 lb.2, e4]
  by_cases hn : 1 ≤ nk p k
  case neg => rw [dT (show nk p k < 1 by omega), if_neg hn]; rfl
  obtain ⟨c1, c2, c3, c4, c5⟩ := cel_ok hp hk hn
  obtain ⟨b1, b2, -⟩ := cel_bd hp hk hn
  have er := edge_spec (kd := 3) (.inl rfl) b1.1 b1.2
  have hlen : (cel p k).length = (edge (dR p k) 3).length + (nk p k).toNat + (edge (dL p k) 4).length := by unfold cel; simp; omega
  have hin : whileO (piece_Chart_l1 (p.Right.getD k 0) (p.Left.getD k 0) (bU (dR p k)) (bU (dL p k))) (edge (dR p k) 3, 0) = some (edge (dR p k) 3 ++ List.replicate (nk p k).toNat kns) := by
    have key : ∃ t, whileO (piece_Chart_l1 (p.Right.getD k 0) (p.Left.getD k 0) (bU (dR p k)) (bU (dL p k))) (edge (dR p k) 3, 0) = some t ∧ t = edge (dR p k) 3 ++ List.replicate (nk p k).toNat kns := by
      refine loop_st (nk p k).toNat (fun j s => s = edge (dR p k) 3 ++ List.replicate j kns) _ (by simp) ?_ ?_
      · rintro j s hj' rfl
        refine .inl ⟨edge (dR p k) 3 ++ List.replicate (j + 1) kns, ?_, rfl⟩
        unfold piece_Chart_l1
        simp only [e3, e4, dT (show (j : Int) < nk p k by omega), if_true]
        rw [appO_of (by simp; omega)]
        simp only [Option.bind_some, w64_succ (show j < 9223372036854775807 by omega), List.append_assoc, List.replicate_succ']
        rfl
      · rintro s rfl
        refine ⟨_, ?_, rfl⟩
        unfold piece_Chart_l1
        simp only [e3, e4, dF (show ¬ ((nk p k).toNat : Int) < nk p k by omega), Bool.false_eq_true, if_false]
    obtain ⟨t, t1, rfl⟩ := key
    exact t1
  have h1 := edge_app (d := dR p k) [] (kd := 3) (.inl rfl) (by simp)
  have h2 := edge_app (d := dL p k) (edge (dR p k) 3 ++ List.replicate (nk p k).toNat kns) (kd := 4) (.inr rfl) (by rw [List.length_append, List.length_replicate]; omega)
  rw [List.nil_append] at h1
  have hc : edge (dR p k) 3 ++ List.replicate (nk p k).toNat kns ++ edge (dL p k) 4 = cel p k := rfl
  rw [hc] at h2
  have hT := turn_eq (ok_wf (allS_ok c1).2.1)
  rw [if_pos c1] at hT
  rw [dF (show ¬ nk p k < 1 by omega), if_pos hn]
  simp only [Bool.false_eq_true, if_false, h1, hin, h2, Option.bind_some, rem_two]
  have hrow : (if (((k + 1) % 2 : Nat) : Int) == 1 then (some ((cel p k).map othS).reverse) else some (cel p k)) = some (crow p k).Cells := by
    unfold crow
    by_cases g : k % 2 = 0
    · rw [bT (show (((k + 1) % 2 : Nat) : Int) = 1 by omega), if_pos g]; rfl
    · rw [bF (show ¬ (((k + 1) % 2 : Nat) : Int) = 1 by omega), if_neg g]; rfl
  have hback : ((((k + 1) % 2 : Nat) : Int) == 1) = (crow p k).Back := by
    unfold crow
    by_cases g : k % 2 = 0
    · rw [bT (show (((k + 1) % 2 : Nat) : Int) = 1 by omega)]; simp [g]
    · rw [bF (show ¬ (((k + 1) % 2 : Nat) : Int) = 1 by omega)]; simp [g]
  simp only [hT, Option.bind_some, hrow, hback]
  rw [hback] at hrow
  try simp only [hrow, Option.bind_some]
  rw [appO_of (by simp; omega)]
  simp only [Option.bind_some, w64_succ (show k + 1 < 9223372036854775807 by omega)]
def chOk (p : api_Piece) : Prop := ∀ k, k < p.Left.length - 1 → 1 ≤ nk p k
instance (p : api_Piece) : Decidable (chOk p) := by unfold chOk; infer_instance
def chart (p : api_Piece) : api_Chart := ⟨wd p 0, (List.range (p.Left.length - 1)).map (crow p)⟩
theorem chart_eq (p : api_Piece) (h1 : p.Left.length ≤ 1000000) (h2 : p.Right.length ≤ 1000000) : F_piece_Chart p = some (if pok p = true then (if chOk p then (chart p, 0) else (⟨0, []⟩, 22)) else (⟨0, []⟩, 8)) := by
  unfold F_piece_Chart
  rw [(pcheck_eq p h1 h2).1]
  cases hp : pok p with
  | false => rfl
  | true =>
    obtain ⟨a, b, c, d⟩ := pok_iff.1 hp
    have d0 := d 0 (by omega)
    have e3 : w64 (p.Right.getD 0 0 - p.Left.getD 0 0) = wd p 0 := w64_of (by omega) (by omega)
    have hw : ∃ t, whileO (piece_Chart_l2 p) (1, ([] : List api_Row)) = some t ∧ ((chOk p ∧ t = .inr (chart p).Rows) ∨ (¬ chOk p ∧ t = .inl (⟨0, []⟩, 22))) := by
      refine loop_at (p.Left.length - 1) (fun k s => (((k + 1 : Nat) : Int), s)) (fun k s => s = (List.range k).map (crow p) ∧ ∀ j, j < k → 1 ≤ nk p j) _ ⟨rfl, fun j hj => absurd hj (Nat.not_lt_zero j)⟩ ?_ ?_
      · rintro k s hk ⟨rfl, hI⟩
        rw [chart_step hp (by omega) (by simp; omega)]
        by_cases hn : 1 ≤ nk p k
        · rw [if_pos hn]
          refine .inl ⟨_, rfl, ?_, fun j hj => ?_⟩
          · rw [List.range_succ, List.map_append]; rfl
          · by_cases e : j = k
            · subst e; exact hn
            · exact hI j (by omega)
        · rw [if_neg hn]
          exact .inr ⟨_, rfl, .inr ⟨fun h => hn (h k hk), rfl⟩⟩
      · rintro s ⟨rfl, hI⟩
        refine ⟨.inr (chart p).Rows, ?_, .inl ⟨hI, rfl⟩⟩
        unfold piece_Chart_l2
        simp only [dF (show ¬ ((p.Left.length - 1 + 1 : Nat) : Int) < (p.Left.length : Int) by omega), Bool.false_eq_true, if_false]
        rfl
    obtain ⟨t, t1, t2⟩ := hw
    have i0 : idxO p.Right 0 = some (p.Right.getD 0 0) := idxO_D (k := 0) (0 : Int) (by omega)
    have i1 : idxO p.Left 0 = some (p.Left.getD 0 0) := idxO_D (k := 0) (0 : Int) (by omega)
    simp only [if_true, Option.bind_some, nF (rfl : (0 : Int) = 0), Bool.false_eq_true, if_false, i0, i1, t1, e3]
    rcases t2 with ⟨g, rfl⟩ | ⟨g, rfl⟩
    · rw [if_pos g]; rfl
    · rw [if_neg g]; rfl

end Go.Proofs.YtmedbnjhgkcndaaDoor
namespace Go.Proofs.YtmedbnjhgkcndaaDoor
open Go.RowKit
set_option linter.unusedVariables false

theorem crow_ok {p : api_Piece} (hp : pok p = true) {k : Nat} (hk : k + 1 < p.Left.length) (hn : 1 ≤ nk p k) :
    allS (crow p k).Cells = 0 ∧ sm usedS (crow p k).Cells = wd p k ∧ sm madeS (crow p k).Cells = wd p (k + 1) ∧ (crow p k).Cells.length = (cel p k).length := by
  obtain ⟨c1, c2, c3, c4, c5⟩ := cel_ok hp hk hn
  unfold crow
  by_cases g : k % 2 = 0
  · have t := turned_ok c1
    simp only [g, if_true]
    exact ⟨t.1, t.2.1.trans c2, t.2.2.trans c3, by simp⟩
  · simp only [g, if_false]
    exact ⟨c1, c2, c3, trivial⟩
theorem bS_kind {d kd : Int} (hd : d ≠ 0) (hk : kd = 3 ∨ kd = 4) : (bS d kd).Purl = false ∧ (bS d kd).Kind ≠ 1 ∧ (bS d kd).Kind ≠ 2 ∧ (bS d kd).Kind ≠ 6 ∧ (bS d kd).Kind ≠ 7 := by
  unfold bS
  rcases bend_cases d with g | g | g | g | g
  · exact absurd g hd
  · rw [if_neg hd, if_pos g]; simp
  · rw [if_neg hd, if_neg (by omega), if_pos g.1]; simp
  · rw [if_neg hd, if_neg (by omega), if_neg (by omega), if_pos g.1]; rcases hk with rfl | rfl <;> simp
  · rw [if_neg hd, if_neg (by omega), if_neg (by omega), if_neg (by omega)]; simp
def plain (c : api_Stitch) : Prop := c.Purl = false ∧ c.Kind ≠ 2 ∧ c.Kind ≠ 6 ∧ c.Kind ≠ 7
theorem edge_plain {d kd : Int} (hk : kd = 3 ∨ kd = 4) : ∀ c, c ∈ edge d kd → plain c ∧ c.Kind ≠ 1 := by
  unfold edge
  by_cases h : d = 0
  · rw [if_pos h]; exact fun c hc => (by cases hc)
  · rw [if_neg h]
    intro c hc
    have hc : c = bS d kd := by simpa using hc
    have := bS_kind h hk
    rw [hc]
    exact ⟨⟨this.1, this.2.2.1, this.2.2.2.1, this.2.2.2.2⟩, this.2.1⟩
theorem cel_plain (p : api_Piece) (k : Nat) : ∀ c, c ∈ cel p k → plain c := by
  intro c hc
  unfold cel at hc
  rw [List.mem_append, List.mem_append] at hc
  rcases hc with (hc | hc) | hc
  · exact (edge_plain (.inl rfl) c hc).1
  · rw [List.eq_of_mem_replicate hc]; exact ⟨rfl, by decide, by decide, by decide⟩
  · exact (edge_plain (.inr rfl) c hc).1

end Go.Proofs.YtmedbnjhgkcndaaDoor
