/- Several texts in one: KeAlive G9 KvAlive PlA PlB G45 G21 G15 PlP G10 -/
import Derived.WalkKit
import Derived.Maps.AppendAt
import Derived.Deep.AppendLies
import Derived.KernelRfl
import Derived.Laws.OwnMore
import Derived.Great.BuildSlice
import Derived.Orders
import Derived.Laws.StructEq
import Derived.ChangeKeysEq
import Derived.Defers
import Derived.Laws.BytesString
import Derived.RangeFuncNested
import Derived.RangeFuncBound
import Derived.RangeFuncCalls
import Derived.RangeFuncLeaves
import Derived.OrdersIn
import Derived.LoopNIn
import Derived.Test.YtmedbnjhgkcndaaDoorProg
import Derived.ProofKit
import Derived.OpenShut
import Derived.ChangeOld
import Derived.Deep.Slices
import Derived.Lib.SmallJoins
import Derived.JoinedOf
import Derived.JoinedAt
import Derived.Below
import Derived.Shelf.Strings.Builder1
import Derived.Shelf.Strings.Builder2
import Derived.Shelf.Strings.OnBuilder
import Derived.Test.YtmedbnjhgkcndaaDoorRows
import Derived.LaidMore
import Derived.SevenTiedAt
import Derived.Test.YtmedbnjhgkcndaaDoorCards
import Derived.Test.YtmedbnjhgkcndaaDoorTie
import Derived.Test.YtmedbnjhgkcndaaDoorMPieceNear4
namespace Go.Proofs.YtmedbnjhgkcndaaDoor
open Go.RowKit
set_option linter.unusedVariables false

def K_raddlelaw37_given  : Option api_Shape :=
  some (api_Shape.mk [(api_Point.mk 0 0), (api_Point.mk 2 4)] [(api_Point.mk 10 0), (api_Point.mk 8 4)])
def K_piece_column (p0 : Int) : Option Bool :=
  Option.bind (α := Bool) (
    if decide ((-500) ≤ p0) then
      some (decide (p0 ≤ 500))
    else
      some false) fun o2 =>
  some o2
def K_piece_side_l1 (p0 : (List api_Point)) : Int → Option (Int ⊕ (Bool ⊕ Unit)) := fun s0 => match s0 with
  | s30 =>
    if decide (s30 < (p0.length : Int)) then
      Option.bind (idxO p0 s30) fun x39 =>
      Option.bind (α := Bool) (
        Option.bind (K_piece_column x39.X) fun r48 =>
        if !r48 then
          some true
        else
          if decide (0 < s30) then
            Option.bind (idxO p0 (w64 (s30 - 1))) fun x52 =>
            some (decide (x39.Y ≤ x52.Y))
          else
            some false) fun o45 =>
      if o45 then
        some (.inr (.inl false))
      else
        some (.inl (w64 (s30 + 1)))
    else
      some (.inr (.inr ()))
def K_piece_side (p0 : (List api_Point)) : Option Bool :=
  Option.bind (α := Bool) (
    if (p0.length : Int) == 0 then
      some true
    else
      if decide (50 < (p0.length : Int)) then
        some true
      else
        Option.bind (idxO p0 0) fun x10 =>
        if x10.Y != 0 then
          some true
        else
          Option.bind (idxO p0 (w64 ((p0.length : Int) - 1))) fun x18 =>
          some (decide (100 ≤ x18.Y))) fun o5 =>
  if o5 then
    some false
  else
    Option.bind (α := Unit ⊕ Bool) (
      Option.bind (whileK (K_piece_side_l1 p0) 0) fun z0 => match z0 with
        | .inl z =>
          some (.inr z)
        | .inr _ =>
          some (.inl ())) fun z0 => match z0 with
      | .inl _ =>
        some true
      | .inr z =>
        some z
def K_piece_shape (p0 : api_Shape) : Option Int :=
  Option.bind (α := Bool) (
    Option.bind (K_piece_side p0.Left) fun r15 =>
    if !r15 then
      some true
    else
      Option.bind (K_piece_side p0.Right) fun r18 =>
      if !r18 then
        some true
      else
        Option.bind (idxO p0.Left (w64 ((p0.Left.length : Int) - 1))) fun x21 =>
        Option.bind (idxO p0.Right (w64 ((p0.Right.length : Int) - 1))) fun x28 =>
        some (x21.Y != x28.Y)) fun o12 =>
  if o12 then
    some 8
  else
    some 0
def K_slope_within (p0 : Int) (p1 : Int) (p2 : Int) : Option Bool :=
  Option.bind (α := Bool) (
    if decide (p1 ≤ p0) then
      some (decide (p0 ≤ p2))
    else
      some false) fun o2 =>
  some o2
def K_slope_check (p0 : Int) (p1 : Int) (p2 : Int) : Option Int :=
  Option.bind (α := Bool) (
    Option.bind (K_slope_within p0 (-1000) 1000) fun r6 =>
    if !r6 then
      some true
    else
      Option.bind (K_slope_within p1 (-1000) 1000) fun r9 =>
      if !r9 then
        some true
      else
        Option.bind (K_slope_within p2 1 1000) fun r12 =>
        some (!r12)) fun o3 =>
  if o3 then
    some 2
  else
    some 0
def K_slope_at (p0 : Int) (p1 : Int) (p2 : Int) (p3 : Int) : Option Int :=
  Option.bind (quoI (w64 ((w64 (2 * (w64 ((w64 ((w64 (p0 + 1000)) * (w64 (p2 - p3)))) + (w64 ((w64 (p1 + 1000)) * p3)))))) + p2)) (w64 (2 * p2))) fun z4 =>
  some (w64 (z4 - 1000))
def K_slope_Line_1_s0 (p0 : Int) (p1 : Int) (p2 : Int) (p3 : Int) : Option Int :=
  Option.bind (K_slope_at p1 p2 p3 p0) fun r6 =>
  some r6
def K_slope_list_int__s0_l1 (p0 : Int) (p1 : Int) (p2 : Int) (p3 : Int) : (List Int × Int) → Option ((List Int × Int) ⊕ List Int) := fun s0 => match s0 with
  | (s13, s16) =>
    if decide (s16 < p0) then
      Option.bind (K_slope_Line_1_s0 s16 p1 p2 p3) fun r28 =>
      Option.bind (idxO s13 s16) fun x30 =>
      Option.bind (setO s13 s16 r28) fun l35 =>
      some (.inl (l35, w64 (s16 + 1)))
    else
      some (.inr s13)
def K_slope_list_int__s0 (p0 : Int) (p1 : Int) (p2 : Int) (p3 : Int) : Option (List Int) :=
  Option.bind (makeO p0 (0 : Int)) fun m5 =>
  Option.bind (α := List Int) (
    Option.bind (whileK (K_slope_list_int__s0_l1 p0 p1 p2 p3) (m5, 0)) fun e20 =>
      some e20) fun o7 =>
  some o7
def K_slope_Line (p0 : Int) (p1 : Int) (p2 : Int) : Option ((List Int) × Int) :=
  Option.bind (K_slope_check p0 p1 p2) fun r7 =>
  if r7 != 0 then
    some (([] : (List Int)), r7)
  else
    Option.bind (K_slope_list_int__s0 (w64 (p2 + 1)) p0 p1 p2) fun r13 =>
    some (r13, 0)
def K_piece_columns_l1 (y20 : List api_Point) (p0 : (List api_Point)) : (List Int × Int) → Option ((List Int × Int) ⊕ List Int) := fun s0 => match s0 with
  | (s24, s27) =>
    if decide (s27 < (y20.length : Int)) then
      Option.bind (idxO y20 s27) fun x39 =>
      Option.bind (idxO p0 s27) fun x46 =>
      Option.bind (K_slope_Line x46.X x39.X (w64 (x39.Y - x46.Y))) fun r58 =>
      Option.bind (sliceO r58.1 1 (r58.1.length : Int)) fun y76 =>
      Option.bind (appO s24 y76) fun l80 =>
      some (.inl (l80, w64 (s27 + 1)))
    else
      some (.inr s24)
def K_piece_columns (p0 : (List api_Point)) : Option (List Int) :=
  Option.bind (idxO p0 0) fun x5 =>
  Option.bind (α := List Int) (
    Option.bind (sliceO p0 1 (p0.length : Int)) fun y20 =>
    Option.bind (whileK (K_piece_columns_l1 y20 p0) (([x5.X] : List Int), 0)) fun e31 =>
      some e31) fun o14 =>
  some o14
def K_piece_Check_l1 (p0 : api_Piece) : Int → Option (Int ⊕ (Int ⊕ Unit)) := fun s0 => match s0 with
  | s22 =>
    if decide (s22 < (p0.Left.length : Int)) then
      Option.bind (idxO p0.Left s22) fun x31 =>
      Option.bind (idxO p0.Right s22) fun x37 =>
      Option.bind (α := Bool) (
        Option.bind (K_piece_column x31) fun r45 =>
        if !r45 then
          some true
        else
          Option.bind (K_piece_column x37) fun r48 =>
          if !r48 then
            some true
          else
            if decide (x37 ≤ x31) then
              some true
            else
              some (decide (200 < (w64 (x37 - x31))))) fun o42 =>
      if o42 then
        some (.inr (.inl 8))
      else
        some (.inl (w64 (s22 + 1)))
    else
      some (.inr (.inr ()))
def K_piece_Check (p0 : api_Piece) : Option Int :=
  Option.bind (α := Bool) (
    if (p0.Left.length : Int) != (p0.Right.length : Int) then
      some true
    else
      if (p0.Left.length : Int) == 0 then
        some true
      else
        some (decide (100 < (p0.Left.length : Int)))) fun o12 =>
  if o12 then
    some 8
  else
    Option.bind (α := Unit ⊕ Int) (
      Option.bind (whileK (K_piece_Check_l1 p0) 0) fun z0 => match z0 with
        | .inl z =>
          some (.inr z)
        | .inr _ =>
          some (.inl ())) fun z0 => match z0 with
      | .inl _ =>
        some 0
      | .inr z =>
        some z
def K_piece_Make (p0 : api_Shape) : Option (api_Piece × Int) :=
  Option.bind (K_piece_shape p0) fun r14 =>
  if r14 != 0 then
    some ((api_Piece.mk ([] : (List Int)) ([] : (List Int))), r14)
  else
    Option.bind (α := (List Int × List Int)) (
      Option.bind (K_piece_columns p0.Left) fun r28 =>
      Option.bind (K_piece_columns p0.Right) fun r33 =>
      some (r28, r33)) fun (o20, o23) =>
    Option.bind (K_piece_Check (api_Piece.mk o20 o23)) fun r59 =>
    if r59 != 0 then
      some ((api_Piece.mk ([] : (List Int)) ([] : (List Int))), 16)
    else
      some ((api_Piece.mk o20 o23), 0)
def K_raddlelaw37_made  : Option api_Piece :=
  some (api_Piece.mk ([0, 1, 1, 2, 2] : List Int) ([10, 10, 9, 9, 8] : List Int))
def K_piece_bend (p0 : Int) (p1 : Int) : Option piece_edge :=
  if p0 == 0 then
    some (piece_edge.mk (api_Stitch.mk 0 false 0 0) 0)
  else
    if decide (4 ≤ p0) then
      some (piece_edge.mk (api_Stitch.mk 9 false p0 0) 0)
    else
      if decide (0 < p0) then
        some (piece_edge.mk (api_Stitch.mk 5 false (w64 (p0 + 1)) 0) 1)
      else
        if decide ((-4) < p0) then
          some (piece_edge.mk (api_Stitch.mk p1 false (w64 (1 - p0)) 0) (w64 (1 - p0)))
        else
          some (piece_edge.mk (api_Stitch.mk 10 false (w64 (0 - p0)) 0) (w64 (0 - p0)))
def K_piece_Chart_l1 (x127 : Int) (x132 : Int) (o67 : Int) (o99 : Int) : (List api_Stitch × Int) → Option ((List api_Stitch × Int) ⊕ List api_Stitch) := fun s0 => match s0 with
  | (s167, s170) =>
    if decide (s170 < (w64 ((w64 ((w64 (x127 - x132)) - o67)) - o99))) then
      Option.bind (appO s167 [(api_Stitch.mk 1 false 0 0)]) fun l183 =>
      some (.inl (l183, w64 (s170 + 1)))
    else
      some (.inr s167)
def K_stitch_forms (p0 : Int) : Option (stitch_form × Bool) :=
  Option.bind (α := Bool) (
    if decide (p0 < 1) then
      some true
    else
      some (decide (([(stitch_form.mk (⟨#[]⟩ : ByteArray) (0, 0) (0, 0) true 1 1), (stitch_form.mk (⟨#[]⟩ : ByteArray) (0, 0) (0, 0) false 0 1), (stitch_form.mk (⟨#[102]⟩ : ByteArray) (2, 4) (0, 0) true 2 1), (stitch_form.mk (⟨#[108]⟩ : ByteArray) (2, 4) (0, 0) true 2 1), (stitch_form.mk (⟨#[109]⟩ : ByteArray) (2, 4) (0, 0) true 1 2), (stitch_form.mk (⟨#[120]⟩ : ByteArray) (1, 6) (1, 6) true 3 3), (stitch_form.mk (⟨#[121]⟩ : ByteArray) (1, 6) (1, 6) true 3 3), (stitch_form.mk (⟨#[115]⟩ : ByteArray) (0, 0) (0, 0) true 1 1), (stitch_form.mk (⟨#[]⟩ : ByteArray) (1, 200) (0, 0) false 0 2), (stitch_form.mk (⟨#[111]⟩ : ByteArray) (1, 200) (0, 0) true 2 0)].length : Int) < (IntKind.i64.wrap p0)))) fun o12 =>
  if o12 then
    some ((stitch_form.mk (⟨#[]⟩ : ByteArray) (0, 0) (0, 0) false 0 0), false)
  else
    Option.bind (idxO [(stitch_form.mk (⟨#[]⟩ : ByteArray) (0, 0) (0, 0) true 1 1), (stitch_form.mk (⟨#[]⟩ : ByteArray) (0, 0) (0, 0) false 0 1), (stitch_form.mk (⟨#[102]⟩ : ByteArray) (2, 4) (0, 0) true 2 1), (stitch_form.mk (⟨#[108]⟩ : ByteArray) (2, 4) (0, 0) true 2 1), (stitch_form.mk (⟨#[109]⟩ : ByteArray) (2, 4) (0, 0) true 1 2), (stitch_form.mk (⟨#[120]⟩ : ByteArray) (1, 6) (1, 6) true 3 3), (stitch_form.mk (⟨#[121]⟩ : ByteArray) (1, 6) (1, 6) true 3 3), (stitch_form.mk (⟨#[115]⟩ : ByteArray) (0, 0) (0, 0) true 1 1), (stitch_form.mk (⟨#[]⟩ : ByteArray) (1, 200) (0, 0) false 0 2), (stitch_form.mk (⟨#[111]⟩ : ByteArray) (1, 200) (0, 0) true 2 0)] (IntKind.u8.wrap (p0 - 1))) fun x19 =>
    some (x19, true)
def K_stitch_within (p0 : Int) (p1 : (Int × Int)) : Option Bool :=
  Option.bind (α := Bool) (
    if decide (p1.1 ≤ p0) then
      some (decide (p0 ≤ p1.2))
    else
      some false) fun o3 =>
  some o3
def K_stitch_Check (p0 : api_Stitch) : Option Int :=
  Option.bind (K_stitch_forms p0.Kind) fun r4 =>
  Option.bind (α := Bool) (
    if !r4.2 then
      some true
    else
      Option.bind (K_stitch_within p0.A r4.1.a) fun r13 =>
      if !r13 then
        some true
      else
        Option.bind (K_stitch_within p0.B r4.1.b) fun r16 =>
        if !r16 then
          some true
        else
          if p0.Purl then
            some (!r4.1.sided)
          else
            some false) fun o9 =>
  if o9 then
    some 8
  else
    some 0
def K_stitch_All_1 (p0 : api_Stitch) : Option Bool :=
  Option.bind (K_stitch_Check p0) fun r4 =>
  some (r4 != 0)
def K_slices_IndexFunc___api_Stitch_api_Stitch__s0_l1 (p0 : (List api_Stitch)) : Int → Option (Int ⊕ (Int ⊕ Unit)) := fun s0 => match s0 with
  | s7 =>
    if decide (s7 < (p0.length : Int)) then
      Option.bind (idxO p0 s7) fun x17 =>
      Option.bind (K_stitch_All_1 x17) fun r22 =>
      if r22 then
        some (.inr (.inl s7))
      else
        some (.inl (w64 (s7 + 1)))
    else
      some (.inr (.inr ()))
def K_slices_IndexFunc___api_Stitch_api_Stitch__s0 (p0 : (List api_Stitch)) : Option Int :=
  Option.bind (α := Unit ⊕ Int) (
    Option.bind (whileK (K_slices_IndexFunc___api_Stitch_api_Stitch__s0_l1 p0) 0) fun z0 => match z0 with
      | .inl z =>
        some (.inr z)
      | .inr _ =>
        some (.inl ())) fun z0 => match z0 with
    | .inl _ =>
      some (-1)
    | .inr z =>
      some z
def K_slices_ContainsFunc___api_Stitch_api_Stitch__s0 (p0 : (List api_Stitch)) : Option Bool :=
  Option.bind (K_slices_IndexFunc___api_Stitch_api_Stitch__s0 p0) fun r5 =>
  some (decide (0 ≤ r5))
def K_stitch_loops (p0 : api_Stitch) (p1 : Int) : Option Int :=
  Option.bind (idxO ([0, 1, p0.A, w64 (p0.A + p0.B)] : List Int) p1) fun x4 =>
  some x4
def K_stitch_sum_l1 (p0 : (List api_Stitch)) : (Int × Int × Int) → Option ((Int × Int × Int) ⊕ (Int × Int)) := fun s0 => match s0 with
  | (s9, s10, s11) =>
    if decide (s11 < (p0.length : Int)) then
      Option.bind (idxO p0 s11) fun x22 =>
      Option.bind (K_stitch_forms x22.Kind) fun r29 =>
      Option.bind (K_stitch_loops x22 r29.1.uses) fun r34 =>
      Option.bind (K_stitch_loops x22 r29.1.made) fun r36 =>
      some (.inl (w64 (s9 + r34), w64 (s10 + r36), w64 (s11 + 1)))
    else
      some (.inr (s9, s10))
def K_stitch_sum (p0 : (List api_Stitch)) : Option (Int × Int) :=
  Option.bind (α := (Int × Int)) (
    Option.bind (whileK (K_stitch_sum_l1 p0) (0, 0, 0)) fun (e15, e16) =>
      some (e15, e16)) fun (o4, o5) =>
  some (o4, o5)
def K_stitch_All (p0 : (List api_Stitch)) : Option Int :=
  if decide (200 < (p0.length : Int)) then
    some 4
  else
    Option.bind (K_slices_ContainsFunc___api_Stitch_api_Stitch__s0 p0) fun r10 =>
    if r10 then
      some 8
    else
      Option.bind (K_stitch_sum p0) fun r16 =>
      if decide (200 < (if r16.1 < r16.2 then r16.2 else r16.1)) then
        some 4
      else
        some 0
def K_slices_Backward___api_Stitch_api_Stitch_ (p0 : (List api_Stitch)) : Option (List api_Stitch) :=
  some p0
def K_slices_Backward___api_Stitch_api_Stitch__1_l1 {σ τ : Type} (p0 : (List api_Stitch)) (B : σ → (Int × api_Stitch) → Option (σ ⊕ τ)) : (Int × σ) → Option ((Int × σ) ⊕ ((σ ⊕ τ) ⊕ (σ))) := fun s0 => match s0 with
  | (s5, gz6) =>
    if decide (0 ≤ s5) then
      Option.bind (idxO p0 s5) fun x20 =>
      Option.bind (B gz6 (s5, x20)) fun y25 =>
      match y25 with
      | .inl gz27 =>
        some (.inl (w64 (s5 - 1), gz27))
      | .inr tz28 =>
        some (.inr (.inl (.inr tz28)))
    else
      some (.inr (.inr gz6))
def K_I_slices_Backward___api_Stitch_api_Stitch__1 (p0 : (List api_Stitch)) (σ τ : Type) (B : σ → (Int × api_Stitch) → Option (σ ⊕ τ)) (gz0 : σ) : Option (σ ⊕ τ) :=
  Option.bind (whileK (K_slices_Backward___api_Stitch_api_Stitch__1_l1 p0 B) (w64 ((p0.length : Int) - 1), gz0)) fun z0 => match z0 with
    | .inl z =>
      some z
    | .inr gz10 =>
      some (.inl gz10)
def K_stitch_Turn_l2  : List api_Stitch → (Int × api_Stitch) → Option (List api_Stitch ⊕ Empty) := fun s0 x0 => match s0, x0 with
  | s22, (x25, x27) =>
    Option.bind (K_stitch_forms x27.Kind) fun r31 =>
    Option.bind (α := Bool) (
      if r31.1.sided then
        some (!x27.Purl)
      else
        some false) fun o35 =>
    Option.bind (α := (Int × Int)) (
      if decide (0 < r31.1.b.2) then
        some (x27.B, x27.A)
      else
        some (x27.A, x27.B)) fun (o39, o40) =>
    Option.bind (appO s22 [(api_Stitch.mk x27.Kind o35 o39 o40)]) fun l47 =>
    some (.inl l47)
def K_stitch_Turn (p0 : (List api_Stitch)) : Option ((List api_Stitch) × Int) :=
  Option.bind (K_stitch_All p0) fun r6 =>
  if r6 != 0 then
    some (([] : (List api_Stitch)), r6)
  else
    Option.bind (capO (p0.length : Int)) fun z14 =>
    Option.bind (K_slices_Backward___api_Stitch_api_Stitch_ p0) fun r19 =>
    Option.bind (K_I_slices_Backward___api_Stitch_api_Stitch__1 r19 _ _ (K_stitch_Turn_l2) ([] : List api_Stitch)) fun z0 => match z0 with
      | .inl s22 =>
        some (s22, 0)
      | .inr z0 =>
        nomatch z0
def K_piece_Chart_l2 (p0 : api_Piece) : (Int × List api_Row) → Option ((Int × List api_Row) ⊕ ((api_Chart × Int) ⊕ (List api_Row))) := fun s0 => match s0 with
  | (s44, s45) =>
    if decide (s44 < (p0.Left.length : Int)) then
      Option.bind (α := List api_Row ⊕ (api_Chart × Int)) (
        Option.bind (α := (Int × Bool × Int × Int × Int)) (
          Option.bind (idxO p0.Right s44) fun x70 =>
          Option.bind (idxO p0.Right (w64 (s44 - 1))) fun x75 =>
          Option.bind (K_piece_bend (w64 (x70 - x75)) 3) fun r80 =>
          some (r80.s.Kind, r80.s.Purl, r80.s.A, r80.s.B, r80.uses)) fun (o63, o64, o65, o66, o67) =>
        Option.bind (α := (Int × Bool × Int × Int × Int)) (
          Option.bind (idxO p0.Left (w64 (s44 - 1))) fun x102 =>
          Option.bind (idxO p0.Left s44) fun x107 =>
          Option.bind (K_piece_bend (w64 (x102 - x107)) 4) fun r112 =>
          some (r112.s.Kind, r112.s.Purl, r112.s.A, r112.s.B, r112.uses)) fun (o95, o96, o97, o98, o99) =>
        Option.bind (idxO p0.Right (w64 (s44 - 1))) fun x127 =>
        Option.bind (idxO p0.Left (w64 (s44 - 1))) fun x132 =>
        if decide ((w64 ((w64 ((w64 (x127 - x132)) - o67)) - o99)) < 1) then
          some (.inr ((api_Chart.mk 0 ([] : (List api_Row))), 22))
        else
          Option.bind (α := List api_Stitch) (
            if o63 != 0 then
              Option.bind (appO ([] : List api_Stitch) [(api_Stitch.mk o63 o64 o65 o66)]) fun l157 =>
              some l157
            else
              some ([] : List api_Stitch)) fun o148 =>
          Option.bind (α := List api_Stitch) (
            Option.bind (whileK (K_piece_Chart_l1 x127 x132 o67 o99) (o148, 0)) fun e174 =>
              some e174) fun o161 =>
          Option.bind (α := List api_Stitch) (
            if o95 != 0 then
              Option.bind (appO o161 [(api_Stitch.mk o95 o96 o97 o98)]) fun l196 =>
              some l196
            else
              some o161) fun o187 =>
          Option.bind (remI s44 2) fun z201 =>
          Option.bind (α := List api_Stitch) (
            if z201 == 1 then
              Option.bind (K_stitch_Turn o187) fun r210 =>
              some r210.1
            else
              some o187) fun o203 =>
          Option.bind (appO s45 [(api_Row.mk (z201 == 1) o203)]) fun l217 =>
          some (.inl l217)) fun z0 => match z0 with
        | .inl o57 =>
          some (.inl (w64 (s44 + 1), o57))
        | .inr z =>
          some (.inr (.inl z))
    else
      some (.inr (.inr s45))
def K_piece_Chart (p0 : api_Piece) : Option (api_Chart × Int) :=
  Option.bind (K_piece_Check p0) fun r14 =>
  if r14 != 0 then
    some ((api_Chart.mk 0 ([] : (List api_Row))), r14)
  else
    Option.bind (idxO p0.Right 0) fun x20 =>
    Option.bind (idxO p0.Left 0) fun x25 =>
    Option.bind (α := List api_Row ⊕ (api_Chart × Int)) (
      Option.bind (whileK (K_piece_Chart_l2 p0) (1, ([] : List api_Row))) fun z0 => match z0 with
        | .inl z =>
          some (.inr z)
        | .inr e51 =>
          some (.inl e51)) fun z0 => match z0 with
      | .inl o38 =>
        some ((api_Chart.mk (w64 (x20 - x25)) o38), 0)
      | .inr z =>
        some z
def K_piece_grows (p0 : api_Stitch) : Option Int :=
  if p0.Kind == 5 then
    some (w64 (p0.A - 1))
  else
    if p0.Kind == 9 then
      some p0.A
    else
      Option.bind (α := Bool) (
        if p0.Kind == 3 then
          some (p0.Kind == 3)
        else
          some (p0.Kind == 4)) fun o11 =>
      if o11 then
        some (w64 (1 - p0.A))
      else
        if p0.Kind == 10 then
          some (w64 (0 - p0.A))
        else
          some 0
def K_piece_Read_l1 (p0 : api_Chart) : (Int × List Int × List Int) → Option ((Int × List Int × List Int) ⊕ ((api_Piece × Int) ⊕ (List Int × List Int))) := fun s0 => match s0 with
  | (s34, s35, s38) =>
    if decide (s34 < (p0.Rows.length : Int)) then
      Option.bind (idxO p0.Rows s34) fun x55 =>
      Option.bind (α := Bool) (
        if (x55.Cells.length : Int) == 0 then
          some true
        else
          Option.bind (K_stitch_All x55.Cells) fun r71 =>
          some (r71 != 0)) fun o67 =>
      if o67 then
        some (.inr (.inl ((api_Piece.mk ([] : (List Int)) ([] : (List Int))), 8)))
      else
        Option.bind (idxO x55.Cells 0) fun x76 =>
        Option.bind (K_piece_grows x76) fun r81 =>
        Option.bind (idxO x55.Cells (w64 ((x55.Cells.length : Int) - 1))) fun x83 =>
        Option.bind (K_piece_grows x83) fun r88 =>
        Option.bind (α := (Int × Int)) (
          if x55.Back then
            some (r88, r81)
          else
            some (r81, r88)) fun (o96, o97) =>
        Option.bind (idxO s35 s34) fun x103 =>
        Option.bind (appO s35 ([w64 (x103 - o97)] : List Int)) fun l110 =>
        Option.bind (idxO s38 s34) fun x121 =>
        Option.bind (appO s38 ([w64 (x121 + o96)] : List Int)) fun l128 =>
        some (.inl (w64 (s34 + 1), l110, l128))
    else
      some (.inr (.inr (s35, s38)))
def K_slices_Equal___api_Stitch_api_Stitch__l1 (p0 : (List api_Stitch)) (p1 : (List api_Stitch)) : Int → Option (Int ⊕ (Bool ⊕ Unit)) := fun s0 => match s0 with
  | s13 =>
    if decide (s13 < (p0.length : Int)) then
      Option.bind (idxO p0 s13) fun x23 =>
      Option.bind (idxO p1 s13) fun x28 =>
      if !((x23.Kind == x28.Kind) && ((x23.Purl == x28.Purl) && ((x23.A == x28.A) && ((x23.B == x28.B) && true)))) then
        some (.inr (.inl false))
      else
        some (.inl (w64 (s13 + 1)))
    else
      some (.inr (.inr ()))
def K_slices_Equal___api_Stitch_api_Stitch_ (p0 : (List api_Stitch)) (p1 : (List api_Stitch)) : Option Bool :=
  if (p0.length : Int) != (p1.length : Int) then
    some false
  else
    Option.bind (α := Unit ⊕ Bool) (
      Option.bind (whileK (K_slices_Equal___api_Stitch_api_Stitch__l1 p0 p1) 0) fun z0 => match z0 with
        | .inl z =>
          some (.inr z)
        | .inr _ =>
          some (.inl ())) fun z0 => match z0 with
      | .inl _ =>
        some true
      | .inr z =>
        some z
def K_stitch_Same (p0 : (List api_Stitch)) (p1 : (List api_Stitch)) : Option Bool :=
  Option.bind (K_slices_Equal___api_Stitch_api_Stitch_ p0 p1) fun r7 =>
  some r7
def K_piece_Read_l2 (p0 : api_Chart) (r140 : (api_Chart × Int)) : Int → Option (Int ⊕ ((api_Piece × Int) ⊕ Unit)) := fun s0 => match s0 with
  | s155 =>
    if decide (s155 < (p0.Rows.length : Int)) then
      Option.bind (idxO p0.Rows s155) fun x164 =>
      Option.bind (α := Bool) (
        Option.bind (idxO r140.1.Rows s155) fun x177 =>
        if x164.Back != x177.Back then
          some true
        else
          Option.bind (K_stitch_Same x164.Cells x177.Cells) fun r197 =>
          some (!r197)) fun o174 =>
      if o174 then
        some (.inr (.inl ((api_Piece.mk ([] : (List Int)) ([] : (List Int))), 8)))
      else
        some (.inl (w64 (s155 + 1)))
    else
      some (.inr (.inr ()))
def K_piece_Read (p0 : api_Chart) (p1 : Int) : Option (api_Piece × Int) :=
  Option.bind (α := Bool) (
    Option.bind (K_piece_column p1) fun r12 =>
    if !r12 then
      some true
    else
      if decide (p0.Start < 1) then
        some true
      else
        if decide (200 < p0.Start) then
          some true
        else
          some (decide (100 ≤ (p0.Rows.length : Int)))) fun o9 =>
  if o9 then
    some ((api_Piece.mk ([] : (List Int)) ([] : (List Int))), 8)
  else
    Option.bind (α := (List Int × List Int) ⊕ (api_Piece × Int)) (
      Option.bind (whileK (K_piece_Read_l1 p0) (0, ([p1] : List Int), ([w64 (p1 + p0.Start)] : List Int))) fun z0 => match z0 with
        | .inl z =>
          some (.inr z)
        | .inr (e44, e47) =>
          some (.inl (e44, e47))) fun z0 => match z0 with
      | .inl (o25, o28) =>
        Option.bind (K_piece_Chart (api_Piece.mk o25 o28)) fun r140 =>
        if r140.2 != 0 then
          some ((api_Piece.mk ([] : (List Int)) ([] : (List Int))), 8)
        else
          Option.bind (α := Unit ⊕ (api_Piece × Int)) (
            Option.bind (whileK (K_piece_Read_l2 p0 r140) 0) fun z0 => match z0 with
              | .inl z =>
                some (.inr z)
              | .inr _ =>
                some (.inl ())) fun z0 => match z0 with
            | .inl _ =>
              some ((api_Piece.mk o25 o28), 0)
            | .inr z =>
              some z
      | .inr z =>
        some z
def K_raddleref36_Same_l1 (p0 : (List Int)) (p1 : (List Int)) : Int → Option (Int ⊕ (Bool ⊕ Unit)) := fun s0 => match s0 with
  | s13 =>
    if decide (s13 < (p0.length : Int)) then
      Option.bind (idxO p0 s13) fun x22 =>
      Option.bind (idxO p1 s13) fun x27 =>
      if x22 != x27 then
        some (.inr (.inl false))
      else
        some (.inl (w64 (s13 + 1)))
    else
      some (.inr (.inr ()))
def K_raddleref36_Same (p0 : (List Int)) (p1 : (List Int)) : Option Bool :=
  if (p0.length : Int) != (p1.length : Int) then
    some false
  else
    Option.bind (α := Unit ⊕ Bool) (
      Option.bind (whileK (K_raddleref36_Same_l1 p0 p1) 0) fun z0 => match z0 with
        | .inl z =>
          some (.inr z)
        | .inr _ =>
          some (.inl ())) fun z0 => match z0 with
      | .inl _ =>
        some true
      | .inr z =>
        some z
def K_raddleref37_Same (p0 : api_Piece) (p1 : api_Piece) : Option Bool :=
  Option.bind (α := Bool) (
    Option.bind (K_raddleref36_Same p0.Left p1.Left) fun r23 =>
    if r23 then
      Option.bind (K_raddleref36_Same p0.Right p1.Right) fun r26 =>
      some r26
    else
      some false) fun o20 =>
  some o20
def K_stitch_text_l1 (p0 : (List api_Stitch)) (s14 : Int) : Int → Option (Int ⊕ Int) := fun s0 => match s0 with
  | s28 =>
    Option.bind (α := Bool) (
      Option.bind (idxO p0 s14) fun x37 =>
      if x37.Kind == 1 then
        if decide ((w64 (s14 + s28)) < (p0.length : Int)) then
          Option.bind (idxO p0 (w64 (s14 + s28))) fun x46 =>
          some ((x46.Kind == x37.Kind) && ((x46.Purl == x37.Purl) && ((x46.A == x37.A) && ((x46.B == x37.B) && true))))
        else
          some false
      else
        some false) fun o34 =>
    if o34 then
      some (.inl (w64 (s28 + 1)))
    else
      some (.inr s28)
def K_internal_strconv_small (p0 : Int) : Option ByteArray :=
  if decide (p0 < 10) then
    Option.bind (sliceS (⟨#[48, 49, 50, 51, 52, 53, 54, 55, 56, 57, 97, 98, 99, 100, 101, 102, 103, 104, 105, 106, 107, 108, 109, 110, 111, 112, 113, 114, 115, 116, 117, 118, 119, 120, 121, 122]⟩ : ByteArray) p0 (w64 (p0 + 1))) fun y6 =>
    some y6
  else
    Option.bind (sliceS (⟨#[48, 48, 48, 49, 48, 50, 48, 51, 48, 52, 48, 53, 48, 54, 48, 55, 48, 56, 48, 57, 49, 48, 49, 49, 49, 50, 49, 51, 49, 52, 49, 53, 49, 54, 49, 55, 49, 56, 49, 57, 50, 48, 50, 49, 50, 50, 50, 51, 50, 52, 50, 53, 50, 54, 50, 55, 50, 56, 50, 57, 51, 48, 51, 49, 51, 50, 51, 51, 51, 52, 51, 53, 51, 54, 51, 55, 51, 56, 51, 57, 52, 48, 52, 49, 52, 50, 52, 51, 52, 52, 52, 53, 52, 54, 52, 55, 52, 56, 52, 57, 53, 48, 53, 49, 53, 50, 53, 51, 53, 52, 53, 53, 53, 54, 53, 55, 53, 56, 53, 57, 54, 48, 54, 49, 54, 50, 54, 51, 54, 52, 54, 53, 54, 54, 54, 55, 54, 56, 54, 57, 55, 48, 55, 49, 55, 50, 55, 51, 55, 52, 55, 53, 55, 54, 55, 55, 55, 56, 55, 57, 56, 48, 56, 49, 56, 50, 56, 51, 56, 52, 56, 53, 56, 54, 56, 55, 56, 56, 56, 57, 57, 48, 57, 49, 57, 50, 57, 51, 57, 52, 57, 53, 57, 54, 57, 55, 57, 56, 57, 57]⟩ : ByteArray) (w64 (p0 * 2)) (w64 ((w64 (p0 * 2)) + 2))) fun y9 =>
    some y9
def K_math_bits_Len64 (p0 : Int) : Option Int :=
  Option.bind (α := (Int × Int)) (
    if decide (4294967296 ≤ p0) then
      Option.bind (shrI .u64 p0 32) fun z9 =>
      some (z9, 32)
    else
      some (p0, 0)) fun (o2, o3) =>
  Option.bind (α := (Int × Int)) (
    if decide (65536 ≤ o2) then
      Option.bind (shrI .u64 o2 16) fun z18 =>
      some (z18, w64 (o3 + 16))
    else
      some (o2, o3)) fun (o11, o12) =>
  Option.bind (α := (Int × Int)) (
    if decide (256 ≤ o11) then
      Option.bind (shrI .u64 o11 8) fun z27 =>
      some (z27, w64 (o12 + 8))
    else
      some (o11, o12)) fun (o20, o21) =>
  Option.bind (idxS (⟨#[0, 1, 2, 2, 3, 3, 3, 3, 4, 4, 4, 4, 4, 4, 4, 4, 5, 5, 5, 5, 5, 5, 5, 5, 5, 5, 5, 5, 5, 5, 5, 5, 6, 6, 6, 6, 6, 6, 6, 6, 6, 6, 6, 6, 6, 6, 6, 6, 6, 6, 6, 6, 6, 6, 6, 6, 6, 6, 6, 6, 6, 6, 6, 6, 7, 7, 7, 7, 7, 7, 7, 7, 7, 7, 7, 7, 7, 7, 7, 7, 7, 7, 7, 7, 7, 7, 7, 7, 7, 7, 7, 7, 7, 7, 7, 7, 7, 7, 7, 7, 7, 7, 7, 7, 7, 7, 7, 7, 7, 7, 7, 7, 7, 7, 7, 7, 7, 7, 7, 7, 7, 7, 7, 7, 7, 7, 7, 7, 8, 8, 8, 8, 8, 8, 8, 8, 8, 8, 8, 8, 8, 8, 8, 8, 8, 8, 8, 8, 8, 8, 8, 8, 8, 8, 8, 8, 8, 8, 8, 8, 8, 8, 8, 8, 8, 8, 8, 8, 8, 8, 8, 8, 8, 8, 8, 8, 8, 8, 8, 8, 8, 8, 8, 8, 8, 8, 8, 8, 8, 8, 8, 8, 8, 8, 8, 8, 8, 8, 8, 8, 8, 8, 8, 8, 8, 8, 8, 8, 8, 8, 8, 8, 8, 8, 8, 8, 8, 8, 8, 8, 8, 8, 8, 8, 8, 8, 8, 8, 8, 8, 8, 8, 8, 8, 8, 8, 8, 8, 8, 8, 8, 8, 8, 8, 8, 8, 8, 8, 8, 8, 8, 8, 8, 8, 8, 8]⟩ : ByteArray) (IntKind.u8.wrap o20)) fun x30 =>
  some (w64 (o21 + (IntKind.i64.wrap x30)))
def K_internal_strconv_log10Pow2 (p0 : Int) : Option Int :=
  Option.bind (shrI .i64 (w64 (p0 * 78913)) 18) fun z3 =>
  some z3
def K_internal_strconv_numDigits (p0 : Int) : Option Int :=
  Option.bind (K_math_bits_Len64 p0) fun r3 =>
  Option.bind (K_internal_strconv_log10Pow2 r3) fun r5 =>
  none
def K_internal_strconv_FormatInt (p0 : Int) (p1 : Int) : Option ByteArray :=
  if p1 == 10 then
    Option.bind (α := Bool) (
      if decide (0 ≤ p0) then
        some (decide (p0 < 100))
      else
        some false) fun o6 =>
    if o6 then
      Option.bind (K_internal_strconv_small p0) fun r12 =>
      some r12
    else
      Option.bind (α := Int) (
        if decide (p0 < 0) then
          some (IntKind.u64.wrap (0 - (IntKind.u64.wrap p0)))
        else
          some (IntKind.u64.wrap p0)) fun o17 =>
      Option.bind (K_internal_strconv_numDigits o17) fun r23 =>
      none
  else
    none
def K_internal_strconv_Itoa (p0 : Int) : Option ByteArray :=
  Option.bind (K_internal_strconv_FormatInt p0 10) fun r3 =>
  some r3
def K_strconv_Itoa (p0 : Int) : Option ByteArray :=
  Option.bind (K_internal_strconv_Itoa p0) fun r3 =>
  some r3
def K_stitch_word (p0 : api_Stitch) : Option ByteArray :=
  if p0.Kind == 2 then
    some (⟨#[121, 111]⟩ : ByteArray)
  else
    if p0.Kind == 9 then
      Option.bind (K_strconv_Itoa p0.A) fun r11 =>
      Option.bind (addS (⟨#[111, 110]⟩ : ByteArray) r11) fun z13 =>
      some z13
    else
      Option.bind (K_stitch_forms p0.Kind) fun r16 =>
      Option.bind (α := ByteArray) (
        if p0.Purl then
          some (⟨#[112]⟩ : ByteArray)
        else
          some (⟨#[107]⟩ : ByteArray)) fun o21 =>
      Option.bind (addS o21 r16.1.letter) fun z27 =>
      Option.bind (α := ByteArray) (
        if decide (0 < r16.1.a.2) then
          Option.bind (K_strconv_Itoa p0.A) fun r34 =>
          Option.bind (addS z27 r34) fun z36 =>
          some z36
        else
          some z27) fun o29 =>
      Option.bind (α := ByteArray) (
        if decide (0 < r16.1.b.2) then
          Option.bind (K_strconv_Itoa p0.B) fun r43 =>
          Option.bind (addS (⟨#[47]⟩ : ByteArray) r43) fun z45 =>
          Option.bind (addS o29 z45) fun z47 =>
          some z47
        else
          some o29) fun o38 =>
      some o38
def K_stitch_text_l2 (p0 : (List api_Stitch)) : (List ByteArray × Int) → Option ((List ByteArray × Int) ⊕ List ByteArray) := fun s0 => match s0 with
  | (s11, s14) =>
    if decide (s14 < (p0.length : Int)) then
      Option.bind (α := Int) (
        Option.bind (whileK (K_stitch_text_l1 p0 s14) 1) fun e32 =>
          some e32) fun o25 =>
      Option.bind (idxO p0 s14) fun x77 =>
      Option.bind (K_stitch_word x77) fun r82 =>
      Option.bind (α := ByteArray) (
        if decide (1 < o25) then
          Option.bind (K_strconv_Itoa o25) fun r89 =>
          Option.bind (addS r82 r89) fun z91 =>
          some z91
        else
          some r82) fun o84 =>
      Option.bind (appO s11 [o84]) fun l96 =>
      some (.inl (l96, w64 (s14 + o25)))
    else
      some (.inr s11)
def K_strings_Join (p0 : List ByteArray) (p1 : ByteArray) : Option ByteArray :=
  if decide (p0.length ≤ 140737488355328 ∧ (Lib.join (p0.map (·.data.toList)) p1.data.toList).length ≤ 140737488355328) then
    some ⟨(Lib.join (p0.map (·.data.toList)) p1.data.toList).toArray⟩
  else
    none
def K_stitch_text (p0 : (List api_Stitch)) : Option ByteArray :=
  Option.bind (α := List ByteArray) (
    Option.bind (whileK (K_stitch_text_l2 p0) (([] : List ByteArray), 0)) fun e18 =>
      some e18) fun o5 =>
  Option.bind (K_strings_Join o5 (⟨#[32]⟩ : ByteArray)) fun r101 =>
  some r101
def K_stitch_Text (p0 : (List api_Stitch)) : Option (ByteArray × Int) :=
  Option.bind (K_stitch_All p0) fun r6 =>
  if r6 != 0 then
    some ((⟨#[]⟩ : ByteArray), r6)
  else
    Option.bind (K_stitch_text p0) fun r12 =>
    if decide (3000 < (r12.size : Int)) then
      some ((⟨#[]⟩ : ByteArray), 4)
    else
      some (r12, 0)
theorem m_F_raddlelaw37_given  : Le (K_raddlelaw37_given) (F_raddlelaw37_given) := by
  unfold K_raddlelaw37_given F_raddlelaw37_given
  with_reducible repeat' (first | exact Le.rfl _ | refine Le.loop _ ?_ | refine Le.bind ?_ ?_ | refine Le.ite ?_ ?_ | refine Le.sum ?_ ?_ | refine Le.prod ?_ | intro _ | exact Empty.elim (by assumption) | dsimp only)
theorem m_F_piece_column (p0 : Int) : Le (K_piece_column p0) (F_piece_column p0) := by
  unfold K_piece_column F_piece_column
  with_reducible repeat' (first | exact Le.rfl _ | refine Le.loop _ ?_ | refine Le.bind ?_ ?_ | refine Le.ite ?_ ?_ | refine Le.sum ?_ ?_ | refine Le.prod ?_ | intro _ | exact Empty.elim (by assumption) | dsimp only)
theorem m_piece_side_l1 (p0 : (List api_Point)) : ∀ s, Le (K_piece_side_l1 p0 s) (piece_side_l1 p0 s) := by
  unfold K_piece_side_l1 piece_side_l1
  with_reducible repeat' (first | exact m_F_piece_column _ | exact Le.rfl _ | refine Le.loop _ ?_ | refine Le.bind ?_ ?_ | refine Le.ite ?_ ?_ | refine Le.sum ?_ ?_ | refine Le.prod ?_ | intro _ | exact Empty.elim (by assumption) | dsimp only)
theorem m_F_piece_side (p0 : (List api_Point)) : Le (K_piece_side p0) (F_piece_side p0) := by
  unfold K_piece_side F_piece_side
  with_reducible repeat' (first | exact m_piece_side_l1 _ | exact Le.rfl _ | refine Le.loop _ ?_ | refine Le.bind ?_ ?_ | refine Le.ite ?_ ?_ | refine Le.sum ?_ ?_ | refine Le.prod ?_ | intro _ | exact Empty.elim (by assumption) | dsimp only)
theorem m_F_piece_shape (p0 : api_Shape) : Le (K_piece_shape p0) (F_piece_shape p0) := by
  unfold K_piece_shape F_piece_shape
  with_reducible repeat' (first | exact m_F_piece_side _ | exact Le.rfl _ | refine Le.loop _ ?_ | refine Le.bind ?_ ?_ | refine Le.ite ?_ ?_ | refine Le.sum ?_ ?_ | refine Le.prod ?_ | intro _ | exact Empty.elim (by assumption) | dsimp only)
theorem m_F_slope_within (p0 : Int) (p1 : Int) (p2 : Int) : Le (K_slope_within p0 p1 p2) (F_slope_within p0 p1 p2) := by
  unfold K_slope_within F_slope_within
  with_reducible repeat' (first | exact Le.rfl _ | refine Le.loop _ ?_ | refine Le.bind ?_ ?_ | refine Le.ite ?_ ?_ | refine Le.sum ?_ ?_ | refine Le.prod ?_ | intro _ | exact Empty.elim (by assumption) | dsimp only)
theorem m_F_slope_check (p0 : Int) (p1 : Int) (p2 : Int) : Le (K_slope_check p0 p1 p2) (F_slope_check p0 p1 p2) := by
  unfold K_slope_check F_slope_check
  with_reducible repeat' (first | exact m_F_slope_within _ _ _ | exact Le.rfl _ | refine Le.loop _ ?_ | refine Le.bind ?_ ?_ | refine Le.ite ?_ ?_ | refine Le.sum ?_ ?_ | refine Le.prod ?_ | intro _ | exact Empty.elim (by assumption) | dsimp only)
theorem m_F_slope_at (p0 : Int) (p1 : Int) (p2 : Int) (p3 : Int) : Le (K_slope_at p0 p1 p2 p3) (F_slope_at p0 p1 p2 p3) := by
  unfold K_slope_at F_slope_at
  with_reducible repeat' (first | exact Le.rfl _ | refine Le.loop _ ?_ | refine Le.bind ?_ ?_ | refine Le.ite ?_ ?_ | refine Le.sum ?_ ?_ | refine Le.prod ?_ | intro _ | exact Empty.elim (by assumption) | dsimp only)
theorem m_F_slope_Line_1_s0 (p0 : Int) (p1 : Int) (p2 : Int) (p3 : Int) : Le (K_slope_Line_1_s0 p0 p1 p2 p3) (F_slope_Line_1_s0 p0 p1 p2 p3) := by
  unfold K_slope_Line_1_s0 F_slope_Line_1_s0
  with_reducible repeat' (first | exact m_F_slope_at _ _ _ _ | exact Le.rfl _ | refine Le.loop _ ?_ | refine Le.bind ?_ ?_ | refine Le.ite ?_ ?_ | refine Le.sum ?_ ?_ | refine Le.prod ?_ | intro _ | exact Empty.elim (by assumption) | dsimp only)
theorem m_slope_list_int__s0_l1 (p0 : Int) (p1 : Int) (p2 : Int) (p3 : Int) : ∀ s, Le (K_slope_list_int__s0_l1 p0 p1 p2 p3 s) (slope_list_int__s0_l1 p0 p1 p2 p3 s) := by
  unfold K_slope_list_int__s0_l1 slope_list_int__s0_l1
  with_reducible repeat' (first | exact m_F_slope_Line_1_s0 _ _ _ _ | exact Le.rfl _ | refine Le.loop _ ?_ | refine Le.bind ?_ ?_ | refine Le.ite ?_ ?_ | refine Le.sum ?_ ?_ | refine Le.prod ?_ | intro _ | exact Empty.elim (by assumption) | dsimp only)
theorem m_F_slope_list_int__s0 (p0 : Int) (p1 : Int) (p2 : Int) (p3 : Int) : Le (K_slope_list_int__s0 p0 p1 p2 p3) (F_slope_list_int__s0 p0 p1 p2 p3) := by
  unfold K_slope_list_int__s0 F_slope_list_int__s0
  with_reducible repeat' (first | exact m_slope_list_int__s0_l1 _ _ _ _ | exact Le.rfl _ | refine Le.loop _ ?_ | refine Le.bind ?_ ?_ | refine Le.ite ?_ ?_ | refine Le.sum ?_ ?_ | refine Le.prod ?_ | intro _ | exact Empty.elim (by assumption) | dsimp only)
theorem m_F_slope_Line (p0 : Int) (p1 : Int) (p2 : Int) : Le (K_slope_Line p0 p1 p2) (F_slope_Line p0 p1 p2) := by
  unfold K_slope_Line F_slope_Line
  with_reducible repeat' (first | exact m_F_slope_check _ _ _ | exact m_F_slope_list_int__s0 _ _ _ _ | exact Le.rfl _ | refine Le.loop _ ?_ | refine Le.bind ?_ ?_ | refine Le.ite ?_ ?_ | refine Le.sum ?_ ?_ | refine Le.prod ?_ | intro _ | exact Empty.elim (by assumption) | dsimp only)
theorem m_piece_columns_l1 (y20 : List api_Point) (p0 : (List api_Point)) : ∀ s, Le (K_piece_columns_l1 y20 p0 s) (piece_columns_l1 y20 p0 s) := by
  unfold K_piece_columns_l1 piece_columns_l1
  with_reducible repeat' (first | exact m_F_slope_Line _ _ _ | exact Le.rfl _ | refine Le.loop _ ?_ | refine Le.bind ?_ ?_ | refine Le.ite ?_ ?_ | refine Le.sum ?_ ?_ | refine Le.prod ?_ | intro _ | exact Empty.elim (by assumption) | dsimp only)
theorem m_F_piece_columns (p0 : (List api_Point)) : Le (K_piece_columns p0) (F_piece_columns p0) := by
  unfold K_piece_columns F_piece_columns
  with_reducible repeat' (first | exact m_piece_columns_l1 _ _ | exact Le.rfl _ | refine Le.loop _ ?_ | refine Le.bind ?_ ?_ | refine Le.ite ?_ ?_ | refine Le.sum ?_ ?_ | refine Le.prod ?_ | intro _ | exact Empty.elim (by assumption) | dsimp only)
theorem m_piece_Check_l1 (p0 : api_Piece) : ∀ s, Le (K_piece_Check_l1 p0 s) (piece_Check_l1 p0 s) := by
  unfold K_piece_Check_l1 piece_Check_l1
  with_reducible repeat' (first | exact m_F_piece_column _ | exact Le.rfl _ | refine Le.loop _ ?_ | refine Le.bind ?_ ?_ | refine Le.ite ?_ ?_ | refine Le.sum ?_ ?_ | refine Le.prod ?_ | intro _ | exact Empty.elim (by assumption) | dsimp only)
theorem m_F_piece_Check (p0 : api_Piece) : Le (K_piece_Check p0) (F_piece_Check p0) := by
  unfold K_piece_Check F_piece_Check
  with_reducible repeat' (first | exact m_piece_Check_l1 _ | exact Le.rfl _ | refine Le.loop _ ?_ | refine Le.bind ?_ ?_ | refine Le.ite ?_ ?_ | refine Le.sum ?_ ?_ | refine Le.prod ?_ | intro _ | exact Empty.elim (by assumption) | dsimp only)
theorem m_F_piece_Make (p0 : api_Shape) : Le (K_piece_Make p0) (F_piece_Make p0) := by
  unfold K_piece_Make F_piece_Make
  with_reducible repeat' (first | exact m_F_piece_shape _ | exact m_F_piece_columns _ | exact m_F_piece_Check _ | exact Le.rfl _ | refine Le.loop _ ?_ | refine Le.bind ?_ ?_ | refine Le.ite ?_ ?_ | refine Le.sum ?_ ?_ | refine Le.prod ?_ | intro _ | exact Empty.elim (by assumption) | dsimp only)
theorem m_F_raddlelaw37_made  : Le (K_raddlelaw37_made) (F_raddlelaw37_made) := by
  unfold K_raddlelaw37_made F_raddlelaw37_made
  with_reducible repeat' (first | exact Le.rfl _ | refine Le.loop _ ?_ | refine Le.bind ?_ ?_ | refine Le.ite ?_ ?_ | refine Le.sum ?_ ?_ | refine Le.prod ?_ | intro _ | exact Empty.elim (by assumption) | dsimp only)
theorem m_F_piece_bend (p0 : Int) (p1 : Int) : Le (K_piece_bend p0 p1) (F_piece_bend p0 p1) := by
  unfold K_piece_bend F_piece_bend
  with_reducible repeat' (first | exact Le.rfl _ | refine Le.loop _ ?_ | refine Le.bind ?_ ?_ | refine Le.ite ?_ ?_ | refine Le.sum ?_ ?_ | refine Le.prod ?_ | intro _ | exact Empty.elim (by assumption) | dsimp only)
theorem m_piece_Chart_l1 (x127 : Int) (x132 : Int) (o67 : Int) (o99 : Int) : ∀ s, Le (K_piece_Chart_l1 x127 x132 o67 o99 s) (piece_Chart_l1 x127 x132 o67 o99 s) := by
  unfold K_piece_Chart_l1 piece_Chart_l1
  with_reducible repeat' (first | exact Le.rfl _ | refine Le.loop _ ?_ | refine Le.bind ?_ ?_ | refine Le.ite ?_ ?_ | refine Le.sum ?_ ?_ | refine Le.prod ?_ | intro _ | exact Empty.elim (by assumption) | dsimp only)
theorem m_F_stitch_forms (p0 : Int) : Le (K_stitch_forms p0) (F_stitch_forms p0) := by
  unfold K_stitch_forms F_stitch_forms
  with_reducible repeat' (first | exact Le.rfl _ | refine Le.loop _ ?_ | refine Le.bind ?_ ?_ | refine Le.ite ?_ ?_ | refine Le.sum ?_ ?_ | refine Le.prod ?_ | intro _ | exact Empty.elim (by assumption) | dsimp only)
theorem m_F_stitch_within (p0 : Int) (p1 : (Int × Int)) : Le (K_stitch_within p0 p1) (F_stitch_within p0 p1) := by
  unfold K_stitch_within F_stitch_within
  with_reducible repeat' (first | exact Le.rfl _ | refine Le.loop _ ?_ | refine Le.bind ?_ ?_ | refine Le.ite ?_ ?_ | refine Le.sum ?_ ?_ | refine Le.prod ?_ | intro _ | exact Empty.elim (by assumption) | dsimp only)
theorem m_F_stitch_Check (p0 : api_Stitch) : Le (K_stitch_Check p0) (F_stitch_Check p0) := by
  unfold K_stitch_Check F_stitch_Check
  with_reducible repeat' (first | exact m_F_stitch_forms _ | exact m_F_stitch_within _ _ | exact Le.rfl _ | refine Le.loop _ ?_ | refine Le.bind ?_ ?_ | refine Le.ite ?_ ?_ | refine Le.sum ?_ ?_ | refine Le.prod ?_ | intro _ | exact Empty.elim (by assumption) | dsimp only)
theorem m_F_stitch_All_1 (p0 : api_Stitch) : Le (K_stitch_All_1 p0) (F_stitch_All_1 p0) := by
  unfold K_stitch_All_1 F_stitch_All_1
  with_reducible repeat' (first | exact m_F_stitch_Check _ | exact Le.rfl _ | refine Le.loop _ ?_ | refine Le.bind ?_ ?_ | refine Le.ite ?_ ?_ | refine Le.sum ?_ ?_ | refine Le.prod ?_ | intro _ | exact Empty.elim (by assumption) | dsimp only)
theorem m_slices_IndexFunc___api_Stitch_api_Stitch__s0_l1 (p0 : (List api_Stitch)) : ∀ s, Le (K_slices_IndexFunc___api_Stitch_api_Stitch__s0_l1 p0 s) (slices_IndexFunc___api_Stitch_api_Stitch__s0_l1 p0 s) := by
  unfold K_slices_IndexFunc___api_Stitch_api_Stitch__s0_l1 slices_IndexFunc___api_Stitch_api_Stitch__s0_l1
  with_reducible repeat' (first | exact m_F_stitch_All_1 _ | exact Le.rfl _ | refine Le.loop _ ?_ | refine Le.bind ?_ ?_ | refine Le.ite ?_ ?_ | refine Le.sum ?_ ?_ | refine Le.prod ?_ | intro _ | exact Empty.elim (by assumption) | dsimp only)
theorem m_F_slices_IndexFunc___api_Stitch_api_Stitch__s0 (p0 : (List api_Stitch)) : Le (K_slices_IndexFunc___api_Stitch_api_Stitch__s0 p0) (F_slices_IndexFunc___api_Stitch_api_Stitch__s0 p0) := by
  unfold K_slices_IndexFunc___api_Stitch_api_Stitch__s0 F_slices_IndexFunc___api_Stitch_api_Stitch__s0
  with_reducible repeat' (first | exact m_slices_IndexFunc___api_Stitch_api_Stitch__s0_l1 _ | exact Le.rfl _ | refine Le.loop _ ?_ | refine Le.bind ?_ ?_ | refine Le.ite ?_ ?_ | refine Le.sum ?_ ?_ | refine Le.prod ?_ | intro _ | exact Empty.elim (by assumption) | dsimp only)
theorem m_F_slices_ContainsFunc___api_Stitch_api_Stitch__s0 (p0 : (List api_Stitch)) : Le (K_slices_ContainsFunc___api_Stitch_api_Stitch__s0 p0) (F_slices_ContainsFunc___api_Stitch_api_Stitch__s0 p0) := by
  unfold K_slices_ContainsFunc___api_Stitch_api_Stitch__s0 F_slices_ContainsFunc___api_Stitch_api_Stitch__s0
  with_reducible repeat' (first | exact m_F_slices_IndexFunc___api_Stitch_api_Stitch__s0 _ | exact Le.rfl _ | refine Le.loop _ ?_ | refine Le.bind ?_ ?_ | refine Le.ite ?_ ?_ | refine Le.sum ?_ ?_ | refine Le.prod ?_ | intro _ | exact Empty.elim (by assumption) | dsimp only)
theorem m_F_stitch_loops (p0 : api_Stitch) (p1 : Int) : Le (K_stitch_loops p0 p1) (F_stitch_loops p0 p1) := by
  unfold K_stitch_loops F_stitch_loops
  with_reducible repeat' (first | exact Le.rfl _ | refine Le.loop _ ?_ | refine Le.bind ?_ ?_ | refine Le.ite ?_ ?_ | refine Le.sum ?_ ?_ | refine Le.prod ?_ | intro _ | exact Empty.elim (by assumption) | dsimp only)
theorem m_stitch_sum_l1 (p0 : (List api_Stitch)) : ∀ s, Le (K_stitch_sum_l1 p0 s) (stitch_sum_l1 p0 s) := by
  unfold K_stitch_sum_l1 stitch_sum_l1
  with_reducible repeat' (first | exact m_F_stitch_forms _ | exact m_F_stitch_loops _ _ | exact Le.rfl _ | refine Le.loop _ ?_ | refine Le.bind ?_ ?_ | refine Le.ite ?_ ?_ | refine Le.sum ?_ ?_ | refine Le.prod ?_ | intro _ | exact Empty.elim (by assumption) | dsimp only)
theorem m_F_stitch_sum (p0 : (List api_Stitch)) : Le (K_stitch_sum p0) (F_stitch_sum p0) := by
  unfold K_stitch_sum F_stitch_sum
  with_reducible repeat' (first | exact m_stitch_sum_l1 _ | exact Le.rfl _ | refine Le.loop _ ?_ | refine Le.bind ?_ ?_ | refine Le.ite ?_ ?_ | refine Le.sum ?_ ?_ | refine Le.prod ?_ | intro _ | exact Empty.elim (by assumption) | dsimp only)
theorem m_F_stitch_All (p0 : (List api_Stitch)) : Le (K_stitch_All p0) (F_stitch_All p0) := by
  unfold K_stitch_All F_stitch_All
  with_reducible repeat' (first | exact m_F_slices_ContainsFunc___api_Stitch_api_Stitch__s0 _ | exact m_F_stitch_sum _ | exact Le.rfl _ | refine Le.loop _ ?_ | refine Le.bind ?_ ?_ | refine Le.ite ?_ ?_ | refine Le.sum ?_ ?_ | refine Le.prod ?_ | intro _ | exact Empty.elim (by assumption) | dsimp only)
theorem m_F_slices_Backward___api_Stitch_api_Stitch_ (p0 : (List api_Stitch)) : Le (K_slices_Backward___api_Stitch_api_Stitch_ p0) (F_slices_Backward___api_Stitch_api_Stitch_ p0) := by
  unfold K_slices_Backward___api_Stitch_api_Stitch_ F_slices_Backward___api_Stitch_api_Stitch_
  with_reducible repeat' (first | exact Le.rfl _ | refine Le.loop _ ?_ | refine Le.bind ?_ ?_ | refine Le.ite ?_ ?_ | refine Le.sum ?_ ?_ | refine Le.prod ?_ | intro _ | exact Empty.elim (by assumption) | dsimp only)
theorem m_slices_Backward___api_Stitch_api_Stitch__1_l1 {σ τ : Type} (p0 : (List api_Stitch)) (B B' : σ → (Int × api_Stitch) → Option (σ ⊕ τ)) (hB : ∀ s x, Le (B s x) (B' s x)) : ∀ s, Le (K_slices_Backward___api_Stitch_api_Stitch__1_l1 p0 B s) (slices_Backward___api_Stitch_api_Stitch__1_l1 p0 B' s) := by
  unfold K_slices_Backward___api_Stitch_api_Stitch__1_l1 slices_Backward___api_Stitch_api_Stitch__1_l1
  with_reducible repeat' (first | exact hB _ _ | exact Le.rfl _ | refine Le.loop _ ?_ | refine Le.bind ?_ ?_ | refine Le.ite ?_ ?_ | refine Le.sum ?_ ?_ | refine Le.prod ?_ | intro _ | exact Empty.elim (by assumption) | dsimp only)
theorem m_I_slices_Backward___api_Stitch_api_Stitch__1 (p0 : (List api_Stitch)) (σ τ : Type) (B B' : σ → (Int × api_Stitch) → Option (σ ⊕ τ)) (hB : ∀ s x, Le (B s x) (B' s x)) (gz0 : σ) : Le (K_I_slices_Backward___api_Stitch_api_Stitch__1 p0 σ τ B gz0) (I_slices_Backward___api_Stitch_api_Stitch__1 p0 σ τ B' gz0) := by
  unfold K_I_slices_Backward___api_Stitch_api_Stitch__1 I_slices_Backward___api_Stitch_api_Stitch__1
  with_reducible repeat' (first | exact hB _ _ | exact m_slices_Backward___api_Stitch_api_Stitch__1_l1 _ _ _ hB | exact Le.rfl _ | refine Le.loop _ ?_ | refine Le.bind ?_ ?_ | refine Le.ite ?_ ?_ | refine Le.sum ?_ ?_ | refine Le.prod ?_ | intro _ | exact Empty.elim (by assumption) | dsimp only)
theorem m_stitch_Turn_l2  : ∀ s x, Le (K_stitch_Turn_l2 s x) (stitch_Turn_l2 s x) := by
  unfold K_stitch_Turn_l2 stitch_Turn_l2
  with_reducible repeat' (first | exact m_F_stitch_forms _ | exact Le.rfl _ | refine Le.loop _ ?_ | refine Le.bind ?_ ?_ | refine Le.ite ?_ ?_ | refine Le.sum ?_ ?_ | refine Le.prod ?_ | intro _ | exact Empty.elim (by assumption) | dsimp only)
theorem m_F_stitch_Turn (p0 : (List api_Stitch)) : Le (K_stitch_Turn p0) (F_stitch_Turn p0) := by
  unfold K_stitch_Turn F_stitch_Turn
  with_reducible repeat' (first | exact m_F_stitch_All _ | exact m_F_slices_Backward___api_Stitch_api_Stitch_ _ | refine m_I_slices_Backward___api_Stitch_api_Stitch__1 _ _ _ _ _ ?_ _ | exact m_stitch_Turn_l2 | exact Le.rfl _ | refine Le.loop _ ?_ | refine Le.bind ?_ ?_ | refine Le.ite ?_ ?_ | refine Le.sum ?_ ?_ | refine Le.prod ?_ | intro _ | exact Empty.elim (by assumption) | dsimp only)
theorem m_piece_Chart_l2 (p0 : api_Piece) : ∀ s, Le (K_piece_Chart_l2 p0 s) (piece_Chart_l2 p0 s) := by
  unfold K_piece_Chart_l2 piece_Chart_l2
  with_reducible repeat' (first | exact m_F_piece_bend _ _ | exact m_piece_Chart_l1 _ _ _ _ | exact m_F_stitch_Turn _ | exact Le.rfl _ | refine Le.loop _ ?_ | refine Le.bind ?_ ?_ | refine Le.ite ?_ ?_ | refine Le.sum ?_ ?_ | refine Le.prod ?_ | intro _ | exact Empty.elim (by assumption) | dsimp only)
theorem m_F_piece_Chart (p0 : api_Piece) : Le (K_piece_Chart p0) (F_piece_Chart p0) := by
  unfold K_piece_Chart F_piece_Chart
  with_reducible repeat' (first | exact m_F_piece_Check _ | exact m_piece_Chart_l2 _ | exact Le.rfl _ | refine Le.loop _ ?_ | refine Le.bind ?_ ?_ | refine Le.ite ?_ ?_ | refine Le.sum ?_ ?_ | refine Le.prod ?_ | intro _ | exact Empty.elim (by assumption) | dsimp only)
theorem m_F_piece_grows (p0 : api_Stitch) : Le (K_piece_grows p0) (F_piece_grows p0) := by
  unfold K_piece_grows F_piece_grows
  with_reducible repeat' (first | exact Le.rfl _ | refine Le.loop _ ?_ | refine Le.bind ?_ ?_ | refine Le.ite ?_ ?_ | refine Le.sum ?_ ?_ | refine Le.prod ?_ | intro _ | exact Empty.elim (by assumption) | dsimp only)
theorem m_piece_Read_l1 (p0 : api_Chart) : ∀ s, Le (K_piece_Read_l1 p0 s) (piece_Read_l1 p0 s) := by
  unfold K_piece_Read_l1 piece_Read_l1
  with_reducible repeat' (first | exact m_F_stitch_All _ | exact m_F_piece_grows _ | exact Le.rfl _ | refine Le.loop _ ?_ | refine Le.bind ?_ ?_ | refine Le.ite ?_ ?_ | refine Le.sum ?_ ?_ | refine Le.prod ?_ | intro _ | exact Empty.elim (by assumption) | dsimp only)
theorem m_slices_Equal___api_Stitch_api_Stitch__l1 (p0 : (List api_Stitch)) (p1 : (List api_Stitch)) : ∀ s, Le (K_slices_Equal___api_Stitch_api_Stitch__l1 p0 p1 s) (slices_Equal___api_Stitch_api_Stitch__l1 p0 p1 s) := by
  unfold K_slices_Equal___api_Stitch_api_Stitch__l1 slices_Equal___api_Stitch_api_Stitch__l1
  with_reducible repeat' (first | exact Le.rfl _ | refine Le.loop _ ?_ | refine Le.bind ?_ ?_ | refine Le.ite ?_ ?_ | refine Le.sum ?_ ?_ | refine Le.prod ?_ | intro _ | exact Empty.elim (by assumption) | dsimp only)
theorem m_F_slices_Equal___api_Stitch_api_Stitch_ (p0 : (List api_Stitch)) (p1 : (List api_Stitch)) : Le (K_slices_Equal___api_Stitch_api_Stitch_ p0 p1) (F_slices_Equal___api_Stitch_api_Stitch_ p0 p1) := by
  unfold K_slices_Equal___api_Stitch_api_Stitch_ F_slices_Equal___api_Stitch_api_Stitch_
  with_reducible repeat' (first | exact m_slices_Equal___api_Stitch_api_Stitch__l1 _ _ | exact Le.rfl _ | refine Le.loop _ ?_ | refine Le.bind ?_ ?_ | refine Le.ite ?_ ?_ | refine Le.sum ?_ ?_ | refine Le.prod ?_ | intro _ | exact Empty.elim (by assumption) | dsimp only)
theorem m_F_stitch_Same (p0 : (List api_Stitch)) (p1 : (List api_Stitch)) : Le (K_stitch_Same p0 p1) (F_stitch_Same p0 p1) := by
  unfold K_stitch_Same F_stitch_Same
  with_reducible repeat' (first | exact m_F_slices_Equal___api_Stitch_api_Stitch_ _ _ | exact Le.rfl _ | refine Le.loop _ ?_ | refine Le.bind ?_ ?_ | refine Le.ite ?_ ?_ | refine Le.sum ?_ ?_ | refine Le.prod ?_ | intro _ | exact Empty.elim (by assumption) | dsimp only)
theorem m_piece_Read_l2 (p0 : api_Chart) (r140 : (api_Chart × Int)) : ∀ s, Le (K_piece_Read_l2 p0 r140 s) (piece_Read_l2 p0 r140 s) := by
  unfold K_piece_Read_l2 piece_Read_l2
  with_reducible repeat' (first | exact m_F_stitch_Same _ _ | exact Le.rfl _ | refine Le.loop _ ?_ | refine Le.bind ?_ ?_ | refine Le.ite ?_ ?_ | refine Le.sum ?_ ?_ | refine Le.prod ?_ | intro _ | exact Empty.elim (by assumption) | dsimp only)
theorem m_F_piece_Read (p0 : api_Chart) (p1 : Int) : Le (K_piece_Read p0 p1) (F_piece_Read p0 p1) := by
  unfold K_piece_Read F_piece_Read
  with_reducible repeat' (first | exact m_F_piece_column _ | exact m_piece_Read_l1 _ | exact m_F_piece_Chart _ | exact m_piece_Read_l2 _ _ | exact Le.rfl _ | refine Le.loop _ ?_ | refine Le.bind ?_ ?_ | refine Le.ite ?_ ?_ | refine Le.sum ?_ ?_ | refine Le.prod ?_ | intro _ | exact Empty.elim (by assumption) | dsimp only)
theorem m_raddleref36_Same_l1 (p0 : (List Int)) (p1 : (List Int)) : ∀ s, Le (K_raddleref36_Same_l1 p0 p1 s) (raddleref36_Same_l1 p0 p1 s) := by
  unfold K_raddleref36_Same_l1 raddleref36_Same_l1
  with_reducible repeat' (first | exact Le.rfl _ | refine Le.loop _ ?_ | refine Le.bind ?_ ?_ | refine Le.ite ?_ ?_ | refine Le.sum ?_ ?_ | refine Le.prod ?_ | intro _ | exact Empty.elim (by assumption) | dsimp only)
theorem m_F_raddleref36_Same (p0 : (List Int)) (p1 : (List Int)) : Le (K_raddleref36_Same p0 p1) (F_raddleref36_Same p0 p1) := by
  unfold K_raddleref36_Same F_raddleref36_Same
  with_reducible repeat' (first | exact m_raddleref36_Same_l1 _ _ | exact Le.rfl _ | refine Le.loop _ ?_ | refine Le.bind ?_ ?_ | refine Le.ite ?_ ?_ | refine Le.sum ?_ ?_ | refine Le.prod ?_ | intro _ | exact Empty.elim (by assumption) | dsimp only)
theorem m_F_raddleref37_Same (p0 : api_Piece) (p1 : api_Piece) : Le (K_raddleref37_Same p0 p1) (F_raddleref37_Same p0 p1) := by
  unfold K_raddleref37_Same F_raddleref37_Same
  with_reducible repeat' (first | exact m_F_raddleref36_Same _ _ | exact Le.rfl _ | refine Le.loop _ ?_ | refine Le.bind ?_ ?_ | refine Le.ite ?_ ?_ | refine Le.sum ?_ ?_ | refine Le.prod ?_ | intro _ | exact Empty.elim (by assumption) | dsimp only)
theorem m_stitch_text_l1 (p0 : (List api_Stitch)) (s14 : Int) : ∀ s, Le (K_stitch_text_l1 p0 s14 s) (stitch_text_l1 p0 s14 s) := by
  unfold K_stitch_text_l1 stitch_text_l1
  with_reducible repeat' (first | exact Le.rfl _ | refine Le.loop _ ?_ | refine Le.bind ?_ ?_ | refine Le.ite ?_ ?_ | refine Le.sum ?_ ?_ | refine Le.prod ?_ | intro _ | exact Empty.elim (by assumption) | dsimp only)
theorem m_F_internal_strconv_small (p0 : Int) : Le (K_internal_strconv_small p0) (F_internal_strconv_small p0) := by
  unfold K_internal_strconv_small F_internal_strconv_small
  with_reducible repeat' (first | exact Le.rfl _ | refine Le.loop _ ?_ | refine Le.bind ?_ ?_ | refine Le.ite ?_ ?_ | refine Le.sum ?_ ?_ | refine Le.prod ?_ | intro _ | exact Empty.elim (by assumption) | dsimp only)
theorem m_F_math_bits_Len64 (p0 : Int) : Le (K_math_bits_Len64 p0) (F_math_bits_Len64 p0) := by
  unfold K_math_bits_Len64 F_math_bits_Len64
  with_reducible repeat' (first | exact Le.rfl _ | refine Le.loop _ ?_ | refine Le.bind ?_ ?_ | refine Le.ite ?_ ?_ | refine Le.sum ?_ ?_ | refine Le.prod ?_ | intro _ | exact Empty.elim (by assumption) | dsimp only)
theorem m_F_internal_strconv_log10Pow2 (p0 : Int) : Le (K_internal_strconv_log10Pow2 p0) (F_internal_strconv_log10Pow2 p0) := by
  unfold K_internal_strconv_log10Pow2 F_internal_strconv_log10Pow2
  with_reducible repeat' (first | exact Le.rfl _ | refine Le.loop _ ?_ | refine Le.bind ?_ ?_ | refine Le.ite ?_ ?_ | refine Le.sum ?_ ?_ | refine Le.prod ?_ | intro _ | exact Empty.elim (by assumption) | dsimp only)
theorem m_F_internal_strconv_numDigits (p0 : Int) : Le (K_internal_strconv_numDigits p0) (F_internal_strconv_numDigits p0) := by
  unfold K_internal_strconv_numDigits F_internal_strconv_numDigits
  with_reducible repeat' (first | exact m_F_math_bits_Len64 _ | exact m_F_internal_strconv_log10Pow2 _ | exact Le.rfl _ | refine Le.loop _ ?_ | refine Le.bind ?_ ?_ | refine Le.ite ?_ ?_ | refine Le.sum ?_ ?_ | refine Le.prod ?_ | intro _ | exact Empty.elim (by assumption) | dsimp only)
theorem m_F_internal_strconv_FormatInt (p0 : Int) (p1 : Int) : Le (K_internal_strconv_FormatInt p0 p1) (F_internal_strconv_FormatInt p0 p1) := by
  unfold K_internal_strconv_FormatInt F_internal_strconv_FormatInt
  with_reducible repeat' (first | exact m_F_internal_strconv_small _ | exact m_F_internal_strconv_numDigits _ | exact Le.rfl _ | refine Le.loop _ ?_ | refine Le.bind ?_ ?_ | refine Le.ite ?_ ?_ | refine Le.sum ?_ ?_ | refine Le.prod ?_ | intro _ | exact Empty.elim (by assumption) | dsimp only)
theorem m_F_internal_strconv_Itoa (p0 : Int) : Le (K_internal_strconv_Itoa p0) (F_internal_strconv_Itoa p0) := by
  unfold K_internal_strconv_Itoa F_internal_strconv_Itoa
  with_reducible repeat' (first | exact m_F_internal_strconv_FormatInt _ _ | exact Le.rfl _ | refine Le.loop _ ?_ | refine Le.bind ?_ ?_ | refine Le.ite ?_ ?_ | refine Le.sum ?_ ?_ | refine Le.prod ?_ | intro _ | exact Empty.elim (by assumption) | dsimp only)
theorem m_F_strconv_Itoa (p0 : Int) : Le (K_strconv_Itoa p0) (F_strconv_Itoa p0) := by
  unfold K_strconv_Itoa F_strconv_Itoa
  with_reducible repeat' (first | exact m_F_internal_strconv_Itoa _ | exact Le.rfl _ | refine Le.loop _ ?_ | refine Le.bind ?_ ?_ | refine Le.ite ?_ ?_ | refine Le.sum ?_ ?_ | refine Le.prod ?_ | intro _ | exact Empty.elim (by assumption) | dsimp only)
theorem m_F_stitch_word (p0 : api_Stitch) : Le (K_stitch_word p0) (F_stitch_word p0) := by
  unfold K_stitch_word F_stitch_word
  with_reducible repeat' (first | exact m_F_strconv_Itoa _ | exact m_F_stitch_forms _ | exact Le.rfl _ | refine Le.loop _ ?_ | refine Le.bind ?_ ?_ | refine Le.ite ?_ ?_ | refine Le.sum ?_ ?_ | refine Le.prod ?_ | intro _ | exact Empty.elim (by assumption) | dsimp only)
theorem m_stitch_text_l2 (p0 : (List api_Stitch)) : ∀ s, Le (K_stitch_text_l2 p0 s) (stitch_text_l2 p0 s) := by
  unfold K_stitch_text_l2 stitch_text_l2
  with_reducible repeat' (first | exact m_stitch_text_l1 _ _ | exact m_F_stitch_word _ | exact m_F_strconv_Itoa _ | exact Le.rfl _ | refine Le.loop _ ?_ | refine Le.bind ?_ ?_ | refine Le.ite ?_ ?_ | refine Le.sum ?_ ?_ | refine Le.prod ?_ | intro _ | exact Empty.elim (by assumption) | dsimp only)
theorem m_F_strings_Join (p0 : List ByteArray) (p1 : ByteArray) : Le (K_strings_Join p0 p1) (F_strings_Join p0 p1) := by
  unfold K_strings_Join F_strings_Join
  with_reducible repeat' (first | exact Le.rfl _ | refine Le.loop _ ?_ | refine Le.bind ?_ ?_ | refine Le.ite ?_ ?_ | refine Le.sum ?_ ?_ | refine Le.prod ?_ | intro _ | exact Empty.elim (by assumption) | dsimp only)
theorem m_F_stitch_text (p0 : (List api_Stitch)) : Le (K_stitch_text p0) (F_stitch_text p0) := by
  unfold K_stitch_text F_stitch_text
  with_reducible repeat' (first | exact m_stitch_text_l2 _ | exact m_F_strings_Join _ _ | exact Le.rfl _ | refine Le.loop _ ?_ | refine Le.bind ?_ ?_ | refine Le.ite ?_ ?_ | refine Le.sum ?_ ?_ | refine Le.prod ?_ | intro _ | exact Empty.elim (by assumption) | dsimp only)
theorem m_F_stitch_Text (p0 : (List api_Stitch)) : Le (K_stitch_Text p0) (F_stitch_Text p0) := by
  unfold K_stitch_Text F_stitch_Text
  with_reducible repeat' (first | exact m_F_stitch_All _ | exact m_F_stitch_text _ | exact Le.rfl _ | refine Le.loop _ ?_ | refine Le.bind ?_ ?_ | refine Le.ite ?_ ?_ | refine Le.sum ?_ ?_ | refine Le.prod ?_ | intro _ | exact Empty.elim (by assumption) | dsimp only)
set_option maxRecDepth 1000000 in
theorem kc_raddlelaw37_alive_0 : F_raddlelaw37_given = some (api_Shape.mk [(api_Point.mk 0 0), (api_Point.mk 2 4)] [(api_Point.mk 10 0), (api_Point.mk 8 4)]) := m_F_raddlelaw37_given _ (by kernel_rfl)
set_option maxRecDepth 1000000 in
theorem kc_raddlelaw37_alive_1 : F_piece_Make ((api_Shape.mk [(api_Point.mk 0 0), (api_Point.mk 2 4)] [(api_Point.mk 10 0), (api_Point.mk 8 4)])) = some ((api_Piece.mk [0, 1, 1, 2, 2] [10, 10, 9, 9, 8]), 0) := m_F_piece_Make _ _ (by kernel_rfl)
set_option maxRecDepth 1000000 in
theorem kc_raddlelaw37_alive_2 : F_raddlelaw37_made = some (api_Piece.mk [0, 1, 1, 2, 2] [10, 10, 9, 9, 8]) := m_F_raddlelaw37_made _ (by kernel_rfl)
set_option maxRecDepth 1000000 in
theorem kc_raddlelaw37_alive_3 : F_piece_Chart ((api_Piece.mk [0, 1, 1, 2, 2] [10, 10, 9, 9, 8])) = some ((api_Chart.mk 10 [(api_Row.mk true [(api_Stitch.mk 4 true 2 0), (api_Stitch.mk 1 true 0 0), (api_Stitch.mk 1 true 0 0), (api_Stitch.mk 1 true 0 0), (api_Stitch.mk 1 true 0 0), (api_Stitch.mk 1 true 0 0), (api_Stitch.mk 1 true 0 0), (api_Stitch.mk 1 true 0 0), (api_Stitch.mk 1 true 0 0)]), (api_Row.mk false [(api_Stitch.mk 3 false 2 0), (api_Stitch.mk 1 false 0 0), (api_Stitch.mk 1 false 0 0), (api_Stitch.mk 1 false 0 0), (api_Stitch.mk 1 false 0 0), (api_Stitch.mk 1 false 0 0), (api_Stitch.mk 1 false 0 0), (api_Stitch.mk 1 false 0 0)]), (api_Row.mk true [(api_Stitch.mk 4 true 2 0), (api_Stitch.mk 1 true 0 0), (api_Stitch.mk 1 true 0 0), (api_Stitch.mk 1 true 0 0), (api_Stitch.mk 1 true 0 0), (api_Stitch.mk 1 true 0 0), (api_Stitch.mk 1 true 0 0)]), (api_Row.mk false [(api_Stitch.mk 3 false 2 0), (api_Stitch.mk 1 false 0 0), (api_Stitch.mk 1 false 0 0), (api_Stitch.mk 1 false 0 0), (api_Stitch.mk 1 false 0 0), (api_Stitch.mk 1 false 0 0)])]), 0) := m_F_piece_Chart _ _ (by kernel_rfl)
set_option maxRecDepth 1000000 in
theorem kc_raddlelaw37_alive_4 : F_piece_Read (((api_Chart.mk 10 [(api_Row.mk true [(api_Stitch.mk 4 true 2 0), (api_Stitch.mk 1 true 0 0), (api_Stitch.mk 1 true 0 0), (api_Stitch.mk 1 true 0 0), (api_Stitch.mk 1 true 0 0), (api_Stitch.mk 1 true 0 0), (api_Stitch.mk 1 true 0 0), (api_Stitch.mk 1 true 0 0), (api_Stitch.mk 1 true 0 0)]), (api_Row.mk false [(api_Stitch.mk 3 false 2 0), (api_Stitch.mk 1 false 0 0), (api_Stitch.mk 1 false 0 0), (api_Stitch.mk 1 false 0 0), (api_Stitch.mk 1 false 0 0), (api_Stitch.mk 1 false 0 0), (api_Stitch.mk 1 false 0 0), (api_Stitch.mk 1 false 0 0)]), (api_Row.mk true [(api_Stitch.mk 4 true 2 0), (api_Stitch.mk 1 true 0 0), (api_Stitch.mk 1 true 0 0), (api_Stitch.mk 1 true 0 0), (api_Stitch.mk 1 true 0 0), (api_Stitch.mk 1 true 0 0), (api_Stitch.mk 1 true 0 0)]), (api_Row.mk false [(api_Stitch.mk 3 false 2 0), (api_Stitch.mk 1 false 0 0), (api_Stitch.mk 1 false 0 0), (api_Stitch.mk 1 false 0 0), (api_Stitch.mk 1 false 0 0), (api_Stitch.mk 1 false 0 0)])]), 0)).1 0 = some ((api_Piece.mk [0, 1, 1, 2, 2] [10, 10, 9, 9, 8]), 0) := m_F_piece_Read _ _ _ (by kernel_rfl)
set_option maxRecDepth 1000000 in
theorem kc_raddlelaw37_alive_5 : F_raddleref37_Same (((api_Piece.mk [0, 1, 1, 2, 2] [10, 10, 9, 9, 8]), 0)).1 ((api_Piece.mk [0, 1, 1, 2, 2] [10, 10, 9, 9, 8])) = some true := m_F_raddleref37_Same _ _ _ (by kernel_rfl)
set_option maxRecDepth 1000000 in
theorem kc_raddlelaw37_alive_6 : F_raddleref37_Same (((api_Piece.mk [0, 1, 1, 2, 2] [10, 10, 9, 9, 8]), 0)).1 (((api_Piece.mk [0, 1, 1, 2, 2] [10, 10, 9, 9, 8]), 0)).1 = some true := m_F_raddleref37_Same _ _ _ (by kernel_rfl)
end Go.Proofs.YtmedbnjhgkcndaaDoor
namespace Go.Proofs.YtmedbnjhgkcndaaDoor
open Go.RowKit
set_option linter.unusedVariables false

def anc_raddlelaw37_alive_0 : List (List Nat) := [[], [0], [0, 1], [0, 1, 2], [0, 1, 2], [0, 1, 2, 3, 4], [0, 1, 2, 3, 4, 5], [0, 1, 2, 3, 4, 5, 6], [0, 1, 2, 3, 4, 5, 6, 7], [0, 1, 2, 3, 4, 5, 6, 7, 8], [0, 1, 2, 3, 4, 5, 6, 7, 8, 9], [0, 1, 2, 3, 4, 5, 6, 7, 8, 9, 10], [0, 1, 2, 3, 4, 5, 6, 7, 8, 9, 10, 11], [0, 1, 2, 3, 4, 5, 6, 7, 8, 9, 10, 11, 12], [0, 1, 2, 3, 4, 5, 6, 7, 8, 9, 10, 11, 12, 13], [0, 1, 2, 3, 4, 5, 6, 7, 8, 9, 10, 11, 12, 13, 14], [0, 1, 2, 3, 4, 5, 6, 7, 8, 9, 10, 11, 12, 13, 14, 15], [0, 1, 2, 3, 4, 5, 6, 7, 8, 9, 10, 11, 12, 13, 14, 15, 16], [0, 1, 2, 3, 4, 5, 6, 7, 8, 9, 10, 11, 12, 13, 14, 15, 16, 17], [0, 1, 2, 3, 4, 5, 6, 7, 8, 9, 10, 11, 12, 13, 14, 15, 16, 17, 18], [0, 1, 2, 3, 4, 5, 6, 7, 8, 9, 10, 11, 12, 13, 14, 15, 16, 17, 18, 19], [0, 1, 2, 3, 4, 5, 6, 7, 8, 9, 10, 11, 12, 13, 14, 15, 16, 17, 18, 19, 20], [0, 1, 2, 3, 4, 5, 6, 7, 8, 9, 10, 11, 12, 13, 14, 15, 16, 17, 18, 19, 20, 21], [0, 1, 2, 3, 4, 5, 6, 7, 8, 9, 10, 11, 12, 13, 14, 15, 16, 17, 18, 19, 20, 21, 22], [0, 1, 2, 3, 4, 5, 6, 7, 8, 9, 10, 11, 12, 13, 14, 15, 16, 17, 18, 19, 20, 21, 22, 23], [0, 1, 2, 3, 4, 5, 6, 7, 8, 9, 10, 11, 12, 13, 14, 15, 16, 17, 18, 19, 20, 21, 22, 23, 24], [0, 1, 2, 3, 4, 5, 6, 7, 8, 9, 10, 11, 12, 13, 14, 15, 16, 17, 18, 19, 20, 21, 22, 23, 24, 25], [0, 1, 2, 3, 4, 5, 6, 7, 8, 9, 10, 11, 12, 13, 14, 15, 16, 17, 18, 19, 20, 21, 22, 23, 24, 25, 26], [0, 1, 2, 3, 4, 5, 6, 7, 8, 9, 10, 11, 12, 13, 14, 15, 16, 17, 18, 19, 20, 21, 22, 23, 24, 25, 26, 27], [0, 1, 2, 3, 4, 5, 6, 7, 8, 9, 10, 11, 12, 13, 14, 15, 16, 17, 18, 19, 20, 21, 22, 23, 24, 25, 26, 27], [0, 1, 2, 3, 4, 5, 6, 7, 8, 9, 10, 11, 12, 13, 14, 15, 16, 17, 18, 19, 20, 21, 22, 23, 24, 25, 26, 27, 28, 29], [0, 1, 2, 3, 4, 5, 6, 7, 8, 9, 10, 11, 12, 13, 14, 15, 16, 17, 18, 19, 20, 21, 22, 23, 24, 25, 26, 27, 28, 29, 30], [0, 1, 2, 3, 4, 5, 6, 7, 8, 9, 10, 11, 12, 13, 14, 15, 16, 17, 18, 19, 20, 21, 22, 23, 24, 25, 26, 27, 28, 29, 30, 31]]
noncomputable def raddlelaw37_alive_l1 (r38 : (api_Chart × Int)) : Int → Option (Int ⊕ (Bool ⊕ Unit)) := fun s0 => match s0 with
  | s95 =>
    if decide (s95 < 4) then
      Option.bind (idxO r38.1.Rows s95) fun x104 =>
      Option.bind (F_stitch_Text x104.Cells) fun r113 =>
      Option.bind (α := Bool) (
        if r113.2 != 0 then
          some true
        else
          Option.bind (idxO ([(⟨#[112, 108, 50, 32, 112, 56]⟩ : ByteArray), (⟨#[107, 102, 50, 32, 107, 55]⟩ : ByteArray), (⟨#[112, 108, 50, 32, 112, 54]⟩ : ByteArray), (⟨#[107, 102, 50, 32, 107, 53]⟩ : ByteArray)] : List ByteArray) s95) fun x119 =>
          if r113.1 != x119 then
            some true
          else
            Option.bind (remI s95 2) fun z127 =>
            some (x104.Back != (z127 == 0))) fun o115 =>
      if o115 then
        some (.inr (.inl false))
      else
        some (.inl (w64 (s95 + 1)))
    else
      some (.inr (.inr ()))
noncomputable def F_raddlelaw37_alive  : Option Bool :=
  Option.bind (F_raddlelaw37_given) fun r3 =>
  Option.bind (F_piece_Make r3) fun r14 =>
  Option.bind (F_raddlelaw37_made) fun r27 =>
  Option.bind (F_piece_Chart r27) fun r38 =>
  Option.bind (F_piece_Read r38.1 0) fun r47 =>
  if r14.2 != 0 then
    none
  else
    Option.bind (F_raddleref37_Same r14.1 r27) fun r73 =>
    if !r73 then
      none
    else
      if r38.2 != 0 then
        none
      else
        if r38.1.Start != 10 then
          none
        else
          if (r38.1.Rows.length : Int) != 4 then
            none
          else
            if r47.2 != 0 then
              none
            else
              Option.bind (F_raddleref37_Same r47.1 r14.1) fun r80 =>
              if !r80 then
                none
              else
                Option.bind (α := Unit ⊕ Bool) (
                  Option.bind (whileO (raddlelaw37_alive_l1 r38) 0) fun z0 => match z0 with
                    | .inl z =>
                      some (.inr z)
                    | .inr _ =>
                      some (.inl ())) fun z0 => match z0 with
                  | .inl _ =>
                    some true
                  | .inr z =>
                    some z
set_option maxHeartbeats 4000000 in
set_option maxRecDepth 100000 in
theorem c_raddlelaw37_alive (E : Nat → Prop) (w0 : World)  (r : Bool) (h : F_raddlelaw37_alive  = some r) (S : St0 E [] w0 w0 [] []) :
    Calls Tryd.prog 9 #[] w0 (Ret (X := Unit) E [] w0 (fun _ => .bool r) (fun _ => []) (fun _ => [])) := by
  unfold F_raddlelaw37_alive at h
  refine sEnter (args := []) 95 Tryd.func9 rfl rfl (by simp) S (fun a S => ?_)
  refine sSeq (fun K1 hK1 => ?_)
  refine sRegion ?_
  refine sMove (.bool false) S (wN rfl) (.inr rfl) rfl rfl (lb rfl) fun a S => ?_
  refine leafL (leafT (hK1 _ _ ?_))
  refine sSeq (fun K2 hK2 => ?_)
  refine sRegion ?_
  obtain ⟨r3, hx4, h⟩ := bindSome h
  have hv_r3 : r3 = (api_Shape.mk [(api_Point.mk 0 0), (api_Point.mk 2 4)] [(api_Point.mk 10 0), (api_Point.mk 8 4)]) := Option.some.inj (hx4.symm.trans (by exact kc_raddlelaw37_alive_0))
  refine sCall (X := Value) (f := 32) (vs := []) (val := c_raddlelaw37_given_val r3) (B' := fun _ => []) (D' := c_raddlelaw37_given_D r3) [] [] [] [] [] S (wN rfl) rfl callee32 rfl (by decide) rfl rfl (fun E1 w1 S1 => c_raddlelaw37_given E1 w1  r3 hx4 S1) rfl (lb rfl) fun u5 a w S => ?_
  obtain ⟨u6, u7, rfl, hu8, hu9⟩ := S.mem.know (i := 0) (e := fRep r_api_Shape (u5) r3) rfl
  have S := S.learn (fRep (rL r_api_Point) u6 r3.Left) hu8
  obtain ⟨ad10, cp11, _, rfl, _⟩ := hu8
  have S := S.learn (fRep (rL r_api_Point) u7 r3.Right) hu9
  obtain ⟨ad12, cp13, _, rfl, _⟩ := hu9
  obtain ⟨r14, hx15, h⟩ := bindSome h
  have hv_r14 : r14 = ((api_Piece.mk [0, 1, 1, 2, 2] [10, 10, 9, 9, 8]), 0) := Option.some.inj (hx15.symm.trans (by rw [hv_r3]; exact kc_raddlelaw37_alive_1))
  refine sCall (X := Value) (f := 12) (vs := [.agg #[.slice ad10 r3.Left.length cp11, .slice ad12 r3.Right.length cp13]]) (val := c_piece_Make_val r14) (B' := fun _ => []) (D' := c_piece_Make_D r14) [] [] [fRep r_api_Shape (.agg #[.slice ad10 r3.Left.length cp11, .slice ad12 r3.Right.length cp13]) r3] [] [2] S (wN rfl) rfl callee12 rfl (by decide) rfl rfl (fun E1 w1 S1 => c_piece_Make E1 w1 r3 (.agg #[.slice ad10 r3.Left.length cp11, .slice ad12 r3.Right.length cp13]) r14 hx15 S1) rfl (lb rfl) fun u16 a w S => ?_
  obtain ⟨u17, u18, rfl, hu19, hu20⟩ := S.mem.know (i := 0) (e := fRep r_api_Piece (u16) r14.1) rfl
  have S := S.learn (fRep (rL (rI .i64)) u17 r14.1.Left) hu19
  obtain ⟨ad21, cp22, _, rfl, _⟩ := hu19
  have S := S.learn (fRep (rL (rI .i64)) u18 r14.1.Right) hu20
  obtain ⟨ad23, cp24, _, rfl, _⟩ := hu20
  refine sMove (.tuple #[.agg #[.slice ad21 r14.1.Left.length cp22, .slice ad23 r14.1.Right.length cp24], iv r14.2]) S (wN rfl) (.inl rfl) rfl rfl (lb rfl) fun a S => ?_
  refine sExtract (vs := [.agg #[.slice ad21 r14.1.Left.length cp22, .slice ad23 r14.1.Right.length cp24], iv r14.2]) (.agg #[.slice ad21 r14.1.Left.length cp22, .slice ad23 r14.1.Right.length cp24]) S (wN rfl) rfl rfl rfl rfl (lb rfl) fun a S => ?_
  refine sExtract (vs := [.agg #[.slice ad21 r14.1.Left.length cp22, .slice ad23 r14.1.Right.length cp24], iv r14.2]) (iv r14.2) S (wN rfl) rfl rfl rfl rfl (lb rfl) fun a S => ?_
  refine sAlloc (.agg #[.slice none 0 0, .slice none 0 0]) S (wN rfl) rfl rfl [.slice none 0 0, .slice none 0 0] rfl rfl (lb rfl) fun a b25 w S => ?_
  refine sStore (p := b25) (off := 0) (T := 30) (vs := [.slice none 0 0, .slice none 0 0]) (v := .agg #[.slice ad21 r14.1.Left.length cp22, .slice ad23 r14.1.Right.length cp24]) 0 [.slice ad21 r14.1.Left.length cp22, .slice ad23 r14.1.Right.length cp24] S (wN rfl) rfl rfl rfl rfl rfl rfl rfl (by simp) rfl fun a w S => ?_
  refine sMove (iv r14.2) S (wN rfl) (.inr rfl) rfl rfl (lb rfl) fun a S => ?_
  refine leafL (leafT (hK2 _ _ ?_))
  refine sSeq (fun K26 hK26 => ?_)
  refine sRegion ?_
  obtain ⟨r27, hx28, h⟩ := bindSome h
  have hv_r27 : r27 = (api_Piece.mk [0, 1, 1, 2, 2] [10, 10, 9, 9, 8]) := Option.some.inj (hx28.symm.trans (by exact kc_raddlelaw37_alive_2))
  refine sCall (X := Value) (f := 29) (vs := []) (val := c_raddlelaw37_made_val r27) (B' := fun _ => []) (D' := c_raddlelaw37_made_D r27) [] [eBox b25 30 [.slice ad21 r14.1.Left.length cp22, .slice ad23 r14.1.Right.length cp24]] [] [0] [] S (wN rfl) rfl callee29 rfl (by decide) rfl rfl (fun E1 w1 S1 => c_raddlelaw37_made E1 w1  r27 hx28 S1) rfl (lb rfl) fun u29 a w S => ?_
  obtain ⟨u30, u31, rfl, hu32, hu33⟩ := S.mem.know (i := 0) (e := fRep r_api_Piece (u29) r27) rfl
  have S := S.learn (fRep (rL (rI .i64)) u30 r27.Left) hu32
  obtain ⟨ad34, cp35, _, rfl, _⟩ := hu32
  have S := S.learn (fRep (rL (rI .i64)) u31 r27.Right) hu33
  obtain ⟨ad36, cp37, _, rfl, _⟩ := hu33
  obtain ⟨r38, hx39, h⟩ := bindSome h
  have hv_r38 : r38 = ((api_Chart.mk 10 [(api_Row.mk true [(api_Stitch.mk 4 true 2 0), (api_Stitch.mk 1 true 0 0), (api_Stitch.mk 1 true 0 0), (api_Stitch.mk 1 true 0 0), (api_Stitch.mk 1 true 0 0), (api_Stitch.mk 1 true 0 0), (api_Stitch.mk 1 true 0 0), (api_Stitch.mk 1 true 0 0), (api_Stitch.mk 1 true 0 0)]), (api_Row.mk false [(api_Stitch.mk 3 false 2 0), (api_Stitch.mk 1 false 0 0), (api_Stitch.mk 1 false 0 0), (api_Stitch.mk 1 false 0 0), (api_Stitch.mk 1 false 0 0), (api_Stitch.mk 1 false 0 0), (api_Stitch.mk 1 false 0 0), (api_Stitch.mk 1 false 0 0)]), (api_Row.mk true [(api_Stitch.mk 4 true 2 0), (api_Stitch.mk 1 true 0 0), (api_Stitch.mk 1 true 0 0), (api_Stitch.mk 1 true 0 0), (api_Stitch.mk 1 true 0 0), (api_Stitch.mk 1 true 0 0), (api_Stitch.mk 1 true 0 0)]), (api_Row.mk false [(api_Stitch.mk 3 false 2 0), (api_Stitch.mk 1 false 0 0), (api_Stitch.mk 1 false 0 0), (api_Stitch.mk 1 false 0 0), (api_Stitch.mk 1 false 0 0), (api_Stitch.mk 1 false 0 0)])]), 0) := Option.some.inj (hx39.symm.trans (by rw [hv_r27]; exact kc_raddlelaw37_alive_3))
  refine sCall (X := Value) (f := 17) (vs := [.agg #[.slice ad34 r27.Left.length cp35, .slice ad36 r27.Right.length cp37]]) (val := c_piece_Chart_val r38) (B' := fun _ => []) (D' := c_piece_Chart_D r38) [] [eBox b25 30 [.slice ad21 r14.1.Left.length cp22, .slice ad23 r14.1.Right.length cp24]] [fRep r_api_Piece (.agg #[.slice ad34 r27.Left.length cp35, .slice ad36 r27.Right.length cp37]) r27] [0] [2] S (wN rfl) rfl callee17 rfl (by decide) rfl rfl (fun E1 w1 S1 => c_piece_Chart E1 w1 r27 (.agg #[.slice ad34 r27.Left.length cp35, .slice ad36 r27.Right.length cp37]) r38 hx39 S1) rfl (lb rfl) fun u40 a w S => ?_
  obtain ⟨u41, rfl, hu42⟩ := S.mem.know (i := 0) (e := fRep r_api_Chart (u40) r38.1) rfl
  have S := S.learn (fRep (rL r_api_Row) u41 r38.1.Rows) hu42
  obtain ⟨ad43, cp44, _, rfl, _⟩ := hu42
  refine sMove (.tuple #[.agg #[iv r38.1.Start, .slice ad43 r38.1.Rows.length cp44], iv r38.2]) S (wN rfl) (.inl rfl) rfl rfl (lb rfl) fun a S => ?_
  refine sExtract (vs := [.agg #[iv r38.1.Start, .slice ad43 r38.1.Rows.length cp44], iv r38.2]) (.agg #[iv r38.1.Start, .slice ad43 r38.1.Rows.length cp44]) S (wN rfl) rfl rfl rfl rfl (lb rfl) fun a S => ?_
  refine sExtract (vs := [.agg #[iv r38.1.Start, .slice ad43 r38.1.Rows.length cp44], iv r38.2]) (iv r38.2) S (wN rfl) rfl rfl rfl rfl (lb rfl) fun a S => ?_
  refine sAlloc (.agg #[iv 0, .slice none 0 0]) S (wN rfl) rfl rfl [iv 0, .slice none 0 0] rfl rfl (lb rfl) fun a b45 w S => ?_
  refine sStore (p := b45) (off := 0) (T := 40) (vs := [iv 0, .slice none 0 0]) (v := .agg #[iv r38.1.Start, .slice ad43 r38.1.Rows.length cp44]) 0 [iv r38.1.Start, .slice ad43 r38.1.Rows.length cp44] S (wN rfl) rfl rfl rfl rfl rfl rfl rfl (by simp) rfl fun a w S => ?_
  refine sMove (iv r38.2) S (wN rfl) (.inr rfl) rfl rfl (lb rfl) fun a S => ?_
  refine leafL (leafT (hK26 _ _ ?_))
  refine sSeq (fun K46 hK46 => ?_)
  refine sRegion ?_
  refine sLoadN (p := b45) (off := 0) (T := 40) (vs := [iv r38.1.Start, .slice ad43 r38.1.Rows.length cp44]) 0 [iv r38.1.Start, .slice ad43 r38.1.Rows.length cp44] S (wN rfl) rfl rfl rfl rfl rfl rfl rfl (lb rfl) fun a S => ?_
  obtain ⟨r47, hx48, h⟩ := bindSome h
  have hv_r47 : r47 = ((api_Piece.mk [0, 1, 1, 2, 2] [10, 10, 9, 9, 8]), 0) := Option.some.inj (hx48.symm.trans (by rw [hv_r38]; exact kc_raddlelaw37_alive_4))
  refine sCall (X := Value) (f := 18) (vs := [.agg #[iv r38.1.Start, .slice ad43 r38.1.Rows.length cp44], iv 0]) (val := c_piece_Read_val r47) (B' := fun _ => []) (D' := c_piece_Read_D r47) [] [eBox b45 40 [iv r38.1.Start, .slice ad43 r38.1.Rows.length cp44], eBox b25 30 [.slice ad21 r14.1.Left.length cp22, .slice ad23 r14.1.Right.length cp24]] [fRep r_api_Chart (.agg #[iv r38.1.Start, .slice ad43 r38.1.Rows.length cp44]) r38.1] [0, 1] [1] S (wN rfl) rfl callee18 rfl (by decide) rfl rfl (fun E1 w1 S1 => c_piece_Read E1 w1 r38.1 (.agg #[iv r38.1.Start, .slice ad43 r38.1.Rows.length cp44]) 0 r47 hx48 S1) rfl (lb rfl) fun u49 a w S => ?_
  obtain ⟨u50, u51, rfl, hu52, hu53⟩ := S.mem.know (i := 0) (e := fRep r_api_Piece (u49) r47.1) rfl
  have S := S.learn (fRep (rL (rI .i64)) u50 r47.1.Left) hu52
  obtain ⟨ad54, cp55, _, rfl, _⟩ := hu52
  have S := S.learn (fRep (rL (rI .i64)) u51 r47.1.Right) hu53
  obtain ⟨ad56, cp57, _, rfl, _⟩ := hu53
  refine sMove (.tuple #[.agg #[.slice ad54 r47.1.Left.length cp55, .slice ad56 r47.1.Right.length cp57], iv r47.2]) S (wN rfl) (.inl rfl) rfl rfl (lb rfl) fun a S => ?_
  refine sExtract (vs := [.agg #[.slice ad54 r47.1.Left.length cp55, .slice ad56 r47.1.Right.length cp57], iv r47.2]) (.agg #[.slice ad54 r47.1.Left.length cp55, .slice ad56 r47.1.Right.length cp57]) S (wN rfl) rfl rfl rfl rfl (lb rfl) fun a S => ?_
  refine sExtract (vs := [.agg #[.slice ad54 r47.1.Left.length cp55, .slice ad56 r47.1.Right.length cp57], iv r47.2]) (iv r47.2) S (wN rfl) rfl rfl rfl rfl (lb rfl) fun a S => ?_
  refine sAlloc (.agg #[.slice none 0 0, .slice none 0 0]) S (wN rfl) rfl rfl [.slice none 0 0, .slice none 0 0] rfl rfl (lb rfl) fun a b58 w S => ?_
  refine sStore (p := b58) (off := 0) (T := 30) (vs := [.slice none 0 0, .slice none 0 0]) (v := .agg #[.slice ad54 r47.1.Left.length cp55, .slice ad56 r47.1.Right.length cp57]) 0 [.slice ad54 r47.1.Left.length cp55, .slice ad56 r47.1.Right.length cp57] S (wN rfl) rfl rfl rfl rfl rfl rfl rfl (by simp) rfl fun a w S => ?_
  refine sMove (iv r47.2) S (wN rfl) (.inr rfl) rfl rfl (lb rfl) fun a S => ?_
  refine leafL (leafT (hK46 _ _ ?_))
  refine sSeq (fun K59 hK59 => ?_)
  refine sRegion ?_
  refine sBuild [(0, .string (⟨#[112, 108, 50, 32, 112, 56]⟩ : ByteArray)), (1, .string (⟨#[107, 102, 50, 32, 107, 55]⟩ : ByteArray)), (2, .string (⟨#[112, 108, 50, 32, 112, 54]⟩ : ByteArray)), (3, .string (⟨#[107, 102, 50, 32, 107, 53]⟩ : ByteArray))] [.string (⟨#[112, 108, 50, 32, 112, 56]⟩ : ByteArray), .string (⟨#[107, 102, 50, 32, 107, 55]⟩ : ByteArray), .string (⟨#[112, 108, 50, 32, 112, 54]⟩ : ByteArray), .string (⟨#[107, 102, 50, 32, 107, 53]⟩ : ByteArray)] S (wN rfl) rfl rfl rfl rfl (lb rfl) fun a S => ?_
  refine sAlloc (.agg #[.string (⟨#[]⟩ : ByteArray), .string (⟨#[]⟩ : ByteArray), .string (⟨#[]⟩ : ByteArray), .string (⟨#[]⟩ : ByteArray)]) S (wN rfl) rfl rfl [.string (⟨#[]⟩ : ByteArray), .string (⟨#[]⟩ : ByteArray), .string (⟨#[]⟩ : ByteArray), .string (⟨#[]⟩ : ByteArray)] rfl rfl (lb rfl) fun a b60 w S => ?_
  refine sStore (p := b60) (off := 0) (T := 73) (vs := [.string (⟨#[]⟩ : ByteArray), .string (⟨#[]⟩ : ByteArray), .string (⟨#[]⟩ : ByteArray), .string (⟨#[]⟩ : ByteArray)]) (v := .agg #[.string (⟨#[112, 108, 50, 32, 112, 56]⟩ : ByteArray), .string (⟨#[107, 102, 50, 32, 107, 55]⟩ : ByteArray), .string (⟨#[112, 108, 50, 32, 112, 54]⟩ : ByteArray), .string (⟨#[107, 102, 50, 32, 107, 53]⟩ : ByteArray)]) 0 [.string (⟨#[112, 108, 50, 32, 112, 56]⟩ : ByteArray), .string (⟨#[107, 102, 50, 32, 107, 55]⟩ : ByteArray), .string (⟨#[112, 108, 50, 32, 112, 54]⟩ : ByteArray), .string (⟨#[107, 102, 50, 32, 107, 53]⟩ : ByteArray)] S (wN rfl) rfl rfl rfl rfl rfl rfl rfl (by simp) rfl fun a w S => ?_
  refine leafL (leafT (hK59 _ _ ?_))
  refine sSeq (fun K61 hK61 => ?_)
  refine sSeq (fun K62 hK62 => ?_)
  rcases iteSome h with ⟨hc63, h⟩ | ⟨hc63, h⟩
  · exact absurd hc63 (by rw [hv_r14]; decide)
  obtain ⟨r73, hx74, h⟩ := bindSome h
  have hv_r73 : r73 = true := Option.some.inj (hx74.symm.trans (by rw [hv_r14, hv_r27]; exact kc_raddlelaw37_alive_5))
  rcases iteSome h with ⟨hc75, h⟩ | ⟨hc75, h⟩
  · exact absurd hc75 (by rw [hv_r73]; decide)
  rcases iteSome h with ⟨hc76, h⟩ | ⟨hc76, h⟩
  · exact absurd hc76 (by rw [hv_r38]; decide)
  rcases iteSome h with ⟨hc77, h⟩ | ⟨hc77, h⟩
  · exact absurd hc77 (by rw [hv_r38]; decide)
  rcases iteSome h with ⟨hc78, h⟩ | ⟨hc78, h⟩
  · exact absurd hc78 (by rw [hv_r38]; decide)
  rcases iteSome h with ⟨hc79, h⟩ | ⟨hc79, h⟩
  · exact absurd hc79 (by rw [hv_r47]; decide)
  obtain ⟨r80, hx81, h⟩ := bindSome h
  have hv_r80 : r80 = true := Option.some.inj (hx81.symm.trans (by rw [hv_r47, hv_r14]; exact kc_raddlelaw37_alive_6))
  refine sDraw (nf := [4]) (W := [(0, 27, iv r14.2), (1, 28, .bool (r14.2 != 0)), (2, 29, .bool (r14.2 != 0)), (3, 30, .agg #[.slice ad21 r14.1.Left.length cp22, .slice ad23 r14.1.Right.length cp24])]) rfl S ?_
  refine node_by (A := anc_raddlelaw37_alive_0) (nf := [4]) (Y := []) (W := [(0, 27, iv r14.2), (1, 28, .bool (r14.2 != 0)), (2, 29, .bool (r14.2 != 0)), (3, 30, .agg #[.slice ad21 r14.1.Left.length cp22, .slice ad23 r14.1.Right.length cp24])]) 33 (by kernel_rfl) (by kernel_rfl) (by kernel_rfl) (by kernel_rfl) (by kernel_rfl) [0, 1, 2, 3] (by kernel_rfl) (by decide) (by decide) (aF 0 32 (by decide) ?_ (aF 1 31 (by decide) ?_ (aF 2 30 (by decide) ?_ (aF 3 29 (by decide) ?_ (aN 4 28 (by decide) ?_ (aE 5 27 4 (by decide) (aE 6 26 4 (by decide) (aE 7 25 4 (by decide) (aE 8 24 4 (by decide) (aE 9 23 4 (by decide) (aE 10 22 4 (by decide) (aE 11 21 4 (by decide) (aE 12 20 4 (by decide) (aE 13 19 4 (by decide) (aE 14 18 4 (by decide) (aE 15 17 4 (by decide) (aE 16 16 4 (by decide) (aE 17 15 4 (by decide) (aE 18 14 4 (by decide) (aE 19 13 4 (by decide) (aE 20 12 4 (by decide) (aE 21 11 4 (by decide) (aE 22 10 4 (by decide) (aE 23 9 4 (by decide) (aE 24 8 4 (by decide) (aE 25 7 4 (by decide) (aE 26 6 4 (by decide) (aE 27 5 4 (by decide) (aE 28 4 4 (by decide) (aE 29 3 4 (by decide) (aE 30 2 4 (by decide) (aE 31 1 4 (by decide) (aE 32 0 4 (by decide) (trivial)))))))))))))))))))))))))))))))))) [] (fun q hq => by cases hq) (fun hY => absurd (hY 4 (by decide)) (by decide))
  · refine fI 27 (iv r14.2) [(2, iv r14.2)] 0 [none] rfl rfl rfl rfl rfl rfl fun G a w S => ?_
    refine sMove (iv r14.2) S (wN rfl) (.inl rfl) rfl rfl (lb rfl) fun a S => ?_
    exact leafL ⟨rfl, S⟩
  · refine fI 28 (.bool (r14.2 != 0)) [(27, iv r14.2)] 1 [some 0] rfl rfl rfl rfl rfl rfl fun G a w S => ?_
    refine sBin (.bool (r14.2 != 0)) S (wN rfl) rfl rfl rfl (bNe _ _ _ _ .i64 r14.2 0) rfl (lb rfl) fun a S => ?_
    exact leafL ⟨rfl, S⟩
  · refine fI 29 (.bool (r14.2 != 0)) [(28, .bool (r14.2 != 0))] 2 [some 1] rfl rfl rfl rfl rfl rfl fun G a w S => ?_
    refine sMove (.bool (r14.2 != 0)) S (wN rfl) (.inl rfl) rfl rfl (lb rfl) fun a S => ?_
    exact leafL ⟨rfl, S⟩
  · refine fI 30 (.agg #[.slice ad21 r14.1.Left.length cp22, .slice ad23 r14.1.Right.length cp24]) [(1, .pointer (some ⟨b25, 0, none⟩)), (29, .bool (r14.2 != 0))] 3 [none, some 2] rfl rfl rfl rfl rfl rfl fun G a w S => ?_
    refine sLoadN (p := b25) (off := 0) (T := 30) (vs := [.slice ad21 r14.1.Left.length cp22, .slice ad23 r14.1.Right.length cp24]) 3 [.slice ad21 r14.1.Left.length cp22, .slice ad23 r14.1.Right.length cp24] S (wG 2 false 29 rfl rfl rfl hc63) rfl rfl rfl rfl rfl rfl rfl (lb rfl) fun a S => ?_
    exact leafL ⟨rfl, S⟩
  refine ⟨_, [(29, .bool (r14.2 != 0))], rfl, (srcs_of [some 2] rfl rfl rfl), fun G a w S => ?_⟩
  refine sCall (X := Value) (f := 29) (vs := []) (val := c_raddlelaw37_made_val r27) (B' := fun _ => []) (D' := c_raddlelaw37_made_D r27) [] [eBox b60 73 [.string (⟨#[112, 108, 50, 32, 112, 56]⟩ : ByteArray), .string (⟨#[107, 102, 50, 32, 107, 55]⟩ : ByteArray), .string (⟨#[112, 108, 50, 32, 112, 54]⟩ : ByteArray), .string (⟨#[107, 102, 50, 32, 107, 53]⟩ : ByteArray)], eBox b58 30 [.slice ad54 r47.1.Left.length cp55, .slice ad56 r47.1.Right.length cp57], eBox b45 40 [iv r38.1.Start, .slice ad43 r38.1.Rows.length cp44], eBox b25 30 [.slice ad21 r14.1.Left.length cp22, .slice ad23 r14.1.Right.length cp24]] [] [0, 1, 2, 3] [] S (wG 2 false 29 rfl rfl rfl hc63) rfl callee29 rfl (by decide) rfl rfl (fun E1 w1 S1 => c_raddlelaw37_made E1 w1  r27 hx28 S1) rfl (lb rfl) fun u82 a w S => ?_
  obtain ⟨u83, u84, rfl, hu85, hu86⟩ := S.mem.know (i := 0) (e := fRep r_api_Piece (u82) r27) rfl
  have S := S.learn (fRep (rL (rI .i64)) u83 r27.Left) hu85
  obtain ⟨ad87, cp88, _, rfl, _⟩ := hu85
  have S := S.learn (fRep (rL (rI .i64)) u84 r27.Right) hu86
  obtain ⟨ad89, cp90, _, rfl, _⟩ := hu86
  refine leafL ⟨rfl, _, _, .inl ⟨31, (.agg #[.slice ad87 r27.Left.length cp88, .slice ad89 r27.Right.length cp90]), [(5, 32, .bool r73), (6, 33, .bool (!r73)), (7, 34, .bool (!r73)), (8, 35, .bool (!r73)), (9, 36, iv r38.2), (10, 37, .bool (r38.2 != 0)), (11, 38, .bool (r38.2 != 0)), (12, 39, .bool (r38.2 != 0)), (13, 40, .pointer (some ⟨b45, 0, none⟩)), (14, 41, iv r38.1.Start), (15, 42, .bool (r38.1.Start != 10)), (16, 43, .bool (r38.1.Start != 10)), (17, 44, .bool (r38.1.Start != 10)), (18, 45, .pointer (some ⟨b45, 1, none⟩)), (19, 46, .slice ad43 r38.1.Rows.length cp44), (20, 47, iv (r38.1.Rows.length : Int)), (21, 48, .bool ((r38.1.Rows.length : Int) != 4)), (22, 49, .bool ((r38.1.Rows.length : Int) != 4)), (23, 50, .bool ((r38.1.Rows.length : Int) != 4)), (24, 51, iv r47.2), (25, 52, .bool (r47.2 != 0)), (26, 53, .bool (r47.2 != 0)), (27, 54, .bool (r47.2 != 0)), (28, 55, .agg #[.slice ad54 r47.1.Left.length cp55, .slice ad56 r47.1.Right.length cp57]), (29, 56, .agg #[.slice ad21 r14.1.Left.length cp22, .slice ad23 r14.1.Right.length cp24]), (30, 57, .bool r80), (31, 58, .bool (!r80)), (32, 59, .bool (!r80))], rfl, S, hz_of rfl, ?_⟩⟩
  refine node_by (A := anc_raddlelaw37_alive_0) (nf := [4]) (Y := [4]) 33 (by kernel_rfl) (by kernel_rfl) (by kernel_rfl) (by kernel_rfl) (by kernel_rfl) [5, 6, 7, 8, 9, 10, 11, 12, 13, 14, 15, 16, 17, 18, 19, 20, 21, 22, 23, 24, 25, 26, 27, 28, 29, 30, 31, 32, 4, 0, 1, 2, 3] (by kernel_rfl) (by decide) (by decide) (aD 0 32 4 (by decide) (aD 1 31 4 (by decide) (aD 2 30 4 (by decide) (aF 3 29 (by decide) ?_ (aY 4 28 (by decide) (aF 5 27 (by decide) ?_ (aF 6 26 (by decide) ?_ (aF 7 25 (by decide) ?_ (aF 8 24 (by decide) ?_ (aF 9 23 (by decide) ?_ (aF 10 22 (by decide) ?_ (aF 11 21 (by decide) ?_ (aF 12 20 (by decide) ?_ (aF 13 19 (by decide) ?_ (aF 14 18 (by decide) ?_ (aF 15 17 (by decide) ?_ (aF 16 16 (by decide) ?_ (aF 17 15 (by decide) ?_ (aF 18 14 (by decide) ?_ (aF 19 13 (by decide) ?_ (aF 20 12 (by decide) ?_ (aF 21 11 (by decide) ?_ (aF 22 10 (by decide) ?_ (aF 23 9 (by decide) ?_ (aF 24 8 (by decide) ?_ (aF 25 7 (by decide) ?_ (aF 26 6 (by decide) ?_ (aF 27 5 (by decide) ?_ (aF 28 4 (by decide) ?_ (aF 29 3 (by decide) ?_ (aF 30 2 (by decide) ?_ (aF 31 1 (by decide) ?_ (aF 32 0 (by decide) ?_ (trivial)))))))))))))))))))))))))))))))))) [(3, .pointer (some ⟨b45, 0, none⟩)), (7, .pointer (some ⟨b60, 0, none⟩)), (59, .bool (!r80))] (fin_of [none, none, some 27] rfl (by kernel_rfl) (by kernel_rfl)) (fun _ a w S => ?_)
  · refine fI 30 (.agg #[.slice ad21 r14.1.Left.length cp22, .slice ad23 r14.1.Right.length cp24]) [(1, .pointer (some ⟨b25, 0, none⟩)), (29, .bool (r14.2 != 0))] 32 [none, some 31] rfl rfl rfl rfl rfl rfl fun G a w S => ?_
    refine sLoadN (p := b25) (off := 0) (T := 30) (vs := [.slice ad21 r14.1.Left.length cp22, .slice ad23 r14.1.Right.length cp24]) 3 [.slice ad21 r14.1.Left.length cp22, .slice ad23 r14.1.Right.length cp24] S (wG 2 false 29 rfl rfl rfl hc63) rfl rfl rfl rfl rfl rfl rfl (lb rfl) fun a S => ?_
    exact leafL ⟨rfl, S⟩
  · refine fI 32 (.bool r73) [(30, .agg #[.slice ad21 r14.1.Left.length cp22, .slice ad23 r14.1.Right.length cp24]), (31, .agg #[.slice ad87 r27.Left.length cp88, .slice ad89 r27.Right.length cp90]), (29, .bool (r14.2 != 0))] 0 [some 32, some 28, some 31] rfl rfl rfl rfl rfl rfl fun G a w S => ?_
    have S1 := S.mem
    refine sCallQ (X := Unit) (f := 19) (vs := [.agg #[.slice ad21 r14.1.Left.length cp22, .slice ad23 r14.1.Right.length cp24], .agg #[.slice ad87 r27.Left.length cp88, .slice ad89 r27.Right.length cp90]]) (val := fun _ => .bool r73) S (wG 2 false 29 rfl rfl rfl hc63) rfl callee19 rfl (S1.quiet [13, 2] rfl) (fun E1 w1 S1 => c_raddleref37_Same E1 w1 r14.1 (.agg #[.slice ad21 r14.1.Left.length cp22, .slice ad23 r14.1.Right.length cp24]) r27 (.agg #[.slice ad87 r27.Left.length cp88, .slice ad89 r27.Right.length cp90]) r73 hx74 S1) rfl (lb rfl) fun _ a w S => ?_
    exact leafL ⟨rfl, S⟩
  · refine fI 33 (.bool (!r73)) [(32, .bool r73), (29, .bool (r14.2 != 0))] 1 [some 0, some 31] rfl rfl rfl rfl rfl rfl fun G a w S => ?_
    refine sNot (b := r73) S (wG 2 false 29 rfl rfl rfl hc63) rfl rfl rfl (lb rfl) fun a S => ?_
    exact leafL ⟨rfl, S⟩
  · refine fI 34 (.bool (!r73)) [(29, .bool (r14.2 != 0)), (33, .bool (!r73))] 2 [some 31, some 1] rfl rfl rfl rfl rfl rfl fun G a w S => ?_
    refine sPickF (.bool (!r73)) S (wN rfl) rfl rfl hc63 rfl rfl (lb rfl) fun a S => ?_
    exact leafL ⟨rfl, S⟩
  · refine fI 35 (.bool (!r73)) [(34, .bool (!r73))] 3 [some 2] rfl rfl rfl rfl rfl rfl fun G a w S => ?_
    refine sMove (.bool (!r73)) S (wN rfl) (.inl rfl) rfl rfl (lb rfl) fun a S => ?_
    exact leafL ⟨rfl, S⟩
  · refine fI 36 (iv r38.2) [(4, iv r38.2), (35, .bool (!r73))] 4 [none, some 3] rfl rfl rfl rfl rfl rfl fun G a w S => ?_
    refine sMove (iv r38.2) S (wG 8 false 35 rfl rfl rfl hc75) (.inl rfl) rfl rfl (lb rfl) fun a S => ?_
    exact leafL ⟨rfl, S⟩
  · refine fI 37 (.bool (r38.2 != 0)) [(36, iv r38.2), (35, .bool (!r73))] 5 [some 4, some 3] rfl rfl rfl rfl rfl rfl fun G a w S => ?_
    refine sBin (.bool (r38.2 != 0)) S (wG 8 false 35 rfl rfl rfl hc75) rfl rfl rfl (bNe _ _ _ _ .i64 r38.2 0) rfl (lb rfl) fun a S => ?_
    exact leafL ⟨rfl, S⟩
  · refine fI 38 (.bool (r38.2 != 0)) [(35, .bool (!r73)), (37, .bool (r38.2 != 0))] 6 [some 3, some 5] rfl rfl rfl rfl rfl rfl fun G a w S => ?_
    refine sPickF (.bool (r38.2 != 0)) S (wN rfl) rfl rfl hc75 rfl rfl (lb rfl) fun a S => ?_
    exact leafL ⟨rfl, S⟩
  · refine fI 39 (.bool (r38.2 != 0)) [(38, .bool (r38.2 != 0))] 7 [some 6] rfl rfl rfl rfl rfl rfl fun G a w S => ?_
    refine sMove (.bool (r38.2 != 0)) S (wN rfl) (.inl rfl) rfl rfl (lb rfl) fun a S => ?_
    exact leafL ⟨rfl, S⟩
  · refine fI 40 (.pointer (some ⟨b45, 0, none⟩)) [(3, .pointer (some ⟨b45, 0, none⟩)), (39, .bool (r38.2 != 0))] 8 [none, some 7] rfl rfl rfl rfl rfl rfl fun G a w S => ?_
    refine sField (b := b45) (off := 0) 0 0 S (wG 12 false 39 rfl rfl rfl hc76) rfl rfl rfl rfl rfl (lb rfl) fun a S => ?_
    exact leafL ⟨rfl, S⟩
  · refine fI 41 (iv r38.1.Start) [(40, .pointer (some ⟨b45, 0, none⟩)), (39, .bool (r38.2 != 0))] 9 [some 8, some 7] rfl rfl rfl rfl rfl rfl fun G a w S => ?_
    refine sLoad1 (p := b45) (off := 0) (T := 40) (vs := [iv r38.1.Start, .slice ad43 r38.1.Rows.length cp44]) 2 (iv r38.1.Start) S (wG 12 false 39 rfl rfl rfl hc76) rfl rfl rfl rfl rfl rfl (lb rfl) fun a S => ?_
    exact leafL ⟨rfl, S⟩
  · refine fI 42 (.bool (r38.1.Start != 10)) [(41, iv r38.1.Start), (39, .bool (r38.2 != 0))] 10 [some 9, some 7] rfl rfl rfl rfl rfl rfl fun G a w S => ?_
    refine sBin (.bool (r38.1.Start != 10)) S (wG 12 false 39 rfl rfl rfl hc76) rfl rfl rfl (bNe _ _ _ _ .i64 r38.1.Start 10) rfl (lb rfl) fun a S => ?_
    exact leafL ⟨rfl, S⟩
  · refine fI 43 (.bool (r38.1.Start != 10)) [(39, .bool (r38.2 != 0)), (42, .bool (r38.1.Start != 10))] 11 [some 7, some 10] rfl rfl rfl rfl rfl rfl fun G a w S => ?_
    refine sPickF (.bool (r38.1.Start != 10)) S (wN rfl) rfl rfl hc76 rfl rfl (lb rfl) fun a S => ?_
    exact leafL ⟨rfl, S⟩
  · refine fI 44 (.bool (r38.1.Start != 10)) [(43, .bool (r38.1.Start != 10))] 12 [some 11] rfl rfl rfl rfl rfl rfl fun G a w S => ?_
    refine sMove (.bool (r38.1.Start != 10)) S (wN rfl) (.inl rfl) rfl rfl (lb rfl) fun a S => ?_
    exact leafL ⟨rfl, S⟩
  · refine fI 45 (.pointer (some ⟨b45, 1, none⟩)) [(3, .pointer (some ⟨b45, 0, none⟩)), (44, .bool (r38.1.Start != 10))] 13 [none, some 12] rfl rfl rfl rfl rfl rfl fun G a w S => ?_
    refine sField (b := b45) (off := 0) 1 1 S (wG 17 false 44 rfl rfl rfl hc77) rfl rfl rfl rfl rfl (lb rfl) fun a S => ?_
    exact leafL ⟨rfl, S⟩
  · refine fI 46 (.slice ad43 r38.1.Rows.length cp44) [(45, .pointer (some ⟨b45, 1, none⟩)), (44, .bool (r38.1.Start != 10))] 14 [some 13, some 12] rfl rfl rfl rfl rfl rfl fun G a w S => ?_
    refine sLoad1 (p := b45) (off := 1) (T := 40) (vs := [iv r38.1.Start, .slice ad43 r38.1.Rows.length cp44]) 2 (.slice ad43 r38.1.Rows.length cp44) S (wG 17 false 44 rfl rfl rfl hc77) rfl rfl rfl rfl rfl rfl (lb rfl) fun a S => ?_
    exact leafL ⟨rfl, S⟩
  · refine fI 47 (iv (r38.1.Rows.length : Int)) [(46, .slice ad43 r38.1.Rows.length cp44), (44, .bool (r38.1.Start != 10))] 15 [some 14, some 12] rfl rfl rfl rfl rfl rfl fun G a w S => ?_
    refine sLen (ad := ad43) (m := r38.1.Rows.length) (c := cp44) S (wG 17 false 44 rfl rfl rfl hc77) rfl Tryd.underlying38 rfl rfl (lb rfl) fun a S => ?_
    exact leafL ⟨rfl, S⟩
  · refine fI 48 (.bool ((r38.1.Rows.length : Int) != 4)) [(47, iv (r38.1.Rows.length : Int)), (44, .bool (r38.1.Start != 10))] 16 [some 15, some 12] rfl rfl rfl rfl rfl rfl fun G a w S => ?_
    refine sBin (.bool ((r38.1.Rows.length : Int) != 4)) S (wG 17 false 44 rfl rfl rfl hc77) rfl rfl rfl (bNe _ _ _ _ .i64 (r38.1.Rows.length : Int) 4) rfl (lb rfl) fun a S => ?_
    exact leafL ⟨rfl, S⟩
  · refine fI 49 (.bool ((r38.1.Rows.length : Int) != 4)) [(44, .bool (r38.1.Start != 10)), (48, .bool ((r38.1.Rows.length : Int) != 4))] 17 [some 12, some 16] rfl rfl rfl rfl rfl rfl fun G a w S => ?_
    refine sPickF (.bool ((r38.1.Rows.length : Int) != 4)) S (wN rfl) rfl rfl hc77 rfl rfl (lb rfl) fun a S => ?_
    exact leafL ⟨rfl, S⟩
  · refine fI 50 (.bool ((r38.1.Rows.length : Int) != 4)) [(49, .bool ((r38.1.Rows.length : Int) != 4))] 18 [some 17] rfl rfl rfl rfl rfl rfl fun G a w S => ?_
    refine sMove (.bool ((r38.1.Rows.length : Int) != 4)) S (wN rfl) (.inl rfl) rfl rfl (lb rfl) fun a S => ?_
    exact leafL ⟨rfl, S⟩
  · refine fI 51 (iv r47.2) [(6, iv r47.2), (50, .bool ((r38.1.Rows.length : Int) != 4))] 19 [none, some 18] rfl rfl rfl rfl rfl rfl fun G a w S => ?_
    refine sMove (iv r47.2) S (wG 23 false 50 rfl rfl rfl hc78) (.inl rfl) rfl rfl (lb rfl) fun a S => ?_
    exact leafL ⟨rfl, S⟩
  · refine fI 52 (.bool (r47.2 != 0)) [(51, iv r47.2), (50, .bool ((r38.1.Rows.length : Int) != 4))] 20 [some 19, some 18] rfl rfl rfl rfl rfl rfl fun G a w S => ?_
    refine sBin (.bool (r47.2 != 0)) S (wG 23 false 50 rfl rfl rfl hc78) rfl rfl rfl (bNe _ _ _ _ .i64 r47.2 0) rfl (lb rfl) fun a S => ?_
    exact leafL ⟨rfl, S⟩
  · refine fI 53 (.bool (r47.2 != 0)) [(50, .bool ((r38.1.Rows.length : Int) != 4)), (52, .bool (r47.2 != 0))] 21 [some 18, some 20] rfl rfl rfl rfl rfl rfl fun G a w S => ?_
    refine sPickF (.bool (r47.2 != 0)) S (wN rfl) rfl rfl hc78 rfl rfl (lb rfl) fun a S => ?_
    exact leafL ⟨rfl, S⟩
  · refine fI 54 (.bool (r47.2 != 0)) [(53, .bool (r47.2 != 0))] 22 [some 21] rfl rfl rfl rfl rfl rfl fun G a w S => ?_
    refine sMove (.bool (r47.2 != 0)) S (wN rfl) (.inl rfl) rfl rfl (lb rfl) fun a S => ?_
    exact leafL ⟨rfl, S⟩
  · refine fI 55 (.agg #[.slice ad54 r47.1.Left.length cp55, .slice ad56 r47.1.Right.length cp57]) [(5, .pointer (some ⟨b58, 0, none⟩)), (54, .bool (r47.2 != 0))] 23 [none, some 22] rfl rfl rfl rfl rfl rfl fun G a w S => ?_
    refine sLoadN (p := b58) (off := 0) (T := 30) (vs := [.slice ad54 r47.1.Left.length cp55, .slice ad56 r47.1.Right.length cp57]) 1 [.slice ad54 r47.1.Left.length cp55, .slice ad56 r47.1.Right.length cp57] S (wG 27 false 54 rfl rfl rfl hc79) rfl rfl rfl rfl rfl rfl rfl (lb rfl) fun a S => ?_
    exact leafL ⟨rfl, S⟩
  · refine fI 56 (.agg #[.slice ad21 r14.1.Left.length cp22, .slice ad23 r14.1.Right.length cp24]) [(1, .pointer (some ⟨b25, 0, none⟩)), (54, .bool (r47.2 != 0))] 24 [none, some 22] rfl rfl rfl rfl rfl rfl fun G a w S => ?_
    refine sLoadN (p := b25) (off := 0) (T := 30) (vs := [.slice ad21 r14.1.Left.length cp22, .slice ad23 r14.1.Right.length cp24]) 3 [.slice ad21 r14.1.Left.length cp22, .slice ad23 r14.1.Right.length cp24] S (wG 27 false 54 rfl rfl rfl hc79) rfl rfl rfl rfl rfl rfl rfl (lb rfl) fun a S => ?_
    exact leafL ⟨rfl, S⟩
  · refine fI 57 (.bool r80) [(55, .agg #[.slice ad54 r47.1.Left.length cp55, .slice ad56 r47.1.Right.length cp57]), (56, .agg #[.slice ad21 r14.1.Left.length cp22, .slice ad23 r14.1.Right.length cp24]), (54, .bool (r47.2 != 0))] 25 [some 23, some 24, some 22] rfl rfl rfl rfl rfl rfl fun G a w S => ?_
    have S1 := S.mem
    refine sCallQ (X := Unit) (f := 19) (vs := [.agg #[.slice ad54 r47.1.Left.length cp55, .slice ad56 r47.1.Right.length cp57], .agg #[.slice ad21 r14.1.Left.length cp22, .slice ad23 r14.1.Right.length cp24]]) (val := fun _ => .bool r80) S (wG 27 false 54 rfl rfl rfl hc79) rfl callee19 rfl (S1.quiet [5, 13] rfl) (fun E1 w1 S1 => c_raddleref37_Same E1 w1 r47.1 (.agg #[.slice ad54 r47.1.Left.length cp55, .slice ad56 r47.1.Right.length cp57]) r14.1 (.agg #[.slice ad21 r14.1.Left.length cp22, .slice ad23 r14.1.Right.length cp24]) r80 hx81 S1) rfl (lb rfl) fun _ a w S => ?_
    exact leafL ⟨rfl, S⟩
  · refine fI 58 (.bool (!r80)) [(57, .bool r80), (54, .bool (r47.2 != 0))] 26 [some 25, some 22] rfl rfl rfl rfl rfl rfl fun G a w S => ?_
    refine sNot (b := r80) S (wG 27 false 54 rfl rfl rfl hc79) rfl rfl rfl (lb rfl) fun a S => ?_
    exact leafL ⟨rfl, S⟩
  · refine fI 59 (.bool (!r80)) [(54, .bool (r47.2 != 0)), (58, .bool (!r80))] 27 [some 22, some 26] rfl rfl rfl rfl rfl rfl fun G a w S => ?_
    refine sPickF (.bool (!r80)) S (wN rfl) rfl rfl hc79 rfl rfl (lb rfl) fun a S => ?_
    exact leafL ⟨rfl, S⟩
  refine leafT (hK62 _ _ ?_)
  rcases iteSome h with ⟨hc91, h⟩ | ⟨hc91, h⟩
  · exact absurd hc91 (by rw [hv_r80]; decide)
  refine sCondF S rfl hc91 ?_
  refine wp_skip (leafT (hK61 _ _ ?_))
  obtain ⟨t92, h, g93⟩ := bindSome h
  refine sCut (fun a w => .inl () = t92 ∧ St [] E [] w0 95 a w [] [] []) ?_ (fun a w hI => ?_)
  rotate_left
  · obtain ⟨rfl, S⟩ := hI
    have h := g93
    clear g93
    try dsimp only at h
    refine sSeq (fun K131 hK131 => ?_)
    refine sRegion ?_
    refine sMove (.bool true) S (wN rfl) (.inr rfl) rfl rfl (lb rfl) fun a S => ?_
    refine leafL (leafT (hK131 _ _ ?_))
    obtain rfl := Option.some.inj h
    exact wp_ret (sRet (.bool true) S (rsl1 rfl (rvT (t := 0) (v := .bool true) S rfl)) ⟨(), rfl, S.mem.sel [] [] (by decide) rfl rfl⟩)
  refine sSeq (fun K94 hK94 => ?_)
  refine sRegion ?_
  refine sMove (iv 0) S (wN rfl) (.inr rfl) rfl rfl (lb rfl) fun a S => ?_
  refine leafL (leafT (hK94 _ _ ?_))
  refine wp_block ?_
  obtain ⟨t98, hl, g97⟩ := bindSome h
  refine sLoop hl (fun s0 a w => match s0 with | s95 => St [] E [] w0 95 a w [(3, .pointer (some ⟨b45, 0, none⟩)), (7, .pointer (some ⟨b60, 0, none⟩)), (8, iv s95)] [eBox b45 40 [iv r38.1.Start, .slice ad43 r38.1.Rows.length cp44], eBox b60 73 [.string (⟨#[112, 108, 50, 32, 112, 56]⟩ : ByteArray), .string (⟨#[107, 102, 50, 32, 107, 55]⟩ : ByteArray), .string (⟨#[112, 108, 50, 32, 112, 54]⟩ : ByteArray), .string (⟨#[107, 102, 50, 32, 107, 53]⟩ : ByteArray)]] [fRep (rL r_api_Row) (.slice ad43 r38.1.Rows.length cp44) r38.1.Rows]) (S.fix [2, 0] [6] (by decide) rfl rfl rfl) ?_
  clear hl h
  intro s95 a w c0 hI h hu96
  unfold raddlelaw37_alive_l1 at h
  dsimp only at h hI
  have S := hI
  refine sSeq (fun K99 hK99 => ?_)
  refine sSeq (fun K100 hK100 => ?_)
  refine sRegion ?_
  refine sMove (iv s95) S (wN rfl) (.inl rfl) rfl rfl (lb rfl) fun a S => ?_
  refine sBin (.bool (decide (s95 < 4))) S (wN rfl) rfl rfl rfl (bLt _ _ _ _ .i64 s95 4) rfl (lb rfl) fun a S => ?_
  refine leafL (leafT (hK100 _ _ ?_))
  rcases iteSome h with ⟨hc101, h⟩ | ⟨hc101, h⟩
  rotate_left
  · refine sCondF S rfl hc101 ?_
    obtain rfl := Option.some.inj h
    obtain rfl := hu96 _ rfl
    have h := g97
    clear g97
    try dsimp only at h
    exact wp_exit (xThen (xThen (xHit (leafT (⟨Option.some.inj h, S.fix [] [] (by decide) rfl rfl rfl⟩)))))
  refine sCondT S rfl hc101 ?_
  refine wp_skip (leafT (hK99 _ _ ?_))
  refine sSeq (fun K102 hK102 => ?_)
  refine wp_block ?_
  refine sSeq (fun K103 hK103 => ?_)
  refine sRegion ?_
  refine sField (b := b45) (off := 0) 1 1 S (wN rfl) rfl rfl rfl rfl rfl (lb rfl) fun a S => ?_
  refine sLoad1 (p := b45) (off := 1) (T := 40) (vs := [iv r38.1.Start, .slice ad43 r38.1.Rows.length cp44]) 0 (.slice ad43 r38.1.Rows.length cp44) S (wN rfl) rfl rfl rfl rfl rfl rfl (lb rfl) fun a S => ?_
  refine sMove (iv s95) S (wN rfl) (.inl rfl) rfl rfl (lb rfl) fun a S => ?_
  obtain ⟨x104, hx105, h⟩ := bindSome h
  obtain ⟨q106, hq107, S⟩ := pIdx (P := Tryd.prog) (r := r_api_Row) (v := .slice ad43 r38.1.Rows.length cp44) (xs := r38.1.Rows) (j := s95) 38 54 0 S Tryd.underlying38 rfl rfl hx105
  refine sIdxV (v := .slice ad43 r38.1.Rows.length cp44) (k := .i64) (j := s95) S (wN rfl) rfl rfl rfl hq107 rfl (lb rfl) fun a S => ?_
  obtain ⟨q108, hq109, S⟩ := pFld (P := Tryd.prog) (r := r_api_Row) (s2 := (rL r_api_Stitch)) (g := (·.Cells)) (q := q106) (z := x104) 54 1 0 1 S rfl rfl comp_api_Row_Cells
  refine sFldV (q := q106) S (wN rfl) rfl rfl hq109 rfl (lb rfl) fun a S => ?_
  obtain ⟨u110, S⟩ := pLoad (r := (rL r_api_Stitch)) (q := q108) (x := x104.Cells) 0 S rfl
  obtain ⟨ad111, cp112, _, rfl, _⟩ := S.mem.know (i := 1) (e := fRep (rL r_api_Stitch) (u110) x104.Cells) rfl
  refine sLoadV1 (vq := q108) 0 (.slice ad111 x104.Cells.length cp112) S (wN rfl) rfl rfl rfl rfl rfl (lb rfl) fun a S => ?_
  obtain ⟨r113, hx114, h⟩ := bindSome h
  have S1 := S.mem
  refine sCallQ (X := Unit) (f := 33) (vs := [.slice ad111 x104.Cells.length cp112]) (val := fun _ => .tuple #[.string r113.1, iv r113.2]) S (wN rfl) rfl callee33 rfl (S1.quiet [1] rfl) (fun E1 w1 S1 => c_stitch_Text E1 w1 x104.Cells (.slice ad111 x104.Cells.length cp112) r113 hx114 S1) rfl (lb rfl) fun _ a w S => ?_
  refine sMove (.tuple #[.string r113.1, iv r113.2]) S (wN rfl) (.inl rfl) rfl rfl (lb rfl) fun a S => ?_
  refine sExtract (vs := [.string r113.1, iv r113.2]) (.string r113.1) S (wN rfl) rfl rfl rfl rfl (lb rfl) fun a S => ?_
  refine sExtract (vs := [.string r113.1, iv r113.2]) (iv r113.2) S (wN rfl) rfl rfl rfl rfl (lb rfl) fun a S => ?_
  refine sMove (.string r113.1) S (wN rfl) (.inr rfl) rfl rfl (lb rfl) fun a S => ?_
  refine sMove (iv r113.2) S (wN rfl) (.inr rfl) rfl rfl (lb rfl) fun a S => ?_
  refine leafL (leafT (hK103 _ _ ?_))
  obtain ⟨t116, h, g117⟩ := bindSome h
  refine sCut (fun a w => ∃ o115, o115 = t116 ∧ St [] E [] w0 95 a w [(3, .pointer (some ⟨b45, 0, none⟩)), (7, .pointer (some ⟨b60, 0, none⟩)), (8, iv s95), (94, .bool o115)] [eBox b45 40 [iv r38.1.Start, .slice ad43 r38.1.Rows.length cp44], eBox b60 73 [.string (⟨#[112, 108, 50, 32, 112, 56]⟩ : ByteArray), .string (⟨#[107, 102, 50, 32, 107, 55]⟩ : ByteArray), .string (⟨#[112, 108, 50, 32, 112, 54]⟩ : ByteArray), .string (⟨#[107, 102, 50, 32, 107, 53]⟩ : ByteArray)]] [fRep (rL r_api_Row) (.slice ad43 r38.1.Rows.length cp44) r38.1.Rows]) ?_ (fun a w hI => ?_)
  rotate_left
  · obtain ⟨o115, rfl, S⟩ := hI
    have h := g117
    clear g117
    try dsimp only at h
    rcases iteSome h with ⟨hc129, h⟩ | ⟨hc129, h⟩
    rotate_left
    · refine sCondF S rfl hc129 ?_
      refine wp_skip (leafB (leafT (hK102 _ _ ?_)))
      refine sRegion ?_
      refine sMove (iv s95) S (wN rfl) (.inl rfl) rfl rfl (lb rfl) fun a S => ?_
      refine sBin (iv (w64 (s95 + 1))) S (wN rfl) rfl rfl rfl (bAdd _ _ _ _ s95 1) rfl (lb rfl) fun a S => ?_
      refine sMove (iv (w64 (s95 + 1))) S (wN rfl) (.inr rfl) rfl rfl (lb rfl) fun a S => ?_
      exact leafL (leafT (⟨w64 (s95 + 1), (Option.some.inj h).symm, (S.fix [0, 1] [0] (by decide) rfl rfl rfl)⟩))
    refine sCondT S rfl hc129 ?_
    refine sSeq (fun K130 hK130 => ?_)
    refine sRegion ?_
    refine sMove (.bool false) S (wN rfl) (.inr rfl) rfl rfl (lb rfl) fun a S => ?_
    refine leafL (leafT (hK130 _ _ ?_))
    obtain rfl := Option.some.inj h
    obtain rfl := hu96 _ rfl
    have h := g97
    clear g97
    try dsimp only at h
    obtain rfl := Option.some.inj h
    have h := g93
    clear g93
    try dsimp only at h
    obtain rfl := Option.some.inj h
    exact wp_ret (rBlock (rThen (rThen (rBlock (rThen (sRet (.bool false) S (rsl1 rfl (rvT (t := 0) (v := .bool false) S rfl)) ⟨(), rfl, S.mem.sel [] [] (by decide) rfl rfl⟩))))))
  refine sRegion ?_
  refine sMove (iv r113.2) S (wN rfl) (.inl rfl) rfl rfl (lb rfl) fun a S => ?_
  refine sBin (.bool (r113.2 != 0)) S (wN rfl) rfl rfl rfl (bNe _ _ _ _ .i64 r113.2 0) rfl (lb rfl) fun a S => ?_
  refine sMove (.bool (r113.2 != 0)) S (wN rfl) (.inl rfl) rfl rfl (lb rfl) fun a S => ?_
  rcases iteSome h with ⟨hc118, h⟩ | ⟨hc118, h⟩
  · refine sSkip 2 false 76 77 S rfl rfl rfl hc118 rfl (lb rfl) fun a S => ?_
    refine sSkip 2 false 76 78 S rfl rfl rfl hc118 rfl (lb rfl) fun a S => ?_
    refine sSkip 2 false 76 79 S rfl rfl rfl hc118 rfl (lb rfl) fun a S => ?_
    refine sSkip 2 false 76 80 S rfl rfl rfl hc118 rfl (lb rfl) fun a S => ?_
    refine sSkip 2 false 76 81 S rfl rfl rfl hc118 rfl (lb rfl) fun a S => ?_
    refine sPickT (.bool true) S (wN rfl) rfl rfl hc118 rfl rfl (lb rfl) fun a S => ?_
    refine sMove (.bool true) S (wN rfl) (.inl rfl) rfl rfl (lb rfl) fun a S => ?_
    refine sSkip 9 false 83 84 S rfl rfl rfl rfl rfl (lb rfl) fun a S => ?_
    refine sSkip 9 false 83 85 S rfl rfl rfl rfl rfl (lb rfl) fun a S => ?_
    refine sSkip 9 false 83 86 S rfl rfl rfl rfl rfl (lb rfl) fun a S => ?_
    refine sSkip 9 false 83 87 S rfl rfl rfl rfl rfl (lb rfl) fun a S => ?_
    refine sSkip 9 false 83 88 S rfl rfl rfl rfl rfl (lb rfl) fun a S => ?_
    refine sSkip 9 false 83 89 S rfl rfl rfl rfl rfl (lb rfl) fun a S => ?_
    refine sSkip 9 false 83 90 S rfl rfl rfl rfl rfl (lb rfl) fun a S => ?_
    refine sSkip 9 false 83 91 S rfl rfl rfl rfl rfl (lb rfl) fun a S => ?_
    refine sSkip 9 false 83 92 S rfl rfl rfl rfl rfl (lb rfl) fun a S => ?_
    refine sSkip 9 false 83 93 S rfl rfl rfl rfl rfl (lb rfl) fun a S => ?_
    refine sPickT (.bool true) S (wN rfl) rfl rfl rfl rfl rfl (lb rfl) fun a S => ?_
    exact leafL (leafT (⟨true, Option.some.inj h, S.fix [0, 1] [4] (by decide) rfl rfl rfl⟩))
  refine sMove (.string r113.1) S (wG 2 false 76 rfl rfl rfl hc118) (.inl rfl) rfl rfl (lb rfl) fun a S => ?_
  refine sMove (iv s95) S (wG 2 false 76 rfl rfl rfl hc118) (.inl rfl) rfl rfl (lb rfl) fun a S => ?_
  obtain ⟨x119, hx120, h⟩ := bindSome h
  refine sIdxV (v := .pointer (some ⟨b60, 0, none⟩)) (k := .i64) (j := s95) (q := .pointer (some ⟨b60, 0 + (s95).toNat * 1, none⟩)) S (wG 2 false 76 rfl rfl rfl hc118) rfl rfl rfl (idxV_arr (m := 4) (sz := 1) Tryd.underlying73 rfl (idxO_rng (m := 4) hx120 rfl).1 (idxO_rng (m := 4) hx120 rfl).2 0) rfl (lb rfl) fun a S => ?_
  refine sLoad1 (p := b60) (off := 0 + (s95).toNat * 1) (T := 73) (vs := [.string (⟨#[112, 108, 50, 32, 112, 56]⟩ : ByteArray), .string (⟨#[107, 102, 50, 32, 107, 55]⟩ : ByteArray), .string (⟨#[112, 108, 50, 32, 112, 54]⟩ : ByteArray), .string (⟨#[107, 102, 50, 32, 107, 53]⟩ : ByteArray)]) 1 (.string x119) S (wG 2 false 76 rfl rfl rfl hc118) rfl rfl rfl rfl (box_at (g := (fun z => .string z)) [] [] 0 hx120 rfl rfl) rfl (lb rfl) fun a S => ?_
  refine sBin (.bool (r113.1 != x119)) S (wG 2 false 76 rfl rfl rfl hc118) rfl rfl rfl (bNeS _ _ _ _ r113.1 x119) rfl (lb rfl) fun a S => ?_
  refine sPickF (.bool (r113.1 != x119)) S (wN rfl) rfl rfl hc118 rfl rfl (lb rfl) fun a S => ?_
  refine sMove (.bool (r113.1 != x119)) S (wN rfl) (.inl rfl) rfl rfl (lb rfl) fun a S => ?_
  rcases iteSome h with ⟨hc121, h⟩ | ⟨hc121, h⟩
  · refine sSkip 9 false 83 84 S rfl rfl rfl hc121 rfl (lb rfl) fun a S => ?_
    refine sSkip 9 false 83 85 S rfl rfl rfl hc121 rfl (lb rfl) fun a S => ?_
    refine sSkip 9 false 83 86 S rfl rfl rfl hc121 rfl (lb rfl) fun a S => ?_
    refine sSkip 9 false 83 87 S rfl rfl rfl hc121 rfl (lb rfl) fun a S => ?_
    refine sSkip 9 false 83 88 S rfl rfl rfl hc121 rfl (lb rfl) fun a S => ?_
    refine sSkip 9 false 83 89 S rfl rfl rfl hc121 rfl (lb rfl) fun a S => ?_
    refine sSkip 9 false 83 90 S rfl rfl rfl hc121 rfl (lb rfl) fun a S => ?_
    refine sSkip 9 false 83 91 S rfl rfl rfl hc121 rfl (lb rfl) fun a S => ?_
    refine sSkip 9 false 83 92 S rfl rfl rfl hc121 rfl (lb rfl) fun a S => ?_
    refine sSkip 9 false 83 93 S rfl rfl rfl hc121 rfl (lb rfl) fun a S => ?_
    refine sPickT (.bool true) S (wN rfl) rfl rfl hc121 rfl rfl (lb rfl) fun a S => ?_
    exact leafL (leafT (⟨true, Option.some.inj h, S.fix [0, 1] [4] (by decide) rfl rfl rfl⟩))
  refine sField (b := b45) (off := 0) 1 1 S (wG 9 false 83 rfl rfl rfl hc121) rfl rfl rfl rfl rfl (lb rfl) fun a S => ?_
  refine sLoad1 (p := b45) (off := 1) (T := 40) (vs := [iv r38.1.Start, .slice ad43 r38.1.Rows.length cp44]) 0 (.slice ad43 r38.1.Rows.length cp44) S (wG 9 false 83 rfl rfl rfl hc121) rfl rfl rfl rfl rfl rfl (lb rfl) fun a S => ?_
  refine sMove (iv s95) S (wG 9 false 83 rfl rfl rfl hc121) (.inl rfl) rfl rfl (lb rfl) fun a S => ?_
  obtain ⟨q122, hq123, S⟩ := pIdx (P := Tryd.prog) (r := r_api_Row) (v := .slice ad43 r38.1.Rows.length cp44) (xs := r38.1.Rows) (j := s95) 38 54 4 S Tryd.underlying38 rfl rfl hx105
  refine sIdxV (v := .slice ad43 r38.1.Rows.length cp44) (k := .i64) (j := s95) S (wG 9 false 83 rfl rfl rfl hc121) rfl rfl rfl hq123 rfl (lb rfl) fun a S => ?_
  obtain ⟨q124, hq125, S⟩ := pFld (P := Tryd.prog) (r := r_api_Row) (s2 := rB) (g := (·.Back)) (q := q122) (z := x104) 54 0 0 0 S rfl rfl comp_api_Row_Back
  refine sFldV (q := q122) S (wG 9 false 83 rfl rfl rfl hc121) rfl rfl hq125 rfl (lb rfl) fun a S => ?_
  obtain ⟨u126, S⟩ := pLoad (r := rB) (q := q124) (x := x104.Back) 0 S rfl
  obtain rfl : u126 = .bool x104.Back := S.mem.know (i := 1) (e := fRep rB (u126) x104.Back) rfl
  refine sLoadV1 (vq := q124) 0 (.bool x104.Back) S (wG 9 false 83 rfl rfl rfl hc121) rfl rfl rfl rfl rfl (lb rfl) fun a S => ?_
  refine sMove (iv s95) S (wG 9 false 83 rfl rfl rfl hc121) (.inl rfl) rfl rfl (lb rfl) fun a S => ?_
  obtain ⟨z127, hx128, h⟩ := bindSome h
  refine sBin (iv z127) S (wG 9 false 83 rfl rfl rfl hc121) rfl rfl rfl (bRem _ _ _ _ (x := s95) (y := 2) hx128) rfl (lb rfl) fun a S => ?_
  refine sBin (.bool (z127 == 0)) S (wG 9 false 83 rfl rfl rfl hc121) rfl rfl rfl (bEq _ _ _ _ .i64 z127 0) rfl (lb rfl) fun a S => ?_
  refine sBin (.bool (x104.Back != (z127 == 0))) S (wG 9 false 83 rfl rfl rfl hc121) rfl rfl rfl (bNeB _ _ _ _ Tryd.underlying4 x104.Back (z127 == 0)) rfl (lb rfl) fun a S => ?_
  refine sPickF (.bool (x104.Back != (z127 == 0))) S (wN rfl) rfl rfl hc121 rfl rfl (lb rfl) fun a S => ?_
  exact leafL (leafT (⟨x104.Back != (z127 == 0), Option.some.inj h, S.fix [0, 1] [8] (by decide) rfl rfl rfl⟩))

end Go.Proofs.YtmedbnjhgkcndaaDoor
namespace Go.Proofs.YtmedbnjhgkcndaaDoor
open Go.RowKit
set_option linter.unusedVariables false

def K_raddlelaw37_alive_l1 (r38 : (api_Chart × Int)) : Int → Option (Int ⊕ (Bool ⊕ Unit)) := fun s0 => match s0 with
  | s95 =>
    if decide (s95 < 4) then
      Option.bind (idxO r38.1.Rows s95) fun x104 =>
      Option.bind (K_stitch_Text x104.Cells) fun r113 =>
      Option.bind (α := Bool) (
        if r113.2 != 0 then
          some true
        else
          Option.bind (idxO ([(⟨#[112, 108, 50, 32, 112, 56]⟩ : ByteArray), (⟨#[107, 102, 50, 32, 107, 55]⟩ : ByteArray), (⟨#[112, 108, 50, 32, 112, 54]⟩ : ByteArray), (⟨#[107, 102, 50, 32, 107, 53]⟩ : ByteArray)] : List ByteArray) s95) fun x119 =>
          if r113.1 != x119 then
            some true
          else
            Option.bind (remI s95 2) fun z127 =>
            some (x104.Back != (z127 == 0))) fun o115 =>
      if o115 then
        some (.inr (.inl false))
      else
        some (.inl (w64 (s95 + 1)))
    else
      some (.inr (.inr ()))
def K_raddlelaw37_alive  : Option Bool :=
  Option.bind (K_raddlelaw37_given) fun r3 =>
  Option.bind (K_piece_Make r3) fun r14 =>
  Option.bind (K_raddlelaw37_made) fun r27 =>
  Option.bind (K_piece_Chart r27) fun r38 =>
  Option.bind (K_piece_Read r38.1 0) fun r47 =>
  if r14.2 != 0 then
    none
  else
    Option.bind (K_raddleref37_Same r14.1 r27) fun r73 =>
    if !r73 then
      none
    else
      if r38.2 != 0 then
        none
      else
        if r38.1.Start != 10 then
          none
        else
          if (r38.1.Rows.length : Int) != 4 then
            none
          else
            if r47.2 != 0 then
              none
            else
              Option.bind (K_raddleref37_Same r47.1 r14.1) fun r80 =>
              if !r80 then
                none
              else
                Option.bind (α := Unit ⊕ Bool) (
                  Option.bind (whileK (K_raddlelaw37_alive_l1 r38) 0) fun z0 => match z0 with
                    | .inl z =>
                      some (.inr z)
                    | .inr _ =>
                      some (.inl ())) fun z0 => match z0 with
                  | .inl _ =>
                    some true
                  | .inr z =>
                    some z
theorem m_raddlelaw37_alive_l1 (r38 : (api_Chart × Int)) : ∀ s, Le (K_raddlelaw37_alive_l1 r38 s) (raddlelaw37_alive_l1 r38 s) := by
  unfold K_raddlelaw37_alive_l1 raddlelaw37_alive_l1
  with_reducible repeat' (first | exact m_F_stitch_Text _ | exact Le.rfl _ | refine Le.loop _ ?_ | refine Le.bind ?_ ?_ | refine Le.ite ?_ ?_ | refine Le.sum ?_ ?_ | refine Le.prod ?_ | intro _ | exact Empty.elim (by assumption) | dsimp only)
theorem m_F_raddlelaw37_alive  : Le (K_raddlelaw37_alive) (F_raddlelaw37_alive) := by
  unfold K_raddlelaw37_alive F_raddlelaw37_alive
  with_reducible repeat' (first | exact m_F_raddlelaw37_given | exact m_F_piece_Make _ | exact m_F_raddlelaw37_made | exact m_F_piece_Chart _ | exact m_F_piece_Read _ _ | exact m_F_raddleref37_Same _ _ | exact m_raddlelaw37_alive_l1 _ | exact Le.rfl _ | refine Le.loop _ ?_ | refine Le.bind ?_ ?_ | refine Le.ite ?_ ?_ | refine Le.sum ?_ ?_ | refine Le.prod ?_ | intro _ | exact Empty.elim (by assumption) | dsimp only)
set_option maxRecDepth 1000000 in
theorem k_raddlelaw37_alive : F_raddlelaw37_alive = some true := m_F_raddlelaw37_alive _ (by kernel_rfl)
end Go.Proofs.YtmedbnjhgkcndaaDoor
namespace Go.Proofs.YtmedbnjhgkcndaaDoor
open Go.RowKit
set_option linter.unusedVariables false

theorem w64_of {x : Int} (h0 : -9223372036854775808 ≤ x) (h1 : x ≤ 9223372036854775807) : w64 x = x := w64_id ⟨h0, h1⟩
theorem w64_succ {k : Nat} (h : k < 9223372036854775807) : w64 ((k : Int) + 1) = ((k + 1 : Nat) : Int) := by
  rw [w64_of (by omega) (by omega)]; omega
theorem idxO_nat {α : Type} {xs : List α} {k : Nat} (h : k < xs.length) : idxO xs (k : Int) = some xs[k] := by
  simp [idxO, h]
theorem idxO_of {α : Type} {xs : List α} {i : Int} {k : Nat} (hi : i = (k : Int)) (h : k < xs.length) : idxO xs i = some xs[k] := by subst hi; exact idxO_nat h
theorem setO_nat {α : Type} {xs : List α} {k : Nat} {y : α} (h : k < xs.length) : setO xs (k : Int) y = some (xs.set k y) := by
  simp [setO, h]
theorem appO_of {α : Type} {xs ys : List α} (h : xs.length + ys.length ≤ 68719476736) : appO xs ys = some (xs ++ ys) := by
  simp [appO, lim, h]
theorem makeO_of {α : Type} {n : Int} {z : α} {k : Nat} (h : n = (k : Int)) (hk : k ≤ 68719476736) : makeO n z = some (List.replicate k z) := by
  subst h; simp [makeO, lim, hk]
theorem sliceO_of {α : Type} {xs : List α} {lo hi : Int} {l k : Nat} (h1 : lo = l) (h2 : hi = k) (h3 : l ≤ k) (h4 : k ≤ xs.length) : sliceO xs lo hi = some ((xs.take k).drop l) := by
  subst h1 h2; simp [sliceO, h3, h4]
/-- a loop over an index, with a state beside it -/
theorem loop_st {σ τ : Type} {B : σ × Int → Option ((σ × Int) ⊕ τ)} (n : Nat) (I : Nat → σ → Prop) (Pt : τ → Prop) {s0 : σ} (h0 : I 0 s0)
    (step : ∀ k s, k < n → I k s → (∃ s', B (s, (k : Int)) = some (.inl (s', ((k + 1 : Nat) : Int))) ∧ I (k + 1) s') ∨ (∃ t, B (s, (k : Int)) = some (.inr t) ∧ Pt t))
    (last : ∀ s, I n s → ∃ t, B (s, (n : Int)) = some (.inr t) ∧ Pt t) : ∃ t, whileO B (s0, 0) = some t ∧ Pt t := by
  refine whileO_inv (fun s => ∃ k : Nat, k ≤ n ∧ s.2 = (k : Int) ∧ I k s.1) (fun s => ((n : Int) - s.2).toNat) Pt ⟨0, Nat.zero_le _, rfl, h0⟩ ?_
  rintro ⟨s, i⟩ ⟨k, hk, rfl, hI⟩
  by_cases hlt : k < n
  · rcases step k s hlt hI with ⟨s', h1, h2⟩ | h
    · exact .inl ⟨_, h1, ⟨k + 1, hlt, rfl, h2⟩, by simp; omega⟩
    · exact .inr h
  · obtain rfl : k = n := by omega
    exact .inr (last s hI)
/-- a loop over an index alone -/
theorem loop_ix {τ : Type} {B : Int → Option (Int ⊕ τ)} (n : Nat) (I : Nat → Prop) (Pt : τ → Prop) (h0 : I 0)
    (step : ∀ k, k < n → I k → (B (k : Int) = some (.inl ((k + 1 : Nat) : Int)) ∧ I (k + 1)) ∨ (∃ t, B (k : Int) = some (.inr t) ∧ Pt t))
    (last : I n → ∃ t, B (n : Int) = some (.inr t) ∧ Pt t) : ∃ t, whileO B 0 = some t ∧ Pt t := by
  refine whileO_inv (fun s => ∃ k : Nat, k ≤ n ∧ s = (k : Int) ∧ I k) (fun s => ((n : Int) - s).toNat) Pt ⟨0, Nat.zero_le _, rfl, h0⟩ ?_
  rintro i ⟨k, hk, rfl, hI⟩
  by_cases hlt : k < n
  · rcases step k hlt hI with ⟨h1, h2⟩ | h
    · exact .inl ⟨_, h1, ⟨k + 1, hlt, rfl, h2⟩, by simp; omega⟩
    · exact .inr h
  · obtain rfl : k = n := by omega
    exact .inr (last hI)

end Go.Proofs.YtmedbnjhgkcndaaDoor
namespace Go.Proofs.YtmedbnjhgkcndaaDoor
open Go.RowKit
set_option linter.unusedVariables false

/-- a loop that tests all, and says bad at the first that fails -/
theorem loop_all {τ : Type} {B : Int → Option (Int ⊕ τ)} (n : Nat) (p : Nat → Bool) (good bad : τ)
    (h : ∀ k, k < n → B (k : Int) = some (if p k = true then .inl ((k + 1 : Nat) : Int) else .inr bad)) (hn : B (n : Int) = some (.inr good)) :
    whileO B 0 = some (if (List.range n).all p = true then good else bad) := by
  have key : ∃ t, whileO B 0 = some t ∧ t = if (List.range n).all p = true then good else bad := by
    refine loop_ix n (fun k => ∀ j, j < k → p j = true) _ (fun j h => absurd h (Nat.not_lt_zero j)) ?_ ?_
    · intro k hk hI
      cases hf : p k with
      | true =>
        refine .inl ⟨by rw [h k hk, if_pos hf], fun j hj => ?_⟩
        by_cases e : j = k
        · rw [e]; exact hf
        · exact hI j (by omega)
      | false =>
        refine .inr ⟨bad, by rw [h k hk, hf]; simp, ?_⟩
        rw [if_neg]
        intro hc
        rw [List.all_eq_true] at hc
        have := hc k (List.mem_range.2 hk)
        rw [hf] at this; cases this
    · intro hI
      refine ⟨good, hn, ?_⟩
      rw [if_pos]
      rw [List.all_eq_true]
      exact fun j hj => hI j (List.mem_range.1 hj)
  obtain ⟨t, h1, rfl⟩ := key
  exact h1
/-- a loop that folds -/
theorem loop_fold {σ τ : Type} {B : σ × Int → Option ((σ × Int) ⊕ τ)} (n : Nat) (f : σ → Nat → σ) (s0 : σ) {t : τ}
    (h : ∀ k s, k < n → s = (List.range k).foldl f s0 → B (s, (k : Int)) = some (.inl (f s k, ((k + 1 : Nat) : Int))))
    (hn : B ((List.range n).foldl f s0, (n : Int)) = some (.inr t)) : whileO B (s0, 0) = some t := by
  have key : ∃ u, whileO B (s0, 0) = some u ∧ u = t := by
    refine loop_st n (fun k s => s = (List.range k).foldl f s0) _ rfl ?_ ?_
    · rintro k s hk hI
      refine .inl ⟨_, h k s hk hI, ?_⟩
      rw [List.range_succ, List.foldl_append, ← hI]; rfl
    · rintro s rfl
      exact ⟨t, hn, rfl⟩
  obtain ⟨u, h1, rfl⟩ := key
  exact h1
theorem dT {p : Prop} [Decidable p] (h : p) : decide p = true := decide_eq_true h
theorem dF {p : Prop} [Decidable p] (h : ¬ p) : decide p = false := decide_eq_false h
theorem bT {a b : Int} (h : a = b) : (a == b) = true := by simp [h]
theorem bF {a b : Int} (h : ¬ a = b) : (a == b) = false := by simp [h]
theorem nT {a b : Int} (h : ¬ a = b) : (a != b) = true := by simp [h]
theorem nF {a b : Int} (h : a = b) : (a != b) = false := by simp [h]
/-- a row filled from its start on -/
def Fill {α : Type} (n : Nat) (f : Nat → α) (k : Nat) (s : List α) : Prop := s.length = n ∧ ∀ j, j < k → s[j]? = some (f j)
theorem Fill.zero {α : Type} (n : Nat) (f : Nat → α) (z : α) : Fill n f 0 (List.replicate n z) := ⟨by simp, fun j hj => absurd hj (Nat.not_lt_zero j)⟩
theorem Fill.set {α : Type} {n : Nat} {f : Nat → α} {k : Nat} {s : List α} (h : Fill n f k s) (hk : k < n) : Fill n f (k + 1) (s.set k (f k)) := by
  refine ⟨by simp [h.1], fun j hj => ?_⟩
  by_cases e : j = k
  · subst e; simp [h.1, hk]
  · rw [List.getElem?_set_ne (fun h => e h.symm)]; exact h.2 j (by omega)
theorem Fill.all {α : Type} {n : Nat} {f : Nat → α} {s : List α} (h : Fill n f n s) : s = (List.range n).map f := by
  apply List.ext_getElem?
  intro j
  by_cases hj : j < n
  · rw [h.2 j hj]; simp [hj]
  · rw [List.getElem?_eq_none (by rw [h.1]; omega), List.getElem?_eq_none (by simp; omega)]
theorem loop_set {α τ : Type} {B : List α × Int → Option ((List α × Int) ⊕ τ)} (n : Nat) (f : Nat → α) (z : α) {t : τ}
    (h : ∀ k s, k < n → s.length = n → B (s, (k : Int)) = some (.inl (s.set k (f k), ((k + 1 : Nat) : Int))))
    (hn : B ((List.range n).map f, (n : Int)) = some (.inr t)) : whileO B (List.replicate n z, 0) = some t := by
  have key : ∃ u, whileO B (List.replicate n z, 0) = some u ∧ u = t := by
    refine loop_st n (fun k s => Fill n f k s) _ (Fill.zero n f z) ?_ ?_
    · intro k s hk hI
      exact .inl ⟨_, h k s hk hI.1, hI.set hk⟩
    · intro s hs
      rw [hs.all]
      exact ⟨t, hn, rfl⟩
  obtain ⟨u, h1, rfl⟩ := key
  exact h1
theorem idxO_D {α : Type} {xs : List α} {k : Nat} (d : α) (h : k < xs.length) : idxO xs (k : Int) = some (xs.getD k d) := by
  rw [idxO_nat h]; simp [h]
theorem mul_bd {u v a b : Int} (u0 : 0 ≤ u) (u1 : u ≤ a) (v0 : 0 ≤ v) (v1 : v ≤ b) : 0 ≤ u * v ∧ u * v ≤ a * b :=
  ⟨Int.mul_nonneg u0 v0, Int.mul_le_mul u1 v1 v0 (by omega)⟩
theorem sliceO_all {α : Type} {xs : List α} {k : Nat} (h : k ≤ xs.length) : sliceO xs (k : Int) (xs.length : Int) = some (xs.drop k) := by
  rw [sliceO_of (l := k) (k := xs.length) rfl rfl h (Nat.le_refl _), List.take_length]
theorem getD_drop {α : Type} (xs : List α) (n k : Nat) (d : α) : (xs.drop n).getD k d = xs.getD (k + n) d := by
  simp [List.getD_eq_getElem?_getD, List.getElem?_drop, Nat.add_comm]

end Go.Proofs.YtmedbnjhgkcndaaDoor
namespace Go.Proofs.YtmedbnjhgkcndaaDoor
open Go.RowKit
set_option linter.unusedVariables false

noncomputable def F_raddleref37_in (p0 : Int) : Option Bool :=
  Option.bind (α := Bool) (
    if decide ((-500) ≤ p0) then
      some (decide (p0 ≤ 500))
    else
      some false) fun o2 =>
  some o2
set_option maxHeartbeats 4000000 in
set_option maxRecDepth 100000 in
theorem c_raddleref37_in (E : Nat → Prop) (w0 : World) (p0 : Int) (r : Bool) (h : F_raddleref37_in p0 = some r) (S : St0 E [] w0 w0 [] []) :
    Calls Tryd.prog 45 #[iv p0] w0 (Ret (X := Unit) E [] w0 (fun _ => .bool r) (fun _ => []) (fun _ => [])) := by
  unfold F_raddleref37_in at h
  refine sEnter (args := [iv p0]) 9 Tryd.func45 rfl rfl (by simp) S (fun a S => ?_)
  refine sSeq (fun K1 hK1 => ?_)
  refine sRegion ?_
  refine sMove (.bool false) S (wN rfl) (.inr rfl) rfl rfl (lb rfl) fun a S => ?_
  refine leafL (leafT (hK1 _ _ ?_))
  obtain ⟨t3, h, g4⟩ := bindSome h
  refine sCut (fun a w => ∃ o2, o2 = t3 ∧ St [] E [] w0 9 a w [(2, .bool o2)] [] []) ?_ (fun a w hI => ?_)
  rotate_left
  · obtain ⟨o2, rfl, S⟩ := hI
    have h := g4
    clear g4
    try dsimp only at h
    obtain rfl := Option.some.inj h
    exact wp_ret (sRet (.bool o2) S (rsl1 rfl (rvT (t := 2) (v := .bool o2) S rfl)) ⟨(), rfl, S.mem.sel [] [] (by decide) rfl rfl⟩)
  refine sRegion ?_
  refine sMove (iv p0) S (wN rfl) (.inl rfl) rfl rfl (lb rfl) fun a S => ?_
  refine sBin (.bool (decide ((-500) ≤ p0))) S (wN rfl) rfl rfl rfl (bGe _ _ _ _ .i64 p0 (-500)) rfl (lb rfl) fun a S => ?_
  refine sMove (.bool (decide ((-500) ≤ p0))) S (wN rfl) (.inl rfl) rfl rfl (lb rfl) fun a S => ?_
  rcases iteSome h with ⟨hc5, h⟩ | ⟨hc5, h⟩
  rotate_left
  · refine sSkip 2 true 5 6 S rfl rfl rfl hc5 rfl (lb rfl) fun a S => ?_
    refine sSkip 2 true 5 7 S rfl rfl rfl hc5 rfl (lb rfl) fun a S => ?_
    refine sPickF (.bool false) S (wN rfl) rfl rfl hc5 rfl rfl (lb rfl) fun a S => ?_
    refine sMove (.bool false) S (wN rfl) (.inr rfl) rfl rfl (lb rfl) fun a S => ?_
    exact leafL (leafT (⟨false, Option.some.inj h, S.fix [] [] (by decide) rfl rfl rfl⟩))
  refine sMove (iv p0) S (wG 2 true 5 rfl rfl rfl hc5) (.inl rfl) rfl rfl (lb rfl) fun a S => ?_
  refine sBin (.bool (decide (p0 ≤ 500))) S (wG 2 true 5 rfl rfl rfl hc5) rfl rfl rfl (bLe _ _ _ _ .i64 p0 500) rfl (lb rfl) fun a S => ?_
  refine sPickT (.bool (decide (p0 ≤ 500))) S (wN rfl) rfl rfl hc5 rfl rfl (lb rfl) fun a S => ?_
  refine sMove (.bool (decide (p0 ≤ 500))) S (wN rfl) (.inr rfl) rfl rfl (lb rfl) fun a S => ?_
  exact leafL (leafT (⟨decide (p0 ≤ 500), Option.some.inj h, S.fix [] [] (by decide) rfl rfl rfl⟩))

end Go.Proofs.YtmedbnjhgkcndaaDoor
namespace Go.Proofs.YtmedbnjhgkcndaaDoor
open Go.RowKit
set_option linter.unusedVariables false

noncomputable def raddleref37_Check_l1 (p0 : api_Piece) : Int → Option (Int ⊕ (Int ⊕ Unit)) := fun s0 => match s0 with
  | s22 =>
    if decide (s22 < (p0.Left.length : Int)) then
      Option.bind (α := Bool) (
        Option.bind (idxO p0.Left s22) fun x33 =>
        Option.bind (F_raddleref37_in x33) fun r38 =>
        if !r38 then
          some true
        else
          Option.bind (idxO p0.Right s22) fun x44 =>
          Option.bind (F_raddleref37_in x44) fun r49 =>
          if !r49 then
            some true
          else
            if decide (x44 ≤ x33) then
              some true
            else
              some (decide (200 < (w64 (x44 - x33))))) fun o30 =>
      if o30 then
        some (.inr (.inl 8))
      else
        some (.inl (w64 (s22 + 1)))
    else
      some (.inr (.inr ()))
noncomputable def F_raddleref37_Check (p0 : api_Piece) : Option Int :=
  Option.bind (α := Bool) (
    if (p0.Left.length : Int) != (p0.Right.length : Int) then
      some true
    else
      if decide ((p0.Left.length : Int) < 1) then
        some true
      else
        some (decide (100 < (p0.Left.length : Int)))) fun o12 =>
  if o12 then
    some 8
  else
    Option.bind (α := Unit ⊕ Int) (
      Option.bind (whileO (raddleref37_Check_l1 p0) 0) fun z0 => match z0 with
        | .inl z =>
          some (.inr z)
        | .inr _ =>
          some (.inl ())) fun z0 => match z0 with
      | .inl _ =>
        some 0
      | .inr z =>
        some z
end Go.Proofs.YtmedbnjhgkcndaaDoor
namespace Go.Proofs.YtmedbnjhgkcndaaDoor
open Go.RowKit
set_option linter.unusedVariables false

end Go.Proofs.YtmedbnjhgkcndaaDoor
namespace Go.Proofs.YtmedbnjhgkcndaaDoor
open Go.RowKit
set_option linter.unusedVariables false

theorem col_eq (x : Int) : F_piece_column x = some (decide (-500 ≤ x) && decide (x ≤ 500)) ∧ F_raddleref37_in x = some (decide (-500 ≤ x) && decide (x ≤ 500)) := by
  unfold F_piece_column F_raddleref37_in
  by_cases h : -500 ≤ x <;> simp [h]
def col (x : Int) : Bool := decide (-500 ≤ x) && decide (x ≤ 500)
def pokAt (p : api_Piece) (k : Nat) : Bool := col (p.Left.getD k 0) && (col (p.Right.getD k 0) && (decide (p.Left.getD k 0 < p.Right.getD k 0) && decide (p.Right.getD k 0 - p.Left.getD k 0 ≤ 200)))
def pok (p : api_Piece) : Bool := decide (p.Left.length = p.Right.length) && (decide (1 ≤ p.Left.length) && (decide (p.Left.length ≤ 100) && (List.range p.Left.length).all (pokAt p)))
theorem col_spec {x : Int} : col x = true ↔ -500 ≤ x ∧ x ≤ 500 := by simp [col]
theorem pcheck_eq (p : api_Piece) (h1 : p.Left.length ≤ 1000000) (h2 : p.Right.length ≤ 1000000) : F_piece_Check p = some (if pok p = true then 0 else 8) ∧ F_raddleref37_Check p = some (if pok p = true then 0 else 8) := by
  unfold F_piece_Check F_raddleref37_Check
  by_cases e1 : p.Left.length = p.Right.length
  case neg =>
    have hb : ((p.Left.length : Int) != (p.Right.length : Int)) = true := nT (by omega)
    have hp : pok p = false := by simp [pok, e1]
    simp [hb, hp]
  have hb : ((p.Left.length : Int) != (p.Right.length : Int)) = false := nF (by omega)
  by_cases e2 : 1 ≤ p.Left.length
  case neg =>
    have hc : ((p.Left.length : Int) == 0) = true := bT (by omega)
    have hd : decide ((p.Left.length : Int) < 1) = true := dT (by omega)
    have hp : pok p = false := by simp [pok, e2]
    simp [hb, hc, hd, hp]
  have hc : ((p.Left.length : Int) == 0) = false := bF (by omega)
  have hd : decide ((p.Left.length : Int) < 1) = false := dF (by omega)
  by_cases e3 : p.Left.length ≤ 100
  case neg =>
    have he : decide (100 < (p.Left.length : Int)) = true := dT (by omega)
    have hp : pok p = false := by simp [pok, e3]
    simp [hb, hc, hd, he, hp]
  have he : decide (100 < (p.Left.length : Int)) = false := dF (by omega)
  have hp : pok p = (List.range p.Left.length).all (pokAt p) := by simp only [pok, e1, e2, e3, decide_true, Bool.true_and]; rw [← e1]; simp [e2, e3]
  have hl1 : whileO (piece_Check_l1 p) 0 = some (if (List.range p.Left.length).all (pokAt p) = true then .inr () else .inl 8) := by
    refine loop_all _ _ _ _ (fun k hk => ?_) ?_
    · have hx := idxO_D (0 : Int) hk
      have hy := idxO_D (0 : Int) (show k < p.Right.length by omega)
      have hs : w64 ((k : Int) + 1) = ((k + 1 : Nat) : Int) := w64_succ (by omega)
      have hk' : decide ((k : Int) < (p.Left.length : Int)) = true := dT (by omega)
      unfold piece_Check_l1 pokAt
      simp only [hk', if_true, hx, hy, hs, Option.bind_some, (col_eq _).1, ← col.eq_1]
      generalize p.Left.getD k 0 = x
      generalize p.Right.getD k 0 = y
      cases hcx : col x with
      | false => simp
      | true =>
        cases hcy : col y with
        | false => simp
        | true =>
          rw [col_spec] at hcx hcy
          have hw : w64 (y - x) = y - x := w64_of (by omega) (by omega)
          by_cases g1 : x < y
          · by_cases g2 : y - x ≤ 200
            · simp [g1, g2, hw, show ¬ y ≤ x by omega, show ¬ 200 < y - x by omega]
            · simp [g1, g2, hw, show ¬ y ≤ x by omega, show 200 < y - x by omega]
          · simp [g1, hw, show y ≤ x by omega]
    · unfold piece_Check_l1; simp
  have hl2 : whileO (raddleref37_Check_l1 p) 0 = some (if (List.range p.Left.length).all (pokAt p) = true then .inr () else .inl 8) := by
    refine loop_all _ _ _ _ (fun k hk => ?_) ?_
    · have hx := idxO_D (0 : Int) hk
      have hy := idxO_D (0 : Int) (show k < p.Right.length by omega)
      have hs : w64 ((k : Int) + 1) = ((k + 1 : Nat) : Int) := w64_succ (by omega)
      have hk' : decide ((k : Int) < (p.Left.length : Int)) = true := dT (by omega)
      unfold raddleref37_Check_l1 pokAt
      simp only [hk', if_true, hx, hy, hs, Option.bind_some, (col_eq _).2, ← col.eq_1]
      generalize p.Left.getD k 0 = x
      generalize p.Right.getD k 0 = y
      cases hcx : col x with
      | false => simp
      | true =>
        cases hcy : col y with
        | false => simp
        | true =>
          rw [col_spec] at hcx hcy
          have hw : w64 (y - x) = y - x := w64_of (by omega) (by omega)
          by_cases g1 : x < y
          · by_cases g2 : y - x ≤ 200
            · simp [g1, g2, hw, show ¬ y ≤ x by omega, show ¬ 200 < y - x by omega]
            · simp [g1, g2, hw, show ¬ y ≤ x by omega, show 200 < y - x by omega]
          · simp [g1, hw, show y ≤ x by omega]
    · unfold raddleref37_Check_l1; simp
  rw [hl1, hl2, ← hp]
  cases pok p <;> simp [hb, hc, hd, he]
/-- P36.1: a number of a line -/
theorem pok_len {p : api_Piece} (h : pok p = true) : p.Left.length = p.Right.length ∧ p.Left.length ≤ 100 := by
  simp only [pok, Bool.and_eq_true, decide_eq_true_eq] at h
  exact ⟨h.1, h.2.2.1⟩
end Go.Proofs.YtmedbnjhgkcndaaDoor
namespace Go.Proofs.YtmedbnjhgkcndaaDoor
open Go.RowKit
set_option linter.unusedVariables false

noncomputable def F_raddleref37_GreatShape (p0 : api_Shape) : Option Bool :=
  Option.bind (α := Bool) (
    if decide (55 < (p0.Left.length : Int)) then
      some true
    else
      some (decide (55 < (p0.Right.length : Int)))) fun o11 =>
  some o11
set_option maxHeartbeats 4000000 in
set_option maxRecDepth 100000 in
theorem c_raddleref37_GreatShape (E : Nat → Prop) (w0 : World) (p0 : api_Shape) (v0 : Value) (r : Bool) (h : F_raddleref37_GreatShape p0 = some r) (S : St0 E [] w0 w0 [] [fRep r_api_Shape (v0) p0]) :
    Calls Tryd.prog 10 #[v0] w0 (Ret (X := Unit) E [] w0 (fun _ => .bool r) (fun _ => []) (fun _ => [])) := by
  unfold F_raddleref37_GreatShape at h
  obtain ⟨u1, u2, rfl, hu3, hu4⟩ := S.know (i := 0) (e := fRep r_api_Shape (v0) p0) rfl
  have S := S.learn (fRep (rL r_api_Point) u1 p0.Left) hu3
  obtain ⟨ad5, cp6, _, rfl, _⟩ := hu3
  have S := S.learn (fRep (rL r_api_Point) u2 p0.Right) hu4
  obtain ⟨ad7, cp8, _, rfl, _⟩ := hu4
  refine sEnter (args := [.agg #[.slice ad5 p0.Left.length cp6, .slice ad7 p0.Right.length cp8]]) 13 Tryd.func10 rfl rfl (by simp) S (fun a S => ?_)
  refine sSeq (fun K9 hK9 => ?_)
  refine sRegion ?_
  refine sBox (v := .agg #[.slice ad5 p0.Left.length cp6, .slice ad7 p0.Right.length cp8]) S (wN rfl) rfl rfl [.slice ad5 p0.Left.length cp6, .slice ad7 p0.Right.length cp8] rfl rfl (lb rfl) fun a b10 w S => ?_
  refine sMove (.bool false) S (wN rfl) (.inr rfl) rfl rfl (lb rfl) fun a S => ?_
  refine leafL (leafT (hK9 _ _ ?_))
  obtain ⟨t12, h, g13⟩ := bindSome h
  refine sCut (fun a w => ∃ o11, o11 = t12 ∧ St [] E [] w0 13 a w [(2, .bool o11)] [] []) ?_ (fun a w hI => ?_)
  rotate_left
  · obtain ⟨o11, rfl, S⟩ := hI
    have h := g13
    clear g13
    try dsimp only at h
    obtain rfl := Option.some.inj h
    exact wp_ret (sRet (.bool o11) S (rsl1 rfl (rvT (t := 2) (v := .bool o11) S rfl)) ⟨(), rfl, S.mem.sel [] [] (by decide) rfl rfl⟩)
  refine sRegion ?_
  refine sField (b := b10) (off := 0) 0 0 S (wN rfl) rfl rfl rfl rfl rfl (lb rfl) fun a S => ?_
  refine sLoad1 (p := b10) (off := 0) (T := 24) (vs := [.slice ad5 p0.Left.length cp6, .slice ad7 p0.Right.length cp8]) 0 (.slice ad5 p0.Left.length cp6) S (wN rfl) rfl rfl rfl rfl rfl rfl (lb rfl) fun a S => ?_
  refine sLen (ad := ad5) (m := p0.Left.length) (c := cp6) S (wN rfl) rfl Tryd.underlying22 rfl rfl (lb rfl) fun a S => ?_
  refine sBin (.bool (decide (55 < (p0.Left.length : Int)))) S (wN rfl) rfl rfl rfl (bGt _ _ _ _ .i64 (p0.Left.length : Int) 55) rfl (lb rfl) fun a S => ?_
  refine sMove (.bool (decide (55 < (p0.Left.length : Int)))) S (wN rfl) (.inl rfl) rfl rfl (lb rfl) fun a S => ?_
  rcases iteSome h with ⟨hc14, h⟩ | ⟨hc14, h⟩
  · refine sSkip 4 false 7 8 S rfl rfl rfl hc14 rfl (lb rfl) fun a S => ?_
    refine sSkip 4 false 7 9 S rfl rfl rfl hc14 rfl (lb rfl) fun a S => ?_
    refine sSkip 4 false 7 10 S rfl rfl rfl hc14 rfl (lb rfl) fun a S => ?_
    refine sSkip 4 false 7 11 S rfl rfl rfl hc14 rfl (lb rfl) fun a S => ?_
    refine sPickT (.bool true) S (wN rfl) rfl rfl hc14 rfl rfl (lb rfl) fun a S => ?_
    refine sMove (.bool true) S (wN rfl) (.inr rfl) rfl rfl (lb rfl) fun a S => ?_
    exact leafL (leafT (⟨true, Option.some.inj h, S.fix [] [] (by decide) rfl rfl rfl⟩))
  refine sField (b := b10) (off := 0) 1 1 S (wG 4 false 7 rfl rfl rfl hc14) rfl rfl rfl rfl rfl (lb rfl) fun a S => ?_
  refine sLoad1 (p := b10) (off := 1) (T := 24) (vs := [.slice ad5 p0.Left.length cp6, .slice ad7 p0.Right.length cp8]) 0 (.slice ad7 p0.Right.length cp8) S (wG 4 false 7 rfl rfl rfl hc14) rfl rfl rfl rfl rfl rfl (lb rfl) fun a S => ?_
  refine sLen (ad := ad7) (m := p0.Right.length) (c := cp8) S (wG 4 false 7 rfl rfl rfl hc14) rfl Tryd.underlying22 rfl rfl (lb rfl) fun a S => ?_
  refine sBin (.bool (decide (55 < (p0.Right.length : Int)))) S (wG 4 false 7 rfl rfl rfl hc14) rfl rfl rfl (bGt _ _ _ _ .i64 (p0.Right.length : Int) 55) rfl (lb rfl) fun a S => ?_
  refine sPickF (.bool (decide (55 < (p0.Right.length : Int)))) S (wN rfl) rfl rfl hc14 rfl rfl (lb rfl) fun a S => ?_
  refine sMove (.bool (decide (55 < (p0.Right.length : Int)))) S (wN rfl) (.inr rfl) rfl rfl (lb rfl) fun a S => ?_
  exact leafL (leafT (⟨decide (55 < (p0.Right.length : Int)), Option.some.inj h, S.fix [] [] (by decide) rfl rfl rfl⟩))

end Go.Proofs.YtmedbnjhgkcndaaDoor
