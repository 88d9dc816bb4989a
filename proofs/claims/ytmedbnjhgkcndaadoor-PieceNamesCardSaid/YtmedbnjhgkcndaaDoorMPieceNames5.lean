/- PieceNames: walks, tables, laws. -/
import Derived.Test.YtmedbnjhgkcndaaDoorProg
import Derived.Test.YtmedbnjhgkcndaaDoorRows
import Derived.Test.YtmedbnjhgkcndaaDoorCards
import Derived.Test.YtmedbnjhgkcndaaDoorTie
import Derived.Test.YtmedbnjhgkcndaaDoorMPieceNames4
set_option linter.unusedVariables false
set_option linter.unusedSimpArgs false
set_option maxHeartbeats 4000000
set_option maxRecDepth 100000
namespace Go.Proofs.YtmedbnjhgkcndaaDoor
open Go.RowKit
def K_raddlelaw37_step_s0 (p0:Int) (p1:Int) (p2:Int) (p3:Int):Option api_Piece:=
 some (api_Piece.mk ([p0,p2]:List Int) ([p1,p3]:List Int))
def K_raddlelaw37_row (p0:api_Piece):Option ByteArray:=
 Option.bind (K_piece_Chart p0) fun r12=>
 Option.bind (α:=Bool) (
  if r12.2 != 0 then
   some true
  else
   some ((r12.1.Rows.length:Int) != 1)) fun o21=>
 if o21 then
  some (⟨#[]⟩:ByteArray)
 else
  Option.bind (idxO r12.1.Rows 0) fun x28=>
  Option.bind (K_stitch_Text x28.Cells) fun r37=>
  if r37.2 != 0 then
   some (⟨#[]⟩:ByteArray)
  else
   some r37.1
def K_slope_list_int__s1_l1 (p0:Int) (p1:Int) (p2:Int) (p3:Int):(List Int × Int)→Option ((List Int × Int) ⊕ List Int):=fun s0=>match s0 with
 | (s11,s12)=>
  if decide (s12 < p0) then
   Option.bind (K_slope_Line_1_s0 s12 p1 p2 p3) fun r22=>
   Option.bind (idxO s11 s12) fun x24=>
   Option.bind (setO s11 s12 r22) fun l29=>
   some (.inl (l29,w64 (s12 + 1)))
  else
   some (.inr s11)
def K_slope_list_int__s1 (p0:Int) (p1:Int) (p2:Int) (p3:Int):Option (List Int):=
 Option.bind (makeO p0 (0:Int)) fun m5=>
 Option.bind (α:=List Int) (
  Option.bind (whileK (K_slope_list_int__s1_l1 p0 p1 p2 p3) (m5,0)) fun e16=>
   some e16) fun o7=>
 some o7
def K_slope_Line_s0 (p0:Int) (p1:Int) (p2:Int):Option ((List Int) × Int):=
 Option.bind (K_slope_check p0 p1 p2) fun r7=>
 if r7 != 0 then
  some (([]:(List Int)),r7)
 else
  Option.bind (K_slope_list_int__s1 (w64 (p2 + 1)) p0 p1 p2) fun r13=>
  some (r13,0)
def K_piece_columns_s0_l1 (y20:List api_Point) (p0:(List api_Point)):(List Int × Int)→Option ((List Int × Int) ⊕ List Int):=fun s0=>match s0 with
 | (s24,s27)=>
  if decide (s27 < (y20.length:Int)) then
   Option.bind (idxO y20 s27) fun x39=>
   Option.bind (idxO p0 s27) fun x46=>
   Option.bind (K_slope_Line_s0 x46.X x39.X (w64 (x39.Y - x46.Y))) fun r58=>
   Option.bind (sliceO r58.1 1 (r58.1.length:Int)) fun y74=>
   Option.bind (appO s24 y74) fun l78=>
   some (.inl (l78,w64 (s27 + 1)))
  else
   some (.inr s24)
def K_piece_columns_s0 (p0:(List api_Point)):Option (List Int):=
 Option.bind (idxO p0 0) fun x5=>
 Option.bind (α:=List Int) (
  Option.bind (sliceO p0 1 (p0.length:Int)) fun y20=>
  Option.bind (whileK (K_piece_columns_s0_l1 y20 p0) (([x5.X]:List Int),0)) fun e31=>
   some e31) fun o14=>
 some o14
def K_piece_Make_s0 (p0:api_Shape):Option (api_Piece × Int):=
 Option.bind (K_piece_shape p0) fun r14=>
 if r14 != 0 then
  some ((api_Piece.mk ([]:(List Int)) ([]:(List Int))),r14)
 else
  Option.bind (K_piece_columns_s0 p0.Left) fun r20=>
  Option.bind (K_piece_columns_s0 p0.Right) fun r24=>
  Option.bind (K_piece_Check (api_Piece.mk r20 r24)) fun r36=>
  if r36 != 0 then
   some ((api_Piece.mk ([]:(List Int)) ([]:(List Int))),16)
  else
   some ((api_Piece.mk r20 r24),0)
def K_gauge_within (p0:Int) (p1:Int) (p2:Int):Option Bool:=
 Option.bind (α:=Bool) (
  if decide (p1 ≤ p0) then
   some (decide (p0 ≤ p2))
  else
   some false) fun o2=>
 some o2
def K_gauge_Check_l1 (p0:api_Gauge):Int→Option (Int ⊕ (Int ⊕ Unit)):=fun s0=>match s0 with
 | s6=>
  if decide (s6 < 4) then
   Option.bind (idxO ([p0.Stitches,p0.Width,p0.Rows,p0.Height]:List Int) s6) fun x15=>
   Option.bind (K_gauge_within x15 1 10000) fun r18=>
   if !r18 then
    some (.inr (.inl 8))
   else
    some (.inl (w64 (s6 + 1)))
  else
   some (.inr (.inr ()))
def K_gauge_Check (p0:api_Gauge):Option Int:=
 Option.bind (α:=Unit ⊕ Int) (
  Option.bind (whileK (K_gauge_Check_l1 p0) 0) fun z0=>match z0 with
   | .inl z=>
    some (.inr z)
   | .inr _=>
    some (.inl ())) fun z0=>match z0 with
  | .inl _=>
   some 0
  | .inr z=>
   some z
def K_gauge_ratio_of (p0:gauge_ratio) (p1:Int):Option Int:=
 Option.bind (quoI (w64 ((w64 ((w64 (2 * p1)) * p0.num)) + p0.den)) (w64 (2 * p0.den))) fun z4=>
 some z4
def K_gauge_scale (p0:api_Gauge) (p1:gauge_ratio) (p2:Int) (p3:Int) (p4:Int):Option (Int × Int):=
 Option.bind (K_gauge_Check p0) fun r6=>
 if r6 != 0 then
  some (0,r6)
 else
  Option.bind (K_gauge_within p2 0 p3) fun r13=>
  if !r13 then
   some (0,2)
  else
   Option.bind (K_gauge_ratio_of p1 p2) fun r18=>
   if decide (p4 < r18) then
    some (0,16)
   else
    some (r18,0)
def K_gauge_Stitches (p0:api_Gauge) (p1:Int):Option (Int × Int):=
 Option.bind (K_gauge_scale p0 (gauge_ratio.mk p0.Stitches p0.Width) p1 1000000 1000000) fun r4=>
 some (r4.1,r4.2)
def K_gauge_Rows (p0:api_Gauge) (p1:Int):Option (Int × Int):=
 Option.bind (K_gauge_scale p0 (gauge_ratio.mk p0.Rows p0.Height) p1 1000000 1000000) fun r4=>
 some (r4.1,r4.2)
def K_piece_place_s0_l1 (p1:(List api_Point)) (p0:api_Gauge):(List api_Point × Int)→Option ((List api_Point × Int) ⊕ (((List api_Point) × Int) ⊕ (List api_Point))):=fun s0=>match s0 with
 | (s16,s19)=>
  if decide (s19 < (p1.length:Int)) then
   Option.bind (idxO p1 s19) fun x31=>
   Option.bind (α:=Int) (
    Option.bind (α:=Bool) (
     if decide (x31.X < 0) then
      some (decide ((-1000000) ≤ x31.X))
     else
      some false) fun o41=>
    if o41 then
     some (-1)
    else
     some 1) fun o38=>
   Option.bind (K_gauge_Stitches p0 (w64 (o38 * x31.X))) fun r47=>
   if r47.2 != 0 then
    some (.inr (.inl (([]:(List api_Point)),r47.2)))
   else
    Option.bind (K_gauge_Rows p0 x31.Y) fun r54=>
    if r54.2 != 0 then
     some (.inr (.inl (([]:(List api_Point)),r54.2)))
    else
     Option.bind (appO s16 [(api_Point.mk (w64 (o38 * r47.1)) r54.1)]) fun l62=>
     some (.inl (l62,w64 (s19 + 1)))
  else
   some (.inr (.inr s16))
def K_piece_place_s0 (p0:api_Gauge) (p1:(List api_Point)):Option ((List api_Point) × Int):=
 Option.bind (capO (p1.length:Int)) fun z8=>
 Option.bind (α:=List api_Point ⊕ ((List api_Point) × Int)) (
  Option.bind (whileK (K_piece_place_s0_l1 p1 p0) (([]:List api_Point),0)) fun z0=>match z0 with
   | .inl z=>
    some (.inr z)
   | .inr e23=>
    some (.inl e23)) fun z0=>match z0 with
  | .inl o10=>
   some (o10,0)
  | .inr z=>
   some z
def K_piece_Measure_s0 (p0:api_Gauge) (p1:(List api_Point)) (p2:(List api_Point)):Option (api_Shape × Int):=
 Option.bind (K_piece_place_s0 p0 p1) fun r13=>
 if r13.2 != 0 then
  some ((api_Shape.mk ([]:(List api_Point)) ([]:(List api_Point))),r13.2)
 else
  Option.bind (K_piece_place_s0 p0 p2) fun r22=>
  if r22.2 != 0 then
   some ((api_Shape.mk ([]:(List api_Point)) ([]:(List api_Point))),r22.2)
  else
   Option.bind (K_piece_shape (api_Shape.mk r13.1 r22.1)) fun r31=>
   if r31 != 0 then
    some ((api_Shape.mk ([]:(List api_Point)) ([]:(List api_Point))),r31)
   else
    some ((api_Shape.mk r13.1 r22.1),0)
def K_raddlelaw37_made_s0 :Option api_Piece:=
 some (api_Piece.mk ([0,1,1,2,2]:List Int) ([10,10,9,9,8]:List Int))
def K_piece_Chart_s0_l1 (x68:Int) (x86:Int) (r73:piece_edge) (r96:piece_edge):(List api_Stitch × Int)→Option ((List api_Stitch × Int) ⊕ List api_Stitch):=fun s0=>match s0 with
 | (s145,s148)=>
  if decide (s148 < (w64 ((w64 ((w64 (x68 - x86)) - r73.uses)) - r96.uses))) then
   Option.bind (appO s145 [(api_Stitch.mk 1 false 0 0)]) fun l161=>
   some (.inl (l161,w64 (s148 + 1)))
  else
   some (.inr s145)
def K_slices_Backward___api_Stitch_api_Stitch__s0 (p0:(List api_Stitch)):Option (List api_Stitch):=
 some p0
def K_stitch_Turn_s0_l2 :List api_Stitch→(Int × api_Stitch)→Option (List api_Stitch ⊕ Empty):=fun s0 x0=>match s0,x0 with
 | s22,(x25,x27)=>
  Option.bind (K_stitch_forms x27.Kind) fun r31=>
  Option.bind (α:=Bool) (
   if r31.1.sided then
    some (!x27.Purl)
   else
    some false) fun o35=>
  Option.bind (α:=(Int × Int)) (
   if decide (0 < r31.1.b.2) then
    some (x27.B,x27.A)
   else
    some (x27.A,x27.B)) fun (o39,o40)=>
  Option.bind (appO s22 [(api_Stitch.mk x27.Kind o35 o39 o40)]) fun l47=>
  some (.inl l47)
def K_stitch_Turn_s0 (p0:(List api_Stitch)):Option ((List api_Stitch) × Int):=
 Option.bind (K_stitch_All p0) fun r6=>
 if r6 != 0 then
  some (([]:(List api_Stitch)),r6)
 else
  Option.bind (capO (p0.length:Int)) fun z14=>
  Option.bind (K_slices_Backward___api_Stitch_api_Stitch__s0 p0) fun r19=>
  Option.bind (K_I_slices_Backward___api_Stitch_api_Stitch__1 r19 _ _ (K_stitch_Turn_s0_l2) ([]:List api_Stitch)) fun z0=>match z0 with
   | .inl s22=>
    some (s22,0)
   | .inr z0=>
    nomatch z0
def K_piece_Chart_s0_l2 (p0:api_Piece):(Int × List api_Row)→Option ((Int × List api_Row) ⊕ ((api_Chart × Int) ⊕ (List api_Row))):=fun s0=>match s0 with
 | (s44,s45)=>
  if decide (s44 < (p0.Left.length:Int)) then
   Option.bind (α:=List api_Row ⊕ (api_Chart × Int)) (
    Option.bind (idxO p0.Right s44) fun x63=>
    Option.bind (idxO p0.Right (w64 (s44 - 1))) fun x68=>
    Option.bind (K_piece_bend (w64 (x63 - x68)) 3) fun r73=>
    Option.bind (idxO p0.Left (w64 (s44 - 1))) fun x86=>
    Option.bind (idxO p0.Left s44) fun x91=>
    Option.bind (K_piece_bend (w64 (x86 - x91)) 4) fun r96=>
    if decide ((w64 ((w64 ((w64 (x68 - x86)) - r73.uses)) - r96.uses)) < 1) then
     some (.inr ((api_Chart.mk 0 ([]:(List api_Row))),22))
    else
     Option.bind (α:=List api_Stitch) (
      if r73.s.Kind != 0 then
       Option.bind (appO ([]:List api_Stitch) [r73.s]) fun l135=>
       some l135
      else
       some ([]:List api_Stitch)) fun o126=>
     Option.bind (α:=List api_Stitch) (
      Option.bind (whileK (K_piece_Chart_s0_l1 x68 x86 r73 r96) (o126,0)) fun e152=>
       some e152) fun o139=>
     Option.bind (α:=List api_Stitch) (
      if r96.s.Kind != 0 then
       Option.bind (appO o139 [r96.s]) fun l174=>
       some l174
      else
       some o139) fun o165=>
     Option.bind (remI s44 2) fun z179=>
     Option.bind (α:=List api_Stitch) (
      if z179 == 1 then
       Option.bind (K_stitch_Turn_s0 o165) fun r188=>
       some r188.1
      else
       some o165) fun o181=>
     Option.bind (appO s45 [(api_Row.mk (z179 == 1) o181)]) fun l194=>
     some (.inl l194)) fun z0=>match z0 with
    | .inl o57=>
     some (.inl (w64 (s44 + 1),o57))
    | .inr z=>
     some (.inr (.inl z))
  else
   some (.inr (.inr s45))
def K_piece_Chart_s0 (p0:api_Piece):Option (api_Chart × Int):=
 Option.bind (K_piece_Check p0) fun r14=>
 if r14 != 0 then
  some ((api_Chart.mk 0 ([]:(List api_Row))),r14)
 else
  Option.bind (idxO p0.Right 0) fun x20=>
  Option.bind (idxO p0.Left 0) fun x25=>
  Option.bind (α:=List api_Row ⊕ (api_Chart × Int)) (
   Option.bind (whileK (K_piece_Chart_s0_l2 p0) (1,([]:List api_Row))) fun z0=>match z0 with
    | .inl z=>
     some (.inr z)
    | .inr e51=>
     some (.inl e51)) fun z0=>match z0 with
   | .inl o38=>
    some ((api_Chart.mk (w64 (x20 - x25)) o38),0)
   | .inr z=>
    some z
def K_raddleref37_SamePoints_l1 (p0:(List api_Point)) (p1:(List api_Point)):Int→Option (Int ⊕ (Bool ⊕ Unit)):=fun s0=>match s0 with
 | s13=>
  if decide (s13 < (p0.length:Int)) then
   Option.bind (idxO p0 s13) fun x22=>
   Option.bind (idxO p1 s13) fun x27=>
   if !((x22.X == x27.X) && ((x22.Y == x27.Y) && true)) then
    some (.inr (.inl false))
   else
    some (.inl (w64 (s13 + 1)))
  else
   some (.inr (.inr ()))
def K_raddleref37_SamePoints (p0:(List api_Point)) (p1:(List api_Point)):Option Bool:=
 if (p0.length:Int) != (p1.length:Int) then
  some false
 else
  Option.bind (α:=Unit ⊕ Bool) (
   Option.bind (whileK (K_raddleref37_SamePoints_l1 p0 p1) 0) fun z0=>match z0 with
    | .inl z=>
     some (.inr z)
    | .inr _=>
     some (.inl ())) fun z0=>match z0 with
   | .inl _=>
    some true
   | .inr z=>
    some z
theorem m_F_raddlelaw37_step_s0 (p0:Int) (p1:Int) (p2:Int) (p3:Int):Le (K_raddlelaw37_step_s0 p0 p1 p2 p3) (F_raddlelaw37_step_s0 p0 p1 p2 p3):=by
 unfold K_raddlelaw37_step_s0 F_raddlelaw37_step_s0
 with_reducible repeat' (first | exact Le.rfl _ | refine Le.loop _ ?_ | refine Le.bind ?_ ?_ | refine Le.ite ?_ ?_ | refine Le.sum ?_ ?_ | refine Le.prod ?_ | intro _ | exact Empty.elim (by assumption) | dsimp only)
theorem m_F_raddlelaw37_row (p0:api_Piece):Le (K_raddlelaw37_row p0) (F_raddlelaw37_row p0):=by
 unfold K_raddlelaw37_row F_raddlelaw37_row
 with_reducible repeat' (first | exact m_F_piece_Chart _ | exact m_F_stitch_Text _ | exact Le.rfl _ | refine Le.loop _ ?_ | refine Le.bind ?_ ?_ | refine Le.ite ?_ ?_ | refine Le.sum ?_ ?_ | refine Le.prod ?_ | intro _ | exact Empty.elim (by assumption) | dsimp only)
theorem m_slope_list_int__s1_l1 (p0:Int) (p1:Int) (p2:Int) (p3:Int):∀ s,Le (K_slope_list_int__s1_l1 p0 p1 p2 p3 s) (slope_list_int__s1_l1 p0 p1 p2 p3 s):=by
 unfold K_slope_list_int__s1_l1 slope_list_int__s1_l1
 with_reducible repeat' (first | exact m_F_slope_Line_1_s0 _ _ _ _ | exact Le.rfl _ | refine Le.loop _ ?_ | refine Le.bind ?_ ?_ | refine Le.ite ?_ ?_ | refine Le.sum ?_ ?_ | refine Le.prod ?_ | intro _ | exact Empty.elim (by assumption) | dsimp only)
theorem m_F_slope_list_int__s1 (p0:Int) (p1:Int) (p2:Int) (p3:Int):Le (K_slope_list_int__s1 p0 p1 p2 p3) (F_slope_list_int__s1 p0 p1 p2 p3):=by
 unfold K_slope_list_int__s1 F_slope_list_int__s1
 with_reducible repeat' (first | exact m_slope_list_int__s1_l1 _ _ _ _ | exact Le.rfl _ | refine Le.loop _ ?_ | refine Le.bind ?_ ?_ | refine Le.ite ?_ ?_ | refine Le.sum ?_ ?_ | refine Le.prod ?_ | intro _ | exact Empty.elim (by assumption) | dsimp only)
theorem m_F_slope_Line_s0 (p0:Int) (p1:Int) (p2:Int):Le (K_slope_Line_s0 p0 p1 p2) (F_slope_Line_s0 p0 p1 p2):=by
 unfold K_slope_Line_s0 F_slope_Line_s0
 with_reducible repeat' (first | exact m_F_slope_check _ _ _ | exact m_F_slope_list_int__s1 _ _ _ _ | exact Le.rfl _ | refine Le.loop _ ?_ | refine Le.bind ?_ ?_ | refine Le.ite ?_ ?_ | refine Le.sum ?_ ?_ | refine Le.prod ?_ | intro _ | exact Empty.elim (by assumption) | dsimp only)
theorem m_piece_columns_s0_l1 (y20:List api_Point) (p0:(List api_Point)):∀ s,Le (K_piece_columns_s0_l1 y20 p0 s) (piece_columns_s0_l1 y20 p0 s):=by
 unfold K_piece_columns_s0_l1 piece_columns_s0_l1
 with_reducible repeat' (first | exact m_F_slope_Line_s0 _ _ _ | exact Le.rfl _ | refine Le.loop _ ?_ | refine Le.bind ?_ ?_ | refine Le.ite ?_ ?_ | refine Le.sum ?_ ?_ | refine Le.prod ?_ | intro _ | exact Empty.elim (by assumption) | dsimp only)
theorem m_F_piece_columns_s0 (p0:(List api_Point)):Le (K_piece_columns_s0 p0) (F_piece_columns_s0 p0):=by
 unfold K_piece_columns_s0 F_piece_columns_s0
 with_reducible repeat' (first | exact m_piece_columns_s0_l1 _ _ | exact Le.rfl _ | refine Le.loop _ ?_ | refine Le.bind ?_ ?_ | refine Le.ite ?_ ?_ | refine Le.sum ?_ ?_ | refine Le.prod ?_ | intro _ | exact Empty.elim (by assumption) | dsimp only)
theorem m_F_piece_Make_s0 (p0:api_Shape):Le (K_piece_Make_s0 p0) (F_piece_Make_s0 p0):=by
 unfold K_piece_Make_s0 F_piece_Make_s0
 with_reducible repeat' (first | exact m_F_piece_shape _ | exact m_F_piece_columns_s0 _ | exact m_F_piece_Check _ | exact Le.rfl _ | refine Le.loop _ ?_ | refine Le.bind ?_ ?_ | refine Le.ite ?_ ?_ | refine Le.sum ?_ ?_ | refine Le.prod ?_ | intro _ | exact Empty.elim (by assumption) | dsimp only)
theorem m_F_gauge_within (p0:Int) (p1:Int) (p2:Int):Le (K_gauge_within p0 p1 p2) (F_gauge_within p0 p1 p2):=by
 unfold K_gauge_within F_gauge_within
 with_reducible repeat' (first | exact Le.rfl _ | refine Le.loop _ ?_ | refine Le.bind ?_ ?_ | refine Le.ite ?_ ?_ | refine Le.sum ?_ ?_ | refine Le.prod ?_ | intro _ | exact Empty.elim (by assumption) | dsimp only)
theorem m_gauge_Check_l1 (p0:api_Gauge):∀ s,Le (K_gauge_Check_l1 p0 s) (gauge_Check_l1 p0 s):=by
 unfold K_gauge_Check_l1 gauge_Check_l1
 with_reducible repeat' (first | exact m_F_gauge_within _ _ _ | exact Le.rfl _ | refine Le.loop _ ?_ | refine Le.bind ?_ ?_ | refine Le.ite ?_ ?_ | refine Le.sum ?_ ?_ | refine Le.prod ?_ | intro _ | exact Empty.elim (by assumption) | dsimp only)
theorem m_F_gauge_Check (p0:api_Gauge):Le (K_gauge_Check p0) (F_gauge_Check p0):=by
 unfold K_gauge_Check F_gauge_Check
 with_reducible repeat' (first | exact m_gauge_Check_l1 _ | exact Le.rfl _ | refine Le.loop _ ?_ | refine Le.bind ?_ ?_ | refine Le.ite ?_ ?_ | refine Le.sum ?_ ?_ | refine Le.prod ?_ | intro _ | exact Empty.elim (by assumption) | dsimp only)
theorem m_F_gauge_ratio_of (p0:gauge_ratio) (p1:Int):Le (K_gauge_ratio_of p0 p1) (F_gauge_ratio_of p0 p1):=by
 unfold K_gauge_ratio_of F_gauge_ratio_of
 with_reducible repeat' (first | exact Le.rfl _ | refine Le.loop _ ?_ | refine Le.bind ?_ ?_ | refine Le.ite ?_ ?_ | refine Le.sum ?_ ?_ | refine Le.prod ?_ | intro _ | exact Empty.elim (by assumption) | dsimp only)
theorem m_F_gauge_scale (p0:api_Gauge) (p1:gauge_ratio) (p2:Int) (p3:Int) (p4:Int):Le (K_gauge_scale p0 p1 p2 p3 p4) (F_gauge_scale p0 p1 p2 p3 p4):=by
 unfold K_gauge_scale F_gauge_scale
 with_reducible repeat' (first | exact m_F_gauge_Check _ | exact m_F_gauge_within _ _ _ | exact m_F_gauge_ratio_of _ _ | exact Le.rfl _ | refine Le.loop _ ?_ | refine Le.bind ?_ ?_ | refine Le.ite ?_ ?_ | refine Le.sum ?_ ?_ | refine Le.prod ?_ | intro _ | exact Empty.elim (by assumption) | dsimp only)
theorem m_F_gauge_Stitches (p0:api_Gauge) (p1:Int):Le (K_gauge_Stitches p0 p1) (F_gauge_Stitches p0 p1):=by
 unfold K_gauge_Stitches F_gauge_Stitches
 with_reducible repeat' (first | exact m_F_gauge_scale _ _ _ _ _ | exact Le.rfl _ | refine Le.loop _ ?_ | refine Le.bind ?_ ?_ | refine Le.ite ?_ ?_ | refine Le.sum ?_ ?_ | refine Le.prod ?_ | intro _ | exact Empty.elim (by assumption) | dsimp only)
theorem m_F_gauge_Rows (p0:api_Gauge) (p1:Int):Le (K_gauge_Rows p0 p1) (F_gauge_Rows p0 p1):=by
 unfold K_gauge_Rows F_gauge_Rows
 with_reducible repeat' (first | exact m_F_gauge_scale _ _ _ _ _ | exact Le.rfl _ | refine Le.loop _ ?_ | refine Le.bind ?_ ?_ | refine Le.ite ?_ ?_ | refine Le.sum ?_ ?_ | refine Le.prod ?_ | intro _ | exact Empty.elim (by assumption) | dsimp only)
theorem m_piece_place_s0_l1 (p1:(List api_Point)) (p0:api_Gauge):∀ s,Le (K_piece_place_s0_l1 p1 p0 s) (piece_place_s0_l1 p1 p0 s):=by
 unfold K_piece_place_s0_l1 piece_place_s0_l1
 with_reducible repeat' (first | exact m_F_gauge_Stitches _ _ | exact m_F_gauge_Rows _ _ | exact Le.rfl _ | refine Le.loop _ ?_ | refine Le.bind ?_ ?_ | refine Le.ite ?_ ?_ | refine Le.sum ?_ ?_ | refine Le.prod ?_ | intro _ | exact Empty.elim (by assumption) | dsimp only)
theorem m_F_piece_place_s0 (p0:api_Gauge) (p1:(List api_Point)):Le (K_piece_place_s0 p0 p1) (F_piece_place_s0 p0 p1):=by
 unfold K_piece_place_s0 F_piece_place_s0
 with_reducible repeat' (first | exact m_piece_place_s0_l1 _ _ | exact Le.rfl _ | refine Le.loop _ ?_ | refine Le.bind ?_ ?_ | refine Le.ite ?_ ?_ | refine Le.sum ?_ ?_ | refine Le.prod ?_ | intro _ | exact Empty.elim (by assumption) | dsimp only)
theorem m_F_piece_Measure_s0 (p0:api_Gauge) (p1:(List api_Point)) (p2:(List api_Point)):Le (K_piece_Measure_s0 p0 p1 p2) (F_piece_Measure_s0 p0 p1 p2):=by
 unfold K_piece_Measure_s0 F_piece_Measure_s0
 with_reducible repeat' (first | exact m_F_piece_place_s0 _ _ | exact m_F_piece_shape _ | exact Le.rfl _ | refine Le.loop _ ?_ | refine Le.bind ?_ ?_ | refine Le.ite ?_ ?_ | refine Le.sum ?_ ?_ | refine Le.prod ?_ | intro _ | exact Empty.elim (by assumption) | dsimp only)
theorem m_F_raddlelaw37_made_s0 :Le (K_raddlelaw37_made_s0) (F_raddlelaw37_made_s0):=by
 unfold K_raddlelaw37_made_s0 F_raddlelaw37_made_s0
 with_reducible repeat' (first | exact Le.rfl _ | refine Le.loop _ ?_ | refine Le.bind ?_ ?_ | refine Le.ite ?_ ?_ | refine Le.sum ?_ ?_ | refine Le.prod ?_ | intro _ | exact Empty.elim (by assumption) | dsimp only)
theorem m_piece_Chart_s0_l1 (x68:Int) (x86:Int) (r73:piece_edge) (r96:piece_edge):∀ s,Le (K_piece_Chart_s0_l1 x68 x86 r73 r96 s) (piece_Chart_s0_l1 x68 x86 r73 r96 s):=by
 unfold K_piece_Chart_s0_l1 piece_Chart_s0_l1
 with_reducible repeat' (first | exact Le.rfl _ | refine Le.loop _ ?_ | refine Le.bind ?_ ?_ | refine Le.ite ?_ ?_ | refine Le.sum ?_ ?_ | refine Le.prod ?_ | intro _ | exact Empty.elim (by assumption) | dsimp only)
theorem m_F_slices_Backward___api_Stitch_api_Stitch__s0 (p0:(List api_Stitch)):Le (K_slices_Backward___api_Stitch_api_Stitch__s0 p0) (F_slices_Backward___api_Stitch_api_Stitch__s0 p0):=by
 unfold K_slices_Backward___api_Stitch_api_Stitch__s0 F_slices_Backward___api_Stitch_api_Stitch__s0
 with_reducible repeat' (first | exact Le.rfl _ | refine Le.loop _ ?_ | refine Le.bind ?_ ?_ | refine Le.ite ?_ ?_ | refine Le.sum ?_ ?_ | refine Le.prod ?_ | intro _ | exact Empty.elim (by assumption) | dsimp only)
theorem m_stitch_Turn_s0_l2 :∀ s x,Le (K_stitch_Turn_s0_l2 s x) (stitch_Turn_s0_l2 s x):=by
 unfold K_stitch_Turn_s0_l2 stitch_Turn_s0_l2
 with_reducible repeat' (first | exact m_F_stitch_forms _ | exact Le.rfl _ | refine Le.loop _ ?_ | refine Le.bind ?_ ?_ | refine Le.ite ?_ ?_ | refine Le.sum ?_ ?_ | refine Le.prod ?_ | intro _ | exact Empty.elim (by assumption) | dsimp only)
theorem m_F_stitch_Turn_s0 (p0:(List api_Stitch)):Le (K_stitch_Turn_s0 p0) (F_stitch_Turn_s0 p0):=by
 unfold K_stitch_Turn_s0 F_stitch_Turn_s0
 with_reducible repeat' (first | exact m_F_stitch_All _ | exact m_F_slices_Backward___api_Stitch_api_Stitch__s0 _ | refine m_I_slices_Backward___api_Stitch_api_Stitch__1 _ _ _ _ _ ?_ _ | exact m_stitch_Turn_s0_l2 | exact Le.rfl _ | refine Le.loop _ ?_ | refine Le.bind ?_ ?_ | refine Le.ite ?_ ?_ | refine Le.sum ?_ ?_ | refine Le.prod ?_ | intro _ | exact Empty.elim (by assumption) | dsimp only)
theorem m_piece_Chart_s0_l2 (p0:api_Piece):∀ s,Le (K_piece_Chart_s0_l2 p0 s) (piece_Chart_s0_l2 p0 s):=by
 unfold K_piece_Chart_s0_l2 piece_Chart_s0_l2
 with_reducible repeat' (first | exact m_F_piece_bend _ _ | exact m_piece_Chart_s0_l1 _ _ _ _ | exact m_F_stitch_Turn_s0 _ | exact Le.rfl _ | refine Le.loop _ ?_ | refine Le.bind ?_ ?_ | refine Le.ite ?_ ?_ | refine Le.sum ?_ ?_ | refine Le.prod ?_ | intro _ | exact Empty.elim (by assumption) | dsimp only)
theorem m_F_piece_Chart_s0 (p0:api_Piece):Le (K_piece_Chart_s0 p0) (F_piece_Chart_s0 p0):=by
 unfold K_piece_Chart_s0 F_piece_Chart_s0
 with_reducible repeat' (first | exact m_F_piece_Check _ | exact m_piece_Chart_s0_l2 _ | exact Le.rfl _ | refine Le.loop _ ?_ | refine Le.bind ?_ ?_ | refine Le.ite ?_ ?_ | refine Le.sum ?_ ?_ | refine Le.prod ?_ | intro _ | exact Empty.elim (by assumption) | dsimp only)
theorem m_raddleref37_SamePoints_l1 (p0:(List api_Point)) (p1:(List api_Point)):∀ s,Le (K_raddleref37_SamePoints_l1 p0 p1 s) (raddleref37_SamePoints_l1 p0 p1 s):=by
 unfold K_raddleref37_SamePoints_l1 raddleref37_SamePoints_l1
 with_reducible repeat' (first | exact Le.rfl _ | refine Le.loop _ ?_ | refine Le.bind ?_ ?_ | refine Le.ite ?_ ?_ | refine Le.sum ?_ ?_ | refine Le.prod ?_ | intro _ | exact Empty.elim (by assumption) | dsimp only)
theorem m_F_raddleref37_SamePoints (p0:(List api_Point)) (p1:(List api_Point)):Le (K_raddleref37_SamePoints p0 p1) (F_raddleref37_SamePoints p0 p1):=by
 unfold K_raddleref37_SamePoints F_raddleref37_SamePoints
 with_reducible repeat' (first | exact m_raddleref37_SamePoints_l1 _ _ | exact Le.rfl _ | refine Le.loop _ ?_ | refine Le.bind ?_ ?_ | refine Le.ite ?_ ?_ | refine Le.sum ?_ ?_ | refine Le.prod ?_ | intro _ | exact Empty.elim (by assumption) | dsimp only)
set_option maxRecDepth 1000000 in
theorem kc_raddlelaw37_PieceNames_0:F_raddlelaw37_step_s0 0 8 0 8=some (api_Piece.mk [0,0] [8,8]):=m_F_raddlelaw37_step_s0 _ _ _ _ _ (by kernel_rfl)
set_option maxRecDepth 1000000 in
theorem kc_raddlelaw37_PieceNames_1:F_raddlelaw37_row ((api_Piece.mk [0,0] [8,8]))=some (ByteArray.mk #[112,56]):=m_F_raddlelaw37_row _ _ (by kernel_rfl)
set_option maxRecDepth 1000000 in
theorem kc_raddlelaw37_PieceNames_2:F_raddlelaw37_step_s0 0 8 (-1) 10=some (api_Piece.mk [0,(-1)] [8,10]):=m_F_raddlelaw37_step_s0 _ _ _ _ _ (by kernel_rfl)
set_option maxRecDepth 1000000 in
theorem kc_raddlelaw37_PieceNames_3:F_raddlelaw37_row ((api_Piece.mk [0,(-1)] [8,10]))=some (ByteArray.mk #[112,109,50,32,112,54,32,112,109,51]):=m_F_raddlelaw37_row _ _ (by kernel_rfl)
set_option maxRecDepth 1000000 in
theorem kc_raddlelaw37_PieceNames_4:F_raddlelaw37_step_s0 0 8 (-4) 12=some (api_Piece.mk [0,(-4)] [8,12]):=m_F_raddlelaw37_step_s0 _ _ _ _ _ (by kernel_rfl)
set_option maxRecDepth 1000000 in
theorem kc_raddlelaw37_PieceNames_5:F_raddlelaw37_row ((api_Piece.mk [0,(-4)] [8,12]))=some (ByteArray.mk #[111,110,52,32,112,56,32,111,110,52]):=m_F_raddlelaw37_row _ _ (by kernel_rfl)
set_option maxRecDepth 1000000 in
theorem kc_raddlelaw37_PieceNames_6:F_raddlelaw37_step_s0 0 8 0 5=some (api_Piece.mk [0,0] [8,5]):=m_F_raddlelaw37_step_s0 _ _ _ _ _ (by kernel_rfl)
set_option maxRecDepth 1000000 in
theorem kc_raddlelaw37_PieceNames_7:F_raddlelaw37_row ((api_Piece.mk [0,0] [8,5]))=some (ByteArray.mk #[112,52,32,112,102,52]):=m_F_raddlelaw37_row _ _ (by kernel_rfl)
set_option maxRecDepth 1000000 in
theorem kc_raddlelaw37_PieceNames_8:F_raddlelaw37_step_s0 0 8 4 8=some (api_Piece.mk [0,4] [8,8]):=m_F_raddlelaw37_step_s0 _ _ _ _ _ (by kernel_rfl)
set_option maxRecDepth 1000000 in
theorem kc_raddlelaw37_PieceNames_9:F_raddlelaw37_row ((api_Piece.mk [0,4] [8,8]))=some (ByteArray.mk #[112,111,52,32,112,52]):=m_F_raddlelaw37_row _ _ (by kernel_rfl)
set_option maxRecDepth 1000000 in
theorem kc_raddlelaw37_PieceNames_10:F_raddlelaw37_step_s0 0 4 3 4=some (api_Piece.mk [0,3] [4,4]):=m_F_raddlelaw37_step_s0 _ _ _ _ _ (by kernel_rfl)
set_option maxRecDepth 1000000 in
theorem kc_raddlelaw37_PieceNames_11:F_raddlelaw37_row ((api_Piece.mk [0,3] [4,4]))=some (ByteArray.mk #[]):=m_F_raddlelaw37_row _ _ (by kernel_rfl)
set_option maxRecDepth 1000000 in
theorem kc_raddlelaw37_PieceNames_12:F_raddlelaw37_step_s0 0 5 3 5=some (api_Piece.mk [0,3] [5,5]):=m_F_raddlelaw37_step_s0 _ _ _ _ _ (by kernel_rfl)
set_option maxRecDepth 1000000 in
theorem kc_raddlelaw37_PieceNames_13:F_raddlelaw37_row ((api_Piece.mk [0,3] [5,5]))=some (ByteArray.mk #[112,108,52,32,112]):=m_F_raddlelaw37_row _ _ (by kernel_rfl)
set_option maxRecDepth 1000000 in
theorem kc_raddlelaw37_PieceNames_14:F_raddlelaw37_step_s0 0 1 0 2=some (api_Piece.mk [0,0] [1,2]):=m_F_raddlelaw37_step_s0 _ _ _ _ _ (by kernel_rfl)
set_option maxRecDepth 1000000 in
theorem kc_raddlelaw37_PieceNames_15:F_raddlelaw37_row ((api_Piece.mk [0,0] [1,2]))=some (ByteArray.mk #[]):=m_F_raddlelaw37_row _ _ (by kernel_rfl)
set_option maxRecDepth 1000000 in
theorem kc_raddlelaw37_PieceNames_16:F_raddlelaw37_step_s0 0 1 0 5=some (api_Piece.mk [0,0] [1,5]):=m_F_raddlelaw37_step_s0 _ _ _ _ _ (by kernel_rfl)
set_option maxRecDepth 1000000 in
theorem kc_raddlelaw37_PieceNames_17:F_raddlelaw37_row ((api_Piece.mk [0,0] [1,5]))=some (ByteArray.mk #[112,32,111,110,52]):=m_F_raddlelaw37_row _ _ (by kernel_rfl)
set_option maxRecDepth 1000000 in
theorem kc_raddlelaw37_PieceNames_18:F_piece_Make_s0 (api_Shape.mk [(api_Point.mk (-500) 0)] [(api_Point.mk (-300) 0)])=some ((api_Piece.mk [(-500)] [(-300)]),0):=m_F_piece_Make_s0 _ _ (by kernel_rfl)
set_option maxRecDepth 1000000 in
theorem kc_raddlelaw37_PieceNames_19:F_piece_Make_s0 (api_Shape.mk [(api_Point.mk 0 0)] [(api_Point.mk 201 0)])=some ((api_Piece.mk [] []),16):=m_F_piece_Make_s0 _ _ (by kernel_rfl)
set_option maxRecDepth 1000000 in
theorem kc_raddlelaw37_PieceNames_20:F_piece_Make_s0 (api_Shape.mk [(api_Point.mk 0 0)] [(api_Point.mk 0 0)])=some ((api_Piece.mk [] []),16):=m_F_piece_Make_s0 _ _ (by kernel_rfl)
set_option maxRecDepth 1000000 in
theorem kc_raddlelaw37_PieceNames_21:F_piece_Make_s0 (api_Shape.mk [(api_Point.mk 0 0),(api_Point.mk 0 1)] [(api_Point.mk 5 0)])=some ((api_Piece.mk [] []),8):=m_F_piece_Make_s0 _ _ (by kernel_rfl)
set_option maxRecDepth 1000000 in
theorem kc_raddlelaw37_PieceNames_22:F_piece_Make_s0 (api_Shape.mk [(api_Point.mk 0 1)] [(api_Point.mk 5 1)])=some ((api_Piece.mk [] []),8):=m_F_piece_Make_s0 _ _ (by kernel_rfl)
set_option maxRecDepth 1000000 in
theorem kc_raddlelaw37_PieceNames_23:F_piece_Make_s0 (api_Shape.mk ([]:(List api_Point)) ([]:(List api_Point)))=some ((api_Piece.mk [] []),8):=m_F_piece_Make_s0 _ _ (by kernel_rfl)
set_option maxRecDepth 1000000 in
theorem kc_raddlelaw37_PieceNames_24:F_piece_Make_s0 (api_Shape.mk [(api_Point.mk 0 0),(api_Point.mk 0 100)] [(api_Point.mk 5 0),(api_Point.mk 5 100)])=some ((api_Piece.mk [] []),8):=m_F_piece_Make_s0 _ _ (by kernel_rfl)
set_option maxRecDepth 1000000 in
theorem kc_raddlelaw37_PieceNames_25:F_piece_Measure_s0 (api_Gauge.mk 1 10 1 10) [(api_Point.mk (-15) 0),(api_Point.mk 4 25)] [(api_Point.mk 15 0),(api_Point.mk 20 30)]=some ((api_Shape.mk [(api_Point.mk (-2) 0),(api_Point.mk 0 3)] [(api_Point.mk 2 0),(api_Point.mk 2 3)]),0):=m_F_piece_Measure_s0 _ _ _ _ (by kernel_rfl)
set_option maxRecDepth 1000000 in
theorem kc_raddlelaw37_PieceNames_26:F_piece_Measure_s0 (api_Gauge.mk 1 10 1 10) [(api_Point.mk 0 0),(api_Point.mk 0 4)] [(api_Point.mk 9 0),(api_Point.mk 9 40)]=some ((api_Shape.mk [] []),8):=m_F_piece_Measure_s0 _ _ _ _ (by kernel_rfl)
set_option maxRecDepth 1000000 in
theorem kc_raddlelaw37_PieceNames_27:F_piece_Measure_s0 (api_Gauge.mk 1 10 1 10) [(api_Point.mk (-1000001) 0)] [(api_Point.mk 9 0)]=some ((api_Shape.mk [] []),2):=m_F_piece_Measure_s0 _ _ _ _ (by kernel_rfl)
set_option maxRecDepth 1000000 in
theorem kc_raddlelaw37_PieceNames_28:F_piece_Measure_s0 (api_Gauge.mk 0 0 0 0) ([]:(List api_Point)) [(api_Point.mk 0 0)]=some ((api_Shape.mk [] []),8):=m_F_piece_Measure_s0 _ _ _ _ (by kernel_rfl)
set_option maxRecDepth 1000000 in
theorem kc_raddlelaw37_PieceNames_29:F_raddlelaw37_made_s0=some (api_Piece.mk [0,1,1,2,2] [10,10,9,9,8]):=m_F_raddlelaw37_made_s0 _ (by kernel_rfl)
set_option maxRecDepth 1000000 in
theorem kc_raddlelaw37_PieceNames_30:F_piece_Chart_s0 ((api_Piece.mk [0,1,1,2,2] [10,10,9,9,8]))=some ((api_Chart.mk 10 [(api_Row.mk true [(api_Stitch.mk 4 true 2 0),(api_Stitch.mk 1 true 0 0),(api_Stitch.mk 1 true 0 0),(api_Stitch.mk 1 true 0 0),(api_Stitch.mk 1 true 0 0),(api_Stitch.mk 1 true 0 0),(api_Stitch.mk 1 true 0 0),(api_Stitch.mk 1 true 0 0),(api_Stitch.mk 1 true 0 0)]),(api_Row.mk false [(api_Stitch.mk 3 false 2 0),(api_Stitch.mk 1 false 0 0),(api_Stitch.mk 1 false 0 0),(api_Stitch.mk 1 false 0 0),(api_Stitch.mk 1 false 0 0),(api_Stitch.mk 1 false 0 0),(api_Stitch.mk 1 false 0 0),(api_Stitch.mk 1 false 0 0)]),(api_Row.mk true [(api_Stitch.mk 4 true 2 0),(api_Stitch.mk 1 true 0 0),(api_Stitch.mk 1 true 0 0),(api_Stitch.mk 1 true 0 0),(api_Stitch.mk 1 true 0 0),(api_Stitch.mk 1 true 0 0),(api_Stitch.mk 1 true 0 0)]),(api_Row.mk false [(api_Stitch.mk 3 false 2 0),(api_Stitch.mk 1 false 0 0),(api_Stitch.mk 1 false 0 0),(api_Stitch.mk 1 false 0 0),(api_Stitch.mk 1 false 0 0),(api_Stitch.mk 1 false 0 0)])]),0):=m_F_piece_Chart_s0 _ _ (by kernel_rfl)
set_option maxRecDepth 1000000 in
theorem kc_raddlelaw37_PieceNames_31:F_piece_Read (api_Chart.mk (((api_Chart.mk 10 [(api_Row.mk true [(api_Stitch.mk 4 true 2 0),(api_Stitch.mk 1 true 0 0),(api_Stitch.mk 1 true 0 0),(api_Stitch.mk 1 true 0 0),(api_Stitch.mk 1 true 0 0),(api_Stitch.mk 1 true 0 0),(api_Stitch.mk 1 true 0 0),(api_Stitch.mk 1 true 0 0),(api_Stitch.mk 1 true 0 0)]),(api_Row.mk false [(api_Stitch.mk 3 false 2 0),(api_Stitch.mk 1 false 0 0),(api_Stitch.mk 1 false 0 0),(api_Stitch.mk 1 false 0 0),(api_Stitch.mk 1 false 0 0),(api_Stitch.mk 1 false 0 0),(api_Stitch.mk 1 false 0 0),(api_Stitch.mk 1 false 0 0)]),(api_Row.mk true [(api_Stitch.mk 4 true 2 0),(api_Stitch.mk 1 true 0 0),(api_Stitch.mk 1 true 0 0),(api_Stitch.mk 1 true 0 0),(api_Stitch.mk 1 true 0 0),(api_Stitch.mk 1 true 0 0),(api_Stitch.mk 1 true 0 0)]),(api_Row.mk false [(api_Stitch.mk 3 false 2 0),(api_Stitch.mk 1 false 0 0),(api_Stitch.mk 1 false 0 0),(api_Stitch.mk 1 false 0 0),(api_Stitch.mk 1 false 0 0),(api_Stitch.mk 1 false 0 0)])]),0)).1.Start ([(api_Row.mk false [(api_Stitch.mk 4 true 2 0),(api_Stitch.mk 1 true 0 0),(api_Stitch.mk 1 true 0 0),(api_Stitch.mk 1 true 0 0),(api_Stitch.mk 1 true 0 0),(api_Stitch.mk 1 true 0 0),(api_Stitch.mk 1 true 0 0),(api_Stitch.mk 1 true 0 0),(api_Stitch.mk 1 true 0 0)]),(api_Row.mk false [(api_Stitch.mk 3 false 2 0),(api_Stitch.mk 1 false 0 0),(api_Stitch.mk 1 false 0 0),(api_Stitch.mk 1 false 0 0),(api_Stitch.mk 1 false 0 0),(api_Stitch.mk 1 false 0 0),(api_Stitch.mk 1 false 0 0),(api_Stitch.mk 1 false 0 0)]),(api_Row.mk true [(api_Stitch.mk 4 true 2 0),(api_Stitch.mk 1 true 0 0),(api_Stitch.mk 1 true 0 0),(api_Stitch.mk 1 true 0 0),(api_Stitch.mk 1 true 0 0),(api_Stitch.mk 1 true 0 0),(api_Stitch.mk 1 true 0 0)]),(api_Row.mk false [(api_Stitch.mk 3 false 2 0),(api_Stitch.mk 1 false 0 0),(api_Stitch.mk 1 false 0 0),(api_Stitch.mk 1 false 0 0),(api_Stitch.mk 1 false 0 0),(api_Stitch.mk 1 false 0 0)])])) 0=some ((api_Piece.mk [] []),8):=m_F_piece_Read _ _ _ (by kernel_rfl)
set_option maxRecDepth 1000000 in
theorem kc_raddlelaw37_PieceNames_32:F_piece_Read (api_Chart.mk 0 ([]:(List api_Row))) 0=some ((api_Piece.mk [] []),8):=m_F_piece_Read _ _ _ (by kernel_rfl)
set_option maxRecDepth 1000000 in
theorem kc_raddlelaw37_PieceNames_33:F_piece_Read (api_Chart.mk 200 ([]:(List api_Row))) 300=some ((api_Piece.mk [300] [500]),0):=m_F_piece_Read _ _ _ (by kernel_rfl)
set_option maxRecDepth 1000000 in
theorem kc_raddlelaw37_PieceNames_34:F_piece_Read (api_Chart.mk 200 ([]:(List api_Row))) 301=some ((api_Piece.mk [] []),8):=m_F_piece_Read _ _ _ (by kernel_rfl)
set_option maxRecDepth 1000000 in
theorem kc_raddlelaw37_PieceNames_35:F_piece_Check (api_Piece.mk ([]:(List Int)) ([]:(List Int)))=some 8:=m_F_piece_Check _ _ (by kernel_rfl)
set_option maxRecDepth 1000000 in
theorem kc_raddlelaw37_PieceNames_36:F_raddlelaw37_step_s0 0 1 1 1=some (api_Piece.mk [0,1] [1,1]):=m_F_raddlelaw37_step_s0 _ _ _ _ _ (by kernel_rfl)
set_option maxRecDepth 1000000 in
theorem kc_raddlelaw37_PieceNames_37:F_piece_Check ((api_Piece.mk [0,1] [1,1]))=some 8:=m_F_piece_Check _ _ (by kernel_rfl)
set_option maxRecDepth 1000000 in
theorem kc_raddlelaw37_PieceNames_38:F_piece_Check (api_Piece.mk ([0]:List Int) ([]:(List Int)))=some 8:=m_F_piece_Check _ _ (by kernel_rfl)
set_option maxRecDepth 1000000 in
theorem kc_raddlelaw37_PieceNames_39:F_piece_Check (api_Piece.mk ([0,0,0,0,0,0,0,0,0,0,0,0,0,0,0,0,0,0,0,0,0,0,0,0,0,0,0,0,0,0,0,0,0,0,0,0,0,0,0,0,0,0,0,0,0,0,0,0,0,0,0,0,0,0,0,0,0,0,0,0,0,0,0,0,0,0,0,0,0,0,0,0,0,0,0,0,0,0,0,0,0,0,0,0,0,0,0,0,0,0,0,0,0,0,0,0,0,0,0,0,0]) ([0,0,0,0,0,0,0,0,0,0,0,0,0,0,0,0,0,0,0,0,0,0,0,0,0,0,0,0,0,0,0,0,0,0,0,0,0,0,0,0,0,0,0,0,0,0,0,0,0,0,0,0,0,0,0,0,0,0,0,0,0,0,0,0,0,0,0,0,0,0,0,0,0,0,0,0,0,0,0,0,0,0,0,0,0,0,0,0,0,0,0,0,0,0,0,0,0,0,0,0,0]))=some 8:=m_F_piece_Check _ _ (by kernel_rfl)
set_option maxRecDepth 1000000 in
theorem kc_raddlelaw37_PieceNames_40:F_raddleref37_Same (((api_Piece.mk [(-500)] [(-300)]),0)).1 (api_Piece.mk ([(-500)]:List Int) ([(-300)]:List Int))=some true:=m_F_raddleref37_Same _ _ _ (by kernel_rfl)
set_option maxRecDepth 1000000 in
theorem kc_raddlelaw37_PieceNames_41:F_raddleref37_SamePoints (((api_Shape.mk [(api_Point.mk (-2) 0),(api_Point.mk 0 3)] [(api_Point.mk 2 0),(api_Point.mk 2 3)]),0)).1.Left [(api_Point.mk (-2) 0),(api_Point.mk 0 3)]=some true:=m_F_raddleref37_SamePoints _ _ _ (by kernel_rfl)
set_option maxRecDepth 1000000 in
theorem kc_raddlelaw37_PieceNames_42:F_raddleref37_SamePoints (((api_Shape.mk [(api_Point.mk (-2) 0),(api_Point.mk 0 3)] [(api_Point.mk 2 0),(api_Point.mk 2 3)]),0)).1.Right [(api_Point.mk 2 0),(api_Point.mk 2 3)]=some true:=m_F_raddleref37_SamePoints _ _ _ (by kernel_rfl)
set_option maxRecDepth 1000000 in
theorem kc_raddlelaw37_PieceNames_43:F_raddlelaw37_alive=some true:=m_F_raddlelaw37_alive _ (by kernel_rfl)
def anc_raddlelaw37_PieceNames_0:List (List Nat):=[[],[0],[0,1],[0,1,2],[0,1,2,3],[0,1,2,3,4],[0,1,2,3,4,5],[0,1,2,3,4,5,6],[0,1,2,3,4,5,6,7],[0,1,2,3,4,5,6,7,8],[0,1,2,3,4,5,6,7,8,9],[0,1,2,3,4,5,6,7,8,9,10],[0,1,2,3,4,5,6,7,8,9,10,11],[0,1,2,3,4,5,6,7,8,9,10,11,12],[0,1,2,3,4,5,6,7,8,9,10,11,12,13],[0,1,2,3,4,5,6,7,8,9,10,11,12,13,14],[0,1,2,3,4,5,6,7,8,9,10,11,12,13,14],[0,1,2,3,4,5,6,7,8,9,10,11,12,13,14,15,16],[0,1,2,3,4,5,6,7,8,9,10,11,12,13,14,15,16,17],[0,1,2,3,4,5,6,7,8,9,10,11,12,13,14,15,16,17,18],[0,1,2,3,4,5,6,7,8,9,10,11,12,13,14,15,16,17,18,19],[0,1,2,3,4,5,6,7,8,9,10,11,12,13,14,15,16,17,18,19,20]]
noncomputable def F_raddlelaw37_PieceNames :Option Bool:=
 (F_raddlelaw37_step_s0 0 8 0 8).bind fun r3=>
 (F_raddlelaw37_row r3).bind fun r9=>
 if r9 == (⟨#[112,56]⟩:ByteArray) then
  (F_raddlelaw37_step_s0 0 8 (-1) 10).bind fun aJ=>
  (F_raddlelaw37_row aJ).bind fun aK=>
  if aK == (⟨#[112,109,50,32,112,54,32,112,109,51]⟩:ByteArray) then
   (F_raddlelaw37_step_s0 0 8 (-4) 12).bind fun aL=>
   (F_raddlelaw37_row aL).bind fun aM=>
   if aM == (⟨#[111,110,52,32,112,56,32,111,110,52]⟩:ByteArray) then
    (F_raddlelaw37_step_s0 0 8 0 5).bind fun aO=>
    (F_raddlelaw37_row aO).bind fun aP=>
    if aP == (⟨#[112,52,32,112,102,52]⟩:ByteArray) then
     (F_raddlelaw37_step_s0 0 8 4 8).bind fun aQ=>
     (F_raddlelaw37_row aQ).bind fun aR=>
     if aR == (⟨#[112,111,52,32,112,52]⟩:ByteArray) then
      (F_raddlelaw37_step_s0 0 4 3 4).bind fun aS=>
      (F_raddlelaw37_row aS).bind fun aT=>
      if aT == (⟨#[]⟩:ByteArray) then
       (F_raddlelaw37_step_s0 0 5 3 5).bind fun aU=>
       (F_raddlelaw37_row aU).bind fun aV=>
       if aV == (⟨#[112,108,52,32,112]⟩:ByteArray) then
        (F_raddlelaw37_step_s0 0 1 0 2).bind fun aW=>
        (F_raddlelaw37_row aW).bind fun aX=>
        if aX == (⟨#[]⟩:ByteArray) then
         (F_raddlelaw37_step_s0 0 1 0 5).bind fun aZ=>
         (F_raddlelaw37_row aZ).bind fun b0=>
         (F_piece_Make_s0 (api_Shape.mk [(api_Point.mk (-500) 0)] [(api_Point.mk (-300) 0)])).bind fun aI=>
         (F_piece_Make_s0 (api_Shape.mk [(api_Point.mk 0 0)] [(api_Point.mk 201 0)])).bind fun aa=>
         (F_piece_Make_s0 (api_Shape.mk [(api_Point.mk 0 0)] [(api_Point.mk 0 0)])).bind fun ab=>
         (F_piece_Make_s0 (api_Shape.mk [(api_Point.mk 0 0),(api_Point.mk 0 1)] [(api_Point.mk 5 0)])).bind fun ac=>
         (F_piece_Make_s0 (api_Shape.mk [(api_Point.mk 0 1)] [(api_Point.mk 5 1)])).bind fun ae=>
         (F_piece_Make_s0 (api_Shape.mk ([]:(List api_Point)) ([]:(List api_Point)))).bind fun af=>
         (F_piece_Make_s0 (api_Shape.mk [(api_Point.mk 0 0),(api_Point.mk 0 100)] [(api_Point.mk 5 0),(api_Point.mk 5 100)])).bind fun ag=>
         (F_piece_Measure_s0 (api_Gauge.mk 1 10 1 10) [(api_Point.mk (-15) 0),(api_Point.mk 4 25)] [(api_Point.mk 15 0),(api_Point.mk 20 30)]).bind fun a6=>
         (F_piece_Measure_s0 (api_Gauge.mk 1 10 1 10) [(api_Point.mk 0 0),(api_Point.mk 0 4)] [(api_Point.mk 9 0),(api_Point.mk 9 40)]).bind fun ah=>
         (F_piece_Measure_s0 (api_Gauge.mk 1 10 1 10) [(api_Point.mk (-1000001) 0)] [(api_Point.mk 9 0)]).bind fun ai=>
         (F_piece_Measure_s0 (api_Gauge.mk 0 0 0 0) ([]:(List api_Point)) [(api_Point.mk 0 0)]).bind fun aj=>
         (F_raddlelaw37_made_s0).bind fun ak=>
         (F_piece_Chart_s0 ak).bind fun a2=>
         if a2.2 != 0 then
          none
         else
          if (a2.1.Rows.length:Int) != 4 then
           some false
          else
           (idxO a2.1.Rows 0).bind fun al=>
           (setO a2.1.Rows 0 (api_Row.mk false al.Cells)).bind fun am=>
           (F_piece_Read (api_Chart.mk a2.1.Start am) 0).bind fun ao=>
           (F_piece_Read (api_Chart.mk 0 ([]:(List api_Row))) 0).bind fun ap=>
           (F_piece_Read (api_Chart.mk 200 ([]:(List api_Row))) 300).bind fun a7=>
           (F_piece_Read (api_Chart.mk 200 ([]:(List api_Row))) 301).bind fun aq=>
           (F_piece_Check (api_Piece.mk ([]:(List Int)) ([]:(List Int)))).bind fun ar=>
           if ar == 8 then
            (F_raddlelaw37_step_s0 0 1 1 1).bind fun au=>
            (F_piece_Check au).bind fun av=>
            if av == 8 then
             (F_piece_Check (api_Piece.mk ([0]:List Int) ([]:(List Int)))).bind fun aw=>
             if aw == 8 then
              (makeO 101 (0:Int)).bind fun a8=>
              (F_piece_Check (api_Piece.mk a8 a8)).bind fun ax=>
              if aa.2 == 16 then
               if ab.2 == 16 then
                if ac.2 == 8 then
                 if ae.2 == 8 then
                  if af.2 == 8 then
                   if ag.2 == 8 then
                    if ah.2 == 8 then
                     if ai.2 == 2 then
                      if aj.2 == 8 then
                       if ao.2 == 8 then
                        if ap.2 == 8 then
                         Option.bind (α:=Bool) (
                          if b0 == (⟨#[112,32,111,110,52]⟩:ByteArray) then
                           if aI.2 == 0 then
                            (F_raddleref37_Same aI.1 (api_Piece.mk ([(-500)]:List Int) ([(-300)]:List Int))).bind fun ay=>
                            if ay then
                             if a6.2 == 0 then
                              (F_raddleref37_SamePoints a6.1.Left [(api_Point.mk (-2) 0),(api_Point.mk 0 3)]).bind fun az=>
                              if az then
                               (F_raddleref37_SamePoints a6.1.Right [(api_Point.mk 2 0),(api_Point.mk 2 3)]).bind fun aA=>
                               if aA then
                                if ax == 8 then
                                 if aq.2 == 8 then
                                  if a7.2 == 0 then
                                   if (a7.1.Right.length:Int) == 1 then
                                    (idxO a7.1.Right 0).bind fun aC=>
                                    if aC == 500 then
                                     (F_raddlelaw37_alive).bind fun aG=>
                                     some aG
                                    else
                                     none
                                   else
                                    none
                                  else
                                   none
                                 else
                                  none
                                else
                                 none
                               else
                                none
                              else
                               none
                             else
                              none
                            else
                             none
                           else
                            none
                          else
                           some false) fun aH=>
                         some aH
                        else
                         none
                       else
                        none
                      else
                       none
                     else
                      none
                    else
                     none
                   else
                    none
                  else
                   none
                 else
                  none
                else
                 none
               else
                none
              else
               none
             else
              none
            else
             none
           else
            none
        else
         none
       else
        none
      else
       none
     else
      none
    else
     none
   else
    none
  else
   none
 else
  none
theorem c_raddlelaw37_PieceNames (E:Nat→Prop) (w0:World)  (r:Bool) (h:F_raddlelaw37_PieceNames =some r) (S:St0 E [] w0 w0 [] []) :
 Calls Tryd.prog 7 #[] w0 (Ret (X:=Unit) E [] w0 (fun _=>.bool r) (fun _=>[]) (fun _=>[])):=by
 unfold F_raddlelaw37_PieceNames at h
 refine sEnter (args:=[]) 345 Tryd.func7 d d (by simp) S (fun a S=>?_)
 refine sSeq (fun K1 gQ=>sRegion (sN S fun a S=>?_))
 refine lT (gQ _ _ (sSeq (fun K2 gR=>sRegion ?_)))
 obtain ⟨r3,gP,h⟩:=bS h
 have hv_r3:r3=(api_Piece.mk [0,0] [8,8]):=Option.some.inj (gP.symm.trans (by exact kc_raddlelaw37_PieceNames_0))
 refine sCall (X:=Option Addr × Nat × Option Addr × Nat) (f:=27) (vs:=[iv 0,iv 8,iv 0,iv 8]) (val:=fun x=>.agg #[.slice x.1 r3.Left.length x.2.1,.slice x.2.2.1 r3.Right.length x.2.2.2]) (B':=fun x=>[eRow (rI .i64) 3 (.slice x.1 r3.Left.length x.2.1) r3.Left,eRow (rI .i64) 3 (.slice x.2.2.1 r3.Right.length x.2.2.2) r3.Right]) (D':=fun _=>[]) [] [] [] [] [] S (wN d) d callee27 d (by decide) d d (fun E1 w1 S1=>c_raddlelaw37_step_s0 E1 w1 0 8 0 8 r3 gP S1) d (lb d) fun xx a w S=>?_
 obtain ⟨cv,cw,cx,cy⟩:=xx
 dsimp only at S
 obtain ⟨r9,fm,h⟩:=bS h
 have hv_r9:r9=(ByteArray.mk #[112,56]):=Option.some.inj (fm.symm.trans (by rw [hv_r3]; exact kc_raddlelaw37_PieceNames_1))
 have S1:=S.mem
 have S1:=S1.shutR (r:=(rI .i64)) (T:=3) (v:=.slice cv r3.Left.length cw) (xs:=r3.Left) 0 d
 have S1:=S1.shutR (r:=(rI .i64)) (T:=3) (v:=.slice cx r3.Right.length cy) (xs:=r3.Right) 0 d
 have S1:=S1.learn (fRep r_api_Piece (.agg #[.slice cv r3.Left.length cw,.slice cx r3.Right.length cy]) r3) ⟨_,_,d,S1.know (i:=1) (e:=fRep (rL (rI .i64)) (.slice cv r3.Left.length cw) r3.Left) d,S1.know (i:=0) (e:=fRep (rL (rI .i64)) (.slice cx r3.Right.length cy) r3.Right) d⟩
 refine sCq [.agg #[.slice cv r3.Left.length cw,.slice cx r3.Right.length cy]] (.string r9) S callee26 (S1.quiet [0] d) (fun E1 w1 S1=>c_raddlelaw37_row E1 w1 r3 (.agg #[.slice cv r3.Left.length cw,.slice cx r3.Right.length cy]) r9 fm S1) fun a w S=>?_
 refine sBin _ S (wN d) d d d (bEqS _ _ _ _ r9 (⟨#[112,56]⟩:ByteArray)) d (lb d) fun a S=>sM S fun a S=>?_
 rcases iS h with ⟨ej,h⟩ | ⟨ej,h⟩
 rotate_left
 ·exact absurd ej (by rw [hv_r9]; decide)
 obtain ⟨ai,fp,h⟩:=bS h
 have hv_r12:ai=(api_Piece.mk [0,(-1)] [8,10]):=Option.some.inj (fp.symm.trans (by exact kc_raddlelaw37_PieceNames_2))
 refine sCall (X:=Option Addr × Nat × Option Addr × Nat) (f:=27) (vs:=[iv 0,iv 8,iv (-1),iv 10]) (val:=fun x=>.agg #[.slice x.1 ai.Left.length x.2.1,.slice x.2.2.1 ai.Right.length x.2.2.2]) (B':=fun x=>[eRow (rI .i64) 3 (.slice x.1 ai.Left.length x.2.1) ai.Left,eRow (rI .i64) 3 (.slice x.2.2.1 ai.Right.length x.2.2.2) ai.Right]) (D':=fun _=>[]) [] [eRow (rI .i64) 3 (.slice cv r3.Left.length cw) r3.Left,eRow (rI .i64) 3 (.slice cx r3.Right.length cy) r3.Right] [] [0,1] [] S (wG 3 true 40 d d d ej) d callee27 d (by decide) d d (fun E1 w1 S1=>c_raddlelaw37_step_s0 E1 w1 0 8 (-1) 10 ai fp S1) d (lb d) fun xx a w S=>?_
 obtain ⟨bv,bw,bx,bz⟩:=xx
 dsimp only at S
 obtain ⟨fq,fr,h⟩:=bS h
 have hv_r18:fq=(ByteArray.mk #[112,109,50,32,112,54,32,112,109,51]):=Option.some.inj (fr.symm.trans (by rw [hv_r12]; exact kc_raddlelaw37_PieceNames_3))
 have S1:=S.mem
 have S1:=S1.shutR (r:=(rI .i64)) (T:=3) (v:=.slice bv ai.Left.length bw) (xs:=ai.Left) 0 d
 have S1:=S1.shutR (r:=(rI .i64)) (T:=3) (v:=.slice bx ai.Right.length bz) (xs:=ai.Right) 0 d
 have S1:=S1.learn (fRep r_api_Piece (.agg #[.slice bv ai.Left.length bw,.slice bx ai.Right.length bz]) ai) ⟨_,_,d,S1.know (i:=1) (e:=fRep (rL (rI .i64)) (.slice bv ai.Left.length bw) ai.Left) d,S1.know (i:=0) (e:=fRep (rL (rI .i64)) (.slice bx ai.Right.length bz) ai.Right) d⟩
 refine sCallQ (X:=Unit) (f:=26) (vs:=[.agg #[.slice bv ai.Left.length bw,.slice bx ai.Right.length bz]]) (val:=fun _=>.string fq) S (wG 3 true 40 d d d ej) d callee26 d (S1.quiet [0] d) (fun E1 w1 S1=>c_raddlelaw37_row E1 w1 ai (.agg #[.slice bv ai.Left.length bw,.slice bx ai.Right.length bz]) fq fr S1) d (lb d) fun _ a w S=>?_
 refine sBin _ S (wG 3 true 40 d d d ej) d d d (bEqS _ _ _ _ fq (⟨#[112,109,50,32,112,54,32,112,109,51]⟩:ByteArray)) d (lb d) fun a S=>sPickT (.bool (fq == (⟨#[112,109,50,32,112,54,32,112,109,51]⟩:ByteArray))) S (wN d) d d ej d d (lb d) fun a S=>sM S fun a S=>?_
 rcases iS h with ⟨ek,h⟩ | ⟨ek,h⟩
 rotate_left
 ·exact absurd ek (by rw [hv_r18]; decide)
 obtain ⟨aj,ft,h⟩:=bS h
 have hv_r21:aj=(api_Piece.mk [0,(-4)] [8,12]):=Option.some.inj (ft.symm.trans (by exact kc_raddlelaw37_PieceNames_4))
 refine sCall (X:=Option Addr × Nat × Option Addr × Nat) (f:=27) (vs:=[iv 0,iv 8,iv (-4),iv 12]) (val:=fun x=>.agg #[.slice x.1 aj.Left.length x.2.1,.slice x.2.2.1 aj.Right.length x.2.2.2]) (B':=fun x=>[eRow (rI .i64) 3 (.slice x.1 aj.Left.length x.2.1) aj.Left,eRow (rI .i64) 3 (.slice x.2.2.1 aj.Right.length x.2.2.2) aj.Right]) (D':=fun _=>[]) [] [eRow (rI .i64) 3 (.slice bv ai.Left.length bw) ai.Left,eRow (rI .i64) 3 (.slice bx ai.Right.length bz) ai.Right,eRow (rI .i64) 3 (.slice cv r3.Left.length cw) r3.Left,eRow (rI .i64) 3 (.slice cx r3.Right.length cy) r3.Right] [] [0,1,2,3] [] S (wG 8 true 45 d d d ek) d callee27 d (by decide) d d (fun E1 w1 S1=>c_raddlelaw37_step_s0 E1 w1 0 8 (-4) 12 aj ft S1) d (lb d) fun xx a w S=>?_
 obtain ⟨bB,bC,bD,bE⟩:=xx
 dsimp only at S
 obtain ⟨fu,fv,h⟩:=bS h
 have hv_r27:fu=(ByteArray.mk #[111,110,52,32,112,56,32,111,110,52]):=Option.some.inj (fv.symm.trans (by rw [hv_r21]; exact kc_raddlelaw37_PieceNames_5))
 have S1:=S.mem
 have S1:=S1.shutR (r:=(rI .i64)) (T:=3) (v:=.slice bB aj.Left.length bC) (xs:=aj.Left) 0 d
 have S1:=S1.shutR (r:=(rI .i64)) (T:=3) (v:=.slice bD aj.Right.length bE) (xs:=aj.Right) 0 d
 have S1:=S1.learn (fRep r_api_Piece (.agg #[.slice bB aj.Left.length bC,.slice bD aj.Right.length bE]) aj) ⟨_,_,d,S1.know (i:=1) (e:=fRep (rL (rI .i64)) (.slice bB aj.Left.length bC) aj.Left) d,S1.know (i:=0) (e:=fRep (rL (rI .i64)) (.slice bD aj.Right.length bE) aj.Right) d⟩
 refine sCallQ (X:=Unit) (f:=26) (vs:=[.agg #[.slice bB aj.Left.length bC,.slice bD aj.Right.length bE]]) (val:=fun _=>.string fu) S (wG 8 true 45 d d d ek) d callee26 d (S1.quiet [0] d) (fun E1 w1 S1=>c_raddlelaw37_row E1 w1 aj (.agg #[.slice bB aj.Left.length bC,.slice bD aj.Right.length bE]) fu fv S1) d (lb d) fun _ a w S=>?_
 refine sBin _ S (wG 8 true 45 d d d ek) d d d (bEqS _ _ _ _ fu (⟨#[111,110,52,32,112,56,32,111,110,52]⟩:ByteArray)) d (lb d) fun a S=>sPickT (.bool (fu == (⟨#[111,110,52,32,112,56,32,111,110,52]⟩:ByteArray))) S (wN d) d d ek d d (lb d) fun a S=>sM S fun a S=>?_
 rcases iS h with ⟨el,h⟩ | ⟨el,h⟩
 rotate_left
 ·exact absurd el (by rw [hv_r27]; decide)
 obtain ⟨ak,fw,h⟩:=bS h
 have hv_r30:ak=(api_Piece.mk [0,0] [8,5]):=Option.some.inj (fw.symm.trans (by exact kc_raddlelaw37_PieceNames_6))
 refine sCall (X:=Option Addr × Nat × Option Addr × Nat) (f:=27) (vs:=[iv 0,iv 8,iv 0,iv 5]) (val:=fun x=>.agg #[.slice x.1 ak.Left.length x.2.1,.slice x.2.2.1 ak.Right.length x.2.2.2]) (B':=fun x=>[eRow (rI .i64) 3 (.slice x.1 ak.Left.length x.2.1) ak.Left,eRow (rI .i64) 3 (.slice x.2.2.1 ak.Right.length x.2.2.2) ak.Right]) (D':=fun _=>[]) [] [eRow (rI .i64) 3 (.slice bB aj.Left.length bC) aj.Left,eRow (rI .i64) 3 (.slice bD aj.Right.length bE) aj.Right,eRow (rI .i64) 3 (.slice bv ai.Left.length bw) ai.Left,eRow (rI .i64) 3 (.slice bx ai.Right.length bz) ai.Right,eRow (rI .i64) 3 (.slice cv r3.Left.length cw) r3.Left,eRow (rI .i64) 3 (.slice cx r3.Right.length cy) r3.Right] [] [0,1,2,3,4,5] [] S (wG 13 true 50 d d d el) d callee27 d (by decide) d d (fun E1 w1 S1=>c_raddlelaw37_step_s0 E1 w1 0 8 0 5 ak fw S1) d (lb d) fun xx a w S=>?_
 obtain ⟨bJ,bK,bL,bM⟩:=xx
 dsimp only at S
 obtain ⟨fx,fy,h⟩:=bS h
 have hv_r36:fx=(ByteArray.mk #[112,52,32,112,102,52]):=Option.some.inj (fy.symm.trans (by rw [hv_r30]; exact kc_raddlelaw37_PieceNames_7))
 have S1:=S.mem
 have S1:=S1.shutR (r:=(rI .i64)) (T:=3) (v:=.slice bJ ak.Left.length bK) (xs:=ak.Left) 0 d
 have S1:=S1.shutR (r:=(rI .i64)) (T:=3) (v:=.slice bL ak.Right.length bM) (xs:=ak.Right) 0 d
 have S1:=S1.learn (fRep r_api_Piece (.agg #[.slice bJ ak.Left.length bK,.slice bL ak.Right.length bM]) ak) ⟨_,_,d,S1.know (i:=1) (e:=fRep (rL (rI .i64)) (.slice bJ ak.Left.length bK) ak.Left) d,S1.know (i:=0) (e:=fRep (rL (rI .i64)) (.slice bL ak.Right.length bM) ak.Right) d⟩
 refine sCallQ (X:=Unit) (f:=26) (vs:=[.agg #[.slice bJ ak.Left.length bK,.slice bL ak.Right.length bM]]) (val:=fun _=>.string fx) S (wG 13 true 50 d d d el) d callee26 d (S1.quiet [0] d) (fun E1 w1 S1=>c_raddlelaw37_row E1 w1 ak (.agg #[.slice bJ ak.Left.length bK,.slice bL ak.Right.length bM]) fx fy S1) d (lb d) fun _ a w S=>?_
 refine sBin _ S (wG 13 true 50 d d d el) d d d (bEqS _ _ _ _ fx (⟨#[112,52,32,112,102,52]⟩:ByteArray)) d (lb d) fun a S=>sPickT (.bool (fx == (⟨#[112,52,32,112,102,52]⟩:ByteArray))) S (wN d) d d el d d (lb d) fun a S=>sM S fun a S=>?_
 rcases iS h with ⟨em,h⟩ | ⟨em,h⟩
 rotate_left
 ·exact absurd em (by rw [hv_r36]; decide)
 obtain ⟨aq,fz,h⟩:=bS h
 have hv_r39:aq=(api_Piece.mk [0,4] [8,8]):=Option.some.inj (fz.symm.trans (by exact kc_raddlelaw37_PieceNames_8))
 refine sCall (X:=Option Addr × Nat × Option Addr × Nat) (f:=27) (vs:=[iv 0,iv 8,iv 4,iv 8]) (val:=fun x=>.agg #[.slice x.1 aq.Left.length x.2.1,.slice x.2.2.1 aq.Right.length x.2.2.2]) (B':=fun x=>[eRow (rI .i64) 3 (.slice x.1 aq.Left.length x.2.1) aq.Left,eRow (rI .i64) 3 (.slice x.2.2.1 aq.Right.length x.2.2.2) aq.Right]) (D':=fun _=>[]) [] [eRow (rI .i64) 3 (.slice bJ ak.Left.length bK) ak.Left,eRow (rI .i64) 3 (.slice bL ak.Right.length bM) ak.Right,eRow (rI .i64) 3 (.slice bB aj.Left.length bC) aj.Left,eRow (rI .i64) 3 (.slice bD aj.Right.length bE) aj.Right,eRow (rI .i64) 3 (.slice bv ai.Left.length bw) ai.Left,eRow (rI .i64) 3 (.slice bx ai.Right.length bz) ai.Right,eRow (rI .i64) 3 (.slice cv r3.Left.length cw) r3.Left,eRow (rI .i64) 3 (.slice cx r3.Right.length cy) r3.Right] [] [0,1,2,3,4,5,6,7] [] S (wG 18 true 55 d d d em) d callee27 d (by decide) d d (fun E1 w1 S1=>c_raddlelaw37_step_s0 E1 w1 0 8 4 8 aq fz S1) d (lb d) fun xx a w S=>?_
 obtain ⟨bO,bP,bQ,bR⟩:=xx
 dsimp only at S
 obtain ⟨fA,fB,h⟩:=bS h
 have hv_r45:fA=(ByteArray.mk #[112,111,52,32,112,52]):=Option.some.inj (fB.symm.trans (by rw [hv_r39]; exact kc_raddlelaw37_PieceNames_9))
 have S1:=S.mem
 have S1:=S1.shutR (r:=(rI .i64)) (T:=3) (v:=.slice bO aq.Left.length bP) (xs:=aq.Left) 0 d
 have S1:=S1.shutR (r:=(rI .i64)) (T:=3) (v:=.slice bQ aq.Right.length bR) (xs:=aq.Right) 0 d
 have S1:=S1.learn (fRep r_api_Piece (.agg #[.slice bO aq.Left.length bP,.slice bQ aq.Right.length bR]) aq) ⟨_,_,d,S1.know (i:=1) (e:=fRep (rL (rI .i64)) (.slice bO aq.Left.length bP) aq.Left) d,S1.know (i:=0) (e:=fRep (rL (rI .i64)) (.slice bQ aq.Right.length bR) aq.Right) d⟩
 refine sCallQ (X:=Unit) (f:=26) (vs:=[.agg #[.slice bO aq.Left.length bP,.slice bQ aq.Right.length bR]]) (val:=fun _=>.string fA) S (wG 18 true 55 d d d em) d callee26 d (S1.quiet [0] d) (fun E1 w1 S1=>c_raddlelaw37_row E1 w1 aq (.agg #[.slice bO aq.Left.length bP,.slice bQ aq.Right.length bR]) fA fB S1) d (lb d) fun _ a w S=>?_
 refine sBin _ S (wG 18 true 55 d d d em) d d d (bEqS _ _ _ _ fA (⟨#[112,111,52,32,112,52]⟩:ByteArray)) d (lb d) fun a S=>sPickT (.bool (fA == (⟨#[112,111,52,32,112,52]⟩:ByteArray))) S (wN d) d d em d d (lb d) fun a S=>sM S fun a S=>?_
 rcases iS h with ⟨en,h⟩ | ⟨en,h⟩
 rotate_left
 ·exact absurd en (by rw [hv_r45]; decide)
 obtain ⟨ar,fC,h⟩:=bS h
 have hv_r48:ar=(api_Piece.mk [0,3] [4,4]):=Option.some.inj (fC.symm.trans (by exact kc_raddlelaw37_PieceNames_10))
 refine sCall (X:=Option Addr × Nat × Option Addr × Nat) (f:=27) (vs:=[iv 0,iv 4,iv 3,iv 4]) (val:=fun x=>.agg #[.slice x.1 ar.Left.length x.2.1,.slice x.2.2.1 ar.Right.length x.2.2.2]) (B':=fun x=>[eRow (rI .i64) 3 (.slice x.1 ar.Left.length x.2.1) ar.Left,eRow (rI .i64) 3 (.slice x.2.2.1 ar.Right.length x.2.2.2) ar.Right]) (D':=fun _=>[]) [] [eRow (rI .i64) 3 (.slice bO aq.Left.length bP) aq.Left,eRow (rI .i64) 3 (.slice bQ aq.Right.length bR) aq.Right,eRow (rI .i64) 3 (.slice bJ ak.Left.length bK) ak.Left,eRow (rI .i64) 3 (.slice bL ak.Right.length bM) ak.Right,eRow (rI .i64) 3 (.slice bB aj.Left.length bC) aj.Left,eRow (rI .i64) 3 (.slice bD aj.Right.length bE) aj.Right,eRow (rI .i64) 3 (.slice bv ai.Left.length bw) ai.Left,eRow (rI .i64) 3 (.slice bx ai.Right.length bz) ai.Right,eRow (rI .i64) 3 (.slice cv r3.Left.length cw) r3.Left,eRow (rI .i64) 3 (.slice cx r3.Right.length cy) r3.Right] [] [0,1,2,3,4,5,6,7,8,9] [] S (wG 23 true 60 d d d en) d callee27 d (by decide) d d (fun E1 w1 S1=>c_raddlelaw37_step_s0 E1 w1 0 4 3 4 ar fC S1) d (lb d) fun xx a w S=>?_
 obtain ⟨bU,bV,bW,bX⟩:=xx
 dsimp only at S
 obtain ⟨fG,fH,h⟩:=bS h
 have hv_r54:fG=(ByteArray.mk #[]):=Option.some.inj (fH.symm.trans (by rw [hv_r48]; exact kc_raddlelaw37_PieceNames_11))
 have S1:=S.mem
 have S1:=S1.shutR (r:=(rI .i64)) (T:=3) (v:=.slice bU ar.Left.length bV) (xs:=ar.Left) 0 d
 have S1:=S1.shutR (r:=(rI .i64)) (T:=3) (v:=.slice bW ar.Right.length bX) (xs:=ar.Right) 0 d
 have S1:=S1.learn (fRep r_api_Piece (.agg #[.slice bU ar.Left.length bV,.slice bW ar.Right.length bX]) ar) ⟨_,_,d,S1.know (i:=1) (e:=fRep (rL (rI .i64)) (.slice bU ar.Left.length bV) ar.Left) d,S1.know (i:=0) (e:=fRep (rL (rI .i64)) (.slice bW ar.Right.length bX) ar.Right) d⟩
 refine sCallQ (X:=Unit) (f:=26) (vs:=[.agg #[.slice bU ar.Left.length bV,.slice bW ar.Right.length bX]]) (val:=fun _=>.string fG) S (wG 23 true 60 d d d en) d callee26 d (S1.quiet [0] d) (fun E1 w1 S1=>c_raddlelaw37_row E1 w1 ar (.agg #[.slice bU ar.Left.length bV,.slice bW ar.Right.length bX]) fG fH S1) d (lb d) fun _ a w S=>?_
 refine sBin _ S (wG 23 true 60 d d d en) d d d (bEqS _ _ _ _ fG (⟨#[]⟩:ByteArray)) d (lb d) fun a S=>sPickT (.bool (fG == (⟨#[]⟩:ByteArray))) S (wN d) d d en d d (lb d) fun a S=>sM S fun a S=>?_
 rcases iS h with ⟨eo,h⟩ | ⟨eo,h⟩
 rotate_left
 ·exact absurd eo (by rw [hv_r54]; decide)
 obtain ⟨ay,fK,h⟩:=bS h
 have hv_r57:ay=(api_Piece.mk [0,3] [5,5]):=Option.some.inj (fK.symm.trans (by exact kc_raddlelaw37_PieceNames_12))
 refine sCall (X:=Option Addr × Nat × Option Addr × Nat) (f:=27) (vs:=[iv 0,iv 5,iv 3,iv 5]) (val:=fun x=>.agg #[.slice x.1 ay.Left.length x.2.1,.slice x.2.2.1 ay.Right.length x.2.2.2]) (B':=fun x=>[eRow (rI .i64) 3 (.slice x.1 ay.Left.length x.2.1) ay.Left,eRow (rI .i64) 3 (.slice x.2.2.1 ay.Right.length x.2.2.2) ay.Right]) (D':=fun _=>[]) [] [eRow (rI .i64) 3 (.slice bU ar.Left.length bV) ar.Left,eRow (rI .i64) 3 (.slice bW ar.Right.length bX) ar.Right,eRow (rI .i64) 3 (.slice bO aq.Left.length bP) aq.Left,eRow (rI .i64) 3 (.slice bQ aq.Right.length bR) aq.Right,eRow (rI .i64) 3 (.slice bJ ak.Left.length bK) ak.Left,eRow (rI .i64) 3 (.slice bL ak.Right.length bM) ak.Right,eRow (rI .i64) 3 (.slice bB aj.Left.length bC) aj.Left,eRow (rI .i64) 3 (.slice bD aj.Right.length bE) aj.Right,eRow (rI .i64) 3 (.slice bv ai.Left.length bw) ai.Left,eRow (rI .i64) 3 (.slice bx ai.Right.length bz) ai.Right,eRow (rI .i64) 3 (.slice cv r3.Left.length cw) r3.Left,eRow (rI .i64) 3 (.slice cx r3.Right.length cy) r3.Right] [] [0,1,2,3,4,5,6,7,8,9,10,11] [] S (wG 28 true 65 d d d eo) d callee27 d (by decide) d d (fun E1 w1 S1=>c_raddlelaw37_step_s0 E1 w1 0 5 3 5 ay fK S1) d (lb d) fun xx a w S=>?_
 obtain ⟨bY,bZ,c1,c2⟩:=xx
 dsimp only at S
 obtain ⟨fL,fO,h⟩:=bS h
 have hv_r63:fL=(ByteArray.mk #[112,108,52,32,112]):=Option.some.inj (fO.symm.trans (by rw [hv_r57]; exact kc_raddlelaw37_PieceNames_13))
 have S1:=S.mem
 have S1:=S1.shutR (r:=(rI .i64)) (T:=3) (v:=.slice bY ay.Left.length bZ) (xs:=ay.Left) 0 d
 have S1:=S1.shutR (r:=(rI .i64)) (T:=3) (v:=.slice c1 ay.Right.length c2) (xs:=ay.Right) 0 d
 have S1:=S1.learn (fRep r_api_Piece (.agg #[.slice bY ay.Left.length bZ,.slice c1 ay.Right.length c2]) ay) ⟨_,_,d,S1.know (i:=1) (e:=fRep (rL (rI .i64)) (.slice bY ay.Left.length bZ) ay.Left) d,S1.know (i:=0) (e:=fRep (rL (rI .i64)) (.slice c1 ay.Right.length c2) ay.Right) d⟩
 refine sCallQ (X:=Unit) (f:=26) (vs:=[.agg #[.slice bY ay.Left.length bZ,.slice c1 ay.Right.length c2]]) (val:=fun _=>.string fL) S (wG 28 true 65 d d d eo) d callee26 d (S1.quiet [0] d) (fun E1 w1 S1=>c_raddlelaw37_row E1 w1 ay (.agg #[.slice bY ay.Left.length bZ,.slice c1 ay.Right.length c2]) fL fO S1) d (lb d) fun _ a w S=>?_
 refine sBin _ S (wG 28 true 65 d d d eo) d d d (bEqS _ _ _ _ fL (⟨#[112,108,52,32,112]⟩:ByteArray)) d (lb d) fun a S=>sPickT (.bool (fL == (⟨#[112,108,52,32,112]⟩:ByteArray))) S (wN d) d d eo d d (lb d) fun a S=>sM S fun a S=>?_
 rcases iS h with ⟨ep,h⟩ | ⟨ep,h⟩
 rotate_left
 ·exact absurd ep (by rw [hv_r63]; decide)
 obtain ⟨aH,fP,h⟩:=bS h
 have hv_r66:aH=(api_Piece.mk [0,0] [1,2]):=Option.some.inj (fP.symm.trans (by exact kc_raddlelaw37_PieceNames_14))
 refine sCall (X:=Option Addr × Nat × Option Addr × Nat) (f:=27) (vs:=[iv 0,iv 1,iv 0,iv 2]) (val:=fun x=>.agg #[.slice x.1 aH.Left.length x.2.1,.slice x.2.2.1 aH.Right.length x.2.2.2]) (B':=fun x=>[eRow (rI .i64) 3 (.slice x.1 aH.Left.length x.2.1) aH.Left,eRow (rI .i64) 3 (.slice x.2.2.1 aH.Right.length x.2.2.2) aH.Right]) (D':=fun _=>[]) [] [eRow (rI .i64) 3 (.slice bY ay.Left.length bZ) ay.Left,eRow (rI .i64) 3 (.slice c1 ay.Right.length c2) ay.Right,eRow (rI .i64) 3 (.slice bU ar.Left.length bV) ar.Left,eRow (rI .i64) 3 (.slice bW ar.Right.length bX) ar.Right,eRow (rI .i64) 3 (.slice bO aq.Left.length bP) aq.Left,eRow (rI .i64) 3 (.slice bQ aq.Right.length bR) aq.Right,eRow (rI .i64) 3 (.slice bJ ak.Left.length bK) ak.Left,eRow (rI .i64) 3 (.slice bL ak.Right.length bM) ak.Right,eRow (rI .i64) 3 (.slice bB aj.Left.length bC) aj.Left,eRow (rI .i64) 3 (.slice bD aj.Right.length bE) aj.Right,eRow (rI .i64) 3 (.slice bv ai.Left.length bw) ai.Left,eRow (rI .i64) 3 (.slice bx ai.Right.length bz) ai.Right,eRow (rI .i64) 3 (.slice cv r3.Left.length cw) r3.Left,eRow (rI .i64) 3 (.slice cx r3.Right.length cy) r3.Right] [] [0,1,2,3,4,5,6,7,8,9,10,11,12,13] [] S (wG 33 true 70 d d d ep) d callee27 d (by decide) d d (fun E1 w1 S1=>c_raddlelaw37_step_s0 E1 w1 0 1 0 2 aH fP S1) d (lb d) fun xx a w S=>?_
 obtain ⟨c5,c6,c7,c8⟩:=xx
 dsimp only at S
 obtain ⟨fQ,fR,h⟩:=bS h
 have hv_r72:fQ=(ByteArray.mk #[]):=Option.some.inj (fR.symm.trans (by rw [hv_r66]; exact kc_raddlelaw37_PieceNames_15))
 have S1:=S.mem
 have S1:=S1.shutR (r:=(rI .i64)) (T:=3) (v:=.slice c5 aH.Left.length c6) (xs:=aH.Left) 0 d
 have S1:=S1.shutR (r:=(rI .i64)) (T:=3) (v:=.slice c7 aH.Right.length c8) (xs:=aH.Right) 0 d
 have S1:=S1.learn (fRep r_api_Piece (.agg #[.slice c5 aH.Left.length c6,.slice c7 aH.Right.length c8]) aH) ⟨_,_,d,S1.know (i:=1) (e:=fRep (rL (rI .i64)) (.slice c5 aH.Left.length c6) aH.Left) d,S1.know (i:=0) (e:=fRep (rL (rI .i64)) (.slice c7 aH.Right.length c8) aH.Right) d⟩
 refine sCallQ (X:=Unit) (f:=26) (vs:=[.agg #[.slice c5 aH.Left.length c6,.slice c7 aH.Right.length c8]]) (val:=fun _=>.string fQ) S (wG 33 true 70 d d d ep) d callee26 d (S1.quiet [0] d) (fun E1 w1 S1=>c_raddlelaw37_row E1 w1 aH (.agg #[.slice c5 aH.Left.length c6,.slice c7 aH.Right.length c8]) fQ fR S1) d (lb d) fun _ a w S=>?_
 refine sBin _ S (wG 33 true 70 d d d ep) d d d (bEqS _ _ _ _ fQ (⟨#[]⟩:ByteArray)) d (lb d) fun a S=>sPickT (.bool (fQ == (⟨#[]⟩:ByteArray))) S (wN d) d d ep d d (lb d) fun a S=>sM S fun a S=>?_
 rcases iS h with ⟨eq,h⟩ | ⟨eq,h⟩
 rotate_left
 ·exact absurd eq (by rw [hv_r72]; decide)
 obtain ⟨aI,fS,h⟩:=bS h
 have hv_r75:aI=(api_Piece.mk [0,0] [1,5]):=Option.some.inj (fS.symm.trans (by exact kc_raddlelaw37_PieceNames_16))
 refine sCall (X:=Option Addr × Nat × Option Addr × Nat) (f:=27) (vs:=[iv 0,iv 1,iv 0,iv 5]) (val:=fun x=>.agg #[.slice x.1 aI.Left.length x.2.1,.slice x.2.2.1 aI.Right.length x.2.2.2]) (B':=fun x=>[eRow (rI .i64) 3 (.slice x.1 aI.Left.length x.2.1) aI.Left,eRow (rI .i64) 3 (.slice x.2.2.1 aI.Right.length x.2.2.2) aI.Right]) (D':=fun _=>[]) [] [eRow (rI .i64) 3 (.slice c5 aH.Left.length c6) aH.Left,eRow (rI .i64) 3 (.slice c7 aH.Right.length c8) aH.Right,eRow (rI .i64) 3 (.slice bY ay.Left.length bZ) ay.Left,eRow (rI .i64) 3 (.slice c1 ay.Right.length c2) ay.Right,eRow (rI .i64) 3 (.slice bU ar.Left.length bV) ar.Left,eRow (rI .i64) 3 (.slice bW ar.Right.length bX) ar.Right,eRow (rI .i64) 3 (.slice bO aq.Left.length bP) aq.Left,eRow (rI .i64) 3 (.slice bQ aq.Right.length bR) aq.Right,eRow (rI .i64) 3 (.slice bJ ak.Left.length bK) ak.Left,eRow (rI .i64) 3 (.slice bL ak.Right.length bM) ak.Right,eRow (rI .i64) 3 (.slice bB aj.Left.length bC) aj.Left,eRow (rI .i64) 3 (.slice bD aj.Right.length bE) aj.Right,eRow (rI .i64) 3 (.slice bv ai.Left.length bw) ai.Left,eRow (rI .i64) 3 (.slice bx ai.Right.length bz) ai.Right,eRow (rI .i64) 3 (.slice cv r3.Left.length cw) r3.Left,eRow (rI .i64) 3 (.slice cx r3.Right.length cy) r3.Right] [] [0,1,2,3,4,5,6,7,8,9,10,11,12,13,14,15] [] S (wG 38 true 75 d d d eq) d callee27 d (by decide) d d (fun E1 w1 S1=>c_raddlelaw37_step_s0 E1 w1 0 1 0 5 aI fS S1) d (lb d) fun xx a w S=>?_
 obtain ⟨c9,ca,cb,cc⟩:=xx
 dsimp only at S
 obtain ⟨eK,fT,h⟩:=bS h
 have hv_r81:eK=(ByteArray.mk #[112,32,111,110,52]):=Option.some.inj (fT.symm.trans (by rw [hv_r75]; exact kc_raddlelaw37_PieceNames_17))
 have S1:=S.mem
 have S1:=S1.shutR (r:=(rI .i64)) (T:=3) (v:=.slice c9 aI.Left.length ca) (xs:=aI.Left) 0 d
 have S1:=S1.shutR (r:=(rI .i64)) (T:=3) (v:=.slice cb aI.Right.length cc) (xs:=aI.Right) 0 d
 have S1:=S1.learn (fRep r_api_Piece (.agg #[.slice c9 aI.Left.length ca,.slice cb aI.Right.length cc]) aI) ⟨_,_,d,S1.know (i:=1) (e:=fRep (rL (rI .i64)) (.slice c9 aI.Left.length ca) aI.Left) d,S1.know (i:=0) (e:=fRep (rL (rI .i64)) (.slice cb aI.Right.length cc) aI.Right) d⟩
 refine sCallQ (X:=Unit) (f:=26) (vs:=[.agg #[.slice c9 aI.Left.length ca,.slice cb aI.Right.length cc]]) (val:=fun _=>.string eK) S (wG 38 true 75 d d d eq) d callee26 d (S1.quiet [0] d) (fun E1 w1 S1=>c_raddlelaw37_row E1 w1 aI (.agg #[.slice c9 aI.Left.length ca,.slice cb aI.Right.length cc]) eK fT S1) d (lb d) fun _ a w S=>?_
 refine sBin _ S (wG 38 true 75 d d d eq) d d d (bEqS _ _ _ _ eK (⟨#[112,32,111,110,52]⟩:ByteArray)) d (lb d) fun a S=>sPickT (.bool (eK == (⟨#[112,32,111,110,52]⟩:ByteArray))) S (wN d) d d eq d d (lb d) fun a S=>sN S fun a S=>?_
 refine lT (gR _ _ (sSeq (fun i6 gx=>sRegion (sBuild [(0,iv (-500))] [iv (-500),iv 0] S (wN d) d d d d (lb d) fun a S=>?_))))
 have S:=S.learn (fRep r_api_Point (.agg #[iv (-500),iv 0]) (api_Point.mk (-500) 0)) d
 refine sLit (r:=r_api_Point) (T:=35) (xs:=[(api_Point.mk (-500) 0)]) [(0,.agg #[iv (-500),iv 0])] 1 [.agg #[iv (-500),iv 0]] [iv (-500),iv 0] (.agg #[iv 0,iv 0]) 16 S (wN d) d d Tryd.underlying22 d (by decide) (by decide) (by kernel_rfl) d (fun E1 w1 hE=>All.cons (r_api_Point.mono hE (S.mem.know (i:=0) (e:=fRep r_api_Point (.agg #[iv (-500),iv 0]) (api_Point.mk (-500) 0)) d)) (All.nil _ _ _)) d d (lb d) fun a w dA dB S=>?_
 refine sBuild [(0,iv (-300))] [iv (-300),iv 0] S (wN d) d d d d (lb d) fun a S=>?_
 have S:=S.learn (fRep r_api_Point (.agg #[iv (-300),iv 0]) (api_Point.mk (-300) 0)) d
 refine sLit (r:=r_api_Point) (T:=35) (xs:=[(api_Point.mk (-300) 0)]) [(0,.agg #[iv (-300),iv 0])] 1 [.agg #[iv (-300),iv 0]] [iv (-300),iv 0] (.agg #[iv 0,iv 0]) 16 S (wN d) d d Tryd.underlying22 d (by decide) (by decide) (by kernel_rfl) d (fun E1 w1 hE=>All.cons (r_api_Point.mono hE (S.mem.know (i:=0) (e:=fRep r_api_Point (.agg #[iv (-300),iv 0]) (api_Point.mk (-300) 0)) d)) (All.nil _ _ _)) d d (lb d) fun a w dC dD S=>?_
 refine sBuild [(0,.slice dA [(api_Point.mk (-500) 0)].length dB),(1,.slice dC [(api_Point.mk (-300) 0)].length dD)] [.slice dA [(api_Point.mk (-500) 0)].length dB,.slice dC [(api_Point.mk (-300) 0)].length dD] S (wN d) d d d d (lb d) fun a S=>?_
 obtain ⟨ag,fU,h⟩:=bS h
 have hv_r88:ag=((api_Piece.mk [(-500)] [(-300)]),0):=Option.some.inj (fU.symm.trans (by exact kc_raddlelaw37_PieceNames_18))
 have S:=S.shutR (r:=r_api_Point) (T:=35) (v:=.slice dA [(api_Point.mk (-500) 0)].length dB) (xs:=[(api_Point.mk (-500) 0)]) 1 d
 have S:=S.shutR (r:=r_api_Point) (T:=35) (v:=.slice dC [(api_Point.mk (-300) 0)].length dD) (xs:=[(api_Point.mk (-300) 0)]) 0 d
 have S:=S.learn (fRep r_api_Shape (.agg #[.slice dA [(api_Point.mk (-500) 0)].length dB,.slice dC [(api_Point.mk (-300) 0)].length dD]) (api_Shape.mk [(api_Point.mk (-500) 0)] [(api_Point.mk (-300) 0)])) ⟨_,_,d,S.mem.know (i:=1) (e:=fRep (rL r_api_Point) (.slice dA [(api_Point.mk (-500) 0)].length dB) [(api_Point.mk (-500) 0)]) d,S.mem.know (i:=0) (e:=fRep (rL r_api_Point) (.slice dC [(api_Point.mk (-300) 0)].length dD) [(api_Point.mk (-300) 0)]) d⟩
 refine sCall (X:=Option Addr × Nat × Option Addr × Nat) (f:=12) (vs:=[.agg #[.slice dA [(api_Point.mk (-500) 0)].length dB,.slice dC [(api_Point.mk (-300) 0)].length dD]]) (val:=fun x=>.tuple #[.agg #[.slice x.1 ag.1.Left.length x.2.1,.slice x.2.2.1 ag.1.Right.length x.2.2.2],iv ag.2]) (B':=fun x=>[eRow (rI .i64) 3 (.slice x.1 ag.1.Left.length x.2.1) ag.1.Left,eRow (rI .i64) 3 (.slice x.2.2.1 ag.1.Right.length x.2.2.2) ag.1.Right]) (D':=fun _=>[]) [] [eRow (rI .i64) 3 (.slice c9 aI.Left.length ca) aI.Left,eRow (rI .i64) 3 (.slice cb aI.Right.length cc) aI.Right,eRow (rI .i64) 3 (.slice c5 aH.Left.length c6) aH.Left,eRow (rI .i64) 3 (.slice c7 aH.Right.length c8) aH.Right,eRow (rI .i64) 3 (.slice bY ay.Left.length bZ) ay.Left,eRow (rI .i64) 3 (.slice c1 ay.Right.length c2) ay.Right,eRow (rI .i64) 3 (.slice bU ar.Left.length bV) ar.Left,eRow (rI .i64) 3 (.slice bW ar.Right.length bX) ar.Right,eRow (rI .i64) 3 (.slice bO aq.Left.length bP) aq.Left,eRow (rI .i64) 3 (.slice bQ aq.Right.length bR) aq.Right,eRow (rI .i64) 3 (.slice bJ ak.Left.length bK) ak.Left,eRow (rI .i64) 3 (.slice bL ak.Right.length bM) ak.Right,eRow (rI .i64) 3 (.slice bB aj.Left.length bC) aj.Left,eRow (rI .i64) 3 (.slice bD aj.Right.length bE) aj.Right,eRow (rI .i64) 3 (.slice bv ai.Left.length bw) ai.Left,eRow (rI .i64) 3 (.slice bx ai.Right.length bz) ai.Right,eRow (rI .i64) 3 (.slice cv r3.Left.length cw) r3.Left,eRow (rI .i64) 3 (.slice cx r3.Right.length cy) r3.Right] [fRep r_api_Shape (.agg #[.slice dA [(api_Point.mk (-500) 0)].length dB,.slice dC [(api_Point.mk (-300) 0)].length dD]) (api_Shape.mk [(api_Point.mk (-500) 0)] [(api_Point.mk (-300) 0)])] [0,1,2,3,4,5,6,7,8,9,10,11,12,13,14,15,16,17] [0] S (wN d) d callee12 d (by decide) d d (fun E1 w1 S1=>c_piece_Make_s0 E1 w1 (api_Shape.mk [(api_Point.mk (-500) 0)] [(api_Point.mk (-300) 0)]) (.agg #[.slice dA [(api_Point.mk (-500) 0)].length dB,.slice dC [(api_Point.mk (-300) 0)].length dD]) ag fU S1) d (lb d) fun xx a w S=>?_
 obtain ⟨aO,aP,aQ,aR⟩:=xx
 dsimp only at S
 refine sM S fun a S=>?_
 refine sExtract (vs:=[.agg #[.slice aO ag.1.Left.length aP,.slice aQ ag.1.Right.length aR],iv ag.2]) (.agg #[.slice aO ag.1.Left.length aP,.slice aQ ag.1.Right.length aR]) S (wN d) d d d d (lb d) fun a S=>sExtract (vs:=[.agg #[.slice aO ag.1.Left.length aP,.slice aQ ag.1.Right.length aR],iv ag.2]) (iv ag.2) S (wN d) d d d d (lb d) fun a S=>sAlloc (.agg #[.slice none 0 0,.slice none 0 0]) S (wN d) d d [.slice none 0 0,.slice none 0 0] d d (lb d) fun a dk w S=>sStore (p:=dk) (off:=0) (T:=30) (vs:=[.slice none 0 0,.slice none 0 0]) (v:=.agg #[.slice aO ag.1.Left.length aP,.slice aQ ag.1.Right.length aR]) 0 [.slice aO ag.1.Left.length aP,.slice aQ ag.1.Right.length aR] S (wN d) d d d d d d d (by simp) d fun a w S=>sN S fun a S=>?_
 refine lT (gx _ _ (sSeq (fun i7 gy=>sRegion (sBuild [] [iv 0,iv 0] S (wN d) d d d d (lb d) fun a S=>?_))))
 have S:=S.learn (fRep r_api_Point (.agg #[iv 0,iv 0]) (api_Point.mk 0 0)) d
 refine sLit (r:=r_api_Point) (T:=35) (xs:=[(api_Point.mk 0 0)]) [(0,.agg #[iv 0,iv 0])] 1 [.agg #[iv 0,iv 0]] [iv 0,iv 0] (.agg #[iv 0,iv 0]) 16 S (wN d) d d Tryd.underlying22 d (by decide) (by decide) (by kernel_rfl) d (fun E1 w1 hE=>All.cons (r_api_Point.mono hE (S.mem.know (i:=0) (e:=fRep r_api_Point (.agg #[iv 0,iv 0]) (api_Point.mk 0 0)) d)) (All.nil _ _ _)) d d (lb d) fun a w dE dF S=>?_
 refine sBuild [(0,iv 201)] [iv 201,iv 0] S (wN d) d d d d (lb d) fun a S=>?_
 have S:=S.learn (fRep r_api_Point (.agg #[iv 201,iv 0]) (api_Point.mk 201 0)) d
 refine sLit (r:=r_api_Point) (T:=35) (xs:=[(api_Point.mk 201 0)]) [(0,.agg #[iv 201,iv 0])] 1 [.agg #[iv 201,iv 0]] [iv 201,iv 0] (.agg #[iv 0,iv 0]) 16 S (wN d) d d Tryd.underlying22 d (by decide) (by decide) (by kernel_rfl) d (fun E1 w1 hE=>All.cons (r_api_Point.mono hE (S.mem.know (i:=0) (e:=fRep r_api_Point (.agg #[iv 201,iv 0]) (api_Point.mk 201 0)) d)) (All.nil _ _ _)) d d (lb d) fun a w dG dH S=>?_
 refine sBuild [(0,.slice dE [(api_Point.mk 0 0)].length dF),(1,.slice dG [(api_Point.mk 201 0)].length dH)] [.slice dE [(api_Point.mk 0 0)].length dF,.slice dG [(api_Point.mk 201 0)].length dH] S (wN d) d d d d (lb d) fun a S=>?_
 obtain ⟨a2,eL,h⟩:=bS h
 have hv_r100:a2=((api_Piece.mk [] []),16):=Option.some.inj (eL.symm.trans (by exact kc_raddlelaw37_PieceNames_19))
 have S:=S.shutR (r:=r_api_Point) (T:=35) (v:=.slice dE [(api_Point.mk 0 0)].length dF) (xs:=[(api_Point.mk 0 0)]) 1 d
 have S:=S.shutR (r:=r_api_Point) (T:=35) (v:=.slice dG [(api_Point.mk 201 0)].length dH) (xs:=[(api_Point.mk 201 0)]) 0 d
 have S:=S.learn (fRep r_api_Shape (.agg #[.slice dE [(api_Point.mk 0 0)].length dF,.slice dG [(api_Point.mk 201 0)].length dH]) (api_Shape.mk [(api_Point.mk 0 0)] [(api_Point.mk 201 0)])) ⟨_,_,d,S.mem.know (i:=1) (e:=fRep (rL r_api_Point) (.slice dE [(api_Point.mk 0 0)].length dF) [(api_Point.mk 0 0)]) d,S.mem.know (i:=0) (e:=fRep (rL r_api_Point) (.slice dG [(api_Point.mk 201 0)].length dH) [(api_Point.mk 201 0)]) d⟩
 refine sCall (X:=Option Addr × Nat × Option Addr × Nat) (f:=12) (vs:=[.agg #[.slice dE [(api_Point.mk 0 0)].length dF,.slice dG [(api_Point.mk 201 0)].length dH]]) (val:=fun x=>.tuple #[.agg #[.slice x.1 a2.1.Left.length x.2.1,.slice x.2.2.1 a2.1.Right.length x.2.2.2],iv a2.2]) (B':=fun x=>[eRow (rI .i64) 3 (.slice x.1 a2.1.Left.length x.2.1) a2.1.Left,eRow (rI .i64) 3 (.slice x.2.2.1 a2.1.Right.length x.2.2.2) a2.1.Right]) (D':=fun _=>[]) [] [eBox dk 30 [.slice aO ag.1.Left.length aP,.slice aQ ag.1.Right.length aR],eRow (rI .i64) 3 (.slice aO ag.1.Left.length aP) ag.1.Left,eRow (rI .i64) 3 (.slice aQ ag.1.Right.length aR) ag.1.Right,eRow (rI .i64) 3 (.slice c9 aI.Left.length ca) aI.Left,eRow (rI .i64) 3 (.slice cb aI.Right.length cc) aI.Right,eRow (rI .i64) 3 (.slice c5 aH.Left.length c6) aH.Left,eRow (rI .i64) 3 (.slice c7 aH.Right.length c8) aH.Right,eRow (rI .i64) 3 (.slice bY ay.Left.length bZ) ay.Left,eRow (rI .i64) 3 (.slice c1 ay.Right.length c2) ay.Right,eRow (rI .i64) 3 (.slice bU ar.Left.length bV) ar.Left,eRow (rI .i64) 3 (.slice bW ar.Right.length bX) ar.Right,eRow (rI .i64) 3 (.slice bO aq.Left.length bP) aq.Left,eRow (rI .i64) 3 (.slice bQ aq.Right.length bR) aq.Right,eRow (rI .i64) 3 (.slice bJ ak.Left.length bK) ak.Left,eRow (rI .i64) 3 (.slice bL ak.Right.length bM) ak.Right,eRow (rI .i64) 3 (.slice bB aj.Left.length bC) aj.Left,eRow (rI .i64) 3 (.slice bD aj.Right.length bE) aj.Right,eRow (rI .i64) 3 (.slice bv ai.Left.length bw) ai.Left,eRow (rI .i64) 3 (.slice bx ai.Right.length bz) ai.Right,eRow (rI .i64) 3 (.slice cv r3.Left.length cw) r3.Left,eRow (rI .i64) 3 (.slice cx r3.Right.length cy) r3.Right] [fRep r_api_Shape (.agg #[.slice dE [(api_Point.mk 0 0)].length dF,.slice dG [(api_Point.mk 201 0)].length dH]) (api_Shape.mk [(api_Point.mk 0 0)] [(api_Point.mk 201 0)])] [0,1,2,3,4,5,6,7,8,9,10,11,12,13,14,15,16,17,18,19,20] [0] S (wN d) d callee12 d (by decide) d d (fun E1 w1 S1=>c_piece_Make_s0 E1 w1 (api_Shape.mk [(api_Point.mk 0 0)] [(api_Point.mk 201 0)]) (.agg #[.slice dE [(api_Point.mk 0 0)].length dF,.slice dG [(api_Point.mk 201 0)].length dH]) a2 eL S1) d (lb d) fun xx a w S=>?_
 obtain ⟨al,am,ao,ap⟩:=xx
 dsimp only at S
 refine sM S fun a S=>?_
 refine sExtract (vs:=[.agg #[.slice al a2.1.Left.length am,.slice ao a2.1.Right.length ap],iv a2.2]) (.agg #[.slice al a2.1.Left.length am,.slice ao a2.1.Right.length ap]) S (wN d) d d d d (lb d) fun a S=>sExtract (vs:=[.agg #[.slice al a2.1.Left.length am,.slice ao a2.1.Right.length ap],iv a2.2]) (iv a2.2) S (wN d) d d d d (lb d) fun a S=>sAlloc (.agg #[.slice none 0 0,.slice none 0 0]) S (wN d) d d [.slice none 0 0,.slice none 0 0] d d (lb d) fun a co w S=>sStore (p:=co) (off:=0) (T:=30) (vs:=[.slice none 0 0,.slice none 0 0]) (v:=.agg #[.slice al a2.1.Left.length am,.slice ao a2.1.Right.length ap]) 0 [.slice al a2.1.Left.length am,.slice ao a2.1.Right.length ap] S (wN d) d d d d d d d (by simp) d fun a w S=>sN S fun a S=>?_
 refine lT (gy _ _ (sSeq (fun gS fV=>sRegion (sBuild [] [iv 0,iv 0] S (wN d) d d d d (lb d) fun a S=>sLit (r:=r_api_Point) (T:=35) (xs:=[(api_Point.mk 0 0)]) [(0,.agg #[iv 0,iv 0])] 1 [.agg #[iv 0,iv 0]] [iv 0,iv 0] (.agg #[iv 0,iv 0]) 16 S (wN d) d d Tryd.underlying22 d (by decide) (by decide) (by kernel_rfl) d (fun E1 w1 hE=>All.cons (r_api_Point.mono hE (S.mem.know (i:=4) (e:=fRep r_api_Point (.agg #[iv 0,iv 0]) (api_Point.mk 0 0)) d)) (All.nil _ _ _)) d d (lb d) fun a w cL cM S=>?_))))
 refine sBuild [] [iv 0,iv 0] S (wN d) d d d d (lb d) fun a S=>sLit (r:=r_api_Point) (T:=35) (xs:=[(api_Point.mk 0 0)]) [(0,.agg #[iv 0,iv 0])] 1 [.agg #[iv 0,iv 0]] [iv 0,iv 0] (.agg #[iv 0,iv 0]) 16 S (wN d) d d Tryd.underlying22 d (by decide) (by decide) (by kernel_rfl) d (fun E1 w1 hE=>All.cons (r_api_Point.mono hE (S.mem.know (i:=4) (e:=fRep r_api_Point (.agg #[iv 0,iv 0]) (api_Point.mk 0 0)) d)) (All.nil _ _ _)) d d (lb d) fun a w cN cO S=>?_
 refine sBuild [(0,.slice cL [(api_Point.mk 0 0)].length cM),(1,.slice cN [(api_Point.mk 0 0)].length cO)] [.slice cL [(api_Point.mk 0 0)].length cM,.slice cN [(api_Point.mk 0 0)].length cO] S (wN d) d d d d (lb d) fun a S=>?_
 obtain ⟨a6,eM,h⟩:=bS h
 have hv_r112:a6=((api_Piece.mk [] []),16):=Option.some.inj (eM.symm.trans (by exact kc_raddlelaw37_PieceNames_20))
 have S:=S.shutR (r:=r_api_Point) (T:=35) (v:=.slice cL [(api_Point.mk 0 0)].length cM) (xs:=[(api_Point.mk 0 0)]) 1 d
 have S:=S.shutR (r:=r_api_Point) (T:=35) (v:=.slice cN [(api_Point.mk 0 0)].length cO) (xs:=[(api_Point.mk 0 0)]) 0 d
 have S:=S.learn (fRep r_api_Shape (.agg #[.slice cL [(api_Point.mk 0 0)].length cM,.slice cN [(api_Point.mk 0 0)].length cO]) (api_Shape.mk [(api_Point.mk 0 0)] [(api_Point.mk 0 0)])) ⟨_,_,d,S.mem.know (i:=1) (e:=fRep (rL r_api_Point) (.slice cL [(api_Point.mk 0 0)].length cM) [(api_Point.mk 0 0)]) d,S.mem.know (i:=0) (e:=fRep (rL r_api_Point) (.slice cN [(api_Point.mk 0 0)].length cO) [(api_Point.mk 0 0)]) d⟩
 refine sCall (X:=Option Addr × Nat × Option Addr × Nat) (f:=12) (vs:=[.agg #[.slice cL [(api_Point.mk 0 0)].length cM,.slice cN [(api_Point.mk 0 0)].length cO]]) (val:=fun x=>.tuple #[.agg #[.slice x.1 a6.1.Left.length x.2.1,.slice x.2.2.1 a6.1.Right.length x.2.2.2],iv a6.2]) (B':=fun x=>[eRow (rI .i64) 3 (.slice x.1 a6.1.Left.length x.2.1) a6.1.Left,eRow (rI .i64) 3 (.slice x.2.2.1 a6.1.Right.length x.2.2.2) a6.1.Right]) (D':=fun _=>[]) [] [eBox co 30 [.slice al a2.1.Left.length am,.slice ao a2.1.Right.length ap],eRow (rI .i64) 3 (.slice al a2.1.Left.length am) a2.1.Left,eRow (rI .i64) 3 (.slice ao a2.1.Right.length ap) a2.1.Right,eBox dk 30 [.slice aO ag.1.Left.length aP,.slice aQ ag.1.Right.length aR],eRow (rI .i64) 3 (.slice aO ag.1.Left.length aP) ag.1.Left,eRow (rI .i64) 3 (.slice aQ ag.1.Right.length aR) ag.1.Right,eRow (rI .i64) 3 (.slice c9 aI.Left.length ca) aI.Left,eRow (rI .i64) 3 (.slice cb aI.Right.length cc) aI.Right,eRow (rI .i64) 3 (.slice c5 aH.Left.length c6) aH.Left,eRow (rI .i64) 3 (.slice c7 aH.Right.length c8) aH.Right,eRow (rI .i64) 3 (.slice bY ay.Left.length bZ) ay.Left,eRow (rI .i64) 3 (.slice c1 ay.Right.length c2) ay.Right,eRow (rI .i64) 3 (.slice bU ar.Left.length bV) ar.Left,eRow (rI .i64) 3 (.slice bW ar.Right.length bX) ar.Right,eRow (rI .i64) 3 (.slice bO aq.Left.length bP) aq.Left,eRow (rI .i64) 3 (.slice bQ aq.Right.length bR) aq.Right,eRow (rI .i64) 3 (.slice bJ ak.Left.length bK) ak.Left,eRow (rI .i64) 3 (.slice bL ak.Right.length bM) ak.Right,eRow (rI .i64) 3 (.slice bB aj.Left.length bC) aj.Left,eRow (rI .i64) 3 (.slice bD aj.Right.length bE) aj.Right,eRow (rI .i64) 3 (.slice bv ai.Left.length bw) ai.Left,eRow (rI .i64) 3 (.slice bx ai.Right.length bz) ai.Right,eRow (rI .i64) 3 (.slice cv r3.Left.length cw) r3.Left,eRow (rI .i64) 3 (.slice cx r3.Right.length cy) r3.Right] [fRep r_api_Shape (.agg #[.slice cL [(api_Point.mk 0 0)].length cM,.slice cN [(api_Point.mk 0 0)].length cO]) (api_Shape.mk [(api_Point.mk 0 0)] [(api_Point.mk 0 0)])] [0,1,2,3,4,5,6,7,8,9,10,11,12,13,14,15,16,17,18,19,20,21,22,23] [0] S (wN d) d callee12 d (by decide) d d (fun E1 w1 S1=>c_piece_Make_s0 E1 w1 (api_Shape.mk [(api_Point.mk 0 0)] [(api_Point.mk 0 0)]) (.agg #[.slice cL [(api_Point.mk 0 0)].length cM,.slice cN [(api_Point.mk 0 0)].length cO]) a6 eM S1) d (lb d) fun xx a w S=>?_
 obtain ⟨au,av,aw,ax⟩:=xx
 dsimp only at S
 refine sM S fun a S=>?_
 refine sExtract (vs:=[.agg #[.slice au a6.1.Left.length av,.slice aw a6.1.Right.length ax],iv a6.2]) (.agg #[.slice au a6.1.Left.length av,.slice aw a6.1.Right.length ax]) S (wN d) d d d d (lb d) fun a S=>sExtract (vs:=[.agg #[.slice au a6.1.Left.length av,.slice aw a6.1.Right.length ax],iv a6.2]) (iv a6.2) S (wN d) d d d d (lb d) fun a S=>sAlloc (.agg #[.slice none 0 0,.slice none 0 0]) S (wN d) d d [.slice none 0 0,.slice none 0 0] d d (lb d) fun a cq w S=>sStore (p:=cq) (off:=0) (T:=30) (vs:=[.slice none 0 0,.slice none 0 0]) (v:=.agg #[.slice au a6.1.Left.length av,.slice aw a6.1.Right.length ax]) 0 [.slice au a6.1.Left.length av,.slice aw a6.1.Right.length ax] S (wN d) d d d d d d d (by simp) d fun a w S=>sN S fun a S=>?_
 refine lT (fV _ _ (sSeq (fun gT fW=>sRegion (sBuild [] [iv 0,iv 0] S (wN d) d d d d (lb d) fun a S=>sBuild [(1,iv 1)] [iv 0,iv 1] S (wN d) d d d d (lb d) fun a S=>?_))))
 have S:=S.learn (fRep r_api_Point (.agg #[iv 0,iv 1]) (api_Point.mk 0 1)) d
 refine sLit (r:=r_api_Point) (T:=35) (xs:=[(api_Point.mk 0 0),(api_Point.mk 0 1)]) [(0,.agg #[iv 0,iv 0]),(1,.agg #[iv 0,iv 1])] 2 [.agg #[iv 0,iv 0],.agg #[iv 0,iv 1]] [iv 0,iv 0,iv 0,iv 1] (.agg #[iv 0,iv 0]) 16 S (wN d) d d Tryd.underlying22 d (by decide) (by decide) (by kernel_rfl) d (fun E1 w1 hE=>All.cons (r_api_Point.mono hE (S.mem.know (i:=8) (e:=fRep r_api_Point (.agg #[iv 0,iv 0]) (api_Point.mk 0 0)) d)) (All.cons (r_api_Point.mono hE (S.mem.know (i:=0) (e:=fRep r_api_Point (.agg #[iv 0,iv 1]) (api_Point.mk 0 1)) d)) (All.nil _ _ _))) d d (lb d) fun a w cP cQ S=>?_
 refine sBuild [(0,iv 5)] [iv 5,iv 0] S (wN d) d d d d (lb d) fun a S=>?_
 have S:=S.learn (fRep r_api_Point (.agg #[iv 5,iv 0]) (api_Point.mk 5 0)) d
 refine sLit (r:=r_api_Point) (T:=35) (xs:=[(api_Point.mk 5 0)]) [(0,.agg #[iv 5,iv 0])] 1 [.agg #[iv 5,iv 0]] [iv 5,iv 0] (.agg #[iv 0,iv 0]) 16 S (wN d) d d Tryd.underlying22 d (by decide) (by decide) (by kernel_rfl) d (fun E1 w1 hE=>All.cons (r_api_Point.mono hE (S.mem.know (i:=0) (e:=fRep r_api_Point (.agg #[iv 5,iv 0]) (api_Point.mk 5 0)) d)) (All.nil _ _ _)) d d (lb d) fun a w cR cS S=>?_
 refine sBuild [(0,.slice cP [(api_Point.mk 0 0),(api_Point.mk 0 1)].length cQ),(1,.slice cR [(api_Point.mk 5 0)].length cS)] [.slice cP [(api_Point.mk 0 0),(api_Point.mk 0 1)].length cQ,.slice cR [(api_Point.mk 5 0)].length cS] S (wN d) d d d d (lb d) fun a S=>?_
 obtain ⟨a7,eN,h⟩:=bS h
 have hv_r124:a7=((api_Piece.mk [] []),8):=Option.some.inj (eN.symm.trans (by exact kc_raddlelaw37_PieceNames_21))
 have S:=S.shutR (r:=r_api_Point) (T:=35) (v:=.slice cP [(api_Point.mk 0 0),(api_Point.mk 0 1)].length cQ) (xs:=[(api_Point.mk 0 0),(api_Point.mk 0 1)]) 1 d
 have S:=S.shutR (r:=r_api_Point) (T:=35) (v:=.slice cR [(api_Point.mk 5 0)].length cS) (xs:=[(api_Point.mk 5 0)]) 0 d
 have S:=S.learn (fRep r_api_Shape (.agg #[.slice cP [(api_Point.mk 0 0),(api_Point.mk 0 1)].length cQ,.slice cR [(api_Point.mk 5 0)].length cS]) (api_Shape.mk [(api_Point.mk 0 0),(api_Point.mk 0 1)] [(api_Point.mk 5 0)])) ⟨_,_,d,S.mem.know (i:=1) (e:=fRep (rL r_api_Point) (.slice cP [(api_Point.mk 0 0),(api_Point.mk 0 1)].length cQ) [(api_Point.mk 0 0),(api_Point.mk 0 1)]) d,S.mem.know (i:=0) (e:=fRep (rL r_api_Point) (.slice cR [(api_Point.mk 5 0)].length cS) [(api_Point.mk 5 0)]) d⟩
 refine sCall (X:=Option Addr × Nat × Option Addr × Nat) (f:=12) (vs:=[.agg #[.slice cP [(api_Point.mk 0 0),(api_Point.mk 0 1)].length cQ,.slice cR [(api_Point.mk 5 0)].length cS]]) (val:=fun x=>.tuple #[.agg #[.slice x.1 a7.1.Left.length x.2.1,.slice x.2.2.1 a7.1.Right.length x.2.2.2],iv a7.2]) (B':=fun x=>[eRow (rI .i64) 3 (.slice x.1 a7.1.Left.length x.2.1) a7.1.Left,eRow (rI .i64) 3 (.slice x.2.2.1 a7.1.Right.length x.2.2.2) a7.1.Right]) (D':=fun _=>[]) [] [eBox cq 30 [.slice au a6.1.Left.length av,.slice aw a6.1.Right.length ax],eRow (rI .i64) 3 (.slice au a6.1.Left.length av) a6.1.Left,eRow (rI .i64) 3 (.slice aw a6.1.Right.length ax) a6.1.Right,eBox co 30 [.slice al a2.1.Left.length am,.slice ao a2.1.Right.length ap],eRow (rI .i64) 3 (.slice al a2.1.Left.length am) a2.1.Left,eRow (rI .i64) 3 (.slice ao a2.1.Right.length ap) a2.1.Right,eBox dk 30 [.slice aO ag.1.Left.length aP,.slice aQ ag.1.Right.length aR],eRow (rI .i64) 3 (.slice aO ag.1.Left.length aP) ag.1.Left,eRow (rI .i64) 3 (.slice aQ ag.1.Right.length aR) ag.1.Right,eRow (rI .i64) 3 (.slice c9 aI.Left.length ca) aI.Left,eRow (rI .i64) 3 (.slice cb aI.Right.length cc) aI.Right,eRow (rI .i64) 3 (.slice c5 aH.Left.length c6) aH.Left,eRow (rI .i64) 3 (.slice c7 aH.Right.length c8) aH.Right,eRow (rI .i64) 3 (.slice bY ay.Left.length bZ) ay.Left,eRow (rI .i64) 3 (.slice c1 ay.Right.length c2) ay.Right,eRow (rI .i64) 3 (.slice bU ar.Left.length bV) ar.Left,eRow (rI .i64) 3 (.slice bW ar.Right.length bX) ar.Right,eRow (rI .i64) 3 (.slice bO aq.Left.length bP) aq.Left,eRow (rI .i64) 3 (.slice bQ aq.Right.length bR) aq.Right,eRow (rI .i64) 3 (.slice bJ ak.Left.length bK) ak.Left,eRow (rI .i64) 3 (.slice bL ak.Right.length bM) ak.Right,eRow (rI .i64) 3 (.slice bB aj.Left.length bC) aj.Left,eRow (rI .i64) 3 (.slice bD aj.Right.length bE) aj.Right,eRow (rI .i64) 3 (.slice bv ai.Left.length bw) ai.Left,eRow (rI .i64) 3 (.slice bx ai.Right.length bz) ai.Right,eRow (rI .i64) 3 (.slice cv r3.Left.length cw) r3.Left,eRow (rI .i64) 3 (.slice cx r3.Right.length cy) r3.Right] [fRep r_api_Shape (.agg #[.slice cP [(api_Point.mk 0 0),(api_Point.mk 0 1)].length cQ,.slice cR [(api_Point.mk 5 0)].length cS]) (api_Shape.mk [(api_Point.mk 0 0),(api_Point.mk 0 1)] [(api_Point.mk 5 0)])] [0,1,2,3,4,5,6,7,8,9,10,11,12,13,14,15,16,17,18,19,20,21,22,23,24,25,26] [0] S (wN d) d callee12 d (by decide) d d (fun E1 w1 S1=>c_piece_Make_s0 E1 w1 (api_Shape.mk [(api_Point.mk 0 0),(api_Point.mk 0 1)] [(api_Point.mk 5 0)]) (.agg #[.slice cP [(api_Point.mk 0 0),(api_Point.mk 0 1)].length cQ,.slice cR [(api_Point.mk 5 0)].length cS]) a7 eN S1) d (lb d) fun xx a w S=>?_
 obtain ⟨az,aA,aC,aG⟩:=xx
 dsimp only at S
 refine sM S fun a S=>?_
 refine sExtract (vs:=[.agg #[.slice az a7.1.Left.length aA,.slice aC a7.1.Right.length aG],iv a7.2]) (.agg #[.slice az a7.1.Left.length aA,.slice aC a7.1.Right.length aG]) S (wN d) d d d d (lb d) fun a S=>sExtract (vs:=[.agg #[.slice az a7.1.Left.length aA,.slice aC a7.1.Right.length aG],iv a7.2]) (iv a7.2) S (wN d) d d d d (lb d) fun a S=>sAlloc (.agg #[.slice none 0 0,.slice none 0 0]) S (wN d) d d [.slice none 0 0,.slice none 0 0] d d (lb d) fun a cz w S=>sStore (p:=cz) (off:=0) (T:=30) (vs:=[.slice none 0 0,.slice none 0 0]) (v:=.agg #[.slice az a7.1.Left.length aA,.slice aC a7.1.Right.length aG]) 0 [.slice az a7.1.Left.length aA,.slice aC a7.1.Right.length aG] S (wN d) d d d d d d d (by simp) d fun a w S=>sN S fun a S=>?_
 refine lT (fW _ _ (sSeq (fun gU fX=>sRegion (sBuild [(1,iv 1)] [iv 0,iv 1] S (wN d) d d d d (lb d) fun a S=>sLit (r:=r_api_Point) (T:=35) (xs:=[(api_Point.mk 0 1)]) [(0,.agg #[iv 0,iv 1])] 1 [.agg #[iv 0,iv 1]] [iv 0,iv 1] (.agg #[iv 0,iv 0]) 16 S (wN d) d d Tryd.underlying22 d (by decide) (by decide) (by kernel_rfl) d (fun E1 w1 hE=>All.cons (r_api_Point.mono hE (S.mem.know (i:=4) (e:=fRep r_api_Point (.agg #[iv 0,iv 1]) (api_Point.mk 0 1)) d)) (All.nil _ _ _)) d d (lb d) fun a w cT cU S=>?_))))
 refine sBuild [(0,iv 5),(1,iv 1)] [iv 5,iv 1] S (wN d) d d d d (lb d) fun a S=>?_
 have S:=S.learn (fRep r_api_Point (.agg #[iv 5,iv 1]) (api_Point.mk 5 1)) d
 refine sLit (r:=r_api_Point) (T:=35) (xs:=[(api_Point.mk 5 1)]) [(0,.agg #[iv 5,iv 1])] 1 [.agg #[iv 5,iv 1]] [iv 5,iv 1] (.agg #[iv 0,iv 0]) 16 S (wN d) d d Tryd.underlying22 d (by decide) (by decide) (by kernel_rfl) d (fun E1 w1 hE=>All.cons (r_api_Point.mono hE (S.mem.know (i:=0) (e:=fRep r_api_Point (.agg #[iv 5,iv 1]) (api_Point.mk 5 1)) d)) (All.nil _ _ _)) d d (lb d) fun a w cV cW S=>?_
 refine sBuild [(0,.slice cT [(api_Point.mk 0 1)].length cU),(1,.slice cV [(api_Point.mk 5 1)].length cW)] [.slice cT [(api_Point.mk 0 1)].length cU,.slice cV [(api_Point.mk 5 1)].length cW] S (wN d) d d d d (lb d) fun a S=>?_
 obtain ⟨a8,eO,h⟩:=bS h
 have hv_r136:a8=((api_Piece.mk [] []),8):=Option.some.inj (eO.symm.trans (by exact kc_raddlelaw37_PieceNames_22))
 have S:=S.shutR (r:=r_api_Point) (T:=35) (v:=.slice cT [(api_Point.mk 0 1)].length cU) (xs:=[(api_Point.mk 0 1)]) 1 d
 have S:=S.shutR (r:=r_api_Point) (T:=35) (v:=.slice cV [(api_Point.mk 5 1)].length cW) (xs:=[(api_Point.mk 5 1)]) 0 d
 have S:=S.learn (fRep r_api_Shape (.agg #[.slice cT [(api_Point.mk 0 1)].length cU,.slice cV [(api_Point.mk 5 1)].length cW]) (api_Shape.mk [(api_Point.mk 0 1)] [(api_Point.mk 5 1)])) ⟨_,_,d,S.mem.know (i:=1) (e:=fRep (rL r_api_Point) (.slice cT [(api_Point.mk 0 1)].length cU) [(api_Point.mk 0 1)]) d,S.mem.know (i:=0) (e:=fRep (rL r_api_Point) (.slice cV [(api_Point.mk 5 1)].length cW) [(api_Point.mk 5 1)]) d⟩
 refine sCall (X:=Option Addr × Nat × Option Addr × Nat) (f:=12) (vs:=[.agg #[.slice cT [(api_Point.mk 0 1)].length cU,.slice cV [(api_Point.mk 5 1)].length cW]]) (val:=fun x=>.tuple #[.agg #[.slice x.1 a8.1.Left.length x.2.1,.slice x.2.2.1 a8.1.Right.length x.2.2.2],iv a8.2]) (B':=fun x=>[eRow (rI .i64) 3 (.slice x.1 a8.1.Left.length x.2.1) a8.1.Left,eRow (rI .i64) 3 (.slice x.2.2.1 a8.1.Right.length x.2.2.2) a8.1.Right]) (D':=fun _=>[]) [] [eBox cz 30 [.slice az a7.1.Left.length aA,.slice aC a7.1.Right.length aG],eRow (rI .i64) 3 (.slice az a7.1.Left.length aA) a7.1.Left,eRow (rI .i64) 3 (.slice aC a7.1.Right.length aG) a7.1.Right,eBox cq 30 [.slice au a6.1.Left.length av,.slice aw a6.1.Right.length ax],eRow (rI .i64) 3 (.slice au a6.1.Left.length av) a6.1.Left,eRow (rI .i64) 3 (.slice aw a6.1.Right.length ax) a6.1.Right,eBox co 30 [.slice al a2.1.Left.length am,.slice ao a2.1.Right.length ap],eRow (rI .i64) 3 (.slice al a2.1.Left.length am) a2.1.Left,eRow (rI .i64) 3 (.slice ao a2.1.Right.length ap) a2.1.Right,eBox dk 30 [.slice aO ag.1.Left.length aP,.slice aQ ag.1.Right.length aR],eRow (rI .i64) 3 (.slice aO ag.1.Left.length aP) ag.1.Left,eRow (rI .i64) 3 (.slice aQ ag.1.Right.length aR) ag.1.Right,eRow (rI .i64) 3 (.slice c9 aI.Left.length ca) aI.Left,eRow (rI .i64) 3 (.slice cb aI.Right.length cc) aI.Right,eRow (rI .i64) 3 (.slice c5 aH.Left.length c6) aH.Left,eRow (rI .i64) 3 (.slice c7 aH.Right.length c8) aH.Right,eRow (rI .i64) 3 (.slice bY ay.Left.length bZ) ay.Left,eRow (rI .i64) 3 (.slice c1 ay.Right.length c2) ay.Right,eRow (rI .i64) 3 (.slice bU ar.Left.length bV) ar.Left,eRow (rI .i64) 3 (.slice bW ar.Right.length bX) ar.Right,eRow (rI .i64) 3 (.slice bO aq.Left.length bP) aq.Left,eRow (rI .i64) 3 (.slice bQ aq.Right.length bR) aq.Right,eRow (rI .i64) 3 (.slice bJ ak.Left.length bK) ak.Left,eRow (rI .i64) 3 (.slice bL ak.Right.length bM) ak.Right,eRow (rI .i64) 3 (.slice bB aj.Left.length bC) aj.Left,eRow (rI .i64) 3 (.slice bD aj.Right.length bE) aj.Right,eRow (rI .i64) 3 (.slice bv ai.Left.length bw) ai.Left,eRow (rI .i64) 3 (.slice bx ai.Right.length bz) ai.Right,eRow (rI .i64) 3 (.slice cv r3.Left.length cw) r3.Left,eRow (rI .i64) 3 (.slice cx r3.Right.length cy) r3.Right] [fRep r_api_Shape (.agg #[.slice cT [(api_Point.mk 0 1)].length cU,.slice cV [(api_Point.mk 5 1)].length cW]) (api_Shape.mk [(api_Point.mk 0 1)] [(api_Point.mk 5 1)])] [0,1,2,3,4,5,6,7,8,9,10,11,12,13,14,15,16,17,18,19,20,21,22,23,24,25,26,27,28,29] [0] S (wN d) d callee12 d (by decide) d d (fun E1 w1 S1=>c_piece_Make_s0 E1 w1 (api_Shape.mk [(api_Point.mk 0 1)] [(api_Point.mk 5 1)]) (.agg #[.slice cT [(api_Point.mk 0 1)].length cU,.slice cV [(api_Point.mk 5 1)].length cW]) a8 eO S1) d (lb d) fun xx a w S=>?_
 obtain ⟨aJ,aK,aL,aM⟩:=xx
 dsimp only at S
 refine sM S fun a S=>?_
 refine sExtract (vs:=[.agg #[.slice aJ a8.1.Left.length aK,.slice aL a8.1.Right.length aM],iv a8.2]) (.agg #[.slice aJ a8.1.Left.length aK,.slice aL a8.1.Right.length aM]) S (wN d) d d d d (lb d) fun a S=>sExtract (vs:=[.agg #[.slice aJ a8.1.Left.length aK,.slice aL a8.1.Right.length aM],iv a8.2]) (iv a8.2) S (wN d) d d d d (lb d) fun a S=>sAlloc (.agg #[.slice none 0 0,.slice none 0 0]) S (wN d) d d [.slice none 0 0,.slice none 0 0] d d (lb d) fun a cB w S=>sStore (p:=cB) (off:=0) (T:=30) (vs:=[.slice none 0 0,.slice none 0 0]) (v:=.agg #[.slice aJ a8.1.Left.length aK,.slice aL a8.1.Right.length aM]) 0 [.slice aJ a8.1.Left.length aK,.slice aL a8.1.Right.length aM] S (wN d) d d d d d d d (by simp) d fun a w S=>sN S fun a S=>?_
 refine lT (fX _ _ (sSeq (fun gV fZ=>sRegion (sBuild [] [.slice none 0 0,.slice none 0 0] S (wN d) d d d d (lb d) fun a S=>?_))))
 obtain ⟨aa,eP,h⟩:=bS h
 have hv_r144:aa=((api_Piece.mk [] []),8):=Option.some.inj (eP.symm.trans (by exact kc_raddlelaw37_PieceNames_23))
 have S:=S.learn (fRep (rL r_api_Point) (.slice none 0 0) ([]:(List api_Point))) (rL_nil _ _ _)
 have S:=S.learn (fRep r_api_Shape (.agg #[.slice none 0 0,.slice none 0 0]) (api_Shape.mk ([]:(List api_Point)) ([]:(List api_Point)))) ⟨_,_,d,S.mem.know (i:=0) (e:=fRep (rL r_api_Point) (.slice none 0 0) ([]:(List api_Point))) d,S.mem.know (i:=0) (e:=fRep (rL r_api_Point) (.slice none 0 0) ([]:(List api_Point))) d⟩
 refine sCall (X:=Option Addr × Nat × Option Addr × Nat) (f:=12) (vs:=[.agg #[.slice none 0 0,.slice none 0 0]]) (val:=fun x=>.tuple #[.agg #[.slice x.1 aa.1.Left.length x.2.1,.slice x.2.2.1 aa.1.Right.length x.2.2.2],iv aa.2]) (B':=fun x=>[eRow (rI .i64) 3 (.slice x.1 aa.1.Left.length x.2.1) aa.1.Left,eRow (rI .i64) 3 (.slice x.2.2.1 aa.1.Right.length x.2.2.2) aa.1.Right]) (D':=fun _=>[]) [] [eBox cB 30 [.slice aJ a8.1.Left.length aK,.slice aL a8.1.Right.length aM],eRow (rI .i64) 3 (.slice aJ a8.1.Left.length aK) a8.1.Left,eRow (rI .i64) 3 (.slice aL a8.1.Right.length aM) a8.1.Right,eBox cz 30 [.slice az a7.1.Left.length aA,.slice aC a7.1.Right.length aG],eRow (rI .i64) 3 (.slice az a7.1.Left.length aA) a7.1.Left,eRow (rI .i64) 3 (.slice aC a7.1.Right.length aG) a7.1.Right,eBox cq 30 [.slice au a6.1.Left.length av,.slice aw a6.1.Right.length ax],eRow (rI .i64) 3 (.slice au a6.1.Left.length av) a6.1.Left,eRow (rI .i64) 3 (.slice aw a6.1.Right.length ax) a6.1.Right,eBox co 30 [.slice al a2.1.Left.length am,.slice ao a2.1.Right.length ap],eRow (rI .i64) 3 (.slice al a2.1.Left.length am) a2.1.Left,eRow (rI .i64) 3 (.slice ao a2.1.Right.length ap) a2.1.Right,eBox dk 30 [.slice aO ag.1.Left.length aP,.slice aQ ag.1.Right.length aR],eRow (rI .i64) 3 (.slice aO ag.1.Left.length aP) ag.1.Left,eRow (rI .i64) 3 (.slice aQ ag.1.Right.length aR) ag.1.Right,eRow (rI .i64) 3 (.slice c9 aI.Left.length ca) aI.Left,eRow (rI .i64) 3 (.slice cb aI.Right.length cc) aI.Right,eRow (rI .i64) 3 (.slice c5 aH.Left.length c6) aH.Left,eRow (rI .i64) 3 (.slice c7 aH.Right.length c8) aH.Right,eRow (rI .i64) 3 (.slice bY ay.Left.length bZ) ay.Left,eRow (rI .i64) 3 (.slice c1 ay.Right.length c2) ay.Right,eRow (rI .i64) 3 (.slice bU ar.Left.length bV) ar.Left,eRow (rI .i64) 3 (.slice bW ar.Right.length bX) ar.Right,eRow (rI .i64) 3 (.slice bO aq.Left.length bP) aq.Left,eRow (rI .i64) 3 (.slice bQ aq.Right.length bR) aq.Right,eRow (rI .i64) 3 (.slice bJ ak.Left.length bK) ak.Left,eRow (rI .i64) 3 (.slice bL ak.Right.length bM) ak.Right,eRow (rI .i64) 3 (.slice bB aj.Left.length bC) aj.Left,eRow (rI .i64) 3 (.slice bD aj.Right.length bE) aj.Right,eRow (rI .i64) 3 (.slice bv ai.Left.length bw) ai.Left,eRow (rI .i64) 3 (.slice bx ai.Right.length bz) ai.Right,eRow (rI .i64) 3 (.slice cv r3.Left.length cw) r3.Left,eRow (rI .i64) 3 (.slice cx r3.Right.length cy) r3.Right] [fRep r_api_Shape (.agg #[.slice none 0 0,.slice none 0 0]) (api_Shape.mk ([]:(List api_Point)) ([]:(List api_Point)))] [0,1,2,3,4,5,6,7,8,9,10,11,12,13,14,15,16,17,18,19,20,21,22,23,24,25,26,27,28,29,30,31,32] [0] S (wN d) d callee12 d (by decide) d d (fun E1 w1 S1=>c_piece_Make_s0 E1 w1 (api_Shape.mk ([]:(List api_Point)) ([]:(List api_Point))) (.agg #[.slice none 0 0,.slice none 0 0]) aa eP S1) d (lb d) fun xx a w S=>?_
 obtain ⟨aS,aT,aU,aV⟩:=xx
 dsimp only at S
 refine sM S fun a S=>?_
 refine sExtract (vs:=[.agg #[.slice aS aa.1.Left.length aT,.slice aU aa.1.Right.length aV],iv aa.2]) (.agg #[.slice aS aa.1.Left.length aT,.slice aU aa.1.Right.length aV]) S (wN d) d d d d (lb d) fun a S=>sExtract (vs:=[.agg #[.slice aS aa.1.Left.length aT,.slice aU aa.1.Right.length aV],iv aa.2]) (iv aa.2) S (wN d) d d d d (lb d) fun a S=>sAlloc (.agg #[.slice none 0 0,.slice none 0 0]) S (wN d) d d [.slice none 0 0,.slice none 0 0] d d (lb d) fun a cK w S=>sStore (p:=cK) (off:=0) (T:=30) (vs:=[.slice none 0 0,.slice none 0 0]) (v:=.agg #[.slice aS aa.1.Left.length aT,.slice aU aa.1.Right.length aV]) 0 [.slice aS aa.1.Left.length aT,.slice aU aa.1.Right.length aV] S (wN d) d d d d d d d (by simp) d fun a w S=>sN S fun a S=>?_
 refine lT (fZ _ _ (sSeq (fun gW g0=>sRegion (sBuild [] [iv 0,iv 0] S (wN d) d d d d (lb d) fun a S=>sBuild [(1,iv 100)] [iv 0,iv 100] S (wN d) d d d d (lb d) fun a S=>?_))))
 have S:=S.learn (fRep r_api_Point (.agg #[iv 0,iv 100]) (api_Point.mk 0 100)) d
 refine sLit (r:=r_api_Point) (T:=35) (xs:=[(api_Point.mk 0 0),(api_Point.mk 0 100)]) [(0,.agg #[iv 0,iv 0]),(1,.agg #[iv 0,iv 100])] 2 [.agg #[iv 0,iv 0],.agg #[iv 0,iv 100]] [iv 0,iv 0,iv 0,iv 100] (.agg #[iv 0,iv 0]) 16 S (wN d) d d Tryd.underlying22 d (by decide) (by decide) (by kernel_rfl) d (fun E1 w1 hE=>All.cons (r_api_Point.mono hE (S.mem.know (i:=19) (e:=fRep r_api_Point (.agg #[iv 0,iv 0]) (api_Point.mk 0 0)) d)) (All.cons (r_api_Point.mono hE (S.mem.know (i:=0) (e:=fRep r_api_Point (.agg #[iv 0,iv 100]) (api_Point.mk 0 100)) d)) (All.nil _ _ _))) d d (lb d) fun a w cX cY S=>?_
 refine sBuild [(0,iv 5)] [iv 5,iv 0] S (wN d) d d d d (lb d) fun a S=>sBuild [(0,iv 5),(1,iv 100)] [iv 5,iv 100] S (wN d) d d d d (lb d) fun a S=>?_
 have S:=S.learn (fRep r_api_Point (.agg #[iv 5,iv 100]) (api_Point.mk 5 100)) d
 refine sLit (r:=r_api_Point) (T:=35) (xs:=[(api_Point.mk 5 0),(api_Point.mk 5 100)]) [(0,.agg #[iv 5,iv 0]),(1,.agg #[iv 5,iv 100])] 2 [.agg #[iv 5,iv 0],.agg #[iv 5,iv 100]] [iv 5,iv 0,iv 5,iv 100] (.agg #[iv 0,iv 0]) 16 S (wN d) d d Tryd.underlying22 d (by decide) (by decide) (by kernel_rfl) d (fun E1 w1 hE=>All.cons (r_api_Point.mono hE (S.mem.know (i:=11) (e:=fRep r_api_Point (.agg #[iv 5,iv 0]) (api_Point.mk 5 0)) d)) (All.cons (r_api_Point.mono hE (S.mem.know (i:=0) (e:=fRep r_api_Point (.agg #[iv 5,iv 100]) (api_Point.mk 5 100)) d)) (All.nil _ _ _))) d d (lb d) fun a w cZ d0 S=>?_
 refine sBuild [(0,.slice cX [(api_Point.mk 0 0),(api_Point.mk 0 100)].length cY),(1,.slice cZ [(api_Point.mk 5 0),(api_Point.mk 5 100)].length d0)] [.slice cX [(api_Point.mk 0 0),(api_Point.mk 0 100)].length cY,.slice cZ [(api_Point.mk 5 0),(api_Point.mk 5 100)].length d0] S (wN d) d d d d (lb d) fun a S=>?_
 obtain ⟨ac,eQ,h⟩:=bS h
 have hv_r156:ac=((api_Piece.mk [] []),8):=Option.some.inj (eQ.symm.trans (by exact kc_raddlelaw37_PieceNames_24))
 have S:=S.shutR (r:=r_api_Point) (T:=35) (v:=.slice cX [(api_Point.mk 0 0),(api_Point.mk 0 100)].length cY) (xs:=[(api_Point.mk 0 0),(api_Point.mk 0 100)]) 1 d
 have S:=S.shutR (r:=r_api_Point) (T:=35) (v:=.slice cZ [(api_Point.mk 5 0),(api_Point.mk 5 100)].length d0) (xs:=[(api_Point.mk 5 0),(api_Point.mk 5 100)]) 0 d
 have S:=S.learn (fRep r_api_Shape (.agg #[.slice cX [(api_Point.mk 0 0),(api_Point.mk 0 100)].length cY,.slice cZ [(api_Point.mk 5 0),(api_Point.mk 5 100)].length d0]) (api_Shape.mk [(api_Point.mk 0 0),(api_Point.mk 0 100)] [(api_Point.mk 5 0),(api_Point.mk 5 100)])) ⟨_,_,d,S.mem.know (i:=1) (e:=fRep (rL r_api_Point) (.slice cX [(api_Point.mk 0 0),(api_Point.mk 0 100)].length cY) [(api_Point.mk 0 0),(api_Point.mk 0 100)]) d,S.mem.know (i:=0) (e:=fRep (rL r_api_Point) (.slice cZ [(api_Point.mk 5 0),(api_Point.mk 5 100)].length d0) [(api_Point.mk 5 0),(api_Point.mk 5 100)]) d⟩
 refine sCall (X:=Option Addr × Nat × Option Addr × Nat) (f:=12) (vs:=[.agg #[.slice cX [(api_Point.mk 0 0),(api_Point.mk 0 100)].length cY,.slice cZ [(api_Point.mk 5 0),(api_Point.mk 5 100)].length d0]]) (val:=fun x=>.tuple #[.agg #[.slice x.1 ac.1.Left.length x.2.1,.slice x.2.2.1 ac.1.Right.length x.2.2.2],iv ac.2]) (B':=fun x=>[eRow (rI .i64) 3 (.slice x.1 ac.1.Left.length x.2.1) ac.1.Left,eRow (rI .i64) 3 (.slice x.2.2.1 ac.1.Right.length x.2.2.2) ac.1.Right]) (D':=fun _=>[]) [] [eBox cK 30 [.slice aS aa.1.Left.length aT,.slice aU aa.1.Right.length aV],eRow (rI .i64) 3 (.slice aS aa.1.Left.length aT) aa.1.Left,eRow (rI .i64) 3 (.slice aU aa.1.Right.length aV) aa.1.Right,eBox cB 30 [.slice aJ a8.1.Left.length aK,.slice aL a8.1.Right.length aM],eRow (rI .i64) 3 (.slice aJ a8.1.Left.length aK) a8.1.Left,eRow (rI .i64) 3 (.slice aL a8.1.Right.length aM) a8.1.Right,eBox cz 30 [.slice az a7.1.Left.length aA,.slice aC a7.1.Right.length aG],eRow (rI .i64) 3 (.slice az a7.1.Left.length aA) a7.1.Left,eRow (rI .i64) 3 (.slice aC a7.1.Right.length aG) a7.1.Right,eBox cq 30 [.slice au a6.1.Left.length av,.slice aw a6.1.Right.length ax],eRow (rI .i64) 3 (.slice au a6.1.Left.length av) a6.1.Left,eRow (rI .i64) 3 (.slice aw a6.1.Right.length ax) a6.1.Right,eBox co 30 [.slice al a2.1.Left.length am,.slice ao a2.1.Right.length ap],eRow (rI .i64) 3 (.slice al a2.1.Left.length am) a2.1.Left,eRow (rI .i64) 3 (.slice ao a2.1.Right.length ap) a2.1.Right,eBox dk 30 [.slice aO ag.1.Left.length aP,.slice aQ ag.1.Right.length aR],eRow (rI .i64) 3 (.slice aO ag.1.Left.length aP) ag.1.Left,eRow (rI .i64) 3 (.slice aQ ag.1.Right.length aR) ag.1.Right,eRow (rI .i64) 3 (.slice c9 aI.Left.length ca) aI.Left,eRow (rI .i64) 3 (.slice cb aI.Right.length cc) aI.Right,eRow (rI .i64) 3 (.slice c5 aH.Left.length c6) aH.Left,eRow (rI .i64) 3 (.slice c7 aH.Right.length c8) aH.Right,eRow (rI .i64) 3 (.slice bY ay.Left.length bZ) ay.Left,eRow (rI .i64) 3 (.slice c1 ay.Right.length c2) ay.Right,eRow (rI .i64) 3 (.slice bU ar.Left.length bV) ar.Left,eRow (rI .i64) 3 (.slice bW ar.Right.length bX) ar.Right,eRow (rI .i64) 3 (.slice bO aq.Left.length bP) aq.Left,eRow (rI .i64) 3 (.slice bQ aq.Right.length bR) aq.Right,eRow (rI .i64) 3 (.slice bJ ak.Left.length bK) ak.Left,eRow (rI .i64) 3 (.slice bL ak.Right.length bM) ak.Right,eRow (rI .i64) 3 (.slice bB aj.Left.length bC) aj.Left,eRow (rI .i64) 3 (.slice bD aj.Right.length bE) aj.Right,eRow (rI .i64) 3 (.slice bv ai.Left.length bw) ai.Left,eRow (rI .i64) 3 (.slice bx ai.Right.length bz) ai.Right,eRow (rI .i64) 3 (.slice cv r3.Left.length cw) r3.Left,eRow (rI .i64) 3 (.slice cx r3.Right.length cy) r3.Right] [fRep r_api_Shape (.agg #[.slice cX [(api_Point.mk 0 0),(api_Point.mk 0 100)].length cY,.slice cZ [(api_Point.mk 5 0),(api_Point.mk 5 100)].length d0]) (api_Shape.mk [(api_Point.mk 0 0),(api_Point.mk 0 100)] [(api_Point.mk 5 0),(api_Point.mk 5 100)])] [0,1,2,3,4,5,6,7,8,9,10,11,12,13,14,15,16,17,18,19,20,21,22,23,24,25,26,27,28,29,30,31,32,33,34,35] [0] S (wN d) d callee12 d (by decide) d d (fun E1 w1 S1=>c_piece_Make_s0 E1 w1 (api_Shape.mk [(api_Point.mk 0 0),(api_Point.mk 0 100)] [(api_Point.mk 5 0),(api_Point.mk 5 100)]) (.agg #[.slice cX [(api_Point.mk 0 0),(api_Point.mk 0 100)].length cY,.slice cZ [(api_Point.mk 5 0),(api_Point.mk 5 100)].length d0]) ac eQ S1) d (lb d) fun xx a w S=>?_
 obtain ⟨ba,bb,bc,bf⟩:=xx
 dsimp only at S
 refine sM S fun a S=>?_
 refine sExtract (vs:=[.agg #[.slice ba ac.1.Left.length bb,.slice bc ac.1.Right.length bf],iv ac.2]) (.agg #[.slice ba ac.1.Left.length bb,.slice bc ac.1.Right.length bf]) S (wN d) d d d d (lb d) fun a S=>sExtract (vs:=[.agg #[.slice ba ac.1.Left.length bb,.slice bc ac.1.Right.length bf],iv ac.2]) (iv ac.2) S (wN d) d d d d (lb d) fun a S=>sAlloc (.agg #[.slice none 0 0,.slice none 0 0]) S (wN d) d d [.slice none 0 0,.slice none 0 0] d d (lb d) fun a d8 w S=>sStore (p:=d8) (off:=0) (T:=30) (vs:=[.slice none 0 0,.slice none 0 0]) (v:=.agg #[.slice ba ac.1.Left.length bb,.slice bc ac.1.Right.length bf]) 0 [.slice ba ac.1.Left.length bb,.slice bc ac.1.Right.length bf] S (wN d) d d d d d d d (by simp) d fun a w S=>sN S fun a S=>?_
 refine lT (g0 _ _ (sSeq (fun gX g1=>sRegion (sBuild [(0,iv 1),(1,iv 10),(2,iv 1),(3,iv 10)] [iv 1,iv 10,iv 1,iv 10] S (wN d) d d d d (lb d) fun a S=>sAlloc (.agg #[iv 0,iv 0,iv 0,iv 0]) S (wN d) d d [iv 0,iv 0,iv 0,iv 0] d d (lb d) fun a cA w S=>sStore (p:=cA) (off:=0) (T:=65) (vs:=[iv 0,iv 0,iv 0,iv 0]) (v:=.agg #[iv 1,iv 10,iv 1,iv 10]) 0 [iv 1,iv 10,iv 1,iv 10] S (wN d) d d d d d d d (by simp) d fun a w S=>lT (g1 _ _ (sSeq (fun gY g2=>sRegion (sLoadN (p:=cA) (off:=0) (T:=65) (vs:=[iv 1,iv 10,iv 1,iv 10]) 0 [iv 1,iv 10,iv 1,iv 10] S (wN d) d d d d d d d (lb d) fun a S=>sBuild [(0,iv (-15))] [iv (-15),iv 0] S (wN d) d d d d (lb d) fun a S=>sBuild [(0,iv 4),(1,iv 25)] [iv 4,iv 25] S (wN d) d d d d (lb d) fun a S=>?_))))))))
 have S:=S.learn (fRep r_api_Point (.agg #[iv (-15),iv 0]) (api_Point.mk (-15) 0)) d
 have S:=S.learn (fRep r_api_Point (.agg #[iv 4,iv 25]) (api_Point.mk 4 25)) d
 refine sLit (r:=r_api_Point) (T:=35) (xs:=[(api_Point.mk (-15) 0),(api_Point.mk 4 25)]) [(0,.agg #[iv (-15),iv 0]),(1,.agg #[iv 4,iv 25])] 2 [.agg #[iv (-15),iv 0],.agg #[iv 4,iv 25]] [iv (-15),iv 0,iv 4,iv 25] (.agg #[iv 0,iv 0]) 16 S (wN d) d d Tryd.underlying22 d (by decide) (by decide) (by kernel_rfl) d (fun E1 w1 hE=>All.cons (r_api_Point.mono hE (S.mem.know (i:=1) (e:=fRep r_api_Point (.agg #[iv (-15),iv 0]) (api_Point.mk (-15) 0)) d)) (All.cons (r_api_Point.mono hE (S.mem.know (i:=0) (e:=fRep r_api_Point (.agg #[iv 4,iv 25]) (api_Point.mk 4 25)) d)) (All.nil _ _ _))) d d (lb d) fun a w dZ e0 S=>?_
 refine sBuild [(0,iv 15)] [iv 15,iv 0] S (wN d) d d d d (lb d) fun a S=>sBuild [(0,iv 20),(1,iv 30)] [iv 20,iv 30] S (wN d) d d d d (lb d) fun a S=>?_
 have S:=S.learn (fRep r_api_Point (.agg #[iv 15,iv 0]) (api_Point.mk 15 0)) d
 have S:=S.learn (fRep r_api_Point (.agg #[iv 20,iv 30]) (api_Point.mk 20 30)) d
 refine sLit (r:=r_api_Point) (T:=35) (xs:=[(api_Point.mk 15 0),(api_Point.mk 20 30)]) [(0,.agg #[iv 15,iv 0]),(1,.agg #[iv 20,iv 30])] 2 [.agg #[iv 15,iv 0],.agg #[iv 20,iv 30]] [iv 15,iv 0,iv 20,iv 30] (.agg #[iv 0,iv 0]) 16 S (wN d) d d Tryd.underlying22 d (by decide) (by decide) (by kernel_rfl) d (fun E1 w1 hE=>All.cons (r_api_Point.mono hE (S.mem.know (i:=1) (e:=fRep r_api_Point (.agg #[iv 15,iv 0]) (api_Point.mk 15 0)) d)) (All.cons (r_api_Point.mono hE (S.mem.know (i:=0) (e:=fRep r_api_Point (.agg #[iv 20,iv 30]) (api_Point.mk 20 30)) d)) (All.nil _ _ _))) d d (lb d) fun a w e3 e4 S=>?_
 obtain ⟨ab,eR,h⟩:=bS h
 have hv_r170:ab=((api_Shape.mk [(api_Point.mk (-2) 0),(api_Point.mk 0 3)] [(api_Point.mk 2 0),(api_Point.mk 2 3)]),0):=Option.some.inj (eR.symm.trans (by exact kc_raddlelaw37_PieceNames_25))
 have S:=S.learn (fRep r_api_Gauge (.agg #[iv 1,iv 10,iv 1,iv 10]) (api_Gauge.mk 1 10 1 10)) d
 have S:=S.shutR (r:=r_api_Point) (T:=35) (v:=.slice dZ [(api_Point.mk (-15) 0),(api_Point.mk 4 25)].length e0) (xs:=[(api_Point.mk (-15) 0),(api_Point.mk 4 25)]) 1 d
 have S:=S.shutR (r:=r_api_Point) (T:=35) (v:=.slice e3 [(api_Point.mk 15 0),(api_Point.mk 20 30)].length e4) (xs:=[(api_Point.mk 15 0),(api_Point.mk 20 30)]) 0 d
 refine sCall (X:=Option Addr × Nat × Option Addr × Nat) (f:=28) (vs:=[.agg #[iv 1,iv 10,iv 1,iv 10],.slice dZ [(api_Point.mk (-15) 0),(api_Point.mk 4 25)].length e0,.slice e3 [(api_Point.mk 15 0),(api_Point.mk 20 30)].length e4]) (val:=fun x=>.tuple #[.agg #[.slice x.1 ab.1.Left.length x.2.1,.slice x.2.2.1 ab.1.Right.length x.2.2.2],iv ab.2]) (B':=fun x=>[eRow r_api_Point 35 (.slice x.1 ab.1.Left.length x.2.1) ab.1.Left,eRow r_api_Point 35 (.slice x.2.2.1 ab.1.Right.length x.2.2.2) ab.1.Right]) (D':=fun _=>[]) [] [eBox cA 65 [iv 1,iv 10,iv 1,iv 10],eBox d8 30 [.slice ba ac.1.Left.length bb,.slice bc ac.1.Right.length bf],eRow (rI .i64) 3 (.slice ba ac.1.Left.length bb) ac.1.Left,eRow (rI .i64) 3 (.slice bc ac.1.Right.length bf) ac.1.Right,eBox cK 30 [.slice aS aa.1.Left.length aT,.slice aU aa.1.Right.length aV],eRow (rI .i64) 3 (.slice aS aa.1.Left.length aT) aa.1.Left,eRow (rI .i64) 3 (.slice aU aa.1.Right.length aV) aa.1.Right,eBox cB 30 [.slice aJ a8.1.Left.length aK,.slice aL a8.1.Right.length aM],eRow (rI .i64) 3 (.slice aJ a8.1.Left.length aK) a8.1.Left,eRow (rI .i64) 3 (.slice aL a8.1.Right.length aM) a8.1.Right,eBox cz 30 [.slice az a7.1.Left.length aA,.slice aC a7.1.Right.length aG],eRow (rI .i64) 3 (.slice az a7.1.Left.length aA) a7.1.Left,eRow (rI .i64) 3 (.slice aC a7.1.Right.length aG) a7.1.Right,eBox cq 30 [.slice au a6.1.Left.length av,.slice aw a6.1.Right.length ax],eRow (rI .i64) 3 (.slice au a6.1.Left.length av) a6.1.Left,eRow (rI .i64) 3 (.slice aw a6.1.Right.length ax) a6.1.Right,eBox co 30 [.slice al a2.1.Left.length am,.slice ao a2.1.Right.length ap],eRow (rI .i64) 3 (.slice al a2.1.Left.length am) a2.1.Left,eRow (rI .i64) 3 (.slice ao a2.1.Right.length ap) a2.1.Right,eBox dk 30 [.slice aO ag.1.Left.length aP,.slice aQ ag.1.Right.length aR],eRow (rI .i64) 3 (.slice aO ag.1.Left.length aP) ag.1.Left,eRow (rI .i64) 3 (.slice aQ ag.1.Right.length aR) ag.1.Right,eRow (rI .i64) 3 (.slice c9 aI.Left.length ca) aI.Left,eRow (rI .i64) 3 (.slice cb aI.Right.length cc) aI.Right,eRow (rI .i64) 3 (.slice c5 aH.Left.length c6) aH.Left,eRow (rI .i64) 3 (.slice c7 aH.Right.length c8) aH.Right,eRow (rI .i64) 3 (.slice bY ay.Left.length bZ) ay.Left,eRow (rI .i64) 3 (.slice c1 ay.Right.length c2) ay.Right,eRow (rI .i64) 3 (.slice bU ar.Left.length bV) ar.Left,eRow (rI .i64) 3 (.slice bW ar.Right.length bX) ar.Right,eRow (rI .i64) 3 (.slice bO aq.Left.length bP) aq.Left,eRow (rI .i64) 3 (.slice bQ aq.Right.length bR) aq.Right,eRow (rI .i64) 3 (.slice bJ ak.Left.length bK) ak.Left,eRow (rI .i64) 3 (.slice bL ak.Right.length bM) ak.Right,eRow (rI .i64) 3 (.slice bB aj.Left.length bC) aj.Left,eRow (rI .i64) 3 (.slice bD aj.Right.length bE) aj.Right,eRow (rI .i64) 3 (.slice bv ai.Left.length bw) ai.Left,eRow (rI .i64) 3 (.slice bx ai.Right.length bz) ai.Right,eRow (rI .i64) 3 (.slice cv r3.Left.length cw) r3.Left,eRow (rI .i64) 3 (.slice cx r3.Right.length cy) r3.Right] [fRep r_api_Gauge (.agg #[iv 1,iv 10,iv 1,iv 10]) (api_Gauge.mk 1 10 1 10),fRep (rL r_api_Point) (.slice dZ [(api_Point.mk (-15) 0),(api_Point.mk 4 25)].length e0) [(api_Point.mk (-15) 0),(api_Point.mk 4 25)],fRep (rL r_api_Point) (.slice e3 [(api_Point.mk 15 0),(api_Point.mk 20 30)].length e4) [(api_Point.mk 15 0),(api_Point.mk 20 30)]] [0,1,2,3,4,5,6,7,8,9,10,11,12,13,14,15,16,17,18,19,20,21,22,23,24,25,26,27,28,29,30,31,32,33,34,35,36,37,38,39] [2,1,0] S (wN d) d callee28 d (by decide) d d (fun E1 w1 S1=>c_piece_Measure_s0 E1 w1 (api_Gauge.mk 1 10 1 10) (.agg #[iv 1,iv 10,iv 1,iv 10]) [(api_Point.mk (-15) 0),(api_Point.mk 4 25)] (.slice dZ [(api_Point.mk (-15) 0),(api_Point.mk 4 25)].length e0) [(api_Point.mk 15 0),(api_Point.mk 20 30)] (.slice e3 [(api_Point.mk 15 0),(api_Point.mk 20 30)].length e4) ab eR S1) d (lb d) fun xx a w S=>?_
 obtain ⟨aW,aX,aZ,b0⟩:=xx
 dsimp only at S
 refine sM S fun a S=>?_
 refine sExtract (vs:=[.agg #[.slice aW ab.1.Left.length aX,.slice aZ ab.1.Right.length b0],iv ab.2]) (.agg #[.slice aW ab.1.Left.length aX,.slice aZ ab.1.Right.length b0]) S (wN d) d d d d (lb d) fun a S=>sExtract (vs:=[.agg #[.slice aW ab.1.Left.length aX,.slice aZ ab.1.Right.length b0],iv ab.2]) (iv ab.2) S (wN d) d d d d (lb d) fun a S=>sAlloc (.agg #[.slice none 0 0,.slice none 0 0]) S (wN d) d d [.slice none 0 0,.slice none 0 0] d d (lb d) fun a cC w S=>sStore (p:=cC) (off:=0) (T:=24) (vs:=[.slice none 0 0,.slice none 0 0]) (v:=.agg #[.slice aW ab.1.Left.length aX,.slice aZ ab.1.Right.length b0]) 0 [.slice aW ab.1.Left.length aX,.slice aZ ab.1.Right.length b0] S (wN d) d d d d d d d (by simp) d fun a w S=>sN S fun a S=>?_
 refine lT (g2 _ _ (sSeq (fun gZ g3=>sRegion (sLoadN (p:=cA) (off:=0) (T:=65) (vs:=[iv 1,iv 10,iv 1,iv 10]) 3 [iv 1,iv 10,iv 1,iv 10] S (wN d) d d d d d d d (lb d) fun a S=>sBuild [] [iv 0,iv 0] S (wN d) d d d d (lb d) fun a S=>sBuild [(1,iv 4)] [iv 0,iv 4] S (wN d) d d d d (lb d) fun a S=>?_))))
 have S:=S.learn (fRep r_api_Point (.agg #[iv 0,iv 4]) (api_Point.mk 0 4)) d
 refine sLit (r:=r_api_Point) (T:=35) (xs:=[(api_Point.mk 0 0),(api_Point.mk 0 4)]) [(0,.agg #[iv 0,iv 0]),(1,.agg #[iv 0,iv 4])] 2 [.agg #[iv 0,iv 0],.agg #[iv 0,iv 4]] [iv 0,iv 0,iv 0,iv 4] (.agg #[iv 0,iv 0]) 16 S (wN d) d d Tryd.underlying22 d (by decide) (by decide) (by kernel_rfl) d (fun E1 w1 hE=>All.cons (r_api_Point.mono hE (S.mem.know (i:=31) (e:=fRep r_api_Point (.agg #[iv 0,iv 0]) (api_Point.mk 0 0)) d)) (All.cons (r_api_Point.mono hE (S.mem.know (i:=0) (e:=fRep r_api_Point (.agg #[iv 0,iv 4]) (api_Point.mk 0 4)) d)) (All.nil _ _ _))) d d (lb d) fun a w e5 e6 S=>?_
 refine sBuild [(0,iv 9)] [iv 9,iv 0] S (wN d) d d d d (lb d) fun a S=>sBuild [(0,iv 9),(1,iv 40)] [iv 9,iv 40] S (wN d) d d d d (lb d) fun a S=>?_
 have S:=S.learn (fRep r_api_Point (.agg #[iv 9,iv 0]) (api_Point.mk 9 0)) d
 have S:=S.learn (fRep r_api_Point (.agg #[iv 9,iv 40]) (api_Point.mk 9 40)) d
 refine sLit (r:=r_api_Point) (T:=35) (xs:=[(api_Point.mk 9 0),(api_Point.mk 9 40)]) [(0,.agg #[iv 9,iv 0]),(1,.agg #[iv 9,iv 40])] 2 [.agg #[iv 9,iv 0],.agg #[iv 9,iv 40]] [iv 9,iv 0,iv 9,iv 40] (.agg #[iv 0,iv 0]) 16 S (wN d) d d Tryd.underlying22 d (by decide) (by decide) (by kernel_rfl) d (fun E1 w1 hE=>All.cons (r_api_Point.mono hE (S.mem.know (i:=1) (e:=fRep r_api_Point (.agg #[iv 9,iv 0]) (api_Point.mk 9 0)) d)) (All.cons (r_api_Point.mono hE (S.mem.know (i:=0) (e:=fRep r_api_Point (.agg #[iv 9,iv 40]) (api_Point.mk 9 40)) d)) (All.nil _ _ _))) d d (lb d) fun a w e7 e8 S=>?_
 obtain ⟨ae,eS,h⟩:=bS h
 have hv_r182:ae=((api_Shape.mk [] []),8):=Option.some.inj (eS.symm.trans (by exact kc_raddlelaw37_PieceNames_26))
 have S:=S.shutR (r:=r_api_Point) (T:=35) (v:=.slice e5 [(api_Point.mk 0 0),(api_Point.mk 0 4)].length e6) (xs:=[(api_Point.mk 0 0),(api_Point.mk 0 4)]) 1 d
 have S:=S.shutR (r:=r_api_Point) (T:=35) (v:=.slice e7 [(api_Point.mk 9 0),(api_Point.mk 9 40)].length e8) (xs:=[(api_Point.mk 9 0),(api_Point.mk 9 40)]) 0 d
 refine sCall (X:=Option Addr × Nat × Option Addr × Nat) (f:=28) (vs:=[.agg #[iv 1,iv 10,iv 1,iv 10],.slice e5 [(api_Point.mk 0 0),(api_Point.mk 0 4)].length e6,.slice e7 [(api_Point.mk 9 0),(api_Point.mk 9 40)].length e8]) (val:=fun x=>.tuple #[.agg #[.slice x.1 ae.1.Left.length x.2.1,.slice x.2.2.1 ae.1.Right.length x.2.2.2],iv ae.2]) (B':=fun x=>[eRow r_api_Point 35 (.slice x.1 ae.1.Left.length x.2.1) ae.1.Left,eRow r_api_Point 35 (.slice x.2.2.1 ae.1.Right.length x.2.2.2) ae.1.Right]) (D':=fun _=>[]) [] [eBox cC 24 [.slice aW ab.1.Left.length aX,.slice aZ ab.1.Right.length b0],eRow r_api_Point 35 (.slice aW ab.1.Left.length aX) ab.1.Left,eRow r_api_Point 35 (.slice aZ ab.1.Right.length b0) ab.1.Right,eBox cA 65 [iv 1,iv 10,iv 1,iv 10],eBox d8 30 [.slice ba ac.1.Left.length bb,.slice bc ac.1.Right.length bf],eRow (rI .i64) 3 (.slice ba ac.1.Left.length bb) ac.1.Left,eRow (rI .i64) 3 (.slice bc ac.1.Right.length bf) ac.1.Right,eBox cK 30 [.slice aS aa.1.Left.length aT,.slice aU aa.1.Right.length aV],eRow (rI .i64) 3 (.slice aS aa.1.Left.length aT) aa.1.Left,eRow (rI .i64) 3 (.slice aU aa.1.Right.length aV) aa.1.Right,eBox cB 30 [.slice aJ a8.1.Left.length aK,.slice aL a8.1.Right.length aM],eRow (rI .i64) 3 (.slice aJ a8.1.Left.length aK) a8.1.Left,eRow (rI .i64) 3 (.slice aL a8.1.Right.length aM) a8.1.Right,eBox cz 30 [.slice az a7.1.Left.length aA,.slice aC a7.1.Right.length aG],eRow (rI .i64) 3 (.slice az a7.1.Left.length aA) a7.1.Left,eRow (rI .i64) 3 (.slice aC a7.1.Right.length aG) a7.1.Right,eBox cq 30 [.slice au a6.1.Left.length av,.slice aw a6.1.Right.length ax],eRow (rI .i64) 3 (.slice au a6.1.Left.length av) a6.1.Left,eRow (rI .i64) 3 (.slice aw a6.1.Right.length ax) a6.1.Right,eBox co 30 [.slice al a2.1.Left.length am,.slice ao a2.1.Right.length ap],eRow (rI .i64) 3 (.slice al a2.1.Left.length am) a2.1.Left,eRow (rI .i64) 3 (.slice ao a2.1.Right.length ap) a2.1.Right,eBox dk 30 [.slice aO ag.1.Left.length aP,.slice aQ ag.1.Right.length aR],eRow (rI .i64) 3 (.slice aO ag.1.Left.length aP) ag.1.Left,eRow (rI .i64) 3 (.slice aQ ag.1.Right.length aR) ag.1.Right,eRow (rI .i64) 3 (.slice c9 aI.Left.length ca) aI.Left,eRow (rI .i64) 3 (.slice cb aI.Right.length cc) aI.Right,eRow (rI .i64) 3 (.slice c5 aH.Left.length c6) aH.Left,eRow (rI .i64) 3 (.slice c7 aH.Right.length c8) aH.Right,eRow (rI .i64) 3 (.slice bY ay.Left.length bZ) ay.Left,eRow (rI .i64) 3 (.slice c1 ay.Right.length c2) ay.Right,eRow (rI .i64) 3 (.slice bU ar.Left.length bV) ar.Left,eRow (rI .i64) 3 (.slice bW ar.Right.length bX) ar.Right,eRow (rI .i64) 3 (.slice bO aq.Left.length bP) aq.Left,eRow (rI .i64) 3 (.slice bQ aq.Right.length bR) aq.Right,eRow (rI .i64) 3 (.slice bJ ak.Left.length bK) ak.Left,eRow (rI .i64) 3 (.slice bL ak.Right.length bM) ak.Right,eRow (rI .i64) 3 (.slice bB aj.Left.length bC) aj.Left,eRow (rI .i64) 3 (.slice bD aj.Right.length bE) aj.Right,eRow (rI .i64) 3 (.slice bv ai.Left.length bw) ai.Left,eRow (rI .i64) 3 (.slice bx ai.Right.length bz) ai.Right,eRow (rI .i64) 3 (.slice cv r3.Left.length cw) r3.Left,eRow (rI .i64) 3 (.slice cx r3.Right.length cy) r3.Right] [fRep r_api_Gauge (.agg #[iv 1,iv 10,iv 1,iv 10]) (api_Gauge.mk 1 10 1 10),fRep (rL r_api_Point) (.slice e5 [(api_Point.mk 0 0),(api_Point.mk 0 4)].length e6) [(api_Point.mk 0 0),(api_Point.mk 0 4)],fRep (rL r_api_Point) (.slice e7 [(api_Point.mk 9 0),(api_Point.mk 9 40)].length e8) [(api_Point.mk 9 0),(api_Point.mk 9 40)]] [0,1,2,3,4,5,6,7,8,9,10,11,12,13,14,15,16,17,18,19,20,21,22,23,24,25,26,27,28,29,30,31,32,33,34,35,36,37,38,39,40,41,42] [7,1,0] S (wN d) d callee28 d (by decide) d d (fun E1 w1 S1=>c_piece_Measure_s0 E1 w1 (api_Gauge.mk 1 10 1 10) (.agg #[iv 1,iv 10,iv 1,iv 10]) [(api_Point.mk 0 0),(api_Point.mk 0 4)] (.slice e5 [(api_Point.mk 0 0),(api_Point.mk 0 4)].length e6) [(api_Point.mk 9 0),(api_Point.mk 9 40)] (.slice e7 [(api_Point.mk 9 0),(api_Point.mk 9 40)].length e8) ae eS S1) d (lb d) fun xx a w S=>?_
 obtain ⟨bg,bh,bi,bj⟩:=xx
 dsimp only at S
 refine sM S fun a S=>?_
 refine sExtract (vs:=[.agg #[.slice bg ae.1.Left.length bh,.slice bi ae.1.Right.length bj],iv ae.2]) (.agg #[.slice bg ae.1.Left.length bh,.slice bi ae.1.Right.length bj]) S (wN d) d d d d (lb d) fun a S=>sExtract (vs:=[.agg #[.slice bg ae.1.Left.length bh,.slice bi ae.1.Right.length bj],iv ae.2]) (iv ae.2) S (wN d) d d d d (lb d) fun a S=>sAlloc (.agg #[.slice none 0 0,.slice none 0 0]) S (wN d) d d [.slice none 0 0,.slice none 0 0] d d (lb d) fun a dj w S=>sStore (p:=dj) (off:=0) (T:=24) (vs:=[.slice none 0 0,.slice none 0 0]) (v:=.agg #[.slice bg ae.1.Left.length bh,.slice bi ae.1.Right.length bj]) 0 [.slice bg ae.1.Left.length bh,.slice bi ae.1.Right.length bj] S (wN d) d d d d d d d (by simp) d fun a w S=>sN S fun a S=>?_
 refine lT (g3 _ _ (sSeq (fun hG g6=>sRegion (sLoadN (p:=cA) (off:=0) (T:=65) (vs:=[iv 1,iv 10,iv 1,iv 10]) 6 [iv 1,iv 10,iv 1,iv 10] S (wN d) d d d d d d d (lb d) fun a S=>sBuild [(0,iv (-1000001))] [iv (-1000001),iv 0] S (wN d) d d d d (lb d) fun a S=>?_))))
 have S:=S.learn (fRep r_api_Point (.agg #[iv (-1000001),iv 0]) (api_Point.mk (-1000001) 0)) d
 refine sLit (r:=r_api_Point) (T:=35) (xs:=[(api_Point.mk (-1000001) 0)]) [(0,.agg #[iv (-1000001),iv 0])] 1 [.agg #[iv (-1000001),iv 0]] [iv (-1000001),iv 0] (.agg #[iv 0,iv 0]) 16 S (wN d) d d Tryd.underlying22 d (by decide) (by decide) (by kernel_rfl) d (fun E1 w1 hE=>All.cons (r_api_Point.mono hE (S.mem.know (i:=0) (e:=fRep r_api_Point (.agg #[iv (-1000001),iv 0]) (api_Point.mk (-1000001) 0)) d)) (All.nil _ _ _)) d d (lb d) fun a w e9 ea S=>?_
 refine sBuild [(0,iv 9)] [iv 9,iv 0] S (wN d) d d d d (lb d) fun a S=>sLit (r:=r_api_Point) (T:=35) (xs:=[(api_Point.mk 9 0)]) [(0,.agg #[iv 9,iv 0])] 1 [.agg #[iv 9,iv 0]] [iv 9,iv 0] (.agg #[iv 0,iv 0]) 16 S (wN d) d d Tryd.underlying22 d (by decide) (by decide) (by kernel_rfl) d (fun E1 w1 hE=>All.cons (r_api_Point.mono hE (S.mem.know (i:=4) (e:=fRep r_api_Point (.agg #[iv 9,iv 0]) (api_Point.mk 9 0)) d)) (All.nil _ _ _)) d d (lb d) fun a w eb ec S=>?_
 obtain ⟨af,eT,h⟩:=bS h
 have hv_r194:af=((api_Shape.mk [] []),2):=Option.some.inj (eT.symm.trans (by exact kc_raddlelaw37_PieceNames_27))
 have S:=S.shutR (r:=r_api_Point) (T:=35) (v:=.slice e9 [(api_Point.mk (-1000001) 0)].length ea) (xs:=[(api_Point.mk (-1000001) 0)]) 1 d
 have S:=S.shutR (r:=r_api_Point) (T:=35) (v:=.slice eb [(api_Point.mk 9 0)].length ec) (xs:=[(api_Point.mk 9 0)]) 0 d
 refine sCall (X:=Option Addr × Nat × Option Addr × Nat) (f:=28) (vs:=[.agg #[iv 1,iv 10,iv 1,iv 10],.slice e9 [(api_Point.mk (-1000001) 0)].length ea,.slice eb [(api_Point.mk 9 0)].length ec]) (val:=fun x=>.tuple #[.agg #[.slice x.1 af.1.Left.length x.2.1,.slice x.2.2.1 af.1.Right.length x.2.2.2],iv af.2]) (B':=fun x=>[eRow r_api_Point 35 (.slice x.1 af.1.Left.length x.2.1) af.1.Left,eRow r_api_Point 35 (.slice x.2.2.1 af.1.Right.length x.2.2.2) af.1.Right]) (D':=fun _=>[]) [] [eBox dj 24 [.slice bg ae.1.Left.length bh,.slice bi ae.1.Right.length bj],eRow r_api_Point 35 (.slice bg ae.1.Left.length bh) ae.1.Left,eRow r_api_Point 35 (.slice bi ae.1.Right.length bj) ae.1.Right,eBox cC 24 [.slice aW ab.1.Left.length aX,.slice aZ ab.1.Right.length b0],eRow r_api_Point 35 (.slice aW ab.1.Left.length aX) ab.1.Left,eRow r_api_Point 35 (.slice aZ ab.1.Right.length b0) ab.1.Right,eBox cA 65 [iv 1,iv 10,iv 1,iv 10],eBox d8 30 [.slice ba ac.1.Left.length bb,.slice bc ac.1.Right.length bf],eRow (rI .i64) 3 (.slice ba ac.1.Left.length bb) ac.1.Left,eRow (rI .i64) 3 (.slice bc ac.1.Right.length bf) ac.1.Right,eBox cK 30 [.slice aS aa.1.Left.length aT,.slice aU aa.1.Right.length aV],eRow (rI .i64) 3 (.slice aS aa.1.Left.length aT) aa.1.Left,eRow (rI .i64) 3 (.slice aU aa.1.Right.length aV) aa.1.Right,eBox cB 30 [.slice aJ a8.1.Left.length aK,.slice aL a8.1.Right.length aM],eRow (rI .i64) 3 (.slice aJ a8.1.Left.length aK) a8.1.Left,eRow (rI .i64) 3 (.slice aL a8.1.Right.length aM) a8.1.Right,eBox cz 30 [.slice az a7.1.Left.length aA,.slice aC a7.1.Right.length aG],eRow (rI .i64) 3 (.slice az a7.1.Left.length aA) a7.1.Left,eRow (rI .i64) 3 (.slice aC a7.1.Right.length aG) a7.1.Right,eBox cq 30 [.slice au a6.1.Left.length av,.slice aw a6.1.Right.length ax],eRow (rI .i64) 3 (.slice au a6.1.Left.length av) a6.1.Left,eRow (rI .i64) 3 (.slice aw a6.1.Right.length ax) a6.1.Right,eBox co 30 [.slice al a2.1.Left.length am,.slice ao a2.1.Right.length ap],eRow (rI .i64) 3 (.slice al a2.1.Left.length am) a2.1.Left,eRow (rI .i64) 3 (.slice ao a2.1.Right.length ap) a2.1.Right,eBox dk 30 [.slice aO ag.1.Left.length aP,.slice aQ ag.1.Right.length aR],eRow (rI .i64) 3 (.slice aO ag.1.Left.length aP) ag.1.Left,eRow (rI .i64) 3 (.slice aQ ag.1.Right.length aR) ag.1.Right,eRow (rI .i64) 3 (.slice c9 aI.Left.length ca) aI.Left,eRow (rI .i64) 3 (.slice cb aI.Right.length cc) aI.Right,eRow (rI .i64) 3 (.slice c5 aH.Left.length c6) aH.Left,eRow (rI .i64) 3 (.slice c7 aH.Right.length c8) aH.Right,eRow (rI .i64) 3 (.slice bY ay.Left.length bZ) ay.Left,eRow (rI .i64) 3 (.slice c1 ay.Right.length c2) ay.Right,eRow (rI .i64) 3 (.slice bU ar.Left.length bV) ar.Left,eRow (rI .i64) 3 (.slice bW ar.Right.length bX) ar.Right,eRow (rI .i64) 3 (.slice bO aq.Left.length bP) aq.Left,eRow (rI .i64) 3 (.slice bQ aq.Right.length bR) aq.Right,eRow (rI .i64) 3 (.slice bJ ak.Left.length bK) ak.Left,eRow (rI .i64) 3 (.slice bL ak.Right.length bM) ak.Right,eRow (rI .i64) 3 (.slice bB aj.Left.length bC) aj.Left,eRow (rI .i64) 3 (.slice bD aj.Right.length bE) aj.Right,eRow (rI .i64) 3 (.slice bv ai.Left.length bw) ai.Left,eRow (rI .i64) 3 (.slice bx ai.Right.length bz) ai.Right,eRow (rI .i64) 3 (.slice cv r3.Left.length cw) r3.Left,eRow (rI .i64) 3 (.slice cx r3.Right.length cy) r3.Right] [fRep r_api_Gauge (.agg #[iv 1,iv 10,iv 1,iv 10]) (api_Gauge.mk 1 10 1 10),fRep (rL r_api_Point) (.slice e9 [(api_Point.mk (-1000001) 0)].length ea) [(api_Point.mk (-1000001) 0)],fRep (rL r_api_Point) (.slice eb [(api_Point.mk 9 0)].length ec) [(api_Point.mk 9 0)]] [0,1,2,3,4,5,6,7,8,9,10,11,12,13,14,15,16,17,18,19,20,21,22,23,24,25,26,27,28,29,30,31,32,33,34,35,36,37,38,39,40,41,42,43,44,45] [10,1,0] S (wN d) d callee28 d (by decide) d d (fun E1 w1 S1=>c_piece_Measure_s0 E1 w1 (api_Gauge.mk 1 10 1 10) (.agg #[iv 1,iv 10,iv 1,iv 10]) [(api_Point.mk (-1000001) 0)] (.slice e9 [(api_Point.mk (-1000001) 0)].length ea) [(api_Point.mk 9 0)] (.slice eb [(api_Point.mk 9 0)].length ec) af eT S1) d (lb d) fun xx a w S=>?_
 obtain ⟨bo,bp,bq,br⟩:=xx
 dsimp only at S
 refine sM S fun a S=>?_
 refine sExtract (vs:=[.agg #[.slice bo af.1.Left.length bp,.slice bq af.1.Right.length br],iv af.2]) (.agg #[.slice bo af.1.Left.length bp,.slice bq af.1.Right.length br]) S (wN d) d d d d (lb d) fun a S=>sExtract (vs:=[.agg #[.slice bo af.1.Left.length bp,.slice bq af.1.Right.length br],iv af.2]) (iv af.2) S (wN d) d d d d (lb d) fun a S=>sAlloc (.agg #[.slice none 0 0,.slice none 0 0]) S (wN d) d d [.slice none 0 0,.slice none 0 0] d d (lb d) fun a dy w S=>sStore (p:=dy) (off:=0) (T:=24) (vs:=[.slice none 0 0,.slice none 0 0]) (v:=.agg #[.slice bo af.1.Left.length bp,.slice bq af.1.Right.length br]) 0 [.slice bo af.1.Left.length bp,.slice bq af.1.Right.length br] S (wN d) d d d d d d d (by simp) d fun a w S=>sN S fun a S=>?_
 refine lT (g6 _ _ (sSeq (fun hH ga=>sRegion (sBuild [] [iv 0,iv 0,iv 0,iv 0] S (wN d) d d d d (lb d) fun a S=>sBuild [] [iv 0,iv 0] S (wN d) d d d d (lb d) fun a S=>sLit (r:=r_api_Point) (T:=35) (xs:=[(api_Point.mk 0 0)]) [(0,.agg #[iv 0,iv 0])] 1 [.agg #[iv 0,iv 0]] [iv 0,iv 0] (.agg #[iv 0,iv 0]) 16 S (wN d) d d Tryd.underlying22 d (by decide) (by decide) (by kernel_rfl) d (fun E1 w1 hE=>All.cons (r_api_Point.mono hE (S.mem.know (i:=38) (e:=fRep r_api_Point (.agg #[iv 0,iv 0]) (api_Point.mk 0 0)) d)) (All.nil _ _ _)) d d (lb d) fun a w ed ee S=>?_))))
 obtain ⟨ah,eU,h⟩:=bS h
 have hv_r204:ah=((api_Shape.mk [] []),8):=Option.some.inj (eU.symm.trans (by exact kc_raddlelaw37_PieceNames_28))
 have S:=S.learn (fRep r_api_Gauge (.agg #[iv 0,iv 0,iv 0,iv 0]) (api_Gauge.mk 0 0 0 0)) d
 have S:=S.shutR (r:=r_api_Point) (T:=35) (v:=.slice ed [(api_Point.mk 0 0)].length ee) (xs:=[(api_Point.mk 0 0)]) 0 d
 refine sCall (X:=Option Addr × Nat × Option Addr × Nat) (f:=28) (vs:=[.agg #[iv 0,iv 0,iv 0,iv 0],.slice none 0 0,.slice ed [(api_Point.mk 0 0)].length ee]) (val:=fun x=>.tuple #[.agg #[.slice x.1 ah.1.Left.length x.2.1,.slice x.2.2.1 ah.1.Right.length x.2.2.2],iv ah.2]) (B':=fun x=>[eRow r_api_Point 35 (.slice x.1 ah.1.Left.length x.2.1) ah.1.Left,eRow r_api_Point 35 (.slice x.2.2.1 ah.1.Right.length x.2.2.2) ah.1.Right]) (D':=fun _=>[]) [] [eBox dy 24 [.slice bo af.1.Left.length bp,.slice bq af.1.Right.length br],eRow r_api_Point 35 (.slice bo af.1.Left.length bp) af.1.Left,eRow r_api_Point 35 (.slice bq af.1.Right.length br) af.1.Right,eBox dj 24 [.slice bg ae.1.Left.length bh,.slice bi ae.1.Right.length bj],eRow r_api_Point 35 (.slice bg ae.1.Left.length bh) ae.1.Left,eRow r_api_Point 35 (.slice bi ae.1.Right.length bj) ae.1.Right,eBox cC 24 [.slice aW ab.1.Left.length aX,.slice aZ ab.1.Right.length b0],eRow r_api_Point 35 (.slice aW ab.1.Left.length aX) ab.1.Left,eRow r_api_Point 35 (.slice aZ ab.1.Right.length b0) ab.1.Right,eBox cA 65 [iv 1,iv 10,iv 1,iv 10],eBox d8 30 [.slice ba ac.1.Left.length bb,.slice bc ac.1.Right.length bf],eRow (rI .i64) 3 (.slice ba ac.1.Left.length bb) ac.1.Left,eRow (rI .i64) 3 (.slice bc ac.1.Right.length bf) ac.1.Right,eBox cK 30 [.slice aS aa.1.Left.length aT,.slice aU aa.1.Right.length aV],eRow (rI .i64) 3 (.slice aS aa.1.Left.length aT) aa.1.Left,eRow (rI .i64) 3 (.slice aU aa.1.Right.length aV) aa.1.Right,eBox cB 30 [.slice aJ a8.1.Left.length aK,.slice aL a8.1.Right.length aM],eRow (rI .i64) 3 (.slice aJ a8.1.Left.length aK) a8.1.Left,eRow (rI .i64) 3 (.slice aL a8.1.Right.length aM) a8.1.Right,eBox cz 30 [.slice az a7.1.Left.length aA,.slice aC a7.1.Right.length aG],eRow (rI .i64) 3 (.slice az a7.1.Left.length aA) a7.1.Left,eRow (rI .i64) 3 (.slice aC a7.1.Right.length aG) a7.1.Right,eBox cq 30 [.slice au a6.1.Left.length av,.slice aw a6.1.Right.length ax],eRow (rI .i64) 3 (.slice au a6.1.Left.length av) a6.1.Left,eRow (rI .i64) 3 (.slice aw a6.1.Right.length ax) a6.1.Right,eBox co 30 [.slice al a2.1.Left.length am,.slice ao a2.1.Right.length ap],eRow (rI .i64) 3 (.slice al a2.1.Left.length am) a2.1.Left,eRow (rI .i64) 3 (.slice ao a2.1.Right.length ap) a2.1.Right,eBox dk 30 [.slice aO ag.1.Left.length aP,.slice aQ ag.1.Right.length aR],eRow (rI .i64) 3 (.slice aO ag.1.Left.length aP) ag.1.Left,eRow (rI .i64) 3 (.slice aQ ag.1.Right.length aR) ag.1.Right,eRow (rI .i64) 3 (.slice c9 aI.Left.length ca) aI.Left,eRow (rI .i64) 3 (.slice cb aI.Right.length cc) aI.Right,eRow (rI .i64) 3 (.slice c5 aH.Left.length c6) aH.Left,eRow (rI .i64) 3 (.slice c7 aH.Right.length c8) aH.Right,eRow (rI .i64) 3 (.slice bY ay.Left.length bZ) ay.Left,eRow (rI .i64) 3 (.slice c1 ay.Right.length c2) ay.Right,eRow (rI .i64) 3 (.slice bU ar.Left.length bV) ar.Left,eRow (rI .i64) 3 (.slice bW ar.Right.length bX) ar.Right,eRow (rI .i64) 3 (.slice bO aq.Left.length bP) aq.Left,eRow (rI .i64) 3 (.slice bQ aq.Right.length bR) aq.Right,eRow (rI .i64) 3 (.slice bJ ak.Left.length bK) ak.Left,eRow (rI .i64) 3 (.slice bL ak.Right.length bM) ak.Right,eRow (rI .i64) 3 (.slice bB aj.Left.length bC) aj.Left,eRow (rI .i64) 3 (.slice bD aj.Right.length bE) aj.Right,eRow (rI .i64) 3 (.slice bv ai.Left.length bw) ai.Left,eRow (rI .i64) 3 (.slice bx ai.Right.length bz) ai.Right,eRow (rI .i64) 3 (.slice cv r3.Left.length cw) r3.Left,eRow (rI .i64) 3 (.slice cx r3.Right.length cy) r3.Right] [fRep r_api_Gauge (.agg #[iv 0,iv 0,iv 0,iv 0]) (api_Gauge.mk 0 0 0 0),fRep (rL r_api_Point) (.slice none 0 0) ([]:(List api_Point)),fRep (rL r_api_Point) (.slice ed [(api_Point.mk 0 0)].length ee) [(api_Point.mk 0 0)]] [0,1,2,3,4,5,6,7,8,9,10,11,12,13,14,15,16,17,18,19,20,21,22,23,24,25,26,27,28,29,30,31,32,33,34,35,36,37,38,39,40,41,42,43,44,45,46,47,48] [1,23,0] S (wN d) d callee28 d (by decide) d d (fun E1 w1 S1=>c_piece_Measure_s0 E1 w1 (api_Gauge.mk 0 0 0 0) (.agg #[iv 0,iv 0,iv 0,iv 0]) ([]:(List api_Point)) (.slice none 0 0) [(api_Point.mk 0 0)] (.slice ed [(api_Point.mk 0 0)].length ee) ah eU S1) d (lb d) fun xx a w S=>?_
 obtain ⟨bF,bG,bH,bI⟩:=xx
 dsimp only at S
 refine sM S fun a S=>?_
 refine sExtract (vs:=[.agg #[.slice bF ah.1.Left.length bG,.slice bH ah.1.Right.length bI],iv ah.2]) (.agg #[.slice bF ah.1.Left.length bG,.slice bH ah.1.Right.length bI]) S (wN d) d d d d (lb d) fun a S=>sExtract (vs:=[.agg #[.slice bF ah.1.Left.length bG,.slice bH ah.1.Right.length bI],iv ah.2]) (iv ah.2) S (wN d) d d d d (lb d) fun a S=>sAlloc (.agg #[.slice none 0 0,.slice none 0 0]) S (wN d) d d [.slice none 0 0,.slice none 0 0] d d (lb d) fun a dI w S=>sStore (p:=dI) (off:=0) (T:=24) (vs:=[.slice none 0 0,.slice none 0 0]) (v:=.agg #[.slice bF ah.1.Left.length bG,.slice bH ah.1.Right.length bI]) 0 [.slice bF ah.1.Left.length bG,.slice bH ah.1.Right.length bI] S (wN d) d d d d d d d (by simp) d fun a w S=>sN S fun a S=>?_
 refine lT (ga _ _ (sSeq (fun hM gb=>sRegion ?_)))
 obtain ⟨bT,eV,h⟩:=bS h
 have hv_r212:bT=(api_Piece.mk [0,1,1,2,2] [10,10,9,9,8]):=Option.some.inj (eV.symm.trans (by exact kc_raddlelaw37_PieceNames_29))
 refine sCall (X:=Option Addr × Nat × Option Addr × Nat) (f:=29) (vs:=[]) (val:=fun x=>.agg #[.slice x.1 bT.Left.length x.2.1,.slice x.2.2.1 bT.Right.length x.2.2.2]) (B':=fun x=>[eRow (rI .i64) 3 (.slice x.1 bT.Left.length x.2.1) bT.Left,eRow (rI .i64) 3 (.slice x.2.2.1 bT.Right.length x.2.2.2) bT.Right]) (D':=fun _=>[]) [] [eBox dI 24 [.slice bF ah.1.Left.length bG,.slice bH ah.1.Right.length bI],eRow r_api_Point 35 (.slice bF ah.1.Left.length bG) ah.1.Left,eRow r_api_Point 35 (.slice bH ah.1.Right.length bI) ah.1.Right,eBox dy 24 [.slice bo af.1.Left.length bp,.slice bq af.1.Right.length br],eRow r_api_Point 35 (.slice bo af.1.Left.length bp) af.1.Left,eRow r_api_Point 35 (.slice bq af.1.Right.length br) af.1.Right,eBox dj 24 [.slice bg ae.1.Left.length bh,.slice bi ae.1.Right.length bj],eRow r_api_Point 35 (.slice bg ae.1.Left.length bh) ae.1.Left,eRow r_api_Point 35 (.slice bi ae.1.Right.length bj) ae.1.Right,eBox cC 24 [.slice aW ab.1.Left.length aX,.slice aZ ab.1.Right.length b0],eRow r_api_Point 35 (.slice aW ab.1.Left.length aX) ab.1.Left,eRow r_api_Point 35 (.slice aZ ab.1.Right.length b0) ab.1.Right,eBox cA 65 [iv 1,iv 10,iv 1,iv 10],eBox d8 30 [.slice ba ac.1.Left.length bb,.slice bc ac.1.Right.length bf],eRow (rI .i64) 3 (.slice ba ac.1.Left.length bb) ac.1.Left,eRow (rI .i64) 3 (.slice bc ac.1.Right.length bf) ac.1.Right,eBox cK 30 [.slice aS aa.1.Left.length aT,.slice aU aa.1.Right.length aV],eRow (rI .i64) 3 (.slice aS aa.1.Left.length aT) aa.1.Left,eRow (rI .i64) 3 (.slice aU aa.1.Right.length aV) aa.1.Right,eBox cB 30 [.slice aJ a8.1.Left.length aK,.slice aL a8.1.Right.length aM],eRow (rI .i64) 3 (.slice aJ a8.1.Left.length aK) a8.1.Left,eRow (rI .i64) 3 (.slice aL a8.1.Right.length aM) a8.1.Right,eBox cz 30 [.slice az a7.1.Left.length aA,.slice aC a7.1.Right.length aG],eRow (rI .i64) 3 (.slice az a7.1.Left.length aA) a7.1.Left,eRow (rI .i64) 3 (.slice aC a7.1.Right.length aG) a7.1.Right,eBox cq 30 [.slice au a6.1.Left.length av,.slice aw a6.1.Right.length ax],eRow (rI .i64) 3 (.slice au a6.1.Left.length av) a6.1.Left,eRow (rI .i64) 3 (.slice aw a6.1.Right.length ax) a6.1.Right,eBox co 30 [.slice al a2.1.Left.length am,.slice ao a2.1.Right.length ap],eRow (rI .i64) 3 (.slice al a2.1.Left.length am) a2.1.Left,eRow (rI .i64) 3 (.slice ao a2.1.Right.length ap) a2.1.Right,eBox dk 30 [.slice aO ag.1.Left.length aP,.slice aQ ag.1.Right.length aR],eRow (rI .i64) 3 (.slice aO ag.1.Left.length aP) ag.1.Left,eRow (rI .i64) 3 (.slice aQ ag.1.Right.length aR) ag.1.Right,eRow (rI .i64) 3 (.slice c9 aI.Left.length ca) aI.Left,eRow (rI .i64) 3 (.slice cb aI.Right.length cc) aI.Right,eRow (rI .i64) 3 (.slice c5 aH.Left.length c6) aH.Left,eRow (rI .i64) 3 (.slice c7 aH.Right.length c8) aH.Right,eRow (rI .i64) 3 (.slice bY ay.Left.length bZ) ay.Left,eRow (rI .i64) 3 (.slice c1 ay.Right.length c2) ay.Right,eRow (rI .i64) 3 (.slice bU ar.Left.length bV) ar.Left,eRow (rI .i64) 3 (.slice bW ar.Right.length bX) ar.Right,eRow (rI .i64) 3 (.slice bO aq.Left.length bP) aq.Left,eRow (rI .i64) 3 (.slice bQ aq.Right.length bR) aq.Right,eRow (rI .i64) 3 (.slice bJ ak.Left.length bK) ak.Left,eRow (rI .i64) 3 (.slice bL ak.Right.length bM) ak.Right,eRow (rI .i64) 3 (.slice bB aj.Left.length bC) aj.Left,eRow (rI .i64) 3 (.slice bD aj.Right.length bE) aj.Right,eRow (rI .i64) 3 (.slice bv ai.Left.length bw) ai.Left,eRow (rI .i64) 3 (.slice bx ai.Right.length bz) ai.Right,eRow (rI .i64) 3 (.slice cv r3.Left.length cw) r3.Left,eRow (rI .i64) 3 (.slice cx r3.Right.length cy) r3.Right] [] [0,1,2,3,4,5,6,7,8,9,10,11,12,13,14,15,16,17,18,19,20,21,22,23,24,25,26,27,28,29,30,31,32,33,34,35,36,37,38,39,40,41,42,43,44,45,46,47,48,49,50,51] [] S (wN d) d callee29 d (by decide) d d (fun E1 w1 S1=>c_raddlelaw37_made_s0 E1 w1  bT eV S1) d (lb d) fun xx a w S=>?_
 obtain ⟨dl,dm,dn,dp⟩:=xx
 dsimp only at S
 obtain ⟨b1,eW,h⟩:=bS h
 have hv_r218:b1=((api_Chart.mk 10 [(api_Row.mk true [(api_Stitch.mk 4 true 2 0),(api_Stitch.mk 1 true 0 0),(api_Stitch.mk 1 true 0 0),(api_Stitch.mk 1 true 0 0),(api_Stitch.mk 1 true 0 0),(api_Stitch.mk 1 true 0 0),(api_Stitch.mk 1 true 0 0),(api_Stitch.mk 1 true 0 0),(api_Stitch.mk 1 true 0 0)]),(api_Row.mk false [(api_Stitch.mk 3 false 2 0),(api_Stitch.mk 1 false 0 0),(api_Stitch.mk 1 false 0 0),(api_Stitch.mk 1 false 0 0),(api_Stitch.mk 1 false 0 0),(api_Stitch.mk 1 false 0 0),(api_Stitch.mk 1 false 0 0),(api_Stitch.mk 1 false 0 0)]),(api_Row.mk true [(api_Stitch.mk 4 true 2 0),(api_Stitch.mk 1 true 0 0),(api_Stitch.mk 1 true 0 0),(api_Stitch.mk 1 true 0 0),(api_Stitch.mk 1 true 0 0),(api_Stitch.mk 1 true 0 0),(api_Stitch.mk 1 true 0 0)]),(api_Row.mk false [(api_Stitch.mk 3 false 2 0),(api_Stitch.mk 1 false 0 0),(api_Stitch.mk 1 false 0 0),(api_Stitch.mk 1 false 0 0),(api_Stitch.mk 1 false 0 0),(api_Stitch.mk 1 false 0 0)])]),0):=Option.some.inj (eW.symm.trans (by rw [hv_r212]; exact kc_raddlelaw37_PieceNames_30))
 have S:=S.shutR (r:=(rI .i64)) (T:=3) (v:=.slice dl bT.Left.length dm) (xs:=bT.Left) 0 d
 have S:=S.shutR (r:=(rI .i64)) (T:=3) (v:=.slice dn bT.Right.length dp) (xs:=bT.Right) 0 d
 have S:=S.learn (fRep r_api_Piece (.agg #[.slice dl bT.Left.length dm,.slice dn bT.Right.length dp]) bT) ⟨_,_,d,S.mem.know (i:=1) (e:=fRep (rL (rI .i64)) (.slice dl bT.Left.length dm) bT.Left) d,S.mem.know (i:=0) (e:=fRep (rL (rI .i64)) (.slice dn bT.Right.length dp) bT.Right) d⟩
 refine sCall (X:=Option Addr × Nat) (f:=17) (vs:=[.agg #[.slice dl bT.Left.length dm,.slice dn bT.Right.length dp]]) (val:=fun x=>.tuple #[.agg #[iv b1.1.Start,.slice x.1 b1.1.Rows.length x.2],iv b1.2]) (B':=fun x=>[eRow r_api_Row 54 (.slice x.1 b1.1.Rows.length x.2) b1.1.Rows]) (D':=fun _=>[]) [] [eBox dI 24 [.slice bF ah.1.Left.length bG,.slice bH ah.1.Right.length bI],eRow r_api_Point 35 (.slice bF ah.1.Left.length bG) ah.1.Left,eRow r_api_Point 35 (.slice bH ah.1.Right.length bI) ah.1.Right,eBox dy 24 [.slice bo af.1.Left.length bp,.slice bq af.1.Right.length br],eRow r_api_Point 35 (.slice bo af.1.Left.length bp) af.1.Left,eRow r_api_Point 35 (.slice bq af.1.Right.length br) af.1.Right,eBox dj 24 [.slice bg ae.1.Left.length bh,.slice bi ae.1.Right.length bj],eRow r_api_Point 35 (.slice bg ae.1.Left.length bh) ae.1.Left,eRow r_api_Point 35 (.slice bi ae.1.Right.length bj) ae.1.Right,eBox cC 24 [.slice aW ab.1.Left.length aX,.slice aZ ab.1.Right.length b0],eRow r_api_Point 35 (.slice aW ab.1.Left.length aX) ab.1.Left,eRow r_api_Point 35 (.slice aZ ab.1.Right.length b0) ab.1.Right,eBox cA 65 [iv 1,iv 10,iv 1,iv 10],eBox d8 30 [.slice ba ac.1.Left.length bb,.slice bc ac.1.Right.length bf],eRow (rI .i64) 3 (.slice ba ac.1.Left.length bb) ac.1.Left,eRow (rI .i64) 3 (.slice bc ac.1.Right.length bf) ac.1.Right,eBox cK 30 [.slice aS aa.1.Left.length aT,.slice aU aa.1.Right.length aV],eRow (rI .i64) 3 (.slice aS aa.1.Left.length aT) aa.1.Left,eRow (rI .i64) 3 (.slice aU aa.1.Right.length aV) aa.1.Right,eBox cB 30 [.slice aJ a8.1.Left.length aK,.slice aL a8.1.Right.length aM],eRow (rI .i64) 3 (.slice aJ a8.1.Left.length aK) a8.1.Left,eRow (rI .i64) 3 (.slice aL a8.1.Right.length aM) a8.1.Right,eBox cz 30 [.slice az a7.1.Left.length aA,.slice aC a7.1.Right.length aG],eRow (rI .i64) 3 (.slice az a7.1.Left.length aA) a7.1.Left,eRow (rI .i64) 3 (.slice aC a7.1.Right.length aG) a7.1.Right,eBox cq 30 [.slice au a6.1.Left.length av,.slice aw a6.1.Right.length ax],eRow (rI .i64) 3 (.slice au a6.1.Left.length av) a6.1.Left,eRow (rI .i64) 3 (.slice aw a6.1.Right.length ax) a6.1.Right,eBox co 30 [.slice al a2.1.Left.length am,.slice ao a2.1.Right.length ap],eRow (rI .i64) 3 (.slice al a2.1.Left.length am) a2.1.Left,eRow (rI .i64) 3 (.slice ao a2.1.Right.length ap) a2.1.Right,eBox dk 30 [.slice aO ag.1.Left.length aP,.slice aQ ag.1.Right.length aR],eRow (rI .i64) 3 (.slice aO ag.1.Left.length aP) ag.1.Left,eRow (rI .i64) 3 (.slice aQ ag.1.Right.length aR) ag.1.Right,eRow (rI .i64) 3 (.slice c9 aI.Left.length ca) aI.Left,eRow (rI .i64) 3 (.slice cb aI.Right.length cc) aI.Right,eRow (rI .i64) 3 (.slice c5 aH.Left.length c6) aH.Left,eRow (rI .i64) 3 (.slice c7 aH.Right.length c8) aH.Right,eRow (rI .i64) 3 (.slice bY ay.Left.length bZ) ay.Left,eRow (rI .i64) 3 (.slice c1 ay.Right.length c2) ay.Right,eRow (rI .i64) 3 (.slice bU ar.Left.length bV) ar.Left,eRow (rI .i64) 3 (.slice bW ar.Right.length bX) ar.Right,eRow (rI .i64) 3 (.slice bO aq.Left.length bP) aq.Left,eRow (rI .i64) 3 (.slice bQ aq.Right.length bR) aq.Right,eRow (rI .i64) 3 (.slice bJ ak.Left.length bK) ak.Left,eRow (rI .i64) 3 (.slice bL ak.Right.length bM) ak.Right,eRow (rI .i64) 3 (.slice bB aj.Left.length bC) aj.Left,eRow (rI .i64) 3 (.slice bD aj.Right.length bE) aj.Right,eRow (rI .i64) 3 (.slice bv ai.Left.length bw) ai.Left,eRow (rI .i64) 3 (.slice bx ai.Right.length bz) ai.Right,eRow (rI .i64) 3 (.slice cv r3.Left.length cw) r3.Left,eRow (rI .i64) 3 (.slice cx r3.Right.length cy) r3.Right] [fRep r_api_Piece (.agg #[.slice dl bT.Left.length dm,.slice dn bT.Right.length dp]) bT] [0,1,2,3,4,5,6,7,8,9,10,11,12,13,14,15,16,17,18,19,20,21,22,23,24,25,26,27,28,29,30,31,32,33,34,35,36,37,38,39,40,41,42,43,44,45,46,47,48,49,50,51] [0] S (wN d) d callee17 d (by decide) d d (fun E1 w1 S1=>c_piece_Chart_s0 E1 w1 bT (.agg #[.slice dl bT.Left.length dm,.slice dn bT.Right.length dp]) b1 eW S1) d (lb d) fun xx a w S=>?_
 obtain ⟨bl,bm⟩:=xx
 dsimp only at S
 refine sM S fun a S=>?_
 refine sExtract (vs:=[.agg #[iv b1.1.Start,.slice bl b1.1.Rows.length bm],iv b1.2]) (.agg #[iv b1.1.Start,.slice bl b1.1.Rows.length bm]) S (wN d) d d d d (lb d) fun a S=>sExtract (vs:=[.agg #[iv b1.1.Start,.slice bl b1.1.Rows.length bm],iv b1.2]) (iv b1.2) S (wN d) d d d d (lb d) fun a S=>sAlloc (.agg #[iv 0,.slice none 0 0]) S (wN d) d d [iv 0,.slice none 0 0] d d (lb d) fun a dz w S=>sStore (p:=dz) (off:=0) (T:=40) (vs:=[iv 0,.slice none 0 0]) (v:=.agg #[iv b1.1.Start,.slice bl b1.1.Rows.length bm]) 0 [iv b1.1.Start,.slice bl b1.1.Rows.length bm] S (wN d) d d d d d d d (by simp) d fun a w S=>sN S fun a S=>?_
 refine lT (gb _ _ (sSeq (fun hO gc=>sSeq (fun hP gd=>sRegion (sM S fun a S=>?_)))))
 refine sBin _ S (wN d) d d d (bNe _ _ _ _ .i64 b1.2 0) d (lb d) fun a S=>sM S fun a S=>?_
 rcases iS h with ⟨d9,h⟩ | ⟨d9,h⟩
 ·exact absurd d9 (by rw [hv_r218]; decide)
 refine sField (b:=dz) (off:=0) 1 1 S (wG 2 false 188 d d d d9) d d d d d (lb d) fun a S=>sLoad1 0 (.slice bl b1.1.Rows.length bm) S (wG 2 false 188 d d d d9) d d d d d d (lb d) fun a S=>sLen S (wG 2 false 188 d d d d9) d Tryd.underlying38 d d (lb d) fun a S=>sBin _ S (wG 2 false 188 d d d d9) d d d (bNe _ _ _ _ .i64 (b1.1.Rows.length:Int) 4) d (lb d) fun a S=>sPickF (.bool ((b1.1.Rows.length:Int) != 4)) S (wN d) d d d9 d d (lb d) fun a S=>lT (gd _ _ ?_)
 rcases iS h with ⟨es,h⟩ | ⟨es,h⟩
 ·refine sCondT S d es (sSeq (fun hQ ge=>sRegion (sN S fun a S=>?_)))
  refine lT (ge _ _ ?_)
  obtain rfl:=tS h
  exact wp_ret (rThen (sRet (.bool false) S (rsl1 d (rvT (t:=0) (v:=.bool false) S d)) ⟨(),d,S.mem.sel [] [] (by decide) d d⟩))
 refine sCondF S d es (wp_skip (leafT (gc _ _ ?_)))
 refine sSeq (fun hU gg=>sRegion (sField (b:=dz) (off:=0) 1 1 S (wN d) d d d d d (lb d) fun a S=>sLoad1 0 (.slice bl b1.1.Rows.length bm) S (wN d) d d d d d d (lb d) fun a S=>?_))
 obtain ⟨fk,et,h⟩:=bS h
 have hv_x229:fk=(api_Row.mk true [(api_Stitch.mk 4 true 2 0),(api_Stitch.mk 1 true 0 0),(api_Stitch.mk 1 true 0 0),(api_Stitch.mk 1 true 0 0),(api_Stitch.mk 1 true 0 0),(api_Stitch.mk 1 true 0 0),(api_Stitch.mk 1 true 0 0),(api_Stitch.mk 1 true 0 0),(api_Stitch.mk 1 true 0 0)]):=Option.some.inj (et.symm.trans (by rw [hv_r218]; kernel_rfl))
 obtain ⟨gz,gh,gi⟩:=pIdxR (P:=Tryd.prog) (r:=r_api_Row) (T:=54) (v:=.slice bl b1.1.Rows.length bm) (xs:=b1.1.Rows) (j:=0) 38 54 1 S Tryd.underlying38 d d et
 refine sIdxV S (wN d) d d d gh d (lb d) fun a S=>?_
 obtain ⟨gA,gj,gk⟩:=pFldR (P:=Tryd.prog) 54 0 0 gi d
 refine sFldV (q:=gz) S (wN d) d d gj d (lb d) fun a S=>?_
 obtain ⟨ci,eu,h⟩:=bS h
 have hv_l237:ci=[(api_Row.mk false [(api_Stitch.mk 4 true 2 0),(api_Stitch.mk 1 true 0 0),(api_Stitch.mk 1 true 0 0),(api_Stitch.mk 1 true 0 0),(api_Stitch.mk 1 true 0 0),(api_Stitch.mk 1 true 0 0),(api_Stitch.mk 1 true 0 0),(api_Stitch.mk 1 true 0 0),(api_Stitch.mk 1 true 0 0)]),(api_Row.mk false [(api_Stitch.mk 3 false 2 0),(api_Stitch.mk 1 false 0 0),(api_Stitch.mk 1 false 0 0),(api_Stitch.mk 1 false 0 0),(api_Stitch.mk 1 false 0 0),(api_Stitch.mk 1 false 0 0),(api_Stitch.mk 1 false 0 0),(api_Stitch.mk 1 false 0 0)]),(api_Row.mk true [(api_Stitch.mk 4 true 2 0),(api_Stitch.mk 1 true 0 0),(api_Stitch.mk 1 true 0 0),(api_Stitch.mk 1 true 0 0),(api_Stitch.mk 1 true 0 0),(api_Stitch.mk 1 true 0 0),(api_Stitch.mk 1 true 0 0)]),(api_Row.mk false [(api_Stitch.mk 3 false 2 0),(api_Stitch.mk 1 false 0 0),(api_Stitch.mk 1 false 0 0),(api_Stitch.mk 1 false 0 0),(api_Stitch.mk 1 false 0 0),(api_Stitch.mk 1 false 0 0)])]:=Option.some.inj (eu.symm.trans (by rw [hv_r218,hv_x229]; kernel_rfl))
 refine sStoreF (r:=r_api_Row) (s:=rB) (T:=54) (xs:=b1.1.Rows) (ys:=ci) (x:=fk) (y:=(api_Row.mk false fk.Cells)) (z:=false) (v:=.slice bl b1.1.Rows.length bm) (vq:=gA) (u:=.bool false) (j:=0) 1 0 S gk (wN d) d d d d d et (upd_api_Row_Back _ _) eu d d fun a w S=>?_
 rw [setO_v eu bl bm] at S
 refine lT (gg _ _ (sSeq (fun hZ gl=>sRegion (sLoadN (p:=dz) (off:=0) (T:=40) (vs:=[iv b1.1.Start,.slice bl ci.length bm]) 1 [iv b1.1.Start,.slice bl ci.length bm] S (wN d) d d d d d d d (lb d) fun a S=>?_))))
 obtain ⟨bt,eX,h⟩:=bS h
 have hv_r240:bt=((api_Piece.mk [] []),8):=Option.some.inj (eX.symm.trans (by rw [hv_r218,hv_l237]; exact kc_raddlelaw37_PieceNames_31))
 have S:=S.shutR (r:=r_api_Row) (T:=54) (v:=.slice bl ci.length bm) (xs:=ci) 0 d
 have S:=S.learn (fRep r_api_Chart (.agg #[iv b1.1.Start,.slice bl ci.length bm]) (api_Chart.mk b1.1.Start ci)) ⟨_,d,S.mem.know (i:=0) (e:=fRep (rL r_api_Row) (.slice bl ci.length bm) ci) d⟩
 refine sCall (X:=Value) (f:=18) (vs:=[.agg #[iv b1.1.Start,.slice bl ci.length bm],iv 0]) (val:=c_piece_Read_val bt) (B':=fun _=>[]) (D':=c_piece_Read_D bt) [] [eBox dz 40 [iv b1.1.Start,.slice bl ci.length bm],eBox dI 24 [.slice bF ah.1.Left.length bG,.slice bH ah.1.Right.length bI],eRow r_api_Point 35 (.slice bF ah.1.Left.length bG) ah.1.Left,eRow r_api_Point 35 (.slice bH ah.1.Right.length bI) ah.1.Right,eBox dy 24 [.slice bo af.1.Left.length bp,.slice bq af.1.Right.length br],eRow r_api_Point 35 (.slice bo af.1.Left.length bp) af.1.Left,eRow r_api_Point 35 (.slice bq af.1.Right.length br) af.1.Right,eBox dj 24 [.slice bg ae.1.Left.length bh,.slice bi ae.1.Right.length bj],eRow r_api_Point 35 (.slice bg ae.1.Left.length bh) ae.1.Left,eRow r_api_Point 35 (.slice bi ae.1.Right.length bj) ae.1.Right,eBox cC 24 [.slice aW ab.1.Left.length aX,.slice aZ ab.1.Right.length b0],eRow r_api_Point 35 (.slice aW ab.1.Left.length aX) ab.1.Left,eRow r_api_Point 35 (.slice aZ ab.1.Right.length b0) ab.1.Right,eBox cA 65 [iv 1,iv 10,iv 1,iv 10],eBox d8 30 [.slice ba ac.1.Left.length bb,.slice bc ac.1.Right.length bf],eRow (rI .i64) 3 (.slice ba ac.1.Left.length bb) ac.1.Left,eRow (rI .i64) 3 (.slice bc ac.1.Right.length bf) ac.1.Right,eBox cK 30 [.slice aS aa.1.Left.length aT,.slice aU aa.1.Right.length aV],eRow (rI .i64) 3 (.slice aS aa.1.Left.length aT) aa.1.Left,eRow (rI .i64) 3 (.slice aU aa.1.Right.length aV) aa.1.Right,eBox cB 30 [.slice aJ a8.1.Left.length aK,.slice aL a8.1.Right.length aM],eRow (rI .i64) 3 (.slice aJ a8.1.Left.length aK) a8.1.Left,eRow (rI .i64) 3 (.slice aL a8.1.Right.length aM) a8.1.Right,eBox cz 30 [.slice az a7.1.Left.length aA,.slice aC a7.1.Right.length aG],eRow (rI .i64) 3 (.slice az a7.1.Left.length aA) a7.1.Left,eRow (rI .i64) 3 (.slice aC a7.1.Right.length aG) a7.1.Right,eBox cq 30 [.slice au a6.1.Left.length av,.slice aw a6.1.Right.length ax],eRow (rI .i64) 3 (.slice au a6.1.Left.length av) a6.1.Left,eRow (rI .i64) 3 (.slice aw a6.1.Right.length ax) a6.1.Right,eBox co 30 [.slice al a2.1.Left.length am,.slice ao a2.1.Right.length ap],eRow (rI .i64) 3 (.slice al a2.1.Left.length am) a2.1.Left,eRow (rI .i64) 3 (.slice ao a2.1.Right.length ap) a2.1.Right,eBox dk 30 [.slice aO ag.1.Left.length aP,.slice aQ ag.1.Right.length aR],eRow (rI .i64) 3 (.slice aO ag.1.Left.length aP) ag.1.Left,eRow (rI .i64) 3 (.slice aQ ag.1.Right.length aR) ag.1.Right,eRow (rI .i64) 3 (.slice c9 aI.Left.length ca) aI.Left,eRow (rI .i64) 3 (.slice cb aI.Right.length cc) aI.Right,eRow (rI .i64) 3 (.slice c5 aH.Left.length c6) aH.Left,eRow (rI .i64) 3 (.slice c7 aH.Right.length c8) aH.Right,eRow (rI .i64) 3 (.slice bY ay.Left.length bZ) ay.Left,eRow (rI .i64) 3 (.slice c1 ay.Right.length c2) ay.Right,eRow (rI .i64) 3 (.slice bU ar.Left.length bV) ar.Left,eRow (rI .i64) 3 (.slice bW ar.Right.length bX) ar.Right,eRow (rI .i64) 3 (.slice bO aq.Left.length bP) aq.Left,eRow (rI .i64) 3 (.slice bQ aq.Right.length bR) aq.Right,eRow (rI .i64) 3 (.slice bJ ak.Left.length bK) ak.Left,eRow (rI .i64) 3 (.slice bL ak.Right.length bM) ak.Right,eRow (rI .i64) 3 (.slice bB aj.Left.length bC) aj.Left,eRow (rI .i64) 3 (.slice bD aj.Right.length bE) aj.Right,eRow (rI .i64) 3 (.slice bv ai.Left.length bw) ai.Left,eRow (rI .i64) 3 (.slice bx ai.Right.length bz) ai.Right,eRow (rI .i64) 3 (.slice cv r3.Left.length cw) r3.Left,eRow (rI .i64) 3 (.slice cx r3.Right.length cy) r3.Right] [fRep r_api_Chart (.agg #[iv b1.1.Start,.slice bl ci.length bm]) (api_Chart.mk b1.1.Start ci)] [0,1,2,3,4,5,6,7,8,9,10,11,12,13,14,15,16,17,18,19,20,21,22,23,24,25,26,27,28,29,30,31,32,33,34,35,36,37,38,39,40,41,42,43,44,45,46,47,48,49,50,51,52] [0] S (wN d) d callee18 d (by decide) d d (fun E1 w1 S1=>c_piece_Read E1 w1 (api_Chart.mk b1.1.Start ci) (.agg #[iv b1.1.Start,.slice bl ci.length bm]) 0 bt eX S1) d (lb d) fun gB a w S=>?_
 obtain ⟨gC,gD,rfl,eY,eZ⟩:=S.mem.know (i:=0) (e:=fRep r_api_Piece (gB) bt.1) d
 have S:=S.learn (fRep (rL (rI .i64)) gC bt.1.Left) eY
 obtain ⟨cD,cE,_,rfl,_⟩:=eY
 have S:=S.learn (fRep (rL (rI .i64)) gD bt.1.Right) eZ
 obtain ⟨cF,cG,_,rfl,_⟩:=eZ
 refine sM S fun a S=>?_
 refine sExtract (vs:=[.agg #[.slice cD bt.1.Left.length cE,.slice cF bt.1.Right.length cG],iv bt.2]) (.agg #[.slice cD bt.1.Left.length cE,.slice cF bt.1.Right.length cG]) S (wN d) d d d d (lb d) fun a S=>sExtract (vs:=[.agg #[.slice cD bt.1.Left.length cE,.slice cF bt.1.Right.length cG],iv bt.2]) (iv bt.2) S (wN d) d d d d (lb d) fun a S=>sAlloc (.agg #[.slice none 0 0,.slice none 0 0]) S (wN d) d d [.slice none 0 0,.slice none 0 0] d d (lb d) fun a ev w S=>sStore (p:=ev) (off:=0) (T:=30) (vs:=[.slice none 0 0,.slice none 0 0]) (v:=.agg #[.slice cD bt.1.Left.length cE,.slice cF bt.1.Right.length cG]) 0 [.slice cD bt.1.Left.length cE,.slice cF bt.1.Right.length cG] S (wN d) d d d d d d d (by simp) d fun a w S=>sN S fun a S=>?_
 refine lT (gl _ _ (sSeq (fun i0 gm=>sRegion (sBuild [(0,iv 0)] [iv 0,.slice none 0 0] S (wN d) d d d d (lb d) fun a S=>?_))))
 obtain ⟨bA,f0,h⟩:=bS h
 have hv_r253:bA=((api_Piece.mk [] []),8):=Option.some.inj (f0.symm.trans (by exact kc_raddlelaw37_PieceNames_32))
 have S:=S.learn (fRep (rL r_api_Row) (.slice none 0 0) ([]:(List api_Row))) (rL_nil _ _ _)
 have S:=S.learn (fRep r_api_Chart (.agg #[iv 0,.slice none 0 0]) (api_Chart.mk 0 ([]:(List api_Row)))) ⟨_,d,S.mem.know (i:=0) (e:=fRep (rL r_api_Row) (.slice none 0 0) ([]:(List api_Row))) d⟩
 refine sCall (X:=Value) (f:=18) (vs:=[.agg #[iv 0,.slice none 0 0],iv 0]) (val:=c_piece_Read_val bA) (B':=fun _=>[]) (D':=c_piece_Read_D bA) [] [eBox ev 30 [.slice cD bt.1.Left.length cE,.slice cF bt.1.Right.length cG],eBox dz 40 [iv b1.1.Start,.slice bl ci.length bm],eBox dI 24 [.slice bF ah.1.Left.length bG,.slice bH ah.1.Right.length bI],eRow r_api_Point 35 (.slice bF ah.1.Left.length bG) ah.1.Left,eRow r_api_Point 35 (.slice bH ah.1.Right.length bI) ah.1.Right,eBox dy 24 [.slice bo af.1.Left.length bp,.slice bq af.1.Right.length br],eRow r_api_Point 35 (.slice bo af.1.Left.length bp) af.1.Left,eRow r_api_Point 35 (.slice bq af.1.Right.length br) af.1.Right,eBox dj 24 [.slice bg ae.1.Left.length bh,.slice bi ae.1.Right.length bj],eRow r_api_Point 35 (.slice bg ae.1.Left.length bh) ae.1.Left,eRow r_api_Point 35 (.slice bi ae.1.Right.length bj) ae.1.Right,eBox cC 24 [.slice aW ab.1.Left.length aX,.slice aZ ab.1.Right.length b0],eRow r_api_Point 35 (.slice aW ab.1.Left.length aX) ab.1.Left,eRow r_api_Point 35 (.slice aZ ab.1.Right.length b0) ab.1.Right,eBox cA 65 [iv 1,iv 10,iv 1,iv 10],eBox d8 30 [.slice ba ac.1.Left.length bb,.slice bc ac.1.Right.length bf],eRow (rI .i64) 3 (.slice ba ac.1.Left.length bb) ac.1.Left,eRow (rI .i64) 3 (.slice bc ac.1.Right.length bf) ac.1.Right,eBox cK 30 [.slice aS aa.1.Left.length aT,.slice aU aa.1.Right.length aV],eRow (rI .i64) 3 (.slice aS aa.1.Left.length aT) aa.1.Left,eRow (rI .i64) 3 (.slice aU aa.1.Right.length aV) aa.1.Right,eBox cB 30 [.slice aJ a8.1.Left.length aK,.slice aL a8.1.Right.length aM],eRow (rI .i64) 3 (.slice aJ a8.1.Left.length aK) a8.1.Left,eRow (rI .i64) 3 (.slice aL a8.1.Right.length aM) a8.1.Right,eBox cz 30 [.slice az a7.1.Left.length aA,.slice aC a7.1.Right.length aG],eRow (rI .i64) 3 (.slice az a7.1.Left.length aA) a7.1.Left,eRow (rI .i64) 3 (.slice aC a7.1.Right.length aG) a7.1.Right,eBox cq 30 [.slice au a6.1.Left.length av,.slice aw a6.1.Right.length ax],eRow (rI .i64) 3 (.slice au a6.1.Left.length av) a6.1.Left,eRow (rI .i64) 3 (.slice aw a6.1.Right.length ax) a6.1.Right,eBox co 30 [.slice al a2.1.Left.length am,.slice ao a2.1.Right.length ap],eRow (rI .i64) 3 (.slice al a2.1.Left.length am) a2.1.Left,eRow (rI .i64) 3 (.slice ao a2.1.Right.length ap) a2.1.Right,eBox dk 30 [.slice aO ag.1.Left.length aP,.slice aQ ag.1.Right.length aR],eRow (rI .i64) 3 (.slice aO ag.1.Left.length aP) ag.1.Left,eRow (rI .i64) 3 (.slice aQ ag.1.Right.length aR) ag.1.Right,eRow (rI .i64) 3 (.slice c9 aI.Left.length ca) aI.Left,eRow (rI .i64) 3 (.slice cb aI.Right.length cc) aI.Right,eRow (rI .i64) 3 (.slice c5 aH.Left.length c6) aH.Left,eRow (rI .i64) 3 (.slice c7 aH.Right.length c8) aH.Right,eRow (rI .i64) 3 (.slice bY ay.Left.length bZ) ay.Left,eRow (rI .i64) 3 (.slice c1 ay.Right.length c2) ay.Right,eRow (rI .i64) 3 (.slice bU ar.Left.length bV) ar.Left,eRow (rI .i64) 3 (.slice bW ar.Right.length bX) ar.Right,eRow (rI .i64) 3 (.slice bO aq.Left.length bP) aq.Left,eRow (rI .i64) 3 (.slice bQ aq.Right.length bR) aq.Right,eRow (rI .i64) 3 (.slice bJ ak.Left.length bK) ak.Left,eRow (rI .i64) 3 (.slice bL ak.Right.length bM) ak.Right,eRow (rI .i64) 3 (.slice bB aj.Left.length bC) aj.Left,eRow (rI .i64) 3 (.slice bD aj.Right.length bE) aj.Right,eRow (rI .i64) 3 (.slice bv ai.Left.length bw) ai.Left,eRow (rI .i64) 3 (.slice bx ai.Right.length bz) ai.Right,eRow (rI .i64) 3 (.slice cv r3.Left.length cw) r3.Left,eRow (rI .i64) 3 (.slice cx r3.Right.length cy) r3.Right] [fRep r_api_Chart (.agg #[iv 0,.slice none 0 0]) (api_Chart.mk 0 ([]:(List api_Row)))] [0,1,2,3,4,5,6,7,8,9,10,11,12,13,14,15,16,17,18,19,20,21,22,23,24,25,26,27,28,29,30,31,32,33,34,35,36,37,38,39,40,41,42,43,44,45,46,47,48,49,50,51,52,53] [0] S (wN d) d callee18 d (by decide) d d (fun E1 w1 S1=>c_piece_Read E1 w1 (api_Chart.mk 0 ([]:(List api_Row))) (.agg #[iv 0,.slice none 0 0]) 0 bA f0 S1) d (lb d) fun gE a w S=>?_
 obtain ⟨gF,gG,rfl,f1,f2⟩:=S.mem.know (i:=0) (e:=fRep r_api_Piece (gE) bA.1) d
 have S:=S.learn (fRep (rL (rI .i64)) gF bA.1.Left) f1
 obtain ⟨d1,d3,_,rfl,_⟩:=f1
 have S:=S.learn (fRep (rL (rI .i64)) gG bA.1.Right) f2
 obtain ⟨d4,d5,_,rfl,_⟩:=f2
 refine sM S fun a S=>?_
 refine sExtract (vs:=[.agg #[.slice d1 bA.1.Left.length d3,.slice d4 bA.1.Right.length d5],iv bA.2]) (.agg #[.slice d1 bA.1.Left.length d3,.slice d4 bA.1.Right.length d5]) S (wN d) d d d d (lb d) fun a S=>sExtract (vs:=[.agg #[.slice d1 bA.1.Left.length d3,.slice d4 bA.1.Right.length d5],iv bA.2]) (iv bA.2) S (wN d) d d d d (lb d) fun a S=>sAlloc (.agg #[.slice none 0 0,.slice none 0 0]) S (wN d) d d [.slice none 0 0,.slice none 0 0] d d (lb d) fun a eG w S=>sStore (p:=eG) (off:=0) (T:=30) (vs:=[.slice none 0 0,.slice none 0 0]) (v:=.agg #[.slice d1 bA.1.Left.length d3,.slice d4 bA.1.Right.length d5]) 0 [.slice d1 bA.1.Left.length d3,.slice d4 bA.1.Right.length d5] S (wN d) d d d d d d d (by simp) d fun a w S=>sN S fun a S=>?_
 refine lT (gm _ _ (sSeq (fun i1 gn=>sRegion (sBuild [(0,iv 200)] [iv 200,.slice none 0 0] S (wN d) d d d d (lb d) fun a S=>?_))))
 obtain ⟨bn,f3,h⟩:=bS h
 have hv_r266:bn=((api_Piece.mk [300] [500]),0):=Option.some.inj (f3.symm.trans (by exact kc_raddlelaw37_PieceNames_33))
 have S:=S.learn (fRep r_api_Chart (.agg #[iv 200,.slice none 0 0]) (api_Chart.mk 200 ([]:(List api_Row)))) ⟨_,d,S.mem.know (i:=4) (e:=fRep (rL r_api_Row) (.slice none 0 0) ([]:(List api_Row))) d⟩
 refine sCall (X:=Value) (f:=18) (vs:=[.agg #[iv 200,.slice none 0 0],iv 300]) (val:=c_piece_Read_val bn) (B':=fun _=>[]) (D':=c_piece_Read_D bn) [] [eBox eG 30 [.slice d1 bA.1.Left.length d3,.slice d4 bA.1.Right.length d5],eBox ev 30 [.slice cD bt.1.Left.length cE,.slice cF bt.1.Right.length cG],eBox dz 40 [iv b1.1.Start,.slice bl ci.length bm],eBox dI 24 [.slice bF ah.1.Left.length bG,.slice bH ah.1.Right.length bI],eRow r_api_Point 35 (.slice bF ah.1.Left.length bG) ah.1.Left,eRow r_api_Point 35 (.slice bH ah.1.Right.length bI) ah.1.Right,eBox dy 24 [.slice bo af.1.Left.length bp,.slice bq af.1.Right.length br],eRow r_api_Point 35 (.slice bo af.1.Left.length bp) af.1.Left,eRow r_api_Point 35 (.slice bq af.1.Right.length br) af.1.Right,eBox dj 24 [.slice bg ae.1.Left.length bh,.slice bi ae.1.Right.length bj],eRow r_api_Point 35 (.slice bg ae.1.Left.length bh) ae.1.Left,eRow r_api_Point 35 (.slice bi ae.1.Right.length bj) ae.1.Right,eBox cC 24 [.slice aW ab.1.Left.length aX,.slice aZ ab.1.Right.length b0],eRow r_api_Point 35 (.slice aW ab.1.Left.length aX) ab.1.Left,eRow r_api_Point 35 (.slice aZ ab.1.Right.length b0) ab.1.Right,eBox cA 65 [iv 1,iv 10,iv 1,iv 10],eBox d8 30 [.slice ba ac.1.Left.length bb,.slice bc ac.1.Right.length bf],eRow (rI .i64) 3 (.slice ba ac.1.Left.length bb) ac.1.Left,eRow (rI .i64) 3 (.slice bc ac.1.Right.length bf) ac.1.Right,eBox cK 30 [.slice aS aa.1.Left.length aT,.slice aU aa.1.Right.length aV],eRow (rI .i64) 3 (.slice aS aa.1.Left.length aT) aa.1.Left,eRow (rI .i64) 3 (.slice aU aa.1.Right.length aV) aa.1.Right,eBox cB 30 [.slice aJ a8.1.Left.length aK,.slice aL a8.1.Right.length aM],eRow (rI .i64) 3 (.slice aJ a8.1.Left.length aK) a8.1.Left,eRow (rI .i64) 3 (.slice aL a8.1.Right.length aM) a8.1.Right,eBox cz 30 [.slice az a7.1.Left.length aA,.slice aC a7.1.Right.length aG],eRow (rI .i64) 3 (.slice az a7.1.Left.length aA) a7.1.Left,eRow (rI .i64) 3 (.slice aC a7.1.Right.length aG) a7.1.Right,eBox cq 30 [.slice au a6.1.Left.length av,.slice aw a6.1.Right.length ax],eRow (rI .i64) 3 (.slice au a6.1.Left.length av) a6.1.Left,eRow (rI .i64) 3 (.slice aw a6.1.Right.length ax) a6.1.Right,eBox co 30 [.slice al a2.1.Left.length am,.slice ao a2.1.Right.length ap],eRow (rI .i64) 3 (.slice al a2.1.Left.length am) a2.1.Left,eRow (rI .i64) 3 (.slice ao a2.1.Right.length ap) a2.1.Right,eBox dk 30 [.slice aO ag.1.Left.length aP,.slice aQ ag.1.Right.length aR],eRow (rI .i64) 3 (.slice aO ag.1.Left.length aP) ag.1.Left,eRow (rI .i64) 3 (.slice aQ ag.1.Right.length aR) ag.1.Right,eRow (rI .i64) 3 (.slice c9 aI.Left.length ca) aI.Left,eRow (rI .i64) 3 (.slice cb aI.Right.length cc) aI.Right,eRow (rI .i64) 3 (.slice c5 aH.Left.length c6) aH.Left,eRow (rI .i64) 3 (.slice c7 aH.Right.length c8) aH.Right,eRow (rI .i64) 3 (.slice bY ay.Left.length bZ) ay.Left,eRow (rI .i64) 3 (.slice c1 ay.Right.length c2) ay.Right,eRow (rI .i64) 3 (.slice bU ar.Left.length bV) ar.Left,eRow (rI .i64) 3 (.slice bW ar.Right.length bX) ar.Right,eRow (rI .i64) 3 (.slice bO aq.Left.length bP) aq.Left,eRow (rI .i64) 3 (.slice bQ aq.Right.length bR) aq.Right,eRow (rI .i64) 3 (.slice bJ ak.Left.length bK) ak.Left,eRow (rI .i64) 3 (.slice bL ak.Right.length bM) ak.Right,eRow (rI .i64) 3 (.slice bB aj.Left.length bC) aj.Left,eRow (rI .i64) 3 (.slice bD aj.Right.length bE) aj.Right,eRow (rI .i64) 3 (.slice bv ai.Left.length bw) ai.Left,eRow (rI .i64) 3 (.slice bx ai.Right.length bz) ai.Right,eRow (rI .i64) 3 (.slice cv r3.Left.length cw) r3.Left,eRow (rI .i64) 3 (.slice cx r3.Right.length cy) r3.Right] [fRep r_api_Chart (.agg #[iv 200,.slice none 0 0]) (api_Chart.mk 200 ([]:(List api_Row)))] [0,1,2,3,4,5,6,7,8,9,10,11,12,13,14,15,16,17,18,19,20,21,22,23,24,25,26,27,28,29,30,31,32,33,34,35,36,37,38,39,40,41,42,43,44,45,46,47,48,49,50,51,52,53,54] [0] S (wN d) d callee18 d (by decide) d d (fun E1 w1 S1=>c_piece_Read E1 w1 (api_Chart.mk 200 ([]:(List api_Row))) (.agg #[iv 200,.slice none 0 0]) 300 bn f3 S1) d (lb d) fun gH a w S=>?_
 obtain ⟨gI,gJ,rfl,f4,f5⟩:=S.mem.know (i:=0) (e:=fRep r_api_Piece (gH) bn.1) d
 have S:=S.learn (fRep (rL (rI .i64)) gI bn.1.Left) f4
 obtain ⟨da,db,_,rfl,_⟩:=f4
 have S:=S.learn (fRep (rL (rI .i64)) gJ bn.1.Right) f5
 obtain ⟨cr,ct,_,rfl,_⟩:=f5
 refine sM S fun a S=>?_
 refine sExtract (vs:=[.agg #[.slice da bn.1.Left.length db,.slice cr bn.1.Right.length ct],iv bn.2]) (.agg #[.slice da bn.1.Left.length db,.slice cr bn.1.Right.length ct]) S (wN d) d d d d (lb d) fun a S=>sExtract (vs:=[.agg #[.slice da bn.1.Left.length db,.slice cr bn.1.Right.length ct],iv bn.2]) (iv bn.2) S (wN d) d d d d (lb d) fun a S=>sAlloc (.agg #[.slice none 0 0,.slice none 0 0]) S (wN d) d d [.slice none 0 0,.slice none 0 0] d d (lb d) fun a er w S=>sStore (p:=er) (off:=0) (T:=30) (vs:=[.slice none 0 0,.slice none 0 0]) (v:=.agg #[.slice da bn.1.Left.length db,.slice cr bn.1.Right.length ct]) 0 [.slice da bn.1.Left.length db,.slice cr bn.1.Right.length ct] S (wN d) d d d d d d d (by simp) d fun a w S=>sN S fun a S=>?_
 refine lT (gn _ _ (sSeq (fun i3 gp=>sRegion (sBuild [(0,iv 200)] [iv 200,.slice none 0 0] S (wN d) d d d d (lb d) fun a S=>?_))))
 obtain ⟨bN,f6,h⟩:=bS h
 have hv_r279:bN=((api_Piece.mk [] []),8):=Option.some.inj (f6.symm.trans (by exact kc_raddlelaw37_PieceNames_34))
 refine sCall (X:=Value) (f:=18) (vs:=[.agg #[iv 200,.slice none 0 0],iv 301]) (val:=c_piece_Read_val bN) (B':=fun _=>[]) (D':=c_piece_Read_D bN) [] [eBox er 30 [.slice da bn.1.Left.length db,.slice cr bn.1.Right.length ct],eBox eG 30 [.slice d1 bA.1.Left.length d3,.slice d4 bA.1.Right.length d5],eBox ev 30 [.slice cD bt.1.Left.length cE,.slice cF bt.1.Right.length cG],eBox dz 40 [iv b1.1.Start,.slice bl ci.length bm],eBox dI 24 [.slice bF ah.1.Left.length bG,.slice bH ah.1.Right.length bI],eRow r_api_Point 35 (.slice bF ah.1.Left.length bG) ah.1.Left,eRow r_api_Point 35 (.slice bH ah.1.Right.length bI) ah.1.Right,eBox dy 24 [.slice bo af.1.Left.length bp,.slice bq af.1.Right.length br],eRow r_api_Point 35 (.slice bo af.1.Left.length bp) af.1.Left,eRow r_api_Point 35 (.slice bq af.1.Right.length br) af.1.Right,eBox dj 24 [.slice bg ae.1.Left.length bh,.slice bi ae.1.Right.length bj],eRow r_api_Point 35 (.slice bg ae.1.Left.length bh) ae.1.Left,eRow r_api_Point 35 (.slice bi ae.1.Right.length bj) ae.1.Right,eBox cC 24 [.slice aW ab.1.Left.length aX,.slice aZ ab.1.Right.length b0],eRow r_api_Point 35 (.slice aW ab.1.Left.length aX) ab.1.Left,eRow r_api_Point 35 (.slice aZ ab.1.Right.length b0) ab.1.Right,eBox cA 65 [iv 1,iv 10,iv 1,iv 10],eBox d8 30 [.slice ba ac.1.Left.length bb,.slice bc ac.1.Right.length bf],eRow (rI .i64) 3 (.slice ba ac.1.Left.length bb) ac.1.Left,eRow (rI .i64) 3 (.slice bc ac.1.Right.length bf) ac.1.Right,eBox cK 30 [.slice aS aa.1.Left.length aT,.slice aU aa.1.Right.length aV],eRow (rI .i64) 3 (.slice aS aa.1.Left.length aT) aa.1.Left,eRow (rI .i64) 3 (.slice aU aa.1.Right.length aV) aa.1.Right,eBox cB 30 [.slice aJ a8.1.Left.length aK,.slice aL a8.1.Right.length aM],eRow (rI .i64) 3 (.slice aJ a8.1.Left.length aK) a8.1.Left,eRow (rI .i64) 3 (.slice aL a8.1.Right.length aM) a8.1.Right,eBox cz 30 [.slice az a7.1.Left.length aA,.slice aC a7.1.Right.length aG],eRow (rI .i64) 3 (.slice az a7.1.Left.length aA) a7.1.Left,eRow (rI .i64) 3 (.slice aC a7.1.Right.length aG) a7.1.Right,eBox cq 30 [.slice au a6.1.Left.length av,.slice aw a6.1.Right.length ax],eRow (rI .i64) 3 (.slice au a6.1.Left.length av) a6.1.Left,eRow (rI .i64) 3 (.slice aw a6.1.Right.length ax) a6.1.Right,eBox co 30 [.slice al a2.1.Left.length am,.slice ao a2.1.Right.length ap],eRow (rI .i64) 3 (.slice al a2.1.Left.length am) a2.1.Left,eRow (rI .i64) 3 (.slice ao a2.1.Right.length ap) a2.1.Right,eBox dk 30 [.slice aO ag.1.Left.length aP,.slice aQ ag.1.Right.length aR],eRow (rI .i64) 3 (.slice aO ag.1.Left.length aP) ag.1.Left,eRow (rI .i64) 3 (.slice aQ ag.1.Right.length aR) ag.1.Right,eRow (rI .i64) 3 (.slice c9 aI.Left.length ca) aI.Left,eRow (rI .i64) 3 (.slice cb aI.Right.length cc) aI.Right,eRow (rI .i64) 3 (.slice c5 aH.Left.length c6) aH.Left,eRow (rI .i64) 3 (.slice c7 aH.Right.length c8) aH.Right,eRow (rI .i64) 3 (.slice bY ay.Left.length bZ) ay.Left,eRow (rI .i64) 3 (.slice c1 ay.Right.length c2) ay.Right,eRow (rI .i64) 3 (.slice bU ar.Left.length bV) ar.Left,eRow (rI .i64) 3 (.slice bW ar.Right.length bX) ar.Right,eRow (rI .i64) 3 (.slice bO aq.Left.length bP) aq.Left,eRow (rI .i64) 3 (.slice bQ aq.Right.length bR) aq.Right,eRow (rI .i64) 3 (.slice bJ ak.Left.length bK) ak.Left,eRow (rI .i64) 3 (.slice bL ak.Right.length bM) ak.Right,eRow (rI .i64) 3 (.slice bB aj.Left.length bC) aj.Left,eRow (rI .i64) 3 (.slice bD aj.Right.length bE) aj.Right,eRow (rI .i64) 3 (.slice bv ai.Left.length bw) ai.Left,eRow (rI .i64) 3 (.slice bx ai.Right.length bz) ai.Right,eRow (rI .i64) 3 (.slice cv r3.Left.length cw) r3.Left,eRow (rI .i64) 3 (.slice cx r3.Right.length cy) r3.Right] [fRep r_api_Chart (.agg #[iv 200,.slice none 0 0]) (api_Chart.mk 200 ([]:(List api_Row)))] [0,1,2,3,4,5,6,7,8,9,10,11,12,13,14,15,16,17,18,19,20,21,22,23,24,25,26,27,28,29,30,31,32,33,34,35,36,37,38,39,40,41,42,43,44,45,46,47,48,49,50,51,52,53,54,55] [3] S (wN d) d callee18 d (by decide) d d (fun E1 w1 S1=>c_piece_Read E1 w1 (api_Chart.mk 200 ([]:(List api_Row))) (.agg #[iv 200,.slice none 0 0]) 301 bN f6 S1) d (lb d) fun gK a w S=>?_
 obtain ⟨gL,gM,rfl,f8,f9⟩:=S.mem.know (i:=0) (e:=fRep r_api_Piece (gK) bN.1) d
 have S:=S.learn (fRep (rL (rI .i64)) gL bN.1.Left) f8
 obtain ⟨dr,dt,_,rfl,_⟩:=f8
 have S:=S.learn (fRep (rL (rI .i64)) gM bN.1.Right) f9
 obtain ⟨du,dv,_,rfl,_⟩:=f9
 refine sM S fun a S=>?_
 refine sExtract (vs:=[.agg #[.slice dr bN.1.Left.length dt,.slice du bN.1.Right.length dv],iv bN.2]) (.agg #[.slice dr bN.1.Left.length dt,.slice du bN.1.Right.length dv]) S (wN d) d d d d (lb d) fun a S=>sExtract (vs:=[.agg #[.slice dr bN.1.Left.length dt,.slice du bN.1.Right.length dv],iv bN.2]) (iv bN.2) S (wN d) d d d d (lb d) fun a S=>sAlloc (.agg #[.slice none 0 0,.slice none 0 0]) S (wN d) d d [.slice none 0 0,.slice none 0 0] d d (lb d) fun a gq w S=>sStore (p:=gq) (off:=0) (T:=30) (vs:=[.slice none 0 0,.slice none 0 0]) (v:=.agg #[.slice dr bN.1.Left.length dt,.slice du bN.1.Right.length dv]) 0 [.slice dr bN.1.Left.length dt,.slice du bN.1.Right.length dv] S (wN d) d d d d d d d (by simp) d fun a w S=>sN S fun a S=>?_
 refine lT (gp _ _ (sSeq (fun i4 gr=>?_)))
 obtain ⟨dJ,fa,h⟩:=bS h
 have hv_r292:dJ=8:=Option.some.inj (fa.symm.trans (by exact kc_raddlelaw37_PieceNames_35))
 rcases iS h with ⟨dw,h⟩ | ⟨dw,h⟩
 rotate_left
 ·exact absurd dw (by rw [hv_r292]; decide)
 obtain ⟨bu,fb,h⟩:=bS h
 have hv_r295:bu=(api_Piece.mk [0,1] [1,1]):=Option.some.inj (fb.symm.trans (by exact kc_raddlelaw37_PieceNames_36))
 obtain ⟨cH,fc,h⟩:=bS h
 have hv_r301:cH=8:=Option.some.inj (fc.symm.trans (by rw [hv_r295]; exact kc_raddlelaw37_PieceNames_37))
 rcases iS h with ⟨dc,h⟩ | ⟨dc,h⟩
 rotate_left
 ·exact absurd dc (by rw [hv_r301]; decide)
 obtain ⟨cp,fd,h⟩:=bS h
 have hv_r306:cp=8:=Option.some.inj (fd.symm.trans (by exact kc_raddlelaw37_PieceNames_38))
 rcases iS h with ⟨cu,h⟩ | ⟨cu,h⟩
 rotate_left
 ·exact absurd cu (by rw [hv_r306]; decide)
 obtain ⟨b8,dK,h⟩:=bS h
 have hv_m311:b8=[0,0,0,0,0,0,0,0,0,0,0,0,0,0,0,0,0,0,0,0,0,0,0,0,0,0,0,0,0,0,0,0,0,0,0,0,0,0,0,0,0,0,0,0,0,0,0,0,0,0,0,0,0,0,0,0,0,0,0,0,0,0,0,0,0,0,0,0,0,0,0,0,0,0,0,0,0,0,0,0,0,0,0,0,0,0,0,0,0,0,0,0,0,0,0,0,0,0,0,0,0]:=Option.some.inj (dK.symm.trans (by kernel_rfl))
 obtain ⟨cj,fe,h⟩:=bS h
 have hv_r315:cj=8:=Option.some.inj (fe.symm.trans (by rw [hv_m311]; exact kc_raddlelaw37_PieceNames_39))
 refine sDraw (nf:=[4,9,15,16]) (W:=[(0,218,.agg #[.slice none 0 0,.slice none 0 0]),(1,219,iv dJ),(2,220,.bool (dJ == 8)),(3,221,.bool (dJ == 8))]) d S ?_
 refine nodeCut (fun N W L D=>∀ cd ce cf cg c3 c4 ck cl cm cn,N [16,15,9,4] ((17,235,.agg #[.slice cd b8.length ce,.slice cf b8.length cg]) :: (18,236,iv cj) :: (19,237,.bool (cj == 8)) :: (20,238,.bool (cj == 8)) :: (21,35,.bool (cj == 8)) :: (16,234,.slice cf b8.length cg) :: (15,233,.slice cd b8.length ce) :: (10,228,.agg #[.slice c3 ([0]:List Int).length c4,.slice none 0 0]) :: (11,229,iv cp) :: (12,230,.bool (cp == 8)) :: (13,231,.bool (cp == 8)) :: (14,232,.bool (cp == 8)) :: (9,227,.slice c3 ([0]:List Int).length c4) :: (5,223,iv cH) :: (6,224,.bool (cH == 8)) :: (7,225,.bool (cH == 8)) :: (8,226,.bool (cH == 8)) :: (4,222,.agg #[.slice ck bu.Left.length cl,.slice cm bu.Right.length cn]) :: W) ((eRow (rI .i64) 3 (.slice cf b8.length cg) b8) :: (eRow (rI .i64) 3 (.slice cd b8.length ce) b8) :: (eRow (rI .i64) 3 (.slice c3 ([0]:List Int).length c4) ([0]:List Int)) :: (eRow (rI .i64) 3 (.slice ck bu.Left.length cl) bu.Left) :: (eRow (rI .i64) 3 (.slice cm bu.Right.length cn) bu.Right) :: L) (D)) (fun cd ce cf cg c3 c4 ck cl cm cn=>?_) fun nd1=>?_
 ·refine node_by (A:=anc_raddlelaw37_PieceNames_0) 22 (by kernel_rfl) (by kernel_rfl) (by kernel_rfl) (by kernel_rfl) (by kernel_rfl) [17,18,19,20,21,16,15,10,11,12,13,14,9,5,6,7,8,4,0,1,2,3] (by kernel_rfl) (by decide) (by decide) (fD 16 (fD 16 (fD 16 (fD 16 (fY (fD 16 (fD 16 (fD 16 (fD 16 (fY (fD 16 (fD 16 (fD 16 (fD 16 (fD 16 (fY (fY (fF ?_ (fF ?_ (fF ?_ (fF ?_ (fF ?_ (trivial))))))))))))))))))))))) [(1,.bool (eK == (⟨#[112,32,111,110,52]⟩:ByteArray))),(2,.pointer (some ⟨dk,0,none⟩)),(3,iv ag.2),(5,iv a2.2),(7,iv a6.2),(9,iv a7.2),(11,iv a8.2),(13,iv aa.2),(15,iv ac.2),(17,.pointer (some ⟨cC,0,none⟩)),(18,iv ab.2),(20,iv ae.2),(22,iv af.2),(24,iv ah.2),(28,iv bt.2),(30,iv bA.2),(31,.pointer (some ⟨er,0,none⟩)),(32,iv bn.2),(34,iv bN.2),(35,.bool (cj == 8))] (fin_of [none,none,none,none,none,none,none,none,none,none,none,none,none,none,none,none,none,none,none,some 4] d (by kernel_rfl) (by kernel_rfl)) (fun _ a w S=>?_)
  ·refine fJ [(233,_),(234,_),(232,_)] 0 [some 6,some 5,some 11] fun G a w S=>?_
   exact sBuild [(0,.slice cd b8.length ce),(1,.slice cf b8.length cg)] [.slice cd b8.length ce,.slice cf b8.length cg] S (wG 14 true 232 d d d cu) d d d d (lb d) fun a S=>leafL ⟨d,S⟩
  ·refine fJ [(235,_),(232,_)] 1 [some 0,some 11] fun G a w S=>?_
   have S1:=S.mem
   have S1:=S1.shutR (r:=(rI .i64)) (T:=3) (v:=.slice cd b8.length ce) (xs:=b8) 1 d
   have S1:=S1.shutR (r:=(rI .i64)) (T:=3) (v:=.slice cf b8.length cg) (xs:=b8) 0 d
   have S1:=S1.learn (fRep r_api_Piece (.agg #[.slice cd b8.length ce,.slice cf b8.length cg]) (api_Piece.mk b8 b8)) ⟨_,_,d,S1.know (i:=1) (e:=fRep (rL (rI .i64)) (.slice cd b8.length ce) b8) d,S1.know (i:=0) (e:=fRep (rL (rI .i64)) (.slice cf b8.length cg) b8) d⟩
   refine sCallQ (X:=Unit) (f:=13) (vs:=[.agg #[.slice cd b8.length ce,.slice cf b8.length cg]]) (val:=fun _=>iv cj) S (wG 14 true 232 d d d cu) d callee13 d (S1.quiet [0] d) (fun E1 w1 S1=>c_piece_Check E1 w1 (api_Piece.mk b8 b8) (.agg #[.slice cd b8.length ce,.slice cf b8.length cg]) cj fe S1) d (lb d) fun _ a w S=>?_
   exact leafL ⟨d,S⟩
  ·refine fJ [(236,_),(232,_)] 2 [some 1,some 11] fun G a w S=>?_
   exact sBin _ S (wG 14 true 232 d d d cu) d d d (bEq _ _ _ _ .i64 cj 8) d (lb d) fun a S=>leafL ⟨d,S⟩
  ·refine fJ [(232,_),(237,_)] 3 [some 11,some 2] fun G a w S=>?_
   exact sPickT (.bool (cj == 8)) S (wN d) d d cu d d (lb d) fun a S=>leafL ⟨d,S⟩
  ·exact fM 4 (some 3) d d d d (.inr d) d d d
  refine leafT (gr _ _ ?_)
  refine sSeq (fun i5 gt=>sRegion (sM S fun a S=>?_))
  refine sBin _ S (wN d) d d d (bEq _ _ _ _ .i64 a2.2 16) d (lb d) fun a S=>sM S fun a S=>?_
  rcases iS h with ⟨dL,h⟩ | ⟨dL,h⟩
  rotate_left
  ·exact absurd dL (by rw [hv_r100]; decide)
  refine sMove (iv a6.2) S (wG 2 true 241 d d d dL) (.inl d) d d (lb d) fun a S=>sBin _ S (wG 2 true 241 d d d dL) d d d (bEq _ _ _ _ .i64 a6.2 16) d (lb d) fun a S=>sPickT (.bool (a6.2 == 16)) S (wN d) d d dL d d (lb d) fun a S=>sM S fun a S=>?_
  rcases iS h with ⟨dM,h⟩ | ⟨dM,h⟩
  rotate_left
  ·exact absurd dM (by rw [hv_r112]; decide)
  refine sMove (iv a7.2) S (wG 6 true 245 d d d dM) (.inl d) d d (lb d) fun a S=>sBin _ S (wG 6 true 245 d d d dM) d d d (bEq _ _ _ _ .i64 a7.2 8) d (lb d) fun a S=>sPickT (.bool (a7.2 == 8)) S (wN d) d d dM d d (lb d) fun a S=>sM S fun a S=>?_
  rcases iS h with ⟨dN,h⟩ | ⟨dN,h⟩
  rotate_left
  ·exact absurd dN (by rw [hv_r124]; decide)
  refine sMove (iv a8.2) S (wG 10 true 249 d d d dN) (.inl d) d d (lb d) fun a S=>sBin _ S (wG 10 true 249 d d d dN) d d d (bEq _ _ _ _ .i64 a8.2 8) d (lb d) fun a S=>sPickT (.bool (a8.2 == 8)) S (wN d) d d dN d d (lb d) fun a S=>sM S fun a S=>?_
  rcases iS h with ⟨dO,h⟩ | ⟨dO,h⟩
  rotate_left
  ·exact absurd dO (by rw [hv_r136]; decide)
  refine sMove (iv aa.2) S (wG 14 true 253 d d d dO) (.inl d) d d (lb d) fun a S=>sBin _ S (wG 14 true 253 d d d dO) d d d (bEq _ _ _ _ .i64 aa.2 8) d (lb d) fun a S=>sPickT (.bool (aa.2 == 8)) S (wN d) d d dO d d (lb d) fun a S=>sM S fun a S=>?_
  rcases iS h with ⟨dP,h⟩ | ⟨dP,h⟩
  rotate_left
  ·exact absurd dP (by rw [hv_r144]; decide)
  refine sMove (iv ac.2) S (wG 18 true 257 d d d dP) (.inl d) d d (lb d) fun a S=>sBin _ S (wG 18 true 257 d d d dP) d d d (bEq _ _ _ _ .i64 ac.2 8) d (lb d) fun a S=>sPickT (.bool (ac.2 == 8)) S (wN d) d d dP d d (lb d) fun a S=>sM S fun a S=>?_
  rcases iS h with ⟨dQ,h⟩ | ⟨dQ,h⟩
  rotate_left
  ·exact absurd dQ (by rw [hv_r156]; decide)
  refine sMove (iv ae.2) S (wG 22 true 261 d d d dQ) (.inl d) d d (lb d) fun a S=>sBin _ S (wG 22 true 261 d d d dQ) d d d (bEq _ _ _ _ .i64 ae.2 8) d (lb d) fun a S=>sPickT (.bool (ae.2 == 8)) S (wN d) d d dQ d d (lb d) fun a S=>sM S fun a S=>?_
  rcases iS h with ⟨dR,h⟩ | ⟨dR,h⟩
  rotate_left
  ·exact absurd dR (by rw [hv_r182]; decide)
  refine sMove (iv af.2) S (wG 26 true 265 d d d dR) (.inl d) d d (lb d) fun a S=>sBin _ S (wG 26 true 265 d d d dR) d d d (bEq _ _ _ _ .i64 af.2 2) d (lb d) fun a S=>sPickT (.bool (af.2 == 2)) S (wN d) d d dR d d (lb d) fun a S=>sM S fun a S=>?_
  rcases iS h with ⟨dS,h⟩ | ⟨dS,h⟩
  rotate_left
  ·exact absurd dS (by rw [hv_r194]; decide)
  refine sMove (iv ah.2) S (wG 30 true 269 d d d dS) (.inl d) d d (lb d) fun a S=>sBin _ S (wG 30 true 269 d d d dS) d d d (bEq _ _ _ _ .i64 ah.2 8) d (lb d) fun a S=>sPickT (.bool (ah.2 == 8)) S (wN d) d d dS d d (lb d) fun a S=>sM S fun a S=>?_
  rcases iS h with ⟨dT,h⟩ | ⟨dT,h⟩
  rotate_left
  ·exact absurd dT (by rw [hv_r204]; decide)
  refine sMove (iv bt.2) S (wG 34 true 273 d d d dT) (.inl d) d d (lb d) fun a S=>sBin _ S (wG 34 true 273 d d d dT) d d d (bEq _ _ _ _ .i64 bt.2 8) d (lb d) fun a S=>sPickT (.bool (bt.2 == 8)) S (wN d) d d dT d d (lb d) fun a S=>sM S fun a S=>?_
  rcases iS h with ⟨dU,h⟩ | ⟨dU,h⟩
  rotate_left
  ·exact absurd dU (by rw [hv_r240]; decide)
  refine sMove (iv bA.2) S (wG 38 true 277 d d d dU) (.inl d) d d (lb d) fun a S=>sBin _ S (wG 38 true 277 d d d dU) d d d (bEq _ _ _ _ .i64 bA.2 8) d (lb d) fun a S=>sPickT (.bool (bA.2 == 8)) S (wN d) d d dU d d (lb d) fun a S=>sM S fun a S=>?_
  rcases iS h with ⟨dV,h⟩ | ⟨dV,h⟩
  rotate_left
  ·exact absurd dV (by rw [hv_r253]; decide)
  refine sMove (iv bN.2) S (wG 42 true 281 d d d dV) (.inl d) d d (lb d) fun a S=>sBin _ S (wG 42 true 281 d d d dV) d d d (bEq _ _ _ _ .i64 bN.2 8) d (lb d) fun a S=>sPickT (.bool (bN.2 == 8)) S (wN d) d d dV d d (lb d) fun a S=>sN S fun a S=>?_
  refine lT (gt _ _ ?_)
  obtain ⟨gN,h,gO⟩:=bS h
  refine sCut (fun a w=>∃ ew,ew=gN∧St [] E [] w0 345 a w [(0,.bool ew)] [] []) ?_ (fun a w hI=>?_)
  rotate_left
  ·obtain ⟨ew,rfl,S⟩:=hI
   have h:=gO
   try dsimp only at h
   obtain rfl:=tS h
   exact wp_ret (sRet (.bool ew) S (rsl1 d (rvT (t:=0) (v:=.bool ew) S d)) ⟨(),d,S.mem.sel [] [] (by decide) d d⟩)
  refine sRegion (sM S fun a S=>?_)
  refine sMove (.bool (eK == (⟨#[112,32,111,110,52]⟩:ByteArray))) S (wG 0 true 285 d d d d) (.inl d) d d (lb d) fun a S=>sPickT (.bool (eK == (⟨#[112,32,111,110,52]⟩:ByteArray))) S (wN d) d d d d d (lb d) fun a S=>sM S fun a S=>?_
  rcases iS h with ⟨dx,h⟩ | ⟨dx,h⟩
  rotate_left
  ·refine sSkN 2 3 true 288 S d d dx d fun a S=>sPickF (.bool false) S (wN d) d d dx d d (lb d) fun a S=>sM S fun a S=>?_
   refine sSkN 5 7 true 292 S d d d d fun a S=>sPickF (.bool false) S (wN d) d d d d d (lb d) fun a S=>sM S fun a S=>?_
   refine sSkN 2 14 true 299 S d d d d fun a S=>sPickF (.bool false) S (wN d) d d d d d (lb d) fun a S=>sM S fun a S=>?_
   refine sSkN 6 18 true 303 S d d d d fun a S=>sPickF (.bool false) S (wN d) d d d d d (lb d) fun a S=>sM S fun a S=>?_
   refine sSkN 6 26 true 311 S d d d d fun a S=>sPickF (.bool false) S (wN d) d d d d d (lb d) fun a S=>sM S fun a S=>?_
   refine sSk S d d d d d d fun a S=>sPickF (.bool false) S (wN d) d d d d d (lb d) fun a S=>sM S fun a S=>?_
   refine sSk S d d d d d d fun a S=>sPickF (.bool false) S (wN d) d d d d d (lb d) fun a S=>sM S fun a S=>?_
   refine sSkN 2 40 true 325 S d d d d fun a S=>sPickF (.bool false) S (wN d) d d d d d (lb d) fun a S=>sM S fun a S=>?_
   refine sSkN 4 44 true 329 S d d d d fun a S=>sPickF (.bool false) S (wN d) d d d d d (lb d) fun a S=>sM S fun a S=>?_
   refine sSkN 5 50 true 335 S d d d d fun a S=>sPickF (.bool false) S (wN d) d d d d d (lb d) fun a S=>sM S fun a S=>?_
   refine sSk S d d d d d d fun a S=>sPickF (.bool false) S (wN d) d d d d d (lb d) fun a S=>sN S fun a S=>?_
   exact lT (⟨false,Option.some.inj h,S.fix [] [] (by decide) d d d⟩)
  refine sMove (iv ag.2) S (wG 3 true 288 d d d dx) (.inl d) d d (lb d) fun a S=>sBin _ S (wG 3 true 288 d d d dx) d d d (bEq _ _ _ _ .i64 ag.2 0) d (lb d) fun a S=>sPickT (.bool (ag.2 == 0)) S (wN d) d d dx d d (lb d) fun a S=>sM S fun a S=>?_
  rcases iS h with ⟨d6,h⟩ | ⟨d6,h⟩
  rotate_left
  ·exact absurd d6 (by rw [hv_r88]; decide)
  refine sLoadN (p:=dk) (off:=0) (T:=30) (vs:=[.slice aO ag.1.Left.length aP,.slice aQ ag.1.Right.length aR]) 41 [.slice aO ag.1.Left.length aP,.slice aQ ag.1.Right.length aR] S (wG 7 true 292 d d d d6) d d d d d d d (lb d) fun a S=>sLit (r:=(rI .i64)) (T:=3) (xs:=([(-500)]:List Int)) [(0,iv (-500))] 1 [iv (-500)] [iv (-500)] (iv 0) 8 S (wG 7 true 292 d d d d6) d d Tryd.underlying28 d (by decide) (by decide) (by kernel_rfl) d (fun E1 w1 hE=>All.cons d (All.nil _ _ _)) d d (lb d) fun a w de df S=>?_
  refine sLit (r:=(rI .i64)) (T:=3) (xs:=([(-300)]:List Int)) [(0,iv (-300))] 1 [iv (-300)] [iv (-300)] (iv 0) 8 S (wG 7 true 292 d d d d6) d d Tryd.underlying28 d (by decide) (by decide) (by kernel_rfl) d (fun E1 w1 hE=>All.cons d (All.nil _ _ _)) d d (lb d) fun a w dg dh S=>?_
  refine sBuild [(0,.slice de ([(-500)]:List Int).length df),(1,.slice dg ([(-300)]:List Int).length dh)] [.slice de ([(-500)]:List Int).length df,.slice dg ([(-300)]:List Int).length dh] S (wG 7 true 292 d d d d6) d d d d (lb d) fun a S=>?_
  obtain ⟨eH,ff,h⟩:=bS h
  have hv_r348:eH=true:=Option.some.inj (ff.symm.trans (by rw [hv_r88]; exact kc_raddlelaw37_PieceNames_40))
  have S1:=S.mem
  have S1:=S1.shutR (r:=(rI .i64)) (T:=3) (v:=.slice aO ag.1.Left.length aP) (xs:=ag.1.Left) 44 d
  have S1:=S1.shutR (r:=(rI .i64)) (T:=3) (v:=.slice aQ ag.1.Right.length aR) (xs:=ag.1.Right) 44 d
  have S1:=S1.learn (fRep r_api_Piece (.agg #[.slice aO ag.1.Left.length aP,.slice aQ ag.1.Right.length aR]) ag.1) ⟨_,_,d,S1.know (i:=1) (e:=fRep (rL (rI .i64)) (.slice aO ag.1.Left.length aP) ag.1.Left) d,S1.know (i:=0) (e:=fRep (rL (rI .i64)) (.slice aQ ag.1.Right.length aR) ag.1.Right) d⟩
  have S1:=S1.shutR (r:=(rI .i64)) (T:=3) (v:=.slice de ([(-500)]:List Int).length df) (xs:=([(-500)]:List Int)) 1 d
  have S1:=S1.shutR (r:=(rI .i64)) (T:=3) (v:=.slice dg ([(-300)]:List Int).length dh) (xs:=([(-300)]:List Int)) 0 d
  have S1:=S1.learn (fRep r_api_Piece (.agg #[.slice de ([(-500)]:List Int).length df,.slice dg ([(-300)]:List Int).length dh]) (api_Piece.mk ([(-500)]:List Int) ([(-300)]:List Int))) ⟨_,_,d,S1.know (i:=1) (e:=fRep (rL (rI .i64)) (.slice de ([(-500)]:List Int).length df) ([(-500)]:List Int)) d,S1.know (i:=0) (e:=fRep (rL (rI .i64)) (.slice dg ([(-300)]:List Int).length dh) ([(-300)]:List Int)) d⟩
  refine sCallQ (X:=Unit) (f:=19) (vs:=[.agg #[.slice aO ag.1.Left.length aP,.slice aQ ag.1.Right.length aR],.agg #[.slice de ([(-500)]:List Int).length df,.slice dg ([(-300)]:List Int).length dh]]) (val:=fun _=>.bool eH) S (wG 7 true 292 d d d d6) d callee19 d (S1.quiet [3,0] d) (fun E1 w1 S1=>c_raddleref37_Same E1 w1 ag.1 (.agg #[.slice aO ag.1.Left.length aP,.slice aQ ag.1.Right.length aR]) (api_Piece.mk ([(-500)]:List Int) ([(-300)]:List Int)) (.agg #[.slice de ([(-500)]:List Int).length df,.slice dg ([(-300)]:List Int).length dh]) eH ff S1) d (lb d) fun _ a w S=>?_
  refine sPickT (.bool eH) S (wN d) d d d6 d d (lb d) fun a S=>sM S fun a S=>?_
  rcases iS h with ⟨dW,h⟩ | ⟨dW,h⟩
  rotate_left
  ·exact absurd dW (by rw [hv_r348]; decide)
  refine sMove (iv ab.2) S (wG 14 true 299 d d d dW) (.inl d) d d (lb d) fun a S=>sBin _ S (wG 14 true 299 d d d dW) d d d (bEq _ _ _ _ .i64 ab.2 0) d (lb d) fun a S=>sPickT (.bool (ab.2 == 0)) S (wN d) d d dW d d (lb d) fun a S=>sM S fun a S=>?_
  rcases iS h with ⟨cI,h⟩ | ⟨cI,h⟩
  rotate_left
  ·exact absurd cI (by rw [hv_r170]; decide)
  refine sField (b:=cC) (off:=0) 0 0 S (wG 18 true 303 d d d cI) d d d d d (lb d) fun a S=>sLoad1 21 (.slice aW ab.1.Left.length aX) S (wG 18 true 303 d d d cI) d d d d d d (lb d) fun a S=>sBuild [(0,iv (-2))] [iv (-2),iv 0] S (wG 18 true 303 d d d cI) d d d d (lb d) fun a S=>sBuild [(0,iv 0),(1,iv 3)] [iv 0,iv 3] S (wG 18 true 303 d d d cI) d d d d (lb d) fun a S=>?_
  have S:=S.learn (fRep r_api_Point (.agg #[iv (-2),iv 0]) (api_Point.mk (-2) 0)) d
  have S:=S.learn (fRep r_api_Point (.agg #[iv 0,iv 3]) (api_Point.mk 0 3)) d
  refine sLit (r:=r_api_Point) (T:=35) (xs:=[(api_Point.mk (-2) 0),(api_Point.mk 0 3)]) [(0,.agg #[iv (-2),iv 0]),(1,.agg #[iv 0,iv 3])] 2 [.agg #[iv (-2),iv 0],.agg #[iv 0,iv 3]] [iv (-2),iv 0,iv 0,iv 3] (.agg #[iv 0,iv 0]) 16 S (wG 18 true 303 d d d cI) d d Tryd.underlying22 d (by decide) (by decide) (by kernel_rfl) d (fun E1 w1 hE=>All.cons (r_api_Point.mono hE (S.mem.know (i:=1) (e:=fRep r_api_Point (.agg #[iv (-2),iv 0]) (api_Point.mk (-2) 0)) d)) (All.cons (r_api_Point.mono hE (S.mem.know (i:=0) (e:=fRep r_api_Point (.agg #[iv 0,iv 3]) (api_Point.mk 0 3)) d)) (All.nil _ _ _))) d d (lb d) fun a w ex ey S=>?_
  obtain ⟨eI,fg,h⟩:=bS h
  have hv_r354:eI=true:=Option.some.inj (fg.symm.trans (by rw [hv_r170]; exact kc_raddlelaw37_PieceNames_41))
  have S1:=S.mem
  have S1:=S1.shutR (r:=r_api_Point) (T:=35) (v:=.slice aW ab.1.Left.length aX) (xs:=ab.1.Left) 23 d
  have S1:=S1.shutR (r:=r_api_Point) (T:=35) (v:=.slice ex [(api_Point.mk (-2) 0),(api_Point.mk 0 3)].length ey) (xs:=[(api_Point.mk (-2) 0),(api_Point.mk 0 3)]) 0 d
  refine sCallQ (X:=Unit) (f:=30) (vs:=[.slice aW ab.1.Left.length aX,.slice ex [(api_Point.mk (-2) 0),(api_Point.mk 0 3)].length ey]) (val:=fun _=>.bool eI) S (wG 18 true 303 d d d cI) d callee30 d (S1.quiet [1,0] d) (fun E1 w1 S1=>c_raddleref37_SamePoints E1 w1 ab.1.Left (.slice aW ab.1.Left.length aX) [(api_Point.mk (-2) 0),(api_Point.mk 0 3)] (.slice ex [(api_Point.mk (-2) 0),(api_Point.mk 0 3)].length ey) eI fg S1) d (lb d) fun _ a w S=>?_
  refine sPickT (.bool eI) S (wN d) d d cI d d (lb d) fun a S=>sM S fun a S=>?_
  rcases iS h with ⟨cJ,h⟩ | ⟨cJ,h⟩
  rotate_left
  ·exact absurd cJ (by rw [hv_r354]; decide)
  refine sField (b:=cC) (off:=0) 1 1 S (wG 26 true 311 d d d cJ) d d d d d (lb d) fun a S=>sLoad1 22 (.slice aZ ab.1.Right.length b0) S (wG 26 true 311 d d d cJ) d d d d d d (lb d) fun a S=>sBuild [(0,iv 2)] [iv 2,iv 0] S (wG 26 true 311 d d d cJ) d d d d (lb d) fun a S=>sBuild [(0,iv 2),(1,iv 3)] [iv 2,iv 3] S (wG 26 true 311 d d d cJ) d d d d (lb d) fun a S=>?_
  have S:=S.learn (fRep r_api_Point (.agg #[iv 2,iv 0]) (api_Point.mk 2 0)) d
  have S:=S.learn (fRep r_api_Point (.agg #[iv 2,iv 3]) (api_Point.mk 2 3)) d
  refine sLit (r:=r_api_Point) (T:=35) (xs:=[(api_Point.mk 2 0),(api_Point.mk 2 3)]) [(0,.agg #[iv 2,iv 0]),(1,.agg #[iv 2,iv 3])] 2 [.agg #[iv 2,iv 0],.agg #[iv 2,iv 3]] [iv 2,iv 0,iv 2,iv 3] (.agg #[iv 0,iv 0]) 16 S (wG 26 true 311 d d d cJ) d d Tryd.underlying22 d (by decide) (by decide) (by kernel_rfl) d (fun E1 w1 hE=>All.cons (r_api_Point.mono hE (S.mem.know (i:=1) (e:=fRep r_api_Point (.agg #[iv 2,iv 0]) (api_Point.mk 2 0)) d)) (All.cons (r_api_Point.mono hE (S.mem.know (i:=0) (e:=fRep r_api_Point (.agg #[iv 2,iv 3]) (api_Point.mk 2 3)) d)) (All.nil _ _ _))) d d (lb d) fun a w ez eA S=>?_
  obtain ⟨eJ,fh,h⟩:=bS h
  have hv_r359:eJ=true:=Option.some.inj (fh.symm.trans (by rw [hv_r170]; exact kc_raddlelaw37_PieceNames_42))
  have S1:=S.mem
  have S1:=S1.shutR (r:=r_api_Point) (T:=35) (v:=.slice aZ ab.1.Right.length b0) (xs:=ab.1.Right) 25 d
  have S1:=S1.shutR (r:=r_api_Point) (T:=35) (v:=.slice ez [(api_Point.mk 2 0),(api_Point.mk 2 3)].length eA) (xs:=[(api_Point.mk 2 0),(api_Point.mk 2 3)]) 0 d
  refine sCallQ (X:=Unit) (f:=30) (vs:=[.slice aZ ab.1.Right.length b0,.slice ez [(api_Point.mk 2 0),(api_Point.mk 2 3)].length eA]) (val:=fun _=>.bool eJ) S (wG 26 true 311 d d d cJ) d callee30 d (S1.quiet [1,0] d) (fun E1 w1 S1=>c_raddleref37_SamePoints E1 w1 ab.1.Right (.slice aZ ab.1.Right.length b0) [(api_Point.mk 2 0),(api_Point.mk 2 3)] (.slice ez [(api_Point.mk 2 0),(api_Point.mk 2 3)].length eA) eJ fh S1) d (lb d) fun _ a w S=>?_
  refine sPickT (.bool eJ) S (wN d) d d cJ d d (lb d) fun a S=>sM S fun a S=>?_
  rcases iS h with ⟨ef,h⟩ | ⟨ef,h⟩
  rotate_left
  ·exact absurd ef (by rw [hv_r359]; decide)
  refine sMove (.bool (cj == 8)) S (wG 34 true 319 d d d ef) (.inl d) d d (lb d) fun a S=>sPickT (.bool (cj == 8)) S (wN d) d d ef d d (lb d) fun a S=>sM S fun a S=>?_
  rcases iS h with ⟨eh,h⟩ | ⟨eh,h⟩
  rotate_left
  ·exact absurd eh (by rw [hv_r315]; decide)
  refine sMove (.bool (bN.2 == 8)) S (wG 37 true 322 d d d eh) (.inl d) d d (lb d) fun a S=>sPickT (.bool (bN.2 == 8)) S (wN d) d d eh d d (lb d) fun a S=>sM S fun a S=>?_
  rcases iS h with ⟨dX,h⟩ | ⟨dX,h⟩
  rotate_left
  ·exact absurd dX (by rw [hv_r279]; decide)
  refine sMove (iv bn.2) S (wG 40 true 325 d d d dX) (.inl d) d d (lb d) fun a S=>sBin _ S (wG 40 true 325 d d d dX) d d d (bEq _ _ _ _ .i64 bn.2 0) d (lb d) fun a S=>sPickT (.bool (bn.2 == 0)) S (wN d) d d dX d d (lb d) fun a S=>sM S fun a S=>?_
  rcases iS h with ⟨di,h⟩ | ⟨di,h⟩
  rotate_left
  ·exact absurd di (by rw [hv_r266]; decide)
  refine sField (b:=er) (off:=0) 1 1 S (wG 44 true 329 d d d di) d d d d d (lb d) fun a S=>sLoad1 10 (.slice cr bn.1.Right.length ct) S (wG 44 true 329 d d d di) d d d d d d (lb d) fun a S=>sLen S (wG 44 true 329 d d d di) d Tryd.underlying28 d d (lb d) fun a S=>sBin _ S (wG 44 true 329 d d d di) d d d (bEq _ _ _ _ .i64 (bn.1.Right.length:Int) 1) d (lb d) fun a S=>sPickT (.bool ((bn.1.Right.length:Int) == 1)) S (wN d) d d di d d (lb d) fun a S=>sM S fun a S=>?_
  rcases iS h with ⟨d7,h⟩ | ⟨d7,h⟩
  rotate_left
  ·exact absurd d7 (by rw [hv_r266]; decide)
  refine sField (b:=er) (off:=0) 1 1 S (wG 50 true 335 d d d d7) d d d d d (lb d) fun a S=>sLoad1 10 (.slice cr bn.1.Right.length ct) S (wG 50 true 335 d d d d7) d d d d d d (lb d) fun a S=>?_
  obtain ⟨dY,fi,h⟩:=bS h
  have hv_x366:dY=500:=Option.some.inj (fi.symm.trans (by rw [hv_r266]; kernel_rfl))
  obtain ⟨gu,gv,S⟩:=pIdx (P:=Tryd.prog) (r:=(rI .i64)) (v:=.slice cr bn.1.Right.length ct) (xs:=bn.1.Right) (j:=0) 28 3 7 S Tryd.underlying28 d d fi
  refine sIdxV S (wG 50 true 335 d d d d7) d d d gv d (lb d) fun a S=>?_
  obtain ⟨gw,S⟩:=pLoad (r:=(rI .i64)) (q:=gu) (x:=dY) 0 S d
  obtain rfl:gw=iv dY:=S.mem.know (i:=1) (e:=fRep (rI .i64) (gw) dY) d
  refine sLoadV1 (vq:=gu) 0 (iv dY) S (wG 50 true 335 d d d d7) d d d d d (lb d) fun a S=>sBin _ S (wG 50 true 335 d d d d7) d d d (bEq _ _ _ _ .i64 dY 500) d (lb d) fun a S=>sPickT (.bool (dY == 500)) S (wN d) d d d7 d d (lb d) fun a S=>sM S fun a S=>?_
  rcases iS h with ⟨ei,h⟩ | ⟨ei,h⟩
  rotate_left
  ·exact absurd ei (by rw [hv_x366]; decide)
  obtain ⟨eB,fj,h⟩:=bS h
  have hv_r372:eB=true:=Option.some.inj (fj.symm.trans (by exact kc_raddlelaw37_PieceNames_43))
  have S1:=S.mem
  refine sCallQ (X:=Unit) (f:=9) (vs:=[]) (val:=fun _=>.bool eB) S (wG 57 true 342 d d d ei) d callee9 d (S1.quiet [] d) (fun E1 w1 S1=>c_raddlelaw37_alive E1 w1  eB fj S1) d (lb d) fun _ a w S=>?_
  refine sPickT (.bool eB) S (wN d) d d ei d d (lb d) fun a S=>sN S fun a S=>?_
  exact lT (⟨eB,Option.some.inj h,S.fix [] [] (by decide) d d d⟩)
 refine node_by (A:=anc_raddlelaw37_PieceNames_0) 22 (by kernel_rfl) (by kernel_rfl) (by kernel_rfl) (by kernel_rfl) (by kernel_rfl) [0,1,2,3] (by kernel_rfl) (by decide) (by decide) (fF ?_ (fF ?_ (fF ?_ (fF ?_ (fN ?_ (fE 4 (fE 4 (fE 4 (fE 4 (aB 9 12 4 (by decide) (fE 4 (fE 4 (fE 4 (fE 4 (fE 4 (aB 15 6 4 (by decide) (aB 16 5 4 (by decide) (fE 4 (fE 4 (fE 4 (fE 4 (fE 4 (trivial))))))))))))))))))))))) [] (fun q hq=>by cases hq) (fun hY=>absurd (hY 4 (by decide)) (by decide))
 ·refine fJ [] 0 [] fun G a w S=>?_
  exact sBuild [] [.slice none 0 0,.slice none 0 0] S (wN d) d d d d (lb d) fun a S=>leafL ⟨d,S⟩
 ·refine fJ [(218,_)] 1 [some 0] fun G a w S=>?_
  have S1:=S.mem
  have S1:=S1.learn (fRep (rL (rI .i64)) (.slice none 0 0) ([]:(List Int))) (rL_nil _ _ _)
  have S1:=S1.learn (fRep r_api_Piece (.agg #[.slice none 0 0,.slice none 0 0]) (api_Piece.mk ([]:(List Int)) ([]:(List Int)))) ⟨_,_,d,S1.know (i:=0) (e:=fRep (rL (rI .i64)) (.slice none 0 0) ([]:(List Int))) d,S1.know (i:=0) (e:=fRep (rL (rI .i64)) (.slice none 0 0) ([]:(List Int))) d⟩
  refine sCq [.agg #[.slice none 0 0,.slice none 0 0]] (iv dJ) S callee13 (S1.quiet [0] d) (fun E1 w1 S1=>c_piece_Check E1 w1 (api_Piece.mk ([]:(List Int)) ([]:(List Int))) (.agg #[.slice none 0 0,.slice none 0 0]) dJ fa S1) fun a w S=>?_
  exact leafL ⟨d,S⟩
 ·refine fJ [(219,_)] 2 [some 1] fun G a w S=>?_
  exact sBin _ S (wN d) d d d (bEq _ _ _ _ .i64 dJ 8) d (lb d) fun a S=>leafL ⟨d,S⟩
 ·exact fM 3 (some 2) d d d d (.inl d) d d d
 refine ⟨_,[(221,.bool (dJ == 8))],d,(srcs_of [some 3] d d d),fun G a w S=>?_⟩
 refine sCall (X:=Option Addr × Nat × Option Addr × Nat) (f:=27) (vs:=[iv 0,iv 1,iv 1,iv 1]) (val:=fun x=>.agg #[.slice x.1 bu.Left.length x.2.1,.slice x.2.2.1 bu.Right.length x.2.2.2]) (B':=fun x=>[eRow (rI .i64) 3 (.slice x.1 bu.Left.length x.2.1) bu.Left,eRow (rI .i64) 3 (.slice x.2.2.1 bu.Right.length x.2.2.2) bu.Right]) (D':=fun _=>[]) [] [eBox gq 30 [.slice dr bN.1.Left.length dt,.slice du bN.1.Right.length dv],eBox er 30 [.slice da bn.1.Left.length db,.slice cr bn.1.Right.length ct],eBox eG 30 [.slice d1 bA.1.Left.length d3,.slice d4 bA.1.Right.length d5],eBox ev 30 [.slice cD bt.1.Left.length cE,.slice cF bt.1.Right.length cG],eBox dz 40 [iv b1.1.Start,.slice bl ci.length bm],eBox dI 24 [.slice bF ah.1.Left.length bG,.slice bH ah.1.Right.length bI],eRow r_api_Point 35 (.slice bF ah.1.Left.length bG) ah.1.Left,eRow r_api_Point 35 (.slice bH ah.1.Right.length bI) ah.1.Right,eBox dy 24 [.slice bo af.1.Left.length bp,.slice bq af.1.Right.length br],eRow r_api_Point 35 (.slice bo af.1.Left.length bp) af.1.Left,eRow r_api_Point 35 (.slice bq af.1.Right.length br) af.1.Right,eBox dj 24 [.slice bg ae.1.Left.length bh,.slice bi ae.1.Right.length bj],eRow r_api_Point 35 (.slice bg ae.1.Left.length bh) ae.1.Left,eRow r_api_Point 35 (.slice bi ae.1.Right.length bj) ae.1.Right,eBox cC 24 [.slice aW ab.1.Left.length aX,.slice aZ ab.1.Right.length b0],eRow r_api_Point 35 (.slice aW ab.1.Left.length aX) ab.1.Left,eRow r_api_Point 35 (.slice aZ ab.1.Right.length b0) ab.1.Right,eBox cA 65 [iv 1,iv 10,iv 1,iv 10],eBox d8 30 [.slice ba ac.1.Left.length bb,.slice bc ac.1.Right.length bf],eRow (rI .i64) 3 (.slice ba ac.1.Left.length bb) ac.1.Left,eRow (rI .i64) 3 (.slice bc ac.1.Right.length bf) ac.1.Right,eBox cK 30 [.slice aS aa.1.Left.length aT,.slice aU aa.1.Right.length aV],eRow (rI .i64) 3 (.slice aS aa.1.Left.length aT) aa.1.Left,eRow (rI .i64) 3 (.slice aU aa.1.Right.length aV) aa.1.Right,eBox cB 30 [.slice aJ a8.1.Left.length aK,.slice aL a8.1.Right.length aM],eRow (rI .i64) 3 (.slice aJ a8.1.Left.length aK) a8.1.Left,eRow (rI .i64) 3 (.slice aL a8.1.Right.length aM) a8.1.Right,eBox cz 30 [.slice az a7.1.Left.length aA,.slice aC a7.1.Right.length aG],eRow (rI .i64) 3 (.slice az a7.1.Left.length aA) a7.1.Left,eRow (rI .i64) 3 (.slice aC a7.1.Right.length aG) a7.1.Right,eBox cq 30 [.slice au a6.1.Left.length av,.slice aw a6.1.Right.length ax],eRow (rI .i64) 3 (.slice au a6.1.Left.length av) a6.1.Left,eRow (rI .i64) 3 (.slice aw a6.1.Right.length ax) a6.1.Right,eBox co 30 [.slice al a2.1.Left.length am,.slice ao a2.1.Right.length ap],eRow (rI .i64) 3 (.slice al a2.1.Left.length am) a2.1.Left,eRow (rI .i64) 3 (.slice ao a2.1.Right.length ap) a2.1.Right,eBox dk 30 [.slice aO ag.1.Left.length aP,.slice aQ ag.1.Right.length aR],eRow (rI .i64) 3 (.slice aO ag.1.Left.length aP) ag.1.Left,eRow (rI .i64) 3 (.slice aQ ag.1.Right.length aR) ag.1.Right,eRow (rI .i64) 3 (.slice c9 aI.Left.length ca) aI.Left,eRow (rI .i64) 3 (.slice cb aI.Right.length cc) aI.Right,eRow (rI .i64) 3 (.slice c5 aH.Left.length c6) aH.Left,eRow (rI .i64) 3 (.slice c7 aH.Right.length c8) aH.Right,eRow (rI .i64) 3 (.slice bY ay.Left.length bZ) ay.Left,eRow (rI .i64) 3 (.slice c1 ay.Right.length c2) ay.Right,eRow (rI .i64) 3 (.slice bU ar.Left.length bV) ar.Left,eRow (rI .i64) 3 (.slice bW ar.Right.length bX) ar.Right,eRow (rI .i64) 3 (.slice bO aq.Left.length bP) aq.Left,eRow (rI .i64) 3 (.slice bQ aq.Right.length bR) aq.Right,eRow (rI .i64) 3 (.slice bJ ak.Left.length bK) ak.Left,eRow (rI .i64) 3 (.slice bL ak.Right.length bM) ak.Right,eRow (rI .i64) 3 (.slice bB aj.Left.length bC) aj.Left,eRow (rI .i64) 3 (.slice bD aj.Right.length bE) aj.Right,eRow (rI .i64) 3 (.slice bv ai.Left.length bw) ai.Left,eRow (rI .i64) 3 (.slice bx ai.Right.length bz) ai.Right,eRow (rI .i64) 3 (.slice cv r3.Left.length cw) r3.Left,eRow (rI .i64) 3 (.slice cx r3.Right.length cy) r3.Right] [] [0,1,2,3,4,5,6,7,8,9,10,11,12,13,14,15,16,17,18,19,20,21,22,23,24,25,26,27,28,29,30,31,32,33,34,35,36,37,38,39,40,41,42,43,44,45,46,47,48,49,50,51,52,53,54,55,56] [] S (wG 3 true 221 d d d dw) d callee27 d (by decide) d d (fun E1 w1 S1=>c_raddlelaw37_step_s0 E1 w1 0 1 1 1 bu fb S1) d (lb d) fun xx a w S=>?_
 obtain ⟨ck,cl,cm,cn⟩:=xx
 dsimp only at S
 refine leafL ⟨d,_,_,.inl ⟨222,(.agg #[.slice ck bu.Left.length cl,.slice cm bu.Right.length cn]),[(5,223,iv cH),(6,224,.bool (cH == 8)),(7,225,.bool (cH == 8)),(8,226,.bool (cH == 8))],d,S,hz_of d,?_⟩⟩
 refine node_by (A:=anc_raddlelaw37_PieceNames_0) 22 (by kernel_rfl) (by kernel_rfl) (by kernel_rfl) (by kernel_rfl) (by kernel_rfl) [5,6,7,8,4,0,1,2,3] (by kernel_rfl) (by decide) (by decide) (fD 4 (fD 4 (fD 4 (fD 4 (fY (fF ?_ (fF ?_ (fF ?_ (fF ?_ (fN ?_ (fE 9 (fE 9 (fE 9 (fE 9 (fE 9 (aB 15 6 9 (by decide) (aB 16 5 9 (by decide) (fE 9 (fE 9 (fE 9 (fE 9 (fE 9 (trivial))))))))))))))))))))))) [] (fun q hq=>by cases hq) (fun hY=>absurd (hY 9 (by decide)) (by decide))
 ·refine fJ [(222,_),(221,_)] 0 [some 4,some 8] fun G a w S=>?_
  have S1:=S.mem
  have S1:=S1.shutR (r:=(rI .i64)) (T:=3) (v:=.slice ck bu.Left.length cl) (xs:=bu.Left) 0 d
  have S1:=S1.shutR (r:=(rI .i64)) (T:=3) (v:=.slice cm bu.Right.length cn) (xs:=bu.Right) 0 d
  have S1:=S1.learn (fRep r_api_Piece (.agg #[.slice ck bu.Left.length cl,.slice cm bu.Right.length cn]) bu) ⟨_,_,d,S1.know (i:=1) (e:=fRep (rL (rI .i64)) (.slice ck bu.Left.length cl) bu.Left) d,S1.know (i:=0) (e:=fRep (rL (rI .i64)) (.slice cm bu.Right.length cn) bu.Right) d⟩
  refine sCallQ (X:=Unit) (f:=13) (vs:=[.agg #[.slice ck bu.Left.length cl,.slice cm bu.Right.length cn]]) (val:=fun _=>iv cH) S (wG 3 true 221 d d d dw) d callee13 d (S1.quiet [0] d) (fun E1 w1 S1=>c_piece_Check E1 w1 bu (.agg #[.slice ck bu.Left.length cl,.slice cm bu.Right.length cn]) cH fc S1) d (lb d) fun _ a w S=>?_
  exact leafL ⟨d,S⟩
 ·refine fJ [(223,_),(221,_)] 1 [some 0,some 8] fun G a w S=>?_
  exact sBin _ S (wG 3 true 221 d d d dw) d d d (bEq _ _ _ _ .i64 cH 8) d (lb d) fun a S=>leafL ⟨d,S⟩
 ·refine fJ [(221,_),(224,_)] 2 [some 8,some 1] fun G a w S=>?_
  exact sPickT (.bool (cH == 8)) S (wN d) d d dw d d (lb d) fun a S=>leafL ⟨d,S⟩
 ·exact fM 3 (some 2) d d d d (.inl d) d d d
 refine ⟨_,[(226,.bool (cH == 8))],d,(srcs_of [some 3] d d d),fun G a w S=>?_⟩
 refine sLit (r:=(rI .i64)) (T:=3) (xs:=([0]:List Int)) [(0,iv 0)] 1 [iv 0] [iv 0] (iv 0) 8 S (wG 8 true 226 d d d dc) d d Tryd.underlying28 d (by decide) (by decide) (by kernel_rfl) d (fun E1 w1 hE=>All.cons d (All.nil _ _ _)) d d (lb d) fun a w c3 c4 S=>?_
 refine leafL ⟨d,_,_,.inl ⟨227,(.slice c3 ([0]:List Int).length c4),[(10,228,.agg #[.slice c3 ([0]:List Int).length c4,.slice none 0 0]),(11,229,iv cp),(12,230,.bool (cp == 8)),(13,231,.bool (cp == 8)),(14,232,.bool (cp == 8))],d,S,hz_of d,?_⟩⟩
 refine node_by (A:=anc_raddlelaw37_PieceNames_0) 22 (by kernel_rfl) (by kernel_rfl) (by kernel_rfl) (by kernel_rfl) (by kernel_rfl) [10,11,12,13,14,9,5,6,7,8,4,0,1,2,3] (by kernel_rfl) (by decide) (by decide) (fD 9 (fD 9 (fD 9 (fD 9 (fY (fD 9 (fD 9 (fD 9 (fD 9 (fY (fF ?_ (fF ?_ (fF ?_ (fF ?_ (fF ?_ (fN ?_ (fN ?_ (fE 15 (fE 15 (fE 15 (fE 15 (fE 15 (trivial))))))))))))))))))))))) [] (fun q hq=>by cases hq) (fun hY=>absurd (hY 15 (by decide)) (by decide))
 ·refine fJ [(227,_),(226,_)] 0 [some 5,some 9] fun G a w S=>?_
  exact sBuild [(0,.slice c3 ([0]:List Int).length c4)] [.slice c3 ([0]:List Int).length c4,.slice none 0 0] S (wG 8 true 226 d d d dc) d d d d (lb d) fun a S=>leafL ⟨d,S⟩
 ·refine fJ [(228,_),(226,_)] 1 [some 0,some 9] fun G a w S=>?_
  have S1:=S.mem
  have S1:=S1.shutR (r:=(rI .i64)) (T:=3) (v:=.slice c3 ([0]:List Int).length c4) (xs:=([0]:List Int)) 0 d
  have S1:=S1.learn (fRep (rL (rI .i64)) (.slice none 0 0) ([]:(List Int))) (rL_nil _ _ _)
  have S1:=S1.learn (fRep r_api_Piece (.agg #[.slice c3 ([0]:List Int).length c4,.slice none 0 0]) (api_Piece.mk ([0]:List Int) ([]:(List Int)))) ⟨_,_,d,S1.know (i:=1) (e:=fRep (rL (rI .i64)) (.slice c3 ([0]:List Int).length c4) ([0]:List Int)) d,S1.know (i:=0) (e:=fRep (rL (rI .i64)) (.slice none 0 0) ([]:(List Int))) d⟩
  refine sCallQ (X:=Unit) (f:=13) (vs:=[.agg #[.slice c3 ([0]:List Int).length c4,.slice none 0 0]]) (val:=fun _=>iv cp) S (wG 8 true 226 d d d dc) d callee13 d (S1.quiet [0] d) (fun E1 w1 S1=>c_piece_Check E1 w1 (api_Piece.mk ([0]:List Int) ([]:(List Int))) (.agg #[.slice c3 ([0]:List Int).length c4,.slice none 0 0]) cp fd S1) d (lb d) fun _ a w S=>?_
  exact leafL ⟨d,S⟩
 ·refine fJ [(229,_),(226,_)] 2 [some 1,some 9] fun G a w S=>?_
  exact sBin _ S (wG 8 true 226 d d d dc) d d d (bEq _ _ _ _ .i64 cp 8) d (lb d) fun a S=>leafL ⟨d,S⟩
 ·refine fJ [(226,_),(230,_)] 3 [some 9,some 2] fun G a w S=>?_
  exact sPickT (.bool (cp == 8)) S (wN d) d d dc d d (lb d) fun a S=>leafL ⟨d,S⟩
 ·exact fM 4 (some 3) d d d d (.inl d) d d d
 ·refine ⟨_,[(232,.bool (cp == 8))],d,(srcs_of [some 4] d d d),fun G a w S=>?_⟩
  refine sMake (r:=(rI .i64)) (m:=101) (xs:=b8) (iv 0) (0:Int) 8 S (wG 14 true 232 d d d cu) d Tryd.underlying28 d d (by decide) (fun _ _=>d) d d dK d (lb d) fun a w cd ce S=>leafL ⟨d,_,_,.inl ⟨233,(.slice cd b8.length ce),[],d,S,hz_of d,?_⟩⟩
  refine node_by (A:=anc_raddlelaw37_PieceNames_0) 22 (by kernel_rfl) (by kernel_rfl) (by kernel_rfl) (by kernel_rfl) (by kernel_rfl) [15,10,11,12,13,14,9,5,6,7,8,4,0,1,2,3] (by kernel_rfl) (by decide) (by decide) (fD 15 (fD 15 (fD 15 (fD 15 (fY (fD 15 (fD 15 (fD 15 (fD 15 (fY (fD 15 (fD 15 (fD 15 (fD 15 (fD 15 (fY (fN ?_ (fE 16 (fE 16 (fE 16 (fE 16 (fE 16 (trivial))))))))))))))))))))))) [] (fun q hq=>by cases hq) (fun hY=>absurd (hY 16 (by decide)) (by decide))
  refine ⟨_,[(232,.bool (cp == 8))],d,(srcs_of [some 5] d d d),fun G a w S=>?_⟩
  refine sMake (r:=(rI .i64)) (m:=101) (xs:=b8) (iv 0) (0:Int) 8 S (wG 14 true 232 d d d cu) d Tryd.underlying28 d d (by decide) (fun _ _=>d) d d dK d (lb d) fun a w cf cg S=>leafL ⟨d,_,_,.inl ⟨234,(.slice cf b8.length cg),[(17,235,.agg #[.slice cd b8.length ce,.slice cf b8.length cg]),(18,236,iv cj),(19,237,.bool (cj == 8)),(20,238,.bool (cj == 8)),(21,35,.bool (cj == 8))],d,S,hz_of d,?_⟩⟩
  exact nd1 cd ce cf cg c3 c4 ck cl cm cn
 refine ⟨_,[(232,.bool (cp == 8))],d,(srcs_of [some 4] d d d),fun G a w S=>?_⟩
 refine sMake (r:=(rI .i64)) (m:=101) (xs:=b8) (iv 0) (0:Int) 8 S (wG 14 true 232 d d d cu) d Tryd.underlying28 d d (by decide) (fun _ _=>d) d d dK d (lb d) fun a w eC eD S=>leafL ⟨d,_,_,.inl ⟨234,(.slice eC b8.length eD),[],d,S,hz_of d,?_⟩⟩
 refine node_by (A:=anc_raddlelaw37_PieceNames_0) 22 (by kernel_rfl) (by kernel_rfl) (by kernel_rfl) (by kernel_rfl) (by kernel_rfl) [16,10,11,12,13,14,9,5,6,7,8,4,0,1,2,3] (by kernel_rfl) (by decide) (by decide) (fD 16 (fD 16 (fD 16 (fD 16 (fY (fD 16 (fD 16 (fD 16 (fD 16 (fY (fD 16 (fD 16 (fD 16 (fD 16 (fD 16 (fN ?_ (fY (fE 15 (fE 15 (fE 15 (fE 15 (fE 15 (trivial))))))))))))))))))))))) [] (fun q hq=>by cases hq) (fun hY=>absurd (hY 15 (by decide)) (by decide))
 refine ⟨_,[(232,.bool (cp == 8))],d,(srcs_of [some 5] d d d),fun G a w S=>?_⟩
 refine sMake (r:=(rI .i64)) (m:=101) (xs:=b8) (iv 0) (0:Int) 8 S (wG 14 true 232 d d d cu) d Tryd.underlying28 d d (by decide) (fun _ _=>d) d d dK d (lb d) fun a w eE eF S=>leafL ⟨d,_,_,.inl ⟨233,(.slice eE b8.length eF),[(17,235,.agg #[.slice eE b8.length eF,.slice eC b8.length eD]),(18,236,iv cj),(19,237,.bool (cj == 8)),(20,238,.bool (cj == 8)),(21,35,.bool (cj == 8))],d,S,hz_of d,?_⟩⟩
 exact nodePerm (nd1 eE eF eC eD c3 c4 ck cl cm cn) [0,1,2,3,4,6,5,7,8,9,10,11,12,13,14,15,16,17,18,19,20,21] [1,0,2,3,4,5,6,7,8,9,10,11,12,13,14,15,16,17,18,19,20,21,22,23,24,25,26,27,28,29,30,31,32,33,34,35,36,37,38,39,40,41,42,43,44,45,46,47,48,49,50,51,52,53,54,55,56,57,58,59,60,61] [0,1,2,3,4,5,6,7,8,9,10,11,12,13,14,15,16,17,18,19,20,21,22,23,24,25,26,27,28,29,30,31,32,33,34,35,36,37,38,39,40,41,42,43,44,45,46,47,48,49,50,51,52,53,54,55,56,57,58,59,60,61,62,63,64,65] (by decide) (by decide) d d d
def K_raddlelaw37_PieceNames :Option Bool:=
 Option.bind (K_raddlelaw37_step_s0 0 8 0 8) fun r3=>
 Option.bind (K_raddlelaw37_row r3) fun r9=>
 if r9 == (⟨#[112,56]⟩:ByteArray) then
  Option.bind (K_raddlelaw37_step_s0 0 8 (-1) 10) fun r12=>
  Option.bind (K_raddlelaw37_row r12) fun r18=>
  if r18 == (⟨#[112,109,50,32,112,54,32,112,109,51]⟩:ByteArray) then
   Option.bind (K_raddlelaw37_step_s0 0 8 (-4) 12) fun r21=>
   Option.bind (K_raddlelaw37_row r21) fun r27=>
   if r27 == (⟨#[111,110,52,32,112,56,32,111,110,52]⟩:ByteArray) then
    Option.bind (K_raddlelaw37_step_s0 0 8 0 5) fun r30=>
    Option.bind (K_raddlelaw37_row r30) fun r36=>
    if r36 == (⟨#[112,52,32,112,102,52]⟩:ByteArray) then
     Option.bind (K_raddlelaw37_step_s0 0 8 4 8) fun r39=>
     Option.bind (K_raddlelaw37_row r39) fun r45=>
     if r45 == (⟨#[112,111,52,32,112,52]⟩:ByteArray) then
      Option.bind (K_raddlelaw37_step_s0 0 4 3 4) fun r48=>
      Option.bind (K_raddlelaw37_row r48) fun r54=>
      if r54 == (⟨#[]⟩:ByteArray) then
       Option.bind (K_raddlelaw37_step_s0 0 5 3 5) fun r57=>
       Option.bind (K_raddlelaw37_row r57) fun r63=>
       if r63 == (⟨#[112,108,52,32,112]⟩:ByteArray) then
        Option.bind (K_raddlelaw37_step_s0 0 1 0 2) fun r66=>
        Option.bind (K_raddlelaw37_row r66) fun r72=>
        if r72 == (⟨#[]⟩:ByteArray) then
         Option.bind (K_raddlelaw37_step_s0 0 1 0 5) fun r75=>
         Option.bind (K_raddlelaw37_row r75) fun r81=>
         Option.bind (K_piece_Make_s0 (api_Shape.mk [(api_Point.mk (-500) 0)] [(api_Point.mk (-300) 0)])) fun r88=>
         Option.bind (K_piece_Make_s0 (api_Shape.mk [(api_Point.mk 0 0)] [(api_Point.mk 201 0)])) fun r100=>
         Option.bind (K_piece_Make_s0 (api_Shape.mk [(api_Point.mk 0 0)] [(api_Point.mk 0 0)])) fun r112=>
         Option.bind (K_piece_Make_s0 (api_Shape.mk [(api_Point.mk 0 0),(api_Point.mk 0 1)] [(api_Point.mk 5 0)])) fun r124=>
         Option.bind (K_piece_Make_s0 (api_Shape.mk [(api_Point.mk 0 1)] [(api_Point.mk 5 1)])) fun r136=>
         Option.bind (K_piece_Make_s0 (api_Shape.mk ([]:(List api_Point)) ([]:(List api_Point)))) fun r144=>
         Option.bind (K_piece_Make_s0 (api_Shape.mk [(api_Point.mk 0 0),(api_Point.mk 0 100)] [(api_Point.mk 5 0),(api_Point.mk 5 100)])) fun r156=>
         Option.bind (K_piece_Measure_s0 (api_Gauge.mk 1 10 1 10) [(api_Point.mk (-15) 0),(api_Point.mk 4 25)] [(api_Point.mk 15 0),(api_Point.mk 20 30)]) fun r170=>
         Option.bind (K_piece_Measure_s0 (api_Gauge.mk 1 10 1 10) [(api_Point.mk 0 0),(api_Point.mk 0 4)] [(api_Point.mk 9 0),(api_Point.mk 9 40)]) fun r182=>
         Option.bind (K_piece_Measure_s0 (api_Gauge.mk 1 10 1 10) [(api_Point.mk (-1000001) 0)] [(api_Point.mk 9 0)]) fun r194=>
         Option.bind (K_piece_Measure_s0 (api_Gauge.mk 0 0 0 0) ([]:(List api_Point)) [(api_Point.mk 0 0)]) fun r204=>
         Option.bind (K_raddlelaw37_made_s0) fun r212=>
         Option.bind (K_piece_Chart_s0 r212) fun r218=>
         if r218.2 != 0 then
          none
         else
          if (r218.1.Rows.length:Int) != 4 then
           some false
          else
           Option.bind (idxO r218.1.Rows 0) fun x229=>
           Option.bind (setO r218.1.Rows 0 (api_Row.mk false x229.Cells)) fun l237=>
           Option.bind (K_piece_Read (api_Chart.mk r218.1.Start l237) 0) fun r240=>
           Option.bind (K_piece_Read (api_Chart.mk 0 ([]:(List api_Row))) 0) fun r253=>
           Option.bind (K_piece_Read (api_Chart.mk 200 ([]:(List api_Row))) 300) fun r266=>
           Option.bind (K_piece_Read (api_Chart.mk 200 ([]:(List api_Row))) 301) fun r279=>
           Option.bind (K_piece_Check (api_Piece.mk ([]:(List Int)) ([]:(List Int)))) fun r292=>
           if r292 == 8 then
            Option.bind (K_raddlelaw37_step_s0 0 1 1 1) fun r295=>
            Option.bind (K_piece_Check r295) fun r301=>
            if r301 == 8 then
             Option.bind (K_piece_Check (api_Piece.mk ([0]:List Int) ([]:(List Int)))) fun r306=>
             if r306 == 8 then
              Option.bind (makeO 101 (0:Int)) fun m311=>
              Option.bind (K_piece_Check (api_Piece.mk m311 m311)) fun r315=>
              if r100.2 == 16 then
               if r112.2 == 16 then
                if r124.2 == 8 then
                 if r136.2 == 8 then
                  if r144.2 == 8 then
                   if r156.2 == 8 then
                    if r182.2 == 8 then
                     if r194.2 == 2 then
                      if r204.2 == 8 then
                       if r240.2 == 8 then
                        if r253.2 == 8 then
                         Option.bind (α:=Bool) (
                          if r81 == (⟨#[112,32,111,110,52]⟩:ByteArray) then
                           if r88.2 == 0 then
                            Option.bind (K_raddleref37_Same r88.1 (api_Piece.mk ([(-500)]:List Int) ([(-300)]:List Int))) fun r348=>
                            if r348 then
                             if r170.2 == 0 then
                              Option.bind (K_raddleref37_SamePoints r170.1.Left [(api_Point.mk (-2) 0),(api_Point.mk 0 3)]) fun r354=>
                              if r354 then
                               Option.bind (K_raddleref37_SamePoints r170.1.Right [(api_Point.mk 2 0),(api_Point.mk 2 3)]) fun r359=>
                               if r359 then
                                if r315 == 8 then
                                 if r279.2 == 8 then
                                  if r266.2 == 0 then
                                   if (r266.1.Right.length:Int) == 1 then
                                    Option.bind (idxO r266.1.Right 0) fun x366=>
                                    if x366 == 500 then
                                     Option.bind (K_raddlelaw37_alive) fun r372=>
                                     some r372
                                    else
                                     none
                                   else
                                    none
                                  else
                                   none
                                 else
                                  none
                                else
                                 none
                               else
                                none
                              else
                               none
                             else
                              none
                            else
                             none
                           else
                            none
                          else
                           some false) fun o339=>
                         some o339
                        else
                         none
                       else
                        none
                      else
                       none
                     else
                      none
                    else
                     none
                   else
                    none
                  else
                   none
                 else
                  none
                else
                 none
               else
                none
              else
               none
             else
              none
            else
             none
           else
            none
        else
         none
       else
        none
      else
       none
     else
      none
    else
     none
   else
    none
  else
   none
 else
  none
theorem m_F_raddlelaw37_PieceNames :Le (K_raddlelaw37_PieceNames) (F_raddlelaw37_PieceNames):=by
 unfold K_raddlelaw37_PieceNames F_raddlelaw37_PieceNames
 with_reducible repeat' (first | exact m_F_raddlelaw37_step_s0 _ _ _ _ | exact m_F_raddlelaw37_row _ | exact m_F_piece_Make_s0 _ | exact m_F_piece_Measure_s0 _ _ _ | exact m_F_raddlelaw37_made_s0 | exact m_F_piece_Chart_s0 _ | exact m_F_piece_Read _ _ | exact m_F_piece_Check _ | exact m_F_raddleref37_Same _ _ | exact m_F_raddleref37_SamePoints _ _ | exact m_F_raddlelaw37_alive | exact Le.rfl _ | refine Le.loop _ ?_ | refine Le.bind ?_ ?_ | refine Le.ite ?_ ?_ | refine Le.sum ?_ ?_ | refine Le.prod ?_ | intro _ | exact Empty.elim (by assumption) | dsimp only)
set_option maxRecDepth 1000000 in
theorem k_raddlelaw37_PieceNames:F_raddlelaw37_PieceNames=some true:=m_F_raddlelaw37_PieceNames _ (by kernel_rfl)
theorem law_PieceNames:F_raddlelaw37_PieceNames=some true:=k_raddlelaw37_PieceNames
namespace framePieceNames
open Go.ChangeShapes Go.WideShapes Go.ChangeAt Go.Joins
theorem own:ownKnob Tryd.prog.godebug=none:=by kernel_rfl
theorem laidOut:laidOutB Tryd.prog=true:=by kernel_rfl
theorem door_met (os:Os) (args:Array Value):laidMetH Tryd.prog Rows.pieceNamesRow.laid ((World.doorLaid Tryd.prog 400 os).forCall (fun _ _=>0) ⟨#[],args,[]⟩).memory:=
 laidMetH_of_parts3 (fuel:=8) (laidMet_of_run' 8 (by kernel_rfl) (by kernel_rfl)) (by kernel_rfl) (by kernel_rfl)
theorem lifted (os:Os) (started:os.Started) (H:Type) (enc:TypeId × Value→H) :
 ReturnsInHanded {} Tryd.checked os 7 .any (fun w args=>(Rows.pieceNamesSpec.pre enc Tryd.prog Tryd.f7 Rows.pieceNamesRow.domain false w args∧laidMetH Tryd.prog Rows.pieceNamesRow.laid w)∧sizedMet enc Tryd.prog Tryd.f7 (OpenSpec.ofChange Rows.pieceNamesSpec) false w args) (Rows.pieceNamesSpec.post enc Tryd.prog Tryd.f7 false true false false):=by
 refine returnsInHanded_of_change_and (C:=Tryd.checked) (X:=fun w _=>laidMetH Tryd.prog Rows.pieceNamesRow.laid w) (fun _ _ _ hh h=>h.of_heap hh) own started (by kernel_rfl) Tryd.func7
  (ChangeSpec.witness_shaped (enc:=enc) (C:=Tryd.checked) (os:=os) (X:=fun w _=>laidMetH Tryd.prog Rows.pieceNamesRow.laid w) false (World.doorLaid Tryd.prog 400 os) #[] 8 rfl (World.shaped_of_RefB (by kernel_rfl) (by kernel_rfl)) (by kernel_rfl) (by kernel_rfl) (by kernel_rfl) (door_met os _)) ?_
 intro W base args ds gs before hval0 hW _ _ _ _
 have hval:∀ (j:Nat) t v,Tryd.f7.params[j]?=some t→args[j]?=some v→Value.okWide Tryd.prog W .any base t v:=hval0
 have hW':=hW
 obtain ⟨p,q,hA0,hV,rfl,hfz,hnd⟩:=hW
 have hA:DataW.TrodAll enc Tryd.prog W 0 (fun _=>true) true Tryd.f7.params.toList args.toList ds p:=hA0
 rw [Tryd.params7] at hA hval
 obtain ⟨rfl,rfl,rfl⟩:=trodAll_none hA
 obtain ⟨rfl,rfl⟩:=trodVars_none hV
 clear hA0 hval0
 refine (c_raddlelaw37_PieceNames (fun _=>False) W  true (law_PieceNames  ) (St0.start (by intro d hd; cases hd))).mono fun e W' hr=>?_
 obtain ⟨_,he,hS⟩:=hr
 have bel:=hS.chg.below
 subst he
 exact ⟨_,rfl,_,_,_,[],_,[],hW',trodAll_mk1 (shut_bool Tryd.underlying4 _),trodAll_mk0,rfl,bel.frame _,fun h=>by cases h⟩
theorem over:Rows.pieceNamesRow.holds Tryd.pinned (OpenSpec.ofChange Rows.pieceNamesSpec):=
 OpenClaim.holds_of_wide 7 Tryd.f7 rfl rfl rfl rfl rfl rfl rfl ⟨rfl,rfl,rfl,rfl,rfl⟩ rfl rfl rfl rfl rfl (by kernel_rfl) Tryd.func7 (by kernel_rfl)
  (of_decide_eq_true (by kernel_rfl)) (by unfold Func.isWrapper; first | (rw [if_pos (by decide +kernel)]; kernel_rfl) | (rw [if_neg (by decide +kernel)]; exact ⟨rfl,rfl⟩))
  (fun os started H enc _=>lifted os started H enc)
theorem card:Rows.PieceNamesCardSaid:=
 Claim7.holds_tied_plain_at .later [] [.data, .data, .data] true (true, "307e61196d3f4886c0049f613c394b681f3254770779ea132fb8ea05f59173ca") false
  over (fun _ h=>by cases h) (by kernel_rfl) (fun _ h=>by cases h) pieceNames_row_tie rfl ⟨rfl,rfl⟩ (by kernel_rfl) rfl
  (fun f fn hf hfn=>by
   obtain rfl : f = 7 := Option.some.inj ((show Tryd.prog.funcNamed "raddle/raddlelaw37.PieceNames" = some 7 by kernel_rfl).symm.trans hf) |>.symm
   obtain rfl:fn=Tryd.f7:=(Option.some.inj (Tryd.func7.symm.trans hfn)).symm
   exact ⟨by kernel_rfl,fun j t ht=>by
    rw [Tryd.params7] at ht
    simp at ht⟩)
  (by kernel_rfl)
end framePieceNames
theorem pieceNames_holds:Rows.PieceNamesCardSaid:=framePieceNames.card
end Go.Proofs.YtmedbnjhgkcndaaDoor
